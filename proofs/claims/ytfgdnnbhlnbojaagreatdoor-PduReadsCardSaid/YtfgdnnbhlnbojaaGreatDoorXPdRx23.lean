-- Laid by extprint.py (the session's own driver): functions told by the kit's printer and by hand.
import Derived.Test.YtfgdnnbhlnbojaaGreatDoorXPdRx0
import Derived.Test.YtfgdnnbhlnbojaaGreatDoorXPdRx18
import Derived.Test.YtfgdnnbhlnbojaaGreatDoorXPdRx20
import Derived.Test.YtfgdnnbhlnbojaaGreatDoorXPdRx22
namespace Go.Proofs.YtfgdnnbhlnbojaaGreatDoor.XPdR
open Go.RowKit Gong Go.Proofs.YtfgdnnbhlnbojaaGreatDoorW.PrintWords Go.Proofs.YtfgdnnbhlnbojaaGreatDoorW.PrintLast Go.Proofs.YtfgdnnbhlnbojaaGreatDoorW.PrintMore
attribute [local go_sem] max2_int min2_int max_two min_two max_three min_three max_four min_four   -- for this text's walks alone
set_option linter.unusedVariables false
set_option linter.unusedSimpArgs false
def gongref08_bind.j0 : Nat → List (S50) → Bool → Option (ByteArray × Int × Int × ByteArray × Bool)
 | 0, _, _ => none
 | k + 1, x4, x34 => if x34 = true then (some ((⟨#[]⟩ : ByteArray), 0, 0, (⟨#[]⟩ : ByteArray), false)) else (if 0 < (x4.length : Int) then ((gongref06_Decode.f k ((rd_T50 x4 0).f1)).bind fun bt324 => (if 1 < (x4.length : Int) then ((gongref07_Decode.f k ((rd_T50 x4 1).f0) ((rd_T50 x4 1).f1)).bind fun bt328 => (if bt324.2 = 0 then (some (bt324.1, bt328.1, bt328.2.1, bt328.2.2.1, (bt328.2.2.2 == 0))) else (some (bt324.1, bt328.1, bt328.2.1, bt328.2.2.1, false)))) else (none))) else (none))
def gongref08_bind.f (k : Nat) (a0_0 : Int) (a0_1 : ByteArray) : Option (ByteArray × Int × Int × ByteArray × Bool) := (gongref05_Parts.f k a0_1).bind fun bt318 => (if a0_0 = 48 then (if bt318.2 = 0 then (if (bt318.1.length : Int) = 2 then (if 0 < (bt318.1.length : Int) then (gongref08_bind.j0 k bt318.1 (((rd_T50 bt318.1 0).f0) != 6)) else (none)) else (gongref08_bind.j0 k bt318.1 true)) else (gongref08_bind.j0 k bt318.1 true)) else (gongref08_bind.j0 k bt318.1 true))
theorem gongref08_bind.mono_l : ∀ k, (∀ y0 y1, LeO (gongref08_bind.j0 k y0 y1) (gongref08_bind.j0 (k + 1) y0 y1))
 | 0 => fun _ _ r h => by simp [gongref08_bind.j0] at h
 | k + 1 => by
  have ih0 := gongref08_bind.mono_l k
  ·intro y0 y1
   unfold gongref08_bind.j0
   repeat' first
   | (with_reducible exact ih0 _ _)
   | (with_reducible exact gongref05_Parts.mono _ _)
   | (with_reducible exact gongref06_Decode.mono _ _)
   | (with_reducible exact gongref07_Decode.mono _ _ _)
   | (with_reducible exact LeO.refl _)
   | (with_reducible exact LeO.none _)
   | (with_reducible refine LeO.ite ?_ ?_)
   | (with_reducible refine LeO.bind ?_ (fun _ => ?_))
   | exact ih0 _ _
   | exact gongref05_Parts.mono _ _
   | exact gongref06_Decode.mono _ _
   | exact gongref07_Decode.mono _ _ _
   | exact LeO.none _
   | refine LeO.ite ?_ ?_
   | refine LeO.bind ?_ (fun _ => ?_)
theorem gongref08_bind.mono : ∀ a0 a1 k, LeO (gongref08_bind.f k a0 a1) (gongref08_bind.f (k + 1) a0 a1) := by
 intro a0 a1 k
 have ih0 := gongref08_bind.mono_l k
 unfold gongref08_bind.f
 repeat' first
   | (with_reducible exact ih0 _ _)
   | (with_reducible exact gongref05_Parts.mono _ _)
   | (with_reducible exact gongref06_Decode.mono _ _)
   | (with_reducible exact gongref07_Decode.mono _ _ _)
   | (with_reducible exact LeO.refl _)
   | (with_reducible exact LeO.none _)
   | (with_reducible refine LeO.ite ?_ ?_)
   | (with_reducible refine LeO.bind ?_ (fun _ => ?_))
   | exact ih0 _ _
   | exact gongref05_Parts.mono _ _
   | exact gongref06_Decode.mono _ _
   | exact gongref07_Decode.mono _ _ _
   | exact LeO.none _
   | refine LeO.ite ?_ ?_
   | refine LeO.bind ?_ (fun _ => ?_)
def gongref08_bind.T5 : Bool × List (List Nat × List Nat) := (true, [([], []), ([0], [0]), ([1], [1]), ([2], [2]), ([], []), ([4], [4]), ([5], [5]), ([6], [6]), ([3, 7], [3, 7]), ([8], [8]), ([9], [9]), ([9], [9]), ([], []), ([12, 10, 8, 0, 1, 2, 3, 4, 5, 6, 7, 8, 9, 10, 12], [10, 12]), ([11, 13, 0, 1, 2, 3, 4, 5, 6, 7, 8, 9, 10, 11, 12, 13], [11])])
def gongref08_bind.B5 : List Nat := [0, 1, 3, 7, 0, 16, 48, 112, 255, 511, 1023, 1023, 0, 6143, 16383]
theorem gongref08_bind.tab5 : rtab .any (opsOf Tryz.f37 5) = gongref08_bind.T5 := by kernel_rfl
theorem gongref08_bind.bits5 : waitsOk gongref08_bind.T5.2 gongref08_bind.B5 = true := by kernel_rfl
set_option maxHeartbeats 8000000 in
set_option maxRecDepth 100000 in
theorem gongref08_bind.calls (k : Nat) (a0_0 : Int) (a0_1 : ByteArray) (r1 : ByteArray) (r2 : Int) (r3 : Int) (r4 : ByteArray) (r5 : Bool) (w : World) (h : gongref08_bind.f k a0_0 a0_1 = some (r1, r2, r3, r4, r5)) :
  Calls Tryz.prog 37 #[.agg #[.int .i64 a0_0, .string a0_1]] w fun e w' => e = .returned (.tuple #[.agg #[.string r1, .int .i64 r2, .int .i64 r3, .string r4], .bool r5]) ∧ Below w.heap.size w w' := by
 have hu50 := Tryz.underlying50
 have hu30 := Tryz.underlying30
 have hu28 := Tryz.underlying28
 have HB := Aside0.mk (Below.refl w.heap.size w)
 have H : ((gongref05_Parts.f k a0_1).bind fun bt318 => (if a0_0 = 48 then (if bt318.2 = 0 then (if (bt318.1.length : Int) = 2 then (if 0 < (bt318.1.length : Int) then (gongref08_bind.j0 k bt318.1 (((rd_T50 bt318.1 0).f0) != 6)) else (none)) else (gongref08_bind.j0 k bt318.1 true)) else (gongref08_bind.j0 k bt318.1 true)) else (gongref08_bind.j0 k bt318.1 true))) = some (r1, r2, r3, r4, r5) := h
 clear h
 replace H := Option.bind_eq_some_iff.mp H
 obtain ⟨⟨t318, t319⟩, A20, H⟩ := H
 replace H : (if a0_0 = 48 then (if t319 = 0 then (if (t318.length : Int) = 2 then (if 0 < (t318.length : Int) then (gongref08_bind.j0 k t318 (((rd_T50 t318 0).f0) != 6)) else (none)) else (gongref08_bind.j0 k t318 true)) else (gongref08_bind.j0 k t318 true)) else (gongref08_bind.j0 k t318 true)) = some (r1, r2, r3, r4, r5) := H
 have A2 := Aside0.mk A20
 clear A20
 have HC3 := Aside0.mk H
 clear H
 go_enter Tryz.func37, Tryz.ntmps37
 go_upto_region 2 with (first | ((with_reducible refine gate_dst (N := 1) rfl ?_); (try (refine gate_guard (by rfl) ?_; dsimp only)); refine box_event ?hg (N := 1) ?hd (cs := #[.int .i64 a0_0, .string a0_1]) (t := 50) ?hr ?_; (case hd => rfl); (case hg => rfl); (case hr => exact Zq2); intro gb316 hg w4 hbox hb; have BK316 := Aside0.mk (hbox); have GW316 := Aside0.mk ((by rw [hg]; exact (below_size Zq12) : w.heap.size ≤ gb316)); have GE316 := Aside0.mk ((by rw [hg]; exact (below_size Zq12) : w.heap.size ≤ gb316)); replace HB := Aside0.mk (below_step Zq12 hb); clear hb hbox hg) | ((with_reducible refine gate_dst (N := 2) rfl ?_); (try (refine gate_guard (by rfl) ?_; dsimp only)); refine box_event ?hg (N := 2) ?hd (cs := #[.string (⟨#[]⟩ : ByteArray), .int .i64 0, .int .i64 0, .string (⟨#[]⟩ : ByteArray)]) (t := 30) ?hr ?_; (case hd => rfl); (case hg => rfl); (case hr => exact Zq2); intro gb317 hg w5 hbox hb; have BK317 := Aside0.mk (hbox); have GW317 := Aside0.mk ((by rw [hg]; exact (below_size Zq24) : w.heap.size ≤ gb317)); have GE317 := Aside0.mk ((by rw [hg]; exact (below_size Zq24) : w.heap.size ≤ gb317)); have NB316_317 := Aside0.mk ((by rw [hg]; exact Nat.ne_of_lt (blk_lt (g := gb316) (o := .cells #[.int .i64 a0_0, .string a0_1] 50 (0, 0)) Zq31) : gb316 ≠ gb317)); have NB317_316 := Aside0.mk ((by rw [hg]; exact Nat.ne_of_gt (blk_lt (g := gb316) (o := .cells #[.int .i64 a0_0, .string a0_1] 50 (0, 0)) Zq31) : gb317 ≠ gb316)); replace BK316 := Aside0.mk (blkb_ BK316.out Zq31 hb); replace HB := Aside0.mk (below_step Zq24 hb); clear hb hbox hg; have hnb6 := NB316_317.out; have hnc6 := NB317_316.out; obtain ⟨hcz7_0, hcz7_1⟩ := cells2_ BK316.out; obtain ⟨hfz7_0, hfz7_1⟩ := frozen2_ BK316.out) | ((with_reducible refine gate_callee (f := 35) rfl ?_); refine goesL_ (some 13) rfl rfl Tryz.func35 (by kernel_rfl) rfl #[.string a0_1] rfl Zq13 ?_; (with_reducible refine (gongref05_Parts.calls k a0_1 t318 t319 _ A2.out).mono ?_); rintro e w8 ⟨v320, rfl, ho0, hb⟩; refine ⟨_, rfl, ?_⟩; have HO321 := Aside0.mk (Kd.R_lower (Kd.R_newB ho0 (g := gb316) (o := .cells #[.int .i64 a0_0, .string a0_1] 50 (0, 0)) Zq31) (below_size Zq39)); replace BK316 := Aside0.mk (blkb_ BK316.out Zq31 hb); replace BK317 := Aside0.mk (blk_below (g := gb317) (o := .cells #[.string (⟨#[]⟩ : ByteArray), .int .i64 0, .int .i64 0, .string (⟨#[]⟩ : ByteArray)] 30 (0, 0)) Zq31 hb); replace HB := Aside0.mk (below_step Zq39 hb); (try clear hb); (try clear hb2); (try clear hk); (try clear hi); (try clear ho0)))
 (try simp only [Act.put, List.setIfInBounds_toArray, List.set_cons_zero, List.set_cons_succ])
 go_cut [34] (fun v34 wc => ∃ (kq : Nat) (x34_2 : Bool), v34 = .bool x34_2 ∧ Aside0 (gongref08_bind.j0 kq t318 x34_2 = some (r1, r2, r3, r4, r5)) ∧ Aside0 (kq ≤ k) ∧ Aside0 (Kd.R k50 50 wc w.heap.size (fun k_ => k_ ≠ gb316) v320 t318) ∧ Aside0 (wc.heap[gb316]? = some (.cells #[.int .i64 a0_0, .string a0_1] 50 (0, 0))) ∧ Aside0 (wc.heap[gb317]? = some (.cells #[.string (⟨#[]⟩ : ByteArray), .int .i64 0, .int .i64 0, .string (⟨#[]⟩ : ByteArray)] 30 (0, 0))) ∧ Aside0 (Below w.heap.size w wc))
 case first =>
  have H := HC3.out
  clear HC3
  by_cases c9 : a0_0 = 48
  ·rw [if_pos c9] at H
   have c9b0 : (a0_0 == 48) = true := beq_iff_eq.mpr c9
   have c9b1 : (a0_0 != 48) = false := bne_eq_false_iff_eq.mpr c9
   clear c9
   (first | rw [c9b0] | (simp only [i64_w, i32_w]; rw [c9b0]) | skip)
   by_cases c10 : t319 = 0
   ·rw [if_pos c10] at H
    have c10b0 : (t319 == 0) = true := beq_iff_eq.mpr c10
    have c10b1 : (t319 != 0) = false := bne_eq_false_iff_eq.mpr c10
    clear c10
    by_cases c11 : (t318.length : Int) = 2
    ·rw [if_pos c11] at H
     have c11b0 : ((t318.length : Int) == 2) = true := beq_iff_eq.mpr c11
     have c11b1 : ((t318.length : Int) != 2) = false := bne_eq_false_iff_eq.mpr c11
     clear c11
     by_cases c12 : 0 < (t318.length : Int)
     ·rw [if_pos c12] at H
      have c12b0 : decide (0 < (t318.length : Int)) = true := decide_eq_true c12
      have c12b1 : decide (0 < t318.length) = true := decide_eq_true (by omega)
      clear c12
      have H' := Aside0.mk H
      clear H
      have hnb13 := NB316_317.out
      have hnc13 := NB317_316.out
      obtain ⟨hcz14_0, hcz14_1⟩ := cells2_ BK316.out
      obtain ⟨hfz14_0, hfz14_1⟩ := frozen2_ BK316.out
      obtain ⟨Ao15, co15, eo15⟩ := Kd.R_slice HO321.out
      subst eo15
      have p322 : 0 ≤ (0 : Int) := (by omega)
      have q322 : 0 < (t318.length : Int) := of_decide_eq_true Zq1
      obtain ⟨ad322, e322, hx322_0, hx322_1⟩ := at_T50 (Kd.R_reads' HO321.out).2.2 0 p322 q322
      cases e322
      have qi322 : (0 < t318.length) = True := eq_true (by omega)
      (try rw [show ((0 : Int)).toNat = 0 from rfl] at hx322_0)
      (try rw [show 0 * 2 = 0 from rfl] at hx322_0)
      (try rw [Addr.add_zero'] at hx322_0)
      (try rw [show ((0 : Int)).toNat = 0 from rfl] at hx322_1)
      (try rw [show 0 * 2 = 0 from rfl] at hx322_1)
      (try rw [Addr.add_zero'] at hx322_1)
      replace p322 := eq_true p322
      replace q322 := eq_true q322
      go_wp2
      go_meet
      case rel => exact ⟨_, ((((rd_T50 t318 0).f0) != 6)), Zq11, H', ⟨Zy61⟩, ⟨Zy38⟩, ⟨Zy47⟩, ⟨Zy48⟩, ⟨Zy10⟩⟩
     ·rw [if_neg c12] at H
      exact absurd H (by simp)
    ·rw [if_neg c11] at H
     have c11b0 : ((t318.length : Int) == 2) = false := beq_eq_false_iff_ne.mpr c11
     have c11b1 : ((t318.length : Int) != 2) = true := bne_iff_ne.mpr c11
     have H' := Aside0.mk H
     clear H
     have hnb16 := NB316_317.out
     have hnc16 := NB317_316.out
     obtain ⟨hcz17_0, hcz17_1⟩ := cells2_ BK316.out
     obtain ⟨hfz17_0, hfz17_1⟩ := frozen2_ BK316.out
     obtain ⟨Ao18, co18, eo18⟩ := Kd.R_slice HO321.out
     subst eo18
     go_wp2
     go_meet
     case rel => exact ⟨_, (true), Zq11, H', ⟨Zy61⟩, ⟨Zy38⟩, ⟨Zy47⟩, ⟨Zy48⟩, ⟨Zy10⟩⟩
   ·rw [if_neg c10] at H
    have c10b0 : (t319 == 0) = false := beq_eq_false_iff_ne.mpr c10
    have c10b1 : (t319 != 0) = true := bne_iff_ne.mpr c10
    have H' := Aside0.mk H
    clear H
    have hnb19 := NB316_317.out
    have hnc19 := NB317_316.out
    obtain ⟨hcz20_0, hcz20_1⟩ := cells2_ BK316.out
    obtain ⟨hfz20_0, hfz20_1⟩ := frozen2_ BK316.out
    go_wp2
    go_meet
    case rel => exact ⟨_, (true), Zq11, H', ⟨Zy61⟩, ⟨Zy38⟩, ⟨Zy47⟩, ⟨Zy48⟩, ⟨Zy10⟩⟩
  ·rw [if_neg c9] at H
   have c9b0 : (a0_0 == 48) = false := beq_eq_false_iff_ne.mpr c9
   have c9b1 : (a0_0 != 48) = true := bne_iff_ne.mpr c9
   (first | rw [c9b0] | (simp only [i64_w, i32_w]; rw [c9b0]) | skip)
   have H' := Aside0.mk H
   clear H
   have hnb21 := NB316_317.out
   have hnc21 := NB317_316.out
   obtain ⟨hcz22_0, hcz22_1⟩ := cells2_ BK316.out
   obtain ⟨hfz22_0, hfz22_1⟩ := frozen2_ BK316.out
   go_wp2
   go_meet
   case rel => exact ⟨_, (true), Zq11, H', ⟨Zy61⟩, ⟨Zy38⟩, ⟨Zy47⟩, ⟨Zy48⟩, ⟨Zy10⟩⟩
 case rest =>
  clear HC3
  (try clear c1); (try clear c2); (try clear p2); (try clear c3); (try clear p3); (try clear q3); (try clear hx3); (try clear qi3); (try clear c6); (try clear c9); (try clear c9b0); (try clear c9b1); (try clear c10); (try clear c10b0); (try clear c10b1); (try clear c11); (try clear c11b0); (try clear c11b1); (try clear c12); (try clear c12b0); (try clear c12b1); (try clear c13); (try clear c16); (try clear c19); (try clear c21); (try clear hcz14_0); (try clear hcz14_1); (try clear hcz17_0); (try clear hcz17_1); (try clear hcz20_0); (try clear hcz20_1); (try clear hcz22_0); (try clear hcz22_1); (try clear hcz7_0); (try clear hcz7_1); (try clear hfz14_0); (try clear hfz14_1); (try clear hfz17_0); (try clear hfz17_1); (try clear hfz20_0); (try clear hfz20_1); (try clear hfz22_0); (try clear hfz22_1); (try clear hfz7_0); (try clear hfz7_1); (try clear hx322_0); (try clear hx322_1); (try clear p322); (try clear q322)
  obtain ⟨kq, x34_2, rfl, HA, HJ2, HO_4, BK316, BK317, HB⟩ := hcut
  cases kq with
  | zero => exact absurd HA.out (by simp [gongref08_bind.j0])
  | succ kj2 =>
   have H := HA.out
   clear HA
   simp only [gongref08_bind.j0] at H
   by_cases c23 : x34_2 = true
   ·subst c23
    have H1 : (some ((⟨#[]⟩ : ByteArray), 0, 0, (⟨#[]⟩ : ByteArray), false)) = some (r1, r2, r3, r4, r5) := by rw [if_pos rfl] at H; exact H
    clear H
    have H := H1
    clear H1
    simp only [Option.some.injEq, Prod.mk.injEq] at H
    obtain ⟨rfl, rfl, rfl, rfl, rfl⟩ := H
    have hnb24 := NB317_316.out
    have hnc24 := NB316_317.out
    obtain ⟨hcz25_0, hcz25_1, hcz25_2, hcz25_3⟩ := cells4_ BK317.out
    obtain ⟨hfz25_0, hfz25_1, hfz25_2, hfz25_3⟩ := frozen4_ BK317.out
    go_wp2
    refine bodyPost_ret (results_ct rfl _ _ gb317 30 #[.string (⟨#[]⟩ : ByteArray), .int .i64 0, .int .i64 0, .string (⟨#[]⟩ : ByteArray)] (0, 0) _ rfl Zq47 Tryz.underlying30 rfl (by kernel_rfl)) rfl ?_
    exact ⟨Zy41, Zy10⟩
   ·replace c23 := Bool.eq_false_iff.mpr c23
    subst c23
    have H1 : (if 0 < (t318.length : Int) then ((gongref06_Decode.f kj2 ((rd_T50 t318 0).f1)).bind fun bt324 => (if 1 < (t318.length : Int) then ((gongref07_Decode.f kj2 ((rd_T50 t318 1).f0) ((rd_T50 t318 1).f1)).bind fun bt328 => (if bt324.2 = 0 then (some (bt324.1, bt328.1, bt328.2.1, bt328.2.2.1, (bt328.2.2.2 == 0))) else (some (bt324.1, bt328.1, bt328.2.1, bt328.2.2.1, false)))) else (none))) else (none)) = some (r1, r2, r3, r4, r5) := by rw [if_neg (show ¬ (false = true) by decide)] at H; exact H
    clear H
    have H := H1
    clear H1
    by_cases c26 : 0 < (t318.length : Int)
    ·rw [if_pos c26] at H
     have c26b0 : decide (0 < (t318.length : Int)) = true := decide_eq_true c26
     have c26b1 : decide (0 < t318.length) = true := decide_eq_true (by omega)
     clear c26
     replace H := Option.bind_eq_some_iff.mp H
     obtain ⟨⟨t324, t325⟩, A270, H⟩ := H
     replace H : (if 1 < (t318.length : Int) then ((gongref07_Decode.f kj2 ((rd_T50 t318 1).f0) ((rd_T50 t318 1).f1)).bind fun bt328 => (if t325 = 0 then (some (t324, bt328.1, bt328.2.1, bt328.2.2.1, (bt328.2.2.2 == 0))) else (some (t324, bt328.1, bt328.2.1, bt328.2.2.1, false)))) else (none)) = some (r1, r2, r3, r4, r5) := H
     have A27 := Aside0.mk A270
     clear A270
     by_cases c28 : 1 < (t318.length : Int)
     ·rw [if_pos c28] at H
      have c28b0 : decide (1 < (t318.length : Int)) = true := decide_eq_true c28
      have c28b1 : decide (1 < t318.length) = true := decide_eq_true (by omega)
      clear c28
      replace H := Option.bind_eq_some_iff.mp H
      obtain ⟨⟨t328, t329, t330, t331⟩, A290, H⟩ := H
      replace H : (if t325 = 0 then (some (t324, t328, t329, t330, (t331 == 0))) else (some (t324, t328, t329, t330, false))) = some (r1, r2, r3, r4, r5) := H
      have A29 := Aside0.mk A290
      clear A290
      by_cases c30 : t325 = 0
      ·rw [if_pos c30] at H
       have c30b0 : (t325 == 0) = true := beq_iff_eq.mpr c30
       have c30b1 : (t325 != 0) = false := bne_eq_false_iff_eq.mpr c30
       clear c30
       simp only [Option.some.injEq, Prod.mk.injEq] at H
       obtain ⟨rfl, rfl, rfl, rfl, rfl⟩ := H
       obtain ⟨Ao31, co31, eo31⟩ := Kd.R_slice HO_4.out
       subst eo31
       have p323 : 0 ≤ (0 : Int) := (by omega)
       have q323 : 0 < (t318.length : Int) := of_decide_eq_true Zq1
       obtain ⟨ad323, e323, hx323_0, hx323_1⟩ := at_T50 (Kd.R_reads' HO_4.out).2.2 0 p323 q323
       cases e323
       have qi323 : (0 < t318.length) = True := eq_true (by omega)
       (try rw [show ((0 : Int)).toNat = 0 from rfl] at hx323_0)
       (try rw [show 0 * 2 = 0 from rfl] at hx323_0)
       (try rw [Addr.add_zero'] at hx323_0)
       (try rw [show ((0 : Int)).toNat = 0 from rfl] at hx323_1)
       (try rw [show 0 * 2 = 0 from rfl] at hx323_1)
       (try rw [Addr.add_zero'] at hx323_1)
       replace p323 := eq_true p323
       replace q323 := eq_true q323
       try go_wp2_with (first | ((with_reducible refine gate_callee (f := 59) rfl ?_); refine goesL_ (some 41) rfl rfl Tryz.func59 (by kernel_rfl) rfl #[.string ((rd_T50 t318 0).f1)] rfl Zq13 ?_; (with_reducible refine (gongref06_Decode.calls kj2 ((rd_T50 t318 0).f1) t324 t325 _ A27.out).mono ?_); rintro e w32 ⟨rfl, hb⟩; refine ⟨_, rfl, ?_⟩; replace HO_4 := Aside0.mk (Kd.R_below Zq6 hb); replace BK316 := Aside0.mk (blkb_ BK316.out Zq31 hb); replace BK317 := Aside0.mk (blk_below (g := gb317) (o := .cells #[.string (⟨#[]⟩ : ByteArray), .int .i64 0, .int .i64 0, .string (⟨#[]⟩ : ByteArray)] 30 (0, 0)) Zq31 hb); replace HB := Aside0.mk (below_step Zq39 hb); (try clear hb); (try clear hb2); (try clear hk); (try clear hi)))
       replace HO_4 := Aside0.mk (Kd.R_drew HO_4.out)
       replace BK316 := Aside0.mk (blk_drew BK316.out)
       replace BK317 := Aside0.mk (blk_drew BK317.out)
       replace HB := Aside0.mk (below_drew1 HB.out)
       have p326 : 0 ≤ (1 : Int) := (by omega)
       have q326 : 1 < (t318.length : Int) := of_decide_eq_true Zq1
       obtain ⟨ad326, e326, hx326_0, hx326_1⟩ := at_T50 (Kd.R_reads' HO_4.out).2.2 1 p326 q326
       obtain rfl : ad323 = ad326 := (by injection e326)
       (try simp only [show (1 : Int).toNat = 1 from rfl, Nat.reduceMul, Nat.reduceEqDiff, Go.Addr.add, ↓reduceIte] at hx326_0)
       (try simp only [show (1 : Int).toNat = 1 from rfl, Nat.reduceMul, Nat.reduceEqDiff, Go.Addr.add, ↓reduceIte] at hx326_1)
       have qi326 : (1 < t318.length) = True := eq_true (by omega)
       (try rw [show ((1 : Int)).toNat = 1 from rfl] at hx326_0)
       (try rw [show 1 * 2 = 2 from rfl] at hx326_0)
       (try rw [show ((1 : Int)).toNat = 1 from rfl] at hx326_1)
       (try rw [show 1 * 2 = 2 from rfl] at hx326_1)
       replace p326 := eq_true p326
       replace q326 := eq_true q326
       have p327 : 0 ≤ (1 : Int) := (by omega)
       have q327 : 1 < (t318.length : Int) := of_decide_eq_true Zq1
       obtain ⟨ad327, e327, hx327_0, hx327_1⟩ := at_T50 (Kd.R_reads' HO_4.out).2.2 1 p327 q327
       obtain rfl : ad323 = ad327 := (by injection e327)
       (try simp only [show (1 : Int).toNat = 1 from rfl, Nat.reduceMul, Nat.reduceEqDiff, Go.Addr.add, ↓reduceIte] at hx327_0)
       (try simp only [show (1 : Int).toNat = 1 from rfl, Nat.reduceMul, Nat.reduceEqDiff, Go.Addr.add, ↓reduceIte] at hx327_1)
       have qi327 : (1 < t318.length) = True := eq_true (by omega)
       (try rw [show ((1 : Int)).toNat = 1 from rfl] at hx327_0)
       (try rw [show 1 * 2 = 2 from rfl] at hx327_0)
       (try rw [show ((1 : Int)).toNat = 1 from rfl] at hx327_1)
       (try rw [show 1 * 2 = 2 from rfl] at hx327_1)
       replace p327 := eq_true p327
       replace q327 := eq_true q327
       refine start_ (n := 15) (S := fun w' => w'.cell? ⟨ad323.block, ad323.off + 2, none⟩ = some (.int .i64 ((rd_T50 t318 1).f0)) ∧ w'.cell? ⟨ad323.block, ad323.off + 2 + 1, none⟩ = some (.string ((rd_T50 t318 1).f1)) ∧ w'.cell? ⟨ad323.block, ad323.off + 2, none⟩ = some (.int .i64 ((rd_T50 t318 1).f0)) ∧ w'.cell? ⟨ad323.block, ad323.off + 2 + 1, none⟩ = some (.string ((rd_T50 t318 1).f1))) (ds := []) #[false, false, false, false, false, false, false, false, false, false, false, false, false, false, false] (by kernel_rfl) rfl rfl ⟨hx326_0, hx326_1, hx327_0, hx327_1⟩ (fun hHeld => ?_); refine with_tabW gongref08_bind.tab5 gongref08_bind.bits5 (fun HT_ HW_ => ?_)
       generalize w32.drew = w33 at HO_4 BK316 BK317 HB hx326_0 hx326_1 hx327_0 hx327_1 hHeld ⊢
       refine pz_ 0 45 ?_
       refine pz_ 1 46 ?_
       refine pz_ 2 47 ?_
       refine pz_ 4 49 ?_
       refine pz_ 5 50 ?_
       refine pz_ 6 51 ?_
       refine tz_ 3 48 hHeld ?_
       refine tz_ 7 52 hHeld ?_
       refine join_ (σ := Nat) 2 #[true, true, true, true, true, true, true, true, true, true, true, true, true, false, false] (fun s_ => [(53, .tuple #[.agg #[.int .i64 t328, .int .i64 t329, .string t330], .int .i64 t331]), (8, .pointer (some ⟨s_, 0, none⟩)), (44, .tuple #[.agg #[.int .i64 t328, .int .i64 t329, .string t330], .int .i64 t331]), (54, .agg #[.int .i64 t328, .int .i64 t329, .string t330]), (55, .int .i64 t331)]) (fun s_ w' => (w'.cell? ⟨ad323.block, ad323.off + 2, none⟩ = some (.int .i64 ((rd_T50 t318 1).f0)) ∧ w'.cell? ⟨ad323.block, ad323.off + 2 + 1, none⟩ = some (.string ((rd_T50 t318 1).f1)) ∧ w'.cell? ⟨ad323.block, ad323.off + 2, none⟩ = some (.int .i64 ((rd_T50 t318 1).f0)) ∧ w'.cell? ⟨ad323.block, ad323.off + 2 + 1, none⟩ = some (.string ((rd_T50 t318 1).f1))) ∧ (Kd.R k50 50 w' w.heap.size (fun k_ => k_ ≠ gb316) (.slice (some ad323) t318.length co31) t318) ∧ (w'.heap[gb316]? = some (.cells #[.int .i64 a0_0, .string a0_1] 50 (0, 0))) ∧ (w'.heap[gb317]? = some (.cells #[.string (⟨#[]⟩ : ByteArray), .int .i64 0, .int .i64 0, .string (⟨#[]⟩ : ByteArray)] 30 (0, 0))) ∧ (w'.heap[s_]? = some (.cells #[.int .i64 0, .int .i64 0, .string (⟨#[]⟩ : ByteArray)] 28 (0, 0))) ∧ (w.heap.size ≤ s_) ∧ (w.heap.size ≤ s_) ∧ (gb316 ≠ s_) ∧ (s_ ≠ gb316) ∧ (gb317 ≠ s_) ∧ (s_ ≠ gb317) ∧ (Below w.heap.size w w')) ?_ ?_
       rotate_left
       ·intro hCont
        refine two_ (i := 8) (j := 12) (Ni := some 53) (Nj := some 8) #[true, true, true, true, true, true, true, true, true, false, false, false, false, false, false] #[true, true, true, true, true, true, true, true, false, false, false, false, true, false, false] rfl rfl rfl rfl (two_of HT_.out (by kernel_rfl)) (by decide) (by decide) (fun K hK => ?_) (fun K hK => ?_)
        ·skip
         refine goes_ Tryz.func60 (by kernel_rfl) rfl #[.int .i64 ((rd_T50 t318 1).f0), .string ((rd_T50 t318 1).f1)] (by rfl) rfl rfl Zq13 ?_
         with_reducible refine (gongref07_Decode.calls kj2 ((rd_T50 t318 1).f0) ((rd_T50 t318 1).f1) t328 t329 t330 t331 _ A29.out).mono ?_
         rintro e w34 ⟨rfl, hb⟩
         have HS0_ := (hb.cell (World.block_lt_of_cell? _ _ (hHeld.1))).trans (hHeld.1)
         have HS1_ := (hb.cell (World.block_lt_of_cell? _ _ (hHeld.2.1))).trans (hHeld.2.1)
         have HS2_ := (hb.cell (World.block_lt_of_cell? _ _ (hHeld.2.2.1))).trans (hHeld.2.2.1)
         have HS3_ := (hb.cell (World.block_lt_of_cell? _ _ (hHeld.2.2.2))).trans (hHeld.2.2.2)
         refine ⟨_, rfl, ?_⟩
         replace HO_4 := Aside0.mk (Kd.R_below Zq6 hb)
         replace BK316 := Aside0.mk (blkb_ BK316.out Zq31 hb)
         replace BK317 := Aside0.mk (blk_below (g := gb317) (o := .cells #[.string (⟨#[]⟩ : ByteArray), .int .i64 0, .int .i64 0, .string (⟨#[]⟩ : ByteArray)] 30 (0, 0)) Zq31 hb)
         replace HB := Aside0.mk (below_step Zq39 hb)
         (try clear hb)
         (try clear hb2)
         (try clear hk)
         (try clear hi)
         refine hK.out _ _ ⟨HS0_, HS1_, HS2_, HS3_⟩ (fun hHeld_ => ?_)
         clear hK K hHeld
         have hHeld := hHeld_
         clear hHeld_
         refine nz_ 53 ?_
         refine pz_ 9 44 ?_
         refine pz_ 10 54 ?_
         refine pz_ 11 55 ?_
         refine oz_ 12 8 (fun K hK => ?_)
         refine box_step ?hg (N := 8) ?hd (cs := #[.int .i64 0, .int .i64 0, .string (⟨#[]⟩ : ByteArray)]) (t := 28) ?hr ?_; (case hd => rfl); (case hg => rfl); (case hr => exact Zq2)
         intro gb332 hg w35 hbox hb
         have HS0_ := (hb.cell (World.block_lt_of_cell? _ _ (hHeld.1))).trans (hHeld.1)
         have HS1_ := (hb.cell (World.block_lt_of_cell? _ _ (hHeld.2.1))).trans (hHeld.2.1)
         have HS2_ := (hb.cell (World.block_lt_of_cell? _ _ (hHeld.2.2.1))).trans (hHeld.2.2.1)
         have HS3_ := (hb.cell (World.block_lt_of_cell? _ _ (hHeld.2.2.2))).trans (hHeld.2.2.2)
         have BK332 := Aside0.mk (hbox)
         have GW332 := Aside0.mk ((Zq55 : w.heap.size ≤ gb332))
         have GE332 := Aside0.mk ((Zq55 : w.heap.size ≤ gb332))
         have NB316_332 := Aside0.mk ((Zq58 : gb316 ≠ gb332))
         have NB332_316 := Aside0.mk ((Zq57 : gb332 ≠ gb316))
         have NB317_332 := Aside0.mk ((Zq60 : gb317 ≠ gb332))
         have NB332_317 := Aside0.mk ((Zq59 : gb332 ≠ gb317))
         replace HO_4 := Aside0.mk (Kd.R_below Zq6 hb)
         replace BK316 := Aside0.mk (blkb_ BK316.out Zq31 hb)
         replace BK317 := Aside0.mk (blk_below (g := gb317) (o := .cells #[.string (⟨#[]⟩ : ByteArray), .int .i64 0, .int .i64 0, .string (⟨#[]⟩ : ByteArray)] 30 (0, 0)) Zq31 hb)
         replace HB := Aside0.mk (below_step Zq39 hb)
         clear hb hbox hg
         refine hK.out _ _ ⟨HS0_, HS1_, HS2_, HS3_⟩ (fun hHeld_ => ?_)
         clear hK K hHeld
         have hHeld := hHeld_
         clear hHeld_
         refine nz_ 8 ?_
         exact norm_ Zq4 (hCont (gb332) _ ⟨hHeld, Zq6, Zq31, Zq31, Zq31, GW332.out, GE332.out, NB316_332.out, NB332_316.out, NB317_332.out, NB332_317.out, Zq42⟩)
        ·skip
         refine box_step ?hg (N := 8) ?hd (cs := #[.int .i64 0, .int .i64 0, .string (⟨#[]⟩ : ByteArray)]) (t := 28) ?hr ?_; (case hd => rfl); (case hg => rfl); (case hr => exact Zq2)
         intro gb332 hg w34 hbox hb
         have HS0_ := (hb.cell (World.block_lt_of_cell? _ _ (hHeld.1))).trans (hHeld.1)
         have HS1_ := (hb.cell (World.block_lt_of_cell? _ _ (hHeld.2.1))).trans (hHeld.2.1)
         have HS2_ := (hb.cell (World.block_lt_of_cell? _ _ (hHeld.2.2.1))).trans (hHeld.2.2.1)
         have HS3_ := (hb.cell (World.block_lt_of_cell? _ _ (hHeld.2.2.2))).trans (hHeld.2.2.2)
         have BK332 := Aside0.mk (hbox)
         have GW332 := Aside0.mk ((Zq55 : w.heap.size ≤ gb332))
         have GE332 := Aside0.mk ((Zq55 : w.heap.size ≤ gb332))
         have NB316_332 := Aside0.mk ((Zq58 : gb316 ≠ gb332))
         have NB332_316 := Aside0.mk ((Zq57 : gb332 ≠ gb316))
         have NB317_332 := Aside0.mk ((Zq60 : gb317 ≠ gb332))
         have NB332_317 := Aside0.mk ((Zq59 : gb332 ≠ gb317))
         replace HO_4 := Aside0.mk (Kd.R_below Zq6 hb)
         replace BK316 := Aside0.mk (blkb_ BK316.out Zq31 hb)
         replace BK317 := Aside0.mk (blk_below (g := gb317) (o := .cells #[.string (⟨#[]⟩ : ByteArray), .int .i64 0, .int .i64 0, .string (⟨#[]⟩ : ByteArray)] 30 (0, 0)) Zq31 hb)
         replace HB := Aside0.mk (below_step Zq39 hb)
         clear hb hbox hg
         refine hK.out _ _ ⟨HS0_, HS1_, HS2_, HS3_⟩ (fun hHeld_ => ?_)
         clear hK K hHeld
         have hHeld := hHeld_
         clear hHeld_
         refine nz_ 8 ?_
         refine oz_ 8 53 (fun K hK => ?_)
         refine goes_ Tryz.func60 (by kernel_rfl) rfl #[.int .i64 ((rd_T50 t318 1).f0), .string ((rd_T50 t318 1).f1)] (by rfl) rfl rfl Zq13 ?_
         with_reducible refine (gongref07_Decode.calls kj2 ((rd_T50 t318 1).f0) ((rd_T50 t318 1).f1) t328 t329 t330 t331 _ A29.out).mono ?_
         rintro e w35 ⟨rfl, hb⟩
         have HS0_ := (hb.cell (World.block_lt_of_cell? _ _ (hHeld.1))).trans (hHeld.1)
         have HS1_ := (hb.cell (World.block_lt_of_cell? _ _ (hHeld.2.1))).trans (hHeld.2.1)
         have HS2_ := (hb.cell (World.block_lt_of_cell? _ _ (hHeld.2.2.1))).trans (hHeld.2.2.1)
         have HS3_ := (hb.cell (World.block_lt_of_cell? _ _ (hHeld.2.2.2))).trans (hHeld.2.2.2)
         refine ⟨_, rfl, ?_⟩
         replace HO_4 := Aside0.mk (Kd.R_below Zq6 hb)
         replace BK316 := Aside0.mk (blkb_ BK316.out Zq31 hb)
         replace BK317 := Aside0.mk (blk_below (g := gb317) (o := .cells #[.string (⟨#[]⟩ : ByteArray), .int .i64 0, .int .i64 0, .string (⟨#[]⟩ : ByteArray)] 30 (0, 0)) Zq31 hb)
         replace BK332 := Aside0.mk (blk_below (g := gb332) (o := .cells #[.int .i64 0, .int .i64 0, .string (⟨#[]⟩ : ByteArray)] 28 (0, 0)) Zq31 hb)
         replace HB := Aside0.mk (below_step Zq42 hb)
         (try clear hb)
         (try clear hb2)
         (try clear hk)
         (try clear hi)
         refine hK.out _ _ ⟨HS0_, HS1_, HS2_, HS3_⟩ (fun hHeld_ => ?_)
         clear hK K hHeld
         have hHeld := hHeld_
         clear hHeld_
         refine nz_ 53 ?_
         refine pz_ 9 44 ?_
         refine pz_ 10 54 ?_
         refine pz_ 11 55 ?_
         exact norm_ Zq4 (hCont (gb332) _ ⟨hHeld, Zq6, Zq31, Zq31, Zq31, GW332.out, GE332.out, NB316_332.out, NB332_316.out, NB317_332.out, NB332_317.out, Zq42⟩)
       rintro gb332 w36 ⟨hS_, h0_, h1_, h2_, h3_, h4_, h5_, h6_, h7_, h8_, h9_, h10_⟩
       have n0_ : Aside0 (Kd.R k50 50 w36 w.heap.size (fun k_ => k_ ≠ gb316) (.slice (some ad323) t318.length co31) t318) := ⟨h0_⟩
       have n1_ : Aside0 (w36.heap[gb316]? = some (.cells #[.int .i64 a0_0, .string a0_1] 50 (0, 0))) := ⟨h1_⟩
       have n2_ : Aside0 (w36.heap[gb317]? = some (.cells #[.string (⟨#[]⟩ : ByteArray), .int .i64 0, .int .i64 0, .string (⟨#[]⟩ : ByteArray)] 30 (0, 0))) := ⟨h2_⟩
       have n3_ : Aside0 (w36.heap[gb332]? = some (.cells #[.int .i64 0, .int .i64 0, .string (⟨#[]⟩ : ByteArray)] 28 (0, 0))) := ⟨h3_⟩
       have n4_ : Aside0 (w.heap.size ≤ gb332) := ⟨h4_⟩
       have n5_ : Aside0 (w.heap.size ≤ gb332) := ⟨h5_⟩
       have n6_ : Aside0 (gb316 ≠ gb332) := ⟨h6_⟩
       have n7_ : Aside0 (gb332 ≠ gb316) := ⟨h7_⟩
       have n8_ : Aside0 (gb317 ≠ gb332) := ⟨h8_⟩
       have n9_ : Aside0 (gb332 ≠ gb317) := ⟨h9_⟩
       have n10_ : Aside0 (Below w.heap.size w w36) := ⟨h10_⟩
       clear HO_4
       clear BK316
       clear BK317
       clear HB
       clear h0_ h1_ h2_ h3_ h4_ h5_ h6_ h7_ h8_ h9_ h10_
       have HO_4 := n0_
       have BK316 := n1_
       have BK317 := n2_
       have BK332 := n3_
       have GW332 := n4_
       have GE332 := n5_
       have NB316_332 := n6_
       have NB332_316 := n7_
       have NB317_332 := n8_
       have NB332_317 := n9_
       have HB := n10_
       clear n0_ n1_ n2_ n3_ n4_ n5_ n6_ n7_ n8_ n9_ n10_
       (try clear hHeld)
       have hHeld : w36.cell? ⟨ad323.block, ad323.off + 2, none⟩ = some (.int .i64 ((rd_T50 t318 1).f0)) ∧ w36.cell? ⟨ad323.block, ad323.off + 2 + 1, none⟩ = some (.string ((rd_T50 t318 1).f1)) ∧ w36.cell? ⟨ad323.block, ad323.off + 2, none⟩ = some (.int .i64 ((rd_T50 t318 1).f0)) ∧ w36.cell? ⟨ad323.block, ad323.off + 2 + 1, none⟩ = some (.string ((rd_T50 t318 1).f1)) := hS_
       refine norm_ (a' := ?_) ?_ ?_
       rotate_left
       ·simp only [putAll, Act.put, List.setIfInBounds_toArray, List.set_cons_zero, List.set_cons_succ]
        rfl
       refine one_ (i := 13) (N := none) #[true, true, true, true, true, true, true, true, true, true, true, true, true, true, false] rfl rfl (one_of HT_.out (by kernel_rfl)) (by decide) (fun K hK => ?_)
       have hs37 : w36.cell? ⟨gb332, 0, none⟩ = some (.int .i64 0) := (blk_cell BK332.out 0).trans rfl
       have hfs37 := blk_frozen BK332.out 0
       have hns37_0 := NB316_332.out
       have hns37_1 := NB317_332.out
       have hms37_0 := NB332_316.out
       have hms37_1 := NB332_317.out
       have hs38 : w36.cell? ⟨gb332, 1, none⟩ = some (.int .i64 0) := (blk_cell BK332.out 1).trans rfl
       have hfs38 := blk_frozen BK332.out 1
       have hns38_0 := NB316_332.out
       have hns38_1 := NB317_332.out
       have hms38_0 := NB332_316.out
       have hms38_1 := NB332_317.out
       have hs39 : w36.cell? ⟨gb332, 2, none⟩ = some (.string (⟨#[]⟩ : ByteArray)) := (blk_cell BK332.out 2).trans rfl
       have hfs39 := blk_frozen BK332.out 2
       have hns39_0 := NB316_332.out
       have hns39_1 := NB317_332.out
       have hms39_0 := NB332_316.out
       have hms39_1 := NB332_317.out
       refine skip_ (w1 := ?_) (by rfl) rfl ?_ ?_
       rotate_left
       ·go_simp
        rfl
       refine hK.out _ _ ⟨(by (repeat (with_reducible refine (cell_far (p := ⟨gb332, _, none⟩) Zq48 _).trans ?_)); exact hHeld.1), (by (repeat (with_reducible refine (cell_far (p := ⟨gb332, _, none⟩) Zq48 _).trans ?_)); exact hHeld.2.1), (by (repeat (with_reducible refine (cell_far (p := ⟨gb332, _, none⟩) Zq48 _).trans ?_)); exact hHeld.2.2.1), (by (repeat (with_reducible refine (cell_far (p := ⟨gb332, _, none⟩) Zq48 _).trans ?_)); exact hHeld.2.2.2)⟩ (fun hHeld_ => ?_)
       clear hK K hHeld
       have hHeld := hHeld_
       clear hHeld_
       refine pz_ 14 9 ?_
       refine done_ (done_of HT_.out (by kernel_rfl)) ?_
       (try clear hHeld)
       have hnb40 := NB332_316.out
       have hnc40 := NB316_332.out
       have hnb41 := NB332_317.out
       have hnc41 := NB317_332.out
       obtain ⟨hcz42_0, hcz42_1, hcz42_2⟩ := cells3_ BK332.out
       obtain ⟨hfz42_0, hfz42_1, hfz42_2⟩ := frozen3_ BK332.out
       have hnb43 := NB317_316.out
       have hnc43 := NB316_317.out
       obtain ⟨hcz44_0, hcz44_1, hcz44_2, hcz44_3⟩ := cells4_ BK317.out
       obtain ⟨hfz44_0, hfz44_1, hfz44_2, hfz44_3⟩ := frozen4_ BK317.out
       try go_wp2
       refine bodyPost_ret (results_ct rfl _ _ gb317 30 #[.string t324, .int .i64 t328, .int .i64 t329, .string t330] (0, 0) _ rfl Zq47 Tryz.underlying30 rfl (by kernel_rfl)) rfl ?_
       exact ⟨Zy41, Zy3⟩
      ·rw [if_neg c30] at H
       have c30b0 : (t325 == 0) = false := beq_eq_false_iff_ne.mpr c30
       have c30b1 : (t325 != 0) = true := bne_iff_ne.mpr c30
       simp only [Option.some.injEq, Prod.mk.injEq] at H
       obtain ⟨rfl, rfl, rfl, rfl, rfl⟩ := H
       obtain ⟨Ao45, co45, eo45⟩ := Kd.R_slice HO_4.out
       subst eo45
       have p323 : 0 ≤ (0 : Int) := (by omega)
       have q323 : 0 < (t318.length : Int) := of_decide_eq_true Zq1
       obtain ⟨ad323, e323, hx323_0, hx323_1⟩ := at_T50 (Kd.R_reads' HO_4.out).2.2 0 p323 q323
       cases e323
       have qi323 : (0 < t318.length) = True := eq_true (by omega)
       (try rw [show ((0 : Int)).toNat = 0 from rfl] at hx323_0)
       (try rw [show 0 * 2 = 0 from rfl] at hx323_0)
       (try rw [Addr.add_zero'] at hx323_0)
       (try rw [show ((0 : Int)).toNat = 0 from rfl] at hx323_1)
       (try rw [show 0 * 2 = 0 from rfl] at hx323_1)
       (try rw [Addr.add_zero'] at hx323_1)
       replace p323 := eq_true p323
       replace q323 := eq_true q323
       try go_wp2_with (first | ((with_reducible refine gate_callee (f := 59) rfl ?_); refine goesL_ (some 41) rfl rfl Tryz.func59 (by kernel_rfl) rfl #[.string ((rd_T50 t318 0).f1)] rfl Zq13 ?_; (with_reducible refine (gongref06_Decode.calls kj2 ((rd_T50 t318 0).f1) t324 t325 _ A27.out).mono ?_); rintro e w46 ⟨rfl, hb⟩; refine ⟨_, rfl, ?_⟩; replace HO_4 := Aside0.mk (Kd.R_below Zq6 hb); replace BK316 := Aside0.mk (blkb_ BK316.out Zq31 hb); replace BK317 := Aside0.mk (blk_below (g := gb317) (o := .cells #[.string (⟨#[]⟩ : ByteArray), .int .i64 0, .int .i64 0, .string (⟨#[]⟩ : ByteArray)] 30 (0, 0)) Zq31 hb); replace HB := Aside0.mk (below_step Zq39 hb); (try clear hb); (try clear hb2); (try clear hk); (try clear hi)))
       replace HO_4 := Aside0.mk (Kd.R_drew HO_4.out)
       replace BK316 := Aside0.mk (blk_drew BK316.out)
       replace BK317 := Aside0.mk (blk_drew BK317.out)
       replace HB := Aside0.mk (below_drew1 HB.out)
       have p326 : 0 ≤ (1 : Int) := (by omega)
       have q326 : 1 < (t318.length : Int) := of_decide_eq_true Zq1
       obtain ⟨ad326, e326, hx326_0, hx326_1⟩ := at_T50 (Kd.R_reads' HO_4.out).2.2 1 p326 q326
       obtain rfl : ad323 = ad326 := (by injection e326)
       (try simp only [show (1 : Int).toNat = 1 from rfl, Nat.reduceMul, Nat.reduceEqDiff, Go.Addr.add, ↓reduceIte] at hx326_0)
       (try simp only [show (1 : Int).toNat = 1 from rfl, Nat.reduceMul, Nat.reduceEqDiff, Go.Addr.add, ↓reduceIte] at hx326_1)
       have qi326 : (1 < t318.length) = True := eq_true (by omega)
       (try rw [show ((1 : Int)).toNat = 1 from rfl] at hx326_0)
       (try rw [show 1 * 2 = 2 from rfl] at hx326_0)
       (try rw [show ((1 : Int)).toNat = 1 from rfl] at hx326_1)
       (try rw [show 1 * 2 = 2 from rfl] at hx326_1)
       replace p326 := eq_true p326
       replace q326 := eq_true q326
       have p327 : 0 ≤ (1 : Int) := (by omega)
       have q327 : 1 < (t318.length : Int) := of_decide_eq_true Zq1
       obtain ⟨ad327, e327, hx327_0, hx327_1⟩ := at_T50 (Kd.R_reads' HO_4.out).2.2 1 p327 q327
       obtain rfl : ad323 = ad327 := (by injection e327)
       (try simp only [show (1 : Int).toNat = 1 from rfl, Nat.reduceMul, Nat.reduceEqDiff, Go.Addr.add, ↓reduceIte] at hx327_0)
       (try simp only [show (1 : Int).toNat = 1 from rfl, Nat.reduceMul, Nat.reduceEqDiff, Go.Addr.add, ↓reduceIte] at hx327_1)
       have qi327 : (1 < t318.length) = True := eq_true (by omega)
       (try rw [show ((1 : Int)).toNat = 1 from rfl] at hx327_0)
       (try rw [show 1 * 2 = 2 from rfl] at hx327_0)
       (try rw [show ((1 : Int)).toNat = 1 from rfl] at hx327_1)
       (try rw [show 1 * 2 = 2 from rfl] at hx327_1)
       replace p327 := eq_true p327
       replace q327 := eq_true q327
       refine start_ (n := 15) (S := fun w' => w'.cell? ⟨ad323.block, ad323.off + 2, none⟩ = some (.int .i64 ((rd_T50 t318 1).f0)) ∧ w'.cell? ⟨ad323.block, ad323.off + 2 + 1, none⟩ = some (.string ((rd_T50 t318 1).f1)) ∧ w'.cell? ⟨ad323.block, ad323.off + 2, none⟩ = some (.int .i64 ((rd_T50 t318 1).f0)) ∧ w'.cell? ⟨ad323.block, ad323.off + 2 + 1, none⟩ = some (.string ((rd_T50 t318 1).f1))) (ds := []) #[false, false, false, false, false, false, false, false, false, false, false, false, false, false, false] (by kernel_rfl) rfl rfl ⟨hx326_0, hx326_1, hx327_0, hx327_1⟩ (fun hHeld => ?_); refine with_tabW gongref08_bind.tab5 gongref08_bind.bits5 (fun HT_ HW_ => ?_)
       generalize w46.drew = w47 at HO_4 BK316 BK317 HB hx326_0 hx326_1 hx327_0 hx327_1 hHeld ⊢
       refine pz_ 0 45 ?_
       refine pz_ 1 46 ?_
       refine pz_ 2 47 ?_
       refine pz_ 4 49 ?_
       refine pz_ 5 50 ?_
       refine pz_ 6 51 ?_
       refine tz_ 3 48 hHeld ?_
       refine tz_ 7 52 hHeld ?_
       refine join_ (σ := Nat) 2 #[true, true, true, true, true, true, true, true, true, true, true, true, true, false, false] (fun s_ => [(53, .tuple #[.agg #[.int .i64 t328, .int .i64 t329, .string t330], .int .i64 t331]), (8, .pointer (some ⟨s_, 0, none⟩)), (44, .tuple #[.agg #[.int .i64 t328, .int .i64 t329, .string t330], .int .i64 t331]), (54, .agg #[.int .i64 t328, .int .i64 t329, .string t330]), (55, .int .i64 t331)]) (fun s_ w' => (w'.cell? ⟨ad323.block, ad323.off + 2, none⟩ = some (.int .i64 ((rd_T50 t318 1).f0)) ∧ w'.cell? ⟨ad323.block, ad323.off + 2 + 1, none⟩ = some (.string ((rd_T50 t318 1).f1)) ∧ w'.cell? ⟨ad323.block, ad323.off + 2, none⟩ = some (.int .i64 ((rd_T50 t318 1).f0)) ∧ w'.cell? ⟨ad323.block, ad323.off + 2 + 1, none⟩ = some (.string ((rd_T50 t318 1).f1))) ∧ (Kd.R k50 50 w' w.heap.size (fun k_ => k_ ≠ gb316) (.slice (some ad323) t318.length co45) t318) ∧ (w'.heap[gb316]? = some (.cells #[.int .i64 a0_0, .string a0_1] 50 (0, 0))) ∧ (w'.heap[gb317]? = some (.cells #[.string (⟨#[]⟩ : ByteArray), .int .i64 0, .int .i64 0, .string (⟨#[]⟩ : ByteArray)] 30 (0, 0))) ∧ (w'.heap[s_]? = some (.cells #[.int .i64 0, .int .i64 0, .string (⟨#[]⟩ : ByteArray)] 28 (0, 0))) ∧ (w.heap.size ≤ s_) ∧ (w.heap.size ≤ s_) ∧ (gb316 ≠ s_) ∧ (s_ ≠ gb316) ∧ (gb317 ≠ s_) ∧ (s_ ≠ gb317) ∧ (Below w.heap.size w w')) ?_ ?_
       rotate_left
       ·intro hCont
        refine two_ (i := 8) (j := 12) (Ni := some 53) (Nj := some 8) #[true, true, true, true, true, true, true, true, true, false, false, false, false, false, false] #[true, true, true, true, true, true, true, true, false, false, false, false, true, false, false] rfl rfl rfl rfl (two_of HT_.out (by kernel_rfl)) (by decide) (by decide) (fun K hK => ?_) (fun K hK => ?_)
        ·skip
         refine goes_ Tryz.func60 (by kernel_rfl) rfl #[.int .i64 ((rd_T50 t318 1).f0), .string ((rd_T50 t318 1).f1)] (by rfl) rfl rfl Zq13 ?_
         with_reducible refine (gongref07_Decode.calls kj2 ((rd_T50 t318 1).f0) ((rd_T50 t318 1).f1) t328 t329 t330 t331 _ A29.out).mono ?_
         rintro e w48 ⟨rfl, hb⟩
         have HS0_ := (hb.cell (World.block_lt_of_cell? _ _ (hHeld.1))).trans (hHeld.1)
         have HS1_ := (hb.cell (World.block_lt_of_cell? _ _ (hHeld.2.1))).trans (hHeld.2.1)
         have HS2_ := (hb.cell (World.block_lt_of_cell? _ _ (hHeld.2.2.1))).trans (hHeld.2.2.1)
         have HS3_ := (hb.cell (World.block_lt_of_cell? _ _ (hHeld.2.2.2))).trans (hHeld.2.2.2)
         refine ⟨_, rfl, ?_⟩
         replace HO_4 := Aside0.mk (Kd.R_below Zq6 hb)
         replace BK316 := Aside0.mk (blkb_ BK316.out Zq31 hb)
         replace BK317 := Aside0.mk (blk_below (g := gb317) (o := .cells #[.string (⟨#[]⟩ : ByteArray), .int .i64 0, .int .i64 0, .string (⟨#[]⟩ : ByteArray)] 30 (0, 0)) Zq31 hb)
         replace HB := Aside0.mk (below_step Zq39 hb)
         (try clear hb)
         (try clear hb2)
         (try clear hk)
         (try clear hi)
         refine hK.out _ _ ⟨HS0_, HS1_, HS2_, HS3_⟩ (fun hHeld_ => ?_)
         clear hK K hHeld
         have hHeld := hHeld_
         clear hHeld_
         refine nz_ 53 ?_
         refine pz_ 9 44 ?_
         refine pz_ 10 54 ?_
         refine pz_ 11 55 ?_
         refine oz_ 12 8 (fun K hK => ?_)
         refine box_step ?hg (N := 8) ?hd (cs := #[.int .i64 0, .int .i64 0, .string (⟨#[]⟩ : ByteArray)]) (t := 28) ?hr ?_; (case hd => rfl); (case hg => rfl); (case hr => exact Zq2)
         intro gb332 hg w49 hbox hb
         have HS0_ := (hb.cell (World.block_lt_of_cell? _ _ (hHeld.1))).trans (hHeld.1)
         have HS1_ := (hb.cell (World.block_lt_of_cell? _ _ (hHeld.2.1))).trans (hHeld.2.1)
         have HS2_ := (hb.cell (World.block_lt_of_cell? _ _ (hHeld.2.2.1))).trans (hHeld.2.2.1)
         have HS3_ := (hb.cell (World.block_lt_of_cell? _ _ (hHeld.2.2.2))).trans (hHeld.2.2.2)
         have BK332 := Aside0.mk (hbox)
         have GW332 := Aside0.mk ((Zq55 : w.heap.size ≤ gb332))
         have GE332 := Aside0.mk ((Zq55 : w.heap.size ≤ gb332))
         have NB316_332 := Aside0.mk ((Zq58 : gb316 ≠ gb332))
         have NB332_316 := Aside0.mk ((Zq57 : gb332 ≠ gb316))
         have NB317_332 := Aside0.mk ((Zq60 : gb317 ≠ gb332))
         have NB332_317 := Aside0.mk ((Zq59 : gb332 ≠ gb317))
         replace HO_4 := Aside0.mk (Kd.R_below Zq6 hb)
         replace BK316 := Aside0.mk (blkb_ BK316.out Zq31 hb)
         replace BK317 := Aside0.mk (blk_below (g := gb317) (o := .cells #[.string (⟨#[]⟩ : ByteArray), .int .i64 0, .int .i64 0, .string (⟨#[]⟩ : ByteArray)] 30 (0, 0)) Zq31 hb)
         replace HB := Aside0.mk (below_step Zq39 hb)
         clear hb hbox hg
         refine hK.out _ _ ⟨HS0_, HS1_, HS2_, HS3_⟩ (fun hHeld_ => ?_)
         clear hK K hHeld
         have hHeld := hHeld_
         clear hHeld_
         refine nz_ 8 ?_
         exact norm_ Zq4 (hCont (gb332) _ ⟨hHeld, Zq6, Zq31, Zq31, Zq31, GW332.out, GE332.out, NB316_332.out, NB332_316.out, NB317_332.out, NB332_317.out, Zq42⟩)
        ·skip
         refine box_step ?hg (N := 8) ?hd (cs := #[.int .i64 0, .int .i64 0, .string (⟨#[]⟩ : ByteArray)]) (t := 28) ?hr ?_; (case hd => rfl); (case hg => rfl); (case hr => exact Zq2)
         intro gb332 hg w48 hbox hb
         have HS0_ := (hb.cell (World.block_lt_of_cell? _ _ (hHeld.1))).trans (hHeld.1)
         have HS1_ := (hb.cell (World.block_lt_of_cell? _ _ (hHeld.2.1))).trans (hHeld.2.1)
         have HS2_ := (hb.cell (World.block_lt_of_cell? _ _ (hHeld.2.2.1))).trans (hHeld.2.2.1)
         have HS3_ := (hb.cell (World.block_lt_of_cell? _ _ (hHeld.2.2.2))).trans (hHeld.2.2.2)
         have BK332 := Aside0.mk (hbox)
         have GW332 := Aside0.mk ((Zq55 : w.heap.size ≤ gb332))
         have GE332 := Aside0.mk ((Zq55 : w.heap.size ≤ gb332))
         have NB316_332 := Aside0.mk ((Zq58 : gb316 ≠ gb332))
         have NB332_316 := Aside0.mk ((Zq57 : gb332 ≠ gb316))
         have NB317_332 := Aside0.mk ((Zq60 : gb317 ≠ gb332))
         have NB332_317 := Aside0.mk ((Zq59 : gb332 ≠ gb317))
         replace HO_4 := Aside0.mk (Kd.R_below Zq6 hb)
         replace BK316 := Aside0.mk (blkb_ BK316.out Zq31 hb)
         replace BK317 := Aside0.mk (blk_below (g := gb317) (o := .cells #[.string (⟨#[]⟩ : ByteArray), .int .i64 0, .int .i64 0, .string (⟨#[]⟩ : ByteArray)] 30 (0, 0)) Zq31 hb)
         replace HB := Aside0.mk (below_step Zq39 hb)
         clear hb hbox hg
         refine hK.out _ _ ⟨HS0_, HS1_, HS2_, HS3_⟩ (fun hHeld_ => ?_)
         clear hK K hHeld
         have hHeld := hHeld_
         clear hHeld_
         refine nz_ 8 ?_
         refine oz_ 8 53 (fun K hK => ?_)
         refine goes_ Tryz.func60 (by kernel_rfl) rfl #[.int .i64 ((rd_T50 t318 1).f0), .string ((rd_T50 t318 1).f1)] (by rfl) rfl rfl Zq13 ?_
         with_reducible refine (gongref07_Decode.calls kj2 ((rd_T50 t318 1).f0) ((rd_T50 t318 1).f1) t328 t329 t330 t331 _ A29.out).mono ?_
         rintro e w49 ⟨rfl, hb⟩
         have HS0_ := (hb.cell (World.block_lt_of_cell? _ _ (hHeld.1))).trans (hHeld.1)
         have HS1_ := (hb.cell (World.block_lt_of_cell? _ _ (hHeld.2.1))).trans (hHeld.2.1)
         have HS2_ := (hb.cell (World.block_lt_of_cell? _ _ (hHeld.2.2.1))).trans (hHeld.2.2.1)
         have HS3_ := (hb.cell (World.block_lt_of_cell? _ _ (hHeld.2.2.2))).trans (hHeld.2.2.2)
         refine ⟨_, rfl, ?_⟩
         replace HO_4 := Aside0.mk (Kd.R_below Zq6 hb)
         replace BK316 := Aside0.mk (blkb_ BK316.out Zq31 hb)
         replace BK317 := Aside0.mk (blk_below (g := gb317) (o := .cells #[.string (⟨#[]⟩ : ByteArray), .int .i64 0, .int .i64 0, .string (⟨#[]⟩ : ByteArray)] 30 (0, 0)) Zq31 hb)
         replace BK332 := Aside0.mk (blk_below (g := gb332) (o := .cells #[.int .i64 0, .int .i64 0, .string (⟨#[]⟩ : ByteArray)] 28 (0, 0)) Zq31 hb)
         replace HB := Aside0.mk (below_step Zq42 hb)
         (try clear hb)
         (try clear hb2)
         (try clear hk)
         (try clear hi)
         refine hK.out _ _ ⟨HS0_, HS1_, HS2_, HS3_⟩ (fun hHeld_ => ?_)
         clear hK K hHeld
         have hHeld := hHeld_
         clear hHeld_
         refine nz_ 53 ?_
         refine pz_ 9 44 ?_
         refine pz_ 10 54 ?_
         refine pz_ 11 55 ?_
         exact norm_ Zq4 (hCont (gb332) _ ⟨hHeld, Zq6, Zq31, Zq31, Zq31, GW332.out, GE332.out, NB316_332.out, NB332_316.out, NB317_332.out, NB332_317.out, Zq42⟩)
       rintro gb332 w50 ⟨hS_, h0_, h1_, h2_, h3_, h4_, h5_, h6_, h7_, h8_, h9_, h10_⟩
       have n0_ : Aside0 (Kd.R k50 50 w50 w.heap.size (fun k_ => k_ ≠ gb316) (.slice (some ad323) t318.length co45) t318) := ⟨h0_⟩
       have n1_ : Aside0 (w50.heap[gb316]? = some (.cells #[.int .i64 a0_0, .string a0_1] 50 (0, 0))) := ⟨h1_⟩
       have n2_ : Aside0 (w50.heap[gb317]? = some (.cells #[.string (⟨#[]⟩ : ByteArray), .int .i64 0, .int .i64 0, .string (⟨#[]⟩ : ByteArray)] 30 (0, 0))) := ⟨h2_⟩
       have n3_ : Aside0 (w50.heap[gb332]? = some (.cells #[.int .i64 0, .int .i64 0, .string (⟨#[]⟩ : ByteArray)] 28 (0, 0))) := ⟨h3_⟩
       have n4_ : Aside0 (w.heap.size ≤ gb332) := ⟨h4_⟩
       have n5_ : Aside0 (w.heap.size ≤ gb332) := ⟨h5_⟩
       have n6_ : Aside0 (gb316 ≠ gb332) := ⟨h6_⟩
       have n7_ : Aside0 (gb332 ≠ gb316) := ⟨h7_⟩
       have n8_ : Aside0 (gb317 ≠ gb332) := ⟨h8_⟩
       have n9_ : Aside0 (gb332 ≠ gb317) := ⟨h9_⟩
       have n10_ : Aside0 (Below w.heap.size w w50) := ⟨h10_⟩
       clear HO_4
       clear BK316
       clear BK317
       clear HB
       clear h0_ h1_ h2_ h3_ h4_ h5_ h6_ h7_ h8_ h9_ h10_
       have HO_4 := n0_
       have BK316 := n1_
       have BK317 := n2_
       have BK332 := n3_
       have GW332 := n4_
       have GE332 := n5_
       have NB316_332 := n6_
       have NB332_316 := n7_
       have NB317_332 := n8_
       have NB332_317 := n9_
       have HB := n10_
       clear n0_ n1_ n2_ n3_ n4_ n5_ n6_ n7_ n8_ n9_ n10_
       (try clear hHeld)
       have hHeld : w50.cell? ⟨ad323.block, ad323.off + 2, none⟩ = some (.int .i64 ((rd_T50 t318 1).f0)) ∧ w50.cell? ⟨ad323.block, ad323.off + 2 + 1, none⟩ = some (.string ((rd_T50 t318 1).f1)) ∧ w50.cell? ⟨ad323.block, ad323.off + 2, none⟩ = some (.int .i64 ((rd_T50 t318 1).f0)) ∧ w50.cell? ⟨ad323.block, ad323.off + 2 + 1, none⟩ = some (.string ((rd_T50 t318 1).f1)) := hS_
       refine norm_ (a' := ?_) ?_ ?_
       rotate_left
       ·simp only [putAll, Act.put, List.setIfInBounds_toArray, List.set_cons_zero, List.set_cons_succ]
        rfl
       refine one_ (i := 13) (N := none) #[true, true, true, true, true, true, true, true, true, true, true, true, true, true, false] rfl rfl (one_of HT_.out (by kernel_rfl)) (by decide) (fun K hK => ?_)
       have hs51 : w50.cell? ⟨gb332, 0, none⟩ = some (.int .i64 0) := (blk_cell BK332.out 0).trans rfl
       have hfs51 := blk_frozen BK332.out 0
       have hns51_0 := NB316_332.out
       have hns51_1 := NB317_332.out
       have hms51_0 := NB332_316.out
       have hms51_1 := NB332_317.out
       have hs52 : w50.cell? ⟨gb332, 1, none⟩ = some (.int .i64 0) := (blk_cell BK332.out 1).trans rfl
       have hfs52 := blk_frozen BK332.out 1
       have hns52_0 := NB316_332.out
       have hns52_1 := NB317_332.out
       have hms52_0 := NB332_316.out
       have hms52_1 := NB332_317.out
       have hs53 : w50.cell? ⟨gb332, 2, none⟩ = some (.string (⟨#[]⟩ : ByteArray)) := (blk_cell BK332.out 2).trans rfl
       have hfs53 := blk_frozen BK332.out 2
       have hns53_0 := NB316_332.out
       have hns53_1 := NB317_332.out
       have hms53_0 := NB332_316.out
       have hms53_1 := NB332_317.out
       refine skip_ (w1 := ?_) (by rfl) rfl ?_ ?_
       rotate_left
       ·go_simp
        rfl
       refine hK.out _ _ ⟨(by (repeat (with_reducible refine (cell_far (p := ⟨gb332, _, none⟩) Zq48 _).trans ?_)); exact hHeld.1), (by (repeat (with_reducible refine (cell_far (p := ⟨gb332, _, none⟩) Zq48 _).trans ?_)); exact hHeld.2.1), (by (repeat (with_reducible refine (cell_far (p := ⟨gb332, _, none⟩) Zq48 _).trans ?_)); exact hHeld.2.2.1), (by (repeat (with_reducible refine (cell_far (p := ⟨gb332, _, none⟩) Zq48 _).trans ?_)); exact hHeld.2.2.2)⟩ (fun hHeld_ => ?_)
       clear hK K hHeld
       have hHeld := hHeld_
       clear hHeld_
       refine pz_ 14 9 ?_
       refine done_ (done_of HT_.out (by kernel_rfl)) ?_
       (try clear hHeld)
       have hnb54 := NB332_316.out
       have hnc54 := NB316_332.out
       have hnb55 := NB332_317.out
       have hnc55 := NB317_332.out
       obtain ⟨hcz56_0, hcz56_1, hcz56_2⟩ := cells3_ BK332.out
       obtain ⟨hfz56_0, hfz56_1, hfz56_2⟩ := frozen3_ BK332.out
       have hnb57 := NB317_316.out
       have hnc57 := NB316_317.out
       obtain ⟨hcz58_0, hcz58_1, hcz58_2, hcz58_3⟩ := cells4_ BK317.out
       obtain ⟨hfz58_0, hfz58_1, hfz58_2, hfz58_3⟩ := frozen4_ BK317.out
       try go_wp2
       refine bodyPost_ret (results_ct rfl _ _ gb317 30 #[.string t324, .int .i64 t328, .int .i64 t329, .string t330] (0, 0) _ rfl Zq47 Tryz.underlying30 rfl (by kernel_rfl)) rfl ?_
       exact ⟨Zy41, Zy3⟩
     ·rw [if_neg c28] at H
      exact absurd H (by simp)
    ·rw [if_neg c26] at H
     exact absurd H (by simp)
end Go.Proofs.YtfgdnnbhlnbojaaGreatDoor.XPdR
