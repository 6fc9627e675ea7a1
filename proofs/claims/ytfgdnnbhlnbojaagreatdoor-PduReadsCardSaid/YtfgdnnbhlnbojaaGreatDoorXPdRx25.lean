-- Laid by extprint.py (the session's own driver): functions told by the kit's printer and by hand.
import Derived.Test.YtfgdnnbhlnbojaaGreatDoorXPdRx0
import Derived.Test.YtfgdnnbhlnbojaaGreatDoorXPdRx8
import Derived.Test.YtfgdnnbhlnbojaaGreatDoorXPdRx13
import Derived.Test.YtfgdnnbhlnbojaaGreatDoorXPdRx24
namespace Go.Proofs.YtfgdnnbhlnbojaaGreatDoor.XPdR
open Go.RowKit Gong Go.Proofs.YtfgdnnbhlnbojaaGreatDoorW.PrintWords Go.Proofs.YtfgdnnbhlnbojaaGreatDoorW.PrintLast Go.Proofs.YtfgdnnbhlnbojaaGreatDoorW.PrintMore
attribute [local go_sem] max2_int min2_int max_two min_two max_three min_three max_four min_four   -- for this text's walks alone
set_option linter.unusedVariables false
set_option linter.unusedSimpArgs false
def gonglaw08_PduReads.f (k : Nat) (a0 : Int) (a1 : ByteArray) : Option (Bool) := if (a1.size : Int) > 3000 then ((gonglaw08_works.f k).bind fun t369 => (some t369)) else ((pdu_Decode.f k a0 a1).bind fun bt370 => ((gongref08_Decode.f k a0 a1).bind fun bt379 => ((gonglaw08_of.f bt370.1 bt370.2.1 bt370.2.2.1 bt370.2.2.2.1 bt370.2.2.2.2.1).bind fun bt388 => ((gongref08_Same.f k bt388.1 bt388.2.1 bt388.2.2.1 bt388.2.2.2.1 bt388.2.2.2.2 bt379.1 bt379.2.1 bt379.2.2.1 bt379.2.2.2.1 bt379.2.2.2.2.1).bind fun t395 => (if t395 = true then (if bt370.2.2.2.2.2 = bt379.2.2.2.2.2 then ((gonglaw08_works.f k).bind fun t396 => (some t396)) else (none)) else (none))))))
def gonglaw08_PduReads.T5 : Bool × List (List Nat × List Nat) := (true, [([], []), ([0], [0]), ([], []), ([1, 2, 1], [1, 2]), ([3, 3], [3]), ([4], [4]), ([4], [4]), ([5, 6, 4], [4, 5, 6]), ([4, 7], [4, 7]), ([8, 4], [8]), ([9, 9], [9]), ([9, 10], [9, 10]), ([11, 10, 0, 1, 2, 3, 4, 5, 6, 7, 8, 9, 10, 11], [11])])
def gonglaw08_PduReads.B5 : List Nat := [0, 1, 0, 7, 15, 31, 31, 127, 255, 511, 1023, 2047, 4095]
theorem gonglaw08_PduReads.tab5 : rtab .any (opsOf Tryz.f4 5) = gonglaw08_PduReads.T5 := by kernel_rfl
theorem gonglaw08_PduReads.bits5 : waitsOk gonglaw08_PduReads.T5.2 gonglaw08_PduReads.B5 = true := by kernel_rfl
set_option maxHeartbeats 8000000 in
set_option maxRecDepth 100000 in
theorem gonglaw08_PduReads.calls (k : Nat) (a0 : Int) (a1 : ByteArray) (r : Bool) (w : World) (hG : Gl w) (h : gonglaw08_PduReads.f k a0 a1 = some r) :
  Calls Tryz.prog 4 #[.int .i64 a0, .string a1] w fun e w' => e = .returned (.bool r) ∧ Below w.heap.size w w' := by
 have HGl := Aside0.mk hG
 clear hG
 have hu47 := Tryz.underlying47
 have hu24 := Tryz.underlying24
 have hu50 := Tryz.underlying50
 have hu35 := Tryz.underlying35
 have HB := Aside0.mk (Below.refl w.heap.size w)
 have H : (if (a1.size : Int) > 3000 then ((gonglaw08_works.f k).bind fun t369 => (some t369)) else ((pdu_Decode.f k a0 a1).bind fun bt370 => ((gongref08_Decode.f k a0 a1).bind fun bt379 => ((gonglaw08_of.f bt370.1 bt370.2.1 bt370.2.2.1 bt370.2.2.2.1 bt370.2.2.2.2.1).bind fun bt388 => ((gongref08_Same.f k bt388.1 bt388.2.1 bt388.2.2.1 bt388.2.2.2.1 bt388.2.2.2.2 bt379.1 bt379.2.1 bt379.2.2.1 bt379.2.2.2.1 bt379.2.2.2.2.1).bind fun t395 => (if t395 = true then (if bt370.2.2.2.2.2 = bt379.2.2.2.2.2 then ((gonglaw08_works.f k).bind fun t396 => (some t396)) else (none)) else (none))))))) = some r := h
 clear h
 by_cases c3 : (a1.size : Int) > 3000
 ·rw [if_pos c3] at H
  have c3b0 : decide (3000 < (a1.size : Int)) = true := decide_eq_true c3
  have c3b1 : decide (3000 < a1.size) = true := decide_eq_true (by omega)
  clear c3
  replace H := Option.bind_eq_some_iff.mp H
  obtain ⟨t369, A40, H⟩ := H
  replace H : (some t369) = some r := H
  have A4 := Aside0.mk A40
  clear A40
  obtain rfl := Option.some.inj H
  go_enter Tryz.func4, Tryz.ntmps4
  go_wp2_with (first | ((with_reducible refine gate_callee (f := 6) rfl ?_); refine goesL_ (some 12) rfl rfl Tryz.func6 (by kernel_rfl) rfl #[] rfl Zq13 ?_; (with_reducible refine (gonglaw08_works.calls k  t369 _ ?side1 A4.out).mono ?_); (case side1 => exact Zq56); rintro e w5 ⟨rfl, hb⟩; refine ⟨_, rfl, ?_⟩; replace HB := Aside0.mk (below_step Zq12 hb); (try clear hb); (try clear hb2); (try clear hk); (try clear hi)))
  go_ret
  exact ⟨Zy41, Zy40⟩
 rw [if_neg c3] at H
 have c3b0 : decide (3000 < (a1.size : Int)) = false := decide_eq_false c3
 have c3b1 : decide (3000 < a1.size) = false := decide_eq_false (by omega)
 clear c3
 replace H := Option.bind_eq_some_iff.mp H
 obtain ⟨⟨t370, t371, t372, t373, t374, t377⟩, A60, H⟩ := H
 replace H : ((gongref08_Decode.f k a0 a1).bind fun bt379 => ((gonglaw08_of.f t370 t371 t372 t373 t374).bind fun bt388 => ((gongref08_Same.f k bt388.1 bt388.2.1 bt388.2.2.1 bt388.2.2.2.1 bt388.2.2.2.2 bt379.1 bt379.2.1 bt379.2.2.1 bt379.2.2.2.1 bt379.2.2.2.2.1).bind fun t395 => (if t395 = true then (if t377 = bt379.2.2.2.2.2 then ((gonglaw08_works.f k).bind fun t396 => (some t396)) else (none)) else (none))))) = some r := H
 have A6 := Aside0.mk A60
 clear A60
 replace H := Option.bind_eq_some_iff.mp H
 obtain ⟨⟨t379, t380, t381, t382, t383, t386⟩, A70, H⟩ := H
 replace H : ((gonglaw08_of.f t370 t371 t372 t373 t374).bind fun bt388 => ((gongref08_Same.f k bt388.1 bt388.2.1 bt388.2.2.1 bt388.2.2.2.1 bt388.2.2.2.2 t379 t380 t381 t382 t383).bind fun t395 => (if t395 = true then (if t377 = t386 then ((gonglaw08_works.f k).bind fun t396 => (some t396)) else (none)) else (none)))) = some r := H
 have A7 := Aside0.mk A70
 clear A70
 replace H := Option.bind_eq_some_iff.mp H
 obtain ⟨⟨t388, t389, t390, t391, t392⟩, A80, H⟩ := H
 replace H : ((gongref08_Same.f k t388 t389 t390 t391 t392 t379 t380 t381 t382 t383).bind fun t395 => (if t395 = true then (if t377 = t386 then ((gonglaw08_works.f k).bind fun t396 => (some t396)) else (none)) else (none))) = some r := H
 have A8 := Aside0.mk A80
 clear A80
 replace H := Option.bind_eq_some_iff.mp H
 obtain ⟨t395, A90, H⟩ := H
 replace H : (if t395 = true then (if t377 = t386 then ((gonglaw08_works.f k).bind fun t396 => (some t396)) else (none)) else (none)) = some r := H
 have A9 := Aside0.mk A90
 clear A90
 by_cases c10 : t395 = true
 rotate_left
 ·replace c10 := Bool.eq_false_iff.mpr c10
  subst c10
  have H1 : (none) = some r := by rw [if_neg (show ¬ (false = true) by decide)] at H; exact H
  exact absurd H1 (by simp)
 subst c10
 have H1 : (if t377 = t386 then ((gonglaw08_works.f k).bind fun t396 => (some t396)) else (none)) = some r := by rw [if_pos rfl] at H; exact H
 clear H
 have H := H1
 clear H1
 by_cases c11 : t377 = t386
 rotate_left
 ·rw [if_neg c11] at H
  exact absurd H (by simp)
 rw [if_pos c11] at H
 have c11b0 : (t377 == t386) = true := beq_iff_eq.mpr c11
 have c11b1 : (t377 != t386) = false := bne_eq_false_iff_eq.mpr c11
 clear c11
 replace H := Option.bind_eq_some_iff.mp H
 obtain ⟨t396, A120, H⟩ := H
 replace H : (some t396) = some r := H
 have A12 := Aside0.mk A120
 clear A120
 obtain rfl := Option.some.inj H
 go_enter Tryz.func4, Tryz.ntmps4
 try go_wp2_with (first | ((with_reducible refine gate_callee (f := 17) rfl ?_); refine goesL_ (some 17) rfl rfl Tryz.func17 (by kernel_rfl) rfl #[.agg #[.int .i64 a0, .string a1]] rfl Zq13 ?_; (with_reducible refine (pdu_Decode.calls k a0 a1 t370 t371 t372 t373 t374 t377 _ ?side1 A6.out).mono ?_); (case side1 => exact Zq56); rintro e w13 ⟨v375, rfl, ho0, hb⟩; refine ⟨_, rfl, ?_⟩; have HO376 := Aside0.mk (Kd.R_lower ho0 (below_size Zq12)); replace HB := Aside0.mk (below_step Zq12 hb); (try clear hb); (try clear hb2); (try clear hk); (try clear hi); (try clear ho0)) | ((with_reducible refine gate_dst (N := 5) rfl ?_); refine box_event ?hg (N := 5) ?hd (cs := #[.int .i64 0, .int .i64 0, .int .i64 0, .int .i64 0, .slice none 0 0]) (t := 24) ?hr ?_; (case hd => rfl); (case hg => rfl); (case hr => exact Zq2); intro gb378 hg w14 hbox hb; have BK378 := Aside0.mk (hbox); have GW378 := Aside0.mk ((by rw [hg]; exact (below_size Zq12) : w.heap.size ≤ gb378)); have GE378 := Aside0.mk ((by rw [hg]; exact (below_size Zq12) : w.heap.size ≤ gb378)); replace HO376 := Aside0.mk (Kd.R_below (by (with_reducible repeat (first | apply Kd.R_alloc | apply Kd.R_drewN | apply Kd.R_drew)); exact HO376.out) hb); replace HB := Aside0.mk (below_step Zq12 hb); clear hb hbox hg; obtain ⟨hcz15_0, hcz15_1, hcz15_2, hcz15_3, hcz15_4⟩ := cells5_ BK378.out; obtain ⟨hfz15_0, hfz15_1, hfz15_2, hfz15_3, hfz15_4⟩ := frozen5_ BK378.out; obtain ⟨Ao16, co16, eo16⟩ := Kd.R_slice HO376.out; subst eo16) | ((with_reducible refine gate_callee (f := 18) rfl ?_); refine goesL_ (some 24) rfl rfl Tryz.func18 (by kernel_rfl) rfl #[.agg #[.int .i64 a0, .string a1]] rfl Zq13 ?_; (with_reducible refine (gongref08_Decode.calls k a0 a1 t379 t380 t381 t382 t383 t386 _ A7.out).mono ?_); rintro e w17 ⟨v384, rfl, ho0, hb⟩; refine ⟨_, rfl, ?_⟩; have HO385 := Aside0.mk (Kd.R_lower (Kd.R_new' ho0 (Kd.R_lt Zq49)) (below_size Zq26)); replace HO376 := Aside0.mk (Kd.R_elder' Zq49 (Kd.R_base ho0) hb); replace BK378 := Aside0.mk (blk_below (g := gb378) (o := .cells #[.int .i64 t370, .int .i64 t371, .int .i64 t372, .int .i64 t373, .slice Ao16 t374.length co16] 24 (0, 0)) Zq47 hb); replace HB := Aside0.mk (below_step Zq26 hb); (try clear hb); (try clear hb2); (try clear hk); (try clear hi); (try clear ho0)) | ((with_reducible refine gate_dst (N := 7) rfl ?_); refine box_event ?hg (N := 7) ?hd (cs := #[.int .i64 0, .int .i64 0, .int .i64 0, .int .i64 0, .slice none 0 0]) (t := 35) ?hr ?_; (case hd => rfl); (case hg => rfl); (case hr => exact Zq2); intro gb387 hg w18 hbox hb; have BK387 := Aside0.mk (hbox); have GW387 := Aside0.mk ((by rw [hg]; exact (below_size Zq26) : w.heap.size ≤ gb387)); have GE387 := Aside0.mk ((by rw [hg]; exact (below_size Zq26) : w.heap.size ≤ gb387)); have NB378_387 := Aside0.mk ((by rw [hg]; exact Nat.ne_of_lt (blk_lt (g := gb378) (o := .cells #[.int .i64 t370, .int .i64 t371, .int .i64 t372, .int .i64 t373, .slice Ao16 t374.length co16] 24 (0, 0)) Zq31) : gb378 ≠ gb387)); have NB387_378 := Aside0.mk ((by rw [hg]; exact Nat.ne_of_gt (blk_lt (g := gb378) (o := .cells #[.int .i64 t370, .int .i64 t371, .int .i64 t372, .int .i64 t373, .slice Ao16 t374.length co16] 24 (0, 0)) Zq31) : gb387 ≠ gb378)); replace HO376 := Aside0.mk (Kd.R_below (by (with_reducible repeat (first | apply Kd.R_alloc | apply Kd.R_drewN | apply Kd.R_drew)); exact HO376.out) hb); replace HO385 := Aside0.mk (Kd.R_below Zq8 hb); replace BK378 := Aside0.mk (blkb_ BK378.out Zq31 hb); replace HB := Aside0.mk (below_step Zq26 hb); clear hb hbox hg; have hnb19 := NB387_378.out; have hnc19 := NB378_387.out; obtain ⟨hcz20_0, hcz20_1, hcz20_2, hcz20_3, hcz20_4⟩ := cells5_ BK387.out; obtain ⟨hfz20_0, hfz20_1, hfz20_2, hfz20_3, hfz20_4⟩ := frozen5_ BK387.out; obtain ⟨Ao21, co21, eo21⟩ := Kd.R_slice HO385.out; subst eo21))
 have n0_ : Aside0 (Kd.R k30 30 (((((w18.setCell ⟨gb387, 0, none⟩ (.int .i64 t379)).setCell ⟨gb387, 1, none⟩ (.int .i64 t380)).setCell ⟨gb387, 2, none⟩ (.int .i64 t381)).setCell ⟨gb387, 3, none⟩ (.int .i64 t382)).setCell ⟨gb387, 4, none⟩ (.slice Ao21 t383.length co21)) w.heap.size (fun k_ => some k_ ≠ (.slice Ao21 t383.length co21 : Value).ownBlock) (.slice Ao16 t374.length co16) t374) := ⟨by (with_reducible repeat (first | apply Kd.R_alloc | apply Kd.R_drewN | apply Kd.R_drew)); exact Kd.R_mono (Kd.R_far (p := ⟨gb387, 4, none⟩) (Kd.R_far (p := ⟨gb387, 3, none⟩) (Kd.R_far (p := ⟨gb387, 2, none⟩) (Kd.R_far (p := ⟨gb387, 1, none⟩) (Kd.R_far (p := ⟨gb387, 0, none⟩) (Kd.R_types HO376.out BK387.out (by decide)) (fun _ hk => hk.2) (.int .i64 t379)) (fun _ hk => hk.2) (.int .i64 t380)) (fun _ hk => hk.2) (.int .i64 t381)) (fun _ hk => hk.2) (.int .i64 t382)) (fun _ hk => hk.2) (.slice Ao21 t383.length co21)) (fun _ hk => hk.1.2)⟩
 have n1_ : Aside0 (Kd.R k30 30 (((((w18.setCell ⟨gb387, 0, none⟩ (.int .i64 t379)).setCell ⟨gb387, 1, none⟩ (.int .i64 t380)).setCell ⟨gb387, 2, none⟩ (.int .i64 t381)).setCell ⟨gb387, 3, none⟩ (.int .i64 t382)).setCell ⟨gb387, 4, none⟩ (.slice Ao21 t383.length co21)) w.heap.size (fun k_ => some k_ ≠ (.slice Ao16 t374.length co16 : Value).ownBlock) (.slice Ao21 t383.length co21) t383) := ⟨by (with_reducible repeat (first | apply Kd.R_alloc | apply Kd.R_drewN | apply Kd.R_drew)); exact Kd.R_mono (Kd.R_far (p := ⟨gb387, 4, none⟩) (Kd.R_far (p := ⟨gb387, 3, none⟩) (Kd.R_far (p := ⟨gb387, 2, none⟩) (Kd.R_far (p := ⟨gb387, 1, none⟩) (Kd.R_far (p := ⟨gb387, 0, none⟩) (Kd.R_types HO385.out BK387.out (by decide)) (fun _ hk => hk.2) (.int .i64 t379)) (fun _ hk => hk.2) (.int .i64 t380)) (fun _ hk => hk.2) (.int .i64 t381)) (fun _ hk => hk.2) (.int .i64 t382)) (fun _ hk => hk.2) (.slice Ao21 t383.length co21)) (fun _ hk => hk.1.2)⟩
 have n2_ : Aside0 ((((((w18.setCell ⟨gb387, 0, none⟩ (.int .i64 t379)).setCell ⟨gb387, 1, none⟩ (.int .i64 t380)).setCell ⟨gb387, 2, none⟩ (.int .i64 t381)).setCell ⟨gb387, 3, none⟩ (.int .i64 t382)).setCell ⟨gb387, 4, none⟩ (.slice Ao21 t383.length co21)).heap[gb378]? = some (.cells #[.int .i64 t370, .int .i64 t371, .int .i64 t372, .int .i64 t373, .slice Ao16 t374.length co16] 24 (0, 0))) := ⟨by (with_reducible repeat (first | refine blk_drewN ?_ _ | refine blk_drew ?_ | refine blk_alloc ?_ _)); refine blk_far ?_ NB378_387.out _; (with_reducible repeat (first | refine blk_drewN ?_ _ | refine blk_drew ?_ | refine blk_alloc ?_ _)); refine blk_far ?_ NB378_387.out _; (with_reducible repeat (first | refine blk_drewN ?_ _ | refine blk_drew ?_ | refine blk_alloc ?_ _)); refine blk_far ?_ NB378_387.out _; (with_reducible repeat (first | refine blk_drewN ?_ _ | refine blk_drew ?_ | refine blk_alloc ?_ _)); refine blk_far ?_ NB378_387.out _; (with_reducible repeat (first | refine blk_drewN ?_ _ | refine blk_drew ?_ | refine blk_alloc ?_ _)); refine blk_far ?_ NB378_387.out _; (with_reducible repeat (first | refine blk_drewN ?_ _ | refine blk_drew ?_ | refine blk_alloc ?_ _)); exact BK378.out⟩
 have n3_ : Aside0 ((((((w18.setCell ⟨gb387, 0, none⟩ (.int .i64 t379)).setCell ⟨gb387, 1, none⟩ (.int .i64 t380)).setCell ⟨gb387, 2, none⟩ (.int .i64 t381)).setCell ⟨gb387, 3, none⟩ (.int .i64 t382)).setCell ⟨gb387, 4, none⟩ (.slice Ao21 t383.length co21)).heap[gb387]? = some (.cells #[.int .i64 t379, .int .i64 t380, .int .i64 t381, .int .i64 t382, .slice Ao21 t383.length co21] 35 (0, 0))) := ⟨by (with_reducible repeat (first | refine blk_drewN ?_ _ | refine blk_drew ?_ | refine blk_alloc ?_ _)); refine blk_put (cs := #[.int .i64 t379, .int .i64 t380, .int .i64 t381, .int .i64 t382, .slice none 0 0]) ?_ 4 _ rfl; (with_reducible repeat (first | refine blk_drewN ?_ _ | refine blk_drew ?_ | refine blk_alloc ?_ _)); refine blk_put (cs := #[.int .i64 t379, .int .i64 t380, .int .i64 t381, .int .i64 0, .slice none 0 0]) ?_ 3 _ rfl; (with_reducible repeat (first | refine blk_drewN ?_ _ | refine blk_drew ?_ | refine blk_alloc ?_ _)); refine blk_put (cs := #[.int .i64 t379, .int .i64 t380, .int .i64 0, .int .i64 0, .slice none 0 0]) ?_ 2 _ rfl; (with_reducible repeat (first | refine blk_drewN ?_ _ | refine blk_drew ?_ | refine blk_alloc ?_ _)); refine blk_put (cs := #[.int .i64 t379, .int .i64 0, .int .i64 0, .int .i64 0, .slice none 0 0]) ?_ 1 _ rfl; (with_reducible repeat (first | refine blk_drewN ?_ _ | refine blk_drew ?_ | refine blk_alloc ?_ _)); refine blk_put (cs := #[.int .i64 0, .int .i64 0, .int .i64 0, .int .i64 0, .slice none 0 0]) ?_ 0 _ rfl; (with_reducible repeat (first | refine blk_drewN ?_ _ | refine blk_drew ?_ | refine blk_alloc ?_ _)); exact BK387.out⟩
 have n4_ : Aside0 (Below w.heap.size w (((((w18.setCell ⟨gb387, 0, none⟩ (.int .i64 t379)).setCell ⟨gb387, 1, none⟩ (.int .i64 t380)).setCell ⟨gb387, 2, none⟩ (.int .i64 t381)).setCell ⟨gb387, 3, none⟩ (.int .i64 t382)).setCell ⟨gb387, 4, none⟩ (.slice Ao21 t383.length co21))) := ⟨Zy12⟩
 (try clear HO376)
 (try clear HO385)
 (try clear BK378)
 (try clear BK387)
 (try clear HB)
 generalize (((((w18.setCell ⟨gb387, 0, none⟩ (.int .i64 t379)).setCell ⟨gb387, 1, none⟩ (.int .i64 t380)).setCell ⟨gb387, 2, none⟩ (.int .i64 t381)).setCell ⟨gb387, 3, none⟩ (.int .i64 t382)).setCell ⟨gb387, 4, none⟩ (.slice Ao21 t383.length co21)) = w22 at n0_ n1_ n2_ n3_ n4_ ⊢
 have HO376 := n0_
 have HO385 := n1_
 have BK378 := n2_
 have BK387 := n3_
 have HB := n4_
 clear n0_ n1_ n2_ n3_ n4_
 replace HO376 := Aside0.mk (Kd.R_drew HO376.out)
 replace HO385 := Aside0.mk (Kd.R_drew HO385.out)
 replace BK378 := Aside0.mk (blk_drew BK378.out)
 replace BK387 := Aside0.mk (blk_drew BK387.out)
 replace HB := Aside0.mk (below_drew1 HB.out)
 refine start_ (n := 13) (S := fun w' => w'.cell? ⟨gb378, 0, none⟩ = some (.int .i64 t370) ∧ w'.cell? ⟨gb378, 1, none⟩ = some (.int .i64 t371) ∧ w'.cell? ⟨gb378, 2, none⟩ = some (.int .i64 t372) ∧ w'.cell? ⟨gb378, 3, none⟩ = some (.int .i64 t373) ∧ w'.cell? ⟨gb378, 4, none⟩ = some (.slice Ao16 t374.length co16) ∧ w'.cell? ⟨gb387, 0, none⟩ = some (.int .i64 t379) ∧ w'.cell? ⟨gb387, 1, none⟩ = some (.int .i64 t380) ∧ w'.cell? ⟨gb387, 2, none⟩ = some (.int .i64 t381) ∧ w'.cell? ⟨gb387, 3, none⟩ = some (.int .i64 t382) ∧ w'.cell? ⟨gb387, 4, none⟩ = some (.slice Ao21 t383.length co21)) (ds := []) #[false, false, false, false, false, false, false, false, false, false, false, false, false] (by kernel_rfl) rfl rfl ⟨(blk_cell BK378.out 0).trans rfl, (blk_cell BK378.out 1).trans rfl, (blk_cell BK378.out 2).trans rfl, (blk_cell BK378.out 3).trans rfl, (blk_cell BK378.out 4).trans rfl, (blk_cell BK387.out 0).trans rfl, (blk_cell BK387.out 1).trans rfl, (blk_cell BK387.out 2).trans rfl, (blk_cell BK387.out 3).trans rfl, (blk_cell BK387.out 4).trans rfl⟩ (fun hHeld => ?_); refine with_tabW gonglaw08_PduReads.tab5 gonglaw08_PduReads.bits5 (fun HT_ HW_ => ?_)
 generalize w22.drew = w23 at HO376 HO385 BK378 BK387 HB hHeld ⊢
 refine tz_ 0 27 hHeld ?_
 refine tz_ 2 29 hHeld ?_
 refine oz_ 1 28 (fun K hK => ?_)
 refine goes_ Tryz.func9 (by kernel_rfl) rfl #[.agg #[.int .i64 t370, .int .i64 t371, .int .i64 t372, .int .i64 t373, .slice Ao16 t374.length co16]] (by rfl) rfl rfl Zq13 ?_
 with_reducible refine (gonglaw08_of.calls t370 t371 t372 t373 (fun k_ => some k_ = (.slice Ao16 t374.length co16 : Value).ownBlock) (.slice Ao16 t374.length co16) t374 t388 t389 t390 t391 t392 w _ ?side1 ?side2 A8.out).mono ?_
 (case side1 => repeat (first | (with_reducible first | exact HB.out | apply below_alloc | apply pw_below_drewN | apply below_drew1 | refine below_set ?_ GE378.out | refine below_set ?_ GE387.out) | exact HB.out))
 (case side2 => exact Kd.R_tight rfl HO376.out)
 rintro e w24 ⟨v393, rfl, ho0, hb, hkp⟩
 refine ⟨_, rfl, ?_⟩
 have n0_ := Aside0.mk (blk_kept Zq31 hkp (fun hs_ => (fun e_ => (Kd.R_ne HO376.out BK378.out (by decide)) e_) hs_))
 have n1_ := Aside0.mk (Kd.R_mono (ok' := fun k_ => some k_ ≠ (v393 : Value).ownBlock) (Kd.R_keptB (HO385.out) hkp (fun k_ hk_ hs_ => (hk_) hs_)) (fun k_ hk_ => fun e_ => Or.elim (ho0.1 k_ e_.symm) (fun hs_ => hk_.2.1 hs_) (fun hn_ => Nat.not_le.2 hk_.2.2 hn_)))
 have n2_ := Aside0.mk (blk_kept Zq31 hkp (fun hs_ => (fun e_ => (Kd.R_ne HO376.out BK387.out (by decide)) e_) hs_))
 have n3_ := Aside0.mk (Kd.R_mono (ok' := fun k_ => some k_ ≠ (.slice Ao21 t383.length co21 : Value).ownBlock) ho0 (fun k_ hk_ => Or.elim hk_ (fun hs_ => fun e_ => (((HO385.out).1 k_ e_.symm)) hs_) (fun hn_ => (Kd.fresh' (Kd.R_lt Zq8) k_ hn_))))
 have n4_ := Aside0.mk (hb)
 clear BK378
 clear HO385
 clear BK387
 clear HB
 clear HO376
 have BK378 := n0_
 have HO385 := n1_
 have BK387 := n2_
 have HO394 := n3_
 have HB := n4_
 clear n0_ n1_ n2_ n3_ n4_
 (try clear hb)
 (try clear hkp)
 (try clear ho0)
 obtain ⟨Ao25, co25, eo25⟩ := Kd.R_slice HO394.out
 (first | subst eo25 | (injection eo25 with f1_ f2_ f3_; have f4_ := f1_.symm; have f5_ := f3_.symm; clear f1_ f2_ f3_; subst f4_; subst f5_))
 refine hK.out _ _ ⟨(blk_cell BK378.out 0).trans rfl, (blk_cell BK378.out 1).trans rfl, (blk_cell BK378.out 2).trans rfl, (blk_cell BK378.out 3).trans rfl, (blk_cell BK378.out 4).trans rfl, (blk_cell BK387.out 0).trans rfl, (blk_cell BK387.out 1).trans rfl, (blk_cell BK387.out 2).trans rfl, (blk_cell BK387.out 3).trans rfl, (blk_cell BK387.out 4).trans rfl⟩ (fun hHeld_ => ?_)
 clear hK K hHeld
 have hHeld := hHeld_
 clear hHeld_
 refine nz_ 28 ?_
 refine oz_ 3 30 (fun K hK => ?_)
 refine goes_ Tryz.func16 (by kernel_rfl) rfl #[.agg #[.int .i64 t388, .int .i64 t389, .int .i64 t390, .int .i64 t391, .slice Ao25 t392.length co25], .agg #[.int .i64 t379, .int .i64 t380, .int .i64 t381, .int .i64 t382, .slice Ao21 t383.length co21]] (by rfl) rfl rfl Zq13 ?_
 with_reducible refine (gongref08_Same.calls k t388 t389 t390 t391 _ _ t392 t379 t380 t381 t382 _ _ t383 true _ ?side1 ?side2 ?side3 ?side4 A9.out).mono ?_
 (case side1 => repeat (first | exact (Kd.R_reads' HO394.out).2.2 | (with_reducible refine Kd.C_alloc ?_ _) | (with_reducible refine Kd.C_drewN ?_ _) | (with_reducible refine Kd.C_drew ?_)))
 (case side2 => exact (Kd.R_reads' HO394.out).2.1)
 (case side3 => repeat (first | exact (Kd.R_reads' HO385.out).2.2 | (with_reducible refine Kd.C_alloc ?_ _) | (with_reducible refine Kd.C_drewN ?_ _) | (with_reducible refine Kd.C_drew ?_)))
 (case side4 => exact (Kd.R_reads' HO385.out).2.1)
 rintro e w26 ⟨rfl, hb⟩
 refine ⟨_, rfl, ?_⟩
 replace HO385 := Aside0.mk (Kd.R_below Zq8 hb)
 replace HO394 := Aside0.mk (Kd.R_below (by (with_reducible repeat (first | apply Kd.R_alloc | apply Kd.R_drewN | apply Kd.R_drew)); exact HO394.out) hb)
 replace BK378 := Aside0.mk (blkb_ BK378.out Zq31 hb)
 replace BK387 := Aside0.mk (blkb_ BK387.out Zq31 hb)
 replace HB := Aside0.mk (below_step Zq41 hb)
 (try clear hb)
 (try clear hb2)
 (try clear hk)
 (try clear hi)
 refine hK.out _ _ ⟨(blk_cell BK378.out 0).trans rfl, (blk_cell BK378.out 1).trans rfl, (blk_cell BK378.out 2).trans rfl, (blk_cell BK378.out 3).trans rfl, (blk_cell BK378.out 4).trans rfl, (blk_cell BK387.out 0).trans rfl, (blk_cell BK387.out 1).trans rfl, (blk_cell BK387.out 2).trans rfl, (blk_cell BK387.out 3).trans rfl, (blk_cell BK387.out 4).trans rfl⟩ (fun hHeld_ => ?_)
 clear hK K hHeld
 have hHeld := hHeld_
 clear hHeld_
 refine nz_ 30 ?_
 refine pz_ 4 31 ?_
 refine pz_ 5 32 ?_
 refine pz_ 6 33 ?_
 refine pz_ 7 34 ?_
 refine pz_ 8 35 ?_
 refine pz_ 9 36 ?_
 refine oz_ 10 37 (fun K hK => ?_)
 refine goes_ Tryz.func6 (by kernel_rfl) rfl #[] (by rfl) rfl rfl Zq13 ?_
 with_reducible refine (gonglaw08_works.calls k  t396 _ ?side1 A12.out).mono ?_
 (case side1 => exact Zq56)
 rintro e w27 ⟨rfl, hb⟩
 refine ⟨_, rfl, ?_⟩
 replace HO385 := Aside0.mk (Kd.R_below Zq8 hb)
 replace HO394 := Aside0.mk (Kd.R_below (by (with_reducible repeat (first | apply Kd.R_alloc | apply Kd.R_drewN | apply Kd.R_drew)); exact HO394.out) hb)
 replace BK378 := Aside0.mk (blkb_ BK378.out Zq31 hb)
 replace BK387 := Aside0.mk (blkb_ BK387.out Zq31 hb)
 replace HB := Aside0.mk (below_step Zq41 hb)
 (try clear hb)
 (try clear hb2)
 (try clear hk)
 (try clear hi)
 refine hK.out _ _ ⟨(blk_cell BK378.out 0).trans rfl, (blk_cell BK378.out 1).trans rfl, (blk_cell BK378.out 2).trans rfl, (blk_cell BK378.out 3).trans rfl, (blk_cell BK378.out 4).trans rfl, (blk_cell BK387.out 0).trans rfl, (blk_cell BK387.out 1).trans rfl, (blk_cell BK387.out 2).trans rfl, (blk_cell BK387.out 3).trans rfl, (blk_cell BK387.out 4).trans rfl⟩ (fun hHeld_ => ?_)
 clear hK K hHeld
 have hHeld := hHeld_
 clear hHeld_
 refine nz_ 37 ?_
 refine pz_ 11 38 ?_
 refine pz_ 12 4 ?_
 refine done_ (done_of HT_.out (by kernel_rfl)) ?_
 (try clear hHeld)
 try go_wp2
 go_ret
 exact ⟨Zy41, Zy12⟩
end Go.Proofs.YtfgdnnbhlnbojaaGreatDoor.XPdR
