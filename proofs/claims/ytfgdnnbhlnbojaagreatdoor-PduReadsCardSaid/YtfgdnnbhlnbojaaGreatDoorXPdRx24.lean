-- Laid by extprint.py (the session's own driver): functions told by the kit's printer and by hand.
import Derived.Test.YtfgdnnbhlnbojaaGreatDoorXPdRx0
import Derived.Test.YtfgdnnbhlnbojaaGreatDoorXPdRx17
import Derived.Test.YtfgdnnbhlnbojaaGreatDoorXPdRx18
import Derived.Test.YtfgdnnbhlnbojaaGreatDoorXPdRx19
import Derived.Test.YtfgdnnbhlnbojaaGreatDoorXPdRx23
namespace Go.Proofs.YtfgdnnbhlnbojaaGreatDoor.XPdR
open Go.RowKit Gong Go.Proofs.YtfgdnnbhlnbojaaGreatDoorW.PrintWords Go.Proofs.YtfgdnnbhlnbojaaGreatDoorW.PrintLast Go.Proofs.YtfgdnnbhlnbojaaGreatDoorW.PrintMore
attribute [local go_sem] max2_int min2_int max_two min_two max_three min_three max_four min_four   -- for this text's walks alone
set_option linter.unusedVariables false
set_option linter.unusedSimpArgs false
mutual
def gongref08_Decode.j0 : Nat → List (S50) → Bool → Int → ByteArray → Option (Int × Int × Int × Int × (List (S30)) × Int)
 | 0, _, _, _, _ => none
 | k + 1, x4, x57, x334000, x334001 => if x57 = true then (some (0, 0, 0, 0, ([] : List (S30)), 80)) else (if 0 < (x4.length : Int) then ((gongref05_Number.f k ((rd_T50 x4 0).f1)).bind fun bt344 => (if 1 < (x4.length : Int) then ((gongref05_Number.f k ((rd_T50 x4 1).f1)).bind fun bt347 => (if 2 < (x4.length : Int) then ((gongref05_Number.f k ((rd_T50 x4 2).f1)).bind fun bt350 => (if 3 < (x4.length : Int) then ((gongref05_Parts.f k ((rd_T50 x4 3).f1)).bind fun bt353 => (gongref08_Decode.l0 k bt344.2 bt347.2 bt350.2 bt353.1 bt353.2 0 x334000 bt344.1 bt347.1 bt350.1 ([] : List (S30)))) else (none))) else (none))) else (none))) else (none))
def gongref08_Decode.l0 : Nat → Int → Int → Int → List (S50) → Int → Int → Int → Int → Int → Int → List (S30) → Option (Int × Int × Int × Int × (List (S30)) × Int)
 | 0, _, _, _, _, _, _, _, _, _, _, _ => none
 | k + 1, x5, x8, x10, x11, x12, x14, x358000, x358001, x358002, x358003, x358004 => if x14 < (x11.length : Int) then (if 0 ≤ x14 then ((gongref08_bind.f k ((rd_T50 x11 x14).f0) ((rd_T50 x11 x14).f1)).bind fun bt359 => (if bt359.2.2.2.2 = true then (if x358004.length < 2932031007402 then (gongref08_Decode.l0 k x5 x8 x10 x11 x12 (wrap64 (x14 + 1)) x358000 x358001 x358002 x358003 (x358004 ++ [(⟨bt359.1, (⟨bt359.2.1, bt359.2.2.1, bt359.2.2.2.1⟩ : S28)⟩ : S30)])) else (none)) else (some (0, 0, 0, 0, ([] : List (S30)), 80)))) else (none)) else (if x5 = 0 then (if x8 = 0 then (if x10 = 0 then (if x12 = 0 then ((gongref08_Check.f k x358000 x358001 x358002 x358003 x358004).bind fun t368 => (if t368 = 0 then (some (x358000, x358001, x358002, x358003, x358004, 0)) else (some (0, 0, 0, 0, ([] : List (S30)), 80)))) else (some (0, 0, 0, 0, ([] : List (S30)), 80))) else (some (0, 0, 0, 0, ([] : List (S30)), 80))) else (some (0, 0, 0, 0, ([] : List (S30)), 80))) else (some (0, 0, 0, 0, ([] : List (S30)), 80)))
end
def gongref08_Decode.f (k : Nat) (a0_0 : Int) (a0_1 : ByteArray) : Option (Int × Int × Int × Int × (List (S30)) × Int) := (gongref05_Parts.f k a0_1).bind fun bt335 => (if bt335.2 = 0 then (if (bt335.1.length : Int) = 4 then (if 0 < (bt335.1.length : Int) then (if ((rd_T50 bt335.1 0).f0) = 2 then (if 1 < (bt335.1.length : Int) then (if ((rd_T50 bt335.1 1).f0) = 2 then (if 2 < (bt335.1.length : Int) then (if ((rd_T50 bt335.1 2).f0) = 2 then (if 3 < (bt335.1.length : Int) then (gongref08_Decode.j0 k bt335.1 (((rd_T50 bt335.1 3).f0) != 48) a0_0 a0_1) else (none)) else (gongref08_Decode.j0 k bt335.1 true a0_0 a0_1)) else (none)) else (gongref08_Decode.j0 k bt335.1 true a0_0 a0_1)) else (none)) else (gongref08_Decode.j0 k bt335.1 true a0_0 a0_1)) else (none)) else (gongref08_Decode.j0 k bt335.1 true a0_0 a0_1)) else (gongref08_Decode.j0 k bt335.1 true a0_0 a0_1))
set_option maxHeartbeats 8000000 in
set_option maxRecDepth 100000 in
theorem gongref08_Decode.calls (k : Nat) (a0_0 : Int) (a0_1 : ByteArray) (r1 : Int) (r2 : Int) (r3 : Int) (r4 : Int) (r5 : List (S30)) (r6 : Int) (w : World) (h : gongref08_Decode.f k a0_0 a0_1 = some (r1, r2, r3, r4, r5, r6)) :
  Calls Tryz.prog 18 #[.agg #[.int .i64 a0_0, .string a0_1]] w fun e w' => ∃ v4_ : Value, e = .returned (.tuple #[.agg #[.int .i64 r1, .int .i64 r2, .int .i64 r3, .int .i64 r4, v4_], .int .i64 r6]) ∧ Kd.R k30 30 w' w.heap.size (fun _ => True) v4_ r5 ∧ Below w.heap.size w w' := by
 have hu50 := Tryz.underlying50
 have hu35 := Tryz.underlying35
 have hu30 := Tryz.underlying30
 have HB := Aside0.mk (Below.refl w.heap.size w)
 have H : ((gongref05_Parts.f k a0_1).bind fun bt335 => (if bt335.2 = 0 then (if (bt335.1.length : Int) = 4 then (if 0 < (bt335.1.length : Int) then (if ((rd_T50 bt335.1 0).f0) = 2 then (if 1 < (bt335.1.length : Int) then (if ((rd_T50 bt335.1 1).f0) = 2 then (if 2 < (bt335.1.length : Int) then (if ((rd_T50 bt335.1 2).f0) = 2 then (if 3 < (bt335.1.length : Int) then (gongref08_Decode.j0 k bt335.1 (((rd_T50 bt335.1 3).f0) != 48) a0_0 a0_1) else (none)) else (gongref08_Decode.j0 k bt335.1 true a0_0 a0_1)) else (none)) else (gongref08_Decode.j0 k bt335.1 true a0_0 a0_1)) else (none)) else (gongref08_Decode.j0 k bt335.1 true a0_0 a0_1)) else (none)) else (gongref08_Decode.j0 k bt335.1 true a0_0 a0_1)) else (gongref08_Decode.j0 k bt335.1 true a0_0 a0_1))) = some (r1, r2, r3, r4, r5, r6) := h
 clear h
 replace H := Option.bind_eq_some_iff.mp H
 obtain ⟨⟨t335, t336⟩, A20, H⟩ := H
 replace H : (if t336 = 0 then (if (t335.length : Int) = 4 then (if 0 < (t335.length : Int) then (if ((rd_T50 t335 0).f0) = 2 then (if 1 < (t335.length : Int) then (if ((rd_T50 t335 1).f0) = 2 then (if 2 < (t335.length : Int) then (if ((rd_T50 t335 2).f0) = 2 then (if 3 < (t335.length : Int) then (gongref08_Decode.j0 k t335 (((rd_T50 t335 3).f0) != 48) a0_0 a0_1) else (none)) else (gongref08_Decode.j0 k t335 true a0_0 a0_1)) else (none)) else (gongref08_Decode.j0 k t335 true a0_0 a0_1)) else (none)) else (gongref08_Decode.j0 k t335 true a0_0 a0_1)) else (none)) else (gongref08_Decode.j0 k t335 true a0_0 a0_1)) else (gongref08_Decode.j0 k t335 true a0_0 a0_1)) = some (r1, r2, r3, r4, r5, r6) := H
 have A2 := Aside0.mk A20
 clear A20
 have HC3 := Aside0.mk H
 clear H
 go_enter Tryz.func18, Tryz.ntmps18
 go_upto_region 2 with (first | ((with_reducible refine gate_dst (N := 1) rfl ?_); (try (refine gate_guard (by rfl) ?_; dsimp only)); refine box_event ?hg (N := 1) ?hd (cs := #[.int .i64 a0_0, .string a0_1]) (t := 50) ?hr ?_; (case hd => rfl); (case hg => rfl); (case hr => exact Zq2); intro gb333 hg w4 hbox hb; have BK333 := Aside0.mk (hbox); have GW333 := Aside0.mk ((by rw [hg]; exact (below_size Zq12) : w.heap.size ≤ gb333)); have GE333 := Aside0.mk ((by rw [hg]; exact (below_size Zq12) : w.heap.size ≤ gb333)); replace HB := Aside0.mk (below_step Zq12 hb); clear hb hbox hg) | ((with_reducible refine gate_dst (N := 2) rfl ?_); (try (refine gate_guard (by rfl) ?_; dsimp only)); refine box_event ?hg (N := 2) ?hd (cs := #[.int .i64 0, .int .i64 0, .int .i64 0, .int .i64 0, .slice none 0 0]) (t := 35) ?hr ?_; (case hd => rfl); (case hg => rfl); (case hr => exact Zq2); intro gb334 hg w5 hbox hb; have BK334 := Aside0.mk (hbox); have GW334 := Aside0.mk ((by rw [hg]; exact (below_size Zq25) : w.heap.size ≤ gb334)); have GE334 := Aside0.mk ((by rw [hg]; exact (below_size Zq25) : w.heap.size ≤ gb334)); have NB333_334 := Aside0.mk ((by rw [hg]; exact Nat.ne_of_lt (blk_lt (g := gb333) (o := .cells #[.int .i64 a0_0, .string a0_1] 50 (0, 0)) Zq31) : gb333 ≠ gb334)); have NB334_333 := Aside0.mk ((by rw [hg]; exact Nat.ne_of_gt (blk_lt (g := gb333) (o := .cells #[.int .i64 a0_0, .string a0_1] 50 (0, 0)) Zq31) : gb334 ≠ gb333)); replace BK333 := Aside0.mk (blkb_ BK333.out Zq31 hb); replace HB := Aside0.mk (below_step Zq25 hb); clear hb hbox hg; have hnb6 := NB333_334.out; have hnc6 := NB334_333.out; obtain ⟨hcz7_0, hcz7_1⟩ := cells2_ BK333.out; obtain ⟨hfz7_0, hfz7_1⟩ := frozen2_ BK333.out) | ((with_reducible refine gate_callee (f := 35) rfl ?_); refine goesL_ (some 20) rfl rfl Tryz.func35 (by kernel_rfl) rfl #[.string a0_1] rfl Zq13 ?_; (with_reducible refine (gongref05_Parts.calls k a0_1 t335 t336 _ A2.out).mono ?_); rintro e w8 ⟨v337, rfl, ho0, hb⟩; refine ⟨_, rfl, ?_⟩; have HO338 := Aside0.mk (Kd.R_lower (Kd.R_newB ho0 (g := gb333) (o := .cells #[.int .i64 a0_0, .string a0_1] 50 (0, 0)) Zq31) (below_size Zq40)); replace BK333 := Aside0.mk (blkb_ BK333.out Zq31 hb); replace BK334 := Aside0.mk (blkb_ BK334.out Zq31 hb); replace HB := Aside0.mk (below_step Zq40 hb); (try clear hb); (try clear hb2); (try clear hk); (try clear hi); (try clear ho0)))
 (try simp only [Act.put, List.setIfInBounds_toArray, List.set_cons_zero, List.set_cons_succ])
 go_cut [57] (fun v57 wc => ∃ (kq : Nat) (x57_2 : Bool), v57 = .bool x57_2 ∧ Aside0 (gongref08_Decode.j0 kq t335 x57_2 a0_0 a0_1 = some (r1, r2, r3, r4, r5, r6)) ∧ Aside0 (kq ≤ k) ∧ Aside0 (Kd.R k50 50 wc w.heap.size (fun k_ => k_ ≠ gb333) v337 t335) ∧ Aside0 (wc.heap[gb333]? = some (.cells #[.int .i64 a0_0, .string a0_1] 50 (0, 0))) ∧ Aside0 (wc.heap[gb334]? = some (.cells #[.int .i64 0, .int .i64 0, .int .i64 0, .int .i64 0, (.slice none 0 0)] 35 (0, 0))) ∧ Aside0 (Below w.heap.size w wc))
 case first =>
  have H := HC3.out
  clear HC3
  by_cases c9 : t336 = 0
  ·rw [if_pos c9] at H
   have c9b0 : (t336 == 0) = true := beq_iff_eq.mpr c9
   have c9b1 : (t336 != 0) = false := bne_eq_false_iff_eq.mpr c9
   clear c9
   (first | rw [c9b0] | (simp only [i64_w, i32_w]; rw [c9b0]) | skip)
   by_cases c10 : (t335.length : Int) = 4
   ·rw [if_pos c10] at H
    have c10b0 : ((t335.length : Int) == 4) = true := beq_iff_eq.mpr c10
    have c10b1 : ((t335.length : Int) != 4) = false := bne_eq_false_iff_eq.mpr c10
    clear c10
    by_cases c11 : 0 < (t335.length : Int)
    ·rw [if_pos c11] at H
     have c11b0 : decide (0 < (t335.length : Int)) = true := decide_eq_true c11
     have c11b1 : decide (0 < t335.length) = true := decide_eq_true (by omega)
     clear c11
     by_cases c12 : ((rd_T50 t335 0).f0) = 2
     ·rw [if_pos c12] at H
      have c12b0 : (((rd_T50 t335 0).f0) == 2) = true := beq_iff_eq.mpr c12
      have c12b1 : (((rd_T50 t335 0).f0) != 2) = false := bne_eq_false_iff_eq.mpr c12
      clear c12
      by_cases c13 : 1 < (t335.length : Int)
      ·rw [if_pos c13] at H
       have c13b0 : decide (1 < (t335.length : Int)) = true := decide_eq_true c13
       have c13b1 : decide (1 < t335.length) = true := decide_eq_true (by omega)
       clear c13
       by_cases c14 : ((rd_T50 t335 1).f0) = 2
       ·rw [if_pos c14] at H
        have c14b0 : (((rd_T50 t335 1).f0) == 2) = true := beq_iff_eq.mpr c14
        have c14b1 : (((rd_T50 t335 1).f0) != 2) = false := bne_eq_false_iff_eq.mpr c14
        clear c14
        by_cases c15 : 2 < (t335.length : Int)
        ·rw [if_pos c15] at H
         have c15b0 : decide (2 < (t335.length : Int)) = true := decide_eq_true c15
         have c15b1 : decide (2 < t335.length) = true := decide_eq_true (by omega)
         clear c15
         by_cases c16 : ((rd_T50 t335 2).f0) = 2
         ·rw [if_pos c16] at H
          have c16b0 : (((rd_T50 t335 2).f0) == 2) = true := beq_iff_eq.mpr c16
          have c16b1 : (((rd_T50 t335 2).f0) != 2) = false := bne_eq_false_iff_eq.mpr c16
          clear c16
          by_cases c17 : 3 < (t335.length : Int)
          ·rw [if_pos c17] at H
           have c17b0 : decide (3 < (t335.length : Int)) = true := decide_eq_true c17
           have c17b1 : decide (3 < t335.length) = true := decide_eq_true (by omega)
           clear c17
           have H' := Aside0.mk H
           clear H
           obtain ⟨Ao18, co18, eo18⟩ := Kd.R_slice HO338.out
           subst eo18
           have p339 : 0 ≤ (0 : Int) := (by omega)
           have q339 : 0 < (t335.length : Int) := of_decide_eq_true Zq1
           obtain ⟨ad339, e339, hx339_0, hx339_1⟩ := at_T50 (Kd.R_reads' HO338.out).2.2 0 p339 q339
           cases e339
           have qi339 : (0 < t335.length) = True := eq_true (by omega)
           (try rw [show ((0 : Int)).toNat = 0 from rfl] at hx339_0)
           (try rw [show 0 * 2 = 0 from rfl] at hx339_0)
           (try rw [Addr.add_zero'] at hx339_0)
           (try rw [show ((0 : Int)).toNat = 0 from rfl] at hx339_1)
           (try rw [show 0 * 2 = 0 from rfl] at hx339_1)
           (try rw [Addr.add_zero'] at hx339_1)
           replace p339 := eq_true p339
           replace q339 := eq_true q339
           have p340 : 0 ≤ (1 : Int) := (by omega)
           have q340 : 1 < (t335.length : Int) := of_decide_eq_true Zq1
           obtain ⟨ad340, e340, hx340_0, hx340_1⟩ := at_T50 (Kd.R_reads' HO338.out).2.2 1 p340 q340
           obtain rfl : ad339 = ad340 := (by injection e340)
           (try simp only [show (1 : Int).toNat = 1 from rfl, Nat.reduceMul, Nat.reduceEqDiff, Go.Addr.add, ↓reduceIte] at hx340_0)
           (try simp only [show (1 : Int).toNat = 1 from rfl, Nat.reduceMul, Nat.reduceEqDiff, Go.Addr.add, ↓reduceIte] at hx340_1)
           have qi340 : (1 < t335.length) = True := eq_true (by omega)
           (try rw [show ((1 : Int)).toNat = 1 from rfl] at hx340_0)
           (try rw [show 1 * 2 = 2 from rfl] at hx340_0)
           (try rw [show ((1 : Int)).toNat = 1 from rfl] at hx340_1)
           (try rw [show 1 * 2 = 2 from rfl] at hx340_1)
           replace p340 := eq_true p340
           replace q340 := eq_true q340
           have p341 : 0 ≤ (2 : Int) := (by omega)
           have q341 : 2 < (t335.length : Int) := of_decide_eq_true Zq1
           obtain ⟨ad341, e341, hx341_0, hx341_1⟩ := at_T50 (Kd.R_reads' HO338.out).2.2 2 p341 q341
           obtain rfl : ad339 = ad341 := (by injection e341)
           (try simp only [show (2 : Int).toNat = 2 from rfl, Nat.reduceMul, Nat.reduceEqDiff, Go.Addr.add, ↓reduceIte] at hx341_0)
           (try simp only [show (2 : Int).toNat = 2 from rfl, Nat.reduceMul, Nat.reduceEqDiff, Go.Addr.add, ↓reduceIte] at hx341_1)
           have qi341 : (2 < t335.length) = True := eq_true (by omega)
           (try rw [show ((2 : Int)).toNat = 2 from rfl] at hx341_0)
           (try rw [show 2 * 2 = 4 from rfl] at hx341_0)
           (try rw [show ((2 : Int)).toNat = 2 from rfl] at hx341_1)
           (try rw [show 2 * 2 = 4 from rfl] at hx341_1)
           replace p341 := eq_true p341
           replace q341 := eq_true q341
           have p342 : 0 ≤ (3 : Int) := (by omega)
           have q342 : 3 < (t335.length : Int) := of_decide_eq_true Zq1
           obtain ⟨ad342, e342, hx342_0, hx342_1⟩ := at_T50 (Kd.R_reads' HO338.out).2.2 3 p342 q342
           obtain rfl : ad339 = ad342 := (by injection e342)
           (try simp only [show (3 : Int).toNat = 3 from rfl, Nat.reduceMul, Nat.reduceEqDiff, Go.Addr.add, ↓reduceIte] at hx342_0)
           (try simp only [show (3 : Int).toNat = 3 from rfl, Nat.reduceMul, Nat.reduceEqDiff, Go.Addr.add, ↓reduceIte] at hx342_1)
           have qi342 : (3 < t335.length) = True := eq_true (by omega)
           (try rw [show ((3 : Int)).toNat = 3 from rfl] at hx342_0)
           (try rw [show 3 * 2 = 6 from rfl] at hx342_0)
           (try rw [show ((3 : Int)).toNat = 3 from rfl] at hx342_1)
           (try rw [show 3 * 2 = 6 from rfl] at hx342_1)
           replace p342 := eq_true p342
           replace q342 := eq_true q342
           go_wp2
           go_meet
           case rel => exact ⟨_, ((((rd_T50 t335 3).f0) != 48)), Zq11, H', ⟨Zy61⟩, ⟨Zy39⟩, ⟨Zy49⟩, ⟨Zy50⟩, ⟨Zy11⟩⟩
          ·rw [if_neg c17] at H
           exact absurd H (by simp)
         ·rw [if_neg c16] at H
          have c16b0 : (((rd_T50 t335 2).f0) == 2) = false := beq_eq_false_iff_ne.mpr c16
          have c16b1 : (((rd_T50 t335 2).f0) != 2) = true := bne_iff_ne.mpr c16
          have H' := Aside0.mk H
          clear H
          obtain ⟨Ao19, co19, eo19⟩ := Kd.R_slice HO338.out
          subst eo19
          have p339 : 0 ≤ (0 : Int) := (by omega)
          have q339 : 0 < (t335.length : Int) := of_decide_eq_true Zq1
          obtain ⟨ad339, e339, hx339_0, hx339_1⟩ := at_T50 (Kd.R_reads' HO338.out).2.2 0 p339 q339
          cases e339
          have qi339 : (0 < t335.length) = True := eq_true (by omega)
          (try rw [show ((0 : Int)).toNat = 0 from rfl] at hx339_0)
          (try rw [show 0 * 2 = 0 from rfl] at hx339_0)
          (try rw [Addr.add_zero'] at hx339_0)
          (try rw [show ((0 : Int)).toNat = 0 from rfl] at hx339_1)
          (try rw [show 0 * 2 = 0 from rfl] at hx339_1)
          (try rw [Addr.add_zero'] at hx339_1)
          replace p339 := eq_true p339
          replace q339 := eq_true q339
          have p340 : 0 ≤ (1 : Int) := (by omega)
          have q340 : 1 < (t335.length : Int) := of_decide_eq_true Zq1
          obtain ⟨ad340, e340, hx340_0, hx340_1⟩ := at_T50 (Kd.R_reads' HO338.out).2.2 1 p340 q340
          obtain rfl : ad339 = ad340 := (by injection e340)
          (try simp only [show (1 : Int).toNat = 1 from rfl, Nat.reduceMul, Nat.reduceEqDiff, Go.Addr.add, ↓reduceIte] at hx340_0)
          (try simp only [show (1 : Int).toNat = 1 from rfl, Nat.reduceMul, Nat.reduceEqDiff, Go.Addr.add, ↓reduceIte] at hx340_1)
          have qi340 : (1 < t335.length) = True := eq_true (by omega)
          (try rw [show ((1 : Int)).toNat = 1 from rfl] at hx340_0)
          (try rw [show 1 * 2 = 2 from rfl] at hx340_0)
          (try rw [show ((1 : Int)).toNat = 1 from rfl] at hx340_1)
          (try rw [show 1 * 2 = 2 from rfl] at hx340_1)
          replace p340 := eq_true p340
          replace q340 := eq_true q340
          have p341 : 0 ≤ (2 : Int) := (by omega)
          have q341 : 2 < (t335.length : Int) := of_decide_eq_true Zq1
          obtain ⟨ad341, e341, hx341_0, hx341_1⟩ := at_T50 (Kd.R_reads' HO338.out).2.2 2 p341 q341
          obtain rfl : ad339 = ad341 := (by injection e341)
          (try simp only [show (2 : Int).toNat = 2 from rfl, Nat.reduceMul, Nat.reduceEqDiff, Go.Addr.add, ↓reduceIte] at hx341_0)
          (try simp only [show (2 : Int).toNat = 2 from rfl, Nat.reduceMul, Nat.reduceEqDiff, Go.Addr.add, ↓reduceIte] at hx341_1)
          have qi341 : (2 < t335.length) = True := eq_true (by omega)
          (try rw [show ((2 : Int)).toNat = 2 from rfl] at hx341_0)
          (try rw [show 2 * 2 = 4 from rfl] at hx341_0)
          (try rw [show ((2 : Int)).toNat = 2 from rfl] at hx341_1)
          (try rw [show 2 * 2 = 4 from rfl] at hx341_1)
          replace p341 := eq_true p341
          replace q341 := eq_true q341
          go_wp2
          go_meet
          case rel => exact ⟨_, (true), Zq11, H', ⟨Zy61⟩, ⟨Zy39⟩, ⟨Zy49⟩, ⟨Zy50⟩, ⟨Zy11⟩⟩
        ·rw [if_neg c15] at H
         exact absurd H (by simp)
       ·rw [if_neg c14] at H
        have c14b0 : (((rd_T50 t335 1).f0) == 2) = false := beq_eq_false_iff_ne.mpr c14
        have c14b1 : (((rd_T50 t335 1).f0) != 2) = true := bne_iff_ne.mpr c14
        have H' := Aside0.mk H
        clear H
        obtain ⟨Ao20, co20, eo20⟩ := Kd.R_slice HO338.out
        subst eo20
        have p339 : 0 ≤ (0 : Int) := (by omega)
        have q339 : 0 < (t335.length : Int) := of_decide_eq_true Zq1
        obtain ⟨ad339, e339, hx339_0, hx339_1⟩ := at_T50 (Kd.R_reads' HO338.out).2.2 0 p339 q339
        cases e339
        have qi339 : (0 < t335.length) = True := eq_true (by omega)
        (try rw [show ((0 : Int)).toNat = 0 from rfl] at hx339_0)
        (try rw [show 0 * 2 = 0 from rfl] at hx339_0)
        (try rw [Addr.add_zero'] at hx339_0)
        (try rw [show ((0 : Int)).toNat = 0 from rfl] at hx339_1)
        (try rw [show 0 * 2 = 0 from rfl] at hx339_1)
        (try rw [Addr.add_zero'] at hx339_1)
        replace p339 := eq_true p339
        replace q339 := eq_true q339
        have p340 : 0 ≤ (1 : Int) := (by omega)
        have q340 : 1 < (t335.length : Int) := of_decide_eq_true Zq1
        obtain ⟨ad340, e340, hx340_0, hx340_1⟩ := at_T50 (Kd.R_reads' HO338.out).2.2 1 p340 q340
        obtain rfl : ad339 = ad340 := (by injection e340)
        (try simp only [show (1 : Int).toNat = 1 from rfl, Nat.reduceMul, Nat.reduceEqDiff, Go.Addr.add, ↓reduceIte] at hx340_0)
        (try simp only [show (1 : Int).toNat = 1 from rfl, Nat.reduceMul, Nat.reduceEqDiff, Go.Addr.add, ↓reduceIte] at hx340_1)
        have qi340 : (1 < t335.length) = True := eq_true (by omega)
        (try rw [show ((1 : Int)).toNat = 1 from rfl] at hx340_0)
        (try rw [show 1 * 2 = 2 from rfl] at hx340_0)
        (try rw [show ((1 : Int)).toNat = 1 from rfl] at hx340_1)
        (try rw [show 1 * 2 = 2 from rfl] at hx340_1)
        replace p340 := eq_true p340
        replace q340 := eq_true q340
        go_wp2
        go_meet
        case rel => exact ⟨_, (true), Zq11, H', ⟨Zy61⟩, ⟨Zy39⟩, ⟨Zy49⟩, ⟨Zy50⟩, ⟨Zy11⟩⟩
      ·rw [if_neg c13] at H
       exact absurd H (by simp)
     ·rw [if_neg c12] at H
      have c12b0 : (((rd_T50 t335 0).f0) == 2) = false := beq_eq_false_iff_ne.mpr c12
      have c12b1 : (((rd_T50 t335 0).f0) != 2) = true := bne_iff_ne.mpr c12
      have H' := Aside0.mk H
      clear H
      obtain ⟨Ao21, co21, eo21⟩ := Kd.R_slice HO338.out
      subst eo21
      have p339 : 0 ≤ (0 : Int) := (by omega)
      have q339 : 0 < (t335.length : Int) := of_decide_eq_true Zq1
      obtain ⟨ad339, e339, hx339_0, hx339_1⟩ := at_T50 (Kd.R_reads' HO338.out).2.2 0 p339 q339
      cases e339
      have qi339 : (0 < t335.length) = True := eq_true (by omega)
      (try rw [show ((0 : Int)).toNat = 0 from rfl] at hx339_0)
      (try rw [show 0 * 2 = 0 from rfl] at hx339_0)
      (try rw [Addr.add_zero'] at hx339_0)
      (try rw [show ((0 : Int)).toNat = 0 from rfl] at hx339_1)
      (try rw [show 0 * 2 = 0 from rfl] at hx339_1)
      (try rw [Addr.add_zero'] at hx339_1)
      replace p339 := eq_true p339
      replace q339 := eq_true q339
      go_wp2
      go_meet
      case rel => exact ⟨_, (true), Zq11, H', ⟨Zy61⟩, ⟨Zy39⟩, ⟨Zy49⟩, ⟨Zy50⟩, ⟨Zy11⟩⟩
    ·rw [if_neg c11] at H
     exact absurd H (by simp)
   ·rw [if_neg c10] at H
    have c10b0 : ((t335.length : Int) == 4) = false := beq_eq_false_iff_ne.mpr c10
    have c10b1 : ((t335.length : Int) != 4) = true := bne_iff_ne.mpr c10
    have H' := Aside0.mk H
    clear H
    obtain ⟨Ao22, co22, eo22⟩ := Kd.R_slice HO338.out
    subst eo22
    go_wp2
    go_meet
    case rel => exact ⟨_, (true), Zq11, H', ⟨Zy61⟩, ⟨Zy39⟩, ⟨Zy49⟩, ⟨Zy50⟩, ⟨Zy11⟩⟩
  ·rw [if_neg c9] at H
   have c9b0 : (t336 == 0) = false := beq_eq_false_iff_ne.mpr c9
   have c9b1 : (t336 != 0) = true := bne_iff_ne.mpr c9
   (first | rw [c9b0] | (simp only [i64_w, i32_w]; rw [c9b0]) | skip)
   have H' := Aside0.mk H
   clear H
   go_wp2
   go_meet
   case rel => exact ⟨_, (true), Zq11, H', ⟨Zy61⟩, ⟨Zy39⟩, ⟨Zy49⟩, ⟨Zy50⟩, ⟨Zy11⟩⟩
 case rest =>
  clear HC3
  (try clear c1); (try clear p2); (try clear c3); (try clear p3); (try clear q3); (try clear hx3); (try clear qi3); (try clear c6); (try clear c9); (try clear c9b0); (try clear c9b1); (try clear c10); (try clear c10b0); (try clear c10b1); (try clear c11); (try clear c11b0); (try clear c11b1); (try clear c12); (try clear c12b0); (try clear c12b1); (try clear c13); (try clear c13b0); (try clear c13b1); (try clear c14); (try clear c14b0); (try clear c14b1); (try clear c15); (try clear c15b0); (try clear c15b1); (try clear c16); (try clear c16b0); (try clear c16b1); (try clear c17); (try clear c17b0); (try clear c17b1); (try clear c18); (try clear hcz7_0); (try clear hcz7_1); (try clear hfz7_0); (try clear hfz7_1); (try clear hx339_0); (try clear hx339_1); (try clear hx340_0); (try clear hx340_1); (try clear hx341_0); (try clear hx341_1); (try clear hx342_0); (try clear hx342_1); (try clear p339); (try clear p340); (try clear p341); (try clear p342); (try clear q339); (try clear q340); (try clear q341); (try clear q342)
  obtain ⟨kq, x57_2, rfl, HA, HJ2, HO_4, BK333, BK334, HB⟩ := hcut
  cases kq with
  | zero => exact absurd HA.out (by simp [gongref08_Decode.j0])
  | succ kj2 =>
   have H := HA.out
   clear HA
   simp only [gongref08_Decode.j0] at H
   by_cases c23 : x57_2 = true
   ·subst c23
    have H1 : (some (0, 0, 0, 0, ([] : List (S30)), 80)) = some (r1, r2, r3, r4, r5, r6) := by rw [if_pos rfl] at H; exact H
    clear H
    have H := H1
    clear H1
    simp only [Option.some.injEq, Prod.mk.injEq] at H
    obtain ⟨rfl, rfl, rfl, rfl, rfl, rfl⟩ := H
    have hnb24 := NB334_333.out
    have hnc24 := NB333_334.out
    obtain ⟨hcz25_0, hcz25_1, hcz25_2, hcz25_3, hcz25_4⟩ := cells5_ BK334.out
    obtain ⟨hfz25_0, hfz25_1, hfz25_2, hfz25_3, hfz25_4⟩ := frozen5_ BK334.out
    go_wp2
    refine bodyPost_ret (results_ct rfl _ _ gb334 35 #[.int .i64 0, .int .i64 0, .int .i64 0, .int .i64 0, .slice none 0 0] (0, 0) _ rfl Zq47 Tryz.underlying35 rfl (by kernel_rfl)) rfl ?_
    exact ⟨_, Zy55, Zy35, Zy11⟩
   ·replace c23 := Bool.eq_false_iff.mpr c23
    subst c23
    have H1 : (if 0 < (t335.length : Int) then ((gongref05_Number.f kj2 ((rd_T50 t335 0).f1)).bind fun bt344 => (if 1 < (t335.length : Int) then ((gongref05_Number.f kj2 ((rd_T50 t335 1).f1)).bind fun bt347 => (if 2 < (t335.length : Int) then ((gongref05_Number.f kj2 ((rd_T50 t335 2).f1)).bind fun bt350 => (if 3 < (t335.length : Int) then ((gongref05_Parts.f kj2 ((rd_T50 t335 3).f1)).bind fun bt353 => (gongref08_Decode.l0 kj2 bt344.2 bt347.2 bt350.2 bt353.1 bt353.2 0 a0_0 bt344.1 bt347.1 bt350.1 ([] : List (S30)))) else (none))) else (none))) else (none))) else (none)) = some (r1, r2, r3, r4, r5, r6) := by rw [if_neg (show ¬ (false = true) by decide)] at H; exact H
    clear H
    have H := H1
    clear H1
    by_cases c26 : 0 < (t335.length : Int)
    ·rw [if_pos c26] at H
     have c26b0 : decide (0 < (t335.length : Int)) = true := decide_eq_true c26
     have c26b1 : decide (0 < t335.length) = true := decide_eq_true (by omega)
     clear c26
     replace H := Option.bind_eq_some_iff.mp H
     obtain ⟨⟨t344, t345⟩, A270, H⟩ := H
     replace H : (if 1 < (t335.length : Int) then ((gongref05_Number.f kj2 ((rd_T50 t335 1).f1)).bind fun bt347 => (if 2 < (t335.length : Int) then ((gongref05_Number.f kj2 ((rd_T50 t335 2).f1)).bind fun bt350 => (if 3 < (t335.length : Int) then ((gongref05_Parts.f kj2 ((rd_T50 t335 3).f1)).bind fun bt353 => (gongref08_Decode.l0 kj2 t345 bt347.2 bt350.2 bt353.1 bt353.2 0 a0_0 t344 bt347.1 bt350.1 ([] : List (S30)))) else (none))) else (none))) else (none)) = some (r1, r2, r3, r4, r5, r6) := H
     have A27 := Aside0.mk A270
     clear A270
     by_cases c28 : 1 < (t335.length : Int)
     ·rw [if_pos c28] at H
      have c28b0 : decide (1 < (t335.length : Int)) = true := decide_eq_true c28
      have c28b1 : decide (1 < t335.length) = true := decide_eq_true (by omega)
      clear c28
      replace H := Option.bind_eq_some_iff.mp H
      obtain ⟨⟨t347, t348⟩, A290, H⟩ := H
      replace H : (if 2 < (t335.length : Int) then ((gongref05_Number.f kj2 ((rd_T50 t335 2).f1)).bind fun bt350 => (if 3 < (t335.length : Int) then ((gongref05_Parts.f kj2 ((rd_T50 t335 3).f1)).bind fun bt353 => (gongref08_Decode.l0 kj2 t345 t348 bt350.2 bt353.1 bt353.2 0 a0_0 t344 t347 bt350.1 ([] : List (S30)))) else (none))) else (none)) = some (r1, r2, r3, r4, r5, r6) := H
      have A29 := Aside0.mk A290
      clear A290
      by_cases c30 : 2 < (t335.length : Int)
      ·rw [if_pos c30] at H
       have c30b0 : decide (2 < (t335.length : Int)) = true := decide_eq_true c30
       have c30b1 : decide (2 < t335.length) = true := decide_eq_true (by omega)
       clear c30
       replace H := Option.bind_eq_some_iff.mp H
       obtain ⟨⟨t350, t351⟩, A310, H⟩ := H
       replace H : (if 3 < (t335.length : Int) then ((gongref05_Parts.f kj2 ((rd_T50 t335 3).f1)).bind fun bt353 => (gongref08_Decode.l0 kj2 t345 t348 t351 bt353.1 bt353.2 0 a0_0 t344 t347 t350 ([] : List (S30)))) else (none)) = some (r1, r2, r3, r4, r5, r6) := H
       have A31 := Aside0.mk A310
       clear A310
       by_cases c32 : 3 < (t335.length : Int)
       ·rw [if_pos c32] at H
        have c32b0 : decide (3 < (t335.length : Int)) = true := decide_eq_true c32
        have c32b1 : decide (3 < t335.length) = true := decide_eq_true (by omega)
        clear c32
        replace H := Option.bind_eq_some_iff.mp H
        obtain ⟨⟨t353, t354⟩, A330, H⟩ := H
        replace H : (gongref08_Decode.l0 kj2 t345 t348 t351 t353 t354 0 a0_0 t344 t347 t350 ([] : List (S30))) = some (r1, r2, r3, r4, r5, r6) := H
        have A33 := Aside0.mk A330
        clear A330
        have H' := Aside0.mk H
        clear H
        obtain ⟨Ao34, co34, eo34⟩ := Kd.R_slice HO_4.out
        subst eo34
        have p343 : 0 ≤ (0 : Int) := (by omega)
        have q343 : 0 < (t335.length : Int) := of_decide_eq_true Zq1
        obtain ⟨ad343, e343, hx343_0, hx343_1⟩ := at_T50 (Kd.R_reads' HO_4.out).2.2 0 p343 q343
        cases e343
        have qi343 : (0 < t335.length) = True := eq_true (by omega)
        (try rw [show ((0 : Int)).toNat = 0 from rfl] at hx343_0)
        (try rw [show 0 * 2 = 0 from rfl] at hx343_0)
        (try rw [Addr.add_zero'] at hx343_0)
        (try rw [show ((0 : Int)).toNat = 0 from rfl] at hx343_1)
        (try rw [show 0 * 2 = 0 from rfl] at hx343_1)
        (try rw [Addr.add_zero'] at hx343_1)
        replace p343 := eq_true p343
        replace q343 := eq_true q343
        go_wp2_with (first | ((with_reducible refine gate_callee (f := 36) rfl ?_); refine goesL_ (some 64) rfl rfl Tryz.func36 (by kernel_rfl) rfl #[.string ((rd_T50 t335 0).f1)] rfl Zq13 ?_; (with_reducible refine (gongref05_Number.calls kj2 ((rd_T50 t335 0).f1) t344 t345 _ A27.out).mono ?_); rintro e w' ⟨rfl, ⟨nd, rfl⟩⟩; refine ⟨_, rfl, ?_⟩; (try (rw [drewN_self wc]; generalize hq_ : World.drewN wc _ = wc; have n0_ : Aside0 (Kd.R k50 50 wc w.heap.size (fun k_ => k_ ≠ gb333) (.slice (some ad343) t335.length co34) t335) := ⟨by rw [← hq_]; exact Zq6⟩; have n1_ : Aside0 (wc.heap[gb333]? = some (.cells #[.int .i64 a0_0, .string a0_1] 50 (0, 0))) := ⟨by rw [← hq_]; exact Zq31⟩; have n2_ : Aside0 (wc.heap[gb334]? = some (.cells #[.int .i64 0, .int .i64 0, .int .i64 0, .int .i64 0, .slice none 0 0] 35 (0, 0))) := ⟨by rw [← hq_]; exact Zq31⟩; have n3_ : Aside0 (Below w.heap.size w wc) := ⟨by rw [← hq_]; exact Zq40⟩; clear HO_4 BK333 BK334 HB hq_; have HO_4 := n0_; have BK333 := n1_; have BK334 := n2_; have HB := n3_; clear n0_ n1_ n2_ n3_)); have p346 : 0 ≤ (1 : Int) := (by omega); have q346 : 1 < (t335.length : Int) := of_decide_eq_true Zq1; obtain ⟨ad346, e346, hx346_0, hx346_1⟩ := at_T50 (Kd.R_reads' HO_4.out).2.2 1 p346 q346; obtain rfl : ad343 = ad346 := (by injection e346); (try simp only [show (1 : Int).toNat = 1 from rfl, Nat.reduceMul, Nat.reduceEqDiff, Go.Addr.add, ↓reduceIte] at hx346_0); (try simp only [show (1 : Int).toNat = 1 from rfl, Nat.reduceMul, Nat.reduceEqDiff, Go.Addr.add, ↓reduceIte] at hx346_1); have qi346 : (1 < t335.length) = True := eq_true (by omega); (try rw [show ((1 : Int)).toNat = 1 from rfl] at hx346_0); (try rw [show 1 * 2 = 2 from rfl] at hx346_0); (try rw [show ((1 : Int)).toNat = 1 from rfl] at hx346_1); (try rw [show 1 * 2 = 2 from rfl] at hx346_1); replace p346 := eq_true p346; replace q346 := eq_true q346) | ((with_reducible refine gate_callee (f := 36) rfl ?_); refine goesL_ (some 72) rfl rfl Tryz.func36 (by kernel_rfl) rfl #[.string ((rd_T50 t335 1).f1)] rfl Zq13 ?_; (with_reducible refine (gongref05_Number.calls kj2 ((rd_T50 t335 1).f1) t347 t348 _ A29.out).mono ?_); rintro e w' ⟨rfl, ⟨nd, rfl⟩⟩; refine ⟨_, rfl, ?_⟩; (try (rw [drewN_self wc]; generalize hq_ : World.drewN wc _ = wc; have n0_ : Aside0 (Kd.R k50 50 wc w.heap.size (fun k_ => k_ ≠ gb333) (.slice (some ad343) t335.length co34) t335) := ⟨by rw [← hq_]; exact Zq6⟩; have n1_ : Aside0 (wc.heap[gb333]? = some (.cells #[.int .i64 a0_0, .string a0_1] 50 (0, 0))) := ⟨by rw [← hq_]; exact Zq31⟩; have n2_ : Aside0 (wc.heap[gb334]? = some (.cells #[.int .i64 0, .int .i64 0, .int .i64 0, .int .i64 0, .slice none 0 0] 35 (0, 0))) := ⟨by rw [← hq_]; exact Zq31⟩; have n3_ : Aside0 (Below w.heap.size w wc) := ⟨by rw [← hq_]; exact Zq40⟩; clear HO_4 BK333 BK334 HB hq_; have HO_4 := n0_; have BK333 := n1_; have BK334 := n2_; have HB := n3_; clear n0_ n1_ n2_ n3_)); have p349 : 0 ≤ (2 : Int) := (by omega); have q349 : 2 < (t335.length : Int) := of_decide_eq_true Zq1; obtain ⟨ad349, e349, hx349_0, hx349_1⟩ := at_T50 (Kd.R_reads' HO_4.out).2.2 2 p349 q349; obtain rfl : ad343 = ad349 := (by injection e349); (try simp only [show (2 : Int).toNat = 2 from rfl, Nat.reduceMul, Nat.reduceEqDiff, Go.Addr.add, ↓reduceIte] at hx349_0); (try simp only [show (2 : Int).toNat = 2 from rfl, Nat.reduceMul, Nat.reduceEqDiff, Go.Addr.add, ↓reduceIte] at hx349_1); have qi349 : (2 < t335.length) = True := eq_true (by omega); (try rw [show ((2 : Int)).toNat = 2 from rfl] at hx349_0); (try rw [show 2 * 2 = 4 from rfl] at hx349_0); (try rw [show ((2 : Int)).toNat = 2 from rfl] at hx349_1); (try rw [show 2 * 2 = 4 from rfl] at hx349_1); replace p349 := eq_true p349; replace q349 := eq_true q349) | ((with_reducible refine gate_callee (f := 36) rfl ?_); refine goesL_ (some 80) rfl rfl Tryz.func36 (by kernel_rfl) rfl #[.string ((rd_T50 t335 2).f1)] rfl Zq13 ?_; (with_reducible refine (gongref05_Number.calls kj2 ((rd_T50 t335 2).f1) t350 t351 _ A31.out).mono ?_); rintro e w' ⟨rfl, ⟨nd, rfl⟩⟩; refine ⟨_, rfl, ?_⟩; (try (rw [drewN_self wc]; generalize hq_ : World.drewN wc _ = wc; have n0_ : Aside0 (Kd.R k50 50 wc w.heap.size (fun k_ => k_ ≠ gb333) (.slice (some ad343) t335.length co34) t335) := ⟨by rw [← hq_]; exact Zq6⟩; have n1_ : Aside0 (wc.heap[gb333]? = some (.cells #[.int .i64 a0_0, .string a0_1] 50 (0, 0))) := ⟨by rw [← hq_]; exact Zq31⟩; have n2_ : Aside0 (wc.heap[gb334]? = some (.cells #[.int .i64 0, .int .i64 0, .int .i64 0, .int .i64 0, .slice none 0 0] 35 (0, 0))) := ⟨by rw [← hq_]; exact Zq31⟩; have n3_ : Aside0 (Below w.heap.size w wc) := ⟨by rw [← hq_]; exact Zq40⟩; clear HO_4 BK333 BK334 HB hq_; have HO_4 := n0_; have BK333 := n1_; have BK334 := n2_; have HB := n3_; clear n0_ n1_ n2_ n3_)); have p352 : 0 ≤ (3 : Int) := (by omega); have q352 : 3 < (t335.length : Int) := of_decide_eq_true Zq1; obtain ⟨ad352, e352, hx352_0, hx352_1⟩ := at_T50 (Kd.R_reads' HO_4.out).2.2 3 p352 q352; obtain rfl : ad343 = ad352 := (by injection e352); (try simp only [show (3 : Int).toNat = 3 from rfl, Nat.reduceMul, Nat.reduceEqDiff, Go.Addr.add, ↓reduceIte] at hx352_0); (try simp only [show (3 : Int).toNat = 3 from rfl, Nat.reduceMul, Nat.reduceEqDiff, Go.Addr.add, ↓reduceIte] at hx352_1); have qi352 : (3 < t335.length) = True := eq_true (by omega); (try rw [show ((3 : Int)).toNat = 3 from rfl] at hx352_0); (try rw [show 3 * 2 = 6 from rfl] at hx352_0); (try rw [show ((3 : Int)).toNat = 3 from rfl] at hx352_1); (try rw [show 3 * 2 = 6 from rfl] at hx352_1); replace p352 := eq_true p352; replace q352 := eq_true q352) | ((with_reducible refine gate_callee (f := 35) rfl ?_); refine goesL_ (some 88) rfl rfl Tryz.func35 (by kernel_rfl) rfl #[.string ((rd_T50 t335 3).f1)] rfl Zq13 ?_; (with_reducible refine (gongref05_Parts.calls kj2 ((rd_T50 t335 3).f1) t353 t354 _ A33.out).mono ?_); rintro e w35 ⟨v355, rfl, ho0, hb⟩; refine ⟨_, rfl, ?_⟩; have HO356 := Aside0.mk (Kd.R_lower (Kd.R_newB (Kd.R_new' ho0 (Kd.R_lt Zq6)) (g := gb333) (o := .cells #[.int .i64 a0_0, .string a0_1] 50 (0, 0)) Zq31) (below_size Zq40)); replace HO_4 := Aside0.mk (Kd.R_elder' Zq6 (Kd.R_base ho0) hb); replace BK333 := Aside0.mk (blkb_ BK333.out Zq31 hb); replace BK334 := Aside0.mk (blkb_ BK334.out Zq31 hb); replace HB := Aside0.mk (below_step Zq40 hb); (try clear hb); (try clear hb2); (try clear hk); (try clear hi); (try clear ho0); have hnb36 := NB333_334.out; have hnc36 := NB334_333.out; obtain ⟨hcz37_0, hcz37_1⟩ := cells2_ BK333.out; obtain ⟨hfz37_0, hfz37_1⟩ := frozen2_ BK333.out) | ((with_reducible refine gate_dst (N := 13) rfl ?_); (try (refine gate_guard (by rfl) ?_; dsimp only)); refine box_event ?hg (N := 13) ?hd (cs := #[.int .i64 0, .int .i64 0, .int .i64 0, .int .i64 0, .slice none 0 0]) (t := 35) ?hr ?_; (case hd => rfl); (case hg => rfl); (case hr => exact Zq2); intro gb357 hg w38 hbox hb; have BK357 := Aside0.mk (hbox); have GW357 := Aside0.mk ((by rw [hg]; exact (below_size Zq40) : w.heap.size ≤ gb357)); have GE357 := Aside0.mk ((by rw [hg]; exact (below_size Zq40) : w.heap.size ≤ gb357)); have NB333_357 := Aside0.mk ((by rw [hg]; exact Nat.ne_of_lt (blk_lt (g := gb333) (o := .cells #[.int .i64 a0_0, .string a0_1] 50 (0, 0)) Zq31) : gb333 ≠ gb357)); have NB357_333 := Aside0.mk ((by rw [hg]; exact Nat.ne_of_gt (blk_lt (g := gb333) (o := .cells #[.int .i64 a0_0, .string a0_1] 50 (0, 0)) Zq31) : gb357 ≠ gb333)); have NB334_357 := Aside0.mk ((by rw [hg]; exact Nat.ne_of_lt (blk_lt (g := gb334) (o := .cells #[.int .i64 0, .int .i64 0, .int .i64 0, .int .i64 0, .slice none 0 0] 35 (0, 0)) Zq31) : gb334 ≠ gb357)); have NB357_334 := Aside0.mk ((by rw [hg]; exact Nat.ne_of_gt (blk_lt (g := gb334) (o := .cells #[.int .i64 0, .int .i64 0, .int .i64 0, .int .i64 0, .slice none 0 0] 35 (0, 0)) Zq31) : gb357 ≠ gb334)); replace HO_4 := Aside0.mk (Kd.R_below Zq6 hb); replace HO356 := Aside0.mk (Kd.R_below (by (with_reducible repeat (first | apply Kd.R_alloc | apply Kd.R_drewN | apply Kd.R_drew)); exact HO356.out) hb); replace BK333 := Aside0.mk (blkb_ BK333.out Zq31 hb); replace BK334 := Aside0.mk (blkb_ BK334.out Zq31 hb); replace HB := Aside0.mk (below_step Zq40 hb); clear hb hbox hg; have hnb39 := NB357_333.out; have hnc39 := NB333_357.out; have hnb40 := NB357_334.out; have hnc40 := NB334_357.out; obtain ⟨hcz41_0, hcz41_1, hcz41_2, hcz41_3, hcz41_4⟩ := cells5_ BK357.out; obtain ⟨hfz41_0, hfz41_1, hfz41_2, hfz41_3, hfz41_4⟩ := frozen5_ BK357.out))
        go_loopg [14] kj2 (fun kq v14 w' => ∃ (x14_2 : Int) (x335000_2 : Int) (x335001_2 : Int) (x335002_2 : Int) (x335003_2 : Int) (x358004_2 : List (S30)) (u358004 : Value), v14 = .int .i64 x14_2 ∧ Aside0 (gongref08_Decode.l0 kq t345 t348 t351 t353 t354 x14_2 a0_0 t344 t347 t350 x358004_2 = some (r1, r2, r3, r4, r5, r6)) ∧ Aside0 (kq ≤ kj2) ∧ Aside0 (Kd.R k50 50 w' w.heap.size (fun k_ => k_ ≠ gb333) v355 t353) ∧ Aside0 (Kd.R k30 30 w' w.heap.size (fun _ => True) u358004 x358004_2) ∧ Aside0 (w'.heap[gb333]? = some (.cells #[.int .i64 a0_0, .string a0_1] 50 (0, 0))) ∧ Aside0 (w'.heap[gb334]? = some (.cells #[.int .i64 x335000_2, .int .i64 x335001_2, .int .i64 x335002_2, .int .i64 x335003_2, (.slice none 0 0)] 35 (0, 0))) ∧ Aside0 (w'.heap[gb357]? = some (.cells #[.int .i64 a0_0, .int .i64 t344, .int .i64 t347, .int .i64 t350, u358004] 35 (0, 0))) ∧ Aside0 (Below w.heap.size w w'))
        case atStart => exact ⟨(0), (0), (0), (0), (0), (([] : List (S30))), (.slice none 0 0), Zq11, H', ⟨Nat.le_refl _⟩, ⟨by (with_reducible repeat (first | apply Kd.R_alloc | apply Kd.R_drewN | apply Kd.R_drew)); exact Kd.R_mono (Kd.R_far (p := ⟨gb357, 4, none⟩) (Kd.R_far (p := ⟨gb357, 3, none⟩) (Kd.R_far (p := ⟨gb357, 2, none⟩) (Kd.R_far (p := ⟨gb357, 1, none⟩) (Kd.R_far (p := ⟨gb357, 0, none⟩) (Kd.R_types HO356.out BK357.out (by decide)) (fun _ hk => hk.2) (.int .i64 a0_0)) (fun _ hk => hk.2) (.int .i64 t344)) (fun _ hk => hk.2) (.int .i64 t347)) (fun _ hk => hk.2) (.int .i64 t350)) (fun _ hk => hk.2) (.slice none 0 0)) (fun _ hk => hk.1.2)⟩, ⟨Zy35⟩, ⟨by (with_reducible repeat (first | refine blk_drewN ?_ _ | refine blk_drew ?_ | refine blk_alloc ?_ _)); refine blk_far ?_ NB333_357.out _; (with_reducible repeat (first | refine blk_drewN ?_ _ | refine blk_drew ?_ | refine blk_alloc ?_ _)); refine blk_far ?_ NB333_357.out _; (with_reducible repeat (first | refine blk_drewN ?_ _ | refine blk_drew ?_ | refine blk_alloc ?_ _)); refine blk_far ?_ NB333_357.out _; (with_reducible repeat (first | refine blk_drewN ?_ _ | refine blk_drew ?_ | refine blk_alloc ?_ _)); refine blk_far ?_ NB333_357.out _; (with_reducible repeat (first | refine blk_drewN ?_ _ | refine blk_drew ?_ | refine blk_alloc ?_ _)); refine blk_far ?_ NB333_357.out _; (with_reducible repeat (first | refine blk_drewN ?_ _ | refine blk_drew ?_ | refine blk_alloc ?_ _)); exact BK333.out⟩, ⟨by (with_reducible repeat (first | refine blk_drewN ?_ _ | refine blk_drew ?_ | refine blk_alloc ?_ _)); refine blk_far ?_ NB334_357.out _; (with_reducible repeat (first | refine blk_drewN ?_ _ | refine blk_drew ?_ | refine blk_alloc ?_ _)); refine blk_far ?_ NB334_357.out _; (with_reducible repeat (first | refine blk_drewN ?_ _ | refine blk_drew ?_ | refine blk_alloc ?_ _)); refine blk_far ?_ NB334_357.out _; (with_reducible repeat (first | refine blk_drewN ?_ _ | refine blk_drew ?_ | refine blk_alloc ?_ _)); refine blk_far ?_ NB334_357.out _; (with_reducible repeat (first | refine blk_drewN ?_ _ | refine blk_drew ?_ | refine blk_alloc ?_ _)); refine blk_far ?_ NB334_357.out _; (with_reducible repeat (first | refine blk_drewN ?_ _ | refine blk_drew ?_ | refine blk_alloc ?_ _)); exact BK334.out⟩, ⟨by (with_reducible repeat (first | refine blk_drewN ?_ _ | refine blk_drew ?_ | refine blk_alloc ?_ _)); refine blk_put (cs := #[.int .i64 a0_0, .int .i64 t344, .int .i64 t347, .int .i64 t350, .slice none 0 0]) ?_ 4 _ rfl; (with_reducible repeat (first | refine blk_drewN ?_ _ | refine blk_drew ?_ | refine blk_alloc ?_ _)); refine blk_put (cs := #[.int .i64 a0_0, .int .i64 t344, .int .i64 t347, .int .i64 0, .slice none 0 0]) ?_ 3 _ rfl; (with_reducible repeat (first | refine blk_drewN ?_ _ | refine blk_drew ?_ | refine blk_alloc ?_ _)); refine blk_put (cs := #[.int .i64 a0_0, .int .i64 t344, .int .i64 0, .int .i64 0, .slice none 0 0]) ?_ 2 _ rfl; (with_reducible repeat (first | refine blk_drewN ?_ _ | refine blk_drew ?_ | refine blk_alloc ?_ _)); refine blk_put (cs := #[.int .i64 a0_0, .int .i64 0, .int .i64 0, .int .i64 0, .slice none 0 0]) ?_ 1 _ rfl; (with_reducible repeat (first | refine blk_drewN ?_ _ | refine blk_drew ?_ | refine blk_alloc ?_ _)); refine blk_put (cs := #[.int .i64 0, .int .i64 0, .int .i64 0, .int .i64 0, .slice none 0 0]) ?_ 0 _ rfl; (with_reducible repeat (first | refine blk_drewN ?_ _ | refine blk_drew ?_ | refine blk_alloc ?_ _)); exact BK357.out⟩, ⟨Zy4⟩⟩
        case round =>
         clear H'
         (try clear c1); (try clear c2); (try clear p2); (try clear c3); (try clear p3); (try clear q3); (try clear hx3); (try clear qi3); (try clear c4); (try clear c6); (try clear c9); (try clear c9b0); (try clear c9b1); (try clear c10); (try clear c10b0); (try clear c10b1); (try clear c11); (try clear c11b0); (try clear c11b1); (try clear c12); (try clear c12b0); (try clear c12b1); (try clear c13); (try clear c13b0); (try clear c13b1); (try clear c14); (try clear c14b0); (try clear c14b1); (try clear c15); (try clear c15b0); (try clear c15b1); (try clear c16); (try clear c16b0); (try clear c16b1); (try clear c17); (try clear c17b0); (try clear c17b1); (try clear c18); (try clear c23); (try clear c24); (try clear c26); (try clear c26b0); (try clear c26b1); (try clear c28); (try clear c28b0); (try clear c28b1); (try clear c30); (try clear c30b0); (try clear c30b1); (try clear c32); (try clear c32b0); (try clear c32b1); (try clear p33); (try clear q33); (try clear hx33); (try clear qi33); (try clear p34); (try clear q34); (try clear hx34); (try clear qi34); (try clear c35); (try clear p35); (try clear q35); (try clear hx35); (try clear qi35); (try clear c36); (try clear c39); (try clear c40); (try clear hcz25_0); (try clear hcz25_1); (try clear hcz25_2); (try clear hcz25_3); (try clear hcz25_4); (try clear hcz37_0); (try clear hcz37_1); (try clear hcz41_0); (try clear hcz41_1); (try clear hcz41_2); (try clear hcz41_3); (try clear hcz41_4); (try clear hcz7_0); (try clear hcz7_1); (try clear hfz25_0); (try clear hfz25_1); (try clear hfz25_2); (try clear hfz25_3); (try clear hfz25_4); (try clear hfz37_0); (try clear hfz37_1); (try clear hfz41_0); (try clear hfz41_1); (try clear hfz41_2); (try clear hfz41_3); (try clear hfz41_4); (try clear hfz7_0); (try clear hfz7_1); (try clear hx339_0); (try clear hx339_1); (try clear hx340_0); (try clear hx340_1); (try clear hx341_0); (try clear hx341_1); (try clear hx342_0); (try clear hx342_1); (try clear hx343_0); (try clear hx343_1); (try clear hx346_0); (try clear hx346_1); (try clear hx349_0); (try clear hx349_1); (try clear hx352_0); (try clear hx352_1); (try clear p339); (try clear p340); (try clear p341); (try clear p342); (try clear p343); (try clear p346); (try clear p349); (try clear p352); (try clear q339); (try clear q340); (try clear q341); (try clear q342); (try clear q343); (try clear q346); (try clear q349); (try clear q352)
         obtain ⟨x14_2, x335000_2, x335001_2, x335002_2, x335003_2, x358004_2, u358004, rfl, HA, HK2, HO_11, HO_358004, BK333, BK334, BK357, HB⟩ := hrel
         cases gk with
         | zero => exact absurd HA.out (by simp [gongref08_Decode.l0])
         | succ k2 =>
          have H := HA.out
          clear HA
          simp only [gongref08_Decode.l0] at H
          by_cases c42 : x14_2 < (t353.length : Int)
          ·rw [if_pos c42] at H
           have c42b0 : decide (x14_2 < (t353.length : Int)) = true := decide_eq_true c42
           clear c42
           by_cases c43 : 0 ≤ x14_2
           ·rw [if_pos c43] at H
            have c43b0 : decide (0 ≤ x14_2) = true := decide_eq_true c43
            clear c43
            replace H := Option.bind_eq_some_iff.mp H
            obtain ⟨⟨t359, t360, t361, t362, t363⟩, A440, H⟩ := H
            replace H : (if t363 = true then (if x358004_2.length < 2932031007402 then (gongref08_Decode.l0 k2 t345 t348 t351 t353 t354 (wrap64 (x14_2 + 1)) a0_0 t344 t347 t350 (x358004_2 ++ [(⟨t359, (⟨t360, t361, t362⟩ : S28)⟩ : S30)])) else (none)) else (some (0, 0, 0, 0, ([] : List (S30)), 80))) = some (r1, r2, r3, r4, r5, r6) := H
            have A44 := Aside0.mk A440
            clear A440
            by_cases c45 : t363 = true
            ·subst c45
             have H1 : (if x358004_2.length < 2932031007402 then (gongref08_Decode.l0 k2 t345 t348 t351 t353 t354 (wrap64 (x14_2 + 1)) a0_0 t344 t347 t350 (x358004_2 ++ [(⟨t359, (⟨t360, t361, t362⟩ : S28)⟩ : S30)])) else (none)) = some (r1, r2, r3, r4, r5, r6) := by rw [if_pos rfl] at H; exact H
             clear H
             have H := H1
             clear H1
             by_cases c46 : x358004_2.length < 2932031007402
             ·rw [if_pos c46] at H
              have LMc46 := Aside0.mk c46
              clear c46
              obtain ⟨y365, hy365⟩ : ∃ y_ : List (S30), y_ = (x358004_2 ++ [(⟨t359, (⟨t360, t361, t362⟩ : S28)⟩ : S30)]) := ⟨_, rfl⟩
              replace H : (gongref08_Decode.l0 k2 t345 t348 t351 t353 t354 (wrap64 (x14_2 + 1)) a0_0 t344 t347 t350 y365) = some (r1, r2, r3, r4, r5, r6) := by first | (rw [hy365]; with_reducible exact H) | (have H2_ := (Option.bind_some _ _).symm.trans H; rw [hy365]; with_reducible exact H2_) | (have H2_ := (Option.bind_some _ _).symm.trans H; with_reducible exact H2_) | with_reducible exact H | (rw [hy365]; exact H) | exact H
              have Ny365 := Aside0.mk hy365
              clear hy365
              have H' := Aside0.mk H
              clear H
              obtain ⟨Ao47, co47, eo47⟩ := Kd.R_slice HO_11.out
              subst eo47
              have p358 : 0 ≤ (x14_2 : Int) := of_decide_eq_true Zq1
              have q358 : x14_2 < (t353.length : Int) := of_decide_eq_true Zq1
              obtain ⟨ad358, e358, hx358_0, hx358_1⟩ := at_T50 (Kd.R_reads' HO_11.out).2.2 x14_2 p358 q358
              cases e358
              replace p358 := eq_true p358
              replace q358 := eq_true q358
              go_wp2_with (first | ((with_reducible refine gate_callee (f := 37) rfl ?_); refine goesL_ (some 108) rfl rfl Tryz.func37 (by kernel_rfl) rfl #[.agg #[.int .i64 ((rd_T50 t353 x14_2).f0), .string ((rd_T50 t353 x14_2).f1)]] rfl Zq13 ?_; (with_reducible refine (gongref08_bind.calls k2 ((rd_T50 t353 x14_2).f0) ((rd_T50 t353 x14_2).f1) t359 t360 t361 t362 true _ A44.out).mono ?_); rintro e w48 ⟨rfl, hb⟩; refine ⟨_, rfl, ?_⟩; replace HO_11 := Aside0.mk (Kd.R_below Zq9 hb); replace HO_358004 := Aside0.mk (Kd.R_below Zq10 hb); replace BK333 := Aside0.mk (blkb_ BK333.out Zq31 hb); replace BK334 := Aside0.mk (blkb_ BK334.out Zq31 hb); replace BK357 := Aside0.mk (blkb_ BK357.out Zq31 hb); replace HB := Aside0.mk (below_step Zq43 hb); (try clear hb); (try clear hb2); (try clear hk); (try clear hi)) | ((with_reducible refine gate_dst (N := 15) rfl ?_); (try (refine gate_guard (by rfl) ?_; dsimp only)); refine box_event ?hg (N := 15) ?hd (cs := #[.string (⟨#[]⟩ : ByteArray), .int .i64 0, .int .i64 0, .string (⟨#[]⟩ : ByteArray)]) (t := 30) ?hr ?_; (case hd => rfl); (case hg => rfl); (case hr => exact Zq2); intro gb364 hg w49 hbox hb; have BK364 := Aside0.mk (hbox); have GW364 := Aside0.mk ((by rw [hg]; exact (below_size Zq43) : w.heap.size ≤ gb364)); have GE364 := Aside0.mk ((by rw [hg]; exact (below_size Zq43) : w.heap.size ≤ gb364)); have NB333_364 := Aside0.mk ((by rw [hg]; exact Nat.ne_of_lt (blk_lt (g := gb333) (o := .cells #[.int .i64 a0_0, .string a0_1] 50 (0, 0)) Zq31) : gb333 ≠ gb364)); have NB364_333 := Aside0.mk ((by rw [hg]; exact Nat.ne_of_gt (blk_lt (g := gb333) (o := .cells #[.int .i64 a0_0, .string a0_1] 50 (0, 0)) Zq31) : gb364 ≠ gb333)); have NB334_364 := Aside0.mk ((Zq64 : gb334 ≠ gb364)); have NB364_334 := Aside0.mk ((Zq63 : gb364 ≠ gb334)); have NB357_364 := Aside0.mk ((by rw [hg]; exact Nat.ne_of_lt (blk_lt (g := gb357) (o := .cells #[.int .i64 a0_0, .int .i64 t344, .int .i64 t347, .int .i64 t350, u358004] 35 (0, 0)) Zq31) : gb357 ≠ gb364)); have NB364_357 := Aside0.mk ((by rw [hg]; exact Nat.ne_of_gt (blk_lt (g := gb357) (o := .cells #[.int .i64 a0_0, .int .i64 t344, .int .i64 t347, .int .i64 t350, u358004] 35 (0, 0)) Zq31) : gb364 ≠ gb357)); replace HO_11 := Aside0.mk (Kd.R_below Zq9 hb); replace HO_358004 := Aside0.mk (Kd.R_below (Kd.R_elderB Zq10 gb364 (Nat.le_of_eq hg.symm)) hb); replace BK333 := Aside0.mk (blkb_ BK333.out Zq31 hb); replace BK334 := Aside0.mk (blkb_ BK334.out Zq31 hb); replace BK357 := Aside0.mk (blkb_ BK357.out Zq31 hb); replace HB := Aside0.mk (below_step Zq43 hb); clear hb hbox hg; have hnb50 := NB364_333.out; have hnc50 := NB333_364.out; have hnb51 := NB364_334.out; have hnc51 := NB334_364.out; have hnb52 := NB364_357.out; have hnc52 := NB357_364.out; obtain ⟨hcz53_0, hcz53_1, hcz53_2, hcz53_3⟩ := cells4_ BK364.out; obtain ⟨hfz53_0, hfz53_1, hfz53_2, hfz53_3⟩ := frozen4_ BK364.out; have hnb54 := NB357_333.out; have hnc54 := NB333_357.out; have hnb55 := NB357_334.out; have hnc55 := NB334_357.out; obtain ⟨hcz56_0, hcz56_1, hcz56_2, hcz56_3, hcz56_4⟩ := cells5_ BK357.out; obtain ⟨hfz56_0, hfz56_1, hfz56_2, hfz56_3, hfz56_4⟩ := frozen5_ BK357.out) | ((with_reducible refine gate_builtin (b := .append) (xs := #[.tmp 115, .tmp 117]) rfl ?_); (try (refine gate_guard (by rfl) ?_; dsimp only)); at_builtin; refine Kd.R_append k30 (w0 := w) w.heap.size rfl (.tmp 115) (.tmp 117) 22 30 (.agg #[(.string ⟨#[]⟩), (.int .i64 0), (.int .i64 0), (.string ⟨#[]⟩)]) 48 rfl Tryz.underlying22 info30 rfl (by decide) (by omega) u358004 x358004_2 (⟨t359, (⟨t360, t361, t362⟩ : S28)⟩ : S30) [.string t359, .int .i64 t360, .int .i64 t361, .string t362] (fun k_ => k_ ≠ gb364) (fun _ => False) rfl Zy60 ?aP (fun _ hk => hk.elim) ?aF ?aO ?aB ?aS ?aL ?_; (case aP => exact k30_mkM _ _ _ (⟨t359, (⟨t360, t361, t362⟩ : S28)⟩ : S30)); (case aB => exact Zq46); (case aF => exact (fun k_ hk => Kd.freshB (g := gb364) (o := .cells #[.string t359, .int .i64 t360, .int .i64 t361, .string t362] 30 (0, 0)) Zq47 k_ hk)); (case aO => exact (by (with_reducible repeat (first | apply Kd.R_alloc | apply Kd.R_drewN | apply Kd.R_drew)); exact Kd.R_mono (Kd.R_far (p := ⟨gb364, 3, none⟩) (Kd.R_far (p := ⟨gb364, 2, none⟩) (Kd.R_far (p := ⟨gb364, 1, none⟩) (Kd.R_far (p := ⟨gb364, 0, none⟩) (Kd.R_mono HO_358004.out (fun k_ hk => (⟨hk, hk.2⟩ : _ ∧ k_ ≠ gb364))) (fun _ hk => hk.2) (.string t359)) (fun _ hk => hk.2) (.int .i64 t360)) (fun _ hk => hk.2) (.int .i64 t361)) (fun _ hk => hk.2) (.string t362)) (fun _ hk => hk.1.2))); (case aS => exact (below_size Zq46)); (case aL => have := LMc46.out; omega); intro v366 w57 ho hb hg hat; rw [← Ny365.out] at ho; have n0_ := Aside0.mk (Kd.R_over' (by (with_reducible repeat (first | apply Kd.R_alloc | apply Kd.R_drewN | apply Kd.R_drew)); exact (Kd.R_mono (Kd.R_far (p := ⟨gb364, 3, none⟩) (Kd.R_far (p := ⟨gb364, 2, none⟩) (Kd.R_far (p := ⟨gb364, 1, none⟩) (Kd.R_far (p := ⟨gb364, 0, none⟩) (Kd.R_types HO_11.out BK364.out (by decide)) (fun _ hk => hk.2) (.string t359)) (fun _ hk => hk.2) (.int .i64 t360)) (fun _ hk => hk.2) (.int .i64 t361)) (fun _ hk => hk.2) (.string t362)) (fun _ h_ => h_.1))) (Kd.R_typed (by (with_reducible repeat (first | apply Kd.R_alloc | apply Kd.R_drewN | apply Kd.R_drew)); exact (Kd.R_mono (Kd.R_far (p := ⟨gb364, 3, none⟩) (Kd.R_far (p := ⟨gb364, 2, none⟩) (Kd.R_far (p := ⟨gb364, 1, none⟩) (Kd.R_far (p := ⟨gb364, 0, none⟩) (Kd.R_mono HO_358004.out (fun k_ hk => (⟨hk, hk.2⟩ : _ ∧ k_ ≠ gb364))) (fun _ hk => hk.2) (.string t359)) (fun _ hk => hk.2) (.int .i64 t360)) (fun _ hk => hk.2) (.int .i64 t361)) (fun _ hk => hk.2) (.string t362)) (fun _ h_ => h_.1)))) (by decide) hg); have n1_ := Aside0.mk (blk_grown (g := gb333) (o := .cells #[.int .i64 a0_0, .string a0_1] 50 (0, 0)) Zq31 hg (Kd.R_ne HO_358004.out BK333.out (by decide))); have n2_ := Aside0.mk (blk_grown (g := gb334) (o := .cells #[.int .i64 x335000_2, .int .i64 x335001_2, .int .i64 x335002_2, .int .i64 x335003_2, .slice none 0 0] 35 (0, 0)) Zq31 hg (Kd.R_ne HO_358004.out BK334.out (by decide))); have n3_ := Aside0.mk (blk_grown (g := gb357) (o := .cells #[.int .i64 a0_0, .int .i64 t344, .int .i64 t347, .int .i64 t350, u358004] 35 (0, 0)) Zq31 hg (Kd.R_ne HO_358004.out BK357.out (by decide))); have n4_ := Aside0.mk (blk_grown (g := gb364) (o := .cells #[.string t359, .int .i64 t360, .int .i64 t361, .string t362] 30 (0, 0)) Zq47 hg (Kd.R_away HO_358004.out (fun _ hk => hk.2))); have n5_ := Aside0.mk (hb); have n6_ := Aside0.mk (ho); clear HO_11; clear BK333; clear BK334; clear BK357; clear BK364; clear HB; clear HO_358004; have HO_11 := n0_; have BK333 := n1_; have BK334 := n2_; have BK357 := n3_; have BK364 := n4_; have HB := n5_; have HO367 := n6_; clear n0_ n1_ n2_ n3_ n4_ n5_ n6_; clear ho hb hg hat; obtain ⟨Ao58, co58, eo58⟩ := Kd.R_slice HO367.out; subst eo58; obtain ⟨hcz59_0, hcz59_1, hcz59_2, hcz59_3, hcz59_4⟩ := cells5_ BK357.out; obtain ⟨hfz59_0, hfz59_1, hfz59_2, hfz59_3, hfz59_4⟩ := frozen5_ BK357.out))
              go_roundg k2
              case measure => have := HJ2.out; have := HK2.out; omega
              case rel => exact ⟨(wrap64 (x14_2 + 1)), (x335000_2), (x335001_2), (x335002_2), (x335003_2), (y365), (.slice Ao58 y365.length co58), Zq11, H', ⟨by have := HJ2.out; have := HK2.out; omega⟩, ⟨by (with_reducible repeat (first | apply Kd.R_alloc | apply Kd.R_drewN | apply Kd.R_drew)); exact Kd.R_mono (Kd.R_far (p := ⟨gb357, 4, none⟩) (Kd.R_types HO_11.out BK357.out (by decide)) (fun _ hk => hk.2) (.slice Ao58 y365.length co58)) (fun _ hk => hk.1)⟩, ⟨by (with_reducible repeat (first | apply Kd.R_alloc | apply Kd.R_drewN | apply Kd.R_drew)); exact Kd.R_mono (Kd.R_far (p := ⟨gb357, 4, none⟩) (Kd.R_types HO367.out BK357.out (by decide)) (fun _ hk => hk.2) (.slice Ao58 y365.length co58)) (fun _ hk => trivial)⟩, ⟨by (with_reducible repeat (first | refine blk_drewN ?_ _ | refine blk_drew ?_ | refine blk_alloc ?_ _)); refine blk_far ?_ NB333_357.out _; (with_reducible repeat (first | refine blk_drewN ?_ _ | refine blk_drew ?_ | refine blk_alloc ?_ _)); exact BK333.out⟩, ⟨by (with_reducible repeat (first | refine blk_drewN ?_ _ | refine blk_drew ?_ | refine blk_alloc ?_ _)); refine blk_far ?_ NB334_357.out _; (with_reducible repeat (first | refine blk_drewN ?_ _ | refine blk_drew ?_ | refine blk_alloc ?_ _)); exact BK334.out⟩, ⟨by (with_reducible repeat (first | refine blk_drewN ?_ _ | refine blk_drew ?_ | refine blk_alloc ?_ _)); refine blk_put (cs := #[.int .i64 a0_0, .int .i64 t344, .int .i64 t347, .int .i64 t350, u358004]) ?_ 4 _ rfl; (with_reducible repeat (first | refine blk_drewN ?_ _ | refine blk_drew ?_ | refine blk_alloc ?_ _)); exact BK357.out⟩, ⟨Zy1⟩⟩
             ·rw [if_neg c46] at H
              exact absurd H (by simp)
            ·replace c45 := Bool.eq_false_iff.mpr c45
             subst c45
             have H1 : (some (0, 0, 0, 0, ([] : List (S30)), 80)) = some (r1, r2, r3, r4, r5, r6) := by rw [if_neg (show ¬ (false = true) by decide)] at H; exact H
             clear H
             have H := H1
             clear H1
             simp only [Option.some.injEq, Prod.mk.injEq] at H
             obtain ⟨rfl, rfl, rfl, rfl, rfl, rfl⟩ := H
             obtain ⟨Ao60, co60, eo60⟩ := Kd.R_slice HO_11.out
             subst eo60
             have p358 : 0 ≤ (x14_2 : Int) := of_decide_eq_true Zq1
             have q358 : x14_2 < (t353.length : Int) := of_decide_eq_true Zq1
             obtain ⟨ad358, e358, hx358_0, hx358_1⟩ := at_T50 (Kd.R_reads' HO_11.out).2.2 x14_2 p358 q358
             cases e358
             replace p358 := eq_true p358
             replace q358 := eq_true q358
             go_wp2_with (first | ((with_reducible refine gate_callee (f := 37) rfl ?_); refine goesL_ (some 108) rfl rfl Tryz.func37 (by kernel_rfl) rfl #[.agg #[.int .i64 ((rd_T50 t353 x14_2).f0), .string ((rd_T50 t353 x14_2).f1)]] rfl Zq13 ?_; (with_reducible refine (gongref08_bind.calls k2 ((rd_T50 t353 x14_2).f0) ((rd_T50 t353 x14_2).f1) t359 t360 t361 t362 false _ A44.out).mono ?_); rintro e w61 ⟨rfl, hb⟩; refine ⟨_, rfl, ?_⟩; replace HO_11 := Aside0.mk (Kd.R_below Zq9 hb); replace HO_358004 := Aside0.mk (Kd.R_below Zq10 hb); replace BK333 := Aside0.mk (blkb_ BK333.out Zq31 hb); replace BK334 := Aside0.mk (blkb_ BK334.out Zq31 hb); replace BK357 := Aside0.mk (blkb_ BK357.out Zq31 hb); replace HB := Aside0.mk (below_step Zq43 hb); (try clear hb); (try clear hb2); (try clear hk); (try clear hi)) | ((with_reducible refine gate_dst (N := 15) rfl ?_); (try (refine gate_guard (by rfl) ?_; dsimp only)); refine box_event ?hg (N := 15) ?hd (cs := #[.string (⟨#[]⟩ : ByteArray), .int .i64 0, .int .i64 0, .string (⟨#[]⟩ : ByteArray)]) (t := 30) ?hr ?_; (case hd => rfl); (case hg => rfl); (case hr => exact Zq2); intro gb364 hg w62 hbox hb; have BK364 := Aside0.mk (hbox); have GW364 := Aside0.mk ((by rw [hg]; exact (below_size Zq43) : w.heap.size ≤ gb364)); have GE364 := Aside0.mk ((by rw [hg]; exact (below_size Zq43) : w.heap.size ≤ gb364)); have NB333_364 := Aside0.mk ((by rw [hg]; exact Nat.ne_of_lt (blk_lt (g := gb333) (o := .cells #[.int .i64 a0_0, .string a0_1] 50 (0, 0)) Zq31) : gb333 ≠ gb364)); have NB364_333 := Aside0.mk ((by rw [hg]; exact Nat.ne_of_gt (blk_lt (g := gb333) (o := .cells #[.int .i64 a0_0, .string a0_1] 50 (0, 0)) Zq31) : gb364 ≠ gb333)); have NB334_364 := Aside0.mk ((Zq64 : gb334 ≠ gb364)); have NB364_334 := Aside0.mk ((Zq63 : gb364 ≠ gb334)); have NB357_364 := Aside0.mk ((by rw [hg]; exact Nat.ne_of_lt (blk_lt (g := gb357) (o := .cells #[.int .i64 a0_0, .int .i64 t344, .int .i64 t347, .int .i64 t350, u358004] 35 (0, 0)) Zq31) : gb357 ≠ gb364)); have NB364_357 := Aside0.mk ((by rw [hg]; exact Nat.ne_of_gt (blk_lt (g := gb357) (o := .cells #[.int .i64 a0_0, .int .i64 t344, .int .i64 t347, .int .i64 t350, u358004] 35 (0, 0)) Zq31) : gb364 ≠ gb357)); replace HO_11 := Aside0.mk (Kd.R_below Zq9 hb); replace HO_358004 := Aside0.mk (Kd.R_below (Kd.R_elderB Zq10 gb364 (Nat.le_of_eq hg.symm)) hb); replace BK333 := Aside0.mk (blkb_ BK333.out Zq31 hb); replace BK334 := Aside0.mk (blkb_ BK334.out Zq31 hb); replace BK357 := Aside0.mk (blkb_ BK357.out Zq31 hb); replace HB := Aside0.mk (below_step Zq43 hb); clear hb hbox hg; have hnb63 := NB364_333.out; have hnc63 := NB333_364.out; have hnb64 := NB364_334.out; have hnc64 := NB334_364.out; have hnb65 := NB364_357.out; have hnc65 := NB357_364.out; obtain ⟨hcz66_0, hcz66_1, hcz66_2, hcz66_3⟩ := cells4_ BK364.out; obtain ⟨hfz66_0, hfz66_1, hfz66_2, hfz66_3⟩ := frozen4_ BK364.out; have hnb67 := NB334_333.out; have hnc67 := NB333_334.out; have hnb68 := NB334_357.out; have hnc68 := NB357_334.out; obtain ⟨hcz69_0, hcz69_1, hcz69_2, hcz69_3, hcz69_4⟩ := cells5_ BK334.out; obtain ⟨hfz69_0, hfz69_1, hfz69_2, hfz69_3, hfz69_4⟩ := frozen5_ BK334.out))
             refine bodyPost_ret (results_ct rfl _ _ gb334 35 #[.int .i64 0, .int .i64 0, .int .i64 0, .int .i64 0, .slice none 0 0] (0, 0) _ rfl Zq47 Tryz.underlying35 rfl (by kernel_rfl)) rfl ?_
             exact ⟨_, Zy55, Zy35, Zy1⟩
           ·rw [if_neg c43] at H
            exact absurd H (by simp)
          ·rw [if_neg c42] at H
           have c42b0 : decide (x14_2 < (t353.length : Int)) = false := decide_eq_false c42
           clear c42
           by_cases c70 : t345 = 0
           ·rw [if_pos c70] at H
            have c70b0 : (t345 == 0) = true := beq_iff_eq.mpr c70
            have c70b1 : (t345 != 0) = false := bne_eq_false_iff_eq.mpr c70
            clear c70
            by_cases c71 : t348 = 0
            ·rw [if_pos c71] at H
             have c71b0 : (t348 == 0) = true := beq_iff_eq.mpr c71
             have c71b1 : (t348 != 0) = false := bne_eq_false_iff_eq.mpr c71
             clear c71
             by_cases c72 : t351 = 0
             ·rw [if_pos c72] at H
              have c72b0 : (t351 == 0) = true := beq_iff_eq.mpr c72
              have c72b1 : (t351 != 0) = false := bne_eq_false_iff_eq.mpr c72
              clear c72
              by_cases c73 : t354 = 0
              ·rw [if_pos c73] at H
               have c73b0 : (t354 == 0) = true := beq_iff_eq.mpr c73
               have c73b1 : (t354 != 0) = false := bne_eq_false_iff_eq.mpr c73
               clear c73
               replace H := Option.bind_eq_some_iff.mp H
               obtain ⟨t368, A740, H⟩ := H
               replace H : (if t368 = 0 then (some (a0_0, t344, t347, t350, x358004_2, 0)) else (some (0, 0, 0, 0, ([] : List (S30)), 80))) = some (r1, r2, r3, r4, r5, r6) := H
               have A74 := Aside0.mk A740
               clear A740
               by_cases c75 : t368 = 0
               ·rw [if_pos c75] at H
                have c75b0 : (t368 == 0) = true := beq_iff_eq.mpr c75
                have c75b1 : (t368 != 0) = false := bne_eq_false_iff_eq.mpr c75
                clear c75
                simp only [Option.some.injEq, Prod.mk.injEq] at H
                obtain ⟨rfl, rfl, rfl, rfl, rfl, rfl⟩ := H
                obtain ⟨Ao76, co76, eo76⟩ := Kd.R_slice HO_11.out
                subst eo76
                have hnb77 := NB357_333.out
                have hnc77 := NB333_357.out
                have hnb78 := NB357_334.out
                have hnc78 := NB334_357.out
                obtain ⟨hcz79_0, hcz79_1, hcz79_2, hcz79_3, hcz79_4⟩ := cells5_ BK357.out
                obtain ⟨hfz79_0, hfz79_1, hfz79_2, hfz79_3, hfz79_4⟩ := frozen5_ BK357.out
                obtain ⟨Ao80, co80, eo80⟩ := Kd.R_slice HO_358004.out
                subst eo80
                go_wp2_with (first | (go_at_call 14; (with_reducible refine (gongref08_Check.calls k2 a0_0 t344 t347 t350 _ _ x358004_2 t368 _ ?side1 ?side2 A74.out).mono ?_); (case side1 => repeat (first | exact (Kd.R_reads' HO_358004.out).2.2 | (with_reducible refine Kd.C_alloc ?_ _) | (with_reducible refine Kd.C_drewN ?_ _) | (with_reducible refine Kd.C_drew ?_))); (case side2 => exact (Kd.R_reads' HO_358004.out).2.1); rintro e w81 ⟨rfl, hb⟩; replace HO_11 := Aside0.mk (Kd.R_below Zq9 hb); replace HO_358004 := Aside0.mk (Kd.R_below Zq10 hb); replace BK333 := Aside0.mk (blkb_ BK333.out Zq31 hb); replace BK334 := Aside0.mk (blkb_ BK334.out Zq31 hb); replace BK357 := Aside0.mk (blkb_ BK357.out Zq31 hb); replace HB := Aside0.mk (below_step Zq43 hb); (try clear hb); (try clear hb2); (try clear hk); (try clear hi); obtain ⟨hcz82_0, hcz82_1, hcz82_2, hcz82_3, hcz82_4⟩ := cells5_ BK357.out; obtain ⟨hfz82_0, hfz82_1, hfz82_2, hfz82_3, hfz82_4⟩ := frozen5_ BK357.out; have hnb83 := NB334_333.out; have hnc83 := NB333_334.out; obtain ⟨hcz84_0, hcz84_1, hcz84_2, hcz84_3, hcz84_4⟩ := cells5_ BK334.out; obtain ⟨hfz84_0, hfz84_1, hfz84_2, hfz84_3, hfz84_4⟩ := frozen5_ BK334.out))
                refine bodyPost_ret (results_ct rfl _ _ gb334 35 #[.int .i64 a0_0, .int .i64 t344, .int .i64 t347, .int .i64 t350, .slice Ao80 x358004_2.length co80] (0, 0) _ rfl Zq47 Tryz.underlying35 rfl (by kernel_rfl)) rfl ?_
                exact ⟨_, Zy55, by (with_reducible repeat (first | apply Kd.R_alloc | apply Kd.R_drewN | apply Kd.R_drew)); exact Kd.R_mono (Kd.R_far (p := ⟨gb334, 4, none⟩) (Kd.R_far (p := ⟨gb334, 3, none⟩) (Kd.R_far (p := ⟨gb334, 2, none⟩) (Kd.R_far (p := ⟨gb334, 1, none⟩) (Kd.R_far (p := ⟨gb334, 0, none⟩) (Kd.R_types HO_358004.out BK334.out (by decide)) (fun _ hk => hk.2) (.int .i64 a0_0)) (fun _ hk => hk.2) (.int .i64 t344)) (fun _ hk => hk.2) (.int .i64 t347)) (fun _ hk => hk.2) (.int .i64 t350)) (fun _ hk => hk.2) (.slice Ao80 x358004_2.length co80)) (fun _ hk => trivial), Zy4⟩
               ·rw [if_neg c75] at H
                have c75b0 : (t368 == 0) = false := beq_eq_false_iff_ne.mpr c75
                have c75b1 : (t368 != 0) = true := bne_iff_ne.mpr c75
                simp only [Option.some.injEq, Prod.mk.injEq] at H
                obtain ⟨rfl, rfl, rfl, rfl, rfl, rfl⟩ := H
                obtain ⟨Ao85, co85, eo85⟩ := Kd.R_slice HO_11.out
                subst eo85
                have hnb86 := NB357_333.out
                have hnc86 := NB333_357.out
                have hnb87 := NB357_334.out
                have hnc87 := NB334_357.out
                obtain ⟨hcz88_0, hcz88_1, hcz88_2, hcz88_3, hcz88_4⟩ := cells5_ BK357.out
                obtain ⟨hfz88_0, hfz88_1, hfz88_2, hfz88_3, hfz88_4⟩ := frozen5_ BK357.out
                obtain ⟨Ao89, co89, eo89⟩ := Kd.R_slice HO_358004.out
                subst eo89
                go_wp2_with (first | (go_at_call 14; (with_reducible refine (gongref08_Check.calls k2 a0_0 t344 t347 t350 _ _ x358004_2 t368 _ ?side1 ?side2 A74.out).mono ?_); (case side1 => repeat (first | exact (Kd.R_reads' HO_358004.out).2.2 | (with_reducible refine Kd.C_alloc ?_ _) | (with_reducible refine Kd.C_drewN ?_ _) | (with_reducible refine Kd.C_drew ?_))); (case side2 => exact (Kd.R_reads' HO_358004.out).2.1); rintro e w90 ⟨rfl, hb⟩; replace HO_11 := Aside0.mk (Kd.R_below Zq9 hb); replace HO_358004 := Aside0.mk (Kd.R_below Zq10 hb); replace BK333 := Aside0.mk (blkb_ BK333.out Zq31 hb); replace BK334 := Aside0.mk (blkb_ BK334.out Zq31 hb); replace BK357 := Aside0.mk (blkb_ BK357.out Zq31 hb); replace HB := Aside0.mk (below_step Zq43 hb); (try clear hb); (try clear hb2); (try clear hk); (try clear hi); have hnb91 := NB334_333.out; have hnc91 := NB333_334.out; obtain ⟨hcz92_0, hcz92_1, hcz92_2, hcz92_3, hcz92_4⟩ := cells5_ BK334.out; obtain ⟨hfz92_0, hfz92_1, hfz92_2, hfz92_3, hfz92_4⟩ := frozen5_ BK334.out))
                refine bodyPost_ret (results_ct rfl _ _ gb334 35 #[.int .i64 0, .int .i64 0, .int .i64 0, .int .i64 0, .slice none 0 0] (0, 0) _ rfl Zq47 Tryz.underlying35 rfl (by kernel_rfl)) rfl ?_
                exact ⟨_, Zy55, Zy35, Zy4⟩
              ·rw [if_neg c73] at H
               have c73b0 : (t354 == 0) = false := beq_eq_false_iff_ne.mpr c73
               have c73b1 : (t354 != 0) = true := bne_iff_ne.mpr c73
               simp only [Option.some.injEq, Prod.mk.injEq] at H
               obtain ⟨rfl, rfl, rfl, rfl, rfl, rfl⟩ := H
               obtain ⟨Ao93, co93, eo93⟩ := Kd.R_slice HO_11.out
               subst eo93
               have hnb94 := NB334_333.out
               have hnc94 := NB333_334.out
               have hnb95 := NB334_357.out
               have hnc95 := NB357_334.out
               obtain ⟨hcz96_0, hcz96_1, hcz96_2, hcz96_3, hcz96_4⟩ := cells5_ BK334.out
               obtain ⟨hfz96_0, hfz96_1, hfz96_2, hfz96_3, hfz96_4⟩ := frozen5_ BK334.out
               go_wp2
               refine bodyPost_ret (results_ct rfl _ _ gb334 35 #[.int .i64 0, .int .i64 0, .int .i64 0, .int .i64 0, .slice none 0 0] (0, 0) _ rfl Zq47 Tryz.underlying35 rfl (by kernel_rfl)) rfl ?_
               exact ⟨_, Zy55, Zy35, Zy4⟩
             ·rw [if_neg c72] at H
              have c72b0 : (t351 == 0) = false := beq_eq_false_iff_ne.mpr c72
              have c72b1 : (t351 != 0) = true := bne_iff_ne.mpr c72
              simp only [Option.some.injEq, Prod.mk.injEq] at H
              obtain ⟨rfl, rfl, rfl, rfl, rfl, rfl⟩ := H
              obtain ⟨Ao97, co97, eo97⟩ := Kd.R_slice HO_11.out
              subst eo97
              have hnb98 := NB334_333.out
              have hnc98 := NB333_334.out
              have hnb99 := NB334_357.out
              have hnc99 := NB357_334.out
              obtain ⟨hcz100_0, hcz100_1, hcz100_2, hcz100_3, hcz100_4⟩ := cells5_ BK334.out
              obtain ⟨hfz100_0, hfz100_1, hfz100_2, hfz100_3, hfz100_4⟩ := frozen5_ BK334.out
              go_wp2
              refine bodyPost_ret (results_ct rfl _ _ gb334 35 #[.int .i64 0, .int .i64 0, .int .i64 0, .int .i64 0, .slice none 0 0] (0, 0) _ rfl Zq47 Tryz.underlying35 rfl (by kernel_rfl)) rfl ?_
              exact ⟨_, Zy55, Zy35, Zy4⟩
            ·rw [if_neg c71] at H
             have c71b0 : (t348 == 0) = false := beq_eq_false_iff_ne.mpr c71
             have c71b1 : (t348 != 0) = true := bne_iff_ne.mpr c71
             simp only [Option.some.injEq, Prod.mk.injEq] at H
             obtain ⟨rfl, rfl, rfl, rfl, rfl, rfl⟩ := H
             obtain ⟨Ao101, co101, eo101⟩ := Kd.R_slice HO_11.out
             subst eo101
             have hnb102 := NB334_333.out
             have hnc102 := NB333_334.out
             have hnb103 := NB334_357.out
             have hnc103 := NB357_334.out
             obtain ⟨hcz104_0, hcz104_1, hcz104_2, hcz104_3, hcz104_4⟩ := cells5_ BK334.out
             obtain ⟨hfz104_0, hfz104_1, hfz104_2, hfz104_3, hfz104_4⟩ := frozen5_ BK334.out
             go_wp2
             refine bodyPost_ret (results_ct rfl _ _ gb334 35 #[.int .i64 0, .int .i64 0, .int .i64 0, .int .i64 0, .slice none 0 0] (0, 0) _ rfl Zq47 Tryz.underlying35 rfl (by kernel_rfl)) rfl ?_
             exact ⟨_, Zy55, Zy35, Zy4⟩
           ·rw [if_neg c70] at H
            have c70b0 : (t345 == 0) = false := beq_eq_false_iff_ne.mpr c70
            have c70b1 : (t345 != 0) = true := bne_iff_ne.mpr c70
            simp only [Option.some.injEq, Prod.mk.injEq] at H
            obtain ⟨rfl, rfl, rfl, rfl, rfl, rfl⟩ := H
            obtain ⟨Ao105, co105, eo105⟩ := Kd.R_slice HO_11.out
            subst eo105
            have hnb106 := NB334_333.out
            have hnc106 := NB333_334.out
            have hnb107 := NB334_357.out
            have hnc107 := NB357_334.out
            obtain ⟨hcz108_0, hcz108_1, hcz108_2, hcz108_3, hcz108_4⟩ := cells5_ BK334.out
            obtain ⟨hfz108_0, hfz108_1, hfz108_2, hfz108_3, hfz108_4⟩ := frozen5_ BK334.out
            go_wp2
            refine bodyPost_ret (results_ct rfl _ _ gb334 35 #[.int .i64 0, .int .i64 0, .int .i64 0, .int .i64 0, .slice none 0 0] (0, 0) _ rfl Zq47 Tryz.underlying35 rfl (by kernel_rfl)) rfl ?_
            exact ⟨_, Zy55, Zy35, Zy4⟩
       ·rw [if_neg c32] at H
        exact absurd H (by simp)
      ·rw [if_neg c30] at H
       exact absurd H (by simp)
     ·rw [if_neg c28] at H
      exact absurd H (by simp)
    ·rw [if_neg c26] at H
     exact absurd H (by simp)
end Go.Proofs.YtfgdnnbhlnbojaaGreatDoor.XPdR
