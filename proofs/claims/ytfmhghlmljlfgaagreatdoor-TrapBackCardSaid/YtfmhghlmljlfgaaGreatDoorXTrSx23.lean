-- Laid by extprint.py (the session's own driver): functions told by the kit's printer and by hand.
import Derived.Test.YtfmhghlmljlfgaaGreatDoorXTrSx0
import Derived.Test.YtfmhghlmljlfgaaGreatDoorXTrSx7
import Derived.Test.YtfmhghlmljlfgaaGreatDoorXTrSx10
import Derived.Test.YtfmhghlmljlfgaaGreatDoorXTrSx18
import Derived.Test.YtfmhghlmljlfgaaGreatDoorXTrSx19
import Derived.Test.YtfmhghlmljlfgaaGreatDoorXTrSx21
namespace Go.Proofs.YtfmhghlmljlfgaaGreatDoor.XTrS
open Go.RowKit Gong Go.Proofs.YtfmhghlmljlfgaaGreatDoorW.PrintWords Go.Proofs.YtfmhghlmljlfgaaGreatDoorW.PrintLast Go.Proofs.YtfmhghlmljlfgaaGreatDoorW.PrintMore
attribute [local go_sem] max2_int min2_int max_two min_two max_three min_three max_four min_four   -- for this text's walks alone
set_option linter.unusedVariables false
set_option linter.unusedSimpArgs false
mutual
def gonglaw09_TrapBack.j0 : Nat → List ByteArray → Int → Bool → ByteArray → Bool → Int → Int → ByteArray → List (S40) → Option (Bool)
 | 0, _, _, _, _, _, _, _, _, _ => none
 | k + 1, x1, x2, x29, x474000, x474001, x474002, x474003, x474004, x474005 => if x29 = true then (some true) else ((trap_Encode.f k x474000 x474001 x474002 x474003 x474004 x474005).bind fun bt476 => (if bt476.2 = 0 then ((some (([] : List ByteArray) : List ByteArray)).bind fun y479 => (if y479.length + x1.length < 8796093022208 then ((some (y479 ++ x1 : List ByteArray)).bind fun y482 => ((some (([x474000] : List ByteArray) : List ByteArray)).bind fun y485 => (if y482.length + y485.length < 8796093022208 then ((trap_Decode.f k bt476.1 (y482 ++ y485)).bind fun bt491 => (if bt491.2.2.2.2.2.2 = 0 then ((trap_Same.f k x474000 x474001 x474002 x474003 x474004 x474005 bt491.1 bt491.2.1 bt491.2.2.1 bt491.2.2.2.1 bt491.2.2.2.2.1 bt491.2.2.2.2.2.1).bind fun t501 => (gonglaw09_TrapBack.j1 k x1 x2 bt476.1 (!t501) x474000 x474001 x474002 x474003 x474004 x474005)) else (gonglaw09_TrapBack.j1 k x1 x2 bt476.1 true x474000 x474001 x474002 x474003 x474004 x474005))) else (none)))) else (none))) else (if bt476.1.toList = ([] : List UInt8) then (if bt476.2 = 2 then (some true) else ((trap_Check.f k x474000 x474001 x474002 x474003 x474004 x474005).bind fun t478 => (some (t478 == bt476.2)))) else (none))))
def gonglaw09_TrapBack.j1 : Nat → List ByteArray → Int → ByteArray → Bool → ByteArray → Bool → Int → Int → ByteArray → List (S40) → Option (Bool)
 | 0, _, _, _, _, _, _, _, _, _, _ => none
 | k + 1, x1, x2, x7, x68, x474000, x474001, x474002, x474003, x474004, x474005 => if x68 = true then (none) else (gonglaw09_TrapBack.l0 k x1 x2 x7 false x1 (x1.length : Int) 0 x474000 x474001 x474002 x474003 x474004 x474005)
def gonglaw09_TrapBack.l0 : Nat → List ByteArray → Int → ByteArray → Bool → List ByteArray → Int → Int → ByteArray → Bool → Int → Int → ByteArray → List (S40) → Option (Bool)
 | 0, _, _, _, _, _, _, _, _, _, _, _, _, _ => none
 | k + 1, x1, x2, x7, x11, x69, x70, x71, x474000, x474001, x474002, x474003, x474004, x474005 => if x71 < x70 then (if 0 ≤ x71 then (if x71 < (x69.length : Int) then (if x11 = true then (gonglaw09_TrapBack.l0 k x1 x2 x7 true x69 x70 (wrap64 (x71 + 1)) x474000 x474001 x474002 x474003 x474004 x474005) else (gonglaw09_TrapBack.l0 k x1 x2 x7 ((rdOf ByteArray.empty x69 x71).toList == x474000.toList) x69 x70 (wrap64 (x71 + 1)) x474000 x474001 x474002 x474003 x474004 x474005)) else (none)) else (none)) else ((trap_Decode.f k x7 x1).bind fun bt503 => ((gongbook_Below.f x2 (x7.size : Int)).bind fun t513 => (if 0 ≤ t513 then (if t513 ≤ (x7.size : Int) then ((trap_Decode.f k (x7.extract 0 (t513 : Int).toNat) x1).bind fun bt514 => (if x7.size + 1 ≤ 9223372036854775807 then ((trap_Decode.f k (x7 ++ (⟨#[120]⟩ : ByteArray)) x1).bind fun bt524 => (if ((bt503.2.2.2.2.2.2 == 0) == x11) = true then (if x11 = true then (if bt514.2.2.2.2.2.2 = 90 then (some (bt524.2.2.2.2.2.2 == 90)) else (none)) else (if bt503.2.2.2.2.2.2 = 91 then (if bt503.1.toList = ([] : List UInt8) then (if (bt503.2.2.2.2.2.1.length : Int) = 0 then (if bt514.2.2.2.2.2.2 = 90 then (some (bt524.2.2.2.2.2.2 == 90)) else (none)) else (none)) else (none)) else (none))) else (none))) else (none))) else (none)) else (none))))
end
def gonglaw09_TrapBack.f (k : Nat) (a0_0 : ByteArray) (a0_1 : Bool) (a0_2 : Int) (a0_3 : Int) (a0_4 : ByteArray) (l0_5 : List (S40)) (l1 : List ByteArray) (a2 : Int) : Option (Bool) := (gonglaw09_works.f k).bind fun t474 => (if t474 = true then ((gonglaw09_small.f k a0_0 a0_1 a0_2 a0_3 a0_4 l0_5).bind fun t475 => (if t475 = true then (gonglaw09_TrapBack.j0 k l1 a2 (decide ((l1.length : Int) > 50)) a0_0 a0_1 a0_2 a0_3 a0_4 l0_5) else (gonglaw09_TrapBack.j0 k l1 a2 true a0_0 a0_1 a0_2 a0_3 a0_4 l0_5))) else (none))
def gonglaw09_TrapBack.T8 : Bool × List (List Nat × List Nat) := (true, [([], []), ([], []), ([], []), ([1, 2], [1, 2]), ([], []), ([4], [4]), ([5], [5]), ([3, 6, 3], [3, 6]), ([0, 7, 7], [0, 7]), ([8], [8]), ([9], [9]), ([9], [9]), ([], []), ([12, 10, 8, 0, 1, 2, 3, 4, 5, 6, 7, 8, 9, 10, 12], [10, 12]), ([11, 13, 0, 1, 2, 3, 4, 5, 6, 7, 8, 9, 10, 11, 12, 13], [11])])
def gonglaw09_TrapBack.B8 : List Nat := [0, 0, 0, 6, 0, 16, 48, 126, 255, 511, 1023, 1023, 0, 6143, 16383]
theorem gonglaw09_TrapBack.tab8 : rtab .any (opsOf Tryz.f3 8) = gonglaw09_TrapBack.T8 := by kernel_rfl
theorem gonglaw09_TrapBack.bits8 : waitsOk gonglaw09_TrapBack.T8.2 gonglaw09_TrapBack.B8 = true := by kernel_rfl
set_option maxHeartbeats 8000000 in
set_option maxRecDepth 100000 in
theorem gonglaw09_TrapBack.calls (k : Nat) (a0_0 : ByteArray) (a0_1 : Bool) (a0_2 : Int) (a0_3 : Int) (a0_4 : ByteArray) (A0_5 : Option Addr) (c0_5 : Nat) (l0_5 : List (S40)) (A1 : Option Addr) (c1 : Nat) (l1 : List ByteArray) (a2 : Int) (r : Bool) (w : World) (hG : Gl w) (hr0_5 : Kd.C k40 w A0_5 l0_5.length l0_5) (hc0_5 : l0_5.length ≤ c0_5) (hr1 : Kd.C Kd.string w A1 l1.length l1) (hc1 : l1.length ≤ c1) (h : gonglaw09_TrapBack.f k a0_0 a0_1 a0_2 a0_3 a0_4 l0_5 l1 a2 = some r) :
  Calls Tryz.prog 3 #[.agg #[.string a0_0, .bool a0_1, .int .i64 a0_2, .int .i64 a0_3, .string a0_4, .slice A0_5 l0_5.length c0_5], .slice A1 l1.length c1, .int .i64 a2] w fun e w' => e = .returned (.bool r) ∧ Below w.heap.size w w' := by
 have HGl := Aside0.mk hG
 clear hG
 have hu24 := Tryz.underlying24
 have HR0_5 := Aside0.mk hr0_5
 have HC0_5 := Aside0.mk hc0_5
 clear hr0_5 hc0_5
 have HR1 := Aside0.mk hr1
 have HC1 := Aside0.mk hc1
 clear hr1 hc1
 have HB := Aside0.mk (Below.refl w.heap.size w)
 have H : ((gonglaw09_works.f k).bind fun t474 => (if t474 = true then ((gonglaw09_small.f k a0_0 a0_1 a0_2 a0_3 a0_4 l0_5).bind fun t475 => (if t475 = true then (gonglaw09_TrapBack.j0 k l1 a2 (decide ((l1.length : Int) > 50)) a0_0 a0_1 a0_2 a0_3 a0_4 l0_5) else (gonglaw09_TrapBack.j0 k l1 a2 true a0_0 a0_1 a0_2 a0_3 a0_4 l0_5))) else (none))) = some r := h
 clear h
 replace H := Option.bind_eq_some_iff.mp H
 obtain ⟨t474, A40, H⟩ := H
 replace H : (if t474 = true then ((gonglaw09_small.f k a0_0 a0_1 a0_2 a0_3 a0_4 l0_5).bind fun t475 => (if t475 = true then (gonglaw09_TrapBack.j0 k l1 a2 (decide ((l1.length : Int) > 50)) a0_0 a0_1 a0_2 a0_3 a0_4 l0_5) else (gonglaw09_TrapBack.j0 k l1 a2 true a0_0 a0_1 a0_2 a0_3 a0_4 l0_5))) else (none)) = some r := H
 have A4 := Aside0.mk A40
 clear A40
 by_cases c5 : t474 = true
 rotate_left
 ·replace c5 := Bool.eq_false_iff.mpr c5
  subst c5
  have H1 : (none) = some r := by rw [if_neg (show ¬ (false = true) by decide)] at H; exact H
  exact absurd H1 (by simp)
 subst c5
 have H1 : ((gonglaw09_small.f k a0_0 a0_1 a0_2 a0_3 a0_4 l0_5).bind fun t475 => (if t475 = true then (gonglaw09_TrapBack.j0 k l1 a2 (decide ((l1.length : Int) > 50)) a0_0 a0_1 a0_2 a0_3 a0_4 l0_5) else (gonglaw09_TrapBack.j0 k l1 a2 true a0_0 a0_1 a0_2 a0_3 a0_4 l0_5))) = some r := by rw [if_pos rfl] at H; exact H
 clear H
 have H := H1
 clear H1
 have HC6 := Aside0.mk H
 clear H
 go_enter Tryz.func3, Tryz.ntmps3
 go_upto_region 3 with (first | ((with_reducible refine gate_dst (N := 3) rfl ?_); (try (refine gate_guard (by rfl) ?_; dsimp only)); refine box_event ?hg (N := 3) ?hd (cs := #[.string a0_0, .bool a0_1, .int .i64 a0_2, .int .i64 a0_3, .string a0_4, .slice A0_5 l0_5.length c0_5]) (t := 24) ?hr ?_; (case hd => rfl); (case hg => rfl); (case hr => exact Zq2); intro gb473 hg w7 hbox hb; have BK473 := Aside0.mk (hbox); have GW473 := Aside0.mk ((by rw [hg]; exact (below_size Zq13) : w.heap.size ≤ gb473)); have GE473 := Aside0.mk ((by rw [hg]; exact (below_size Zq13) : w.heap.size ≤ gb473)); replace HB := Aside0.mk (below_step Zq13 hb); clear hb hbox hg) | ((with_reducible refine gate_callee (f := 6) rfl ?_); refine goesL_ (some 20) rfl rfl Tryz.func6 (by kernel_rfl) rfl #[] rfl Zq14 ?_; (with_reducible refine (gonglaw09_works.calls k  true _ ?side1 A4.out).mono ?_); (case side1 => first | (with_reducible exact HGl.out) | exact HGl.out.below Zq51); rintro e w8 ⟨rfl, hb⟩; refine ⟨_, rfl, ?_⟩; replace BK473 := Aside0.mk (blkb_ BK473.out Zq52 hb); replace HB := Aside0.mk (below_step Zt18 hb); (try clear hb); (try clear hb2); (try clear hk); (try clear hi)))
 (try simp only [Act.put, List.setIfInBounds_toArray, List.set_cons_zero, List.set_cons_succ])
 go_cut [29] (fun v29 wc => ∃ (kq : Nat) (x29_5 : Bool), v29 = .bool x29_5 ∧ Aside0 (gonglaw09_TrapBack.j0 kq l1 a2 x29_5 a0_0 a0_1 a0_2 a0_3 a0_4 l0_5 = some r) ∧ Aside0 (kq ≤ k) ∧ Aside0 (wc.heap[gb473]? = some (.cells #[.string a0_0, .bool a0_1, .int .i64 a0_2, .int .i64 a0_3, .string a0_4, (.slice A0_5 l0_5.length c0_5)] 24 (0, 0))) ∧ Aside0 (Below w.heap.size w wc))
 case first =>
  have H := HC6.out
  clear HC6
  replace H := Option.bind_eq_some_iff.mp H
  obtain ⟨t475, A90, H⟩ := H
  replace H : (if t475 = true then (gonglaw09_TrapBack.j0 k l1 a2 (decide ((l1.length : Int) > 50)) a0_0 a0_1 a0_2 a0_3 a0_4 l0_5) else (gonglaw09_TrapBack.j0 k l1 a2 true a0_0 a0_1 a0_2 a0_3 a0_4 l0_5)) = some r := H
  have A9 := Aside0.mk A90
  clear A90
  by_cases c10 : t475 = true
  ·subst c10
   have H1 : (gonglaw09_TrapBack.j0 k l1 a2 (decide ((l1.length : Int) > 50)) a0_0 a0_1 a0_2 a0_3 a0_4 l0_5) = some r := by rw [if_pos rfl] at H; exact H
   clear H
   have H := H1
   clear H1
   have H' := Aside0.mk H
   clear H
   obtain ⟨hcz11_0, hcz11_1, hcz11_2, hcz11_3, hcz11_4, hcz11_5⟩ := cells6_ BK473.out
   obtain ⟨hfz11_0, hfz11_1, hfz11_2, hfz11_3, hfz11_4, hfz11_5⟩ := frozen6_ BK473.out
   go_wp2_with (first | ((with_reducible refine gate_callee (f := 7) rfl ?_); refine goesL_ (some 23) rfl rfl Tryz.func7 (by kernel_rfl) rfl #[.agg #[.string a0_0, .bool a0_1, .int .i64 a0_2, .int .i64 a0_3, .string a0_4, .slice A0_5 l0_5.length c0_5]] rfl Zq14 ?_; (with_reducible refine (gonglaw09_small.calls k a0_0 a0_1 a0_2 a0_3 a0_4 _ _ l0_5 true _ ?side1 ?side2 A9.out).mono ?_); (case side1 => exact Zq35); (case side2 => exact HC0_5.out); rintro e w12 ⟨rfl, hb⟩; refine ⟨_, rfl, ?_⟩; replace BK473 := Aside0.mk (blkb_ BK473.out Zq52 hb); replace HB := Aside0.mk (below_step Zt18 hb); (try clear hb); (try clear hb2); (try clear hk); (try clear hi)))
   go_meet
   case rel => exact ⟨_, (decide ((l1.length : Int) > 50)), Zq12, H', ⟨Zy76⟩, ⟨Zy61⟩, ⟨Zy35⟩⟩
  ·replace c10 := Bool.eq_false_iff.mpr c10
   subst c10
   have H1 : (gonglaw09_TrapBack.j0 k l1 a2 true a0_0 a0_1 a0_2 a0_3 a0_4 l0_5) = some r := by rw [if_neg (show ¬ (false = true) by decide)] at H; exact H
   clear H
   have H := H1
   clear H1
   have H' := Aside0.mk H
   clear H
   obtain ⟨hcz13_0, hcz13_1, hcz13_2, hcz13_3, hcz13_4, hcz13_5⟩ := cells6_ BK473.out
   obtain ⟨hfz13_0, hfz13_1, hfz13_2, hfz13_3, hfz13_4, hfz13_5⟩ := frozen6_ BK473.out
   go_wp2_with (first | ((with_reducible refine gate_callee (f := 7) rfl ?_); refine goesL_ (some 23) rfl rfl Tryz.func7 (by kernel_rfl) rfl #[.agg #[.string a0_0, .bool a0_1, .int .i64 a0_2, .int .i64 a0_3, .string a0_4, .slice A0_5 l0_5.length c0_5]] rfl Zq14 ?_; (with_reducible refine (gonglaw09_small.calls k a0_0 a0_1 a0_2 a0_3 a0_4 _ _ l0_5 false _ ?side1 ?side2 A9.out).mono ?_); (case side1 => exact Zq35); (case side2 => exact HC0_5.out); rintro e w14 ⟨rfl, hb⟩; refine ⟨_, rfl, ?_⟩; replace BK473 := Aside0.mk (blkb_ BK473.out Zq52 hb); replace HB := Aside0.mk (below_step Zt18 hb); (try clear hb); (try clear hb2); (try clear hk); (try clear hi)))
   go_meet
   case rel => exact ⟨_, (true), Zq12, H', ⟨Zy76⟩, ⟨Zy61⟩, ⟨Zy35⟩⟩
 case rest =>
  clear HC6
  (try clear c1); (try clear p2); (try clear c3); (try clear c5); (try clear c6); (try clear c7); (try clear c10); (try clear hcz11_0); (try clear hcz11_1); (try clear hcz11_2); (try clear hcz11_3); (try clear hcz11_4); (try clear hcz11_5); (try clear hcz13_0); (try clear hcz13_1); (try clear hcz13_2); (try clear hcz13_3); (try clear hcz13_4); (try clear hcz13_5); (try clear hfz11_0); (try clear hfz11_1); (try clear hfz11_2); (try clear hfz11_3); (try clear hfz11_4); (try clear hfz11_5); (try clear hfz13_0); (try clear hfz13_1); (try clear hfz13_2); (try clear hfz13_3); (try clear hfz13_4); (try clear hfz13_5)
  obtain ⟨kq, x29_5, rfl, HA, HJ5, BK473, HB⟩ := hcut
  cases kq with
  | zero => exact absurd HA.out (by simp [gonglaw09_TrapBack.j0])
  | succ kj5 =>
   have H := HA.out
   clear HA
   simp only [gonglaw09_TrapBack.j0] at H
   by_cases c15 : x29_5 = true
   ·subst c15
    have H1 : (some true) = some r := by rw [if_pos rfl] at H; exact H
    clear H
    have H := H1
    clear H1
    obtain rfl := Option.some.inj H
    go_wp2
    go_ret
    exact ⟨Zy51, Zy35⟩
   ·replace c15 := Bool.eq_false_iff.mpr c15
    subst c15
    have H1 : ((trap_Encode.f kj5 a0_0 a0_1 a0_2 a0_3 a0_4 l0_5).bind fun bt476 => (if bt476.2 = 0 then ((some (([] : List ByteArray) : List ByteArray)).bind fun y479 => (if y479.length + l1.length < 8796093022208 then ((some (y479 ++ l1 : List ByteArray)).bind fun y482 => ((some (([a0_0] : List ByteArray) : List ByteArray)).bind fun y485 => (if y482.length + y485.length < 8796093022208 then ((trap_Decode.f kj5 bt476.1 (y482 ++ y485)).bind fun bt491 => (if bt491.2.2.2.2.2.2 = 0 then ((trap_Same.f kj5 a0_0 a0_1 a0_2 a0_3 a0_4 l0_5 bt491.1 bt491.2.1 bt491.2.2.1 bt491.2.2.2.1 bt491.2.2.2.2.1 bt491.2.2.2.2.2.1).bind fun t501 => (gonglaw09_TrapBack.j1 kj5 l1 a2 bt476.1 (!t501) a0_0 a0_1 a0_2 a0_3 a0_4 l0_5)) else (gonglaw09_TrapBack.j1 kj5 l1 a2 bt476.1 true a0_0 a0_1 a0_2 a0_3 a0_4 l0_5))) else (none)))) else (none))) else (if bt476.1.toList = ([] : List UInt8) then (if bt476.2 = 2 then (some true) else ((trap_Check.f kj5 a0_0 a0_1 a0_2 a0_3 a0_4 l0_5).bind fun t478 => (some (t478 == bt476.2)))) else (none)))) = some r := by rw [if_neg (show ¬ (false = true) by decide)] at H; exact H
    clear H
    have H := H1
    clear H1
    replace H := Option.bind_eq_some_iff.mp H
    obtain ⟨⟨t476, t477⟩, A160, H⟩ := H
    replace H : (if t477 = 0 then ((some (([] : List ByteArray) : List ByteArray)).bind fun y479 => (if y479.length + l1.length < 8796093022208 then ((some (y479 ++ l1 : List ByteArray)).bind fun y482 => ((some (([a0_0] : List ByteArray) : List ByteArray)).bind fun y485 => (if y482.length + y485.length < 8796093022208 then ((trap_Decode.f kj5 t476 (y482 ++ y485)).bind fun bt491 => (if bt491.2.2.2.2.2.2 = 0 then ((trap_Same.f kj5 a0_0 a0_1 a0_2 a0_3 a0_4 l0_5 bt491.1 bt491.2.1 bt491.2.2.1 bt491.2.2.2.1 bt491.2.2.2.2.1 bt491.2.2.2.2.2.1).bind fun t501 => (gonglaw09_TrapBack.j1 kj5 l1 a2 t476 (!t501) a0_0 a0_1 a0_2 a0_3 a0_4 l0_5)) else (gonglaw09_TrapBack.j1 kj5 l1 a2 t476 true a0_0 a0_1 a0_2 a0_3 a0_4 l0_5))) else (none)))) else (none))) else (if t476.toList = ([] : List UInt8) then (if t477 = 2 then (some true) else ((trap_Check.f kj5 a0_0 a0_1 a0_2 a0_3 a0_4 l0_5).bind fun t478 => (some (t478 == t477)))) else (none))) = some r := H
    have A16 := Aside0.mk A160
    clear A160
    by_cases c17 : t477 = 0
    ·rw [if_pos c17] at H
     have c17b0 : (t477 == 0) = true := beq_iff_eq.mpr c17
     have c17b1 : (t477 != 0) = false := bne_eq_false_iff_eq.mpr c17
     clear c17
     obtain ⟨y479, hy479⟩ : ∃ y_ : List ByteArray, y_ = (([] : List ByteArray)) := ⟨_, rfl⟩
     replace H : (if y479.length + l1.length < 8796093022208 then ((some (y479 ++ l1 : List ByteArray)).bind fun y482 => ((some (([a0_0] : List ByteArray) : List ByteArray)).bind fun y485 => (if y482.length + y485.length < 8796093022208 then ((trap_Decode.f kj5 t476 (y482 ++ y485)).bind fun bt491 => (if bt491.2.2.2.2.2.2 = 0 then ((trap_Same.f kj5 a0_0 a0_1 a0_2 a0_3 a0_4 l0_5 bt491.1 bt491.2.1 bt491.2.2.1 bt491.2.2.2.1 bt491.2.2.2.2.1 bt491.2.2.2.2.2.1).bind fun t501 => (gonglaw09_TrapBack.j1 kj5 l1 a2 t476 (!t501) a0_0 a0_1 a0_2 a0_3 a0_4 l0_5)) else (gonglaw09_TrapBack.j1 kj5 l1 a2 t476 true a0_0 a0_1 a0_2 a0_3 a0_4 l0_5))) else (none)))) else (none)) = some r := by first | (rw [hy479]; with_reducible exact H) | (have H2_ := (Option.bind_some _ _).symm.trans H; rw [hy479]; with_reducible exact H2_) | (have H2_ := (Option.bind_some _ _).symm.trans H; with_reducible exact H2_) | with_reducible exact H | (rw [hy479]; exact H) | exact H
     have Ny479 := Aside0.mk hy479
     clear hy479
     by_cases c18 : y479.length + l1.length < 8796093022208
     ·rw [if_pos c18] at H
      have LMc18 := Aside0.mk c18
      clear c18
      obtain ⟨y482, hy482⟩ : ∃ y_ : List ByteArray, y_ = (y479 ++ l1) := ⟨_, rfl⟩
      replace H : ((some (([a0_0] : List ByteArray) : List ByteArray)).bind fun y485 => (if y482.length + y485.length < 8796093022208 then ((trap_Decode.f kj5 t476 (y482 ++ y485)).bind fun bt491 => (if bt491.2.2.2.2.2.2 = 0 then ((trap_Same.f kj5 a0_0 a0_1 a0_2 a0_3 a0_4 l0_5 bt491.1 bt491.2.1 bt491.2.2.1 bt491.2.2.2.1 bt491.2.2.2.2.1 bt491.2.2.2.2.2.1).bind fun t501 => (gonglaw09_TrapBack.j1 kj5 l1 a2 t476 (!t501) a0_0 a0_1 a0_2 a0_3 a0_4 l0_5)) else (gonglaw09_TrapBack.j1 kj5 l1 a2 t476 true a0_0 a0_1 a0_2 a0_3 a0_4 l0_5))) else (none))) = some r := by first | (rw [hy482]; with_reducible exact H) | (have H2_ := (Option.bind_some _ _).symm.trans H; rw [hy482]; with_reducible exact H2_) | (have H2_ := (Option.bind_some _ _).symm.trans H; with_reducible exact H2_) | with_reducible exact H | (rw [hy482]; exact H) | exact H
      have Ny482 := Aside0.mk hy482
      clear hy482
      obtain ⟨y485, hy485⟩ : ∃ y_ : List ByteArray, y_ = (([a0_0] : List ByteArray)) := ⟨_, rfl⟩
      replace H : (if y482.length + y485.length < 8796093022208 then ((trap_Decode.f kj5 t476 (y482 ++ y485)).bind fun bt491 => (if bt491.2.2.2.2.2.2 = 0 then ((trap_Same.f kj5 a0_0 a0_1 a0_2 a0_3 a0_4 l0_5 bt491.1 bt491.2.1 bt491.2.2.1 bt491.2.2.2.1 bt491.2.2.2.2.1 bt491.2.2.2.2.2.1).bind fun t501 => (gonglaw09_TrapBack.j1 kj5 l1 a2 t476 (!t501) a0_0 a0_1 a0_2 a0_3 a0_4 l0_5)) else (gonglaw09_TrapBack.j1 kj5 l1 a2 t476 true a0_0 a0_1 a0_2 a0_3 a0_4 l0_5))) else (none)) = some r := by first | (rw [hy485]; with_reducible exact H) | (have H2_ := (Option.bind_some _ _).symm.trans H; rw [hy485]; with_reducible exact H2_) | (have H2_ := (Option.bind_some _ _).symm.trans H; with_reducible exact H2_) | with_reducible exact H | (rw [hy485]; exact H) | exact H
      have Ny485 := Aside0.mk hy485
      clear hy485
      by_cases c19 : y482.length + y485.length < 8796093022208
      ·rw [if_pos c19] at H
       have LMc19 := Aside0.mk c19
       clear c19
       obtain ⟨y488, hy488⟩ : ∃ y_ : List ByteArray, y_ = (y482 ++ y485) := ⟨_, rfl⟩
       replace H : ((trap_Decode.f kj5 t476 y488).bind fun bt491 => (if bt491.2.2.2.2.2.2 = 0 then ((trap_Same.f kj5 a0_0 a0_1 a0_2 a0_3 a0_4 l0_5 bt491.1 bt491.2.1 bt491.2.2.1 bt491.2.2.2.1 bt491.2.2.2.2.1 bt491.2.2.2.2.2.1).bind fun t501 => (gonglaw09_TrapBack.j1 kj5 l1 a2 t476 (!t501) a0_0 a0_1 a0_2 a0_3 a0_4 l0_5)) else (gonglaw09_TrapBack.j1 kj5 l1 a2 t476 true a0_0 a0_1 a0_2 a0_3 a0_4 l0_5))) = some r := by first | (rw [hy488]; with_reducible exact H) | (have H2_ := (Option.bind_some _ _).symm.trans H; rw [hy488]; with_reducible exact H2_) | (have H2_ := (Option.bind_some _ _).symm.trans H; with_reducible exact H2_) | with_reducible exact H | (rw [hy488]; exact H) | exact H
       have Ny488 := Aside0.mk hy488
       clear hy488
       replace H := Option.bind_eq_some_iff.mp H
       obtain ⟨⟨t491, t492, t493, t494, t495, t496, t499⟩, A200, H⟩ := H
       replace H : (if t499 = 0 then ((trap_Same.f kj5 a0_0 a0_1 a0_2 a0_3 a0_4 l0_5 t491 t492 t493 t494 t495 t496).bind fun t501 => (gonglaw09_TrapBack.j1 kj5 l1 a2 t476 (!t501) a0_0 a0_1 a0_2 a0_3 a0_4 l0_5)) else (gonglaw09_TrapBack.j1 kj5 l1 a2 t476 true a0_0 a0_1 a0_2 a0_3 a0_4 l0_5)) = some r := H
       have A20 := Aside0.mk A200
       clear A200
       have HC21 := Aside0.mk H
       clear H
       obtain ⟨hcz22_0, hcz22_1, hcz22_2, hcz22_3, hcz22_4, hcz22_5⟩ := cells6_ BK473.out
       obtain ⟨hfz22_0, hfz22_1, hfz22_2, hfz22_3, hfz22_4, hfz22_5⟩ := frozen6_ BK473.out
       try go_wp2_with (first | ((with_reducible refine gate_callee (f := 8) rfl ?_); refine goesL_ (some 32) rfl rfl Tryz.func8 (by kernel_rfl) rfl #[.agg #[.string a0_0, .bool a0_1, .int .i64 a0_2, .int .i64 a0_3, .string a0_4, .slice A0_5 l0_5.length c0_5]] rfl Zq14 ?_; (with_reducible refine (trap_Encode.calls kj5 a0_0 a0_1 a0_2 a0_3 a0_4 _ _ l0_5 t476 t477 _ ?side3 ?side1 ?side2 A16.out).mono ?_); (case side1 => exact Zq35); (case side2 => exact HC0_5.out); (case side3 => exact Zq71); rintro e w23 ⟨rfl, hb⟩; refine ⟨_, rfl, ?_⟩; replace BK473 := Aside0.mk (blkb_ BK473.out Zq52 hb); replace HB := Aside0.mk (below_step Zt18 hb); (try clear hb); (try clear hb2); (try clear hk); (try clear hi)))
       replace BK473 := Aside0.mk (blk_drew BK473.out)
       replace HB := Aside0.mk (below_drew1 HB.out)
       refine start_ (n := 15) (S := fun w' => w'.cell? ⟨gb473, 0, none⟩ = some (.string a0_0) ∧ w'.cell? ⟨gb473, 1, none⟩ = some (.bool a0_1) ∧ w'.cell? ⟨gb473, 2, none⟩ = some (.int .i64 a0_2) ∧ w'.cell? ⟨gb473, 3, none⟩ = some (.int .i64 a0_3) ∧ w'.cell? ⟨gb473, 4, none⟩ = some (.string a0_4) ∧ w'.cell? ⟨gb473, 5, none⟩ = some (.slice A0_5 l0_5.length c0_5)) (ds := []) #[false, false, false, false, false, false, false, false, false, false, false, false, false, false, false] (by kernel_rfl) rfl rfl ⟨(blk_cell BK473.out 0).trans rfl, (blk_cell BK473.out 1).trans rfl, (blk_cell BK473.out 2).trans rfl, (blk_cell BK473.out 3).trans rfl, (blk_cell BK473.out 4).trans rfl, (blk_cell BK473.out 5).trans rfl⟩ (fun hHeld => ?_); refine with_tabW gonglaw09_TrapBack.tab8 gonglaw09_TrapBack.bits8 (fun HT_ HW_ => ?_)
       generalize w23.drew = w24 at BK473 HB hHeld ⊢
       refine pz_ 0 50 ?_
       refine pz_ 2 52 ?_
       refine pz_ 4 54 ?_
       refine tz_ 5 55 hHeld ?_
       refine join_ (σ := Value × Value × Value × Value × Value × Nat) 2 #[true, true, true, true, true, true, true, true, true, true, true, true, true, false, false] (fun s_ => [(51, s_.1), (53, s_.2.1), (56, s_.2.2.1), (57, s_.2.2.2.1), (58, .tuple #[.agg #[.string t491, .bool t492, .int .i64 t493, .int .i64 t494, .string t495, s_.2.2.2.2.1], .int .i64 t499]), (9, .pointer (some ⟨s_.2.2.2.2.2, 0, none⟩)), (49, .tuple #[.agg #[.string t491, .bool t492, .int .i64 t493, .int .i64 t494, .string t495, s_.2.2.2.2.1], .int .i64 t499]), (59, .agg #[.string t491, .bool t492, .int .i64 t493, .int .i64 t494, .string t495, s_.2.2.2.2.1]), (60, .int .i64 t499)]) (fun s_ w' => (w'.cell? ⟨gb473, 0, none⟩ = some (.string a0_0) ∧ w'.cell? ⟨gb473, 1, none⟩ = some (.bool a0_1) ∧ w'.cell? ⟨gb473, 2, none⟩ = some (.int .i64 a0_2) ∧ w'.cell? ⟨gb473, 3, none⟩ = some (.int .i64 a0_3) ∧ w'.cell? ⟨gb473, 4, none⟩ = some (.string a0_4) ∧ w'.cell? ⟨gb473, 5, none⟩ = some (.slice A0_5 l0_5.length c0_5)) ∧ (Kd.R Kd.string 9 w' w.heap.size (fun k_ => some k_ ≠ (s_.2.2.2.1 : Value).ownBlock) s_.2.2.1 y485) ∧ (Kd.R Kd.string 9 w' w.heap.size (fun k_ => some k_ ≠ (s_.2.2.1 : Value).ownBlock) s_.2.2.2.1 y488) ∧ (Kd.R k40 40 w' w.heap.size (fun _ => True) s_.2.2.2.2.1 t496) ∧ (w'.heap[gb473]? = some (.cells #[.string a0_0, .bool a0_1, .int .i64 a0_2, .int .i64 a0_3, .string a0_4, .slice A0_5 l0_5.length c0_5] 24 (0, 0))) ∧ (w'.heap[s_.2.2.2.2.2]? = some (.cells #[.string (⟨#[]⟩ : ByteArray), .bool false, .int .i64 0, .int .i64 0, .string (⟨#[]⟩ : ByteArray), .slice none 0 0] 24 (0, 0))) ∧ (w.heap.size ≤ s_.2.2.2.2.2) ∧ (w.heap.size ≤ s_.2.2.2.2.2) ∧ (gb473 ≠ s_.2.2.2.2.2) ∧ (s_.2.2.2.2.2 ≠ gb473) ∧ (Below w.heap.size w w')) ?_ ?_
       rotate_left
       ·intro hJ1_3_6_7_8_12
        refine join_ (σ := Value × Value × Value × Value × Value) 3 #[true, true, true, true, true, true, true, true, true, true, true, true, false, false, false] (fun s_ => [(51, s_.1), (53, s_.2.1), (56, s_.2.2.1), (57, s_.2.2.2.1), (58, .tuple #[.agg #[.string t491, .bool t492, .int .i64 t493, .int .i64 t494, .string t495, s_.2.2.2.2], .int .i64 t499]), (49, .tuple #[.agg #[.string t491, .bool t492, .int .i64 t493, .int .i64 t494, .string t495, s_.2.2.2.2], .int .i64 t499]), (59, .agg #[.string t491, .bool t492, .int .i64 t493, .int .i64 t494, .string t495, s_.2.2.2.2]), (60, .int .i64 t499)]) (fun s_ w' => (w'.cell? ⟨gb473, 0, none⟩ = some (.string a0_0) ∧ w'.cell? ⟨gb473, 1, none⟩ = some (.bool a0_1) ∧ w'.cell? ⟨gb473, 2, none⟩ = some (.int .i64 a0_2) ∧ w'.cell? ⟨gb473, 3, none⟩ = some (.int .i64 a0_3) ∧ w'.cell? ⟨gb473, 4, none⟩ = some (.string a0_4) ∧ w'.cell? ⟨gb473, 5, none⟩ = some (.slice A0_5 l0_5.length c0_5)) ∧ (Kd.R Kd.string 9 w' w.heap.size (fun k_ => some k_ ≠ (s_.2.2.2.1 : Value).ownBlock) s_.2.2.1 y485) ∧ (Kd.R Kd.string 9 w' w.heap.size (fun k_ => some k_ ≠ (s_.2.2.1 : Value).ownBlock) s_.2.2.2.1 y488) ∧ (Kd.R k40 40 w' w.heap.size (fun _ => True) s_.2.2.2.2 t496) ∧ (w'.heap[gb473]? = some (.cells #[.string a0_0, .bool a0_1, .int .i64 a0_2, .int .i64 a0_3, .string a0_4, .slice A0_5 l0_5.length c0_5] 24 (0, 0))) ∧ (Below w.heap.size w w')) ?_ ?_
        rotate_left
        ·intro hJ1_3_6_7_8
         refine join_ (σ := Value × Value × Value × Value × Nat) 6 #[true, true, true, true, true, true, true, true, false, false, false, false, true, false, false] (fun s_ => [(51, s_.1), (53, s_.2.1), (56, s_.2.2.1), (57, s_.2.2.2.1), (9, .pointer (some ⟨s_.2.2.2.2, 0, none⟩))]) (fun s_ w' => (w'.cell? ⟨gb473, 0, none⟩ = some (.string a0_0) ∧ w'.cell? ⟨gb473, 1, none⟩ = some (.bool a0_1) ∧ w'.cell? ⟨gb473, 2, none⟩ = some (.int .i64 a0_2) ∧ w'.cell? ⟨gb473, 3, none⟩ = some (.int .i64 a0_3) ∧ w'.cell? ⟨gb473, 4, none⟩ = some (.string a0_4) ∧ w'.cell? ⟨gb473, 5, none⟩ = some (.slice A0_5 l0_5.length c0_5)) ∧ (Kd.R Kd.string 9 w' w.heap.size (fun k_ => some k_ ≠ (s_.2.2.2.1 : Value).ownBlock) s_.2.2.1 y485) ∧ (Kd.R Kd.string 9 w' w.heap.size (fun k_ => some k_ ≠ (s_.2.2.1 : Value).ownBlock) s_.2.2.2.1 y488) ∧ (w'.heap[gb473]? = some (.cells #[.string a0_0, .bool a0_1, .int .i64 a0_2, .int .i64 a0_3, .string a0_4, .slice A0_5 l0_5.length c0_5] 24 (0, 0))) ∧ (w'.heap[s_.2.2.2.2]? = some (.cells #[.string (⟨#[]⟩ : ByteArray), .bool false, .int .i64 0, .int .i64 0, .string (⟨#[]⟩ : ByteArray), .slice none 0 0] 24 (0, 0))) ∧ (w.heap.size ≤ s_.2.2.2.2) ∧ (w.heap.size ≤ s_.2.2.2.2) ∧ (gb473 ≠ s_.2.2.2.2) ∧ (s_.2.2.2.2 ≠ gb473) ∧ (Below w.heap.size w w')) ?_ ?_
         rotate_left
         ·intro hJ1_3_6_7_12
          refine join_ (σ := Value × Value × Value × Value) 7 #[true, true, true, true, true, true, true, true, false, false, false, false, false, false, false] (fun s_ => [(51, s_.1), (53, s_.2.1), (56, s_.2.2.1), (57, s_.2.2.2)]) (fun s_ w' => (w'.cell? ⟨gb473, 0, none⟩ = some (.string a0_0) ∧ w'.cell? ⟨gb473, 1, none⟩ = some (.bool a0_1) ∧ w'.cell? ⟨gb473, 2, none⟩ = some (.int .i64 a0_2) ∧ w'.cell? ⟨gb473, 3, none⟩ = some (.int .i64 a0_3) ∧ w'.cell? ⟨gb473, 4, none⟩ = some (.string a0_4) ∧ w'.cell? ⟨gb473, 5, none⟩ = some (.slice A0_5 l0_5.length c0_5)) ∧ (Kd.R Kd.string 9 w' w.heap.size (fun k_ => some k_ ≠ (s_.2.2.2 : Value).ownBlock) s_.2.2.1 y485) ∧ (Kd.R Kd.string 9 w' w.heap.size (fun k_ => some k_ ≠ (s_.2.2.1 : Value).ownBlock) s_.2.2.2 y488) ∧ (w'.heap[gb473]? = some (.cells #[.string a0_0, .bool a0_1, .int .i64 a0_2, .int .i64 a0_3, .string a0_4, .slice A0_5 l0_5.length c0_5] 24 (0, 0))) ∧ (Below w.heap.size w w')) ?_ ?_
          rotate_left
          ·intro hJ1_3_6_7
           refine join_ (σ := Value × Value × Value × Nat) 7 #[true, true, true, true, true, true, true, false, false, false, false, false, true, false, false] (fun s_ => [(51, s_.1), (53, s_.2.1), (56, s_.2.2.1), (9, .pointer (some ⟨s_.2.2.2, 0, none⟩))]) (fun s_ w' => (w'.cell? ⟨gb473, 0, none⟩ = some (.string a0_0) ∧ w'.cell? ⟨gb473, 1, none⟩ = some (.bool a0_1) ∧ w'.cell? ⟨gb473, 2, none⟩ = some (.int .i64 a0_2) ∧ w'.cell? ⟨gb473, 3, none⟩ = some (.int .i64 a0_3) ∧ w'.cell? ⟨gb473, 4, none⟩ = some (.string a0_4) ∧ w'.cell? ⟨gb473, 5, none⟩ = some (.slice A0_5 l0_5.length c0_5)) ∧ (Kd.R Kd.string 9 w' w.heap.size (fun k_ => some k_ ≠ (s_.2.2.1 : Value).ownBlock) s_.2.1 y482) ∧ (Kd.R Kd.string 9 w' w.heap.size (fun k_ => some k_ ≠ (s_.2.1 : Value).ownBlock) s_.2.2.1 y485) ∧ (w'.heap[gb473]? = some (.cells #[.string a0_0, .bool a0_1, .int .i64 a0_2, .int .i64 a0_3, .string a0_4, .slice A0_5 l0_5.length c0_5] 24 (0, 0))) ∧ (w'.heap[s_.2.2.2]? = some (.cells #[.string (⟨#[]⟩ : ByteArray), .bool false, .int .i64 0, .int .i64 0, .string (⟨#[]⟩ : ByteArray), .slice none 0 0] 24 (0, 0))) ∧ (w.heap.size ≤ s_.2.2.2) ∧ (w.heap.size ≤ s_.2.2.2) ∧ (gb473 ≠ s_.2.2.2) ∧ (s_.2.2.2 ≠ gb473) ∧ (Below w.heap.size w w')) ?_ ?_
           rotate_left
           ·intro hJ1_3_6_12
            refine join_ (σ := Value × Value × Value) 8 #[true, true, true, true, true, true, true, false, false, false, false, false, false, false, false] (fun s_ => [(51, s_.1), (53, s_.2.1), (56, s_.2.2)]) (fun s_ w' => (w'.cell? ⟨gb473, 0, none⟩ = some (.string a0_0) ∧ w'.cell? ⟨gb473, 1, none⟩ = some (.bool a0_1) ∧ w'.cell? ⟨gb473, 2, none⟩ = some (.int .i64 a0_2) ∧ w'.cell? ⟨gb473, 3, none⟩ = some (.int .i64 a0_3) ∧ w'.cell? ⟨gb473, 4, none⟩ = some (.string a0_4) ∧ w'.cell? ⟨gb473, 5, none⟩ = some (.slice A0_5 l0_5.length c0_5)) ∧ (Kd.R Kd.string 9 w' w.heap.size (fun k_ => some k_ ≠ (s_.2.2 : Value).ownBlock) s_.2.1 y482) ∧ (Kd.R Kd.string 9 w' w.heap.size (fun k_ => some k_ ≠ (s_.2.1 : Value).ownBlock) s_.2.2 y485) ∧ (w'.heap[gb473]? = some (.cells #[.string a0_0, .bool a0_1, .int .i64 a0_2, .int .i64 a0_3, .string a0_4, .slice A0_5 l0_5.length c0_5] 24 (0, 0))) ∧ (Below w.heap.size w w')) ?_ ?_
            rotate_left
            ·intro hJ1_3_6
             refine join_ (σ := Value × Value × Nat) 8 #[true, true, true, true, true, true, false, false, false, false, false, false, true, false, false] (fun s_ => [(51, s_.1), (53, s_.2.1), (9, .pointer (some ⟨s_.2.2, 0, none⟩))]) (fun s_ w' => (w'.cell? ⟨gb473, 0, none⟩ = some (.string a0_0) ∧ w'.cell? ⟨gb473, 1, none⟩ = some (.bool a0_1) ∧ w'.cell? ⟨gb473, 2, none⟩ = some (.int .i64 a0_2) ∧ w'.cell? ⟨gb473, 3, none⟩ = some (.int .i64 a0_3) ∧ w'.cell? ⟨gb473, 4, none⟩ = some (.string a0_4) ∧ w'.cell? ⟨gb473, 5, none⟩ = some (.slice A0_5 l0_5.length c0_5)) ∧ (Kd.R Kd.string 9 w' w.heap.size (fun _ => True) s_.2.1 y482) ∧ (w'.heap[gb473]? = some (.cells #[.string a0_0, .bool a0_1, .int .i64 a0_2, .int .i64 a0_3, .string a0_4, .slice A0_5 l0_5.length c0_5] 24 (0, 0))) ∧ (w'.heap[s_.2.2]? = some (.cells #[.string (⟨#[]⟩ : ByteArray), .bool false, .int .i64 0, .int .i64 0, .string (⟨#[]⟩ : ByteArray), .slice none 0 0] 24 (0, 0))) ∧ (w.heap.size ≤ s_.2.2) ∧ (w.heap.size ≤ s_.2.2) ∧ (gb473 ≠ s_.2.2) ∧ (s_.2.2 ≠ gb473) ∧ (Below w.heap.size w w')) ?_ ?_
             rotate_left
             ·intro hJ1_3_12
              refine join_ (σ := Value × Value × Nat) 8 #[true, true, true, false, true, true, true, false, false, false, false, false, true, false, false] (fun s_ => [(51, s_.1), (56, s_.2.1), (9, .pointer (some ⟨s_.2.2, 0, none⟩))]) (fun s_ w' => (w'.cell? ⟨gb473, 0, none⟩ = some (.string a0_0) ∧ w'.cell? ⟨gb473, 1, none⟩ = some (.bool a0_1) ∧ w'.cell? ⟨gb473, 2, none⟩ = some (.int .i64 a0_2) ∧ w'.cell? ⟨gb473, 3, none⟩ = some (.int .i64 a0_3) ∧ w'.cell? ⟨gb473, 4, none⟩ = some (.string a0_4) ∧ w'.cell? ⟨gb473, 5, none⟩ = some (.slice A0_5 l0_5.length c0_5)) ∧ (Kd.R Kd.string 9 w' w.heap.size (fun k_ => some k_ ≠ (s_.2.1 : Value).ownBlock) s_.1 y479) ∧ (Kd.R Kd.string 9 w' w.heap.size (fun k_ => some k_ ≠ (s_.1 : Value).ownBlock) s_.2.1 y485) ∧ (w'.heap[gb473]? = some (.cells #[.string a0_0, .bool a0_1, .int .i64 a0_2, .int .i64 a0_3, .string a0_4, .slice A0_5 l0_5.length c0_5] 24 (0, 0))) ∧ (w'.heap[s_.2.2]? = some (.cells #[.string (⟨#[]⟩ : ByteArray), .bool false, .int .i64 0, .int .i64 0, .string (⟨#[]⟩ : ByteArray), .slice none 0 0] 24 (0, 0))) ∧ (w.heap.size ≤ s_.2.2) ∧ (w.heap.size ≤ s_.2.2) ∧ (gb473 ≠ s_.2.2) ∧ (s_.2.2 ≠ gb473) ∧ (Below w.heap.size w w')) ?_ ?_
              rotate_left
              ·intro hJ1_6_12
               refine join_ (σ := Value × Value) 9 #[true, true, true, true, true, true, false, false, false, false, false, false, false, false, false] (fun s_ => [(51, s_.1), (53, s_.2)]) (fun s_ w' => (w'.cell? ⟨gb473, 0, none⟩ = some (.string a0_0) ∧ w'.cell? ⟨gb473, 1, none⟩ = some (.bool a0_1) ∧ w'.cell? ⟨gb473, 2, none⟩ = some (.int .i64 a0_2) ∧ w'.cell? ⟨gb473, 3, none⟩ = some (.int .i64 a0_3) ∧ w'.cell? ⟨gb473, 4, none⟩ = some (.string a0_4) ∧ w'.cell? ⟨gb473, 5, none⟩ = some (.slice A0_5 l0_5.length c0_5)) ∧ (Kd.R Kd.string 9 w' w.heap.size (fun _ => True) s_.2 y482) ∧ (w'.heap[gb473]? = some (.cells #[.string a0_0, .bool a0_1, .int .i64 a0_2, .int .i64 a0_3, .string a0_4, .slice A0_5 l0_5.length c0_5] 24 (0, 0))) ∧ (Below w.heap.size w w')) ?_ ?_
               rotate_left
               ·intro hJ1_3
                refine join_ (σ := Value × Value) 9 #[true, true, true, false, true, true, true, false, false, false, false, false, false, false, false] (fun s_ => [(51, s_.1), (56, s_.2)]) (fun s_ w' => (w'.cell? ⟨gb473, 0, none⟩ = some (.string a0_0) ∧ w'.cell? ⟨gb473, 1, none⟩ = some (.bool a0_1) ∧ w'.cell? ⟨gb473, 2, none⟩ = some (.int .i64 a0_2) ∧ w'.cell? ⟨gb473, 3, none⟩ = some (.int .i64 a0_3) ∧ w'.cell? ⟨gb473, 4, none⟩ = some (.string a0_4) ∧ w'.cell? ⟨gb473, 5, none⟩ = some (.slice A0_5 l0_5.length c0_5)) ∧ (Kd.R Kd.string 9 w' w.heap.size (fun k_ => some k_ ≠ (s_.2 : Value).ownBlock) s_.1 y479) ∧ (Kd.R Kd.string 9 w' w.heap.size (fun k_ => some k_ ≠ (s_.1 : Value).ownBlock) s_.2 y485) ∧ (w'.heap[gb473]? = some (.cells #[.string a0_0, .bool a0_1, .int .i64 a0_2, .int .i64 a0_3, .string a0_4, .slice A0_5 l0_5.length c0_5] 24 (0, 0))) ∧ (Below w.heap.size w w')) ?_ ?_
                rotate_left
                ·intro hJ1_6
                 refine join_ (σ := Value × Nat) 9 #[true, true, true, false, true, true, false, false, false, false, false, false, true, false, false] (fun s_ => [(51, s_.1), (9, .pointer (some ⟨s_.2, 0, none⟩))]) (fun s_ w' => (w'.cell? ⟨gb473, 0, none⟩ = some (.string a0_0) ∧ w'.cell? ⟨gb473, 1, none⟩ = some (.bool a0_1) ∧ w'.cell? ⟨gb473, 2, none⟩ = some (.int .i64 a0_2) ∧ w'.cell? ⟨gb473, 3, none⟩ = some (.int .i64 a0_3) ∧ w'.cell? ⟨gb473, 4, none⟩ = some (.string a0_4) ∧ w'.cell? ⟨gb473, 5, none⟩ = some (.slice A0_5 l0_5.length c0_5)) ∧ (Kd.R Kd.string 9 w' w.heap.size (fun _ => True) s_.1 y479) ∧ (w'.heap[gb473]? = some (.cells #[.string a0_0, .bool a0_1, .int .i64 a0_2, .int .i64 a0_3, .string a0_4, .slice A0_5 l0_5.length c0_5] 24 (0, 0))) ∧ (w'.heap[s_.2]? = some (.cells #[.string (⟨#[]⟩ : ByteArray), .bool false, .int .i64 0, .int .i64 0, .string (⟨#[]⟩ : ByteArray), .slice none 0 0] 24 (0, 0))) ∧ (w.heap.size ≤ s_.2) ∧ (w.heap.size ≤ s_.2) ∧ (gb473 ≠ s_.2) ∧ (s_.2 ≠ gb473) ∧ (Below w.heap.size w w')) ?_ ?_
                 rotate_left
                 ·intro hJ1_12
                  refine join_ (σ := Value × Nat) 9 #[true, false, true, false, true, true, true, false, false, false, false, false, true, false, false] (fun s_ => [(56, s_.1), (9, .pointer (some ⟨s_.2, 0, none⟩))]) (fun s_ w' => (w'.cell? ⟨gb473, 0, none⟩ = some (.string a0_0) ∧ w'.cell? ⟨gb473, 1, none⟩ = some (.bool a0_1) ∧ w'.cell? ⟨gb473, 2, none⟩ = some (.int .i64 a0_2) ∧ w'.cell? ⟨gb473, 3, none⟩ = some (.int .i64 a0_3) ∧ w'.cell? ⟨gb473, 4, none⟩ = some (.string a0_4) ∧ w'.cell? ⟨gb473, 5, none⟩ = some (.slice A0_5 l0_5.length c0_5)) ∧ (Kd.R Kd.string 9 w' w.heap.size (fun _ => True) s_.1 y485) ∧ (w'.heap[gb473]? = some (.cells #[.string a0_0, .bool a0_1, .int .i64 a0_2, .int .i64 a0_3, .string a0_4, .slice A0_5 l0_5.length c0_5] 24 (0, 0))) ∧ (w'.heap[s_.2]? = some (.cells #[.string (⟨#[]⟩ : ByteArray), .bool false, .int .i64 0, .int .i64 0, .string (⟨#[]⟩ : ByteArray), .slice none 0 0] 24 (0, 0))) ∧ (w.heap.size ≤ s_.2) ∧ (w.heap.size ≤ s_.2) ∧ (gb473 ≠ s_.2) ∧ (s_.2 ≠ gb473) ∧ (Below w.heap.size w w')) ?_ ?_
                  rotate_left
                  ·intro hJ6_12
                   refine join_ (σ := Value) 10 #[true, true, true, false, true, true, false, false, false, false, false, false, false, false, false] (fun s_ => [(51, s_)]) (fun s_ w' => (w'.cell? ⟨gb473, 0, none⟩ = some (.string a0_0) ∧ w'.cell? ⟨gb473, 1, none⟩ = some (.bool a0_1) ∧ w'.cell? ⟨gb473, 2, none⟩ = some (.int .i64 a0_2) ∧ w'.cell? ⟨gb473, 3, none⟩ = some (.int .i64 a0_3) ∧ w'.cell? ⟨gb473, 4, none⟩ = some (.string a0_4) ∧ w'.cell? ⟨gb473, 5, none⟩ = some (.slice A0_5 l0_5.length c0_5)) ∧ (Kd.R Kd.string 9 w' w.heap.size (fun _ => True) s_ y479) ∧ (w'.heap[gb473]? = some (.cells #[.string a0_0, .bool a0_1, .int .i64 a0_2, .int .i64 a0_3, .string a0_4, .slice A0_5 l0_5.length c0_5] 24 (0, 0))) ∧ (Below w.heap.size w w')) ?_ ?_
                   rotate_left
                   ·intro hJ1
                    refine join_ (σ := Value) 10 #[true, false, true, false, true, true, true, false, false, false, false, false, false, false, false] (fun s_ => [(56, s_)]) (fun s_ w' => (w'.cell? ⟨gb473, 0, none⟩ = some (.string a0_0) ∧ w'.cell? ⟨gb473, 1, none⟩ = some (.bool a0_1) ∧ w'.cell? ⟨gb473, 2, none⟩ = some (.int .i64 a0_2) ∧ w'.cell? ⟨gb473, 3, none⟩ = some (.int .i64 a0_3) ∧ w'.cell? ⟨gb473, 4, none⟩ = some (.string a0_4) ∧ w'.cell? ⟨gb473, 5, none⟩ = some (.slice A0_5 l0_5.length c0_5)) ∧ (Kd.R Kd.string 9 w' w.heap.size (fun _ => True) s_ y485) ∧ (w'.heap[gb473]? = some (.cells #[.string a0_0, .bool a0_1, .int .i64 a0_2, .int .i64 a0_3, .string a0_4, .slice A0_5 l0_5.length c0_5] 24 (0, 0))) ∧ (Below w.heap.size w w')) ?_ ?_
                    rotate_left
                    ·intro hJ6
                     refine join_ (σ := Nat) 10 #[true, false, true, false, true, true, false, false, false, false, false, false, true, false, false] (fun s_ => [(9, .pointer (some ⟨s_, 0, none⟩))]) (fun s_ w' => (w'.cell? ⟨gb473, 0, none⟩ = some (.string a0_0) ∧ w'.cell? ⟨gb473, 1, none⟩ = some (.bool a0_1) ∧ w'.cell? ⟨gb473, 2, none⟩ = some (.int .i64 a0_2) ∧ w'.cell? ⟨gb473, 3, none⟩ = some (.int .i64 a0_3) ∧ w'.cell? ⟨gb473, 4, none⟩ = some (.string a0_4) ∧ w'.cell? ⟨gb473, 5, none⟩ = some (.slice A0_5 l0_5.length c0_5)) ∧ (w'.heap[gb473]? = some (.cells #[.string a0_0, .bool a0_1, .int .i64 a0_2, .int .i64 a0_3, .string a0_4, .slice A0_5 l0_5.length c0_5] 24 (0, 0))) ∧ (w'.heap[s_]? = some (.cells #[.string (⟨#[]⟩ : ByteArray), .bool false, .int .i64 0, .int .i64 0, .string (⟨#[]⟩ : ByteArray), .slice none 0 0] 24 (0, 0))) ∧ (w.heap.size ≤ s_) ∧ (w.heap.size ≤ s_) ∧ (gb473 ≠ s_) ∧ (s_ ≠ gb473) ∧ (Below w.heap.size w w')) ?_ ?_
                     rotate_left
                     ·intro hJ12
                      refine three_ (i := 1) (j := 6) (k := 12) (Ni := some 51) (Nj := some 56) (Nk := some 9) #[true, true, true, false, true, true, false, false, false, false, false, false, false, false, false] #[true, false, true, false, true, true, true, false, false, false, false, false, false, false, false] #[true, false, true, false, true, true, false, false, false, false, false, false, true, false, false] rfl rfl rfl rfl rfl rfl (three_of HT_.out (by kernel_rfl)) (by decide) (by decide) (by decide) (fun K hK => ?_) (fun K hK => ?_) (fun K hK => ?_)
                      ·skip
                       refine Kd.R_lit_step Kd.string _ 9 ?hg (N := 51) ?hd (xs := ([] : List ByteArray)) (inner := []) (ok := fun _ => True) (okp := fun _ => True) ?hr ?hp (fun _ hk => hk) trivial (Below.refl _ _) (Nat.le_refl _) (by simp) ?_; (case hd => rfl); (case hg => rfl); (case hr => exact Zq2); (case hp => exact (Reps.none _ _))
                       intro v480 w25 ho26 hb hg_ hnew_
                       clear hg_ hnew_
                       (first | rw [← Ny479.out] at ho26 | (simp only [Int.reduceToNat] at ho26; rw [← Ny479.out] at ho26))
                       have HO481 := Aside0.mk (Kd.R_lower ho26 (below_size Zt18))
                       replace BK473 := Aside0.mk (blkb_ BK473.out Zq52 hb)
                       replace HB := Aside0.mk (below_step Zt18 hb)
                       clear hb ho26
                       refine hK.out _ _ ⟨(blk_cell BK473.out 0).trans rfl, (blk_cell BK473.out 1).trans rfl, (blk_cell BK473.out 2).trans rfl, (blk_cell BK473.out 3).trans rfl, (blk_cell BK473.out 4).trans rfl, (blk_cell BK473.out 5).trans rfl⟩ (fun hHeld => ?_)
                       clear hK K
                       refine nz_ 51 ?_
                       exact norm_ Zt24 (hJ1 (v480) _ ⟨hHeld, Zt3, Zq52, Zt18⟩)
                      ·skip
                       refine Kd.R_lit_step Kd.string _ 9 ?hg (N := 56) ?hd (xs := ([a0_0] : List ByteArray)) (inner := [.string a0_0]) (ok := fun _ => True) (okp := fun _ => True) ?hr ?hp (fun _ hk => hk) trivial (Below.refl _ _) (Nat.le_refl _) (by simp) ?_; (case hd => rfl); (case hg => rfl); (case hr => exact Zq2); (case hp => exact Zt2)
                       intro v486 w25 ho26 hb hg_ hnew_
                       clear hg_ hnew_
                       (first | rw [← Ny485.out] at ho26 | (simp only [Int.reduceToNat] at ho26; rw [← Ny485.out] at ho26))
                       have HO487 := Aside0.mk (Kd.R_lower ho26 (below_size Zt18))
                       replace BK473 := Aside0.mk (blkb_ BK473.out Zq52 hb)
                       replace HB := Aside0.mk (below_step Zt18 hb)
                       clear hb ho26
                       refine hK.out _ _ ⟨(blk_cell BK473.out 0).trans rfl, (blk_cell BK473.out 1).trans rfl, (blk_cell BK473.out 2).trans rfl, (blk_cell BK473.out 3).trans rfl, (blk_cell BK473.out 4).trans rfl, (blk_cell BK473.out 5).trans rfl⟩ (fun hHeld => ?_)
                       clear hK K
                       refine nz_ 56 ?_
                       exact norm_ Zt24 (hJ6 (v486) _ ⟨hHeld, Zt5, Zq52, Zt18⟩)
                      ·skip
                       refine box_step ?hg (N := 9) ?hd (cs := #[.string (⟨#[]⟩ : ByteArray), .bool false, .int .i64 0, .int .i64 0, .string (⟨#[]⟩ : ByteArray), .slice none 0 0]) (t := 24) ?hr ?_; (case hd => rfl); (case hg => rfl); (case hr => exact Zq2)
                       intro gb500 hg w25 hbox hb
                       have BK500 := Aside0.mk (hbox)
                       have GW500 := Aside0.mk ((Zt45 : w.heap.size ≤ gb500))
                       have GE500 := Aside0.mk ((Zt45 : w.heap.size ≤ gb500))
                       have NB473_500 := Aside0.mk ((Zt54 : gb473 ≠ gb500))
                       have NB500_473 := Aside0.mk ((Zt47 : gb500 ≠ gb473))
                       replace BK473 := Aside0.mk (blkb_ BK473.out Zq52 hb)
                       replace HB := Aside0.mk (below_step Zt18 hb)
                       clear hb hbox hg
                       refine hK.out _ _ ⟨(blk_cell BK473.out 0).trans rfl, (blk_cell BK473.out 1).trans rfl, (blk_cell BK473.out 2).trans rfl, (blk_cell BK473.out 3).trans rfl, (blk_cell BK473.out 4).trans rfl, (blk_cell BK473.out 5).trans rfl⟩ (fun hHeld => ?_)
                       clear hK K
                       refine nz_ 9 ?_
                       exact norm_ Zt24 (hJ12 (gb500) _ ⟨hHeld, Zq52, Zq52, GW500.out, GE500.out, NB473_500.out, NB500_473.out, Zt23⟩)
                     ·skip
                      rintro gb500 w26 ⟨hS_, h0_, h1_, h2_, h3_, h4_, h5_, h6_⟩
                      have n0_ : Aside0 (w26.heap[gb473]? = some (.cells #[.string a0_0, .bool a0_1, .int .i64 a0_2, .int .i64 a0_3, .string a0_4, .slice A0_5 l0_5.length c0_5] 24 (0, 0))) := ⟨h0_⟩
                      have n1_ : Aside0 (w26.heap[gb500]? = some (.cells #[.string (⟨#[]⟩ : ByteArray), .bool false, .int .i64 0, .int .i64 0, .string (⟨#[]⟩ : ByteArray), .slice none 0 0] 24 (0, 0))) := ⟨h1_⟩
                      have n2_ : Aside0 (w.heap.size ≤ gb500) := ⟨h2_⟩
                      have n3_ : Aside0 (w.heap.size ≤ gb500) := ⟨h3_⟩
                      have n4_ : Aside0 (gb473 ≠ gb500) := ⟨h4_⟩
                      have n5_ : Aside0 (gb500 ≠ gb473) := ⟨h5_⟩
                      have n6_ : Aside0 (Below w.heap.size w w26) := ⟨h6_⟩
                      clear BK473
                      clear HB
                      clear h0_ h1_ h2_ h3_ h4_ h5_ h6_
                      have BK473 := n0_
                      have BK500 := n1_
                      have GW500 := n2_
                      have GE500 := n3_
                      have NB473_500 := n4_
                      have NB500_473 := n5_
                      have HB := n6_
                      clear n0_ n1_ n2_ n3_ n4_ n5_ n6_
                      have hHeld : w26.cell? ⟨gb473, 0, none⟩ = some (.string a0_0) ∧ w26.cell? ⟨gb473, 1, none⟩ = some (.bool a0_1) ∧ w26.cell? ⟨gb473, 2, none⟩ = some (.int .i64 a0_2) ∧ w26.cell? ⟨gb473, 3, none⟩ = some (.int .i64 a0_3) ∧ w26.cell? ⟨gb473, 4, none⟩ = some (.string a0_4) ∧ w26.cell? ⟨gb473, 5, none⟩ = some (.slice A0_5 l0_5.length c0_5) := hS_
                      refine norm_ (a' := ?_) ?_ ?_
                      rotate_left
                      ·simp only [putAll, Act.put, List.setIfInBounds_toArray, List.set_cons_zero, List.set_cons_succ]
                       rfl
                      refine two_ (i := 1) (j := 6) (Ni := some 51) (Nj := some 56) #[true, true, true, false, true, true, false, false, false, false, false, false, true, false, false] #[true, false, true, false, true, true, true, false, false, false, false, false, true, false, false] rfl rfl rfl rfl (two_of HT_.out (by kernel_rfl)) (by decide) (by decide) (fun K hK => ?_) (fun K hK => ?_)
                      ·skip
                       refine Kd.R_lit_step Kd.string _ 9 ?hg (N := 51) ?hd (xs := ([] : List ByteArray)) (inner := []) (ok := fun _ => True) (okp := fun _ => True) ?hr ?hp (fun _ hk => hk) trivial (Below.refl _ _) (Nat.le_refl _) (by simp) ?_; (case hd => rfl); (case hg => rfl); (case hr => exact Zq2); (case hp => exact (Reps.none _ _))
                       intro v480 w27 ho28 hb hg_ hnew_
                       clear hg_ hnew_
                       (first | rw [← Ny479.out] at ho28 | (simp only [Int.reduceToNat] at ho28; rw [← Ny479.out] at ho28))
                       have HO481 := Aside0.mk (Kd.R_lower ho28 (below_size Zt23))
                       replace BK473 := Aside0.mk (blkb_ BK473.out Zq52 hb)
                       replace BK500 := Aside0.mk (blk_below (g := gb500) (o := .cells #[.string (⟨#[]⟩ : ByteArray), .bool false, .int .i64 0, .int .i64 0, .string (⟨#[]⟩ : ByteArray), .slice none 0 0] 24 (0, 0)) Zq52 hb)
                       replace HB := Aside0.mk (below_step Zt23 hb)
                       clear hb ho28
                       refine hK.out _ _ ⟨(blk_cell BK473.out 0).trans rfl, (blk_cell BK473.out 1).trans rfl, (blk_cell BK473.out 2).trans rfl, (blk_cell BK473.out 3).trans rfl, (blk_cell BK473.out 4).trans rfl, (blk_cell BK473.out 5).trans rfl⟩ (fun hHeld => ?_)
                       clear hK K
                       refine nz_ 51 ?_
                       exact norm_ Zt24 (hJ1_12 (v480, gb500) _ ⟨hHeld, Zt3, Zq52, Zq52, GW500.out, GE500.out, NB473_500.out, NB500_473.out, Zt23⟩)
                      ·skip
                       refine Kd.R_lit_step Kd.string _ 9 ?hg (N := 56) ?hd (xs := ([a0_0] : List ByteArray)) (inner := [.string a0_0]) (ok := fun _ => True) (okp := fun _ => True) ?hr ?hp (fun _ hk => hk) trivial (Below.refl _ _) (Nat.le_refl _) (by simp) ?_; (case hd => rfl); (case hg => rfl); (case hr => exact Zq2); (case hp => exact Zt2)
                       intro v486 w27 ho28 hb hg_ hnew_
                       clear hg_ hnew_
                       (first | rw [← Ny485.out] at ho28 | (simp only [Int.reduceToNat] at ho28; rw [← Ny485.out] at ho28))
                       have HO487 := Aside0.mk (Kd.R_lower ho28 (below_size Zt23))
                       replace BK473 := Aside0.mk (blkb_ BK473.out Zq52 hb)
                       replace BK500 := Aside0.mk (blk_below (g := gb500) (o := .cells #[.string (⟨#[]⟩ : ByteArray), .bool false, .int .i64 0, .int .i64 0, .string (⟨#[]⟩ : ByteArray), .slice none 0 0] 24 (0, 0)) Zq52 hb)
                       replace HB := Aside0.mk (below_step Zt23 hb)
                       clear hb ho28
                       refine hK.out _ _ ⟨(blk_cell BK473.out 0).trans rfl, (blk_cell BK473.out 1).trans rfl, (blk_cell BK473.out 2).trans rfl, (blk_cell BK473.out 3).trans rfl, (blk_cell BK473.out 4).trans rfl, (blk_cell BK473.out 5).trans rfl⟩ (fun hHeld => ?_)
                       clear hK K
                       refine nz_ 56 ?_
                       exact norm_ Zt24 (hJ6_12 (v486, gb500) _ ⟨hHeld, Zt5, Zq52, Zq52, GW500.out, GE500.out, NB473_500.out, NB500_473.out, Zt23⟩)
                    ·skip
                     rintro v486 w27 ⟨hS_, h0_, h1_, h2_⟩
                     have n0_ : Aside0 (Kd.R Kd.string 9 w27 w.heap.size (fun _ => True) v486 y485) := ⟨h0_⟩
                     have n1_ : Aside0 (w27.heap[gb473]? = some (.cells #[.string a0_0, .bool a0_1, .int .i64 a0_2, .int .i64 a0_3, .string a0_4, .slice A0_5 l0_5.length c0_5] 24 (0, 0))) := ⟨h1_⟩
                     have n2_ : Aside0 (Below w.heap.size w w27) := ⟨h2_⟩
                     clear BK473
                     clear HB
                     clear h0_ h1_ h2_
                     have HO487 := n0_
                     have BK473 := n1_
                     have HB := n2_
                     clear n0_ n1_ n2_
                     have hHeld : w27.cell? ⟨gb473, 0, none⟩ = some (.string a0_0) ∧ w27.cell? ⟨gb473, 1, none⟩ = some (.bool a0_1) ∧ w27.cell? ⟨gb473, 2, none⟩ = some (.int .i64 a0_2) ∧ w27.cell? ⟨gb473, 3, none⟩ = some (.int .i64 a0_3) ∧ w27.cell? ⟨gb473, 4, none⟩ = some (.string a0_4) ∧ w27.cell? ⟨gb473, 5, none⟩ = some (.slice A0_5 l0_5.length c0_5) := hS_
                     refine norm_ (a' := ?_) ?_ ?_
                     rotate_left
                     ·simp only [putAll, Act.put, List.setIfInBounds_toArray, List.set_cons_zero, List.set_cons_succ]
                      rfl
                     refine two_ (i := 1) (j := 12) (Ni := some 51) (Nj := some 9) #[true, true, true, false, true, true, true, false, false, false, false, false, false, false, false] #[true, false, true, false, true, true, true, false, false, false, false, false, true, false, false] rfl rfl rfl rfl (two_of HT_.out (by kernel_rfl)) (by decide) (by decide) (fun K hK => ?_) (fun K hK => ?_)
                     ·skip
                      refine Kd.R_lit_step Kd.string _ 9 ?hg (N := 51) ?hd (xs := ([] : List ByteArray)) (inner := []) (ok := fun _ => True) (okp := fun _ => True) ?hr ?hp (fun _ hk => hk) trivial (Below.refl _ _) (Nat.le_refl _) (by simp) ?_; (case hd => rfl); (case hg => rfl); (case hr => exact Zq2); (case hp => exact (Reps.none _ _))
                      intro v480 w28 ho29 hb hg_ hnew_
                      clear hg_ hnew_
                      (first | rw [← Ny479.out] at ho29 | (simp only [Int.reduceToNat] at ho29; rw [← Ny479.out] at ho29))
                      have HO481 := Aside0.mk (Kd.R_lower (Kd.R_new' ho29 (Kd.R_lt Zt5)) (below_size Zt18))
                      replace HO487 := Aside0.mk (Kd.R_elder' Zt5 (Kd.R_base ho29) hb)
                      replace BK473 := Aside0.mk (blkb_ BK473.out Zq52 hb)
                      replace HB := Aside0.mk (below_step Zt18 hb)
                      clear hb ho29
                      refine hK.out _ _ ⟨(blk_cell BK473.out 0).trans rfl, (blk_cell BK473.out 1).trans rfl, (blk_cell BK473.out 2).trans rfl, (blk_cell BK473.out 3).trans rfl, (blk_cell BK473.out 4).trans rfl, (blk_cell BK473.out 5).trans rfl⟩ (fun hHeld => ?_)
                      clear hK K
                      refine nz_ 51 ?_
                      exact norm_ Zt24 (hJ1_6 (v480, v486) _ ⟨hHeld, Zt14, Zt15, Zq52, Zt18⟩)
                     ·skip
                      refine box_step ?hg (N := 9) ?hd (cs := #[.string (⟨#[]⟩ : ByteArray), .bool false, .int .i64 0, .int .i64 0, .string (⟨#[]⟩ : ByteArray), .slice none 0 0]) (t := 24) ?hr ?_; (case hd => rfl); (case hg => rfl); (case hr => exact Zq2)
                      intro gb500 hg w28 hbox hb
                      have BK500 := Aside0.mk (hbox)
                      have GW500 := Aside0.mk ((Zt45 : w.heap.size ≤ gb500))
                      have GE500 := Aside0.mk ((Zt45 : w.heap.size ≤ gb500))
                      have NB473_500 := Aside0.mk ((Zt54 : gb473 ≠ gb500))
                      have NB500_473 := Aside0.mk ((Zt47 : gb500 ≠ gb473))
                      replace HO487 := Aside0.mk (Kd.R_below Zt5 hb)
                      replace BK473 := Aside0.mk (blkb_ BK473.out Zq52 hb)
                      replace HB := Aside0.mk (below_step Zt18 hb)
                      clear hb hbox hg
                      refine hK.out _ _ ⟨(blk_cell BK473.out 0).trans rfl, (blk_cell BK473.out 1).trans rfl, (blk_cell BK473.out 2).trans rfl, (blk_cell BK473.out 3).trans rfl, (blk_cell BK473.out 4).trans rfl, (blk_cell BK473.out 5).trans rfl⟩ (fun hHeld => ?_)
                      clear hK K
                      refine nz_ 9 ?_
                      exact norm_ Zt24 (hJ6_12 (v486, gb500) _ ⟨hHeld, Zt5, Zq52, Zq52, GW500.out, GE500.out, NB473_500.out, NB500_473.out, Zt23⟩)
                   ·skip
                    rintro v480 w27 ⟨hS_, h0_, h1_, h2_⟩
                    have n0_ : Aside0 (Kd.R Kd.string 9 w27 w.heap.size (fun _ => True) v480 y479) := ⟨h0_⟩
                    have n1_ : Aside0 (w27.heap[gb473]? = some (.cells #[.string a0_0, .bool a0_1, .int .i64 a0_2, .int .i64 a0_3, .string a0_4, .slice A0_5 l0_5.length c0_5] 24 (0, 0))) := ⟨h1_⟩
                    have n2_ : Aside0 (Below w.heap.size w w27) := ⟨h2_⟩
                    clear BK473
                    clear HB
                    clear h0_ h1_ h2_
                    have HO481 := n0_
                    have BK473 := n1_
                    have HB := n2_
                    clear n0_ n1_ n2_
                    have hHeld : w27.cell? ⟨gb473, 0, none⟩ = some (.string a0_0) ∧ w27.cell? ⟨gb473, 1, none⟩ = some (.bool a0_1) ∧ w27.cell? ⟨gb473, 2, none⟩ = some (.int .i64 a0_2) ∧ w27.cell? ⟨gb473, 3, none⟩ = some (.int .i64 a0_3) ∧ w27.cell? ⟨gb473, 4, none⟩ = some (.string a0_4) ∧ w27.cell? ⟨gb473, 5, none⟩ = some (.slice A0_5 l0_5.length c0_5) := hS_
                    refine norm_ (a' := ?_) ?_ ?_
                    rotate_left
                    ·simp only [putAll, Act.put, List.setIfInBounds_toArray, List.set_cons_zero, List.set_cons_succ]
                     rfl
                    refine three_ (i := 3) (j := 6) (k := 12) (Ni := some 53) (Nj := some 56) (Nk := some 9) #[true, true, true, true, true, true, false, false, false, false, false, false, false, false, false] #[true, true, true, false, true, true, true, false, false, false, false, false, false, false, false] #[true, true, true, false, true, true, false, false, false, false, false, false, true, false, false] rfl rfl rfl rfl rfl rfl (three_of HT_.out (by kernel_rfl)) (by decide) (by decide) (by decide) (fun K hK => ?_) (fun K hK => ?_) (fun K hK => ?_)
                    ·skip
                     refine Kd.R_append_rows_step Kd.string (w0 := w) w.heap.size (by rfl) (.tmp 51) (.tmp 52) 25 9 (.string ⟨#[]⟩) 16 rfl Tryz.underlying25 info9 rfl (by decide) (by omega) v480 y479 l1 _ _ _ (fun _ => True) (fun _ => False) rfl rfl ?aO ?aR (fun _ _ h => h) (fun _ h => h.elim) ?aF ?aB ?aS ?aL ?_
                     (case aR => exact Zt19)
                     (case aB => exact Zt18)
                     (case aF => exact (fun _ _ => trivial))
                     (case aO => exact Zt3)
                     (case aS => exact (below_size Zt18))
                     (case aL => have := LMc18.out; omega)
                     intro v483 w28 ho hb hg hat
                     rw [← Ny482.out] at ho
                     have n0_ := Aside0.mk (blk_grown (g := gb473) (o := .cells #[.string a0_0, .bool a0_1, .int .i64 a0_2, .int .i64 a0_3, .string a0_4, .slice A0_5 l0_5.length c0_5] 24 (0, 0)) Zq52 hg (Kd.R_ne HO481.out BK473.out (by decide)))
                     have n1_ := Aside0.mk (hb)
                     have n2_ := Aside0.mk (ho)
                     clear BK473
                     clear HB
                     clear HO481
                     have BK473 := n0_
                     have HB := n1_
                     have HO484 := n2_
                     clear n0_ n1_ n2_
                     clear ho hb hg hat
                     refine hK.out _ _ ⟨(blk_cell BK473.out 0).trans rfl, (blk_cell BK473.out 1).trans rfl, (blk_cell BK473.out 2).trans rfl, (blk_cell BK473.out 3).trans rfl, (blk_cell BK473.out 4).trans rfl, (blk_cell BK473.out 5).trans rfl⟩ (fun hHeld => ?_)
                     clear hK K
                     refine nz_ 53 ?_
                     exact norm_ Zt24 (hJ1_3 (v480, v483) _ ⟨hHeld, Zt4, Zq52, Zt18⟩)
                    ·skip
                     refine Kd.R_lit_step Kd.string _ 9 ?hg (N := 56) ?hd (xs := ([a0_0] : List ByteArray)) (inner := [.string a0_0]) (ok := fun _ => True) (okp := fun _ => True) ?hr ?hp (fun _ hk => hk) trivial (Below.refl _ _) (Nat.le_refl _) (by simp) ?_; (case hd => rfl); (case hg => rfl); (case hr => exact Zq2); (case hp => exact Zt2)
                     intro v486 w28 ho29 hb hg_ hnew_
                     clear hg_ hnew_
                     (first | rw [← Ny485.out] at ho29 | (simp only [Int.reduceToNat] at ho29; rw [← Ny485.out] at ho29))
                     have HO487 := Aside0.mk (Kd.R_lower (Kd.R_new' ho29 (Kd.R_lt Zt3)) (below_size Zt18))
                     replace HO481 := Aside0.mk (Kd.R_elder' Zt3 (Kd.R_base ho29) hb)
                     replace BK473 := Aside0.mk (blkb_ BK473.out Zq52 hb)
                     replace HB := Aside0.mk (below_step Zt18 hb)
                     clear hb ho29
                     refine hK.out _ _ ⟨(blk_cell BK473.out 0).trans rfl, (blk_cell BK473.out 1).trans rfl, (blk_cell BK473.out 2).trans rfl, (blk_cell BK473.out 3).trans rfl, (blk_cell BK473.out 4).trans rfl, (blk_cell BK473.out 5).trans rfl⟩ (fun hHeld => ?_)
                     clear hK K
                     refine nz_ 56 ?_
                     exact norm_ Zt24 (hJ1_6 (v480, v486) _ ⟨hHeld, Zt14, Zt15, Zq52, Zt18⟩)
                    ·skip
                     refine box_step ?hg (N := 9) ?hd (cs := #[.string (⟨#[]⟩ : ByteArray), .bool false, .int .i64 0, .int .i64 0, .string (⟨#[]⟩ : ByteArray), .slice none 0 0]) (t := 24) ?hr ?_; (case hd => rfl); (case hg => rfl); (case hr => exact Zq2)
                     intro gb500 hg w28 hbox hb
                     have BK500 := Aside0.mk (hbox)
                     have GW500 := Aside0.mk ((Zt45 : w.heap.size ≤ gb500))
                     have GE500 := Aside0.mk ((Zt45 : w.heap.size ≤ gb500))
                     have NB473_500 := Aside0.mk ((Zt54 : gb473 ≠ gb500))
                     have NB500_473 := Aside0.mk ((Zt47 : gb500 ≠ gb473))
                     replace HO481 := Aside0.mk (Kd.R_below Zt3 hb)
                     replace BK473 := Aside0.mk (blkb_ BK473.out Zq52 hb)
                     replace HB := Aside0.mk (below_step Zt18 hb)
                     clear hb hbox hg
                     refine hK.out _ _ ⟨(blk_cell BK473.out 0).trans rfl, (blk_cell BK473.out 1).trans rfl, (blk_cell BK473.out 2).trans rfl, (blk_cell BK473.out 3).trans rfl, (blk_cell BK473.out 4).trans rfl, (blk_cell BK473.out 5).trans rfl⟩ (fun hHeld => ?_)
                     clear hK K
                     refine nz_ 9 ?_
                     exact norm_ Zt24 (hJ1_12 (v480, gb500) _ ⟨hHeld, Zt3, Zq52, Zq52, GW500.out, GE500.out, NB473_500.out, NB500_473.out, Zt23⟩)
                  ·skip
                   rintro ⟨v486, gb500⟩ w28 ⟨hS_, h0_, h1_, h2_, h3_, h4_, h5_, h6_, h7_⟩
                   have n0_ : Aside0 (Kd.R Kd.string 9 w28 w.heap.size (fun _ => True) v486 y485) := ⟨h0_⟩
                   have n1_ : Aside0 (w28.heap[gb473]? = some (.cells #[.string a0_0, .bool a0_1, .int .i64 a0_2, .int .i64 a0_3, .string a0_4, .slice A0_5 l0_5.length c0_5] 24 (0, 0))) := ⟨h1_⟩
                   have n2_ : Aside0 (w28.heap[gb500]? = some (.cells #[.string (⟨#[]⟩ : ByteArray), .bool false, .int .i64 0, .int .i64 0, .string (⟨#[]⟩ : ByteArray), .slice none 0 0] 24 (0, 0))) := ⟨h2_⟩
                   have n3_ : Aside0 (w.heap.size ≤ gb500) := ⟨h3_⟩
                   have n4_ : Aside0 (w.heap.size ≤ gb500) := ⟨h4_⟩
                   have n5_ : Aside0 (gb473 ≠ gb500) := ⟨h5_⟩
                   have n6_ : Aside0 (gb500 ≠ gb473) := ⟨h6_⟩
                   have n7_ : Aside0 (Below w.heap.size w w28) := ⟨h7_⟩
                   clear BK473
                   clear HB
                   clear h0_ h1_ h2_ h3_ h4_ h5_ h6_ h7_
                   have HO487 := n0_
                   have BK473 := n1_
                   have BK500 := n2_
                   have GW500 := n3_
                   have GE500 := n4_
                   have NB473_500 := n5_
                   have NB500_473 := n6_
                   have HB := n7_
                   clear n0_ n1_ n2_ n3_ n4_ n5_ n6_ n7_
                   have hHeld : w28.cell? ⟨gb473, 0, none⟩ = some (.string a0_0) ∧ w28.cell? ⟨gb473, 1, none⟩ = some (.bool a0_1) ∧ w28.cell? ⟨gb473, 2, none⟩ = some (.int .i64 a0_2) ∧ w28.cell? ⟨gb473, 3, none⟩ = some (.int .i64 a0_3) ∧ w28.cell? ⟨gb473, 4, none⟩ = some (.string a0_4) ∧ w28.cell? ⟨gb473, 5, none⟩ = some (.slice A0_5 l0_5.length c0_5) := hS_
                   refine norm_ (a' := ?_) ?_ ?_
                   rotate_left
                   ·simp only [putAll, Act.put, List.setIfInBounds_toArray, List.set_cons_zero, List.set_cons_succ]
                    rfl
                   refine oz_ 1 51 (fun K hK => ?_)
                   refine Kd.R_lit_step Kd.string _ 9 ?hg (N := 51) ?hd (xs := ([] : List ByteArray)) (inner := []) (ok := fun _ => True) (okp := fun _ => True) ?hr ?hp (fun _ hk => hk) trivial (Below.refl _ _) (Nat.le_refl _) (by simp) ?_; (case hd => rfl); (case hg => rfl); (case hr => exact Zq2); (case hp => exact (Reps.none _ _))
                   intro v480 w29 ho30 hb hg_ hnew_
                   clear hg_ hnew_
                   (first | rw [← Ny479.out] at ho30 | (simp only [Int.reduceToNat] at ho30; rw [← Ny479.out] at ho30))
                   have HO481 := Aside0.mk (Kd.R_lower (Kd.R_new' ho30 (Kd.R_lt Zt5)) (below_size Zt23))
                   replace HO487 := Aside0.mk (Kd.R_elder' Zt5 (Kd.R_base ho30) hb)
                   replace BK473 := Aside0.mk (blkb_ BK473.out Zq52 hb)
                   replace BK500 := Aside0.mk (blk_below (g := gb500) (o := .cells #[.string (⟨#[]⟩ : ByteArray), .bool false, .int .i64 0, .int .i64 0, .string (⟨#[]⟩ : ByteArray), .slice none 0 0] 24 (0, 0)) Zq52 hb)
                   replace HB := Aside0.mk (below_step Zt23 hb)
                   clear hb ho30
                   refine hK.out _ _ ⟨(blk_cell BK473.out 0).trans rfl, (blk_cell BK473.out 1).trans rfl, (blk_cell BK473.out 2).trans rfl, (blk_cell BK473.out 3).trans rfl, (blk_cell BK473.out 4).trans rfl, (blk_cell BK473.out 5).trans rfl⟩ (fun hHeld => ?_)
                   clear hK K
                   refine nz_ 51 ?_
                   exact norm_ Zt24 (hJ1_6_12 (v480, v486, gb500) _ ⟨hHeld, Zt14, Zt15, Zq52, Zq52, GW500.out, GE500.out, NB473_500.out, NB500_473.out, Zt23⟩)
                 ·skip
                  rintro ⟨v480, gb500⟩ w28 ⟨hS_, h0_, h1_, h2_, h3_, h4_, h5_, h6_, h7_⟩
                  have n0_ : Aside0 (Kd.R Kd.string 9 w28 w.heap.size (fun _ => True) v480 y479) := ⟨h0_⟩
                  have n1_ : Aside0 (w28.heap[gb473]? = some (.cells #[.string a0_0, .bool a0_1, .int .i64 a0_2, .int .i64 a0_3, .string a0_4, .slice A0_5 l0_5.length c0_5] 24 (0, 0))) := ⟨h1_⟩
                  have n2_ : Aside0 (w28.heap[gb500]? = some (.cells #[.string (⟨#[]⟩ : ByteArray), .bool false, .int .i64 0, .int .i64 0, .string (⟨#[]⟩ : ByteArray), .slice none 0 0] 24 (0, 0))) := ⟨h2_⟩
                  have n3_ : Aside0 (w.heap.size ≤ gb500) := ⟨h3_⟩
                  have n4_ : Aside0 (w.heap.size ≤ gb500) := ⟨h4_⟩
                  have n5_ : Aside0 (gb473 ≠ gb500) := ⟨h5_⟩
                  have n6_ : Aside0 (gb500 ≠ gb473) := ⟨h6_⟩
                  have n7_ : Aside0 (Below w.heap.size w w28) := ⟨h7_⟩
                  clear BK473
                  clear HB
                  clear h0_ h1_ h2_ h3_ h4_ h5_ h6_ h7_
                  have HO481 := n0_
                  have BK473 := n1_
                  have BK500 := n2_
                  have GW500 := n3_
                  have GE500 := n4_
                  have NB473_500 := n5_
                  have NB500_473 := n6_
                  have HB := n7_
                  clear n0_ n1_ n2_ n3_ n4_ n5_ n6_ n7_
                  have hHeld : w28.cell? ⟨gb473, 0, none⟩ = some (.string a0_0) ∧ w28.cell? ⟨gb473, 1, none⟩ = some (.bool a0_1) ∧ w28.cell? ⟨gb473, 2, none⟩ = some (.int .i64 a0_2) ∧ w28.cell? ⟨gb473, 3, none⟩ = some (.int .i64 a0_3) ∧ w28.cell? ⟨gb473, 4, none⟩ = some (.string a0_4) ∧ w28.cell? ⟨gb473, 5, none⟩ = some (.slice A0_5 l0_5.length c0_5) := hS_
                  refine norm_ (a' := ?_) ?_ ?_
                  rotate_left
                  ·simp only [putAll, Act.put, List.setIfInBounds_toArray, List.set_cons_zero, List.set_cons_succ]
                   rfl
                  refine two_ (i := 3) (j := 6) (Ni := some 53) (Nj := some 56) #[true, true, true, true, true, true, false, false, false, false, false, false, true, false, false] #[true, true, true, false, true, true, true, false, false, false, false, false, true, false, false] rfl rfl rfl rfl (two_of HT_.out (by kernel_rfl)) (by decide) (by decide) (fun K hK => ?_) (fun K hK => ?_)
                  ·skip
                   refine Kd.R_append_rows_step Kd.string (w0 := w) w.heap.size (by rfl) (.tmp 51) (.tmp 52) 25 9 (.string ⟨#[]⟩) 16 rfl Tryz.underlying25 info9 rfl (by decide) (by omega) v480 y479 l1 _ _ _ (fun _ => True) (fun _ => False) rfl rfl ?aO ?aR (fun _ _ h => h) (fun _ h => h.elim) ?aF ?aB ?aS ?aL ?_
                   (case aR => exact Zt19)
                   (case aB => exact Zt23)
                   (case aF => exact (fun _ _ => trivial))
                   (case aO => exact Zt3)
                   (case aS => exact (below_size Zt23))
                   (case aL => have := LMc18.out; omega)
                   intro v483 w29 ho hb hg hat
                   rw [← Ny482.out] at ho
                   have n0_ := Aside0.mk (blk_grown (g := gb473) (o := .cells #[.string a0_0, .bool a0_1, .int .i64 a0_2, .int .i64 a0_3, .string a0_4, .slice A0_5 l0_5.length c0_5] 24 (0, 0)) Zq52 hg (Kd.R_ne HO481.out BK473.out (by decide)))
                   have n1_ := Aside0.mk (blk_grown (g := gb500) (o := .cells #[.string (⟨#[]⟩ : ByteArray), .bool false, .int .i64 0, .int .i64 0, .string (⟨#[]⟩ : ByteArray), .slice none 0 0] 24 (0, 0)) Zq52 hg (Kd.R_ne HO481.out BK500.out (by decide)))
                   have n2_ := Aside0.mk (hb)
                   have n3_ := Aside0.mk (ho)
                   clear BK473
                   clear BK500
                   clear HB
                   clear HO481
                   have BK473 := n0_
                   have BK500 := n1_
                   have HB := n2_
                   have HO484 := n3_
                   clear n0_ n1_ n2_ n3_
                   clear ho hb hg hat
                   refine hK.out _ _ ⟨(blk_cell BK473.out 0).trans rfl, (blk_cell BK473.out 1).trans rfl, (blk_cell BK473.out 2).trans rfl, (blk_cell BK473.out 3).trans rfl, (blk_cell BK473.out 4).trans rfl, (blk_cell BK473.out 5).trans rfl⟩ (fun hHeld => ?_)
                   clear hK K
                   refine nz_ 53 ?_
                   exact norm_ Zt24 (hJ1_3_12 (v480, v483, gb500) _ ⟨hHeld, Zt4, Zq52, Zq52, GW500.out, GE500.out, NB473_500.out, NB500_473.out, Zt23⟩)
                  ·skip
                   refine Kd.R_lit_step Kd.string _ 9 ?hg (N := 56) ?hd (xs := ([a0_0] : List ByteArray)) (inner := [.string a0_0]) (ok := fun _ => True) (okp := fun _ => True) ?hr ?hp (fun _ hk => hk) trivial (Below.refl _ _) (Nat.le_refl _) (by simp) ?_; (case hd => rfl); (case hg => rfl); (case hr => exact Zq2); (case hp => exact Zt2)
                   intro v486 w29 ho30 hb hg_ hnew_
                   clear hg_ hnew_
                   (first | rw [← Ny485.out] at ho30 | (simp only [Int.reduceToNat] at ho30; rw [← Ny485.out] at ho30))
                   have HO487 := Aside0.mk (Kd.R_lower (Kd.R_new' ho30 (Kd.R_lt Zt3)) (below_size Zt23))
                   replace HO481 := Aside0.mk (Kd.R_elder' Zt3 (Kd.R_base ho30) hb)
                   replace BK473 := Aside0.mk (blkb_ BK473.out Zq52 hb)
                   replace BK500 := Aside0.mk (blk_below (g := gb500) (o := .cells #[.string (⟨#[]⟩ : ByteArray), .bool false, .int .i64 0, .int .i64 0, .string (⟨#[]⟩ : ByteArray), .slice none 0 0] 24 (0, 0)) Zq52 hb)
                   replace HB := Aside0.mk (below_step Zt23 hb)
                   clear hb ho30
                   refine hK.out _ _ ⟨(blk_cell BK473.out 0).trans rfl, (blk_cell BK473.out 1).trans rfl, (blk_cell BK473.out 2).trans rfl, (blk_cell BK473.out 3).trans rfl, (blk_cell BK473.out 4).trans rfl, (blk_cell BK473.out 5).trans rfl⟩ (fun hHeld => ?_)
                   clear hK K
                   refine nz_ 56 ?_
                   exact norm_ Zt24 (hJ1_6_12 (v480, v486, gb500) _ ⟨hHeld, Zt14, Zt15, Zq52, Zq52, GW500.out, GE500.out, NB473_500.out, NB500_473.out, Zt23⟩)
                ·skip
                 rintro ⟨v480, v486⟩ w29 ⟨hS_, h0_, h1_, h2_, h3_⟩
                 have n0_ : Aside0 (Kd.R Kd.string 9 w29 w.heap.size (fun k_ => some k_ ≠ (v486 : Value).ownBlock) v480 y479) := ⟨h0_⟩
                 have n1_ : Aside0 (Kd.R Kd.string 9 w29 w.heap.size (fun k_ => some k_ ≠ (v480 : Value).ownBlock) v486 y485) := ⟨h1_⟩
                 have n2_ : Aside0 (w29.heap[gb473]? = some (.cells #[.string a0_0, .bool a0_1, .int .i64 a0_2, .int .i64 a0_3, .string a0_4, .slice A0_5 l0_5.length c0_5] 24 (0, 0))) := ⟨h2_⟩
                 have n3_ : Aside0 (Below w.heap.size w w29) := ⟨h3_⟩
                 clear BK473
                 clear HB
                 clear h0_ h1_ h2_ h3_
                 have HO481 := n0_
                 have HO487 := n1_
                 have BK473 := n2_
                 have HB := n3_
                 clear n0_ n1_ n2_ n3_
                 have hHeld : w29.cell? ⟨gb473, 0, none⟩ = some (.string a0_0) ∧ w29.cell? ⟨gb473, 1, none⟩ = some (.bool a0_1) ∧ w29.cell? ⟨gb473, 2, none⟩ = some (.int .i64 a0_2) ∧ w29.cell? ⟨gb473, 3, none⟩ = some (.int .i64 a0_3) ∧ w29.cell? ⟨gb473, 4, none⟩ = some (.string a0_4) ∧ w29.cell? ⟨gb473, 5, none⟩ = some (.slice A0_5 l0_5.length c0_5) := hS_
                 refine norm_ (a' := ?_) ?_ ?_
                 rotate_left
                 ·simp only [putAll, Act.put, List.setIfInBounds_toArray, List.set_cons_zero, List.set_cons_succ]
                  rfl
                 refine two_ (i := 3) (j := 12) (Ni := some 53) (Nj := some 9) #[true, true, true, true, true, true, true, false, false, false, false, false, false, false, false] #[true, true, true, false, true, true, true, false, false, false, false, false, true, false, false] rfl rfl rfl rfl (two_of HT_.out (by kernel_rfl)) (by decide) (by decide) (fun K hK => ?_) (fun K hK => ?_)
                 ·skip
                  refine Kd.R_append_rows_step Kd.string (w0 := w) w.heap.size (by rfl) (.tmp 51) (.tmp 52) 25 9 (.string ⟨#[]⟩) 16 rfl Tryz.underlying25 info9 rfl (by decide) (by omega) v480 y479 l1 _ _ _ (fun k_ => some k_ ≠ (v486 : Value).ownBlock) (fun _ => False) rfl rfl ?aO ?aR (fun _ _ h => h) (fun _ h => h.elim) ?aF ?aB ?aS ?aL ?_
                  (case aR => exact Zt19)
                  (case aB => exact Zt18)
                  (case aF => exact (fun k_ hk => Kd.fresh' (Kd.R_lt Zt5) k_ hk))
                  (case aO => exact Zt3)
                  (case aS => exact (below_size Zt18))
                  (case aL => have := LMc18.out; omega)
                  intro v483 w30 ho hb hg hat
                  rw [← Ny482.out] at ho
                  have n0_ := Aside0.mk (blk_grown (g := gb473) (o := .cells #[.string a0_0, .bool a0_1, .int .i64 a0_2, .int .i64 a0_3, .string a0_4, .slice A0_5 l0_5.length c0_5] 24 (0, 0)) Zq52 hg (Kd.R_ne HO481.out BK473.out (by decide)))
                  have n1_ := Aside0.mk (Kd.R_after (ok := (fun _ => True)) Zt17 hg hat)
                  have n2_ := Aside0.mk (hb)
                  have n3_ := Aside0.mk (ho)
                  clear BK473
                  clear HO487
                  clear HB
                  clear HO481
                  have BK473 := n0_
                  have HO487 := n1_
                  have HB := n2_
                  have HO484 := n3_
                  clear n0_ n1_ n2_ n3_
                  clear ho hb hg hat
                  refine hK.out _ _ ⟨(blk_cell BK473.out 0).trans rfl, (blk_cell BK473.out 1).trans rfl, (blk_cell BK473.out 2).trans rfl, (blk_cell BK473.out 3).trans rfl, (blk_cell BK473.out 4).trans rfl, (blk_cell BK473.out 5).trans rfl⟩ (fun hHeld => ?_)
                  clear hK K
                  refine nz_ 53 ?_
                  exact norm_ Zt24 (hJ1_3_6 (v480, v483, v486) _ ⟨hHeld, Zt4, Zt15, Zq52, Zt18⟩)
                 ·skip
                  refine box_step ?hg (N := 9) ?hd (cs := #[.string (⟨#[]⟩ : ByteArray), .bool false, .int .i64 0, .int .i64 0, .string (⟨#[]⟩ : ByteArray), .slice none 0 0]) (t := 24) ?hr ?_; (case hd => rfl); (case hg => rfl); (case hr => exact Zq2)
                  intro gb500 hg w30 hbox hb
                  have BK500 := Aside0.mk (hbox)
                  have GW500 := Aside0.mk ((Zt45 : w.heap.size ≤ gb500))
                  have GE500 := Aside0.mk ((Zt45 : w.heap.size ≤ gb500))
                  have NB473_500 := Aside0.mk ((Zt54 : gb473 ≠ gb500))
                  have NB500_473 := Aside0.mk ((Zt47 : gb500 ≠ gb473))
                  replace HO481 := Aside0.mk (Kd.R_below Zt3 hb)
                  replace HO487 := Aside0.mk (Kd.R_below Zt5 hb)
                  replace BK473 := Aside0.mk (blkb_ BK473.out Zq52 hb)
                  replace HB := Aside0.mk (below_step Zt18 hb)
                  clear hb hbox hg
                  refine hK.out _ _ ⟨(blk_cell BK473.out 0).trans rfl, (blk_cell BK473.out 1).trans rfl, (blk_cell BK473.out 2).trans rfl, (blk_cell BK473.out 3).trans rfl, (blk_cell BK473.out 4).trans rfl, (blk_cell BK473.out 5).trans rfl⟩ (fun hHeld => ?_)
                  clear hK K
                  refine nz_ 9 ?_
                  exact norm_ Zt24 (hJ1_6_12 (v480, v486, gb500) _ ⟨hHeld, Zt3, Zt5, Zq52, Zq52, GW500.out, GE500.out, NB473_500.out, NB500_473.out, Zt23⟩)
               ·skip
                rintro ⟨v480, v483⟩ w28 ⟨hS_, h0_, h1_, h2_⟩
                have n0_ : Aside0 (Kd.R Kd.string 9 w28 w.heap.size (fun _ => True) v483 y482) := ⟨h0_⟩
                have n1_ : Aside0 (w28.heap[gb473]? = some (.cells #[.string a0_0, .bool a0_1, .int .i64 a0_2, .int .i64 a0_3, .string a0_4, .slice A0_5 l0_5.length c0_5] 24 (0, 0))) := ⟨h1_⟩
                have n2_ : Aside0 (Below w.heap.size w w28) := ⟨h2_⟩
                clear BK473
                clear HB
                clear h0_ h1_ h2_
                have HO484 := n0_
                have BK473 := n1_
                have HB := n2_
                clear n0_ n1_ n2_
                have hHeld : w28.cell? ⟨gb473, 0, none⟩ = some (.string a0_0) ∧ w28.cell? ⟨gb473, 1, none⟩ = some (.bool a0_1) ∧ w28.cell? ⟨gb473, 2, none⟩ = some (.int .i64 a0_2) ∧ w28.cell? ⟨gb473, 3, none⟩ = some (.int .i64 a0_3) ∧ w28.cell? ⟨gb473, 4, none⟩ = some (.string a0_4) ∧ w28.cell? ⟨gb473, 5, none⟩ = some (.slice A0_5 l0_5.length c0_5) := hS_
                refine norm_ (a' := ?_) ?_ ?_
                rotate_left
                ·simp only [putAll, Act.put, List.setIfInBounds_toArray, List.set_cons_zero, List.set_cons_succ]
                 rfl
                refine two_ (i := 6) (j := 12) (Ni := some 56) (Nj := some 9) #[true, true, true, true, true, true, true, false, false, false, false, false, false, false, false] #[true, true, true, true, true, true, false, false, false, false, false, false, true, false, false] rfl rfl rfl rfl (two_of HT_.out (by kernel_rfl)) (by decide) (by decide) (fun K hK => ?_) (fun K hK => ?_)
                ·skip
                 refine Kd.R_lit_step Kd.string _ 9 ?hg (N := 56) ?hd (xs := ([a0_0] : List ByteArray)) (inner := [.string a0_0]) (ok := fun _ => True) (okp := fun _ => True) ?hr ?hp (fun _ hk => hk) trivial (Below.refl _ _) (Nat.le_refl _) (by simp) ?_; (case hd => rfl); (case hg => rfl); (case hr => exact Zq2); (case hp => exact Zt2)
                 intro v486 w29 ho30 hb hg_ hnew_
                 clear hg_ hnew_
                 (first | rw [← Ny485.out] at ho30 | (simp only [Int.reduceToNat] at ho30; rw [← Ny485.out] at ho30))
                 have HO487 := Aside0.mk (Kd.R_lower (Kd.R_new' ho30 (Kd.R_lt Zt4)) (below_size Zt18))
                 replace HO484 := Aside0.mk (Kd.R_elder' Zt4 (Kd.R_base ho30) hb)
                 replace BK473 := Aside0.mk (blkb_ BK473.out Zq52 hb)
                 replace HB := Aside0.mk (below_step Zt18 hb)
                 clear hb ho30
                 refine hK.out _ _ ⟨(blk_cell BK473.out 0).trans rfl, (blk_cell BK473.out 1).trans rfl, (blk_cell BK473.out 2).trans rfl, (blk_cell BK473.out 3).trans rfl, (blk_cell BK473.out 4).trans rfl, (blk_cell BK473.out 5).trans rfl⟩ (fun hHeld => ?_)
                 clear hK K
                 refine nz_ 56 ?_
                 exact norm_ Zt24 (hJ1_3_6 (v480, v483, v486) _ ⟨hHeld, Zy49, Zt15, Zq52, Zt18⟩)
                ·skip
                 refine box_step ?hg (N := 9) ?hd (cs := #[.string (⟨#[]⟩ : ByteArray), .bool false, .int .i64 0, .int .i64 0, .string (⟨#[]⟩ : ByteArray), .slice none 0 0]) (t := 24) ?hr ?_; (case hd => rfl); (case hg => rfl); (case hr => exact Zq2)
                 intro gb500 hg w29 hbox hb
                 have BK500 := Aside0.mk (hbox)
                 have GW500 := Aside0.mk ((Zt45 : w.heap.size ≤ gb500))
                 have GE500 := Aside0.mk ((Zt45 : w.heap.size ≤ gb500))
                 have NB473_500 := Aside0.mk ((Zt54 : gb473 ≠ gb500))
                 have NB500_473 := Aside0.mk ((Zt47 : gb500 ≠ gb473))
                 replace HO484 := Aside0.mk (Kd.R_below Zt4 hb)
                 replace BK473 := Aside0.mk (blkb_ BK473.out Zq52 hb)
                 replace HB := Aside0.mk (below_step Zt18 hb)
                 clear hb hbox hg
                 refine hK.out _ _ ⟨(blk_cell BK473.out 0).trans rfl, (blk_cell BK473.out 1).trans rfl, (blk_cell BK473.out 2).trans rfl, (blk_cell BK473.out 3).trans rfl, (blk_cell BK473.out 4).trans rfl, (blk_cell BK473.out 5).trans rfl⟩ (fun hHeld => ?_)
                 clear hK K
                 refine nz_ 9 ?_
                 exact norm_ Zt24 (hJ1_3_12 (v480, v483, gb500) _ ⟨hHeld, Zt4, Zq52, Zq52, GW500.out, GE500.out, NB473_500.out, NB500_473.out, Zt23⟩)
              ·skip
               rintro ⟨v480, v486, gb500⟩ w30 ⟨hS_, h0_, h1_, h2_, h3_, h4_, h5_, h6_, h7_, h8_⟩
               have n0_ : Aside0 (Kd.R Kd.string 9 w30 w.heap.size (fun k_ => some k_ ≠ (v486 : Value).ownBlock) v480 y479) := ⟨h0_⟩
               have n1_ : Aside0 (Kd.R Kd.string 9 w30 w.heap.size (fun k_ => some k_ ≠ (v480 : Value).ownBlock) v486 y485) := ⟨h1_⟩
               have n2_ : Aside0 (w30.heap[gb473]? = some (.cells #[.string a0_0, .bool a0_1, .int .i64 a0_2, .int .i64 a0_3, .string a0_4, .slice A0_5 l0_5.length c0_5] 24 (0, 0))) := ⟨h2_⟩
               have n3_ : Aside0 (w30.heap[gb500]? = some (.cells #[.string (⟨#[]⟩ : ByteArray), .bool false, .int .i64 0, .int .i64 0, .string (⟨#[]⟩ : ByteArray), .slice none 0 0] 24 (0, 0))) := ⟨h3_⟩
               have n4_ : Aside0 (w.heap.size ≤ gb500) := ⟨h4_⟩
               have n5_ : Aside0 (w.heap.size ≤ gb500) := ⟨h5_⟩
               have n6_ : Aside0 (gb473 ≠ gb500) := ⟨h6_⟩
               have n7_ : Aside0 (gb500 ≠ gb473) := ⟨h7_⟩
               have n8_ : Aside0 (Below w.heap.size w w30) := ⟨h8_⟩
               clear BK473
               clear HB
               clear h0_ h1_ h2_ h3_ h4_ h5_ h6_ h7_ h8_
               have HO481 := n0_
               have HO487 := n1_
               have BK473 := n2_
               have BK500 := n3_
               have GW500 := n4_
               have GE500 := n5_
               have NB473_500 := n6_
               have NB500_473 := n7_
               have HB := n8_
               clear n0_ n1_ n2_ n3_ n4_ n5_ n6_ n7_ n8_
               have hHeld : w30.cell? ⟨gb473, 0, none⟩ = some (.string a0_0) ∧ w30.cell? ⟨gb473, 1, none⟩ = some (.bool a0_1) ∧ w30.cell? ⟨gb473, 2, none⟩ = some (.int .i64 a0_2) ∧ w30.cell? ⟨gb473, 3, none⟩ = some (.int .i64 a0_3) ∧ w30.cell? ⟨gb473, 4, none⟩ = some (.string a0_4) ∧ w30.cell? ⟨gb473, 5, none⟩ = some (.slice A0_5 l0_5.length c0_5) := hS_
               refine norm_ (a' := ?_) ?_ ?_
               rotate_left
               ·simp only [putAll, Act.put, List.setIfInBounds_toArray, List.set_cons_zero, List.set_cons_succ]
                rfl
               refine oz_ 3 53 (fun K hK => ?_)
               refine Kd.R_append_rows_step Kd.string (w0 := w) w.heap.size (by rfl) (.tmp 51) (.tmp 52) 25 9 (.string ⟨#[]⟩) 16 rfl Tryz.underlying25 info9 rfl (by decide) (by omega) v480 y479 l1 _ _ _ (fun k_ => some k_ ≠ (v486 : Value).ownBlock) (fun _ => False) rfl rfl ?aO ?aR (fun _ _ h => h) (fun _ h => h.elim) ?aF ?aB ?aS ?aL ?_
               (case aR => exact Zt19)
               (case aB => exact Zt23)
               (case aF => exact (fun k_ hk => Kd.fresh' (Kd.R_lt Zt5) k_ hk))
               (case aO => exact Zt3)
               (case aS => exact (below_size Zt23))
               (case aL => have := LMc18.out; omega)
               intro v483 w31 ho hb hg hat
               rw [← Ny482.out] at ho
               have n0_ := Aside0.mk (blk_grown (g := gb473) (o := .cells #[.string a0_0, .bool a0_1, .int .i64 a0_2, .int .i64 a0_3, .string a0_4, .slice A0_5 l0_5.length c0_5] 24 (0, 0)) Zq52 hg (Kd.R_ne HO481.out BK473.out (by decide)))
               have n1_ := Aside0.mk (Kd.R_after (ok := (fun _ => True)) Zt17 hg hat)
               have n2_ := Aside0.mk (blk_grown (g := gb500) (o := .cells #[.string (⟨#[]⟩ : ByteArray), .bool false, .int .i64 0, .int .i64 0, .string (⟨#[]⟩ : ByteArray), .slice none 0 0] 24 (0, 0)) Zq52 hg (Kd.R_ne HO481.out BK500.out (by decide)))
               have n3_ := Aside0.mk (hb)
               have n4_ := Aside0.mk (ho)
               clear BK473
               clear HO487
               clear BK500
               clear HB
               clear HO481
               have BK473 := n0_
               have HO487 := n1_
               have BK500 := n2_
               have HB := n3_
               have HO484 := n4_
               clear n0_ n1_ n2_ n3_ n4_
               clear ho hb hg hat
               refine hK.out _ _ ⟨(blk_cell BK473.out 0).trans rfl, (blk_cell BK473.out 1).trans rfl, (blk_cell BK473.out 2).trans rfl, (blk_cell BK473.out 3).trans rfl, (blk_cell BK473.out 4).trans rfl, (blk_cell BK473.out 5).trans rfl⟩ (fun hHeld => ?_)
               clear hK K
               refine nz_ 53 ?_
               exact norm_ Zt24 (hJ1_3_6_12 (v480, v483, v486, gb500) _ ⟨hHeld, Zt4, Zt15, Zq52, Zq52, GW500.out, GE500.out, NB473_500.out, NB500_473.out, Zt23⟩)
             ·skip
              rintro ⟨v480, v483, gb500⟩ w29 ⟨hS_, h0_, h1_, h2_, h3_, h4_, h5_, h6_, h7_⟩
              have n0_ : Aside0 (Kd.R Kd.string 9 w29 w.heap.size (fun _ => True) v483 y482) := ⟨h0_⟩
              have n1_ : Aside0 (w29.heap[gb473]? = some (.cells #[.string a0_0, .bool a0_1, .int .i64 a0_2, .int .i64 a0_3, .string a0_4, .slice A0_5 l0_5.length c0_5] 24 (0, 0))) := ⟨h1_⟩
              have n2_ : Aside0 (w29.heap[gb500]? = some (.cells #[.string (⟨#[]⟩ : ByteArray), .bool false, .int .i64 0, .int .i64 0, .string (⟨#[]⟩ : ByteArray), .slice none 0 0] 24 (0, 0))) := ⟨h2_⟩
              have n3_ : Aside0 (w.heap.size ≤ gb500) := ⟨h3_⟩
              have n4_ : Aside0 (w.heap.size ≤ gb500) := ⟨h4_⟩
              have n5_ : Aside0 (gb473 ≠ gb500) := ⟨h5_⟩
              have n6_ : Aside0 (gb500 ≠ gb473) := ⟨h6_⟩
              have n7_ : Aside0 (Below w.heap.size w w29) := ⟨h7_⟩
              clear BK473
              clear HB
              clear h0_ h1_ h2_ h3_ h4_ h5_ h6_ h7_
              have HO484 := n0_
              have BK473 := n1_
              have BK500 := n2_
              have GW500 := n3_
              have GE500 := n4_
              have NB473_500 := n5_
              have NB500_473 := n6_
              have HB := n7_
              clear n0_ n1_ n2_ n3_ n4_ n5_ n6_ n7_
              have hHeld : w29.cell? ⟨gb473, 0, none⟩ = some (.string a0_0) ∧ w29.cell? ⟨gb473, 1, none⟩ = some (.bool a0_1) ∧ w29.cell? ⟨gb473, 2, none⟩ = some (.int .i64 a0_2) ∧ w29.cell? ⟨gb473, 3, none⟩ = some (.int .i64 a0_3) ∧ w29.cell? ⟨gb473, 4, none⟩ = some (.string a0_4) ∧ w29.cell? ⟨gb473, 5, none⟩ = some (.slice A0_5 l0_5.length c0_5) := hS_
              refine norm_ (a' := ?_) ?_ ?_
              rotate_left
              ·simp only [putAll, Act.put, List.setIfInBounds_toArray, List.set_cons_zero, List.set_cons_succ]
               rfl
              refine oz_ 6 56 (fun K hK => ?_)
              refine Kd.R_lit_step Kd.string _ 9 ?hg (N := 56) ?hd (xs := ([a0_0] : List ByteArray)) (inner := [.string a0_0]) (ok := fun _ => True) (okp := fun _ => True) ?hr ?hp (fun _ hk => hk) trivial (Below.refl _ _) (Nat.le_refl _) (by simp) ?_; (case hd => rfl); (case hg => rfl); (case hr => exact Zq2); (case hp => exact Zt2)
              intro v486 w30 ho31 hb hg_ hnew_
              clear hg_ hnew_
              (first | rw [← Ny485.out] at ho31 | (simp only [Int.reduceToNat] at ho31; rw [← Ny485.out] at ho31))
              have HO487 := Aside0.mk (Kd.R_lower (Kd.R_new' ho31 (Kd.R_lt Zt4)) (below_size Zt23))
              replace HO484 := Aside0.mk (Kd.R_elder' Zt4 (Kd.R_base ho31) hb)
              replace BK473 := Aside0.mk (blkb_ BK473.out Zq52 hb)
              replace BK500 := Aside0.mk (blk_below (g := gb500) (o := .cells #[.string (⟨#[]⟩ : ByteArray), .bool false, .int .i64 0, .int .i64 0, .string (⟨#[]⟩ : ByteArray), .slice none 0 0] 24 (0, 0)) Zq52 hb)
              replace HB := Aside0.mk (below_step Zt23 hb)
              clear hb ho31
              refine hK.out _ _ ⟨(blk_cell BK473.out 0).trans rfl, (blk_cell BK473.out 1).trans rfl, (blk_cell BK473.out 2).trans rfl, (blk_cell BK473.out 3).trans rfl, (blk_cell BK473.out 4).trans rfl, (blk_cell BK473.out 5).trans rfl⟩ (fun hHeld => ?_)
              clear hK K
              refine nz_ 56 ?_
              exact norm_ Zt24 (hJ1_3_6_12 (v480, v483, v486, gb500) _ ⟨hHeld, Zy49, Zt15, Zq52, Zq52, GW500.out, GE500.out, NB473_500.out, NB500_473.out, Zt23⟩)
            ·skip
             rintro ⟨v480, v483, v486⟩ w30 ⟨hS_, h0_, h1_, h2_, h3_⟩
             have n0_ : Aside0 (Kd.R Kd.string 9 w30 w.heap.size (fun k_ => some k_ ≠ (v486 : Value).ownBlock) v483 y482) := ⟨h0_⟩
             have n1_ : Aside0 (Kd.R Kd.string 9 w30 w.heap.size (fun k_ => some k_ ≠ (v483 : Value).ownBlock) v486 y485) := ⟨h1_⟩
             have n2_ : Aside0 (w30.heap[gb473]? = some (.cells #[.string a0_0, .bool a0_1, .int .i64 a0_2, .int .i64 a0_3, .string a0_4, .slice A0_5 l0_5.length c0_5] 24 (0, 0))) := ⟨h2_⟩
             have n3_ : Aside0 (Below w.heap.size w w30) := ⟨h3_⟩
             clear BK473
             clear HB
             clear h0_ h1_ h2_ h3_
             have HO484 := n0_
             have HO487 := n1_
             have BK473 := n2_
             have HB := n3_
             clear n0_ n1_ n2_ n3_
             have hHeld : w30.cell? ⟨gb473, 0, none⟩ = some (.string a0_0) ∧ w30.cell? ⟨gb473, 1, none⟩ = some (.bool a0_1) ∧ w30.cell? ⟨gb473, 2, none⟩ = some (.int .i64 a0_2) ∧ w30.cell? ⟨gb473, 3, none⟩ = some (.int .i64 a0_3) ∧ w30.cell? ⟨gb473, 4, none⟩ = some (.string a0_4) ∧ w30.cell? ⟨gb473, 5, none⟩ = some (.slice A0_5 l0_5.length c0_5) := hS_
             obtain ⟨Ao32, co32, eo32⟩ := Kd.R_slice HO487.out
             (first | subst eo32 | (injection eo32 with f1_ f2_ f3_; have f4_ := f1_.symm; have f5_ := f3_.symm; clear f1_ f2_ f3_; subst f4_; subst f5_))
             refine norm_ (a' := ?_) ?_ ?_
             rotate_left
             ·simp only [putAll, Act.put, List.setIfInBounds_toArray, List.set_cons_zero, List.set_cons_succ]
              rfl
             refine two_ (i := 7) (j := 12) (Ni := some 57) (Nj := some 9) #[true, true, true, true, true, true, true, true, false, false, false, false, false, false, false] #[true, true, true, true, true, true, true, false, false, false, false, false, true, false, false] rfl rfl rfl rfl (two_of HT_.out (by kernel_rfl)) (by decide) (by decide) (fun K hK => ?_) (fun K hK => ?_)
             ·skip
              refine Kd.R_append_rows_step Kd.string (w0 := w) w.heap.size (by rfl) (.tmp 53) (.tmp 56) 25 9 (.string ⟨#[]⟩) 16 rfl Tryz.underlying25 info9 rfl (by decide) (by omega) v483 y482 y485 _ _ _ (fun k_ => some k_ ≠ (.slice Ao32 y485.length co32 : Value).ownBlock) (fun _ => False) rfl rfl ?aO ?aR (fun _ _ h => h) (fun _ h => h.elim) ?aF ?aB ?aS ?aL ?_
              (case aR => repeat (first | exact (Kd.R_reads' HO487.out).2.2 | (with_reducible refine Kd.C_alloc ?_ _) | (with_reducible refine Kd.C_drewN ?_ _) | (with_reducible refine Kd.C_drew ?_)))
              (case aB => exact Zt18)
              (case aF => exact (fun k_ hk => Kd.fresh' (Kd.R_lt Zt5) k_ hk))
              (case aO => exact Zt4)
              (case aS => exact (below_size Zt18))
              (case aL => have := LMc19.out; omega)
              intro v489 w31 ho hb hg hat
              rw [← Ny488.out] at ho
              have n0_ := Aside0.mk (blk_grown (g := gb473) (o := .cells #[.string a0_0, .bool a0_1, .int .i64 a0_2, .int .i64 a0_3, .string a0_4, .slice A0_5 l0_5.length c0_5] 24 (0, 0)) Zq52 hg (Kd.R_ne HO484.out BK473.out (by decide)))
              have n1_ := Aside0.mk (Kd.R_after (ok := (fun _ => True)) Zt17 hg hat)
              have n2_ := Aside0.mk (hb)
              have n3_ := Aside0.mk (ho)
              clear BK473
              clear HO487
              clear HB
              clear HO484
              have BK473 := n0_
              have HO487 := n1_
              have HB := n2_
              have HO490 := n3_
              clear n0_ n1_ n2_ n3_
              clear ho hb hg hat
              refine hK.out _ _ ⟨(blk_cell BK473.out 0).trans rfl, (blk_cell BK473.out 1).trans rfl, (blk_cell BK473.out 2).trans rfl, (blk_cell BK473.out 3).trans rfl, (blk_cell BK473.out 4).trans rfl, (blk_cell BK473.out 5).trans rfl⟩ (fun hHeld => ?_)
              clear hK K
              refine nz_ 57 ?_
              exact norm_ Zt24 (hJ1_3_6_7 (v480, v483, .slice Ao32 y485.length co32, v489) _ ⟨hHeld, Zt15, Zt6, Zq52, Zt18⟩)
             ·skip
              refine box_step ?hg (N := 9) ?hd (cs := #[.string (⟨#[]⟩ : ByteArray), .bool false, .int .i64 0, .int .i64 0, .string (⟨#[]⟩ : ByteArray), .slice none 0 0]) (t := 24) ?hr ?_; (case hd => rfl); (case hg => rfl); (case hr => exact Zq2)
              intro gb500 hg w31 hbox hb
              have BK500 := Aside0.mk (hbox)
              have GW500 := Aside0.mk ((Zt45 : w.heap.size ≤ gb500))
              have GE500 := Aside0.mk ((Zt45 : w.heap.size ≤ gb500))
              have NB473_500 := Aside0.mk ((Zt54 : gb473 ≠ gb500))
              have NB500_473 := Aside0.mk ((Zt47 : gb500 ≠ gb473))
              replace HO484 := Aside0.mk (Kd.R_below Zt4 hb)
              replace HO487 := Aside0.mk (Kd.R_below Zt5 hb)
              replace BK473 := Aside0.mk (blkb_ BK473.out Zq52 hb)
              replace HB := Aside0.mk (below_step Zt18 hb)
              clear hb hbox hg
              refine hK.out _ _ ⟨(blk_cell BK473.out 0).trans rfl, (blk_cell BK473.out 1).trans rfl, (blk_cell BK473.out 2).trans rfl, (blk_cell BK473.out 3).trans rfl, (blk_cell BK473.out 4).trans rfl, (blk_cell BK473.out 5).trans rfl⟩ (fun hHeld => ?_)
              clear hK K
              refine nz_ 9 ?_
              exact norm_ Zt24 (hJ1_3_6_12 (v480, v483, .slice Ao32 y485.length co32, gb500) _ ⟨hHeld, Zt4, Zt5, Zq52, Zq52, GW500.out, GE500.out, NB473_500.out, NB500_473.out, Zt23⟩)
           ·skip
            rintro ⟨v480, v483, v486, gb500⟩ w31 ⟨hS_, h0_, h1_, h2_, h3_, h4_, h5_, h6_, h7_, h8_⟩
            have n0_ : Aside0 (Kd.R Kd.string 9 w31 w.heap.size (fun k_ => some k_ ≠ (v486 : Value).ownBlock) v483 y482) := ⟨h0_⟩
            have n1_ : Aside0 (Kd.R Kd.string 9 w31 w.heap.size (fun k_ => some k_ ≠ (v483 : Value).ownBlock) v486 y485) := ⟨h1_⟩
            have n2_ : Aside0 (w31.heap[gb473]? = some (.cells #[.string a0_0, .bool a0_1, .int .i64 a0_2, .int .i64 a0_3, .string a0_4, .slice A0_5 l0_5.length c0_5] 24 (0, 0))) := ⟨h2_⟩
            have n3_ : Aside0 (w31.heap[gb500]? = some (.cells #[.string (⟨#[]⟩ : ByteArray), .bool false, .int .i64 0, .int .i64 0, .string (⟨#[]⟩ : ByteArray), .slice none 0 0] 24 (0, 0))) := ⟨h3_⟩
            have n4_ : Aside0 (w.heap.size ≤ gb500) := ⟨h4_⟩
            have n5_ : Aside0 (w.heap.size ≤ gb500) := ⟨h5_⟩
            have n6_ : Aside0 (gb473 ≠ gb500) := ⟨h6_⟩
            have n7_ : Aside0 (gb500 ≠ gb473) := ⟨h7_⟩
            have n8_ : Aside0 (Below w.heap.size w w31) := ⟨h8_⟩
            clear BK473
            clear HB
            clear h0_ h1_ h2_ h3_ h4_ h5_ h6_ h7_ h8_
            have HO484 := n0_
            have HO487 := n1_
            have BK473 := n2_
            have BK500 := n3_
            have GW500 := n4_
            have GE500 := n5_
            have NB473_500 := n6_
            have NB500_473 := n7_
            have HB := n8_
            clear n0_ n1_ n2_ n3_ n4_ n5_ n6_ n7_ n8_
            have hHeld : w31.cell? ⟨gb473, 0, none⟩ = some (.string a0_0) ∧ w31.cell? ⟨gb473, 1, none⟩ = some (.bool a0_1) ∧ w31.cell? ⟨gb473, 2, none⟩ = some (.int .i64 a0_2) ∧ w31.cell? ⟨gb473, 3, none⟩ = some (.int .i64 a0_3) ∧ w31.cell? ⟨gb473, 4, none⟩ = some (.string a0_4) ∧ w31.cell? ⟨gb473, 5, none⟩ = some (.slice A0_5 l0_5.length c0_5) := hS_
            obtain ⟨Ao33, co33, eo33⟩ := Kd.R_slice HO487.out
            (first | subst eo33 | (injection eo33 with f1_ f2_ f3_; have f4_ := f1_.symm; have f5_ := f3_.symm; clear f1_ f2_ f3_; subst f4_; subst f5_))
            refine norm_ (a' := ?_) ?_ ?_
            rotate_left
            ·simp only [putAll, Act.put, List.setIfInBounds_toArray, List.set_cons_zero, List.set_cons_succ]
             rfl
            refine oz_ 7 57 (fun K hK => ?_)
            refine Kd.R_append_rows_step Kd.string (w0 := w) w.heap.size (by rfl) (.tmp 53) (.tmp 56) 25 9 (.string ⟨#[]⟩) 16 rfl Tryz.underlying25 info9 rfl (by decide) (by omega) v483 y482 y485 _ _ _ (fun k_ => some k_ ≠ (.slice Ao33 y485.length co33 : Value).ownBlock) (fun _ => False) rfl rfl ?aO ?aR (fun _ _ h => h) (fun _ h => h.elim) ?aF ?aB ?aS ?aL ?_
            (case aR => repeat (first | exact (Kd.R_reads' HO487.out).2.2 | (with_reducible refine Kd.C_alloc ?_ _) | (with_reducible refine Kd.C_drewN ?_ _) | (with_reducible refine Kd.C_drew ?_)))
            (case aB => exact Zt23)
            (case aF => exact (fun k_ hk => Kd.fresh' (Kd.R_lt Zt5) k_ hk))
            (case aO => exact Zt4)
            (case aS => exact (below_size Zt23))
            (case aL => have := LMc19.out; omega)
            intro v489 w32 ho hb hg hat
            rw [← Ny488.out] at ho
            have n0_ := Aside0.mk (blk_grown (g := gb473) (o := .cells #[.string a0_0, .bool a0_1, .int .i64 a0_2, .int .i64 a0_3, .string a0_4, .slice A0_5 l0_5.length c0_5] 24 (0, 0)) Zq52 hg (Kd.R_ne HO484.out BK473.out (by decide)))
            have n1_ := Aside0.mk (Kd.R_after (ok := (fun _ => True)) Zt17 hg hat)
            have n2_ := Aside0.mk (blk_grown (g := gb500) (o := .cells #[.string (⟨#[]⟩ : ByteArray), .bool false, .int .i64 0, .int .i64 0, .string (⟨#[]⟩ : ByteArray), .slice none 0 0] 24 (0, 0)) Zq52 hg (Kd.R_ne HO484.out BK500.out (by decide)))
            have n3_ := Aside0.mk (hb)
            have n4_ := Aside0.mk (ho)
            clear BK473
            clear HO487
            clear BK500
            clear HB
            clear HO484
            have BK473 := n0_
            have HO487 := n1_
            have BK500 := n2_
            have HB := n3_
            have HO490 := n4_
            clear n0_ n1_ n2_ n3_ n4_
            clear ho hb hg hat
            refine hK.out _ _ ⟨(blk_cell BK473.out 0).trans rfl, (blk_cell BK473.out 1).trans rfl, (blk_cell BK473.out 2).trans rfl, (blk_cell BK473.out 3).trans rfl, (blk_cell BK473.out 4).trans rfl, (blk_cell BK473.out 5).trans rfl⟩ (fun hHeld => ?_)
            clear hK K
            refine nz_ 57 ?_
            exact norm_ Zt24 (hJ1_3_6_7_12 (v480, v483, .slice Ao33 y485.length co33, v489, gb500) _ ⟨hHeld, Zt15, Zt6, Zq52, Zq52, GW500.out, GE500.out, NB473_500.out, NB500_473.out, Zt23⟩)
          ·skip
           rintro ⟨v480, v483, v486, v489⟩ w32 ⟨hS_, h0_, h1_, h2_, h3_⟩
           have n0_ : Aside0 (Kd.R Kd.string 9 w32 w.heap.size (fun k_ => some k_ ≠ (v489 : Value).ownBlock) v486 y485) := ⟨h0_⟩
           have n1_ : Aside0 (Kd.R Kd.string 9 w32 w.heap.size (fun k_ => some k_ ≠ (v486 : Value).ownBlock) v489 y488) := ⟨h1_⟩
           have n2_ : Aside0 (w32.heap[gb473]? = some (.cells #[.string a0_0, .bool a0_1, .int .i64 a0_2, .int .i64 a0_3, .string a0_4, .slice A0_5 l0_5.length c0_5] 24 (0, 0))) := ⟨h2_⟩
           have n3_ : Aside0 (Below w.heap.size w w32) := ⟨h3_⟩
           clear BK473
           clear HB
           clear h0_ h1_ h2_ h3_
           have HO487 := n0_
           have HO490 := n1_
           have BK473 := n2_
           have HB := n3_
           clear n0_ n1_ n2_ n3_
           have hHeld : w32.cell? ⟨gb473, 0, none⟩ = some (.string a0_0) ∧ w32.cell? ⟨gb473, 1, none⟩ = some (.bool a0_1) ∧ w32.cell? ⟨gb473, 2, none⟩ = some (.int .i64 a0_2) ∧ w32.cell? ⟨gb473, 3, none⟩ = some (.int .i64 a0_3) ∧ w32.cell? ⟨gb473, 4, none⟩ = some (.string a0_4) ∧ w32.cell? ⟨gb473, 5, none⟩ = some (.slice A0_5 l0_5.length c0_5) := hS_
           obtain ⟨Ao33, co33, eo33⟩ := Kd.R_slice HO490.out
           (first | subst eo33 | (injection eo33 with f1_ f2_ f3_; have f4_ := f1_.symm; have f5_ := f3_.symm; clear f1_ f2_ f3_; subst f4_; subst f5_))
           refine norm_ (a' := ?_) ?_ ?_
           rotate_left
           ·simp only [putAll, Act.put, List.setIfInBounds_toArray, List.set_cons_zero, List.set_cons_succ]
            rfl
           refine two_ (i := 8) (j := 12) (Ni := some 58) (Nj := some 9) #[true, true, true, true, true, true, true, true, true, false, false, false, false, false, false] #[true, true, true, true, true, true, true, true, false, false, false, false, true, false, false] rfl rfl rfl rfl (two_of HT_.out (by kernel_rfl)) (by decide) (by decide) (fun K hK => ?_) (fun K hK => ?_)
           ·skip
            refine goes_ Tryz.func10 (by kernel_rfl) rfl #[.string t476, .slice Ao33 y488.length co33] (by rfl) rfl rfl Zq14 ?_
            with_reducible refine (trap_Decode.calls kj5 t476 _ _ y488 t491 t492 t493 t494 t495 t496 t499 _ ?side3 ?side1 ?side2 A20.out).mono ?_
            (case side1 => repeat (first | exact (Kd.R_reads' HO490.out).2.2 | (with_reducible refine Kd.C_alloc ?_ _) | (with_reducible refine Kd.C_drewN ?_ _) | (with_reducible refine Kd.C_drew ?_)))
            (case side2 => exact (Kd.R_reads' HO490.out).2.1)
            (case side3 => exact Zq71)
            rintro e w34 ⟨v497, rfl, ho0, hb⟩
            refine ⟨_, rfl, ?_⟩
            have HO498 := Aside0.mk (Kd.R_lower ho0 (below_size Zt18))
            replace HO487 := Aside0.mk (Kd.R_below Zt5 hb)
            replace HO490 := Aside0.mk (Kd.R_below Zt6 hb)
            replace BK473 := Aside0.mk (blkb_ BK473.out Zq52 hb)
            replace HB := Aside0.mk (below_step Zt18 hb)
            (try clear hb)
            (try clear hb2)
            (try clear hk)
            (try clear hi)
            (try clear ho0)
            refine hK.out _ _ ⟨(blk_cell BK473.out 0).trans rfl, (blk_cell BK473.out 1).trans rfl, (blk_cell BK473.out 2).trans rfl, (blk_cell BK473.out 3).trans rfl, (blk_cell BK473.out 4).trans rfl, (blk_cell BK473.out 5).trans rfl⟩ (fun hHeld => ?_)
            clear hK K
            refine nz_ 58 ?_
            refine pz_ 9 49 ?_
            refine pz_ 10 59 ?_
            refine pz_ 11 60 ?_
            exact norm_ Zt24 (hJ1_3_6_7_8 (v480, v483, v486, .slice Ao33 y488.length co33, v497) _ ⟨hHeld, Zt5, Zt6, Zt7, Zq52, Zt18⟩)
           ·skip
            refine box_step ?hg (N := 9) ?hd (cs := #[.string (⟨#[]⟩ : ByteArray), .bool false, .int .i64 0, .int .i64 0, .string (⟨#[]⟩ : ByteArray), .slice none 0 0]) (t := 24) ?hr ?_; (case hd => rfl); (case hg => rfl); (case hr => exact Zq2)
            intro gb500 hg w33 hbox hb
            have BK500 := Aside0.mk (hbox)
            have GW500 := Aside0.mk ((Zt45 : w.heap.size ≤ gb500))
            have GE500 := Aside0.mk ((Zt45 : w.heap.size ≤ gb500))
            have NB473_500 := Aside0.mk ((Zt54 : gb473 ≠ gb500))
            have NB500_473 := Aside0.mk ((Zt47 : gb500 ≠ gb473))
            replace HO487 := Aside0.mk (Kd.R_below Zt5 hb)
            replace HO490 := Aside0.mk (Kd.R_below Zt6 hb)
            replace BK473 := Aside0.mk (blkb_ BK473.out Zq52 hb)
            replace HB := Aside0.mk (below_step Zt18 hb)
            clear hb hbox hg
            refine hK.out _ _ ⟨(blk_cell BK473.out 0).trans rfl, (blk_cell BK473.out 1).trans rfl, (blk_cell BK473.out 2).trans rfl, (blk_cell BK473.out 3).trans rfl, (blk_cell BK473.out 4).trans rfl, (blk_cell BK473.out 5).trans rfl⟩ (fun hHeld => ?_)
            clear hK K
            refine nz_ 9 ?_
            exact norm_ Zt24 (hJ1_3_6_7_12 (v480, v483, v486, .slice Ao33 y488.length co33, gb500) _ ⟨hHeld, Zt5, Zt6, Zq52, Zq52, GW500.out, GE500.out, NB473_500.out, NB500_473.out, Zt23⟩)
         ·skip
          rintro ⟨v480, v483, v486, v489, gb500⟩ w33 ⟨hS_, h0_, h1_, h2_, h3_, h4_, h5_, h6_, h7_, h8_⟩
          have n0_ : Aside0 (Kd.R Kd.string 9 w33 w.heap.size (fun k_ => some k_ ≠ (v489 : Value).ownBlock) v486 y485) := ⟨h0_⟩
          have n1_ : Aside0 (Kd.R Kd.string 9 w33 w.heap.size (fun k_ => some k_ ≠ (v486 : Value).ownBlock) v489 y488) := ⟨h1_⟩
          have n2_ : Aside0 (w33.heap[gb473]? = some (.cells #[.string a0_0, .bool a0_1, .int .i64 a0_2, .int .i64 a0_3, .string a0_4, .slice A0_5 l0_5.length c0_5] 24 (0, 0))) := ⟨h2_⟩
          have n3_ : Aside0 (w33.heap[gb500]? = some (.cells #[.string (⟨#[]⟩ : ByteArray), .bool false, .int .i64 0, .int .i64 0, .string (⟨#[]⟩ : ByteArray), .slice none 0 0] 24 (0, 0))) := ⟨h3_⟩
          have n4_ : Aside0 (w.heap.size ≤ gb500) := ⟨h4_⟩
          have n5_ : Aside0 (w.heap.size ≤ gb500) := ⟨h5_⟩
          have n6_ : Aside0 (gb473 ≠ gb500) := ⟨h6_⟩
          have n7_ : Aside0 (gb500 ≠ gb473) := ⟨h7_⟩
          have n8_ : Aside0 (Below w.heap.size w w33) := ⟨h8_⟩
          clear BK473
          clear HB
          clear h0_ h1_ h2_ h3_ h4_ h5_ h6_ h7_ h8_
          have HO487 := n0_
          have HO490 := n1_
          have BK473 := n2_
          have BK500 := n3_
          have GW500 := n4_
          have GE500 := n5_
          have NB473_500 := n6_
          have NB500_473 := n7_
          have HB := n8_
          clear n0_ n1_ n2_ n3_ n4_ n5_ n6_ n7_ n8_
          have hHeld : w33.cell? ⟨gb473, 0, none⟩ = some (.string a0_0) ∧ w33.cell? ⟨gb473, 1, none⟩ = some (.bool a0_1) ∧ w33.cell? ⟨gb473, 2, none⟩ = some (.int .i64 a0_2) ∧ w33.cell? ⟨gb473, 3, none⟩ = some (.int .i64 a0_3) ∧ w33.cell? ⟨gb473, 4, none⟩ = some (.string a0_4) ∧ w33.cell? ⟨gb473, 5, none⟩ = some (.slice A0_5 l0_5.length c0_5) := hS_
          obtain ⟨Ao34, co34, eo34⟩ := Kd.R_slice HO490.out
          (first | subst eo34 | (injection eo34 with f1_ f2_ f3_; have f4_ := f1_.symm; have f5_ := f3_.symm; clear f1_ f2_ f3_; subst f4_; subst f5_))
          refine norm_ (a' := ?_) ?_ ?_
          rotate_left
          ·simp only [putAll, Act.put, List.setIfInBounds_toArray, List.set_cons_zero, List.set_cons_succ]
           rfl
          refine oz_ 8 58 (fun K hK => ?_)
          refine goes_ Tryz.func10 (by kernel_rfl) rfl #[.string t476, .slice Ao34 y488.length co34] (by rfl) rfl rfl Zq14 ?_
          with_reducible refine (trap_Decode.calls kj5 t476 _ _ y488 t491 t492 t493 t494 t495 t496 t499 _ ?side3 ?side1 ?side2 A20.out).mono ?_
          (case side1 => repeat (first | exact (Kd.R_reads' HO490.out).2.2 | (with_reducible refine Kd.C_alloc ?_ _) | (with_reducible refine Kd.C_drewN ?_ _) | (with_reducible refine Kd.C_drew ?_)))
          (case side2 => exact (Kd.R_reads' HO490.out).2.1)
          (case side3 => exact Zq71)
          rintro e w35 ⟨v497, rfl, ho0, hb⟩
          refine ⟨_, rfl, ?_⟩
          have HO498 := Aside0.mk (Kd.R_lower ho0 (below_size Zt23))
          replace HO487 := Aside0.mk (Kd.R_below Zt5 hb)
          replace HO490 := Aside0.mk (Kd.R_below Zt6 hb)
          replace BK473 := Aside0.mk (blkb_ BK473.out Zq52 hb)
          replace BK500 := Aside0.mk (blk_below (g := gb500) (o := .cells #[.string (⟨#[]⟩ : ByteArray), .bool false, .int .i64 0, .int .i64 0, .string (⟨#[]⟩ : ByteArray), .slice none 0 0] 24 (0, 0)) Zq52 hb)
          replace HB := Aside0.mk (below_step Zt23 hb)
          (try clear hb)
          (try clear hb2)
          (try clear hk)
          (try clear hi)
          (try clear ho0)
          refine hK.out _ _ ⟨(blk_cell BK473.out 0).trans rfl, (blk_cell BK473.out 1).trans rfl, (blk_cell BK473.out 2).trans rfl, (blk_cell BK473.out 3).trans rfl, (blk_cell BK473.out 4).trans rfl, (blk_cell BK473.out 5).trans rfl⟩ (fun hHeld => ?_)
          clear hK K
          refine nz_ 58 ?_
          refine pz_ 9 49 ?_
          refine pz_ 10 59 ?_
          refine pz_ 11 60 ?_
          exact norm_ Zt24 (hJ1_3_6_7_8_12 (v480, v483, v486, .slice Ao34 y488.length co34, v497, gb500) _ ⟨hHeld, Zt5, Zt6, Zt7, Zq52, Zq52, GW500.out, GE500.out, NB473_500.out, NB500_473.out, Zt23⟩)
        ·skip
         rintro ⟨v480, v483, v486, v489, v497⟩ w34 ⟨hS_, h0_, h1_, h2_, h3_, h4_⟩
         have n0_ : Aside0 (Kd.R Kd.string 9 w34 w.heap.size (fun k_ => some k_ ≠ (v489 : Value).ownBlock) v486 y485) := ⟨h0_⟩
         have n1_ : Aside0 (Kd.R Kd.string 9 w34 w.heap.size (fun k_ => some k_ ≠ (v486 : Value).ownBlock) v489 y488) := ⟨h1_⟩
         have n2_ : Aside0 (Kd.R k40 40 w34 w.heap.size (fun _ => True) v497 t496) := ⟨h2_⟩
         have n3_ : Aside0 (w34.heap[gb473]? = some (.cells #[.string a0_0, .bool a0_1, .int .i64 a0_2, .int .i64 a0_3, .string a0_4, .slice A0_5 l0_5.length c0_5] 24 (0, 0))) := ⟨h3_⟩
         have n4_ : Aside0 (Below w.heap.size w w34) := ⟨h4_⟩
         clear BK473
         clear HB
         clear h0_ h1_ h2_ h3_ h4_
         have HO487 := n0_
         have HO490 := n1_
         have HO498 := n2_
         have BK473 := n3_
         have HB := n4_
         clear n0_ n1_ n2_ n3_ n4_
         have hHeld : w34.cell? ⟨gb473, 0, none⟩ = some (.string a0_0) ∧ w34.cell? ⟨gb473, 1, none⟩ = some (.bool a0_1) ∧ w34.cell? ⟨gb473, 2, none⟩ = some (.int .i64 a0_2) ∧ w34.cell? ⟨gb473, 3, none⟩ = some (.int .i64 a0_3) ∧ w34.cell? ⟨gb473, 4, none⟩ = some (.string a0_4) ∧ w34.cell? ⟨gb473, 5, none⟩ = some (.slice A0_5 l0_5.length c0_5) := hS_
         refine norm_ (a' := ?_) ?_ ?_
         rotate_left
         ·simp only [putAll, Act.put, List.setIfInBounds_toArray, List.set_cons_zero, List.set_cons_succ]
          rfl
         refine oz_ 12 9 (fun K hK => ?_)
         refine box_step ?hg (N := 9) ?hd (cs := #[.string (⟨#[]⟩ : ByteArray), .bool false, .int .i64 0, .int .i64 0, .string (⟨#[]⟩ : ByteArray), .slice none 0 0]) (t := 24) ?hr ?_; (case hd => rfl); (case hg => rfl); (case hr => exact Zq2)
         intro gb500 hg w35 hbox hb
         have BK500 := Aside0.mk (hbox)
         have GW500 := Aside0.mk ((Zt45 : w.heap.size ≤ gb500))
         have GE500 := Aside0.mk ((Zt45 : w.heap.size ≤ gb500))
         have NB473_500 := Aside0.mk ((Zt54 : gb473 ≠ gb500))
         have NB500_473 := Aside0.mk ((Zt47 : gb500 ≠ gb473))
         replace HO487 := Aside0.mk (Kd.R_below Zt5 hb)
         replace HO490 := Aside0.mk (Kd.R_below Zt6 hb)
         replace HO498 := Aside0.mk (Kd.R_below Zt7 hb)
         replace BK473 := Aside0.mk (blkb_ BK473.out Zq52 hb)
         replace HB := Aside0.mk (below_step Zt18 hb)
         clear hb hbox hg
         refine hK.out _ _ ⟨(blk_cell BK473.out 0).trans rfl, (blk_cell BK473.out 1).trans rfl, (blk_cell BK473.out 2).trans rfl, (blk_cell BK473.out 3).trans rfl, (blk_cell BK473.out 4).trans rfl, (blk_cell BK473.out 5).trans rfl⟩ (fun hHeld => ?_)
         clear hK K
         refine nz_ 9 ?_
         exact norm_ Zt24 (hJ1_3_6_7_8_12 (v480, v483, v486, v489, v497, gb500) _ ⟨hHeld, Zt5, Zt6, Zt7, Zq52, Zq52, GW500.out, GE500.out, NB473_500.out, NB500_473.out, Zt23⟩)
       rintro ⟨v480, v483, v486, v489, v497, gb500⟩ w35 ⟨hS_, h0_, h1_, h2_, h3_, h4_, h5_, h6_, h7_, h8_, h9_⟩
       have n0_ : Aside0 (Kd.R Kd.string 9 w35 w.heap.size (fun k_ => some k_ ≠ (v489 : Value).ownBlock) v486 y485) := ⟨h0_⟩
       have n1_ : Aside0 (Kd.R Kd.string 9 w35 w.heap.size (fun k_ => some k_ ≠ (v486 : Value).ownBlock) v489 y488) := ⟨h1_⟩
       have n2_ : Aside0 (Kd.R k40 40 w35 w.heap.size (fun _ => True) v497 t496) := ⟨h2_⟩
       have n3_ : Aside0 (w35.heap[gb473]? = some (.cells #[.string a0_0, .bool a0_1, .int .i64 a0_2, .int .i64 a0_3, .string a0_4, .slice A0_5 l0_5.length c0_5] 24 (0, 0))) := ⟨h3_⟩
       have n4_ : Aside0 (w35.heap[gb500]? = some (.cells #[.string (⟨#[]⟩ : ByteArray), .bool false, .int .i64 0, .int .i64 0, .string (⟨#[]⟩ : ByteArray), .slice none 0 0] 24 (0, 0))) := ⟨h4_⟩
       have n5_ : Aside0 (w.heap.size ≤ gb500) := ⟨h5_⟩
       have n6_ : Aside0 (w.heap.size ≤ gb500) := ⟨h6_⟩
       have n7_ : Aside0 (gb473 ≠ gb500) := ⟨h7_⟩
       have n8_ : Aside0 (gb500 ≠ gb473) := ⟨h8_⟩
       have n9_ : Aside0 (Below w.heap.size w w35) := ⟨h9_⟩
       clear BK473
       clear HB
       clear h0_ h1_ h2_ h3_ h4_ h5_ h6_ h7_ h8_ h9_
       have HO487 := n0_
       have HO490 := n1_
       have HO498 := n2_
       have BK473 := n3_
       have BK500 := n4_
       have GW500 := n5_
       have GE500 := n6_
       have NB473_500 := n7_
       have NB500_473 := n8_
       have HB := n9_
       clear n0_ n1_ n2_ n3_ n4_ n5_ n6_ n7_ n8_ n9_
       have hHeld : w35.cell? ⟨gb473, 0, none⟩ = some (.string a0_0) ∧ w35.cell? ⟨gb473, 1, none⟩ = some (.bool a0_1) ∧ w35.cell? ⟨gb473, 2, none⟩ = some (.int .i64 a0_2) ∧ w35.cell? ⟨gb473, 3, none⟩ = some (.int .i64 a0_3) ∧ w35.cell? ⟨gb473, 4, none⟩ = some (.string a0_4) ∧ w35.cell? ⟨gb473, 5, none⟩ = some (.slice A0_5 l0_5.length c0_5) := hS_
       obtain ⟨Ao41, co41, eo41⟩ := Kd.R_slice HO498.out
       (first | subst eo41 | (injection eo41 with f1_ f2_ f3_; have f4_ := f1_.symm; have f5_ := f3_.symm; clear f1_ f2_ f3_; subst f4_; subst f5_))
       refine norm_ (a' := ?_) ?_ ?_
       rotate_left
       ·simp only [putAll, Act.put, List.setIfInBounds_toArray, List.set_cons_zero, List.set_cons_succ]
        rfl
       refine one_ (i := 13) (N := none) #[true, true, true, true, true, true, true, true, true, true, true, true, true, true, false] rfl rfl (one_of HT_.out (by kernel_rfl)) (by decide) (fun K hK => ?_)
       have hs36 : w35.cell? ⟨gb500, 0, none⟩ = some (.string (⟨#[]⟩ : ByteArray)) := (blk_cell BK500.out 0).trans rfl
       have hfs36 := blk_frozen BK500.out 0
       have hns36_0 := NB473_500.out
       have hms36_0 := NB500_473.out
       have hs37 : w35.cell? ⟨gb500, 1, none⟩ = some (.bool false) := (blk_cell BK500.out 1).trans rfl
       have hfs37 := blk_frozen BK500.out 1
       have hns37_0 := NB473_500.out
       have hms37_0 := NB500_473.out
       have hs38 : w35.cell? ⟨gb500, 2, none⟩ = some (.int .i64 0) := (blk_cell BK500.out 2).trans rfl
       have hfs38 := blk_frozen BK500.out 2
       have hns38_0 := NB473_500.out
       have hms38_0 := NB500_473.out
       have hs39 : w35.cell? ⟨gb500, 3, none⟩ = some (.int .i64 0) := (blk_cell BK500.out 3).trans rfl
       have hfs39 := blk_frozen BK500.out 3
       have hns39_0 := NB473_500.out
       have hms39_0 := NB500_473.out
       have hs40 : w35.cell? ⟨gb500, 4, none⟩ = some (.string (⟨#[]⟩ : ByteArray)) := (blk_cell BK500.out 4).trans rfl
       have hfs40 := blk_frozen BK500.out 4
       have hns40_0 := NB473_500.out
       have hms40_0 := NB500_473.out
       have hs42 : w35.cell? ⟨gb500, 5, none⟩ = some (.slice none 0 0) := (blk_cell BK500.out 5).trans rfl
       have hfs42 := blk_frozen BK500.out 5
       have hns42_0 := NB473_500.out
       have hms42_0 := NB500_473.out
       refine skip_ (w1 := ?_) (by rfl) rfl ?_ ?_
       rotate_left
       ·go_simp
        rfl
       refine hK.out _ _ ⟨(by (repeat (with_reducible refine (cell_far (p := ⟨gb500, _, none⟩) NB473_500.out _).trans ?_)); exact hHeld.1), (by (repeat (with_reducible refine (cell_far (p := ⟨gb500, _, none⟩) NB473_500.out _).trans ?_)); exact hHeld.2.1), (by (repeat (with_reducible refine (cell_far (p := ⟨gb500, _, none⟩) NB473_500.out _).trans ?_)); exact hHeld.2.2.1), (by (repeat (with_reducible refine (cell_far (p := ⟨gb500, _, none⟩) NB473_500.out _).trans ?_)); exact hHeld.2.2.2.1), (by (repeat (with_reducible refine (cell_far (p := ⟨gb500, _, none⟩) NB473_500.out _).trans ?_)); exact hHeld.2.2.2.2.1), (by (repeat (with_reducible refine (cell_far (p := ⟨gb500, _, none⟩) NB473_500.out _).trans ?_)); exact hHeld.2.2.2.2.2)⟩ (fun hHeld => ?_)
       clear hK K
       refine pz_ 14 10 ?_
       refine done_ (done_of HT_.out (by kernel_rfl)) ?_
       go_upto_region 9 with (fail)
       go_cut [68] (fun v68 wc => ∃ (kq : Nat) (x68_20 : Bool), v68 = .bool x68_20 ∧ Aside0 (gonglaw09_TrapBack.j1 kq l1 a2 t476 x68_20 a0_0 a0_1 a0_2 a0_3 a0_4 l0_5 = some r) ∧ Aside0 (kq ≤ kj5) ∧ Aside0 (Kd.R k40 40 wc w.heap.size (fun _ => True) (.slice Ao41 t496.length co41) t496) ∧ Aside0 (wc.heap[gb473]? = some (.cells #[.string a0_0, .bool a0_1, .int .i64 a0_2, .int .i64 a0_3, .string a0_4, (.slice A0_5 l0_5.length c0_5)] 24 (0, 0))) ∧ Aside0 (wc.heap[gb500]? = some (.cells #[.string t491, .bool t492, .int .i64 t493, .int .i64 t494, .string t495, (.slice Ao41 t496.length co41)] 24 (0, 0))) ∧ Aside0 (Below w.heap.size w wc))
       case first =>
        have H := HC21.out
        clear HC21
        by_cases c43 : t499 = 0
        ·rw [if_pos c43] at H
         have c43b0 : (t499 == 0) = true := beq_iff_eq.mpr c43
         have c43b1 : (t499 != 0) = false := bne_eq_false_iff_eq.mpr c43
         clear c43
         (first | rw [c43b0] | (simp only [i64_w, i32_w]; rw [c43b0]) | skip)
         replace H := Option.bind_eq_some_iff.mp H
         obtain ⟨t501, A440, H⟩ := H
         replace H : (gonglaw09_TrapBack.j1 kj5 l1 a2 t476 (!t501) a0_0 a0_1 a0_2 a0_3 a0_4 l0_5) = some r := H
         have A44 := Aside0.mk A440
         clear A440
         have H' := Aside0.mk H
         clear H
         have hnb45 := NB473_500.out
         have hnc45 := NB500_473.out
         obtain ⟨hcz46_0, hcz46_1, hcz46_2, hcz46_3, hcz46_4, hcz46_5⟩ := cells6_ BK473.out
         obtain ⟨hfz46_0, hfz46_1, hfz46_2, hfz46_3, hfz46_4, hfz46_5⟩ := frozen6_ BK473.out
         obtain ⟨hcz47_0, hcz47_1, hcz47_2, hcz47_3, hcz47_4, hcz47_5⟩ := cells6_ BK500.out
         obtain ⟨hfz47_0, hfz47_1, hfz47_2, hfz47_3, hfz47_4, hfz47_5⟩ := frozen6_ BK500.out
         go_wp2_with (first | (go_at_call 11; (with_reducible refine (trap_Same.calls kj5 a0_0 a0_1 a0_2 a0_3 a0_4 _ _ l0_5 t491 t492 t493 t494 t495 _ _ t496 t501 _ ?side1 ?side2 ?side3 ?side4 A44.out).mono ?_); (case side1 => exact Kd.C_below HR0_5.out Zt23); (case side2 => exact HC0_5.out); (case side3 => refine (Kd.R_reads' (e := 40) (base := w.heap.size) (ok := fun k_ => True) (n := t496.length) (c := co41) ?_).2.2; exact Zt29); (case side4 => exact (Kd.R_reads' HO498.out).2.1); rintro e w48 ⟨rfl, hb⟩; replace HO487 := Aside0.mk (Kd.R_below (by (with_reducible repeat (first | apply Kd.R_alloc | apply Kd.R_drewN | apply Kd.R_drew)); exact (Kd.R_mono (Kd.R_far (p := ⟨gb500, 5, none⟩) (Kd.R_far (p := ⟨gb500, 4, none⟩) (Kd.R_far (p := ⟨gb500, 3, none⟩) (Kd.R_far (p := ⟨gb500, 2, none⟩) (Kd.R_far (p := ⟨gb500, 1, none⟩) (Kd.R_far (p := ⟨gb500, 0, none⟩) (Kd.R_types HO487.out BK500.out (by decide)) (fun _ hk => hk.2) (.string t491)) (fun _ hk => hk.2) (.bool t492)) (fun _ hk => hk.2) (.int .i64 t493)) (fun _ hk => hk.2) (.int .i64 t494)) (fun _ hk => hk.2) (.string t495)) (fun _ hk => hk.2) (.slice Ao41 t496.length co41)) (fun _ h_ => h_.1))) hb); replace HO490 := Aside0.mk (Kd.R_below (by (with_reducible repeat (first | apply Kd.R_alloc | apply Kd.R_drewN | apply Kd.R_drew)); exact (Kd.R_mono (Kd.R_far (p := ⟨gb500, 5, none⟩) (Kd.R_far (p := ⟨gb500, 4, none⟩) (Kd.R_far (p := ⟨gb500, 3, none⟩) (Kd.R_far (p := ⟨gb500, 2, none⟩) (Kd.R_far (p := ⟨gb500, 1, none⟩) (Kd.R_far (p := ⟨gb500, 0, none⟩) (Kd.R_types HO490.out BK500.out (by decide)) (fun _ hk => hk.2) (.string t491)) (fun _ hk => hk.2) (.bool t492)) (fun _ hk => hk.2) (.int .i64 t493)) (fun _ hk => hk.2) (.int .i64 t494)) (fun _ hk => hk.2) (.string t495)) (fun _ hk => hk.2) (.slice Ao41 t496.length co41)) (fun _ h_ => h_.1))) hb); replace HO498 := Aside0.mk (Kd.R_below Zt29 hb); replace BK473 := Aside0.mk (blkb_ BK473.out Zq52 hb); replace BK500 := Aside0.mk (blk_below (g := gb500) (o := .cells #[.string t491, .bool t492, .int .i64 t493, .int .i64 t494, .string t495, .slice Ao41 t496.length co41] 24 (0, 0)) Zq57 hb); replace HB := Aside0.mk (below_step Zt23 hb); (try clear hb); (try clear hb2); (try clear hk); (try clear hi)))
         go_meet
         case rel => exact ⟨_, (!t501), Zq12, H', ⟨by have := HJ5.out; first | omega | exact Nat.le_refl _⟩, ⟨by (with_reducible repeat (first | apply Kd.R_alloc | apply Kd.R_drewN | apply Kd.R_drew)); exact HO498.out⟩, ⟨Zy61⟩, ⟨Zy62⟩, ⟨Zy22⟩⟩
        ·rw [if_neg c43] at H
         have c43b0 : (t499 == 0) = false := beq_eq_false_iff_ne.mpr c43
         have c43b1 : (t499 != 0) = true := bne_iff_ne.mpr c43
         (first | rw [c43b0] | (simp only [i64_w, i32_w]; rw [c43b0]) | skip)
         have H' := Aside0.mk H
         clear H
         go_wp2
         go_meet
         case rel => exact ⟨_, (true), Zq12, H', ⟨by have := HJ5.out; first | omega | exact Nat.le_refl _⟩, ⟨by (with_reducible repeat (first | apply Kd.R_alloc | apply Kd.R_drewN | apply Kd.R_drew)); exact Kd.R_mono (Kd.R_far (p := ⟨gb500, 5, none⟩) (Kd.R_far (p := ⟨gb500, 4, none⟩) (Kd.R_far (p := ⟨gb500, 3, none⟩) (Kd.R_far (p := ⟨gb500, 2, none⟩) (Kd.R_far (p := ⟨gb500, 1, none⟩) (Kd.R_far (p := ⟨gb500, 0, none⟩) (Kd.R_types HO498.out BK500.out (by decide)) (fun _ hk => hk.2) (.string t491)) (fun _ hk => hk.2) (.bool t492)) (fun _ hk => hk.2) (.int .i64 t493)) (fun _ hk => hk.2) (.int .i64 t494)) (fun _ hk => hk.2) (.string t495)) (fun _ hk => hk.2) (.slice Ao41 t496.length co41)) (fun _ hk => trivial)⟩, ⟨by (with_reducible repeat (first | refine blk_drewN ?_ _ | refine blk_drew ?_ | refine blk_alloc ?_ _)); refine blk_far ?_ NB473_500.out _; (with_reducible repeat (first | refine blk_drewN ?_ _ | refine blk_drew ?_ | refine blk_alloc ?_ _)); refine blk_far ?_ NB473_500.out _; (with_reducible repeat (first | refine blk_drewN ?_ _ | refine blk_drew ?_ | refine blk_alloc ?_ _)); refine blk_far ?_ NB473_500.out _; (with_reducible repeat (first | refine blk_drewN ?_ _ | refine blk_drew ?_ | refine blk_alloc ?_ _)); refine blk_far ?_ NB473_500.out _; (with_reducible repeat (first | refine blk_drewN ?_ _ | refine blk_drew ?_ | refine blk_alloc ?_ _)); refine blk_far ?_ NB473_500.out _; (with_reducible repeat (first | refine blk_drewN ?_ _ | refine blk_drew ?_ | refine blk_alloc ?_ _)); refine blk_far ?_ NB473_500.out _; (with_reducible repeat (first | refine blk_drewN ?_ _ | refine blk_drew ?_ | refine blk_alloc ?_ _)); exact BK473.out⟩, ⟨by (with_reducible repeat (first | refine blk_drewN ?_ _ | refine blk_drew ?_ | refine blk_alloc ?_ _)); refine blk_put (cs := #[.string t491, .bool t492, .int .i64 t493, .int .i64 t494, .string t495, .slice none 0 0]) ?_ 5 _ rfl; (with_reducible repeat (first | refine blk_drewN ?_ _ | refine blk_drew ?_ | refine blk_alloc ?_ _)); refine blk_put (cs := #[.string t491, .bool t492, .int .i64 t493, .int .i64 t494, .string (⟨#[]⟩ : ByteArray), .slice none 0 0]) ?_ 4 _ rfl; (with_reducible repeat (first | refine blk_drewN ?_ _ | refine blk_drew ?_ | refine blk_alloc ?_ _)); refine blk_put (cs := #[.string t491, .bool t492, .int .i64 t493, .int .i64 0, .string (⟨#[]⟩ : ByteArray), .slice none 0 0]) ?_ 3 _ rfl; (with_reducible repeat (first | refine blk_drewN ?_ _ | refine blk_drew ?_ | refine blk_alloc ?_ _)); refine blk_put (cs := #[.string t491, .bool t492, .int .i64 0, .int .i64 0, .string (⟨#[]⟩ : ByteArray), .slice none 0 0]) ?_ 2 _ rfl; (with_reducible repeat (first | refine blk_drewN ?_ _ | refine blk_drew ?_ | refine blk_alloc ?_ _)); refine blk_put (cs := #[.string t491, .bool false, .int .i64 0, .int .i64 0, .string (⟨#[]⟩ : ByteArray), .slice none 0 0]) ?_ 1 _ rfl; (with_reducible repeat (first | refine blk_drewN ?_ _ | refine blk_drew ?_ | refine blk_alloc ?_ _)); refine blk_put (cs := #[.string (⟨#[]⟩ : ByteArray), .bool false, .int .i64 0, .int .i64 0, .string (⟨#[]⟩ : ByteArray), .slice none 0 0]) ?_ 0 _ rfl; (with_reducible repeat (first | refine blk_drewN ?_ _ | refine blk_drew ?_ | refine blk_alloc ?_ _)); exact BK500.out⟩, ⟨Zy22⟩⟩
       case rest =>
        clear HC21
        (try clear c1); (try clear p2); (try clear c4); (try clear c10); (try clear c19); (try clear c43); (try clear c43b0); (try clear c43b1); (try clear c45); (try clear hcz46_0); (try clear hcz46_1); (try clear hcz46_2); (try clear hcz46_3); (try clear hcz46_4); (try clear hcz46_5); (try clear hcz47_0); (try clear hcz47_1); (try clear hcz47_2); (try clear hcz47_3); (try clear hcz47_4); (try clear hcz47_5); (try clear hfz46_0); (try clear hfz46_1); (try clear hfz46_2); (try clear hfz46_3); (try clear hfz46_4); (try clear hfz46_5); (try clear hfz47_0); (try clear hfz47_1); (try clear hfz47_2); (try clear hfz47_3); (try clear hfz47_4); (try clear hfz47_5)
        obtain ⟨kq, x68_20, rfl, HA, HJ20, HO_501005, BK473, BK500, HB⟩ := hcut
        cases kq with
        | zero => exact absurd HA.out (by simp [gonglaw09_TrapBack.j1])
        | succ kj20 =>
         have H := HA.out
         clear HA
         simp only [gonglaw09_TrapBack.j1] at H
         by_cases c49 : x68_20 = true
         ·subst c49
          have H1 : (none) = some r := by rw [if_pos rfl] at H; exact H
          exact absurd H1 (by simp)
         ·replace c49 := Bool.eq_false_iff.mpr c49
          subst c49
          have H1 : (gonglaw09_TrapBack.l0 kj20 l1 a2 t476 false l1 (l1.length : Int) 0 a0_0 a0_1 a0_2 a0_3 a0_4 l0_5) = some r := by rw [if_neg (show ¬ (false = true) by decide)] at H; exact H
          clear H
          have H := H1
          clear H1
          have H' := Aside0.mk H
          clear H
          go_wp2
          go_loopg [11, 71] kj20 (fun kq v11 v71 w' => ∃ (x11_3 : Bool) (x71_3 : Int), v11 = .bool x11_3 ∧ v71 = .int .i64 x71_3 ∧ Aside0 (gonglaw09_TrapBack.l0 kq l1 a2 t476 x11_3 l1 (l1.length : Int) x71_3 a0_0 a0_1 a0_2 a0_3 a0_4 l0_5 = some r) ∧ Aside0 (kq ≤ kj20) ∧ Aside0 (Kd.R k40 40 w' w.heap.size (fun _ => True) (.slice Ao41 t496.length co41) t496) ∧ Aside0 (w'.heap[gb473]? = some (.cells #[.string a0_0, .bool a0_1, .int .i64 a0_2, .int .i64 a0_3, .string a0_4, (.slice A0_5 l0_5.length c0_5)] 24 (0, 0))) ∧ Aside0 (w'.heap[gb500]? = some (.cells #[.string t491, .bool t492, .int .i64 t493, .int .i64 t494, .string t495, (.slice Ao41 t496.length co41)] 24 (0, 0))) ∧ Aside0 (Below w.heap.size w w'))
          case atStart => exact ⟨(false), (0), Zq12, Zq12, H', ⟨Nat.le_refl _⟩, ⟨Zy65⟩, ⟨Zy61⟩, ⟨Zy62⟩, ⟨Zy22⟩⟩
          case round =>
           clear H'
           (try clear c1); (try clear p2); (try clear c4); (try clear c10); (try clear c19); (try clear c43); (try clear c43b0); (try clear c43b1); (try clear c45); (try clear c49); (try clear hcz46_0); (try clear hcz46_1); (try clear hcz46_2); (try clear hcz46_3); (try clear hcz46_4); (try clear hcz46_5); (try clear hcz47_0); (try clear hcz47_1); (try clear hcz47_2); (try clear hcz47_3); (try clear hcz47_4); (try clear hcz47_5); (try clear hfz46_0); (try clear hfz46_1); (try clear hfz46_2); (try clear hfz46_3); (try clear hfz46_4); (try clear hfz46_5); (try clear hfz47_0); (try clear hfz47_1); (try clear hfz47_2); (try clear hfz47_3); (try clear hfz47_4); (try clear hfz47_5)
           obtain ⟨x11_3, x71_3, rfl, rfl, HA, HK3, HO_501005, BK473, BK500, HB⟩ := hrel
           cases gk with
           | zero => exact absurd HA.out (by simp [gonglaw09_TrapBack.l0])
           | succ k3 =>
            have H := HA.out
            clear HA
            simp only [gonglaw09_TrapBack.l0] at H
            by_cases c50 : x71_3 < (l1.length : Int)
            ·rw [if_pos c50] at H
             have c50b0 : decide (x71_3 < (l1.length : Int)) = true := decide_eq_true c50
             clear c50
             by_cases c51 : 0 ≤ x71_3
             ·rw [if_pos c51] at H
              have c51b0 : decide (0 ≤ x71_3) = true := decide_eq_true c51
              clear c51
              by_cases c52 : x71_3 < (l1.length : Int)
              ·rw [if_pos c52] at H
               have c52b0 : decide (x71_3 < (l1.length : Int)) = true := decide_eq_true c52
               clear c52
               by_cases c53 : x11_3 = true
               ·subst c53
                have H1 : (gonglaw09_TrapBack.l0 k3 l1 a2 t476 true l1 (l1.length : Int) (wrap64 (x71_3 + 1)) a0_0 a0_1 a0_2 a0_3 a0_4 l0_5) = some r := by rw [if_pos rfl] at H; exact H
                clear H
                have H := H1
                clear H1
                have H' := Aside0.mk H
                clear H
                have p502 : 0 ≤ (x71_3 : Int) := of_decide_eq_true Zy74
                have q502 : x71_3 < (l1.length : Int) := of_decide_eq_true Zy74
                obtain ⟨ad502, e502, hx502_0⟩ := Kd.at_string HR1.out x71_3 p502 q502
                cases e502
                replace hx502_0 := (HB.out.cell (World.block_lt_of_cell? w _ hx502_0)).trans hx502_0
                replace p502 := eq_true p502
                replace q502 := eq_true q502
                go_wp2
                go_roundg k3
                case measure => have := HJ5.out; have := HJ20.out; have := HK3.out; omega
                case rel => exact ⟨(true), (wrap64 (x71_3 + 1)), Zq12, Zq12, H', ⟨by have := HJ5.out; have := HJ20.out; have := HK3.out; omega⟩, ⟨Zy65⟩, ⟨Zy61⟩, ⟨Zy62⟩, ⟨Zy22⟩⟩
               ·replace c53 := Bool.eq_false_iff.mpr c53
                subst c53
                have H1 : (gonglaw09_TrapBack.l0 k3 l1 a2 t476 ((rdOf ByteArray.empty l1 x71_3).toList == a0_0.toList) l1 (l1.length : Int) (wrap64 (x71_3 + 1)) a0_0 a0_1 a0_2 a0_3 a0_4 l0_5) = some r := by rw [if_neg (show ¬ (false = true) by decide)] at H; exact H
                clear H
                have H := H1
                clear H1
                have H' := Aside0.mk H
                clear H
                have p502 : 0 ≤ (x71_3 : Int) := of_decide_eq_true Zy74
                have q502 : x71_3 < (l1.length : Int) := of_decide_eq_true Zy74
                obtain ⟨ad502, e502, hx502_0⟩ := Kd.at_string HR1.out x71_3 p502 q502
                cases e502
                replace hx502_0 := (HB.out.cell (World.block_lt_of_cell? w _ hx502_0)).trans hx502_0
                replace p502 := eq_true p502
                replace q502 := eq_true q502
                have hnb54 := NB473_500.out
                have hnc54 := NB500_473.out
                obtain ⟨hcz55_0, hcz55_1, hcz55_2, hcz55_3, hcz55_4, hcz55_5⟩ := cells6_ BK473.out
                obtain ⟨hfz55_0, hfz55_1, hfz55_2, hfz55_3, hfz55_4, hfz55_5⟩ := frozen6_ BK473.out
                go_wp2
                go_roundg k3
                case measure => have := HJ5.out; have := HJ20.out; have := HK3.out; omega
                case rel => exact ⟨(((rdOf ByteArray.empty l1 x71_3).toList == a0_0.toList)), (wrap64 (x71_3 + 1)), Zq12, Zq12, H', ⟨by have := HJ5.out; have := HJ20.out; have := HK3.out; omega⟩, ⟨Zy65⟩, ⟨Zy61⟩, ⟨Zy62⟩, ⟨Zy22⟩⟩
              ·rw [if_neg c52] at H
               exact absurd H (by simp)
             ·rw [if_neg c51] at H
              exact absurd H (by simp)
            ·rw [if_neg c50] at H
             have c50b0 : decide (x71_3 < (l1.length : Int)) = false := decide_eq_false c50
             clear c50
             replace H := Option.bind_eq_some_iff.mp H
             obtain ⟨⟨t503, t504, t505, t506, t507, t508, t511⟩, A560, H⟩ := H
             replace H : ((gongbook_Below.f a2 (t476.size : Int)).bind fun t513 => (if 0 ≤ t513 then (if t513 ≤ (t476.size : Int) then ((trap_Decode.f k3 (t476.extract 0 (t513 : Int).toNat) l1).bind fun bt514 => (if t476.size + 1 ≤ 9223372036854775807 then ((trap_Decode.f k3 (t476 ++ (⟨#[120]⟩ : ByteArray)) l1).bind fun bt524 => (if ((t511 == 0) == x11_3) = true then (if x11_3 = true then (if bt514.2.2.2.2.2.2 = 90 then (some (bt524.2.2.2.2.2.2 == 90)) else (none)) else (if t511 = 91 then (if t503.toList = ([] : List UInt8) then (if (t508.length : Int) = 0 then (if bt514.2.2.2.2.2.2 = 90 then (some (bt524.2.2.2.2.2.2 == 90)) else (none)) else (none)) else (none)) else (none))) else (none))) else (none))) else (none)) else (none))) = some r := H
             have A56 := Aside0.mk A560
             clear A560
             replace H := Option.bind_eq_some_iff.mp H
             obtain ⟨t513, A570, H⟩ := H
             replace H : (if 0 ≤ t513 then (if t513 ≤ (t476.size : Int) then ((trap_Decode.f k3 (t476.extract 0 (t513 : Int).toNat) l1).bind fun bt514 => (if t476.size + 1 ≤ 9223372036854775807 then ((trap_Decode.f k3 (t476 ++ (⟨#[120]⟩ : ByteArray)) l1).bind fun bt524 => (if ((t511 == 0) == x11_3) = true then (if x11_3 = true then (if bt514.2.2.2.2.2.2 = 90 then (some (bt524.2.2.2.2.2.2 == 90)) else (none)) else (if t511 = 91 then (if t503.toList = ([] : List UInt8) then (if (t508.length : Int) = 0 then (if bt514.2.2.2.2.2.2 = 90 then (some (bt524.2.2.2.2.2.2 == 90)) else (none)) else (none)) else (none)) else (none))) else (none))) else (none))) else (none)) else (none)) = some r := H
             have A57 := Aside0.mk A570
             clear A570
             by_cases c58 : 0 ≤ t513
             ·rw [if_pos c58] at H
              have c58b0 := eq_true c58
              have c58b1 : decide (0 ≤ t513) = true := decide_eq_true c58
              clear c58
              by_cases c59 : t513 ≤ (t476.size : Int)
              ·rw [if_pos c59] at H
               have c59b0 := eq_true c59
               have c59b1 : decide (t513 ≤ (t476.size : Int)) = true := decide_eq_true c59
               clear c59
               replace H := Option.bind_eq_some_iff.mp H
               obtain ⟨⟨t514, t515, t516, t517, t518, t519, t522⟩, A600, H⟩ := H
               replace H : (if t476.size + 1 ≤ 9223372036854775807 then ((trap_Decode.f k3 (t476 ++ (⟨#[120]⟩ : ByteArray)) l1).bind fun bt524 => (if ((t511 == 0) == x11_3) = true then (if x11_3 = true then (if t522 = 90 then (some (bt524.2.2.2.2.2.2 == 90)) else (none)) else (if t511 = 91 then (if t503.toList = ([] : List UInt8) then (if (t508.length : Int) = 0 then (if t522 = 90 then (some (bt524.2.2.2.2.2.2 == 90)) else (none)) else (none)) else (none)) else (none))) else (none))) else (none)) = some r := H
               have A60 := Aside0.mk A600
               clear A600
               by_cases c61 : t476.size + 1 ≤ 9223372036854775807
               ·rw [if_pos c61] at H
                have c61b0 := eq_true c61
                have c61b1 : decide (t476.size + 1 ≤ 9223372036854775807) = true := decide_eq_true c61
                try have c61b2 : (9223372036854775807 < t476.size + 1) = False := eq_false (Nat.not_lt.2 c61)
                replace H := Option.bind_eq_some_iff.mp H
                obtain ⟨⟨t524, t525, t526, t527, t528, t529, t532⟩, A620, H⟩ := H
                replace H : (if ((t511 == 0) == x11_3) = true then (if x11_3 = true then (if t522 = 90 then (some (t532 == 90)) else (none)) else (if t511 = 91 then (if t503.toList = ([] : List UInt8) then (if (t508.length : Int) = 0 then (if t522 = 90 then (some (t532 == 90)) else (none)) else (none)) else (none)) else (none))) else (none)) = some r := H
                have A62 := Aside0.mk A620
                clear A620
                by_cases c63 : ((t511 == 0) == x11_3) = true
                ·rw [if_pos c63] at H
                 have c63b0 : ((t511 == 0) == x11_3) = true := c63
                 (try (have c63b1 : decide ((t511 == 0) = x11_3) = true := by simpa using c63))
                 (try (have c63b2 : ((t511 == 0) == x11_3) = true := by simpa using c63))
                 clear c63
                 by_cases c64 : x11_3 = true
                 ·subst c64
                  have H1 : (if t522 = 90 then (some (t532 == 90)) else (none)) = some r := by rw [if_pos rfl] at H; exact H
                  clear H
                  have H := H1
                  clear H1
                  by_cases c65 : t522 = 90
                  ·rw [if_pos c65] at H
                   have c65b0 : (t522 == 90) = true := beq_iff_eq.mpr c65
                   have c65b1 : (t522 != 90) = false := bne_eq_false_iff_eq.mpr c65
                   clear c65
                   obtain rfl := Option.some.inj H
                   go_wp2_with (first | ((with_reducible refine gate_callee (f := 10) rfl ?_); refine goesL_ (some 86) rfl rfl Tryz.func10 (by kernel_rfl) rfl #[.string t476, .slice A1 l1.length c1] rfl Zq14 ?_; (with_reducible refine (trap_Decode.calls k3 t476 _ _ l1 t503 t504 t505 t506 t507 t508 t511 _ ?side3 ?side1 ?side2 A56.out).mono ?_); (case side1 => exact Zt19); (case side2 => exact HC1.out); (case side3 => exact Zq71); rintro e w66 ⟨v509, rfl, ho0, hb⟩; refine ⟨_, rfl, ?_⟩; have HO510 := Aside0.mk (Kd.R_lower (Kd.R_new' ho0 (Kd.R_lt Zt11)) (below_size Zt23)); replace HO_501005 := Aside0.mk (Kd.R_elder' Zt11 (Kd.R_base ho0) hb); replace BK473 := Aside0.mk (blkb_ BK473.out Zq52 hb); replace BK500 := Aside0.mk (blkb_ BK500.out Zq52 hb); replace HB := Aside0.mk (below_step Zt23 hb); (try clear hb); (try clear hb2); (try clear hk); (try clear hi); (try clear ho0)) | ((with_reducible refine gate_dst (N := 14) rfl ?_); (try (refine gate_guard (by rfl) ?_; dsimp only)); refine box_event ?hg (N := 14) ?hd (cs := #[.string (⟨#[]⟩ : ByteArray), .bool false, .int .i64 0, .int .i64 0, .string (⟨#[]⟩ : ByteArray), .slice none 0 0]) (t := 24) ?hr ?_; (case hd => rfl); (case hg => rfl); (case hr => exact Zq2); intro gb512 hg w67 hbox hb; have BK512 := Aside0.mk (hbox); have GW512 := Aside0.mk ((by rw [hg]; exact (below_size Zt23) : w.heap.size ≤ gb512)); have GE512 := Aside0.mk ((by rw [hg]; exact (below_size Zt23) : w.heap.size ≤ gb512)); have NB473_512 := Aside0.mk ((Zt54 : gb473 ≠ gb512)); have NB512_473 := Aside0.mk ((Zt47 : gb512 ≠ gb473)); have NB500_512 := Aside0.mk ((Zt58 : gb500 ≠ gb512)); have NB512_500 := Aside0.mk ((Zt51 : gb512 ≠ gb500)); replace HO_501005 := Aside0.mk (Kd.R_below Zt11 hb); replace HO510 := Aside0.mk (Kd.R_below Zt8 hb); replace BK473 := Aside0.mk (blkb_ BK473.out Zq52 hb); replace BK500 := Aside0.mk (blkb_ BK500.out Zq52 hb); replace HB := Aside0.mk (below_step Zt23 hb); clear hb hbox hg; have hnb68 := NB512_473.out; have hnc68 := NB473_512.out; have hnb69 := NB512_500.out; have hnc69 := NB500_512.out; obtain ⟨hcz70_0, hcz70_1, hcz70_2, hcz70_3, hcz70_4, hcz70_5⟩ := cells6_ BK512.out; obtain ⟨hfz70_0, hfz70_1, hfz70_2, hfz70_3, hfz70_4, hfz70_5⟩ := frozen6_ BK512.out; obtain ⟨Ao71, co71, eo71⟩ := Kd.R_slice HO510.out; subst eo71) | ((with_reducible refine gate_callee (f := 12) rfl ?_); refine goesL_ (some 94) rfl rfl Tryz.func12 (by kernel_rfl) rfl #[.int .i64 a2, .int .i64 (t476.size : Int)] rfl Zq14 ?_; (with_reducible refine (gongbook_Below.calls a2 (t476.size : Int) t513 _ A57.out).mono ?_); rintro e w' ⟨rfl, ⟨nd, rfl⟩⟩; refine ⟨_, rfl, ?_⟩) | ((with_reducible refine gate_callee (f := 10) rfl ?_); refine goesL_ (some 97) rfl rfl Tryz.func10 (by kernel_rfl) rfl #[.string (t476.extract 0 (t513 : Int).toNat), .slice A1 l1.length c1] rfl Zq14 ?_; (with_reducible refine (trap_Decode.calls k3 (t476.extract 0 (t513 : Int).toNat) _ _ l1 t514 t515 t516 t517 t518 t519 t522 _ ?side3 ?side1 ?side2 A60.out).mono ?_); (case side1 => exact Kd.C_below HR1.out Zt25); (case side2 => exact HC1.out); (case side3 => exact Zq71); rintro e w72 ⟨v520, rfl, ho0, hb⟩; refine ⟨_, rfl, ?_⟩; have HO521 := Aside0.mk (Kd.R_lower (Kd.R_new' (Kd.R_new' ho0 (Kd.R_lt Zt39)) (Kd.R_lt Zt30)) (below_size Zt25)); replace HO_501005 := Aside0.mk (Kd.R_elder' Zt39 (Kd.R_base ho0) hb); replace HO510 := Aside0.mk (Kd.R_elder' Zt30 (Kd.R_base ho0) hb); replace BK473 := Aside0.mk (blkb_ BK473.out Zq52 hb); replace BK500 := Aside0.mk (blkb_ BK500.out Zq52 hb); replace BK512 := Aside0.mk (blk_below (g := gb512) (o := .cells #[.string t503, .bool t504, .int .i64 t505, .int .i64 t506, .string t507, .slice Ao71 t508.length co71] 24 (0, 0)) Zq57 hb); replace HB := Aside0.mk (below_step Zt25 hb); (try clear hb); (try clear hb2); (try clear hk); (try clear hi); (try clear ho0)) | ((with_reducible refine gate_dst (N := 16) rfl ?_); (try (refine gate_guard (by rfl) ?_; dsimp only)); refine box_event ?hg (N := 16) ?hd (cs := #[.string (⟨#[]⟩ : ByteArray), .bool false, .int .i64 0, .int .i64 0, .string (⟨#[]⟩ : ByteArray), .slice none 0 0]) (t := 24) ?hr ?_; (case hd => rfl); (case hg => rfl); (case hr => exact Zq2); intro gb523 hg w73 hbox hb; have BK523 := Aside0.mk (hbox); have GW523 := Aside0.mk ((by rw [hg]; exact (below_size Zt25) : w.heap.size ≤ gb523)); have GE523 := Aside0.mk ((by rw [hg]; exact (below_size Zt25) : w.heap.size ≤ gb523)); have NB473_523 := Aside0.mk ((Zt54 : gb473 ≠ gb523)); have NB523_473 := Aside0.mk ((Zt47 : gb523 ≠ gb473)); have NB500_523 := Aside0.mk ((Zt58 : gb500 ≠ gb523)); have NB523_500 := Aside0.mk ((Zt51 : gb523 ≠ gb500)); have NB512_523 := Aside0.mk ((by rw [hg]; exact Nat.ne_of_lt (blk_lt (g := gb512) (o := .cells #[.string t503, .bool t504, .int .i64 t505, .int .i64 t506, .string t507, .slice Ao71 t508.length co71] 24 (0, 0)) Zq52) : gb512 ≠ gb523)); have NB523_512 := Aside0.mk ((by rw [hg]; exact Nat.ne_of_gt (blk_lt (g := gb512) (o := .cells #[.string t503, .bool t504, .int .i64 t505, .int .i64 t506, .string t507, .slice Ao71 t508.length co71] 24 (0, 0)) Zq52) : gb523 ≠ gb512)); replace HO_501005 := Aside0.mk (Kd.R_below Zt11 hb); replace HO510 := Aside0.mk (Kd.R_below Zt8 hb); replace HO521 := Aside0.mk (Kd.R_below Zt9 hb); replace BK473 := Aside0.mk (blkb_ BK473.out Zq52 hb); replace BK500 := Aside0.mk (blkb_ BK500.out Zq52 hb); replace BK512 := Aside0.mk (blkb_ BK512.out Zq52 hb); replace HB := Aside0.mk (below_step Zt25 hb); clear hb hbox hg; have hnb74 := NB523_473.out; have hnc74 := NB473_523.out; have hnb75 := NB523_500.out; have hnc75 := NB500_523.out; have hnb76 := NB523_512.out; have hnc76 := NB512_523.out; obtain ⟨hcz77_0, hcz77_1, hcz77_2, hcz77_3, hcz77_4, hcz77_5⟩ := cells6_ BK523.out; obtain ⟨hfz77_0, hfz77_1, hfz77_2, hfz77_3, hfz77_4, hfz77_5⟩ := frozen6_ BK523.out; obtain ⟨Ao78, co78, eo78⟩ := Kd.R_slice HO521.out; subst eo78) | ((with_reducible refine gate_callee (f := 10) rfl ?_); refine goesL_ (some 104) rfl rfl Tryz.func10 (by kernel_rfl) rfl #[.string (t476 ++ (⟨#[120]⟩ : ByteArray)), .slice A1 l1.length c1] rfl Zq14 ?_; (with_reducible refine (trap_Decode.calls k3 (t476 ++ (⟨#[120]⟩ : ByteArray)) _ _ l1 t524 t525 t526 t527 t528 t529 t532 _ ?side3 ?side1 ?side2 A62.out).mono ?_); (case side1 => exact Kd.C_below HR1.out Zt27); (case side2 => exact HC1.out); (case side3 => exact Zq71); rintro e w79 ⟨v530, rfl, ho0, hb⟩; refine ⟨_, rfl, ?_⟩; have HO531 := Aside0.mk (Kd.R_lower (Kd.R_new' (Kd.R_new' (Kd.R_new' ho0 (Kd.R_lt Zt40)) (Kd.R_lt Zt31)) (Kd.R_lt Zt32)) (below_size Zt27)); replace HO_501005 := Aside0.mk (Kd.R_elder' Zt40 (Kd.R_base ho0) hb); replace HO510 := Aside0.mk (Kd.R_elder' Zt31 (Kd.R_base ho0) hb); replace HO521 := Aside0.mk (Kd.R_elder' Zt32 (Kd.R_base ho0) hb); replace BK473 := Aside0.mk (blkb_ BK473.out Zq52 hb); replace BK500 := Aside0.mk (blkb_ BK500.out Zq52 hb); replace BK512 := Aside0.mk (blkb_ BK512.out Zq52 hb); replace BK523 := Aside0.mk (blk_below (g := gb523) (o := .cells #[.string t514, .bool t515, .int .i64 t516, .int .i64 t517, .string t518, .slice Ao78 t519.length co78] 24 (0, 0)) Zq57 hb); replace HB := Aside0.mk (below_step Zt27 hb); (try clear hb); (try clear hb2); (try clear hk); (try clear hi); (try clear ho0)) | ((with_reducible refine gate_dst (N := 18) rfl ?_); (try (refine gate_guard (by rfl) ?_; dsimp only)); refine box_event ?hg (N := 18) ?hd (cs := #[.string (⟨#[]⟩ : ByteArray), .bool false, .int .i64 0, .int .i64 0, .string (⟨#[]⟩ : ByteArray), .slice none 0 0]) (t := 24) ?hr ?_; (case hd => rfl); (case hg => rfl); (case hr => exact Zq2); intro gb533 hg w80 hbox hb; have BK533 := Aside0.mk (hbox); have GW533 := Aside0.mk ((by rw [hg]; exact (below_size Zt27) : w.heap.size ≤ gb533)); have GE533 := Aside0.mk ((by rw [hg]; exact (below_size Zt27) : w.heap.size ≤ gb533)); have NB473_533 := Aside0.mk ((Zt54 : gb473 ≠ gb533)); have NB533_473 := Aside0.mk ((Zt47 : gb533 ≠ gb473)); have NB500_533 := Aside0.mk ((Zt58 : gb500 ≠ gb533)); have NB533_500 := Aside0.mk ((Zt51 : gb533 ≠ gb500)); have NB512_533 := Aside0.mk ((by rw [hg]; exact Nat.ne_of_lt (blk_lt (g := gb512) (o := .cells #[.string t503, .bool t504, .int .i64 t505, .int .i64 t506, .string t507, .slice Ao71 t508.length co71] 24 (0, 0)) Zq52) : gb512 ≠ gb533)); have NB533_512 := Aside0.mk ((by rw [hg]; exact Nat.ne_of_gt (blk_lt (g := gb512) (o := .cells #[.string t503, .bool t504, .int .i64 t505, .int .i64 t506, .string t507, .slice Ao71 t508.length co71] 24 (0, 0)) Zq52) : gb533 ≠ gb512)); have NB523_533 := Aside0.mk ((by rw [hg]; exact Nat.ne_of_lt (blk_lt (g := gb523) (o := .cells #[.string t514, .bool t515, .int .i64 t516, .int .i64 t517, .string t518, .slice Ao78 t519.length co78] 24 (0, 0)) Zq52) : gb523 ≠ gb533)); have NB533_523 := Aside0.mk ((by rw [hg]; exact Nat.ne_of_gt (blk_lt (g := gb523) (o := .cells #[.string t514, .bool t515, .int .i64 t516, .int .i64 t517, .string t518, .slice Ao78 t519.length co78] 24 (0, 0)) Zq52) : gb533 ≠ gb523)); replace HO_501005 := Aside0.mk (Kd.R_below Zt11 hb); replace HO510 := Aside0.mk (Kd.R_below Zt8 hb); replace HO521 := Aside0.mk (Kd.R_below Zt9 hb); replace HO531 := Aside0.mk (Kd.R_below Zt10 hb); replace BK473 := Aside0.mk (blkb_ BK473.out Zq52 hb); replace BK500 := Aside0.mk (blkb_ BK500.out Zq52 hb); replace BK512 := Aside0.mk (blkb_ BK512.out Zq52 hb); replace BK523 := Aside0.mk (blkb_ BK523.out Zq52 hb); replace HB := Aside0.mk (below_step Zt27 hb); clear hb hbox hg; have hnb81 := NB533_473.out; have hnc81 := NB473_533.out; have hnb82 := NB533_500.out; have hnc82 := NB500_533.out; have hnb83 := NB533_512.out; have hnc83 := NB512_533.out; have hnb84 := NB533_523.out; have hnc84 := NB523_533.out; obtain ⟨hcz85_0, hcz85_1, hcz85_2, hcz85_3, hcz85_4, hcz85_5⟩ := cells6_ BK533.out; obtain ⟨hfz85_0, hfz85_1, hfz85_2, hfz85_3, hfz85_4, hfz85_5⟩ := frozen6_ BK533.out; obtain ⟨Ao86, co86, eo86⟩ := Kd.R_slice HO531.out; subst eo86))
                   go_ret
                   exact ⟨Zy51, Zy12⟩
                  ·rw [if_neg c65] at H
                   exact absurd H (by simp)
                 ·replace c64 := Bool.eq_false_iff.mpr c64
                  subst c64
                  have H1 : (if t511 = 91 then (if t503.toList = ([] : List UInt8) then (if (t508.length : Int) = 0 then (if t522 = 90 then (some (t532 == 90)) else (none)) else (none)) else (none)) else (none)) = some r := by rw [if_neg (show ¬ (false = true) by decide)] at H; exact H
                  clear H
                  have H := H1
                  clear H1
                  by_cases c108 : t511 = 91
                  ·rw [if_pos c108] at H
                   have c108b0 : (t511 == 91) = true := beq_iff_eq.mpr c108
                   have c108b1 : (t511 != 91) = false := bne_eq_false_iff_eq.mpr c108
                   clear c108
                   by_cases c109 : t503.toList = ([] : List UInt8)
                   ·rw [if_pos c109] at H
                    have c109b0 : (t503.toList == ([] : List UInt8)) = true := beq_iff_eq.mpr c109
                    have c109b1 : (t503.toList != ([] : List UInt8)) = false := bne_eq_false_iff_eq.mpr c109
                    clear c109
                    by_cases c110 : (t508.length : Int) = 0
                    ·rw [if_pos c110] at H
                     have c110b0 : ((t508.length : Int) == 0) = true := beq_iff_eq.mpr c110
                     have c110b1 : ((t508.length : Int) != 0) = false := bne_eq_false_iff_eq.mpr c110
                     clear c110
                     by_cases c111 : t522 = 90
                     ·rw [if_pos c111] at H
                      have c111b0 : (t522 == 90) = true := beq_iff_eq.mpr c111
                      have c111b1 : (t522 != 90) = false := bne_eq_false_iff_eq.mpr c111
                      clear c111
                      obtain rfl := Option.some.inj H
                      go_wp2_with (first | ((with_reducible refine gate_callee (f := 10) rfl ?_); refine goesL_ (some 86) rfl rfl Tryz.func10 (by kernel_rfl) rfl #[.string t476, .slice A1 l1.length c1] rfl Zq14 ?_; (with_reducible refine (trap_Decode.calls k3 t476 _ _ l1 t503 t504 t505 t506 t507 t508 t511 _ ?side3 ?side1 ?side2 A56.out).mono ?_); (case side1 => exact Zt19); (case side2 => exact HC1.out); (case side3 => exact Zq71); rintro e w112 ⟨v509, rfl, ho0, hb⟩; refine ⟨_, rfl, ?_⟩; have HO510 := Aside0.mk (Kd.R_lower (Kd.R_new' ho0 (Kd.R_lt Zt11)) (below_size Zt23)); replace HO_501005 := Aside0.mk (Kd.R_elder' Zt11 (Kd.R_base ho0) hb); replace BK473 := Aside0.mk (blkb_ BK473.out Zq52 hb); replace BK500 := Aside0.mk (blkb_ BK500.out Zq52 hb); replace HB := Aside0.mk (below_step Zt23 hb); (try clear hb); (try clear hb2); (try clear hk); (try clear hi); (try clear ho0)) | ((with_reducible refine gate_dst (N := 14) rfl ?_); (try (refine gate_guard (by rfl) ?_; dsimp only)); refine box_event ?hg (N := 14) ?hd (cs := #[.string (⟨#[]⟩ : ByteArray), .bool false, .int .i64 0, .int .i64 0, .string (⟨#[]⟩ : ByteArray), .slice none 0 0]) (t := 24) ?hr ?_; (case hd => rfl); (case hg => rfl); (case hr => exact Zq2); intro gb512 hg w113 hbox hb; have BK512 := Aside0.mk (hbox); have GW512 := Aside0.mk ((by rw [hg]; exact (below_size Zt23) : w.heap.size ≤ gb512)); have GE512 := Aside0.mk ((by rw [hg]; exact (below_size Zt23) : w.heap.size ≤ gb512)); have NB473_512 := Aside0.mk ((Zt54 : gb473 ≠ gb512)); have NB512_473 := Aside0.mk ((Zt47 : gb512 ≠ gb473)); have NB500_512 := Aside0.mk ((Zt58 : gb500 ≠ gb512)); have NB512_500 := Aside0.mk ((Zt51 : gb512 ≠ gb500)); replace HO_501005 := Aside0.mk (Kd.R_below Zt11 hb); replace HO510 := Aside0.mk (Kd.R_below Zt8 hb); replace BK473 := Aside0.mk (blkb_ BK473.out Zq52 hb); replace BK500 := Aside0.mk (blkb_ BK500.out Zq52 hb); replace HB := Aside0.mk (below_step Zt23 hb); clear hb hbox hg; have hnb114 := NB512_473.out; have hnc114 := NB473_512.out; have hnb115 := NB512_500.out; have hnc115 := NB500_512.out; obtain ⟨hcz116_0, hcz116_1, hcz116_2, hcz116_3, hcz116_4, hcz116_5⟩ := cells6_ BK512.out; obtain ⟨hfz116_0, hfz116_1, hfz116_2, hfz116_3, hfz116_4, hfz116_5⟩ := frozen6_ BK512.out; obtain ⟨Ao117, co117, eo117⟩ := Kd.R_slice HO510.out; subst eo117) | ((with_reducible refine gate_callee (f := 12) rfl ?_); refine goesL_ (some 94) rfl rfl Tryz.func12 (by kernel_rfl) rfl #[.int .i64 a2, .int .i64 (t476.size : Int)] rfl Zq14 ?_; (with_reducible refine (gongbook_Below.calls a2 (t476.size : Int) t513 _ A57.out).mono ?_); rintro e w' ⟨rfl, ⟨nd, rfl⟩⟩; refine ⟨_, rfl, ?_⟩) | ((with_reducible refine gate_callee (f := 10) rfl ?_); refine goesL_ (some 97) rfl rfl Tryz.func10 (by kernel_rfl) rfl #[.string (t476.extract 0 (t513 : Int).toNat), .slice A1 l1.length c1] rfl Zq14 ?_; (with_reducible refine (trap_Decode.calls k3 (t476.extract 0 (t513 : Int).toNat) _ _ l1 t514 t515 t516 t517 t518 t519 t522 _ ?side3 ?side1 ?side2 A60.out).mono ?_); (case side1 => exact Kd.C_below HR1.out Zt25); (case side2 => exact HC1.out); (case side3 => exact Zq71); rintro e w118 ⟨v520, rfl, ho0, hb⟩; refine ⟨_, rfl, ?_⟩; have HO521 := Aside0.mk (Kd.R_lower (Kd.R_new' (Kd.R_new' ho0 (Kd.R_lt Zt41)) (Kd.R_lt Zt33)) (below_size Zt25)); replace HO_501005 := Aside0.mk (Kd.R_elder' Zt41 (Kd.R_base ho0) hb); replace HO510 := Aside0.mk (Kd.R_elder' Zt33 (Kd.R_base ho0) hb); replace BK473 := Aside0.mk (blkb_ BK473.out Zq52 hb); replace BK500 := Aside0.mk (blkb_ BK500.out Zq52 hb); replace BK512 := Aside0.mk (blk_below (g := gb512) (o := .cells #[.string t503, .bool t504, .int .i64 t505, .int .i64 t506, .string t507, .slice Ao117 t508.length co117] 24 (0, 0)) Zq57 hb); replace HB := Aside0.mk (below_step Zt25 hb); (try clear hb); (try clear hb2); (try clear hk); (try clear hi); (try clear ho0)) | ((with_reducible refine gate_dst (N := 16) rfl ?_); (try (refine gate_guard (by rfl) ?_; dsimp only)); refine box_event ?hg (N := 16) ?hd (cs := #[.string (⟨#[]⟩ : ByteArray), .bool false, .int .i64 0, .int .i64 0, .string (⟨#[]⟩ : ByteArray), .slice none 0 0]) (t := 24) ?hr ?_; (case hd => rfl); (case hg => rfl); (case hr => exact Zq2); intro gb523 hg w119 hbox hb; have BK523 := Aside0.mk (hbox); have GW523 := Aside0.mk ((by rw [hg]; exact (below_size Zt25) : w.heap.size ≤ gb523)); have GE523 := Aside0.mk ((by rw [hg]; exact (below_size Zt25) : w.heap.size ≤ gb523)); have NB473_523 := Aside0.mk ((Zt54 : gb473 ≠ gb523)); have NB523_473 := Aside0.mk ((Zt47 : gb523 ≠ gb473)); have NB500_523 := Aside0.mk ((Zt58 : gb500 ≠ gb523)); have NB523_500 := Aside0.mk ((Zt51 : gb523 ≠ gb500)); have NB512_523 := Aside0.mk ((by rw [hg]; exact Nat.ne_of_lt (blk_lt (g := gb512) (o := .cells #[.string t503, .bool t504, .int .i64 t505, .int .i64 t506, .string t507, .slice Ao117 t508.length co117] 24 (0, 0)) Zq52) : gb512 ≠ gb523)); have NB523_512 := Aside0.mk ((by rw [hg]; exact Nat.ne_of_gt (blk_lt (g := gb512) (o := .cells #[.string t503, .bool t504, .int .i64 t505, .int .i64 t506, .string t507, .slice Ao117 t508.length co117] 24 (0, 0)) Zq52) : gb523 ≠ gb512)); replace HO_501005 := Aside0.mk (Kd.R_below Zt11 hb); replace HO510 := Aside0.mk (Kd.R_below Zt8 hb); replace HO521 := Aside0.mk (Kd.R_below Zt9 hb); replace BK473 := Aside0.mk (blkb_ BK473.out Zq52 hb); replace BK500 := Aside0.mk (blkb_ BK500.out Zq52 hb); replace BK512 := Aside0.mk (blkb_ BK512.out Zq52 hb); replace HB := Aside0.mk (below_step Zt25 hb); clear hb hbox hg; have hnb120 := NB523_473.out; have hnc120 := NB473_523.out; have hnb121 := NB523_500.out; have hnc121 := NB500_523.out; have hnb122 := NB523_512.out; have hnc122 := NB512_523.out; obtain ⟨hcz123_0, hcz123_1, hcz123_2, hcz123_3, hcz123_4, hcz123_5⟩ := cells6_ BK523.out; obtain ⟨hfz123_0, hfz123_1, hfz123_2, hfz123_3, hfz123_4, hfz123_5⟩ := frozen6_ BK523.out; obtain ⟨Ao124, co124, eo124⟩ := Kd.R_slice HO521.out; subst eo124) | ((with_reducible refine gate_callee (f := 10) rfl ?_); refine goesL_ (some 104) rfl rfl Tryz.func10 (by kernel_rfl) rfl #[.string (t476 ++ (⟨#[120]⟩ : ByteArray)), .slice A1 l1.length c1] rfl Zq14 ?_; (with_reducible refine (trap_Decode.calls k3 (t476 ++ (⟨#[120]⟩ : ByteArray)) _ _ l1 t524 t525 t526 t527 t528 t529 t532 _ ?side3 ?side1 ?side2 A62.out).mono ?_); (case side1 => exact Kd.C_below HR1.out Zt27); (case side2 => exact HC1.out); (case side3 => exact Zq71); rintro e w125 ⟨v530, rfl, ho0, hb⟩; refine ⟨_, rfl, ?_⟩; have HO531 := Aside0.mk (Kd.R_lower (Kd.R_new' (Kd.R_new' (Kd.R_new' ho0 (Kd.R_lt Zt43)) (Kd.R_lt Zt35)) (Kd.R_lt Zt37)) (below_size Zt27)); replace HO_501005 := Aside0.mk (Kd.R_elder' Zt43 (Kd.R_base ho0) hb); replace HO510 := Aside0.mk (Kd.R_elder' Zt35 (Kd.R_base ho0) hb); replace HO521 := Aside0.mk (Kd.R_elder' Zt37 (Kd.R_base ho0) hb); replace BK473 := Aside0.mk (blkb_ BK473.out Zq52 hb); replace BK500 := Aside0.mk (blkb_ BK500.out Zq52 hb); replace BK512 := Aside0.mk (blkb_ BK512.out Zq52 hb); replace BK523 := Aside0.mk (blk_below (g := gb523) (o := .cells #[.string t514, .bool t515, .int .i64 t516, .int .i64 t517, .string t518, .slice Ao124 t519.length co124] 24 (0, 0)) Zq57 hb); replace HB := Aside0.mk (below_step Zt27 hb); (try clear hb); (try clear hb2); (try clear hk); (try clear hi); (try clear ho0)) | ((with_reducible refine gate_dst (N := 18) rfl ?_); (try (refine gate_guard (by rfl) ?_; dsimp only)); refine box_event ?hg (N := 18) ?hd (cs := #[.string (⟨#[]⟩ : ByteArray), .bool false, .int .i64 0, .int .i64 0, .string (⟨#[]⟩ : ByteArray), .slice none 0 0]) (t := 24) ?hr ?_; (case hd => rfl); (case hg => rfl); (case hr => exact Zq2); intro gb533 hg w126 hbox hb; have BK533 := Aside0.mk (hbox); have GW533 := Aside0.mk ((by rw [hg]; exact (below_size Zt27) : w.heap.size ≤ gb533)); have GE533 := Aside0.mk ((by rw [hg]; exact (below_size Zt27) : w.heap.size ≤ gb533)); have NB473_533 := Aside0.mk ((Zt54 : gb473 ≠ gb533)); have NB533_473 := Aside0.mk ((Zt47 : gb533 ≠ gb473)); have NB500_533 := Aside0.mk ((Zt58 : gb500 ≠ gb533)); have NB533_500 := Aside0.mk ((Zt51 : gb533 ≠ gb500)); have NB512_533 := Aside0.mk ((by rw [hg]; exact Nat.ne_of_lt (blk_lt (g := gb512) (o := .cells #[.string t503, .bool t504, .int .i64 t505, .int .i64 t506, .string t507, .slice Ao117 t508.length co117] 24 (0, 0)) Zq52) : gb512 ≠ gb533)); have NB533_512 := Aside0.mk ((by rw [hg]; exact Nat.ne_of_gt (blk_lt (g := gb512) (o := .cells #[.string t503, .bool t504, .int .i64 t505, .int .i64 t506, .string t507, .slice Ao117 t508.length co117] 24 (0, 0)) Zq52) : gb533 ≠ gb512)); have NB523_533 := Aside0.mk ((by rw [hg]; exact Nat.ne_of_lt (blk_lt (g := gb523) (o := .cells #[.string t514, .bool t515, .int .i64 t516, .int .i64 t517, .string t518, .slice Ao124 t519.length co124] 24 (0, 0)) Zq52) : gb523 ≠ gb533)); have NB533_523 := Aside0.mk ((by rw [hg]; exact Nat.ne_of_gt (blk_lt (g := gb523) (o := .cells #[.string t514, .bool t515, .int .i64 t516, .int .i64 t517, .string t518, .slice Ao124 t519.length co124] 24 (0, 0)) Zq52) : gb533 ≠ gb523)); replace HO_501005 := Aside0.mk (Kd.R_below Zt11 hb); replace HO510 := Aside0.mk (Kd.R_below Zt8 hb); replace HO521 := Aside0.mk (Kd.R_below Zt9 hb); replace HO531 := Aside0.mk (Kd.R_below Zt10 hb); replace BK473 := Aside0.mk (blkb_ BK473.out Zq52 hb); replace BK500 := Aside0.mk (blkb_ BK500.out Zq52 hb); replace BK512 := Aside0.mk (blkb_ BK512.out Zq52 hb); replace BK523 := Aside0.mk (blkb_ BK523.out Zq52 hb); replace HB := Aside0.mk (below_step Zt27 hb); clear hb hbox hg; have hnb127 := NB533_473.out; have hnc127 := NB473_533.out; have hnb128 := NB533_500.out; have hnc128 := NB500_533.out; have hnb129 := NB533_512.out; have hnc129 := NB512_533.out; have hnb130 := NB533_523.out; have hnc130 := NB523_533.out; obtain ⟨hcz131_0, hcz131_1, hcz131_2, hcz131_3, hcz131_4, hcz131_5⟩ := cells6_ BK533.out; obtain ⟨hfz131_0, hfz131_1, hfz131_2, hfz131_3, hfz131_4, hfz131_5⟩ := frozen6_ BK533.out; obtain ⟨Ao132, co132, eo132⟩ := Kd.R_slice HO531.out; subst eo132; obtain ⟨hcz133_0, hcz133_1, hcz133_2, hcz133_3, hcz133_4, hcz133_5⟩ := cells6_ BK512.out; obtain ⟨hfz133_0, hfz133_1, hfz133_2, hfz133_3, hfz133_4, hfz133_5⟩ := frozen6_ BK512.out))
                      go_ret
                      exact ⟨Zy51, Zy12⟩
                     ·rw [if_neg c111] at H
                      exact absurd H (by simp)
                    ·rw [if_neg c110] at H
                     exact absurd H (by simp)
                   ·rw [if_neg c109] at H
                    exact absurd H (by simp)
                  ·rw [if_neg c108] at H
                   exact absurd H (by simp)
                ·rw [if_neg c63] at H
                 exact absurd H (by simp)
               ·rw [if_neg c61] at H
                exact absurd H (by simp)
              ·rw [if_neg c59] at H
               exact absurd H (by simp)
             ·rw [if_neg c58] at H
              exact absurd H (by simp)
      ·rw [if_neg c19] at H
       exact absurd H (by simp)
     ·rw [if_neg c18] at H
      exact absurd H (by simp)
    ·rw [if_neg c17] at H
     have c17b0 : (t477 == 0) = false := beq_eq_false_iff_ne.mpr c17
     have c17b1 : (t477 != 0) = true := bne_iff_ne.mpr c17
     by_cases c242 : t476.toList = ([] : List UInt8)
     ·rw [if_pos c242] at H
      have c242b0 : (t476.toList == ([] : List UInt8)) = true := beq_iff_eq.mpr c242
      have c242b1 : (t476.toList != ([] : List UInt8)) = false := bne_eq_false_iff_eq.mpr c242
      clear c242
      by_cases c243 : t477 = 2
      ·rw [if_pos c243] at H
       have c243b0 : (t477 == 2) = true := beq_iff_eq.mpr c243
       have c243b1 : (t477 != 2) = false := bne_eq_false_iff_eq.mpr c243
       clear c243
       obtain rfl := Option.some.inj H
       obtain ⟨hcz244_0, hcz244_1, hcz244_2, hcz244_3, hcz244_4, hcz244_5⟩ := cells6_ BK473.out
       obtain ⟨hfz244_0, hfz244_1, hfz244_2, hfz244_3, hfz244_4, hfz244_5⟩ := frozen6_ BK473.out
       go_wp2_with (first | ((with_reducible refine gate_callee (f := 8) rfl ?_); refine goesL_ (some 32) rfl rfl Tryz.func8 (by kernel_rfl) rfl #[.agg #[.string a0_0, .bool a0_1, .int .i64 a0_2, .int .i64 a0_3, .string a0_4, .slice A0_5 l0_5.length c0_5]] rfl Zq14 ?_; (with_reducible refine (trap_Encode.calls kj5 a0_0 a0_1 a0_2 a0_3 a0_4 _ _ l0_5 t476 t477 _ ?side3 ?side1 ?side2 A16.out).mono ?_); (case side1 => exact Zq35); (case side2 => exact HC0_5.out); (case side3 => exact Zq71); rintro e w245 ⟨rfl, hb⟩; refine ⟨_, rfl, ?_⟩; replace BK473 := Aside0.mk (blkb_ BK473.out Zq52 hb); replace HB := Aside0.mk (below_step Zt18 hb); (try clear hb); (try clear hb2); (try clear hk); (try clear hi)))
       go_ret
       exact ⟨Zy51, Zy35⟩
      ·rw [if_neg c243] at H
       have c243b0 : (t477 == 2) = false := beq_eq_false_iff_ne.mpr c243
       have c243b1 : (t477 != 2) = true := bne_iff_ne.mpr c243
       replace H := Option.bind_eq_some_iff.mp H
       obtain ⟨t478, A2460, H⟩ := H
       replace H : (some (t478 == t477)) = some r := H
       have A246 := Aside0.mk A2460
       clear A2460
       obtain rfl := Option.some.inj H
       obtain ⟨hcz247_0, hcz247_1, hcz247_2, hcz247_3, hcz247_4, hcz247_5⟩ := cells6_ BK473.out
       obtain ⟨hfz247_0, hfz247_1, hfz247_2, hfz247_3, hfz247_4, hfz247_5⟩ := frozen6_ BK473.out
       go_wp2_with (first | ((with_reducible refine gate_callee (f := 8) rfl ?_); refine goesL_ (some 32) rfl rfl Tryz.func8 (by kernel_rfl) rfl #[.agg #[.string a0_0, .bool a0_1, .int .i64 a0_2, .int .i64 a0_3, .string a0_4, .slice A0_5 l0_5.length c0_5]] rfl Zq14 ?_; (with_reducible refine (trap_Encode.calls kj5 a0_0 a0_1 a0_2 a0_3 a0_4 _ _ l0_5 t476 t477 _ ?side3 ?side1 ?side2 A16.out).mono ?_); (case side1 => exact Zq35); (case side2 => exact HC0_5.out); (case side3 => exact Zq71); rintro e w248 ⟨rfl, hb⟩; refine ⟨_, rfl, ?_⟩; replace BK473 := Aside0.mk (blkb_ BK473.out Zq52 hb); replace HB := Aside0.mk (below_step Zt18 hb); (try clear hb); (try clear hb2); (try clear hk); (try clear hi); obtain ⟨hcz249_0, hcz249_1, hcz249_2, hcz249_3, hcz249_4, hcz249_5⟩ := cells6_ BK473.out; obtain ⟨hfz249_0, hfz249_1, hfz249_2, hfz249_3, hfz249_4, hfz249_5⟩ := frozen6_ BK473.out) | (go_at_call 9; (with_reducible refine (trap_Check.calls kj5 a0_0 a0_1 a0_2 a0_3 a0_4 _ _ l0_5 t478 _ ?side3 ?side1 ?side2 A246.out).mono ?_); (case side1 => exact Zq35); (case side2 => exact HC0_5.out); (case side3 => exact Zq71); rintro e w250 ⟨rfl, hb⟩; replace BK473 := Aside0.mk (blkb_ BK473.out Zq52 hb); replace HB := Aside0.mk (below_step Zt18 hb); (try clear hb); (try clear hb2); (try clear hk); (try clear hi)))
       go_ret
       exact ⟨Zy51, Zy35⟩
     ·rw [if_neg c242] at H
      exact absurd H (by simp)
end Go.Proofs.YtfmhghlmljlfgaaGreatDoor.XTrS
