-- Laid by extprint.py (the session's own driver): functions told by the kit's printer and by hand.
import Derived.Test.YtfmhghlmljlfgaaGreatDoorXTrSx0
import Derived.Test.YtfmhghlmljlfgaaGreatDoorXTrSx2
import Derived.Test.YtfmhghlmljlfgaaGreatDoorXTrSx4
import Derived.Test.YtfmhghlmljlfgaaGreatDoorXTrSx10
import Derived.Test.YtfmhghlmljlfgaaGreatDoorXTrSx18
namespace Go.Proofs.YtfmhghlmljlfgaaGreatDoor.XTrS
open Go.RowKit Gong Go.Proofs.YtfmhghlmljlfgaaGreatDoorW.PrintWords Go.Proofs.YtfmhghlmljlfgaaGreatDoorW.PrintLast Go.Proofs.YtfmhghlmljlfgaaGreatDoorW.PrintMore
attribute [local go_sem] max2_int min2_int max_two min_two max_three min_three max_four min_four   -- for this text's walks alone
set_option linter.unusedVariables false
set_option linter.unusedSimpArgs false
attribute [local go_sem high] eqA40 eqA58
def trap_bare.f (a0_0 : ByteArray) (a0_1 : Bool) (a0_2 : Int) (a0_3 : Int) (a0_4 : ByteArray) (l0_5 : List (S40)) : Option (ByteArray × ByteArray × Bool × Int × Int) := some (a0_0, a0_4, a0_1, a0_2, a0_3)
set_option maxHeartbeats 8000000 in
set_option maxRecDepth 100000 in
theorem trap_bare.calls (a0_0 : ByteArray) (a0_1 : Bool) (a0_2 : Int) (a0_3 : Int) (a0_4 : ByteArray) (A0_5 : Option Addr) (c0_5 : Nat) (l0_5 : List (S40)) (r1 : ByteArray) (r2 : ByteArray) (r3 : Bool) (r4 : Int) (r5 : Int) (w : World) (hr0_5 : Kd.C k40 w A0_5 l0_5.length l0_5) (hc0_5 : l0_5.length ≤ c0_5) (h : trap_bare.f a0_0 a0_1 a0_2 a0_3 a0_4 l0_5 = some (r1, r2, r3, r4, r5)) :
  Calls Tryz.prog 23 #[.agg #[.string a0_0, .bool a0_1, .int .i64 a0_2, .int .i64 a0_3, .string a0_4, .slice A0_5 l0_5.length c0_5]] w fun e w' => e = .returned (.agg #[.string r1, .string r2, .bool r3, .int .i64 r4, .int .i64 r5]) ∧ Below w.heap.size w w' := by
 have hu24 := Tryz.underlying24
 have hu58 := Tryz.underlying58
 have HR0_5 := Aside0.mk hr0_5
 have HC0_5 := Aside0.mk hc0_5
 clear hr0_5 hc0_5
 have HB := Aside0.mk (Below.refl w.heap.size w)
 have H : (some (a0_0, a0_4, a0_1, a0_2, a0_3)) = some (r1, r2, r3, r4, r5) := h
 clear h
 simp only [Option.some.injEq, Prod.mk.injEq] at H
 obtain ⟨rfl, rfl, rfl, rfl, rfl⟩ := H
 go_enter Tryz.func23, Tryz.ntmps23
 go_wp2_with (first | ((with_reducible refine gate_dst (N := 1) rfl ?_); refine box_event ?hg (N := 1) ?hd (cs := #[.string a0_0, .bool a0_1, .int .i64 a0_2, .int .i64 a0_3, .string a0_4, .slice A0_5 l0_5.length c0_5]) (t := 24) ?hr ?_; (case hd => rfl); (case hg => rfl); (case hr => exact Zq2); intro gb341 hg w2 hbox hb; have BK341 := Aside0.mk (hbox); have GW341 := Aside0.mk ((by rw [hg]; exact (below_size Zq13) : w.heap.size ≤ gb341)); have GE341 := Aside0.mk ((by rw [hg]; exact (below_size Zq13) : w.heap.size ≤ gb341)); replace HB := Aside0.mk (below_step Zq13 hb); clear hb hbox hg) | ((with_reducible refine gate_dst (N := 2) rfl ?_); refine box_event ?hg (N := 2) ?hd (cs := #[.string (⟨#[]⟩ : ByteArray), .string (⟨#[]⟩ : ByteArray), .bool false, .int .i64 0, .int .i64 0]) (t := 58) ?hr ?_; (case hd => rfl); (case hg => rfl); (case hr => exact Zq2); intro gb342 hg w3 hbox hb; have BK342 := Aside0.mk (hbox); have GW342 := Aside0.mk ((by rw [hg]; exact (below_size Zq28) : w.heap.size ≤ gb342)); have GE342 := Aside0.mk ((by rw [hg]; exact (below_size Zq28) : w.heap.size ≤ gb342)); have NB341_342 := Aside0.mk ((by rw [hg]; exact Nat.ne_of_lt (blk_lt (g := gb341) (o := .cells #[.string a0_0, .bool a0_1, .int .i64 a0_2, .int .i64 a0_3, .string a0_4, .slice A0_5 l0_5.length c0_5] 24 (0, 0)) Zq52) : gb341 ≠ gb342)); have NB342_341 := Aside0.mk ((by rw [hg]; exact Nat.ne_of_gt (blk_lt (g := gb341) (o := .cells #[.string a0_0, .bool a0_1, .int .i64 a0_2, .int .i64 a0_3, .string a0_4, .slice A0_5 l0_5.length c0_5] 24 (0, 0)) Zq52) : gb342 ≠ gb341)); replace BK341 := Aside0.mk (blkb_ BK341.out Zq52 hb); replace HB := Aside0.mk (below_step Zq28 hb); clear hb hbox hg; have hnb4 := NB341_342.out; have hnc4 := NB342_341.out; obtain ⟨hcz5_0, hcz5_1, hcz5_2, hcz5_3, hcz5_4, hcz5_5⟩ := cells6_ BK341.out; obtain ⟨hfz5_0, hfz5_1, hfz5_2, hfz5_3, hfz5_4, hfz5_5⟩ := frozen6_ BK341.out; obtain ⟨hcz6_0, hcz6_1, hcz6_2, hcz6_3, hcz6_4⟩ := cells5_ BK342.out; obtain ⟨hfz6_0, hfz6_1, hfz6_2, hfz6_3, hfz6_4⟩ := frozen5_ BK342.out))
 refine bodyPost_ret (results_cell_row rfl _ _ gb342 58 #[.string a0_0, .string a0_4, .bool a0_1, .int .i64 a0_2, .int .i64 a0_3] (0, 0) _ rfl Zq57 Tryz.underlying58 rfl (by kernel_rfl)) rfl ?_
 exact ⟨Zy51, by repeat (first | (with_reducible first | exact HB.out | apply below_alloc | apply pw_below_drewN | apply below_drew1 | refine below_set ?_ GE341.out | refine below_set ?_ GE342.out) | exact HB.out)⟩
def api_Bind_24.l0 : Nat → List (S40) → List (S40) → Int → Int → Option (Bool)
 | 0, _, _, _, _ => none
 | k + 1, x0, x1, x12, x13 => if x13 < x12 then (if 0 ≤ x13 then (if x13 < (x0.length : Int) then (if x13 < (x1.length : Int) then (if (!((((rd_T40 x0 x13).f0).toList) == (((rd_T40 x1 x13).f0).toList)) || ((!(((rd_T40 x0 x13).f1.f0) == ((rd_T40 x1 x13).f1.f0)) || (!(((rd_T40 x0 x13).f1.f1) == ((rd_T40 x1 x13).f1.f1)) || (!((((rd_T40 x0 x13).f1.f2).toList) == (((rd_T40 x1 x13).f1.f2).toList))))))) = true then (some false) else (api_Bind_24.l0 k x0 x1 x12 (wrap64 (x13 + 1)))) else (none)) else (none)) else (none)) else (some true)
def api_Bind_24.f (k : Nat) (l0 : List (S40)) (l1 : List (S40)) : Option (Bool) := if (l0.length : Int) = (l1.length : Int) then (api_Bind_24.l0 k l0 l1 (l0.length : Int) 0) else (some false)
set_option maxHeartbeats 8000000 in
set_option maxRecDepth 100000 in
theorem api_Bind_24.calls (k : Nat) (A0 : Option Addr) (c0 : Nat) (l0 : List (S40)) (A1 : Option Addr) (c1 : Nat) (l1 : List (S40)) (r : Bool) (w : World) (hr0 : Kd.C k40 w A0 l0.length l0) (hc0 : l0.length ≤ c0) (hr1 : Kd.C k40 w A1 l1.length l1) (hc1 : l1.length ≤ c1) (h : api_Bind_24.f k l0 l1 = some r) :
  Calls Tryz.prog 24 #[.slice A0 l0.length c0, .slice A1 l1.length c1] w fun e w' => e = .returned (.bool r) ∧ Drawn0 w w' := by
 have hu40 := Tryz.underlying40
 have HR0 := Aside0.mk hr0
 have HC0 := Aside0.mk hc0
 clear hr0 hc0
 have HR1 := Aside0.mk hr1
 have HC1 := Aside0.mk hc1
 clear hr1 hc1
 have H : (if (l0.length : Int) = (l1.length : Int) then (api_Bind_24.l0 k l0 l1 (l0.length : Int) 0) else (some false)) = some r := h
 clear h
 by_cases c3 : (l0.length : Int) = (l1.length : Int)
 rotate_left
 ·rw [if_neg c3] at H
  have c3b0 : ((l0.length : Int) == (l1.length : Int)) = false := beq_eq_false_iff_ne.mpr c3
  have c3b1 : ((l0.length : Int) != (l1.length : Int)) = true := bne_iff_ne.mpr c3
  have c3b2 : (l0.length == l1.length) = false := by first | simpa using c3 | (simp at c3 ⊢; omega)
  obtain rfl := Option.some.inj H
  go_enter Tryz.func24, Tryz.ntmps24
  go_wp2
  repeat (go_quiet (fail); try go_wp2)
  go_ret
  exact ⟨Zy75, Zy70⟩
 rw [if_pos c3] at H
 have c3b0 : ((l0.length : Int) == (l1.length : Int)) = true := beq_iff_eq.mpr c3
 have c3b1 : ((l0.length : Int) != (l1.length : Int)) = false := bne_eq_false_iff_eq.mpr c3
 have c3b2 : (l0.length == l1.length) = true := by first | simpa using c3 | (simp at c3 ⊢; omega)
 clear c3
 have H' := Aside0.mk H
 clear H
 go_enter Tryz.func24, Tryz.ntmps24
 go_wp2
 repeat (go_quiet (fail); try go_wp2)
 go_loopg [13] k (fun kq v13 w' => ∃ (x13_1 : Int), v13 = .int .i64 x13_1 ∧ Aside0 (api_Bind_24.l0 kq l0 l1 (l0.length : Int) x13_1 = some r) ∧ Aside0 (kq ≤ k) ∧ Drawn0 w w')
 case atStart => exact ⟨(0), Zy64, H', ⟨Nat.le_refl _⟩, Zy70⟩
 case round =>
  clear H'
  (try clear c1); (try clear c2); (try clear p2); (try clear c3); (try clear c3b0); (try clear c3b1); (try clear c3b2)
  obtain ⟨x13_1, rfl, HA, HK1, ⟨m1, rfl⟩⟩ := hrel
  cases gk with
  | zero => exact absurd HA.out (by simp [api_Bind_24.l0])
  | succ k1 =>
   have H := HA.out
   clear HA
   simp only [api_Bind_24.l0] at H
   by_cases c4 : x13_1 < (l0.length : Int)
   ·rw [if_pos c4] at H
    have c4b0 : decide (x13_1 < (l0.length : Int)) = true := decide_eq_true c4
    clear c4
    by_cases c5 : 0 ≤ x13_1
    ·rw [if_pos c5] at H
     have c5b0 : decide (0 ≤ x13_1) = true := decide_eq_true c5
     clear c5
     by_cases c6 : x13_1 < (l0.length : Int)
     ·rw [if_pos c6] at H
      have c6b0 : decide (x13_1 < (l0.length : Int)) = true := decide_eq_true c6
      clear c6
      by_cases c7 : x13_1 < (l1.length : Int)
      ·rw [if_pos c7] at H
       have c7b0 : decide (x13_1 < (l1.length : Int)) = true := decide_eq_true c7
       clear c7
       by_cases c8 : (!((((rd_T40 l0 x13_1).f0).toList) == (((rd_T40 l1 x13_1).f0).toList)) || ((!(((rd_T40 l0 x13_1).f1.f0) == ((rd_T40 l1 x13_1).f1.f0)) || (!(((rd_T40 l0 x13_1).f1.f1) == ((rd_T40 l1 x13_1).f1.f1)) || (!((((rd_T40 l0 x13_1).f1.f2).toList) == (((rd_T40 l1 x13_1).f1.f2).toList))))))) = true
       ·rw [if_pos c8] at H
        have c8b0 : (!((((rd_T40 l0 x13_1).f0).toList) == (((rd_T40 l1 x13_1).f0).toList)) || ((!(((rd_T40 l0 x13_1).f1.f0) == ((rd_T40 l1 x13_1).f1.f0)) || (!(((rd_T40 l0 x13_1).f1.f1) == ((rd_T40 l1 x13_1).f1.f1)) || (!((((rd_T40 l0 x13_1).f1.f2).toList) == (((rd_T40 l1 x13_1).f1.f2).toList))))))) = true := c8
        clear c8
        obtain rfl := Option.some.inj H
        have p343 : 0 ≤ (x13_1 : Int) := of_decide_eq_true Zq1
        have q343 : x13_1 < (l0.length : Int) := of_decide_eq_true Zq1
        obtain ⟨ad343, e343, hx343_0, hx343_1, hx343_2, hx343_3⟩ := at_T40 HR0.out x13_1 p343 q343
        cases e343
        replace p343 := eq_true p343
        replace q343 := eq_true q343
        have p344 : 0 ≤ (x13_1 : Int) := of_decide_eq_true Zq1
        have q344 : x13_1 < (l1.length : Int) := of_decide_eq_true Zq1
        obtain ⟨ad344, e344, hx344_0, hx344_1, hx344_2, hx344_3⟩ := at_T40 HR1.out x13_1 p344 q344
        cases e344
        replace p344 := eq_true p344
        replace q344 := eq_true q344
        go_wp2
        repeat (go_quiet (fail); try go_wp2)
        go_ret
        exact ⟨Zy75, Zy70⟩
       ·rw [if_neg c8] at H
        have c8b0 : (!((((rd_T40 l0 x13_1).f0).toList) == (((rd_T40 l1 x13_1).f0).toList)) || ((!(((rd_T40 l0 x13_1).f1.f0) == ((rd_T40 l1 x13_1).f1.f0)) || (!(((rd_T40 l0 x13_1).f1.f1) == ((rd_T40 l1 x13_1).f1.f1)) || (!((((rd_T40 l0 x13_1).f1.f2).toList) == (((rd_T40 l1 x13_1).f1.f2).toList))))))) = false := by simpa using c8
        clear c8
        have H' := Aside0.mk H
        clear H
        have p343 : 0 ≤ (x13_1 : Int) := of_decide_eq_true Zq1
        have q343 : x13_1 < (l0.length : Int) := of_decide_eq_true Zq1
        obtain ⟨ad343, e343, hx343_0, hx343_1, hx343_2, hx343_3⟩ := at_T40 HR0.out x13_1 p343 q343
        cases e343
        replace p343 := eq_true p343
        replace q343 := eq_true q343
        have p344 : 0 ≤ (x13_1 : Int) := of_decide_eq_true Zq1
        have q344 : x13_1 < (l1.length : Int) := of_decide_eq_true Zq1
        obtain ⟨ad344, e344, hx344_0, hx344_1, hx344_2, hx344_3⟩ := at_T40 HR1.out x13_1 p344 q344
        cases e344
        replace p344 := eq_true p344
        replace q344 := eq_true q344
        go_wp2
        repeat (go_quiet (fail); try go_wp2)
        go_roundg k1
        case measure => have := HK1.out; omega
        case rel => exact ⟨(wrap64 (x13_1 + 1)), Zy64, H', ⟨by have := HK1.out; omega⟩, Zy70⟩
      ·rw [if_neg c7] at H
       exact absurd H (by simp)
     ·rw [if_neg c6] at H
      exact absurd H (by simp)
    ·rw [if_neg c5] at H
     exact absurd H (by simp)
   ·rw [if_neg c4] at H
    have c4b0 : decide (x13_1 < (l0.length : Int)) = false := decide_eq_false c4
    clear c4
    obtain rfl := Option.some.inj H
    go_wp2
    repeat (go_quiet (fail); try go_wp2)
    go_ret
    exact ⟨Zy75, Zy70⟩
def trap_Same.f (k : Nat) (a0_0 : ByteArray) (a0_1 : Bool) (a0_2 : Int) (a0_3 : Int) (a0_4 : ByteArray) (l0_5 : List (S40)) (a1_0 : ByteArray) (a1_1 : Bool) (a1_2 : Int) (a1_3 : Int) (a1_4 : ByteArray) (l1_5 : List (S40)) : Option (Bool) := (trap_bare.f a0_0 a0_1 a0_2 a0_3 a0_4 l0_5).bind fun bt347 => ((trap_bare.f a1_0 a1_1 a1_2 a1_3 a1_4 l1_5).bind fun bt352 => (if (bt347.1.toList == bt352.1.toList && (bt347.2.1.toList == bt352.2.1.toList && (bt347.2.2.1 == bt352.2.2.1 && (bt347.2.2.2.1 == bt352.2.2.2.1 && (bt347.2.2.2.2 == bt352.2.2.2.2))))) = true then ((api_Bind_24.f k l0_5 l1_5).bind fun t357 => (some t357)) else (some false)))
def trap_Same.T1 : Bool × List (List Nat × List Nat) := (true, [([], []), ([0], [0]), ([], []), ([2, 1], [2]), ([1, 3], [1, 3]), ([4, 3], [4]), ([5], [5]), ([6, 5], [5, 6]), ([5], [5]), ([8, 5], [5, 8]), ([7, 9, 5, 5], [5, 7, 9]), ([5, 10], [5, 10]), ([11, 10, 0, 1, 2, 3, 4, 5, 6, 7, 8, 9, 10, 11], [11])])
def trap_Same.B1 : List Nat := [0, 1, 0, 7, 15, 31, 63, 127, 63, 319, 1023, 2047, 4095]
theorem trap_Same.tab1 : rtab .any (opsOf Tryz.f11 1) = trap_Same.T1 := by kernel_rfl
theorem trap_Same.bits1 : waitsOk trap_Same.T1.2 trap_Same.B1 = true := by kernel_rfl
set_option maxHeartbeats 8000000 in
set_option maxRecDepth 100000 in
theorem trap_Same.calls (k : Nat) (a0_0 : ByteArray) (a0_1 : Bool) (a0_2 : Int) (a0_3 : Int) (a0_4 : ByteArray) (A0_5 : Option Addr) (c0_5 : Nat) (l0_5 : List (S40)) (a1_0 : ByteArray) (a1_1 : Bool) (a1_2 : Int) (a1_3 : Int) (a1_4 : ByteArray) (A1_5 : Option Addr) (c1_5 : Nat) (l1_5 : List (S40)) (r : Bool) (w : World) (hr0_5 : Kd.C k40 w A0_5 l0_5.length l0_5) (hc0_5 : l0_5.length ≤ c0_5) (hr1_5 : Kd.C k40 w A1_5 l1_5.length l1_5) (hc1_5 : l1_5.length ≤ c1_5) (h : trap_Same.f k a0_0 a0_1 a0_2 a0_3 a0_4 l0_5 a1_0 a1_1 a1_2 a1_3 a1_4 l1_5 = some r) :
  Calls Tryz.prog 11 #[.agg #[.string a0_0, .bool a0_1, .int .i64 a0_2, .int .i64 a0_3, .string a0_4, .slice A0_5 l0_5.length c0_5], .agg #[.string a1_0, .bool a1_1, .int .i64 a1_2, .int .i64 a1_3, .string a1_4, .slice A1_5 l1_5.length c1_5]] w fun e w' => e = .returned (.bool r) ∧ Below w.heap.size w w' := by
 have hu24 := Tryz.underlying24
 have HR0_5 := Aside0.mk hr0_5
 have HC0_5 := Aside0.mk hc0_5
 clear hr0_5 hc0_5
 have HR1_5 := Aside0.mk hr1_5
 have HC1_5 := Aside0.mk hc1_5
 clear hr1_5 hc1_5
 have HB := Aside0.mk (Below.refl w.heap.size w)
 have H : ((trap_bare.f a0_0 a0_1 a0_2 a0_3 a0_4 l0_5).bind fun bt347 => ((trap_bare.f a1_0 a1_1 a1_2 a1_3 a1_4 l1_5).bind fun bt352 => (if (bt347.1.toList == bt352.1.toList && (bt347.2.1.toList == bt352.2.1.toList && (bt347.2.2.1 == bt352.2.2.1 && (bt347.2.2.2.1 == bt352.2.2.2.1 && (bt347.2.2.2.2 == bt352.2.2.2.2))))) = true then ((api_Bind_24.f k l0_5 l1_5).bind fun t357 => (some t357)) else (some false)))) = some r := h
 clear h
 replace H := Option.bind_eq_some_iff.mp H
 obtain ⟨⟨t347, t348, t349, t350, t351⟩, A30, H⟩ := H
 replace H : ((trap_bare.f a1_0 a1_1 a1_2 a1_3 a1_4 l1_5).bind fun bt352 => (if (t347.toList == bt352.1.toList && (t348.toList == bt352.2.1.toList && (t349 == bt352.2.2.1 && (t350 == bt352.2.2.2.1 && (t351 == bt352.2.2.2.2))))) = true then ((api_Bind_24.f k l0_5 l1_5).bind fun t357 => (some t357)) else (some false))) = some r := H
 have A3 := Aside0.mk A30
 clear A30
 replace H := Option.bind_eq_some_iff.mp H
 obtain ⟨⟨t352, t353, t354, t355, t356⟩, A40, H⟩ := H
 replace H : (if (t347.toList == t352.toList && (t348.toList == t353.toList && (t349 == t354 && (t350 == t355 && (t351 == t356))))) = true then ((api_Bind_24.f k l0_5 l1_5).bind fun t357 => (some t357)) else (some false)) = some r := H
 have A4 := Aside0.mk A40
 clear A40
 by_cases c5 : (t347.toList == t352.toList && (t348.toList == t353.toList && (t349 == t354 && (t350 == t355 && (t351 == t356))))) = true
 rotate_left
 ·rw [if_neg c5] at H
  have c5b0 : (t347.toList == t352.toList && (t348.toList == t353.toList && (t349 == t354 && (t350 == t355 && (t351 == t356))))) = false := by simpa using c5
  (try (have c5b1 : decide (t347.toList = t352.toList && (t348.toList == t353.toList && (t349 == t354 && (t350 == t355 && (t351 == t356))))) = false := by simpa using c5))
  (try (have c5b2 : (t347.toList == t352.toList && (t348.toList == t353.toList && (t349 == t354 && (t350 == t355 && (t351 == t356))))) = false := by simpa using c5))
  (try (have c5b3 : ¬ (t347.toList = t352.toList && (t348.toList == t353.toList && (t349 == t354 && (t350 == t355 && (t351 == t356))))) := by simpa using c5))
  clear c5
  obtain rfl := Option.some.inj H
  go_enter Tryz.func11, Tryz.ntmps11
  try go_wp2_with (first | ((with_reducible refine gate_dst (N := 2) rfl ?_); refine box_event ?hg (N := 2) ?hd (cs := #[.string a0_0, .bool a0_1, .int .i64 a0_2, .int .i64 a0_3, .string a0_4, .slice A0_5 l0_5.length c0_5]) (t := 24) ?hr ?_; (case hd => rfl); (case hg => rfl); (case hr => exact Zq2); intro gb345 hg w12 hbox hb; have BK345 := Aside0.mk (hbox); have GW345 := Aside0.mk ((by rw [hg]; exact (below_size Zq13) : w.heap.size ≤ gb345)); have GE345 := Aside0.mk ((by rw [hg]; exact (below_size Zq13) : w.heap.size ≤ gb345)); replace HB := Aside0.mk (below_step Zq13 hb); clear hb hbox hg) | ((with_reducible refine gate_dst (N := 3) rfl ?_); refine box_event ?hg (N := 3) ?hd (cs := #[.string a1_0, .bool a1_1, .int .i64 a1_2, .int .i64 a1_3, .string a1_4, .slice A1_5 l1_5.length c1_5]) (t := 24) ?hr ?_; (case hd => rfl); (case hg => rfl); (case hr => exact Zq2); intro gb346 hg w13 hbox hb; have BK346 := Aside0.mk (hbox); have GW346 := Aside0.mk ((by rw [hg]; exact (below_size Zq29) : w.heap.size ≤ gb346)); have GE346 := Aside0.mk ((by rw [hg]; exact (below_size Zq29) : w.heap.size ≤ gb346)); have NB345_346 := Aside0.mk ((Zq84 : gb345 ≠ gb346)); have NB346_345 := Aside0.mk ((Zq77 : gb346 ≠ gb345)); replace BK345 := Aside0.mk (blkb_ BK345.out Zq52 hb); replace HB := Aside0.mk (below_step Zq29 hb); clear hb hbox hg))
  replace BK345 := Aside0.mk (blk_drew BK345.out)
  replace BK346 := Aside0.mk (blk_drew BK346.out)
  replace HB := Aside0.mk (below_drew1 HB.out)
  refine start_ (n := 13) (S := fun w' => w'.cell? ⟨gb345, 0, none⟩ = some (.string a0_0) ∧ w'.cell? ⟨gb345, 1, none⟩ = some (.bool a0_1) ∧ w'.cell? ⟨gb345, 2, none⟩ = some (.int .i64 a0_2) ∧ w'.cell? ⟨gb345, 3, none⟩ = some (.int .i64 a0_3) ∧ w'.cell? ⟨gb345, 4, none⟩ = some (.string a0_4) ∧ w'.cell? ⟨gb345, 5, none⟩ = some (.slice A0_5 l0_5.length c0_5) ∧ w'.cell? ⟨gb346, 0, none⟩ = some (.string a1_0) ∧ w'.cell? ⟨gb346, 1, none⟩ = some (.bool a1_1) ∧ w'.cell? ⟨gb346, 2, none⟩ = some (.int .i64 a1_2) ∧ w'.cell? ⟨gb346, 3, none⟩ = some (.int .i64 a1_3) ∧ w'.cell? ⟨gb346, 4, none⟩ = some (.string a1_4) ∧ w'.cell? ⟨gb346, 5, none⟩ = some (.slice A1_5 l1_5.length c1_5)) (ds := []) #[false, false, false, false, false, false, false, false, false, false, false, false, false] (by kernel_rfl) rfl rfl ⟨(blk_cell BK345.out 0).trans rfl, (blk_cell BK345.out 1).trans rfl, (blk_cell BK345.out 2).trans rfl, (blk_cell BK345.out 3).trans rfl, (blk_cell BK345.out 4).trans rfl, (blk_cell BK345.out 5).trans rfl, (blk_cell BK346.out 0).trans rfl, (blk_cell BK346.out 1).trans rfl, (blk_cell BK346.out 2).trans rfl, (blk_cell BK346.out 3).trans rfl, (blk_cell BK346.out 4).trans rfl, (blk_cell BK346.out 5).trans rfl⟩ (fun hHeld => ?_); refine with_tabW trap_Same.tab1 trap_Same.bits1 (fun HT_ HW_ => ?_)
  generalize w13.drew = w14 at BK345 BK346 HB hHeld ⊢
  refine tz_ 0 5 hHeld ?_
  refine tz_ 2 7 hHeld ?_
  refine oz_ 1 6 (fun K hK => ?_)
  refine goes_ Tryz.func23 (by kernel_rfl) rfl #[.agg #[.string a0_0, .bool a0_1, .int .i64 a0_2, .int .i64 a0_3, .string a0_4, .slice A0_5 l0_5.length c0_5]] (by rfl) rfl rfl Zq14 ?_
  with_reducible refine (trap_bare.calls a0_0 a0_1 a0_2 a0_3 a0_4 _ _ l0_5 t347 t348 t349 t350 t351 _ ?side1 ?side2 A3.out).mono ?_
  (case side1 => exact Zq35)
  (case side2 => exact HC0_5.out)
  rintro e w15 ⟨rfl, hb⟩
  refine ⟨_, rfl, ?_⟩
  replace BK345 := Aside0.mk (blkb_ BK345.out Zq52 hb)
  replace BK346 := Aside0.mk (blkb_ BK346.out Zq52 hb)
  replace HB := Aside0.mk (below_step Zq48 hb)
  (try clear hb)
  (try clear hb2)
  (try clear hk)
  (try clear hi)
  refine hK.out _ _ ⟨(blk_cell BK345.out 0).trans rfl, (blk_cell BK345.out 1).trans rfl, (blk_cell BK345.out 2).trans rfl, (blk_cell BK345.out 3).trans rfl, (blk_cell BK345.out 4).trans rfl, (blk_cell BK345.out 5).trans rfl, (blk_cell BK346.out 0).trans rfl, (blk_cell BK346.out 1).trans rfl, (blk_cell BK346.out 2).trans rfl, (blk_cell BK346.out 3).trans rfl, (blk_cell BK346.out 4).trans rfl, (blk_cell BK346.out 5).trans rfl⟩ (fun hHeld => ?_)
  clear hK K
  refine nz_ 6 ?_
  refine oz_ 3 8 (fun K hK => ?_)
  refine goes_ Tryz.func23 (by kernel_rfl) rfl #[.agg #[.string a1_0, .bool a1_1, .int .i64 a1_2, .int .i64 a1_3, .string a1_4, .slice A1_5 l1_5.length c1_5]] (by rfl) rfl rfl Zq14 ?_
  with_reducible refine (trap_bare.calls a1_0 a1_1 a1_2 a1_3 a1_4 _ _ l1_5 t352 t353 t354 t355 t356 _ ?side1 ?side2 A4.out).mono ?_
  (case side1 => repeat (first | exact (Kd.C_below HR1_5.out HB.out) | (with_reducible refine Kd.C_alloc ?_ _) | (with_reducible refine Kd.C_drewN ?_ _) | (with_reducible refine Kd.C_drew ?_)))
  (case side2 => exact HC1_5.out)
  rintro e w16 ⟨rfl, hb⟩
  refine ⟨_, rfl, ?_⟩
  replace BK345 := Aside0.mk (blkb_ BK345.out Zq52 hb)
  replace BK346 := Aside0.mk (blkb_ BK346.out Zq52 hb)
  replace HB := Aside0.mk (below_step Zq48 hb)
  (try clear hb)
  (try clear hb2)
  (try clear hk)
  (try clear hi)
  refine hK.out _ _ ⟨(blk_cell BK345.out 0).trans rfl, (blk_cell BK345.out 1).trans rfl, (blk_cell BK345.out 2).trans rfl, (blk_cell BK345.out 3).trans rfl, (blk_cell BK345.out 4).trans rfl, (blk_cell BK345.out 5).trans rfl, (blk_cell BK346.out 0).trans rfl, (blk_cell BK346.out 1).trans rfl, (blk_cell BK346.out 2).trans rfl, (blk_cell BK346.out 3).trans rfl, (blk_cell BK346.out 4).trans rfl, (blk_cell BK346.out 5).trans rfl⟩ (fun hHeld => ?_)
  clear hK K
  refine nz_ 8 ?_
  refine pz_ 4 9 ?_
  refine pz_ 5 10 ?_
  refine pu_ 6 11 ?_
  refine pu_ 7 12 ?_
  refine pu_ 8 13 ?_
  refine pu_ 9 14 ?_
  refine pu_ 10 15 ?_
  refine pz_ 11 16 ?_
  refine pz_ 12 4 ?_
  refine done_ (done_of HT_.out (by kernel_rfl)) ?_
  try go_wp2
  go_ret
  exact ⟨Zy51, Zy19⟩
 rw [if_pos c5] at H
 have c5b0 : (t347.toList == t352.toList && (t348.toList == t353.toList && (t349 == t354 && (t350 == t355 && (t351 == t356))))) = true := c5
 (try (have c5b1 : decide (t347.toList = t352.toList && (t348.toList == t353.toList && (t349 == t354 && (t350 == t355 && (t351 == t356))))) = true := by simpa using c5))
 (try (have c5b2 : (t347.toList == t352.toList && (t348.toList == t353.toList && (t349 == t354 && (t350 == t355 && (t351 == t356))))) = true := by simpa using c5))
 clear c5
 replace H := Option.bind_eq_some_iff.mp H
 obtain ⟨t357, A60, H⟩ := H
 replace H : (some t357) = some r := H
 have A6 := Aside0.mk A60
 clear A60
 obtain rfl := Option.some.inj H
 go_enter Tryz.func11, Tryz.ntmps11
 try go_wp2_with (first | ((with_reducible refine gate_dst (N := 2) rfl ?_); refine box_event ?hg (N := 2) ?hd (cs := #[.string a0_0, .bool a0_1, .int .i64 a0_2, .int .i64 a0_3, .string a0_4, .slice A0_5 l0_5.length c0_5]) (t := 24) ?hr ?_; (case hd => rfl); (case hg => rfl); (case hr => exact Zq2); intro gb345 hg w7 hbox hb; have BK345 := Aside0.mk (hbox); have GW345 := Aside0.mk ((by rw [hg]; exact (below_size Zq13) : w.heap.size ≤ gb345)); have GE345 := Aside0.mk ((by rw [hg]; exact (below_size Zq13) : w.heap.size ≤ gb345)); replace HB := Aside0.mk (below_step Zq13 hb); clear hb hbox hg) | ((with_reducible refine gate_dst (N := 3) rfl ?_); refine box_event ?hg (N := 3) ?hd (cs := #[.string a1_0, .bool a1_1, .int .i64 a1_2, .int .i64 a1_3, .string a1_4, .slice A1_5 l1_5.length c1_5]) (t := 24) ?hr ?_; (case hd => rfl); (case hg => rfl); (case hr => exact Zq2); intro gb346 hg w8 hbox hb; have BK346 := Aside0.mk (hbox); have GW346 := Aside0.mk ((by rw [hg]; exact (below_size Zq29) : w.heap.size ≤ gb346)); have GE346 := Aside0.mk ((by rw [hg]; exact (below_size Zq29) : w.heap.size ≤ gb346)); have NB345_346 := Aside0.mk ((Zq84 : gb345 ≠ gb346)); have NB346_345 := Aside0.mk ((Zq77 : gb346 ≠ gb345)); replace BK345 := Aside0.mk (blkb_ BK345.out Zq52 hb); replace HB := Aside0.mk (below_step Zq29 hb); clear hb hbox hg))
 replace BK345 := Aside0.mk (blk_drew BK345.out)
 replace BK346 := Aside0.mk (blk_drew BK346.out)
 replace HB := Aside0.mk (below_drew1 HB.out)
 refine start_ (n := 13) (S := fun w' => w'.cell? ⟨gb345, 0, none⟩ = some (.string a0_0) ∧ w'.cell? ⟨gb345, 1, none⟩ = some (.bool a0_1) ∧ w'.cell? ⟨gb345, 2, none⟩ = some (.int .i64 a0_2) ∧ w'.cell? ⟨gb345, 3, none⟩ = some (.int .i64 a0_3) ∧ w'.cell? ⟨gb345, 4, none⟩ = some (.string a0_4) ∧ w'.cell? ⟨gb345, 5, none⟩ = some (.slice A0_5 l0_5.length c0_5) ∧ w'.cell? ⟨gb346, 0, none⟩ = some (.string a1_0) ∧ w'.cell? ⟨gb346, 1, none⟩ = some (.bool a1_1) ∧ w'.cell? ⟨gb346, 2, none⟩ = some (.int .i64 a1_2) ∧ w'.cell? ⟨gb346, 3, none⟩ = some (.int .i64 a1_3) ∧ w'.cell? ⟨gb346, 4, none⟩ = some (.string a1_4) ∧ w'.cell? ⟨gb346, 5, none⟩ = some (.slice A1_5 l1_5.length c1_5)) (ds := []) #[false, false, false, false, false, false, false, false, false, false, false, false, false] (by kernel_rfl) rfl rfl ⟨(blk_cell BK345.out 0).trans rfl, (blk_cell BK345.out 1).trans rfl, (blk_cell BK345.out 2).trans rfl, (blk_cell BK345.out 3).trans rfl, (blk_cell BK345.out 4).trans rfl, (blk_cell BK345.out 5).trans rfl, (blk_cell BK346.out 0).trans rfl, (blk_cell BK346.out 1).trans rfl, (blk_cell BK346.out 2).trans rfl, (blk_cell BK346.out 3).trans rfl, (blk_cell BK346.out 4).trans rfl, (blk_cell BK346.out 5).trans rfl⟩ (fun hHeld => ?_); refine with_tabW trap_Same.tab1 trap_Same.bits1 (fun HT_ HW_ => ?_)
 generalize w8.drew = w9 at BK345 BK346 HB hHeld ⊢
 refine tz_ 0 5 hHeld ?_
 refine tz_ 2 7 hHeld ?_
 refine oz_ 1 6 (fun K hK => ?_)
 refine goes_ Tryz.func23 (by kernel_rfl) rfl #[.agg #[.string a0_0, .bool a0_1, .int .i64 a0_2, .int .i64 a0_3, .string a0_4, .slice A0_5 l0_5.length c0_5]] (by rfl) rfl rfl Zq14 ?_
 with_reducible refine (trap_bare.calls a0_0 a0_1 a0_2 a0_3 a0_4 _ _ l0_5 t347 t348 t349 t350 t351 _ ?side1 ?side2 A3.out).mono ?_
 (case side1 => exact Zq35)
 (case side2 => exact HC0_5.out)
 rintro e w10 ⟨rfl, hb⟩
 refine ⟨_, rfl, ?_⟩
 replace BK345 := Aside0.mk (blkb_ BK345.out Zq52 hb)
 replace BK346 := Aside0.mk (blkb_ BK346.out Zq52 hb)
 replace HB := Aside0.mk (below_step Zq48 hb)
 (try clear hb)
 (try clear hb2)
 (try clear hk)
 (try clear hi)
 refine hK.out _ _ ⟨(blk_cell BK345.out 0).trans rfl, (blk_cell BK345.out 1).trans rfl, (blk_cell BK345.out 2).trans rfl, (blk_cell BK345.out 3).trans rfl, (blk_cell BK345.out 4).trans rfl, (blk_cell BK345.out 5).trans rfl, (blk_cell BK346.out 0).trans rfl, (blk_cell BK346.out 1).trans rfl, (blk_cell BK346.out 2).trans rfl, (blk_cell BK346.out 3).trans rfl, (blk_cell BK346.out 4).trans rfl, (blk_cell BK346.out 5).trans rfl⟩ (fun hHeld => ?_)
 clear hK K
 refine nz_ 6 ?_
 refine oz_ 3 8 (fun K hK => ?_)
 refine goes_ Tryz.func23 (by kernel_rfl) rfl #[.agg #[.string a1_0, .bool a1_1, .int .i64 a1_2, .int .i64 a1_3, .string a1_4, .slice A1_5 l1_5.length c1_5]] (by rfl) rfl rfl Zq14 ?_
 with_reducible refine (trap_bare.calls a1_0 a1_1 a1_2 a1_3 a1_4 _ _ l1_5 t352 t353 t354 t355 t356 _ ?side1 ?side2 A4.out).mono ?_
 (case side1 => repeat (first | exact (Kd.C_below HR1_5.out HB.out) | (with_reducible refine Kd.C_alloc ?_ _) | (with_reducible refine Kd.C_drewN ?_ _) | (with_reducible refine Kd.C_drew ?_)))
 (case side2 => exact HC1_5.out)
 rintro e w11 ⟨rfl, hb⟩
 refine ⟨_, rfl, ?_⟩
 replace BK345 := Aside0.mk (blkb_ BK345.out Zq52 hb)
 replace BK346 := Aside0.mk (blkb_ BK346.out Zq52 hb)
 replace HB := Aside0.mk (below_step Zq48 hb)
 (try clear hb)
 (try clear hb2)
 (try clear hk)
 (try clear hi)
 refine hK.out _ _ ⟨(blk_cell BK345.out 0).trans rfl, (blk_cell BK345.out 1).trans rfl, (blk_cell BK345.out 2).trans rfl, (blk_cell BK345.out 3).trans rfl, (blk_cell BK345.out 4).trans rfl, (blk_cell BK345.out 5).trans rfl, (blk_cell BK346.out 0).trans rfl, (blk_cell BK346.out 1).trans rfl, (blk_cell BK346.out 2).trans rfl, (blk_cell BK346.out 3).trans rfl, (blk_cell BK346.out 4).trans rfl, (blk_cell BK346.out 5).trans rfl⟩ (fun hHeld => ?_)
 clear hK K
 refine nz_ 8 ?_
 refine pz_ 4 9 ?_
 refine pz_ 5 10 ?_
 refine pz_ 6 11 ?_
 refine pz_ 8 13 ?_
 refine tz_ 7 12 hHeld ?_
 refine tz_ 9 14 hHeld ?_
 refine oz_ 10 15 (fun K hK => ?_)
 refine goes_ Tryz.func24 (by kernel_rfl) rfl #[.slice A0_5 l0_5.length c0_5, .slice A1_5 l1_5.length c1_5] (by rfl) rfl rfl Zq14 ?_
 with_reducible refine (api_Bind_24.calls k _ _ l0_5 _ _ l1_5 t357 _ ?side1 ?side2 ?side3 ?side4 A6.out).mono ?_
 (case side1 => exact Zq35)
 (case side2 => exact HC0_5.out)
 (case side3 => repeat (first | exact (Kd.C_below HR1_5.out HB.out) | (with_reducible refine Kd.C_alloc ?_ _) | (with_reducible refine Kd.C_drewN ?_ _) | (with_reducible refine Kd.C_drew ?_)))
 (case side4 => exact HC1_5.out)
 rintro e w' ⟨rfl, ⟨nd, rfl⟩⟩
 refine ⟨_, rfl, ?_⟩
 refine hK.out _ _ ⟨(blk_cell BK345.out 0).trans rfl, (blk_cell BK345.out 1).trans rfl, (blk_cell BK345.out 2).trans rfl, (blk_cell BK345.out 3).trans rfl, (blk_cell BK345.out 4).trans rfl, (blk_cell BK345.out 5).trans rfl, (blk_cell BK346.out 0).trans rfl, (blk_cell BK346.out 1).trans rfl, (blk_cell BK346.out 2).trans rfl, (blk_cell BK346.out 3).trans rfl, (blk_cell BK346.out 4).trans rfl, (blk_cell BK346.out 5).trans rfl⟩ (fun hHeld => ?_)
 clear hK K
 refine nz_ 15 ?_
 refine pz_ 11 16 ?_
 refine pz_ 12 4 ?_
 refine done_ (done_of HT_.out (by kernel_rfl)) ?_
 try go_wp2
 go_ret
 exact ⟨Zy51, Zy19⟩
def gonglaw09_works.f (k : Nat)  : Option (Bool) := (trap_Encode.f k (⟨#[112, 117, 98, 108, 105, 99]⟩ : ByteArray) false 0 300 (⟨#[49, 46, 51, 46, 54, 46, 49, 46, 54, 46, 51, 46, 49, 46, 49, 46, 53, 46, 49]⟩ : ByteArray) ([] : List (S40))).bind fun bt359 => ((trap_Decode.f k bt359.1 (([(⟨#[112, 117, 98, 108, 105, 99]⟩ : ByteArray)] : List ByteArray))).bind fun bt364 => (if bt359.2 = 0 then (if bt364.2.2.2.2.2.2 = 0 then ((trap_Same.f k (⟨#[112, 117, 98, 108, 105, 99]⟩ : ByteArray) false 0 300 (⟨#[49, 46, 51, 46, 54, 46, 49, 46, 54, 46, 51, 46, 49, 46, 49, 46, 53, 46, 49]⟩ : ByteArray) ([] : List (S40)) bt364.1 bt364.2.1 bt364.2.2.1 bt364.2.2.2.1 bt364.2.2.2.2.1 bt364.2.2.2.2.2.1).bind fun t374 => (if t374 = true then ((trap_Same.f k bt364.1 bt364.2.1 bt364.2.2.1 bt364.2.2.2.1 bt364.2.2.2.2.1 bt364.2.2.2.2.2.1 (⟨#[112, 117, 98, 108, 105, 99]⟩ : ByteArray) false 0 300 (⟨#[49, 46, 51, 46, 54, 46, 49, 46, 54, 46, 51, 46, 49, 46, 49, 46, 53, 46, 49]⟩ : ByteArray) ([] : List (S40))).bind fun t375 => (some t375)) else (none))) else (none)) else (none)))
set_option maxHeartbeats 400000 in
set_option maxRecDepth 100000 in
theorem gonglaw09_works.calls (k : Nat)  (r : Bool) (w : World) (hG : Gl w) (h : gonglaw09_works.f k  = some r) :
  Calls Tryz.prog 6 #[] w fun e w' => e = .returned (.bool r) ∧ Below w.heap.size w w' := by
 have HGl := Aside0.mk hG
 clear hG
 have hu24 := Tryz.underlying24
 have HB := Aside0.mk (Below.refl w.heap.size w)
 have H : ((trap_Encode.f k (⟨#[112, 117, 98, 108, 105, 99]⟩ : ByteArray) false 0 300 (⟨#[49, 46, 51, 46, 54, 46, 49, 46, 54, 46, 51, 46, 49, 46, 49, 46, 53, 46, 49]⟩ : ByteArray) ([] : List (S40))).bind fun bt359 => ((trap_Decode.f k bt359.1 (([(⟨#[112, 117, 98, 108, 105, 99]⟩ : ByteArray)] : List ByteArray))).bind fun bt364 => (if bt359.2 = 0 then (if bt364.2.2.2.2.2.2 = 0 then ((trap_Same.f k (⟨#[112, 117, 98, 108, 105, 99]⟩ : ByteArray) false 0 300 (⟨#[49, 46, 51, 46, 54, 46, 49, 46, 54, 46, 51, 46, 49, 46, 49, 46, 53, 46, 49]⟩ : ByteArray) ([] : List (S40)) bt364.1 bt364.2.1 bt364.2.2.1 bt364.2.2.2.1 bt364.2.2.2.2.1 bt364.2.2.2.2.2.1).bind fun t374 => (if t374 = true then ((trap_Same.f k bt364.1 bt364.2.1 bt364.2.2.1 bt364.2.2.2.1 bt364.2.2.2.2.1 bt364.2.2.2.2.2.1 (⟨#[112, 117, 98, 108, 105, 99]⟩ : ByteArray) false 0 300 (⟨#[49, 46, 51, 46, 54, 46, 49, 46, 54, 46, 51, 46, 49, 46, 49, 46, 53, 46, 49]⟩ : ByteArray) ([] : List (S40))).bind fun t375 => (some t375)) else (none))) else (none)) else (none)))) = some r := h
 clear h
 replace H := Option.bind_eq_some_iff.mp H
 obtain ⟨⟨t359, t360⟩, A10, H⟩ := H
 replace H : ((trap_Decode.f k t359 (([(⟨#[112, 117, 98, 108, 105, 99]⟩ : ByteArray)] : List ByteArray))).bind fun bt364 => (if t360 = 0 then (if bt364.2.2.2.2.2.2 = 0 then ((trap_Same.f k (⟨#[112, 117, 98, 108, 105, 99]⟩ : ByteArray) false 0 300 (⟨#[49, 46, 51, 46, 54, 46, 49, 46, 54, 46, 51, 46, 49, 46, 49, 46, 53, 46, 49]⟩ : ByteArray) ([] : List (S40)) bt364.1 bt364.2.1 bt364.2.2.1 bt364.2.2.2.1 bt364.2.2.2.2.1 bt364.2.2.2.2.2.1).bind fun t374 => (if t374 = true then ((trap_Same.f k bt364.1 bt364.2.1 bt364.2.2.1 bt364.2.2.2.1 bt364.2.2.2.2.1 bt364.2.2.2.2.2.1 (⟨#[112, 117, 98, 108, 105, 99]⟩ : ByteArray) false 0 300 (⟨#[49, 46, 51, 46, 54, 46, 49, 46, 54, 46, 51, 46, 49, 46, 49, 46, 53, 46, 49]⟩ : ByteArray) ([] : List (S40))).bind fun t375 => (some t375)) else (none))) else (none)) else (none))) = some r := H
 have A1 := Aside0.mk A10
 clear A10
 obtain ⟨y361, hy361⟩ : ∃ y_ : List ByteArray, y_ = (([(⟨#[112, 117, 98, 108, 105, 99]⟩ : ByteArray)] : List ByteArray)) := ⟨_, rfl⟩
 replace H : ((trap_Decode.f k t359 y361).bind fun bt364 => (if t360 = 0 then (if bt364.2.2.2.2.2.2 = 0 then ((trap_Same.f k (⟨#[112, 117, 98, 108, 105, 99]⟩ : ByteArray) false 0 300 (⟨#[49, 46, 51, 46, 54, 46, 49, 46, 54, 46, 51, 46, 49, 46, 49, 46, 53, 46, 49]⟩ : ByteArray) ([] : List (S40)) bt364.1 bt364.2.1 bt364.2.2.1 bt364.2.2.2.1 bt364.2.2.2.2.1 bt364.2.2.2.2.2.1).bind fun t374 => (if t374 = true then ((trap_Same.f k bt364.1 bt364.2.1 bt364.2.2.1 bt364.2.2.2.1 bt364.2.2.2.2.1 bt364.2.2.2.2.2.1 (⟨#[112, 117, 98, 108, 105, 99]⟩ : ByteArray) false 0 300 (⟨#[49, 46, 51, 46, 54, 46, 49, 46, 54, 46, 51, 46, 49, 46, 49, 46, 53, 46, 49]⟩ : ByteArray) ([] : List (S40))).bind fun t375 => (some t375)) else (none))) else (none)) else (none))) = some r := by first | (rw [hy361]; with_reducible exact H) | (have H2_ := (Option.bind_some _ _).symm.trans H; rw [hy361]; with_reducible exact H2_) | (have H2_ := (Option.bind_some _ _).symm.trans H; with_reducible exact H2_) | with_reducible exact H | (rw [hy361]; exact H) | exact H
 have Ny361 := Aside0.mk hy361
 clear hy361
 replace H := Option.bind_eq_some_iff.mp H
 obtain ⟨⟨t364, t365, t366, t367, t368, t369, t372⟩, A20, H⟩ := H
 replace H : (if t360 = 0 then (if t372 = 0 then ((trap_Same.f k (⟨#[112, 117, 98, 108, 105, 99]⟩ : ByteArray) false 0 300 (⟨#[49, 46, 51, 46, 54, 46, 49, 46, 54, 46, 51, 46, 49, 46, 49, 46, 53, 46, 49]⟩ : ByteArray) ([] : List (S40)) t364 t365 t366 t367 t368 t369).bind fun t374 => (if t374 = true then ((trap_Same.f k t364 t365 t366 t367 t368 t369 (⟨#[112, 117, 98, 108, 105, 99]⟩ : ByteArray) false 0 300 (⟨#[49, 46, 51, 46, 54, 46, 49, 46, 54, 46, 51, 46, 49, 46, 49, 46, 53, 46, 49]⟩ : ByteArray) ([] : List (S40))).bind fun t375 => (some t375)) else (none))) else (none)) else (none)) = some r := H
 have A2 := Aside0.mk A20
 clear A20
 by_cases c3 : t360 = 0
 rotate_left
 ·rw [if_neg c3] at H
  exact absurd H (by simp)
 rw [if_pos c3] at H
 have c3b0 : (t360 == 0) = true := beq_iff_eq.mpr c3
 have c3b1 : (t360 != 0) = false := bne_eq_false_iff_eq.mpr c3
 clear c3
 by_cases c4 : t372 = 0
 rotate_left
 ·rw [if_neg c4] at H
  exact absurd H (by simp)
 rw [if_pos c4] at H
 have c4b0 : (t372 == 0) = true := beq_iff_eq.mpr c4
 have c4b1 : (t372 != 0) = false := bne_eq_false_iff_eq.mpr c4
 clear c4
 replace H := Option.bind_eq_some_iff.mp H
 obtain ⟨t374, A50, H⟩ := H
 replace H : (if t374 = true then ((trap_Same.f k t364 t365 t366 t367 t368 t369 (⟨#[112, 117, 98, 108, 105, 99]⟩ : ByteArray) false 0 300 (⟨#[49, 46, 51, 46, 54, 46, 49, 46, 54, 46, 51, 46, 49, 46, 49, 46, 53, 46, 49]⟩ : ByteArray) ([] : List (S40))).bind fun t375 => (some t375)) else (none)) = some r := H
 have A5 := Aside0.mk A50
 clear A50
 by_cases c6 : t374 = true
 rotate_left
 ·replace c6 := Bool.eq_false_iff.mpr c6
  subst c6
  have H1 : (none) = some r := by rw [if_neg (show ¬ (false = true) by decide)] at H; exact H
  exact absurd H1 (by simp)
 subst c6
 have H1 : ((trap_Same.f k t364 t365 t366 t367 t368 t369 (⟨#[112, 117, 98, 108, 105, 99]⟩ : ByteArray) false 0 300 (⟨#[49, 46, 51, 46, 54, 46, 49, 46, 54, 46, 51, 46, 49, 46, 49, 46, 53, 46, 49]⟩ : ByteArray) ([] : List (S40))).bind fun t375 => (some t375)) = some r := by rw [if_pos rfl] at H; exact H
 clear H
 have H := H1
 clear H1
 replace H := Option.bind_eq_some_iff.mp H
 obtain ⟨t375, A70, H⟩ := H
 replace H : (some t375) = some r := H
 have A7 := Aside0.mk A70
 clear A70
 obtain rfl := Option.some.inj H
 go_enter Tryz.func6, Tryz.ntmps6
 go_wp2_with (first | ((with_reducible refine gate_dst (N := 1) rfl ?_); refine box_event ?hg (N := 1) ?hd (cs := #[.string (⟨#[]⟩ : ByteArray), .bool false, .int .i64 0, .int .i64 0, .string (⟨#[]⟩ : ByteArray), .slice none 0 0]) (t := 24) ?hr ?_; (case hd => rfl); (case hg => rfl); (case hr => exact Zq2); intro gb358 hg w8 hbox hb; have BK358 := Aside0.mk (hbox); have GW358 := Aside0.mk ((by rw [hg]; exact (below_size Zq13) : w.heap.size ≤ gb358)); have GE358 := Aside0.mk ((by rw [hg]; exact (below_size Zq13) : w.heap.size ≤ gb358)); replace HB := Aside0.mk (below_step Zq13 hb); clear hb hbox hg; obtain ⟨hcz9_0, hcz9_1, hcz9_2, hcz9_3, hcz9_4, hcz9_5⟩ := cells6_ BK358.out; obtain ⟨hfz9_0, hfz9_1, hfz9_2, hfz9_3, hfz9_4, hfz9_5⟩ := frozen6_ BK358.out) | ((with_reducible refine gate_callee (f := 8) rfl ?_); refine goesL_ (some 9) rfl rfl Tryz.func8 (by kernel_rfl) rfl #[.agg #[.string (⟨#[112, 117, 98, 108, 105, 99]⟩ : ByteArray), .bool false, .int .i64 0, .int .i64 300, .string (⟨#[49, 46, 51, 46, 54, 46, 49, 46, 54, 46, 51, 46, 49, 46, 49, 46, 53, 46, 49]⟩ : ByteArray), .slice none 0 0]] rfl Zq14 ?_; (refine (trap_Encode.calls k (⟨#[112, 117, 98, 108, 105, 99]⟩ : ByteArray) false 0 300 (⟨#[49, 46, 51, 46, 54, 46, 49, 46, 54, 46, 51, 46, 49, 46, 49, 46, 53, 46, 49]⟩ : ByteArray) _ _ ([] : List (S40)) t359 t360 _ ?side3 ?side1 ?side2 A1.out).mono ?_); (case side1 => exact Kd.C_nil _ _); (case side2 => exact Nat.le_refl _); (case side3 => first | (with_reducible exact HGl.out) | exact HGl.out.below Zq51); rintro e w10 ⟨rfl, hb⟩; refine ⟨_, rfl, ?_⟩; replace BK358 := Aside0.mk (blk_below (g := gb358) (o := .cells #[.string (⟨#[112, 117, 98, 108, 105, 99]⟩ : ByteArray), .bool false, .int .i64 0, .int .i64 300, .string (⟨#[49, 46, 51, 46, 54, 46, 49, 46, 54, 46, 51, 46, 49, 46, 49, 46, 53, 46, 49]⟩ : ByteArray), .slice none 0 0] 24 (0, 0)) Zq57 hb); replace HB := Aside0.mk (below_step Zq30 hb); (try clear hb); (try clear hb2); (try clear hk); (try clear hi)) | ((with_reducible refine gate_dst (N := 14) rfl ?_); refine Kd.R_lit Kd.string _ 9 ?hg (N := 14) ?hd (xs := ([(⟨#[112, 117, 98, 108, 105, 99]⟩ : ByteArray)] : List ByteArray)) (inner := [.string (⟨#[112, 117, 98, 108, 105, 99]⟩ : ByteArray)]) (ok := fun _ => True) (okp := fun _ => True) ?hr ?hp (fun _ hk => hk) trivial (Below.refl _ _) (Nat.le_refl _) (by simp) ?_; (case hd => rfl); (case hg => rfl); (case hr => exact Zq2); (case hp => exact (Reps.one (show Kd.M Kd.string _ _ _ (⟨#[112, 117, 98, 108, 105, 99]⟩ : ByteArray) [.string (⟨#[112, 117, 98, 108, 105, 99]⟩ : ByteArray)] from rfl) (Reps.none _ _))); intro v362 w11 ho12 hb hg_ hnew_; clear hg_ hnew_; (first | rw [← Ny361.out] at ho12 | (simp only [Int.reduceToNat] at ho12; rw [← Ny361.out] at ho12)); have HO363 := Aside0.mk (Kd.R_lower ho12 (below_size Zq30)); replace BK358 := Aside0.mk (blk_below (g := gb358) (o := .cells #[.string (⟨#[112, 117, 98, 108, 105, 99]⟩ : ByteArray), .bool false, .int .i64 0, .int .i64 300, .string (⟨#[49, 46, 51, 46, 54, 46, 49, 46, 54, 46, 51, 46, 49, 46, 49, 46, 53, 46, 49]⟩ : ByteArray), .slice none 0 0] 24 (0, 0)) Zq52 hb); replace HB := Aside0.mk (below_step Zq30 hb); clear hb ho12; obtain ⟨Ao13, co13, eo13⟩ := Kd.R_slice HO363.out; subst eo13) | ((with_reducible refine gate_callee (f := 10) rfl ?_); refine goesL_ (some 15) rfl rfl Tryz.func10 (by kernel_rfl) rfl #[.string t359, .slice Ao13 y361.length co13] rfl Zq14 ?_; (with_reducible refine (trap_Decode.calls k t359 _ _ y361 t364 t365 t366 t367 t368 t369 t372 _ ?side3 ?side1 ?side2 A2.out).mono ?_); (case side1 => repeat (first | exact (Kd.R_reads' HO363.out).2.2 | (with_reducible refine Kd.C_alloc ?_ _) | (with_reducible refine Kd.C_drewN ?_ _) | (with_reducible refine Kd.C_drew ?_))); (case side2 => exact (Kd.R_reads' HO363.out).2.1); (case side3 => first | (with_reducible exact HGl.out) | exact HGl.out.below Zq51); rintro e w14 ⟨v370, rfl, ho0, hb⟩; refine ⟨_, rfl, ?_⟩; have HO371 := Aside0.mk (Kd.R_lower ho0 (below_size Zq30)); replace HO363 := Aside0.mk (Kd.R_below Zq10 hb); replace BK358 := Aside0.mk (blk_below (g := gb358) (o := .cells #[.string (⟨#[112, 117, 98, 108, 105, 99]⟩ : ByteArray), .bool false, .int .i64 0, .int .i64 300, .string (⟨#[49, 46, 51, 46, 54, 46, 49, 46, 54, 46, 51, 46, 49, 46, 49, 46, 53, 46, 49]⟩ : ByteArray), .slice none 0 0] 24 (0, 0)) Zq52 hb); replace HB := Aside0.mk (below_step Zq30 hb); (try clear hb); (try clear hb2); (try clear hk); (try clear hi); (try clear ho0)) | ((with_reducible refine gate_dst (N := 4) rfl ?_); refine box_event ?hg (N := 4) ?hd (cs := #[.string (⟨#[]⟩ : ByteArray), .bool false, .int .i64 0, .int .i64 0, .string (⟨#[]⟩ : ByteArray), .slice none 0 0]) (t := 24) ?hr ?_; (case hd => rfl); (case hg => rfl); (case hr => exact Zq2); intro gb373 hg w15 hbox hb; have BK373 := Aside0.mk (hbox); have GW373 := Aside0.mk ((by rw [hg]; exact (below_size Zq30) : w.heap.size ≤ gb373)); have GE373 := Aside0.mk ((by rw [hg]; exact (below_size Zq30) : w.heap.size ≤ gb373)); have NB358_373 := Aside0.mk ((by rw [hg]; exact Nat.ne_of_lt (blk_lt (g := gb358) (o := .cells #[.string (⟨#[112, 117, 98, 108, 105, 99]⟩ : ByteArray), .bool false, .int .i64 0, .int .i64 300, .string (⟨#[49, 46, 51, 46, 54, 46, 49, 46, 54, 46, 51, 46, 49, 46, 49, 46, 53, 46, 49]⟩ : ByteArray), .slice none 0 0] 24 (0, 0)) Zq52) : gb358 ≠ gb373)); have NB373_358 := Aside0.mk ((by rw [hg]; exact Nat.ne_of_gt (blk_lt (g := gb358) (o := .cells #[.string (⟨#[112, 117, 98, 108, 105, 99]⟩ : ByteArray), .bool false, .int .i64 0, .int .i64 300, .string (⟨#[49, 46, 51, 46, 54, 46, 49, 46, 54, 46, 51, 46, 49, 46, 49, 46, 53, 46, 49]⟩ : ByteArray), .slice none 0 0] 24 (0, 0)) Zq52) : gb373 ≠ gb358)); replace HO363 := Aside0.mk (Kd.R_below Zq10 hb); replace HO371 := Aside0.mk (Kd.R_below (by (with_reducible repeat (first | apply Kd.R_alloc | apply Kd.R_drewN | apply Kd.R_drew)); exact HO371.out) hb); replace BK358 := Aside0.mk (blk_below (g := gb358) (o := .cells #[.string (⟨#[112, 117, 98, 108, 105, 99]⟩ : ByteArray), .bool false, .int .i64 0, .int .i64 300, .string (⟨#[49, 46, 51, 46, 54, 46, 49, 46, 54, 46, 51, 46, 49, 46, 49, 46, 53, 46, 49]⟩ : ByteArray), .slice none 0 0] 24 (0, 0)) Zq52 hb); replace HB := Aside0.mk (below_step Zq30 hb); clear hb hbox hg; have hnb16 := NB373_358.out; have hnc16 := NB358_373.out; obtain ⟨hcz17_0, hcz17_1, hcz17_2, hcz17_3, hcz17_4, hcz17_5⟩ := cells6_ BK373.out; obtain ⟨hfz17_0, hfz17_1, hfz17_2, hfz17_3, hfz17_4, hfz17_5⟩ := frozen6_ BK373.out; obtain ⟨Ao18, co18, eo18⟩ := Kd.R_slice HO371.out; subst eo18; obtain ⟨hcz19_0, hcz19_1, hcz19_2, hcz19_3, hcz19_4, hcz19_5⟩ := cells6_ BK358.out; obtain ⟨hfz19_0, hfz19_1, hfz19_2, hfz19_3, hfz19_4, hfz19_5⟩ := frozen6_ BK358.out))
 (refine (trap_Same.calls k (⟨#[112, 117, 98, 108, 105, 99]⟩ : ByteArray) false 0 300 (⟨#[49, 46, 51, 46, 54, 46, 49, 46, 54, 46, 51, 46, 49, 46, 49, 46, 53, 46, 49]⟩ : ByteArray) _ _ ([] : List (S40)) t364 t365 t366 t367 t368 _ _ t369 true _ ?side1 ?side2 ?side3 ?side4 A5.out).mono ?_)
 (case side1 => exact Kd.C_nil _ _)
 (case side2 => exact Nat.le_refl _)
 (case side3 => refine (Kd.R_reads' (e := 40) (base := w.heap.size) (ok := fun k_ => True) (n := t369.length) (c := co18) ?_).2.2; exact Zq63)
 (case side4 => exact (Kd.R_reads' HO371.out).2.1)
 rintro e w20 ⟨rfl, hb⟩
 replace HO363 := Aside0.mk (Kd.R_below (by (with_reducible repeat (first | apply Kd.R_alloc | apply Kd.R_drewN | apply Kd.R_drew)); exact (Kd.R_mono (Kd.R_far (p := ⟨gb373, 5, none⟩) (Kd.R_far (p := ⟨gb373, 4, none⟩) (Kd.R_far (p := ⟨gb373, 3, none⟩) (Kd.R_far (p := ⟨gb373, 2, none⟩) (Kd.R_far (p := ⟨gb373, 1, none⟩) (Kd.R_far (p := ⟨gb373, 0, none⟩) (Kd.R_types HO363.out BK373.out (by decide)) (fun _ hk => hk.2) (.string t364)) (fun _ hk => hk.2) (.bool t365)) (fun _ hk => hk.2) (.int .i64 t366)) (fun _ hk => hk.2) (.int .i64 t367)) (fun _ hk => hk.2) (.string t368)) (fun _ hk => hk.2) (.slice Ao18 t369.length co18)) (fun _ h_ => h_.1))) hb)
 replace HO371 := Aside0.mk (Kd.R_below Zq63 hb)
 replace BK358 := Aside0.mk (blk_below (g := gb358) (o := .cells #[.string (⟨#[112, 117, 98, 108, 105, 99]⟩ : ByteArray), .bool false, .int .i64 0, .int .i64 300, .string (⟨#[49, 46, 51, 46, 54, 46, 49, 46, 54, 46, 51, 46, 49, 46, 49, 46, 53, 46, 49]⟩ : ByteArray), .slice none 0 0] 24 (0, 0)) Zq52 hb)
 replace BK373 := Aside0.mk (blk_below (g := gb373) (o := .cells #[.string t364, .bool t365, .int .i64 t366, .int .i64 t367, .string t368, .slice Ao18 t369.length co18] 24 (0, 0)) Zq57 hb)
 replace HB := Aside0.mk (below_step Zq49 hb)
 (try clear hb)
 (try clear hb2)
 (try clear hk)
 (try clear hi)
 obtain ⟨hcz21_0, hcz21_1, hcz21_2, hcz21_3, hcz21_4, hcz21_5⟩ := cells6_ BK373.out
 obtain ⟨hfz21_0, hfz21_1, hfz21_2, hfz21_3, hfz21_4, hfz21_5⟩ := frozen6_ BK373.out
 obtain ⟨hcz22_0, hcz22_1, hcz22_2, hcz22_3, hcz22_4, hcz22_5⟩ := cells6_ BK358.out
 obtain ⟨hfz22_0, hfz22_1, hfz22_2, hfz22_3, hfz22_4, hfz22_5⟩ := frozen6_ BK358.out
 go_wp2_with fail
 (refine (trap_Same.calls k t364 t365 t366 t367 t368 _ _ t369 (⟨#[112, 117, 98, 108, 105, 99]⟩ : ByteArray) false 0 300 (⟨#[49, 46, 51, 46, 54, 46, 49, 46, 54, 46, 51, 46, 49, 46, 49, 46, 53, 46, 49]⟩ : ByteArray) _ _ ([] : List (S40)) t375 _ ?side1 ?side2 ?side3 ?side4 A7.out).mono ?_)
 (case side1 => repeat (first | exact (Kd.R_reads' HO371.out).2.2 | (with_reducible refine Kd.C_alloc ?_ _) | (with_reducible refine Kd.C_drewN ?_ _) | (with_reducible refine Kd.C_drew ?_)))
 (case side2 => exact (Kd.R_reads' HO371.out).2.1)
 (case side3 => exact Kd.C_nil _ _)
 (case side4 => exact Nat.le_refl _)
 rintro e w23 ⟨rfl, hb⟩
 replace HO363 := Aside0.mk (Kd.R_below Zq10 hb)
 replace HO371 := Aside0.mk (Kd.R_below (by (with_reducible repeat (first | apply Kd.R_alloc | apply Kd.R_drewN | apply Kd.R_drew)); exact HO371.out) hb)
 replace BK358 := Aside0.mk (blk_below (g := gb358) (o := .cells #[.string (⟨#[112, 117, 98, 108, 105, 99]⟩ : ByteArray), .bool false, .int .i64 0, .int .i64 300, .string (⟨#[49, 46, 51, 46, 54, 46, 49, 46, 54, 46, 51, 46, 49, 46, 49, 46, 53, 46, 49]⟩ : ByteArray), .slice none 0 0] 24 (0, 0)) Zq52 hb)
 replace BK373 := Aside0.mk (blkb_ BK373.out Zq52 hb)
 replace HB := Aside0.mk (below_step Zq49 hb)
 (try clear hb)
 (try clear hb2)
 (try clear hk)
 (try clear hi)
 go_wp2
 go_ret
 exact ⟨Zy51, by repeat (first | (with_reducible first | exact HB.out | apply below_alloc | apply pw_below_drewN | apply below_drew1 | refine below_set ?_ GE358.out | refine below_set ?_ GE373.out) | exact HB.out)⟩
def gongbook_Below.f (a0 : Int) (a1 : Int) : Option (Int) := if a1 = 0 then (none) else (some (Int.tmod (wrap64 ((Int.tmod a0 a1) + a1)) a1))
set_option maxHeartbeats 8000000 in
set_option maxRecDepth 100000 in
theorem gongbook_Below.calls (a0 : Int) (a1 : Int) (r : Int) (w : World) (h : gongbook_Below.f a0 a1 = some r) :
  Calls Tryz.prog 12 #[.int .i64 a0, .int .i64 a1] w fun e w' => e = .returned (.int .i64 r) ∧ Drawn0 w w' := by
 have H : (if a1 = 0 then (none) else (some (Int.tmod (wrap64 ((Int.tmod a0 a1) + a1)) a1))) = some r := h
 clear h
 by_cases c3 : a1 = 0
 ·rw [if_pos c3] at H
  exact absurd H (by simp)
 rw [if_neg c3] at H
 have c3b0 : (a1 == 0) = false := beq_eq_false_iff_ne.mpr c3
 have c3b1 : (a1 != 0) = true := bne_iff_ne.mpr c3
 obtain rfl := Option.some.inj H
 go_enter Tryz.func12, Tryz.ntmps12
 go_wp2
 go_ret
 exact ⟨Zy75, Zy70⟩
end Go.Proofs.YtfmhghlmljlfgaaGreatDoor.XTrS
