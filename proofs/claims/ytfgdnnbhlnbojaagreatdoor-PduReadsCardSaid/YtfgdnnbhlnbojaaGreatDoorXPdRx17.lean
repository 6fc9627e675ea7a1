-- Laid by extprint.py (the session's own driver): functions told by the kit's printer and by hand.
import Derived.Test.YtfgdnnbhlnbojaaGreatDoorXPdRx0
import Derived.Test.YtfgdnnbhlnbojaaGreatDoorXPdRx16
namespace Go.Proofs.YtfgdnnbhlnbojaaGreatDoor.XPdR
open Go.RowKit Gong Go.Proofs.YtfgdnnbhlnbojaaGreatDoorW.PrintWords Go.Proofs.YtfgdnnbhlnbojaaGreatDoorW.PrintLast Go.Proofs.YtfgdnnbhlnbojaaGreatDoorW.PrintMore
attribute [local go_sem] max2_int min2_int max_two min_two max_three min_three max_four min_four   -- for this text's walks alone
set_option linter.unusedVariables false
set_option linter.unusedSimpArgs false
def gongref08_IsBinds.l0 : Nat → List (S30) → Int → Option (Bool)
 | 0, _, _ => none
 | k + 1, x0, x3 => if x3 < (x0.length : Int) then (if 0 ≤ x3 then ((gongref08_isBind.f k ((rd_T30 x0 x3).f0) ((rd_T30 x0 x3).f1.f0) ((rd_T30 x0 x3).f1.f1) ((rd_T30 x0 x3).f1.f2)).bind fun t298 => (if t298 = true then (gongref08_IsBinds.l0 k x0 (wrap64 (x3 + 1))) else (some false))) else (none)) else (some true)
def gongref08_IsBinds.f (k : Nat) (l0 : List (S30)) : Option (Bool) := if (l0.length : Int) > 4096 then (some false) else (gongref08_IsBinds.l0 k l0 0)
set_option maxHeartbeats 8000000 in
set_option maxRecDepth 100000 in
theorem gongref08_IsBinds.calls (k : Nat) (A0 : Option Addr) (c0 : Nat) (l0 : List (S30)) (r : Bool) (w : World) (hr0 : Kd.C k30 w A0 l0.length l0) (hc0 : l0.length ≤ c0) (h : gongref08_IsBinds.f k l0 = some r) :
  Calls Tryz.prog 30 #[.slice A0 l0.length c0] w fun e w' => e = .returned (.bool r) ∧ Below w.heap.size w w' := by
 have hu30 := Tryz.underlying30
 have HR0 := Aside0.mk hr0
 have HC0 := Aside0.mk hc0
 clear hr0 hc0
 have HB := Aside0.mk (Below.refl w.heap.size w)
 have H : (if (l0.length : Int) > 4096 then (some false) else (gongref08_IsBinds.l0 k l0 0)) = some r := h
 clear h
 by_cases c2 : (l0.length : Int) > 4096
 ·rw [if_pos c2] at H
  have c2b0 : decide (4096 < (l0.length : Int)) = true := decide_eq_true c2
  have c2b1 : decide (4096 < l0.length) = true := decide_eq_true (by omega)
  clear c2
  obtain rfl := Option.some.inj H
  go_enter Tryz.func30, Tryz.ntmps30
  go_wp2
  go_ret
  exact ⟨Zy41, Zy40⟩
 rw [if_neg c2] at H
 have c2b0 : decide (4096 < (l0.length : Int)) = false := decide_eq_false c2
 have c2b1 : decide (4096 < l0.length) = false := decide_eq_false (by omega)
 clear c2
 have H' := Aside0.mk H
 clear H
 go_enter Tryz.func30, Tryz.ntmps30
 go_wp2
 go_loopg [3] k (fun kq v3 w' => ∃ (x3_1 : Int), v3 = .int .i64 x3_1 ∧ Aside0 (gongref08_IsBinds.l0 kq l0 x3_1 = some r) ∧ Aside0 (kq ≤ k) ∧ Aside0 (Below w.heap.size w w'))
 case atStart => exact ⟨(0), Zq11, H', ⟨Nat.le_refl _⟩, ⟨Zy40⟩⟩
 case round =>
  clear H'
  (try clear c2); (try clear c2b0); (try clear c2b1); (try clear p2)
  obtain ⟨x3_1, rfl, HA, HK1, HB⟩ := hrel
  cases gk with
  | zero => exact absurd HA.out (by simp [gongref08_IsBinds.l0])
  | succ k1 =>
   have H := HA.out
   clear HA
   simp only [gongref08_IsBinds.l0] at H
   by_cases c3 : x3_1 < (l0.length : Int)
   ·rw [if_pos c3] at H
    have c3b0 : decide (x3_1 < (l0.length : Int)) = true := decide_eq_true c3
    clear c3
    by_cases c4 : 0 ≤ x3_1
    ·rw [if_pos c4] at H
     have c4b0 : decide (0 ≤ x3_1) = true := decide_eq_true c4
     clear c4
     replace H := Option.bind_eq_some_iff.mp H
     obtain ⟨t298, A50, H⟩ := H
     replace H : (if t298 = true then (gongref08_IsBinds.l0 k1 l0 (wrap64 (x3_1 + 1))) else (some false)) = some r := H
     have A5 := Aside0.mk A50
     clear A50
     by_cases c6 : t298 = true
     ·subst c6
      have H1 : (gongref08_IsBinds.l0 k1 l0 (wrap64 (x3_1 + 1))) = some r := by rw [if_pos rfl] at H; exact H
      clear H
      have H := H1
      clear H1
      have H' := Aside0.mk H
      clear H
      have p297 : 0 ≤ (x3_1 : Int) := of_decide_eq_true Zq1
      have q297 : x3_1 < (l0.length : Int) := of_decide_eq_true Zq1
      obtain ⟨ad297, e297, hx297_0, hx297_1, hx297_2, hx297_3⟩ := at_T30 HR0.out x3_1 p297 q297
      cases e297
      replace hx297_0 := (HB.out.cell (World.block_lt_of_cell? w _ hx297_0)).trans hx297_0
      replace hx297_1 := (HB.out.cell (World.block_lt_of_cell? w _ hx297_1)).trans hx297_1
      replace hx297_2 := (HB.out.cell (World.block_lt_of_cell? w _ hx297_2)).trans hx297_2
      replace hx297_3 := (HB.out.cell (World.block_lt_of_cell? w _ hx297_3)).trans hx297_3
      replace p297 := eq_true p297
      replace q297 := eq_true q297
      go_wp2_with (first | ((with_reducible refine gate_callee (f := 53) rfl ?_); refine goesL_ (some 17) rfl rfl Tryz.func53 (by kernel_rfl) rfl #[.agg #[.string ((rd_T30 l0 x3_1).f0), .int .i64 ((rd_T30 l0 x3_1).f1.f0), .int .i64 ((rd_T30 l0 x3_1).f1.f1), .string ((rd_T30 l0 x3_1).f1.f2)]] rfl Zq13 ?_; (with_reducible refine (gongref08_isBind.calls k1 ((rd_T30 l0 x3_1).f0) ((rd_T30 l0 x3_1).f1.f0) ((rd_T30 l0 x3_1).f1.f1) ((rd_T30 l0 x3_1).f1.f2) true _ A5.out).mono ?_); rintro e w7 ⟨rfl, hb⟩; refine ⟨_, rfl, ?_⟩; replace HB := Aside0.mk (below_step Zq12 hb); (try clear hb); (try clear hb2); (try clear hk); (try clear hi)))
      go_roundg k1
      case measure => have := HK1.out; omega
      case rel => exact ⟨(wrap64 (x3_1 + 1)), Zq11, H', ⟨by have := HK1.out; omega⟩, ⟨Zy40⟩⟩
     ·replace c6 := Bool.eq_false_iff.mpr c6
      subst c6
      have H1 : (some false) = some r := by rw [if_neg (show ¬ (false = true) by decide)] at H; exact H
      clear H
      have H := H1
      clear H1
      obtain rfl := Option.some.inj H
      have p297 : 0 ≤ (x3_1 : Int) := of_decide_eq_true Zq1
      have q297 : x3_1 < (l0.length : Int) := of_decide_eq_true Zq1
      obtain ⟨ad297, e297, hx297_0, hx297_1, hx297_2, hx297_3⟩ := at_T30 HR0.out x3_1 p297 q297
      cases e297
      replace hx297_0 := (HB.out.cell (World.block_lt_of_cell? w _ hx297_0)).trans hx297_0
      replace hx297_1 := (HB.out.cell (World.block_lt_of_cell? w _ hx297_1)).trans hx297_1
      replace hx297_2 := (HB.out.cell (World.block_lt_of_cell? w _ hx297_2)).trans hx297_2
      replace hx297_3 := (HB.out.cell (World.block_lt_of_cell? w _ hx297_3)).trans hx297_3
      replace p297 := eq_true p297
      replace q297 := eq_true q297
      go_wp2_with (first | ((with_reducible refine gate_callee (f := 53) rfl ?_); refine goesL_ (some 17) rfl rfl Tryz.func53 (by kernel_rfl) rfl #[.agg #[.string ((rd_T30 l0 x3_1).f0), .int .i64 ((rd_T30 l0 x3_1).f1.f0), .int .i64 ((rd_T30 l0 x3_1).f1.f1), .string ((rd_T30 l0 x3_1).f1.f2)]] rfl Zq13 ?_; (with_reducible refine (gongref08_isBind.calls k1 ((rd_T30 l0 x3_1).f0) ((rd_T30 l0 x3_1).f1.f0) ((rd_T30 l0 x3_1).f1.f1) ((rd_T30 l0 x3_1).f1.f2) false _ A5.out).mono ?_); rintro e w8 ⟨rfl, hb⟩; refine ⟨_, rfl, ?_⟩; replace HB := Aside0.mk (below_step Zq12 hb); (try clear hb); (try clear hb2); (try clear hk); (try clear hi)))
      go_ret
      exact ⟨Zy41, Zy40⟩
    ·rw [if_neg c4] at H
     exact absurd H (by simp)
   ·rw [if_neg c3] at H
    have c3b0 : decide (x3_1 < (l0.length : Int)) = false := decide_eq_false c3
    clear c3
    obtain rfl := Option.some.inj H
    go_wp2
    go_ret
    exact ⟨Zy41, Zy40⟩
def gongref08_Check.j0 : Nat → Bool → Int → Int → Int → Int → List (S30) → Option (Int)
 | 0, _, _, _, _, _, _ => none
 | k + 1, x15, x300000, x300001, x300002, x300003, x300004 => if x15 = true then (some 80) else (if x300001 < (-2147483648) then (some 80) else (if x300001 > 2147483647 then (some 80) else (if x300002 < 0 then (some 80) else (if x300002 > 2147483647 then (some 80) else (if x300003 < 0 then (some 80) else (if x300003 > 2147483647 then (some 80) else ((gongref08_IsBinds.f k x300004).bind fun t300 => (if t300 = true then (some 0) else (some 80)))))))))
def gongref08_Check.f (k : Nat) (a0_0 : Int) (a0_1 : Int) (a0_2 : Int) (a0_3 : Int) (l0_4 : List (S30)) : Option (Int) := if a0_0 = 162 then (gongref08_Check.j0 k false a0_0 a0_1 a0_2 a0_3 l0_4) else (if a0_0 = 166 then (gongref08_Check.j0 k false a0_0 a0_1 a0_2 a0_3 l0_4) else (gongref08_Check.j0 k (a0_0 != 167) a0_0 a0_1 a0_2 a0_3 l0_4))
set_option maxHeartbeats 8000000 in
set_option maxRecDepth 100000 in
theorem gongref08_Check.calls (k : Nat) (a0_0 : Int) (a0_1 : Int) (a0_2 : Int) (a0_3 : Int) (A0_4 : Option Addr) (c0_4 : Nat) (l0_4 : List (S30)) (r : Int) (w : World) (hr0_4 : Kd.C k30 w A0_4 l0_4.length l0_4) (hc0_4 : l0_4.length ≤ c0_4) (h : gongref08_Check.f k a0_0 a0_1 a0_2 a0_3 l0_4 = some r) :
  Calls Tryz.prog 14 #[.agg #[.int .i64 a0_0, .int .i64 a0_1, .int .i64 a0_2, .int .i64 a0_3, .slice A0_4 l0_4.length c0_4]] w fun e w' => e = .returned (.int .i64 r) ∧ Below w.heap.size w w' := by
 have hu35 := Tryz.underlying35
 have HR0_4 := Aside0.mk hr0_4
 have HC0_4 := Aside0.mk hc0_4
 clear hr0_4 hc0_4
 have HB := Aside0.mk (Below.refl w.heap.size w)
 have H : (if a0_0 = 162 then (gongref08_Check.j0 k false a0_0 a0_1 a0_2 a0_3 l0_4) else (if a0_0 = 166 then (gongref08_Check.j0 k false a0_0 a0_1 a0_2 a0_3 l0_4) else (gongref08_Check.j0 k (a0_0 != 167) a0_0 a0_1 a0_2 a0_3 l0_4))) = some r := h
 clear h
 have HC2 := Aside0.mk H
 clear H
 go_enter Tryz.func14, Tryz.ntmps14
 go_upto_region 1 with (first | ((with_reducible refine gate_dst (N := 1) rfl ?_); refine box_event ?hg (N := 1) ?hd (cs := #[.int .i64 a0_0, .int .i64 a0_1, .int .i64 a0_2, .int .i64 a0_3, .slice A0_4 l0_4.length c0_4]) (t := 35) ?hr ?_; (case hd => rfl); (case hg => rfl); (case hr => exact Zq2); intro gb299 hg w3 hbox hb; have BK299 := Aside0.mk (hbox); have GW299 := Aside0.mk ((by rw [hg]; exact (below_size Zq12) : w.heap.size ≤ gb299)); have GE299 := Aside0.mk ((by rw [hg]; exact (below_size Zq12) : w.heap.size ≤ gb299)); replace HB := Aside0.mk (below_step Zq12 hb); clear hb hbox hg))
 (try simp only [Act.put, List.setIfInBounds_toArray, List.set_cons_zero, List.set_cons_succ])
 go_cut [15] (fun v15 wc => ∃ (kq : Nat) (x15_1 : Bool), v15 = .bool x15_1 ∧ Aside0 (gongref08_Check.j0 kq x15_1 a0_0 a0_1 a0_2 a0_3 l0_4 = some r) ∧ Aside0 (kq ≤ k) ∧ Aside0 (wc.heap[gb299]? = some (.cells #[.int .i64 a0_0, .int .i64 a0_1, .int .i64 a0_2, .int .i64 a0_3, (.slice A0_4 l0_4.length c0_4)] 35 (0, 0))) ∧ Aside0 (Below w.heap.size w wc))
 case first =>
  have H := HC2.out
  clear HC2
  by_cases c4 : a0_0 = 162
  ·rw [if_pos c4] at H
   have c4b0 : (a0_0 == 162) = true := beq_iff_eq.mpr c4
   have c4b1 : (a0_0 != 162) = false := bne_eq_false_iff_eq.mpr c4
   clear c4
   (first | rw [c4b0] | (simp only [i64_w, i32_w]; rw [c4b0]) | skip)
   have H' := Aside0.mk H
   clear H
   obtain ⟨hcz5_0, hcz5_1, hcz5_2, hcz5_3, hcz5_4⟩ := cells5_ BK299.out
   obtain ⟨hfz5_0, hfz5_1, hfz5_2, hfz5_3, hfz5_4⟩ := frozen5_ BK299.out
   go_wp2
   go_meet
   case rel => exact ⟨_, (false), Zq11, H', ⟨Zy61⟩, ⟨Zy45⟩, ⟨Zy24⟩⟩
  ·rw [if_neg c4] at H
   have c4b0 : (a0_0 == 162) = false := beq_eq_false_iff_ne.mpr c4
   have c4b1 : (a0_0 != 162) = true := bne_iff_ne.mpr c4
   (first | rw [c4b0] | (simp only [i64_w, i32_w]; rw [c4b0]) | skip)
   by_cases c6 : a0_0 = 166
   ·rw [if_pos c6] at H
    have c6b0 : (a0_0 == 166) = true := beq_iff_eq.mpr c6
    have c6b1 : (a0_0 != 166) = false := bne_eq_false_iff_eq.mpr c6
    clear c6
    have H' := Aside0.mk H
    clear H
    obtain ⟨hcz7_0, hcz7_1, hcz7_2, hcz7_3, hcz7_4⟩ := cells5_ BK299.out
    obtain ⟨hfz7_0, hfz7_1, hfz7_2, hfz7_3, hfz7_4⟩ := frozen5_ BK299.out
    go_wp2
    go_meet
    case rel => exact ⟨_, (false), Zq11, H', ⟨Zy61⟩, ⟨Zy45⟩, ⟨Zy24⟩⟩
   ·rw [if_neg c6] at H
    have c6b0 : (a0_0 == 166) = false := beq_eq_false_iff_ne.mpr c6
    have c6b1 : (a0_0 != 166) = true := bne_iff_ne.mpr c6
    have H' := Aside0.mk H
    clear H
    obtain ⟨hcz8_0, hcz8_1, hcz8_2, hcz8_3, hcz8_4⟩ := cells5_ BK299.out
    obtain ⟨hfz8_0, hfz8_1, hfz8_2, hfz8_3, hfz8_4⟩ := frozen5_ BK299.out
    go_wp2
    go_meet
    case rel => exact ⟨_, ((a0_0 != 167)), Zq11, H', ⟨Zy61⟩, ⟨Zy45⟩, ⟨Zy24⟩⟩
 case rest =>
  clear HC2
  (try clear c1); (try clear p2); (try clear c4); (try clear c4b0); (try clear c4b1); (try clear c6); (try clear c6b0); (try clear c6b1); (try clear hcz5_0); (try clear hcz5_1); (try clear hcz5_2); (try clear hcz5_3); (try clear hcz5_4); (try clear hcz7_0); (try clear hcz7_1); (try clear hcz7_2); (try clear hcz7_3); (try clear hcz7_4); (try clear hcz8_0); (try clear hcz8_1); (try clear hcz8_2); (try clear hcz8_3); (try clear hcz8_4); (try clear hfz5_0); (try clear hfz5_1); (try clear hfz5_2); (try clear hfz5_3); (try clear hfz5_4); (try clear hfz7_0); (try clear hfz7_1); (try clear hfz7_2); (try clear hfz7_3); (try clear hfz7_4); (try clear hfz8_0); (try clear hfz8_1); (try clear hfz8_2); (try clear hfz8_3); (try clear hfz8_4)
  obtain ⟨kq, x15_1, rfl, HA, HJ1, BK299, HB⟩ := hcut
  cases kq with
  | zero => exact absurd HA.out (by simp [gongref08_Check.j0])
  | succ kj1 =>
   have H := HA.out
   clear HA
   simp only [gongref08_Check.j0] at H
   by_cases c9 : x15_1 = true
   ·subst c9
    have H1 : (some 80) = some r := by rw [if_pos rfl] at H; exact H
    clear H
    have H := H1
    clear H1
    obtain rfl := Option.some.inj H
    go_wp2
    go_ret
    exact ⟨Zy41, Zy24⟩
   ·replace c9 := Bool.eq_false_iff.mpr c9
    subst c9
    have H1 : (if a0_1 < (-2147483648) then (some 80) else (if a0_1 > 2147483647 then (some 80) else (if a0_2 < 0 then (some 80) else (if a0_2 > 2147483647 then (some 80) else (if a0_3 < 0 then (some 80) else (if a0_3 > 2147483647 then (some 80) else ((gongref08_IsBinds.f kj1 l0_4).bind fun t300 => (if t300 = true then (some 0) else (some 80))))))))) = some r := by rw [if_neg (show ¬ (false = true) by decide)] at H; exact H
    clear H
    have H := H1
    clear H1
    by_cases c10 : a0_1 < (-2147483648)
    ·rw [if_pos c10] at H
     have c10b0 : decide (a0_1 < (-2147483648)) = true := decide_eq_true c10
     clear c10
     obtain rfl := Option.some.inj H
     obtain ⟨hcz11_0, hcz11_1, hcz11_2, hcz11_3, hcz11_4⟩ := cells5_ BK299.out
     obtain ⟨hfz11_0, hfz11_1, hfz11_2, hfz11_3, hfz11_4⟩ := frozen5_ BK299.out
     go_wp2
     go_ret
     exact ⟨Zy41, Zy24⟩
    ·rw [if_neg c10] at H
     have c10b0 : decide (a0_1 < (-2147483648)) = false := decide_eq_false c10
     clear c10
     by_cases c12 : a0_1 > 2147483647
     ·rw [if_pos c12] at H
      have c12b0 : decide (2147483647 < a0_1) = true := decide_eq_true c12
      clear c12
      obtain rfl := Option.some.inj H
      obtain ⟨hcz13_0, hcz13_1, hcz13_2, hcz13_3, hcz13_4⟩ := cells5_ BK299.out
      obtain ⟨hfz13_0, hfz13_1, hfz13_2, hfz13_3, hfz13_4⟩ := frozen5_ BK299.out
      go_wp2
      go_ret
      exact ⟨Zy41, Zy24⟩
     ·rw [if_neg c12] at H
      have c12b0 : decide (2147483647 < a0_1) = false := decide_eq_false c12
      clear c12
      by_cases c14 : a0_2 < 0
      ·rw [if_pos c14] at H
       have c14b0 : decide (a0_2 < 0) = true := decide_eq_true c14
       clear c14
       obtain rfl := Option.some.inj H
       obtain ⟨hcz15_0, hcz15_1, hcz15_2, hcz15_3, hcz15_4⟩ := cells5_ BK299.out
       obtain ⟨hfz15_0, hfz15_1, hfz15_2, hfz15_3, hfz15_4⟩ := frozen5_ BK299.out
       go_wp2
       go_ret
       exact ⟨Zy41, Zy24⟩
      ·rw [if_neg c14] at H
       have c14b0 : decide (a0_2 < 0) = false := decide_eq_false c14
       clear c14
       by_cases c16 : a0_2 > 2147483647
       ·rw [if_pos c16] at H
        have c16b0 : decide (2147483647 < a0_2) = true := decide_eq_true c16
        clear c16
        obtain rfl := Option.some.inj H
        obtain ⟨hcz17_0, hcz17_1, hcz17_2, hcz17_3, hcz17_4⟩ := cells5_ BK299.out
        obtain ⟨hfz17_0, hfz17_1, hfz17_2, hfz17_3, hfz17_4⟩ := frozen5_ BK299.out
        go_wp2
        go_ret
        exact ⟨Zy41, Zy24⟩
       ·rw [if_neg c16] at H
        have c16b0 : decide (2147483647 < a0_2) = false := decide_eq_false c16
        clear c16
        by_cases c18 : a0_3 < 0
        ·rw [if_pos c18] at H
         have c18b0 : decide (a0_3 < 0) = true := decide_eq_true c18
         clear c18
         obtain rfl := Option.some.inj H
         obtain ⟨hcz19_0, hcz19_1, hcz19_2, hcz19_3, hcz19_4⟩ := cells5_ BK299.out
         obtain ⟨hfz19_0, hfz19_1, hfz19_2, hfz19_3, hfz19_4⟩ := frozen5_ BK299.out
         go_wp2
         go_ret
         exact ⟨Zy41, Zy24⟩
        ·rw [if_neg c18] at H
         have c18b0 : decide (a0_3 < 0) = false := decide_eq_false c18
         clear c18
         by_cases c20 : a0_3 > 2147483647
         ·rw [if_pos c20] at H
          have c20b0 : decide (2147483647 < a0_3) = true := decide_eq_true c20
          clear c20
          obtain rfl := Option.some.inj H
          obtain ⟨hcz21_0, hcz21_1, hcz21_2, hcz21_3, hcz21_4⟩ := cells5_ BK299.out
          obtain ⟨hfz21_0, hfz21_1, hfz21_2, hfz21_3, hfz21_4⟩ := frozen5_ BK299.out
          go_wp2
          go_ret
          exact ⟨Zy41, Zy24⟩
         ·rw [if_neg c20] at H
          have c20b0 : decide (2147483647 < a0_3) = false := decide_eq_false c20
          clear c20
          replace H := Option.bind_eq_some_iff.mp H
          obtain ⟨t300, A220, H⟩ := H
          replace H : (if t300 = true then (some 0) else (some 80)) = some r := H
          have A22 := Aside0.mk A220
          clear A220
          by_cases c23 : t300 = true
          ·subst c23
           have H1 : (some 0) = some r := by rw [if_pos rfl] at H; exact H
           clear H
           have H := H1
           clear H1
           obtain rfl := Option.some.inj H
           obtain ⟨hcz24_0, hcz24_1, hcz24_2, hcz24_3, hcz24_4⟩ := cells5_ BK299.out
           obtain ⟨hfz24_0, hfz24_1, hfz24_2, hfz24_3, hfz24_4⟩ := frozen5_ BK299.out
           go_wp2_with (first | (go_at_call 30; (with_reducible refine (gongref08_IsBinds.calls kj1 _ _ l0_4 true _ ?side1 ?side2 A22.out).mono ?_); (case side1 => exact Zq32); (case side2 => exact HC0_4.out); rintro e w25 ⟨rfl, hb⟩; replace BK299 := Aside0.mk (blkb_ BK299.out Zq31 hb); replace HB := Aside0.mk (below_step Zy24 hb); (try clear hb); (try clear hb2); (try clear hk); (try clear hi)))
           go_ret
           exact ⟨Zy41, Zy24⟩
          ·replace c23 := Bool.eq_false_iff.mpr c23
           subst c23
           have H1 : (some 80) = some r := by rw [if_neg (show ¬ (false = true) by decide)] at H; exact H
           clear H
           have H := H1
           clear H1
           obtain rfl := Option.some.inj H
           obtain ⟨hcz26_0, hcz26_1, hcz26_2, hcz26_3, hcz26_4⟩ := cells5_ BK299.out
           obtain ⟨hfz26_0, hfz26_1, hfz26_2, hfz26_3, hfz26_4⟩ := frozen5_ BK299.out
           go_wp2_with (first | (go_at_call 30; (with_reducible refine (gongref08_IsBinds.calls kj1 _ _ l0_4 false _ ?side1 ?side2 A22.out).mono ?_); (case side1 => exact Zq32); (case side2 => exact HC0_4.out); rintro e w27 ⟨rfl, hb⟩; replace BK299 := Aside0.mk (blkb_ BK299.out Zq31 hb); replace HB := Aside0.mk (below_step Zy24 hb); (try clear hb); (try clear hb2); (try clear hk); (try clear hi)))
           go_ret
           exact ⟨Zy41, Zy24⟩
def gongref05_IsTag.f (a0 : Int) : Option (Bool) := if a0 ≥ 0 then (if a0 ≤ 255 then (some ((Int.tmod a0 32) != 31)) else (some false)) else (some false)
set_option maxHeartbeats 8000000 in
set_option maxRecDepth 100000 in
theorem gongref05_IsTag.calls (a0 : Int) (r : Bool) (w : World) (h : gongref05_IsTag.f a0 = some r) :
  Calls Tryz.prog 86 #[.int .i64 a0] w fun e w' => e = .returned (.bool r) ∧ Drawn0 w w' := by
 have H : (if a0 ≥ 0 then (if a0 ≤ 255 then (some ((Int.tmod a0 32) != 31)) else (some false)) else (some false)) = some r := h
 clear h
 by_cases c2 : a0 ≥ 0
 rotate_left
 ·rw [if_neg c2] at H
  have c2b0 : decide (0 ≤ a0) = false := decide_eq_false c2
  clear c2
  obtain rfl := Option.some.inj H
  go_enter Tryz.func86, Tryz.ntmps86
  go_wp2
  go_ret
  exact ⟨Zy59, Zy56⟩
 rw [if_pos c2] at H
 have c2b0 : decide (0 ≤ a0) = true := decide_eq_true c2
 clear c2
 by_cases c3 : a0 ≤ 255
 ·rw [if_pos c3] at H
  have c3b0 : decide (a0 ≤ 255) = true := decide_eq_true c3
  clear c3
  obtain rfl := Option.some.inj H
  go_enter Tryz.func86, Tryz.ntmps86
  go_wp2
  go_ret
  exact ⟨Zy59, Zy56⟩
 rw [if_neg c3] at H
 have c3b0 : decide (a0 ≤ 255) = false := decide_eq_false c3
 clear c3
 obtain rfl := Option.some.inj H
 go_enter Tryz.func86, Tryz.ntmps86
 go_wp2
 go_ret
 exact ⟨Zy59, Zy56⟩
mutual
def gongref05_length.j0 : Nat → ByteArray → Int → Bool → Option (Int × Int × Bool)
 | 0, _, _, _ => none
 | k + 1, x0, x5, x32 => if x32 = true then (some (0, 0, false)) else (gongref05_length.l0 k x0 x5 0 1)
def gongref05_length.l0 : Nat → ByteArray → Int → Int → Int → Option (Int × Int × Bool)
 | 0, _, _, _, _ => none
 | k + 1, x0, x5, x6, x7 => if x7 ≤ x5 then (if 0 ≤ x7 then (if x7 < (x0.size : Int) then (gongref05_length.l0 k x0 x5 (wrap64 ((wrap64 (x6 * 256)) + (wrap64 (bt x0 x7)))) (wrap64 (x7 + 1))) else (none)) else (none)) else (some (x6, wrap64 (1 + x5), true))
end
def gongref05_length.f (k : Nat) (a0 : ByteArray) : Option (Int × Int × Bool) := if a0.toList = ([] : List UInt8) then (some (0, 0, false)) else (if 0 < (a0.size : Int) then (if (bt a0 0) < 128 then (some (wrap64 (bt a0 0), 1, true)) else (if (wrap64 ((wrap64 (bt a0 0)) - 128)) < 1 then (gongref05_length.j0 k a0 (wrap64 ((wrap64 (bt a0 0)) - 128)) true) else (if (wrap64 ((wrap64 (bt a0 0)) - 128)) > 4 then (gongref05_length.j0 k a0 (wrap64 ((wrap64 (bt a0 0)) - 128)) true) else (gongref05_length.j0 k a0 (wrap64 ((wrap64 (bt a0 0)) - 128)) (decide ((a0.size : Int) < (wrap64 (1 + (wrap64 ((wrap64 (bt a0 0)) - 128)))))))))) else (none))
theorem gongref05_length.mono_l : ∀ k, (∀ y0 y1 y2, LeO (gongref05_length.j0 k y0 y1 y2) (gongref05_length.j0 (k + 1) y0 y1 y2)) ∧ (∀ y0 y1 y2 y3, LeO (gongref05_length.l0 k y0 y1 y2 y3) (gongref05_length.l0 (k + 1) y0 y1 y2 y3))
 | 0 => ⟨fun _ _ _ r h => by simp [gongref05_length.j0] at h, fun _ _ _ _ r h => by simp [gongref05_length.l0] at h⟩
 | k + 1 => by
  obtain ⟨ih0, ih1⟩ := gongref05_length.mono_l k
  refine ⟨?_, ?_⟩
  ·intro y0 y1 y2
   unfold gongref05_length.j0
   repeat' first
   | (with_reducible exact ih0 _ _ _)
   | (with_reducible exact ih1 _ _ _ _)
   | (with_reducible exact LeO.refl _)
   | (with_reducible exact LeO.none _)
   | (with_reducible refine LeO.ite ?_ ?_)
   | (with_reducible refine LeO.bind ?_ (fun _ => ?_))
   | exact ih0 _ _ _
   | exact ih1 _ _ _ _
   | exact LeO.none _
   | refine LeO.ite ?_ ?_
   | refine LeO.bind ?_ (fun _ => ?_)
  ·intro y0 y1 y2 y3
   unfold gongref05_length.l0
   repeat' first
   | (with_reducible exact ih0 _ _ _)
   | (with_reducible exact ih1 _ _ _ _)
   | (with_reducible exact LeO.refl _)
   | (with_reducible exact LeO.none _)
   | (with_reducible refine LeO.ite ?_ ?_)
   | (with_reducible refine LeO.bind ?_ (fun _ => ?_))
   | exact ih0 _ _ _
   | exact ih1 _ _ _ _
   | exact LeO.none _
   | refine LeO.ite ?_ ?_
   | refine LeO.bind ?_ (fun _ => ?_)
theorem gongref05_length.mono : ∀ a0 k, LeO (gongref05_length.f k a0) (gongref05_length.f (k + 1) a0) := by
 intro a0 k
 obtain ⟨ih0, ih1⟩ := gongref05_length.mono_l k
 unfold gongref05_length.f
 repeat' first
   | (with_reducible exact ih0 _ _ _)
   | (with_reducible exact ih1 _ _ _ _)
   | (with_reducible exact LeO.refl _)
   | (with_reducible exact LeO.none _)
   | (with_reducible refine LeO.ite ?_ ?_)
   | (with_reducible refine LeO.bind ?_ (fun _ => ?_))
   | exact ih0 _ _ _
   | exact ih1 _ _ _ _
   | exact LeO.none _
   | refine LeO.ite ?_ ?_
   | refine LeO.bind ?_ (fun _ => ?_)
set_option maxHeartbeats 8000000 in
set_option maxRecDepth 100000 in
theorem gongref05_length.calls (k : Nat) (a0 : ByteArray) (r1 : Int) (r2 : Int) (r3 : Bool) (w : World) (h : gongref05_length.f k a0 = some (r1, r2, r3)) :
  Calls Tryz.prog 87 #[.string a0] w fun e w' => e = .returned (.tuple #[.int .i64 r1, .int .i64 r2, .bool r3]) ∧ Drawn0 w w' := by
 have H : (if a0.toList = ([] : List UInt8) then (some (0, 0, false)) else (if 0 < (a0.size : Int) then (if (bt a0 0) < 128 then (some (wrap64 (bt a0 0), 1, true)) else (if (wrap64 ((wrap64 (bt a0 0)) - 128)) < 1 then (gongref05_length.j0 k a0 (wrap64 ((wrap64 (bt a0 0)) - 128)) true) else (if (wrap64 ((wrap64 (bt a0 0)) - 128)) > 4 then (gongref05_length.j0 k a0 (wrap64 ((wrap64 (bt a0 0)) - 128)) true) else (gongref05_length.j0 k a0 (wrap64 ((wrap64 (bt a0 0)) - 128)) (decide ((a0.size : Int) < (wrap64 (1 + (wrap64 ((wrap64 (bt a0 0)) - 128)))))))))) else (none))) = some (r1, r2, r3) := h
 clear h
 by_cases c2 : a0.toList = ([] : List UInt8)
 ·rw [if_pos c2] at H
  have c2b0 : (a0.toList == ([] : List UInt8)) = true := beq_iff_eq.mpr c2
  have c2b1 : (a0.toList != ([] : List UInt8)) = false := bne_eq_false_iff_eq.mpr c2
  clear c2
  simp only [Option.some.injEq, Prod.mk.injEq] at H
  obtain ⟨rfl, rfl, rfl⟩ := H
  go_enter Tryz.func87, Tryz.ntmps87
  go_wp2
  go_ret3
  exact ⟨Zy59, Zy56⟩
 rw [if_neg c2] at H
 have c2b0 : (a0.toList == ([] : List UInt8)) = false := beq_eq_false_iff_ne.mpr c2
 have c2b1 : (a0.toList != ([] : List UInt8)) = true := bne_iff_ne.mpr c2
 by_cases c3 : 0 < (a0.size : Int)
 rotate_left
 ·rw [if_neg c3] at H
  exact absurd H (by simp)
 rw [if_pos c3] at H
 have c3b0 : decide (0 < (a0.size : Int)) = true := decide_eq_true c3
 have c3b1 : decide (0 < a0.size) = true := decide_eq_true (by omega)
 clear c3
 by_cases c5 : (bt a0 0) < 128
 ·rw [if_pos c5] at H
  have c5b0 : decide ((bt a0 0) < 128) = true := decide_eq_true c5
  clear c5
  simp only [Option.some.injEq, Prod.mk.injEq] at H
  obtain ⟨rfl, rfl, rfl⟩ := H
  have p4 : 0 ≤ (0 : Int) := (by omega)
  have q4 : 0 < a0.size := (by have : (0 : Int) < (a0.size : Int) := of_decide_eq_true Zq1; omega)
  have hx4 : ∀ h : 0 < a0.size, ((a0[0]'h).toNat : Int) = bt a0 0 := bt_at a0 0
  clear p4
  have qi4 : (0 < (a0.size : Int)) = True := eq_true (of_decide_eq_true Zq1)
  replace q4 := eq_true q4
  have p6 : 0 ≤ (0 : Int) := (by omega)
  have q6 : 0 < a0.size := (by have : (0 : Int) < (a0.size : Int) := of_decide_eq_true Zq1; omega)
  have hx6 : ∀ h : 0 < a0.size, ((a0[0]'h).toNat : Int) = bt a0 0 := bt_at a0 0
  clear p6
  have qi6 : (0 < (a0.size : Int)) = True := eq_true (of_decide_eq_true Zq1)
  replace q6 := eq_true q6
  go_enter Tryz.func87, Tryz.ntmps87
  go_wp2
  go_ret3
  exact ⟨Zy59, Zy56⟩
 rw [if_neg c5] at H
 have c5b0 : decide ((bt a0 0) < 128) = false := decide_eq_false c5
 clear c5
 have HC8 := Aside0.mk H
 clear H
 have p4 : 0 ≤ (0 : Int) := (by omega)
 have q4 : 0 < a0.size := (by have : (0 : Int) < (a0.size : Int) := of_decide_eq_true Zq1; omega)
 have hx4 : ∀ h : 0 < a0.size, ((a0[0]'h).toNat : Int) = bt a0 0 := bt_at a0 0
 clear p4
 have qi4 : (0 < (a0.size : Int)) = True := eq_true (of_decide_eq_true Zq1)
 replace q4 := eq_true q4
 have p7 : 0 ≤ (0 : Int) := (by omega)
 have q7 : 0 < a0.size := (by have : (0 : Int) < (a0.size : Int) := of_decide_eq_true Zq1; omega)
 have hx7 : ∀ h : 0 < a0.size, ((a0[0]'h).toNat : Int) = bt a0 0 := bt_at a0 0
 clear p7
 have qi7 : (0 < (a0.size : Int)) = True := eq_true (of_decide_eq_true Zq1)
 replace q7 := eq_true q7
 go_enter Tryz.func87, Tryz.ntmps87
 go_upto_region 6 with (fail)
 go_cut [32] (fun v32 wc => ∃ (kq : Nat) (x32_7 : Bool), v32 = .bool x32_7 ∧ Aside0 (gongref05_length.j0 kq a0 (wrap64 ((wrap64 (bt a0 0)) - 128)) x32_7 = some (r1, r2, r3)) ∧ Aside0 (kq ≤ k) ∧ Drawn0 w wc)
 case first =>
  have H := HC8.out
  clear HC8
  by_cases c9 : (wrap64 ((wrap64 (bt a0 0)) - 128)) < 1
  ·rw [if_pos c9] at H
   have c9b0 : decide ((wrap64 ((wrap64 (bt a0 0)) - 128)) < 1) = true := decide_eq_true c9
   clear c9
   (first | rw [c9b0] | (simp only [i64_w, i32_w]; rw [c9b0]) | skip)
   have H' := Aside0.mk H
   clear H
   go_wp2
   go_meet
   case rel => exact ⟨_, (true), Zq11, H', ⟨Zy61⟩, Zy56⟩
  ·rw [if_neg c9] at H
   have c9b0 : decide ((wrap64 ((wrap64 (bt a0 0)) - 128)) < 1) = false := decide_eq_false c9
   clear c9
   (first | rw [c9b0] | (simp only [i64_w, i32_w]; rw [c9b0]) | skip)
   by_cases c10 : (wrap64 ((wrap64 (bt a0 0)) - 128)) > 4
   ·rw [if_pos c10] at H
    have c10b0 : decide (4 < (wrap64 ((wrap64 (bt a0 0)) - 128))) = true := decide_eq_true c10
    clear c10
    have H' := Aside0.mk H
    clear H
    go_wp2
    go_meet
    case rel => exact ⟨_, (true), Zq11, H', ⟨Zy61⟩, Zy56⟩
   ·rw [if_neg c10] at H
    have c10b0 : decide (4 < (wrap64 ((wrap64 (bt a0 0)) - 128))) = false := decide_eq_false c10
    clear c10
    have H' := Aside0.mk H
    clear H
    go_wp2
    go_meet
    case rel => exact ⟨_, (decide ((a0.size : Int) < (wrap64 (1 + (wrap64 ((wrap64 (bt a0 0)) - 128)))))), Zq11, H', ⟨Zy61⟩, Zy56⟩
 case rest =>
  clear HC8
  (try clear c1); (try clear c2); (try clear c2b0); (try clear c2b1); (try clear p2); (try clear c3); (try clear c3b0); (try clear c3b1); (try clear p4); (try clear q4); (try clear hx4); (try clear qi4); (try clear c5); (try clear c5b0); (try clear p6); (try clear q6); (try clear hx6); (try clear qi6); (try clear p7); (try clear q7); (try clear hx7); (try clear qi7); (try clear c8); (try clear c9); (try clear c9b0); (try clear c10); (try clear c10b0)
  obtain ⟨kq, x32_7, rfl, HA, HJ7, ⟨mc7, rfl⟩⟩ := hcut
  cases kq with
  | zero => exact absurd HA.out (by simp [gongref05_length.j0])
  | succ kj7 =>
   have H := HA.out
   clear HA
   simp only [gongref05_length.j0] at H
   by_cases c11 : x32_7 = true
   ·subst c11
    have H1 : (some (0, 0, false)) = some (r1, r2, r3) := by rw [if_pos rfl] at H; exact H
    clear H
    have H := H1
    clear H1
    simp only [Option.some.injEq, Prod.mk.injEq] at H
    obtain ⟨rfl, rfl, rfl⟩ := H
    go_wp2
    go_ret3
    exact ⟨Zy59, Zy56⟩
   ·replace c11 := Bool.eq_false_iff.mpr c11
    subst c11
    have H1 : (gongref05_length.l0 kj7 a0 (wrap64 ((wrap64 (bt a0 0)) - 128)) 0 1) = some (r1, r2, r3) := by rw [if_neg (show ¬ (false = true) by decide)] at H; exact H
    clear H
    have H := H1
    clear H1
    have H' := Aside0.mk H
    clear H
    go_wp2
    go_loopg [6, 7] kj7 (fun kq v6 v7 w' => ∃ (x6_2 : Int) (x7_2 : Int), v6 = .int .i64 x6_2 ∧ v7 = .int .i64 x7_2 ∧ Aside0 (gongref05_length.l0 kq a0 (wrap64 ((wrap64 (bt a0 0)) - 128)) x6_2 x7_2 = some (r1, r2, r3)) ∧ Aside0 (kq ≤ kj7) ∧ Drawn0 w w')
    case atStart => exact ⟨(0), (1), Zq11, Zq11, H', ⟨Nat.le_refl _⟩, Zy56⟩
    case round =>
     clear H'
     (try clear c1); (try clear c2); (try clear c2b0); (try clear c2b1); (try clear p2); (try clear c3); (try clear c3b0); (try clear c3b1); (try clear p4); (try clear q4); (try clear hx4); (try clear qi4); (try clear c5); (try clear c5b0); (try clear p6); (try clear q6); (try clear hx6); (try clear qi6); (try clear c7); (try clear p7); (try clear q7); (try clear hx7); (try clear qi7); (try clear c8); (try clear c9); (try clear c9b0); (try clear c10); (try clear c10b0); (try clear c11)
     obtain ⟨x6_2, x7_2, rfl, rfl, HA, HK2, ⟨m2, rfl⟩⟩ := hrel
     cases gk with
     | zero => exact absurd HA.out (by simp [gongref05_length.l0])
     | succ k2 =>
      have H := HA.out
      clear HA
      simp only [gongref05_length.l0] at H
      by_cases c12 : x7_2 ≤ (wrap64 ((wrap64 (bt a0 0)) - 128))
      ·rw [if_pos c12] at H
       have c12b0 : decide (x7_2 ≤ (wrap64 ((wrap64 (bt a0 0)) - 128))) = true := decide_eq_true c12
       clear c12
       by_cases c13 : 0 ≤ x7_2
       ·rw [if_pos c13] at H
        have c13b0 : decide (0 ≤ x7_2) = true := decide_eq_true c13
        clear c13
        by_cases c14 : x7_2 < (a0.size : Int)
        ·rw [if_pos c14] at H
         have c14b0 : decide (x7_2 < (a0.size : Int)) = true := decide_eq_true c14
         clear c14
         have H' := Aside0.mk H
         clear H
         have p15 : 0 ≤ (x7_2 : Int) := of_decide_eq_true Zq1
         have q15 : x7_2 < (a0.size : Int) := of_decide_eq_true Zq1
         have hx15 := bt_at a0 x7_2
         replace p15 := eq_true p15
         replace q15 := eq_true q15
         go_wp2
         go_roundg k2
         case measure => have := HJ7.out; have := HK2.out; omega
         case rel => exact ⟨(wrap64 ((wrap64 (x6_2 * 256)) + (wrap64 (bt a0 x7_2)))), (wrap64 (x7_2 + 1)), Zq11, Zq11, H', ⟨by have := HJ7.out; have := HK2.out; omega⟩, Zy56⟩
        ·rw [if_neg c14] at H
         exact absurd H (by simp)
       ·rw [if_neg c13] at H
        exact absurd H (by simp)
      ·rw [if_neg c12] at H
       have c12b0 : decide (x7_2 ≤ (wrap64 ((wrap64 (bt a0 0)) - 128))) = false := decide_eq_false c12
       clear c12
       simp only [Option.some.injEq, Prod.mk.injEq] at H
       obtain ⟨rfl, rfl, rfl⟩ := H
       go_wp2
       go_ret3
       exact ⟨Zy59, Zy56⟩
end Go.Proofs.YtfgdnnbhlnbojaaGreatDoor.XPdR
