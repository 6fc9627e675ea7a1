-- Laid by extprint.py (the session's own driver): functions told by the kit's printer and by hand.
import Derived.Test.YtfmhghlmljlfgaaGreatDoorXTrSx0
import Derived.Test.YtfmhghlmljlfgaaGreatDoorXTrSx5
import Derived.Test.YtfmhghlmljlfgaaGreatDoorXTrSx7
import Derived.Test.YtfmhghlmljlfgaaGreatDoorXTrSx10
import Derived.Test.YtfmhghlmljlfgaaGreatDoorXTrSx11
import Derived.Test.YtfmhghlmljlfgaaGreatDoorXTrSx15
import Derived.Test.YtfmhghlmljlfgaaGreatDoorXTrSx19
namespace Go.Proofs.YtfmhghlmljlfgaaGreatDoor.XTrS
open Go.RowKit Gong Go.Proofs.YtfmhghlmljlfgaaGreatDoorW.PrintWords Go.Proofs.YtfmhghlmljlfgaaGreatDoorW.PrintLast Go.Proofs.YtfmhghlmljlfgaaGreatDoorW.PrintMore
attribute [local go_sem] max2_int min2_int max_two min_two max_three min_three max_four min_four   -- for this text's walks alone
set_option linter.unusedVariables false
set_option linter.unusedSimpArgs false
mutual
def gonglaw09_small.j0 : Nat → Bool → ByteArray → Bool → Int → Int → ByteArray → List (S40) → Option (Bool)
 | 0, _, _, _, _, _, _, _ => none
 | k + 1, x25, x400000, x400001, x400002, x400003, x400004, x400005 => if x25 = true then (some false) else (gonglaw09_small.l0 k 0 x400000 x400001 x400002 x400003 x400004 x400005)
def gonglaw09_small.l0 : Nat → Int → ByteArray → Bool → Int → Int → ByteArray → List (S40) → Option (Bool)
 | 0, _, _, _, _, _, _, _ => none
 | k + 1, x3, x400000, x400001, x400002, x400003, x400004, x400005 => if x3 < (x400005.length : Int) then (if 0 ≤ x3 then (if (((rd_T40 x400005 x3).f1.f2).size : Int) > 2000 then (some false) else (if (((rd_T40 x400005 x3).f0).size : Int) > 2000 then (some false) else (gonglaw09_small.l0 k (wrap64 (x3 + 1)) x400000 x400001 x400002 x400003 x400004 x400005))) else (none)) else (some true)
end
def gonglaw09_small.f (k : Nat) (a0_0 : ByteArray) (a0_1 : Bool) (a0_2 : Int) (a0_3 : Int) (a0_4 : ByteArray) (l0_5 : List (S40)) : Option (Bool) := if (l0_5.length : Int) > 30 then (if (l0_5.length : Int) ≤ 4096 then (gonglaw09_small.j0 k true a0_0 a0_1 a0_2 a0_3 a0_4 l0_5) else (if (l0_5.length : Int) > 8192 then (gonglaw09_small.j0 k true a0_0 a0_1 a0_2 a0_3 a0_4 l0_5) else (gonglaw09_small.j0 k (decide ((a0_4.size : Int) > 2000)) a0_0 a0_1 a0_2 a0_3 a0_4 l0_5))) else (if (l0_5.length : Int) > 8192 then (gonglaw09_small.j0 k true a0_0 a0_1 a0_2 a0_3 a0_4 l0_5) else (gonglaw09_small.j0 k (decide ((a0_4.size : Int) > 2000)) a0_0 a0_1 a0_2 a0_3 a0_4 l0_5))
set_option maxHeartbeats 8000000 in
set_option maxRecDepth 100000 in
theorem gonglaw09_small.calls (k : Nat) (a0_0 : ByteArray) (a0_1 : Bool) (a0_2 : Int) (a0_3 : Int) (a0_4 : ByteArray) (A0_5 : Option Addr) (c0_5 : Nat) (l0_5 : List (S40)) (r : Bool) (w : World) (hr0_5 : Kd.C k40 w A0_5 l0_5.length l0_5) (hc0_5 : l0_5.length ≤ c0_5) (h : gonglaw09_small.f k a0_0 a0_1 a0_2 a0_3 a0_4 l0_5 = some r) :
  Calls Tryz.prog 7 #[.agg #[.string a0_0, .bool a0_1, .int .i64 a0_2, .int .i64 a0_3, .string a0_4, .slice A0_5 l0_5.length c0_5]] w fun e w' => e = .returned (.bool r) ∧ Below w.heap.size w w' := by
 have hu24 := Tryz.underlying24
 have HR0_5 := Aside0.mk hr0_5
 have HC0_5 := Aside0.mk hc0_5
 clear hr0_5 hc0_5
 have HB := Aside0.mk (Below.refl w.heap.size w)
 have H : (if (l0_5.length : Int) > 30 then (if (l0_5.length : Int) ≤ 4096 then (gonglaw09_small.j0 k true a0_0 a0_1 a0_2 a0_3 a0_4 l0_5) else (if (l0_5.length : Int) > 8192 then (gonglaw09_small.j0 k true a0_0 a0_1 a0_2 a0_3 a0_4 l0_5) else (gonglaw09_small.j0 k (decide ((a0_4.size : Int) > 2000)) a0_0 a0_1 a0_2 a0_3 a0_4 l0_5))) else (if (l0_5.length : Int) > 8192 then (gonglaw09_small.j0 k true a0_0 a0_1 a0_2 a0_3 a0_4 l0_5) else (gonglaw09_small.j0 k (decide ((a0_4.size : Int) > 2000)) a0_0 a0_1 a0_2 a0_3 a0_4 l0_5))) = some r := h
 clear h
 have HC2 := Aside0.mk H
 clear H
 go_enter Tryz.func7, Tryz.ntmps7
 go_upto_region 1 with (first | ((with_reducible refine gate_dst (N := 1) rfl ?_); (try (refine gate_guard (by rfl) ?_; dsimp only)); refine box_event ?hg (N := 1) ?hd (cs := #[.string a0_0, .bool a0_1, .int .i64 a0_2, .int .i64 a0_3, .string a0_4, .slice A0_5 l0_5.length c0_5]) (t := 24) ?hr ?_; (case hd => rfl); (case hg => rfl); (case hr => exact Zq2); intro gb399 hg w3 hbox hb; have BK399 := Aside0.mk (hbox); have GW399 := Aside0.mk ((by rw [hg]; exact (below_size Zq13) : w.heap.size ≤ gb399)); have GE399 := Aside0.mk ((by rw [hg]; exact (below_size Zq13) : w.heap.size ≤ gb399)); replace HB := Aside0.mk (below_step Zq13 hb); clear hb hbox hg))
 (try simp only [Act.put, List.setIfInBounds_toArray, List.set_cons_zero, List.set_cons_succ])
 go_cut [25] (fun v25 wc => ∃ (kq : Nat) (x25_1 : Bool), v25 = .bool x25_1 ∧ Aside0 (gonglaw09_small.j0 kq x25_1 a0_0 a0_1 a0_2 a0_3 a0_4 l0_5 = some r) ∧ Aside0 (kq ≤ k) ∧ Aside0 (wc.heap[gb399]? = some (.cells #[.string a0_0, .bool a0_1, .int .i64 a0_2, .int .i64 a0_3, .string a0_4, (.slice A0_5 l0_5.length c0_5)] 24 (0, 0))) ∧ Aside0 (Below w.heap.size w wc))
 case first =>
  have H := HC2.out
  clear HC2
  by_cases c4 : (l0_5.length : Int) > 30
  ·rw [if_pos c4] at H
   have c4b0 : decide (30 < (l0_5.length : Int)) = true := decide_eq_true c4
   have c4b1 : decide (30 < l0_5.length) = true := decide_eq_true (by omega)
   clear c4
   (first | rw [c4b0] | (simp only [i64_w, i32_w]; rw [c4b0]) | skip)
   by_cases c5 : (l0_5.length : Int) ≤ 4096
   ·rw [if_pos c5] at H
    have c5b0 : decide ((l0_5.length : Int) ≤ 4096) = true := decide_eq_true c5
    have c5b1 : decide (l0_5.length ≤ 4096) = true := decide_eq_true (by omega)
    clear c5
    have H' := Aside0.mk H
    clear H
    obtain ⟨hcz6_0, hcz6_1, hcz6_2, hcz6_3, hcz6_4, hcz6_5⟩ := cells6_ BK399.out
    obtain ⟨hfz6_0, hfz6_1, hfz6_2, hfz6_3, hfz6_4, hfz6_5⟩ := frozen6_ BK399.out
    go_wp2
    go_meet
    case rel => exact ⟨_, (true), Zq12, H', ⟨Zy76⟩, ⟨Zy60⟩, ⟨Zy33⟩⟩
   ·rw [if_neg c5] at H
    have c5b0 : decide ((l0_5.length : Int) ≤ 4096) = false := decide_eq_false c5
    have c5b1 : decide (l0_5.length ≤ 4096) = false := decide_eq_false (by omega)
    clear c5
    by_cases c7 : (l0_5.length : Int) > 8192
    ·rw [if_pos c7] at H
     have c7b0 : decide (8192 < (l0_5.length : Int)) = true := decide_eq_true c7
     have c7b1 : decide (8192 < l0_5.length) = true := decide_eq_true (by omega)
     clear c7
     have H' := Aside0.mk H
     clear H
     obtain ⟨hcz8_0, hcz8_1, hcz8_2, hcz8_3, hcz8_4, hcz8_5⟩ := cells6_ BK399.out
     obtain ⟨hfz8_0, hfz8_1, hfz8_2, hfz8_3, hfz8_4, hfz8_5⟩ := frozen6_ BK399.out
     go_wp2
     go_meet
     case rel => exact ⟨_, (true), Zq12, H', ⟨Zy76⟩, ⟨Zy60⟩, ⟨Zy33⟩⟩
    ·rw [if_neg c7] at H
     have c7b0 : decide (8192 < (l0_5.length : Int)) = false := decide_eq_false c7
     have c7b1 : decide (8192 < l0_5.length) = false := decide_eq_false (by omega)
     clear c7
     have H' := Aside0.mk H
     clear H
     obtain ⟨hcz9_0, hcz9_1, hcz9_2, hcz9_3, hcz9_4, hcz9_5⟩ := cells6_ BK399.out
     obtain ⟨hfz9_0, hfz9_1, hfz9_2, hfz9_3, hfz9_4, hfz9_5⟩ := frozen6_ BK399.out
     go_wp2
     go_meet
     case rel => exact ⟨_, (decide ((a0_4.size : Int) > 2000)), Zq12, H', ⟨Zy76⟩, ⟨Zy60⟩, ⟨Zy33⟩⟩
  ·rw [if_neg c4] at H
   have c4b0 : decide (30 < (l0_5.length : Int)) = false := decide_eq_false c4
   have c4b1 : decide (30 < l0_5.length) = false := decide_eq_false (by omega)
   clear c4
   (first | rw [c4b0] | (simp only [i64_w, i32_w]; rw [c4b0]) | skip)
   by_cases c10 : (l0_5.length : Int) > 8192
   ·rw [if_pos c10] at H
    have c10b0 : decide (8192 < (l0_5.length : Int)) = true := decide_eq_true c10
    have c10b1 : decide (8192 < l0_5.length) = true := decide_eq_true (by omega)
    clear c10
    have H' := Aside0.mk H
    clear H
    obtain ⟨hcz11_0, hcz11_1, hcz11_2, hcz11_3, hcz11_4, hcz11_5⟩ := cells6_ BK399.out
    obtain ⟨hfz11_0, hfz11_1, hfz11_2, hfz11_3, hfz11_4, hfz11_5⟩ := frozen6_ BK399.out
    go_wp2
    go_meet
    case rel => exact ⟨_, (true), Zq12, H', ⟨Zy76⟩, ⟨Zy60⟩, ⟨Zy33⟩⟩
   ·rw [if_neg c10] at H
    have c10b0 : decide (8192 < (l0_5.length : Int)) = false := decide_eq_false c10
    have c10b1 : decide (8192 < l0_5.length) = false := decide_eq_false (by omega)
    clear c10
    have H' := Aside0.mk H
    clear H
    obtain ⟨hcz12_0, hcz12_1, hcz12_2, hcz12_3, hcz12_4, hcz12_5⟩ := cells6_ BK399.out
    obtain ⟨hfz12_0, hfz12_1, hfz12_2, hfz12_3, hfz12_4, hfz12_5⟩ := frozen6_ BK399.out
    go_wp2
    go_meet
    case rel => exact ⟨_, (decide ((a0_4.size : Int) > 2000)), Zq12, H', ⟨Zy76⟩, ⟨Zy60⟩, ⟨Zy33⟩⟩
 case rest =>
  clear HC2
  (try clear c1); (try clear p2); (try clear c4); (try clear c4b0); (try clear c4b1); (try clear c5); (try clear c5b0); (try clear c5b1); (try clear c7); (try clear c7b0); (try clear c7b1); (try clear c10); (try clear c10b0); (try clear c10b1); (try clear hcz11_0); (try clear hcz11_1); (try clear hcz11_2); (try clear hcz11_3); (try clear hcz11_4); (try clear hcz11_5); (try clear hcz12_0); (try clear hcz12_1); (try clear hcz12_2); (try clear hcz12_3); (try clear hcz12_4); (try clear hcz12_5); (try clear hcz6_0); (try clear hcz6_1); (try clear hcz6_2); (try clear hcz6_3); (try clear hcz6_4); (try clear hcz6_5); (try clear hcz8_0); (try clear hcz8_1); (try clear hcz8_2); (try clear hcz8_3); (try clear hcz8_4); (try clear hcz8_5); (try clear hcz9_0); (try clear hcz9_1); (try clear hcz9_2); (try clear hcz9_3); (try clear hcz9_4); (try clear hcz9_5); (try clear hfz11_0); (try clear hfz11_1); (try clear hfz11_2); (try clear hfz11_3); (try clear hfz11_4); (try clear hfz11_5); (try clear hfz12_0); (try clear hfz12_1); (try clear hfz12_2); (try clear hfz12_3); (try clear hfz12_4); (try clear hfz12_5); (try clear hfz6_0); (try clear hfz6_1); (try clear hfz6_2); (try clear hfz6_3); (try clear hfz6_4); (try clear hfz6_5); (try clear hfz8_0); (try clear hfz8_1); (try clear hfz8_2); (try clear hfz8_3); (try clear hfz8_4); (try clear hfz8_5); (try clear hfz9_0); (try clear hfz9_1); (try clear hfz9_2); (try clear hfz9_3); (try clear hfz9_4); (try clear hfz9_5)
  obtain ⟨kq, x25_1, rfl, HA, HJ1, BK399, HB⟩ := hcut
  cases kq with
  | zero => exact absurd HA.out (by simp [gonglaw09_small.j0])
  | succ kj1 =>
   have H := HA.out
   clear HA
   simp only [gonglaw09_small.j0] at H
   by_cases c13 : x25_1 = true
   ·subst c13
    have H1 : (some false) = some r := by rw [if_pos rfl] at H; exact H
    clear H
    have H := H1
    clear H1
    obtain rfl := Option.some.inj H
    go_wp2
    go_ret
    exact ⟨Zy51, Zy33⟩
   ·replace c13 := Bool.eq_false_iff.mpr c13
    subst c13
    have H1 : (gonglaw09_small.l0 kj1 0 a0_0 a0_1 a0_2 a0_3 a0_4 l0_5) = some r := by rw [if_neg (show ¬ (false = true) by decide)] at H; exact H
    clear H
    have H := H1
    clear H1
    have H' := Aside0.mk H
    clear H
    go_wp2
    go_loopg [3] kj1 (fun kq v3 w' => ∃ (x3_2 : Int), v3 = .int .i64 x3_2 ∧ Aside0 (gonglaw09_small.l0 kq x3_2 a0_0 a0_1 a0_2 a0_3 a0_4 l0_5 = some r) ∧ Aside0 (kq ≤ kj1) ∧ Aside0 (w'.heap[gb399]? = some (.cells #[.string a0_0, .bool a0_1, .int .i64 a0_2, .int .i64 a0_3, .string a0_4, (.slice A0_5 l0_5.length c0_5)] 24 (0, 0))) ∧ Aside0 (Below w.heap.size w w'))
    case atStart => exact ⟨(0), Zq12, H', ⟨Nat.le_refl _⟩, ⟨Zy60⟩, ⟨Zy33⟩⟩
    case round =>
     clear H'
     (try clear c1); (try clear p2); (try clear c4); (try clear c4b0); (try clear c4b1); (try clear c5); (try clear c5b0); (try clear c5b1); (try clear c7); (try clear c7b0); (try clear c7b1); (try clear c10); (try clear c10b0); (try clear c10b1); (try clear c13); (try clear hcz11_0); (try clear hcz11_1); (try clear hcz11_2); (try clear hcz11_3); (try clear hcz11_4); (try clear hcz11_5); (try clear hcz12_0); (try clear hcz12_1); (try clear hcz12_2); (try clear hcz12_3); (try clear hcz12_4); (try clear hcz12_5); (try clear hcz6_0); (try clear hcz6_1); (try clear hcz6_2); (try clear hcz6_3); (try clear hcz6_4); (try clear hcz6_5); (try clear hcz8_0); (try clear hcz8_1); (try clear hcz8_2); (try clear hcz8_3); (try clear hcz8_4); (try clear hcz8_5); (try clear hcz9_0); (try clear hcz9_1); (try clear hcz9_2); (try clear hcz9_3); (try clear hcz9_4); (try clear hcz9_5); (try clear hfz11_0); (try clear hfz11_1); (try clear hfz11_2); (try clear hfz11_3); (try clear hfz11_4); (try clear hfz11_5); (try clear hfz12_0); (try clear hfz12_1); (try clear hfz12_2); (try clear hfz12_3); (try clear hfz12_4); (try clear hfz12_5); (try clear hfz6_0); (try clear hfz6_1); (try clear hfz6_2); (try clear hfz6_3); (try clear hfz6_4); (try clear hfz6_5); (try clear hfz8_0); (try clear hfz8_1); (try clear hfz8_2); (try clear hfz8_3); (try clear hfz8_4); (try clear hfz8_5); (try clear hfz9_0); (try clear hfz9_1); (try clear hfz9_2); (try clear hfz9_3); (try clear hfz9_4); (try clear hfz9_5)
     obtain ⟨x3_2, rfl, HA, HK2, BK399, HB⟩ := hrel
     cases gk with
     | zero => exact absurd HA.out (by simp [gonglaw09_small.l0])
     | succ k2 =>
      have H := HA.out
      clear HA
      simp only [gonglaw09_small.l0] at H
      by_cases c14 : x3_2 < (l0_5.length : Int)
      ·rw [if_pos c14] at H
       have c14b0 : decide (x3_2 < (l0_5.length : Int)) = true := decide_eq_true c14
       clear c14
       by_cases c15 : 0 ≤ x3_2
       ·rw [if_pos c15] at H
        have c15b0 : decide (0 ≤ x3_2) = true := decide_eq_true c15
        clear c15
        by_cases c16 : (((rd_T40 l0_5 x3_2).f1.f2).size : Int) > 2000
        ·rw [if_pos c16] at H
         have c16b0 : decide (2000 < (((rd_T40 l0_5 x3_2).f1.f2).size : Int)) = true := decide_eq_true c16
         have c16b1 : decide (2000 < ((rd_T40 l0_5 x3_2).f1.f2).size) = true := decide_eq_true (by omega)
         clear c16
         obtain rfl := Option.some.inj H
         obtain ⟨hcz17_0, hcz17_1, hcz17_2, hcz17_3, hcz17_4, hcz17_5⟩ := cells6_ BK399.out
         obtain ⟨hfz17_0, hfz17_1, hfz17_2, hfz17_3, hfz17_4, hfz17_5⟩ := frozen6_ BK399.out
         have p400 : 0 ≤ (x3_2 : Int) := of_decide_eq_true Zq1
         have q400 : x3_2 < (l0_5.length : Int) := of_decide_eq_true Zq1
         obtain ⟨ad400, e400, hx400_0, hx400_1, hx400_2, hx400_3⟩ := at_T40 HR0_5.out x3_2 p400 q400
         cases e400
         replace hx400_0 := (HB.out.cell (World.block_lt_of_cell? w _ hx400_0)).trans hx400_0
         replace hx400_1 := (HB.out.cell (World.block_lt_of_cell? w _ hx400_1)).trans hx400_1
         replace hx400_2 := (HB.out.cell (World.block_lt_of_cell? w _ hx400_2)).trans hx400_2
         replace hx400_3 := (HB.out.cell (World.block_lt_of_cell? w _ hx400_3)).trans hx400_3
         replace p400 := eq_true p400
         replace q400 := eq_true q400
         go_wp2
         go_ret
         exact ⟨Zy51, Zy33⟩
        ·rw [if_neg c16] at H
         have c16b0 : decide (2000 < (((rd_T40 l0_5 x3_2).f1.f2).size : Int)) = false := decide_eq_false c16
         have c16b1 : decide (2000 < ((rd_T40 l0_5 x3_2).f1.f2).size) = false := decide_eq_false (by omega)
         clear c16
         by_cases c18 : (((rd_T40 l0_5 x3_2).f0).size : Int) > 2000
         ·rw [if_pos c18] at H
          have c18b0 : decide (2000 < (((rd_T40 l0_5 x3_2).f0).size : Int)) = true := decide_eq_true c18
          have c18b1 : decide (2000 < ((rd_T40 l0_5 x3_2).f0).size) = true := decide_eq_true (by omega)
          clear c18
          obtain rfl := Option.some.inj H
          obtain ⟨hcz19_0, hcz19_1, hcz19_2, hcz19_3, hcz19_4, hcz19_5⟩ := cells6_ BK399.out
          obtain ⟨hfz19_0, hfz19_1, hfz19_2, hfz19_3, hfz19_4, hfz19_5⟩ := frozen6_ BK399.out
          have p400 : 0 ≤ (x3_2 : Int) := of_decide_eq_true Zq1
          have q400 : x3_2 < (l0_5.length : Int) := of_decide_eq_true Zq1
          obtain ⟨ad400, e400, hx400_0, hx400_1, hx400_2, hx400_3⟩ := at_T40 HR0_5.out x3_2 p400 q400
          cases e400
          replace hx400_0 := (HB.out.cell (World.block_lt_of_cell? w _ hx400_0)).trans hx400_0
          replace hx400_1 := (HB.out.cell (World.block_lt_of_cell? w _ hx400_1)).trans hx400_1
          replace hx400_2 := (HB.out.cell (World.block_lt_of_cell? w _ hx400_2)).trans hx400_2
          replace hx400_3 := (HB.out.cell (World.block_lt_of_cell? w _ hx400_3)).trans hx400_3
          replace p400 := eq_true p400
          replace q400 := eq_true q400
          have p401 : 0 ≤ (x3_2 : Int) := of_decide_eq_true Zq1
          have q401 : x3_2 < (l0_5.length : Int) := of_decide_eq_true Zq1
          obtain ⟨ad401, e401, hx401_0, hx401_1, hx401_2, hx401_3⟩ := at_T40 HR0_5.out x3_2 p401 q401
          obtain rfl : ad400 = ad401 := (by injection e401)
          replace hx401_0 := (HB.out.cell (World.block_lt_of_cell? w _ hx401_0)).trans hx401_0
          replace hx401_1 := (HB.out.cell (World.block_lt_of_cell? w _ hx401_1)).trans hx401_1
          replace hx401_2 := (HB.out.cell (World.block_lt_of_cell? w _ hx401_2)).trans hx401_2
          replace hx401_3 := (HB.out.cell (World.block_lt_of_cell? w _ hx401_3)).trans hx401_3
          replace p401 := eq_true p401
          replace q401 := eq_true q401
          go_wp2
          go_ret
          exact ⟨Zy51, Zy33⟩
         ·rw [if_neg c18] at H
          have c18b0 : decide (2000 < (((rd_T40 l0_5 x3_2).f0).size : Int)) = false := decide_eq_false c18
          have c18b1 : decide (2000 < ((rd_T40 l0_5 x3_2).f0).size) = false := decide_eq_false (by omega)
          clear c18
          have H' := Aside0.mk H
          clear H
          obtain ⟨hcz20_0, hcz20_1, hcz20_2, hcz20_3, hcz20_4, hcz20_5⟩ := cells6_ BK399.out
          obtain ⟨hfz20_0, hfz20_1, hfz20_2, hfz20_3, hfz20_4, hfz20_5⟩ := frozen6_ BK399.out
          have p400 : 0 ≤ (x3_2 : Int) := of_decide_eq_true Zq1
          have q400 : x3_2 < (l0_5.length : Int) := of_decide_eq_true Zq1
          obtain ⟨ad400, e400, hx400_0, hx400_1, hx400_2, hx400_3⟩ := at_T40 HR0_5.out x3_2 p400 q400
          cases e400
          replace hx400_0 := (HB.out.cell (World.block_lt_of_cell? w _ hx400_0)).trans hx400_0
          replace hx400_1 := (HB.out.cell (World.block_lt_of_cell? w _ hx400_1)).trans hx400_1
          replace hx400_2 := (HB.out.cell (World.block_lt_of_cell? w _ hx400_2)).trans hx400_2
          replace hx400_3 := (HB.out.cell (World.block_lt_of_cell? w _ hx400_3)).trans hx400_3
          replace p400 := eq_true p400
          replace q400 := eq_true q400
          have p401 : 0 ≤ (x3_2 : Int) := of_decide_eq_true Zq1
          have q401 : x3_2 < (l0_5.length : Int) := of_decide_eq_true Zq1
          obtain ⟨ad401, e401, hx401_0, hx401_1, hx401_2, hx401_3⟩ := at_T40 HR0_5.out x3_2 p401 q401
          obtain rfl : ad400 = ad401 := (by injection e401)
          replace hx401_0 := (HB.out.cell (World.block_lt_of_cell? w _ hx401_0)).trans hx401_0
          replace hx401_1 := (HB.out.cell (World.block_lt_of_cell? w _ hx401_1)).trans hx401_1
          replace hx401_2 := (HB.out.cell (World.block_lt_of_cell? w _ hx401_2)).trans hx401_2
          replace hx401_3 := (HB.out.cell (World.block_lt_of_cell? w _ hx401_3)).trans hx401_3
          replace p401 := eq_true p401
          replace q401 := eq_true q401
          go_wp2
          go_roundg k2
          case measure => have := HJ1.out; have := HK2.out; omega
          case rel => exact ⟨(wrap64 (x3_2 + 1)), Zq12, H', ⟨by have := HJ1.out; have := HK2.out; omega⟩, ⟨Zy60⟩, ⟨Zy33⟩⟩
       ·rw [if_neg c15] at H
        exact absurd H (by simp)
      ·rw [if_neg c14] at H
       have c14b0 : decide (x3_2 < (l0_5.length : Int)) = false := decide_eq_false c14
       clear c14
       obtain rfl := Option.some.inj H
       obtain ⟨hcz21_0, hcz21_1, hcz21_2, hcz21_3, hcz21_4, hcz21_5⟩ := cells6_ BK399.out
       obtain ⟨hfz21_0, hfz21_1, hfz21_2, hfz21_3, hfz21_4, hfz21_5⟩ := frozen6_ BK399.out
       go_wp2
       go_ret
       exact ⟨Zy51, Zy33⟩
end Go.Proofs.YtfmhghlmljlfgaaGreatDoor.XTrS
