-- Laid by extprint.py (the session's own driver): functions told by the kit's printer and by hand.
import Derived.Test.YtfmhghlmljlfgaaGreatDoorXTrSx0
import Derived.Test.YtfmhghlmljlfgaaGreatDoorXTrSx5
import Derived.Test.YtfmhghlmljlfgaaGreatDoorXTrSx7
import Derived.Test.YtfmhghlmljlfgaaGreatDoorXTrSx10
import Derived.Test.YtfmhghlmljlfgaaGreatDoorXTrSx11
import Derived.Test.YtfmhghlmljlfgaaGreatDoorXTrSx15
import Derived.Test.YtfmhghlmljlfgaaGreatDoorXTrSx19
namespace Go.Proofs.YtfmhghlmljlfgaaGreatDoor.XTrS
open Go.RowKit Gong Go.Proofs.YtfmhghlmljlfgaaGreatDoorW.PrintWords Go.Proofs.YtfmhghlmljlfgaaGreatDoorW.PrintLast Go.Proofs.YtfmhghlmljlfgaaGreatDoorW.PrintMore
attribute [local go_sem] max2_int min2_int max_two min_two max_three min_three max_four min_four   -- for this text's walks alone
set_option linter.unusedVariables false
set_option linter.unusedSimpArgs false
theorem Zr1 {P : Prop} (h : P := by first | (with_reducible assumption) | assumption) : P := h
theorem Zr2 {P : Prop} (h : P := by first | (go_simp; done) | (go_simp; rfl)) : P := h
theorem Zr3 {P : Prop} (h : P := by first | rfl | (simp; done) | (simp [*]; done) | (simp [*]; exact isEmpty_bne _) | (simp; exact isEmpty_bne _)) : P := h
theorem Zr4 {P : Prop} (h : P := by repeat (first | (with_reducible first | exact HB.out | apply below_alloc | apply pw_below_drewN | apply below_drew1) | exact HB.out)) : P := h
theorem Zr5 {P : Prop} (h : P := by (try simp only [List.map_toArray, List.map_cons, List.map_nil]); first | done | rfl | (simp only [List.length_drop, List.length_take]; rfl)) : P := h
theorem Zr6 {P : Prop} (h : P := by repeat (first | (with_reducible first | exact HB.out | apply below_alloc | apply pw_below_drewN | apply below_drew1 | refine below_set ?_ GE402.out) | exact HB.out)) : P := h
theorem Zr7 {P : Prop} (h : P := by repeat (first | (with_reducible first | exact HB.out | apply below_alloc | apply pw_below_drewN | apply below_drew1 | refine below_set ?_ GE414.out) | exact HB.out)) : P := h
theorem Zr8 {P : Prop} (h : P := by repeat (first | exact (Kd.C_below HR0_5.out HB.out) | (with_reducible refine Kd.C_alloc ?_ _) | (with_reducible refine Kd.C_drewN ?_ _) | (with_reducible refine Kd.C_drew ?_))) : P := h
theorem Zr9 {P : Prop} (h : P := by repeat (first | (with_reducible first | exact HB.out | apply below_alloc | apply pw_below_drewN | apply below_drew1 | refine below_set ?_ GE414.out | refine below_set ?_ GE419.out) | exact HB.out)) : P := h
theorem Zr10 {P : Prop} (h : P := by repeat (first | (with_reducible first | exact HB.out | apply below_alloc | apply pw_below_drewN | apply below_drew1 | refine below_set ?_ (Aside0.out (by assumption))) | exact HB.out | (refine below_set ?_ (Aside0.out (by assumption))) | exact Below.refl _ _)) : P := h
theorem Zr11 {P : Prop} (h : P := by repeat (with_reducible first | refine blk_drewN ?_ _ | refine blk_drew ?_ | refine blk_alloc ?_ _ | exact Aside0.out (by assumption) | refine blk_far ?_ (Aside0.out (by assumption)) _)) : P := h
theorem Zr12 {P : Prop} (h : P := by repeat (first | (with_reducible first | refine blk_drewN ?_ _ | refine blk_drew ?_ | refine blk_alloc ?_ _ | exact Aside0.out (by assumption) | apply blk_put | apply blk_far) | (simp only [List.setIfInBounds_toArray, List.set_cons_zero, List.set_cons_succ] <;> rfl))) : P := h
theorem Zr13 {P : Prop} (h : P := by (with_reducible repeat (first | apply Kd.R_alloc | apply Kd.R_drewN | apply Kd.R_drew)); exact (Kd.R_mono (Kd.R_far (p := ⟨gb411, 0, none⟩) (Kd.R_far (p := ⟨gb411, 4, none⟩) (Kd.R_far (p := ⟨gb411, 3, none⟩) (Kd.R_far (p := ⟨gb411, 2, none⟩) (Kd.R_far (p := ⟨gb411, 1, none⟩) (Kd.R_far (p := ⟨gb411, 0, none⟩) (Kd.R_types HO410.out BK411.out (by decide)) (fun _ hk => hk.2) (.int .i64 t404)) (fun _ hk => hk.2) (.int .i64 t405)) (fun _ hk => hk.2) (.int .i64 t406)) (fun _ hk => hk.2) (.int .i64 t407)) (fun _ hk => hk.2) (.slice Ao15 t408.length co15)) (fun _ hk => hk.2) (.int .i64 162)) (fun _ h_ => h_.1))) : P := h
theorem Zr14 {P : Prop} (h : P := by rw [hg]; exact (below_size Zr4)) : P := h
theorem Zr15 {P : Prop} (h : P := by rw [hg]; exact (below_size Zr7)) : P := h
theorem Zr16 {P : Prop} (h : P := by rw [hg]; exact Nat.ne_of_gt (blk_lt (g := gb414) (o := .cells #[.int .i64 0, .int .i64 0, .int .i64 0, .int .i64 0, .slice none 0 0] 43 (0, 0)) Zr11)) : P := h
theorem Zr17 {P : Prop} (h : P := by rw [hg]; exact Nat.ne_of_lt (blk_lt (g := gb414) (o := .cells #[.int .i64 0, .int .i64 0, .int .i64 0, .int .i64 0, .slice none 0 0] 43 (0, 0)) Zr11)) : P := h
mutual
def gonglaw09_small.j0 : Nat → Bool → ByteArray → Bool → Int → Int → ByteArray → List (S40) → Option (Bool)
 | 0, _, _, _, _, _, _, _ => none
 | k + 1, x25, x400000, x400001, x400002, x400003, x400004, x400005 => if x25 = true then (some false) else (gonglaw09_small.l0 k 0 x400000 x400001 x400002 x400003 x400004 x400005)
def gonglaw09_small.l0 : Nat → Int → ByteArray → Bool → Int → Int → ByteArray → List (S40) → Option (Bool)
 | 0, _, _, _, _, _, _, _ => none
 | k + 1, x3, x400000, x400001, x400002, x400003, x400004, x400005 => if x3 < (x400005.length : Int) then (if 0 ≤ x3 then (if (((rd_T40 x400005 x3).f1.f2).size : Int) > 2000 then (some false) else (if (((rd_T40 x400005 x3).f0).size : Int) > 2000 then (some false) else (gonglaw09_small.l0 k (wrap64 (x3 + 1)) x400000 x400001 x400002 x400003 x400004 x400005))) else (none)) else (some true)
end
def gonglaw09_small.f (k : Nat) (a0_0 : ByteArray) (a0_1 : Bool) (a0_2 : Int) (a0_3 : Int) (a0_4 : ByteArray) (l0_5 : List (S40)) : Option (Bool) := if (l0_5.length : Int) > 30 then (if (l0_5.length : Int) ≤ 4096 then (gonglaw09_small.j0 k true a0_0 a0_1 a0_2 a0_3 a0_4 l0_5) else (if (l0_5.length : Int) > 8192 then (gonglaw09_small.j0 k true a0_0 a0_1 a0_2 a0_3 a0_4 l0_5) else (gonglaw09_small.j0 k (decide ((a0_4.size : Int) > 2000)) a0_0 a0_1 a0_2 a0_3 a0_4 l0_5))) else (if (l0_5.length : Int) > 8192 then (gonglaw09_small.j0 k true a0_0 a0_1 a0_2 a0_3 a0_4 l0_5) else (gonglaw09_small.j0 k (decide ((a0_4.size : Int) > 2000)) a0_0 a0_1 a0_2 a0_3 a0_4 l0_5))
set_option maxHeartbeats 8000000 in
set_option maxRecDepth 100000 in
theorem gonglaw09_small.calls (k : Nat) (a0_0 : ByteArray) (a0_1 : Bool) (a0_2 : Int) (a0_3 : Int) (a0_4 : ByteArray) (A0_5 : Option Addr) (c0_5 : Nat) (l0_5 : List (S40)) (r : Bool) (w : World) (hr0_5 : Kd.C k40 w A0_5 l0_5.length l0_5) (hc0_5 : l0_5.length ≤ c0_5) (h : gonglaw09_small.f k a0_0 a0_1 a0_2 a0_3 a0_4 l0_5 = some r) :
  Calls Tryz.prog 7 #[.agg #[.string a0_0, .bool a0_1, .int .i64 a0_2, .int .i64 a0_3, .string a0_4, .slice A0_5 l0_5.length c0_5]] w fun e w' => e = .returned (.bool r) ∧ Below w.heap.size w w' := by
 have hu24 := Tryz.underlying24
 have HR0_5 := Aside0.mk hr0_5
 have HC0_5 := Aside0.mk hc0_5
 clear hr0_5 hc0_5
 have HB := Aside0.mk (Below.refl w.heap.size w)
 have H : (if (l0_5.length : Int) > 30 then (if (l0_5.length : Int) ≤ 4096 then (gonglaw09_small.j0 k true a0_0 a0_1 a0_2 a0_3 a0_4 l0_5) else (if (l0_5.length : Int) > 8192 then (gonglaw09_small.j0 k true a0_0 a0_1 a0_2 a0_3 a0_4 l0_5) else (gonglaw09_small.j0 k (decide ((a0_4.size : Int) > 2000)) a0_0 a0_1 a0_2 a0_3 a0_4 l0_5))) else (if (l0_5.length : Int) > 8192 then (gonglaw09_small.j0 k true a0_0 a0_1 a0_2 a0_3 a0_4 l0_5) else (gonglaw09_small.j0 k (decide ((a0_4.size : Int) > 2000)) a0_0 a0_1 a0_2 a0_3 a0_4 l0_5))) = some r := h
 clear h
 have HC2 := Aside0.mk H
 clear H
 go_enter Tryz.func7, Tryz.ntmps7
 go_upto_region 1 with (first | ((with_reducible refine gate_dst (N := 1) rfl ?_); (try (refine gate_guard (by rfl) ?_; dsimp only)); refine box_event ?hg (N := 1) ?hd (cs := #[.string a0_0, .bool a0_1, .int .i64 a0_2, .int .i64 a0_3, .string a0_4, .slice A0_5 l0_5.length c0_5]) (t := 24) ?hr ?_; (case hd => rfl); (case hg => rfl); (case hr => exact Zr2); intro gb399 hg w3 hbox hb; have BK399 := Aside0.mk (hbox); have GW399 := Aside0.mk ((by rw [hg]; exact (below_size Zr4) : w.heap.size ≤ gb399)); have GE399 := Aside0.mk ((by rw [hg]; exact (below_size Zr4) : w.heap.size ≤ gb399)); replace HB := Aside0.mk (below_step Zr4 hb); clear hb hbox hg))
 (try simp only [Act.put, List.setIfInBounds_toArray, List.set_cons_zero, List.set_cons_succ])
 go_cut [25] (fun v25 wc => ∃ (kq : Nat) (x25_1 : Bool), v25 = .bool x25_1 ∧ Aside0 (gonglaw09_small.j0 kq x25_1 a0_0 a0_1 a0_2 a0_3 a0_4 l0_5 = some r) ∧ Aside0 (kq ≤ k) ∧ Aside0 (wc.heap[gb399]? = some (.cells #[.string a0_0, .bool a0_1, .int .i64 a0_2, .int .i64 a0_3, .string a0_4, (.slice A0_5 l0_5.length c0_5)] 24 (0, 0))) ∧ Aside0 (Below w.heap.size w wc))
 case first =>
  have H := HC2.out
  clear HC2
  by_cases c4 : (l0_5.length : Int) > 30
  ·rw [if_pos c4] at H
   have c4b0 : decide (30 < (l0_5.length : Int)) = true := decide_eq_true c4
   have c4b1 : decide (30 < l0_5.length) = true := decide_eq_true (by omega)
   clear c4
   (first | rw [c4b0] | (simp only [i64_w, i32_w]; rw [c4b0]) | skip)
   by_cases c5 : (l0_5.length : Int) ≤ 4096
   ·rw [if_pos c5] at H
    have c5b0 : decide ((l0_5.length : Int) ≤ 4096) = true := decide_eq_true c5
    have c5b1 : decide (l0_5.length ≤ 4096) = true := decide_eq_true (by omega)
    clear c5
    have H' := Aside0.mk H
    clear H
    obtain ⟨hcz6_0, hcz6_1, hcz6_2, hcz6_3, hcz6_4, hcz6_5⟩ := cells6_ BK399.out
    obtain ⟨hfz6_0, hfz6_1, hfz6_2, hfz6_3, hfz6_4, hfz6_5⟩ := frozen6_ BK399.out
    go_wp2
    go_meet
    case rel => exact ⟨_, (true), Zr3, H', ⟨by first | omega | exact Nat.le_refl _⟩, ⟨by (with_reducible repeat (first | refine blk_drewN ?_ _ | refine blk_drew ?_ | refine blk_alloc ?_ _)); exact BK399.out⟩, ⟨by repeat (first | (with_reducible first | exact HB.out | apply below_alloc | apply pw_below_drewN | apply below_drew1 | refine below_set ?_ GE399.out) | exact HB.out)⟩⟩
   ·rw [if_neg c5] at H
    have c5b0 : decide ((l0_5.length : Int) ≤ 4096) = false := decide_eq_false c5
    have c5b1 : decide (l0_5.length ≤ 4096) = false := decide_eq_false (by omega)
    clear c5
    by_cases c7 : (l0_5.length : Int) > 8192
    ·rw [if_pos c7] at H
     have c7b0 : decide (8192 < (l0_5.length : Int)) = true := decide_eq_true c7
     have c7b1 : decide (8192 < l0_5.length) = true := decide_eq_true (by omega)
     clear c7
     have H' := Aside0.mk H
     clear H
     obtain ⟨hcz8_0, hcz8_1, hcz8_2, hcz8_3, hcz8_4, hcz8_5⟩ := cells6_ BK399.out
     obtain ⟨hfz8_0, hfz8_1, hfz8_2, hfz8_3, hfz8_4, hfz8_5⟩ := frozen6_ BK399.out
     go_wp2
     go_meet
     case rel => exact ⟨_, (true), Zr3, H', ⟨by first | omega | exact Nat.le_refl _⟩, ⟨by (with_reducible repeat (first | refine blk_drewN ?_ _ | refine blk_drew ?_ | refine blk_alloc ?_ _)); exact BK399.out⟩, ⟨by repeat (first | (with_reducible first | exact HB.out | apply below_alloc | apply pw_below_drewN | apply below_drew1 | refine below_set ?_ GE399.out) | exact HB.out)⟩⟩
    ·rw [if_neg c7] at H
     have c7b0 : decide (8192 < (l0_5.length : Int)) = false := decide_eq_false c7
     have c7b1 : decide (8192 < l0_5.length) = false := decide_eq_false (by omega)
     clear c7
     have H' := Aside0.mk H
     clear H
     obtain ⟨hcz9_0, hcz9_1, hcz9_2, hcz9_3, hcz9_4, hcz9_5⟩ := cells6_ BK399.out
     obtain ⟨hfz9_0, hfz9_1, hfz9_2, hfz9_3, hfz9_4, hfz9_5⟩ := frozen6_ BK399.out
     go_wp2
     go_meet
     case rel => exact ⟨_, (decide ((a0_4.size : Int) > 2000)), Zr3, H', ⟨by first | omega | exact Nat.le_refl _⟩, ⟨by (with_reducible repeat (first | refine blk_drewN ?_ _ | refine blk_drew ?_ | refine blk_alloc ?_ _)); exact BK399.out⟩, ⟨by repeat (first | (with_reducible first | exact HB.out | apply below_alloc | apply pw_below_drewN | apply below_drew1 | refine below_set ?_ GE399.out) | exact HB.out)⟩⟩
  ·rw [if_neg c4] at H
   have c4b0 : decide (30 < (l0_5.length : Int)) = false := decide_eq_false c4
   have c4b1 : decide (30 < l0_5.length) = false := decide_eq_false (by omega)
   clear c4
   (first | rw [c4b0] | (simp only [i64_w, i32_w]; rw [c4b0]) | skip)
   by_cases c10 : (l0_5.length : Int) > 8192
   ·rw [if_pos c10] at H
    have c10b0 : decide (8192 < (l0_5.length : Int)) = true := decide_eq_true c10
    have c10b1 : decide (8192 < l0_5.length) = true := decide_eq_true (by omega)
    clear c10
    have H' := Aside0.mk H
    clear H
    obtain ⟨hcz11_0, hcz11_1, hcz11_2, hcz11_3, hcz11_4, hcz11_5⟩ := cells6_ BK399.out
    obtain ⟨hfz11_0, hfz11_1, hfz11_2, hfz11_3, hfz11_4, hfz11_5⟩ := frozen6_ BK399.out
    go_wp2
    go_meet
    case rel => exact ⟨_, (true), Zr3, H', ⟨by first | omega | exact Nat.le_refl _⟩, ⟨by (with_reducible repeat (first | refine blk_drewN ?_ _ | refine blk_drew ?_ | refine blk_alloc ?_ _)); exact BK399.out⟩, ⟨by repeat (first | (with_reducible first | exact HB.out | apply below_alloc | apply pw_below_drewN | apply below_drew1 | refine below_set ?_ GE399.out) | exact HB.out)⟩⟩
   ·rw [if_neg c10] at H
    have c10b0 : decide (8192 < (l0_5.length : Int)) = false := decide_eq_false c10
    have c10b1 : decide (8192 < l0_5.length) = false := decide_eq_false (by omega)
    clear c10
    have H' := Aside0.mk H
    clear H
    obtain ⟨hcz12_0, hcz12_1, hcz12_2, hcz12_3, hcz12_4, hcz12_5⟩ := cells6_ BK399.out
    obtain ⟨hfz12_0, hfz12_1, hfz12_2, hfz12_3, hfz12_4, hfz12_5⟩ := frozen6_ BK399.out
    go_wp2
    go_meet
    case rel => exact ⟨_, (decide ((a0_4.size : Int) > 2000)), Zr3, H', ⟨by first | omega | exact Nat.le_refl _⟩, ⟨by (with_reducible repeat (first | refine blk_drewN ?_ _ | refine blk_drew ?_ | refine blk_alloc ?_ _)); exact BK399.out⟩, ⟨by repeat (first | (with_reducible first | exact HB.out | apply below_alloc | apply pw_below_drewN | apply below_drew1 | refine below_set ?_ GE399.out) | exact HB.out)⟩⟩
 case rest =>
  clear HC2
  (try clear c1); (try clear p2); (try clear c4); (try clear c4b0); (try clear c4b1); (try clear c5); (try clear c5b0); (try clear c5b1); (try clear c7); (try clear c7b0); (try clear c7b1); (try clear c10); (try clear c10b0); (try clear c10b1); (try clear hcz11_0); (try clear hcz11_1); (try clear hcz11_2); (try clear hcz11_3); (try clear hcz11_4); (try clear hcz11_5); (try clear hcz12_0); (try clear hcz12_1); (try clear hcz12_2); (try clear hcz12_3); (try clear hcz12_4); (try clear hcz12_5); (try clear hcz6_0); (try clear hcz6_1); (try clear hcz6_2); (try clear hcz6_3); (try clear hcz6_4); (try clear hcz6_5); (try clear hcz8_0); (try clear hcz8_1); (try clear hcz8_2); (try clear hcz8_3); (try clear hcz8_4); (try clear hcz8_5); (try clear hcz9_0); (try clear hcz9_1); (try clear hcz9_2); (try clear hcz9_3); (try clear hcz9_4); (try clear hcz9_5); (try clear hfz11_0); (try clear hfz11_1); (try clear hfz11_2); (try clear hfz11_3); (try clear hfz11_4); (try clear hfz11_5); (try clear hfz12_0); (try clear hfz12_1); (try clear hfz12_2); (try clear hfz12_3); (try clear hfz12_4); (try clear hfz12_5); (try clear hfz6_0); (try clear hfz6_1); (try clear hfz6_2); (try clear hfz6_3); (try clear hfz6_4); (try clear hfz6_5); (try clear hfz8_0); (try clear hfz8_1); (try clear hfz8_2); (try clear hfz8_3); (try clear hfz8_4); (try clear hfz8_5); (try clear hfz9_0); (try clear hfz9_1); (try clear hfz9_2); (try clear hfz9_3); (try clear hfz9_4); (try clear hfz9_5)
  obtain ⟨kq, x25_1, rfl, HA, HJ1, BK399, HB⟩ := hcut
  cases kq with
  | zero => exact absurd HA.out (by simp [gonglaw09_small.j0])
  | succ kj1 =>
   have H := HA.out
   clear HA
   simp only [gonglaw09_small.j0] at H
   by_cases c13 : x25_1 = true
   ·subst c13
    have H1 : (some false) = some r := by rw [if_pos rfl] at H; exact H
    clear H
    have H := H1
    clear H1
    obtain rfl := Option.some.inj H
    go_wp2
    go_ret
    exact ⟨by first | rfl | (simp only [i64_w, i32_w]; rfl) | (simp [errW_none, errW_some] <;> rfl) | (simp [*, errW_none, errW_some] <;> rfl), by repeat (first | (with_reducible first | exact HB.out | apply below_alloc | apply pw_below_drewN | apply below_drew1 | refine below_set ?_ GE399.out) | exact HB.out)⟩
   ·replace c13 := Bool.eq_false_iff.mpr c13
    subst c13
    have H1 : (gonglaw09_small.l0 kj1 0 a0_0 a0_1 a0_2 a0_3 a0_4 l0_5) = some r := by rw [if_neg (show ¬ (false = true) by decide)] at H; exact H
    clear H
    have H := H1
    clear H1
    have H' := Aside0.mk H
    clear H
    go_wp2
    go_loopg [3] kj1 (fun kq v3 w' => ∃ (x3_2 : Int), v3 = .int .i64 x3_2 ∧ Aside0 (gonglaw09_small.l0 kq x3_2 a0_0 a0_1 a0_2 a0_3 a0_4 l0_5 = some r) ∧ Aside0 (kq ≤ kj1) ∧ Aside0 (w'.heap[gb399]? = some (.cells #[.string a0_0, .bool a0_1, .int .i64 a0_2, .int .i64 a0_3, .string a0_4, (.slice A0_5 l0_5.length c0_5)] 24 (0, 0))) ∧ Aside0 (Below w.heap.size w w'))
    case atStart => exact ⟨(0), Zr3, H', ⟨Nat.le_refl _⟩, ⟨by (with_reducible repeat (first | refine blk_drewN ?_ _ | refine blk_drew ?_ | refine blk_alloc ?_ _)); exact BK399.out⟩, ⟨by repeat (first | (with_reducible first | exact HB.out | apply below_alloc | apply pw_below_drewN | apply below_drew1 | refine below_set ?_ GE399.out) | exact HB.out)⟩⟩
    case round =>
     clear H'
     (try clear c1); (try clear p2); (try clear c4); (try clear c4b0); (try clear c4b1); (try clear c5); (try clear c5b0); (try clear c5b1); (try clear c7); (try clear c7b0); (try clear c7b1); (try clear c10); (try clear c10b0); (try clear c10b1); (try clear c13); (try clear hcz11_0); (try clear hcz11_1); (try clear hcz11_2); (try clear hcz11_3); (try clear hcz11_4); (try clear hcz11_5); (try clear hcz12_0); (try clear hcz12_1); (try clear hcz12_2); (try clear hcz12_3); (try clear hcz12_4); (try clear hcz12_5); (try clear hcz6_0); (try clear hcz6_1); (try clear hcz6_2); (try clear hcz6_3); (try clear hcz6_4); (try clear hcz6_5); (try clear hcz8_0); (try clear hcz8_1); (try clear hcz8_2); (try clear hcz8_3); (try clear hcz8_4); (try clear hcz8_5); (try clear hcz9_0); (try clear hcz9_1); (try clear hcz9_2); (try clear hcz9_3); (try clear hcz9_4); (try clear hcz9_5); (try clear hfz11_0); (try clear hfz11_1); (try clear hfz11_2); (try clear hfz11_3); (try clear hfz11_4); (try clear hfz11_5); (try clear hfz12_0); (try clear hfz12_1); (try clear hfz12_2); (try clear hfz12_3); (try clear hfz12_4); (try clear hfz12_5); (try clear hfz6_0); (try clear hfz6_1); (try clear hfz6_2); (try clear hfz6_3); (try clear hfz6_4); (try clear hfz6_5); (try clear hfz8_0); (try clear hfz8_1); (try clear hfz8_2); (try clear hfz8_3); (try clear hfz8_4); (try clear hfz8_5); (try clear hfz9_0); (try clear hfz9_1); (try clear hfz9_2); (try clear hfz9_3); (try clear hfz9_4); (try clear hfz9_5)
     obtain ⟨x3_2, rfl, HA, HK2, BK399, HB⟩ := hrel
     cases gk with
     | zero => exact absurd HA.out (by simp [gonglaw09_small.l0])
     | succ k2 =>
      have H := HA.out
      clear HA
      simp only [gonglaw09_small.l0] at H
      by_cases c14 : x3_2 < (l0_5.length : Int)
      ·rw [if_pos c14] at H
       have c14b0 : decide (x3_2 < (l0_5.length : Int)) = true := decide_eq_true c14
       clear c14
       by_cases c15 : 0 ≤ x3_2
       ·rw [if_pos c15] at H
        have c15b0 : decide (0 ≤ x3_2) = true := decide_eq_true c15
        clear c15
        by_cases c16 : (((rd_T40 l0_5 x3_2).f1.f2).size : Int) > 2000
        ·rw [if_pos c16] at H
         have c16b0 : decide (2000 < (((rd_T40 l0_5 x3_2).f1.f2).size : Int)) = true := decide_eq_true c16
         have c16b1 : decide (2000 < ((rd_T40 l0_5 x3_2).f1.f2).size) = true := decide_eq_true (by omega)
         clear c16
         obtain rfl := Option.some.inj H
         obtain ⟨hcz17_0, hcz17_1, hcz17_2, hcz17_3, hcz17_4, hcz17_5⟩ := cells6_ BK399.out
         obtain ⟨hfz17_0, hfz17_1, hfz17_2, hfz17_3, hfz17_4, hfz17_5⟩ := frozen6_ BK399.out
         have p400 : 0 ≤ (x3_2 : Int) := of_decide_eq_true Zr1
         have q400 : x3_2 < (l0_5.length : Int) := of_decide_eq_true Zr1
         obtain ⟨ad400, e400, hx400_0, hx400_1, hx400_2, hx400_3⟩ := at_T40 HR0_5.out x3_2 p400 q400
         cases e400
         replace hx400_0 := (HB.out.cell (World.block_lt_of_cell? w _ hx400_0)).trans hx400_0
         replace hx400_1 := (HB.out.cell (World.block_lt_of_cell? w _ hx400_1)).trans hx400_1
         replace hx400_2 := (HB.out.cell (World.block_lt_of_cell? w _ hx400_2)).trans hx400_2
         replace hx400_3 := (HB.out.cell (World.block_lt_of_cell? w _ hx400_3)).trans hx400_3
         replace p400 := eq_true p400
         replace q400 := eq_true q400
         go_wp2
         go_ret
         exact ⟨by first | rfl | (simp only [i64_w, i32_w]; rfl) | (simp [errW_none, errW_some] <;> rfl) | (simp [*, errW_none, errW_some] <;> rfl), by repeat (first | (with_reducible first | exact HB.out | apply below_alloc | apply pw_below_drewN | apply below_drew1 | refine below_set ?_ GE399.out) | exact HB.out)⟩
        ·rw [if_neg c16] at H
         have c16b0 : decide (2000 < (((rd_T40 l0_5 x3_2).f1.f2).size : Int)) = false := decide_eq_false c16
         have c16b1 : decide (2000 < ((rd_T40 l0_5 x3_2).f1.f2).size) = false := decide_eq_false (by omega)
         clear c16
         by_cases c18 : (((rd_T40 l0_5 x3_2).f0).size : Int) > 2000
         ·rw [if_pos c18] at H
          have c18b0 : decide (2000 < (((rd_T40 l0_5 x3_2).f0).size : Int)) = true := decide_eq_true c18
          have c18b1 : decide (2000 < ((rd_T40 l0_5 x3_2).f0).size) = true := decide_eq_true (by omega)
          clear c18
          obtain rfl := Option.some.inj H
          obtain ⟨hcz19_0, hcz19_1, hcz19_2, hcz19_3, hcz19_4, hcz19_5⟩ := cells6_ BK399.out
          obtain ⟨hfz19_0, hfz19_1, hfz19_2, hfz19_3, hfz19_4, hfz19_5⟩ := frozen6_ BK399.out
          have p400 : 0 ≤ (x3_2 : Int) := of_decide_eq_true Zr1
          have q400 : x3_2 < (l0_5.length : Int) := of_decide_eq_true Zr1
          obtain ⟨ad400, e400, hx400_0, hx400_1, hx400_2, hx400_3⟩ := at_T40 HR0_5.out x3_2 p400 q400
          cases e400
          replace hx400_0 := (HB.out.cell (World.block_lt_of_cell? w _ hx400_0)).trans hx400_0
          replace hx400_1 := (HB.out.cell (World.block_lt_of_cell? w _ hx400_1)).trans hx400_1
          replace hx400_2 := (HB.out.cell (World.block_lt_of_cell? w _ hx400_2)).trans hx400_2
          replace hx400_3 := (HB.out.cell (World.block_lt_of_cell? w _ hx400_3)).trans hx400_3
          replace p400 := eq_true p400
          replace q400 := eq_true q400
          have p401 : 0 ≤ (x3_2 : Int) := of_decide_eq_true Zr1
          have q401 : x3_2 < (l0_5.length : Int) := of_decide_eq_true Zr1
          obtain ⟨ad401, e401, hx401_0, hx401_1, hx401_2, hx401_3⟩ := at_T40 HR0_5.out x3_2 p401 q401
          obtain rfl : ad400 = ad401 := (by injection e401)
          replace hx401_0 := (HB.out.cell (World.block_lt_of_cell? w _ hx401_0)).trans hx401_0
          replace hx401_1 := (HB.out.cell (World.block_lt_of_cell? w _ hx401_1)).trans hx401_1
          replace hx401_2 := (HB.out.cell (World.block_lt_of_cell? w _ hx401_2)).trans hx401_2
          replace hx401_3 := (HB.out.cell (World.block_lt_of_cell? w _ hx401_3)).trans hx401_3
          replace p401 := eq_true p401
          replace q401 := eq_true q401
          go_wp2
          go_ret
          exact ⟨by first | rfl | (simp only [i64_w, i32_w]; rfl) | (simp [errW_none, errW_some] <;> rfl) | (simp [*, errW_none, errW_some] <;> rfl), by repeat (first | (with_reducible first | exact HB.out | apply below_alloc | apply pw_below_drewN | apply below_drew1 | refine below_set ?_ GE399.out) | exact HB.out)⟩
         ·rw [if_neg c18] at H
          have c18b0 : decide (2000 < (((rd_T40 l0_5 x3_2).f0).size : Int)) = false := decide_eq_false c18
          have c18b1 : decide (2000 < ((rd_T40 l0_5 x3_2).f0).size) = false := decide_eq_false (by omega)
          clear c18
          have H' := Aside0.mk H
          clear H
          obtain ⟨hcz20_0, hcz20_1, hcz20_2, hcz20_3, hcz20_4, hcz20_5⟩ := cells6_ BK399.out
          obtain ⟨hfz20_0, hfz20_1, hfz20_2, hfz20_3, hfz20_4, hfz20_5⟩ := frozen6_ BK399.out
          have p400 : 0 ≤ (x3_2 : Int) := of_decide_eq_true Zr1
          have q400 : x3_2 < (l0_5.length : Int) := of_decide_eq_true Zr1
          obtain ⟨ad400, e400, hx400_0, hx400_1, hx400_2, hx400_3⟩ := at_T40 HR0_5.out x3_2 p400 q400
          cases e400
          replace hx400_0 := (HB.out.cell (World.block_lt_of_cell? w _ hx400_0)).trans hx400_0
          replace hx400_1 := (HB.out.cell (World.block_lt_of_cell? w _ hx400_1)).trans hx400_1
          replace hx400_2 := (HB.out.cell (World.block_lt_of_cell? w _ hx400_2)).trans hx400_2
          replace hx400_3 := (HB.out.cell (World.block_lt_of_cell? w _ hx400_3)).trans hx400_3
          replace p400 := eq_true p400
          replace q400 := eq_true q400
          have p401 : 0 ≤ (x3_2 : Int) := of_decide_eq_true Zr1
          have q401 : x3_2 < (l0_5.length : Int) := of_decide_eq_true Zr1
          obtain ⟨ad401, e401, hx401_0, hx401_1, hx401_2, hx401_3⟩ := at_T40 HR0_5.out x3_2 p401 q401
          obtain rfl : ad400 = ad401 := (by injection e401)
          replace hx401_0 := (HB.out.cell (World.block_lt_of_cell? w _ hx401_0)).trans hx401_0
          replace hx401_1 := (HB.out.cell (World.block_lt_of_cell? w _ hx401_1)).trans hx401_1
          replace hx401_2 := (HB.out.cell (World.block_lt_of_cell? w _ hx401_2)).trans hx401_2
          replace hx401_3 := (HB.out.cell (World.block_lt_of_cell? w _ hx401_3)).trans hx401_3
          replace p401 := eq_true p401
          replace q401 := eq_true q401
          go_wp2
          go_roundg k2
          case measure => have := HJ1.out; have := HK2.out; omega
          case rel => exact ⟨(wrap64 (x3_2 + 1)), Zr3, H', ⟨by have := HJ1.out; have := HK2.out; omega⟩, ⟨by (with_reducible repeat (first | refine blk_drewN ?_ _ | refine blk_drew ?_ | refine blk_alloc ?_ _)); exact BK399.out⟩, ⟨by repeat (first | (with_reducible first | exact HB.out | apply below_alloc | apply pw_below_drewN | apply below_drew1 | refine below_set ?_ GE399.out) | exact HB.out)⟩⟩
       ·rw [if_neg c15] at H
        exact absurd H (by simp)
      ·rw [if_neg c14] at H
       have c14b0 : decide (x3_2 < (l0_5.length : Int)) = false := decide_eq_false c14
       clear c14
       obtain rfl := Option.some.inj H
       obtain ⟨hcz21_0, hcz21_1, hcz21_2, hcz21_3, hcz21_4, hcz21_5⟩ := cells6_ BK399.out
       obtain ⟨hfz21_0, hfz21_1, hfz21_2, hfz21_3, hfz21_4, hfz21_5⟩ := frozen6_ BK399.out
       go_wp2
       go_ret
       exact ⟨by first | rfl | (simp only [i64_w, i32_w]; rfl) | (simp [errW_none, errW_some] <;> rfl) | (simp [*, errW_none, errW_some] <;> rfl), by repeat (first | (with_reducible first | exact HB.out | apply below_alloc | apply pw_below_drewN | apply below_drew1 | refine below_set ?_ GE399.out) | exact HB.out)⟩
def trap_Answer.f (k : Nat) (a0_0 : ByteArray) (a0_1 : Bool) (a0_2 : Int) (a0_3 : Int) (a0_4 : ByteArray) (l0_5 : List (S40)) : Option (ByteArray × Int) := (trap_Check.f k a0_0 a0_1 a0_2 a0_3 a0_4 l0_5).bind fun t403 => (if t403 = 0 then (if a0_1 = true then ((trap_unit.f a0_0 a0_1 a0_2 a0_3 a0_4 l0_5).bind fun bt404 => ((trap_message.f k a0_0 162 bt404.2.1 bt404.2.2.1 bt404.2.2.2.1 bt404.2.2.2.2).bind fun bt412 => (some (bt412.1, bt412.2)))) else (some ((⟨#[]⟩ : ByteArray), 5))) else (some ((⟨#[]⟩ : ByteArray), 90)))
set_option maxHeartbeats 8000000 in
set_option maxRecDepth 100000 in
theorem trap_Answer.calls (k : Nat) (a0_0 : ByteArray) (a0_1 : Bool) (a0_2 : Int) (a0_3 : Int) (a0_4 : ByteArray) (A0_5 : Option Addr) (c0_5 : Nat) (l0_5 : List (S40)) (r1 : ByteArray) (r2 : Int) (w : World) (hG : Gl w) (hr0_5 : Kd.C k40 w A0_5 l0_5.length l0_5) (hc0_5 : l0_5.length ≤ c0_5) (h : trap_Answer.f k a0_0 a0_1 a0_2 a0_3 a0_4 l0_5 = some (r1, r2)) :
  Calls Tryz.prog 13 #[.agg #[.string a0_0, .bool a0_1, .int .i64 a0_2, .int .i64 a0_3, .string a0_4, .slice A0_5 l0_5.length c0_5]] w fun e w' => e = .returned (.tuple #[.string r1, .int .i64 r2]) ∧ Below w.heap.size w w' := by
 have HGl := Aside0.mk hG
 clear hG
 have hu24 := Tryz.underlying24
 have hu43 := Tryz.underlying43
 have HR0_5 := Aside0.mk hr0_5
 have HC0_5 := Aside0.mk hc0_5
 clear hr0_5 hc0_5
 have HB := Aside0.mk (Below.refl w.heap.size w)
 have H : ((trap_Check.f k a0_0 a0_1 a0_2 a0_3 a0_4 l0_5).bind fun t403 => (if t403 = 0 then (if a0_1 = true then ((trap_unit.f a0_0 a0_1 a0_2 a0_3 a0_4 l0_5).bind fun bt404 => ((trap_message.f k a0_0 162 bt404.2.1 bt404.2.2.1 bt404.2.2.2.1 bt404.2.2.2.2).bind fun bt412 => (some (bt412.1, bt412.2)))) else (some ((⟨#[]⟩ : ByteArray), 5))) else (some ((⟨#[]⟩ : ByteArray), 90)))) = some (r1, r2) := h
 clear h
 replace H := Option.bind_eq_some_iff.mp H
 obtain ⟨t403, A20, H⟩ := H
 replace H : (if t403 = 0 then (if a0_1 = true then ((trap_unit.f a0_0 a0_1 a0_2 a0_3 a0_4 l0_5).bind fun bt404 => ((trap_message.f k a0_0 162 bt404.2.1 bt404.2.2.1 bt404.2.2.2.1 bt404.2.2.2.2).bind fun bt412 => (some (bt412.1, bt412.2)))) else (some ((⟨#[]⟩ : ByteArray), 5))) else (some ((⟨#[]⟩ : ByteArray), 90))) = some (r1, r2) := H
 have A2 := Aside0.mk A20
 clear A20
 by_cases c3 : t403 = 0
 rotate_left
 ·rw [if_neg c3] at H
  have c3b0 : (t403 == 0) = false := beq_eq_false_iff_ne.mpr c3
  have c3b1 : (t403 != 0) = true := bne_iff_ne.mpr c3
  simp only [Option.some.injEq, Prod.mk.injEq] at H
  obtain ⟨rfl, rfl⟩ := H
  go_enter Tryz.func13, Tryz.ntmps13
  go_wp2_with (first | ((with_reducible refine gate_dst (N := 1) rfl ?_); refine box_event ?hg (N := 1) ?hd (cs := #[.string a0_0, .bool a0_1, .int .i64 a0_2, .int .i64 a0_3, .string a0_4, .slice A0_5 l0_5.length c0_5]) (t := 24) ?hr ?_; (case hd => rfl); (case hg => rfl); (case hr => exact Zr2); intro gb402 hg w22 hbox hb; have BK402 := Aside0.mk (hbox); have GW402 := Aside0.mk ((by rw [hg]; exact (below_size Zr4) : w.heap.size ≤ gb402)); have GE402 := Aside0.mk ((by rw [hg]; exact (below_size Zr4) : w.heap.size ≤ gb402)); replace HB := Aside0.mk (below_step Zr4 hb); clear hb hbox hg; obtain ⟨hcz23_0, hcz23_1, hcz23_2, hcz23_3, hcz23_4, hcz23_5⟩ := cells6_ BK402.out; obtain ⟨hfz23_0, hfz23_1, hfz23_2, hfz23_3, hfz23_4, hfz23_5⟩ := frozen6_ BK402.out) | ((with_reducible refine gate_callee (f := 9) rfl ?_); refine goesL_ (some 7) rfl rfl Tryz.func9 (by kernel_rfl) rfl #[.agg #[.string a0_0, .bool a0_1, .int .i64 a0_2, .int .i64 a0_3, .string a0_4, .slice A0_5 l0_5.length c0_5]] rfl Zr5 ?_; (with_reducible refine (trap_Check.calls k a0_0 a0_1 a0_2 a0_3 a0_4 _ _ l0_5 t403 _ ?side3 ?side1 ?side2 A2.out).mono ?_); (case side1 => exact Zr8); (case side2 => exact HC0_5.out); (case side3 => first | (with_reducible exact HGl.out) | exact HGl.out.below Zr10); rintro e w24 ⟨rfl, hb⟩; refine ⟨_, rfl, ?_⟩; replace BK402 := Aside0.mk (blkb_ BK402.out Zr11 hb); replace HB := Aside0.mk (below_step Zr6 hb); (try clear hb); (try clear hb2); (try clear hk); (try clear hi)))
  go_ret2
  exact ⟨by first | rfl | (simp only [i64_w, i32_w]; rfl) | (simp [errW_none, errW_some] <;> rfl) | (simp [*, errW_none, errW_some] <;> rfl), by repeat (first | (with_reducible first | exact HB.out | apply below_alloc | apply pw_below_drewN | apply below_drew1 | refine below_set ?_ GE402.out) | exact HB.out)⟩
 rw [if_pos c3] at H
 have c3b0 : (t403 == 0) = true := beq_iff_eq.mpr c3
 have c3b1 : (t403 != 0) = false := bne_eq_false_iff_eq.mpr c3
 clear c3
 by_cases c4 : a0_1 = true
 rotate_left
 ·replace c4 := Bool.eq_false_iff.mpr c4
  subst c4
  have H1 : (some ((⟨#[]⟩ : ByteArray), 5)) = some (r1, r2) := by rw [if_neg (show ¬ (false = true) by decide)] at H; exact H
  clear H
  have H := H1
  clear H1
  simp only [Option.some.injEq, Prod.mk.injEq] at H
  obtain ⟨rfl, rfl⟩ := H
  go_enter Tryz.func13, Tryz.ntmps13
  go_wp2_with (first | ((with_reducible refine gate_dst (N := 1) rfl ?_); refine box_event ?hg (N := 1) ?hd (cs := #[.string a0_0, .bool false, .int .i64 a0_2, .int .i64 a0_3, .string a0_4, .slice A0_5 l0_5.length c0_5]) (t := 24) ?hr ?_; (case hd => rfl); (case hg => rfl); (case hr => exact Zr2); intro gb402 hg w18 hbox hb; have BK402 := Aside0.mk (hbox); have GW402 := Aside0.mk ((by rw [hg]; exact (below_size Zr4) : w.heap.size ≤ gb402)); have GE402 := Aside0.mk ((by rw [hg]; exact (below_size Zr4) : w.heap.size ≤ gb402)); replace HB := Aside0.mk (below_step Zr4 hb); clear hb hbox hg; obtain ⟨hcz19_0, hcz19_1, hcz19_2, hcz19_3, hcz19_4, hcz19_5⟩ := cells6_ BK402.out; obtain ⟨hfz19_0, hfz19_1, hfz19_2, hfz19_3, hfz19_4, hfz19_5⟩ := frozen6_ BK402.out) | ((with_reducible refine gate_callee (f := 9) rfl ?_); refine goesL_ (some 7) rfl rfl Tryz.func9 (by kernel_rfl) rfl #[.agg #[.string a0_0, .bool false, .int .i64 a0_2, .int .i64 a0_3, .string a0_4, .slice A0_5 l0_5.length c0_5]] rfl Zr5 ?_; (with_reducible refine (trap_Check.calls k a0_0 false a0_2 a0_3 a0_4 _ _ l0_5 t403 _ ?side3 ?side1 ?side2 A2.out).mono ?_); (case side1 => exact Zr8); (case side2 => exact HC0_5.out); (case side3 => first | (with_reducible exact HGl.out) | exact HGl.out.below Zr10); rintro e w20 ⟨rfl, hb⟩; refine ⟨_, rfl, ?_⟩; replace BK402 := Aside0.mk (blkb_ BK402.out Zr11 hb); replace HB := Aside0.mk (below_step Zr6 hb); (try clear hb); (try clear hb2); (try clear hk); (try clear hi); obtain ⟨hcz21_0, hcz21_1, hcz21_2, hcz21_3, hcz21_4, hcz21_5⟩ := cells6_ BK402.out; obtain ⟨hfz21_0, hfz21_1, hfz21_2, hfz21_3, hfz21_4, hfz21_5⟩ := frozen6_ BK402.out))
  go_ret2
  exact ⟨by first | rfl | (simp only [i64_w, i32_w]; rfl) | (simp [errW_none, errW_some] <;> rfl) | (simp [*, errW_none, errW_some] <;> rfl), by repeat (first | (with_reducible first | exact HB.out | apply below_alloc | apply pw_below_drewN | apply below_drew1 | refine below_set ?_ GE402.out) | exact HB.out)⟩
 subst c4
 have H1 : ((trap_unit.f a0_0 true a0_2 a0_3 a0_4 l0_5).bind fun bt404 => ((trap_message.f k a0_0 162 bt404.2.1 bt404.2.2.1 bt404.2.2.2.1 bt404.2.2.2.2).bind fun bt412 => (some (bt412.1, bt412.2)))) = some (r1, r2) := by rw [if_pos rfl] at H; exact H
 clear H
 have H := H1
 clear H1
 replace H := Option.bind_eq_some_iff.mp H
 obtain ⟨⟨t404, t405, t406, t407, t408⟩, A50, H⟩ := H
 replace H : ((trap_message.f k a0_0 162 t405 t406 t407 t408).bind fun bt412 => (some (bt412.1, bt412.2))) = some (r1, r2) := H
 have A5 := Aside0.mk A50
 clear A50
 replace H := Option.bind_eq_some_iff.mp H
 obtain ⟨⟨t412, t413⟩, A60, H⟩ := H
 replace H : (some (t412, t413)) = some (r1, r2) := H
 have A6 := Aside0.mk A60
 clear A60
 simp only [Option.some.injEq, Prod.mk.injEq] at H
 obtain ⟨rfl, rfl⟩ := H
 go_enter Tryz.func13, Tryz.ntmps13
 go_wp2_with (first | ((with_reducible refine gate_dst (N := 1) rfl ?_); refine box_event ?hg (N := 1) ?hd (cs := #[.string a0_0, .bool true, .int .i64 a0_2, .int .i64 a0_3, .string a0_4, .slice A0_5 l0_5.length c0_5]) (t := 24) ?hr ?_; (case hd => rfl); (case hg => rfl); (case hr => exact Zr2); intro gb402 hg w7 hbox hb; have BK402 := Aside0.mk (hbox); have GW402 := Aside0.mk ((by rw [hg]; exact (below_size Zr4) : w.heap.size ≤ gb402)); have GE402 := Aside0.mk ((by rw [hg]; exact (below_size Zr4) : w.heap.size ≤ gb402)); replace HB := Aside0.mk (below_step Zr4 hb); clear hb hbox hg; obtain ⟨hcz8_0, hcz8_1, hcz8_2, hcz8_3, hcz8_4, hcz8_5⟩ := cells6_ BK402.out; obtain ⟨hfz8_0, hfz8_1, hfz8_2, hfz8_3, hfz8_4, hfz8_5⟩ := frozen6_ BK402.out) | ((with_reducible refine gate_callee (f := 9) rfl ?_); refine goesL_ (some 7) rfl rfl Tryz.func9 (by kernel_rfl) rfl #[.agg #[.string a0_0, .bool true, .int .i64 a0_2, .int .i64 a0_3, .string a0_4, .slice A0_5 l0_5.length c0_5]] rfl Zr5 ?_; (with_reducible refine (trap_Check.calls k a0_0 true a0_2 a0_3 a0_4 _ _ l0_5 t403 _ ?side3 ?side1 ?side2 A2.out).mono ?_); (case side1 => exact Zr8); (case side2 => exact HC0_5.out); (case side3 => first | (with_reducible exact HGl.out) | exact HGl.out.below Zr10); rintro e w9 ⟨rfl, hb⟩; refine ⟨_, rfl, ?_⟩; replace BK402 := Aside0.mk (blkb_ BK402.out Zr11 hb); replace HB := Aside0.mk (below_step Zr6 hb); (try clear hb); (try clear hb2); (try clear hk); (try clear hi); obtain ⟨hcz10_0, hcz10_1, hcz10_2, hcz10_3, hcz10_4, hcz10_5⟩ := cells6_ BK402.out; obtain ⟨hfz10_0, hfz10_1, hfz10_2, hfz10_3, hfz10_4, hfz10_5⟩ := frozen6_ BK402.out) | ((with_reducible refine gate_callee (f := 17) rfl ?_); refine goesL_ (some 14) rfl rfl Tryz.func17 (by kernel_rfl) rfl #[.agg #[.string a0_0, .bool true, .int .i64 a0_2, .int .i64 a0_3, .string a0_4, .slice A0_5 l0_5.length c0_5]] rfl Zr5 ?_; (with_reducible refine (trap_unit.calls a0_0 true a0_2 a0_3 a0_4 _ _ l0_5 t404 t405 t406 t407 t408 _ ?side1 ?side2 A5.out).mono ?_); (case side1 => exact Zr8); (case side2 => exact HC0_5.out); rintro e w11 ⟨v409, rfl, ho0, hb⟩; refine ⟨_, rfl, ?_⟩; have HO410 := Aside0.mk (Kd.R_lower ho0 (below_size Zr6)); replace BK402 := Aside0.mk (blkb_ BK402.out Zr11 hb); replace HB := Aside0.mk (below_step Zr6 hb); (try clear hb); (try clear hb2); (try clear hk); (try clear hi); (try clear ho0)) | ((with_reducible refine gate_dst (N := 4) rfl ?_); refine box_event ?hg (N := 4) ?hd (cs := #[.int .i64 0, .int .i64 0, .int .i64 0, .int .i64 0, .slice none 0 0]) (t := 43) ?hr ?_; (case hd => rfl); (case hg => rfl); (case hr => exact Zr2); intro gb411 hg w12 hbox hb; have BK411 := Aside0.mk (hbox); have GW411 := Aside0.mk ((by rw [hg]; exact (below_size Zr6) : w.heap.size ≤ gb411)); have GE411 := Aside0.mk ((by rw [hg]; exact (below_size Zr6) : w.heap.size ≤ gb411)); have NB402_411 := Aside0.mk ((by rw [hg]; exact Nat.ne_of_lt (blk_lt (g := gb402) (o := .cells #[.string a0_0, .bool true, .int .i64 a0_2, .int .i64 a0_3, .string a0_4, .slice A0_5 l0_5.length c0_5] 24 (0, 0)) Zr11) : gb402 ≠ gb411)); have NB411_402 := Aside0.mk ((by rw [hg]; exact Nat.ne_of_gt (blk_lt (g := gb402) (o := .cells #[.string a0_0, .bool true, .int .i64 a0_2, .int .i64 a0_3, .string a0_4, .slice A0_5 l0_5.length c0_5] 24 (0, 0)) Zr11) : gb411 ≠ gb402)); replace HO410 := Aside0.mk (Kd.R_below (by (with_reducible repeat (first | apply Kd.R_alloc | apply Kd.R_drewN | apply Kd.R_drew)); exact HO410.out) hb); replace BK402 := Aside0.mk (blkb_ BK402.out Zr11 hb); replace HB := Aside0.mk (below_step Zr6 hb); clear hb hbox hg; have hnb13 := NB411_402.out; have hnc13 := NB402_411.out; obtain ⟨hcz14_0, hcz14_1, hcz14_2, hcz14_3, hcz14_4⟩ := cells5_ BK411.out; obtain ⟨hfz14_0, hfz14_1, hfz14_2, hfz14_3, hfz14_4⟩ := frozen5_ BK411.out; obtain ⟨Ao15, co15, eo15⟩ := Kd.R_slice HO410.out; subst eo15; obtain ⟨hcz16_0, hcz16_1, hcz16_2, hcz16_3, hcz16_4, hcz16_5⟩ := cells6_ BK402.out; obtain ⟨hfz16_0, hfz16_1, hfz16_2, hfz16_3, hfz16_4, hfz16_5⟩ := frozen6_ BK402.out) | ((with_reducible refine gate_callee (f := 16) rfl ?_); refine goesL_ (some 19) rfl rfl Tryz.func16 (by kernel_rfl) rfl #[.string a0_0, .agg #[.int .i64 162, .int .i64 t405, .int .i64 t406, .int .i64 t407, .slice Ao15 t408.length co15]] rfl Zr5 ?_; (with_reducible refine (trap_message.calls k a0_0 162 t405 t406 t407 _ _ t408 t412 t413 _ ?side3 ?side1 ?side2 A6.out).mono ?_); (case side1 => refine (Kd.R_reads' (e := 40) (base := w.heap.size) (ok := fun k_ => True) (n := t408.length) (c := co15) ?_).2.2; exact Zr13); (case side2 => exact (Kd.R_reads' HO410.out).2.1); (case side3 => first | (with_reducible exact HGl.out) | exact HGl.out.below Zr10); rintro e w17 ⟨rfl, hb⟩; refine ⟨_, rfl, ?_⟩; replace HO410 := Aside0.mk (Kd.R_below Zr13 hb); replace BK402 := Aside0.mk (blkb_ BK402.out Zr11 hb); replace BK411 := Aside0.mk (blk_below (g := gb411) (o := .cells #[.int .i64 162, .int .i64 t405, .int .i64 t406, .int .i64 t407, .slice Ao15 t408.length co15] 43 (0, 0)) Zr12 hb); replace HB := Aside0.mk (below_step (by repeat (first | (with_reducible first | exact HB.out | apply below_alloc | apply pw_below_drewN | apply below_drew1 | refine below_set ?_ GE402.out | refine below_set ?_ GE411.out) | exact HB.out)) hb); (try clear hb); (try clear hb2); (try clear hk); (try clear hi)))
 go_ret2
 exact ⟨by first | rfl | (simp only [i64_w, i32_w]; rfl) | (simp [errW_none, errW_some] <;> rfl) | (simp [*, errW_none, errW_some] <;> rfl), by repeat (first | (with_reducible first | exact HB.out | apply below_alloc | apply pw_below_drewN | apply below_drew1 | refine below_set ?_ GE402.out | refine below_set ?_ GE411.out) | exact HB.out)⟩
def gonglaw09_unit.f (k : Nat) (a0 : ByteArray) : Option (Int × Int × Int × Int × (List (S40)) × Bool) := (ber_Next.f k a0).bind fun bt415 => ((ber_Parts.f k bt415.2.1).bind fun bt420 => (if bt415.2.2.2 = 0 then (if bt420.2 = 0 then (if (bt420.1.length : Int) = 3 then (if 2 < (bt420.1.length : Int) then ((pdu_Decode.f k ((rd_T62 bt420.1 2).f0) ((rd_T62 bt420.1 2).f1)).bind fun bt425 => (some (bt425.1, bt425.2.1, bt425.2.2.1, bt425.2.2.2.1, bt425.2.2.2.2.1, (bt425.2.2.2.2.2 == 0)))) else (none)) else (some (0, 0, 0, 0, ([] : List (S40)), false))) else (some (0, 0, 0, 0, ([] : List (S40)), false))) else (some (0, 0, 0, 0, ([] : List (S40)), false))))
set_option maxHeartbeats 8000000 in
set_option maxRecDepth 100000 in
theorem gonglaw09_unit.calls (k : Nat) (a0 : ByteArray) (r1 : Int) (r2 : Int) (r3 : Int) (r4 : Int) (r5 : List (S40)) (r6 : Bool) (w : World) (hG : Gl w) (h : gonglaw09_unit.f k a0 = some (r1, r2, r3, r4, r5, r6)) :
  Calls Tryz.prog 14 #[.string a0] w fun e w' => ∃ v4_ : Value, e = .returned (.tuple #[.agg #[.int .i64 r1, .int .i64 r2, .int .i64 r3, .int .i64 r4, v4_], .bool r6]) ∧ Kd.R k40 40 w' w.heap.size (fun _ => True) v4_ r5 ∧ Below w.heap.size w w' := by
 have HGl := Aside0.mk hG
 clear hG
 have hu43 := Tryz.underlying43
 have hu62 := Tryz.underlying62
 have HB := Aside0.mk (Below.refl w.heap.size w)
 have H : ((ber_Next.f k a0).bind fun bt415 => ((ber_Parts.f k bt415.2.1).bind fun bt420 => (if bt415.2.2.2 = 0 then (if bt420.2 = 0 then (if (bt420.1.length : Int) = 3 then (if 2 < (bt420.1.length : Int) then ((pdu_Decode.f k ((rd_T62 bt420.1 2).f0) ((rd_T62 bt420.1 2).f1)).bind fun bt425 => (some (bt425.1, bt425.2.1, bt425.2.2.1, bt425.2.2.2.1, bt425.2.2.2.2.1, (bt425.2.2.2.2.2 == 0)))) else (none)) else (some (0, 0, 0, 0, ([] : List (S40)), false))) else (some (0, 0, 0, 0, ([] : List (S40)), false))) else (some (0, 0, 0, 0, ([] : List (S40)), false))))) = some (r1, r2, r3, r4, r5, r6) := h
 clear h
 replace H := Option.bind_eq_some_iff.mp H
 obtain ⟨⟨t415, t416, t417, t418⟩, A20, H⟩ := H
 replace H : ((ber_Parts.f k t416).bind fun bt420 => (if t418 = 0 then (if bt420.2 = 0 then (if (bt420.1.length : Int) = 3 then (if 2 < (bt420.1.length : Int) then ((pdu_Decode.f k ((rd_T62 bt420.1 2).f0) ((rd_T62 bt420.1 2).f1)).bind fun bt425 => (some (bt425.1, bt425.2.1, bt425.2.2.1, bt425.2.2.2.1, bt425.2.2.2.2.1, (bt425.2.2.2.2.2 == 0)))) else (none)) else (some (0, 0, 0, 0, ([] : List (S40)), false))) else (some (0, 0, 0, 0, ([] : List (S40)), false))) else (some (0, 0, 0, 0, ([] : List (S40)), false)))) = some (r1, r2, r3, r4, r5, r6) := H
 have A2 := Aside0.mk A20
 clear A20
 replace H := Option.bind_eq_some_iff.mp H
 obtain ⟨⟨t420, t421⟩, A30, H⟩ := H
 replace H : (if t418 = 0 then (if t421 = 0 then (if (t420.length : Int) = 3 then (if 2 < (t420.length : Int) then ((pdu_Decode.f k ((rd_T62 t420 2).f0) ((rd_T62 t420 2).f1)).bind fun bt425 => (some (bt425.1, bt425.2.1, bt425.2.2.1, bt425.2.2.2.1, bt425.2.2.2.2.1, (bt425.2.2.2.2.2 == 0)))) else (none)) else (some (0, 0, 0, 0, ([] : List (S40)), false))) else (some (0, 0, 0, 0, ([] : List (S40)), false))) else (some (0, 0, 0, 0, ([] : List (S40)), false))) = some (r1, r2, r3, r4, r5, r6) := H
 have A3 := Aside0.mk A30
 clear A30
 by_cases c4 : t418 = 0
 rotate_left
 ·rw [if_neg c4] at H
  have c4b0 : (t418 == 0) = false := beq_eq_false_iff_ne.mpr c4
  have c4b1 : (t418 != 0) = true := bne_iff_ne.mpr c4
  simp only [Option.some.injEq, Prod.mk.injEq] at H
  obtain ⟨rfl, rfl, rfl, rfl, rfl, rfl⟩ := H
  go_enter Tryz.func14, Tryz.ntmps14
  go_wp2_with (first | ((with_reducible refine gate_dst (N := 2) rfl ?_); (try (refine gate_guard (by rfl) ?_; dsimp only)); refine box_event ?hg (N := 2) ?hd (cs := #[.int .i64 0, .int .i64 0, .int .i64 0, .int .i64 0, .slice none 0 0]) (t := 43) ?hr ?_; (case hd => rfl); (case hg => rfl); (case hr => exact Zr2); intro gb414 hg w38 hbox hb; have BK414 := Aside0.mk (hbox); have GW414 := Aside0.mk ((Zr14 : w.heap.size ≤ gb414)); have GE414 := Aside0.mk ((Zr14 : w.heap.size ≤ gb414)); replace HB := Aside0.mk (below_step Zr4 hb); clear hb hbox hg) | ((with_reducible refine gate_callee (f := 25) rfl ?_); refine goesL_ (some 13) rfl rfl Tryz.func25 (by kernel_rfl) rfl #[.string a0] rfl Zr5 ?_; (with_reducible refine (ber_Next.calls k a0 t415 t416 t417 t418 _ A2.out).mono ?_); rintro e w39 ⟨rfl, hb⟩; refine ⟨_, rfl, ?_⟩; replace BK414 := Aside0.mk (blkb_ BK414.out Zr11 hb); replace HB := Aside0.mk (below_step Zr7 hb); (try clear hb); (try clear hb2); (try clear hk); (try clear hi)) | ((with_reducible refine gate_dst (N := 4) rfl ?_); (try (refine gate_guard (by rfl) ?_; dsimp only)); refine box_event ?hg (N := 4) ?hd (cs := #[.int .i64 0, .string (⟨#[]⟩ : ByteArray)]) (t := 62) ?hr ?_; (case hd => rfl); (case hg => rfl); (case hr => exact Zr2); intro gb419 hg w40 hbox hb; have BK419 := Aside0.mk (hbox); have GW419 := Aside0.mk ((Zr15 : w.heap.size ≤ gb419)); have GE419 := Aside0.mk ((Zr15 : w.heap.size ≤ gb419)); have NB414_419 := Aside0.mk ((Zr17 : gb414 ≠ gb419)); have NB419_414 := Aside0.mk ((Zr16 : gb419 ≠ gb414)); replace BK414 := Aside0.mk (blkb_ BK414.out Zr11 hb); replace HB := Aside0.mk (below_step Zr7 hb); clear hb hbox hg; have hnb41 := NB419_414.out; have hnc41 := NB414_419.out; obtain ⟨hcz42_0, hcz42_1⟩ := cells2_ BK419.out; obtain ⟨hfz42_0, hfz42_1⟩ := frozen2_ BK419.out) | ((with_reducible refine gate_callee (f := 26) rfl ?_); refine goesL_ (some 20) rfl rfl Tryz.func26 (by kernel_rfl) rfl #[.string t416] rfl Zr5 ?_; (with_reducible refine (ber_Parts.calls k t416 t420 t421 _ A3.out).mono ?_); rintro e w43 ⟨v422, rfl, ho0, hb⟩; refine ⟨_, rfl, ?_⟩; have HO423 := Aside0.mk (Kd.R_lower (Kd.R_newB ho0 (g := gb419) (o := .cells #[.int .i64 t415, .string t416] 62 (0, 0)) Zr12) (below_size Zr9)); replace BK414 := Aside0.mk (blkb_ BK414.out Zr11 hb); replace BK419 := Aside0.mk (blk_below (g := gb419) (o := .cells #[.int .i64 t415, .string t416] 62 (0, 0)) Zr12 hb); replace HB := Aside0.mk (below_step Zr9 hb); (try clear hb); (try clear hb2); (try clear hk); (try clear hi); (try clear ho0); obtain ⟨hcz44_0, hcz44_1, hcz44_2, hcz44_3, hcz44_4⟩ := cells5_ BK414.out; obtain ⟨hfz44_0, hfz44_1, hfz44_2, hfz44_3, hfz44_4⟩ := frozen5_ BK414.out))
  refine bodyPost_ret (results_ct rfl _ _ gb414 43 #[.int .i64 0, .int .i64 0, .int .i64 0, .int .i64 0, .slice none 0 0] (0, 0) _ rfl Zr12 Tryz.underlying43 rfl (by kernel_rfl)) rfl ?_
  exact ⟨_, by first | rfl | (simp [errW_none, errW_some] <;> rfl) | (simp [*, errW_none, errW_some] <;> rfl), by first | exact Kd.R_nil _ _ _ _ _ | exact Kd.N_nil _ _ _ _ _ | exact Kd.V_nil _ _ _ _ _ | exact Kd.Q_nil _ _ _ _ _ | exact Kd.S_nil _ _ _ _ _, by repeat (first | (with_reducible first | exact HB.out | apply below_alloc | apply pw_below_drewN | apply below_drew1 | refine below_set ?_ GE414.out | refine below_set ?_ GE419.out) | exact HB.out)⟩
 rw [if_pos c4] at H
 have c4b0 : (t418 == 0) = true := beq_iff_eq.mpr c4
 have c4b1 : (t418 != 0) = false := bne_eq_false_iff_eq.mpr c4
 clear c4
 by_cases c5 : t421 = 0
 rotate_left
 ·rw [if_neg c5] at H
  have c5b0 : (t421 == 0) = false := beq_eq_false_iff_ne.mpr c5
  have c5b1 : (t421 != 0) = true := bne_iff_ne.mpr c5
  simp only [Option.some.injEq, Prod.mk.injEq] at H
  obtain ⟨rfl, rfl, rfl, rfl, rfl, rfl⟩ := H
  go_enter Tryz.func14, Tryz.ntmps14
  go_wp2_with (first | ((with_reducible refine gate_dst (N := 2) rfl ?_); (try (refine gate_guard (by rfl) ?_; dsimp only)); refine box_event ?hg (N := 2) ?hd (cs := #[.int .i64 0, .int .i64 0, .int .i64 0, .int .i64 0, .slice none 0 0]) (t := 43) ?hr ?_; (case hd => rfl); (case hg => rfl); (case hr => exact Zr2); intro gb414 hg w31 hbox hb; have BK414 := Aside0.mk (hbox); have GW414 := Aside0.mk ((Zr14 : w.heap.size ≤ gb414)); have GE414 := Aside0.mk ((Zr14 : w.heap.size ≤ gb414)); replace HB := Aside0.mk (below_step Zr4 hb); clear hb hbox hg) | ((with_reducible refine gate_callee (f := 25) rfl ?_); refine goesL_ (some 13) rfl rfl Tryz.func25 (by kernel_rfl) rfl #[.string a0] rfl Zr5 ?_; (with_reducible refine (ber_Next.calls k a0 t415 t416 t417 t418 _ A2.out).mono ?_); rintro e w32 ⟨rfl, hb⟩; refine ⟨_, rfl, ?_⟩; replace BK414 := Aside0.mk (blkb_ BK414.out Zr11 hb); replace HB := Aside0.mk (below_step Zr7 hb); (try clear hb); (try clear hb2); (try clear hk); (try clear hi)) | ((with_reducible refine gate_dst (N := 4) rfl ?_); (try (refine gate_guard (by rfl) ?_; dsimp only)); refine box_event ?hg (N := 4) ?hd (cs := #[.int .i64 0, .string (⟨#[]⟩ : ByteArray)]) (t := 62) ?hr ?_; (case hd => rfl); (case hg => rfl); (case hr => exact Zr2); intro gb419 hg w33 hbox hb; have BK419 := Aside0.mk (hbox); have GW419 := Aside0.mk ((Zr15 : w.heap.size ≤ gb419)); have GE419 := Aside0.mk ((Zr15 : w.heap.size ≤ gb419)); have NB414_419 := Aside0.mk ((Zr17 : gb414 ≠ gb419)); have NB419_414 := Aside0.mk ((Zr16 : gb419 ≠ gb414)); replace BK414 := Aside0.mk (blkb_ BK414.out Zr11 hb); replace HB := Aside0.mk (below_step Zr7 hb); clear hb hbox hg; have hnb34 := NB419_414.out; have hnc34 := NB414_419.out; obtain ⟨hcz35_0, hcz35_1⟩ := cells2_ BK419.out; obtain ⟨hfz35_0, hfz35_1⟩ := frozen2_ BK419.out) | ((with_reducible refine gate_callee (f := 26) rfl ?_); refine goesL_ (some 20) rfl rfl Tryz.func26 (by kernel_rfl) rfl #[.string t416] rfl Zr5 ?_; (with_reducible refine (ber_Parts.calls k t416 t420 t421 _ A3.out).mono ?_); rintro e w36 ⟨v422, rfl, ho0, hb⟩; refine ⟨_, rfl, ?_⟩; have HO423 := Aside0.mk (Kd.R_lower (Kd.R_newB ho0 (g := gb419) (o := .cells #[.int .i64 t415, .string t416] 62 (0, 0)) Zr12) (below_size Zr9)); replace BK414 := Aside0.mk (blkb_ BK414.out Zr11 hb); replace BK419 := Aside0.mk (blk_below (g := gb419) (o := .cells #[.int .i64 t415, .string t416] 62 (0, 0)) Zr12 hb); replace HB := Aside0.mk (below_step Zr9 hb); (try clear hb); (try clear hb2); (try clear hk); (try clear hi); (try clear ho0); obtain ⟨hcz37_0, hcz37_1, hcz37_2, hcz37_3, hcz37_4⟩ := cells5_ BK414.out; obtain ⟨hfz37_0, hfz37_1, hfz37_2, hfz37_3, hfz37_4⟩ := frozen5_ BK414.out))
  refine bodyPost_ret (results_ct rfl _ _ gb414 43 #[.int .i64 0, .int .i64 0, .int .i64 0, .int .i64 0, .slice none 0 0] (0, 0) _ rfl Zr12 Tryz.underlying43 rfl (by kernel_rfl)) rfl ?_
  exact ⟨_, by first | rfl | (simp [errW_none, errW_some] <;> rfl) | (simp [*, errW_none, errW_some] <;> rfl), by first | exact Kd.R_nil _ _ _ _ _ | exact Kd.N_nil _ _ _ _ _ | exact Kd.V_nil _ _ _ _ _ | exact Kd.Q_nil _ _ _ _ _ | exact Kd.S_nil _ _ _ _ _, by repeat (first | (with_reducible first | exact HB.out | apply below_alloc | apply pw_below_drewN | apply below_drew1 | refine below_set ?_ GE414.out | refine below_set ?_ GE419.out) | exact HB.out)⟩
 rw [if_pos c5] at H
 have c5b0 : (t421 == 0) = true := beq_iff_eq.mpr c5
 have c5b1 : (t421 != 0) = false := bne_eq_false_iff_eq.mpr c5
 clear c5
 by_cases c6 : (t420.length : Int) = 3
 rotate_left
 ·rw [if_neg c6] at H
  have c6b0 : ((t420.length : Int) == 3) = false := beq_eq_false_iff_ne.mpr c6
  have c6b1 : ((t420.length : Int) != 3) = true := bne_iff_ne.mpr c6
  simp only [Option.some.injEq, Prod.mk.injEq] at H
  obtain ⟨rfl, rfl, rfl, rfl, rfl, rfl⟩ := H
  go_enter Tryz.func14, Tryz.ntmps14
  go_wp2_with (first | ((with_reducible refine gate_dst (N := 2) rfl ?_); (try (refine gate_guard (by rfl) ?_; dsimp only)); refine box_event ?hg (N := 2) ?hd (cs := #[.int .i64 0, .int .i64 0, .int .i64 0, .int .i64 0, .slice none 0 0]) (t := 43) ?hr ?_; (case hd => rfl); (case hg => rfl); (case hr => exact Zr2); intro gb414 hg w23 hbox hb; have BK414 := Aside0.mk (hbox); have GW414 := Aside0.mk ((Zr14 : w.heap.size ≤ gb414)); have GE414 := Aside0.mk ((Zr14 : w.heap.size ≤ gb414)); replace HB := Aside0.mk (below_step Zr4 hb); clear hb hbox hg) | ((with_reducible refine gate_callee (f := 25) rfl ?_); refine goesL_ (some 13) rfl rfl Tryz.func25 (by kernel_rfl) rfl #[.string a0] rfl Zr5 ?_; (with_reducible refine (ber_Next.calls k a0 t415 t416 t417 t418 _ A2.out).mono ?_); rintro e w24 ⟨rfl, hb⟩; refine ⟨_, rfl, ?_⟩; replace BK414 := Aside0.mk (blkb_ BK414.out Zr11 hb); replace HB := Aside0.mk (below_step Zr7 hb); (try clear hb); (try clear hb2); (try clear hk); (try clear hi)) | ((with_reducible refine gate_dst (N := 4) rfl ?_); (try (refine gate_guard (by rfl) ?_; dsimp only)); refine box_event ?hg (N := 4) ?hd (cs := #[.int .i64 0, .string (⟨#[]⟩ : ByteArray)]) (t := 62) ?hr ?_; (case hd => rfl); (case hg => rfl); (case hr => exact Zr2); intro gb419 hg w25 hbox hb; have BK419 := Aside0.mk (hbox); have GW419 := Aside0.mk ((Zr15 : w.heap.size ≤ gb419)); have GE419 := Aside0.mk ((Zr15 : w.heap.size ≤ gb419)); have NB414_419 := Aside0.mk ((Zr17 : gb414 ≠ gb419)); have NB419_414 := Aside0.mk ((Zr16 : gb419 ≠ gb414)); replace BK414 := Aside0.mk (blkb_ BK414.out Zr11 hb); replace HB := Aside0.mk (below_step Zr7 hb); clear hb hbox hg; have hnb26 := NB419_414.out; have hnc26 := NB414_419.out; obtain ⟨hcz27_0, hcz27_1⟩ := cells2_ BK419.out; obtain ⟨hfz27_0, hfz27_1⟩ := frozen2_ BK419.out) | ((with_reducible refine gate_callee (f := 26) rfl ?_); refine goesL_ (some 20) rfl rfl Tryz.func26 (by kernel_rfl) rfl #[.string t416] rfl Zr5 ?_; (with_reducible refine (ber_Parts.calls k t416 t420 t421 _ A3.out).mono ?_); rintro e w28 ⟨v422, rfl, ho0, hb⟩; refine ⟨_, rfl, ?_⟩; have HO423 := Aside0.mk (Kd.R_lower (Kd.R_newB ho0 (g := gb419) (o := .cells #[.int .i64 t415, .string t416] 62 (0, 0)) Zr12) (below_size Zr9)); replace BK414 := Aside0.mk (blkb_ BK414.out Zr11 hb); replace BK419 := Aside0.mk (blk_below (g := gb419) (o := .cells #[.int .i64 t415, .string t416] 62 (0, 0)) Zr12 hb); replace HB := Aside0.mk (below_step Zr9 hb); (try clear hb); (try clear hb2); (try clear hk); (try clear hi); (try clear ho0); obtain ⟨Ao29, co29, eo29⟩ := Kd.R_slice HO423.out; subst eo29; obtain ⟨hcz30_0, hcz30_1, hcz30_2, hcz30_3, hcz30_4⟩ := cells5_ BK414.out; obtain ⟨hfz30_0, hfz30_1, hfz30_2, hfz30_3, hfz30_4⟩ := frozen5_ BK414.out))
  refine bodyPost_ret (results_ct rfl _ _ gb414 43 #[.int .i64 0, .int .i64 0, .int .i64 0, .int .i64 0, .slice none 0 0] (0, 0) _ rfl Zr12 Tryz.underlying43 rfl (by kernel_rfl)) rfl ?_
  exact ⟨_, by first | rfl | (simp [errW_none, errW_some] <;> rfl) | (simp [*, errW_none, errW_some] <;> rfl), by first | exact Kd.R_nil _ _ _ _ _ | exact Kd.N_nil _ _ _ _ _ | exact Kd.V_nil _ _ _ _ _ | exact Kd.Q_nil _ _ _ _ _ | exact Kd.S_nil _ _ _ _ _, by repeat (first | (with_reducible first | exact HB.out | apply below_alloc | apply pw_below_drewN | apply below_drew1 | refine below_set ?_ GE414.out | refine below_set ?_ GE419.out) | exact HB.out)⟩
 rw [if_pos c6] at H
 have c6b0 : ((t420.length : Int) == 3) = true := beq_iff_eq.mpr c6
 have c6b1 : ((t420.length : Int) != 3) = false := bne_eq_false_iff_eq.mpr c6
 clear c6
 by_cases c7 : 2 < (t420.length : Int)
 rotate_left
 ·rw [if_neg c7] at H
  exact absurd H (by simp)
 rw [if_pos c7] at H
 have c7b0 : decide (2 < (t420.length : Int)) = true := decide_eq_true c7
 have c7b1 : decide (2 < t420.length) = true := decide_eq_true (by omega)
 clear c7
 replace H := Option.bind_eq_some_iff.mp H
 obtain ⟨⟨t425, t426, t427, t428, t429, t432⟩, A80, H⟩ := H
 replace H : (some (t425, t426, t427, t428, t429, (t432 == 0))) = some (r1, r2, r3, r4, r5, r6) := H
 have A8 := Aside0.mk A80
 clear A80
 simp only [Option.some.injEq, Prod.mk.injEq] at H
 obtain ⟨rfl, rfl, rfl, rfl, rfl, rfl⟩ := H
 go_enter Tryz.func14, Tryz.ntmps14
 go_wp2_with (first | ((with_reducible refine gate_dst (N := 2) rfl ?_); (try (refine gate_guard (by rfl) ?_; dsimp only)); refine box_event ?hg (N := 2) ?hd (cs := #[.int .i64 0, .int .i64 0, .int .i64 0, .int .i64 0, .slice none 0 0]) (t := 43) ?hr ?_; (case hd => rfl); (case hg => rfl); (case hr => exact Zr2); intro gb414 hg w9 hbox hb; have BK414 := Aside0.mk (hbox); have GW414 := Aside0.mk ((Zr14 : w.heap.size ≤ gb414)); have GE414 := Aside0.mk ((Zr14 : w.heap.size ≤ gb414)); replace HB := Aside0.mk (below_step Zr4 hb); clear hb hbox hg) | ((with_reducible refine gate_callee (f := 25) rfl ?_); refine goesL_ (some 13) rfl rfl Tryz.func25 (by kernel_rfl) rfl #[.string a0] rfl Zr5 ?_; (with_reducible refine (ber_Next.calls k a0 t415 t416 t417 t418 _ A2.out).mono ?_); rintro e w10 ⟨rfl, hb⟩; refine ⟨_, rfl, ?_⟩; replace BK414 := Aside0.mk (blkb_ BK414.out Zr11 hb); replace HB := Aside0.mk (below_step Zr7 hb); (try clear hb); (try clear hb2); (try clear hk); (try clear hi)) | ((with_reducible refine gate_dst (N := 4) rfl ?_); (try (refine gate_guard (by rfl) ?_; dsimp only)); refine box_event ?hg (N := 4) ?hd (cs := #[.int .i64 0, .string (⟨#[]⟩ : ByteArray)]) (t := 62) ?hr ?_; (case hd => rfl); (case hg => rfl); (case hr => exact Zr2); intro gb419 hg w11 hbox hb; have BK419 := Aside0.mk (hbox); have GW419 := Aside0.mk ((Zr15 : w.heap.size ≤ gb419)); have GE419 := Aside0.mk ((Zr15 : w.heap.size ≤ gb419)); have NB414_419 := Aside0.mk ((Zr17 : gb414 ≠ gb419)); have NB419_414 := Aside0.mk ((Zr16 : gb419 ≠ gb414)); replace BK414 := Aside0.mk (blkb_ BK414.out Zr11 hb); replace HB := Aside0.mk (below_step Zr7 hb); clear hb hbox hg; have hnb12 := NB419_414.out; have hnc12 := NB414_419.out; obtain ⟨hcz13_0, hcz13_1⟩ := cells2_ BK419.out; obtain ⟨hfz13_0, hfz13_1⟩ := frozen2_ BK419.out) | ((with_reducible refine gate_callee (f := 26) rfl ?_); refine goesL_ (some 20) rfl rfl Tryz.func26 (by kernel_rfl) rfl #[.string t416] rfl Zr5 ?_; (with_reducible refine (ber_Parts.calls k t416 t420 t421 _ A3.out).mono ?_); rintro e w14 ⟨v422, rfl, ho0, hb⟩; refine ⟨_, rfl, ?_⟩; have HO423 := Aside0.mk (Kd.R_lower (Kd.R_newB ho0 (g := gb419) (o := .cells #[.int .i64 t415, .string t416] 62 (0, 0)) Zr12) (below_size Zr9)); replace BK414 := Aside0.mk (blkb_ BK414.out Zr11 hb); replace BK419 := Aside0.mk (blk_below (g := gb419) (o := .cells #[.int .i64 t415, .string t416] 62 (0, 0)) Zr12 hb); replace HB := Aside0.mk (below_step Zr9 hb); (try clear hb); (try clear hb2); (try clear hk); (try clear hi); (try clear ho0); obtain ⟨Ao15, co15, eo15⟩ := Kd.R_slice HO423.out; subst eo15; have p424 : 0 ≤ (2 : Int) := (by omega); have q424 : 2 < (t420.length : Int) := of_decide_eq_true Zr1; obtain ⟨ad424, e424, hx424_0, hx424_1⟩ := at_T62 (Kd.R_reads' HO423.out).2.2 2 p424 q424; cases e424; (try simp only [show (2 : Int).toNat = 2 from rfl, Nat.reduceMul, Nat.reduceEqDiff, Go.Addr.add, ↓reduceIte] at hx424_0); (try simp only [show (2 : Int).toNat = 2 from rfl, Nat.reduceMul, Nat.reduceEqDiff, Go.Addr.add, ↓reduceIte] at hx424_1); have qi424 : (2 < t420.length) = True := eq_true (by omega); (try rw [show ((2 : Int)).toNat = 2 from rfl] at hx424_0); (try rw [show 2 * 2 = 4 from rfl] at hx424_0); (try rw [show ((2 : Int)).toNat = 2 from rfl] at hx424_1); (try rw [show 2 * 2 = 4 from rfl] at hx424_1); replace p424 := eq_true p424; replace q424 := eq_true q424) | ((with_reducible refine gate_callee (f := 27) rfl ?_); refine goesL_ (some 39) rfl rfl Tryz.func27 (by kernel_rfl) rfl #[.agg #[.int .i64 ((rd_T62 t420 2).f0), .string ((rd_T62 t420 2).f1)]] rfl Zr5 ?_; (with_reducible refine (pdu_Decode.calls k ((rd_T62 t420 2).f0) ((rd_T62 t420 2).f1) t425 t426 t427 t428 t429 t432 _ ?side1 A8.out).mono ?_); (case side1 => first | (with_reducible exact HGl.out) | exact HGl.out.below Zr10); rintro e w16 ⟨v430, rfl, ho0, hb⟩; refine ⟨_, rfl, ?_⟩; have HO431 := Aside0.mk (Kd.R_lower ho0 (below_size Zr9)); replace HO423 := Aside0.mk (Kd.R_below (by (with_reducible repeat (first | apply Kd.R_alloc | apply Kd.R_drewN | apply Kd.R_drew)); exact HO423.out) hb); replace BK414 := Aside0.mk (blkb_ BK414.out Zr11 hb); replace BK419 := Aside0.mk (blkb_ BK419.out Zr11 hb); replace HB := Aside0.mk (below_step Zr9 hb); (try clear hb); (try clear hb2); (try clear hk); (try clear hi); (try clear ho0)) | ((with_reducible refine gate_dst (N := 9) rfl ?_); (try (refine gate_guard (by rfl) ?_; dsimp only)); refine box_event ?hg (N := 9) ?hd (cs := #[.int .i64 0, .int .i64 0, .int .i64 0, .int .i64 0, .slice none 0 0]) (t := 43) ?hr ?_; (case hd => rfl); (case hg => rfl); (case hr => exact Zr2); intro gb433 hg w17 hbox hb; have BK433 := Aside0.mk (hbox); have GW433 := Aside0.mk ((by rw [hg]; exact (below_size Zr9) : w.heap.size ≤ gb433)); have GE433 := Aside0.mk ((by rw [hg]; exact (below_size Zr9) : w.heap.size ≤ gb433)); have NB414_433 := Aside0.mk ((by rw [hg]; exact Nat.ne_of_lt (blk_lt (g := gb414) (o := .cells #[.int .i64 0, .int .i64 0, .int .i64 0, .int .i64 0, .slice none 0 0] 43 (0, 0)) Zr11) : gb414 ≠ gb433)); have NB433_414 := Aside0.mk ((by rw [hg]; exact Nat.ne_of_gt (blk_lt (g := gb414) (o := .cells #[.int .i64 0, .int .i64 0, .int .i64 0, .int .i64 0, .slice none 0 0] 43 (0, 0)) Zr11) : gb433 ≠ gb414)); have NB419_433 := Aside0.mk ((by rw [hg]; exact Nat.ne_of_lt (blk_lt (g := gb419) (o := .cells #[.int .i64 t415, .string t416] 62 (0, 0)) Zr11) : gb419 ≠ gb433)); have NB433_419 := Aside0.mk ((by rw [hg]; exact Nat.ne_of_gt (blk_lt (g := gb419) (o := .cells #[.int .i64 t415, .string t416] 62 (0, 0)) Zr11) : gb433 ≠ gb419)); replace HO423 := Aside0.mk (Kd.R_below (by (with_reducible repeat (first | apply Kd.R_alloc | apply Kd.R_drewN | apply Kd.R_drew)); exact HO423.out) hb); replace HO431 := Aside0.mk (Kd.R_below (by (with_reducible repeat (first | apply Kd.R_alloc | apply Kd.R_drewN | apply Kd.R_drew)); exact HO431.out) hb); replace BK414 := Aside0.mk (blkb_ BK414.out Zr11 hb); replace BK419 := Aside0.mk (blkb_ BK419.out Zr11 hb); replace HB := Aside0.mk (below_step Zr9 hb); clear hb hbox hg; have hnb18 := NB433_414.out; have hnc18 := NB414_433.out; have hnb19 := NB433_419.out; have hnc19 := NB419_433.out; obtain ⟨hcz20_0, hcz20_1, hcz20_2, hcz20_3, hcz20_4⟩ := cells5_ BK433.out; obtain ⟨hfz20_0, hfz20_1, hfz20_2, hfz20_3, hfz20_4⟩ := frozen5_ BK433.out; obtain ⟨Ao21, co21, eo21⟩ := Kd.R_slice HO431.out; subst eo21; obtain ⟨hcz22_0, hcz22_1, hcz22_2, hcz22_3, hcz22_4⟩ := cells5_ BK414.out; obtain ⟨hfz22_0, hfz22_1, hfz22_2, hfz22_3, hfz22_4⟩ := frozen5_ BK414.out))
 refine bodyPost_ret (results_ct rfl _ _ gb414 43 #[.int .i64 t425, .int .i64 t426, .int .i64 t427, .int .i64 t428, .slice Ao21 t429.length co21] (0, 0) _ rfl Zr12 Tryz.underlying43 rfl (by kernel_rfl)) rfl ?_
 exact ⟨_, by first | rfl | (simp [errW_none, errW_some] <;> rfl) | (simp [*, errW_none, errW_some] <;> rfl), by (with_reducible repeat (first | apply Kd.R_alloc | apply Kd.R_drewN | apply Kd.R_drew)); exact Kd.R_mono (Kd.R_far (p := ⟨gb414, 4, none⟩) (Kd.R_far (p := ⟨gb414, 3, none⟩) (Kd.R_far (p := ⟨gb414, 2, none⟩) (Kd.R_far (p := ⟨gb414, 1, none⟩) (Kd.R_far (p := ⟨gb414, 0, none⟩) (Kd.R_far (p := ⟨gb433, 4, none⟩) (Kd.R_far (p := ⟨gb433, 3, none⟩) (Kd.R_far (p := ⟨gb433, 2, none⟩) (Kd.R_far (p := ⟨gb433, 1, none⟩) (Kd.R_far (p := ⟨gb433, 0, none⟩) (Kd.R_types (Kd.R_types HO431.out BK433.out (by decide)) BK414.out (by decide)) (fun _ hk => hk.1.2) (.int .i64 t425)) (fun _ hk => hk.1.2) (.int .i64 t426)) (fun _ hk => hk.1.2) (.int .i64 t427)) (fun _ hk => hk.1.2) (.int .i64 t428)) (fun _ hk => hk.1.2) (.slice Ao21 t429.length co21)) (fun _ hk => hk.2) (.int .i64 t425)) (fun _ hk => hk.2) (.int .i64 t426)) (fun _ hk => hk.2) (.int .i64 t427)) (fun _ hk => hk.2) (.int .i64 t428)) (fun _ hk => hk.2) (.slice Ao21 t429.length co21)) (fun _ hk => trivial), by repeat (first | (with_reducible first | exact HB.out | apply below_alloc | apply pw_below_drewN | apply below_drew1 | refine below_set ?_ GE414.out | refine below_set ?_ GE419.out | refine below_set ?_ GE433.out) | exact HB.out)⟩
def pdu_Same.f (k : Nat) (a0 a1 a2 a3 : Int) (l : List S40) (b0 b1 b2 b3 : Int) (m : List S40) : Option Bool :=
 if a0 = b0 ∧ a1 = b1 ∧ a2 = b2 ∧ a3 = b3 then api_Bind_24.f k l m else some false
theorem pdu_Same.step (i : Nat) (is : List Nat) (xs ys : Array Value) (a b : Int) (W : World) (hx : xs[i]? = some (.int .i64 a)) (hy : ys[i]? = some (.int .i64 b)) : (Op.eqItems 9999 3 1 xs ys (i :: is)).run Tryz.prog W = if (a == b) = true then (Op.eqItems 9999 3 1 xs ys is).run Tryz.prog W else .ok false W := by
 have u3 : Tryz.prog.underlying 3 = some (.int .i64) := by kernel_rfl
 have p3 : Tryz.prog.plainKey 3 = true := by kernel_rfl
 rw [Op.eqItems]
 simp only [Nat.mul_one, Sem.run_bind, run_part_plain W p3 hx, run_part_plain W p3 hy, Result.andThen_ok, run_equalIn_int W 9998 3 .i64 .i64 a b u3]
 cases h : a == b <;> simp
theorem pdu_Same.arr (x0 x1 x2 x3 y0 y1 y2 y3 : Int) (W : World) : (Op.equalIn 10000 70 (.agg #[.int .i64 x0, .int .i64 x1, .int .i64 x2, .int .i64 x3]) (.agg #[.int .i64 y0, .int .i64 y1, .int .i64 y2, .int .i64 y3])).run Tryz.prog W = .ok (decide (x0 = y0 ∧ x1 = y1 ∧ x2 = y2 ∧ x3 = y3)) W := by
 have hi3 : (Tryz.prog.info? 3).isSome = true := by kernel_rfl
 obtain ⟨i3, hi3⟩ := Option.isSome_iff_exists.1 hi3
 have c3 : Tryz.prog.cellsOf 3 = 1 := by kernel_rfl
 rw [run_equalIn_array W 9999 _ _ (show Tryz.prog.underlying 70 = some (.array 4 3) by kernel_rfl) hi3, c3]
 rw [show List.range 4 = [0, 1, 2, 3] from rfl, pdu_Same.step 0 _ _ _ x0 y0 W rfl rfl, pdu_Same.step 1 _ _ _ x1 y1 W rfl rfl, pdu_Same.step 2 _ _ _ x2 y2 W rfl rfl, pdu_Same.step 3 _ _ _ x3 y3 W rfl rfl]
 by_cases h0 : x0 = y0
 ·by_cases h1 : x1 = y1
  ·by_cases h2 : x2 = y2
   ·by_cases h3 : x3 = y3 <;> simp [h0, h1, h2, h3, Op.eqItems]
   ·simp [h0, h1, h2]
  ·simp [h0, h1]
 ·simp [h0]
set_option maxHeartbeats 4000000 in
set_option maxRecDepth 100000 in
theorem pdu_Same.calls (k : Nat) (a0_0 : Int) (a0_1 : Int) (a0_2 : Int) (a0_3 : Int) (A0_4 : Option Addr) (c0_4 : Nat) (l0_4 : List (S40)) (a1_0 : Int) (a1_1 : Int) (a1_2 : Int) (a1_3 : Int) (A1_4 : Option Addr) (c1_4 : Nat) (l1_4 : List (S40)) (r : Bool) (w : World) (hr0_4 : Kd.C k40 w A0_4 l0_4.length l0_4) (hc0_4 : l0_4.length ≤ c0_4) (hr1_4 : Kd.C k40 w A1_4 l1_4.length l1_4) (hc1_4 : l1_4.length ≤ c1_4) (h : pdu_Same.f k a0_0 a0_1 a0_2 a0_3 l0_4 a1_0 a1_1 a1_2 a1_3 l1_4 = some r) :
  Calls Tryz.prog 15 #[.agg #[.int .i64 a0_0, .int .i64 a0_1, .int .i64 a0_2, .int .i64 a0_3, .slice A0_4 l0_4.length c0_4], .agg #[.int .i64 a1_0, .int .i64 a1_1, .int .i64 a1_2, .int .i64 a1_3, .slice A1_4 l1_4.length c1_4]] w fun e w' => e = .returned (.bool r) ∧ Below w.heap.size w w' := by
 have HR0 := Aside0.mk hr0_4
 have HC0 := Aside0.mk hc0_4
 have HR1 := Aside0.mk hr1_4
 have HC1 := Aside0.mk hc1_4
 have HH := Aside0.mk h
 clear hr0_4 hc0_4 hr1_4 hc1_4 h
 have hq := pdu_Same.arr a0_0 a0_1 a0_2 a0_3 a1_0 a1_1 a1_2 a1_3
 obtain ⟨d, hd⟩ : ∃ d, d = decide (a0_0 = a1_0 ∧ a0_1 = a1_1 ∧ a0_2 = a1_2 ∧ a0_3 = a1_3) := ⟨_, rfl⟩
 rw [← hd] at hq
 have HD := Aside0.mk hd
 clear hd
 go_enter Tryz.func15, Tryz.ntmps15
 go_upto_region 2 with (fail)
 obtain ⟨w1, hw1⟩ : ∃ w1, w1 = (w.alloc (.cells #[.int .i64 a0_0, .int .i64 a0_1, .int .i64 a0_2, .int .i64 a0_3, .slice A0_4 l0_4.length c0_4] 43)).alloc (.cells #[.int .i64 a1_0, .int .i64 a1_1, .int .i64 a1_2, .int .i64 a1_3, .slice A1_4 l1_4.length c1_4] 43) := ⟨_, rfl⟩
 have hb1 : Below w.heap.size w w1 := by rw [hw1]; exact below_alloc (below_alloc (Below.refl _ _) _) _
 have hx0 : w1.heap[w.heap.size]? = some (.cells #[.int .i64 a0_0, .int .i64 a0_1, .int .i64 a0_2, .int .i64 a0_3, .slice A0_4 l0_4.length c0_4] 43 (0, 0)) := by rw [hw1]; exact blk_alloc (heap_alloc_new w _) _
 have hx1 : w1.heap[w.heap.size + 1]? = some (.cells #[.int .i64 a1_0, .int .i64 a1_1, .int .i64 a1_2, .int .i64 a1_3, .slice A1_4 l1_4.length c1_4] 43 (0, 0)) := by
  rw [hw1]
  have := heap_alloc_new (w.alloc (.cells #[.int .i64 a0_0, .int .i64 a0_1, .int .i64 a0_2, .int .i64 a0_3, .slice A0_4 l0_4.length c0_4] 43)) (.cells #[.int .i64 a1_0, .int .i64 a1_1, .int .i64 a1_2, .int .i64 a1_3, .slice A1_4 l1_4.length c1_4] 43)
  simpa using this
 have HB1 := Aside0.mk hb1
 have y0 := (blk_cell hx0 4).trans rfl
 have y1 := (blk_cell hx1 4).trans rfl
 rw [← hw1]
 clear hw1 hb1 hx0 hx1 hq
 cases d with
 | false =>
  have hh := HH.out
  unfold pdu_Same.f at hh
  rw [if_neg (of_decide_eq_false HD.out.symm), Option.some.injEq] at hh
  subst hh
  go_wp2
  go_ret
  exact ⟨rfl, HB1.out⟩
 | true =>
  have hh := HH.out
  unfold pdu_Same.f at hh
  rw [if_pos (of_decide_eq_true HD.out.symm)] at hh
  have AE := api_Bind_24.calls k A0_4 c0_4 l0_4 A1_4 c1_4 l1_4 r w1 (Kd.C_below HR0.out HB1.out) HC0.out (Kd.C_below HR1.out HB1.out) HC1.out hh
  clear hh
  go_wp2_with fail
  refine AE.mono ?_
  rintro e w2 ⟨rfl, hd2⟩
  go_wp2
  go_ret
  exact ⟨rfl, Below.trans HB1.out (Below.mono hd2.below HB1.out.size)⟩
end Go.Proofs.YtfmhghlmljlfgaaGreatDoor.XTrS
