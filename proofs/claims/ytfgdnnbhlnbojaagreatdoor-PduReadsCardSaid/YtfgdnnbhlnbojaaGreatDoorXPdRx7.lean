-- Laid by extprint.py (the session's own driver): functions told by the kit's printer and by hand.
import Derived.Test.YtfgdnnbhlnbojaaGreatDoorXPdRx0
import Derived.Test.YtfgdnnbhlnbojaaGreatDoorXPdRx3
import Derived.Test.YtfgdnnbhlnbojaaGreatDoorXPdRx4
import Derived.Test.YtfgdnnbhlnbojaaGreatDoorXPdRx5
import Derived.Test.YtfgdnnbhlnbojaaGreatDoorXPdRx6
namespace Go.Proofs.YtfgdnnbhlnbojaaGreatDoor.XPdR
open Go.RowKit Gong Go.Proofs.YtfgdnnbhlnbojaaGreatDoorW.PrintWords Go.Proofs.YtfgdnnbhlnbojaaGreatDoorW.PrintLast Go.Proofs.YtfgdnnbhlnbojaaGreatDoorW.PrintMore
attribute [local go_sem] max2_int min2_int max_two min_two max_three min_three max_four min_four   -- for this text's walks alone
set_option linter.unusedVariables false
set_option linter.unusedSimpArgs false
def ber_spare.f (a0 : ByteArray) : Option (Bool) := if (a0.size : Int) > 1 then (if 0 < (a0.size : Int) then (if (bt a0 0) = 0 then (if 1 < (a0.size : Int) then (if (bt a0 1) < 128 then (some true) else (if (bt a0 0) = 255 then (some (decide ((bt a0 1) ≥ 128))) else (some false))) else (none)) else (if (bt a0 0) = 255 then (if 1 < (a0.size : Int) then (some (decide ((bt a0 1) ≥ 128))) else (none)) else (some false))) else (none)) else (some false)
set_option maxHeartbeats 8000000 in
set_option maxRecDepth 100000 in
theorem ber_spare.calls (a0 : ByteArray) (r : Bool) (w : World) (h : ber_spare.f a0 = some r) :
  Calls Tryz.prog 55 #[.string a0] w fun e w' => e = .returned (.bool r) ∧ Drawn0 w w' := by
 have H : (if (a0.size : Int) > 1 then (if 0 < (a0.size : Int) then (if (bt a0 0) = 0 then (if 1 < (a0.size : Int) then (if (bt a0 1) < 128 then (some true) else (if (bt a0 0) = 255 then (some (decide ((bt a0 1) ≥ 128))) else (some false))) else (none)) else (if (bt a0 0) = 255 then (if 1 < (a0.size : Int) then (some (decide ((bt a0 1) ≥ 128))) else (none)) else (some false))) else (none)) else (some false)) = some r := h
 clear h
 by_cases c2 : (a0.size : Int) > 1
 rotate_left
 ·rw [if_neg c2] at H
  have c2b0 : decide (1 < (a0.size : Int)) = false := decide_eq_false c2
  have c2b1 : decide (1 < a0.size) = false := decide_eq_false (by omega)
  clear c2
  obtain rfl := Option.some.inj H
  go_enter Tryz.func55, Tryz.ntmps55
  go_wp2
  go_ret
  exact ⟨Zy59, Zy56⟩
 rw [if_pos c2] at H
 have c2b0 : decide (1 < (a0.size : Int)) = true := decide_eq_true c2
 have c2b1 : decide (1 < a0.size) = true := decide_eq_true (by omega)
 clear c2
 by_cases c3 : 0 < (a0.size : Int)
 rotate_left
 ·rw [if_neg c3] at H
  exact absurd H (by simp)
 rw [if_pos c3] at H
 have c3b0 : decide (0 < (a0.size : Int)) = true := decide_eq_true c3
 have c3b1 : decide (0 < a0.size) = true := decide_eq_true (by omega)
 clear c3
 by_cases c5 : (bt a0 0) = 0
 rotate_left
 ·rw [if_neg c5] at H
  have c5b0 : ((bt a0 0) == 0) = false := beq_eq_false_iff_ne.mpr c5
  have c5b1 : ((bt a0 0) != 0) = true := bne_iff_ne.mpr c5
  by_cases c13 : (bt a0 0) = 255
  rotate_left
  ·rw [if_neg c13] at H
   have c13b0 : ((bt a0 0) == 255) = false := beq_eq_false_iff_ne.mpr c13
   have c13b1 : ((bt a0 0) != 255) = true := bne_iff_ne.mpr c13
   obtain rfl := Option.some.inj H
   have p4 : 0 ≤ (0 : Int) := (by omega)
   have q4 : 0 < a0.size := (by have : (0 : Int) < (a0.size : Int) := of_decide_eq_true Zq1; omega)
   have hx4 : ∀ h : 0 < a0.size, ((a0[0]'h).toNat : Int) = bt a0 0 := bt_at a0 0
   clear p4
   have qi4 : (0 < (a0.size : Int)) = True := eq_true (of_decide_eq_true Zq1)
   replace q4 := eq_true q4
   have p12 : 0 ≤ (0 : Int) := (by omega)
   have q12 : 0 < a0.size := (by have : (0 : Int) < (a0.size : Int) := of_decide_eq_true Zq1; omega)
   have hx12 : ∀ h : 0 < a0.size, ((a0[0]'h).toNat : Int) = bt a0 0 := bt_at a0 0
   clear p12
   have qi12 : (0 < (a0.size : Int)) = True := eq_true (of_decide_eq_true Zq1)
   replace q12 := eq_true q12
   go_enter Tryz.func55, Tryz.ntmps55
   go_wp2
   go_ret
   exact ⟨Zy59, Zy56⟩
  rw [if_pos c13] at H
  have c13b0 : ((bt a0 0) == 255) = true := beq_iff_eq.mpr c13
  have c13b1 : ((bt a0 0) != 255) = false := bne_eq_false_iff_eq.mpr c13
  clear c13
  by_cases c14 : 1 < (a0.size : Int)
  rotate_left
  ·rw [if_neg c14] at H
   exact absurd H (by simp)
  rw [if_pos c14] at H
  have c14b0 : decide (1 < (a0.size : Int)) = true := decide_eq_true c14
  have c14b1 : decide (1 < a0.size) = true := decide_eq_true (by omega)
  clear c14
  obtain rfl := Option.some.inj H
  have p4 : 0 ≤ (0 : Int) := (by omega)
  have q4 : 0 < a0.size := (by have : (0 : Int) < (a0.size : Int) := of_decide_eq_true Zq1; omega)
  have hx4 : ∀ h : 0 < a0.size, ((a0[0]'h).toNat : Int) = bt a0 0 := bt_at a0 0
  clear p4
  have qi4 : (0 < (a0.size : Int)) = True := eq_true (of_decide_eq_true Zq1)
  replace q4 := eq_true q4
  have p12 : 0 ≤ (0 : Int) := (by omega)
  have q12 : 0 < a0.size := (by have : (0 : Int) < (a0.size : Int) := of_decide_eq_true Zq1; omega)
  have hx12 : ∀ h : 0 < a0.size, ((a0[0]'h).toNat : Int) = bt a0 0 := bt_at a0 0
  clear p12
  have qi12 : (0 < (a0.size : Int)) = True := eq_true (of_decide_eq_true Zq1)
  replace q12 := eq_true q12
  have p15 : 0 ≤ (1 : Int) := (by omega)
  have q15 : 1 < a0.size := (by have : (1 : Int) < (a0.size : Int) := of_decide_eq_true Zq1; omega)
  have hx15 : ∀ h : 1 < a0.size, ((a0[1]'h).toNat : Int) = bt a0 1 := bt_at a0 1
  clear p15
  have qi15 : (1 < (a0.size : Int)) = True := eq_true (of_decide_eq_true Zq1)
  replace q15 := eq_true q15
  go_enter Tryz.func55, Tryz.ntmps55
  go_wp2
  go_ret
  exact ⟨Zy59, Zy56⟩
 rw [if_pos c5] at H
 have c5b0 : ((bt a0 0) == 0) = true := beq_iff_eq.mpr c5
 have c5b1 : ((bt a0 0) != 0) = false := bne_eq_false_iff_eq.mpr c5
 clear c5
 by_cases c6 : 1 < (a0.size : Int)
 rotate_left
 ·rw [if_neg c6] at H
  exact absurd H (by simp)
 rw [if_pos c6] at H
 have c6b0 : decide (1 < (a0.size : Int)) = true := decide_eq_true c6
 have c6b1 : decide (1 < a0.size) = true := decide_eq_true (by omega)
 clear c6
 by_cases c8 : (bt a0 1) < 128
 ·rw [if_pos c8] at H
  have c8b0 : decide ((bt a0 1) < 128) = true := decide_eq_true c8
  clear c8
  obtain rfl := Option.some.inj H
  have p4 : 0 ≤ (0 : Int) := (by omega)
  have q4 : 0 < a0.size := (by have : (0 : Int) < (a0.size : Int) := of_decide_eq_true Zq1; omega)
  have hx4 : ∀ h : 0 < a0.size, ((a0[0]'h).toNat : Int) = bt a0 0 := bt_at a0 0
  clear p4
  have qi4 : (0 < (a0.size : Int)) = True := eq_true (of_decide_eq_true Zq1)
  replace q4 := eq_true q4
  have p7 : 0 ≤ (1 : Int) := (by omega)
  have q7 : 1 < a0.size := (by have : (1 : Int) < (a0.size : Int) := of_decide_eq_true Zq1; omega)
  have hx7 : ∀ h : 1 < a0.size, ((a0[1]'h).toNat : Int) = bt a0 1 := bt_at a0 1
  clear p7
  have qi7 : (1 < (a0.size : Int)) = True := eq_true (of_decide_eq_true Zq1)
  replace q7 := eq_true q7
  go_enter Tryz.func55, Tryz.ntmps55
  go_wp2
  go_ret
  exact ⟨Zy59, Zy56⟩
 rw [if_neg c8] at H
 have c8b0 : decide ((bt a0 1) < 128) = false := decide_eq_false c8
 clear c8
 by_cases c10 : (bt a0 0) = 255
 rotate_left
 ·rw [if_neg c10] at H
  have c10b0 : ((bt a0 0) == 255) = false := beq_eq_false_iff_ne.mpr c10
  have c10b1 : ((bt a0 0) != 255) = true := bne_iff_ne.mpr c10
  obtain rfl := Option.some.inj H
  have p4 : 0 ≤ (0 : Int) := (by omega)
  have q4 : 0 < a0.size := (by have : (0 : Int) < (a0.size : Int) := of_decide_eq_true Zq1; omega)
  have hx4 : ∀ h : 0 < a0.size, ((a0[0]'h).toNat : Int) = bt a0 0 := bt_at a0 0
  clear p4
  have qi4 : (0 < (a0.size : Int)) = True := eq_true (of_decide_eq_true Zq1)
  replace q4 := eq_true q4
  have p7 : 0 ≤ (1 : Int) := (by omega)
  have q7 : 1 < a0.size := (by have : (1 : Int) < (a0.size : Int) := of_decide_eq_true Zq1; omega)
  have hx7 : ∀ h : 1 < a0.size, ((a0[1]'h).toNat : Int) = bt a0 1 := bt_at a0 1
  clear p7
  have qi7 : (1 < (a0.size : Int)) = True := eq_true (of_decide_eq_true Zq1)
  replace q7 := eq_true q7
  have p9 : 0 ≤ (0 : Int) := (by omega)
  have q9 : 0 < a0.size := (by have : (0 : Int) < (a0.size : Int) := of_decide_eq_true Zq1; omega)
  have hx9 : ∀ h : 0 < a0.size, ((a0[0]'h).toNat : Int) = bt a0 0 := bt_at a0 0
  clear p9
  have qi9 : (0 < (a0.size : Int)) = True := eq_true (of_decide_eq_true Zq1)
  replace q9 := eq_true q9
  go_enter Tryz.func55, Tryz.ntmps55
  go_wp2
  go_ret
  exact ⟨Zy59, Zy56⟩
 rw [if_pos c10] at H
 have c10b0 : ((bt a0 0) == 255) = true := beq_iff_eq.mpr c10
 have c10b1 : ((bt a0 0) != 255) = false := bne_eq_false_iff_eq.mpr c10
 clear c10
 obtain rfl := Option.some.inj H
 have p4 : 0 ≤ (0 : Int) := (by omega)
 have q4 : 0 < a0.size := (by have : (0 : Int) < (a0.size : Int) := of_decide_eq_true Zq1; omega)
 have hx4 : ∀ h : 0 < a0.size, ((a0[0]'h).toNat : Int) = bt a0 0 := bt_at a0 0
 clear p4
 have qi4 : (0 < (a0.size : Int)) = True := eq_true (of_decide_eq_true Zq1)
 replace q4 := eq_true q4
 have p7 : 0 ≤ (1 : Int) := (by omega)
 have q7 : 1 < a0.size := (by have : (1 : Int) < (a0.size : Int) := of_decide_eq_true Zq1; omega)
 have hx7 : ∀ h : 1 < a0.size, ((a0[1]'h).toNat : Int) = bt a0 1 := bt_at a0 1
 clear p7
 have qi7 : (1 < (a0.size : Int)) = True := eq_true (of_decide_eq_true Zq1)
 replace q7 := eq_true q7
 have p9 : 0 ≤ (0 : Int) := (by omega)
 have q9 : 0 < a0.size := (by have : (0 : Int) < (a0.size : Int) := of_decide_eq_true Zq1; omega)
 have hx9 : ∀ h : 0 < a0.size, ((a0[0]'h).toNat : Int) = bt a0 0 := bt_at a0 0
 clear p9
 have qi9 : (0 < (a0.size : Int)) = True := eq_true (of_decide_eq_true Zq1)
 replace q9 := eq_true q9
 have p11 : 0 ≤ (1 : Int) := (by omega)
 have q11 : 1 < a0.size := (by have : (1 : Int) < (a0.size : Int) := of_decide_eq_true Zq1; omega)
 have hx11 : ∀ h : 1 < a0.size, ((a0[1]'h).toNat : Int) = bt a0 1 := bt_at a0 1
 clear p11
 have qi11 : (1 < (a0.size : Int)) = True := eq_true (of_decide_eq_true Zq1)
 replace q11 := eq_true q11
 go_enter Tryz.func55, Tryz.ntmps55
 go_wp2
 go_ret
 exact ⟨Zy59, Zy56⟩
def ber_trimmed.l0 : Nat → ByteArray → Option (ByteArray)
 | 0, _ => none
 | k + 1, x3 => (ber_spare.f x3).bind fun t151 => (if t151 = true then (if 1 ≤ (x3.size : Int) then (ber_trimmed.l0 k (x3.extract 1 x3.size)) else (none)) else (some x3))
def ber_trimmed.f (k : Nat) (l0 : List Int) : Option (ByteArray) := ber_trimmed.l0 k (strOfNums l0)
set_option maxHeartbeats 8000000 in
set_option maxRecDepth 100000 in
theorem ber_trimmed.calls (k : Nat) (A0 : Option Addr) (c0 : Nat) (l0 : List Int) (r : ByteArray) (w : World) (hr0 : Kd.C (Kd.int .u8) w A0 l0.length l0) (hc0 : l0.length ≤ c0) (h : ber_trimmed.f k l0 = some r) :
  Calls Tryz.prog 42 #[.slice A0 l0.length c0] w fun e w' => e = .returned (.string r) ∧ Drawn0 w w' := by
 have HR0 := Aside0.mk hr0
 have HC0 := Aside0.mk hc0
 clear hr0 hc0
 have H : (ber_trimmed.l0 k (strOfNums l0)) = some r := h
 clear h
 have H' := Aside0.mk H
 clear H
 have hcv2 := Kd.C_string (P := Tryz.prog) (A := A0) (c := c0) Tryz.underlying53 Tryz.underlying5 Tryz.underlying9 HR0.out
 go_enter Tryz.func42, Tryz.ntmps42
 go_wp2
 go_loopg [3] k (fun kq v3 w' => ∃ (x3_1 : ByteArray), v3 = .string x3_1 ∧ Aside0 (ber_trimmed.l0 kq x3_1 = some r) ∧ Aside0 (kq ≤ k) ∧ Drawn0 w w')
 case atStart => exact ⟨(strOfNums l0), Zq11, H', ⟨Nat.le_refl _⟩, Zy56⟩
 case round =>
  clear H'
  (try clear p2); (try clear hcv2)
  obtain ⟨x3_1, rfl, HA, HK1, ⟨m1, rfl⟩⟩ := hrel
  cases gk with
  | zero => exact absurd HA.out (by simp [ber_trimmed.l0])
  | succ k1 =>
   have H := HA.out
   clear HA
   simp only [ber_trimmed.l0] at H
   replace H := Option.bind_eq_some_iff.mp H
   obtain ⟨t151, A30, H⟩ := H
   replace H : (if t151 = true then (if 1 ≤ (x3_1.size : Int) then (ber_trimmed.l0 k1 (x3_1.extract 1 x3_1.size)) else (none)) else (some x3_1)) = some r := H
   have A3 := Aside0.mk A30
   clear A30
   by_cases c4 : t151 = true
   ·subst c4
    have H1 : (if 1 ≤ (x3_1.size : Int) then (ber_trimmed.l0 k1 (x3_1.extract 1 x3_1.size)) else (none)) = some r := by rw [if_pos rfl] at H; exact H
    clear H
    have H := H1
    clear H1
    by_cases c5 : 1 ≤ (x3_1.size : Int)
    ·rw [if_pos c5] at H
     have c5b0 := eq_true c5
     have c5b1 : decide (1 ≤ (x3_1.size : Int)) = true := decide_eq_true c5
     clear c5
     have H' := Aside0.mk H
     clear H
     go_wp2_with (first | ((with_reducible refine gate_callee (f := 55) rfl ?_); refine goesL_ (some 7) rfl rfl Tryz.func55 (by kernel_rfl) rfl #[.string x3_1] rfl Zq13 ?_; (with_reducible refine (ber_spare.calls x3_1 true _ A3.out).mono ?_); rintro e w' ⟨rfl, ⟨nd, rfl⟩⟩; refine ⟨_, rfl, ?_⟩))
     go_roundg k1
     case measure => have := HK1.out; omega
     case rel => exact ⟨(x3_1.extract 1 x3_1.size), Zq11, H', ⟨by have := HK1.out; omega⟩, Zy56⟩
    ·rw [if_neg c5] at H
     exact absurd H (by simp)
   ·replace c4 := Bool.eq_false_iff.mpr c4
    subst c4
    have H1 : (some x3_1) = some r := by rw [if_neg (show ¬ (false = true) by decide)] at H; exact H
    clear H
    have H := H1
    clear H1
    obtain rfl := Option.some.inj H
    go_wp2_with (first | ((with_reducible refine gate_callee (f := 55) rfl ?_); refine goesL_ (some 7) rfl rfl Tryz.func55 (by kernel_rfl) rfl #[.string x3_1] rfl Zq13 ?_; (with_reducible refine (ber_spare.calls x3_1 false _ A3.out).mono ?_); rintro e w' ⟨rfl, ⟨nd, rfl⟩⟩; refine ⟨_, rfl, ?_⟩))
    go_ret
    exact ⟨Zy59, Zy56⟩
def ber_PutNumber.f (k : Nat) (a0 : Int) : Option ByteArray := ber_trimmed.f k (bytes8 a0)
set_option maxHeartbeats 1600000 in
set_option maxRecDepth 100000 in
theorem ber_PutNumber.calls (k : Nat) (a0 : Int) (r : ByteArray) (w : World) (h : ber_PutNumber.f k a0 = some r) :
  Calls Tryz.prog 23 #[.int .i64 a0] w fun e w' => e = .returned (.string r) ∧ Below w.heap.size w w' := by
 have H := Aside0.mk h
 clear h
 go_enter Tryz.func23, Tryz.ntmps23
 go_wp2_with fail
 have hblk : (w.alloc (.cells #[.int .u8 0, .int .u8 0, .int .u8 0, .int .u8 0, .int .u8 0, .int .u8 0, .int .u8 0, .int .u8 0] 85)).heap[w.heap.size]? = some (.cells (rowIf 8 (fun i => a0 / 2 ^ (8 * (7 - i)) % 256) (fun i => decide (i < 0))) 85 (0, 0)) := by
  rw [heap_alloc_new w _]
  rfl
 have HK := Aside0.mk hblk
 have HB := Aside0.mk (below_alloc (Below.refl w.heap.size w) (.cells #[.int .u8 0, .int .u8 0, .int .u8 0, .int .u8 0, .int .u8 0, .int .u8 0, .int .u8 0, .int .u8 0] 85))
 clear hblk
 obtain ⟨w1, hw1⟩ : ∃ w1, w1 = w.alloc (.cells #[.int .u8 0, .int .u8 0, .int .u8 0, .int .u8 0, .int .u8 0, .int .u8 0, .int .u8 0, .int .u8 0] 85) := ⟨_, rfl⟩
 rw [← hw1] at HB HK ⊢
 clear hw1
 obtain ⟨g, hg⟩ : ∃ g, g = w.heap.size := ⟨_, rfl⟩
 have GE := Aside0.mk (Nat.le_of_eq hg.symm)
 rw [← hg] at HK ⊢
 clear hg
 go_loopw [5] (fun v W => ∃ k : Nat, k ≤ 8 ∧ v = .int .i64 k ∧ Aside0 (W.heap[g]? = some (.cells (rowIf 8 (fun i => a0 / 2 ^ (8 * (7 - i)) % 256) (fun i => decide (i < k))) 85 (0, 0))) ∧ Aside0 (Below w.heap.size w W)) (fun v _ => 8 - (intOf v).toNat)
 case atStart => exact ⟨0, Nat.zero_le _, rfl, HK, HB⟩
 case round =>
  obtain ⟨j, hj, rfl, HK, HB⟩ := hrel
  by_cases hlt : j < 8
  ·have hc := (blk_cell HK.out j).trans (rowIf_get _ _ _ _ hlt)
   have hf := blk_frozen HK.out j
   go_wp2
   go_roundw
   case rel =>
    refine ⟨j + 1, by omega, by go_num, ⟨blk_put HK.out j _ ?_⟩, ⟨below_set HB.out GE.out⟩⟩
    exact rowIf_set 8 (fun i => a0 / 2 ^ (8 * (7 - i)) % 256) _ _ j (fun i hi => by rw [Bool.eq_iff_iff]; simp; omega)
   case measure => simp [intOf]; omega
  ·obtain rfl : j = 8 := by omega
   go_wp2_with fail
   have hr : ReadsInt wr .u8 (some ⟨g, 0, none⟩) 8 (bytes8 a0) := by
    refine ⟨by simp [bytes8], by omega, fun _ => ⟨_, rfl, fun i hi => ?_⟩⟩
    have := (blk_cell HK.out i).trans (rowIf_get _ _ _ _ hi)
    have e : (⟨g, 0, none⟩ : Addr).add i = ⟨g, i, none⟩ := by
     by_cases h0 : i = 0
     ·subst h0; rfl
     ·simp [Addr.add, h0]
    rw [e, this]
    simp [bytes8, hi]
   refine (ber_trimmed.calls k (some ⟨g, 0, none⟩) 8 (bytes8 a0) r _ (Kd.C_of_reads (d := (0 : Int)) (h1 := fun _ => rfl) hr) (Nat.le_refl _) H.out).mono ?_
   rintro e w2 ⟨rfl, m, rfl⟩
   go_wp2
   go_ret
   exact ⟨rfl, pw_below_drewN HB.out m⟩
def ber_PutUnsigned.f (k : Nat) (a0 : Int) : Option ByteArray := ber_trimmed.f k (bytes9 a0)
set_option maxHeartbeats 1600000 in
set_option maxRecDepth 100000 in
theorem ber_PutUnsigned.calls (k : Nat) (a0 : Int) (r : ByteArray) (w : World) (h : ber_PutUnsigned.f k a0 = some r) :
  Calls Tryz.prog 65 #[.int .u64 a0] w fun e w' => e = .returned (.string r) ∧ Below w.heap.size w w' := by
 have H := Aside0.mk h
 clear h
 go_enter Tryz.func65, Tryz.ntmps65
 go_wp2_with fail
 have hblk : (w.alloc (.cells #[.int .u8 0, .int .u8 0, .int .u8 0, .int .u8 0, .int .u8 0, .int .u8 0, .int .u8 0, .int .u8 0, .int .u8 0] 134)).heap[w.heap.size]? = some (.cells (rowIf 9 (fun i => byte9 a0 i) (fun i => decide (i < 1))) 134 (0, 0)) := by
  rw [heap_alloc_new w _]
  rfl
 have HK := Aside0.mk hblk
 have HB := Aside0.mk (below_alloc (Below.refl w.heap.size w) (.cells #[.int .u8 0, .int .u8 0, .int .u8 0, .int .u8 0, .int .u8 0, .int .u8 0, .int .u8 0, .int .u8 0, .int .u8 0] 134))
 clear hblk
 obtain ⟨w1, hw1⟩ : ∃ w1, w1 = w.alloc (.cells #[.int .u8 0, .int .u8 0, .int .u8 0, .int .u8 0, .int .u8 0, .int .u8 0, .int .u8 0, .int .u8 0, .int .u8 0] 134) := ⟨_, rfl⟩
 rw [← hw1] at HB HK ⊢
 clear hw1
 obtain ⟨g, hg⟩ : ∃ g, g = w.heap.size := ⟨_, rfl⟩
 have GE := Aside0.mk (Nat.le_of_eq hg.symm)
 rw [← hg] at HK ⊢
 clear hg
 go_loopw [5] (fun v W => ∃ k : Nat, k ≤ 8 ∧ v = .int .i64 k ∧ Aside0 (W.heap[g]? = some (.cells (rowIf 9 (fun i => byte9 a0 i) (fun i => decide (i < k + 1))) 134 (0, 0))) ∧ Aside0 (Below w.heap.size w W)) (fun v _ => 8 - (intOf v).toNat)
 case atStart => exact ⟨0, Nat.zero_le _, rfl, HK, HB⟩
 case round =>
  obtain ⟨j, hj, rfl, HK, HB⟩ := hrel
  by_cases hlt : j < 8
  ·have hc := (blk_cell HK.out (1 + j)).trans (rowIf_get _ _ _ _ (show 1 + j < 9 by omega))
   have hf := blk_frozen HK.out (1 + j)
   go_wp2
   go_roundw
   case rel =>
    rw [← byte9_succ]
    refine ⟨j + 1, by omega, by go_num, ?_, ?_⟩
    rotate_left
    ·exact ⟨below_set HB.out GE.out⟩
    refine ⟨blk_put HK.out (1 + j) (.int .u8 (byte9 a0 (1 + j))) ?_⟩
    exact rowIf_set 9 (fun i => byte9 a0 i) _ _ (1 + j) (fun i hi => by rw [Bool.eq_iff_iff]; simp; omega)
   case measure => simp [intOf]; omega
  ·obtain rfl : j = 8 := by omega
   go_wp2_with fail
   have hr : ReadsInt wr .u8 (some ⟨g, 0, none⟩) 9 (bytes9 a0) := by
    refine ⟨by simp [bytes9], by omega, fun _ => ⟨_, rfl, fun i hi => ?_⟩⟩
    have := (blk_cell HK.out i).trans (rowIf_get _ _ _ _ hi)
    have e : (⟨g, 0, none⟩ : Addr).add i = ⟨g, i, none⟩ := by
     by_cases h0 : i = 0
     ·subst h0; rfl
     ·simp [Addr.add, h0]
    rw [e, this]
    simp [bytes9, hi]
   refine (ber_trimmed.calls k (some ⟨g, 0, none⟩) 9 (bytes9 a0) r _ (Kd.C_of_reads (d := (0 : Int)) (h1 := fun _ => rfl) hr) (Nat.le_refl _) H.out).mono ?_
   rintro e w2 ⟨rfl, m, rfl⟩
   go_wp2
   go_ret
   exact ⟨rfl, pw_below_drewN HB.out m⟩
def value_Encode.f (k : Nat) (a0_0 : Int) (a0_1 : Int) (a0_2 : ByteArray) : Option (ByteArray × Int) := (value_right.f k a0_0 a0_1 a0_2).bind fun t153 => (if t153 = true then ((value_of.f a0_0).bind fun t154 => (if t154 = 1 then ((ber_PutNumber.f k a0_1).bind fun t155 => ((ber_Wrap.f k a0_0 t155).bind fun bt156 => (some (bt156.1, bt156.2)))) else (if t154 = 2 then ((ber_PutUnsigned.f k (IntKind.u64.wrap (a0_1))).bind fun t158 => ((ber_Wrap.f k a0_0 t158).bind fun bt159 => (some (bt159.1, bt159.2)))) else (if t154 = 4 then ((oid_Encode.f k a0_2).bind fun bt161 => ((ber_Wrap.f k a0_0 bt161.1).bind fun bt163 => (some (bt163.1, bt163.2)))) else ((ber_Wrap.f k a0_0 a0_2).bind fun bt165 => (some (bt165.1, bt165.2))))))) else (some ((⟨#[]⟩ : ByteArray), 70)))
set_option maxHeartbeats 8000000 in
set_option maxRecDepth 100000 in
theorem value_Encode.calls (k : Nat) (a0_0 : Int) (a0_1 : Int) (a0_2 : ByteArray) (r1 : ByteArray) (r2 : Int) (w : World) (hG : Gl w) (h : value_Encode.f k a0_0 a0_1 a0_2 = some (r1, r2)) :
  Calls Tryz.prog 40 #[.agg #[.int .i64 a0_0, .int .i64 a0_1, .string a0_2]] w fun e w' => e = .returned (.tuple #[.string r1, .int .i64 r2]) ∧ Below w.heap.size w w' := by
 have HGl := Aside0.mk hG
 clear hG
 have hu28 := Tryz.underlying28
 have HB := Aside0.mk (Below.refl w.heap.size w)
 have H : ((value_right.f k a0_0 a0_1 a0_2).bind fun t153 => (if t153 = true then ((value_of.f a0_0).bind fun t154 => (if t154 = 1 then ((ber_PutNumber.f k a0_1).bind fun t155 => ((ber_Wrap.f k a0_0 t155).bind fun bt156 => (some (bt156.1, bt156.2)))) else (if t154 = 2 then ((ber_PutUnsigned.f k (IntKind.u64.wrap (a0_1))).bind fun t158 => ((ber_Wrap.f k a0_0 t158).bind fun bt159 => (some (bt159.1, bt159.2)))) else (if t154 = 4 then ((oid_Encode.f k a0_2).bind fun bt161 => ((ber_Wrap.f k a0_0 bt161.1).bind fun bt163 => (some (bt163.1, bt163.2)))) else ((ber_Wrap.f k a0_0 a0_2).bind fun bt165 => (some (bt165.1, bt165.2))))))) else (some ((⟨#[]⟩ : ByteArray), 70)))) = some (r1, r2) := h
 clear h
 replace H := Option.bind_eq_some_iff.mp H
 obtain ⟨t153, A20, H⟩ := H
 replace H : (if t153 = true then ((value_of.f a0_0).bind fun t154 => (if t154 = 1 then ((ber_PutNumber.f k a0_1).bind fun t155 => ((ber_Wrap.f k a0_0 t155).bind fun bt156 => (some (bt156.1, bt156.2)))) else (if t154 = 2 then ((ber_PutUnsigned.f k (IntKind.u64.wrap (a0_1))).bind fun t158 => ((ber_Wrap.f k a0_0 t158).bind fun bt159 => (some (bt159.1, bt159.2)))) else (if t154 = 4 then ((oid_Encode.f k a0_2).bind fun bt161 => ((ber_Wrap.f k a0_0 bt161.1).bind fun bt163 => (some (bt163.1, bt163.2)))) else ((ber_Wrap.f k a0_0 a0_2).bind fun bt165 => (some (bt165.1, bt165.2))))))) else (some ((⟨#[]⟩ : ByteArray), 70))) = some (r1, r2) := H
 have A2 := Aside0.mk A20
 clear A20
 by_cases c3 : t153 = true
 rotate_left
 ·replace c3 := Bool.eq_false_iff.mpr c3
  subst c3
  have H1 : (some ((⟨#[]⟩ : ByteArray), 70)) = some (r1, r2) := by rw [if_neg (show ¬ (false = true) by decide)] at H; exact H
  clear H
  have H := H1
  clear H1
  simp only [Option.some.injEq, Prod.mk.injEq] at H
  obtain ⟨rfl, rfl⟩ := H
  go_enter Tryz.func40, Tryz.ntmps40
  go_wp2_with (first | ((with_reducible refine gate_dst (N := 1) rfl ?_); refine box_event ?hg (N := 1) ?hd (cs := #[.int .i64 a0_0, .int .i64 a0_1, .string a0_2]) (t := 28) ?hr ?_; (case hd => rfl); (case hg => rfl); (case hr => exact Zq2); intro gb152 hg w41 hbox hb; have BK152 := Aside0.mk (hbox); have GW152 := Aside0.mk ((Zq50 : w.heap.size ≤ gb152)); have GE152 := Aside0.mk ((Zq50 : w.heap.size ≤ gb152)); replace HB := Aside0.mk (below_step Zq12 hb); clear hb hbox hg; obtain ⟨hcz42_0, hcz42_1, hcz42_2⟩ := cells3_ BK152.out; obtain ⟨hfz42_0, hfz42_1, hfz42_2⟩ := frozen3_ BK152.out) | ((with_reducible refine gate_callee (f := 63) rfl ?_); refine goesL_ (some 6) rfl rfl Tryz.func63 (by kernel_rfl) rfl #[.agg #[.int .i64 a0_0, .int .i64 a0_1, .string a0_2]] rfl Zq13 ?_; (with_reducible refine (value_right.calls k a0_0 a0_1 a0_2 false _ ?side1 A2.out).mono ?_); (case side1 => exact Zq56); rintro e w43 ⟨rfl, hb⟩; refine ⟨_, rfl, ?_⟩; replace BK152 := Aside0.mk (blkb_ BK152.out Zq31 hb); replace HB := Aside0.mk (below_step Zq18 hb); (try clear hb); (try clear hb2); (try clear hk); (try clear hi)))
  go_ret2
  exact ⟨Zy41, Zy31⟩
 subst c3
 have H1 : ((value_of.f a0_0).bind fun t154 => (if t154 = 1 then ((ber_PutNumber.f k a0_1).bind fun t155 => ((ber_Wrap.f k a0_0 t155).bind fun bt156 => (some (bt156.1, bt156.2)))) else (if t154 = 2 then ((ber_PutUnsigned.f k (IntKind.u64.wrap (a0_1))).bind fun t158 => ((ber_Wrap.f k a0_0 t158).bind fun bt159 => (some (bt159.1, bt159.2)))) else (if t154 = 4 then ((oid_Encode.f k a0_2).bind fun bt161 => ((ber_Wrap.f k a0_0 bt161.1).bind fun bt163 => (some (bt163.1, bt163.2)))) else ((ber_Wrap.f k a0_0 a0_2).bind fun bt165 => (some (bt165.1, bt165.2))))))) = some (r1, r2) := by rw [if_pos rfl] at H; exact H
 clear H
 have H := H1
 clear H1
 replace H := Option.bind_eq_some_iff.mp H
 obtain ⟨t154, A40, H⟩ := H
 replace H : (if t154 = 1 then ((ber_PutNumber.f k a0_1).bind fun t155 => ((ber_Wrap.f k a0_0 t155).bind fun bt156 => (some (bt156.1, bt156.2)))) else (if t154 = 2 then ((ber_PutUnsigned.f k (IntKind.u64.wrap (a0_1))).bind fun t158 => ((ber_Wrap.f k a0_0 t158).bind fun bt159 => (some (bt159.1, bt159.2)))) else (if t154 = 4 then ((oid_Encode.f k a0_2).bind fun bt161 => ((ber_Wrap.f k a0_0 bt161.1).bind fun bt163 => (some (bt163.1, bt163.2)))) else ((ber_Wrap.f k a0_0 a0_2).bind fun bt165 => (some (bt165.1, bt165.2)))))) = some (r1, r2) := H
 have A4 := Aside0.mk A40
 clear A40
 by_cases c5 : t154 = 1
 ·rw [if_pos c5] at H
  have c5b0 : (t154 == 1) = true := beq_iff_eq.mpr c5
  have c5b1 : (t154 != 1) = false := bne_eq_false_iff_eq.mpr c5
  clear c5
  replace H := Option.bind_eq_some_iff.mp H
  obtain ⟨t155, A60, H⟩ := H
  replace H : ((ber_Wrap.f k a0_0 t155).bind fun bt156 => (some (bt156.1, bt156.2))) = some (r1, r2) := H
  have A6 := Aside0.mk A60
  clear A60
  replace H := Option.bind_eq_some_iff.mp H
  obtain ⟨⟨t156, t157⟩, A70, H⟩ := H
  replace H : (some (t156, t157)) = some (r1, r2) := H
  have A7 := Aside0.mk A70
  clear A70
  simp only [Option.some.injEq, Prod.mk.injEq] at H
  obtain ⟨rfl, rfl⟩ := H
  go_enter Tryz.func40, Tryz.ntmps40
  go_wp2_with (first | ((with_reducible refine gate_dst (N := 1) rfl ?_); refine box_event ?hg (N := 1) ?hd (cs := #[.int .i64 a0_0, .int .i64 a0_1, .string a0_2]) (t := 28) ?hr ?_; (case hd => rfl); (case hg => rfl); (case hr => exact Zq2); intro gb152 hg w8 hbox hb; have BK152 := Aside0.mk (hbox); have GW152 := Aside0.mk ((Zq50 : w.heap.size ≤ gb152)); have GE152 := Aside0.mk ((Zq50 : w.heap.size ≤ gb152)); replace HB := Aside0.mk (below_step Zq12 hb); clear hb hbox hg; obtain ⟨hcz9_0, hcz9_1, hcz9_2⟩ := cells3_ BK152.out; obtain ⟨hfz9_0, hfz9_1, hfz9_2⟩ := frozen3_ BK152.out) | ((with_reducible refine gate_callee (f := 63) rfl ?_); refine goesL_ (some 6) rfl rfl Tryz.func63 (by kernel_rfl) rfl #[.agg #[.int .i64 a0_0, .int .i64 a0_1, .string a0_2]] rfl Zq13 ?_; (with_reducible refine (value_right.calls k a0_0 a0_1 a0_2 true _ ?side1 A2.out).mono ?_); (case side1 => exact Zq56); rintro e w10 ⟨rfl, hb⟩; refine ⟨_, rfl, ?_⟩; replace BK152 := Aside0.mk (blkb_ BK152.out Zq31 hb); replace HB := Aside0.mk (below_step Zq18 hb); (try clear hb); (try clear hb2); (try clear hk); (try clear hi); obtain ⟨hcz11_0, hcz11_1, hcz11_2⟩ := cells3_ BK152.out; obtain ⟨hfz11_0, hfz11_1, hfz11_2⟩ := frozen3_ BK152.out) | ((with_reducible refine gate_callee (f := 64) rfl ?_); refine goesL_ (some 12) rfl rfl Tryz.func64 (by kernel_rfl) rfl #[.int .i64 a0_0] rfl Zq13 ?_; (with_reducible refine (value_of.calls a0_0 t154 _ A4.out).mono ?_); rintro e w' ⟨rfl, ⟨nd, rfl⟩⟩; refine ⟨_, rfl, ?_⟩) | ((with_reducible refine gate_callee (f := 23) rfl ?_); refine goesL_ (some 17) rfl rfl Tryz.func23 (by kernel_rfl) rfl #[.int .i64 a0_1] rfl Zq13 ?_; (with_reducible refine (ber_PutNumber.calls k a0_1 t155 _ A6.out).mono ?_); rintro e w12 ⟨rfl, hb⟩; refine ⟨_, rfl, ?_⟩; replace BK152 := Aside0.mk (blkb_ BK152.out Zq31 hb); replace HB := Aside0.mk (below_step Zq18 hb); (try clear hb); (try clear hb2); (try clear hk); (try clear hi); obtain ⟨hcz13_0, hcz13_1, hcz13_2⟩ := cells3_ BK152.out; obtain ⟨hfz13_0, hfz13_1, hfz13_2⟩ := frozen3_ BK152.out) | ((with_reducible refine gate_callee (f := 41) rfl ?_); refine goesL_ (some 35) rfl rfl Tryz.func41 (by kernel_rfl) rfl #[.int .i64 a0_0, .string t155] rfl Zq13 ?_; (with_reducible refine (ber_Wrap.calls k a0_0 t155 t156 t157 _ A7.out).mono ?_); rintro e w14 ⟨rfl, hb⟩; refine ⟨_, rfl, ?_⟩; replace BK152 := Aside0.mk (blkb_ BK152.out Zq31 hb); replace HB := Aside0.mk (below_step Zq18 hb); (try clear hb); (try clear hb2); (try clear hk); (try clear hi)))
  go_ret2
  exact ⟨Zy41, Zy31⟩
 rw [if_neg c5] at H
 have c5b0 : (t154 == 1) = false := beq_eq_false_iff_ne.mpr c5
 have c5b1 : (t154 != 1) = true := bne_iff_ne.mpr c5
 by_cases c15 : t154 = 2
 ·rw [if_pos c15] at H
  have c15b0 : (t154 == 2) = true := beq_iff_eq.mpr c15
  have c15b1 : (t154 != 2) = false := bne_eq_false_iff_eq.mpr c15
  clear c15
  replace H := Option.bind_eq_some_iff.mp H
  obtain ⟨t158, A160, H⟩ := H
  replace H : ((ber_Wrap.f k a0_0 t158).bind fun bt159 => (some (bt159.1, bt159.2))) = some (r1, r2) := H
  have A16 := Aside0.mk A160
  clear A160
  replace H := Option.bind_eq_some_iff.mp H
  obtain ⟨⟨t159, t160⟩, A170, H⟩ := H
  replace H : (some (t159, t160)) = some (r1, r2) := H
  have A17 := Aside0.mk A170
  clear A170
  simp only [Option.some.injEq, Prod.mk.injEq] at H
  obtain ⟨rfl, rfl⟩ := H
  go_enter Tryz.func40, Tryz.ntmps40
  go_wp2_with (first | ((with_reducible refine gate_dst (N := 1) rfl ?_); refine box_event ?hg (N := 1) ?hd (cs := #[.int .i64 a0_0, .int .i64 a0_1, .string a0_2]) (t := 28) ?hr ?_; (case hd => rfl); (case hg => rfl); (case hr => exact Zq2); intro gb152 hg w18 hbox hb; have BK152 := Aside0.mk (hbox); have GW152 := Aside0.mk ((Zq50 : w.heap.size ≤ gb152)); have GE152 := Aside0.mk ((Zq50 : w.heap.size ≤ gb152)); replace HB := Aside0.mk (below_step Zq12 hb); clear hb hbox hg; obtain ⟨hcz19_0, hcz19_1, hcz19_2⟩ := cells3_ BK152.out; obtain ⟨hfz19_0, hfz19_1, hfz19_2⟩ := frozen3_ BK152.out) | ((with_reducible refine gate_callee (f := 63) rfl ?_); refine goesL_ (some 6) rfl rfl Tryz.func63 (by kernel_rfl) rfl #[.agg #[.int .i64 a0_0, .int .i64 a0_1, .string a0_2]] rfl Zq13 ?_; (with_reducible refine (value_right.calls k a0_0 a0_1 a0_2 true _ ?side1 A2.out).mono ?_); (case side1 => exact Zq56); rintro e w20 ⟨rfl, hb⟩; refine ⟨_, rfl, ?_⟩; replace BK152 := Aside0.mk (blkb_ BK152.out Zq31 hb); replace HB := Aside0.mk (below_step Zq18 hb); (try clear hb); (try clear hb2); (try clear hk); (try clear hi); obtain ⟨hcz21_0, hcz21_1, hcz21_2⟩ := cells3_ BK152.out; obtain ⟨hfz21_0, hfz21_1, hfz21_2⟩ := frozen3_ BK152.out) | ((with_reducible refine gate_callee (f := 64) rfl ?_); refine goesL_ (some 12) rfl rfl Tryz.func64 (by kernel_rfl) rfl #[.int .i64 a0_0] rfl Zq13 ?_; (with_reducible refine (value_of.calls a0_0 t154 _ A4.out).mono ?_); rintro e w' ⟨rfl, ⟨nd, rfl⟩⟩; refine ⟨_, rfl, ?_⟩) | ((with_reducible refine gate_callee (f := 65) rfl ?_); refine goesL_ (some 23) rfl rfl Tryz.func65 (by kernel_rfl) rfl #[.int .u64 (IntKind.u64.wrap (a0_1))] rfl Zq13 ?_; (with_reducible refine (ber_PutUnsigned.calls k (IntKind.u64.wrap (a0_1)) t158 _ A16.out).mono ?_); rintro e w22 ⟨rfl, hb⟩; refine ⟨_, rfl, ?_⟩; replace BK152 := Aside0.mk (blkb_ BK152.out Zq31 hb); replace HB := Aside0.mk (below_step Zq18 hb); (try clear hb); (try clear hb2); (try clear hk); (try clear hi); obtain ⟨hcz23_0, hcz23_1, hcz23_2⟩ := cells3_ BK152.out; obtain ⟨hfz23_0, hfz23_1, hfz23_2⟩ := frozen3_ BK152.out) | ((with_reducible refine gate_callee (f := 41) rfl ?_); refine goesL_ (some 35) rfl rfl Tryz.func41 (by kernel_rfl) rfl #[.int .i64 a0_0, .string t158] rfl Zq13 ?_; (with_reducible refine (ber_Wrap.calls k a0_0 t158 t159 t160 _ A17.out).mono ?_); rintro e w24 ⟨rfl, hb⟩; refine ⟨_, rfl, ?_⟩; replace BK152 := Aside0.mk (blkb_ BK152.out Zq31 hb); replace HB := Aside0.mk (below_step Zq18 hb); (try clear hb); (try clear hb2); (try clear hk); (try clear hi)))
  go_ret2
  exact ⟨Zy41, Zy31⟩
 rw [if_neg c15] at H
 have c15b0 : (t154 == 2) = false := beq_eq_false_iff_ne.mpr c15
 have c15b1 : (t154 != 2) = true := bne_iff_ne.mpr c15
 by_cases c25 : t154 = 4
 rotate_left
 ·rw [if_neg c25] at H
  have c25b0 : (t154 == 4) = false := beq_eq_false_iff_ne.mpr c25
  have c25b1 : (t154 != 4) = true := bne_iff_ne.mpr c25
  replace H := Option.bind_eq_some_iff.mp H
  obtain ⟨⟨t165, t166⟩, A350, H⟩ := H
  replace H : (some (t165, t166)) = some (r1, r2) := H
  have A35 := Aside0.mk A350
  clear A350
  simp only [Option.some.injEq, Prod.mk.injEq] at H
  obtain ⟨rfl, rfl⟩ := H
  go_enter Tryz.func40, Tryz.ntmps40
  go_wp2_with (first | ((with_reducible refine gate_dst (N := 1) rfl ?_); refine box_event ?hg (N := 1) ?hd (cs := #[.int .i64 a0_0, .int .i64 a0_1, .string a0_2]) (t := 28) ?hr ?_; (case hd => rfl); (case hg => rfl); (case hr => exact Zq2); intro gb152 hg w36 hbox hb; have BK152 := Aside0.mk (hbox); have GW152 := Aside0.mk ((Zq50 : w.heap.size ≤ gb152)); have GE152 := Aside0.mk ((Zq50 : w.heap.size ≤ gb152)); replace HB := Aside0.mk (below_step Zq12 hb); clear hb hbox hg; obtain ⟨hcz37_0, hcz37_1, hcz37_2⟩ := cells3_ BK152.out; obtain ⟨hfz37_0, hfz37_1, hfz37_2⟩ := frozen3_ BK152.out) | ((with_reducible refine gate_callee (f := 63) rfl ?_); refine goesL_ (some 6) rfl rfl Tryz.func63 (by kernel_rfl) rfl #[.agg #[.int .i64 a0_0, .int .i64 a0_1, .string a0_2]] rfl Zq13 ?_; (with_reducible refine (value_right.calls k a0_0 a0_1 a0_2 true _ ?side1 A2.out).mono ?_); (case side1 => exact Zq56); rintro e w38 ⟨rfl, hb⟩; refine ⟨_, rfl, ?_⟩; replace BK152 := Aside0.mk (blkb_ BK152.out Zq31 hb); replace HB := Aside0.mk (below_step Zq18 hb); (try clear hb); (try clear hb2); (try clear hk); (try clear hi); obtain ⟨hcz39_0, hcz39_1, hcz39_2⟩ := cells3_ BK152.out; obtain ⟨hfz39_0, hfz39_1, hfz39_2⟩ := frozen3_ BK152.out) | ((with_reducible refine gate_callee (f := 64) rfl ?_); refine goesL_ (some 12) rfl rfl Tryz.func64 (by kernel_rfl) rfl #[.int .i64 a0_0] rfl Zq13 ?_; (with_reducible refine (value_of.calls a0_0 t154 _ A4.out).mono ?_); rintro e w' ⟨rfl, ⟨nd, rfl⟩⟩; refine ⟨_, rfl, ?_⟩) | ((with_reducible refine gate_callee (f := 41) rfl ?_); refine goesL_ (some 35) rfl rfl Tryz.func41 (by kernel_rfl) rfl #[.int .i64 a0_0, .string a0_2] rfl Zq13 ?_; (with_reducible refine (ber_Wrap.calls k a0_0 a0_2 t165 t166 _ A35.out).mono ?_); rintro e w40 ⟨rfl, hb⟩; refine ⟨_, rfl, ?_⟩; replace BK152 := Aside0.mk (blkb_ BK152.out Zq31 hb); replace HB := Aside0.mk (below_step Zq18 hb); (try clear hb); (try clear hb2); (try clear hk); (try clear hi)))
  go_ret2
  exact ⟨Zy41, Zy31⟩
 rw [if_pos c25] at H
 have c25b0 : (t154 == 4) = true := beq_iff_eq.mpr c25
 have c25b1 : (t154 != 4) = false := bne_eq_false_iff_eq.mpr c25
 clear c25
 replace H := Option.bind_eq_some_iff.mp H
 obtain ⟨⟨t161, t162⟩, A260, H⟩ := H
 replace H : ((ber_Wrap.f k a0_0 t161).bind fun bt163 => (some (bt163.1, bt163.2))) = some (r1, r2) := H
 have A26 := Aside0.mk A260
 clear A260
 replace H := Option.bind_eq_some_iff.mp H
 obtain ⟨⟨t163, t164⟩, A270, H⟩ := H
 replace H : (some (t163, t164)) = some (r1, r2) := H
 have A27 := Aside0.mk A270
 clear A270
 simp only [Option.some.injEq, Prod.mk.injEq] at H
 obtain ⟨rfl, rfl⟩ := H
 go_enter Tryz.func40, Tryz.ntmps40
 go_wp2_with (first | ((with_reducible refine gate_dst (N := 1) rfl ?_); refine box_event ?hg (N := 1) ?hd (cs := #[.int .i64 a0_0, .int .i64 a0_1, .string a0_2]) (t := 28) ?hr ?_; (case hd => rfl); (case hg => rfl); (case hr => exact Zq2); intro gb152 hg w28 hbox hb; have BK152 := Aside0.mk (hbox); have GW152 := Aside0.mk ((Zq50 : w.heap.size ≤ gb152)); have GE152 := Aside0.mk ((Zq50 : w.heap.size ≤ gb152)); replace HB := Aside0.mk (below_step Zq12 hb); clear hb hbox hg; obtain ⟨hcz29_0, hcz29_1, hcz29_2⟩ := cells3_ BK152.out; obtain ⟨hfz29_0, hfz29_1, hfz29_2⟩ := frozen3_ BK152.out) | ((with_reducible refine gate_callee (f := 63) rfl ?_); refine goesL_ (some 6) rfl rfl Tryz.func63 (by kernel_rfl) rfl #[.agg #[.int .i64 a0_0, .int .i64 a0_1, .string a0_2]] rfl Zq13 ?_; (with_reducible refine (value_right.calls k a0_0 a0_1 a0_2 true _ ?side1 A2.out).mono ?_); (case side1 => exact Zq56); rintro e w30 ⟨rfl, hb⟩; refine ⟨_, rfl, ?_⟩; replace BK152 := Aside0.mk (blkb_ BK152.out Zq31 hb); replace HB := Aside0.mk (below_step Zq18 hb); (try clear hb); (try clear hb2); (try clear hk); (try clear hi); obtain ⟨hcz31_0, hcz31_1, hcz31_2⟩ := cells3_ BK152.out; obtain ⟨hfz31_0, hfz31_1, hfz31_2⟩ := frozen3_ BK152.out) | ((with_reducible refine gate_callee (f := 64) rfl ?_); refine goesL_ (some 12) rfl rfl Tryz.func64 (by kernel_rfl) rfl #[.int .i64 a0_0] rfl Zq13 ?_; (with_reducible refine (value_of.calls a0_0 t154 _ A4.out).mono ?_); rintro e w' ⟨rfl, ⟨nd, rfl⟩⟩; refine ⟨_, rfl, ?_⟩) | ((with_reducible refine gate_callee (f := 39) rfl ?_); refine goesL_ (some 29) rfl rfl Tryz.func39 (by kernel_rfl) rfl #[.string a0_2] rfl Zq13 ?_; (with_reducible refine (oid_Encode.calls k a0_2 t161 t162 _ ?side1 A26.out).mono ?_); (case side1 => exact Zq56); rintro e w32 ⟨rfl, hb⟩; refine ⟨_, rfl, ?_⟩; replace BK152 := Aside0.mk (blkb_ BK152.out Zq31 hb); replace HB := Aside0.mk (below_step Zq18 hb); (try clear hb); (try clear hb2); (try clear hk); (try clear hi); obtain ⟨hcz33_0, hcz33_1, hcz33_2⟩ := cells3_ BK152.out; obtain ⟨hfz33_0, hfz33_1, hfz33_2⟩ := frozen3_ BK152.out) | ((with_reducible refine gate_callee (f := 41) rfl ?_); refine goesL_ (some 35) rfl rfl Tryz.func41 (by kernel_rfl) rfl #[.int .i64 a0_0, .string t161] rfl Zq13 ?_; (with_reducible refine (ber_Wrap.calls k a0_0 t161 t163 t164 _ A27.out).mono ?_); rintro e w34 ⟨rfl, hb⟩; refine ⟨_, rfl, ?_⟩; replace BK152 := Aside0.mk (blkb_ BK152.out Zq31 hb); replace HB := Aside0.mk (below_step Zq18 hb); (try clear hb); (try clear hb2); (try clear hk); (try clear hi)))
 go_ret2
 exact ⟨Zy41, Zy31⟩
def pdu_bind.f (k : Nat) (a0_0 : ByteArray) (a0_1 : Int) (a0_2 : Int) (a0_3 : ByteArray) : Option (ByteArray) := (oid_Encode.f k a0_0).bind fun bt168 => ((value_Encode.f k a0_1 a0_2 a0_3).bind fun bt170 => ((pdu_wrap.f k 6 bt168.1).bind fun t172 => (if t172.size + bt170.1.size ≤ 9223372036854775807 then ((pdu_wrap.f k 48 (t172 ++ bt170.1)).bind fun t173 => (some t173)) else (none))))
set_option maxHeartbeats 8000000 in
set_option maxRecDepth 100000 in
theorem pdu_bind.calls (k : Nat) (a0_0 : ByteArray) (a0_1 : Int) (a0_2 : Int) (a0_3 : ByteArray) (r : ByteArray) (w : World) (hG : Gl w) (h : pdu_bind.f k a0_0 a0_1 a0_2 a0_3 = some r) :
  Calls Tryz.prog 20 #[.agg #[.string a0_0, .int .i64 a0_1, .int .i64 a0_2, .string a0_3]] w fun e w' => e = .returned (.string r) ∧ Below w.heap.size w w' := by
 have HGl := Aside0.mk hG
 clear hG
 have hu30 := Tryz.underlying30
 have hu28 := Tryz.underlying28
 have HB := Aside0.mk (Below.refl w.heap.size w)
 have H : ((oid_Encode.f k a0_0).bind fun bt168 => ((value_Encode.f k a0_1 a0_2 a0_3).bind fun bt170 => ((pdu_wrap.f k 6 bt168.1).bind fun t172 => (if t172.size + bt170.1.size ≤ 9223372036854775807 then ((pdu_wrap.f k 48 (t172 ++ bt170.1)).bind fun t173 => (some t173)) else (none))))) = some r := h
 clear h
 replace H := Option.bind_eq_some_iff.mp H
 obtain ⟨⟨t168, t169⟩, A20, H⟩ := H
 replace H : ((value_Encode.f k a0_1 a0_2 a0_3).bind fun bt170 => ((pdu_wrap.f k 6 t168).bind fun t172 => (if t172.size + bt170.1.size ≤ 9223372036854775807 then ((pdu_wrap.f k 48 (t172 ++ bt170.1)).bind fun t173 => (some t173)) else (none)))) = some r := H
 have A2 := Aside0.mk A20
 clear A20
 replace H := Option.bind_eq_some_iff.mp H
 obtain ⟨⟨t170, t171⟩, A30, H⟩ := H
 replace H : ((pdu_wrap.f k 6 t168).bind fun t172 => (if t172.size + t170.size ≤ 9223372036854775807 then ((pdu_wrap.f k 48 (t172 ++ t170)).bind fun t173 => (some t173)) else (none))) = some r := H
 have A3 := Aside0.mk A30
 clear A30
 replace H := Option.bind_eq_some_iff.mp H
 obtain ⟨t172, A40, H⟩ := H
 replace H : (if t172.size + t170.size ≤ 9223372036854775807 then ((pdu_wrap.f k 48 (t172 ++ t170)).bind fun t173 => (some t173)) else (none)) = some r := H
 have A4 := Aside0.mk A40
 clear A40
 by_cases c5 : t172.size + t170.size ≤ 9223372036854775807
 rotate_left
 ·rw [if_neg c5] at H
  exact absurd H (by simp)
 rw [if_pos c5] at H
 have c5b0 := eq_true c5
 have c5b1 : decide (t172.size + t170.size ≤ 9223372036854775807) = true := decide_eq_true c5
 try have c5b2 : (9223372036854775807 < t172.size + t170.size) = False := eq_false (Nat.not_lt.2 c5)
 replace H := Option.bind_eq_some_iff.mp H
 obtain ⟨t173, A60, H⟩ := H
 replace H : (some t173) = some r := H
 have A6 := Aside0.mk A60
 clear A60
 obtain rfl := Option.some.inj H
 go_enter Tryz.func20, Tryz.ntmps20
 go_wp2_with (first | ((with_reducible refine gate_dst (N := 1) rfl ?_); refine box_event ?hg (N := 1) ?hd (cs := #[.string a0_0, .int .i64 a0_1, .int .i64 a0_2, .string a0_3]) (t := 30) ?hr ?_; (case hd => rfl); (case hg => rfl); (case hr => exact Zq2); intro gb167 hg w7 hbox hb; have BK167 := Aside0.mk (hbox); have GW167 := Aside0.mk ((by rw [hg]; exact (below_size Zq12) : w.heap.size ≤ gb167)); have GE167 := Aside0.mk ((by rw [hg]; exact (below_size Zq12) : w.heap.size ≤ gb167)); replace HB := Aside0.mk (below_step Zq12 hb); clear hb hbox hg; obtain ⟨hcz8_0, hcz8_1, hcz8_2, hcz8_3⟩ := cells4_ BK167.out; obtain ⟨hfz8_0, hfz8_1, hfz8_2, hfz8_3⟩ := frozen4_ BK167.out) | ((with_reducible refine gate_callee (f := 39) rfl ?_); refine goesL_ (some 10) rfl rfl Tryz.func39 (by kernel_rfl) rfl #[.string a0_0] rfl Zq13 ?_; (with_reducible refine (oid_Encode.calls k a0_0 t168 t169 _ ?side1 A2.out).mono ?_); (case side1 => exact Zq56); rintro e w9 ⟨rfl, hb⟩; refine ⟨_, rfl, ?_⟩; replace BK167 := Aside0.mk (blkb_ BK167.out Zq31 hb); replace HB := Aside0.mk (below_step Zq19 hb); (try clear hb); (try clear hb2); (try clear hk); (try clear hi); obtain ⟨hcz10_0, hcz10_1, hcz10_2, hcz10_3⟩ := cells4_ BK167.out; obtain ⟨hfz10_0, hfz10_1, hfz10_2, hfz10_3⟩ := frozen4_ BK167.out) | ((with_reducible refine gate_callee (f := 40) rfl ?_); refine goesL_ (some 16) rfl rfl Tryz.func40 (by kernel_rfl) rfl #[.agg #[.int .i64 a0_1, .int .i64 a0_2, .string a0_3]] rfl Zq13 ?_; (with_reducible refine (value_Encode.calls k a0_1 a0_2 a0_3 t170 t171 _ ?side1 A3.out).mono ?_); (case side1 => exact Zq56); rintro e w11 ⟨rfl, hb⟩; refine ⟨_, rfl, ?_⟩; replace BK167 := Aside0.mk (blkb_ BK167.out Zq31 hb); replace HB := Aside0.mk (below_step Zq19 hb); (try clear hb); (try clear hb2); (try clear hk); (try clear hi)) | ((with_reducible refine gate_callee (f := 22) rfl ?_); refine goesL_ (some 20) rfl rfl Tryz.func22 (by kernel_rfl) rfl #[.int .i64 6, .string t168] rfl Zq13 ?_; (with_reducible refine (pdu_wrap.calls k 6 t168 t172 _ A4.out).mono ?_); rintro e w12 ⟨rfl, hb⟩; refine ⟨_, rfl, ?_⟩; replace BK167 := Aside0.mk (blkb_ BK167.out Zq31 hb); replace HB := Aside0.mk (below_step Zq19 hb); (try clear hb); (try clear hb2); (try clear hk); (try clear hi)) | ((with_reducible refine gate_callee (f := 22) rfl ?_); refine goesL_ (some 23) rfl rfl Tryz.func22 (by kernel_rfl) rfl #[.int .i64 48, .string (t172 ++ t170)] rfl Zq13 ?_; (with_reducible refine (pdu_wrap.calls k 48 (t172 ++ t170) t173 _ A6.out).mono ?_); rintro e w13 ⟨rfl, hb⟩; refine ⟨_, rfl, ?_⟩; replace BK167 := Aside0.mk (blkb_ BK167.out Zq31 hb); replace HB := Aside0.mk (below_step Zq19 hb); (try clear hb); (try clear hb2); (try clear hk); (try clear hi)))
 go_ret
 exact ⟨Zy41, by repeat (first | (with_reducible first | exact HB.out | apply below_alloc | apply pw_below_drewN | apply below_drew1 | refine below_set ?_ GE167.out) | exact HB.out)⟩
set_option maxHeartbeats 1600000 in
set_option maxRecDepth 100000 in
theorem Bl.len_ {B b : Nat} {v : Value} {l : List UInt8} {w : World} (h : Bl w B b v l) :
  Calls Tryz.prog 21 #[.pointer (some ⟨b, 0, none⟩)] w fun e w' => e = .returned (.int .i64 l.length) ∧ w' = w := by
 obtain ⟨p, _, hb⟩ := h.blk
 obtain ⟨A, c, rfl⟩ := BRow.slice h.row
 have hc := (blk_cell hb 1).trans rfl
 clear h hb
 go_enter Tryz.func21, Tryz.ntmps21
 go_wp2
 go_ret
 exact ⟨rfl, rfl⟩
end Go.Proofs.YtfgdnnbhlnbojaaGreatDoor.XPdR
