-- Laid by extprint.py (the session's own driver): functions told by the kit's printer and by hand.
import Derived.Test.YtfmhghlmljlfgaaGreatDoorXTrSx0
namespace Go.Proofs.YtfmhghlmljlfgaaGreatDoor.XTrS
open Go.RowKit Gong Go.Proofs.YtfmhghlmljlfgaaGreatDoorW.PrintWords Go.Proofs.YtfmhghlmljlfgaaGreatDoorW.PrintLast Go.Proofs.YtfmhghlmljlfgaaGreatDoorW.PrintMore
attribute [local go_sem] max2_int min2_int max_two min_two max_three min_three max_four min_four   -- for this text's walks alone
set_option linter.unusedVariables false
set_option linter.unusedSimpArgs false
def ber_spare.f (a0 : ByteArray) : Option (Bool) := if (a0.size : Int) > 1 then (if 0 < (a0.size : Int) then (if (bt a0 0) = 0 then (if 1 < (a0.size : Int) then (if (bt a0 1) < 128 then (some true) else (if (bt a0 0) = 255 then (some (decide ((bt a0 1) ≥ 128))) else (some false))) else (none)) else (if (bt a0 0) = 255 then (if 1 < (a0.size : Int) then (some (decide ((bt a0 1) ≥ 128))) else (none)) else (some false))) else (none)) else (some false)
set_option maxHeartbeats 8000000 in
set_option maxRecDepth 100000 in
theorem ber_spare.calls (a0 : ByteArray) (r : Bool) (w : World) (h : ber_spare.f a0 = some r) :
  Calls Tryz.prog 49 #[.string a0] w fun e w' => e = .returned (.bool r) ∧ Drawn0 w w' := by
 have H : (if (a0.size : Int) > 1 then (if 0 < (a0.size : Int) then (if (bt a0 0) = 0 then (if 1 < (a0.size : Int) then (if (bt a0 1) < 128 then (some true) else (if (bt a0 0) = 255 then (some (decide ((bt a0 1) ≥ 128))) else (some false))) else (none)) else (if (bt a0 0) = 255 then (if 1 < (a0.size : Int) then (some (decide ((bt a0 1) ≥ 128))) else (none)) else (some false))) else (none)) else (some false)) = some r := h
 clear h
 by_cases c2 : (a0.size : Int) > 1
 rotate_left
 ·rw [if_neg c2] at H
  have c2b0 : decide (1 < (a0.size : Int)) = false := decide_eq_false c2
  have c2b1 : decide (1 < a0.size) = false := decide_eq_false (by omega)
  clear c2
  obtain rfl := Option.some.inj H
  go_enter Tryz.func49, Tryz.ntmps49
  go_wp2
  go_ret
  exact ⟨Zy75, Zy70⟩
 rw [if_pos c2] at H
 have c2b0 : decide (1 < (a0.size : Int)) = true := decide_eq_true c2
 have c2b1 : decide (1 < a0.size) = true := decide_eq_true (by omega)
 clear c2
 by_cases c3 : 0 < (a0.size : Int)
 rotate_left
 ·rw [if_neg c3] at H
  exact absurd H (by simp)
 rw [if_pos c3] at H
 have c3b0 : decide (0 < (a0.size : Int)) = true := decide_eq_true c3
 have c3b1 : decide (0 < a0.size) = true := decide_eq_true (by omega)
 clear c3
 by_cases c5 : (bt a0 0) = 0
 rotate_left
 ·rw [if_neg c5] at H
  have c5b0 : ((bt a0 0) == 0) = false := beq_eq_false_iff_ne.mpr c5
  have c5b1 : ((bt a0 0) != 0) = true := bne_iff_ne.mpr c5
  by_cases c13 : (bt a0 0) = 255
  rotate_left
  ·rw [if_neg c13] at H
   have c13b0 : ((bt a0 0) == 255) = false := beq_eq_false_iff_ne.mpr c13
   have c13b1 : ((bt a0 0) != 255) = true := bne_iff_ne.mpr c13
   obtain rfl := Option.some.inj H
   have p4 : 0 ≤ (0 : Int) := (by omega)
   have q4 : 0 < a0.size := (by have : (0 : Int) < (a0.size : Int) := of_decide_eq_true Zq1; omega)
   have hx4 : ∀ h : 0 < a0.size, ((a0[0]'h).toNat : Int) = bt a0 0 := bt_at a0 0
   clear p4
   have qi4 : (0 < (a0.size : Int)) = True := eq_true (of_decide_eq_true Zq1)
   replace q4 := eq_true q4
   have p12 : 0 ≤ (0 : Int) := (by omega)
   have q12 : 0 < a0.size := (by have : (0 : Int) < (a0.size : Int) := of_decide_eq_true Zq1; omega)
   have hx12 : ∀ h : 0 < a0.size, ((a0[0]'h).toNat : Int) = bt a0 0 := bt_at a0 0
   clear p12
   have qi12 : (0 < (a0.size : Int)) = True := eq_true (of_decide_eq_true Zq1)
   replace q12 := eq_true q12
   go_enter Tryz.func49, Tryz.ntmps49
   go_wp2
   go_ret
   exact ⟨Zy75, Zy70⟩
  rw [if_pos c13] at H
  have c13b0 : ((bt a0 0) == 255) = true := beq_iff_eq.mpr c13
  have c13b1 : ((bt a0 0) != 255) = false := bne_eq_false_iff_eq.mpr c13
  clear c13
  by_cases c14 : 1 < (a0.size : Int)
  rotate_left
  ·rw [if_neg c14] at H
   exact absurd H (by simp)
  rw [if_pos c14] at H
  have c14b0 : decide (1 < (a0.size : Int)) = true := decide_eq_true c14
  have c14b1 : decide (1 < a0.size) = true := decide_eq_true (by omega)
  clear c14
  obtain rfl := Option.some.inj H
  have p4 : 0 ≤ (0 : Int) := (by omega)
  have q4 : 0 < a0.size := (by have : (0 : Int) < (a0.size : Int) := of_decide_eq_true Zq1; omega)
  have hx4 : ∀ h : 0 < a0.size, ((a0[0]'h).toNat : Int) = bt a0 0 := bt_at a0 0
  clear p4
  have qi4 : (0 < (a0.size : Int)) = True := eq_true (of_decide_eq_true Zq1)
  replace q4 := eq_true q4
  have p12 : 0 ≤ (0 : Int) := (by omega)
  have q12 : 0 < a0.size := (by have : (0 : Int) < (a0.size : Int) := of_decide_eq_true Zq1; omega)
  have hx12 : ∀ h : 0 < a0.size, ((a0[0]'h).toNat : Int) = bt a0 0 := bt_at a0 0
  clear p12
  have qi12 : (0 < (a0.size : Int)) = True := eq_true (of_decide_eq_true Zq1)
  replace q12 := eq_true q12
  have p15 : 0 ≤ (1 : Int) := (by omega)
  have q15 : 1 < a0.size := (by have : (1 : Int) < (a0.size : Int) := of_decide_eq_true Zq1; omega)
  have hx15 : ∀ h : 1 < a0.size, ((a0[1]'h).toNat : Int) = bt a0 1 := bt_at a0 1
  clear p15
  have qi15 : (1 < (a0.size : Int)) = True := eq_true (of_decide_eq_true Zq1)
  replace q15 := eq_true q15
  go_enter Tryz.func49, Tryz.ntmps49
  go_wp2
  go_ret
  exact ⟨Zy75, Zy70⟩
 rw [if_pos c5] at H
 have c5b0 : ((bt a0 0) == 0) = true := beq_iff_eq.mpr c5
 have c5b1 : ((bt a0 0) != 0) = false := bne_eq_false_iff_eq.mpr c5
 clear c5
 by_cases c6 : 1 < (a0.size : Int)
 rotate_left
 ·rw [if_neg c6] at H
  exact absurd H (by simp)
 rw [if_pos c6] at H
 have c6b0 : decide (1 < (a0.size : Int)) = true := decide_eq_true c6
 have c6b1 : decide (1 < a0.size) = true := decide_eq_true (by omega)
 clear c6
 by_cases c8 : (bt a0 1) < 128
 ·rw [if_pos c8] at H
  have c8b0 : decide ((bt a0 1) < 128) = true := decide_eq_true c8
  clear c8
  obtain rfl := Option.some.inj H
  have p4 : 0 ≤ (0 : Int) := (by omega)
  have q4 : 0 < a0.size := (by have : (0 : Int) < (a0.size : Int) := of_decide_eq_true Zq1; omega)
  have hx4 : ∀ h : 0 < a0.size, ((a0[0]'h).toNat : Int) = bt a0 0 := bt_at a0 0
  clear p4
  have qi4 : (0 < (a0.size : Int)) = True := eq_true (of_decide_eq_true Zq1)
  replace q4 := eq_true q4
  have p7 : 0 ≤ (1 : Int) := (by omega)
  have q7 : 1 < a0.size := (by have : (1 : Int) < (a0.size : Int) := of_decide_eq_true Zq1; omega)
  have hx7 : ∀ h : 1 < a0.size, ((a0[1]'h).toNat : Int) = bt a0 1 := bt_at a0 1
  clear p7
  have qi7 : (1 < (a0.size : Int)) = True := eq_true (of_decide_eq_true Zq1)
  replace q7 := eq_true q7
  go_enter Tryz.func49, Tryz.ntmps49
  go_wp2
  go_ret
  exact ⟨Zy75, Zy70⟩
 rw [if_neg c8] at H
 have c8b0 : decide ((bt a0 1) < 128) = false := decide_eq_false c8
 clear c8
 by_cases c10 : (bt a0 0) = 255
 rotate_left
 ·rw [if_neg c10] at H
  have c10b0 : ((bt a0 0) == 255) = false := beq_eq_false_iff_ne.mpr c10
  have c10b1 : ((bt a0 0) != 255) = true := bne_iff_ne.mpr c10
  obtain rfl := Option.some.inj H
  have p4 : 0 ≤ (0 : Int) := (by omega)
  have q4 : 0 < a0.size := (by have : (0 : Int) < (a0.size : Int) := of_decide_eq_true Zq1; omega)
  have hx4 : ∀ h : 0 < a0.size, ((a0[0]'h).toNat : Int) = bt a0 0 := bt_at a0 0
  clear p4
  have qi4 : (0 < (a0.size : Int)) = True := eq_true (of_decide_eq_true Zq1)
  replace q4 := eq_true q4
  have p7 : 0 ≤ (1 : Int) := (by omega)
  have q7 : 1 < a0.size := (by have : (1 : Int) < (a0.size : Int) := of_decide_eq_true Zq1; omega)
  have hx7 : ∀ h : 1 < a0.size, ((a0[1]'h).toNat : Int) = bt a0 1 := bt_at a0 1
  clear p7
  have qi7 : (1 < (a0.size : Int)) = True := eq_true (of_decide_eq_true Zq1)
  replace q7 := eq_true q7
  have p9 : 0 ≤ (0 : Int) := (by omega)
  have q9 : 0 < a0.size := (by have : (0 : Int) < (a0.size : Int) := of_decide_eq_true Zq1; omega)
  have hx9 : ∀ h : 0 < a0.size, ((a0[0]'h).toNat : Int) = bt a0 0 := bt_at a0 0
  clear p9
  have qi9 : (0 < (a0.size : Int)) = True := eq_true (of_decide_eq_true Zq1)
  replace q9 := eq_true q9
  go_enter Tryz.func49, Tryz.ntmps49
  go_wp2
  go_ret
  exact ⟨Zy75, Zy70⟩
 rw [if_pos c10] at H
 have c10b0 : ((bt a0 0) == 255) = true := beq_iff_eq.mpr c10
 have c10b1 : ((bt a0 0) != 255) = false := bne_eq_false_iff_eq.mpr c10
 clear c10
 obtain rfl := Option.some.inj H
 have p4 : 0 ≤ (0 : Int) := (by omega)
 have q4 : 0 < a0.size := (by have : (0 : Int) < (a0.size : Int) := of_decide_eq_true Zq1; omega)
 have hx4 : ∀ h : 0 < a0.size, ((a0[0]'h).toNat : Int) = bt a0 0 := bt_at a0 0
 clear p4
 have qi4 : (0 < (a0.size : Int)) = True := eq_true (of_decide_eq_true Zq1)
 replace q4 := eq_true q4
 have p7 : 0 ≤ (1 : Int) := (by omega)
 have q7 : 1 < a0.size := (by have : (1 : Int) < (a0.size : Int) := of_decide_eq_true Zq1; omega)
 have hx7 : ∀ h : 1 < a0.size, ((a0[1]'h).toNat : Int) = bt a0 1 := bt_at a0 1
 clear p7
 have qi7 : (1 < (a0.size : Int)) = True := eq_true (of_decide_eq_true Zq1)
 replace q7 := eq_true q7
 have p9 : 0 ≤ (0 : Int) := (by omega)
 have q9 : 0 < a0.size := (by have : (0 : Int) < (a0.size : Int) := of_decide_eq_true Zq1; omega)
 have hx9 : ∀ h : 0 < a0.size, ((a0[0]'h).toNat : Int) = bt a0 0 := bt_at a0 0
 clear p9
 have qi9 : (0 < (a0.size : Int)) = True := eq_true (of_decide_eq_true Zq1)
 replace q9 := eq_true q9
 have p11 : 0 ≤ (1 : Int) := (by omega)
 have q11 : 1 < a0.size := (by have : (1 : Int) < (a0.size : Int) := of_decide_eq_true Zq1; omega)
 have hx11 : ∀ h : 1 < a0.size, ((a0[1]'h).toNat : Int) = bt a0 1 := bt_at a0 1
 clear p11
 have qi11 : (1 < (a0.size : Int)) = True := eq_true (of_decide_eq_true Zq1)
 replace q11 := eq_true q11
 go_enter Tryz.func49, Tryz.ntmps49
 go_wp2
 go_ret
 exact ⟨Zy75, Zy70⟩
def ber_trimmed.l0 : Nat → ByteArray → Option (ByteArray)
 | 0, _ => none
 | k + 1, x3 => (ber_spare.f x3).bind fun t147 => (if t147 = true then (if 1 ≤ (x3.size : Int) then (ber_trimmed.l0 k (x3.extract 1 x3.size)) else (none)) else (some x3))
def ber_trimmed.f (k : Nat) (l0 : List Int) : Option (ByteArray) := ber_trimmed.l0 k (strOfNums l0)
set_option maxHeartbeats 8000000 in
set_option maxRecDepth 100000 in
theorem ber_trimmed.calls (k : Nat) (A0 : Option Addr) (c0 : Nat) (l0 : List Int) (r : ByteArray) (w : World) (hr0 : Kd.C (Kd.int .u8) w A0 l0.length l0) (hc0 : l0.length ≤ c0) (h : ber_trimmed.f k l0 = some r) :
  Calls Tryz.prog 45 #[.slice A0 l0.length c0] w fun e w' => e = .returned (.string r) ∧ Drawn0 w w' := by
 have HR0 := Aside0.mk hr0
 have HC0 := Aside0.mk hc0
 clear hr0 hc0
 have H : (ber_trimmed.l0 k (strOfNums l0)) = some r := h
 clear h
 have H' := Aside0.mk H
 clear H
 have hcv2 := Kd.C_string (P := Tryz.prog) (A := A0) (c := c0) Tryz.underlying87 Tryz.underlying5 Tryz.underlying9 HR0.out
 go_enter Tryz.func45, Tryz.ntmps45
 go_wp2
 go_loopg [3] k (fun kq v3 w' => ∃ (x3_1 : ByteArray), v3 = .string x3_1 ∧ Aside0 (ber_trimmed.l0 kq x3_1 = some r) ∧ Aside0 (kq ≤ k) ∧ Drawn0 w w')
 case atStart => exact ⟨(strOfNums l0), Zq12, H', ⟨Nat.le_refl _⟩, Zy70⟩
 case round =>
  clear H'
  (try clear p2); (try clear hcv2)
  obtain ⟨x3_1, rfl, HA, HK1, ⟨m1, rfl⟩⟩ := hrel
  cases gk with
  | zero => exact absurd HA.out (by simp [ber_trimmed.l0])
  | succ k1 =>
   have H := HA.out
   clear HA
   simp only [ber_trimmed.l0] at H
   replace H := Option.bind_eq_some_iff.mp H
   obtain ⟨t147, A30, H⟩ := H
   replace H : (if t147 = true then (if 1 ≤ (x3_1.size : Int) then (ber_trimmed.l0 k1 (x3_1.extract 1 x3_1.size)) else (none)) else (some x3_1)) = some r := H
   have A3 := Aside0.mk A30
   clear A30
   by_cases c4 : t147 = true
   ·subst c4
    have H1 : (if 1 ≤ (x3_1.size : Int) then (ber_trimmed.l0 k1 (x3_1.extract 1 x3_1.size)) else (none)) = some r := by rw [if_pos rfl] at H; exact H
    clear H
    have H := H1
    clear H1
    by_cases c5 : 1 ≤ (x3_1.size : Int)
    ·rw [if_pos c5] at H
     have c5b0 := eq_true c5
     have c5b1 : decide (1 ≤ (x3_1.size : Int)) = true := decide_eq_true c5
     clear c5
     have H' := Aside0.mk H
     clear H
     go_wp2_with (first | ((with_reducible refine gate_callee (f := 49) rfl ?_); refine goesL_ (some 7) rfl rfl Tryz.func49 (by kernel_rfl) rfl #[.string x3_1] rfl Zq14 ?_; (with_reducible refine (ber_spare.calls x3_1 true _ A3.out).mono ?_); rintro e w' ⟨rfl, ⟨nd, rfl⟩⟩; refine ⟨_, rfl, ?_⟩))
     go_roundg k1
     case measure => have := HK1.out; omega
     case rel => exact ⟨(x3_1.extract 1 x3_1.size), Zq12, H', ⟨by have := HK1.out; omega⟩, Zy70⟩
    ·rw [if_neg c5] at H
     exact absurd H (by simp)
   ·replace c4 := Bool.eq_false_iff.mpr c4
    subst c4
    have H1 : (some x3_1) = some r := by rw [if_neg (show ¬ (false = true) by decide)] at H; exact H
    clear H
    have H := H1
    clear H1
    obtain rfl := Option.some.inj H
    go_wp2_with (first | ((with_reducible refine gate_callee (f := 49) rfl ?_); refine goesL_ (some 7) rfl rfl Tryz.func49 (by kernel_rfl) rfl #[.string x3_1] rfl Zq14 ?_; (with_reducible refine (ber_spare.calls x3_1 false _ A3.out).mono ?_); rintro e w' ⟨rfl, ⟨nd, rfl⟩⟩; refine ⟨_, rfl, ?_⟩))
    go_ret
    exact ⟨Zy75, Zy70⟩
def ber_PutNumber.f (k : Nat) (a0 : Int) : Option ByteArray := ber_trimmed.f k (bytes8 a0)
set_option maxHeartbeats 1600000 in
set_option maxRecDepth 100000 in
theorem ber_PutNumber.calls (k : Nat) (a0 : Int) (r : ByteArray) (w : World) (h : ber_PutNumber.f k a0 = some r) :
  Calls Tryz.prog 30 #[.int .i64 a0] w fun e w' => e = .returned (.string r) ∧ Below w.heap.size w w' := by
 have H := Aside0.mk h
 clear h
 go_enter Tryz.func30, Tryz.ntmps30
 go_wp2_with fail
 have hblk : (w.alloc (.cells #[.int .u8 0, .int .u8 0, .int .u8 0, .int .u8 0, .int .u8 0, .int .u8 0, .int .u8 0, .int .u8 0] 98)).heap[w.heap.size]? = some (.cells (rowIf 8 (fun i => a0 / 2 ^ (8 * (7 - i)) % 256) (fun i => decide (i < 0))) 98 (0, 0)) := by
  rw [heap_alloc_new w _]
  rfl
 have HK := Aside0.mk hblk
 have HB := Aside0.mk (below_alloc (Below.refl w.heap.size w) (.cells #[.int .u8 0, .int .u8 0, .int .u8 0, .int .u8 0, .int .u8 0, .int .u8 0, .int .u8 0, .int .u8 0] 98))
 clear hblk
 obtain ⟨w1, hw1⟩ : ∃ w1, w1 = w.alloc (.cells #[.int .u8 0, .int .u8 0, .int .u8 0, .int .u8 0, .int .u8 0, .int .u8 0, .int .u8 0, .int .u8 0] 98) := ⟨_, rfl⟩
 rw [← hw1] at HB HK ⊢
 clear hw1
 obtain ⟨g, hg⟩ : ∃ g, g = w.heap.size := ⟨_, rfl⟩
 have GE := Aside0.mk (Nat.le_of_eq hg.symm)
 rw [← hg] at HK ⊢
 clear hg
 go_loopw [5] (fun v W => ∃ k : Nat, k ≤ 8 ∧ v = .int .i64 k ∧ Aside0 (W.heap[g]? = some (.cells (rowIf 8 (fun i => a0 / 2 ^ (8 * (7 - i)) % 256) (fun i => decide (i < k))) 98 (0, 0))) ∧ Aside0 (Below w.heap.size w W)) (fun v _ => 8 - (intOf v).toNat)
 case atStart => exact ⟨0, Nat.zero_le _, rfl, HK, HB⟩
 case round =>
  obtain ⟨j, hj, rfl, HK, HB⟩ := hrel
  by_cases hlt : j < 8
  ·have hc := (blk_cell HK.out j).trans (rowIf_get _ _ _ _ hlt)
   have hf := blk_frozen HK.out j
   go_wp2
   go_roundw
   case rel =>
    refine ⟨j + 1, by omega, by go_num, ⟨blk_put HK.out j _ ?_⟩, ⟨below_set HB.out GE.out⟩⟩
    exact rowIf_set 8 (fun i => a0 / 2 ^ (8 * (7 - i)) % 256) _ _ j (fun i hi => by rw [Bool.eq_iff_iff]; simp; omega)
   case measure => simp [intOf]; omega
  ·obtain rfl : j = 8 := by omega
   go_wp2_with fail
   have hr : ReadsInt wr .u8 (some ⟨g, 0, none⟩) 8 (bytes8 a0) := by
    refine ⟨by simp [bytes8], by omega, fun _ => ⟨_, rfl, fun i hi => ?_⟩⟩
    have := (blk_cell HK.out i).trans (rowIf_get _ _ _ _ hi)
    have e : (⟨g, 0, none⟩ : Addr).add i = ⟨g, i, none⟩ := by
     by_cases h0 : i = 0
     ·subst h0; rfl
     ·simp [Addr.add, h0]
    rw [e, this]
    simp [bytes8, hi]
   refine (ber_trimmed.calls k (some ⟨g, 0, none⟩) 8 (bytes8 a0) r _ (Kd.C_of_reads (d := (0 : Int)) (h1 := fun _ => rfl) hr) (Nat.le_refl _) H.out).mono ?_
   rintro e w2 ⟨rfl, m, rfl⟩
   go_wp2
   go_ret
   exact ⟨rfl, pw_below_drewN HB.out m⟩
-- NOT PRINTED: function 71 (abi_NoEscape)
theorem bld_size : (Tryz.prog.info? 89).map (fun j => (j, decide (j.size ≠ 0))) = (Tryz.prog.info? 89).map (fun j => (j, true)) := by kernel_rfl
set_option maxHeartbeats 1600000 in
set_option maxRecDepth 100000 in
theorem bld_copyCheck (b o n : Nat) (T : TypeId) (cs : Array Value) (p : Value) (w : World) (hp : p = .pointer none ∨ p = .pointer (some ⟨b, o, none⟩))
  (hb : w.heap[b]? = some (.cells cs T (0, 0))) (hn : cs.size = n) (h0 : cs[o]? = some p) (hl : liesAt Tryz.prog Tryz.prog.depth T (n / Tryz.prog.cellsOf T) o 89 1 = true) :
  Calls Tryz.prog 56 #[.pointer (some ⟨b, o, none⟩)] w fun e w' => e = .returned (.tuple #[]) ∧ w'.heap[b]? = some (.cells (cs.setIfInBounds o (.pointer (some ⟨b, o, none⟩))) T (0, 0)) ∧ Mv (fun k => k = b) w w' := by
 obtain ⟨j, hj⟩ : ∃ j, Tryz.prog.info? 89 = some j := Option.isSome_iff_exists.mp (by kernel_rfl)
 have hjs : j.size ≠ 0 := by
  have h := bld_size
  rw [hj] at h
  simpa using h
 have hc : w.cell? ⟨b, o, none⟩ = some p := (blk_cell hb o).trans h0
 have hf : w.frozen? ⟨b, o, none⟩ = false := blk_frozen hb o
 have ho : o < n := by rw [← hn]; exact (Array.getElem?_eq_some_iff.1 h0).1
 have hsh : w.shape? b = some (T, n) := by simp [World.shape?, hb, hn]
 have hI := Aside0.mk hj
 have hS := Aside0.mk hjs
 have hSH := Aside0.mk hsh
 have hB := Aside0.mk hb
 have hN := Aside0.mk hn
 have hO := Aside0.mk ho
 have hC := Aside0.mk h0
 clear hj hjs hsh hb hn ho h0
 rcases hp with rfl | rfl
 ·go_enter Tryz.func56, Tryz.ntmps56
  go_wp2
  rw [Lib.run_to_unsafe w ⟨b, o, none⟩ Tryz.underlying86 Tryz.underlying133 hI.out hS.out hSH.out hO.out]
  simp only [Result.andThen]
  rw [Oper.upon_value]
  go_wp2
  rw [run_callFunc_extern Tryz.func71 (by kernel_rfl) (by kernel_rfl) (by kernel_rfl) (e := Extern.AbiNoEscape.same) (by kernel_rfl)]
  rw [Lib.run_noEscape]
  simp only [Result.andThen]
  rw [Oper.upon_value]
  go_wp2
  rw [Lib.run_from_unsafe w ⟨b, o, none⟩ Tryz.underlying133 Tryz.underlying86 hI.out hSH.out hl]
  simp only [Result.andThen]
  rw [Oper.upon_value]
  go_wp2
  go_end0
  exact ⟨rfl, blk_set hB.out o _, Mv.setCell (S := fun k => k = b) (Mv.refl _ w) rfl o _⟩
 ·go_enter Tryz.func56, Tryz.ntmps56
  go_wp2
  rw [Lib.run_neq_ptr_same w _ Tryz.underlying86 hI.out]
  go_wp2
  go_end0
  refine ⟨rfl, ?_, Mv.refl _ w⟩
  rw [hB.out, set_same hC.out]
structure Bl (w : World) (B b : Nat) (v : Value) (l : List UInt8) : Prop where
 blk : ∃ p : Value, (p = .pointer none ∨ p = .pointer (some ⟨b, 0, none⟩)) ∧ w.heap[b]? = some (.cells #[p, v] 89 (0, 0))
 row : BRow w B 5 v l
 ge : B ≤ b
theorem Bl.ne {w : World} {B b : Nat} {v : Value} {l : List UInt8} (h : Bl w B b v l) : v.ownBlock ≠ some b := by
 obtain ⟨p, _, hb⟩ := h.blk
 exact owns_ne h.row hb (by decide)
theorem Bl.lt {w : World} {B b : Nat} {v : Value} {l : List UInt8} (h : Bl w B b v l) : b < w.heap.size := by
 obtain ⟨p, _, hb⟩ := h.blk
 exact (Array.getElem?_eq_some_iff.1 hb).1
theorem Bl.mv {w w' : World} {B b : Nat} {v : Value} {l : List UInt8} {S : Nat → Prop} (h : Bl w B b v l) (hm : Mv S w w') (h1 : ¬ S b) (h2 : ∀ k, v.ownBlock = some k → ¬ S k) : Bl w' B b v l := by
 obtain ⟨p, hp, hb⟩ := h.blk
 exact ⟨⟨p, hp, hm.heap hb h1⟩, h.row.mv hm h2, h.ge⟩
theorem Bl.keep {w w' : World} {B b : Nat} {v : Value} {l : List UInt8} (h : Bl w B b v l) (hb : Below w.heap.size w w') : Bl w' B b v l :=
 h.mv (Mv.of_below (S := fun _ => False) hb) id (fun _ _ => id)
theorem Bl.new (w : World) (B : Nat) (hB : B ≤ w.heap.size) : Bl (w.alloc (.cells #[.pointer none, .slice none 0 0] 89)) B w.heap.size (.slice none 0 0) [] :=
 ⟨⟨_, .inl rfl, heap_alloc_new w _⟩, BRow.nil _ _ _, hB⟩
theorem bld_u8 : (Tryz.prog.info? 5).map (fun i => (i.zero, i.size, i.bytes)) = some (some (.int .u8 0), 1, 1) := by kernel_rfl
set_option maxHeartbeats 1600000 in
set_option maxRecDepth 100000 in
theorem bld_WriteString (B b o n : Nat) (T : TypeId) (cs : Array Value) (p v : Value) (l : List UInt8) (s : ByteArray) (w : World) (hp : p = .pointer none ∨ p = .pointer (some ⟨b, o, none⟩))
  (hb : w.heap[b]? = some (.cells cs T (0, 0))) (hn : cs.size = n) (h0 : cs[o]? = some p) (h1 : cs[o + 1]? = some v) (hl : liesAt Tryz.prog Tryz.prog.depth T (n / Tryz.prog.cellsOf T) o 89 1 = true)
  (hT : 5 ≠ T) (hr : BRow w B 5 v l) (hlen : l.length + s.size ≤ 140737488355328) (hBw : B ≤ w.heap.size) :
  Calls Tryz.prog 39 #[.pointer (some ⟨b, o, none⟩), .string s] w fun e w' => e = .returned (.tuple #[.int .i64 s.size, .nilIface]) ∧ ∃ v', w'.heap[b]? = some (.cells ((cs.setIfInBounds o (.pointer (some ⟨b, o, none⟩))).setIfInBounds (o + 1) v') T (0, 0)) ∧ BRow w' B 5 v' (l ++ s.data.toList) ∧ (∀ k, v'.ownBlock = some k → v.ownBlock = some k ∨ w.heap.size ≤ k) ∧ Mv (fun k => k = b ∨ v.ownBlock = some k) w w' := by
 obtain ⟨i0, hi, hz0, hz1, hz2⟩ := info_parts bld_u8
 have hne := owns_ne hr hb hT
 have HR := Aside0.mk hr
 have HNE := Aside0.mk hne
 have H1 := Aside0.mk h1
 have HB0 := Aside0.mk (Array.getElem?_eq_some_iff.1 hb).1
 have HI := Aside0.mk hi
 have HZ0 := Aside0.mk hz0
 have HZ1 := Aside0.mk hz1
 have HZ2 := Aside0.mk hz2
 have HC := Aside0.mk (bld_copyCheck b o n T cs p w hp hb hn h0 hl)
 clear hb hn h0 hl hr hne h1 hi hz0 hz1 hz2 hp
 go_enter Tryz.func39, Tryz.ntmps39
 go_wp2_with fail
 refine HC.out.mono ?_
 rintro e w1 ⟨rfl, hb1, hm1⟩
 have hv1 : (cs.setIfInBounds o (.pointer (some ⟨b, o, none⟩)))[o + 1]? = some v := by
  rw [Array.getElem?_setIfInBounds_ne (by omega)]; exact H1.out
 have c1 := (blk_cell hb1 (o + 1)).trans hv1
 have HB1 := Aside0.mk hb1
 have HM1 := Aside0.mk hm1
 have HR1 := Aside0.mk (BRow.mv HR.out hm1 (fun k hk e => HNE.out (by rw [hk, e])))
 obtain ⟨A, c, rfl⟩ := BRow.slice HR.out
 clear hb1 hm1 hv1
 go_wp2_with (at_builtin; refine wpList_append_brow _ rfl _ _ 87 9 rfl B 5 i0 Tryz.underlying87 Tryz.underlying9 HI.out HZ0.out HZ1.out HZ2.out _ l rfl HR1.out s rfl (by omega) (by have := HM1.out.size; omega) ?_)
 intro v' w2 hr2 hg2 hk2
 have hb2 := Aside0.mk (blk_grown HB1.out hg2 (fun e => HNE.out e.symm))
 have d1 := (blk_cell hb2.out (o + 1))
 have f1 := blk_frozen hb2.out (o + 1)
 have HR2 := Aside0.mk hr2
 have HG2 := Aside0.mk hg2
 have HK2 := Aside0.mk hk2
 obtain ⟨A', c', rfl⟩ := BRow.slice hr2
 rw [Array.getElem?_setIfInBounds_ne (by omega), H1.out] at d1
 clear hr2 hg2 hk2
 go_wp2
 go_ret2
 have hlen2 : (l ++ s.data.toList).length = l.length + s.size := by simp
 rw [hlen2] at HR2 HK2
 have hmv : Mv (fun k => k = b ∨ (Value.slice A l.length c).ownBlock = some k) w w2 := (HM1.out.mono (fun k _ h => .inl h)).grown HG2.out (fun k hk _ => .inr hk)
 refine ⟨rfl, _, blk_set hb2.out (o + 1) _, ?_, ?_, Mv.setCell (S := fun k => k = b ∨ (Value.slice A l.length c).ownBlock = some k) hmv (.inl rfl) _ _⟩
 ·refine BRow.mv HR2.out (Mv.setCell (S := fun k => k = b) (Mv.refl _ w2) rfl _ _) (fun k hk e => ?_)
  rcases HK2.out k hk with h | h
  ·exact HNE.out (by rw [h, e])
  ·have := HM1.out.size
   have := HB0.out
   omega
 ·intro k hk
  rcases HK2.out k hk with h | h
  ·exact .inl h
  ·exact .inr (by have := HM1.out.size; omega)
theorem Bl.write {B b : Nat} {v : Value} {l : List UInt8} {w : World} (h : Bl w B b v l) (s : ByteArray) (hlen : l.length + s.size ≤ 140737488355328) :
  Calls Tryz.prog 39 #[.pointer (some ⟨b, 0, none⟩), .string s] w fun e w' => e = .returned (.tuple #[.int .i64 s.size, .nilIface]) ∧ ∃ v', Bl w' B b v' (l ++ s.data.toList) ∧ (∀ k, v'.ownBlock = some k → v.ownBlock = some k ∨ w.heap.size ≤ k) ∧ Mv (fun k => k = b ∨ v.ownBlock = some k) w w' := by
 obtain ⟨p, hp, hb⟩ := h.blk
 refine (bld_WriteString B b 0 2 89 #[p, v] p v l s w hp hb rfl rfl rfl (by kernel_rfl) (by decide) h.row hlen (Nat.le_of_lt (Nat.lt_of_le_of_lt h.ge h.lt))).mono ?_
 rintro e w' ⟨rfl, v', hb', hr', ho', hm'⟩
 exact ⟨rfl, v', ⟨⟨_, .inr rfl, hb'⟩, hr', h.ge⟩, ho', hm'⟩
def ber_isTag.f (a0 : Int) : Option (Bool) := if a0 ≥ 0 then (if a0 ≤ 255 then (some ((Go.bits .and .i64 a0 31) != 31)) else (some false)) else (some false)
set_option maxHeartbeats 8000000 in
set_option maxRecDepth 100000 in
theorem ber_isTag.calls (a0 : Int) (r : Bool) (w : World) (h : ber_isTag.f a0 = some r) :
  Calls Tryz.prog 36 #[.int .i64 a0] w fun e w' => e = .returned (.bool r) ∧ Drawn0 w w' := by
 have H : (if a0 ≥ 0 then (if a0 ≤ 255 then (some ((Go.bits .and .i64 a0 31) != 31)) else (some false)) else (some false)) = some r := h
 clear h
 by_cases c2 : a0 ≥ 0
 rotate_left
 ·rw [if_neg c2] at H
  have c2b0 : decide (0 ≤ a0) = false := decide_eq_false c2
  clear c2
  obtain rfl := Option.some.inj H
  go_enter Tryz.func36, Tryz.ntmps36
  go_wp2
  go_ret
  exact ⟨Zy75, Zy70⟩
 rw [if_pos c2] at H
 have c2b0 : decide (0 ≤ a0) = true := decide_eq_true c2
 clear c2
 by_cases c3 : a0 ≤ 255
 ·rw [if_pos c3] at H
  have c3b0 : decide (a0 ≤ 255) = true := decide_eq_true c3
  clear c3
  obtain rfl := Option.some.inj H
  go_enter Tryz.func36, Tryz.ntmps36
  go_wp2
  go_ret
  exact ⟨Zy75, Zy70⟩
 rw [if_neg c3] at H
 have c3b0 : decide (a0 ≤ 255) = false := decide_eq_false c3
 clear c3
 obtain rfl := Option.some.inj H
 go_enter Tryz.func36, Tryz.ntmps36
 go_wp2
 go_ret
 exact ⟨Zy75, Zy70⟩
def octet_Wide.f (a0 a1 : Int) : Option (ByteArray × Int) :=
 if 1 ≤ a1 ∧ a1 ≤ 8 ∧ 0 ≤ a0 then (if a1 < 8 ∧ 0 < a0 / 2 ^ (8 * a1.toNat) then some (⟨#[]⟩, 1) else some (strOfNums ((bytes8 a0).drop (8 - a1.toNat)), 0)) else some (⟨#[]⟩, 1)
set_option maxHeartbeats 1600000 in
set_option maxRecDepth 100000 in
theorem octet_Wide.calls (a0 a1 : Int) (r1 : ByteArray) (r2 : Int) (w : World) (h : octet_Wide.f a0 a1 = some (r1, r2)) :
  Calls Tryz.prog 59 #[.int .i64 a0, .int .i64 a1] w fun e w' => e = .returned (.tuple #[.string r1, .int .i64 r2]) ∧ Below w.heap.size w w' := by
 unfold octet_Wide.f at h
 by_cases hs : 1 ≤ a1 ∧ a1 ≤ 8 ∧ 0 ≤ a0
 ·rw [if_pos hs] at h
  obtain ⟨hs1, hs2, hs3⟩ := hs
  obtain ⟨W, rfl⟩ := Int.eq_ofNat_of_zero_le (show 0 ≤ a1 by omega)
  rw [Int.toNat_natCast] at h
  obtain ⟨D, hD⟩ : ∃ D : Nat, D = 8 - W := ⟨_, rfl⟩
  rw [← hD] at h
  have H := Aside0.mk h
  have HD := Aside0.mk hD
  clear h hD
  have e1 : decide ((W : Int) < 1) = false := decide_eq_false (by omega)
  have e2 : decide (8 < (W : Int)) = false := decide_eq_false (by omega)
  have e3 : decide (a0 < 0) = false := decide_eq_false (by omega)
  go_enter Tryz.func59, Tryz.ntmps59
  go_wp2_with fail
  have hblk : (w.alloc (.cells #[.int .u8 0, .int .u8 0, .int .u8 0, .int .u8 0, .int .u8 0, .int .u8 0, .int .u8 0, .int .u8 0] 98)).heap[w.heap.size]? = some (.cells (rowIf 8 (fun i => a0 / 2 ^ (8 * (7 - i)) % 256) (fun i => decide (8 ≤ i))) 98 (0, 0)) := by
   rw [heap_alloc_new w _]
   rfl
  have HK := Aside0.mk hblk
  have HB := Aside0.mk (below_alloc (Below.refl w.heap.size w) (.cells #[.int .u8 0, .int .u8 0, .int .u8 0, .int .u8 0, .int .u8 0, .int .u8 0, .int .u8 0, .int .u8 0] 98))
  clear hblk
  obtain ⟨w1, hw1⟩ : ∃ w1, w1 = w.alloc (.cells #[.int .u8 0, .int .u8 0, .int .u8 0, .int .u8 0, .int .u8 0, .int .u8 0, .int .u8 0, .int .u8 0] 98) := ⟨_, rfl⟩
  rw [← hw1] at HB HK ⊢
  clear hw1
  obtain ⟨g, hg⟩ : ∃ g, g = w.heap.size := ⟨_, rfl⟩
  have GE := Aside0.mk (Nat.le_of_eq hg.symm)
  rw [← hg] at HK ⊢
  clear hg
  go_loopw [7, 8] (fun u v W => ∃ m : Nat, m ≤ 8 ∧ v = .int .i64 ((m : Int) - 1) ∧ u = .int .i64 (a0 / 2 ^ (8 * (8 - m))) ∧ Aside0 (W.heap[g]? = some (.cells (rowIf 8 (fun i => a0 / 2 ^ (8 * (7 - i)) % 256) (fun i => decide (m ≤ i))) 98 (0, 0))) ∧ Aside0 (Below w.heap.size w W)) (fun _ v _ => (intOf v + 1).toNat)
  case atStart => exact ⟨8, Nat.le_refl _, rfl, by simp, HK, HB⟩
  case round =>
   obtain ⟨m, hm, rfl, rfl, HK, HB⟩ := hrel
   by_cases hlt : 0 < m
   ·obtain ⟨j, rfl⟩ : ∃ j, m = j + 1 := ⟨m - 1, by omega⟩
    rw [show (((j + 1 : Nat) : Int) - 1) = (j : Int) from by omega]
    have hc := (blk_cell HK.out j).trans (rowIf_get _ _ _ _ (show j < 8 by omega))
    have hf := blk_frozen HK.out j
    go_wp2
    go_roundw
    case rel =>
     refine ⟨j, by omega, rfl, ?_, ⟨blk_put HK.out j _ (rowIf_set 8 (fun i => a0 / 2 ^ (8 * (7 - i)) % 256) _ _ j (fun i hi => by rw [Bool.eq_iff_iff]; simp; omega))⟩, ⟨below_set HB.out GE.out⟩⟩
     rw [div256, show 7 - j + 1 = 8 - j from by omega]
    case measure => simp [intOf]
   ·obtain rfl : m = 0 := by omega
    have h := H.out
    by_cases hq : (W : Int) < 8 ∧ 0 < a0 / 2 ^ (8 * W)
    ·rw [if_pos hq] at h
     simp only [Option.some.injEq, Prod.mk.injEq] at h
     obtain ⟨rfl, rfl⟩ := h
     have f1 : decide ((W : Int) < 8) = true := decide_eq_true hq.1
     have f2 : decide (0 < a0 / 2 ^ (8 * W)) = true := decide_eq_true hq.2
     clear hq
     go_wp2
     go_ret2
     exact ⟨rfl, HB.out⟩
    ·rw [if_neg hq] at h
     simp only [Option.some.injEq, Prod.mk.injEq] at h
     obtain ⟨rfl, rfl⟩ := h
     have f3 : (8 : Int) - (W : Int) = (D : Int) := by have := HD.out; omega
     have f4 : D ≤ 7 := by have := HD.out; omega
     have f5 := eq_true (show D ≤ 8 by omega)
     have f6 := eq_true (show (D : Int) ≤ 8 by omega)
     have f7 := eq_false (show ¬ (8 = D) by omega)
     have hcv : ∀ c, (convert 87 9 (.slice (some ⟨g, D, none⟩) (8 - D) c)).run Tryz.prog wr = .ok (.string (strOfNums ((bytes8 a0).drop D))) wr := fun c => by
      refine run_convert_bytes_arg wr 87 5 Tryz.underlying87 Tryz.underlying5 g D (8 - D) c _ (by simp [bytes8]) (fun i hi => ?_) 9 Tryz.underlying9
      rw [(blk_cell HK.out (D + i)).trans (rowIf_get _ _ _ _ (show D + i < 8 by omega))]
      simp [bytes8, show D + i < 8 by omega]
     by_cases hw : (W : Int) < 8
     ·have f1 : decide ((W : Int) < 8) = true := decide_eq_true hw
      have f2 : decide (0 < a0 / 2 ^ (8 * W)) = false := decide_eq_false (fun hh => hq ⟨hw, hh⟩)
      clear hq hw
      go_wp2
      go_ret2
      exact ⟨rfl, HB.out⟩
     ·have f1 : decide ((W : Int) < 8) = false := decide_eq_false hw
      clear hq hw
      go_wp2
      go_ret2
      exact ⟨rfl, HB.out⟩
 ·rw [if_neg hs] at h
  simp only [Option.some.injEq, Prod.mk.injEq] at h
  obtain ⟨rfl, rfl⟩ := h
  by_cases h1 : a1 < 1
  ·have e1 : decide (a1 < 1) = true := decide_eq_true h1
   clear hs h1
   go_enter Tryz.func59, Tryz.ntmps59
   go_wp2
   go_ret2
   exact ⟨rfl, Below.refl _ _⟩
  ·have e1 : decide (a1 < 1) = false := decide_eq_false h1
   by_cases h2 : 8 < a1
   ·have e2 : decide (8 < a1) = true := decide_eq_true h2
    clear hs h1 h2
    go_enter Tryz.func59, Tryz.ntmps59
    go_wp2
    go_ret2
    exact ⟨rfl, Below.refl _ _⟩
   ·have e2 : decide (8 < a1) = false := decide_eq_false h2
    have e3 : decide (a0 < 0) = true := decide_eq_true (by omega)
    clear hs h1 h2
    go_enter Tryz.func59, Tryz.ntmps59
    go_wp2
    go_ret2
    exact ⟨rfl, Below.refl _ _⟩
def ber_put.l0 : Nat → ByteArray → Int → List Int → Int → Option (ByteArray)
 | 0, _, _, _, _ => none
 | k + 1, x1, x5, x6, x7 => if 0 ≤ (wrap64 (8 * x7)) then (if (shr .i64 x5 (wrap64 (8 * x7))) > 0 then (ber_put.l0 k x1 x5 x6 (wrap64 (x7 + 1))) else ((octet_Wide.f x5 x7).bind fun bt151 => (if 1 < (x6.length : Int) then ((some (x6.set (1 : Int).toNat ((wrap64 (128 + x7)) % 256) : List Int)).bind fun y153 => (if y153.length + bt151.1.size < 140737488355328 then ((some (y153 ++ bytesOf bt151.1 : List Int)).bind fun y154 => (if (strOfNums y154).size + x1.size ≤ 9223372036854775807 then (some ((strOfNums y154) ++ x1)) else (none))) else (none))) else (none)))) else (none)
def ber_put.f (k : Nat) (a0 : Int) (a1 : ByteArray) : Option (ByteArray) := (some (([(a0) % 256, ((a1.size : Int)) % 256] : List Int) : List Int)).bind fun y148 => (if (a1.size : Int) ≥ 128 then (ber_put.l0 k a1 (a1.size : Int) y148 1) else (if (strOfNums y148).size + a1.size ≤ 9223372036854775807 then (some ((strOfNums y148) ++ a1)) else (none)))
set_option maxHeartbeats 8000000 in
set_option maxRecDepth 100000 in
theorem ber_put.calls (k : Nat) (a0 : Int) (a1 : ByteArray) (r : ByteArray) (w : World) (h : ber_put.f k a0 a1 = some r) :
  Calls Tryz.prog 44 #[.int .i64 a0, .string a1] w fun e w' => e = .returned (.string r) ∧ Below w.heap.size w w' := by
 have HB := Aside0.mk (Below.refl w.heap.size w)
 have H : ((some (([(a0) % 256, ((a1.size : Int)) % 256] : List Int) : List Int)).bind fun y148 => (if (a1.size : Int) ≥ 128 then (ber_put.l0 k a1 (a1.size : Int) y148 1) else (if (strOfNums y148).size + a1.size ≤ 9223372036854775807 then (some ((strOfNums y148) ++ a1)) else (none)))) = some r := h
 clear h
 obtain ⟨y148, hy148⟩ : ∃ y_ : List Int, y_ = (([(a0) % 256, ((a1.size : Int)) % 256] : List Int)) := ⟨_, rfl⟩
 replace H : (if (a1.size : Int) ≥ 128 then (ber_put.l0 k a1 (a1.size : Int) y148 1) else (if (strOfNums y148).size + a1.size ≤ 9223372036854775807 then (some ((strOfNums y148) ++ a1)) else (none))) = some r := by first | (rw [hy148]; with_reducible exact H) | (have H2_ := (Option.bind_some _ _).symm.trans H; rw [hy148]; with_reducible exact H2_) | (have H2_ := (Option.bind_some _ _).symm.trans H; with_reducible exact H2_) | with_reducible exact H | (rw [hy148]; exact H) | exact H
 have Ny148 := Aside0.mk hy148
 clear hy148
 by_cases c3 : (a1.size : Int) ≥ 128
 rotate_left
 ·rw [if_neg c3] at H
  have c3b0 : decide (128 ≤ (a1.size : Int)) = false := decide_eq_false c3
  have c3b1 : decide (128 ≤ a1.size) = false := decide_eq_false (by omega)
  clear c3
  by_cases c20 : (strOfNums y148).size + a1.size ≤ 9223372036854775807
  rotate_left
  ·rw [if_neg c20] at H
   exact absurd H (by simp)
  rw [if_pos c20] at H
  have c20b0 := eq_true c20
  have c20b1 : decide ((strOfNums y148).size + a1.size ≤ 9223372036854775807) = true := decide_eq_true c20
  try have c20b2 : (9223372036854775807 < (strOfNums y148).size + a1.size) = False := eq_false (Nat.not_lt.2 c20)
  obtain rfl := Option.some.inj H
  go_enter Tryz.func44, Tryz.ntmps44
  go_wp2_with (first | ((with_reducible refine gate_dst (N := 16) rfl ?_); refine Kd.R_lit (Kd.int .u8) _ 5 ?hg (N := 16) ?hd (xs := ([(a0) % 256, ((a1.size : Int)) % 256] : List Int)) (inner := [.int .u8 ((a0) % 256), .int .u8 (((a1.size : Int)) % 256)]) (ok := fun _ => True) (okp := fun _ => True) ?hr ?hp (fun _ hk => hk) trivial (Below.refl _ _) (Nat.le_refl _) (by simp) ?_; (case hd => rfl); (case hg => rfl); (case hr => exact Zq2); (case hp => exact Zq56); intro v149 w21 ho22 hb hg_ hnew_; clear hg_ hnew_; (first | rw [← Ny148.out] at ho22 | (simp only [Int.reduceToNat] at ho22; rw [← Ny148.out] at ho22)); have HO150 := Aside0.mk (Kd.R_lower ho22 (below_size Zq13)); replace HB := Aside0.mk (below_step Zq13 hb); clear hb ho22; have hcv23 := own_string (P := Tryz.prog) Tryz.underlying87 Tryz.underlying5 Tryz.underlying9 (Kd.own_of_R HO150.out)))
  go_ret
  exact ⟨Zy51, Zy50⟩
 rw [if_pos c3] at H
 have c3b0 : decide (128 ≤ (a1.size : Int)) = true := decide_eq_true c3
 have c3b1 : decide (128 ≤ a1.size) = true := decide_eq_true (by omega)
 clear c3
 have H' := Aside0.mk H
 clear H
 go_enter Tryz.func44, Tryz.ntmps44
 go_wp2_with (first | ((with_reducible refine gate_dst (N := 16) rfl ?_); refine Kd.R_lit (Kd.int .u8) _ 5 ?hg (N := 16) ?hd (xs := ([(a0) % 256, ((a1.size : Int)) % 256] : List Int)) (inner := [.int .u8 ((a0) % 256), .int .u8 (((a1.size : Int)) % 256)]) (ok := fun _ => True) (okp := fun _ => True) ?hr ?hp (fun _ hk => hk) trivial (Below.refl _ _) (Nat.le_refl _) (by simp) ?_; (case hd => rfl); (case hg => rfl); (case hr => exact Zq2); (case hp => exact Zq56); intro v149 w4 ho5 hb hg_ hnew_; clear hg_ hnew_; (first | rw [← Ny148.out] at ho5 | (simp only [Int.reduceToNat] at ho5; rw [← Ny148.out] at ho5)); have HO150 := Aside0.mk (Kd.R_lower ho5 (below_size Zq13)); replace HB := Aside0.mk (below_step Zq13 hb); clear hb ho5))
 go_loopg [7] k (fun kq v7 w' => ∃ (x7_1 : Int), v7 = .int .i64 x7_1 ∧ Aside0 (ber_put.l0 kq a1 (a1.size : Int) y148 x7_1 = some r) ∧ Aside0 (kq ≤ k) ∧ Aside0 (Kd.R (Kd.int .u8) 5 w' w.heap.size (fun _ => True) v149 y148) ∧ Aside0 (Below w.heap.size w w'))
 case atStart => exact ⟨(1), Zq12, H', ⟨Nat.le_refl _⟩, ⟨by (with_reducible repeat (first | apply Kd.R_alloc | apply Kd.R_drewN | apply Kd.R_drew)); exact HO150.out⟩, ⟨Zy50⟩⟩
 case round =>
  clear H'
  (try clear p2); (try clear c3); (try clear c3b0); (try clear c3b1); (try clear c4)
  obtain ⟨x7_1, rfl, HA, HK1, HO_6, HB⟩ := hrel
  cases gk with
  | zero => exact absurd HA.out (by simp [ber_put.l0])
  | succ k1 =>
   have H := HA.out
   clear HA
   simp only [ber_put.l0] at H
   obtain ⟨ji6, hji6⟩ : ∃ j_ : Int, (wrap64 (8 * x7_1)) = j_ := ⟨_, rfl⟩
   replace H : (if 0 ≤ (ji6) then (if (shr .i64 (a1.size : Int) (ji6)) > 0 then (ber_put.l0 k1 a1 (a1.size : Int) y148 (wrap64 (x7_1 + 1))) else ((octet_Wide.f (a1.size : Int) x7_1).bind fun bt151 => (if 1 < (y148.length : Int) then ((some (y148.set (1 : Int).toNat ((wrap64 (128 + x7_1)) % 256) : List Int)).bind fun y153 => (if y153.length + bt151.1.size < 140737488355328 then ((some (y153 ++ bytesOf bt151.1 : List Int)).bind fun y154 => (if (strOfNums y154).size + a1.size ≤ 9223372036854775807 then (some ((strOfNums y154) ++ a1)) else (none))) else (none))) else (none)))) else (none)) = some r := by first | (rw [hji6] at H; exact H) | (simp only [hji6] at H ⊢; exact H)
   have hji6w : (IntKind.i64.wrap (8 * x7_1)) = ji6 := (i64_w _).trans hji6
   by_cases c7 : 0 ≤ (ji6)
   ·rw [if_pos c7] at H
    have c7b0 := eq_true c7
    have c7b1 : decide (0 ≤ (ji6)) = true := decide_eq_true c7
    clear c7
    obtain ⟨ji8, hji8⟩ : ∃ j_ : Int, (shr .i64 (a1.size : Int) (ji6)) = j_ := ⟨_, rfl⟩
    replace H : (if (ji8) > 0 then (ber_put.l0 k1 a1 (a1.size : Int) y148 (wrap64 (x7_1 + 1))) else ((octet_Wide.f (a1.size : Int) x7_1).bind fun bt151 => (if 1 < (y148.length : Int) then ((some (y148.set (1 : Int).toNat ((wrap64 (128 + x7_1)) % 256) : List Int)).bind fun y153 => (if y153.length + bt151.1.size < 140737488355328 then ((some (y153 ++ bytesOf bt151.1 : List Int)).bind fun y154 => (if (strOfNums y154).size + a1.size ≤ 9223372036854775807 then (some ((strOfNums y154) ++ a1)) else (none))) else (none))) else (none)))) = some r := by first | (rw [hji8] at H; exact H) | (simp only [hji8] at H ⊢; exact H)
    have hji8_ : ((a1.size : Int) / 2 ^ min (ji6).toNat 64) = ji8 := hji8
    have hji8z : (ji6) ≤ 64 → ((a1.size : Int) / 2 ^ (ji6).toNat) = ji8 := shr_small hji8
    by_cases c9 : (ji8) > 0
    ·rw [if_pos c9] at H
     have c9b0 : decide (0 < (ji8)) = true := decide_eq_true c9
     clear c9
     have H' := Aside0.mk H
     clear H
     go_wp2
     go_roundg k1
     case measure => have := HK1.out; omega
     case rel => exact ⟨(wrap64 (x7_1 + 1)), Zq12, H', ⟨by have := HK1.out; omega⟩, ⟨Zy68⟩, ⟨Zy50⟩⟩
    ·rw [if_neg c9] at H
     have c9b0 : decide (0 < (ji8)) = false := decide_eq_false c9
     clear c9
     replace H := Option.bind_eq_some_iff.mp H
     obtain ⟨⟨t151, t152⟩, A100, H⟩ := H
     replace H : (if 1 < (y148.length : Int) then ((some (y148.set (1 : Int).toNat ((wrap64 (128 + x7_1)) % 256) : List Int)).bind fun y153 => (if y153.length + t151.size < 140737488355328 then ((some (y153 ++ bytesOf t151 : List Int)).bind fun y154 => (if (strOfNums y154).size + a1.size ≤ 9223372036854775807 then (some ((strOfNums y154) ++ a1)) else (none))) else (none))) else (none)) = some r := H
     have A10 := Aside0.mk A100
     clear A100
     by_cases c11 : 1 < (y148.length : Int)
     ·rw [if_pos c11] at H
      have c11b0 : decide (1 < (y148.length : Int)) = true := decide_eq_true c11
      have c11b1 : decide (1 < y148.length) = true := decide_eq_true (by omega)
      clear c11
      obtain ⟨y153, hy153⟩ : ∃ y_ : List Int, y_ = (y148.set (1 : Int).toNat ((wrap64 (128 + x7_1)) % 256)) := ⟨_, rfl⟩
      replace H : (if y153.length + t151.size < 140737488355328 then ((some (y153 ++ bytesOf t151 : List Int)).bind fun y154 => (if (strOfNums y154).size + a1.size ≤ 9223372036854775807 then (some ((strOfNums y154) ++ a1)) else (none))) else (none)) = some r := by first | (rw [hy153]; with_reducible exact H) | (have H2_ := (Option.bind_some _ _).symm.trans H; rw [hy153]; with_reducible exact H2_) | (have H2_ := (Option.bind_some _ _).symm.trans H; with_reducible exact H2_) | with_reducible exact H | (rw [hy153]; exact H) | exact H
      have Ny153 := Aside0.mk hy153
      clear hy153
      by_cases c13 : y153.length + t151.size < 140737488355328
      ·rw [if_pos c13] at H
       have LMc13 := Aside0.mk c13
       clear c13
       obtain ⟨y154, hy154⟩ : ∃ y_ : List Int, y_ = (y153 ++ bytesOf t151) := ⟨_, rfl⟩
       replace H : (if (strOfNums y154).size + a1.size ≤ 9223372036854775807 then (some ((strOfNums y154) ++ a1)) else (none)) = some r := by first | (rw [hy154]; with_reducible exact H) | (have H2_ := (Option.bind_some _ _).symm.trans H; rw [hy154]; with_reducible exact H2_) | (have H2_ := (Option.bind_some _ _).symm.trans H; with_reducible exact H2_) | with_reducible exact H | (rw [hy154]; exact H) | exact H
       have Ny154 := Aside0.mk hy154
       clear hy154
       by_cases c14 : (strOfNums y154).size + a1.size ≤ 9223372036854775807
       ·rw [if_pos c14] at H
        have c14b0 := eq_true c14
        have c14b1 : decide ((strOfNums y154).size + a1.size ≤ 9223372036854775807) = true := decide_eq_true c14
        try have c14b2 : (9223372036854775807 < (strOfNums y154).size + a1.size) = False := eq_false (Nat.not_lt.2 c14)
        obtain rfl := Option.some.inj H
        go_wp2_with (first | ((with_reducible refine gate_callee (f := 59) rfl ?_); refine goesL_ (some 29) rfl rfl Tryz.func59 (by kernel_rfl) rfl #[.int .i64 (a1.size : Int), .int .i64 x7_1] rfl Zq14 ?_; (with_reducible refine (octet_Wide.calls (a1.size : Int) x7_1 t151 t152 _ A10.out).mono ?_); rintro e w15 ⟨rfl, hb⟩; refine ⟨_, rfl, ?_⟩; replace HO_6 := Aside0.mk (Kd.R_below Zy68 hb); replace HB := Aside0.mk (below_step Zq13 hb); (try clear hb); (try clear hb2); (try clear hk); (try clear hi); have p12 : 0 ≤ (1 : Int) := (by omega); have q12 : (1 : Int) < ((y148.length : Int) : Int) := of_decide_eq_true Zq1; have qi12 : (1 < y148.length) = True := eq_true (by omega); obtain ⟨go12, co12, eo12, gb12, gl12, cl12, HG12⟩ := Kd.R_form HO_6.out (by omega); (first | cases eo12 | (injection eo12 with ea_ en_ ec_; (first | subst ea_ | (injection ea_ with ea_; subst ea_)); subst ec_; clear en_)); have GB12 := Aside0.mk gb12; have GG12 := Aside0.mk HG12; clear gb12 gl12 HG12; obtain ⟨hx12_0, hf12_0⟩ := Kd.R_celln 0 HO_6.out (1 : Int) p12 q12; (try rw [show ((1 : Int)).toNat = 1 from rfl] at hx12_0); (try simp only [Nat.reduceMul, Nat.zero_mul, Nat.zero_add, Nat.reduceAdd] at hx12_0); (try rw [show ((1 : Int)).toNat = 1 from rfl] at hf12_0); (try simp only [Nat.reduceMul, Nat.zero_mul, Nat.zero_add, Nat.reduceAdd] at hf12_0); replace p12 := eq_true p12; replace q12 := eq_true q12; obtain ⟨hy16_, hz16_⟩ := Kd.R_celln 0 HO_6.out (1 : Int) (by omega) (of_decide_eq_true Zq1); (try simp only [Int.reduceToNat, Int.toNat_zero, Int.toNat_ofNat, Nat.reduceMul, Nat.zero_mul, Nat.zero_add] at hy16_ hz16_); (try rw [show ((1 : Int)).toNat = 1 from rfl] at hy16_); (try rw [show ((1 : Int)).toNat = 1 from rfl] at hz16_); have HP16 := Kd.R_putg HO_6.out (1 : Int) ((wrap64 (128 + x7_1)) % 256)) | ((with_reducible refine gate_store (t := 5) (p := 36) rfl ?_); refine store_event (t := 5) (p := 36) (v := ?vo_w17) (w1 := (w15.setCell ⟨go12, (1 : Int).toNat, none⟩ (.int .u8 ((wrap64 (128 + x7_1)) % 256)))) ?hg ?ho ?hn ?hr ?_; (case ho => rfl); (case hg => rfl); (case hn => rfl); (case hr => exact Zq2); intro w17 hw; have hg : w15.grownBy w17 (some go12) := (by rw [hw]; exact HP16.2); have hp_ : Kd.R (Kd.int .u8) 5 w17 w.heap.size (fun _ => True) (.slice (some ⟨go12, 0, none⟩) y148.length co12) y153 := (by rw [hw, Ny153.out]; exact HP16.1); clear HP16; replace HO_6 := Aside0.mk (hp_); replace HB := Aside0.mk ((by rw [hw]; exact below_set (HB.out) GB12.out : Below w.heap.size w w17)); clear hg hw hp_) | (at_builtin; refine print_append_str (w0 := w) w.heap.size rfl (.tmp 37) _ 87 9 5 rfl Tryz.underlying87 Tryz.underlying9 info5 (.slice (some ⟨go12, 0, none⟩) y148.length co12) y153 t151 rfl rfl ?aO ?aB ?aS ?aL ?_; (case aB => exact Zq13); (case aO => exact (Kd.own_of_R Zy68)); (case aS => exact (below_size Zq13)); (case aL => have := LMc13.out; omega); intro v155 w18 ho0 hb hg; have ho := Kd.R_of_own (h1 := fun _ => rfl) (ok := fun _ => True) ho0 (fun _ _ => trivial); clear ho0; have hat := True.intro; rw [← Ny154.out] at ho; change Kd.R (Kd.int .u8) 5 w18 w.heap.size (fun _ => True) v155 y154 at ho; have n0_ := Aside0.mk (hb); have n1_ := Aside0.mk (ho); clear HB; clear HO_6; have HB := n0_; have HO156 := n1_; clear n0_ n1_; clear ho hb hg hat; have hcv19 := own_string (P := Tryz.prog) Tryz.underlying87 Tryz.underlying5 Tryz.underlying9 (Kd.own_of_R HO156.out)))
        go_ret
        exact ⟨by first | rfl | (simp only [i64_w, i32_w]; rfl) | (simp [errW_none, errW_some] <;> rfl) | (simp only [← hji6, ← hji8]; first | rfl | (simp [errW_none, errW_some] <;> rfl)) | (simp [*, errW_none, errW_some] <;> rfl), Zy50⟩
       ·rw [if_neg c14] at H
        exact absurd H (by simp)
      ·rw [if_neg c13] at H
       exact absurd H (by simp)
     ·rw [if_neg c11] at H
      exact absurd H (by simp)
   ·rw [if_neg c7] at H
    exact absurd H (by simp)
def ber_Wrap.f (k : Nat) (a0 : Int) (a1 : ByteArray) : Option (ByteArray × Int) := (ber_isTag.f a0).bind fun t157 => (if t157 = true then (if (a1.size : Int) > 16777216 then (some ((⟨#[]⟩ : ByteArray), 2)) else ((ber_put.f k a0 a1).bind fun t158 => (some (t158, 0)))) else (some ((⟨#[]⟩ : ByteArray), 1)))
set_option maxHeartbeats 8000000 in
set_option maxRecDepth 100000 in
theorem ber_Wrap.calls (k : Nat) (a0 : Int) (a1 : ByteArray) (r1 : ByteArray) (r2 : Int) (w : World) (h : ber_Wrap.f k a0 a1 = some (r1, r2)) :
  Calls Tryz.prog 29 #[.int .i64 a0, .string a1] w fun e w' => e = .returned (.tuple #[.string r1, .int .i64 r2]) ∧ Below w.heap.size w w' := by
 have HB := Aside0.mk (Below.refl w.heap.size w)
 have H : ((ber_isTag.f a0).bind fun t157 => (if t157 = true then (if (a1.size : Int) > 16777216 then (some ((⟨#[]⟩ : ByteArray), 2)) else ((ber_put.f k a0 a1).bind fun t158 => (some (t158, 0)))) else (some ((⟨#[]⟩ : ByteArray), 1)))) = some (r1, r2) := h
 clear h
 replace H := Option.bind_eq_some_iff.mp H
 obtain ⟨t157, A30, H⟩ := H
 replace H : (if t157 = true then (if (a1.size : Int) > 16777216 then (some ((⟨#[]⟩ : ByteArray), 2)) else ((ber_put.f k a0 a1).bind fun t158 => (some (t158, 0)))) else (some ((⟨#[]⟩ : ByteArray), 1))) = some (r1, r2) := H
 have A3 := Aside0.mk A30
 clear A30
 by_cases c4 : t157 = true
 rotate_left
 ·replace c4 := Bool.eq_false_iff.mpr c4
  subst c4
  have H1 : (some ((⟨#[]⟩ : ByteArray), 1)) = some (r1, r2) := by rw [if_neg (show ¬ (false = true) by decide)] at H; exact H
  clear H
  have H := H1
  clear H1
  simp only [Option.some.injEq, Prod.mk.injEq] at H
  obtain ⟨rfl, rfl⟩ := H
  go_enter Tryz.func29, Tryz.ntmps29
  go_wp2_with (first | ((with_reducible refine gate_callee (f := 36) rfl ?_); refine goesL_ (some 8) rfl rfl Tryz.func36 (by kernel_rfl) rfl #[.int .i64 a0] rfl Zq14 ?_; (with_reducible refine (ber_isTag.calls a0 false _ A3.out).mono ?_); rintro e w' ⟨rfl, ⟨nd, rfl⟩⟩; refine ⟨_, rfl, ?_⟩))
  go_ret2
  exact ⟨Zy51, Zy50⟩
 subst c4
 have H1 : (if (a1.size : Int) > 16777216 then (some ((⟨#[]⟩ : ByteArray), 2)) else ((ber_put.f k a0 a1).bind fun t158 => (some (t158, 0)))) = some (r1, r2) := by rw [if_pos rfl] at H; exact H
 clear H
 have H := H1
 clear H1
 by_cases c5 : (a1.size : Int) > 16777216
 ·rw [if_pos c5] at H
  have c5b0 : decide (16777216 < (a1.size : Int)) = true := decide_eq_true c5
  have c5b1 : decide (16777216 < a1.size) = true := decide_eq_true (by omega)
  clear c5
  simp only [Option.some.injEq, Prod.mk.injEq] at H
  obtain ⟨rfl, rfl⟩ := H
  go_enter Tryz.func29, Tryz.ntmps29
  go_wp2_with (first | ((with_reducible refine gate_callee (f := 36) rfl ?_); refine goesL_ (some 8) rfl rfl Tryz.func36 (by kernel_rfl) rfl #[.int .i64 a0] rfl Zq14 ?_; (with_reducible refine (ber_isTag.calls a0 true _ A3.out).mono ?_); rintro e w' ⟨rfl, ⟨nd, rfl⟩⟩; refine ⟨_, rfl, ?_⟩))
  go_ret2
  exact ⟨Zy51, Zy50⟩
 rw [if_neg c5] at H
 have c5b0 : decide (16777216 < (a1.size : Int)) = false := decide_eq_false c5
 have c5b1 : decide (16777216 < a1.size) = false := decide_eq_false (by omega)
 clear c5
 replace H := Option.bind_eq_some_iff.mp H
 obtain ⟨t158, A60, H⟩ := H
 replace H : (some (t158, 0)) = some (r1, r2) := H
 have A6 := Aside0.mk A60
 clear A60
 simp only [Option.some.injEq, Prod.mk.injEq] at H
 obtain ⟨rfl, rfl⟩ := H
 go_enter Tryz.func29, Tryz.ntmps29
 go_wp2_with (first | ((with_reducible refine gate_callee (f := 36) rfl ?_); refine goesL_ (some 8) rfl rfl Tryz.func36 (by kernel_rfl) rfl #[.int .i64 a0] rfl Zq14 ?_; (with_reducible refine (ber_isTag.calls a0 true _ A3.out).mono ?_); rintro e w' ⟨rfl, ⟨nd, rfl⟩⟩; refine ⟨_, rfl, ?_⟩) | ((with_reducible refine gate_callee (f := 44) rfl ?_); refine goesL_ (some 16) rfl rfl Tryz.func44 (by kernel_rfl) rfl #[.int .i64 a0, .string a1] rfl Zq14 ?_; (with_reducible refine (ber_put.calls k a0 a1 t158 _ A6.out).mono ?_); rintro e w7 ⟨rfl, hb⟩; refine ⟨_, rfl, ?_⟩; replace HB := Aside0.mk (below_step Zq13 hb); (try clear hb); (try clear hb2); (try clear hk); (try clear hi)))
 go_ret2
 exact ⟨Zy51, Zy50⟩
def pdu_wrap.f (k : Nat) (a0 : Int) (a1 : ByteArray) : Option (ByteArray) := (ber_Wrap.f k a0 a1).bind fun bt159 => (some bt159.1)
set_option maxHeartbeats 8000000 in
set_option maxRecDepth 100000 in
theorem pdu_wrap.calls (k : Nat) (a0 : Int) (a1 : ByteArray) (r : ByteArray) (w : World) (h : pdu_wrap.f k a0 a1 = some r) :
  Calls Tryz.prog 42 #[.int .i64 a0, .string a1] w fun e w' => e = .returned (.string r) ∧ Below w.heap.size w w' := by
 have HB := Aside0.mk (Below.refl w.heap.size w)
 have H : ((ber_Wrap.f k a0 a1).bind fun bt159 => (some bt159.1)) = some r := h
 clear h
 replace H := Option.bind_eq_some_iff.mp H
 obtain ⟨⟨t159, t160⟩, A30, H⟩ := H
 replace H : (some t159) = some r := H
 have A3 := Aside0.mk A30
 clear A30
 obtain rfl := Option.some.inj H
 go_enter Tryz.func42, Tryz.ntmps42
 go_wp2_with (first | ((with_reducible refine gate_callee (f := 29) rfl ?_); refine goesL_ (some 10) rfl rfl Tryz.func29 (by kernel_rfl) rfl #[.int .i64 a0, .string a1] rfl Zq14 ?_; (with_reducible refine (ber_Wrap.calls k a0 a1 t159 t160 _ A3.out).mono ?_); rintro e w4 ⟨rfl, hb⟩; refine ⟨_, rfl, ?_⟩; replace HB := Aside0.mk (below_step Zq13 hb); (try clear hb); (try clear hb2); (try clear hk); (try clear hi)))
 go_ret
 exact ⟨Zy51, Zy50⟩
end Go.Proofs.YtfmhghlmljlfgaaGreatDoor.XTrS
