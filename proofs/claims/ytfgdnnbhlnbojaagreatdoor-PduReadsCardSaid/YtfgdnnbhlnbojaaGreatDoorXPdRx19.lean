-- Laid by extprint.py (the session's own driver): functions told by the kit's printer and by hand.
import Derived.Test.YtfgdnnbhlnbojaaGreatDoorXPdRx0
namespace Go.Proofs.YtfgdnnbhlnbojaaGreatDoor.XPdR
open Go.RowKit Gong Go.Proofs.YtfgdnnbhlnbojaaGreatDoorW.PrintWords Go.Proofs.YtfgdnnbhlnbojaaGreatDoorW.PrintLast Go.Proofs.YtfgdnnbhlnbojaaGreatDoorW.PrintMore
attribute [local go_sem] max2_int min2_int max_two min_two max_three min_three max_four min_four   -- for this text's walks alone
set_option linter.unusedVariables false
set_option linter.unusedSimpArgs false
mutual
def gongref05_Number.j0 : Nat → ByteArray → Bool → Option (Int × Int)
 | 0, _, _ => none
 | k + 1, x0, x13 => if x13 = true then (some (0, 50)) else (if (x0.size : Int) > 1 then (if 0 < (x0.size : Int) then (if (bt x0 0) = 0 then (if 1 < (x0.size : Int) then (if (bt x0 1) < 128 then (gongref05_Number.j1 k x0 true) else (if (bt x0 0) = 255 then (gongref05_Number.j1 k x0 (decide ((bt x0 1) ≥ 128))) else (gongref05_Number.j1 k x0 false))) else (none)) else (if (bt x0 0) = 255 then (if 1 < (x0.size : Int) then (gongref05_Number.j1 k x0 (decide ((bt x0 1) ≥ 128))) else (none)) else (gongref05_Number.j1 k x0 false))) else (none)) else (gongref05_Number.j1 k x0 false))
def gongref05_Number.j1 : Nat → ByteArray → Bool → Option (Int × Int)
 | 0, _, _ => none
 | k + 1, x0, x36 => if x36 = true then (some (0, 50)) else (if 0 < (x0.size : Int) then (if (bt x0 0) ≥ 128 then (gongref05_Number.j2 k x0 (-1)) else (gongref05_Number.j2 k x0 0)) else (none))
def gongref05_Number.j2 : Nat → ByteArray → Int → Option (Int × Int)
 | 0, _, _ => none
 | k + 1, x0, x4 => gongref05_Number.l0 k x0 x4 0
def gongref05_Number.l0 : Nat → ByteArray → Int → Int → Option (Int × Int)
 | 0, _, _, _ => none
 | k + 1, x0, x4, x5 => if x5 < (x0.size : Int) then (if 0 ≤ x5 then (gongref05_Number.l0 k x0 (Go.bits .or .i64 (wrap64 (x4 * 256)) (wrap64 (bt x0 x5))) (wrap64 (x5 + 1))) else (none)) else (some (x4, 0))
end
def gongref05_Number.f (k : Nat) (a0 : ByteArray) : Option (Int × Int) := if (a0.size : Int) < 1 then (gongref05_Number.j0 k a0 true) else (gongref05_Number.j0 k a0 (decide ((a0.size : Int) > 8)))
theorem gongref05_Number.mono_l : ∀ k, (∀ y0 y1, LeO (gongref05_Number.j0 k y0 y1) (gongref05_Number.j0 (k + 1) y0 y1)) ∧ (∀ y0 y1, LeO (gongref05_Number.j1 k y0 y1) (gongref05_Number.j1 (k + 1) y0 y1)) ∧ (∀ y0 y1, LeO (gongref05_Number.j2 k y0 y1) (gongref05_Number.j2 (k + 1) y0 y1)) ∧ (∀ y0 y1 y2, LeO (gongref05_Number.l0 k y0 y1 y2) (gongref05_Number.l0 (k + 1) y0 y1 y2))
 | 0 => ⟨fun _ _ r h => by simp [gongref05_Number.j0] at h, fun _ _ r h => by simp [gongref05_Number.j1] at h, fun _ _ r h => by simp [gongref05_Number.j2] at h, fun _ _ _ r h => by simp [gongref05_Number.l0] at h⟩
 | k + 1 => by
  obtain ⟨ih0, ih1, ih2, ih3⟩ := gongref05_Number.mono_l k
  refine ⟨?_, ?_, ?_, ?_⟩
  ·intro y0 y1
   unfold gongref05_Number.j0
   repeat' first
   | (with_reducible exact ih0 _ _)
   | (with_reducible exact ih1 _ _)
   | (with_reducible exact ih2 _ _)
   | (with_reducible exact ih3 _ _ _)
   | (with_reducible exact LeO.refl _)
   | (with_reducible exact LeO.none _)
   | (with_reducible refine LeO.ite ?_ ?_)
   | (with_reducible refine LeO.bind ?_ (fun _ => ?_))
   | exact ih0 _ _
   | exact ih1 _ _
   | exact ih2 _ _
   | exact ih3 _ _ _
   | exact LeO.none _
   | refine LeO.ite ?_ ?_
   | refine LeO.bind ?_ (fun _ => ?_)
  ·intro y0 y1
   unfold gongref05_Number.j1
   repeat' first
   | (with_reducible exact ih0 _ _)
   | (with_reducible exact ih1 _ _)
   | (with_reducible exact ih2 _ _)
   | (with_reducible exact ih3 _ _ _)
   | (with_reducible exact LeO.refl _)
   | (with_reducible exact LeO.none _)
   | (with_reducible refine LeO.ite ?_ ?_)
   | (with_reducible refine LeO.bind ?_ (fun _ => ?_))
   | exact ih0 _ _
   | exact ih1 _ _
   | exact ih2 _ _
   | exact ih3 _ _ _
   | exact LeO.none _
   | refine LeO.ite ?_ ?_
   | refine LeO.bind ?_ (fun _ => ?_)
  ·intro y0 y1
   unfold gongref05_Number.j2
   repeat' first
   | (with_reducible exact ih0 _ _)
   | (with_reducible exact ih1 _ _)
   | (with_reducible exact ih2 _ _)
   | (with_reducible exact ih3 _ _ _)
   | (with_reducible exact LeO.refl _)
   | (with_reducible exact LeO.none _)
   | (with_reducible refine LeO.ite ?_ ?_)
   | (with_reducible refine LeO.bind ?_ (fun _ => ?_))
   | exact ih0 _ _
   | exact ih1 _ _
   | exact ih2 _ _
   | exact ih3 _ _ _
   | exact LeO.none _
   | refine LeO.ite ?_ ?_
   | refine LeO.bind ?_ (fun _ => ?_)
  ·intro y0 y1 y2
   unfold gongref05_Number.l0
   repeat' first
   | (with_reducible exact ih0 _ _)
   | (with_reducible exact ih1 _ _)
   | (with_reducible exact ih2 _ _)
   | (with_reducible exact ih3 _ _ _)
   | (with_reducible exact LeO.refl _)
   | (with_reducible exact LeO.none _)
   | (with_reducible refine LeO.ite ?_ ?_)
   | (with_reducible refine LeO.bind ?_ (fun _ => ?_))
   | exact ih0 _ _
   | exact ih1 _ _
   | exact ih2 _ _
   | exact ih3 _ _ _
   | exact LeO.none _
   | refine LeO.ite ?_ ?_
   | refine LeO.bind ?_ (fun _ => ?_)
theorem gongref05_Number.mono : ∀ a0 k, LeO (gongref05_Number.f k a0) (gongref05_Number.f (k + 1) a0) := by
 intro a0 k
 obtain ⟨ih0, ih1, ih2, ih3⟩ := gongref05_Number.mono_l k
 unfold gongref05_Number.f
 repeat' first
   | (with_reducible exact ih0 _ _)
   | (with_reducible exact ih1 _ _)
   | (with_reducible exact ih2 _ _)
   | (with_reducible exact ih3 _ _ _)
   | (with_reducible exact LeO.refl _)
   | (with_reducible exact LeO.none _)
   | (with_reducible refine LeO.ite ?_ ?_)
   | (with_reducible refine LeO.bind ?_ (fun _ => ?_))
   | exact ih0 _ _
   | exact ih1 _ _
   | exact ih2 _ _
   | exact ih3 _ _ _
   | exact LeO.none _
   | refine LeO.ite ?_ ?_
   | refine LeO.bind ?_ (fun _ => ?_)
set_option maxHeartbeats 8000000 in
set_option maxRecDepth 100000 in
theorem gongref05_Number.calls (k : Nat) (a0 : ByteArray) (r1 : Int) (r2 : Int) (w : World) (h : gongref05_Number.f k a0 = some (r1, r2)) :
  Calls Tryz.prog 36 #[.string a0] w fun e w' => e = .returned (.tuple #[.int .i64 r1, .int .i64 r2]) ∧ Drawn0 w w' := by
 have H : (if (a0.size : Int) < 1 then (gongref05_Number.j0 k a0 true) else (gongref05_Number.j0 k a0 (decide ((a0.size : Int) > 8)))) = some (r1, r2) := h
 clear h
 have HC2 := Aside0.mk H
 clear H
 go_enter Tryz.func36, Tryz.ntmps36
 go_upto_region 1 with (fail)
 go_cut [13] (fun v13 wc => ∃ (kq : Nat) (x13_1 : Bool), v13 = .bool x13_1 ∧ Aside0 (gongref05_Number.j0 kq a0 x13_1 = some (r1, r2)) ∧ Aside0 (kq ≤ k) ∧ Drawn0 w wc)
 case first =>
  have H := HC2.out
  clear HC2
  by_cases c3 : (a0.size : Int) < 1
  ·rw [if_pos c3] at H
   have c3b0 : decide ((a0.size : Int) < 1) = true := decide_eq_true c3
   have c3b1 : decide (a0.size < 1) = true := decide_eq_true (by omega)
   clear c3
   (first | rw [c3b0] | (simp only [i64_w, i32_w]; rw [c3b0]) | skip)
   have H' := Aside0.mk H
   clear H
   go_wp2
   go_meet
   case rel => exact ⟨_, (true), Zq11, H', ⟨Zy61⟩, Zy56⟩
  ·rw [if_neg c3] at H
   have c3b0 : decide ((a0.size : Int) < 1) = false := decide_eq_false c3
   have c3b1 : decide (a0.size < 1) = false := decide_eq_false (by omega)
   clear c3
   (first | rw [c3b0] | (simp only [i64_w, i32_w]; rw [c3b0]) | skip)
   have H' := Aside0.mk H
   clear H
   go_wp2
   go_meet
   case rel => exact ⟨_, (decide ((a0.size : Int) > 8)), Zq11, H', ⟨Zy61⟩, Zy56⟩
 case rest =>
  clear HC2
  (try clear p2); (try clear c3); (try clear c3b0); (try clear c3b1)
  obtain ⟨kq, x13_1, rfl, HA, HJ1, ⟨mc1, rfl⟩⟩ := hcut
  cases kq with
  | zero => exact absurd HA.out (by simp [gongref05_Number.j0])
  | succ kj1 =>
   have H := HA.out
   clear HA
   simp only [gongref05_Number.j0] at H
   by_cases c4 : x13_1 = true
   ·subst c4
    have H1 : (some (0, 50)) = some (r1, r2) := by rw [if_pos rfl] at H; exact H
    clear H
    have H := H1
    clear H1
    simp only [Option.some.injEq, Prod.mk.injEq] at H
    obtain ⟨rfl, rfl⟩ := H
    go_wp2
    go_ret2
    exact ⟨Zy59, Zy56⟩
   ·replace c4 := Bool.eq_false_iff.mpr c4
    subst c4
    have H1 : (if (a0.size : Int) > 1 then (if 0 < (a0.size : Int) then (if (bt a0 0) = 0 then (if 1 < (a0.size : Int) then (if (bt a0 1) < 128 then (gongref05_Number.j1 kj1 a0 true) else (if (bt a0 0) = 255 then (gongref05_Number.j1 kj1 a0 (decide ((bt a0 1) ≥ 128))) else (gongref05_Number.j1 kj1 a0 false))) else (none)) else (if (bt a0 0) = 255 then (if 1 < (a0.size : Int) then (gongref05_Number.j1 kj1 a0 (decide ((bt a0 1) ≥ 128))) else (none)) else (gongref05_Number.j1 kj1 a0 false))) else (none)) else (gongref05_Number.j1 kj1 a0 false)) = some (r1, r2) := by rw [if_neg (show ¬ (false = true) by decide)] at H; exact H
    clear H
    have H := H1
    clear H1
    have HC5 := Aside0.mk H
    clear H
    go_upto_region 3 with (fail)
    go_cut [36] (fun v36 wc => ∃ (kq : Nat) (x36_4 : Bool), v36 = .bool x36_4 ∧ Aside0 (gongref05_Number.j1 kq a0 x36_4 = some (r1, r2)) ∧ Aside0 (kq ≤ kj1) ∧ Drawn0 w wc)
    case first =>
     have H := HC5.out
     clear HC5
     by_cases c6 : (a0.size : Int) > 1
     ·rw [if_pos c6] at H
      have c6b0 : decide (1 < (a0.size : Int)) = true := decide_eq_true c6
      have c6b1 : decide (1 < a0.size) = true := decide_eq_true (by omega)
      clear c6
      (first | rw [c6b0] | (simp only [i64_w, i32_w]; rw [c6b0]) | skip)
      by_cases c7 : 0 < (a0.size : Int)
      ·rw [if_pos c7] at H
       have c7b0 : decide (0 < (a0.size : Int)) = true := decide_eq_true c7
       have c7b1 : decide (0 < a0.size) = true := decide_eq_true (by omega)
       clear c7
       by_cases c9 : (bt a0 0) = 0
       ·rw [if_pos c9] at H
        have c9b0 : ((bt a0 0) == 0) = true := beq_iff_eq.mpr c9
        have c9b1 : ((bt a0 0) != 0) = false := bne_eq_false_iff_eq.mpr c9
        clear c9
        by_cases c10 : 1 < (a0.size : Int)
        ·rw [if_pos c10] at H
         have c10b0 : decide (1 < (a0.size : Int)) = true := decide_eq_true c10
         have c10b1 : decide (1 < a0.size) = true := decide_eq_true (by omega)
         clear c10
         by_cases c12 : (bt a0 1) < 128
         ·rw [if_pos c12] at H
          have c12b0 : decide ((bt a0 1) < 128) = true := decide_eq_true c12
          clear c12
          have H' := Aside0.mk H
          clear H
          have p8 : 0 ≤ (0 : Int) := (by omega)
          have q8 : 0 < a0.size := (by have : (0 : Int) < (a0.size : Int) := of_decide_eq_true Zq1; omega)
          have hx8 : ∀ h : 0 < a0.size, ((a0[0]'h).toNat : Int) = bt a0 0 := bt_at a0 0
          clear p8
          have qi8 : (0 < (a0.size : Int)) = True := eq_true (of_decide_eq_true Zq1)
          replace q8 := eq_true q8
          have p11 : 0 ≤ (1 : Int) := (by omega)
          have q11 : 1 < a0.size := (by have : (1 : Int) < (a0.size : Int) := of_decide_eq_true Zq1; omega)
          have hx11 : ∀ h : 1 < a0.size, ((a0[1]'h).toNat : Int) = bt a0 1 := bt_at a0 1
          clear p11
          have qi11 : (1 < (a0.size : Int)) = True := eq_true (of_decide_eq_true Zq1)
          replace q11 := eq_true q11
          go_wp2
          go_meet
          case rel => exact ⟨_, (true), Zq11, H', ⟨Zy58⟩, Zy56⟩
         ·rw [if_neg c12] at H
          have c12b0 : decide ((bt a0 1) < 128) = false := decide_eq_false c12
          clear c12
          by_cases c14 : (bt a0 0) = 255
          ·rw [if_pos c14] at H
           have c14b0 : ((bt a0 0) == 255) = true := beq_iff_eq.mpr c14
           have c14b1 : ((bt a0 0) != 255) = false := bne_eq_false_iff_eq.mpr c14
           clear c14
           have H' := Aside0.mk H
           clear H
           have p8 : 0 ≤ (0 : Int) := (by omega)
           have q8 : 0 < a0.size := (by have : (0 : Int) < (a0.size : Int) := of_decide_eq_true Zq1; omega)
           have hx8 : ∀ h : 0 < a0.size, ((a0[0]'h).toNat : Int) = bt a0 0 := bt_at a0 0
           clear p8
           have qi8 : (0 < (a0.size : Int)) = True := eq_true (of_decide_eq_true Zq1)
           replace q8 := eq_true q8
           have p11 : 0 ≤ (1 : Int) := (by omega)
           have q11 : 1 < a0.size := (by have : (1 : Int) < (a0.size : Int) := of_decide_eq_true Zq1; omega)
           have hx11 : ∀ h : 1 < a0.size, ((a0[1]'h).toNat : Int) = bt a0 1 := bt_at a0 1
           clear p11
           have qi11 : (1 < (a0.size : Int)) = True := eq_true (of_decide_eq_true Zq1)
           replace q11 := eq_true q11
           have p13 : 0 ≤ (0 : Int) := (by omega)
           have q13 : 0 < a0.size := (by have : (0 : Int) < (a0.size : Int) := of_decide_eq_true Zq1; omega)
           have hx13 : ∀ h : 0 < a0.size, ((a0[0]'h).toNat : Int) = bt a0 0 := bt_at a0 0
           clear p13
           have qi13 : (0 < (a0.size : Int)) = True := eq_true (of_decide_eq_true Zq1)
           replace q13 := eq_true q13
           have p15 : 0 ≤ (1 : Int) := (by omega)
           have q15 : 1 < a0.size := (by have : (1 : Int) < (a0.size : Int) := of_decide_eq_true Zq1; omega)
           have hx15 : ∀ h : 1 < a0.size, ((a0[1]'h).toNat : Int) = bt a0 1 := bt_at a0 1
           clear p15
           have qi15 : (1 < (a0.size : Int)) = True := eq_true (of_decide_eq_true Zq1)
           replace q15 := eq_true q15
           go_wp2
           go_meet
           case rel => exact ⟨_, (decide ((bt a0 1) ≥ 128)), Zq11, H', ⟨Zy58⟩, Zy56⟩
          ·rw [if_neg c14] at H
           have c14b0 : ((bt a0 0) == 255) = false := beq_eq_false_iff_ne.mpr c14
           have c14b1 : ((bt a0 0) != 255) = true := bne_iff_ne.mpr c14
           have H' := Aside0.mk H
           clear H
           have p8 : 0 ≤ (0 : Int) := (by omega)
           have q8 : 0 < a0.size := (by have : (0 : Int) < (a0.size : Int) := of_decide_eq_true Zq1; omega)
           have hx8 : ∀ h : 0 < a0.size, ((a0[0]'h).toNat : Int) = bt a0 0 := bt_at a0 0
           clear p8
           have qi8 : (0 < (a0.size : Int)) = True := eq_true (of_decide_eq_true Zq1)
           replace q8 := eq_true q8
           have p11 : 0 ≤ (1 : Int) := (by omega)
           have q11 : 1 < a0.size := (by have : (1 : Int) < (a0.size : Int) := of_decide_eq_true Zq1; omega)
           have hx11 : ∀ h : 1 < a0.size, ((a0[1]'h).toNat : Int) = bt a0 1 := bt_at a0 1
           clear p11
           have qi11 : (1 < (a0.size : Int)) = True := eq_true (of_decide_eq_true Zq1)
           replace q11 := eq_true q11
           have p13 : 0 ≤ (0 : Int) := (by omega)
           have q13 : 0 < a0.size := (by have : (0 : Int) < (a0.size : Int) := of_decide_eq_true Zq1; omega)
           have hx13 : ∀ h : 0 < a0.size, ((a0[0]'h).toNat : Int) = bt a0 0 := bt_at a0 0
           clear p13
           have qi13 : (0 < (a0.size : Int)) = True := eq_true (of_decide_eq_true Zq1)
           replace q13 := eq_true q13
           go_wp2
           go_meet
           case rel => exact ⟨_, (false), Zq11, H', ⟨Zy58⟩, Zy56⟩
        ·rw [if_neg c10] at H
         exact absurd H (by simp)
       ·rw [if_neg c9] at H
        have c9b0 : ((bt a0 0) == 0) = false := beq_eq_false_iff_ne.mpr c9
        have c9b1 : ((bt a0 0) != 0) = true := bne_iff_ne.mpr c9
        by_cases c17 : (bt a0 0) = 255
        ·rw [if_pos c17] at H
         have c17b0 : ((bt a0 0) == 255) = true := beq_iff_eq.mpr c17
         have c17b1 : ((bt a0 0) != 255) = false := bne_eq_false_iff_eq.mpr c17
         clear c17
         by_cases c18 : 1 < (a0.size : Int)
         ·rw [if_pos c18] at H
          have c18b0 : decide (1 < (a0.size : Int)) = true := decide_eq_true c18
          have c18b1 : decide (1 < a0.size) = true := decide_eq_true (by omega)
          clear c18
          have H' := Aside0.mk H
          clear H
          have p8 : 0 ≤ (0 : Int) := (by omega)
          have q8 : 0 < a0.size := (by have : (0 : Int) < (a0.size : Int) := of_decide_eq_true Zq1; omega)
          have hx8 : ∀ h : 0 < a0.size, ((a0[0]'h).toNat : Int) = bt a0 0 := bt_at a0 0
          clear p8
          have qi8 : (0 < (a0.size : Int)) = True := eq_true (of_decide_eq_true Zq1)
          replace q8 := eq_true q8
          have p16 : 0 ≤ (0 : Int) := (by omega)
          have q16 : 0 < a0.size := (by have : (0 : Int) < (a0.size : Int) := of_decide_eq_true Zq1; omega)
          have hx16 : ∀ h : 0 < a0.size, ((a0[0]'h).toNat : Int) = bt a0 0 := bt_at a0 0
          clear p16
          have qi16 : (0 < (a0.size : Int)) = True := eq_true (of_decide_eq_true Zq1)
          replace q16 := eq_true q16
          have p19 : 0 ≤ (1 : Int) := (by omega)
          have q19 : 1 < a0.size := (by have : (1 : Int) < (a0.size : Int) := of_decide_eq_true Zq1; omega)
          have hx19 : ∀ h : 1 < a0.size, ((a0[1]'h).toNat : Int) = bt a0 1 := bt_at a0 1
          clear p19
          have qi19 : (1 < (a0.size : Int)) = True := eq_true (of_decide_eq_true Zq1)
          replace q19 := eq_true q19
          go_wp2
          go_meet
          case rel => exact ⟨_, (decide ((bt a0 1) ≥ 128)), Zq11, H', ⟨Zy58⟩, Zy56⟩
         ·rw [if_neg c18] at H
          exact absurd H (by simp)
        ·rw [if_neg c17] at H
         have c17b0 : ((bt a0 0) == 255) = false := beq_eq_false_iff_ne.mpr c17
         have c17b1 : ((bt a0 0) != 255) = true := bne_iff_ne.mpr c17
         have H' := Aside0.mk H
         clear H
         have p8 : 0 ≤ (0 : Int) := (by omega)
         have q8 : 0 < a0.size := (by have : (0 : Int) < (a0.size : Int) := of_decide_eq_true Zq1; omega)
         have hx8 : ∀ h : 0 < a0.size, ((a0[0]'h).toNat : Int) = bt a0 0 := bt_at a0 0
         clear p8
         have qi8 : (0 < (a0.size : Int)) = True := eq_true (of_decide_eq_true Zq1)
         replace q8 := eq_true q8
         have p16 : 0 ≤ (0 : Int) := (by omega)
         have q16 : 0 < a0.size := (by have : (0 : Int) < (a0.size : Int) := of_decide_eq_true Zq1; omega)
         have hx16 : ∀ h : 0 < a0.size, ((a0[0]'h).toNat : Int) = bt a0 0 := bt_at a0 0
         clear p16
         have qi16 : (0 < (a0.size : Int)) = True := eq_true (of_decide_eq_true Zq1)
         replace q16 := eq_true q16
         go_wp2
         go_meet
         case rel => exact ⟨_, (false), Zq11, H', ⟨Zy58⟩, Zy56⟩
      ·rw [if_neg c7] at H
       exact absurd H (by simp)
     ·rw [if_neg c6] at H
      have c6b0 : decide (1 < (a0.size : Int)) = false := decide_eq_false c6
      have c6b1 : decide (1 < a0.size) = false := decide_eq_false (by omega)
      clear c6
      (first | rw [c6b0] | (simp only [i64_w, i32_w]; rw [c6b0]) | skip)
      have H' := Aside0.mk H
      clear H
      go_wp2
      go_meet
      case rel => exact ⟨_, (false), Zq11, H', ⟨Zy58⟩, Zy56⟩
    case rest =>
     clear HC5
     (try clear c1); (try clear p1); (try clear q1); (try clear hx1); (try clear qi1); (try clear p2); (try clear c3); (try clear c3b0); (try clear c3b1); (try clear c4); (try clear c6); (try clear c6b0); (try clear c6b1); (try clear c7); (try clear c7b0); (try clear c7b1); (try clear p8); (try clear q8); (try clear hx8); (try clear qi8); (try clear c9); (try clear c9b0); (try clear c9b1); (try clear c10); (try clear c10b0); (try clear c10b1); (try clear p11); (try clear q11); (try clear hx11); (try clear qi11); (try clear c12); (try clear c12b0); (try clear p13); (try clear q13); (try clear hx13); (try clear qi13); (try clear c14); (try clear c14b0); (try clear c14b1); (try clear p15); (try clear q15); (try clear hx15); (try clear qi15); (try clear p16); (try clear q16); (try clear hx16); (try clear qi16); (try clear c17); (try clear c17b0); (try clear c17b1); (try clear c18); (try clear c18b0); (try clear c18b1); (try clear p19); (try clear q19); (try clear hx19); (try clear qi19)
     obtain ⟨kq, x36_4, rfl, HA, HJ4, ⟨mc4, rfl⟩⟩ := hcut
     cases kq with
     | zero => exact absurd HA.out (by simp [gongref05_Number.j1])
     | succ kj4 =>
      have H := HA.out
      clear HA
      simp only [gongref05_Number.j1] at H
      by_cases c20 : x36_4 = true
      ·subst c20
       have H1 : (some (0, 50)) = some (r1, r2) := by rw [if_pos rfl] at H; exact H
       clear H
       have H := H1
       clear H1
       simp only [Option.some.injEq, Prod.mk.injEq] at H
       obtain ⟨rfl, rfl⟩ := H
       go_wp2
       go_ret2
       exact ⟨Zy59, Zy56⟩
      ·replace c20 := Bool.eq_false_iff.mpr c20
       subst c20
       have H1 : (if 0 < (a0.size : Int) then (if (bt a0 0) ≥ 128 then (gongref05_Number.j2 kj4 a0 (-1)) else (gongref05_Number.j2 kj4 a0 0)) else (none)) = some (r1, r2) := by rw [if_neg (show ¬ (false = true) by decide)] at H; exact H
       clear H
       have H := H1
       clear H1
       by_cases c21 : 0 < (a0.size : Int)
       ·rw [if_pos c21] at H
        have c21b0 : decide (0 < (a0.size : Int)) = true := decide_eq_true c21
        have c21b1 : decide (0 < a0.size) = true := decide_eq_true (by omega)
        clear c21
        have HC23 := Aside0.mk H
        clear H
        have p22 : 0 ≤ (0 : Int) := (by omega)
        have q22 : 0 < a0.size := (by have : (0 : Int) < (a0.size : Int) := of_decide_eq_true Zq1; omega)
        have hx22 : ∀ h : 0 < a0.size, ((a0[0]'h).toNat : Int) = bt a0 0 := bt_at a0 0
        clear p22
        have qi22 : (0 < (a0.size : Int)) = True := eq_true (of_decide_eq_true Zq1)
        replace q22 := eq_true q22
        go_upto_if 39 with (fail)
        go_cut [4] (fun v4 wc => ∃ (kq : Nat) (x4_22 : Int), v4 = .int .i64 x4_22 ∧ Aside0 (gongref05_Number.j2 kq a0 x4_22 = some (r1, r2)) ∧ Aside0 (kq ≤ kj4) ∧ Drawn0 w wc)
        case first =>
         have H := HC23.out
         clear HC23
         by_cases c24 : (bt a0 0) ≥ 128
         ·rw [if_pos c24] at H
          have c24b0 : decide (128 ≤ (bt a0 0)) = true := decide_eq_true c24
          clear c24
          (first | rw [c24b0] | (simp only [i64_w, i32_w]; rw [c24b0]) | skip)
          have H' := Aside0.mk H
          clear H
          go_wp2
          go_meet
          case rel => exact ⟨_, ((-1)), Zq11, H', ⟨by have := HJ1.out; have := HJ4.out; first | omega | exact Nat.le_refl _⟩, Zy56⟩
         ·rw [if_neg c24] at H
          have c24b0 : decide (128 ≤ (bt a0 0)) = false := decide_eq_false c24
          clear c24
          (first | rw [c24b0] | (simp only [i64_w, i32_w]; rw [c24b0]) | skip)
          have H' := Aside0.mk H
          clear H
          go_wp2
          go_meet
          case rel => exact ⟨_, (0), Zq11, H', ⟨by have := HJ1.out; have := HJ4.out; first | omega | exact Nat.le_refl _⟩, Zy56⟩
        case rest =>
         clear HC23
         (try clear c1); (try clear p1); (try clear q1); (try clear hx1); (try clear qi1); (try clear c2); (try clear p2); (try clear q2); (try clear hx2); (try clear qi2); (try clear c3); (try clear c3b0); (try clear c3b1); (try clear c4); (try clear c6); (try clear c6b0); (try clear c6b1); (try clear c7); (try clear c7b0); (try clear c7b1); (try clear p8); (try clear q8); (try clear hx8); (try clear qi8); (try clear c9); (try clear c9b0); (try clear c9b1); (try clear c10); (try clear c10b0); (try clear c10b1); (try clear p11); (try clear q11); (try clear hx11); (try clear qi11); (try clear c12); (try clear c12b0); (try clear p13); (try clear q13); (try clear hx13); (try clear qi13); (try clear c14); (try clear c14b0); (try clear c14b1); (try clear p15); (try clear q15); (try clear hx15); (try clear qi15); (try clear p16); (try clear q16); (try clear hx16); (try clear qi16); (try clear c17); (try clear c17b0); (try clear c17b1); (try clear c18); (try clear c18b0); (try clear c18b1); (try clear p19); (try clear q19); (try clear hx19); (try clear qi19); (try clear c20); (try clear c21); (try clear c21b0); (try clear c21b1); (try clear p22); (try clear q22); (try clear hx22); (try clear qi22); (try clear c24); (try clear c24b0)
         obtain ⟨kq, x4_22, rfl, HA, HJ22, ⟨mc22, rfl⟩⟩ := hcut
         cases kq with
         | zero => exact absurd HA.out (by simp [gongref05_Number.j2])
         | succ kj22 =>
          have H := HA.out
          clear HA
          simp only [gongref05_Number.j2] at H
          have H' := Aside0.mk H
          clear H
          go_wp2
          go_loopg [4, 5] kj22 (fun kq v4 v5 w' => ∃ (x4_4 : Int) (x5_4 : Int), v4 = .int .i64 x4_4 ∧ v5 = .int .i64 x5_4 ∧ Aside0 (gongref05_Number.l0 kq a0 x4_4 x5_4 = some (r1, r2)) ∧ Aside0 (kq ≤ kj22) ∧ Drawn0 w w')
          case atStart => exact ⟨(x4_22), (0), Zq11, Zq11, H', ⟨Nat.le_refl _⟩, Zy56⟩
          case round =>
           clear H'
           (try clear c1); (try clear p1); (try clear q1); (try clear hx1); (try clear qi1); (try clear c2); (try clear p2); (try clear q2); (try clear hx2); (try clear qi2); (try clear c3); (try clear c3b0); (try clear c3b1); (try clear c4); (try clear c6); (try clear c6b0); (try clear c6b1); (try clear c7); (try clear c7b0); (try clear c7b1); (try clear p8); (try clear q8); (try clear hx8); (try clear qi8); (try clear c9); (try clear c9b0); (try clear c9b1); (try clear c10); (try clear c10b0); (try clear c10b1); (try clear p11); (try clear q11); (try clear hx11); (try clear qi11); (try clear c12); (try clear c12b0); (try clear p13); (try clear q13); (try clear hx13); (try clear qi13); (try clear c14); (try clear c14b0); (try clear c14b1); (try clear p15); (try clear q15); (try clear hx15); (try clear qi15); (try clear p16); (try clear q16); (try clear hx16); (try clear qi16); (try clear c17); (try clear c17b0); (try clear c17b1); (try clear c18); (try clear c18b0); (try clear c18b1); (try clear p19); (try clear q19); (try clear hx19); (try clear qi19); (try clear c20); (try clear c21); (try clear c21b0); (try clear c21b1); (try clear c22); (try clear p22); (try clear q22); (try clear hx22); (try clear qi22); (try clear c24); (try clear c24b0)
           obtain ⟨x4_4, x5_4, rfl, rfl, HA, HK4, ⟨m4, rfl⟩⟩ := hrel
           cases gk with
           | zero => exact absurd HA.out (by simp [gongref05_Number.l0])
           | succ k4 =>
            have H := HA.out
            clear HA
            simp only [gongref05_Number.l0] at H
            by_cases c25 : x5_4 < (a0.size : Int)
            ·rw [if_pos c25] at H
             have c25b0 : decide (x5_4 < (a0.size : Int)) = true := decide_eq_true c25
             clear c25
             by_cases c26 : 0 ≤ x5_4
             ·rw [if_pos c26] at H
              have c26b0 : decide (0 ≤ x5_4) = true := decide_eq_true c26
              clear c26
              have H' := Aside0.mk H
              clear H
              have p27 : 0 ≤ (x5_4 : Int) := of_decide_eq_true Zq1
              have q27 : x5_4 < (a0.size : Int) := of_decide_eq_true Zq1
              have hx27 := bt_at a0 x5_4
              replace p27 := eq_true p27
              replace q27 := eq_true q27
              go_wp2
              go_roundg k4
              case measure => have := HJ1.out; have := HJ4.out; have := HJ22.out; have := HK4.out; omega
              case rel => exact ⟨(Go.bits .or .i64 (wrap64 (x4_4 * 256)) (wrap64 (bt a0 x5_4))), (wrap64 (x5_4 + 1)), Zq11, Zq11, H', ⟨by have := HJ1.out; have := HJ4.out; have := HJ22.out; have := HK4.out; omega⟩, Zy56⟩
             ·rw [if_neg c26] at H
              exact absurd H (by simp)
            ·rw [if_neg c25] at H
             have c25b0 : decide (x5_4 < (a0.size : Int)) = false := decide_eq_false c25
             clear c25
             simp only [Option.some.injEq, Prod.mk.injEq] at H
             obtain ⟨rfl, rfl⟩ := H
             go_wp2
             go_ret2
             exact ⟨Zy59, Zy56⟩
       ·rw [if_neg c21] at H
        exact absurd H (by simp)
mutual
def gongref05_Unsigned.j0 : Nat → ByteArray → Bool → Option (Int × Int)
 | 0, _, _ => none
 | k + 1, x0, x20 => if x20 = true then (gongref05_Unsigned.l0 k x0 0 1) else ((gongref05_Number.f k x0).bind fun bt314 => (if bt314.2 = 0 then (if bt314.1 < 0 then (some (0, 50)) else (some (IntKind.u64.wrap (bt314.1), 0))) else (some (0, 50))))
def gongref05_Unsigned.l0 : Nat → ByteArray → Int → Int → Option (Int × Int)
 | 0, _, _, _ => none
 | k + 1, x0, x4, x5 => if x5 < 9 then (if 0 ≤ x5 then (if x5 < (x0.size : Int) then (gongref05_Unsigned.l0 k x0 (Go.bits .or .u64 (IntKind.u64.wrap (x4 * 256)) (IntKind.u64.wrap (bt x0 x5))) (wrap64 (x5 + 1))) else (none)) else (none)) else (some (x4, 0))
end
def gongref05_Unsigned.f (k : Nat) (a0 : ByteArray) : Option (Int × Int) := if (a0.size : Int) = 9 then (if 0 < (a0.size : Int) then (if (bt a0 0) = 0 then (if 1 < (a0.size : Int) then (gongref05_Unsigned.j0 k a0 (decide ((bt a0 1) ≥ 128))) else (none)) else (gongref05_Unsigned.j0 k a0 false)) else (none)) else (gongref05_Unsigned.j0 k a0 false)
theorem gongref05_Unsigned.mono_l : ∀ k, (∀ y0 y1, LeO (gongref05_Unsigned.j0 k y0 y1) (gongref05_Unsigned.j0 (k + 1) y0 y1)) ∧ (∀ y0 y1 y2, LeO (gongref05_Unsigned.l0 k y0 y1 y2) (gongref05_Unsigned.l0 (k + 1) y0 y1 y2))
 | 0 => ⟨fun _ _ r h => by simp [gongref05_Unsigned.j0] at h, fun _ _ _ r h => by simp [gongref05_Unsigned.l0] at h⟩
 | k + 1 => by
  obtain ⟨ih0, ih1⟩ := gongref05_Unsigned.mono_l k
  refine ⟨?_, ?_⟩
  ·intro y0 y1
   unfold gongref05_Unsigned.j0
   repeat' first
   | (with_reducible exact ih0 _ _)
   | (with_reducible exact ih1 _ _ _)
   | (with_reducible exact gongref05_Number.mono _ _)
   | (with_reducible exact LeO.refl _)
   | (with_reducible exact LeO.none _)
   | (with_reducible refine LeO.ite ?_ ?_)
   | (with_reducible refine LeO.bind ?_ (fun _ => ?_))
   | exact ih0 _ _
   | exact ih1 _ _ _
   | exact gongref05_Number.mono _ _
   | exact LeO.none _
   | refine LeO.ite ?_ ?_
   | refine LeO.bind ?_ (fun _ => ?_)
  ·intro y0 y1 y2
   unfold gongref05_Unsigned.l0
   repeat' first
   | (with_reducible exact ih0 _ _)
   | (with_reducible exact ih1 _ _ _)
   | (with_reducible exact gongref05_Number.mono _ _)
   | (with_reducible exact LeO.refl _)
   | (with_reducible exact LeO.none _)
   | (with_reducible refine LeO.ite ?_ ?_)
   | (with_reducible refine LeO.bind ?_ (fun _ => ?_))
   | exact ih0 _ _
   | exact ih1 _ _ _
   | exact gongref05_Number.mono _ _
   | exact LeO.none _
   | refine LeO.ite ?_ ?_
   | refine LeO.bind ?_ (fun _ => ?_)
theorem gongref05_Unsigned.mono : ∀ a0 k, LeO (gongref05_Unsigned.f k a0) (gongref05_Unsigned.f (k + 1) a0) := by
 intro a0 k
 obtain ⟨ih0, ih1⟩ := gongref05_Unsigned.mono_l k
 unfold gongref05_Unsigned.f
 repeat' first
   | (with_reducible exact ih0 _ _)
   | (with_reducible exact ih1 _ _ _)
   | (with_reducible exact gongref05_Number.mono _ _)
   | (with_reducible exact LeO.refl _)
   | (with_reducible exact LeO.none _)
   | (with_reducible refine LeO.ite ?_ ?_)
   | (with_reducible refine LeO.bind ?_ (fun _ => ?_))
   | exact ih0 _ _
   | exact ih1 _ _ _
   | exact gongref05_Number.mono _ _
   | exact LeO.none _
   | refine LeO.ite ?_ ?_
   | refine LeO.bind ?_ (fun _ => ?_)
set_option maxHeartbeats 8000000 in
set_option maxRecDepth 100000 in
theorem gongref05_Unsigned.calls (k : Nat) (a0 : ByteArray) (r1 : Int) (r2 : Int) (w : World) (h : gongref05_Unsigned.f k a0 = some (r1, r2)) :
  Calls Tryz.prog 90 #[.string a0] w fun e w' => e = .returned (.tuple #[.int .u64 r1, .int .i64 r2]) ∧ Drawn0 w w' := by
 have H : (if (a0.size : Int) = 9 then (if 0 < (a0.size : Int) then (if (bt a0 0) = 0 then (if 1 < (a0.size : Int) then (gongref05_Unsigned.j0 k a0 (decide ((bt a0 1) ≥ 128))) else (none)) else (gongref05_Unsigned.j0 k a0 false)) else (none)) else (gongref05_Unsigned.j0 k a0 false)) = some (r1, r2) := h
 clear h
 have HC2 := Aside0.mk H
 clear H
 go_enter Tryz.func90, Tryz.ntmps90
 go_upto_region 1 with (fail)
 go_cut [20] (fun v20 wc => ∃ (kq : Nat) (x20_1 : Bool), v20 = .bool x20_1 ∧ Aside0 (gongref05_Unsigned.j0 kq a0 x20_1 = some (r1, r2)) ∧ Aside0 (kq ≤ k) ∧ Drawn0 w wc)
 case first =>
  have H := HC2.out
  clear HC2
  by_cases c3 : (a0.size : Int) = 9
  ·rw [if_pos c3] at H
   have c3b0 : ((a0.size : Int) == 9) = true := beq_iff_eq.mpr c3
   have c3b1 : ((a0.size : Int) != 9) = false := bne_eq_false_iff_eq.mpr c3
   clear c3
   (first | rw [c3b0] | (simp only [i64_w, i32_w]; rw [c3b0]) | skip)
   by_cases c4 : 0 < (a0.size : Int)
   ·rw [if_pos c4] at H
    have c4b0 : decide (0 < (a0.size : Int)) = true := decide_eq_true c4
    have c4b1 : decide (0 < a0.size) = true := decide_eq_true (by omega)
    clear c4
    by_cases c6 : (bt a0 0) = 0
    ·rw [if_pos c6] at H
     have c6b0 : ((bt a0 0) == 0) = true := beq_iff_eq.mpr c6
     have c6b1 : ((bt a0 0) != 0) = false := bne_eq_false_iff_eq.mpr c6
     clear c6
     by_cases c7 : 1 < (a0.size : Int)
     ·rw [if_pos c7] at H
      have c7b0 : decide (1 < (a0.size : Int)) = true := decide_eq_true c7
      have c7b1 : decide (1 < a0.size) = true := decide_eq_true (by omega)
      clear c7
      have H' := Aside0.mk H
      clear H
      have p5 : 0 ≤ (0 : Int) := (by omega)
      have q5 : 0 < a0.size := (by have : (0 : Int) < (a0.size : Int) := of_decide_eq_true Zq1; omega)
      have hx5 : ∀ h : 0 < a0.size, ((a0[0]'h).toNat : Int) = bt a0 0 := bt_at a0 0
      clear p5
      have qi5 : (0 < (a0.size : Int)) = True := eq_true (of_decide_eq_true Zq1)
      replace q5 := eq_true q5
      have p8 : 0 ≤ (1 : Int) := (by omega)
      have q8 : 1 < a0.size := (by have : (1 : Int) < (a0.size : Int) := of_decide_eq_true Zq1; omega)
      have hx8 : ∀ h : 1 < a0.size, ((a0[1]'h).toNat : Int) = bt a0 1 := bt_at a0 1
      clear p8
      have qi8 : (1 < (a0.size : Int)) = True := eq_true (of_decide_eq_true Zq1)
      replace q8 := eq_true q8
      go_wp2
      go_meet
      case rel => exact ⟨_, (decide ((bt a0 1) ≥ 128)), Zq11, H', ⟨Zy61⟩, Zy56⟩
     ·rw [if_neg c7] at H
      exact absurd H (by simp)
    ·rw [if_neg c6] at H
     have c6b0 : ((bt a0 0) == 0) = false := beq_eq_false_iff_ne.mpr c6
     have c6b1 : ((bt a0 0) != 0) = true := bne_iff_ne.mpr c6
     have H' := Aside0.mk H
     clear H
     have p5 : 0 ≤ (0 : Int) := (by omega)
     have q5 : 0 < a0.size := (by have : (0 : Int) < (a0.size : Int) := of_decide_eq_true Zq1; omega)
     have hx5 : ∀ h : 0 < a0.size, ((a0[0]'h).toNat : Int) = bt a0 0 := bt_at a0 0
     clear p5
     have qi5 : (0 < (a0.size : Int)) = True := eq_true (of_decide_eq_true Zq1)
     replace q5 := eq_true q5
     go_wp2
     go_meet
     case rel => exact ⟨_, (false), Zq11, H', ⟨Zy61⟩, Zy56⟩
   ·rw [if_neg c4] at H
    exact absurd H (by simp)
  ·rw [if_neg c3] at H
   have c3b0 : ((a0.size : Int) == 9) = false := beq_eq_false_iff_ne.mpr c3
   have c3b1 : ((a0.size : Int) != 9) = true := bne_iff_ne.mpr c3
   (first | rw [c3b0] | (simp only [i64_w, i32_w]; rw [c3b0]) | skip)
   have H' := Aside0.mk H
   clear H
   go_wp2
   go_meet
   case rel => exact ⟨_, (false), Zq11, H', ⟨Zy61⟩, Zy56⟩
 case rest =>
  clear HC2
  (try clear p2); (try clear c3); (try clear c3b0); (try clear c3b1); (try clear c4); (try clear c4b0); (try clear c4b1); (try clear p5); (try clear q5); (try clear hx5); (try clear qi5); (try clear c6); (try clear c6b0); (try clear c6b1); (try clear c7); (try clear c7b0); (try clear c7b1); (try clear p8); (try clear q8); (try clear hx8); (try clear qi8)
  obtain ⟨kq, x20_1, rfl, HA, HJ1, ⟨mc1, rfl⟩⟩ := hcut
  cases kq with
  | zero => exact absurd HA.out (by simp [gongref05_Unsigned.j0])
  | succ kj1 =>
   have H := HA.out
   clear HA
   simp only [gongref05_Unsigned.j0] at H
   by_cases c9 : x20_1 = true
   ·subst c9
    have H1 : (gongref05_Unsigned.l0 kj1 a0 0 1) = some (r1, r2) := by rw [if_pos rfl] at H; exact H
    clear H
    have H := H1
    clear H1
    have H' := Aside0.mk H
    clear H
    go_wp2
    go_loopg [4, 5] kj1 (fun kq v4 v5 w' => ∃ (x4_2 : Int) (x5_2 : Int), v4 = .int .u64 x4_2 ∧ v5 = .int .i64 x5_2 ∧ Aside0 (gongref05_Unsigned.l0 kq a0 x4_2 x5_2 = some (r1, r2)) ∧ Aside0 (kq ≤ kj1) ∧ Drawn0 w w')
    case atStart => exact ⟨(0), (1), Zq11, Zq11, H', ⟨Nat.le_refl _⟩, Zy56⟩
    case round =>
     clear H'
     (try clear c1); (try clear p2); (try clear c3); (try clear c3b0); (try clear c3b1); (try clear c4); (try clear c4b0); (try clear c4b1); (try clear p5); (try clear q5); (try clear hx5); (try clear qi5); (try clear c6); (try clear c6b0); (try clear c6b1); (try clear c7); (try clear c7b0); (try clear c7b1); (try clear p8); (try clear q8); (try clear hx8); (try clear qi8); (try clear c9)
     obtain ⟨x4_2, x5_2, rfl, rfl, HA, HK2, ⟨m2, rfl⟩⟩ := hrel
     cases gk with
     | zero => exact absurd HA.out (by simp [gongref05_Unsigned.l0])
     | succ k2 =>
      have H := HA.out
      clear HA
      simp only [gongref05_Unsigned.l0] at H
      by_cases c10 : x5_2 < 9
      ·rw [if_pos c10] at H
       have c10b0 : decide (x5_2 < 9) = true := decide_eq_true c10
       clear c10
       by_cases c11 : 0 ≤ x5_2
       ·rw [if_pos c11] at H
        have c11b0 : decide (0 ≤ x5_2) = true := decide_eq_true c11
        clear c11
        by_cases c12 : x5_2 < (a0.size : Int)
        ·rw [if_pos c12] at H
         have c12b0 : decide (x5_2 < (a0.size : Int)) = true := decide_eq_true c12
         clear c12
         have H' := Aside0.mk H
         clear H
         have p13 : 0 ≤ (x5_2 : Int) := of_decide_eq_true Zq1
         have q13 : x5_2 < (a0.size : Int) := of_decide_eq_true Zq1
         have hx13 := bt_at a0 x5_2
         replace p13 := eq_true p13
         replace q13 := eq_true q13
         go_wp2
         go_roundg k2
         case measure => have := HJ1.out; have := HK2.out; omega
         case rel => exact ⟨(Go.bits .or .u64 (IntKind.u64.wrap (x4_2 * 256)) (IntKind.u64.wrap (bt a0 x5_2))), (wrap64 (x5_2 + 1)), Zq11, Zq11, H', ⟨by have := HJ1.out; have := HK2.out; omega⟩, Zy56⟩
        ·rw [if_neg c12] at H
         exact absurd H (by simp)
       ·rw [if_neg c11] at H
        exact absurd H (by simp)
      ·rw [if_neg c10] at H
       have c10b0 : decide (x5_2 < 9) = false := decide_eq_false c10
       clear c10
       simp only [Option.some.injEq, Prod.mk.injEq] at H
       obtain ⟨rfl, rfl⟩ := H
       go_wp2
       go_ret2
       exact ⟨Zy59, Zy56⟩
   ·replace c9 := Bool.eq_false_iff.mpr c9
    subst c9
    have H1 : ((gongref05_Number.f kj1 a0).bind fun bt314 => (if bt314.2 = 0 then (if bt314.1 < 0 then (some (0, 50)) else (some (IntKind.u64.wrap (bt314.1), 0))) else (some (0, 50)))) = some (r1, r2) := by rw [if_neg (show ¬ (false = true) by decide)] at H; exact H
    clear H
    have H := H1
    clear H1
    replace H := Option.bind_eq_some_iff.mp H
    obtain ⟨⟨t314, t315⟩, A140, H⟩ := H
    replace H : (if t315 = 0 then (if t314 < 0 then (some (0, 50)) else (some (IntKind.u64.wrap (t314), 0))) else (some (0, 50))) = some (r1, r2) := H
    have A14 := Aside0.mk A140
    clear A140
    by_cases c15 : t315 = 0
    ·rw [if_pos c15] at H
     have c15b0 : (t315 == 0) = true := beq_iff_eq.mpr c15
     have c15b1 : (t315 != 0) = false := bne_eq_false_iff_eq.mpr c15
     clear c15
     by_cases c16 : t314 < 0
     ·rw [if_pos c16] at H
      have c16b0 : decide (t314 < 0) = true := decide_eq_true c16
      clear c16
      simp only [Option.some.injEq, Prod.mk.injEq] at H
      obtain ⟨rfl, rfl⟩ := H
      go_wp2_with (first | ((with_reducible refine gate_callee (f := 36) rfl ?_); refine goesL_ (some 35) rfl rfl Tryz.func36 (by kernel_rfl) rfl #[.string a0] rfl Zq13 ?_; (with_reducible refine (gongref05_Number.calls kj1 a0 t314 t315 _ A14.out).mono ?_); rintro e w' ⟨rfl, ⟨nd, rfl⟩⟩; refine ⟨_, rfl, ?_⟩))
      go_ret2
      exact ⟨Zy59, Zy56⟩
     ·rw [if_neg c16] at H
      have c16b0 : decide (t314 < 0) = false := decide_eq_false c16
      clear c16
      simp only [Option.some.injEq, Prod.mk.injEq] at H
      obtain ⟨rfl, rfl⟩ := H
      go_wp2_with (first | ((with_reducible refine gate_callee (f := 36) rfl ?_); refine goesL_ (some 35) rfl rfl Tryz.func36 (by kernel_rfl) rfl #[.string a0] rfl Zq13 ?_; (with_reducible refine (gongref05_Number.calls kj1 a0 t314 t315 _ A14.out).mono ?_); rintro e w' ⟨rfl, ⟨nd, rfl⟩⟩; refine ⟨_, rfl, ?_⟩))
      go_ret2
      exact ⟨Zy59, Zy56⟩
    ·rw [if_neg c15] at H
     have c15b0 : (t315 == 0) = false := beq_eq_false_iff_ne.mpr c15
     have c15b1 : (t315 != 0) = true := bne_iff_ne.mpr c15
     simp only [Option.some.injEq, Prod.mk.injEq] at H
     obtain ⟨rfl, rfl⟩ := H
     go_wp2_with (first | ((with_reducible refine gate_callee (f := 36) rfl ?_); refine goesL_ (some 35) rfl rfl Tryz.func36 (by kernel_rfl) rfl #[.string a0] rfl Zq13 ?_; (with_reducible refine (gongref05_Number.calls kj1 a0 t314 t315 _ A14.out).mono ?_); rintro e w' ⟨rfl, ⟨nd, rfl⟩⟩; refine ⟨_, rfl, ?_⟩))
     go_ret2
     exact ⟨Zy59, Zy56⟩
end Go.Proofs.YtfgdnnbhlnbojaaGreatDoor.XPdR
