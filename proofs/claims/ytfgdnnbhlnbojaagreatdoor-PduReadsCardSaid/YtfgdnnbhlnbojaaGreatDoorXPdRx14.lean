-- Laid by extprint.py (the session's own driver): functions told by the kit's printer and by hand.
import Derived.Test.YtfgdnnbhlnbojaaGreatDoorXPdRx0
namespace Go.Proofs.YtfgdnnbhlnbojaaGreatDoor.XPdR
open Go.RowKit Gong Go.Proofs.YtfgdnnbhlnbojaaGreatDoorW.PrintWords Go.Proofs.YtfgdnnbhlnbojaaGreatDoorW.PrintLast Go.Proofs.YtfgdnnbhlnbojaaGreatDoorW.PrintMore
attribute [local go_sem] max2_int min2_int max_two min_two max_three min_three max_four min_four   -- for this text's walks alone
set_option linter.unusedVariables false
set_option linter.unusedSimpArgs false
mutual
def gongref06_Is.j0 : Nat → List Int → Bool → Option (Bool)
 | 0, _, _ => none
 | k + 1, x0, x11 => if x11 = true then (some false) else (gongref06_Is.l0 k x0 0)
def gongref06_Is.l0 : Nat → List Int → Int → Option (Bool)
 | 0, _, _ => none
 | k + 1, x0, x3 => if x3 < (x0.length : Int) then (if 0 ≤ x3 then (if (rd x0 x3) < 0 then (some false) else (if (rd x0 x3) > 4294967295 then (some false) else (gongref06_Is.l0 k x0 (wrap64 (x3 + 1))))) else (none)) else (if 0 < (x0.length : Int) then (if (rd x0 0) < 2 then (if 1 < (x0.length : Int) then (if (rd x0 1) ≤ 39 then (some true) else (if (rd x0 0) = 2 then (some (decide ((rd x0 1) ≤ 4294967215))) else (some false))) else (none)) else (if (rd x0 0) = 2 then (if 1 < (x0.length : Int) then (some (decide ((rd x0 1) ≤ 4294967215))) else (none)) else (some false))) else (none))
end
def gongref06_Is.f (k : Nat) (l0 : List Int) : Option (Bool) := if (l0.length : Int) < 2 then (gongref06_Is.j0 k l0 true) else (gongref06_Is.j0 k l0 (decide ((l0.length : Int) > 128)))
theorem gongref06_Is.mono_l : ∀ k, (∀ y0 y1, LeO (gongref06_Is.j0 k y0 y1) (gongref06_Is.j0 (k + 1) y0 y1)) ∧ (∀ y0 y1, LeO (gongref06_Is.l0 k y0 y1) (gongref06_Is.l0 (k + 1) y0 y1))
 | 0 => ⟨fun _ _ r h => by simp [gongref06_Is.j0] at h, fun _ _ r h => by simp [gongref06_Is.l0] at h⟩
 | k + 1 => by
  obtain ⟨ih0, ih1⟩ := gongref06_Is.mono_l k
  refine ⟨?_, ?_⟩
  ·intro y0 y1
   unfold gongref06_Is.j0
   repeat' first
   | (with_reducible exact ih0 _ _)
   | (with_reducible exact ih1 _ _)
   | (with_reducible exact LeO.refl _)
   | (with_reducible exact LeO.none _)
   | (with_reducible refine LeO.ite ?_ ?_)
   | (with_reducible refine LeO.bind ?_ (fun _ => ?_))
   | exact ih0 _ _
   | exact ih1 _ _
   | exact LeO.none _
   | refine LeO.ite ?_ ?_
   | refine LeO.bind ?_ (fun _ => ?_)
  ·intro y0 y1
   unfold gongref06_Is.l0
   repeat' first
   | (with_reducible exact ih0 _ _)
   | (with_reducible exact ih1 _ _)
   | (with_reducible exact LeO.refl _)
   | (with_reducible exact LeO.none _)
   | (with_reducible refine LeO.ite ?_ ?_)
   | (with_reducible refine LeO.bind ?_ (fun _ => ?_))
   | exact ih0 _ _
   | exact ih1 _ _
   | exact LeO.none _
   | refine LeO.ite ?_ ?_
   | refine LeO.bind ?_ (fun _ => ?_)
theorem gongref06_Is.mono : ∀ a0 k, LeO (gongref06_Is.f k a0) (gongref06_Is.f (k + 1) a0) := by
 intro a0 k
 obtain ⟨ih0, ih1⟩ := gongref06_Is.mono_l k
 unfold gongref06_Is.f
 repeat' first
   | (with_reducible exact ih0 _ _)
   | (with_reducible exact ih1 _ _)
   | (with_reducible exact LeO.refl _)
   | (with_reducible exact LeO.none _)
   | (with_reducible refine LeO.ite ?_ ?_)
   | (with_reducible refine LeO.bind ?_ (fun _ => ?_))
   | exact ih0 _ _
   | exact ih1 _ _
   | exact LeO.none _
   | refine LeO.ite ?_ ?_
   | refine LeO.bind ?_ (fun _ => ?_)
set_option maxHeartbeats 8000000 in
set_option maxRecDepth 100000 in
theorem gongref06_Is.calls (k : Nat) (A0 : Option Addr) (c0 : Nat) (l0 : List Int) (r : Bool) (w : World) (hr0 : Kd.C (Kd.int .i64) w A0 l0.length l0) (hc0 : l0.length ≤ c0) (h : gongref06_Is.f k l0 = some r) :
  Calls Tryz.prog 72 #[.slice A0 l0.length c0] w fun e w' => e = .returned (.bool r) ∧ Drawn0 w w' := by
 have HR0 := Aside0.mk hr0
 have HC0 := Aside0.mk hc0
 clear hr0 hc0
 have H : (if (l0.length : Int) < 2 then (gongref06_Is.j0 k l0 true) else (gongref06_Is.j0 k l0 (decide ((l0.length : Int) > 128)))) = some r := h
 clear h
 have HC2 := Aside0.mk H
 clear H
 go_enter Tryz.func72, Tryz.ntmps72
 go_upto_region 1 with (fail)
 go_cut [11] (fun v11 wc => ∃ (kq : Nat) (x11_1 : Bool), v11 = .bool x11_1 ∧ Aside0 (gongref06_Is.j0 kq l0 x11_1 = some r) ∧ Aside0 (kq ≤ k) ∧ Drawn0 w wc)
 case first =>
  have H := HC2.out
  clear HC2
  by_cases c3 : (l0.length : Int) < 2
  ·rw [if_pos c3] at H
   have c3b0 : decide ((l0.length : Int) < 2) = true := decide_eq_true c3
   have c3b1 : decide (l0.length < 2) = true := decide_eq_true (by omega)
   clear c3
   (first | rw [c3b0] | (simp only [i64_w, i32_w]; rw [c3b0]) | skip)
   have H' := Aside0.mk H
   clear H
   go_wp2
   go_meet
   case rel => exact ⟨_, (true), Zq11, H', ⟨Zy61⟩, Zy56⟩
  ·rw [if_neg c3] at H
   have c3b0 : decide ((l0.length : Int) < 2) = false := decide_eq_false c3
   have c3b1 : decide (l0.length < 2) = false := decide_eq_false (by omega)
   clear c3
   (first | rw [c3b0] | (simp only [i64_w, i32_w]; rw [c3b0]) | skip)
   have H' := Aside0.mk H
   clear H
   go_wp2
   go_meet
   case rel => exact ⟨_, (decide ((l0.length : Int) > 128)), Zq11, H', ⟨Zy61⟩, Zy56⟩
 case rest =>
  clear HC2
  (try clear p2); (try clear c3); (try clear c3b0); (try clear c3b1)
  obtain ⟨kq, x11_1, rfl, HA, HJ1, ⟨mc1, rfl⟩⟩ := hcut
  cases kq with
  | zero => exact absurd HA.out (by simp [gongref06_Is.j0])
  | succ kj1 =>
   have H := HA.out
   clear HA
   simp only [gongref06_Is.j0] at H
   by_cases c4 : x11_1 = true
   ·subst c4
    have H1 : (some false) = some r := by rw [if_pos rfl] at H; exact H
    clear H
    have H := H1
    clear H1
    obtain rfl := Option.some.inj H
    go_wp2
    go_ret
    exact ⟨Zy59, Zy56⟩
   ·replace c4 := Bool.eq_false_iff.mpr c4
    subst c4
    have H1 : (gongref06_Is.l0 kj1 l0 0) = some r := by rw [if_neg (show ¬ (false = true) by decide)] at H; exact H
    clear H
    have H := H1
    clear H1
    have H' := Aside0.mk H
    clear H
    go_wp2
    go_loopg [3] kj1 (fun kq v3 w' => ∃ (x3_2 : Int), v3 = .int .i64 x3_2 ∧ Aside0 (gongref06_Is.l0 kq l0 x3_2 = some r) ∧ Aside0 (kq ≤ kj1) ∧ Drawn0 w w')
    case atStart => exact ⟨(0), Zq11, H', ⟨Nat.le_refl _⟩, Zy56⟩
    case round =>
     clear H'
     (try clear c1); (try clear p2); (try clear c3); (try clear c3b0); (try clear c3b1); (try clear c4)
     obtain ⟨x3_2, rfl, HA, HK2, ⟨m2, rfl⟩⟩ := hrel
     cases gk with
     | zero => exact absurd HA.out (by simp [gongref06_Is.l0])
     | succ k2 =>
      have H := HA.out
      clear HA
      simp only [gongref06_Is.l0] at H
      by_cases c5 : x3_2 < (l0.length : Int)
      ·rw [if_pos c5] at H
       have c5b0 : decide (x3_2 < (l0.length : Int)) = true := decide_eq_true c5
       clear c5
       by_cases c6 : 0 ≤ x3_2
       ·rw [if_pos c6] at H
        have c6b0 : decide (0 ≤ x3_2) = true := decide_eq_true c6
        clear c6
        by_cases c7 : (rd l0 x3_2) < 0
        ·rw [if_pos c7] at H
         have c7b0 : decide ((rd l0 x3_2) < 0) = true := decide_eq_true c7
         clear c7
         obtain rfl := Option.some.inj H
         have p262 : 0 ≤ (x3_2 : Int) := of_decide_eq_true Zq1
         have q262 : x3_2 < (l0.length : Int) := of_decide_eq_true Zq1
         obtain ⟨ad262, e262, hx262_0⟩ := Kd.at_int HR0.out x3_2 p262 q262
         cases e262
         replace p262 := eq_true p262
         replace q262 := eq_true q262
         go_wp2
         go_ret
         exact ⟨Zy59, Zy56⟩
        ·rw [if_neg c7] at H
         have c7b0 : decide ((rd l0 x3_2) < 0) = false := decide_eq_false c7
         clear c7
         by_cases c8 : (rd l0 x3_2) > 4294967295
         ·rw [if_pos c8] at H
          have c8b0 : decide (4294967295 < (rd l0 x3_2)) = true := decide_eq_true c8
          clear c8
          obtain rfl := Option.some.inj H
          have p262 : 0 ≤ (x3_2 : Int) := of_decide_eq_true Zq1
          have q262 : x3_2 < (l0.length : Int) := of_decide_eq_true Zq1
          obtain ⟨ad262, e262, hx262_0⟩ := Kd.at_int HR0.out x3_2 p262 q262
          cases e262
          replace p262 := eq_true p262
          replace q262 := eq_true q262
          have p263 : 0 ≤ (x3_2 : Int) := of_decide_eq_true Zq1
          have q263 : x3_2 < (l0.length : Int) := of_decide_eq_true Zq1
          obtain ⟨ad263, e263, hx263_0⟩ := Kd.at_int HR0.out x3_2 p263 q263
          obtain rfl : ad262 = ad263 := (by injection e263)
          replace p263 := eq_true p263
          replace q263 := eq_true q263
          go_wp2
          go_ret
          exact ⟨Zy59, Zy56⟩
         ·rw [if_neg c8] at H
          have c8b0 : decide (4294967295 < (rd l0 x3_2)) = false := decide_eq_false c8
          clear c8
          have H' := Aside0.mk H
          clear H
          have p262 : 0 ≤ (x3_2 : Int) := of_decide_eq_true Zq1
          have q262 : x3_2 < (l0.length : Int) := of_decide_eq_true Zq1
          obtain ⟨ad262, e262, hx262_0⟩ := Kd.at_int HR0.out x3_2 p262 q262
          cases e262
          replace p262 := eq_true p262
          replace q262 := eq_true q262
          have p263 : 0 ≤ (x3_2 : Int) := of_decide_eq_true Zq1
          have q263 : x3_2 < (l0.length : Int) := of_decide_eq_true Zq1
          obtain ⟨ad263, e263, hx263_0⟩ := Kd.at_int HR0.out x3_2 p263 q263
          obtain rfl : ad262 = ad263 := (by injection e263)
          replace p263 := eq_true p263
          replace q263 := eq_true q263
          go_wp2
          go_roundg k2
          case measure => have := HJ1.out; have := HK2.out; omega
          case rel => exact ⟨(wrap64 (x3_2 + 1)), Zq11, H', ⟨by have := HJ1.out; have := HK2.out; omega⟩, Zy56⟩
       ·rw [if_neg c6] at H
        exact absurd H (by simp)
      ·rw [if_neg c5] at H
       have c5b0 : decide (x3_2 < (l0.length : Int)) = false := decide_eq_false c5
       clear c5
       by_cases c9 : 0 < (l0.length : Int)
       ·rw [if_pos c9] at H
        have c9b0 : decide (0 < (l0.length : Int)) = true := decide_eq_true c9
        have c9b1 : decide (0 < l0.length) = true := decide_eq_true (by omega)
        clear c9
        by_cases c10 : (rd l0 0) < 2
        ·rw [if_pos c10] at H
         have c10b0 : decide ((rd l0 0) < 2) = true := decide_eq_true c10
         clear c10
         by_cases c11 : 1 < (l0.length : Int)
         ·rw [if_pos c11] at H
          have c11b0 : decide (1 < (l0.length : Int)) = true := decide_eq_true c11
          have c11b1 : decide (1 < l0.length) = true := decide_eq_true (by omega)
          clear c11
          by_cases c12 : (rd l0 1) ≤ 39
          ·rw [if_pos c12] at H
           have c12b0 : decide ((rd l0 1) ≤ 39) = true := decide_eq_true c12
           clear c12
           obtain rfl := Option.some.inj H
           have p264 : 0 ≤ (0 : Int) := (by omega)
           have q264 : 0 < (l0.length : Int) := of_decide_eq_true Zq1
           obtain ⟨ad264, e264, hx264_0⟩ := Kd.at_int HR0.out 0 p264 q264
           cases e264
           have qi264 : (0 < l0.length) = True := eq_true (by omega)
           (try rw [show ((0 : Int)).toNat = 0 from rfl] at hx264_0)
           (try rw [Addr.add_zero'] at hx264_0)
           replace p264 := eq_true p264
           replace q264 := eq_true q264
           have p265 : 0 ≤ (1 : Int) := (by omega)
           have q265 : 1 < (l0.length : Int) := of_decide_eq_true Zq1
           obtain ⟨ad265, e265, hx265_0⟩ := Kd.at_int HR0.out 1 p265 q265
           obtain rfl : ad264 = ad265 := (by injection e265)
           (try simp only [show (1 : Int).toNat = 1 from rfl, Nat.reduceMul, Nat.reduceEqDiff, Go.Addr.add, ↓reduceIte] at hx265_0)
           have qi265 : (1 < l0.length) = True := eq_true (by omega)
           (try rw [show ((1 : Int)).toNat = 1 from rfl] at hx265_0)
           replace p265 := eq_true p265
           replace q265 := eq_true q265
           go_wp2
           go_ret
           exact ⟨Zy59, Zy56⟩
          ·rw [if_neg c12] at H
           have c12b0 : decide ((rd l0 1) ≤ 39) = false := decide_eq_false c12
           clear c12
           by_cases c13 : (rd l0 0) = 2
           ·rw [if_pos c13] at H
            have c13b0 : ((rd l0 0) == 2) = true := beq_iff_eq.mpr c13
            have c13b1 : ((rd l0 0) != 2) = false := bne_eq_false_iff_eq.mpr c13
            clear c13
            obtain rfl := Option.some.inj H
            have p264 : 0 ≤ (0 : Int) := (by omega)
            have q264 : 0 < (l0.length : Int) := of_decide_eq_true Zq1
            obtain ⟨ad264, e264, hx264_0⟩ := Kd.at_int HR0.out 0 p264 q264
            cases e264
            have qi264 : (0 < l0.length) = True := eq_true (by omega)
            (try rw [show ((0 : Int)).toNat = 0 from rfl] at hx264_0)
            (try rw [Addr.add_zero'] at hx264_0)
            replace p264 := eq_true p264
            replace q264 := eq_true q264
            have p265 : 0 ≤ (1 : Int) := (by omega)
            have q265 : 1 < (l0.length : Int) := of_decide_eq_true Zq1
            obtain ⟨ad265, e265, hx265_0⟩ := Kd.at_int HR0.out 1 p265 q265
            obtain rfl : ad264 = ad265 := (by injection e265)
            (try simp only [show (1 : Int).toNat = 1 from rfl, Nat.reduceMul, Nat.reduceEqDiff, Go.Addr.add, ↓reduceIte] at hx265_0)
            have qi265 : (1 < l0.length) = True := eq_true (by omega)
            (try rw [show ((1 : Int)).toNat = 1 from rfl] at hx265_0)
            replace p265 := eq_true p265
            replace q265 := eq_true q265
            have p266 : 0 ≤ (0 : Int) := (by omega)
            have q266 : 0 < (l0.length : Int) := of_decide_eq_true Zq1
            obtain ⟨ad266, e266, hx266_0⟩ := Kd.at_int HR0.out 0 p266 q266
            obtain rfl : ad264 = ad266 := (by injection e266)
            have qi266 : (0 < l0.length) = True := eq_true (by omega)
            (try rw [show ((0 : Int)).toNat = 0 from rfl] at hx266_0)
            (try rw [Addr.add_zero'] at hx266_0)
            replace p266 := eq_true p266
            replace q266 := eq_true q266
            have p267 : 0 ≤ (1 : Int) := (by omega)
            have q267 : 1 < (l0.length : Int) := of_decide_eq_true Zq1
            obtain ⟨ad267, e267, hx267_0⟩ := Kd.at_int HR0.out 1 p267 q267
            obtain rfl : ad264 = ad267 := (by injection e267)
            (try simp only [show (1 : Int).toNat = 1 from rfl, Nat.reduceMul, Nat.reduceEqDiff, Go.Addr.add, ↓reduceIte] at hx267_0)
            have qi267 : (1 < l0.length) = True := eq_true (by omega)
            (try rw [show ((1 : Int)).toNat = 1 from rfl] at hx267_0)
            replace p267 := eq_true p267
            replace q267 := eq_true q267
            go_wp2
            go_ret
            exact ⟨Zy59, Zy56⟩
           ·rw [if_neg c13] at H
            have c13b0 : ((rd l0 0) == 2) = false := beq_eq_false_iff_ne.mpr c13
            have c13b1 : ((rd l0 0) != 2) = true := bne_iff_ne.mpr c13
            obtain rfl := Option.some.inj H
            have p264 : 0 ≤ (0 : Int) := (by omega)
            have q264 : 0 < (l0.length : Int) := of_decide_eq_true Zq1
            obtain ⟨ad264, e264, hx264_0⟩ := Kd.at_int HR0.out 0 p264 q264
            cases e264
            have qi264 : (0 < l0.length) = True := eq_true (by omega)
            (try rw [show ((0 : Int)).toNat = 0 from rfl] at hx264_0)
            (try rw [Addr.add_zero'] at hx264_0)
            replace p264 := eq_true p264
            replace q264 := eq_true q264
            have p265 : 0 ≤ (1 : Int) := (by omega)
            have q265 : 1 < (l0.length : Int) := of_decide_eq_true Zq1
            obtain ⟨ad265, e265, hx265_0⟩ := Kd.at_int HR0.out 1 p265 q265
            obtain rfl : ad264 = ad265 := (by injection e265)
            (try simp only [show (1 : Int).toNat = 1 from rfl, Nat.reduceMul, Nat.reduceEqDiff, Go.Addr.add, ↓reduceIte] at hx265_0)
            have qi265 : (1 < l0.length) = True := eq_true (by omega)
            (try rw [show ((1 : Int)).toNat = 1 from rfl] at hx265_0)
            replace p265 := eq_true p265
            replace q265 := eq_true q265
            have p266 : 0 ≤ (0 : Int) := (by omega)
            have q266 : 0 < (l0.length : Int) := of_decide_eq_true Zq1
            obtain ⟨ad266, e266, hx266_0⟩ := Kd.at_int HR0.out 0 p266 q266
            obtain rfl : ad264 = ad266 := (by injection e266)
            have qi266 : (0 < l0.length) = True := eq_true (by omega)
            (try rw [show ((0 : Int)).toNat = 0 from rfl] at hx266_0)
            (try rw [Addr.add_zero'] at hx266_0)
            replace p266 := eq_true p266
            replace q266 := eq_true q266
            go_wp2
            go_ret
            exact ⟨Zy59, Zy56⟩
         ·rw [if_neg c11] at H
          exact absurd H (by simp)
        ·rw [if_neg c10] at H
         have c10b0 : decide ((rd l0 0) < 2) = false := decide_eq_false c10
         clear c10
         by_cases c14 : (rd l0 0) = 2
         ·rw [if_pos c14] at H
          have c14b0 : ((rd l0 0) == 2) = true := beq_iff_eq.mpr c14
          have c14b1 : ((rd l0 0) != 2) = false := bne_eq_false_iff_eq.mpr c14
          clear c14
          by_cases c15 : 1 < (l0.length : Int)
          ·rw [if_pos c15] at H
           have c15b0 : decide (1 < (l0.length : Int)) = true := decide_eq_true c15
           have c15b1 : decide (1 < l0.length) = true := decide_eq_true (by omega)
           clear c15
           obtain rfl := Option.some.inj H
           have p264 : 0 ≤ (0 : Int) := (by omega)
           have q264 : 0 < (l0.length : Int) := of_decide_eq_true Zq1
           obtain ⟨ad264, e264, hx264_0⟩ := Kd.at_int HR0.out 0 p264 q264
           cases e264
           have qi264 : (0 < l0.length) = True := eq_true (by omega)
           (try rw [show ((0 : Int)).toNat = 0 from rfl] at hx264_0)
           (try rw [Addr.add_zero'] at hx264_0)
           replace p264 := eq_true p264
           replace q264 := eq_true q264
           have p268 : 0 ≤ (0 : Int) := (by omega)
           have q268 : 0 < (l0.length : Int) := of_decide_eq_true Zq1
           obtain ⟨ad268, e268, hx268_0⟩ := Kd.at_int HR0.out 0 p268 q268
           obtain rfl : ad264 = ad268 := (by injection e268)
           have qi268 : (0 < l0.length) = True := eq_true (by omega)
           (try rw [show ((0 : Int)).toNat = 0 from rfl] at hx268_0)
           (try rw [Addr.add_zero'] at hx268_0)
           replace p268 := eq_true p268
           replace q268 := eq_true q268
           have p269 : 0 ≤ (1 : Int) := (by omega)
           have q269 : 1 < (l0.length : Int) := of_decide_eq_true Zq1
           obtain ⟨ad269, e269, hx269_0⟩ := Kd.at_int HR0.out 1 p269 q269
           obtain rfl : ad264 = ad269 := (by injection e269)
           (try simp only [show (1 : Int).toNat = 1 from rfl, Nat.reduceMul, Nat.reduceEqDiff, Go.Addr.add, ↓reduceIte] at hx269_0)
           have qi269 : (1 < l0.length) = True := eq_true (by omega)
           (try rw [show ((1 : Int)).toNat = 1 from rfl] at hx269_0)
           replace p269 := eq_true p269
           replace q269 := eq_true q269
           go_wp2
           go_ret
           exact ⟨Zy59, Zy56⟩
          ·rw [if_neg c15] at H
           exact absurd H (by simp)
         ·rw [if_neg c14] at H
          have c14b0 : ((rd l0 0) == 2) = false := beq_eq_false_iff_ne.mpr c14
          have c14b1 : ((rd l0 0) != 2) = true := bne_iff_ne.mpr c14
          obtain rfl := Option.some.inj H
          have p264 : 0 ≤ (0 : Int) := (by omega)
          have q264 : 0 < (l0.length : Int) := of_decide_eq_true Zq1
          obtain ⟨ad264, e264, hx264_0⟩ := Kd.at_int HR0.out 0 p264 q264
          cases e264
          have qi264 : (0 < l0.length) = True := eq_true (by omega)
          (try rw [show ((0 : Int)).toNat = 0 from rfl] at hx264_0)
          (try rw [Addr.add_zero'] at hx264_0)
          replace p264 := eq_true p264
          replace q264 := eq_true q264
          have p268 : 0 ≤ (0 : Int) := (by omega)
          have q268 : 0 < (l0.length : Int) := of_decide_eq_true Zq1
          obtain ⟨ad268, e268, hx268_0⟩ := Kd.at_int HR0.out 0 p268 q268
          obtain rfl : ad264 = ad268 := (by injection e268)
          have qi268 : (0 < l0.length) = True := eq_true (by omega)
          (try rw [show ((0 : Int)).toNat = 0 from rfl] at hx268_0)
          (try rw [Addr.add_zero'] at hx268_0)
          replace p268 := eq_true p268
          replace q268 := eq_true q268
          go_wp2
          go_ret
          exact ⟨Zy59, Zy56⟩
       ·rw [if_neg c9] at H
        exact absurd H (by simp)
def gongref06_Number.l0 : Nat → Int → ByteArray → Option (ByteArray)
 | 0, _, _ => none
 | k + 1, x0, x3 => if x0 ≥ 10 then ((some (([(wrap64 (48 + (Int.tmod (wrap64 (Int.tdiv x0 10)) 10))) % 256] : List Int) : List Int)).bind fun y273 => (if (strOfNums y273).size + x3.size ≤ 9223372036854775807 then (gongref06_Number.l0 k (wrap64 (Int.tdiv x0 10)) ((strOfNums y273) ++ x3)) else (none))) else (some x3)
def gongref06_Number.f (k : Nat) (a0 : Int) : Option (ByteArray) := gongref06_Number.l0 k a0 (strOfNums (([(wrap64 (48 + (Int.tmod a0 10))) % 256] : List Int)))
theorem gongref06_Number.mono_l : ∀ k, (∀ y0 y1, LeO (gongref06_Number.l0 k y0 y1) (gongref06_Number.l0 (k + 1) y0 y1))
 | 0 => fun _ _ r h => by simp [gongref06_Number.l0] at h
 | k + 1 => by
  have ih0 := gongref06_Number.mono_l k
  ·intro y0 y1
   unfold gongref06_Number.l0
   repeat' first
   | (with_reducible exact ih0 _ _)
   | (with_reducible exact LeO.refl _)
   | (with_reducible exact LeO.none _)
   | (with_reducible refine LeO.ite ?_ ?_)
   | (with_reducible refine LeO.bind ?_ (fun _ => ?_))
   | exact ih0 _ _
   | exact LeO.none _
   | refine LeO.ite ?_ ?_
   | refine LeO.bind ?_ (fun _ => ?_)
theorem gongref06_Number.mono : ∀ a0 k, LeO (gongref06_Number.f k a0) (gongref06_Number.f (k + 1) a0) := by
 intro a0 k
 have ih0 := gongref06_Number.mono_l k
 unfold gongref06_Number.f
 repeat' first
   | (with_reducible exact ih0 _ _)
   | (with_reducible exact LeO.refl _)
   | (with_reducible exact LeO.none _)
   | (with_reducible refine LeO.ite ?_ ?_)
   | (with_reducible refine LeO.bind ?_ (fun _ => ?_))
   | exact ih0 _ _
   | exact LeO.none _
   | refine LeO.ite ?_ ?_
   | refine LeO.bind ?_ (fun _ => ?_)
set_option maxHeartbeats 8000000 in
set_option maxRecDepth 100000 in
theorem gongref06_Number.calls (k : Nat) (a0 : Int) (r : ByteArray) (w : World) (h : gongref06_Number.f k a0 = some r) :
  Calls Tryz.prog 95 #[.int .i64 a0] w fun e w' => e = .returned (.string r) ∧ Below w.heap.size w w' := by
 have HB := Aside0.mk (Below.refl w.heap.size w)
 have H : (gongref06_Number.l0 k a0 (strOfNums (([(wrap64 (48 + (Int.tmod a0 10))) % 256] : List Int)))) = some r := h
 clear h
 obtain ⟨y270, hy270⟩ : ∃ y_ : List Int, y_ = (([(wrap64 (48 + (Int.tmod a0 10))) % 256] : List Int)) := ⟨_, rfl⟩
 replace H : (gongref06_Number.l0 k a0 (strOfNums y270)) = some r := by first | (rw [hy270]; with_reducible exact H) | (have H2_ := (Option.bind_some _ _).symm.trans H; rw [hy270]; with_reducible exact H2_) | (have H2_ := (Option.bind_some _ _).symm.trans H; with_reducible exact H2_) | with_reducible exact H | (rw [hy270]; exact H) | exact H
 have Ny270 := Aside0.mk hy270
 clear hy270
 have H' := Aside0.mk H
 clear H
 go_enter Tryz.func95, Tryz.ntmps95
 go_wp2_with (first | ((with_reducible refine gate_dst (N := 8) rfl ?_); refine Kd.R_lit (Kd.int .u8) _ 5 ?hg (N := 8) ?hd (xs := ([(wrap64 (48 + (Int.tmod a0 10))) % 256] : List Int)) (inner := [.int .u8 ((wrap64 (48 + (Int.tmod a0 10))) % 256)]) (ok := fun _ => True) (okp := fun _ => True) ?hr ?hp (fun _ hk => hk) trivial (Below.refl _ _) (Nat.le_refl _) (by simp) ?_; (case hd => rfl); (case hg => rfl); (case hr => exact Zq2); (case hp => exact (Reps.one (show Kd.M (Kd.int .u8) _ _ _ ((wrap64 (48 + (Int.tmod a0 10))) % 256) [.int .u8 ((wrap64 (48 + (Int.tmod a0 10))) % 256)] from rfl) (Reps.none _ _))); intro v271 w2 ho3 hb hg_ hnew_; clear hg_ hnew_; (first | rw [← Ny270.out] at ho3 | (simp only [Int.reduceToNat] at ho3; rw [← Ny270.out] at ho3)); have HO272 := Aside0.mk (Kd.R_lower ho3 (below_size Zq12)); replace HB := Aside0.mk (below_step Zq12 hb); clear hb ho3; have hcv4 := own_string (P := Tryz.prog) Tryz.underlying53 Tryz.underlying5 Tryz.underlying9 (Kd.own_of_R HO272.out)))
 go_loopg [0, 3] k (fun kq v0 v3 w' => ∃ (x0_1 : Int) (x3_1 : ByteArray), v0 = .int .i64 x0_1 ∧ v3 = .string x3_1 ∧ Aside0 (gongref06_Number.l0 kq x0_1 x3_1 = some r) ∧ Aside0 (kq ≤ k) ∧ Aside0 (Below w.heap.size w w'))
 case atStart => exact ⟨(a0), (strOfNums y270), Zq11, Zq11, H', ⟨Nat.le_refl _⟩, ⟨Zy40⟩⟩
 case round =>
  clear H'
  (try clear p2); (try clear hcv4)
  obtain ⟨x0_1, x3_1, rfl, rfl, HA, HK1, HB⟩ := hrel
  cases gk with
  | zero => exact absurd HA.out (by simp [gongref06_Number.l0])
  | succ k1 =>
   have H := HA.out
   clear HA
   simp only [gongref06_Number.l0] at H
   by_cases c5 : x0_1 ≥ 10
   ·rw [if_pos c5] at H
    have c5b0 : decide (10 ≤ x0_1) = true := decide_eq_true c5
    clear c5
    obtain ⟨y273, hy273⟩ : ∃ y_ : List Int, y_ = (([(wrap64 (48 + (Int.tmod (wrap64 (Int.tdiv x0_1 10)) 10))) % 256] : List Int)) := ⟨_, rfl⟩
    replace H : (if (strOfNums y273).size + x3_1.size ≤ 9223372036854775807 then (gongref06_Number.l0 k1 (wrap64 (Int.tdiv x0_1 10)) ((strOfNums y273) ++ x3_1)) else (none)) = some r := by first | (rw [hy273]; with_reducible exact H) | (have H2_ := (Option.bind_some _ _).symm.trans H; rw [hy273]; with_reducible exact H2_) | (have H2_ := (Option.bind_some _ _).symm.trans H; with_reducible exact H2_) | with_reducible exact H | (rw [hy273]; exact H) | exact H
    have Ny273 := Aside0.mk hy273
    clear hy273
    by_cases c6 : (strOfNums y273).size + x3_1.size ≤ 9223372036854775807
    ·rw [if_pos c6] at H
     have c6b0 := eq_true c6
     have c6b1 : decide ((strOfNums y273).size + x3_1.size ≤ 9223372036854775807) = true := decide_eq_true c6
     try have c6b2 : (9223372036854775807 < (strOfNums y273).size + x3_1.size) = False := eq_false (Nat.not_lt.2 c6)
     have H' := Aside0.mk H
     clear H
     go_wp2_with (first | ((with_reducible refine gate_dst (N := 18) rfl ?_); refine Kd.R_lit (Kd.int .u8) _ 5 ?hg (N := 18) ?hd (xs := ([(wrap64 (48 + (Int.tmod (wrap64 (Int.tdiv x0_1 10)) 10))) % 256] : List Int)) (inner := [.int .u8 ((wrap64 (48 + (Int.tmod (wrap64 (Int.tdiv x0_1 10)) 10))) % 256)]) (ok := fun _ => True) (okp := fun _ => True) ?hr ?hp (fun _ hk => hk) trivial (Below.refl _ _) (Nat.le_refl _) (by simp) ?_; (case hd => rfl); (case hg => rfl); (case hr => exact Zq2); (case hp => exact (Reps.one (show Kd.M (Kd.int .u8) _ _ _ ((wrap64 (48 + (Int.tmod (wrap64 (Int.tdiv x0_1 10)) 10))) % 256) [.int .u8 ((wrap64 (48 + (Int.tmod (wrap64 (Int.tdiv x0_1 10)) 10))) % 256)] from rfl) (Reps.none _ _))); intro v274 w7 ho8 hb hg_ hnew_; clear hg_ hnew_; (first | rw [← Ny273.out] at ho8 | (simp only [Int.reduceToNat] at ho8; rw [← Ny273.out] at ho8)); have HO275 := Aside0.mk (Kd.R_lower ho8 (below_size Zq12)); replace HB := Aside0.mk (below_step Zq12 hb); clear hb ho8; have hcv9 := own_string (P := Tryz.prog) Tryz.underlying53 Tryz.underlying5 Tryz.underlying9 (Kd.own_of_R HO275.out)))
     go_roundg k1
     case measure => have := HK1.out; omega
     case rel => exact ⟨(wrap64 (Int.tdiv x0_1 10)), ((strOfNums y273) ++ x3_1), Zq11, Zq11, H', ⟨by have := HK1.out; omega⟩, ⟨Zy40⟩⟩
    ·rw [if_neg c6] at H
     exact absurd H (by simp)
   ·rw [if_neg c5] at H
    have c5b0 : decide (10 ≤ x0_1) = false := decide_eq_false c5
    clear c5
    obtain rfl := Option.some.inj H
    go_wp2
    go_ret
    exact ⟨Zy41, Zy40⟩
def gongref06_Put.l0 : Nat → List Int → ByteArray → Int → Option (ByteArray)
 | 0, _, _, _ => none
 | k + 1, x0, x3, x4 => if x4 < (x0.length : Int) then (if x4 > 0 then (if x3.size + 1 ≤ 9223372036854775807 then (if 0 ≤ x4 then ((gongref06_Number.f k (rd x0 x4)).bind fun t277 => (if (x3 ++ (⟨#[46]⟩ : ByteArray)).size + t277.size ≤ 9223372036854775807 then (gongref06_Put.l0 k x0 ((x3 ++ (⟨#[46]⟩ : ByteArray)) ++ t277) (wrap64 (x4 + 1))) else (none))) else (none)) else (none)) else (if 0 ≤ x4 then ((gongref06_Number.f k (rd x0 x4)).bind fun t279 => (if x3.size + t279.size ≤ 9223372036854775807 then (gongref06_Put.l0 k x0 (x3 ++ t279) (wrap64 (x4 + 1))) else (none))) else (none))) else (some x3)
def gongref06_Put.f (k : Nat) (l0 : List Int) : Option (ByteArray) := gongref06_Put.l0 k l0 (⟨#[]⟩ : ByteArray) 0
theorem gongref06_Put.mono_l : ∀ k, (∀ y0 y1 y2, LeO (gongref06_Put.l0 k y0 y1 y2) (gongref06_Put.l0 (k + 1) y0 y1 y2))
 | 0 => fun _ _ _ r h => by simp [gongref06_Put.l0] at h
 | k + 1 => by
  have ih0 := gongref06_Put.mono_l k
  ·intro y0 y1 y2
   unfold gongref06_Put.l0
   repeat' first
   | (with_reducible exact ih0 _ _ _)
   | (with_reducible exact gongref06_Number.mono _ _)
   | (with_reducible exact LeO.refl _)
   | (with_reducible exact LeO.none _)
   | (with_reducible refine LeO.ite ?_ ?_)
   | (with_reducible refine LeO.bind ?_ (fun _ => ?_))
   | exact ih0 _ _ _
   | exact gongref06_Number.mono _ _
   | exact LeO.none _
   | refine LeO.ite ?_ ?_
   | refine LeO.bind ?_ (fun _ => ?_)
theorem gongref06_Put.mono : ∀ a0 k, LeO (gongref06_Put.f k a0) (gongref06_Put.f (k + 1) a0) := by
 intro a0 k
 have ih0 := gongref06_Put.mono_l k
 unfold gongref06_Put.f
 repeat' first
   | (with_reducible exact ih0 _ _ _)
   | (with_reducible exact gongref06_Number.mono _ _)
   | (with_reducible exact LeO.refl _)
   | (with_reducible exact LeO.none _)
   | (with_reducible refine LeO.ite ?_ ?_)
   | (with_reducible refine LeO.bind ?_ (fun _ => ?_))
   | exact ih0 _ _ _
   | exact gongref06_Number.mono _ _
   | exact LeO.none _
   | refine LeO.ite ?_ ?_
   | refine LeO.bind ?_ (fun _ => ?_)
set_option maxHeartbeats 8000000 in
set_option maxRecDepth 100000 in
theorem gongref06_Put.calls (k : Nat) (A0 : Option Addr) (c0 : Nat) (l0 : List Int) (r : ByteArray) (w : World) (hr0 : Kd.C (Kd.int .i64) w A0 l0.length l0) (hc0 : l0.length ≤ c0) (h : gongref06_Put.f k l0 = some r) :
  Calls Tryz.prog 73 #[.slice A0 l0.length c0] w fun e w' => e = .returned (.string r) ∧ Below w.heap.size w w' := by
 have HR0 := Aside0.mk hr0
 have HC0 := Aside0.mk hc0
 clear hr0 hc0
 have HB := Aside0.mk (Below.refl w.heap.size w)
 have H : (gongref06_Put.l0 k l0 (⟨#[]⟩ : ByteArray) 0) = some r := h
 clear h
 have H' := Aside0.mk H
 clear H
 go_enter Tryz.func73, Tryz.ntmps73
 go_wp2
 go_loopg [3, 4] k (fun kq v3 v4 w' => ∃ (x3_1 : ByteArray) (x4_1 : Int), v3 = .string x3_1 ∧ v4 = .int .i64 x4_1 ∧ Aside0 (gongref06_Put.l0 kq l0 x3_1 x4_1 = some r) ∧ Aside0 (kq ≤ k) ∧ Aside0 (Below w.heap.size w w'))
 case atStart => exact ⟨((⟨#[]⟩ : ByteArray)), (0), Zq11, Zq11, H', ⟨Nat.le_refl _⟩, ⟨Zy40⟩⟩
 case round =>
  clear H'
  obtain ⟨x3_1, x4_1, rfl, rfl, HA, HK1, HB⟩ := hrel
  cases gk with
  | zero => exact absurd HA.out (by simp [gongref06_Put.l0])
  | succ k1 =>
   have H := HA.out
   clear HA
   simp only [gongref06_Put.l0] at H
   by_cases c2 : x4_1 < (l0.length : Int)
   ·rw [if_pos c2] at H
    have c2b0 : decide (x4_1 < (l0.length : Int)) = true := decide_eq_true c2
    clear c2
    by_cases c3 : x4_1 > 0
    ·rw [if_pos c3] at H
     have c3b0 : decide (0 < x4_1) = true := decide_eq_true c3
     clear c3
     by_cases c4 : x3_1.size + 1 ≤ 9223372036854775807
     ·rw [if_pos c4] at H
      have c4b0 := eq_true c4
      have c4b1 : decide (x3_1.size + 1 ≤ 9223372036854775807) = true := decide_eq_true c4
      try have c4b2 : (9223372036854775807 < x3_1.size + 1) = False := eq_false (Nat.not_lt.2 c4)
      by_cases c5 : 0 ≤ x4_1
      ·rw [if_pos c5] at H
       have c5b0 : decide (0 ≤ x4_1) = true := decide_eq_true c5
       clear c5
       replace H := Option.bind_eq_some_iff.mp H
       obtain ⟨t277, A60, H⟩ := H
       replace H : (if (x3_1 ++ (⟨#[46]⟩ : ByteArray)).size + t277.size ≤ 9223372036854775807 then (gongref06_Put.l0 k1 l0 ((x3_1 ++ (⟨#[46]⟩ : ByteArray)) ++ t277) (wrap64 (x4_1 + 1))) else (none)) = some r := H
       have A6 := Aside0.mk A60
       clear A60
       by_cases c7 : (x3_1 ++ (⟨#[46]⟩ : ByteArray)).size + t277.size ≤ 9223372036854775807
       ·rw [if_pos c7] at H
        have c7b0 := eq_true c7
        have c7b1 : decide ((x3_1 ++ (⟨#[46]⟩ : ByteArray)).size + t277.size ≤ 9223372036854775807) = true := decide_eq_true c7
        try have c7b2 : (9223372036854775807 < (x3_1 ++ (⟨#[46]⟩ : ByteArray)).size + t277.size) = False := eq_false (Nat.not_lt.2 c7)
        have c7z2 := c7b2
        simp only [ByteArray.size_append] at c7z2
        have c7z3 := c7z2
        try simp only [size_lit1, size_lit2, size_lit3, size_lit4] at c7z3
        have H' := Aside0.mk H
        clear H
        have p276 : 0 ≤ (x4_1 : Int) := of_decide_eq_true Zq1
        have q276 : x4_1 < (l0.length : Int) := of_decide_eq_true Zq1
        obtain ⟨ad276, e276, hx276_0⟩ := Kd.at_int HR0.out x4_1 p276 q276
        cases e276
        replace hx276_0 := (HB.out.cell (World.block_lt_of_cell? w _ hx276_0)).trans hx276_0
        replace p276 := eq_true p276
        replace q276 := eq_true q276
        go_wp2_with (first | ((with_reducible refine gate_callee (f := 95) rfl ?_); refine goesL_ (some 20) rfl rfl Tryz.func95 (by kernel_rfl) rfl #[.int .i64 (rd l0 x4_1)] rfl Zq13 ?_; (with_reducible refine (gongref06_Number.calls k1 (rd l0 x4_1) t277 _ A6.out).mono ?_); rintro e w8 ⟨rfl, hb⟩; refine ⟨_, rfl, ?_⟩; replace HB := Aside0.mk (below_step Zq12 hb); (try clear hb); (try clear hb2); (try clear hk); (try clear hi)))
        go_roundg k1
        case measure => have := HK1.out; omega
        case rel => exact ⟨((x3_1 ++ (⟨#[46]⟩ : ByteArray)) ++ t277), (wrap64 (x4_1 + 1)), Zq11, Zq11, H', ⟨by have := HK1.out; omega⟩, ⟨Zy40⟩⟩
       ·rw [if_neg c7] at H
        exact absurd H (by simp)
      ·rw [if_neg c5] at H
       exact absurd H (by simp)
     ·rw [if_neg c4] at H
      exact absurd H (by simp)
    ·rw [if_neg c3] at H
     have c3b0 : decide (0 < x4_1) = false := decide_eq_false c3
     clear c3
     by_cases c9 : 0 ≤ x4_1
     ·rw [if_pos c9] at H
      have c9b0 : decide (0 ≤ x4_1) = true := decide_eq_true c9
      clear c9
      replace H := Option.bind_eq_some_iff.mp H
      obtain ⟨t279, A100, H⟩ := H
      replace H : (if x3_1.size + t279.size ≤ 9223372036854775807 then (gongref06_Put.l0 k1 l0 (x3_1 ++ t279) (wrap64 (x4_1 + 1))) else (none)) = some r := H
      have A10 := Aside0.mk A100
      clear A100
      by_cases c11 : x3_1.size + t279.size ≤ 9223372036854775807
      ·rw [if_pos c11] at H
       have c11b0 := eq_true c11
       have c11b1 : decide (x3_1.size + t279.size ≤ 9223372036854775807) = true := decide_eq_true c11
       try have c11b2 : (9223372036854775807 < x3_1.size + t279.size) = False := eq_false (Nat.not_lt.2 c11)
       have H' := Aside0.mk H
       clear H
       have p278 : 0 ≤ (x4_1 : Int) := of_decide_eq_true Zq1
       have q278 : x4_1 < (l0.length : Int) := of_decide_eq_true Zq1
       obtain ⟨ad278, e278, hx278_0⟩ := Kd.at_int HR0.out x4_1 p278 q278
       cases e278
       replace hx278_0 := (HB.out.cell (World.block_lt_of_cell? w _ hx278_0)).trans hx278_0
       replace p278 := eq_true p278
       replace q278 := eq_true q278
       go_wp2_with (first | ((with_reducible refine gate_callee (f := 95) rfl ?_); refine goesL_ (some 20) rfl rfl Tryz.func95 (by kernel_rfl) rfl #[.int .i64 (rd l0 x4_1)] rfl Zq13 ?_; (with_reducible refine (gongref06_Number.calls k1 (rd l0 x4_1) t279 _ A10.out).mono ?_); rintro e w12 ⟨rfl, hb⟩; refine ⟨_, rfl, ?_⟩; replace HB := Aside0.mk (below_step Zq12 hb); (try clear hb); (try clear hb2); (try clear hk); (try clear hi)))
       go_roundg k1
       case measure => have := HK1.out; omega
       case rel => exact ⟨(x3_1 ++ t279), (wrap64 (x4_1 + 1)), Zq11, Zq11, H', ⟨by have := HK1.out; omega⟩, ⟨Zy40⟩⟩
      ·rw [if_neg c11] at H
       exact absurd H (by simp)
     ·rw [if_neg c9] at H
      exact absurd H (by simp)
   ·rw [if_neg c2] at H
    have c2b0 : decide (x4_1 < (l0.length : Int)) = false := decide_eq_false c2
    clear c2
    obtain rfl := Option.some.inj H
    go_wp2
    go_ret
    exact ⟨Zy41, Zy40⟩
mutual
def gongref06_Arcs.l0 : Nat → ByteArray → List Int → Int → Int → Option (List Int × Int)
 | 0, _, _, _, _ => none
 | k + 1, x0, x4, x5, x6 => if x6 ≤ (x0.size : Int) then (if x6 = (x0.size : Int) then (gongref06_Arcs.j1 k x0 x4 x5 x6 true) else (if 0 ≤ x6 then (if x6 < (x0.size : Int) then (gongref06_Arcs.j1 k x0 x4 x5 x6 ((bt x0 x6) == 46)) else (none)) else (none))) else ((gongref06_Is.f k x4).bind fun t283 => (if t283 = true then ((gongref06_Put.f k x4).bind fun t284 => (if t284.toList = x0.toList then (some (x4, 0)) else (some (([] : List Int), 60)))) else (some (([] : List Int), 60))))
def gongref06_Arcs.j1 : Nat → ByteArray → List Int → Int → Int → Bool → Option (List Int × Int)
 | 0, _, _, _, _, _ => none
 | k + 1, x0, x4, x5, x6, x25 => if x25 = true then (if x4.length < 17592186044416 then (gongref06_Arcs.l0 k x0 (x4 ++ [x5]) 0 (wrap64 (x6 + 1))) else (none)) else (if 0 ≤ x6 then (if x6 < (x0.size : Int) then (if (bt x0 x6) < 48 then (some (([] : List Int), 60)) else (if (bt x0 x6) > 57 then (some (([] : List Int), 60)) else (if x5 > 4294967295 then (some (([] : List Int), 60)) else (gongref06_Arcs.l0 k x0 x4 (wrap64 ((wrap64 (x5 * 10)) + (((bt x0 x6) - 48) % 256))) (wrap64 (x6 + 1)))))) else (none)) else (none))
end
def gongref06_Arcs.f (k : Nat) (a0 : ByteArray) : Option (List Int × Int) := if (a0.size : Int) > 1408 then (some (([] : List Int), 60)) else (gongref06_Arcs.l0 k a0 ([] : List Int) 0 0)
theorem gongref06_Arcs.mono_l : ∀ k, (∀ y0 y1 y2 y3, LeO (gongref06_Arcs.l0 k y0 y1 y2 y3) (gongref06_Arcs.l0 (k + 1) y0 y1 y2 y3)) ∧ (∀ y0 y1 y2 y3 y4, LeO (gongref06_Arcs.j1 k y0 y1 y2 y3 y4) (gongref06_Arcs.j1 (k + 1) y0 y1 y2 y3 y4))
 | 0 => ⟨fun _ _ _ _ r h => by simp [gongref06_Arcs.l0] at h, fun _ _ _ _ _ r h => by simp [gongref06_Arcs.j1] at h⟩
 | k + 1 => by
  obtain ⟨ih0, ih1⟩ := gongref06_Arcs.mono_l k
  refine ⟨?_, ?_⟩
  ·intro y0 y1 y2 y3
   unfold gongref06_Arcs.l0
   repeat' first
   | (with_reducible exact ih0 _ _ _ _)
   | (with_reducible exact ih1 _ _ _ _ _)
   | (with_reducible exact gongref06_Is.mono _ _)
   | (with_reducible exact gongref06_Put.mono _ _)
   | (with_reducible exact LeO.refl _)
   | (with_reducible exact LeO.none _)
   | (with_reducible refine LeO.ite ?_ ?_)
   | (with_reducible refine LeO.bind ?_ (fun _ => ?_))
   | exact ih0 _ _ _ _
   | exact ih1 _ _ _ _ _
   | exact gongref06_Is.mono _ _
   | exact gongref06_Put.mono _ _
   | exact LeO.none _
   | refine LeO.ite ?_ ?_
   | refine LeO.bind ?_ (fun _ => ?_)
  ·intro y0 y1 y2 y3 y4
   unfold gongref06_Arcs.j1
   repeat' first
   | (with_reducible exact ih0 _ _ _ _)
   | (with_reducible exact ih1 _ _ _ _ _)
   | (with_reducible exact gongref06_Is.mono _ _)
   | (with_reducible exact gongref06_Put.mono _ _)
   | (with_reducible exact LeO.refl _)
   | (with_reducible exact LeO.none _)
   | (with_reducible refine LeO.ite ?_ ?_)
   | (with_reducible refine LeO.bind ?_ (fun _ => ?_))
   | exact ih0 _ _ _ _
   | exact ih1 _ _ _ _ _
   | exact gongref06_Is.mono _ _
   | exact gongref06_Put.mono _ _
   | exact LeO.none _
   | refine LeO.ite ?_ ?_
   | refine LeO.bind ?_ (fun _ => ?_)
theorem gongref06_Arcs.mono : ∀ a0 k, LeO (gongref06_Arcs.f k a0) (gongref06_Arcs.f (k + 1) a0) := by
 intro a0 k
 obtain ⟨ih0, ih1⟩ := gongref06_Arcs.mono_l k
 unfold gongref06_Arcs.f
 repeat' first
   | (with_reducible exact ih0 _ _ _ _)
   | (with_reducible exact ih1 _ _ _ _ _)
   | (with_reducible exact gongref06_Is.mono _ _)
   | (with_reducible exact gongref06_Put.mono _ _)
   | (with_reducible exact LeO.refl _)
   | (with_reducible exact LeO.none _)
   | (with_reducible refine LeO.ite ?_ ?_)
   | (with_reducible refine LeO.bind ?_ (fun _ => ?_))
   | exact ih0 _ _ _ _
   | exact ih1 _ _ _ _ _
   | exact gongref06_Is.mono _ _
   | exact gongref06_Put.mono _ _
   | exact LeO.none _
   | refine LeO.ite ?_ ?_
   | refine LeO.bind ?_ (fun _ => ?_)
set_option maxHeartbeats 8000000 in
set_option maxRecDepth 100000 in
theorem gongref06_Arcs.calls (k : Nat) (a0 : ByteArray) (r1 : List Int) (r2 : Int) (w : World) (h : gongref06_Arcs.f k a0 = some (r1, r2)) :
  Calls Tryz.prog 49 #[.string a0] w fun e w' => ∃ v0_ : Value, e = .returned (.tuple #[v0_, .int .i64 r2]) ∧ Kd.R (Kd.int .i64) 3 w' w.heap.size (fun _ => True) v0_ r1 ∧ Below w.heap.size w w' := by
 have HB := Aside0.mk (Below.refl w.heap.size w)
 have H : (if (a0.size : Int) > 1408 then (some (([] : List Int), 60)) else (gongref06_Arcs.l0 k a0 ([] : List Int) 0 0)) = some (r1, r2) := h
 clear h
 by_cases c2 : (a0.size : Int) > 1408
 ·rw [if_pos c2] at H
  have c2b0 : decide (1408 < (a0.size : Int)) = true := decide_eq_true c2
  have c2b1 : decide (1408 < a0.size) = true := decide_eq_true (by omega)
  clear c2
  simp only [Option.some.injEq, Prod.mk.injEq] at H
  obtain ⟨rfl, rfl⟩ := H
  go_enter Tryz.func49, Tryz.ntmps49
  go_wp2
  go_ret2
  exact ⟨_, Zy55, Zy35, Zy40⟩
 rw [if_neg c2] at H
 have c2b0 : decide (1408 < (a0.size : Int)) = false := decide_eq_false c2
 have c2b1 : decide (1408 < a0.size) = false := decide_eq_false (by omega)
 clear c2
 have H' := Aside0.mk H
 clear H
 go_enter Tryz.func49, Tryz.ntmps49
 go_wp2
 go_loopg [4, 5, 6] k (fun kq v4 v5 v6 w' => ∃ (x4_1 : List Int) (x5_1 : Int) (x6_1 : Int), v5 = .int .i64 x5_1 ∧ v6 = .int .i64 x6_1 ∧ Aside0 (gongref06_Arcs.l0 kq a0 x4_1 x5_1 x6_1 = some (r1, r2)) ∧ Aside0 (kq ≤ k) ∧ Aside0 (Kd.R (Kd.int .i64) 3 w' w.heap.size (fun _ => True) v4 x4_1) ∧ Aside0 (Below w.heap.size w w'))
 case atStart => exact ⟨(([] : List Int)), (0), (0), Zq11, Zq11, H', ⟨Nat.le_refl _⟩, ⟨Zy35⟩, ⟨Zy40⟩⟩
 case round =>
  clear H'
  (try clear c2); (try clear c2b0); (try clear c2b1); (try clear p2)
  obtain ⟨x4_1, x5_1, x6_1, rfl, rfl, HA, HK1, HO_4, HB⟩ := hrel
  cases gk with
  | zero => exact absurd HA.out (by simp [gongref06_Arcs.l0])
  | succ k1 =>
   have H := HA.out
   clear HA
   simp only [gongref06_Arcs.l0] at H
   by_cases c3 : x6_1 ≤ (a0.size : Int)
   ·rw [if_pos c3] at H
    have c3b0 : decide (x6_1 ≤ (a0.size : Int)) = true := decide_eq_true c3
    clear c3
    have HC4 := Aside0.mk H
    clear H
    go_upto_region 8 with (fail)
    go_cut [25] (fun v25 wc => ∃ (kq : Nat) (x25_3 : Bool), v25 = .bool x25_3 ∧ Aside0 (gongref06_Arcs.j1 kq a0 x4_1 x5_1 x6_1 x25_3 = some (r1, r2)) ∧ Aside0 (kq ≤ k1) ∧ Aside0 (Kd.R (Kd.int .i64) 3 wc w.heap.size (fun _ => True) u4 x4_1) ∧ Aside0 (Below w.heap.size w wc))
    case first =>
     have H := HC4.out
     clear HC4
     by_cases c5 : x6_1 = (a0.size : Int)
     ·rw [if_pos c5] at H
      have c5b0 : (x6_1 == (a0.size : Int)) = true := beq_iff_eq.mpr c5
      have c5b1 : (x6_1 != (a0.size : Int)) = false := bne_eq_false_iff_eq.mpr c5
      clear c5
      (first | rw [c5b0] | (simp only [i64_w, i32_w]; rw [c5b0]) | skip)
      have H' := Aside0.mk H
      clear H
      go_wp2
      go_meet
      case rel => exact ⟨_, (true), Zq11, H', ⟨Zy57⟩, ⟨Zy53⟩, ⟨Zy40⟩⟩
     ·rw [if_neg c5] at H
      have c5b0 : (x6_1 == (a0.size : Int)) = false := beq_eq_false_iff_ne.mpr c5
      have c5b1 : (x6_1 != (a0.size : Int)) = true := bne_iff_ne.mpr c5
      (first | rw [c5b0] | (simp only [i64_w, i32_w]; rw [c5b0]) | skip)
      by_cases c6 : 0 ≤ x6_1
      ·rw [if_pos c6] at H
       have c6b0 : decide (0 ≤ x6_1) = true := decide_eq_true c6
       clear c6
       by_cases c7 : x6_1 < (a0.size : Int)
       ·rw [if_pos c7] at H
        have c7b0 : decide (x6_1 < (a0.size : Int)) = true := decide_eq_true c7
        clear c7
        have H' := Aside0.mk H
        clear H
        have p8 : 0 ≤ (x6_1 : Int) := of_decide_eq_true Zq1
        have q8 : x6_1 < (a0.size : Int) := of_decide_eq_true Zq1
        have hx8 := bt_at a0 x6_1
        replace p8 := eq_true p8
        replace q8 := eq_true q8
        go_wp2
        go_meet
        case rel => exact ⟨_, (((bt a0 x6_1) == 46)), Zq11, H', ⟨Zy57⟩, ⟨Zy53⟩, ⟨Zy40⟩⟩
       ·rw [if_neg c7] at H
        exact absurd H (by simp)
      ·rw [if_neg c6] at H
       exact absurd H (by simp)
    case rest =>
     clear HC4
     (try clear c2); (try clear c2b0); (try clear c2b1); (try clear p2); (try clear c3); (try clear c3b0); (try clear c4); (try clear c5); (try clear c5b0); (try clear c5b1); (try clear c6); (try clear c6b0); (try clear c7); (try clear c7b0); (try clear p8); (try clear q8); (try clear hx8)
     obtain ⟨kq, x25_3, rfl, HA, HJ3, HO_4, HB⟩ := hcut
     cases kq with
     | zero => exact absurd HA.out (by simp [gongref06_Arcs.j1])
     | succ kj3 =>
      have H := HA.out
      clear HA
      simp only [gongref06_Arcs.j1] at H
      by_cases c9 : x25_3 = true
      ·subst c9
       have H1 : (if x4_1.length < 17592186044416 then (gongref06_Arcs.l0 kj3 a0 (x4_1 ++ [x5_1]) 0 (wrap64 (x6_1 + 1))) else (none)) = some (r1, r2) := by rw [if_pos rfl] at H; exact H
       clear H
       have H := H1
       clear H1
       by_cases c10 : x4_1.length < 17592186044416
       ·rw [if_pos c10] at H
        have LMc10 := Aside0.mk c10
        clear c10
        obtain ⟨y280, hy280⟩ : ∃ y_ : List Int, y_ = (x4_1 ++ [x5_1]) := ⟨_, rfl⟩
        replace H : (gongref06_Arcs.l0 kj3 a0 y280 0 (wrap64 (x6_1 + 1))) = some (r1, r2) := by first | (rw [hy280]; with_reducible exact H) | (have H2_ := (Option.bind_some _ _).symm.trans H; rw [hy280]; with_reducible exact H2_) | (have H2_ := (Option.bind_some _ _).symm.trans H; with_reducible exact H2_) | with_reducible exact H | (rw [hy280]; exact H) | exact H
        have Ny280 := Aside0.mk hy280
        clear hy280
        have H' := Aside0.mk H
        clear H
        go_wp2_with (first | ((with_reducible refine gate_builtin (b := .append) (xs := #[.tmp 26, .tmp 28]) rfl ?_); at_builtin; refine Kd.R_append (Kd.int .i64) (w0 := w) w.heap.size rfl (.tmp 26) (.tmp 28) 89 3 (.int .i64 0) 8 rfl Tryz.underlying89 info3 rfl (by decide) (by omega) u4 x4_1 x5_1 [.int .i64 x5_1] (fun _ => True) (fun _ => False) rfl rfl ?aP (fun _ hk => hk.elim) ?aF ?aO ?aB ?aS ?aL ?_; (case aP => exact rfl); (case aB => exact Zq12); (case aF => exact (fun _ _ => trivial)); (case aO => exact Zq6); (case aS => exact (below_size Zq12)); (case aL => have := LMc10.out; omega); intro v281 w11 ho hb hg hat; rw [← Ny280.out] at ho; have n0_ := Aside0.mk (hb); have n1_ := Aside0.mk (ho); clear HB; clear HO_4; have HB := n0_; have HO282 := n1_; clear n0_ n1_; clear ho hb hg hat))
        go_roundg kj3
        case measure => have := HK1.out; have := HJ3.out; omega
        case rel => exact ⟨(y280), (0), (wrap64 (x6_1 + 1)), Zq11, Zq11, H', ⟨by have := HK1.out; have := HJ3.out; omega⟩, ⟨by (with_reducible repeat (first | apply Kd.R_alloc | apply Kd.R_drewN | apply Kd.R_drew)); exact HO282.out⟩, ⟨Zy40⟩⟩
       ·rw [if_neg c10] at H
        exact absurd H (by simp)
      ·replace c9 := Bool.eq_false_iff.mpr c9
       subst c9
       have H1 : (if 0 ≤ x6_1 then (if x6_1 < (a0.size : Int) then (if (bt a0 x6_1) < 48 then (some (([] : List Int), 60)) else (if (bt a0 x6_1) > 57 then (some (([] : List Int), 60)) else (if x5_1 > 4294967295 then (some (([] : List Int), 60)) else (gongref06_Arcs.l0 kj3 a0 x4_1 (wrap64 ((wrap64 (x5_1 * 10)) + (((bt a0 x6_1) - 48) % 256))) (wrap64 (x6_1 + 1)))))) else (none)) else (none)) = some (r1, r2) := by rw [if_neg (show ¬ (false = true) by decide)] at H; exact H
       clear H
       have H := H1
       clear H1
       by_cases c12 : 0 ≤ x6_1
       ·rw [if_pos c12] at H
        have c12b0 : decide (0 ≤ x6_1) = true := decide_eq_true c12
        clear c12
        by_cases c13 : x6_1 < (a0.size : Int)
        ·rw [if_pos c13] at H
         have c13b0 : decide (x6_1 < (a0.size : Int)) = true := decide_eq_true c13
         clear c13
         by_cases c15 : (bt a0 x6_1) < 48
         ·rw [if_pos c15] at H
          have c15b0 : decide ((bt a0 x6_1) < 48) = true := decide_eq_true c15
          clear c15
          simp only [Option.some.injEq, Prod.mk.injEq] at H
          obtain ⟨rfl, rfl⟩ := H
          have p14 : 0 ≤ (x6_1 : Int) := of_decide_eq_true Zq1
          have q14 : x6_1 < (a0.size : Int) := of_decide_eq_true Zq1
          have hx14 := bt_at a0 x6_1
          replace p14 := eq_true p14
          replace q14 := eq_true q14
          go_wp2
          go_ret2
          exact ⟨_, Zy55, Zy35, Zy40⟩
         ·rw [if_neg c15] at H
          have c15b0 : decide ((bt a0 x6_1) < 48) = false := decide_eq_false c15
          clear c15
          by_cases c17 : (bt a0 x6_1) > 57
          ·rw [if_pos c17] at H
           have c17b0 : decide (57 < (bt a0 x6_1)) = true := decide_eq_true c17
           clear c17
           simp only [Option.some.injEq, Prod.mk.injEq] at H
           obtain ⟨rfl, rfl⟩ := H
           have p14 : 0 ≤ (x6_1 : Int) := of_decide_eq_true Zq1
           have q14 : x6_1 < (a0.size : Int) := of_decide_eq_true Zq1
           have hx14 := bt_at a0 x6_1
           replace p14 := eq_true p14
           replace q14 := eq_true q14
           have p16 : 0 ≤ (x6_1 : Int) := of_decide_eq_true Zq1
           have q16 : x6_1 < (a0.size : Int) := of_decide_eq_true Zq1
           have hx16 := bt_at a0 x6_1
           replace p16 := eq_true p16
           replace q16 := eq_true q16
           go_wp2
           go_ret2
           exact ⟨_, Zy55, Zy35, Zy40⟩
          ·rw [if_neg c17] at H
           have c17b0 : decide (57 < (bt a0 x6_1)) = false := decide_eq_false c17
           clear c17
           by_cases c18 : x5_1 > 4294967295
           ·rw [if_pos c18] at H
            have c18b0 : decide (4294967295 < x5_1) = true := decide_eq_true c18
            clear c18
            simp only [Option.some.injEq, Prod.mk.injEq] at H
            obtain ⟨rfl, rfl⟩ := H
            have p14 : 0 ≤ (x6_1 : Int) := of_decide_eq_true Zq1
            have q14 : x6_1 < (a0.size : Int) := of_decide_eq_true Zq1
            have hx14 := bt_at a0 x6_1
            replace p14 := eq_true p14
            replace q14 := eq_true q14
            have p16 : 0 ≤ (x6_1 : Int) := of_decide_eq_true Zq1
            have q16 : x6_1 < (a0.size : Int) := of_decide_eq_true Zq1
            have hx16 := bt_at a0 x6_1
            replace p16 := eq_true p16
            replace q16 := eq_true q16
            go_wp2
            go_ret2
            exact ⟨_, Zy55, Zy35, Zy40⟩
           ·rw [if_neg c18] at H
            have c18b0 : decide (4294967295 < x5_1) = false := decide_eq_false c18
            clear c18
            have H' := Aside0.mk H
            clear H
            have p14 : 0 ≤ (x6_1 : Int) := of_decide_eq_true Zq1
            have q14 : x6_1 < (a0.size : Int) := of_decide_eq_true Zq1
            have hx14 := bt_at a0 x6_1
            replace p14 := eq_true p14
            replace q14 := eq_true q14
            have p16 : 0 ≤ (x6_1 : Int) := of_decide_eq_true Zq1
            have q16 : x6_1 < (a0.size : Int) := of_decide_eq_true Zq1
            have hx16 := bt_at a0 x6_1
            replace p16 := eq_true p16
            replace q16 := eq_true q16
            have p19 : 0 ≤ (x6_1 : Int) := of_decide_eq_true Zq1
            have q19 : x6_1 < (a0.size : Int) := of_decide_eq_true Zq1
            have hx19 := bt_at a0 x6_1
            replace p19 := eq_true p19
            replace q19 := eq_true q19
            go_wp2
            go_roundg kj3
            case measure => have := HK1.out; have := HJ3.out; omega
            case rel => exact ⟨(x4_1), (wrap64 ((wrap64 (x5_1 * 10)) + (((bt a0 x6_1) - 48) % 256))), (wrap64 (x6_1 + 1)), Zq11, Zq11, H', ⟨by have := HK1.out; have := HJ3.out; omega⟩, ⟨Zy53⟩, ⟨Zy40⟩⟩
        ·rw [if_neg c13] at H
         exact absurd H (by simp)
       ·rw [if_neg c12] at H
        exact absurd H (by simp)
   ·rw [if_neg c3] at H
    have c3b0 : decide (x6_1 ≤ (a0.size : Int)) = false := decide_eq_false c3
    clear c3
    replace H := Option.bind_eq_some_iff.mp H
    obtain ⟨t283, A200, H⟩ := H
    replace H : (if t283 = true then ((gongref06_Put.f k1 x4_1).bind fun t284 => (if t284.toList = a0.toList then (some (x4_1, 0)) else (some (([] : List Int), 60)))) else (some (([] : List Int), 60))) = some (r1, r2) := H
    have A20 := Aside0.mk A200
    clear A200
    by_cases c21 : t283 = true
    ·subst c21
     have H1 : ((gongref06_Put.f k1 x4_1).bind fun t284 => (if t284.toList = a0.toList then (some (x4_1, 0)) else (some (([] : List Int), 60)))) = some (r1, r2) := by rw [if_pos rfl] at H; exact H
     clear H
     have H := H1
     clear H1
     replace H := Option.bind_eq_some_iff.mp H
     obtain ⟨t284, A220, H⟩ := H
     replace H : (if t284.toList = a0.toList then (some (x4_1, 0)) else (some (([] : List Int), 60))) = some (r1, r2) := H
     have A22 := Aside0.mk A220
     clear A220
     by_cases c23 : t284.toList = a0.toList
     ·rw [if_pos c23] at H
      have c23b0 : (t284.toList == a0.toList) = true := beq_iff_eq.mpr c23
      have c23b1 : (t284.toList != a0.toList) = false := bne_eq_false_iff_eq.mpr c23
      clear c23
      simp only [Option.some.injEq, Prod.mk.injEq] at H
      obtain ⟨rfl, rfl⟩ := H
      obtain ⟨Ao24, co24, eo24⟩ := Kd.R_slice HO_4.out
      subst eo24
      go_wp2_with (first | ((with_reducible refine gate_callee (f := 72) rfl ?_); refine goesL_ (some 53) rfl rfl Tryz.func72 (by kernel_rfl) rfl #[.slice Ao24 x4_1.length co24] rfl Zq13 ?_; (with_reducible refine (gongref06_Is.calls k1 _ _ x4_1 true _ ?side1 ?side2 A20.out).mono ?_); (case side1 => exact Zq29); (case side2 => exact (Kd.R_reads' HO_4.out).2.1); rintro e w' ⟨rfl, ⟨nd, rfl⟩⟩; refine ⟨_, rfl, ?_⟩) | (go_at_call 73; (with_reducible refine (gongref06_Put.calls k1 _ _ x4_1 t284 _ ?side1 ?side2 A22.out).mono ?_); (case side1 => exact Zq29); (case side2 => exact (Kd.R_reads' HO_4.out).2.1); rintro e w25 ⟨rfl, hb⟩; replace HO_4 := Aside0.mk (Kd.R_below Zq6 hb); replace HB := Aside0.mk (below_step Zq12 hb); (try clear hb); (try clear hb2); (try clear hk); (try clear hi)))
      go_ret2
      exact ⟨_, Zy55, Zy53, Zy40⟩
     ·rw [if_neg c23] at H
      have c23b0 : (t284.toList == a0.toList) = false := beq_eq_false_iff_ne.mpr c23
      have c23b1 : (t284.toList != a0.toList) = true := bne_iff_ne.mpr c23
      simp only [Option.some.injEq, Prod.mk.injEq] at H
      obtain ⟨rfl, rfl⟩ := H
      obtain ⟨Ao26, co26, eo26⟩ := Kd.R_slice HO_4.out
      subst eo26
      go_wp2_with (first | ((with_reducible refine gate_callee (f := 72) rfl ?_); refine goesL_ (some 53) rfl rfl Tryz.func72 (by kernel_rfl) rfl #[.slice Ao26 x4_1.length co26] rfl Zq13 ?_; (with_reducible refine (gongref06_Is.calls k1 _ _ x4_1 true _ ?side1 ?side2 A20.out).mono ?_); (case side1 => exact Zq29); (case side2 => exact (Kd.R_reads' HO_4.out).2.1); rintro e w' ⟨rfl, ⟨nd, rfl⟩⟩; refine ⟨_, rfl, ?_⟩) | (go_at_call 73; (with_reducible refine (gongref06_Put.calls k1 _ _ x4_1 t284 _ ?side1 ?side2 A22.out).mono ?_); (case side1 => exact Zq29); (case side2 => exact (Kd.R_reads' HO_4.out).2.1); rintro e w27 ⟨rfl, hb⟩; replace HO_4 := Aside0.mk (Kd.R_below Zq6 hb); replace HB := Aside0.mk (below_step Zq12 hb); (try clear hb); (try clear hb2); (try clear hk); (try clear hi)))
      go_ret2
      exact ⟨_, Zy55, Zy35, Zy40⟩
    ·replace c21 := Bool.eq_false_iff.mpr c21
     subst c21
     have H1 : (some (([] : List Int), 60)) = some (r1, r2) := by rw [if_neg (show ¬ (false = true) by decide)] at H; exact H
     clear H
     have H := H1
     clear H1
     simp only [Option.some.injEq, Prod.mk.injEq] at H
     obtain ⟨rfl, rfl⟩ := H
     obtain ⟨Ao28, co28, eo28⟩ := Kd.R_slice HO_4.out
     subst eo28
     go_wp2_with (first | ((with_reducible refine gate_callee (f := 72) rfl ?_); refine goesL_ (some 53) rfl rfl Tryz.func72 (by kernel_rfl) rfl #[.slice Ao28 x4_1.length co28] rfl Zq13 ?_; (with_reducible refine (gongref06_Is.calls k1 _ _ x4_1 false _ ?side1 ?side2 A20.out).mono ?_); (case side1 => exact Zq29); (case side2 => exact (Kd.R_reads' HO_4.out).2.1); rintro e w' ⟨rfl, ⟨nd, rfl⟩⟩; refine ⟨_, rfl, ?_⟩))
     go_ret2
     exact ⟨_, Zy55, Zy35, Zy40⟩
def gongref07_isOid.f (k : Nat) (a0 : ByteArray) : Option (Bool) := (gongref06_Arcs.f k a0).bind fun bt285 => (some (bt285.2 == 0))
theorem gongref07_isOid.mono : ∀ a0 k, LeO (gongref07_isOid.f k a0) (gongref07_isOid.f (k + 1) a0) := by
 intro a0 k
 unfold gongref07_isOid.f
 repeat' first
   | (with_reducible exact gongref06_Arcs.mono _ _)
   | (with_reducible exact LeO.refl _)
   | (with_reducible exact LeO.none _)
   | (with_reducible refine LeO.ite ?_ ?_)
   | (with_reducible refine LeO.bind ?_ (fun _ => ?_))
   | exact gongref06_Arcs.mono _ _
   | exact LeO.none _
   | refine LeO.ite ?_ ?_
   | refine LeO.bind ?_ (fun _ => ?_)
set_option maxHeartbeats 8000000 in
set_option maxRecDepth 100000 in
theorem gongref07_isOid.calls (k : Nat) (a0 : ByteArray) (r : Bool) (w : World) (h : gongref07_isOid.f k a0 = some r) :
  Calls Tryz.prog 102 #[.string a0] w fun e w' => e = .returned (.bool r) ∧ Below w.heap.size w w' := by
 have HB := Aside0.mk (Below.refl w.heap.size w)
 have H : ((gongref06_Arcs.f k a0).bind fun bt285 => (some (bt285.2 == 0))) = some r := h
 clear h
 replace H := Option.bind_eq_some_iff.mp H
 obtain ⟨⟨t285, t286⟩, A20, H⟩ := H
 replace H : (some (t286 == 0)) = some r := H
 have A2 := Aside0.mk A20
 clear A20
 obtain rfl := Option.some.inj H
 go_enter Tryz.func102, Tryz.ntmps102
 go_wp2_with (first | ((with_reducible refine gate_callee (f := 49) rfl ?_); refine goesL_ (some 7) rfl rfl Tryz.func49 (by kernel_rfl) rfl #[.string a0] rfl Zq13 ?_; (with_reducible refine (gongref06_Arcs.calls k a0 t285 t286 _ A2.out).mono ?_); rintro e w3 ⟨v287, rfl, ho0, hb⟩; refine ⟨_, rfl, ?_⟩; have HO288 := Aside0.mk (Kd.R_lower ho0 (below_size Zq12)); replace HB := Aside0.mk (below_step Zq12 hb); (try clear hb); (try clear hb2); (try clear hk); (try clear hi); (try clear ho0)))
 go_ret
 exact ⟨Zy41, Zy40⟩
end Go.Proofs.YtfgdnnbhlnbojaaGreatDoor.XPdR
