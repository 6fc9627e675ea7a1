-- Laid by extprint.py (the session's own driver): functions told by the kit's printer and by hand.
import Derived.Test.YtfgdnnbhlnbojaaGreatDoorXPdRx0
import Derived.Test.YtfgdnnbhlnbojaaGreatDoorXPdRx3
import Derived.Test.YtfgdnnbhlnbojaaGreatDoorXPdRx8
import Derived.Test.YtfgdnnbhlnbojaaGreatDoorXPdRx9
namespace Go.Proofs.YtfgdnnbhlnbojaaGreatDoor.XPdR
open Go.RowKit Gong Go.Proofs.YtfgdnnbhlnbojaaGreatDoorW.PrintWords Go.Proofs.YtfgdnnbhlnbojaaGreatDoorW.PrintLast Go.Proofs.YtfgdnnbhlnbojaaGreatDoorW.PrintMore
attribute [local go_sem] max2_int min2_int max_two min_two max_three min_three max_four min_four   -- for this text's walks alone
set_option linter.unusedVariables false
set_option linter.unusedSimpArgs false
mutual
def octet_groups.l0 : Nat → ByteArray → Int → Int → Int → Option (Int × Int × Int)
 | 0, _, _, _, _ => none
 | k + 1, x0, x1, x4, x5 => if x5 < 9 then (if x5 = (x0.size : Int) then (some (0, 0, 10)) else (if 0 ≤ x5 then (if x5 < (x0.size : Int) then (if (wrap64 (x5 + 1)) = 1 then (octet_groups.j1 k x0 x1 (Go.bits .or .i64 (wrap64 (x4 * 128)) (wrap64 (Go.bits .andNot .u8 (bt x0 x5) 128))) (wrap64 (x5 + 1)) (bt x0 x5) ((bt x0 x5) == 128)) else (octet_groups.j1 k x0 x1 (Go.bits .or .i64 (wrap64 (x4 * 128)) (wrap64 (Go.bits .andNot .u8 (bt x0 x5) 128))) (wrap64 (x5 + 1)) (bt x0 x5) false)) else (none)) else (none))) else (some (0, 0, 3))
def octet_groups.j1 : Nat → ByteArray → Int → Int → Int → Int → Bool → Option (Int × Int × Int)
 | 0, _, _, _, _, _, _ => none
 | k + 1, x0, x1, x4, x5, x7, x25 => if x25 = true then (some (0, 0, 3)) else (if x4 > x1 then (some (0, 0, 2)) else (if x7 < 128 then (some (x4, x5, 0)) else (octet_groups.l0 k x0 x1 x4 x5)))
end
def octet_groups.f (k : Nat) (a0 : ByteArray) (a1 : Int) : Option (Int × Int × Int) := octet_groups.l0 k a0 a1 0 0
theorem octet_groups.mono_l : ∀ k, (∀ y0 y1 y2 y3, LeO (octet_groups.l0 k y0 y1 y2 y3) (octet_groups.l0 (k + 1) y0 y1 y2 y3)) ∧ (∀ y0 y1 y2 y3 y4 y5, LeO (octet_groups.j1 k y0 y1 y2 y3 y4 y5) (octet_groups.j1 (k + 1) y0 y1 y2 y3 y4 y5))
 | 0 => ⟨fun _ _ _ _ r h => by simp [octet_groups.l0] at h, fun _ _ _ _ _ _ r h => by simp [octet_groups.j1] at h⟩
 | k + 1 => by
  obtain ⟨ih0, ih1⟩ := octet_groups.mono_l k
  refine ⟨?_, ?_⟩
  ·intro y0 y1 y2 y3
   unfold octet_groups.l0
   repeat' first
   | (with_reducible exact ih0 _ _ _ _)
   | (with_reducible exact ih1 _ _ _ _ _ _)
   | (with_reducible exact LeO.refl _)
   | (with_reducible exact LeO.none _)
   | (with_reducible refine LeO.ite ?_ ?_)
   | (with_reducible refine LeO.bind ?_ (fun _ => ?_))
   | exact ih0 _ _ _ _
   | exact ih1 _ _ _ _ _ _
   | exact LeO.none _
   | refine LeO.ite ?_ ?_
   | refine LeO.bind ?_ (fun _ => ?_)
  ·intro y0 y1 y2 y3 y4 y5
   unfold octet_groups.j1
   repeat' first
   | (with_reducible exact ih0 _ _ _ _)
   | (with_reducible exact ih1 _ _ _ _ _ _)
   | (with_reducible exact LeO.refl _)
   | (with_reducible exact LeO.none _)
   | (with_reducible refine LeO.ite ?_ ?_)
   | (with_reducible refine LeO.bind ?_ (fun _ => ?_))
   | exact ih0 _ _ _ _
   | exact ih1 _ _ _ _ _ _
   | exact LeO.none _
   | refine LeO.ite ?_ ?_
   | refine LeO.bind ?_ (fun _ => ?_)
theorem octet_groups.mono : ∀ a0 a1 k, LeO (octet_groups.f k a0 a1) (octet_groups.f (k + 1) a0 a1) := by
 intro a0 a1 k
 obtain ⟨ih0, ih1⟩ := octet_groups.mono_l k
 unfold octet_groups.f
 repeat' first
   | (with_reducible exact ih0 _ _ _ _)
   | (with_reducible exact ih1 _ _ _ _ _ _)
   | (with_reducible exact LeO.refl _)
   | (with_reducible exact LeO.none _)
   | (with_reducible refine LeO.ite ?_ ?_)
   | (with_reducible refine LeO.bind ?_ (fun _ => ?_))
   | exact ih0 _ _ _ _
   | exact ih1 _ _ _ _ _ _
   | exact LeO.none _
   | refine LeO.ite ?_ ?_
   | refine LeO.bind ?_ (fun _ => ?_)
set_option maxHeartbeats 8000000 in
set_option maxRecDepth 100000 in
theorem octet_groups.calls (k : Nat) (a0 : ByteArray) (a1 : Int) (r1 : Int) (r2 : Int) (r3 : Int) (w : World) (h : octet_groups.f k a0 a1 = some (r1, r2, r3)) :
  Calls Tryz.prog 104 #[.string a0, .int .i64 a1] w fun e w' => e = .returned (.tuple #[.int .i64 r1, .int .i64 r2, .int .i64 r3]) ∧ Drawn0 w w' := by
 have H : (octet_groups.l0 k a0 a1 0 0) = some (r1, r2, r3) := h
 clear h
 have H' := Aside0.mk H
 clear H
 go_enter Tryz.func104, Tryz.ntmps104
 go_wp2
 go_loopg [4, 5] k (fun kq v4 v5 w' => ∃ (x4_1 : Int) (x5_1 : Int), v4 = .int .i64 x4_1 ∧ v5 = .int .i64 x5_1 ∧ Aside0 (octet_groups.l0 kq a0 a1 x4_1 x5_1 = some (r1, r2, r3)) ∧ Aside0 (kq ≤ k) ∧ Drawn0 w w')
 case atStart => exact ⟨(0), (0), Zq11, Zq11, H', ⟨Nat.le_refl _⟩, Zy56⟩
 case round =>
  clear H'
  (try clear c1); (try clear p2)
  obtain ⟨x4_1, x5_1, rfl, rfl, HA, HK1, ⟨m1, rfl⟩⟩ := hrel
  cases gk with
  | zero => exact absurd HA.out (by simp [octet_groups.l0])
  | succ k1 =>
   have H := HA.out
   clear HA
   simp only [octet_groups.l0] at H
   by_cases c3 : x5_1 < 9
   ·rw [if_pos c3] at H
    have c3b0 : decide (x5_1 < 9) = true := decide_eq_true c3
    clear c3
    by_cases c4 : x5_1 = (a0.size : Int)
    ·rw [if_pos c4] at H
     have c4b0 : (x5_1 == (a0.size : Int)) = true := beq_iff_eq.mpr c4
     have c4b1 : (x5_1 != (a0.size : Int)) = false := bne_eq_false_iff_eq.mpr c4
     clear c4
     simp only [Option.some.injEq, Prod.mk.injEq] at H
     obtain ⟨rfl, rfl, rfl⟩ := H
     go_wp2
     go_ret3
     exact ⟨Zy59, Zy56⟩
    ·rw [if_neg c4] at H
     have c4b0 : (x5_1 == (a0.size : Int)) = false := beq_eq_false_iff_ne.mpr c4
     have c4b1 : (x5_1 != (a0.size : Int)) = true := bne_iff_ne.mpr c4
     by_cases c5 : 0 ≤ x5_1
     ·rw [if_pos c5] at H
      have c5b0 : decide (0 ≤ x5_1) = true := decide_eq_true c5
      clear c5
      by_cases c6 : x5_1 < (a0.size : Int)
      ·rw [if_pos c6] at H
       have c6b0 : decide (x5_1 < (a0.size : Int)) = true := decide_eq_true c6
       clear c6
       have HC8 := Aside0.mk H
       clear H
       have p7 : 0 ≤ (x5_1 : Int) := of_decide_eq_true Zq1
       have q7 : x5_1 < (a0.size : Int) := of_decide_eq_true Zq1
       have hx7 := bt_at a0 x5_1
       replace p7 := eq_true p7
       replace q7 := eq_true q7
       go_upto_region 7 with (fail)
       go_cut [25] (fun v25 wc => ∃ (kq : Nat) (x25_7 : Bool), v25 = .bool x25_7 ∧ Aside0 (octet_groups.j1 kq a0 a1 (Go.bits .or .i64 (wrap64 (x4_1 * 128)) (wrap64 (Go.bits .andNot .u8 (bt a0 x5_1) 128))) (wrap64 (x5_1 + 1)) (bt a0 x5_1) x25_7 = some (r1, r2, r3)) ∧ Aside0 (kq ≤ k1) ∧ Drawn0 w wc)
       case first =>
        have H := HC8.out
        clear HC8
        by_cases c9 : (wrap64 (x5_1 + 1)) = 1
        ·rw [if_pos c9] at H
         have c9b0 : ((wrap64 (x5_1 + 1)) == 1) = true := beq_iff_eq.mpr c9
         have c9b1 : ((wrap64 (x5_1 + 1)) != 1) = false := bne_eq_false_iff_eq.mpr c9
         clear c9
         (first | rw [c9b0] | (simp only [i64_w, i32_w]; rw [c9b0]) | skip)
         have H' := Aside0.mk H
         clear H
         go_wp2
         go_meet
         case rel => exact ⟨_, (((bt a0 x5_1) == 128)), Zq11, H', ⟨Zy57⟩, Zy56⟩
        ·rw [if_neg c9] at H
         have c9b0 : ((wrap64 (x5_1 + 1)) == 1) = false := beq_eq_false_iff_ne.mpr c9
         have c9b1 : ((wrap64 (x5_1 + 1)) != 1) = true := bne_iff_ne.mpr c9
         (first | rw [c9b0] | (simp only [i64_w, i32_w]; rw [c9b0]) | skip)
         have H' := Aside0.mk H
         clear H
         go_wp2
         go_meet
         case rel => exact ⟨_, (false), Zq11, H', ⟨Zy57⟩, Zy56⟩
       case rest =>
        clear HC8
        (try clear c1); (try clear p2); (try clear c3); (try clear c3b0); (try clear c4); (try clear c4b0); (try clear c4b1); (try clear c5); (try clear c5b0); (try clear c6); (try clear c6b0); (try clear p6); (try clear p7); (try clear q7); (try clear hx7); (try clear c9); (try clear c9b0); (try clear c9b1)
        obtain ⟨kq, x25_7, rfl, HA, HJ7, ⟨mc7, rfl⟩⟩ := hcut
        cases kq with
        | zero => exact absurd HA.out (by simp [octet_groups.j1])
        | succ kj7 =>
         have H := HA.out
         clear HA
         simp only [octet_groups.j1] at H
         by_cases c10 : x25_7 = true
         ·subst c10
          have H1 : (some (0, 0, 3)) = some (r1, r2, r3) := by rw [if_pos rfl] at H; exact H
          clear H
          have H := H1
          clear H1
          simp only [Option.some.injEq, Prod.mk.injEq] at H
          obtain ⟨rfl, rfl, rfl⟩ := H
          go_wp2
          go_ret3
          exact ⟨Zy59, Zy56⟩
         ·replace c10 := Bool.eq_false_iff.mpr c10
          subst c10
          have H1 : (if (Go.bits .or .i64 (wrap64 (x4_1 * 128)) (wrap64 (Go.bits .andNot .u8 (bt a0 x5_1) 128))) > a1 then (some (0, 0, 2)) else (if (bt a0 x5_1) < 128 then (some ((Go.bits .or .i64 (wrap64 (x4_1 * 128)) (wrap64 (Go.bits .andNot .u8 (bt a0 x5_1) 128))), (wrap64 (x5_1 + 1)), 0)) else (octet_groups.l0 kj7 a0 a1 (Go.bits .or .i64 (wrap64 (x4_1 * 128)) (wrap64 (Go.bits .andNot .u8 (bt a0 x5_1) 128))) (wrap64 (x5_1 + 1))))) = some (r1, r2, r3) := by rw [if_neg (show ¬ (false = true) by decide)] at H; exact H
          clear H
          have H := H1
          clear H1
          by_cases c11 : (Go.bits .or .i64 (wrap64 (x4_1 * 128)) (wrap64 (Go.bits .andNot .u8 (bt a0 x5_1) 128))) > a1
          ·rw [if_pos c11] at H
           have c11b0 : decide (a1 < (Go.bits .or .i64 (wrap64 (x4_1 * 128)) (wrap64 (Go.bits .andNot .u8 (bt a0 x5_1) 128)))) = true := decide_eq_true c11
           clear c11
           simp only [Option.some.injEq, Prod.mk.injEq] at H
           obtain ⟨rfl, rfl, rfl⟩ := H
           go_wp2
           go_ret3
           exact ⟨Zy59, Zy56⟩
          ·rw [if_neg c11] at H
           have c11b0 : decide (a1 < (Go.bits .or .i64 (wrap64 (x4_1 * 128)) (wrap64 (Go.bits .andNot .u8 (bt a0 x5_1) 128)))) = false := decide_eq_false c11
           clear c11
           by_cases c12 : (bt a0 x5_1) < 128
           ·rw [if_pos c12] at H
            have c12b0 : decide ((bt a0 x5_1) < 128) = true := decide_eq_true c12
            clear c12
            simp only [Option.some.injEq, Prod.mk.injEq] at H
            obtain ⟨rfl, rfl, rfl⟩ := H
            go_wp2
            go_ret3
            exact ⟨Zy59, Zy56⟩
           ·rw [if_neg c12] at H
            have c12b0 : decide ((bt a0 x5_1) < 128) = false := decide_eq_false c12
            clear c12
            have H' := Aside0.mk H
            clear H
            go_wp2
            go_roundg kj7
            case measure => have := HK1.out; have := HJ7.out; omega
            case rel => exact ⟨((Go.bits .or .i64 (wrap64 (x4_1 * 128)) (wrap64 (Go.bits .andNot .u8 (bt a0 x5_1) 128)))), ((wrap64 (x5_1 + 1))), Zq11, Zq11, H', ⟨by have := HK1.out; have := HJ7.out; omega⟩, Zy56⟩
      ·rw [if_neg c6] at H
       exact absurd H (by simp)
     ·rw [if_neg c5] at H
      exact absurd H (by simp)
   ·rw [if_neg c3] at H
    have c3b0 : decide (x5_1 < 9) = false := decide_eq_false c3
    clear c3
    simp only [Option.some.injEq, Prod.mk.injEq] at H
    obtain ⟨rfl, rfl, rfl⟩ := H
    go_wp2
    go_ret3
    exact ⟨Zy59, Zy56⟩
def octet_Reader_Groups.f (k : Nat) (s0_0 : ByteArray) (s0_1 : Int) (a1 : Int) : Option (Int × ByteArray × Int) := if s0_1 = 0 then ((octet_groups.f k s0_0 a1).bind fun bt162 => ((octet_Reader_Refuse.f s0_0 s0_1 bt162.2.2).bind fun bt165 => (if 0 ≤ bt162.2.1 then (if bt162.2.1 ≤ (bt165.1.size : Int) then (some (bt162.1, bt165.1.extract (bt162.2.1 : Int).toNat bt165.1.size, bt165.2)) else (none)) else (none)))) else (some (0, s0_0, s0_1))
theorem octet_Reader_Groups.mono : ∀ a0 a1 a2 k, LeO (octet_Reader_Groups.f k a0 a1 a2) (octet_Reader_Groups.f (k + 1) a0 a1 a2) := by
 intro a0 a1 a2 k
 unfold octet_Reader_Groups.f
 exact LeO.ite (LeO.bind (octet_groups.mono _ _ _) (fun _ => LeO.refl _)) (LeO.refl _)
set_option maxHeartbeats 1600000 in
set_option maxRecDepth 100000 in
theorem octet_Reader_Groups.calls (k : Nat) (g : Nat) (s0_0 : ByteArray) (s0_1 : Int) (a1 : Int) (r1 : Int) (r2 : ByteArray) (r3 : Int) (w0 w : World) (hI : IsS141 w0 w g s0_0 s0_1) (hB : Below w0.heap.size w0 w) (h : octet_Reader_Groups.f k s0_0 s0_1 a1 = some (r1, r2, r3)) :
  Calls Tryz.prog 81 #[.pointer (some ⟨g, 0, none⟩), .int .i64 a1] w fun e w' => e = .returned (.int .i64 r1) ∧ IsS141 w0 w' g r2 r3 ∧ Below w0.heap.size w0 w' ∧ KeepBut w w' g none := by
 have HI := Aside0.mk hI
 have HB := Aside0.mk hB
 obtain ⟨HGz, hgz⟩ := hI
 have hc0 := cellS141_0 HGz
 have hc1 := cellS141_1 HGz
 clear HGz hgz hB
 unfold octet_Reader_Groups.f at h
 go_enter Tryz.func81, Tryz.ntmps81
 by_cases c : s0_1 = 0
 ·rw [if_pos c] at h
  have e1 : (s0_1 != 0) = false := bne_eq_false_iff_eq.mpr c
  clear c
  obtain ⟨⟨t1, t2, t3⟩, hA, h⟩ := Option.bind_eq_some_iff.mp h
  obtain ⟨⟨t4, t5⟩, hR, h⟩ := Option.bind_eq_some_iff.mp h
  simp only at h hR
  by_cases c2 : 0 ≤ t2
  ·rw [if_pos c2] at h
   by_cases c3 : t2 ≤ (t4.size : Int)
   ·rw [if_pos c3] at h
    simp only [Option.some.injEq, Prod.mk.injEq] at h
    obtain ⟨rfl, rfl, rfl⟩ := h
    have HA := Aside0.mk hA
    have HR := Aside0.mk hR
    have d2 := eq_true c2
    have d3 := eq_true c3
    clear hA hR c2 c3
    go_wp2_with fail
    refine (octet_groups.calls k s0_0 a1 t1 t2 t3 _ HA.out).mono ?_
    rintro e w1 ⟨rfl, ⟨nd, hw1⟩⟩
    have HI1 := Aside0.mk (show IsS141 w0 w1 g s0_0 s0_1 by rw [hw1]; exact IsS141.drewN HI.out nd)
    have HB1 := Aside0.mk (show Below w0.heap.size w0 w1 by rw [hw1]; exact pw_below_drewN HB.out nd)
    have HK1 := Aside0.mk (show KeepBut w w1 g none by rw [hw1]; exact keep_drewN (KeepBut.refl w g none) nd)
    clear hw1 hc0 hc1 HI HB
    go_wp2_with fail
    refine (octet_Reader_Refuse.calls g s0_0 s0_1 t3 t4 t5 w0 w1 HI1.out HB1.out HR.out).mono ?_
    rintro e w2 ⟨rfl, hi2, hb2, hk2⟩
    have HI2 := Aside0.mk hi2
    have HB2 := Aside0.mk hb2
    have HK2 := Aside0.mk (HK1.out.trans hk2 (.inl rfl))
    obtain ⟨HGz, hgz⟩ := hi2
    have hc0 := cellS141_0 HGz
    have hf0 := blk_frozen HGz 0
    clear HGz hgz hb2 hk2 HI1 HB1 HK1
    go_wp2
    go_ret
    exact ⟨rfl, IsS141.set_0 HI2.out _, below_set HB2.out (IsS141.ge HI2.out), KeepBut.set_ HK2.out _ _⟩
   ·rw [if_neg c3] at h
    exact absurd h (by simp)
  ·rw [if_neg c2] at h
   exact absurd h (by simp)
 ·rw [if_neg c] at h
  have e1 : (s0_1 != 0) = true := bne_iff_ne.mpr c
  clear c
  simp only [Option.some.injEq, Prod.mk.injEq] at h
  obtain ⟨rfl, rfl, rfl⟩ := h
  go_wp2
  go_ret
  exact ⟨rfl, HI.out, HB.out, KeepBut.refl w g none⟩
def strconv_Itoa.f (a0 : Int) : Option ByteArray :=
 if -9223372036854775808 ≤ a0 ∧ a0 ≤ 9223372036854775807 then some ⟨(Lib.itoa a0).toArray⟩ else none
theorem strconv_Itoa.calls (a0 : Int) (r : ByteArray) (w : World) (hG : Gl w) (h : strconv_Itoa.f a0 = some r) :
  Calls Tryz.prog 106 #[.int .i64 a0] w fun e w' => e = .returned (.string r) ∧ Below w.heap.size w w' := by
 unfold strconv_Itoa.f at h
 by_cases hc : -9223372036854775808 ≤ a0 ∧ a0 ≤ 9223372036854775807
 ·rw [if_pos hc] at h
  obtain rfl := Option.some.inj h
  refine (Tryz.strconv_Itoa a0 hc.1 hc.2 w hG.tab).mono ?_
  rintro e w' ⟨rfl, k, os, rfl⟩
  exact ⟨rfl, Lib.below_grow _ w (Nat.le_refl _) k os⟩
 ·rw [if_neg hc] at h
  exact absurd h (by simp)
def strings_Join.f (l0 : List ByteArray) (a1 : ByteArray) : Option ByteArray :=
 if l0.length ≤ 140737488355328 ∧ (Lib.join (l0.map (·.data.toList)) a1.data.toList).length ≤ 140737488355328 then some ⟨(Lib.join (l0.map (·.data.toList)) a1.data.toList).toArray⟩ else none
theorem strings_Join.calls (A0 : Option Addr) (c0 : Nat) (l0 : List ByteArray) (a1 : ByteArray) (r : ByteArray) (w : World) (hr0 : Kd.C Kd.string w A0 l0.length l0) (hc0 : l0.length ≤ c0) (h : strings_Join.f l0 a1 = some r) :
  Calls Tryz.prog 107 #[.slice A0 l0.length c0, .string a1] w fun e w' => e = .returned (.string r) ∧ Below w.heap.size w w' := by
 unfold strings_Join.f at h
 by_cases hc : l0.length ≤ 140737488355328 ∧ (Lib.join (l0.map (·.data.toList)) a1.data.toList).length ≤ 140737488355328
 ·rw [if_pos hc] at h
  obtain rfl := Option.some.inj h
  by_cases h0 : l0.length = 0
  ·obtain rfl := List.eq_nil_of_length_eq_zero h0
   refine (Tryz.strings_Join_none A0 c0 a1 w).mono ?_
   rintro e w' ⟨rfl, rfl⟩
   exact ⟨rfl, Below.refl _ _⟩
  ·obtain ⟨ad, rfl, hcell⟩ := hr0.2.2 (by omega)
   have hat : ∀ (j : Nat) x, l0[j]? = some x → w.cell? (ad.add j) = some (.string x) := by
    intro j x hj
    obtain ⟨cs, hl, hk, hq⟩ := hcell j x hj
    have e : cs = [.string x] := hk
    subst e
    have := hq 0 _ rfl
    have e1 : j * Kd.string.sz + 0 = j := Nat.mul_one j
    rw [e1] at this
    exact this
   have hsp : ad.spot = none := by
    obtain ⟨x, hx⟩ : ∃ x, l0[0]? = some x := ⟨_, List.getElem?_eq_getElem (by omega)⟩
    have := hat 0 x hx
    have e0 : ad.add 0 = ad := by unfold Addr.add; rfl
    rw [e0] at this
    unfold World.cell? at this
    split at this
    ·split at this
     ·cases this
     ·rename_i hs
      cases hh : ad.spot with
      | none => rfl
      | some _ => rw [hh] at hs; exact absurd rfl hs
    ·cases this
   obtain ⟨bk, o, sp⟩ := ad
   simp only at hsp
   subst hsp
   have hcs : ∀ (j : Nat) x, l0[j]? = some x → w.cell? ⟨bk, o + j, none⟩ = some (.string x) := by
    intro j x hj
    rw [← hat j x hj]
    congr 1
    unfold Addr.add
    split
    ·rename_i e; subst e; rfl
    ·rfl
   have hbk : bk < w.heap.size := by
    obtain ⟨x, hx⟩ : ∃ x, l0[0]? = some x := ⟨_, List.getElem?_eq_getElem (by omega)⟩
    exact World.block_lt_of_cell? w _ (hcs 0 x hx)
   refine (Tryz.strings_Join bk o c0 l0 a1 w hcs hbk hc.1 hc0 hc.2).mono ?_
   rintro e w' ⟨rfl, hb⟩
   exact ⟨rfl, hb⟩
 ·rw [if_neg hc] at h
  exact absurd h (by simp)
def oid_put.l0 : Nat → List ByteArray → List Int → Int → Int → Option (ByteArray)
 | 0, _, _, _, _ => none
 | k + 1, x3, x6, x7, x8 => if x8 < x7 then (if 0 ≤ x8 then (if x8 < (x6.length : Int) then ((strconv_Itoa.f (rd x6 x8)).bind fun t215 => (if x3.length < 8796093022208 then (oid_put.l0 k (x3 ++ [t215]) x6 x7 (wrap64 (x8 + 1))) else (none))) else (none)) else (none)) else ((strings_Join.f x3 (⟨#[46]⟩ : ByteArray)).bind fun t219 => (some t219))
def oid_put.f (k : Nat) (l0 : List Int) : Option (ByteArray) := oid_put.l0 k ([] : List ByteArray) l0 (l0.length : Int) 0
theorem oid_put.mono_l : ∀ k, (∀ y0 y1 y2 y3, LeO (oid_put.l0 k y0 y1 y2 y3) (oid_put.l0 (k + 1) y0 y1 y2 y3))
 | 0 => fun _ _ _ _ r h => by simp [oid_put.l0] at h
 | k + 1 => by
  have ih0 := oid_put.mono_l k
  ·intro y0 y1 y2 y3
   unfold oid_put.l0
   repeat' first
   | (with_reducible exact ih0 _ _ _ _)
   | (with_reducible exact LeO.refl _)
   | (with_reducible exact LeO.none _)
   | (with_reducible refine LeO.ite ?_ ?_)
   | (with_reducible refine LeO.bind ?_ (fun _ => ?_))
   | exact ih0 _ _ _ _
   | exact LeO.none _
   | refine LeO.ite ?_ ?_
   | refine LeO.bind ?_ (fun _ => ?_)
theorem oid_put.mono : ∀ a0 k, LeO (oid_put.f k a0) (oid_put.f (k + 1) a0) := by
 intro a0 k
 have ih0 := oid_put.mono_l k
 unfold oid_put.f
 repeat' first
   | (with_reducible exact ih0 _ _ _ _)
   | (with_reducible exact LeO.refl _)
   | (with_reducible exact LeO.none _)
   | (with_reducible refine LeO.ite ?_ ?_)
   | (with_reducible refine LeO.bind ?_ (fun _ => ?_))
   | exact ih0 _ _ _ _
   | exact LeO.none _
   | refine LeO.ite ?_ ?_
   | refine LeO.bind ?_ (fun _ => ?_)
set_option maxHeartbeats 8000000 in
set_option maxRecDepth 100000 in
theorem oid_put.calls (k : Nat) (A0 : Option Addr) (c0 : Nat) (l0 : List Int) (r : ByteArray) (w : World) (hG : Gl w) (hr0 : Kd.C (Kd.int .i64) w A0 l0.length l0) (hc0 : l0.length ≤ c0) (h : oid_put.f k l0 = some r) :
  Calls Tryz.prog 84 #[.slice A0 l0.length c0] w fun e w' => e = .returned (.string r) ∧ Below w.heap.size w w' := by
 have HGl := Aside0.mk hG
 clear hG
 have HR0 := Aside0.mk hr0
 have HC0 := Aside0.mk hc0
 clear hr0 hc0
 have HB := Aside0.mk (Below.refl w.heap.size w)
 have H : (oid_put.l0 k ([] : List ByteArray) l0 (l0.length : Int) 0) = some r := h
 clear h
 have H' := Aside0.mk H
 clear H
 go_enter Tryz.func84, Tryz.ntmps84
 go_wp2
 go_loopg [3, 8] k (fun kq v3 v8 w' => ∃ (x3_1 : List ByteArray) (x8_1 : Int), v8 = .int .i64 x8_1 ∧ Aside0 (oid_put.l0 kq x3_1 l0 (l0.length : Int) x8_1 = some r) ∧ Aside0 (kq ≤ k) ∧ Aside0 (Kd.R Kd.string 9 w' w.heap.size (fun _ => True) v3 x3_1) ∧ Aside0 (Below w.heap.size w w'))
 case atStart => exact ⟨(([] : List ByteArray)), (0), Zq11, H', ⟨Nat.le_refl _⟩, ⟨Zy35⟩, ⟨Zy40⟩⟩
 case round =>
  clear H'
  obtain ⟨x3_1, x8_1, rfl, HA, HK1, HO_3, HB⟩ := hrel
  cases gk with
  | zero => exact absurd HA.out (by simp [oid_put.l0])
  | succ k1 =>
   have H := HA.out
   clear HA
   simp only [oid_put.l0] at H
   by_cases c2 : x8_1 < (l0.length : Int)
   ·rw [if_pos c2] at H
    have c2b0 : decide (x8_1 < (l0.length : Int)) = true := decide_eq_true c2
    clear c2
    by_cases c3 : 0 ≤ x8_1
    ·rw [if_pos c3] at H
     have c3b0 : decide (0 ≤ x8_1) = true := decide_eq_true c3
     clear c3
     by_cases c4 : x8_1 < (l0.length : Int)
     ·rw [if_pos c4] at H
      have c4b0 : decide (x8_1 < (l0.length : Int)) = true := decide_eq_true c4
      clear c4
      replace H := Option.bind_eq_some_iff.mp H
      obtain ⟨t215, A50, H⟩ := H
      replace H : (if x3_1.length < 8796093022208 then (oid_put.l0 k1 (x3_1 ++ [t215]) l0 (l0.length : Int) (wrap64 (x8_1 + 1))) else (none)) = some r := H
      have A5 := Aside0.mk A50
      clear A50
      by_cases c6 : x3_1.length < 8796093022208
      ·rw [if_pos c6] at H
       have LMc6 := Aside0.mk c6
       clear c6
       obtain ⟨y216, hy216⟩ : ∃ y_ : List ByteArray, y_ = (x3_1 ++ [t215]) := ⟨_, rfl⟩
       replace H : (oid_put.l0 k1 y216 l0 (l0.length : Int) (wrap64 (x8_1 + 1))) = some r := by first | (rw [hy216]; with_reducible exact H) | (have H2_ := (Option.bind_some _ _).symm.trans H; rw [hy216]; with_reducible exact H2_) | (have H2_ := (Option.bind_some _ _).symm.trans H; with_reducible exact H2_) | with_reducible exact H | (rw [hy216]; exact H) | exact H
       have Ny216 := Aside0.mk hy216
       clear hy216
       have H' := Aside0.mk H
       clear H
       have p214 : 0 ≤ (x8_1 : Int) := of_decide_eq_true Zq1
       have q214 : x8_1 < (l0.length : Int) := of_decide_eq_true Zq1
       obtain ⟨ad214, e214, hx214_0⟩ := Kd.at_int HR0.out x8_1 p214 q214
       cases e214
       replace hx214_0 := (HB.out.cell (World.block_lt_of_cell? w _ hx214_0)).trans hx214_0
       replace p214 := eq_true p214
       replace q214 := eq_true q214
       go_wp2_with (first | ((with_reducible refine gate_callee (f := 106) rfl ?_); refine goesL_ (some 14) rfl rfl Tryz.func106 (by kernel_rfl) rfl #[.int .i64 (rd l0 x8_1)] rfl Zq13 ?_; (with_reducible refine (strconv_Itoa.calls (rd l0 x8_1) t215 _ ?side1 A5.out).mono ?_); (case side1 => exact Zq56); rintro e w7 ⟨rfl, hb⟩; refine ⟨_, rfl, ?_⟩; replace HO_3 := Aside0.mk (Kd.R_below Zq5 hb); replace HB := Aside0.mk (below_step Zq12 hb); (try clear hb); (try clear hb2); (try clear hk); (try clear hi)) | ((with_reducible refine gate_builtin (b := .append) (xs := #[.tmp 12, .tmp 15]) rfl ?_); at_builtin; refine Kd.R_append Kd.string (w0 := w) w.heap.size rfl (.tmp 12) (.tmp 15) 118 9 (.string ⟨#[]⟩) 16 rfl Tryz.underlying118 info9 rfl (by decide) (by omega) u3 x3_1 t215 [.string t215] (fun _ => True) (fun _ => False) rfl rfl ?aP (fun _ hk => hk.elim) ?aF ?aO ?aB ?aS ?aL ?_; (case aP => exact rfl); (case aB => exact Zq12); (case aF => exact (fun _ _ => trivial)); (case aO => exact Zq5); (case aS => exact (below_size Zq12)); (case aL => have := LMc6.out; omega); intro v217 w8 ho hb hg hat; rw [← Ny216.out] at ho; have n0_ := Aside0.mk (hb); have n1_ := Aside0.mk (ho); clear HB; clear HO_3; have HB := n0_; have HO218 := n1_; clear n0_ n1_; clear ho hb hg hat))
       go_roundg k1
       case measure => have := HK1.out; omega
       case rel => exact ⟨(y216), (wrap64 (x8_1 + 1)), Zq11, H', ⟨by have := HK1.out; omega⟩, ⟨by (with_reducible repeat (first | apply Kd.R_alloc | apply Kd.R_drewN | apply Kd.R_drew)); exact HO218.out⟩, ⟨Zy40⟩⟩
      ·rw [if_neg c6] at H
       exact absurd H (by simp)
     ·rw [if_neg c4] at H
      exact absurd H (by simp)
    ·rw [if_neg c3] at H
     exact absurd H (by simp)
   ·rw [if_neg c2] at H
    have c2b0 : decide (x8_1 < (l0.length : Int)) = false := decide_eq_false c2
    clear c2
    replace H := Option.bind_eq_some_iff.mp H
    obtain ⟨t219, A90, H⟩ := H
    replace H : (some t219) = some r := H
    have A9 := Aside0.mk A90
    clear A90
    obtain rfl := Option.some.inj H
    obtain ⟨Ao10, co10, eo10⟩ := Kd.R_slice HO_3.out
    subst eo10
    go_wp2_with (first | ((with_reducible refine gate_callee (f := 107) rfl ?_); refine goesL_ (some 19) rfl rfl Tryz.func107 (by kernel_rfl) rfl #[.slice Ao10 x3_1.length co10, .string (⟨#[46]⟩ : ByteArray)] rfl Zq13 ?_; (with_reducible refine (strings_Join.calls _ _ x3_1 (⟨#[46]⟩ : ByteArray) t219 _ ?side1 ?side2 A9.out).mono ?_); (case side1 => repeat (first | exact (Kd.R_reads' HO_3.out).2.2 | (with_reducible refine Kd.C_alloc ?_ _) | (with_reducible refine Kd.C_drewN ?_ _) | (with_reducible refine Kd.C_drew ?_))); (case side2 => exact (Kd.R_reads' HO_3.out).2.1); rintro e w11 ⟨rfl, hb⟩; refine ⟨_, rfl, ?_⟩; replace HO_3 := Aside0.mk (Kd.R_below Zq5 hb); replace HB := Aside0.mk (below_step Zq12 hb); (try clear hb); (try clear hb2); (try clear hk); (try clear hi)))
    go_ret
    exact ⟨Zy41, Zy40⟩
mutual
def oid_Decode.j1 : Nat → List Int → ByteArray → Int → Option (ByteArray × Int)
 | 0, _, _, _ => none
 | k + 1, x7, x223000, x223001 => (octet_Reader_Code.f x223000 x223001).bind fun bt241 => (if bt241.1 = 0 then ((oid_is.f k x7).bind fun t244 => (if t244 = true then ((oid_put.f k x7).bind fun t245 => (some (t245, 0))) else (some ((⟨#[]⟩ : ByteArray), 60)))) else (some ((⟨#[]⟩ : ByteArray), 60)))
def oid_Decode.l0 : Nat → List Int → ByteArray → Int → Option (ByteArray × Int)
 | 0, _, _, _ => none
 | k + 1, x7, x223000, x223001 => (octet_Reader_Code.f x223000 x223001).bind fun bt229 => (if bt229.1 = 0 then ((octet_Reader_Left.f bt229.2.1 bt229.2.2).bind fun bt232 => (if bt232.1 > 0 then (if (x7.length : Int) ≤ 128 then ((octet_Reader_Groups.f k bt232.2.1 bt232.2.2 4294967295).bind fun bt235 => (if x7.length < 17592186044416 then (oid_Decode.l0 k (x7 ++ [bt235.1]) bt235.2.1 bt235.2.2) else (none))) else (oid_Decode.j1 k x7 bt232.2.1 bt232.2.2)) else (oid_Decode.j1 k x7 bt232.2.1 bt232.2.2))) else (oid_Decode.j1 k x7 bt229.2.1 bt229.2.2))
end
def oid_Decode.f (k : Nat) (a0 : ByteArray) : Option (ByteArray × Int) := (octet_Read.f a0).bind fun bt220 => ((octet_Reader_Groups.f k bt220.1 bt220.2 4294967295).bind fun bt223 => (oid_Decode.l0 k (([mn (wrap64 (Int.tdiv bt223.1 40)) 2, wrap64 (bt223.1 - (wrap64 (40 * (mn (wrap64 (Int.tdiv bt223.1 40)) 2))))] : List Int)) bt223.2.1 bt223.2.2))
theorem oid_Decode.mono_l : ∀ k, (∀ y0 y1 y2, LeO (oid_Decode.j1 k y0 y1 y2) (oid_Decode.j1 (k + 1) y0 y1 y2)) ∧ (∀ y0 y1 y2, LeO (oid_Decode.l0 k y0 y1 y2) (oid_Decode.l0 (k + 1) y0 y1 y2))
 | 0 => ⟨fun _ _ _ r h => by simp [oid_Decode.j1] at h, fun _ _ _ r h => by simp [oid_Decode.l0] at h⟩
 | k + 1 => by
  obtain ⟨ih0, ih1⟩ := oid_Decode.mono_l k
  refine ⟨?_, ?_⟩
  ·intro y0 y1 y2
   unfold oid_Decode.j1
   repeat' first
   | (with_reducible exact ih0 _ _ _)
   | (with_reducible exact ih1 _ _ _)
   | (with_reducible exact octet_Reader_Groups.mono _ _ _ _)
   | (with_reducible exact oid_is.mono _ _)
   | (with_reducible exact oid_put.mono _ _)
   | (with_reducible exact LeO.refl _)
   | (with_reducible exact LeO.none _)
   | (with_reducible refine LeO.ite ?_ ?_)
   | (with_reducible refine LeO.bind ?_ (fun _ => ?_))
   | exact ih0 _ _ _
   | exact ih1 _ _ _
   | exact octet_Reader_Groups.mono _ _ _ _
   | exact oid_is.mono _ _
   | exact oid_put.mono _ _
   | exact LeO.none _
   | refine LeO.ite ?_ ?_
   | refine LeO.bind ?_ (fun _ => ?_)
  ·intro y0 y1 y2
   unfold oid_Decode.l0
   repeat' first
   | (with_reducible exact ih0 _ _ _)
   | (with_reducible exact ih1 _ _ _)
   | (with_reducible exact octet_Reader_Groups.mono _ _ _ _)
   | (with_reducible exact oid_is.mono _ _)
   | (with_reducible exact oid_put.mono _ _)
   | (with_reducible exact LeO.refl _)
   | (with_reducible exact LeO.none _)
   | (with_reducible refine LeO.ite ?_ ?_)
   | (with_reducible refine LeO.bind ?_ (fun _ => ?_))
   | exact ih0 _ _ _
   | exact ih1 _ _ _
   | exact octet_Reader_Groups.mono _ _ _ _
   | exact oid_is.mono _ _
   | exact oid_put.mono _ _
   | exact LeO.none _
   | refine LeO.ite ?_ ?_
   | refine LeO.bind ?_ (fun _ => ?_)
theorem oid_Decode.mono : ∀ a0 k, LeO (oid_Decode.f k a0) (oid_Decode.f (k + 1) a0) := by
 intro a0 k
 obtain ⟨ih0, ih1⟩ := oid_Decode.mono_l k
 unfold oid_Decode.f
 repeat' first
   | (with_reducible exact ih0 _ _ _)
   | (with_reducible exact ih1 _ _ _)
   | (with_reducible exact octet_Reader_Groups.mono _ _ _ _)
   | (with_reducible exact oid_is.mono _ _)
   | (with_reducible exact oid_put.mono _ _)
   | (with_reducible exact LeO.refl _)
   | (with_reducible exact LeO.none _)
   | (with_reducible refine LeO.ite ?_ ?_)
   | (with_reducible refine LeO.bind ?_ (fun _ => ?_))
   | exact ih0 _ _ _
   | exact ih1 _ _ _
   | exact octet_Reader_Groups.mono _ _ _ _
   | exact oid_is.mono _ _
   | exact oid_put.mono _ _
   | exact LeO.none _
   | refine LeO.ite ?_ ?_
   | refine LeO.bind ?_ (fun _ => ?_)
set_option maxHeartbeats 8000000 in
set_option maxRecDepth 100000 in
theorem oid_Decode.calls (k : Nat) (a0 : ByteArray) (r1 : ByteArray) (r2 : Int) (w : World) (hG : Gl w) (h : oid_Decode.f k a0 = some (r1, r2)) :
  Calls Tryz.prog 56 #[.string a0] w fun e w' => e = .returned (.tuple #[.string r1, .int .i64 r2]) ∧ Below w.heap.size w w' := by
 have HGl := Aside0.mk hG
 clear hG
 have HB := Aside0.mk (Below.refl w.heap.size w)
 have H : ((octet_Read.f a0).bind fun bt220 => ((octet_Reader_Groups.f k bt220.1 bt220.2 4294967295).bind fun bt223 => (oid_Decode.l0 k (([mn (wrap64 (Int.tdiv bt223.1 40)) 2, wrap64 (bt223.1 - (wrap64 (40 * (mn (wrap64 (Int.tdiv bt223.1 40)) 2))))] : List Int)) bt223.2.1 bt223.2.2))) = some (r1, r2) := h
 clear h
 replace H := Option.bind_eq_some_iff.mp H
 obtain ⟨⟨t220, t221⟩, A20, H⟩ := H
 replace H : ((octet_Reader_Groups.f k t220 t221 4294967295).bind fun bt223 => (oid_Decode.l0 k (([mn (wrap64 (Int.tdiv bt223.1 40)) 2, wrap64 (bt223.1 - (wrap64 (40 * (mn (wrap64 (Int.tdiv bt223.1 40)) 2))))] : List Int)) bt223.2.1 bt223.2.2)) = some (r1, r2) := H
 have A2 := Aside0.mk A20
 clear A20
 replace H := Option.bind_eq_some_iff.mp H
 obtain ⟨⟨t223, t224, t225⟩, A30, H⟩ := H
 replace H : (oid_Decode.l0 k (([mn (wrap64 (Int.tdiv t223 40)) 2, wrap64 (t223 - (wrap64 (40 * (mn (wrap64 (Int.tdiv t223 40)) 2))))] : List Int)) t224 t225) = some (r1, r2) := H
 have A3 := Aside0.mk A30
 clear A30
 obtain ⟨ji4, hji4⟩ : ∃ j_ : Int, (mn (wrap64 (Int.tdiv t223 40)) 2) = j_ := ⟨_, rfl⟩
 replace H : (oid_Decode.l0 k (([ji4, wrap64 (t223 - (wrap64 (40 * (ji4))))] : List Int)) t224 t225) = some (r1, r2) := by first | (rw [hji4] at H; exact H) | (simp only [hji4] at H ⊢; exact H)
 (try rw [hji4] at A2)
 (try rw [hji4] at A3)
 (try (have hji4h : ji4 ≤ 2 := by (rw [← hji4]; unfold mn; (repeat' split) <;> omega)))
 (try (have hji4g : ji4 ≤ 64 := by omega))
 have hji4_ : (if 2 < (wrap64 (Int.tdiv t223 40)) then 2 else (wrap64 (Int.tdiv t223 40))) = ji4 := hji4
 obtain ⟨y226, hy226⟩ : ∃ y_ : List Int, y_ = (([ji4, wrap64 (t223 - (wrap64 (40 * (ji4))))] : List Int)) := ⟨_, rfl⟩
 replace H : (oid_Decode.l0 k y226 t224 t225) = some (r1, r2) := by first | (rw [hy226]; with_reducible exact H) | (have H2_ := (Option.bind_some _ _).symm.trans H; rw [hy226]; with_reducible exact H2_) | (have H2_ := (Option.bind_some _ _).symm.trans H; with_reducible exact H2_) | with_reducible exact H | (rw [hy226]; exact H) | exact H
 have Ny226 := Aside0.mk hy226
 clear hy226
 have HC5 := Aside0.mk H
 clear H
 go_enter Tryz.func56, Tryz.ntmps56
 go_upto_block 0 with (first | ((with_reducible refine gate_callee (f := 80) rfl ?_); refine goesL_ (some 9) rfl rfl Tryz.func80 (by kernel_rfl) rfl #[.string a0] rfl Zq13 ?_; (with_reducible refine (octet_Read.calls a0 t220 t221 w _ ?side1 A2.out).mono ?_); (case side1 => exact Zq12); rintro e w6 ⟨g222, rfl, hi, hb, hb2⟩; refine ⟨_, rfl, ?_⟩; have HI222 := Aside0.mk (hi); replace HB := Aside0.mk (hb); (try clear hb); (try clear hb2); (try clear hk); (try clear hi)) | ((with_reducible refine gate_callee (f := 81) rfl ?_); refine goesL_ (some 11) rfl rfl Tryz.func81 (by kernel_rfl) rfl #[.pointer (some ⟨g222, 0, none⟩), .int .i64 4294967295] rfl Zq13 ?_; (with_reducible refine (octet_Reader_Groups.calls k g222 t220 t221 4294967295 t223 t224 t225 w _ ?side1 ?side2 A3.out).mono ?_); (case side1 => exact Zq28); (case side2 => exact Zq27); rintro e w7 ⟨rfl, hi, hb, hk⟩; refine ⟨_, rfl, ?_⟩; replace HI222 := Aside0.mk (hi); replace HB := Aside0.mk (hb); (try clear hb); (try clear hb2); (try clear hk); (try clear hi)) | ((with_reducible refine gate_dst (N := 20) rfl ?_); (try (refine gate_guard (by rfl) ?_; dsimp only)); refine Kd.R_lit (Kd.int .i64) _ 3 ?hg (N := 20) ?hd (xs := ([ji4, wrap64 (t223 - (wrap64 (40 * (ji4))))] : List Int)) (inner := [.int .i64 ji4, .int .i64 (wrap64 (t223 - (wrap64 (40 * (ji4)))))]) (ok := fun _ => True) (okp := fun _ => True) ?hr ?hp (fun _ hk => hk) trivial (Below.refl _ _) (Nat.le_refl _) (by simp) ?_; (case hd => rfl); (case hg => rfl); (case hr => exact Zq2); (case hp => exact (Reps.one (show Kd.M (Kd.int .i64) _ _ _ ji4 [.int .i64 ji4] from rfl) (Reps.one (show Kd.M (Kd.int .i64) _ _ _ (wrap64 (t223 - (wrap64 (40 * (ji4))))) [.int .i64 (wrap64 (t223 - (wrap64 (40 * (ji4)))))] from rfl) (Reps.none _ _)))); intro v227 w8 ho9 hb hg_ hnew_; clear hg_ hnew_; (first | rw [← Ny226.out] at ho9 | (simp only [Int.reduceToNat] at ho9; rw [← Ny226.out] at ho9)); have HO228 := Aside0.mk (Kd.R_lower ho9 (below_size Zq27)); replace HI222 := Aside0.mk (IsS141.below Zq28 hb); replace HB := Aside0.mk (below_step Zq27 hb); clear hb ho9))
 (try simp only [Act.put, List.setIfInBounds_toArray, List.set_cons_zero, List.set_cons_succ])
 go_cut [7] (fun v7 wc => ∃ (kq : Nat) (x7_4 : List Int) (x223000_4 : ByteArray) (x223001_4 : Int), Aside0 (oid_Decode.j1 kq x7_4 x223000_4 x223001_4 = some (r1, r2)) ∧ Aside0 (kq ≤ k) ∧ Aside0 (Kd.R (Kd.int .i64) 3 wc w.heap.size (fun _ => True) v7 x7_4) ∧ Aside0 (IsS141 w wc g222 x223000_4 x223001_4) ∧ Aside0 (Below w.heap.size w wc))
 case first =>
  have H := HC5.out
  clear HC5
  have H' := Aside0.mk H
  clear H
  go_wp2
  go_loopg [7] k (fun kq v7 w' => ∃ (x7_1 : List Int) (x223000_1 : ByteArray) (x223001_1 : Int), Aside0 (oid_Decode.l0 kq x7_1 x223000_1 x223001_1 = some (r1, r2)) ∧ Aside0 (kq ≤ k) ∧ Aside0 (Kd.R (Kd.int .i64) 3 w' w.heap.size (fun _ => True) v7 x7_1) ∧ Aside0 (IsS141 w w' g222 x223000_1 x223001_1) ∧ Aside0 (Below w.heap.size w w'))
  case atStart => exact ⟨(y226), (t224), (t225), H', ⟨Nat.le_refl _⟩, ⟨by (with_reducible repeat (first | apply Kd.R_alloc | apply Kd.R_drewN | apply Kd.R_drew)); exact HO228.out⟩, ⟨Zy15⟩, ⟨Zy17⟩⟩
  case round =>
   clear H'
   (try clear p2); (try clear c5); (try clear p6); (try clear c8)
   obtain ⟨x7_1, x223000_1, x223001_1, HA, HK1, HO_7, HI222, HB⟩ := hrel
   cases gk with
   | zero => exact absurd HA.out (by simp [oid_Decode.l0])
   | succ k1 =>
    have H := HA.out
    clear HA
    simp only [oid_Decode.l0] at H
    replace H := Option.bind_eq_some_iff.mp H
    obtain ⟨⟨t229, t230, t231⟩, A100, H⟩ := H
    replace H : (if t229 = 0 then ((octet_Reader_Left.f t230 t231).bind fun bt232 => (if bt232.1 > 0 then (if (x7_1.length : Int) ≤ 128 then ((octet_Reader_Groups.f k1 bt232.2.1 bt232.2.2 4294967295).bind fun bt235 => (if x7_1.length < 17592186044416 then (oid_Decode.l0 k1 (x7_1 ++ [bt235.1]) bt235.2.1 bt235.2.2) else (none))) else (oid_Decode.j1 k1 x7_1 bt232.2.1 bt232.2.2)) else (oid_Decode.j1 k1 x7_1 bt232.2.1 bt232.2.2))) else (oid_Decode.j1 k1 x7_1 t230 t231)) = some (r1, r2) := H
    have A10 := Aside0.mk A100
    clear A100
    by_cases c11 : t229 = 0
    ·rw [if_pos c11] at H
     have c11b0 : (t229 == 0) = true := beq_iff_eq.mpr c11
     have c11b1 : (t229 != 0) = false := bne_eq_false_iff_eq.mpr c11
     clear c11
     (first | rw [c11b0] | (simp only [i64_w, i32_w]; rw [c11b0]) | skip)
     replace H := Option.bind_eq_some_iff.mp H
     obtain ⟨⟨t232, t233, t234⟩, A120, H⟩ := H
     replace H : (if t232 > 0 then (if (x7_1.length : Int) ≤ 128 then ((octet_Reader_Groups.f k1 t233 t234 4294967295).bind fun bt235 => (if x7_1.length < 17592186044416 then (oid_Decode.l0 k1 (x7_1 ++ [bt235.1]) bt235.2.1 bt235.2.2) else (none))) else (oid_Decode.j1 k1 x7_1 t233 t234)) else (oid_Decode.j1 k1 x7_1 t233 t234)) = some (r1, r2) := H
     have A12 := Aside0.mk A120
     clear A120
     by_cases c13 : t232 > 0
     ·rw [if_pos c13] at H
      have c13b0 : decide (0 < t232) = true := decide_eq_true c13
      clear c13
      by_cases c14 : (x7_1.length : Int) ≤ 128
      ·rw [if_pos c14] at H
       have c14b0 : decide ((x7_1.length : Int) ≤ 128) = true := decide_eq_true c14
       have c14b1 : decide (x7_1.length ≤ 128) = true := decide_eq_true (by omega)
       clear c14
       replace H := Option.bind_eq_some_iff.mp H
       obtain ⟨⟨t235, t236, t237⟩, A150, H⟩ := H
       replace H : (if x7_1.length < 17592186044416 then (oid_Decode.l0 k1 (x7_1 ++ [t235]) t236 t237) else (none)) = some (r1, r2) := H
       have A15 := Aside0.mk A150
       clear A150
       by_cases c16 : x7_1.length < 17592186044416
       ·rw [if_pos c16] at H
        have LMc16 := Aside0.mk c16
        clear c16
        obtain ⟨y238, hy238⟩ : ∃ y_ : List Int, y_ = (x7_1 ++ [t235]) := ⟨_, rfl⟩
        replace H : (oid_Decode.l0 k1 y238 t236 t237) = some (r1, r2) := by first | (rw [hy238]; with_reducible exact H) | (have H2_ := (Option.bind_some _ _).symm.trans H; rw [hy238]; with_reducible exact H2_) | (have H2_ := (Option.bind_some _ _).symm.trans H; with_reducible exact H2_) | with_reducible exact H | (rw [hy238]; exact H) | exact H
        have Ny238 := Aside0.mk hy238
        clear hy238
        have H' := Aside0.mk H
        clear H
        go_wp2_with (first | ((with_reducible refine gate_callee (f := 82) rfl ?_); refine goesL_ (some 22) rfl rfl Tryz.func82 (by kernel_rfl) rfl #[.pointer (some ⟨g222, 0, none⟩)] rfl Zq13 ?_; (with_reducible refine (octet_Reader_Code.calls g222 x223000_1 x223001_1 t229 t230 t231 w _ ?side1 ?side2 A10.out).mono ?_); (case side1 => exact Zq28); (case side2 => exact Zq27); rintro e w17 ⟨rfl, hi, hb, hk⟩; refine ⟨_, rfl, ?_⟩; replace HO_7 := Aside0.mk (Kd.R_mono (Kd.R_keep (IsS141.apart (show IsS141 w _ g222 x223000_1 x223001_1 from by repeat (first | (with_reducible first | exact HI222.out | apply IsS141.alloc | apply IsS141.drewN | apply IsS141.drew | apply IsS141.set_0 | apply IsS141.set_1) | exact HI222.out)) Zq7 (by decide)) hk (fun _ h => h.2)) (fun _ h => h.1)); replace HI222 := Aside0.mk (hi); replace HB := Aside0.mk (hb); (try clear hb); (try clear hb2); (try clear hk); (try clear hi)) | (go_at_call 83; (with_reducible refine (octet_Reader_Left.calls g222 t230 t231 t232 t233 t234 w _ ?side1 ?side2 A12.out).mono ?_); (case side1 => exact Zq28); (case side2 => exact Zq27); rintro e w18 ⟨rfl, hi, hb, hk⟩; replace HO_7 := Aside0.mk (Kd.R_mono (Kd.R_keep (IsS141.apart (show IsS141 w _ g222 t230 t231 from by repeat (first | (with_reducible first | exact HI222.out | apply IsS141.alloc | apply IsS141.drewN | apply IsS141.drew | apply IsS141.set_0 | apply IsS141.set_1) | exact HI222.out)) Zq7 (by decide)) hk (fun _ h => h.2)) (fun _ h => h.1)); replace HI222 := Aside0.mk (hi); replace HB := Aside0.mk (hb); (try clear hb); (try clear hb2); (try clear hk); (try clear hi); obtain ⟨Ao19, co19, eo19⟩ := Kd.R_slice HO_7.out; subst eo19) | ((with_reducible refine gate_callee (f := 81) rfl ?_); refine goesL_ (some 36) rfl rfl Tryz.func81 (by kernel_rfl) rfl #[.pointer (some ⟨g222, 0, none⟩), .int .i64 4294967295] rfl Zq13 ?_; (with_reducible refine (octet_Reader_Groups.calls k1 g222 t233 t234 4294967295 t235 t236 t237 w _ ?side1 ?side2 A15.out).mono ?_); (case side1 => exact Zq28); (case side2 => exact Zq27); rintro e w20 ⟨rfl, hi, hb, hk⟩; refine ⟨_, rfl, ?_⟩; replace HO_7 := Aside0.mk (Kd.R_mono (Kd.R_keep (IsS141.apart (show IsS141 w _ g222 t233 t234 from by repeat (first | (with_reducible first | exact HI222.out | apply IsS141.alloc | apply IsS141.drewN | apply IsS141.drew | apply IsS141.set_0 | apply IsS141.set_1) | exact HI222.out)) Zq7 (by decide)) hk (fun _ h => h.2)) (fun _ h => h.1)); replace HI222 := Aside0.mk (hi); replace HB := Aside0.mk (hb); (try clear hb); (try clear hb2); (try clear hk); (try clear hi)) | ((with_reducible refine gate_builtin (b := .append) (xs := #[.tmp 34, .tmp 37]) rfl ?_); (try (refine gate_guard (by rfl) ?_; dsimp only)); at_builtin; refine Kd.R_append (Kd.int .i64) (w0 := w) w.heap.size rfl (.tmp 34) (.tmp 37) 89 3 (.int .i64 0) 8 rfl Tryz.underlying89 info3 rfl (by decide) (by omega) (.slice Ao19 x7_1.length co19) x7_1 t235 [.int .i64 t235] (fun _ => True) (fun _ => False) rfl rfl ?aP (fun _ hk => hk.elim) ?aF ?aO ?aB ?aS ?aL ?_; (case aP => exact rfl); (case aB => exact Zq27); (case aF => exact (fun _ _ => trivial)); (case aO => exact Zq7); (case aS => exact (below_size Zq27)); (case aL => have := LMc16.out; omega); intro v239 w21 ho hb hg hat; rw [← Ny238.out] at ho; have n0_ := Aside0.mk (IsS141.grown Zq28 hg (IsS141.own_ne HI222.out HO_7.out (by decide))); have n1_ := Aside0.mk (hb); have n2_ := Aside0.mk (ho); clear HI222; clear HB; clear HO_7; have HI222 := n0_; have HB := n1_; have HO240 := n2_; clear n0_ n1_ n2_; clear ho hb hg hat))
        go_roundg k1
        case measure => have := HK1.out; omega
        case rel => exact ⟨(y238), (t236), (t237), H', ⟨by have := HK1.out; omega⟩, ⟨by (with_reducible repeat (first | apply Kd.R_alloc | apply Kd.R_drewN | apply Kd.R_drew)); exact HO240.out⟩, ⟨Zy15⟩, ⟨Zy17⟩⟩
       ·rw [if_neg c16] at H
        exact absurd H (by simp)
      ·rw [if_neg c14] at H
       have c14b0 : decide ((x7_1.length : Int) ≤ 128) = false := decide_eq_false c14
       have c14b1 : decide (x7_1.length ≤ 128) = false := decide_eq_false (by omega)
       clear c14
       have H' := Aside0.mk H
       clear H
       go_wp2_with (first | ((with_reducible refine gate_callee (f := 82) rfl ?_); refine goesL_ (some 22) rfl rfl Tryz.func82 (by kernel_rfl) rfl #[.pointer (some ⟨g222, 0, none⟩)] rfl Zq13 ?_; (with_reducible refine (octet_Reader_Code.calls g222 x223000_1 x223001_1 t229 t230 t231 w _ ?side1 ?side2 A10.out).mono ?_); (case side1 => exact Zq28); (case side2 => exact Zq27); rintro e w22 ⟨rfl, hi, hb, hk⟩; refine ⟨_, rfl, ?_⟩; replace HO_7 := Aside0.mk (Kd.R_mono (Kd.R_keep (IsS141.apart (show IsS141 w _ g222 x223000_1 x223001_1 from by repeat (first | (with_reducible first | exact HI222.out | apply IsS141.alloc | apply IsS141.drewN | apply IsS141.drew | apply IsS141.set_0 | apply IsS141.set_1) | exact HI222.out)) Zq7 (by decide)) hk (fun _ h => h.2)) (fun _ h => h.1)); replace HI222 := Aside0.mk (hi); replace HB := Aside0.mk (hb); (try clear hb); (try clear hb2); (try clear hk); (try clear hi)) | (go_at_call 83; (with_reducible refine (octet_Reader_Left.calls g222 t230 t231 t232 t233 t234 w _ ?side1 ?side2 A12.out).mono ?_); (case side1 => exact Zq28); (case side2 => exact Zq27); rintro e w23 ⟨rfl, hi, hb, hk⟩; replace HO_7 := Aside0.mk (Kd.R_mono (Kd.R_keep (IsS141.apart (show IsS141 w _ g222 t230 t231 from by repeat (first | (with_reducible first | exact HI222.out | apply IsS141.alloc | apply IsS141.drewN | apply IsS141.drew | apply IsS141.set_0 | apply IsS141.set_1) | exact HI222.out)) Zq7 (by decide)) hk (fun _ h => h.2)) (fun _ h => h.1)); replace HI222 := Aside0.mk (hi); replace HB := Aside0.mk (hb); (try clear hb); (try clear hb2); (try clear hk); (try clear hi); obtain ⟨Ao24, co24, eo24⟩ := Kd.R_slice HO_7.out; subst eo24))
       go_meet
       case rel => exact ⟨_, (x7_1), (t233), (t234), H', ⟨Zy57⟩, ⟨Zy52⟩, ⟨Zy15⟩, ⟨Zy17⟩⟩
     ·rw [if_neg c13] at H
      have c13b0 : decide (0 < t232) = false := decide_eq_false c13
      clear c13
      have H' := Aside0.mk H
      clear H
      go_wp2_with (first | ((with_reducible refine gate_callee (f := 82) rfl ?_); refine goesL_ (some 22) rfl rfl Tryz.func82 (by kernel_rfl) rfl #[.pointer (some ⟨g222, 0, none⟩)] rfl Zq13 ?_; (with_reducible refine (octet_Reader_Code.calls g222 x223000_1 x223001_1 t229 t230 t231 w _ ?side1 ?side2 A10.out).mono ?_); (case side1 => exact Zq28); (case side2 => exact Zq27); rintro e w25 ⟨rfl, hi, hb, hk⟩; refine ⟨_, rfl, ?_⟩; replace HO_7 := Aside0.mk (Kd.R_mono (Kd.R_keep (IsS141.apart (show IsS141 w _ g222 x223000_1 x223001_1 from by repeat (first | (with_reducible first | exact HI222.out | apply IsS141.alloc | apply IsS141.drewN | apply IsS141.drew | apply IsS141.set_0 | apply IsS141.set_1) | exact HI222.out)) Zq7 (by decide)) hk (fun _ h => h.2)) (fun _ h => h.1)); replace HI222 := Aside0.mk (hi); replace HB := Aside0.mk (hb); (try clear hb); (try clear hb2); (try clear hk); (try clear hi)) | (go_at_call 83; (with_reducible refine (octet_Reader_Left.calls g222 t230 t231 t232 t233 t234 w _ ?side1 ?side2 A12.out).mono ?_); (case side1 => exact Zq28); (case side2 => exact Zq27); rintro e w26 ⟨rfl, hi, hb, hk⟩; replace HO_7 := Aside0.mk (Kd.R_mono (Kd.R_keep (IsS141.apart (show IsS141 w _ g222 t230 t231 from by repeat (first | (with_reducible first | exact HI222.out | apply IsS141.alloc | apply IsS141.drewN | apply IsS141.drew | apply IsS141.set_0 | apply IsS141.set_1) | exact HI222.out)) Zq7 (by decide)) hk (fun _ h => h.2)) (fun _ h => h.1)); replace HI222 := Aside0.mk (hi); replace HB := Aside0.mk (hb); (try clear hb); (try clear hb2); (try clear hk); (try clear hi)))
      go_meet
      case rel => exact ⟨_, (x7_1), (t233), (t234), H', ⟨Zy57⟩, ⟨Zy52⟩, ⟨Zy15⟩, ⟨Zy17⟩⟩
    ·rw [if_neg c11] at H
     have c11b0 : (t229 == 0) = false := beq_eq_false_iff_ne.mpr c11
     have c11b1 : (t229 != 0) = true := bne_iff_ne.mpr c11
     (first | rw [c11b0] | (simp only [i64_w, i32_w]; rw [c11b0]) | skip)
     have H' := Aside0.mk H
     clear H
     go_wp2_with (first | ((with_reducible refine gate_callee (f := 82) rfl ?_); refine goesL_ (some 22) rfl rfl Tryz.func82 (by kernel_rfl) rfl #[.pointer (some ⟨g222, 0, none⟩)] rfl Zq13 ?_; (with_reducible refine (octet_Reader_Code.calls g222 x223000_1 x223001_1 t229 t230 t231 w _ ?side1 ?side2 A10.out).mono ?_); (case side1 => exact Zq28); (case side2 => exact Zq27); rintro e w27 ⟨rfl, hi, hb, hk⟩; refine ⟨_, rfl, ?_⟩; replace HO_7 := Aside0.mk (Kd.R_mono (Kd.R_keep (IsS141.apart (show IsS141 w _ g222 x223000_1 x223001_1 from by repeat (first | (with_reducible first | exact HI222.out | apply IsS141.alloc | apply IsS141.drewN | apply IsS141.drew | apply IsS141.set_0 | apply IsS141.set_1) | exact HI222.out)) Zq7 (by decide)) hk (fun _ h => h.2)) (fun _ h => h.1)); replace HI222 := Aside0.mk (hi); replace HB := Aside0.mk (hb); (try clear hb); (try clear hb2); (try clear hk); (try clear hi)))
     go_meet
     case rel => exact ⟨_, (x7_1), (t230), (t231), H', ⟨Zy57⟩, ⟨Zy52⟩, ⟨Zy15⟩, ⟨Zy17⟩⟩
 case rest =>
  clear HC5
  (try clear c1); (try clear p2); (try clear c5); (try clear p6); (try clear c8); (try clear c11); (try clear c11b0); (try clear c11b1); (try clear c13); (try clear c13b0); (try clear c14); (try clear c14b0); (try clear c14b1); (try clear c16)
  obtain ⟨kq, x7_4, x223000_4, x223001_4, HA, HJ4, HO_7, HI222, HB⟩ := hcut
  cases kq with
  | zero => exact absurd HA.out (by simp [oid_Decode.j1])
  | succ kj4 =>
   have H := HA.out
   clear HA
   simp only [oid_Decode.j1] at H
   replace H := Option.bind_eq_some_iff.mp H
   obtain ⟨⟨t241, t242, t243⟩, A280, H⟩ := H
   replace H : (if t241 = 0 then ((oid_is.f kj4 x7_4).bind fun t244 => (if t244 = true then ((oid_put.f kj4 x7_4).bind fun t245 => (some (t245, 0))) else (some ((⟨#[]⟩ : ByteArray), 60)))) else (some ((⟨#[]⟩ : ByteArray), 60))) = some (r1, r2) := H
   have A28 := Aside0.mk A280
   clear A280
   by_cases c29 : t241 = 0
   ·rw [if_pos c29] at H
    have c29b0 : (t241 == 0) = true := beq_iff_eq.mpr c29
    have c29b1 : (t241 != 0) = false := bne_eq_false_iff_eq.mpr c29
    clear c29
    replace H := Option.bind_eq_some_iff.mp H
    obtain ⟨t244, A300, H⟩ := H
    replace H : (if t244 = true then ((oid_put.f kj4 x7_4).bind fun t245 => (some (t245, 0))) else (some ((⟨#[]⟩ : ByteArray), 60))) = some (r1, r2) := H
    have A30 := Aside0.mk A300
    clear A300
    by_cases c31 : t244 = true
    ·subst c31
     have H1 : ((oid_put.f kj4 x7_4).bind fun t245 => (some (t245, 0))) = some (r1, r2) := by rw [if_pos rfl] at H; exact H
     clear H
     have H := H1
     clear H1
     replace H := Option.bind_eq_some_iff.mp H
     obtain ⟨t245, A320, H⟩ := H
     replace H : (some (t245, 0)) = some (r1, r2) := H
     have A32 := Aside0.mk A320
     clear A320
     simp only [Option.some.injEq, Prod.mk.injEq] at H
     obtain ⟨rfl, rfl⟩ := H
     go_wp2_with (first | ((with_reducible refine gate_callee (f := 82) rfl ?_); refine goesL_ (some 40) rfl rfl Tryz.func82 (by kernel_rfl) rfl #[.pointer (some ⟨g222, 0, none⟩)] rfl Zq13 ?_; (with_reducible refine (octet_Reader_Code.calls g222 x223000_4 x223001_4 t241 t242 t243 w _ ?side1 ?side2 A28.out).mono ?_); (case side1 => exact Zq28); (case side2 => exact Zq27); rintro e w33 ⟨rfl, hi, hb, hk⟩; refine ⟨_, rfl, ?_⟩; replace HO_7 := Aside0.mk (Kd.R_mono (Kd.R_keep (IsS141.apart (show IsS141 w _ g222 x223000_4 x223001_4 from by repeat (first | (with_reducible first | exact HI222.out | apply IsS141.alloc | apply IsS141.drewN | apply IsS141.drew | apply IsS141.set_0 | apply IsS141.set_1) | exact HI222.out)) Zq7 (by decide)) hk (fun _ h => h.2)) (fun _ h => h.1)); replace HI222 := Aside0.mk (hi); replace HB := Aside0.mk (hb); (try clear hb); (try clear hb2); (try clear hk); (try clear hi); obtain ⟨Ao34, co34, eo34⟩ := Kd.R_slice HO_7.out; subst eo34) | (go_at_call 77; (with_reducible refine (oid_is.calls kj4 _ _ x7_4 true _ ?side1 ?side2 A30.out).mono ?_); (case side1 => exact Zq30); (case side2 => exact (Kd.R_reads' HO_7.out).2.1); rintro e w' ⟨rfl, ⟨nd, rfl⟩⟩) | ((with_reducible refine gate_callee (f := 84) rfl ?_); refine goesL_ (some 48) rfl rfl Tryz.func84 (by kernel_rfl) rfl #[.slice Ao34 x7_4.length co34] rfl Zq13 ?_; (with_reducible refine (oid_put.calls kj4 _ _ x7_4 t245 _ ?side3 ?side1 ?side2 A32.out).mono ?_); (case side1 => exact Zq30); (case side2 => exact (Kd.R_reads' HO_7.out).2.1); (case side3 => first | (with_reducible exact HGl.out) | exact HGl.out.below Zq45); rintro e w35 ⟨rfl, hb⟩; refine ⟨_, rfl, ?_⟩; replace HO_7 := Aside0.mk (Kd.R_below Zq7 hb); replace HI222 := Aside0.mk (IsS141.below Zq28 hb); replace HB := Aside0.mk (below_step Zq27 hb); (try clear hb); (try clear hb2); (try clear hk); (try clear hi)))
     go_ret2
     exact ⟨Zy6, Zy17⟩
    ·replace c31 := Bool.eq_false_iff.mpr c31
     subst c31
     have H1 : (some ((⟨#[]⟩ : ByteArray), 60)) = some (r1, r2) := by rw [if_neg (show ¬ (false = true) by decide)] at H; exact H
     clear H
     have H := H1
     clear H1
     simp only [Option.some.injEq, Prod.mk.injEq] at H
     obtain ⟨rfl, rfl⟩ := H
     go_wp2_with (first | ((with_reducible refine gate_callee (f := 82) rfl ?_); refine goesL_ (some 40) rfl rfl Tryz.func82 (by kernel_rfl) rfl #[.pointer (some ⟨g222, 0, none⟩)] rfl Zq13 ?_; (with_reducible refine (octet_Reader_Code.calls g222 x223000_4 x223001_4 t241 t242 t243 w _ ?side1 ?side2 A28.out).mono ?_); (case side1 => exact Zq28); (case side2 => exact Zq27); rintro e w36 ⟨rfl, hi, hb, hk⟩; refine ⟨_, rfl, ?_⟩; replace HO_7 := Aside0.mk (Kd.R_mono (Kd.R_keep (IsS141.apart (show IsS141 w _ g222 x223000_4 x223001_4 from by repeat (first | (with_reducible first | exact HI222.out | apply IsS141.alloc | apply IsS141.drewN | apply IsS141.drew | apply IsS141.set_0 | apply IsS141.set_1) | exact HI222.out)) Zq7 (by decide)) hk (fun _ h => h.2)) (fun _ h => h.1)); replace HI222 := Aside0.mk (hi); replace HB := Aside0.mk (hb); (try clear hb); (try clear hb2); (try clear hk); (try clear hi); obtain ⟨Ao37, co37, eo37⟩ := Kd.R_slice HO_7.out; subst eo37) | (go_at_call 77; (with_reducible refine (oid_is.calls kj4 _ _ x7_4 false _ ?side1 ?side2 A30.out).mono ?_); (case side1 => exact Zq30); (case side2 => exact (Kd.R_reads' HO_7.out).2.1); rintro e w' ⟨rfl, ⟨nd, rfl⟩⟩))
     go_ret2
     exact ⟨Zy6, Zy17⟩
   ·rw [if_neg c29] at H
    have c29b0 : (t241 == 0) = false := beq_eq_false_iff_ne.mpr c29
    have c29b1 : (t241 != 0) = true := bne_iff_ne.mpr c29
    simp only [Option.some.injEq, Prod.mk.injEq] at H
    obtain ⟨rfl, rfl⟩ := H
    go_wp2_with (first | ((with_reducible refine gate_callee (f := 82) rfl ?_); refine goesL_ (some 40) rfl rfl Tryz.func82 (by kernel_rfl) rfl #[.pointer (some ⟨g222, 0, none⟩)] rfl Zq13 ?_; (with_reducible refine (octet_Reader_Code.calls g222 x223000_4 x223001_4 t241 t242 t243 w _ ?side1 ?side2 A28.out).mono ?_); (case side1 => exact Zq28); (case side2 => exact Zq27); rintro e w38 ⟨rfl, hi, hb, hk⟩; refine ⟨_, rfl, ?_⟩; replace HO_7 := Aside0.mk (Kd.R_mono (Kd.R_keep (IsS141.apart (show IsS141 w _ g222 x223000_4 x223001_4 from by repeat (first | (with_reducible first | exact HI222.out | apply IsS141.alloc | apply IsS141.drewN | apply IsS141.drew | apply IsS141.set_0 | apply IsS141.set_1) | exact HI222.out)) Zq7 (by decide)) hk (fun _ h => h.2)) (fun _ h => h.1)); replace HI222 := Aside0.mk (hi); replace HB := Aside0.mk (hb); (try clear hb); (try clear hb2); (try clear hk); (try clear hi)))
    go_ret2
    exact ⟨Zy6, Zy17⟩
end Go.Proofs.YtfgdnnbhlnbojaaGreatDoor.XPdR
