-- Laid by extprint.py (the session's own driver): functions told by the kit's printer and by hand.
import Derived.Test.YtfgdnnbhlnbojaaGreatDoorXPdRx0
import Derived.Test.YtfgdnnbhlnbojaaGreatDoorXPdRx17
namespace Go.Proofs.YtfgdnnbhlnbojaaGreatDoor.XPdR
open Go.RowKit Gong Go.Proofs.YtfgdnnbhlnbojaaGreatDoorW.PrintWords Go.Proofs.YtfgdnnbhlnbojaaGreatDoorW.PrintLast Go.Proofs.YtfgdnnbhlnbojaaGreatDoorW.PrintMore
attribute [local go_sem] max2_int min2_int max_two min_two max_three min_three max_four min_four   -- for this text's walks alone
set_option linter.unusedVariables false
set_option linter.unusedSimpArgs false
def gongref05_Next.j0 : Nat → ByteArray → Bool → Option (Int × ByteArray × ByteArray × Int)
 | 0, _, _ => none
 | k + 1, x0, x16 => if x16 = true then (some (0, (⟨#[]⟩ : ByteArray), (⟨#[]⟩ : ByteArray), 50)) else (if 1 ≤ (x0.size : Int) then ((gongref05_length.f k (x0.extract 1 x0.size)).bind fun bt303 => (if bt303.2.2 = true then (if bt303.1 > (wrap64 ((wrap64 ((x0.size : Int) - 1)) - bt303.2.1)) then (some (0, (⟨#[]⟩ : ByteArray), (⟨#[]⟩ : ByteArray), 50)) else (if 0 < (x0.size : Int) then (if 0 ≤ (wrap64 (1 + bt303.2.1)) then (if (wrap64 (1 + bt303.2.1)) ≤ (wrap64 ((wrap64 (1 + bt303.2.1)) + bt303.1)) then (if (wrap64 ((wrap64 (1 + bt303.2.1)) + bt303.1)) ≤ (x0.size : Int) then (if 0 ≤ (wrap64 ((wrap64 (1 + bt303.2.1)) + bt303.1)) then (some (wrap64 (bt x0 0), x0.extract ((wrap64 (1 + bt303.2.1)) : Int).toNat ((wrap64 ((wrap64 (1 + bt303.2.1)) + bt303.1)) : Int).toNat, x0.extract ((wrap64 ((wrap64 (1 + bt303.2.1)) + bt303.1)) : Int).toNat x0.size, 0)) else (none)) else (none)) else (none)) else (none)) else (none))) else (some (0, (⟨#[]⟩ : ByteArray), (⟨#[]⟩ : ByteArray), 50)))) else (none))
def gongref05_Next.f (k : Nat) (a0 : ByteArray) : Option (Int × ByteArray × ByteArray × Int) := if a0.toList = ([] : List UInt8) then (gongref05_Next.j0 k a0 true) else (if 0 < (a0.size : Int) then ((gongref05_IsTag.f (wrap64 (bt a0 0))).bind fun t302 => (gongref05_Next.j0 k a0 (!t302))) else (none))
theorem gongref05_Next.mono_l : ∀ k, (∀ y0 y1, LeO (gongref05_Next.j0 k y0 y1) (gongref05_Next.j0 (k + 1) y0 y1))
 | 0 => fun _ _ r h => by simp [gongref05_Next.j0] at h
 | k + 1 => by
  have ih0 := gongref05_Next.mono_l k
  ·intro y0 y1
   unfold gongref05_Next.j0
   repeat' first
   | (with_reducible exact ih0 _ _)
   | (with_reducible exact gongref05_length.mono _ _)
   | (with_reducible exact LeO.refl _)
   | (with_reducible exact LeO.none _)
   | (with_reducible refine LeO.ite ?_ ?_)
   | (with_reducible refine LeO.bind ?_ (fun _ => ?_))
   | exact ih0 _ _
   | exact gongref05_length.mono _ _
   | exact LeO.none _
   | refine LeO.ite ?_ ?_
   | refine LeO.bind ?_ (fun _ => ?_)
theorem gongref05_Next.mono : ∀ a0 k, LeO (gongref05_Next.f k a0) (gongref05_Next.f (k + 1) a0) := by
 intro a0 k
 have ih0 := gongref05_Next.mono_l k
 unfold gongref05_Next.f
 repeat' first
   | (with_reducible exact ih0 _ _)
   | (with_reducible exact gongref05_length.mono _ _)
   | (with_reducible exact LeO.refl _)
   | (with_reducible exact LeO.none _)
   | (with_reducible refine LeO.ite ?_ ?_)
   | (with_reducible refine LeO.bind ?_ (fun _ => ?_))
   | exact ih0 _ _
   | exact gongref05_length.mono _ _
   | exact LeO.none _
   | refine LeO.ite ?_ ?_
   | refine LeO.bind ?_ (fun _ => ?_)
def gongref05_Next.T6 : Bool × List (List Nat × List Nat) := (true, [([], []), ([0], [0]), ([1], [1]), ([], []), ([], []), ([4], [4]), ([], []), ([6], [6]), ([], []), ([7, 8], [7, 8]), ([3, 5, 9], [3, 5, 9]), ([2, 10], [2, 10]), ([], []), ([], []), ([13], [13]), ([], []), ([14, 15], [14, 15]), ([12, 16], [12, 16]), ([11, 0, 1, 2, 3, 4, 5, 6, 7, 8, 9, 10, 11], [11]), ([17, 18, 0, 1, 2, 3, 4, 5, 6, 7, 8, 9, 10, 11, 12, 13, 14, 15, 16, 17, 18], [17]), ([19, 0, 1, 2, 3, 4, 5, 6, 7, 8, 9, 10, 11, 12, 13, 14, 15, 16, 17, 18, 19], [])])
def gongref05_Next.B6 : List Nat := [0, 1, 3, 0, 0, 16, 0, 64, 0, 448, 1016, 2047, 0, 0, 8192, 0, 57344, 126976, 4095, 524287, 1048575]
theorem gongref05_Next.tab6 : rtab .any (opsOf Tryz.f58 6) = gongref05_Next.T6 := by kernel_rfl
theorem gongref05_Next.bits6 : waitsOk gongref05_Next.T6.2 gongref05_Next.B6 = true := by kernel_rfl
set_option maxHeartbeats 8000000 in
set_option maxRecDepth 100000 in
theorem gongref05_Next.calls (k : Nat) (a0 : ByteArray) (r1 : Int) (r2 : ByteArray) (r3 : ByteArray) (r4 : Int) (w : World) (h : gongref05_Next.f k a0 = some (r1, r2, r3, r4)) :
  Calls Tryz.prog 58 #[.string a0] w fun e w' => e = .returned (.tuple #[.agg #[.int .i64 r1, .string r2], .string r3, .int .i64 r4]) ∧ Below w.heap.size w w' := by
 have hu50 := Tryz.underlying50
 have HB := Aside0.mk (Below.refl w.heap.size w)
 have H : (if a0.toList = ([] : List UInt8) then (gongref05_Next.j0 k a0 true) else (if 0 < (a0.size : Int) then ((gongref05_IsTag.f (wrap64 (bt a0 0))).bind fun t302 => (gongref05_Next.j0 k a0 (!t302))) else (none))) = some (r1, r2, r3, r4) := h
 clear h
 have HC2 := Aside0.mk H
 clear H
 go_enter Tryz.func58, Tryz.ntmps58
 go_upto_region 1 with (first | ((with_reducible refine gate_dst (N := 2) rfl ?_); (try (refine gate_guard (by rfl) ?_; dsimp only)); refine box_event ?hg (N := 2) ?hd (cs := #[.int .i64 0, .string (⟨#[]⟩ : ByteArray)]) (t := 50) ?hr ?_; (case hd => rfl); (case hg => rfl); (case hr => exact Zq2); intro gb301 hg w3 hbox hb; have BK301 := Aside0.mk (hbox); have GW301 := Aside0.mk ((by rw [hg]; exact (below_size Zq12) : w.heap.size ≤ gb301)); have GE301 := Aside0.mk ((by rw [hg]; exact (below_size Zq12) : w.heap.size ≤ gb301)); replace HB := Aside0.mk (below_step Zq12 hb); clear hb hbox hg))
 (try simp only [Act.put, List.setIfInBounds_toArray, List.set_cons_zero, List.set_cons_succ])
 go_cut [16] (fun v16 wc => ∃ (kq : Nat) (x16_1 : Bool), v16 = .bool x16_1 ∧ Aside0 (gongref05_Next.j0 kq a0 x16_1 = some (r1, r2, r3, r4)) ∧ Aside0 (kq ≤ k) ∧ Aside0 (wc.heap[gb301]? = some (.cells #[.int .i64 0, .string (⟨#[]⟩ : ByteArray)] 50 (0, 0))) ∧ Aside0 (Below w.heap.size w wc))
 case first =>
  have H := HC2.out
  clear HC2
  by_cases c4 : a0.toList = ([] : List UInt8)
  ·rw [if_pos c4] at H
   have c4b0 : (a0.toList == ([] : List UInt8)) = true := beq_iff_eq.mpr c4
   have c4b1 : (a0.toList != ([] : List UInt8)) = false := bne_eq_false_iff_eq.mpr c4
   clear c4
   (first | rw [c4b0] | (simp only [i64_w, i32_w]; rw [c4b0]) | skip)
   have H' := Aside0.mk H
   clear H
   go_wp2
   go_meet
   case rel => exact ⟨_, (true), Zq11, H', ⟨Zy61⟩, ⟨Zy46⟩, ⟨Zy25⟩⟩
  ·rw [if_neg c4] at H
   have c4b0 : (a0.toList == ([] : List UInt8)) = false := beq_eq_false_iff_ne.mpr c4
   have c4b1 : (a0.toList != ([] : List UInt8)) = true := bne_iff_ne.mpr c4
   (first | rw [c4b0] | (simp only [i64_w, i32_w]; rw [c4b0]) | skip)
   by_cases c5 : 0 < (a0.size : Int)
   ·rw [if_pos c5] at H
    have c5b0 : decide (0 < (a0.size : Int)) = true := decide_eq_true c5
    have c5b1 : decide (0 < a0.size) = true := decide_eq_true (by omega)
    clear c5
    replace H := Option.bind_eq_some_iff.mp H
    obtain ⟨t302, A70, H⟩ := H
    replace H : (gongref05_Next.j0 k a0 (!t302)) = some (r1, r2, r3, r4) := H
    have A7 := Aside0.mk A70
    clear A70
    have H' := Aside0.mk H
    clear H
    have p6 : 0 ≤ (0 : Int) := (by omega)
    have q6 : 0 < a0.size := (by have : (0 : Int) < (a0.size : Int) := of_decide_eq_true Zq1; omega)
    have hx6 : ∀ h : 0 < a0.size, ((a0[0]'h).toNat : Int) = bt a0 0 := bt_at a0 0
    clear p6
    have qi6 : (0 < (a0.size : Int)) = True := eq_true (of_decide_eq_true Zq1)
    replace q6 := eq_true q6
    go_wp2_with (first | (go_at_call 86; (with_reducible refine (gongref05_IsTag.calls (wrap64 (bt a0 0)) t302 _ A7.out).mono ?_); rintro e w' ⟨rfl, ⟨nd, rfl⟩⟩))
    go_meet
    case rel => exact ⟨_, (!t302), Zq11, H', ⟨Zy61⟩, ⟨Zy46⟩, ⟨Zy25⟩⟩
   ·rw [if_neg c5] at H
    exact absurd H (by simp)
 case rest =>
  clear HC2
  (try clear p2); (try clear c4); (try clear c4b0); (try clear c4b1); (try clear c5); (try clear c5b0); (try clear c5b1); (try clear p6); (try clear q6); (try clear hx6); (try clear qi6)
  obtain ⟨kq, x16_1, rfl, HA, HJ1, BK301, HB⟩ := hcut
  cases kq with
  | zero => exact absurd HA.out (by simp [gongref05_Next.j0])
  | succ kj1 =>
   have H := HA.out
   clear HA
   simp only [gongref05_Next.j0] at H
   by_cases c8 : x16_1 = true
   ·subst c8
    have H1 : (some (0, (⟨#[]⟩ : ByteArray), (⟨#[]⟩ : ByteArray), 50)) = some (r1, r2, r3, r4) := by rw [if_pos rfl] at H; exact H
    clear H
    have H := H1
    clear H1
    simp only [Option.some.injEq, Prod.mk.injEq] at H
    obtain ⟨rfl, rfl, rfl, rfl⟩ := H
    obtain ⟨hcz9_0, hcz9_1⟩ := cells2_ BK301.out
    obtain ⟨hfz9_0, hfz9_1⟩ := frozen2_ BK301.out
    go_wp2
    refine bodyPost_ret (results_ctt rfl _ _ gb301 50 #[.int .i64 0, .string (⟨#[]⟩ : ByteArray)] (0, 0) _ rfl Zq47 Tryz.underlying50 rfl (by kernel_rfl)) rfl ?_
    exact ⟨Zy41, Zy25⟩
   ·replace c8 := Bool.eq_false_iff.mpr c8
    subst c8
    have H1 : (if 1 ≤ (a0.size : Int) then ((gongref05_length.f kj1 (a0.extract 1 a0.size)).bind fun bt303 => (if bt303.2.2 = true then (if bt303.1 > (wrap64 ((wrap64 ((a0.size : Int) - 1)) - bt303.2.1)) then (some (0, (⟨#[]⟩ : ByteArray), (⟨#[]⟩ : ByteArray), 50)) else (if 0 < (a0.size : Int) then (if 0 ≤ (wrap64 (1 + bt303.2.1)) then (if (wrap64 (1 + bt303.2.1)) ≤ (wrap64 ((wrap64 (1 + bt303.2.1)) + bt303.1)) then (if (wrap64 ((wrap64 (1 + bt303.2.1)) + bt303.1)) ≤ (a0.size : Int) then (if 0 ≤ (wrap64 ((wrap64 (1 + bt303.2.1)) + bt303.1)) then (some (wrap64 (bt a0 0), a0.extract ((wrap64 (1 + bt303.2.1)) : Int).toNat ((wrap64 ((wrap64 (1 + bt303.2.1)) + bt303.1)) : Int).toNat, a0.extract ((wrap64 ((wrap64 (1 + bt303.2.1)) + bt303.1)) : Int).toNat a0.size, 0)) else (none)) else (none)) else (none)) else (none)) else (none))) else (some (0, (⟨#[]⟩ : ByteArray), (⟨#[]⟩ : ByteArray), 50)))) else (none)) = some (r1, r2, r3, r4) := by rw [if_neg (show ¬ (false = true) by decide)] at H; exact H
    clear H
    have H := H1
    clear H1
    by_cases c10 : 1 ≤ (a0.size : Int)
    ·rw [if_pos c10] at H
     have c10b0 := eq_true c10
     have c10b1 : decide (1 ≤ (a0.size : Int)) = true := decide_eq_true c10
     clear c10
     replace H := Option.bind_eq_some_iff.mp H
     obtain ⟨⟨t303, t304, t305⟩, A110, H⟩ := H
     replace H : (if t305 = true then (if t303 > (wrap64 ((wrap64 ((a0.size : Int) - 1)) - t304)) then (some (0, (⟨#[]⟩ : ByteArray), (⟨#[]⟩ : ByteArray), 50)) else (if 0 < (a0.size : Int) then (if 0 ≤ (wrap64 (1 + t304)) then (if (wrap64 (1 + t304)) ≤ (wrap64 ((wrap64 (1 + t304)) + t303)) then (if (wrap64 ((wrap64 (1 + t304)) + t303)) ≤ (a0.size : Int) then (if 0 ≤ (wrap64 ((wrap64 (1 + t304)) + t303)) then (some (wrap64 (bt a0 0), a0.extract ((wrap64 (1 + t304)) : Int).toNat ((wrap64 ((wrap64 (1 + t304)) + t303)) : Int).toNat, a0.extract ((wrap64 ((wrap64 (1 + t304)) + t303)) : Int).toNat a0.size, 0)) else (none)) else (none)) else (none)) else (none)) else (none))) else (some (0, (⟨#[]⟩ : ByteArray), (⟨#[]⟩ : ByteArray), 50))) = some (r1, r2, r3, r4) := H
     have A11 := Aside0.mk A110
     clear A110
     by_cases c12 : t305 = true
     ·subst c12
      have H1 : (if t303 > (wrap64 ((wrap64 ((a0.size : Int) - 1)) - t304)) then (some (0, (⟨#[]⟩ : ByteArray), (⟨#[]⟩ : ByteArray), 50)) else (if 0 < (a0.size : Int) then (if 0 ≤ (wrap64 (1 + t304)) then (if (wrap64 (1 + t304)) ≤ (wrap64 ((wrap64 (1 + t304)) + t303)) then (if (wrap64 ((wrap64 (1 + t304)) + t303)) ≤ (a0.size : Int) then (if 0 ≤ (wrap64 ((wrap64 (1 + t304)) + t303)) then (some (wrap64 (bt a0 0), a0.extract ((wrap64 (1 + t304)) : Int).toNat ((wrap64 ((wrap64 (1 + t304)) + t303)) : Int).toNat, a0.extract ((wrap64 ((wrap64 (1 + t304)) + t303)) : Int).toNat a0.size, 0)) else (none)) else (none)) else (none)) else (none)) else (none))) = some (r1, r2, r3, r4) := by rw [if_pos rfl] at H; exact H
      clear H
      have H := H1
      clear H1
      by_cases c13 : t303 > (wrap64 ((wrap64 ((a0.size : Int) - 1)) - t304))
      ·rw [if_pos c13] at H
       have c13b0 : decide ((wrap64 ((wrap64 ((a0.size : Int) - 1)) - t304)) < t303) = true := decide_eq_true c13
       clear c13
       simp only [Option.some.injEq, Prod.mk.injEq] at H
       obtain ⟨rfl, rfl, rfl, rfl⟩ := H
       go_wp2_with (first | ((with_reducible refine gate_callee (f := 87) rfl ?_); refine goesL_ (some 21) rfl rfl Tryz.func87 (by kernel_rfl) rfl #[.string (a0.extract 1 a0.size)] rfl Zq13 ?_; (with_reducible refine (gongref05_length.calls kj1 (a0.extract 1 a0.size) t303 t304 true _ A11.out).mono ?_); rintro e w' ⟨rfl, ⟨nd, rfl⟩⟩; refine ⟨_, rfl, ?_⟩; (try (rw [drewN_self wc]; generalize hq_ : World.drewN wc _ = wc; have n0_ : Aside0 (wc.heap[gb301]? = some (.cells #[.int .i64 0, .string (⟨#[]⟩ : ByteArray)] 50 (0, 0))) := ⟨by rw [← hq_]; exact Zq31⟩; have n1_ : Aside0 (Below w.heap.size w wc) := ⟨by rw [← hq_]; exact Zq23⟩; clear BK301 HB hq_; have BK301 := n0_; have HB := n1_; clear n0_ n1_)); obtain ⟨hcz14_0, hcz14_1⟩ := cells2_ BK301.out; obtain ⟨hfz14_0, hfz14_1⟩ := frozen2_ BK301.out))
       refine bodyPost_ret (results_ctt rfl _ _ gb301 50 #[.int .i64 0, .string (⟨#[]⟩ : ByteArray)] (0, 0) _ rfl Zq47 Tryz.underlying50 rfl (by kernel_rfl)) rfl ?_
       exact ⟨Zy41, Zy25⟩
      ·rw [if_neg c13] at H
       have c13b0 : decide ((wrap64 ((wrap64 ((a0.size : Int) - 1)) - t304)) < t303) = false := decide_eq_false c13
       clear c13
       by_cases c15 : 0 < (a0.size : Int)
       ·rw [if_pos c15] at H
        have c15b0 : decide (0 < (a0.size : Int)) = true := decide_eq_true c15
        have c15b1 : decide (0 < a0.size) = true := decide_eq_true (by omega)
        clear c15
        obtain ⟨ji17, hji17⟩ : ∃ j_ : Int, (wrap64 (1 + t304)) = j_ := ⟨_, rfl⟩
        replace H : (if 0 ≤ (ji17) then (if (ji17) ≤ (wrap64 ((ji17) + t303)) then (if (wrap64 ((ji17) + t303)) ≤ (a0.size : Int) then (if 0 ≤ (wrap64 ((ji17) + t303)) then (some (wrap64 (bt a0 0), a0.extract ((ji17) : Int).toNat ((wrap64 ((ji17) + t303)) : Int).toNat, a0.extract ((wrap64 ((ji17) + t303)) : Int).toNat a0.size, 0)) else (none)) else (none)) else (none)) else (none)) = some (r1, r2, r3, r4) := by first | (rw [hji17] at H; exact H) | (simp only [hji17] at H ⊢; exact H)
        (try rw [hji17] at A11)
        have hji17w : (IntKind.i64.wrap (1 + t304)) = ji17 := (i64_w _).trans hji17
        by_cases c18 : 0 ≤ (ji17)
        ·rw [if_pos c18] at H
         have c18b0 := eq_true c18
         have c18b1 : decide (0 ≤ (ji17)) = true := decide_eq_true c18
         clear c18
         by_cases c19 : (ji17) ≤ (wrap64 ((ji17) + t303))
         ·rw [if_pos c19] at H
          have c19b0 := eq_true c19
          have c19b1 : decide ((ji17) ≤ (wrap64 ((ji17) + t303))) = true := decide_eq_true c19
          by_cases c20 : (wrap64 ((ji17) + t303)) ≤ (a0.size : Int)
          ·rw [if_pos c20] at H
           have c20b0 := eq_true c20
           have c20b1 : decide ((wrap64 ((ji17) + t303)) ≤ (a0.size : Int)) = true := decide_eq_true c20
           obtain ⟨ji21, hji21⟩ : ∃ j_ : Int, (wrap64 ((ji17) + t303)) = j_ := ⟨_, rfl⟩
           replace H : (if 0 ≤ (ji21) then (some (wrap64 (bt a0 0), a0.extract ((ji17) : Int).toNat ((ji21) : Int).toNat, a0.extract ((ji21) : Int).toNat a0.size, 0)) else (none)) = some (r1, r2, r3, r4) := by first | (rw [hji21] at H; exact H) | (simp only [hji21] at H ⊢; exact H)
           (try rw [hji21] at c19b0)
           (try rw [hji21] at c19b1)
           (try rw [hji21] at c19)
           (try rw [hji21] at c20b0)
           (try rw [hji21] at c20b1)
           (try rw [hji21] at c20)
           (try rw [hji21] at A11)
           have hji21w : (IntKind.i64.wrap ((ji17) + t303)) = ji21 := (i64_w _).trans hji21
           by_cases c22 : 0 ≤ (ji21)
           ·rw [if_pos c22] at H
            have c22b0 := eq_true c22
            have c22b1 : decide (0 ≤ (ji21)) = true := decide_eq_true c22
            clear c22
            have c23b0 := eq_true (of_decide_eq_true Zq1 : (ji21) ≤ (a0.size : Int))
            simp only [Option.some.injEq, Prod.mk.injEq] at H
            obtain ⟨rfl, rfl, rfl, rfl⟩ := H
            try go_wp2_with (first | ((with_reducible refine gate_callee (f := 87) rfl ?_); refine goesL_ (some 21) rfl rfl Tryz.func87 (by kernel_rfl) rfl #[.string (a0.extract 1 a0.size)] rfl Zq13 ?_; (with_reducible refine (gongref05_length.calls kj1 (a0.extract 1 a0.size) t303 t304 true _ A11.out).mono ?_); rintro e w' ⟨rfl, ⟨nd, rfl⟩⟩; refine ⟨_, rfl, ?_⟩; (try (rw [drewN_self wc]; generalize hq_ : World.drewN wc _ = wc; have n0_ : Aside0 (wc.heap[gb301]? = some (.cells #[.int .i64 0, .string (⟨#[]⟩ : ByteArray)] 50 (0, 0))) := ⟨by rw [← hq_]; exact Zq31⟩; have n1_ : Aside0 (Below w.heap.size w wc) := ⟨by rw [← hq_]; exact Zq23⟩; clear BK301 HB hq_; have BK301 := n0_; have HB := n1_; clear n0_ n1_))))
            replace BK301 := Aside0.mk (blk_drew BK301.out)
            replace HB := Aside0.mk (below_drew1 HB.out)
            have p16 : 0 ≤ (0 : Int) := (by omega)
            have q16 : 0 < a0.size := (by have : (0 : Int) < (a0.size : Int) := of_decide_eq_true Zq1; omega)
            have hx16 : ∀ h : 0 < a0.size, ((a0[0]'h).toNat : Int) = bt a0 0 := bt_at a0 0
            clear p16
            have qi16 : (0 < (a0.size : Int)) = True := eq_true (of_decide_eq_true Zq1)
            replace q16 := eq_true q16
            refine start_ (n := 21) (S := fun w' => True) (ds := []) #[false, false, false, false, false, false, false, false, false, false, false, false, false, false, false, false, false, false, false, false, false] (by kernel_rfl) rfl rfl trivial (fun hHeld => ?_); refine with_tabW gongref05_Next.tab6 gongref05_Next.bits6 (fun HT_ HW_ => ?_)
            generalize wc.drew = w24 at BK301 HB hHeld ⊢
            refine pz_ 0 37 ?_
            refine pz_ 3 40 ?_
            refine pz_ 4 41 ?_
            refine pz_ 5 42 ?_
            refine pz_ 6 43 ?_
            refine pz_ 7 44 ?_
            refine pz_ 8 45 ?_
            refine pz_ 9 46 ?_
            refine pz_ 10 47 ?_
            refine pz_ 12 49 ?_
            refine pz_ 13 50 ?_
            refine pz_ 14 51 ?_
            refine pz_ 15 52 ?_
            refine pz_ 16 53 ?_
            refine pz_ 17 54 ?_
            refine take_ (i := 1) (N := some 38) (v := ?_) (a' := ?_) #[true, true, false, true, true, true, true, true, true, true, true, false, true, true, true, true, true, true, false, false, false] rfl rfl (take_ofW HT_.out HW_.out (by kernel_rfl)) (fun _ _ _ h => h) (Or.inl ⟨by rfl, ?_⟩) hHeld ?_ ?_
            rotate_left
            ·intro w' _
             go_simp
             with_reducible rfl
            rotate_left
            ·simp only [Act.put, List.setIfInBounds_toArray, List.set_cons_zero, List.set_cons_succ, i64_w, i32_w]
             rfl
            refine pz_ 2 39 ?_
            refine pz_ 11 48 ?_
            refine one_ (i := 18) (N := none) #[true, true, true, true, true, true, true, true, true, true, true, true, true, true, true, true, true, true, true, false, false] rfl rfl (one_of HT_.out (by kernel_rfl)) (by decide) (fun K hK => ?_)
            have hs25 : w24.cell? ⟨gb301, 0, none⟩ = some (.int .i64 0) := (blk_cell BK301.out 0).trans rfl
            have hfs25 := blk_frozen BK301.out 0
            have hs26 : w24.cell? ⟨gb301, 1, none⟩ = some (.string (⟨#[]⟩ : ByteArray)) := (blk_cell BK301.out 1).trans rfl
            have hfs26 := blk_frozen BK301.out 1
            refine skip_ (w1 := ?_) (by rfl) rfl ?_ ?_
            rotate_left
            ·go_simp
             rfl
            refine hK.out _ _ trivial (fun hHeld_ => ?_)
            clear hK K hHeld
            have hHeld := hHeld_
            clear hHeld_
            refine pz_ 19 3 ?_
            refine pz_ 20 4 ?_
            refine done_ (done_of HT_.out (by kernel_rfl)) ?_
            (try clear hHeld)
            try go_wp2
            refine bodyPost_ret (results_ctt rfl _ _ gb301 50 #[.int .i64 (wrap64 (bt a0 0)), .string (a0.extract ((ji17) : Int).toNat ((ji21) : Int).toNat)] (0, 0) _ rfl Zq47 Tryz.underlying50 rfl (by kernel_rfl)) rfl ?_
            exact ⟨by first | rfl | (simp only [i64_w, i32_w]; rfl) | (simp [errW_none, errW_some] <;> rfl) | (simp only [← hji17, ← hji21]; first | rfl | (simp [errW_none, errW_some] <;> rfl)) | (simp [*, errW_none, errW_some] <;> rfl), Zy25⟩
           ·rw [if_neg c22] at H
            exact absurd H (by simp)
          ·rw [if_neg c20] at H
           exact absurd H (by simp)
         ·rw [if_neg c19] at H
          exact absurd H (by simp)
        ·rw [if_neg c18] at H
         exact absurd H (by simp)
       ·rw [if_neg c15] at H
        exact absurd H (by simp)
     ·replace c12 := Bool.eq_false_iff.mpr c12
      subst c12
      have H1 : (some (0, (⟨#[]⟩ : ByteArray), (⟨#[]⟩ : ByteArray), 50)) = some (r1, r2, r3, r4) := by rw [if_neg (show ¬ (false = true) by decide)] at H; exact H
      clear H
      have H := H1
      clear H1
      simp only [Option.some.injEq, Prod.mk.injEq] at H
      obtain ⟨rfl, rfl, rfl, rfl⟩ := H
      go_wp2_with (first | ((with_reducible refine gate_callee (f := 87) rfl ?_); refine goesL_ (some 21) rfl rfl Tryz.func87 (by kernel_rfl) rfl #[.string (a0.extract 1 a0.size)] rfl Zq13 ?_; (with_reducible refine (gongref05_length.calls kj1 (a0.extract 1 a0.size) t303 t304 false _ A11.out).mono ?_); rintro e w' ⟨rfl, ⟨nd, rfl⟩⟩; refine ⟨_, rfl, ?_⟩; (try (rw [drewN_self wc]; generalize hq_ : World.drewN wc _ = wc; have n0_ : Aside0 (wc.heap[gb301]? = some (.cells #[.int .i64 0, .string (⟨#[]⟩ : ByteArray)] 50 (0, 0))) := ⟨by rw [← hq_]; exact Zq31⟩; have n1_ : Aside0 (Below w.heap.size w wc) := ⟨by rw [← hq_]; exact Zq23⟩; clear BK301 HB hq_; have BK301 := n0_; have HB := n1_; clear n0_ n1_)); obtain ⟨hcz27_0, hcz27_1⟩ := cells2_ BK301.out; obtain ⟨hfz27_0, hfz27_1⟩ := frozen2_ BK301.out))
      refine bodyPost_ret (results_ctt rfl _ _ gb301 50 #[.int .i64 0, .string (⟨#[]⟩ : ByteArray)] (0, 0) _ rfl Zq47 Tryz.underlying50 rfl (by kernel_rfl)) rfl ?_
      exact ⟨Zy41, Zy25⟩
    ·rw [if_neg c10] at H
     exact absurd H (by simp)
def gongref05_Parts.l0 : Nat → ByteArray → List (S50) → Option ((List (S50)) × Int)
 | 0, _, _ => none
 | k + 1, x0, x4 => if x0.toList = ([] : List UInt8) then (some (x4, 0)) else ((gongref05_Next.f k x0).bind fun bt306 => (if bt306.2.2.2 = 0 then (if (x4.length : Int) ≥ 4096 then (some (([] : List (S50)), 2)) else (if x4.length < 5864062014805 then (gongref05_Parts.l0 k bt306.2.2.1 (x4 ++ [(⟨bt306.1, bt306.2.1⟩ : S50)])) else (none))) else (some (([] : List (S50)), bt306.2.2.2))))
def gongref05_Parts.f (k : Nat) (a0 : ByteArray) : Option ((List (S50)) × Int) := gongref05_Parts.l0 k a0 ([] : List (S50))
theorem gongref05_Parts.mono_l : ∀ k, (∀ y0 y1, LeO (gongref05_Parts.l0 k y0 y1) (gongref05_Parts.l0 (k + 1) y0 y1))
 | 0 => fun _ _ r h => by simp [gongref05_Parts.l0] at h
 | k + 1 => by
  have ih0 := gongref05_Parts.mono_l k
  ·intro y0 y1
   unfold gongref05_Parts.l0
   repeat' first
   | (with_reducible exact ih0 _ _)
   | (with_reducible exact gongref05_Next.mono _ _)
   | (with_reducible exact LeO.refl _)
   | (with_reducible exact LeO.none _)
   | (with_reducible refine LeO.ite ?_ ?_)
   | (with_reducible refine LeO.bind ?_ (fun _ => ?_))
   | exact ih0 _ _
   | exact gongref05_Next.mono _ _
   | exact LeO.none _
   | refine LeO.ite ?_ ?_
   | refine LeO.bind ?_ (fun _ => ?_)
theorem gongref05_Parts.mono : ∀ a0 k, LeO (gongref05_Parts.f k a0) (gongref05_Parts.f (k + 1) a0) := by
 intro a0 k
 have ih0 := gongref05_Parts.mono_l k
 unfold gongref05_Parts.f
 repeat' first
   | (with_reducible exact ih0 _ _)
   | (with_reducible exact gongref05_Next.mono _ _)
   | (with_reducible exact LeO.refl _)
   | (with_reducible exact LeO.none _)
   | (with_reducible refine LeO.ite ?_ ?_)
   | (with_reducible refine LeO.bind ?_ (fun _ => ?_))
   | exact ih0 _ _
   | exact gongref05_Next.mono _ _
   | exact LeO.none _
   | refine LeO.ite ?_ ?_
   | refine LeO.bind ?_ (fun _ => ?_)
set_option maxHeartbeats 8000000 in
set_option maxRecDepth 100000 in
theorem gongref05_Parts.calls (k : Nat) (a0 : ByteArray) (r1 : List (S50)) (r2 : Int) (w : World) (h : gongref05_Parts.f k a0 = some (r1, r2)) :
  Calls Tryz.prog 35 #[.string a0] w fun e w' => ∃ v0_ : Value, e = .returned (.tuple #[v0_, .int .i64 r2]) ∧ Kd.R k50 50 w' w.heap.size (fun _ => True) v0_ r1 ∧ Below w.heap.size w w' := by
 have hu50 := Tryz.underlying50
 have HB := Aside0.mk (Below.refl w.heap.size w)
 have H : (gongref05_Parts.l0 k a0 ([] : List (S50))) = some (r1, r2) := h
 clear h
 have H' := Aside0.mk H
 clear H
 go_enter Tryz.func35, Tryz.ntmps35
 go_wp2
 go_loopg [0, 4] k (fun kq v0 v4 w' => ∃ (x0_1 : ByteArray) (x4_1 : List (S50)), v0 = .string x0_1 ∧ Aside0 (gongref05_Parts.l0 kq x0_1 x4_1 = some (r1, r2)) ∧ Aside0 (kq ≤ k) ∧ Aside0 (Kd.R k50 50 w' w.heap.size (fun _ => True) v4 x4_1) ∧ Aside0 (Below w.heap.size w w'))
 case atStart => exact ⟨(a0), (([] : List (S50))), Zq11, H', ⟨Nat.le_refl _⟩, ⟨Zy35⟩, ⟨Zy40⟩⟩
 case round =>
  clear H'
  obtain ⟨x0_1, x4_1, rfl, HA, HK1, HO_4, HB⟩ := hrel
  cases gk with
  | zero => exact absurd HA.out (by simp [gongref05_Parts.l0])
  | succ k1 =>
   have H := HA.out
   clear HA
   simp only [gongref05_Parts.l0] at H
   by_cases c2 : x0_1.toList = ([] : List UInt8)
   ·rw [if_pos c2] at H
    have c2b0 : (x0_1.toList == ([] : List UInt8)) = true := beq_iff_eq.mpr c2
    have c2b1 : (x0_1.toList != ([] : List UInt8)) = false := bne_eq_false_iff_eq.mpr c2
    clear c2
    simp only [Option.some.injEq, Prod.mk.injEq] at H
    obtain ⟨rfl, rfl⟩ := H
    go_wp2
    go_ret2
    exact ⟨_, Zy55, Zy53, Zy40⟩
   ·rw [if_neg c2] at H
    have c2b0 : (x0_1.toList == ([] : List UInt8)) = false := beq_eq_false_iff_ne.mpr c2
    have c2b1 : (x0_1.toList != ([] : List UInt8)) = true := bne_iff_ne.mpr c2
    replace H := Option.bind_eq_some_iff.mp H
    obtain ⟨⟨t306, t307, t308, t309⟩, A30, H⟩ := H
    replace H : (if t309 = 0 then (if (x4_1.length : Int) ≥ 4096 then (some (([] : List (S50)), 2)) else (if x4_1.length < 5864062014805 then (gongref05_Parts.l0 k1 t308 (x4_1 ++ [(⟨t306, t307⟩ : S50)])) else (none))) else (some (([] : List (S50)), t309))) = some (r1, r2) := H
    have A3 := Aside0.mk A30
    clear A30
    by_cases c4 : t309 = 0
    ·rw [if_pos c4] at H
     have c4b0 : (t309 == 0) = true := beq_iff_eq.mpr c4
     have c4b1 : (t309 != 0) = false := bne_eq_false_iff_eq.mpr c4
     clear c4
     by_cases c5 : (x4_1.length : Int) ≥ 4096
     ·rw [if_pos c5] at H
      have c5b0 : decide (4096 ≤ (x4_1.length : Int)) = true := decide_eq_true c5
      have c5b1 : decide (4096 ≤ x4_1.length) = true := decide_eq_true (by omega)
      clear c5
      simp only [Option.some.injEq, Prod.mk.injEq] at H
      obtain ⟨rfl, rfl⟩ := H
      go_wp2_with (first | ((with_reducible refine gate_callee (f := 58) rfl ?_); refine goesL_ (some 12) rfl rfl Tryz.func58 (by kernel_rfl) rfl #[.string x0_1] rfl Zq13 ?_; (with_reducible refine (gongref05_Next.calls k1 x0_1 t306 t307 t308 t309 _ A3.out).mono ?_); rintro e w6 ⟨rfl, hb⟩; refine ⟨_, rfl, ?_⟩; replace HO_4 := Aside0.mk (Kd.R_below Zq6 hb); replace HB := Aside0.mk (below_step Zq12 hb); (try clear hb); (try clear hb2); (try clear hk); (try clear hi)) | ((with_reducible refine gate_dst (N := 5) rfl ?_); refine box_event ?hg (N := 5) ?hd (cs := #[.int .i64 0, .string (⟨#[]⟩ : ByteArray)]) (t := 50) ?hr ?_; (case hd => rfl); (case hg => rfl); (case hr => exact Zq2); intro gb310 hg w7 hbox hb; have BK310 := Aside0.mk (hbox); have GW310 := Aside0.mk ((by rw [hg]; exact (below_size Zq12) : w.heap.size ≤ gb310)); have GE310 := Aside0.mk ((by rw [hg]; exact (below_size Zq12) : w.heap.size ≤ gb310)); replace HO_4 := Aside0.mk (Kd.R_below (Kd.R_elderB Zq6 gb310 (Nat.le_of_eq hg.symm)) hb); replace HB := Aside0.mk (below_step Zq12 hb); clear hb hbox hg; obtain ⟨hcz8_0, hcz8_1⟩ := cells2_ BK310.out; obtain ⟨hfz8_0, hfz8_1⟩ := frozen2_ BK310.out; obtain ⟨Ao9, co9, eo9⟩ := Kd.R_slice HO_4.out; subst eo9))
      go_ret2
      exact ⟨_, Zy55, Zy35, Zy26⟩
     ·rw [if_neg c5] at H
      have c5b0 : decide (4096 ≤ (x4_1.length : Int)) = false := decide_eq_false c5
      have c5b1 : decide (4096 ≤ x4_1.length) = false := decide_eq_false (by omega)
      clear c5
      by_cases c10 : x4_1.length < 5864062014805
      ·rw [if_pos c10] at H
       have LMc10 := Aside0.mk c10
       clear c10
       obtain ⟨y311, hy311⟩ : ∃ y_ : List (S50), y_ = (x4_1 ++ [(⟨t306, t307⟩ : S50)]) := ⟨_, rfl⟩
       replace H : (gongref05_Parts.l0 k1 t308 y311) = some (r1, r2) := by first | (rw [hy311]; with_reducible exact H) | (have H2_ := (Option.bind_some _ _).symm.trans H; rw [hy311]; with_reducible exact H2_) | (have H2_ := (Option.bind_some _ _).symm.trans H; with_reducible exact H2_) | with_reducible exact H | (rw [hy311]; exact H) | exact H
       have Ny311 := Aside0.mk hy311
       clear hy311
       have H' := Aside0.mk H
       clear H
       go_wp2_with (first | ((with_reducible refine gate_callee (f := 58) rfl ?_); refine goesL_ (some 12) rfl rfl Tryz.func58 (by kernel_rfl) rfl #[.string x0_1] rfl Zq13 ?_; (with_reducible refine (gongref05_Next.calls k1 x0_1 t306 t307 t308 t309 _ A3.out).mono ?_); rintro e w11 ⟨rfl, hb⟩; refine ⟨_, rfl, ?_⟩; replace HO_4 := Aside0.mk (Kd.R_below Zq6 hb); replace HB := Aside0.mk (below_step Zq12 hb); (try clear hb); (try clear hb2); (try clear hk); (try clear hi)) | ((with_reducible refine gate_dst (N := 5) rfl ?_); refine box_event ?hg (N := 5) ?hd (cs := #[.int .i64 0, .string (⟨#[]⟩ : ByteArray)]) (t := 50) ?hr ?_; (case hd => rfl); (case hg => rfl); (case hr => exact Zq2); intro gb310 hg w12 hbox hb; have BK310 := Aside0.mk (hbox); have GW310 := Aside0.mk ((by rw [hg]; exact (below_size Zq12) : w.heap.size ≤ gb310)); have GE310 := Aside0.mk ((by rw [hg]; exact (below_size Zq12) : w.heap.size ≤ gb310)); replace HO_4 := Aside0.mk (Kd.R_below (Kd.R_elderB Zq6 gb310 (Nat.le_of_eq hg.symm)) hb); replace HB := Aside0.mk (below_step Zq12 hb); clear hb hbox hg; obtain ⟨hcz13_0, hcz13_1⟩ := cells2_ BK310.out; obtain ⟨hfz13_0, hfz13_1⟩ := frozen2_ BK310.out; obtain ⟨Ao14, co14, eo14⟩ := Kd.R_slice HO_4.out; subst eo14) | ((with_reducible refine gate_builtin (b := .append) (xs := #[.tmp 22, .tmp 24]) rfl ?_); at_builtin; refine Kd.R_append k50 (w0 := w) w.heap.size rfl (.tmp 22) (.tmp 24) 78 50 (.agg #[(.int .i64 0), (.string ⟨#[]⟩)]) 24 rfl Tryz.underlying78 info50 rfl (by decide) (by omega) (.slice Ao14 x4_1.length co14) x4_1 (⟨t306, t307⟩ : S50) [.int .i64 t306, .string t307] (fun k_ => k_ ≠ gb310) (fun _ => False) rfl Zy60 ?aP (fun _ hk => hk.elim) ?aF ?aO ?aB ?aS ?aL ?_; (case aP => exact k50_mkM _ _ _ (⟨t306, t307⟩ : S50)); (case aB => exact Zy26); (case aF => exact (fun k_ hk => Kd.freshB (g := gb310) (o := .cells #[.int .i64 t306, .string t307] 50 (0, 0)) Zq47 k_ hk)); (case aO => exact (by (with_reducible repeat (first | apply Kd.R_alloc | apply Kd.R_drewN | apply Kd.R_drew)); exact Kd.R_mono (Kd.R_far (p := ⟨gb310, 1, none⟩) (Kd.R_far (p := ⟨gb310, 0, none⟩) (Kd.R_mono HO_4.out (fun k_ hk => (⟨hk, hk.2⟩ : _ ∧ k_ ≠ gb310))) (fun _ hk => hk.2) (.int .i64 t306)) (fun _ hk => hk.2) (.string t307)) (fun _ hk => hk.1.2))); (case aS => exact (below_size Zy26)); (case aL => have := LMc10.out; omega); intro v312 w15 ho hb hg hat; rw [← Ny311.out] at ho; have n0_ := Aside0.mk (blk_grown (g := gb310) (o := .cells #[.int .i64 t306, .string t307] 50 (0, 0)) Zq47 hg (Kd.R_away HO_4.out (fun _ hk => hk.2))); have n1_ := Aside0.mk (hb); have n2_ := Aside0.mk (ho); clear BK310; clear HB; clear HO_4; have BK310 := n0_; have HB := n1_; have HO313 := n2_; clear n0_ n1_ n2_; clear ho hb hg hat))
       go_roundg k1
       case measure => have := HK1.out; omega
       case rel => exact ⟨(t308), (y311), Zq11, H', ⟨by have := HK1.out; omega⟩, ⟨by (with_reducible repeat (first | apply Kd.R_alloc | apply Kd.R_drewN | apply Kd.R_drew)); exact Kd.R_mono HO313.out (fun _ hk => trivial)⟩, ⟨Zy26⟩⟩
      ·rw [if_neg c10] at H
       exact absurd H (by simp)
    ·rw [if_neg c4] at H
     have c4b0 : (t309 == 0) = false := beq_eq_false_iff_ne.mpr c4
     have c4b1 : (t309 != 0) = true := bne_iff_ne.mpr c4
     simp only [Option.some.injEq, Prod.mk.injEq] at H
     obtain ⟨rfl, rfl⟩ := H
     go_wp2_with (first | ((with_reducible refine gate_callee (f := 58) rfl ?_); refine goesL_ (some 12) rfl rfl Tryz.func58 (by kernel_rfl) rfl #[.string x0_1] rfl Zq13 ?_; (with_reducible refine (gongref05_Next.calls k1 x0_1 t306 t307 t308 t309 _ A3.out).mono ?_); rintro e w16 ⟨rfl, hb⟩; refine ⟨_, rfl, ?_⟩; replace HO_4 := Aside0.mk (Kd.R_below Zq6 hb); replace HB := Aside0.mk (below_step Zq12 hb); (try clear hb); (try clear hb2); (try clear hk); (try clear hi)) | ((with_reducible refine gate_dst (N := 5) rfl ?_); refine box_event ?hg (N := 5) ?hd (cs := #[.int .i64 0, .string (⟨#[]⟩ : ByteArray)]) (t := 50) ?hr ?_; (case hd => rfl); (case hg => rfl); (case hr => exact Zq2); intro gb310 hg w17 hbox hb; have BK310 := Aside0.mk (hbox); have GW310 := Aside0.mk ((by rw [hg]; exact (below_size Zq12) : w.heap.size ≤ gb310)); have GE310 := Aside0.mk ((by rw [hg]; exact (below_size Zq12) : w.heap.size ≤ gb310)); replace HO_4 := Aside0.mk (Kd.R_below (Kd.R_elderB Zq6 gb310 (Nat.le_of_eq hg.symm)) hb); replace HB := Aside0.mk (below_step Zq12 hb); clear hb hbox hg; obtain ⟨hcz18_0, hcz18_1⟩ := cells2_ BK310.out; obtain ⟨hfz18_0, hfz18_1⟩ := frozen2_ BK310.out))
     go_ret2
     exact ⟨_, Zy55, Zy35, Zy26⟩
end Go.Proofs.YtfgdnnbhlnbojaaGreatDoor.XPdR
