-- Laid by extprint.py (the session's own driver): functions told by the kit's printer and by hand.
import Derived.Test.YtfmhghlmljlfgaaGreatDoorXTrSx0
import Derived.Test.YtfmhghlmljlfgaaGreatDoorXTrSx11
import Derived.Test.YtfmhghlmljlfgaaGreatDoorXTrSx15
namespace Go.Proofs.YtfmhghlmljlfgaaGreatDoor.XTrS
open Go.RowKit Gong Go.Proofs.YtfmhghlmljlfgaaGreatDoorW.PrintWords Go.Proofs.YtfmhghlmljlfgaaGreatDoorW.PrintLast Go.Proofs.YtfmhghlmljlfgaaGreatDoorW.PrintMore
attribute [local go_sem] max2_int min2_int max_two min_two max_three min_three max_four min_four   -- for this text's walks alone
set_option linter.unusedVariables false
set_option linter.unusedSimpArgs false
mutual
def trap_open.j0 : Nat → Bool → Int → ByteArray → Option (ByteArray × Int × Int × Int × Int × (List (S40)) × Bool)
 | 0, _, _, _ => none
 | k + 1, x32, x289000, x289001 => if x32 = true then (some ((⟨#[]⟩ : ByteArray), 0, 0, 0, 0, ([] : List (S40)), false)) else ((ber_Parts.f k x289001).bind fun bt289 => (if bt289.2 = 0 then (if (bt289.1.length : Int) = 3 then (if 0 < (bt289.1.length : Int) then (if ((rd_T62 bt289.1 0).f0) = 2 then (if 1 < (bt289.1.length : Int) then (trap_open.j1 k bt289.1 (((rd_T62 bt289.1 1).f0) != 4)) else (none)) else (trap_open.j1 k bt289.1 true)) else (none)) else (trap_open.j1 k bt289.1 true)) else (trap_open.j1 k bt289.1 true)))
def trap_open.j1 : Nat → List (S62) → Bool → Option (ByteArray × Int × Int × Int × Int × (List (S40)) × Bool)
 | 0, _, _ => none
 | k + 1, x8, x60 => if x60 = true then (some ((⟨#[]⟩ : ByteArray), 0, 0, 0, 0, ([] : List (S40)), false)) else (if 0 < (x8.length : Int) then ((ber_Number.f ((rd_T62 x8 0).f1)).bind fun bt296 => (if 2 < (x8.length : Int) then ((pdu_Decode.f k ((rd_T62 x8 2).f0) ((rd_T62 x8 2).f1)).bind fun bt299 => (if 1 < (x8.length : Int) then (if bt296.2 = 0 then (if bt299.2.2.2.2.2 = 0 then (some ((rd_T62 x8 1).f1, bt299.1, bt299.2.1, bt299.2.2.1, bt299.2.2.2.1, bt299.2.2.2.2.1, (bt296.1 == 1))) else (some ((rd_T62 x8 1).f1, bt299.1, bt299.2.1, bt299.2.2.1, bt299.2.2.2.1, bt299.2.2.2.2.1, false))) else (some ((rd_T62 x8 1).f1, bt299.1, bt299.2.1, bt299.2.2.1, bt299.2.2.2.1, bt299.2.2.2.2.1, false))) else (none))) else (none))) else (none))
end
def trap_open.f (k : Nat) (a0 : ByteArray) : Option (ByteArray × Int × Int × Int × Int × (List (S40)) × Bool) := (ber_Next.f k a0).bind fun bt284 => (if bt284.2.2.2 = 0 then (if bt284.2.2.1.toList = ([] : List UInt8) then (if bt284.1 = 48 then (trap_open.j0 k (decide ((a0.size : Int) > 65535)) bt284.1 bt284.2.1) else (trap_open.j0 k true bt284.1 bt284.2.1)) else (trap_open.j0 k true bt284.1 bt284.2.1)) else (trap_open.j0 k true bt284.1 bt284.2.1))
def trap_open.T9 : Bool × List (List Nat × List Nat) := (true, [([], []), ([0], [0]), ([1], [1]), ([2], [2]), ([], []), ([], []), ([5], [5]), ([6], [6]), ([7], [7]), ([8, 7], [7, 8]), ([7, 9], [7, 9]), ([10, 7], [10]), ([11], [11]), ([12, 11], [11, 12]), ([11, 13], [11, 13]), ([3, 11, 0, 1, 2, 3], [3]), ([4, 15, 0, 1, 2, 3, 4, 15], [4]), ([14, 16, 0, 1, 2, 3, 4, 5, 6, 7, 8, 9, 10, 11, 12, 13, 14, 15, 16], [14])])
def trap_open.B9 : List Nat := [0, 1, 3, 7, 0, 0, 32, 96, 224, 480, 992, 2016, 4064, 8160, 16352, 4079, 36863, 131071]
theorem trap_open.tab9 : rtab .any (opsOf Tryz.f19 9) = trap_open.T9 := by kernel_rfl
theorem trap_open.bits9 : waitsOk trap_open.T9.2 trap_open.B9 = true := by kernel_rfl
set_option maxHeartbeats 8000000 in
set_option maxRecDepth 100000 in
theorem trap_open.calls (k : Nat) (a0 : ByteArray) (r1 : ByteArray) (r2 : Int) (r3 : Int) (r4 : Int) (r5 : Int) (r6 : List (S40)) (r7 : Bool) (w : World) (hG : Gl w) (h : trap_open.f k a0 = some (r1, r2, r3, r4, r5, r6, r7)) :
  Calls Tryz.prog 19 #[.string a0] w fun e w' => ∃ v5_ : Value, e = .returned (.tuple #[.string r1, .agg #[.int .i64 r2, .int .i64 r3, .int .i64 r4, .int .i64 r5, v5_], .bool r7]) ∧ Kd.R k40 40 w' w.heap.size (fun _ => True) v5_ r6 ∧ Below w.heap.size w w' := by
 have HGl := Aside0.mk hG
 clear hG
 have hu43 := Tryz.underlying43
 have hu62 := Tryz.underlying62
 have HB := Aside0.mk (Below.refl w.heap.size w)
 have H : ((ber_Next.f k a0).bind fun bt284 => (if bt284.2.2.2 = 0 then (if bt284.2.2.1.toList = ([] : List UInt8) then (if bt284.1 = 48 then (trap_open.j0 k (decide ((a0.size : Int) > 65535)) bt284.1 bt284.2.1) else (trap_open.j0 k true bt284.1 bt284.2.1)) else (trap_open.j0 k true bt284.1 bt284.2.1)) else (trap_open.j0 k true bt284.1 bt284.2.1))) = some (r1, r2, r3, r4, r5, r6, r7) := h
 clear h
 replace H := Option.bind_eq_some_iff.mp H
 obtain ⟨⟨t284, t285, t286, t287⟩, A20, H⟩ := H
 replace H : (if t287 = 0 then (if t286.toList = ([] : List UInt8) then (if t284 = 48 then (trap_open.j0 k (decide ((a0.size : Int) > 65535)) t284 t285) else (trap_open.j0 k true t284 t285)) else (trap_open.j0 k true t284 t285)) else (trap_open.j0 k true t284 t285)) = some (r1, r2, r3, r4, r5, r6, r7) := H
 have A2 := Aside0.mk A20
 clear A20
 have HC3 := Aside0.mk H
 clear H
 go_enter Tryz.func19, Tryz.ntmps19
 go_upto_region 2 with (first | ((with_reducible refine gate_dst (N := 3) rfl ?_); (try (refine gate_guard (by rfl) ?_; dsimp only)); refine box_event ?hg (N := 3) ?hd (cs := #[.int .i64 0, .int .i64 0, .int .i64 0, .int .i64 0, .slice none 0 0]) (t := 43) ?hr ?_; (case hd => rfl); (case hg => rfl); (case hr => exact Zq2); intro gb283 hg w4 hbox hb; have BK283 := Aside0.mk (hbox); have GW283 := Aside0.mk ((by rw [hg]; exact (below_size Zq13) : w.heap.size ≤ gb283)); have GE283 := Aside0.mk ((by rw [hg]; exact (below_size Zq13) : w.heap.size ≤ gb283)); replace HB := Aside0.mk (below_step Zq13 hb); clear hb hbox hg) | ((with_reducible refine gate_callee (f := 25) rfl ?_); refine goesL_ (some 13) rfl rfl Tryz.func25 (by kernel_rfl) rfl #[.string a0] rfl Zq14 ?_; (with_reducible refine (ber_Next.calls k a0 t284 t285 t286 t287 _ A2.out).mono ?_); rintro e w5 ⟨rfl, hb⟩; refine ⟨_, rfl, ?_⟩; replace BK283 := Aside0.mk (blkb_ BK283.out Zq52 hb); replace HB := Aside0.mk (below_step Zq25 hb); (try clear hb); (try clear hb2); (try clear hk); (try clear hi)) | ((with_reducible refine gate_dst (N := 5) rfl ?_); (try (refine gate_guard (by rfl) ?_; dsimp only)); refine box_event ?hg (N := 5) ?hd (cs := #[.int .i64 0, .string (⟨#[]⟩ : ByteArray)]) (t := 62) ?hr ?_; (case hd => rfl); (case hg => rfl); (case hr => exact Zq2); intro gb288 hg w6 hbox hb; have BK288 := Aside0.mk (hbox); have GW288 := Aside0.mk ((by rw [hg]; exact (below_size Zq25) : w.heap.size ≤ gb288)); have GE288 := Aside0.mk ((by rw [hg]; exact (below_size Zq25) : w.heap.size ≤ gb288)); have NB283_288 := Aside0.mk ((by rw [hg]; exact Nat.ne_of_lt (blk_lt (g := gb283) (o := .cells #[.int .i64 0, .int .i64 0, .int .i64 0, .int .i64 0, .slice none 0 0] 43 (0, 0)) Zq52) : gb283 ≠ gb288)); have NB288_283 := Aside0.mk ((by rw [hg]; exact Nat.ne_of_gt (blk_lt (g := gb283) (o := .cells #[.int .i64 0, .int .i64 0, .int .i64 0, .int .i64 0, .slice none 0 0] 43 (0, 0)) Zq52) : gb288 ≠ gb283)); replace BK283 := Aside0.mk (blkb_ BK283.out Zq52 hb); replace HB := Aside0.mk (below_step Zq25 hb); clear hb hbox hg; have hnb7 := NB288_283.out; have hnc7 := NB283_288.out; obtain ⟨hcz8_0, hcz8_1⟩ := cells2_ BK288.out; obtain ⟨hfz8_0, hfz8_1⟩ := frozen2_ BK288.out))
 (try simp only [Act.put, List.setIfInBounds_toArray, List.set_cons_zero, List.set_cons_succ])
 go_cut [32] (fun v32 wc => ∃ (kq : Nat) (x32_2 : Bool), v32 = .bool x32_2 ∧ Aside0 (trap_open.j0 kq x32_2 t284 t285 = some (r1, r2, r3, r4, r5, r6, r7)) ∧ Aside0 (kq ≤ k) ∧ Aside0 (wc.heap[gb283]? = some (.cells #[.int .i64 0, .int .i64 0, .int .i64 0, .int .i64 0, (.slice none 0 0)] 43 (0, 0))) ∧ Aside0 (wc.heap[gb288]? = some (.cells #[.int .i64 t284, .string t285] 62 (0, 0))) ∧ Aside0 (Below w.heap.size w wc))
 case first =>
  have H := HC3.out
  clear HC3
  by_cases c9 : t287 = 0
  ·rw [if_pos c9] at H
   have c9b0 : (t287 == 0) = true := beq_iff_eq.mpr c9
   have c9b1 : (t287 != 0) = false := bne_eq_false_iff_eq.mpr c9
   clear c9
   (first | rw [c9b0] | (simp only [i64_w, i32_w]; rw [c9b0]) | skip)
   by_cases c10 : t286.toList = ([] : List UInt8)
   ·rw [if_pos c10] at H
    have c10b0 : (t286.toList == ([] : List UInt8)) = true := beq_iff_eq.mpr c10
    have c10b1 : (t286.toList != ([] : List UInt8)) = false := bne_eq_false_iff_eq.mpr c10
    clear c10
    by_cases c11 : t284 = 48
    ·rw [if_pos c11] at H
     have c11b0 : (t284 == 48) = true := beq_iff_eq.mpr c11
     have c11b1 : (t284 != 48) = false := bne_eq_false_iff_eq.mpr c11
     clear c11
     have H' := Aside0.mk H
     clear H
     have hnb12 := NB288_283.out
     have hnc12 := NB283_288.out
     obtain ⟨hcz13_0, hcz13_1⟩ := cells2_ BK288.out
     obtain ⟨hfz13_0, hfz13_1⟩ := frozen2_ BK288.out
     go_wp2
     go_meet
     case rel => exact ⟨_, (decide ((a0.size : Int) > 65535)), Zq12, H', ⟨Zy76⟩, ⟨Zy10⟩, ⟨Zy9⟩, ⟨Zy17⟩⟩
    ·rw [if_neg c11] at H
     have c11b0 : (t284 == 48) = false := beq_eq_false_iff_ne.mpr c11
     have c11b1 : (t284 != 48) = true := bne_iff_ne.mpr c11
     have H' := Aside0.mk H
     clear H
     have hnb14 := NB288_283.out
     have hnc14 := NB283_288.out
     obtain ⟨hcz15_0, hcz15_1⟩ := cells2_ BK288.out
     obtain ⟨hfz15_0, hfz15_1⟩ := frozen2_ BK288.out
     go_wp2
     go_meet
     case rel => exact ⟨_, (true), Zq12, H', ⟨Zy76⟩, ⟨Zy10⟩, ⟨Zy9⟩, ⟨Zy17⟩⟩
   ·rw [if_neg c10] at H
    have c10b0 : (t286.toList == ([] : List UInt8)) = false := beq_eq_false_iff_ne.mpr c10
    have c10b1 : (t286.toList != ([] : List UInt8)) = true := bne_iff_ne.mpr c10
    have H' := Aside0.mk H
    clear H
    go_wp2
    go_meet
    case rel => exact ⟨_, (true), Zq12, H', ⟨Zy76⟩, ⟨Zy10⟩, ⟨Zy9⟩, ⟨Zy17⟩⟩
  ·rw [if_neg c9] at H
   have c9b0 : (t287 == 0) = false := beq_eq_false_iff_ne.mpr c9
   have c9b1 : (t287 != 0) = true := bne_iff_ne.mpr c9
   (first | rw [c9b0] | (simp only [i64_w, i32_w]; rw [c9b0]) | skip)
   have H' := Aside0.mk H
   clear H
   go_wp2
   go_meet
   case rel => exact ⟨_, (true), Zq12, H', ⟨Zy76⟩, ⟨Zy10⟩, ⟨Zy9⟩, ⟨Zy17⟩⟩
 case rest =>
  clear HC3
  (try clear c1); (try clear c2); (try clear p2); (try clear c7); (try clear c9); (try clear c9b0); (try clear c9b1); (try clear c10); (try clear c10b0); (try clear c10b1); (try clear c11); (try clear c11b0); (try clear c11b1); (try clear c12); (try clear c14); (try clear hcz13_0); (try clear hcz13_1); (try clear hcz15_0); (try clear hcz15_1); (try clear hcz8_0); (try clear hcz8_1); (try clear hfz13_0); (try clear hfz13_1); (try clear hfz15_0); (try clear hfz15_1); (try clear hfz8_0); (try clear hfz8_1)
  obtain ⟨kq, x32_2, rfl, HA, HJ2, BK283, BK288, HB⟩ := hcut
  cases kq with
  | zero => exact absurd HA.out (by simp [trap_open.j0])
  | succ kj2 =>
   have H := HA.out
   clear HA
   simp only [trap_open.j0] at H
   by_cases c16 : x32_2 = true
   ·subst c16
    have H1 : (some ((⟨#[]⟩ : ByteArray), 0, 0, 0, 0, ([] : List (S40)), false)) = some (r1, r2, r3, r4, r5, r6, r7) := by rw [if_pos rfl] at H; exact H
    clear H
    have H := H1
    clear H1
    simp only [Option.some.injEq, Prod.mk.injEq] at H
    obtain ⟨rfl, rfl, rfl, rfl, rfl, rfl, rfl⟩ := H
    have hnb17 := NB283_288.out
    have hnc17 := NB288_283.out
    obtain ⟨hcz18_0, hcz18_1, hcz18_2, hcz18_3, hcz18_4⟩ := cells5_ BK283.out
    obtain ⟨hfz18_0, hfz18_1, hfz18_2, hfz18_3, hfz18_4⟩ := frozen5_ BK283.out
    go_wp2
    refine bodyPost_ret (results_list (rs := [.tmp 2, .cell 3 43, .tmp 4]) rfl (by simp) (.tmp (.cell gb283 43 #[.int .i64 0, .int .i64 0, .int .i64 0, .int .i64 0, .slice none 0 0] (0, 0) _ rfl Zq57 Tryz.underlying43 rfl (by kernel_rfl) (.tmp .nil)))) rfl ?_
    exact ⟨_, Zy69, Zy45, Zy17⟩
   ·replace c16 := Bool.eq_false_iff.mpr c16
    subst c16
    have H1 : ((ber_Parts.f kj2 t285).bind fun bt289 => (if bt289.2 = 0 then (if (bt289.1.length : Int) = 3 then (if 0 < (bt289.1.length : Int) then (if ((rd_T62 bt289.1 0).f0) = 2 then (if 1 < (bt289.1.length : Int) then (trap_open.j1 kj2 bt289.1 (((rd_T62 bt289.1 1).f0) != 4)) else (none)) else (trap_open.j1 kj2 bt289.1 true)) else (none)) else (trap_open.j1 kj2 bt289.1 true)) else (trap_open.j1 kj2 bt289.1 true))) = some (r1, r2, r3, r4, r5, r6, r7) := by rw [if_neg (show ¬ (false = true) by decide)] at H; exact H
    clear H
    have H := H1
    clear H1
    replace H := Option.bind_eq_some_iff.mp H
    obtain ⟨⟨t289, t290⟩, A190, H⟩ := H
    replace H : (if t290 = 0 then (if (t289.length : Int) = 3 then (if 0 < (t289.length : Int) then (if ((rd_T62 t289 0).f0) = 2 then (if 1 < (t289.length : Int) then (trap_open.j1 kj2 t289 (((rd_T62 t289 1).f0) != 4)) else (none)) else (trap_open.j1 kj2 t289 true)) else (none)) else (trap_open.j1 kj2 t289 true)) else (trap_open.j1 kj2 t289 true)) = some (r1, r2, r3, r4, r5, r6, r7) := H
    have A19 := Aside0.mk A190
    clear A190
    have HC20 := Aside0.mk H
    clear H
    have hnb21 := NB288_283.out
    have hnc21 := NB283_288.out
    obtain ⟨hcz22_0, hcz22_1⟩ := cells2_ BK288.out
    obtain ⟨hfz22_0, hfz22_1⟩ := frozen2_ BK288.out
    go_upto_region 5 with (first | ((with_reducible refine gate_callee (f := 26) rfl ?_); refine goesL_ (some 37) rfl rfl Tryz.func26 (by kernel_rfl) rfl #[.string t285] rfl Zq14 ?_; (with_reducible refine (ber_Parts.calls kj2 t285 t289 t290 _ A19.out).mono ?_); rintro e w23 ⟨v291, rfl, ho0, hb⟩; refine ⟨_, rfl, ?_⟩; have HO292 := Aside0.mk (Kd.R_lower (Kd.R_newB ho0 (g := gb288) (o := .cells #[.int .i64 t284, .string t285] 62 (0, 0)) Zq52) (below_size Zq46)); replace BK283 := Aside0.mk (blkb_ BK283.out Zq52 hb); replace BK288 := Aside0.mk (blkb_ BK288.out Zq52 hb); replace HB := Aside0.mk (below_step Zq46 hb); (try clear hb); (try clear hb2); (try clear hk); (try clear hi); (try clear ho0)))
    (try simp only [Act.put, List.setIfInBounds_toArray, List.set_cons_zero, List.set_cons_succ])
    go_cut [60] (fun v60 wc => ∃ (kq : Nat) (x60_19 : Bool), v60 = .bool x60_19 ∧ Aside0 (trap_open.j1 kq t289 x60_19 = some (r1, r2, r3, r4, r5, r6, r7)) ∧ Aside0 (kq ≤ kj2) ∧ Aside0 (Kd.R k62 62 wc w.heap.size (fun k_ => k_ ≠ gb288) v291 t289) ∧ Aside0 (wc.heap[gb283]? = some (.cells #[.int .i64 0, .int .i64 0, .int .i64 0, .int .i64 0, (.slice none 0 0)] 43 (0, 0))) ∧ Aside0 (wc.heap[gb288]? = some (.cells #[.int .i64 t284, .string t285] 62 (0, 0))) ∧ Aside0 (Below w.heap.size w wc))
    case first =>
     have H := HC20.out
     clear HC20
     by_cases c24 : t290 = 0
     ·rw [if_pos c24] at H
      have c24b0 : (t290 == 0) = true := beq_iff_eq.mpr c24
      have c24b1 : (t290 != 0) = false := bne_eq_false_iff_eq.mpr c24
      clear c24
      (first | rw [c24b0] | (simp only [i64_w, i32_w]; rw [c24b0]) | skip)
      by_cases c25 : (t289.length : Int) = 3
      ·rw [if_pos c25] at H
       have c25b0 : ((t289.length : Int) == 3) = true := beq_iff_eq.mpr c25
       have c25b1 : ((t289.length : Int) != 3) = false := bne_eq_false_iff_eq.mpr c25
       clear c25
       by_cases c26 : 0 < (t289.length : Int)
       ·rw [if_pos c26] at H
        have c26b0 : decide (0 < (t289.length : Int)) = true := decide_eq_true c26
        have c26b1 : decide (0 < t289.length) = true := decide_eq_true (by omega)
        clear c26
        by_cases c27 : ((rd_T62 t289 0).f0) = 2
        ·rw [if_pos c27] at H
         have c27b0 : (((rd_T62 t289 0).f0) == 2) = true := beq_iff_eq.mpr c27
         have c27b1 : (((rd_T62 t289 0).f0) != 2) = false := bne_eq_false_iff_eq.mpr c27
         clear c27
         by_cases c28 : 1 < (t289.length : Int)
         ·rw [if_pos c28] at H
          have c28b0 : decide (1 < (t289.length : Int)) = true := decide_eq_true c28
          have c28b1 : decide (1 < t289.length) = true := decide_eq_true (by omega)
          clear c28
          have H' := Aside0.mk H
          clear H
          obtain ⟨Ao29, co29, eo29⟩ := Kd.R_slice HO292.out
          subst eo29
          have p293 : 0 ≤ (0 : Int) := (by omega)
          have q293 : 0 < (t289.length : Int) := of_decide_eq_true Zq1
          obtain ⟨ad293, e293, hx293_0, hx293_1⟩ := at_T62 (Kd.R_reads' HO292.out).2.2 0 p293 q293
          cases e293
          have qi293 : (0 < t289.length) = True := eq_true (by omega)
          (try rw [show ((0 : Int)).toNat = 0 from rfl] at hx293_0)
          (try rw [show 0 * 2 = 0 from rfl] at hx293_0)
          (try rw [Addr.add_zero'] at hx293_0)
          (try rw [show ((0 : Int)).toNat = 0 from rfl] at hx293_1)
          (try rw [show 0 * 2 = 0 from rfl] at hx293_1)
          (try rw [Addr.add_zero'] at hx293_1)
          replace p293 := eq_true p293
          replace q293 := eq_true q293
          have p294 : 0 ≤ (1 : Int) := (by omega)
          have q294 : 1 < (t289.length : Int) := of_decide_eq_true Zq1
          obtain ⟨ad294, e294, hx294_0, hx294_1⟩ := at_T62 (Kd.R_reads' HO292.out).2.2 1 p294 q294
          obtain rfl : ad293 = ad294 := (by injection e294)
          (try simp only [show (1 : Int).toNat = 1 from rfl, Nat.reduceMul, Nat.reduceEqDiff, Go.Addr.add, ↓reduceIte] at hx294_0)
          (try simp only [show (1 : Int).toNat = 1 from rfl, Nat.reduceMul, Nat.reduceEqDiff, Go.Addr.add, ↓reduceIte] at hx294_1)
          have qi294 : (1 < t289.length) = True := eq_true (by omega)
          (try rw [show ((1 : Int)).toNat = 1 from rfl] at hx294_0)
          (try rw [show 1 * 2 = 2 from rfl] at hx294_0)
          (try rw [show ((1 : Int)).toNat = 1 from rfl] at hx294_1)
          (try rw [show 1 * 2 = 2 from rfl] at hx294_1)
          replace p294 := eq_true p294
          replace q294 := eq_true q294
          go_wp2
          go_meet
          case rel => exact ⟨_, ((((rd_T62 t289 1).f0) != 4)), Zq12, H', ⟨Zy72⟩, ⟨Zy48⟩, ⟨Zy54⟩, ⟨Zy55⟩, ⟨Zy17⟩⟩
         ·rw [if_neg c28] at H
          exact absurd H (by simp)
        ·rw [if_neg c27] at H
         have c27b0 : (((rd_T62 t289 0).f0) == 2) = false := beq_eq_false_iff_ne.mpr c27
         have c27b1 : (((rd_T62 t289 0).f0) != 2) = true := bne_iff_ne.mpr c27
         have H' := Aside0.mk H
         clear H
         obtain ⟨Ao30, co30, eo30⟩ := Kd.R_slice HO292.out
         subst eo30
         have p293 : 0 ≤ (0 : Int) := (by omega)
         have q293 : 0 < (t289.length : Int) := of_decide_eq_true Zq1
         obtain ⟨ad293, e293, hx293_0, hx293_1⟩ := at_T62 (Kd.R_reads' HO292.out).2.2 0 p293 q293
         cases e293
         have qi293 : (0 < t289.length) = True := eq_true (by omega)
         (try rw [show ((0 : Int)).toNat = 0 from rfl] at hx293_0)
         (try rw [show 0 * 2 = 0 from rfl] at hx293_0)
         (try rw [Addr.add_zero'] at hx293_0)
         (try rw [show ((0 : Int)).toNat = 0 from rfl] at hx293_1)
         (try rw [show 0 * 2 = 0 from rfl] at hx293_1)
         (try rw [Addr.add_zero'] at hx293_1)
         replace p293 := eq_true p293
         replace q293 := eq_true q293
         go_wp2
         go_meet
         case rel => exact ⟨_, (true), Zq12, H', ⟨Zy72⟩, ⟨Zy48⟩, ⟨Zy54⟩, ⟨Zy55⟩, ⟨Zy17⟩⟩
       ·rw [if_neg c26] at H
        exact absurd H (by simp)
      ·rw [if_neg c25] at H
       have c25b0 : ((t289.length : Int) == 3) = false := beq_eq_false_iff_ne.mpr c25
       have c25b1 : ((t289.length : Int) != 3) = true := bne_iff_ne.mpr c25
       have H' := Aside0.mk H
       clear H
       obtain ⟨Ao31, co31, eo31⟩ := Kd.R_slice HO292.out
       subst eo31
       go_wp2
       go_meet
       case rel => exact ⟨_, (true), Zq12, H', ⟨Zy72⟩, ⟨Zy48⟩, ⟨Zy54⟩, ⟨Zy55⟩, ⟨Zy17⟩⟩
     ·rw [if_neg c24] at H
      have c24b0 : (t290 == 0) = false := beq_eq_false_iff_ne.mpr c24
      have c24b1 : (t290 != 0) = true := bne_iff_ne.mpr c24
      (first | rw [c24b0] | (simp only [i64_w, i32_w]; rw [c24b0]) | skip)
      have H' := Aside0.mk H
      clear H
      go_wp2
      go_meet
      case rel => exact ⟨_, (true), Zq12, H', ⟨Zy72⟩, ⟨Zy48⟩, ⟨Zy54⟩, ⟨Zy55⟩, ⟨Zy17⟩⟩
    case rest =>
     clear HC20
     (try clear c1); (try clear c2); (try clear p2); (try clear q2); (try clear hx2); (try clear qi2); (try clear c7); (try clear c9); (try clear c9b0); (try clear c9b1); (try clear c10); (try clear c10b0); (try clear c10b1); (try clear c11); (try clear c11b0); (try clear c11b1); (try clear c12); (try clear c14); (try clear c16); (try clear c17); (try clear c19); (try clear c21); (try clear c24); (try clear c24b0); (try clear c24b1); (try clear c25); (try clear c25b0); (try clear c25b1); (try clear c26); (try clear c26b0); (try clear c26b1); (try clear c27); (try clear c27b0); (try clear c27b1); (try clear c28); (try clear c28b0); (try clear c28b1); (try clear p29); (try clear q29); (try clear hx29); (try clear qi29); (try clear hcz13_0); (try clear hcz13_1); (try clear hcz15_0); (try clear hcz15_1); (try clear hcz18_0); (try clear hcz18_1); (try clear hcz18_2); (try clear hcz18_3); (try clear hcz18_4); (try clear hcz22_0); (try clear hcz22_1); (try clear hcz8_0); (try clear hcz8_1); (try clear hfz13_0); (try clear hfz13_1); (try clear hfz15_0); (try clear hfz15_1); (try clear hfz18_0); (try clear hfz18_1); (try clear hfz18_2); (try clear hfz18_3); (try clear hfz18_4); (try clear hfz22_0); (try clear hfz22_1); (try clear hfz8_0); (try clear hfz8_1); (try clear hx293_0); (try clear hx293_1); (try clear hx294_0); (try clear hx294_1); (try clear p293); (try clear p294); (try clear q293); (try clear q294)
     obtain ⟨kq, x60_19, rfl, HA, HJ19, HO_8, BK283, BK288, HB⟩ := hcut
     cases kq with
     | zero => exact absurd HA.out (by simp [trap_open.j1])
     | succ kj19 =>
      have H := HA.out
      clear HA
      simp only [trap_open.j1] at H
      by_cases c32 : x60_19 = true
      ·subst c32
       have H1 : (some ((⟨#[]⟩ : ByteArray), 0, 0, 0, 0, ([] : List (S40)), false)) = some (r1, r2, r3, r4, r5, r6, r7) := by rw [if_pos rfl] at H; exact H
       clear H
       have H := H1
       clear H1
       simp only [Option.some.injEq, Prod.mk.injEq] at H
       obtain ⟨rfl, rfl, rfl, rfl, rfl, rfl, rfl⟩ := H
       have hnb33 := NB283_288.out
       have hnc33 := NB288_283.out
       obtain ⟨hcz34_0, hcz34_1, hcz34_2, hcz34_3, hcz34_4⟩ := cells5_ BK283.out
       obtain ⟨hfz34_0, hfz34_1, hfz34_2, hfz34_3, hfz34_4⟩ := frozen5_ BK283.out
       go_wp2
       refine bodyPost_ret (results_list (rs := [.tmp 2, .cell 3 43, .tmp 4]) rfl (by simp) (.tmp (.cell gb283 43 #[.int .i64 0, .int .i64 0, .int .i64 0, .int .i64 0, .slice none 0 0] (0, 0) _ rfl Zq57 Tryz.underlying43 rfl (by kernel_rfl) (.tmp .nil)))) rfl ?_
       exact ⟨_, Zy69, Zy45, Zy17⟩
      ·replace c32 := Bool.eq_false_iff.mpr c32
       subst c32
       have H1 : (if 0 < (t289.length : Int) then ((ber_Number.f ((rd_T62 t289 0).f1)).bind fun bt296 => (if 2 < (t289.length : Int) then ((pdu_Decode.f kj19 ((rd_T62 t289 2).f0) ((rd_T62 t289 2).f1)).bind fun bt299 => (if 1 < (t289.length : Int) then (if bt296.2 = 0 then (if bt299.2.2.2.2.2 = 0 then (some ((rd_T62 t289 1).f1, bt299.1, bt299.2.1, bt299.2.2.1, bt299.2.2.2.1, bt299.2.2.2.2.1, (bt296.1 == 1))) else (some ((rd_T62 t289 1).f1, bt299.1, bt299.2.1, bt299.2.2.1, bt299.2.2.2.1, bt299.2.2.2.2.1, false))) else (some ((rd_T62 t289 1).f1, bt299.1, bt299.2.1, bt299.2.2.1, bt299.2.2.2.1, bt299.2.2.2.2.1, false))) else (none))) else (none))) else (none)) = some (r1, r2, r3, r4, r5, r6, r7) := by rw [if_neg (show ¬ (false = true) by decide)] at H; exact H
       clear H
       have H := H1
       clear H1
       by_cases c35 : 0 < (t289.length : Int)
       ·rw [if_pos c35] at H
        have c35b0 : decide (0 < (t289.length : Int)) = true := decide_eq_true c35
        have c35b1 : decide (0 < t289.length) = true := decide_eq_true (by omega)
        clear c35
        replace H := Option.bind_eq_some_iff.mp H
        obtain ⟨⟨t296, t297⟩, A360, H⟩ := H
        replace H : (if 2 < (t289.length : Int) then ((pdu_Decode.f kj19 ((rd_T62 t289 2).f0) ((rd_T62 t289 2).f1)).bind fun bt299 => (if 1 < (t289.length : Int) then (if t297 = 0 then (if bt299.2.2.2.2.2 = 0 then (some ((rd_T62 t289 1).f1, bt299.1, bt299.2.1, bt299.2.2.1, bt299.2.2.2.1, bt299.2.2.2.2.1, (t296 == 1))) else (some ((rd_T62 t289 1).f1, bt299.1, bt299.2.1, bt299.2.2.1, bt299.2.2.2.1, bt299.2.2.2.2.1, false))) else (some ((rd_T62 t289 1).f1, bt299.1, bt299.2.1, bt299.2.2.1, bt299.2.2.2.1, bt299.2.2.2.2.1, false))) else (none))) else (none)) = some (r1, r2, r3, r4, r5, r6, r7) := H
        have A36 := Aside0.mk A360
        clear A360
        by_cases c37 : 2 < (t289.length : Int)
        ·rw [if_pos c37] at H
         have c37b0 : decide (2 < (t289.length : Int)) = true := decide_eq_true c37
         have c37b1 : decide (2 < t289.length) = true := decide_eq_true (by omega)
         clear c37
         replace H := Option.bind_eq_some_iff.mp H
         obtain ⟨⟨t299, t300, t301, t302, t303, t306⟩, A380, H⟩ := H
         replace H : (if 1 < (t289.length : Int) then (if t297 = 0 then (if t306 = 0 then (some ((rd_T62 t289 1).f1, t299, t300, t301, t302, t303, (t296 == 1))) else (some ((rd_T62 t289 1).f1, t299, t300, t301, t302, t303, false))) else (some ((rd_T62 t289 1).f1, t299, t300, t301, t302, t303, false))) else (none)) = some (r1, r2, r3, r4, r5, r6, r7) := H
         have A38 := Aside0.mk A380
         clear A380
         by_cases c39 : 1 < (t289.length : Int)
         ·rw [if_pos c39] at H
          have c39b0 : decide (1 < (t289.length : Int)) = true := decide_eq_true c39
          have c39b1 : decide (1 < t289.length) = true := decide_eq_true (by omega)
          clear c39
          by_cases c40 : t297 = 0
          ·rw [if_pos c40] at H
           have c40b0 : (t297 == 0) = true := beq_iff_eq.mpr c40
           have c40b1 : (t297 != 0) = false := bne_eq_false_iff_eq.mpr c40
           clear c40
           by_cases c41 : t306 = 0
           ·rw [if_pos c41] at H
            have c41b0 : (t306 == 0) = true := beq_iff_eq.mpr c41
            have c41b1 : (t306 != 0) = false := bne_eq_false_iff_eq.mpr c41
            clear c41
            simp only [Option.some.injEq, Prod.mk.injEq] at H
            obtain ⟨rfl, rfl, rfl, rfl, rfl, rfl, rfl⟩ := H
            obtain ⟨Ao42, co42, eo42⟩ := Kd.R_slice HO_8.out
            subst eo42
            have p295 : 0 ≤ (0 : Int) := (by omega)
            have q295 : 0 < (t289.length : Int) := of_decide_eq_true Zq1
            obtain ⟨ad295, e295, hx295_0, hx295_1⟩ := at_T62 (Kd.R_reads' HO_8.out).2.2 0 p295 q295
            cases e295
            have qi295 : (0 < t289.length) = True := eq_true (by omega)
            (try rw [show ((0 : Int)).toNat = 0 from rfl] at hx295_0)
            (try rw [show 0 * 2 = 0 from rfl] at hx295_0)
            (try rw [Addr.add_zero'] at hx295_0)
            (try rw [show ((0 : Int)).toNat = 0 from rfl] at hx295_1)
            (try rw [show 0 * 2 = 0 from rfl] at hx295_1)
            (try rw [Addr.add_zero'] at hx295_1)
            replace p295 := eq_true p295
            replace q295 := eq_true q295
            try go_wp2_with (first | ((with_reducible refine gate_callee (f := 34) rfl ?_); refine goesL_ (some 67) rfl rfl Tryz.func34 (by kernel_rfl) rfl #[.string ((rd_T62 t289 0).f1)] rfl Zq14 ?_; (with_reducible refine (ber_Number.calls ((rd_T62 t289 0).f1) t296 t297 _ A36.out).mono ?_); rintro e w43 ⟨rfl, hb⟩; refine ⟨_, rfl, ?_⟩; replace HO_8 := Aside0.mk (Kd.R_below Zq8 hb); replace BK283 := Aside0.mk (blkb_ BK283.out Zq52 hb); replace BK288 := Aside0.mk (blkb_ BK288.out Zq52 hb); replace HB := Aside0.mk (below_step Zq46 hb); (try clear hb); (try clear hb2); (try clear hk); (try clear hi); have p298 : 0 ≤ (2 : Int) := (by omega); have q298 : 2 < (t289.length : Int) := of_decide_eq_true Zq1; obtain ⟨ad298, e298, hx298_0, hx298_1⟩ := at_T62 (Kd.R_reads' HO_8.out).2.2 2 p298 q298; obtain rfl : ad295 = ad298 := (by injection e298); (try simp only [show (2 : Int).toNat = 2 from rfl, Nat.reduceMul, Nat.reduceEqDiff, Go.Addr.add, ↓reduceIte] at hx298_0); (try simp only [show (2 : Int).toNat = 2 from rfl, Nat.reduceMul, Nat.reduceEqDiff, Go.Addr.add, ↓reduceIte] at hx298_1); have qi298 : (2 < t289.length) = True := eq_true (by omega); (try rw [show ((2 : Int)).toNat = 2 from rfl] at hx298_0); (try rw [show 2 * 2 = 4 from rfl] at hx298_0); (try rw [show ((2 : Int)).toNat = 2 from rfl] at hx298_1); (try rw [show 2 * 2 = 4 from rfl] at hx298_1); replace p298 := eq_true p298; replace q298 := eq_true q298) | ((with_reducible refine gate_callee (f := 27) rfl ?_); refine goesL_ (some 74) rfl rfl Tryz.func27 (by kernel_rfl) rfl #[.agg #[.int .i64 ((rd_T62 t289 2).f0), .string ((rd_T62 t289 2).f1)]] rfl Zq14 ?_; (with_reducible refine (pdu_Decode.calls kj19 ((rd_T62 t289 2).f0) ((rd_T62 t289 2).f1) t299 t300 t301 t302 t303 t306 _ ?side1 A38.out).mono ?_); (case side1 => exact Zq71); rintro e w44 ⟨v304, rfl, ho0, hb⟩; refine ⟨_, rfl, ?_⟩; have HO305 := Aside0.mk (Kd.R_lower ho0 (below_size Zq46)); replace HO_8 := Aside0.mk (Kd.R_below Zq8 hb); replace BK283 := Aside0.mk (blkb_ BK283.out Zq52 hb); replace BK288 := Aside0.mk (blkb_ BK288.out Zq52 hb); replace HB := Aside0.mk (below_step Zq46 hb); (try clear hb); (try clear hb2); (try clear hk); (try clear hi); (try clear ho0); have hnb45 := NB283_288.out; have hnc45 := NB288_283.out; obtain ⟨hcz46_0, hcz46_1, hcz46_2, hcz46_3, hcz46_4⟩ := cells5_ BK283.out; obtain ⟨hfz46_0, hfz46_1, hfz46_2, hfz46_3, hfz46_4⟩ := frozen5_ BK283.out; obtain ⟨Ao47, co47, eo47⟩ := Kd.R_slice HO305.out; subst eo47))
            have n0_ : Aside0 (Kd.R k62 62 (((((w44.setCell ⟨gb283, 0, none⟩ (.int .i64 t299)).setCell ⟨gb283, 1, none⟩ (.int .i64 t300)).setCell ⟨gb283, 2, none⟩ (.int .i64 t301)).setCell ⟨gb283, 3, none⟩ (.int .i64 t302)).setCell ⟨gb283, 4, none⟩ (.slice Ao47 t303.length co47)) w.heap.size (fun k_ => k_ ≠ gb288) (.slice (some ad295) t289.length co42) t289) := ⟨by (with_reducible repeat (first | apply Kd.R_alloc | apply Kd.R_drewN | apply Kd.R_drew)); exact Kd.R_mono (Kd.R_far (p := ⟨gb283, 4, none⟩) (Kd.R_far (p := ⟨gb283, 3, none⟩) (Kd.R_far (p := ⟨gb283, 2, none⟩) (Kd.R_far (p := ⟨gb283, 1, none⟩) (Kd.R_far (p := ⟨gb283, 0, none⟩) (Kd.R_types HO_8.out BK283.out (by decide)) (fun _ hk => hk.2) (.int .i64 t299)) (fun _ hk => hk.2) (.int .i64 t300)) (fun _ hk => hk.2) (.int .i64 t301)) (fun _ hk => hk.2) (.int .i64 t302)) (fun _ hk => hk.2) (.slice Ao47 t303.length co47)) (fun _ hk => hk.1)⟩
            have n1_ : Aside0 (Kd.R k40 40 (((((w44.setCell ⟨gb283, 0, none⟩ (.int .i64 t299)).setCell ⟨gb283, 1, none⟩ (.int .i64 t300)).setCell ⟨gb283, 2, none⟩ (.int .i64 t301)).setCell ⟨gb283, 3, none⟩ (.int .i64 t302)).setCell ⟨gb283, 4, none⟩ (.slice Ao47 t303.length co47)) w.heap.size (fun _ => True) (.slice Ao47 t303.length co47) t303) := ⟨Zy5⟩
            have n2_ : Aside0 ((((((w44.setCell ⟨gb283, 0, none⟩ (.int .i64 t299)).setCell ⟨gb283, 1, none⟩ (.int .i64 t300)).setCell ⟨gb283, 2, none⟩ (.int .i64 t301)).setCell ⟨gb283, 3, none⟩ (.int .i64 t302)).setCell ⟨gb283, 4, none⟩ (.slice Ao47 t303.length co47)).heap[gb283]? = some (.cells #[.int .i64 t299, .int .i64 t300, .int .i64 t301, .int .i64 t302, .slice Ao47 t303.length co47] 43 (0, 0))) := ⟨Zy1⟩
            have n3_ : Aside0 ((((((w44.setCell ⟨gb283, 0, none⟩ (.int .i64 t299)).setCell ⟨gb283, 1, none⟩ (.int .i64 t300)).setCell ⟨gb283, 2, none⟩ (.int .i64 t301)).setCell ⟨gb283, 3, none⟩ (.int .i64 t302)).setCell ⟨gb283, 4, none⟩ (.slice Ao47 t303.length co47)).heap[gb288]? = some (.cells #[.int .i64 t284, .string t285] 62 (0, 0))) := ⟨Zy3⟩
            have n4_ : Aside0 (Below w.heap.size w (((((w44.setCell ⟨gb283, 0, none⟩ (.int .i64 t299)).setCell ⟨gb283, 1, none⟩ (.int .i64 t300)).setCell ⟨gb283, 2, none⟩ (.int .i64 t301)).setCell ⟨gb283, 3, none⟩ (.int .i64 t302)).setCell ⟨gb283, 4, none⟩ (.slice Ao47 t303.length co47))) := ⟨Zy17⟩
            (try clear HO_8)
            (try clear HO305)
            (try clear BK283)
            (try clear BK288)
            (try clear HB)
            generalize (((((w44.setCell ⟨gb283, 0, none⟩ (.int .i64 t299)).setCell ⟨gb283, 1, none⟩ (.int .i64 t300)).setCell ⟨gb283, 2, none⟩ (.int .i64 t301)).setCell ⟨gb283, 3, none⟩ (.int .i64 t302)).setCell ⟨gb283, 4, none⟩ (.slice Ao47 t303.length co47)) = w48 at n0_ n1_ n2_ n3_ n4_ ⊢
            have HO_8 := n0_
            have HO305 := n1_
            have BK283 := n2_
            have BK288 := n3_
            have HB := n4_
            clear n0_ n1_ n2_ n3_ n4_
            replace HO_8 := Aside0.mk (Kd.R_drew HO_8.out)
            replace HO305 := Aside0.mk (Kd.R_drew HO305.out)
            replace BK283 := Aside0.mk (blk_drew BK283.out)
            replace BK288 := Aside0.mk (blk_drew BK288.out)
            replace HB := Aside0.mk (below_drew1 HB.out)
            have p307 : 0 ≤ (1 : Int) := (by omega)
            have q307 : 1 < (t289.length : Int) := of_decide_eq_true Zq1
            obtain ⟨ad307, e307, hx307_0, hx307_1⟩ := at_T62 (Kd.R_reads' HO_8.out).2.2 1 p307 q307
            obtain rfl : ad295 = ad307 := (by injection e307)
            (try simp only [show (1 : Int).toNat = 1 from rfl, Nat.reduceMul, Nat.reduceEqDiff, Go.Addr.add, ↓reduceIte] at hx307_0)
            (try simp only [show (1 : Int).toNat = 1 from rfl, Nat.reduceMul, Nat.reduceEqDiff, Go.Addr.add, ↓reduceIte] at hx307_1)
            have qi307 : (1 < t289.length) = True := eq_true (by omega)
            (try rw [show ((1 : Int)).toNat = 1 from rfl] at hx307_0)
            (try rw [show 1 * 2 = 2 from rfl] at hx307_0)
            (try rw [show ((1 : Int)).toNat = 1 from rfl] at hx307_1)
            (try rw [show 1 * 2 = 2 from rfl] at hx307_1)
            replace p307 := eq_true p307
            replace q307 := eq_true q307
            refine start_ (n := 18) (S := fun w' => w'.cell? ⟨gb283, 0, none⟩ = some (.int .i64 t299) ∧ w'.cell? ⟨gb283, 1, none⟩ = some (.int .i64 t300) ∧ w'.cell? ⟨gb283, 2, none⟩ = some (.int .i64 t301) ∧ w'.cell? ⟨gb283, 3, none⟩ = some (.int .i64 t302) ∧ w'.cell? ⟨gb283, 4, none⟩ = some (.slice Ao47 t303.length co47) ∧ w'.cell? ⟨ad295.block, ad295.off + 2, none⟩ = some (.int .i64 ((rd_T62 t289 1).f0)) ∧ w'.cell? ⟨ad295.block, ad295.off + 2 + 1, none⟩ = some (.string ((rd_T62 t289 1).f1))) (ds := [16]) #[false, false, false, false, false, false, false, false, false, false, false, false, false, false, false, false, false, false] (by kernel_rfl) rfl rfl ⟨(blk_cell BK283.out 0).trans rfl, (blk_cell BK283.out 1).trans rfl, (blk_cell BK283.out 2).trans rfl, (blk_cell BK283.out 3).trans rfl, (blk_cell BK283.out 4).trans rfl, hx307_0, hx307_1⟩ (fun hHeld => ?_); refine with_tabW trap_open.tab9 trap_open.bits9 (fun HT_ HW_ => ?_)
            generalize w48.drew = w49 at HO_8 HO305 BK283 BK288 HB hx307_0 hx307_1 hHeld ⊢
            refine pz_ 0 77 ?_
            refine pz_ 1 78 ?_
            refine pz_ 2 79 ?_
            refine pz_ 5 82 ?_
            refine pz_ 6 83 ?_
            refine pz_ 7 84 ?_
            refine pz_ 8 85 ?_
            refine pz_ 9 86 ?_
            refine pz_ 10 87 ?_
            refine pz_ 11 88 ?_
            refine pz_ 12 89 ?_
            refine pz_ 13 90 ?_
            refine pz_ 14 91 ?_
            refine tz_ 3 80 hHeld ?_
            refine pz_ 15 2 ?_
            refine tz_ 4 81 hHeld ?_
            refine last_ (i := 16) (N := none) #[true, true, true, true, true, true, true, true, true, true, true, true, true, true, true, true, true, false] rfl rfl (one_of HT_.out (by kernel_rfl)) (by decide) (fun K hK => ?_)
            have hs50 : w49.cell? ⟨gb283, 0, none⟩ = some (.int .i64 t299) := (blk_cell BK283.out 0).trans rfl
            have hfs50 := blk_frozen BK283.out 0
            have hns50_1 := NB288_283.out
            have hms50_1 := NB283_288.out
            have hs51 : w49.cell? ⟨gb283, 1, none⟩ = some (.int .i64 t300) := (blk_cell BK283.out 1).trans rfl
            have hfs51 := blk_frozen BK283.out 1
            have hns51_1 := NB288_283.out
            have hms51_1 := NB283_288.out
            have hs52 : w49.cell? ⟨gb283, 2, none⟩ = some (.int .i64 t301) := (blk_cell BK283.out 2).trans rfl
            have hfs52 := blk_frozen BK283.out 2
            have hns52_1 := NB288_283.out
            have hms52_1 := NB283_288.out
            have hs53 : w49.cell? ⟨gb283, 3, none⟩ = some (.int .i64 t302) := (blk_cell BK283.out 3).trans rfl
            have hfs53 := blk_frozen BK283.out 3
            have hns53_1 := NB288_283.out
            have hms53_1 := NB283_288.out
            have hs54 : w49.cell? ⟨gb283, 4, none⟩ = some (.slice Ao47 t303.length co47) := (blk_cell BK283.out 4).trans rfl
            have hfs54 := blk_frozen BK283.out 4
            have hns54_1 := NB288_283.out
            have hms54_1 := NB283_288.out
            refine skip_ (w1 := ?_) (by rfl) rfl ?_ ?_
            rotate_left
            ·go_simp
             rfl
            refine hK.out _ _ ?_
            clear hK K
            refine pz_ 17 4 ?_
            refine done_ (done_of HT_.out (by kernel_rfl)) ?_
            (try clear hHeld)
            try go_wp2
            refine bodyPost_ret (results_list (rs := [.tmp 2, .cell 3 43, .tmp 4]) rfl (by simp) (.tmp (.cell gb283 43 #[.int .i64 t299, .int .i64 t300, .int .i64 t301, .int .i64 t302, .slice Ao47 t303.length co47] (0, 0) _ rfl Zq57 Tryz.underlying43 rfl (by kernel_rfl) (.tmp .nil)))) rfl ?_
            exact ⟨_, Zy69, Zy5, Zy17⟩
           ·rw [if_neg c41] at H
            have c41b0 : (t306 == 0) = false := beq_eq_false_iff_ne.mpr c41
            have c41b1 : (t306 != 0) = true := bne_iff_ne.mpr c41
            simp only [Option.some.injEq, Prod.mk.injEq] at H
            obtain ⟨rfl, rfl, rfl, rfl, rfl, rfl, rfl⟩ := H
            obtain ⟨Ao55, co55, eo55⟩ := Kd.R_slice HO_8.out
            subst eo55
            have p295 : 0 ≤ (0 : Int) := (by omega)
            have q295 : 0 < (t289.length : Int) := of_decide_eq_true Zq1
            obtain ⟨ad295, e295, hx295_0, hx295_1⟩ := at_T62 (Kd.R_reads' HO_8.out).2.2 0 p295 q295
            cases e295
            have qi295 : (0 < t289.length) = True := eq_true (by omega)
            (try rw [show ((0 : Int)).toNat = 0 from rfl] at hx295_0)
            (try rw [show 0 * 2 = 0 from rfl] at hx295_0)
            (try rw [Addr.add_zero'] at hx295_0)
            (try rw [show ((0 : Int)).toNat = 0 from rfl] at hx295_1)
            (try rw [show 0 * 2 = 0 from rfl] at hx295_1)
            (try rw [Addr.add_zero'] at hx295_1)
            replace p295 := eq_true p295
            replace q295 := eq_true q295
            try go_wp2_with (first | ((with_reducible refine gate_callee (f := 34) rfl ?_); refine goesL_ (some 67) rfl rfl Tryz.func34 (by kernel_rfl) rfl #[.string ((rd_T62 t289 0).f1)] rfl Zq14 ?_; (with_reducible refine (ber_Number.calls ((rd_T62 t289 0).f1) t296 t297 _ A36.out).mono ?_); rintro e w56 ⟨rfl, hb⟩; refine ⟨_, rfl, ?_⟩; replace HO_8 := Aside0.mk (Kd.R_below Zq8 hb); replace BK283 := Aside0.mk (blkb_ BK283.out Zq52 hb); replace BK288 := Aside0.mk (blkb_ BK288.out Zq52 hb); replace HB := Aside0.mk (below_step Zq46 hb); (try clear hb); (try clear hb2); (try clear hk); (try clear hi); have p298 : 0 ≤ (2 : Int) := (by omega); have q298 : 2 < (t289.length : Int) := of_decide_eq_true Zq1; obtain ⟨ad298, e298, hx298_0, hx298_1⟩ := at_T62 (Kd.R_reads' HO_8.out).2.2 2 p298 q298; obtain rfl : ad295 = ad298 := (by injection e298); (try simp only [show (2 : Int).toNat = 2 from rfl, Nat.reduceMul, Nat.reduceEqDiff, Go.Addr.add, ↓reduceIte] at hx298_0); (try simp only [show (2 : Int).toNat = 2 from rfl, Nat.reduceMul, Nat.reduceEqDiff, Go.Addr.add, ↓reduceIte] at hx298_1); have qi298 : (2 < t289.length) = True := eq_true (by omega); (try rw [show ((2 : Int)).toNat = 2 from rfl] at hx298_0); (try rw [show 2 * 2 = 4 from rfl] at hx298_0); (try rw [show ((2 : Int)).toNat = 2 from rfl] at hx298_1); (try rw [show 2 * 2 = 4 from rfl] at hx298_1); replace p298 := eq_true p298; replace q298 := eq_true q298) | ((with_reducible refine gate_callee (f := 27) rfl ?_); refine goesL_ (some 74) rfl rfl Tryz.func27 (by kernel_rfl) rfl #[.agg #[.int .i64 ((rd_T62 t289 2).f0), .string ((rd_T62 t289 2).f1)]] rfl Zq14 ?_; (with_reducible refine (pdu_Decode.calls kj19 ((rd_T62 t289 2).f0) ((rd_T62 t289 2).f1) t299 t300 t301 t302 t303 t306 _ ?side1 A38.out).mono ?_); (case side1 => exact Zq71); rintro e w57 ⟨v304, rfl, ho0, hb⟩; refine ⟨_, rfl, ?_⟩; have HO305 := Aside0.mk (Kd.R_lower ho0 (below_size Zq46)); replace HO_8 := Aside0.mk (Kd.R_below Zq8 hb); replace BK283 := Aside0.mk (blkb_ BK283.out Zq52 hb); replace BK288 := Aside0.mk (blkb_ BK288.out Zq52 hb); replace HB := Aside0.mk (below_step Zq46 hb); (try clear hb); (try clear hb2); (try clear hk); (try clear hi); (try clear ho0); have hnb58 := NB283_288.out; have hnc58 := NB288_283.out; obtain ⟨hcz59_0, hcz59_1, hcz59_2, hcz59_3, hcz59_4⟩ := cells5_ BK283.out; obtain ⟨hfz59_0, hfz59_1, hfz59_2, hfz59_3, hfz59_4⟩ := frozen5_ BK283.out; obtain ⟨Ao60, co60, eo60⟩ := Kd.R_slice HO305.out; subst eo60))
            have n0_ : Aside0 (Kd.R k62 62 (((((w57.setCell ⟨gb283, 0, none⟩ (.int .i64 t299)).setCell ⟨gb283, 1, none⟩ (.int .i64 t300)).setCell ⟨gb283, 2, none⟩ (.int .i64 t301)).setCell ⟨gb283, 3, none⟩ (.int .i64 t302)).setCell ⟨gb283, 4, none⟩ (.slice Ao60 t303.length co60)) w.heap.size (fun k_ => k_ ≠ gb288) (.slice (some ad295) t289.length co55) t289) := ⟨by (with_reducible repeat (first | apply Kd.R_alloc | apply Kd.R_drewN | apply Kd.R_drew)); exact Kd.R_mono (Kd.R_far (p := ⟨gb283, 4, none⟩) (Kd.R_far (p := ⟨gb283, 3, none⟩) (Kd.R_far (p := ⟨gb283, 2, none⟩) (Kd.R_far (p := ⟨gb283, 1, none⟩) (Kd.R_far (p := ⟨gb283, 0, none⟩) (Kd.R_types HO_8.out BK283.out (by decide)) (fun _ hk => hk.2) (.int .i64 t299)) (fun _ hk => hk.2) (.int .i64 t300)) (fun _ hk => hk.2) (.int .i64 t301)) (fun _ hk => hk.2) (.int .i64 t302)) (fun _ hk => hk.2) (.slice Ao60 t303.length co60)) (fun _ hk => hk.1)⟩
            have n1_ : Aside0 (Kd.R k40 40 (((((w57.setCell ⟨gb283, 0, none⟩ (.int .i64 t299)).setCell ⟨gb283, 1, none⟩ (.int .i64 t300)).setCell ⟨gb283, 2, none⟩ (.int .i64 t301)).setCell ⟨gb283, 3, none⟩ (.int .i64 t302)).setCell ⟨gb283, 4, none⟩ (.slice Ao60 t303.length co60)) w.heap.size (fun _ => True) (.slice Ao60 t303.length co60) t303) := ⟨Zy6⟩
            have n2_ : Aside0 ((((((w57.setCell ⟨gb283, 0, none⟩ (.int .i64 t299)).setCell ⟨gb283, 1, none⟩ (.int .i64 t300)).setCell ⟨gb283, 2, none⟩ (.int .i64 t301)).setCell ⟨gb283, 3, none⟩ (.int .i64 t302)).setCell ⟨gb283, 4, none⟩ (.slice Ao60 t303.length co60)).heap[gb283]? = some (.cells #[.int .i64 t299, .int .i64 t300, .int .i64 t301, .int .i64 t302, .slice Ao60 t303.length co60] 43 (0, 0))) := ⟨Zy1⟩
            have n3_ : Aside0 ((((((w57.setCell ⟨gb283, 0, none⟩ (.int .i64 t299)).setCell ⟨gb283, 1, none⟩ (.int .i64 t300)).setCell ⟨gb283, 2, none⟩ (.int .i64 t301)).setCell ⟨gb283, 3, none⟩ (.int .i64 t302)).setCell ⟨gb283, 4, none⟩ (.slice Ao60 t303.length co60)).heap[gb288]? = some (.cells #[.int .i64 t284, .string t285] 62 (0, 0))) := ⟨Zy3⟩
            have n4_ : Aside0 (Below w.heap.size w (((((w57.setCell ⟨gb283, 0, none⟩ (.int .i64 t299)).setCell ⟨gb283, 1, none⟩ (.int .i64 t300)).setCell ⟨gb283, 2, none⟩ (.int .i64 t301)).setCell ⟨gb283, 3, none⟩ (.int .i64 t302)).setCell ⟨gb283, 4, none⟩ (.slice Ao60 t303.length co60))) := ⟨Zy17⟩
            (try clear HO_8)
            (try clear HO305)
            (try clear BK283)
            (try clear BK288)
            (try clear HB)
            generalize (((((w57.setCell ⟨gb283, 0, none⟩ (.int .i64 t299)).setCell ⟨gb283, 1, none⟩ (.int .i64 t300)).setCell ⟨gb283, 2, none⟩ (.int .i64 t301)).setCell ⟨gb283, 3, none⟩ (.int .i64 t302)).setCell ⟨gb283, 4, none⟩ (.slice Ao60 t303.length co60)) = w61 at n0_ n1_ n2_ n3_ n4_ ⊢
            have HO_8 := n0_
            have HO305 := n1_
            have BK283 := n2_
            have BK288 := n3_
            have HB := n4_
            clear n0_ n1_ n2_ n3_ n4_
            replace HO_8 := Aside0.mk (Kd.R_drew HO_8.out)
            replace HO305 := Aside0.mk (Kd.R_drew HO305.out)
            replace BK283 := Aside0.mk (blk_drew BK283.out)
            replace BK288 := Aside0.mk (blk_drew BK288.out)
            replace HB := Aside0.mk (below_drew1 HB.out)
            have p307 : 0 ≤ (1 : Int) := (by omega)
            have q307 : 1 < (t289.length : Int) := of_decide_eq_true Zq1
            obtain ⟨ad307, e307, hx307_0, hx307_1⟩ := at_T62 (Kd.R_reads' HO_8.out).2.2 1 p307 q307
            obtain rfl : ad295 = ad307 := (by injection e307)
            (try simp only [show (1 : Int).toNat = 1 from rfl, Nat.reduceMul, Nat.reduceEqDiff, Go.Addr.add, ↓reduceIte] at hx307_0)
            (try simp only [show (1 : Int).toNat = 1 from rfl, Nat.reduceMul, Nat.reduceEqDiff, Go.Addr.add, ↓reduceIte] at hx307_1)
            have qi307 : (1 < t289.length) = True := eq_true (by omega)
            (try rw [show ((1 : Int)).toNat = 1 from rfl] at hx307_0)
            (try rw [show 1 * 2 = 2 from rfl] at hx307_0)
            (try rw [show ((1 : Int)).toNat = 1 from rfl] at hx307_1)
            (try rw [show 1 * 2 = 2 from rfl] at hx307_1)
            replace p307 := eq_true p307
            replace q307 := eq_true q307
            refine start_ (n := 18) (S := fun w' => w'.cell? ⟨gb283, 0, none⟩ = some (.int .i64 t299) ∧ w'.cell? ⟨gb283, 1, none⟩ = some (.int .i64 t300) ∧ w'.cell? ⟨gb283, 2, none⟩ = some (.int .i64 t301) ∧ w'.cell? ⟨gb283, 3, none⟩ = some (.int .i64 t302) ∧ w'.cell? ⟨gb283, 4, none⟩ = some (.slice Ao60 t303.length co60) ∧ w'.cell? ⟨ad295.block, ad295.off + 2, none⟩ = some (.int .i64 ((rd_T62 t289 1).f0)) ∧ w'.cell? ⟨ad295.block, ad295.off + 2 + 1, none⟩ = some (.string ((rd_T62 t289 1).f1))) (ds := [16]) #[false, false, false, false, false, false, false, false, false, false, false, false, false, false, false, false, false, false] (by kernel_rfl) rfl rfl ⟨(blk_cell BK283.out 0).trans rfl, (blk_cell BK283.out 1).trans rfl, (blk_cell BK283.out 2).trans rfl, (blk_cell BK283.out 3).trans rfl, (blk_cell BK283.out 4).trans rfl, hx307_0, hx307_1⟩ (fun hHeld => ?_); refine with_tabW trap_open.tab9 trap_open.bits9 (fun HT_ HW_ => ?_)
            generalize w61.drew = w62 at HO_8 HO305 BK283 BK288 HB hx307_0 hx307_1 hHeld ⊢
            refine pz_ 0 77 ?_
            refine pz_ 1 78 ?_
            refine pz_ 2 79 ?_
            refine pz_ 5 82 ?_
            refine pz_ 6 83 ?_
            refine pz_ 7 84 ?_
            refine pz_ 8 85 ?_
            refine pz_ 9 86 ?_
            refine pz_ 10 87 ?_
            refine pz_ 11 88 ?_
            refine pu_ 12 89 ?_
            refine pu_ 13 90 ?_
            refine pz_ 14 91 ?_
            refine tz_ 3 80 hHeld ?_
            refine pz_ 15 2 ?_
            refine tz_ 4 81 hHeld ?_
            refine last_ (i := 16) (N := none) #[true, true, true, true, true, true, true, true, true, true, true, true, true, true, true, true, true, false] rfl rfl (one_of HT_.out (by kernel_rfl)) (by decide) (fun K hK => ?_)
            have hs63 : w62.cell? ⟨gb283, 0, none⟩ = some (.int .i64 t299) := (blk_cell BK283.out 0).trans rfl
            have hfs63 := blk_frozen BK283.out 0
            have hns63_1 := NB288_283.out
            have hms63_1 := NB283_288.out
            have hs64 : w62.cell? ⟨gb283, 1, none⟩ = some (.int .i64 t300) := (blk_cell BK283.out 1).trans rfl
            have hfs64 := blk_frozen BK283.out 1
            have hns64_1 := NB288_283.out
            have hms64_1 := NB283_288.out
            have hs65 : w62.cell? ⟨gb283, 2, none⟩ = some (.int .i64 t301) := (blk_cell BK283.out 2).trans rfl
            have hfs65 := blk_frozen BK283.out 2
            have hns65_1 := NB288_283.out
            have hms65_1 := NB283_288.out
            have hs66 : w62.cell? ⟨gb283, 3, none⟩ = some (.int .i64 t302) := (blk_cell BK283.out 3).trans rfl
            have hfs66 := blk_frozen BK283.out 3
            have hns66_1 := NB288_283.out
            have hms66_1 := NB283_288.out
            have hs67 : w62.cell? ⟨gb283, 4, none⟩ = some (.slice Ao60 t303.length co60) := (blk_cell BK283.out 4).trans rfl
            have hfs67 := blk_frozen BK283.out 4
            have hns67_1 := NB288_283.out
            have hms67_1 := NB283_288.out
            refine skip_ (w1 := ?_) (by rfl) rfl ?_ ?_
            rotate_left
            ·go_simp
             rfl
            refine hK.out _ _ ?_
            clear hK K
            refine pz_ 17 4 ?_
            refine done_ (done_of HT_.out (by kernel_rfl)) ?_
            (try clear hHeld)
            try go_wp2
            refine bodyPost_ret (results_list (rs := [.tmp 2, .cell 3 43, .tmp 4]) rfl (by simp) (.tmp (.cell gb283 43 #[.int .i64 t299, .int .i64 t300, .int .i64 t301, .int .i64 t302, .slice Ao60 t303.length co60] (0, 0) _ rfl Zq57 Tryz.underlying43 rfl (by kernel_rfl) (.tmp .nil)))) rfl ?_
            exact ⟨_, Zy69, Zy6, Zy17⟩
          ·rw [if_neg c40] at H
           have c40b0 : (t297 == 0) = false := beq_eq_false_iff_ne.mpr c40
           have c40b1 : (t297 != 0) = true := bne_iff_ne.mpr c40
           simp only [Option.some.injEq, Prod.mk.injEq] at H
           obtain ⟨rfl, rfl, rfl, rfl, rfl, rfl, rfl⟩ := H
           obtain ⟨Ao68, co68, eo68⟩ := Kd.R_slice HO_8.out
           subst eo68
           have p295 : 0 ≤ (0 : Int) := (by omega)
           have q295 : 0 < (t289.length : Int) := of_decide_eq_true Zq1
           obtain ⟨ad295, e295, hx295_0, hx295_1⟩ := at_T62 (Kd.R_reads' HO_8.out).2.2 0 p295 q295
           cases e295
           have qi295 : (0 < t289.length) = True := eq_true (by omega)
           (try rw [show ((0 : Int)).toNat = 0 from rfl] at hx295_0)
           (try rw [show 0 * 2 = 0 from rfl] at hx295_0)
           (try rw [Addr.add_zero'] at hx295_0)
           (try rw [show ((0 : Int)).toNat = 0 from rfl] at hx295_1)
           (try rw [show 0 * 2 = 0 from rfl] at hx295_1)
           (try rw [Addr.add_zero'] at hx295_1)
           replace p295 := eq_true p295
           replace q295 := eq_true q295
           try go_wp2_with (first | ((with_reducible refine gate_callee (f := 34) rfl ?_); refine goesL_ (some 67) rfl rfl Tryz.func34 (by kernel_rfl) rfl #[.string ((rd_T62 t289 0).f1)] rfl Zq14 ?_; (with_reducible refine (ber_Number.calls ((rd_T62 t289 0).f1) t296 t297 _ A36.out).mono ?_); rintro e w69 ⟨rfl, hb⟩; refine ⟨_, rfl, ?_⟩; replace HO_8 := Aside0.mk (Kd.R_below Zq8 hb); replace BK283 := Aside0.mk (blkb_ BK283.out Zq52 hb); replace BK288 := Aside0.mk (blkb_ BK288.out Zq52 hb); replace HB := Aside0.mk (below_step Zq46 hb); (try clear hb); (try clear hb2); (try clear hk); (try clear hi); have p298 : 0 ≤ (2 : Int) := (by omega); have q298 : 2 < (t289.length : Int) := of_decide_eq_true Zq1; obtain ⟨ad298, e298, hx298_0, hx298_1⟩ := at_T62 (Kd.R_reads' HO_8.out).2.2 2 p298 q298; obtain rfl : ad295 = ad298 := (by injection e298); (try simp only [show (2 : Int).toNat = 2 from rfl, Nat.reduceMul, Nat.reduceEqDiff, Go.Addr.add, ↓reduceIte] at hx298_0); (try simp only [show (2 : Int).toNat = 2 from rfl, Nat.reduceMul, Nat.reduceEqDiff, Go.Addr.add, ↓reduceIte] at hx298_1); have qi298 : (2 < t289.length) = True := eq_true (by omega); (try rw [show ((2 : Int)).toNat = 2 from rfl] at hx298_0); (try rw [show 2 * 2 = 4 from rfl] at hx298_0); (try rw [show ((2 : Int)).toNat = 2 from rfl] at hx298_1); (try rw [show 2 * 2 = 4 from rfl] at hx298_1); replace p298 := eq_true p298; replace q298 := eq_true q298) | ((with_reducible refine gate_callee (f := 27) rfl ?_); refine goesL_ (some 74) rfl rfl Tryz.func27 (by kernel_rfl) rfl #[.agg #[.int .i64 ((rd_T62 t289 2).f0), .string ((rd_T62 t289 2).f1)]] rfl Zq14 ?_; (with_reducible refine (pdu_Decode.calls kj19 ((rd_T62 t289 2).f0) ((rd_T62 t289 2).f1) t299 t300 t301 t302 t303 t306 _ ?side1 A38.out).mono ?_); (case side1 => exact Zq71); rintro e w70 ⟨v304, rfl, ho0, hb⟩; refine ⟨_, rfl, ?_⟩; have HO305 := Aside0.mk (Kd.R_lower ho0 (below_size Zq46)); replace HO_8 := Aside0.mk (Kd.R_below Zq8 hb); replace BK283 := Aside0.mk (blkb_ BK283.out Zq52 hb); replace BK288 := Aside0.mk (blkb_ BK288.out Zq52 hb); replace HB := Aside0.mk (below_step Zq46 hb); (try clear hb); (try clear hb2); (try clear hk); (try clear hi); (try clear ho0); have hnb71 := NB283_288.out; have hnc71 := NB288_283.out; obtain ⟨hcz72_0, hcz72_1, hcz72_2, hcz72_3, hcz72_4⟩ := cells5_ BK283.out; obtain ⟨hfz72_0, hfz72_1, hfz72_2, hfz72_3, hfz72_4⟩ := frozen5_ BK283.out; obtain ⟨Ao73, co73, eo73⟩ := Kd.R_slice HO305.out; subst eo73))
           have n0_ : Aside0 (Kd.R k62 62 (((((w70.setCell ⟨gb283, 0, none⟩ (.int .i64 t299)).setCell ⟨gb283, 1, none⟩ (.int .i64 t300)).setCell ⟨gb283, 2, none⟩ (.int .i64 t301)).setCell ⟨gb283, 3, none⟩ (.int .i64 t302)).setCell ⟨gb283, 4, none⟩ (.slice Ao73 t303.length co73)) w.heap.size (fun k_ => k_ ≠ gb288) (.slice (some ad295) t289.length co68) t289) := ⟨by (with_reducible repeat (first | apply Kd.R_alloc | apply Kd.R_drewN | apply Kd.R_drew)); exact Kd.R_mono (Kd.R_far (p := ⟨gb283, 4, none⟩) (Kd.R_far (p := ⟨gb283, 3, none⟩) (Kd.R_far (p := ⟨gb283, 2, none⟩) (Kd.R_far (p := ⟨gb283, 1, none⟩) (Kd.R_far (p := ⟨gb283, 0, none⟩) (Kd.R_types HO_8.out BK283.out (by decide)) (fun _ hk => hk.2) (.int .i64 t299)) (fun _ hk => hk.2) (.int .i64 t300)) (fun _ hk => hk.2) (.int .i64 t301)) (fun _ hk => hk.2) (.int .i64 t302)) (fun _ hk => hk.2) (.slice Ao73 t303.length co73)) (fun _ hk => hk.1)⟩
           have n1_ : Aside0 (Kd.R k40 40 (((((w70.setCell ⟨gb283, 0, none⟩ (.int .i64 t299)).setCell ⟨gb283, 1, none⟩ (.int .i64 t300)).setCell ⟨gb283, 2, none⟩ (.int .i64 t301)).setCell ⟨gb283, 3, none⟩ (.int .i64 t302)).setCell ⟨gb283, 4, none⟩ (.slice Ao73 t303.length co73)) w.heap.size (fun _ => True) (.slice Ao73 t303.length co73) t303) := ⟨Zy7⟩
           have n2_ : Aside0 ((((((w70.setCell ⟨gb283, 0, none⟩ (.int .i64 t299)).setCell ⟨gb283, 1, none⟩ (.int .i64 t300)).setCell ⟨gb283, 2, none⟩ (.int .i64 t301)).setCell ⟨gb283, 3, none⟩ (.int .i64 t302)).setCell ⟨gb283, 4, none⟩ (.slice Ao73 t303.length co73)).heap[gb283]? = some (.cells #[.int .i64 t299, .int .i64 t300, .int .i64 t301, .int .i64 t302, .slice Ao73 t303.length co73] 43 (0, 0))) := ⟨Zy1⟩
           have n3_ : Aside0 ((((((w70.setCell ⟨gb283, 0, none⟩ (.int .i64 t299)).setCell ⟨gb283, 1, none⟩ (.int .i64 t300)).setCell ⟨gb283, 2, none⟩ (.int .i64 t301)).setCell ⟨gb283, 3, none⟩ (.int .i64 t302)).setCell ⟨gb283, 4, none⟩ (.slice Ao73 t303.length co73)).heap[gb288]? = some (.cells #[.int .i64 t284, .string t285] 62 (0, 0))) := ⟨Zy3⟩
           have n4_ : Aside0 (Below w.heap.size w (((((w70.setCell ⟨gb283, 0, none⟩ (.int .i64 t299)).setCell ⟨gb283, 1, none⟩ (.int .i64 t300)).setCell ⟨gb283, 2, none⟩ (.int .i64 t301)).setCell ⟨gb283, 3, none⟩ (.int .i64 t302)).setCell ⟨gb283, 4, none⟩ (.slice Ao73 t303.length co73))) := ⟨Zy17⟩
           (try clear HO_8)
           (try clear HO305)
           (try clear BK283)
           (try clear BK288)
           (try clear HB)
           generalize (((((w70.setCell ⟨gb283, 0, none⟩ (.int .i64 t299)).setCell ⟨gb283, 1, none⟩ (.int .i64 t300)).setCell ⟨gb283, 2, none⟩ (.int .i64 t301)).setCell ⟨gb283, 3, none⟩ (.int .i64 t302)).setCell ⟨gb283, 4, none⟩ (.slice Ao73 t303.length co73)) = w74 at n0_ n1_ n2_ n3_ n4_ ⊢
           have HO_8 := n0_
           have HO305 := n1_
           have BK283 := n2_
           have BK288 := n3_
           have HB := n4_
           clear n0_ n1_ n2_ n3_ n4_
           replace HO_8 := Aside0.mk (Kd.R_drew HO_8.out)
           replace HO305 := Aside0.mk (Kd.R_drew HO305.out)
           replace BK283 := Aside0.mk (blk_drew BK283.out)
           replace BK288 := Aside0.mk (blk_drew BK288.out)
           replace HB := Aside0.mk (below_drew1 HB.out)
           have p307 : 0 ≤ (1 : Int) := (by omega)
           have q307 : 1 < (t289.length : Int) := of_decide_eq_true Zq1
           obtain ⟨ad307, e307, hx307_0, hx307_1⟩ := at_T62 (Kd.R_reads' HO_8.out).2.2 1 p307 q307
           obtain rfl : ad295 = ad307 := (by injection e307)
           (try simp only [show (1 : Int).toNat = 1 from rfl, Nat.reduceMul, Nat.reduceEqDiff, Go.Addr.add, ↓reduceIte] at hx307_0)
           (try simp only [show (1 : Int).toNat = 1 from rfl, Nat.reduceMul, Nat.reduceEqDiff, Go.Addr.add, ↓reduceIte] at hx307_1)
           have qi307 : (1 < t289.length) = True := eq_true (by omega)
           (try rw [show ((1 : Int)).toNat = 1 from rfl] at hx307_0)
           (try rw [show 1 * 2 = 2 from rfl] at hx307_0)
           (try rw [show ((1 : Int)).toNat = 1 from rfl] at hx307_1)
           (try rw [show 1 * 2 = 2 from rfl] at hx307_1)
           replace p307 := eq_true p307
           replace q307 := eq_true q307
           refine start_ (n := 18) (S := fun w' => w'.cell? ⟨gb283, 0, none⟩ = some (.int .i64 t299) ∧ w'.cell? ⟨gb283, 1, none⟩ = some (.int .i64 t300) ∧ w'.cell? ⟨gb283, 2, none⟩ = some (.int .i64 t301) ∧ w'.cell? ⟨gb283, 3, none⟩ = some (.int .i64 t302) ∧ w'.cell? ⟨gb283, 4, none⟩ = some (.slice Ao73 t303.length co73) ∧ w'.cell? ⟨ad295.block, ad295.off + 2, none⟩ = some (.int .i64 ((rd_T62 t289 1).f0)) ∧ w'.cell? ⟨ad295.block, ad295.off + 2 + 1, none⟩ = some (.string ((rd_T62 t289 1).f1))) (ds := [16]) #[false, false, false, false, false, false, false, false, false, false, false, false, false, false, false, false, false, false] (by kernel_rfl) rfl rfl ⟨(blk_cell BK283.out 0).trans rfl, (blk_cell BK283.out 1).trans rfl, (blk_cell BK283.out 2).trans rfl, (blk_cell BK283.out 3).trans rfl, (blk_cell BK283.out 4).trans rfl, hx307_0, hx307_1⟩ (fun hHeld => ?_); refine with_tabW trap_open.tab9 trap_open.bits9 (fun HT_ HW_ => ?_)
           generalize w74.drew = w75 at HO_8 HO305 BK283 BK288 HB hx307_0 hx307_1 hHeld ⊢
           refine pz_ 0 77 ?_
           refine pz_ 1 78 ?_
           refine pz_ 2 79 ?_
           refine pz_ 5 82 ?_
           refine pz_ 6 83 ?_
           refine pz_ 7 84 ?_
           refine pu_ 8 85 ?_
           refine pu_ 9 86 ?_
           refine pz_ 10 87 ?_
           refine pz_ 11 88 ?_
           refine pu_ 12 89 ?_
           refine pu_ 13 90 ?_
           refine pz_ 14 91 ?_
           refine tz_ 3 80 hHeld ?_
           refine pz_ 15 2 ?_
           refine tz_ 4 81 hHeld ?_
           refine last_ (i := 16) (N := none) #[true, true, true, true, true, true, true, true, true, true, true, true, true, true, true, true, true, false] rfl rfl (one_of HT_.out (by kernel_rfl)) (by decide) (fun K hK => ?_)
           have hs76 : w75.cell? ⟨gb283, 0, none⟩ = some (.int .i64 t299) := (blk_cell BK283.out 0).trans rfl
           have hfs76 := blk_frozen BK283.out 0
           have hns76_1 := NB288_283.out
           have hms76_1 := NB283_288.out
           have hs77 : w75.cell? ⟨gb283, 1, none⟩ = some (.int .i64 t300) := (blk_cell BK283.out 1).trans rfl
           have hfs77 := blk_frozen BK283.out 1
           have hns77_1 := NB288_283.out
           have hms77_1 := NB283_288.out
           have hs78 : w75.cell? ⟨gb283, 2, none⟩ = some (.int .i64 t301) := (blk_cell BK283.out 2).trans rfl
           have hfs78 := blk_frozen BK283.out 2
           have hns78_1 := NB288_283.out
           have hms78_1 := NB283_288.out
           have hs79 : w75.cell? ⟨gb283, 3, none⟩ = some (.int .i64 t302) := (blk_cell BK283.out 3).trans rfl
           have hfs79 := blk_frozen BK283.out 3
           have hns79_1 := NB288_283.out
           have hms79_1 := NB283_288.out
           have hs80 : w75.cell? ⟨gb283, 4, none⟩ = some (.slice Ao73 t303.length co73) := (blk_cell BK283.out 4).trans rfl
           have hfs80 := blk_frozen BK283.out 4
           have hns80_1 := NB288_283.out
           have hms80_1 := NB283_288.out
           refine skip_ (w1 := ?_) (by rfl) rfl ?_ ?_
           rotate_left
           ·go_simp
            rfl
           refine hK.out _ _ ?_
           clear hK K
           refine pz_ 17 4 ?_
           refine done_ (done_of HT_.out (by kernel_rfl)) ?_
           (try clear hHeld)
           try go_wp2
           refine bodyPost_ret (results_list (rs := [.tmp 2, .cell 3 43, .tmp 4]) rfl (by simp) (.tmp (.cell gb283 43 #[.int .i64 t299, .int .i64 t300, .int .i64 t301, .int .i64 t302, .slice Ao73 t303.length co73] (0, 0) _ rfl Zq57 Tryz.underlying43 rfl (by kernel_rfl) (.tmp .nil)))) rfl ?_
           exact ⟨_, Zy69, Zy7, Zy17⟩
         ·rw [if_neg c39] at H
          exact absurd H (by simp)
        ·rw [if_neg c37] at H
         exact absurd H (by simp)
       ·rw [if_neg c35] at H
        exact absurd H (by simp)
end Go.Proofs.YtfmhghlmljlfgaaGreatDoor.XTrS
