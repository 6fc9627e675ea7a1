-- Laid by extprint.py (the session's own driver): functions told by the kit's printer and by hand.
import Derived.Test.YtfmhghlmljlfgaaGreatDoorXTrSx0
import Derived.Test.YtfmhghlmljlfgaaGreatDoorXTrSx3
import Derived.Test.YtfmhghlmljlfgaaGreatDoorXTrSx7
import Derived.Test.YtfmhghlmljlfgaaGreatDoorXTrSx16
import Derived.Test.YtfmhghlmljlfgaaGreatDoorXTrSx17
namespace Go.Proofs.YtfmhghlmljlfgaaGreatDoor.XTrS
open Go.RowKit Gong Go.Proofs.YtfmhghlmljlfgaaGreatDoorW.PrintWords Go.Proofs.YtfmhghlmljlfgaaGreatDoorW.PrintLast Go.Proofs.YtfmhghlmljlfgaaGreatDoorW.PrintMore
attribute [local go_sem] max2_int min2_int max_two min_two max_three min_three max_four min_four   -- for this text's walks alone
set_option linter.unusedVariables false
set_option linter.unusedSimpArgs false
attribute [local go_sem high] eqA53
mutual
def trap_Decode.j0 : Nat → List ByteArray → ByteArray → Bool → Int → Int → Int → Int → List (S40) → Option (ByteArray × Bool × Int × Int × ByteArray × (List (S40)) × Int)
 | 0, _, _, _, _, _, _, _, _ => none
 | k + 1, x1, x6, x30, x323000, x323001, x323002, x323003, x323004 => if x30 = true then (some ((⟨#[]⟩ : ByteArray), false, 0, 0, (⟨#[]⟩ : ByteArray), ([] : List (S40)), 90)) else (if 0 < (x323004.length : Int) then (if 1 < (x323004.length : Int) then ((trap_of.f ((rd_T40 x323004 0).f0) ((rd_T40 x323004 0).f1.f0) ((rd_T40 x323004 0).f1.f1) ((rd_T40 x323004 0).f1.f2)).bind fun bt327 => (if (!(bt327.1.toList == ([49, 46, 51, 46, 54, 46, 49, 46, 50, 46, 49, 46, 49, 46, 51, 46, 48] : List UInt8)) || (!(bt327.2 == 67))) = true then (trap_Decode.j1 k x1 x6 true x323000 x323001 x323002 x323003 x323004 ((rd_T40 x323004 0).f0) ((rd_T40 x323004 0).f1.f0) ((rd_T40 x323004 0).f1.f1) ((rd_T40 x323004 0).f1.f2) ((rd_T40 x323004 1).f0) ((rd_T40 x323004 1).f1.f0) ((rd_T40 x323004 1).f1.f1) ((rd_T40 x323004 1).f1.f2)) else ((trap_of.f ((rd_T40 x323004 1).f0) ((rd_T40 x323004 1).f1.f0) ((rd_T40 x323004 1).f1.f1) ((rd_T40 x323004 1).f1.f2)).bind fun bt329 => (trap_Decode.j1 k x1 x6 (!(bt329.1.toList == ([49, 46, 51, 46, 54, 46, 49, 46, 54, 46, 51, 46, 49, 46, 49, 46, 52, 46, 49, 46, 48] : List UInt8)) || (!(bt329.2 == 6))) x323000 x323001 x323002 x323003 x323004 ((rd_T40 x323004 0).f0) ((rd_T40 x323004 0).f1.f0) ((rd_T40 x323004 0).f1.f1) ((rd_T40 x323004 0).f1.f2) ((rd_T40 x323004 1).f0) ((rd_T40 x323004 1).f1.f0) ((rd_T40 x323004 1).f1.f1) ((rd_T40 x323004 1).f1.f2))))) else (none)) else (none))
def trap_Decode.j1 : Nat → List ByteArray → ByteArray → Bool → Int → Int → Int → Int → List (S40) → ByteArray → Int → Int → ByteArray → ByteArray → Int → Int → ByteArray → Option (ByteArray × Bool × Int × Int × ByteArray × (List (S40)) × Int)
 | 0, _, _, _, _, _, _, _, _, _, _, _, _, _, _, _, _ => none
 | k + 1, x1, x6, x49, x323000, x323001, x323002, x323003, x323004, x326000, x326001, x326002, x326003, x327000, x327001, x327002, x327003 => if x49 = true then (some ((⟨#[]⟩ : ByteArray), false, 0, 0, (⟨#[]⟩ : ByteArray), ([] : List (S40)), 90)) else (if 2 ≤ (x323004.length : Int) then ((api_Bind_21.f (x323004.drop 2)).bind fun t335 => ((trap_Check.f k x6 (x323000 == 166) x323001 x326002 x327003 t335).bind fun t339 => (if t339 = 0 then ((slices_Contains_string_string.f k x1 x6).bind fun t340 => (if t340 = true then (some (x6, (x323000 == 166), x323001, x326002, x327003, t335, 0)) else (some ((⟨#[]⟩ : ByteArray), false, 0, 0, (⟨#[]⟩ : ByteArray), ([] : List (S40)), 91)))) else (some ((⟨#[]⟩ : ByteArray), false, 0, 0, (⟨#[]⟩ : ByteArray), ([] : List (S40)), 90))))) else (none))
end
def trap_Decode.f (k : Nat) (a0 : ByteArray) (l1 : List ByteArray) : Option (ByteArray × Bool × Int × Int × ByteArray × (List (S40)) × Int) := (trap_open.f k a0).bind fun bt313 => (if bt313.2.2.2.2.2.2 = true then (if bt313.2.1 = 162 then (trap_Decode.j0 k l1 bt313.1 true bt313.2.1 bt313.2.2.1 bt313.2.2.2.1 bt313.2.2.2.2.1 bt313.2.2.2.2.2.1) else (trap_Decode.j0 k l1 bt313.1 (decide ((bt313.2.2.2.2.2.1.length : Int) < 2)) bt313.2.1 bt313.2.2.1 bt313.2.2.2.1 bt313.2.2.2.2.1 bt313.2.2.2.2.2.1)) else (trap_Decode.j0 k l1 bt313.1 true bt313.2.1 bt313.2.2.1 bt313.2.2.2.1 bt313.2.2.2.2.1 bt313.2.2.2.2.2.1))
def trap_Decode.T4 : Bool × List (List Nat × List Nat) := (true, [([], []), ([0], [0]), ([1], [1]), ([2], [2]), ([], []), ([4], [4]), ([5], [5]), ([6], [6]), ([], []), ([], []), ([8, 3, 0, 1, 2, 3, 8, 9], [3, 8]), ([9, 7, 10, 0, 1, 2, 3, 4, 5, 6, 7, 8, 9, 10], [7, 9])])
def trap_Decode.B4 : List Nat := [0, 1, 3, 7, 0, 16, 48, 112, 0, 0, 783, 2047]
theorem trap_Decode.tab4 : rtab .any (opsOf Tryz.f10 4) = trap_Decode.T4 := by kernel_rfl
theorem trap_Decode.bits4 : waitsOk trap_Decode.T4.2 trap_Decode.B4 = true := by kernel_rfl
def trap_Decode.T7 : Bool × List (List Nat × List Nat) := (true, [([], []), ([], []), ([1], [1]), ([2], [2]), ([], []), ([4], [4]), ([], []), ([6], [6]), ([7], [7]), ([], []), ([9], [9]), ([10], [10]), ([], []), ([12], [12]), ([13], [13]), ([14], [14]), ([0, 3, 5, 8, 11, 15], [0, 3, 5, 8, 11, 15]), ([], []), ([17, 16, 15, 0, 1, 2, 3, 4, 5, 6, 7, 8, 9, 10, 11, 12, 13, 14, 15, 16, 17], [16, 17])])
def trap_Decode.B7 : List Nat := [0, 0, 2, 6, 0, 16, 0, 64, 192, 0, 512, 1536, 0, 4096, 12288, 28672, 65535, 0, 262143]
theorem trap_Decode.tab7 : rtab .any (opsOf Tryz.f10 7) = trap_Decode.T7 := by kernel_rfl
theorem trap_Decode.bits7 : waitsOk trap_Decode.T7.2 trap_Decode.B7 = true := by kernel_rfl
set_option maxHeartbeats 8000000 in
set_option maxRecDepth 100000 in
theorem trap_Decode.calls (k : Nat) (a0 : ByteArray) (A1 : Option Addr) (c1 : Nat) (l1 : List ByteArray) (r1 : ByteArray) (r2 : Bool) (r3 : Int) (r4 : Int) (r5 : ByteArray) (r6 : List (S40)) (r7 : Int) (w : World) (hG : Gl w) (hr1 : Kd.C Kd.string w A1 l1.length l1) (hc1 : l1.length ≤ c1) (h : trap_Decode.f k a0 l1 = some (r1, r2, r3, r4, r5, r6, r7)) :
  Calls Tryz.prog 10 #[.string a0, .slice A1 l1.length c1] w fun e w' => ∃ v5_ : Value, e = .returned (.tuple #[.agg #[.string r1, .bool r2, .int .i64 r3, .int .i64 r4, .string r5, v5_], .int .i64 r7]) ∧ Kd.R k40 40 w' w.heap.size (fun _ => True) v5_ r6 ∧ Below w.heap.size w w' := by
 have HGl := Aside0.mk hG
 clear hG
 have hu24 := Tryz.underlying24
 have hu43 := Tryz.underlying43
 have hu40 := Tryz.underlying40
 have hu53 := Tryz.underlying53
 have HR1 := Aside0.mk hr1
 have HC1 := Aside0.mk hc1
 clear hr1 hc1
 have HB := Aside0.mk (Below.refl w.heap.size w)
 have H : ((trap_open.f k a0).bind fun bt313 => (if bt313.2.2.2.2.2.2 = true then (if bt313.2.1 = 162 then (trap_Decode.j0 k l1 bt313.1 true bt313.2.1 bt313.2.2.1 bt313.2.2.2.1 bt313.2.2.2.2.1 bt313.2.2.2.2.2.1) else (trap_Decode.j0 k l1 bt313.1 (decide ((bt313.2.2.2.2.2.1.length : Int) < 2)) bt313.2.1 bt313.2.2.1 bt313.2.2.2.1 bt313.2.2.2.2.1 bt313.2.2.2.2.2.1)) else (trap_Decode.j0 k l1 bt313.1 true bt313.2.1 bt313.2.2.1 bt313.2.2.2.1 bt313.2.2.2.2.1 bt313.2.2.2.2.2.1))) = some (r1, r2, r3, r4, r5, r6, r7) := h
 clear h
 replace H := Option.bind_eq_some_iff.mp H
 obtain ⟨⟨t313, t314, t315, t316, t317, t318, t321⟩, A30, H⟩ := H
 replace H : (if t321 = true then (if t314 = 162 then (trap_Decode.j0 k l1 t313 true t314 t315 t316 t317 t318) else (trap_Decode.j0 k l1 t313 (decide ((t318.length : Int) < 2)) t314 t315 t316 t317 t318)) else (trap_Decode.j0 k l1 t313 true t314 t315 t316 t317 t318)) = some (r1, r2, r3, r4, r5, r6, r7) := H
 have A3 := Aside0.mk A30
 clear A30
 have HC4 := Aside0.mk H
 clear H
 go_enter Tryz.func10, Tryz.ntmps10
 go_upto_region 2 with (first | ((with_reducible refine gate_dst (N := 4) rfl ?_); (try (refine gate_guard (by rfl) ?_; dsimp only)); refine box_event ?hg (N := 4) ?hd (cs := #[.string (⟨#[]⟩ : ByteArray), .bool false, .int .i64 0, .int .i64 0, .string (⟨#[]⟩ : ByteArray), .slice none 0 0]) (t := 24) ?hr ?_; (case hd => rfl); (case hg => rfl); (case hr => exact Zq2); intro gb312 hg w5 hbox hb; have BK312 := Aside0.mk (hbox); have GW312 := Aside0.mk ((by rw [hg]; exact (below_size Zq13) : w.heap.size ≤ gb312)); have GE312 := Aside0.mk ((by rw [hg]; exact (below_size Zq13) : w.heap.size ≤ gb312)); replace HB := Aside0.mk (below_step Zq13 hb); clear hb hbox hg) | ((with_reducible refine gate_callee (f := 19) rfl ?_); refine goesL_ (some 14) rfl rfl Tryz.func19 (by kernel_rfl) rfl #[.string a0] rfl Zq14 ?_; (with_reducible refine (trap_open.calls k a0 t313 t314 t315 t316 t317 t318 t321 _ ?side1 A3.out).mono ?_); (case side1 => exact Zq71); rintro e w6 ⟨v319, rfl, ho0, hb⟩; refine ⟨_, rfl, ?_⟩; have HO320 := Aside0.mk (Kd.R_lower ho0 (below_size Zq27)); replace BK312 := Aside0.mk (blk_below (g := gb312) (o := .cells #[.string (⟨#[]⟩ : ByteArray), .bool false, .int .i64 0, .int .i64 0, .string (⟨#[]⟩ : ByteArray), .slice none 0 0] 24 (0, 0)) Zq52 hb); replace HB := Aside0.mk (below_step Zq27 hb); (try clear hb); (try clear hb2); (try clear hk); (try clear hi); (try clear ho0)) | ((with_reducible refine gate_dst (N := 7) rfl ?_); (try (refine gate_guard (by rfl) ?_; dsimp only)); refine box_event ?hg (N := 7) ?hd (cs := #[.int .i64 0, .int .i64 0, .int .i64 0, .int .i64 0, .slice none 0 0]) (t := 43) ?hr ?_; (case hd => rfl); (case hg => rfl); (case hr => exact Zq2); intro gb322 hg w7 hbox hb; have BK322 := Aside0.mk (hbox); have GW322 := Aside0.mk ((by rw [hg]; exact (below_size Zq27) : w.heap.size ≤ gb322)); have GE322 := Aside0.mk ((by rw [hg]; exact (below_size Zq27) : w.heap.size ≤ gb322)); have NB312_322 := Aside0.mk ((by rw [hg]; exact Nat.ne_of_lt (blk_lt (g := gb312) (o := .cells #[.string (⟨#[]⟩ : ByteArray), .bool false, .int .i64 0, .int .i64 0, .string (⟨#[]⟩ : ByteArray), .slice none 0 0] 24 (0, 0)) Zq52) : gb312 ≠ gb322)); have NB322_312 := Aside0.mk ((by rw [hg]; exact Nat.ne_of_gt (blk_lt (g := gb312) (o := .cells #[.string (⟨#[]⟩ : ByteArray), .bool false, .int .i64 0, .int .i64 0, .string (⟨#[]⟩ : ByteArray), .slice none 0 0] 24 (0, 0)) Zq52) : gb322 ≠ gb312)); replace HO320 := Aside0.mk (Kd.R_below (by (with_reducible repeat (first | apply Kd.R_alloc | apply Kd.R_drewN | apply Kd.R_drew)); exact HO320.out) hb); replace BK312 := Aside0.mk (blk_below (g := gb312) (o := .cells #[.string (⟨#[]⟩ : ByteArray), .bool false, .int .i64 0, .int .i64 0, .string (⟨#[]⟩ : ByteArray), .slice none 0 0] 24 (0, 0)) Zq52 hb); replace HB := Aside0.mk (below_step Zq27 hb); clear hb hbox hg; have hnb8 := NB322_312.out; have hnc8 := NB312_322.out; obtain ⟨hcz9_0, hcz9_1, hcz9_2, hcz9_3, hcz9_4⟩ := cells5_ BK322.out; obtain ⟨hfz9_0, hfz9_1, hfz9_2, hfz9_3, hfz9_4⟩ := frozen5_ BK322.out; obtain ⟨Ao10, co10, eo10⟩ := Kd.R_slice HO320.out; subst eo10))
 (try simp only [Act.put, List.setIfInBounds_toArray, List.set_cons_zero, List.set_cons_succ])
 go_cut [30] (fun v30 wc => ∃ (kq : Nat) (x30_3 : Bool), v30 = .bool x30_3 ∧ Aside0 (trap_Decode.j0 kq l1 t313 x30_3 t314 t315 t316 t317 t318 = some (r1, r2, r3, r4, r5, r6, r7)) ∧ Aside0 (kq ≤ k) ∧ Aside0 (Kd.R k40 40 wc w.heap.size (fun _ => True) (.slice Ao10 t318.length co10) t318) ∧ Aside0 (wc.heap[gb312]? = some (.cells #[.string (⟨#[]⟩ : ByteArray), .bool false, .int .i64 0, .int .i64 0, .string (⟨#[]⟩ : ByteArray), (.slice none 0 0)] 24 (0, 0))) ∧ Aside0 (wc.heap[gb322]? = some (.cells #[.int .i64 t314, .int .i64 t315, .int .i64 t316, .int .i64 t317, (.slice Ao10 t318.length co10)] 43 (0, 0))) ∧ Aside0 (Below w.heap.size w wc))
 case first =>
  have H := HC4.out
  clear HC4
  by_cases c11 : t321 = true
  ·subst c11
   have H1 : (if t314 = 162 then (trap_Decode.j0 k l1 t313 true t314 t315 t316 t317 t318) else (trap_Decode.j0 k l1 t313 (decide ((t318.length : Int) < 2)) t314 t315 t316 t317 t318)) = some (r1, r2, r3, r4, r5, r6, r7) := by rw [if_pos rfl] at H; exact H
   clear H
   have H := H1
   clear H1
   by_cases c12 : t314 = 162
   ·rw [if_pos c12] at H
    have c12b0 : (t314 == 162) = true := beq_iff_eq.mpr c12
    have c12b1 : (t314 != 162) = false := bne_eq_false_iff_eq.mpr c12
    clear c12
    (first | rw [c12b0] | (simp only [i64_w, i32_w]; rw [c12b0]) | skip)
    have H' := Aside0.mk H
    clear H
    have hnb13 := NB322_312.out
    have hnc13 := NB312_322.out
    obtain ⟨hcz14_0, hcz14_1, hcz14_2, hcz14_3, hcz14_4⟩ := cells5_ BK322.out
    obtain ⟨hfz14_0, hfz14_1, hfz14_2, hfz14_3, hfz14_4⟩ := frozen5_ BK322.out
    go_wp2
    go_meet
    case rel => exact ⟨_, (true), Zq12, H', ⟨Zy76⟩, ⟨Zy8⟩, ⟨Zy4⟩, ⟨Zy2⟩, ⟨Zy18⟩⟩
   ·rw [if_neg c12] at H
    have c12b0 : (t314 == 162) = false := beq_eq_false_iff_ne.mpr c12
    have c12b1 : (t314 != 162) = true := bne_iff_ne.mpr c12
    (first | rw [c12b0] | (simp only [i64_w, i32_w]; rw [c12b0]) | skip)
    have H' := Aside0.mk H
    clear H
    have hnb15 := NB322_312.out
    have hnc15 := NB312_322.out
    obtain ⟨hcz16_0, hcz16_1, hcz16_2, hcz16_3, hcz16_4⟩ := cells5_ BK322.out
    obtain ⟨hfz16_0, hfz16_1, hfz16_2, hfz16_3, hfz16_4⟩ := frozen5_ BK322.out
    go_wp2
    go_meet
    case rel => exact ⟨_, (decide ((t318.length : Int) < 2)), Zq12, H', ⟨Zy76⟩, ⟨Zy8⟩, ⟨Zy4⟩, ⟨Zy2⟩, ⟨Zy18⟩⟩
  ·replace c11 := Bool.eq_false_iff.mpr c11
   subst c11
   have H1 : (trap_Decode.j0 k l1 t313 true t314 t315 t316 t317 t318) = some (r1, r2, r3, r4, r5, r6, r7) := by rw [if_neg (show ¬ (false = true) by decide)] at H; exact H
   clear H
   have H := H1
   clear H1
   have H' := Aside0.mk H
   clear H
   go_wp2
   go_meet
   case rel => exact ⟨_, (true), Zq12, H', ⟨Zy76⟩, ⟨Zy8⟩, ⟨Zy4⟩, ⟨Zy2⟩, ⟨Zy18⟩⟩
 case rest =>
  clear HC4
  (try clear c1); (try clear p2); (try clear c8); (try clear c10); (try clear c11); (try clear c12); (try clear c12b0); (try clear c12b1); (try clear c13); (try clear c15); (try clear hcz14_0); (try clear hcz14_1); (try clear hcz14_2); (try clear hcz14_3); (try clear hcz14_4); (try clear hcz16_0); (try clear hcz16_1); (try clear hcz16_2); (try clear hcz16_3); (try clear hcz16_4); (try clear hcz9_0); (try clear hcz9_1); (try clear hcz9_2); (try clear hcz9_3); (try clear hcz9_4); (try clear hfz14_0); (try clear hfz14_1); (try clear hfz14_2); (try clear hfz14_3); (try clear hfz14_4); (try clear hfz16_0); (try clear hfz16_1); (try clear hfz16_2); (try clear hfz16_3); (try clear hfz16_4); (try clear hfz9_0); (try clear hfz9_1); (try clear hfz9_2); (try clear hfz9_3); (try clear hfz9_4)
  obtain ⟨kq, x30_3, rfl, HA, HJ3, HO_323004, BK312, BK322, HB⟩ := hcut
  cases kq with
  | zero => exact absurd HA.out (by simp [trap_Decode.j0])
  | succ kj3 =>
   have H := HA.out
   clear HA
   simp only [trap_Decode.j0] at H
   by_cases c17 : x30_3 = true
   ·subst c17
    have H1 : (some ((⟨#[]⟩ : ByteArray), false, 0, 0, (⟨#[]⟩ : ByteArray), ([] : List (S40)), 90)) = some (r1, r2, r3, r4, r5, r6, r7) := by rw [if_pos rfl] at H; exact H
    clear H
    have H := H1
    clear H1
    simp only [Option.some.injEq, Prod.mk.injEq] at H
    obtain ⟨rfl, rfl, rfl, rfl, rfl, rfl, rfl⟩ := H
    have hnb18 := NB312_322.out
    have hnc18 := NB322_312.out
    obtain ⟨hcz19_0, hcz19_1, hcz19_2, hcz19_3, hcz19_4, hcz19_5⟩ := cells6_ BK312.out
    obtain ⟨hfz19_0, hfz19_1, hfz19_2, hfz19_3, hfz19_4, hfz19_5⟩ := frozen6_ BK312.out
    go_wp2
    refine bodyPost_ret (results_ct rfl _ _ gb312 24 #[.string (⟨#[]⟩ : ByteArray), .bool false, .int .i64 0, .int .i64 0, .string (⟨#[]⟩ : ByteArray), .slice none 0 0] (0, 0) _ rfl Zq57 Tryz.underlying24 rfl (by kernel_rfl)) rfl ?_
    exact ⟨_, Zy69, Zy45, Zy18⟩
   ·replace c17 := Bool.eq_false_iff.mpr c17
    subst c17
    have H1 : (if 0 < (t318.length : Int) then (if 1 < (t318.length : Int) then ((trap_of.f ((rd_T40 t318 0).f0) ((rd_T40 t318 0).f1.f0) ((rd_T40 t318 0).f1.f1) ((rd_T40 t318 0).f1.f2)).bind fun bt327 => (if (!(bt327.1.toList == ([49, 46, 51, 46, 54, 46, 49, 46, 50, 46, 49, 46, 49, 46, 51, 46, 48] : List UInt8)) || (!(bt327.2 == 67))) = true then (trap_Decode.j1 kj3 l1 t313 true t314 t315 t316 t317 t318 ((rd_T40 t318 0).f0) ((rd_T40 t318 0).f1.f0) ((rd_T40 t318 0).f1.f1) ((rd_T40 t318 0).f1.f2) ((rd_T40 t318 1).f0) ((rd_T40 t318 1).f1.f0) ((rd_T40 t318 1).f1.f1) ((rd_T40 t318 1).f1.f2)) else ((trap_of.f ((rd_T40 t318 1).f0) ((rd_T40 t318 1).f1.f0) ((rd_T40 t318 1).f1.f1) ((rd_T40 t318 1).f1.f2)).bind fun bt329 => (trap_Decode.j1 kj3 l1 t313 (!(bt329.1.toList == ([49, 46, 51, 46, 54, 46, 49, 46, 54, 46, 51, 46, 49, 46, 49, 46, 52, 46, 49, 46, 48] : List UInt8)) || (!(bt329.2 == 6))) t314 t315 t316 t317 t318 ((rd_T40 t318 0).f0) ((rd_T40 t318 0).f1.f0) ((rd_T40 t318 0).f1.f1) ((rd_T40 t318 0).f1.f2) ((rd_T40 t318 1).f0) ((rd_T40 t318 1).f1.f0) ((rd_T40 t318 1).f1.f1) ((rd_T40 t318 1).f1.f2))))) else (none)) else (none)) = some (r1, r2, r3, r4, r5, r6, r7) := by rw [if_neg (show ¬ (false = true) by decide)] at H; exact H
    clear H
    have H := H1
    clear H1
    by_cases c20 : 0 < (t318.length : Int)
    ·rw [if_pos c20] at H
     have c20b0 : decide (0 < (t318.length : Int)) = true := decide_eq_true c20
     have c20b1 : decide (0 < t318.length) = true := decide_eq_true (by omega)
     clear c20
     by_cases c21 : 1 < (t318.length : Int)
     ·rw [if_pos c21] at H
      have c21b0 : decide (1 < (t318.length : Int)) = true := decide_eq_true c21
      have c21b1 : decide (1 < t318.length) = true := decide_eq_true (by omega)
      clear c21
      have HC22 := Aside0.mk H
      clear H
      try go_wp2
      replace HO_323004 := Aside0.mk (Kd.R_drew HO_323004.out)
      replace BK312 := Aside0.mk (blk_drew BK312.out)
      replace BK322 := Aside0.mk (blk_drew BK322.out)
      replace HB := Aside0.mk (below_drew1 HB.out)
      have p323 : 0 ≤ (0 : Int) := (by omega)
      have q323 : 0 < (t318.length : Int) := of_decide_eq_true Zq1
      obtain ⟨ad323, e323, hx323_0, hx323_1, hx323_2, hx323_3⟩ := at_T40 (Kd.R_reads' HO_323004.out).2.2 0 p323 q323
      cases e323
      have qi323 : (0 < t318.length) = True := eq_true (by omega)
      (try rw [show ((0 : Int)).toNat = 0 from rfl] at hx323_0)
      (try rw [show 0 * 4 = 0 from rfl] at hx323_0)
      (try rw [Addr.add_zero'] at hx323_0)
      (try rw [show ((0 : Int)).toNat = 0 from rfl] at hx323_1)
      (try rw [show 0 * 4 = 0 from rfl] at hx323_1)
      (try rw [Addr.add_zero'] at hx323_1)
      (try rw [show ((0 : Int)).toNat = 0 from rfl] at hx323_2)
      (try rw [show 0 * 4 = 0 from rfl] at hx323_2)
      (try rw [Addr.add_zero'] at hx323_2)
      (try rw [show ((0 : Int)).toNat = 0 from rfl] at hx323_3)
      (try rw [show 0 * 4 = 0 from rfl] at hx323_3)
      (try rw [Addr.add_zero'] at hx323_3)
      replace p323 := eq_true p323
      replace q323 := eq_true q323
      have p324 : 0 ≤ (1 : Int) := (by omega)
      have q324 : 1 < (t318.length : Int) := of_decide_eq_true Zq1
      obtain ⟨ad324, e324, hx324_0, hx324_1, hx324_2, hx324_3⟩ := at_T40 (Kd.R_reads' HO_323004.out).2.2 1 p324 q324
      obtain rfl : ad323 = ad324 := (by injection e324)
      (try simp only [show (1 : Int).toNat = 1 from rfl, Nat.reduceMul, Nat.reduceEqDiff, Go.Addr.add, ↓reduceIte] at hx324_0)
      (try simp only [show (1 : Int).toNat = 1 from rfl, Nat.reduceMul, Nat.reduceEqDiff, Go.Addr.add, ↓reduceIte] at hx324_1)
      (try simp only [show (1 : Int).toNat = 1 from rfl, Nat.reduceMul, Nat.reduceEqDiff, Go.Addr.add, ↓reduceIte] at hx324_2)
      (try simp only [show (1 : Int).toNat = 1 from rfl, Nat.reduceMul, Nat.reduceEqDiff, Go.Addr.add, ↓reduceIte] at hx324_3)
      have qi324 : (1 < t318.length) = True := eq_true (by omega)
      (try rw [show ((1 : Int)).toNat = 1 from rfl] at hx324_0)
      (try rw [show 1 * 4 = 4 from rfl] at hx324_0)
      (try rw [show ((1 : Int)).toNat = 1 from rfl] at hx324_1)
      (try rw [show 1 * 4 = 4 from rfl] at hx324_1)
      (try rw [show ((1 : Int)).toNat = 1 from rfl] at hx324_2)
      (try rw [show 1 * 4 = 4 from rfl] at hx324_2)
      (try rw [show ((1 : Int)).toNat = 1 from rfl] at hx324_3)
      (try rw [show 1 * 4 = 4 from rfl] at hx324_3)
      replace p324 := eq_true p324
      replace q324 := eq_true q324
      refine start_ (n := 12) (S := fun w' => w'.cell? ⟨gb322, 0, none⟩ = some (.int .i64 t314) ∧ w'.cell? ⟨gb322, 1, none⟩ = some (.int .i64 t315) ∧ w'.cell? ⟨gb322, 2, none⟩ = some (.int .i64 t316) ∧ w'.cell? ⟨gb322, 3, none⟩ = some (.int .i64 t317) ∧ w'.cell? ⟨gb322, 4, none⟩ = some (.slice (some ad323) t318.length co10) ∧ w'.cell? ad323 = some (.string ((rd_T40 t318 0).f0)) ∧ w'.cell? ⟨ad323.block, ad323.off + 1, none⟩ = some (.int .i64 ((rd_T40 t318 0).f1.f0)) ∧ w'.cell? ⟨ad323.block, ad323.off + 2, none⟩ = some (.int .i64 ((rd_T40 t318 0).f1.f1)) ∧ w'.cell? ⟨ad323.block, ad323.off + 3, none⟩ = some (.string ((rd_T40 t318 0).f1.f2)) ∧ w'.cell? ⟨ad323.block, ad323.off + 4, none⟩ = some (.string ((rd_T40 t318 1).f0)) ∧ w'.cell? ⟨ad323.block, ad323.off + 4 + 1, none⟩ = some (.int .i64 ((rd_T40 t318 1).f1.f0)) ∧ w'.cell? ⟨ad323.block, ad323.off + 4 + 2, none⟩ = some (.int .i64 ((rd_T40 t318 1).f1.f1)) ∧ w'.cell? ⟨ad323.block, ad323.off + 4 + 3, none⟩ = some (.string ((rd_T40 t318 1).f1.f2))) (ds := []) #[false, false, false, false, false, false, false, false, false, false, false, false] (by kernel_rfl) rfl rfl ⟨(blk_cell BK322.out 0).trans rfl, (blk_cell BK322.out 1).trans rfl, (blk_cell BK322.out 2).trans rfl, (blk_cell BK322.out 3).trans rfl, (blk_cell BK322.out 4).trans rfl, hx323_0, hx323_1, hx323_2, hx323_3, hx324_0, hx324_1, hx324_2, hx324_3⟩ (fun hHeld => ?_); refine with_tabW trap_Decode.tab4 trap_Decode.bits4 (fun HT_ HW_ => ?_)
      generalize wc.drew = w23 at HO_323004 BK312 BK322 HB hx323_0 hx323_1 hx323_2 hx323_3 hx324_0 hx324_1 hx324_2 hx324_3 hHeld ⊢
      refine pz_ 0 32 ?_
      refine pz_ 4 36 ?_
      refine tz_ 1 33 hHeld ?_
      refine pz_ 2 34 ?_
      refine tz_ 3 35 hHeld ?_
      refine tz_ 5 37 hHeld ?_
      refine pz_ 6 38 ?_
      refine tz_ 7 39 hHeld ?_
      refine join_ (σ := Nat × Nat) 2 #[true, true, true, true, true, true, true, true, true, true, false, false] (fun s_ => [(9, .pointer (some ⟨s_.1, 0, none⟩)), (10, .pointer (some ⟨s_.2, 0, none⟩))]) (fun s_ w' => (w'.cell? ⟨gb322, 0, none⟩ = some (.int .i64 t314) ∧ w'.cell? ⟨gb322, 1, none⟩ = some (.int .i64 t315) ∧ w'.cell? ⟨gb322, 2, none⟩ = some (.int .i64 t316) ∧ w'.cell? ⟨gb322, 3, none⟩ = some (.int .i64 t317) ∧ w'.cell? ⟨gb322, 4, none⟩ = some (.slice (some ad323) t318.length co10) ∧ w'.cell? ad323 = some (.string ((rd_T40 t318 0).f0)) ∧ w'.cell? ⟨ad323.block, ad323.off + 1, none⟩ = some (.int .i64 ((rd_T40 t318 0).f1.f0)) ∧ w'.cell? ⟨ad323.block, ad323.off + 2, none⟩ = some (.int .i64 ((rd_T40 t318 0).f1.f1)) ∧ w'.cell? ⟨ad323.block, ad323.off + 3, none⟩ = some (.string ((rd_T40 t318 0).f1.f2)) ∧ w'.cell? ⟨ad323.block, ad323.off + 4, none⟩ = some (.string ((rd_T40 t318 1).f0)) ∧ w'.cell? ⟨ad323.block, ad323.off + 4 + 1, none⟩ = some (.int .i64 ((rd_T40 t318 1).f1.f0)) ∧ w'.cell? ⟨ad323.block, ad323.off + 4 + 2, none⟩ = some (.int .i64 ((rd_T40 t318 1).f1.f1)) ∧ w'.cell? ⟨ad323.block, ad323.off + 4 + 3, none⟩ = some (.string ((rd_T40 t318 1).f1.f2))) ∧ (Kd.R k40 40 w' w.heap.size (fun k_ => k_ ≠ s_.1 ∧ k_ ≠ s_.2) (.slice (some ad323) t318.length co10) t318) ∧ (w'.heap[gb312]? = some (.cells #[.string (⟨#[]⟩ : ByteArray), .bool false, .int .i64 0, .int .i64 0, .string (⟨#[]⟩ : ByteArray), .slice none 0 0] 24 (0, 0))) ∧ (w'.heap[gb322]? = some (.cells #[.int .i64 t314, .int .i64 t315, .int .i64 t316, .int .i64 t317, .slice (some ad323) t318.length co10] 43 (0, 0))) ∧ (w'.heap[s_.1]? = some (.cells #[.string (⟨#[]⟩ : ByteArray), .int .i64 0, .int .i64 0, .string (⟨#[]⟩ : ByteArray)] 40 (0, 0))) ∧ (w'.heap[s_.2]? = some (.cells #[.string (⟨#[]⟩ : ByteArray), .int .i64 0, .int .i64 0, .string (⟨#[]⟩ : ByteArray)] 40 (0, 0))) ∧ (w.heap.size ≤ s_.1) ∧ (w.heap.size ≤ s_.1) ∧ (gb312 ≠ s_.1) ∧ (s_.1 ≠ gb312) ∧ (gb322 ≠ s_.1) ∧ (s_.1 ≠ gb322) ∧ (s_.2 ≠ s_.1) ∧ (s_.1 ≠ s_.2) ∧ (w.heap.size ≤ s_.2) ∧ (w.heap.size ≤ s_.2) ∧ (gb312 ≠ s_.2) ∧ (s_.2 ≠ gb312) ∧ (gb322 ≠ s_.2) ∧ (s_.2 ≠ gb322) ∧ (Below w.heap.size w w')) ?_ ?_
      rotate_left
      ·intro hCont
       refine two_ (i := 8) (j := 9) (Ni := some 9) (Nj := some 10) #[true, true, true, true, true, true, true, true, true, false, false, false] #[true, true, true, true, true, true, true, true, false, true, false, false] rfl rfl rfl rfl (two_of HT_.out (by kernel_rfl)) (by decide) (by decide) (fun K hK => ?_) (fun K hK => ?_)
       ·skip
        refine box_step ?hg (N := 9) ?hd (cs := #[.string (⟨#[]⟩ : ByteArray), .int .i64 0, .int .i64 0, .string (⟨#[]⟩ : ByteArray)]) (t := 40) ?hr ?_; (case hd => rfl); (case hg => rfl); (case hr => exact Zq2)
        intro gb325 hg w24 hbox hb
        have HS5_ := (hb.cell (World.block_lt_of_cell? _ _ (hHeld.2.2.2.2.2.1))).trans (hHeld.2.2.2.2.2.1)
        have HS6_ := (hb.cell (World.block_lt_of_cell? _ _ (hHeld.2.2.2.2.2.2.1))).trans (hHeld.2.2.2.2.2.2.1)
        have HS7_ := (hb.cell (World.block_lt_of_cell? _ _ (hHeld.2.2.2.2.2.2.2.1))).trans (hHeld.2.2.2.2.2.2.2.1)
        have HS8_ := (hb.cell (World.block_lt_of_cell? _ _ (hHeld.2.2.2.2.2.2.2.2.1))).trans (hHeld.2.2.2.2.2.2.2.2.1)
        have HS9_ := (hb.cell (World.block_lt_of_cell? _ _ (hHeld.2.2.2.2.2.2.2.2.2.1))).trans (hHeld.2.2.2.2.2.2.2.2.2.1)
        have HS10_ := (hb.cell (World.block_lt_of_cell? _ _ (hHeld.2.2.2.2.2.2.2.2.2.2.1))).trans (hHeld.2.2.2.2.2.2.2.2.2.2.1)
        have HS11_ := (hb.cell (World.block_lt_of_cell? _ _ (hHeld.2.2.2.2.2.2.2.2.2.2.2.1))).trans (hHeld.2.2.2.2.2.2.2.2.2.2.2.1)
        have HS12_ := (hb.cell (World.block_lt_of_cell? _ _ (hHeld.2.2.2.2.2.2.2.2.2.2.2.2))).trans (hHeld.2.2.2.2.2.2.2.2.2.2.2.2)
        have BK325 := Aside0.mk (hbox)
        have GW325 := Aside0.mk ((by rw [hg]; exact (below_size Zq47) : w.heap.size ≤ gb325))
        have GE325 := Aside0.mk ((by rw [hg]; exact (below_size Zq47) : w.heap.size ≤ gb325))
        have NB312_325 := Aside0.mk ((Zq90 : gb312 ≠ gb325))
        have NB325_312 := Aside0.mk ((Zq87 : gb325 ≠ gb312))
        have NB322_325 := Aside0.mk ((Zq81 : gb322 ≠ gb325))
        have NB325_322 := Aside0.mk ((Zq74 : gb325 ≠ gb322))
        replace HO_323004 := Aside0.mk (Kd.R_below (Kd.R_elderB Zq11 gb325 (Nat.le_of_eq hg.symm)) hb)
        replace BK312 := Aside0.mk (blk_below (g := gb312) (o := .cells #[.string (⟨#[]⟩ : ByteArray), .bool false, .int .i64 0, .int .i64 0, .string (⟨#[]⟩ : ByteArray), .slice none 0 0] 24 (0, 0)) Zq52 hb)
        replace BK322 := Aside0.mk (blkb_ BK322.out Zq52 hb)
        replace HB := Aside0.mk (below_step Zq47 hb)
        clear hb hbox hg
        refine hK.out _ _ ⟨(blk_cell BK322.out 0).trans rfl, (blk_cell BK322.out 1).trans rfl, (blk_cell BK322.out 2).trans rfl, (blk_cell BK322.out 3).trans rfl, (blk_cell BK322.out 4).trans rfl, HS5_, HS6_, HS7_, HS8_, HS9_, HS10_, HS11_, HS12_⟩ (fun hHeld_ => ?_)
        clear hK K hHeld
        have hHeld := hHeld_
        clear hHeld_
        refine nz_ 9 ?_
        refine oz_ 9 10 (fun K hK => ?_)
        refine box_step ?hg (N := 10) ?hd (cs := #[.string (⟨#[]⟩ : ByteArray), .int .i64 0, .int .i64 0, .string (⟨#[]⟩ : ByteArray)]) (t := 40) ?hr ?_; (case hd => rfl); (case hg => rfl); (case hr => exact Zq2)
        intro gb326 hg w25 hbox hb
        have HS5_ := (hb.cell (World.block_lt_of_cell? _ _ (hHeld.2.2.2.2.2.1))).trans (hHeld.2.2.2.2.2.1)
        have HS6_ := (hb.cell (World.block_lt_of_cell? _ _ (hHeld.2.2.2.2.2.2.1))).trans (hHeld.2.2.2.2.2.2.1)
        have HS7_ := (hb.cell (World.block_lt_of_cell? _ _ (hHeld.2.2.2.2.2.2.2.1))).trans (hHeld.2.2.2.2.2.2.2.1)
        have HS8_ := (hb.cell (World.block_lt_of_cell? _ _ (hHeld.2.2.2.2.2.2.2.2.1))).trans (hHeld.2.2.2.2.2.2.2.2.1)
        have HS9_ := (hb.cell (World.block_lt_of_cell? _ _ (hHeld.2.2.2.2.2.2.2.2.2.1))).trans (hHeld.2.2.2.2.2.2.2.2.2.1)
        have HS10_ := (hb.cell (World.block_lt_of_cell? _ _ (hHeld.2.2.2.2.2.2.2.2.2.2.1))).trans (hHeld.2.2.2.2.2.2.2.2.2.2.1)
        have HS11_ := (hb.cell (World.block_lt_of_cell? _ _ (hHeld.2.2.2.2.2.2.2.2.2.2.2.1))).trans (hHeld.2.2.2.2.2.2.2.2.2.2.2.1)
        have HS12_ := (hb.cell (World.block_lt_of_cell? _ _ (hHeld.2.2.2.2.2.2.2.2.2.2.2.2))).trans (hHeld.2.2.2.2.2.2.2.2.2.2.2.2)
        have BK326 := Aside0.mk (hbox)
        have GW326 := Aside0.mk ((by rw [hg]; exact (below_size Zq53) : w.heap.size ≤ gb326))
        have GE326 := Aside0.mk ((by rw [hg]; exact (below_size Zq53) : w.heap.size ≤ gb326))
        have NB312_326 := Aside0.mk ((Zq90 : gb312 ≠ gb326))
        have NB326_312 := Aside0.mk ((Zq87 : gb326 ≠ gb312))
        have NB322_326 := Aside0.mk ((Zq81 : gb322 ≠ gb326))
        have NB326_322 := Aside0.mk ((Zq74 : gb326 ≠ gb322))
        have NB325_326 := Aside0.mk ((by rw [hg]; exact Nat.ne_of_lt (blk_lt (g := gb325) (o := .cells #[.string (⟨#[]⟩ : ByteArray), .int .i64 0, .int .i64 0, .string (⟨#[]⟩ : ByteArray)] 40 (0, 0)) Zq52) : gb325 ≠ gb326))
        have NB326_325 := Aside0.mk ((by rw [hg]; exact Nat.ne_of_gt (blk_lt (g := gb325) (o := .cells #[.string (⟨#[]⟩ : ByteArray), .int .i64 0, .int .i64 0, .string (⟨#[]⟩ : ByteArray)] 40 (0, 0)) Zq52) : gb326 ≠ gb325))
        replace HO_323004 := Aside0.mk (Kd.R_below (Kd.R_elderB Zq11 gb326 (Nat.le_of_eq hg.symm)) hb)
        replace BK312 := Aside0.mk (blk_below (g := gb312) (o := .cells #[.string (⟨#[]⟩ : ByteArray), .bool false, .int .i64 0, .int .i64 0, .string (⟨#[]⟩ : ByteArray), .slice none 0 0] 24 (0, 0)) Zq52 hb)
        replace BK322 := Aside0.mk (blkb_ BK322.out Zq52 hb)
        replace BK325 := Aside0.mk (blk_below (g := gb325) (o := .cells #[.string (⟨#[]⟩ : ByteArray), .int .i64 0, .int .i64 0, .string (⟨#[]⟩ : ByteArray)] 40 (0, 0)) Zq52 hb)
        replace HB := Aside0.mk (below_step Zq53 hb)
        clear hb hbox hg
        refine hK.out _ _ ⟨(blk_cell BK322.out 0).trans rfl, (blk_cell BK322.out 1).trans rfl, (blk_cell BK322.out 2).trans rfl, (blk_cell BK322.out 3).trans rfl, (blk_cell BK322.out 4).trans rfl, HS5_, HS6_, HS7_, HS8_, HS9_, HS10_, HS11_, HS12_⟩ (fun hHeld_ => ?_)
        clear hK K hHeld
        have hHeld := hHeld_
        clear hHeld_
        refine nz_ 10 ?_
        exact norm_ Zq4 (hCont (gb325, gb326) _ ⟨hHeld, (by (with_reducible repeat (first | apply Kd.R_alloc | apply Kd.R_drewN | apply Kd.R_drew)); exact Kd.R_mono HO_323004.out (fun _ hk => ⟨hk.1.2, hk.2⟩)), Zq52, Zq52, Zq52, Zq52, GW325.out, GE325.out, NB312_325.out, NB325_312.out, NB322_325.out, NB325_322.out, NB326_325.out, NB325_326.out, GW326.out, GE326.out, NB312_326.out, NB326_312.out, NB322_326.out, NB326_322.out, Zq59⟩)
       ·skip
        refine box_step ?hg (N := 10) ?hd (cs := #[.string (⟨#[]⟩ : ByteArray), .int .i64 0, .int .i64 0, .string (⟨#[]⟩ : ByteArray)]) (t := 40) ?hr ?_; (case hd => rfl); (case hg => rfl); (case hr => exact Zq2)
        intro gb326 hg w24 hbox hb
        have HS5_ := (hb.cell (World.block_lt_of_cell? _ _ (hHeld.2.2.2.2.2.1))).trans (hHeld.2.2.2.2.2.1)
        have HS6_ := (hb.cell (World.block_lt_of_cell? _ _ (hHeld.2.2.2.2.2.2.1))).trans (hHeld.2.2.2.2.2.2.1)
        have HS7_ := (hb.cell (World.block_lt_of_cell? _ _ (hHeld.2.2.2.2.2.2.2.1))).trans (hHeld.2.2.2.2.2.2.2.1)
        have HS8_ := (hb.cell (World.block_lt_of_cell? _ _ (hHeld.2.2.2.2.2.2.2.2.1))).trans (hHeld.2.2.2.2.2.2.2.2.1)
        have HS9_ := (hb.cell (World.block_lt_of_cell? _ _ (hHeld.2.2.2.2.2.2.2.2.2.1))).trans (hHeld.2.2.2.2.2.2.2.2.2.1)
        have HS10_ := (hb.cell (World.block_lt_of_cell? _ _ (hHeld.2.2.2.2.2.2.2.2.2.2.1))).trans (hHeld.2.2.2.2.2.2.2.2.2.2.1)
        have HS11_ := (hb.cell (World.block_lt_of_cell? _ _ (hHeld.2.2.2.2.2.2.2.2.2.2.2.1))).trans (hHeld.2.2.2.2.2.2.2.2.2.2.2.1)
        have HS12_ := (hb.cell (World.block_lt_of_cell? _ _ (hHeld.2.2.2.2.2.2.2.2.2.2.2.2))).trans (hHeld.2.2.2.2.2.2.2.2.2.2.2.2)
        have BK326 := Aside0.mk (hbox)
        have GW326 := Aside0.mk ((by rw [hg]; exact (below_size Zq47) : w.heap.size ≤ gb326))
        have GE326 := Aside0.mk ((by rw [hg]; exact (below_size Zq47) : w.heap.size ≤ gb326))
        have NB312_326 := Aside0.mk ((Zq90 : gb312 ≠ gb326))
        have NB326_312 := Aside0.mk ((Zq87 : gb326 ≠ gb312))
        have NB322_326 := Aside0.mk ((Zq81 : gb322 ≠ gb326))
        have NB326_322 := Aside0.mk ((Zq74 : gb326 ≠ gb322))
        replace HO_323004 := Aside0.mk (Kd.R_below (Kd.R_elderB Zq11 gb326 (Nat.le_of_eq hg.symm)) hb)
        replace BK312 := Aside0.mk (blk_below (g := gb312) (o := .cells #[.string (⟨#[]⟩ : ByteArray), .bool false, .int .i64 0, .int .i64 0, .string (⟨#[]⟩ : ByteArray), .slice none 0 0] 24 (0, 0)) Zq52 hb)
        replace BK322 := Aside0.mk (blkb_ BK322.out Zq52 hb)
        replace HB := Aside0.mk (below_step Zq47 hb)
        clear hb hbox hg
        refine hK.out _ _ ⟨(blk_cell BK322.out 0).trans rfl, (blk_cell BK322.out 1).trans rfl, (blk_cell BK322.out 2).trans rfl, (blk_cell BK322.out 3).trans rfl, (blk_cell BK322.out 4).trans rfl, HS5_, HS6_, HS7_, HS8_, HS9_, HS10_, HS11_, HS12_⟩ (fun hHeld_ => ?_)
        clear hK K hHeld
        have hHeld := hHeld_
        clear hHeld_
        refine nz_ 10 ?_
        refine oz_ 8 9 (fun K hK => ?_)
        refine box_step ?hg (N := 9) ?hd (cs := #[.string (⟨#[]⟩ : ByteArray), .int .i64 0, .int .i64 0, .string (⟨#[]⟩ : ByteArray)]) (t := 40) ?hr ?_; (case hd => rfl); (case hg => rfl); (case hr => exact Zq2)
        intro gb325 hg w25 hbox hb
        have HS5_ := (hb.cell (World.block_lt_of_cell? _ _ (hHeld.2.2.2.2.2.1))).trans (hHeld.2.2.2.2.2.1)
        have HS6_ := (hb.cell (World.block_lt_of_cell? _ _ (hHeld.2.2.2.2.2.2.1))).trans (hHeld.2.2.2.2.2.2.1)
        have HS7_ := (hb.cell (World.block_lt_of_cell? _ _ (hHeld.2.2.2.2.2.2.2.1))).trans (hHeld.2.2.2.2.2.2.2.1)
        have HS8_ := (hb.cell (World.block_lt_of_cell? _ _ (hHeld.2.2.2.2.2.2.2.2.1))).trans (hHeld.2.2.2.2.2.2.2.2.1)
        have HS9_ := (hb.cell (World.block_lt_of_cell? _ _ (hHeld.2.2.2.2.2.2.2.2.2.1))).trans (hHeld.2.2.2.2.2.2.2.2.2.1)
        have HS10_ := (hb.cell (World.block_lt_of_cell? _ _ (hHeld.2.2.2.2.2.2.2.2.2.2.1))).trans (hHeld.2.2.2.2.2.2.2.2.2.2.1)
        have HS11_ := (hb.cell (World.block_lt_of_cell? _ _ (hHeld.2.2.2.2.2.2.2.2.2.2.2.1))).trans (hHeld.2.2.2.2.2.2.2.2.2.2.2.1)
        have HS12_ := (hb.cell (World.block_lt_of_cell? _ _ (hHeld.2.2.2.2.2.2.2.2.2.2.2.2))).trans (hHeld.2.2.2.2.2.2.2.2.2.2.2.2)
        have BK325 := Aside0.mk (hbox)
        have GW325 := Aside0.mk ((by rw [hg]; exact (below_size Zq54) : w.heap.size ≤ gb325))
        have GE325 := Aside0.mk ((by rw [hg]; exact (below_size Zq54) : w.heap.size ≤ gb325))
        have NB312_325 := Aside0.mk ((Zq90 : gb312 ≠ gb325))
        have NB325_312 := Aside0.mk ((Zq87 : gb325 ≠ gb312))
        have NB322_325 := Aside0.mk ((Zq81 : gb322 ≠ gb325))
        have NB325_322 := Aside0.mk ((Zq74 : gb325 ≠ gb322))
        have NB326_325 := Aside0.mk ((by rw [hg]; exact Nat.ne_of_lt (blk_lt (g := gb326) (o := .cells #[.string (⟨#[]⟩ : ByteArray), .int .i64 0, .int .i64 0, .string (⟨#[]⟩ : ByteArray)] 40 (0, 0)) Zq52) : gb326 ≠ gb325))
        have NB325_326 := Aside0.mk ((by rw [hg]; exact Nat.ne_of_gt (blk_lt (g := gb326) (o := .cells #[.string (⟨#[]⟩ : ByteArray), .int .i64 0, .int .i64 0, .string (⟨#[]⟩ : ByteArray)] 40 (0, 0)) Zq52) : gb325 ≠ gb326))
        replace HO_323004 := Aside0.mk (Kd.R_below (Kd.R_elderB Zq11 gb325 (Nat.le_of_eq hg.symm)) hb)
        replace BK312 := Aside0.mk (blk_below (g := gb312) (o := .cells #[.string (⟨#[]⟩ : ByteArray), .bool false, .int .i64 0, .int .i64 0, .string (⟨#[]⟩ : ByteArray), .slice none 0 0] 24 (0, 0)) Zq52 hb)
        replace BK322 := Aside0.mk (blkb_ BK322.out Zq52 hb)
        replace BK326 := Aside0.mk (blk_below (g := gb326) (o := .cells #[.string (⟨#[]⟩ : ByteArray), .int .i64 0, .int .i64 0, .string (⟨#[]⟩ : ByteArray)] 40 (0, 0)) Zq52 hb)
        replace HB := Aside0.mk (below_step Zq54 hb)
        clear hb hbox hg
        refine hK.out _ _ ⟨(blk_cell BK322.out 0).trans rfl, (blk_cell BK322.out 1).trans rfl, (blk_cell BK322.out 2).trans rfl, (blk_cell BK322.out 3).trans rfl, (blk_cell BK322.out 4).trans rfl, HS5_, HS6_, HS7_, HS8_, HS9_, HS10_, HS11_, HS12_⟩ (fun hHeld_ => ?_)
        clear hK K hHeld
        have hHeld := hHeld_
        clear hHeld_
        refine nz_ 9 ?_
        exact norm_ Zq4 (hCont (gb325, gb326) _ ⟨hHeld, (by (with_reducible repeat (first | apply Kd.R_alloc | apply Kd.R_drewN | apply Kd.R_drew)); exact Kd.R_mono HO_323004.out (fun _ hk => ⟨hk.2, hk.1.2⟩)), Zq52, Zq52, Zq52, Zq52, GW325.out, GE325.out, NB312_325.out, NB325_312.out, NB322_325.out, NB325_322.out, NB326_325.out, NB325_326.out, GW326.out, GE326.out, NB312_326.out, NB326_312.out, NB322_326.out, NB326_322.out, (by repeat (first | (with_reducible first | exact HB.out | apply below_alloc | apply pw_below_drewN | apply below_drew1 | refine below_set ?_ GE312.out | refine below_set ?_ GE322.out | refine below_set ?_ GE326.out | refine below_set ?_ GE325.out) | exact HB.out))⟩)
      rintro ⟨gb325, gb326⟩ w26 ⟨hS_, h0_, h1_, h2_, h3_, h4_, h5_, h6_, h7_, h8_, h9_, h10_, h11_, h12_, h13_, h14_, h15_, h16_, h17_, h18_, h19_⟩
      have n0_ : Aside0 (Kd.R k40 40 w26 w.heap.size (fun k_ => k_ ≠ gb325 ∧ k_ ≠ gb326) (.slice (some ad323) t318.length co10) t318) := ⟨h0_⟩
      have n1_ : Aside0 (w26.heap[gb312]? = some (.cells #[.string (⟨#[]⟩ : ByteArray), .bool false, .int .i64 0, .int .i64 0, .string (⟨#[]⟩ : ByteArray), .slice none 0 0] 24 (0, 0))) := ⟨h1_⟩
      have n2_ : Aside0 (w26.heap[gb322]? = some (.cells #[.int .i64 t314, .int .i64 t315, .int .i64 t316, .int .i64 t317, .slice (some ad323) t318.length co10] 43 (0, 0))) := ⟨h2_⟩
      have n3_ : Aside0 (w26.heap[gb325]? = some (.cells #[.string (⟨#[]⟩ : ByteArray), .int .i64 0, .int .i64 0, .string (⟨#[]⟩ : ByteArray)] 40 (0, 0))) := ⟨h3_⟩
      have n4_ : Aside0 (w26.heap[gb326]? = some (.cells #[.string (⟨#[]⟩ : ByteArray), .int .i64 0, .int .i64 0, .string (⟨#[]⟩ : ByteArray)] 40 (0, 0))) := ⟨h4_⟩
      have n5_ : Aside0 (w.heap.size ≤ gb325) := ⟨h5_⟩
      have n6_ : Aside0 (w.heap.size ≤ gb325) := ⟨h6_⟩
      have n7_ : Aside0 (gb312 ≠ gb325) := ⟨h7_⟩
      have n8_ : Aside0 (gb325 ≠ gb312) := ⟨h8_⟩
      have n9_ : Aside0 (gb322 ≠ gb325) := ⟨h9_⟩
      have n10_ : Aside0 (gb325 ≠ gb322) := ⟨h10_⟩
      have n11_ : Aside0 (gb326 ≠ gb325) := ⟨h11_⟩
      have n12_ : Aside0 (gb325 ≠ gb326) := ⟨h12_⟩
      have n13_ : Aside0 (w.heap.size ≤ gb326) := ⟨h13_⟩
      have n14_ : Aside0 (w.heap.size ≤ gb326) := ⟨h14_⟩
      have n15_ : Aside0 (gb312 ≠ gb326) := ⟨h15_⟩
      have n16_ : Aside0 (gb326 ≠ gb312) := ⟨h16_⟩
      have n17_ : Aside0 (gb322 ≠ gb326) := ⟨h17_⟩
      have n18_ : Aside0 (gb326 ≠ gb322) := ⟨h18_⟩
      have n19_ : Aside0 (Below w.heap.size w w26) := ⟨h19_⟩
      clear HO_323004
      clear BK312
      clear BK322
      clear HB
      clear h0_ h1_ h2_ h3_ h4_ h5_ h6_ h7_ h8_ h9_ h10_ h11_ h12_ h13_ h14_ h15_ h16_ h17_ h18_ h19_
      have HO_323004 := n0_
      have BK312 := n1_
      have BK322 := n2_
      have BK325 := n3_
      have BK326 := n4_
      have GW325 := n5_
      have GE325 := n6_
      have NB312_325 := n7_
      have NB325_312 := n8_
      have NB322_325 := n9_
      have NB325_322 := n10_
      have NB326_325 := n11_
      have NB325_326 := n12_
      have GW326 := n13_
      have GE326 := n14_
      have NB312_326 := n15_
      have NB326_312 := n16_
      have NB322_326 := n17_
      have NB326_322 := n18_
      have HB := n19_
      clear n0_ n1_ n2_ n3_ n4_ n5_ n6_ n7_ n8_ n9_ n10_ n11_ n12_ n13_ n14_ n15_ n16_ n17_ n18_ n19_
      (try clear hHeld)
      have hHeld : w26.cell? ⟨gb322, 0, none⟩ = some (.int .i64 t314) ∧ w26.cell? ⟨gb322, 1, none⟩ = some (.int .i64 t315) ∧ w26.cell? ⟨gb322, 2, none⟩ = some (.int .i64 t316) ∧ w26.cell? ⟨gb322, 3, none⟩ = some (.int .i64 t317) ∧ w26.cell? ⟨gb322, 4, none⟩ = some (.slice (some ad323) t318.length co10) ∧ w26.cell? ad323 = some (.string ((rd_T40 t318 0).f0)) ∧ w26.cell? ⟨ad323.block, ad323.off + 1, none⟩ = some (.int .i64 ((rd_T40 t318 0).f1.f0)) ∧ w26.cell? ⟨ad323.block, ad323.off + 2, none⟩ = some (.int .i64 ((rd_T40 t318 0).f1.f1)) ∧ w26.cell? ⟨ad323.block, ad323.off + 3, none⟩ = some (.string ((rd_T40 t318 0).f1.f2)) ∧ w26.cell? ⟨ad323.block, ad323.off + 4, none⟩ = some (.string ((rd_T40 t318 1).f0)) ∧ w26.cell? ⟨ad323.block, ad323.off + 4 + 1, none⟩ = some (.int .i64 ((rd_T40 t318 1).f1.f0)) ∧ w26.cell? ⟨ad323.block, ad323.off + 4 + 2, none⟩ = some (.int .i64 ((rd_T40 t318 1).f1.f1)) ∧ w26.cell? ⟨ad323.block, ad323.off + 4 + 3, none⟩ = some (.string ((rd_T40 t318 1).f1.f2)) := hS_
      refine norm_ (a' := ?_) ?_ ?_
      rotate_left
      ·simp only [putAll, Act.put, List.setIfInBounds_toArray, List.set_cons_zero, List.set_cons_succ]
       rfl
      refine one_ (i := 10) (N := none) #[true, true, true, true, true, true, true, true, true, true, true, false] rfl rfl (one_of HT_.out (by kernel_rfl)) (by decide) (fun K hK => ?_)
      have hs27 : w26.cell? ⟨gb325, 0, none⟩ = some (.string (⟨#[]⟩ : ByteArray)) := (blk_cell BK325.out 0).trans rfl
      have hfs27 := blk_frozen BK325.out 0
      have hns27_0 := NB312_325.out
      have hns27_1 := NB322_325.out
      have hns27_3 := NB326_325.out
      have hms27_0 := NB325_312.out
      have hms27_1 := NB325_322.out
      have hms27_3 := NB325_326.out
      have hs28 : w26.cell? ⟨gb325, 1, none⟩ = some (.int .i64 0) := (blk_cell BK325.out 1).trans rfl
      have hfs28 := blk_frozen BK325.out 1
      have hns28_0 := NB312_325.out
      have hns28_1 := NB322_325.out
      have hns28_3 := NB326_325.out
      have hms28_0 := NB325_312.out
      have hms28_1 := NB325_322.out
      have hms28_3 := NB325_326.out
      have hs29 : w26.cell? ⟨gb325, 2, none⟩ = some (.int .i64 0) := (blk_cell BK325.out 2).trans rfl
      have hfs29 := blk_frozen BK325.out 2
      have hns29_0 := NB312_325.out
      have hns29_1 := NB322_325.out
      have hns29_3 := NB326_325.out
      have hms29_0 := NB325_312.out
      have hms29_1 := NB325_322.out
      have hms29_3 := NB325_326.out
      have hs30 : w26.cell? ⟨gb325, 3, none⟩ = some (.string (⟨#[]⟩ : ByteArray)) := (blk_cell BK325.out 3).trans rfl
      have hfs30 := blk_frozen BK325.out 3
      have hns30_0 := NB312_325.out
      have hns30_1 := NB322_325.out
      have hns30_3 := NB326_325.out
      have hms30_0 := NB325_312.out
      have hms30_1 := NB325_322.out
      have hms30_3 := NB325_326.out
      refine skip_ (w1 := ?_) (by rfl) rfl ?_ ?_
      rotate_left
      ·go_simp
       rfl
      refine hK.out _ _ ⟨(by (repeat (with_reducible refine (cell_far (p := ⟨gb325, _, none⟩) NB322_325.out _).trans ?_)); exact hHeld.1), (by (repeat (with_reducible refine (cell_far (p := ⟨gb325, _, none⟩) NB322_325.out _).trans ?_)); exact hHeld.2.1), (by (repeat (with_reducible refine (cell_far (p := ⟨gb325, _, none⟩) NB322_325.out _).trans ?_)); exact hHeld.2.2.1), (by (repeat (with_reducible refine (cell_far (p := ⟨gb325, _, none⟩) NB322_325.out _).trans ?_)); exact hHeld.2.2.2.1), (by (repeat (with_reducible refine (cell_far (p := ⟨gb325, _, none⟩) NB322_325.out _).trans ?_)); exact hHeld.2.2.2.2.1), (by (repeat (with_reducible refine (cell_far (p := ⟨gb325, _, none⟩) Zq61 _).trans ?_)); exact hHeld.2.2.2.2.2.1), (by (repeat (with_reducible refine (cell_far (p := ⟨gb325, _, none⟩) Zq61 _).trans ?_)); exact hHeld.2.2.2.2.2.2.1), (by (repeat (with_reducible refine (cell_far (p := ⟨gb325, _, none⟩) Zq61 _).trans ?_)); exact hHeld.2.2.2.2.2.2.2.1), (by (repeat (with_reducible refine (cell_far (p := ⟨gb325, _, none⟩) Zq61 _).trans ?_)); exact hHeld.2.2.2.2.2.2.2.2.1), (by (repeat (with_reducible refine (cell_far (p := ⟨gb325, _, none⟩) Zq61 _).trans ?_)); exact hHeld.2.2.2.2.2.2.2.2.2.1), (by (repeat (with_reducible refine (cell_far (p := ⟨gb325, _, none⟩) Zq61 _).trans ?_)); exact hHeld.2.2.2.2.2.2.2.2.2.2.1), (by (repeat (with_reducible refine (cell_far (p := ⟨gb325, _, none⟩) Zq61 _).trans ?_)); exact hHeld.2.2.2.2.2.2.2.2.2.2.2.1), (by (repeat (with_reducible refine (cell_far (p := ⟨gb325, _, none⟩) Zq61 _).trans ?_)); exact hHeld.2.2.2.2.2.2.2.2.2.2.2.2)⟩ (fun hHeld_ => ?_)
      clear hK K hHeld
      have hHeld := hHeld_
      clear hHeld_
      refine one_ (i := 11) (N := none) #[true, true, true, true, true, true, true, true, true, true, true, true] rfl rfl (one_of HT_.out (by kernel_rfl)) (by decide) (fun K hK => ?_)
      have hs31 : w26.cell? ⟨gb326, 0, none⟩ = some (.string (⟨#[]⟩ : ByteArray)) := (blk_cell BK326.out 0).trans rfl
      have hfs31 := blk_frozen BK326.out 0
      have hns31_0 := NB312_326.out
      have hns31_1 := NB322_326.out
      have hns31_2 := NB325_326.out
      have hms31_0 := NB326_312.out
      have hms31_1 := NB326_322.out
      have hms31_2 := NB326_325.out
      have hs32 : w26.cell? ⟨gb326, 1, none⟩ = some (.int .i64 0) := (blk_cell BK326.out 1).trans rfl
      have hfs32 := blk_frozen BK326.out 1
      have hns32_0 := NB312_326.out
      have hns32_1 := NB322_326.out
      have hns32_2 := NB325_326.out
      have hms32_0 := NB326_312.out
      have hms32_1 := NB326_322.out
      have hms32_2 := NB326_325.out
      have hs33 : w26.cell? ⟨gb326, 2, none⟩ = some (.int .i64 0) := (blk_cell BK326.out 2).trans rfl
      have hfs33 := blk_frozen BK326.out 2
      have hns33_0 := NB312_326.out
      have hns33_1 := NB322_326.out
      have hns33_2 := NB325_326.out
      have hms33_0 := NB326_312.out
      have hms33_1 := NB326_322.out
      have hms33_2 := NB326_325.out
      have hs34 : w26.cell? ⟨gb326, 3, none⟩ = some (.string (⟨#[]⟩ : ByteArray)) := (blk_cell BK326.out 3).trans rfl
      have hfs34 := blk_frozen BK326.out 3
      have hns34_0 := NB312_326.out
      have hns34_1 := NB322_326.out
      have hns34_2 := NB325_326.out
      have hms34_0 := NB326_312.out
      have hms34_1 := NB326_322.out
      have hms34_2 := NB326_325.out
      refine skip_ (w1 := ?_) (by rfl) rfl ?_ ?_
      rotate_left
      ·go_simp
       rfl
      refine hK.out _ _ ⟨(by (repeat (with_reducible refine (cell_far (p := ⟨gb326, _, none⟩) NB322_326.out _).trans ?_)); exact hHeld.1), (by (repeat (with_reducible refine (cell_far (p := ⟨gb326, _, none⟩) NB322_326.out _).trans ?_)); exact hHeld.2.1), (by (repeat (with_reducible refine (cell_far (p := ⟨gb326, _, none⟩) NB322_326.out _).trans ?_)); exact hHeld.2.2.1), (by (repeat (with_reducible refine (cell_far (p := ⟨gb326, _, none⟩) NB322_326.out _).trans ?_)); exact hHeld.2.2.2.1), (by (repeat (with_reducible refine (cell_far (p := ⟨gb326, _, none⟩) NB322_326.out _).trans ?_)); exact hHeld.2.2.2.2.1), (by (repeat (with_reducible refine (cell_far (p := ⟨gb326, _, none⟩) Zq62 _).trans ?_)); exact hHeld.2.2.2.2.2.1), (by (repeat (with_reducible refine (cell_far (p := ⟨gb326, _, none⟩) Zq62 _).trans ?_)); exact hHeld.2.2.2.2.2.2.1), (by (repeat (with_reducible refine (cell_far (p := ⟨gb326, _, none⟩) Zq62 _).trans ?_)); exact hHeld.2.2.2.2.2.2.2.1), (by (repeat (with_reducible refine (cell_far (p := ⟨gb326, _, none⟩) Zq62 _).trans ?_)); exact hHeld.2.2.2.2.2.2.2.2.1), (by (repeat (with_reducible refine (cell_far (p := ⟨gb326, _, none⟩) Zq62 _).trans ?_)); exact hHeld.2.2.2.2.2.2.2.2.2.1), (by (repeat (with_reducible refine (cell_far (p := ⟨gb326, _, none⟩) Zq62 _).trans ?_)); exact hHeld.2.2.2.2.2.2.2.2.2.2.1), (by (repeat (with_reducible refine (cell_far (p := ⟨gb326, _, none⟩) Zq62 _).trans ?_)); exact hHeld.2.2.2.2.2.2.2.2.2.2.2.1), (by (repeat (with_reducible refine (cell_far (p := ⟨gb326, _, none⟩) Zq62 _).trans ?_)); exact hHeld.2.2.2.2.2.2.2.2.2.2.2.2)⟩ (fun hHeld_ => ?_)
      clear hK K hHeld
      have hHeld := hHeld_
      clear hHeld_
      refine done_ (done_of HT_.out (by kernel_rfl)) ?_
      (try clear hHeld)
      go_upto_region 5 with (fail)
      go_cut [49] (fun v49 wc => ∃ (kq : Nat) (x49_21 : Bool), v49 = .bool x49_21 ∧ Aside0 (trap_Decode.j1 kq l1 t313 x49_21 t314 t315 t316 t317 t318 ((rd_T40 t318 0).f0) ((rd_T40 t318 0).f1.f0) ((rd_T40 t318 0).f1.f1) ((rd_T40 t318 0).f1.f2) ((rd_T40 t318 1).f0) ((rd_T40 t318 1).f1.f0) ((rd_T40 t318 1).f1.f1) ((rd_T40 t318 1).f1.f2) = some (r1, r2, r3, r4, r5, r6, r7)) ∧ Aside0 (kq ≤ kj3) ∧ Aside0 (Kd.R k40 40 wc w.heap.size (fun k_ => k_ ≠ gb325 ∧ k_ ≠ gb326) (.slice (some ad323) t318.length co10) t318) ∧ Aside0 (wc.heap[gb312]? = some (.cells #[.string (⟨#[]⟩ : ByteArray), .bool false, .int .i64 0, .int .i64 0, .string (⟨#[]⟩ : ByteArray), (.slice none 0 0)] 24 (0, 0))) ∧ Aside0 (wc.heap[gb322]? = some (.cells #[.int .i64 t314, .int .i64 t315, .int .i64 t316, .int .i64 t317, (.slice (some ad323) t318.length co10)] 43 (0, 0))) ∧ Aside0 (wc.heap[gb325]? = some (.cells #[.string ((rd_T40 t318 0).f0), .int .i64 ((rd_T40 t318 0).f1.f0), .int .i64 ((rd_T40 t318 0).f1.f1), .string ((rd_T40 t318 0).f1.f2)] 40 (0, 0))) ∧ Aside0 (wc.heap[gb326]? = some (.cells #[.string ((rd_T40 t318 1).f0), .int .i64 ((rd_T40 t318 1).f1.f0), .int .i64 ((rd_T40 t318 1).f1.f1), .string ((rd_T40 t318 1).f1.f2)] 40 (0, 0))) ∧ Aside0 (Below w.heap.size w wc))
      case first =>
       have H := HC22.out
       clear HC22
       replace H := Option.bind_eq_some_iff.mp H
       obtain ⟨⟨t327, t328⟩, A350, H⟩ := H
       replace H : (if (!(t327.toList == ([49, 46, 51, 46, 54, 46, 49, 46, 50, 46, 49, 46, 49, 46, 51, 46, 48] : List UInt8)) || (!(t328 == 67))) = true then (trap_Decode.j1 kj3 l1 t313 true t314 t315 t316 t317 t318 ((rd_T40 t318 0).f0) ((rd_T40 t318 0).f1.f0) ((rd_T40 t318 0).f1.f1) ((rd_T40 t318 0).f1.f2) ((rd_T40 t318 1).f0) ((rd_T40 t318 1).f1.f0) ((rd_T40 t318 1).f1.f1) ((rd_T40 t318 1).f1.f2)) else ((trap_of.f ((rd_T40 t318 1).f0) ((rd_T40 t318 1).f1.f0) ((rd_T40 t318 1).f1.f1) ((rd_T40 t318 1).f1.f2)).bind fun bt329 => (trap_Decode.j1 kj3 l1 t313 (!(bt329.1.toList == ([49, 46, 51, 46, 54, 46, 49, 46, 54, 46, 51, 46, 49, 46, 49, 46, 52, 46, 49, 46, 48] : List UInt8)) || (!(bt329.2 == 6))) t314 t315 t316 t317 t318 ((rd_T40 t318 0).f0) ((rd_T40 t318 0).f1.f0) ((rd_T40 t318 0).f1.f1) ((rd_T40 t318 0).f1.f2) ((rd_T40 t318 1).f0) ((rd_T40 t318 1).f1.f0) ((rd_T40 t318 1).f1.f1) ((rd_T40 t318 1).f1.f2)))) = some (r1, r2, r3, r4, r5, r6, r7) := H
       have A35 := Aside0.mk A350
       clear A350
       by_cases c36 : (!(t327.toList == ([49, 46, 51, 46, 54, 46, 49, 46, 50, 46, 49, 46, 49, 46, 51, 46, 48] : List UInt8)) || (!(t328 == 67))) = true
       ·rw [if_pos c36] at H
        have c36b0 : (!(t327.toList == ([49, 46, 51, 46, 54, 46, 49, 46, 50, 46, 49, 46, 49, 46, 51, 46, 48] : List UInt8)) || (!(t328 == 67))) = true := c36
        clear c36
        (first | rw [c36b0] | (simp only [i64_w, i32_w]; rw [c36b0]) | skip)
        have H' := Aside0.mk H
        clear H
        have hnb37 := NB325_312.out
        have hnc37 := NB312_325.out
        have hnb38 := NB325_322.out
        have hnc38 := NB322_325.out
        have hnb39 := NB325_326.out
        have hnc39 := NB326_325.out
        obtain ⟨hcz40_0, hcz40_1, hcz40_2, hcz40_3⟩ := cells4_ BK325.out
        obtain ⟨hfz40_0, hfz40_1, hfz40_2, hfz40_3⟩ := frozen4_ BK325.out
        go_wp2_with (first | ((with_reducible refine gate_callee (f := 20) rfl ?_); refine goesL_ (some 41) rfl rfl Tryz.func20 (by kernel_rfl) rfl #[.agg #[.string ((rd_T40 t318 0).f0), .int .i64 ((rd_T40 t318 0).f1.f0), .int .i64 ((rd_T40 t318 0).f1.f1), .string ((rd_T40 t318 0).f1.f2)]] rfl Zq14 ?_; (with_reducible refine (trap_of.calls ((rd_T40 t318 0).f0) ((rd_T40 t318 0).f1.f0) ((rd_T40 t318 0).f1.f1) ((rd_T40 t318 0).f1.f2) t327 t328 _ A35.out).mono ?_); rintro e w41 ⟨rfl, hb⟩; refine ⟨_, rfl, ?_⟩; replace HO_323004 := Aside0.mk (Kd.R_below Zq66 hb); replace BK312 := Aside0.mk (blk_below (g := gb312) (o := .cells #[.string (⟨#[]⟩ : ByteArray), .bool false, .int .i64 0, .int .i64 0, .string (⟨#[]⟩ : ByteArray), .slice none 0 0] 24 (0, 0)) Zq52 hb); replace BK322 := Aside0.mk (blkb_ BK322.out Zq52 hb); replace BK325 := Aside0.mk (blk_below (g := gb325) (o := .cells #[.string ((rd_T40 t318 0).f0), .int .i64 ((rd_T40 t318 0).f1.f0), .int .i64 ((rd_T40 t318 0).f1.f1), .string ((rd_T40 t318 0).f1.f2)] 40 (0, 0)) Zq57 hb); replace BK326 := Aside0.mk (blk_below (g := gb326) (o := .cells #[.string ((rd_T40 t318 1).f0), .int .i64 ((rd_T40 t318 1).f1.f0), .int .i64 ((rd_T40 t318 1).f1.f1), .string ((rd_T40 t318 1).f1.f2)] 40 (0, 0)) Zq57 hb); replace HB := Aside0.mk (below_step Zq59 hb); (try clear hb); (try clear hb2); (try clear hk); (try clear hi)))
        go_meet
        case rel => exact ⟨_, (true), Zq12, H', ⟨by have := HJ3.out; first | omega | exact Nat.le_refl _⟩, ⟨by (with_reducible repeat (first | apply Kd.R_alloc | apply Kd.R_drewN | apply Kd.R_drew)); exact HO_323004.out⟩, ⟨Zy56⟩, ⟨Zy57⟩, ⟨Zy58⟩, ⟨Zy59⟩, ⟨Zy13⟩⟩
       ·rw [if_neg c36] at H
        have c36b0 : (!(t327.toList == ([49, 46, 51, 46, 54, 46, 49, 46, 50, 46, 49, 46, 49, 46, 51, 46, 48] : List UInt8)) || (!(t328 == 67))) = false := by simpa using c36
        clear c36
        (first | rw [c36b0] | (simp only [i64_w, i32_w]; rw [c36b0]) | skip)
        replace H := Option.bind_eq_some_iff.mp H
        obtain ⟨⟨t329, t330⟩, A420, H⟩ := H
        replace H : (trap_Decode.j1 kj3 l1 t313 (!(t329.toList == ([49, 46, 51, 46, 54, 46, 49, 46, 54, 46, 51, 46, 49, 46, 49, 46, 52, 46, 49, 46, 48] : List UInt8)) || (!(t330 == 6))) t314 t315 t316 t317 t318 ((rd_T40 t318 0).f0) ((rd_T40 t318 0).f1.f0) ((rd_T40 t318 0).f1.f1) ((rd_T40 t318 0).f1.f2) ((rd_T40 t318 1).f0) ((rd_T40 t318 1).f1.f0) ((rd_T40 t318 1).f1.f1) ((rd_T40 t318 1).f1.f2)) = some (r1, r2, r3, r4, r5, r6, r7) := H
        have A42 := Aside0.mk A420
        clear A420
        have H' := Aside0.mk H
        clear H
        have hnb43 := NB325_312.out
        have hnc43 := NB312_325.out
        have hnb44 := NB325_322.out
        have hnc44 := NB322_325.out
        have hnb45 := NB325_326.out
        have hnc45 := NB326_325.out
        obtain ⟨hcz46_0, hcz46_1, hcz46_2, hcz46_3⟩ := cells4_ BK325.out
        obtain ⟨hfz46_0, hfz46_1, hfz46_2, hfz46_3⟩ := frozen4_ BK325.out
        go_wp2_with (first | ((with_reducible refine gate_callee (f := 20) rfl ?_); refine goesL_ (some 41) rfl rfl Tryz.func20 (by kernel_rfl) rfl #[.agg #[.string ((rd_T40 t318 0).f0), .int .i64 ((rd_T40 t318 0).f1.f0), .int .i64 ((rd_T40 t318 0).f1.f1), .string ((rd_T40 t318 0).f1.f2)]] rfl Zq14 ?_; (with_reducible refine (trap_of.calls ((rd_T40 t318 0).f0) ((rd_T40 t318 0).f1.f0) ((rd_T40 t318 0).f1.f1) ((rd_T40 t318 0).f1.f2) t327 t328 _ A35.out).mono ?_); rintro e w47 ⟨rfl, hb⟩; refine ⟨_, rfl, ?_⟩; replace HO_323004 := Aside0.mk (Kd.R_below Zq66 hb); replace BK312 := Aside0.mk (blk_below (g := gb312) (o := .cells #[.string (⟨#[]⟩ : ByteArray), .bool false, .int .i64 0, .int .i64 0, .string (⟨#[]⟩ : ByteArray), .slice none 0 0] 24 (0, 0)) Zq52 hb); replace BK322 := Aside0.mk (blkb_ BK322.out Zq52 hb); replace BK325 := Aside0.mk (blk_below (g := gb325) (o := .cells #[.string ((rd_T40 t318 0).f0), .int .i64 ((rd_T40 t318 0).f1.f0), .int .i64 ((rd_T40 t318 0).f1.f1), .string ((rd_T40 t318 0).f1.f2)] 40 (0, 0)) Zq57 hb); replace BK326 := Aside0.mk (blk_below (g := gb326) (o := .cells #[.string ((rd_T40 t318 1).f0), .int .i64 ((rd_T40 t318 1).f1.f0), .int .i64 ((rd_T40 t318 1).f1.f1), .string ((rd_T40 t318 1).f1.f2)] 40 (0, 0)) Zq57 hb); replace HB := Aside0.mk (below_step Zq59 hb); (try clear hb); (try clear hb2); (try clear hk); (try clear hi); have hnb48 := NB326_312.out; have hnc48 := NB312_326.out; have hnb49 := NB326_322.out; have hnc49 := NB322_326.out; obtain ⟨hcz50_0, hcz50_1, hcz50_2, hcz50_3⟩ := cells4_ BK326.out; obtain ⟨hfz50_0, hfz50_1, hfz50_2, hfz50_3⟩ := frozen4_ BK326.out) | (go_at_call 20; (with_reducible refine (trap_of.calls ((rd_T40 t318 1).f0) ((rd_T40 t318 1).f1.f0) ((rd_T40 t318 1).f1.f1) ((rd_T40 t318 1).f1.f2) t329 t330 _ A42.out).mono ?_); rintro e w51 ⟨rfl, hb⟩; replace HO_323004 := Aside0.mk (Kd.R_below Zq11 hb); replace BK312 := Aside0.mk (blk_below (g := gb312) (o := .cells #[.string (⟨#[]⟩ : ByteArray), .bool false, .int .i64 0, .int .i64 0, .string (⟨#[]⟩ : ByteArray), .slice none 0 0] 24 (0, 0)) Zq52 hb); replace BK322 := Aside0.mk (blkb_ BK322.out Zq52 hb); replace BK325 := Aside0.mk (blkb_ BK325.out Zq52 hb); replace BK326 := Aside0.mk (blkb_ BK326.out Zq52 hb); replace HB := Aside0.mk (below_step Zq59 hb); (try clear hb); (try clear hb2); (try clear hk); (try clear hi)))
        go_meet
        case rel => exact ⟨_, ((!(t329.toList == ([49, 46, 51, 46, 54, 46, 49, 46, 54, 46, 51, 46, 49, 46, 49, 46, 52, 46, 49, 46, 48] : List UInt8)) || (!(t330 == 6)))), Zq12, H', ⟨by have := HJ3.out; first | omega | exact Nat.le_refl _⟩, ⟨by (with_reducible repeat (first | apply Kd.R_alloc | apply Kd.R_drewN | apply Kd.R_drew)); exact HO_323004.out⟩, ⟨Zy56⟩, ⟨Zy57⟩, ⟨Zy58⟩, ⟨Zy59⟩, ⟨Zy13⟩⟩
      case rest =>
       clear HC22
       (try clear c1); (try clear c2); (try clear p2); (try clear c3); (try clear p3); (try clear q3); (try clear hx3); (try clear qi3); (try clear c4); (try clear c12); (try clear c12b1); (try clear c13); (try clear c15); (try clear c17); (try clear c18); (try clear c20); (try clear c20b0); (try clear c20b1); (try clear c21); (try clear c21b0); (try clear c21b1); (try clear p32); (try clear q32); (try clear hx32); (try clear qi32); (try clear c36); (try clear c36b0); (try clear c37); (try clear c38); (try clear c39); (try clear c43); (try clear c44); (try clear c45); (try clear c48); (try clear c49); (try clear hcz14_0); (try clear hcz14_1); (try clear hcz14_2); (try clear hcz14_3); (try clear hcz14_4); (try clear hcz16_0); (try clear hcz16_1); (try clear hcz16_2); (try clear hcz16_3); (try clear hcz16_4); (try clear hcz19_0); (try clear hcz19_1); (try clear hcz19_2); (try clear hcz19_3); (try clear hcz19_4); (try clear hcz19_5); (try clear hcz40_0); (try clear hcz40_1); (try clear hcz40_2); (try clear hcz40_3); (try clear hcz46_0); (try clear hcz46_1); (try clear hcz46_2); (try clear hcz46_3); (try clear hcz50_0); (try clear hcz50_1); (try clear hcz50_2); (try clear hcz50_3); (try clear hcz9_0); (try clear hcz9_1); (try clear hcz9_2); (try clear hcz9_3); (try clear hcz9_4); (try clear hfz14_0); (try clear hfz14_1); (try clear hfz14_2); (try clear hfz14_3); (try clear hfz14_4); (try clear hfz16_0); (try clear hfz16_1); (try clear hfz16_2); (try clear hfz16_3); (try clear hfz16_4); (try clear hfz19_0); (try clear hfz19_1); (try clear hfz19_2); (try clear hfz19_3); (try clear hfz19_4); (try clear hfz19_5); (try clear hfz40_0); (try clear hfz40_1); (try clear hfz40_2); (try clear hfz40_3); (try clear hfz46_0); (try clear hfz46_1); (try clear hfz46_2); (try clear hfz46_3); (try clear hfz50_0); (try clear hfz50_1); (try clear hfz50_2); (try clear hfz50_3); (try clear hfz9_0); (try clear hfz9_1); (try clear hfz9_2); (try clear hfz9_3); (try clear hfz9_4); (try clear hx323_0); (try clear hx323_1); (try clear hx323_2); (try clear hx323_3); (try clear hx324_0); (try clear hx324_1); (try clear hx324_2); (try clear hx324_3); (try clear p323); (try clear p324); (try clear q323); (try clear q324)
       obtain ⟨kq, x49_21, rfl, HA, HJ21, HO_323004, BK312, BK322, BK325, BK326, HB⟩ := hcut
       cases kq with
       | zero => exact absurd HA.out (by simp [trap_Decode.j1])
       | succ kj21 =>
        have H := HA.out
        clear HA
        simp only [trap_Decode.j1] at H
        by_cases c52 : x49_21 = true
        ·subst c52
         have H1 : (some ((⟨#[]⟩ : ByteArray), false, 0, 0, (⟨#[]⟩ : ByteArray), ([] : List (S40)), 90)) = some (r1, r2, r3, r4, r5, r6, r7) := by rw [if_pos rfl] at H; exact H
         clear H
         have H := H1
         clear H1
         simp only [Option.some.injEq, Prod.mk.injEq] at H
         obtain ⟨rfl, rfl, rfl, rfl, rfl, rfl, rfl⟩ := H
         have hnb53 := NB312_322.out
         have hnc53 := NB322_312.out
         have hnb54 := NB312_325.out
         have hnc54 := NB325_312.out
         have hnb55 := NB312_326.out
         have hnc55 := NB326_312.out
         obtain ⟨hcz56_0, hcz56_1, hcz56_2, hcz56_3, hcz56_4, hcz56_5⟩ := cells6_ BK312.out
         obtain ⟨hfz56_0, hfz56_1, hfz56_2, hfz56_3, hfz56_4, hfz56_5⟩ := frozen6_ BK312.out
         go_wp2
         refine bodyPost_ret (results_ct rfl _ _ gb312 24 #[.string (⟨#[]⟩ : ByteArray), .bool false, .int .i64 0, .int .i64 0, .string (⟨#[]⟩ : ByteArray), .slice none 0 0] (0, 0) _ rfl Zq57 Tryz.underlying24 rfl (by kernel_rfl)) rfl ?_
         exact ⟨_, Zy69, Zy45, Zy13⟩
        ·replace c52 := Bool.eq_false_iff.mpr c52
         subst c52
         have H1 : (if 2 ≤ (t318.length : Int) then ((api_Bind_21.f (t318.drop 2)).bind fun t335 => ((trap_Check.f kj21 t313 (t314 == 166) t315 ((rd_T40 t318 0).f1.f1) ((rd_T40 t318 1).f1.f2) t335).bind fun t339 => (if t339 = 0 then ((slices_Contains_string_string.f kj21 l1 t313).bind fun t340 => (if t340 = true then (some (t313, (t314 == 166), t315, ((rd_T40 t318 0).f1.f1), ((rd_T40 t318 1).f1.f2), t335, 0)) else (some ((⟨#[]⟩ : ByteArray), false, 0, 0, (⟨#[]⟩ : ByteArray), ([] : List (S40)), 91)))) else (some ((⟨#[]⟩ : ByteArray), false, 0, 0, (⟨#[]⟩ : ByteArray), ([] : List (S40)), 90))))) else (none)) = some (r1, r2, r3, r4, r5, r6, r7) := by rw [if_neg (show ¬ (false = true) by decide)] at H; exact H
         clear H
         have H := H1
         clear H1
         by_cases c57 : 2 ≤ (t318.length : Int)
         ·rw [if_pos c57] at H
          have c57b0 := eq_true c57
          have c57b1 : decide (2 ≤ (t318.length : Int)) = true := decide_eq_true c57
          clear c57
          obtain ⟨y331, hy331⟩ : ∃ y_ : List (S40), y_ = (t318.drop 2) := ⟨_, rfl⟩
          replace H : ((api_Bind_21.f y331).bind fun t335 => ((trap_Check.f kj21 t313 (t314 == 166) t315 ((rd_T40 t318 0).f1.f1) ((rd_T40 t318 1).f1.f2) t335).bind fun t339 => (if t339 = 0 then ((slices_Contains_string_string.f kj21 l1 t313).bind fun t340 => (if t340 = true then (some (t313, (t314 == 166), t315, ((rd_T40 t318 0).f1.f1), ((rd_T40 t318 1).f1.f2), t335, 0)) else (some ((⟨#[]⟩ : ByteArray), false, 0, 0, (⟨#[]⟩ : ByteArray), ([] : List (S40)), 91)))) else (some ((⟨#[]⟩ : ByteArray), false, 0, 0, (⟨#[]⟩ : ByteArray), ([] : List (S40)), 90))))) = some (r1, r2, r3, r4, r5, r6, r7) := by first | (rw [hy331]; with_reducible exact H) | (have H2_ := (Option.bind_some _ _).symm.trans H; rw [hy331]; with_reducible exact H2_) | (have H2_ := (Option.bind_some _ _).symm.trans H; with_reducible exact H2_) | with_reducible exact H | (rw [hy331]; exact H) | exact H
          have Ny331 := Aside0.mk hy331
          clear hy331
          replace H := Option.bind_eq_some_iff.mp H
          obtain ⟨t335, A580, H⟩ := H
          replace H : ((trap_Check.f kj21 t313 (t314 == 166) t315 ((rd_T40 t318 0).f1.f1) ((rd_T40 t318 1).f1.f2) t335).bind fun t339 => (if t339 = 0 then ((slices_Contains_string_string.f kj21 l1 t313).bind fun t340 => (if t340 = true then (some (t313, (t314 == 166), t315, ((rd_T40 t318 0).f1.f1), ((rd_T40 t318 1).f1.f2), t335, 0)) else (some ((⟨#[]⟩ : ByteArray), false, 0, 0, (⟨#[]⟩ : ByteArray), ([] : List (S40)), 91)))) else (some ((⟨#[]⟩ : ByteArray), false, 0, 0, (⟨#[]⟩ : ByteArray), ([] : List (S40)), 90)))) = some (r1, r2, r3, r4, r5, r6, r7) := H
          have A58 := Aside0.mk A580
          clear A580
          replace H := Option.bind_eq_some_iff.mp H
          obtain ⟨t339, A590, H⟩ := H
          replace H : (if t339 = 0 then ((slices_Contains_string_string.f kj21 l1 t313).bind fun t340 => (if t340 = true then (some (t313, (t314 == 166), t315, ((rd_T40 t318 0).f1.f1), ((rd_T40 t318 1).f1.f2), t335, 0)) else (some ((⟨#[]⟩ : ByteArray), false, 0, 0, (⟨#[]⟩ : ByteArray), ([] : List (S40)), 91)))) else (some ((⟨#[]⟩ : ByteArray), false, 0, 0, (⟨#[]⟩ : ByteArray), ([] : List (S40)), 90))) = some (r1, r2, r3, r4, r5, r6, r7) := H
          have A59 := Aside0.mk A590
          clear A590
          have HX_ := Aside0.mk H
          clear H
          try go_wp2
          replace HO_323004 := Aside0.mk (Kd.R_drew HO_323004.out)
          replace BK312 := Aside0.mk (blk_drew BK312.out)
          replace BK322 := Aside0.mk (blk_drew BK322.out)
          replace BK325 := Aside0.mk (blk_drew BK325.out)
          replace BK326 := Aside0.mk (blk_drew BK326.out)
          replace HB := Aside0.mk (below_drew1 HB.out)
          have q64 : (2 : Int) ≤ ((t318.length : Int) : Int) := of_decide_eq_true Zq1
          obtain ⟨i064, hi064, _, hsz64, _⟩ := info_parts info40
          have hroom64 : t318.length ≤ co10 := (Kd.R_reads' HO_323004.out).2.1
          have hC64 : Kd.C k40 _ (some ad323) t318.length t318 := (Kd.R_reads' HO_323004.out).2.2
          have hcut64 := cut_from (P := Tryz.prog) 22 40 .i64 Tryz.underlying22 hi064 4 hsz64 (some ad323) t318.length co10 2 (by omega) q64
          have hr64 := Kd.C_drop (m := (2 : Int).toNat) (c := co10) hC64 (by omega) hroom64
          obtain ⟨A64, hA64⟩ : ∃ A1, A1 = (if co10 = (2 : Int).toNat then (some ad323) else ((some ad323) : Option Addr).map (·.add ((2 : Int).toNat * 4))) := ⟨_, rfl⟩
          obtain ⟨c64, hc64⟩ : ∃ c1, c1 = co10 - (2 : Int).toNat := ⟨_, rfl⟩
          have hy64 : y331.length = t318.length - (2 : Int).toNat := (by rw [Ny331.out, List.length_drop] <;> omega)
          rw [show (t318).drop (2 : Int).toNat = y331 from Ny331.out.symm] at hr64
          replace hr64 : Kd.C k40 _ A64 y331.length y331 := (by rw [hA64]; exact hr64)
          rw [← hy64, ← hA64, ← hc64] at hcut64
          have HR334 := Aside0.mk hr64
          have HC334 := Aside0.mk (show y331.length ≤ c64 from by rw [hy64, hc64]; exact Nat.sub_le_sub_right hroom64 _)
          clear hr64 hC64 hroom64 hi064 hsz64 hc64
          have KY64 := Aside0.mk hy64
          have KA64 := Aside0.mk hA64
          clear hy64 hA64
          have KL64 := Aside0.mk (show 2 ≤ t318.length from by omega)
          replace q64 := eq_true q64
          refine start_ (n := 19) (S := fun w' => w'.cell? ⟨gb322, 0, none⟩ = some (.int .i64 t314) ∧ w'.cell? ⟨gb322, 1, none⟩ = some (.int .i64 t315) ∧ w'.cell? ⟨gb322, 2, none⟩ = some (.int .i64 t316) ∧ w'.cell? ⟨gb322, 3, none⟩ = some (.int .i64 t317) ∧ w'.cell? ⟨gb322, 4, none⟩ = some (.slice (some ad323) t318.length co10) ∧ w'.cell? ⟨gb325, 0, none⟩ = some (.string ((rd_T40 t318 0).f0)) ∧ w'.cell? ⟨gb325, 1, none⟩ = some (.int .i64 ((rd_T40 t318 0).f1.f0)) ∧ w'.cell? ⟨gb325, 2, none⟩ = some (.int .i64 ((rd_T40 t318 0).f1.f1)) ∧ w'.cell? ⟨gb325, 3, none⟩ = some (.string ((rd_T40 t318 0).f1.f2)) ∧ w'.cell? ⟨gb326, 0, none⟩ = some (.string ((rd_T40 t318 1).f0)) ∧ w'.cell? ⟨gb326, 1, none⟩ = some (.int .i64 ((rd_T40 t318 1).f1.f0)) ∧ w'.cell? ⟨gb326, 2, none⟩ = some (.int .i64 ((rd_T40 t318 1).f1.f1)) ∧ w'.cell? ⟨gb326, 3, none⟩ = some (.string ((rd_T40 t318 1).f1.f2))) (ds := []) #[false, false, false, false, false, false, false, false, false, false, false, false, false, false, false, false, false, false, false] (by kernel_rfl) rfl rfl ⟨(blk_cell BK322.out 0).trans rfl, (blk_cell BK322.out 1).trans rfl, (blk_cell BK322.out 2).trans rfl, (blk_cell BK322.out 3).trans rfl, (blk_cell BK322.out 4).trans rfl, (blk_cell BK325.out 0).trans rfl, (blk_cell BK325.out 1).trans rfl, (blk_cell BK325.out 2).trans rfl, (blk_cell BK325.out 3).trans rfl, (blk_cell BK326.out 0).trans rfl, (blk_cell BK326.out 1).trans rfl, (blk_cell BK326.out 2).trans rfl, (blk_cell BK326.out 3).trans rfl⟩ (fun hHeld => ?_); refine with_tabW trap_Decode.tab7 trap_Decode.bits7 (fun HT_ HW_ => ?_)
          generalize wc.drew = w63 at HO_323004 BK312 BK322 BK325 BK326 HB HR334 hHeld ⊢
          refine pz_ 0 51 ?_
          refine pz_ 1 52 ?_
          refine pz_ 4 55 ?_
          refine pz_ 6 57 ?_
          refine pz_ 7 58 ?_
          refine pz_ 9 60 ?_
          refine pz_ 10 61 ?_
          refine pz_ 12 63 ?_
          refine tz_ 2 53 hHeld ?_
          refine pz_ 3 54 ?_
          refine tz_ 5 56 hHeld ?_
          refine tz_ 8 59 hHeld ?_
          refine tz_ 11 62 hHeld ?_
          refine tz_ 13 64 hHeld ?_
          refine pz_ 14 65 ?_
          refine join_ (σ := Value × Nat) 1 #[true, true, true, true, true, true, true, true, true, true, true, true, true, true, true, true, true, true, false] (fun s_ => [(66, s_.1), (11, .pointer (some ⟨s_.2, 0, none⟩)), (67, .agg #[.string t313, .bool (t314 == 166), .int .i64 t315, .int .i64 ((rd_T40 t318 0).f1.f1), .string ((rd_T40 t318 1).f1.f2), s_.1])]) (fun s_ w' => (w'.cell? ⟨gb322, 0, none⟩ = some (.int .i64 t314) ∧ w'.cell? ⟨gb322, 1, none⟩ = some (.int .i64 t315) ∧ w'.cell? ⟨gb322, 2, none⟩ = some (.int .i64 t316) ∧ w'.cell? ⟨gb322, 3, none⟩ = some (.int .i64 t317) ∧ w'.cell? ⟨gb322, 4, none⟩ = some (.slice (some ad323) t318.length co10) ∧ w'.cell? ⟨gb325, 0, none⟩ = some (.string ((rd_T40 t318 0).f0)) ∧ w'.cell? ⟨gb325, 1, none⟩ = some (.int .i64 ((rd_T40 t318 0).f1.f0)) ∧ w'.cell? ⟨gb325, 2, none⟩ = some (.int .i64 ((rd_T40 t318 0).f1.f1)) ∧ w'.cell? ⟨gb325, 3, none⟩ = some (.string ((rd_T40 t318 0).f1.f2)) ∧ w'.cell? ⟨gb326, 0, none⟩ = some (.string ((rd_T40 t318 1).f0)) ∧ w'.cell? ⟨gb326, 1, none⟩ = some (.int .i64 ((rd_T40 t318 1).f1.f0)) ∧ w'.cell? ⟨gb326, 2, none⟩ = some (.int .i64 ((rd_T40 t318 1).f1.f1)) ∧ w'.cell? ⟨gb326, 3, none⟩ = some (.string ((rd_T40 t318 1).f1.f2))) ∧ (Kd.R k40 40 w' w.heap.size (fun k_ => some k_ ≠ (.slice (some ad323) t318.length co10 : Value).ownBlock ∧ k_ ≠ gb325 ∧ k_ ≠ gb326) s_.1 t335) ∧ (Kd.R k40 40 w' w.heap.size (fun k_ => some k_ ≠ (s_.1 : Value).ownBlock ∧ k_ ≠ gb325 ∧ k_ ≠ gb326) (.slice (some ad323) t318.length co10) t318) ∧ (w'.heap[gb312]? = some (.cells #[.string (⟨#[]⟩ : ByteArray), .bool false, .int .i64 0, .int .i64 0, .string (⟨#[]⟩ : ByteArray), .slice none 0 0] 24 (0, 0))) ∧ (w'.heap[gb322]? = some (.cells #[.int .i64 t314, .int .i64 t315, .int .i64 t316, .int .i64 t317, .slice (some ad323) t318.length co10] 43 (0, 0))) ∧ (w'.heap[gb325]? = some (.cells #[.string ((rd_T40 t318 0).f0), .int .i64 ((rd_T40 t318 0).f1.f0), .int .i64 ((rd_T40 t318 0).f1.f1), .string ((rd_T40 t318 0).f1.f2)] 40 (0, 0))) ∧ (w'.heap[gb326]? = some (.cells #[.string ((rd_T40 t318 1).f0), .int .i64 ((rd_T40 t318 1).f1.f0), .int .i64 ((rd_T40 t318 1).f1.f1), .string ((rd_T40 t318 1).f1.f2)] 40 (0, 0))) ∧ (w'.heap[s_.2]? = some (.cells #[.string (⟨#[]⟩ : ByteArray), .bool false, .int .i64 0, .int .i64 0, .string (⟨#[]⟩ : ByteArray), .slice none 0 0] 24 (0, 0))) ∧ (w.heap.size ≤ s_.2) ∧ (w.heap.size ≤ s_.2) ∧ (gb312 ≠ s_.2) ∧ (s_.2 ≠ gb312) ∧ (gb322 ≠ s_.2) ∧ (s_.2 ≠ gb322) ∧ (gb325 ≠ s_.2) ∧ (s_.2 ≠ gb325) ∧ (gb326 ≠ s_.2) ∧ (s_.2 ≠ gb326) ∧ (Below w.heap.size w w')) ?_ ?_
          rotate_left
          ·intro hCont
           refine two_ (i := 15) (j := 17) (Ni := some 66) (Nj := some 11) #[true, true, true, true, true, true, true, true, true, true, true, true, true, true, true, true, false, false, false] #[true, true, true, true, true, true, true, true, true, true, true, true, true, true, true, false, false, true, false] rfl rfl rfl rfl (two_of HT_.out (by kernel_rfl)) (by decide) (by decide) (fun K hK => ?_) (fun K hK => ?_)
           ·skip
            refine goes_ Tryz.func21 (by kernel_rfl) rfl #[.slice A64 y331.length c64] (by rfl) rfl rfl Zq14 ?_
            with_reducible refine (api_Bind_21.calls _ _ y331 t335 _ ?side1 ?side2 A58.out).mono ?_
            (case side1 => repeat (first | exact Zq41 | (with_reducible refine Kd.C_alloc ?_ _) | (with_reducible refine Kd.C_drewN ?_ _) | (with_reducible refine Kd.C_drew ?_)))
            (case side2 => exact HC334.out)
            rintro e w65 ⟨v336, rfl, ho0, hb⟩
            refine ⟨_, rfl, ?_⟩
            have HO337 := Aside0.mk (Kd.R_lower (Kd.R_newB (Kd.R_newB (Kd.R_new' ho0 (Kd.R_lt Zq11)) (g := gb325) (o := .cells #[.string ((rd_T40 t318 0).f0), .int .i64 ((rd_T40 t318 0).f1.f0), .int .i64 ((rd_T40 t318 0).f1.f1), .string ((rd_T40 t318 0).f1.f2)] 40 (0, 0)) Zq52) (g := gb326) (o := .cells #[.string ((rd_T40 t318 1).f0), .int .i64 ((rd_T40 t318 1).f1.f0), .int .i64 ((rd_T40 t318 1).f1.f1), .string ((rd_T40 t318 1).f1.f2)] 40 (0, 0)) Zq52) (below_size Zq59))
            replace HO_323004 := Aside0.mk (Kd.R_elder' Zq11 (Kd.R_base ho0) hb)
            replace BK312 := Aside0.mk (blk_below (g := gb312) (o := .cells #[.string (⟨#[]⟩ : ByteArray), .bool false, .int .i64 0, .int .i64 0, .string (⟨#[]⟩ : ByteArray), .slice none 0 0] 24 (0, 0)) Zq52 hb)
            replace BK322 := Aside0.mk (blkb_ BK322.out Zq52 hb)
            replace BK325 := Aside0.mk (blkb_ BK325.out Zq52 hb)
            replace BK326 := Aside0.mk (blkb_ BK326.out Zq52 hb)
            replace HR334 := Aside0.mk (Kd.C_below Zq41 hb)
            replace HB := Aside0.mk (below_step Zq59 hb)
            (try clear hb)
            (try clear hb2)
            (try clear hk)
            (try clear hi)
            (try clear ho0)
            obtain ⟨Ao66, co66, eo66⟩ := Kd.R_slice HO337.out
            (first | subst eo66 | (injection eo66 with f1_ f2_ f3_; have f4_ := f1_.symm; have f5_ := f3_.symm; clear f1_ f2_ f3_; subst f4_; subst f5_))
            refine hK.out _ _ ⟨(blk_cell BK322.out 0).trans rfl, (blk_cell BK322.out 1).trans rfl, (blk_cell BK322.out 2).trans rfl, (blk_cell BK322.out 3).trans rfl, (blk_cell BK322.out 4).trans rfl, (blk_cell BK325.out 0).trans rfl, (blk_cell BK325.out 1).trans rfl, (blk_cell BK325.out 2).trans rfl, (blk_cell BK325.out 3).trans rfl, (blk_cell BK326.out 0).trans rfl, (blk_cell BK326.out 1).trans rfl, (blk_cell BK326.out 2).trans rfl, (blk_cell BK326.out 3).trans rfl⟩ (fun hHeld_ => ?_)
            clear hK K hHeld
            have hHeld := hHeld_
            clear hHeld_
            refine nz_ 66 ?_
            refine pz_ 16 67 ?_
            refine oz_ 17 11 (fun K hK => ?_)
            refine box_step ?hg (N := 11) ?hd (cs := #[.string (⟨#[]⟩ : ByteArray), .bool false, .int .i64 0, .int .i64 0, .string (⟨#[]⟩ : ByteArray), .slice none 0 0]) (t := 24) ?hr ?_; (case hd => rfl); (case hg => rfl); (case hr => exact Zq2)
            intro gb338 hg w67 hbox hb
            have BK338 := Aside0.mk (hbox)
            have GW338 := Aside0.mk ((by rw [hg]; exact (below_size Zq59) : w.heap.size ≤ gb338))
            have GE338 := Aside0.mk ((by rw [hg]; exact (below_size Zq59) : w.heap.size ≤ gb338))
            have NB312_338 := Aside0.mk ((Zq90 : gb312 ≠ gb338))
            have NB338_312 := Aside0.mk ((Zq87 : gb338 ≠ gb312))
            have NB322_338 := Aside0.mk ((Zq81 : gb322 ≠ gb338))
            have NB338_322 := Aside0.mk ((Zq74 : gb338 ≠ gb322))
            have NB325_338 := Aside0.mk ((Zq96 : gb325 ≠ gb338))
            have NB338_325 := Aside0.mk ((Zq94 : gb338 ≠ gb325))
            have NB326_338 := Aside0.mk ((Zq97 : gb326 ≠ gb338))
            have NB338_326 := Aside0.mk ((Zq95 : gb338 ≠ gb326))
            replace HO_323004 := Aside0.mk (Kd.R_below Zq11 hb)
            replace HO337 := Aside0.mk (Kd.R_below Zq9 hb)
            replace BK312 := Aside0.mk (blk_below (g := gb312) (o := .cells #[.string (⟨#[]⟩ : ByteArray), .bool false, .int .i64 0, .int .i64 0, .string (⟨#[]⟩ : ByteArray), .slice none 0 0] 24 (0, 0)) Zq52 hb)
            replace BK322 := Aside0.mk (blkb_ BK322.out Zq52 hb)
            replace BK325 := Aside0.mk (blkb_ BK325.out Zq52 hb)
            replace BK326 := Aside0.mk (blkb_ BK326.out Zq52 hb)
            replace HR334 := Aside0.mk (Kd.C_below Zq41 hb)
            replace HB := Aside0.mk (below_step Zq59 hb)
            clear hb hbox hg
            refine hK.out _ _ ⟨(blk_cell BK322.out 0).trans rfl, (blk_cell BK322.out 1).trans rfl, (blk_cell BK322.out 2).trans rfl, (blk_cell BK322.out 3).trans rfl, (blk_cell BK322.out 4).trans rfl, (blk_cell BK325.out 0).trans rfl, (blk_cell BK325.out 1).trans rfl, (blk_cell BK325.out 2).trans rfl, (blk_cell BK325.out 3).trans rfl, (blk_cell BK326.out 0).trans rfl, (blk_cell BK326.out 1).trans rfl, (blk_cell BK326.out 2).trans rfl, (blk_cell BK326.out 3).trans rfl⟩ (fun hHeld_ => ?_)
            clear hK K hHeld
            have hHeld := hHeld_
            clear hHeld_
            refine nz_ 11 ?_
            exact norm_ Zq4 (hCont (.slice Ao66 t335.length co66, gb338) _ ⟨hHeld, Zy43, Zy42, Zq52, Zq52, Zq52, Zq52, Zq52, GW338.out, GE338.out, NB312_338.out, NB338_312.out, NB322_338.out, NB338_322.out, NB325_338.out, NB338_325.out, NB326_338.out, NB338_326.out, Zq60⟩)
           ·skip
            refine box_step ?hg (N := 11) ?hd (cs := #[.string (⟨#[]⟩ : ByteArray), .bool false, .int .i64 0, .int .i64 0, .string (⟨#[]⟩ : ByteArray), .slice none 0 0]) (t := 24) ?hr ?_; (case hd => rfl); (case hg => rfl); (case hr => exact Zq2)
            intro gb338 hg w65 hbox hb
            have BK338 := Aside0.mk (hbox)
            have GW338 := Aside0.mk ((by rw [hg]; exact (below_size Zq59) : w.heap.size ≤ gb338))
            have GE338 := Aside0.mk ((by rw [hg]; exact (below_size Zq59) : w.heap.size ≤ gb338))
            have NB312_338 := Aside0.mk ((Zq90 : gb312 ≠ gb338))
            have NB338_312 := Aside0.mk ((Zq87 : gb338 ≠ gb312))
            have NB322_338 := Aside0.mk ((Zq81 : gb322 ≠ gb338))
            have NB338_322 := Aside0.mk ((Zq74 : gb338 ≠ gb322))
            have NB325_338 := Aside0.mk ((Zq96 : gb325 ≠ gb338))
            have NB338_325 := Aside0.mk ((Zq94 : gb338 ≠ gb325))
            have NB326_338 := Aside0.mk ((Zq97 : gb326 ≠ gb338))
            have NB338_326 := Aside0.mk ((Zq95 : gb338 ≠ gb326))
            replace HO_323004 := Aside0.mk (Kd.R_below Zq11 hb)
            replace BK312 := Aside0.mk (blk_below (g := gb312) (o := .cells #[.string (⟨#[]⟩ : ByteArray), .bool false, .int .i64 0, .int .i64 0, .string (⟨#[]⟩ : ByteArray), .slice none 0 0] 24 (0, 0)) Zq52 hb)
            replace BK322 := Aside0.mk (blkb_ BK322.out Zq52 hb)
            replace BK325 := Aside0.mk (blkb_ BK325.out Zq52 hb)
            replace BK326 := Aside0.mk (blkb_ BK326.out Zq52 hb)
            replace HR334 := Aside0.mk (Kd.C_below Zq41 hb)
            replace HB := Aside0.mk (below_step Zq59 hb)
            clear hb hbox hg
            refine hK.out _ _ ⟨(blk_cell BK322.out 0).trans rfl, (blk_cell BK322.out 1).trans rfl, (blk_cell BK322.out 2).trans rfl, (blk_cell BK322.out 3).trans rfl, (blk_cell BK322.out 4).trans rfl, (blk_cell BK325.out 0).trans rfl, (blk_cell BK325.out 1).trans rfl, (blk_cell BK325.out 2).trans rfl, (blk_cell BK325.out 3).trans rfl, (blk_cell BK326.out 0).trans rfl, (blk_cell BK326.out 1).trans rfl, (blk_cell BK326.out 2).trans rfl, (blk_cell BK326.out 3).trans rfl⟩ (fun hHeld_ => ?_)
            clear hK K hHeld
            have hHeld := hHeld_
            clear hHeld_
            refine nz_ 11 ?_
            refine oz_ 15 66 (fun K hK => ?_)
            refine goes_ Tryz.func21 (by kernel_rfl) rfl #[.slice A64 y331.length c64] (by rfl) rfl rfl Zq14 ?_
            with_reducible refine (api_Bind_21.calls _ _ y331 t335 _ ?side1 ?side2 A58.out).mono ?_
            (case side1 => repeat (first | exact Zq41 | (with_reducible refine Kd.C_alloc ?_ _) | (with_reducible refine Kd.C_drewN ?_ _) | (with_reducible refine Kd.C_drew ?_)))
            (case side2 => exact HC334.out)
            rintro e w66 ⟨v336, rfl, ho0, hb⟩
            refine ⟨_, rfl, ?_⟩
            have HO337 := Aside0.mk (Kd.R_lower (Kd.R_newB (Kd.R_newB (Kd.R_new' ho0 (Kd.R_lt Zq11)) (g := gb325) (o := .cells #[.string ((rd_T40 t318 0).f0), .int .i64 ((rd_T40 t318 0).f1.f0), .int .i64 ((rd_T40 t318 0).f1.f1), .string ((rd_T40 t318 0).f1.f2)] 40 (0, 0)) Zq52) (g := gb326) (o := .cells #[.string ((rd_T40 t318 1).f0), .int .i64 ((rd_T40 t318 1).f1.f0), .int .i64 ((rd_T40 t318 1).f1.f1), .string ((rd_T40 t318 1).f1.f2)] 40 (0, 0)) Zq52) (below_size Zq60))
            replace HO_323004 := Aside0.mk (Kd.R_elder' Zq11 (Kd.R_base ho0) hb)
            replace BK312 := Aside0.mk (blk_below (g := gb312) (o := .cells #[.string (⟨#[]⟩ : ByteArray), .bool false, .int .i64 0, .int .i64 0, .string (⟨#[]⟩ : ByteArray), .slice none 0 0] 24 (0, 0)) Zq52 hb)
            replace BK322 := Aside0.mk (blkb_ BK322.out Zq52 hb)
            replace BK325 := Aside0.mk (blkb_ BK325.out Zq52 hb)
            replace BK326 := Aside0.mk (blkb_ BK326.out Zq52 hb)
            replace HR334 := Aside0.mk (Kd.C_below Zq41 hb)
            replace BK338 := Aside0.mk (blk_below (g := gb338) (o := .cells #[.string (⟨#[]⟩ : ByteArray), .bool false, .int .i64 0, .int .i64 0, .string (⟨#[]⟩ : ByteArray), .slice none 0 0] 24 (0, 0)) Zq52 hb)
            replace HB := Aside0.mk (below_step Zq60 hb)
            (try clear hb)
            (try clear hb2)
            (try clear hk)
            (try clear hi)
            (try clear ho0)
            obtain ⟨Ao67, co67, eo67⟩ := Kd.R_slice HO337.out
            (first | subst eo67 | (injection eo67 with f1_ f2_ f3_; have f4_ := f1_.symm; have f5_ := f3_.symm; clear f1_ f2_ f3_; subst f4_; subst f5_))
            refine hK.out _ _ ⟨(blk_cell BK322.out 0).trans rfl, (blk_cell BK322.out 1).trans rfl, (blk_cell BK322.out 2).trans rfl, (blk_cell BK322.out 3).trans rfl, (blk_cell BK322.out 4).trans rfl, (blk_cell BK325.out 0).trans rfl, (blk_cell BK325.out 1).trans rfl, (blk_cell BK325.out 2).trans rfl, (blk_cell BK325.out 3).trans rfl, (blk_cell BK326.out 0).trans rfl, (blk_cell BK326.out 1).trans rfl, (blk_cell BK326.out 2).trans rfl, (blk_cell BK326.out 3).trans rfl⟩ (fun hHeld_ => ?_)
            clear hK K hHeld
            have hHeld := hHeld_
            clear hHeld_
            refine nz_ 66 ?_
            refine pz_ 16 67 ?_
            exact norm_ Zq4 (hCont (.slice Ao67 t335.length co67, gb338) _ ⟨hHeld, Zy43, Zy42, Zq52, Zq52, Zq52, Zq52, Zq52, GW338.out, GE338.out, NB312_338.out, NB338_312.out, NB322_338.out, NB338_322.out, NB325_338.out, NB338_325.out, NB326_338.out, NB338_326.out, Zq60⟩)
          rintro ⟨v336, gb338⟩ w68 ⟨hS_, h0_, h1_, h2_, h3_, h4_, h5_, h6_, h7_, h8_, h9_, h10_, h11_, h12_, h13_, h14_, h15_, h16_, h17_⟩
          have n0_ : Aside0 (Kd.R k40 40 w68 w.heap.size (fun k_ => some k_ ≠ (.slice (some ad323) t318.length co10 : Value).ownBlock ∧ k_ ≠ gb325 ∧ k_ ≠ gb326) v336 t335) := ⟨h0_⟩
          have n1_ : Aside0 (Kd.R k40 40 w68 w.heap.size (fun k_ => some k_ ≠ (v336 : Value).ownBlock ∧ k_ ≠ gb325 ∧ k_ ≠ gb326) (.slice (some ad323) t318.length co10) t318) := ⟨h1_⟩
          have n2_ : Aside0 (w68.heap[gb312]? = some (.cells #[.string (⟨#[]⟩ : ByteArray), .bool false, .int .i64 0, .int .i64 0, .string (⟨#[]⟩ : ByteArray), .slice none 0 0] 24 (0, 0))) := ⟨h2_⟩
          have n3_ : Aside0 (w68.heap[gb322]? = some (.cells #[.int .i64 t314, .int .i64 t315, .int .i64 t316, .int .i64 t317, .slice (some ad323) t318.length co10] 43 (0, 0))) := ⟨h3_⟩
          have n4_ : Aside0 (w68.heap[gb325]? = some (.cells #[.string ((rd_T40 t318 0).f0), .int .i64 ((rd_T40 t318 0).f1.f0), .int .i64 ((rd_T40 t318 0).f1.f1), .string ((rd_T40 t318 0).f1.f2)] 40 (0, 0))) := ⟨h4_⟩
          have n5_ : Aside0 (w68.heap[gb326]? = some (.cells #[.string ((rd_T40 t318 1).f0), .int .i64 ((rd_T40 t318 1).f1.f0), .int .i64 ((rd_T40 t318 1).f1.f1), .string ((rd_T40 t318 1).f1.f2)] 40 (0, 0))) := ⟨h5_⟩
          have n6_ : Aside0 (w68.heap[gb338]? = some (.cells #[.string (⟨#[]⟩ : ByteArray), .bool false, .int .i64 0, .int .i64 0, .string (⟨#[]⟩ : ByteArray), .slice none 0 0] 24 (0, 0))) := ⟨h6_⟩
          have n7_ : Aside0 (w.heap.size ≤ gb338) := ⟨h7_⟩
          have n8_ : Aside0 (w.heap.size ≤ gb338) := ⟨h8_⟩
          have n9_ : Aside0 (gb312 ≠ gb338) := ⟨h9_⟩
          have n10_ : Aside0 (gb338 ≠ gb312) := ⟨h10_⟩
          have n11_ : Aside0 (gb322 ≠ gb338) := ⟨h11_⟩
          have n12_ : Aside0 (gb338 ≠ gb322) := ⟨h12_⟩
          have n13_ : Aside0 (gb325 ≠ gb338) := ⟨h13_⟩
          have n14_ : Aside0 (gb338 ≠ gb325) := ⟨h14_⟩
          have n15_ : Aside0 (gb326 ≠ gb338) := ⟨h15_⟩
          have n16_ : Aside0 (gb338 ≠ gb326) := ⟨h16_⟩
          have n17_ : Aside0 (Below w.heap.size w w68) := ⟨h17_⟩
          clear HO_323004
          clear BK312
          clear BK322
          clear BK325
          clear BK326
          clear HB
          clear h0_ h1_ h2_ h3_ h4_ h5_ h6_ h7_ h8_ h9_ h10_ h11_ h12_ h13_ h14_ h15_ h16_ h17_
          have HO337 := n0_
          have HO_323004 := n1_
          have BK312 := n2_
          have BK322 := n3_
          have BK325 := n4_
          have BK326 := n5_
          have BK338 := n6_
          have GW338 := n7_
          have GE338 := n8_
          have NB312_338 := n9_
          have NB338_312 := n10_
          have NB322_338 := n11_
          have NB338_322 := n12_
          have NB325_338 := n13_
          have NB338_325 := n14_
          have NB326_338 := n15_
          have NB338_326 := n16_
          have HB := n17_
          clear n0_ n1_ n2_ n3_ n4_ n5_ n6_ n7_ n8_ n9_ n10_ n11_ n12_ n13_ n14_ n15_ n16_ n17_
          (try clear hHeld)
          have hHeld : w68.cell? ⟨gb322, 0, none⟩ = some (.int .i64 t314) ∧ w68.cell? ⟨gb322, 1, none⟩ = some (.int .i64 t315) ∧ w68.cell? ⟨gb322, 2, none⟩ = some (.int .i64 t316) ∧ w68.cell? ⟨gb322, 3, none⟩ = some (.int .i64 t317) ∧ w68.cell? ⟨gb322, 4, none⟩ = some (.slice (some ad323) t318.length co10) ∧ w68.cell? ⟨gb325, 0, none⟩ = some (.string ((rd_T40 t318 0).f0)) ∧ w68.cell? ⟨gb325, 1, none⟩ = some (.int .i64 ((rd_T40 t318 0).f1.f0)) ∧ w68.cell? ⟨gb325, 2, none⟩ = some (.int .i64 ((rd_T40 t318 0).f1.f1)) ∧ w68.cell? ⟨gb325, 3, none⟩ = some (.string ((rd_T40 t318 0).f1.f2)) ∧ w68.cell? ⟨gb326, 0, none⟩ = some (.string ((rd_T40 t318 1).f0)) ∧ w68.cell? ⟨gb326, 1, none⟩ = some (.int .i64 ((rd_T40 t318 1).f1.f0)) ∧ w68.cell? ⟨gb326, 2, none⟩ = some (.int .i64 ((rd_T40 t318 1).f1.f1)) ∧ w68.cell? ⟨gb326, 3, none⟩ = some (.string ((rd_T40 t318 1).f1.f2)) := hS_
          obtain ⟨Ao69, co69, eo69⟩ := Kd.R_slice HO337.out
          (first | subst eo69 | (injection eo69 with f1_ f2_ f3_; have f4_ := f1_.symm; have f5_ := f3_.symm; clear f1_ f2_ f3_; subst f4_; subst f5_))
          refine norm_ (a' := ?_) ?_ ?_
          rotate_left
          ·simp only [putAll, Act.put, List.setIfInBounds_toArray, List.set_cons_zero, List.set_cons_succ]
           rfl
          refine one_ (i := 18) (N := none) #[true, true, true, true, true, true, true, true, true, true, true, true, true, true, true, true, true, true, true] rfl rfl (one_of HT_.out (by kernel_rfl)) (by decide) (fun K hK => ?_)
          have hs70 : w68.cell? ⟨gb338, 0, none⟩ = some (.string (⟨#[]⟩ : ByteArray)) := (blk_cell BK338.out 0).trans rfl
          have hfs70 := blk_frozen BK338.out 0
          have hns70_0 := NB312_338.out
          have hns70_1 := NB322_338.out
          have hns70_2 := NB325_338.out
          have hns70_3 := NB326_338.out
          have hms70_0 := NB338_312.out
          have hms70_1 := NB338_322.out
          have hms70_2 := NB338_325.out
          have hms70_3 := NB338_326.out
          have hs71 : w68.cell? ⟨gb338, 1, none⟩ = some (.bool false) := (blk_cell BK338.out 1).trans rfl
          have hfs71 := blk_frozen BK338.out 1
          have hns71_0 := NB312_338.out
          have hns71_1 := NB322_338.out
          have hns71_2 := NB325_338.out
          have hns71_3 := NB326_338.out
          have hms71_0 := NB338_312.out
          have hms71_1 := NB338_322.out
          have hms71_2 := NB338_325.out
          have hms71_3 := NB338_326.out
          have hs72 : w68.cell? ⟨gb338, 2, none⟩ = some (.int .i64 0) := (blk_cell BK338.out 2).trans rfl
          have hfs72 := blk_frozen BK338.out 2
          have hns72_0 := NB312_338.out
          have hns72_1 := NB322_338.out
          have hns72_2 := NB325_338.out
          have hns72_3 := NB326_338.out
          have hms72_0 := NB338_312.out
          have hms72_1 := NB338_322.out
          have hms72_2 := NB338_325.out
          have hms72_3 := NB338_326.out
          have hs73 : w68.cell? ⟨gb338, 3, none⟩ = some (.int .i64 0) := (blk_cell BK338.out 3).trans rfl
          have hfs73 := blk_frozen BK338.out 3
          have hns73_0 := NB312_338.out
          have hns73_1 := NB322_338.out
          have hns73_2 := NB325_338.out
          have hns73_3 := NB326_338.out
          have hms73_0 := NB338_312.out
          have hms73_1 := NB338_322.out
          have hms73_2 := NB338_325.out
          have hms73_3 := NB338_326.out
          have hs74 : w68.cell? ⟨gb338, 4, none⟩ = some (.string (⟨#[]⟩ : ByteArray)) := (blk_cell BK338.out 4).trans rfl
          have hfs74 := blk_frozen BK338.out 4
          have hns74_0 := NB312_338.out
          have hns74_1 := NB322_338.out
          have hns74_2 := NB325_338.out
          have hns74_3 := NB326_338.out
          have hms74_0 := NB338_312.out
          have hms74_1 := NB338_322.out
          have hms74_2 := NB338_325.out
          have hms74_3 := NB338_326.out
          have hs75 : w68.cell? ⟨gb338, 5, none⟩ = some (.slice none 0 0) := (blk_cell BK338.out 5).trans rfl
          have hfs75 := blk_frozen BK338.out 5
          have hns75_0 := NB312_338.out
          have hns75_1 := NB322_338.out
          have hns75_2 := NB325_338.out
          have hns75_3 := NB326_338.out
          have hms75_0 := NB338_312.out
          have hms75_1 := NB338_322.out
          have hms75_2 := NB338_325.out
          have hms75_3 := NB338_326.out
          refine skip_ (w1 := ?_) (by rfl) rfl ?_ ?_
          rotate_left
          ·go_simp
           rfl
          refine hK.out _ _ ⟨(by (repeat (with_reducible refine (cell_far (p := ⟨gb338, _, none⟩) NB322_338.out _).trans ?_)); exact hHeld.1), (by (repeat (with_reducible refine (cell_far (p := ⟨gb338, _, none⟩) NB322_338.out _).trans ?_)); exact hHeld.2.1), (by (repeat (with_reducible refine (cell_far (p := ⟨gb338, _, none⟩) NB322_338.out _).trans ?_)); exact hHeld.2.2.1), (by (repeat (with_reducible refine (cell_far (p := ⟨gb338, _, none⟩) NB322_338.out _).trans ?_)); exact hHeld.2.2.2.1), (by (repeat (with_reducible refine (cell_far (p := ⟨gb338, _, none⟩) NB322_338.out _).trans ?_)); exact hHeld.2.2.2.2.1), (by (repeat (with_reducible refine (cell_far (p := ⟨gb338, _, none⟩) NB325_338.out _).trans ?_)); exact hHeld.2.2.2.2.2.1), (by (repeat (with_reducible refine (cell_far (p := ⟨gb338, _, none⟩) NB325_338.out _).trans ?_)); exact hHeld.2.2.2.2.2.2.1), (by (repeat (with_reducible refine (cell_far (p := ⟨gb338, _, none⟩) NB325_338.out _).trans ?_)); exact hHeld.2.2.2.2.2.2.2.1), (by (repeat (with_reducible refine (cell_far (p := ⟨gb338, _, none⟩) NB325_338.out _).trans ?_)); exact hHeld.2.2.2.2.2.2.2.2.1), (by (repeat (with_reducible refine (cell_far (p := ⟨gb338, _, none⟩) NB326_338.out _).trans ?_)); exact hHeld.2.2.2.2.2.2.2.2.2.1), (by (repeat (with_reducible refine (cell_far (p := ⟨gb338, _, none⟩) NB326_338.out _).trans ?_)); exact hHeld.2.2.2.2.2.2.2.2.2.2.1), (by (repeat (with_reducible refine (cell_far (p := ⟨gb338, _, none⟩) NB326_338.out _).trans ?_)); exact hHeld.2.2.2.2.2.2.2.2.2.2.2.1), (by (repeat (with_reducible refine (cell_far (p := ⟨gb338, _, none⟩) NB326_338.out _).trans ?_)); exact hHeld.2.2.2.2.2.2.2.2.2.2.2.2)⟩ (fun hHeld_ => ?_)
          clear hK K hHeld
          have hHeld := hHeld_
          clear hHeld_
          refine done_ (done_of HT_.out (by kernel_rfl)) ?_
          (try clear hHeld)
          have H := HX_.out
          clear HX_
          by_cases c60 : t339 = 0
          ·rw [if_pos c60] at H
           have c60b0 : (t339 == 0) = true := beq_iff_eq.mpr c60
           have c60b1 : (t339 != 0) = false := bne_eq_false_iff_eq.mpr c60
           clear c60
           replace H := Option.bind_eq_some_iff.mp H
           obtain ⟨t340, A610, H⟩ := H
           replace H : (if t340 = true then (some (t313, (t314 == 166), t315, ((rd_T40 t318 0).f1.f1), ((rd_T40 t318 1).f1.f2), t335, 0)) else (some ((⟨#[]⟩ : ByteArray), false, 0, 0, (⟨#[]⟩ : ByteArray), ([] : List (S40)), 91))) = some (r1, r2, r3, r4, r5, r6, r7) := H
           have A61 := Aside0.mk A610
           clear A610
           by_cases c62 : t340 = true
           ·subst c62
            have H1 : (some (t313, (t314 == 166), t315, ((rd_T40 t318 0).f1.f1), ((rd_T40 t318 1).f1.f2), t335, 0)) = some (r1, r2, r3, r4, r5, r6, r7) := by rw [if_pos rfl] at H; exact H
            clear H
            have H := H1
            clear H1
            simp only [Option.some.injEq, Prod.mk.injEq] at H
            obtain ⟨rfl, rfl, rfl, rfl, rfl, rfl, rfl⟩ := H
            have hnb76 := NB338_312.out
            have hnc76 := NB312_338.out
            have hnb77 := NB338_322.out
            have hnc77 := NB322_338.out
            have hnb78 := NB338_325.out
            have hnc78 := NB325_338.out
            have hnb79 := NB338_326.out
            have hnc79 := NB326_338.out
            obtain ⟨hcz80_0, hcz80_1, hcz80_2, hcz80_3, hcz80_4, hcz80_5⟩ := cells6_ BK338.out
            obtain ⟨hfz80_0, hfz80_1, hfz80_2, hfz80_3, hfz80_4, hfz80_5⟩ := frozen6_ BK338.out
            try go_wp2_with (first | ((with_reducible refine gate_callee (f := 9) rfl ?_); refine goesL_ (some 70) rfl rfl Tryz.func9 (by kernel_rfl) rfl #[.agg #[.string t313, .bool (t314 == 166), .int .i64 t315, .int .i64 ((rd_T40 t318 0).f1.f1), .string ((rd_T40 t318 1).f1.f2), .slice Ao69 t335.length co69]] rfl Zq14 ?_; (with_reducible refine (trap_Check.calls kj21 t313 (t314 == 166) t315 ((rd_T40 t318 0).f1.f1) ((rd_T40 t318 1).f1.f2) _ _ t335 t339 _ ?side3 ?side1 ?side2 A59.out).mono ?_); (case side1 => exact Zq93); (case side2 => exact (Kd.R_reads' HO337.out).2.1); (case side3 => exact Zq71); rintro e w81 ⟨rfl, hb⟩; refine ⟨_, rfl, ?_⟩; replace HO_323004 := Aside0.mk (Kd.R_below Zq65 hb); replace HO337 := Aside0.mk (Kd.R_below Zq64 hb); replace BK312 := Aside0.mk (blk_below (g := gb312) (o := .cells #[.string (⟨#[]⟩ : ByteArray), .bool false, .int .i64 0, .int .i64 0, .string (⟨#[]⟩ : ByteArray), .slice none 0 0] 24 (0, 0)) Zq52 hb); replace BK322 := Aside0.mk (blkb_ BK322.out Zq52 hb); replace BK325 := Aside0.mk (blkb_ BK325.out Zq52 hb); replace BK326 := Aside0.mk (blkb_ BK326.out Zq52 hb); replace BK338 := Aside0.mk (blk_below (g := gb338) (o := .cells #[.string t313, .bool (t314 == 166), .int .i64 t315, .int .i64 ((rd_T40 t318 0).f1.f1), .string ((rd_T40 t318 1).f1.f2), .slice Ao69 t335.length co69] 24 (0, 0)) Zq57 hb); replace HB := Aside0.mk (below_step Zq60 hb); (try clear hb); (try clear hb2); (try clear hk); (try clear hi)) | ((with_reducible refine gate_callee (f := 22) rfl ?_); refine goesL_ (some 76) rfl rfl Tryz.func22 (by kernel_rfl) rfl #[.slice A1 l1.length c1, .string t313] rfl Zq14 ?_; (with_reducible refine (slices_Contains_string_string.calls kj21 _ _ l1 t313 true _ ?side1 ?side2 A61.out).mono ?_); (case side1 => repeat (first | exact (Kd.C_below HR1.out HB.out) | (with_reducible refine Kd.C_alloc ?_ _) | (with_reducible refine Kd.C_drewN ?_ _) | (with_reducible refine Kd.C_drew ?_))); (case side2 => exact HC1.out); rintro e w' ⟨rfl, ⟨nd, rfl⟩⟩; refine ⟨_, rfl, ?_⟩; (try (rw [drewN_self w81]; generalize hq_ : World.drewN w81 _ = w81; have n0_ : Aside0 (Kd.R k40 40 w81 w.heap.size (fun k_ => some k_ ≠ (.slice (some ad323) t318.length co10 : Value).ownBlock ∧ k_ ≠ gb325 ∧ k_ ≠ gb326) (.slice Ao69 t335.length co69) t335) := ⟨by rw [← hq_]; exact Zq9⟩; have n1_ : Aside0 (Kd.R k40 40 w81 w.heap.size (fun k_ => some k_ ≠ (.slice Ao69 t335.length co69 : Value).ownBlock ∧ k_ ≠ gb325 ∧ k_ ≠ gb326) (.slice (some ad323) t318.length co10) t318) := ⟨by rw [← hq_]; exact Zq11⟩; have n2_ : Aside0 (w81.heap[gb312]? = some (.cells #[.string (⟨#[]⟩ : ByteArray), .bool false, .int .i64 0, .int .i64 0, .string (⟨#[]⟩ : ByteArray), .slice none 0 0] 24 (0, 0))) := ⟨by rw [← hq_]; exact Zq52⟩; have n3_ : Aside0 (w81.heap[gb322]? = some (.cells #[.int .i64 t314, .int .i64 t315, .int .i64 t316, .int .i64 t317, .slice (some ad323) t318.length co10] 43 (0, 0))) := ⟨by rw [← hq_]; exact Zq52⟩; have n4_ : Aside0 (w81.heap[gb325]? = some (.cells #[.string ((rd_T40 t318 0).f0), .int .i64 ((rd_T40 t318 0).f1.f0), .int .i64 ((rd_T40 t318 0).f1.f1), .string ((rd_T40 t318 0).f1.f2)] 40 (0, 0))) := ⟨by rw [← hq_]; exact Zq52⟩; have n5_ : Aside0 (w81.heap[gb326]? = some (.cells #[.string ((rd_T40 t318 1).f0), .int .i64 ((rd_T40 t318 1).f1.f0), .int .i64 ((rd_T40 t318 1).f1.f1), .string ((rd_T40 t318 1).f1.f2)] 40 (0, 0))) := ⟨by rw [← hq_]; exact Zq52⟩; have n6_ : Aside0 (w81.heap[gb338]? = some (.cells #[.string t313, .bool (t314 == 166), .int .i64 t315, .int .i64 ((rd_T40 t318 0).f1.f1), .string ((rd_T40 t318 1).f1.f2), .slice Ao69 t335.length co69] 24 (0, 0))) := ⟨by rw [← hq_]; exact Zq52⟩; have n7_ : Aside0 (Below w.heap.size w w81) := ⟨by rw [← hq_]; exact Zq60⟩; clear HO337 HO_323004 BK312 BK322 BK325 BK326 BK338 HB hq_; have HO337 := n0_; have HO_323004 := n1_; have BK312 := n2_; have BK322 := n3_; have BK325 := n4_; have BK326 := n5_; have BK338 := n6_; have HB := n7_; clear n0_ n1_ n2_ n3_ n4_ n5_ n6_ n7_)); obtain ⟨hcz82_0, hcz82_1, hcz82_2, hcz82_3, hcz82_4, hcz82_5⟩ := cells6_ BK338.out; obtain ⟨hfz82_0, hfz82_1, hfz82_2, hfz82_3, hfz82_4, hfz82_5⟩ := frozen6_ BK338.out; have hnb83 := NB312_322.out; have hnc83 := NB322_312.out; have hnb84 := NB312_325.out; have hnc84 := NB325_312.out; have hnb85 := NB312_326.out; have hnc85 := NB326_312.out; obtain ⟨hcz86_0, hcz86_1, hcz86_2, hcz86_3, hcz86_4, hcz86_5⟩ := cells6_ BK312.out; obtain ⟨hfz86_0, hfz86_1, hfz86_2, hfz86_3, hfz86_4, hfz86_5⟩ := frozen6_ BK312.out))
            refine bodyPost_ret (results_ct rfl _ _ gb312 24 #[.string t313, .bool (t314 == 166), .int .i64 t315, .int .i64 ((rd_T40 t318 0).f1.f1), .string ((rd_T40 t318 1).f1.f2), .slice Ao69 t335.length co69] (0, 0) _ rfl Zq57 Tryz.underlying24 rfl (by kernel_rfl)) rfl ?_
            exact ⟨_, Zy69, by (with_reducible repeat (first | apply Kd.R_alloc | apply Kd.R_drewN | apply Kd.R_drew)); exact Kd.R_mono (Kd.R_far (p := ⟨gb312, 5, none⟩) (Kd.R_far (p := ⟨gb312, 4, none⟩) (Kd.R_far (p := ⟨gb312, 3, none⟩) (Kd.R_far (p := ⟨gb312, 2, none⟩) (Kd.R_far (p := ⟨gb312, 1, none⟩) (Kd.R_far (p := ⟨gb312, 0, none⟩) (Kd.R_types HO337.out BK312.out (by decide)) (fun _ hk => hk.2) (.string t313)) (fun _ hk => hk.2) (.bool (t314 == 166))) (fun _ hk => hk.2) (.int .i64 t315)) (fun _ hk => hk.2) (.int .i64 ((rd_T40 t318 0).f1.f1))) (fun _ hk => hk.2) (.string ((rd_T40 t318 1).f1.f2))) (fun _ hk => hk.2) (.slice Ao69 t335.length co69)) (fun _ hk => trivial), Zy11⟩
           ·replace c62 := Bool.eq_false_iff.mpr c62
            subst c62
            have H1 : (some ((⟨#[]⟩ : ByteArray), false, 0, 0, (⟨#[]⟩ : ByteArray), ([] : List (S40)), 91)) = some (r1, r2, r3, r4, r5, r6, r7) := by rw [if_neg (show ¬ (false = true) by decide)] at H; exact H
            clear H
            have H := H1
            clear H1
            simp only [Option.some.injEq, Prod.mk.injEq] at H
            obtain ⟨rfl, rfl, rfl, rfl, rfl, rfl, rfl⟩ := H
            have hnb76 := NB338_312.out
            have hnc76 := NB312_338.out
            have hnb77 := NB338_322.out
            have hnc77 := NB322_338.out
            have hnb78 := NB338_325.out
            have hnc78 := NB325_338.out
            have hnb79 := NB338_326.out
            have hnc79 := NB326_338.out
            obtain ⟨hcz80_0, hcz80_1, hcz80_2, hcz80_3, hcz80_4, hcz80_5⟩ := cells6_ BK338.out
            obtain ⟨hfz80_0, hfz80_1, hfz80_2, hfz80_3, hfz80_4, hfz80_5⟩ := frozen6_ BK338.out
            try go_wp2_with (first | ((with_reducible refine gate_callee (f := 9) rfl ?_); refine goesL_ (some 70) rfl rfl Tryz.func9 (by kernel_rfl) rfl #[.agg #[.string t313, .bool (t314 == 166), .int .i64 t315, .int .i64 ((rd_T40 t318 0).f1.f1), .string ((rd_T40 t318 1).f1.f2), .slice Ao69 t335.length co69]] rfl Zq14 ?_; (with_reducible refine (trap_Check.calls kj21 t313 (t314 == 166) t315 ((rd_T40 t318 0).f1.f1) ((rd_T40 t318 1).f1.f2) _ _ t335 t339 _ ?side3 ?side1 ?side2 A59.out).mono ?_); (case side1 => exact Zq93); (case side2 => exact (Kd.R_reads' HO337.out).2.1); (case side3 => exact Zq71); rintro e w81 ⟨rfl, hb⟩; refine ⟨_, rfl, ?_⟩; replace HO_323004 := Aside0.mk (Kd.R_below Zq65 hb); replace HO337 := Aside0.mk (Kd.R_below Zq64 hb); replace BK312 := Aside0.mk (blk_below (g := gb312) (o := .cells #[.string (⟨#[]⟩ : ByteArray), .bool false, .int .i64 0, .int .i64 0, .string (⟨#[]⟩ : ByteArray), .slice none 0 0] 24 (0, 0)) Zq52 hb); replace BK322 := Aside0.mk (blkb_ BK322.out Zq52 hb); replace BK325 := Aside0.mk (blkb_ BK325.out Zq52 hb); replace BK326 := Aside0.mk (blkb_ BK326.out Zq52 hb); replace BK338 := Aside0.mk (blk_below (g := gb338) (o := .cells #[.string t313, .bool (t314 == 166), .int .i64 t315, .int .i64 ((rd_T40 t318 0).f1.f1), .string ((rd_T40 t318 1).f1.f2), .slice Ao69 t335.length co69] 24 (0, 0)) Zq57 hb); replace HB := Aside0.mk (below_step Zq60 hb); (try clear hb); (try clear hb2); (try clear hk); (try clear hi)) | ((with_reducible refine gate_callee (f := 22) rfl ?_); refine goesL_ (some 76) rfl rfl Tryz.func22 (by kernel_rfl) rfl #[.slice A1 l1.length c1, .string t313] rfl Zq14 ?_; (with_reducible refine (slices_Contains_string_string.calls kj21 _ _ l1 t313 false _ ?side1 ?side2 A61.out).mono ?_); (case side1 => repeat (first | exact (Kd.C_below HR1.out HB.out) | (with_reducible refine Kd.C_alloc ?_ _) | (with_reducible refine Kd.C_drewN ?_ _) | (with_reducible refine Kd.C_drew ?_))); (case side2 => exact HC1.out); rintro e w' ⟨rfl, ⟨nd, rfl⟩⟩; refine ⟨_, rfl, ?_⟩; (try (rw [drewN_self w81]; generalize hq_ : World.drewN w81 _ = w81; have n0_ : Aside0 (Kd.R k40 40 w81 w.heap.size (fun k_ => some k_ ≠ (.slice (some ad323) t318.length co10 : Value).ownBlock ∧ k_ ≠ gb325 ∧ k_ ≠ gb326) (.slice Ao69 t335.length co69) t335) := ⟨by rw [← hq_]; exact Zq9⟩; have n1_ : Aside0 (Kd.R k40 40 w81 w.heap.size (fun k_ => some k_ ≠ (.slice Ao69 t335.length co69 : Value).ownBlock ∧ k_ ≠ gb325 ∧ k_ ≠ gb326) (.slice (some ad323) t318.length co10) t318) := ⟨by rw [← hq_]; exact Zq11⟩; have n2_ : Aside0 (w81.heap[gb312]? = some (.cells #[.string (⟨#[]⟩ : ByteArray), .bool false, .int .i64 0, .int .i64 0, .string (⟨#[]⟩ : ByteArray), .slice none 0 0] 24 (0, 0))) := ⟨by rw [← hq_]; exact Zq52⟩; have n3_ : Aside0 (w81.heap[gb322]? = some (.cells #[.int .i64 t314, .int .i64 t315, .int .i64 t316, .int .i64 t317, .slice (some ad323) t318.length co10] 43 (0, 0))) := ⟨by rw [← hq_]; exact Zq52⟩; have n4_ : Aside0 (w81.heap[gb325]? = some (.cells #[.string ((rd_T40 t318 0).f0), .int .i64 ((rd_T40 t318 0).f1.f0), .int .i64 ((rd_T40 t318 0).f1.f1), .string ((rd_T40 t318 0).f1.f2)] 40 (0, 0))) := ⟨by rw [← hq_]; exact Zq52⟩; have n5_ : Aside0 (w81.heap[gb326]? = some (.cells #[.string ((rd_T40 t318 1).f0), .int .i64 ((rd_T40 t318 1).f1.f0), .int .i64 ((rd_T40 t318 1).f1.f1), .string ((rd_T40 t318 1).f1.f2)] 40 (0, 0))) := ⟨by rw [← hq_]; exact Zq52⟩; have n6_ : Aside0 (w81.heap[gb338]? = some (.cells #[.string t313, .bool (t314 == 166), .int .i64 t315, .int .i64 ((rd_T40 t318 0).f1.f1), .string ((rd_T40 t318 1).f1.f2), .slice Ao69 t335.length co69] 24 (0, 0))) := ⟨by rw [← hq_]; exact Zq52⟩; have n7_ : Aside0 (Below w.heap.size w w81) := ⟨by rw [← hq_]; exact Zq60⟩; clear HO337 HO_323004 BK312 BK322 BK325 BK326 BK338 HB hq_; have HO337 := n0_; have HO_323004 := n1_; have BK312 := n2_; have BK322 := n3_; have BK325 := n4_; have BK326 := n5_; have BK338 := n6_; have HB := n7_; clear n0_ n1_ n2_ n3_ n4_ n5_ n6_ n7_)); have hnb82 := NB312_322.out; have hnc82 := NB322_312.out; have hnb83 := NB312_325.out; have hnc83 := NB325_312.out; have hnb84 := NB312_326.out; have hnc84 := NB326_312.out; obtain ⟨hcz85_0, hcz85_1, hcz85_2, hcz85_3, hcz85_4, hcz85_5⟩ := cells6_ BK312.out; obtain ⟨hfz85_0, hfz85_1, hfz85_2, hfz85_3, hfz85_4, hfz85_5⟩ := frozen6_ BK312.out))
            refine bodyPost_ret (results_ct rfl _ _ gb312 24 #[.string (⟨#[]⟩ : ByteArray), .bool false, .int .i64 0, .int .i64 0, .string (⟨#[]⟩ : ByteArray), .slice none 0 0] (0, 0) _ rfl Zq57 Tryz.underlying24 rfl (by kernel_rfl)) rfl ?_
            exact ⟨_, Zy69, Zy45, Zy11⟩
          ·rw [if_neg c60] at H
           have c60b0 : (t339 == 0) = false := beq_eq_false_iff_ne.mpr c60
           have c60b1 : (t339 != 0) = true := bne_iff_ne.mpr c60
           simp only [Option.some.injEq, Prod.mk.injEq] at H
           obtain ⟨rfl, rfl, rfl, rfl, rfl, rfl, rfl⟩ := H
           have hnb76 := NB338_312.out
           have hnc76 := NB312_338.out
           have hnb77 := NB338_322.out
           have hnc77 := NB322_338.out
           have hnb78 := NB338_325.out
           have hnc78 := NB325_338.out
           have hnb79 := NB338_326.out
           have hnc79 := NB326_338.out
           obtain ⟨hcz80_0, hcz80_1, hcz80_2, hcz80_3, hcz80_4, hcz80_5⟩ := cells6_ BK338.out
           obtain ⟨hfz80_0, hfz80_1, hfz80_2, hfz80_3, hfz80_4, hfz80_5⟩ := frozen6_ BK338.out
           try go_wp2_with (first | ((with_reducible refine gate_callee (f := 9) rfl ?_); refine goesL_ (some 70) rfl rfl Tryz.func9 (by kernel_rfl) rfl #[.agg #[.string t313, .bool (t314 == 166), .int .i64 t315, .int .i64 ((rd_T40 t318 0).f1.f1), .string ((rd_T40 t318 1).f1.f2), .slice Ao69 t335.length co69]] rfl Zq14 ?_; (with_reducible refine (trap_Check.calls kj21 t313 (t314 == 166) t315 ((rd_T40 t318 0).f1.f1) ((rd_T40 t318 1).f1.f2) _ _ t335 t339 _ ?side3 ?side1 ?side2 A59.out).mono ?_); (case side1 => exact Zq93); (case side2 => exact (Kd.R_reads' HO337.out).2.1); (case side3 => exact Zq71); rintro e w81 ⟨rfl, hb⟩; refine ⟨_, rfl, ?_⟩; replace HO_323004 := Aside0.mk (Kd.R_below Zq65 hb); replace HO337 := Aside0.mk (Kd.R_below Zq64 hb); replace BK312 := Aside0.mk (blk_below (g := gb312) (o := .cells #[.string (⟨#[]⟩ : ByteArray), .bool false, .int .i64 0, .int .i64 0, .string (⟨#[]⟩ : ByteArray), .slice none 0 0] 24 (0, 0)) Zq52 hb); replace BK322 := Aside0.mk (blkb_ BK322.out Zq52 hb); replace BK325 := Aside0.mk (blkb_ BK325.out Zq52 hb); replace BK326 := Aside0.mk (blkb_ BK326.out Zq52 hb); replace BK338 := Aside0.mk (blk_below (g := gb338) (o := .cells #[.string t313, .bool (t314 == 166), .int .i64 t315, .int .i64 ((rd_T40 t318 0).f1.f1), .string ((rd_T40 t318 1).f1.f2), .slice Ao69 t335.length co69] 24 (0, 0)) Zq57 hb); replace HB := Aside0.mk (below_step Zq60 hb); (try clear hb); (try clear hb2); (try clear hk); (try clear hi); have hnb82 := NB312_322.out; have hnc82 := NB322_312.out; have hnb83 := NB312_325.out; have hnc83 := NB325_312.out; have hnb84 := NB312_326.out; have hnc84 := NB326_312.out; obtain ⟨hcz85_0, hcz85_1, hcz85_2, hcz85_3, hcz85_4, hcz85_5⟩ := cells6_ BK312.out; obtain ⟨hfz85_0, hfz85_1, hfz85_2, hfz85_3, hfz85_4, hfz85_5⟩ := frozen6_ BK312.out))
           refine bodyPost_ret (results_ct rfl _ _ gb312 24 #[.string (⟨#[]⟩ : ByteArray), .bool false, .int .i64 0, .int .i64 0, .string (⟨#[]⟩ : ByteArray), .slice none 0 0] (0, 0) _ rfl Zq57 Tryz.underlying24 rfl (by kernel_rfl)) rfl ?_
           exact ⟨_, Zy69, Zy45, Zy11⟩
         ·rw [if_neg c57] at H
          exact absurd H (by simp)
     ·rw [if_neg c21] at H
      exact absurd H (by simp)
    ·rw [if_neg c20] at H
     exact absurd H (by simp)
end Go.Proofs.YtfmhghlmljlfgaaGreatDoor.XTrS
