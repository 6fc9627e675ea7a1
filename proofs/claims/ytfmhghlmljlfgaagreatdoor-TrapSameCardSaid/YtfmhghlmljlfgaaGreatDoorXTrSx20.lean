-- Laid by extprint.py (the session's own driver): functions told by the kit's printer and by hand.
import Derived.Test.YtfmhghlmljlfgaaGreatDoorXTrSx0
import Derived.Test.YtfmhghlmljlfgaaGreatDoorXTrSx19
namespace Go.Proofs.YtfmhghlmljlfgaaGreatDoor.XTrS
open Go.RowKit Gong Go.Proofs.YtfmhghlmljlfgaaGreatDoorW.PrintWords Go.Proofs.YtfmhghlmljlfgaaGreatDoorW.PrintLast Go.Proofs.YtfmhghlmljlfgaaGreatDoorW.PrintMore
attribute [local go_sem] max2_int min2_int max_two min_two max_three min_three max_four min_four   -- for this text's walks alone
set_option linter.unusedVariables false
set_option linter.unusedSimpArgs false
theorem drawnB_ {w w' : World} (h : Drawn0 w w') : Below w.heap.size w w' := by
 obtain ⟨m, rfl⟩ := h
 exact pw_below_drewN (Below.refl _ _) m
def gonglaw09_TrapSame.j0 : Nat → Int → Bool → ByteArray → Bool → Int → Int → ByteArray → List (S40) → Option (Bool)
 | 0, _, _, _, _, _, _, _, _ => none
 | k + 1, x2, x24, x377000, x377001, x377002, x377003, x377004, x377005 => if x24 = true then (none) else ((gongbook_Below.f x2 6).bind fun t383 => (if t383 = 0 then (if x377000.size + 1 ≤ 9223372036854775807 then ((trap_Same.f k x377000 x377001 x377002 x377003 x377004 x377005 (x377000 ++ (⟨#[120]⟩ : ByteArray)) x377001 x377002 x377003 x377004 x377005).bind fun t384 => (some (!t384))) else (none)) else (if t383 = 1 then ((trap_Same.f k x377000 x377001 x377002 x377003 x377004 x377005 x377000 (!x377001) x377002 x377003 x377004 x377005).bind fun t385 => (some (!t385))) else (if t383 = 2 then ((trap_Same.f k x377000 x377001 x377002 x377003 x377004 x377005 x377000 x377001 (Go.bits .xor .i64 x377002 1) x377003 x377004 x377005).bind fun t386 => (some (!t386))) else (if t383 = 3 then ((trap_Same.f k x377000 x377001 x377002 x377003 x377004 x377005 x377000 x377001 x377002 (Go.bits .xor .i64 x377003 1) x377004 x377005).bind fun t387 => (some (!t387))) else (if t383 = 4 then (if x377004.size + 1 ≤ 9223372036854775807 then ((trap_Same.f k x377000 x377001 x377002 x377003 x377004 x377005 x377000 x377001 x377002 x377003 (x377004 ++ (⟨#[48]⟩ : ByteArray)) x377005).bind fun t388 => (some (!t388))) else (none)) else ((some (([] : List (S40)) : List (S40))).bind fun y389 => (if y389.length + x377005.length < 2932031007402 then ((some (y389 ++ x377005 : List (S40))).bind fun y392 => (if y392.length < 2932031007402 then ((trap_Same.f k x377000 x377001 x377002 x377003 x377004 x377005 x377000 x377001 x377002 x377003 x377004 (y392 ++ [(⟨(⟨#[]⟩ : ByteArray), (⟨0, 0, (⟨#[]⟩ : ByteArray)⟩ : S38)⟩ : S40)])).bind fun t398 => (some (!t398))) else (none))) else (none)))))))))
def gonglaw09_TrapSame.f (k : Nat) (a0_0 : ByteArray) (a0_1 : Bool) (a0_2 : Int) (a0_3 : Int) (a0_4 : ByteArray) (l0_5 : List (S40)) (a1_0 : ByteArray) (a1_1 : Bool) (a1_2 : Int) (a1_3 : Int) (a1_4 : ByteArray) (l1_5 : List (S40)) (a2 : Int) : Option (Bool) := (gonglaw09_works.f k).bind fun t378 => (if t378 = true then ((trap_Same.f k a0_0 a0_1 a0_2 a0_3 a0_4 l0_5 a0_0 a0_1 a0_2 a0_3 a0_4 l0_5).bind fun t379 => (if t379 = true then ((trap_Same.f k a0_0 a0_1 a0_2 a0_3 a0_4 l0_5 a1_0 a1_1 a1_2 a1_3 a1_4 l1_5).bind fun t380 => ((trap_Same.f k a1_0 a1_1 a1_2 a1_3 a1_4 l1_5 a0_0 a0_1 a0_2 a0_3 a0_4 l0_5).bind fun t381 => (gonglaw09_TrapSame.j0 k a2 (t380 != t381) a0_0 a0_1 a0_2 a0_3 a0_4 l0_5))) else (gonglaw09_TrapSame.j0 k a2 true a0_0 a0_1 a0_2 a0_3 a0_4 l0_5))) else (gonglaw09_TrapSame.j0 k a2 true a0_0 a0_1 a0_2 a0_3 a0_4 l0_5))
theorem gonglaw09_TrapSame.mono_l : ∀ k, (∀ y0 y1 y2 y3 y4 y5 y6 y7, LeO (gonglaw09_TrapSame.j0 k y0 y1 y2 y3 y4 y5 y6 y7) (gonglaw09_TrapSame.j0 (k + 1) y0 y1 y2 y3 y4 y5 y6 y7))
 | 0 => fun _ _ _ _ _ _ _ _ r h => by simp [gonglaw09_TrapSame.j0] at h
 | k + 1 => by
  have ih0 := gonglaw09_TrapSame.mono_l k
  ·intro y0 y1 y2 y3 y4 y5 y6 y7
   unfold gonglaw09_TrapSame.j0
   repeat' first
   | (with_reducible exact ih0 _ _ _ _ _ _ _ _)
   | (with_reducible exact gonglaw09_works.mono _)
   | (with_reducible exact trap_Same.mono _ _ _ _ _ _ _ _ _ _ _ _ _)
   | (with_reducible exact LeO.refl _)
   | (with_reducible exact LeO.none _)
   | (with_reducible refine LeO.ite ?_ ?_)
   | (with_reducible refine LeO.bind ?_ (fun _ => ?_))
   | exact ih0 _ _ _ _ _ _ _ _
   | exact gonglaw09_works.mono _
   | exact trap_Same.mono _ _ _ _ _ _ _ _ _ _ _ _ _
   | exact LeO.none _
   | refine LeO.ite ?_ ?_
   | refine LeO.bind ?_ (fun _ => ?_)
theorem gonglaw09_TrapSame.mono : ∀ a0 a1 a2 a3 a4 a5 a6 a7 a8 a9 a10 a11 a12 k, LeO (gonglaw09_TrapSame.f k a0 a1 a2 a3 a4 a5 a6 a7 a8 a9 a10 a11 a12) (gonglaw09_TrapSame.f (k + 1) a0 a1 a2 a3 a4 a5 a6 a7 a8 a9 a10 a11 a12) := by
 intro a0 a1 a2 a3 a4 a5 a6 a7 a8 a9 a10 a11 a12 k
 have ih0 := gonglaw09_TrapSame.mono_l k
 unfold gonglaw09_TrapSame.f
 repeat' first
   | (with_reducible exact ih0 _ _ _ _ _ _ _ _)
   | (with_reducible exact gonglaw09_works.mono _)
   | (with_reducible exact trap_Same.mono _ _ _ _ _ _ _ _ _ _ _ _ _)
   | (with_reducible exact LeO.refl _)
   | (with_reducible exact LeO.none _)
   | (with_reducible refine LeO.ite ?_ ?_)
   | (with_reducible refine LeO.bind ?_ (fun _ => ?_))
   | exact ih0 _ _ _ _ _ _ _ _
   | exact gonglaw09_works.mono _
   | exact trap_Same.mono _ _ _ _ _ _ _ _ _ _ _ _ _
   | exact LeO.none _
   | refine LeO.ite ?_ ?_
   | refine LeO.bind ?_ (fun _ => ?_)
def gonglaw09_TrapSame.T1 : Bool × List (List Nat × List Nat) := (true, [([], []), ([0], [0]), ([1, 0], [1]), ([2], [2]), ([2], [2]), ([3, 4, 2, 2], [2, 3, 4]), ([5, 2], [2, 5]), ([2, 6], [2, 6]), ([7, 5], [7]), ([8], [8]), ([8], [8]), ([9, 10, 8, 8], [8, 9, 10]), ([8], [8]), ([8], [8]), ([12, 13, 11, 8], [8, 12, 13]), ([11, 14, 8], [8, 11, 14]), ([8, 15], [8, 15])])
def gonglaw09_TrapSame.B1 : List Nat := [0, 1, 3, 7, 7, 31, 63, 127, 255, 511, 511, 2047, 511, 511, 16383, 32767, 65535]
theorem gonglaw09_TrapSame.tab1 : rtab .any (opsOf Tryz.f4 1) = gonglaw09_TrapSame.T1 := by kernel_rfl
theorem gonglaw09_TrapSame.bits1 : waitsOk gonglaw09_TrapSame.T1.2 gonglaw09_TrapSame.B1 = true := by kernel_rfl
set_option maxHeartbeats 8000000 in
set_option maxRecDepth 100000 in
theorem gonglaw09_TrapSame.calls (k : Nat) (a0_0 : ByteArray) (a0_1 : Bool) (a0_2 : Int) (a0_3 : Int) (a0_4 : ByteArray) (A0_5 : Option Addr) (c0_5 : Nat) (l0_5 : List (S40)) (a1_0 : ByteArray) (a1_1 : Bool) (a1_2 : Int) (a1_3 : Int) (a1_4 : ByteArray) (A1_5 : Option Addr) (c1_5 : Nat) (l1_5 : List (S40)) (a2 : Int) (r : Bool) (w : World) (hG : Gl w) (hr0_5 : Kd.C k40 w A0_5 l0_5.length l0_5) (hc0_5 : l0_5.length ≤ c0_5) (hr1_5 : Kd.C k40 w A1_5 l1_5.length l1_5) (hc1_5 : l1_5.length ≤ c1_5) (h : gonglaw09_TrapSame.f k a0_0 a0_1 a0_2 a0_3 a0_4 l0_5 a1_0 a1_1 a1_2 a1_3 a1_4 l1_5 a2 = some r) :
  Calls Tryz.prog 4 #[.agg #[.string a0_0, .bool a0_1, .int .i64 a0_2, .int .i64 a0_3, .string a0_4, .slice A0_5 l0_5.length c0_5], .agg #[.string a1_0, .bool a1_1, .int .i64 a1_2, .int .i64 a1_3, .string a1_4, .slice A1_5 l1_5.length c1_5], .int .i64 a2] w fun e w' => e = .returned (.bool r) ∧ Below w.heap.size w w' := by
 have HGl := Aside0.mk hG
 clear hG
 have hu24 := Tryz.underlying24
 have hu40 := Tryz.underlying40
 have HR0_5 := Aside0.mk hr0_5
 have HC0_5 := Aside0.mk hc0_5
 clear hr0_5 hc0_5
 have HR1_5 := Aside0.mk hr1_5
 have HC1_5 := Aside0.mk hc1_5
 clear hr1_5 hc1_5
 have HB := Aside0.mk (Below.refl w.heap.size w)
 have H : ((gonglaw09_works.f k).bind fun t378 => (if t378 = true then ((trap_Same.f k a0_0 a0_1 a0_2 a0_3 a0_4 l0_5 a0_0 a0_1 a0_2 a0_3 a0_4 l0_5).bind fun t379 => (if t379 = true then ((trap_Same.f k a0_0 a0_1 a0_2 a0_3 a0_4 l0_5 a1_0 a1_1 a1_2 a1_3 a1_4 l1_5).bind fun t380 => ((trap_Same.f k a1_0 a1_1 a1_2 a1_3 a1_4 l1_5 a0_0 a0_1 a0_2 a0_3 a0_4 l0_5).bind fun t381 => (gonglaw09_TrapSame.j0 k a2 (t380 != t381) a0_0 a0_1 a0_2 a0_3 a0_4 l0_5))) else (gonglaw09_TrapSame.j0 k a2 true a0_0 a0_1 a0_2 a0_3 a0_4 l0_5))) else (gonglaw09_TrapSame.j0 k a2 true a0_0 a0_1 a0_2 a0_3 a0_4 l0_5))) = some r := h
 clear h
 have HC4 := Aside0.mk H
 clear H
 go_enter Tryz.func4, Tryz.ntmps4
 go_upto_region 1 with (first | ((with_reducible refine gate_dst (N := 3) rfl ?_); refine box_event ?hg (N := 3) ?hd (cs := #[.string a0_0, .bool a0_1, .int .i64 a0_2, .int .i64 a0_3, .string a0_4, .slice A0_5 l0_5.length c0_5]) (t := 24) ?hr ?_; (case hd => rfl); (case hg => rfl); (case hr => exact Zq2); intro gb376 hg w5 hbox hb; have BK376 := Aside0.mk (hbox); have GW376 := Aside0.mk ((by rw [hg]; exact (below_size Zq13) : w.heap.size ≤ gb376)); have GE376 := Aside0.mk ((by rw [hg]; exact (below_size Zq13) : w.heap.size ≤ gb376)); replace HB := Aside0.mk (below_step Zq13 hb); clear hb hbox hg) | ((with_reducible refine gate_dst (N := 4) rfl ?_); refine box_event ?hg (N := 4) ?hd (cs := #[.string a1_0, .bool a1_1, .int .i64 a1_2, .int .i64 a1_3, .string a1_4, .slice A1_5 l1_5.length c1_5]) (t := 24) ?hr ?_; (case hd => rfl); (case hg => rfl); (case hr => exact Zq2); intro gb377 hg w6 hbox hb; have BK377 := Aside0.mk (hbox); have GW377 := Aside0.mk ((by rw [hg]; exact (below_size Zq31) : w.heap.size ≤ gb377)); have GE377 := Aside0.mk ((by rw [hg]; exact (below_size Zq31) : w.heap.size ≤ gb377)); have NB376_377 := Aside0.mk ((by rw [hg]; exact Nat.ne_of_lt (blk_lt (g := gb376) (o := .cells #[.string a0_0, .bool a0_1, .int .i64 a0_2, .int .i64 a0_3, .string a0_4, .slice A0_5 l0_5.length c0_5] 24 (0, 0)) Zq52) : gb376 ≠ gb377)); have NB377_376 := Aside0.mk ((by rw [hg]; exact Nat.ne_of_gt (blk_lt (g := gb376) (o := .cells #[.string a0_0, .bool a0_1, .int .i64 a0_2, .int .i64 a0_3, .string a0_4, .slice A0_5 l0_5.length c0_5] 24 (0, 0)) Zq52) : gb377 ≠ gb376)); replace BK376 := Aside0.mk (blkb_ BK376.out Zq52 hb); replace HB := Aside0.mk (below_step Zq31 hb); clear hb hbox hg))
 (try simp only [Act.put, List.setIfInBounds_toArray, List.set_cons_zero, List.set_cons_succ])
 go_cut [24] (fun v24 wc => ∃ (kq : Nat) (x24_3 : Bool), v24 = .bool x24_3 ∧ Aside0 (gonglaw09_TrapSame.j0 kq a2 x24_3 a0_0 a0_1 a0_2 a0_3 a0_4 l0_5 = some r) ∧ Aside0 (kq ≤ k) ∧ Aside0 (wc.heap[gb376]? = some (.cells #[.string a0_0, .bool a0_1, .int .i64 a0_2, .int .i64 a0_3, .string a0_4, (.slice A0_5 l0_5.length c0_5)] 24 (0, 0))) ∧ Aside0 (wc.heap[gb377]? = some (.cells #[.string a1_0, .bool a1_1, .int .i64 a1_2, .int .i64 a1_3, .string a1_4, (.slice A1_5 l1_5.length c1_5)] 24 (0, 0))) ∧ Aside0 (Below w.heap.size w wc))
 case first =>
  have H := HC4.out
  clear HC4
  replace H := Option.bind_eq_some_iff.mp H
  obtain ⟨t378, A70, H⟩ := H
  replace H : (if t378 = true then ((trap_Same.f k a0_0 a0_1 a0_2 a0_3 a0_4 l0_5 a0_0 a0_1 a0_2 a0_3 a0_4 l0_5).bind fun t379 => (if t379 = true then ((trap_Same.f k a0_0 a0_1 a0_2 a0_3 a0_4 l0_5 a1_0 a1_1 a1_2 a1_3 a1_4 l1_5).bind fun t380 => ((trap_Same.f k a1_0 a1_1 a1_2 a1_3 a1_4 l1_5 a0_0 a0_1 a0_2 a0_3 a0_4 l0_5).bind fun t381 => (gonglaw09_TrapSame.j0 k a2 (t380 != t381) a0_0 a0_1 a0_2 a0_3 a0_4 l0_5))) else (gonglaw09_TrapSame.j0 k a2 true a0_0 a0_1 a0_2 a0_3 a0_4 l0_5))) else (gonglaw09_TrapSame.j0 k a2 true a0_0 a0_1 a0_2 a0_3 a0_4 l0_5)) = some r := H
  have A7 := Aside0.mk A70
  clear A70
  by_cases c8 : t378 = true
  ·subst c8
   have H1 : ((trap_Same.f k a0_0 a0_1 a0_2 a0_3 a0_4 l0_5 a0_0 a0_1 a0_2 a0_3 a0_4 l0_5).bind fun t379 => (if t379 = true then ((trap_Same.f k a0_0 a0_1 a0_2 a0_3 a0_4 l0_5 a1_0 a1_1 a1_2 a1_3 a1_4 l1_5).bind fun t380 => ((trap_Same.f k a1_0 a1_1 a1_2 a1_3 a1_4 l1_5 a0_0 a0_1 a0_2 a0_3 a0_4 l0_5).bind fun t381 => (gonglaw09_TrapSame.j0 k a2 (t380 != t381) a0_0 a0_1 a0_2 a0_3 a0_4 l0_5))) else (gonglaw09_TrapSame.j0 k a2 true a0_0 a0_1 a0_2 a0_3 a0_4 l0_5))) = some r := by rw [if_pos rfl] at H; exact H
   clear H
   have H := H1
   clear H1
   replace H := Option.bind_eq_some_iff.mp H
   obtain ⟨t379, A90, H⟩ := H
   replace H : (if t379 = true then ((trap_Same.f k a0_0 a0_1 a0_2 a0_3 a0_4 l0_5 a1_0 a1_1 a1_2 a1_3 a1_4 l1_5).bind fun t380 => ((trap_Same.f k a1_0 a1_1 a1_2 a1_3 a1_4 l1_5 a0_0 a0_1 a0_2 a0_3 a0_4 l0_5).bind fun t381 => (gonglaw09_TrapSame.j0 k a2 (t380 != t381) a0_0 a0_1 a0_2 a0_3 a0_4 l0_5))) else (gonglaw09_TrapSame.j0 k a2 true a0_0 a0_1 a0_2 a0_3 a0_4 l0_5)) = some r := H
   have A9 := Aside0.mk A90
   clear A90
   by_cases c10 : t379 = true
   ·subst c10
    have H1 : ((trap_Same.f k a0_0 a0_1 a0_2 a0_3 a0_4 l0_5 a1_0 a1_1 a1_2 a1_3 a1_4 l1_5).bind fun t380 => ((trap_Same.f k a1_0 a1_1 a1_2 a1_3 a1_4 l1_5 a0_0 a0_1 a0_2 a0_3 a0_4 l0_5).bind fun t381 => (gonglaw09_TrapSame.j0 k a2 (t380 != t381) a0_0 a0_1 a0_2 a0_3 a0_4 l0_5))) = some r := by rw [if_pos rfl] at H; exact H
    clear H
    have H := H1
    clear H1
    replace H := Option.bind_eq_some_iff.mp H
    obtain ⟨t380, A110, H⟩ := H
    replace H : ((trap_Same.f k a1_0 a1_1 a1_2 a1_3 a1_4 l1_5 a0_0 a0_1 a0_2 a0_3 a0_4 l0_5).bind fun t381 => (gonglaw09_TrapSame.j0 k a2 (t380 != t381) a0_0 a0_1 a0_2 a0_3 a0_4 l0_5)) = some r := H
    have A11 := Aside0.mk A110
    clear A110
    replace H := Option.bind_eq_some_iff.mp H
    obtain ⟨t381, A120, H⟩ := H
    replace H : (gonglaw09_TrapSame.j0 k a2 (t380 != t381) a0_0 a0_1 a0_2 a0_3 a0_4 l0_5) = some r := H
    have A12 := Aside0.mk A120
    clear A120
    have H' := Aside0.mk H
    clear H
    try go_wp2
    replace BK376 := Aside0.mk (blk_drew BK376.out)
    replace BK377 := Aside0.mk (blk_drew BK377.out)
    replace HB := Aside0.mk (below_drew1 HB.out)
    refine start_ (n := 17) (S := fun w' => w'.cell? ⟨gb376, 0, none⟩ = some (.string a0_0) ∧ w'.cell? ⟨gb376, 1, none⟩ = some (.bool a0_1) ∧ w'.cell? ⟨gb376, 2, none⟩ = some (.int .i64 a0_2) ∧ w'.cell? ⟨gb376, 3, none⟩ = some (.int .i64 a0_3) ∧ w'.cell? ⟨gb376, 4, none⟩ = some (.string a0_4) ∧ w'.cell? ⟨gb376, 5, none⟩ = some (.slice A0_5 l0_5.length c0_5) ∧ w'.cell? ⟨gb377, 0, none⟩ = some (.string a1_0) ∧ w'.cell? ⟨gb377, 1, none⟩ = some (.bool a1_1) ∧ w'.cell? ⟨gb377, 2, none⟩ = some (.int .i64 a1_2) ∧ w'.cell? ⟨gb377, 3, none⟩ = some (.int .i64 a1_3) ∧ w'.cell? ⟨gb377, 4, none⟩ = some (.string a1_4) ∧ w'.cell? ⟨gb377, 5, none⟩ = some (.slice A1_5 l1_5.length c1_5)) (ds := []) #[false, false, false, false, false, false, false, false, false, false, false, false, false, false, false, false, false] (by kernel_rfl) rfl rfl ⟨(blk_cell BK376.out 0).trans rfl, (blk_cell BK376.out 1).trans rfl, (blk_cell BK376.out 2).trans rfl, (blk_cell BK376.out 3).trans rfl, (blk_cell BK376.out 4).trans rfl, (blk_cell BK376.out 5).trans rfl, (blk_cell BK377.out 0).trans rfl, (blk_cell BK377.out 1).trans rfl, (blk_cell BK377.out 2).trans rfl, (blk_cell BK377.out 3).trans rfl, (blk_cell BK377.out 4).trans rfl, (blk_cell BK377.out 5).trans rfl⟩ (fun hHeld => ?_); refine with_tabW gonglaw09_TrapSame.tab1 gonglaw09_TrapSame.bits1 (fun HT_ HW_ => ?_)
    generalize w6.drew = w13 at BK376 BK377 HB hHeld ⊢
    refine one_ (i := 0) (N := some 8) #[true, false, false, false, false, false, false, false, false, false, false, false, false, false, false, false, false] rfl rfl (one_of HT_.out (by kernel_rfl)) (by decide) (fun K hK => ?_)
    refine goes_ Tryz.func6 (by kernel_rfl) rfl #[] (by rfl) rfl rfl Zq14 ?_
    with_reducible refine (gonglaw09_works.calls k  true _ ?side1 A7.out).mono ?_
    (case side1 => exact Zq71)
    rintro e w14 ⟨rfl, hb⟩
    refine ⟨_, rfl, ?_⟩
    replace BK376 := Aside0.mk (blkb_ BK376.out Zq52 hb)
    replace BK377 := Aside0.mk (blkb_ BK377.out Zq52 hb)
    replace HB := Aside0.mk (below_step Zq50 hb)
    (try clear hb)
    (try clear hb2)
    (try clear hk)
    (try clear hi)
    refine hK.out _ _ ⟨(blk_cell BK376.out 0).trans rfl, (blk_cell BK376.out 1).trans rfl, (blk_cell BK376.out 2).trans rfl, (blk_cell BK376.out 3).trans rfl, (blk_cell BK376.out 4).trans rfl, (blk_cell BK376.out 5).trans rfl, (blk_cell BK377.out 0).trans rfl, (blk_cell BK377.out 1).trans rfl, (blk_cell BK377.out 2).trans rfl, (blk_cell BK377.out 3).trans rfl, (blk_cell BK377.out 4).trans rfl, (blk_cell BK377.out 5).trans rfl⟩ (fun hHeld_ => ?_)
    clear hK K hHeld
    have hHeld := hHeld_
    clear hHeld_
    refine norm_ (a' := ?_) ?_ ?_
    rotate_left
    ·show Act.put _ (some 8) _ = _
     simp only [Act.put, List.setIfInBounds_toArray, List.set_cons_zero, List.set_cons_succ, i64_w, i32_w]
     rfl
    refine pure_ (i := 1) (N := some 9) (v := ?_) (a' := ?_) #[true, true, false, false, false, false, false, false, false, false, false, false, false, false, false, false, false] rfl rfl (any_of HT_.out (by kernel_rfl)) (fun _ _ _ h => h) (Or.inl ⟨by rfl, ?_⟩) ?_ ?_
    rotate_left
    ·intro w'
     go_simp
     with_reducible rfl
    rotate_left
    ·simp only [Act.put, List.setIfInBounds_toArray, List.set_cons_zero, List.set_cons_succ, i64_w, i32_w]
     rfl
    refine pure_ (i := 2) (N := some 10) (v := ?_) (a' := ?_) #[true, true, true, false, false, false, false, false, false, false, false, false, false, false, false, false, false] rfl rfl (any_of HT_.out (by kernel_rfl)) (fun _ _ _ h => h) (Or.inl ⟨by rfl, ?_⟩) ?_ ?_
    rotate_left
    ·intro w'
     go_simp
     with_reducible rfl
    rotate_left
    ·simp only [Act.put, List.setIfInBounds_toArray, List.set_cons_zero, List.set_cons_succ, i64_w, i32_w]
     rfl
    refine take_ (i := 3) (N := some 11) (v := ?_) (a' := ?_) #[true, true, true, true, false, false, false, false, false, false, false, false, false, false, false, false, false] rfl rfl (take_ofW HT_.out HW_.out (by kernel_rfl)) (fun _ _ _ h => h) (Or.inl ⟨by rfl, ?_⟩) hHeld ?_ ?_
    rotate_left
    ·rintro w' ⟨s0, s1, s2, s3, s4, s5, s6, s7, s8, s9, s10, s11⟩
     go_simp
     with_reducible rfl
    rotate_left
    ·simp only [Act.put, List.setIfInBounds_toArray, List.set_cons_zero, List.set_cons_succ, i64_w, i32_w]
     rfl
    refine take_ (i := 4) (N := some 12) (v := ?_) (a' := ?_) #[true, true, true, true, true, false, false, false, false, false, false, false, false, false, false, false, false] rfl rfl (take_ofW HT_.out HW_.out (by kernel_rfl)) (fun _ _ _ h => h) (Or.inl ⟨by rfl, ?_⟩) hHeld ?_ ?_
    rotate_left
    ·rintro w' ⟨s0, s1, s2, s3, s4, s5, s6, s7, s8, s9, s10, s11⟩
     go_simp
     with_reducible rfl
    rotate_left
    ·simp only [Act.put, List.setIfInBounds_toArray, List.set_cons_zero, List.set_cons_succ, i64_w, i32_w]
     rfl
    refine one_ (i := 5) (N := some 13) #[true, true, true, true, true, true, false, false, false, false, false, false, false, false, false, false, false] rfl rfl (one_of HT_.out (by kernel_rfl)) (by decide) (fun K hK => ?_)
    refine goes_ Tryz.func11 (by kernel_rfl) rfl #[.agg #[.string a0_0, .bool a0_1, .int .i64 a0_2, .int .i64 a0_3, .string a0_4, .slice A0_5 l0_5.length c0_5], .agg #[.string a0_0, .bool a0_1, .int .i64 a0_2, .int .i64 a0_3, .string a0_4, .slice A0_5 l0_5.length c0_5]] (by rfl) rfl rfl Zq14 ?_
    with_reducible refine (trap_Same.calls k a0_0 a0_1 a0_2 a0_3 a0_4 _ _ l0_5 a0_0 a0_1 a0_2 a0_3 a0_4 _ _ l0_5 true _ ?side1 ?side2 ?side3 ?side4 A9.out).mono ?_
    (case side1 => exact Zq35)
    (case side2 => exact HC0_5.out)
    (case side3 => exact Zq38)
    (case side4 => exact HC0_5.out)
    rintro e w15 ⟨rfl, hb⟩
    refine ⟨_, rfl, ?_⟩
    replace BK376 := Aside0.mk (blkb_ BK376.out Zq52 hb)
    replace BK377 := Aside0.mk (blkb_ BK377.out Zq52 hb)
    replace HB := Aside0.mk (below_step Zq50 hb)
    (try clear hb)
    (try clear hb2)
    (try clear hk)
    (try clear hi)
    refine hK.out _ _ ⟨(blk_cell BK376.out 0).trans rfl, (blk_cell BK376.out 1).trans rfl, (blk_cell BK376.out 2).trans rfl, (blk_cell BK376.out 3).trans rfl, (blk_cell BK376.out 4).trans rfl, (blk_cell BK376.out 5).trans rfl, (blk_cell BK377.out 0).trans rfl, (blk_cell BK377.out 1).trans rfl, (blk_cell BK377.out 2).trans rfl, (blk_cell BK377.out 3).trans rfl, (blk_cell BK377.out 4).trans rfl, (blk_cell BK377.out 5).trans rfl⟩ (fun hHeld_ => ?_)
    clear hK K hHeld
    have hHeld := hHeld_
    clear hHeld_
    refine norm_ (a' := ?_) ?_ ?_
    rotate_left
    ·show Act.put _ (some 13) _ = _
     simp only [Act.put, List.setIfInBounds_toArray, List.set_cons_zero, List.set_cons_succ, i64_w, i32_w]
     rfl
    refine pure_ (i := 6) (N := some 14) (v := ?_) (a' := ?_) #[true, true, true, true, true, true, true, false, false, false, false, false, false, false, false, false, false] rfl rfl (any_of HT_.out (by kernel_rfl)) (fun _ _ _ h => h) (Or.inl ⟨by rfl, ?_⟩) ?_ ?_
    rotate_left
    ·intro w'
     go_simp
     with_reducible rfl
    rotate_left
    ·simp only [Act.put, List.setIfInBounds_toArray, List.set_cons_zero, List.set_cons_succ, i64_w, i32_w]
     rfl
    refine pure_ (i := 7) (N := some 15) (v := ?_) (a' := ?_) #[true, true, true, true, true, true, true, true, false, false, false, false, false, false, false, false, false] rfl rfl (any_of HT_.out (by kernel_rfl)) (fun _ _ _ h => h) (Or.inl ⟨by rfl, ?_⟩) ?_ ?_
    rotate_left
    ·intro w'
     go_simp
     with_reducible rfl
    rotate_left
    ·simp only [Act.put, List.setIfInBounds_toArray, List.set_cons_zero, List.set_cons_succ, i64_w, i32_w]
     rfl
    refine pure_ (i := 8) (N := some 16) (v := ?_) (a' := ?_) #[true, true, true, true, true, true, true, true, true, false, false, false, false, false, false, false, false] rfl rfl (any_of HT_.out (by kernel_rfl)) (fun _ _ _ h => h) (Or.inl ⟨by rfl, ?_⟩) ?_ ?_
    rotate_left
    ·intro w'
     go_simp
     with_reducible rfl
    rotate_left
    ·simp only [Act.put, List.setIfInBounds_toArray, List.set_cons_zero, List.set_cons_succ, i64_w, i32_w]
     rfl
    refine take_ (i := 9) (N := some 17) (v := ?_) (a' := ?_) #[true, true, true, true, true, true, true, true, true, true, false, false, false, false, false, false, false] rfl rfl (take_ofW HT_.out HW_.out (by kernel_rfl)) (fun _ _ _ h => h) (Or.inl ⟨by rfl, ?_⟩) hHeld ?_ ?_
    rotate_left
    ·rintro w' ⟨s0, s1, s2, s3, s4, s5, s6, s7, s8, s9, s10, s11⟩
     go_simp
     with_reducible rfl
    rotate_left
    ·simp only [Act.put, List.setIfInBounds_toArray, List.set_cons_zero, List.set_cons_succ, i64_w, i32_w]
     rfl
    refine take_ (i := 10) (N := some 18) (v := ?_) (a' := ?_) #[true, true, true, true, true, true, true, true, true, true, true, false, false, false, false, false, false] rfl rfl (take_ofW HT_.out HW_.out (by kernel_rfl)) (fun _ _ _ h => h) (Or.inl ⟨by rfl, ?_⟩) hHeld ?_ ?_
    rotate_left
    ·rintro w' ⟨s0, s1, s2, s3, s4, s5, s6, s7, s8, s9, s10, s11⟩
     go_simp
     with_reducible rfl
    rotate_left
    ·simp only [Act.put, List.setIfInBounds_toArray, List.set_cons_zero, List.set_cons_succ, i64_w, i32_w]
     rfl
    refine take_ (i := 12) (N := some 20) (v := ?_) (a' := ?_) #[true, true, true, true, true, true, true, true, true, true, true, false, true, false, false, false, false] rfl rfl (take_ofW HT_.out HW_.out (by kernel_rfl)) (fun _ _ _ h => h) (Or.inl ⟨by rfl, ?_⟩) hHeld ?_ ?_
    rotate_left
    ·rintro w' ⟨s0, s1, s2, s3, s4, s5, s6, s7, s8, s9, s10, s11⟩
     go_simp
     with_reducible rfl
    rotate_left
    ·simp only [Act.put, List.setIfInBounds_toArray, List.set_cons_zero, List.set_cons_succ, i64_w, i32_w]
     rfl
    refine take_ (i := 13) (N := some 21) (v := ?_) (a' := ?_) #[true, true, true, true, true, true, true, true, true, true, true, false, true, true, false, false, false] rfl rfl (take_ofW HT_.out HW_.out (by kernel_rfl)) (fun _ _ _ h => h) (Or.inl ⟨by rfl, ?_⟩) hHeld ?_ ?_
    rotate_left
    ·rintro w' ⟨s0, s1, s2, s3, s4, s5, s6, s7, s8, s9, s10, s11⟩
     go_simp
     with_reducible rfl
    rotate_left
    ·simp only [Act.put, List.setIfInBounds_toArray, List.set_cons_zero, List.set_cons_succ, i64_w, i32_w]
     rfl
    refine one_ (i := 11) (N := some 19) #[true, true, true, true, true, true, true, true, true, true, true, true, true, true, false, false, false] rfl rfl (one_of HT_.out (by kernel_rfl)) (by decide) (fun K hK => ?_)
    refine goes_ Tryz.func11 (by kernel_rfl) rfl #[.agg #[.string a0_0, .bool a0_1, .int .i64 a0_2, .int .i64 a0_3, .string a0_4, .slice A0_5 l0_5.length c0_5], .agg #[.string a1_0, .bool a1_1, .int .i64 a1_2, .int .i64 a1_3, .string a1_4, .slice A1_5 l1_5.length c1_5]] (by rfl) rfl rfl Zq14 ?_
    with_reducible refine (trap_Same.calls k a0_0 a0_1 a0_2 a0_3 a0_4 _ _ l0_5 a1_0 a1_1 a1_2 a1_3 a1_4 _ _ l1_5 t380 _ ?side1 ?side2 ?side3 ?side4 A11.out).mono ?_
    (case side1 => exact Zq35)
    (case side2 => exact HC0_5.out)
    (case side3 => repeat (first | exact (Kd.C_below HR1_5.out HB.out) | (with_reducible refine Kd.C_alloc ?_ _) | (with_reducible refine Kd.C_drewN ?_ _) | (with_reducible refine Kd.C_drew ?_)))
    (case side4 => exact HC1_5.out)
    rintro e w16 ⟨rfl, hb⟩
    refine ⟨_, rfl, ?_⟩
    replace BK376 := Aside0.mk (blkb_ BK376.out Zq52 hb)
    replace BK377 := Aside0.mk (blkb_ BK377.out Zq52 hb)
    replace HB := Aside0.mk (below_step Zq50 hb)
    (try clear hb)
    (try clear hb2)
    (try clear hk)
    (try clear hi)
    refine hK.out _ _ ⟨(blk_cell BK376.out 0).trans rfl, (blk_cell BK376.out 1).trans rfl, (blk_cell BK376.out 2).trans rfl, (blk_cell BK376.out 3).trans rfl, (blk_cell BK376.out 4).trans rfl, (blk_cell BK376.out 5).trans rfl, (blk_cell BK377.out 0).trans rfl, (blk_cell BK377.out 1).trans rfl, (blk_cell BK377.out 2).trans rfl, (blk_cell BK377.out 3).trans rfl, (blk_cell BK377.out 4).trans rfl, (blk_cell BK377.out 5).trans rfl⟩ (fun hHeld_ => ?_)
    clear hK K hHeld
    have hHeld := hHeld_
    clear hHeld_
    refine norm_ (a' := ?_) ?_ ?_
    rotate_left
    ·show Act.put _ (some 19) _ = _
     simp only [Act.put, List.setIfInBounds_toArray, List.set_cons_zero, List.set_cons_succ, i64_w, i32_w]
     rfl
    refine one_ (i := 14) (N := some 22) #[true, true, true, true, true, true, true, true, true, true, true, true, true, true, true, false, false] rfl rfl (one_of HT_.out (by kernel_rfl)) (by decide) (fun K hK => ?_)
    refine goes_ Tryz.func11 (by kernel_rfl) rfl #[.agg #[.string a1_0, .bool a1_1, .int .i64 a1_2, .int .i64 a1_3, .string a1_4, .slice A1_5 l1_5.length c1_5], .agg #[.string a0_0, .bool a0_1, .int .i64 a0_2, .int .i64 a0_3, .string a0_4, .slice A0_5 l0_5.length c0_5]] (by rfl) rfl rfl Zq14 ?_
    with_reducible refine (trap_Same.calls k a1_0 a1_1 a1_2 a1_3 a1_4 _ _ l1_5 a0_0 a0_1 a0_2 a0_3 a0_4 _ _ l0_5 t381 _ ?side1 ?side2 ?side3 ?side4 A12.out).mono ?_
    (case side1 => exact Zq37)
    (case side2 => exact HC1_5.out)
    (case side3 => exact Zq38)
    (case side4 => exact HC0_5.out)
    rintro e w17 ⟨rfl, hb⟩
    refine ⟨_, rfl, ?_⟩
    replace BK376 := Aside0.mk (blkb_ BK376.out Zq52 hb)
    replace BK377 := Aside0.mk (blkb_ BK377.out Zq52 hb)
    replace HB := Aside0.mk (below_step Zq50 hb)
    (try clear hb)
    (try clear hb2)
    (try clear hk)
    (try clear hi)
    refine hK.out _ _ ⟨(blk_cell BK376.out 0).trans rfl, (blk_cell BK376.out 1).trans rfl, (blk_cell BK376.out 2).trans rfl, (blk_cell BK376.out 3).trans rfl, (blk_cell BK376.out 4).trans rfl, (blk_cell BK376.out 5).trans rfl, (blk_cell BK377.out 0).trans rfl, (blk_cell BK377.out 1).trans rfl, (blk_cell BK377.out 2).trans rfl, (blk_cell BK377.out 3).trans rfl, (blk_cell BK377.out 4).trans rfl, (blk_cell BK377.out 5).trans rfl⟩ (fun hHeld_ => ?_)
    clear hK K hHeld
    have hHeld := hHeld_
    clear hHeld_
    refine norm_ (a' := ?_) ?_ ?_
    rotate_left
    ·show Act.put _ (some 22) _ = _
     simp only [Act.put, List.setIfInBounds_toArray, List.set_cons_zero, List.set_cons_succ, i64_w, i32_w]
     rfl
    refine pure_ (i := 15) (N := some 23) (v := ?_) (a' := ?_) #[true, true, true, true, true, true, true, true, true, true, true, true, true, true, true, true, false] rfl rfl (any_of HT_.out (by kernel_rfl)) (fun _ _ _ h => h) (Or.inl ⟨by rfl, ?_⟩) ?_ ?_
    rotate_left
    ·intro w'
     go_simp
     with_reducible rfl
    rotate_left
    ·simp only [Act.put, List.setIfInBounds_toArray, List.set_cons_zero, List.set_cons_succ, i64_w, i32_w]
     rfl
    refine pure_ (i := 16) (N := some 24) (v := ?_) (a' := ?_) #[true, true, true, true, true, true, true, true, true, true, true, true, true, true, true, true, true] rfl rfl (any_of HT_.out (by kernel_rfl)) (fun _ _ _ h => h) (Or.inl ⟨by rfl, ?_⟩) ?_ ?_
    rotate_left
    ·intro w'
     go_simp
     with_reducible rfl
    rotate_left
    ·simp only [Act.put, List.setIfInBounds_toArray, List.set_cons_zero, List.set_cons_succ, i64_w, i32_w]
     rfl
    refine done_ (done_of HT_.out (by kernel_rfl)) ?_
    (try clear hHeld)
    try go_wp2
    go_meet
    case rel => exact ⟨_, ((t380 != t381)), Zq12, H', ⟨by first | omega | exact Nat.le_refl _⟩, ⟨by (with_reducible repeat (first | refine blk_drewN ?_ _ | refine blk_drew ?_ | refine blk_alloc ?_ _)); exact BK376.out⟩, ⟨by (with_reducible repeat (first | refine blk_drewN ?_ _ | refine blk_drew ?_ | refine blk_alloc ?_ _)); exact BK377.out⟩, ⟨by repeat (first | (with_reducible first | exact HB.out | apply below_alloc | apply pw_below_drewN | apply below_drew1 | refine below_set ?_ GE376.out | refine below_set ?_ GE377.out) | exact HB.out)⟩⟩
   ·replace c10 := Bool.eq_false_iff.mpr c10
    subst c10
    have H1 : (gonglaw09_TrapSame.j0 k a2 true a0_0 a0_1 a0_2 a0_3 a0_4 l0_5) = some r := by rw [if_neg (show ¬ (false = true) by decide)] at H; exact H
    clear H
    have H := H1
    clear H1
    have H' := Aside0.mk H
    clear H
    try go_wp2
    replace BK376 := Aside0.mk (blk_drew BK376.out)
    replace BK377 := Aside0.mk (blk_drew BK377.out)
    replace HB := Aside0.mk (below_drew1 HB.out)
    refine start_ (n := 17) (S := fun w' => w'.cell? ⟨gb376, 0, none⟩ = some (.string a0_0) ∧ w'.cell? ⟨gb376, 1, none⟩ = some (.bool a0_1) ∧ w'.cell? ⟨gb376, 2, none⟩ = some (.int .i64 a0_2) ∧ w'.cell? ⟨gb376, 3, none⟩ = some (.int .i64 a0_3) ∧ w'.cell? ⟨gb376, 4, none⟩ = some (.string a0_4) ∧ w'.cell? ⟨gb376, 5, none⟩ = some (.slice A0_5 l0_5.length c0_5)) (ds := []) #[false, false, false, false, false, false, false, false, false, false, false, false, false, false, false, false, false] (by kernel_rfl) rfl rfl ⟨(blk_cell BK376.out 0).trans rfl, (blk_cell BK376.out 1).trans rfl, (blk_cell BK376.out 2).trans rfl, (blk_cell BK376.out 3).trans rfl, (blk_cell BK376.out 4).trans rfl, (blk_cell BK376.out 5).trans rfl⟩ (fun hHeld => ?_); refine with_tabW gonglaw09_TrapSame.tab1 gonglaw09_TrapSame.bits1 (fun HT_ HW_ => ?_)
    generalize w6.drew = w18 at BK376 BK377 HB hHeld ⊢
    refine one_ (i := 0) (N := some 8) #[true, false, false, false, false, false, false, false, false, false, false, false, false, false, false, false, false] rfl rfl (one_of HT_.out (by kernel_rfl)) (by decide) (fun K hK => ?_)
    refine goes_ Tryz.func6 (by kernel_rfl) rfl #[] (by rfl) rfl rfl Zq14 ?_
    with_reducible refine (gonglaw09_works.calls k  true _ ?side1 A7.out).mono ?_
    (case side1 => exact Zq71)
    rintro e w19 ⟨rfl, hb⟩
    refine ⟨_, rfl, ?_⟩
    replace BK376 := Aside0.mk (blkb_ BK376.out Zq52 hb)
    replace BK377 := Aside0.mk (blkb_ BK377.out Zq52 hb)
    replace HB := Aside0.mk (below_step Zq50 hb)
    (try clear hb)
    (try clear hb2)
    (try clear hk)
    (try clear hi)
    refine hK.out _ _ ⟨(blk_cell BK376.out 0).trans rfl, (blk_cell BK376.out 1).trans rfl, (blk_cell BK376.out 2).trans rfl, (blk_cell BK376.out 3).trans rfl, (blk_cell BK376.out 4).trans rfl, (blk_cell BK376.out 5).trans rfl⟩ (fun hHeld_ => ?_)
    clear hK K hHeld
    have hHeld := hHeld_
    clear hHeld_
    refine norm_ (a' := ?_) ?_ ?_
    rotate_left
    ·show Act.put _ (some 8) _ = _
     simp only [Act.put, List.setIfInBounds_toArray, List.set_cons_zero, List.set_cons_succ, i64_w, i32_w]
     rfl
    refine pure_ (i := 1) (N := some 9) (v := ?_) (a' := ?_) #[true, true, false, false, false, false, false, false, false, false, false, false, false, false, false, false, false] rfl rfl (any_of HT_.out (by kernel_rfl)) (fun _ _ _ h => h) (Or.inl ⟨by rfl, ?_⟩) ?_ ?_
    rotate_left
    ·intro w'
     go_simp
     with_reducible rfl
    rotate_left
    ·simp only [Act.put, List.setIfInBounds_toArray, List.set_cons_zero, List.set_cons_succ, i64_w, i32_w]
     rfl
    refine pure_ (i := 2) (N := some 10) (v := ?_) (a' := ?_) #[true, true, true, false, false, false, false, false, false, false, false, false, false, false, false, false, false] rfl rfl (any_of HT_.out (by kernel_rfl)) (fun _ _ _ h => h) (Or.inl ⟨by rfl, ?_⟩) ?_ ?_
    rotate_left
    ·intro w'
     go_simp
     with_reducible rfl
    rotate_left
    ·simp only [Act.put, List.setIfInBounds_toArray, List.set_cons_zero, List.set_cons_succ, i64_w, i32_w]
     rfl
    refine take_ (i := 3) (N := some 11) (v := ?_) (a' := ?_) #[true, true, true, true, false, false, false, false, false, false, false, false, false, false, false, false, false] rfl rfl (take_ofW HT_.out HW_.out (by kernel_rfl)) (fun _ _ _ h => h) (Or.inl ⟨by rfl, ?_⟩) hHeld ?_ ?_
    rotate_left
    ·rintro w' ⟨s0, s1, s2, s3, s4, s5⟩
     go_simp
     with_reducible rfl
    rotate_left
    ·simp only [Act.put, List.setIfInBounds_toArray, List.set_cons_zero, List.set_cons_succ, i64_w, i32_w]
     rfl
    refine take_ (i := 4) (N := some 12) (v := ?_) (a' := ?_) #[true, true, true, true, true, false, false, false, false, false, false, false, false, false, false, false, false] rfl rfl (take_ofW HT_.out HW_.out (by kernel_rfl)) (fun _ _ _ h => h) (Or.inl ⟨by rfl, ?_⟩) hHeld ?_ ?_
    rotate_left
    ·rintro w' ⟨s0, s1, s2, s3, s4, s5⟩
     go_simp
     with_reducible rfl
    rotate_left
    ·simp only [Act.put, List.setIfInBounds_toArray, List.set_cons_zero, List.set_cons_succ, i64_w, i32_w]
     rfl
    refine one_ (i := 5) (N := some 13) #[true, true, true, true, true, true, false, false, false, false, false, false, false, false, false, false, false] rfl rfl (one_of HT_.out (by kernel_rfl)) (by decide) (fun K hK => ?_)
    refine goes_ Tryz.func11 (by kernel_rfl) rfl #[.agg #[.string a0_0, .bool a0_1, .int .i64 a0_2, .int .i64 a0_3, .string a0_4, .slice A0_5 l0_5.length c0_5], .agg #[.string a0_0, .bool a0_1, .int .i64 a0_2, .int .i64 a0_3, .string a0_4, .slice A0_5 l0_5.length c0_5]] (by rfl) rfl rfl Zq14 ?_
    with_reducible refine (trap_Same.calls k a0_0 a0_1 a0_2 a0_3 a0_4 _ _ l0_5 a0_0 a0_1 a0_2 a0_3 a0_4 _ _ l0_5 false _ ?side1 ?side2 ?side3 ?side4 A9.out).mono ?_
    (case side1 => exact Zq35)
    (case side2 => exact HC0_5.out)
    (case side3 => exact Zq38)
    (case side4 => exact HC0_5.out)
    rintro e w20 ⟨rfl, hb⟩
    refine ⟨_, rfl, ?_⟩
    replace BK376 := Aside0.mk (blkb_ BK376.out Zq52 hb)
    replace BK377 := Aside0.mk (blkb_ BK377.out Zq52 hb)
    replace HB := Aside0.mk (below_step Zq50 hb)
    (try clear hb)
    (try clear hb2)
    (try clear hk)
    (try clear hi)
    refine hK.out _ _ ⟨(blk_cell BK376.out 0).trans rfl, (blk_cell BK376.out 1).trans rfl, (blk_cell BK376.out 2).trans rfl, (blk_cell BK376.out 3).trans rfl, (blk_cell BK376.out 4).trans rfl, (blk_cell BK376.out 5).trans rfl⟩ (fun hHeld_ => ?_)
    clear hK K hHeld
    have hHeld := hHeld_
    clear hHeld_
    refine norm_ (a' := ?_) ?_ ?_
    rotate_left
    ·show Act.put _ (some 13) _ = _
     simp only [Act.put, List.setIfInBounds_toArray, List.set_cons_zero, List.set_cons_succ, i64_w, i32_w]
     rfl
    refine pure_ (i := 6) (N := some 14) (v := ?_) (a' := ?_) #[true, true, true, true, true, true, true, false, false, false, false, false, false, false, false, false, false] rfl rfl (any_of HT_.out (by kernel_rfl)) (fun _ _ _ h => h) (Or.inl ⟨by rfl, ?_⟩) ?_ ?_
    rotate_left
    ·intro w'
     go_simp
     with_reducible rfl
    rotate_left
    ·simp only [Act.put, List.setIfInBounds_toArray, List.set_cons_zero, List.set_cons_succ, i64_w, i32_w]
     rfl
    refine pure_ (i := 7) (N := some 15) (v := ?_) (a' := ?_) #[true, true, true, true, true, true, true, true, false, false, false, false, false, false, false, false, false] rfl rfl (any_of HT_.out (by kernel_rfl)) (fun _ _ _ h => h) (Or.inl ⟨by rfl, ?_⟩) ?_ ?_
    rotate_left
    ·intro w'
     go_simp
     with_reducible rfl
    rotate_left
    ·simp only [Act.put, List.setIfInBounds_toArray, List.set_cons_zero, List.set_cons_succ, i64_w, i32_w]
     rfl
    refine pure_ (i := 8) (N := some 16) (v := ?_) (a' := ?_) #[true, true, true, true, true, true, true, true, true, false, false, false, false, false, false, false, false] rfl rfl (any_of HT_.out (by kernel_rfl)) (fun _ _ _ h => h) (Or.inl ⟨by rfl, ?_⟩) ?_ ?_
    rotate_left
    ·intro w'
     go_simp
     with_reducible rfl
    rotate_left
    ·simp only [Act.put, List.setIfInBounds_toArray, List.set_cons_zero, List.set_cons_succ, i64_w, i32_w]
     rfl
    refine pure_ (i := 9) (N := some 17) (v := undef) (a' := ?_) #[true, true, true, true, true, true, true, true, true, true, false, false, false, false, false, false, false] rfl rfl (any_of HT_.out (by kernel_rfl)) (fun _ _ _ h => h) (Or.inr ⟨by rfl, rfl⟩) ?_ ?_
    rotate_left
    ·simp only [Act.put, List.setIfInBounds_toArray, List.set_cons_zero, List.set_cons_succ, i64_w, i32_w]
     rfl
    refine pure_ (i := 10) (N := some 18) (v := undef) (a' := ?_) #[true, true, true, true, true, true, true, true, true, true, true, false, false, false, false, false, false] rfl rfl (any_of HT_.out (by kernel_rfl)) (fun _ _ _ h => h) (Or.inr ⟨by rfl, rfl⟩) ?_ ?_
    rotate_left
    ·simp only [Act.put, List.setIfInBounds_toArray, List.set_cons_zero, List.set_cons_succ, i64_w, i32_w]
     rfl
    refine pure_ (i := 11) (N := some 19) (v := undef) (a' := ?_) #[true, true, true, true, true, true, true, true, true, true, true, true, false, false, false, false, false] rfl rfl (any_of HT_.out (by kernel_rfl)) (fun _ _ _ h => h) (Or.inr ⟨by rfl, rfl⟩) ?_ ?_
    rotate_left
    ·simp only [Act.put, List.setIfInBounds_toArray, List.set_cons_zero, List.set_cons_succ, i64_w, i32_w]
     rfl
    refine pure_ (i := 12) (N := some 20) (v := undef) (a' := ?_) #[true, true, true, true, true, true, true, true, true, true, true, true, true, false, false, false, false] rfl rfl (any_of HT_.out (by kernel_rfl)) (fun _ _ _ h => h) (Or.inr ⟨by rfl, rfl⟩) ?_ ?_
    rotate_left
    ·simp only [Act.put, List.setIfInBounds_toArray, List.set_cons_zero, List.set_cons_succ, i64_w, i32_w]
     rfl
    refine pure_ (i := 13) (N := some 21) (v := undef) (a' := ?_) #[true, true, true, true, true, true, true, true, true, true, true, true, true, true, false, false, false] rfl rfl (any_of HT_.out (by kernel_rfl)) (fun _ _ _ h => h) (Or.inr ⟨by rfl, rfl⟩) ?_ ?_
    rotate_left
    ·simp only [Act.put, List.setIfInBounds_toArray, List.set_cons_zero, List.set_cons_succ, i64_w, i32_w]
     rfl
    refine pure_ (i := 14) (N := some 22) (v := undef) (a' := ?_) #[true, true, true, true, true, true, true, true, true, true, true, true, true, true, true, false, false] rfl rfl (any_of HT_.out (by kernel_rfl)) (fun _ _ _ h => h) (Or.inr ⟨by rfl, rfl⟩) ?_ ?_
    rotate_left
    ·simp only [Act.put, List.setIfInBounds_toArray, List.set_cons_zero, List.set_cons_succ, i64_w, i32_w]
     rfl
    refine pure_ (i := 15) (N := some 23) (v := undef) (a' := ?_) #[true, true, true, true, true, true, true, true, true, true, true, true, true, true, true, true, false] rfl rfl (any_of HT_.out (by kernel_rfl)) (fun _ _ _ h => h) (Or.inr ⟨by rfl, rfl⟩) ?_ ?_
    rotate_left
    ·simp only [Act.put, List.setIfInBounds_toArray, List.set_cons_zero, List.set_cons_succ, i64_w, i32_w]
     rfl
    refine pure_ (i := 16) (N := some 24) (v := ?_) (a' := ?_) #[true, true, true, true, true, true, true, true, true, true, true, true, true, true, true, true, true] rfl rfl (any_of HT_.out (by kernel_rfl)) (fun _ _ _ h => h) (Or.inl ⟨by rfl, ?_⟩) ?_ ?_
    rotate_left
    ·intro w'
     go_simp
     with_reducible rfl
    rotate_left
    ·simp only [Act.put, List.setIfInBounds_toArray, List.set_cons_zero, List.set_cons_succ, i64_w, i32_w]
     rfl
    refine done_ (done_of HT_.out (by kernel_rfl)) ?_
    (try clear hHeld)
    try go_wp2
    go_meet
    case rel => exact ⟨_, (true), Zq12, H', ⟨by first | omega | exact Nat.le_refl _⟩, ⟨by (with_reducible repeat (first | refine blk_drewN ?_ _ | refine blk_drew ?_ | refine blk_alloc ?_ _)); exact BK376.out⟩, ⟨by (with_reducible repeat (first | refine blk_drewN ?_ _ | refine blk_drew ?_ | refine blk_alloc ?_ _)); exact BK377.out⟩, ⟨by repeat (first | (with_reducible first | exact HB.out | apply below_alloc | apply pw_below_drewN | apply below_drew1 | refine below_set ?_ GE376.out | refine below_set ?_ GE377.out) | exact HB.out)⟩⟩
  ·replace c8 := Bool.eq_false_iff.mpr c8
   subst c8
   have H1 : (gonglaw09_TrapSame.j0 k a2 true a0_0 a0_1 a0_2 a0_3 a0_4 l0_5) = some r := by rw [if_neg (show ¬ (false = true) by decide)] at H; exact H
   clear H
   have H := H1
   clear H1
   have H' := Aside0.mk H
   clear H
   try go_wp2
   replace BK376 := Aside0.mk (blk_drew BK376.out)
   replace BK377 := Aside0.mk (blk_drew BK377.out)
   replace HB := Aside0.mk (below_drew1 HB.out)
   refine start_ (n := 17) (S := fun w' => True) (ds := []) #[false, false, false, false, false, false, false, false, false, false, false, false, false, false, false, false, false] (by kernel_rfl) rfl rfl trivial (fun hHeld => ?_); refine with_tabW gonglaw09_TrapSame.tab1 gonglaw09_TrapSame.bits1 (fun HT_ HW_ => ?_)
   generalize w6.drew = w21 at BK376 BK377 HB hHeld ⊢
   refine one_ (i := 0) (N := some 8) #[true, false, false, false, false, false, false, false, false, false, false, false, false, false, false, false, false] rfl rfl (one_of HT_.out (by kernel_rfl)) (by decide) (fun K hK => ?_)
   refine goes_ Tryz.func6 (by kernel_rfl) rfl #[] (by rfl) rfl rfl Zq14 ?_
   with_reducible refine (gonglaw09_works.calls k  false _ ?side1 A7.out).mono ?_
   (case side1 => exact Zq71)
   rintro e w22 ⟨rfl, hb⟩
   refine ⟨_, rfl, ?_⟩
   replace BK376 := Aside0.mk (blkb_ BK376.out Zq52 hb)
   replace BK377 := Aside0.mk (blkb_ BK377.out Zq52 hb)
   replace HB := Aside0.mk (below_step Zq50 hb)
   (try clear hb)
   (try clear hb2)
   (try clear hk)
   (try clear hi)
   refine hK.out _ _ trivial (fun hHeld_ => ?_)
   clear hK K hHeld
   have hHeld := hHeld_
   clear hHeld_
   refine norm_ (a' := ?_) ?_ ?_
   rotate_left
   ·show Act.put _ (some 8) _ = _
    simp only [Act.put, List.setIfInBounds_toArray, List.set_cons_zero, List.set_cons_succ, i64_w, i32_w]
    rfl
   refine pure_ (i := 1) (N := some 9) (v := ?_) (a' := ?_) #[true, true, false, false, false, false, false, false, false, false, false, false, false, false, false, false, false] rfl rfl (any_of HT_.out (by kernel_rfl)) (fun _ _ _ h => h) (Or.inl ⟨by rfl, ?_⟩) ?_ ?_
   rotate_left
   ·intro w'
    go_simp
    with_reducible rfl
   rotate_left
   ·simp only [Act.put, List.setIfInBounds_toArray, List.set_cons_zero, List.set_cons_succ, i64_w, i32_w]
    rfl
   refine pure_ (i := 2) (N := some 10) (v := ?_) (a' := ?_) #[true, true, true, false, false, false, false, false, false, false, false, false, false, false, false, false, false] rfl rfl (any_of HT_.out (by kernel_rfl)) (fun _ _ _ h => h) (Or.inl ⟨by rfl, ?_⟩) ?_ ?_
   rotate_left
   ·intro w'
    go_simp
    with_reducible rfl
   rotate_left
   ·simp only [Act.put, List.setIfInBounds_toArray, List.set_cons_zero, List.set_cons_succ, i64_w, i32_w]
    rfl
   refine pure_ (i := 3) (N := some 11) (v := undef) (a' := ?_) #[true, true, true, true, false, false, false, false, false, false, false, false, false, false, false, false, false] rfl rfl (any_of HT_.out (by kernel_rfl)) (fun _ _ _ h => h) (Or.inr ⟨by rfl, rfl⟩) ?_ ?_
   rotate_left
   ·simp only [Act.put, List.setIfInBounds_toArray, List.set_cons_zero, List.set_cons_succ, i64_w, i32_w]
    rfl
   refine pure_ (i := 4) (N := some 12) (v := undef) (a' := ?_) #[true, true, true, true, true, false, false, false, false, false, false, false, false, false, false, false, false] rfl rfl (any_of HT_.out (by kernel_rfl)) (fun _ _ _ h => h) (Or.inr ⟨by rfl, rfl⟩) ?_ ?_
   rotate_left
   ·simp only [Act.put, List.setIfInBounds_toArray, List.set_cons_zero, List.set_cons_succ, i64_w, i32_w]
    rfl
   refine pure_ (i := 5) (N := some 13) (v := undef) (a' := ?_) #[true, true, true, true, true, true, false, false, false, false, false, false, false, false, false, false, false] rfl rfl (any_of HT_.out (by kernel_rfl)) (fun _ _ _ h => h) (Or.inr ⟨by rfl, rfl⟩) ?_ ?_
   rotate_left
   ·simp only [Act.put, List.setIfInBounds_toArray, List.set_cons_zero, List.set_cons_succ, i64_w, i32_w]
    rfl
   refine pure_ (i := 6) (N := some 14) (v := undef) (a' := ?_) #[true, true, true, true, true, true, true, false, false, false, false, false, false, false, false, false, false] rfl rfl (any_of HT_.out (by kernel_rfl)) (fun _ _ _ h => h) (Or.inr ⟨by rfl, rfl⟩) ?_ ?_
   rotate_left
   ·simp only [Act.put, List.setIfInBounds_toArray, List.set_cons_zero, List.set_cons_succ, i64_w, i32_w]
    rfl
   refine pure_ (i := 7) (N := some 15) (v := ?_) (a' := ?_) #[true, true, true, true, true, true, true, true, false, false, false, false, false, false, false, false, false] rfl rfl (any_of HT_.out (by kernel_rfl)) (fun _ _ _ h => h) (Or.inl ⟨by rfl, ?_⟩) ?_ ?_
   rotate_left
   ·intro w'
    go_simp
    with_reducible rfl
   rotate_left
   ·simp only [Act.put, List.setIfInBounds_toArray, List.set_cons_zero, List.set_cons_succ, i64_w, i32_w]
    rfl
   refine pure_ (i := 8) (N := some 16) (v := ?_) (a' := ?_) #[true, true, true, true, true, true, true, true, true, false, false, false, false, false, false, false, false] rfl rfl (any_of HT_.out (by kernel_rfl)) (fun _ _ _ h => h) (Or.inl ⟨by rfl, ?_⟩) ?_ ?_
   rotate_left
   ·intro w'
    go_simp
    with_reducible rfl
   rotate_left
   ·simp only [Act.put, List.setIfInBounds_toArray, List.set_cons_zero, List.set_cons_succ, i64_w, i32_w]
    rfl
   refine pure_ (i := 9) (N := some 17) (v := undef) (a' := ?_) #[true, true, true, true, true, true, true, true, true, true, false, false, false, false, false, false, false] rfl rfl (any_of HT_.out (by kernel_rfl)) (fun _ _ _ h => h) (Or.inr ⟨by rfl, rfl⟩) ?_ ?_
   rotate_left
   ·simp only [Act.put, List.setIfInBounds_toArray, List.set_cons_zero, List.set_cons_succ, i64_w, i32_w]
    rfl
   refine pure_ (i := 10) (N := some 18) (v := undef) (a' := ?_) #[true, true, true, true, true, true, true, true, true, true, true, false, false, false, false, false, false] rfl rfl (any_of HT_.out (by kernel_rfl)) (fun _ _ _ h => h) (Or.inr ⟨by rfl, rfl⟩) ?_ ?_
   rotate_left
   ·simp only [Act.put, List.setIfInBounds_toArray, List.set_cons_zero, List.set_cons_succ, i64_w, i32_w]
    rfl
   refine pure_ (i := 11) (N := some 19) (v := undef) (a' := ?_) #[true, true, true, true, true, true, true, true, true, true, true, true, false, false, false, false, false] rfl rfl (any_of HT_.out (by kernel_rfl)) (fun _ _ _ h => h) (Or.inr ⟨by rfl, rfl⟩) ?_ ?_
   rotate_left
   ·simp only [Act.put, List.setIfInBounds_toArray, List.set_cons_zero, List.set_cons_succ, i64_w, i32_w]
    rfl
   refine pure_ (i := 12) (N := some 20) (v := undef) (a' := ?_) #[true, true, true, true, true, true, true, true, true, true, true, true, true, false, false, false, false] rfl rfl (any_of HT_.out (by kernel_rfl)) (fun _ _ _ h => h) (Or.inr ⟨by rfl, rfl⟩) ?_ ?_
   rotate_left
   ·simp only [Act.put, List.setIfInBounds_toArray, List.set_cons_zero, List.set_cons_succ, i64_w, i32_w]
    rfl
   refine pure_ (i := 13) (N := some 21) (v := undef) (a' := ?_) #[true, true, true, true, true, true, true, true, true, true, true, true, true, true, false, false, false] rfl rfl (any_of HT_.out (by kernel_rfl)) (fun _ _ _ h => h) (Or.inr ⟨by rfl, rfl⟩) ?_ ?_
   rotate_left
   ·simp only [Act.put, List.setIfInBounds_toArray, List.set_cons_zero, List.set_cons_succ, i64_w, i32_w]
    rfl
   refine pure_ (i := 14) (N := some 22) (v := undef) (a' := ?_) #[true, true, true, true, true, true, true, true, true, true, true, true, true, true, true, false, false] rfl rfl (any_of HT_.out (by kernel_rfl)) (fun _ _ _ h => h) (Or.inr ⟨by rfl, rfl⟩) ?_ ?_
   rotate_left
   ·simp only [Act.put, List.setIfInBounds_toArray, List.set_cons_zero, List.set_cons_succ, i64_w, i32_w]
    rfl
   refine pure_ (i := 15) (N := some 23) (v := undef) (a' := ?_) #[true, true, true, true, true, true, true, true, true, true, true, true, true, true, true, true, false] rfl rfl (any_of HT_.out (by kernel_rfl)) (fun _ _ _ h => h) (Or.inr ⟨by rfl, rfl⟩) ?_ ?_
   rotate_left
   ·simp only [Act.put, List.setIfInBounds_toArray, List.set_cons_zero, List.set_cons_succ, i64_w, i32_w]
    rfl
   refine pure_ (i := 16) (N := some 24) (v := ?_) (a' := ?_) #[true, true, true, true, true, true, true, true, true, true, true, true, true, true, true, true, true] rfl rfl (any_of HT_.out (by kernel_rfl)) (fun _ _ _ h => h) (Or.inl ⟨by rfl, ?_⟩) ?_ ?_
   rotate_left
   ·intro w'
    go_simp
    with_reducible rfl
   rotate_left
   ·simp only [Act.put, List.setIfInBounds_toArray, List.set_cons_zero, List.set_cons_succ, i64_w, i32_w]
    rfl
   refine done_ (done_of HT_.out (by kernel_rfl)) ?_
   (try clear hHeld)
   try go_wp2
   go_meet
   case rel => exact ⟨_, (true), Zq12, H', ⟨by first | omega | exact Nat.le_refl _⟩, ⟨by (with_reducible repeat (first | refine blk_drewN ?_ _ | refine blk_drew ?_ | refine blk_alloc ?_ _)); exact BK376.out⟩, ⟨by (with_reducible repeat (first | refine blk_drewN ?_ _ | refine blk_drew ?_ | refine blk_alloc ?_ _)); exact BK377.out⟩, ⟨by repeat (first | (with_reducible first | exact HB.out | apply below_alloc | apply pw_below_drewN | apply below_drew1 | refine below_set ?_ GE376.out | refine below_set ?_ GE377.out) | exact HB.out)⟩⟩
 case rest =>
  clear HC4
  (try clear c1); (try clear p2); (try clear c4); (try clear c6); (try clear c8); (try clear c10); (try clear c11)
  obtain ⟨kq, x24_3, rfl, HA, HJ3, BK376, BK377, HB⟩ := hcut
  cases kq with
  | zero => exact absurd HA.out (by simp [gonglaw09_TrapSame.j0])
  | succ kj3 =>
   have H := HA.out
   clear HA
   simp only [gonglaw09_TrapSame.j0] at H
   by_cases c23 : x24_3 = true
   ·subst c23
    have H1 : (none) = some r := by rw [if_pos rfl] at H; exact H
    exact absurd H1 (by simp)
   ·replace c23 := Bool.eq_false_iff.mpr c23
    subst c23
    have H1 : ((gongbook_Below.f a2 6).bind fun t383 => (if t383 = 0 then (if a0_0.size + 1 ≤ 9223372036854775807 then ((trap_Same.f kj3 a0_0 a0_1 a0_2 a0_3 a0_4 l0_5 (a0_0 ++ (⟨#[120]⟩ : ByteArray)) a0_1 a0_2 a0_3 a0_4 l0_5).bind fun t384 => (some (!t384))) else (none)) else (if t383 = 1 then ((trap_Same.f kj3 a0_0 a0_1 a0_2 a0_3 a0_4 l0_5 a0_0 (!a0_1) a0_2 a0_3 a0_4 l0_5).bind fun t385 => (some (!t385))) else (if t383 = 2 then ((trap_Same.f kj3 a0_0 a0_1 a0_2 a0_3 a0_4 l0_5 a0_0 a0_1 (Go.bits .xor .i64 a0_2 1) a0_3 a0_4 l0_5).bind fun t386 => (some (!t386))) else (if t383 = 3 then ((trap_Same.f kj3 a0_0 a0_1 a0_2 a0_3 a0_4 l0_5 a0_0 a0_1 a0_2 (Go.bits .xor .i64 a0_3 1) a0_4 l0_5).bind fun t387 => (some (!t387))) else (if t383 = 4 then (if a0_4.size + 1 ≤ 9223372036854775807 then ((trap_Same.f kj3 a0_0 a0_1 a0_2 a0_3 a0_4 l0_5 a0_0 a0_1 a0_2 a0_3 (a0_4 ++ (⟨#[48]⟩ : ByteArray)) l0_5).bind fun t388 => (some (!t388))) else (none)) else ((some (([] : List (S40)) : List (S40))).bind fun y389 => (if y389.length + l0_5.length < 2932031007402 then ((some (y389 ++ l0_5 : List (S40))).bind fun y392 => (if y392.length < 2932031007402 then ((trap_Same.f kj3 a0_0 a0_1 a0_2 a0_3 a0_4 l0_5 a0_0 a0_1 a0_2 a0_3 a0_4 (y392 ++ [(⟨(⟨#[]⟩ : ByteArray), (⟨0, 0, (⟨#[]⟩ : ByteArray)⟩ : S38)⟩ : S40)])).bind fun t398 => (some (!t398))) else (none))) else (none))))))))) = some r := by rw [if_neg (show ¬ (false = true) by decide)] at H; exact H
    clear H
    have H := H1
    clear H1
    replace H := Option.bind_eq_some_iff.mp H
    obtain ⟨t383, A240, H⟩ := H
    replace H : (if t383 = 0 then (if a0_0.size + 1 ≤ 9223372036854775807 then ((trap_Same.f kj3 a0_0 a0_1 a0_2 a0_3 a0_4 l0_5 (a0_0 ++ (⟨#[120]⟩ : ByteArray)) a0_1 a0_2 a0_3 a0_4 l0_5).bind fun t384 => (some (!t384))) else (none)) else (if t383 = 1 then ((trap_Same.f kj3 a0_0 a0_1 a0_2 a0_3 a0_4 l0_5 a0_0 (!a0_1) a0_2 a0_3 a0_4 l0_5).bind fun t385 => (some (!t385))) else (if t383 = 2 then ((trap_Same.f kj3 a0_0 a0_1 a0_2 a0_3 a0_4 l0_5 a0_0 a0_1 (Go.bits .xor .i64 a0_2 1) a0_3 a0_4 l0_5).bind fun t386 => (some (!t386))) else (if t383 = 3 then ((trap_Same.f kj3 a0_0 a0_1 a0_2 a0_3 a0_4 l0_5 a0_0 a0_1 a0_2 (Go.bits .xor .i64 a0_3 1) a0_4 l0_5).bind fun t387 => (some (!t387))) else (if t383 = 4 then (if a0_4.size + 1 ≤ 9223372036854775807 then ((trap_Same.f kj3 a0_0 a0_1 a0_2 a0_3 a0_4 l0_5 a0_0 a0_1 a0_2 a0_3 (a0_4 ++ (⟨#[48]⟩ : ByteArray)) l0_5).bind fun t388 => (some (!t388))) else (none)) else ((some (([] : List (S40)) : List (S40))).bind fun y389 => (if y389.length + l0_5.length < 2932031007402 then ((some (y389 ++ l0_5 : List (S40))).bind fun y392 => (if y392.length < 2932031007402 then ((trap_Same.f kj3 a0_0 a0_1 a0_2 a0_3 a0_4 l0_5 a0_0 a0_1 a0_2 a0_3 a0_4 (y392 ++ [(⟨(⟨#[]⟩ : ByteArray), (⟨0, 0, (⟨#[]⟩ : ByteArray)⟩ : S38)⟩ : S40)])).bind fun t398 => (some (!t398))) else (none))) else (none)))))))) = some r := H
    have A24 := Aside0.mk A240
    clear A240
    by_cases c25 : t383 = 0
    ·rw [if_pos c25] at H
     have c25b0 : (t383 == 0) = true := beq_iff_eq.mpr c25
     have c25b1 : (t383 != 0) = false := bne_eq_false_iff_eq.mpr c25
     clear c25
     by_cases c26 : a0_0.size + 1 ≤ 9223372036854775807
     ·rw [if_pos c26] at H
      have c26b0 := eq_true c26
      have c26b1 : decide (a0_0.size + 1 ≤ 9223372036854775807) = true := decide_eq_true c26
      try have c26b2 : (9223372036854775807 < a0_0.size + 1) = False := eq_false (Nat.not_lt.2 c26)
      replace H := Option.bind_eq_some_iff.mp H
      obtain ⟨t384, A270, H⟩ := H
      replace H : (some (!t384)) = some r := H
      have A27 := Aside0.mk A270
      clear A270
      obtain rfl := Option.some.inj H
      have hnb28 := NB376_377.out
      have hnc28 := NB377_376.out
      obtain ⟨hcz29_0, hcz29_1, hcz29_2, hcz29_3, hcz29_4, hcz29_5⟩ := cells6_ BK376.out
      obtain ⟨hfz29_0, hfz29_1, hfz29_2, hfz29_3, hfz29_4, hfz29_5⟩ := frozen6_ BK376.out
      go_wp2_with (first | ((with_reducible refine gate_dst (N := 7) rfl ?_); refine box_event ?hg (N := 7) ?hd (cs := #[.string (⟨#[]⟩ : ByteArray), .bool false, .int .i64 0, .int .i64 0, .string (⟨#[]⟩ : ByteArray), .slice none 0 0]) (t := 24) ?hr ?_; (case hd => rfl); (case hg => rfl); (case hr => exact Zq2); intro gb382 hg w30 hbox hb; have BK382 := Aside0.mk (hbox); have GW382 := Aside0.mk ((Zq70 : w.heap.size ≤ gb382)); have GE382 := Aside0.mk ((Zq70 : w.heap.size ≤ gb382)); have NB376_382 := Aside0.mk ((Zq85 : gb376 ≠ gb382)); have NB382_376 := Aside0.mk ((Zq78 : gb382 ≠ gb376)); have NB377_382 := Aside0.mk ((Zq86 : gb377 ≠ gb382)); have NB382_377 := Aside0.mk ((Zq79 : gb382 ≠ gb377)); replace BK376 := Aside0.mk (blkb_ BK376.out Zq52 hb); replace BK377 := Aside0.mk (blkb_ BK377.out Zq52 hb); replace HB := Aside0.mk (below_step Zq50 hb); clear hb hbox hg; have hnb31 := NB382_376.out; have hnc31 := NB376_382.out; have hnb32 := NB382_377.out; have hnc32 := NB377_382.out; obtain ⟨hcz33_0, hcz33_1, hcz33_2, hcz33_3, hcz33_4, hcz33_5⟩ := cells6_ BK382.out; obtain ⟨hfz33_0, hfz33_1, hfz33_2, hfz33_3, hfz33_4, hfz33_5⟩ := frozen6_ BK382.out) | ((with_reducible refine gate_callee (f := 12) rfl ?_); refine goesL_ (some 27) rfl rfl Tryz.func12 (by kernel_rfl) rfl #[.int .i64 a2, .int .i64 6] rfl Zq14 ?_; (with_reducible refine (gongbook_Below.calls a2 6 t383 _ A24.out).mono ?_); rintro e w99 ⟨rfl, hd⟩; have hb := drawnB_ hd; refine ⟨_, rfl, ?_⟩; replace BK376 := Aside0.mk (blkb_ BK376.out Zq52 hb); replace BK377 := Aside0.mk (blkb_ BK377.out Zq52 hb); replace BK382 := Aside0.mk (blk_below (g := gb382) (o := .cells #[.string a0_0, .bool a0_1, .int .i64 a0_2, .int .i64 a0_3, .string a0_4, .slice A0_5 l0_5.length c0_5] 24 (0, 0)) Zq57 hb); replace HB := Aside0.mk (below_step Zq55 hb); clear hb hd; obtain ⟨hcz34_0, hcz34_1, hcz34_2, hcz34_3, hcz34_4, hcz34_5⟩ := cells6_ BK376.out; obtain ⟨hfz34_0, hfz34_1, hfz34_2, hfz34_3, hfz34_4, hfz34_5⟩ := frozen6_ BK376.out; obtain ⟨hcz34b_0, hcz34b_1, hcz34b_2, hcz34b_3, hcz34b_4, hcz34b_5⟩ := cells6_ BK382.out; obtain ⟨hfz34b_0, hfz34b_1, hfz34b_2, hfz34b_3, hfz34b_4, hfz34b_5⟩ := frozen6_ BK382.out) | ((with_reducible refine gate_callee (f := 11) rfl ?_); refine goesL_ (some 68) rfl rfl Tryz.func11 (by kernel_rfl) rfl #[.agg #[.string a0_0, .bool a0_1, .int .i64 a0_2, .int .i64 a0_3, .string a0_4, .slice A0_5 l0_5.length c0_5], .agg #[.string (a0_0 ++ (⟨#[120]⟩ : ByteArray)), .bool a0_1, .int .i64 a0_2, .int .i64 a0_3, .string a0_4, .slice A0_5 l0_5.length c0_5]] rfl Zq14 ?_; (with_reducible refine (trap_Same.calls kj3 a0_0 a0_1 a0_2 a0_3 a0_4 _ _ l0_5 (a0_0 ++ (⟨#[120]⟩ : ByteArray)) a0_1 a0_2 a0_3 a0_4 _ _ l0_5 t384 _ ?side1 ?side2 ?side3 ?side4 A27.out).mono ?_); (case side1 => exact Kd.C_below HR0_5.out Zq55); (case side2 => exact HC0_5.out); (case side3 => exact Kd.C_below HR0_5.out Zq55); (case side4 => exact HC0_5.out); rintro e w35 ⟨rfl, hb⟩; refine ⟨_, rfl, ?_⟩; replace BK376 := Aside0.mk (blkb_ BK376.out Zq52 hb); replace BK377 := Aside0.mk (blkb_ BK377.out Zq52 hb); replace BK382 := Aside0.mk (blk_below (g := gb382) (o := .cells #[.string (a0_0 ++ (⟨#[120]⟩ : ByteArray)), .bool a0_1, .int .i64 a0_2, .int .i64 a0_3, .string a0_4, .slice A0_5 l0_5.length c0_5] 24 (0, 0)) Zq57 hb); replace HB := Aside0.mk (below_step Zq55 hb); (try clear hb); (try clear hb2); (try clear hk); (try clear hi)))
      go_ret
      exact ⟨by first | rfl | (simp only [i64_w, i32_w]; rfl) | (simp [errW_none, errW_some] <;> rfl) | (simp [*, errW_none, errW_some] <;> rfl), by repeat (first | (with_reducible first | exact HB.out | apply below_alloc | apply pw_below_drewN | apply below_drew1 | refine below_set ?_ GE376.out | refine below_set ?_ GE377.out | refine below_set ?_ GE382.out) | exact HB.out)⟩
     ·rw [if_neg c26] at H
      exact absurd H (by simp)
    ·rw [if_neg c25] at H
     have c25b0 : (t383 == 0) = false := beq_eq_false_iff_ne.mpr c25
     have c25b1 : (t383 != 0) = true := bne_iff_ne.mpr c25
     by_cases c36 : t383 = 1
     ·rw [if_pos c36] at H
      have c36b0 : (t383 == 1) = true := beq_iff_eq.mpr c36
      have c36b1 : (t383 != 1) = false := bne_eq_false_iff_eq.mpr c36
      clear c36
      replace H := Option.bind_eq_some_iff.mp H
      obtain ⟨t385, A370, H⟩ := H
      replace H : (some (!t385)) = some r := H
      have A37 := Aside0.mk A370
      clear A370
      obtain rfl := Option.some.inj H
      have hnb38 := NB376_377.out
      have hnc38 := NB377_376.out
      obtain ⟨hcz39_0, hcz39_1, hcz39_2, hcz39_3, hcz39_4, hcz39_5⟩ := cells6_ BK376.out
      obtain ⟨hfz39_0, hfz39_1, hfz39_2, hfz39_3, hfz39_4, hfz39_5⟩ := frozen6_ BK376.out
      go_wp2_with (first | ((with_reducible refine gate_dst (N := 7) rfl ?_); refine box_event ?hg (N := 7) ?hd (cs := #[.string (⟨#[]⟩ : ByteArray), .bool false, .int .i64 0, .int .i64 0, .string (⟨#[]⟩ : ByteArray), .slice none 0 0]) (t := 24) ?hr ?_; (case hd => rfl); (case hg => rfl); (case hr => exact Zq2); intro gb382 hg w40 hbox hb; have BK382 := Aside0.mk (hbox); have GW382 := Aside0.mk ((Zq70 : w.heap.size ≤ gb382)); have GE382 := Aside0.mk ((Zq70 : w.heap.size ≤ gb382)); have NB376_382 := Aside0.mk ((Zq85 : gb376 ≠ gb382)); have NB382_376 := Aside0.mk ((Zq78 : gb382 ≠ gb376)); have NB377_382 := Aside0.mk ((Zq86 : gb377 ≠ gb382)); have NB382_377 := Aside0.mk ((Zq79 : gb382 ≠ gb377)); replace BK376 := Aside0.mk (blkb_ BK376.out Zq52 hb); replace BK377 := Aside0.mk (blkb_ BK377.out Zq52 hb); replace HB := Aside0.mk (below_step Zq50 hb); clear hb hbox hg; have hnb41 := NB382_376.out; have hnc41 := NB376_382.out; have hnb42 := NB382_377.out; have hnc42 := NB377_382.out; obtain ⟨hcz43_0, hcz43_1, hcz43_2, hcz43_3, hcz43_4, hcz43_5⟩ := cells6_ BK382.out; obtain ⟨hfz43_0, hfz43_1, hfz43_2, hfz43_3, hfz43_4, hfz43_5⟩ := frozen6_ BK382.out) | ((with_reducible refine gate_callee (f := 12) rfl ?_); refine goesL_ (some 27) rfl rfl Tryz.func12 (by kernel_rfl) rfl #[.int .i64 a2, .int .i64 6] rfl Zq14 ?_; (with_reducible refine (gongbook_Below.calls a2 6 t383 _ A24.out).mono ?_); rintro e w99 ⟨rfl, hd⟩; have hb := drawnB_ hd; refine ⟨_, rfl, ?_⟩; replace BK376 := Aside0.mk (blkb_ BK376.out Zq52 hb); replace BK377 := Aside0.mk (blkb_ BK377.out Zq52 hb); replace BK382 := Aside0.mk (blk_below (g := gb382) (o := .cells #[.string a0_0, .bool a0_1, .int .i64 a0_2, .int .i64 a0_3, .string a0_4, .slice A0_5 l0_5.length c0_5] 24 (0, 0)) Zq57 hb); replace HB := Aside0.mk (below_step Zq55 hb); clear hb hd; obtain ⟨hcz44_0, hcz44_1, hcz44_2, hcz44_3, hcz44_4, hcz44_5⟩ := cells6_ BK376.out; obtain ⟨hfz44_0, hfz44_1, hfz44_2, hfz44_3, hfz44_4, hfz44_5⟩ := frozen6_ BK376.out; obtain ⟨hcz44b_0, hcz44b_1, hcz44b_2, hcz44b_3, hcz44b_4, hcz44b_5⟩ := cells6_ BK382.out; obtain ⟨hfz44b_0, hfz44b_1, hfz44b_2, hfz44b_3, hfz44b_4, hfz44b_5⟩ := frozen6_ BK382.out) | ((with_reducible refine gate_callee (f := 11) rfl ?_); refine goesL_ (some 68) rfl rfl Tryz.func11 (by kernel_rfl) rfl #[.agg #[.string a0_0, .bool a0_1, .int .i64 a0_2, .int .i64 a0_3, .string a0_4, .slice A0_5 l0_5.length c0_5], .agg #[.string a0_0, .bool (!a0_1), .int .i64 a0_2, .int .i64 a0_3, .string a0_4, .slice A0_5 l0_5.length c0_5]] rfl Zq14 ?_; (with_reducible refine (trap_Same.calls kj3 a0_0 a0_1 a0_2 a0_3 a0_4 _ _ l0_5 a0_0 (!a0_1) a0_2 a0_3 a0_4 _ _ l0_5 t385 _ ?side1 ?side2 ?side3 ?side4 A37.out).mono ?_); (case side1 => exact Kd.C_below HR0_5.out Zq55); (case side2 => exact HC0_5.out); (case side3 => exact Kd.C_below HR0_5.out Zq55); (case side4 => exact HC0_5.out); rintro e w45 ⟨rfl, hb⟩; refine ⟨_, rfl, ?_⟩; replace BK376 := Aside0.mk (blkb_ BK376.out Zq52 hb); replace BK377 := Aside0.mk (blkb_ BK377.out Zq52 hb); replace BK382 := Aside0.mk (blk_below (g := gb382) (o := .cells #[.string a0_0, .bool (!a0_1), .int .i64 a0_2, .int .i64 a0_3, .string a0_4, .slice A0_5 l0_5.length c0_5] 24 (0, 0)) Zq57 hb); replace HB := Aside0.mk (below_step Zq55 hb); (try clear hb); (try clear hb2); (try clear hk); (try clear hi)))
      go_ret
      exact ⟨by first | rfl | (simp only [i64_w, i32_w]; rfl) | (simp [errW_none, errW_some] <;> rfl) | (simp [*, errW_none, errW_some] <;> rfl), by repeat (first | (with_reducible first | exact HB.out | apply below_alloc | apply pw_below_drewN | apply below_drew1 | refine below_set ?_ GE376.out | refine below_set ?_ GE377.out | refine below_set ?_ GE382.out) | exact HB.out)⟩
     ·rw [if_neg c36] at H
      have c36b0 : (t383 == 1) = false := beq_eq_false_iff_ne.mpr c36
      have c36b1 : (t383 != 1) = true := bne_iff_ne.mpr c36
      by_cases c46 : t383 = 2
      ·rw [if_pos c46] at H
       have c46b0 : (t383 == 2) = true := beq_iff_eq.mpr c46
       have c46b1 : (t383 != 2) = false := bne_eq_false_iff_eq.mpr c46
       clear c46
       replace H := Option.bind_eq_some_iff.mp H
       obtain ⟨t386, A470, H⟩ := H
       replace H : (some (!t386)) = some r := H
       have A47 := Aside0.mk A470
       clear A470
       obtain rfl := Option.some.inj H
       have hnb48 := NB376_377.out
       have hnc48 := NB377_376.out
       obtain ⟨hcz49_0, hcz49_1, hcz49_2, hcz49_3, hcz49_4, hcz49_5⟩ := cells6_ BK376.out
       obtain ⟨hfz49_0, hfz49_1, hfz49_2, hfz49_3, hfz49_4, hfz49_5⟩ := frozen6_ BK376.out
       go_wp2_with (first | ((with_reducible refine gate_dst (N := 7) rfl ?_); refine box_event ?hg (N := 7) ?hd (cs := #[.string (⟨#[]⟩ : ByteArray), .bool false, .int .i64 0, .int .i64 0, .string (⟨#[]⟩ : ByteArray), .slice none 0 0]) (t := 24) ?hr ?_; (case hd => rfl); (case hg => rfl); (case hr => exact Zq2); intro gb382 hg w50 hbox hb; have BK382 := Aside0.mk (hbox); have GW382 := Aside0.mk ((Zq70 : w.heap.size ≤ gb382)); have GE382 := Aside0.mk ((Zq70 : w.heap.size ≤ gb382)); have NB376_382 := Aside0.mk ((Zq85 : gb376 ≠ gb382)); have NB382_376 := Aside0.mk ((Zq78 : gb382 ≠ gb376)); have NB377_382 := Aside0.mk ((Zq86 : gb377 ≠ gb382)); have NB382_377 := Aside0.mk ((Zq79 : gb382 ≠ gb377)); replace BK376 := Aside0.mk (blkb_ BK376.out Zq52 hb); replace BK377 := Aside0.mk (blkb_ BK377.out Zq52 hb); replace HB := Aside0.mk (below_step Zq50 hb); clear hb hbox hg; have hnb51 := NB382_376.out; have hnc51 := NB376_382.out; have hnb52 := NB382_377.out; have hnc52 := NB377_382.out; obtain ⟨hcz53_0, hcz53_1, hcz53_2, hcz53_3, hcz53_4, hcz53_5⟩ := cells6_ BK382.out; obtain ⟨hfz53_0, hfz53_1, hfz53_2, hfz53_3, hfz53_4, hfz53_5⟩ := frozen6_ BK382.out) | ((with_reducible refine gate_callee (f := 12) rfl ?_); refine goesL_ (some 27) rfl rfl Tryz.func12 (by kernel_rfl) rfl #[.int .i64 a2, .int .i64 6] rfl Zq14 ?_; (with_reducible refine (gongbook_Below.calls a2 6 t383 _ A24.out).mono ?_); rintro e w99 ⟨rfl, hd⟩; have hb := drawnB_ hd; refine ⟨_, rfl, ?_⟩; replace BK376 := Aside0.mk (blkb_ BK376.out Zq52 hb); replace BK377 := Aside0.mk (blkb_ BK377.out Zq52 hb); replace BK382 := Aside0.mk (blk_below (g := gb382) (o := .cells #[.string a0_0, .bool a0_1, .int .i64 a0_2, .int .i64 a0_3, .string a0_4, .slice A0_5 l0_5.length c0_5] 24 (0, 0)) Zq57 hb); replace HB := Aside0.mk (below_step Zq55 hb); clear hb hd; obtain ⟨hcz54_0, hcz54_1, hcz54_2, hcz54_3, hcz54_4, hcz54_5⟩ := cells6_ BK376.out; obtain ⟨hfz54_0, hfz54_1, hfz54_2, hfz54_3, hfz54_4, hfz54_5⟩ := frozen6_ BK376.out; obtain ⟨hcz54b_0, hcz54b_1, hcz54b_2, hcz54b_3, hcz54b_4, hcz54b_5⟩ := cells6_ BK382.out; obtain ⟨hfz54b_0, hfz54b_1, hfz54b_2, hfz54b_3, hfz54b_4, hfz54b_5⟩ := frozen6_ BK382.out) | ((with_reducible refine gate_callee (f := 11) rfl ?_); refine goesL_ (some 68) rfl rfl Tryz.func11 (by kernel_rfl) rfl #[.agg #[.string a0_0, .bool a0_1, .int .i64 a0_2, .int .i64 a0_3, .string a0_4, .slice A0_5 l0_5.length c0_5], .agg #[.string a0_0, .bool a0_1, .int .i64 (Go.bits .xor .i64 a0_2 1), .int .i64 a0_3, .string a0_4, .slice A0_5 l0_5.length c0_5]] rfl Zq14 ?_; (with_reducible refine (trap_Same.calls kj3 a0_0 a0_1 a0_2 a0_3 a0_4 _ _ l0_5 a0_0 a0_1 (Go.bits .xor .i64 a0_2 1) a0_3 a0_4 _ _ l0_5 t386 _ ?side1 ?side2 ?side3 ?side4 A47.out).mono ?_); (case side1 => exact Kd.C_below HR0_5.out Zq55); (case side2 => exact HC0_5.out); (case side3 => exact Kd.C_below HR0_5.out Zq55); (case side4 => exact HC0_5.out); rintro e w55 ⟨rfl, hb⟩; refine ⟨_, rfl, ?_⟩; replace BK376 := Aside0.mk (blkb_ BK376.out Zq52 hb); replace BK377 := Aside0.mk (blkb_ BK377.out Zq52 hb); replace BK382 := Aside0.mk (blk_below (g := gb382) (o := .cells #[.string a0_0, .bool a0_1, .int .i64 (Go.bits .xor .i64 a0_2 1), .int .i64 a0_3, .string a0_4, .slice A0_5 l0_5.length c0_5] 24 (0, 0)) Zq57 hb); replace HB := Aside0.mk (below_step Zq55 hb); (try clear hb); (try clear hb2); (try clear hk); (try clear hi)))
       go_ret
       exact ⟨by first | rfl | (simp only [i64_w, i32_w]; rfl) | (simp [errW_none, errW_some] <;> rfl) | (simp [*, errW_none, errW_some] <;> rfl), by repeat (first | (with_reducible first | exact HB.out | apply below_alloc | apply pw_below_drewN | apply below_drew1 | refine below_set ?_ GE376.out | refine below_set ?_ GE377.out | refine below_set ?_ GE382.out) | exact HB.out)⟩
      ·rw [if_neg c46] at H
       have c46b0 : (t383 == 2) = false := beq_eq_false_iff_ne.mpr c46
       have c46b1 : (t383 != 2) = true := bne_iff_ne.mpr c46
       by_cases c56 : t383 = 3
       ·rw [if_pos c56] at H
        have c56b0 : (t383 == 3) = true := beq_iff_eq.mpr c56
        have c56b1 : (t383 != 3) = false := bne_eq_false_iff_eq.mpr c56
        clear c56
        replace H := Option.bind_eq_some_iff.mp H
        obtain ⟨t387, A570, H⟩ := H
        replace H : (some (!t387)) = some r := H
        have A57 := Aside0.mk A570
        clear A570
        obtain rfl := Option.some.inj H
        have hnb58 := NB376_377.out
        have hnc58 := NB377_376.out
        obtain ⟨hcz59_0, hcz59_1, hcz59_2, hcz59_3, hcz59_4, hcz59_5⟩ := cells6_ BK376.out
        obtain ⟨hfz59_0, hfz59_1, hfz59_2, hfz59_3, hfz59_4, hfz59_5⟩ := frozen6_ BK376.out
        go_wp2_with (first | ((with_reducible refine gate_dst (N := 7) rfl ?_); refine box_event ?hg (N := 7) ?hd (cs := #[.string (⟨#[]⟩ : ByteArray), .bool false, .int .i64 0, .int .i64 0, .string (⟨#[]⟩ : ByteArray), .slice none 0 0]) (t := 24) ?hr ?_; (case hd => rfl); (case hg => rfl); (case hr => exact Zq2); intro gb382 hg w60 hbox hb; have BK382 := Aside0.mk (hbox); have GW382 := Aside0.mk ((Zq70 : w.heap.size ≤ gb382)); have GE382 := Aside0.mk ((Zq70 : w.heap.size ≤ gb382)); have NB376_382 := Aside0.mk ((Zq85 : gb376 ≠ gb382)); have NB382_376 := Aside0.mk ((Zq78 : gb382 ≠ gb376)); have NB377_382 := Aside0.mk ((Zq86 : gb377 ≠ gb382)); have NB382_377 := Aside0.mk ((Zq79 : gb382 ≠ gb377)); replace BK376 := Aside0.mk (blkb_ BK376.out Zq52 hb); replace BK377 := Aside0.mk (blkb_ BK377.out Zq52 hb); replace HB := Aside0.mk (below_step Zq50 hb); clear hb hbox hg; have hnb61 := NB382_376.out; have hnc61 := NB376_382.out; have hnb62 := NB382_377.out; have hnc62 := NB377_382.out; obtain ⟨hcz63_0, hcz63_1, hcz63_2, hcz63_3, hcz63_4, hcz63_5⟩ := cells6_ BK382.out; obtain ⟨hfz63_0, hfz63_1, hfz63_2, hfz63_3, hfz63_4, hfz63_5⟩ := frozen6_ BK382.out) | ((with_reducible refine gate_callee (f := 12) rfl ?_); refine goesL_ (some 27) rfl rfl Tryz.func12 (by kernel_rfl) rfl #[.int .i64 a2, .int .i64 6] rfl Zq14 ?_; (with_reducible refine (gongbook_Below.calls a2 6 t383 _ A24.out).mono ?_); rintro e w99 ⟨rfl, hd⟩; have hb := drawnB_ hd; refine ⟨_, rfl, ?_⟩; replace BK376 := Aside0.mk (blkb_ BK376.out Zq52 hb); replace BK377 := Aside0.mk (blkb_ BK377.out Zq52 hb); replace BK382 := Aside0.mk (blk_below (g := gb382) (o := .cells #[.string a0_0, .bool a0_1, .int .i64 a0_2, .int .i64 a0_3, .string a0_4, .slice A0_5 l0_5.length c0_5] 24 (0, 0)) Zq57 hb); replace HB := Aside0.mk (below_step Zq55 hb); clear hb hd; obtain ⟨hcz64_0, hcz64_1, hcz64_2, hcz64_3, hcz64_4, hcz64_5⟩ := cells6_ BK376.out; obtain ⟨hfz64_0, hfz64_1, hfz64_2, hfz64_3, hfz64_4, hfz64_5⟩ := frozen6_ BK376.out; obtain ⟨hcz64b_0, hcz64b_1, hcz64b_2, hcz64b_3, hcz64b_4, hcz64b_5⟩ := cells6_ BK382.out; obtain ⟨hfz64b_0, hfz64b_1, hfz64b_2, hfz64b_3, hfz64b_4, hfz64b_5⟩ := frozen6_ BK382.out) | ((with_reducible refine gate_callee (f := 11) rfl ?_); refine goesL_ (some 68) rfl rfl Tryz.func11 (by kernel_rfl) rfl #[.agg #[.string a0_0, .bool a0_1, .int .i64 a0_2, .int .i64 a0_3, .string a0_4, .slice A0_5 l0_5.length c0_5], .agg #[.string a0_0, .bool a0_1, .int .i64 a0_2, .int .i64 (Go.bits .xor .i64 a0_3 1), .string a0_4, .slice A0_5 l0_5.length c0_5]] rfl Zq14 ?_; (with_reducible refine (trap_Same.calls kj3 a0_0 a0_1 a0_2 a0_3 a0_4 _ _ l0_5 a0_0 a0_1 a0_2 (Go.bits .xor .i64 a0_3 1) a0_4 _ _ l0_5 t387 _ ?side1 ?side2 ?side3 ?side4 A57.out).mono ?_); (case side1 => exact Kd.C_below HR0_5.out Zq55); (case side2 => exact HC0_5.out); (case side3 => exact Kd.C_below HR0_5.out Zq55); (case side4 => exact HC0_5.out); rintro e w65 ⟨rfl, hb⟩; refine ⟨_, rfl, ?_⟩; replace BK376 := Aside0.mk (blkb_ BK376.out Zq52 hb); replace BK377 := Aside0.mk (blkb_ BK377.out Zq52 hb); replace BK382 := Aside0.mk (blk_below (g := gb382) (o := .cells #[.string a0_0, .bool a0_1, .int .i64 a0_2, .int .i64 (Go.bits .xor .i64 a0_3 1), .string a0_4, .slice A0_5 l0_5.length c0_5] 24 (0, 0)) Zq57 hb); replace HB := Aside0.mk (below_step Zq55 hb); (try clear hb); (try clear hb2); (try clear hk); (try clear hi)))
        go_ret
        exact ⟨by first | rfl | (simp only [i64_w, i32_w]; rfl) | (simp [errW_none, errW_some] <;> rfl) | (simp [*, errW_none, errW_some] <;> rfl), by repeat (first | (with_reducible first | exact HB.out | apply below_alloc | apply pw_below_drewN | apply below_drew1 | refine below_set ?_ GE376.out | refine below_set ?_ GE377.out | refine below_set ?_ GE382.out) | exact HB.out)⟩
       ·rw [if_neg c56] at H
        have c56b0 : (t383 == 3) = false := beq_eq_false_iff_ne.mpr c56
        have c56b1 : (t383 != 3) = true := bne_iff_ne.mpr c56
        by_cases c66 : t383 = 4
        ·rw [if_pos c66] at H
         have c66b0 : (t383 == 4) = true := beq_iff_eq.mpr c66
         have c66b1 : (t383 != 4) = false := bne_eq_false_iff_eq.mpr c66
         clear c66
         by_cases c67 : a0_4.size + 1 ≤ 9223372036854775807
         ·rw [if_pos c67] at H
          have c67b0 := eq_true c67
          have c67b1 : decide (a0_4.size + 1 ≤ 9223372036854775807) = true := decide_eq_true c67
          try have c67b2 : (9223372036854775807 < a0_4.size + 1) = False := eq_false (Nat.not_lt.2 c67)
          replace H := Option.bind_eq_some_iff.mp H
          obtain ⟨t388, A680, H⟩ := H
          replace H : (some (!t388)) = some r := H
          have A68 := Aside0.mk A680
          clear A680
          obtain rfl := Option.some.inj H
          have hnb69 := NB376_377.out
          have hnc69 := NB377_376.out
          obtain ⟨hcz70_0, hcz70_1, hcz70_2, hcz70_3, hcz70_4, hcz70_5⟩ := cells6_ BK376.out
          obtain ⟨hfz70_0, hfz70_1, hfz70_2, hfz70_3, hfz70_4, hfz70_5⟩ := frozen6_ BK376.out
          go_wp2_with (first | ((with_reducible refine gate_dst (N := 7) rfl ?_); refine box_event ?hg (N := 7) ?hd (cs := #[.string (⟨#[]⟩ : ByteArray), .bool false, .int .i64 0, .int .i64 0, .string (⟨#[]⟩ : ByteArray), .slice none 0 0]) (t := 24) ?hr ?_; (case hd => rfl); (case hg => rfl); (case hr => exact Zq2); intro gb382 hg w71 hbox hb; have BK382 := Aside0.mk (hbox); have GW382 := Aside0.mk ((Zq70 : w.heap.size ≤ gb382)); have GE382 := Aside0.mk ((Zq70 : w.heap.size ≤ gb382)); have NB376_382 := Aside0.mk ((Zq85 : gb376 ≠ gb382)); have NB382_376 := Aside0.mk ((Zq78 : gb382 ≠ gb376)); have NB377_382 := Aside0.mk ((Zq86 : gb377 ≠ gb382)); have NB382_377 := Aside0.mk ((Zq79 : gb382 ≠ gb377)); replace BK376 := Aside0.mk (blkb_ BK376.out Zq52 hb); replace BK377 := Aside0.mk (blkb_ BK377.out Zq52 hb); replace HB := Aside0.mk (below_step Zq50 hb); clear hb hbox hg; have hnb72 := NB382_376.out; have hnc72 := NB376_382.out; have hnb73 := NB382_377.out; have hnc73 := NB377_382.out; obtain ⟨hcz74_0, hcz74_1, hcz74_2, hcz74_3, hcz74_4, hcz74_5⟩ := cells6_ BK382.out; obtain ⟨hfz74_0, hfz74_1, hfz74_2, hfz74_3, hfz74_4, hfz74_5⟩ := frozen6_ BK382.out) | ((with_reducible refine gate_callee (f := 12) rfl ?_); refine goesL_ (some 27) rfl rfl Tryz.func12 (by kernel_rfl) rfl #[.int .i64 a2, .int .i64 6] rfl Zq14 ?_; (with_reducible refine (gongbook_Below.calls a2 6 t383 _ A24.out).mono ?_); rintro e w99 ⟨rfl, hd⟩; have hb := drawnB_ hd; refine ⟨_, rfl, ?_⟩; replace BK376 := Aside0.mk (blkb_ BK376.out Zq52 hb); replace BK377 := Aside0.mk (blkb_ BK377.out Zq52 hb); replace BK382 := Aside0.mk (blk_below (g := gb382) (o := .cells #[.string a0_0, .bool a0_1, .int .i64 a0_2, .int .i64 a0_3, .string a0_4, .slice A0_5 l0_5.length c0_5] 24 (0, 0)) Zq57 hb); replace HB := Aside0.mk (below_step Zq55 hb); clear hb hd; obtain ⟨hcz75_0, hcz75_1, hcz75_2, hcz75_3, hcz75_4, hcz75_5⟩ := cells6_ BK376.out; obtain ⟨hfz75_0, hfz75_1, hfz75_2, hfz75_3, hfz75_4, hfz75_5⟩ := frozen6_ BK376.out; obtain ⟨hcz75b_0, hcz75b_1, hcz75b_2, hcz75b_3, hcz75b_4, hcz75b_5⟩ := cells6_ BK382.out; obtain ⟨hfz75b_0, hfz75b_1, hfz75b_2, hfz75b_3, hfz75b_4, hfz75b_5⟩ := frozen6_ BK382.out) | ((with_reducible refine gate_callee (f := 11) rfl ?_); refine goesL_ (some 68) rfl rfl Tryz.func11 (by kernel_rfl) rfl #[.agg #[.string a0_0, .bool a0_1, .int .i64 a0_2, .int .i64 a0_3, .string a0_4, .slice A0_5 l0_5.length c0_5], .agg #[.string a0_0, .bool a0_1, .int .i64 a0_2, .int .i64 a0_3, .string (a0_4 ++ (⟨#[48]⟩ : ByteArray)), .slice A0_5 l0_5.length c0_5]] rfl Zq14 ?_; (with_reducible refine (trap_Same.calls kj3 a0_0 a0_1 a0_2 a0_3 a0_4 _ _ l0_5 a0_0 a0_1 a0_2 a0_3 (a0_4 ++ (⟨#[48]⟩ : ByteArray)) _ _ l0_5 t388 _ ?side1 ?side2 ?side3 ?side4 A68.out).mono ?_); (case side1 => exact Kd.C_below HR0_5.out Zq55); (case side2 => exact HC0_5.out); (case side3 => exact Kd.C_below HR0_5.out Zq55); (case side4 => exact HC0_5.out); rintro e w76 ⟨rfl, hb⟩; refine ⟨_, rfl, ?_⟩; replace BK376 := Aside0.mk (blkb_ BK376.out Zq52 hb); replace BK377 := Aside0.mk (blkb_ BK377.out Zq52 hb); replace BK382 := Aside0.mk (blk_below (g := gb382) (o := .cells #[.string a0_0, .bool a0_1, .int .i64 a0_2, .int .i64 a0_3, .string (a0_4 ++ (⟨#[48]⟩ : ByteArray)), .slice A0_5 l0_5.length c0_5] 24 (0, 0)) Zq57 hb); replace HB := Aside0.mk (below_step Zq55 hb); (try clear hb); (try clear hb2); (try clear hk); (try clear hi)))
          go_ret
          exact ⟨by first | rfl | (simp only [i64_w, i32_w]; rfl) | (simp [errW_none, errW_some] <;> rfl) | (simp [*, errW_none, errW_some] <;> rfl), by repeat (first | (with_reducible first | exact HB.out | apply below_alloc | apply pw_below_drewN | apply below_drew1 | refine below_set ?_ GE376.out | refine below_set ?_ GE377.out | refine below_set ?_ GE382.out) | exact HB.out)⟩
         ·rw [if_neg c67] at H
          exact absurd H (by simp)
        ·rw [if_neg c66] at H
         have c66b0 : (t383 == 4) = false := beq_eq_false_iff_ne.mpr c66
         have c66b1 : (t383 != 4) = true := bne_iff_ne.mpr c66
         obtain ⟨y389, hy389⟩ : ∃ y_ : List (S40), y_ = (([] : List (S40))) := ⟨_, rfl⟩
         replace H : (if y389.length + l0_5.length < 2932031007402 then ((some (y389 ++ l0_5 : List (S40))).bind fun y392 => (if y392.length < 2932031007402 then ((trap_Same.f kj3 a0_0 a0_1 a0_2 a0_3 a0_4 l0_5 a0_0 a0_1 a0_2 a0_3 a0_4 (y392 ++ [(⟨(⟨#[]⟩ : ByteArray), (⟨0, 0, (⟨#[]⟩ : ByteArray)⟩ : S38)⟩ : S40)])).bind fun t398 => (some (!t398))) else (none))) else (none)) = some r := by first | (rw [hy389]; with_reducible exact H) | (have H2_ := (Option.bind_some _ _).symm.trans H; rw [hy389]; with_reducible exact H2_) | (have H2_ := (Option.bind_some _ _).symm.trans H; with_reducible exact H2_) | with_reducible exact H | (rw [hy389]; exact H) | exact H
         have Ny389 := Aside0.mk hy389
         clear hy389
         by_cases c77 : y389.length + l0_5.length < 2932031007402
         ·rw [if_pos c77] at H
          have LMc77 := Aside0.mk c77
          clear c77
          obtain ⟨y392, hy392⟩ : ∃ y_ : List (S40), y_ = (y389 ++ l0_5) := ⟨_, rfl⟩
          replace H : (if y392.length < 2932031007402 then ((trap_Same.f kj3 a0_0 a0_1 a0_2 a0_3 a0_4 l0_5 a0_0 a0_1 a0_2 a0_3 a0_4 (y392 ++ [(⟨(⟨#[]⟩ : ByteArray), (⟨0, 0, (⟨#[]⟩ : ByteArray)⟩ : S38)⟩ : S40)])).bind fun t398 => (some (!t398))) else (none)) = some r := by first | (rw [hy392]; with_reducible exact H) | (have H2_ := (Option.bind_some _ _).symm.trans H; rw [hy392]; with_reducible exact H2_) | (have H2_ := (Option.bind_some _ _).symm.trans H; with_reducible exact H2_) | with_reducible exact H | (rw [hy392]; exact H) | exact H
          have Ny392 := Aside0.mk hy392
          clear hy392
          by_cases c78 : y392.length < 2932031007402
          ·rw [if_pos c78] at H
           have LMc78 := Aside0.mk c78
           clear c78
           obtain ⟨y395, hy395⟩ : ∃ y_ : List (S40), y_ = (y392 ++ [(⟨(⟨#[]⟩ : ByteArray), (⟨0, 0, (⟨#[]⟩ : ByteArray)⟩ : S38)⟩ : S40)]) := ⟨_, rfl⟩
           replace H : ((trap_Same.f kj3 a0_0 a0_1 a0_2 a0_3 a0_4 l0_5 a0_0 a0_1 a0_2 a0_3 a0_4 y395).bind fun t398 => (some (!t398))) = some r := by first | (rw [hy395]; with_reducible exact H) | (have H2_ := (Option.bind_some _ _).symm.trans H; rw [hy395]; with_reducible exact H2_) | (have H2_ := (Option.bind_some _ _).symm.trans H; with_reducible exact H2_) | with_reducible exact H | (rw [hy395]; exact H) | exact H
           have Ny395 := Aside0.mk hy395
           clear hy395
           replace H := Option.bind_eq_some_iff.mp H
           obtain ⟨t398, A790, H⟩ := H
           replace H : (some (!t398)) = some r := H
           have A79 := Aside0.mk A790
           clear A790
           obtain rfl := Option.some.inj H
           have hnb80 := NB376_377.out
           have hnc80 := NB377_376.out
           obtain ⟨hcz81_0, hcz81_1, hcz81_2, hcz81_3, hcz81_4, hcz81_5⟩ := cells6_ BK376.out
           obtain ⟨hfz81_0, hfz81_1, hfz81_2, hfz81_3, hfz81_4, hfz81_5⟩ := frozen6_ BK376.out
           go_wp2_with (first | ((with_reducible refine gate_dst (N := 7) rfl ?_); refine box_event ?hg (N := 7) ?hd (cs := #[.string (⟨#[]⟩ : ByteArray), .bool false, .int .i64 0, .int .i64 0, .string (⟨#[]⟩ : ByteArray), .slice none 0 0]) (t := 24) ?hr ?_; (case hd => rfl); (case hg => rfl); (case hr => exact Zq2); intro gb382 hg w82 hbox hb; have BK382 := Aside0.mk (hbox); have GW382 := Aside0.mk ((Zq70 : w.heap.size ≤ gb382)); have GE382 := Aside0.mk ((Zq70 : w.heap.size ≤ gb382)); have NB376_382 := Aside0.mk ((Zq85 : gb376 ≠ gb382)); have NB382_376 := Aside0.mk ((Zq78 : gb382 ≠ gb376)); have NB377_382 := Aside0.mk ((Zq86 : gb377 ≠ gb382)); have NB382_377 := Aside0.mk ((Zq79 : gb382 ≠ gb377)); replace BK376 := Aside0.mk (blkb_ BK376.out Zq52 hb); replace BK377 := Aside0.mk (blkb_ BK377.out Zq52 hb); replace HB := Aside0.mk (below_step Zq50 hb); clear hb hbox hg; have hnb83 := NB382_376.out; have hnc83 := NB376_382.out; have hnb84 := NB382_377.out; have hnc84 := NB377_382.out; obtain ⟨hcz85_0, hcz85_1, hcz85_2, hcz85_3, hcz85_4, hcz85_5⟩ := cells6_ BK382.out; obtain ⟨hfz85_0, hfz85_1, hfz85_2, hfz85_3, hfz85_4, hfz85_5⟩ := frozen6_ BK382.out) | ((with_reducible refine gate_callee (f := 12) rfl ?_); refine goesL_ (some 27) rfl rfl Tryz.func12 (by kernel_rfl) rfl #[.int .i64 a2, .int .i64 6] rfl Zq14 ?_; (with_reducible refine (gongbook_Below.calls a2 6 t383 _ A24.out).mono ?_); rintro e w' ⟨rfl, ⟨nd, rfl⟩⟩; refine ⟨_, rfl, ?_⟩) | ((with_reducible refine gate_dst (N := 28) rfl ?_); refine Kd.R_lit k40 _ 40 ?hg (N := 28) ?hd (xs := ([] : List (S40))) (inner := []) (ok := fun _ => True) (okp := fun _ => True) ?hr ?hp (fun _ hk => hk) trivial (Below.refl _ _) (Nat.le_refl _) (by simp) ?_; (case hd => rfl); (case hg => rfl); (case hr => exact Zq2); (case hp => exact (Reps.none _ _)); intro v390 w86 ho87 hb hg_ hnew_; clear hg_ hnew_; (first | rw [← Ny389.out] at ho87 | (simp only [Int.reduceToNat] at ho87; rw [← Ny389.out] at ho87)); have HO391 := Aside0.mk (Kd.R_lower ho87 (below_size Zq55)); replace BK376 := Aside0.mk (blkb_ BK376.out Zq52 hb); replace BK377 := Aside0.mk (blkb_ BK377.out Zq52 hb); replace BK382 := Aside0.mk (blk_below (g := gb382) (o := .cells #[.string a0_0, .bool a0_1, .int .i64 a0_2, .int .i64 a0_3, .string a0_4, .slice A0_5 l0_5.length c0_5] 24 (0, 0)) Zq57 hb); replace HB := Aside0.mk (below_step Zq55 hb); clear hb ho87; obtain ⟨hcz88_0, hcz88_1, hcz88_2, hcz88_3, hcz88_4, hcz88_5⟩ := cells6_ BK376.out; obtain ⟨hfz88_0, hfz88_1, hfz88_2, hfz88_3, hfz88_4, hfz88_5⟩ := frozen6_ BK376.out) | ((with_reducible refine gate_builtin (b := .append) (xs := #[.tmp 28, .tmp 30]) rfl ?_); at_builtin; refine Kd.R_append_rows k40 (w0 := w) w.heap.size rfl (.tmp 28) (.tmp 30) 22 40 (.agg #[(.string ⟨#[]⟩), (.int .i64 0), (.int .i64 0), (.string ⟨#[]⟩)]) 48 rfl Tryz.underlying22 info40 rfl (by decide) (by omega) v390 y389 l0_5 _ _ _ (fun _ => True) (fun _ => False) rfl rfl ?aO ?aR (fun _ _ h => h) (fun _ h => h.elim) ?aF ?aB ?aS ?aL ?_; (case aR => repeat (first | exact (Kd.C_below HR0_5.out HB.out) | (with_reducible refine Kd.C_alloc ?_ _) | (with_reducible refine Kd.C_drewN ?_ _) | (with_reducible refine Kd.C_drew ?_))); (case aB => exact Zq55); (case aF => exact (fun _ _ => trivial)); (case aO => exact (by (with_reducible repeat (first | apply Kd.R_alloc | apply Kd.R_drewN | apply Kd.R_drew)); exact HO391.out)); (case aS => exact (below_size Zq55)); (case aL => have := LMc77.out; omega); intro v393 w89 ho hb hg hat; rw [← Ny392.out] at ho; have n0_ := Aside0.mk (blk_grown (g := gb376) (o := .cells #[.string a0_0, .bool a0_1, .int .i64 a0_2, .int .i64 a0_3, .string a0_4, .slice A0_5 l0_5.length c0_5] 24 (0, 0)) Zq52 hg (Kd.R_ne HO391.out BK376.out (by decide))); have n1_ := Aside0.mk (blk_grown (g := gb377) (o := .cells #[.string a1_0, .bool a1_1, .int .i64 a1_2, .int .i64 a1_3, .string a1_4, .slice A1_5 l1_5.length c1_5] 24 (0, 0)) Zq52 hg (Kd.R_ne HO391.out BK377.out (by decide))); have n2_ := Aside0.mk (blk_grown (g := gb382) (o := .cells #[.string a0_0, .bool a0_1, .int .i64 a0_2, .int .i64 a0_3, .string a0_4, .slice A0_5 l0_5.length c0_5] 24 (0, 0)) Zq52 hg (Kd.R_ne HO391.out BK382.out (by decide))); have n3_ := Aside0.mk (hb); have n4_ := Aside0.mk (ho); clear BK376; clear BK377; clear BK382; clear HB; clear HO391; have BK376 := n0_; have BK377 := n1_; have BK382 := n2_; have HB := n3_; have HO394 := n4_; clear n0_ n1_ n2_ n3_ n4_; clear ho hb hg hat) | ((with_reducible refine gate_builtin (b := .append) (xs := #[.tmp 31, .tmp 33]) rfl ?_); at_builtin; refine Kd.R_append k40 (w0 := w) w.heap.size rfl (.tmp 31) (.tmp 33) 22 40 (.agg #[(.string ⟨#[]⟩), (.int .i64 0), (.int .i64 0), (.string ⟨#[]⟩)]) 48 rfl Tryz.underlying22 info40 rfl (by decide) (by omega) v393 y392 (⟨(⟨#[]⟩ : ByteArray), (⟨0, 0, (⟨#[]⟩ : ByteArray)⟩ : S38)⟩ : S40) [.string (⟨#[]⟩ : ByteArray), .int .i64 0, .int .i64 0, .string (⟨#[]⟩ : ByteArray)] (fun _ => True) (fun _ => False) rfl rfl ?aP (fun _ hk => hk.elim) ?aF ?aO ?aB ?aS ?aL ?_; (case aP => exact k40_mkM _ _ _ (⟨(⟨#[]⟩ : ByteArray), (⟨0, 0, (⟨#[]⟩ : ByteArray)⟩ : S38)⟩ : S40)); (case aB => exact Zq55); (case aF => exact (fun _ _ => trivial)); (case aO => exact (by (with_reducible repeat (first | apply Kd.R_alloc | apply Kd.R_drewN | apply Kd.R_drew)); exact HO394.out)); (case aS => exact (below_size Zq55)); (case aL => have := LMc78.out; omega); intro v396 w90 ho hb hg hat; rw [← Ny395.out] at ho; have n0_ := Aside0.mk (blk_grown (g := gb376) (o := .cells #[.string a0_0, .bool a0_1, .int .i64 a0_2, .int .i64 a0_3, .string a0_4, .slice A0_5 l0_5.length c0_5] 24 (0, 0)) Zq52 hg (Kd.R_ne HO394.out BK376.out (by decide))); have n1_ := Aside0.mk (blk_grown (g := gb377) (o := .cells #[.string a1_0, .bool a1_1, .int .i64 a1_2, .int .i64 a1_3, .string a1_4, .slice A1_5 l1_5.length c1_5] 24 (0, 0)) Zq52 hg (Kd.R_ne HO394.out BK377.out (by decide))); have n2_ := Aside0.mk (blk_grown (g := gb382) (o := .cells #[.string a0_0, .bool a0_1, .int .i64 a0_2, .int .i64 a0_3, .string a0_4, .slice A0_5 l0_5.length c0_5] 24 (0, 0)) Zq52 hg (Kd.R_ne HO394.out BK382.out (by decide))); have n3_ := Aside0.mk (hb); have n4_ := Aside0.mk (ho); clear BK376; clear BK377; clear BK382; clear HB; clear HO394; have BK376 := n0_; have BK377 := n1_; have BK382 := n2_; have HB := n3_; have HO397 := n4_; clear n0_ n1_ n2_ n3_ n4_; clear ho hb hg hat; obtain ⟨Ao91, co91, eo91⟩ := Kd.R_slice HO397.out; subst eo91; obtain ⟨hcz92_0, hcz92_1, hcz92_2, hcz92_3, hcz92_4, hcz92_5⟩ := cells6_ BK382.out; obtain ⟨hfz92_0, hfz92_1, hfz92_2, hfz92_3, hfz92_4, hfz92_5⟩ := frozen6_ BK382.out; obtain ⟨hcz93_0, hcz93_1, hcz93_2, hcz93_3, hcz93_4, hcz93_5⟩ := cells6_ BK376.out; obtain ⟨hfz93_0, hfz93_1, hfz93_2, hfz93_3, hfz93_4, hfz93_5⟩ := frozen6_ BK376.out) | ((with_reducible refine gate_callee (f := 11) rfl ?_); refine goesL_ (some 68) rfl rfl Tryz.func11 (by kernel_rfl) rfl #[.agg #[.string a0_0, .bool a0_1, .int .i64 a0_2, .int .i64 a0_3, .string a0_4, .slice A0_5 l0_5.length c0_5], .agg #[.string a0_0, .bool a0_1, .int .i64 a0_2, .int .i64 a0_3, .string a0_4, .slice Ao91 y395.length co91]] rfl Zq14 ?_; (with_reducible refine (trap_Same.calls kj3 a0_0 a0_1 a0_2 a0_3 a0_4 _ _ l0_5 a0_0 a0_1 a0_2 a0_3 a0_4 _ _ y395 t398 _ ?side1 ?side2 ?side3 ?side4 A79.out).mono ?_); (case side1 => exact Kd.C_below HR0_5.out Zq55); (case side2 => exact HC0_5.out); (case side3 => refine (Kd.R_reads' (e := 40) (base := w.heap.size) (ok := fun k_ => True) (n := y395.length) (c := co91) ?_).2.2; exact Zq58); (case side4 => exact (Kd.R_reads' HO397.out).2.1); rintro e w94 ⟨rfl, hb⟩; refine ⟨_, rfl, ?_⟩; replace HO397 := Aside0.mk (Kd.R_below Zq58 hb); replace BK376 := Aside0.mk (blkb_ BK376.out Zq52 hb); replace BK377 := Aside0.mk (blkb_ BK377.out Zq52 hb); replace BK382 := Aside0.mk (blk_below (g := gb382) (o := .cells #[.string a0_0, .bool a0_1, .int .i64 a0_2, .int .i64 a0_3, .string a0_4, .slice Ao91 y395.length co91] 24 (0, 0)) Zq57 hb); replace HB := Aside0.mk (below_step Zq55 hb); (try clear hb); (try clear hb2); (try clear hk); (try clear hi)))
           go_ret
           exact ⟨by first | rfl | (simp only [i64_w, i32_w]; rfl) | (simp [errW_none, errW_some] <;> rfl) | (simp [*, errW_none, errW_some] <;> rfl), by repeat (first | (with_reducible first | exact HB.out | apply below_alloc | apply pw_below_drewN | apply below_drew1 | refine below_set ?_ GE376.out | refine below_set ?_ GE377.out | refine below_set ?_ GE382.out) | exact HB.out)⟩
          ·rw [if_neg c78] at H
           exact absurd H (by simp)
         ·rw [if_neg c77] at H
          exact absurd H (by simp)
end Go.Proofs.YtfmhghlmljlfgaaGreatDoor.XTrS
