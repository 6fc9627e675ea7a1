-- Laid by extprint.py (the session's own driver): functions told by the kit's printer and by hand.
import Derived.Test.YtfmhghlmljlfgaaGreatDoorXTrSx0
namespace Go.Proofs.YtfmhghlmljlfgaaGreatDoor.XTrS
open Go.RowKit Gong Go.Proofs.YtfmhghlmljlfgaaGreatDoorW.PrintWords Go.Proofs.YtfmhghlmljlfgaaGreatDoorW.PrintLast Go.Proofs.YtfmhghlmljlfgaaGreatDoorW.PrintMore
attribute [local go_sem] max2_int min2_int max_two min_two max_three min_three max_four min_four   -- for this text's walks alone
set_option linter.unusedVariables false
set_option linter.unusedSimpArgs false
theorem growB_info : ∃ i, Tryz.prog.info? 40 = some i ∧ i.zero = some (.agg #[(.string ⟨#[]⟩), (.int .i64 0), (.int .i64 0), (.string ⟨#[]⟩)]) ∧ i.size = 4 ∧ i.bytes = 48 := by
 have h : (Tryz.prog.info? 40).map (fun i => (i.zero, i.size, i.bytes)) = some (some (.agg #[(.string ⟨#[]⟩), (.int .i64 0), (.int .i64 0), (.string ⟨#[]⟩)]), 4, 48) := by kernel_rfl
 obtain ⟨i, h1, h2⟩ := Option.map_eq_some_iff.1 h
 simp only [Prod.mk.injEq] at h2
 exact ⟨i, h1, h2.1, h2.2.1, h2.2.2⟩
set_option maxHeartbeats 4000000 in
set_option maxRecDepth 100000 in
theorem growB_nil (n : Nat) (hn : n < 2932031007402) (w : World) :
  Calls Tryz.prog 46 #[.slice none 0 0, .int .i64 n] w fun e w' => ∃ v0_ : Value, e = .returned (v0_) ∧ Kd.R k40 40 w' w.heap.size (fun _ => True) v0_ ([] : List S40) ∧ Below w.heap.size w w' := by
 obtain ⟨i, hi, hz, hs, hb⟩ := growB_info
 have HN := Aside0.mk hn
 have e1 : ((n : Int) < 0) = False := eq_false (by omega)
 have e2 : decide ((n : Int) < 0) = false := decide_eq_false (by omega)
 have e3 : wrap64 ((n : Int)) = n := by unfold wrap64; omega
 by_cases h0 : n = 0
 ·subst h0
  clear hi hz hs hb hn e1 e2 e3
  go_enter Tryz.func46, Tryz.ntmps46
  go_wp2
  go_ret
  exact ⟨_, rfl, Kd.R_nil _ _ _ _ _, Below.refl _ _⟩
 ·have e4 : ((0 : Int) < (n : Int)) = True := eq_true (by omega)
  have e5 : decide ((0 : Int) < (n : Int)) = true := decide_eq_true (by omega)
  have e6 : (0 < n) = True := eq_true (by omega)
  have hrun := Lib.run_append_nil_zeros (P := Tryz.prog) w 22 3 22 40 i _ .i64 .i64 Tryz.underlying22 Tryz.underlying3 hi hz n (by omega) (by omega) (by omega) (by rw [hb]; omega)
  have HRUN := Aside0.mk hrun
  clear hrun hn h0
  go_enter Tryz.func46, Tryz.ntmps46
  go_wp2_with ((with_reducible refine gate_builtin (b := .append) (xs := #[.tmp 20, .tmp 21]) rfl ?_); (try (refine gate_guard (by rfl) ?_; dsimp only)); at_builtin; refine Lib.wpList_append_run w rfl (.tmp 20) (.tmp 21) 22 3 rfl (.slice none 0 0) (.int .i64 n) ?h1 ?h2 _ _ HRUN.out ?_; (case h1 => first | rfl | (go_simp; done) | (go_simp; rfl)); (case h2 => first | rfl | (go_simp; done) | (go_simp; rfl)))
  go_ret
  refine ⟨_, rfl, ⟨fun _ _ => trivial, [], ⟨rfl, .inr ⟨w.heap.size, grownCap w n 0 40, _, rfl, Nat.le_refl _, blk_drew (heap_alloc_new w _), Nat.zero_le _, grownCap_le_maxLen w n 0 40 (by have := HN.out; unfold maxLen; omega), ?_, rfl⟩⟩, Reps.none _ _⟩, below_drew1 (below_alloc (Below.refl _ _) _)⟩
  have hge := grownCap_ge w n 0 40
  rw [Array.size_append, size_zeroCells, size_zeroCells]
  show n * 4 + (grownCap w n 0 40 - n) * 4 = grownCap w n 0 40 * 4
  omega
theorem concatB_info : (Tryz.prog.info? 40).map (fun i => (i.zero, i.size, i.bytes)) = some (some (.agg #[(.string ⟨#[]⟩), (.int .i64 0), (.int .i64 0), (.string ⟨#[]⟩)]), 4, 48) := by kernel_rfl
set_option maxHeartbeats 8000000 in
set_option maxRecDepth 100000 in
theorem concatB (A1 : Option Addr) (c1 : Nat) (l1 : List S40) (A2 : Option Addr) (c2 : Nat) (l2 : List S40) (g : Nat) (w : World) (hg : w.heap[g]? = some (.cells #[.slice A1 l1.length c1, .slice A2 l2.length c2] 22 (0, 0)))
  (h1 : Kd.C k40 w A1 l1.length l1) (h2 : Kd.C k40 w A2 l2.length l2) (hl : l1.length + l2.length < 2932031007402) :
  Calls Tryz.prog 31 #[.slice (some ⟨g, 0, none⟩) 2 2] w fun e w' => ∃ v0_ : Value, e = .returned (v0_) ∧ Kd.R k40 40 w' w.heap.size (fun _ => True) v0_ (l1 ++ l2) ∧ Below w.heap.size w w' := by
 have H1 := Aside0.mk h1
 have H2 := Aside0.mk h2
 have HL := Aside0.mk hl
 have HG := Aside0.mk hg
 have HB := Aside0.mk (Below.refl w.heap.size w)
 clear h1 h2 hl hg
 go_enter Tryz.func31, Tryz.ntmps31
 go_wp2
 go_loopg [3, 11] 4 (fun kq v3 v11 W => ∃ (j n : Nat), v11 = .int .i64 j ∧ v3 = .int .i64 n ∧ Aside0 (2 - j < kq) ∧ Aside0 ((j = 0 ∧ n = 0) ∨ (j = 1 ∧ n = l1.length) ∨ (j = 2 ∧ n = l1.length + l2.length)) ∧ Aside0 (Below w.heap.size w W))
 case atStart => exact ⟨0, 0, rfl, rfl, ⟨by omega⟩, ⟨.inl ⟨rfl, rfl⟩⟩, HB⟩
 case round =>
  clear HB
  obtain ⟨j, n, rfl, rfl, HQ, HJ, HB⟩ := hrel
  have HGw := Aside0.mk ((Mv.of_below (S := fun _ => False) HB.out).heap HG.out id)
  have x0 := (blk_cell HGw.out 0).trans rfl
  have x1 := (blk_cell HGw.out 1).trans rfl
  rcases HJ.out with ⟨rfl, rfl⟩ | ⟨rfl, rfl⟩ | ⟨rfl, rfl⟩
  ·have e1 : wrap64 ((l1.length : Int)) = l1.length := by have := HL.out; unfold wrap64; omega
   have e2 : ((l1.length : Int) < 0) = False := eq_false (by omega)
   have e3 : decide ((l1.length : Int) < 0) = false := decide_eq_false (by omega)
   go_wp2
   go_roundg 2
   case measure => have := HQ.out; omega
   case rel => exact ⟨1, l1.length, rfl, rfl, ⟨by omega⟩, ⟨.inr (.inl ⟨rfl, rfl⟩)⟩, HB⟩
  ·have e1 : wrap64 ((l1.length : Int) + (l2.length : Int)) = ((l1.length + l2.length : Nat) : Int) := by have := HL.out; unfold wrap64; omega
   have e2 : (((l1.length + l2.length : Nat) : Int) < 0) = False := eq_false (by omega)
   have e3 : decide (((l1.length + l2.length : Nat) : Int) < 0) = false := decide_eq_false (by omega)
   have e4 : (((l1.length : Int) + (l2.length : Int)) < 0) = False := eq_false (by omega)
   have e5 : decide (((l1.length : Int) + (l2.length : Int)) < 0) = false := decide_eq_false (by omega)
   go_wp2
   go_roundg 1
   case measure => have := HQ.out; omega
   case rel => exact ⟨2, l1.length + l2.length, rfl, by first | rfl | (simp; done) | (rw [← e1]), ⟨by omega⟩, ⟨.inr (.inr ⟨rfl, rfl⟩)⟩, HB⟩
  ·clear x0 x1
   go_wp2_with fail
   have AG := growB_nil (l1.length + l2.length) HL.out wr
   rw [show (((l1.length + l2.length : Nat)) : Int) = (l1.length : Int) + (l2.length : Int) from by simp] at AG
   refine AG.mono ?_
   rintro e w5 ⟨v6, rfl, hO, hb5⟩
   have HR := Aside0.mk (Kd.R_lower hO HB.out.size)
   have HB5 := Aside0.mk (Below.trans HB.out (Below.mono hb5 HB.out.size))
   clear AG hO hb5 HB HGw HQ HJ
   go_wp2
   go_loopg [6, 27] 4 (fun kq v6 v27 W => ∃ (j : Nat) (uv : Value) (acc : List S40), v27 = .int .i64 j ∧ v6 = uv ∧ Aside0 (2 - j < kq) ∧ Aside0 ((j = 0 ∧ acc = []) ∨ (j = 1 ∧ acc = l1) ∨ (j = 2 ∧ acc = l1 ++ l2)) ∧ Aside0 (Kd.R k40 40 W w.heap.size (fun _ => True) uv acc) ∧ Aside0 (Below w.heap.size w W))
   case atStart => exact ⟨0, _, [], rfl, rfl, ⟨by omega⟩, ⟨.inl ⟨rfl, rfl⟩⟩, HR, HB5⟩
   case round =>
    clear HR HB5
    obtain ⟨j, uv, acc, rfl, rfl, HQ, HJ, HR, HB⟩ := hrel
    have HGw := Aside0.mk ((Mv.of_below (S := fun _ => False) HB.out).heap HG.out id)
    have x0 := (blk_cell HGw.out 0).trans rfl
    have x1 := (blk_cell HGw.out 1).trans rfl
    rcases HJ.out with ⟨rfl, ha⟩ | ⟨rfl, ha⟩ | ⟨rfl, ha⟩
    ·have HR2 := Aside0.mk (show Kd.R k40 40 wr w.heap.size (fun _ => True) u6 [] by rw [← ha]; exact HR.out)
     have e9 : wrap64 (((0 : Nat) : Int) + 1) = ((1 : Nat) : Int) := by unfold wrap64; omega
     go_wp2_with ((with_reducible refine gate_builtin (b := .append) (xs := #[.tmp 31, .tmp 32]) rfl ?_); (try (refine gate_guard (by rfl) ?_; dsimp only)); at_builtin; refine Kd.R_append_rows k40 (w0 := w) w.heap.size rfl (.tmp 31) (.tmp 32) 22 40 (.agg #[(.string ⟨#[]⟩), (.int .i64 0), (.int .i64 0), (.string ⟨#[]⟩)]) 48 rfl Tryz.underlying22 concatB_info rfl (by decide) (by omega) u6 [] l1 _ _ _ (fun _ => True) (fun _ => False) rfl rfl ?aO ?aR (fun _ _ h => h) (fun _ h => h.elim) ?aF ?aB ?aS ?aL ?_; (case aR => exact Kd.C_below H1.out HB.out); (case aB => exact HB.out); (case aF => exact (fun _ _ => trivial)); (case aO => exact HR2.out); (case aS => exact HB.out.size); (case aL => have := HL.out; (try simp only [List.length_nil]); omega); intro v7 w7 ho7 hb7 hg7 hat7; have HR7 := Aside0.mk ho7; have HB7 := Aside0.mk hb7; clear ho7 hb7 hg7 hat7)
     go_roundg 2
     case measure => have := HQ.out; omega
     case rel => exact ⟨1, _, l1, rfl, rfl, ⟨by omega⟩, ⟨.inr (.inl ⟨rfl, rfl⟩)⟩, ⟨by first | exact HR7.out | (have := HR7.out; simpa using this)⟩, HB7⟩
    ·have HR2 := Aside0.mk (show Kd.R k40 40 wr w.heap.size (fun _ => True) u6 l1 by rw [← ha]; exact HR.out)
     have e9 : wrap64 (((1 : Nat) : Int) + 1) = ((2 : Nat) : Int) := by unfold wrap64; omega
     go_wp2_with ((with_reducible refine gate_builtin (b := .append) (xs := #[.tmp 31, .tmp 32]) rfl ?_); (try (refine gate_guard (by rfl) ?_; dsimp only)); at_builtin; refine Kd.R_append_rows k40 (w0 := w) w.heap.size rfl (.tmp 31) (.tmp 32) 22 40 (.agg #[(.string ⟨#[]⟩), (.int .i64 0), (.int .i64 0), (.string ⟨#[]⟩)]) 48 rfl Tryz.underlying22 concatB_info rfl (by decide) (by omega) u6 l1 l2 _ _ _ (fun _ => True) (fun _ => False) rfl rfl ?aO ?aR (fun _ _ h => h) (fun _ h => h.elim) ?aF ?aB ?aS ?aL ?_; (case aR => exact Kd.C_below H2.out HB.out); (case aB => exact HB.out); (case aF => exact (fun _ _ => trivial)); (case aO => exact HR2.out); (case aS => exact HB.out.size); (case aL => have := HL.out; (try simp only [List.length_nil]); omega); intro v7 w7 ho7 hb7 hg7 hat7; have HR7 := Aside0.mk ho7; have HB7 := Aside0.mk hb7; clear ho7 hb7 hg7 hat7)
     go_roundg 1
     case measure => have := HQ.out; omega
     case rel => exact ⟨2, _, (l1 ++ l2), rfl, rfl, ⟨by omega⟩, ⟨.inr (.inr ⟨rfl, rfl⟩)⟩, ⟨by first | exact HR7.out | (have := HR7.out; simpa using this)⟩, HB7⟩
    ·clear x0 x1
     go_wp2
     go_ret
     exact ⟨_, rfl, by rw [← ha]; exact HR.out, HB.out⟩
def trap_unit.up (n : Int) : S40 := ⟨⟨#[49, 46, 51, 46, 54, 46, 49, 46, 50, 46, 49, 46, 49, 46, 51, 46, 48]⟩, ⟨67, n, ⟨#[]⟩⟩⟩
def trap_unit.who (s : ByteArray) : S40 := ⟨⟨#[49, 46, 51, 46, 54, 46, 49, 46, 54, 46, 51, 46, 49, 46, 49, 46, 52, 46, 49, 46, 48]⟩, ⟨6, 0, s⟩⟩
def trap_unit.f (a0_0 : ByteArray) (a0_1 : Bool) (a0_2 a0_3 : Int) (a0_4 : ByteArray) (l : List S40) : Option (Int × Int × Int × Int × List S40) :=
 if 2 + l.length < 2932031007402 then some ((if a0_1 = true then 166 else 167), a0_2, 0, 0, [trap_unit.up a0_3, trap_unit.who a0_4] ++ l) else none
set_option maxHeartbeats 8000000 in
set_option maxRecDepth 100000 in
theorem trap_unit.calls (a0_0 : ByteArray) (a0_1 : Bool) (a0_2 : Int) (a0_3 : Int) (a0_4 : ByteArray) (A0_5 : Option Addr) (c0_5 : Nat) (l0_5 : List (S40)) (r1 : Int) (r2 : Int) (r3 : Int) (r4 : Int) (r5 : List (S40)) (w : World) (hr0_5 : Kd.C k40 w A0_5 l0_5.length l0_5) (hc0_5 : l0_5.length ≤ c0_5) (h : trap_unit.f a0_0 a0_1 a0_2 a0_3 a0_4 l0_5 = some (r1, r2, r3, r4, r5)) :
  Calls Tryz.prog 17 #[.agg #[.string a0_0, .bool a0_1, .int .i64 a0_2, .int .i64 a0_3, .string a0_4, .slice A0_5 l0_5.length c0_5]] w fun e w' => ∃ v4_ : Value, e = .returned (.agg #[.int .i64 r1, .int .i64 r2, .int .i64 r3, .int .i64 r4, v4_]) ∧ Kd.R k40 40 w' w.heap.size (fun _ => True) v4_ r5 ∧ Below w.heap.size w w' := by
 unfold trap_unit.f at h
 by_cases hl : 2 + l0_5.length < 2932031007402
 case neg => rw [if_neg hl] at h; exact absurd h (by simp)
 rw [if_pos hl] at h
 simp only [Option.some.injEq, Prod.mk.injEq] at h
 obtain ⟨q1, rfl, rfl, rfl, rfl⟩ := h
 have HL := Aside0.mk hl
 have HR0 := Aside0.mk hr0_5
 have HC0 := Aside0.mk hc0_5
 have HQ := Aside0.mk q1
 clear hl hr0_5 hc0_5 q1
 go_enter Tryz.func17, Tryz.ntmps17
 go_upto_region 2 with (fail)
 obtain ⟨w1, hw1⟩ : ∃ w1, w1 = ((w.alloc (.cells #[.string a0_0, .bool a0_1, .int .i64 a0_2, .int .i64 a0_3, .string a0_4, .slice A0_5 l0_5.length c0_5] 24)).alloc (.cells #[.int .i64 0, .int .i64 0, .int .i64 0, .int .i64 0, .slice none 0 0] 43)).alloc (.cells #[.int .i64 167, .int .i64 a0_2, .int .i64 0, .int .i64 0, .slice none 0 0] 43) := ⟨_, rfl⟩
 have hb1 : Below w.heap.size w w1 := by rw [hw1]; exact below_alloc (below_alloc (below_alloc (Below.refl _ _) _) _) _
 have hx1 : w1.heap[w.heap.size]? = some (.cells #[.string a0_0, .bool a0_1, .int .i64 a0_2, .int .i64 a0_3, .string a0_4, .slice A0_5 l0_5.length c0_5] 24 (0, 0)) := by rw [hw1]; exact blk_alloc (blk_alloc (heap_alloc_new w _) _) _
 have hx2 : w1.heap[w.heap.size + 1]? = some (.cells #[.int .i64 0, .int .i64 0, .int .i64 0, .int .i64 0, .slice none 0 0] 43 (0, 0)) := by
  rw [hw1]
  have := heap_alloc_new (w.alloc (.cells #[.string a0_0, .bool a0_1, .int .i64 a0_2, .int .i64 a0_3, .string a0_4, .slice A0_5 l0_5.length c0_5] 24)) (.cells #[.int .i64 0, .int .i64 0, .int .i64 0, .int .i64 0, .slice none 0 0] 43)
  exact blk_alloc (by simpa using this) _
 have hx3 : w1.heap[w.heap.size + 1 + 1]? = some (.cells #[.int .i64 167, .int .i64 a0_2, .int .i64 0, .int .i64 0, .slice none 0 0] 43 (0, 0)) := by
  rw [hw1]
  have := heap_alloc_new ((w.alloc (.cells #[.string a0_0, .bool a0_1, .int .i64 a0_2, .int .i64 a0_3, .string a0_4, .slice A0_5 l0_5.length c0_5] 24)).alloc (.cells #[.int .i64 0, .int .i64 0, .int .i64 0, .int .i64 0, .slice none 0 0] 43)) (.cells #[.int .i64 167, .int .i64 a0_2, .int .i64 0, .int .i64 0, .slice none 0 0] 43)
  simpa using this
 rw [← hw1]
 obtain ⟨b1, e1⟩ : ∃ b1, b1 = w.heap.size := ⟨_, rfl⟩
 obtain ⟨b2, e2⟩ : ∃ b2, b2 = w.heap.size + 1 := ⟨_, rfl⟩
 obtain ⟨b3, e3⟩ : ∃ b3, b3 = w.heap.size + 1 + 1 := ⟨_, rfl⟩
 rw [← e1] at hx1
 rw [← e2] at hx2
 rw [← e3] at hx3
 rw [← e3, ← e2, ← e1]
 have HN := Aside0.mk (show w.heap.size ≤ b1 ∧ w.heap.size ≤ b2 ∧ w.heap.size ≤ b3 ∧ b1 ≠ b3 ∧ b2 ≠ b3 by omega)
 have HX1 := Aside0.mk hx1
 have HX2 := Aside0.mk hx2
 have HX3 := Aside0.mk hx3
 have HB1 := Aside0.mk hb1
 clear hw1 hb1 hx1 hx2 hx3 e1 e2 e3
 cases a0_1 with
 | false =>
  have x0 := (blk_cell HX1.out 1).trans rfl
  go_upto_region 4 with (fail)
  clear x0
  have x3 := (blk_cell HX1.out 3).trans rfl
  go_upto_region 5 with (fail)
  obtain ⟨w3, hw3⟩ : ∃ w3, w3 = w1.alloc (.cells #[.string ⟨#[49, 46, 51, 46, 54, 46, 49, 46, 50, 46, 49, 46, 49, 46, 51, 46, 48]⟩, .int .i64 67, .int .i64 a0_3, .string ⟨#[]⟩] 40) := ⟨_, rfl⟩
  obtain ⟨b4, e4⟩ : ∃ b4, b4 = w1.heap.size := ⟨_, rfl⟩
  have hb3 : Below w1.heap.size w1 w3 := by rw [hw3]; exact below_alloc (Below.refl _ _) _
  have HX4 := Aside0.mk (show w3.heap[b4]? = some (.cells #[.string ⟨#[49, 46, 51, 46, 54, 46, 49, 46, 50, 46, 49, 46, 49, 46, 51, 46, 48]⟩, .int .i64 67, .int .i64 a0_3, .string ⟨#[]⟩] 40 (0, 0)) by rw [hw3, e4]; exact heap_alloc_new w1 _)
  rw [← hw3, ← e4]
  have Y1 := Aside0.mk ((Mv.of_below (S := fun _ => False) hb3).heap HX1.out id)
  have Y2 := Aside0.mk ((Mv.of_below (S := fun _ => False) hb3).heap HX2.out id)
  have Y3 := Aside0.mk ((Mv.of_below (S := fun _ => False) hb3).heap HX3.out id)
  have HB3 := Aside0.mk (Below.trans HB1.out (Below.mono hb3 HB1.out.size))
  clear hw3 e4 hb3 x3
  have x4 := (blk_cell Y1.out 4).trans rfl
  go_upto_region 6 with (fail)
  obtain ⟨w4, hw4⟩ : ∃ w4, w4 = w3.alloc (.cells #[.string ⟨#[49, 46, 51, 46, 54, 46, 49, 46, 54, 46, 51, 46, 49, 46, 49, 46, 52, 46, 49, 46, 48]⟩, .int .i64 6, .int .i64 0, .string a0_4] 40) := ⟨_, rfl⟩
  obtain ⟨b5, e5⟩ : ∃ b5, b5 = w3.heap.size := ⟨_, rfl⟩
  have hb4 : Below w3.heap.size w3 w4 := by rw [hw4]; exact below_alloc (Below.refl _ _) _
  have HX5 := Aside0.mk (show w4.heap[b5]? = some (.cells #[.string ⟨#[49, 46, 51, 46, 54, 46, 49, 46, 54, 46, 51, 46, 49, 46, 49, 46, 52, 46, 49, 46, 48]⟩, .int .i64 6, .int .i64 0, .string a0_4] 40 (0, 0)) by rw [hw4, e5]; exact heap_alloc_new w3 _)
  rw [← hw4, ← e5]
  have Z4 := Aside0.mk ((Mv.of_below (S := fun _ => False) hb4).heap HX4.out id)
  have Z1 := Aside0.mk ((Mv.of_below (S := fun _ => False) hb4).heap Y1.out id)
  have Z2 := Aside0.mk ((Mv.of_below (S := fun _ => False) hb4).heap Y2.out id)
  have Z3 := Aside0.mk ((Mv.of_below (S := fun _ => False) hb4).heap Y3.out id)
  have HB4 := Aside0.mk (Below.trans HB3.out (Below.mono hb4 HB3.out.size))
  clear hw4 e5 hb4 x4 Y1 Y2 Y3 HX4 HB3
  have u0 := (blk_cell Z4.out 0).trans rfl
  have u1 := (blk_cell Z4.out 1).trans rfl
  have u2 := (blk_cell Z4.out 2).trans rfl
  have u3 := (blk_cell Z4.out 3).trans rfl
  have v0 := (blk_cell HX5.out 0).trans rfl
  have v1 := (blk_cell HX5.out 1).trans rfl
  have v2 := (blk_cell HX5.out 2).trans rfl
  have v3 := (blk_cell HX5.out 3).trans rfl
  go_wp2_with ((with_reducible refine gate_dst (N := 22) rfl ?_); (try (refine gate_guard (by rfl) ?_; dsimp only)); refine Kd.R_lit k40 _ 40 ?hg (N := 22) ?hd (xs := [trap_unit.up a0_3, trap_unit.who a0_4]) (inner := [.string ⟨#[49, 46, 51, 46, 54, 46, 49, 46, 50, 46, 49, 46, 49, 46, 51, 46, 48]⟩, .int .i64 67, .int .i64 a0_3, .string ⟨#[]⟩, .string ⟨#[49, 46, 51, 46, 54, 46, 49, 46, 54, 46, 51, 46, 49, 46, 49, 46, 52, 46, 49, 46, 48]⟩, .int .i64 6, .int .i64 0, .string a0_4]) (ok := fun _ => True) (okp := fun _ => True) ?hr ?hp (fun _ hk => hk) trivial (Below.refl _ _) (Nat.le_refl _) (by simp) ?_; (case hd => rfl); (case hg => rfl); (case hr => exact Zq2); (case hp => exact (((Reps.none _ _).snoc (k40_mkM _ _ _ (trap_unit.up a0_3)) rfl).snoc (k40_mkM _ _ _ (trap_unit.who a0_4)) rfl)); intro v22 w5 ho5 hb5 hg5 hnew5; obtain ⟨A22, c22, rfl⟩ := Kd.R_slice ho5; have HO5 := Aside0.mk ho5; have HB5 := Aside0.mk (Below.trans HB4.out (Below.mono hb5 HB4.out.size)); have V1 := Aside0.mk ((Mv.of_below (S := fun _ => False) hb5).heap Z1.out id); have V2 := Aside0.mk ((Mv.of_below (S := fun _ => False) hb5).heap Z2.out id); have V3 := Aside0.mk ((Mv.of_below (S := fun _ => False) hb5).heap Z3.out id); clear ho5 hb5 hg5 hnew5 u0 u1 u2 u3 v0 v1 v2 v3 Z1 Z2 Z3 Z4 HX5; have x5 := (blk_cell V1.out 5).trans rfl)
  obtain ⟨w6, hw6⟩ : ∃ w6, w6 = w5.alloc (.cells #[.slice A22 2 c22, .slice A0_5 l0_5.length c0_5] 22) := ⟨_, rfl⟩
  have hb6 : Below w5.heap.size w5 w6 := by rw [hw6]; exact below_alloc (Below.refl _ _) _
  have hg6 : w6.heap[w5.heap.size]? = some (.cells #[.slice A22 2 c22, .slice A0_5 l0_5.length c0_5] 22 (0, 0)) := by rw [hw6]; exact heap_alloc_new w5 _
  have HB6 := Aside0.mk (Below.trans HB5.out (Below.mono hb6 HB5.out.size))
  rw [← hw6]
  have AC := concatB A22 c22 [trap_unit.up a0_3, trap_unit.who a0_4] A0_5 c0_5 l0_5 w5.heap.size w6 hg6 (Kd.C_below (Kd.R_reads' HO5.out).2.2 hb6) (Kd.C_below HR0.out HB6.out) (by have := HL.out; simp; omega)
  refine AC.mono ?_
  rintro e w7 ⟨v26, rfl, hO7, hb7⟩
  have hb57 := Below.trans hb6 (Below.mono hb7 hb6.size)
  have U2 := Aside0.mk ((Mv.of_below (S := fun _ => False) hb57).heap V2.out id)
  have U3 := Aside0.mk ((Mv.of_below (S := fun _ => False) hb57).heap V3.out id)
  have HB7 := Aside0.mk (Below.trans HB5.out (Below.mono hb57 HB5.out.size))
  obtain ⟨l6, hl6⟩ : ∃ l6, l6 = [trap_unit.up a0_3, trap_unit.who a0_4] ++ l0_5 := ⟨_, rfl⟩
  rw [← hl6] at hO7
  have HL6 := Aside0.mk hl6.symm
  have HO7 := Aside0.mk (Kd.R_lower hO7 HB6.out.size)
  obtain ⟨A26, c26, rfl⟩ := Kd.R_slice HO7.out
  clear AC hO7 hb7 hb57 hg6 hb6 hw6 x5 V1 V2 V3 HB5 HB6 HO5 hl6
  have y4 := blk_frozen U3.out 4
  have x4 := (blk_cell U3.out 4).trans rfl
  go_upto_region 7 with (fail)
  obtain ⟨w8, hw8⟩ : ∃ w8, w8 = w7.setCell ⟨b3, 4, none⟩ (.slice A26 l6.length c26) := ⟨_, rfl⟩
  have T3 := Aside0.mk (show w8.heap[b3]? = some (.cells #[.int .i64 167, .int .i64 a0_2, .int .i64 0, .int .i64 0, .slice A26 l6.length c26] 43 (0, 0)) by rw [hw8]; exact blk_put (cs := #[.int .i64 167, .int .i64 a0_2, .int .i64 0, .int .i64 0, .slice none 0 0]) U3.out 4 _ rfl)
  have T2 := Aside0.mk (show w8.heap[b2]? = some (.cells #[.int .i64 0, .int .i64 0, .int .i64 0, .int .i64 0, .slice none 0 0] 43 (0, 0)) by rw [hw8]; exact blk_far U2.out HN.out.2.2.2.2 _)
  have HO8 := Aside0.mk (show Kd.R k40 40 w8 w.heap.size (fun _ => True) (.slice A26 l6.length c26) l6 by rw [hw8]; exact Kd.R_set HO7.out U3.out (by decide) 4 _)
  have HB8 := Aside0.mk (show Below w.heap.size w w8 by rw [hw8]; exact below_set HB7.out HN.out.2.2.1)
  rw [← hw8]
  clear hw8 x4 y4 U2 U3 HO7 HB7
  have x0 := (blk_cell T3.out 0).trans rfl
  have z0 := (blk_cell T2.out 0).trans rfl
  have y0 := blk_frozen T2.out 0
  have x1 := (blk_cell T3.out 1).trans rfl
  have z1 := (blk_cell T2.out 1).trans rfl
  have y1 := blk_frozen T2.out 1
  have x2 := (blk_cell T3.out 2).trans rfl
  have z2 := (blk_cell T2.out 2).trans rfl
  have y2 := blk_frozen T2.out 2
  have x3 := (blk_cell T3.out 3).trans rfl
  have z3 := (blk_cell T2.out 3).trans rfl
  have y3 := blk_frozen T2.out 3
  have x4 := (blk_cell T3.out 4).trans rfl
  have z4 := (blk_cell T2.out 4).trans rfl
  have y4 := blk_frozen T2.out 4
  go_wp2
  refine bodyPost_ret (results_cell_row rfl _ _ b2 43 #[.int .i64 167, .int .i64 a0_2, .int .i64 0, .int .i64 0, .slice A26 l6.length c26] (0, 0) _ rfl (by
   refine blk_put (cs := #[.int .i64 167, .int .i64 a0_2, .int .i64 0, .int .i64 0, .slice none 0 0]) ?_ 4 _ rfl
   refine blk_put (cs := #[.int .i64 167, .int .i64 a0_2, .int .i64 0, .int .i64 0, .slice none 0 0]) ?_ 3 _ rfl
   refine blk_put (cs := #[.int .i64 167, .int .i64 a0_2, .int .i64 0, .int .i64 0, .slice none 0 0]) ?_ 2 _ rfl
   refine blk_put (cs := #[.int .i64 167, .int .i64 0, .int .i64 0, .int .i64 0, .slice none 0 0]) ?_ 1 _ rfl
   refine blk_put (cs := #[.int .i64 0, .int .i64 0, .int .i64 0, .int .i64 0, .slice none 0 0]) ?_ 0 _ rfl
   exact T2.out) Tryz.underlying43 rfl (by kernel_rfl)) rfl ?_
  refine ⟨.slice A26 l6.length c26, by rw [show r1 = 167 from HQ.out.symm], ?_, below_set (below_set (below_set (below_set (below_set HB8.out HN.out.2.1) HN.out.2.1) HN.out.2.1) HN.out.2.1) HN.out.2.1⟩
  rw [show trap_unit.up a0_3 :: trap_unit.who a0_4 :: l0_5 = l6 from HL6.out]
  exact Kd.R_mono (Kd.R_kept (Kd.R_types HO8.out T2.out (by decide)) ((((((Kept.refl _ (fun q => q = b2)).setCell (.inl rfl) _).setCell (.inl rfl) _).setCell (.inl rfl) _).setCell (.inl rfl) _).setCell (.inl rfl) _) (fun q hq => hq.2)) (fun _ _ => trivial)
 | true =>
  have x0 := (blk_cell HX1.out 1).trans rfl
  have y0 := blk_frozen HX3.out 0
  have y1 := (blk_cell HX3.out 0).trans rfl
  go_upto_region 4 with (fail)
  clear x0 y0 y1
  obtain ⟨w2, hw2⟩ : ∃ w2, w2 = w1.setCell ⟨b3, 0, none⟩ (.int .i64 166) := ⟨_, rfl⟩
  have KX3 := Aside0.mk (show w2.heap[b3]? = some (.cells #[.int .i64 166, .int .i64 a0_2, .int .i64 0, .int .i64 0, .slice none 0 0] 43 (0, 0)) by rw [hw2]; exact blk_put (cs := #[.int .i64 167, .int .i64 a0_2, .int .i64 0, .int .i64 0, .slice none 0 0]) HX3.out 0 _ rfl)
  have KX1 := Aside0.mk (show w2.heap[b1]? = some (.cells #[.string a0_0, .bool true, .int .i64 a0_2, .int .i64 a0_3, .string a0_4, .slice A0_5 l0_5.length c0_5] 24 (0, 0)) by rw [hw2]; exact blk_far HX1.out HN.out.2.2.2.1 _)
  have KX2 := Aside0.mk (show w2.heap[b2]? = some (.cells #[.int .i64 0, .int .i64 0, .int .i64 0, .int .i64 0, .slice none 0 0] 43 (0, 0)) by rw [hw2]; exact blk_far HX2.out HN.out.2.2.2.2 _)
  have KB1 := Aside0.mk (show Below w.heap.size w w2 by rw [hw2]; exact below_set HB1.out HN.out.2.2.1)
  rw [← hw2]
  clear hw2 HX1 HX2 HX3 HB1
  have x3 := (blk_cell KX1.out 3).trans rfl
  go_upto_region 5 with (fail)
  obtain ⟨w3, hw3⟩ : ∃ w3, w3 = w2.alloc (.cells #[.string ⟨#[49, 46, 51, 46, 54, 46, 49, 46, 50, 46, 49, 46, 49, 46, 51, 46, 48]⟩, .int .i64 67, .int .i64 a0_3, .string ⟨#[]⟩] 40) := ⟨_, rfl⟩
  obtain ⟨b4, e4⟩ : ∃ b4, b4 = w2.heap.size := ⟨_, rfl⟩
  have hb3 : Below w2.heap.size w2 w3 := by rw [hw3]; exact below_alloc (Below.refl _ _) _
  have HX4 := Aside0.mk (show w3.heap[b4]? = some (.cells #[.string ⟨#[49, 46, 51, 46, 54, 46, 49, 46, 50, 46, 49, 46, 49, 46, 51, 46, 48]⟩, .int .i64 67, .int .i64 a0_3, .string ⟨#[]⟩] 40 (0, 0)) by rw [hw3, e4]; exact heap_alloc_new w2 _)
  rw [← hw3, ← e4]
  have Y1 := Aside0.mk ((Mv.of_below (S := fun _ => False) hb3).heap KX1.out id)
  have Y2 := Aside0.mk ((Mv.of_below (S := fun _ => False) hb3).heap KX2.out id)
  have Y3 := Aside0.mk ((Mv.of_below (S := fun _ => False) hb3).heap KX3.out id)
  have HB3 := Aside0.mk (Below.trans KB1.out (Below.mono hb3 KB1.out.size))
  clear hw3 e4 hb3 x3
  have x4 := (blk_cell Y1.out 4).trans rfl
  go_upto_region 6 with (fail)
  obtain ⟨w4, hw4⟩ : ∃ w4, w4 = w3.alloc (.cells #[.string ⟨#[49, 46, 51, 46, 54, 46, 49, 46, 54, 46, 51, 46, 49, 46, 49, 46, 52, 46, 49, 46, 48]⟩, .int .i64 6, .int .i64 0, .string a0_4] 40) := ⟨_, rfl⟩
  obtain ⟨b5, e5⟩ : ∃ b5, b5 = w3.heap.size := ⟨_, rfl⟩
  have hb4 : Below w3.heap.size w3 w4 := by rw [hw4]; exact below_alloc (Below.refl _ _) _
  have HX5 := Aside0.mk (show w4.heap[b5]? = some (.cells #[.string ⟨#[49, 46, 51, 46, 54, 46, 49, 46, 54, 46, 51, 46, 49, 46, 49, 46, 52, 46, 49, 46, 48]⟩, .int .i64 6, .int .i64 0, .string a0_4] 40 (0, 0)) by rw [hw4, e5]; exact heap_alloc_new w3 _)
  rw [← hw4, ← e5]
  have Z4 := Aside0.mk ((Mv.of_below (S := fun _ => False) hb4).heap HX4.out id)
  have Z1 := Aside0.mk ((Mv.of_below (S := fun _ => False) hb4).heap Y1.out id)
  have Z2 := Aside0.mk ((Mv.of_below (S := fun _ => False) hb4).heap Y2.out id)
  have Z3 := Aside0.mk ((Mv.of_below (S := fun _ => False) hb4).heap Y3.out id)
  have HB4 := Aside0.mk (Below.trans HB3.out (Below.mono hb4 HB3.out.size))
  clear hw4 e5 hb4 x4 Y1 Y2 Y3 HX4 HB3
  have u0 := (blk_cell Z4.out 0).trans rfl
  have u1 := (blk_cell Z4.out 1).trans rfl
  have u2 := (blk_cell Z4.out 2).trans rfl
  have u3 := (blk_cell Z4.out 3).trans rfl
  have v0 := (blk_cell HX5.out 0).trans rfl
  have v1 := (blk_cell HX5.out 1).trans rfl
  have v2 := (blk_cell HX5.out 2).trans rfl
  have v3 := (blk_cell HX5.out 3).trans rfl
  go_wp2_with ((with_reducible refine gate_dst (N := 22) rfl ?_); (try (refine gate_guard (by rfl) ?_; dsimp only)); refine Kd.R_lit k40 _ 40 ?hg (N := 22) ?hd (xs := [trap_unit.up a0_3, trap_unit.who a0_4]) (inner := [.string ⟨#[49, 46, 51, 46, 54, 46, 49, 46, 50, 46, 49, 46, 49, 46, 51, 46, 48]⟩, .int .i64 67, .int .i64 a0_3, .string ⟨#[]⟩, .string ⟨#[49, 46, 51, 46, 54, 46, 49, 46, 54, 46, 51, 46, 49, 46, 49, 46, 52, 46, 49, 46, 48]⟩, .int .i64 6, .int .i64 0, .string a0_4]) (ok := fun _ => True) (okp := fun _ => True) ?hr ?hp (fun _ hk => hk) trivial (Below.refl _ _) (Nat.le_refl _) (by simp) ?_; (case hd => rfl); (case hg => rfl); (case hr => exact Zq2); (case hp => exact (((Reps.none _ _).snoc (k40_mkM _ _ _ (trap_unit.up a0_3)) rfl).snoc (k40_mkM _ _ _ (trap_unit.who a0_4)) rfl)); intro v22 w5 ho5 hb5 hg5 hnew5; obtain ⟨A22, c22, rfl⟩ := Kd.R_slice ho5; have HO5 := Aside0.mk ho5; have HB5 := Aside0.mk (Below.trans HB4.out (Below.mono hb5 HB4.out.size)); have V1 := Aside0.mk ((Mv.of_below (S := fun _ => False) hb5).heap Z1.out id); have V2 := Aside0.mk ((Mv.of_below (S := fun _ => False) hb5).heap Z2.out id); have V3 := Aside0.mk ((Mv.of_below (S := fun _ => False) hb5).heap Z3.out id); clear ho5 hb5 hg5 hnew5 u0 u1 u2 u3 v0 v1 v2 v3 Z1 Z2 Z3 Z4 HX5; have x5 := (blk_cell V1.out 5).trans rfl)
  obtain ⟨w6, hw6⟩ : ∃ w6, w6 = w5.alloc (.cells #[.slice A22 2 c22, .slice A0_5 l0_5.length c0_5] 22) := ⟨_, rfl⟩
  have hb6 : Below w5.heap.size w5 w6 := by rw [hw6]; exact below_alloc (Below.refl _ _) _
  have hg6 : w6.heap[w5.heap.size]? = some (.cells #[.slice A22 2 c22, .slice A0_5 l0_5.length c0_5] 22 (0, 0)) := by rw [hw6]; exact heap_alloc_new w5 _
  have HB6 := Aside0.mk (Below.trans HB5.out (Below.mono hb6 HB5.out.size))
  rw [← hw6]
  have AC := concatB A22 c22 [trap_unit.up a0_3, trap_unit.who a0_4] A0_5 c0_5 l0_5 w5.heap.size w6 hg6 (Kd.C_below (Kd.R_reads' HO5.out).2.2 hb6) (Kd.C_below HR0.out HB6.out) (by have := HL.out; simp; omega)
  refine AC.mono ?_
  rintro e w7 ⟨v26, rfl, hO7, hb7⟩
  have hb57 := Below.trans hb6 (Below.mono hb7 hb6.size)
  have U2 := Aside0.mk ((Mv.of_below (S := fun _ => False) hb57).heap V2.out id)
  have U3 := Aside0.mk ((Mv.of_below (S := fun _ => False) hb57).heap V3.out id)
  have HB7 := Aside0.mk (Below.trans HB5.out (Below.mono hb57 HB5.out.size))
  obtain ⟨l6, hl6⟩ : ∃ l6, l6 = [trap_unit.up a0_3, trap_unit.who a0_4] ++ l0_5 := ⟨_, rfl⟩
  rw [← hl6] at hO7
  have HL6 := Aside0.mk hl6.symm
  have HO7 := Aside0.mk (Kd.R_lower hO7 HB6.out.size)
  obtain ⟨A26, c26, rfl⟩ := Kd.R_slice HO7.out
  clear AC hO7 hb7 hb57 hg6 hb6 hw6 x5 V1 V2 V3 HB5 HB6 HO5 hl6
  have y4 := blk_frozen U3.out 4
  have x4 := (blk_cell U3.out 4).trans rfl
  go_upto_region 7 with (fail)
  obtain ⟨w8, hw8⟩ : ∃ w8, w8 = w7.setCell ⟨b3, 4, none⟩ (.slice A26 l6.length c26) := ⟨_, rfl⟩
  have T3 := Aside0.mk (show w8.heap[b3]? = some (.cells #[.int .i64 166, .int .i64 a0_2, .int .i64 0, .int .i64 0, .slice A26 l6.length c26] 43 (0, 0)) by rw [hw8]; exact blk_put (cs := #[.int .i64 166, .int .i64 a0_2, .int .i64 0, .int .i64 0, .slice none 0 0]) U3.out 4 _ rfl)
  have T2 := Aside0.mk (show w8.heap[b2]? = some (.cells #[.int .i64 0, .int .i64 0, .int .i64 0, .int .i64 0, .slice none 0 0] 43 (0, 0)) by rw [hw8]; exact blk_far U2.out HN.out.2.2.2.2 _)
  have HO8 := Aside0.mk (show Kd.R k40 40 w8 w.heap.size (fun _ => True) (.slice A26 l6.length c26) l6 by rw [hw8]; exact Kd.R_set HO7.out U3.out (by decide) 4 _)
  have HB8 := Aside0.mk (show Below w.heap.size w w8 by rw [hw8]; exact below_set HB7.out HN.out.2.2.1)
  rw [← hw8]
  clear hw8 x4 y4 U2 U3 HO7 HB7
  have x0 := (blk_cell T3.out 0).trans rfl
  have z0 := (blk_cell T2.out 0).trans rfl
  have y0 := blk_frozen T2.out 0
  have x1 := (blk_cell T3.out 1).trans rfl
  have z1 := (blk_cell T2.out 1).trans rfl
  have y1 := blk_frozen T2.out 1
  have x2 := (blk_cell T3.out 2).trans rfl
  have z2 := (blk_cell T2.out 2).trans rfl
  have y2 := blk_frozen T2.out 2
  have x3 := (blk_cell T3.out 3).trans rfl
  have z3 := (blk_cell T2.out 3).trans rfl
  have y3 := blk_frozen T2.out 3
  have x4 := (blk_cell T3.out 4).trans rfl
  have z4 := (blk_cell T2.out 4).trans rfl
  have y4 := blk_frozen T2.out 4
  go_wp2
  refine bodyPost_ret (results_cell_row rfl _ _ b2 43 #[.int .i64 166, .int .i64 a0_2, .int .i64 0, .int .i64 0, .slice A26 l6.length c26] (0, 0) _ rfl (by
   refine blk_put (cs := #[.int .i64 166, .int .i64 a0_2, .int .i64 0, .int .i64 0, .slice none 0 0]) ?_ 4 _ rfl
   refine blk_put (cs := #[.int .i64 166, .int .i64 a0_2, .int .i64 0, .int .i64 0, .slice none 0 0]) ?_ 3 _ rfl
   refine blk_put (cs := #[.int .i64 166, .int .i64 a0_2, .int .i64 0, .int .i64 0, .slice none 0 0]) ?_ 2 _ rfl
   refine blk_put (cs := #[.int .i64 166, .int .i64 0, .int .i64 0, .int .i64 0, .slice none 0 0]) ?_ 1 _ rfl
   refine blk_put (cs := #[.int .i64 0, .int .i64 0, .int .i64 0, .int .i64 0, .slice none 0 0]) ?_ 0 _ rfl
   exact T2.out) Tryz.underlying43 rfl (by kernel_rfl)) rfl ?_
  refine ⟨.slice A26 l6.length c26, by rw [show r1 = 166 from HQ.out.symm], ?_, below_set (below_set (below_set (below_set (below_set HB8.out HN.out.2.1) HN.out.2.1) HN.out.2.1) HN.out.2.1) HN.out.2.1⟩
  rw [show trap_unit.up a0_3 :: trap_unit.who a0_4 :: l0_5 = l6 from HL6.out]
  exact Kd.R_mono (Kd.R_kept (Kd.R_types HO8.out T2.out (by decide)) ((((((Kept.refl _ (fun q => q = b2)).setCell (.inl rfl) _).setCell (.inl rfl) _).setCell (.inl rfl) _).setCell (.inl rfl) _).setCell (.inl rfl) _) (fun q hq => hq.2)) (fun _ _ => trivial)
def pdu_within.f (a0 : Int) (a1 : Int) : Option (Bool) := if a0 ≥ a1 then (some (decide (a0 ≤ 2147483647))) else (some false)
set_option maxHeartbeats 8000000 in
set_option maxRecDepth 100000 in
theorem pdu_within.calls (a0 : Int) (a1 : Int) (r : Bool) (w : World) (h : pdu_within.f a0 a1 = some r) :
  Calls Tryz.prog 32 #[.int .i64 a0, .int .i64 a1] w fun e w' => e = .returned (.bool r) ∧ Drawn0 w w' := by
 have H : (if a0 ≥ a1 then (some (decide (a0 ≤ 2147483647))) else (some false)) = some r := h
 clear h
 by_cases c3 : a0 ≥ a1
 ·rw [if_pos c3] at H
  have c3b0 : decide (a1 ≤ a0) = true := decide_eq_true c3
  clear c3
  obtain rfl := Option.some.inj H
  go_enter Tryz.func32, Tryz.ntmps32
  go_wp2
  go_ret
  exact ⟨Zy75, Zy70⟩
 rw [if_neg c3] at H
 have c3b0 : decide (a1 ≤ a0) = false := decide_eq_false c3
 clear c3
 obtain rfl := Option.some.inj H
 go_enter Tryz.func32, Tryz.ntmps32
 go_wp2
 go_ret
 exact ⟨Zy75, Zy70⟩
def strings_Count.f (a0 a1 : ByteArray) : Option Int := match a1.data.toList with
 | [c] => some (Lib.countByte a0.data.toList c : Nat)
 | _ => none
theorem strings_Count.calls (a0 a1 : ByteArray) (r : Int) (w : World) (h : strings_Count.f a0 a1 = some r) :
  Calls Tryz.prog 60 #[.string a0, .string a1] w fun e w' => e = .returned (.int .i64 r) ∧ Drawn0 w w' := by
 unfold strings_Count.f at h
 split at h
 ·rename_i c hc
  obtain rfl := Option.some.inj h
  have e : a1 = ⟨#[c]⟩ := by
   rcases a1 with ⟨⟨l⟩⟩
   simp at hc
   rw [hc]
  rw [e]
  refine (Tryz.strings_Count_one a0 c w).mono ?_
  rintro e w' ⟨rfl, rfl⟩
  exact ⟨rfl, Drawn0.refl _⟩
 ·cases h
def strings_Split.f (a0 a1 : ByteArray) : Option (List ByteArray) :=
 if a0.size < 4294967281 ∧ 1 ≤ a1.size then some (Lib.splitB a1 0 (Lib.countB a0 a1) a0) else none
theorem strs_new (w : World) (l : List ByteArray) (hl : l.length ≤ 9223372036854775807) : Kd.R Kd.string 9 (w.alloc (.cells (l.map Value.string).toArray 9)) w.heap.size (fun _ => True) (.slice (some ⟨w.heap.size, 0, none⟩) l.length l.length) l := by
 refine Kd.R_of_own (enc := Value.string) (h1 := fun _ => rfl) ⟨by simp [encs], .inr ⟨w.heap.size, l.length, (l.map Value.string).toArray, rfl, Nat.le_refl _, heap_alloc_new w _, Nat.le_refl _, by unfold maxLen; omega, by simp, ?_⟩⟩ (fun _ _ => trivial)
 simp [encs, List.take_of_length_le]
theorem strings_Split.calls (a0 a1 : ByteArray) (r : List ByteArray) (w : World) (hG : Gl w) (h : strings_Split.f a0 a1 = some r) :
  Calls Tryz.prog 61 #[.string a0, .string a1] w fun e w' => ∃ v0_ : Value, e = .returned (v0_) ∧ Kd.R Kd.string 9 w' w.heap.size (fun _ => True) v0_ r ∧ Below w.heap.size w w' := by
 unfold strings_Split.f at h
 by_cases hc : a0.size < 4294967281 ∧ 1 ≤ a1.size
 ·rw [if_pos hc] at h
  obtain rfl := Option.some.inj h
  obtain ⟨m, hm⟩ := hG.ml
  refine (Tryz.strings_Split a0 a1 m w hc.1 hm hc.2).mono ?_
  rintro e w' ⟨rfl, rfl⟩
  have hl := Lib.splitB_all a1 hc.2 0 _ a0 rfl
  have hn := Lib.countB_le a1 hc.2 _ a0 (Nat.le_refl _)
  rw [← hl]
  exact ⟨_, rfl, strs_new w _ (by omega), below_alloc (Below.refl _ _) _⟩
 ·rw [if_neg hc] at h
  exact absurd h (by simp)
def strings_Trim.f (a0 a1 : ByteArray) : Option ByteArray :=
 if a0.size ≤ 9223372036854775807 ∧ a1.size < 4294967281 ∧ a1.data.toList.all (fun b => decide (b.toNat < 128)) = true then some ⟨(Lib.trimS a0.data.toList a1.data.toList).toArray⟩ else none
theorem strings_Trim.calls (a0 a1 : ByteArray) (r : ByteArray) (w : World) (h : strings_Trim.f a0 a1 = some r) :
  Calls Tryz.prog 78 #[.string a0, .string a1] w fun e w' => e = .returned (.string r) ∧ Below w.heap.size w w' := by
 unfold strings_Trim.f at h
 by_cases hc : a0.size ≤ 9223372036854775807 ∧ a1.size < 4294967281 ∧ a1.data.toList.all (fun b => decide (b.toNat < 128)) = true
 ·rw [if_pos hc] at h
  obtain rfl := Option.some.inj h
  refine (Any.strings_Trim_laid Tryz.lays160 (by kernel_rfl) a0 a1 w hc.1 hc.2.1 (fun j b hj => by simpa using List.all_eq_true.1 hc.2.2 b (List.mem_of_getElem? hj))).mono ?_
  rintro e w' ⟨rfl, hb⟩
  exact ⟨rfl, hb⟩
 ·rw [if_neg hc] at h
  exact absurd h (by simp)
def oid_arc.f (a0 : ByteArray) : Option Int :=
 if a0.size = 0 then some (-1) else if 10 < a0.size then some (-1) else if 1 < a0.size ∧ bt a0 0 = 48 then some (-1) else
 if Lib.trimS a0.data.toList [48, 49, 50, 51, 52, 53, 54, 55, 56, 57] = [] then (match Lib.atoiAll a0.data.toList with
  | .ok v => some v
  | _ => none) else some (-1)
theorem below_bytesWorld (w : World) (k : TypeId) (t : ByteArray) : Below w.heap.size w (Lib.bytesWorld w k t) :=
 Mv.below (Mv.freeze (((Mv.refl (fun k => k = w.heap.size) w).drew).alloc _) rfl 1) (Nat.le_refl _) (fun _ h => by rw [h]; exact Nat.le_refl _)
set_option maxHeartbeats 1600000 in
set_option maxRecDepth 100000 in
theorem oid_arc.calls (a0 : ByteArray) (r : Int) (w : World) (h : oid_arc.f a0 = some r) :
  Calls Tryz.prog 62 #[.string a0] w fun e w' => e = .returned (.int .i64 r) ∧ Below w.heap.size w w' := by
 unfold oid_arc.f at h
 by_cases h0 : a0.size = 0
 ·rw [if_pos h0] at h
  obtain rfl := Option.some.inj h
  obtain rfl := size_zero h0
  go_enter Tryz.func62, Tryz.ntmps62
  go_wp2
  go_ret
  exact ⟨rfl, Below.refl _ _⟩
 ·rw [if_neg h0] at h
  have e0 : (a0.toList == ([] : List UInt8)) = false := toList_ne h0
  have HS := Aside0.mk h0
  by_cases h1 : 10 < a0.size
  ·rw [if_pos h1] at h
   obtain rfl := Option.some.inj h
   have e1 : decide ((a0.size : Int) > 10) = true := decide_eq_true (by omega)
   clear h0 h1
   go_enter Tryz.func62, Tryz.ntmps62
   go_wp2
   go_ret
   exact ⟨rfl, Below.refl _ _⟩
  ·rw [if_neg h1] at h
   have e1 : decide ((a0.size : Int) > 10) = false := decide_eq_false (by omega)
   have e2 := eq_true (show 0 < a0.size by omega)
   have e3 : ∀ h : 0 < a0.size, ((a0[0]'h).toNat : Int) = bt a0 0 := bt_at a0 0
   by_cases h2 : 1 < a0.size ∧ bt a0 0 = 48
   ·rw [if_pos h2] at h
    obtain rfl := Option.some.inj h
    obtain ⟨h2, h3⟩ := h2
    have e4 : decide ((a0.size : Int) > 1) = true := decide_eq_true (by omega)
    have e5 : (bt a0 0 == 48) = true := beq_iff_eq.mpr h3
    clear h0 h1 h2 h3
    go_enter Tryz.func62, Tryz.ntmps62
    go_wp2
    go_ret
    exact ⟨rfl, Below.refl _ _⟩
   ·rw [if_neg h2] at h
    have e4 : (decide ((a0.size : Int) > 1) = true ∧ (bt a0 0 == 48) = false) ∨ decide ((a0.size : Int) > 1) = false := by
     by_cases h3 : 1 < a0.size
     ·exact .inl ⟨decide_eq_true (by omega), beq_eq_false_iff_ne.mpr (fun e => h2 ⟨h3, e⟩)⟩
     ·exact .inr (decide_eq_false (by omega))
    have hf : strings_Trim.f a0 ⟨#[48, 49, 50, 51, 52, 53, 54, 55, 56, 57]⟩ = some ⟨(Lib.trimS a0.data.toList [48, 49, 50, 51, 52, 53, 54, 55, 56, 57]).toArray⟩ := by
     unfold strings_Trim.f
     rw [if_pos ⟨by omega, by decide, by decide⟩]
    have HT := Aside0.mk (fun W => strings_Trim.calls a0 ⟨#[48, 49, 50, 51, 52, 53, 54, 55, 56, 57]⟩ _ W hf)
    have HL := Aside0.mk (show a0.size ≤ 9223372036854775806 by omega)
    clear h0 h1 h2 hf
    by_cases h4 : Lib.trimS a0.data.toList [48, 49, 50, 51, 52, 53, 54, 55, 56, 57] = []
    ·rw [if_pos h4] at h
     rw [h4] at HT
     cases ha : Lib.atoiAll a0.data.toList with
     | ok v =>
      rw [ha] at h
      simp only [Option.some.injEq] at h
      subst h
      have HA := Aside0.mk (fun W => Tryz.strconv_Atoi_ok a0 HL.out v ha W)
      clear ha h4
      go_enter Tryz.func62, Tryz.ntmps62
      rcases e4 with ⟨e4, e5⟩ | e4
      all_goals
       go_wp2_with fail
       refine (HT.out _).mono ?_
       rintro e w1 ⟨rfl, hb1⟩
       have HB1 := Aside0.mk hb1
       clear hb1
       go_wp2_with fail
       refine (HA.out _).mono ?_
       rintro e w2 ⟨rfl, hw2⟩
       have HB2 := Aside0.mk (show Below w.heap.size w w2 from by
        rcases hw2 with rfl | ⟨t, rfl⟩
        ·exact HB1.out
        ·exact Below.trans HB1.out (Below.mono (below_bytesWorld w1 5 t) HB1.out.size))
       clear hw2
       go_wp2
       go_ret
       exact ⟨rfl, HB2.out⟩
     | «syntax» => rw [ha] at h; simp at h
     | range => rw [ha] at h; simp at h
    ·rw [if_neg h4] at h
     obtain rfl := Option.some.inj h
     obtain ⟨z, hz⟩ : ∃ z : ByteArray, z = ⟨(Lib.trimS a0.data.toList [48, 49, 50, 51, 52, 53, 54, 55, 56, 57]).toArray⟩ := ⟨_, rfl⟩
     rw [← hz] at HT
     have hzs : ¬ z.size = 0 := by
      rw [hz]
      intro e
      exact h4 (List.eq_nil_of_length_eq_zero (show (Lib.trimS a0.data.toList [48, 49, 50, 51, 52, 53, 54, 55, 56, 57]).length = 0 from e))
     have e7 : (z.toList == ([] : List UInt8)) = false := toList_ne hzs
     have e6 : (z.toList != ([] : List UInt8)) = true := by rw [bne, e7]; rfl
     have e8 : z.toList.isEmpty = false := by
      have := isEmpty_bne z.toList
      rw [e6] at this
      exact this
     clear hzs
     clear hz h4
     go_enter Tryz.func62, Tryz.ntmps62
     rcases e4 with ⟨e4, e5⟩ | e4
     all_goals
      go_wp2_with fail
      refine (HT.out _).mono ?_
      rintro e w1 ⟨rfl, hb1⟩
      have HB1 := Aside0.mk hb1
      clear hb1
      go_wp2
      go_ret
      exact ⟨rfl, HB1.out⟩
mutual
def oid_is.j0 : Nat → List Int → Bool → Option (Bool)
 | 0, _, _ => none
 | k + 1, x0, x12 => if x12 = true then (some false) else (oid_is.l0 k x0 x0 (x0.length : Int) 0)
def oid_is.l0 : Nat → List Int → List Int → Int → Int → Option (Bool)
 | 0, _, _, _, _ => none
 | k + 1, x0, x13, x14, x15 => if x15 < x14 then (if 0 ≤ x15 then (if x15 < (x13.length : Int) then (if (rd x13 x15) < 0 then (some false) else (if (rd x13 x15) > 4294967295 then (some false) else (oid_is.l0 k x0 x13 x14 (wrap64 (x15 + 1))))) else (none)) else (none)) else (if 0 < (x0.length : Int) then (if (rd x0 0) < 2 then (if 1 < (x0.length : Int) then (some (decide ((rd x0 1) < 40))) else (none)) else (if (rd x0 0) = 2 then (if 1 < (x0.length : Int) then (some (decide ((rd x0 1) ≤ 4294967215))) else (none)) else (some false))) else (none))
end
def oid_is.f (k : Nat) (l0 : List Int) : Option (Bool) := if (l0.length : Int) < 2 then (oid_is.j0 k l0 true) else (oid_is.j0 k l0 (decide ((l0.length : Int) > 128)))
set_option maxHeartbeats 8000000 in
set_option maxRecDepth 100000 in
theorem oid_is.calls (k : Nat) (A0 : Option Addr) (c0 : Nat) (l0 : List Int) (r : Bool) (w : World) (hr0 : Kd.C (Kd.int .i64) w A0 l0.length l0) (hc0 : l0.length ≤ c0) (h : oid_is.f k l0 = some r) :
  Calls Tryz.prog 63 #[.slice A0 l0.length c0] w fun e w' => e = .returned (.bool r) ∧ Drawn0 w w' := by
 have HR0 := Aside0.mk hr0
 have HC0 := Aside0.mk hc0
 clear hr0 hc0
 have H : (if (l0.length : Int) < 2 then (oid_is.j0 k l0 true) else (oid_is.j0 k l0 (decide ((l0.length : Int) > 128)))) = some r := h
 clear h
 have HC2 := Aside0.mk H
 clear H
 go_enter Tryz.func63, Tryz.ntmps63
 go_upto_region 1 with (fail)
 go_cut [12] (fun v12 wc => ∃ (kq : Nat) (x12_1 : Bool), v12 = .bool x12_1 ∧ Aside0 (oid_is.j0 kq l0 x12_1 = some r) ∧ Aside0 (kq ≤ k) ∧ Drawn0 w wc)
 case first =>
  have H := HC2.out
  clear HC2
  by_cases c3 : (l0.length : Int) < 2
  ·rw [if_pos c3] at H
   have c3b0 : decide ((l0.length : Int) < 2) = true := decide_eq_true c3
   have c3b1 : decide (l0.length < 2) = true := decide_eq_true (by omega)
   clear c3
   (first | rw [c3b0] | (simp only [i64_w, i32_w]; rw [c3b0]) | skip)
   have H' := Aside0.mk H
   clear H
   go_wp2
   go_meet
   case rel => exact ⟨_, (true), Zq12, H', ⟨Zy76⟩, Zy70⟩
  ·rw [if_neg c3] at H
   have c3b0 : decide ((l0.length : Int) < 2) = false := decide_eq_false c3
   have c3b1 : decide (l0.length < 2) = false := decide_eq_false (by omega)
   clear c3
   (first | rw [c3b0] | (simp only [i64_w, i32_w]; rw [c3b0]) | skip)
   have H' := Aside0.mk H
   clear H
   go_wp2
   go_meet
   case rel => exact ⟨_, (decide ((l0.length : Int) > 128)), Zq12, H', ⟨Zy76⟩, Zy70⟩
 case rest =>
  clear HC2
  (try clear p2); (try clear c3); (try clear c3b0); (try clear c3b1)
  obtain ⟨kq, x12_1, rfl, HA, HJ1, ⟨mc1, rfl⟩⟩ := hcut
  cases kq with
  | zero => exact absurd HA.out (by simp [oid_is.j0])
  | succ kj1 =>
   have H := HA.out
   clear HA
   simp only [oid_is.j0] at H
   by_cases c4 : x12_1 = true
   ·subst c4
    have H1 : (some false) = some r := by rw [if_pos rfl] at H; exact H
    clear H
    have H := H1
    clear H1
    obtain rfl := Option.some.inj H
    go_wp2
    go_ret
    exact ⟨Zy75, Zy70⟩
   ·replace c4 := Bool.eq_false_iff.mpr c4
    subst c4
    have H1 : (oid_is.l0 kj1 l0 l0 (l0.length : Int) 0) = some r := by rw [if_neg (show ¬ (false = true) by decide)] at H; exact H
    clear H
    have H := H1
    clear H1
    have H' := Aside0.mk H
    clear H
    go_wp2
    go_loopg [15] kj1 (fun kq v15 w' => ∃ (x15_2 : Int), v15 = .int .i64 x15_2 ∧ Aside0 (oid_is.l0 kq l0 l0 (l0.length : Int) x15_2 = some r) ∧ Aside0 (kq ≤ kj1) ∧ Drawn0 w w')
    case atStart => exact ⟨(0), Zq12, H', ⟨Nat.le_refl _⟩, Zy70⟩
    case round =>
     clear H'
     (try clear c1); (try clear p2); (try clear c3); (try clear c3b0); (try clear c3b1); (try clear c4)
     obtain ⟨x15_2, rfl, HA, HK2, ⟨m2, rfl⟩⟩ := hrel
     cases gk with
     | zero => exact absurd HA.out (by simp [oid_is.l0])
     | succ k2 =>
      have H := HA.out
      clear HA
      simp only [oid_is.l0] at H
      by_cases c5 : x15_2 < (l0.length : Int)
      ·rw [if_pos c5] at H
       have c5b0 : decide (x15_2 < (l0.length : Int)) = true := decide_eq_true c5
       clear c5
       by_cases c6 : 0 ≤ x15_2
       ·rw [if_pos c6] at H
        have c6b0 : decide (0 ≤ x15_2) = true := decide_eq_true c6
        clear c6
        by_cases c7 : x15_2 < (l0.length : Int)
        ·rw [if_pos c7] at H
         have c7b0 : decide (x15_2 < (l0.length : Int)) = true := decide_eq_true c7
         clear c7
         by_cases c8 : (rd l0 x15_2) < 0
         ·rw [if_pos c8] at H
          have c8b0 : decide ((rd l0 x15_2) < 0) = true := decide_eq_true c8
          clear c8
          obtain rfl := Option.some.inj H
          have p101 : 0 ≤ (x15_2 : Int) := of_decide_eq_true Zq1
          have q101 : x15_2 < (l0.length : Int) := of_decide_eq_true Zq1
          obtain ⟨ad101, e101, hx101_0⟩ := Kd.at_int HR0.out x15_2 p101 q101
          cases e101
          replace p101 := eq_true p101
          replace q101 := eq_true q101
          go_wp2
          go_ret
          exact ⟨Zy75, Zy70⟩
         ·rw [if_neg c8] at H
          have c8b0 : decide ((rd l0 x15_2) < 0) = false := decide_eq_false c8
          clear c8
          by_cases c9 : (rd l0 x15_2) > 4294967295
          ·rw [if_pos c9] at H
           have c9b0 : decide (4294967295 < (rd l0 x15_2)) = true := decide_eq_true c9
           clear c9
           obtain rfl := Option.some.inj H
           have p101 : 0 ≤ (x15_2 : Int) := of_decide_eq_true Zq1
           have q101 : x15_2 < (l0.length : Int) := of_decide_eq_true Zq1
           obtain ⟨ad101, e101, hx101_0⟩ := Kd.at_int HR0.out x15_2 p101 q101
           cases e101
           replace p101 := eq_true p101
           replace q101 := eq_true q101
           go_wp2
           go_ret
           exact ⟨Zy75, Zy70⟩
          ·rw [if_neg c9] at H
           have c9b0 : decide (4294967295 < (rd l0 x15_2)) = false := decide_eq_false c9
           clear c9
           have H' := Aside0.mk H
           clear H
           have p101 : 0 ≤ (x15_2 : Int) := of_decide_eq_true Zq1
           have q101 : x15_2 < (l0.length : Int) := of_decide_eq_true Zq1
           obtain ⟨ad101, e101, hx101_0⟩ := Kd.at_int HR0.out x15_2 p101 q101
           cases e101
           replace p101 := eq_true p101
           replace q101 := eq_true q101
           go_wp2
           go_roundg k2
           case measure => have := HJ1.out; have := HK2.out; omega
           case rel => exact ⟨(wrap64 (x15_2 + 1)), Zq12, H', ⟨by have := HJ1.out; have := HK2.out; omega⟩, Zy70⟩
        ·rw [if_neg c7] at H
         exact absurd H (by simp)
       ·rw [if_neg c6] at H
        exact absurd H (by simp)
      ·rw [if_neg c5] at H
       have c5b0 : decide (x15_2 < (l0.length : Int)) = false := decide_eq_false c5
       clear c5
       by_cases c10 : 0 < (l0.length : Int)
       ·rw [if_pos c10] at H
        have c10b0 : decide (0 < (l0.length : Int)) = true := decide_eq_true c10
        have c10b1 : decide (0 < l0.length) = true := decide_eq_true (by omega)
        clear c10
        by_cases c11 : (rd l0 0) < 2
        ·rw [if_pos c11] at H
         have c11b0 : decide ((rd l0 0) < 2) = true := decide_eq_true c11
         clear c11
         by_cases c12 : 1 < (l0.length : Int)
         ·rw [if_pos c12] at H
          have c12b0 : decide (1 < (l0.length : Int)) = true := decide_eq_true c12
          have c12b1 : decide (1 < l0.length) = true := decide_eq_true (by omega)
          clear c12
          obtain rfl := Option.some.inj H
          have p102 : 0 ≤ (0 : Int) := (by omega)
          have q102 : 0 < (l0.length : Int) := of_decide_eq_true Zq1
          obtain ⟨ad102, e102, hx102_0⟩ := Kd.at_int HR0.out 0 p102 q102
          cases e102
          have qi102 : (0 < l0.length) = True := eq_true (by omega)
          (try rw [show ((0 : Int)).toNat = 0 from rfl] at hx102_0)
          (try rw [Addr.add_zero'] at hx102_0)
          replace p102 := eq_true p102
          replace q102 := eq_true q102
          have p103 : 0 ≤ (1 : Int) := (by omega)
          have q103 : 1 < (l0.length : Int) := of_decide_eq_true Zq1
          obtain ⟨ad103, e103, hx103_0⟩ := Kd.at_int HR0.out 1 p103 q103
          obtain rfl : ad102 = ad103 := (by injection e103)
          (try simp only [show (1 : Int).toNat = 1 from rfl, Nat.reduceMul, Nat.reduceEqDiff, Go.Addr.add, ↓reduceIte] at hx103_0)
          have qi103 : (1 < l0.length) = True := eq_true (by omega)
          (try rw [show ((1 : Int)).toNat = 1 from rfl] at hx103_0)
          replace p103 := eq_true p103
          replace q103 := eq_true q103
          go_wp2
          go_ret
          exact ⟨Zy75, Zy70⟩
         ·rw [if_neg c12] at H
          exact absurd H (by simp)
        ·rw [if_neg c11] at H
         have c11b0 : decide ((rd l0 0) < 2) = false := decide_eq_false c11
         clear c11
         by_cases c13 : (rd l0 0) = 2
         ·rw [if_pos c13] at H
          have c13b0 : ((rd l0 0) == 2) = true := beq_iff_eq.mpr c13
          have c13b1 : ((rd l0 0) != 2) = false := bne_eq_false_iff_eq.mpr c13
          clear c13
          by_cases c14 : 1 < (l0.length : Int)
          ·rw [if_pos c14] at H
           have c14b0 : decide (1 < (l0.length : Int)) = true := decide_eq_true c14
           have c14b1 : decide (1 < l0.length) = true := decide_eq_true (by omega)
           clear c14
           obtain rfl := Option.some.inj H
           have p102 : 0 ≤ (0 : Int) := (by omega)
           have q102 : 0 < (l0.length : Int) := of_decide_eq_true Zq1
           obtain ⟨ad102, e102, hx102_0⟩ := Kd.at_int HR0.out 0 p102 q102
           cases e102
           have qi102 : (0 < l0.length) = True := eq_true (by omega)
           (try rw [show ((0 : Int)).toNat = 0 from rfl] at hx102_0)
           (try rw [Addr.add_zero'] at hx102_0)
           replace p102 := eq_true p102
           replace q102 := eq_true q102
           have p104 : 0 ≤ (0 : Int) := (by omega)
           have q104 : 0 < (l0.length : Int) := of_decide_eq_true Zq1
           obtain ⟨ad104, e104, hx104_0⟩ := Kd.at_int HR0.out 0 p104 q104
           obtain rfl : ad102 = ad104 := (by injection e104)
           have qi104 : (0 < l0.length) = True := eq_true (by omega)
           (try rw [show ((0 : Int)).toNat = 0 from rfl] at hx104_0)
           (try rw [Addr.add_zero'] at hx104_0)
           replace p104 := eq_true p104
           replace q104 := eq_true q104
           have p105 : 0 ≤ (1 : Int) := (by omega)
           have q105 : 1 < (l0.length : Int) := of_decide_eq_true Zq1
           obtain ⟨ad105, e105, hx105_0⟩ := Kd.at_int HR0.out 1 p105 q105
           obtain rfl : ad102 = ad105 := (by injection e105)
           (try simp only [show (1 : Int).toNat = 1 from rfl, Nat.reduceMul, Nat.reduceEqDiff, Go.Addr.add, ↓reduceIte] at hx105_0)
           have qi105 : (1 < l0.length) = True := eq_true (by omega)
           (try rw [show ((1 : Int)).toNat = 1 from rfl] at hx105_0)
           replace p105 := eq_true p105
           replace q105 := eq_true q105
           go_wp2
           go_ret
           exact ⟨Zy75, Zy70⟩
          ·rw [if_neg c14] at H
           exact absurd H (by simp)
         ·rw [if_neg c13] at H
          have c13b0 : ((rd l0 0) == 2) = false := beq_eq_false_iff_ne.mpr c13
          have c13b1 : ((rd l0 0) != 2) = true := bne_iff_ne.mpr c13
          obtain rfl := Option.some.inj H
          have p102 : 0 ≤ (0 : Int) := (by omega)
          have q102 : 0 < (l0.length : Int) := of_decide_eq_true Zq1
          obtain ⟨ad102, e102, hx102_0⟩ := Kd.at_int HR0.out 0 p102 q102
          cases e102
          have qi102 : (0 < l0.length) = True := eq_true (by omega)
          (try rw [show ((0 : Int)).toNat = 0 from rfl] at hx102_0)
          (try rw [Addr.add_zero'] at hx102_0)
          replace p102 := eq_true p102
          replace q102 := eq_true q102
          have p104 : 0 ≤ (0 : Int) := (by omega)
          have q104 : 0 < (l0.length : Int) := of_decide_eq_true Zq1
          obtain ⟨ad104, e104, hx104_0⟩ := Kd.at_int HR0.out 0 p104 q104
          obtain rfl : ad102 = ad104 := (by injection e104)
          have qi104 : (0 < l0.length) = True := eq_true (by omega)
          (try rw [show ((0 : Int)).toNat = 0 from rfl] at hx104_0)
          (try rw [Addr.add_zero'] at hx104_0)
          replace p104 := eq_true p104
          replace q104 := eq_true q104
          go_wp2
          go_ret
          exact ⟨Zy75, Zy70⟩
       ·rw [if_neg c10] at H
        exact absurd H (by simp)
end Go.Proofs.YtfmhghlmljlfgaaGreatDoor.XTrS
