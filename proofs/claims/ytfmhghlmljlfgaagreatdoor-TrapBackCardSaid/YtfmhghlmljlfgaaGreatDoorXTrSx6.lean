-- Laid by extprint.py (the session's own driver): functions told by the kit's printer and by hand.
import Derived.Test.YtfmhghlmljlfgaaGreatDoorXTrSx0
import Derived.Test.YtfmhghlmljlfgaaGreatDoorXTrSx1
import Derived.Test.YtfmhghlmljlfgaaGreatDoorXTrSx5
namespace Go.Proofs.YtfmhghlmljlfgaaGreatDoor.XTrS
open Go.RowKit Gong Go.Proofs.YtfmhghlmljlfgaaGreatDoorW.PrintWords Go.Proofs.YtfmhghlmljlfgaaGreatDoorW.PrintLast Go.Proofs.YtfmhghlmljlfgaaGreatDoorW.PrintMore
attribute [local go_sem] max2_int min2_int max_two min_two max_three min_three max_four min_four   -- for this text's walks alone
set_option linter.unusedVariables false
set_option linter.unusedSimpArgs false
attribute [local go_sem high] eqA38
def oid_Arcs.l0 : Nat → List Int → List ByteArray → Int → Int → Option (List Int × Int)
 | 0, _, _, _, _ => none
 | k + 1, x4, x11, x12, x13 => if x13 < x12 then (if 0 ≤ x13 then (if x13 < (x11.length : Int) then ((oid_arc.f (rdOf ByteArray.empty x11 x13)).bind fun t111 => (if x4.length < 17592186044416 then (oid_Arcs.l0 k (x4 ++ [t111]) x11 x12 (wrap64 (x13 + 1))) else (none))) else (none)) else (none)) else ((oid_is.f k x4).bind fun t115 => (if t115 = true then (some (x4, 0)) else (some (([] : List Int), 60))))
def oid_Arcs.f (k : Nat) (a0 : ByteArray) : Option (List Int × Int) := (strings_Count.f a0 (⟨#[46]⟩ : ByteArray)).bind fun t106 => (if t106 ≥ 128 then (some (([] : List Int), 60)) else ((strings_Split.f a0 (⟨#[46]⟩ : ByteArray)).bind fun t107 => (oid_Arcs.l0 k ([] : List Int) t107 (t107.length : Int) 0)))
set_option maxHeartbeats 8000000 in
set_option maxRecDepth 100000 in
theorem oid_Arcs.calls (k : Nat) (a0 : ByteArray) (r1 : List Int) (r2 : Int) (w : World) (hG : Gl w) (h : oid_Arcs.f k a0 = some (r1, r2)) :
  Calls Tryz.prog 47 #[.string a0] w fun e w' => ∃ v0_ : Value, e = .returned (.tuple #[v0_, .int .i64 r2]) ∧ Kd.R (Kd.int .i64) 3 w' w.heap.size (fun _ => True) v0_ r1 ∧ Below w.heap.size w w' := by
 have HGl := Aside0.mk hG
 clear hG
 have HB := Aside0.mk (Below.refl w.heap.size w)
 have H : ((strings_Count.f a0 (⟨#[46]⟩ : ByteArray)).bind fun t106 => (if t106 ≥ 128 then (some (([] : List Int), 60)) else ((strings_Split.f a0 (⟨#[46]⟩ : ByteArray)).bind fun t107 => (oid_Arcs.l0 k ([] : List Int) t107 (t107.length : Int) 0)))) = some (r1, r2) := h
 clear h
 replace H := Option.bind_eq_some_iff.mp H
 obtain ⟨t106, A20, H⟩ := H
 replace H : (if t106 ≥ 128 then (some (([] : List Int), 60)) else ((strings_Split.f a0 (⟨#[46]⟩ : ByteArray)).bind fun t107 => (oid_Arcs.l0 k ([] : List Int) t107 (t107.length : Int) 0))) = some (r1, r2) := H
 have A2 := Aside0.mk A20
 clear A20
 by_cases c3 : t106 ≥ 128
 ·rw [if_pos c3] at H
  have c3b0 : decide (128 ≤ t106) = true := decide_eq_true c3
  clear c3
  simp only [Option.some.injEq, Prod.mk.injEq] at H
  obtain ⟨rfl, rfl⟩ := H
  go_enter Tryz.func47, Tryz.ntmps47
  go_wp2_with (first | ((with_reducible refine gate_callee (f := 60) rfl ?_); refine goesL_ (some 8) rfl rfl Tryz.func60 (by kernel_rfl) rfl #[.string a0, .string (⟨#[46]⟩ : ByteArray)] rfl Zq14 ?_; (with_reducible refine (strings_Count.calls a0 (⟨#[46]⟩ : ByteArray) t106 _ A2.out).mono ?_); rintro e w' ⟨rfl, ⟨nd, rfl⟩⟩; refine ⟨_, rfl, ?_⟩))
  go_ret2
  exact ⟨_, Zy69, Zy45, Zy50⟩
 rw [if_neg c3] at H
 have c3b0 : decide (128 ≤ t106) = false := decide_eq_false c3
 clear c3
 replace H := Option.bind_eq_some_iff.mp H
 obtain ⟨t107, A40, H⟩ := H
 replace H : (oid_Arcs.l0 k ([] : List Int) t107 (t107.length : Int) 0) = some (r1, r2) := H
 have A4 := Aside0.mk A40
 clear A40
 have H' := Aside0.mk H
 clear H
 go_enter Tryz.func47, Tryz.ntmps47
 go_wp2_with (first | ((with_reducible refine gate_callee (f := 60) rfl ?_); refine goesL_ (some 8) rfl rfl Tryz.func60 (by kernel_rfl) rfl #[.string a0, .string (⟨#[46]⟩ : ByteArray)] rfl Zq14 ?_; (with_reducible refine (strings_Count.calls a0 (⟨#[46]⟩ : ByteArray) t106 _ A2.out).mono ?_); rintro e w' ⟨rfl, ⟨nd, rfl⟩⟩; refine ⟨_, rfl, ?_⟩) | ((with_reducible refine gate_callee (f := 61) rfl ?_); refine goesL_ (some 11) rfl rfl Tryz.func61 (by kernel_rfl) rfl #[.string a0, .string (⟨#[46]⟩ : ByteArray)] rfl Zq14 ?_; (with_reducible refine (strings_Split.calls a0 (⟨#[46]⟩ : ByteArray) t107 _ ?side1 A4.out).mono ?_); (case side1 => exact Zq71); rintro e w5 ⟨v108, rfl, ho0, hb⟩; refine ⟨_, rfl, ?_⟩; have HO109 := Aside0.mk (Kd.R_lower ho0 (below_size Zq13)); replace HB := Aside0.mk (below_step Zq13 hb); (try clear hb); (try clear hb2); (try clear hk); (try clear hi); (try clear ho0); obtain ⟨Ao6, co6, eo6⟩ := Kd.R_slice HO109.out; subst eo6))
 go_loopg [4, 13] k (fun kq v4 v13 w' => ∃ (x4_1 : List Int) (x13_1 : Int), v13 = .int .i64 x13_1 ∧ Aside0 (oid_Arcs.l0 kq x4_1 t107 (t107.length : Int) x13_1 = some (r1, r2)) ∧ Aside0 (kq ≤ k) ∧ Aside0 (Kd.R (Kd.int .i64) 3 w' w.heap.size (fun _ => True) v4 x4_1) ∧ Aside0 (Kd.R Kd.string 9 w' w.heap.size (fun _ => True) (.slice Ao6 t107.length co6) t107) ∧ Aside0 (Below w.heap.size w w'))
 case atStart => exact ⟨(([] : List Int)), (0), Zq12, H', ⟨Nat.le_refl _⟩, ⟨Zy45⟩, ⟨by (with_reducible repeat (first | apply Kd.R_alloc | apply Kd.R_drewN | apply Kd.R_drew)); exact HO109.out⟩, ⟨Zy50⟩⟩
 case round =>
  clear H'
  (try clear p2); (try clear c3); (try clear c3b0); (try clear c4); (try clear c6)
  obtain ⟨x4_1, x13_1, rfl, HA, HK1, HO_4, HO_11, HB⟩ := hrel
  cases gk with
  | zero => exact absurd HA.out (by simp [oid_Arcs.l0])
  | succ k1 =>
   have H := HA.out
   clear HA
   simp only [oid_Arcs.l0] at H
   by_cases c7 : x13_1 < (t107.length : Int)
   ·rw [if_pos c7] at H
    have c7b0 : decide (x13_1 < (t107.length : Int)) = true := decide_eq_true c7
    clear c7
    by_cases c8 : 0 ≤ x13_1
    ·rw [if_pos c8] at H
     have c8b0 : decide (0 ≤ x13_1) = true := decide_eq_true c8
     clear c8
     by_cases c9 : x13_1 < (t107.length : Int)
     ·rw [if_pos c9] at H
      have c9b0 : decide (x13_1 < (t107.length : Int)) = true := decide_eq_true c9
      clear c9
      replace H := Option.bind_eq_some_iff.mp H
      obtain ⟨t111, A100, H⟩ := H
      replace H : (if x4_1.length < 17592186044416 then (oid_Arcs.l0 k1 (x4_1 ++ [t111]) t107 (t107.length : Int) (wrap64 (x13_1 + 1))) else (none)) = some (r1, r2) := H
      have A10 := Aside0.mk A100
      clear A100
      by_cases c11 : x4_1.length < 17592186044416
      ·rw [if_pos c11] at H
       have LMc11 := Aside0.mk c11
       clear c11
       obtain ⟨y112, hy112⟩ : ∃ y_ : List Int, y_ = (x4_1 ++ [t111]) := ⟨_, rfl⟩
       replace H : (oid_Arcs.l0 k1 y112 t107 (t107.length : Int) (wrap64 (x13_1 + 1))) = some (r1, r2) := by first | (rw [hy112]; with_reducible exact H) | (have H2_ := (Option.bind_some _ _).symm.trans H; rw [hy112]; with_reducible exact H2_) | (have H2_ := (Option.bind_some _ _).symm.trans H; with_reducible exact H2_) | with_reducible exact H | (rw [hy112]; exact H) | exact H
       have Ny112 := Aside0.mk hy112
       clear hy112
       have H' := Aside0.mk H
       clear H
       have p110 : 0 ≤ (x13_1 : Int) := of_decide_eq_true Zq1
       have q110 : x13_1 < (t107.length : Int) := of_decide_eq_true Zq1
       obtain ⟨ad110, e110, hx110_0⟩ := Kd.at_string (Kd.R_reads' HO_11.out).2.2 x13_1 p110 q110
       cases e110
       replace p110 := eq_true p110
       replace q110 := eq_true q110
       go_wp2_with (first | ((with_reducible refine gate_callee (f := 62) rfl ?_); refine goesL_ (some 19) rfl rfl Tryz.func62 (by kernel_rfl) rfl #[.string (rdOf ByteArray.empty t107 x13_1)] rfl Zq14 ?_; (with_reducible refine (oid_arc.calls (rdOf ByteArray.empty t107 x13_1) t111 _ A10.out).mono ?_); rintro e w12 ⟨rfl, hb⟩; refine ⟨_, rfl, ?_⟩; replace HO_4 := Aside0.mk (Kd.R_below Zq6 hb); replace HO_11 := Aside0.mk (Kd.R_below Zy66 hb); replace HB := Aside0.mk (below_step Zq13 hb); (try clear hb); (try clear hb2); (try clear hk); (try clear hi)) | ((with_reducible refine gate_builtin (b := .append) (xs := #[.tmp 17, .tmp 20]) rfl ?_); at_builtin; refine Kd.R_append (Kd.int .i64) (w0 := w) w.heap.size rfl (.tmp 17) (.tmp 20) 102 3 (.int .i64 0) 8 rfl Tryz.underlying102 info3 rfl (by decide) (by omega) u4 x4_1 t111 [.int .i64 t111] (fun _ => True) (fun _ => False) rfl rfl ?aP (fun _ hk => hk.elim) ?aF ?aO ?aB ?aS ?aL ?_; (case aP => exact rfl); (case aB => exact Zq13); (case aF => exact (fun _ _ => trivial)); (case aO => exact Zq6); (case aS => exact (below_size Zq13)); (case aL => have := LMc11.out; omega); intro v113 w13 ho hb hg hat; rw [← Ny112.out] at ho; have n0_ := Aside0.mk (Kd.R_over' Zy66 (Kd.R_typed Zq6) (by decide) hg); have n1_ := Aside0.mk (hb); have n2_ := Aside0.mk (ho); clear HO_11; clear HB; clear HO_4; have HO_11 := n0_; have HB := n1_; have HO114 := n2_; clear n0_ n1_ n2_; clear ho hb hg hat))
       go_roundg k1
       case measure => have := HK1.out; omega
       case rel => exact ⟨(y112), (wrap64 (x13_1 + 1)), Zq12, H', ⟨by have := HK1.out; omega⟩, ⟨by (with_reducible repeat (first | apply Kd.R_alloc | apply Kd.R_drewN | apply Kd.R_drew)); exact HO114.out⟩, ⟨Zy66⟩, ⟨Zy50⟩⟩
      ·rw [if_neg c11] at H
       exact absurd H (by simp)
     ·rw [if_neg c9] at H
      exact absurd H (by simp)
    ·rw [if_neg c8] at H
     exact absurd H (by simp)
   ·rw [if_neg c7] at H
    have c7b0 : decide (x13_1 < (t107.length : Int)) = false := decide_eq_false c7
    clear c7
    replace H := Option.bind_eq_some_iff.mp H
    obtain ⟨t115, A140, H⟩ := H
    replace H : (if t115 = true then (some (x4_1, 0)) else (some (([] : List Int), 60))) = some (r1, r2) := H
    have A14 := Aside0.mk A140
    clear A140
    by_cases c15 : t115 = true
    ·subst c15
     have H1 : (some (x4_1, 0)) = some (r1, r2) := by rw [if_pos rfl] at H; exact H
     clear H
     have H := H1
     clear H1
     simp only [Option.some.injEq, Prod.mk.injEq] at H
     obtain ⟨rfl, rfl⟩ := H
     obtain ⟨Ao16, co16, eo16⟩ := Kd.R_slice HO_4.out
     subst eo16
     go_wp2_with (first | ((with_reducible refine gate_callee (f := 63) rfl ?_); refine goesL_ (some 24) rfl rfl Tryz.func63 (by kernel_rfl) rfl #[.slice Ao16 x4_1.length co16] rfl Zq14 ?_; (with_reducible refine (oid_is.calls k1 _ _ x4_1 true _ ?side1 ?side2 A14.out).mono ?_); (case side1 => repeat (first | exact (Kd.R_reads' HO_4.out).2.2 | (with_reducible refine Kd.C_alloc ?_ _) | (with_reducible refine Kd.C_drewN ?_ _) | (with_reducible refine Kd.C_drew ?_))); (case side2 => exact (Kd.R_reads' HO_4.out).2.1); rintro e w' ⟨rfl, ⟨nd, rfl⟩⟩; refine ⟨_, rfl, ?_⟩))
     go_ret2
     exact ⟨_, Zy69, by (with_reducible repeat (first | apply Kd.R_alloc | apply Kd.R_drewN | apply Kd.R_drew)); exact HO_4.out, Zy50⟩
    ·replace c15 := Bool.eq_false_iff.mpr c15
     subst c15
     have H1 : (some (([] : List Int), 60)) = some (r1, r2) := by rw [if_neg (show ¬ (false = true) by decide)] at H; exact H
     clear H
     have H := H1
     clear H1
     simp only [Option.some.injEq, Prod.mk.injEq] at H
     obtain ⟨rfl, rfl⟩ := H
     obtain ⟨Ao17, co17, eo17⟩ := Kd.R_slice HO_4.out
     subst eo17
     go_wp2_with (first | ((with_reducible refine gate_callee (f := 63) rfl ?_); refine goesL_ (some 24) rfl rfl Tryz.func63 (by kernel_rfl) rfl #[.slice Ao17 x4_1.length co17] rfl Zq14 ?_; (with_reducible refine (oid_is.calls k1 _ _ x4_1 false _ ?side1 ?side2 A14.out).mono ?_); (case side1 => repeat (first | exact (Kd.R_reads' HO_4.out).2.2 | (with_reducible refine Kd.C_alloc ?_ _) | (with_reducible refine Kd.C_drewN ?_ _) | (with_reducible refine Kd.C_drew ?_))); (case side2 => exact (Kd.R_reads' HO_4.out).2.1); rintro e w' ⟨rfl, ⟨nd, rfl⟩⟩; refine ⟨_, rfl, ?_⟩))
     go_ret2
     exact ⟨_, Zy69, Zy45, Zy50⟩
def value_of.f (a0 : Int) : Option (Int) := if a0 = 2 then (some 1) else (if a0 = 6 then (some 4) else (if a0 = 5 then (some 5) else (if a0 = 65 then (some 2) else (if a0 = 66 then (some 2) else (if a0 = 67 then (some 2) else (if a0 = 70 then (some 2) else (if a0 = 4 then (some 3) else (if a0 = 64 then (some 3) else (if a0 = 68 then (some 3) else (some 0))))))))))
set_option maxHeartbeats 8000000 in
set_option maxRecDepth 100000 in
theorem value_of.calls (a0 : Int) (r : Int) (w : World) (h : value_of.f a0 = some r) :
  Calls Tryz.prog 69 #[.int .i64 a0] w fun e w' => e = .returned (.int .i64 r) ∧ Drawn0 w w' := by
 have H : (if a0 = 2 then (some 1) else (if a0 = 6 then (some 4) else (if a0 = 5 then (some 5) else (if a0 = 65 then (some 2) else (if a0 = 66 then (some 2) else (if a0 = 67 then (some 2) else (if a0 = 70 then (some 2) else (if a0 = 4 then (some 3) else (if a0 = 64 then (some 3) else (if a0 = 68 then (some 3) else (some 0))))))))))) = some r := h
 clear h
 by_cases c2 : a0 = 2
 ·rw [if_pos c2] at H
  have c2b0 : (a0 == 2) = true := beq_iff_eq.mpr c2
  have c2b1 : (a0 != 2) = false := bne_eq_false_iff_eq.mpr c2
  clear c2
  obtain rfl := Option.some.inj H
  go_enter Tryz.func69, Tryz.ntmps69
  go_wp2
  go_ret
  exact ⟨Zy75, Zy70⟩
 rw [if_neg c2] at H
 have c2b0 : (a0 == 2) = false := beq_eq_false_iff_ne.mpr c2
 have c2b1 : (a0 != 2) = true := bne_iff_ne.mpr c2
 by_cases c3 : a0 = 6
 ·rw [if_pos c3] at H
  have c3b0 : (a0 == 6) = true := beq_iff_eq.mpr c3
  have c3b1 : (a0 != 6) = false := bne_eq_false_iff_eq.mpr c3
  clear c3
  obtain rfl := Option.some.inj H
  go_enter Tryz.func69, Tryz.ntmps69
  go_wp2
  go_ret
  exact ⟨Zy75, Zy70⟩
 rw [if_neg c3] at H
 have c3b0 : (a0 == 6) = false := beq_eq_false_iff_ne.mpr c3
 have c3b1 : (a0 != 6) = true := bne_iff_ne.mpr c3
 by_cases c4 : a0 = 5
 ·rw [if_pos c4] at H
  have c4b0 : (a0 == 5) = true := beq_iff_eq.mpr c4
  have c4b1 : (a0 != 5) = false := bne_eq_false_iff_eq.mpr c4
  clear c4
  obtain rfl := Option.some.inj H
  go_enter Tryz.func69, Tryz.ntmps69
  go_wp2
  go_ret
  exact ⟨Zy75, Zy70⟩
 rw [if_neg c4] at H
 have c4b0 : (a0 == 5) = false := beq_eq_false_iff_ne.mpr c4
 have c4b1 : (a0 != 5) = true := bne_iff_ne.mpr c4
 by_cases c5 : a0 = 65
 ·rw [if_pos c5] at H
  have c5b0 : (a0 == 65) = true := beq_iff_eq.mpr c5
  have c5b1 : (a0 != 65) = false := bne_eq_false_iff_eq.mpr c5
  clear c5
  obtain rfl := Option.some.inj H
  go_enter Tryz.func69, Tryz.ntmps69
  go_wp2
  go_ret
  exact ⟨Zy75, Zy70⟩
 rw [if_neg c5] at H
 have c5b0 : (a0 == 65) = false := beq_eq_false_iff_ne.mpr c5
 have c5b1 : (a0 != 65) = true := bne_iff_ne.mpr c5
 by_cases c6 : a0 = 66
 ·rw [if_pos c6] at H
  have c6b0 : (a0 == 66) = true := beq_iff_eq.mpr c6
  have c6b1 : (a0 != 66) = false := bne_eq_false_iff_eq.mpr c6
  clear c6
  obtain rfl := Option.some.inj H
  go_enter Tryz.func69, Tryz.ntmps69
  go_wp2
  go_ret
  exact ⟨Zy75, Zy70⟩
 rw [if_neg c6] at H
 have c6b0 : (a0 == 66) = false := beq_eq_false_iff_ne.mpr c6
 have c6b1 : (a0 != 66) = true := bne_iff_ne.mpr c6
 by_cases c7 : a0 = 67
 ·rw [if_pos c7] at H
  have c7b0 : (a0 == 67) = true := beq_iff_eq.mpr c7
  have c7b1 : (a0 != 67) = false := bne_eq_false_iff_eq.mpr c7
  clear c7
  obtain rfl := Option.some.inj H
  go_enter Tryz.func69, Tryz.ntmps69
  go_wp2
  go_ret
  exact ⟨Zy75, Zy70⟩
 rw [if_neg c7] at H
 have c7b0 : (a0 == 67) = false := beq_eq_false_iff_ne.mpr c7
 have c7b1 : (a0 != 67) = true := bne_iff_ne.mpr c7
 by_cases c8 : a0 = 70
 ·rw [if_pos c8] at H
  have c8b0 : (a0 == 70) = true := beq_iff_eq.mpr c8
  have c8b1 : (a0 != 70) = false := bne_eq_false_iff_eq.mpr c8
  clear c8
  obtain rfl := Option.some.inj H
  go_enter Tryz.func69, Tryz.ntmps69
  go_wp2
  go_ret
  exact ⟨Zy75, Zy70⟩
 rw [if_neg c8] at H
 have c8b0 : (a0 == 70) = false := beq_eq_false_iff_ne.mpr c8
 have c8b1 : (a0 != 70) = true := bne_iff_ne.mpr c8
 by_cases c9 : a0 = 4
 ·rw [if_pos c9] at H
  have c9b0 : (a0 == 4) = true := beq_iff_eq.mpr c9
  have c9b1 : (a0 != 4) = false := bne_eq_false_iff_eq.mpr c9
  clear c9
  obtain rfl := Option.some.inj H
  go_enter Tryz.func69, Tryz.ntmps69
  go_wp2
  go_ret
  exact ⟨Zy75, Zy70⟩
 rw [if_neg c9] at H
 have c9b0 : (a0 == 4) = false := beq_eq_false_iff_ne.mpr c9
 have c9b1 : (a0 != 4) = true := bne_iff_ne.mpr c9
 by_cases c10 : a0 = 64
 ·rw [if_pos c10] at H
  have c10b0 : (a0 == 64) = true := beq_iff_eq.mpr c10
  have c10b1 : (a0 != 64) = false := bne_eq_false_iff_eq.mpr c10
  clear c10
  obtain rfl := Option.some.inj H
  go_enter Tryz.func69, Tryz.ntmps69
  go_wp2
  go_ret
  exact ⟨Zy75, Zy70⟩
 rw [if_neg c10] at H
 have c10b0 : (a0 == 64) = false := beq_eq_false_iff_ne.mpr c10
 have c10b1 : (a0 != 64) = true := bne_iff_ne.mpr c10
 by_cases c11 : a0 = 68
 rotate_left
 ·rw [if_neg c11] at H
  have c11b0 : (a0 == 68) = false := beq_eq_false_iff_ne.mpr c11
  have c11b1 : (a0 != 68) = true := bne_iff_ne.mpr c11
  obtain rfl := Option.some.inj H
  go_enter Tryz.func69, Tryz.ntmps69
  go_wp2
  go_ret
  exact ⟨Zy75, Zy70⟩
 rw [if_pos c11] at H
 have c11b0 : (a0 == 68) = true := beq_iff_eq.mpr c11
 have c11b1 : (a0 != 68) = false := bne_eq_false_iff_eq.mpr c11
 clear c11
 obtain rfl := Option.some.inj H
 go_enter Tryz.func69, Tryz.ntmps69
 go_wp2
 go_ret
 exact ⟨Zy75, Zy70⟩
def value_long.f (a0 : Int) (a1 : Int) : Option (Bool) := if a0 = 64 then (some (a1 == 4)) else (some (decide (a1 ≤ 65535)))
set_option maxHeartbeats 8000000 in
set_option maxRecDepth 100000 in
theorem value_long.calls (a0 : Int) (a1 : Int) (r : Bool) (w : World) (h : value_long.f a0 a1 = some r) :
  Calls Tryz.prog 80 #[.int .i64 a0, .int .i64 a1] w fun e w' => e = .returned (.bool r) ∧ Drawn0 w w' := by
 have H : (if a0 = 64 then (some (a1 == 4)) else (some (decide (a1 ≤ 65535)))) = some r := h
 clear h
 by_cases c3 : a0 = 64
 rotate_left
 ·rw [if_neg c3] at H
  have c3b0 : (a0 == 64) = false := beq_eq_false_iff_ne.mpr c3
  have c3b1 : (a0 != 64) = true := bne_iff_ne.mpr c3
  obtain rfl := Option.some.inj H
  go_enter Tryz.func80, Tryz.ntmps80
  go_wp2
  go_ret
  exact ⟨Zy75, Zy70⟩
 rw [if_pos c3] at H
 have c3b0 : (a0 == 64) = true := beq_iff_eq.mpr c3
 have c3b1 : (a0 != 64) = false := bne_eq_false_iff_eq.mpr c3
 clear c3
 obtain rfl := Option.some.inj H
 go_enter Tryz.func80, Tryz.ntmps80
 go_wp2
 go_ret
 exact ⟨Zy75, Zy70⟩
def value_right.f (k : Nat) (a0_0 : Int) (a0_1 : Int) (a0_2 : ByteArray) : Option (Bool) := (value_of.f a0_0).bind fun t117 => (if t117 = 1 then (if a0_2.toList = ([] : List UInt8) then (if a0_1 ≥ (-2147483648) then (some (decide (a0_1 ≤ 2147483647))) else (some false)) else (some false)) else (if t117 = 2 then (if a0_2.toList = ([] : List UInt8) then (if a0_0 = 70 then (some true) else (if a0_1 ≥ 0 then (some (decide (a0_1 ≤ 4294967295))) else (some false))) else (some false)) else (if t117 = 3 then (if a0_1 = 0 then ((value_long.f a0_0 (a0_2.size : Int)).bind fun t118 => (some t118)) else (some false)) else (if t117 = 4 then ((oid_Arcs.f k a0_2).bind fun bt119 => (if a0_1 = 0 then (some (bt119.2 == 0)) else (some false))) else (if t117 = 5 then (some (a0_1 == 0 && (a0_2.toList == ([] : List UInt8)))) else (some false))))))
set_option maxHeartbeats 8000000 in
set_option maxRecDepth 100000 in
theorem value_right.calls (k : Nat) (a0_0 : Int) (a0_1 : Int) (a0_2 : ByteArray) (r : Bool) (w : World) (hG : Gl w) (h : value_right.f k a0_0 a0_1 a0_2 = some r) :
  Calls Tryz.prog 64 #[.agg #[.int .i64 a0_0, .int .i64 a0_1, .string a0_2]] w fun e w' => e = .returned (.bool r) ∧ Below w.heap.size w w' := by
 have HGl := Aside0.mk hG
 clear hG
 have hu38 := Tryz.underlying38
 have HB := Aside0.mk (Below.refl w.heap.size w)
 have H : ((value_of.f a0_0).bind fun t117 => (if t117 = 1 then (if a0_2.toList = ([] : List UInt8) then (if a0_1 ≥ (-2147483648) then (some (decide (a0_1 ≤ 2147483647))) else (some false)) else (some false)) else (if t117 = 2 then (if a0_2.toList = ([] : List UInt8) then (if a0_0 = 70 then (some true) else (if a0_1 ≥ 0 then (some (decide (a0_1 ≤ 4294967295))) else (some false))) else (some false)) else (if t117 = 3 then (if a0_1 = 0 then ((value_long.f a0_0 (a0_2.size : Int)).bind fun t118 => (some t118)) else (some false)) else (if t117 = 4 then ((oid_Arcs.f k a0_2).bind fun bt119 => (if a0_1 = 0 then (some (bt119.2 == 0)) else (some false))) else (if t117 = 5 then (some (a0_1 == 0 && (a0_2.toList == ([] : List UInt8)))) else (some false))))))) = some r := h
 clear h
 replace H := Option.bind_eq_some_iff.mp H
 obtain ⟨t117, A20, H⟩ := H
 replace H : (if t117 = 1 then (if a0_2.toList = ([] : List UInt8) then (if a0_1 ≥ (-2147483648) then (some (decide (a0_1 ≤ 2147483647))) else (some false)) else (some false)) else (if t117 = 2 then (if a0_2.toList = ([] : List UInt8) then (if a0_0 = 70 then (some true) else (if a0_1 ≥ 0 then (some (decide (a0_1 ≤ 4294967295))) else (some false))) else (some false)) else (if t117 = 3 then (if a0_1 = 0 then ((value_long.f a0_0 (a0_2.size : Int)).bind fun t118 => (some t118)) else (some false)) else (if t117 = 4 then ((oid_Arcs.f k a0_2).bind fun bt119 => (if a0_1 = 0 then (some (bt119.2 == 0)) else (some false))) else (if t117 = 5 then (some (a0_1 == 0 && (a0_2.toList == ([] : List UInt8)))) else (some false)))))) = some r := H
 have A2 := Aside0.mk A20
 clear A20
 by_cases c3 : t117 = 1
 ·rw [if_pos c3] at H
  have c3b0 : (t117 == 1) = true := beq_iff_eq.mpr c3
  have c3b1 : (t117 != 1) = false := bne_eq_false_iff_eq.mpr c3
  clear c3
  by_cases c4 : a0_2.toList = ([] : List UInt8)
  rotate_left
  ·rw [if_neg c4] at H
   have c4b0 : (a0_2.toList == ([] : List UInt8)) = false := beq_eq_false_iff_ne.mpr c4
   have c4b1 : (a0_2.toList != ([] : List UInt8)) = true := bne_iff_ne.mpr c4
   obtain rfl := Option.some.inj H
   go_enter Tryz.func64, Tryz.ntmps64
   go_wp2_with (first | ((with_reducible refine gate_dst (N := 1) rfl ?_); (try (refine gate_guard (by rfl) ?_; dsimp only)); refine box_event ?hg (N := 1) ?hd (cs := #[.int .i64 a0_0, .int .i64 a0_1, .string a0_2]) (t := 38) ?hr ?_; (case hd => rfl); (case hg => rfl); (case hr => exact Zq2); intro gb116 hg w10 hbox hb; have BK116 := Aside0.mk (hbox); have GW116 := Aside0.mk ((Zq67 : w.heap.size ≤ gb116)); have GE116 := Aside0.mk ((Zq67 : w.heap.size ≤ gb116)); replace HB := Aside0.mk (below_step Zq13 hb); clear hb hbox hg; obtain ⟨hcz11_0, hcz11_1, hcz11_2⟩ := cells3_ BK116.out; obtain ⟨hfz11_0, hfz11_1, hfz11_2⟩ := frozen3_ BK116.out) | ((with_reducible refine gate_callee (f := 69) rfl ?_); refine goesL_ (some 7) rfl rfl Tryz.func69 (by kernel_rfl) rfl #[.int .i64 a0_0] rfl Zq14 ?_; (with_reducible refine (value_of.calls a0_0 t117 _ A2.out).mono ?_); rintro e w' ⟨rfl, ⟨nd, rfl⟩⟩; refine ⟨_, rfl, ?_⟩))
   go_ret
   exact ⟨Zy51, Zy36⟩
  rw [if_pos c4] at H
  have c4b0 : (a0_2.toList == ([] : List UInt8)) = true := beq_iff_eq.mpr c4
  have c4b1 : (a0_2.toList != ([] : List UInt8)) = false := bne_eq_false_iff_eq.mpr c4
  clear c4
  by_cases c5 : a0_1 ≥ (-2147483648)
  ·rw [if_pos c5] at H
   have c5b0 : decide ((-2147483648) ≤ a0_1) = true := decide_eq_true c5
   clear c5
   obtain rfl := Option.some.inj H
   go_enter Tryz.func64, Tryz.ntmps64
   go_wp2_with (first | ((with_reducible refine gate_dst (N := 1) rfl ?_); (try (refine gate_guard (by rfl) ?_; dsimp only)); refine box_event ?hg (N := 1) ?hd (cs := #[.int .i64 a0_0, .int .i64 a0_1, .string a0_2]) (t := 38) ?hr ?_; (case hd => rfl); (case hg => rfl); (case hr => exact Zq2); intro gb116 hg w6 hbox hb; have BK116 := Aside0.mk (hbox); have GW116 := Aside0.mk ((Zq67 : w.heap.size ≤ gb116)); have GE116 := Aside0.mk ((Zq67 : w.heap.size ≤ gb116)); replace HB := Aside0.mk (below_step Zq13 hb); clear hb hbox hg; obtain ⟨hcz7_0, hcz7_1, hcz7_2⟩ := cells3_ BK116.out; obtain ⟨hfz7_0, hfz7_1, hfz7_2⟩ := frozen3_ BK116.out) | ((with_reducible refine gate_callee (f := 69) rfl ?_); refine goesL_ (some 7) rfl rfl Tryz.func69 (by kernel_rfl) rfl #[.int .i64 a0_0] rfl Zq14 ?_; (with_reducible refine (value_of.calls a0_0 t117 _ A2.out).mono ?_); rintro e w' ⟨rfl, ⟨nd, rfl⟩⟩; refine ⟨_, rfl, ?_⟩))
   go_ret
   exact ⟨Zy51, Zy36⟩
  rw [if_neg c5] at H
  have c5b0 : decide ((-2147483648) ≤ a0_1) = false := decide_eq_false c5
  clear c5
  obtain rfl := Option.some.inj H
  go_enter Tryz.func64, Tryz.ntmps64
  go_wp2_with (first | ((with_reducible refine gate_dst (N := 1) rfl ?_); (try (refine gate_guard (by rfl) ?_; dsimp only)); refine box_event ?hg (N := 1) ?hd (cs := #[.int .i64 a0_0, .int .i64 a0_1, .string a0_2]) (t := 38) ?hr ?_; (case hd => rfl); (case hg => rfl); (case hr => exact Zq2); intro gb116 hg w8 hbox hb; have BK116 := Aside0.mk (hbox); have GW116 := Aside0.mk ((Zq67 : w.heap.size ≤ gb116)); have GE116 := Aside0.mk ((Zq67 : w.heap.size ≤ gb116)); replace HB := Aside0.mk (below_step Zq13 hb); clear hb hbox hg; obtain ⟨hcz9_0, hcz9_1, hcz9_2⟩ := cells3_ BK116.out; obtain ⟨hfz9_0, hfz9_1, hfz9_2⟩ := frozen3_ BK116.out) | ((with_reducible refine gate_callee (f := 69) rfl ?_); refine goesL_ (some 7) rfl rfl Tryz.func69 (by kernel_rfl) rfl #[.int .i64 a0_0] rfl Zq14 ?_; (with_reducible refine (value_of.calls a0_0 t117 _ A2.out).mono ?_); rintro e w' ⟨rfl, ⟨nd, rfl⟩⟩; refine ⟨_, rfl, ?_⟩))
  go_ret
  exact ⟨Zy51, Zy36⟩
 rw [if_neg c3] at H
 have c3b0 : (t117 == 1) = false := beq_eq_false_iff_ne.mpr c3
 have c3b1 : (t117 != 1) = true := bne_iff_ne.mpr c3
 by_cases c12 : t117 = 2
 ·rw [if_pos c12] at H
  have c12b0 : (t117 == 2) = true := beq_iff_eq.mpr c12
  have c12b1 : (t117 != 2) = false := bne_eq_false_iff_eq.mpr c12
  clear c12
  by_cases c13 : a0_2.toList = ([] : List UInt8)
  rotate_left
  ·rw [if_neg c13] at H
   have c13b0 : (a0_2.toList == ([] : List UInt8)) = false := beq_eq_false_iff_ne.mpr c13
   have c13b1 : (a0_2.toList != ([] : List UInt8)) = true := bne_iff_ne.mpr c13
   obtain rfl := Option.some.inj H
   go_enter Tryz.func64, Tryz.ntmps64
   go_wp2_with (first | ((with_reducible refine gate_dst (N := 1) rfl ?_); (try (refine gate_guard (by rfl) ?_; dsimp only)); refine box_event ?hg (N := 1) ?hd (cs := #[.int .i64 a0_0, .int .i64 a0_1, .string a0_2]) (t := 38) ?hr ?_; (case hd => rfl); (case hg => rfl); (case hr => exact Zq2); intro gb116 hg w22 hbox hb; have BK116 := Aside0.mk (hbox); have GW116 := Aside0.mk ((Zq67 : w.heap.size ≤ gb116)); have GE116 := Aside0.mk ((Zq67 : w.heap.size ≤ gb116)); replace HB := Aside0.mk (below_step Zq13 hb); clear hb hbox hg; obtain ⟨hcz23_0, hcz23_1, hcz23_2⟩ := cells3_ BK116.out; obtain ⟨hfz23_0, hfz23_1, hfz23_2⟩ := frozen3_ BK116.out) | ((with_reducible refine gate_callee (f := 69) rfl ?_); refine goesL_ (some 7) rfl rfl Tryz.func69 (by kernel_rfl) rfl #[.int .i64 a0_0] rfl Zq14 ?_; (with_reducible refine (value_of.calls a0_0 t117 _ A2.out).mono ?_); rintro e w' ⟨rfl, ⟨nd, rfl⟩⟩; refine ⟨_, rfl, ?_⟩))
   go_ret
   exact ⟨Zy51, Zy36⟩
  rw [if_pos c13] at H
  have c13b0 : (a0_2.toList == ([] : List UInt8)) = true := beq_iff_eq.mpr c13
  have c13b1 : (a0_2.toList != ([] : List UInt8)) = false := bne_eq_false_iff_eq.mpr c13
  clear c13
  by_cases c14 : a0_0 = 70
  ·rw [if_pos c14] at H
   have c14b0 : (a0_0 == 70) = true := beq_iff_eq.mpr c14
   have c14b1 : (a0_0 != 70) = false := bne_eq_false_iff_eq.mpr c14
   clear c14
   obtain rfl := Option.some.inj H
   go_enter Tryz.func64, Tryz.ntmps64
   go_wp2_with (first | ((with_reducible refine gate_dst (N := 1) rfl ?_); (try (refine gate_guard (by rfl) ?_; dsimp only)); refine box_event ?hg (N := 1) ?hd (cs := #[.int .i64 a0_0, .int .i64 a0_1, .string a0_2]) (t := 38) ?hr ?_; (case hd => rfl); (case hg => rfl); (case hr => exact Zq2); intro gb116 hg w15 hbox hb; have BK116 := Aside0.mk (hbox); have GW116 := Aside0.mk ((Zq67 : w.heap.size ≤ gb116)); have GE116 := Aside0.mk ((Zq67 : w.heap.size ≤ gb116)); replace HB := Aside0.mk (below_step Zq13 hb); clear hb hbox hg; obtain ⟨hcz16_0, hcz16_1, hcz16_2⟩ := cells3_ BK116.out; obtain ⟨hfz16_0, hfz16_1, hfz16_2⟩ := frozen3_ BK116.out) | ((with_reducible refine gate_callee (f := 69) rfl ?_); refine goesL_ (some 7) rfl rfl Tryz.func69 (by kernel_rfl) rfl #[.int .i64 a0_0] rfl Zq14 ?_; (with_reducible refine (value_of.calls a0_0 t117 _ A2.out).mono ?_); rintro e w' ⟨rfl, ⟨nd, rfl⟩⟩; refine ⟨_, rfl, ?_⟩))
   go_ret
   exact ⟨Zy51, Zy36⟩
  rw [if_neg c14] at H
  have c14b0 : (a0_0 == 70) = false := beq_eq_false_iff_ne.mpr c14
  have c14b1 : (a0_0 != 70) = true := bne_iff_ne.mpr c14
  by_cases c17 : a0_1 ≥ 0
  ·rw [if_pos c17] at H
   have c17b0 : decide (0 ≤ a0_1) = true := decide_eq_true c17
   clear c17
   obtain rfl := Option.some.inj H
   go_enter Tryz.func64, Tryz.ntmps64
   go_wp2_with (first | ((with_reducible refine gate_dst (N := 1) rfl ?_); (try (refine gate_guard (by rfl) ?_; dsimp only)); refine box_event ?hg (N := 1) ?hd (cs := #[.int .i64 a0_0, .int .i64 a0_1, .string a0_2]) (t := 38) ?hr ?_; (case hd => rfl); (case hg => rfl); (case hr => exact Zq2); intro gb116 hg w18 hbox hb; have BK116 := Aside0.mk (hbox); have GW116 := Aside0.mk ((Zq67 : w.heap.size ≤ gb116)); have GE116 := Aside0.mk ((Zq67 : w.heap.size ≤ gb116)); replace HB := Aside0.mk (below_step Zq13 hb); clear hb hbox hg; obtain ⟨hcz19_0, hcz19_1, hcz19_2⟩ := cells3_ BK116.out; obtain ⟨hfz19_0, hfz19_1, hfz19_2⟩ := frozen3_ BK116.out) | ((with_reducible refine gate_callee (f := 69) rfl ?_); refine goesL_ (some 7) rfl rfl Tryz.func69 (by kernel_rfl) rfl #[.int .i64 a0_0] rfl Zq14 ?_; (with_reducible refine (value_of.calls a0_0 t117 _ A2.out).mono ?_); rintro e w' ⟨rfl, ⟨nd, rfl⟩⟩; refine ⟨_, rfl, ?_⟩))
   go_ret
   exact ⟨Zy51, Zy36⟩
  rw [if_neg c17] at H
  have c17b0 : decide (0 ≤ a0_1) = false := decide_eq_false c17
  clear c17
  obtain rfl := Option.some.inj H
  go_enter Tryz.func64, Tryz.ntmps64
  go_wp2_with (first | ((with_reducible refine gate_dst (N := 1) rfl ?_); (try (refine gate_guard (by rfl) ?_; dsimp only)); refine box_event ?hg (N := 1) ?hd (cs := #[.int .i64 a0_0, .int .i64 a0_1, .string a0_2]) (t := 38) ?hr ?_; (case hd => rfl); (case hg => rfl); (case hr => exact Zq2); intro gb116 hg w20 hbox hb; have BK116 := Aside0.mk (hbox); have GW116 := Aside0.mk ((Zq67 : w.heap.size ≤ gb116)); have GE116 := Aside0.mk ((Zq67 : w.heap.size ≤ gb116)); replace HB := Aside0.mk (below_step Zq13 hb); clear hb hbox hg; obtain ⟨hcz21_0, hcz21_1, hcz21_2⟩ := cells3_ BK116.out; obtain ⟨hfz21_0, hfz21_1, hfz21_2⟩ := frozen3_ BK116.out) | ((with_reducible refine gate_callee (f := 69) rfl ?_); refine goesL_ (some 7) rfl rfl Tryz.func69 (by kernel_rfl) rfl #[.int .i64 a0_0] rfl Zq14 ?_; (with_reducible refine (value_of.calls a0_0 t117 _ A2.out).mono ?_); rintro e w' ⟨rfl, ⟨nd, rfl⟩⟩; refine ⟨_, rfl, ?_⟩))
  go_ret
  exact ⟨Zy51, Zy36⟩
 rw [if_neg c12] at H
 have c12b0 : (t117 == 2) = false := beq_eq_false_iff_ne.mpr c12
 have c12b1 : (t117 != 2) = true := bne_iff_ne.mpr c12
 by_cases c24 : t117 = 3
 ·rw [if_pos c24] at H
  have c24b0 : (t117 == 3) = true := beq_iff_eq.mpr c24
  have c24b1 : (t117 != 3) = false := bne_eq_false_iff_eq.mpr c24
  clear c24
  by_cases c25 : a0_1 = 0
  rotate_left
  ·rw [if_neg c25] at H
   have c25b0 : (a0_1 == 0) = false := beq_eq_false_iff_ne.mpr c25
   have c25b1 : (a0_1 != 0) = true := bne_iff_ne.mpr c25
   obtain rfl := Option.some.inj H
   go_enter Tryz.func64, Tryz.ntmps64
   go_wp2_with (first | ((with_reducible refine gate_dst (N := 1) rfl ?_); (try (refine gate_guard (by rfl) ?_; dsimp only)); refine box_event ?hg (N := 1) ?hd (cs := #[.int .i64 a0_0, .int .i64 a0_1, .string a0_2]) (t := 38) ?hr ?_; (case hd => rfl); (case hg => rfl); (case hr => exact Zq2); intro gb116 hg w29 hbox hb; have BK116 := Aside0.mk (hbox); have GW116 := Aside0.mk ((Zq67 : w.heap.size ≤ gb116)); have GE116 := Aside0.mk ((Zq67 : w.heap.size ≤ gb116)); replace HB := Aside0.mk (below_step Zq13 hb); clear hb hbox hg; obtain ⟨hcz30_0, hcz30_1, hcz30_2⟩ := cells3_ BK116.out; obtain ⟨hfz30_0, hfz30_1, hfz30_2⟩ := frozen3_ BK116.out) | ((with_reducible refine gate_callee (f := 69) rfl ?_); refine goesL_ (some 7) rfl rfl Tryz.func69 (by kernel_rfl) rfl #[.int .i64 a0_0] rfl Zq14 ?_; (with_reducible refine (value_of.calls a0_0 t117 _ A2.out).mono ?_); rintro e w' ⟨rfl, ⟨nd, rfl⟩⟩; refine ⟨_, rfl, ?_⟩))
   go_ret
   exact ⟨Zy51, Zy36⟩
  rw [if_pos c25] at H
  have c25b0 : (a0_1 == 0) = true := beq_iff_eq.mpr c25
  have c25b1 : (a0_1 != 0) = false := bne_eq_false_iff_eq.mpr c25
  clear c25
  replace H := Option.bind_eq_some_iff.mp H
  obtain ⟨t118, A260, H⟩ := H
  replace H : (some t118) = some r := H
  have A26 := Aside0.mk A260
  clear A260
  obtain rfl := Option.some.inj H
  go_enter Tryz.func64, Tryz.ntmps64
  go_wp2_with (first | ((with_reducible refine gate_dst (N := 1) rfl ?_); (try (refine gate_guard (by rfl) ?_; dsimp only)); refine box_event ?hg (N := 1) ?hd (cs := #[.int .i64 a0_0, .int .i64 a0_1, .string a0_2]) (t := 38) ?hr ?_; (case hd => rfl); (case hg => rfl); (case hr => exact Zq2); intro gb116 hg w27 hbox hb; have BK116 := Aside0.mk (hbox); have GW116 := Aside0.mk ((Zq67 : w.heap.size ≤ gb116)); have GE116 := Aside0.mk ((Zq67 : w.heap.size ≤ gb116)); replace HB := Aside0.mk (below_step Zq13 hb); clear hb hbox hg; obtain ⟨hcz28_0, hcz28_1, hcz28_2⟩ := cells3_ BK116.out; obtain ⟨hfz28_0, hfz28_1, hfz28_2⟩ := frozen3_ BK116.out) | ((with_reducible refine gate_callee (f := 69) rfl ?_); refine goesL_ (some 7) rfl rfl Tryz.func69 (by kernel_rfl) rfl #[.int .i64 a0_0] rfl Zq14 ?_; (with_reducible refine (value_of.calls a0_0 t117 _ A2.out).mono ?_); rintro e w' ⟨rfl, ⟨nd, rfl⟩⟩; refine ⟨_, rfl, ?_⟩) | (go_at_call 80; (with_reducible refine (value_long.calls a0_0 (a0_2.size : Int) t118 _ A26.out).mono ?_); rintro e w' ⟨rfl, ⟨nd, rfl⟩⟩))
  go_ret
  exact ⟨Zy51, Zy36⟩
 rw [if_neg c24] at H
 have c24b0 : (t117 == 3) = false := beq_eq_false_iff_ne.mpr c24
 have c24b1 : (t117 != 3) = true := bne_iff_ne.mpr c24
 by_cases c31 : t117 = 4
 rotate_left
 ·rw [if_neg c31] at H
  have c31b0 : (t117 == 4) = false := beq_eq_false_iff_ne.mpr c31
  have c31b1 : (t117 != 4) = true := bne_iff_ne.mpr c31
  by_cases c42 : t117 = 5
  rotate_left
  ·rw [if_neg c42] at H
   have c42b0 : (t117 == 5) = false := beq_eq_false_iff_ne.mpr c42
   have c42b1 : (t117 != 5) = true := bne_iff_ne.mpr c42
   obtain rfl := Option.some.inj H
   go_enter Tryz.func64, Tryz.ntmps64
   go_wp2_with (first | ((with_reducible refine gate_dst (N := 1) rfl ?_); (try (refine gate_guard (by rfl) ?_; dsimp only)); refine box_event ?hg (N := 1) ?hd (cs := #[.int .i64 a0_0, .int .i64 a0_1, .string a0_2]) (t := 38) ?hr ?_; (case hd => rfl); (case hg => rfl); (case hr => exact Zq2); intro gb116 hg w45 hbox hb; have BK116 := Aside0.mk (hbox); have GW116 := Aside0.mk ((Zq67 : w.heap.size ≤ gb116)); have GE116 := Aside0.mk ((Zq67 : w.heap.size ≤ gb116)); replace HB := Aside0.mk (below_step Zq13 hb); clear hb hbox hg; obtain ⟨hcz46_0, hcz46_1, hcz46_2⟩ := cells3_ BK116.out; obtain ⟨hfz46_0, hfz46_1, hfz46_2⟩ := frozen3_ BK116.out) | ((with_reducible refine gate_callee (f := 69) rfl ?_); refine goesL_ (some 7) rfl rfl Tryz.func69 (by kernel_rfl) rfl #[.int .i64 a0_0] rfl Zq14 ?_; (with_reducible refine (value_of.calls a0_0 t117 _ A2.out).mono ?_); rintro e w' ⟨rfl, ⟨nd, rfl⟩⟩; refine ⟨_, rfl, ?_⟩))
   go_ret
   exact ⟨Zy51, Zy36⟩
  rw [if_pos c42] at H
  have c42b0 : (t117 == 5) = true := beq_iff_eq.mpr c42
  have c42b1 : (t117 != 5) = false := bne_eq_false_iff_eq.mpr c42
  clear c42
  obtain rfl := Option.some.inj H
  go_enter Tryz.func64, Tryz.ntmps64
  go_wp2_with (first | ((with_reducible refine gate_dst (N := 1) rfl ?_); (try (refine gate_guard (by rfl) ?_; dsimp only)); refine box_event ?hg (N := 1) ?hd (cs := #[.int .i64 a0_0, .int .i64 a0_1, .string a0_2]) (t := 38) ?hr ?_; (case hd => rfl); (case hg => rfl); (case hr => exact Zq2); intro gb116 hg w43 hbox hb; have BK116 := Aside0.mk (hbox); have GW116 := Aside0.mk ((Zq67 : w.heap.size ≤ gb116)); have GE116 := Aside0.mk ((Zq67 : w.heap.size ≤ gb116)); replace HB := Aside0.mk (below_step Zq13 hb); clear hb hbox hg; obtain ⟨hcz44_0, hcz44_1, hcz44_2⟩ := cells3_ BK116.out; obtain ⟨hfz44_0, hfz44_1, hfz44_2⟩ := frozen3_ BK116.out) | ((with_reducible refine gate_callee (f := 69) rfl ?_); refine goesL_ (some 7) rfl rfl Tryz.func69 (by kernel_rfl) rfl #[.int .i64 a0_0] rfl Zq14 ?_; (with_reducible refine (value_of.calls a0_0 t117 _ A2.out).mono ?_); rintro e w' ⟨rfl, ⟨nd, rfl⟩⟩; refine ⟨_, rfl, ?_⟩))
  go_ret
  exact ⟨Zy51, Zy36⟩
 rw [if_pos c31] at H
 have c31b0 : (t117 == 4) = true := beq_iff_eq.mpr c31
 have c31b1 : (t117 != 4) = false := bne_eq_false_iff_eq.mpr c31
 clear c31
 replace H := Option.bind_eq_some_iff.mp H
 obtain ⟨⟨t119, t120⟩, A320, H⟩ := H
 replace H : (if a0_1 = 0 then (some (t120 == 0)) else (some false)) = some r := H
 have A32 := Aside0.mk A320
 clear A320
 by_cases c33 : a0_1 = 0
 rotate_left
 ·rw [if_neg c33] at H
  have c33b0 : (a0_1 == 0) = false := beq_eq_false_iff_ne.mpr c33
  have c33b1 : (a0_1 != 0) = true := bne_iff_ne.mpr c33
  obtain rfl := Option.some.inj H
  go_enter Tryz.func64, Tryz.ntmps64
  go_wp2_with (first | ((with_reducible refine gate_dst (N := 1) rfl ?_); (try (refine gate_guard (by rfl) ?_; dsimp only)); refine box_event ?hg (N := 1) ?hd (cs := #[.int .i64 a0_0, .int .i64 a0_1, .string a0_2]) (t := 38) ?hr ?_; (case hd => rfl); (case hg => rfl); (case hr => exact Zq2); intro gb116 hg w38 hbox hb; have BK116 := Aside0.mk (hbox); have GW116 := Aside0.mk ((Zq67 : w.heap.size ≤ gb116)); have GE116 := Aside0.mk ((Zq67 : w.heap.size ≤ gb116)); replace HB := Aside0.mk (below_step Zq13 hb); clear hb hbox hg; obtain ⟨hcz39_0, hcz39_1, hcz39_2⟩ := cells3_ BK116.out; obtain ⟨hfz39_0, hfz39_1, hfz39_2⟩ := frozen3_ BK116.out) | ((with_reducible refine gate_callee (f := 69) rfl ?_); refine goesL_ (some 7) rfl rfl Tryz.func69 (by kernel_rfl) rfl #[.int .i64 a0_0] rfl Zq14 ?_; (with_reducible refine (value_of.calls a0_0 t117 _ A2.out).mono ?_); rintro e w' ⟨rfl, ⟨nd, rfl⟩⟩; refine ⟨_, rfl, ?_⟩) | ((with_reducible refine gate_callee (f := 47) rfl ?_); refine goesL_ (some 61) rfl rfl Tryz.func47 (by kernel_rfl) rfl #[.string a0_2] rfl Zq14 ?_; (with_reducible refine (oid_Arcs.calls k a0_2 t119 t120 _ ?side1 A32.out).mono ?_); (case side1 => exact Zq71); rintro e w40 ⟨v121, rfl, ho0, hb⟩; refine ⟨_, rfl, ?_⟩; have HO122 := Aside0.mk (Kd.R_lower ho0 (below_size Zq16)); replace BK116 := Aside0.mk (blkb_ BK116.out Zq52 hb); replace HB := Aside0.mk (below_step Zq16 hb); (try clear hb); (try clear hb2); (try clear hk); (try clear hi); (try clear ho0); obtain ⟨hcz41_0, hcz41_1, hcz41_2⟩ := cells3_ BK116.out; obtain ⟨hfz41_0, hfz41_1, hfz41_2⟩ := frozen3_ BK116.out))
  go_ret
  exact ⟨Zy51, Zy36⟩
 rw [if_pos c33] at H
 have c33b0 : (a0_1 == 0) = true := beq_iff_eq.mpr c33
 have c33b1 : (a0_1 != 0) = false := bne_eq_false_iff_eq.mpr c33
 clear c33
 obtain rfl := Option.some.inj H
 go_enter Tryz.func64, Tryz.ntmps64
 go_wp2_with (first | ((with_reducible refine gate_dst (N := 1) rfl ?_); (try (refine gate_guard (by rfl) ?_; dsimp only)); refine box_event ?hg (N := 1) ?hd (cs := #[.int .i64 a0_0, .int .i64 a0_1, .string a0_2]) (t := 38) ?hr ?_; (case hd => rfl); (case hg => rfl); (case hr => exact Zq2); intro gb116 hg w34 hbox hb; have BK116 := Aside0.mk (hbox); have GW116 := Aside0.mk ((Zq67 : w.heap.size ≤ gb116)); have GE116 := Aside0.mk ((Zq67 : w.heap.size ≤ gb116)); replace HB := Aside0.mk (below_step Zq13 hb); clear hb hbox hg; obtain ⟨hcz35_0, hcz35_1, hcz35_2⟩ := cells3_ BK116.out; obtain ⟨hfz35_0, hfz35_1, hfz35_2⟩ := frozen3_ BK116.out) | ((with_reducible refine gate_callee (f := 69) rfl ?_); refine goesL_ (some 7) rfl rfl Tryz.func69 (by kernel_rfl) rfl #[.int .i64 a0_0] rfl Zq14 ?_; (with_reducible refine (value_of.calls a0_0 t117 _ A2.out).mono ?_); rintro e w' ⟨rfl, ⟨nd, rfl⟩⟩; refine ⟨_, rfl, ?_⟩) | ((with_reducible refine gate_callee (f := 47) rfl ?_); refine goesL_ (some 61) rfl rfl Tryz.func47 (by kernel_rfl) rfl #[.string a0_2] rfl Zq14 ?_; (with_reducible refine (oid_Arcs.calls k a0_2 t119 t120 _ ?side1 A32.out).mono ?_); (case side1 => exact Zq71); rintro e w36 ⟨v121, rfl, ho0, hb⟩; refine ⟨_, rfl, ?_⟩; have HO122 := Aside0.mk (Kd.R_lower ho0 (below_size Zq16)); replace BK116 := Aside0.mk (blkb_ BK116.out Zq52 hb); replace HB := Aside0.mk (below_step Zq16 hb); (try clear hb); (try clear hb2); (try clear hk); (try clear hi); (try clear ho0); obtain ⟨hcz37_0, hcz37_1, hcz37_2⟩ := cells3_ BK116.out; obtain ⟨hfz37_0, hfz37_1, hfz37_2⟩ := frozen3_ BK116.out))
 go_ret
 exact ⟨Zy51, Zy36⟩
def value_Check.f (k : Nat) (a0_0 : Int) (a0_1 : Int) (a0_2 : ByteArray) : Option (Int) := (value_right.f k a0_0 a0_1 a0_2).bind fun t124 => (if t124 = true then (some 0) else (some 70))
set_option maxHeartbeats 8000000 in
set_option maxRecDepth 100000 in
theorem value_Check.calls (k : Nat) (a0_0 : Int) (a0_1 : Int) (a0_2 : ByteArray) (r : Int) (w : World) (hG : Gl w) (h : value_Check.f k a0_0 a0_1 a0_2 = some r) :
  Calls Tryz.prog 48 #[.agg #[.int .i64 a0_0, .int .i64 a0_1, .string a0_2]] w fun e w' => e = .returned (.int .i64 r) ∧ Below w.heap.size w w' := by
 have HGl := Aside0.mk hG
 clear hG
 have hu38 := Tryz.underlying38
 have HB := Aside0.mk (Below.refl w.heap.size w)
 have H : ((value_right.f k a0_0 a0_1 a0_2).bind fun t124 => (if t124 = true then (some 0) else (some 70))) = some r := h
 clear h
 replace H := Option.bind_eq_some_iff.mp H
 obtain ⟨t124, A20, H⟩ := H
 replace H : (if t124 = true then (some 0) else (some 70)) = some r := H
 have A2 := Aside0.mk A20
 clear A20
 by_cases c3 : t124 = true
 ·subst c3
  have H1 : (some 0) = some r := by rw [if_pos rfl] at H; exact H
  clear H
  have H := H1
  clear H1
  obtain rfl := Option.some.inj H
  go_enter Tryz.func48, Tryz.ntmps48
  go_wp2_with (first | ((with_reducible refine gate_dst (N := 1) rfl ?_); refine box_event ?hg (N := 1) ?hd (cs := #[.int .i64 a0_0, .int .i64 a0_1, .string a0_2]) (t := 38) ?hr ?_; (case hd => rfl); (case hg => rfl); (case hr => exact Zq2); intro gb123 hg w4 hbox hb; have BK123 := Aside0.mk (hbox); have GW123 := Aside0.mk ((by rw [hg]; exact (below_size Zq13) : w.heap.size ≤ gb123)); have GE123 := Aside0.mk ((by rw [hg]; exact (below_size Zq13) : w.heap.size ≤ gb123)); replace HB := Aside0.mk (below_step Zq13 hb); clear hb hbox hg; obtain ⟨hcz5_0, hcz5_1, hcz5_2⟩ := cells3_ BK123.out; obtain ⟨hfz5_0, hfz5_1, hfz5_2⟩ := frozen3_ BK123.out) | ((with_reducible refine gate_callee (f := 64) rfl ?_); refine goesL_ (some 4) rfl rfl Tryz.func64 (by kernel_rfl) rfl #[.agg #[.int .i64 a0_0, .int .i64 a0_1, .string a0_2]] rfl Zq14 ?_; (with_reducible refine (value_right.calls k a0_0 a0_1 a0_2 true _ ?side1 A2.out).mono ?_); (case side1 => exact Zq71); rintro e w6 ⟨rfl, hb⟩; refine ⟨_, rfl, ?_⟩; replace BK123 := Aside0.mk (blkb_ BK123.out Zq52 hb); replace HB := Aside0.mk (below_step Zy37 hb); (try clear hb); (try clear hb2); (try clear hk); (try clear hi)))
  go_ret
  exact ⟨Zy51, Zy37⟩
 replace c3 := Bool.eq_false_iff.mpr c3
 subst c3
 have H1 : (some 70) = some r := by rw [if_neg (show ¬ (false = true) by decide)] at H; exact H
 clear H
 have H := H1
 clear H1
 obtain rfl := Option.some.inj H
 go_enter Tryz.func48, Tryz.ntmps48
 go_wp2_with (first | ((with_reducible refine gate_dst (N := 1) rfl ?_); refine box_event ?hg (N := 1) ?hd (cs := #[.int .i64 a0_0, .int .i64 a0_1, .string a0_2]) (t := 38) ?hr ?_; (case hd => rfl); (case hg => rfl); (case hr => exact Zq2); intro gb123 hg w7 hbox hb; have BK123 := Aside0.mk (hbox); have GW123 := Aside0.mk ((by rw [hg]; exact (below_size Zq13) : w.heap.size ≤ gb123)); have GE123 := Aside0.mk ((by rw [hg]; exact (below_size Zq13) : w.heap.size ≤ gb123)); replace HB := Aside0.mk (below_step Zq13 hb); clear hb hbox hg; obtain ⟨hcz8_0, hcz8_1, hcz8_2⟩ := cells3_ BK123.out; obtain ⟨hfz8_0, hfz8_1, hfz8_2⟩ := frozen3_ BK123.out) | ((with_reducible refine gate_callee (f := 64) rfl ?_); refine goesL_ (some 4) rfl rfl Tryz.func64 (by kernel_rfl) rfl #[.agg #[.int .i64 a0_0, .int .i64 a0_1, .string a0_2]] rfl Zq14 ?_; (with_reducible refine (value_right.calls k a0_0 a0_1 a0_2 false _ ?side1 A2.out).mono ?_); (case side1 => exact Zq71); rintro e w9 ⟨rfl, hb⟩; refine ⟨_, rfl, ?_⟩; replace BK123 := Aside0.mk (blkb_ BK123.out Zq52 hb); replace HB := Aside0.mk (below_step Zy37 hb); (try clear hb); (try clear hb2); (try clear hk); (try clear hi)))
 go_ret
 exact ⟨Zy51, Zy37⟩
def pdu_isBind.f (k : Nat) (a0_0 : ByteArray) (a0_1 : Int) (a0_2 : Int) (a0_3 : ByteArray) : Option (Bool) := (oid_Arcs.f k a0_0).bind fun bt126 => (if bt126.2 = 0 then ((value_Check.f k a0_1 a0_2 a0_3).bind fun t130 => (some (t130 == 0))) else (some false))
set_option maxHeartbeats 8000000 in
set_option maxRecDepth 100000 in
theorem pdu_isBind.calls (k : Nat) (a0_0 : ByteArray) (a0_1 : Int) (a0_2 : Int) (a0_3 : ByteArray) (r : Bool) (w : World) (hG : Gl w) (h : pdu_isBind.f k a0_0 a0_1 a0_2 a0_3 = some r) :
  Calls Tryz.prog 33 #[.agg #[.string a0_0, .int .i64 a0_1, .int .i64 a0_2, .string a0_3]] w fun e w' => e = .returned (.bool r) ∧ Below w.heap.size w w' := by
 have HGl := Aside0.mk hG
 clear hG
 have hu40 := Tryz.underlying40
 have hu38 := Tryz.underlying38
 have HB := Aside0.mk (Below.refl w.heap.size w)
 have H : ((oid_Arcs.f k a0_0).bind fun bt126 => (if bt126.2 = 0 then ((value_Check.f k a0_1 a0_2 a0_3).bind fun t130 => (some (t130 == 0))) else (some false))) = some r := h
 clear h
 replace H := Option.bind_eq_some_iff.mp H
 obtain ⟨⟨t126, t127⟩, A20, H⟩ := H
 replace H : (if t127 = 0 then ((value_Check.f k a0_1 a0_2 a0_3).bind fun t130 => (some (t130 == 0))) else (some false)) = some r := H
 have A2 := Aside0.mk A20
 clear A20
 by_cases c3 : t127 = 0
 rotate_left
 ·rw [if_neg c3] at H
  have c3b0 : (t127 == 0) = false := beq_eq_false_iff_ne.mpr c3
  have c3b1 : (t127 != 0) = true := bne_iff_ne.mpr c3
  obtain rfl := Option.some.inj H
  go_enter Tryz.func33, Tryz.ntmps33
  go_wp2_with (first | ((with_reducible refine gate_dst (N := 1) rfl ?_); refine box_event ?hg (N := 1) ?hd (cs := #[.string a0_0, .int .i64 a0_1, .int .i64 a0_2, .string a0_3]) (t := 40) ?hr ?_; (case hd => rfl); (case hg => rfl); (case hr => exact Zq2); intro gb125 hg w10 hbox hb; have BK125 := Aside0.mk (hbox); have GW125 := Aside0.mk ((by rw [hg]; exact (below_size Zq13) : w.heap.size ≤ gb125)); have GE125 := Aside0.mk ((by rw [hg]; exact (below_size Zq13) : w.heap.size ≤ gb125)); replace HB := Aside0.mk (below_step Zq13 hb); clear hb hbox hg; obtain ⟨hcz11_0, hcz11_1, hcz11_2, hcz11_3⟩ := cells4_ BK125.out; obtain ⟨hfz11_0, hfz11_1, hfz11_2, hfz11_3⟩ := frozen4_ BK125.out) | ((with_reducible refine gate_callee (f := 47) rfl ?_); refine goesL_ (some 8) rfl rfl Tryz.func47 (by kernel_rfl) rfl #[.string a0_0] rfl Zq14 ?_; (with_reducible refine (oid_Arcs.calls k a0_0 t126 t127 _ ?side1 A2.out).mono ?_); (case side1 => exact Zq71); rintro e w12 ⟨v128, rfl, ho0, hb⟩; refine ⟨_, rfl, ?_⟩; have HO129 := Aside0.mk (Kd.R_lower ho0 (below_size Zq17)); replace BK125 := Aside0.mk (blkb_ BK125.out Zq52 hb); replace HB := Aside0.mk (below_step Zq17 hb); (try clear hb); (try clear hb2); (try clear hk); (try clear hi); (try clear ho0)))
  go_ret
  exact ⟨Zy51, Zy38⟩
 rw [if_pos c3] at H
 have c3b0 : (t127 == 0) = true := beq_iff_eq.mpr c3
 have c3b1 : (t127 != 0) = false := bne_eq_false_iff_eq.mpr c3
 clear c3
 replace H := Option.bind_eq_some_iff.mp H
 obtain ⟨t130, A40, H⟩ := H
 replace H : (some (t130 == 0)) = some r := H
 have A4 := Aside0.mk A40
 clear A40
 obtain rfl := Option.some.inj H
 go_enter Tryz.func33, Tryz.ntmps33
 go_wp2_with (first | ((with_reducible refine gate_dst (N := 1) rfl ?_); refine box_event ?hg (N := 1) ?hd (cs := #[.string a0_0, .int .i64 a0_1, .int .i64 a0_2, .string a0_3]) (t := 40) ?hr ?_; (case hd => rfl); (case hg => rfl); (case hr => exact Zq2); intro gb125 hg w5 hbox hb; have BK125 := Aside0.mk (hbox); have GW125 := Aside0.mk ((by rw [hg]; exact (below_size Zq13) : w.heap.size ≤ gb125)); have GE125 := Aside0.mk ((by rw [hg]; exact (below_size Zq13) : w.heap.size ≤ gb125)); replace HB := Aside0.mk (below_step Zq13 hb); clear hb hbox hg; obtain ⟨hcz6_0, hcz6_1, hcz6_2, hcz6_3⟩ := cells4_ BK125.out; obtain ⟨hfz6_0, hfz6_1, hfz6_2, hfz6_3⟩ := frozen4_ BK125.out) | ((with_reducible refine gate_callee (f := 47) rfl ?_); refine goesL_ (some 8) rfl rfl Tryz.func47 (by kernel_rfl) rfl #[.string a0_0] rfl Zq14 ?_; (with_reducible refine (oid_Arcs.calls k a0_0 t126 t127 _ ?side1 A2.out).mono ?_); (case side1 => exact Zq71); rintro e w7 ⟨v128, rfl, ho0, hb⟩; refine ⟨_, rfl, ?_⟩; have HO129 := Aside0.mk (Kd.R_lower ho0 (below_size Zq17)); replace BK125 := Aside0.mk (blkb_ BK125.out Zq52 hb); replace HB := Aside0.mk (below_step Zq17 hb); (try clear hb); (try clear hb2); (try clear hk); (try clear hi); (try clear ho0); obtain ⟨hcz8_0, hcz8_1, hcz8_2, hcz8_3⟩ := cells4_ BK125.out; obtain ⟨hfz8_0, hfz8_1, hfz8_2, hfz8_3⟩ := frozen4_ BK125.out) | (go_at_call 48; (with_reducible refine (value_Check.calls k a0_1 a0_2 a0_3 t130 _ ?side1 A4.out).mono ?_); (case side1 => exact Zq71); rintro e w9 ⟨rfl, hb⟩; replace HO129 := Aside0.mk (Kd.R_below (by (with_reducible repeat (first | apply Kd.R_alloc | apply Kd.R_drewN | apply Kd.R_drew)); exact HO129.out) hb); replace BK125 := Aside0.mk (blkb_ BK125.out Zq52 hb); replace HB := Aside0.mk (below_step Zq17 hb); (try clear hb); (try clear hb2); (try clear hk); (try clear hi)))
 go_ret
 exact ⟨Zy51, Zy38⟩
end Go.Proofs.YtfmhghlmljlfgaaGreatDoor.XTrS
