-- Laid by extprint.py (the session's own driver): functions told by the kit's printer and by hand.
import Derived.Test.YtjfimileopbadaaGreatDoorXPdFx0
import Derived.Test.YtjfimileopbadaaGreatDoorXPdFx2
import Derived.Test.YtjfimileopbadaaGreatDoorXPdFx3
import Derived.Test.YtjfimileopbadaaGreatDoorXPdFx8
import Derived.Test.YtjfimileopbadaaGreatDoorXPdFx9
namespace Go.Proofs.YtjfimileopbadaaGreatDoor.XPdF
open Go.RowKit Gong Go.Proofs.YtjfimileopbadaaGreatDoorW.PrintWords Go.Proofs.YtjfimileopbadaaGreatDoorW.PrintLast Go.Proofs.YtjfimileopbadaaGreatDoorW.PrintMore
attribute [local go_sem] max2_int min2_int max_two min_two max_three min_three max_four min_four   -- for this text's walks alone
set_option linter.unusedVariables false
set_option linter.unusedSimpArgs false

attribute [local go_sem high] eqA30
/-! ### gonglaw08_PduFind: function 4 -/
mutual
def gonglaw08_PduFind.j0 : Nat → List (S30) → List (S30) → ByteArray → Bool → Option (Bool)
  | 0, _, _, _, _ => none
  | k + 1, x0, x1, x2, x37 => if x37 = true then (some true) else ((some (([] : List (S30)) : List (S30))).bind fun y214 => (if y214.length + x0.length < 2932031007402 then ((some (y214 ++ x0 : List (S30))).bind fun y217 => (if y217.length + x1.length < 2932031007402 then ((some (y217 ++ x1 : List (S30))).bind fun y220 => ((pdu_Find.f k x0 x2).bind fun t223 => ((pdu_Find.f k x1 x2).bind fun t226 => ((pdu_Find.f k y220 x2).bind fun t229 => (if (t229.length : Int) = (wrap64 ((t223.length : Int) + (t226.length : Int))) then (gonglaw08_PduFind.l0 k x2 y220 t223 t226 t229 (t229.length : Int) 0) else (none)))))) else (none))) else (none)))
def gonglaw08_PduFind.l0 : Nat → ByteArray → List (S30) → List (S30) → List (S30) → List (S30) → Int → Int → Option (Bool)
  | 0, _, _, _, _, _, _, _ => none
  | k + 1, x2, x7, x8, x9, x10, x61, x62 => if x62 < x61 then (if x62 < (x8.length : Int) then (if 0 ≤ x62 then (if x62 < (x10.length : Int) then (if (!((((rd_T30 x10 x62).f0).toList) == (((rd_T30 x8 x62).f0).toList)) || ((!(((rd_T30 x10 x62).f1.f0) == ((rd_T30 x8 x62).f1.f0)) || (!(((rd_T30 x10 x62).f1.f1) == ((rd_T30 x8 x62).f1.f1)) || (!((((rd_T30 x10 x62).f1.f2).toList) == (((rd_T30 x8 x62).f1.f2).toList))))))) = true then (none) else ((oid_Within.f k x2 ((rd_T30 x10 x62).f0)).bind fun t241 => (if t241 = true then (gonglaw08_PduFind.l0 k x2 x7 x8 x9 x10 x61 (wrap64 (x62 + 1))) else (none)))) else (none)) else (none)) else (if 0 ≤ (wrap64 (x62 - (x8.length : Int))) then (if (wrap64 (x62 - (x8.length : Int))) < (x9.length : Int) then (if 0 ≤ x62 then (if x62 < (x10.length : Int) then (if (!((((rd_T30 x10 x62).f0).toList) == (((rd_T30 x9 (wrap64 (x62 - (x8.length : Int)))).f0).toList)) || ((!(((rd_T30 x10 x62).f1.f0) == ((rd_T30 x9 (wrap64 (x62 - (x8.length : Int)))).f1.f0)) || (!(((rd_T30 x10 x62).f1.f1) == ((rd_T30 x9 (wrap64 (x62 - (x8.length : Int)))).f1.f1)) || (!((((rd_T30 x10 x62).f1.f2).toList) == (((rd_T30 x9 (wrap64 (x62 - (x8.length : Int)))).f1.f2).toList))))))) = true then (none) else ((oid_Within.f k x2 ((rd_T30 x10 x62).f0)).bind fun t245 => (if t245 = true then (gonglaw08_PduFind.l0 k x2 x7 x8 x9 x10 x61 (wrap64 (x62 + 1))) else (none)))) else (none)) else (none)) else (none)) else (none))) else ((oid_Child.f k x2 1).bind fun bt232 => (if bt232.2 = 0 then ((pdu_Find.f k x7 bt232.1).bind fun t234 => (some (decide ((t234.length : Int) ≤ (x10.length : Int))))) else (some true)))
end
def gonglaw08_PduFind.f (k : Nat) (l0 : List (S30)) (l1 : List (S30)) (a2 : ByteArray) : Option (Bool) := (gonglaw08_works.f k).bind fun t211 => (if t211 = true then ((gonglaw08_small.f k l0).bind fun t212 => (if t212 = true then ((gonglaw08_small.f k l1).bind fun t213 => (if t213 = true then (if (a2.size : Int) > 1000 then (gonglaw08_PduFind.j0 k l0 l1 a2 true) else (gonglaw08_PduFind.j0 k l0 l1 a2 (decide ((wrap64 ((l0.length : Int) + (l1.length : Int))) > 80)))) else (gonglaw08_PduFind.j0 k l0 l1 a2 true))) else (gonglaw08_PduFind.j0 k l0 l1 a2 true))) else (none))
theorem gonglaw08_PduFind.mono_l : ∀ k, (∀ y0 y1 y2 y3, LeO (gonglaw08_PduFind.j0 k y0 y1 y2 y3) (gonglaw08_PduFind.j0 (k + 1) y0 y1 y2 y3)) ∧ (∀ y0 y1 y2 y3 y4 y5 y6, LeO (gonglaw08_PduFind.l0 k y0 y1 y2 y3 y4 y5 y6) (gonglaw08_PduFind.l0 (k + 1) y0 y1 y2 y3 y4 y5 y6))
  | 0 => ⟨fun _ _ _ _ r h => by simp [gonglaw08_PduFind.j0] at h, fun _ _ _ _ _ _ _ r h => by simp [gonglaw08_PduFind.l0] at h⟩
  | k + 1 => by
    obtain ⟨ih0, ih1⟩ := gonglaw08_PduFind.mono_l k
    refine ⟨?_, ?_⟩
    · intro y0 y1 y2 y3
      unfold gonglaw08_PduFind.j0
      repeat' first
      | (with_reducible exact ih0 _ _ _ _)
      | (with_reducible exact ih1 _ _ _ _ _ _ _)
      | (with_reducible exact gonglaw08_small.mono _ _)
      | (with_reducible exact gonglaw08_works.mono _)
      | (with_reducible exact oid_Child.mono _ _ _)
      | (with_reducible exact oid_Within.mono _ _ _)
      | (with_reducible exact pdu_Find.mono _ _ _)
      | (with_reducible exact LeO.refl _)
      | (with_reducible exact LeO.none _)
      | (with_reducible refine LeO.ite ?_ ?_)
      | (with_reducible refine LeO.bind ?_ (fun _ => ?_))
      | exact ih0 _ _ _ _
      | exact ih1 _ _ _ _ _ _ _
      | exact gonglaw08_small.mono _ _
      | exact gonglaw08_works.mono _
      | exact oid_Child.mono _ _ _
      | exact oid_Within.mono _ _ _
      | exact pdu_Find.mono _ _ _
      | exact LeO.none _
      | refine LeO.ite ?_ ?_
      | refine LeO.bind ?_ (fun _ => ?_)
    · intro y0 y1 y2 y3 y4 y5 y6
      unfold gonglaw08_PduFind.l0
      repeat' first
      | (with_reducible exact ih0 _ _ _ _)
      | (with_reducible exact ih1 _ _ _ _ _ _ _)
      | (with_reducible exact gonglaw08_small.mono _ _)
      | (with_reducible exact gonglaw08_works.mono _)
      | (with_reducible exact oid_Child.mono _ _ _)
      | (with_reducible exact oid_Within.mono _ _ _)
      | (with_reducible exact pdu_Find.mono _ _ _)
      | (with_reducible exact LeO.refl _)
      | (with_reducible exact LeO.none _)
      | (with_reducible refine LeO.ite ?_ ?_)
      | (with_reducible refine LeO.bind ?_ (fun _ => ?_))
      | exact ih0 _ _ _ _
      | exact ih1 _ _ _ _ _ _ _
      | exact gonglaw08_small.mono _ _
      | exact gonglaw08_works.mono _
      | exact oid_Child.mono _ _ _
      | exact oid_Within.mono _ _ _
      | exact pdu_Find.mono _ _ _
      | exact LeO.none _
      | refine LeO.ite ?_ ?_
      | refine LeO.bind ?_ (fun _ => ?_)
theorem gonglaw08_PduFind.mono : ∀ a0 a1 a2 k, LeO (gonglaw08_PduFind.f k a0 a1 a2) (gonglaw08_PduFind.f (k + 1) a0 a1 a2) := by
  intro a0 a1 a2 k
  obtain ⟨ih0, ih1⟩ := gonglaw08_PduFind.mono_l k
  unfold gonglaw08_PduFind.f
  repeat' first
      | (with_reducible exact ih0 _ _ _ _)
      | (with_reducible exact ih1 _ _ _ _ _ _ _)
      | (with_reducible exact gonglaw08_small.mono _ _)
      | (with_reducible exact gonglaw08_works.mono _)
      | (with_reducible exact oid_Child.mono _ _ _)
      | (with_reducible exact oid_Within.mono _ _ _)
      | (with_reducible exact pdu_Find.mono _ _ _)
      | (with_reducible exact LeO.refl _)
      | (with_reducible exact LeO.none _)
      | (with_reducible refine LeO.ite ?_ ?_)
      | (with_reducible refine LeO.bind ?_ (fun _ => ?_))
      | exact ih0 _ _ _ _
      | exact ih1 _ _ _ _ _ _ _
      | exact gonglaw08_small.mono _ _
      | exact gonglaw08_works.mono _
      | exact oid_Child.mono _ _ _
      | exact oid_Within.mono _ _ _
      | exact pdu_Find.mono _ _ _
      | exact LeO.none _
      | refine LeO.ite ?_ ?_
      | refine LeO.bind ?_ (fun _ => ?_)
def gonglaw08_PduFind.T16 : Bool × List (List Nat × List Nat) := (true, [([], []), ([], []), ([0, 1], [0, 1]), ([2], [2]), ([], []), ([3, 4], [3, 4]), ([5], [5]), ([6], [6]), ([6], [6]), ([6], [6]), ([8, 9, 6], [6, 8, 9]), ([10, 6], [6, 10]), ([11, 6], [6, 11]), ([7, 12, 6, 6], [6, 7, 12]), ([13, 6], [6, 13]), ([6, 14], [6, 14])])
def gonglaw08_PduFind.B16 : List Nat := [0, 0, 3, 7, 0, 31, 63, 127, 127, 127, 895, 1919, 3967, 8191, 16383, 32767]
theorem gonglaw08_PduFind.tab16 : rtab .any (opsOf Tryz.f4 16) = gonglaw08_PduFind.T16 := by kernel_rfl
theorem gonglaw08_PduFind.bits16 : waitsOk gonglaw08_PduFind.T16.2 gonglaw08_PduFind.B16 = true := by kernel_rfl
set_option maxHeartbeats 8000000 in
set_option maxRecDepth 100000 in
theorem gonglaw08_PduFind.calls (k : Nat) (A0 : Option Addr) (c0 : Nat) (l0 : List (S30)) (A1 : Option Addr) (c1 : Nat) (l1 : List (S30)) (a2 : ByteArray) (r : Bool) (w : World) (hG : Gl w) (hr0 : Kd.C k30 w A0 l0.length l0) (hc0 : l0.length ≤ c0) (hr1 : Kd.C k30 w A1 l1.length l1) (hc1 : l1.length ≤ c1) (h : gonglaw08_PduFind.f k l0 l1 a2 = some r) :
    Calls Tryz.prog 4 #[.slice A0 l0.length c0, .slice A1 l1.length c1, .string a2] w fun e w' => e = .returned (.bool r) ∧ Below w.heap.size w w' := by
  have HGl := Aside0.mk hG
  clear hG
  have hu30 := Tryz.underlying30
  have HR0 := Aside0.mk hr0
  have HC0 := Aside0.mk hc0
  clear hr0 hc0
  have HR1 := Aside0.mk hr1
  have HC1 := Aside0.mk hc1
  clear hr1 hc1
  have HB := Aside0.mk (Below.refl w.heap.size w)
  have H : ((gonglaw08_works.f k).bind fun t211 => (if t211 = true then ((gonglaw08_small.f k l0).bind fun t212 => (if t212 = true then ((gonglaw08_small.f k l1).bind fun t213 => (if t213 = true then (if (a2.size : Int) > 1000 then (gonglaw08_PduFind.j0 k l0 l1 a2 true) else (gonglaw08_PduFind.j0 k l0 l1 a2 (decide ((wrap64 ((l0.length : Int) + (l1.length : Int))) > 80)))) else (gonglaw08_PduFind.j0 k l0 l1 a2 true))) else (gonglaw08_PduFind.j0 k l0 l1 a2 true))) else (none))) = some r := h
  clear h
  replace H := Option.bind_eq_some_iff.mp H
  obtain ⟨t211, A40, H⟩ := H
  replace H : (if t211 = true then ((gonglaw08_small.f k l0).bind fun t212 => (if t212 = true then ((gonglaw08_small.f k l1).bind fun t213 => (if t213 = true then (if (a2.size : Int) > 1000 then (gonglaw08_PduFind.j0 k l0 l1 a2 true) else (gonglaw08_PduFind.j0 k l0 l1 a2 (decide ((wrap64 ((l0.length : Int) + (l1.length : Int))) > 80)))) else (gonglaw08_PduFind.j0 k l0 l1 a2 true))) else (gonglaw08_PduFind.j0 k l0 l1 a2 true))) else (none)) = some r := H
  have A4 := Aside0.mk A40
  clear A40
  by_cases c5 : t211 = true
  rotate_left
  · replace c5 := Bool.eq_false_iff.mpr c5
    subst c5
    have H1 : (none) = some r := by rw [if_neg (show ¬ (false = true) by decide)] at H; exact H
    exact absurd H1 (by simp)
  subst c5
  have H1 : ((gonglaw08_small.f k l0).bind fun t212 => (if t212 = true then ((gonglaw08_small.f k l1).bind fun t213 => (if t213 = true then (if (a2.size : Int) > 1000 then (gonglaw08_PduFind.j0 k l0 l1 a2 true) else (gonglaw08_PduFind.j0 k l0 l1 a2 (decide ((wrap64 ((l0.length : Int) + (l1.length : Int))) > 80)))) else (gonglaw08_PduFind.j0 k l0 l1 a2 true))) else (gonglaw08_PduFind.j0 k l0 l1 a2 true))) = some r := by rw [if_pos rfl] at H; exact H
  clear H
  have H := H1
  clear H1
  have HC6 := Aside0.mk H
  clear H
  go_enter Tryz.func4, Tryz.ntmps4
  go_upto_region 3 with (first | ((with_reducible refine gate_callee (f := 12) rfl ?_); refine goesL_ (some 15) rfl rfl Tryz.func12 (by kernel_rfl) rfl #[] rfl (by (try simp only [List.map_toArray, List.map_cons, List.map_nil]); first | done | rfl | (simp only [List.length_drop, List.length_take]; rfl)) ?_; (with_reducible refine (gonglaw08_works.calls k  true _ ?side1 A4.out).mono ?_); (case side1 => first | exact HGl.out | exact HGl.out.below (by repeat (first | (with_reducible first | exact HB.out | apply below_alloc | apply pw_below_drewN | apply below_drew1) | exact HB.out | (refine below_set ?_ (Aside0.out (by assumption))) | exact Below.refl _ _))); rintro e w7 ⟨rfl, hb⟩; refine ⟨_, rfl, ?_⟩; have n0_ := Aside0.mk (below_step (by repeat (first | (with_reducible first | exact HB.out | apply below_alloc | apply pw_below_drewN | apply below_drew1) | exact HB.out)) hb); clear HB; have HB := n0_; clear n0_; (try clear hb); (try clear hb2); (try clear hk); (try clear hi)))
  (try simp only [Act.put, List.setIfInBounds_toArray, List.set_cons_zero, List.set_cons_succ])
  go_cut [37] (fun v37 wc => ∃ (kq : Nat) (x37_5 : Bool), v37 = .bool x37_5 ∧ Aside0 (gonglaw08_PduFind.j0 kq l0 l1 a2 x37_5 = some r) ∧ Aside0 (kq ≤ k) ∧ Aside0 (Below w.heap.size w wc))
  case first =>
    have H := HC6.out
    clear HC6
    replace H := Option.bind_eq_some_iff.mp H
    obtain ⟨t212, A80, H⟩ := H
    replace H : (if t212 = true then ((gonglaw08_small.f k l1).bind fun t213 => (if t213 = true then (if (a2.size : Int) > 1000 then (gonglaw08_PduFind.j0 k l0 l1 a2 true) else (gonglaw08_PduFind.j0 k l0 l1 a2 (decide ((wrap64 ((l0.length : Int) + (l1.length : Int))) > 80)))) else (gonglaw08_PduFind.j0 k l0 l1 a2 true))) else (gonglaw08_PduFind.j0 k l0 l1 a2 true)) = some r := H
    have A8 := Aside0.mk A80
    clear A80
    by_cases c9 : t212 = true
    · subst c9
      have H1 : ((gonglaw08_small.f k l1).bind fun t213 => (if t213 = true then (if (a2.size : Int) > 1000 then (gonglaw08_PduFind.j0 k l0 l1 a2 true) else (gonglaw08_PduFind.j0 k l0 l1 a2 (decide ((wrap64 ((l0.length : Int) + (l1.length : Int))) > 80)))) else (gonglaw08_PduFind.j0 k l0 l1 a2 true))) = some r := by rw [if_pos rfl] at H; exact H
      clear H
      have H := H1
      clear H1
      replace H := Option.bind_eq_some_iff.mp H
      obtain ⟨t213, A100, H⟩ := H
      replace H : (if t213 = true then (if (a2.size : Int) > 1000 then (gonglaw08_PduFind.j0 k l0 l1 a2 true) else (gonglaw08_PduFind.j0 k l0 l1 a2 (decide ((wrap64 ((l0.length : Int) + (l1.length : Int))) > 80)))) else (gonglaw08_PduFind.j0 k l0 l1 a2 true)) = some r := H
      have A10 := Aside0.mk A100
      clear A100
      by_cases c11 : t213 = true
      · subst c11
        have H1 : (if (a2.size : Int) > 1000 then (gonglaw08_PduFind.j0 k l0 l1 a2 true) else (gonglaw08_PduFind.j0 k l0 l1 a2 (decide ((wrap64 ((l0.length : Int) + (l1.length : Int))) > 80)))) = some r := by rw [if_pos rfl] at H; exact H
        clear H
        have H := H1
        clear H1
        by_cases c12 : (a2.size : Int) > 1000
        · rw [if_pos c12] at H
          have c12b0 : decide (1000 < (a2.size : Int)) = true := decide_eq_true c12
          have c12b1 : decide (1000 < a2.size) = true := decide_eq_true (by omega)
          clear c12
          (first | rw [c12b0] | (simp only [i64_w, i32_w]; rw [c12b0]) | skip)
          have H' := Aside0.mk H
          clear H
          go_wp2_with (first | ((with_reducible refine gate_callee (f := 11) rfl ?_); refine goesL_ (some 18) rfl rfl Tryz.func11 (by kernel_rfl) rfl #[.slice A0 l0.length c0] rfl (by (try simp only [List.map_toArray, List.map_cons, List.map_nil]); first | done | rfl | (simp only [List.length_drop, List.length_take]; rfl)) ?_; (with_reducible refine (gonglaw08_small.calls k _ _ l0 true _ ?side1 ?side2 A8.out).mono ?_); (case side1 => repeat (first | exact (Kd.C_below HR0.out HB.out) | (with_reducible refine Kd.C_alloc ?_ _) | (with_reducible refine Kd.C_drewN ?_ _) | (with_reducible refine Kd.C_drew ?_))); (case side2 => exact HC0.out); rintro e w' ⟨rfl, ⟨nd, rfl⟩⟩; refine ⟨_, rfl, ?_⟩) | (go_at_call 11; (with_reducible refine (gonglaw08_small.calls k _ _ l1 true _ ?side1 ?side2 A10.out).mono ?_); (case side1 => repeat (first | exact (Kd.C_below HR1.out (by repeat (first | (with_reducible first | exact HB.out | apply below_alloc | apply pw_below_drewN | apply below_drew1) | exact HB.out))) | (with_reducible refine Kd.C_alloc ?_ _) | (with_reducible refine Kd.C_drewN ?_ _) | (with_reducible refine Kd.C_drew ?_))); (case side2 => exact HC1.out); rintro e w' ⟨rfl, ⟨nd, rfl⟩⟩))
          go_meet
          case rel => exact ⟨_, (true), (by first | rfl | (simp; done) | (simp [*]; done) | (simp [*]; exact isEmpty_bne _) | (simp; exact isEmpty_bne _)), H', ⟨by first | omega | exact Nat.le_refl _⟩, ⟨by repeat (first | (with_reducible first | exact HB.out | apply below_alloc | apply pw_below_drewN | apply below_drew1) | exact HB.out)⟩⟩
        · rw [if_neg c12] at H
          have c12b0 : decide (1000 < (a2.size : Int)) = false := decide_eq_false c12
          have c12b1 : decide (1000 < a2.size) = false := decide_eq_false (by omega)
          clear c12
          (first | rw [c12b0] | (simp only [i64_w, i32_w]; rw [c12b0]) | skip)
          have H' := Aside0.mk H
          clear H
          go_wp2_with (first | ((with_reducible refine gate_callee (f := 11) rfl ?_); refine goesL_ (some 18) rfl rfl Tryz.func11 (by kernel_rfl) rfl #[.slice A0 l0.length c0] rfl (by (try simp only [List.map_toArray, List.map_cons, List.map_nil]); first | done | rfl | (simp only [List.length_drop, List.length_take]; rfl)) ?_; (with_reducible refine (gonglaw08_small.calls k _ _ l0 true _ ?side1 ?side2 A8.out).mono ?_); (case side1 => repeat (first | exact (Kd.C_below HR0.out HB.out) | (with_reducible refine Kd.C_alloc ?_ _) | (with_reducible refine Kd.C_drewN ?_ _) | (with_reducible refine Kd.C_drew ?_))); (case side2 => exact HC0.out); rintro e w' ⟨rfl, ⟨nd, rfl⟩⟩; refine ⟨_, rfl, ?_⟩) | (go_at_call 11; (with_reducible refine (gonglaw08_small.calls k _ _ l1 true _ ?side1 ?side2 A10.out).mono ?_); (case side1 => repeat (first | exact (Kd.C_below HR1.out (by repeat (first | (with_reducible first | exact HB.out | apply below_alloc | apply pw_below_drewN | apply below_drew1) | exact HB.out))) | (with_reducible refine Kd.C_alloc ?_ _) | (with_reducible refine Kd.C_drewN ?_ _) | (with_reducible refine Kd.C_drew ?_))); (case side2 => exact HC1.out); rintro e w' ⟨rfl, ⟨nd, rfl⟩⟩))
          go_meet
          case rel => exact ⟨_, (decide ((wrap64 ((l0.length : Int) + (l1.length : Int))) > 80)), (by first | rfl | (simp; done) | (simp [*]; done) | (simp [*]; exact isEmpty_bne _) | (simp; exact isEmpty_bne _)), H', ⟨by first | omega | exact Nat.le_refl _⟩, ⟨by repeat (first | (with_reducible first | exact HB.out | apply below_alloc | apply pw_below_drewN | apply below_drew1) | exact HB.out)⟩⟩
      · replace c11 := Bool.eq_false_iff.mpr c11
        subst c11
        have H1 : (gonglaw08_PduFind.j0 k l0 l1 a2 true) = some r := by rw [if_neg (show ¬ (false = true) by decide)] at H; exact H
        clear H
        have H := H1
        clear H1
        have H' := Aside0.mk H
        clear H
        go_wp2_with (first | ((with_reducible refine gate_callee (f := 11) rfl ?_); refine goesL_ (some 18) rfl rfl Tryz.func11 (by kernel_rfl) rfl #[.slice A0 l0.length c0] rfl (by (try simp only [List.map_toArray, List.map_cons, List.map_nil]); first | done | rfl | (simp only [List.length_drop, List.length_take]; rfl)) ?_; (with_reducible refine (gonglaw08_small.calls k _ _ l0 true _ ?side1 ?side2 A8.out).mono ?_); (case side1 => repeat (first | exact (Kd.C_below HR0.out HB.out) | (with_reducible refine Kd.C_alloc ?_ _) | (with_reducible refine Kd.C_drewN ?_ _) | (with_reducible refine Kd.C_drew ?_))); (case side2 => exact HC0.out); rintro e w' ⟨rfl, ⟨nd, rfl⟩⟩; refine ⟨_, rfl, ?_⟩) | (go_at_call 11; (with_reducible refine (gonglaw08_small.calls k _ _ l1 false _ ?side1 ?side2 A10.out).mono ?_); (case side1 => repeat (first | exact (Kd.C_below HR1.out (by repeat (first | (with_reducible first | exact HB.out | apply below_alloc | apply pw_below_drewN | apply below_drew1) | exact HB.out))) | (with_reducible refine Kd.C_alloc ?_ _) | (with_reducible refine Kd.C_drewN ?_ _) | (with_reducible refine Kd.C_drew ?_))); (case side2 => exact HC1.out); rintro e w' ⟨rfl, ⟨nd, rfl⟩⟩))
        go_meet
        case rel => exact ⟨_, (true), (by first | rfl | (simp; done) | (simp [*]; done) | (simp [*]; exact isEmpty_bne _) | (simp; exact isEmpty_bne _)), H', ⟨by first | omega | exact Nat.le_refl _⟩, ⟨by repeat (first | (with_reducible first | exact HB.out | apply below_alloc | apply pw_below_drewN | apply below_drew1) | exact HB.out)⟩⟩
    · replace c9 := Bool.eq_false_iff.mpr c9
      subst c9
      have H1 : (gonglaw08_PduFind.j0 k l0 l1 a2 true) = some r := by rw [if_neg (show ¬ (false = true) by decide)] at H; exact H
      clear H
      have H := H1
      clear H1
      have H' := Aside0.mk H
      clear H
      go_wp2_with (first | ((with_reducible refine gate_callee (f := 11) rfl ?_); refine goesL_ (some 18) rfl rfl Tryz.func11 (by kernel_rfl) rfl #[.slice A0 l0.length c0] rfl (by (try simp only [List.map_toArray, List.map_cons, List.map_nil]); first | done | rfl | (simp only [List.length_drop, List.length_take]; rfl)) ?_; (with_reducible refine (gonglaw08_small.calls k _ _ l0 false _ ?side1 ?side2 A8.out).mono ?_); (case side1 => repeat (first | exact (Kd.C_below HR0.out HB.out) | (with_reducible refine Kd.C_alloc ?_ _) | (with_reducible refine Kd.C_drewN ?_ _) | (with_reducible refine Kd.C_drew ?_))); (case side2 => exact HC0.out); rintro e w' ⟨rfl, ⟨nd, rfl⟩⟩; refine ⟨_, rfl, ?_⟩))
      go_meet
      case rel => exact ⟨_, (true), (by first | rfl | (simp; done) | (simp [*]; done) | (simp [*]; exact isEmpty_bne _) | (simp; exact isEmpty_bne _)), H', ⟨by first | omega | exact Nat.le_refl _⟩, ⟨by repeat (first | (with_reducible first | exact HB.out | apply below_alloc | apply pw_below_drewN | apply below_drew1) | exact HB.out)⟩⟩
  case rest =>
    clear HC6
    try clear c1
    try clear p2
    try clear c4
    try clear c5
    try clear p6
    try clear c9
    try clear c11
    try clear c12
    try clear c12b0
    try clear c12b1
    obtain ⟨kq, x37_5, rfl, HA, HJ5, HB⟩ := hcut
    cases kq with
    | zero => exact absurd HA.out (by simp [gonglaw08_PduFind.j0])
    | succ kj5 =>
      have H := HA.out
      clear HA
      simp only [gonglaw08_PduFind.j0] at H
      by_cases c13 : x37_5 = true
      · subst c13
        have H1 : (some true) = some r := by rw [if_pos rfl] at H; exact H
        clear H
        have H := H1
        clear H1
        obtain rfl := Option.some.inj H
        go_wp2
        go_ret
        exact ⟨by first | rfl | (simp only [i64_w, i32_w]; rfl) | (simp [errW_none, errW_some] <;> rfl) | (simp [*, errW_none, errW_some] <;> rfl), by repeat (first | (with_reducible first | exact HB.out | apply below_alloc | apply pw_below_drewN | apply below_drew1) | exact HB.out)⟩
      · replace c13 := Bool.eq_false_iff.mpr c13
        subst c13
        have H1 : ((some (([] : List (S30)) : List (S30))).bind fun y214 => (if y214.length + l0.length < 2932031007402 then ((some (y214 ++ l0 : List (S30))).bind fun y217 => (if y217.length + l1.length < 2932031007402 then ((some (y217 ++ l1 : List (S30))).bind fun y220 => ((pdu_Find.f kj5 l0 a2).bind fun t223 => ((pdu_Find.f kj5 l1 a2).bind fun t226 => ((pdu_Find.f kj5 y220 a2).bind fun t229 => (if (t229.length : Int) = (wrap64 ((t223.length : Int) + (t226.length : Int))) then (gonglaw08_PduFind.l0 kj5 a2 y220 t223 t226 t229 (t229.length : Int) 0) else (none)))))) else (none))) else (none))) = some r := by rw [if_neg (show ¬ (false = true) by decide)] at H; exact H
        clear H
        have H := H1
        clear H1
        obtain ⟨y214, hy214⟩ : ∃ y_ : List (S30), y_ = (([] : List (S30))) := ⟨_, rfl⟩
        replace H : (if y214.length + l0.length < 2932031007402 then ((some (y214 ++ l0 : List (S30))).bind fun y217 => (if y217.length + l1.length < 2932031007402 then ((some (y217 ++ l1 : List (S30))).bind fun y220 => ((pdu_Find.f kj5 l0 a2).bind fun t223 => ((pdu_Find.f kj5 l1 a2).bind fun t226 => ((pdu_Find.f kj5 y220 a2).bind fun t229 => (if (t229.length : Int) = (wrap64 ((t223.length : Int) + (t226.length : Int))) then (gonglaw08_PduFind.l0 kj5 a2 y220 t223 t226 t229 (t229.length : Int) 0) else (none)))))) else (none))) else (none)) = some r := by first | (rw [hy214]; with_reducible exact H) | (have H2_ := (Option.bind_some _ _).symm.trans H; rw [hy214]; with_reducible exact H2_) | (have H2_ := (Option.bind_some _ _).symm.trans H; with_reducible exact H2_) | with_reducible exact H | (rw [hy214]; exact H) | exact H
        have Ny214 := Aside0.mk hy214
        clear hy214
        by_cases c14 : y214.length + l0.length < 2932031007402
        · rw [if_pos c14] at H
          have LMc14 := Aside0.mk c14
          clear c14
          obtain ⟨y217, hy217⟩ : ∃ y_ : List (S30), y_ = (y214 ++ l0) := ⟨_, rfl⟩
          replace H : (if y217.length + l1.length < 2932031007402 then ((some (y217 ++ l1 : List (S30))).bind fun y220 => ((pdu_Find.f kj5 l0 a2).bind fun t223 => ((pdu_Find.f kj5 l1 a2).bind fun t226 => ((pdu_Find.f kj5 y220 a2).bind fun t229 => (if (t229.length : Int) = (wrap64 ((t223.length : Int) + (t226.length : Int))) then (gonglaw08_PduFind.l0 kj5 a2 y220 t223 t226 t229 (t229.length : Int) 0) else (none)))))) else (none)) = some r := by first | (rw [hy217]; with_reducible exact H) | (have H2_ := (Option.bind_some _ _).symm.trans H; rw [hy217]; with_reducible exact H2_) | (have H2_ := (Option.bind_some _ _).symm.trans H; with_reducible exact H2_) | with_reducible exact H | (rw [hy217]; exact H) | exact H
          have Ny217 := Aside0.mk hy217
          clear hy217
          by_cases c15 : y217.length + l1.length < 2932031007402
          · rw [if_pos c15] at H
            have LMc15 := Aside0.mk c15
            clear c15
            obtain ⟨y220, hy220⟩ : ∃ y_ : List (S30), y_ = (y217 ++ l1) := ⟨_, rfl⟩
            replace H : ((pdu_Find.f kj5 l0 a2).bind fun t223 => ((pdu_Find.f kj5 l1 a2).bind fun t226 => ((pdu_Find.f kj5 y220 a2).bind fun t229 => (if (t229.length : Int) = (wrap64 ((t223.length : Int) + (t226.length : Int))) then (gonglaw08_PduFind.l0 kj5 a2 y220 t223 t226 t229 (t229.length : Int) 0) else (none))))) = some r := by first | (rw [hy220]; with_reducible exact H) | (have H2_ := (Option.bind_some _ _).symm.trans H; rw [hy220]; with_reducible exact H2_) | (have H2_ := (Option.bind_some _ _).symm.trans H; with_reducible exact H2_) | with_reducible exact H | (rw [hy220]; exact H) | exact H
            have Ny220 := Aside0.mk hy220
            clear hy220
            replace H := Option.bind_eq_some_iff.mp H
            obtain ⟨t223, A160, H⟩ := H
            replace H : ((pdu_Find.f kj5 l1 a2).bind fun t226 => ((pdu_Find.f kj5 y220 a2).bind fun t229 => (if (t229.length : Int) = (wrap64 ((t223.length : Int) + (t226.length : Int))) then (gonglaw08_PduFind.l0 kj5 a2 y220 t223 t226 t229 (t229.length : Int) 0) else (none)))) = some r := H
            have A16 := Aside0.mk A160
            clear A160
            replace H := Option.bind_eq_some_iff.mp H
            obtain ⟨t226, A170, H⟩ := H
            replace H : ((pdu_Find.f kj5 y220 a2).bind fun t229 => (if (t229.length : Int) = (wrap64 ((t223.length : Int) + (t226.length : Int))) then (gonglaw08_PduFind.l0 kj5 a2 y220 t223 t226 t229 (t229.length : Int) 0) else (none))) = some r := H
            have A17 := Aside0.mk A170
            clear A170
            replace H := Option.bind_eq_some_iff.mp H
            obtain ⟨t229, A180, H⟩ := H
            replace H : (if (t229.length : Int) = (wrap64 ((t223.length : Int) + (t226.length : Int))) then (gonglaw08_PduFind.l0 kj5 a2 y220 t223 t226 t229 (t229.length : Int) 0) else (none)) = some r := H
            have A18 := Aside0.mk A180
            clear A180
            by_cases c19 : (t229.length : Int) = (wrap64 ((t223.length : Int) + (t226.length : Int)))
            · rw [if_pos c19] at H
              have c19b0 : ((t229.length : Int) == (wrap64 ((t223.length : Int) + (t226.length : Int)))) = true := beq_iff_eq.mpr c19
              have c19b1 : ((t229.length : Int) != (wrap64 ((t223.length : Int) + (t226.length : Int)))) = false := bne_eq_false_iff_eq.mpr c19
              clear c19
              have H' := Aside0.mk H
              clear H
              go_wp2_with (first | ((with_reducible refine gate_dst (N := 38) rfl ?_); (try (refine gate_guard (by rfl) ?_; dsimp only)); refine Kd.R_lit k30 _ 30 ?hg (N := 38) ?hd (xs := ([] : List (S30))) (inner := []) (ok := fun _ => True) (okp := fun _ => True) ?hr ?hp (fun _ hk => hk) trivial (Below.refl _ _) (Nat.le_refl _) (by simp) ?_; (case hd => rfl); (case hg => rfl); (case hr => first | (go_simp; done) | (go_simp; rfl)); (case hp => exact (Reps.none _ _)); intro v215 w20 ho21 hb hg_ hnew_; clear hg_ hnew_; (first | rw [← Ny214.out] at ho21 | (simp only [Int.reduceToNat] at ho21; rw [← Ny214.out] at ho21)); have n0_ := Aside0.mk (Kd.R_lower ho21 (below_size (by repeat (first | (with_reducible first | exact HB.out | apply below_alloc | apply pw_below_drewN | apply below_drew1) | exact HB.out)))); have n1_ := Aside0.mk (below_step (by repeat (first | (with_reducible first | exact HB.out | apply below_alloc | apply pw_below_drewN | apply below_drew1) | exact HB.out)) hb); clear HB; have HO216 := n0_; have HB := n1_; clear n0_ n1_; clear hb ho21) | ((with_reducible refine gate_builtin (b := .append) (xs := #[.tmp 38, .tmp 39]) rfl ?_); (try (refine gate_guard (by rfl) ?_; dsimp only)); at_builtin; refine Kd.R_append_rows k30 (w0 := w) w.heap.size rfl (.tmp 38) (.tmp 39) 22 30 (.agg #[(.string ⟨#[]⟩), (.int .i64 0), (.int .i64 0), (.string ⟨#[]⟩)]) 48 rfl Tryz.underlying22 info30 rfl (by decide) (by omega) v215 y214 l0 _ _ _ (fun _ => True) (fun _ => False) rfl rfl ?aO ?aR (fun _ _ h => h) (fun _ h => h.elim) ?aF ?aB ?aS ?aL ?_; (case aR => repeat (first | exact (Kd.C_below HR0.out HB.out) | (with_reducible refine Kd.C_alloc ?_ _) | (with_reducible refine Kd.C_drewN ?_ _) | (with_reducible refine Kd.C_drew ?_))); (case aB => exact (by repeat (first | (with_reducible first | exact HB.out | apply below_alloc | apply pw_below_drewN | apply below_drew1) | exact HB.out))); (case aF => exact (fun _ _ => trivial)); (case aO => exact (by (with_reducible repeat (first | apply Kd.R_alloc | apply Kd.R_drewN | apply Kd.R_drew)); exact HO216.out)); (case aS => exact (below_size (by repeat (first | (with_reducible first | exact HB.out | apply below_alloc | apply pw_below_drewN | apply below_drew1) | exact HB.out)))); (case aL => have := LMc14.out; omega); intro v218 w22 ho hb hg hat; rw [← Ny217.out] at ho; have n0_ := Aside0.mk (hb); have n1_ := Aside0.mk (ho); clear HB; clear HO216; have HB := n0_; have HO219 := n1_; clear n0_ n1_; clear ho hb hg hat) | ((with_reducible refine gate_builtin (b := .append) (xs := #[.tmp 40, .tmp 41]) rfl ?_); (try (refine gate_guard (by rfl) ?_; dsimp only)); at_builtin; refine Kd.R_append_rows k30 (w0 := w) w.heap.size rfl (.tmp 40) (.tmp 41) 22 30 (.agg #[(.string ⟨#[]⟩), (.int .i64 0), (.int .i64 0), (.string ⟨#[]⟩)]) 48 rfl Tryz.underlying22 info30 rfl (by decide) (by omega) v218 y217 l1 _ _ _ (fun _ => True) (fun _ => False) rfl rfl ?aO ?aR (fun _ _ h => h) (fun _ h => h.elim) ?aF ?aB ?aS ?aL ?_; (case aR => repeat (first | exact (Kd.C_below HR1.out HB.out) | (with_reducible refine Kd.C_alloc ?_ _) | (with_reducible refine Kd.C_drewN ?_ _) | (with_reducible refine Kd.C_drew ?_))); (case aB => exact (by repeat (first | (with_reducible first | exact HB.out | apply below_alloc | apply pw_below_drewN | apply below_drew1) | exact HB.out))); (case aF => exact (fun _ _ => trivial)); (case aO => exact (by (with_reducible repeat (first | apply Kd.R_alloc | apply Kd.R_drewN | apply Kd.R_drew)); exact HO219.out)); (case aS => exact (below_size (by repeat (first | (with_reducible first | exact HB.out | apply below_alloc | apply pw_below_drewN | apply below_drew1) | exact HB.out)))); (case aL => have := LMc15.out; omega); intro v221 w23 ho hb hg hat; rw [← Ny220.out] at ho; have n0_ := Aside0.mk (hb); have n1_ := Aside0.mk (ho); clear HB; clear HO219; have HB := n0_; have HO222 := n1_; clear n0_ n1_; clear ho hb hg hat) | ((with_reducible refine gate_callee (f := 16) rfl ?_); refine goesL_ (some 45) rfl rfl Tryz.func16 (by kernel_rfl) rfl #[.slice A0 l0.length c0, .string a2] rfl (by (try simp only [List.map_toArray, List.map_cons, List.map_nil]); first | done | rfl | (simp only [List.length_drop, List.length_take]; rfl)) ?_; (with_reducible refine (pdu_Find.calls kj5 _ _ l0 a2 t223 _ ?side3 ?side1 ?side2 A16.out).mono ?_); (case side1 => repeat (first | exact (Kd.C_below HR0.out HB.out) | (with_reducible refine Kd.C_alloc ?_ _) | (with_reducible refine Kd.C_drewN ?_ _) | (with_reducible refine Kd.C_drew ?_))); (case side2 => exact HC0.out); (case side3 => first | exact HGl.out | exact HGl.out.below (by repeat (first | (with_reducible first | exact HB.out | apply below_alloc | apply pw_below_drewN | apply below_drew1) | exact HB.out | (refine below_set ?_ (Aside0.out (by assumption))) | exact Below.refl _ _))); rintro e w24 ⟨v224, rfl, ho0, hb⟩; refine ⟨_, rfl, ?_⟩; have n0_ := Aside0.mk (Kd.R_elder' (by (with_reducible repeat (first | apply Kd.R_alloc | apply Kd.R_drewN | apply Kd.R_drew)); exact HO222.out) (Kd.R_base ho0) hb); have n1_ := Aside0.mk (Kd.R_lower (Kd.R_new' ho0 (Kd.R_lt (by (with_reducible repeat (first | apply Kd.R_alloc | apply Kd.R_drewN | apply Kd.R_drew)); exact HO222.out))) (below_size (by repeat (first | (with_reducible first | exact HB.out | apply below_alloc | apply pw_below_drewN | apply below_drew1) | exact HB.out)))); have n2_ := Aside0.mk (below_step (by repeat (first | (with_reducible first | exact HB.out | apply below_alloc | apply pw_below_drewN | apply below_drew1) | exact HB.out)) hb); clear HO222; clear HB; have HO222 := n0_; have HO225 := n1_; have HB := n2_; clear n0_ n1_ n2_; (try clear hb); (try clear hb2); (try clear hk); (try clear hi); (try clear ho0)) | ((with_reducible refine gate_callee (f := 16) rfl ?_); refine goesL_ (some 48) rfl rfl Tryz.func16 (by kernel_rfl) rfl #[.slice A1 l1.length c1, .string a2] rfl (by (try simp only [List.map_toArray, List.map_cons, List.map_nil]); first | done | rfl | (simp only [List.length_drop, List.length_take]; rfl)) ?_; (with_reducible refine (pdu_Find.calls kj5 _ _ l1 a2 t226 _ ?side3 ?side1 ?side2 A17.out).mono ?_); (case side1 => repeat (first | exact (Kd.C_below HR1.out HB.out) | (with_reducible refine Kd.C_alloc ?_ _) | (with_reducible refine Kd.C_drewN ?_ _) | (with_reducible refine Kd.C_drew ?_))); (case side2 => exact HC1.out); (case side3 => first | exact HGl.out | exact HGl.out.below (by repeat (first | (with_reducible first | exact HB.out | apply below_alloc | apply pw_below_drewN | apply below_drew1) | exact HB.out | (refine below_set ?_ (Aside0.out (by assumption))) | exact Below.refl _ _))); rintro e w25 ⟨v227, rfl, ho0, hb⟩; refine ⟨_, rfl, ?_⟩; have n0_ := Aside0.mk (Kd.R_elder' (by (with_reducible repeat (first | apply Kd.R_alloc | apply Kd.R_drewN | apply Kd.R_drew)); exact HO222.out) (Kd.R_base ho0) hb); have n1_ := Aside0.mk (Kd.R_elder' (by (with_reducible repeat (first | apply Kd.R_alloc | apply Kd.R_drewN | apply Kd.R_drew)); exact HO225.out) (Kd.R_base ho0) hb); have n2_ := Aside0.mk (Kd.R_lower (Kd.R_new' (Kd.R_new' ho0 (Kd.R_lt (by (with_reducible repeat (first | apply Kd.R_alloc | apply Kd.R_drewN | apply Kd.R_drew)); exact HO222.out))) (Kd.R_lt (by (with_reducible repeat (first | apply Kd.R_alloc | apply Kd.R_drewN | apply Kd.R_drew)); exact HO225.out))) (below_size (by repeat (first | (with_reducible first | exact HB.out | apply below_alloc | apply pw_below_drewN | apply below_drew1) | exact HB.out)))); have n3_ := Aside0.mk (below_step (by repeat (first | (with_reducible first | exact HB.out | apply below_alloc | apply pw_below_drewN | apply below_drew1) | exact HB.out)) hb); clear HO222; clear HO225; clear HB; have HO222 := n0_; have HO225 := n1_; have HO228 := n2_; have HB := n3_; clear n0_ n1_ n2_ n3_; (try clear hb); (try clear hb2); (try clear hk); (try clear hi); (try clear ho0); obtain ⟨Ao26, co26, eo26⟩ := Kd.R_slice HO222.out; subst eo26) | ((with_reducible refine gate_callee (f := 16) rfl ?_); refine goesL_ (some 51) rfl rfl Tryz.func16 (by kernel_rfl) rfl #[.slice Ao26 y220.length co26, .string a2] rfl (by (try simp only [List.map_toArray, List.map_cons, List.map_nil]); first | done | rfl | (simp only [List.length_drop, List.length_take]; rfl)) ?_; (with_reducible refine (pdu_Find.calls kj5 _ _ y220 a2 t229 _ ?side3 ?side1 ?side2 A18.out).mono ?_); (case side1 => repeat (first | exact (Kd.R_reads' HO222.out).2.2 | (with_reducible refine Kd.C_alloc ?_ _) | (with_reducible refine Kd.C_drewN ?_ _) | (with_reducible refine Kd.C_drew ?_))); (case side2 => exact (Kd.R_reads' HO222.out).2.1); (case side3 => first | exact HGl.out | exact HGl.out.below (by repeat (first | (with_reducible first | exact HB.out | apply below_alloc | apply pw_below_drewN | apply below_drew1) | exact HB.out | (refine below_set ?_ (Aside0.out (by assumption))) | exact Below.refl _ _))); rintro e w27 ⟨v230, rfl, ho0, hb⟩; refine ⟨_, rfl, ?_⟩; have n0_ := Aside0.mk (Kd.R_elder' (by (with_reducible repeat (first | apply Kd.R_alloc | apply Kd.R_drewN | apply Kd.R_drew)); exact HO222.out) (Kd.R_base ho0) hb); have n1_ := Aside0.mk (Kd.R_elder' (by (with_reducible repeat (first | apply Kd.R_alloc | apply Kd.R_drewN | apply Kd.R_drew)); exact HO225.out) (Kd.R_base ho0) hb); have n2_ := Aside0.mk (Kd.R_elder' (by (with_reducible repeat (first | apply Kd.R_alloc | apply Kd.R_drewN | apply Kd.R_drew)); exact HO228.out) (Kd.R_base ho0) hb); have n3_ := Aside0.mk (Kd.R_lower (Kd.R_new' (Kd.R_new' (Kd.R_new' ho0 (Kd.R_lt (by (with_reducible repeat (first | apply Kd.R_alloc | apply Kd.R_drewN | apply Kd.R_drew)); exact HO222.out))) (Kd.R_lt (by (with_reducible repeat (first | apply Kd.R_alloc | apply Kd.R_drewN | apply Kd.R_drew)); exact HO225.out))) (Kd.R_lt (by (with_reducible repeat (first | apply Kd.R_alloc | apply Kd.R_drewN | apply Kd.R_drew)); exact HO228.out))) (below_size (by repeat (first | (with_reducible first | exact HB.out | apply below_alloc | apply pw_below_drewN | apply below_drew1) | exact HB.out)))); have n4_ := Aside0.mk (below_step (by repeat (first | (with_reducible first | exact HB.out | apply below_alloc | apply pw_below_drewN | apply below_drew1) | exact HB.out)) hb); clear HO222; clear HO225; clear HO228; clear HB; have HO222 := n0_; have HO225 := n1_; have HO228 := n2_; have HO231 := n3_; have HB := n4_; clear n0_ n1_ n2_ n3_ n4_; (try clear hb); (try clear hb2); (try clear hk); (try clear hi); (try clear ho0); obtain ⟨Ao28, co28, eo28⟩ := Kd.R_slice HO231.out; subst eo28; obtain ⟨Ao29, co29, eo29⟩ := Kd.R_slice HO225.out; subst eo29; obtain ⟨Ao30, co30, eo30⟩ := Kd.R_slice HO228.out; subst eo30))
              go_loopg [62] kj5 (fun kq v62 w' => ∃ (x62_2 : Int), v62 = .int .i64 x62_2 ∧ Aside0 (gonglaw08_PduFind.l0 kq a2 y220 t223 t226 t229 (t229.length : Int) x62_2 = some r) ∧ Aside0 (kq ≤ kj5) ∧ Aside0 (Kd.R k30 30 w' w.heap.size (fun k_ => some k_ ≠ ((.slice Ao29 t223.length co29) : Value).ownBlock ∧ some k_ ≠ ((.slice Ao30 t226.length co30) : Value).ownBlock ∧ some k_ ≠ ((.slice Ao28 t229.length co28) : Value).ownBlock) (.slice Ao26 y220.length co26) y220) ∧ Aside0 (Kd.R k30 30 w' w.heap.size (fun k_ => some k_ ≠ ((.slice Ao26 y220.length co26) : Value).ownBlock ∧ some k_ ≠ ((.slice Ao30 t226.length co30) : Value).ownBlock ∧ some k_ ≠ ((.slice Ao28 t229.length co28) : Value).ownBlock) (.slice Ao29 t223.length co29) t223) ∧ Aside0 (Kd.R k30 30 w' w.heap.size (fun k_ => some k_ ≠ ((.slice Ao26 y220.length co26) : Value).ownBlock ∧ some k_ ≠ ((.slice Ao29 t223.length co29) : Value).ownBlock ∧ some k_ ≠ ((.slice Ao28 t229.length co28) : Value).ownBlock) (.slice Ao30 t226.length co30) t226) ∧ Aside0 (Kd.R k30 30 w' w.heap.size (fun k_ => some k_ ≠ ((.slice Ao26 y220.length co26) : Value).ownBlock ∧ some k_ ≠ ((.slice Ao29 t223.length co29) : Value).ownBlock ∧ some k_ ≠ ((.slice Ao30 t226.length co30) : Value).ownBlock) (.slice Ao28 t229.length co28) t229) ∧ Aside0 (Below w.heap.size w w'))
              case atStart => exact ⟨(0), (by first | rfl | (simp; done) | (simp [*]; done) | (simp [*]; exact isEmpty_bne _) | (simp; exact isEmpty_bne _)), H', ⟨Nat.le_refl _⟩, ⟨by (with_reducible repeat (first | apply Kd.R_alloc | apply Kd.R_drewN | apply Kd.R_drew)); exact Kd.R_mono HO222.out (fun _ hk => ⟨hk.1.1.2, ⟨hk.1.2, hk.2⟩⟩)⟩, ⟨by (with_reducible repeat (first | apply Kd.R_alloc | apply Kd.R_drewN | apply Kd.R_drew)); exact Kd.R_mono HO225.out (fun _ hk => ⟨hk.1.1.2, ⟨hk.1.2, hk.2⟩⟩)⟩, ⟨by (with_reducible repeat (first | apply Kd.R_alloc | apply Kd.R_drewN | apply Kd.R_drew)); exact Kd.R_mono HO228.out (fun _ hk => ⟨hk.1.1.2, ⟨hk.1.2, hk.2⟩⟩)⟩, ⟨by (with_reducible repeat (first | apply Kd.R_alloc | apply Kd.R_drewN | apply Kd.R_drew)); exact Kd.R_mono HO231.out (fun _ hk => ⟨hk.1.1.2, ⟨hk.1.2, hk.2⟩⟩)⟩, ⟨by repeat (first | (with_reducible first | exact HB.out | apply below_alloc | apply pw_below_drewN | apply below_drew1) | exact HB.out)⟩⟩
              case round =>
                clear H'
                try clear c1
                try clear p2
                try clear c4
                try clear c5
                try clear p6
                try clear c9
                try clear c11
                try clear c12
                try clear c12b0
                try clear c12b1
                try clear c13
                try clear c14
                try clear c15
                try clear c16
                try clear c19
                try clear c19b0
                try clear c19b1
                try clear p2
                try clear p6
                obtain ⟨x62_2, rfl, HA, HK2, HO_7, HO_8, HO_9, HO_10, HB⟩ := hrel
                cases gk with
                | zero => exact absurd HA.out (by simp [gonglaw08_PduFind.l0])
                | succ k2 =>
                  have H := HA.out
                  clear HA
                  simp only [gonglaw08_PduFind.l0] at H
                  by_cases c31 : x62_2 < (t229.length : Int)
                  · rw [if_pos c31] at H
                    have c31b0 : decide (x62_2 < (t229.length : Int)) = true := decide_eq_true c31
                    clear c31
                    by_cases c32 : x62_2 < (t223.length : Int)
                    · rw [if_pos c32] at H
                      have c32b0 : decide (x62_2 < (t223.length : Int)) = true := decide_eq_true c32
                      clear c32
                      by_cases c33 : 0 ≤ x62_2
                      · rw [if_pos c33] at H
                        have c33b0 : decide (0 ≤ x62_2) = true := decide_eq_true c33
                        clear c33
                        by_cases c34 : x62_2 < (t229.length : Int)
                        · rw [if_pos c34] at H
                          have c34b0 : decide (x62_2 < (t229.length : Int)) = true := decide_eq_true c34
                          clear c34
                          by_cases c35 : (!((((rd_T30 t229 x62_2).f0).toList) == (((rd_T30 t223 x62_2).f0).toList)) || ((!(((rd_T30 t229 x62_2).f1.f0) == ((rd_T30 t223 x62_2).f1.f0)) || (!(((rd_T30 t229 x62_2).f1.f1) == ((rd_T30 t223 x62_2).f1.f1)) || (!((((rd_T30 t229 x62_2).f1.f2).toList) == (((rd_T30 t223 x62_2).f1.f2).toList))))))) = true
                          · rw [if_pos c35] at H
                            exact absurd H (by simp)
                          · rw [if_neg c35] at H
                            have c35b0 : (!((((rd_T30 t229 x62_2).f0).toList) == (((rd_T30 t223 x62_2).f0).toList)) || ((!(((rd_T30 t229 x62_2).f1.f0) == ((rd_T30 t223 x62_2).f1.f0)) || (!(((rd_T30 t229 x62_2).f1.f1) == ((rd_T30 t223 x62_2).f1.f1)) || (!((((rd_T30 t229 x62_2).f1.f2).toList) == (((rd_T30 t223 x62_2).f1.f2).toList))))))) = false := by simpa using c35
                            clear c35
                            replace H := Option.bind_eq_some_iff.mp H
                            obtain ⟨t241, A400, H⟩ := H
                            replace H : (if t241 = true then (gonglaw08_PduFind.l0 k2 a2 y220 t223 t226 t229 (t229.length : Int) (wrap64 (x62_2 + 1))) else (none)) = some r := H
                            have A40 := Aside0.mk A400
                            clear A400
                            by_cases c41 : t241 = true
                            · subst c41
                              have H1 : (gonglaw08_PduFind.l0 k2 a2 y220 t223 t226 t229 (t229.length : Int) (wrap64 (x62_2 + 1))) = some r := by rw [if_pos rfl] at H; exact H
                              clear H
                              have H := H1
                              clear H1
                              have H' := Aside0.mk H
                              clear H
                              try go_wp2_with (first | ((with_reducible refine gate_dst (N := 12) rfl ?_); (try (refine gate_guard (by rfl) ?_; dsimp only)); refine box_event ?hg (N := 12) ?hd (cs := #[.string (⟨#[]⟩ : ByteArray), .int .i64 0, .int .i64 0, .string (⟨#[]⟩ : ByteArray)]) (t := 30) ?hr ?_; (case hd => rfl); (case hg => rfl); (case hr => first | (go_simp; done) | (go_simp; rfl)); intro gb237 hg w42 hbox hb; have hq8_ := Kd.R_ne_new HO_8.out 0; rw [Nat.add_zero, ← hg] at hq8_; have n0_ := Aside0.mk (Kd.R_below (Kd.R_elderB (by (with_reducible repeat (first | apply Kd.R_alloc | apply Kd.R_drewN | apply Kd.R_drew)); exact HO_7.out) gb237 (Nat.le_of_eq hg.symm)) hb); have n1_ := Aside0.mk (Kd.R_below (Kd.R_elderB (by (with_reducible repeat (first | apply Kd.R_alloc | apply Kd.R_drewN | apply Kd.R_drew)); exact HO_8.out) gb237 (Nat.le_of_eq hg.symm)) hb); have n2_ := Aside0.mk (Kd.R_below (Kd.R_elderB (by (with_reducible repeat (first | apply Kd.R_alloc | apply Kd.R_drewN | apply Kd.R_drew)); exact HO_9.out) gb237 (Nat.le_of_eq hg.symm)) hb); have n3_ := Aside0.mk (Kd.R_below (Kd.R_elderB (by (with_reducible repeat (first | apply Kd.R_alloc | apply Kd.R_drewN | apply Kd.R_drew)); exact HO_10.out) gb237 (Nat.le_of_eq hg.symm)) hb); have n4_ := Aside0.mk (below_step (by repeat (first | (with_reducible first | exact HB.out | apply below_alloc | apply pw_below_drewN | apply below_drew1) | exact HB.out)) hb); have n5_ := Aside0.mk (hbox); have n6_ := Aside0.mk ((by rw [hg]; exact (below_size (by repeat (first | (with_reducible first | exact HB.out | apply below_alloc | apply pw_below_drewN | apply below_drew1) | exact HB.out))) : w.heap.size ≤ gb237)); have n7_ := Aside0.mk ((by rw [hg]; exact (below_size (by repeat (first | (with_reducible first | exact HB.out | apply below_alloc | apply pw_below_drewN | apply below_drew1) | exact HB.out))) : w.heap.size ≤ gb237)); clear HO_7; clear HO_8; clear HO_9; clear HO_10; clear HB; have HO_7 := n0_; have HO_8 := n1_; have HO_9 := n2_; have HO_10 := n3_; have HB := n4_; have BK237 := n5_; have GW237 := n6_; have GE237 := n7_; clear n0_ n1_ n2_ n3_ n4_ n5_ n6_ n7_; clear hb hbox hg; have hcz43_0 : w42.cell? ⟨gb237, 0, none⟩ = some (.string (⟨#[]⟩ : ByteArray)) := (blk_cell BK237.out 0).trans rfl; have hcz43_1 : w42.cell? ⟨gb237, 1, none⟩ = some (.int .i64 0) := (blk_cell BK237.out 1).trans rfl; have hcz43_2 : w42.cell? ⟨gb237, 2, none⟩ = some (.int .i64 0) := (blk_cell BK237.out 2).trans rfl; have hcz43_3 : w42.cell? ⟨gb237, 3, none⟩ = some (.string (⟨#[]⟩ : ByteArray)) := (blk_cell BK237.out 3).trans rfl; have hfz43_0 := blk_frozen BK237.out 0; have hfz43_1 := blk_frozen BK237.out 1; have hfz43_2 := blk_frozen BK237.out 2; have hfz43_3 := blk_frozen BK237.out 3; have p238 : 0 ≤ (x62_2 : Int) := of_decide_eq_true (by first | (with_reducible assumption) | assumption); have q238 : x62_2 < (t223.length : Int) := of_decide_eq_true (by first | (with_reducible assumption) | assumption); obtain ⟨ad238, e238, hx238_0, hx238_1, hx238_2, hx238_3⟩ := at_T30 (Kd.R_reads' HO_8.out).2.2 x62_2 p238 q238; cases e238; have hn238_0 : ad238.block ≠ gb237 := Kd.own_blk hq8_; have hn238_1 : ad238.block ≠ gb237 := Kd.own_blk hq8_; have hn238_2 : ad238.block ≠ gb237 := Kd.own_blk hq8_; have hn238_3 : ad238.block ≠ gb237 := Kd.own_blk hq8_; replace hx238_0 := (cell_far (p := ⟨gb237, 0, none⟩) (by first | (rw [add_block]; exact hn238_0) | (show (Addr.add _ _).block ≠ _; rw [add_block]; exact hn238_0) | exact hn238_0) (.string (⟨#[]⟩ : ByteArray))).trans hx238_0; replace hx238_1 := (cell_far (p := ⟨gb237, 0, none⟩) (by first | (rw [add_block]; exact hn238_0) | (show (Addr.add _ _).block ≠ _; rw [add_block]; exact hn238_0) | exact hn238_0) (.string (⟨#[]⟩ : ByteArray))).trans hx238_1; replace hx238_2 := (cell_far (p := ⟨gb237, 0, none⟩) (by first | (rw [add_block]; exact hn238_0) | (show (Addr.add _ _).block ≠ _; rw [add_block]; exact hn238_0) | exact hn238_0) (.string (⟨#[]⟩ : ByteArray))).trans hx238_2; replace hx238_3 := (cell_far (p := ⟨gb237, 0, none⟩) (by first | (rw [add_block]; exact hn238_0) | (show (Addr.add _ _).block ≠ _; rw [add_block]; exact hn238_0) | exact hn238_0) (.string (⟨#[]⟩ : ByteArray))).trans hx238_3; replace hx238_0 := (cell_far (p := ⟨gb237, 1, none⟩) (by first | (rw [add_block]; exact hn238_1) | (show (Addr.add _ _).block ≠ _; rw [add_block]; exact hn238_1) | exact hn238_1) (.int .i64 0)).trans hx238_0; replace hx238_1 := (cell_far (p := ⟨gb237, 1, none⟩) (by first | (rw [add_block]; exact hn238_1) | (show (Addr.add _ _).block ≠ _; rw [add_block]; exact hn238_1) | exact hn238_1) (.int .i64 0)).trans hx238_1; replace hx238_2 := (cell_far (p := ⟨gb237, 1, none⟩) (by first | (rw [add_block]; exact hn238_1) | (show (Addr.add _ _).block ≠ _; rw [add_block]; exact hn238_1) | exact hn238_1) (.int .i64 0)).trans hx238_2; replace hx238_3 := (cell_far (p := ⟨gb237, 1, none⟩) (by first | (rw [add_block]; exact hn238_1) | (show (Addr.add _ _).block ≠ _; rw [add_block]; exact hn238_1) | exact hn238_1) (.int .i64 0)).trans hx238_3; replace hx238_0 := (cell_far (p := ⟨gb237, 2, none⟩) (by first | (rw [add_block]; exact hn238_2) | (show (Addr.add _ _).block ≠ _; rw [add_block]; exact hn238_2) | exact hn238_2) (.int .i64 0)).trans hx238_0; replace hx238_1 := (cell_far (p := ⟨gb237, 2, none⟩) (by first | (rw [add_block]; exact hn238_2) | (show (Addr.add _ _).block ≠ _; rw [add_block]; exact hn238_2) | exact hn238_2) (.int .i64 0)).trans hx238_1; replace hx238_2 := (cell_far (p := ⟨gb237, 2, none⟩) (by first | (rw [add_block]; exact hn238_2) | (show (Addr.add _ _).block ≠ _; rw [add_block]; exact hn238_2) | exact hn238_2) (.int .i64 0)).trans hx238_2; replace hx238_3 := (cell_far (p := ⟨gb237, 2, none⟩) (by first | (rw [add_block]; exact hn238_2) | (show (Addr.add _ _).block ≠ _; rw [add_block]; exact hn238_2) | exact hn238_2) (.int .i64 0)).trans hx238_3; replace hx238_0 := (cell_far (p := ⟨gb237, 3, none⟩) (by first | (rw [add_block]; exact hn238_3) | (show (Addr.add _ _).block ≠ _; rw [add_block]; exact hn238_3) | exact hn238_3) (.string (⟨#[]⟩ : ByteArray))).trans hx238_0; replace hx238_1 := (cell_far (p := ⟨gb237, 3, none⟩) (by first | (rw [add_block]; exact hn238_3) | (show (Addr.add _ _).block ≠ _; rw [add_block]; exact hn238_3) | exact hn238_3) (.string (⟨#[]⟩ : ByteArray))).trans hx238_1; replace hx238_2 := (cell_far (p := ⟨gb237, 3, none⟩) (by first | (rw [add_block]; exact hn238_3) | (show (Addr.add _ _).block ≠ _; rw [add_block]; exact hn238_3) | exact hn238_3) (.string (⟨#[]⟩ : ByteArray))).trans hx238_2; replace hx238_3 := (cell_far (p := ⟨gb237, 3, none⟩) (by first | (rw [add_block]; exact hn238_3) | (show (Addr.add _ _).block ≠ _; rw [add_block]; exact hn238_3) | exact hn238_3) (.string (⟨#[]⟩ : ByteArray))).trans hx238_3; clear hn238_0; clear hn238_1; clear hn238_2; clear hn238_3; replace p238 := eq_true p238; replace q238 := eq_true q238))
                              have n0_ : Aside0 (Kd.R k30 30 ((((((((w42.setCell ⟨gb237, 0, none⟩ (.string (⟨#[]⟩ : ByteArray))).setCell ⟨gb237, 1, none⟩ (.int .i64 0)).setCell ⟨gb237, 2, none⟩ (.int .i64 0)).setCell ⟨gb237, 3, none⟩ (.string (⟨#[]⟩ : ByteArray))).setCell ⟨gb237, 0, none⟩ (.string ((rd_T30 t223 x62_2).f0))).setCell ⟨gb237, 1, none⟩ (.int .i64 ((rd_T30 t223 x62_2).f1.f0))).setCell ⟨gb237, 2, none⟩ (.int .i64 ((rd_T30 t223 x62_2).f1.f1))).setCell ⟨gb237, 3, none⟩ (.string ((rd_T30 t223 x62_2).f1.f2))) w.heap.size (fun k_ => some k_ ≠ (.slice (some ad238) t223.length co29 : Value).ownBlock ∧ some k_ ≠ (.slice Ao30 t226.length co30 : Value).ownBlock ∧ some k_ ≠ (.slice Ao28 t229.length co28 : Value).ownBlock ∧ k_ ≠ gb237) (.slice Ao26 y220.length co26) y220) := ⟨by (with_reducible repeat (first | apply Kd.R_alloc | apply Kd.R_drewN | apply Kd.R_drew)); exact Kd.R_mono (Kd.R_far (p := ⟨gb237, 3, none⟩) (Kd.R_far (p := ⟨gb237, 2, none⟩) (Kd.R_far (p := ⟨gb237, 1, none⟩) (Kd.R_far (p := ⟨gb237, 0, none⟩) (Kd.R_far (p := ⟨gb237, 3, none⟩) (Kd.R_far (p := ⟨gb237, 2, none⟩) (Kd.R_far (p := ⟨gb237, 1, none⟩) (Kd.R_far (p := ⟨gb237, 0, none⟩) (Kd.R_mono HO_7.out (fun k_ hk => (⟨hk, hk.2⟩ : _ ∧ k_ ≠ gb237))) (fun _ hk => hk.2) (.string (⟨#[]⟩ : ByteArray))) (fun _ hk => hk.2) (.int .i64 0)) (fun _ hk => hk.2) (.int .i64 0)) (fun _ hk => hk.2) (.string (⟨#[]⟩ : ByteArray))) (fun _ hk => hk.2) (.string ((rd_T30 t223 x62_2).f0))) (fun _ hk => hk.2) (.int .i64 ((rd_T30 t223 x62_2).f1.f0))) (fun _ hk => hk.2) (.int .i64 ((rd_T30 t223 x62_2).f1.f1))) (fun _ hk => hk.2) (.string ((rd_T30 t223 x62_2).f1.f2))) (fun _ hk => ⟨hk.1.1.1, ⟨hk.1.1.2.1, ⟨hk.1.1.2.2, hk.1.2⟩⟩⟩)⟩
                              have n1_ : Aside0 (Kd.R k30 30 ((((((((w42.setCell ⟨gb237, 0, none⟩ (.string (⟨#[]⟩ : ByteArray))).setCell ⟨gb237, 1, none⟩ (.int .i64 0)).setCell ⟨gb237, 2, none⟩ (.int .i64 0)).setCell ⟨gb237, 3, none⟩ (.string (⟨#[]⟩ : ByteArray))).setCell ⟨gb237, 0, none⟩ (.string ((rd_T30 t223 x62_2).f0))).setCell ⟨gb237, 1, none⟩ (.int .i64 ((rd_T30 t223 x62_2).f1.f0))).setCell ⟨gb237, 2, none⟩ (.int .i64 ((rd_T30 t223 x62_2).f1.f1))).setCell ⟨gb237, 3, none⟩ (.string ((rd_T30 t223 x62_2).f1.f2))) w.heap.size (fun k_ => some k_ ≠ (.slice Ao26 y220.length co26 : Value).ownBlock ∧ some k_ ≠ (.slice Ao30 t226.length co30 : Value).ownBlock ∧ some k_ ≠ (.slice Ao28 t229.length co28 : Value).ownBlock ∧ k_ ≠ gb237) (.slice (some ad238) t223.length co29) t223) := ⟨by (with_reducible repeat (first | apply Kd.R_alloc | apply Kd.R_drewN | apply Kd.R_drew)); exact Kd.R_mono (Kd.R_far (p := ⟨gb237, 3, none⟩) (Kd.R_far (p := ⟨gb237, 2, none⟩) (Kd.R_far (p := ⟨gb237, 1, none⟩) (Kd.R_far (p := ⟨gb237, 0, none⟩) (Kd.R_far (p := ⟨gb237, 3, none⟩) (Kd.R_far (p := ⟨gb237, 2, none⟩) (Kd.R_far (p := ⟨gb237, 1, none⟩) (Kd.R_far (p := ⟨gb237, 0, none⟩) (Kd.R_mono HO_8.out (fun k_ hk => (⟨hk, hk.2⟩ : _ ∧ k_ ≠ gb237))) (fun _ hk => hk.2) (.string (⟨#[]⟩ : ByteArray))) (fun _ hk => hk.2) (.int .i64 0)) (fun _ hk => hk.2) (.int .i64 0)) (fun _ hk => hk.2) (.string (⟨#[]⟩ : ByteArray))) (fun _ hk => hk.2) (.string ((rd_T30 t223 x62_2).f0))) (fun _ hk => hk.2) (.int .i64 ((rd_T30 t223 x62_2).f1.f0))) (fun _ hk => hk.2) (.int .i64 ((rd_T30 t223 x62_2).f1.f1))) (fun _ hk => hk.2) (.string ((rd_T30 t223 x62_2).f1.f2))) (fun _ hk => ⟨hk.1.1.1, ⟨hk.1.1.2.1, ⟨hk.1.1.2.2, hk.1.2⟩⟩⟩)⟩
                              have n2_ : Aside0 (Kd.R k30 30 ((((((((w42.setCell ⟨gb237, 0, none⟩ (.string (⟨#[]⟩ : ByteArray))).setCell ⟨gb237, 1, none⟩ (.int .i64 0)).setCell ⟨gb237, 2, none⟩ (.int .i64 0)).setCell ⟨gb237, 3, none⟩ (.string (⟨#[]⟩ : ByteArray))).setCell ⟨gb237, 0, none⟩ (.string ((rd_T30 t223 x62_2).f0))).setCell ⟨gb237, 1, none⟩ (.int .i64 ((rd_T30 t223 x62_2).f1.f0))).setCell ⟨gb237, 2, none⟩ (.int .i64 ((rd_T30 t223 x62_2).f1.f1))).setCell ⟨gb237, 3, none⟩ (.string ((rd_T30 t223 x62_2).f1.f2))) w.heap.size (fun k_ => some k_ ≠ (.slice Ao26 y220.length co26 : Value).ownBlock ∧ some k_ ≠ (.slice (some ad238) t223.length co29 : Value).ownBlock ∧ some k_ ≠ (.slice Ao28 t229.length co28 : Value).ownBlock ∧ k_ ≠ gb237) (.slice Ao30 t226.length co30) t226) := ⟨by (with_reducible repeat (first | apply Kd.R_alloc | apply Kd.R_drewN | apply Kd.R_drew)); exact Kd.R_mono (Kd.R_far (p := ⟨gb237, 3, none⟩) (Kd.R_far (p := ⟨gb237, 2, none⟩) (Kd.R_far (p := ⟨gb237, 1, none⟩) (Kd.R_far (p := ⟨gb237, 0, none⟩) (Kd.R_far (p := ⟨gb237, 3, none⟩) (Kd.R_far (p := ⟨gb237, 2, none⟩) (Kd.R_far (p := ⟨gb237, 1, none⟩) (Kd.R_far (p := ⟨gb237, 0, none⟩) (Kd.R_mono HO_9.out (fun k_ hk => (⟨hk, hk.2⟩ : _ ∧ k_ ≠ gb237))) (fun _ hk => hk.2) (.string (⟨#[]⟩ : ByteArray))) (fun _ hk => hk.2) (.int .i64 0)) (fun _ hk => hk.2) (.int .i64 0)) (fun _ hk => hk.2) (.string (⟨#[]⟩ : ByteArray))) (fun _ hk => hk.2) (.string ((rd_T30 t223 x62_2).f0))) (fun _ hk => hk.2) (.int .i64 ((rd_T30 t223 x62_2).f1.f0))) (fun _ hk => hk.2) (.int .i64 ((rd_T30 t223 x62_2).f1.f1))) (fun _ hk => hk.2) (.string ((rd_T30 t223 x62_2).f1.f2))) (fun _ hk => ⟨hk.1.1.1, ⟨hk.1.1.2.1, ⟨hk.1.1.2.2, hk.1.2⟩⟩⟩)⟩
                              have n3_ : Aside0 (Kd.R k30 30 ((((((((w42.setCell ⟨gb237, 0, none⟩ (.string (⟨#[]⟩ : ByteArray))).setCell ⟨gb237, 1, none⟩ (.int .i64 0)).setCell ⟨gb237, 2, none⟩ (.int .i64 0)).setCell ⟨gb237, 3, none⟩ (.string (⟨#[]⟩ : ByteArray))).setCell ⟨gb237, 0, none⟩ (.string ((rd_T30 t223 x62_2).f0))).setCell ⟨gb237, 1, none⟩ (.int .i64 ((rd_T30 t223 x62_2).f1.f0))).setCell ⟨gb237, 2, none⟩ (.int .i64 ((rd_T30 t223 x62_2).f1.f1))).setCell ⟨gb237, 3, none⟩ (.string ((rd_T30 t223 x62_2).f1.f2))) w.heap.size (fun k_ => some k_ ≠ (.slice Ao26 y220.length co26 : Value).ownBlock ∧ some k_ ≠ (.slice (some ad238) t223.length co29 : Value).ownBlock ∧ some k_ ≠ (.slice Ao30 t226.length co30 : Value).ownBlock ∧ k_ ≠ gb237) (.slice Ao28 t229.length co28) t229) := ⟨by (with_reducible repeat (first | apply Kd.R_alloc | apply Kd.R_drewN | apply Kd.R_drew)); exact Kd.R_mono (Kd.R_far (p := ⟨gb237, 3, none⟩) (Kd.R_far (p := ⟨gb237, 2, none⟩) (Kd.R_far (p := ⟨gb237, 1, none⟩) (Kd.R_far (p := ⟨gb237, 0, none⟩) (Kd.R_far (p := ⟨gb237, 3, none⟩) (Kd.R_far (p := ⟨gb237, 2, none⟩) (Kd.R_far (p := ⟨gb237, 1, none⟩) (Kd.R_far (p := ⟨gb237, 0, none⟩) (Kd.R_mono HO_10.out (fun k_ hk => (⟨hk, hk.2⟩ : _ ∧ k_ ≠ gb237))) (fun _ hk => hk.2) (.string (⟨#[]⟩ : ByteArray))) (fun _ hk => hk.2) (.int .i64 0)) (fun _ hk => hk.2) (.int .i64 0)) (fun _ hk => hk.2) (.string (⟨#[]⟩ : ByteArray))) (fun _ hk => hk.2) (.string ((rd_T30 t223 x62_2).f0))) (fun _ hk => hk.2) (.int .i64 ((rd_T30 t223 x62_2).f1.f0))) (fun _ hk => hk.2) (.int .i64 ((rd_T30 t223 x62_2).f1.f1))) (fun _ hk => hk.2) (.string ((rd_T30 t223 x62_2).f1.f2))) (fun _ hk => ⟨hk.1.1.1, ⟨hk.1.1.2.1, ⟨hk.1.1.2.2, hk.1.2⟩⟩⟩)⟩
                              have n4_ : Aside0 (((((((((w42.setCell ⟨gb237, 0, none⟩ (.string (⟨#[]⟩ : ByteArray))).setCell ⟨gb237, 1, none⟩ (.int .i64 0)).setCell ⟨gb237, 2, none⟩ (.int .i64 0)).setCell ⟨gb237, 3, none⟩ (.string (⟨#[]⟩ : ByteArray))).setCell ⟨gb237, 0, none⟩ (.string ((rd_T30 t223 x62_2).f0))).setCell ⟨gb237, 1, none⟩ (.int .i64 ((rd_T30 t223 x62_2).f1.f0))).setCell ⟨gb237, 2, none⟩ (.int .i64 ((rd_T30 t223 x62_2).f1.f1))).setCell ⟨gb237, 3, none⟩ (.string ((rd_T30 t223 x62_2).f1.f2))).heap[gb237]? = some (.cells #[.string ((rd_T30 t223 x62_2).f0), .int .i64 ((rd_T30 t223 x62_2).f1.f0), .int .i64 ((rd_T30 t223 x62_2).f1.f1), .string ((rd_T30 t223 x62_2).f1.f2)] 30 (0, 0))) := ⟨by (with_reducible repeat (first | refine blk_drewN ?_ _ | refine blk_drew ?_ | refine blk_alloc ?_ _)); refine blk_put (cs := #[.string ((rd_T30 t223 x62_2).f0), .int .i64 ((rd_T30 t223 x62_2).f1.f0), .int .i64 ((rd_T30 t223 x62_2).f1.f1), .string (⟨#[]⟩ : ByteArray)]) ?_ 3 _ rfl; (with_reducible repeat (first | refine blk_drewN ?_ _ | refine blk_drew ?_ | refine blk_alloc ?_ _)); refine blk_put (cs := #[.string ((rd_T30 t223 x62_2).f0), .int .i64 ((rd_T30 t223 x62_2).f1.f0), .int .i64 0, .string (⟨#[]⟩ : ByteArray)]) ?_ 2 _ rfl; (with_reducible repeat (first | refine blk_drewN ?_ _ | refine blk_drew ?_ | refine blk_alloc ?_ _)); refine blk_put (cs := #[.string ((rd_T30 t223 x62_2).f0), .int .i64 0, .int .i64 0, .string (⟨#[]⟩ : ByteArray)]) ?_ 1 _ rfl; (with_reducible repeat (first | refine blk_drewN ?_ _ | refine blk_drew ?_ | refine blk_alloc ?_ _)); refine blk_put (cs := #[.string (⟨#[]⟩ : ByteArray), .int .i64 0, .int .i64 0, .string (⟨#[]⟩ : ByteArray)]) ?_ 0 _ rfl; (with_reducible repeat (first | refine blk_drewN ?_ _ | refine blk_drew ?_ | refine blk_alloc ?_ _)); refine blk_put (cs := #[.string (⟨#[]⟩ : ByteArray), .int .i64 0, .int .i64 0, .string (⟨#[]⟩ : ByteArray)]) ?_ 3 _ rfl; (with_reducible repeat (first | refine blk_drewN ?_ _ | refine blk_drew ?_ | refine blk_alloc ?_ _)); refine blk_put (cs := #[.string (⟨#[]⟩ : ByteArray), .int .i64 0, .int .i64 0, .string (⟨#[]⟩ : ByteArray)]) ?_ 2 _ rfl; (with_reducible repeat (first | refine blk_drewN ?_ _ | refine blk_drew ?_ | refine blk_alloc ?_ _)); refine blk_put (cs := #[.string (⟨#[]⟩ : ByteArray), .int .i64 0, .int .i64 0, .string (⟨#[]⟩ : ByteArray)]) ?_ 1 _ rfl; (with_reducible repeat (first | refine blk_drewN ?_ _ | refine blk_drew ?_ | refine blk_alloc ?_ _)); refine blk_put (cs := #[.string (⟨#[]⟩ : ByteArray), .int .i64 0, .int .i64 0, .string (⟨#[]⟩ : ByteArray)]) ?_ 0 _ rfl; (with_reducible repeat (first | refine blk_drewN ?_ _ | refine blk_drew ?_ | refine blk_alloc ?_ _)); exact BK237.out⟩
                              have n5_ : Aside0 (Below w.heap.size w ((((((((w42.setCell ⟨gb237, 0, none⟩ (.string (⟨#[]⟩ : ByteArray))).setCell ⟨gb237, 1, none⟩ (.int .i64 0)).setCell ⟨gb237, 2, none⟩ (.int .i64 0)).setCell ⟨gb237, 3, none⟩ (.string (⟨#[]⟩ : ByteArray))).setCell ⟨gb237, 0, none⟩ (.string ((rd_T30 t223 x62_2).f0))).setCell ⟨gb237, 1, none⟩ (.int .i64 ((rd_T30 t223 x62_2).f1.f0))).setCell ⟨gb237, 2, none⟩ (.int .i64 ((rd_T30 t223 x62_2).f1.f1))).setCell ⟨gb237, 3, none⟩ (.string ((rd_T30 t223 x62_2).f1.f2)))) := ⟨by repeat (first | (with_reducible first | exact HB.out | apply below_alloc | apply pw_below_drewN | apply below_drew1 | refine below_set ?_ GE237.out) | exact HB.out)⟩
                              (try clear HO_7)
                              (try clear HO_8)
                              (try clear HO_9)
                              (try clear HO_10)
                              (try clear BK237)
                              (try clear HB)
                              generalize ((((((((w42.setCell ⟨gb237, 0, none⟩ (.string (⟨#[]⟩ : ByteArray))).setCell ⟨gb237, 1, none⟩ (.int .i64 0)).setCell ⟨gb237, 2, none⟩ (.int .i64 0)).setCell ⟨gb237, 3, none⟩ (.string (⟨#[]⟩ : ByteArray))).setCell ⟨gb237, 0, none⟩ (.string ((rd_T30 t223 x62_2).f0))).setCell ⟨gb237, 1, none⟩ (.int .i64 ((rd_T30 t223 x62_2).f1.f0))).setCell ⟨gb237, 2, none⟩ (.int .i64 ((rd_T30 t223 x62_2).f1.f1))).setCell ⟨gb237, 3, none⟩ (.string ((rd_T30 t223 x62_2).f1.f2))) = w44 at n0_ n1_ n2_ n3_ n4_ n5_ ⊢
                              have HO_7 := n0_
                              have HO_8 := n1_
                              have HO_9 := n2_
                              have HO_10 := n3_
                              have BK237 := n4_
                              have HB := n5_
                              clear n0_ n1_ n2_ n3_ n4_ n5_
                              have n0_ := Aside0.mk (Kd.R_drew HO_7.out)
                              have n1_ := Aside0.mk (Kd.R_drew HO_8.out)
                              have n2_ := Aside0.mk (Kd.R_drew HO_9.out)
                              have n3_ := Aside0.mk (Kd.R_drew HO_10.out)
                              have n4_ := Aside0.mk (blk_drew BK237.out)
                              have n5_ := Aside0.mk (below_drew1 HB.out)
                              clear HO_7
                              clear HO_8
                              clear HO_9
                              clear HO_10
                              clear BK237
                              clear HB
                              have HO_7 := n0_
                              have HO_8 := n1_
                              have HO_9 := n2_
                              have HO_10 := n3_
                              have BK237 := n4_
                              have HB := n5_
                              clear n0_ n1_ n2_ n3_ n4_ n5_
                              have p239 : 0 ≤ (x62_2 : Int) := of_decide_eq_true (by first | (with_reducible assumption) | assumption)
                              have q239 : x62_2 < (t229.length : Int) := of_decide_eq_true (by first | (with_reducible assumption) | assumption)
                              obtain ⟨ad239, e239, hx239_0, hx239_1, hx239_2, hx239_3⟩ := at_T30 (Kd.R_reads' HO_10.out).2.2 x62_2 p239 q239
                              cases e239
                              replace p239 := eq_true p239
                              replace q239 := eq_true q239
                              have p240 : 0 ≤ (x62_2 : Int) := of_decide_eq_true (by first | (with_reducible assumption) | assumption)
                              have q240 : x62_2 < (t229.length : Int) := of_decide_eq_true (by first | (with_reducible assumption) | assumption)
                              obtain ⟨ad240, e240, hx240_0, hx240_1, hx240_2, hx240_3⟩ := at_T30 (Kd.R_reads' HO_10.out).2.2 x62_2 p240 q240
                              obtain rfl : ad239 = ad240 := (by injection e240)
                              replace p240 := eq_true p240
                              replace q240 := eq_true q240
                              refine start_ (n := 16) (S := fun w' => w'.cell? ⟨gb237, 0, none⟩ = some (.string ((rd_T30 t223 x62_2).f0)) ∧ w'.cell? ⟨gb237, 1, none⟩ = some (.int .i64 ((rd_T30 t223 x62_2).f1.f0)) ∧ w'.cell? ⟨gb237, 2, none⟩ = some (.int .i64 ((rd_T30 t223 x62_2).f1.f1)) ∧ w'.cell? ⟨gb237, 3, none⟩ = some (.string ((rd_T30 t223 x62_2).f1.f2)) ∧ w'.cell? (ad239.add ((x62_2).toNat * 4)) = some (.string ((rd_T30 t229 x62_2).f0)) ∧ w'.cell? ⟨(ad239.add ((x62_2).toNat * 4)).block, (ad239.add ((x62_2).toNat * 4)).off + 1, none⟩ = some (.int .i64 ((rd_T30 t229 x62_2).f1.f0)) ∧ w'.cell? ⟨(ad239.add ((x62_2).toNat * 4)).block, (ad239.add ((x62_2).toNat * 4)).off + 2, none⟩ = some (.int .i64 ((rd_T30 t229 x62_2).f1.f1)) ∧ w'.cell? ⟨(ad239.add ((x62_2).toNat * 4)).block, (ad239.add ((x62_2).toNat * 4)).off + 3, none⟩ = some (.string ((rd_T30 t229 x62_2).f1.f2)) ∧ w'.cell? (ad239.add ((x62_2).toNat * 4)) = some (.string ((rd_T30 t229 x62_2).f0)) ∧ w'.cell? ⟨(ad239.add ((x62_2).toNat * 4)).block, (ad239.add ((x62_2).toNat * 4)).off + 1, none⟩ = some (.int .i64 ((rd_T30 t229 x62_2).f1.f0)) ∧ w'.cell? ⟨(ad239.add ((x62_2).toNat * 4)).block, (ad239.add ((x62_2).toNat * 4)).off + 2, none⟩ = some (.int .i64 ((rd_T30 t229 x62_2).f1.f1)) ∧ w'.cell? ⟨(ad239.add ((x62_2).toNat * 4)).block, (ad239.add ((x62_2).toNat * 4)).off + 3, none⟩ = some (.string ((rd_T30 t229 x62_2).f1.f2))) (ds := []) #[false, false, false, false, false, false, false, false, false, false, false, false, false, false, false, false] (by kernel_rfl) rfl rfl ⟨(blk_cell BK237.out 0).trans rfl, (blk_cell BK237.out 1).trans rfl, (blk_cell BK237.out 2).trans rfl, (blk_cell BK237.out 3).trans rfl, hx239_0, hx239_1, hx239_2, hx239_3, hx240_0, hx240_1, hx240_2, hx240_3⟩ (fun hHeld => ?_); refine with_tabW gonglaw08_PduFind.tab16 gonglaw08_PduFind.bits16 (fun HT_ HW_ => ?_)
                              generalize w44.drew = w45 at HO_7 HO_8 HO_9 HO_10 BK237 HB hx239_0 hx239_1 hx239_2 hx239_3 hx240_0 hx240_1 hx240_2 hx240_3 hHeld ⊢
                              refine pure_ (i := 0) (N := some 81) (v := ?_) (a' := ?_) #[true, false, false, false, false, false, false, false, false, false, false, false, false, false, false, false] rfl rfl (any_of HT_.out (by kernel_rfl)) (fun _ _ _ h => h) (Or.inl ⟨by rfl, ?_⟩) ?_ ?_
                              rotate_left
                              · intro w'
                                go_simp
                                with_reducible rfl
                              rotate_left
                              · simp only [Act.put, List.setIfInBounds_toArray, List.set_cons_zero, List.set_cons_succ, i64_w, i32_w]
                                rfl
                              refine pure_ (i := 1) (N := some 82) (v := ?_) (a' := ?_) #[true, true, false, false, false, false, false, false, false, false, false, false, false, false, false, false] rfl rfl (any_of HT_.out (by kernel_rfl)) (fun _ _ _ h => h) (Or.inl ⟨by rfl, ?_⟩) ?_ ?_
                              rotate_left
                              · intro w'
                                go_simp
                                with_reducible rfl
                              rotate_left
                              · simp only [Act.put, List.setIfInBounds_toArray, List.set_cons_zero, List.set_cons_succ, i64_w, i32_w]
                                rfl
                              refine pure_ (i := 2) (N := some 83) (v := ?_) (a' := ?_) #[true, true, true, false, false, false, false, false, false, false, false, false, false, false, false, false] rfl rfl (any_of HT_.out (by kernel_rfl)) (fun _ _ _ h => h) (Or.inl ⟨by rfl, ?_⟩) ?_ ?_
                              rotate_left
                              · intro w'
                                go_simp
                                with_reducible rfl
                              rotate_left
                              · simp only [Act.put, List.setIfInBounds_toArray, List.set_cons_zero, List.set_cons_succ, i64_w, i32_w]
                                rfl
                              refine take_ (i := 3) (N := some 84) (v := ?_) (a' := ?_) #[true, true, true, true, false, false, false, false, false, false, false, false, false, false, false, false] rfl rfl (take_ofW HT_.out HW_.out (by kernel_rfl)) (fun _ _ _ h => h) (Or.inl ⟨by rfl, ?_⟩) hHeld ?_ ?_
                              rotate_left
                              · rintro w' ⟨s0, s1, s2, s3, s4, s5, s6, s7, s8, s9, s10, s11⟩
                                go_simp
                                with_reducible rfl
                              rotate_left
                              · simp only [Act.put, List.setIfInBounds_toArray, List.set_cons_zero, List.set_cons_succ, i64_w, i32_w]
                                rfl
                              refine take_ (i := 4) (N := some 85) (v := ?_) (a' := ?_) #[true, true, true, true, true, false, false, false, false, false, false, false, false, false, false, false] rfl rfl (take_ofW HT_.out HW_.out (by kernel_rfl)) (fun _ _ _ h => h) (Or.inl ⟨by rfl, ?_⟩) hHeld ?_ ?_
                              rotate_left
                              · rintro w' ⟨s0, s1, s2, s3, s4, s5, s6, s7, s8, s9, s10, s11⟩
                                go_simp
                                with_reducible rfl
                              rotate_left
                              · simp only [Act.put, List.setIfInBounds_toArray, List.set_cons_zero, List.set_cons_succ, i64_w, i32_w]
                                rfl
                              refine pure_ (i := 5) (N := some 86) (v := ?_) (a' := ?_) #[true, true, true, true, true, true, false, false, false, false, false, false, false, false, false, false] rfl rfl (any_of HT_.out (by kernel_rfl)) (fun _ _ _ h => h) (Or.inl ⟨by rfl, ?_⟩) ?_ ?_
                              rotate_left
                              · intro w'
                                go_simp
                                with_reducible rfl
                              rotate_left
                              · simp only [Act.put, List.setIfInBounds_toArray, List.set_cons_zero, List.set_cons_succ, i64_w, i32_w]
                                rfl
                              refine pure_ (i := 6) (N := some 87) (v := ?_) (a' := ?_) #[true, true, true, true, true, true, true, false, false, false, false, false, false, false, false, false] rfl rfl (any_of HT_.out (by kernel_rfl)) (fun _ _ _ h => h) (Or.inl ⟨by rfl, ?_⟩) ?_ ?_
                              rotate_left
                              · intro w'
                                go_simp
                                with_reducible rfl
                              rotate_left
                              · simp only [Act.put, List.setIfInBounds_toArray, List.set_cons_zero, List.set_cons_succ, i64_w, i32_w]
                                rfl
                              refine pure_ (i := 7) (N := some 88) (v := ?_) (a' := ?_) #[true, true, true, true, true, true, true, true, false, false, false, false, false, false, false, false] rfl rfl (any_of HT_.out (by kernel_rfl)) (fun _ _ _ h => h) (Or.inl ⟨by rfl, ?_⟩) ?_ ?_
                              rotate_left
                              · intro w'
                                go_simp
                                with_reducible rfl
                              rotate_left
                              · simp only [Act.put, List.setIfInBounds_toArray, List.set_cons_zero, List.set_cons_succ, i64_w, i32_w]
                                rfl
                              refine pure_ (i := 8) (N := some 89) (v := ?_) (a' := ?_) #[true, true, true, true, true, true, true, true, true, false, false, false, false, false, false, false] rfl rfl (any_of HT_.out (by kernel_rfl)) (fun _ _ _ h => h) (Or.inl ⟨by rfl, ?_⟩) ?_ ?_
                              rotate_left
                              · intro w'
                                go_simp
                                with_reducible rfl
                              rotate_left
                              · simp only [Act.put, List.setIfInBounds_toArray, List.set_cons_zero, List.set_cons_succ, i64_w, i32_w]
                                rfl
                              refine pure_ (i := 9) (N := some 90) (v := ?_) (a' := ?_) #[true, true, true, true, true, true, true, true, true, true, false, false, false, false, false, false] rfl rfl (any_of HT_.out (by kernel_rfl)) (fun _ _ _ h => h) (Or.inl ⟨by rfl, ?_⟩) ?_ ?_
                              rotate_left
                              · intro w'
                                go_simp
                                with_reducible rfl
                              rotate_left
                              · simp only [Act.put, List.setIfInBounds_toArray, List.set_cons_zero, List.set_cons_succ, i64_w, i32_w]
                                rfl
                              refine pure_ (i := 10) (N := some 91) (v := ?_) (a' := ?_) #[true, true, true, true, true, true, true, true, true, true, true, false, false, false, false, false] rfl rfl (any_of HT_.out (by kernel_rfl)) (fun _ _ _ h => h) (Or.inl ⟨by rfl, ?_⟩) ?_ ?_
                              rotate_left
                              · intro w'
                                go_simp
                                with_reducible rfl
                              rotate_left
                              · simp only [Act.put, List.setIfInBounds_toArray, List.set_cons_zero, List.set_cons_succ, i64_w, i32_w]
                                rfl
                              refine pure_ (i := 11) (N := some 92) (v := ?_) (a' := ?_) #[true, true, true, true, true, true, true, true, true, true, true, true, false, false, false, false] rfl rfl (any_of HT_.out (by kernel_rfl)) (fun _ _ _ h => h) (Or.inl ⟨by rfl, ?_⟩) ?_ ?_
                              rotate_left
                              · intro w'
                                go_simp
                                with_reducible rfl
                              rotate_left
                              · simp only [Act.put, List.setIfInBounds_toArray, List.set_cons_zero, List.set_cons_succ, i64_w, i32_w]
                                rfl
                              refine take_ (i := 12) (N := some 93) (v := ?_) (a' := ?_) #[true, true, true, true, true, true, true, true, true, true, true, true, true, false, false, false] rfl rfl (take_ofW HT_.out HW_.out (by kernel_rfl)) (fun _ _ _ h => h) (Or.inl ⟨by rfl, ?_⟩) hHeld ?_ ?_
                              rotate_left
                              · rintro w' ⟨s0, s1, s2, s3, s4, s5, s6, s7, s8, s9, s10, s11⟩
                                go_simp
                                with_reducible rfl
                              rotate_left
                              · simp only [Act.put, List.setIfInBounds_toArray, List.set_cons_zero, List.set_cons_succ, i64_w, i32_w]
                                rfl
                              refine one_ (i := 13) (N := some 94) #[true, true, true, true, true, true, true, true, true, true, true, true, true, true, false, false] rfl rfl (one_of HT_.out (by kernel_rfl)) (by decide) (fun K hK => ?_)
                              refine goes_ Tryz.func23 (by kernel_rfl) rfl #[.string a2, .string ((rd_T30 t229 x62_2).f0)] (by rfl) rfl rfl (by (try simp only [List.map_toArray, List.map_cons, List.map_nil]); first | done | rfl | (simp only [List.length_drop, List.length_take]; rfl)) ?_
                              with_reducible refine (oid_Within.calls k2 a2 ((rd_T30 t229 x62_2).f0) true _ ?side1 A40.out).mono ?_
                              (case side1 => first | exact HGl.out | exact HGl.out.below (by repeat (first | (with_reducible first | exact HB.out | apply below_alloc | apply pw_below_drewN | apply below_drew1) | exact HB.out | (refine below_set ?_ (Aside0.out (by assumption))) | exact Below.refl _ _)))
                              rintro e w46 ⟨rfl, hb⟩
                              have HS4_ := (hb.cell (World.block_lt_of_cell? _ _ (hHeld.2.2.2.2.1))).trans (hHeld.2.2.2.2.1)
                              have HS5_ := (hb.cell (World.block_lt_of_cell? _ _ (hHeld.2.2.2.2.2.1))).trans (hHeld.2.2.2.2.2.1)
                              have HS6_ := (hb.cell (World.block_lt_of_cell? _ _ (hHeld.2.2.2.2.2.2.1))).trans (hHeld.2.2.2.2.2.2.1)
                              have HS7_ := (hb.cell (World.block_lt_of_cell? _ _ (hHeld.2.2.2.2.2.2.2.1))).trans (hHeld.2.2.2.2.2.2.2.1)
                              have HS8_ := (hb.cell (World.block_lt_of_cell? _ _ (hHeld.2.2.2.2.2.2.2.2.1))).trans (hHeld.2.2.2.2.2.2.2.2.1)
                              have HS9_ := (hb.cell (World.block_lt_of_cell? _ _ (hHeld.2.2.2.2.2.2.2.2.2.1))).trans (hHeld.2.2.2.2.2.2.2.2.2.1)
                              have HS10_ := (hb.cell (World.block_lt_of_cell? _ _ (hHeld.2.2.2.2.2.2.2.2.2.2.1))).trans (hHeld.2.2.2.2.2.2.2.2.2.2.1)
                              have HS11_ := (hb.cell (World.block_lt_of_cell? _ _ (hHeld.2.2.2.2.2.2.2.2.2.2.2))).trans (hHeld.2.2.2.2.2.2.2.2.2.2.2)
                              refine ⟨_, rfl, ?_⟩
                              have n0_ := Aside0.mk (Kd.R_below (by (with_reducible repeat (first | apply Kd.R_alloc | apply Kd.R_drewN | apply Kd.R_drew)); exact HO_7.out) hb)
                              have n1_ := Aside0.mk (Kd.R_below (by (with_reducible repeat (first | apply Kd.R_alloc | apply Kd.R_drewN | apply Kd.R_drew)); exact HO_8.out) hb)
                              have n2_ := Aside0.mk (Kd.R_below (by (with_reducible repeat (first | apply Kd.R_alloc | apply Kd.R_drewN | apply Kd.R_drew)); exact HO_9.out) hb)
                              have n3_ := Aside0.mk (Kd.R_below (by (with_reducible repeat (first | apply Kd.R_alloc | apply Kd.R_drewN | apply Kd.R_drew)); exact HO_10.out) hb)
                              have n4_ := Aside0.mk (blk_below (g := gb237) (o := .cells #[.string ((rd_T30 t223 x62_2).f0), .int .i64 ((rd_T30 t223 x62_2).f1.f0), .int .i64 ((rd_T30 t223 x62_2).f1.f1), .string ((rd_T30 t223 x62_2).f1.f2)] 30 (0, 0)) (by (with_reducible repeat (first | refine blk_drewN ?_ _ | refine blk_drew ?_ | refine blk_alloc ?_ _)); exact BK237.out) hb)
                              have n5_ := Aside0.mk (below_step (by repeat (first | (with_reducible first | exact HB.out | apply below_alloc | apply pw_below_drewN | apply below_drew1 | refine below_set ?_ GE237.out) | exact HB.out)) hb)
                              clear HO_7
                              clear HO_8
                              clear HO_9
                              clear HO_10
                              clear BK237
                              clear HB
                              have HO_7 := n0_
                              have HO_8 := n1_
                              have HO_9 := n2_
                              have HO_10 := n3_
                              have BK237 := n4_
                              have HB := n5_
                              clear n0_ n1_ n2_ n3_ n4_ n5_
                              (try clear hb)
                              (try clear hb2)
                              (try clear hk)
                              (try clear hi)
                              refine hK.out _ _ ⟨(blk_cell BK237.out 0).trans rfl, (blk_cell BK237.out 1).trans rfl, (blk_cell BK237.out 2).trans rfl, (blk_cell BK237.out 3).trans rfl, HS4_, HS5_, HS6_, HS7_, HS8_, HS9_, HS10_, HS11_⟩ (fun hHeld => ?_)
                              clear hK K
                              refine norm_ (a' := ?_) ?_ ?_
                              rotate_left
                              · show Act.put _ (some 94) _ = _
                                simp only [Act.put, List.setIfInBounds_toArray, List.set_cons_zero, List.set_cons_succ, i64_w, i32_w]
                                rfl
                              refine pure_ (i := 14) (N := some 95) (v := ?_) (a' := ?_) #[true, true, true, true, true, true, true, true, true, true, true, true, true, true, true, false] rfl rfl (any_of HT_.out (by kernel_rfl)) (fun _ _ _ h => h) (Or.inl ⟨by rfl, ?_⟩) ?_ ?_
                              rotate_left
                              · intro w'
                                go_simp
                                with_reducible rfl
                              rotate_left
                              · simp only [Act.put, List.setIfInBounds_toArray, List.set_cons_zero, List.set_cons_succ, i64_w, i32_w]
                                rfl
                              refine pure_ (i := 15) (N := some 96) (v := ?_) (a' := ?_) #[true, true, true, true, true, true, true, true, true, true, true, true, true, true, true, true] rfl rfl (any_of HT_.out (by kernel_rfl)) (fun _ _ _ h => h) (Or.inl ⟨by rfl, ?_⟩) ?_ ?_
                              rotate_left
                              · intro w'
                                go_simp
                                with_reducible rfl
                              rotate_left
                              · simp only [Act.put, List.setIfInBounds_toArray, List.set_cons_zero, List.set_cons_succ, i64_w, i32_w]
                                rfl
                              refine done_ (done_of HT_.out (by kernel_rfl)) ?_
                              try go_wp2
                              go_roundg k2
                              case measure => have := HJ5.out; have := HK2.out; omega
                              case rel => exact ⟨(wrap64 (x62_2 + 1)), (by first | rfl | (simp; done) | (simp [*]; done) | (simp [*]; exact isEmpty_bne _) | (simp; exact isEmpty_bne _)), H', ⟨by have := HJ5.out; have := HK2.out; omega⟩, ⟨by (with_reducible repeat (first | apply Kd.R_alloc | apply Kd.R_drewN | apply Kd.R_drew)); exact Kd.R_mono HO_7.out (fun _ hk => ⟨hk.1, ⟨hk.2.1, hk.2.2.1⟩⟩)⟩, ⟨by (with_reducible repeat (first | apply Kd.R_alloc | apply Kd.R_drewN | apply Kd.R_drew)); exact Kd.R_mono HO_8.out (fun _ hk => ⟨hk.1, ⟨hk.2.1, hk.2.2.1⟩⟩)⟩, ⟨by (with_reducible repeat (first | apply Kd.R_alloc | apply Kd.R_drewN | apply Kd.R_drew)); exact Kd.R_mono HO_9.out (fun _ hk => ⟨hk.1, ⟨hk.2.1, hk.2.2.1⟩⟩)⟩, ⟨by (with_reducible repeat (first | apply Kd.R_alloc | apply Kd.R_drewN | apply Kd.R_drew)); exact Kd.R_mono HO_10.out (fun _ hk => ⟨hk.1, ⟨hk.2.1, hk.2.2.1⟩⟩)⟩, ⟨by repeat (first | (with_reducible first | exact HB.out | apply below_alloc | apply pw_below_drewN | apply below_drew1 | refine below_set ?_ GE237.out) | exact HB.out)⟩⟩
                            · replace c41 := Bool.eq_false_iff.mpr c41
                              subst c41
                              have H1 : (none) = some r := by rw [if_neg (show ¬ (false = true) by decide)] at H; exact H
                              exact absurd H1 (by simp)
                        · rw [if_neg c34] at H
                          exact absurd H (by simp)
                      · rw [if_neg c33] at H
                        exact absurd H (by simp)
                    · rw [if_neg c32] at H
                      have c32b0 : decide (x62_2 < (t223.length : Int)) = false := decide_eq_false c32
                      clear c32
                      obtain ⟨ji52, hji52⟩ : ∃ j_ : Int, (wrap64 (x62_2 - (t223.length : Int))) = j_ := ⟨_, rfl⟩
                      replace H : (if 0 ≤ (ji52) then (if (ji52) < (t226.length : Int) then (if 0 ≤ x62_2 then (if x62_2 < (t229.length : Int) then (if (!((((rd_T30 t229 x62_2).f0).toList) == (((rd_T30 t226 (ji52)).f0).toList)) || ((!(((rd_T30 t229 x62_2).f1.f0) == ((rd_T30 t226 (ji52)).f1.f0)) || (!(((rd_T30 t229 x62_2).f1.f1) == ((rd_T30 t226 (ji52)).f1.f1)) || (!((((rd_T30 t229 x62_2).f1.f2).toList) == (((rd_T30 t226 (ji52)).f1.f2).toList))))))) = true then (none) else ((oid_Within.f k2 a2 ((rd_T30 t229 x62_2).f0)).bind fun t245 => (if t245 = true then (gonglaw08_PduFind.l0 k2 a2 y220 t223 t226 t229 (t229.length : Int) (wrap64 (x62_2 + 1))) else (none)))) else (none)) else (none)) else (none)) else (none)) = some r := by first | (rw [hji52] at H; exact H) | (simp only [hji52] at H ⊢; exact H)
                      have hji52w : (IntKind.i64.wrap (x62_2 - (t223.length : Int))) = ji52 := (i64_w _).trans hji52
                      by_cases c53 : 0 ≤ (ji52)
                      · rw [if_pos c53] at H
                        have c53b0 : decide (0 ≤ (ji52)) = true := decide_eq_true c53
                        clear c53
                        by_cases c54 : (ji52) < (t226.length : Int)
                        · rw [if_pos c54] at H
                          have c54b0 : decide ((ji52) < (t226.length : Int)) = true := decide_eq_true c54
                          clear c54
                          by_cases c55 : 0 ≤ x62_2
                          · rw [if_pos c55] at H
                            have c55b0 : decide (0 ≤ x62_2) = true := decide_eq_true c55
                            clear c55
                            by_cases c56 : x62_2 < (t229.length : Int)
                            · rw [if_pos c56] at H
                              have c56b0 : decide (x62_2 < (t229.length : Int)) = true := decide_eq_true c56
                              clear c56
                              by_cases c57 : (!((((rd_T30 t229 x62_2).f0).toList) == (((rd_T30 t226 (ji52)).f0).toList)) || ((!(((rd_T30 t229 x62_2).f1.f0) == ((rd_T30 t226 (ji52)).f1.f0)) || (!(((rd_T30 t229 x62_2).f1.f1) == ((rd_T30 t226 (ji52)).f1.f1)) || (!((((rd_T30 t229 x62_2).f1.f2).toList) == (((rd_T30 t226 (ji52)).f1.f2).toList))))))) = true
                              · rw [if_pos c57] at H
                                exact absurd H (by simp)
                              · rw [if_neg c57] at H
                                have c57b0 : (!((((rd_T30 t229 x62_2).f0).toList) == (((rd_T30 t226 (ji52)).f0).toList)) || ((!(((rd_T30 t229 x62_2).f1.f0) == ((rd_T30 t226 (ji52)).f1.f0)) || (!(((rd_T30 t229 x62_2).f1.f1) == ((rd_T30 t226 (ji52)).f1.f1)) || (!((((rd_T30 t229 x62_2).f1.f2).toList) == (((rd_T30 t226 (ji52)).f1.f2).toList))))))) = false := by simpa using c57
                                clear c57
                                replace H := Option.bind_eq_some_iff.mp H
                                obtain ⟨t245, A620, H⟩ := H
                                replace H : (if t245 = true then (gonglaw08_PduFind.l0 k2 a2 y220 t223 t226 t229 (t229.length : Int) (wrap64 (x62_2 + 1))) else (none)) = some r := H
                                have A62 := Aside0.mk A620
                                clear A620
                                by_cases c63 : t245 = true
                                · subst c63
                                  have H1 : (gonglaw08_PduFind.l0 k2 a2 y220 t223 t226 t229 (t229.length : Int) (wrap64 (x62_2 + 1))) = some r := by rw [if_pos rfl] at H; exact H
                                  clear H
                                  have H := H1
                                  clear H1
                                  have H' := Aside0.mk H
                                  clear H
                                  try go_wp2_with (first | ((with_reducible refine gate_dst (N := 12) rfl ?_); (try (refine gate_guard (by rfl) ?_; dsimp only)); refine box_event ?hg (N := 12) ?hd (cs := #[.string (⟨#[]⟩ : ByteArray), .int .i64 0, .int .i64 0, .string (⟨#[]⟩ : ByteArray)]) (t := 30) ?hr ?_; (case hd => rfl); (case hg => rfl); (case hr => first | (go_simp; done) | (go_simp; rfl)); intro gb237 hg w64 hbox hb; have hq9_ := Kd.R_ne_new HO_9.out 0; rw [Nat.add_zero, ← hg] at hq9_; have n0_ := Aside0.mk (Kd.R_below (Kd.R_elderB (by (with_reducible repeat (first | apply Kd.R_alloc | apply Kd.R_drewN | apply Kd.R_drew)); exact HO_7.out) gb237 (Nat.le_of_eq hg.symm)) hb); have n1_ := Aside0.mk (Kd.R_below (Kd.R_elderB (by (with_reducible repeat (first | apply Kd.R_alloc | apply Kd.R_drewN | apply Kd.R_drew)); exact HO_8.out) gb237 (Nat.le_of_eq hg.symm)) hb); have n2_ := Aside0.mk (Kd.R_below (Kd.R_elderB (by (with_reducible repeat (first | apply Kd.R_alloc | apply Kd.R_drewN | apply Kd.R_drew)); exact HO_9.out) gb237 (Nat.le_of_eq hg.symm)) hb); have n3_ := Aside0.mk (Kd.R_below (Kd.R_elderB (by (with_reducible repeat (first | apply Kd.R_alloc | apply Kd.R_drewN | apply Kd.R_drew)); exact HO_10.out) gb237 (Nat.le_of_eq hg.symm)) hb); have n4_ := Aside0.mk (below_step (by repeat (first | (with_reducible first | exact HB.out | apply below_alloc | apply pw_below_drewN | apply below_drew1) | exact HB.out)) hb); have n5_ := Aside0.mk (hbox); have n6_ := Aside0.mk ((by rw [hg]; exact (below_size (by repeat (first | (with_reducible first | exact HB.out | apply below_alloc | apply pw_below_drewN | apply below_drew1) | exact HB.out))) : w.heap.size ≤ gb237)); have n7_ := Aside0.mk ((by rw [hg]; exact (below_size (by repeat (first | (with_reducible first | exact HB.out | apply below_alloc | apply pw_below_drewN | apply below_drew1) | exact HB.out))) : w.heap.size ≤ gb237)); clear HO_7; clear HO_8; clear HO_9; clear HO_10; clear HB; have HO_7 := n0_; have HO_8 := n1_; have HO_9 := n2_; have HO_10 := n3_; have HB := n4_; have BK237 := n5_; have GW237 := n6_; have GE237 := n7_; clear n0_ n1_ n2_ n3_ n4_ n5_ n6_ n7_; clear hb hbox hg; have hcz65_0 : w64.cell? ⟨gb237, 0, none⟩ = some (.string (⟨#[]⟩ : ByteArray)) := (blk_cell BK237.out 0).trans rfl; have hcz65_1 : w64.cell? ⟨gb237, 1, none⟩ = some (.int .i64 0) := (blk_cell BK237.out 1).trans rfl; have hcz65_2 : w64.cell? ⟨gb237, 2, none⟩ = some (.int .i64 0) := (blk_cell BK237.out 2).trans rfl; have hcz65_3 : w64.cell? ⟨gb237, 3, none⟩ = some (.string (⟨#[]⟩ : ByteArray)) := (blk_cell BK237.out 3).trans rfl; have hfz65_0 := blk_frozen BK237.out 0; have hfz65_1 := blk_frozen BK237.out 1; have hfz65_2 := blk_frozen BK237.out 2; have hfz65_3 := blk_frozen BK237.out 3; have p242 : 0 ≤ ((ji52) : Int) := of_decide_eq_true (by first | (with_reducible assumption) | assumption); have q242 : (ji52) < (t226.length : Int) := of_decide_eq_true (by first | (with_reducible assumption) | assumption); obtain ⟨ad242, e242, hx242_0, hx242_1, hx242_2, hx242_3⟩ := at_T30 (Kd.R_reads' HO_9.out).2.2 (ji52) p242 q242; cases e242; have hn242_0 : ad242.block ≠ gb237 := Kd.own_blk hq9_; have hn242_1 : ad242.block ≠ gb237 := Kd.own_blk hq9_; have hn242_2 : ad242.block ≠ gb237 := Kd.own_blk hq9_; have hn242_3 : ad242.block ≠ gb237 := Kd.own_blk hq9_; replace hx242_0 := (cell_far (p := ⟨gb237, 0, none⟩) (by first | (rw [add_block]; exact hn242_0) | (show (Addr.add _ _).block ≠ _; rw [add_block]; exact hn242_0) | exact hn242_0) (.string (⟨#[]⟩ : ByteArray))).trans hx242_0; replace hx242_1 := (cell_far (p := ⟨gb237, 0, none⟩) (by first | (rw [add_block]; exact hn242_0) | (show (Addr.add _ _).block ≠ _; rw [add_block]; exact hn242_0) | exact hn242_0) (.string (⟨#[]⟩ : ByteArray))).trans hx242_1; replace hx242_2 := (cell_far (p := ⟨gb237, 0, none⟩) (by first | (rw [add_block]; exact hn242_0) | (show (Addr.add _ _).block ≠ _; rw [add_block]; exact hn242_0) | exact hn242_0) (.string (⟨#[]⟩ : ByteArray))).trans hx242_2; replace hx242_3 := (cell_far (p := ⟨gb237, 0, none⟩) (by first | (rw [add_block]; exact hn242_0) | (show (Addr.add _ _).block ≠ _; rw [add_block]; exact hn242_0) | exact hn242_0) (.string (⟨#[]⟩ : ByteArray))).trans hx242_3; replace hx242_0 := (cell_far (p := ⟨gb237, 1, none⟩) (by first | (rw [add_block]; exact hn242_1) | (show (Addr.add _ _).block ≠ _; rw [add_block]; exact hn242_1) | exact hn242_1) (.int .i64 0)).trans hx242_0; replace hx242_1 := (cell_far (p := ⟨gb237, 1, none⟩) (by first | (rw [add_block]; exact hn242_1) | (show (Addr.add _ _).block ≠ _; rw [add_block]; exact hn242_1) | exact hn242_1) (.int .i64 0)).trans hx242_1; replace hx242_2 := (cell_far (p := ⟨gb237, 1, none⟩) (by first | (rw [add_block]; exact hn242_1) | (show (Addr.add _ _).block ≠ _; rw [add_block]; exact hn242_1) | exact hn242_1) (.int .i64 0)).trans hx242_2; replace hx242_3 := (cell_far (p := ⟨gb237, 1, none⟩) (by first | (rw [add_block]; exact hn242_1) | (show (Addr.add _ _).block ≠ _; rw [add_block]; exact hn242_1) | exact hn242_1) (.int .i64 0)).trans hx242_3; replace hx242_0 := (cell_far (p := ⟨gb237, 2, none⟩) (by first | (rw [add_block]; exact hn242_2) | (show (Addr.add _ _).block ≠ _; rw [add_block]; exact hn242_2) | exact hn242_2) (.int .i64 0)).trans hx242_0; replace hx242_1 := (cell_far (p := ⟨gb237, 2, none⟩) (by first | (rw [add_block]; exact hn242_2) | (show (Addr.add _ _).block ≠ _; rw [add_block]; exact hn242_2) | exact hn242_2) (.int .i64 0)).trans hx242_1; replace hx242_2 := (cell_far (p := ⟨gb237, 2, none⟩) (by first | (rw [add_block]; exact hn242_2) | (show (Addr.add _ _).block ≠ _; rw [add_block]; exact hn242_2) | exact hn242_2) (.int .i64 0)).trans hx242_2; replace hx242_3 := (cell_far (p := ⟨gb237, 2, none⟩) (by first | (rw [add_block]; exact hn242_2) | (show (Addr.add _ _).block ≠ _; rw [add_block]; exact hn242_2) | exact hn242_2) (.int .i64 0)).trans hx242_3; replace hx242_0 := (cell_far (p := ⟨gb237, 3, none⟩) (by first | (rw [add_block]; exact hn242_3) | (show (Addr.add _ _).block ≠ _; rw [add_block]; exact hn242_3) | exact hn242_3) (.string (⟨#[]⟩ : ByteArray))).trans hx242_0; replace hx242_1 := (cell_far (p := ⟨gb237, 3, none⟩) (by first | (rw [add_block]; exact hn242_3) | (show (Addr.add _ _).block ≠ _; rw [add_block]; exact hn242_3) | exact hn242_3) (.string (⟨#[]⟩ : ByteArray))).trans hx242_1; replace hx242_2 := (cell_far (p := ⟨gb237, 3, none⟩) (by first | (rw [add_block]; exact hn242_3) | (show (Addr.add _ _).block ≠ _; rw [add_block]; exact hn242_3) | exact hn242_3) (.string (⟨#[]⟩ : ByteArray))).trans hx242_2; replace hx242_3 := (cell_far (p := ⟨gb237, 3, none⟩) (by first | (rw [add_block]; exact hn242_3) | (show (Addr.add _ _).block ≠ _; rw [add_block]; exact hn242_3) | exact hn242_3) (.string (⟨#[]⟩ : ByteArray))).trans hx242_3; clear hn242_0; clear hn242_1; clear hn242_2; clear hn242_3; replace p242 := eq_true p242; replace q242 := eq_true q242))
                                  have n0_ : Aside0 (Kd.R k30 30 ((((((((w64.setCell ⟨gb237, 0, none⟩ (.string (⟨#[]⟩ : ByteArray))).setCell ⟨gb237, 1, none⟩ (.int .i64 0)).setCell ⟨gb237, 2, none⟩ (.int .i64 0)).setCell ⟨gb237, 3, none⟩ (.string (⟨#[]⟩ : ByteArray))).setCell ⟨gb237, 0, none⟩ (.string ((rd_T30 t226 (ji52)).f0))).setCell ⟨gb237, 1, none⟩ (.int .i64 ((rd_T30 t226 (ji52)).f1.f0))).setCell ⟨gb237, 2, none⟩ (.int .i64 ((rd_T30 t226 (ji52)).f1.f1))).setCell ⟨gb237, 3, none⟩ (.string ((rd_T30 t226 (ji52)).f1.f2))) w.heap.size (fun k_ => some k_ ≠ (.slice Ao29 t223.length co29 : Value).ownBlock ∧ some k_ ≠ (.slice (some ad242) t226.length co30 : Value).ownBlock ∧ some k_ ≠ (.slice Ao28 t229.length co28 : Value).ownBlock ∧ k_ ≠ gb237) (.slice Ao26 y220.length co26) y220) := ⟨by (with_reducible repeat (first | apply Kd.R_alloc | apply Kd.R_drewN | apply Kd.R_drew)); exact Kd.R_mono (Kd.R_far (p := ⟨gb237, 3, none⟩) (Kd.R_far (p := ⟨gb237, 2, none⟩) (Kd.R_far (p := ⟨gb237, 1, none⟩) (Kd.R_far (p := ⟨gb237, 0, none⟩) (Kd.R_far (p := ⟨gb237, 3, none⟩) (Kd.R_far (p := ⟨gb237, 2, none⟩) (Kd.R_far (p := ⟨gb237, 1, none⟩) (Kd.R_far (p := ⟨gb237, 0, none⟩) (Kd.R_mono HO_7.out (fun k_ hk => (⟨hk, hk.2⟩ : _ ∧ k_ ≠ gb237))) (fun _ hk => hk.2) (.string (⟨#[]⟩ : ByteArray))) (fun _ hk => hk.2) (.int .i64 0)) (fun _ hk => hk.2) (.int .i64 0)) (fun _ hk => hk.2) (.string (⟨#[]⟩ : ByteArray))) (fun _ hk => hk.2) (.string ((rd_T30 t226 (ji52)).f0))) (fun _ hk => hk.2) (.int .i64 ((rd_T30 t226 (ji52)).f1.f0))) (fun _ hk => hk.2) (.int .i64 ((rd_T30 t226 (ji52)).f1.f1))) (fun _ hk => hk.2) (.string ((rd_T30 t226 (ji52)).f1.f2))) (fun _ hk => ⟨hk.1.1.1, ⟨hk.1.1.2.1, ⟨hk.1.1.2.2, hk.1.2⟩⟩⟩)⟩
                                  have n1_ : Aside0 (Kd.R k30 30 ((((((((w64.setCell ⟨gb237, 0, none⟩ (.string (⟨#[]⟩ : ByteArray))).setCell ⟨gb237, 1, none⟩ (.int .i64 0)).setCell ⟨gb237, 2, none⟩ (.int .i64 0)).setCell ⟨gb237, 3, none⟩ (.string (⟨#[]⟩ : ByteArray))).setCell ⟨gb237, 0, none⟩ (.string ((rd_T30 t226 (ji52)).f0))).setCell ⟨gb237, 1, none⟩ (.int .i64 ((rd_T30 t226 (ji52)).f1.f0))).setCell ⟨gb237, 2, none⟩ (.int .i64 ((rd_T30 t226 (ji52)).f1.f1))).setCell ⟨gb237, 3, none⟩ (.string ((rd_T30 t226 (ji52)).f1.f2))) w.heap.size (fun k_ => some k_ ≠ (.slice Ao26 y220.length co26 : Value).ownBlock ∧ some k_ ≠ (.slice (some ad242) t226.length co30 : Value).ownBlock ∧ some k_ ≠ (.slice Ao28 t229.length co28 : Value).ownBlock ∧ k_ ≠ gb237) (.slice Ao29 t223.length co29) t223) := ⟨by (with_reducible repeat (first | apply Kd.R_alloc | apply Kd.R_drewN | apply Kd.R_drew)); exact Kd.R_mono (Kd.R_far (p := ⟨gb237, 3, none⟩) (Kd.R_far (p := ⟨gb237, 2, none⟩) (Kd.R_far (p := ⟨gb237, 1, none⟩) (Kd.R_far (p := ⟨gb237, 0, none⟩) (Kd.R_far (p := ⟨gb237, 3, none⟩) (Kd.R_far (p := ⟨gb237, 2, none⟩) (Kd.R_far (p := ⟨gb237, 1, none⟩) (Kd.R_far (p := ⟨gb237, 0, none⟩) (Kd.R_mono HO_8.out (fun k_ hk => (⟨hk, hk.2⟩ : _ ∧ k_ ≠ gb237))) (fun _ hk => hk.2) (.string (⟨#[]⟩ : ByteArray))) (fun _ hk => hk.2) (.int .i64 0)) (fun _ hk => hk.2) (.int .i64 0)) (fun _ hk => hk.2) (.string (⟨#[]⟩ : ByteArray))) (fun _ hk => hk.2) (.string ((rd_T30 t226 (ji52)).f0))) (fun _ hk => hk.2) (.int .i64 ((rd_T30 t226 (ji52)).f1.f0))) (fun _ hk => hk.2) (.int .i64 ((rd_T30 t226 (ji52)).f1.f1))) (fun _ hk => hk.2) (.string ((rd_T30 t226 (ji52)).f1.f2))) (fun _ hk => ⟨hk.1.1.1, ⟨hk.1.1.2.1, ⟨hk.1.1.2.2, hk.1.2⟩⟩⟩)⟩
                                  have n2_ : Aside0 (Kd.R k30 30 ((((((((w64.setCell ⟨gb237, 0, none⟩ (.string (⟨#[]⟩ : ByteArray))).setCell ⟨gb237, 1, none⟩ (.int .i64 0)).setCell ⟨gb237, 2, none⟩ (.int .i64 0)).setCell ⟨gb237, 3, none⟩ (.string (⟨#[]⟩ : ByteArray))).setCell ⟨gb237, 0, none⟩ (.string ((rd_T30 t226 (ji52)).f0))).setCell ⟨gb237, 1, none⟩ (.int .i64 ((rd_T30 t226 (ji52)).f1.f0))).setCell ⟨gb237, 2, none⟩ (.int .i64 ((rd_T30 t226 (ji52)).f1.f1))).setCell ⟨gb237, 3, none⟩ (.string ((rd_T30 t226 (ji52)).f1.f2))) w.heap.size (fun k_ => some k_ ≠ (.slice Ao26 y220.length co26 : Value).ownBlock ∧ some k_ ≠ (.slice Ao29 t223.length co29 : Value).ownBlock ∧ some k_ ≠ (.slice Ao28 t229.length co28 : Value).ownBlock ∧ k_ ≠ gb237) (.slice (some ad242) t226.length co30) t226) := ⟨by (with_reducible repeat (first | apply Kd.R_alloc | apply Kd.R_drewN | apply Kd.R_drew)); exact Kd.R_mono (Kd.R_far (p := ⟨gb237, 3, none⟩) (Kd.R_far (p := ⟨gb237, 2, none⟩) (Kd.R_far (p := ⟨gb237, 1, none⟩) (Kd.R_far (p := ⟨gb237, 0, none⟩) (Kd.R_far (p := ⟨gb237, 3, none⟩) (Kd.R_far (p := ⟨gb237, 2, none⟩) (Kd.R_far (p := ⟨gb237, 1, none⟩) (Kd.R_far (p := ⟨gb237, 0, none⟩) (Kd.R_mono HO_9.out (fun k_ hk => (⟨hk, hk.2⟩ : _ ∧ k_ ≠ gb237))) (fun _ hk => hk.2) (.string (⟨#[]⟩ : ByteArray))) (fun _ hk => hk.2) (.int .i64 0)) (fun _ hk => hk.2) (.int .i64 0)) (fun _ hk => hk.2) (.string (⟨#[]⟩ : ByteArray))) (fun _ hk => hk.2) (.string ((rd_T30 t226 (ji52)).f0))) (fun _ hk => hk.2) (.int .i64 ((rd_T30 t226 (ji52)).f1.f0))) (fun _ hk => hk.2) (.int .i64 ((rd_T30 t226 (ji52)).f1.f1))) (fun _ hk => hk.2) (.string ((rd_T30 t226 (ji52)).f1.f2))) (fun _ hk => ⟨hk.1.1.1, ⟨hk.1.1.2.1, ⟨hk.1.1.2.2, hk.1.2⟩⟩⟩)⟩
                                  have n3_ : Aside0 (Kd.R k30 30 ((((((((w64.setCell ⟨gb237, 0, none⟩ (.string (⟨#[]⟩ : ByteArray))).setCell ⟨gb237, 1, none⟩ (.int .i64 0)).setCell ⟨gb237, 2, none⟩ (.int .i64 0)).setCell ⟨gb237, 3, none⟩ (.string (⟨#[]⟩ : ByteArray))).setCell ⟨gb237, 0, none⟩ (.string ((rd_T30 t226 (ji52)).f0))).setCell ⟨gb237, 1, none⟩ (.int .i64 ((rd_T30 t226 (ji52)).f1.f0))).setCell ⟨gb237, 2, none⟩ (.int .i64 ((rd_T30 t226 (ji52)).f1.f1))).setCell ⟨gb237, 3, none⟩ (.string ((rd_T30 t226 (ji52)).f1.f2))) w.heap.size (fun k_ => some k_ ≠ (.slice Ao26 y220.length co26 : Value).ownBlock ∧ some k_ ≠ (.slice Ao29 t223.length co29 : Value).ownBlock ∧ some k_ ≠ (.slice (some ad242) t226.length co30 : Value).ownBlock ∧ k_ ≠ gb237) (.slice Ao28 t229.length co28) t229) := ⟨by (with_reducible repeat (first | apply Kd.R_alloc | apply Kd.R_drewN | apply Kd.R_drew)); exact Kd.R_mono (Kd.R_far (p := ⟨gb237, 3, none⟩) (Kd.R_far (p := ⟨gb237, 2, none⟩) (Kd.R_far (p := ⟨gb237, 1, none⟩) (Kd.R_far (p := ⟨gb237, 0, none⟩) (Kd.R_far (p := ⟨gb237, 3, none⟩) (Kd.R_far (p := ⟨gb237, 2, none⟩) (Kd.R_far (p := ⟨gb237, 1, none⟩) (Kd.R_far (p := ⟨gb237, 0, none⟩) (Kd.R_mono HO_10.out (fun k_ hk => (⟨hk, hk.2⟩ : _ ∧ k_ ≠ gb237))) (fun _ hk => hk.2) (.string (⟨#[]⟩ : ByteArray))) (fun _ hk => hk.2) (.int .i64 0)) (fun _ hk => hk.2) (.int .i64 0)) (fun _ hk => hk.2) (.string (⟨#[]⟩ : ByteArray))) (fun _ hk => hk.2) (.string ((rd_T30 t226 (ji52)).f0))) (fun _ hk => hk.2) (.int .i64 ((rd_T30 t226 (ji52)).f1.f0))) (fun _ hk => hk.2) (.int .i64 ((rd_T30 t226 (ji52)).f1.f1))) (fun _ hk => hk.2) (.string ((rd_T30 t226 (ji52)).f1.f2))) (fun _ hk => ⟨hk.1.1.1, ⟨hk.1.1.2.1, ⟨hk.1.1.2.2, hk.1.2⟩⟩⟩)⟩
                                  have n4_ : Aside0 (((((((((w64.setCell ⟨gb237, 0, none⟩ (.string (⟨#[]⟩ : ByteArray))).setCell ⟨gb237, 1, none⟩ (.int .i64 0)).setCell ⟨gb237, 2, none⟩ (.int .i64 0)).setCell ⟨gb237, 3, none⟩ (.string (⟨#[]⟩ : ByteArray))).setCell ⟨gb237, 0, none⟩ (.string ((rd_T30 t226 (ji52)).f0))).setCell ⟨gb237, 1, none⟩ (.int .i64 ((rd_T30 t226 (ji52)).f1.f0))).setCell ⟨gb237, 2, none⟩ (.int .i64 ((rd_T30 t226 (ji52)).f1.f1))).setCell ⟨gb237, 3, none⟩ (.string ((rd_T30 t226 (ji52)).f1.f2))).heap[gb237]? = some (.cells #[.string ((rd_T30 t226 (ji52)).f0), .int .i64 ((rd_T30 t226 (ji52)).f1.f0), .int .i64 ((rd_T30 t226 (ji52)).f1.f1), .string ((rd_T30 t226 (ji52)).f1.f2)] 30 (0, 0))) := ⟨by (with_reducible repeat (first | refine blk_drewN ?_ _ | refine blk_drew ?_ | refine blk_alloc ?_ _)); refine blk_put (cs := #[.string ((rd_T30 t226 (ji52)).f0), .int .i64 ((rd_T30 t226 (ji52)).f1.f0), .int .i64 ((rd_T30 t226 (ji52)).f1.f1), .string (⟨#[]⟩ : ByteArray)]) ?_ 3 _ rfl; (with_reducible repeat (first | refine blk_drewN ?_ _ | refine blk_drew ?_ | refine blk_alloc ?_ _)); refine blk_put (cs := #[.string ((rd_T30 t226 (ji52)).f0), .int .i64 ((rd_T30 t226 (ji52)).f1.f0), .int .i64 0, .string (⟨#[]⟩ : ByteArray)]) ?_ 2 _ rfl; (with_reducible repeat (first | refine blk_drewN ?_ _ | refine blk_drew ?_ | refine blk_alloc ?_ _)); refine blk_put (cs := #[.string ((rd_T30 t226 (ji52)).f0), .int .i64 0, .int .i64 0, .string (⟨#[]⟩ : ByteArray)]) ?_ 1 _ rfl; (with_reducible repeat (first | refine blk_drewN ?_ _ | refine blk_drew ?_ | refine blk_alloc ?_ _)); refine blk_put (cs := #[.string (⟨#[]⟩ : ByteArray), .int .i64 0, .int .i64 0, .string (⟨#[]⟩ : ByteArray)]) ?_ 0 _ rfl; (with_reducible repeat (first | refine blk_drewN ?_ _ | refine blk_drew ?_ | refine blk_alloc ?_ _)); refine blk_put (cs := #[.string (⟨#[]⟩ : ByteArray), .int .i64 0, .int .i64 0, .string (⟨#[]⟩ : ByteArray)]) ?_ 3 _ rfl; (with_reducible repeat (first | refine blk_drewN ?_ _ | refine blk_drew ?_ | refine blk_alloc ?_ _)); refine blk_put (cs := #[.string (⟨#[]⟩ : ByteArray), .int .i64 0, .int .i64 0, .string (⟨#[]⟩ : ByteArray)]) ?_ 2 _ rfl; (with_reducible repeat (first | refine blk_drewN ?_ _ | refine blk_drew ?_ | refine blk_alloc ?_ _)); refine blk_put (cs := #[.string (⟨#[]⟩ : ByteArray), .int .i64 0, .int .i64 0, .string (⟨#[]⟩ : ByteArray)]) ?_ 1 _ rfl; (with_reducible repeat (first | refine blk_drewN ?_ _ | refine blk_drew ?_ | refine blk_alloc ?_ _)); refine blk_put (cs := #[.string (⟨#[]⟩ : ByteArray), .int .i64 0, .int .i64 0, .string (⟨#[]⟩ : ByteArray)]) ?_ 0 _ rfl; (with_reducible repeat (first | refine blk_drewN ?_ _ | refine blk_drew ?_ | refine blk_alloc ?_ _)); exact BK237.out⟩
                                  have n5_ : Aside0 (Below w.heap.size w ((((((((w64.setCell ⟨gb237, 0, none⟩ (.string (⟨#[]⟩ : ByteArray))).setCell ⟨gb237, 1, none⟩ (.int .i64 0)).setCell ⟨gb237, 2, none⟩ (.int .i64 0)).setCell ⟨gb237, 3, none⟩ (.string (⟨#[]⟩ : ByteArray))).setCell ⟨gb237, 0, none⟩ (.string ((rd_T30 t226 (ji52)).f0))).setCell ⟨gb237, 1, none⟩ (.int .i64 ((rd_T30 t226 (ji52)).f1.f0))).setCell ⟨gb237, 2, none⟩ (.int .i64 ((rd_T30 t226 (ji52)).f1.f1))).setCell ⟨gb237, 3, none⟩ (.string ((rd_T30 t226 (ji52)).f1.f2)))) := ⟨by repeat (first | (with_reducible first | exact HB.out | apply below_alloc | apply pw_below_drewN | apply below_drew1 | refine below_set ?_ GE237.out) | exact HB.out)⟩
                                  (try clear HO_7)
                                  (try clear HO_8)
                                  (try clear HO_9)
                                  (try clear HO_10)
                                  (try clear BK237)
                                  (try clear HB)
                                  generalize ((((((((w64.setCell ⟨gb237, 0, none⟩ (.string (⟨#[]⟩ : ByteArray))).setCell ⟨gb237, 1, none⟩ (.int .i64 0)).setCell ⟨gb237, 2, none⟩ (.int .i64 0)).setCell ⟨gb237, 3, none⟩ (.string (⟨#[]⟩ : ByteArray))).setCell ⟨gb237, 0, none⟩ (.string ((rd_T30 t226 (ji52)).f0))).setCell ⟨gb237, 1, none⟩ (.int .i64 ((rd_T30 t226 (ji52)).f1.f0))).setCell ⟨gb237, 2, none⟩ (.int .i64 ((rd_T30 t226 (ji52)).f1.f1))).setCell ⟨gb237, 3, none⟩ (.string ((rd_T30 t226 (ji52)).f1.f2))) = w66 at n0_ n1_ n2_ n3_ n4_ n5_ ⊢
                                  have HO_7 := n0_
                                  have HO_8 := n1_
                                  have HO_9 := n2_
                                  have HO_10 := n3_
                                  have BK237 := n4_
                                  have HB := n5_
                                  clear n0_ n1_ n2_ n3_ n4_ n5_
                                  have n0_ := Aside0.mk (Kd.R_drew HO_7.out)
                                  have n1_ := Aside0.mk (Kd.R_drew HO_8.out)
                                  have n2_ := Aside0.mk (Kd.R_drew HO_9.out)
                                  have n3_ := Aside0.mk (Kd.R_drew HO_10.out)
                                  have n4_ := Aside0.mk (blk_drew BK237.out)
                                  have n5_ := Aside0.mk (below_drew1 HB.out)
                                  clear HO_7
                                  clear HO_8
                                  clear HO_9
                                  clear HO_10
                                  clear BK237
                                  clear HB
                                  have HO_7 := n0_
                                  have HO_8 := n1_
                                  have HO_9 := n2_
                                  have HO_10 := n3_
                                  have BK237 := n4_
                                  have HB := n5_
                                  clear n0_ n1_ n2_ n3_ n4_ n5_
                                  have p243 : 0 ≤ (x62_2 : Int) := of_decide_eq_true (by first | (with_reducible assumption) | assumption)
                                  have q243 : x62_2 < (t229.length : Int) := of_decide_eq_true (by first | (with_reducible assumption) | assumption)
                                  obtain ⟨ad243, e243, hx243_0, hx243_1, hx243_2, hx243_3⟩ := at_T30 (Kd.R_reads' HO_10.out).2.2 x62_2 p243 q243
                                  cases e243
                                  replace p243 := eq_true p243
                                  replace q243 := eq_true q243
                                  have p244 : 0 ≤ (x62_2 : Int) := of_decide_eq_true (by first | (with_reducible assumption) | assumption)
                                  have q244 : x62_2 < (t229.length : Int) := of_decide_eq_true (by first | (with_reducible assumption) | assumption)
                                  obtain ⟨ad244, e244, hx244_0, hx244_1, hx244_2, hx244_3⟩ := at_T30 (Kd.R_reads' HO_10.out).2.2 x62_2 p244 q244
                                  obtain rfl : ad243 = ad244 := (by injection e244)
                                  replace p244 := eq_true p244
                                  replace q244 := eq_true q244
                                  refine start_ (n := 16) (S := fun w' => w'.cell? ⟨gb237, 0, none⟩ = some (.string ((rd_T30 t226 (ji52)).f0)) ∧ w'.cell? ⟨gb237, 1, none⟩ = some (.int .i64 ((rd_T30 t226 (ji52)).f1.f0)) ∧ w'.cell? ⟨gb237, 2, none⟩ = some (.int .i64 ((rd_T30 t226 (ji52)).f1.f1)) ∧ w'.cell? ⟨gb237, 3, none⟩ = some (.string ((rd_T30 t226 (ji52)).f1.f2)) ∧ w'.cell? (ad243.add ((x62_2).toNat * 4)) = some (.string ((rd_T30 t229 x62_2).f0)) ∧ w'.cell? ⟨(ad243.add ((x62_2).toNat * 4)).block, (ad243.add ((x62_2).toNat * 4)).off + 1, none⟩ = some (.int .i64 ((rd_T30 t229 x62_2).f1.f0)) ∧ w'.cell? ⟨(ad243.add ((x62_2).toNat * 4)).block, (ad243.add ((x62_2).toNat * 4)).off + 2, none⟩ = some (.int .i64 ((rd_T30 t229 x62_2).f1.f1)) ∧ w'.cell? ⟨(ad243.add ((x62_2).toNat * 4)).block, (ad243.add ((x62_2).toNat * 4)).off + 3, none⟩ = some (.string ((rd_T30 t229 x62_2).f1.f2)) ∧ w'.cell? (ad243.add ((x62_2).toNat * 4)) = some (.string ((rd_T30 t229 x62_2).f0)) ∧ w'.cell? ⟨(ad243.add ((x62_2).toNat * 4)).block, (ad243.add ((x62_2).toNat * 4)).off + 1, none⟩ = some (.int .i64 ((rd_T30 t229 x62_2).f1.f0)) ∧ w'.cell? ⟨(ad243.add ((x62_2).toNat * 4)).block, (ad243.add ((x62_2).toNat * 4)).off + 2, none⟩ = some (.int .i64 ((rd_T30 t229 x62_2).f1.f1)) ∧ w'.cell? ⟨(ad243.add ((x62_2).toNat * 4)).block, (ad243.add ((x62_2).toNat * 4)).off + 3, none⟩ = some (.string ((rd_T30 t229 x62_2).f1.f2))) (ds := []) #[false, false, false, false, false, false, false, false, false, false, false, false, false, false, false, false] (by kernel_rfl) rfl rfl ⟨(blk_cell BK237.out 0).trans rfl, (blk_cell BK237.out 1).trans rfl, (blk_cell BK237.out 2).trans rfl, (blk_cell BK237.out 3).trans rfl, hx243_0, hx243_1, hx243_2, hx243_3, hx244_0, hx244_1, hx244_2, hx244_3⟩ (fun hHeld => ?_); refine with_tabW gonglaw08_PduFind.tab16 gonglaw08_PduFind.bits16 (fun HT_ HW_ => ?_)
                                  generalize w66.drew = w67 at HO_7 HO_8 HO_9 HO_10 BK237 HB hx243_0 hx243_1 hx243_2 hx243_3 hx244_0 hx244_1 hx244_2 hx244_3 hHeld ⊢
                                  refine pure_ (i := 0) (N := some 81) (v := ?_) (a' := ?_) #[true, false, false, false, false, false, false, false, false, false, false, false, false, false, false, false] rfl rfl (any_of HT_.out (by kernel_rfl)) (fun _ _ _ h => h) (Or.inl ⟨by rfl, ?_⟩) ?_ ?_
                                  rotate_left
                                  · intro w'
                                    go_simp
                                    with_reducible rfl
                                  rotate_left
                                  · simp only [Act.put, List.setIfInBounds_toArray, List.set_cons_zero, List.set_cons_succ, i64_w, i32_w]
                                    rfl
                                  refine pure_ (i := 1) (N := some 82) (v := ?_) (a' := ?_) #[true, true, false, false, false, false, false, false, false, false, false, false, false, false, false, false] rfl rfl (any_of HT_.out (by kernel_rfl)) (fun _ _ _ h => h) (Or.inl ⟨by rfl, ?_⟩) ?_ ?_
                                  rotate_left
                                  · intro w'
                                    go_simp
                                    with_reducible rfl
                                  rotate_left
                                  · simp only [Act.put, List.setIfInBounds_toArray, List.set_cons_zero, List.set_cons_succ, i64_w, i32_w]
                                    rfl
                                  refine pure_ (i := 2) (N := some 83) (v := ?_) (a' := ?_) #[true, true, true, false, false, false, false, false, false, false, false, false, false, false, false, false] rfl rfl (any_of HT_.out (by kernel_rfl)) (fun _ _ _ h => h) (Or.inl ⟨by rfl, ?_⟩) ?_ ?_
                                  rotate_left
                                  · intro w'
                                    go_simp
                                    with_reducible rfl
                                  rotate_left
                                  · simp only [Act.put, List.setIfInBounds_toArray, List.set_cons_zero, List.set_cons_succ, i64_w, i32_w]
                                    rfl
                                  refine take_ (i := 3) (N := some 84) (v := ?_) (a' := ?_) #[true, true, true, true, false, false, false, false, false, false, false, false, false, false, false, false] rfl rfl (take_ofW HT_.out HW_.out (by kernel_rfl)) (fun _ _ _ h => h) (Or.inl ⟨by rfl, ?_⟩) hHeld ?_ ?_
                                  rotate_left
                                  · rintro w' ⟨s0, s1, s2, s3, s4, s5, s6, s7, s8, s9, s10, s11⟩
                                    go_simp
                                    with_reducible rfl
                                  rotate_left
                                  · simp only [Act.put, List.setIfInBounds_toArray, List.set_cons_zero, List.set_cons_succ, i64_w, i32_w]
                                    rfl
                                  refine take_ (i := 4) (N := some 85) (v := ?_) (a' := ?_) #[true, true, true, true, true, false, false, false, false, false, false, false, false, false, false, false] rfl rfl (take_ofW HT_.out HW_.out (by kernel_rfl)) (fun _ _ _ h => h) (Or.inl ⟨by rfl, ?_⟩) hHeld ?_ ?_
                                  rotate_left
                                  · rintro w' ⟨s0, s1, s2, s3, s4, s5, s6, s7, s8, s9, s10, s11⟩
                                    go_simp
                                    with_reducible rfl
                                  rotate_left
                                  · simp only [Act.put, List.setIfInBounds_toArray, List.set_cons_zero, List.set_cons_succ, i64_w, i32_w]
                                    rfl
                                  refine pure_ (i := 5) (N := some 86) (v := ?_) (a' := ?_) #[true, true, true, true, true, true, false, false, false, false, false, false, false, false, false, false] rfl rfl (any_of HT_.out (by kernel_rfl)) (fun _ _ _ h => h) (Or.inl ⟨by rfl, ?_⟩) ?_ ?_
                                  rotate_left
                                  · intro w'
                                    go_simp
                                    with_reducible rfl
                                  rotate_left
                                  · simp only [Act.put, List.setIfInBounds_toArray, List.set_cons_zero, List.set_cons_succ, i64_w, i32_w]
                                    rfl
                                  refine pure_ (i := 6) (N := some 87) (v := ?_) (a' := ?_) #[true, true, true, true, true, true, true, false, false, false, false, false, false, false, false, false] rfl rfl (any_of HT_.out (by kernel_rfl)) (fun _ _ _ h => h) (Or.inl ⟨by rfl, ?_⟩) ?_ ?_
                                  rotate_left
                                  · intro w'
                                    go_simp
                                    with_reducible rfl
                                  rotate_left
                                  · simp only [Act.put, List.setIfInBounds_toArray, List.set_cons_zero, List.set_cons_succ, i64_w, i32_w]
                                    rfl
                                  refine pure_ (i := 7) (N := some 88) (v := ?_) (a' := ?_) #[true, true, true, true, true, true, true, true, false, false, false, false, false, false, false, false] rfl rfl (any_of HT_.out (by kernel_rfl)) (fun _ _ _ h => h) (Or.inl ⟨by rfl, ?_⟩) ?_ ?_
                                  rotate_left
                                  · intro w'
                                    go_simp
                                    with_reducible rfl
                                  rotate_left
                                  · simp only [Act.put, List.setIfInBounds_toArray, List.set_cons_zero, List.set_cons_succ, i64_w, i32_w]
                                    rfl
                                  refine pure_ (i := 8) (N := some 89) (v := ?_) (a' := ?_) #[true, true, true, true, true, true, true, true, true, false, false, false, false, false, false, false] rfl rfl (any_of HT_.out (by kernel_rfl)) (fun _ _ _ h => h) (Or.inl ⟨by rfl, ?_⟩) ?_ ?_
                                  rotate_left
                                  · intro w'
                                    go_simp
                                    with_reducible rfl
                                  rotate_left
                                  · simp only [Act.put, List.setIfInBounds_toArray, List.set_cons_zero, List.set_cons_succ, i64_w, i32_w]
                                    rfl
                                  refine pure_ (i := 9) (N := some 90) (v := ?_) (a' := ?_) #[true, true, true, true, true, true, true, true, true, true, false, false, false, false, false, false] rfl rfl (any_of HT_.out (by kernel_rfl)) (fun _ _ _ h => h) (Or.inl ⟨by rfl, ?_⟩) ?_ ?_
                                  rotate_left
                                  · intro w'
                                    go_simp
                                    with_reducible rfl
                                  rotate_left
                                  · simp only [Act.put, List.setIfInBounds_toArray, List.set_cons_zero, List.set_cons_succ, i64_w, i32_w]
                                    rfl
                                  refine pure_ (i := 10) (N := some 91) (v := ?_) (a' := ?_) #[true, true, true, true, true, true, true, true, true, true, true, false, false, false, false, false] rfl rfl (any_of HT_.out (by kernel_rfl)) (fun _ _ _ h => h) (Or.inl ⟨by rfl, ?_⟩) ?_ ?_
                                  rotate_left
                                  · intro w'
                                    go_simp
                                    with_reducible rfl
                                  rotate_left
                                  · simp only [Act.put, List.setIfInBounds_toArray, List.set_cons_zero, List.set_cons_succ, i64_w, i32_w]
                                    rfl
                                  refine pure_ (i := 11) (N := some 92) (v := ?_) (a' := ?_) #[true, true, true, true, true, true, true, true, true, true, true, true, false, false, false, false] rfl rfl (any_of HT_.out (by kernel_rfl)) (fun _ _ _ h => h) (Or.inl ⟨by rfl, ?_⟩) ?_ ?_
                                  rotate_left
                                  · intro w'
                                    go_simp
                                    with_reducible rfl
                                  rotate_left
                                  · simp only [Act.put, List.setIfInBounds_toArray, List.set_cons_zero, List.set_cons_succ, i64_w, i32_w]
                                    rfl
                                  refine take_ (i := 12) (N := some 93) (v := ?_) (a' := ?_) #[true, true, true, true, true, true, true, true, true, true, true, true, true, false, false, false] rfl rfl (take_ofW HT_.out HW_.out (by kernel_rfl)) (fun _ _ _ h => h) (Or.inl ⟨by rfl, ?_⟩) hHeld ?_ ?_
                                  rotate_left
                                  · rintro w' ⟨s0, s1, s2, s3, s4, s5, s6, s7, s8, s9, s10, s11⟩
                                    go_simp
                                    with_reducible rfl
                                  rotate_left
                                  · simp only [Act.put, List.setIfInBounds_toArray, List.set_cons_zero, List.set_cons_succ, i64_w, i32_w]
                                    rfl
                                  refine one_ (i := 13) (N := some 94) #[true, true, true, true, true, true, true, true, true, true, true, true, true, true, false, false] rfl rfl (one_of HT_.out (by kernel_rfl)) (by decide) (fun K hK => ?_)
                                  refine goes_ Tryz.func23 (by kernel_rfl) rfl #[.string a2, .string ((rd_T30 t229 x62_2).f0)] (by rfl) rfl rfl (by (try simp only [List.map_toArray, List.map_cons, List.map_nil]); first | done | rfl | (simp only [List.length_drop, List.length_take]; rfl)) ?_
                                  with_reducible refine (oid_Within.calls k2 a2 ((rd_T30 t229 x62_2).f0) true _ ?side1 A62.out).mono ?_
                                  (case side1 => first | exact HGl.out | exact HGl.out.below (by repeat (first | (with_reducible first | exact HB.out | apply below_alloc | apply pw_below_drewN | apply below_drew1) | exact HB.out | (refine below_set ?_ (Aside0.out (by assumption))) | exact Below.refl _ _)))
                                  rintro e w68 ⟨rfl, hb⟩
                                  have HS4_ := (hb.cell (World.block_lt_of_cell? _ _ (hHeld.2.2.2.2.1))).trans (hHeld.2.2.2.2.1)
                                  have HS5_ := (hb.cell (World.block_lt_of_cell? _ _ (hHeld.2.2.2.2.2.1))).trans (hHeld.2.2.2.2.2.1)
                                  have HS6_ := (hb.cell (World.block_lt_of_cell? _ _ (hHeld.2.2.2.2.2.2.1))).trans (hHeld.2.2.2.2.2.2.1)
                                  have HS7_ := (hb.cell (World.block_lt_of_cell? _ _ (hHeld.2.2.2.2.2.2.2.1))).trans (hHeld.2.2.2.2.2.2.2.1)
                                  have HS8_ := (hb.cell (World.block_lt_of_cell? _ _ (hHeld.2.2.2.2.2.2.2.2.1))).trans (hHeld.2.2.2.2.2.2.2.2.1)
                                  have HS9_ := (hb.cell (World.block_lt_of_cell? _ _ (hHeld.2.2.2.2.2.2.2.2.2.1))).trans (hHeld.2.2.2.2.2.2.2.2.2.1)
                                  have HS10_ := (hb.cell (World.block_lt_of_cell? _ _ (hHeld.2.2.2.2.2.2.2.2.2.2.1))).trans (hHeld.2.2.2.2.2.2.2.2.2.2.1)
                                  have HS11_ := (hb.cell (World.block_lt_of_cell? _ _ (hHeld.2.2.2.2.2.2.2.2.2.2.2))).trans (hHeld.2.2.2.2.2.2.2.2.2.2.2)
                                  refine ⟨_, rfl, ?_⟩
                                  have n0_ := Aside0.mk (Kd.R_below (by (with_reducible repeat (first | apply Kd.R_alloc | apply Kd.R_drewN | apply Kd.R_drew)); exact HO_7.out) hb)
                                  have n1_ := Aside0.mk (Kd.R_below (by (with_reducible repeat (first | apply Kd.R_alloc | apply Kd.R_drewN | apply Kd.R_drew)); exact HO_8.out) hb)
                                  have n2_ := Aside0.mk (Kd.R_below (by (with_reducible repeat (first | apply Kd.R_alloc | apply Kd.R_drewN | apply Kd.R_drew)); exact HO_9.out) hb)
                                  have n3_ := Aside0.mk (Kd.R_below (by (with_reducible repeat (first | apply Kd.R_alloc | apply Kd.R_drewN | apply Kd.R_drew)); exact HO_10.out) hb)
                                  have n4_ := Aside0.mk (blk_below (g := gb237) (o := .cells #[.string ((rd_T30 t226 (ji52)).f0), .int .i64 ((rd_T30 t226 (ji52)).f1.f0), .int .i64 ((rd_T30 t226 (ji52)).f1.f1), .string ((rd_T30 t226 (ji52)).f1.f2)] 30 (0, 0)) (by (with_reducible repeat (first | refine blk_drewN ?_ _ | refine blk_drew ?_ | refine blk_alloc ?_ _)); exact BK237.out) hb)
                                  have n5_ := Aside0.mk (below_step (by repeat (first | (with_reducible first | exact HB.out | apply below_alloc | apply pw_below_drewN | apply below_drew1 | refine below_set ?_ GE237.out) | exact HB.out)) hb)
                                  clear HO_7
                                  clear HO_8
                                  clear HO_9
                                  clear HO_10
                                  clear BK237
                                  clear HB
                                  have HO_7 := n0_
                                  have HO_8 := n1_
                                  have HO_9 := n2_
                                  have HO_10 := n3_
                                  have BK237 := n4_
                                  have HB := n5_
                                  clear n0_ n1_ n2_ n3_ n4_ n5_
                                  (try clear hb)
                                  (try clear hb2)
                                  (try clear hk)
                                  (try clear hi)
                                  refine hK.out _ _ ⟨(blk_cell BK237.out 0).trans rfl, (blk_cell BK237.out 1).trans rfl, (blk_cell BK237.out 2).trans rfl, (blk_cell BK237.out 3).trans rfl, HS4_, HS5_, HS6_, HS7_, HS8_, HS9_, HS10_, HS11_⟩ (fun hHeld => ?_)
                                  clear hK K
                                  refine norm_ (a' := ?_) ?_ ?_
                                  rotate_left
                                  · show Act.put _ (some 94) _ = _
                                    simp only [Act.put, List.setIfInBounds_toArray, List.set_cons_zero, List.set_cons_succ, i64_w, i32_w]
                                    rfl
                                  refine pure_ (i := 14) (N := some 95) (v := ?_) (a' := ?_) #[true, true, true, true, true, true, true, true, true, true, true, true, true, true, true, false] rfl rfl (any_of HT_.out (by kernel_rfl)) (fun _ _ _ h => h) (Or.inl ⟨by rfl, ?_⟩) ?_ ?_
                                  rotate_left
                                  · intro w'
                                    go_simp
                                    with_reducible rfl
                                  rotate_left
                                  · simp only [Act.put, List.setIfInBounds_toArray, List.set_cons_zero, List.set_cons_succ, i64_w, i32_w]
                                    rfl
                                  refine pure_ (i := 15) (N := some 96) (v := ?_) (a' := ?_) #[true, true, true, true, true, true, true, true, true, true, true, true, true, true, true, true] rfl rfl (any_of HT_.out (by kernel_rfl)) (fun _ _ _ h => h) (Or.inl ⟨by rfl, ?_⟩) ?_ ?_
                                  rotate_left
                                  · intro w'
                                    go_simp
                                    with_reducible rfl
                                  rotate_left
                                  · simp only [Act.put, List.setIfInBounds_toArray, List.set_cons_zero, List.set_cons_succ, i64_w, i32_w]
                                    rfl
                                  refine done_ (done_of HT_.out (by kernel_rfl)) ?_
                                  try go_wp2
                                  go_roundg k2
                                  case measure => have := HJ5.out; have := HK2.out; omega
                                  case rel => exact ⟨(wrap64 (x62_2 + 1)), (by first | rfl | (simp; done) | (simp [*]; done) | (simp [*]; exact isEmpty_bne _) | (simp; exact isEmpty_bne _)), H', ⟨by have := HJ5.out; have := HK2.out; omega⟩, ⟨by (with_reducible repeat (first | apply Kd.R_alloc | apply Kd.R_drewN | apply Kd.R_drew)); exact Kd.R_mono HO_7.out (fun _ hk => ⟨hk.1, ⟨hk.2.1, hk.2.2.1⟩⟩)⟩, ⟨by (with_reducible repeat (first | apply Kd.R_alloc | apply Kd.R_drewN | apply Kd.R_drew)); exact Kd.R_mono HO_8.out (fun _ hk => ⟨hk.1, ⟨hk.2.1, hk.2.2.1⟩⟩)⟩, ⟨by (with_reducible repeat (first | apply Kd.R_alloc | apply Kd.R_drewN | apply Kd.R_drew)); exact Kd.R_mono HO_9.out (fun _ hk => ⟨hk.1, ⟨hk.2.1, hk.2.2.1⟩⟩)⟩, ⟨by (with_reducible repeat (first | apply Kd.R_alloc | apply Kd.R_drewN | apply Kd.R_drew)); exact Kd.R_mono HO_10.out (fun _ hk => ⟨hk.1, ⟨hk.2.1, hk.2.2.1⟩⟩)⟩, ⟨by repeat (first | (with_reducible first | exact HB.out | apply below_alloc | apply pw_below_drewN | apply below_drew1 | refine below_set ?_ GE237.out) | exact HB.out)⟩⟩
                                · replace c63 := Bool.eq_false_iff.mpr c63
                                  subst c63
                                  have H1 : (none) = some r := by rw [if_neg (show ¬ (false = true) by decide)] at H; exact H
                                  exact absurd H1 (by simp)
                            · rw [if_neg c56] at H
                              exact absurd H (by simp)
                          · rw [if_neg c55] at H
                            exact absurd H (by simp)
                        · rw [if_neg c54] at H
                          exact absurd H (by simp)
                      · rw [if_neg c53] at H
                        exact absurd H (by simp)
                  · rw [if_neg c31] at H
                    have c31b0 : decide (x62_2 < (t229.length : Int)) = false := decide_eq_false c31
                    clear c31
                    replace H := Option.bind_eq_some_iff.mp H
                    obtain ⟨⟨t232, t233⟩, A740, H⟩ := H
                    replace H : (if t233 = 0 then ((pdu_Find.f k2 y220 t232).bind fun t234 => (some (decide ((t234.length : Int) ≤ (t229.length : Int))))) else (some true)) = some r := H
                    have A74 := Aside0.mk A740
                    clear A740
                    by_cases c75 : t233 = 0
                    · rw [if_pos c75] at H
                      have c75b0 : (t233 == 0) = true := beq_iff_eq.mpr c75
                      have c75b1 : (t233 != 0) = false := bne_eq_false_iff_eq.mpr c75
                      clear c75
                      replace H := Option.bind_eq_some_iff.mp H
                      obtain ⟨t234, A760, H⟩ := H
                      replace H : (some (decide ((t234.length : Int) ≤ (t229.length : Int)))) = some r := H
                      have A76 := Aside0.mk A760
                      clear A760
                      obtain rfl := Option.some.inj H
                      go_wp2_with (first | ((with_reducible refine gate_callee (f := 24) rfl ?_); refine goesL_ (some 100) rfl rfl Tryz.func24 (by kernel_rfl) rfl #[.string a2, .int .i64 1] rfl (by (try simp only [List.map_toArray, List.map_cons, List.map_nil]); first | done | rfl | (simp only [List.length_drop, List.length_take]; rfl)) ?_; (with_reducible refine (oid_Child.calls k2 a2 1 t232 t233 _ ?side1 A74.out).mono ?_); (case side1 => first | exact HGl.out | exact HGl.out.below (by repeat (first | (with_reducible first | exact HB.out | apply below_alloc | apply pw_below_drewN | apply below_drew1) | exact HB.out | (refine below_set ?_ (Aside0.out (by assumption))) | exact Below.refl _ _))); rintro e w77 ⟨rfl, hb⟩; refine ⟨_, rfl, ?_⟩; have n0_ := Aside0.mk (Kd.R_below (by (with_reducible repeat (first | apply Kd.R_alloc | apply Kd.R_drewN | apply Kd.R_drew)); exact HO_7.out) hb); have n1_ := Aside0.mk (Kd.R_below (by (with_reducible repeat (first | apply Kd.R_alloc | apply Kd.R_drewN | apply Kd.R_drew)); exact HO_8.out) hb); have n2_ := Aside0.mk (Kd.R_below (by (with_reducible repeat (first | apply Kd.R_alloc | apply Kd.R_drewN | apply Kd.R_drew)); exact HO_9.out) hb); have n3_ := Aside0.mk (Kd.R_below (by (with_reducible repeat (first | apply Kd.R_alloc | apply Kd.R_drewN | apply Kd.R_drew)); exact HO_10.out) hb); have n4_ := Aside0.mk (below_step (by repeat (first | (with_reducible first | exact HB.out | apply below_alloc | apply pw_below_drewN | apply below_drew1) | exact HB.out)) hb); clear HO_7; clear HO_8; clear HO_9; clear HO_10; clear HB; have HO_7 := n0_; have HO_8 := n1_; have HO_9 := n2_; have HO_10 := n3_; have HB := n4_; clear n0_ n1_ n2_ n3_ n4_; (try clear hb); (try clear hb2); (try clear hk); (try clear hi)) | (go_at_call 16; (with_reducible refine (pdu_Find.calls k2 _ _ y220 t232 t234 _ ?side3 ?side1 ?side2 A76.out).mono ?_); (case side1 => repeat (first | exact (Kd.R_reads' HO_7.out).2.2 | (with_reducible refine Kd.C_alloc ?_ _) | (with_reducible refine Kd.C_drewN ?_ _) | (with_reducible refine Kd.C_drew ?_))); (case side2 => exact (Kd.R_reads' HO_7.out).2.1); (case side3 => first | exact HGl.out | exact HGl.out.below (by repeat (first | (with_reducible first | exact HB.out | apply below_alloc | apply pw_below_drewN | apply below_drew1) | exact HB.out | (refine below_set ?_ (Aside0.out (by assumption))) | exact Below.refl _ _))); rintro e w78 ⟨v235, rfl, ho0, hb⟩; have n0_ := Aside0.mk (Kd.R_elder' (by (with_reducible repeat (first | apply Kd.R_alloc | apply Kd.R_drewN | apply Kd.R_drew)); exact HO_7.out) (Kd.R_base ho0) hb); have n1_ := Aside0.mk (Kd.R_elder' (by (with_reducible repeat (first | apply Kd.R_alloc | apply Kd.R_drewN | apply Kd.R_drew)); exact HO_8.out) (Kd.R_base ho0) hb); have n2_ := Aside0.mk (Kd.R_elder' (by (with_reducible repeat (first | apply Kd.R_alloc | apply Kd.R_drewN | apply Kd.R_drew)); exact HO_9.out) (Kd.R_base ho0) hb); have n3_ := Aside0.mk (Kd.R_elder' (by (with_reducible repeat (first | apply Kd.R_alloc | apply Kd.R_drewN | apply Kd.R_drew)); exact HO_10.out) (Kd.R_base ho0) hb); have n4_ := Aside0.mk (Kd.R_lower (Kd.R_new' (Kd.R_new' (Kd.R_new' (Kd.R_new' ho0 (Kd.R_lt (by (with_reducible repeat (first | apply Kd.R_alloc | apply Kd.R_drewN | apply Kd.R_drew)); exact HO_7.out))) (Kd.R_lt (by (with_reducible repeat (first | apply Kd.R_alloc | apply Kd.R_drewN | apply Kd.R_drew)); exact HO_8.out))) (Kd.R_lt (by (with_reducible repeat (first | apply Kd.R_alloc | apply Kd.R_drewN | apply Kd.R_drew)); exact HO_9.out))) (Kd.R_lt (by (with_reducible repeat (first | apply Kd.R_alloc | apply Kd.R_drewN | apply Kd.R_drew)); exact HO_10.out))) (below_size (by repeat (first | (with_reducible first | exact HB.out | apply below_alloc | apply pw_below_drewN | apply below_drew1) | exact HB.out)))); have n5_ := Aside0.mk (below_step (by repeat (first | (with_reducible first | exact HB.out | apply below_alloc | apply pw_below_drewN | apply below_drew1) | exact HB.out)) hb); clear HO_7; clear HO_8; clear HO_9; clear HO_10; clear HB; have HO_7 := n0_; have HO_8 := n1_; have HO_9 := n2_; have HO_10 := n3_; have HO236 := n4_; have HB := n5_; clear n0_ n1_ n2_ n3_ n4_ n5_; (try clear hb); (try clear hb2); (try clear hk); (try clear hi); (try clear ho0); obtain ⟨Ao79, co79, eo79⟩ := Kd.R_slice HO236.out; subst eo79))
                      go_ret
                      exact ⟨by first | rfl | (simp only [i64_w, i32_w]; rfl) | (simp [errW_none, errW_some] <;> rfl) | (simp [*, errW_none, errW_some] <;> rfl), by repeat (first | (with_reducible first | exact HB.out | apply below_alloc | apply pw_below_drewN | apply below_drew1) | exact HB.out)⟩
                    · rw [if_neg c75] at H
                      have c75b0 : (t233 == 0) = false := beq_eq_false_iff_ne.mpr c75
                      have c75b1 : (t233 != 0) = true := bne_iff_ne.mpr c75
                      obtain rfl := Option.some.inj H
                      go_wp2_with (first | ((with_reducible refine gate_callee (f := 24) rfl ?_); refine goesL_ (some 100) rfl rfl Tryz.func24 (by kernel_rfl) rfl #[.string a2, .int .i64 1] rfl (by (try simp only [List.map_toArray, List.map_cons, List.map_nil]); first | done | rfl | (simp only [List.length_drop, List.length_take]; rfl)) ?_; (with_reducible refine (oid_Child.calls k2 a2 1 t232 t233 _ ?side1 A74.out).mono ?_); (case side1 => first | exact HGl.out | exact HGl.out.below (by repeat (first | (with_reducible first | exact HB.out | apply below_alloc | apply pw_below_drewN | apply below_drew1) | exact HB.out | (refine below_set ?_ (Aside0.out (by assumption))) | exact Below.refl _ _))); rintro e w80 ⟨rfl, hb⟩; refine ⟨_, rfl, ?_⟩; have n0_ := Aside0.mk (Kd.R_below (by (with_reducible repeat (first | apply Kd.R_alloc | apply Kd.R_drewN | apply Kd.R_drew)); exact HO_7.out) hb); have n1_ := Aside0.mk (Kd.R_below (by (with_reducible repeat (first | apply Kd.R_alloc | apply Kd.R_drewN | apply Kd.R_drew)); exact HO_8.out) hb); have n2_ := Aside0.mk (Kd.R_below (by (with_reducible repeat (first | apply Kd.R_alloc | apply Kd.R_drewN | apply Kd.R_drew)); exact HO_9.out) hb); have n3_ := Aside0.mk (Kd.R_below (by (with_reducible repeat (first | apply Kd.R_alloc | apply Kd.R_drewN | apply Kd.R_drew)); exact HO_10.out) hb); have n4_ := Aside0.mk (below_step (by repeat (first | (with_reducible first | exact HB.out | apply below_alloc | apply pw_below_drewN | apply below_drew1) | exact HB.out)) hb); clear HO_7; clear HO_8; clear HO_9; clear HO_10; clear HB; have HO_7 := n0_; have HO_8 := n1_; have HO_9 := n2_; have HO_10 := n3_; have HB := n4_; clear n0_ n1_ n2_ n3_ n4_; (try clear hb); (try clear hb2); (try clear hk); (try clear hi)))
                      go_ret
                      exact ⟨by first | rfl | (simp only [i64_w, i32_w]; rfl) | (simp [errW_none, errW_some] <;> rfl) | (simp [*, errW_none, errW_some] <;> rfl), by repeat (first | (with_reducible first | exact HB.out | apply below_alloc | apply pw_below_drewN | apply below_drew1) | exact HB.out)⟩
            · rw [if_neg c19] at H
              exact absurd H (by simp)
          · rw [if_neg c15] at H
            exact absurd H (by simp)
        · rw [if_neg c14] at H
          exact absurd H (by simp)

end Go.Proofs.YtjfimileopbadaaGreatDoor.XPdF
