-- Laid by extprint.py (the session's own driver): functions told by the kit's printer and by hand.
import Derived.Test.YtjcenencgnfffaaDoorXStOx0
import Derived.Test.YtjcenencgnfffaaDoorXStOx11
import Derived.Test.YtjcenencgnfffaaDoorXStOx12
import Derived.Test.YtjcenencgnfffaaDoorXStOx15
namespace Go.Proofs.YtjcenencgnfffaaDoor.XStO
open Go.RowKit Gong Go.Proofs.YtjcenencgnfffaaDoorW.PrintWords Go.Proofs.YtjcenencgnfffaaDoorW.PrintLast Go.Proofs.YtjcenencgnfffaaDoorW.PrintMore
attribute [local go_sem] max2_int min2_int max_two min_two max_three min_three max_four min_four   -- for this text's walks alone
set_option linter.unusedVariables false
set_option linter.unusedSimpArgs false

/-! ### gonglaw03_StampPoint: function 5 -/
mutual
def gonglaw03_StampPoint.j0 : Nat → Int → Int → ByteArray → Option (Bool)
  | 0, _, _, _ => none
  | k + 1, x0, x1, x5 => gonglaw03_StampPoint.l0 k x0 x1 x5 0
def gonglaw03_StampPoint.l0 : Nat → Int → Int → ByteArray → Int → Option (Bool)
  | 0, _, _, _, _ => none
  | k + 1, x0, x1, x5, x31 => if x31 < 10 then (if x5.size + 1 ≤ 9223372036854775807 then ((stamp_Parse.f k (x5 ++ (⟨#[90]⟩ : ByteArray))).bind fun bt175 => ((gongbook_Below.f x1 10).bind fun t177 => (if x31 ≥ t177 then (if (x5.size : Int) > 20 then (if (x5.size : Int) ≤ 29 then (if bt175.2 = 0 then (if bt175.1 = x0 then (if (x5.size : Int) = 20 then (if bt175.2 = 30 then (gonglaw03_StampPoint.l0 k x0 x1 (x5 ++ (⟨#[48]⟩ : ByteArray)) (wrap64 (x31 + 1))) else (some false)) else (if (x5.size : Int) > 29 then (if bt175.2 = 30 then (gonglaw03_StampPoint.l0 k x0 x1 (x5 ++ (⟨#[48]⟩ : ByteArray)) (wrap64 (x31 + 1))) else (some false)) else (gonglaw03_StampPoint.l0 k x0 x1 (x5 ++ (⟨#[48]⟩ : ByteArray)) (wrap64 (x31 + 1))))) else (some false)) else (some false)) else (if (x5.size : Int) = 20 then (if bt175.2 = 30 then (gonglaw03_StampPoint.l0 k x0 x1 (x5 ++ (⟨#[48]⟩ : ByteArray)) (wrap64 (x31 + 1))) else (some false)) else (if (x5.size : Int) > 29 then (if bt175.2 = 30 then (gonglaw03_StampPoint.l0 k x0 x1 (x5 ++ (⟨#[48]⟩ : ByteArray)) (wrap64 (x31 + 1))) else (some false)) else (gonglaw03_StampPoint.l0 k x0 x1 (x5 ++ (⟨#[48]⟩ : ByteArray)) (wrap64 (x31 + 1)))))) else (if (x5.size : Int) = 20 then (if bt175.2 = 30 then (gonglaw03_StampPoint.l0 k x0 x1 (x5 ++ (⟨#[48]⟩ : ByteArray)) (wrap64 (x31 + 1))) else (some false)) else (if (x5.size : Int) > 29 then (if bt175.2 = 30 then (gonglaw03_StampPoint.l0 k x0 x1 (x5 ++ (⟨#[48]⟩ : ByteArray)) (wrap64 (x31 + 1))) else (some false)) else (gonglaw03_StampPoint.l0 k x0 x1 (x5 ++ (⟨#[48]⟩ : ByteArray)) (wrap64 (x31 + 1)))))) else (if (x5.size : Int) = 20 then (if bt175.2 = 30 then (gonglaw03_StampPoint.l0 k x0 x1 (x5 ++ (⟨#[48]⟩ : ByteArray)) (wrap64 (x31 + 1))) else (some false)) else (if (x5.size : Int) > 29 then (if bt175.2 = 30 then (gonglaw03_StampPoint.l0 k x0 x1 (x5 ++ (⟨#[48]⟩ : ByteArray)) (wrap64 (x31 + 1))) else (some false)) else (gonglaw03_StampPoint.l0 k x0 x1 (x5 ++ (⟨#[48]⟩ : ByteArray)) (wrap64 (x31 + 1)))))))) else (none)) else (some true)
end
def gonglaw03_StampPoint.f (k : Nat) (a0 : Int) (a1 : Int) : Option (Bool) := (gonglaw03_works.f k).bind fun t171 => (if t171 = true then ((gongbook_Below.f a0 2305843009213693953).bind fun t172 => ((stamp_Print.f k t172).bind fun bt173 => (if bt173.2 = 0 then (if 0 ≤ (wrap64 ((bt173.1.size : Int) - 1)) then (if (wrap64 ((bt173.1.size : Int) - 1)) ≤ (bt173.1.size : Int) then (if ((bt173.1.extract 0 ((wrap64 ((bt173.1.size : Int) - 1)) : Int).toNat).size : Int) = 19 then (if (bt173.1.extract 0 ((wrap64 ((bt173.1.size : Int) - 1)) : Int).toNat).size + 1 ≤ 9223372036854775807 then (gonglaw03_StampPoint.j0 k t172 a1 ((bt173.1.extract 0 ((wrap64 ((bt173.1.size : Int) - 1)) : Int).toNat) ++ (⟨#[46]⟩ : ByteArray))) else (none)) else (gonglaw03_StampPoint.j0 k t172 a1 (bt173.1.extract 0 ((wrap64 ((bt173.1.size : Int) - 1)) : Int).toNat))) else (none)) else (none)) else (some false)))) else (some false))
theorem gonglaw03_StampPoint.mono_l : ∀ k, (∀ y0 y1 y2, LeO (gonglaw03_StampPoint.j0 k y0 y1 y2) (gonglaw03_StampPoint.j0 (k + 1) y0 y1 y2)) ∧ (∀ y0 y1 y2 y3, LeO (gonglaw03_StampPoint.l0 k y0 y1 y2 y3) (gonglaw03_StampPoint.l0 (k + 1) y0 y1 y2 y3))
  | 0 => ⟨fun _ _ _ r h => by simp [gonglaw03_StampPoint.j0] at h, fun _ _ _ _ r h => by simp [gonglaw03_StampPoint.l0] at h⟩
  | k + 1 => by
    obtain ⟨ih0, ih1⟩ := gonglaw03_StampPoint.mono_l k
    refine ⟨?_, ?_⟩
    · intro y0 y1 y2
      unfold gonglaw03_StampPoint.j0
      repeat' first
      | (with_reducible exact ih0 _ _ _)
      | (with_reducible exact ih1 _ _ _ _)
      | (with_reducible exact gonglaw03_works.mono _)
      | (with_reducible exact stamp_Parse.mono _ _)
      | (with_reducible exact stamp_Print.mono _ _)
      | (with_reducible exact LeO.refl _)
      | (with_reducible exact LeO.none _)
      | (with_reducible refine LeO.ite ?_ ?_)
      | (with_reducible refine LeO.bind ?_ (fun _ => ?_))
      | exact ih0 _ _ _
      | exact ih1 _ _ _ _
      | exact gonglaw03_works.mono _
      | exact stamp_Parse.mono _ _
      | exact stamp_Print.mono _ _
      | exact LeO.none _
      | refine LeO.ite ?_ ?_
      | refine LeO.bind ?_ (fun _ => ?_)
    · intro y0 y1 y2 y3
      unfold gonglaw03_StampPoint.l0
      repeat' first
      | (with_reducible exact ih0 _ _ _)
      | (with_reducible exact ih1 _ _ _ _)
      | (with_reducible exact gonglaw03_works.mono _)
      | (with_reducible exact stamp_Parse.mono _ _)
      | (with_reducible exact stamp_Print.mono _ _)
      | (with_reducible exact LeO.refl _)
      | (with_reducible exact LeO.none _)
      | (with_reducible refine LeO.ite ?_ ?_)
      | (with_reducible refine LeO.bind ?_ (fun _ => ?_))
      | exact ih0 _ _ _
      | exact ih1 _ _ _ _
      | exact gonglaw03_works.mono _
      | exact stamp_Parse.mono _ _
      | exact stamp_Print.mono _ _
      | exact LeO.none _
      | refine LeO.ite ?_ ?_
      | refine LeO.bind ?_ (fun _ => ?_)
theorem gonglaw03_StampPoint.mono : ∀ a0 a1 k, LeO (gonglaw03_StampPoint.f k a0 a1) (gonglaw03_StampPoint.f (k + 1) a0 a1) := by
  intro a0 a1 k
  obtain ⟨ih0, ih1⟩ := gonglaw03_StampPoint.mono_l k
  unfold gonglaw03_StampPoint.f
  repeat' first
      | (with_reducible exact ih0 _ _ _)
      | (with_reducible exact ih1 _ _ _ _)
      | (with_reducible exact gonglaw03_works.mono _)
      | (with_reducible exact stamp_Parse.mono _ _)
      | (with_reducible exact stamp_Print.mono _ _)
      | (with_reducible exact LeO.refl _)
      | (with_reducible exact LeO.none _)
      | (with_reducible refine LeO.ite ?_ ?_)
      | (with_reducible refine LeO.bind ?_ (fun _ => ?_))
      | exact ih0 _ _ _
      | exact ih1 _ _ _ _
      | exact gonglaw03_works.mono _
      | exact stamp_Parse.mono _ _
      | exact stamp_Print.mono _ _
      | exact LeO.none _
      | refine LeO.ite ?_ ?_
      | refine LeO.bind ?_ (fun _ => ?_)
set_option maxHeartbeats 8000000 in
set_option maxRecDepth 100000 in
theorem gonglaw03_StampPoint.calls (k : Nat) (a0 : Int) (a1 : Int) (r : Bool) (w : World) (hG : Gl w) (h : gonglaw03_StampPoint.f k a0 a1 = some r) :
    Calls Tryd.prog 5 #[.int .i64 a0, .int .i64 a1] w fun e w' => e = .returned (.bool r) ∧ Below w.heap.size w w' := by
  have HGl := Aside0.mk hG
  clear hG
  have HB := Aside0.mk (Below.refl w.heap.size w)
  have H : ((gonglaw03_works.f k).bind fun t171 => (if t171 = true then ((gongbook_Below.f a0 2305843009213693953).bind fun t172 => ((stamp_Print.f k t172).bind fun bt173 => (if bt173.2 = 0 then (if 0 ≤ (wrap64 ((bt173.1.size : Int) - 1)) then (if (wrap64 ((bt173.1.size : Int) - 1)) ≤ (bt173.1.size : Int) then (if ((bt173.1.extract 0 ((wrap64 ((bt173.1.size : Int) - 1)) : Int).toNat).size : Int) = 19 then (if (bt173.1.extract 0 ((wrap64 ((bt173.1.size : Int) - 1)) : Int).toNat).size + 1 ≤ 9223372036854775807 then (gonglaw03_StampPoint.j0 k t172 a1 ((bt173.1.extract 0 ((wrap64 ((bt173.1.size : Int) - 1)) : Int).toNat) ++ (⟨#[46]⟩ : ByteArray))) else (none)) else (gonglaw03_StampPoint.j0 k t172 a1 (bt173.1.extract 0 ((wrap64 ((bt173.1.size : Int) - 1)) : Int).toNat))) else (none)) else (none)) else (some false)))) else (some false))) = some r := h
  clear h
  replace H := Option.bind_eq_some_iff.mp H
  obtain ⟨t171, A30, H⟩ := H
  replace H : (if t171 = true then ((gongbook_Below.f a0 2305843009213693953).bind fun t172 => ((stamp_Print.f k t172).bind fun bt173 => (if bt173.2 = 0 then (if 0 ≤ (wrap64 ((bt173.1.size : Int) - 1)) then (if (wrap64 ((bt173.1.size : Int) - 1)) ≤ (bt173.1.size : Int) then (if ((bt173.1.extract 0 ((wrap64 ((bt173.1.size : Int) - 1)) : Int).toNat).size : Int) = 19 then (if (bt173.1.extract 0 ((wrap64 ((bt173.1.size : Int) - 1)) : Int).toNat).size + 1 ≤ 9223372036854775807 then (gonglaw03_StampPoint.j0 k t172 a1 ((bt173.1.extract 0 ((wrap64 ((bt173.1.size : Int) - 1)) : Int).toNat) ++ (⟨#[46]⟩ : ByteArray))) else (none)) else (gonglaw03_StampPoint.j0 k t172 a1 (bt173.1.extract 0 ((wrap64 ((bt173.1.size : Int) - 1)) : Int).toNat))) else (none)) else (none)) else (some false)))) else (some false)) = some r := H
  have A3 := Aside0.mk A30
  clear A30
  by_cases c4 : t171 = true
  rotate_left
  · replace c4 := Bool.eq_false_iff.mpr c4
    subst c4
    have H1 : (some false) = some r := by rw [if_neg (show ¬ (false = true) by decide)] at H; exact H
    clear H
    have H := H1
    clear H1
    obtain rfl := Option.some.inj H
    go_enter Tryd.func5, Tryd.ntmps5
    go_wp2_with (first | ((with_reducible refine gate_callee (f := 12) rfl ?_); refine goesL_ (some 10) rfl rfl Tryd.func12 (by kernel_rfl) rfl #[] rfl (by (try simp only [List.map_toArray, List.map_cons, List.map_nil]); first | done | rfl | (simp only [List.length_drop, List.length_take]; rfl)) ?_; (with_reducible refine (gonglaw03_works.calls k  false _ ?side1 A3.out).mono ?_); (case side1 => first | exact HGl.out | exact HGl.out.below (by repeat (first | (with_reducible first | exact HB.out | apply below_alloc | apply pw_below_drewN | apply below_drew1) | exact HB.out | exact Below.refl _ _))); rintro e w65 ⟨rfl, hb⟩; refine ⟨_, rfl, ?_⟩; have n0_ := Aside0.mk (below_step (by repeat (first | (with_reducible first | exact HB.out | apply below_alloc | apply pw_below_drewN | apply below_drew1) | exact HB.out)) hb); clear HB; have HB := n0_; clear n0_; (try clear hb); (try clear hb2); (try clear hk); (try clear hi)))
    go_ret
    exact ⟨by first | rfl | (simp only [i64_w, i32_w]; rfl) | (simp [errW_none, errW_some] <;> rfl) | (simp [*, errW_none, errW_some] <;> rfl), by repeat (first | (with_reducible first | exact HB.out | apply below_alloc | apply pw_below_drewN | apply below_drew1) | exact HB.out)⟩
  subst c4
  have H1 : ((gongbook_Below.f a0 2305843009213693953).bind fun t172 => ((stamp_Print.f k t172).bind fun bt173 => (if bt173.2 = 0 then (if 0 ≤ (wrap64 ((bt173.1.size : Int) - 1)) then (if (wrap64 ((bt173.1.size : Int) - 1)) ≤ (bt173.1.size : Int) then (if ((bt173.1.extract 0 ((wrap64 ((bt173.1.size : Int) - 1)) : Int).toNat).size : Int) = 19 then (if (bt173.1.extract 0 ((wrap64 ((bt173.1.size : Int) - 1)) : Int).toNat).size + 1 ≤ 9223372036854775807 then (gonglaw03_StampPoint.j0 k t172 a1 ((bt173.1.extract 0 ((wrap64 ((bt173.1.size : Int) - 1)) : Int).toNat) ++ (⟨#[46]⟩ : ByteArray))) else (none)) else (gonglaw03_StampPoint.j0 k t172 a1 (bt173.1.extract 0 ((wrap64 ((bt173.1.size : Int) - 1)) : Int).toNat))) else (none)) else (none)) else (some false)))) = some r := by rw [if_pos rfl] at H; exact H
  clear H
  have H := H1
  clear H1
  replace H := Option.bind_eq_some_iff.mp H
  obtain ⟨t172, A50, H⟩ := H
  replace H : ((stamp_Print.f k t172).bind fun bt173 => (if bt173.2 = 0 then (if 0 ≤ (wrap64 ((bt173.1.size : Int) - 1)) then (if (wrap64 ((bt173.1.size : Int) - 1)) ≤ (bt173.1.size : Int) then (if ((bt173.1.extract 0 ((wrap64 ((bt173.1.size : Int) - 1)) : Int).toNat).size : Int) = 19 then (if (bt173.1.extract 0 ((wrap64 ((bt173.1.size : Int) - 1)) : Int).toNat).size + 1 ≤ 9223372036854775807 then (gonglaw03_StampPoint.j0 k t172 a1 ((bt173.1.extract 0 ((wrap64 ((bt173.1.size : Int) - 1)) : Int).toNat) ++ (⟨#[46]⟩ : ByteArray))) else (none)) else (gonglaw03_StampPoint.j0 k t172 a1 (bt173.1.extract 0 ((wrap64 ((bt173.1.size : Int) - 1)) : Int).toNat))) else (none)) else (none)) else (some false))) = some r := H
  have A5 := Aside0.mk A50
  clear A50
  replace H := Option.bind_eq_some_iff.mp H
  obtain ⟨⟨t173, t174⟩, A60, H⟩ := H
  replace H : (if t174 = 0 then (if 0 ≤ (wrap64 ((t173.size : Int) - 1)) then (if (wrap64 ((t173.size : Int) - 1)) ≤ (t173.size : Int) then (if ((t173.extract 0 ((wrap64 ((t173.size : Int) - 1)) : Int).toNat).size : Int) = 19 then (if (t173.extract 0 ((wrap64 ((t173.size : Int) - 1)) : Int).toNat).size + 1 ≤ 9223372036854775807 then (gonglaw03_StampPoint.j0 k t172 a1 ((t173.extract 0 ((wrap64 ((t173.size : Int) - 1)) : Int).toNat) ++ (⟨#[46]⟩ : ByteArray))) else (none)) else (gonglaw03_StampPoint.j0 k t172 a1 (t173.extract 0 ((wrap64 ((t173.size : Int) - 1)) : Int).toNat))) else (none)) else (none)) else (some false)) = some r := H
  have A6 := Aside0.mk A60
  clear A60
  by_cases c7 : t174 = 0
  rotate_left
  · rw [if_neg c7] at H
    have c7b0 : (t174 == 0) = false := beq_eq_false_iff_ne.mpr c7
    have c7b1 : (t174 != 0) = true := bne_iff_ne.mpr c7
    obtain rfl := Option.some.inj H
    go_enter Tryd.func5, Tryd.ntmps5
    go_wp2_with (first | ((with_reducible refine gate_callee (f := 12) rfl ?_); refine goesL_ (some 10) rfl rfl Tryd.func12 (by kernel_rfl) rfl #[] rfl (by (try simp only [List.map_toArray, List.map_cons, List.map_nil]); first | done | rfl | (simp only [List.length_drop, List.length_take]; rfl)) ?_; (with_reducible refine (gonglaw03_works.calls k  true _ ?side1 A3.out).mono ?_); (case side1 => first | exact HGl.out | exact HGl.out.below (by repeat (first | (with_reducible first | exact HB.out | apply below_alloc | apply pw_below_drewN | apply below_drew1) | exact HB.out | exact Below.refl _ _))); rintro e w63 ⟨rfl, hb⟩; refine ⟨_, rfl, ?_⟩; have n0_ := Aside0.mk (below_step (by repeat (first | (with_reducible first | exact HB.out | apply below_alloc | apply pw_below_drewN | apply below_drew1) | exact HB.out)) hb); clear HB; have HB := n0_; clear n0_; (try clear hb); (try clear hb2); (try clear hk); (try clear hi)) | ((with_reducible refine gate_callee (f := 17) rfl ?_); refine goesL_ (some 13) rfl rfl Tryd.func17 (by kernel_rfl) rfl #[.int .i64 a0, .int .i64 2305843009213693953] rfl (by (try simp only [List.map_toArray, List.map_cons, List.map_nil]); first | done | rfl | (simp only [List.length_drop, List.length_take]; rfl)) ?_; (with_reducible refine (gongbook_Below.calls a0 2305843009213693953 t172 _ A5.out).mono ?_); rintro e w' ⟨rfl, ⟨nd, rfl⟩⟩; refine ⟨_, rfl, ?_⟩) | ((with_reducible refine gate_callee (f := 18) rfl ?_); refine goesL_ (some 16) rfl rfl Tryd.func18 (by kernel_rfl) rfl #[.int .i64 t172] rfl (by (try simp only [List.map_toArray, List.map_cons, List.map_nil]); first | done | rfl | (simp only [List.length_drop, List.length_take]; rfl)) ?_; (with_reducible refine (stamp_Print.calls k t172 t173 t174 _ ?side1 A6.out).mono ?_); (case side1 => first | exact HGl.out | exact HGl.out.below (by repeat (first | (with_reducible first | exact HB.out | apply below_alloc | apply pw_below_drewN | apply below_drew1) | exact HB.out | exact Below.refl _ _))); rintro e w64 ⟨rfl, hb⟩; refine ⟨_, rfl, ?_⟩; have n0_ := Aside0.mk (below_step (by repeat (first | (with_reducible first | exact HB.out | apply below_alloc | apply pw_below_drewN | apply below_drew1) | exact HB.out)) hb); clear HB; have HB := n0_; clear n0_; (try clear hb); (try clear hb2); (try clear hk); (try clear hi)))
    go_ret
    exact ⟨by first | rfl | (simp only [i64_w, i32_w]; rfl) | (simp [errW_none, errW_some] <;> rfl) | (simp [*, errW_none, errW_some] <;> rfl), by repeat (first | (with_reducible first | exact HB.out | apply below_alloc | apply pw_below_drewN | apply below_drew1) | exact HB.out)⟩
  rw [if_pos c7] at H
  have c7b0 : (t174 == 0) = true := beq_iff_eq.mpr c7
  have c7b1 : (t174 != 0) = false := bne_eq_false_iff_eq.mpr c7
  clear c7
  obtain ⟨ji8, hji8⟩ : ∃ j_ : Int, (wrap64 ((t173.size : Int) - 1)) = j_ := ⟨_, rfl⟩
  replace H : (if 0 ≤ (ji8) then (if (ji8) ≤ (t173.size : Int) then (if ((t173.extract 0 ((ji8) : Int).toNat).size : Int) = 19 then (if (t173.extract 0 ((ji8) : Int).toNat).size + 1 ≤ 9223372036854775807 then (gonglaw03_StampPoint.j0 k t172 a1 ((t173.extract 0 ((ji8) : Int).toNat) ++ (⟨#[46]⟩ : ByteArray))) else (none)) else (gonglaw03_StampPoint.j0 k t172 a1 (t173.extract 0 ((ji8) : Int).toNat))) else (none)) else (none)) = some r := by first | (rw [hji8] at H; exact H) | (simp only [hji8] at H ⊢; exact H)
  (try rw [hji8] at A3)
  (try rw [hji8] at A5)
  (try rw [hji8] at A6)
  have hji8w : (IntKind.i64.wrap ((t173.size : Int) - 1)) = ji8 := (i64_w _).trans hji8
  by_cases c9 : 0 ≤ (ji8)
  rotate_left
  · rw [if_neg c9] at H
    exact absurd H (by simp)
  rw [if_pos c9] at H
  have c9b0 := eq_true c9
  have c9b1 : decide (0 ≤ (ji8)) = true := decide_eq_true c9
  clear c9
  by_cases c10 : (ji8) ≤ (t173.size : Int)
  rotate_left
  · rw [if_neg c10] at H
    exact absurd H (by simp)
  rw [if_pos c10] at H
  have c10b0 := eq_true c10
  have c10b1 : decide ((ji8) ≤ (t173.size : Int)) = true := decide_eq_true c10
  clear c10
  have HC11 := Aside0.mk H
  clear H
  go_enter Tryd.func5, Tryd.ntmps5
  go_upto_if 28 with (first | ((with_reducible refine gate_callee (f := 12) rfl ?_); refine goesL_ (some 10) rfl rfl Tryd.func12 (by kernel_rfl) rfl #[] rfl (by (try simp only [List.map_toArray, List.map_cons, List.map_nil]); first | done | rfl | (simp only [List.length_drop, List.length_take]; rfl)) ?_; (with_reducible refine (gonglaw03_works.calls k  true _ ?side1 A3.out).mono ?_); (case side1 => first | exact HGl.out | exact HGl.out.below (by repeat (first | (with_reducible first | exact HB.out | apply below_alloc | apply pw_below_drewN | apply below_drew1) | exact HB.out | exact Below.refl _ _))); rintro e w12 ⟨rfl, hb⟩; refine ⟨_, rfl, ?_⟩; have n0_ := Aside0.mk (below_step (by repeat (first | (with_reducible first | exact HB.out | apply below_alloc | apply pw_below_drewN | apply below_drew1) | exact HB.out)) hb); clear HB; have HB := n0_; clear n0_; (try clear hb); (try clear hb2); (try clear hk); (try clear hi)) | ((with_reducible refine gate_callee (f := 17) rfl ?_); refine goesL_ (some 13) rfl rfl Tryd.func17 (by kernel_rfl) rfl #[.int .i64 a0, .int .i64 2305843009213693953] rfl (by (try simp only [List.map_toArray, List.map_cons, List.map_nil]); first | done | rfl | (simp only [List.length_drop, List.length_take]; rfl)) ?_; (with_reducible refine (gongbook_Below.calls a0 2305843009213693953 t172 _ A5.out).mono ?_); rintro e w' ⟨rfl, ⟨nd, rfl⟩⟩; refine ⟨_, rfl, ?_⟩) | ((with_reducible refine gate_callee (f := 18) rfl ?_); refine goesL_ (some 16) rfl rfl Tryd.func18 (by kernel_rfl) rfl #[.int .i64 t172] rfl (by (try simp only [List.map_toArray, List.map_cons, List.map_nil]); first | done | rfl | (simp only [List.length_drop, List.length_take]; rfl)) ?_; (with_reducible refine (stamp_Print.calls k t172 t173 t174 _ ?side1 A6.out).mono ?_); (case side1 => first | exact HGl.out | exact HGl.out.below (by repeat (first | (with_reducible first | exact HB.out | apply below_alloc | apply pw_below_drewN | apply below_drew1) | exact HB.out | exact Below.refl _ _))); rintro e w13 ⟨rfl, hb⟩; refine ⟨_, rfl, ?_⟩; have n0_ := Aside0.mk (below_step (by repeat (first | (with_reducible first | exact HB.out | apply below_alloc | apply pw_below_drewN | apply below_drew1) | exact HB.out)) hb); clear HB; have HB := n0_; clear n0_; (try clear hb); (try clear hb2); (try clear hk); (try clear hi)))
  (try simp only [Act.put, List.setIfInBounds_toArray, List.set_cons_zero, List.set_cons_succ])
  go_cut [5] (fun v5 wc => ∃ (kq : Nat) (x5_10 : ByteArray), v5 = .string x5_10 ∧ Aside0 (gonglaw03_StampPoint.j0 kq t172 a1 x5_10 = some r) ∧ Aside0 (kq ≤ k) ∧ Aside0 (Below w.heap.size w wc))
  case first =>
    have H := HC11.out
    clear HC11
    by_cases c14 : ((t173.extract 0 ((ji8) : Int).toNat).size : Int) = 19
    · rw [if_pos c14] at H
      have c14b0 : (((t173.extract 0 ((ji8) : Int).toNat).size : Int) == 19) = true := beq_iff_eq.mpr c14
      have c14b1 : (((t173.extract 0 ((ji8) : Int).toNat).size : Int) != 19) = false := bne_eq_false_iff_eq.mpr c14
      have c14m := c14b0
      rw [show ((t173.extract 0 ((ji8) : Int).toNat).size : Int) = max ji8 0 from by have y_ : ji8 ≤ (t173.size : Int) := of_eq_true (by assumption); have y2_ : 0 ≤ ji8 := of_eq_true (by assumption); rw [ByteArray.size_extract]; omega] at c14m
      (try rw [c14m])
      clear c14
      (first | rw [c14b0] | (simp only [i64_w, i32_w]; rw [c14b0]) | skip)
      by_cases c15 : (t173.extract 0 ((ji8) : Int).toNat).size + 1 ≤ 9223372036854775807
      · rw [if_pos c15] at H
        have c15b0 := eq_true c15
        have c15b1 : decide ((t173.extract 0 ((ji8) : Int).toNat).size + 1 ≤ 9223372036854775807) = true := decide_eq_true c15
        try have c15b2 : (9223372036854775807 < (t173.extract 0 ((ji8) : Int).toNat).size + 1) = False := eq_false (Nat.not_lt.2 c15)
        have c15e2 : (9223372036854775807 < ji8.toNat + 1) = False := eq_false (by have z_ := c15; have y_ : ji8 ≤ (t173.size : Int) := of_eq_true (by assumption); have y2_ : 0 ≤ ji8 := of_eq_true (by assumption); simp only [ByteArray.size_extract] at z_; omega)
        have H' := Aside0.mk H
        clear H
        go_wp2
        go_meet
        case rel => exact ⟨_, ((t173.extract 0 ((ji8) : Int).toNat) ++ (⟨#[46]⟩ : ByteArray)), (by first | rfl | (simp; done) | (simp only [← hji8] <;> (first | rfl | simp)) | (simp [*]; done)), H', ⟨by first | omega | exact Nat.le_refl _⟩, ⟨by repeat (first | (with_reducible first | exact HB.out | apply below_alloc | apply pw_below_drewN | apply below_drew1) | exact HB.out)⟩⟩
      · rw [if_neg c15] at H
        exact absurd H (by simp)
    · rw [if_neg c14] at H
      have c14b0 : (((t173.extract 0 ((ji8) : Int).toNat).size : Int) == 19) = false := beq_eq_false_iff_ne.mpr c14
      have c14b1 : (((t173.extract 0 ((ji8) : Int).toNat).size : Int) != 19) = true := bne_iff_ne.mpr c14
      have c14m := c14b0
      rw [show ((t173.extract 0 ((ji8) : Int).toNat).size : Int) = max ji8 0 from by have y_ : ji8 ≤ (t173.size : Int) := of_eq_true (by assumption); have y2_ : 0 ≤ ji8 := of_eq_true (by assumption); rw [ByteArray.size_extract]; omega] at c14m
      (try rw [c14m])
      (first | rw [c14b0] | (simp only [i64_w, i32_w]; rw [c14b0]) | skip)
      have H' := Aside0.mk H
      clear H
      go_wp2
      go_meet
      case rel => exact ⟨_, (t173.extract 0 ((ji8) : Int).toNat), (by first | rfl | (simp; done) | (simp only [← hji8] <;> (first | rfl | simp)) | (simp [*]; done)), H', ⟨by first | omega | exact Nat.le_refl _⟩, ⟨by repeat (first | (with_reducible first | exact HB.out | apply below_alloc | apply pw_below_drewN | apply below_drew1) | exact HB.out)⟩⟩
  case rest =>
    clear HC11
    try clear c1
    try clear p2
    try clear c4
    try clear c5
    try clear p6
    try clear c7
    try clear c7b0
    try clear c7b1
    try clear c9
    try clear c9b0
    try clear c9b1
    try clear c10
    try clear c10b0
    try clear c10b1
    try clear c12
    try clear c14
    try clear c14b0
    try clear c14b1
    try clear c15
    try clear c15b0
    try clear c15b1
    try clear c15b2
    obtain ⟨kq, x5_10, rfl, HA, HJ10, HB⟩ := hcut
    cases kq with
    | zero => exact absurd HA.out (by simp [gonglaw03_StampPoint.j0])
    | succ kj10 =>
      have H := HA.out
      clear HA
      simp only [gonglaw03_StampPoint.j0] at H
      have H' := Aside0.mk H
      clear H
      go_wp2
      go_loopg [5, 31] kj10 (fun kq v5 v31 w' => ∃ (x5_2 : ByteArray) (x31_2 : Int), v5 = .string x5_2 ∧ v31 = .int .i64 x31_2 ∧ Aside0 (gonglaw03_StampPoint.l0 kq t172 a1 x5_2 x31_2 = some r) ∧ Aside0 (kq ≤ kj10) ∧ Aside0 (Below w.heap.size w w'))
      case atStart => exact ⟨(x5_10), (0), (by first | rfl | (simp; done) | (simp [*]; done) | (simp [*]; exact isEmpty_bne _) | (simp; exact isEmpty_bne _)), (by first | rfl | (simp; done) | (simp [*]; done) | (simp [*]; exact isEmpty_bne _) | (simp; exact isEmpty_bne _)), H', ⟨Nat.le_refl _⟩, ⟨by repeat (first | (with_reducible first | exact HB.out | apply below_alloc | apply pw_below_drewN | apply below_drew1) | exact HB.out)⟩⟩
      case round =>
        clear H'
        try clear c1
        try clear p2
        try clear c4
        try clear c5
        try clear p6
        try clear c7
        try clear c7b0
        try clear c7b1
        try clear c9
        try clear c9b0
        try clear c9b1
        try clear c10
        try clear c10b0
        try clear c10b1
        try clear c12
        try clear c14
        try clear c14b0
        try clear c14b1
        try clear c15
        try clear c15b0
        try clear c15b1
        try clear c15b2
        try clear p2
        try clear p6
        obtain ⟨x5_2, x31_2, rfl, rfl, HA, HK2, HB⟩ := hrel
        cases gk with
        | zero => exact absurd HA.out (by simp [gonglaw03_StampPoint.l0])
        | succ k2 =>
          have H := HA.out
          clear HA
          simp only [gonglaw03_StampPoint.l0] at H
          by_cases c16 : x31_2 < 10
          · rw [if_pos c16] at H
            have c16b0 : decide (x31_2 < 10) = true := decide_eq_true c16
            clear c16
            by_cases c17 : x5_2.size + 1 ≤ 9223372036854775807
            · rw [if_pos c17] at H
              have c17b0 := eq_true c17
              have c17b1 : decide (x5_2.size + 1 ≤ 9223372036854775807) = true := decide_eq_true c17
              try have c17b2 : (9223372036854775807 < x5_2.size + 1) = False := eq_false (Nat.not_lt.2 c17)
              replace H := Option.bind_eq_some_iff.mp H
              obtain ⟨⟨t175, t176⟩, A180, H⟩ := H
              replace H : ((gongbook_Below.f a1 10).bind fun t177 => (if x31_2 ≥ t177 then (if (x5_2.size : Int) > 20 then (if (x5_2.size : Int) ≤ 29 then (if t176 = 0 then (if t175 = t172 then (if (x5_2.size : Int) = 20 then (if t176 = 30 then (gonglaw03_StampPoint.l0 k2 t172 a1 (x5_2 ++ (⟨#[48]⟩ : ByteArray)) (wrap64 (x31_2 + 1))) else (some false)) else (if (x5_2.size : Int) > 29 then (if t176 = 30 then (gonglaw03_StampPoint.l0 k2 t172 a1 (x5_2 ++ (⟨#[48]⟩ : ByteArray)) (wrap64 (x31_2 + 1))) else (some false)) else (gonglaw03_StampPoint.l0 k2 t172 a1 (x5_2 ++ (⟨#[48]⟩ : ByteArray)) (wrap64 (x31_2 + 1))))) else (some false)) else (some false)) else (if (x5_2.size : Int) = 20 then (if t176 = 30 then (gonglaw03_StampPoint.l0 k2 t172 a1 (x5_2 ++ (⟨#[48]⟩ : ByteArray)) (wrap64 (x31_2 + 1))) else (some false)) else (if (x5_2.size : Int) > 29 then (if t176 = 30 then (gonglaw03_StampPoint.l0 k2 t172 a1 (x5_2 ++ (⟨#[48]⟩ : ByteArray)) (wrap64 (x31_2 + 1))) else (some false)) else (gonglaw03_StampPoint.l0 k2 t172 a1 (x5_2 ++ (⟨#[48]⟩ : ByteArray)) (wrap64 (x31_2 + 1)))))) else (if (x5_2.size : Int) = 20 then (if t176 = 30 then (gonglaw03_StampPoint.l0 k2 t172 a1 (x5_2 ++ (⟨#[48]⟩ : ByteArray)) (wrap64 (x31_2 + 1))) else (some false)) else (if (x5_2.size : Int) > 29 then (if t176 = 30 then (gonglaw03_StampPoint.l0 k2 t172 a1 (x5_2 ++ (⟨#[48]⟩ : ByteArray)) (wrap64 (x31_2 + 1))) else (some false)) else (gonglaw03_StampPoint.l0 k2 t172 a1 (x5_2 ++ (⟨#[48]⟩ : ByteArray)) (wrap64 (x31_2 + 1)))))) else (if (x5_2.size : Int) = 20 then (if t176 = 30 then (gonglaw03_StampPoint.l0 k2 t172 a1 (x5_2 ++ (⟨#[48]⟩ : ByteArray)) (wrap64 (x31_2 + 1))) else (some false)) else (if (x5_2.size : Int) > 29 then (if t176 = 30 then (gonglaw03_StampPoint.l0 k2 t172 a1 (x5_2 ++ (⟨#[48]⟩ : ByteArray)) (wrap64 (x31_2 + 1))) else (some false)) else (gonglaw03_StampPoint.l0 k2 t172 a1 (x5_2 ++ (⟨#[48]⟩ : ByteArray)) (wrap64 (x31_2 + 1))))))) = some r := H
              have A18 := Aside0.mk A180
              clear A180
              replace H := Option.bind_eq_some_iff.mp H
              obtain ⟨t177, A190, H⟩ := H
              replace H : (if x31_2 ≥ t177 then (if (x5_2.size : Int) > 20 then (if (x5_2.size : Int) ≤ 29 then (if t176 = 0 then (if t175 = t172 then (if (x5_2.size : Int) = 20 then (if t176 = 30 then (gonglaw03_StampPoint.l0 k2 t172 a1 (x5_2 ++ (⟨#[48]⟩ : ByteArray)) (wrap64 (x31_2 + 1))) else (some false)) else (if (x5_2.size : Int) > 29 then (if t176 = 30 then (gonglaw03_StampPoint.l0 k2 t172 a1 (x5_2 ++ (⟨#[48]⟩ : ByteArray)) (wrap64 (x31_2 + 1))) else (some false)) else (gonglaw03_StampPoint.l0 k2 t172 a1 (x5_2 ++ (⟨#[48]⟩ : ByteArray)) (wrap64 (x31_2 + 1))))) else (some false)) else (some false)) else (if (x5_2.size : Int) = 20 then (if t176 = 30 then (gonglaw03_StampPoint.l0 k2 t172 a1 (x5_2 ++ (⟨#[48]⟩ : ByteArray)) (wrap64 (x31_2 + 1))) else (some false)) else (if (x5_2.size : Int) > 29 then (if t176 = 30 then (gonglaw03_StampPoint.l0 k2 t172 a1 (x5_2 ++ (⟨#[48]⟩ : ByteArray)) (wrap64 (x31_2 + 1))) else (some false)) else (gonglaw03_StampPoint.l0 k2 t172 a1 (x5_2 ++ (⟨#[48]⟩ : ByteArray)) (wrap64 (x31_2 + 1)))))) else (if (x5_2.size : Int) = 20 then (if t176 = 30 then (gonglaw03_StampPoint.l0 k2 t172 a1 (x5_2 ++ (⟨#[48]⟩ : ByteArray)) (wrap64 (x31_2 + 1))) else (some false)) else (if (x5_2.size : Int) > 29 then (if t176 = 30 then (gonglaw03_StampPoint.l0 k2 t172 a1 (x5_2 ++ (⟨#[48]⟩ : ByteArray)) (wrap64 (x31_2 + 1))) else (some false)) else (gonglaw03_StampPoint.l0 k2 t172 a1 (x5_2 ++ (⟨#[48]⟩ : ByteArray)) (wrap64 (x31_2 + 1)))))) else (if (x5_2.size : Int) = 20 then (if t176 = 30 then (gonglaw03_StampPoint.l0 k2 t172 a1 (x5_2 ++ (⟨#[48]⟩ : ByteArray)) (wrap64 (x31_2 + 1))) else (some false)) else (if (x5_2.size : Int) > 29 then (if t176 = 30 then (gonglaw03_StampPoint.l0 k2 t172 a1 (x5_2 ++ (⟨#[48]⟩ : ByteArray)) (wrap64 (x31_2 + 1))) else (some false)) else (gonglaw03_StampPoint.l0 k2 t172 a1 (x5_2 ++ (⟨#[48]⟩ : ByteArray)) (wrap64 (x31_2 + 1)))))) = some r := H
              have A19 := Aside0.mk A190
              clear A190
              by_cases c20 : x31_2 ≥ t177
              · rw [if_pos c20] at H
                have c20b0 : decide (t177 ≤ x31_2) = true := decide_eq_true c20
                clear c20
                by_cases c21 : (x5_2.size : Int) > 20
                · rw [if_pos c21] at H
                  have c21b0 : decide (20 < (x5_2.size : Int)) = true := decide_eq_true c21
                  have c21b1 : decide (20 < x5_2.size) = true := decide_eq_true (by omega)
                  clear c21
                  by_cases c22 : (x5_2.size : Int) ≤ 29
                  · rw [if_pos c22] at H
                    have c22b0 : decide ((x5_2.size : Int) ≤ 29) = true := decide_eq_true c22
                    have c22b1 : decide (x5_2.size ≤ 29) = true := decide_eq_true (by omega)
                    clear c22
                    by_cases c23 : t176 = 0
                    · rw [if_pos c23] at H
                      have c23b0 : (t176 == 0) = true := beq_iff_eq.mpr c23
                      have c23b1 : (t176 != 0) = false := bne_eq_false_iff_eq.mpr c23
                      clear c23
                      by_cases c24 : t175 = t172
                      · rw [if_pos c24] at H
                        have c24b0 : (t175 == t172) = true := beq_iff_eq.mpr c24
                        have c24b1 : (t175 != t172) = false := bne_eq_false_iff_eq.mpr c24
                        clear c24
                        by_cases c25 : (x5_2.size : Int) = 20
                        · rw [if_pos c25] at H
                          have c25b0 : ((x5_2.size : Int) == 20) = true := beq_iff_eq.mpr c25
                          have c25b1 : ((x5_2.size : Int) != 20) = false := bne_eq_false_iff_eq.mpr c25
                          clear c25
                          by_cases c26 : t176 = 30
                          · rw [if_pos c26] at H
                            have c26b0 : (t176 == 30) = true := beq_iff_eq.mpr c26
                            have c26b1 : (t176 != 30) = false := bne_eq_false_iff_eq.mpr c26
                            clear c26
                            have H' := Aside0.mk H
                            clear H
                            go_wp2_with (first | ((with_reducible refine gate_callee (f := 13) rfl ?_); refine goesL_ (some 37) rfl rfl Tryd.func13 (by kernel_rfl) rfl #[.string (x5_2 ++ (⟨#[90]⟩ : ByteArray))] rfl (by (try simp only [List.map_toArray, List.map_cons, List.map_nil]); first | done | rfl | (simp only [List.length_drop, List.length_take]; rfl)) ?_; (with_reducible refine (stamp_Parse.calls k2 (x5_2 ++ (⟨#[90]⟩ : ByteArray)) t175 t176 _ ?side1 A18.out).mono ?_); (case side1 => first | exact HGl.out | exact HGl.out.below (by repeat (first | (with_reducible first | exact HB.out | apply below_alloc | apply pw_below_drewN | apply below_drew1) | exact HB.out | exact Below.refl _ _))); rintro e w27 ⟨rfl, hb⟩; refine ⟨_, rfl, ?_⟩; have n0_ := Aside0.mk (below_step (by repeat (first | (with_reducible first | exact HB.out | apply below_alloc | apply pw_below_drewN | apply below_drew1) | exact HB.out)) hb); clear HB; have HB := n0_; clear n0_; (try clear hb); (try clear hb2); (try clear hk); (try clear hi)) | ((with_reducible refine gate_callee (f := 17) rfl ?_); refine goesL_ (some 42) rfl rfl Tryd.func17 (by kernel_rfl) rfl #[.int .i64 a1, .int .i64 10] rfl (by (try simp only [List.map_toArray, List.map_cons, List.map_nil]); first | done | rfl | (simp only [List.length_drop, List.length_take]; rfl)) ?_; (with_reducible refine (gongbook_Below.calls a1 10 t177 _ A19.out).mono ?_); rintro e w' ⟨rfl, ⟨nd, rfl⟩⟩; refine ⟨_, rfl, ?_⟩))
                            go_roundg k2
                            case measure => have := HJ10.out; have := HK2.out; omega
                            case rel => exact ⟨(x5_2 ++ (⟨#[48]⟩ : ByteArray)), (wrap64 (x31_2 + 1)), (by first | rfl | (simp; done) | (simp [*]; done) | (simp [*]; exact isEmpty_bne _) | (simp; exact isEmpty_bne _)), (by first | rfl | (simp; done) | (simp [*]; done) | (simp [*]; exact isEmpty_bne _) | (simp; exact isEmpty_bne _)), H', ⟨by have := HJ10.out; have := HK2.out; omega⟩, ⟨by repeat (first | (with_reducible first | exact HB.out | apply below_alloc | apply pw_below_drewN | apply below_drew1) | exact HB.out)⟩⟩
                          · rw [if_neg c26] at H
                            have c26b0 : (t176 == 30) = false := beq_eq_false_iff_ne.mpr c26
                            have c26b1 : (t176 != 30) = true := bne_iff_ne.mpr c26
                            obtain rfl := Option.some.inj H
                            go_wp2_with (first | ((with_reducible refine gate_callee (f := 13) rfl ?_); refine goesL_ (some 37) rfl rfl Tryd.func13 (by kernel_rfl) rfl #[.string (x5_2 ++ (⟨#[90]⟩ : ByteArray))] rfl (by (try simp only [List.map_toArray, List.map_cons, List.map_nil]); first | done | rfl | (simp only [List.length_drop, List.length_take]; rfl)) ?_; (with_reducible refine (stamp_Parse.calls k2 (x5_2 ++ (⟨#[90]⟩ : ByteArray)) t175 t176 _ ?side1 A18.out).mono ?_); (case side1 => first | exact HGl.out | exact HGl.out.below (by repeat (first | (with_reducible first | exact HB.out | apply below_alloc | apply pw_below_drewN | apply below_drew1) | exact HB.out | exact Below.refl _ _))); rintro e w28 ⟨rfl, hb⟩; refine ⟨_, rfl, ?_⟩; have n0_ := Aside0.mk (below_step (by repeat (first | (with_reducible first | exact HB.out | apply below_alloc | apply pw_below_drewN | apply below_drew1) | exact HB.out)) hb); clear HB; have HB := n0_; clear n0_; (try clear hb); (try clear hb2); (try clear hk); (try clear hi)) | ((with_reducible refine gate_callee (f := 17) rfl ?_); refine goesL_ (some 42) rfl rfl Tryd.func17 (by kernel_rfl) rfl #[.int .i64 a1, .int .i64 10] rfl (by (try simp only [List.map_toArray, List.map_cons, List.map_nil]); first | done | rfl | (simp only [List.length_drop, List.length_take]; rfl)) ?_; (with_reducible refine (gongbook_Below.calls a1 10 t177 _ A19.out).mono ?_); rintro e w' ⟨rfl, ⟨nd, rfl⟩⟩; refine ⟨_, rfl, ?_⟩))
                            go_ret
                            exact ⟨by first | rfl | (simp only [i64_w, i32_w]; rfl) | (simp [errW_none, errW_some] <;> rfl) | (simp only [← hji8]; first | rfl | (simp [errW_none, errW_some] <;> rfl)) | (simp [*, errW_none, errW_some] <;> rfl), by repeat (first | (with_reducible first | exact HB.out | apply below_alloc | apply pw_below_drewN | apply below_drew1) | exact HB.out)⟩
                        · rw [if_neg c25] at H
                          have c25b0 : ((x5_2.size : Int) == 20) = false := beq_eq_false_iff_ne.mpr c25
                          have c25b1 : ((x5_2.size : Int) != 20) = true := bne_iff_ne.mpr c25
                          by_cases c29 : (x5_2.size : Int) > 29
                          · rw [if_pos c29] at H
                            have c29b0 : decide (29 < (x5_2.size : Int)) = true := decide_eq_true c29
                            have c29b1 : decide (29 < x5_2.size) = true := decide_eq_true (by omega)
                            clear c29
                            by_cases c30 : t176 = 30
                            · rw [if_pos c30] at H
                              have c30b0 : (t176 == 30) = true := beq_iff_eq.mpr c30
                              have c30b1 : (t176 != 30) = false := bne_eq_false_iff_eq.mpr c30
                              clear c30
                              have H' := Aside0.mk H
                              clear H
                              go_wp2_with (first | ((with_reducible refine gate_callee (f := 13) rfl ?_); refine goesL_ (some 37) rfl rfl Tryd.func13 (by kernel_rfl) rfl #[.string (x5_2 ++ (⟨#[90]⟩ : ByteArray))] rfl (by (try simp only [List.map_toArray, List.map_cons, List.map_nil]); first | done | rfl | (simp only [List.length_drop, List.length_take]; rfl)) ?_; (with_reducible refine (stamp_Parse.calls k2 (x5_2 ++ (⟨#[90]⟩ : ByteArray)) t175 t176 _ ?side1 A18.out).mono ?_); (case side1 => first | exact HGl.out | exact HGl.out.below (by repeat (first | (with_reducible first | exact HB.out | apply below_alloc | apply pw_below_drewN | apply below_drew1) | exact HB.out | exact Below.refl _ _))); rintro e w31 ⟨rfl, hb⟩; refine ⟨_, rfl, ?_⟩; have n0_ := Aside0.mk (below_step (by repeat (first | (with_reducible first | exact HB.out | apply below_alloc | apply pw_below_drewN | apply below_drew1) | exact HB.out)) hb); clear HB; have HB := n0_; clear n0_; (try clear hb); (try clear hb2); (try clear hk); (try clear hi)) | ((with_reducible refine gate_callee (f := 17) rfl ?_); refine goesL_ (some 42) rfl rfl Tryd.func17 (by kernel_rfl) rfl #[.int .i64 a1, .int .i64 10] rfl (by (try simp only [List.map_toArray, List.map_cons, List.map_nil]); first | done | rfl | (simp only [List.length_drop, List.length_take]; rfl)) ?_; (with_reducible refine (gongbook_Below.calls a1 10 t177 _ A19.out).mono ?_); rintro e w' ⟨rfl, ⟨nd, rfl⟩⟩; refine ⟨_, rfl, ?_⟩))
                              go_roundg k2
                              case measure => have := HJ10.out; have := HK2.out; omega
                              case rel => exact ⟨(x5_2 ++ (⟨#[48]⟩ : ByteArray)), (wrap64 (x31_2 + 1)), (by first | rfl | (simp; done) | (simp [*]; done) | (simp [*]; exact isEmpty_bne _) | (simp; exact isEmpty_bne _)), (by first | rfl | (simp; done) | (simp [*]; done) | (simp [*]; exact isEmpty_bne _) | (simp; exact isEmpty_bne _)), H', ⟨by have := HJ10.out; have := HK2.out; omega⟩, ⟨by repeat (first | (with_reducible first | exact HB.out | apply below_alloc | apply pw_below_drewN | apply below_drew1) | exact HB.out)⟩⟩
                            · rw [if_neg c30] at H
                              have c30b0 : (t176 == 30) = false := beq_eq_false_iff_ne.mpr c30
                              have c30b1 : (t176 != 30) = true := bne_iff_ne.mpr c30
                              obtain rfl := Option.some.inj H
                              go_wp2_with (first | ((with_reducible refine gate_callee (f := 13) rfl ?_); refine goesL_ (some 37) rfl rfl Tryd.func13 (by kernel_rfl) rfl #[.string (x5_2 ++ (⟨#[90]⟩ : ByteArray))] rfl (by (try simp only [List.map_toArray, List.map_cons, List.map_nil]); first | done | rfl | (simp only [List.length_drop, List.length_take]; rfl)) ?_; (with_reducible refine (stamp_Parse.calls k2 (x5_2 ++ (⟨#[90]⟩ : ByteArray)) t175 t176 _ ?side1 A18.out).mono ?_); (case side1 => first | exact HGl.out | exact HGl.out.below (by repeat (first | (with_reducible first | exact HB.out | apply below_alloc | apply pw_below_drewN | apply below_drew1) | exact HB.out | exact Below.refl _ _))); rintro e w32 ⟨rfl, hb⟩; refine ⟨_, rfl, ?_⟩; have n0_ := Aside0.mk (below_step (by repeat (first | (with_reducible first | exact HB.out | apply below_alloc | apply pw_below_drewN | apply below_drew1) | exact HB.out)) hb); clear HB; have HB := n0_; clear n0_; (try clear hb); (try clear hb2); (try clear hk); (try clear hi)) | ((with_reducible refine gate_callee (f := 17) rfl ?_); refine goesL_ (some 42) rfl rfl Tryd.func17 (by kernel_rfl) rfl #[.int .i64 a1, .int .i64 10] rfl (by (try simp only [List.map_toArray, List.map_cons, List.map_nil]); first | done | rfl | (simp only [List.length_drop, List.length_take]; rfl)) ?_; (with_reducible refine (gongbook_Below.calls a1 10 t177 _ A19.out).mono ?_); rintro e w' ⟨rfl, ⟨nd, rfl⟩⟩; refine ⟨_, rfl, ?_⟩))
                              go_ret
                              exact ⟨by first | rfl | (simp only [i64_w, i32_w]; rfl) | (simp [errW_none, errW_some] <;> rfl) | (simp only [← hji8]; first | rfl | (simp [errW_none, errW_some] <;> rfl)) | (simp [*, errW_none, errW_some] <;> rfl), by repeat (first | (with_reducible first | exact HB.out | apply below_alloc | apply pw_below_drewN | apply below_drew1) | exact HB.out)⟩
                          · rw [if_neg c29] at H
                            have c29b0 : decide (29 < (x5_2.size : Int)) = false := decide_eq_false c29
                            have c29b1 : decide (29 < x5_2.size) = false := decide_eq_false (by omega)
                            clear c29
                            have H' := Aside0.mk H
                            clear H
                            go_wp2_with (first | ((with_reducible refine gate_callee (f := 13) rfl ?_); refine goesL_ (some 37) rfl rfl Tryd.func13 (by kernel_rfl) rfl #[.string (x5_2 ++ (⟨#[90]⟩ : ByteArray))] rfl (by (try simp only [List.map_toArray, List.map_cons, List.map_nil]); first | done | rfl | (simp only [List.length_drop, List.length_take]; rfl)) ?_; (with_reducible refine (stamp_Parse.calls k2 (x5_2 ++ (⟨#[90]⟩ : ByteArray)) t175 t176 _ ?side1 A18.out).mono ?_); (case side1 => first | exact HGl.out | exact HGl.out.below (by repeat (first | (with_reducible first | exact HB.out | apply below_alloc | apply pw_below_drewN | apply below_drew1) | exact HB.out | exact Below.refl _ _))); rintro e w33 ⟨rfl, hb⟩; refine ⟨_, rfl, ?_⟩; have n0_ := Aside0.mk (below_step (by repeat (first | (with_reducible first | exact HB.out | apply below_alloc | apply pw_below_drewN | apply below_drew1) | exact HB.out)) hb); clear HB; have HB := n0_; clear n0_; (try clear hb); (try clear hb2); (try clear hk); (try clear hi)) | ((with_reducible refine gate_callee (f := 17) rfl ?_); refine goesL_ (some 42) rfl rfl Tryd.func17 (by kernel_rfl) rfl #[.int .i64 a1, .int .i64 10] rfl (by (try simp only [List.map_toArray, List.map_cons, List.map_nil]); first | done | rfl | (simp only [List.length_drop, List.length_take]; rfl)) ?_; (with_reducible refine (gongbook_Below.calls a1 10 t177 _ A19.out).mono ?_); rintro e w' ⟨rfl, ⟨nd, rfl⟩⟩; refine ⟨_, rfl, ?_⟩))
                            go_roundg k2
                            case measure => have := HJ10.out; have := HK2.out; omega
                            case rel => exact ⟨(x5_2 ++ (⟨#[48]⟩ : ByteArray)), (wrap64 (x31_2 + 1)), (by first | rfl | (simp; done) | (simp [*]; done) | (simp [*]; exact isEmpty_bne _) | (simp; exact isEmpty_bne _)), (by first | rfl | (simp; done) | (simp [*]; done) | (simp [*]; exact isEmpty_bne _) | (simp; exact isEmpty_bne _)), H', ⟨by have := HJ10.out; have := HK2.out; omega⟩, ⟨by repeat (first | (with_reducible first | exact HB.out | apply below_alloc | apply pw_below_drewN | apply below_drew1) | exact HB.out)⟩⟩
                      · rw [if_neg c24] at H
                        have c24b0 : (t175 == t172) = false := beq_eq_false_iff_ne.mpr c24
                        have c24b1 : (t175 != t172) = true := bne_iff_ne.mpr c24
                        obtain rfl := Option.some.inj H
                        go_wp2_with (first | ((with_reducible refine gate_callee (f := 13) rfl ?_); refine goesL_ (some 37) rfl rfl Tryd.func13 (by kernel_rfl) rfl #[.string (x5_2 ++ (⟨#[90]⟩ : ByteArray))] rfl (by (try simp only [List.map_toArray, List.map_cons, List.map_nil]); first | done | rfl | (simp only [List.length_drop, List.length_take]; rfl)) ?_; (with_reducible refine (stamp_Parse.calls k2 (x5_2 ++ (⟨#[90]⟩ : ByteArray)) t175 t176 _ ?side1 A18.out).mono ?_); (case side1 => first | exact HGl.out | exact HGl.out.below (by repeat (first | (with_reducible first | exact HB.out | apply below_alloc | apply pw_below_drewN | apply below_drew1) | exact HB.out | exact Below.refl _ _))); rintro e w34 ⟨rfl, hb⟩; refine ⟨_, rfl, ?_⟩; have n0_ := Aside0.mk (below_step (by repeat (first | (with_reducible first | exact HB.out | apply below_alloc | apply pw_below_drewN | apply below_drew1) | exact HB.out)) hb); clear HB; have HB := n0_; clear n0_; (try clear hb); (try clear hb2); (try clear hk); (try clear hi)) | ((with_reducible refine gate_callee (f := 17) rfl ?_); refine goesL_ (some 42) rfl rfl Tryd.func17 (by kernel_rfl) rfl #[.int .i64 a1, .int .i64 10] rfl (by (try simp only [List.map_toArray, List.map_cons, List.map_nil]); first | done | rfl | (simp only [List.length_drop, List.length_take]; rfl)) ?_; (with_reducible refine (gongbook_Below.calls a1 10 t177 _ A19.out).mono ?_); rintro e w' ⟨rfl, ⟨nd, rfl⟩⟩; refine ⟨_, rfl, ?_⟩))
                        go_ret
                        exact ⟨by first | rfl | (simp only [i64_w, i32_w]; rfl) | (simp [errW_none, errW_some] <;> rfl) | (simp only [← hji8]; first | rfl | (simp [errW_none, errW_some] <;> rfl)) | (simp [*, errW_none, errW_some] <;> rfl), by repeat (first | (with_reducible first | exact HB.out | apply below_alloc | apply pw_below_drewN | apply below_drew1) | exact HB.out)⟩
                    · rw [if_neg c23] at H
                      have c23b0 : (t176 == 0) = false := beq_eq_false_iff_ne.mpr c23
                      have c23b1 : (t176 != 0) = true := bne_iff_ne.mpr c23
                      obtain rfl := Option.some.inj H
                      go_wp2_with (first | ((with_reducible refine gate_callee (f := 13) rfl ?_); refine goesL_ (some 37) rfl rfl Tryd.func13 (by kernel_rfl) rfl #[.string (x5_2 ++ (⟨#[90]⟩ : ByteArray))] rfl (by (try simp only [List.map_toArray, List.map_cons, List.map_nil]); first | done | rfl | (simp only [List.length_drop, List.length_take]; rfl)) ?_; (with_reducible refine (stamp_Parse.calls k2 (x5_2 ++ (⟨#[90]⟩ : ByteArray)) t175 t176 _ ?side1 A18.out).mono ?_); (case side1 => first | exact HGl.out | exact HGl.out.below (by repeat (first | (with_reducible first | exact HB.out | apply below_alloc | apply pw_below_drewN | apply below_drew1) | exact HB.out | exact Below.refl _ _))); rintro e w35 ⟨rfl, hb⟩; refine ⟨_, rfl, ?_⟩; have n0_ := Aside0.mk (below_step (by repeat (first | (with_reducible first | exact HB.out | apply below_alloc | apply pw_below_drewN | apply below_drew1) | exact HB.out)) hb); clear HB; have HB := n0_; clear n0_; (try clear hb); (try clear hb2); (try clear hk); (try clear hi)) | ((with_reducible refine gate_callee (f := 17) rfl ?_); refine goesL_ (some 42) rfl rfl Tryd.func17 (by kernel_rfl) rfl #[.int .i64 a1, .int .i64 10] rfl (by (try simp only [List.map_toArray, List.map_cons, List.map_nil]); first | done | rfl | (simp only [List.length_drop, List.length_take]; rfl)) ?_; (with_reducible refine (gongbook_Below.calls a1 10 t177 _ A19.out).mono ?_); rintro e w' ⟨rfl, ⟨nd, rfl⟩⟩; refine ⟨_, rfl, ?_⟩))
                      go_ret
                      exact ⟨by first | rfl | (simp only [i64_w, i32_w]; rfl) | (simp [errW_none, errW_some] <;> rfl) | (simp only [← hji8]; first | rfl | (simp [errW_none, errW_some] <;> rfl)) | (simp [*, errW_none, errW_some] <;> rfl), by repeat (first | (with_reducible first | exact HB.out | apply below_alloc | apply pw_below_drewN | apply below_drew1) | exact HB.out)⟩
                  · rw [if_neg c22] at H
                    have c22b0 : decide ((x5_2.size : Int) ≤ 29) = false := decide_eq_false c22
                    have c22b1 : decide (x5_2.size ≤ 29) = false := decide_eq_false (by omega)
                    clear c22
                    by_cases c36 : (x5_2.size : Int) = 20
                    · rw [if_pos c36] at H
                      have c36b0 : ((x5_2.size : Int) == 20) = true := beq_iff_eq.mpr c36
                      have c36b1 : ((x5_2.size : Int) != 20) = false := bne_eq_false_iff_eq.mpr c36
                      clear c36
                      by_cases c37 : t176 = 30
                      · rw [if_pos c37] at H
                        have c37b0 : (t176 == 30) = true := beq_iff_eq.mpr c37
                        have c37b1 : (t176 != 30) = false := bne_eq_false_iff_eq.mpr c37
                        clear c37
                        have H' := Aside0.mk H
                        clear H
                        go_wp2_with (first | ((with_reducible refine gate_callee (f := 13) rfl ?_); refine goesL_ (some 37) rfl rfl Tryd.func13 (by kernel_rfl) rfl #[.string (x5_2 ++ (⟨#[90]⟩ : ByteArray))] rfl (by (try simp only [List.map_toArray, List.map_cons, List.map_nil]); first | done | rfl | (simp only [List.length_drop, List.length_take]; rfl)) ?_; (with_reducible refine (stamp_Parse.calls k2 (x5_2 ++ (⟨#[90]⟩ : ByteArray)) t175 t176 _ ?side1 A18.out).mono ?_); (case side1 => first | exact HGl.out | exact HGl.out.below (by repeat (first | (with_reducible first | exact HB.out | apply below_alloc | apply pw_below_drewN | apply below_drew1) | exact HB.out | exact Below.refl _ _))); rintro e w38 ⟨rfl, hb⟩; refine ⟨_, rfl, ?_⟩; have n0_ := Aside0.mk (below_step (by repeat (first | (with_reducible first | exact HB.out | apply below_alloc | apply pw_below_drewN | apply below_drew1) | exact HB.out)) hb); clear HB; have HB := n0_; clear n0_; (try clear hb); (try clear hb2); (try clear hk); (try clear hi)) | ((with_reducible refine gate_callee (f := 17) rfl ?_); refine goesL_ (some 42) rfl rfl Tryd.func17 (by kernel_rfl) rfl #[.int .i64 a1, .int .i64 10] rfl (by (try simp only [List.map_toArray, List.map_cons, List.map_nil]); first | done | rfl | (simp only [List.length_drop, List.length_take]; rfl)) ?_; (with_reducible refine (gongbook_Below.calls a1 10 t177 _ A19.out).mono ?_); rintro e w' ⟨rfl, ⟨nd, rfl⟩⟩; refine ⟨_, rfl, ?_⟩))
                        go_roundg k2
                        case measure => have := HJ10.out; have := HK2.out; omega
                        case rel => exact ⟨(x5_2 ++ (⟨#[48]⟩ : ByteArray)), (wrap64 (x31_2 + 1)), (by first | rfl | (simp; done) | (simp [*]; done) | (simp [*]; exact isEmpty_bne _) | (simp; exact isEmpty_bne _)), (by first | rfl | (simp; done) | (simp [*]; done) | (simp [*]; exact isEmpty_bne _) | (simp; exact isEmpty_bne _)), H', ⟨by have := HJ10.out; have := HK2.out; omega⟩, ⟨by repeat (first | (with_reducible first | exact HB.out | apply below_alloc | apply pw_below_drewN | apply below_drew1) | exact HB.out)⟩⟩
                      · rw [if_neg c37] at H
                        have c37b0 : (t176 == 30) = false := beq_eq_false_iff_ne.mpr c37
                        have c37b1 : (t176 != 30) = true := bne_iff_ne.mpr c37
                        obtain rfl := Option.some.inj H
                        go_wp2_with (first | ((with_reducible refine gate_callee (f := 13) rfl ?_); refine goesL_ (some 37) rfl rfl Tryd.func13 (by kernel_rfl) rfl #[.string (x5_2 ++ (⟨#[90]⟩ : ByteArray))] rfl (by (try simp only [List.map_toArray, List.map_cons, List.map_nil]); first | done | rfl | (simp only [List.length_drop, List.length_take]; rfl)) ?_; (with_reducible refine (stamp_Parse.calls k2 (x5_2 ++ (⟨#[90]⟩ : ByteArray)) t175 t176 _ ?side1 A18.out).mono ?_); (case side1 => first | exact HGl.out | exact HGl.out.below (by repeat (first | (with_reducible first | exact HB.out | apply below_alloc | apply pw_below_drewN | apply below_drew1) | exact HB.out | exact Below.refl _ _))); rintro e w39 ⟨rfl, hb⟩; refine ⟨_, rfl, ?_⟩; have n0_ := Aside0.mk (below_step (by repeat (first | (with_reducible first | exact HB.out | apply below_alloc | apply pw_below_drewN | apply below_drew1) | exact HB.out)) hb); clear HB; have HB := n0_; clear n0_; (try clear hb); (try clear hb2); (try clear hk); (try clear hi)) | ((with_reducible refine gate_callee (f := 17) rfl ?_); refine goesL_ (some 42) rfl rfl Tryd.func17 (by kernel_rfl) rfl #[.int .i64 a1, .int .i64 10] rfl (by (try simp only [List.map_toArray, List.map_cons, List.map_nil]); first | done | rfl | (simp only [List.length_drop, List.length_take]; rfl)) ?_; (with_reducible refine (gongbook_Below.calls a1 10 t177 _ A19.out).mono ?_); rintro e w' ⟨rfl, ⟨nd, rfl⟩⟩; refine ⟨_, rfl, ?_⟩))
                        go_ret
                        exact ⟨by first | rfl | (simp only [i64_w, i32_w]; rfl) | (simp [errW_none, errW_some] <;> rfl) | (simp only [← hji8]; first | rfl | (simp [errW_none, errW_some] <;> rfl)) | (simp [*, errW_none, errW_some] <;> rfl), by repeat (first | (with_reducible first | exact HB.out | apply below_alloc | apply pw_below_drewN | apply below_drew1) | exact HB.out)⟩
                    · rw [if_neg c36] at H
                      have c36b0 : ((x5_2.size : Int) == 20) = false := beq_eq_false_iff_ne.mpr c36
                      have c36b1 : ((x5_2.size : Int) != 20) = true := bne_iff_ne.mpr c36
                      by_cases c40 : (x5_2.size : Int) > 29
                      · rw [if_pos c40] at H
                        have c40b0 : decide (29 < (x5_2.size : Int)) = true := decide_eq_true c40
                        have c40b1 : decide (29 < x5_2.size) = true := decide_eq_true (by omega)
                        clear c40
                        by_cases c41 : t176 = 30
                        · rw [if_pos c41] at H
                          have c41b0 : (t176 == 30) = true := beq_iff_eq.mpr c41
                          have c41b1 : (t176 != 30) = false := bne_eq_false_iff_eq.mpr c41
                          clear c41
                          have H' := Aside0.mk H
                          clear H
                          go_wp2_with (first | ((with_reducible refine gate_callee (f := 13) rfl ?_); refine goesL_ (some 37) rfl rfl Tryd.func13 (by kernel_rfl) rfl #[.string (x5_2 ++ (⟨#[90]⟩ : ByteArray))] rfl (by (try simp only [List.map_toArray, List.map_cons, List.map_nil]); first | done | rfl | (simp only [List.length_drop, List.length_take]; rfl)) ?_; (with_reducible refine (stamp_Parse.calls k2 (x5_2 ++ (⟨#[90]⟩ : ByteArray)) t175 t176 _ ?side1 A18.out).mono ?_); (case side1 => first | exact HGl.out | exact HGl.out.below (by repeat (first | (with_reducible first | exact HB.out | apply below_alloc | apply pw_below_drewN | apply below_drew1) | exact HB.out | exact Below.refl _ _))); rintro e w42 ⟨rfl, hb⟩; refine ⟨_, rfl, ?_⟩; have n0_ := Aside0.mk (below_step (by repeat (first | (with_reducible first | exact HB.out | apply below_alloc | apply pw_below_drewN | apply below_drew1) | exact HB.out)) hb); clear HB; have HB := n0_; clear n0_; (try clear hb); (try clear hb2); (try clear hk); (try clear hi)) | ((with_reducible refine gate_callee (f := 17) rfl ?_); refine goesL_ (some 42) rfl rfl Tryd.func17 (by kernel_rfl) rfl #[.int .i64 a1, .int .i64 10] rfl (by (try simp only [List.map_toArray, List.map_cons, List.map_nil]); first | done | rfl | (simp only [List.length_drop, List.length_take]; rfl)) ?_; (with_reducible refine (gongbook_Below.calls a1 10 t177 _ A19.out).mono ?_); rintro e w' ⟨rfl, ⟨nd, rfl⟩⟩; refine ⟨_, rfl, ?_⟩))
                          go_roundg k2
                          case measure => have := HJ10.out; have := HK2.out; omega
                          case rel => exact ⟨(x5_2 ++ (⟨#[48]⟩ : ByteArray)), (wrap64 (x31_2 + 1)), (by first | rfl | (simp; done) | (simp [*]; done) | (simp [*]; exact isEmpty_bne _) | (simp; exact isEmpty_bne _)), (by first | rfl | (simp; done) | (simp [*]; done) | (simp [*]; exact isEmpty_bne _) | (simp; exact isEmpty_bne _)), H', ⟨by have := HJ10.out; have := HK2.out; omega⟩, ⟨by repeat (first | (with_reducible first | exact HB.out | apply below_alloc | apply pw_below_drewN | apply below_drew1) | exact HB.out)⟩⟩
                        · rw [if_neg c41] at H
                          have c41b0 : (t176 == 30) = false := beq_eq_false_iff_ne.mpr c41
                          have c41b1 : (t176 != 30) = true := bne_iff_ne.mpr c41
                          obtain rfl := Option.some.inj H
                          go_wp2_with (first | ((with_reducible refine gate_callee (f := 13) rfl ?_); refine goesL_ (some 37) rfl rfl Tryd.func13 (by kernel_rfl) rfl #[.string (x5_2 ++ (⟨#[90]⟩ : ByteArray))] rfl (by (try simp only [List.map_toArray, List.map_cons, List.map_nil]); first | done | rfl | (simp only [List.length_drop, List.length_take]; rfl)) ?_; (with_reducible refine (stamp_Parse.calls k2 (x5_2 ++ (⟨#[90]⟩ : ByteArray)) t175 t176 _ ?side1 A18.out).mono ?_); (case side1 => first | exact HGl.out | exact HGl.out.below (by repeat (first | (with_reducible first | exact HB.out | apply below_alloc | apply pw_below_drewN | apply below_drew1) | exact HB.out | exact Below.refl _ _))); rintro e w43 ⟨rfl, hb⟩; refine ⟨_, rfl, ?_⟩; have n0_ := Aside0.mk (below_step (by repeat (first | (with_reducible first | exact HB.out | apply below_alloc | apply pw_below_drewN | apply below_drew1) | exact HB.out)) hb); clear HB; have HB := n0_; clear n0_; (try clear hb); (try clear hb2); (try clear hk); (try clear hi)) | ((with_reducible refine gate_callee (f := 17) rfl ?_); refine goesL_ (some 42) rfl rfl Tryd.func17 (by kernel_rfl) rfl #[.int .i64 a1, .int .i64 10] rfl (by (try simp only [List.map_toArray, List.map_cons, List.map_nil]); first | done | rfl | (simp only [List.length_drop, List.length_take]; rfl)) ?_; (with_reducible refine (gongbook_Below.calls a1 10 t177 _ A19.out).mono ?_); rintro e w' ⟨rfl, ⟨nd, rfl⟩⟩; refine ⟨_, rfl, ?_⟩))
                          go_ret
                          exact ⟨by first | rfl | (simp only [i64_w, i32_w]; rfl) | (simp [errW_none, errW_some] <;> rfl) | (simp only [← hji8]; first | rfl | (simp [errW_none, errW_some] <;> rfl)) | (simp [*, errW_none, errW_some] <;> rfl), by repeat (first | (with_reducible first | exact HB.out | apply below_alloc | apply pw_below_drewN | apply below_drew1) | exact HB.out)⟩
                      · rw [if_neg c40] at H
                        have c40b0 : decide (29 < (x5_2.size : Int)) = false := decide_eq_false c40
                        have c40b1 : decide (29 < x5_2.size) = false := decide_eq_false (by omega)
                        clear c40
                        have H' := Aside0.mk H
                        clear H
                        go_wp2_with (first | ((with_reducible refine gate_callee (f := 13) rfl ?_); refine goesL_ (some 37) rfl rfl Tryd.func13 (by kernel_rfl) rfl #[.string (x5_2 ++ (⟨#[90]⟩ : ByteArray))] rfl (by (try simp only [List.map_toArray, List.map_cons, List.map_nil]); first | done | rfl | (simp only [List.length_drop, List.length_take]; rfl)) ?_; (with_reducible refine (stamp_Parse.calls k2 (x5_2 ++ (⟨#[90]⟩ : ByteArray)) t175 t176 _ ?side1 A18.out).mono ?_); (case side1 => first | exact HGl.out | exact HGl.out.below (by repeat (first | (with_reducible first | exact HB.out | apply below_alloc | apply pw_below_drewN | apply below_drew1) | exact HB.out | exact Below.refl _ _))); rintro e w44 ⟨rfl, hb⟩; refine ⟨_, rfl, ?_⟩; have n0_ := Aside0.mk (below_step (by repeat (first | (with_reducible first | exact HB.out | apply below_alloc | apply pw_below_drewN | apply below_drew1) | exact HB.out)) hb); clear HB; have HB := n0_; clear n0_; (try clear hb); (try clear hb2); (try clear hk); (try clear hi)) | ((with_reducible refine gate_callee (f := 17) rfl ?_); refine goesL_ (some 42) rfl rfl Tryd.func17 (by kernel_rfl) rfl #[.int .i64 a1, .int .i64 10] rfl (by (try simp only [List.map_toArray, List.map_cons, List.map_nil]); first | done | rfl | (simp only [List.length_drop, List.length_take]; rfl)) ?_; (with_reducible refine (gongbook_Below.calls a1 10 t177 _ A19.out).mono ?_); rintro e w' ⟨rfl, ⟨nd, rfl⟩⟩; refine ⟨_, rfl, ?_⟩))
                        go_roundg k2
                        case measure => have := HJ10.out; have := HK2.out; omega
                        case rel => exact ⟨(x5_2 ++ (⟨#[48]⟩ : ByteArray)), (wrap64 (x31_2 + 1)), (by first | rfl | (simp; done) | (simp [*]; done) | (simp [*]; exact isEmpty_bne _) | (simp; exact isEmpty_bne _)), (by first | rfl | (simp; done) | (simp [*]; done) | (simp [*]; exact isEmpty_bne _) | (simp; exact isEmpty_bne _)), H', ⟨by have := HJ10.out; have := HK2.out; omega⟩, ⟨by repeat (first | (with_reducible first | exact HB.out | apply below_alloc | apply pw_below_drewN | apply below_drew1) | exact HB.out)⟩⟩
                · rw [if_neg c21] at H
                  have c21b0 : decide (20 < (x5_2.size : Int)) = false := decide_eq_false c21
                  have c21b1 : decide (20 < x5_2.size) = false := decide_eq_false (by omega)
                  clear c21
                  by_cases c45 : (x5_2.size : Int) = 20
                  · rw [if_pos c45] at H
                    have c45b0 : ((x5_2.size : Int) == 20) = true := beq_iff_eq.mpr c45
                    have c45b1 : ((x5_2.size : Int) != 20) = false := bne_eq_false_iff_eq.mpr c45
                    clear c45
                    by_cases c46 : t176 = 30
                    · rw [if_pos c46] at H
                      have c46b0 : (t176 == 30) = true := beq_iff_eq.mpr c46
                      have c46b1 : (t176 != 30) = false := bne_eq_false_iff_eq.mpr c46
                      clear c46
                      have H' := Aside0.mk H
                      clear H
                      go_wp2_with (first | ((with_reducible refine gate_callee (f := 13) rfl ?_); refine goesL_ (some 37) rfl rfl Tryd.func13 (by kernel_rfl) rfl #[.string (x5_2 ++ (⟨#[90]⟩ : ByteArray))] rfl (by (try simp only [List.map_toArray, List.map_cons, List.map_nil]); first | done | rfl | (simp only [List.length_drop, List.length_take]; rfl)) ?_; (with_reducible refine (stamp_Parse.calls k2 (x5_2 ++ (⟨#[90]⟩ : ByteArray)) t175 t176 _ ?side1 A18.out).mono ?_); (case side1 => first | exact HGl.out | exact HGl.out.below (by repeat (first | (with_reducible first | exact HB.out | apply below_alloc | apply pw_below_drewN | apply below_drew1) | exact HB.out | exact Below.refl _ _))); rintro e w47 ⟨rfl, hb⟩; refine ⟨_, rfl, ?_⟩; have n0_ := Aside0.mk (below_step (by repeat (first | (with_reducible first | exact HB.out | apply below_alloc | apply pw_below_drewN | apply below_drew1) | exact HB.out)) hb); clear HB; have HB := n0_; clear n0_; (try clear hb); (try clear hb2); (try clear hk); (try clear hi)) | ((with_reducible refine gate_callee (f := 17) rfl ?_); refine goesL_ (some 42) rfl rfl Tryd.func17 (by kernel_rfl) rfl #[.int .i64 a1, .int .i64 10] rfl (by (try simp only [List.map_toArray, List.map_cons, List.map_nil]); first | done | rfl | (simp only [List.length_drop, List.length_take]; rfl)) ?_; (with_reducible refine (gongbook_Below.calls a1 10 t177 _ A19.out).mono ?_); rintro e w' ⟨rfl, ⟨nd, rfl⟩⟩; refine ⟨_, rfl, ?_⟩))
                      go_roundg k2
                      case measure => have := HJ10.out; have := HK2.out; omega
                      case rel => exact ⟨(x5_2 ++ (⟨#[48]⟩ : ByteArray)), (wrap64 (x31_2 + 1)), (by first | rfl | (simp; done) | (simp [*]; done) | (simp [*]; exact isEmpty_bne _) | (simp; exact isEmpty_bne _)), (by first | rfl | (simp; done) | (simp [*]; done) | (simp [*]; exact isEmpty_bne _) | (simp; exact isEmpty_bne _)), H', ⟨by have := HJ10.out; have := HK2.out; omega⟩, ⟨by repeat (first | (with_reducible first | exact HB.out | apply below_alloc | apply pw_below_drewN | apply below_drew1) | exact HB.out)⟩⟩
                    · rw [if_neg c46] at H
                      have c46b0 : (t176 == 30) = false := beq_eq_false_iff_ne.mpr c46
                      have c46b1 : (t176 != 30) = true := bne_iff_ne.mpr c46
                      obtain rfl := Option.some.inj H
                      go_wp2_with (first | ((with_reducible refine gate_callee (f := 13) rfl ?_); refine goesL_ (some 37) rfl rfl Tryd.func13 (by kernel_rfl) rfl #[.string (x5_2 ++ (⟨#[90]⟩ : ByteArray))] rfl (by (try simp only [List.map_toArray, List.map_cons, List.map_nil]); first | done | rfl | (simp only [List.length_drop, List.length_take]; rfl)) ?_; (with_reducible refine (stamp_Parse.calls k2 (x5_2 ++ (⟨#[90]⟩ : ByteArray)) t175 t176 _ ?side1 A18.out).mono ?_); (case side1 => first | exact HGl.out | exact HGl.out.below (by repeat (first | (with_reducible first | exact HB.out | apply below_alloc | apply pw_below_drewN | apply below_drew1) | exact HB.out | exact Below.refl _ _))); rintro e w48 ⟨rfl, hb⟩; refine ⟨_, rfl, ?_⟩; have n0_ := Aside0.mk (below_step (by repeat (first | (with_reducible first | exact HB.out | apply below_alloc | apply pw_below_drewN | apply below_drew1) | exact HB.out)) hb); clear HB; have HB := n0_; clear n0_; (try clear hb); (try clear hb2); (try clear hk); (try clear hi)) | ((with_reducible refine gate_callee (f := 17) rfl ?_); refine goesL_ (some 42) rfl rfl Tryd.func17 (by kernel_rfl) rfl #[.int .i64 a1, .int .i64 10] rfl (by (try simp only [List.map_toArray, List.map_cons, List.map_nil]); first | done | rfl | (simp only [List.length_drop, List.length_take]; rfl)) ?_; (with_reducible refine (gongbook_Below.calls a1 10 t177 _ A19.out).mono ?_); rintro e w' ⟨rfl, ⟨nd, rfl⟩⟩; refine ⟨_, rfl, ?_⟩))
                      go_ret
                      exact ⟨by first | rfl | (simp only [i64_w, i32_w]; rfl) | (simp [errW_none, errW_some] <;> rfl) | (simp only [← hji8]; first | rfl | (simp [errW_none, errW_some] <;> rfl)) | (simp [*, errW_none, errW_some] <;> rfl), by repeat (first | (with_reducible first | exact HB.out | apply below_alloc | apply pw_below_drewN | apply below_drew1) | exact HB.out)⟩
                  · rw [if_neg c45] at H
                    have c45b0 : ((x5_2.size : Int) == 20) = false := beq_eq_false_iff_ne.mpr c45
                    have c45b1 : ((x5_2.size : Int) != 20) = true := bne_iff_ne.mpr c45
                    by_cases c49 : (x5_2.size : Int) > 29
                    · rw [if_pos c49] at H
                      have c49b0 : decide (29 < (x5_2.size : Int)) = true := decide_eq_true c49
                      have c49b1 : decide (29 < x5_2.size) = true := decide_eq_true (by omega)
                      clear c49
                      by_cases c50 : t176 = 30
                      · rw [if_pos c50] at H
                        have c50b0 : (t176 == 30) = true := beq_iff_eq.mpr c50
                        have c50b1 : (t176 != 30) = false := bne_eq_false_iff_eq.mpr c50
                        clear c50
                        have H' := Aside0.mk H
                        clear H
                        go_wp2_with (first | ((with_reducible refine gate_callee (f := 13) rfl ?_); refine goesL_ (some 37) rfl rfl Tryd.func13 (by kernel_rfl) rfl #[.string (x5_2 ++ (⟨#[90]⟩ : ByteArray))] rfl (by (try simp only [List.map_toArray, List.map_cons, List.map_nil]); first | done | rfl | (simp only [List.length_drop, List.length_take]; rfl)) ?_; (with_reducible refine (stamp_Parse.calls k2 (x5_2 ++ (⟨#[90]⟩ : ByteArray)) t175 t176 _ ?side1 A18.out).mono ?_); (case side1 => first | exact HGl.out | exact HGl.out.below (by repeat (first | (with_reducible first | exact HB.out | apply below_alloc | apply pw_below_drewN | apply below_drew1) | exact HB.out | exact Below.refl _ _))); rintro e w51 ⟨rfl, hb⟩; refine ⟨_, rfl, ?_⟩; have n0_ := Aside0.mk (below_step (by repeat (first | (with_reducible first | exact HB.out | apply below_alloc | apply pw_below_drewN | apply below_drew1) | exact HB.out)) hb); clear HB; have HB := n0_; clear n0_; (try clear hb); (try clear hb2); (try clear hk); (try clear hi)) | ((with_reducible refine gate_callee (f := 17) rfl ?_); refine goesL_ (some 42) rfl rfl Tryd.func17 (by kernel_rfl) rfl #[.int .i64 a1, .int .i64 10] rfl (by (try simp only [List.map_toArray, List.map_cons, List.map_nil]); first | done | rfl | (simp only [List.length_drop, List.length_take]; rfl)) ?_; (with_reducible refine (gongbook_Below.calls a1 10 t177 _ A19.out).mono ?_); rintro e w' ⟨rfl, ⟨nd, rfl⟩⟩; refine ⟨_, rfl, ?_⟩))
                        go_roundg k2
                        case measure => have := HJ10.out; have := HK2.out; omega
                        case rel => exact ⟨(x5_2 ++ (⟨#[48]⟩ : ByteArray)), (wrap64 (x31_2 + 1)), (by first | rfl | (simp; done) | (simp [*]; done) | (simp [*]; exact isEmpty_bne _) | (simp; exact isEmpty_bne _)), (by first | rfl | (simp; done) | (simp [*]; done) | (simp [*]; exact isEmpty_bne _) | (simp; exact isEmpty_bne _)), H', ⟨by have := HJ10.out; have := HK2.out; omega⟩, ⟨by repeat (first | (with_reducible first | exact HB.out | apply below_alloc | apply pw_below_drewN | apply below_drew1) | exact HB.out)⟩⟩
                      · rw [if_neg c50] at H
                        have c50b0 : (t176 == 30) = false := beq_eq_false_iff_ne.mpr c50
                        have c50b1 : (t176 != 30) = true := bne_iff_ne.mpr c50
                        obtain rfl := Option.some.inj H
                        go_wp2_with (first | ((with_reducible refine gate_callee (f := 13) rfl ?_); refine goesL_ (some 37) rfl rfl Tryd.func13 (by kernel_rfl) rfl #[.string (x5_2 ++ (⟨#[90]⟩ : ByteArray))] rfl (by (try simp only [List.map_toArray, List.map_cons, List.map_nil]); first | done | rfl | (simp only [List.length_drop, List.length_take]; rfl)) ?_; (with_reducible refine (stamp_Parse.calls k2 (x5_2 ++ (⟨#[90]⟩ : ByteArray)) t175 t176 _ ?side1 A18.out).mono ?_); (case side1 => first | exact HGl.out | exact HGl.out.below (by repeat (first | (with_reducible first | exact HB.out | apply below_alloc | apply pw_below_drewN | apply below_drew1) | exact HB.out | exact Below.refl _ _))); rintro e w52 ⟨rfl, hb⟩; refine ⟨_, rfl, ?_⟩; have n0_ := Aside0.mk (below_step (by repeat (first | (with_reducible first | exact HB.out | apply below_alloc | apply pw_below_drewN | apply below_drew1) | exact HB.out)) hb); clear HB; have HB := n0_; clear n0_; (try clear hb); (try clear hb2); (try clear hk); (try clear hi)) | ((with_reducible refine gate_callee (f := 17) rfl ?_); refine goesL_ (some 42) rfl rfl Tryd.func17 (by kernel_rfl) rfl #[.int .i64 a1, .int .i64 10] rfl (by (try simp only [List.map_toArray, List.map_cons, List.map_nil]); first | done | rfl | (simp only [List.length_drop, List.length_take]; rfl)) ?_; (with_reducible refine (gongbook_Below.calls a1 10 t177 _ A19.out).mono ?_); rintro e w' ⟨rfl, ⟨nd, rfl⟩⟩; refine ⟨_, rfl, ?_⟩))
                        go_ret
                        exact ⟨by first | rfl | (simp only [i64_w, i32_w]; rfl) | (simp [errW_none, errW_some] <;> rfl) | (simp only [← hji8]; first | rfl | (simp [errW_none, errW_some] <;> rfl)) | (simp [*, errW_none, errW_some] <;> rfl), by repeat (first | (with_reducible first | exact HB.out | apply below_alloc | apply pw_below_drewN | apply below_drew1) | exact HB.out)⟩
                    · rw [if_neg c49] at H
                      have c49b0 : decide (29 < (x5_2.size : Int)) = false := decide_eq_false c49
                      have c49b1 : decide (29 < x5_2.size) = false := decide_eq_false (by omega)
                      clear c49
                      have H' := Aside0.mk H
                      clear H
                      go_wp2_with (first | ((with_reducible refine gate_callee (f := 13) rfl ?_); refine goesL_ (some 37) rfl rfl Tryd.func13 (by kernel_rfl) rfl #[.string (x5_2 ++ (⟨#[90]⟩ : ByteArray))] rfl (by (try simp only [List.map_toArray, List.map_cons, List.map_nil]); first | done | rfl | (simp only [List.length_drop, List.length_take]; rfl)) ?_; (with_reducible refine (stamp_Parse.calls k2 (x5_2 ++ (⟨#[90]⟩ : ByteArray)) t175 t176 _ ?side1 A18.out).mono ?_); (case side1 => first | exact HGl.out | exact HGl.out.below (by repeat (first | (with_reducible first | exact HB.out | apply below_alloc | apply pw_below_drewN | apply below_drew1) | exact HB.out | exact Below.refl _ _))); rintro e w53 ⟨rfl, hb⟩; refine ⟨_, rfl, ?_⟩; have n0_ := Aside0.mk (below_step (by repeat (first | (with_reducible first | exact HB.out | apply below_alloc | apply pw_below_drewN | apply below_drew1) | exact HB.out)) hb); clear HB; have HB := n0_; clear n0_; (try clear hb); (try clear hb2); (try clear hk); (try clear hi)) | ((with_reducible refine gate_callee (f := 17) rfl ?_); refine goesL_ (some 42) rfl rfl Tryd.func17 (by kernel_rfl) rfl #[.int .i64 a1, .int .i64 10] rfl (by (try simp only [List.map_toArray, List.map_cons, List.map_nil]); first | done | rfl | (simp only [List.length_drop, List.length_take]; rfl)) ?_; (with_reducible refine (gongbook_Below.calls a1 10 t177 _ A19.out).mono ?_); rintro e w' ⟨rfl, ⟨nd, rfl⟩⟩; refine ⟨_, rfl, ?_⟩))
                      go_roundg k2
                      case measure => have := HJ10.out; have := HK2.out; omega
                      case rel => exact ⟨(x5_2 ++ (⟨#[48]⟩ : ByteArray)), (wrap64 (x31_2 + 1)), (by first | rfl | (simp; done) | (simp [*]; done) | (simp [*]; exact isEmpty_bne _) | (simp; exact isEmpty_bne _)), (by first | rfl | (simp; done) | (simp [*]; done) | (simp [*]; exact isEmpty_bne _) | (simp; exact isEmpty_bne _)), H', ⟨by have := HJ10.out; have := HK2.out; omega⟩, ⟨by repeat (first | (with_reducible first | exact HB.out | apply below_alloc | apply pw_below_drewN | apply below_drew1) | exact HB.out)⟩⟩
              · rw [if_neg c20] at H
                have c20b0 : decide (t177 ≤ x31_2) = false := decide_eq_false c20
                clear c20
                by_cases c54 : (x5_2.size : Int) = 20
                · rw [if_pos c54] at H
                  have c54b0 : ((x5_2.size : Int) == 20) = true := beq_iff_eq.mpr c54
                  have c54b1 : ((x5_2.size : Int) != 20) = false := bne_eq_false_iff_eq.mpr c54
                  clear c54
                  by_cases c55 : t176 = 30
                  · rw [if_pos c55] at H
                    have c55b0 : (t176 == 30) = true := beq_iff_eq.mpr c55
                    have c55b1 : (t176 != 30) = false := bne_eq_false_iff_eq.mpr c55
                    clear c55
                    have H' := Aside0.mk H
                    clear H
                    go_wp2_with (first | ((with_reducible refine gate_callee (f := 13) rfl ?_); refine goesL_ (some 37) rfl rfl Tryd.func13 (by kernel_rfl) rfl #[.string (x5_2 ++ (⟨#[90]⟩ : ByteArray))] rfl (by (try simp only [List.map_toArray, List.map_cons, List.map_nil]); first | done | rfl | (simp only [List.length_drop, List.length_take]; rfl)) ?_; (with_reducible refine (stamp_Parse.calls k2 (x5_2 ++ (⟨#[90]⟩ : ByteArray)) t175 t176 _ ?side1 A18.out).mono ?_); (case side1 => first | exact HGl.out | exact HGl.out.below (by repeat (first | (with_reducible first | exact HB.out | apply below_alloc | apply pw_below_drewN | apply below_drew1) | exact HB.out | exact Below.refl _ _))); rintro e w56 ⟨rfl, hb⟩; refine ⟨_, rfl, ?_⟩; have n0_ := Aside0.mk (below_step (by repeat (first | (with_reducible first | exact HB.out | apply below_alloc | apply pw_below_drewN | apply below_drew1) | exact HB.out)) hb); clear HB; have HB := n0_; clear n0_; (try clear hb); (try clear hb2); (try clear hk); (try clear hi)) | ((with_reducible refine gate_callee (f := 17) rfl ?_); refine goesL_ (some 42) rfl rfl Tryd.func17 (by kernel_rfl) rfl #[.int .i64 a1, .int .i64 10] rfl (by (try simp only [List.map_toArray, List.map_cons, List.map_nil]); first | done | rfl | (simp only [List.length_drop, List.length_take]; rfl)) ?_; (with_reducible refine (gongbook_Below.calls a1 10 t177 _ A19.out).mono ?_); rintro e w' ⟨rfl, ⟨nd, rfl⟩⟩; refine ⟨_, rfl, ?_⟩))
                    go_roundg k2
                    case measure => have := HJ10.out; have := HK2.out; omega
                    case rel => exact ⟨(x5_2 ++ (⟨#[48]⟩ : ByteArray)), (wrap64 (x31_2 + 1)), (by first | rfl | (simp; done) | (simp [*]; done) | (simp [*]; exact isEmpty_bne _) | (simp; exact isEmpty_bne _)), (by first | rfl | (simp; done) | (simp [*]; done) | (simp [*]; exact isEmpty_bne _) | (simp; exact isEmpty_bne _)), H', ⟨by have := HJ10.out; have := HK2.out; omega⟩, ⟨by repeat (first | (with_reducible first | exact HB.out | apply below_alloc | apply pw_below_drewN | apply below_drew1) | exact HB.out)⟩⟩
                  · rw [if_neg c55] at H
                    have c55b0 : (t176 == 30) = false := beq_eq_false_iff_ne.mpr c55
                    have c55b1 : (t176 != 30) = true := bne_iff_ne.mpr c55
                    obtain rfl := Option.some.inj H
                    go_wp2_with (first | ((with_reducible refine gate_callee (f := 13) rfl ?_); refine goesL_ (some 37) rfl rfl Tryd.func13 (by kernel_rfl) rfl #[.string (x5_2 ++ (⟨#[90]⟩ : ByteArray))] rfl (by (try simp only [List.map_toArray, List.map_cons, List.map_nil]); first | done | rfl | (simp only [List.length_drop, List.length_take]; rfl)) ?_; (with_reducible refine (stamp_Parse.calls k2 (x5_2 ++ (⟨#[90]⟩ : ByteArray)) t175 t176 _ ?side1 A18.out).mono ?_); (case side1 => first | exact HGl.out | exact HGl.out.below (by repeat (first | (with_reducible first | exact HB.out | apply below_alloc | apply pw_below_drewN | apply below_drew1) | exact HB.out | exact Below.refl _ _))); rintro e w57 ⟨rfl, hb⟩; refine ⟨_, rfl, ?_⟩; have n0_ := Aside0.mk (below_step (by repeat (first | (with_reducible first | exact HB.out | apply below_alloc | apply pw_below_drewN | apply below_drew1) | exact HB.out)) hb); clear HB; have HB := n0_; clear n0_; (try clear hb); (try clear hb2); (try clear hk); (try clear hi)) | ((with_reducible refine gate_callee (f := 17) rfl ?_); refine goesL_ (some 42) rfl rfl Tryd.func17 (by kernel_rfl) rfl #[.int .i64 a1, .int .i64 10] rfl (by (try simp only [List.map_toArray, List.map_cons, List.map_nil]); first | done | rfl | (simp only [List.length_drop, List.length_take]; rfl)) ?_; (with_reducible refine (gongbook_Below.calls a1 10 t177 _ A19.out).mono ?_); rintro e w' ⟨rfl, ⟨nd, rfl⟩⟩; refine ⟨_, rfl, ?_⟩))
                    go_ret
                    exact ⟨by first | rfl | (simp only [i64_w, i32_w]; rfl) | (simp [errW_none, errW_some] <;> rfl) | (simp only [← hji8]; first | rfl | (simp [errW_none, errW_some] <;> rfl)) | (simp [*, errW_none, errW_some] <;> rfl), by repeat (first | (with_reducible first | exact HB.out | apply below_alloc | apply pw_below_drewN | apply below_drew1) | exact HB.out)⟩
                · rw [if_neg c54] at H
                  have c54b0 : ((x5_2.size : Int) == 20) = false := beq_eq_false_iff_ne.mpr c54
                  have c54b1 : ((x5_2.size : Int) != 20) = true := bne_iff_ne.mpr c54
                  by_cases c58 : (x5_2.size : Int) > 29
                  · rw [if_pos c58] at H
                    have c58b0 : decide (29 < (x5_2.size : Int)) = true := decide_eq_true c58
                    have c58b1 : decide (29 < x5_2.size) = true := decide_eq_true (by omega)
                    clear c58
                    by_cases c59 : t176 = 30
                    · rw [if_pos c59] at H
                      have c59b0 : (t176 == 30) = true := beq_iff_eq.mpr c59
                      have c59b1 : (t176 != 30) = false := bne_eq_false_iff_eq.mpr c59
                      clear c59
                      have H' := Aside0.mk H
                      clear H
                      go_wp2_with (first | ((with_reducible refine gate_callee (f := 13) rfl ?_); refine goesL_ (some 37) rfl rfl Tryd.func13 (by kernel_rfl) rfl #[.string (x5_2 ++ (⟨#[90]⟩ : ByteArray))] rfl (by (try simp only [List.map_toArray, List.map_cons, List.map_nil]); first | done | rfl | (simp only [List.length_drop, List.length_take]; rfl)) ?_; (with_reducible refine (stamp_Parse.calls k2 (x5_2 ++ (⟨#[90]⟩ : ByteArray)) t175 t176 _ ?side1 A18.out).mono ?_); (case side1 => first | exact HGl.out | exact HGl.out.below (by repeat (first | (with_reducible first | exact HB.out | apply below_alloc | apply pw_below_drewN | apply below_drew1) | exact HB.out | exact Below.refl _ _))); rintro e w60 ⟨rfl, hb⟩; refine ⟨_, rfl, ?_⟩; have n0_ := Aside0.mk (below_step (by repeat (first | (with_reducible first | exact HB.out | apply below_alloc | apply pw_below_drewN | apply below_drew1) | exact HB.out)) hb); clear HB; have HB := n0_; clear n0_; (try clear hb); (try clear hb2); (try clear hk); (try clear hi)) | ((with_reducible refine gate_callee (f := 17) rfl ?_); refine goesL_ (some 42) rfl rfl Tryd.func17 (by kernel_rfl) rfl #[.int .i64 a1, .int .i64 10] rfl (by (try simp only [List.map_toArray, List.map_cons, List.map_nil]); first | done | rfl | (simp only [List.length_drop, List.length_take]; rfl)) ?_; (with_reducible refine (gongbook_Below.calls a1 10 t177 _ A19.out).mono ?_); rintro e w' ⟨rfl, ⟨nd, rfl⟩⟩; refine ⟨_, rfl, ?_⟩))
                      go_roundg k2
                      case measure => have := HJ10.out; have := HK2.out; omega
                      case rel => exact ⟨(x5_2 ++ (⟨#[48]⟩ : ByteArray)), (wrap64 (x31_2 + 1)), (by first | rfl | (simp; done) | (simp [*]; done) | (simp [*]; exact isEmpty_bne _) | (simp; exact isEmpty_bne _)), (by first | rfl | (simp; done) | (simp [*]; done) | (simp [*]; exact isEmpty_bne _) | (simp; exact isEmpty_bne _)), H', ⟨by have := HJ10.out; have := HK2.out; omega⟩, ⟨by repeat (first | (with_reducible first | exact HB.out | apply below_alloc | apply pw_below_drewN | apply below_drew1) | exact HB.out)⟩⟩
                    · rw [if_neg c59] at H
                      have c59b0 : (t176 == 30) = false := beq_eq_false_iff_ne.mpr c59
                      have c59b1 : (t176 != 30) = true := bne_iff_ne.mpr c59
                      obtain rfl := Option.some.inj H
                      go_wp2_with (first | ((with_reducible refine gate_callee (f := 13) rfl ?_); refine goesL_ (some 37) rfl rfl Tryd.func13 (by kernel_rfl) rfl #[.string (x5_2 ++ (⟨#[90]⟩ : ByteArray))] rfl (by (try simp only [List.map_toArray, List.map_cons, List.map_nil]); first | done | rfl | (simp only [List.length_drop, List.length_take]; rfl)) ?_; (with_reducible refine (stamp_Parse.calls k2 (x5_2 ++ (⟨#[90]⟩ : ByteArray)) t175 t176 _ ?side1 A18.out).mono ?_); (case side1 => first | exact HGl.out | exact HGl.out.below (by repeat (first | (with_reducible first | exact HB.out | apply below_alloc | apply pw_below_drewN | apply below_drew1) | exact HB.out | exact Below.refl _ _))); rintro e w61 ⟨rfl, hb⟩; refine ⟨_, rfl, ?_⟩; have n0_ := Aside0.mk (below_step (by repeat (first | (with_reducible first | exact HB.out | apply below_alloc | apply pw_below_drewN | apply below_drew1) | exact HB.out)) hb); clear HB; have HB := n0_; clear n0_; (try clear hb); (try clear hb2); (try clear hk); (try clear hi)) | ((with_reducible refine gate_callee (f := 17) rfl ?_); refine goesL_ (some 42) rfl rfl Tryd.func17 (by kernel_rfl) rfl #[.int .i64 a1, .int .i64 10] rfl (by (try simp only [List.map_toArray, List.map_cons, List.map_nil]); first | done | rfl | (simp only [List.length_drop, List.length_take]; rfl)) ?_; (with_reducible refine (gongbook_Below.calls a1 10 t177 _ A19.out).mono ?_); rintro e w' ⟨rfl, ⟨nd, rfl⟩⟩; refine ⟨_, rfl, ?_⟩))
                      go_ret
                      exact ⟨by first | rfl | (simp only [i64_w, i32_w]; rfl) | (simp [errW_none, errW_some] <;> rfl) | (simp only [← hji8]; first | rfl | (simp [errW_none, errW_some] <;> rfl)) | (simp [*, errW_none, errW_some] <;> rfl), by repeat (first | (with_reducible first | exact HB.out | apply below_alloc | apply pw_below_drewN | apply below_drew1) | exact HB.out)⟩
                  · rw [if_neg c58] at H
                    have c58b0 : decide (29 < (x5_2.size : Int)) = false := decide_eq_false c58
                    have c58b1 : decide (29 < x5_2.size) = false := decide_eq_false (by omega)
                    clear c58
                    have H' := Aside0.mk H
                    clear H
                    go_wp2_with (first | ((with_reducible refine gate_callee (f := 13) rfl ?_); refine goesL_ (some 37) rfl rfl Tryd.func13 (by kernel_rfl) rfl #[.string (x5_2 ++ (⟨#[90]⟩ : ByteArray))] rfl (by (try simp only [List.map_toArray, List.map_cons, List.map_nil]); first | done | rfl | (simp only [List.length_drop, List.length_take]; rfl)) ?_; (with_reducible refine (stamp_Parse.calls k2 (x5_2 ++ (⟨#[90]⟩ : ByteArray)) t175 t176 _ ?side1 A18.out).mono ?_); (case side1 => first | exact HGl.out | exact HGl.out.below (by repeat (first | (with_reducible first | exact HB.out | apply below_alloc | apply pw_below_drewN | apply below_drew1) | exact HB.out | exact Below.refl _ _))); rintro e w62 ⟨rfl, hb⟩; refine ⟨_, rfl, ?_⟩; have n0_ := Aside0.mk (below_step (by repeat (first | (with_reducible first | exact HB.out | apply below_alloc | apply pw_below_drewN | apply below_drew1) | exact HB.out)) hb); clear HB; have HB := n0_; clear n0_; (try clear hb); (try clear hb2); (try clear hk); (try clear hi)) | ((with_reducible refine gate_callee (f := 17) rfl ?_); refine goesL_ (some 42) rfl rfl Tryd.func17 (by kernel_rfl) rfl #[.int .i64 a1, .int .i64 10] rfl (by (try simp only [List.map_toArray, List.map_cons, List.map_nil]); first | done | rfl | (simp only [List.length_drop, List.length_take]; rfl)) ?_; (with_reducible refine (gongbook_Below.calls a1 10 t177 _ A19.out).mono ?_); rintro e w' ⟨rfl, ⟨nd, rfl⟩⟩; refine ⟨_, rfl, ?_⟩))
                    go_roundg k2
                    case measure => have := HJ10.out; have := HK2.out; omega
                    case rel => exact ⟨(x5_2 ++ (⟨#[48]⟩ : ByteArray)), (wrap64 (x31_2 + 1)), (by first | rfl | (simp; done) | (simp [*]; done) | (simp [*]; exact isEmpty_bne _) | (simp; exact isEmpty_bne _)), (by first | rfl | (simp; done) | (simp [*]; done) | (simp [*]; exact isEmpty_bne _) | (simp; exact isEmpty_bne _)), H', ⟨by have := HJ10.out; have := HK2.out; omega⟩, ⟨by repeat (first | (with_reducible first | exact HB.out | apply below_alloc | apply pw_below_drewN | apply below_drew1) | exact HB.out)⟩⟩
            · rw [if_neg c17] at H
              exact absurd H (by simp)
          · rw [if_neg c16] at H
            have c16b0 : decide (x31_2 < 10) = false := decide_eq_false c16
            clear c16
            obtain rfl := Option.some.inj H
            go_wp2
            go_ret
            exact ⟨by first | rfl | (simp only [i64_w, i32_w]; rfl) | (simp [errW_none, errW_some] <;> rfl) | (simp only [← hji8]; first | rfl | (simp [errW_none, errW_some] <;> rfl)) | (simp [*, errW_none, errW_some] <;> rfl), by repeat (first | (with_reducible first | exact HB.out | apply below_alloc | apply pw_below_drewN | apply below_drew1) | exact HB.out)⟩

end Go.Proofs.YtjcenencgnfffaaDoor.XStO
