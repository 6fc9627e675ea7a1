-- Laid by extprint.py (the session's own driver): functions told by the kit's printer and by hand.
import Derived.Test.YtjcenencgnfffaaDoorXStOx0
import Derived.Test.YtjcenencgnfffaaDoorXStOx12
import Derived.Test.YtjcenencgnfffaaDoorXStOx13
namespace Go.Proofs.YtjcenencgnfffaaDoor.XStO
open Go.RowKit Gong Go.Proofs.YtjcenencgnfffaaDoorW.PrintWords Go.Proofs.YtjcenencgnfffaaDoorW.PrintLast Go.Proofs.YtjcenencgnfffaaDoorW.PrintMore
attribute [local go_sem] max2_int min2_int max_two min_two max_three min_three max_four min_four   -- for this text's walks alone
set_option linter.unusedVariables false
set_option linter.unusedSimpArgs false

/-! ### strings_TrimRight: function 91 -/
def strings_TrimRight.f (a0 a1 : ByteArray) : Option ByteArray :=
  if a0.size ≤ 9223372036854775807 ∧ a1.size < 4294967281 ∧ a1.data.toList.all (fun b => decide (b.toNat < 128)) = true then some ⟨(Lib.trimRightS a0.data.toList a1.data.toList).toArray⟩ else none
theorem strings_TrimRight.calls (a0 a1 : ByteArray) (r : ByteArray) (w : World) (h : strings_TrimRight.f a0 a1 = some r) :
    Calls Tryd.prog 91 #[.string a0, .string a1] w fun e w' => e = .returned (.string r) ∧ Below w.heap.size w w' := by
  unfold strings_TrimRight.f at h
  by_cases hc : a0.size ≤ 9223372036854775807 ∧ a1.size < 4294967281 ∧ a1.data.toList.all (fun b => decide (b.toNat < 128)) = true
  · rw [if_pos hc] at h
    obtain rfl := Option.some.inj h
    refine (Any.strings_TrimRight_laid Tryd.lays162 (by kernel_rfl) a0 a1 w hc.1 hc.2.1 (fun j b hj => by simpa using List.all_eq_true.1 hc.2.2 b (List.mem_of_getElem? hj))).mono ?_
    rintro e w' ⟨rfl, hb⟩
    exact ⟨rfl, hb⟩
  · rw [if_neg hc] at h
    exact absurd h (by simp)

/-! ### stamp_whole: function 52 -/
def stamp_whole.f (k : Nat) (a0 : Int) (a1 : Int) : Option (ByteArray) := (stamp_show.f k a0).bind fun t158 => (if a1 = 0 then (some t158) else ((strconv_Itoa.f (wrap64 (1000000000 + a1))).bind fun t159 => (if t158.size + 1 ≤ 9223372036854775807 then (if 1 ≤ (t159.size : Int) then ((strings_TrimRight.f (t159.extract 1 t159.size) (⟨#[48]⟩ : ByteArray)).bind fun t160 => (if (t158 ++ (⟨#[46]⟩ : ByteArray)).size + t160.size ≤ 9223372036854775807 then (some ((t158 ++ (⟨#[46]⟩ : ByteArray)) ++ t160)) else (none))) else (none)) else (none))))
theorem stamp_whole.mono : ∀ a0 a1 k, LeO (stamp_whole.f k a0 a1) (stamp_whole.f (k + 1) a0 a1) := by
  intro a0 a1 k
  unfold stamp_whole.f
  repeat' first
      | (with_reducible exact stamp_show.mono _ _)
      | (with_reducible exact LeO.refl _)
      | (with_reducible exact LeO.none _)
      | (with_reducible refine LeO.ite ?_ ?_)
      | (with_reducible refine LeO.bind ?_ (fun _ => ?_))
      | exact stamp_show.mono _ _
      | exact LeO.none _
      | refine LeO.ite ?_ ?_
      | refine LeO.bind ?_ (fun _ => ?_)
set_option maxHeartbeats 8000000 in
set_option maxRecDepth 100000 in
theorem stamp_whole.calls (k : Nat) (a0 : Int) (a1 : Int) (r : ByteArray) (w : World) (hG : Gl w) (h : stamp_whole.f k a0 a1 = some r) :
    Calls Tryd.prog 52 #[.int .i64 a0, .int .i64 a1] w fun e w' => e = .returned (.string r) ∧ Below w.heap.size w w' := by
  have HGl := Aside0.mk hG
  clear hG
  have HB := Aside0.mk (Below.refl w.heap.size w)
  have H : ((stamp_show.f k a0).bind fun t158 => (if a1 = 0 then (some t158) else ((strconv_Itoa.f (wrap64 (1000000000 + a1))).bind fun t159 => (if t158.size + 1 ≤ 9223372036854775807 then (if 1 ≤ (t159.size : Int) then ((strings_TrimRight.f (t159.extract 1 t159.size) (⟨#[48]⟩ : ByteArray)).bind fun t160 => (if (t158 ++ (⟨#[46]⟩ : ByteArray)).size + t160.size ≤ 9223372036854775807 then (some ((t158 ++ (⟨#[46]⟩ : ByteArray)) ++ t160)) else (none))) else (none)) else (none))))) = some r := h
  clear h
  replace H := Option.bind_eq_some_iff.mp H
  obtain ⟨t158, A30, H⟩ := H
  replace H : (if a1 = 0 then (some t158) else ((strconv_Itoa.f (wrap64 (1000000000 + a1))).bind fun t159 => (if t158.size + 1 ≤ 9223372036854775807 then (if 1 ≤ (t159.size : Int) then ((strings_TrimRight.f (t159.extract 1 t159.size) (⟨#[48]⟩ : ByteArray)).bind fun t160 => (if (t158 ++ (⟨#[46]⟩ : ByteArray)).size + t160.size ≤ 9223372036854775807 then (some ((t158 ++ (⟨#[46]⟩ : ByteArray)) ++ t160)) else (none))) else (none)) else (none)))) = some r := H
  have A3 := Aside0.mk A30
  clear A30
  by_cases c4 : a1 = 0
  · rw [if_pos c4] at H
    have c4b0 : (a1 == 0) = true := beq_iff_eq.mpr c4
    have c4b1 : (a1 != 0) = false := bne_eq_false_iff_eq.mpr c4
    clear c4
    obtain rfl := Option.some.inj H
    go_enter Tryd.func52, Tryd.ntmps52
    go_wp2_with (first | ((with_reducible refine gate_callee (f := 90) rfl ?_); refine goesL_ (some 8) rfl rfl Tryd.func90 (by kernel_rfl) rfl #[.int .i64 a0] rfl (by (try simp only [List.map_toArray, List.map_cons, List.map_nil]); first | done | rfl | (simp only [List.length_drop, List.length_take]; rfl)) ?_; (with_reducible refine (stamp_show.calls k a0 t158 _ ?side1 A3.out).mono ?_); (case side1 => first | exact HGl.out | exact HGl.out.below (by repeat (first | (with_reducible first | exact HB.out | apply below_alloc | apply pw_below_drewN | apply below_drew1) | exact HB.out | exact Below.refl _ _))); rintro e w5 ⟨rfl, hb⟩; refine ⟨_, rfl, ?_⟩; have n0_ := Aside0.mk (below_step (by repeat (first | (with_reducible first | exact HB.out | apply below_alloc | apply pw_below_drewN | apply below_drew1) | exact HB.out)) hb); clear HB; have HB := n0_; clear n0_; (try clear hb); (try clear hb2); (try clear hk); (try clear hi)))
    go_ret
    exact ⟨by first | rfl | (simp only [i64_w, i32_w]; rfl) | (simp [errW_none, errW_some] <;> rfl) | (simp [*, errW_none, errW_some] <;> rfl), by repeat (first | (with_reducible first | exact HB.out | apply below_alloc | apply pw_below_drewN | apply below_drew1) | exact HB.out)⟩
  rw [if_neg c4] at H
  have c4b0 : (a1 == 0) = false := beq_eq_false_iff_ne.mpr c4
  have c4b1 : (a1 != 0) = true := bne_iff_ne.mpr c4
  replace H := Option.bind_eq_some_iff.mp H
  obtain ⟨t159, A60, H⟩ := H
  replace H : (if t158.size + 1 ≤ 9223372036854775807 then (if 1 ≤ (t159.size : Int) then ((strings_TrimRight.f (t159.extract 1 t159.size) (⟨#[48]⟩ : ByteArray)).bind fun t160 => (if (t158 ++ (⟨#[46]⟩ : ByteArray)).size + t160.size ≤ 9223372036854775807 then (some ((t158 ++ (⟨#[46]⟩ : ByteArray)) ++ t160)) else (none))) else (none)) else (none)) = some r := H
  have A6 := Aside0.mk A60
  clear A60
  by_cases c7 : t158.size + 1 ≤ 9223372036854775807
  rotate_left
  · rw [if_neg c7] at H
    exact absurd H (by simp)
  rw [if_pos c7] at H
  have c7b0 := eq_true c7
  have c7b1 : decide (t158.size + 1 ≤ 9223372036854775807) = true := decide_eq_true c7
  try have c7b2 : (9223372036854775807 < t158.size + 1) = False := eq_false (Nat.not_lt.2 c7)
  by_cases c8 : 1 ≤ (t159.size : Int)
  rotate_left
  · rw [if_neg c8] at H
    exact absurd H (by simp)
  rw [if_pos c8] at H
  have c8b0 := eq_true c8
  have c8b1 : decide (1 ≤ (t159.size : Int)) = true := decide_eq_true c8
  clear c8
  replace H := Option.bind_eq_some_iff.mp H
  obtain ⟨t160, A90, H⟩ := H
  replace H : (if (t158 ++ (⟨#[46]⟩ : ByteArray)).size + t160.size ≤ 9223372036854775807 then (some ((t158 ++ (⟨#[46]⟩ : ByteArray)) ++ t160)) else (none)) = some r := H
  have A9 := Aside0.mk A90
  clear A90
  by_cases c10 : (t158 ++ (⟨#[46]⟩ : ByteArray)).size + t160.size ≤ 9223372036854775807
  rotate_left
  · rw [if_neg c10] at H
    exact absurd H (by simp)
  rw [if_pos c10] at H
  have c10b0 := eq_true c10
  have c10b1 : decide ((t158 ++ (⟨#[46]⟩ : ByteArray)).size + t160.size ≤ 9223372036854775807) = true := decide_eq_true c10
  try have c10b2 : (9223372036854775807 < (t158 ++ (⟨#[46]⟩ : ByteArray)).size + t160.size) = False := eq_false (Nat.not_lt.2 c10)
  have c10z2 := c10b2
  simp only [ByteArray.size_append] at c10z2
  have c10z3 := c10z2
  try simp only [size_lit1, size_lit2, size_lit3, size_lit4] at c10z3
  obtain rfl := Option.some.inj H
  go_enter Tryd.func52, Tryd.ntmps52
  go_wp2_with (first | ((with_reducible refine gate_callee (f := 90) rfl ?_); refine goesL_ (some 8) rfl rfl Tryd.func90 (by kernel_rfl) rfl #[.int .i64 a0] rfl (by (try simp only [List.map_toArray, List.map_cons, List.map_nil]); first | done | rfl | (simp only [List.length_drop, List.length_take]; rfl)) ?_; (with_reducible refine (stamp_show.calls k a0 t158 _ ?side1 A3.out).mono ?_); (case side1 => first | exact HGl.out | exact HGl.out.below (by repeat (first | (with_reducible first | exact HB.out | apply below_alloc | apply pw_below_drewN | apply below_drew1) | exact HB.out | exact Below.refl _ _))); rintro e w11 ⟨rfl, hb⟩; refine ⟨_, rfl, ?_⟩; have n0_ := Aside0.mk (below_step (by repeat (first | (with_reducible first | exact HB.out | apply below_alloc | apply pw_below_drewN | apply below_drew1) | exact HB.out)) hb); clear HB; have HB := n0_; clear n0_; (try clear hb); (try clear hb2); (try clear hk); (try clear hi)) | ((with_reducible refine gate_callee (f := 56) rfl ?_); refine goesL_ (some 14) rfl rfl Tryd.func56 (by kernel_rfl) rfl #[.int .i64 (wrap64 (1000000000 + a1))] rfl (by (try simp only [List.map_toArray, List.map_cons, List.map_nil]); first | done | rfl | (simp only [List.length_drop, List.length_take]; rfl)) ?_; (with_reducible refine (strconv_Itoa.calls (wrap64 (1000000000 + a1)) t159 _ ?side1 A6.out).mono ?_); (case side1 => first | exact HGl.out | exact HGl.out.below (by repeat (first | (with_reducible first | exact HB.out | apply below_alloc | apply pw_below_drewN | apply below_drew1) | exact HB.out | exact Below.refl _ _))); rintro e w12 ⟨rfl, hb⟩; refine ⟨_, rfl, ?_⟩; have n0_ := Aside0.mk (below_step (by repeat (first | (with_reducible first | exact HB.out | apply below_alloc | apply pw_below_drewN | apply below_drew1) | exact HB.out)) hb); clear HB; have HB := n0_; clear n0_; (try clear hb); (try clear hb2); (try clear hk); (try clear hi)) | ((with_reducible refine gate_callee (f := 91) rfl ?_); refine goesL_ (some 19) rfl rfl Tryd.func91 (by kernel_rfl) rfl #[.string (t159.extract 1 t159.size), .string (⟨#[48]⟩ : ByteArray)] rfl (by (try simp only [List.map_toArray, List.map_cons, List.map_nil]); first | done | rfl | (simp only [List.length_drop, List.length_take]; rfl)) ?_; (with_reducible refine (strings_TrimRight.calls (t159.extract 1 t159.size) (⟨#[48]⟩ : ByteArray) t160 _ A9.out).mono ?_); rintro e w13 ⟨rfl, hb⟩; refine ⟨_, rfl, ?_⟩; have n0_ := Aside0.mk (below_step (by repeat (first | (with_reducible first | exact HB.out | apply below_alloc | apply pw_below_drewN | apply below_drew1) | exact HB.out)) hb); clear HB; have HB := n0_; clear n0_; (try clear hb); (try clear hb2); (try clear hk); (try clear hi)))
  go_ret
  exact ⟨by first | rfl | (simp only [i64_w, i32_w]; rfl) | (simp [errW_none, errW_some] <;> rfl) | (simp [*, errW_none, errW_some] <;> rfl), by repeat (first | (with_reducible first | exact HB.out | apply below_alloc | apply pw_below_drewN | apply below_drew1) | exact HB.out)⟩

end Go.Proofs.YtjcenencgnfffaaDoor.XStO
