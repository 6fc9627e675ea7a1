-- Laid by extprint.py (the session's own driver): functions told by the kit's printer and by hand.
import Derived.Test.YtjcenencgnfffaaDoorXStWx0
import Derived.Test.YtjcenencgnfffaaDoorXStWx1
import Derived.Test.YtjcenencgnfffaaDoorXStWx5
import Derived.Test.YtjcenencgnfffaaDoorXStWx6
namespace Go.Proofs.YtjcenencgnfffaaDoor.XStW
open Go.RowKit Gong Go.Proofs.YtjcenencgnfffaaDoorW.PrintWords Go.Proofs.YtjcenencgnfffaaDoorW.PrintLast Go.Proofs.YtjcenencgnfffaaDoorW.PrintMore
attribute [local go_sem] max2_int min2_int max_two min_two max_three min_three max_four min_four   -- for this text's walks alone
set_option linter.unusedVariables false
set_option linter.unusedSimpArgs false

/-! ### stamp_show: function 90 -/
mutual
def stamp_show.l0 : Nat → Int → Int → Int → Option (ByteArray)
  | 0, _, _, _ => none
  | k + 1, x3, x4, x5 => (stamp_since.f (wrap64 (x5 + 1))).bind fun t147 => (if t147 ≤ x3 then (stamp_show.l0 k x3 x4 (wrap64 (x5 + 1))) else ((stamp_since.f x5).bind fun t148 => (stamp_show.l1 k (wrap64 (x3 - t148)) x4 x5 1)))
def stamp_show.l1 : Nat → Int → Int → Int → Int → Option (ByteArray)
  | 0, _, _, _, _ => none
  | k + 1, x3, x4, x5, x6 => (stamp_before.f x5 (wrap64 (x6 + 1))).bind fun t149 => (if t149 ≤ x3 then (stamp_show.l1 k x3 x4 x5 (wrap64 (x6 + 1))) else ((stamp_two.f (wrap64 (Int.tdiv x5 100))).bind fun t150 => ((stamp_two.f (Int.tmod x5 100)).bind fun t151 => (if t150.size + t151.size ≤ 9223372036854775807 then (if (t150 ++ t151).size + 1 ≤ 9223372036854775807 then ((stamp_two.f x6).bind fun t152 => (if ((t150 ++ t151) ++ (⟨#[45]⟩ : ByteArray)).size + t152.size ≤ 9223372036854775807 then (if (((t150 ++ t151) ++ (⟨#[45]⟩ : ByteArray)) ++ t152).size + 1 ≤ 9223372036854775807 then ((stamp_before.f x5 x6).bind fun t153 => ((stamp_two.f (wrap64 ((wrap64 (x3 - t153)) + 1))).bind fun t154 => (if ((((t150 ++ t151) ++ (⟨#[45]⟩ : ByteArray)) ++ t152) ++ (⟨#[45]⟩ : ByteArray)).size + t154.size ≤ 9223372036854775807 then (if (((((t150 ++ t151) ++ (⟨#[45]⟩ : ByteArray)) ++ t152) ++ (⟨#[45]⟩ : ByteArray)) ++ t154).size + 1 ≤ 9223372036854775807 then ((stamp_two.f (wrap64 (Int.tdiv x4 3600))).bind fun t155 => (if ((((((t150 ++ t151) ++ (⟨#[45]⟩ : ByteArray)) ++ t152) ++ (⟨#[45]⟩ : ByteArray)) ++ t154) ++ (⟨#[84]⟩ : ByteArray)).size + t155.size ≤ 9223372036854775807 then (if (((((((t150 ++ t151) ++ (⟨#[45]⟩ : ByteArray)) ++ t152) ++ (⟨#[45]⟩ : ByteArray)) ++ t154) ++ (⟨#[84]⟩ : ByteArray)) ++ t155).size + 1 ≤ 9223372036854775807 then ((stamp_two.f (Int.tmod (wrap64 (Int.tdiv x4 60)) 60)).bind fun t156 => (if ((((((((t150 ++ t151) ++ (⟨#[45]⟩ : ByteArray)) ++ t152) ++ (⟨#[45]⟩ : ByteArray)) ++ t154) ++ (⟨#[84]⟩ : ByteArray)) ++ t155) ++ (⟨#[58]⟩ : ByteArray)).size + t156.size ≤ 9223372036854775807 then (if (((((((((t150 ++ t151) ++ (⟨#[45]⟩ : ByteArray)) ++ t152) ++ (⟨#[45]⟩ : ByteArray)) ++ t154) ++ (⟨#[84]⟩ : ByteArray)) ++ t155) ++ (⟨#[58]⟩ : ByteArray)) ++ t156).size + 1 ≤ 9223372036854775807 then ((stamp_two.f (Int.tmod x4 60)).bind fun t157 => (if ((((((((((t150 ++ t151) ++ (⟨#[45]⟩ : ByteArray)) ++ t152) ++ (⟨#[45]⟩ : ByteArray)) ++ t154) ++ (⟨#[84]⟩ : ByteArray)) ++ t155) ++ (⟨#[58]⟩ : ByteArray)) ++ t156) ++ (⟨#[58]⟩ : ByteArray)).size + t157.size ≤ 9223372036854775807 then (some (((((((((((t150 ++ t151) ++ (⟨#[45]⟩ : ByteArray)) ++ t152) ++ (⟨#[45]⟩ : ByteArray)) ++ t154) ++ (⟨#[84]⟩ : ByteArray)) ++ t155) ++ (⟨#[58]⟩ : ByteArray)) ++ t156) ++ (⟨#[58]⟩ : ByteArray)) ++ t157)) else (none))) else (none)) else (none))) else (none)) else (none))) else (none)) else (none)))) else (none)) else (none))) else (none)) else (none)))))
end
def stamp_show.f (k : Nat) (a0 : Int) : Option (ByteArray) := stamp_show.l0 k (wrap64 (Int.tdiv a0 86400)) (Int.tmod a0 86400) (wrap64 (1970 + (wrap64 (Int.tdiv (wrap64 (Int.tdiv a0 86400)) 366))))
theorem stamp_show.mono_l : ∀ k, (∀ y0 y1 y2, LeO (stamp_show.l0 k y0 y1 y2) (stamp_show.l0 (k + 1) y0 y1 y2)) ∧ (∀ y0 y1 y2 y3, LeO (stamp_show.l1 k y0 y1 y2 y3) (stamp_show.l1 (k + 1) y0 y1 y2 y3))
  | 0 => ⟨fun _ _ _ r h => by simp [stamp_show.l0] at h, fun _ _ _ _ r h => by simp [stamp_show.l1] at h⟩
  | k + 1 => by
    obtain ⟨ih0, ih1⟩ := stamp_show.mono_l k
    refine ⟨?_, ?_⟩
    · intro y0 y1 y2
      unfold stamp_show.l0
      repeat' first
      | (with_reducible exact ih0 _ _ _)
      | (with_reducible exact ih1 _ _ _ _)
      | (with_reducible exact LeO.refl _)
      | (with_reducible exact LeO.none _)
      | (with_reducible refine LeO.ite ?_ ?_)
      | (with_reducible refine LeO.bind ?_ (fun _ => ?_))
      | exact ih0 _ _ _
      | exact ih1 _ _ _ _
      | exact LeO.none _
      | refine LeO.ite ?_ ?_
      | refine LeO.bind ?_ (fun _ => ?_)
    · intro y0 y1 y2 y3
      unfold stamp_show.l1
      repeat' first
      | (with_reducible exact ih0 _ _ _)
      | (with_reducible exact ih1 _ _ _ _)
      | (with_reducible exact LeO.refl _)
      | (with_reducible exact LeO.none _)
      | (with_reducible refine LeO.ite ?_ ?_)
      | (with_reducible refine LeO.bind ?_ (fun _ => ?_))
      | exact ih0 _ _ _
      | exact ih1 _ _ _ _
      | exact LeO.none _
      | refine LeO.ite ?_ ?_
      | refine LeO.bind ?_ (fun _ => ?_)
theorem stamp_show.mono : ∀ a0 k, LeO (stamp_show.f k a0) (stamp_show.f (k + 1) a0) := by
  intro a0 k
  obtain ⟨ih0, ih1⟩ := stamp_show.mono_l k
  unfold stamp_show.f
  repeat' first
      | (with_reducible exact ih0 _ _ _)
      | (with_reducible exact ih1 _ _ _ _)
      | (with_reducible exact LeO.refl _)
      | (with_reducible exact LeO.none _)
      | (with_reducible refine LeO.ite ?_ ?_)
      | (with_reducible refine LeO.bind ?_ (fun _ => ?_))
      | exact ih0 _ _ _
      | exact ih1 _ _ _ _
      | exact LeO.none _
      | refine LeO.ite ?_ ?_
      | refine LeO.bind ?_ (fun _ => ?_)
set_option maxHeartbeats 8000000 in
set_option maxRecDepth 100000 in
theorem stamp_show.calls (k : Nat) (a0 : Int) (r : ByteArray) (w : World) (hG : Gl w) (h : stamp_show.f k a0 = some r) :
    Calls Tryd.prog 90 #[.int .i64 a0] w fun e w' => e = .returned (.string r) ∧ Below w.heap.size w w' := by
  have HGl := Aside0.mk hG
  clear hG
  have HB := Aside0.mk (Below.refl w.heap.size w)
  have H : (stamp_show.l0 k (wrap64 (Int.tdiv a0 86400)) (Int.tmod a0 86400) (wrap64 (1970 + (wrap64 (Int.tdiv (wrap64 (Int.tdiv a0 86400)) 366))))) = some r := h
  clear h
  have H' := Aside0.mk H
  clear H
  go_enter Tryd.func90, Tryd.ntmps90
  go_wp2
  go_loopg [5] k (fun kq v5 w' => ∃ (x5_1 : Int), v5 = .int .i64 x5_1 ∧ Aside0 (stamp_show.l0 kq (wrap64 (Int.tdiv a0 86400)) (Int.tmod a0 86400) x5_1 = some r) ∧ Aside0 (kq ≤ k) ∧ Aside0 (Below w.heap.size w w'))
  case atStart => exact ⟨(wrap64 (1970 + (wrap64 (Int.tdiv (wrap64 (Int.tdiv a0 86400)) 366)))), (by first | rfl | (simp; done) | (simp [*]; done) | (simp [*]; exact isEmpty_bne _) | (simp; exact isEmpty_bne _)), H', ⟨Nat.le_refl _⟩, ⟨by repeat (first | (with_reducible first | exact HB.out | apply below_alloc | apply pw_below_drewN | apply below_drew1) | exact HB.out)⟩⟩
  case round =>
    clear H'
    obtain ⟨x5_1, rfl, HA, HK1, HB⟩ := hrel
    cases gk with
    | zero => exact absurd HA.out (by simp [stamp_show.l0])
    | succ k1 =>
      have H := HA.out
      clear HA
      simp only [stamp_show.l0] at H
      replace H := Option.bind_eq_some_iff.mp H
      obtain ⟨t147, A20, H⟩ := H
      replace H : (if t147 ≤ (wrap64 (Int.tdiv a0 86400)) then (stamp_show.l0 k1 (wrap64 (Int.tdiv a0 86400)) (Int.tmod a0 86400) (wrap64 (x5_1 + 1))) else ((stamp_since.f x5_1).bind fun t148 => (stamp_show.l1 k1 (wrap64 ((wrap64 (Int.tdiv a0 86400)) - t148)) (Int.tmod a0 86400) x5_1 1))) = some r := H
      have A2 := Aside0.mk A20
      clear A20
      by_cases c3 : t147 ≤ (wrap64 (Int.tdiv a0 86400))
      · rw [if_pos c3] at H
        have c3b0 : decide (t147 ≤ (wrap64 (Int.tdiv a0 86400))) = true := decide_eq_true c3
        clear c3
        have H' := Aside0.mk H
        clear H
        go_wp2_with (first | ((with_reducible refine gate_callee (f := 111) rfl ?_); refine goesL_ (some 17) rfl rfl Tryd.func111 (by kernel_rfl) rfl #[.int .i64 (wrap64 (x5_1 + 1))] rfl (by (try simp only [List.map_toArray, List.map_cons, List.map_nil]); first | done | rfl | (simp only [List.length_drop, List.length_take]; rfl)) ?_; (with_reducible refine (stamp_since.calls (wrap64 (x5_1 + 1)) t147 _ A2.out).mono ?_); rintro e w4 ⟨rfl, hb⟩; refine ⟨_, rfl, ?_⟩; have n0_ := Aside0.mk (below_step (by repeat (first | (with_reducible first | exact HB.out | apply below_alloc | apply pw_below_drewN | apply below_drew1) | exact HB.out)) hb); clear HB; have HB := n0_; clear n0_; (try clear hb); (try clear hb2); (try clear hk); (try clear hi)))
        go_roundg k1
        case measure => have := HK1.out; omega
        case rel => exact ⟨(wrap64 (x5_1 + 1)), (by first | rfl | (simp; done) | (simp [*]; done) | (simp [*]; exact isEmpty_bne _) | (simp; exact isEmpty_bne _)), H', ⟨by have := HK1.out; omega⟩, ⟨by repeat (first | (with_reducible first | exact HB.out | apply below_alloc | apply pw_below_drewN | apply below_drew1) | exact HB.out)⟩⟩
      · rw [if_neg c3] at H
        have c3b0 : decide (t147 ≤ (wrap64 (Int.tdiv a0 86400))) = false := decide_eq_false c3
        clear c3
        replace H := Option.bind_eq_some_iff.mp H
        obtain ⟨t148, A50, H⟩ := H
        replace H : (stamp_show.l1 k1 (wrap64 ((wrap64 (Int.tdiv a0 86400)) - t148)) (Int.tmod a0 86400) x5_1 1) = some r := H
        have A5 := Aside0.mk A50
        clear A50
        have H' := Aside0.mk H
        clear H
        go_wp2_with (first | ((with_reducible refine gate_callee (f := 111) rfl ?_); refine goesL_ (some 17) rfl rfl Tryd.func111 (by kernel_rfl) rfl #[.int .i64 (wrap64 (x5_1 + 1))] rfl (by (try simp only [List.map_toArray, List.map_cons, List.map_nil]); first | done | rfl | (simp only [List.length_drop, List.length_take]; rfl)) ?_; (with_reducible refine (stamp_since.calls (wrap64 (x5_1 + 1)) t147 _ A2.out).mono ?_); rintro e w6 ⟨rfl, hb⟩; refine ⟨_, rfl, ?_⟩; have n0_ := Aside0.mk (below_step (by repeat (first | (with_reducible first | exact HB.out | apply below_alloc | apply pw_below_drewN | apply below_drew1) | exact HB.out)) hb); clear HB; have HB := n0_; clear n0_; (try clear hb); (try clear hb2); (try clear hk); (try clear hi)) | ((with_reducible refine gate_callee (f := 111) rfl ?_); refine goesL_ (some 24) rfl rfl Tryd.func111 (by kernel_rfl) rfl #[.int .i64 x5_1] rfl (by (try simp only [List.map_toArray, List.map_cons, List.map_nil]); first | done | rfl | (simp only [List.length_drop, List.length_take]; rfl)) ?_; (with_reducible refine (stamp_since.calls x5_1 t148 _ A5.out).mono ?_); rintro e w7 ⟨rfl, hb⟩; refine ⟨_, rfl, ?_⟩; have n0_ := Aside0.mk (below_step (by repeat (first | (with_reducible first | exact HB.out | apply below_alloc | apply pw_below_drewN | apply below_drew1) | exact HB.out)) hb); clear HB; have HB := n0_; clear n0_; (try clear hb); (try clear hb2); (try clear hk); (try clear hi)))
        go_loopg [6] k1 (fun kq v6 w' => ∃ (x6_2 : Int), v6 = .int .i64 x6_2 ∧ Aside0 (stamp_show.l1 kq (wrap64 ((wrap64 (Int.tdiv a0 86400)) - t148)) (Int.tmod a0 86400) x5_1 x6_2 = some r) ∧ Aside0 (kq ≤ k1) ∧ Aside0 (Below w.heap.size w w'))
        case atStart => exact ⟨(1), (by first | rfl | (simp; done) | (simp [*]; done) | (simp [*]; exact isEmpty_bne _) | (simp; exact isEmpty_bne _)), H', ⟨Nat.le_refl _⟩, ⟨by repeat (first | (with_reducible first | exact HB.out | apply below_alloc | apply pw_below_drewN | apply below_drew1) | exact HB.out)⟩⟩
        case round =>
          clear H'
          try clear c1
          try clear p2
          try clear c3
          try clear c3b0
          try clear p6
          obtain ⟨x6_2, rfl, HA, HK2, HB⟩ := hrel
          cases gk with
          | zero => exact absurd HA.out (by simp [stamp_show.l1])
          | succ k2 =>
            have H := HA.out
            clear HA
            simp only [stamp_show.l1] at H
            replace H := Option.bind_eq_some_iff.mp H
            obtain ⟨t149, A80, H⟩ := H
            replace H : (if t149 ≤ (wrap64 ((wrap64 (Int.tdiv a0 86400)) - t148)) then (stamp_show.l1 k2 (wrap64 ((wrap64 (Int.tdiv a0 86400)) - t148)) (Int.tmod a0 86400) x5_1 (wrap64 (x6_2 + 1))) else ((stamp_two.f (wrap64 (Int.tdiv x5_1 100))).bind fun t150 => ((stamp_two.f (Int.tmod x5_1 100)).bind fun t151 => (if t150.size + t151.size ≤ 9223372036854775807 then (if (t150 ++ t151).size + 1 ≤ 9223372036854775807 then ((stamp_two.f x6_2).bind fun t152 => (if ((t150 ++ t151) ++ (⟨#[45]⟩ : ByteArray)).size + t152.size ≤ 9223372036854775807 then (if (((t150 ++ t151) ++ (⟨#[45]⟩ : ByteArray)) ++ t152).size + 1 ≤ 9223372036854775807 then ((stamp_before.f x5_1 x6_2).bind fun t153 => ((stamp_two.f (wrap64 ((wrap64 ((wrap64 ((wrap64 (Int.tdiv a0 86400)) - t148)) - t153)) + 1))).bind fun t154 => (if ((((t150 ++ t151) ++ (⟨#[45]⟩ : ByteArray)) ++ t152) ++ (⟨#[45]⟩ : ByteArray)).size + t154.size ≤ 9223372036854775807 then (if (((((t150 ++ t151) ++ (⟨#[45]⟩ : ByteArray)) ++ t152) ++ (⟨#[45]⟩ : ByteArray)) ++ t154).size + 1 ≤ 9223372036854775807 then ((stamp_two.f (wrap64 (Int.tdiv (Int.tmod a0 86400) 3600))).bind fun t155 => (if ((((((t150 ++ t151) ++ (⟨#[45]⟩ : ByteArray)) ++ t152) ++ (⟨#[45]⟩ : ByteArray)) ++ t154) ++ (⟨#[84]⟩ : ByteArray)).size + t155.size ≤ 9223372036854775807 then (if (((((((t150 ++ t151) ++ (⟨#[45]⟩ : ByteArray)) ++ t152) ++ (⟨#[45]⟩ : ByteArray)) ++ t154) ++ (⟨#[84]⟩ : ByteArray)) ++ t155).size + 1 ≤ 9223372036854775807 then ((stamp_two.f (Int.tmod (wrap64 (Int.tdiv (Int.tmod a0 86400) 60)) 60)).bind fun t156 => (if ((((((((t150 ++ t151) ++ (⟨#[45]⟩ : ByteArray)) ++ t152) ++ (⟨#[45]⟩ : ByteArray)) ++ t154) ++ (⟨#[84]⟩ : ByteArray)) ++ t155) ++ (⟨#[58]⟩ : ByteArray)).size + t156.size ≤ 9223372036854775807 then (if (((((((((t150 ++ t151) ++ (⟨#[45]⟩ : ByteArray)) ++ t152) ++ (⟨#[45]⟩ : ByteArray)) ++ t154) ++ (⟨#[84]⟩ : ByteArray)) ++ t155) ++ (⟨#[58]⟩ : ByteArray)) ++ t156).size + 1 ≤ 9223372036854775807 then ((stamp_two.f (Int.tmod (Int.tmod a0 86400) 60)).bind fun t157 => (if ((((((((((t150 ++ t151) ++ (⟨#[45]⟩ : ByteArray)) ++ t152) ++ (⟨#[45]⟩ : ByteArray)) ++ t154) ++ (⟨#[84]⟩ : ByteArray)) ++ t155) ++ (⟨#[58]⟩ : ByteArray)) ++ t156) ++ (⟨#[58]⟩ : ByteArray)).size + t157.size ≤ 9223372036854775807 then (some (((((((((((t150 ++ t151) ++ (⟨#[45]⟩ : ByteArray)) ++ t152) ++ (⟨#[45]⟩ : ByteArray)) ++ t154) ++ (⟨#[84]⟩ : ByteArray)) ++ t155) ++ (⟨#[58]⟩ : ByteArray)) ++ t156) ++ (⟨#[58]⟩ : ByteArray)) ++ t157)) else (none))) else (none)) else (none))) else (none)) else (none))) else (none)) else (none)))) else (none)) else (none))) else (none)) else (none))))) = some r := H
            have A8 := Aside0.mk A80
            clear A80
            by_cases c9 : t149 ≤ (wrap64 ((wrap64 (Int.tdiv a0 86400)) - t148))
            · rw [if_pos c9] at H
              have c9b0 : decide (t149 ≤ (wrap64 ((wrap64 (Int.tdiv a0 86400)) - t148))) = true := decide_eq_true c9
              clear c9
              have H' := Aside0.mk H
              clear H
              go_wp2_with (first | ((with_reducible refine gate_callee (f := 80) rfl ?_); refine goesL_ (some 29) rfl rfl Tryd.func80 (by kernel_rfl) rfl #[.int .i64 x5_1, .int .i64 (wrap64 (x6_2 + 1))] rfl (by (try simp only [List.map_toArray, List.map_cons, List.map_nil]); first | done | rfl | (simp only [List.length_drop, List.length_take]; rfl)) ?_; (with_reducible refine (stamp_before.calls x5_1 (wrap64 (x6_2 + 1)) t149 _ ?side1 A8.out).mono ?_); (case side1 => first | exact HGl.out | exact HGl.out.below (by repeat (first | (with_reducible first | exact HB.out | apply below_alloc | apply pw_below_drewN | apply below_drew1) | exact HB.out | exact Below.refl _ _))); rintro e w10 ⟨rfl, hb⟩; refine ⟨_, rfl, ?_⟩; have n0_ := Aside0.mk (below_step (by repeat (first | (with_reducible first | exact HB.out | apply below_alloc | apply pw_below_drewN | apply below_drew1) | exact HB.out)) hb); clear HB; have HB := n0_; clear n0_; (try clear hb); (try clear hb2); (try clear hk); (try clear hi)))
              go_roundg k2
              case measure => have := HK1.out; have := HK2.out; omega
              case rel => exact ⟨(wrap64 (x6_2 + 1)), (by first | rfl | (simp; done) | (simp [*]; done) | (simp [*]; exact isEmpty_bne _) | (simp; exact isEmpty_bne _)), H', ⟨by have := HK1.out; have := HK2.out; omega⟩, ⟨by repeat (first | (with_reducible first | exact HB.out | apply below_alloc | apply pw_below_drewN | apply below_drew1) | exact HB.out)⟩⟩
            · rw [if_neg c9] at H
              have c9b0 : decide (t149 ≤ (wrap64 ((wrap64 (Int.tdiv a0 86400)) - t148))) = false := decide_eq_false c9
              clear c9
              replace H := Option.bind_eq_some_iff.mp H
              obtain ⟨t150, A110, H⟩ := H
              replace H : ((stamp_two.f (Int.tmod x5_1 100)).bind fun t151 => (if t150.size + t151.size ≤ 9223372036854775807 then (if (t150 ++ t151).size + 1 ≤ 9223372036854775807 then ((stamp_two.f x6_2).bind fun t152 => (if ((t150 ++ t151) ++ (⟨#[45]⟩ : ByteArray)).size + t152.size ≤ 9223372036854775807 then (if (((t150 ++ t151) ++ (⟨#[45]⟩ : ByteArray)) ++ t152).size + 1 ≤ 9223372036854775807 then ((stamp_before.f x5_1 x6_2).bind fun t153 => ((stamp_two.f (wrap64 ((wrap64 ((wrap64 ((wrap64 (Int.tdiv a0 86400)) - t148)) - t153)) + 1))).bind fun t154 => (if ((((t150 ++ t151) ++ (⟨#[45]⟩ : ByteArray)) ++ t152) ++ (⟨#[45]⟩ : ByteArray)).size + t154.size ≤ 9223372036854775807 then (if (((((t150 ++ t151) ++ (⟨#[45]⟩ : ByteArray)) ++ t152) ++ (⟨#[45]⟩ : ByteArray)) ++ t154).size + 1 ≤ 9223372036854775807 then ((stamp_two.f (wrap64 (Int.tdiv (Int.tmod a0 86400) 3600))).bind fun t155 => (if ((((((t150 ++ t151) ++ (⟨#[45]⟩ : ByteArray)) ++ t152) ++ (⟨#[45]⟩ : ByteArray)) ++ t154) ++ (⟨#[84]⟩ : ByteArray)).size + t155.size ≤ 9223372036854775807 then (if (((((((t150 ++ t151) ++ (⟨#[45]⟩ : ByteArray)) ++ t152) ++ (⟨#[45]⟩ : ByteArray)) ++ t154) ++ (⟨#[84]⟩ : ByteArray)) ++ t155).size + 1 ≤ 9223372036854775807 then ((stamp_two.f (Int.tmod (wrap64 (Int.tdiv (Int.tmod a0 86400) 60)) 60)).bind fun t156 => (if ((((((((t150 ++ t151) ++ (⟨#[45]⟩ : ByteArray)) ++ t152) ++ (⟨#[45]⟩ : ByteArray)) ++ t154) ++ (⟨#[84]⟩ : ByteArray)) ++ t155) ++ (⟨#[58]⟩ : ByteArray)).size + t156.size ≤ 9223372036854775807 then (if (((((((((t150 ++ t151) ++ (⟨#[45]⟩ : ByteArray)) ++ t152) ++ (⟨#[45]⟩ : ByteArray)) ++ t154) ++ (⟨#[84]⟩ : ByteArray)) ++ t155) ++ (⟨#[58]⟩ : ByteArray)) ++ t156).size + 1 ≤ 9223372036854775807 then ((stamp_two.f (Int.tmod (Int.tmod a0 86400) 60)).bind fun t157 => (if ((((((((((t150 ++ t151) ++ (⟨#[45]⟩ : ByteArray)) ++ t152) ++ (⟨#[45]⟩ : ByteArray)) ++ t154) ++ (⟨#[84]⟩ : ByteArray)) ++ t155) ++ (⟨#[58]⟩ : ByteArray)) ++ t156) ++ (⟨#[58]⟩ : ByteArray)).size + t157.size ≤ 9223372036854775807 then (some (((((((((((t150 ++ t151) ++ (⟨#[45]⟩ : ByteArray)) ++ t152) ++ (⟨#[45]⟩ : ByteArray)) ++ t154) ++ (⟨#[84]⟩ : ByteArray)) ++ t155) ++ (⟨#[58]⟩ : ByteArray)) ++ t156) ++ (⟨#[58]⟩ : ByteArray)) ++ t157)) else (none))) else (none)) else (none))) else (none)) else (none))) else (none)) else (none)))) else (none)) else (none))) else (none)) else (none))) = some r := H
              have A11 := Aside0.mk A110
              clear A110
              replace H := Option.bind_eq_some_iff.mp H
              obtain ⟨t151, A120, H⟩ := H
              replace H : (if t150.size + t151.size ≤ 9223372036854775807 then (if (t150 ++ t151).size + 1 ≤ 9223372036854775807 then ((stamp_two.f x6_2).bind fun t152 => (if ((t150 ++ t151) ++ (⟨#[45]⟩ : ByteArray)).size + t152.size ≤ 9223372036854775807 then (if (((t150 ++ t151) ++ (⟨#[45]⟩ : ByteArray)) ++ t152).size + 1 ≤ 9223372036854775807 then ((stamp_before.f x5_1 x6_2).bind fun t153 => ((stamp_two.f (wrap64 ((wrap64 ((wrap64 ((wrap64 (Int.tdiv a0 86400)) - t148)) - t153)) + 1))).bind fun t154 => (if ((((t150 ++ t151) ++ (⟨#[45]⟩ : ByteArray)) ++ t152) ++ (⟨#[45]⟩ : ByteArray)).size + t154.size ≤ 9223372036854775807 then (if (((((t150 ++ t151) ++ (⟨#[45]⟩ : ByteArray)) ++ t152) ++ (⟨#[45]⟩ : ByteArray)) ++ t154).size + 1 ≤ 9223372036854775807 then ((stamp_two.f (wrap64 (Int.tdiv (Int.tmod a0 86400) 3600))).bind fun t155 => (if ((((((t150 ++ t151) ++ (⟨#[45]⟩ : ByteArray)) ++ t152) ++ (⟨#[45]⟩ : ByteArray)) ++ t154) ++ (⟨#[84]⟩ : ByteArray)).size + t155.size ≤ 9223372036854775807 then (if (((((((t150 ++ t151) ++ (⟨#[45]⟩ : ByteArray)) ++ t152) ++ (⟨#[45]⟩ : ByteArray)) ++ t154) ++ (⟨#[84]⟩ : ByteArray)) ++ t155).size + 1 ≤ 9223372036854775807 then ((stamp_two.f (Int.tmod (wrap64 (Int.tdiv (Int.tmod a0 86400) 60)) 60)).bind fun t156 => (if ((((((((t150 ++ t151) ++ (⟨#[45]⟩ : ByteArray)) ++ t152) ++ (⟨#[45]⟩ : ByteArray)) ++ t154) ++ (⟨#[84]⟩ : ByteArray)) ++ t155) ++ (⟨#[58]⟩ : ByteArray)).size + t156.size ≤ 9223372036854775807 then (if (((((((((t150 ++ t151) ++ (⟨#[45]⟩ : ByteArray)) ++ t152) ++ (⟨#[45]⟩ : ByteArray)) ++ t154) ++ (⟨#[84]⟩ : ByteArray)) ++ t155) ++ (⟨#[58]⟩ : ByteArray)) ++ t156).size + 1 ≤ 9223372036854775807 then ((stamp_two.f (Int.tmod (Int.tmod a0 86400) 60)).bind fun t157 => (if ((((((((((t150 ++ t151) ++ (⟨#[45]⟩ : ByteArray)) ++ t152) ++ (⟨#[45]⟩ : ByteArray)) ++ t154) ++ (⟨#[84]⟩ : ByteArray)) ++ t155) ++ (⟨#[58]⟩ : ByteArray)) ++ t156) ++ (⟨#[58]⟩ : ByteArray)).size + t157.size ≤ 9223372036854775807 then (some (((((((((((t150 ++ t151) ++ (⟨#[45]⟩ : ByteArray)) ++ t152) ++ (⟨#[45]⟩ : ByteArray)) ++ t154) ++ (⟨#[84]⟩ : ByteArray)) ++ t155) ++ (⟨#[58]⟩ : ByteArray)) ++ t156) ++ (⟨#[58]⟩ : ByteArray)) ++ t157)) else (none))) else (none)) else (none))) else (none)) else (none))) else (none)) else (none)))) else (none)) else (none))) else (none)) else (none)) = some r := H
              have A12 := Aside0.mk A120
              clear A120
              by_cases c13 : t150.size + t151.size ≤ 9223372036854775807
              · rw [if_pos c13] at H
                have c13b0 := eq_true c13
                have c13b1 : decide (t150.size + t151.size ≤ 9223372036854775807) = true := decide_eq_true c13
                try have c13b2 : (9223372036854775807 < t150.size + t151.size) = False := eq_false (Nat.not_lt.2 c13)
                by_cases c14 : (t150 ++ t151).size + 1 ≤ 9223372036854775807
                · rw [if_pos c14] at H
                  have c14b0 := eq_true c14
                  have c14b1 : decide ((t150 ++ t151).size + 1 ≤ 9223372036854775807) = true := decide_eq_true c14
                  try have c14b2 : (9223372036854775807 < (t150 ++ t151).size + 1) = False := eq_false (Nat.not_lt.2 c14)
                  have c14z2 := c14b2
                  simp only [ByteArray.size_append] at c14z2
                  have c14z3 := c14z2
                  try simp only [size_lit1, size_lit2, size_lit3, size_lit4] at c14z3
                  replace H := Option.bind_eq_some_iff.mp H
                  obtain ⟨t152, A150, H⟩ := H
                  replace H : (if ((t150 ++ t151) ++ (⟨#[45]⟩ : ByteArray)).size + t152.size ≤ 9223372036854775807 then (if (((t150 ++ t151) ++ (⟨#[45]⟩ : ByteArray)) ++ t152).size + 1 ≤ 9223372036854775807 then ((stamp_before.f x5_1 x6_2).bind fun t153 => ((stamp_two.f (wrap64 ((wrap64 ((wrap64 ((wrap64 (Int.tdiv a0 86400)) - t148)) - t153)) + 1))).bind fun t154 => (if ((((t150 ++ t151) ++ (⟨#[45]⟩ : ByteArray)) ++ t152) ++ (⟨#[45]⟩ : ByteArray)).size + t154.size ≤ 9223372036854775807 then (if (((((t150 ++ t151) ++ (⟨#[45]⟩ : ByteArray)) ++ t152) ++ (⟨#[45]⟩ : ByteArray)) ++ t154).size + 1 ≤ 9223372036854775807 then ((stamp_two.f (wrap64 (Int.tdiv (Int.tmod a0 86400) 3600))).bind fun t155 => (if ((((((t150 ++ t151) ++ (⟨#[45]⟩ : ByteArray)) ++ t152) ++ (⟨#[45]⟩ : ByteArray)) ++ t154) ++ (⟨#[84]⟩ : ByteArray)).size + t155.size ≤ 9223372036854775807 then (if (((((((t150 ++ t151) ++ (⟨#[45]⟩ : ByteArray)) ++ t152) ++ (⟨#[45]⟩ : ByteArray)) ++ t154) ++ (⟨#[84]⟩ : ByteArray)) ++ t155).size + 1 ≤ 9223372036854775807 then ((stamp_two.f (Int.tmod (wrap64 (Int.tdiv (Int.tmod a0 86400) 60)) 60)).bind fun t156 => (if ((((((((t150 ++ t151) ++ (⟨#[45]⟩ : ByteArray)) ++ t152) ++ (⟨#[45]⟩ : ByteArray)) ++ t154) ++ (⟨#[84]⟩ : ByteArray)) ++ t155) ++ (⟨#[58]⟩ : ByteArray)).size + t156.size ≤ 9223372036854775807 then (if (((((((((t150 ++ t151) ++ (⟨#[45]⟩ : ByteArray)) ++ t152) ++ (⟨#[45]⟩ : ByteArray)) ++ t154) ++ (⟨#[84]⟩ : ByteArray)) ++ t155) ++ (⟨#[58]⟩ : ByteArray)) ++ t156).size + 1 ≤ 9223372036854775807 then ((stamp_two.f (Int.tmod (Int.tmod a0 86400) 60)).bind fun t157 => (if ((((((((((t150 ++ t151) ++ (⟨#[45]⟩ : ByteArray)) ++ t152) ++ (⟨#[45]⟩ : ByteArray)) ++ t154) ++ (⟨#[84]⟩ : ByteArray)) ++ t155) ++ (⟨#[58]⟩ : ByteArray)) ++ t156) ++ (⟨#[58]⟩ : ByteArray)).size + t157.size ≤ 9223372036854775807 then (some (((((((((((t150 ++ t151) ++ (⟨#[45]⟩ : ByteArray)) ++ t152) ++ (⟨#[45]⟩ : ByteArray)) ++ t154) ++ (⟨#[84]⟩ : ByteArray)) ++ t155) ++ (⟨#[58]⟩ : ByteArray)) ++ t156) ++ (⟨#[58]⟩ : ByteArray)) ++ t157)) else (none))) else (none)) else (none))) else (none)) else (none))) else (none)) else (none)))) else (none)) else (none)) = some r := H
                  have A15 := Aside0.mk A150
                  clear A150
                  by_cases c16 : ((t150 ++ t151) ++ (⟨#[45]⟩ : ByteArray)).size + t152.size ≤ 9223372036854775807
                  · rw [if_pos c16] at H
                    have c16b0 := eq_true c16
                    have c16b1 : decide (((t150 ++ t151) ++ (⟨#[45]⟩ : ByteArray)).size + t152.size ≤ 9223372036854775807) = true := decide_eq_true c16
                    try have c16b2 : (9223372036854775807 < ((t150 ++ t151) ++ (⟨#[45]⟩ : ByteArray)).size + t152.size) = False := eq_false (Nat.not_lt.2 c16)
                    have c16z2 := c16b2
                    simp only [ByteArray.size_append] at c16z2
                    have c16z3 := c16z2
                    try simp only [size_lit1, size_lit2, size_lit3, size_lit4] at c16z3
                    by_cases c17 : (((t150 ++ t151) ++ (⟨#[45]⟩ : ByteArray)) ++ t152).size + 1 ≤ 9223372036854775807
                    · rw [if_pos c17] at H
                      have c17b0 := eq_true c17
                      have c17b1 : decide ((((t150 ++ t151) ++ (⟨#[45]⟩ : ByteArray)) ++ t152).size + 1 ≤ 9223372036854775807) = true := decide_eq_true c17
                      try have c17b2 : (9223372036854775807 < (((t150 ++ t151) ++ (⟨#[45]⟩ : ByteArray)) ++ t152).size + 1) = False := eq_false (Nat.not_lt.2 c17)
                      have c17z2 := c17b2
                      simp only [ByteArray.size_append] at c17z2
                      have c17z3 := c17z2
                      try simp only [size_lit1, size_lit2, size_lit3, size_lit4] at c17z3
                      replace H := Option.bind_eq_some_iff.mp H
                      obtain ⟨t153, A180, H⟩ := H
                      replace H : ((stamp_two.f (wrap64 ((wrap64 ((wrap64 ((wrap64 (Int.tdiv a0 86400)) - t148)) - t153)) + 1))).bind fun t154 => (if ((((t150 ++ t151) ++ (⟨#[45]⟩ : ByteArray)) ++ t152) ++ (⟨#[45]⟩ : ByteArray)).size + t154.size ≤ 9223372036854775807 then (if (((((t150 ++ t151) ++ (⟨#[45]⟩ : ByteArray)) ++ t152) ++ (⟨#[45]⟩ : ByteArray)) ++ t154).size + 1 ≤ 9223372036854775807 then ((stamp_two.f (wrap64 (Int.tdiv (Int.tmod a0 86400) 3600))).bind fun t155 => (if ((((((t150 ++ t151) ++ (⟨#[45]⟩ : ByteArray)) ++ t152) ++ (⟨#[45]⟩ : ByteArray)) ++ t154) ++ (⟨#[84]⟩ : ByteArray)).size + t155.size ≤ 9223372036854775807 then (if (((((((t150 ++ t151) ++ (⟨#[45]⟩ : ByteArray)) ++ t152) ++ (⟨#[45]⟩ : ByteArray)) ++ t154) ++ (⟨#[84]⟩ : ByteArray)) ++ t155).size + 1 ≤ 9223372036854775807 then ((stamp_two.f (Int.tmod (wrap64 (Int.tdiv (Int.tmod a0 86400) 60)) 60)).bind fun t156 => (if ((((((((t150 ++ t151) ++ (⟨#[45]⟩ : ByteArray)) ++ t152) ++ (⟨#[45]⟩ : ByteArray)) ++ t154) ++ (⟨#[84]⟩ : ByteArray)) ++ t155) ++ (⟨#[58]⟩ : ByteArray)).size + t156.size ≤ 9223372036854775807 then (if (((((((((t150 ++ t151) ++ (⟨#[45]⟩ : ByteArray)) ++ t152) ++ (⟨#[45]⟩ : ByteArray)) ++ t154) ++ (⟨#[84]⟩ : ByteArray)) ++ t155) ++ (⟨#[58]⟩ : ByteArray)) ++ t156).size + 1 ≤ 9223372036854775807 then ((stamp_two.f (Int.tmod (Int.tmod a0 86400) 60)).bind fun t157 => (if ((((((((((t150 ++ t151) ++ (⟨#[45]⟩ : ByteArray)) ++ t152) ++ (⟨#[45]⟩ : ByteArray)) ++ t154) ++ (⟨#[84]⟩ : ByteArray)) ++ t155) ++ (⟨#[58]⟩ : ByteArray)) ++ t156) ++ (⟨#[58]⟩ : ByteArray)).size + t157.size ≤ 9223372036854775807 then (some (((((((((((t150 ++ t151) ++ (⟨#[45]⟩ : ByteArray)) ++ t152) ++ (⟨#[45]⟩ : ByteArray)) ++ t154) ++ (⟨#[84]⟩ : ByteArray)) ++ t155) ++ (⟨#[58]⟩ : ByteArray)) ++ t156) ++ (⟨#[58]⟩ : ByteArray)) ++ t157)) else (none))) else (none)) else (none))) else (none)) else (none))) else (none)) else (none))) = some r := H
                      have A18 := Aside0.mk A180
                      clear A180
                      replace H := Option.bind_eq_some_iff.mp H
                      obtain ⟨t154, A190, H⟩ := H
                      replace H : (if ((((t150 ++ t151) ++ (⟨#[45]⟩ : ByteArray)) ++ t152) ++ (⟨#[45]⟩ : ByteArray)).size + t154.size ≤ 9223372036854775807 then (if (((((t150 ++ t151) ++ (⟨#[45]⟩ : ByteArray)) ++ t152) ++ (⟨#[45]⟩ : ByteArray)) ++ t154).size + 1 ≤ 9223372036854775807 then ((stamp_two.f (wrap64 (Int.tdiv (Int.tmod a0 86400) 3600))).bind fun t155 => (if ((((((t150 ++ t151) ++ (⟨#[45]⟩ : ByteArray)) ++ t152) ++ (⟨#[45]⟩ : ByteArray)) ++ t154) ++ (⟨#[84]⟩ : ByteArray)).size + t155.size ≤ 9223372036854775807 then (if (((((((t150 ++ t151) ++ (⟨#[45]⟩ : ByteArray)) ++ t152) ++ (⟨#[45]⟩ : ByteArray)) ++ t154) ++ (⟨#[84]⟩ : ByteArray)) ++ t155).size + 1 ≤ 9223372036854775807 then ((stamp_two.f (Int.tmod (wrap64 (Int.tdiv (Int.tmod a0 86400) 60)) 60)).bind fun t156 => (if ((((((((t150 ++ t151) ++ (⟨#[45]⟩ : ByteArray)) ++ t152) ++ (⟨#[45]⟩ : ByteArray)) ++ t154) ++ (⟨#[84]⟩ : ByteArray)) ++ t155) ++ (⟨#[58]⟩ : ByteArray)).size + t156.size ≤ 9223372036854775807 then (if (((((((((t150 ++ t151) ++ (⟨#[45]⟩ : ByteArray)) ++ t152) ++ (⟨#[45]⟩ : ByteArray)) ++ t154) ++ (⟨#[84]⟩ : ByteArray)) ++ t155) ++ (⟨#[58]⟩ : ByteArray)) ++ t156).size + 1 ≤ 9223372036854775807 then ((stamp_two.f (Int.tmod (Int.tmod a0 86400) 60)).bind fun t157 => (if ((((((((((t150 ++ t151) ++ (⟨#[45]⟩ : ByteArray)) ++ t152) ++ (⟨#[45]⟩ : ByteArray)) ++ t154) ++ (⟨#[84]⟩ : ByteArray)) ++ t155) ++ (⟨#[58]⟩ : ByteArray)) ++ t156) ++ (⟨#[58]⟩ : ByteArray)).size + t157.size ≤ 9223372036854775807 then (some (((((((((((t150 ++ t151) ++ (⟨#[45]⟩ : ByteArray)) ++ t152) ++ (⟨#[45]⟩ : ByteArray)) ++ t154) ++ (⟨#[84]⟩ : ByteArray)) ++ t155) ++ (⟨#[58]⟩ : ByteArray)) ++ t156) ++ (⟨#[58]⟩ : ByteArray)) ++ t157)) else (none))) else (none)) else (none))) else (none)) else (none))) else (none)) else (none)) = some r := H
                      have A19 := Aside0.mk A190
                      clear A190
                      by_cases c20 : ((((t150 ++ t151) ++ (⟨#[45]⟩ : ByteArray)) ++ t152) ++ (⟨#[45]⟩ : ByteArray)).size + t154.size ≤ 9223372036854775807
                      · rw [if_pos c20] at H
                        have c20b0 := eq_true c20
                        have c20b1 : decide (((((t150 ++ t151) ++ (⟨#[45]⟩ : ByteArray)) ++ t152) ++ (⟨#[45]⟩ : ByteArray)).size + t154.size ≤ 9223372036854775807) = true := decide_eq_true c20
                        try have c20b2 : (9223372036854775807 < ((((t150 ++ t151) ++ (⟨#[45]⟩ : ByteArray)) ++ t152) ++ (⟨#[45]⟩ : ByteArray)).size + t154.size) = False := eq_false (Nat.not_lt.2 c20)
                        have c20z2 := c20b2
                        simp only [ByteArray.size_append] at c20z2
                        have c20z3 := c20z2
                        try simp only [size_lit1, size_lit2, size_lit3, size_lit4] at c20z3
                        by_cases c21 : (((((t150 ++ t151) ++ (⟨#[45]⟩ : ByteArray)) ++ t152) ++ (⟨#[45]⟩ : ByteArray)) ++ t154).size + 1 ≤ 9223372036854775807
                        · rw [if_pos c21] at H
                          have c21b0 := eq_true c21
                          have c21b1 : decide ((((((t150 ++ t151) ++ (⟨#[45]⟩ : ByteArray)) ++ t152) ++ (⟨#[45]⟩ : ByteArray)) ++ t154).size + 1 ≤ 9223372036854775807) = true := decide_eq_true c21
                          try have c21b2 : (9223372036854775807 < (((((t150 ++ t151) ++ (⟨#[45]⟩ : ByteArray)) ++ t152) ++ (⟨#[45]⟩ : ByteArray)) ++ t154).size + 1) = False := eq_false (Nat.not_lt.2 c21)
                          have c21z2 := c21b2
                          simp only [ByteArray.size_append] at c21z2
                          have c21z3 := c21z2
                          try simp only [size_lit1, size_lit2, size_lit3, size_lit4] at c21z3
                          replace H := Option.bind_eq_some_iff.mp H
                          obtain ⟨t155, A220, H⟩ := H
                          replace H : (if ((((((t150 ++ t151) ++ (⟨#[45]⟩ : ByteArray)) ++ t152) ++ (⟨#[45]⟩ : ByteArray)) ++ t154) ++ (⟨#[84]⟩ : ByteArray)).size + t155.size ≤ 9223372036854775807 then (if (((((((t150 ++ t151) ++ (⟨#[45]⟩ : ByteArray)) ++ t152) ++ (⟨#[45]⟩ : ByteArray)) ++ t154) ++ (⟨#[84]⟩ : ByteArray)) ++ t155).size + 1 ≤ 9223372036854775807 then ((stamp_two.f (Int.tmod (wrap64 (Int.tdiv (Int.tmod a0 86400) 60)) 60)).bind fun t156 => (if ((((((((t150 ++ t151) ++ (⟨#[45]⟩ : ByteArray)) ++ t152) ++ (⟨#[45]⟩ : ByteArray)) ++ t154) ++ (⟨#[84]⟩ : ByteArray)) ++ t155) ++ (⟨#[58]⟩ : ByteArray)).size + t156.size ≤ 9223372036854775807 then (if (((((((((t150 ++ t151) ++ (⟨#[45]⟩ : ByteArray)) ++ t152) ++ (⟨#[45]⟩ : ByteArray)) ++ t154) ++ (⟨#[84]⟩ : ByteArray)) ++ t155) ++ (⟨#[58]⟩ : ByteArray)) ++ t156).size + 1 ≤ 9223372036854775807 then ((stamp_two.f (Int.tmod (Int.tmod a0 86400) 60)).bind fun t157 => (if ((((((((((t150 ++ t151) ++ (⟨#[45]⟩ : ByteArray)) ++ t152) ++ (⟨#[45]⟩ : ByteArray)) ++ t154) ++ (⟨#[84]⟩ : ByteArray)) ++ t155) ++ (⟨#[58]⟩ : ByteArray)) ++ t156) ++ (⟨#[58]⟩ : ByteArray)).size + t157.size ≤ 9223372036854775807 then (some (((((((((((t150 ++ t151) ++ (⟨#[45]⟩ : ByteArray)) ++ t152) ++ (⟨#[45]⟩ : ByteArray)) ++ t154) ++ (⟨#[84]⟩ : ByteArray)) ++ t155) ++ (⟨#[58]⟩ : ByteArray)) ++ t156) ++ (⟨#[58]⟩ : ByteArray)) ++ t157)) else (none))) else (none)) else (none))) else (none)) else (none)) = some r := H
                          have A22 := Aside0.mk A220
                          clear A220
                          by_cases c23 : ((((((t150 ++ t151) ++ (⟨#[45]⟩ : ByteArray)) ++ t152) ++ (⟨#[45]⟩ : ByteArray)) ++ t154) ++ (⟨#[84]⟩ : ByteArray)).size + t155.size ≤ 9223372036854775807
                          · rw [if_pos c23] at H
                            have c23b0 := eq_true c23
                            have c23b1 : decide (((((((t150 ++ t151) ++ (⟨#[45]⟩ : ByteArray)) ++ t152) ++ (⟨#[45]⟩ : ByteArray)) ++ t154) ++ (⟨#[84]⟩ : ByteArray)).size + t155.size ≤ 9223372036854775807) = true := decide_eq_true c23
                            try have c23b2 : (9223372036854775807 < ((((((t150 ++ t151) ++ (⟨#[45]⟩ : ByteArray)) ++ t152) ++ (⟨#[45]⟩ : ByteArray)) ++ t154) ++ (⟨#[84]⟩ : ByteArray)).size + t155.size) = False := eq_false (Nat.not_lt.2 c23)
                            have c23z2 := c23b2
                            simp only [ByteArray.size_append] at c23z2
                            have c23z3 := c23z2
                            try simp only [size_lit1, size_lit2, size_lit3, size_lit4] at c23z3
                            by_cases c24 : (((((((t150 ++ t151) ++ (⟨#[45]⟩ : ByteArray)) ++ t152) ++ (⟨#[45]⟩ : ByteArray)) ++ t154) ++ (⟨#[84]⟩ : ByteArray)) ++ t155).size + 1 ≤ 9223372036854775807
                            · rw [if_pos c24] at H
                              have c24b0 := eq_true c24
                              have c24b1 : decide ((((((((t150 ++ t151) ++ (⟨#[45]⟩ : ByteArray)) ++ t152) ++ (⟨#[45]⟩ : ByteArray)) ++ t154) ++ (⟨#[84]⟩ : ByteArray)) ++ t155).size + 1 ≤ 9223372036854775807) = true := decide_eq_true c24
                              try have c24b2 : (9223372036854775807 < (((((((t150 ++ t151) ++ (⟨#[45]⟩ : ByteArray)) ++ t152) ++ (⟨#[45]⟩ : ByteArray)) ++ t154) ++ (⟨#[84]⟩ : ByteArray)) ++ t155).size + 1) = False := eq_false (Nat.not_lt.2 c24)
                              have c24z2 := c24b2
                              simp only [ByteArray.size_append] at c24z2
                              have c24z3 := c24z2
                              try simp only [size_lit1, size_lit2, size_lit3, size_lit4] at c24z3
                              replace H := Option.bind_eq_some_iff.mp H
                              obtain ⟨t156, A250, H⟩ := H
                              replace H : (if ((((((((t150 ++ t151) ++ (⟨#[45]⟩ : ByteArray)) ++ t152) ++ (⟨#[45]⟩ : ByteArray)) ++ t154) ++ (⟨#[84]⟩ : ByteArray)) ++ t155) ++ (⟨#[58]⟩ : ByteArray)).size + t156.size ≤ 9223372036854775807 then (if (((((((((t150 ++ t151) ++ (⟨#[45]⟩ : ByteArray)) ++ t152) ++ (⟨#[45]⟩ : ByteArray)) ++ t154) ++ (⟨#[84]⟩ : ByteArray)) ++ t155) ++ (⟨#[58]⟩ : ByteArray)) ++ t156).size + 1 ≤ 9223372036854775807 then ((stamp_two.f (Int.tmod (Int.tmod a0 86400) 60)).bind fun t157 => (if ((((((((((t150 ++ t151) ++ (⟨#[45]⟩ : ByteArray)) ++ t152) ++ (⟨#[45]⟩ : ByteArray)) ++ t154) ++ (⟨#[84]⟩ : ByteArray)) ++ t155) ++ (⟨#[58]⟩ : ByteArray)) ++ t156) ++ (⟨#[58]⟩ : ByteArray)).size + t157.size ≤ 9223372036854775807 then (some (((((((((((t150 ++ t151) ++ (⟨#[45]⟩ : ByteArray)) ++ t152) ++ (⟨#[45]⟩ : ByteArray)) ++ t154) ++ (⟨#[84]⟩ : ByteArray)) ++ t155) ++ (⟨#[58]⟩ : ByteArray)) ++ t156) ++ (⟨#[58]⟩ : ByteArray)) ++ t157)) else (none))) else (none)) else (none)) = some r := H
                              have A25 := Aside0.mk A250
                              clear A250
                              by_cases c26 : ((((((((t150 ++ t151) ++ (⟨#[45]⟩ : ByteArray)) ++ t152) ++ (⟨#[45]⟩ : ByteArray)) ++ t154) ++ (⟨#[84]⟩ : ByteArray)) ++ t155) ++ (⟨#[58]⟩ : ByteArray)).size + t156.size ≤ 9223372036854775807
                              · rw [if_pos c26] at H
                                have c26b0 := eq_true c26
                                have c26b1 : decide (((((((((t150 ++ t151) ++ (⟨#[45]⟩ : ByteArray)) ++ t152) ++ (⟨#[45]⟩ : ByteArray)) ++ t154) ++ (⟨#[84]⟩ : ByteArray)) ++ t155) ++ (⟨#[58]⟩ : ByteArray)).size + t156.size ≤ 9223372036854775807) = true := decide_eq_true c26
                                try have c26b2 : (9223372036854775807 < ((((((((t150 ++ t151) ++ (⟨#[45]⟩ : ByteArray)) ++ t152) ++ (⟨#[45]⟩ : ByteArray)) ++ t154) ++ (⟨#[84]⟩ : ByteArray)) ++ t155) ++ (⟨#[58]⟩ : ByteArray)).size + t156.size) = False := eq_false (Nat.not_lt.2 c26)
                                have c26z2 := c26b2
                                simp only [ByteArray.size_append] at c26z2
                                have c26z3 := c26z2
                                try simp only [size_lit1, size_lit2, size_lit3, size_lit4] at c26z3
                                by_cases c27 : (((((((((t150 ++ t151) ++ (⟨#[45]⟩ : ByteArray)) ++ t152) ++ (⟨#[45]⟩ : ByteArray)) ++ t154) ++ (⟨#[84]⟩ : ByteArray)) ++ t155) ++ (⟨#[58]⟩ : ByteArray)) ++ t156).size + 1 ≤ 9223372036854775807
                                · rw [if_pos c27] at H
                                  have c27b0 := eq_true c27
                                  have c27b1 : decide ((((((((((t150 ++ t151) ++ (⟨#[45]⟩ : ByteArray)) ++ t152) ++ (⟨#[45]⟩ : ByteArray)) ++ t154) ++ (⟨#[84]⟩ : ByteArray)) ++ t155) ++ (⟨#[58]⟩ : ByteArray)) ++ t156).size + 1 ≤ 9223372036854775807) = true := decide_eq_true c27
                                  try have c27b2 : (9223372036854775807 < (((((((((t150 ++ t151) ++ (⟨#[45]⟩ : ByteArray)) ++ t152) ++ (⟨#[45]⟩ : ByteArray)) ++ t154) ++ (⟨#[84]⟩ : ByteArray)) ++ t155) ++ (⟨#[58]⟩ : ByteArray)) ++ t156).size + 1) = False := eq_false (Nat.not_lt.2 c27)
                                  have c27z2 := c27b2
                                  simp only [ByteArray.size_append] at c27z2
                                  have c27z3 := c27z2
                                  try simp only [size_lit1, size_lit2, size_lit3, size_lit4] at c27z3
                                  replace H := Option.bind_eq_some_iff.mp H
                                  obtain ⟨t157, A280, H⟩ := H
                                  replace H : (if ((((((((((t150 ++ t151) ++ (⟨#[45]⟩ : ByteArray)) ++ t152) ++ (⟨#[45]⟩ : ByteArray)) ++ t154) ++ (⟨#[84]⟩ : ByteArray)) ++ t155) ++ (⟨#[58]⟩ : ByteArray)) ++ t156) ++ (⟨#[58]⟩ : ByteArray)).size + t157.size ≤ 9223372036854775807 then (some (((((((((((t150 ++ t151) ++ (⟨#[45]⟩ : ByteArray)) ++ t152) ++ (⟨#[45]⟩ : ByteArray)) ++ t154) ++ (⟨#[84]⟩ : ByteArray)) ++ t155) ++ (⟨#[58]⟩ : ByteArray)) ++ t156) ++ (⟨#[58]⟩ : ByteArray)) ++ t157)) else (none)) = some r := H
                                  rw [Int.tmod_tmod_of_dvd _ (by decide)] at A280
                                  have A28 := Aside0.mk A280
                                  clear A280
                                  by_cases c29 : ((((((((((t150 ++ t151) ++ (⟨#[45]⟩ : ByteArray)) ++ t152) ++ (⟨#[45]⟩ : ByteArray)) ++ t154) ++ (⟨#[84]⟩ : ByteArray)) ++ t155) ++ (⟨#[58]⟩ : ByteArray)) ++ t156) ++ (⟨#[58]⟩ : ByteArray)).size + t157.size ≤ 9223372036854775807
                                  · rw [if_pos c29] at H
                                    have c29b0 := eq_true c29
                                    have c29b1 : decide (((((((((((t150 ++ t151) ++ (⟨#[45]⟩ : ByteArray)) ++ t152) ++ (⟨#[45]⟩ : ByteArray)) ++ t154) ++ (⟨#[84]⟩ : ByteArray)) ++ t155) ++ (⟨#[58]⟩ : ByteArray)) ++ t156) ++ (⟨#[58]⟩ : ByteArray)).size + t157.size ≤ 9223372036854775807) = true := decide_eq_true c29
                                    try have c29b2 : (9223372036854775807 < ((((((((((t150 ++ t151) ++ (⟨#[45]⟩ : ByteArray)) ++ t152) ++ (⟨#[45]⟩ : ByteArray)) ++ t154) ++ (⟨#[84]⟩ : ByteArray)) ++ t155) ++ (⟨#[58]⟩ : ByteArray)) ++ t156) ++ (⟨#[58]⟩ : ByteArray)).size + t157.size) = False := eq_false (Nat.not_lt.2 c29)
                                    have c29z2 := c29b2
                                    simp only [ByteArray.size_append] at c29z2
                                    have c29z3 := c29z2
                                    try simp only [size_lit1, size_lit2, size_lit3, size_lit4] at c29z3
                                    obtain rfl := Option.some.inj H
                                    go_wp2_with (first | ((with_reducible refine gate_callee (f := 80) rfl ?_); refine goesL_ (some 29) rfl rfl Tryd.func80 (by kernel_rfl) rfl #[.int .i64 x5_1, .int .i64 (wrap64 (x6_2 + 1))] rfl (by (try simp only [List.map_toArray, List.map_cons, List.map_nil]); first | done | rfl | (simp only [List.length_drop, List.length_take]; rfl)) ?_; (with_reducible refine (stamp_before.calls x5_1 (wrap64 (x6_2 + 1)) t149 _ ?side1 A8.out).mono ?_); (case side1 => first | exact HGl.out | exact HGl.out.below (by repeat (first | (with_reducible first | exact HB.out | apply below_alloc | apply pw_below_drewN | apply below_drew1) | exact HB.out | exact Below.refl _ _))); rintro e w30 ⟨rfl, hb⟩; refine ⟨_, rfl, ?_⟩; have n0_ := Aside0.mk (below_step (by repeat (first | (with_reducible first | exact HB.out | apply below_alloc | apply pw_below_drewN | apply below_drew1) | exact HB.out)) hb); clear HB; have HB := n0_; clear n0_; (try clear hb); (try clear hb2); (try clear hk); (try clear hi)) | ((with_reducible refine gate_callee (f := 54) rfl ?_); refine goesL_ (some 36) rfl rfl Tryd.func54 (by kernel_rfl) rfl #[.int .i64 (wrap64 (Int.tdiv x5_1 100))] rfl (by (try simp only [List.map_toArray, List.map_cons, List.map_nil]); first | done | rfl | (simp only [List.length_drop, List.length_take]; rfl)) ?_; (with_reducible refine (stamp_two.calls (wrap64 (Int.tdiv x5_1 100)) t150 _ A11.out).mono ?_); rintro e w31 ⟨rfl, hb⟩; refine ⟨_, rfl, ?_⟩; have n0_ := Aside0.mk (below_step (by repeat (first | (with_reducible first | exact HB.out | apply below_alloc | apply pw_below_drewN | apply below_drew1) | exact HB.out)) hb); clear HB; have HB := n0_; clear n0_; (try clear hb); (try clear hb2); (try clear hk); (try clear hi)) | ((with_reducible refine gate_callee (f := 54) rfl ?_); refine goesL_ (some 39) rfl rfl Tryd.func54 (by kernel_rfl) rfl #[.int .i64 (Int.tmod x5_1 100)] rfl (by (try simp only [List.map_toArray, List.map_cons, List.map_nil]); first | done | rfl | (simp only [List.length_drop, List.length_take]; rfl)) ?_; (with_reducible refine (stamp_two.calls (Int.tmod x5_1 100) t151 _ A12.out).mono ?_); rintro e w32 ⟨rfl, hb⟩; refine ⟨_, rfl, ?_⟩; have n0_ := Aside0.mk (below_step (by repeat (first | (with_reducible first | exact HB.out | apply below_alloc | apply pw_below_drewN | apply below_drew1) | exact HB.out)) hb); clear HB; have HB := n0_; clear n0_; (try clear hb); (try clear hb2); (try clear hk); (try clear hi)) | ((with_reducible refine gate_callee (f := 54) rfl ?_); refine goesL_ (some 43) rfl rfl Tryd.func54 (by kernel_rfl) rfl #[.int .i64 x6_2] rfl (by (try simp only [List.map_toArray, List.map_cons, List.map_nil]); first | done | rfl | (simp only [List.length_drop, List.length_take]; rfl)) ?_; (with_reducible refine (stamp_two.calls x6_2 t152 _ A15.out).mono ?_); rintro e w33 ⟨rfl, hb⟩; refine ⟨_, rfl, ?_⟩; have n0_ := Aside0.mk (below_step (by repeat (first | (with_reducible first | exact HB.out | apply below_alloc | apply pw_below_drewN | apply below_drew1) | exact HB.out)) hb); clear HB; have HB := n0_; clear n0_; (try clear hb); (try clear hb2); (try clear hk); (try clear hi)) | ((with_reducible refine gate_callee (f := 80) rfl ?_); refine goesL_ (some 49) rfl rfl Tryd.func80 (by kernel_rfl) rfl #[.int .i64 x5_1, .int .i64 x6_2] rfl (by (try simp only [List.map_toArray, List.map_cons, List.map_nil]); first | done | rfl | (simp only [List.length_drop, List.length_take]; rfl)) ?_; (with_reducible refine (stamp_before.calls x5_1 x6_2 t153 _ ?side1 A18.out).mono ?_); (case side1 => first | exact HGl.out | exact HGl.out.below (by repeat (first | (with_reducible first | exact HB.out | apply below_alloc | apply pw_below_drewN | apply below_drew1) | exact HB.out | exact Below.refl _ _))); rintro e w34 ⟨rfl, hb⟩; refine ⟨_, rfl, ?_⟩; have n0_ := Aside0.mk (below_step (by repeat (first | (with_reducible first | exact HB.out | apply below_alloc | apply pw_below_drewN | apply below_drew1) | exact HB.out)) hb); clear HB; have HB := n0_; clear n0_; (try clear hb); (try clear hb2); (try clear hk); (try clear hi)) | ((with_reducible refine gate_callee (f := 54) rfl ?_); refine goesL_ (some 52) rfl rfl Tryd.func54 (by kernel_rfl) rfl #[.int .i64 (wrap64 ((wrap64 ((wrap64 ((wrap64 (Int.tdiv a0 86400)) - t148)) - t153)) + 1))] rfl (by (try simp only [List.map_toArray, List.map_cons, List.map_nil]); first | done | rfl | (simp only [List.length_drop, List.length_take]; rfl)) ?_; (with_reducible refine (stamp_two.calls (wrap64 ((wrap64 ((wrap64 ((wrap64 (Int.tdiv a0 86400)) - t148)) - t153)) + 1)) t154 _ A19.out).mono ?_); rintro e w35 ⟨rfl, hb⟩; refine ⟨_, rfl, ?_⟩; have n0_ := Aside0.mk (below_step (by repeat (first | (with_reducible first | exact HB.out | apply below_alloc | apply pw_below_drewN | apply below_drew1) | exact HB.out)) hb); clear HB; have HB := n0_; clear n0_; (try clear hb); (try clear hb2); (try clear hk); (try clear hi)) | ((with_reducible refine gate_callee (f := 54) rfl ?_); refine goesL_ (some 58) rfl rfl Tryd.func54 (by kernel_rfl) rfl #[.int .i64 (wrap64 (Int.tdiv (Int.tmod a0 86400) 3600))] rfl (by (try simp only [List.map_toArray, List.map_cons, List.map_nil]); first | done | rfl | (simp only [List.length_drop, List.length_take]; rfl)) ?_; (with_reducible refine (stamp_two.calls (wrap64 (Int.tdiv (Int.tmod a0 86400) 3600)) t155 _ A22.out).mono ?_); rintro e w36 ⟨rfl, hb⟩; refine ⟨_, rfl, ?_⟩; have n0_ := Aside0.mk (below_step (by repeat (first | (with_reducible first | exact HB.out | apply below_alloc | apply pw_below_drewN | apply below_drew1) | exact HB.out)) hb); clear HB; have HB := n0_; clear n0_; (try clear hb); (try clear hb2); (try clear hk); (try clear hi)) | ((with_reducible refine gate_callee (f := 54) rfl ?_); refine goesL_ (some 64) rfl rfl Tryd.func54 (by kernel_rfl) rfl #[.int .i64 (Int.tmod (wrap64 (Int.tdiv (Int.tmod a0 86400) 60)) 60)] rfl (by (try simp only [List.map_toArray, List.map_cons, List.map_nil]); first | done | rfl | (simp only [List.length_drop, List.length_take]; rfl)) ?_; (with_reducible refine (stamp_two.calls (Int.tmod (wrap64 (Int.tdiv (Int.tmod a0 86400) 60)) 60) t156 _ A25.out).mono ?_); rintro e w37 ⟨rfl, hb⟩; refine ⟨_, rfl, ?_⟩; have n0_ := Aside0.mk (below_step (by repeat (first | (with_reducible first | exact HB.out | apply below_alloc | apply pw_below_drewN | apply below_drew1) | exact HB.out)) hb); clear HB; have HB := n0_; clear n0_; (try clear hb); (try clear hb2); (try clear hk); (try clear hi)) | ((with_reducible refine gate_callee (f := 54) rfl ?_); refine goesL_ (some 69) rfl rfl Tryd.func54 (by kernel_rfl) rfl #[.int .i64 (Int.tmod a0 60)] rfl (by (try simp only [List.map_toArray, List.map_cons, List.map_nil]); first | done | rfl | (simp only [List.length_drop, List.length_take]; rfl)) ?_; (with_reducible refine (stamp_two.calls (Int.tmod a0 60) t157 _ A28.out).mono ?_); rintro e w38 ⟨rfl, hb⟩; refine ⟨_, rfl, ?_⟩; have n0_ := Aside0.mk (below_step (by repeat (first | (with_reducible first | exact HB.out | apply below_alloc | apply pw_below_drewN | apply below_drew1) | exact HB.out)) hb); clear HB; have HB := n0_; clear n0_; (try clear hb); (try clear hb2); (try clear hk); (try clear hi)))
                                    go_ret
                                    exact ⟨by first | rfl | (simp only [i64_w, i32_w]; rfl) | (simp [errW_none, errW_some] <;> rfl) | (simp [*, errW_none, errW_some] <;> rfl), by repeat (first | (with_reducible first | exact HB.out | apply below_alloc | apply pw_below_drewN | apply below_drew1) | exact HB.out)⟩
                                  · rw [if_neg c29] at H
                                    exact absurd H (by simp)
                                · rw [if_neg c27] at H
                                  exact absurd H (by simp)
                              · rw [if_neg c26] at H
                                exact absurd H (by simp)
                            · rw [if_neg c24] at H
                              exact absurd H (by simp)
                          · rw [if_neg c23] at H
                            exact absurd H (by simp)
                        · rw [if_neg c21] at H
                          exact absurd H (by simp)
                      · rw [if_neg c20] at H
                        exact absurd H (by simp)
                    · rw [if_neg c17] at H
                      exact absurd H (by simp)
                  · rw [if_neg c16] at H
                    exact absurd H (by simp)
                · rw [if_neg c14] at H
                  exact absurd H (by simp)
              · rw [if_neg c13] at H
                exact absurd H (by simp)

/-! ### strings_TrimRight: function 91 -/
def strings_TrimRight.f (a0 a1 : ByteArray) : Option ByteArray :=
  if a0.size ≤ 9223372036854775807 ∧ a1.size < 4294967281 ∧ a1.data.toList.all (fun b => decide (b.toNat < 128)) = true then some ⟨(Lib.trimRightS a0.data.toList a1.data.toList).toArray⟩ else none
theorem strings_TrimRight.calls (a0 a1 : ByteArray) (r : ByteArray) (w : World) (h : strings_TrimRight.f a0 a1 = some r) :
    Calls Tryd.prog 91 #[.string a0, .string a1] w fun e w' => e = .returned (.string r) ∧ Below w.heap.size w w' := by
  unfold strings_TrimRight.f at h
  by_cases hc : a0.size ≤ 9223372036854775807 ∧ a1.size < 4294967281 ∧ a1.data.toList.all (fun b => decide (b.toNat < 128)) = true
  · rw [if_pos hc] at h
    obtain rfl := Option.some.inj h
    refine (Any.strings_TrimRight_laid Tryd.lays162 (by kernel_rfl) a0 a1 w hc.1 hc.2.1 (fun j b hj => by simpa using List.all_eq_true.1 hc.2.2 b (List.mem_of_getElem? hj))).mono ?_
    rintro e w' ⟨rfl, hb⟩
    exact ⟨rfl, hb⟩
  · rw [if_neg hc] at h
    exact absurd h (by simp)

/-! ### stamp_whole: function 52 -/
def stamp_whole.f (k : Nat) (a0 : Int) (a1 : Int) : Option (ByteArray) := (stamp_show.f k a0).bind fun t158 => (if a1 = 0 then (some t158) else ((strconv_Itoa.f (wrap64 (1000000000 + a1))).bind fun t159 => (if t158.size + 1 ≤ 9223372036854775807 then (if 1 ≤ (t159.size : Int) then ((strings_TrimRight.f (t159.extract 1 t159.size) (⟨#[48]⟩ : ByteArray)).bind fun t160 => (if (t158 ++ (⟨#[46]⟩ : ByteArray)).size + t160.size ≤ 9223372036854775807 then (some ((t158 ++ (⟨#[46]⟩ : ByteArray)) ++ t160)) else (none))) else (none)) else (none))))
theorem stamp_whole.mono : ∀ a0 a1 k, LeO (stamp_whole.f k a0 a1) (stamp_whole.f (k + 1) a0 a1) := by
  intro a0 a1 k
  unfold stamp_whole.f
  repeat' first
      | (with_reducible exact stamp_show.mono _ _)
      | (with_reducible exact LeO.refl _)
      | (with_reducible exact LeO.none _)
      | (with_reducible refine LeO.ite ?_ ?_)
      | (with_reducible refine LeO.bind ?_ (fun _ => ?_))
      | exact stamp_show.mono _ _
      | exact LeO.none _
      | refine LeO.ite ?_ ?_
      | refine LeO.bind ?_ (fun _ => ?_)
set_option maxHeartbeats 8000000 in
set_option maxRecDepth 100000 in
theorem stamp_whole.calls (k : Nat) (a0 : Int) (a1 : Int) (r : ByteArray) (w : World) (hG : Gl w) (h : stamp_whole.f k a0 a1 = some r) :
    Calls Tryd.prog 52 #[.int .i64 a0, .int .i64 a1] w fun e w' => e = .returned (.string r) ∧ Below w.heap.size w w' := by
  have HGl := Aside0.mk hG
  clear hG
  have HB := Aside0.mk (Below.refl w.heap.size w)
  have H : ((stamp_show.f k a0).bind fun t158 => (if a1 = 0 then (some t158) else ((strconv_Itoa.f (wrap64 (1000000000 + a1))).bind fun t159 => (if t158.size + 1 ≤ 9223372036854775807 then (if 1 ≤ (t159.size : Int) then ((strings_TrimRight.f (t159.extract 1 t159.size) (⟨#[48]⟩ : ByteArray)).bind fun t160 => (if (t158 ++ (⟨#[46]⟩ : ByteArray)).size + t160.size ≤ 9223372036854775807 then (some ((t158 ++ (⟨#[46]⟩ : ByteArray)) ++ t160)) else (none))) else (none)) else (none))))) = some r := h
  clear h
  replace H := Option.bind_eq_some_iff.mp H
  obtain ⟨t158, A30, H⟩ := H
  replace H : (if a1 = 0 then (some t158) else ((strconv_Itoa.f (wrap64 (1000000000 + a1))).bind fun t159 => (if t158.size + 1 ≤ 9223372036854775807 then (if 1 ≤ (t159.size : Int) then ((strings_TrimRight.f (t159.extract 1 t159.size) (⟨#[48]⟩ : ByteArray)).bind fun t160 => (if (t158 ++ (⟨#[46]⟩ : ByteArray)).size + t160.size ≤ 9223372036854775807 then (some ((t158 ++ (⟨#[46]⟩ : ByteArray)) ++ t160)) else (none))) else (none)) else (none)))) = some r := H
  have A3 := Aside0.mk A30
  clear A30
  by_cases c4 : a1 = 0
  · rw [if_pos c4] at H
    have c4b0 : (a1 == 0) = true := beq_iff_eq.mpr c4
    have c4b1 : (a1 != 0) = false := bne_eq_false_iff_eq.mpr c4
    clear c4
    obtain rfl := Option.some.inj H
    go_enter Tryd.func52, Tryd.ntmps52
    go_wp2_with (first | ((with_reducible refine gate_callee (f := 90) rfl ?_); refine goesL_ (some 8) rfl rfl Tryd.func90 (by kernel_rfl) rfl #[.int .i64 a0] rfl (by (try simp only [List.map_toArray, List.map_cons, List.map_nil]); first | done | rfl | (simp only [List.length_drop, List.length_take]; rfl)) ?_; (with_reducible refine (stamp_show.calls k a0 t158 _ ?side1 A3.out).mono ?_); (case side1 => first | exact HGl.out | exact HGl.out.below (by repeat (first | (with_reducible first | exact HB.out | apply below_alloc | apply pw_below_drewN | apply below_drew1) | exact HB.out | exact Below.refl _ _))); rintro e w5 ⟨rfl, hb⟩; refine ⟨_, rfl, ?_⟩; have n0_ := Aside0.mk (below_step (by repeat (first | (with_reducible first | exact HB.out | apply below_alloc | apply pw_below_drewN | apply below_drew1) | exact HB.out)) hb); clear HB; have HB := n0_; clear n0_; (try clear hb); (try clear hb2); (try clear hk); (try clear hi)))
    go_ret
    exact ⟨by first | rfl | (simp only [i64_w, i32_w]; rfl) | (simp [errW_none, errW_some] <;> rfl) | (simp [*, errW_none, errW_some] <;> rfl), by repeat (first | (with_reducible first | exact HB.out | apply below_alloc | apply pw_below_drewN | apply below_drew1) | exact HB.out)⟩
  rw [if_neg c4] at H
  have c4b0 : (a1 == 0) = false := beq_eq_false_iff_ne.mpr c4
  have c4b1 : (a1 != 0) = true := bne_iff_ne.mpr c4
  replace H := Option.bind_eq_some_iff.mp H
  obtain ⟨t159, A60, H⟩ := H
  replace H : (if t158.size + 1 ≤ 9223372036854775807 then (if 1 ≤ (t159.size : Int) then ((strings_TrimRight.f (t159.extract 1 t159.size) (⟨#[48]⟩ : ByteArray)).bind fun t160 => (if (t158 ++ (⟨#[46]⟩ : ByteArray)).size + t160.size ≤ 9223372036854775807 then (some ((t158 ++ (⟨#[46]⟩ : ByteArray)) ++ t160)) else (none))) else (none)) else (none)) = some r := H
  have A6 := Aside0.mk A60
  clear A60
  by_cases c7 : t158.size + 1 ≤ 9223372036854775807
  rotate_left
  · rw [if_neg c7] at H
    exact absurd H (by simp)
  rw [if_pos c7] at H
  have c7b0 := eq_true c7
  have c7b1 : decide (t158.size + 1 ≤ 9223372036854775807) = true := decide_eq_true c7
  try have c7b2 : (9223372036854775807 < t158.size + 1) = False := eq_false (Nat.not_lt.2 c7)
  by_cases c8 : 1 ≤ (t159.size : Int)
  rotate_left
  · rw [if_neg c8] at H
    exact absurd H (by simp)
  rw [if_pos c8] at H
  have c8b0 := eq_true c8
  have c8b1 : decide (1 ≤ (t159.size : Int)) = true := decide_eq_true c8
  clear c8
  replace H := Option.bind_eq_some_iff.mp H
  obtain ⟨t160, A90, H⟩ := H
  replace H : (if (t158 ++ (⟨#[46]⟩ : ByteArray)).size + t160.size ≤ 9223372036854775807 then (some ((t158 ++ (⟨#[46]⟩ : ByteArray)) ++ t160)) else (none)) = some r := H
  have A9 := Aside0.mk A90
  clear A90
  by_cases c10 : (t158 ++ (⟨#[46]⟩ : ByteArray)).size + t160.size ≤ 9223372036854775807
  rotate_left
  · rw [if_neg c10] at H
    exact absurd H (by simp)
  rw [if_pos c10] at H
  have c10b0 := eq_true c10
  have c10b1 : decide ((t158 ++ (⟨#[46]⟩ : ByteArray)).size + t160.size ≤ 9223372036854775807) = true := decide_eq_true c10
  try have c10b2 : (9223372036854775807 < (t158 ++ (⟨#[46]⟩ : ByteArray)).size + t160.size) = False := eq_false (Nat.not_lt.2 c10)
  have c10z2 := c10b2
  simp only [ByteArray.size_append] at c10z2
  have c10z3 := c10z2
  try simp only [size_lit1, size_lit2, size_lit3, size_lit4] at c10z3
  obtain rfl := Option.some.inj H
  go_enter Tryd.func52, Tryd.ntmps52
  go_wp2_with (first | ((with_reducible refine gate_callee (f := 90) rfl ?_); refine goesL_ (some 8) rfl rfl Tryd.func90 (by kernel_rfl) rfl #[.int .i64 a0] rfl (by (try simp only [List.map_toArray, List.map_cons, List.map_nil]); first | done | rfl | (simp only [List.length_drop, List.length_take]; rfl)) ?_; (with_reducible refine (stamp_show.calls k a0 t158 _ ?side1 A3.out).mono ?_); (case side1 => first | exact HGl.out | exact HGl.out.below (by repeat (first | (with_reducible first | exact HB.out | apply below_alloc | apply pw_below_drewN | apply below_drew1) | exact HB.out | exact Below.refl _ _))); rintro e w11 ⟨rfl, hb⟩; refine ⟨_, rfl, ?_⟩; have n0_ := Aside0.mk (below_step (by repeat (first | (with_reducible first | exact HB.out | apply below_alloc | apply pw_below_drewN | apply below_drew1) | exact HB.out)) hb); clear HB; have HB := n0_; clear n0_; (try clear hb); (try clear hb2); (try clear hk); (try clear hi)) | ((with_reducible refine gate_callee (f := 56) rfl ?_); refine goesL_ (some 14) rfl rfl Tryd.func56 (by kernel_rfl) rfl #[.int .i64 (wrap64 (1000000000 + a1))] rfl (by (try simp only [List.map_toArray, List.map_cons, List.map_nil]); first | done | rfl | (simp only [List.length_drop, List.length_take]; rfl)) ?_; (with_reducible refine (strconv_Itoa.calls (wrap64 (1000000000 + a1)) t159 _ ?side1 A6.out).mono ?_); (case side1 => first | exact HGl.out | exact HGl.out.below (by repeat (first | (with_reducible first | exact HB.out | apply below_alloc | apply pw_below_drewN | apply below_drew1) | exact HB.out | exact Below.refl _ _))); rintro e w12 ⟨rfl, hb⟩; refine ⟨_, rfl, ?_⟩; have n0_ := Aside0.mk (below_step (by repeat (first | (with_reducible first | exact HB.out | apply below_alloc | apply pw_below_drewN | apply below_drew1) | exact HB.out)) hb); clear HB; have HB := n0_; clear n0_; (try clear hb); (try clear hb2); (try clear hk); (try clear hi)) | ((with_reducible refine gate_callee (f := 91) rfl ?_); refine goesL_ (some 19) rfl rfl Tryd.func91 (by kernel_rfl) rfl #[.string (t159.extract 1 t159.size), .string (⟨#[48]⟩ : ByteArray)] rfl (by (try simp only [List.map_toArray, List.map_cons, List.map_nil]); first | done | rfl | (simp only [List.length_drop, List.length_take]; rfl)) ?_; (with_reducible refine (strings_TrimRight.calls (t159.extract 1 t159.size) (⟨#[48]⟩ : ByteArray) t160 _ A9.out).mono ?_); rintro e w13 ⟨rfl, hb⟩; refine ⟨_, rfl, ?_⟩; have n0_ := Aside0.mk (below_step (by repeat (first | (with_reducible first | exact HB.out | apply below_alloc | apply pw_below_drewN | apply below_drew1) | exact HB.out)) hb); clear HB; have HB := n0_; clear n0_; (try clear hb); (try clear hb2); (try clear hk); (try clear hi)))
  go_ret
  exact ⟨by first | rfl | (simp only [i64_w, i32_w]; rfl) | (simp [errW_none, errW_some] <;> rfl) | (simp [*, errW_none, errW_some] <;> rfl), by repeat (first | (with_reducible first | exact HB.out | apply below_alloc | apply pw_below_drewN | apply below_drew1) | exact HB.out)⟩

/-! ### stamp_Print: function 18 -/
def stamp_Print.f (k : Nat) (a0 : Int) : Option (ByteArray × Int) := if a0 < 0 then (some ((⟨#[]⟩ : ByteArray), 1)) else (if a0 > 2305843009213693952 then (some ((⟨#[]⟩ : ByteArray), 1)) else ((stamp_whole.f k (wrap64 (Int.tdiv a0 1000000000)) (Int.tmod a0 1000000000)).bind fun t161 => (if t161.size + 1 ≤ 9223372036854775807 then (some (t161 ++ (⟨#[90]⟩ : ByteArray), 0)) else (none))))
theorem stamp_Print.mono : ∀ a0 k, LeO (stamp_Print.f k a0) (stamp_Print.f (k + 1) a0) := by
  intro a0 k
  unfold stamp_Print.f
  repeat' first
      | (with_reducible exact stamp_whole.mono _ _ _)
      | (with_reducible exact LeO.refl _)
      | (with_reducible exact LeO.none _)
      | (with_reducible refine LeO.ite ?_ ?_)
      | (with_reducible refine LeO.bind ?_ (fun _ => ?_))
      | exact stamp_whole.mono _ _ _
      | exact LeO.none _
      | refine LeO.ite ?_ ?_
      | refine LeO.bind ?_ (fun _ => ?_)
set_option maxHeartbeats 8000000 in
set_option maxRecDepth 100000 in
theorem stamp_Print.calls (k : Nat) (a0 : Int) (r1 : ByteArray) (r2 : Int) (w : World) (hG : Gl w) (h : stamp_Print.f k a0 = some (r1, r2)) :
    Calls Tryd.prog 18 #[.int .i64 a0] w fun e w' => e = .returned (.tuple #[.string r1, .int .i64 r2]) ∧ Below w.heap.size w w' := by
  have HGl := Aside0.mk hG
  clear hG
  have HB := Aside0.mk (Below.refl w.heap.size w)
  have H : (if a0 < 0 then (some ((⟨#[]⟩ : ByteArray), 1)) else (if a0 > 2305843009213693952 then (some ((⟨#[]⟩ : ByteArray), 1)) else ((stamp_whole.f k (wrap64 (Int.tdiv a0 1000000000)) (Int.tmod a0 1000000000)).bind fun t161 => (if t161.size + 1 ≤ 9223372036854775807 then (some (t161 ++ (⟨#[90]⟩ : ByteArray), 0)) else (none))))) = some (r1, r2) := h
  clear h
  by_cases c2 : a0 < 0
  · rw [if_pos c2] at H
    have c2b0 : decide (a0 < 0) = true := decide_eq_true c2
    clear c2
    simp only [Option.some.injEq, Prod.mk.injEq] at H
    obtain ⟨rfl, rfl⟩ := H
    go_enter Tryd.func18, Tryd.ntmps18
    go_wp2
    go_ret2
    exact ⟨by first | rfl | (simp only [i64_w, i32_w]; rfl) | (simp [errW_none, errW_some] <;> rfl) | (simp [*, errW_none, errW_some] <;> rfl), by repeat (first | (with_reducible first | exact HB.out | apply below_alloc | apply pw_below_drewN | apply below_drew1) | exact HB.out)⟩
  rw [if_neg c2] at H
  have c2b0 : decide (a0 < 0) = false := decide_eq_false c2
  clear c2
  by_cases c3 : a0 > 2305843009213693952
  · rw [if_pos c3] at H
    have c3b0 : decide (2305843009213693952 < a0) = true := decide_eq_true c3
    clear c3
    simp only [Option.some.injEq, Prod.mk.injEq] at H
    obtain ⟨rfl, rfl⟩ := H
    go_enter Tryd.func18, Tryd.ntmps18
    go_wp2
    go_ret2
    exact ⟨by first | rfl | (simp only [i64_w, i32_w]; rfl) | (simp [errW_none, errW_some] <;> rfl) | (simp [*, errW_none, errW_some] <;> rfl), by repeat (first | (with_reducible first | exact HB.out | apply below_alloc | apply pw_below_drewN | apply below_drew1) | exact HB.out)⟩
  rw [if_neg c3] at H
  have c3b0 : decide (2305843009213693952 < a0) = false := decide_eq_false c3
  clear c3
  replace H := Option.bind_eq_some_iff.mp H
  obtain ⟨t161, A40, H⟩ := H
  replace H : (if t161.size + 1 ≤ 9223372036854775807 then (some (t161 ++ (⟨#[90]⟩ : ByteArray), 0)) else (none)) = some (r1, r2) := H
  have A4 := Aside0.mk A40
  clear A40
  by_cases c5 : t161.size + 1 ≤ 9223372036854775807
  rotate_left
  · rw [if_neg c5] at H
    exact absurd H (by simp)
  rw [if_pos c5] at H
  have c5b0 := eq_true c5
  have c5b1 : decide (t161.size + 1 ≤ 9223372036854775807) = true := decide_eq_true c5
  try have c5b2 : (9223372036854775807 < t161.size + 1) = False := eq_false (Nat.not_lt.2 c5)
  simp only [Option.some.injEq, Prod.mk.injEq] at H
  obtain ⟨rfl, rfl⟩ := H
  go_enter Tryd.func18, Tryd.ntmps18
  go_wp2_with (first | ((with_reducible refine gate_callee (f := 52) rfl ?_); refine goesL_ (some 14) rfl rfl Tryd.func52 (by kernel_rfl) rfl #[.int .i64 (wrap64 (Int.tdiv a0 1000000000)), .int .i64 (Int.tmod a0 1000000000)] rfl (by (try simp only [List.map_toArray, List.map_cons, List.map_nil]); first | done | rfl | (simp only [List.length_drop, List.length_take]; rfl)) ?_; (with_reducible refine (stamp_whole.calls k (wrap64 (Int.tdiv a0 1000000000)) (Int.tmod a0 1000000000) t161 _ ?side1 A4.out).mono ?_); (case side1 => first | exact HGl.out | exact HGl.out.below (by repeat (first | (with_reducible first | exact HB.out | apply below_alloc | apply pw_below_drewN | apply below_drew1) | exact HB.out | exact Below.refl _ _))); rintro e w6 ⟨rfl, hb⟩; refine ⟨_, rfl, ?_⟩; have n0_ := Aside0.mk (below_step (by repeat (first | (with_reducible first | exact HB.out | apply below_alloc | apply pw_below_drewN | apply below_drew1) | exact HB.out)) hb); clear HB; have HB := n0_; clear n0_; (try clear hb); (try clear hb2); (try clear hk); (try clear hi)))
  go_ret2
  exact ⟨by first | rfl | (simp only [i64_w, i32_w]; rfl) | (simp [errW_none, errW_some] <;> rfl) | (simp [*, errW_none, errW_some] <;> rfl), by repeat (first | (with_reducible first | exact HB.out | apply below_alloc | apply pw_below_drewN | apply below_drew1) | exact HB.out)⟩

/-! ### gongref03_leap: function 84 -/
def gongref03_leap.f (a0 : Int) : Option (Bool) := if (Int.tmod a0 400) = 0 then (some true) else (if (Int.tmod a0 4) = 0 then (some ((Int.tmod a0 100) != 0)) else (some false))
set_option maxHeartbeats 8000000 in
set_option maxRecDepth 100000 in
theorem gongref03_leap.calls (a0 : Int) (r : Bool) (w : World) (h : gongref03_leap.f a0 = some r) :
    Calls Tryd.prog 84 #[.int .i64 a0] w fun e w' => e = .returned (.bool r) ∧ Drawn0 w w' := by
  have H : (if (Int.tmod a0 400) = 0 then (some true) else (if (Int.tmod a0 4) = 0 then (some ((Int.tmod a0 100) != 0)) else (some false))) = some r := h
  clear h
  by_cases c2 : (Int.tmod a0 400) = 0
  · rw [if_pos c2] at H
    have c2b0 : ((Int.tmod a0 400) == 0) = true := beq_iff_eq.mpr c2
    have c2b1 : ((Int.tmod a0 400) != 0) = false := bne_eq_false_iff_eq.mpr c2
    clear c2
    obtain rfl := Option.some.inj H
    go_enter Tryd.func84, Tryd.ntmps84
    go_wp2
    go_ret
    exact ⟨by first | rfl | (simp; done) | (simp [*]; done), by repeat (first | exact Drawn0.refl _ | apply Drawn0.step)⟩
  rw [if_neg c2] at H
  have c2b0 : ((Int.tmod a0 400) == 0) = false := beq_eq_false_iff_ne.mpr c2
  have c2b1 : ((Int.tmod a0 400) != 0) = true := bne_iff_ne.mpr c2
  by_cases c3 : (Int.tmod a0 4) = 0
  rotate_left
  · rw [if_neg c3] at H
    have c3b0 : ((Int.tmod a0 4) == 0) = false := beq_eq_false_iff_ne.mpr c3
    have c3b1 : ((Int.tmod a0 4) != 0) = true := bne_iff_ne.mpr c3
    obtain rfl := Option.some.inj H
    go_enter Tryd.func84, Tryd.ntmps84
    go_wp2
    go_ret
    exact ⟨by first | rfl | (simp; done) | (simp [*]; done), by repeat (first | exact Drawn0.refl _ | apply Drawn0.step)⟩
  rw [if_pos c3] at H
  have c3b0 : ((Int.tmod a0 4) == 0) = true := beq_iff_eq.mpr c3
  have c3b1 : ((Int.tmod a0 4) != 0) = false := bne_eq_false_iff_eq.mpr c3
  clear c3
  obtain rfl := Option.some.inj H
  go_enter Tryd.func84, Tryd.ntmps84
  go_wp2
  go_ret
  exact ⟨by first | rfl | (simp; done) | (simp [*]; done), by repeat (first | exact Drawn0.refl _ | apply Drawn0.step)⟩

/-! ### gongref03_days: function 45 -/
def gongref03_days.j0 : Nat → Int → Bool → Option (Int)
  | 0, _, _ => none
  | k + 1, x1, x10 => if x10 = true then (some 29) else (if x1 = 2 then (some 28) else (if x1 = 4 then (some 30) else (if x1 = 6 then (some 30) else (if x1 = 9 then (some 30) else (if x1 = 11 then (some 30) else (some 31))))))
def gongref03_days.f (k : Nat) (a0 : Int) (a1 : Int) : Option (Int) := if a1 = 2 then ((gongref03_leap.f a0).bind fun t162 => (gongref03_days.j0 k a1 t162)) else (gongref03_days.j0 k a1 false)
theorem gongref03_days.mono_l : ∀ k, (∀ y0 y1, LeO (gongref03_days.j0 k y0 y1) (gongref03_days.j0 (k + 1) y0 y1))
  | 0 => fun _ _ r h => by simp [gongref03_days.j0] at h
  | k + 1 => by
    have ih0 := gongref03_days.mono_l k
    · intro y0 y1
      unfold gongref03_days.j0
      repeat' first
      | (with_reducible exact ih0 _ _)
      | (with_reducible exact LeO.refl _)
      | (with_reducible exact LeO.none _)
      | (with_reducible refine LeO.ite ?_ ?_)
      | (with_reducible refine LeO.bind ?_ (fun _ => ?_))
      | exact ih0 _ _
      | exact LeO.none _
      | refine LeO.ite ?_ ?_
      | refine LeO.bind ?_ (fun _ => ?_)
theorem gongref03_days.mono : ∀ a0 a1 k, LeO (gongref03_days.f k a0 a1) (gongref03_days.f (k + 1) a0 a1) := by
  intro a0 a1 k
  have ih0 := gongref03_days.mono_l k
  unfold gongref03_days.f
  repeat' first
      | (with_reducible exact ih0 _ _)
      | (with_reducible exact LeO.refl _)
      | (with_reducible exact LeO.none _)
      | (with_reducible refine LeO.ite ?_ ?_)
      | (with_reducible refine LeO.bind ?_ (fun _ => ?_))
      | exact ih0 _ _
      | exact LeO.none _
      | refine LeO.ite ?_ ?_
      | refine LeO.bind ?_ (fun _ => ?_)
set_option maxHeartbeats 8000000 in
set_option maxRecDepth 100000 in
theorem gongref03_days.calls (k : Nat) (a0 : Int) (a1 : Int) (r : Int) (w : World) (h : gongref03_days.f k a0 a1 = some r) :
    Calls Tryd.prog 45 #[.int .i64 a0, .int .i64 a1] w fun e w' => e = .returned (.int .i64 r) ∧ Drawn0 w w' := by
  have H : (if a1 = 2 then ((gongref03_leap.f a0).bind fun t162 => (gongref03_days.j0 k a1 t162)) else (gongref03_days.j0 k a1 false)) = some r := h
  clear h
  have HC3 := Aside0.mk H
  clear H
  go_enter Tryd.func45, Tryd.ntmps45
  go_upto_region 1 with (fail)
  go_cut [10] (fun v10 wc => ∃ (kq : Nat) (x10_2 : Bool), v10 = .bool x10_2 ∧ Aside0 (gongref03_days.j0 kq a1 x10_2 = some r) ∧ Aside0 (kq ≤ k) ∧ Drawn0 w wc)
  case first =>
    have H := HC3.out
    clear HC3
    by_cases c4 : a1 = 2
    · rw [if_pos c4] at H
      have c4b0 : (a1 == 2) = true := beq_iff_eq.mpr c4
      have c4b1 : (a1 != 2) = false := bne_eq_false_iff_eq.mpr c4
      clear c4
      (first | rw [c4b0] | (simp only [i64_w, i32_w]; rw [c4b0]) | skip)
      replace H := Option.bind_eq_some_iff.mp H
      obtain ⟨t162, A50, H⟩ := H
      replace H : (gongref03_days.j0 k a1 t162) = some r := H
      have A5 := Aside0.mk A50
      clear A50
      have H' := Aside0.mk H
      clear H
      go_wp2_with (first | (go_at_call 84; (with_reducible refine (gongref03_leap.calls a0 t162 _ A5.out).mono ?_); rintro e w' ⟨rfl, ⟨nd, rfl⟩⟩))
      go_meet
      case rel => exact ⟨_, (t162), (by first | rfl | (simp; done) | (simp [*]; done) | (simp [*]; exact isEmpty_bne _) | (simp; exact isEmpty_bne _)), H', ⟨by first | omega | exact Nat.le_refl _⟩, by repeat (first | exact Drawn0.refl _ | apply Drawn0.step)⟩
    · rw [if_neg c4] at H
      have c4b0 : (a1 == 2) = false := beq_eq_false_iff_ne.mpr c4
      have c4b1 : (a1 != 2) = true := bne_iff_ne.mpr c4
      (first | rw [c4b0] | (simp only [i64_w, i32_w]; rw [c4b0]) | skip)
      have H' := Aside0.mk H
      clear H
      go_wp2
      go_meet
      case rel => exact ⟨_, (false), (by first | rfl | (simp; done) | (simp [*]; done) | (simp [*]; exact isEmpty_bne _) | (simp; exact isEmpty_bne _)), H', ⟨by first | omega | exact Nat.le_refl _⟩, by repeat (first | exact Drawn0.refl _ | apply Drawn0.step)⟩
  case rest =>
    clear HC3
    try clear p2
    try clear c4
    try clear c4b0
    try clear c4b1
    obtain ⟨kq, x10_2, rfl, HA, HJ2, ⟨mc2, rfl⟩⟩ := hcut
    cases kq with
    | zero => exact absurd HA.out (by simp [gongref03_days.j0])
    | succ kj2 =>
      have H := HA.out
      clear HA
      simp only [gongref03_days.j0] at H
      by_cases c6 : x10_2 = true
      · subst c6
        have H1 : (some 29) = some r := by rw [if_pos rfl] at H; exact H
        clear H
        have H := H1
        clear H1
        obtain rfl := Option.some.inj H
        go_wp2
        go_ret
        exact ⟨by first | rfl | (simp; done) | (simp [*]; done), by repeat (first | exact Drawn0.refl _ | apply Drawn0.step)⟩
      · replace c6 := Bool.eq_false_iff.mpr c6
        subst c6
        have H1 : (if a1 = 2 then (some 28) else (if a1 = 4 then (some 30) else (if a1 = 6 then (some 30) else (if a1 = 9 then (some 30) else (if a1 = 11 then (some 30) else (some 31)))))) = some r := by rw [if_neg (show ¬ (false = true) by decide)] at H; exact H
        clear H
        have H := H1
        clear H1
        by_cases c7 : a1 = 2
        · rw [if_pos c7] at H
          have c7b0 : (a1 == 2) = true := beq_iff_eq.mpr c7
          have c7b1 : (a1 != 2) = false := bne_eq_false_iff_eq.mpr c7
          clear c7
          obtain rfl := Option.some.inj H
          go_wp2
          go_ret
          exact ⟨by first | rfl | (simp; done) | (simp [*]; done), by repeat (first | exact Drawn0.refl _ | apply Drawn0.step)⟩
        · rw [if_neg c7] at H
          have c7b0 : (a1 == 2) = false := beq_eq_false_iff_ne.mpr c7
          have c7b1 : (a1 != 2) = true := bne_iff_ne.mpr c7
          by_cases c8 : a1 = 4
          · rw [if_pos c8] at H
            have c8b0 : (a1 == 4) = true := beq_iff_eq.mpr c8
            have c8b1 : (a1 != 4) = false := bne_eq_false_iff_eq.mpr c8
            clear c8
            obtain rfl := Option.some.inj H
            go_wp2
            go_ret
            exact ⟨by first | rfl | (simp; done) | (simp [*]; done), by repeat (first | exact Drawn0.refl _ | apply Drawn0.step)⟩
          · rw [if_neg c8] at H
            have c8b0 : (a1 == 4) = false := beq_eq_false_iff_ne.mpr c8
            have c8b1 : (a1 != 4) = true := bne_iff_ne.mpr c8
            by_cases c9 : a1 = 6
            · rw [if_pos c9] at H
              have c9b0 : (a1 == 6) = true := beq_iff_eq.mpr c9
              have c9b1 : (a1 != 6) = false := bne_eq_false_iff_eq.mpr c9
              clear c9
              obtain rfl := Option.some.inj H
              go_wp2
              go_ret
              exact ⟨by first | rfl | (simp; done) | (simp [*]; done), by repeat (first | exact Drawn0.refl _ | apply Drawn0.step)⟩
            · rw [if_neg c9] at H
              have c9b0 : (a1 == 6) = false := beq_eq_false_iff_ne.mpr c9
              have c9b1 : (a1 != 6) = true := bne_iff_ne.mpr c9
              by_cases c10 : a1 = 9
              · rw [if_pos c10] at H
                have c10b0 : (a1 == 9) = true := beq_iff_eq.mpr c10
                have c10b1 : (a1 != 9) = false := bne_eq_false_iff_eq.mpr c10
                clear c10
                obtain rfl := Option.some.inj H
                go_wp2
                go_ret
                exact ⟨by first | rfl | (simp; done) | (simp [*]; done), by repeat (first | exact Drawn0.refl _ | apply Drawn0.step)⟩
              · rw [if_neg c10] at H
                have c10b0 : (a1 == 9) = false := beq_eq_false_iff_ne.mpr c10
                have c10b1 : (a1 != 9) = true := bne_iff_ne.mpr c10
                by_cases c11 : a1 = 11
                · rw [if_pos c11] at H
                  have c11b0 : (a1 == 11) = true := beq_iff_eq.mpr c11
                  have c11b1 : (a1 != 11) = false := bne_eq_false_iff_eq.mpr c11
                  clear c11
                  obtain rfl := Option.some.inj H
                  go_wp2
                  go_ret
                  exact ⟨by first | rfl | (simp; done) | (simp [*]; done), by repeat (first | exact Drawn0.refl _ | apply Drawn0.step)⟩
                · rw [if_neg c11] at H
                  have c11b0 : (a1 == 11) = false := beq_eq_false_iff_ne.mpr c11
                  have c11b1 : (a1 != 11) = true := bne_iff_ne.mpr c11
                  obtain rfl := Option.some.inj H
                  go_wp2
                  go_ret
                  exact ⟨by first | rfl | (simp; done) | (simp [*]; done), by repeat (first | exact Drawn0.refl _ | apply Drawn0.step)⟩

end Go.Proofs.YtjcenencgnfffaaDoor.XStW
