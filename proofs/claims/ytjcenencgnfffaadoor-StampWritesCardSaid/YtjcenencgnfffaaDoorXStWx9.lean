-- Laid by extprint.py (the session's own driver): functions told by the kit's printer and by hand.
import Derived.Test.YtjcenencgnfffaaDoorXStWx0
import Derived.Test.YtjcenencgnfffaaDoorXStWx7
import Derived.Test.YtjcenencgnfffaaDoorXStWx8
namespace Go.Proofs.YtjcenencgnfffaaDoor.XStW
open Go.RowKit Gong Go.Proofs.YtjcenencgnfffaaDoorW.PrintWords Go.Proofs.YtjcenencgnfffaaDoorW.PrintLast Go.Proofs.YtjcenencgnfffaaDoorW.PrintMore
attribute [local go_sem] max2_int min2_int max_two min_two max_three min_three max_four min_four   -- for this text's walks alone
set_option linter.unusedVariables false
set_option linter.unusedSimpArgs false

/-! ### gongref03_clock: function 53 -/
mutual
def gongref03_clock.j1 : Nat → Int → Int → Int → Int → Option (ByteArray)
  | 0, _, _, _, _ => none
  | k + 1, x0, x1, x5, x6 => (gongref03_past.f k x5).bind fun t168 => (gongref03_clock.l1 k x0 x1 x5 (wrap64 (x6 - t168)) 1 0)
def gongref03_clock.j3 : Nat → Int → Int → Int → Int → Int → Option (ByteArray)
  | 0, _, _, _, _, _ => none
  | k + 1, x0, x1, x5, x6, x8 => (gongref03_digits.f k x5 4).bind fun t171 => (if t171.size + 1 ≤ 9223372036854775807 then ((gongref03_digits.f k x8 2).bind fun t172 => (if (t171 ++ (⟨#[45]⟩ : ByteArray)).size + t172.size ≤ 9223372036854775807 then (if ((t171 ++ (⟨#[45]⟩ : ByteArray)) ++ t172).size + 1 ≤ 9223372036854775807 then ((gongref03_digits.f k (wrap64 (x6 + 1)) 2).bind fun t173 => (if (((t171 ++ (⟨#[45]⟩ : ByteArray)) ++ t172) ++ (⟨#[45]⟩ : ByteArray)).size + t173.size ≤ 9223372036854775807 then (if ((((t171 ++ (⟨#[45]⟩ : ByteArray)) ++ t172) ++ (⟨#[45]⟩ : ByteArray)) ++ t173).size + 1 ≤ 9223372036854775807 then ((gongref03_digits.f k (Int.tmod (wrap64 (Int.tdiv x0 3600)) 24) 2).bind fun t174 => (if (((((t171 ++ (⟨#[45]⟩ : ByteArray)) ++ t172) ++ (⟨#[45]⟩ : ByteArray)) ++ t173) ++ (⟨#[84]⟩ : ByteArray)).size + t174.size ≤ 9223372036854775807 then (if ((((((t171 ++ (⟨#[45]⟩ : ByteArray)) ++ t172) ++ (⟨#[45]⟩ : ByteArray)) ++ t173) ++ (⟨#[84]⟩ : ByteArray)) ++ t174).size + 1 ≤ 9223372036854775807 then ((gongref03_digits.f k (Int.tmod (wrap64 (Int.tdiv x0 60)) 60) 2).bind fun t175 => (if (((((((t171 ++ (⟨#[45]⟩ : ByteArray)) ++ t172) ++ (⟨#[45]⟩ : ByteArray)) ++ t173) ++ (⟨#[84]⟩ : ByteArray)) ++ t174) ++ (⟨#[58]⟩ : ByteArray)).size + t175.size ≤ 9223372036854775807 then (if ((((((((t171 ++ (⟨#[45]⟩ : ByteArray)) ++ t172) ++ (⟨#[45]⟩ : ByteArray)) ++ t173) ++ (⟨#[84]⟩ : ByteArray)) ++ t174) ++ (⟨#[58]⟩ : ByteArray)) ++ t175).size + 1 ≤ 9223372036854775807 then ((gongref03_digits.f k (Int.tmod x0 60) 2).bind fun t176 => (if (((((((((t171 ++ (⟨#[45]⟩ : ByteArray)) ++ t172) ++ (⟨#[45]⟩ : ByteArray)) ++ t173) ++ (⟨#[84]⟩ : ByteArray)) ++ t174) ++ (⟨#[58]⟩ : ByteArray)) ++ t175) ++ (⟨#[58]⟩ : ByteArray)).size + t176.size ≤ 9223372036854775807 then (if x1 = 0 then (some ((((((((((t171 ++ (⟨#[45]⟩ : ByteArray)) ++ t172) ++ (⟨#[45]⟩ : ByteArray)) ++ t173) ++ (⟨#[84]⟩ : ByteArray)) ++ t174) ++ (⟨#[58]⟩ : ByteArray)) ++ t175) ++ (⟨#[58]⟩ : ByteArray)) ++ t176)) else ((gongref03_digits.f k x1 9).bind fun t177 => (gongref03_clock.l2 k ((((((((((t171 ++ (⟨#[45]⟩ : ByteArray)) ++ t172) ++ (⟨#[45]⟩ : ByteArray)) ++ t173) ++ (⟨#[84]⟩ : ByteArray)) ++ t174) ++ (⟨#[58]⟩ : ByteArray)) ++ t175) ++ (⟨#[58]⟩ : ByteArray)) ++ t176) t177 0))) else (none))) else (none)) else (none))) else (none)) else (none))) else (none)) else (none))) else (none)) else (none))) else (none))
def gongref03_clock.l2 : Nat → ByteArray → ByteArray → Int → Option (ByteArray)
  | 0, _, _, _ => none
  | k + 1, x10, x11, x12 => if x12 < 9 then (if 0 ≤ (wrap64 ((x11.size : Int) - 1)) then (if (wrap64 ((x11.size : Int) - 1)) < (x11.size : Int) then (if (bt x11 (wrap64 ((x11.size : Int) - 1))) = 48 then (if (wrap64 ((x11.size : Int) - 1)) ≤ (x11.size : Int) then (gongref03_clock.l2 k x10 (x11.extract 0 ((wrap64 ((x11.size : Int) - 1)) : Int).toNat) (wrap64 (x12 + 1))) else (none)) else (if x10.size + 1 ≤ 9223372036854775807 then (if (x10 ++ (⟨#[46]⟩ : ByteArray)).size + x11.size ≤ 9223372036854775807 then (some ((x10 ++ (⟨#[46]⟩ : ByteArray)) ++ x11)) else (none)) else (none))) else (none)) else (none)) else (if x10.size + 1 ≤ 9223372036854775807 then (if (x10 ++ (⟨#[46]⟩ : ByteArray)).size + x11.size ≤ 9223372036854775807 then (some ((x10 ++ (⟨#[46]⟩ : ByteArray)) ++ x11)) else (none)) else (none))
def gongref03_clock.l1 : Nat → Int → Int → Int → Int → Int → Int → Option (ByteArray)
  | 0, _, _, _, _, _, _ => none
  | k + 1, x0, x1, x5, x6, x8, x9 => if x9 < 12 then ((gongref03_days.f k x5 x8).bind fun t169 => (if x6 ≥ t169 then ((gongref03_days.f k x5 x8).bind fun t170 => (gongref03_clock.l1 k x0 x1 x5 (wrap64 (x6 - t170)) (wrap64 (x8 + 1)) (wrap64 (x9 + 1)))) else (gongref03_clock.j3 k x0 x1 x5 x6 x8))) else (gongref03_clock.j3 k x0 x1 x5 x6 x8)
def gongref03_clock.l0 : Nat → Int → Int → Int → Int → Int → Option (ByteArray)
  | 0, _, _, _, _, _ => none
  | k + 1, x0, x1, x5, x6, x7 => if x7 < 400 then ((gongref03_past.f k (wrap64 (x5 + 1))).bind fun t167 => (if x6 ≥ t167 then (gongref03_clock.l0 k x0 x1 (wrap64 (x5 + 1)) x6 (wrap64 (x7 + 1))) else (gongref03_clock.j1 k x0 x1 x5 x6))) else (gongref03_clock.j1 k x0 x1 x5 x6)
end
def gongref03_clock.f (k : Nat) (a0 : Int) (a1 : Int) : Option (ByteArray) := gongref03_clock.l0 k a0 a1 1970 (wrap64 (Int.tdiv a0 86400)) 0
theorem gongref03_clock.mono_l : ∀ k, (∀ y0 y1 y2 y3, LeO (gongref03_clock.j1 k y0 y1 y2 y3) (gongref03_clock.j1 (k + 1) y0 y1 y2 y3)) ∧ (∀ y0 y1 y2 y3 y4, LeO (gongref03_clock.j3 k y0 y1 y2 y3 y4) (gongref03_clock.j3 (k + 1) y0 y1 y2 y3 y4)) ∧ (∀ y0 y1 y2, LeO (gongref03_clock.l2 k y0 y1 y2) (gongref03_clock.l2 (k + 1) y0 y1 y2)) ∧ (∀ y0 y1 y2 y3 y4 y5, LeO (gongref03_clock.l1 k y0 y1 y2 y3 y4 y5) (gongref03_clock.l1 (k + 1) y0 y1 y2 y3 y4 y5)) ∧ (∀ y0 y1 y2 y3 y4, LeO (gongref03_clock.l0 k y0 y1 y2 y3 y4) (gongref03_clock.l0 (k + 1) y0 y1 y2 y3 y4))
  | 0 => ⟨fun _ _ _ _ r h => by simp [gongref03_clock.j1] at h, fun _ _ _ _ _ r h => by simp [gongref03_clock.j3] at h, fun _ _ _ r h => by simp [gongref03_clock.l2] at h, fun _ _ _ _ _ _ r h => by simp [gongref03_clock.l1] at h, fun _ _ _ _ _ r h => by simp [gongref03_clock.l0] at h⟩
  | k + 1 => by
    obtain ⟨ih0, ih1, ih2, ih3, ih4⟩ := gongref03_clock.mono_l k
    refine ⟨?_, ?_, ?_, ?_, ?_⟩
    · intro y0 y1 y2 y3
      unfold gongref03_clock.j1
      repeat' first
      | (with_reducible exact ih0 _ _ _ _)
      | (with_reducible exact ih1 _ _ _ _ _)
      | (with_reducible exact ih2 _ _ _)
      | (with_reducible exact ih3 _ _ _ _ _ _)
      | (with_reducible exact ih4 _ _ _ _ _)
      | (with_reducible exact gongref03_days.mono _ _ _)
      | (with_reducible exact gongref03_digits.mono _ _ _)
      | (with_reducible exact gongref03_past.mono _ _)
      | (with_reducible exact LeO.refl _)
      | (with_reducible exact LeO.none _)
      | (with_reducible refine LeO.ite ?_ ?_)
      | (with_reducible refine LeO.bind ?_ (fun _ => ?_))
      | exact ih0 _ _ _ _
      | exact ih1 _ _ _ _ _
      | exact ih2 _ _ _
      | exact ih3 _ _ _ _ _ _
      | exact ih4 _ _ _ _ _
      | exact gongref03_days.mono _ _ _
      | exact gongref03_digits.mono _ _ _
      | exact gongref03_past.mono _ _
      | exact LeO.none _
      | refine LeO.ite ?_ ?_
      | refine LeO.bind ?_ (fun _ => ?_)
    · intro y0 y1 y2 y3 y4
      unfold gongref03_clock.j3
      repeat' first
      | (with_reducible exact ih0 _ _ _ _)
      | (with_reducible exact ih1 _ _ _ _ _)
      | (with_reducible exact ih2 _ _ _)
      | (with_reducible exact ih3 _ _ _ _ _ _)
      | (with_reducible exact ih4 _ _ _ _ _)
      | (with_reducible exact gongref03_days.mono _ _ _)
      | (with_reducible exact gongref03_digits.mono _ _ _)
      | (with_reducible exact gongref03_past.mono _ _)
      | (with_reducible exact LeO.refl _)
      | (with_reducible exact LeO.none _)
      | (with_reducible refine LeO.ite ?_ ?_)
      | (with_reducible refine LeO.bind ?_ (fun _ => ?_))
      | exact ih0 _ _ _ _
      | exact ih1 _ _ _ _ _
      | exact ih2 _ _ _
      | exact ih3 _ _ _ _ _ _
      | exact ih4 _ _ _ _ _
      | exact gongref03_days.mono _ _ _
      | exact gongref03_digits.mono _ _ _
      | exact gongref03_past.mono _ _
      | exact LeO.none _
      | refine LeO.ite ?_ ?_
      | refine LeO.bind ?_ (fun _ => ?_)
    · intro y0 y1 y2
      unfold gongref03_clock.l2
      repeat' first
      | (with_reducible exact ih0 _ _ _ _)
      | (with_reducible exact ih1 _ _ _ _ _)
      | (with_reducible exact ih2 _ _ _)
      | (with_reducible exact ih3 _ _ _ _ _ _)
      | (with_reducible exact ih4 _ _ _ _ _)
      | (with_reducible exact gongref03_days.mono _ _ _)
      | (with_reducible exact gongref03_digits.mono _ _ _)
      | (with_reducible exact gongref03_past.mono _ _)
      | (with_reducible exact LeO.refl _)
      | (with_reducible exact LeO.none _)
      | (with_reducible refine LeO.ite ?_ ?_)
      | (with_reducible refine LeO.bind ?_ (fun _ => ?_))
      | exact ih0 _ _ _ _
      | exact ih1 _ _ _ _ _
      | exact ih2 _ _ _
      | exact ih3 _ _ _ _ _ _
      | exact ih4 _ _ _ _ _
      | exact gongref03_days.mono _ _ _
      | exact gongref03_digits.mono _ _ _
      | exact gongref03_past.mono _ _
      | exact LeO.none _
      | refine LeO.ite ?_ ?_
      | refine LeO.bind ?_ (fun _ => ?_)
    · intro y0 y1 y2 y3 y4 y5
      unfold gongref03_clock.l1
      repeat' first
      | (with_reducible exact ih0 _ _ _ _)
      | (with_reducible exact ih1 _ _ _ _ _)
      | (with_reducible exact ih2 _ _ _)
      | (with_reducible exact ih3 _ _ _ _ _ _)
      | (with_reducible exact ih4 _ _ _ _ _)
      | (with_reducible exact gongref03_days.mono _ _ _)
      | (with_reducible exact gongref03_digits.mono _ _ _)
      | (with_reducible exact gongref03_past.mono _ _)
      | (with_reducible exact LeO.refl _)
      | (with_reducible exact LeO.none _)
      | (with_reducible refine LeO.ite ?_ ?_)
      | (with_reducible refine LeO.bind ?_ (fun _ => ?_))
      | exact ih0 _ _ _ _
      | exact ih1 _ _ _ _ _
      | exact ih2 _ _ _
      | exact ih3 _ _ _ _ _ _
      | exact ih4 _ _ _ _ _
      | exact gongref03_days.mono _ _ _
      | exact gongref03_digits.mono _ _ _
      | exact gongref03_past.mono _ _
      | exact LeO.none _
      | refine LeO.ite ?_ ?_
      | refine LeO.bind ?_ (fun _ => ?_)
    · intro y0 y1 y2 y3 y4
      unfold gongref03_clock.l0
      repeat' first
      | (with_reducible exact ih0 _ _ _ _)
      | (with_reducible exact ih1 _ _ _ _ _)
      | (with_reducible exact ih2 _ _ _)
      | (with_reducible exact ih3 _ _ _ _ _ _)
      | (with_reducible exact ih4 _ _ _ _ _)
      | (with_reducible exact gongref03_days.mono _ _ _)
      | (with_reducible exact gongref03_digits.mono _ _ _)
      | (with_reducible exact gongref03_past.mono _ _)
      | (with_reducible exact LeO.refl _)
      | (with_reducible exact LeO.none _)
      | (with_reducible refine LeO.ite ?_ ?_)
      | (with_reducible refine LeO.bind ?_ (fun _ => ?_))
      | exact ih0 _ _ _ _
      | exact ih1 _ _ _ _ _
      | exact ih2 _ _ _
      | exact ih3 _ _ _ _ _ _
      | exact ih4 _ _ _ _ _
      | exact gongref03_days.mono _ _ _
      | exact gongref03_digits.mono _ _ _
      | exact gongref03_past.mono _ _
      | exact LeO.none _
      | refine LeO.ite ?_ ?_
      | refine LeO.bind ?_ (fun _ => ?_)
theorem gongref03_clock.mono : ∀ a0 a1 k, LeO (gongref03_clock.f k a0 a1) (gongref03_clock.f (k + 1) a0 a1) := by
  intro a0 a1 k
  obtain ⟨ih0, ih1, ih2, ih3, ih4⟩ := gongref03_clock.mono_l k
  unfold gongref03_clock.f
  repeat' first
      | (with_reducible exact ih0 _ _ _ _)
      | (with_reducible exact ih1 _ _ _ _ _)
      | (with_reducible exact ih2 _ _ _)
      | (with_reducible exact ih3 _ _ _ _ _ _)
      | (with_reducible exact ih4 _ _ _ _ _)
      | (with_reducible exact gongref03_days.mono _ _ _)
      | (with_reducible exact gongref03_digits.mono _ _ _)
      | (with_reducible exact gongref03_past.mono _ _)
      | (with_reducible exact LeO.refl _)
      | (with_reducible exact LeO.none _)
      | (with_reducible refine LeO.ite ?_ ?_)
      | (with_reducible refine LeO.bind ?_ (fun _ => ?_))
      | exact ih0 _ _ _ _
      | exact ih1 _ _ _ _ _
      | exact ih2 _ _ _
      | exact ih3 _ _ _ _ _ _
      | exact ih4 _ _ _ _ _
      | exact gongref03_days.mono _ _ _
      | exact gongref03_digits.mono _ _ _
      | exact gongref03_past.mono _ _
      | exact LeO.none _
      | refine LeO.ite ?_ ?_
      | refine LeO.bind ?_ (fun _ => ?_)
set_option maxHeartbeats 8000000 in
set_option maxRecDepth 100000 in
theorem gongref03_clock.calls (k : Nat) (a0 : Int) (a1 : Int) (r : ByteArray) (w : World) (h : gongref03_clock.f k a0 a1 = some r) :
    Calls Tryd.prog 53 #[.int .i64 a0, .int .i64 a1] w fun e w' => e = .returned (.string r) ∧ Below w.heap.size w w' := by
  have HB := Aside0.mk (Below.refl w.heap.size w)
  have H : (gongref03_clock.l0 k a0 a1 1970 (wrap64 (Int.tdiv a0 86400)) 0) = some r := h
  clear h
  have HC3 := Aside0.mk H
  clear H
  go_enter Tryd.func53, Tryd.ntmps53
  go_upto_block 0 with (fail)
  go_cut [5] (fun v5 wc => ∃ (kq : Nat) (x5_2 : Int), v5 = .int .i64 x5_2 ∧ Aside0 (gongref03_clock.j1 kq a0 a1 x5_2 (wrap64 (Int.tdiv a0 86400)) = some r) ∧ Aside0 (kq ≤ k) ∧ Aside0 (Below w.heap.size w wc))
  case first =>
    have H := HC3.out
    clear HC3
    have H' := Aside0.mk H
    clear H
    go_wp2
    go_loopg [5, 7] k (fun kq v5 v7 w' => ∃ (x5_1 : Int) (x7_1 : Int), v5 = .int .i64 x5_1 ∧ v7 = .int .i64 x7_1 ∧ Aside0 (gongref03_clock.l0 kq a0 a1 x5_1 (wrap64 (Int.tdiv a0 86400)) x7_1 = some r) ∧ Aside0 (kq ≤ k) ∧ Aside0 (Below w.heap.size w w'))
    case atStart => exact ⟨(1970), (0), (by first | rfl | (simp; done) | (simp [*]; done) | (simp [*]; exact isEmpty_bne _) | (simp; exact isEmpty_bne _)), (by first | rfl | (simp; done) | (simp [*]; done) | (simp [*]; exact isEmpty_bne _) | (simp; exact isEmpty_bne _)), H', ⟨Nat.le_refl _⟩, ⟨by repeat (first | (with_reducible first | exact HB.out | apply below_alloc | apply pw_below_drewN | apply below_drew1) | exact HB.out)⟩⟩
    case round =>
      clear H'
      try clear p2
      obtain ⟨x5_1, x7_1, rfl, rfl, HA, HK1, HB⟩ := hrel
      cases gk with
      | zero => exact absurd HA.out (by simp [gongref03_clock.l0])
      | succ k1 =>
        have H := HA.out
        clear HA
        simp only [gongref03_clock.l0] at H
        by_cases c4 : x7_1 < 400
        · rw [if_pos c4] at H
          have c4b0 : decide (x7_1 < 400) = true := decide_eq_true c4
          clear c4
          (first | rw [c4b0] | (simp only [i64_w, i32_w]; rw [c4b0]) | skip)
          replace H := Option.bind_eq_some_iff.mp H
          obtain ⟨t167, A50, H⟩ := H
          replace H : (if (wrap64 (Int.tdiv a0 86400)) ≥ t167 then (gongref03_clock.l0 k1 a0 a1 (wrap64 (x5_1 + 1)) (wrap64 (Int.tdiv a0 86400)) (wrap64 (x7_1 + 1))) else (gongref03_clock.j1 k1 a0 a1 x5_1 (wrap64 (Int.tdiv a0 86400)))) = some r := H
          have A5 := Aside0.mk A50
          clear A50
          by_cases c6 : (wrap64 (Int.tdiv a0 86400)) ≥ t167
          · rw [if_pos c6] at H
            have c6b0 : decide (t167 ≤ (wrap64 (Int.tdiv a0 86400))) = true := decide_eq_true c6
            clear c6
            have H' := Aside0.mk H
            clear H
            go_wp2_with (first | (go_at_call 48; (with_reducible refine (gongref03_past.calls k1 (wrap64 (x5_1 + 1)) t167 _ A5.out).mono ?_); rintro e w' ⟨rfl, ⟨nd, rfl⟩⟩))
            go_roundg k1
            case measure => have := HK1.out; omega
            case rel => exact ⟨(wrap64 (x5_1 + 1)), (wrap64 (x7_1 + 1)), (by first | rfl | (simp; done) | (simp [*]; done) | (simp [*]; exact isEmpty_bne _) | (simp; exact isEmpty_bne _)), (by first | rfl | (simp; done) | (simp [*]; done) | (simp [*]; exact isEmpty_bne _) | (simp; exact isEmpty_bne _)), H', ⟨by have := HK1.out; omega⟩, ⟨by repeat (first | (with_reducible first | exact HB.out | apply below_alloc | apply pw_below_drewN | apply below_drew1) | exact HB.out)⟩⟩
          · rw [if_neg c6] at H
            have c6b0 : decide (t167 ≤ (wrap64 (Int.tdiv a0 86400))) = false := decide_eq_false c6
            clear c6
            have H' := Aside0.mk H
            clear H
            go_wp2_with (first | (go_at_call 48; (with_reducible refine (gongref03_past.calls k1 (wrap64 (x5_1 + 1)) t167 _ A5.out).mono ?_); rintro e w' ⟨rfl, ⟨nd, rfl⟩⟩))
            go_meet
            case rel => exact ⟨_, (x5_1), (by first | rfl | (simp; done) | (simp [*]; done) | (simp [*]; exact isEmpty_bne _) | (simp; exact isEmpty_bne _)), H', ⟨by have := HK1.out; first | omega | exact Nat.le_refl _⟩, ⟨by repeat (first | (with_reducible first | exact HB.out | apply below_alloc | apply pw_below_drewN | apply below_drew1) | exact HB.out)⟩⟩
        · rw [if_neg c4] at H
          have c4b0 : decide (x7_1 < 400) = false := decide_eq_false c4
          clear c4
          (first | rw [c4b0] | (simp only [i64_w, i32_w]; rw [c4b0]) | skip)
          have H' := Aside0.mk H
          clear H
          go_wp2
          go_meet
          case rel => exact ⟨_, (x5_1), (by first | rfl | (simp; done) | (simp [*]; done) | (simp [*]; exact isEmpty_bne _) | (simp; exact isEmpty_bne _)), H', ⟨by have := HK1.out; first | omega | exact Nat.le_refl _⟩, ⟨by repeat (first | (with_reducible first | exact HB.out | apply below_alloc | apply pw_below_drewN | apply below_drew1) | exact HB.out)⟩⟩
  case rest =>
    clear HC3
    try clear p2
    try clear c4
    try clear c4b0
    try clear c5
    try clear c6
    try clear c6b0
    try clear p6
    try clear p2
    obtain ⟨kq, x5_2, rfl, HA, HJ2, HB⟩ := hcut
    cases kq with
    | zero => exact absurd HA.out (by simp [gongref03_clock.j1])
    | succ kj2 =>
      have H := HA.out
      clear HA
      simp only [gongref03_clock.j1] at H
      replace H := Option.bind_eq_some_iff.mp H
      obtain ⟨t168, A70, H⟩ := H
      replace H : (gongref03_clock.l1 kj2 a0 a1 x5_2 (wrap64 ((wrap64 (Int.tdiv a0 86400)) - t168)) 1 0) = some r := H
      have A7 := Aside0.mk A70
      clear A70
      have HC8 := Aside0.mk H
      clear H
      go_upto_block 2 with (first | ((with_reducible refine gate_callee (f := 48) rfl ?_); refine goesL_ (some 30) rfl rfl Tryd.func48 (by kernel_rfl) rfl #[.int .i64 x5_2] rfl (by (try simp only [List.map_toArray, List.map_cons, List.map_nil]); first | done | rfl | (simp only [List.length_drop, List.length_take]; rfl)) ?_; (with_reducible refine (gongref03_past.calls kj2 x5_2 t168 _ A7.out).mono ?_); rintro e w' ⟨rfl, ⟨nd, rfl⟩⟩; refine ⟨_, rfl, ?_⟩))
      (try simp only [Act.put, List.setIfInBounds_toArray, List.set_cons_zero, List.set_cons_succ])
      go_cut [6, 8] (fun v6 v8 wc => ∃ (kq : Nat) (x6_7 : Int) (x8_7 : Int), v6 = .int .i64 x6_7 ∧ v8 = .int .i64 x8_7 ∧ Aside0 (gongref03_clock.j3 kq a0 a1 x5_2 x6_7 x8_7 = some r) ∧ Aside0 (kq ≤ kj2) ∧ Aside0 (Below w.heap.size w wc))
      case first =>
        have H := HC8.out
        clear HC8
        have H' := Aside0.mk H
        clear H
        go_wp2
        go_loopg [6, 8, 9] kj2 (fun kq v6 v8 v9 w' => ∃ (x6_2 : Int) (x8_2 : Int) (x9_2 : Int), v6 = .int .i64 x6_2 ∧ v8 = .int .i64 x8_2 ∧ v9 = .int .i64 x9_2 ∧ Aside0 (gongref03_clock.l1 kq a0 a1 x5_2 x6_2 x8_2 x9_2 = some r) ∧ Aside0 (kq ≤ kj2) ∧ Aside0 (Below w.heap.size w w'))
        case atStart => exact ⟨(wrap64 ((wrap64 (Int.tdiv a0 86400)) - t168)), (1), (0), (by first | rfl | (simp; done) | (simp [*]; done) | (simp [*]; exact isEmpty_bne _) | (simp; exact isEmpty_bne _)), (by first | rfl | (simp; done) | (simp [*]; done) | (simp [*]; exact isEmpty_bne _) | (simp; exact isEmpty_bne _)), (by first | rfl | (simp; done) | (simp [*]; done) | (simp [*]; exact isEmpty_bne _) | (simp; exact isEmpty_bne _)), H', ⟨Nat.le_refl _⟩, ⟨by repeat (first | (with_reducible first | exact HB.out | apply below_alloc | apply pw_below_drewN | apply below_drew1) | exact HB.out)⟩⟩
        case round =>
          clear H'
          try clear p2
          try clear c4
          try clear c4b0
          try clear c5
          try clear c6
          try clear c6b0
          try clear p6
          try clear p2
          try clear p6
          obtain ⟨x6_2, x8_2, x9_2, rfl, rfl, rfl, HA, HK2, HB⟩ := hrel
          cases gk with
          | zero => exact absurd HA.out (by simp [gongref03_clock.l1])
          | succ k2 =>
            have H := HA.out
            clear HA
            simp only [gongref03_clock.l1] at H
            by_cases c9 : x9_2 < 12
            · rw [if_pos c9] at H
              have c9b0 : decide (x9_2 < 12) = true := decide_eq_true c9
              clear c9
              (first | rw [c9b0] | (simp only [i64_w, i32_w]; rw [c9b0]) | skip)
              replace H := Option.bind_eq_some_iff.mp H
              obtain ⟨t169, A100, H⟩ := H
              replace H : (if x6_2 ≥ t169 then ((gongref03_days.f k2 x5_2 x8_2).bind fun t170 => (gongref03_clock.l1 k2 a0 a1 x5_2 (wrap64 (x6_2 - t170)) (wrap64 (x8_2 + 1)) (wrap64 (x9_2 + 1)))) else (gongref03_clock.j3 k2 a0 a1 x5_2 x6_2 x8_2)) = some r := H
              have A10 := Aside0.mk A100
              clear A100
              by_cases c11 : x6_2 ≥ t169
              · rw [if_pos c11] at H
                have c11b0 : decide (t169 ≤ x6_2) = true := decide_eq_true c11
                clear c11
                replace H := Option.bind_eq_some_iff.mp H
                obtain ⟨t170, A120, H⟩ := H
                replace H : (gongref03_clock.l1 k2 a0 a1 x5_2 (wrap64 (x6_2 - t170)) (wrap64 (x8_2 + 1)) (wrap64 (x9_2 + 1))) = some r := H
                have A12 := Aside0.mk A120
                clear A120
                have H' := Aside0.mk H
                clear H
                go_wp2_with (first | (go_at_call 45; (with_reducible refine (gongref03_days.calls k2 x5_2 x8_2 t169 _ A10.out).mono ?_); rintro e w' ⟨rfl, ⟨nd, rfl⟩⟩) | ((with_reducible refine gate_callee (f := 45) rfl ?_); refine goesL_ (some 46) rfl rfl Tryd.func45 (by kernel_rfl) rfl #[.int .i64 x5_2, .int .i64 x8_2] rfl (by (try simp only [List.map_toArray, List.map_cons, List.map_nil]); first | done | rfl | (simp only [List.length_drop, List.length_take]; rfl)) ?_; (with_reducible refine (gongref03_days.calls k2 x5_2 x8_2 t170 _ A12.out).mono ?_); rintro e w' ⟨rfl, ⟨nd, rfl⟩⟩; refine ⟨_, rfl, ?_⟩))
                go_roundg k2
                case measure => have := HJ2.out; have := HK2.out; omega
                case rel => exact ⟨(wrap64 (x6_2 - t170)), (wrap64 (x8_2 + 1)), (wrap64 (x9_2 + 1)), (by first | rfl | (simp; done) | (simp [*]; done) | (simp [*]; exact isEmpty_bne _) | (simp; exact isEmpty_bne _)), (by first | rfl | (simp; done) | (simp [*]; done) | (simp [*]; exact isEmpty_bne _) | (simp; exact isEmpty_bne _)), (by first | rfl | (simp; done) | (simp [*]; done) | (simp [*]; exact isEmpty_bne _) | (simp; exact isEmpty_bne _)), H', ⟨by have := HJ2.out; have := HK2.out; omega⟩, ⟨by repeat (first | (with_reducible first | exact HB.out | apply below_alloc | apply pw_below_drewN | apply below_drew1) | exact HB.out)⟩⟩
              · rw [if_neg c11] at H
                have c11b0 : decide (t169 ≤ x6_2) = false := decide_eq_false c11
                clear c11
                have H' := Aside0.mk H
                clear H
                go_wp2_with (first | (go_at_call 45; (with_reducible refine (gongref03_days.calls k2 x5_2 x8_2 t169 _ A10.out).mono ?_); rintro e w' ⟨rfl, ⟨nd, rfl⟩⟩))
                go_meet
                case rel => exact ⟨_, (x6_2), (x8_2), (by first | rfl | (simp; done) | (simp [*]; done) | (simp [*]; exact isEmpty_bne _) | (simp; exact isEmpty_bne _)), (by first | rfl | (simp; done) | (simp [*]; done) | (simp [*]; exact isEmpty_bne _) | (simp; exact isEmpty_bne _)), H', ⟨by have := HJ2.out; have := HK2.out; first | omega | exact Nat.le_refl _⟩, ⟨by repeat (first | (with_reducible first | exact HB.out | apply below_alloc | apply pw_below_drewN | apply below_drew1) | exact HB.out)⟩⟩
            · rw [if_neg c9] at H
              have c9b0 : decide (x9_2 < 12) = false := decide_eq_false c9
              clear c9
              (first | rw [c9b0] | (simp only [i64_w, i32_w]; rw [c9b0]) | skip)
              have H' := Aside0.mk H
              clear H
              go_wp2
              go_meet
              case rel => exact ⟨_, (x6_2), (x8_2), (by first | rfl | (simp; done) | (simp [*]; done) | (simp [*]; exact isEmpty_bne _) | (simp; exact isEmpty_bne _)), (by first | rfl | (simp; done) | (simp [*]; done) | (simp [*]; exact isEmpty_bne _) | (simp; exact isEmpty_bne _)), H', ⟨by have := HJ2.out; have := HK2.out; first | omega | exact Nat.le_refl _⟩, ⟨by repeat (first | (with_reducible first | exact HB.out | apply below_alloc | apply pw_below_drewN | apply below_drew1) | exact HB.out)⟩⟩
      case rest =>
        clear HC8
        try clear c1
        try clear p2
        try clear c4
        try clear c4b0
        try clear c5
        try clear c6
        try clear c6b0
        try clear p6
        try clear c9
        try clear c9b0
        try clear c11
        try clear c11b0
        try clear p2
        try clear p6
        obtain ⟨kq, x6_7, x8_7, rfl, rfl, HA, HJ7, HB⟩ := hcut
        cases kq with
        | zero => exact absurd HA.out (by simp [gongref03_clock.j3])
        | succ kj7 =>
          have H := HA.out
          clear HA
          simp only [gongref03_clock.j3] at H
          replace H := Option.bind_eq_some_iff.mp H
          obtain ⟨t171, A130, H⟩ := H
          replace H : (if t171.size + 1 ≤ 9223372036854775807 then ((gongref03_digits.f kj7 x8_7 2).bind fun t172 => (if (t171 ++ (⟨#[45]⟩ : ByteArray)).size + t172.size ≤ 9223372036854775807 then (if ((t171 ++ (⟨#[45]⟩ : ByteArray)) ++ t172).size + 1 ≤ 9223372036854775807 then ((gongref03_digits.f kj7 (wrap64 (x6_7 + 1)) 2).bind fun t173 => (if (((t171 ++ (⟨#[45]⟩ : ByteArray)) ++ t172) ++ (⟨#[45]⟩ : ByteArray)).size + t173.size ≤ 9223372036854775807 then (if ((((t171 ++ (⟨#[45]⟩ : ByteArray)) ++ t172) ++ (⟨#[45]⟩ : ByteArray)) ++ t173).size + 1 ≤ 9223372036854775807 then ((gongref03_digits.f kj7 (Int.tmod (wrap64 (Int.tdiv a0 3600)) 24) 2).bind fun t174 => (if (((((t171 ++ (⟨#[45]⟩ : ByteArray)) ++ t172) ++ (⟨#[45]⟩ : ByteArray)) ++ t173) ++ (⟨#[84]⟩ : ByteArray)).size + t174.size ≤ 9223372036854775807 then (if ((((((t171 ++ (⟨#[45]⟩ : ByteArray)) ++ t172) ++ (⟨#[45]⟩ : ByteArray)) ++ t173) ++ (⟨#[84]⟩ : ByteArray)) ++ t174).size + 1 ≤ 9223372036854775807 then ((gongref03_digits.f kj7 (Int.tmod (wrap64 (Int.tdiv a0 60)) 60) 2).bind fun t175 => (if (((((((t171 ++ (⟨#[45]⟩ : ByteArray)) ++ t172) ++ (⟨#[45]⟩ : ByteArray)) ++ t173) ++ (⟨#[84]⟩ : ByteArray)) ++ t174) ++ (⟨#[58]⟩ : ByteArray)).size + t175.size ≤ 9223372036854775807 then (if ((((((((t171 ++ (⟨#[45]⟩ : ByteArray)) ++ t172) ++ (⟨#[45]⟩ : ByteArray)) ++ t173) ++ (⟨#[84]⟩ : ByteArray)) ++ t174) ++ (⟨#[58]⟩ : ByteArray)) ++ t175).size + 1 ≤ 9223372036854775807 then ((gongref03_digits.f kj7 (Int.tmod a0 60) 2).bind fun t176 => (if (((((((((t171 ++ (⟨#[45]⟩ : ByteArray)) ++ t172) ++ (⟨#[45]⟩ : ByteArray)) ++ t173) ++ (⟨#[84]⟩ : ByteArray)) ++ t174) ++ (⟨#[58]⟩ : ByteArray)) ++ t175) ++ (⟨#[58]⟩ : ByteArray)).size + t176.size ≤ 9223372036854775807 then (if a1 = 0 then (some ((((((((((t171 ++ (⟨#[45]⟩ : ByteArray)) ++ t172) ++ (⟨#[45]⟩ : ByteArray)) ++ t173) ++ (⟨#[84]⟩ : ByteArray)) ++ t174) ++ (⟨#[58]⟩ : ByteArray)) ++ t175) ++ (⟨#[58]⟩ : ByteArray)) ++ t176)) else ((gongref03_digits.f kj7 a1 9).bind fun t177 => (gongref03_clock.l2 kj7 ((((((((((t171 ++ (⟨#[45]⟩ : ByteArray)) ++ t172) ++ (⟨#[45]⟩ : ByteArray)) ++ t173) ++ (⟨#[84]⟩ : ByteArray)) ++ t174) ++ (⟨#[58]⟩ : ByteArray)) ++ t175) ++ (⟨#[58]⟩ : ByteArray)) ++ t176) t177 0))) else (none))) else (none)) else (none))) else (none)) else (none))) else (none)) else (none))) else (none)) else (none))) else (none)) = some r := H
          have A13 := Aside0.mk A130
          clear A130
          by_cases c14 : t171.size + 1 ≤ 9223372036854775807
          · rw [if_pos c14] at H
            have c14b0 := eq_true c14
            have c14b1 : decide (t171.size + 1 ≤ 9223372036854775807) = true := decide_eq_true c14
            try have c14b2 : (9223372036854775807 < t171.size + 1) = False := eq_false (Nat.not_lt.2 c14)
            replace H := Option.bind_eq_some_iff.mp H
            obtain ⟨t172, A150, H⟩ := H
            replace H : (if (t171 ++ (⟨#[45]⟩ : ByteArray)).size + t172.size ≤ 9223372036854775807 then (if ((t171 ++ (⟨#[45]⟩ : ByteArray)) ++ t172).size + 1 ≤ 9223372036854775807 then ((gongref03_digits.f kj7 (wrap64 (x6_7 + 1)) 2).bind fun t173 => (if (((t171 ++ (⟨#[45]⟩ : ByteArray)) ++ t172) ++ (⟨#[45]⟩ : ByteArray)).size + t173.size ≤ 9223372036854775807 then (if ((((t171 ++ (⟨#[45]⟩ : ByteArray)) ++ t172) ++ (⟨#[45]⟩ : ByteArray)) ++ t173).size + 1 ≤ 9223372036854775807 then ((gongref03_digits.f kj7 (Int.tmod (wrap64 (Int.tdiv a0 3600)) 24) 2).bind fun t174 => (if (((((t171 ++ (⟨#[45]⟩ : ByteArray)) ++ t172) ++ (⟨#[45]⟩ : ByteArray)) ++ t173) ++ (⟨#[84]⟩ : ByteArray)).size + t174.size ≤ 9223372036854775807 then (if ((((((t171 ++ (⟨#[45]⟩ : ByteArray)) ++ t172) ++ (⟨#[45]⟩ : ByteArray)) ++ t173) ++ (⟨#[84]⟩ : ByteArray)) ++ t174).size + 1 ≤ 9223372036854775807 then ((gongref03_digits.f kj7 (Int.tmod (wrap64 (Int.tdiv a0 60)) 60) 2).bind fun t175 => (if (((((((t171 ++ (⟨#[45]⟩ : ByteArray)) ++ t172) ++ (⟨#[45]⟩ : ByteArray)) ++ t173) ++ (⟨#[84]⟩ : ByteArray)) ++ t174) ++ (⟨#[58]⟩ : ByteArray)).size + t175.size ≤ 9223372036854775807 then (if ((((((((t171 ++ (⟨#[45]⟩ : ByteArray)) ++ t172) ++ (⟨#[45]⟩ : ByteArray)) ++ t173) ++ (⟨#[84]⟩ : ByteArray)) ++ t174) ++ (⟨#[58]⟩ : ByteArray)) ++ t175).size + 1 ≤ 9223372036854775807 then ((gongref03_digits.f kj7 (Int.tmod a0 60) 2).bind fun t176 => (if (((((((((t171 ++ (⟨#[45]⟩ : ByteArray)) ++ t172) ++ (⟨#[45]⟩ : ByteArray)) ++ t173) ++ (⟨#[84]⟩ : ByteArray)) ++ t174) ++ (⟨#[58]⟩ : ByteArray)) ++ t175) ++ (⟨#[58]⟩ : ByteArray)).size + t176.size ≤ 9223372036854775807 then (if a1 = 0 then (some ((((((((((t171 ++ (⟨#[45]⟩ : ByteArray)) ++ t172) ++ (⟨#[45]⟩ : ByteArray)) ++ t173) ++ (⟨#[84]⟩ : ByteArray)) ++ t174) ++ (⟨#[58]⟩ : ByteArray)) ++ t175) ++ (⟨#[58]⟩ : ByteArray)) ++ t176)) else ((gongref03_digits.f kj7 a1 9).bind fun t177 => (gongref03_clock.l2 kj7 ((((((((((t171 ++ (⟨#[45]⟩ : ByteArray)) ++ t172) ++ (⟨#[45]⟩ : ByteArray)) ++ t173) ++ (⟨#[84]⟩ : ByteArray)) ++ t174) ++ (⟨#[58]⟩ : ByteArray)) ++ t175) ++ (⟨#[58]⟩ : ByteArray)) ++ t176) t177 0))) else (none))) else (none)) else (none))) else (none)) else (none))) else (none)) else (none))) else (none)) else (none)) = some r := H
            have A15 := Aside0.mk A150
            clear A150
            by_cases c16 : (t171 ++ (⟨#[45]⟩ : ByteArray)).size + t172.size ≤ 9223372036854775807
            · rw [if_pos c16] at H
              have c16b0 := eq_true c16
              have c16b1 : decide ((t171 ++ (⟨#[45]⟩ : ByteArray)).size + t172.size ≤ 9223372036854775807) = true := decide_eq_true c16
              try have c16b2 : (9223372036854775807 < (t171 ++ (⟨#[45]⟩ : ByteArray)).size + t172.size) = False := eq_false (Nat.not_lt.2 c16)
              have c16z2 := c16b2
              simp only [ByteArray.size_append] at c16z2
              have c16z3 := c16z2
              try simp only [size_lit1, size_lit2, size_lit3, size_lit4] at c16z3
              by_cases c17 : ((t171 ++ (⟨#[45]⟩ : ByteArray)) ++ t172).size + 1 ≤ 9223372036854775807
              · rw [if_pos c17] at H
                have c17b0 := eq_true c17
                have c17b1 : decide (((t171 ++ (⟨#[45]⟩ : ByteArray)) ++ t172).size + 1 ≤ 9223372036854775807) = true := decide_eq_true c17
                try have c17b2 : (9223372036854775807 < ((t171 ++ (⟨#[45]⟩ : ByteArray)) ++ t172).size + 1) = False := eq_false (Nat.not_lt.2 c17)
                have c17z2 := c17b2
                simp only [ByteArray.size_append] at c17z2
                have c17z3 := c17z2
                try simp only [size_lit1, size_lit2, size_lit3, size_lit4] at c17z3
                replace H := Option.bind_eq_some_iff.mp H
                obtain ⟨t173, A180, H⟩ := H
                replace H : (if (((t171 ++ (⟨#[45]⟩ : ByteArray)) ++ t172) ++ (⟨#[45]⟩ : ByteArray)).size + t173.size ≤ 9223372036854775807 then (if ((((t171 ++ (⟨#[45]⟩ : ByteArray)) ++ t172) ++ (⟨#[45]⟩ : ByteArray)) ++ t173).size + 1 ≤ 9223372036854775807 then ((gongref03_digits.f kj7 (Int.tmod (wrap64 (Int.tdiv a0 3600)) 24) 2).bind fun t174 => (if (((((t171 ++ (⟨#[45]⟩ : ByteArray)) ++ t172) ++ (⟨#[45]⟩ : ByteArray)) ++ t173) ++ (⟨#[84]⟩ : ByteArray)).size + t174.size ≤ 9223372036854775807 then (if ((((((t171 ++ (⟨#[45]⟩ : ByteArray)) ++ t172) ++ (⟨#[45]⟩ : ByteArray)) ++ t173) ++ (⟨#[84]⟩ : ByteArray)) ++ t174).size + 1 ≤ 9223372036854775807 then ((gongref03_digits.f kj7 (Int.tmod (wrap64 (Int.tdiv a0 60)) 60) 2).bind fun t175 => (if (((((((t171 ++ (⟨#[45]⟩ : ByteArray)) ++ t172) ++ (⟨#[45]⟩ : ByteArray)) ++ t173) ++ (⟨#[84]⟩ : ByteArray)) ++ t174) ++ (⟨#[58]⟩ : ByteArray)).size + t175.size ≤ 9223372036854775807 then (if ((((((((t171 ++ (⟨#[45]⟩ : ByteArray)) ++ t172) ++ (⟨#[45]⟩ : ByteArray)) ++ t173) ++ (⟨#[84]⟩ : ByteArray)) ++ t174) ++ (⟨#[58]⟩ : ByteArray)) ++ t175).size + 1 ≤ 9223372036854775807 then ((gongref03_digits.f kj7 (Int.tmod a0 60) 2).bind fun t176 => (if (((((((((t171 ++ (⟨#[45]⟩ : ByteArray)) ++ t172) ++ (⟨#[45]⟩ : ByteArray)) ++ t173) ++ (⟨#[84]⟩ : ByteArray)) ++ t174) ++ (⟨#[58]⟩ : ByteArray)) ++ t175) ++ (⟨#[58]⟩ : ByteArray)).size + t176.size ≤ 9223372036854775807 then (if a1 = 0 then (some ((((((((((t171 ++ (⟨#[45]⟩ : ByteArray)) ++ t172) ++ (⟨#[45]⟩ : ByteArray)) ++ t173) ++ (⟨#[84]⟩ : ByteArray)) ++ t174) ++ (⟨#[58]⟩ : ByteArray)) ++ t175) ++ (⟨#[58]⟩ : ByteArray)) ++ t176)) else ((gongref03_digits.f kj7 a1 9).bind fun t177 => (gongref03_clock.l2 kj7 ((((((((((t171 ++ (⟨#[45]⟩ : ByteArray)) ++ t172) ++ (⟨#[45]⟩ : ByteArray)) ++ t173) ++ (⟨#[84]⟩ : ByteArray)) ++ t174) ++ (⟨#[58]⟩ : ByteArray)) ++ t175) ++ (⟨#[58]⟩ : ByteArray)) ++ t176) t177 0))) else (none))) else (none)) else (none))) else (none)) else (none))) else (none)) else (none)) = some r := H
                have A18 := Aside0.mk A180
                clear A180
                by_cases c19 : (((t171 ++ (⟨#[45]⟩ : ByteArray)) ++ t172) ++ (⟨#[45]⟩ : ByteArray)).size + t173.size ≤ 9223372036854775807
                · rw [if_pos c19] at H
                  have c19b0 := eq_true c19
                  have c19b1 : decide ((((t171 ++ (⟨#[45]⟩ : ByteArray)) ++ t172) ++ (⟨#[45]⟩ : ByteArray)).size + t173.size ≤ 9223372036854775807) = true := decide_eq_true c19
                  try have c19b2 : (9223372036854775807 < (((t171 ++ (⟨#[45]⟩ : ByteArray)) ++ t172) ++ (⟨#[45]⟩ : ByteArray)).size + t173.size) = False := eq_false (Nat.not_lt.2 c19)
                  have c19z2 := c19b2
                  simp only [ByteArray.size_append] at c19z2
                  have c19z3 := c19z2
                  try simp only [size_lit1, size_lit2, size_lit3, size_lit4] at c19z3
                  by_cases c20 : ((((t171 ++ (⟨#[45]⟩ : ByteArray)) ++ t172) ++ (⟨#[45]⟩ : ByteArray)) ++ t173).size + 1 ≤ 9223372036854775807
                  · rw [if_pos c20] at H
                    have c20b0 := eq_true c20
                    have c20b1 : decide (((((t171 ++ (⟨#[45]⟩ : ByteArray)) ++ t172) ++ (⟨#[45]⟩ : ByteArray)) ++ t173).size + 1 ≤ 9223372036854775807) = true := decide_eq_true c20
                    try have c20b2 : (9223372036854775807 < ((((t171 ++ (⟨#[45]⟩ : ByteArray)) ++ t172) ++ (⟨#[45]⟩ : ByteArray)) ++ t173).size + 1) = False := eq_false (Nat.not_lt.2 c20)
                    have c20z2 := c20b2
                    simp only [ByteArray.size_append] at c20z2
                    have c20z3 := c20z2
                    try simp only [size_lit1, size_lit2, size_lit3, size_lit4] at c20z3
                    replace H := Option.bind_eq_some_iff.mp H
                    obtain ⟨t174, A210, H⟩ := H
                    replace H : (if (((((t171 ++ (⟨#[45]⟩ : ByteArray)) ++ t172) ++ (⟨#[45]⟩ : ByteArray)) ++ t173) ++ (⟨#[84]⟩ : ByteArray)).size + t174.size ≤ 9223372036854775807 then (if ((((((t171 ++ (⟨#[45]⟩ : ByteArray)) ++ t172) ++ (⟨#[45]⟩ : ByteArray)) ++ t173) ++ (⟨#[84]⟩ : ByteArray)) ++ t174).size + 1 ≤ 9223372036854775807 then ((gongref03_digits.f kj7 (Int.tmod (wrap64 (Int.tdiv a0 60)) 60) 2).bind fun t175 => (if (((((((t171 ++ (⟨#[45]⟩ : ByteArray)) ++ t172) ++ (⟨#[45]⟩ : ByteArray)) ++ t173) ++ (⟨#[84]⟩ : ByteArray)) ++ t174) ++ (⟨#[58]⟩ : ByteArray)).size + t175.size ≤ 9223372036854775807 then (if ((((((((t171 ++ (⟨#[45]⟩ : ByteArray)) ++ t172) ++ (⟨#[45]⟩ : ByteArray)) ++ t173) ++ (⟨#[84]⟩ : ByteArray)) ++ t174) ++ (⟨#[58]⟩ : ByteArray)) ++ t175).size + 1 ≤ 9223372036854775807 then ((gongref03_digits.f kj7 (Int.tmod a0 60) 2).bind fun t176 => (if (((((((((t171 ++ (⟨#[45]⟩ : ByteArray)) ++ t172) ++ (⟨#[45]⟩ : ByteArray)) ++ t173) ++ (⟨#[84]⟩ : ByteArray)) ++ t174) ++ (⟨#[58]⟩ : ByteArray)) ++ t175) ++ (⟨#[58]⟩ : ByteArray)).size + t176.size ≤ 9223372036854775807 then (if a1 = 0 then (some ((((((((((t171 ++ (⟨#[45]⟩ : ByteArray)) ++ t172) ++ (⟨#[45]⟩ : ByteArray)) ++ t173) ++ (⟨#[84]⟩ : ByteArray)) ++ t174) ++ (⟨#[58]⟩ : ByteArray)) ++ t175) ++ (⟨#[58]⟩ : ByteArray)) ++ t176)) else ((gongref03_digits.f kj7 a1 9).bind fun t177 => (gongref03_clock.l2 kj7 ((((((((((t171 ++ (⟨#[45]⟩ : ByteArray)) ++ t172) ++ (⟨#[45]⟩ : ByteArray)) ++ t173) ++ (⟨#[84]⟩ : ByteArray)) ++ t174) ++ (⟨#[58]⟩ : ByteArray)) ++ t175) ++ (⟨#[58]⟩ : ByteArray)) ++ t176) t177 0))) else (none))) else (none)) else (none))) else (none)) else (none)) = some r := H
                    have A21 := Aside0.mk A210
                    clear A210
                    by_cases c22 : (((((t171 ++ (⟨#[45]⟩ : ByteArray)) ++ t172) ++ (⟨#[45]⟩ : ByteArray)) ++ t173) ++ (⟨#[84]⟩ : ByteArray)).size + t174.size ≤ 9223372036854775807
                    · rw [if_pos c22] at H
                      have c22b0 := eq_true c22
                      have c22b1 : decide ((((((t171 ++ (⟨#[45]⟩ : ByteArray)) ++ t172) ++ (⟨#[45]⟩ : ByteArray)) ++ t173) ++ (⟨#[84]⟩ : ByteArray)).size + t174.size ≤ 9223372036854775807) = true := decide_eq_true c22
                      try have c22b2 : (9223372036854775807 < (((((t171 ++ (⟨#[45]⟩ : ByteArray)) ++ t172) ++ (⟨#[45]⟩ : ByteArray)) ++ t173) ++ (⟨#[84]⟩ : ByteArray)).size + t174.size) = False := eq_false (Nat.not_lt.2 c22)
                      have c22z2 := c22b2
                      simp only [ByteArray.size_append] at c22z2
                      have c22z3 := c22z2
                      try simp only [size_lit1, size_lit2, size_lit3, size_lit4] at c22z3
                      by_cases c23 : ((((((t171 ++ (⟨#[45]⟩ : ByteArray)) ++ t172) ++ (⟨#[45]⟩ : ByteArray)) ++ t173) ++ (⟨#[84]⟩ : ByteArray)) ++ t174).size + 1 ≤ 9223372036854775807
                      · rw [if_pos c23] at H
                        have c23b0 := eq_true c23
                        have c23b1 : decide (((((((t171 ++ (⟨#[45]⟩ : ByteArray)) ++ t172) ++ (⟨#[45]⟩ : ByteArray)) ++ t173) ++ (⟨#[84]⟩ : ByteArray)) ++ t174).size + 1 ≤ 9223372036854775807) = true := decide_eq_true c23
                        try have c23b2 : (9223372036854775807 < ((((((t171 ++ (⟨#[45]⟩ : ByteArray)) ++ t172) ++ (⟨#[45]⟩ : ByteArray)) ++ t173) ++ (⟨#[84]⟩ : ByteArray)) ++ t174).size + 1) = False := eq_false (Nat.not_lt.2 c23)
                        have c23z2 := c23b2
                        simp only [ByteArray.size_append] at c23z2
                        have c23z3 := c23z2
                        try simp only [size_lit1, size_lit2, size_lit3, size_lit4] at c23z3
                        replace H := Option.bind_eq_some_iff.mp H
                        obtain ⟨t175, A240, H⟩ := H
                        replace H : (if (((((((t171 ++ (⟨#[45]⟩ : ByteArray)) ++ t172) ++ (⟨#[45]⟩ : ByteArray)) ++ t173) ++ (⟨#[84]⟩ : ByteArray)) ++ t174) ++ (⟨#[58]⟩ : ByteArray)).size + t175.size ≤ 9223372036854775807 then (if ((((((((t171 ++ (⟨#[45]⟩ : ByteArray)) ++ t172) ++ (⟨#[45]⟩ : ByteArray)) ++ t173) ++ (⟨#[84]⟩ : ByteArray)) ++ t174) ++ (⟨#[58]⟩ : ByteArray)) ++ t175).size + 1 ≤ 9223372036854775807 then ((gongref03_digits.f kj7 (Int.tmod a0 60) 2).bind fun t176 => (if (((((((((t171 ++ (⟨#[45]⟩ : ByteArray)) ++ t172) ++ (⟨#[45]⟩ : ByteArray)) ++ t173) ++ (⟨#[84]⟩ : ByteArray)) ++ t174) ++ (⟨#[58]⟩ : ByteArray)) ++ t175) ++ (⟨#[58]⟩ : ByteArray)).size + t176.size ≤ 9223372036854775807 then (if a1 = 0 then (some ((((((((((t171 ++ (⟨#[45]⟩ : ByteArray)) ++ t172) ++ (⟨#[45]⟩ : ByteArray)) ++ t173) ++ (⟨#[84]⟩ : ByteArray)) ++ t174) ++ (⟨#[58]⟩ : ByteArray)) ++ t175) ++ (⟨#[58]⟩ : ByteArray)) ++ t176)) else ((gongref03_digits.f kj7 a1 9).bind fun t177 => (gongref03_clock.l2 kj7 ((((((((((t171 ++ (⟨#[45]⟩ : ByteArray)) ++ t172) ++ (⟨#[45]⟩ : ByteArray)) ++ t173) ++ (⟨#[84]⟩ : ByteArray)) ++ t174) ++ (⟨#[58]⟩ : ByteArray)) ++ t175) ++ (⟨#[58]⟩ : ByteArray)) ++ t176) t177 0))) else (none))) else (none)) else (none)) = some r := H
                        have A24 := Aside0.mk A240
                        clear A240
                        by_cases c25 : (((((((t171 ++ (⟨#[45]⟩ : ByteArray)) ++ t172) ++ (⟨#[45]⟩ : ByteArray)) ++ t173) ++ (⟨#[84]⟩ : ByteArray)) ++ t174) ++ (⟨#[58]⟩ : ByteArray)).size + t175.size ≤ 9223372036854775807
                        · rw [if_pos c25] at H
                          have c25b0 := eq_true c25
                          have c25b1 : decide ((((((((t171 ++ (⟨#[45]⟩ : ByteArray)) ++ t172) ++ (⟨#[45]⟩ : ByteArray)) ++ t173) ++ (⟨#[84]⟩ : ByteArray)) ++ t174) ++ (⟨#[58]⟩ : ByteArray)).size + t175.size ≤ 9223372036854775807) = true := decide_eq_true c25
                          try have c25b2 : (9223372036854775807 < (((((((t171 ++ (⟨#[45]⟩ : ByteArray)) ++ t172) ++ (⟨#[45]⟩ : ByteArray)) ++ t173) ++ (⟨#[84]⟩ : ByteArray)) ++ t174) ++ (⟨#[58]⟩ : ByteArray)).size + t175.size) = False := eq_false (Nat.not_lt.2 c25)
                          have c25z2 := c25b2
                          simp only [ByteArray.size_append] at c25z2
                          have c25z3 := c25z2
                          try simp only [size_lit1, size_lit2, size_lit3, size_lit4] at c25z3
                          by_cases c26 : ((((((((t171 ++ (⟨#[45]⟩ : ByteArray)) ++ t172) ++ (⟨#[45]⟩ : ByteArray)) ++ t173) ++ (⟨#[84]⟩ : ByteArray)) ++ t174) ++ (⟨#[58]⟩ : ByteArray)) ++ t175).size + 1 ≤ 9223372036854775807
                          · rw [if_pos c26] at H
                            have c26b0 := eq_true c26
                            have c26b1 : decide (((((((((t171 ++ (⟨#[45]⟩ : ByteArray)) ++ t172) ++ (⟨#[45]⟩ : ByteArray)) ++ t173) ++ (⟨#[84]⟩ : ByteArray)) ++ t174) ++ (⟨#[58]⟩ : ByteArray)) ++ t175).size + 1 ≤ 9223372036854775807) = true := decide_eq_true c26
                            try have c26b2 : (9223372036854775807 < ((((((((t171 ++ (⟨#[45]⟩ : ByteArray)) ++ t172) ++ (⟨#[45]⟩ : ByteArray)) ++ t173) ++ (⟨#[84]⟩ : ByteArray)) ++ t174) ++ (⟨#[58]⟩ : ByteArray)) ++ t175).size + 1) = False := eq_false (Nat.not_lt.2 c26)
                            have c26z2 := c26b2
                            simp only [ByteArray.size_append] at c26z2
                            have c26z3 := c26z2
                            try simp only [size_lit1, size_lit2, size_lit3, size_lit4] at c26z3
                            replace H := Option.bind_eq_some_iff.mp H
                            obtain ⟨t176, A270, H⟩ := H
                            replace H : (if (((((((((t171 ++ (⟨#[45]⟩ : ByteArray)) ++ t172) ++ (⟨#[45]⟩ : ByteArray)) ++ t173) ++ (⟨#[84]⟩ : ByteArray)) ++ t174) ++ (⟨#[58]⟩ : ByteArray)) ++ t175) ++ (⟨#[58]⟩ : ByteArray)).size + t176.size ≤ 9223372036854775807 then (if a1 = 0 then (some ((((((((((t171 ++ (⟨#[45]⟩ : ByteArray)) ++ t172) ++ (⟨#[45]⟩ : ByteArray)) ++ t173) ++ (⟨#[84]⟩ : ByteArray)) ++ t174) ++ (⟨#[58]⟩ : ByteArray)) ++ t175) ++ (⟨#[58]⟩ : ByteArray)) ++ t176)) else ((gongref03_digits.f kj7 a1 9).bind fun t177 => (gongref03_clock.l2 kj7 ((((((((((t171 ++ (⟨#[45]⟩ : ByteArray)) ++ t172) ++ (⟨#[45]⟩ : ByteArray)) ++ t173) ++ (⟨#[84]⟩ : ByteArray)) ++ t174) ++ (⟨#[58]⟩ : ByteArray)) ++ t175) ++ (⟨#[58]⟩ : ByteArray)) ++ t176) t177 0))) else (none)) = some r := H
                            have A27 := Aside0.mk A270
                            clear A270
                            by_cases c28 : (((((((((t171 ++ (⟨#[45]⟩ : ByteArray)) ++ t172) ++ (⟨#[45]⟩ : ByteArray)) ++ t173) ++ (⟨#[84]⟩ : ByteArray)) ++ t174) ++ (⟨#[58]⟩ : ByteArray)) ++ t175) ++ (⟨#[58]⟩ : ByteArray)).size + t176.size ≤ 9223372036854775807
                            · rw [if_pos c28] at H
                              have c28b0 := eq_true c28
                              have c28b1 : decide ((((((((((t171 ++ (⟨#[45]⟩ : ByteArray)) ++ t172) ++ (⟨#[45]⟩ : ByteArray)) ++ t173) ++ (⟨#[84]⟩ : ByteArray)) ++ t174) ++ (⟨#[58]⟩ : ByteArray)) ++ t175) ++ (⟨#[58]⟩ : ByteArray)).size + t176.size ≤ 9223372036854775807) = true := decide_eq_true c28
                              try have c28b2 : (9223372036854775807 < (((((((((t171 ++ (⟨#[45]⟩ : ByteArray)) ++ t172) ++ (⟨#[45]⟩ : ByteArray)) ++ t173) ++ (⟨#[84]⟩ : ByteArray)) ++ t174) ++ (⟨#[58]⟩ : ByteArray)) ++ t175) ++ (⟨#[58]⟩ : ByteArray)).size + t176.size) = False := eq_false (Nat.not_lt.2 c28)
                              have c28z2 := c28b2
                              simp only [ByteArray.size_append] at c28z2
                              have c28z3 := c28z2
                              try simp only [size_lit1, size_lit2, size_lit3, size_lit4] at c28z3
                              by_cases c29 : a1 = 0
                              · rw [if_pos c29] at H
                                have c29b0 : (a1 == 0) = true := beq_iff_eq.mpr c29
                                have c29b1 : (a1 != 0) = false := bne_eq_false_iff_eq.mpr c29
                                clear c29
                                obtain rfl := Option.some.inj H
                                go_wp2_with (first | ((with_reducible refine gate_callee (f := 55) rfl ?_); refine goesL_ (some 51) rfl rfl Tryd.func55 (by kernel_rfl) rfl #[.int .i64 x5_2, .int .i64 4] rfl (by (try simp only [List.map_toArray, List.map_cons, List.map_nil]); first | done | rfl | (simp only [List.length_drop, List.length_take]; rfl)) ?_; (with_reducible refine (gongref03_digits.calls kj7 x5_2 4 t171 _ A13.out).mono ?_); rintro e w30 ⟨rfl, hb⟩; refine ⟨_, rfl, ?_⟩; have n0_ := Aside0.mk (below_step (by repeat (first | (with_reducible first | exact HB.out | apply below_alloc | apply pw_below_drewN | apply below_drew1) | exact HB.out)) hb); clear HB; have HB := n0_; clear n0_; (try clear hb); (try clear hb2); (try clear hk); (try clear hi)) | ((with_reducible refine gate_callee (f := 55) rfl ?_); refine goesL_ (some 54) rfl rfl Tryd.func55 (by kernel_rfl) rfl #[.int .i64 x8_7, .int .i64 2] rfl (by (try simp only [List.map_toArray, List.map_cons, List.map_nil]); first | done | rfl | (simp only [List.length_drop, List.length_take]; rfl)) ?_; (with_reducible refine (gongref03_digits.calls kj7 x8_7 2 t172 _ A15.out).mono ?_); rintro e w31 ⟨rfl, hb⟩; refine ⟨_, rfl, ?_⟩; have n0_ := Aside0.mk (below_step (by repeat (first | (with_reducible first | exact HB.out | apply below_alloc | apply pw_below_drewN | apply below_drew1) | exact HB.out)) hb); clear HB; have HB := n0_; clear n0_; (try clear hb); (try clear hb2); (try clear hk); (try clear hi)) | ((with_reducible refine gate_callee (f := 55) rfl ?_); refine goesL_ (some 59) rfl rfl Tryd.func55 (by kernel_rfl) rfl #[.int .i64 (wrap64 (x6_7 + 1)), .int .i64 2] rfl (by (try simp only [List.map_toArray, List.map_cons, List.map_nil]); first | done | rfl | (simp only [List.length_drop, List.length_take]; rfl)) ?_; (with_reducible refine (gongref03_digits.calls kj7 (wrap64 (x6_7 + 1)) 2 t173 _ A18.out).mono ?_); rintro e w32 ⟨rfl, hb⟩; refine ⟨_, rfl, ?_⟩; have n0_ := Aside0.mk (below_step (by repeat (first | (with_reducible first | exact HB.out | apply below_alloc | apply pw_below_drewN | apply below_drew1) | exact HB.out)) hb); clear HB; have HB := n0_; clear n0_; (try clear hb); (try clear hb2); (try clear hk); (try clear hi)) | ((with_reducible refine gate_callee (f := 55) rfl ?_); refine goesL_ (some 65) rfl rfl Tryd.func55 (by kernel_rfl) rfl #[.int .i64 (Int.tmod (wrap64 (Int.tdiv a0 3600)) 24), .int .i64 2] rfl (by (try simp only [List.map_toArray, List.map_cons, List.map_nil]); first | done | rfl | (simp only [List.length_drop, List.length_take]; rfl)) ?_; (with_reducible refine (gongref03_digits.calls kj7 (Int.tmod (wrap64 (Int.tdiv a0 3600)) 24) 2 t174 _ A21.out).mono ?_); rintro e w33 ⟨rfl, hb⟩; refine ⟨_, rfl, ?_⟩; have n0_ := Aside0.mk (below_step (by repeat (first | (with_reducible first | exact HB.out | apply below_alloc | apply pw_below_drewN | apply below_drew1) | exact HB.out)) hb); clear HB; have HB := n0_; clear n0_; (try clear hb); (try clear hb2); (try clear hk); (try clear hi)) | ((with_reducible refine gate_callee (f := 55) rfl ?_); refine goesL_ (some 71) rfl rfl Tryd.func55 (by kernel_rfl) rfl #[.int .i64 (Int.tmod (wrap64 (Int.tdiv a0 60)) 60), .int .i64 2] rfl (by (try simp only [List.map_toArray, List.map_cons, List.map_nil]); first | done | rfl | (simp only [List.length_drop, List.length_take]; rfl)) ?_; (with_reducible refine (gongref03_digits.calls kj7 (Int.tmod (wrap64 (Int.tdiv a0 60)) 60) 2 t175 _ A24.out).mono ?_); rintro e w34 ⟨rfl, hb⟩; refine ⟨_, rfl, ?_⟩; have n0_ := Aside0.mk (below_step (by repeat (first | (with_reducible first | exact HB.out | apply below_alloc | apply pw_below_drewN | apply below_drew1) | exact HB.out)) hb); clear HB; have HB := n0_; clear n0_; (try clear hb); (try clear hb2); (try clear hk); (try clear hi)) | ((with_reducible refine gate_callee (f := 55) rfl ?_); refine goesL_ (some 76) rfl rfl Tryd.func55 (by kernel_rfl) rfl #[.int .i64 (Int.tmod a0 60), .int .i64 2] rfl (by (try simp only [List.map_toArray, List.map_cons, List.map_nil]); first | done | rfl | (simp only [List.length_drop, List.length_take]; rfl)) ?_; (with_reducible refine (gongref03_digits.calls kj7 (Int.tmod a0 60) 2 t176 _ A27.out).mono ?_); rintro e w35 ⟨rfl, hb⟩; refine ⟨_, rfl, ?_⟩; have n0_ := Aside0.mk (below_step (by repeat (first | (with_reducible first | exact HB.out | apply below_alloc | apply pw_below_drewN | apply below_drew1) | exact HB.out)) hb); clear HB; have HB := n0_; clear n0_; (try clear hb); (try clear hb2); (try clear hk); (try clear hi)))
                                go_ret
                                exact ⟨by first | rfl | (simp only [i64_w, i32_w]; rfl) | (simp [errW_none, errW_some] <;> rfl) | (simp [*, errW_none, errW_some] <;> rfl), by repeat (first | (with_reducible first | exact HB.out | apply below_alloc | apply pw_below_drewN | apply below_drew1) | exact HB.out)⟩
                              · rw [if_neg c29] at H
                                have c29b0 : (a1 == 0) = false := beq_eq_false_iff_ne.mpr c29
                                have c29b1 : (a1 != 0) = true := bne_iff_ne.mpr c29
                                replace H := Option.bind_eq_some_iff.mp H
                                obtain ⟨t177, A360, H⟩ := H
                                replace H : (gongref03_clock.l2 kj7 ((((((((((t171 ++ (⟨#[45]⟩ : ByteArray)) ++ t172) ++ (⟨#[45]⟩ : ByteArray)) ++ t173) ++ (⟨#[84]⟩ : ByteArray)) ++ t174) ++ (⟨#[58]⟩ : ByteArray)) ++ t175) ++ (⟨#[58]⟩ : ByteArray)) ++ t176) t177 0) = some r := H
                                have A36 := Aside0.mk A360
                                clear A360
                                have H' := Aside0.mk H
                                clear H
                                go_wp2_with (first | ((with_reducible refine gate_callee (f := 55) rfl ?_); refine goesL_ (some 51) rfl rfl Tryd.func55 (by kernel_rfl) rfl #[.int .i64 x5_2, .int .i64 4] rfl (by (try simp only [List.map_toArray, List.map_cons, List.map_nil]); first | done | rfl | (simp only [List.length_drop, List.length_take]; rfl)) ?_; (with_reducible refine (gongref03_digits.calls kj7 x5_2 4 t171 _ A13.out).mono ?_); rintro e w37 ⟨rfl, hb⟩; refine ⟨_, rfl, ?_⟩; have n0_ := Aside0.mk (below_step (by repeat (first | (with_reducible first | exact HB.out | apply below_alloc | apply pw_below_drewN | apply below_drew1) | exact HB.out)) hb); clear HB; have HB := n0_; clear n0_; (try clear hb); (try clear hb2); (try clear hk); (try clear hi)) | ((with_reducible refine gate_callee (f := 55) rfl ?_); refine goesL_ (some 54) rfl rfl Tryd.func55 (by kernel_rfl) rfl #[.int .i64 x8_7, .int .i64 2] rfl (by (try simp only [List.map_toArray, List.map_cons, List.map_nil]); first | done | rfl | (simp only [List.length_drop, List.length_take]; rfl)) ?_; (with_reducible refine (gongref03_digits.calls kj7 x8_7 2 t172 _ A15.out).mono ?_); rintro e w38 ⟨rfl, hb⟩; refine ⟨_, rfl, ?_⟩; have n0_ := Aside0.mk (below_step (by repeat (first | (with_reducible first | exact HB.out | apply below_alloc | apply pw_below_drewN | apply below_drew1) | exact HB.out)) hb); clear HB; have HB := n0_; clear n0_; (try clear hb); (try clear hb2); (try clear hk); (try clear hi)) | ((with_reducible refine gate_callee (f := 55) rfl ?_); refine goesL_ (some 59) rfl rfl Tryd.func55 (by kernel_rfl) rfl #[.int .i64 (wrap64 (x6_7 + 1)), .int .i64 2] rfl (by (try simp only [List.map_toArray, List.map_cons, List.map_nil]); first | done | rfl | (simp only [List.length_drop, List.length_take]; rfl)) ?_; (with_reducible refine (gongref03_digits.calls kj7 (wrap64 (x6_7 + 1)) 2 t173 _ A18.out).mono ?_); rintro e w39 ⟨rfl, hb⟩; refine ⟨_, rfl, ?_⟩; have n0_ := Aside0.mk (below_step (by repeat (first | (with_reducible first | exact HB.out | apply below_alloc | apply pw_below_drewN | apply below_drew1) | exact HB.out)) hb); clear HB; have HB := n0_; clear n0_; (try clear hb); (try clear hb2); (try clear hk); (try clear hi)) | ((with_reducible refine gate_callee (f := 55) rfl ?_); refine goesL_ (some 65) rfl rfl Tryd.func55 (by kernel_rfl) rfl #[.int .i64 (Int.tmod (wrap64 (Int.tdiv a0 3600)) 24), .int .i64 2] rfl (by (try simp only [List.map_toArray, List.map_cons, List.map_nil]); first | done | rfl | (simp only [List.length_drop, List.length_take]; rfl)) ?_; (with_reducible refine (gongref03_digits.calls kj7 (Int.tmod (wrap64 (Int.tdiv a0 3600)) 24) 2 t174 _ A21.out).mono ?_); rintro e w40 ⟨rfl, hb⟩; refine ⟨_, rfl, ?_⟩; have n0_ := Aside0.mk (below_step (by repeat (first | (with_reducible first | exact HB.out | apply below_alloc | apply pw_below_drewN | apply below_drew1) | exact HB.out)) hb); clear HB; have HB := n0_; clear n0_; (try clear hb); (try clear hb2); (try clear hk); (try clear hi)) | ((with_reducible refine gate_callee (f := 55) rfl ?_); refine goesL_ (some 71) rfl rfl Tryd.func55 (by kernel_rfl) rfl #[.int .i64 (Int.tmod (wrap64 (Int.tdiv a0 60)) 60), .int .i64 2] rfl (by (try simp only [List.map_toArray, List.map_cons, List.map_nil]); first | done | rfl | (simp only [List.length_drop, List.length_take]; rfl)) ?_; (with_reducible refine (gongref03_digits.calls kj7 (Int.tmod (wrap64 (Int.tdiv a0 60)) 60) 2 t175 _ A24.out).mono ?_); rintro e w41 ⟨rfl, hb⟩; refine ⟨_, rfl, ?_⟩; have n0_ := Aside0.mk (below_step (by repeat (first | (with_reducible first | exact HB.out | apply below_alloc | apply pw_below_drewN | apply below_drew1) | exact HB.out)) hb); clear HB; have HB := n0_; clear n0_; (try clear hb); (try clear hb2); (try clear hk); (try clear hi)) | ((with_reducible refine gate_callee (f := 55) rfl ?_); refine goesL_ (some 76) rfl rfl Tryd.func55 (by kernel_rfl) rfl #[.int .i64 (Int.tmod a0 60), .int .i64 2] rfl (by (try simp only [List.map_toArray, List.map_cons, List.map_nil]); first | done | rfl | (simp only [List.length_drop, List.length_take]; rfl)) ?_; (with_reducible refine (gongref03_digits.calls kj7 (Int.tmod a0 60) 2 t176 _ A27.out).mono ?_); rintro e w42 ⟨rfl, hb⟩; refine ⟨_, rfl, ?_⟩; have n0_ := Aside0.mk (below_step (by repeat (first | (with_reducible first | exact HB.out | apply below_alloc | apply pw_below_drewN | apply below_drew1) | exact HB.out)) hb); clear HB; have HB := n0_; clear n0_; (try clear hb); (try clear hb2); (try clear hk); (try clear hi)) | ((with_reducible refine gate_callee (f := 55) rfl ?_); refine goesL_ (some 82) rfl rfl Tryd.func55 (by kernel_rfl) rfl #[.int .i64 a1, .int .i64 9] rfl (by (try simp only [List.map_toArray, List.map_cons, List.map_nil]); first | done | rfl | (simp only [List.length_drop, List.length_take]; rfl)) ?_; (with_reducible refine (gongref03_digits.calls kj7 a1 9 t177 _ A36.out).mono ?_); rintro e w43 ⟨rfl, hb⟩; refine ⟨_, rfl, ?_⟩; have n0_ := Aside0.mk (below_step (by repeat (first | (with_reducible first | exact HB.out | apply below_alloc | apply pw_below_drewN | apply below_drew1) | exact HB.out)) hb); clear HB; have HB := n0_; clear n0_; (try clear hb); (try clear hb2); (try clear hk); (try clear hi)))
                                go_loopg [11, 12] kj7 (fun kq v11 v12 w' => ∃ (x11_3 : ByteArray) (x12_3 : Int), v11 = .string x11_3 ∧ v12 = .int .i64 x12_3 ∧ Aside0 (gongref03_clock.l2 kq ((((((((((t171 ++ (⟨#[45]⟩ : ByteArray)) ++ t172) ++ (⟨#[45]⟩ : ByteArray)) ++ t173) ++ (⟨#[84]⟩ : ByteArray)) ++ t174) ++ (⟨#[58]⟩ : ByteArray)) ++ t175) ++ (⟨#[58]⟩ : ByteArray)) ++ t176) x11_3 x12_3 = some r) ∧ Aside0 (kq ≤ kj7) ∧ Aside0 (Below w.heap.size w w'))
                                case atStart => exact ⟨(t177), (0), (by first | rfl | (simp; done) | (simp [*]; done) | (simp [*]; exact isEmpty_bne _) | (simp; exact isEmpty_bne _)), (by first | rfl | (simp; done) | (simp [*]; done) | (simp [*]; exact isEmpty_bne _) | (simp; exact isEmpty_bne _)), H', ⟨Nat.le_refl _⟩, ⟨by repeat (first | (with_reducible first | exact HB.out | apply below_alloc | apply pw_below_drewN | apply below_drew1) | exact HB.out)⟩⟩
                                case round =>
                                  clear H'
                                  try clear c1
                                  try clear c2
                                  try clear p2
                                  try clear c4
                                  try clear c4b0
                                  try clear c5
                                  try clear c6
                                  try clear c6b0
                                  try clear p6
                                  try clear c9
                                  try clear c9b0
                                  try clear c11
                                  try clear c11b0
                                  try clear c14
                                  try clear c14b0
                                  try clear c14b1
                                  try clear c14b2
                                  try clear c16
                                  try clear c16b0
                                  try clear c16b1
                                  try clear c16b2
                                  try clear c17
                                  try clear c17b0
                                  try clear c17b1
                                  try clear c17b2
                                  try clear c19
                                  try clear c19b0
                                  try clear c19b1
                                  try clear c19b2
                                  try clear c20
                                  try clear c20b0
                                  try clear c20b1
                                  try clear c20b2
                                  try clear c22
                                  try clear c22b0
                                  try clear c22b1
                                  try clear c22b2
                                  try clear c23
                                  try clear c23b0
                                  try clear c23b1
                                  try clear c23b2
                                  try clear c25
                                  try clear c25b0
                                  try clear c25b1
                                  try clear c25b2
                                  try clear c26
                                  try clear c26b0
                                  try clear c26b1
                                  try clear c26b2
                                  try clear c28
                                  try clear c28b0
                                  try clear c28b1
                                  try clear c28b2
                                  try clear c29
                                  try clear c29b0
                                  try clear c29b1
                                  try clear p2
                                  try clear p6
                                  obtain ⟨x11_3, x12_3, rfl, rfl, HA, HK3, HB⟩ := hrel
                                  cases gk with
                                  | zero => exact absurd HA.out (by simp [gongref03_clock.l2])
                                  | succ k3 =>
                                    have H := HA.out
                                    clear HA
                                    simp only [gongref03_clock.l2] at H
                                    by_cases c44 : x12_3 < 9
                                    · rw [if_pos c44] at H
                                      have c44b0 : decide (x12_3 < 9) = true := decide_eq_true c44
                                      clear c44
                                      obtain ⟨ji45, hji45⟩ : ∃ j_ : Int, (wrap64 ((x11_3.size : Int) - 1)) = j_ := ⟨_, rfl⟩
                                      replace H : (if 0 ≤ (ji45) then (if (ji45) < (x11_3.size : Int) then (if (bt x11_3 (ji45)) = 48 then (if (ji45) ≤ (x11_3.size : Int) then (gongref03_clock.l2 k3 ((((((((((t171 ++ (⟨#[45]⟩ : ByteArray)) ++ t172) ++ (⟨#[45]⟩ : ByteArray)) ++ t173) ++ (⟨#[84]⟩ : ByteArray)) ++ t174) ++ (⟨#[58]⟩ : ByteArray)) ++ t175) ++ (⟨#[58]⟩ : ByteArray)) ++ t176) (x11_3.extract 0 ((ji45) : Int).toNat) (wrap64 (x12_3 + 1))) else (none)) else (if ((((((((((t171 ++ (⟨#[45]⟩ : ByteArray)) ++ t172) ++ (⟨#[45]⟩ : ByteArray)) ++ t173) ++ (⟨#[84]⟩ : ByteArray)) ++ t174) ++ (⟨#[58]⟩ : ByteArray)) ++ t175) ++ (⟨#[58]⟩ : ByteArray)) ++ t176).size + 1 ≤ 9223372036854775807 then (if (((((((((((t171 ++ (⟨#[45]⟩ : ByteArray)) ++ t172) ++ (⟨#[45]⟩ : ByteArray)) ++ t173) ++ (⟨#[84]⟩ : ByteArray)) ++ t174) ++ (⟨#[58]⟩ : ByteArray)) ++ t175) ++ (⟨#[58]⟩ : ByteArray)) ++ t176) ++ (⟨#[46]⟩ : ByteArray)).size + x11_3.size ≤ 9223372036854775807 then (some ((((((((((((t171 ++ (⟨#[45]⟩ : ByteArray)) ++ t172) ++ (⟨#[45]⟩ : ByteArray)) ++ t173) ++ (⟨#[84]⟩ : ByteArray)) ++ t174) ++ (⟨#[58]⟩ : ByteArray)) ++ t175) ++ (⟨#[58]⟩ : ByteArray)) ++ t176) ++ (⟨#[46]⟩ : ByteArray)) ++ x11_3)) else (none)) else (none))) else (none)) else (none)) = some r := by first | (rw [hji45] at H; exact H) | (simp only [hji45] at H ⊢; exact H)
                                      have hji45w : (IntKind.i64.wrap ((x11_3.size : Int) - 1)) = ji45 := (i64_w _).trans hji45
                                      by_cases c46 : 0 ≤ (ji45)
                                      · rw [if_pos c46] at H
                                        have c46b0 : decide (0 ≤ (ji45)) = true := decide_eq_true c46
                                        clear c46
                                        by_cases c47 : (ji45) < (x11_3.size : Int)
                                        · rw [if_pos c47] at H
                                          have c47b0 : decide ((ji45) < (x11_3.size : Int)) = true := decide_eq_true c47
                                          clear c47
                                          by_cases c49 : (bt x11_3 (ji45)) = 48
                                          · rw [if_pos c49] at H
                                            have c49b0 : ((bt x11_3 (ji45)) == 48) = true := beq_iff_eq.mpr c49
                                            have c49b1 : ((bt x11_3 (ji45)) != 48) = false := bne_eq_false_iff_eq.mpr c49
                                            clear c49
                                            have c50b0 := eq_true (of_decide_eq_true (by first | (with_reducible assumption) | assumption) : 0 ≤ (ji45))
                                            by_cases c51 : (ji45) ≤ (x11_3.size : Int)
                                            · rw [if_pos c51] at H
                                              have c51b0 := eq_true c51
                                              have c51b1 : decide ((ji45) ≤ (x11_3.size : Int)) = true := decide_eq_true c51
                                              clear c51
                                              have H' := Aside0.mk H
                                              clear H
                                              have p48 : 0 ≤ ((ji45) : Int) := of_decide_eq_true (by first | (with_reducible assumption) | assumption)
                                              have q48 : (ji45) < (x11_3.size : Int) := of_decide_eq_true (by first | (with_reducible assumption) | assumption)
                                              have hx48 := bt_at x11_3 (ji45)
                                              replace p48 := eq_true p48
                                              replace q48 := eq_true q48
                                              go_wp2
                                              go_roundg k3
                                              case measure => have := HJ2.out; have := HJ7.out; have := HK3.out; omega
                                              case rel => exact ⟨(x11_3.extract 0 ((ji45) : Int).toNat), (wrap64 (x12_3 + 1)), (by first | rfl | (simp; done) | (simp only [← hji45] <;> (first | rfl | simp)) | (simp [*]; done)), (by first | rfl | (simp; done) | (simp [*]; done) | (simp [*]; exact isEmpty_bne _) | (simp; exact isEmpty_bne _)), H', ⟨by have := HJ2.out; have := HJ7.out; have := HK3.out; omega⟩, ⟨by repeat (first | (with_reducible first | exact HB.out | apply below_alloc | apply pw_below_drewN | apply below_drew1) | exact HB.out)⟩⟩
                                            · rw [if_neg c51] at H
                                              exact absurd H (by simp)
                                          · rw [if_neg c49] at H
                                            have c49b0 : ((bt x11_3 (ji45)) == 48) = false := beq_eq_false_iff_ne.mpr c49
                                            have c49b1 : ((bt x11_3 (ji45)) != 48) = true := bne_iff_ne.mpr c49
                                            by_cases c52 : ((((((((((t171 ++ (⟨#[45]⟩ : ByteArray)) ++ t172) ++ (⟨#[45]⟩ : ByteArray)) ++ t173) ++ (⟨#[84]⟩ : ByteArray)) ++ t174) ++ (⟨#[58]⟩ : ByteArray)) ++ t175) ++ (⟨#[58]⟩ : ByteArray)) ++ t176).size + 1 ≤ 9223372036854775807
                                            · rw [if_pos c52] at H
                                              have c52b0 := eq_true c52
                                              have c52b1 : decide (((((((((((t171 ++ (⟨#[45]⟩ : ByteArray)) ++ t172) ++ (⟨#[45]⟩ : ByteArray)) ++ t173) ++ (⟨#[84]⟩ : ByteArray)) ++ t174) ++ (⟨#[58]⟩ : ByteArray)) ++ t175) ++ (⟨#[58]⟩ : ByteArray)) ++ t176).size + 1 ≤ 9223372036854775807) = true := decide_eq_true c52
                                              try have c52b2 : (9223372036854775807 < ((((((((((t171 ++ (⟨#[45]⟩ : ByteArray)) ++ t172) ++ (⟨#[45]⟩ : ByteArray)) ++ t173) ++ (⟨#[84]⟩ : ByteArray)) ++ t174) ++ (⟨#[58]⟩ : ByteArray)) ++ t175) ++ (⟨#[58]⟩ : ByteArray)) ++ t176).size + 1) = False := eq_false (Nat.not_lt.2 c52)
                                              have c52z2 := c52b2
                                              simp only [ByteArray.size_append] at c52z2
                                              have c52z3 := c52z2
                                              try simp only [size_lit1, size_lit2, size_lit3, size_lit4] at c52z3
                                              by_cases c53 : (((((((((((t171 ++ (⟨#[45]⟩ : ByteArray)) ++ t172) ++ (⟨#[45]⟩ : ByteArray)) ++ t173) ++ (⟨#[84]⟩ : ByteArray)) ++ t174) ++ (⟨#[58]⟩ : ByteArray)) ++ t175) ++ (⟨#[58]⟩ : ByteArray)) ++ t176) ++ (⟨#[46]⟩ : ByteArray)).size + x11_3.size ≤ 9223372036854775807
                                              · rw [if_pos c53] at H
                                                have c53b0 := eq_true c53
                                                have c53b1 : decide ((((((((((((t171 ++ (⟨#[45]⟩ : ByteArray)) ++ t172) ++ (⟨#[45]⟩ : ByteArray)) ++ t173) ++ (⟨#[84]⟩ : ByteArray)) ++ t174) ++ (⟨#[58]⟩ : ByteArray)) ++ t175) ++ (⟨#[58]⟩ : ByteArray)) ++ t176) ++ (⟨#[46]⟩ : ByteArray)).size + x11_3.size ≤ 9223372036854775807) = true := decide_eq_true c53
                                                try have c53b2 : (9223372036854775807 < (((((((((((t171 ++ (⟨#[45]⟩ : ByteArray)) ++ t172) ++ (⟨#[45]⟩ : ByteArray)) ++ t173) ++ (⟨#[84]⟩ : ByteArray)) ++ t174) ++ (⟨#[58]⟩ : ByteArray)) ++ t175) ++ (⟨#[58]⟩ : ByteArray)) ++ t176) ++ (⟨#[46]⟩ : ByteArray)).size + x11_3.size) = False := eq_false (Nat.not_lt.2 c53)
                                                have c53z2 := c53b2
                                                simp only [ByteArray.size_append] at c53z2
                                                have c53z3 := c53z2
                                                try simp only [size_lit1, size_lit2, size_lit3, size_lit4] at c53z3
                                                obtain rfl := Option.some.inj H
                                                have p48 : 0 ≤ ((ji45) : Int) := of_decide_eq_true (by first | (with_reducible assumption) | assumption)
                                                have q48 : (ji45) < (x11_3.size : Int) := of_decide_eq_true (by first | (with_reducible assumption) | assumption)
                                                have hx48 := bt_at x11_3 (ji45)
                                                replace p48 := eq_true p48
                                                replace q48 := eq_true q48
                                                go_wp2
                                                go_ret
                                                exact ⟨by first | rfl | (simp only [i64_w, i32_w]; rfl) | (simp [errW_none, errW_some] <;> rfl) | (simp only [← hji45]; first | rfl | (simp [errW_none, errW_some] <;> rfl)) | (simp [*, errW_none, errW_some] <;> rfl), by repeat (first | (with_reducible first | exact HB.out | apply below_alloc | apply pw_below_drewN | apply below_drew1) | exact HB.out)⟩
                                              · rw [if_neg c53] at H
                                                exact absurd H (by simp)
                                            · rw [if_neg c52] at H
                                              exact absurd H (by simp)
                                        · rw [if_neg c47] at H
                                          exact absurd H (by simp)
                                      · rw [if_neg c46] at H
                                        exact absurd H (by simp)
                                    · rw [if_neg c44] at H
                                      have c44b0 : decide (x12_3 < 9) = false := decide_eq_false c44
                                      clear c44
                                      by_cases c54 : ((((((((((t171 ++ (⟨#[45]⟩ : ByteArray)) ++ t172) ++ (⟨#[45]⟩ : ByteArray)) ++ t173) ++ (⟨#[84]⟩ : ByteArray)) ++ t174) ++ (⟨#[58]⟩ : ByteArray)) ++ t175) ++ (⟨#[58]⟩ : ByteArray)) ++ t176).size + 1 ≤ 9223372036854775807
                                      · rw [if_pos c54] at H
                                        have c54b0 := eq_true c54
                                        have c54b1 : decide (((((((((((t171 ++ (⟨#[45]⟩ : ByteArray)) ++ t172) ++ (⟨#[45]⟩ : ByteArray)) ++ t173) ++ (⟨#[84]⟩ : ByteArray)) ++ t174) ++ (⟨#[58]⟩ : ByteArray)) ++ t175) ++ (⟨#[58]⟩ : ByteArray)) ++ t176).size + 1 ≤ 9223372036854775807) = true := decide_eq_true c54
                                        try have c54b2 : (9223372036854775807 < ((((((((((t171 ++ (⟨#[45]⟩ : ByteArray)) ++ t172) ++ (⟨#[45]⟩ : ByteArray)) ++ t173) ++ (⟨#[84]⟩ : ByteArray)) ++ t174) ++ (⟨#[58]⟩ : ByteArray)) ++ t175) ++ (⟨#[58]⟩ : ByteArray)) ++ t176).size + 1) = False := eq_false (Nat.not_lt.2 c54)
                                        have c54z2 := c54b2
                                        simp only [ByteArray.size_append] at c54z2
                                        have c54z3 := c54z2
                                        try simp only [size_lit1, size_lit2, size_lit3, size_lit4] at c54z3
                                        by_cases c55 : (((((((((((t171 ++ (⟨#[45]⟩ : ByteArray)) ++ t172) ++ (⟨#[45]⟩ : ByteArray)) ++ t173) ++ (⟨#[84]⟩ : ByteArray)) ++ t174) ++ (⟨#[58]⟩ : ByteArray)) ++ t175) ++ (⟨#[58]⟩ : ByteArray)) ++ t176) ++ (⟨#[46]⟩ : ByteArray)).size + x11_3.size ≤ 9223372036854775807
                                        · rw [if_pos c55] at H
                                          have c55b0 := eq_true c55
                                          have c55b1 : decide ((((((((((((t171 ++ (⟨#[45]⟩ : ByteArray)) ++ t172) ++ (⟨#[45]⟩ : ByteArray)) ++ t173) ++ (⟨#[84]⟩ : ByteArray)) ++ t174) ++ (⟨#[58]⟩ : ByteArray)) ++ t175) ++ (⟨#[58]⟩ : ByteArray)) ++ t176) ++ (⟨#[46]⟩ : ByteArray)).size + x11_3.size ≤ 9223372036854775807) = true := decide_eq_true c55
                                          try have c55b2 : (9223372036854775807 < (((((((((((t171 ++ (⟨#[45]⟩ : ByteArray)) ++ t172) ++ (⟨#[45]⟩ : ByteArray)) ++ t173) ++ (⟨#[84]⟩ : ByteArray)) ++ t174) ++ (⟨#[58]⟩ : ByteArray)) ++ t175) ++ (⟨#[58]⟩ : ByteArray)) ++ t176) ++ (⟨#[46]⟩ : ByteArray)).size + x11_3.size) = False := eq_false (Nat.not_lt.2 c55)
                                          have c55z2 := c55b2
                                          simp only [ByteArray.size_append] at c55z2
                                          have c55z3 := c55z2
                                          try simp only [size_lit1, size_lit2, size_lit3, size_lit4] at c55z3
                                          obtain rfl := Option.some.inj H
                                          go_wp2
                                          go_ret
                                          exact ⟨by first | rfl | (simp only [i64_w, i32_w]; rfl) | (simp [errW_none, errW_some] <;> rfl) | (simp [*, errW_none, errW_some] <;> rfl), by repeat (first | (with_reducible first | exact HB.out | apply below_alloc | apply pw_below_drewN | apply below_drew1) | exact HB.out)⟩
                                        · rw [if_neg c55] at H
                                          exact absurd H (by simp)
                                      · rw [if_neg c54] at H
                                        exact absurd H (by simp)
                            · rw [if_neg c28] at H
                              exact absurd H (by simp)
                          · rw [if_neg c26] at H
                            exact absurd H (by simp)
                        · rw [if_neg c25] at H
                          exact absurd H (by simp)
                      · rw [if_neg c23] at H
                        exact absurd H (by simp)
                    · rw [if_neg c22] at H
                      exact absurd H (by simp)
                  · rw [if_neg c20] at H
                    exact absurd H (by simp)
                · rw [if_neg c19] at H
                  exact absurd H (by simp)
              · rw [if_neg c17] at H
                exact absurd H (by simp)
            · rw [if_neg c16] at H
              exact absurd H (by simp)
          · rw [if_neg c14] at H
            exact absurd H (by simp)

end Go.Proofs.YtjcenencgnfffaaDoor.XStW
