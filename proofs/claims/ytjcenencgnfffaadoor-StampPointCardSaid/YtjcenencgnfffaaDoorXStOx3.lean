-- Laid by extprint.py (the session's own driver): functions told by the kit's printer and by hand.
import Derived.Test.YtjcenencgnfffaaDoorXStOx0
namespace Go.Proofs.YtjcenencgnfffaaDoor.XStO
open Go.RowKit Gong Go.Proofs.YtjcenencgnfffaaDoorW.PrintWords Go.Proofs.YtjcenencgnfffaaDoorW.PrintLast Go.Proofs.YtjcenencgnfffaaDoorW.PrintMore
attribute [local go_sem] max2_int min2_int max_two min_two max_three min_three max_four min_four   -- for this text's walks alone
set_option linter.unusedVariables false
set_option linter.unusedSimpArgs false

/-! ### stamp_number: function 50 -/
def stamp_number.f (a0 : ByteArray) : Option Int := if a0.size ≤ 1000 then (match Lib.atoiAll a0.data.toList with | .ok v => some v | _ => none) else none
theorem stamp_number.calls (a0 : ByteArray) (r : Int) (w : World) (h : stamp_number.f a0 = some r) :
    Calls Tryd.prog 50 #[.string a0] w fun e w' => e = .returned (.int .i64 r) ∧ Below w.heap.size w w' := by
  unfold stamp_number.f at h
  by_cases h0 : a0.size ≤ 1000
  · rw [if_pos h0] at h
    cases ha : Lib.atoiAll a0.data.toList with
    | ok v =>
      rw [ha] at h
      simp only [Option.some.injEq] at h
      subst h
      have HA := fun W => Tryd.strconv_Atoi_ok a0 (by omega) v ha W
      clear ha h0
      go_enter Tryd.func50, Tryd.ntmps50
      go_wp2_with fail
      refine (HA _).mono ?_
      rintro e w1 ⟨rfl, hw⟩
      have HB := Aside0.mk (show Below w.heap.size w w1 from by
        rcases hw with rfl | ⟨t, rfl⟩
        · exact Below.refl _ _
        · exact Mv.below (Mv.freeze (((Mv.refl (fun k => k = w.heap.size) w).drew).alloc _) rfl 1) (Nat.le_refl _) (fun _ h => by rw [h]; exact Nat.le_refl _))
      clear hw
      go_wp2
      go_ret
      exact ⟨rfl, HB.out⟩
    | «syntax» => rw [ha] at h; simp at h
    | range => rw [ha] at h; simp at h
  · rw [if_neg h0] at h
    exact absurd h (by simp)

/-! ### stamp_leap: function 105 -/
def stamp_leap.f (a0 : Int) : Option (Int) := if (Int.tmod a0 4) = 0 then (if (Int.tmod a0 100) = 0 then (if (Int.tmod a0 400) = 0 then (some 1) else (some 0)) else (some 1)) else (some 0)
set_option maxHeartbeats 8000000 in
set_option maxRecDepth 100000 in
theorem stamp_leap.calls (a0 : Int) (r : Int) (w : World) (h : stamp_leap.f a0 = some r) :
    Calls Tryd.prog 105 #[.int .i64 a0] w fun e w' => e = .returned (.int .i64 r) ∧ Drawn0 w w' := by
  have H : (if (Int.tmod a0 4) = 0 then (if (Int.tmod a0 100) = 0 then (if (Int.tmod a0 400) = 0 then (some 1) else (some 0)) else (some 1)) else (some 0)) = some r := h
  clear h
  by_cases c2 : (Int.tmod a0 4) = 0
  rotate_left
  · rw [if_neg c2] at H
    have c2b0 : ((Int.tmod a0 4) == 0) = false := beq_eq_false_iff_ne.mpr c2
    have c2b1 : ((Int.tmod a0 4) != 0) = true := bne_iff_ne.mpr c2
    obtain rfl := Option.some.inj H
    go_enter Tryd.func105, Tryd.ntmps105
    go_wp2
    go_ret
    exact ⟨by first | rfl | (simp; done) | (simp [*]; done), by repeat (first | exact Drawn0.refl _ | apply Drawn0.step)⟩
  rw [if_pos c2] at H
  have c2b0 : ((Int.tmod a0 4) == 0) = true := beq_iff_eq.mpr c2
  have c2b1 : ((Int.tmod a0 4) != 0) = false := bne_eq_false_iff_eq.mpr c2
  clear c2
  by_cases c3 : (Int.tmod a0 100) = 0
  rotate_left
  · rw [if_neg c3] at H
    have c3b0 : ((Int.tmod a0 100) == 0) = false := beq_eq_false_iff_ne.mpr c3
    have c3b1 : ((Int.tmod a0 100) != 0) = true := bne_iff_ne.mpr c3
    obtain rfl := Option.some.inj H
    go_enter Tryd.func105, Tryd.ntmps105
    go_wp2
    go_ret
    exact ⟨by first | rfl | (simp; done) | (simp [*]; done), by repeat (first | exact Drawn0.refl _ | apply Drawn0.step)⟩
  rw [if_pos c3] at H
  have c3b0 : ((Int.tmod a0 100) == 0) = true := beq_iff_eq.mpr c3
  have c3b1 : ((Int.tmod a0 100) != 0) = false := bne_eq_false_iff_eq.mpr c3
  clear c3
  by_cases c4 : (Int.tmod a0 400) = 0
  rotate_left
  · rw [if_neg c4] at H
    have c4b0 : ((Int.tmod a0 400) == 0) = false := beq_eq_false_iff_ne.mpr c4
    have c4b1 : ((Int.tmod a0 400) != 0) = true := bne_iff_ne.mpr c4
    obtain rfl := Option.some.inj H
    go_enter Tryd.func105, Tryd.ntmps105
    go_wp2
    go_ret
    exact ⟨by first | rfl | (simp; done) | (simp [*]; done), by repeat (first | exact Drawn0.refl _ | apply Drawn0.step)⟩
  rw [if_pos c4] at H
  have c4b0 : ((Int.tmod a0 400) == 0) = true := beq_iff_eq.mpr c4
  have c4b1 : ((Int.tmod a0 400) != 0) = false := bne_eq_false_iff_eq.mpr c4
  clear c4
  obtain rfl := Option.some.inj H
  go_enter Tryd.func105, Tryd.ntmps105
  go_wp2
  go_ret
  exact ⟨by first | rfl | (simp; done) | (simp [*]; done), by repeat (first | exact Drawn0.refl _ | apply Drawn0.step)⟩

/-! ### stamp_before: function 80 -/
def stamp_before.f (a0 a1 : Int) : Option Int :=
  if 0 ≤ a1 ∧ a1 ≤ 13 then (if 2 < a1 then (stamp_leap.f a0).bind fun l => some (wrap64 (aheadTab.getD a1.toNat 0 + l)) else some (aheadTab.getD a1.toNat 0)) else none
set_option maxHeartbeats 1600000 in
set_option maxRecDepth 100000 in
theorem stamp_before.calls0 (a0 a1 : Int) (r : Int) (w : World) (hG : Gl w) (h : stamp_before.f a0 a1 = some r) :
    Calls Tryd.prog 80 #[.int .i64 a0, .int .i64 a1] w fun e w' => e = .returned (.int .i64 r) ∧ Drawn0 w w' := by
  unfold stamp_before.f at h
  by_cases h0 : 0 ≤ a1 ∧ a1 ≤ 13
  · rw [if_pos h0] at h
    obtain ⟨m, rfl⟩ := Int.eq_ofNat_of_zero_le h0.1
    rw [Int.toNat_natCast] at h
    have hm : m < aheadTab.length := by show m < 14; omega
    have HC := hG.ahead.cell gl_h m hm
    have e2 := eq_true (show (m : Int) ≤ 13 by omega)
    have e3 := eq_true (show (m : Int) < 14 by omega)
    have e4 := eq_true (show m < 14 by omega)
    clear hG hm
    obtain ⟨T, hT⟩ : ∃ T, T = aheadTab.getD m 0 := ⟨_, rfl⟩
    rw [← hT] at h HC
    clear hT
    by_cases h1 : 2 < (m : Int)
    · rw [if_pos h1] at h
      obtain ⟨l, hl, h⟩ := Option.bind_eq_some_iff.1 h
      obtain rfl := Option.some.inj h
      have e1 : decide (2 < (m : Int)) = true := decide_eq_true h1
      have HL := Aside0.mk (fun W => stamp_leap.calls a0 l W hl)
      clear h0 h1 hl h
      go_enter Tryd.func80, Tryd.ntmps80
      go_wp2_with fail
      repeat (go_quiet (first | (go_at_call 105; (with_reducible refine (HL.out _).mono ?_); rintro e w' ⟨rfl, ⟨nd, rfl⟩⟩; (try first | exact ⟨rfl, _, World.drewN_drewN _ _ _⟩ | exact ⟨rfl, _, Eq.trans (World.drewN_drewN _ _ _) (congrArg (World.drewN _) (Nat.add_assoc _ _ _))⟩))); try go_wp2_with (first | (go_at_call 105; (with_reducible refine (HL.out _).mono ?_); rintro e w' ⟨rfl, ⟨nd, rfl⟩⟩; (try first | exact ⟨rfl, _, World.drewN_drewN _ _ _⟩ | exact ⟨rfl, _, Eq.trans (World.drewN_drewN _ _ _) (congrArg (World.drewN _) (Nat.add_assoc _ _ _))⟩))))
      go_ret
      exact ⟨rfl, by repeat (first | exact Drawn0.refl _ | apply Drawn0.step)⟩
    · rw [if_neg h1] at h
      obtain rfl := Option.some.inj h
      have e1 : decide (2 < (m : Int)) = false := decide_eq_false h1
      clear h0 h1
      go_enter Tryd.func80, Tryd.ntmps80
      go_wp2
      go_ret
      exact ⟨rfl, by repeat (first | exact Drawn0.refl _ | apply Drawn0.step)⟩
  · rw [if_neg h0] at h
    exact absurd h (by simp)
theorem stamp_before.calls (a0 a1 : Int) (r : Int) (w : World) (hG : Gl w) (h : stamp_before.f a0 a1 = some r) :
    Calls Tryd.prog 80 #[.int .i64 a0, .int .i64 a1] w fun e w' => e = .returned (.int .i64 r) ∧ Below w.heap.size w w' :=
  (stamp_before.calls0 a0 a1 r w hG h).mono fun e w' h => ⟨h.1, h.2.below⟩

end Go.Proofs.YtjcenencgnfffaaDoor.XStO
