-- Laid by extprint.py (the session's own driver): functions told by the kit's printer and by hand.
import Derived.Test.YtjcenencgnfffaaDoorXStRx0
import Derived.Test.YtjcenencgnfffaaDoorXStRx8
import Derived.Test.YtjcenencgnfffaaDoorXStRx9
import Derived.Test.YtjcenencgnfffaaDoorXStRx10
import Derived.Test.YtjcenencgnfffaaDoorXStRx11
namespace Go.Proofs.YtjcenencgnfffaaDoor.XStR
open Go.RowKit Gong Go.Proofs.YtjcenencgnfffaaDoorW.PrintWords Go.Proofs.YtjcenencgnfffaaDoorW.PrintLast Go.Proofs.YtjcenencgnfffaaDoorW.PrintMore
attribute [local go_sem] max2_int min2_int max_two min_two max_three min_three max_four min_four   -- for this text's walks alone
set_option linter.unusedVariables false
set_option linter.unusedSimpArgs false

/-! ### gongref03_Parse: function 14 -/
mutual
def gongref03_Parse.j0 : Nat → ByteArray → Bool → Option (Int × Int)
  | 0, _, _ => none
  | k + 1, x0, x44 => if x44 = true then (some (0, 30)) else (if 0 ≤ 4 then (if 4 ≤ (x0.size : Int) then ((gongref03_Number.f k (x0.extract 0 4)).bind fun t148 => (if 5 ≤ 7 then (if 7 ≤ (x0.size : Int) then ((gongref03_Number.f k (x0.extract 5 7)).bind fun t149 => (if 8 ≤ 10 then (if 10 ≤ (x0.size : Int) then ((gongref03_Number.f k (x0.extract 8 10)).bind fun t150 => (if 11 ≤ 13 then (if 13 ≤ (x0.size : Int) then ((gongref03_Number.f k (x0.extract 11 13)).bind fun t151 => (if 14 ≤ 16 then (if 16 ≤ (x0.size : Int) then ((gongref03_Number.f k (x0.extract 14 16)).bind fun t152 => (if 17 ≤ 19 then (if 19 ≤ (x0.size : Int) then ((gongref03_Number.f k (x0.extract 17 19)).bind fun t153 => (if t148 < 0 then (gongref03_Parse.j1 k x0 t148 t149 t150 t151 t152 t153 true) else (if t149 < 1 then (gongref03_Parse.j1 k x0 t148 t149 t150 t151 t152 t153 true) else (if t149 > 12 then (gongref03_Parse.j1 k x0 t148 t149 t150 t151 t152 t153 true) else (if t150 < 1 then (gongref03_Parse.j1 k x0 t148 t149 t150 t151 t152 t153 true) else ((gongref03_days.f k t148 t149).bind fun t154 => (if t150 > t154 then (gongref03_Parse.j1 k x0 t148 t149 t150 t151 t152 t153 true) else (if t151 < 0 then (gongref03_Parse.j1 k x0 t148 t149 t150 t151 t152 t153 true) else (if t151 > 23 then (gongref03_Parse.j1 k x0 t148 t149 t150 t151 t152 t153 true) else (if t152 < 0 then (gongref03_Parse.j1 k x0 t148 t149 t150 t151 t152 t153 true) else (if t152 > 59 then (gongref03_Parse.j1 k x0 t148 t149 t150 t151 t152 t153 true) else (if t153 < 0 then (gongref03_Parse.j1 k x0 t148 t149 t150 t151 t152 t153 true) else (gongref03_Parse.j1 k x0 t148 t149 t150 t151 t152 t153 (decide (t153 > 59))))))))))))))) else (none)) else (none))) else (none)) else (none))) else (none)) else (none))) else (none)) else (none))) else (none)) else (none))) else (none)) else (none))
def gongref03_Parse.j1 : Nat → ByteArray → Int → Int → Int → Int → Int → Int → Bool → Option (Int × Int)
  | 0, _, _, _, _, _, _, _, _ => none
  | k + 1, x0, x4, x5, x6, x7, x8, x9, x107 => if x107 = true then (some (0, 30)) else (if 19 ≤ (x0.size : Int) then ((gongref03_part.f k (x0.extract 19 x0.size)).bind fun bt155 => ((gongref03_zone.f k bt155.2.1).bind fun bt158 => (if bt155.2.2 = true then (if bt158.2 = true then (if x4 < 1969 then (gongref03_Parse.j2 k x4 x5 x6 x7 x8 x9 bt155.1 bt158.1 true) else (gongref03_Parse.j2 k x4 x5 x6 x7 x8 x9 bt155.1 bt158.1 (decide (x4 > 2100)))) else (gongref03_Parse.j2 k x4 x5 x6 x7 x8 x9 bt155.1 bt158.1 true)) else (gongref03_Parse.j2 k x4 x5 x6 x7 x8 x9 bt155.1 bt158.1 true)))) else (none))
def gongref03_Parse.j2 : Nat → Int → Int → Int → Int → Int → Int → Int → Int → Bool → Option (Int × Int)
  | 0, _, _, _, _, _, _, _, _, _ => none
  | k + 1, x4, x5, x6, x7, x8, x9, x10, x13, x133 => if x133 = true then (some (0, 30)) else ((gongref03_past.f k x4).bind fun t160 => (if x4 = 1969 then (gongref03_Parse.j3 k x4 x5 x7 x8 x9 x10 x13 (wrap64 ((wrap64 (x6 - 1)) - 365))) else (gongref03_Parse.j3 k x4 x5 x7 x8 x9 x10 x13 (wrap64 ((wrap64 (t160 + x6)) - 1)))))
def gongref03_Parse.j3 : Nat → Int → Int → Int → Int → Int → Int → Int → Int → Option (Int × Int)
  | 0, _, _, _, _, _, _, _, _ => none
  | k + 1, x4, x5, x7, x8, x9, x10, x13, x15 => gongref03_Parse.l0 k x4 x5 x7 x8 x9 x10 x13 x15 1
def gongref03_Parse.l0 : Nat → Int → Int → Int → Int → Int → Int → Int → Int → Int → Option (Int × Int)
  | 0, _, _, _, _, _, _, _, _, _ => none
  | k + 1, x4, x5, x7, x8, x9, x10, x13, x15, x16 => if x16 < x5 then ((gongref03_days.f k x4 x16).bind fun t161 => (gongref03_Parse.l0 k x4 x5 x7 x8 x9 x10 x13 (wrap64 (x15 + t161)) (wrap64 (x16 + 1)))) else (if (wrap64 ((wrap64 ((wrap64 (x15 * 86400)) + (wrap64 ((wrap64 ((wrap64 ((wrap64 (x7 * 60)) + x8)) - x13)) * 60)))) + x9)) < 0 then (gongref03_Parse.j5 k x10 (wrap64 ((wrap64 ((wrap64 (x15 * 86400)) + (wrap64 ((wrap64 ((wrap64 ((wrap64 (x7 * 60)) + x8)) - x13)) * 60)))) + x9)) true) else (gongref03_Parse.j5 k x10 (wrap64 ((wrap64 ((wrap64 (x15 * 86400)) + (wrap64 ((wrap64 ((wrap64 ((wrap64 (x7 * 60)) + x8)) - x13)) * 60)))) + x9)) (decide ((wrap64 ((wrap64 ((wrap64 (x15 * 86400)) + (wrap64 ((wrap64 ((wrap64 ((wrap64 (x7 * 60)) + x8)) - x13)) * 60)))) + x9)) > 2305843009))))
def gongref03_Parse.j5 : Nat → Int → Int → Bool → Option (Int × Int)
  | 0, _, _, _ => none
  | k + 1, x10, x15, x171 => if x171 = true then (some (0, 30)) else (if (wrap64 ((wrap64 (x15 * 1000000000)) + x10)) > 2305843009213693952 then (some (0, 30)) else (some (wrap64 ((wrap64 (x15 * 1000000000)) + x10), 0)))
end
def gongref03_Parse.f (k : Nat) (a0 : ByteArray) : Option (Int × Int) := if (a0.size : Int) < 20 then (gongref03_Parse.j0 k a0 true) else (if 4 < (a0.size : Int) then (if (bt a0 4) = 45 then (if 7 < (a0.size : Int) then (if (bt a0 7) = 45 then (if 10 < (a0.size : Int) then (if (bt a0 10) = 84 then (if 13 < (a0.size : Int) then (if (bt a0 13) = 58 then (if 16 < (a0.size : Int) then (gongref03_Parse.j0 k a0 ((bt a0 16) != 58)) else (none)) else (gongref03_Parse.j0 k a0 true)) else (none)) else (gongref03_Parse.j0 k a0 true)) else (none)) else (gongref03_Parse.j0 k a0 true)) else (none)) else (gongref03_Parse.j0 k a0 true)) else (none))
theorem gongref03_Parse.mono_l : ∀ k, (∀ y0 y1, LeO (gongref03_Parse.j0 k y0 y1) (gongref03_Parse.j0 (k + 1) y0 y1)) ∧ (∀ y0 y1 y2 y3 y4 y5 y6 y7, LeO (gongref03_Parse.j1 k y0 y1 y2 y3 y4 y5 y6 y7) (gongref03_Parse.j1 (k + 1) y0 y1 y2 y3 y4 y5 y6 y7)) ∧ (∀ y0 y1 y2 y3 y4 y5 y6 y7 y8, LeO (gongref03_Parse.j2 k y0 y1 y2 y3 y4 y5 y6 y7 y8) (gongref03_Parse.j2 (k + 1) y0 y1 y2 y3 y4 y5 y6 y7 y8)) ∧ (∀ y0 y1 y2 y3 y4 y5 y6 y7, LeO (gongref03_Parse.j3 k y0 y1 y2 y3 y4 y5 y6 y7) (gongref03_Parse.j3 (k + 1) y0 y1 y2 y3 y4 y5 y6 y7)) ∧ (∀ y0 y1 y2 y3 y4 y5 y6 y7 y8, LeO (gongref03_Parse.l0 k y0 y1 y2 y3 y4 y5 y6 y7 y8) (gongref03_Parse.l0 (k + 1) y0 y1 y2 y3 y4 y5 y6 y7 y8)) ∧ (∀ y0 y1 y2, LeO (gongref03_Parse.j5 k y0 y1 y2) (gongref03_Parse.j5 (k + 1) y0 y1 y2))
  | 0 => ⟨fun _ _ r h => by simp [gongref03_Parse.j0] at h, fun _ _ _ _ _ _ _ _ r h => by simp [gongref03_Parse.j1] at h, fun _ _ _ _ _ _ _ _ _ r h => by simp [gongref03_Parse.j2] at h, fun _ _ _ _ _ _ _ _ r h => by simp [gongref03_Parse.j3] at h, fun _ _ _ _ _ _ _ _ _ r h => by simp [gongref03_Parse.l0] at h, fun _ _ _ r h => by simp [gongref03_Parse.j5] at h⟩
  | k + 1 => by
    obtain ⟨ih0, ih1, ih2, ih3, ih4, ih5⟩ := gongref03_Parse.mono_l k
    refine ⟨?_, ?_, ?_, ?_, ?_, ?_⟩
    · intro y0 y1
      unfold gongref03_Parse.j0
      repeat' first
      | (with_reducible exact ih0 _ _)
      | (with_reducible exact ih1 _ _ _ _ _ _ _ _)
      | (with_reducible exact ih2 _ _ _ _ _ _ _ _ _)
      | (with_reducible exact ih3 _ _ _ _ _ _ _ _)
      | (with_reducible exact ih4 _ _ _ _ _ _ _ _ _)
      | (with_reducible exact ih5 _ _ _)
      | (with_reducible exact gongref03_Number.mono _ _)
      | (with_reducible exact gongref03_days.mono _ _ _)
      | (with_reducible exact gongref03_part.mono _ _)
      | (with_reducible exact gongref03_past.mono _ _)
      | (with_reducible exact gongref03_zone.mono _ _)
      | (with_reducible exact LeO.refl _)
      | (with_reducible exact LeO.none _)
      | (with_reducible refine LeO.ite ?_ ?_)
      | (with_reducible refine LeO.bind ?_ (fun _ => ?_))
      | exact ih0 _ _
      | exact ih1 _ _ _ _ _ _ _ _
      | exact ih2 _ _ _ _ _ _ _ _ _
      | exact ih3 _ _ _ _ _ _ _ _
      | exact ih4 _ _ _ _ _ _ _ _ _
      | exact ih5 _ _ _
      | exact gongref03_Number.mono _ _
      | exact gongref03_days.mono _ _ _
      | exact gongref03_part.mono _ _
      | exact gongref03_past.mono _ _
      | exact gongref03_zone.mono _ _
      | exact LeO.none _
      | refine LeO.ite ?_ ?_
      | refine LeO.bind ?_ (fun _ => ?_)
    · intro y0 y1 y2 y3 y4 y5 y6 y7
      unfold gongref03_Parse.j1
      repeat' first
      | (with_reducible exact ih0 _ _)
      | (with_reducible exact ih1 _ _ _ _ _ _ _ _)
      | (with_reducible exact ih2 _ _ _ _ _ _ _ _ _)
      | (with_reducible exact ih3 _ _ _ _ _ _ _ _)
      | (with_reducible exact ih4 _ _ _ _ _ _ _ _ _)
      | (with_reducible exact ih5 _ _ _)
      | (with_reducible exact gongref03_Number.mono _ _)
      | (with_reducible exact gongref03_days.mono _ _ _)
      | (with_reducible exact gongref03_part.mono _ _)
      | (with_reducible exact gongref03_past.mono _ _)
      | (with_reducible exact gongref03_zone.mono _ _)
      | (with_reducible exact LeO.refl _)
      | (with_reducible exact LeO.none _)
      | (with_reducible refine LeO.ite ?_ ?_)
      | (with_reducible refine LeO.bind ?_ (fun _ => ?_))
      | exact ih0 _ _
      | exact ih1 _ _ _ _ _ _ _ _
      | exact ih2 _ _ _ _ _ _ _ _ _
      | exact ih3 _ _ _ _ _ _ _ _
      | exact ih4 _ _ _ _ _ _ _ _ _
      | exact ih5 _ _ _
      | exact gongref03_Number.mono _ _
      | exact gongref03_days.mono _ _ _
      | exact gongref03_part.mono _ _
      | exact gongref03_past.mono _ _
      | exact gongref03_zone.mono _ _
      | exact LeO.none _
      | refine LeO.ite ?_ ?_
      | refine LeO.bind ?_ (fun _ => ?_)
    · intro y0 y1 y2 y3 y4 y5 y6 y7 y8
      unfold gongref03_Parse.j2
      repeat' first
      | (with_reducible exact ih0 _ _)
      | (with_reducible exact ih1 _ _ _ _ _ _ _ _)
      | (with_reducible exact ih2 _ _ _ _ _ _ _ _ _)
      | (with_reducible exact ih3 _ _ _ _ _ _ _ _)
      | (with_reducible exact ih4 _ _ _ _ _ _ _ _ _)
      | (with_reducible exact ih5 _ _ _)
      | (with_reducible exact gongref03_Number.mono _ _)
      | (with_reducible exact gongref03_days.mono _ _ _)
      | (with_reducible exact gongref03_part.mono _ _)
      | (with_reducible exact gongref03_past.mono _ _)
      | (with_reducible exact gongref03_zone.mono _ _)
      | (with_reducible exact LeO.refl _)
      | (with_reducible exact LeO.none _)
      | (with_reducible refine LeO.ite ?_ ?_)
      | (with_reducible refine LeO.bind ?_ (fun _ => ?_))
      | exact ih0 _ _
      | exact ih1 _ _ _ _ _ _ _ _
      | exact ih2 _ _ _ _ _ _ _ _ _
      | exact ih3 _ _ _ _ _ _ _ _
      | exact ih4 _ _ _ _ _ _ _ _ _
      | exact ih5 _ _ _
      | exact gongref03_Number.mono _ _
      | exact gongref03_days.mono _ _ _
      | exact gongref03_part.mono _ _
      | exact gongref03_past.mono _ _
      | exact gongref03_zone.mono _ _
      | exact LeO.none _
      | refine LeO.ite ?_ ?_
      | refine LeO.bind ?_ (fun _ => ?_)
    · intro y0 y1 y2 y3 y4 y5 y6 y7
      unfold gongref03_Parse.j3
      repeat' first
      | (with_reducible exact ih0 _ _)
      | (with_reducible exact ih1 _ _ _ _ _ _ _ _)
      | (with_reducible exact ih2 _ _ _ _ _ _ _ _ _)
      | (with_reducible exact ih3 _ _ _ _ _ _ _ _)
      | (with_reducible exact ih4 _ _ _ _ _ _ _ _ _)
      | (with_reducible exact ih5 _ _ _)
      | (with_reducible exact gongref03_Number.mono _ _)
      | (with_reducible exact gongref03_days.mono _ _ _)
      | (with_reducible exact gongref03_part.mono _ _)
      | (with_reducible exact gongref03_past.mono _ _)
      | (with_reducible exact gongref03_zone.mono _ _)
      | (with_reducible exact LeO.refl _)
      | (with_reducible exact LeO.none _)
      | (with_reducible refine LeO.ite ?_ ?_)
      | (with_reducible refine LeO.bind ?_ (fun _ => ?_))
      | exact ih0 _ _
      | exact ih1 _ _ _ _ _ _ _ _
      | exact ih2 _ _ _ _ _ _ _ _ _
      | exact ih3 _ _ _ _ _ _ _ _
      | exact ih4 _ _ _ _ _ _ _ _ _
      | exact ih5 _ _ _
      | exact gongref03_Number.mono _ _
      | exact gongref03_days.mono _ _ _
      | exact gongref03_part.mono _ _
      | exact gongref03_past.mono _ _
      | exact gongref03_zone.mono _ _
      | exact LeO.none _
      | refine LeO.ite ?_ ?_
      | refine LeO.bind ?_ (fun _ => ?_)
    · intro y0 y1 y2 y3 y4 y5 y6 y7 y8
      unfold gongref03_Parse.l0
      repeat' first
      | (with_reducible exact ih0 _ _)
      | (with_reducible exact ih1 _ _ _ _ _ _ _ _)
      | (with_reducible exact ih2 _ _ _ _ _ _ _ _ _)
      | (with_reducible exact ih3 _ _ _ _ _ _ _ _)
      | (with_reducible exact ih4 _ _ _ _ _ _ _ _ _)
      | (with_reducible exact ih5 _ _ _)
      | (with_reducible exact gongref03_Number.mono _ _)
      | (with_reducible exact gongref03_days.mono _ _ _)
      | (with_reducible exact gongref03_part.mono _ _)
      | (with_reducible exact gongref03_past.mono _ _)
      | (with_reducible exact gongref03_zone.mono _ _)
      | (with_reducible exact LeO.refl _)
      | (with_reducible exact LeO.none _)
      | (with_reducible refine LeO.ite ?_ ?_)
      | (with_reducible refine LeO.bind ?_ (fun _ => ?_))
      | exact ih0 _ _
      | exact ih1 _ _ _ _ _ _ _ _
      | exact ih2 _ _ _ _ _ _ _ _ _
      | exact ih3 _ _ _ _ _ _ _ _
      | exact ih4 _ _ _ _ _ _ _ _ _
      | exact ih5 _ _ _
      | exact gongref03_Number.mono _ _
      | exact gongref03_days.mono _ _ _
      | exact gongref03_part.mono _ _
      | exact gongref03_past.mono _ _
      | exact gongref03_zone.mono _ _
      | exact LeO.none _
      | refine LeO.ite ?_ ?_
      | refine LeO.bind ?_ (fun _ => ?_)
    · intro y0 y1 y2
      unfold gongref03_Parse.j5
      repeat' first
      | (with_reducible exact ih0 _ _)
      | (with_reducible exact ih1 _ _ _ _ _ _ _ _)
      | (with_reducible exact ih2 _ _ _ _ _ _ _ _ _)
      | (with_reducible exact ih3 _ _ _ _ _ _ _ _)
      | (with_reducible exact ih4 _ _ _ _ _ _ _ _ _)
      | (with_reducible exact ih5 _ _ _)
      | (with_reducible exact gongref03_Number.mono _ _)
      | (with_reducible exact gongref03_days.mono _ _ _)
      | (with_reducible exact gongref03_part.mono _ _)
      | (with_reducible exact gongref03_past.mono _ _)
      | (with_reducible exact gongref03_zone.mono _ _)
      | (with_reducible exact LeO.refl _)
      | (with_reducible exact LeO.none _)
      | (with_reducible refine LeO.ite ?_ ?_)
      | (with_reducible refine LeO.bind ?_ (fun _ => ?_))
      | exact ih0 _ _
      | exact ih1 _ _ _ _ _ _ _ _
      | exact ih2 _ _ _ _ _ _ _ _ _
      | exact ih3 _ _ _ _ _ _ _ _
      | exact ih4 _ _ _ _ _ _ _ _ _
      | exact ih5 _ _ _
      | exact gongref03_Number.mono _ _
      | exact gongref03_days.mono _ _ _
      | exact gongref03_part.mono _ _
      | exact gongref03_past.mono _ _
      | exact gongref03_zone.mono _ _
      | exact LeO.none _
      | refine LeO.ite ?_ ?_
      | refine LeO.bind ?_ (fun _ => ?_)
theorem gongref03_Parse.mono : ∀ a0 k, LeO (gongref03_Parse.f k a0) (gongref03_Parse.f (k + 1) a0) := by
  intro a0 k
  obtain ⟨ih0, ih1, ih2, ih3, ih4, ih5⟩ := gongref03_Parse.mono_l k
  unfold gongref03_Parse.f
  repeat' first
      | (with_reducible exact ih0 _ _)
      | (with_reducible exact ih1 _ _ _ _ _ _ _ _)
      | (with_reducible exact ih2 _ _ _ _ _ _ _ _ _)
      | (with_reducible exact ih3 _ _ _ _ _ _ _ _)
      | (with_reducible exact ih4 _ _ _ _ _ _ _ _ _)
      | (with_reducible exact ih5 _ _ _)
      | (with_reducible exact gongref03_Number.mono _ _)
      | (with_reducible exact gongref03_days.mono _ _ _)
      | (with_reducible exact gongref03_part.mono _ _)
      | (with_reducible exact gongref03_past.mono _ _)
      | (with_reducible exact gongref03_zone.mono _ _)
      | (with_reducible exact LeO.refl _)
      | (with_reducible exact LeO.none _)
      | (with_reducible refine LeO.ite ?_ ?_)
      | (with_reducible refine LeO.bind ?_ (fun _ => ?_))
      | exact ih0 _ _
      | exact ih1 _ _ _ _ _ _ _ _
      | exact ih2 _ _ _ _ _ _ _ _ _
      | exact ih3 _ _ _ _ _ _ _ _
      | exact ih4 _ _ _ _ _ _ _ _ _
      | exact ih5 _ _ _
      | exact gongref03_Number.mono _ _
      | exact gongref03_days.mono _ _ _
      | exact gongref03_part.mono _ _
      | exact gongref03_past.mono _ _
      | exact gongref03_zone.mono _ _
      | exact LeO.none _
      | refine LeO.ite ?_ ?_
      | refine LeO.bind ?_ (fun _ => ?_)
set_option maxHeartbeats 8000000 in
set_option maxRecDepth 100000 in
theorem gongref03_Parse.calls (k : Nat) (a0 : ByteArray) (r1 : Int) (r2 : Int) (w : World) (h : gongref03_Parse.f k a0 = some (r1, r2)) :
    Calls Tryd.prog 14 #[.string a0] w fun e w' => e = .returned (.tuple #[.int .i64 r1, .int .i64 r2]) ∧ Drawn0 w w' := by
  have H : (if (a0.size : Int) < 20 then (gongref03_Parse.j0 k a0 true) else (if 4 < (a0.size : Int) then (if (bt a0 4) = 45 then (if 7 < (a0.size : Int) then (if (bt a0 7) = 45 then (if 10 < (a0.size : Int) then (if (bt a0 10) = 84 then (if 13 < (a0.size : Int) then (if (bt a0 13) = 58 then (if 16 < (a0.size : Int) then (gongref03_Parse.j0 k a0 ((bt a0 16) != 58)) else (none)) else (gongref03_Parse.j0 k a0 true)) else (none)) else (gongref03_Parse.j0 k a0 true)) else (none)) else (gongref03_Parse.j0 k a0 true)) else (none)) else (gongref03_Parse.j0 k a0 true)) else (none))) = some (r1, r2) := h
  clear h
  have HC2 := Aside0.mk H
  clear H
  go_enter Tryd.func14, Tryd.ntmps14
  go_upto_region 1 with (fail)
  repeat (go_quiet (fail); go_upto_region 1 with (fail))
  go_cut [44] (fun v44 wc => ∃ (kq : Nat) (x44_1 : Bool), v44 = .bool x44_1 ∧ Aside0 (gongref03_Parse.j0 kq a0 x44_1 = some (r1, r2)) ∧ Aside0 (kq ≤ k) ∧ Drawn0 w wc)
  case first =>
    as_aux_lemma =>
    have H := HC2.out
    clear HC2
    by_cases c3 : (a0.size : Int) < 20
    · rw [if_pos c3] at H
      have c3b0 : decide ((a0.size : Int) < 20) = true := decide_eq_true c3
      have c3b1 : decide (a0.size < 20) = true := decide_eq_true (by omega)
      clear c3
      (first | rw [c3b0] | (simp only [i64_w, i32_w]; rw [c3b0]) | skip)
      have H' := Aside0.mk H
      clear H
      go_wp2
      repeat (go_quiet (fail); try go_wp2)
      go_meet
      case rel => exact ⟨_, (true), (by first | rfl | (simp; done) | (simp [*]; done) | (simp [*]; exact isEmpty_bne _) | (simp; exact isEmpty_bne _)), H', ⟨by first | omega | exact Nat.le_refl _⟩, by repeat (first | exact Drawn0.refl _ | apply Drawn0.step)⟩
    · rw [if_neg c3] at H
      have c3b0 : decide ((a0.size : Int) < 20) = false := decide_eq_false c3
      have c3b1 : decide (a0.size < 20) = false := decide_eq_false (by omega)
      clear c3
      (first | rw [c3b0] | (simp only [i64_w, i32_w]; rw [c3b0]) | skip)
      by_cases c4 : 4 < (a0.size : Int)
      · rw [if_pos c4] at H
        have c4b0 : decide (4 < (a0.size : Int)) = true := decide_eq_true c4
        have c4b1 : decide (4 < a0.size) = true := decide_eq_true (by omega)
        clear c4
        by_cases c6 : (bt a0 4) = 45
        · rw [if_pos c6] at H
          have c6b0 : ((bt a0 4) == 45) = true := beq_iff_eq.mpr c6
          have c6b1 : ((bt a0 4) != 45) = false := bne_eq_false_iff_eq.mpr c6
          clear c6
          by_cases c7 : 7 < (a0.size : Int)
          · rw [if_pos c7] at H
            have c7b0 : decide (7 < (a0.size : Int)) = true := decide_eq_true c7
            have c7b1 : decide (7 < a0.size) = true := decide_eq_true (by omega)
            clear c7
            by_cases c9 : (bt a0 7) = 45
            · rw [if_pos c9] at H
              have c9b0 : ((bt a0 7) == 45) = true := beq_iff_eq.mpr c9
              have c9b1 : ((bt a0 7) != 45) = false := bne_eq_false_iff_eq.mpr c9
              clear c9
              by_cases c10 : 10 < (a0.size : Int)
              · rw [if_pos c10] at H
                have c10b0 : decide (10 < (a0.size : Int)) = true := decide_eq_true c10
                have c10b1 : decide (10 < a0.size) = true := decide_eq_true (by omega)
                clear c10
                by_cases c12 : (bt a0 10) = 84
                · rw [if_pos c12] at H
                  have c12b0 : ((bt a0 10) == 84) = true := beq_iff_eq.mpr c12
                  have c12b1 : ((bt a0 10) != 84) = false := bne_eq_false_iff_eq.mpr c12
                  clear c12
                  by_cases c13 : 13 < (a0.size : Int)
                  · rw [if_pos c13] at H
                    have c13b0 : decide (13 < (a0.size : Int)) = true := decide_eq_true c13
                    have c13b1 : decide (13 < a0.size) = true := decide_eq_true (by omega)
                    clear c13
                    by_cases c15 : (bt a0 13) = 58
                    · rw [if_pos c15] at H
                      have c15b0 : ((bt a0 13) == 58) = true := beq_iff_eq.mpr c15
                      have c15b1 : ((bt a0 13) != 58) = false := bne_eq_false_iff_eq.mpr c15
                      clear c15
                      by_cases c16 : 16 < (a0.size : Int)
                      · rw [if_pos c16] at H
                        have c16b0 : decide (16 < (a0.size : Int)) = true := decide_eq_true c16
                        have c16b1 : decide (16 < a0.size) = true := decide_eq_true (by omega)
                        clear c16
                        have H' := Aside0.mk H
                        clear H
                        have p5 : 0 ≤ (4 : Int) := (by omega)
                        have q5 : 4 < a0.size := (by have : (4 : Int) < (a0.size : Int) := of_decide_eq_true (by first | (with_reducible assumption) | assumption); omega)
                        have hx5 : ∀ h : 4 < a0.size, ((a0[4]'h).toNat : Int) = bt a0 4 := bt_at a0 4
                        clear p5
                        have qi5 : (4 < (a0.size : Int)) = True := eq_true (of_decide_eq_true (by first | (with_reducible assumption) | assumption))
                        replace q5 := eq_true q5
                        have p8 : 0 ≤ (7 : Int) := (by omega)
                        have q8 : 7 < a0.size := (by have : (7 : Int) < (a0.size : Int) := of_decide_eq_true (by first | (with_reducible assumption) | assumption); omega)
                        have hx8 : ∀ h : 7 < a0.size, ((a0[7]'h).toNat : Int) = bt a0 7 := bt_at a0 7
                        clear p8
                        have qi8 : (7 < (a0.size : Int)) = True := eq_true (of_decide_eq_true (by first | (with_reducible assumption) | assumption))
                        replace q8 := eq_true q8
                        have p11 : 0 ≤ (10 : Int) := (by omega)
                        have q11 : 10 < a0.size := (by have : (10 : Int) < (a0.size : Int) := of_decide_eq_true (by first | (with_reducible assumption) | assumption); omega)
                        have hx11 : ∀ h : 10 < a0.size, ((a0[10]'h).toNat : Int) = bt a0 10 := bt_at a0 10
                        clear p11
                        have qi11 : (10 < (a0.size : Int)) = True := eq_true (of_decide_eq_true (by first | (with_reducible assumption) | assumption))
                        replace q11 := eq_true q11
                        have p14 : 0 ≤ (13 : Int) := (by omega)
                        have q14 : 13 < a0.size := (by have : (13 : Int) < (a0.size : Int) := of_decide_eq_true (by first | (with_reducible assumption) | assumption); omega)
                        have hx14 : ∀ h : 13 < a0.size, ((a0[13]'h).toNat : Int) = bt a0 13 := bt_at a0 13
                        clear p14
                        have qi14 : (13 < (a0.size : Int)) = True := eq_true (of_decide_eq_true (by first | (with_reducible assumption) | assumption))
                        replace q14 := eq_true q14
                        have p17 : 0 ≤ (16 : Int) := (by omega)
                        have q17 : 16 < a0.size := (by have : (16 : Int) < (a0.size : Int) := of_decide_eq_true (by first | (with_reducible assumption) | assumption); omega)
                        have hx17 : ∀ h : 16 < a0.size, ((a0[16]'h).toNat : Int) = bt a0 16 := bt_at a0 16
                        clear p17
                        have qi17 : (16 < (a0.size : Int)) = True := eq_true (of_decide_eq_true (by first | (with_reducible assumption) | assumption))
                        replace q17 := eq_true q17
                        go_wp2
                        repeat (go_quiet (fail); try go_wp2)
                        go_meet
                        case rel => exact ⟨_, (((bt a0 16) != 58)), (by first | rfl | (simp; done) | (simp [*]; done) | (simp [*]; exact isEmpty_bne _) | (simp; exact isEmpty_bne _)), H', ⟨by first | omega | exact Nat.le_refl _⟩, by repeat (first | exact Drawn0.refl _ | apply Drawn0.step)⟩
                      · rw [if_neg c16] at H
                        exact absurd H (by simp)
                    · rw [if_neg c15] at H
                      have c15b0 : ((bt a0 13) == 58) = false := beq_eq_false_iff_ne.mpr c15
                      have c15b1 : ((bt a0 13) != 58) = true := bne_iff_ne.mpr c15
                      have H' := Aside0.mk H
                      clear H
                      have p5 : 0 ≤ (4 : Int) := (by omega)
                      have q5 : 4 < a0.size := (by have : (4 : Int) < (a0.size : Int) := of_decide_eq_true (by first | (with_reducible assumption) | assumption); omega)
                      have hx5 : ∀ h : 4 < a0.size, ((a0[4]'h).toNat : Int) = bt a0 4 := bt_at a0 4
                      clear p5
                      have qi5 : (4 < (a0.size : Int)) = True := eq_true (of_decide_eq_true (by first | (with_reducible assumption) | assumption))
                      replace q5 := eq_true q5
                      have p8 : 0 ≤ (7 : Int) := (by omega)
                      have q8 : 7 < a0.size := (by have : (7 : Int) < (a0.size : Int) := of_decide_eq_true (by first | (with_reducible assumption) | assumption); omega)
                      have hx8 : ∀ h : 7 < a0.size, ((a0[7]'h).toNat : Int) = bt a0 7 := bt_at a0 7
                      clear p8
                      have qi8 : (7 < (a0.size : Int)) = True := eq_true (of_decide_eq_true (by first | (with_reducible assumption) | assumption))
                      replace q8 := eq_true q8
                      have p11 : 0 ≤ (10 : Int) := (by omega)
                      have q11 : 10 < a0.size := (by have : (10 : Int) < (a0.size : Int) := of_decide_eq_true (by first | (with_reducible assumption) | assumption); omega)
                      have hx11 : ∀ h : 10 < a0.size, ((a0[10]'h).toNat : Int) = bt a0 10 := bt_at a0 10
                      clear p11
                      have qi11 : (10 < (a0.size : Int)) = True := eq_true (of_decide_eq_true (by first | (with_reducible assumption) | assumption))
                      replace q11 := eq_true q11
                      have p14 : 0 ≤ (13 : Int) := (by omega)
                      have q14 : 13 < a0.size := (by have : (13 : Int) < (a0.size : Int) := of_decide_eq_true (by first | (with_reducible assumption) | assumption); omega)
                      have hx14 : ∀ h : 13 < a0.size, ((a0[13]'h).toNat : Int) = bt a0 13 := bt_at a0 13
                      clear p14
                      have qi14 : (13 < (a0.size : Int)) = True := eq_true (of_decide_eq_true (by first | (with_reducible assumption) | assumption))
                      replace q14 := eq_true q14
                      go_wp2
                      repeat (go_quiet (fail); try go_wp2)
                      go_meet
                      case rel => exact ⟨_, (true), (by first | rfl | (simp; done) | (simp [*]; done) | (simp [*]; exact isEmpty_bne _) | (simp; exact isEmpty_bne _)), H', ⟨by first | omega | exact Nat.le_refl _⟩, by repeat (first | exact Drawn0.refl _ | apply Drawn0.step)⟩
                  · rw [if_neg c13] at H
                    exact absurd H (by simp)
                · rw [if_neg c12] at H
                  have c12b0 : ((bt a0 10) == 84) = false := beq_eq_false_iff_ne.mpr c12
                  have c12b1 : ((bt a0 10) != 84) = true := bne_iff_ne.mpr c12
                  have H' := Aside0.mk H
                  clear H
                  have p5 : 0 ≤ (4 : Int) := (by omega)
                  have q5 : 4 < a0.size := (by have : (4 : Int) < (a0.size : Int) := of_decide_eq_true (by first | (with_reducible assumption) | assumption); omega)
                  have hx5 : ∀ h : 4 < a0.size, ((a0[4]'h).toNat : Int) = bt a0 4 := bt_at a0 4
                  clear p5
                  have qi5 : (4 < (a0.size : Int)) = True := eq_true (of_decide_eq_true (by first | (with_reducible assumption) | assumption))
                  replace q5 := eq_true q5
                  have p8 : 0 ≤ (7 : Int) := (by omega)
                  have q8 : 7 < a0.size := (by have : (7 : Int) < (a0.size : Int) := of_decide_eq_true (by first | (with_reducible assumption) | assumption); omega)
                  have hx8 : ∀ h : 7 < a0.size, ((a0[7]'h).toNat : Int) = bt a0 7 := bt_at a0 7
                  clear p8
                  have qi8 : (7 < (a0.size : Int)) = True := eq_true (of_decide_eq_true (by first | (with_reducible assumption) | assumption))
                  replace q8 := eq_true q8
                  have p11 : 0 ≤ (10 : Int) := (by omega)
                  have q11 : 10 < a0.size := (by have : (10 : Int) < (a0.size : Int) := of_decide_eq_true (by first | (with_reducible assumption) | assumption); omega)
                  have hx11 : ∀ h : 10 < a0.size, ((a0[10]'h).toNat : Int) = bt a0 10 := bt_at a0 10
                  clear p11
                  have qi11 : (10 < (a0.size : Int)) = True := eq_true (of_decide_eq_true (by first | (with_reducible assumption) | assumption))
                  replace q11 := eq_true q11
                  go_wp2
                  repeat (go_quiet (fail); try go_wp2)
                  go_meet
                  case rel => exact ⟨_, (true), (by first | rfl | (simp; done) | (simp [*]; done) | (simp [*]; exact isEmpty_bne _) | (simp; exact isEmpty_bne _)), H', ⟨by first | omega | exact Nat.le_refl _⟩, by repeat (first | exact Drawn0.refl _ | apply Drawn0.step)⟩
              · rw [if_neg c10] at H
                exact absurd H (by simp)
            · rw [if_neg c9] at H
              have c9b0 : ((bt a0 7) == 45) = false := beq_eq_false_iff_ne.mpr c9
              have c9b1 : ((bt a0 7) != 45) = true := bne_iff_ne.mpr c9
              have H' := Aside0.mk H
              clear H
              have p5 : 0 ≤ (4 : Int) := (by omega)
              have q5 : 4 < a0.size := (by have : (4 : Int) < (a0.size : Int) := of_decide_eq_true (by first | (with_reducible assumption) | assumption); omega)
              have hx5 : ∀ h : 4 < a0.size, ((a0[4]'h).toNat : Int) = bt a0 4 := bt_at a0 4
              clear p5
              have qi5 : (4 < (a0.size : Int)) = True := eq_true (of_decide_eq_true (by first | (with_reducible assumption) | assumption))
              replace q5 := eq_true q5
              have p8 : 0 ≤ (7 : Int) := (by omega)
              have q8 : 7 < a0.size := (by have : (7 : Int) < (a0.size : Int) := of_decide_eq_true (by first | (with_reducible assumption) | assumption); omega)
              have hx8 : ∀ h : 7 < a0.size, ((a0[7]'h).toNat : Int) = bt a0 7 := bt_at a0 7
              clear p8
              have qi8 : (7 < (a0.size : Int)) = True := eq_true (of_decide_eq_true (by first | (with_reducible assumption) | assumption))
              replace q8 := eq_true q8
              go_wp2
              repeat (go_quiet (fail); try go_wp2)
              go_meet
              case rel => exact ⟨_, (true), (by first | rfl | (simp; done) | (simp [*]; done) | (simp [*]; exact isEmpty_bne _) | (simp; exact isEmpty_bne _)), H', ⟨by first | omega | exact Nat.le_refl _⟩, by repeat (first | exact Drawn0.refl _ | apply Drawn0.step)⟩
          · rw [if_neg c7] at H
            exact absurd H (by simp)
        · rw [if_neg c6] at H
          have c6b0 : ((bt a0 4) == 45) = false := beq_eq_false_iff_ne.mpr c6
          have c6b1 : ((bt a0 4) != 45) = true := bne_iff_ne.mpr c6
          have H' := Aside0.mk H
          clear H
          have p5 : 0 ≤ (4 : Int) := (by omega)
          have q5 : 4 < a0.size := (by have : (4 : Int) < (a0.size : Int) := of_decide_eq_true (by first | (with_reducible assumption) | assumption); omega)
          have hx5 : ∀ h : 4 < a0.size, ((a0[4]'h).toNat : Int) = bt a0 4 := bt_at a0 4
          clear p5
          have qi5 : (4 < (a0.size : Int)) = True := eq_true (of_decide_eq_true (by first | (with_reducible assumption) | assumption))
          replace q5 := eq_true q5
          go_wp2
          repeat (go_quiet (fail); try go_wp2)
          go_meet
          case rel => exact ⟨_, (true), (by first | rfl | (simp; done) | (simp [*]; done) | (simp [*]; exact isEmpty_bne _) | (simp; exact isEmpty_bne _)), H', ⟨by first | omega | exact Nat.le_refl _⟩, by repeat (first | exact Drawn0.refl _ | apply Drawn0.step)⟩
      · rw [if_neg c4] at H
        exact absurd H (by simp)
  case rest =>
    as_aux_lemma =>
    clear HC2
    try clear c1
    try clear p1
    try clear q1
    try clear hx1
    try clear qi1
    try clear p2
    try clear c3
    try clear c3b0
    try clear c3b1
    try clear c4
    try clear c4b0
    try clear c4b1
    try clear p5
    try clear q5
    try clear hx5
    try clear qi5
    try clear c6
    try clear c6b0
    try clear c6b1
    try clear c7
    try clear c7b0
    try clear c7b1
    try clear p8
    try clear q8
    try clear hx8
    try clear qi8
    try clear c9
    try clear c9b0
    try clear c9b1
    try clear c10
    try clear c10b0
    try clear c10b1
    try clear p11
    try clear q11
    try clear hx11
    try clear qi11
    try clear c12
    try clear c12b0
    try clear c12b1
    try clear c13
    try clear c13b0
    try clear c13b1
    try clear c14
    try clear p14
    try clear q14
    try clear hx14
    try clear qi14
    try clear c15
    try clear c15b0
    try clear c15b1
    try clear c16
    try clear c16b0
    try clear c16b1
    try clear p17
    try clear q17
    try clear hx17
    try clear qi17
    try clear p11
    try clear p14
    try clear p17
    try clear p5
    try clear p8
    try clear q11
    try clear q14
    try clear q17
    try clear q5
    try clear q8
    obtain ⟨kq, x44_1, rfl, HA, HJ1, ⟨mc1, rfl⟩⟩ := hcut
    cases kq with
    | zero => exact absurd HA.out (by simp [gongref03_Parse.j0])
    | succ kj1 =>
      have H := HA.out
      clear HA
      simp only [gongref03_Parse.j0] at H
      by_cases c18 : x44_1 = true
      · subst c18
        have H1 : (some (0, 30)) = some (r1, r2) := by rw [if_pos rfl] at H; exact H
        clear H
        have H := H1
        clear H1
        simp only [Option.some.injEq, Prod.mk.injEq] at H
        obtain ⟨rfl, rfl⟩ := H
        go_wp2
        repeat (go_quiet (fail); try go_wp2)
        go_ret2
        exact ⟨by first | rfl | (simp; done) | (simp [*]; done), by repeat (first | exact Drawn0.refl _ | apply Drawn0.step)⟩
      · replace c18 := Bool.eq_false_iff.mpr c18
        subst c18
        have H1 : (if 0 ≤ 4 then (if 4 ≤ (a0.size : Int) then ((gongref03_Number.f kj1 (a0.extract 0 4)).bind fun t148 => (if 5 ≤ 7 then (if 7 ≤ (a0.size : Int) then ((gongref03_Number.f kj1 (a0.extract 5 7)).bind fun t149 => (if 8 ≤ 10 then (if 10 ≤ (a0.size : Int) then ((gongref03_Number.f kj1 (a0.extract 8 10)).bind fun t150 => (if 11 ≤ 13 then (if 13 ≤ (a0.size : Int) then ((gongref03_Number.f kj1 (a0.extract 11 13)).bind fun t151 => (if 14 ≤ 16 then (if 16 ≤ (a0.size : Int) then ((gongref03_Number.f kj1 (a0.extract 14 16)).bind fun t152 => (if 17 ≤ 19 then (if 19 ≤ (a0.size : Int) then ((gongref03_Number.f kj1 (a0.extract 17 19)).bind fun t153 => (if t148 < 0 then (gongref03_Parse.j1 kj1 a0 t148 t149 t150 t151 t152 t153 true) else (if t149 < 1 then (gongref03_Parse.j1 kj1 a0 t148 t149 t150 t151 t152 t153 true) else (if t149 > 12 then (gongref03_Parse.j1 kj1 a0 t148 t149 t150 t151 t152 t153 true) else (if t150 < 1 then (gongref03_Parse.j1 kj1 a0 t148 t149 t150 t151 t152 t153 true) else ((gongref03_days.f kj1 t148 t149).bind fun t154 => (if t150 > t154 then (gongref03_Parse.j1 kj1 a0 t148 t149 t150 t151 t152 t153 true) else (if t151 < 0 then (gongref03_Parse.j1 kj1 a0 t148 t149 t150 t151 t152 t153 true) else (if t151 > 23 then (gongref03_Parse.j1 kj1 a0 t148 t149 t150 t151 t152 t153 true) else (if t152 < 0 then (gongref03_Parse.j1 kj1 a0 t148 t149 t150 t151 t152 t153 true) else (if t152 > 59 then (gongref03_Parse.j1 kj1 a0 t148 t149 t150 t151 t152 t153 true) else (if t153 < 0 then (gongref03_Parse.j1 kj1 a0 t148 t149 t150 t151 t152 t153 true) else (gongref03_Parse.j1 kj1 a0 t148 t149 t150 t151 t152 t153 (decide (t153 > 59))))))))))))))) else (none)) else (none))) else (none)) else (none))) else (none)) else (none))) else (none)) else (none))) else (none)) else (none))) else (none)) else (none)) = some (r1, r2) := by rw [if_neg (show ¬ (false = true) by decide)] at H; exact H
        clear H
        have H := H1
        clear H1
        by_cases c19 : 0 ≤ 4
        · rw [if_pos c19] at H
          have c19b0 := eq_true c19
          have c19b1 : decide (0 ≤ 4) = true := decide_eq_true c19
          clear c19
          by_cases c20 : 4 ≤ (a0.size : Int)
          · rw [if_pos c20] at H
            have c20b0 := eq_true c20
            have c20b1 : decide (4 ≤ (a0.size : Int)) = true := decide_eq_true c20
            clear c20
            replace H := Option.bind_eq_some_iff.mp H
            obtain ⟨t148, A210, H⟩ := H
            replace H : (if 5 ≤ 7 then (if 7 ≤ (a0.size : Int) then ((gongref03_Number.f kj1 (a0.extract 5 7)).bind fun t149 => (if 8 ≤ 10 then (if 10 ≤ (a0.size : Int) then ((gongref03_Number.f kj1 (a0.extract 8 10)).bind fun t150 => (if 11 ≤ 13 then (if 13 ≤ (a0.size : Int) then ((gongref03_Number.f kj1 (a0.extract 11 13)).bind fun t151 => (if 14 ≤ 16 then (if 16 ≤ (a0.size : Int) then ((gongref03_Number.f kj1 (a0.extract 14 16)).bind fun t152 => (if 17 ≤ 19 then (if 19 ≤ (a0.size : Int) then ((gongref03_Number.f kj1 (a0.extract 17 19)).bind fun t153 => (if t148 < 0 then (gongref03_Parse.j1 kj1 a0 t148 t149 t150 t151 t152 t153 true) else (if t149 < 1 then (gongref03_Parse.j1 kj1 a0 t148 t149 t150 t151 t152 t153 true) else (if t149 > 12 then (gongref03_Parse.j1 kj1 a0 t148 t149 t150 t151 t152 t153 true) else (if t150 < 1 then (gongref03_Parse.j1 kj1 a0 t148 t149 t150 t151 t152 t153 true) else ((gongref03_days.f kj1 t148 t149).bind fun t154 => (if t150 > t154 then (gongref03_Parse.j1 kj1 a0 t148 t149 t150 t151 t152 t153 true) else (if t151 < 0 then (gongref03_Parse.j1 kj1 a0 t148 t149 t150 t151 t152 t153 true) else (if t151 > 23 then (gongref03_Parse.j1 kj1 a0 t148 t149 t150 t151 t152 t153 true) else (if t152 < 0 then (gongref03_Parse.j1 kj1 a0 t148 t149 t150 t151 t152 t153 true) else (if t152 > 59 then (gongref03_Parse.j1 kj1 a0 t148 t149 t150 t151 t152 t153 true) else (if t153 < 0 then (gongref03_Parse.j1 kj1 a0 t148 t149 t150 t151 t152 t153 true) else (gongref03_Parse.j1 kj1 a0 t148 t149 t150 t151 t152 t153 (decide (t153 > 59))))))))))))))) else (none)) else (none))) else (none)) else (none))) else (none)) else (none))) else (none)) else (none))) else (none)) else (none)) = some (r1, r2) := H
            have A21 := Aside0.mk A210
            clear A210
            by_cases c22 : 5 ≤ 7
            · rw [if_pos c22] at H
              have c22b0 := eq_true c22
              have c22b1 : decide (5 ≤ 7) = true := decide_eq_true c22
              clear c22
              by_cases c23 : 7 ≤ (a0.size : Int)
              · rw [if_pos c23] at H
                have c23b0 := eq_true c23
                have c23b1 : decide (7 ≤ (a0.size : Int)) = true := decide_eq_true c23
                clear c23
                replace H := Option.bind_eq_some_iff.mp H
                obtain ⟨t149, A240, H⟩ := H
                replace H : (if 8 ≤ 10 then (if 10 ≤ (a0.size : Int) then ((gongref03_Number.f kj1 (a0.extract 8 10)).bind fun t150 => (if 11 ≤ 13 then (if 13 ≤ (a0.size : Int) then ((gongref03_Number.f kj1 (a0.extract 11 13)).bind fun t151 => (if 14 ≤ 16 then (if 16 ≤ (a0.size : Int) then ((gongref03_Number.f kj1 (a0.extract 14 16)).bind fun t152 => (if 17 ≤ 19 then (if 19 ≤ (a0.size : Int) then ((gongref03_Number.f kj1 (a0.extract 17 19)).bind fun t153 => (if t148 < 0 then (gongref03_Parse.j1 kj1 a0 t148 t149 t150 t151 t152 t153 true) else (if t149 < 1 then (gongref03_Parse.j1 kj1 a0 t148 t149 t150 t151 t152 t153 true) else (if t149 > 12 then (gongref03_Parse.j1 kj1 a0 t148 t149 t150 t151 t152 t153 true) else (if t150 < 1 then (gongref03_Parse.j1 kj1 a0 t148 t149 t150 t151 t152 t153 true) else ((gongref03_days.f kj1 t148 t149).bind fun t154 => (if t150 > t154 then (gongref03_Parse.j1 kj1 a0 t148 t149 t150 t151 t152 t153 true) else (if t151 < 0 then (gongref03_Parse.j1 kj1 a0 t148 t149 t150 t151 t152 t153 true) else (if t151 > 23 then (gongref03_Parse.j1 kj1 a0 t148 t149 t150 t151 t152 t153 true) else (if t152 < 0 then (gongref03_Parse.j1 kj1 a0 t148 t149 t150 t151 t152 t153 true) else (if t152 > 59 then (gongref03_Parse.j1 kj1 a0 t148 t149 t150 t151 t152 t153 true) else (if t153 < 0 then (gongref03_Parse.j1 kj1 a0 t148 t149 t150 t151 t152 t153 true) else (gongref03_Parse.j1 kj1 a0 t148 t149 t150 t151 t152 t153 (decide (t153 > 59))))))))))))))) else (none)) else (none))) else (none)) else (none))) else (none)) else (none))) else (none)) else (none)) = some (r1, r2) := H
                have A24 := Aside0.mk A240
                clear A240
                by_cases c25 : 8 ≤ 10
                · rw [if_pos c25] at H
                  have c25b0 := eq_true c25
                  have c25b1 : decide (8 ≤ 10) = true := decide_eq_true c25
                  clear c25
                  by_cases c26 : 10 ≤ (a0.size : Int)
                  · rw [if_pos c26] at H
                    have c26b0 := eq_true c26
                    have c26b1 : decide (10 ≤ (a0.size : Int)) = true := decide_eq_true c26
                    clear c26
                    replace H := Option.bind_eq_some_iff.mp H
                    obtain ⟨t150, A270, H⟩ := H
                    replace H : (if 11 ≤ 13 then (if 13 ≤ (a0.size : Int) then ((gongref03_Number.f kj1 (a0.extract 11 13)).bind fun t151 => (if 14 ≤ 16 then (if 16 ≤ (a0.size : Int) then ((gongref03_Number.f kj1 (a0.extract 14 16)).bind fun t152 => (if 17 ≤ 19 then (if 19 ≤ (a0.size : Int) then ((gongref03_Number.f kj1 (a0.extract 17 19)).bind fun t153 => (if t148 < 0 then (gongref03_Parse.j1 kj1 a0 t148 t149 t150 t151 t152 t153 true) else (if t149 < 1 then (gongref03_Parse.j1 kj1 a0 t148 t149 t150 t151 t152 t153 true) else (if t149 > 12 then (gongref03_Parse.j1 kj1 a0 t148 t149 t150 t151 t152 t153 true) else (if t150 < 1 then (gongref03_Parse.j1 kj1 a0 t148 t149 t150 t151 t152 t153 true) else ((gongref03_days.f kj1 t148 t149).bind fun t154 => (if t150 > t154 then (gongref03_Parse.j1 kj1 a0 t148 t149 t150 t151 t152 t153 true) else (if t151 < 0 then (gongref03_Parse.j1 kj1 a0 t148 t149 t150 t151 t152 t153 true) else (if t151 > 23 then (gongref03_Parse.j1 kj1 a0 t148 t149 t150 t151 t152 t153 true) else (if t152 < 0 then (gongref03_Parse.j1 kj1 a0 t148 t149 t150 t151 t152 t153 true) else (if t152 > 59 then (gongref03_Parse.j1 kj1 a0 t148 t149 t150 t151 t152 t153 true) else (if t153 < 0 then (gongref03_Parse.j1 kj1 a0 t148 t149 t150 t151 t152 t153 true) else (gongref03_Parse.j1 kj1 a0 t148 t149 t150 t151 t152 t153 (decide (t153 > 59))))))))))))))) else (none)) else (none))) else (none)) else (none))) else (none)) else (none)) = some (r1, r2) := H
                    have A27 := Aside0.mk A270
                    clear A270
                    by_cases c28 : 11 ≤ 13
                    · rw [if_pos c28] at H
                      have c28b0 := eq_true c28
                      have c28b1 : decide (11 ≤ 13) = true := decide_eq_true c28
                      clear c28
                      by_cases c29 : 13 ≤ (a0.size : Int)
                      · rw [if_pos c29] at H
                        have c29b0 := eq_true c29
                        have c29b1 : decide (13 ≤ (a0.size : Int)) = true := decide_eq_true c29
                        clear c29
                        replace H := Option.bind_eq_some_iff.mp H
                        obtain ⟨t151, A300, H⟩ := H
                        replace H : (if 14 ≤ 16 then (if 16 ≤ (a0.size : Int) then ((gongref03_Number.f kj1 (a0.extract 14 16)).bind fun t152 => (if 17 ≤ 19 then (if 19 ≤ (a0.size : Int) then ((gongref03_Number.f kj1 (a0.extract 17 19)).bind fun t153 => (if t148 < 0 then (gongref03_Parse.j1 kj1 a0 t148 t149 t150 t151 t152 t153 true) else (if t149 < 1 then (gongref03_Parse.j1 kj1 a0 t148 t149 t150 t151 t152 t153 true) else (if t149 > 12 then (gongref03_Parse.j1 kj1 a0 t148 t149 t150 t151 t152 t153 true) else (if t150 < 1 then (gongref03_Parse.j1 kj1 a0 t148 t149 t150 t151 t152 t153 true) else ((gongref03_days.f kj1 t148 t149).bind fun t154 => (if t150 > t154 then (gongref03_Parse.j1 kj1 a0 t148 t149 t150 t151 t152 t153 true) else (if t151 < 0 then (gongref03_Parse.j1 kj1 a0 t148 t149 t150 t151 t152 t153 true) else (if t151 > 23 then (gongref03_Parse.j1 kj1 a0 t148 t149 t150 t151 t152 t153 true) else (if t152 < 0 then (gongref03_Parse.j1 kj1 a0 t148 t149 t150 t151 t152 t153 true) else (if t152 > 59 then (gongref03_Parse.j1 kj1 a0 t148 t149 t150 t151 t152 t153 true) else (if t153 < 0 then (gongref03_Parse.j1 kj1 a0 t148 t149 t150 t151 t152 t153 true) else (gongref03_Parse.j1 kj1 a0 t148 t149 t150 t151 t152 t153 (decide (t153 > 59))))))))))))))) else (none)) else (none))) else (none)) else (none)) = some (r1, r2) := H
                        have A30 := Aside0.mk A300
                        clear A300
                        by_cases c31 : 14 ≤ 16
                        · rw [if_pos c31] at H
                          have c31b0 := eq_true c31
                          have c31b1 : decide (14 ≤ 16) = true := decide_eq_true c31
                          clear c31
                          by_cases c32 : 16 ≤ (a0.size : Int)
                          · rw [if_pos c32] at H
                            have c32b0 := eq_true c32
                            have c32b1 : decide (16 ≤ (a0.size : Int)) = true := decide_eq_true c32
                            clear c32
                            replace H := Option.bind_eq_some_iff.mp H
                            obtain ⟨t152, A330, H⟩ := H
                            replace H : (if 17 ≤ 19 then (if 19 ≤ (a0.size : Int) then ((gongref03_Number.f kj1 (a0.extract 17 19)).bind fun t153 => (if t148 < 0 then (gongref03_Parse.j1 kj1 a0 t148 t149 t150 t151 t152 t153 true) else (if t149 < 1 then (gongref03_Parse.j1 kj1 a0 t148 t149 t150 t151 t152 t153 true) else (if t149 > 12 then (gongref03_Parse.j1 kj1 a0 t148 t149 t150 t151 t152 t153 true) else (if t150 < 1 then (gongref03_Parse.j1 kj1 a0 t148 t149 t150 t151 t152 t153 true) else ((gongref03_days.f kj1 t148 t149).bind fun t154 => (if t150 > t154 then (gongref03_Parse.j1 kj1 a0 t148 t149 t150 t151 t152 t153 true) else (if t151 < 0 then (gongref03_Parse.j1 kj1 a0 t148 t149 t150 t151 t152 t153 true) else (if t151 > 23 then (gongref03_Parse.j1 kj1 a0 t148 t149 t150 t151 t152 t153 true) else (if t152 < 0 then (gongref03_Parse.j1 kj1 a0 t148 t149 t150 t151 t152 t153 true) else (if t152 > 59 then (gongref03_Parse.j1 kj1 a0 t148 t149 t150 t151 t152 t153 true) else (if t153 < 0 then (gongref03_Parse.j1 kj1 a0 t148 t149 t150 t151 t152 t153 true) else (gongref03_Parse.j1 kj1 a0 t148 t149 t150 t151 t152 t153 (decide (t153 > 59))))))))))))))) else (none)) else (none)) = some (r1, r2) := H
                            have A33 := Aside0.mk A330
                            clear A330
                            by_cases c34 : 17 ≤ 19
                            · rw [if_pos c34] at H
                              have c34b0 := eq_true c34
                              have c34b1 : decide (17 ≤ 19) = true := decide_eq_true c34
                              clear c34
                              by_cases c35 : 19 ≤ (a0.size : Int)
                              · rw [if_pos c35] at H
                                have c35b0 := eq_true c35
                                have c35b1 : decide (19 ≤ (a0.size : Int)) = true := decide_eq_true c35
                                clear c35
                                replace H := Option.bind_eq_some_iff.mp H
                                obtain ⟨t153, A360, H⟩ := H
                                replace H : (if t148 < 0 then (gongref03_Parse.j1 kj1 a0 t148 t149 t150 t151 t152 t153 true) else (if t149 < 1 then (gongref03_Parse.j1 kj1 a0 t148 t149 t150 t151 t152 t153 true) else (if t149 > 12 then (gongref03_Parse.j1 kj1 a0 t148 t149 t150 t151 t152 t153 true) else (if t150 < 1 then (gongref03_Parse.j1 kj1 a0 t148 t149 t150 t151 t152 t153 true) else ((gongref03_days.f kj1 t148 t149).bind fun t154 => (if t150 > t154 then (gongref03_Parse.j1 kj1 a0 t148 t149 t150 t151 t152 t153 true) else (if t151 < 0 then (gongref03_Parse.j1 kj1 a0 t148 t149 t150 t151 t152 t153 true) else (if t151 > 23 then (gongref03_Parse.j1 kj1 a0 t148 t149 t150 t151 t152 t153 true) else (if t152 < 0 then (gongref03_Parse.j1 kj1 a0 t148 t149 t150 t151 t152 t153 true) else (if t152 > 59 then (gongref03_Parse.j1 kj1 a0 t148 t149 t150 t151 t152 t153 true) else (if t153 < 0 then (gongref03_Parse.j1 kj1 a0 t148 t149 t150 t151 t152 t153 true) else (gongref03_Parse.j1 kj1 a0 t148 t149 t150 t151 t152 t153 (decide (t153 > 59)))))))))))))) = some (r1, r2) := H
                                have A36 := Aside0.mk A360
                                clear A360
                                have HC37 := Aside0.mk H
                                clear H
                                go_upto_region 5 with (first | (go_at_call 44; (with_reducible refine (gongref03_Number.calls kj1 (a0.extract 0 4) t148 _ A21.out).mono ?_); rintro e w' ⟨rfl, ⟨nd, rfl⟩⟩; (try first | exact ⟨rfl, _, World.drewN_drewN _ _ _⟩ | exact ⟨rfl, _, Eq.trans (World.drewN_drewN _ _ _) (congrArg (World.drewN _) (Nat.add_assoc _ _ _))⟩)) | (go_at_call 44; (with_reducible refine (gongref03_Number.calls kj1 (a0.extract 5 7) t149 _ A24.out).mono ?_); rintro e w' ⟨rfl, ⟨nd, rfl⟩⟩; (try first | exact ⟨rfl, _, World.drewN_drewN _ _ _⟩ | exact ⟨rfl, _, Eq.trans (World.drewN_drewN _ _ _) (congrArg (World.drewN _) (Nat.add_assoc _ _ _))⟩)) | (go_at_call 44; (with_reducible refine (gongref03_Number.calls kj1 (a0.extract 8 10) t150 _ A27.out).mono ?_); rintro e w' ⟨rfl, ⟨nd, rfl⟩⟩; (try first | exact ⟨rfl, _, World.drewN_drewN _ _ _⟩ | exact ⟨rfl, _, Eq.trans (World.drewN_drewN _ _ _) (congrArg (World.drewN _) (Nat.add_assoc _ _ _))⟩)) | (go_at_call 44; (with_reducible refine (gongref03_Number.calls kj1 (a0.extract 11 13) t151 _ A30.out).mono ?_); rintro e w' ⟨rfl, ⟨nd, rfl⟩⟩; (try first | exact ⟨rfl, _, World.drewN_drewN _ _ _⟩ | exact ⟨rfl, _, Eq.trans (World.drewN_drewN _ _ _) (congrArg (World.drewN _) (Nat.add_assoc _ _ _))⟩)) | (go_at_call 44; (with_reducible refine (gongref03_Number.calls kj1 (a0.extract 14 16) t152 _ A33.out).mono ?_); rintro e w' ⟨rfl, ⟨nd, rfl⟩⟩; (try first | exact ⟨rfl, _, World.drewN_drewN _ _ _⟩ | exact ⟨rfl, _, Eq.trans (World.drewN_drewN _ _ _) (congrArg (World.drewN _) (Nat.add_assoc _ _ _))⟩)) | (go_at_call 44; (with_reducible refine (gongref03_Number.calls kj1 (a0.extract 17 19) t153 _ A36.out).mono ?_); rintro e w' ⟨rfl, ⟨nd, rfl⟩⟩; (try first | exact ⟨rfl, _, World.drewN_drewN _ _ _⟩ | exact ⟨rfl, _, Eq.trans (World.drewN_drewN _ _ _) (congrArg (World.drewN _) (Nat.add_assoc _ _ _))⟩)))
                                repeat (go_quiet (first | (go_at_call 44; (with_reducible refine (gongref03_Number.calls kj1 (a0.extract 0 4) t148 _ A21.out).mono ?_); rintro e w' ⟨rfl, ⟨nd, rfl⟩⟩; (try first | exact ⟨rfl, _, World.drewN_drewN _ _ _⟩ | exact ⟨rfl, _, Eq.trans (World.drewN_drewN _ _ _) (congrArg (World.drewN _) (Nat.add_assoc _ _ _))⟩)) | (go_at_call 44; (with_reducible refine (gongref03_Number.calls kj1 (a0.extract 5 7) t149 _ A24.out).mono ?_); rintro e w' ⟨rfl, ⟨nd, rfl⟩⟩; (try first | exact ⟨rfl, _, World.drewN_drewN _ _ _⟩ | exact ⟨rfl, _, Eq.trans (World.drewN_drewN _ _ _) (congrArg (World.drewN _) (Nat.add_assoc _ _ _))⟩)) | (go_at_call 44; (with_reducible refine (gongref03_Number.calls kj1 (a0.extract 8 10) t150 _ A27.out).mono ?_); rintro e w' ⟨rfl, ⟨nd, rfl⟩⟩; (try first | exact ⟨rfl, _, World.drewN_drewN _ _ _⟩ | exact ⟨rfl, _, Eq.trans (World.drewN_drewN _ _ _) (congrArg (World.drewN _) (Nat.add_assoc _ _ _))⟩)) | (go_at_call 44; (with_reducible refine (gongref03_Number.calls kj1 (a0.extract 11 13) t151 _ A30.out).mono ?_); rintro e w' ⟨rfl, ⟨nd, rfl⟩⟩; (try first | exact ⟨rfl, _, World.drewN_drewN _ _ _⟩ | exact ⟨rfl, _, Eq.trans (World.drewN_drewN _ _ _) (congrArg (World.drewN _) (Nat.add_assoc _ _ _))⟩)) | (go_at_call 44; (with_reducible refine (gongref03_Number.calls kj1 (a0.extract 14 16) t152 _ A33.out).mono ?_); rintro e w' ⟨rfl, ⟨nd, rfl⟩⟩; (try first | exact ⟨rfl, _, World.drewN_drewN _ _ _⟩ | exact ⟨rfl, _, Eq.trans (World.drewN_drewN _ _ _) (congrArg (World.drewN _) (Nat.add_assoc _ _ _))⟩)) | (go_at_call 44; (with_reducible refine (gongref03_Number.calls kj1 (a0.extract 17 19) t153 _ A36.out).mono ?_); rintro e w' ⟨rfl, ⟨nd, rfl⟩⟩; (try first | exact ⟨rfl, _, World.drewN_drewN _ _ _⟩ | exact ⟨rfl, _, Eq.trans (World.drewN_drewN _ _ _) (congrArg (World.drewN _) (Nat.add_assoc _ _ _))⟩))); go_upto_region 5 with (first | (go_at_call 44; (with_reducible refine (gongref03_Number.calls kj1 (a0.extract 0 4) t148 _ A21.out).mono ?_); rintro e w' ⟨rfl, ⟨nd, rfl⟩⟩; (try first | exact ⟨rfl, _, World.drewN_drewN _ _ _⟩ | exact ⟨rfl, _, Eq.trans (World.drewN_drewN _ _ _) (congrArg (World.drewN _) (Nat.add_assoc _ _ _))⟩)) | (go_at_call 44; (with_reducible refine (gongref03_Number.calls kj1 (a0.extract 5 7) t149 _ A24.out).mono ?_); rintro e w' ⟨rfl, ⟨nd, rfl⟩⟩; (try first | exact ⟨rfl, _, World.drewN_drewN _ _ _⟩ | exact ⟨rfl, _, Eq.trans (World.drewN_drewN _ _ _) (congrArg (World.drewN _) (Nat.add_assoc _ _ _))⟩)) | (go_at_call 44; (with_reducible refine (gongref03_Number.calls kj1 (a0.extract 8 10) t150 _ A27.out).mono ?_); rintro e w' ⟨rfl, ⟨nd, rfl⟩⟩; (try first | exact ⟨rfl, _, World.drewN_drewN _ _ _⟩ | exact ⟨rfl, _, Eq.trans (World.drewN_drewN _ _ _) (congrArg (World.drewN _) (Nat.add_assoc _ _ _))⟩)) | (go_at_call 44; (with_reducible refine (gongref03_Number.calls kj1 (a0.extract 11 13) t151 _ A30.out).mono ?_); rintro e w' ⟨rfl, ⟨nd, rfl⟩⟩; (try first | exact ⟨rfl, _, World.drewN_drewN _ _ _⟩ | exact ⟨rfl, _, Eq.trans (World.drewN_drewN _ _ _) (congrArg (World.drewN _) (Nat.add_assoc _ _ _))⟩)) | (go_at_call 44; (with_reducible refine (gongref03_Number.calls kj1 (a0.extract 14 16) t152 _ A33.out).mono ?_); rintro e w' ⟨rfl, ⟨nd, rfl⟩⟩; (try first | exact ⟨rfl, _, World.drewN_drewN _ _ _⟩ | exact ⟨rfl, _, Eq.trans (World.drewN_drewN _ _ _) (congrArg (World.drewN _) (Nat.add_assoc _ _ _))⟩)) | (go_at_call 44; (with_reducible refine (gongref03_Number.calls kj1 (a0.extract 17 19) t153 _ A36.out).mono ?_); rintro e w' ⟨rfl, ⟨nd, rfl⟩⟩; (try first | exact ⟨rfl, _, World.drewN_drewN _ _ _⟩ | exact ⟨rfl, _, Eq.trans (World.drewN_drewN _ _ _) (congrArg (World.drewN _) (Nat.add_assoc _ _ _))⟩))))
                                (try simp only [Act.put, List.setIfInBounds_toArray, List.set_cons_zero, List.set_cons_succ])
                                go_cut [107] (fun v107 wc => ∃ (kq : Nat) (x107_36 : Bool), v107 = .bool x107_36 ∧ Aside0 (gongref03_Parse.j1 kq a0 t148 t149 t150 t151 t152 t153 x107_36 = some (r1, r2)) ∧ Aside0 (kq ≤ kj1) ∧ Drawn0 w wc)
                                case first =>
                                  as_aux_lemma =>
                                  have H := HC37.out
                                  clear HC37
                                  by_cases c38 : t148 < 0
                                  · rw [if_pos c38] at H
                                    have c38b0 : decide (t148 < 0) = true := decide_eq_true c38
                                    clear c38
                                    (first | rw [c38b0] | (simp only [i64_w, i32_w]; rw [c38b0]) | skip)
                                    have H' := Aside0.mk H
                                    clear H
                                    go_wp2
                                    repeat (go_quiet (fail); try go_wp2)
                                    go_meet
                                    case rel => exact ⟨_, (true), (by first | rfl | (simp; done) | (simp [*]; done) | (simp [*]; exact isEmpty_bne _) | (simp; exact isEmpty_bne _)), H', ⟨by have := HJ1.out; first | omega | exact Nat.le_refl _⟩, by repeat (first | exact Drawn0.refl _ | apply Drawn0.step)⟩
                                  · rw [if_neg c38] at H
                                    have c38b0 : decide (t148 < 0) = false := decide_eq_false c38
                                    clear c38
                                    (first | rw [c38b0] | (simp only [i64_w, i32_w]; rw [c38b0]) | skip)
                                    by_cases c39 : t149 < 1
                                    · rw [if_pos c39] at H
                                      have c39b0 : decide (t149 < 1) = true := decide_eq_true c39
                                      clear c39
                                      have H' := Aside0.mk H
                                      clear H
                                      go_wp2
                                      repeat (go_quiet (fail); try go_wp2)
                                      go_meet
                                      case rel => exact ⟨_, (true), (by first | rfl | (simp; done) | (simp [*]; done) | (simp [*]; exact isEmpty_bne _) | (simp; exact isEmpty_bne _)), H', ⟨by have := HJ1.out; first | omega | exact Nat.le_refl _⟩, by repeat (first | exact Drawn0.refl _ | apply Drawn0.step)⟩
                                    · rw [if_neg c39] at H
                                      have c39b0 : decide (t149 < 1) = false := decide_eq_false c39
                                      clear c39
                                      by_cases c40 : t149 > 12
                                      · rw [if_pos c40] at H
                                        have c40b0 : decide (12 < t149) = true := decide_eq_true c40
                                        clear c40
                                        have H' := Aside0.mk H
                                        clear H
                                        go_wp2
                                        repeat (go_quiet (fail); try go_wp2)
                                        go_meet
                                        case rel => exact ⟨_, (true), (by first | rfl | (simp; done) | (simp [*]; done) | (simp [*]; exact isEmpty_bne _) | (simp; exact isEmpty_bne _)), H', ⟨by have := HJ1.out; first | omega | exact Nat.le_refl _⟩, by repeat (first | exact Drawn0.refl _ | apply Drawn0.step)⟩
                                      · rw [if_neg c40] at H
                                        have c40b0 : decide (12 < t149) = false := decide_eq_false c40
                                        clear c40
                                        by_cases c41 : t150 < 1
                                        · rw [if_pos c41] at H
                                          have c41b0 : decide (t150 < 1) = true := decide_eq_true c41
                                          clear c41
                                          have H' := Aside0.mk H
                                          clear H
                                          go_wp2
                                          repeat (go_quiet (fail); try go_wp2)
                                          go_meet
                                          case rel => exact ⟨_, (true), (by first | rfl | (simp; done) | (simp [*]; done) | (simp [*]; exact isEmpty_bne _) | (simp; exact isEmpty_bne _)), H', ⟨by have := HJ1.out; first | omega | exact Nat.le_refl _⟩, by repeat (first | exact Drawn0.refl _ | apply Drawn0.step)⟩
                                        · rw [if_neg c41] at H
                                          have c41b0 : decide (t150 < 1) = false := decide_eq_false c41
                                          clear c41
                                          replace H := Option.bind_eq_some_iff.mp H
                                          obtain ⟨t154, A420, H⟩ := H
                                          replace H : (if t150 > t154 then (gongref03_Parse.j1 kj1 a0 t148 t149 t150 t151 t152 t153 true) else (if t151 < 0 then (gongref03_Parse.j1 kj1 a0 t148 t149 t150 t151 t152 t153 true) else (if t151 > 23 then (gongref03_Parse.j1 kj1 a0 t148 t149 t150 t151 t152 t153 true) else (if t152 < 0 then (gongref03_Parse.j1 kj1 a0 t148 t149 t150 t151 t152 t153 true) else (if t152 > 59 then (gongref03_Parse.j1 kj1 a0 t148 t149 t150 t151 t152 t153 true) else (if t153 < 0 then (gongref03_Parse.j1 kj1 a0 t148 t149 t150 t151 t152 t153 true) else (gongref03_Parse.j1 kj1 a0 t148 t149 t150 t151 t152 t153 (decide (t153 > 59))))))))) = some (r1, r2) := H
                                          have A42 := Aside0.mk A420
                                          clear A420
                                          by_cases c43 : t150 > t154
                                          · rw [if_pos c43] at H
                                            have c43b0 : decide (t154 < t150) = true := decide_eq_true c43
                                            clear c43
                                            have H' := Aside0.mk H
                                            clear H
                                            go_wp2_with (first | (go_at_call 45; (with_reducible refine (gongref03_days.calls kj1 t148 t149 t154 _ A42.out).mono ?_); rintro e w' ⟨rfl, ⟨nd, rfl⟩⟩; (try first | exact ⟨rfl, _, World.drewN_drewN _ _ _⟩ | exact ⟨rfl, _, Eq.trans (World.drewN_drewN _ _ _) (congrArg (World.drewN _) (Nat.add_assoc _ _ _))⟩)))
                                            repeat (go_quiet (first | (go_at_call 45; (with_reducible refine (gongref03_days.calls kj1 t148 t149 t154 _ A42.out).mono ?_); rintro e w' ⟨rfl, ⟨nd, rfl⟩⟩; (try first | exact ⟨rfl, _, World.drewN_drewN _ _ _⟩ | exact ⟨rfl, _, Eq.trans (World.drewN_drewN _ _ _) (congrArg (World.drewN _) (Nat.add_assoc _ _ _))⟩))); try go_wp2_with (first | (go_at_call 45; (with_reducible refine (gongref03_days.calls kj1 t148 t149 t154 _ A42.out).mono ?_); rintro e w' ⟨rfl, ⟨nd, rfl⟩⟩; (try first | exact ⟨rfl, _, World.drewN_drewN _ _ _⟩ | exact ⟨rfl, _, Eq.trans (World.drewN_drewN _ _ _) (congrArg (World.drewN _) (Nat.add_assoc _ _ _))⟩))))
                                            go_meet
                                            case rel => exact ⟨_, (true), (by first | rfl | (simp; done) | (simp [*]; done) | (simp [*]; exact isEmpty_bne _) | (simp; exact isEmpty_bne _)), H', ⟨by have := HJ1.out; first | omega | exact Nat.le_refl _⟩, by repeat (first | exact Drawn0.refl _ | apply Drawn0.step)⟩
                                          · rw [if_neg c43] at H
                                            have c43b0 : decide (t154 < t150) = false := decide_eq_false c43
                                            clear c43
                                            by_cases c44 : t151 < 0
                                            · rw [if_pos c44] at H
                                              have c44b0 : decide (t151 < 0) = true := decide_eq_true c44
                                              clear c44
                                              have H' := Aside0.mk H
                                              clear H
                                              go_wp2_with (first | (go_at_call 45; (with_reducible refine (gongref03_days.calls kj1 t148 t149 t154 _ A42.out).mono ?_); rintro e w' ⟨rfl, ⟨nd, rfl⟩⟩; (try first | exact ⟨rfl, _, World.drewN_drewN _ _ _⟩ | exact ⟨rfl, _, Eq.trans (World.drewN_drewN _ _ _) (congrArg (World.drewN _) (Nat.add_assoc _ _ _))⟩)))
                                              repeat (go_quiet (first | (go_at_call 45; (with_reducible refine (gongref03_days.calls kj1 t148 t149 t154 _ A42.out).mono ?_); rintro e w' ⟨rfl, ⟨nd, rfl⟩⟩; (try first | exact ⟨rfl, _, World.drewN_drewN _ _ _⟩ | exact ⟨rfl, _, Eq.trans (World.drewN_drewN _ _ _) (congrArg (World.drewN _) (Nat.add_assoc _ _ _))⟩))); try go_wp2_with (first | (go_at_call 45; (with_reducible refine (gongref03_days.calls kj1 t148 t149 t154 _ A42.out).mono ?_); rintro e w' ⟨rfl, ⟨nd, rfl⟩⟩; (try first | exact ⟨rfl, _, World.drewN_drewN _ _ _⟩ | exact ⟨rfl, _, Eq.trans (World.drewN_drewN _ _ _) (congrArg (World.drewN _) (Nat.add_assoc _ _ _))⟩))))
                                              go_meet
                                              case rel => exact ⟨_, (true), (by first | rfl | (simp; done) | (simp [*]; done) | (simp [*]; exact isEmpty_bne _) | (simp; exact isEmpty_bne _)), H', ⟨by have := HJ1.out; first | omega | exact Nat.le_refl _⟩, by repeat (first | exact Drawn0.refl _ | apply Drawn0.step)⟩
                                            · rw [if_neg c44] at H
                                              have c44b0 : decide (t151 < 0) = false := decide_eq_false c44
                                              clear c44
                                              by_cases c45 : t151 > 23
                                              · rw [if_pos c45] at H
                                                have c45b0 : decide (23 < t151) = true := decide_eq_true c45
                                                clear c45
                                                have H' := Aside0.mk H
                                                clear H
                                                go_wp2_with (first | (go_at_call 45; (with_reducible refine (gongref03_days.calls kj1 t148 t149 t154 _ A42.out).mono ?_); rintro e w' ⟨rfl, ⟨nd, rfl⟩⟩; (try first | exact ⟨rfl, _, World.drewN_drewN _ _ _⟩ | exact ⟨rfl, _, Eq.trans (World.drewN_drewN _ _ _) (congrArg (World.drewN _) (Nat.add_assoc _ _ _))⟩)))
                                                repeat (go_quiet (first | (go_at_call 45; (with_reducible refine (gongref03_days.calls kj1 t148 t149 t154 _ A42.out).mono ?_); rintro e w' ⟨rfl, ⟨nd, rfl⟩⟩; (try first | exact ⟨rfl, _, World.drewN_drewN _ _ _⟩ | exact ⟨rfl, _, Eq.trans (World.drewN_drewN _ _ _) (congrArg (World.drewN _) (Nat.add_assoc _ _ _))⟩))); try go_wp2_with (first | (go_at_call 45; (with_reducible refine (gongref03_days.calls kj1 t148 t149 t154 _ A42.out).mono ?_); rintro e w' ⟨rfl, ⟨nd, rfl⟩⟩; (try first | exact ⟨rfl, _, World.drewN_drewN _ _ _⟩ | exact ⟨rfl, _, Eq.trans (World.drewN_drewN _ _ _) (congrArg (World.drewN _) (Nat.add_assoc _ _ _))⟩))))
                                                go_meet
                                                case rel => exact ⟨_, (true), (by first | rfl | (simp; done) | (simp [*]; done) | (simp [*]; exact isEmpty_bne _) | (simp; exact isEmpty_bne _)), H', ⟨by have := HJ1.out; first | omega | exact Nat.le_refl _⟩, by repeat (first | exact Drawn0.refl _ | apply Drawn0.step)⟩
                                              · rw [if_neg c45] at H
                                                have c45b0 : decide (23 < t151) = false := decide_eq_false c45
                                                clear c45
                                                by_cases c46 : t152 < 0
                                                · rw [if_pos c46] at H
                                                  have c46b0 : decide (t152 < 0) = true := decide_eq_true c46
                                                  clear c46
                                                  have H' := Aside0.mk H
                                                  clear H
                                                  go_wp2_with (first | (go_at_call 45; (with_reducible refine (gongref03_days.calls kj1 t148 t149 t154 _ A42.out).mono ?_); rintro e w' ⟨rfl, ⟨nd, rfl⟩⟩; (try first | exact ⟨rfl, _, World.drewN_drewN _ _ _⟩ | exact ⟨rfl, _, Eq.trans (World.drewN_drewN _ _ _) (congrArg (World.drewN _) (Nat.add_assoc _ _ _))⟩)))
                                                  repeat (go_quiet (first | (go_at_call 45; (with_reducible refine (gongref03_days.calls kj1 t148 t149 t154 _ A42.out).mono ?_); rintro e w' ⟨rfl, ⟨nd, rfl⟩⟩; (try first | exact ⟨rfl, _, World.drewN_drewN _ _ _⟩ | exact ⟨rfl, _, Eq.trans (World.drewN_drewN _ _ _) (congrArg (World.drewN _) (Nat.add_assoc _ _ _))⟩))); try go_wp2_with (first | (go_at_call 45; (with_reducible refine (gongref03_days.calls kj1 t148 t149 t154 _ A42.out).mono ?_); rintro e w' ⟨rfl, ⟨nd, rfl⟩⟩; (try first | exact ⟨rfl, _, World.drewN_drewN _ _ _⟩ | exact ⟨rfl, _, Eq.trans (World.drewN_drewN _ _ _) (congrArg (World.drewN _) (Nat.add_assoc _ _ _))⟩))))
                                                  go_meet
                                                  case rel => exact ⟨_, (true), (by first | rfl | (simp; done) | (simp [*]; done) | (simp [*]; exact isEmpty_bne _) | (simp; exact isEmpty_bne _)), H', ⟨by have := HJ1.out; first | omega | exact Nat.le_refl _⟩, by repeat (first | exact Drawn0.refl _ | apply Drawn0.step)⟩
                                                · rw [if_neg c46] at H
                                                  have c46b0 : decide (t152 < 0) = false := decide_eq_false c46
                                                  clear c46
                                                  by_cases c47 : t152 > 59
                                                  · rw [if_pos c47] at H
                                                    have c47b0 : decide (59 < t152) = true := decide_eq_true c47
                                                    clear c47
                                                    have H' := Aside0.mk H
                                                    clear H
                                                    go_wp2_with (first | (go_at_call 45; (with_reducible refine (gongref03_days.calls kj1 t148 t149 t154 _ A42.out).mono ?_); rintro e w' ⟨rfl, ⟨nd, rfl⟩⟩; (try first | exact ⟨rfl, _, World.drewN_drewN _ _ _⟩ | exact ⟨rfl, _, Eq.trans (World.drewN_drewN _ _ _) (congrArg (World.drewN _) (Nat.add_assoc _ _ _))⟩)))
                                                    repeat (go_quiet (first | (go_at_call 45; (with_reducible refine (gongref03_days.calls kj1 t148 t149 t154 _ A42.out).mono ?_); rintro e w' ⟨rfl, ⟨nd, rfl⟩⟩; (try first | exact ⟨rfl, _, World.drewN_drewN _ _ _⟩ | exact ⟨rfl, _, Eq.trans (World.drewN_drewN _ _ _) (congrArg (World.drewN _) (Nat.add_assoc _ _ _))⟩))); try go_wp2_with (first | (go_at_call 45; (with_reducible refine (gongref03_days.calls kj1 t148 t149 t154 _ A42.out).mono ?_); rintro e w' ⟨rfl, ⟨nd, rfl⟩⟩; (try first | exact ⟨rfl, _, World.drewN_drewN _ _ _⟩ | exact ⟨rfl, _, Eq.trans (World.drewN_drewN _ _ _) (congrArg (World.drewN _) (Nat.add_assoc _ _ _))⟩))))
                                                    go_meet
                                                    case rel => exact ⟨_, (true), (by first | rfl | (simp; done) | (simp [*]; done) | (simp [*]; exact isEmpty_bne _) | (simp; exact isEmpty_bne _)), H', ⟨by have := HJ1.out; first | omega | exact Nat.le_refl _⟩, by repeat (first | exact Drawn0.refl _ | apply Drawn0.step)⟩
                                                  · rw [if_neg c47] at H
                                                    have c47b0 : decide (59 < t152) = false := decide_eq_false c47
                                                    clear c47
                                                    by_cases c48 : t153 < 0
                                                    · rw [if_pos c48] at H
                                                      have c48b0 : decide (t153 < 0) = true := decide_eq_true c48
                                                      clear c48
                                                      have H' := Aside0.mk H
                                                      clear H
                                                      go_wp2_with (first | (go_at_call 45; (with_reducible refine (gongref03_days.calls kj1 t148 t149 t154 _ A42.out).mono ?_); rintro e w' ⟨rfl, ⟨nd, rfl⟩⟩; (try first | exact ⟨rfl, _, World.drewN_drewN _ _ _⟩ | exact ⟨rfl, _, Eq.trans (World.drewN_drewN _ _ _) (congrArg (World.drewN _) (Nat.add_assoc _ _ _))⟩)))
                                                      repeat (go_quiet (first | (go_at_call 45; (with_reducible refine (gongref03_days.calls kj1 t148 t149 t154 _ A42.out).mono ?_); rintro e w' ⟨rfl, ⟨nd, rfl⟩⟩; (try first | exact ⟨rfl, _, World.drewN_drewN _ _ _⟩ | exact ⟨rfl, _, Eq.trans (World.drewN_drewN _ _ _) (congrArg (World.drewN _) (Nat.add_assoc _ _ _))⟩))); try go_wp2_with (first | (go_at_call 45; (with_reducible refine (gongref03_days.calls kj1 t148 t149 t154 _ A42.out).mono ?_); rintro e w' ⟨rfl, ⟨nd, rfl⟩⟩; (try first | exact ⟨rfl, _, World.drewN_drewN _ _ _⟩ | exact ⟨rfl, _, Eq.trans (World.drewN_drewN _ _ _) (congrArg (World.drewN _) (Nat.add_assoc _ _ _))⟩))))
                                                      go_meet
                                                      case rel => exact ⟨_, (true), (by first | rfl | (simp; done) | (simp [*]; done) | (simp [*]; exact isEmpty_bne _) | (simp; exact isEmpty_bne _)), H', ⟨by have := HJ1.out; first | omega | exact Nat.le_refl _⟩, by repeat (first | exact Drawn0.refl _ | apply Drawn0.step)⟩
                                                    · rw [if_neg c48] at H
                                                      have c48b0 : decide (t153 < 0) = false := decide_eq_false c48
                                                      clear c48
                                                      have H' := Aside0.mk H
                                                      clear H
                                                      go_wp2_with (first | (go_at_call 45; (with_reducible refine (gongref03_days.calls kj1 t148 t149 t154 _ A42.out).mono ?_); rintro e w' ⟨rfl, ⟨nd, rfl⟩⟩; (try first | exact ⟨rfl, _, World.drewN_drewN _ _ _⟩ | exact ⟨rfl, _, Eq.trans (World.drewN_drewN _ _ _) (congrArg (World.drewN _) (Nat.add_assoc _ _ _))⟩)))
                                                      repeat (go_quiet (first | (go_at_call 45; (with_reducible refine (gongref03_days.calls kj1 t148 t149 t154 _ A42.out).mono ?_); rintro e w' ⟨rfl, ⟨nd, rfl⟩⟩; (try first | exact ⟨rfl, _, World.drewN_drewN _ _ _⟩ | exact ⟨rfl, _, Eq.trans (World.drewN_drewN _ _ _) (congrArg (World.drewN _) (Nat.add_assoc _ _ _))⟩))); try go_wp2_with (first | (go_at_call 45; (with_reducible refine (gongref03_days.calls kj1 t148 t149 t154 _ A42.out).mono ?_); rintro e w' ⟨rfl, ⟨nd, rfl⟩⟩; (try first | exact ⟨rfl, _, World.drewN_drewN _ _ _⟩ | exact ⟨rfl, _, Eq.trans (World.drewN_drewN _ _ _) (congrArg (World.drewN _) (Nat.add_assoc _ _ _))⟩))))
                                                      go_meet
                                                      case rel => exact ⟨_, (decide (t153 > 59)), (by first | rfl | (simp; done) | (simp [*]; done) | (simp [*]; exact isEmpty_bne _) | (simp; exact isEmpty_bne _)), H', ⟨by have := HJ1.out; first | omega | exact Nat.le_refl _⟩, by repeat (first | exact Drawn0.refl _ | apply Drawn0.step)⟩
                                case rest =>
                                  as_aux_lemma =>
                                  clear HC37
                                  try clear c1
                                  try clear p1
                                  try clear q1
                                  try clear hx1
                                  try clear qi1
                                  try clear c2
                                  try clear p2
                                  try clear c3
                                  try clear c3b0
                                  try clear c3b1
                                  try clear c4
                                  try clear c4b0
                                  try clear c4b1
                                  try clear p5
                                  try clear q5
                                  try clear hx5
                                  try clear qi5
                                  try clear c6
                                  try clear c6b0
                                  try clear c6b1
                                  try clear c7
                                  try clear c7b0
                                  try clear c7b1
                                  try clear p8
                                  try clear q8
                                  try clear hx8
                                  try clear qi8
                                  try clear c9
                                  try clear c9b0
                                  try clear c9b1
                                  try clear c10
                                  try clear c10b0
                                  try clear c10b1
                                  try clear p11
                                  try clear q11
                                  try clear hx11
                                  try clear qi11
                                  try clear c12
                                  try clear c12b0
                                  try clear c12b1
                                  try clear c13
                                  try clear c13b0
                                  try clear c13b1
                                  try clear c14
                                  try clear p14
                                  try clear q14
                                  try clear hx14
                                  try clear qi14
                                  try clear c15
                                  try clear c15b0
                                  try clear c15b1
                                  try clear c16
                                  try clear c16b0
                                  try clear c16b1
                                  try clear p17
                                  try clear q17
                                  try clear hx17
                                  try clear qi17
                                  try clear c18
                                  try clear c19
                                  try clear c19b0
                                  try clear c19b1
                                  try clear c20
                                  try clear c20b0
                                  try clear c20b1
                                  try clear c22
                                  try clear c22b0
                                  try clear c22b1
                                  try clear c23
                                  try clear c23b0
                                  try clear c23b1
                                  try clear c25
                                  try clear c25b0
                                  try clear c25b1
                                  try clear c26
                                  try clear c26b0
                                  try clear c26b1
                                  try clear c28
                                  try clear c28b0
                                  try clear c28b1
                                  try clear c29
                                  try clear c29b0
                                  try clear c29b1
                                  try clear c31
                                  try clear c31b0
                                  try clear c31b1
                                  try clear c32
                                  try clear c32b0
                                  try clear c32b1
                                  try clear c34
                                  try clear c34b0
                                  try clear c34b1
                                  try clear c35
                                  try clear c35b0
                                  try clear c35b1
                                  try clear c38
                                  try clear c38b0
                                  try clear c39
                                  try clear c39b0
                                  try clear c40
                                  try clear c40b0
                                  try clear c41
                                  try clear c41b0
                                  try clear c43
                                  try clear c43b0
                                  try clear c44
                                  try clear c44b0
                                  try clear c45
                                  try clear c45b0
                                  try clear c46
                                  try clear c46b0
                                  try clear c47
                                  try clear c47b0
                                  try clear c48
                                  try clear c48b0
                                  try clear p1
                                  try clear p11
                                  try clear p14
                                  try clear p17
                                  try clear p2
                                  try clear p5
                                  try clear p8
                                  try clear q1
                                  try clear q11
                                  try clear q14
                                  try clear q17
                                  try clear q5
                                  try clear q8
                                  obtain ⟨kq, x107_36, rfl, HA, HJ36, ⟨mc36, rfl⟩⟩ := hcut
                                  cases kq with
                                  | zero => exact absurd HA.out (by simp [gongref03_Parse.j1])
                                  | succ kj36 =>
                                    have H := HA.out
                                    clear HA
                                    simp only [gongref03_Parse.j1] at H
                                    by_cases c49 : x107_36 = true
                                    · subst c49
                                      have H1 : (some (0, 30)) = some (r1, r2) := by rw [if_pos rfl] at H; exact H
                                      clear H
                                      have H := H1
                                      clear H1
                                      simp only [Option.some.injEq, Prod.mk.injEq] at H
                                      obtain ⟨rfl, rfl⟩ := H
                                      go_wp2
                                      repeat (go_quiet (fail); try go_wp2)
                                      go_ret2
                                      exact ⟨by first | rfl | (simp; done) | (simp [*]; done), by repeat (first | exact Drawn0.refl _ | apply Drawn0.step)⟩
                                    · replace c49 := Bool.eq_false_iff.mpr c49
                                      subst c49
                                      have H1 : (if 19 ≤ (a0.size : Int) then ((gongref03_part.f kj36 (a0.extract 19 a0.size)).bind fun bt155 => ((gongref03_zone.f kj36 bt155.2.1).bind fun bt158 => (if bt155.2.2 = true then (if bt158.2 = true then (if t148 < 1969 then (gongref03_Parse.j2 kj36 t148 t149 t150 t151 t152 t153 bt155.1 bt158.1 true) else (gongref03_Parse.j2 kj36 t148 t149 t150 t151 t152 t153 bt155.1 bt158.1 (decide (t148 > 2100)))) else (gongref03_Parse.j2 kj36 t148 t149 t150 t151 t152 t153 bt155.1 bt158.1 true)) else (gongref03_Parse.j2 kj36 t148 t149 t150 t151 t152 t153 bt155.1 bt158.1 true)))) else (none)) = some (r1, r2) := by rw [if_neg (show ¬ (false = true) by decide)] at H; exact H
                                      clear H
                                      have H := H1
                                      clear H1
                                      by_cases c50 : 19 ≤ (a0.size : Int)
                                      · rw [if_pos c50] at H
                                        have c50b0 := eq_true c50
                                        have c50b1 : decide (19 ≤ (a0.size : Int)) = true := decide_eq_true c50
                                        clear c50
                                        replace H := Option.bind_eq_some_iff.mp H
                                        obtain ⟨⟨t155, t156, t157⟩, A510, H⟩ := H
                                        replace H : ((gongref03_zone.f kj36 t156).bind fun bt158 => (if t157 = true then (if bt158.2 = true then (if t148 < 1969 then (gongref03_Parse.j2 kj36 t148 t149 t150 t151 t152 t153 t155 bt158.1 true) else (gongref03_Parse.j2 kj36 t148 t149 t150 t151 t152 t153 t155 bt158.1 (decide (t148 > 2100)))) else (gongref03_Parse.j2 kj36 t148 t149 t150 t151 t152 t153 t155 bt158.1 true)) else (gongref03_Parse.j2 kj36 t148 t149 t150 t151 t152 t153 t155 bt158.1 true))) = some (r1, r2) := H
                                        have A51 := Aside0.mk A510
                                        clear A510
                                        replace H := Option.bind_eq_some_iff.mp H
                                        obtain ⟨⟨t158, t159⟩, A520, H⟩ := H
                                        replace H : (if t157 = true then (if t159 = true then (if t148 < 1969 then (gongref03_Parse.j2 kj36 t148 t149 t150 t151 t152 t153 t155 t158 true) else (gongref03_Parse.j2 kj36 t148 t149 t150 t151 t152 t153 t155 t158 (decide (t148 > 2100)))) else (gongref03_Parse.j2 kj36 t148 t149 t150 t151 t152 t153 t155 t158 true)) else (gongref03_Parse.j2 kj36 t148 t149 t150 t151 t152 t153 t155 t158 true)) = some (r1, r2) := H
                                        have A52 := Aside0.mk A520
                                        clear A520
                                        have HC53 := Aside0.mk H
                                        clear H
                                        go_upto_region 9 with (first | (go_at_call 46; (with_reducible refine (gongref03_part.calls kj36 (a0.extract 19 a0.size) t155 t156 t157 _ A51.out).mono ?_); rintro e w' ⟨rfl, ⟨nd, rfl⟩⟩; (try first | exact ⟨rfl, _, World.drewN_drewN _ _ _⟩ | exact ⟨rfl, _, Eq.trans (World.drewN_drewN _ _ _) (congrArg (World.drewN _) (Nat.add_assoc _ _ _))⟩)) | (go_at_call 47; (with_reducible refine (gongref03_zone.calls kj36 t156 t158 t159 _ A52.out).mono ?_); rintro e w' ⟨rfl, ⟨nd, rfl⟩⟩; (try first | exact ⟨rfl, _, World.drewN_drewN _ _ _⟩ | exact ⟨rfl, _, Eq.trans (World.drewN_drewN _ _ _) (congrArg (World.drewN _) (Nat.add_assoc _ _ _))⟩)))
                                        repeat (go_quiet (first | (go_at_call 46; (with_reducible refine (gongref03_part.calls kj36 (a0.extract 19 a0.size) t155 t156 t157 _ A51.out).mono ?_); rintro e w' ⟨rfl, ⟨nd, rfl⟩⟩; (try first | exact ⟨rfl, _, World.drewN_drewN _ _ _⟩ | exact ⟨rfl, _, Eq.trans (World.drewN_drewN _ _ _) (congrArg (World.drewN _) (Nat.add_assoc _ _ _))⟩)) | (go_at_call 47; (with_reducible refine (gongref03_zone.calls kj36 t156 t158 t159 _ A52.out).mono ?_); rintro e w' ⟨rfl, ⟨nd, rfl⟩⟩; (try first | exact ⟨rfl, _, World.drewN_drewN _ _ _⟩ | exact ⟨rfl, _, Eq.trans (World.drewN_drewN _ _ _) (congrArg (World.drewN _) (Nat.add_assoc _ _ _))⟩))); go_upto_region 9 with (first | (go_at_call 46; (with_reducible refine (gongref03_part.calls kj36 (a0.extract 19 a0.size) t155 t156 t157 _ A51.out).mono ?_); rintro e w' ⟨rfl, ⟨nd, rfl⟩⟩; (try first | exact ⟨rfl, _, World.drewN_drewN _ _ _⟩ | exact ⟨rfl, _, Eq.trans (World.drewN_drewN _ _ _) (congrArg (World.drewN _) (Nat.add_assoc _ _ _))⟩)) | (go_at_call 47; (with_reducible refine (gongref03_zone.calls kj36 t156 t158 t159 _ A52.out).mono ?_); rintro e w' ⟨rfl, ⟨nd, rfl⟩⟩; (try first | exact ⟨rfl, _, World.drewN_drewN _ _ _⟩ | exact ⟨rfl, _, Eq.trans (World.drewN_drewN _ _ _) (congrArg (World.drewN _) (Nat.add_assoc _ _ _))⟩))))
                                        (try simp only [Act.put, List.setIfInBounds_toArray, List.set_cons_zero, List.set_cons_succ])
                                        go_cut [133] (fun v133 wc => ∃ (kq : Nat) (x133_52 : Bool), v133 = .bool x133_52 ∧ Aside0 (gongref03_Parse.j2 kq t148 t149 t150 t151 t152 t153 t155 t158 x133_52 = some (r1, r2)) ∧ Aside0 (kq ≤ kj36) ∧ Drawn0 w wc)
                                        case first =>
                                          as_aux_lemma =>
                                          have H := HC53.out
                                          clear HC53
                                          by_cases c54 : t157 = true
                                          · subst c54
                                            have H1 : (if t159 = true then (if t148 < 1969 then (gongref03_Parse.j2 kj36 t148 t149 t150 t151 t152 t153 t155 t158 true) else (gongref03_Parse.j2 kj36 t148 t149 t150 t151 t152 t153 t155 t158 (decide (t148 > 2100)))) else (gongref03_Parse.j2 kj36 t148 t149 t150 t151 t152 t153 t155 t158 true)) = some (r1, r2) := by rw [if_pos rfl] at H; exact H
                                            clear H
                                            have H := H1
                                            clear H1
                                            by_cases c55 : t159 = true
                                            · subst c55
                                              have H1 : (if t148 < 1969 then (gongref03_Parse.j2 kj36 t148 t149 t150 t151 t152 t153 t155 t158 true) else (gongref03_Parse.j2 kj36 t148 t149 t150 t151 t152 t153 t155 t158 (decide (t148 > 2100)))) = some (r1, r2) := by rw [if_pos rfl] at H; exact H
                                              clear H
                                              have H := H1
                                              clear H1
                                              by_cases c56 : t148 < 1969
                                              · rw [if_pos c56] at H
                                                have c56b0 : decide (t148 < 1969) = true := decide_eq_true c56
                                                clear c56
                                                (first | rw [c56b0] | (simp only [i64_w, i32_w]; rw [c56b0]) | skip)
                                                have H' := Aside0.mk H
                                                clear H
                                                go_wp2
                                                repeat (go_quiet (fail); try go_wp2)
                                                go_meet
                                                case rel => exact ⟨_, (true), (by first | rfl | (simp; done) | (simp [*]; done) | (simp [*]; exact isEmpty_bne _) | (simp; exact isEmpty_bne _)), H', ⟨by have := HJ1.out; have := HJ36.out; first | omega | exact Nat.le_refl _⟩, by repeat (first | exact Drawn0.refl _ | apply Drawn0.step)⟩
                                              · rw [if_neg c56] at H
                                                have c56b0 : decide (t148 < 1969) = false := decide_eq_false c56
                                                clear c56
                                                (first | rw [c56b0] | (simp only [i64_w, i32_w]; rw [c56b0]) | skip)
                                                have H' := Aside0.mk H
                                                clear H
                                                go_wp2
                                                repeat (go_quiet (fail); try go_wp2)
                                                go_meet
                                                case rel => exact ⟨_, (decide (t148 > 2100)), (by first | rfl | (simp; done) | (simp [*]; done) | (simp [*]; exact isEmpty_bne _) | (simp; exact isEmpty_bne _)), H', ⟨by have := HJ1.out; have := HJ36.out; first | omega | exact Nat.le_refl _⟩, by repeat (first | exact Drawn0.refl _ | apply Drawn0.step)⟩
                                            · replace c55 := Bool.eq_false_iff.mpr c55
                                              subst c55
                                              have H1 : (gongref03_Parse.j2 kj36 t148 t149 t150 t151 t152 t153 t155 t158 true) = some (r1, r2) := by rw [if_neg (show ¬ (false = true) by decide)] at H; exact H
                                              clear H
                                              have H := H1
                                              clear H1
                                              have H' := Aside0.mk H
                                              clear H
                                              go_wp2
                                              repeat (go_quiet (fail); try go_wp2)
                                              go_meet
                                              case rel => exact ⟨_, (true), (by first | rfl | (simp; done) | (simp [*]; done) | (simp [*]; exact isEmpty_bne _) | (simp; exact isEmpty_bne _)), H', ⟨by have := HJ1.out; have := HJ36.out; first | omega | exact Nat.le_refl _⟩, by repeat (first | exact Drawn0.refl _ | apply Drawn0.step)⟩
                                          · replace c54 := Bool.eq_false_iff.mpr c54
                                            subst c54
                                            have H1 : (gongref03_Parse.j2 kj36 t148 t149 t150 t151 t152 t153 t155 t158 true) = some (r1, r2) := by rw [if_neg (show ¬ (false = true) by decide)] at H; exact H
                                            clear H
                                            have H := H1
                                            clear H1
                                            have H' := Aside0.mk H
                                            clear H
                                            go_wp2
                                            repeat (go_quiet (fail); try go_wp2)
                                            go_meet
                                            case rel => exact ⟨_, (true), (by first | rfl | (simp; done) | (simp [*]; done) | (simp [*]; exact isEmpty_bne _) | (simp; exact isEmpty_bne _)), H', ⟨by have := HJ1.out; have := HJ36.out; first | omega | exact Nat.le_refl _⟩, by repeat (first | exact Drawn0.refl _ | apply Drawn0.step)⟩
                                        case rest =>
                                          as_aux_lemma =>
                                          clear HC53
                                          try clear c1
                                          try clear p1
                                          try clear q1
                                          try clear hx1
                                          try clear qi1
                                          try clear c2
                                          try clear p2
                                          try clear c3
                                          try clear c3b0
                                          try clear c3b1
                                          try clear c4
                                          try clear c4b0
                                          try clear c4b1
                                          try clear c5
                                          try clear p5
                                          try clear q5
                                          try clear hx5
                                          try clear qi5
                                          try clear c6
                                          try clear c6b0
                                          try clear c6b1
                                          try clear c7
                                          try clear c7b0
                                          try clear c7b1
                                          try clear p8
                                          try clear q8
                                          try clear hx8
                                          try clear qi8
                                          try clear c9
                                          try clear c9b0
                                          try clear c9b1
                                          try clear c10
                                          try clear c10b0
                                          try clear c10b1
                                          try clear p11
                                          try clear q11
                                          try clear hx11
                                          try clear qi11
                                          try clear c12
                                          try clear c12b0
                                          try clear c12b1
                                          try clear c13
                                          try clear c13b0
                                          try clear c13b1
                                          try clear c14
                                          try clear p14
                                          try clear q14
                                          try clear hx14
                                          try clear qi14
                                          try clear c15
                                          try clear c15b0
                                          try clear c15b1
                                          try clear c16
                                          try clear c16b0
                                          try clear c16b1
                                          try clear p17
                                          try clear q17
                                          try clear hx17
                                          try clear qi17
                                          try clear c18
                                          try clear c19
                                          try clear c19b0
                                          try clear c19b1
                                          try clear c20
                                          try clear c20b0
                                          try clear c20b1
                                          try clear c22
                                          try clear c22b0
                                          try clear c22b1
                                          try clear c23
                                          try clear c23b0
                                          try clear c23b1
                                          try clear c25
                                          try clear c25b0
                                          try clear c25b1
                                          try clear c26
                                          try clear c26b0
                                          try clear c26b1
                                          try clear c28
                                          try clear c28b0
                                          try clear c28b1
                                          try clear c29
                                          try clear c29b0
                                          try clear c29b1
                                          try clear c31
                                          try clear c31b0
                                          try clear c31b1
                                          try clear c32
                                          try clear c32b0
                                          try clear c32b1
                                          try clear c34
                                          try clear c34b0
                                          try clear c34b1
                                          try clear c35
                                          try clear c35b0
                                          try clear c35b1
                                          try clear c36
                                          try clear c38
                                          try clear c38b0
                                          try clear c39
                                          try clear c39b0
                                          try clear c40
                                          try clear c40b0
                                          try clear c41
                                          try clear c41b0
                                          try clear c43
                                          try clear c43b0
                                          try clear c44
                                          try clear c44b0
                                          try clear c45
                                          try clear c45b0
                                          try clear c46
                                          try clear c46b0
                                          try clear c47
                                          try clear c47b0
                                          try clear c48
                                          try clear c48b0
                                          try clear c49
                                          try clear c50
                                          try clear c50b0
                                          try clear c50b1
                                          try clear c54
                                          try clear c55
                                          try clear c56
                                          try clear c56b0
                                          try clear p1
                                          try clear p11
                                          try clear p14
                                          try clear p17
                                          try clear p2
                                          try clear p5
                                          try clear p8
                                          try clear q1
                                          try clear q11
                                          try clear q14
                                          try clear q17
                                          try clear q5
                                          try clear q8
                                          obtain ⟨kq, x133_52, rfl, HA, HJ52, ⟨mc52, rfl⟩⟩ := hcut
                                          cases kq with
                                          | zero => exact absurd HA.out (by simp [gongref03_Parse.j2])
                                          | succ kj52 =>
                                            have H := HA.out
                                            clear HA
                                            simp only [gongref03_Parse.j2] at H
                                            by_cases c57 : x133_52 = true
                                            · subst c57
                                              have H1 : (some (0, 30)) = some (r1, r2) := by rw [if_pos rfl] at H; exact H
                                              clear H
                                              have H := H1
                                              clear H1
                                              simp only [Option.some.injEq, Prod.mk.injEq] at H
                                              obtain ⟨rfl, rfl⟩ := H
                                              go_wp2
                                              repeat (go_quiet (fail); try go_wp2)
                                              go_ret2
                                              exact ⟨by first | rfl | (simp; done) | (simp [*]; done), by repeat (first | exact Drawn0.refl _ | apply Drawn0.step)⟩
                                            · replace c57 := Bool.eq_false_iff.mpr c57
                                              subst c57
                                              have H1 : ((gongref03_past.f kj52 t148).bind fun t160 => (if t148 = 1969 then (gongref03_Parse.j3 kj52 t148 t149 t151 t152 t153 t155 t158 (wrap64 ((wrap64 (t150 - 1)) - 365))) else (gongref03_Parse.j3 kj52 t148 t149 t151 t152 t153 t155 t158 (wrap64 ((wrap64 (t160 + t150)) - 1))))) = some (r1, r2) := by rw [if_neg (show ¬ (false = true) by decide)] at H; exact H
                                              clear H
                                              have H := H1
                                              clear H1
                                              replace H := Option.bind_eq_some_iff.mp H
                                              obtain ⟨t160, A580, H⟩ := H
                                              replace H : (if t148 = 1969 then (gongref03_Parse.j3 kj52 t148 t149 t151 t152 t153 t155 t158 (wrap64 ((wrap64 (t150 - 1)) - 365))) else (gongref03_Parse.j3 kj52 t148 t149 t151 t152 t153 t155 t158 (wrap64 ((wrap64 (t160 + t150)) - 1)))) = some (r1, r2) := H
                                              have A58 := Aside0.mk A580
                                              clear A580
                                              have HC59 := Aside0.mk H
                                              clear H
                                              go_upto_if 140 with (first | (go_at_call 48; (with_reducible refine (gongref03_past.calls kj52 t148 t160 _ A58.out).mono ?_); rintro e w' ⟨rfl, ⟨nd, rfl⟩⟩; (try first | exact ⟨rfl, _, World.drewN_drewN _ _ _⟩ | exact ⟨rfl, _, Eq.trans (World.drewN_drewN _ _ _) (congrArg (World.drewN _) (Nat.add_assoc _ _ _))⟩)))
                                              repeat (go_quiet (first | (go_at_call 48; (with_reducible refine (gongref03_past.calls kj52 t148 t160 _ A58.out).mono ?_); rintro e w' ⟨rfl, ⟨nd, rfl⟩⟩; (try first | exact ⟨rfl, _, World.drewN_drewN _ _ _⟩ | exact ⟨rfl, _, Eq.trans (World.drewN_drewN _ _ _) (congrArg (World.drewN _) (Nat.add_assoc _ _ _))⟩))); go_upto_if 140 with (first | (go_at_call 48; (with_reducible refine (gongref03_past.calls kj52 t148 t160 _ A58.out).mono ?_); rintro e w' ⟨rfl, ⟨nd, rfl⟩⟩; (try first | exact ⟨rfl, _, World.drewN_drewN _ _ _⟩ | exact ⟨rfl, _, Eq.trans (World.drewN_drewN _ _ _) (congrArg (World.drewN _) (Nat.add_assoc _ _ _))⟩))))
                                              (try simp only [Act.put, List.setIfInBounds_toArray, List.set_cons_zero, List.set_cons_succ])
                                              go_cut [15] (fun v15 wc => ∃ (kq : Nat) (x15_58 : Int), v15 = .int .i64 x15_58 ∧ Aside0 (gongref03_Parse.j3 kq t148 t149 t151 t152 t153 t155 t158 x15_58 = some (r1, r2)) ∧ Aside0 (kq ≤ kj52) ∧ Drawn0 w wc)
                                              case first =>
                                                as_aux_lemma =>
                                                have H := HC59.out
                                                clear HC59
                                                by_cases c60 : t148 = 1969
                                                · rw [if_pos c60] at H
                                                  have c60b0 : (t148 == 1969) = true := beq_iff_eq.mpr c60
                                                  have c60b1 : (t148 != 1969) = false := bne_eq_false_iff_eq.mpr c60
                                                  clear c60
                                                  (first | rw [c60b0] | (simp only [i64_w, i32_w]; rw [c60b0]) | skip)
                                                  have H' := Aside0.mk H
                                                  clear H
                                                  go_wp2
                                                  repeat (go_quiet (fail); try go_wp2)
                                                  go_meet
                                                  case rel => exact ⟨_, (wrap64 ((wrap64 (t150 - 1)) - 365)), (by first | rfl | (simp; done) | (simp [*]; done) | (simp [*]; exact isEmpty_bne _) | (simp; exact isEmpty_bne _)), H', ⟨by have := HJ1.out; have := HJ36.out; have := HJ52.out; first | omega | exact Nat.le_refl _⟩, by repeat (first | exact Drawn0.refl _ | apply Drawn0.step)⟩
                                                · rw [if_neg c60] at H
                                                  have c60b0 : (t148 == 1969) = false := beq_eq_false_iff_ne.mpr c60
                                                  have c60b1 : (t148 != 1969) = true := bne_iff_ne.mpr c60
                                                  (first | rw [c60b0] | (simp only [i64_w, i32_w]; rw [c60b0]) | skip)
                                                  have H' := Aside0.mk H
                                                  clear H
                                                  go_wp2
                                                  repeat (go_quiet (fail); try go_wp2)
                                                  go_meet
                                                  case rel => exact ⟨_, (wrap64 ((wrap64 (t160 + t150)) - 1)), (by first | rfl | (simp; done) | (simp [*]; done) | (simp [*]; exact isEmpty_bne _) | (simp; exact isEmpty_bne _)), H', ⟨by have := HJ1.out; have := HJ36.out; have := HJ52.out; first | omega | exact Nat.le_refl _⟩, by repeat (first | exact Drawn0.refl _ | apply Drawn0.step)⟩
                                              case rest =>
                                                as_aux_lemma =>
                                                clear HC59
                                                try clear c1
                                                try clear p1
                                                try clear q1
                                                try clear hx1
                                                try clear qi1
                                                try clear c2
                                                try clear p2
                                                try clear c3
                                                try clear c3b0
                                                try clear c3b1
                                                try clear c4
                                                try clear c4b0
                                                try clear c4b1
                                                try clear c5
                                                try clear p5
                                                try clear q5
                                                try clear hx5
                                                try clear qi5
                                                try clear c6
                                                try clear c6b0
                                                try clear c6b1
                                                try clear p6
                                                try clear c7
                                                try clear c7b0
                                                try clear c7b1
                                                try clear p8
                                                try clear q8
                                                try clear hx8
                                                try clear qi8
                                                try clear c9
                                                try clear c9b0
                                                try clear c9b1
                                                try clear c10
                                                try clear c10b0
                                                try clear c10b1
                                                try clear p11
                                                try clear q11
                                                try clear hx11
                                                try clear qi11
                                                try clear c12
                                                try clear c12b0
                                                try clear c12b1
                                                try clear c13
                                                try clear c13b0
                                                try clear c13b1
                                                try clear c14
                                                try clear p14
                                                try clear q14
                                                try clear hx14
                                                try clear qi14
                                                try clear c15
                                                try clear c15b0
                                                try clear c15b1
                                                try clear c16
                                                try clear c16b0
                                                try clear c16b1
                                                try clear p17
                                                try clear q17
                                                try clear hx17
                                                try clear qi17
                                                try clear c18
                                                try clear c19
                                                try clear c19b0
                                                try clear c19b1
                                                try clear c20
                                                try clear c20b0
                                                try clear c20b1
                                                try clear c22
                                                try clear c22b0
                                                try clear c22b1
                                                try clear c23
                                                try clear c23b0
                                                try clear c23b1
                                                try clear c25
                                                try clear c25b0
                                                try clear c25b1
                                                try clear c26
                                                try clear c26b0
                                                try clear c26b1
                                                try clear c28
                                                try clear c28b0
                                                try clear c28b1
                                                try clear c29
                                                try clear c29b0
                                                try clear c29b1
                                                try clear c31
                                                try clear c31b0
                                                try clear c31b1
                                                try clear c32
                                                try clear c32b0
                                                try clear c32b1
                                                try clear c34
                                                try clear c34b0
                                                try clear c34b1
                                                try clear c35
                                                try clear c35b0
                                                try clear c35b1
                                                try clear c36
                                                try clear c38
                                                try clear c38b0
                                                try clear c39
                                                try clear c39b0
                                                try clear c40
                                                try clear c40b0
                                                try clear c41
                                                try clear c41b0
                                                try clear c43
                                                try clear c43b0
                                                try clear c44
                                                try clear c44b0
                                                try clear c45
                                                try clear c45b0
                                                try clear c46
                                                try clear c46b0
                                                try clear c47
                                                try clear c47b0
                                                try clear c48
                                                try clear c48b0
                                                try clear c49
                                                try clear c50
                                                try clear c50b0
                                                try clear c50b1
                                                try clear c52
                                                try clear c54
                                                try clear c55
                                                try clear c56
                                                try clear c56b0
                                                try clear c57
                                                try clear c60
                                                try clear c60b0
                                                try clear c60b1
                                                try clear p1
                                                try clear p11
                                                try clear p14
                                                try clear p17
                                                try clear p2
                                                try clear p5
                                                try clear p8
                                                try clear q1
                                                try clear q11
                                                try clear q14
                                                try clear q17
                                                try clear q5
                                                try clear q8
                                                obtain ⟨kq, x15_58, rfl, HA, HJ58, ⟨mc58, rfl⟩⟩ := hcut
                                                cases kq with
                                                | zero => exact absurd HA.out (by simp [gongref03_Parse.j3])
                                                | succ kj58 =>
                                                  have H := HA.out
                                                  clear HA
                                                  simp only [gongref03_Parse.j3] at H
                                                  have H' := Aside0.mk H
                                                  clear H
                                                  go_wp2
                                                  repeat (go_quiet (fail); try go_wp2)
                                                  go_loopg [15, 16] kj58 (fun kq v15 v16 w' => ∃ (x15_5 : Int) (x16_5 : Int), v15 = .int .i64 x15_5 ∧ v16 = .int .i64 x16_5 ∧ Aside0 (gongref03_Parse.l0 kq t148 t149 t151 t152 t153 t155 t158 x15_5 x16_5 = some (r1, r2)) ∧ Aside0 (kq ≤ kj58) ∧ Drawn0 w w')
                                                  case atStart => exact ⟨(x15_58), (1), (by first | rfl | (simp; done) | (simp [*]; done) | (simp [*]; exact isEmpty_bne _) | (simp; exact isEmpty_bne _)), (by first | rfl | (simp; done) | (simp [*]; done) | (simp [*]; exact isEmpty_bne _) | (simp; exact isEmpty_bne _)), H', ⟨Nat.le_refl _⟩, by repeat (first | exact Drawn0.refl _ | apply Drawn0.step)⟩
                                                  case round =>
                                                    clear H'
                                                    try clear c1
                                                    try clear p1
                                                    try clear q1
                                                    try clear hx1
                                                    try clear qi1
                                                    try clear c2
                                                    try clear p2
                                                    try clear c3
                                                    try clear c3b0
                                                    try clear c3b1
                                                    try clear c4
                                                    try clear c4b0
                                                    try clear c4b1
                                                    try clear c5
                                                    try clear p5
                                                    try clear q5
                                                    try clear hx5
                                                    try clear qi5
                                                    try clear c6
                                                    try clear c6b0
                                                    try clear c6b1
                                                    try clear p6
                                                    try clear c7
                                                    try clear c7b0
                                                    try clear c7b1
                                                    try clear p8
                                                    try clear q8
                                                    try clear hx8
                                                    try clear qi8
                                                    try clear c9
                                                    try clear c9b0
                                                    try clear c9b1
                                                    try clear c10
                                                    try clear c10b0
                                                    try clear c10b1
                                                    try clear p11
                                                    try clear q11
                                                    try clear hx11
                                                    try clear qi11
                                                    try clear c12
                                                    try clear c12b0
                                                    try clear c12b1
                                                    try clear c13
                                                    try clear c13b0
                                                    try clear c13b1
                                                    try clear c14
                                                    try clear p14
                                                    try clear q14
                                                    try clear hx14
                                                    try clear qi14
                                                    try clear c15
                                                    try clear c15b0
                                                    try clear c15b1
                                                    try clear c16
                                                    try clear c16b0
                                                    try clear c16b1
                                                    try clear p17
                                                    try clear q17
                                                    try clear hx17
                                                    try clear qi17
                                                    try clear c18
                                                    try clear c19
                                                    try clear c19b0
                                                    try clear c19b1
                                                    try clear c20
                                                    try clear c20b0
                                                    try clear c20b1
                                                    try clear c22
                                                    try clear c22b0
                                                    try clear c22b1
                                                    try clear c23
                                                    try clear c23b0
                                                    try clear c23b1
                                                    try clear c25
                                                    try clear c25b0
                                                    try clear c25b1
                                                    try clear c26
                                                    try clear c26b0
                                                    try clear c26b1
                                                    try clear c28
                                                    try clear c28b0
                                                    try clear c28b1
                                                    try clear c29
                                                    try clear c29b0
                                                    try clear c29b1
                                                    try clear c31
                                                    try clear c31b0
                                                    try clear c31b1
                                                    try clear c32
                                                    try clear c32b0
                                                    try clear c32b1
                                                    try clear c34
                                                    try clear c34b0
                                                    try clear c34b1
                                                    try clear c35
                                                    try clear c35b0
                                                    try clear c35b1
                                                    try clear c36
                                                    try clear c38
                                                    try clear c38b0
                                                    try clear c39
                                                    try clear c39b0
                                                    try clear c40
                                                    try clear c40b0
                                                    try clear c41
                                                    try clear c41b0
                                                    try clear c43
                                                    try clear c43b0
                                                    try clear c44
                                                    try clear c44b0
                                                    try clear c45
                                                    try clear c45b0
                                                    try clear c46
                                                    try clear c46b0
                                                    try clear c47
                                                    try clear c47b0
                                                    try clear c48
                                                    try clear c48b0
                                                    try clear c49
                                                    try clear c50
                                                    try clear c50b0
                                                    try clear c50b1
                                                    try clear c52
                                                    try clear c54
                                                    try clear c55
                                                    try clear c56
                                                    try clear c56b0
                                                    try clear c57
                                                    try clear c58
                                                    try clear c60
                                                    try clear c60b0
                                                    try clear c60b1
                                                    try clear p1
                                                    try clear p11
                                                    try clear p14
                                                    try clear p17
                                                    try clear p2
                                                    try clear p5
                                                    try clear p6
                                                    try clear p8
                                                    try clear q1
                                                    try clear q11
                                                    try clear q14
                                                    try clear q17
                                                    try clear q5
                                                    try clear q8
                                                    obtain ⟨x15_5, x16_5, rfl, rfl, HA, HK5, ⟨m5, rfl⟩⟩ := hrel
                                                    cases gk with
                                                    | zero => exact absurd HA.out (by simp [gongref03_Parse.l0])
                                                    | succ k5 =>
                                                      have H := HA.out
                                                      clear HA
                                                      simp only [gongref03_Parse.l0] at H
                                                      by_cases c61 : x16_5 < t149
                                                      · rw [if_pos c61] at H
                                                        have c61b0 : decide (x16_5 < t149) = true := decide_eq_true c61
                                                        clear c61
                                                        replace H := Option.bind_eq_some_iff.mp H
                                                        obtain ⟨t161, A620, H⟩ := H
                                                        replace H : (gongref03_Parse.l0 k5 t148 t149 t151 t152 t153 t155 t158 (wrap64 (x15_5 + t161)) (wrap64 (x16_5 + 1))) = some (r1, r2) := H
                                                        have A62 := Aside0.mk A620
                                                        clear A620
                                                        have H' := Aside0.mk H
                                                        clear H
                                                        go_wp2_with (first | (go_at_call 45; (with_reducible refine (gongref03_days.calls k5 t148 x16_5 t161 _ A62.out).mono ?_); rintro e w' ⟨rfl, ⟨nd, rfl⟩⟩; (try first | exact ⟨rfl, _, World.drewN_drewN _ _ _⟩ | exact ⟨rfl, _, Eq.trans (World.drewN_drewN _ _ _) (congrArg (World.drewN _) (Nat.add_assoc _ _ _))⟩)))
                                                        repeat (go_quiet (first | (go_at_call 45; (with_reducible refine (gongref03_days.calls k5 t148 x16_5 t161 _ A62.out).mono ?_); rintro e w' ⟨rfl, ⟨nd, rfl⟩⟩; (try first | exact ⟨rfl, _, World.drewN_drewN _ _ _⟩ | exact ⟨rfl, _, Eq.trans (World.drewN_drewN _ _ _) (congrArg (World.drewN _) (Nat.add_assoc _ _ _))⟩))); try go_wp2_with (first | (go_at_call 45; (with_reducible refine (gongref03_days.calls k5 t148 x16_5 t161 _ A62.out).mono ?_); rintro e w' ⟨rfl, ⟨nd, rfl⟩⟩; (try first | exact ⟨rfl, _, World.drewN_drewN _ _ _⟩ | exact ⟨rfl, _, Eq.trans (World.drewN_drewN _ _ _) (congrArg (World.drewN _) (Nat.add_assoc _ _ _))⟩))))
                                                        go_roundg k5
                                                        case measure => have := HJ1.out; have := HJ36.out; have := HJ52.out; have := HJ58.out; have := HK5.out; omega
                                                        case rel => exact ⟨(wrap64 (x15_5 + t161)), (wrap64 (x16_5 + 1)), (by first | rfl | (simp; done) | (simp [*]; done) | (simp [*]; exact isEmpty_bne _) | (simp; exact isEmpty_bne _)), (by first | rfl | (simp; done) | (simp [*]; done) | (simp [*]; exact isEmpty_bne _) | (simp; exact isEmpty_bne _)), H', ⟨by have := HJ1.out; have := HJ36.out; have := HJ52.out; have := HJ58.out; have := HK5.out; omega⟩, by repeat (first | exact Drawn0.refl _ | apply Drawn0.step)⟩
                                                      · rw [if_neg c61] at H
                                                        have c61b0 : decide (x16_5 < t149) = false := decide_eq_false c61
                                                        clear c61
                                                        have HC63 := Aside0.mk H
                                                        clear H
                                                        go_upto_region 19 with (fail)
                                                        repeat (go_quiet (fail); go_upto_region 19 with (fail))
                                                        go_cut [171] (fun v171 wc => ∃ (kq : Nat) (x171_62 : Bool), v171 = .bool x171_62 ∧ Aside0 (gongref03_Parse.j5 kq t155 (wrap64 ((wrap64 ((wrap64 (x15_5 * 86400)) + (wrap64 ((wrap64 ((wrap64 ((wrap64 (t151 * 60)) + t152)) - t158)) * 60)))) + t153)) x171_62 = some (r1, r2)) ∧ Aside0 (kq ≤ k5) ∧ Drawn0 w wc)
                                                        case first =>
                                                          as_aux_lemma =>
                                                          have H := HC63.out
                                                          clear HC63
                                                          by_cases c64 : (wrap64 ((wrap64 ((wrap64 (x15_5 * 86400)) + (wrap64 ((wrap64 ((wrap64 ((wrap64 (t151 * 60)) + t152)) - t158)) * 60)))) + t153)) < 0
                                                          · rw [if_pos c64] at H
                                                            have c64b0 : decide ((wrap64 ((wrap64 ((wrap64 (x15_5 * 86400)) + (wrap64 ((wrap64 ((wrap64 ((wrap64 (t151 * 60)) + t152)) - t158)) * 60)))) + t153)) < 0) = true := decide_eq_true c64
                                                            clear c64
                                                            (first | rw [c64b0] | (simp only [i64_w, i32_w]; rw [c64b0]) | skip)
                                                            have H' := Aside0.mk H
                                                            clear H
                                                            go_wp2
                                                            repeat (go_quiet (fail); try go_wp2)
                                                            go_meet
                                                            case rel => exact ⟨_, (true), (by first | rfl | (simp; done) | (simp [*]; done) | (simp [*]; exact isEmpty_bne _) | (simp; exact isEmpty_bne _)), H', ⟨by have := HJ1.out; have := HJ36.out; have := HJ52.out; have := HJ58.out; have := HK5.out; first | omega | exact Nat.le_refl _⟩, by repeat (first | exact Drawn0.refl _ | apply Drawn0.step)⟩
                                                          · rw [if_neg c64] at H
                                                            have c64b0 : decide ((wrap64 ((wrap64 ((wrap64 (x15_5 * 86400)) + (wrap64 ((wrap64 ((wrap64 ((wrap64 (t151 * 60)) + t152)) - t158)) * 60)))) + t153)) < 0) = false := decide_eq_false c64
                                                            clear c64
                                                            (first | rw [c64b0] | (simp only [i64_w, i32_w]; rw [c64b0]) | skip)
                                                            have H' := Aside0.mk H
                                                            clear H
                                                            go_wp2
                                                            repeat (go_quiet (fail); try go_wp2)
                                                            go_meet
                                                            case rel => exact ⟨_, (decide ((wrap64 ((wrap64 ((wrap64 (x15_5 * 86400)) + (wrap64 ((wrap64 ((wrap64 ((wrap64 (t151 * 60)) + t152)) - t158)) * 60)))) + t153)) > 2305843009)), (by first | rfl | (simp; done) | (simp [*]; done) | (simp [*]; exact isEmpty_bne _) | (simp; exact isEmpty_bne _)), H', ⟨by have := HJ1.out; have := HJ36.out; have := HJ52.out; have := HJ58.out; have := HK5.out; first | omega | exact Nat.le_refl _⟩, by repeat (first | exact Drawn0.refl _ | apply Drawn0.step)⟩
                                                        case rest =>
                                                          as_aux_lemma =>
                                                          clear HC63
                                                          try clear c1
                                                          try clear p1
                                                          try clear q1
                                                          try clear hx1
                                                          try clear qi1
                                                          try clear c2
                                                          try clear p2
                                                          try clear c3
                                                          try clear c3b0
                                                          try clear c3b1
                                                          try clear c4
                                                          try clear c4b0
                                                          try clear c4b1
                                                          try clear c5
                                                          try clear p5
                                                          try clear q5
                                                          try clear hx5
                                                          try clear qi5
                                                          try clear c6
                                                          try clear c6b0
                                                          try clear c6b1
                                                          try clear p6
                                                          try clear c7
                                                          try clear c7b0
                                                          try clear c7b1
                                                          try clear p8
                                                          try clear q8
                                                          try clear hx8
                                                          try clear qi8
                                                          try clear c9
                                                          try clear c9b0
                                                          try clear c9b1
                                                          try clear c10
                                                          try clear c10b0
                                                          try clear c10b1
                                                          try clear p11
                                                          try clear q11
                                                          try clear hx11
                                                          try clear qi11
                                                          try clear c12
                                                          try clear c12b0
                                                          try clear c12b1
                                                          try clear c13
                                                          try clear c13b0
                                                          try clear c13b1
                                                          try clear c14
                                                          try clear p14
                                                          try clear q14
                                                          try clear hx14
                                                          try clear qi14
                                                          try clear c15
                                                          try clear c15b0
                                                          try clear c15b1
                                                          try clear c16
                                                          try clear c16b0
                                                          try clear c16b1
                                                          try clear p17
                                                          try clear q17
                                                          try clear hx17
                                                          try clear qi17
                                                          try clear c18
                                                          try clear c19
                                                          try clear c19b0
                                                          try clear c19b1
                                                          try clear c20
                                                          try clear c20b0
                                                          try clear c20b1
                                                          try clear c22
                                                          try clear c22b0
                                                          try clear c22b1
                                                          try clear c23
                                                          try clear c23b0
                                                          try clear c23b1
                                                          try clear c25
                                                          try clear c25b0
                                                          try clear c25b1
                                                          try clear c26
                                                          try clear c26b0
                                                          try clear c26b1
                                                          try clear c28
                                                          try clear c28b0
                                                          try clear c28b1
                                                          try clear c29
                                                          try clear c29b0
                                                          try clear c29b1
                                                          try clear c31
                                                          try clear c31b0
                                                          try clear c31b1
                                                          try clear c32
                                                          try clear c32b0
                                                          try clear c32b1
                                                          try clear c34
                                                          try clear c34b0
                                                          try clear c34b1
                                                          try clear c35
                                                          try clear c35b0
                                                          try clear c35b1
                                                          try clear c36
                                                          try clear c38
                                                          try clear c38b0
                                                          try clear c39
                                                          try clear c39b0
                                                          try clear c40
                                                          try clear c40b0
                                                          try clear c41
                                                          try clear c41b0
                                                          try clear c43
                                                          try clear c43b0
                                                          try clear c44
                                                          try clear c44b0
                                                          try clear c45
                                                          try clear c45b0
                                                          try clear c46
                                                          try clear c46b0
                                                          try clear c47
                                                          try clear c47b0
                                                          try clear c48
                                                          try clear c48b0
                                                          try clear c49
                                                          try clear c50
                                                          try clear c50b0
                                                          try clear c50b1
                                                          try clear c52
                                                          try clear c54
                                                          try clear c55
                                                          try clear c56
                                                          try clear c56b0
                                                          try clear c57
                                                          try clear c58
                                                          try clear c60
                                                          try clear c60b0
                                                          try clear c60b1
                                                          try clear c61
                                                          try clear c61b0
                                                          try clear c64
                                                          try clear c64b0
                                                          try clear p64
                                                          try clear p1
                                                          try clear p11
                                                          try clear p14
                                                          try clear p17
                                                          try clear p2
                                                          try clear p5
                                                          try clear p6
                                                          try clear p8
                                                          try clear q1
                                                          try clear q11
                                                          try clear q14
                                                          try clear q17
                                                          try clear q5
                                                          try clear q8
                                                          obtain ⟨kq, x171_62, rfl, HA, HJ62, ⟨mc62, rfl⟩⟩ := hcut
                                                          cases kq with
                                                          | zero => exact absurd HA.out (by simp [gongref03_Parse.j5])
                                                          | succ kj62 =>
                                                            have H := HA.out
                                                            clear HA
                                                            simp only [gongref03_Parse.j5] at H
                                                            by_cases c65 : x171_62 = true
                                                            · subst c65
                                                              have H1 : (some (0, 30)) = some (r1, r2) := by rw [if_pos rfl] at H; exact H
                                                              clear H
                                                              have H := H1
                                                              clear H1
                                                              simp only [Option.some.injEq, Prod.mk.injEq] at H
                                                              obtain ⟨rfl, rfl⟩ := H
                                                              go_wp2
                                                              repeat (go_quiet (fail); try go_wp2)
                                                              go_ret2
                                                              exact ⟨by first | rfl | (simp; done) | (simp [*]; done), by repeat (first | exact Drawn0.refl _ | apply Drawn0.step)⟩
                                                            · replace c65 := Bool.eq_false_iff.mpr c65
                                                              subst c65
                                                              have H1 : (if (wrap64 ((wrap64 ((wrap64 ((wrap64 ((wrap64 (x15_5 * 86400)) + (wrap64 ((wrap64 ((wrap64 ((wrap64 (t151 * 60)) + t152)) - t158)) * 60)))) + t153)) * 1000000000)) + t155)) > 2305843009213693952 then (some (0, 30)) else (some (wrap64 ((wrap64 ((wrap64 ((wrap64 ((wrap64 (x15_5 * 86400)) + (wrap64 ((wrap64 ((wrap64 ((wrap64 (t151 * 60)) + t152)) - t158)) * 60)))) + t153)) * 1000000000)) + t155), 0))) = some (r1, r2) := by rw [if_neg (show ¬ (false = true) by decide)] at H; exact H
                                                              clear H
                                                              have H := H1
                                                              clear H1
                                                              by_cases c66 : (wrap64 ((wrap64 ((wrap64 ((wrap64 ((wrap64 (x15_5 * 86400)) + (wrap64 ((wrap64 ((wrap64 ((wrap64 (t151 * 60)) + t152)) - t158)) * 60)))) + t153)) * 1000000000)) + t155)) > 2305843009213693952
                                                              · rw [if_pos c66] at H
                                                                have c66b0 : decide (2305843009213693952 < (wrap64 ((wrap64 ((wrap64 ((wrap64 ((wrap64 (x15_5 * 86400)) + (wrap64 ((wrap64 ((wrap64 ((wrap64 (t151 * 60)) + t152)) - t158)) * 60)))) + t153)) * 1000000000)) + t155))) = true := decide_eq_true c66
                                                                clear c66
                                                                simp only [Option.some.injEq, Prod.mk.injEq] at H
                                                                obtain ⟨rfl, rfl⟩ := H
                                                                go_wp2
                                                                repeat (go_quiet (fail); try go_wp2)
                                                                go_ret2
                                                                exact ⟨by first | rfl | (simp; done) | (simp [*]; done), by repeat (first | exact Drawn0.refl _ | apply Drawn0.step)⟩
                                                              · rw [if_neg c66] at H
                                                                have c66b0 : decide (2305843009213693952 < (wrap64 ((wrap64 ((wrap64 ((wrap64 ((wrap64 (x15_5 * 86400)) + (wrap64 ((wrap64 ((wrap64 ((wrap64 (t151 * 60)) + t152)) - t158)) * 60)))) + t153)) * 1000000000)) + t155))) = false := decide_eq_false c66
                                                                clear c66
                                                                simp only [Option.some.injEq, Prod.mk.injEq] at H
                                                                obtain ⟨rfl, rfl⟩ := H
                                                                go_wp2
                                                                repeat (go_quiet (fail); try go_wp2)
                                                                go_ret2
                                                                exact ⟨by first | rfl | (simp; done) | (simp [*]; done), by repeat (first | exact Drawn0.refl _ | apply Drawn0.step)⟩
                                      · rw [if_neg c50] at H
                                        exact absurd H (by simp)
                              · rw [if_neg c35] at H
                                exact absurd H (by simp)
                            · rw [if_neg c34] at H
                              exact absurd H (by simp)
                          · rw [if_neg c32] at H
                            exact absurd H (by simp)
                        · rw [if_neg c31] at H
                          exact absurd H (by simp)
                      · rw [if_neg c29] at H
                        exact absurd H (by simp)
                    · rw [if_neg c28] at H
                      exact absurd H (by simp)
                  · rw [if_neg c26] at H
                    exact absurd H (by simp)
                · rw [if_neg c25] at H
                  exact absurd H (by simp)
              · rw [if_neg c23] at H
                exact absurd H (by simp)
            · rw [if_neg c22] at H
              exact absurd H (by simp)
          · rw [if_neg c20] at H
            exact absurd H (by simp)
        · rw [if_neg c19] at H
          exact absurd H (by simp)

end Go.Proofs.YtjcenencgnfffaaDoor.XStR
