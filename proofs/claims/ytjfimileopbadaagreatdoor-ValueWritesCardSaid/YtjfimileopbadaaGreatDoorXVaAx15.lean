-- Laid by extprint.py (the session's own driver): functions told by the kit's printer and by hand.
import Derived.Test.YtjfimileopbadaaGreatDoorXVaAx0
import Derived.Test.YtjfimileopbadaaGreatDoorXVaAx14
namespace Go.Proofs.YtjfimileopbadaaGreatDoor.XVaA
open Go.RowKit Gong Go.Proofs.YtjfimileopbadaaGreatDoorW.PrintWords Go.Proofs.YtjfimileopbadaaGreatDoorW.PrintLast Go.Proofs.YtjfimileopbadaaGreatDoorW.PrintMore
attribute [local go_sem] max2_int min2_int max_two min_two max_three min_three max_four min_four   -- for this text's walks alone
set_option linter.unusedVariables false
set_option linter.unusedSimpArgs false

/-! ### gongref04_Shown: function 78 -/
mutual
def gongref04_Shown.l0 : Nat → ByteArray → ByteArray → Int → Option (ByteArray)
  | 0, _, _, _ => none
  | k + 1, x0, x3, x4 => if x4 < (x0.size : Int) then (if 0 ≤ x4 then (if x4 ≤ (x0.size : Int) then ((gongref04_First.f k (x0.extract (x4 : Int).toNat x0.size)).bind fun bt265 => (if bt265.2.2 = 0 then (gongref04_Shown.j1 k x0 x3 x4 bt265.1 bt265.2.1 bt265.2.2) else (gongref04_Shown.j1 k x0 x3 x4 bt265.1 1 bt265.2.2))) else (none)) else (none)) else (some x3)
def gongref04_Shown.j1 : Nat → ByteArray → ByteArray → Int → Int → Int → Int → Option (ByteArray)
  | 0, _, _, _, _, _, _ => none
  | k + 1, x0, x3, x4, x5, x6, x7 => if x7 = 0 then (if x5 < 32 then (gongref04_Shown.j2 k x0 x3 x4 x5 x6 true) else (gongref04_Shown.j2 k x0 x3 x4 x5 x6 (x5 == 127))) else (gongref04_Shown.j2 k x0 x3 x4 x5 x6 true)
def gongref04_Shown.j2 : Nat → ByteArray → ByteArray → Int → Int → Int → Bool → Option (ByteArray)
  | 0, _, _, _, _, _, _ => none
  | k + 1, x0, x3, x4, x5, x6, x30 => if x30 = true then (if 0 ≤ x4 then (if x4 < (x0.size : Int) then ((gongref04_hex.f (bt x0 x4)).bind fun t268 => (if x3.size + t268.size ≤ 9223372036854775807 then (gongref04_Shown.l0 k x0 (x3 ++ t268) (wrap64 (x4 + x6))) else (none))) else (none)) else (none)) else (if x5 = 92 then (if x3.size + 2 ≤ 9223372036854775807 then (gongref04_Shown.l0 k x0 (x3 ++ (⟨#[92, 92]⟩ : ByteArray)) (wrap64 (x4 + x6))) else (none)) else (if 0 ≤ x4 then (if x4 ≤ (wrap64 (x4 + x6)) then (if (wrap64 (x4 + x6)) ≤ (x0.size : Int) then (if x3.size + (x0.extract (x4 : Int).toNat ((wrap64 (x4 + x6)) : Int).toNat).size ≤ 9223372036854775807 then (gongref04_Shown.l0 k x0 (x3 ++ (x0.extract (x4 : Int).toNat ((wrap64 (x4 + x6)) : Int).toNat)) (wrap64 (x4 + x6))) else (none)) else (none)) else (none)) else (none)))
end
def gongref04_Shown.f (k : Nat) (a0 : ByteArray) : Option (ByteArray) := gongref04_Shown.l0 k a0 (⟨#[]⟩ : ByteArray) 0
theorem gongref04_Shown.mono_l : ∀ k, (∀ y0 y1 y2, LeO (gongref04_Shown.l0 k y0 y1 y2) (gongref04_Shown.l0 (k + 1) y0 y1 y2)) ∧ (∀ y0 y1 y2 y3 y4 y5, LeO (gongref04_Shown.j1 k y0 y1 y2 y3 y4 y5) (gongref04_Shown.j1 (k + 1) y0 y1 y2 y3 y4 y5)) ∧ (∀ y0 y1 y2 y3 y4 y5, LeO (gongref04_Shown.j2 k y0 y1 y2 y3 y4 y5) (gongref04_Shown.j2 (k + 1) y0 y1 y2 y3 y4 y5))
  | 0 => ⟨fun _ _ _ r h => by simp [gongref04_Shown.l0] at h, fun _ _ _ _ _ _ r h => by simp [gongref04_Shown.j1] at h, fun _ _ _ _ _ _ r h => by simp [gongref04_Shown.j2] at h⟩
  | k + 1 => by
    obtain ⟨ih0, ih1, ih2⟩ := gongref04_Shown.mono_l k
    refine ⟨?_, ?_, ?_⟩
    · intro y0 y1 y2
      unfold gongref04_Shown.l0
      repeat' first
      | (with_reducible exact ih0 _ _ _)
      | (with_reducible exact ih1 _ _ _ _ _ _)
      | (with_reducible exact ih2 _ _ _ _ _ _)
      | (with_reducible exact gongref04_First.mono _ _)
      | (with_reducible exact LeO.refl _)
      | (with_reducible exact LeO.none _)
      | (with_reducible refine LeO.ite ?_ ?_)
      | (with_reducible refine LeO.bind ?_ (fun _ => ?_))
      | exact ih0 _ _ _
      | exact ih1 _ _ _ _ _ _
      | exact ih2 _ _ _ _ _ _
      | exact gongref04_First.mono _ _
      | exact LeO.none _
      | refine LeO.ite ?_ ?_
      | refine LeO.bind ?_ (fun _ => ?_)
    · intro y0 y1 y2 y3 y4 y5
      unfold gongref04_Shown.j1
      repeat' first
      | (with_reducible exact ih0 _ _ _)
      | (with_reducible exact ih1 _ _ _ _ _ _)
      | (with_reducible exact ih2 _ _ _ _ _ _)
      | (with_reducible exact gongref04_First.mono _ _)
      | (with_reducible exact LeO.refl _)
      | (with_reducible exact LeO.none _)
      | (with_reducible refine LeO.ite ?_ ?_)
      | (with_reducible refine LeO.bind ?_ (fun _ => ?_))
      | exact ih0 _ _ _
      | exact ih1 _ _ _ _ _ _
      | exact ih2 _ _ _ _ _ _
      | exact gongref04_First.mono _ _
      | exact LeO.none _
      | refine LeO.ite ?_ ?_
      | refine LeO.bind ?_ (fun _ => ?_)
    · intro y0 y1 y2 y3 y4 y5
      unfold gongref04_Shown.j2
      repeat' first
      | (with_reducible exact ih0 _ _ _)
      | (with_reducible exact ih1 _ _ _ _ _ _)
      | (with_reducible exact ih2 _ _ _ _ _ _)
      | (with_reducible exact gongref04_First.mono _ _)
      | (with_reducible exact LeO.refl _)
      | (with_reducible exact LeO.none _)
      | (with_reducible refine LeO.ite ?_ ?_)
      | (with_reducible refine LeO.bind ?_ (fun _ => ?_))
      | exact ih0 _ _ _
      | exact ih1 _ _ _ _ _ _
      | exact ih2 _ _ _ _ _ _
      | exact gongref04_First.mono _ _
      | exact LeO.none _
      | refine LeO.ite ?_ ?_
      | refine LeO.bind ?_ (fun _ => ?_)
theorem gongref04_Shown.mono : ∀ a0 k, LeO (gongref04_Shown.f k a0) (gongref04_Shown.f (k + 1) a0) := by
  intro a0 k
  obtain ⟨ih0, ih1, ih2⟩ := gongref04_Shown.mono_l k
  unfold gongref04_Shown.f
  repeat' first
      | (with_reducible exact ih0 _ _ _)
      | (with_reducible exact ih1 _ _ _ _ _ _)
      | (with_reducible exact ih2 _ _ _ _ _ _)
      | (with_reducible exact gongref04_First.mono _ _)
      | (with_reducible exact LeO.refl _)
      | (with_reducible exact LeO.none _)
      | (with_reducible refine LeO.ite ?_ ?_)
      | (with_reducible refine LeO.bind ?_ (fun _ => ?_))
      | exact ih0 _ _ _
      | exact ih1 _ _ _ _ _ _
      | exact ih2 _ _ _ _ _ _
      | exact gongref04_First.mono _ _
      | exact LeO.none _
      | refine LeO.ite ?_ ?_
      | refine LeO.bind ?_ (fun _ => ?_)
set_option maxHeartbeats 8000000 in
set_option maxRecDepth 100000 in
theorem gongref04_Shown.calls (k : Nat) (a0 : ByteArray) (r : ByteArray) (w : World) (h : gongref04_Shown.f k a0 = some r) :
    Calls Tryz.prog 78 #[.string a0] w fun e w' => e = .returned (.string r) ∧ Below w.heap.size w w' := by
  have HB := Aside0.mk (Below.refl w.heap.size w)
  have H : (gongref04_Shown.l0 k a0 (⟨#[]⟩ : ByteArray) 0) = some r := h
  clear h
  have H' := Aside0.mk H
  clear H
  go_enter Tryz.func78, Tryz.ntmps78
  go_wp2
  go_loopg [3, 4] k (fun kq v3 v4 w' => ∃ (x3_1 : ByteArray) (x4_1 : Int), v3 = .string x3_1 ∧ v4 = .int .i64 x4_1 ∧ Aside0 (gongref04_Shown.l0 kq a0 x3_1 x4_1 = some r) ∧ Aside0 (kq ≤ k) ∧ Aside0 (Below w.heap.size w w'))
  case atStart => exact ⟨((⟨#[]⟩ : ByteArray)), (0), (by first | rfl | (simp; done) | (simp [*]; done) | (simp [*]; exact isEmpty_bne _) | (simp; exact isEmpty_bne _)), (by first | rfl | (simp; done) | (simp [*]; done) | (simp [*]; exact isEmpty_bne _) | (simp; exact isEmpty_bne _)), H', ⟨Nat.le_refl _⟩, ⟨by repeat (first | (with_reducible first | exact HB.out | apply below_alloc | apply pw_below_drewN | apply below_drew1) | exact HB.out)⟩⟩
  case round =>
    clear H'
    obtain ⟨x3_1, x4_1, rfl, rfl, HA, HK1, HB⟩ := hrel
    cases gk with
    | zero => exact absurd HA.out (by simp [gongref04_Shown.l0])
    | succ k1 =>
      have H := HA.out
      clear HA
      simp only [gongref04_Shown.l0] at H
      by_cases c2 : x4_1 < (a0.size : Int)
      · rw [if_pos c2] at H
        have c2b0 : decide (x4_1 < (a0.size : Int)) = true := decide_eq_true c2
        clear c2
        by_cases c3 : 0 ≤ x4_1
        · rw [if_pos c3] at H
          have c3b0 := eq_true c3
          have c3b1 : decide (0 ≤ x4_1) = true := decide_eq_true c3
          clear c3
          by_cases c4 : x4_1 ≤ (a0.size : Int)
          · rw [if_pos c4] at H
            have c4b0 := eq_true c4
            have c4b1 : decide (x4_1 ≤ (a0.size : Int)) = true := decide_eq_true c4
            clear c4
            replace H := Option.bind_eq_some_iff.mp H
            obtain ⟨⟨t265, t266, t267⟩, A50, H⟩ := H
            replace H : (if t267 = 0 then (gongref04_Shown.j1 k1 a0 x3_1 x4_1 t265 t266 t267) else (gongref04_Shown.j1 k1 a0 x3_1 x4_1 t265 1 t267)) = some r := H
            have A5 := Aside0.mk A50
            clear A50
            have HC6 := Aside0.mk H
            clear H
            go_upto_if 21 with (first | ((with_reducible refine gate_callee (f := 113) rfl ?_); refine goesL_ (some 16) rfl rfl Tryz.func113 (by kernel_rfl) rfl #[.string (a0.extract (x4_1 : Int).toNat a0.size)] rfl (by (try simp only [List.map_toArray, List.map_cons, List.map_nil]); first | done | rfl | (simp only [List.length_drop, List.length_take]; rfl)) ?_; (with_reducible refine (gongref04_First.calls k1 (a0.extract (x4_1 : Int).toNat a0.size) t265 t266 t267 _ A5.out).mono ?_); rintro e w7 ⟨rfl, hb⟩; refine ⟨_, rfl, ?_⟩; have n0_ := Aside0.mk (below_step (by repeat (first | (with_reducible first | exact HB.out | apply below_alloc | apply pw_below_drewN | apply below_drew1) | exact HB.out)) hb); clear HB; have HB := n0_; clear n0_; (try clear hb); (try clear hb2); (try clear hk); (try clear hi)))
            (try simp only [Act.put, List.setIfInBounds_toArray, List.set_cons_zero, List.set_cons_succ])
            go_cut [6] (fun v6 wc => ∃ (kq : Nat) (x6_5 : Int), v6 = .int .i64 x6_5 ∧ Aside0 (gongref04_Shown.j1 kq a0 x3_1 x4_1 t265 x6_5 t267 = some r) ∧ Aside0 (kq ≤ k1) ∧ Aside0 (Below w.heap.size w wc))
            case first =>
              have H := HC6.out
              clear HC6
              by_cases c8 : t267 = 0
              · rw [if_pos c8] at H
                have c8b0 : (t267 == 0) = true := beq_iff_eq.mpr c8
                have c8b1 : (t267 != 0) = false := bne_eq_false_iff_eq.mpr c8
                clear c8
                (first | rw [c8b0] | (simp only [i64_w, i32_w]; rw [c8b0]) | skip)
                have H' := Aside0.mk H
                clear H
                go_wp2
                go_meet
                case rel => exact ⟨_, (t266), (by first | rfl | (simp; done) | (simp [*]; done) | (simp [*]; exact isEmpty_bne _) | (simp; exact isEmpty_bne _)), H', ⟨by have := HK1.out; first | omega | exact Nat.le_refl _⟩, ⟨by repeat (first | (with_reducible first | exact HB.out | apply below_alloc | apply pw_below_drewN | apply below_drew1) | exact HB.out)⟩⟩
              · rw [if_neg c8] at H
                have c8b0 : (t267 == 0) = false := beq_eq_false_iff_ne.mpr c8
                have c8b1 : (t267 != 0) = true := bne_iff_ne.mpr c8
                (first | rw [c8b0] | (simp only [i64_w, i32_w]; rw [c8b0]) | skip)
                have H' := Aside0.mk H
                clear H
                go_wp2
                go_meet
                case rel => exact ⟨_, (1), (by first | rfl | (simp; done) | (simp [*]; done) | (simp [*]; exact isEmpty_bne _) | (simp; exact isEmpty_bne _)), H', ⟨by have := HK1.out; first | omega | exact Nat.le_refl _⟩, ⟨by repeat (first | (with_reducible first | exact HB.out | apply below_alloc | apply pw_below_drewN | apply below_drew1) | exact HB.out)⟩⟩
            case rest =>
              clear HC6
              try clear c1
              try clear c2
              try clear c2b0
              try clear p2
              try clear c3
              try clear c3b0
              try clear c3b1
              try clear c4
              try clear c4b0
              try clear c4b1
              try clear c7
              try clear c8
              try clear c8b0
              try clear c8b1
              obtain ⟨kq, x6_5, rfl, HA, HJ5, HB⟩ := hcut
              cases kq with
              | zero => exact absurd HA.out (by simp [gongref04_Shown.j1])
              | succ kj5 =>
                have H := HA.out
                clear HA
                simp only [gongref04_Shown.j1] at H
                have HC9 := Aside0.mk H
                clear H
                go_upto_region 8 with (fail)
                go_cut [30] (fun v30 wc => ∃ (kq : Nat) (x30_8 : Bool), v30 = .bool x30_8 ∧ Aside0 (gongref04_Shown.j2 kq a0 x3_1 x4_1 t265 x6_5 x30_8 = some r) ∧ Aside0 (kq ≤ kj5) ∧ Aside0 (Below w.heap.size w wc))
                case first =>
                  have H := HC9.out
                  clear HC9
                  by_cases c10 : t267 = 0
                  · rw [if_pos c10] at H
                    have c10b0 : (t267 == 0) = true := beq_iff_eq.mpr c10
                    have c10b1 : (t267 != 0) = false := bne_eq_false_iff_eq.mpr c10
                    clear c10
                    (first | rw [c10b0] | (simp only [i64_w, i32_w]; rw [c10b0]) | skip)
                    by_cases c11 : t265 < 32
                    · rw [if_pos c11] at H
                      have c11b0 : decide (t265 < 32) = true := decide_eq_true c11
                      clear c11
                      have H' := Aside0.mk H
                      clear H
                      go_wp2
                      go_meet
                      case rel => exact ⟨_, (true), (by first | rfl | (simp; done) | (simp [*]; done) | (simp [*]; exact isEmpty_bne _) | (simp; exact isEmpty_bne _)), H', ⟨by have := HK1.out; have := HJ5.out; first | omega | exact Nat.le_refl _⟩, ⟨by repeat (first | (with_reducible first | exact HB.out | apply below_alloc | apply pw_below_drewN | apply below_drew1) | exact HB.out)⟩⟩
                    · rw [if_neg c11] at H
                      have c11b0 : decide (t265 < 32) = false := decide_eq_false c11
                      clear c11
                      have H' := Aside0.mk H
                      clear H
                      go_wp2
                      go_meet
                      case rel => exact ⟨_, ((t265 == 127)), (by first | rfl | (simp; done) | (simp [*]; done) | (simp [*]; exact isEmpty_bne _) | (simp; exact isEmpty_bne _)), H', ⟨by have := HK1.out; have := HJ5.out; first | omega | exact Nat.le_refl _⟩, ⟨by repeat (first | (with_reducible first | exact HB.out | apply below_alloc | apply pw_below_drewN | apply below_drew1) | exact HB.out)⟩⟩
                  · rw [if_neg c10] at H
                    have c10b0 : (t267 == 0) = false := beq_eq_false_iff_ne.mpr c10
                    have c10b1 : (t267 != 0) = true := bne_iff_ne.mpr c10
                    (first | rw [c10b0] | (simp only [i64_w, i32_w]; rw [c10b0]) | skip)
                    have H' := Aside0.mk H
                    clear H
                    go_wp2
                    go_meet
                    case rel => exact ⟨_, (true), (by first | rfl | (simp; done) | (simp [*]; done) | (simp [*]; exact isEmpty_bne _) | (simp; exact isEmpty_bne _)), H', ⟨by have := HK1.out; have := HJ5.out; first | omega | exact Nat.le_refl _⟩, ⟨by repeat (first | (with_reducible first | exact HB.out | apply below_alloc | apply pw_below_drewN | apply below_drew1) | exact HB.out)⟩⟩
                case rest =>
                  clear HC9
                  try clear c1
                  try clear c2
                  try clear c2b0
                  try clear p2
                  try clear c3
                  try clear c3b0
                  try clear c3b1
                  try clear c4
                  try clear c4b0
                  try clear c4b1
                  try clear c7
                  try clear c8
                  try clear c8b0
                  try clear c8b1
                  try clear c10
                  try clear c10b0
                  try clear c10b1
                  try clear c11
                  try clear c11b0
                  try clear p2
                  obtain ⟨kq, x30_8, rfl, HA, HJ8, HB⟩ := hcut
                  cases kq with
                  | zero => exact absurd HA.out (by simp [gongref04_Shown.j2])
                  | succ kj8 =>
                    have H := HA.out
                    clear HA
                    simp only [gongref04_Shown.j2] at H
                    by_cases c12 : x30_8 = true
                    · subst c12
                      have H1 : (if 0 ≤ x4_1 then (if x4_1 < (a0.size : Int) then ((gongref04_hex.f (bt a0 x4_1)).bind fun t268 => (if x3_1.size + t268.size ≤ 9223372036854775807 then (gongref04_Shown.l0 kj8 a0 (x3_1 ++ t268) (wrap64 (x4_1 + x6_5))) else (none))) else (none)) else (none)) = some r := by rw [if_pos rfl] at H; exact H
                      clear H
                      have H := H1
                      clear H1
                      by_cases c13 : 0 ≤ x4_1
                      · rw [if_pos c13] at H
                        have c13b0 : decide (0 ≤ x4_1) = true := decide_eq_true c13
                        clear c13
                        by_cases c14 : x4_1 < (a0.size : Int)
                        · rw [if_pos c14] at H
                          have c14b0 : decide (x4_1 < (a0.size : Int)) = true := decide_eq_true c14
                          clear c14
                          replace H := Option.bind_eq_some_iff.mp H
                          obtain ⟨t268, A160, H⟩ := H
                          replace H : (if x3_1.size + t268.size ≤ 9223372036854775807 then (gongref04_Shown.l0 kj8 a0 (x3_1 ++ t268) (wrap64 (x4_1 + x6_5))) else (none)) = some r := H
                          have A16 := Aside0.mk A160
                          clear A160
                          by_cases c17 : x3_1.size + t268.size ≤ 9223372036854775807
                          · rw [if_pos c17] at H
                            have c17b0 := eq_true c17
                            have c17b1 : decide (x3_1.size + t268.size ≤ 9223372036854775807) = true := decide_eq_true c17
                            try have c17b2 : (9223372036854775807 < x3_1.size + t268.size) = False := eq_false (Nat.not_lt.2 c17)
                            have H' := Aside0.mk H
                            clear H
                            have p15 : 0 ≤ (x4_1 : Int) := of_decide_eq_true (by first | (with_reducible assumption) | assumption)
                            have q15 : x4_1 < (a0.size : Int) := of_decide_eq_true (by first | (with_reducible assumption) | assumption)
                            have hx15 := bt_at a0 x4_1
                            replace p15 := eq_true p15
                            replace q15 := eq_true q15
                            go_wp2_with (first | ((with_reducible refine gate_callee (f := 114) rfl ?_); refine goesL_ (some 45) rfl rfl Tryz.func114 (by kernel_rfl) rfl #[.int .u8 (bt a0 x4_1)] rfl (by (try simp only [List.map_toArray, List.map_cons, List.map_nil]); first | done | rfl | (simp only [List.length_drop, List.length_take]; rfl)) ?_; (with_reducible refine (gongref04_hex.calls (bt a0 x4_1) t268 _ A16.out).mono ?_); rintro e w' ⟨rfl, ⟨nd, rfl⟩⟩; refine ⟨_, rfl, ?_⟩))
                            go_roundg kj8
                            case measure => have := HK1.out; have := HJ5.out; have := HJ8.out; omega
                            case rel => exact ⟨(x3_1 ++ t268), (wrap64 (x4_1 + x6_5)), (by first | rfl | (simp; done) | (simp [*]; done) | (simp [*]; exact isEmpty_bne _) | (simp; exact isEmpty_bne _)), (by first | rfl | (simp; done) | (simp [*]; done) | (simp [*]; exact isEmpty_bne _) | (simp; exact isEmpty_bne _)), H', ⟨by have := HK1.out; have := HJ5.out; have := HJ8.out; omega⟩, ⟨by repeat (first | (with_reducible first | exact HB.out | apply below_alloc | apply pw_below_drewN | apply below_drew1) | exact HB.out)⟩⟩
                          · rw [if_neg c17] at H
                            exact absurd H (by simp)
                        · rw [if_neg c14] at H
                          exact absurd H (by simp)
                      · rw [if_neg c13] at H
                        exact absurd H (by simp)
                    · replace c12 := Bool.eq_false_iff.mpr c12
                      subst c12
                      have H1 : (if t265 = 92 then (if x3_1.size + 2 ≤ 9223372036854775807 then (gongref04_Shown.l0 kj8 a0 (x3_1 ++ (⟨#[92, 92]⟩ : ByteArray)) (wrap64 (x4_1 + x6_5))) else (none)) else (if 0 ≤ x4_1 then (if x4_1 ≤ (wrap64 (x4_1 + x6_5)) then (if (wrap64 (x4_1 + x6_5)) ≤ (a0.size : Int) then (if x3_1.size + (a0.extract (x4_1 : Int).toNat ((wrap64 (x4_1 + x6_5)) : Int).toNat).size ≤ 9223372036854775807 then (gongref04_Shown.l0 kj8 a0 (x3_1 ++ (a0.extract (x4_1 : Int).toNat ((wrap64 (x4_1 + x6_5)) : Int).toNat)) (wrap64 (x4_1 + x6_5))) else (none)) else (none)) else (none)) else (none))) = some r := by rw [if_neg (show ¬ (false = true) by decide)] at H; exact H
                      clear H
                      have H := H1
                      clear H1
                      by_cases c18 : t265 = 92
                      · rw [if_pos c18] at H
                        have c18b0 : (t265 == 92) = true := beq_iff_eq.mpr c18
                        have c18b1 : (t265 != 92) = false := bne_eq_false_iff_eq.mpr c18
                        clear c18
                        by_cases c19 : x3_1.size + 2 ≤ 9223372036854775807
                        · rw [if_pos c19] at H
                          have c19b0 := eq_true c19
                          have c19b1 : decide (x3_1.size + 2 ≤ 9223372036854775807) = true := decide_eq_true c19
                          try have c19b2 : (9223372036854775807 < x3_1.size + 2) = False := eq_false (Nat.not_lt.2 c19)
                          have H' := Aside0.mk H
                          clear H
                          go_wp2
                          go_roundg kj8
                          case measure => have := HK1.out; have := HJ5.out; have := HJ8.out; omega
                          case rel => exact ⟨(x3_1 ++ (⟨#[92, 92]⟩ : ByteArray)), (wrap64 (x4_1 + x6_5)), (by first | rfl | (simp; done) | (simp [*]; done) | (simp [*]; exact isEmpty_bne _) | (simp; exact isEmpty_bne _)), (by first | rfl | (simp; done) | (simp [*]; done) | (simp [*]; exact isEmpty_bne _) | (simp; exact isEmpty_bne _)), H', ⟨by have := HK1.out; have := HJ5.out; have := HJ8.out; omega⟩, ⟨by repeat (first | (with_reducible first | exact HB.out | apply below_alloc | apply pw_below_drewN | apply below_drew1) | exact HB.out)⟩⟩
                        · rw [if_neg c19] at H
                          exact absurd H (by simp)
                      · rw [if_neg c18] at H
                        have c18b0 : (t265 == 92) = false := beq_eq_false_iff_ne.mpr c18
                        have c18b1 : (t265 != 92) = true := bne_iff_ne.mpr c18
                        by_cases c20 : 0 ≤ x4_1
                        · rw [if_pos c20] at H
                          have c20b0 := eq_true c20
                          have c20b1 : decide (0 ≤ x4_1) = true := decide_eq_true c20
                          clear c20
                          by_cases c21 : x4_1 ≤ (wrap64 (x4_1 + x6_5))
                          · rw [if_pos c21] at H
                            have c21b0 := eq_true c21
                            have c21b1 : decide (x4_1 ≤ (wrap64 (x4_1 + x6_5))) = true := decide_eq_true c21
                            by_cases c22 : (wrap64 (x4_1 + x6_5)) ≤ (a0.size : Int)
                            · rw [if_pos c22] at H
                              have c22b0 := eq_true c22
                              have c22b1 : decide ((wrap64 (x4_1 + x6_5)) ≤ (a0.size : Int)) = true := decide_eq_true c22
                              by_cases c23 : x3_1.size + (a0.extract (x4_1 : Int).toNat ((wrap64 (x4_1 + x6_5)) : Int).toNat).size ≤ 9223372036854775807
                              · rw [if_pos c23] at H
                                have c23b0 := eq_true c23
                                have c23b1 : decide (x3_1.size + (a0.extract (x4_1 : Int).toNat ((wrap64 (x4_1 + x6_5)) : Int).toNat).size ≤ 9223372036854775807) = true := decide_eq_true c23
                                try have c23b2 : (9223372036854775807 < x3_1.size + (a0.extract (x4_1 : Int).toNat ((wrap64 (x4_1 + x6_5)) : Int).toNat).size) = False := eq_false (Nat.not_lt.2 c23)
                                have H' := Aside0.mk H
                                clear H
                                go_wp2
                                go_roundg kj8
                                case measure => have := HK1.out; have := HJ5.out; have := HJ8.out; omega
                                case rel => exact ⟨(x3_1 ++ (a0.extract (x4_1 : Int).toNat ((wrap64 (x4_1 + x6_5)) : Int).toNat)), (wrap64 (x4_1 + x6_5)), (by first | rfl | (simp; done) | (simp [*]; done) | (simp [*]; exact isEmpty_bne _) | (simp; exact isEmpty_bne _)), (by first | rfl | (simp; done) | (simp [*]; done) | (simp [*]; exact isEmpty_bne _) | (simp; exact isEmpty_bne _)), H', ⟨by have := HK1.out; have := HJ5.out; have := HJ8.out; omega⟩, ⟨by repeat (first | (with_reducible first | exact HB.out | apply below_alloc | apply pw_below_drewN | apply below_drew1) | exact HB.out)⟩⟩
                              · rw [if_neg c23] at H
                                exact absurd H (by simp)
                            · rw [if_neg c22] at H
                              exact absurd H (by simp)
                          · rw [if_neg c21] at H
                            exact absurd H (by simp)
                        · rw [if_neg c20] at H
                          exact absurd H (by simp)
          · rw [if_neg c4] at H
            exact absurd H (by simp)
        · rw [if_neg c3] at H
          exact absurd H (by simp)
      · rw [if_neg c2] at H
        have c2b0 : decide (x4_1 < (a0.size : Int)) = false := decide_eq_false c2
        clear c2
        obtain rfl := Option.some.inj H
        go_wp2
        go_ret
        exact ⟨by first | rfl | (simp only [i64_w, i32_w]; rfl) | (simp [errW_none, errW_some] <;> rfl) | (simp [*, errW_none, errW_some] <;> rfl), by repeat (first | (with_reducible first | exact HB.out | apply below_alloc | apply pw_below_drewN | apply below_drew1) | exact HB.out)⟩

end Go.Proofs.YtjfimileopbadaaGreatDoor.XVaA
