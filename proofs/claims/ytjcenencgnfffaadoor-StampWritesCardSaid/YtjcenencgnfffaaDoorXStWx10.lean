-- Laid by extprint.py (the session's own driver): functions told by the kit's printer and by hand.
import Derived.Test.YtjcenencgnfffaaDoorXStWx0
import Derived.Test.YtjcenencgnfffaaDoorXStWx6
import Derived.Test.YtjcenencgnfffaaDoorXStWx7
import Derived.Test.YtjcenencgnfffaaDoorXStWx8
import Derived.Test.YtjcenencgnfffaaDoorXStWx9
namespace Go.Proofs.YtjcenencgnfffaaDoor.XStW
open Go.RowKit Gong Go.Proofs.YtjcenencgnfffaaDoorW.PrintWords Go.Proofs.YtjcenencgnfffaaDoorW.PrintLast Go.Proofs.YtjcenencgnfffaaDoorW.PrintMore
attribute [local go_sem] max2_int min2_int max_two min_two max_three min_three max_four min_four   -- for this text's walks alone
set_option linter.unusedVariables false
set_option linter.unusedSimpArgs false

/-! ### gongref03_Print: function 19 -/
def gongref03_Print.f (k : Nat) (a0 : Int) : Option (ByteArray × Int) := if a0 < 0 then (some ((⟨#[]⟩ : ByteArray), 1)) else (if a0 > 2305843009213693952 then (some ((⟨#[]⟩ : ByteArray), 1)) else ((gongref03_clock.f k (wrap64 (Int.tdiv a0 1000000000)) (Int.tmod a0 1000000000)).bind fun t178 => (if t178.size + 1 ≤ 9223372036854775807 then (some (t178 ++ (⟨#[90]⟩ : ByteArray), 0)) else (none))))
theorem gongref03_Print.mono : ∀ a0 k, LeO (gongref03_Print.f k a0) (gongref03_Print.f (k + 1) a0) := by
  intro a0 k
  unfold gongref03_Print.f
  repeat' first
      | (with_reducible exact gongref03_clock.mono _ _ _)
      | (with_reducible exact LeO.refl _)
      | (with_reducible exact LeO.none _)
      | (with_reducible refine LeO.ite ?_ ?_)
      | (with_reducible refine LeO.bind ?_ (fun _ => ?_))
      | exact gongref03_clock.mono _ _ _
      | exact LeO.none _
      | refine LeO.ite ?_ ?_
      | refine LeO.bind ?_ (fun _ => ?_)
set_option maxHeartbeats 8000000 in
set_option maxRecDepth 100000 in
theorem gongref03_Print.calls (k : Nat) (a0 : Int) (r1 : ByteArray) (r2 : Int) (w : World) (h : gongref03_Print.f k a0 = some (r1, r2)) :
    Calls Tryd.prog 19 #[.int .i64 a0] w fun e w' => e = .returned (.tuple #[.string r1, .int .i64 r2]) ∧ Below w.heap.size w w' := by
  have HB := Aside0.mk (Below.refl w.heap.size w)
  have H : (if a0 < 0 then (some ((⟨#[]⟩ : ByteArray), 1)) else (if a0 > 2305843009213693952 then (some ((⟨#[]⟩ : ByteArray), 1)) else ((gongref03_clock.f k (wrap64 (Int.tdiv a0 1000000000)) (Int.tmod a0 1000000000)).bind fun t178 => (if t178.size + 1 ≤ 9223372036854775807 then (some (t178 ++ (⟨#[90]⟩ : ByteArray), 0)) else (none))))) = some (r1, r2) := h
  clear h
  by_cases c2 : a0 < 0
  · rw [if_pos c2] at H
    have c2b0 : decide (a0 < 0) = true := decide_eq_true c2
    clear c2
    simp only [Option.some.injEq, Prod.mk.injEq] at H
    obtain ⟨rfl, rfl⟩ := H
    go_enter Tryd.func19, Tryd.ntmps19
    go_wp2
    go_ret2
    exact ⟨by first | rfl | (simp only [i64_w, i32_w]; rfl) | (simp [errW_none, errW_some] <;> rfl) | (simp [*, errW_none, errW_some] <;> rfl), by repeat (first | (with_reducible first | exact HB.out | apply below_alloc | apply pw_below_drewN | apply below_drew1) | exact HB.out)⟩
  rw [if_neg c2] at H
  have c2b0 : decide (a0 < 0) = false := decide_eq_false c2
  clear c2
  by_cases c3 : a0 > 2305843009213693952
  · rw [if_pos c3] at H
    have c3b0 : decide (2305843009213693952 < a0) = true := decide_eq_true c3
    clear c3
    simp only [Option.some.injEq, Prod.mk.injEq] at H
    obtain ⟨rfl, rfl⟩ := H
    go_enter Tryd.func19, Tryd.ntmps19
    go_wp2
    go_ret2
    exact ⟨by first | rfl | (simp only [i64_w, i32_w]; rfl) | (simp [errW_none, errW_some] <;> rfl) | (simp [*, errW_none, errW_some] <;> rfl), by repeat (first | (with_reducible first | exact HB.out | apply below_alloc | apply pw_below_drewN | apply below_drew1) | exact HB.out)⟩
  rw [if_neg c3] at H
  have c3b0 : decide (2305843009213693952 < a0) = false := decide_eq_false c3
  clear c3
  replace H := Option.bind_eq_some_iff.mp H
  obtain ⟨t178, A40, H⟩ := H
  replace H : (if t178.size + 1 ≤ 9223372036854775807 then (some (t178 ++ (⟨#[90]⟩ : ByteArray), 0)) else (none)) = some (r1, r2) := H
  have A4 := Aside0.mk A40
  clear A40
  by_cases c5 : t178.size + 1 ≤ 9223372036854775807
  rotate_left
  · rw [if_neg c5] at H
    exact absurd H (by simp)
  rw [if_pos c5] at H
  have c5b0 := eq_true c5
  have c5b1 : decide (t178.size + 1 ≤ 9223372036854775807) = true := decide_eq_true c5
  try have c5b2 : (9223372036854775807 < t178.size + 1) = False := eq_false (Nat.not_lt.2 c5)
  simp only [Option.some.injEq, Prod.mk.injEq] at H
  obtain ⟨rfl, rfl⟩ := H
  go_enter Tryd.func19, Tryd.ntmps19
  go_wp2_with (first | ((with_reducible refine gate_callee (f := 53) rfl ?_); refine goesL_ (some 14) rfl rfl Tryd.func53 (by kernel_rfl) rfl #[.int .i64 (wrap64 (Int.tdiv a0 1000000000)), .int .i64 (Int.tmod a0 1000000000)] rfl (by (try simp only [List.map_toArray, List.map_cons, List.map_nil]); first | done | rfl | (simp only [List.length_drop, List.length_take]; rfl)) ?_; (with_reducible refine (gongref03_clock.calls k (wrap64 (Int.tdiv a0 1000000000)) (Int.tmod a0 1000000000) t178 _ A4.out).mono ?_); rintro e w6 ⟨rfl, hb⟩; refine ⟨_, rfl, ?_⟩; have n0_ := Aside0.mk (below_step (by repeat (first | (with_reducible first | exact HB.out | apply below_alloc | apply pw_below_drewN | apply below_drew1) | exact HB.out)) hb); clear HB; have HB := n0_; clear n0_; (try clear hb); (try clear hb2); (try clear hk); (try clear hi)))
  go_ret2
  exact ⟨by first | rfl | (simp only [i64_w, i32_w]; rfl) | (simp [errW_none, errW_some] <;> rfl) | (simp [*, errW_none, errW_some] <;> rfl), by repeat (first | (with_reducible first | exact HB.out | apply below_alloc | apply pw_below_drewN | apply below_drew1) | exact HB.out)⟩

/-! ### stamp_Shifted: function 20 -/
def stamp_Shifted.j0 : Nat → Int → Int → Bool → Option (ByteArray × Int)
  | 0, _, _, _ => none
  | k + 1, x0, x1, x21 => if x21 = true then (some ((⟨#[]⟩ : ByteArray), 1)) else (if (wrap64 ((wrap64 (Int.tdiv x0 1000000000)) + (wrap64 (x1 * 60)))) < 0 then (some ((⟨#[]⟩ : ByteArray), 1)) else (if x1 < 0 then ((stamp_whole.f k (wrap64 ((wrap64 (Int.tdiv x0 1000000000)) + (wrap64 (x1 * 60)))) (Int.tmod x0 1000000000)).bind fun t179 => (if t179.size + 1 ≤ 9223372036854775807 then ((stamp_two.f (wrap64 (Int.tdiv (wrap64 (-x1)) 60))).bind fun t180 => (if (t179 ++ (⟨#[45]⟩ : ByteArray)).size + t180.size ≤ 9223372036854775807 then (if ((t179 ++ (⟨#[45]⟩ : ByteArray)) ++ t180).size + 1 ≤ 9223372036854775807 then ((stamp_two.f (Int.tmod (wrap64 (-x1)) 60)).bind fun t181 => (if (((t179 ++ (⟨#[45]⟩ : ByteArray)) ++ t180) ++ (⟨#[58]⟩ : ByteArray)).size + t181.size ≤ 9223372036854775807 then (some ((((t179 ++ (⟨#[45]⟩ : ByteArray)) ++ t180) ++ (⟨#[58]⟩ : ByteArray)) ++ t181, 0)) else (none))) else (none)) else (none))) else (none))) else ((stamp_whole.f k (wrap64 ((wrap64 (Int.tdiv x0 1000000000)) + (wrap64 (x1 * 60)))) (Int.tmod x0 1000000000)).bind fun t182 => (if t182.size + 1 ≤ 9223372036854775807 then ((stamp_two.f (wrap64 (Int.tdiv x1 60))).bind fun t183 => (if (t182 ++ (⟨#[43]⟩ : ByteArray)).size + t183.size ≤ 9223372036854775807 then (if ((t182 ++ (⟨#[43]⟩ : ByteArray)) ++ t183).size + 1 ≤ 9223372036854775807 then ((stamp_two.f (Int.tmod x1 60)).bind fun t184 => (if (((t182 ++ (⟨#[43]⟩ : ByteArray)) ++ t183) ++ (⟨#[58]⟩ : ByteArray)).size + t184.size ≤ 9223372036854775807 then (some ((((t182 ++ (⟨#[43]⟩ : ByteArray)) ++ t183) ++ (⟨#[58]⟩ : ByteArray)) ++ t184, 0)) else (none))) else (none)) else (none))) else (none)))))
def stamp_Shifted.f (k : Nat) (a0 : Int) (a1 : Int) : Option (ByteArray × Int) := if a0 < 0 then (stamp_Shifted.j0 k a0 a1 true) else (if a0 > 2305843009213693952 then (stamp_Shifted.j0 k a0 a1 true) else (if a1 < (-1439) then (stamp_Shifted.j0 k a0 a1 true) else (stamp_Shifted.j0 k a0 a1 (decide (a1 > 1439)))))
theorem stamp_Shifted.mono_l : ∀ k, (∀ y0 y1 y2, LeO (stamp_Shifted.j0 k y0 y1 y2) (stamp_Shifted.j0 (k + 1) y0 y1 y2))
  | 0 => fun _ _ _ r h => by simp [stamp_Shifted.j0] at h
  | k + 1 => by
    have ih0 := stamp_Shifted.mono_l k
    · intro y0 y1 y2
      unfold stamp_Shifted.j0
      repeat' first
      | (with_reducible exact ih0 _ _ _)
      | (with_reducible exact stamp_whole.mono _ _ _)
      | (with_reducible exact LeO.refl _)
      | (with_reducible exact LeO.none _)
      | (with_reducible refine LeO.ite ?_ ?_)
      | (with_reducible refine LeO.bind ?_ (fun _ => ?_))
      | exact ih0 _ _ _
      | exact stamp_whole.mono _ _ _
      | exact LeO.none _
      | refine LeO.ite ?_ ?_
      | refine LeO.bind ?_ (fun _ => ?_)
theorem stamp_Shifted.mono : ∀ a0 a1 k, LeO (stamp_Shifted.f k a0 a1) (stamp_Shifted.f (k + 1) a0 a1) := by
  intro a0 a1 k
  have ih0 := stamp_Shifted.mono_l k
  unfold stamp_Shifted.f
  repeat' first
      | (with_reducible exact ih0 _ _ _)
      | (with_reducible exact stamp_whole.mono _ _ _)
      | (with_reducible exact LeO.refl _)
      | (with_reducible exact LeO.none _)
      | (with_reducible refine LeO.ite ?_ ?_)
      | (with_reducible refine LeO.bind ?_ (fun _ => ?_))
      | exact ih0 _ _ _
      | exact stamp_whole.mono _ _ _
      | exact LeO.none _
      | refine LeO.ite ?_ ?_
      | refine LeO.bind ?_ (fun _ => ?_)
set_option maxHeartbeats 8000000 in
set_option maxRecDepth 100000 in
theorem stamp_Shifted.calls (k : Nat) (a0 : Int) (a1 : Int) (r1 : ByteArray) (r2 : Int) (w : World) (hG : Gl w) (h : stamp_Shifted.f k a0 a1 = some (r1, r2)) :
    Calls Tryd.prog 20 #[.int .i64 a0, .int .i64 a1] w fun e w' => e = .returned (.tuple #[.string r1, .int .i64 r2]) ∧ Below w.heap.size w w' := by
  have HGl := Aside0.mk hG
  clear hG
  have HB := Aside0.mk (Below.refl w.heap.size w)
  have H : (if a0 < 0 then (stamp_Shifted.j0 k a0 a1 true) else (if a0 > 2305843009213693952 then (stamp_Shifted.j0 k a0 a1 true) else (if a1 < (-1439) then (stamp_Shifted.j0 k a0 a1 true) else (stamp_Shifted.j0 k a0 a1 (decide (a1 > 1439)))))) = some (r1, r2) := h
  clear h
  have HC3 := Aside0.mk H
  clear H
  go_enter Tryd.func20, Tryd.ntmps20
  go_upto_region 1 with (fail)
  go_cut [21] (fun v21 wc => ∃ (kq : Nat) (x21_2 : Bool), v21 = .bool x21_2 ∧ Aside0 (stamp_Shifted.j0 kq a0 a1 x21_2 = some (r1, r2)) ∧ Aside0 (kq ≤ k) ∧ Aside0 (Below w.heap.size w wc))
  case first =>
    have H := HC3.out
    clear HC3
    by_cases c4 : a0 < 0
    · rw [if_pos c4] at H
      have c4b0 : decide (a0 < 0) = true := decide_eq_true c4
      clear c4
      (first | rw [c4b0] | (simp only [i64_w, i32_w]; rw [c4b0]) | skip)
      have H' := Aside0.mk H
      clear H
      go_wp2
      go_meet
      case rel => exact ⟨_, (true), (by first | rfl | (simp; done) | (simp [*]; done) | (simp [*]; exact isEmpty_bne _) | (simp; exact isEmpty_bne _)), H', ⟨by first | omega | exact Nat.le_refl _⟩, ⟨by repeat (first | (with_reducible first | exact HB.out | apply below_alloc | apply pw_below_drewN | apply below_drew1) | exact HB.out)⟩⟩
    · rw [if_neg c4] at H
      have c4b0 : decide (a0 < 0) = false := decide_eq_false c4
      clear c4
      (first | rw [c4b0] | (simp only [i64_w, i32_w]; rw [c4b0]) | skip)
      by_cases c5 : a0 > 2305843009213693952
      · rw [if_pos c5] at H
        have c5b0 : decide (2305843009213693952 < a0) = true := decide_eq_true c5
        clear c5
        have H' := Aside0.mk H
        clear H
        go_wp2
        go_meet
        case rel => exact ⟨_, (true), (by first | rfl | (simp; done) | (simp [*]; done) | (simp [*]; exact isEmpty_bne _) | (simp; exact isEmpty_bne _)), H', ⟨by first | omega | exact Nat.le_refl _⟩, ⟨by repeat (first | (with_reducible first | exact HB.out | apply below_alloc | apply pw_below_drewN | apply below_drew1) | exact HB.out)⟩⟩
      · rw [if_neg c5] at H
        have c5b0 : decide (2305843009213693952 < a0) = false := decide_eq_false c5
        clear c5
        by_cases c6 : a1 < (-1439)
        · rw [if_pos c6] at H
          have c6b0 : decide (a1 < (-1439)) = true := decide_eq_true c6
          clear c6
          have H' := Aside0.mk H
          clear H
          go_wp2
          go_meet
          case rel => exact ⟨_, (true), (by first | rfl | (simp; done) | (simp [*]; done) | (simp [*]; exact isEmpty_bne _) | (simp; exact isEmpty_bne _)), H', ⟨by first | omega | exact Nat.le_refl _⟩, ⟨by repeat (first | (with_reducible first | exact HB.out | apply below_alloc | apply pw_below_drewN | apply below_drew1) | exact HB.out)⟩⟩
        · rw [if_neg c6] at H
          have c6b0 : decide (a1 < (-1439)) = false := decide_eq_false c6
          clear c6
          have H' := Aside0.mk H
          clear H
          go_wp2
          go_meet
          case rel => exact ⟨_, (decide (a1 > 1439)), (by first | rfl | (simp; done) | (simp [*]; done) | (simp [*]; exact isEmpty_bne _) | (simp; exact isEmpty_bne _)), H', ⟨by first | omega | exact Nat.le_refl _⟩, ⟨by repeat (first | (with_reducible first | exact HB.out | apply below_alloc | apply pw_below_drewN | apply below_drew1) | exact HB.out)⟩⟩
  case rest =>
    clear HC3
    try clear c2
    try clear p2
    try clear c4
    try clear c4b0
    try clear c5
    try clear c5b0
    try clear c6
    try clear c6b0
    obtain ⟨kq, x21_2, rfl, HA, HJ2, HB⟩ := hcut
    cases kq with
    | zero => exact absurd HA.out (by simp [stamp_Shifted.j0])
    | succ kj2 =>
      have H := HA.out
      clear HA
      simp only [stamp_Shifted.j0] at H
      by_cases c7 : x21_2 = true
      · subst c7
        have H1 : (some ((⟨#[]⟩ : ByteArray), 1)) = some (r1, r2) := by rw [if_pos rfl] at H; exact H
        clear H
        have H := H1
        clear H1
        simp only [Option.some.injEq, Prod.mk.injEq] at H
        obtain ⟨rfl, rfl⟩ := H
        go_wp2
        go_ret2
        exact ⟨by first | rfl | (simp only [i64_w, i32_w]; rfl) | (simp [errW_none, errW_some] <;> rfl) | (simp [*, errW_none, errW_some] <;> rfl), by repeat (first | (with_reducible first | exact HB.out | apply below_alloc | apply pw_below_drewN | apply below_drew1) | exact HB.out)⟩
      · replace c7 := Bool.eq_false_iff.mpr c7
        subst c7
        have H1 : (if (wrap64 ((wrap64 (Int.tdiv a0 1000000000)) + (wrap64 (a1 * 60)))) < 0 then (some ((⟨#[]⟩ : ByteArray), 1)) else (if a1 < 0 then ((stamp_whole.f kj2 (wrap64 ((wrap64 (Int.tdiv a0 1000000000)) + (wrap64 (a1 * 60)))) (Int.tmod a0 1000000000)).bind fun t179 => (if t179.size + 1 ≤ 9223372036854775807 then ((stamp_two.f (wrap64 (Int.tdiv (wrap64 (-a1)) 60))).bind fun t180 => (if (t179 ++ (⟨#[45]⟩ : ByteArray)).size + t180.size ≤ 9223372036854775807 then (if ((t179 ++ (⟨#[45]⟩ : ByteArray)) ++ t180).size + 1 ≤ 9223372036854775807 then ((stamp_two.f (Int.tmod (wrap64 (-a1)) 60)).bind fun t181 => (if (((t179 ++ (⟨#[45]⟩ : ByteArray)) ++ t180) ++ (⟨#[58]⟩ : ByteArray)).size + t181.size ≤ 9223372036854775807 then (some ((((t179 ++ (⟨#[45]⟩ : ByteArray)) ++ t180) ++ (⟨#[58]⟩ : ByteArray)) ++ t181, 0)) else (none))) else (none)) else (none))) else (none))) else ((stamp_whole.f kj2 (wrap64 ((wrap64 (Int.tdiv a0 1000000000)) + (wrap64 (a1 * 60)))) (Int.tmod a0 1000000000)).bind fun t182 => (if t182.size + 1 ≤ 9223372036854775807 then ((stamp_two.f (wrap64 (Int.tdiv a1 60))).bind fun t183 => (if (t182 ++ (⟨#[43]⟩ : ByteArray)).size + t183.size ≤ 9223372036854775807 then (if ((t182 ++ (⟨#[43]⟩ : ByteArray)) ++ t183).size + 1 ≤ 9223372036854775807 then ((stamp_two.f (Int.tmod a1 60)).bind fun t184 => (if (((t182 ++ (⟨#[43]⟩ : ByteArray)) ++ t183) ++ (⟨#[58]⟩ : ByteArray)).size + t184.size ≤ 9223372036854775807 then (some ((((t182 ++ (⟨#[43]⟩ : ByteArray)) ++ t183) ++ (⟨#[58]⟩ : ByteArray)) ++ t184, 0)) else (none))) else (none)) else (none))) else (none))))) = some (r1, r2) := by rw [if_neg (show ¬ (false = true) by decide)] at H; exact H
        clear H
        have H := H1
        clear H1
        by_cases c8 : (wrap64 ((wrap64 (Int.tdiv a0 1000000000)) + (wrap64 (a1 * 60)))) < 0
        · rw [if_pos c8] at H
          have c8b0 : decide ((wrap64 ((wrap64 (Int.tdiv a0 1000000000)) + (wrap64 (a1 * 60)))) < 0) = true := decide_eq_true c8
          clear c8
          simp only [Option.some.injEq, Prod.mk.injEq] at H
          obtain ⟨rfl, rfl⟩ := H
          go_wp2
          go_ret2
          exact ⟨by first | rfl | (simp only [i64_w, i32_w]; rfl) | (simp [errW_none, errW_some] <;> rfl) | (simp [*, errW_none, errW_some] <;> rfl), by repeat (first | (with_reducible first | exact HB.out | apply below_alloc | apply pw_below_drewN | apply below_drew1) | exact HB.out)⟩
        · rw [if_neg c8] at H
          have c8b0 : decide ((wrap64 ((wrap64 (Int.tdiv a0 1000000000)) + (wrap64 (a1 * 60)))) < 0) = false := decide_eq_false c8
          clear c8
          by_cases c9 : a1 < 0
          · rw [if_pos c9] at H
            have c9b0 : decide (a1 < 0) = true := decide_eq_true c9
            clear c9
            replace H := Option.bind_eq_some_iff.mp H
            obtain ⟨t179, A100, H⟩ := H
            replace H : (if t179.size + 1 ≤ 9223372036854775807 then ((stamp_two.f (wrap64 (Int.tdiv (wrap64 (-a1)) 60))).bind fun t180 => (if (t179 ++ (⟨#[45]⟩ : ByteArray)).size + t180.size ≤ 9223372036854775807 then (if ((t179 ++ (⟨#[45]⟩ : ByteArray)) ++ t180).size + 1 ≤ 9223372036854775807 then ((stamp_two.f (Int.tmod (wrap64 (-a1)) 60)).bind fun t181 => (if (((t179 ++ (⟨#[45]⟩ : ByteArray)) ++ t180) ++ (⟨#[58]⟩ : ByteArray)).size + t181.size ≤ 9223372036854775807 then (some ((((t179 ++ (⟨#[45]⟩ : ByteArray)) ++ t180) ++ (⟨#[58]⟩ : ByteArray)) ++ t181, 0)) else (none))) else (none)) else (none))) else (none)) = some (r1, r2) := H
            have A10 := Aside0.mk A100
            clear A100
            by_cases c11 : t179.size + 1 ≤ 9223372036854775807
            · rw [if_pos c11] at H
              have c11b0 := eq_true c11
              have c11b1 : decide (t179.size + 1 ≤ 9223372036854775807) = true := decide_eq_true c11
              try have c11b2 : (9223372036854775807 < t179.size + 1) = False := eq_false (Nat.not_lt.2 c11)
              replace H := Option.bind_eq_some_iff.mp H
              obtain ⟨t180, A120, H⟩ := H
              replace H : (if (t179 ++ (⟨#[45]⟩ : ByteArray)).size + t180.size ≤ 9223372036854775807 then (if ((t179 ++ (⟨#[45]⟩ : ByteArray)) ++ t180).size + 1 ≤ 9223372036854775807 then ((stamp_two.f (Int.tmod (wrap64 (-a1)) 60)).bind fun t181 => (if (((t179 ++ (⟨#[45]⟩ : ByteArray)) ++ t180) ++ (⟨#[58]⟩ : ByteArray)).size + t181.size ≤ 9223372036854775807 then (some ((((t179 ++ (⟨#[45]⟩ : ByteArray)) ++ t180) ++ (⟨#[58]⟩ : ByteArray)) ++ t181, 0)) else (none))) else (none)) else (none)) = some (r1, r2) := H
              have A12 := Aside0.mk A120
              clear A120
              by_cases c13 : (t179 ++ (⟨#[45]⟩ : ByteArray)).size + t180.size ≤ 9223372036854775807
              · rw [if_pos c13] at H
                have c13b0 := eq_true c13
                have c13b1 : decide ((t179 ++ (⟨#[45]⟩ : ByteArray)).size + t180.size ≤ 9223372036854775807) = true := decide_eq_true c13
                try have c13b2 : (9223372036854775807 < (t179 ++ (⟨#[45]⟩ : ByteArray)).size + t180.size) = False := eq_false (Nat.not_lt.2 c13)
                have c13z2 := c13b2
                simp only [ByteArray.size_append] at c13z2
                have c13z3 := c13z2
                try simp only [size_lit1, size_lit2, size_lit3, size_lit4] at c13z3
                by_cases c14 : ((t179 ++ (⟨#[45]⟩ : ByteArray)) ++ t180).size + 1 ≤ 9223372036854775807
                · rw [if_pos c14] at H
                  have c14b0 := eq_true c14
                  have c14b1 : decide (((t179 ++ (⟨#[45]⟩ : ByteArray)) ++ t180).size + 1 ≤ 9223372036854775807) = true := decide_eq_true c14
                  try have c14b2 : (9223372036854775807 < ((t179 ++ (⟨#[45]⟩ : ByteArray)) ++ t180).size + 1) = False := eq_false (Nat.not_lt.2 c14)
                  have c14z2 := c14b2
                  simp only [ByteArray.size_append] at c14z2
                  have c14z3 := c14z2
                  try simp only [size_lit1, size_lit2, size_lit3, size_lit4] at c14z3
                  replace H := Option.bind_eq_some_iff.mp H
                  obtain ⟨t181, A150, H⟩ := H
                  replace H : (if (((t179 ++ (⟨#[45]⟩ : ByteArray)) ++ t180) ++ (⟨#[58]⟩ : ByteArray)).size + t181.size ≤ 9223372036854775807 then (some ((((t179 ++ (⟨#[45]⟩ : ByteArray)) ++ t180) ++ (⟨#[58]⟩ : ByteArray)) ++ t181, 0)) else (none)) = some (r1, r2) := H
                  have A15 := Aside0.mk A150
                  clear A150
                  by_cases c16 : (((t179 ++ (⟨#[45]⟩ : ByteArray)) ++ t180) ++ (⟨#[58]⟩ : ByteArray)).size + t181.size ≤ 9223372036854775807
                  · rw [if_pos c16] at H
                    have c16b0 := eq_true c16
                    have c16b1 : decide ((((t179 ++ (⟨#[45]⟩ : ByteArray)) ++ t180) ++ (⟨#[58]⟩ : ByteArray)).size + t181.size ≤ 9223372036854775807) = true := decide_eq_true c16
                    try have c16b2 : (9223372036854775807 < (((t179 ++ (⟨#[45]⟩ : ByteArray)) ++ t180) ++ (⟨#[58]⟩ : ByteArray)).size + t181.size) = False := eq_false (Nat.not_lt.2 c16)
                    have c16z2 := c16b2
                    simp only [ByteArray.size_append] at c16z2
                    have c16z3 := c16z2
                    try simp only [size_lit1, size_lit2, size_lit3, size_lit4] at c16z3
                    simp only [Option.some.injEq, Prod.mk.injEq] at H
                    obtain ⟨rfl, rfl⟩ := H
                    go_wp2_with (first | ((with_reducible refine gate_callee (f := 52) rfl ?_); refine goesL_ (some 36) rfl rfl Tryd.func52 (by kernel_rfl) rfl #[.int .i64 (wrap64 ((wrap64 (Int.tdiv a0 1000000000)) + (wrap64 (a1 * 60)))), .int .i64 (Int.tmod a0 1000000000)] rfl (by (try simp only [List.map_toArray, List.map_cons, List.map_nil]); first | done | rfl | (simp only [List.length_drop, List.length_take]; rfl)) ?_; (with_reducible refine (stamp_whole.calls kj2 (wrap64 ((wrap64 (Int.tdiv a0 1000000000)) + (wrap64 (a1 * 60)))) (Int.tmod a0 1000000000) t179 _ ?side1 A10.out).mono ?_); (case side1 => first | exact HGl.out | exact HGl.out.below (by repeat (first | (with_reducible first | exact HB.out | apply below_alloc | apply pw_below_drewN | apply below_drew1) | exact HB.out | exact Below.refl _ _))); rintro e w17 ⟨rfl, hb⟩; refine ⟨_, rfl, ?_⟩; have n0_ := Aside0.mk (below_step (by repeat (first | (with_reducible first | exact HB.out | apply below_alloc | apply pw_below_drewN | apply below_drew1) | exact HB.out)) hb); clear HB; have HB := n0_; clear n0_; (try clear hb); (try clear hb2); (try clear hk); (try clear hi)) | ((with_reducible refine gate_callee (f := 54) rfl ?_); refine goesL_ (some 41) rfl rfl Tryd.func54 (by kernel_rfl) rfl #[.int .i64 (wrap64 (Int.tdiv (wrap64 (-a1)) 60))] rfl (by (try simp only [List.map_toArray, List.map_cons, List.map_nil]); first | done | rfl | (simp only [List.length_drop, List.length_take]; rfl)) ?_; (with_reducible refine (stamp_two.calls (wrap64 (Int.tdiv (wrap64 (-a1)) 60)) t180 _ A12.out).mono ?_); rintro e w18 ⟨rfl, hb⟩; refine ⟨_, rfl, ?_⟩; have n0_ := Aside0.mk (below_step (by repeat (first | (with_reducible first | exact HB.out | apply below_alloc | apply pw_below_drewN | apply below_drew1) | exact HB.out)) hb); clear HB; have HB := n0_; clear n0_; (try clear hb); (try clear hb2); (try clear hk); (try clear hi)) | ((with_reducible refine gate_callee (f := 54) rfl ?_); refine goesL_ (some 46) rfl rfl Tryd.func54 (by kernel_rfl) rfl #[.int .i64 (Int.tmod (wrap64 (-a1)) 60)] rfl (by (try simp only [List.map_toArray, List.map_cons, List.map_nil]); first | done | rfl | (simp only [List.length_drop, List.length_take]; rfl)) ?_; (with_reducible refine (stamp_two.calls (Int.tmod (wrap64 (-a1)) 60) t181 _ A15.out).mono ?_); rintro e w19 ⟨rfl, hb⟩; refine ⟨_, rfl, ?_⟩; have n0_ := Aside0.mk (below_step (by repeat (first | (with_reducible first | exact HB.out | apply below_alloc | apply pw_below_drewN | apply below_drew1) | exact HB.out)) hb); clear HB; have HB := n0_; clear n0_; (try clear hb); (try clear hb2); (try clear hk); (try clear hi)))
                    go_ret2
                    exact ⟨by first | rfl | (simp only [i64_w, i32_w]; rfl) | (simp [errW_none, errW_some] <;> rfl) | (simp [*, errW_none, errW_some] <;> rfl), by repeat (first | (with_reducible first | exact HB.out | apply below_alloc | apply pw_below_drewN | apply below_drew1) | exact HB.out)⟩
                  · rw [if_neg c16] at H
                    exact absurd H (by simp)
                · rw [if_neg c14] at H
                  exact absurd H (by simp)
              · rw [if_neg c13] at H
                exact absurd H (by simp)
            · rw [if_neg c11] at H
              exact absurd H (by simp)
          · rw [if_neg c9] at H
            have c9b0 : decide (a1 < 0) = false := decide_eq_false c9
            clear c9
            replace H := Option.bind_eq_some_iff.mp H
            obtain ⟨t182, A200, H⟩ := H
            replace H : (if t182.size + 1 ≤ 9223372036854775807 then ((stamp_two.f (wrap64 (Int.tdiv a1 60))).bind fun t183 => (if (t182 ++ (⟨#[43]⟩ : ByteArray)).size + t183.size ≤ 9223372036854775807 then (if ((t182 ++ (⟨#[43]⟩ : ByteArray)) ++ t183).size + 1 ≤ 9223372036854775807 then ((stamp_two.f (Int.tmod a1 60)).bind fun t184 => (if (((t182 ++ (⟨#[43]⟩ : ByteArray)) ++ t183) ++ (⟨#[58]⟩ : ByteArray)).size + t184.size ≤ 9223372036854775807 then (some ((((t182 ++ (⟨#[43]⟩ : ByteArray)) ++ t183) ++ (⟨#[58]⟩ : ByteArray)) ++ t184, 0)) else (none))) else (none)) else (none))) else (none)) = some (r1, r2) := H
            have A20 := Aside0.mk A200
            clear A200
            by_cases c21 : t182.size + 1 ≤ 9223372036854775807
            · rw [if_pos c21] at H
              have c21b0 := eq_true c21
              have c21b1 : decide (t182.size + 1 ≤ 9223372036854775807) = true := decide_eq_true c21
              try have c21b2 : (9223372036854775807 < t182.size + 1) = False := eq_false (Nat.not_lt.2 c21)
              replace H := Option.bind_eq_some_iff.mp H
              obtain ⟨t183, A220, H⟩ := H
              replace H : (if (t182 ++ (⟨#[43]⟩ : ByteArray)).size + t183.size ≤ 9223372036854775807 then (if ((t182 ++ (⟨#[43]⟩ : ByteArray)) ++ t183).size + 1 ≤ 9223372036854775807 then ((stamp_two.f (Int.tmod a1 60)).bind fun t184 => (if (((t182 ++ (⟨#[43]⟩ : ByteArray)) ++ t183) ++ (⟨#[58]⟩ : ByteArray)).size + t184.size ≤ 9223372036854775807 then (some ((((t182 ++ (⟨#[43]⟩ : ByteArray)) ++ t183) ++ (⟨#[58]⟩ : ByteArray)) ++ t184, 0)) else (none))) else (none)) else (none)) = some (r1, r2) := H
              have A22 := Aside0.mk A220
              clear A220
              by_cases c23 : (t182 ++ (⟨#[43]⟩ : ByteArray)).size + t183.size ≤ 9223372036854775807
              · rw [if_pos c23] at H
                have c23b0 := eq_true c23
                have c23b1 : decide ((t182 ++ (⟨#[43]⟩ : ByteArray)).size + t183.size ≤ 9223372036854775807) = true := decide_eq_true c23
                try have c23b2 : (9223372036854775807 < (t182 ++ (⟨#[43]⟩ : ByteArray)).size + t183.size) = False := eq_false (Nat.not_lt.2 c23)
                have c23z2 := c23b2
                simp only [ByteArray.size_append] at c23z2
                have c23z3 := c23z2
                try simp only [size_lit1, size_lit2, size_lit3, size_lit4] at c23z3
                by_cases c24 : ((t182 ++ (⟨#[43]⟩ : ByteArray)) ++ t183).size + 1 ≤ 9223372036854775807
                · rw [if_pos c24] at H
                  have c24b0 := eq_true c24
                  have c24b1 : decide (((t182 ++ (⟨#[43]⟩ : ByteArray)) ++ t183).size + 1 ≤ 9223372036854775807) = true := decide_eq_true c24
                  try have c24b2 : (9223372036854775807 < ((t182 ++ (⟨#[43]⟩ : ByteArray)) ++ t183).size + 1) = False := eq_false (Nat.not_lt.2 c24)
                  have c24z2 := c24b2
                  simp only [ByteArray.size_append] at c24z2
                  have c24z3 := c24z2
                  try simp only [size_lit1, size_lit2, size_lit3, size_lit4] at c24z3
                  replace H := Option.bind_eq_some_iff.mp H
                  obtain ⟨t184, A250, H⟩ := H
                  replace H : (if (((t182 ++ (⟨#[43]⟩ : ByteArray)) ++ t183) ++ (⟨#[58]⟩ : ByteArray)).size + t184.size ≤ 9223372036854775807 then (some ((((t182 ++ (⟨#[43]⟩ : ByteArray)) ++ t183) ++ (⟨#[58]⟩ : ByteArray)) ++ t184, 0)) else (none)) = some (r1, r2) := H
                  have A25 := Aside0.mk A250
                  clear A250
                  by_cases c26 : (((t182 ++ (⟨#[43]⟩ : ByteArray)) ++ t183) ++ (⟨#[58]⟩ : ByteArray)).size + t184.size ≤ 9223372036854775807
                  · rw [if_pos c26] at H
                    have c26b0 := eq_true c26
                    have c26b1 : decide ((((t182 ++ (⟨#[43]⟩ : ByteArray)) ++ t183) ++ (⟨#[58]⟩ : ByteArray)).size + t184.size ≤ 9223372036854775807) = true := decide_eq_true c26
                    try have c26b2 : (9223372036854775807 < (((t182 ++ (⟨#[43]⟩ : ByteArray)) ++ t183) ++ (⟨#[58]⟩ : ByteArray)).size + t184.size) = False := eq_false (Nat.not_lt.2 c26)
                    have c26z2 := c26b2
                    simp only [ByteArray.size_append] at c26z2
                    have c26z3 := c26z2
                    try simp only [size_lit1, size_lit2, size_lit3, size_lit4] at c26z3
                    simp only [Option.some.injEq, Prod.mk.injEq] at H
                    obtain ⟨rfl, rfl⟩ := H
                    go_wp2_with (first | ((with_reducible refine gate_callee (f := 52) rfl ?_); refine goesL_ (some 36) rfl rfl Tryd.func52 (by kernel_rfl) rfl #[.int .i64 (wrap64 ((wrap64 (Int.tdiv a0 1000000000)) + (wrap64 (a1 * 60)))), .int .i64 (Int.tmod a0 1000000000)] rfl (by (try simp only [List.map_toArray, List.map_cons, List.map_nil]); first | done | rfl | (simp only [List.length_drop, List.length_take]; rfl)) ?_; (with_reducible refine (stamp_whole.calls kj2 (wrap64 ((wrap64 (Int.tdiv a0 1000000000)) + (wrap64 (a1 * 60)))) (Int.tmod a0 1000000000) t182 _ ?side1 A20.out).mono ?_); (case side1 => first | exact HGl.out | exact HGl.out.below (by repeat (first | (with_reducible first | exact HB.out | apply below_alloc | apply pw_below_drewN | apply below_drew1) | exact HB.out | exact Below.refl _ _))); rintro e w27 ⟨rfl, hb⟩; refine ⟨_, rfl, ?_⟩; have n0_ := Aside0.mk (below_step (by repeat (first | (with_reducible first | exact HB.out | apply below_alloc | apply pw_below_drewN | apply below_drew1) | exact HB.out)) hb); clear HB; have HB := n0_; clear n0_; (try clear hb); (try clear hb2); (try clear hk); (try clear hi)) | ((with_reducible refine gate_callee (f := 54) rfl ?_); refine goesL_ (some 41) rfl rfl Tryd.func54 (by kernel_rfl) rfl #[.int .i64 (wrap64 (Int.tdiv a1 60))] rfl (by (try simp only [List.map_toArray, List.map_cons, List.map_nil]); first | done | rfl | (simp only [List.length_drop, List.length_take]; rfl)) ?_; (with_reducible refine (stamp_two.calls (wrap64 (Int.tdiv a1 60)) t183 _ A22.out).mono ?_); rintro e w28 ⟨rfl, hb⟩; refine ⟨_, rfl, ?_⟩; have n0_ := Aside0.mk (below_step (by repeat (first | (with_reducible first | exact HB.out | apply below_alloc | apply pw_below_drewN | apply below_drew1) | exact HB.out)) hb); clear HB; have HB := n0_; clear n0_; (try clear hb); (try clear hb2); (try clear hk); (try clear hi)) | ((with_reducible refine gate_callee (f := 54) rfl ?_); refine goesL_ (some 46) rfl rfl Tryd.func54 (by kernel_rfl) rfl #[.int .i64 (Int.tmod a1 60)] rfl (by (try simp only [List.map_toArray, List.map_cons, List.map_nil]); first | done | rfl | (simp only [List.length_drop, List.length_take]; rfl)) ?_; (with_reducible refine (stamp_two.calls (Int.tmod a1 60) t184 _ A25.out).mono ?_); rintro e w29 ⟨rfl, hb⟩; refine ⟨_, rfl, ?_⟩; have n0_ := Aside0.mk (below_step (by repeat (first | (with_reducible first | exact HB.out | apply below_alloc | apply pw_below_drewN | apply below_drew1) | exact HB.out)) hb); clear HB; have HB := n0_; clear n0_; (try clear hb); (try clear hb2); (try clear hk); (try clear hi)))
                    go_ret2
                    exact ⟨by first | rfl | (simp only [i64_w, i32_w]; rfl) | (simp [errW_none, errW_some] <;> rfl) | (simp [*, errW_none, errW_some] <;> rfl), by repeat (first | (with_reducible first | exact HB.out | apply below_alloc | apply pw_below_drewN | apply below_drew1) | exact HB.out)⟩
                  · rw [if_neg c26] at H
                    exact absurd H (by simp)
                · rw [if_neg c24] at H
                  exact absurd H (by simp)
              · rw [if_neg c23] at H
                exact absurd H (by simp)
            · rw [if_neg c21] at H
              exact absurd H (by simp)

/-! ### gongref03_Shifted: function 21 -/
def gongref03_Shifted.j0 : Nat → Int → Int → Bool → Option (ByteArray × Int)
  | 0, _, _, _ => none
  | k + 1, x0, x1, x29 => if x29 = true then (some ((⟨#[]⟩ : ByteArray), 1)) else (if x1 < 0 then ((gongref03_clock.f k (wrap64 ((wrap64 (Int.tdiv x0 1000000000)) + (wrap64 (x1 * 60)))) (Int.tmod x0 1000000000)).bind fun t185 => (if t185.size + 1 ≤ 9223372036854775807 then ((gongref03_digits.f k (wrap64 (Int.tdiv (wrap64 (-x1)) 60)) 2).bind fun t186 => (if (t185 ++ (⟨#[45]⟩ : ByteArray)).size + t186.size ≤ 9223372036854775807 then (if ((t185 ++ (⟨#[45]⟩ : ByteArray)) ++ t186).size + 1 ≤ 9223372036854775807 then ((gongref03_digits.f k (Int.tmod (wrap64 (-x1)) 60) 2).bind fun t187 => (if (((t185 ++ (⟨#[45]⟩ : ByteArray)) ++ t186) ++ (⟨#[58]⟩ : ByteArray)).size + t187.size ≤ 9223372036854775807 then (some ((((t185 ++ (⟨#[45]⟩ : ByteArray)) ++ t186) ++ (⟨#[58]⟩ : ByteArray)) ++ t187, 0)) else (none))) else (none)) else (none))) else (none))) else ((gongref03_clock.f k (wrap64 ((wrap64 (Int.tdiv x0 1000000000)) + (wrap64 (x1 * 60)))) (Int.tmod x0 1000000000)).bind fun t188 => (if t188.size + 1 ≤ 9223372036854775807 then ((gongref03_digits.f k (wrap64 (Int.tdiv x1 60)) 2).bind fun t189 => (if (t188 ++ (⟨#[43]⟩ : ByteArray)).size + t189.size ≤ 9223372036854775807 then (if ((t188 ++ (⟨#[43]⟩ : ByteArray)) ++ t189).size + 1 ≤ 9223372036854775807 then ((gongref03_digits.f k (Int.tmod x1 60) 2).bind fun t190 => (if (((t188 ++ (⟨#[43]⟩ : ByteArray)) ++ t189) ++ (⟨#[58]⟩ : ByteArray)).size + t190.size ≤ 9223372036854775807 then (some ((((t188 ++ (⟨#[43]⟩ : ByteArray)) ++ t189) ++ (⟨#[58]⟩ : ByteArray)) ++ t190, 0)) else (none))) else (none)) else (none))) else (none))))
def gongref03_Shifted.f (k : Nat) (a0 : Int) (a1 : Int) : Option (ByteArray × Int) := if a0 < 0 then (gongref03_Shifted.j0 k a0 a1 true) else (if a0 > 2305843009213693952 then (gongref03_Shifted.j0 k a0 a1 true) else (if a1 < (-1439) then (gongref03_Shifted.j0 k a0 a1 true) else (if a1 > 1439 then (gongref03_Shifted.j0 k a0 a1 true) else (gongref03_Shifted.j0 k a0 a1 (decide ((wrap64 ((wrap64 (Int.tdiv a0 1000000000)) + (wrap64 (a1 * 60)))) < 0))))))
theorem gongref03_Shifted.mono_l : ∀ k, (∀ y0 y1 y2, LeO (gongref03_Shifted.j0 k y0 y1 y2) (gongref03_Shifted.j0 (k + 1) y0 y1 y2))
  | 0 => fun _ _ _ r h => by simp [gongref03_Shifted.j0] at h
  | k + 1 => by
    have ih0 := gongref03_Shifted.mono_l k
    · intro y0 y1 y2
      unfold gongref03_Shifted.j0
      repeat' first
      | (with_reducible exact ih0 _ _ _)
      | (with_reducible exact gongref03_clock.mono _ _ _)
      | (with_reducible exact gongref03_digits.mono _ _ _)
      | (with_reducible exact LeO.refl _)
      | (with_reducible exact LeO.none _)
      | (with_reducible refine LeO.ite ?_ ?_)
      | (with_reducible refine LeO.bind ?_ (fun _ => ?_))
      | exact ih0 _ _ _
      | exact gongref03_clock.mono _ _ _
      | exact gongref03_digits.mono _ _ _
      | exact LeO.none _
      | refine LeO.ite ?_ ?_
      | refine LeO.bind ?_ (fun _ => ?_)
theorem gongref03_Shifted.mono : ∀ a0 a1 k, LeO (gongref03_Shifted.f k a0 a1) (gongref03_Shifted.f (k + 1) a0 a1) := by
  intro a0 a1 k
  have ih0 := gongref03_Shifted.mono_l k
  unfold gongref03_Shifted.f
  repeat' first
      | (with_reducible exact ih0 _ _ _)
      | (with_reducible exact gongref03_clock.mono _ _ _)
      | (with_reducible exact gongref03_digits.mono _ _ _)
      | (with_reducible exact LeO.refl _)
      | (with_reducible exact LeO.none _)
      | (with_reducible refine LeO.ite ?_ ?_)
      | (with_reducible refine LeO.bind ?_ (fun _ => ?_))
      | exact ih0 _ _ _
      | exact gongref03_clock.mono _ _ _
      | exact gongref03_digits.mono _ _ _
      | exact LeO.none _
      | refine LeO.ite ?_ ?_
      | refine LeO.bind ?_ (fun _ => ?_)
set_option maxHeartbeats 8000000 in
set_option maxRecDepth 100000 in
theorem gongref03_Shifted.calls (k : Nat) (a0 : Int) (a1 : Int) (r1 : ByteArray) (r2 : Int) (w : World) (h : gongref03_Shifted.f k a0 a1 = some (r1, r2)) :
    Calls Tryd.prog 21 #[.int .i64 a0, .int .i64 a1] w fun e w' => e = .returned (.tuple #[.string r1, .int .i64 r2]) ∧ Below w.heap.size w w' := by
  have HB := Aside0.mk (Below.refl w.heap.size w)
  have H : (if a0 < 0 then (gongref03_Shifted.j0 k a0 a1 true) else (if a0 > 2305843009213693952 then (gongref03_Shifted.j0 k a0 a1 true) else (if a1 < (-1439) then (gongref03_Shifted.j0 k a0 a1 true) else (if a1 > 1439 then (gongref03_Shifted.j0 k a0 a1 true) else (gongref03_Shifted.j0 k a0 a1 (decide ((wrap64 ((wrap64 (Int.tdiv a0 1000000000)) + (wrap64 (a1 * 60)))) < 0))))))) = some (r1, r2) := h
  clear h
  have HC3 := Aside0.mk H
  clear H
  go_enter Tryd.func21, Tryd.ntmps21
  go_upto_region 1 with (fail)
  go_cut [29] (fun v29 wc => ∃ (kq : Nat) (x29_2 : Bool), v29 = .bool x29_2 ∧ Aside0 (gongref03_Shifted.j0 kq a0 a1 x29_2 = some (r1, r2)) ∧ Aside0 (kq ≤ k) ∧ Aside0 (Below w.heap.size w wc))
  case first =>
    have H := HC3.out
    clear HC3
    by_cases c4 : a0 < 0
    · rw [if_pos c4] at H
      have c4b0 : decide (a0 < 0) = true := decide_eq_true c4
      clear c4
      (first | rw [c4b0] | (simp only [i64_w, i32_w]; rw [c4b0]) | skip)
      have H' := Aside0.mk H
      clear H
      go_wp2
      go_meet
      case rel => exact ⟨_, (true), (by first | rfl | (simp; done) | (simp [*]; done) | (simp [*]; exact isEmpty_bne _) | (simp; exact isEmpty_bne _)), H', ⟨by first | omega | exact Nat.le_refl _⟩, ⟨by repeat (first | (with_reducible first | exact HB.out | apply below_alloc | apply pw_below_drewN | apply below_drew1) | exact HB.out)⟩⟩
    · rw [if_neg c4] at H
      have c4b0 : decide (a0 < 0) = false := decide_eq_false c4
      clear c4
      (first | rw [c4b0] | (simp only [i64_w, i32_w]; rw [c4b0]) | skip)
      by_cases c5 : a0 > 2305843009213693952
      · rw [if_pos c5] at H
        have c5b0 : decide (2305843009213693952 < a0) = true := decide_eq_true c5
        clear c5
        have H' := Aside0.mk H
        clear H
        go_wp2
        go_meet
        case rel => exact ⟨_, (true), (by first | rfl | (simp; done) | (simp [*]; done) | (simp [*]; exact isEmpty_bne _) | (simp; exact isEmpty_bne _)), H', ⟨by first | omega | exact Nat.le_refl _⟩, ⟨by repeat (first | (with_reducible first | exact HB.out | apply below_alloc | apply pw_below_drewN | apply below_drew1) | exact HB.out)⟩⟩
      · rw [if_neg c5] at H
        have c5b0 : decide (2305843009213693952 < a0) = false := decide_eq_false c5
        clear c5
        by_cases c6 : a1 < (-1439)
        · rw [if_pos c6] at H
          have c6b0 : decide (a1 < (-1439)) = true := decide_eq_true c6
          clear c6
          have H' := Aside0.mk H
          clear H
          go_wp2
          go_meet
          case rel => exact ⟨_, (true), (by first | rfl | (simp; done) | (simp [*]; done) | (simp [*]; exact isEmpty_bne _) | (simp; exact isEmpty_bne _)), H', ⟨by first | omega | exact Nat.le_refl _⟩, ⟨by repeat (first | (with_reducible first | exact HB.out | apply below_alloc | apply pw_below_drewN | apply below_drew1) | exact HB.out)⟩⟩
        · rw [if_neg c6] at H
          have c6b0 : decide (a1 < (-1439)) = false := decide_eq_false c6
          clear c6
          by_cases c7 : a1 > 1439
          · rw [if_pos c7] at H
            have c7b0 : decide (1439 < a1) = true := decide_eq_true c7
            clear c7
            have H' := Aside0.mk H
            clear H
            go_wp2
            go_meet
            case rel => exact ⟨_, (true), (by first | rfl | (simp; done) | (simp [*]; done) | (simp [*]; exact isEmpty_bne _) | (simp; exact isEmpty_bne _)), H', ⟨by first | omega | exact Nat.le_refl _⟩, ⟨by repeat (first | (with_reducible first | exact HB.out | apply below_alloc | apply pw_below_drewN | apply below_drew1) | exact HB.out)⟩⟩
          · rw [if_neg c7] at H
            have c7b0 : decide (1439 < a1) = false := decide_eq_false c7
            clear c7
            have H' := Aside0.mk H
            clear H
            go_wp2
            go_meet
            case rel => exact ⟨_, (decide ((wrap64 ((wrap64 (Int.tdiv a0 1000000000)) + (wrap64 (a1 * 60)))) < 0)), (by first | rfl | (simp; done) | (simp [*]; done) | (simp [*]; exact isEmpty_bne _) | (simp; exact isEmpty_bne _)), H', ⟨by first | omega | exact Nat.le_refl _⟩, ⟨by repeat (first | (with_reducible first | exact HB.out | apply below_alloc | apply pw_below_drewN | apply below_drew1) | exact HB.out)⟩⟩
  case rest =>
    clear HC3
    try clear c2
    try clear p2
    try clear c4
    try clear c4b0
    try clear c5
    try clear c5b0
    try clear c6
    try clear c6b0
    try clear p6
    try clear c7
    try clear c7b0
    obtain ⟨kq, x29_2, rfl, HA, HJ2, HB⟩ := hcut
    cases kq with
    | zero => exact absurd HA.out (by simp [gongref03_Shifted.j0])
    | succ kj2 =>
      have H := HA.out
      clear HA
      simp only [gongref03_Shifted.j0] at H
      by_cases c8 : x29_2 = true
      · subst c8
        have H1 : (some ((⟨#[]⟩ : ByteArray), 1)) = some (r1, r2) := by rw [if_pos rfl] at H; exact H
        clear H
        have H := H1
        clear H1
        simp only [Option.some.injEq, Prod.mk.injEq] at H
        obtain ⟨rfl, rfl⟩ := H
        go_wp2
        go_ret2
        exact ⟨by first | rfl | (simp only [i64_w, i32_w]; rfl) | (simp [errW_none, errW_some] <;> rfl) | (simp [*, errW_none, errW_some] <;> rfl), by repeat (first | (with_reducible first | exact HB.out | apply below_alloc | apply pw_below_drewN | apply below_drew1) | exact HB.out)⟩
      · replace c8 := Bool.eq_false_iff.mpr c8
        subst c8
        have H1 : (if a1 < 0 then ((gongref03_clock.f kj2 (wrap64 ((wrap64 (Int.tdiv a0 1000000000)) + (wrap64 (a1 * 60)))) (Int.tmod a0 1000000000)).bind fun t185 => (if t185.size + 1 ≤ 9223372036854775807 then ((gongref03_digits.f kj2 (wrap64 (Int.tdiv (wrap64 (-a1)) 60)) 2).bind fun t186 => (if (t185 ++ (⟨#[45]⟩ : ByteArray)).size + t186.size ≤ 9223372036854775807 then (if ((t185 ++ (⟨#[45]⟩ : ByteArray)) ++ t186).size + 1 ≤ 9223372036854775807 then ((gongref03_digits.f kj2 (Int.tmod (wrap64 (-a1)) 60) 2).bind fun t187 => (if (((t185 ++ (⟨#[45]⟩ : ByteArray)) ++ t186) ++ (⟨#[58]⟩ : ByteArray)).size + t187.size ≤ 9223372036854775807 then (some ((((t185 ++ (⟨#[45]⟩ : ByteArray)) ++ t186) ++ (⟨#[58]⟩ : ByteArray)) ++ t187, 0)) else (none))) else (none)) else (none))) else (none))) else ((gongref03_clock.f kj2 (wrap64 ((wrap64 (Int.tdiv a0 1000000000)) + (wrap64 (a1 * 60)))) (Int.tmod a0 1000000000)).bind fun t188 => (if t188.size + 1 ≤ 9223372036854775807 then ((gongref03_digits.f kj2 (wrap64 (Int.tdiv a1 60)) 2).bind fun t189 => (if (t188 ++ (⟨#[43]⟩ : ByteArray)).size + t189.size ≤ 9223372036854775807 then (if ((t188 ++ (⟨#[43]⟩ : ByteArray)) ++ t189).size + 1 ≤ 9223372036854775807 then ((gongref03_digits.f kj2 (Int.tmod a1 60) 2).bind fun t190 => (if (((t188 ++ (⟨#[43]⟩ : ByteArray)) ++ t189) ++ (⟨#[58]⟩ : ByteArray)).size + t190.size ≤ 9223372036854775807 then (some ((((t188 ++ (⟨#[43]⟩ : ByteArray)) ++ t189) ++ (⟨#[58]⟩ : ByteArray)) ++ t190, 0)) else (none))) else (none)) else (none))) else (none)))) = some (r1, r2) := by rw [if_neg (show ¬ (false = true) by decide)] at H; exact H
        clear H
        have H := H1
        clear H1
        by_cases c9 : a1 < 0
        · rw [if_pos c9] at H
          have c9b0 : decide (a1 < 0) = true := decide_eq_true c9
          clear c9
          replace H := Option.bind_eq_some_iff.mp H
          obtain ⟨t185, A100, H⟩ := H
          replace H : (if t185.size + 1 ≤ 9223372036854775807 then ((gongref03_digits.f kj2 (wrap64 (Int.tdiv (wrap64 (-a1)) 60)) 2).bind fun t186 => (if (t185 ++ (⟨#[45]⟩ : ByteArray)).size + t186.size ≤ 9223372036854775807 then (if ((t185 ++ (⟨#[45]⟩ : ByteArray)) ++ t186).size + 1 ≤ 9223372036854775807 then ((gongref03_digits.f kj2 (Int.tmod (wrap64 (-a1)) 60) 2).bind fun t187 => (if (((t185 ++ (⟨#[45]⟩ : ByteArray)) ++ t186) ++ (⟨#[58]⟩ : ByteArray)).size + t187.size ≤ 9223372036854775807 then (some ((((t185 ++ (⟨#[45]⟩ : ByteArray)) ++ t186) ++ (⟨#[58]⟩ : ByteArray)) ++ t187, 0)) else (none))) else (none)) else (none))) else (none)) = some (r1, r2) := H
          have A10 := Aside0.mk A100
          clear A100
          by_cases c11 : t185.size + 1 ≤ 9223372036854775807
          · rw [if_pos c11] at H
            have c11b0 := eq_true c11
            have c11b1 : decide (t185.size + 1 ≤ 9223372036854775807) = true := decide_eq_true c11
            try have c11b2 : (9223372036854775807 < t185.size + 1) = False := eq_false (Nat.not_lt.2 c11)
            replace H := Option.bind_eq_some_iff.mp H
            obtain ⟨t186, A120, H⟩ := H
            replace H : (if (t185 ++ (⟨#[45]⟩ : ByteArray)).size + t186.size ≤ 9223372036854775807 then (if ((t185 ++ (⟨#[45]⟩ : ByteArray)) ++ t186).size + 1 ≤ 9223372036854775807 then ((gongref03_digits.f kj2 (Int.tmod (wrap64 (-a1)) 60) 2).bind fun t187 => (if (((t185 ++ (⟨#[45]⟩ : ByteArray)) ++ t186) ++ (⟨#[58]⟩ : ByteArray)).size + t187.size ≤ 9223372036854775807 then (some ((((t185 ++ (⟨#[45]⟩ : ByteArray)) ++ t186) ++ (⟨#[58]⟩ : ByteArray)) ++ t187, 0)) else (none))) else (none)) else (none)) = some (r1, r2) := H
            have A12 := Aside0.mk A120
            clear A120
            by_cases c13 : (t185 ++ (⟨#[45]⟩ : ByteArray)).size + t186.size ≤ 9223372036854775807
            · rw [if_pos c13] at H
              have c13b0 := eq_true c13
              have c13b1 : decide ((t185 ++ (⟨#[45]⟩ : ByteArray)).size + t186.size ≤ 9223372036854775807) = true := decide_eq_true c13
              try have c13b2 : (9223372036854775807 < (t185 ++ (⟨#[45]⟩ : ByteArray)).size + t186.size) = False := eq_false (Nat.not_lt.2 c13)
              have c13z2 := c13b2
              simp only [ByteArray.size_append] at c13z2
              have c13z3 := c13z2
              try simp only [size_lit1, size_lit2, size_lit3, size_lit4] at c13z3
              by_cases c14 : ((t185 ++ (⟨#[45]⟩ : ByteArray)) ++ t186).size + 1 ≤ 9223372036854775807
              · rw [if_pos c14] at H
                have c14b0 := eq_true c14
                have c14b1 : decide (((t185 ++ (⟨#[45]⟩ : ByteArray)) ++ t186).size + 1 ≤ 9223372036854775807) = true := decide_eq_true c14
                try have c14b2 : (9223372036854775807 < ((t185 ++ (⟨#[45]⟩ : ByteArray)) ++ t186).size + 1) = False := eq_false (Nat.not_lt.2 c14)
                have c14z2 := c14b2
                simp only [ByteArray.size_append] at c14z2
                have c14z3 := c14z2
                try simp only [size_lit1, size_lit2, size_lit3, size_lit4] at c14z3
                replace H := Option.bind_eq_some_iff.mp H
                obtain ⟨t187, A150, H⟩ := H
                replace H : (if (((t185 ++ (⟨#[45]⟩ : ByteArray)) ++ t186) ++ (⟨#[58]⟩ : ByteArray)).size + t187.size ≤ 9223372036854775807 then (some ((((t185 ++ (⟨#[45]⟩ : ByteArray)) ++ t186) ++ (⟨#[58]⟩ : ByteArray)) ++ t187, 0)) else (none)) = some (r1, r2) := H
                have A15 := Aside0.mk A150
                clear A150
                by_cases c16 : (((t185 ++ (⟨#[45]⟩ : ByteArray)) ++ t186) ++ (⟨#[58]⟩ : ByteArray)).size + t187.size ≤ 9223372036854775807
                · rw [if_pos c16] at H
                  have c16b0 := eq_true c16
                  have c16b1 : decide ((((t185 ++ (⟨#[45]⟩ : ByteArray)) ++ t186) ++ (⟨#[58]⟩ : ByteArray)).size + t187.size ≤ 9223372036854775807) = true := decide_eq_true c16
                  try have c16b2 : (9223372036854775807 < (((t185 ++ (⟨#[45]⟩ : ByteArray)) ++ t186) ++ (⟨#[58]⟩ : ByteArray)).size + t187.size) = False := eq_false (Nat.not_lt.2 c16)
                  have c16z2 := c16b2
                  simp only [ByteArray.size_append] at c16z2
                  have c16z3 := c16z2
                  try simp only [size_lit1, size_lit2, size_lit3, size_lit4] at c16z3
                  simp only [Option.some.injEq, Prod.mk.injEq] at H
                  obtain ⟨rfl, rfl⟩ := H
                  go_wp2_with (first | ((with_reducible refine gate_callee (f := 53) rfl ?_); refine goesL_ (some 42) rfl rfl Tryd.func53 (by kernel_rfl) rfl #[.int .i64 (wrap64 ((wrap64 (Int.tdiv a0 1000000000)) + (wrap64 (a1 * 60)))), .int .i64 (Int.tmod a0 1000000000)] rfl (by (try simp only [List.map_toArray, List.map_cons, List.map_nil]); first | done | rfl | (simp only [List.length_drop, List.length_take]; rfl)) ?_; (with_reducible refine (gongref03_clock.calls kj2 (wrap64 ((wrap64 (Int.tdiv a0 1000000000)) + (wrap64 (a1 * 60)))) (Int.tmod a0 1000000000) t185 _ A10.out).mono ?_); rintro e w17 ⟨rfl, hb⟩; refine ⟨_, rfl, ?_⟩; have n0_ := Aside0.mk (below_step (by repeat (first | (with_reducible first | exact HB.out | apply below_alloc | apply pw_below_drewN | apply below_drew1) | exact HB.out)) hb); clear HB; have HB := n0_; clear n0_; (try clear hb); (try clear hb2); (try clear hk); (try clear hi)) | ((with_reducible refine gate_callee (f := 55) rfl ?_); refine goesL_ (some 47) rfl rfl Tryd.func55 (by kernel_rfl) rfl #[.int .i64 (wrap64 (Int.tdiv (wrap64 (-a1)) 60)), .int .i64 2] rfl (by (try simp only [List.map_toArray, List.map_cons, List.map_nil]); first | done | rfl | (simp only [List.length_drop, List.length_take]; rfl)) ?_; (with_reducible refine (gongref03_digits.calls kj2 (wrap64 (Int.tdiv (wrap64 (-a1)) 60)) 2 t186 _ A12.out).mono ?_); rintro e w18 ⟨rfl, hb⟩; refine ⟨_, rfl, ?_⟩; have n0_ := Aside0.mk (below_step (by repeat (first | (with_reducible first | exact HB.out | apply below_alloc | apply pw_below_drewN | apply below_drew1) | exact HB.out)) hb); clear HB; have HB := n0_; clear n0_; (try clear hb); (try clear hb2); (try clear hk); (try clear hi)) | ((with_reducible refine gate_callee (f := 55) rfl ?_); refine goesL_ (some 52) rfl rfl Tryd.func55 (by kernel_rfl) rfl #[.int .i64 (Int.tmod (wrap64 (-a1)) 60), .int .i64 2] rfl (by (try simp only [List.map_toArray, List.map_cons, List.map_nil]); first | done | rfl | (simp only [List.length_drop, List.length_take]; rfl)) ?_; (with_reducible refine (gongref03_digits.calls kj2 (Int.tmod (wrap64 (-a1)) 60) 2 t187 _ A15.out).mono ?_); rintro e w19 ⟨rfl, hb⟩; refine ⟨_, rfl, ?_⟩; have n0_ := Aside0.mk (below_step (by repeat (first | (with_reducible first | exact HB.out | apply below_alloc | apply pw_below_drewN | apply below_drew1) | exact HB.out)) hb); clear HB; have HB := n0_; clear n0_; (try clear hb); (try clear hb2); (try clear hk); (try clear hi)))
                  go_ret2
                  exact ⟨by first | rfl | (simp only [i64_w, i32_w]; rfl) | (simp [errW_none, errW_some] <;> rfl) | (simp [*, errW_none, errW_some] <;> rfl), by repeat (first | (with_reducible first | exact HB.out | apply below_alloc | apply pw_below_drewN | apply below_drew1) | exact HB.out)⟩
                · rw [if_neg c16] at H
                  exact absurd H (by simp)
              · rw [if_neg c14] at H
                exact absurd H (by simp)
            · rw [if_neg c13] at H
              exact absurd H (by simp)
          · rw [if_neg c11] at H
            exact absurd H (by simp)
        · rw [if_neg c9] at H
          have c9b0 : decide (a1 < 0) = false := decide_eq_false c9
          clear c9
          replace H := Option.bind_eq_some_iff.mp H
          obtain ⟨t188, A200, H⟩ := H
          replace H : (if t188.size + 1 ≤ 9223372036854775807 then ((gongref03_digits.f kj2 (wrap64 (Int.tdiv a1 60)) 2).bind fun t189 => (if (t188 ++ (⟨#[43]⟩ : ByteArray)).size + t189.size ≤ 9223372036854775807 then (if ((t188 ++ (⟨#[43]⟩ : ByteArray)) ++ t189).size + 1 ≤ 9223372036854775807 then ((gongref03_digits.f kj2 (Int.tmod a1 60) 2).bind fun t190 => (if (((t188 ++ (⟨#[43]⟩ : ByteArray)) ++ t189) ++ (⟨#[58]⟩ : ByteArray)).size + t190.size ≤ 9223372036854775807 then (some ((((t188 ++ (⟨#[43]⟩ : ByteArray)) ++ t189) ++ (⟨#[58]⟩ : ByteArray)) ++ t190, 0)) else (none))) else (none)) else (none))) else (none)) = some (r1, r2) := H
          have A20 := Aside0.mk A200
          clear A200
          by_cases c21 : t188.size + 1 ≤ 9223372036854775807
          · rw [if_pos c21] at H
            have c21b0 := eq_true c21
            have c21b1 : decide (t188.size + 1 ≤ 9223372036854775807) = true := decide_eq_true c21
            try have c21b2 : (9223372036854775807 < t188.size + 1) = False := eq_false (Nat.not_lt.2 c21)
            replace H := Option.bind_eq_some_iff.mp H
            obtain ⟨t189, A220, H⟩ := H
            replace H : (if (t188 ++ (⟨#[43]⟩ : ByteArray)).size + t189.size ≤ 9223372036854775807 then (if ((t188 ++ (⟨#[43]⟩ : ByteArray)) ++ t189).size + 1 ≤ 9223372036854775807 then ((gongref03_digits.f kj2 (Int.tmod a1 60) 2).bind fun t190 => (if (((t188 ++ (⟨#[43]⟩ : ByteArray)) ++ t189) ++ (⟨#[58]⟩ : ByteArray)).size + t190.size ≤ 9223372036854775807 then (some ((((t188 ++ (⟨#[43]⟩ : ByteArray)) ++ t189) ++ (⟨#[58]⟩ : ByteArray)) ++ t190, 0)) else (none))) else (none)) else (none)) = some (r1, r2) := H
            have A22 := Aside0.mk A220
            clear A220
            by_cases c23 : (t188 ++ (⟨#[43]⟩ : ByteArray)).size + t189.size ≤ 9223372036854775807
            · rw [if_pos c23] at H
              have c23b0 := eq_true c23
              have c23b1 : decide ((t188 ++ (⟨#[43]⟩ : ByteArray)).size + t189.size ≤ 9223372036854775807) = true := decide_eq_true c23
              try have c23b2 : (9223372036854775807 < (t188 ++ (⟨#[43]⟩ : ByteArray)).size + t189.size) = False := eq_false (Nat.not_lt.2 c23)
              have c23z2 := c23b2
              simp only [ByteArray.size_append] at c23z2
              have c23z3 := c23z2
              try simp only [size_lit1, size_lit2, size_lit3, size_lit4] at c23z3
              by_cases c24 : ((t188 ++ (⟨#[43]⟩ : ByteArray)) ++ t189).size + 1 ≤ 9223372036854775807
              · rw [if_pos c24] at H
                have c24b0 := eq_true c24
                have c24b1 : decide (((t188 ++ (⟨#[43]⟩ : ByteArray)) ++ t189).size + 1 ≤ 9223372036854775807) = true := decide_eq_true c24
                try have c24b2 : (9223372036854775807 < ((t188 ++ (⟨#[43]⟩ : ByteArray)) ++ t189).size + 1) = False := eq_false (Nat.not_lt.2 c24)
                have c24z2 := c24b2
                simp only [ByteArray.size_append] at c24z2
                have c24z3 := c24z2
                try simp only [size_lit1, size_lit2, size_lit3, size_lit4] at c24z3
                replace H := Option.bind_eq_some_iff.mp H
                obtain ⟨t190, A250, H⟩ := H
                replace H : (if (((t188 ++ (⟨#[43]⟩ : ByteArray)) ++ t189) ++ (⟨#[58]⟩ : ByteArray)).size + t190.size ≤ 9223372036854775807 then (some ((((t188 ++ (⟨#[43]⟩ : ByteArray)) ++ t189) ++ (⟨#[58]⟩ : ByteArray)) ++ t190, 0)) else (none)) = some (r1, r2) := H
                have A25 := Aside0.mk A250
                clear A250
                by_cases c26 : (((t188 ++ (⟨#[43]⟩ : ByteArray)) ++ t189) ++ (⟨#[58]⟩ : ByteArray)).size + t190.size ≤ 9223372036854775807
                · rw [if_pos c26] at H
                  have c26b0 := eq_true c26
                  have c26b1 : decide ((((t188 ++ (⟨#[43]⟩ : ByteArray)) ++ t189) ++ (⟨#[58]⟩ : ByteArray)).size + t190.size ≤ 9223372036854775807) = true := decide_eq_true c26
                  try have c26b2 : (9223372036854775807 < (((t188 ++ (⟨#[43]⟩ : ByteArray)) ++ t189) ++ (⟨#[58]⟩ : ByteArray)).size + t190.size) = False := eq_false (Nat.not_lt.2 c26)
                  have c26z2 := c26b2
                  simp only [ByteArray.size_append] at c26z2
                  have c26z3 := c26z2
                  try simp only [size_lit1, size_lit2, size_lit3, size_lit4] at c26z3
                  simp only [Option.some.injEq, Prod.mk.injEq] at H
                  obtain ⟨rfl, rfl⟩ := H
                  go_wp2_with (first | ((with_reducible refine gate_callee (f := 53) rfl ?_); refine goesL_ (some 42) rfl rfl Tryd.func53 (by kernel_rfl) rfl #[.int .i64 (wrap64 ((wrap64 (Int.tdiv a0 1000000000)) + (wrap64 (a1 * 60)))), .int .i64 (Int.tmod a0 1000000000)] rfl (by (try simp only [List.map_toArray, List.map_cons, List.map_nil]); first | done | rfl | (simp only [List.length_drop, List.length_take]; rfl)) ?_; (with_reducible refine (gongref03_clock.calls kj2 (wrap64 ((wrap64 (Int.tdiv a0 1000000000)) + (wrap64 (a1 * 60)))) (Int.tmod a0 1000000000) t188 _ A20.out).mono ?_); rintro e w27 ⟨rfl, hb⟩; refine ⟨_, rfl, ?_⟩; have n0_ := Aside0.mk (below_step (by repeat (first | (with_reducible first | exact HB.out | apply below_alloc | apply pw_below_drewN | apply below_drew1) | exact HB.out)) hb); clear HB; have HB := n0_; clear n0_; (try clear hb); (try clear hb2); (try clear hk); (try clear hi)) | ((with_reducible refine gate_callee (f := 55) rfl ?_); refine goesL_ (some 47) rfl rfl Tryd.func55 (by kernel_rfl) rfl #[.int .i64 (wrap64 (Int.tdiv a1 60)), .int .i64 2] rfl (by (try simp only [List.map_toArray, List.map_cons, List.map_nil]); first | done | rfl | (simp only [List.length_drop, List.length_take]; rfl)) ?_; (with_reducible refine (gongref03_digits.calls kj2 (wrap64 (Int.tdiv a1 60)) 2 t189 _ A22.out).mono ?_); rintro e w28 ⟨rfl, hb⟩; refine ⟨_, rfl, ?_⟩; have n0_ := Aside0.mk (below_step (by repeat (first | (with_reducible first | exact HB.out | apply below_alloc | apply pw_below_drewN | apply below_drew1) | exact HB.out)) hb); clear HB; have HB := n0_; clear n0_; (try clear hb); (try clear hb2); (try clear hk); (try clear hi)) | ((with_reducible refine gate_callee (f := 55) rfl ?_); refine goesL_ (some 52) rfl rfl Tryd.func55 (by kernel_rfl) rfl #[.int .i64 (Int.tmod a1 60), .int .i64 2] rfl (by (try simp only [List.map_toArray, List.map_cons, List.map_nil]); first | done | rfl | (simp only [List.length_drop, List.length_take]; rfl)) ?_; (with_reducible refine (gongref03_digits.calls kj2 (Int.tmod a1 60) 2 t190 _ A25.out).mono ?_); rintro e w29 ⟨rfl, hb⟩; refine ⟨_, rfl, ?_⟩; have n0_ := Aside0.mk (below_step (by repeat (first | (with_reducible first | exact HB.out | apply below_alloc | apply pw_below_drewN | apply below_drew1) | exact HB.out)) hb); clear HB; have HB := n0_; clear n0_; (try clear hb); (try clear hb2); (try clear hk); (try clear hi)))
                  go_ret2
                  exact ⟨by first | rfl | (simp only [i64_w, i32_w]; rfl) | (simp [errW_none, errW_some] <;> rfl) | (simp [*, errW_none, errW_some] <;> rfl), by repeat (first | (with_reducible first | exact HB.out | apply below_alloc | apply pw_below_drewN | apply below_drew1) | exact HB.out)⟩
                · rw [if_neg c26] at H
                  exact absurd H (by simp)
              · rw [if_neg c24] at H
                exact absurd H (by simp)
            · rw [if_neg c23] at H
              exact absurd H (by simp)
          · rw [if_neg c21] at H
            exact absurd H (by simp)

end Go.Proofs.YtjcenencgnfffaaDoor.XStW
