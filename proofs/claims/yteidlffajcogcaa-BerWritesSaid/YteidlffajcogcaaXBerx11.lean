-- Laid by extprint.py (the session's own driver): functions told by the kit's printer and by hand.
import Derived.Test.YteidlffajcogcaaXBerx0
import Derived.Test.YteidlffajcogcaaXBerx2
import Derived.Test.YteidlffajcogcaaXBerx4
import Derived.Test.YteidlffajcogcaaXBerx10
namespace Go.Proofs.Yteidlffajcogcaa.XBer
open Go.RowKit Gong Go.Proofs.YteidlffajcogcaaW.PrintWords Go.Proofs.YteidlffajcogcaaW.PrintLast Go.Proofs.YteidlffajcogcaaW.PrintMore
attribute [local go_sem] max2_int min2_int max_two min_two max_three min_three max_four min_four   -- for this text's walks alone
set_option linter.unusedVariables false
set_option linter.unusedSimpArgs false

/-! ### gonglaw05_grown: function 46 -/
mutual
def gonglaw05_grown.l0 : Nat → List Int → List ByteArray → Int → Option (ByteArray)
  | 0, _, _, _ => none
  | k + 1, x0, x3, x4 => if x4 < (x0.length : Int) then (gonglaw05_grown.j1 k x0 x3 x4 (decide (x4 < 60))) else (gonglaw05_grown.j1 k x0 x3 x4 false)
def gonglaw05_grown.j1 : Nat → List Int → List ByteArray → Int → Bool → Option (ByteArray)
  | 0, _, _, _, _ => none
  | k + 1, x0, x3, x4, x24 => if x24 = true then (if 0 ≤ x4 then (if x4 < (x0.length : Int) then ((gongbook_Below.f (rd x0 x4) 5).bind fun t234 => (if t234 = 0 then (gonglaw05_grown.j2 k x0 x3 x4 (wrap64 ((x3.length : Int) - 1)) t234 (decide ((x3.length : Int) < 12))) else (gonglaw05_grown.j2 k x0 x3 x4 (wrap64 ((x3.length : Int) - 1)) t234 false))) else (none)) else (none)) else (gonglaw05_grown.l1 k x3)
def gonglaw05_grown.j2 : Nat → List Int → List ByteArray → Int → Int → Int → Bool → Option (ByteArray)
  | 0, _, _, _, _, _, _ => none
  | k + 1, x0, x3, x4, x5, x6, x52 => if x52 = true then (if x3.length < 8796093022208 then (gonglaw05_grown.l0 k x0 (x3 ++ [(⟨#[]⟩ : ByteArray)]) (wrap64 (x4 + 1))) else (none)) else (if x6 = 1 then (gonglaw05_grown.j3 k x0 x3 x4 x5 (decide (x5 > 0))) else (gonglaw05_grown.j3 k x0 x3 x4 x5 false))
def gonglaw05_grown.j3 : Nat → List Int → List ByteArray → Int → Int → Bool → Option (ByteArray)
  | 0, _, _, _, _, _ => none
  | k + 1, x0, x3, x4, x5, x63 => if x63 = true then (if 0 ≤ x5 then (if x5 < (x3.length : Int) then ((ber_Wrap.f k 48 (rdOf ByteArray.empty x3 x5)).bind fun bt239 => (if x5 ≤ (x3.length : Int) then ((some (x3.take (x5 : Int).toNat : List ByteArray)).bind fun y241 => (if 0 ≤ (wrap64 (x5 - 1)) then (if (wrap64 (x5 - 1)) < (y241.length : Int) then (if (rdOf ByteArray.empty y241 (wrap64 (x5 - 1))).size + bt239.1.size ≤ 9223372036854775807 then (gonglaw05_grown.l0 k x0 (y241.set ((wrap64 (x5 - 1)) : Int).toNat ((rdOf ByteArray.empty y241 (wrap64 (x5 - 1))) ++ bt239.1)) (wrap64 (x4 + 1))) else (none)) else (none)) else (none))) else (none))) else (none)) else (none)) else (if 0 ≤ x4 then (if x4 < (x0.length : Int) then ((gongbook_Below.f (rd x0 x4) 200).bind fun t247 => ((strings_Repeat.f (⟨#[120]⟩ : ByteArray) t247).bind fun t248 => ((ber_Wrap.f k 4 t248).bind fun bt249 => (if 0 ≤ x5 then (if x5 < (x3.length : Int) then (if (rdOf ByteArray.empty x3 x5).size + bt249.1.size ≤ 9223372036854775807 then (gonglaw05_grown.l0 k x0 (x3.set (x5 : Int).toNat ((rdOf ByteArray.empty x3 x5) ++ bt249.1)) (wrap64 (x4 + 1))) else (none)) else (none)) else (none))))) else (none)) else (none))
def gonglaw05_grown.l1 : Nat → List ByteArray → Option (ByteArray)
  | 0, _ => none
  | k + 1, x3 => if (x3.length : Int) > 1 then (if 0 ≤ (wrap64 ((x3.length : Int) - 1)) then (if (wrap64 ((x3.length : Int) - 1)) < (x3.length : Int) then ((ber_Wrap.f k 48 (rdOf ByteArray.empty x3 (wrap64 ((x3.length : Int) - 1)))).bind fun bt254 => (if (wrap64 ((x3.length : Int) - 1)) ≤ (x3.length : Int) then ((some (x3.take ((wrap64 ((x3.length : Int) - 1)) : Int).toNat : List ByteArray)).bind fun y256 => (if 0 ≤ (wrap64 ((wrap64 ((x3.length : Int) - 1)) - 1)) then (if (wrap64 ((wrap64 ((x3.length : Int) - 1)) - 1)) < (y256.length : Int) then (if (rdOf ByteArray.empty y256 (wrap64 ((wrap64 ((x3.length : Int) - 1)) - 1))).size + bt254.1.size ≤ 9223372036854775807 then (gonglaw05_grown.l1 k (y256.set ((wrap64 ((wrap64 ((x3.length : Int) - 1)) - 1)) : Int).toNat ((rdOf ByteArray.empty y256 (wrap64 ((wrap64 ((x3.length : Int) - 1)) - 1))) ++ bt254.1))) else (none)) else (none)) else (none))) else (none))) else (none)) else (none)) else (if 0 < (x3.length : Int) then ((ber_Wrap.f k 48 (rdOf ByteArray.empty x3 0)).bind fun bt262 => (some bt262.1)) else (none))
end
def gonglaw05_grown.f (k : Nat) (l0 : List Int) : Option (ByteArray) := gonglaw05_grown.l0 k l0 (([(⟨#[]⟩ : ByteArray)] : List ByteArray)) 0
theorem gonglaw05_grown.mono_l : ∀ k, (∀ y0 y1 y2, LeO (gonglaw05_grown.l0 k y0 y1 y2) (gonglaw05_grown.l0 (k + 1) y0 y1 y2)) ∧ (∀ y0 y1 y2 y3, LeO (gonglaw05_grown.j1 k y0 y1 y2 y3) (gonglaw05_grown.j1 (k + 1) y0 y1 y2 y3)) ∧ (∀ y0 y1 y2 y3 y4 y5, LeO (gonglaw05_grown.j2 k y0 y1 y2 y3 y4 y5) (gonglaw05_grown.j2 (k + 1) y0 y1 y2 y3 y4 y5)) ∧ (∀ y0 y1 y2 y3 y4, LeO (gonglaw05_grown.j3 k y0 y1 y2 y3 y4) (gonglaw05_grown.j3 (k + 1) y0 y1 y2 y3 y4)) ∧ (∀ y0, LeO (gonglaw05_grown.l1 k y0) (gonglaw05_grown.l1 (k + 1) y0))
  | 0 => ⟨fun _ _ _ r h => by simp [gonglaw05_grown.l0] at h, fun _ _ _ _ r h => by simp [gonglaw05_grown.j1] at h, fun _ _ _ _ _ _ r h => by simp [gonglaw05_grown.j2] at h, fun _ _ _ _ _ r h => by simp [gonglaw05_grown.j3] at h, fun _ r h => by simp [gonglaw05_grown.l1] at h⟩
  | k + 1 => by
    obtain ⟨ih0, ih1, ih2, ih3, ih4⟩ := gonglaw05_grown.mono_l k
    refine ⟨?_, ?_, ?_, ?_, ?_⟩
    · intro y0 y1 y2
      unfold gonglaw05_grown.l0
      repeat' first
      | (with_reducible exact ih0 _ _ _)
      | (with_reducible exact ih1 _ _ _ _)
      | (with_reducible exact ih2 _ _ _ _ _ _)
      | (with_reducible exact ih3 _ _ _ _ _)
      | (with_reducible exact ih4 _)
      | (with_reducible exact ber_Wrap.mono _ _ _)
      | (with_reducible exact LeO.refl _)
      | (with_reducible exact LeO.none _)
      | (with_reducible refine LeO.ite ?_ ?_)
      | (with_reducible refine LeO.bind ?_ (fun _ => ?_))
      | exact ih0 _ _ _
      | exact ih1 _ _ _ _
      | exact ih2 _ _ _ _ _ _
      | exact ih3 _ _ _ _ _
      | exact ih4 _
      | exact ber_Wrap.mono _ _ _
      | exact LeO.none _
      | refine LeO.ite ?_ ?_
      | refine LeO.bind ?_ (fun _ => ?_)
    · intro y0 y1 y2 y3
      unfold gonglaw05_grown.j1
      repeat' first
      | (with_reducible exact ih0 _ _ _)
      | (with_reducible exact ih1 _ _ _ _)
      | (with_reducible exact ih2 _ _ _ _ _ _)
      | (with_reducible exact ih3 _ _ _ _ _)
      | (with_reducible exact ih4 _)
      | (with_reducible exact ber_Wrap.mono _ _ _)
      | (with_reducible exact LeO.refl _)
      | (with_reducible exact LeO.none _)
      | (with_reducible refine LeO.ite ?_ ?_)
      | (with_reducible refine LeO.bind ?_ (fun _ => ?_))
      | exact ih0 _ _ _
      | exact ih1 _ _ _ _
      | exact ih2 _ _ _ _ _ _
      | exact ih3 _ _ _ _ _
      | exact ih4 _
      | exact ber_Wrap.mono _ _ _
      | exact LeO.none _
      | refine LeO.ite ?_ ?_
      | refine LeO.bind ?_ (fun _ => ?_)
    · intro y0 y1 y2 y3 y4 y5
      unfold gonglaw05_grown.j2
      repeat' first
      | (with_reducible exact ih0 _ _ _)
      | (with_reducible exact ih1 _ _ _ _)
      | (with_reducible exact ih2 _ _ _ _ _ _)
      | (with_reducible exact ih3 _ _ _ _ _)
      | (with_reducible exact ih4 _)
      | (with_reducible exact ber_Wrap.mono _ _ _)
      | (with_reducible exact LeO.refl _)
      | (with_reducible exact LeO.none _)
      | (with_reducible refine LeO.ite ?_ ?_)
      | (with_reducible refine LeO.bind ?_ (fun _ => ?_))
      | exact ih0 _ _ _
      | exact ih1 _ _ _ _
      | exact ih2 _ _ _ _ _ _
      | exact ih3 _ _ _ _ _
      | exact ih4 _
      | exact ber_Wrap.mono _ _ _
      | exact LeO.none _
      | refine LeO.ite ?_ ?_
      | refine LeO.bind ?_ (fun _ => ?_)
    · intro y0 y1 y2 y3 y4
      unfold gonglaw05_grown.j3
      repeat' first
      | (with_reducible exact ih0 _ _ _)
      | (with_reducible exact ih1 _ _ _ _)
      | (with_reducible exact ih2 _ _ _ _ _ _)
      | (with_reducible exact ih3 _ _ _ _ _)
      | (with_reducible exact ih4 _)
      | (with_reducible exact ber_Wrap.mono _ _ _)
      | (with_reducible exact LeO.refl _)
      | (with_reducible exact LeO.none _)
      | (with_reducible refine LeO.ite ?_ ?_)
      | (with_reducible refine LeO.bind ?_ (fun _ => ?_))
      | exact ih0 _ _ _
      | exact ih1 _ _ _ _
      | exact ih2 _ _ _ _ _ _
      | exact ih3 _ _ _ _ _
      | exact ih4 _
      | exact ber_Wrap.mono _ _ _
      | exact LeO.none _
      | refine LeO.ite ?_ ?_
      | refine LeO.bind ?_ (fun _ => ?_)
    · intro y0
      unfold gonglaw05_grown.l1
      repeat' first
      | (with_reducible exact ih0 _ _ _)
      | (with_reducible exact ih1 _ _ _ _)
      | (with_reducible exact ih2 _ _ _ _ _ _)
      | (with_reducible exact ih3 _ _ _ _ _)
      | (with_reducible exact ih4 _)
      | (with_reducible exact ber_Wrap.mono _ _ _)
      | (with_reducible exact LeO.refl _)
      | (with_reducible exact LeO.none _)
      | (with_reducible refine LeO.ite ?_ ?_)
      | (with_reducible refine LeO.bind ?_ (fun _ => ?_))
      | exact ih0 _ _ _
      | exact ih1 _ _ _ _
      | exact ih2 _ _ _ _ _ _
      | exact ih3 _ _ _ _ _
      | exact ih4 _
      | exact ber_Wrap.mono _ _ _
      | exact LeO.none _
      | refine LeO.ite ?_ ?_
      | refine LeO.bind ?_ (fun _ => ?_)
theorem gonglaw05_grown.mono : ∀ a0 k, LeO (gonglaw05_grown.f k a0) (gonglaw05_grown.f (k + 1) a0) := by
  intro a0 k
  obtain ⟨ih0, ih1, ih2, ih3, ih4⟩ := gonglaw05_grown.mono_l k
  unfold gonglaw05_grown.f
  repeat' first
      | (with_reducible exact ih0 _ _ _)
      | (with_reducible exact ih1 _ _ _ _)
      | (with_reducible exact ih2 _ _ _ _ _ _)
      | (with_reducible exact ih3 _ _ _ _ _)
      | (with_reducible exact ih4 _)
      | (with_reducible exact ber_Wrap.mono _ _ _)
      | (with_reducible exact LeO.refl _)
      | (with_reducible exact LeO.none _)
      | (with_reducible refine LeO.ite ?_ ?_)
      | (with_reducible refine LeO.bind ?_ (fun _ => ?_))
      | exact ih0 _ _ _
      | exact ih1 _ _ _ _
      | exact ih2 _ _ _ _ _ _
      | exact ih3 _ _ _ _ _
      | exact ih4 _
      | exact ber_Wrap.mono _ _ _
      | exact LeO.none _
      | refine LeO.ite ?_ ?_
      | refine LeO.bind ?_ (fun _ => ?_)
set_option maxHeartbeats 8000000 in
set_option maxRecDepth 100000 in
theorem gonglaw05_grown.calls (k : Nat) (A0 : Option Addr) (c0 : Nat) (l0 : List Int) (r : ByteArray) (w : World) (hr0 : Kd.C (Kd.int .i64) w A0 l0.length l0) (hc0 : l0.length ≤ c0) (h : gonglaw05_grown.f k l0 = some r) :
    Calls Try.prog 46 #[.slice A0 l0.length c0] w fun e w' => e = .returned (.string r) ∧ Below w.heap.size w w' := by
  have HR0 := Aside0.mk hr0
  have HC0 := Aside0.mk hc0
  clear hr0 hc0
  have HB := Aside0.mk (Below.refl w.heap.size w)
  have H : (gonglaw05_grown.l0 k l0 (([(⟨#[]⟩ : ByteArray)] : List ByteArray)) 0) = some r := h
  clear h
  obtain ⟨y230, hy230⟩ : ∃ y_ : List ByteArray, y_ = (([(⟨#[]⟩ : ByteArray)] : List ByteArray)) := ⟨_, rfl⟩
  replace H : (gonglaw05_grown.l0 k l0 y230 0) = some r := by first | (rw [hy230]; with_reducible exact H) | (have H2_ := (Option.bind_some _ _).symm.trans H; rw [hy230]; with_reducible exact H2_) | (have H2_ := (Option.bind_some _ _).symm.trans H; with_reducible exact H2_) | with_reducible exact H | (rw [hy230]; exact H) | exact H
  have Ny230 := Aside0.mk hy230
  clear hy230
  have H' := Aside0.mk H
  clear H
  go_enter Try.func46, Try.ntmps46
  go_wp2_with (first | ((with_reducible refine gate_dst (N := 16) rfl ?_); (try (refine gate_guard (by rfl) ?_; dsimp only)); refine Kd.R_lit Kd.string _ 9 ?hg (N := 16) ?hd (xs := ([(⟨#[]⟩ : ByteArray)] : List ByteArray)) (inner := [.string (⟨#[]⟩ : ByteArray)]) (ok := fun _ => True) (okp := fun _ => True) ?hr ?hp (fun _ hk => hk) trivial (Below.refl _ _) (Nat.le_refl _) (by simp) ?_; (case hd => rfl); (case hg => rfl); (case hr => first | (go_simp; done) | (go_simp; rfl)); (case hp => exact (Reps.one (show Kd.M Kd.string _ _ _ (⟨#[]⟩ : ByteArray) [.string (⟨#[]⟩ : ByteArray)] from rfl) (Reps.none _ _))); intro v231 w2 ho3 hb hg_ hnew_; clear hg_ hnew_; (first | rw [← Ny230.out] at ho3 | (simp only [Int.reduceToNat] at ho3; rw [← Ny230.out] at ho3)); have n0_ := Aside0.mk (Kd.R_lower ho3 (below_size (by repeat (first | (with_reducible first | exact HB.out | apply below_alloc | apply pw_below_drewN | apply below_drew1) | exact HB.out)))); have n1_ := Aside0.mk (below_step (by repeat (first | (with_reducible first | exact HB.out | apply below_alloc | apply pw_below_drewN | apply below_drew1) | exact HB.out)) hb); clear HB; have HO232 := n0_; have HB := n1_; clear n0_ n1_; clear hb ho3))
  go_loopg [3, 4] k (fun kq v3 v4 w' => ∃ (x3_1 : List ByteArray) (x4_1 : Int), v4 = .int .i64 x4_1 ∧ Aside0 (gonglaw05_grown.l0 kq l0 x3_1 x4_1 = some r) ∧ Aside0 (kq ≤ k) ∧ Aside0 (Kd.R Kd.string 9 w' w.heap.size (fun _ => True) v3 x3_1) ∧ Aside0 (Below w.heap.size w w'))
  case atStart => exact ⟨(y230), (0), (by first | rfl | (simp; done) | (simp [*]; done)), H', ⟨Nat.le_refl _⟩, ⟨by (with_reducible repeat (first | apply Kd.R_alloc | apply Kd.R_drewN | apply Kd.R_drew)); exact HO232.out⟩, ⟨by repeat (first | (with_reducible first | exact HB.out | apply below_alloc | apply pw_below_drewN | apply below_drew1) | exact HB.out)⟩⟩
  case round =>
    clear H'
    try clear p2
    obtain ⟨x3_1, x4_1, rfl, HA, HK1, HO_3, HB⟩ := hrel
    cases gk with
    | zero => exact absurd HA.out (by simp [gonglaw05_grown.l0])
    | succ k1 =>
      have H := HA.out
      clear HA
      simp only [gonglaw05_grown.l0] at H
      have HC4 := Aside0.mk H
      clear H
      go_upto_region 3 with (fail)
      go_cut [24] (fun v24 wc => ∃ (kq : Nat) (x24_3 : Bool), v24 = .bool x24_3 ∧ Aside0 (gonglaw05_grown.j1 kq l0 x3_1 x4_1 x24_3 = some r) ∧ Aside0 (kq ≤ k1) ∧ Aside0 (Kd.R Kd.string 9 wc w.heap.size (fun _ => True) u3 x3_1) ∧ Aside0 (Below w.heap.size w wc))
      case first =>
        have H := HC4.out
        clear HC4
        by_cases c5 : x4_1 < (l0.length : Int)
        · rw [if_pos c5] at H
          have c5b0 : decide (x4_1 < (l0.length : Int)) = true := decide_eq_true c5
          clear c5
          (first | rw [c5b0] | (simp only [i64_w, i32_w]; rw [c5b0]) | skip)
          have H' := Aside0.mk H
          clear H
          go_wp2
          go_meet
          case rel => exact ⟨_, (decide (x4_1 < 60)), (by first | rfl | (simp; done) | (simp [*]; done)), H', ⟨by have := HK1.out; first | omega | exact Nat.le_refl _⟩, ⟨by (with_reducible repeat (first | apply Kd.R_alloc | apply Kd.R_drewN | apply Kd.R_drew)); exact HO_3.out⟩, ⟨by repeat (first | (with_reducible first | exact HB.out | apply below_alloc | apply pw_below_drewN | apply below_drew1) | exact HB.out)⟩⟩
        · rw [if_neg c5] at H
          have c5b0 : decide (x4_1 < (l0.length : Int)) = false := decide_eq_false c5
          clear c5
          (first | rw [c5b0] | (simp only [i64_w, i32_w]; rw [c5b0]) | skip)
          have H' := Aside0.mk H
          clear H
          go_wp2
          go_meet
          case rel => exact ⟨_, (false), (by first | rfl | (simp; done) | (simp [*]; done)), H', ⟨by have := HK1.out; first | omega | exact Nat.le_refl _⟩, ⟨by (with_reducible repeat (first | apply Kd.R_alloc | apply Kd.R_drewN | apply Kd.R_drew)); exact HO_3.out⟩, ⟨by repeat (first | (with_reducible first | exact HB.out | apply below_alloc | apply pw_below_drewN | apply below_drew1) | exact HB.out)⟩⟩
      case rest =>
        clear HC4
        try clear p2
        try clear c4
        try clear c5
        try clear c5b0
        try clear p2
        obtain ⟨kq, x24_3, rfl, HA, HJ3, HO_3, HB⟩ := hcut
        cases kq with
        | zero => exact absurd HA.out (by simp [gonglaw05_grown.j1])
        | succ kj3 =>
          have H := HA.out
          clear HA
          simp only [gonglaw05_grown.j1] at H
          by_cases c6 : x24_3 = true
          · subst c6
            have H1 : (if 0 ≤ x4_1 then (if x4_1 < (l0.length : Int) then ((gongbook_Below.f (rd l0 x4_1) 5).bind fun t234 => (if t234 = 0 then (gonglaw05_grown.j2 kj3 l0 x3_1 x4_1 (wrap64 ((x3_1.length : Int) - 1)) t234 (decide ((x3_1.length : Int) < 12))) else (gonglaw05_grown.j2 kj3 l0 x3_1 x4_1 (wrap64 ((x3_1.length : Int) - 1)) t234 false))) else (none)) else (none)) = some r := by rw [if_pos rfl] at H; exact H
            clear H
            have H := H1
            clear H1
            by_cases c7 : 0 ≤ x4_1
            · rw [if_pos c7] at H
              have c7b0 : decide (0 ≤ x4_1) = true := decide_eq_true c7
              clear c7
              by_cases c8 : x4_1 < (l0.length : Int)
              · rw [if_pos c8] at H
                have c8b0 : decide (x4_1 < (l0.length : Int)) = true := decide_eq_true c8
                clear c8
                replace H := Option.bind_eq_some_iff.mp H
                obtain ⟨t234, A90, H⟩ := H
                replace H : (if t234 = 0 then (gonglaw05_grown.j2 kj3 l0 x3_1 x4_1 (wrap64 ((x3_1.length : Int) - 1)) t234 (decide ((x3_1.length : Int) < 12))) else (gonglaw05_grown.j2 kj3 l0 x3_1 x4_1 (wrap64 ((x3_1.length : Int) - 1)) t234 false)) = some r := H
                have A9 := Aside0.mk A90
                clear A90
                have HC10 := Aside0.mk H
                clear H
                obtain ⟨Ao11, co11, eo11⟩ := Kd.R_slice HO_3.out
                subst eo11
                have p233 : 0 ≤ (x4_1 : Int) := of_decide_eq_true (by first | (with_reducible assumption) | assumption)
                have q233 : x4_1 < (l0.length : Int) := of_decide_eq_true (by first | (with_reducible assumption) | assumption)
                obtain ⟨ad233, e233, hx233_0⟩ := Kd.at_int HR0.out x4_1 p233 q233
                cases e233
                replace hx233_0 := (HB.out.cell (World.block_lt_of_cell? w _ hx233_0)).trans hx233_0
                replace p233 := eq_true p233
                replace q233 := eq_true q233
                go_upto_region 9 with (first | ((with_reducible refine gate_callee (f := 14) rfl ?_); refine goesL_ (some 34) rfl rfl Try.func14 (by kernel_rfl) rfl #[.int .i64 (rd l0 x4_1), .int .i64 5] rfl (by (try simp only [List.map_toArray, List.map_cons, List.map_nil]); first | done | rfl | (simp only [List.length_drop, List.length_take]; rfl)) ?_; (with_reducible refine (gongbook_Below.calls (rd l0 x4_1) 5 t234 _ A9.out).mono ?_); rintro e w' ⟨rfl, ⟨nd, rfl⟩⟩; refine ⟨_, rfl, ?_⟩))
                (try simp only [Act.put, List.setIfInBounds_toArray, List.set_cons_zero, List.set_cons_succ])
                go_cut [52] (fun v52 wc => ∃ (kq : Nat) (x52_9 : Bool), v52 = .bool x52_9 ∧ Aside0 (gonglaw05_grown.j2 kq l0 x3_1 x4_1 (wrap64 ((x3_1.length : Int) - 1)) t234 x52_9 = some r) ∧ Aside0 (kq ≤ kj3) ∧ Aside0 (Kd.R Kd.string 9 wc w.heap.size (fun _ => True) (.slice Ao11 x3_1.length co11) x3_1) ∧ Aside0 (Below w.heap.size w wc))
                case first =>
                  have H := HC10.out
                  clear HC10
                  by_cases c12 : t234 = 0
                  · rw [if_pos c12] at H
                    have c12b0 : (t234 == 0) = true := beq_iff_eq.mpr c12
                    have c12b1 : (t234 != 0) = false := bne_eq_false_iff_eq.mpr c12
                    clear c12
                    (first | rw [c12b0] | (simp only [i64_w, i32_w]; rw [c12b0]) | skip)
                    have H' := Aside0.mk H
                    clear H
                    go_wp2
                    go_meet
                    case rel => exact ⟨_, (decide ((x3_1.length : Int) < 12)), (by first | rfl | (simp; done) | (simp [*]; done)), H', ⟨by have := HK1.out; have := HJ3.out; first | omega | exact Nat.le_refl _⟩, ⟨by (with_reducible repeat (first | apply Kd.R_alloc | apply Kd.R_drewN | apply Kd.R_drew)); exact HO_3.out⟩, ⟨by repeat (first | (with_reducible first | exact HB.out | apply below_alloc | apply pw_below_drewN | apply below_drew1) | exact HB.out)⟩⟩
                  · rw [if_neg c12] at H
                    have c12b0 : (t234 == 0) = false := beq_eq_false_iff_ne.mpr c12
                    have c12b1 : (t234 != 0) = true := bne_iff_ne.mpr c12
                    (first | rw [c12b0] | (simp only [i64_w, i32_w]; rw [c12b0]) | skip)
                    have H' := Aside0.mk H
                    clear H
                    go_wp2
                    go_meet
                    case rel => exact ⟨_, (false), (by first | rfl | (simp; done) | (simp [*]; done)), H', ⟨by have := HK1.out; have := HJ3.out; first | omega | exact Nat.le_refl _⟩, ⟨by (with_reducible repeat (first | apply Kd.R_alloc | apply Kd.R_drewN | apply Kd.R_drew)); exact HO_3.out⟩, ⟨by repeat (first | (with_reducible first | exact HB.out | apply below_alloc | apply pw_below_drewN | apply below_drew1) | exact HB.out)⟩⟩
                case rest =>
                  clear HC10
                  try clear c1
                  try clear p2
                  try clear q2
                  try clear hx2
                  try clear c4
                  try clear c5
                  try clear c5b0
                  try clear c6
                  try clear p6
                  try clear c7
                  try clear c7b0
                  try clear c8
                  try clear c8b0
                  try clear c12
                  try clear c12b0
                  try clear c12b1
                  try clear hx233_0
                  try clear p2
                  try clear p233
                  try clear q233
                  obtain ⟨kq, x52_9, rfl, HA, HJ9, HO_3, HB⟩ := hcut
                  cases kq with
                  | zero => exact absurd HA.out (by simp [gonglaw05_grown.j2])
                  | succ kj9 =>
                    have H := HA.out
                    clear HA
                    simp only [gonglaw05_grown.j2] at H
                    by_cases c13 : x52_9 = true
                    · subst c13
                      have H1 : (if x3_1.length < 8796093022208 then (gonglaw05_grown.l0 kj9 l0 (x3_1 ++ [(⟨#[]⟩ : ByteArray)]) (wrap64 (x4_1 + 1))) else (none)) = some r := by rw [if_pos rfl] at H; exact H
                      clear H
                      have H := H1
                      clear H1
                      by_cases c14 : x3_1.length < 8796093022208
                      · rw [if_pos c14] at H
                        have LMc14 := Aside0.mk c14
                        clear c14
                        obtain ⟨y235, hy235⟩ : ∃ y_ : List ByteArray, y_ = (x3_1 ++ [(⟨#[]⟩ : ByteArray)]) := ⟨_, rfl⟩
                        replace H : (gonglaw05_grown.l0 kj9 l0 y235 (wrap64 (x4_1 + 1))) = some r := by first | (rw [hy235]; with_reducible exact H) | (have H2_ := (Option.bind_some _ _).symm.trans H; rw [hy235]; with_reducible exact H2_) | (have H2_ := (Option.bind_some _ _).symm.trans H; with_reducible exact H2_) | with_reducible exact H | (rw [hy235]; exact H) | exact H
                        have Ny235 := Aside0.mk hy235
                        clear hy235
                        have H' := Aside0.mk H
                        clear H
                        go_wp2_with (first | ((with_reducible refine gate_builtin (b := .append) (xs := #[.tmp 60, .tmp 61]) rfl ?_); (try (refine gate_guard (by rfl) ?_; dsimp only)); at_builtin; refine Kd.R_append Kd.string (w0 := w) w.heap.size rfl (.tmp 60) (.tmp 61) 25 9 (.string ⟨#[]⟩) 16 rfl Try.underlying25 info9 rfl (by decide) (by omega) (.slice Ao11 x3_1.length co11) x3_1 (⟨#[]⟩ : ByteArray) [.string (⟨#[]⟩ : ByteArray)] (fun _ => True) (fun _ => False) rfl rfl ?aP (fun _ hk => hk.elim) ?aF ?aO ?aB ?aS ?aL ?_; (case aP => exact rfl); (case aB => exact (by repeat (first | (with_reducible first | exact HB.out | apply below_alloc | apply pw_below_drewN | apply below_drew1) | exact HB.out))); (case aF => exact (fun _ _ => trivial)); (case aO => exact (by (with_reducible repeat (first | apply Kd.R_alloc | apply Kd.R_drewN | apply Kd.R_drew)); exact HO_3.out)); (case aS => exact (below_size (by repeat (first | (with_reducible first | exact HB.out | apply below_alloc | apply pw_below_drewN | apply below_drew1) | exact HB.out)))); (case aL => have := LMc14.out; omega); intro v236 w15 ho hb hg hat; rw [← Ny235.out] at ho; have n0_ := Aside0.mk (hb); have n1_ := Aside0.mk (ho); clear HB; clear HO_3; have HB := n0_; have HO237 := n1_; clear n0_ n1_; clear ho hb hg hat))
                        go_roundg kj9
                        case measure => have := HK1.out; have := HJ3.out; have := HJ9.out; omega
                        case rel => exact ⟨(y235), (wrap64 (x4_1 + 1)), (by first | rfl | (simp; done) | (simp [*]; done)), H', ⟨by have := HK1.out; have := HJ3.out; have := HJ9.out; omega⟩, ⟨by (with_reducible repeat (first | apply Kd.R_alloc | apply Kd.R_drewN | apply Kd.R_drew)); exact HO237.out⟩, ⟨by repeat (first | (with_reducible first | exact HB.out | apply below_alloc | apply pw_below_drewN | apply below_drew1) | exact HB.out)⟩⟩
                      · rw [if_neg c14] at H
                        exact absurd H (by simp)
                    · replace c13 := Bool.eq_false_iff.mpr c13
                      subst c13
                      have H1 : (if t234 = 1 then (gonglaw05_grown.j3 kj9 l0 x3_1 x4_1 (wrap64 ((x3_1.length : Int) - 1)) (decide ((wrap64 ((x3_1.length : Int) - 1)) > 0))) else (gonglaw05_grown.j3 kj9 l0 x3_1 x4_1 (wrap64 ((x3_1.length : Int) - 1)) false)) = some r := by rw [if_neg (show ¬ (false = true) by decide)] at H; exact H
                      clear H
                      have H := H1
                      clear H1
                      have HC16 := Aside0.mk H
                      clear H
                      go_upto_region 11 with (fail)
                      go_cut [63] (fun v63 wc => ∃ (kq : Nat) (x63_15 : Bool), v63 = .bool x63_15 ∧ Aside0 (gonglaw05_grown.j3 kq l0 x3_1 x4_1 (wrap64 ((x3_1.length : Int) - 1)) x63_15 = some r) ∧ Aside0 (kq ≤ kj9) ∧ Aside0 (Kd.R Kd.string 9 wc w.heap.size (fun _ => True) (.slice Ao11 x3_1.length co11) x3_1) ∧ Aside0 (Below w.heap.size w wc))
                      case first =>
                        have H := HC16.out
                        clear HC16
                        by_cases c17 : t234 = 1
                        · rw [if_pos c17] at H
                          have c17b0 : (t234 == 1) = true := beq_iff_eq.mpr c17
                          have c17b1 : (t234 != 1) = false := bne_eq_false_iff_eq.mpr c17
                          clear c17
                          (first | rw [c17b0] | (simp only [i64_w, i32_w]; rw [c17b0]) | skip)
                          have H' := Aside0.mk H
                          clear H
                          go_wp2
                          go_meet
                          case rel => exact ⟨_, (decide ((wrap64 ((x3_1.length : Int) - 1)) > 0)), (by first | rfl | (simp; done) | (simp [*]; done)), H', ⟨by have := HK1.out; have := HJ3.out; have := HJ9.out; first | omega | exact Nat.le_refl _⟩, ⟨by (with_reducible repeat (first | apply Kd.R_alloc | apply Kd.R_drewN | apply Kd.R_drew)); exact HO_3.out⟩, ⟨by repeat (first | (with_reducible first | exact HB.out | apply below_alloc | apply pw_below_drewN | apply below_drew1) | exact HB.out)⟩⟩
                        · rw [if_neg c17] at H
                          have c17b0 : (t234 == 1) = false := beq_eq_false_iff_ne.mpr c17
                          have c17b1 : (t234 != 1) = true := bne_iff_ne.mpr c17
                          (first | rw [c17b0] | (simp only [i64_w, i32_w]; rw [c17b0]) | skip)
                          have H' := Aside0.mk H
                          clear H
                          go_wp2
                          go_meet
                          case rel => exact ⟨_, (false), (by first | rfl | (simp; done) | (simp [*]; done)), H', ⟨by have := HK1.out; have := HJ3.out; have := HJ9.out; first | omega | exact Nat.le_refl _⟩, ⟨by (with_reducible repeat (first | apply Kd.R_alloc | apply Kd.R_drewN | apply Kd.R_drew)); exact HO_3.out⟩, ⟨by repeat (first | (with_reducible first | exact HB.out | apply below_alloc | apply pw_below_drewN | apply below_drew1) | exact HB.out)⟩⟩
                      case rest =>
                        clear HC16
                        try clear c1
                        try clear p2
                        try clear q2
                        try clear hx2
                        try clear c4
                        try clear c5
                        try clear c5b0
                        try clear c6
                        try clear p6
                        try clear c7
                        try clear c7b0
                        try clear c8
                        try clear c8b0
                        try clear c12
                        try clear c12b0
                        try clear c12b1
                        try clear c13
                        try clear c14
                        try clear c17
                        try clear c17b0
                        try clear c17b1
                        try clear hx233_0
                        try clear p2
                        try clear p233
                        try clear p6
                        try clear q2
                        try clear q233
                        obtain ⟨kq, x63_15, rfl, HA, HJ15, HO_3, HB⟩ := hcut
                        cases kq with
                        | zero => exact absurd HA.out (by simp [gonglaw05_grown.j3])
                        | succ kj15 =>
                          have H := HA.out
                          clear HA
                          simp only [gonglaw05_grown.j3] at H
                          by_cases c18 : x63_15 = true
                          · subst c18
                            have H1 : (if 0 ≤ (wrap64 ((x3_1.length : Int) - 1)) then (if (wrap64 ((x3_1.length : Int) - 1)) < (x3_1.length : Int) then ((ber_Wrap.f kj15 48 (rdOf ByteArray.empty x3_1 (wrap64 ((x3_1.length : Int) - 1)))).bind fun bt239 => (if (wrap64 ((x3_1.length : Int) - 1)) ≤ (x3_1.length : Int) then ((some (x3_1.take ((wrap64 ((x3_1.length : Int) - 1)) : Int).toNat : List ByteArray)).bind fun y241 => (if 0 ≤ (wrap64 ((wrap64 ((x3_1.length : Int) - 1)) - 1)) then (if (wrap64 ((wrap64 ((x3_1.length : Int) - 1)) - 1)) < (y241.length : Int) then (if (rdOf ByteArray.empty y241 (wrap64 ((wrap64 ((x3_1.length : Int) - 1)) - 1))).size + bt239.1.size ≤ 9223372036854775807 then (gonglaw05_grown.l0 kj15 l0 (y241.set ((wrap64 ((wrap64 ((x3_1.length : Int) - 1)) - 1)) : Int).toNat ((rdOf ByteArray.empty y241 (wrap64 ((wrap64 ((x3_1.length : Int) - 1)) - 1))) ++ bt239.1)) (wrap64 (x4_1 + 1))) else (none)) else (none)) else (none))) else (none))) else (none)) else (none)) = some r := by rw [if_pos rfl] at H; exact H
                            clear H
                            have H := H1
                            clear H1
                            obtain ⟨ji19, hji19⟩ : ∃ j_ : Int, (wrap64 ((x3_1.length : Int) - 1)) = j_ := ⟨_, rfl⟩
                            replace H : (if 0 ≤ (ji19) then (if (ji19) < (x3_1.length : Int) then ((ber_Wrap.f kj15 48 (rdOf ByteArray.empty x3_1 (ji19))).bind fun bt239 => (if (ji19) ≤ (x3_1.length : Int) then ((some (x3_1.take ((ji19) : Int).toNat : List ByteArray)).bind fun y241 => (if 0 ≤ (wrap64 ((ji19) - 1)) then (if (wrap64 ((ji19) - 1)) < (y241.length : Int) then (if (rdOf ByteArray.empty y241 (wrap64 ((ji19) - 1))).size + bt239.1.size ≤ 9223372036854775807 then (gonglaw05_grown.l0 kj15 l0 (y241.set ((wrap64 ((ji19) - 1)) : Int).toNat ((rdOf ByteArray.empty y241 (wrap64 ((ji19) - 1))) ++ bt239.1)) (wrap64 (x4_1 + 1))) else (none)) else (none)) else (none))) else (none))) else (none)) else (none)) = some r := by first | (rw [hji19] at H; exact H) | (simp only [hji19] at H ⊢; exact H)
                            have hji19w : (IntKind.i64.wrap ((x3_1.length : Int) - 1)) = ji19 := (i64_w _).trans hji19
                            by_cases c20 : 0 ≤ (ji19)
                            · rw [if_pos c20] at H
                              have c20b0 : decide (0 ≤ (ji19)) = true := decide_eq_true c20
                              clear c20
                              by_cases c21 : (ji19) < (x3_1.length : Int)
                              · rw [if_pos c21] at H
                                have c21b0 : decide ((ji19) < (x3_1.length : Int)) = true := decide_eq_true c21
                                clear c21
                                replace H := Option.bind_eq_some_iff.mp H
                                obtain ⟨⟨t239, t240⟩, A220, H⟩ := H
                                replace H : (if (ji19) ≤ (x3_1.length : Int) then ((some (x3_1.take ((ji19) : Int).toNat : List ByteArray)).bind fun y241 => (if 0 ≤ (wrap64 ((ji19) - 1)) then (if (wrap64 ((ji19) - 1)) < (y241.length : Int) then (if (rdOf ByteArray.empty y241 (wrap64 ((ji19) - 1))).size + t239.size ≤ 9223372036854775807 then (gonglaw05_grown.l0 kj15 l0 (y241.set ((wrap64 ((ji19) - 1)) : Int).toNat ((rdOf ByteArray.empty y241 (wrap64 ((ji19) - 1))) ++ t239)) (wrap64 (x4_1 + 1))) else (none)) else (none)) else (none))) else (none)) = some r := H
                                have A22 := Aside0.mk A220
                                clear A220
                                by_cases c23 : (ji19) ≤ (x3_1.length : Int)
                                · rw [if_pos c23] at H
                                  have c23b0 := eq_true c23
                                  have c23b1 : decide ((ji19) ≤ (x3_1.length : Int)) = true := decide_eq_true c23
                                  clear c23
                                  obtain ⟨y241, hy241⟩ : ∃ y_ : List ByteArray, y_ = (x3_1.take ((ji19) : Int).toNat) := ⟨_, rfl⟩
                                  replace H : (if 0 ≤ (wrap64 ((ji19) - 1)) then (if (wrap64 ((ji19) - 1)) < (y241.length : Int) then (if (rdOf ByteArray.empty y241 (wrap64 ((ji19) - 1))).size + t239.size ≤ 9223372036854775807 then (gonglaw05_grown.l0 kj15 l0 (y241.set ((wrap64 ((ji19) - 1)) : Int).toNat ((rdOf ByteArray.empty y241 (wrap64 ((ji19) - 1))) ++ t239)) (wrap64 (x4_1 + 1))) else (none)) else (none)) else (none)) = some r := by first | (rw [hy241]; with_reducible exact H) | (have H2_ := (Option.bind_some _ _).symm.trans H; rw [hy241]; with_reducible exact H2_) | (have H2_ := (Option.bind_some _ _).symm.trans H; with_reducible exact H2_) | with_reducible exact H | (rw [hy241]; exact H) | exact H
                                  have Ny241 := Aside0.mk hy241
                                  clear hy241
                                  obtain ⟨ji24, hji24⟩ : ∃ j_ : Int, (wrap64 ((ji19) - 1)) = j_ := ⟨_, rfl⟩
                                  replace H : (if 0 ≤ (ji24) then (if (ji24) < (y241.length : Int) then (if (rdOf ByteArray.empty y241 (ji24)).size + t239.size ≤ 9223372036854775807 then (gonglaw05_grown.l0 kj15 l0 (y241.set ((ji24) : Int).toNat ((rdOf ByteArray.empty y241 (ji24)) ++ t239)) (wrap64 (x4_1 + 1))) else (none)) else (none)) else (none)) = some r := by first | (rw [hji24] at H; exact H) | (simp only [hji24] at H ⊢; exact H)
                                  (try rw [hji24] at A22)
                                  have hji24w : (IntKind.i64.wrap ((ji19) - 1)) = ji24 := (i64_w _).trans hji24
                                  by_cases c25 : 0 ≤ (ji24)
                                  · rw [if_pos c25] at H
                                    have c25b0 : decide (0 ≤ (ji24)) = true := decide_eq_true c25
                                    clear c25
                                    by_cases c26 : (ji24) < (y241.length : Int)
                                    · rw [if_pos c26] at H
                                      have c26b0 : decide ((ji24) < (y241.length : Int)) = true := decide_eq_true c26
                                      clear c26
                                      by_cases c27 : (rdOf ByteArray.empty y241 (ji24)).size + t239.size ≤ 9223372036854775807
                                      · rw [if_pos c27] at H
                                        have c27b0 := eq_true c27
                                        have c27b1 : decide ((rdOf ByteArray.empty y241 (ji24)).size + t239.size ≤ 9223372036854775807) = true := decide_eq_true c27
                                        try have c27b2 : (9223372036854775807 < (rdOf ByteArray.empty y241 (ji24)).size + t239.size) = False := eq_false (Nat.not_lt.2 c27)
                                        obtain ⟨y245, hy245⟩ : ∃ y_ : List ByteArray, y_ = (y241.set ((ji24) : Int).toNat ((rdOf ByteArray.empty y241 (ji24)) ++ t239)) := ⟨_, rfl⟩
                                        replace H : (gonglaw05_grown.l0 kj15 l0 y245 (wrap64 (x4_1 + 1))) = some r := by first | (rw [hy245]; with_reducible exact H) | (have H2_ := (Option.bind_some _ _).symm.trans H; rw [hy245]; with_reducible exact H2_) | (have H2_ := (Option.bind_some _ _).symm.trans H; with_reducible exact H2_) | with_reducible exact H | (rw [hy245]; exact H) | exact H
                                        have Ny245 := Aside0.mk hy245
                                        clear hy245
                                        have H' := Aside0.mk H
                                        clear H
                                        have p238 : 0 ≤ ((ji19) : Int) := of_decide_eq_true (by first | (with_reducible assumption) | assumption)
                                        have q238 : (ji19) < (x3_1.length : Int) := of_decide_eq_true (by first | (with_reducible assumption) | assumption)
                                        obtain ⟨ad238, e238, hx238_0⟩ := Kd.at_string (Kd.R_reads' HO_3.out).2.2 (ji19) p238 q238
                                        cases e238
                                        replace p238 := eq_true p238
                                        replace q238 := eq_true q238
                                        go_wp2_with (first | ((with_reducible refine gate_callee (f := 29) rfl ?_); refine goesL_ (some 75) rfl rfl Try.func29 (by kernel_rfl) rfl #[.int .i64 48, .string (rdOf ByteArray.empty x3_1 (ji19))] rfl (by (try simp only [List.map_toArray, List.map_cons, List.map_nil]); first | done | (simp only [hji19]; rfl) | rfl | (simp only [List.length_drop, List.length_take]; rfl)) ?_; (with_reducible refine (ber_Wrap.calls kj15 48 (rdOf ByteArray.empty x3_1 (ji19)) t239 t240 _ A22.out).mono ?_); rintro e w29 ⟨rfl, hb⟩; refine ⟨_, rfl, ?_⟩; have n0_ := Aside0.mk (Kd.R_below (by (with_reducible repeat (first | apply Kd.R_alloc | apply Kd.R_drewN | apply Kd.R_drew)); exact HO_3.out) hb); have n1_ := Aside0.mk (below_step (by repeat (first | (with_reducible first | exact HB.out | apply below_alloc | apply pw_below_drewN | apply below_drew1) | exact HB.out)) hb); clear HO_3; clear HB; have HO_3 := n0_; have HB := n1_; clear n0_ n1_; (try clear hb); (try clear hb2); (try clear hk); (try clear hi); have q30 : ((ji19) : Int) ≤ ((x3_1.length : Int) : Int) := of_decide_eq_true (by first | (with_reducible assumption) | assumption); obtain ⟨i030, hi030, _, hsz30, _⟩ := info_parts info9; have hcut30 := cut_to (P := Try.prog) 25 9 .i64 Try.underlying25 hi030 (some ad238) x3_1.length co11 (ji19) (of_decide_eq_true (by first | (with_reducible assumption) | assumption)) q30 (Kd.R_reads' HO_3.out).2.1; have hr30 := Kd.R_take (m := ((ji19) : Int).toNat) HO_3.out (by omega); have hy30 : y241.length = ((ji19) : Int).toNat := (by rw [Ny241.out, List.length_take]; omega); rw [← Ny241.out] at hr30; rw [← hy30] at hr30 hcut30; clear hy30 hi030 hsz30 HO_3; have HO243 := Aside0.mk hr30; clear hr30; replace q30 := eq_true q30; have p244 : 0 ≤ ((ji24) : Int) := of_decide_eq_true (by first | (with_reducible assumption) | assumption); have q244 : (ji24) < (y241.length : Int) := of_decide_eq_true (by first | (with_reducible assumption) | assumption); obtain ⟨ad244, e244, hx244_0⟩ := Kd.at_string (Kd.R_reads' HO243.out).2.2 (ji24) p244 q244; obtain rfl : ad238 = ad244 := (by injection e244); replace p244 := eq_true p244; replace q244 := eq_true q244; have p28 : 0 ≤ ((ji24) : Int) := of_decide_eq_true (by first | (with_reducible assumption) | assumption); have q28 : ((ji24) : Int) < ((y241.length : Int) : Int) := of_decide_eq_true (by first | (with_reducible assumption) | assumption); obtain ⟨go28, co28, eo28, gb28, gl28, cl28, HG28⟩ := Kd.R_form HO243.out (by omega); (first | cases eo28 | (injection eo28 with ea_ en_ ec_; (first | subst ea_ | (injection ea_ with ea_; subst ea_)); subst ec_; clear en_)); have GB28 := Aside0.mk gb28; have GG28 := Aside0.mk HG28; clear gb28 gl28 HG28; (first | simp only [add_plain] at hx238_0 | skip); (first | simp only [add_plain] at hx244_0 | skip); obtain ⟨hx28_0, hf28_0⟩ := Kd.R_celln (⟨#[]⟩ : ByteArray) HO243.out ((ji24) : Int) p28 q28; replace p28 := eq_true p28; replace q28 := eq_true q28; obtain ⟨hy31_, hz31_⟩ := Kd.R_celln (⟨#[]⟩ : ByteArray) HO243.out ((ji24) : Int) (of_decide_eq_true (by first | (with_reducible assumption) | assumption)) (of_decide_eq_true (by first | (with_reducible assumption) | assumption)); have HP31 := Kd.R_putg HO243.out ((ji24) : Int) ((rdOf ByteArray.empty y241 (ji24)) ++ t239)) | ((with_reducible refine gate_store (t := 9) (p := 88) rfl ?_); refine store_event (t := 9) (p := 88) (v := ?vo_w32) (w1 := (w29.setCell ⟨go28, ((ji24) : Int).toNat, none⟩ (.string ((rdOf ByteArray.empty y241 (ji24)) ++ t239)))) ?hg ?ho ?hn ?hr ?_; (case ho => rfl); (case hg => rfl); (case hn => rfl); (case hr => first | (go_simp; done) | (go_simp; rfl)); intro w32 hw; have hg : w29.grownBy w32 (some go28) := (by rw [hw]; exact HP31.2); have hp_ : Kd.R Kd.string 9 w32 w.heap.size (fun _ => True) (.slice (some ⟨go28, 0, none⟩) y241.length co11) y245 := (by rw [hw, Ny245.out]; exact HP31.1); clear HP31; have n0_ := Aside0.mk (hp_); have n1_ := Aside0.mk ((by rw [hw]; exact below_set (HB.out) GB28.out : Below w.heap.size w w32)); clear HO243; clear HB; have HO243 := n0_; have HB := n1_; clear n0_ n1_; clear hg hw hp_))
                                        go_roundg kj15
                                        case measure => have := HK1.out; have := HJ3.out; have := HJ9.out; have := HJ15.out; omega
                                        case rel => exact ⟨(y245), (wrap64 (x4_1 + 1)), (by first | rfl | (simp; done) | (simp [*]; done)), H', ⟨by have := HK1.out; have := HJ3.out; have := HJ9.out; have := HJ15.out; omega⟩, ⟨by (with_reducible repeat (first | apply Kd.R_alloc | apply Kd.R_drewN | apply Kd.R_drew)); exact HO243.out⟩, ⟨by repeat (first | (with_reducible first | exact HB.out | apply below_alloc | apply pw_below_drewN | apply below_drew1) | exact HB.out)⟩⟩
                                      · rw [if_neg c27] at H
                                        exact absurd H (by simp)
                                    · rw [if_neg c26] at H
                                      exact absurd H (by simp)
                                  · rw [if_neg c25] at H
                                    exact absurd H (by simp)
                                · rw [if_neg c23] at H
                                  exact absurd H (by simp)
                              · rw [if_neg c21] at H
                                exact absurd H (by simp)
                            · rw [if_neg c20] at H
                              exact absurd H (by simp)
                          · replace c18 := Bool.eq_false_iff.mpr c18
                            subst c18
                            have H1 : (if 0 ≤ x4_1 then (if x4_1 < (l0.length : Int) then ((gongbook_Below.f (rd l0 x4_1) 200).bind fun t247 => ((strings_Repeat.f (⟨#[120]⟩ : ByteArray) t247).bind fun t248 => ((ber_Wrap.f kj15 4 t248).bind fun bt249 => (if 0 ≤ (wrap64 ((x3_1.length : Int) - 1)) then (if (wrap64 ((x3_1.length : Int) - 1)) < (x3_1.length : Int) then (if (rdOf ByteArray.empty x3_1 (wrap64 ((x3_1.length : Int) - 1))).size + bt249.1.size ≤ 9223372036854775807 then (gonglaw05_grown.l0 kj15 l0 (x3_1.set ((wrap64 ((x3_1.length : Int) - 1)) : Int).toNat ((rdOf ByteArray.empty x3_1 (wrap64 ((x3_1.length : Int) - 1))) ++ bt249.1)) (wrap64 (x4_1 + 1))) else (none)) else (none)) else (none))))) else (none)) else (none)) = some r := by rw [if_neg (show ¬ (false = true) by decide)] at H; exact H
                            clear H
                            have H := H1
                            clear H1
                            by_cases c33 : 0 ≤ x4_1
                            · rw [if_pos c33] at H
                              have c33b0 : decide (0 ≤ x4_1) = true := decide_eq_true c33
                              clear c33
                              by_cases c34 : x4_1 < (l0.length : Int)
                              · rw [if_pos c34] at H
                                have c34b0 : decide (x4_1 < (l0.length : Int)) = true := decide_eq_true c34
                                clear c34
                                replace H := Option.bind_eq_some_iff.mp H
                                obtain ⟨t247, A350, H⟩ := H
                                replace H : ((strings_Repeat.f (⟨#[120]⟩ : ByteArray) t247).bind fun t248 => ((ber_Wrap.f kj15 4 t248).bind fun bt249 => (if 0 ≤ (wrap64 ((x3_1.length : Int) - 1)) then (if (wrap64 ((x3_1.length : Int) - 1)) < (x3_1.length : Int) then (if (rdOf ByteArray.empty x3_1 (wrap64 ((x3_1.length : Int) - 1))).size + bt249.1.size ≤ 9223372036854775807 then (gonglaw05_grown.l0 kj15 l0 (x3_1.set ((wrap64 ((x3_1.length : Int) - 1)) : Int).toNat ((rdOf ByteArray.empty x3_1 (wrap64 ((x3_1.length : Int) - 1))) ++ bt249.1)) (wrap64 (x4_1 + 1))) else (none)) else (none)) else (none)))) = some r := H
                                have A35 := Aside0.mk A350
                                clear A350
                                replace H := Option.bind_eq_some_iff.mp H
                                obtain ⟨t248, A360, H⟩ := H
                                replace H : ((ber_Wrap.f kj15 4 t248).bind fun bt249 => (if 0 ≤ (wrap64 ((x3_1.length : Int) - 1)) then (if (wrap64 ((x3_1.length : Int) - 1)) < (x3_1.length : Int) then (if (rdOf ByteArray.empty x3_1 (wrap64 ((x3_1.length : Int) - 1))).size + bt249.1.size ≤ 9223372036854775807 then (gonglaw05_grown.l0 kj15 l0 (x3_1.set ((wrap64 ((x3_1.length : Int) - 1)) : Int).toNat ((rdOf ByteArray.empty x3_1 (wrap64 ((x3_1.length : Int) - 1))) ++ bt249.1)) (wrap64 (x4_1 + 1))) else (none)) else (none)) else (none))) = some r := H
                                have A36 := Aside0.mk A360
                                clear A360
                                replace H := Option.bind_eq_some_iff.mp H
                                obtain ⟨⟨t249, t250⟩, A370, H⟩ := H
                                replace H : (if 0 ≤ (wrap64 ((x3_1.length : Int) - 1)) then (if (wrap64 ((x3_1.length : Int) - 1)) < (x3_1.length : Int) then (if (rdOf ByteArray.empty x3_1 (wrap64 ((x3_1.length : Int) - 1))).size + t249.size ≤ 9223372036854775807 then (gonglaw05_grown.l0 kj15 l0 (x3_1.set ((wrap64 ((x3_1.length : Int) - 1)) : Int).toNat ((rdOf ByteArray.empty x3_1 (wrap64 ((x3_1.length : Int) - 1))) ++ t249)) (wrap64 (x4_1 + 1))) else (none)) else (none)) else (none)) = some r := H
                                have A37 := Aside0.mk A370
                                clear A370
                                obtain ⟨ji38, hji38⟩ : ∃ j_ : Int, (wrap64 ((x3_1.length : Int) - 1)) = j_ := ⟨_, rfl⟩
                                replace H : (if 0 ≤ (ji38) then (if (ji38) < (x3_1.length : Int) then (if (rdOf ByteArray.empty x3_1 (ji38)).size + t249.size ≤ 9223372036854775807 then (gonglaw05_grown.l0 kj15 l0 (x3_1.set ((ji38) : Int).toNat ((rdOf ByteArray.empty x3_1 (ji38)) ++ t249)) (wrap64 (x4_1 + 1))) else (none)) else (none)) else (none)) = some r := by first | (rw [hji38] at H; exact H) | (simp only [hji38] at H ⊢; exact H)
                                (try rw [hji38] at A35)
                                (try rw [hji38] at A36)
                                (try rw [hji38] at A37)
                                have hji38w : (IntKind.i64.wrap ((x3_1.length : Int) - 1)) = ji38 := (i64_w _).trans hji38
                                by_cases c39 : 0 ≤ (ji38)
                                · rw [if_pos c39] at H
                                  have c39b0 : decide (0 ≤ (ji38)) = true := decide_eq_true c39
                                  clear c39
                                  by_cases c40 : (ji38) < (x3_1.length : Int)
                                  · rw [if_pos c40] at H
                                    have c40b0 : decide ((ji38) < (x3_1.length : Int)) = true := decide_eq_true c40
                                    clear c40
                                    by_cases c41 : (rdOf ByteArray.empty x3_1 (ji38)).size + t249.size ≤ 9223372036854775807
                                    · rw [if_pos c41] at H
                                      have c41b0 := eq_true c41
                                      have c41b1 : decide ((rdOf ByteArray.empty x3_1 (ji38)).size + t249.size ≤ 9223372036854775807) = true := decide_eq_true c41
                                      try have c41b2 : (9223372036854775807 < (rdOf ByteArray.empty x3_1 (ji38)).size + t249.size) = False := eq_false (Nat.not_lt.2 c41)
                                      obtain ⟨y252, hy252⟩ : ∃ y_ : List ByteArray, y_ = (x3_1.set ((ji38) : Int).toNat ((rdOf ByteArray.empty x3_1 (ji38)) ++ t249)) := ⟨_, rfl⟩
                                      replace H : (gonglaw05_grown.l0 kj15 l0 y252 (wrap64 (x4_1 + 1))) = some r := by first | (rw [hy252]; with_reducible exact H) | (have H2_ := (Option.bind_some _ _).symm.trans H; rw [hy252]; with_reducible exact H2_) | (have H2_ := (Option.bind_some _ _).symm.trans H; with_reducible exact H2_) | with_reducible exact H | (rw [hy252]; exact H) | exact H
                                      have Ny252 := Aside0.mk hy252
                                      clear hy252
                                      have H' := Aside0.mk H
                                      clear H
                                      have p246 : 0 ≤ (x4_1 : Int) := of_decide_eq_true (by first | (with_reducible assumption) | assumption)
                                      have q246 : x4_1 < (l0.length : Int) := of_decide_eq_true (by first | (with_reducible assumption) | assumption)
                                      obtain ⟨ad246, e246, hx246_0⟩ := Kd.at_int HR0.out x4_1 p246 q246
                                      obtain rfl : ad233 = ad246 := (by injection e246)
                                      replace hx246_0 := (HB.out.cell (World.block_lt_of_cell? w _ hx246_0)).trans hx246_0
                                      replace p246 := eq_true p246
                                      replace q246 := eq_true q246
                                      go_wp2_with (first | ((with_reducible refine gate_callee (f := 14) rfl ?_); refine goesL_ (some 40) rfl rfl Try.func14 (by kernel_rfl) rfl #[.int .i64 (rd l0 x4_1), .int .i64 200] rfl (by (try simp only [List.map_toArray, List.map_cons, List.map_nil]); first | done | rfl | (simp only [List.length_drop, List.length_take]; rfl)) ?_; (with_reducible refine (gongbook_Below.calls (rd l0 x4_1) 200 t247 _ A35.out).mono ?_); rintro e w' ⟨rfl, ⟨nd, rfl⟩⟩; refine ⟨_, rfl, ?_⟩; (try (rw [drewN_self wc]; generalize hq_ : World.drewN wc _ = wc; have n0_ : Aside0 (Kd.R Kd.string 9 wc w.heap.size (fun _ => True) (.slice Ao11 x3_1.length co11) x3_1) := ⟨by rw [← hq_]; exact (by (with_reducible repeat (first | apply Kd.R_alloc | apply Kd.R_drewN | apply Kd.R_drew)); exact HO_3.out)⟩; have n1_ : Aside0 (Below w.heap.size w wc) := ⟨by rw [← hq_]; exact (by repeat (first | (with_reducible first | exact HB.out | apply below_alloc | apply pw_below_drewN | apply below_drew1) | exact HB.out))⟩; clear HO_3 HB hq_; have HO_3 := n0_; have HB := n1_; clear n0_ n1_))) | ((with_reducible refine gate_callee (f := 38) rfl ?_); refine goesL_ (some 41) rfl rfl Try.func38 (by kernel_rfl) rfl #[.string (⟨#[120]⟩ : ByteArray), .int .i64 t247] rfl (by (try simp only [List.map_toArray, List.map_cons, List.map_nil]); first | done | rfl | (simp only [List.length_drop, List.length_take]; rfl)) ?_; (with_reducible refine (strings_Repeat.calls (⟨#[120]⟩ : ByteArray) t247 t248 _ A36.out).mono ?_); rintro e w43 ⟨rfl, hb⟩; refine ⟨_, rfl, ?_⟩; have n0_ := Aside0.mk (Kd.R_below (by (with_reducible repeat (first | apply Kd.R_alloc | apply Kd.R_drewN | apply Kd.R_drew)); exact HO_3.out) hb); have n1_ := Aside0.mk (below_step (by repeat (first | (with_reducible first | exact HB.out | apply below_alloc | apply pw_below_drewN | apply below_drew1) | exact HB.out)) hb); clear HO_3; clear HB; have HO_3 := n0_; have HB := n1_; clear n0_ n1_; (try clear hb); (try clear hb2); (try clear hk); (try clear hi)) | ((with_reducible refine gate_callee (f := 29) rfl ?_); refine goesL_ (some 42) rfl rfl Try.func29 (by kernel_rfl) rfl #[.int .i64 4, .string t248] rfl (by (try simp only [List.map_toArray, List.map_cons, List.map_nil]); first | done | rfl | (simp only [List.length_drop, List.length_take]; rfl)) ?_; (with_reducible refine (ber_Wrap.calls kj15 4 t248 t249 t250 _ A37.out).mono ?_); rintro e w44 ⟨rfl, hb⟩; refine ⟨_, rfl, ?_⟩; have n0_ := Aside0.mk (Kd.R_below (by (with_reducible repeat (first | apply Kd.R_alloc | apply Kd.R_drewN | apply Kd.R_drew)); exact HO_3.out) hb); have n1_ := Aside0.mk (below_step (by repeat (first | (with_reducible first | exact HB.out | apply below_alloc | apply pw_below_drewN | apply below_drew1) | exact HB.out)) hb); clear HO_3; clear HB; have HO_3 := n0_; have HB := n1_; clear n0_ n1_; (try clear hb); (try clear hb2); (try clear hk); (try clear hi); have p251 : 0 ≤ ((ji38) : Int) := of_decide_eq_true (by first | (with_reducible assumption) | assumption); have q251 : (ji38) < (x3_1.length : Int) := of_decide_eq_true (by first | (with_reducible assumption) | assumption); obtain ⟨ad251, e251, hx251_0⟩ := Kd.at_string (Kd.R_reads' HO_3.out).2.2 (ji38) p251 q251; cases e251; replace p251 := eq_true p251; replace q251 := eq_true q251; have p42 : 0 ≤ ((ji38) : Int) := of_decide_eq_true (by first | (with_reducible assumption) | assumption); have q42 : ((ji38) : Int) < ((x3_1.length : Int) : Int) := of_decide_eq_true (by first | (with_reducible assumption) | assumption); obtain ⟨go42, co42, eo42, gb42, gl42, cl42, HG42⟩ := Kd.R_form HO_3.out (by omega); (first | cases eo42 | (injection eo42 with ea_ en_ ec_; (first | subst ea_ | (injection ea_ with ea_; subst ea_)); subst ec_; clear en_)); have GB42 := Aside0.mk gb42; have GG42 := Aside0.mk HG42; clear gb42 gl42 HG42; (first | simp only [add_plain] at hx251_0 | skip); obtain ⟨hx42_0, hf42_0⟩ := Kd.R_celln (⟨#[]⟩ : ByteArray) HO_3.out ((ji38) : Int) p42 q42; replace p42 := eq_true p42; replace q42 := eq_true q42; obtain ⟨hy45_, hz45_⟩ := Kd.R_celln (⟨#[]⟩ : ByteArray) HO_3.out ((ji38) : Int) (of_decide_eq_true (by first | (with_reducible assumption) | assumption)) (of_decide_eq_true (by first | (with_reducible assumption) | assumption)); have HP45 := Kd.R_putg HO_3.out ((ji38) : Int) ((rdOf ByteArray.empty x3_1 (ji38)) ++ t249)) | ((with_reducible refine gate_store (t := 9) (p := 51) rfl ?_); refine store_event (t := 9) (p := 51) (v := ?vo_w46) (w1 := (w44.setCell ⟨go42, ((ji38) : Int).toNat, none⟩ (.string ((rdOf ByteArray.empty x3_1 (ji38)) ++ t249)))) ?hg ?ho ?hn ?hr ?_; (case ho => rfl); (case hg => rfl); (case hn => rfl); (case hr => first | (go_simp; done) | (go_simp; rfl)); intro w46 hw; have hg : w44.grownBy w46 (some go42) := (by rw [hw]; exact HP45.2); have hp_ : Kd.R Kd.string 9 w46 w.heap.size (fun _ => True) (.slice (some ⟨go42, 0, none⟩) x3_1.length co11) y252 := (by rw [hw, Ny252.out]; exact HP45.1); clear HP45; have n0_ := Aside0.mk (hp_); have n1_ := Aside0.mk ((by rw [hw]; exact below_set (HB.out) GB42.out : Below w.heap.size w w46)); clear HO_3; clear HB; have HO_3 := n0_; have HB := n1_; clear n0_ n1_; clear hg hw hp_))
                                      go_roundg kj15
                                      case measure => have := HK1.out; have := HJ3.out; have := HJ9.out; have := HJ15.out; omega
                                      case rel => exact ⟨(y252), (wrap64 (x4_1 + 1)), (by first | rfl | (simp; done) | (simp [*]; done)), H', ⟨by have := HK1.out; have := HJ3.out; have := HJ9.out; have := HJ15.out; omega⟩, ⟨by (with_reducible repeat (first | apply Kd.R_alloc | apply Kd.R_drewN | apply Kd.R_drew)); exact HO_3.out⟩, ⟨by repeat (first | (with_reducible first | exact HB.out | apply below_alloc | apply pw_below_drewN | apply below_drew1) | exact HB.out)⟩⟩
                                    · rw [if_neg c41] at H
                                      exact absurd H (by simp)
                                  · rw [if_neg c40] at H
                                    exact absurd H (by simp)
                                · rw [if_neg c39] at H
                                  exact absurd H (by simp)
                              · rw [if_neg c34] at H
                                exact absurd H (by simp)
                            · rw [if_neg c33] at H
                              exact absurd H (by simp)
              · rw [if_neg c8] at H
                exact absurd H (by simp)
            · rw [if_neg c7] at H
              exact absurd H (by simp)
          · replace c6 := Bool.eq_false_iff.mpr c6
            subst c6
            have H1 : (gonglaw05_grown.l1 kj3 x3_1) = some r := by rw [if_neg (show ¬ (false = true) by decide)] at H; exact H
            clear H
            have H := H1
            clear H1
            have H' := Aside0.mk H
            clear H
            go_wp2
            go_loopg [3] kj3 (fun kq v3 w' => ∃ (x3_3 : List ByteArray), Aside0 (gonglaw05_grown.l1 kq x3_3 = some r) ∧ Aside0 (kq ≤ kj3) ∧ Aside0 (Kd.R Kd.string 9 w' w.heap.size (fun _ => True) v3 x3_3) ∧ Aside0 (Below w.heap.size w w'))
            case atStart => exact ⟨(x3_1), H', ⟨Nat.le_refl _⟩, ⟨by (with_reducible repeat (first | apply Kd.R_alloc | apply Kd.R_drewN | apply Kd.R_drew)); exact HO_3.out⟩, ⟨by repeat (first | (with_reducible first | exact HB.out | apply below_alloc | apply pw_below_drewN | apply below_drew1) | exact HB.out)⟩⟩
            case round =>
              clear H'
              try clear c1
              try clear c2
              try clear p2
              try clear q2
              try clear hx2
              try clear hf2
              try clear c3
              try clear q3
              try clear c4
              try clear p4
              try clear q4
              try clear hx4
              try clear hf4
              try clear c5
              try clear c5b0
              try clear c6
              try clear p6
              try clear c7
              try clear c7b0
              try clear c8
              try clear c8b0
              try clear c12
              try clear c12b0
              try clear c12b1
              try clear c13
              try clear c14
              try clear c17
              try clear c17b0
              try clear c17b1
              try clear c18
              try clear c20
              try clear c20b0
              try clear c21
              try clear c21b0
              try clear c23
              try clear c23b0
              try clear c23b1
              try clear p23
              try clear q23
              try clear hx23
              try clear p24
              try clear q24
              try clear hx24
              try clear c25
              try clear c25b0
              try clear p25
              try clear q25
              try clear hx25
              try clear c26
              try clear c26b0
              try clear c27
              try clear c27b0
              try clear c27b1
              try clear c27b2
              try clear p28
              try clear q28
              try clear hx28
              try clear hf28
              try clear c29
              try clear q30
              try clear c33
              try clear c33b0
              try clear c34
              try clear c34b0
              try clear c38
              try clear c39
              try clear c39b0
              try clear c40
              try clear c40b0
              try clear c41
              try clear c41b0
              try clear c41b1
              try clear c41b2
              try clear p42
              try clear q42
              try clear hx42
              try clear hf42
              try clear c46
              try clear hx233_0
              try clear hx238_0
              try clear hx244_0
              try clear hx246_0
              try clear hx251_0
              try clear hx28_0
              try clear hx42_0
              try clear p2
              try clear p233
              try clear p238
              try clear p244
              try clear p246
              try clear p251
              try clear p28
              try clear p42
              try clear p6
              try clear q2
              try clear q233
              try clear q238
              try clear q244
              try clear q246
              try clear q251
              try clear q28
              try clear q30
              try clear q42
              obtain ⟨x3_3, HA, HK3, HO_3, HB⟩ := hrel
              cases gk with
              | zero => exact absurd HA.out (by simp [gonglaw05_grown.l1])
              | succ k3 =>
                have H := HA.out
                clear HA
                simp only [gonglaw05_grown.l1] at H
                by_cases c47 : (x3_3.length : Int) > 1
                · rw [if_pos c47] at H
                  have c47b0 : decide (1 < (x3_3.length : Int)) = true := decide_eq_true c47
                  have c47b1 : decide (1 < x3_3.length) = true := decide_eq_true (by omega)
                  clear c47
                  obtain ⟨ji48, hji48⟩ : ∃ j_ : Int, (wrap64 ((x3_3.length : Int) - 1)) = j_ := ⟨_, rfl⟩
                  replace H : (if 0 ≤ (ji48) then (if (ji48) < (x3_3.length : Int) then ((ber_Wrap.f k3 48 (rdOf ByteArray.empty x3_3 (ji48))).bind fun bt254 => (if (ji48) ≤ (x3_3.length : Int) then ((some (x3_3.take ((ji48) : Int).toNat : List ByteArray)).bind fun y256 => (if 0 ≤ (wrap64 ((ji48) - 1)) then (if (wrap64 ((ji48) - 1)) < (y256.length : Int) then (if (rdOf ByteArray.empty y256 (wrap64 ((ji48) - 1))).size + bt254.1.size ≤ 9223372036854775807 then (gonglaw05_grown.l1 k3 (y256.set ((wrap64 ((ji48) - 1)) : Int).toNat ((rdOf ByteArray.empty y256 (wrap64 ((ji48) - 1))) ++ bt254.1))) else (none)) else (none)) else (none))) else (none))) else (none)) else (none)) = some r := by first | (rw [hji48] at H; exact H) | (simp only [hji48] at H ⊢; exact H)
                  have hji48w : (IntKind.i64.wrap ((x3_3.length : Int) - 1)) = ji48 := (i64_w _).trans hji48
                  by_cases c49 : 0 ≤ (ji48)
                  · rw [if_pos c49] at H
                    have c49b0 : decide (0 ≤ (ji48)) = true := decide_eq_true c49
                    clear c49
                    by_cases c50 : (ji48) < (x3_3.length : Int)
                    · rw [if_pos c50] at H
                      have c50b0 : decide ((ji48) < (x3_3.length : Int)) = true := decide_eq_true c50
                      clear c50
                      replace H := Option.bind_eq_some_iff.mp H
                      obtain ⟨⟨t254, t255⟩, A510, H⟩ := H
                      replace H : (if (ji48) ≤ (x3_3.length : Int) then ((some (x3_3.take ((ji48) : Int).toNat : List ByteArray)).bind fun y256 => (if 0 ≤ (wrap64 ((ji48) - 1)) then (if (wrap64 ((ji48) - 1)) < (y256.length : Int) then (if (rdOf ByteArray.empty y256 (wrap64 ((ji48) - 1))).size + t254.size ≤ 9223372036854775807 then (gonglaw05_grown.l1 k3 (y256.set ((wrap64 ((ji48) - 1)) : Int).toNat ((rdOf ByteArray.empty y256 (wrap64 ((ji48) - 1))) ++ t254))) else (none)) else (none)) else (none))) else (none)) = some r := H
                      have A51 := Aside0.mk A510
                      clear A510
                      by_cases c52 : (ji48) ≤ (x3_3.length : Int)
                      · rw [if_pos c52] at H
                        have c52b0 := eq_true c52
                        have c52b1 : decide ((ji48) ≤ (x3_3.length : Int)) = true := decide_eq_true c52
                        clear c52
                        obtain ⟨y256, hy256⟩ : ∃ y_ : List ByteArray, y_ = (x3_3.take ((ji48) : Int).toNat) := ⟨_, rfl⟩
                        replace H : (if 0 ≤ (wrap64 ((ji48) - 1)) then (if (wrap64 ((ji48) - 1)) < (y256.length : Int) then (if (rdOf ByteArray.empty y256 (wrap64 ((ji48) - 1))).size + t254.size ≤ 9223372036854775807 then (gonglaw05_grown.l1 k3 (y256.set ((wrap64 ((ji48) - 1)) : Int).toNat ((rdOf ByteArray.empty y256 (wrap64 ((ji48) - 1))) ++ t254))) else (none)) else (none)) else (none)) = some r := by first | (rw [hy256]; with_reducible exact H) | (have H2_ := (Option.bind_some _ _).symm.trans H; rw [hy256]; with_reducible exact H2_) | (have H2_ := (Option.bind_some _ _).symm.trans H; with_reducible exact H2_) | with_reducible exact H | (rw [hy256]; exact H) | exact H
                        have Ny256 := Aside0.mk hy256
                        clear hy256
                        obtain ⟨ji53, hji53⟩ : ∃ j_ : Int, (wrap64 ((ji48) - 1)) = j_ := ⟨_, rfl⟩
                        replace H : (if 0 ≤ (ji53) then (if (ji53) < (y256.length : Int) then (if (rdOf ByteArray.empty y256 (ji53)).size + t254.size ≤ 9223372036854775807 then (gonglaw05_grown.l1 k3 (y256.set ((ji53) : Int).toNat ((rdOf ByteArray.empty y256 (ji53)) ++ t254))) else (none)) else (none)) else (none)) = some r := by first | (rw [hji53] at H; exact H) | (simp only [hji53] at H ⊢; exact H)
                        (try rw [hji53] at A51)
                        have hji53w : (IntKind.i64.wrap ((ji48) - 1)) = ji53 := (i64_w _).trans hji53
                        by_cases c54 : 0 ≤ (ji53)
                        · rw [if_pos c54] at H
                          have c54b0 : decide (0 ≤ (ji53)) = true := decide_eq_true c54
                          clear c54
                          by_cases c55 : (ji53) < (y256.length : Int)
                          · rw [if_pos c55] at H
                            have c55b0 : decide ((ji53) < (y256.length : Int)) = true := decide_eq_true c55
                            clear c55
                            by_cases c56 : (rdOf ByteArray.empty y256 (ji53)).size + t254.size ≤ 9223372036854775807
                            · rw [if_pos c56] at H
                              have c56b0 := eq_true c56
                              have c56b1 : decide ((rdOf ByteArray.empty y256 (ji53)).size + t254.size ≤ 9223372036854775807) = true := decide_eq_true c56
                              try have c56b2 : (9223372036854775807 < (rdOf ByteArray.empty y256 (ji53)).size + t254.size) = False := eq_false (Nat.not_lt.2 c56)
                              obtain ⟨y260, hy260⟩ : ∃ y_ : List ByteArray, y_ = (y256.set ((ji53) : Int).toNat ((rdOf ByteArray.empty y256 (ji53)) ++ t254)) := ⟨_, rfl⟩
                              replace H : (gonglaw05_grown.l1 k3 y260) = some r := by first | (rw [hy260]; with_reducible exact H) | (have H2_ := (Option.bind_some _ _).symm.trans H; rw [hy260]; with_reducible exact H2_) | (have H2_ := (Option.bind_some _ _).symm.trans H; with_reducible exact H2_) | with_reducible exact H | (rw [hy260]; exact H) | exact H
                              have Ny260 := Aside0.mk hy260
                              clear hy260
                              have H' := Aside0.mk H
                              clear H
                              obtain ⟨Ao58, co58, eo58⟩ := Kd.R_slice HO_3.out
                              subst eo58
                              have p253 : 0 ≤ ((ji48) : Int) := of_decide_eq_true (by first | (with_reducible assumption) | assumption)
                              have q253 : (ji48) < (x3_3.length : Int) := of_decide_eq_true (by first | (with_reducible assumption) | assumption)
                              obtain ⟨ad253, e253, hx253_0⟩ := Kd.at_string (Kd.R_reads' HO_3.out).2.2 (ji48) p253 q253
                              cases e253
                              replace p253 := eq_true p253
                              replace q253 := eq_true q253
                              go_wp2_with (first | ((with_reducible refine gate_callee (f := 29) rfl ?_); refine goesL_ (some 100) rfl rfl Try.func29 (by kernel_rfl) rfl #[.int .i64 48, .string (rdOf ByteArray.empty x3_3 (ji48))] rfl (by (try simp only [List.map_toArray, List.map_cons, List.map_nil]); first | done | (simp only [hji48]; rfl) | rfl | (simp only [List.length_drop, List.length_take]; rfl)) ?_; (with_reducible refine (ber_Wrap.calls k3 48 (rdOf ByteArray.empty x3_3 (ji48)) t254 t255 _ A51.out).mono ?_); rintro e w59 ⟨rfl, hb⟩; refine ⟨_, rfl, ?_⟩; have n0_ := Aside0.mk (Kd.R_below (by (with_reducible repeat (first | apply Kd.R_alloc | apply Kd.R_drewN | apply Kd.R_drew)); exact HO_3.out) hb); have n1_ := Aside0.mk (below_step (by repeat (first | (with_reducible first | exact HB.out | apply below_alloc | apply pw_below_drewN | apply below_drew1) | exact HB.out)) hb); clear HO_3; clear HB; have HO_3 := n0_; have HB := n1_; clear n0_ n1_; (try clear hb); (try clear hb2); (try clear hk); (try clear hi); have q60 : ((ji48) : Int) ≤ ((x3_3.length : Int) : Int) := of_decide_eq_true (by first | (with_reducible assumption) | assumption); obtain ⟨i060, hi060, _, hsz60, _⟩ := info_parts info9; have hcut60 := cut_to (P := Try.prog) 25 9 .i64 Try.underlying25 hi060 (some ad253) x3_3.length co58 (ji48) (of_decide_eq_true (by first | (with_reducible assumption) | assumption)) q60 (Kd.R_reads' HO_3.out).2.1; have hr60 := Kd.R_take (m := ((ji48) : Int).toNat) HO_3.out (by omega); have hy60 : y256.length = ((ji48) : Int).toNat := (by rw [Ny256.out, List.length_take]; omega); rw [← Ny256.out] at hr60; rw [← hy60] at hr60 hcut60; clear hy60 hi060 hsz60 HO_3; have HO258 := Aside0.mk hr60; clear hr60; replace q60 := eq_true q60; have p259 : 0 ≤ ((ji53) : Int) := of_decide_eq_true (by first | (with_reducible assumption) | assumption); have q259 : (ji53) < (y256.length : Int) := of_decide_eq_true (by first | (with_reducible assumption) | assumption); obtain ⟨ad259, e259, hx259_0⟩ := Kd.at_string (Kd.R_reads' HO258.out).2.2 (ji53) p259 q259; obtain rfl : ad253 = ad259 := (by injection e259); replace p259 := eq_true p259; replace q259 := eq_true q259; have p57 : 0 ≤ ((ji53) : Int) := of_decide_eq_true (by first | (with_reducible assumption) | assumption); have q57 : ((ji53) : Int) < ((y256.length : Int) : Int) := of_decide_eq_true (by first | (with_reducible assumption) | assumption); obtain ⟨go57, co57, eo57, gb57, gl57, cl57, HG57⟩ := Kd.R_form HO258.out (by omega); (first | cases eo57 | (injection eo57 with ea_ en_ ec_; (first | subst ea_ | (injection ea_ with ea_; subst ea_)); subst ec_; clear en_)); have GB57 := Aside0.mk gb57; have GG57 := Aside0.mk HG57; clear gb57 gl57 HG57; (first | simp only [add_plain] at hx253_0 | skip); (first | simp only [add_plain] at hx259_0 | skip); obtain ⟨hx57_0, hf57_0⟩ := Kd.R_celln (⟨#[]⟩ : ByteArray) HO258.out ((ji53) : Int) p57 q57; replace p57 := eq_true p57; replace q57 := eq_true q57; obtain ⟨hy61_, hz61_⟩ := Kd.R_celln (⟨#[]⟩ : ByteArray) HO258.out ((ji53) : Int) (of_decide_eq_true (by first | (with_reducible assumption) | assumption)) (of_decide_eq_true (by first | (with_reducible assumption) | assumption)); have HP61 := Kd.R_putg HO258.out ((ji53) : Int) ((rdOf ByteArray.empty y256 (ji53)) ++ t254)) | ((with_reducible refine gate_store (t := 9) (p := 113) rfl ?_); refine store_event (t := 9) (p := 113) (v := ?vo_w62) (w1 := (w59.setCell ⟨go57, ((ji53) : Int).toNat, none⟩ (.string ((rdOf ByteArray.empty y256 (ji53)) ++ t254)))) ?hg ?ho ?hn ?hr ?_; (case ho => rfl); (case hg => rfl); (case hn => rfl); (case hr => first | (go_simp; done) | (go_simp; rfl)); intro w62 hw; have hg : w59.grownBy w62 (some go57) := (by rw [hw]; exact HP61.2); have hp_ : Kd.R Kd.string 9 w62 w.heap.size (fun _ => True) (.slice (some ⟨go57, 0, none⟩) y256.length co58) y260 := (by rw [hw, Ny260.out]; exact HP61.1); clear HP61; have n0_ := Aside0.mk (hp_); have n1_ := Aside0.mk ((by rw [hw]; exact below_set (HB.out) GB57.out : Below w.heap.size w w62)); clear HO258; clear HB; have HO258 := n0_; have HB := n1_; clear n0_ n1_; clear hg hw hp_))
                              go_roundg k3
                              case measure => have := HK1.out; have := HJ3.out; have := HK3.out; omega
                              case rel => exact ⟨(y260), H', ⟨by have := HK1.out; have := HJ3.out; have := HK3.out; omega⟩, ⟨by (with_reducible repeat (first | apply Kd.R_alloc | apply Kd.R_drewN | apply Kd.R_drew)); exact HO258.out⟩, ⟨by repeat (first | (with_reducible first | exact HB.out | apply below_alloc | apply pw_below_drewN | apply below_drew1) | exact HB.out)⟩⟩
                            · rw [if_neg c56] at H
                              exact absurd H (by simp)
                          · rw [if_neg c55] at H
                            exact absurd H (by simp)
                        · rw [if_neg c54] at H
                          exact absurd H (by simp)
                      · rw [if_neg c52] at H
                        exact absurd H (by simp)
                    · rw [if_neg c50] at H
                      exact absurd H (by simp)
                  · rw [if_neg c49] at H
                    exact absurd H (by simp)
                · rw [if_neg c47] at H
                  have c47b0 : decide (1 < (x3_3.length : Int)) = false := decide_eq_false c47
                  have c47b1 : decide (1 < x3_3.length) = false := decide_eq_false (by omega)
                  clear c47
                  by_cases c63 : 0 < (x3_3.length : Int)
                  · rw [if_pos c63] at H
                    have c63b0 : decide (0 < (x3_3.length : Int)) = true := decide_eq_true c63
                    have c63b1 : decide (0 < x3_3.length) = true := decide_eq_true (by omega)
                    clear c63
                    replace H := Option.bind_eq_some_iff.mp H
                    obtain ⟨⟨t262, t263⟩, A640, H⟩ := H
                    replace H : (some t262) = some r := H
                    have A64 := Aside0.mk A640
                    clear A640
                    obtain rfl := Option.some.inj H
                    obtain ⟨Ao65, co65, eo65⟩ := Kd.R_slice HO_3.out
                    subst eo65
                    have p261 : 0 ≤ (0 : Int) := (by omega)
                    have q261 : 0 < (x3_3.length : Int) := of_decide_eq_true (by first | (with_reducible assumption) | assumption)
                    obtain ⟨ad261, e261, hx261_0⟩ := Kd.at_string (Kd.R_reads' HO_3.out).2.2 0 p261 q261
                    cases e261
                    have qi261 : (0 < x3_3.length) = True := eq_true (by omega)
                    (try rw [show ((0 : Int)).toNat = 0 from rfl] at hx261_0)
                    (try rw [Addr.add_zero'] at hx261_0)
                    replace p261 := eq_true p261
                    replace q261 := eq_true q261
                    go_wp2_with (first | ((with_reducible refine gate_callee (f := 29) rfl ?_); refine goesL_ (some 118) rfl rfl Try.func29 (by kernel_rfl) rfl #[.int .i64 48, .string (rdOf ByteArray.empty x3_3 0)] rfl (by (try simp only [List.map_toArray, List.map_cons, List.map_nil]); first | done | rfl | (simp only [List.length_drop, List.length_take]; rfl)) ?_; (with_reducible refine (ber_Wrap.calls k3 48 (rdOf ByteArray.empty x3_3 0) t262 t263 _ A64.out).mono ?_); rintro e w66 ⟨rfl, hb⟩; refine ⟨_, rfl, ?_⟩; have n0_ := Aside0.mk (Kd.R_below (by (with_reducible repeat (first | apply Kd.R_alloc | apply Kd.R_drewN | apply Kd.R_drew)); exact HO_3.out) hb); have n1_ := Aside0.mk (below_step (by repeat (first | (with_reducible first | exact HB.out | apply below_alloc | apply pw_below_drewN | apply below_drew1) | exact HB.out)) hb); clear HO_3; clear HB; have HO_3 := n0_; have HB := n1_; clear n0_ n1_; (try clear hb); (try clear hb2); (try clear hk); (try clear hi)))
                    go_ret
                    exact ⟨by first | rfl | (simp [errW_none, errW_some] <;> rfl) | (simp [*, errW_none, errW_some] <;> rfl), by repeat (first | (with_reducible first | exact HB.out | apply below_alloc | apply pw_below_drewN | apply below_drew1) | exact HB.out)⟩
                  · rw [if_neg c63] at H
                    exact absurd H (by simp)

end Go.Proofs.Yteidlffajcogcaa.XBer
