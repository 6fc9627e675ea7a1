-- Laid by extprint.py (the session's own driver): functions told by the kit's printer and by hand.
import Derived.Test.YthacblokhhhlmaaDoorXFfx0
import Derived.Test.YthacblokhhhlmaaDoorXFfx1
namespace Go.Proofs.YthacblokhhhlmaaDoor.XFf
open Go.RowKit Gong Go.Proofs.YthacblokhhhlmaaDoorW.PrintWords Go.Proofs.YthacblokhhhlmaaDoorW.PrintLast Go.Proofs.YthacblokhhhlmaaDoorW.PrintMore
attribute [local go_sem] max2_int min2_int max_two min_two max_three min_three max_four min_four   -- for this text's walks alone
set_option linter.unusedVariables false
set_option linter.unusedSimpArgs false

/-! ### gongbook_SameTexts: function 13 -/
def gongbook_SameTexts.l0 : Nat → List ByteArray → List ByteArray → Bool → Int → Option (Bool)
  | 0, _, _, _, _ => none
  | k + 1, x0, x1, x5, x6 => if x5 = true then (if x6 < (x0.length : Int) then (if 0 ≤ x6 then (if x6 < (x1.length : Int) then (gongbook_SameTexts.l0 k x0 x1 ((rdOf ByteArray.empty x0 x6).toList == (rdOf ByteArray.empty x1 x6).toList) (wrap64 (x6 + 1))) else (none)) else (none)) else (some x5)) else (some x5)
def gongbook_SameTexts.f (k : Nat) (l0 : List ByteArray) (l1 : List ByteArray) : Option (Bool) := gongbook_SameTexts.l0 k l0 l1 ((l0.length : Int) == (l1.length : Int)) 0
theorem gongbook_SameTexts.mono_l : ∀ k, (∀ y0 y1 y2 y3, LeO (gongbook_SameTexts.l0 k y0 y1 y2 y3) (gongbook_SameTexts.l0 (k + 1) y0 y1 y2 y3))
  | 0 => fun _ _ _ _ r h => by simp [gongbook_SameTexts.l0] at h
  | k + 1 => by
    have ih0 := gongbook_SameTexts.mono_l k
    · intro y0 y1 y2 y3
      unfold gongbook_SameTexts.l0
      repeat' first
      | (with_reducible exact ih0 _ _ _ _)
      | (with_reducible exact LeO.refl _)
      | (with_reducible exact LeO.none _)
      | (with_reducible refine LeO.ite ?_ ?_)
      | (with_reducible refine LeO.bind ?_ (fun _ => ?_))
      | exact ih0 _ _ _ _
      | exact LeO.none _
      | refine LeO.ite ?_ ?_
      | refine LeO.bind ?_ (fun _ => ?_)
theorem gongbook_SameTexts.mono : ∀ a0 a1 k, LeO (gongbook_SameTexts.f k a0 a1) (gongbook_SameTexts.f (k + 1) a0 a1) := by
  intro a0 a1 k
  have ih0 := gongbook_SameTexts.mono_l k
  unfold gongbook_SameTexts.f
  repeat' first
      | (with_reducible exact ih0 _ _ _ _)
      | (with_reducible exact LeO.refl _)
      | (with_reducible exact LeO.none _)
      | (with_reducible refine LeO.ite ?_ ?_)
      | (with_reducible refine LeO.bind ?_ (fun _ => ?_))
      | exact ih0 _ _ _ _
      | exact LeO.none _
      | refine LeO.ite ?_ ?_
      | refine LeO.bind ?_ (fun _ => ?_)
set_option maxHeartbeats 8000000 in
set_option maxRecDepth 100000 in
theorem gongbook_SameTexts.calls (k : Nat) (A0 : Option Addr) (c0 : Nat) (l0 : List ByteArray) (A1 : Option Addr) (c1 : Nat) (l1 : List ByteArray) (r : Bool) (w : World) (hr0 : Kd.C Kd.string w A0 l0.length l0) (hc0 : l0.length ≤ c0) (hr1 : Kd.C Kd.string w A1 l1.length l1) (hc1 : l1.length ≤ c1) (h : gongbook_SameTexts.f k l0 l1 = some r) :
    Calls Tryd.prog 13 #[.slice A0 l0.length c0, .slice A1 l1.length c1] w fun e w' => e = .returned (.bool r) ∧ Drawn0 w w' := by
  have HR0 := Aside0.mk hr0
  have HC0 := Aside0.mk hc0
  clear hr0 hc0
  have HR1 := Aside0.mk hr1
  have HC1 := Aside0.mk hc1
  clear hr1 hc1
  have H : (gongbook_SameTexts.l0 k l0 l1 ((l0.length : Int) == (l1.length : Int)) 0) = some r := h
  clear h
  have H' := Aside0.mk H
  clear H
  go_enter Tryd.func13, Tryd.ntmps13
  go_wp2
  repeat (go_quiet (fail); try go_wp2)
  go_loopg [5, 6] k (fun kq v5 v6 w' => ∃ (x5_1 : Bool) (x6_1 : Int), v5 = .bool x5_1 ∧ v6 = .int .i64 x6_1 ∧ Aside0 (gongbook_SameTexts.l0 kq l0 l1 x5_1 x6_1 = some r) ∧ Aside0 (kq ≤ k) ∧ Drawn0 w w')
  case atStart => exact ⟨(((l0.length : Int) == (l1.length : Int))), (0), (by first | rfl | (simp; done) | (simp [*]; done) | (simp [*]; exact isEmpty_bne _) | (simp; exact isEmpty_bne _)), (by first | rfl | (simp; done) | (simp [*]; done) | (simp [*]; exact isEmpty_bne _) | (simp; exact isEmpty_bne _)), H', ⟨Nat.le_refl _⟩, by repeat (first | exact Drawn0.refl _ | apply Drawn0.step)⟩
  case round =>
    clear H'
    try clear c1
    try clear p2
    obtain ⟨x5_1, x6_1, rfl, rfl, HA, HK1, ⟨m1, rfl⟩⟩ := hrel
    cases gk with
    | zero => exact absurd HA.out (by simp [gongbook_SameTexts.l0])
    | succ k1 =>
      have H := HA.out
      clear HA
      simp only [gongbook_SameTexts.l0] at H
      by_cases c3 : x5_1 = true
      · subst c3
        have H1 : (if x6_1 < (l0.length : Int) then (if 0 ≤ x6_1 then (if x6_1 < (l1.length : Int) then (gongbook_SameTexts.l0 k1 l0 l1 ((rdOf ByteArray.empty l0 x6_1).toList == (rdOf ByteArray.empty l1 x6_1).toList) (wrap64 (x6_1 + 1))) else (none)) else (none)) else (some true)) = some r := by rw [if_pos rfl] at H; exact H
        clear H
        have H := H1
        clear H1
        by_cases c4 : x6_1 < (l0.length : Int)
        · rw [if_pos c4] at H
          have c4b0 : decide (x6_1 < (l0.length : Int)) = true := decide_eq_true c4
          clear c4
          by_cases c5 : 0 ≤ x6_1
          · rw [if_pos c5] at H
            have c5b0 : decide (0 ≤ x6_1) = true := decide_eq_true c5
            clear c5
            by_cases c6 : x6_1 < (l1.length : Int)
            · rw [if_pos c6] at H
              have c6b0 : decide (x6_1 < (l1.length : Int)) = true := decide_eq_true c6
              clear c6
              have H' := Aside0.mk H
              clear H
              have p109 : 0 ≤ (x6_1 : Int) := of_decide_eq_true (by first | (with_reducible assumption) | assumption)
              have q109 : x6_1 < (l0.length : Int) := of_decide_eq_true (by first | (with_reducible assumption) | assumption)
              obtain ⟨ad109, e109, hx109_0⟩ := Kd.at_string HR0.out x6_1 p109 q109
              cases e109
              replace p109 := eq_true p109
              replace q109 := eq_true q109
              have p110 : 0 ≤ (x6_1 : Int) := of_decide_eq_true (by first | (with_reducible assumption) | assumption)
              have q110 : x6_1 < (l1.length : Int) := of_decide_eq_true (by first | (with_reducible assumption) | assumption)
              obtain ⟨ad110, e110, hx110_0⟩ := Kd.at_string HR1.out x6_1 p110 q110
              cases e110
              replace p110 := eq_true p110
              replace q110 := eq_true q110
              go_wp2
              repeat (go_quiet (fail); try go_wp2)
              go_roundg k1
              case measure => have := HK1.out; omega
              case rel => exact ⟨(((rdOf ByteArray.empty l0 x6_1).toList == (rdOf ByteArray.empty l1 x6_1).toList)), (wrap64 (x6_1 + 1)), (by first | rfl | (simp; done) | (simp [*]; done) | (simp [*]; exact isEmpty_bne _) | (simp; exact isEmpty_bne _)), (by first | rfl | (simp; done) | (simp [*]; done) | (simp [*]; exact isEmpty_bne _) | (simp; exact isEmpty_bne _)), H', ⟨by have := HK1.out; omega⟩, by repeat (first | exact Drawn0.refl _ | apply Drawn0.step)⟩
            · rw [if_neg c6] at H
              exact absurd H (by simp)
          · rw [if_neg c5] at H
            exact absurd H (by simp)
        · rw [if_neg c4] at H
          have c4b0 : decide (x6_1 < (l0.length : Int)) = false := decide_eq_false c4
          clear c4
          obtain rfl := Option.some.inj H
          go_wp2
          repeat (go_quiet (fail); try go_wp2)
          go_ret
          exact ⟨by first | rfl | (simp; done) | (simp [*]; done), by repeat (first | exact Drawn0.refl _ | apply Drawn0.step)⟩
      · replace c3 := Bool.eq_false_iff.mpr c3
        subst c3
        have H1 : (some false) = some r := by rw [if_neg (show ¬ (false = true) by decide)] at H; exact H
        clear H
        have H := H1
        clear H1
        obtain rfl := Option.some.inj H
        go_wp2
        repeat (go_quiet (fail); try go_wp2)
        go_ret
        exact ⟨by first | rfl | (simp; done) | (simp [*]; done), by repeat (first | exact Drawn0.refl _ | apply Drawn0.step)⟩

/-! ### frame_Framer_Held: function 17 -/
def Fm.held (F : Fm) : Int := if F.state = 1 then F.digits else if F.state = 2 then wrap64 (wrap64 (F.digits + 1) + (F.body.length : Int)) else 0
set_option maxHeartbeats 1600000 in
set_option maxRecDepth 100000 in
theorem frame_Framer_Held.calls (B g : Nat) (F : Fm) (bv : Value) (w : World) (hF : FmAt w B g F bv) :
    Calls Tryd.prog 17 #[.pointer (some ⟨g, 0, none⟩)] w fun e w' => e = .returned (.int .i64 F.held) ∧ Mv (fun _ => False) w w' := by
  obtain ⟨most, state, number, digits, body, dropped⟩ := F
  obtain ⟨A, c, rfl⟩ := BRow.slice hF.row
  have hc1 := blk_cell hF.blk 1
  have hc3 := blk_cell hF.blk 3
  have hc4 := blk_cell hF.blk 4
  clear hF
  unfold Fm.held
  simp only
  go_enter Tryd.func17, Tryd.ntmps17
  by_cases h1 : state = 1
  · subst h1
    rw [if_pos rfl]
    go_wp2
    go_ret
    exact ⟨rfl, Mv.refl _ _⟩
  · rw [if_neg h1]
    have e1 : (state == 1) = false := beq_eq_false_iff_ne.mpr h1
    by_cases h2 : state = 2
    · subst h2
      rw [if_pos rfl]
      go_wp2
      (try go_region)
      all_goals
        (try go_wp2)
        go_ret
        exact ⟨rfl, by first | exact Mv.refl _ _ | exact (Mv.refl _ _).drew⟩
    · rw [if_neg h2]
      have e2 : (state == 2) = false := beq_eq_false_iff_ne.mpr h2
      go_wp2
      go_ret
      exact ⟨rfl, Mv.refl _ _⟩

/-! ### gonglaw12_works: function 8 -/
def gonglaw12_works.f (k : Nat) : Option Bool := some true
theorem gonglaw12_works.mono : ∀ k, LeO (gonglaw12_works.f k) (gonglaw12_works.f (k + 1)) := fun k => LeO.refl _
theorem Fm.works1 : Fm.feed 12 ⟨10, 0, 0, 0, [], 0⟩ ⟨#[51, 32, 97, 98, 99, 50, 32, 120]⟩ = some ([⟨#[97, 98, 99]⟩], 0, ⟨10, 2, 2, 1, [120], 0⟩) := by kernel_rfl
theorem Fm.works2 : Fm.feed 12 ⟨10, 2, 2, 1, [120], 0⟩ ⟨#[121, 53]⟩ = some ([⟨#[120, 121]⟩], 0, ⟨10, 1, 5, 1, [], 0⟩) := by kernel_rfl
theorem same1 : gongbook_SameTexts.f 4 [⟨#[97, 98, 99]⟩] [⟨#[97, 98, 99]⟩] = some true := by kernel_rfl
theorem same2 : gongbook_SameTexts.f 4 [⟨#[120, 121]⟩] [⟨#[120, 121]⟩] = some true := by kernel_rfl
/-- Rows of texts beside a framer that is written. -/
theorem R_fm {w0 base : Nat} {W W' : World} {B g : Nat} {F : Fm} {bv v : Value} {xs : List ByteArray} (h : Kd.R Kd.string 9 W base (fun _ => True) v xs) (hF : FmAt W B g F bv) (hg : g < base) (hm : Mv (fun k => k = g ∨ bv.ownBlock = some k) W W') : Kd.R Kd.string 9 W' base (fun _ => True) v xs :=
  R_mv h hm (fun k cells q h1 h2 h3 h4 => by
    rcases h4 with h4 | h4
    · omega
    · obtain ⟨cells2, h5⟩ := own_typed hF.row k h4
      rw [h3] at h5
      have hq9 : q = 9 := by simpa [Kd.string, Kd.scalar] using h2
      subst hq9
      injection h5 with h5
      injection h5 with _ h6 _
      exact absurd h6 (by decide))
theorem lit_C (W : World) (s : ByteArray) : Kd.C Kd.string (W.alloc (.cells #[.string s] 9)) (some ⟨W.heap.size, 0, none⟩) 1 [s] := by
  refine Kd.C_of_reads (enc := Value.string) (d := ByteArray.empty) (h1 := fun _ => rfl) ⟨rfl, by decide, fun _ => ⟨_, rfl, fun i hi => ?_⟩⟩
  obtain rfl : i = 0 := by omega
  simp [Addr.add]
theorem lit_C' (W : World) (s : ByteArray) (n : Nat) (hn : n = W.heap.size) : Kd.C Kd.string (W.alloc (.cells #[.string s] 9)) (some ⟨n, 0, none⟩) 1 [s] := by
  subst hn
  exact lit_C W s
set_option maxHeartbeats 1600000 in
set_option maxRecDepth 100000 in
theorem gonglaw12_works.calls (k : Nat) (r : Bool) (w : World) (h : gonglaw12_works.f k = some r) :
    Calls Tryd.prog 8 #[] w fun e w' => e = .returned (.bool r) ∧ Below w.heap.size w w' := by
  injection h with h
  subst h
  go_enter Tryd.func8, Tryd.ntmps8
  go_wp2_with fail
  refine (frame_New.ok 10 _ (by decide) (by decide)).mono ?_
  rintro e w1 ⟨rfl, hF1, hm1⟩
  have hg1 := hF1.lt
  obtain ⟨g, hg⟩ : ∃ g, g = w.heap.size := ⟨_, rfl⟩
  rw [← hg] at hF1 hg1 ⊢
  have HG := Aside0.mk hg
  have HG1 := Aside0.mk hg1
  have HM1 := Aside0.mk hm1
  clear hg hg1 hm1
  have A1 := Aside0.mk (frame_Framer_Feed.calls 12 g g _ _ _ _ _ _ w1 hF1 (Nat.le_of_lt HG1.out) Fm.works1)
  have HF1 := Aside0.mk hF1
  clear hF1
  go_wp2_with fail
  refine A1.out.mono ?_
  rintro e w2 ⟨mv1, bv1, rfl, hr2, hF2, ho2, hm2⟩
  have HR2 := Aside0.mk hr2
  have HF2 := Aside0.mk hF2
  have HO2 := Aside0.mk ho2
  have HM2 := Aside0.mk hm2
  have A2 := Aside0.mk (frame_Framer_Feed.calls 12 g g _ _ _ _ _ _ w2 hF2 (Nat.le_of_lt hF2.lt) Fm.works2)
  clear hr2 hF2 ho2 hm2 A1
  go_wp2_with fail
  refine A2.out.mono ?_
  rintro e w3 ⟨mv2, bv2, rfl, hr3, hF3, ho3, hm3⟩
  have HR3 := Aside0.mk hr3
  have HF3 := Aside0.mk hF3
  have HR2 := Aside0.mk (R_fm (w0 := 0) HR2.out HF2.out HG1.out hm3)
  have HB3 := Aside0.mk (show Below w.heap.size w w3 from Mv.below (S := fun k => w.heap.size ≤ k) (((HM1.out.mono (fun k _ h => h.elim)).trans HM2.out (fun i hi h => by
    rcases h with h | h
    · rw [h, HG.out]; exact Nat.le_refl _
    · simp [Value.ownBlock] at h)).trans hm3 (fun i hi h => by
    rcases h with h | h
    · rw [h, HG.out]; exact Nat.le_refl _
    · have := (World.ownsRow.lt HF2.out.row i h).1
      have := HG.out
      omega)) (Nat.le_refl _) (fun k h => h))
  obtain ⟨P1, q1, rfl, hq1, hC1⟩ := Kd.R_reads HR2.out
  obtain ⟨P2, q2, rfl, hq2, hC2⟩ := Kd.R_reads HR3.out
  have HC1 := Aside0.mk hC1
  have HC2 := Aside0.mk hC2
  clear hr3 hF3 ho3 hm3 A2 hC1 hC2 HO2 HM2 HF2 HF1 HM1
  go_wp2_with fail
  refine (gongbook_SameTexts.calls 4 P1 q1 [⟨#[97, 98, 99]⟩] (some ⟨w3.heap.size, 0, none⟩) 1 [⟨#[97, 98, 99]⟩] true _ (Kd.C_alloc HC1.out _) hq1 (lit_C w3 _) (Nat.le_refl _) same1).mono ?_
  rintro e w4 ⟨rfl, m4, rfl⟩
  go_wp2_with fail
  refine (gongbook_SameTexts.calls 4 P2 q2 [⟨#[120, 121]⟩] (some ⟨w3.heap.size + 1, 0, none⟩) 1 [⟨#[120, 121]⟩] true _ (Kd.C_alloc (Kd.C_drewN (Kd.C_alloc HC2.out _) _) _) hq2 (lit_C' _ _ _ (show w3.heap.size + 1 = (w3.heap.push _).size from (Array.size_push _).symm)) (Nat.le_refl _) same2).mono ?_
  rintro e w5 ⟨rfl, m5, rfl⟩
  go_wp2_with fail
  refine (frame_Framer_Held.calls g g _ bv2 _ (HF3.out.mv (((((Mv.refl (fun _ => False) w3).alloc _).drewN _).alloc _).drewN _) id (fun _ _ => id))).mono ?_
  rintro e w6 ⟨rfl, hm6⟩
  have hh : (Fm.mk 10 1 5 1 [] 0).held = 1 := rfl
  rw [hh]
  go_wp2
  go_ret
  exact ⟨rfl, Below.trans HB3.out (Mv.below (S := fun _ => False) ((((((Mv.refl _ w3).alloc _).drewN _).alloc _).drewN _).trans hm6 (fun _ _ h => h)) HB3.out.size (fun _ h => h.elim))⟩

-- NOT PRINTED: function 9 (frame_Framer_Fork)

/-! ### frame_Framer_Dead: function 18 -/
set_option maxHeartbeats 1600000 in
set_option maxRecDepth 100000 in
theorem frame_Framer_Dead.calls (B g : Nat) (F : Fm) (bv : Value) (w : World) (hF : FmAt w B g F bv) :
    Calls Tryd.prog 18 #[.pointer (some ⟨g, 0, none⟩)] w fun e w' => e = .returned (.bool (F.state == 3)) ∧ Mv (fun _ => False) w w' := by
  have hc1 := blk_cell hF.blk 1
  clear hF
  go_enter Tryd.func18, Tryd.ntmps18
  go_wp2
  go_ret
  exact ⟨rfl, Mv.refl _ _⟩

/-! ### frame_Framer_Dropped: function 19 -/
set_option maxHeartbeats 1600000 in
set_option maxRecDepth 100000 in
theorem frame_Framer_Dropped.calls (B g : Nat) (F : Fm) (bv : Value) (w : World) (hF : FmAt w B g F bv) :
    Calls Tryd.prog 19 #[.pointer (some ⟨g, 0, none⟩)] w fun e w' => e = .returned (.int .i64 F.dropped) ∧ Mv (fun _ => False) w w' := by
  have hc1 := blk_cell hF.blk 5
  clear hF
  go_enter Tryd.func19, Tryd.ntmps19
  go_wp2
  go_ret
  exact ⟨rfl, Mv.refl _ _⟩

-- NOT PRINTED: function 10 (gonglaw12_same)

/-! ### gongref12_head: function 22 -/
mutual
def gongref12_head.l0 : Nat → ByteArray → Int → Int → Int → Option (Int × Int)
  | 0, _, _, _, _ => none
  | k + 1, x0, x1, x6, x7 => if x7 < (x0.size : Int) then (if 0 ≤ x7 then (if (bt x0 x7) = 32 then (gongref12_head.j1 k x0 x1 x6 x7 (decide (x7 > 0))) else (gongref12_head.j1 k x0 x1 x6 x7 false)) else (none)) else (some ((-1), 0))
def gongref12_head.j1 : Nat → ByteArray → Int → Int → Int → Bool → Option (Int × Int)
  | 0, _, _, _, _, _ => none
  | k + 1, x0, x1, x6, x7, x21 => if x21 = true then (some (x6, wrap64 (x7 + 1))) else (if 0 ≤ x7 then (if x7 < (x0.size : Int) then (if (bt x0 x7) < 48 then (gongref12_head.j2 k x0 x1 x6 x7 true) else (if (bt x0 x7) > 57 then (gongref12_head.j2 k x0 x1 x6 x7 true) else (if x7 = 0 then (gongref12_head.j2 k x0 x1 x6 x7 ((bt x0 x7) == 48)) else (gongref12_head.j2 k x0 x1 x6 x7 false)))) else (none)) else (none))
def gongref12_head.j2 : Nat → ByteArray → Int → Int → Int → Bool → Option (Int × Int)
  | 0, _, _, _, _, _ => none
  | k + 1, x0, x1, x6, x7, x44 => if x44 = true then (some ((-2), 0)) else (if 0 ≤ x7 then (if x7 < (x0.size : Int) then (if (wrap64 ((wrap64 (x6 * 10)) + (((bt x0 x7) - 48) % 256))) > x1 then (some ((-2), 0)) else (gongref12_head.l0 k x0 x1 (wrap64 ((wrap64 (x6 * 10)) + (((bt x0 x7) - 48) % 256))) (wrap64 (x7 + 1)))) else (none)) else (none))
end
def gongref12_head.f (k : Nat) (a0 : ByteArray) (a1 : Int) : Option (Int × Int) := gongref12_head.l0 k a0 a1 0 0
theorem gongref12_head.mono_l : ∀ k, (∀ y0 y1 y2 y3, LeO (gongref12_head.l0 k y0 y1 y2 y3) (gongref12_head.l0 (k + 1) y0 y1 y2 y3)) ∧ (∀ y0 y1 y2 y3 y4, LeO (gongref12_head.j1 k y0 y1 y2 y3 y4) (gongref12_head.j1 (k + 1) y0 y1 y2 y3 y4)) ∧ (∀ y0 y1 y2 y3 y4, LeO (gongref12_head.j2 k y0 y1 y2 y3 y4) (gongref12_head.j2 (k + 1) y0 y1 y2 y3 y4))
  | 0 => ⟨fun _ _ _ _ r h => by simp [gongref12_head.l0] at h, fun _ _ _ _ _ r h => by simp [gongref12_head.j1] at h, fun _ _ _ _ _ r h => by simp [gongref12_head.j2] at h⟩
  | k + 1 => by
    obtain ⟨ih0, ih1, ih2⟩ := gongref12_head.mono_l k
    refine ⟨?_, ?_, ?_⟩
    · intro y0 y1 y2 y3
      unfold gongref12_head.l0
      repeat' first
      | (with_reducible exact ih0 _ _ _ _)
      | (with_reducible exact ih1 _ _ _ _ _)
      | (with_reducible exact ih2 _ _ _ _ _)
      | (with_reducible exact LeO.refl _)
      | (with_reducible exact LeO.none _)
      | (with_reducible refine LeO.ite ?_ ?_)
      | (with_reducible refine LeO.bind ?_ (fun _ => ?_))
      | exact ih0 _ _ _ _
      | exact ih1 _ _ _ _ _
      | exact ih2 _ _ _ _ _
      | exact LeO.none _
      | refine LeO.ite ?_ ?_
      | refine LeO.bind ?_ (fun _ => ?_)
    · intro y0 y1 y2 y3 y4
      unfold gongref12_head.j1
      repeat' first
      | (with_reducible exact ih0 _ _ _ _)
      | (with_reducible exact ih1 _ _ _ _ _)
      | (with_reducible exact ih2 _ _ _ _ _)
      | (with_reducible exact LeO.refl _)
      | (with_reducible exact LeO.none _)
      | (with_reducible refine LeO.ite ?_ ?_)
      | (with_reducible refine LeO.bind ?_ (fun _ => ?_))
      | exact ih0 _ _ _ _
      | exact ih1 _ _ _ _ _
      | exact ih2 _ _ _ _ _
      | exact LeO.none _
      | refine LeO.ite ?_ ?_
      | refine LeO.bind ?_ (fun _ => ?_)
    · intro y0 y1 y2 y3 y4
      unfold gongref12_head.j2
      repeat' first
      | (with_reducible exact ih0 _ _ _ _)
      | (with_reducible exact ih1 _ _ _ _ _)
      | (with_reducible exact ih2 _ _ _ _ _)
      | (with_reducible exact LeO.refl _)
      | (with_reducible exact LeO.none _)
      | (with_reducible refine LeO.ite ?_ ?_)
      | (with_reducible refine LeO.bind ?_ (fun _ => ?_))
      | exact ih0 _ _ _ _
      | exact ih1 _ _ _ _ _
      | exact ih2 _ _ _ _ _
      | exact LeO.none _
      | refine LeO.ite ?_ ?_
      | refine LeO.bind ?_ (fun _ => ?_)
theorem gongref12_head.mono : ∀ a0 a1 k, LeO (gongref12_head.f k a0 a1) (gongref12_head.f (k + 1) a0 a1) := by
  intro a0 a1 k
  obtain ⟨ih0, ih1, ih2⟩ := gongref12_head.mono_l k
  unfold gongref12_head.f
  repeat' first
      | (with_reducible exact ih0 _ _ _ _)
      | (with_reducible exact ih1 _ _ _ _ _)
      | (with_reducible exact ih2 _ _ _ _ _)
      | (with_reducible exact LeO.refl _)
      | (with_reducible exact LeO.none _)
      | (with_reducible refine LeO.ite ?_ ?_)
      | (with_reducible refine LeO.bind ?_ (fun _ => ?_))
      | exact ih0 _ _ _ _
      | exact ih1 _ _ _ _ _
      | exact ih2 _ _ _ _ _
      | exact LeO.none _
      | refine LeO.ite ?_ ?_
      | refine LeO.bind ?_ (fun _ => ?_)
set_option maxHeartbeats 8000000 in
set_option maxRecDepth 100000 in
theorem gongref12_head.calls (k : Nat) (a0 : ByteArray) (a1 : Int) (r1 : Int) (r2 : Int) (w : World) (h : gongref12_head.f k a0 a1 = some (r1, r2)) :
    Calls Tryd.prog 22 #[.string a0, .int .i64 a1] w fun e w' => e = .returned (.tuple #[.int .i64 r1, .int .i64 r2]) ∧ Drawn0 w w' := by
  have H : (gongref12_head.l0 k a0 a1 0 0) = some (r1, r2) := h
  clear h
  have H' := Aside0.mk H
  clear H
  go_enter Tryd.func22, Tryd.ntmps22
  go_wp2
  go_loopg [6, 7] k (fun kq v6 v7 w' => ∃ (x6_1 : Int) (x7_1 : Int), v6 = .int .i64 x6_1 ∧ v7 = .int .i64 x7_1 ∧ Aside0 (gongref12_head.l0 kq a0 a1 x6_1 x7_1 = some (r1, r2)) ∧ Aside0 (kq ≤ k) ∧ Drawn0 w w')
  case atStart => exact ⟨(0), (0), (by first | rfl | (simp; done) | (simp [*]; done) | (simp [*]; exact isEmpty_bne _) | (simp; exact isEmpty_bne _)), (by first | rfl | (simp; done) | (simp [*]; done) | (simp [*]; exact isEmpty_bne _) | (simp; exact isEmpty_bne _)), H', ⟨Nat.le_refl _⟩, by repeat (first | exact Drawn0.refl _ | apply Drawn0.step)⟩
  case round =>
    clear H'
    try clear c2
    try clear p2
    obtain ⟨x6_1, x7_1, rfl, rfl, HA, HK1, ⟨m1, rfl⟩⟩ := hrel
    cases gk with
    | zero => exact absurd HA.out (by simp [gongref12_head.l0])
    | succ k1 =>
      have H := HA.out
      clear HA
      simp only [gongref12_head.l0] at H
      by_cases c3 : x7_1 < (a0.size : Int)
      · rw [if_pos c3] at H
        have c3b0 : decide (x7_1 < (a0.size : Int)) = true := decide_eq_true c3
        clear c3
        have HC4 := Aside0.mk H
        clear H
        go_upto_region 5 with (fail)
        go_cut [21] (fun v21 wc => ∃ (kq : Nat) (x21_3 : Bool), v21 = .bool x21_3 ∧ Aside0 (gongref12_head.j1 kq a0 a1 x6_1 x7_1 x21_3 = some (r1, r2)) ∧ Aside0 (kq ≤ k1) ∧ Drawn0 w wc)
        case first =>
          have H := HC4.out
          clear HC4
          by_cases c5 : 0 ≤ x7_1
          · rw [if_pos c5] at H
            have c5b0 : decide (0 ≤ x7_1) = true := decide_eq_true c5
            clear c5
            (first | rw [c5b0] | (simp only [i64_w, i32_w]; rw [c5b0]) | skip)
            by_cases c7 : (bt a0 x7_1) = 32
            · rw [if_pos c7] at H
              have c7b0 : ((bt a0 x7_1) == 32) = true := beq_iff_eq.mpr c7
              have c7b1 : ((bt a0 x7_1) != 32) = false := bne_eq_false_iff_eq.mpr c7
              clear c7
              have H' := Aside0.mk H
              clear H
              have p6 : 0 ≤ (x7_1 : Int) := of_decide_eq_true (by first | (with_reducible assumption) | assumption)
              have q6 : x7_1 < (a0.size : Int) := of_decide_eq_true (by first | (with_reducible assumption) | assumption)
              have hx6 := bt_at a0 x7_1
              replace p6 := eq_true p6
              replace q6 := eq_true q6
              go_wp2
              go_meet
              case rel => exact ⟨_, (decide (x7_1 > 0)), (by first | rfl | (simp; done) | (simp [*]; done) | (simp [*]; exact isEmpty_bne _) | (simp; exact isEmpty_bne _)), H', ⟨by have := HK1.out; first | omega | exact Nat.le_refl _⟩, by repeat (first | exact Drawn0.refl _ | apply Drawn0.step)⟩
            · rw [if_neg c7] at H
              have c7b0 : ((bt a0 x7_1) == 32) = false := beq_eq_false_iff_ne.mpr c7
              have c7b1 : ((bt a0 x7_1) != 32) = true := bne_iff_ne.mpr c7
              have H' := Aside0.mk H
              clear H
              have p6 : 0 ≤ (x7_1 : Int) := of_decide_eq_true (by first | (with_reducible assumption) | assumption)
              have q6 : x7_1 < (a0.size : Int) := of_decide_eq_true (by first | (with_reducible assumption) | assumption)
              have hx6 := bt_at a0 x7_1
              replace p6 := eq_true p6
              replace q6 := eq_true q6
              go_wp2
              go_meet
              case rel => exact ⟨_, (false), (by first | rfl | (simp; done) | (simp [*]; done) | (simp [*]; exact isEmpty_bne _) | (simp; exact isEmpty_bne _)), H', ⟨by have := HK1.out; first | omega | exact Nat.le_refl _⟩, by repeat (first | exact Drawn0.refl _ | apply Drawn0.step)⟩
          · rw [if_neg c5] at H
            exact absurd H (by simp)
        case rest =>
          clear HC4
          try clear c2
          try clear p2
          try clear c3
          try clear c3b0
          try clear c5
          try clear c5b0
          try clear p6
          try clear q6
          try clear hx6
          try clear c7
          try clear c7b0
          try clear c7b1
          try clear p2
          try clear p6
          try clear q6
          obtain ⟨kq, x21_3, rfl, HA, HJ3, ⟨mc3, rfl⟩⟩ := hcut
          cases kq with
          | zero => exact absurd HA.out (by simp [gongref12_head.j1])
          | succ kj3 =>
            have H := HA.out
            clear HA
            simp only [gongref12_head.j1] at H
            by_cases c8 : x21_3 = true
            · subst c8
              have H1 : (some (x6_1, wrap64 (x7_1 + 1))) = some (r1, r2) := by rw [if_pos rfl] at H; exact H
              clear H
              have H := H1
              clear H1
              simp only [Option.some.injEq, Prod.mk.injEq] at H
              obtain ⟨rfl, rfl⟩ := H
              go_wp2
              go_ret2
              exact ⟨by first | rfl | (simp; done) | (simp [*]; done), by repeat (first | exact Drawn0.refl _ | apply Drawn0.step)⟩
            · replace c8 := Bool.eq_false_iff.mpr c8
              subst c8
              have H1 : (if 0 ≤ x7_1 then (if x7_1 < (a0.size : Int) then (if (bt a0 x7_1) < 48 then (gongref12_head.j2 kj3 a0 a1 x6_1 x7_1 true) else (if (bt a0 x7_1) > 57 then (gongref12_head.j2 kj3 a0 a1 x6_1 x7_1 true) else (if x7_1 = 0 then (gongref12_head.j2 kj3 a0 a1 x6_1 x7_1 ((bt a0 x7_1) == 48)) else (gongref12_head.j2 kj3 a0 a1 x6_1 x7_1 false)))) else (none)) else (none)) = some (r1, r2) := by rw [if_neg (show ¬ (false = true) by decide)] at H; exact H
              clear H
              have H := H1
              clear H1
              have HC9 := Aside0.mk H
              clear H
              go_upto_region 7 with (fail)
              go_cut [44] (fun v44 wc => ∃ (kq : Nat) (x44_8 : Bool), v44 = .bool x44_8 ∧ Aside0 (gongref12_head.j2 kq a0 a1 x6_1 x7_1 x44_8 = some (r1, r2)) ∧ Aside0 (kq ≤ kj3) ∧ Drawn0 w wc)
              case first =>
                have H := HC9.out
                clear HC9
                by_cases c10 : 0 ≤ x7_1
                · rw [if_pos c10] at H
                  have c10b0 : decide (0 ≤ x7_1) = true := decide_eq_true c10
                  clear c10
                  (first | rw [c10b0] | (simp only [i64_w, i32_w]; rw [c10b0]) | skip)
                  by_cases c11 : x7_1 < (a0.size : Int)
                  · rw [if_pos c11] at H
                    have c11b0 : decide (x7_1 < (a0.size : Int)) = true := decide_eq_true c11
                    clear c11
                    by_cases c13 : (bt a0 x7_1) < 48
                    · rw [if_pos c13] at H
                      have c13b0 : decide ((bt a0 x7_1) < 48) = true := decide_eq_true c13
                      clear c13
                      have H' := Aside0.mk H
                      clear H
                      have p12 : 0 ≤ (x7_1 : Int) := of_decide_eq_true (by first | (with_reducible assumption) | assumption)
                      have q12 : x7_1 < (a0.size : Int) := of_decide_eq_true (by first | (with_reducible assumption) | assumption)
                      have hx12 := bt_at a0 x7_1
                      replace p12 := eq_true p12
                      replace q12 := eq_true q12
                      go_wp2
                      go_meet
                      case rel => exact ⟨_, (true), (by first | rfl | (simp; done) | (simp [*]; done) | (simp [*]; exact isEmpty_bne _) | (simp; exact isEmpty_bne _)), H', ⟨by have := HK1.out; have := HJ3.out; first | omega | exact Nat.le_refl _⟩, by repeat (first | exact Drawn0.refl _ | apply Drawn0.step)⟩
                    · rw [if_neg c13] at H
                      have c13b0 : decide ((bt a0 x7_1) < 48) = false := decide_eq_false c13
                      clear c13
                      by_cases c15 : (bt a0 x7_1) > 57
                      · rw [if_pos c15] at H
                        have c15b0 : decide (57 < (bt a0 x7_1)) = true := decide_eq_true c15
                        clear c15
                        have H' := Aside0.mk H
                        clear H
                        have p12 : 0 ≤ (x7_1 : Int) := of_decide_eq_true (by first | (with_reducible assumption) | assumption)
                        have q12 : x7_1 < (a0.size : Int) := of_decide_eq_true (by first | (with_reducible assumption) | assumption)
                        have hx12 := bt_at a0 x7_1
                        replace p12 := eq_true p12
                        replace q12 := eq_true q12
                        have p14 : 0 ≤ (x7_1 : Int) := of_decide_eq_true (by first | (with_reducible assumption) | assumption)
                        have q14 : x7_1 < (a0.size : Int) := of_decide_eq_true (by first | (with_reducible assumption) | assumption)
                        have hx14 := bt_at a0 x7_1
                        replace p14 := eq_true p14
                        replace q14 := eq_true q14
                        go_wp2
                        go_meet
                        case rel => exact ⟨_, (true), (by first | rfl | (simp; done) | (simp [*]; done) | (simp [*]; exact isEmpty_bne _) | (simp; exact isEmpty_bne _)), H', ⟨by have := HK1.out; have := HJ3.out; first | omega | exact Nat.le_refl _⟩, by repeat (first | exact Drawn0.refl _ | apply Drawn0.step)⟩
                      · rw [if_neg c15] at H
                        have c15b0 : decide (57 < (bt a0 x7_1)) = false := decide_eq_false c15
                        clear c15
                        by_cases c16 : x7_1 = 0
                        · rw [if_pos c16] at H
                          have c16b0 : (x7_1 == 0) = true := beq_iff_eq.mpr c16
                          have c16b1 : (x7_1 != 0) = false := bne_eq_false_iff_eq.mpr c16
                          clear c16
                          have H' := Aside0.mk H
                          clear H
                          have p12 : 0 ≤ (x7_1 : Int) := of_decide_eq_true (by first | (with_reducible assumption) | assumption)
                          have q12 : x7_1 < (a0.size : Int) := of_decide_eq_true (by first | (with_reducible assumption) | assumption)
                          have hx12 := bt_at a0 x7_1
                          replace p12 := eq_true p12
                          replace q12 := eq_true q12
                          have p14 : 0 ≤ (x7_1 : Int) := of_decide_eq_true (by first | (with_reducible assumption) | assumption)
                          have q14 : x7_1 < (a0.size : Int) := of_decide_eq_true (by first | (with_reducible assumption) | assumption)
                          have hx14 := bt_at a0 x7_1
                          replace p14 := eq_true p14
                          replace q14 := eq_true q14
                          have p17 : 0 ≤ (x7_1 : Int) := of_decide_eq_true (by first | (with_reducible assumption) | assumption)
                          have q17 : x7_1 < (a0.size : Int) := of_decide_eq_true (by first | (with_reducible assumption) | assumption)
                          have hx17 := bt_at a0 x7_1
                          replace p17 := eq_true p17
                          replace q17 := eq_true q17
                          go_wp2
                          go_meet
                          case rel => exact ⟨_, (((bt a0 x7_1) == 48)), (by first | rfl | (simp; done) | (simp [*]; done) | (simp [*]; exact isEmpty_bne _) | (simp; exact isEmpty_bne _)), H', ⟨by have := HK1.out; have := HJ3.out; first | omega | exact Nat.le_refl _⟩, by repeat (first | exact Drawn0.refl _ | apply Drawn0.step)⟩
                        · rw [if_neg c16] at H
                          have c16b0 : (x7_1 == 0) = false := beq_eq_false_iff_ne.mpr c16
                          have c16b1 : (x7_1 != 0) = true := bne_iff_ne.mpr c16
                          have H' := Aside0.mk H
                          clear H
                          have p12 : 0 ≤ (x7_1 : Int) := of_decide_eq_true (by first | (with_reducible assumption) | assumption)
                          have q12 : x7_1 < (a0.size : Int) := of_decide_eq_true (by first | (with_reducible assumption) | assumption)
                          have hx12 := bt_at a0 x7_1
                          replace p12 := eq_true p12
                          replace q12 := eq_true q12
                          have p14 : 0 ≤ (x7_1 : Int) := of_decide_eq_true (by first | (with_reducible assumption) | assumption)
                          have q14 : x7_1 < (a0.size : Int) := of_decide_eq_true (by first | (with_reducible assumption) | assumption)
                          have hx14 := bt_at a0 x7_1
                          replace p14 := eq_true p14
                          replace q14 := eq_true q14
                          go_wp2
                          go_meet
                          case rel => exact ⟨_, (false), (by first | rfl | (simp; done) | (simp [*]; done) | (simp [*]; exact isEmpty_bne _) | (simp; exact isEmpty_bne _)), H', ⟨by have := HK1.out; have := HJ3.out; first | omega | exact Nat.le_refl _⟩, by repeat (first | exact Drawn0.refl _ | apply Drawn0.step)⟩
                  · rw [if_neg c11] at H
                    exact absurd H (by simp)
                · rw [if_neg c10] at H
                  exact absurd H (by simp)
              case rest =>
                clear HC9
                try clear c1
                try clear p1
                try clear q1
                try clear hx1
                try clear c2
                try clear p2
                try clear c3
                try clear c3b0
                try clear c5
                try clear c5b0
                try clear p6
                try clear q6
                try clear hx6
                try clear c7
                try clear c7b0
                try clear c7b1
                try clear c8
                try clear c10
                try clear c10b0
                try clear c11
                try clear c11b0
                try clear p12
                try clear q12
                try clear hx12
                try clear c13
                try clear c13b0
                try clear p14
                try clear q14
                try clear hx14
                try clear c15
                try clear c15b0
                try clear c16
                try clear c16b0
                try clear c16b1
                try clear p17
                try clear q17
                try clear hx17
                try clear p12
                try clear p14
                try clear p17
                try clear p2
                try clear p6
                try clear q12
                try clear q14
                try clear q17
                try clear q6
                obtain ⟨kq, x44_8, rfl, HA, HJ8, ⟨mc8, rfl⟩⟩ := hcut
                cases kq with
                | zero => exact absurd HA.out (by simp [gongref12_head.j2])
                | succ kj8 =>
                  have H := HA.out
                  clear HA
                  simp only [gongref12_head.j2] at H
                  by_cases c18 : x44_8 = true
                  · subst c18
                    have H1 : (some ((-2), 0)) = some (r1, r2) := by rw [if_pos rfl] at H; exact H
                    clear H
                    have H := H1
                    clear H1
                    simp only [Option.some.injEq, Prod.mk.injEq] at H
                    obtain ⟨rfl, rfl⟩ := H
                    go_wp2
                    go_ret2
                    exact ⟨by first | rfl | (simp; done) | (simp [*]; done), by repeat (first | exact Drawn0.refl _ | apply Drawn0.step)⟩
                  · replace c18 := Bool.eq_false_iff.mpr c18
                    subst c18
                    have H1 : (if 0 ≤ x7_1 then (if x7_1 < (a0.size : Int) then (if (wrap64 ((wrap64 (x6_1 * 10)) + (((bt a0 x7_1) - 48) % 256))) > a1 then (some ((-2), 0)) else (gongref12_head.l0 kj8 a0 a1 (wrap64 ((wrap64 (x6_1 * 10)) + (((bt a0 x7_1) - 48) % 256))) (wrap64 (x7_1 + 1)))) else (none)) else (none)) = some (r1, r2) := by rw [if_neg (show ¬ (false = true) by decide)] at H; exact H
                    clear H
                    have H := H1
                    clear H1
                    by_cases c19 : 0 ≤ x7_1
                    · rw [if_pos c19] at H
                      have c19b0 : decide (0 ≤ x7_1) = true := decide_eq_true c19
                      clear c19
                      by_cases c20 : x7_1 < (a0.size : Int)
                      · rw [if_pos c20] at H
                        have c20b0 : decide (x7_1 < (a0.size : Int)) = true := decide_eq_true c20
                        clear c20
                        by_cases c22 : (wrap64 ((wrap64 (x6_1 * 10)) + (((bt a0 x7_1) - 48) % 256))) > a1
                        · rw [if_pos c22] at H
                          have c22b0 : decide (a1 < (wrap64 ((wrap64 (x6_1 * 10)) + (((bt a0 x7_1) - 48) % 256)))) = true := decide_eq_true c22
                          clear c22
                          simp only [Option.some.injEq, Prod.mk.injEq] at H
                          obtain ⟨rfl, rfl⟩ := H
                          have p21 : 0 ≤ (x7_1 : Int) := of_decide_eq_true (by first | (with_reducible assumption) | assumption)
                          have q21 : x7_1 < (a0.size : Int) := of_decide_eq_true (by first | (with_reducible assumption) | assumption)
                          have hx21 := bt_at a0 x7_1
                          replace p21 := eq_true p21
                          replace q21 := eq_true q21
                          go_wp2
                          go_ret2
                          exact ⟨by first | rfl | (simp; done) | (simp [*]; done), by repeat (first | exact Drawn0.refl _ | apply Drawn0.step)⟩
                        · rw [if_neg c22] at H
                          have c22b0 : decide (a1 < (wrap64 ((wrap64 (x6_1 * 10)) + (((bt a0 x7_1) - 48) % 256)))) = false := decide_eq_false c22
                          clear c22
                          have H' := Aside0.mk H
                          clear H
                          have p21 : 0 ≤ (x7_1 : Int) := of_decide_eq_true (by first | (with_reducible assumption) | assumption)
                          have q21 : x7_1 < (a0.size : Int) := of_decide_eq_true (by first | (with_reducible assumption) | assumption)
                          have hx21 := bt_at a0 x7_1
                          replace p21 := eq_true p21
                          replace q21 := eq_true q21
                          go_wp2
                          go_roundg kj8
                          case measure => have := HK1.out; have := HJ3.out; have := HJ8.out; omega
                          case rel => exact ⟨(wrap64 ((wrap64 (x6_1 * 10)) + (((bt a0 x7_1) - 48) % 256))), (wrap64 (x7_1 + 1)), (by first | rfl | (simp; done) | (simp [*]; done) | (simp [*]; exact isEmpty_bne _) | (simp; exact isEmpty_bne _)), (by first | rfl | (simp; done) | (simp [*]; done) | (simp [*]; exact isEmpty_bne _) | (simp; exact isEmpty_bne _)), H', ⟨by have := HK1.out; have := HJ3.out; have := HJ8.out; omega⟩, by repeat (first | exact Drawn0.refl _ | apply Drawn0.step)⟩
                      · rw [if_neg c20] at H
                        exact absurd H (by simp)
                    · rw [if_neg c19] at H
                      exact absurd H (by simp)
      · rw [if_neg c3] at H
        have c3b0 : decide (x7_1 < (a0.size : Int)) = false := decide_eq_false c3
        clear c3
        simp only [Option.some.injEq, Prod.mk.injEq] at H
        obtain ⟨rfl, rfl⟩ := H
        go_wp2
        go_ret2
        exact ⟨by first | rfl | (simp; done) | (simp [*]; done), by repeat (first | exact Drawn0.refl _ | apply Drawn0.step)⟩

end Go.Proofs.YthacblokhhhlmaaDoor.XFf
