-- Laid by extprint.py (the session's own driver): functions told by the kit's printer and by hand.
import Derived.Test.YteidlffajcogcaaXGlSx0
namespace Go.Proofs.Yteidlffajcogcaa.XGlS
open Go.RowKit Gong Go.Proofs.YteidlffajcogcaaW.PrintWords Go.Proofs.YteidlffajcogcaaW.PrintLast Go.Proofs.YteidlffajcogcaaW.PrintMore
attribute [local go_sem] max2_int min2_int max_two min_two max_three min_three max_four min_four   -- for this text's walks alone
set_option linter.unusedVariables false
set_option linter.unusedSimpArgs false

/-! ### gongbook_Below: function 14 -/
def gongbook_Below.f (a0 : Int) (a1 : Int) : Option (Int) := if a1 = 0 then (none) else (some (Int.tmod (wrap64 ((Int.tmod a0 a1) + a1)) a1))
set_option maxHeartbeats 8000000 in
set_option maxRecDepth 100000 in
theorem gongbook_Below.calls (a0 : Int) (a1 : Int) (r : Int) (w : World) (h : gongbook_Below.f a0 a1 = some r) :
    Calls Try.prog 14 #[.int .i64 a0, .int .i64 a1] w fun e w' => e = .returned (.int .i64 r) ∧ Drawn0 w w' := by
  have H : (if a1 = 0 then (none) else (some (Int.tmod (wrap64 ((Int.tmod a0 a1) + a1)) a1))) = some r := h
  clear h
  by_cases c3 : a1 = 0
  · rw [if_pos c3] at H
    exact absurd H (by simp)
  rw [if_neg c3] at H
  have c3b0 : (a1 == 0) = false := beq_eq_false_iff_ne.mpr c3
  have c3b1 : (a1 != 0) = true := bne_iff_ne.mpr c3
  obtain rfl := Option.some.inj H
  go_enter Try.func14, Try.ntmps14
  go_wp2
  go_ret
  exact ⟨by first | rfl | (simp; done) | (simp [*]; done), by repeat (first | exact Drawn0.refl _ | apply Drawn0.step)⟩

/-! ### glob_reader_byte: function 74 -/
set_option maxHeartbeats 1600000 in
set_option maxRecDepth 100000 in
theorem glob_reader_byte.calls (g : Nat) (l : List UInt8) (bad : Bool) (w : World) (h : RdAt 81 w g l bad) :
    Calls Try.prog 74 #[.pointer (some ⟨g, 0, none⟩)] w fun e w' => e = .returned (.int .u8 (rByte l bad).1) ∧ RdAt 81 w' g (rByte l bad).2.1 (rByte l bad).2.2 ∧ Mv (fun k => k = g) w w' := by
  have HR := Aside0.mk h
  have h0 := h.c0
  have h1 := h.c1
  have f0 := h.free 0
  have f1 := h.free 1
  clear h
  go_enter Try.func74, Try.ntmps74
  cases l with
  | nil =>
    have e0 := Bz_nil
    go_wp2
    go_ret
    exact ⟨rfl, HR.out.put1 true, Mv.setCell (Mv.refl (fun k => k = g) w) rfl _ _⟩
  | cons b r =>
    have e0 := Bz_cons b r
    have e1 := Bz_first b r
    have e2 := Bz_rest b r
    have e3 := eq_true (show 0 < (Bz (b :: r)).size by rw [Bz_size, List.length_cons]; omega)
    have e4 := eq_true (show 1 ≤ (Bz (b :: r)).size by rw [Bz_size, List.length_cons]; omega)
    have e5 := eq_true (show 1 ≤ ((Bz (b :: r)).size : Int) by rw [Bz_size, List.length_cons]; omega)
    go_wp2
    go_ret
    exact ⟨rfl, by simpa [rByte] using HR.out.put0 r, Mv.setCell (Mv.refl (fun k => k = g) w) rfl _ _⟩

/-! ### glob_set_turn: function 75 -/
set_option maxHeartbeats 1600000 in
set_option maxRecDepth 100000 in
theorem glob_set_turn.calls (g : Nat) (f : Nat → Bool) (w : World) (h : SetAt 125 w g f) :
    Calls Try.prog 75 #[.pointer (some ⟨g, 0, none⟩)] w fun e w' => e = .returned (.tuple #[]) ∧ SetAt 125 w' g (fun i => !f i) ∧ Mv (fun k => k = g) w w' := by
  have HS := Aside0.mk h
  clear h
  go_enter Try.func75, Try.ntmps75
  go_wp2
  go_loopw [5] (fun v5 W => ∃ c : Int, v5 = .int .i64 c ∧ 0 ≤ c ∧ c ≤ 256 ∧ Aside0 (SetAt 125 W g (fun i => if (i : Int) < c then !f i else f i)) ∧ Aside0 (Mv (fun k => k = g) w W)) (fun v5 _ => (300 - intOf v5).toNat)
  case atStart =>
    refine ⟨0, rfl, by omega, by omega, ⟨HS.out.congr (fun i _ => ?_)⟩, ⟨Mv.refl _ _⟩⟩
    rw [if_neg (by omega)]
  case round =>
    clear HS
    obtain ⟨c, rfl, h0, h1, HS, HM⟩ := hrel
    by_cases hc : c < 256
    · have e1 : decide (c < 256) = true := decide_eq_true hc
      have e2 := eq_true h0
      have e3 := eq_true hc
      have e4 : wrap64 (c + 1) = c + 1 := by unfold wrap64; omega
      have hcl := HS.out.cell c.toNat (by omega)
      have hfr := HS.out.free c.toNat
      rw [if_neg (by omega)] at hcl
      have hu := Try.underlying125
      have HI := Aside0.mk (And.intro h0 hc)
      clear h0 h1 hc
      go_wp2
      go_region
      go_wp2
      refine ⟨⟨c + 1, by rw [e4], by have := HI.out.1; omega, by have := HI.out.2; omega, ⟨(HS.out.put c.toNat _).congr (fun i _ => ?_)⟩, ⟨(HM.out.setCell rfl _ _).drew⟩⟩, ?_⟩
      · obtain ⟨i0, i1⟩ := HI.out
        by_cases hi : i = c.toNat
        · subst hi
          rw [if_pos rfl, if_pos (by omega)]
        · rw [if_neg hi]
          by_cases h3 : (i : Int) < c
          · rw [if_pos h3, if_pos (by omega)]
          · rw [if_neg h3, if_neg (by omega)]
      · have := HI.out
        rw [e4]
        simp only [intOf]
        omega
    · have e1 : decide (c < 256) = false := decide_eq_false hc
      go_wp2
      go_end0
      refine ⟨rfl, HS.out.congr (fun i _ => ?_), HM.out⟩
      rw [if_pos (by omega)]

/-! ### glob_set_add: function 77 -/
set_option maxHeartbeats 1600000 in
set_option maxRecDepth 100000 in
theorem glob_set_add.calls (g : Nat) (f : Nat → Bool) (a b : Int) (w : World) (h : SetAt 125 w g f) (ha : 0 ≤ a) (hb0 : 0 ≤ b) (hb : b ≤ 255) (ha2 : a ≤ 255) :
    Calls Try.prog 77 #[.pointer (some ⟨g, 0, none⟩), .int .u8 a, .int .u8 b] w fun e w' => e = .returned (.tuple #[]) ∧ SetAt 125 w' g (fun i => f i || (decide (a ≤ (i : Int)) && decide ((i : Int) ≤ b))) ∧ Mv (fun k => k = g) w w' := by
  have HS := Aside0.mk h
  have HA := Aside0.mk (And.intro ha (And.intro hb0 (And.intro hb ha2)))
  have eb : wrap64 b = b := by unfold wrap64; omega
  have ea : wrap64 a = a := by unfold wrap64; omega
  clear h ha hb0 hb ha2
  go_enter Try.func77, Try.ntmps77
  go_wp2
  go_loopw [6] (fun v6 W => ∃ c : Int, v6 = .int .i64 c ∧ 0 ≤ c ∧ a ≤ c ∧ (c = a ∨ c ≤ b + 1) ∧ Aside0 (SetAt 125 W g (fun i => f i || (decide (a ≤ (i : Int)) && decide ((i : Int) < c)))) ∧ Aside0 (Mv (fun k => k = g) w W)) (fun v6 _ => (300 - intOf v6).toNat)
  case atStart =>
    refine ⟨a, by rw [ea], HA.out.1, Int.le_refl _, .inl rfl, ⟨HS.out.congr (fun i _ => ?_)⟩, ⟨Mv.refl _ _⟩⟩
    by_cases h1 : a ≤ (i : Int)
    · rw [decide_eq_false (show ¬ (i : Int) < a by omega)]; simp
    · rw [decide_eq_false h1]; simp
  case round =>
    clear HS
    obtain ⟨c, rfl, h0, h1, h2, HS, HM⟩ := hrel
    by_cases hc : c ≤ b
    · have e1 : decide (c ≤ b) = true := decide_eq_true hc
      have c255 : c ≤ 255 := by have := HA.out; omega
      have e2 := eq_true h0
      have e3 := eq_true (show c < 256 by omega)
      have e4 : wrap64 (c + 1) = c + 1 := by unfold wrap64; omega
      have hcl := HS.out.cell c.toNat (by omega)
      have hfr := HS.out.free c.toNat
      have hu := Try.underlying125
      have HI := Aside0.mk (And.intro h0 (And.intro h1 (And.intro hc c255)))
      clear h0 h1 h2 hc c255
      go_wp2
      refine ⟨⟨c + 1, by rw [e4], by have := HI.out.1; omega, by have := HI.out.2.1; omega, .inr (by have := HI.out.2.2.1; omega), ⟨(HS.out.put c.toNat true).congr (fun i _ => ?_)⟩, ⟨HM.out.setCell rfl _ _⟩⟩, ?_⟩
      · obtain ⟨i0, i1, i2, i3⟩ := HI.out
        by_cases hi : i = c.toNat
        · subst hi
          rw [if_pos rfl, Int.toNat_of_nonneg i0, decide_eq_true i1, decide_eq_true (show c < c + 1 by omega)]; simp
        · rw [if_neg hi, show decide ((i : Int) < c + 1) = decide ((i : Int) < c) from decide_eq_decide.2 (by omega)]
      · have := HI.out
        rw [e4]
        simp only [intOf]
        omega
    · have e1 : decide (c ≤ b) = false := decide_eq_false hc
      go_wp2
      go_end0
      refine ⟨rfl, HS.out.congr (fun i _ => ?_), HM.out⟩
      have := HA.out
      rcases h2 with rfl | h2
      · by_cases h3 : c ≤ (i : Int)
        · rw [decide_eq_false (show ¬ (i : Int) < c by omega), decide_eq_false (show ¬ (i : Int) ≤ b by omega)]
        · rw [decide_eq_false h3]; rfl
      · rw [show decide ((i : Int) < c) = decide ((i : Int) ≤ b) from decide_eq_decide.2 (by omega)]

/-! ### glob_reader_at: function 93 -/
set_option maxHeartbeats 1600000 in
set_option maxRecDepth 100000 in
theorem glob_reader_at.calls (g : Nat) (l : List UInt8) (bad : Bool) (c : Int) (w : World) (h : RdAt 81 w g l bad) :
    Calls Try.prog 93 #[.pointer (some ⟨g, 0, none⟩), .int .u8 c] w fun e w' => e = .returned (.bool (rAt l bad c)) ∧ w' = w := by
  have h0 := h.c0
  have h1 := h.c1
  have f0 := h.free 0
  have f1 := h.free 1
  clear h
  go_enter Try.func93, Try.ntmps93
  cases bad with
  | true =>
    go_wp2
    go_ret
    refine ⟨?_, rfl⟩
    cases l <;> rfl
  | false =>
    cases l with
    | nil =>
      have e0 := Bz_nil'
      have e9 := Bz_nilT
      go_wp2
      go_ret
      exact ⟨rfl, rfl⟩
    | cons b r =>
      have e0 := Bz_cons' b r
      have e9 := Bz_consF b r
      have e1 := Bz_first b r
      have e3 := eq_true (show 0 < (Bz (b :: r)).size by rw [Bz_size, List.length_cons]; omega)
      go_wp2
      go_ret
      exact ⟨by simp [rAt, e9], rfl⟩

/-! ### glob_reader_member: function 94 -/
set_option maxHeartbeats 1600000 in
set_option maxRecDepth 100000 in
theorem glob_reader_member.calls (g : Nat) (l : List UInt8) (bad : Bool) (w : World) (h : RdAt 81 w g l bad) :
    Calls Try.prog 94 #[.pointer (some ⟨g, 0, none⟩)] w fun e w' => e = .returned (.int .u8 (rMem l bad).1) ∧ RdAt 81 w' g (rMem l bad).2.1 (rMem l bad).2.2 ∧ Mv (fun k => k = g) w w' := by
  have HR := Aside0.mk h
  clear h
  obtain ⟨q, hq⟩ : ∃ q, q = rMem l bad := ⟨_, rfl⟩
  rw [← hq]
  unfold rMem at hq
  have HQ := Aside0.mk hq
  clear hq
  go_enter Try.func94, Try.ntmps94
  go_wp2_with fail
  refine (glob_reader_at.calls g l bad 93 w HR.out).mono ?_
  rintro e w1 ⟨rfl, rfl⟩
  by_cases c1 : rAt l bad 93 = true
  · have hq := HQ.out
    rw [if_pos (Or.inl c1)] at hq
    subst hq
    rw [c1]
    have h1 := HR.out.c1
    have f1 := HR.out.free 1
    go_wp2
    go_ret
    exact ⟨rfl, HR.out.put1 true, Mv.setCell (Mv.refl (fun k => k = g) w1) rfl _ _⟩
  · replace c1 := Bool.eq_false_iff.mpr c1
    rw [c1]
    go_wp2_with fail
    refine (glob_reader_at.calls g l bad 45 w1 HR.out).mono ?_
    rintro e w2 ⟨rfl, rfl⟩
    by_cases c2 : rAt l bad 45 = true
    · have hq := HQ.out
      rw [if_pos (Or.inr c2)] at hq
      subst hq
      rw [c2]
      have h1 := HR.out.c1
      have f1 := HR.out.free 1
      go_wp2
      go_ret
      exact ⟨rfl, HR.out.put1 true, Mv.setCell (Mv.refl (fun k => k = g) w2) rfl _ _⟩
    · have hq := HQ.out
      rw [if_neg (by rw [c1]; simp [c2])] at hq
      clear HQ
      have HQ := Aside0.mk hq
      clear hq
      replace c2 := Bool.eq_false_iff.mpr c2
      rw [c2]
      go_wp2_with fail
      refine (glob_reader_byte.calls g l bad w2 HR.out).mono ?_
      rintro e w3 ⟨rfl, hr3, hm3⟩
      have HR3 := Aside0.mk hr3
      have HM3 := Aside0.mk hm3
      clear hr3 hm3
      generalize rByte l bad = q1 at HR3 HQ ⊢
      obtain ⟨b, l1, bad1⟩ := q1
      by_cases c3 : b = 92
      · have hq := HQ.out
        rw [if_pos c3] at hq
        subst hq
        have e3 : (b == 92) = true := beq_iff_eq.mpr c3
        clear c3
        go_wp2_with fail
        refine (glob_reader_byte.calls g l1 bad1 w3 HR3.out).mono ?_
        rintro e w4 ⟨rfl, hr4, hm4⟩
        have HR4 := Aside0.mk hr4
        have HM4 := Aside0.mk (hm4)
        clear hr4 hm4
        go_wp2
        go_ret
        exact ⟨rfl, HR4.out, HM3.out.trans HM4.out (fun _ _ h => h)⟩
      · have hq := HQ.out
        rw [if_neg c3] at hq
        subst hq
        have e3 : (b == 92) = false := beq_eq_false_iff_ne.mpr c3
        clear c3
        go_wp2
        go_ret
        exact ⟨rfl, HR3.out, HM3.out⟩

/-! ### glob_reader_set: function 76 -/
theorem glob_set.zero : Try.zeroCells125 = setC (fun _ => false) := by kernel_rfl
theorem glob_set.new (w : World) : SetAt 125 (w.alloc (.cells Try.zeroCells125 125)) w.heap.size (fun _ => false) := by
  rw [glob_set.zero]
  exact heap_alloc_new w _
set_option maxHeartbeats 4000000 in
set_option maxRecDepth 100000 in
theorem glob_reader_set.calls (g : Nat) (l : List UInt8) (w : World) (h : RdAt 81 w g l false) (hl : l.length ≤ 1000) :
    Calls Try.prog 76 #[.pointer (some ⟨g, 0, none⟩)] w fun e w' => ∃ (b : Nat) (F : UInt8 → Bool) (l' : List UInt8) (bad' : Bool), e = .returned (.pointer (some ⟨b, 0, none⟩)) ∧ w.heap.size ≤ b ∧
      SetAt 125 w' b (fun i => F (UInt8.ofNat i)) ∧ RdAt 81 w' g l' bad' ∧ (bad' = true → GlobS.setL l = none) ∧ (bad' = false → GlobS.setL l = some (F, l')) ∧ Mv (fun k => k = g) w w' := by
  have HR := Aside0.mk h
  have HG := Aside0.mk h.lt
  have HLN := Aside0.mk hl
  clear h hl
  go_enter Try.func76, Try.ntmps76
  go_wp2_with fail
  have HS1 := Aside0.mk (glob_set.new w)
  have HM1 := Aside0.mk ((Mv.refl (fun k => k = g) w).alloc (.cells Try.zeroCells125 125))
  have HR1 := Aside0.mk (HR.out.mv ((Mv.refl (fun _ => False) w).alloc (.cells Try.zeroCells125 125)) id)
  generalize w.alloc (.cells Try.zeroCells125 125) = w1 at HS1 HM1 HR1 ⊢
  obtain ⟨b, hb⟩ : ∃ b, b = w.heap.size := ⟨_, rfl⟩
  rw [← hb] at HS1 ⊢
  have HBE := Aside0.mk (show w.heap.size ≤ b from Nat.le_of_eq hb.symm)
  have HNE := Aside0.mk (show b ≠ g from by have := HG.out; omega)
  clear hb HR
  refine (glob_reader_at.calls g l false 33 w1 HR1.out).mono ?_
  rintro e w2 ⟨rfl, rfl⟩
  obtain ⟨l0, hl0⟩ : ∃ l0, l0 = if rAt l false 33 = true then l.tail else l := ⟨_, rfl⟩
  have HSL := Aside0.mk (setL_eq l)
  rw [← hl0] at HSL
  have HL0 := Aside0.mk hl0
  have HLN0 := Aside0.mk (show l0.length ≤ 1000 by have := HLN.out; rw [hl0]; split <;> simp <;> omega)
  obtain ⟨X, hX⟩ : ∃ X, X = GlobS.ranges (l.length + 1) (fun _ => false) false l0 := ⟨_, rfl⟩
  rw [← hX] at HSL
  have HX := Aside0.mk (show ∃ m, l0.length < m ∧ X = GlobS.ranges m (fun _ => false) (decide ((0 : Int) < 0)) l0 from ⟨l.length + 1, by rw [hl0]; split <;> simp <;> omega, hX⟩)
  clear hl0 hX
  obtain ⟨nt, hnt⟩ : ∃ nt, nt = rAt l false 33 := ⟨_, rfl⟩
  rw [← hnt] at HSL HL0 ⊢
  have HNT := Aside0.mk hnt
  clear hnt
  cases nt
  case' true =>
    obtain ⟨r, hr⟩ := (rAt_true (c := 33) (by have := HNT.out; exact this.symm)).2
    subst hr
    have hl := HL0.out
    rw [if_pos rfl, List.tail_cons] at hl
    subst hl
    go_wp2_with fail
    refine (glob_reader_byte.calls g _ false w2 HR1.out).mono ?_
    rintro e w3 ⟨rfl, hr3, hm3⟩
    have HR3 := Aside0.mk hr3
    have HS3 := Aside0.mk (HS1.out.mv hm3 HNE.out)
    have HM3 := Aside0.mk (HM1.out.trans hm3 (fun _ _ h => h))
    simp only [rByte] at HR3 ⊢
    clear hr3 hm3 HR1 HS1 HM1 HL0
    go_wp2_with fail
  case' false =>
    have hl := HL0.out
    rw [if_neg (by simp)] at hl
    subst hl
    have HR3 := HR1
    have HS3 := HS1
    have HM3 := HM1
    clear HR1 HS1 HM1 HL0
    go_wp2_with fail
  all_goals
    go_loopg [5] (l0.length + 2) (fun kq v5 W => ∃ (l1 : List UInt8) (bad1 : Bool) (F : UInt8 → Bool) (many : Int), v5 = .int .i64 many ∧ Aside0 (0 ≤ many ∧ many + (kq : Int) ≤ 1002 ∧ (if bad1 = true then 0 else l1.length + 1) < kq) ∧ Aside0 (RdAt 81 W g l1 bad1) ∧ Aside0 (SetAt 125 W b (fun i => F (UInt8.ofNat i))) ∧ Aside0 (Mv (fun k => k = g) w W) ∧
      Aside0 (if bad1 = true then X = none else ∃ m, l1.length < m ∧ X = GlobS.ranges m F (decide (0 < many)) l1))
    case atStart =>
      refine ⟨l0, false, fun _ => false, 0, rfl, ⟨by omega, by have := HLN0.out; omega, by simp⟩, HR3, HS3, HM3, ⟨?_⟩⟩
      rw [if_neg (by simp)]
      exact HX.out
    case round =>
      clear HR3 HS3 HM3
      obtain ⟨l1, bad1, F, many, rfl, HN, HR, HS, HM, HE⟩ := hrel
      have h1 := HR.out.c1
      have f1 := HR.out.free 1
      cases bad1 with
      | true =>
        go_wp2_with fail
        have HR4 := Aside0.mk (HR.out.put1 true)
        have HS4 := Aside0.mk (HS.out.mv (Mv.setCell (Mv.refl (fun k => k = g) wr) rfl 1 (.bool true)) HNE.out)
        have HM4 := Aside0.mk (HM.out.setCell rfl 1 (.bool true))
        have hX := HE.out
        rw [if_pos (by trivial)] at hX
        subst hX
        clear HR HS HM HE h1 f1
        generalize wr.setCell ⟨g, 1, none⟩ (.bool true) = w4 at HR4 HS4 HM4 ⊢
        refine (glob_reader_byte.calls g _ true w4 HR4.out).mono ?_
        rintro e w5 ⟨rfl, hr5, hm5⟩
        have HR5 := Aside0.mk hr5
        have HS5 := Aside0.mk (HS4.out.mv hm5 HNE.out)
        have HM5 := Aside0.mk (HM4.out.trans hm5 (fun _ _ h => h))
        have hbad : (rByte l1 true).2.2 = true := by cases l1 <;> rfl
        clear hr5 hm5 HR4 HS4 HM4
        go_wp2_with fail
        first
        | (refine (glob_set_turn.calls b _ _ HS5.out).mono ?_
           rintro e w6 ⟨rfl, hs6, hm6⟩
           have HR6 := Aside0.mk (HR5.out.mv hm6 (fun e => HNE.out e.symm))
           have HM6 := Aside0.mk (HM5.out.trans hm6 (fun i hi e => by have := HBE.out; omega))
           go_wp2_with fail
           go_ret
           exact ⟨b, fun x => !F x, _, _, rfl, HBE.out, hs6, HR6.out, fun _ => HSL.out, fun h => absurd h (by rw [hbad]; simp), HM6.out⟩)
        | (go_ret
           exact ⟨b, F, _, _, rfl, HBE.out, HS5.out, HR5.out, fun _ => HSL.out, fun h => absurd h (by rw [hbad]; simp), HM5.out⟩)
      | false =>
        go_wp2_with fail
        refine (glob_reader_at.calls g l1 false 93 wr HR.out).mono ?_
        rintro e w4 ⟨rfl, rfl⟩
        by_cases c1 : rAt l1 false 93 = true
        · rw [c1]
          obtain ⟨s, hs⟩ := (rAt_true (c := 93) c1).2
          subst hs
          obtain ⟨m, hm, hX⟩ := (by have := HE.out; rw [if_neg (by simp)] at this; exact this : ∃ m, (93 :: s).length < m ∧ X = GlobS.ranges m F (decide (0 < many)) (93 :: s))
          obtain ⟨m, rfl⟩ : ∃ k, m = k + 1 := ⟨m - 1, by omega⟩
          rw [GlobS.ranges, if_pos rfl] at hX
          subst hX
          clear hm
          by_cases c2 : many = 0
          · have e2 : (many == 0) = true := beq_iff_eq.mpr c2
            have hsl := HSL.out
            rw [c2] at hsl
            have HSN := Aside0.mk (show GlobS.setL _ = none from hsl)
            clear c2 hsl
            go_wp2_with fail
            have HR4 := Aside0.mk (HR.out.put1 true)
            have HS4 := Aside0.mk (HS.out.mv (Mv.setCell (Mv.refl (fun k => k = g) w4) rfl 1 (.bool true)) HNE.out)
            have HM4 := Aside0.mk (HM.out.setCell rfl 1 (.bool true))
            clear HR HS HM HE h1 f1
            generalize w4.setCell ⟨g, 1, none⟩ (.bool true) = w4 at HR4 HS4 HM4 ⊢
            refine (glob_reader_byte.calls g _ true w4 HR4.out).mono ?_
            rintro e w5 ⟨rfl, hr5, hm5⟩
            have HR5 := Aside0.mk hr5
            have HS5 := Aside0.mk (HS4.out.mv hm5 HNE.out)
            have HM5 := Aside0.mk (HM4.out.trans hm5 (fun _ _ h => h))
            clear hr5 hm5 HR4 HS4 HM4
            go_wp2_with fail
            first
            | (refine (glob_set_turn.calls b _ _ HS5.out).mono ?_
               rintro e w6 ⟨rfl, hs6, hm6⟩
               have HR6 := Aside0.mk (HR5.out.mv hm6 (fun e => HNE.out e.symm))
               have HM6 := Aside0.mk (HM5.out.trans hm6 (fun i hi e => by have := HBE.out; omega))
               go_wp2_with fail
               go_ret
               exact ⟨b, fun x => !F x, _, _, rfl, HBE.out, hs6, HR6.out, fun _ => HSN.out, fun h => absurd h (by simp [rByte]), HM6.out⟩)
            | (go_ret
               exact ⟨b, F, _, _, rfl, HBE.out, HS5.out, HR5.out, fun _ => HSN.out, fun h => absurd h (by simp [rByte]), HM5.out⟩)
          · have e2 : (many == 0) = false := beq_eq_false_iff_ne.mpr c2
            have e3 : decide (0 < many) = true := decide_eq_true (by have := HN.out.1; omega)
            have HSO := HSL
            rw [e3] at HSO
            clear c2 e3 HSL
            go_wp2_with fail
            have HR4 := Aside0.mk (HR.out.put1 false)
            have HS4 := Aside0.mk (HS.out.mv (Mv.setCell (Mv.refl (fun k => k = g) w4) rfl 1 (.bool false)) HNE.out)
            have HM4 := Aside0.mk (HM.out.setCell rfl 1 (.bool false))
            clear HR HS HM HE h1 f1
            generalize w4.setCell ⟨g, 1, none⟩ (.bool false) = w4 at HR4 HS4 HM4 ⊢
            refine (glob_reader_byte.calls g _ false w4 HR4.out).mono ?_
            rintro e w5 ⟨rfl, hr5, hm5⟩
            have HR5 := Aside0.mk hr5
            have HS5 := Aside0.mk (HS4.out.mv hm5 HNE.out)
            have HM5 := Aside0.mk (HM4.out.trans hm5 (fun _ _ h => h))
            clear hr5 hm5 HR4 HS4 HM4
            go_wp2_with fail
            first
            | (refine (glob_set_turn.calls b _ _ HS5.out).mono ?_
               rintro e w6 ⟨rfl, hs6, hm6⟩
               have HR6 := Aside0.mk (HR5.out.mv hm6 (fun e => HNE.out e.symm))
               have HM6 := Aside0.mk (HM5.out.trans hm6 (fun i hi e => by have := HBE.out; omega))
               go_wp2_with fail
               go_ret
               exact ⟨b, fun x => F x != true, s, false, rfl, HBE.out, hs6.congr (fun i _ => by simp), HR6.out, fun h => absurd h (by simp), fun _ => HSO.out, HM6.out⟩)
            | (go_ret
               exact ⟨b, fun x => F x != false, s, false, rfl, HBE.out, HS5.out.congr (fun i _ => by simp), HR5.out, fun h => absurd h (by simp), fun _ => HSO.out, HM5.out⟩)
        · replace c1 := Bool.eq_false_iff.mpr c1
          rw [c1]
          obtain ⟨m, hm, hX⟩ := (by have := HE.out; rw [if_neg (by simp)] at this; exact this : ∃ m, l1.length < m ∧ X = GlobS.ranges m F (decide (0 < many)) l1)
          have HX1 := Aside0.mk (And.intro hm hX)
          have HRG := Aside0.mk (rRange_spec l1 c1)
          obtain ⟨rr, hrr⟩ : ∃ rr, rr = rRange l1 := ⟨_, rfl⟩
          rw [← hrr] at HRG
          have HRR := Aside0.mk hrr
          clear hm hX c1 HE hrr h1 f1
          go_wp2_with fail
          refine (glob_reader_member.calls g l1 false w4 HR.out).mono ?_
          rintro e w5 ⟨rfl, hr5, hm5⟩
          have HR5 := Aside0.mk hr5
          have HS5 := Aside0.mk (HS.out.mv hm5 HNE.out)
          have HM5 := Aside0.mk (HM.out.trans hm5 (fun _ _ h => h))
          clear hr5 hm5 HR HS HM
          unfold rRange at HRR
          obtain ⟨q1, hq1⟩ : ∃ q1, q1 = rMem l1 false := ⟨_, rfl⟩
          rw [← hq1] at HRR HR5 ⊢
          clear hq1
          obtain ⟨x, l2, bad2⟩ := q1
          simp only at HRR HR5 ⊢
          go_wp2_with fail
          refine (glob_reader_at.calls g l2 bad2 45 w5 HR5.out).mono ?_
          rintro e w6 ⟨rfl, rfl⟩
          by_cases c2 : rAt l2 bad2 45 = true
          case' pos =>
            have hrr := HRR.out
            rw [if_pos c2] at hrr
            have HRR2 := Aside0.mk hrr
            rw [c2]
            clear hrr HRR
            go_wp2_with fail
            refine (glob_reader_byte.calls g l2 bad2 w6 HR5.out).mono ?_
            rintro e w7 ⟨rfl, hr7, hm7⟩
            have HR7 := Aside0.mk hr7
            have HS7 := Aside0.mk (HS5.out.mv hm7 HNE.out)
            have HM7 := Aside0.mk (HM5.out.trans hm7 (fun _ _ h => h))
            clear hr7 hm7 HR5 HS5 HM5
            go_wp2_with fail
            obtain ⟨rfl, r2, rfl⟩ := rAt_true (c := 45) c2
            simp only [rByte] at HR7 HRR2 ⊢
            refine (glob_reader_member.calls g r2 false w7 HR7.out).mono ?_
            rintro e w8 ⟨rfl, hr8, hm8⟩
            have HR8 := Aside0.mk hr8
            have HS8 := Aside0.mk (HS7.out.mv hm8 HNE.out)
            have HM8 := Aside0.mk (HM7.out.trans hm8 (fun _ _ h => h))
            clear hr8 hm8 HR7 HS7 HM7 c2
            obtain ⟨q2, hq2⟩ : ∃ q2, q2 = rMem r2 false := ⟨_, rfl⟩
            simp only [← hq2] at HRR2 HR8 ⊢
            clear hq2
            obtain ⟨y, l3, bad3⟩ := q2
            simp only at HRR2 HR8 ⊢
            have HRR8 := HRR2
            clear HRR2
          case' neg =>
            have hrr := HRR.out
            rw [if_neg c2] at hrr
            have HRR2 := Aside0.mk hrr
            replace c2 := Bool.eq_false_iff.mpr c2
            rw [c2]
            clear hrr HRR c2
            have HR8 := HR5
            have HS8 := HS5
            have HM8 := HM5
            clear HR5 HS5 HM5
            have HRR8 : ∃ y bad3 l3, y = x ∧ bad3 = bad2 ∧ l3 = l2 ∧ Aside0 (rr = (x, y, l3, bad3 || decide (x > y))) := ⟨x, bad2, l2, rfl, rfl, rfl, HRR2⟩
            clear HRR2
            obtain ⟨y, bad3, l3, hy, hb3, hl3, HRR8⟩ := HRR8
            subst hy hb3 hl3
          all_goals
            have hrr := HRR8.out
            have hN := HN.out
            obtain ⟨kr, hkr⟩ : ∃ kr, gk = kr + 1 := ⟨gk - 1, by have := hN.2.2; omega⟩
            subst hkr
            have e9 : wrap64 (many + 1) = many + 1 := by unfold wrap64; omega
            have h1 := HR8.out.c1
            have f1 := HR8.out.free 1
            rcases HRG.out with ⟨hb, hX0⟩ | ⟨A, B, r, hr, hlr, hX0⟩
            · rw [hrr] at hb
              simp only at hb
              have HX9 := Aside0.mk (HX1.out.2.trans (hX0 _ _ _))
              have HR9 := Aside0.mk (HR8.out.put1 true)
              have HS9 := Aside0.mk (HS8.out.mv (Mv.setCell (Mv.refl (fun k => k = g) _) rfl 1 (.bool true)) HNE.out)
              have HM9 := Aside0.mk (HM8.out.setCell rfl 1 (.bool true))
              clear hrr hN HR8 HS8 HM8 hX0 HRR8 HRG HX1
              cases bad3 with
              | true =>
                clear hb
                go_wp2_with fail
                go_roundg kr
                case measure => omega
                case rel => exact ⟨_, true, F, _, rfl, ⟨by rw [e9]; have := HN.out; omega, by rw [e9]; have := HN.out; push_cast at this; omega, by rw [if_pos rfl]; have := HN.out.2.2; simp only [Bool.false_eq_true, if_false] at this; omega⟩, HR9, HS9, HM9, ⟨by rw [if_pos rfl]; exact HX9.out⟩⟩
              | false =>
                rw [Bool.false_or] at hb
                first
                | (exfalso; simp at hb; done)
                | (go_wp2_with fail
                   go_roundg kr
                   case measure => omega
                   case rel => exact ⟨_, true, F, _, rfl, ⟨by rw [e9]; have := HN.out; omega, by rw [e9]; have := HN.out; push_cast at this; omega, by rw [if_pos rfl]; have := HN.out.2.2; simp only [Bool.false_eq_true, if_false] at this; omega⟩, HR9, HS9, HM9, ⟨by rw [if_pos rfl]; exact HX9.out⟩⟩)
            · rw [hrr] at hr
              simp only [Prod.mk.injEq, Bool.or_eq_false_iff] at hr
              obtain ⟨hA, hB, hl, rfl, h3⟩ := hr
              have HAB := Aside0.mk (And.intro hA hB)
              have HX9 := Aside0.mk (show ∃ m, r.length < m ∧ X = GlobS.ranges m (fun x => F x || (decide (A ≤ x) && decide (x ≤ B))) true r from by
                obtain ⟨k, hk⟩ : ∃ k, m = k + 1 := ⟨m - 1, by have := HX1.out.1; omega⟩
                have hX1 := HX1.out
                rw [hk] at hX1
                exact ⟨k, by omega, hX1.2.trans (hX0 _ _ _)⟩)
              have HR9 := Aside0.mk (HR8.out.put1 false)
              have HS9 := Aside0.mk (HS8.out.mv (Mv.setCell (Mv.refl (fun k => k = g) _) rfl 1 (.bool false)) HNE.out)
              have HM9 := Aside0.mk (HM8.out.setCell rfl 1 (.bool false))
              rw [hl] at HR9
              have HLR := Aside0.mk hlr
              clear hrr hN HR8 HS8 HM8 hX0 HRR8 HRG HX1 hA hB hl hlr
              go_wp2_with fail
              have hA9 := A.toNat_lt
              have hB9 := B.toNat_lt
              refine (glob_set_add.calls b _ _ _ _ HS9.out (by have := HAB.out; omega) (by have := HAB.out; omega) (by have := HAB.out; omega) (by have := HAB.out; omega)).mono ?_
              rintro e w10 ⟨rfl, hs10, hm10⟩
              have HS10 := Aside0.mk (hs10.congr (g := fun i => (fun x => F x || (decide (A ≤ x) && decide (x ≤ B))) (UInt8.ofNat i)) (fun i hi => by
                have h := set_add_congr (f := F) (A := A) (B := B) i hi
                rw [← HAB.out.1, ← HAB.out.2] at h
                exact h))
              have HR10 := Aside0.mk (HR9.out.mv hm10 (fun e => HNE.out e.symm))
              have HM10 := Aside0.mk (HM9.out.trans hm10 (fun i hi e => by have := HBE.out; omega))
              clear hs10 hm10 HS9 HR9 HM9
              go_wp2_with fail
              go_roundg kr
              case measure => omega
              case rel =>
                refine ⟨r, false, (fun x => F x || (decide (A ≤ x) && decide (x ≤ B))), _, rfl, ⟨by rw [e9]; have := HN.out; omega, by rw [e9]; have := HN.out; push_cast at this; omega, by have := HN.out.2.2; have := HLR.out; simp only [Bool.false_eq_true, if_false] at *; omega⟩, HR10, HS10, HM10, ⟨?_⟩⟩
                rw [if_neg (by simp), e9, decide_eq_true (show 0 < many + 1 by have := HN.out.1; omega)]
                exact HX9.out

/-! ### glob_reader_piece: function 49 -/
set_option maxHeartbeats 4000000 in
set_option maxRecDepth 100000 in
theorem glob_reader_piece.calls (g : Nat) (l : List UInt8) (w : World) (h : RdAt 81 w g l false) (hl : l ≠ []) (hln : l.length ≤ 1000) :
    Calls Try.prog 49 #[.pointer (some ⟨g, 0, none⟩)] w fun e w' => ∃ (r : PcR) (p : GlobS.Pi) (l' : List UInt8) (bad' : Bool), e = .returned (.agg r.cells.toArray) ∧ PcAt 125 w' w.heap.size r p ∧
      RdAt 81 w' g l' bad' ∧ (bad' = true → GlobS.pieceL l = none) ∧ (bad' = false → GlobS.pieceL l = some (p, l')) ∧ Mv (fun k => k = g) w w' := by
  have HR := Aside0.mk h
  have HG := Aside0.mk h.lt
  have HLN := Aside0.mk hln
  have hu := Try.underlying87
  obtain ⟨b, s, rfl⟩ : ∃ b s, l = b :: s := by
    cases l with
    | nil => exact absurd rfl hl
    | cons b s => exact ⟨b, s, rfl⟩
  clear h hln hl
  go_enter Try.func49, Try.ntmps49
  go_wp2_with fail
  obtain ⟨w1, hw1⟩ : ∃ w1, w1 = w.alloc (.cells #[.pointer none, .bool false, .bool false, .int .u8 0] 87) := ⟨_, rfl⟩
  have HR1 := Aside0.mk (HR.out.mv (w' := w1) (by rw [hw1]; exact (Mv.refl (fun _ => False) w).alloc _) id)
  have HM1 := Aside0.mk (show Mv (fun k => k = g) w w1 by rw [hw1]; exact (Mv.refl _ w).alloc _)
  have HK1 := Aside0.mk (show w1.heap[w.heap.size]? = some (.cells #[.pointer none, .bool false, .bool false, .int .u8 0] 87 (0, 0)) by rw [hw1]; exact heap_alloc_new w _)
  rw [← hw1]
  clear hw1 HR
  obtain ⟨q, hq⟩ : ∃ q, q = w.heap.size := ⟨_, rfl⟩
  rw [← hq] at HK1 ⊢
  have HQ := Aside0.mk (Nat.le_of_eq hq.symm)
  have HQG := Aside0.mk (show q ≠ g by have := HG.out; omega)
  have HGQ := Aside0.mk (show g ≠ q by have := HG.out; omega)
  have HQW := Aside0.mk (Nat.le_of_eq hq.symm)
  clear hq
  refine (glob_reader_byte.calls g _ false w1 HR1.out).mono ?_
  rintro e w2 ⟨rfl, hr2, hm2⟩
  have HR2 := Aside0.mk hr2
  have HM2 := Aside0.mk (HM1.out.trans hm2 (fun _ _ h => h))
  have HK2 := Aside0.mk (hm2.heap HK1.out HQG.out)
  simp only [rByte] at HR2 ⊢
  clear hr2 hm2 HR1 HM1 HK1
  by_cases c1 : b = 42
  · subst c1
    have hc0 := blk_cell HK2.out 0
    have hc1 := blk_cell HK2.out 1
    have hc2 := blk_cell HK2.out 2
    have hc3 := blk_cell HK2.out 3
    have hf0 := blk_frozen HK2.out 0
    have hf1 := blk_frozen HK2.out 1
    have hf2 := blk_frozen HK2.out 2
    have hf3 := blk_frozen HK2.out 3
    go_wp2_with fail
    refine bodyPost_ret (results_cell_row rfl _ _ q 87 (PcR.mk none true false 0).cells.toArray (0, 0) _ rfl (blk_put (blk_put (blk_put (blk_put HK2.out 0 _ rfl) 1 _ rfl) 2 _ rfl) 3 _ rfl) Try.underlying87 rfl (by kernel_rfl)) rfl ?_
    exact ⟨_, _, s, false, rfl, PcAt.any, (((((HR2.out.mv (Mv.setCell (Mv.refl (fun k => k = q) _) rfl _ _) HGQ.out).mv (Mv.setCell (Mv.refl (fun k => k = q) _) rfl _ _) HGQ.out).mv (Mv.setCell (Mv.refl (fun k => k = q) _) rfl _ _) HGQ.out).mv (Mv.setCell (Mv.refl (fun k => k = q) _) rfl _ _) HGQ.out)), fun h => absurd h (by simp), fun _ => piece_star s, (((HM2.out.setNew HQW.out _ _).setNew HQW.out _ _).setNew HQW.out _ _).setNew HQW.out _ _⟩
  · have e1 : ((b.toNat : Int) == 42) = false := byte_ne c1
    by_cases c2 : b = 63
    · subst c2
      clear e1 c1
      go_wp2_with fail
      have HS3 := Aside0.mk (glob_set.new w2)
      have HR3 := Aside0.mk (HR2.out.mv ((Mv.refl (fun _ => False) w2).alloc (.cells Try.zeroCells125 125)) id)
      have HM3 := Aside0.mk (HM2.out.alloc (.cells Try.zeroCells125 125))
      have HK3 := Aside0.mk (Mv.heap ((Mv.refl (fun _ => False) w2).alloc (.cells Try.zeroCells125 125)) HK2.out id)
      have HBQ := Aside0.mk (show w2.heap.size ≠ q from by have := blk_lt HK2.out; omega)
      have HBG := Aside0.mk (show w.heap.size ≤ w2.heap.size from HM2.out.size)
      generalize w2.alloc (.cells Try.zeroCells125 125) = w3 at HS3 HR3 HM3 HK3 ⊢
      generalize w2.heap.size = b3 at HS3 HBQ HBG ⊢
      clear HR2 HM2 HK2
      refine (glob_set_turn.calls b3 _ w3 HS3.out).mono ?_
      rintro e w4 ⟨rfl, hs4, hm4⟩
      have HS4 := Aside0.mk hs4
      have HR4 := Aside0.mk (HR3.out.mv hm4 (fun e => by have := HG.out; have := HBG.out; omega))
      have HM4 := Aside0.mk (HM3.out.trans hm4 (fun i hi e => by have := HBG.out; omega))
      have HK4 := Aside0.mk (hm4.heap HK3.out (fun e => HBQ.out e.symm))
      clear hs4 hm4 HS3 HR3 HM3 HK3
      have hc0 := blk_cell HK4.out 0
      have hc1 := blk_cell HK4.out 1
      have hc2 := blk_cell HK4.out 2
      have hc3 := blk_cell HK4.out 3
      have hf0 := blk_frozen HK4.out 0
      have hf1 := blk_frozen HK4.out 1
      have hf2 := blk_frozen HK4.out 2
      have hf3 := blk_frozen HK4.out 3
      go_wp2_with fail
      refine bodyPost_ret (results_cell_row rfl _ _ q 87 (PcR.mk (some b3) false false 0).cells.toArray (0, 0) _ rfl (blk_put (blk_put (blk_put (blk_put HK4.out 0 _ rfl) 1 _ rfl) 2 _ rfl) 3 _ rfl) Try.underlying87 rfl (by kernel_rfl)) rfl ?_
      exact ⟨_, _, s, false, rfl, PcAt.set (F := fun _ => true) HBG.out ((HS4.out).mv (Mv.setCell (Mv.setCell (Mv.setCell (Mv.setCell (Mv.refl (fun k => k = q) _) rfl _ _) rfl _ _) rfl _ _) rfl _ _) HBQ.out), (((((HR4.out.mv (Mv.setCell (Mv.refl (fun k => k = q) _) rfl _ _) HGQ.out).mv (Mv.setCell (Mv.refl (fun k => k = q) _) rfl _ _) HGQ.out).mv (Mv.setCell (Mv.refl (fun k => k = q) _) rfl _ _) HGQ.out).mv (Mv.setCell (Mv.refl (fun k => k = q) _) rfl _ _) HGQ.out)), fun h => absurd h (by simp), fun _ => piece_any s, (((HM4.out.setNew HQW.out _ _).setNew HQW.out _ _).setNew HQW.out _ _).setNew HQW.out _ _⟩
    · have e2 : ((b.toNat : Int) == 63) = false := byte_ne c2
      by_cases c3 : b = 91
      · subst c3
        clear e1 e2 c1 c2
        go_wp2_with fail
        refine (glob_reader_set.calls g s w2 HR2.out (by have := HLN.out; simp only [List.length_cons] at this; omega)).mono ?_
        rintro e w3 ⟨b3, F, l3, bad3, rfl, hb3, hs3, hr3, hx, hy, hm3⟩
        have HS4 := Aside0.mk hs3
        have HR4 := Aside0.mk hr3
        have HM4 := Aside0.mk (HM2.out.trans hm3 (fun _ _ h => h))
        have HK4 := Aside0.mk (hm3.heap HK2.out HQG.out)
        have HBQ := Aside0.mk (show b3 ≠ q from by have := blk_lt HK2.out; omega)
        have HBG := Aside0.mk (show w.heap.size ≤ b3 from Nat.le_trans HM2.out.size hb3)
        have HX := Aside0.mk hx
        have HY := Aside0.mk hy
        clear hs3 hr3 hm3 hb3 hx hy HR2 HM2 HK2
        have hc0 := blk_cell HK4.out 0
        have hc1 := blk_cell HK4.out 1
        have hc2 := blk_cell HK4.out 2
        have hc3 := blk_cell HK4.out 3
        have hf0 := blk_frozen HK4.out 0
        have hf1 := blk_frozen HK4.out 1
        have hf2 := blk_frozen HK4.out 2
        have hf3 := blk_frozen HK4.out 3
        go_wp2_with fail
        refine bodyPost_ret (results_cell_row rfl _ _ q 87 (PcR.mk (some b3) false false 0).cells.toArray (0, 0) _ rfl (blk_put (blk_put (blk_put (blk_put HK4.out 0 _ rfl) 1 _ rfl) 2 _ rfl) 3 _ rfl) Try.underlying87 rfl (by kernel_rfl)) rfl ?_
        exact ⟨_, _, _, _, rfl, PcAt.set HBG.out ((HS4.out).mv (Mv.setCell (Mv.setCell (Mv.setCell (Mv.setCell (Mv.refl (fun k => k = q) _) rfl _ _) rfl _ _) rfl _ _) rfl _ _) HBQ.out), (((((HR4.out.mv (Mv.setCell (Mv.refl (fun k => k = q) _) rfl _ _) HGQ.out).mv (Mv.setCell (Mv.refl (fun k => k = q) _) rfl _ _) HGQ.out).mv (Mv.setCell (Mv.refl (fun k => k = q) _) rfl _ _) HGQ.out).mv (Mv.setCell (Mv.refl (fun k => k = q) _) rfl _ _) HGQ.out)), fun h => piece_none (HX.out h), fun h => piece_set (HY.out h), (((HM4.out.setNew HQW.out _ _).setNew HQW.out _ _).setNew HQW.out _ _).setNew HQW.out _ _⟩
      · have e3 : ((b.toNat : Int) == 91) = false := byte_ne c3
        by_cases c4 : b = 92
        · subst c4
          clear e1 e2 e3 c1 c2 c3
          go_wp2_with fail
          refine (glob_reader_byte.calls g s false w2 HR2.out).mono ?_
          rintro e w5 ⟨rfl, hr5, hm5⟩
          have HR5 := Aside0.mk hr5
          have HM5 := Aside0.mk (HM2.out.trans hm5 (fun _ _ h => h))
          have HK5 := Aside0.mk (hm5.heap HK2.out HQG.out)
          clear hr5 hm5 HR2 HM2 HK2
          cases s with
          | nil =>
            simp only [rByte] at HR5 ⊢
            go_wp2_with fail
            have HS3 := Aside0.mk (glob_set.new w5)
            have HR3 := Aside0.mk (HR5.out.mv ((Mv.refl (fun _ => False) w5).alloc (.cells Try.zeroCells125 125)) id)
            have HM3 := Aside0.mk (HM5.out.alloc (.cells Try.zeroCells125 125))
            have HK3 := Aside0.mk (Mv.heap ((Mv.refl (fun _ => False) w5).alloc (.cells Try.zeroCells125 125)) HK5.out id)
            have HBQ := Aside0.mk (show w5.heap.size ≠ q from by have := blk_lt HK5.out; omega)
            have HBG := Aside0.mk (show w.heap.size ≤ w5.heap.size from HM5.out.size)
            generalize w5.alloc (.cells Try.zeroCells125 125) = w3 at HS3 HR3 HM3 HK3 ⊢
            generalize w5.heap.size = b3 at HS3 HBQ HBG ⊢
            clear HR5 HM5 HK5
            have hB9 := ((0 : UInt8)).toNat_lt
            refine (glob_set_add.calls b3 _ (((0 : UInt8)).toNat : Int) (((0 : UInt8)).toNat : Int) w3 HS3.out (by omega) (by omega) (by omega) (by omega)).mono ?_
            rintro e w4 ⟨rfl, hs4, hm4⟩
            have HS4 := Aside0.mk hs4
            have HR4 := Aside0.mk (HR3.out.mv hm4 (fun e => by have := HG.out; have := HBG.out; omega))
            have HM4 := Aside0.mk (HM3.out.trans hm4 (fun i hi e => by have := HBG.out; omega))
            have HK4 := Aside0.mk (hm4.heap HK3.out (fun e => HBQ.out e.symm))
            clear hs4 hm4 HS3 HR3 HM3 HK3
            have hc0 := blk_cell HK4.out 0
            have hc1 := blk_cell HK4.out 1
            have hc2 := blk_cell HK4.out 2
            have hc3 := blk_cell HK4.out 3
            have hf0 := blk_frozen HK4.out 0
            have hf1 := blk_frozen HK4.out 1
            have hf2 := blk_frozen HK4.out 2
            have hf3 := blk_frozen HK4.out 3
            go_wp2_with fail
            refine bodyPost_ret (results_cell_row rfl _ _ q 87 (PcR.mk (some b3) false true (((0 : UInt8)).toNat : Int)).cells.toArray (0, 0) _ rfl (blk_put (blk_put (blk_put (blk_put HK4.out 0 _ rfl) 1 _ rfl) 2 _ rfl) 3 _ rfl) Try.underlying87 rfl (by kernel_rfl)) rfl ?_
            exact ⟨_, _, [], true, rfl, PcAt.lit HBG.out (SetAt.mv (HS4.out) (Mv.setCell (Mv.setCell (Mv.setCell (Mv.setCell (Mv.refl (fun k => k = q) _) rfl _ _) rfl _ _) rfl _ _) rfl _ _) HBQ.out), (((((HR4.out.mv (Mv.setCell (Mv.refl (fun k => k = q) _) rfl _ _) HGQ.out).mv (Mv.setCell (Mv.refl (fun k => k = q) _) rfl _ _) HGQ.out).mv (Mv.setCell (Mv.refl (fun k => k = q) _) rfl _ _) HGQ.out).mv (Mv.setCell (Mv.refl (fun k => k = q) _) rfl _ _) HGQ.out)), fun _ => piece_end, fun h => absurd h (by simp), (((HM4.out.setNew HQW.out _ _).setNew HQW.out _ _).setNew HQW.out _ _).setNew HQW.out _ _⟩
          | cons c r =>
            simp only [rByte] at HR5 ⊢
            go_wp2_with fail
            have HS3 := Aside0.mk (glob_set.new w5)
            have HR3 := Aside0.mk (HR5.out.mv ((Mv.refl (fun _ => False) w5).alloc (.cells Try.zeroCells125 125)) id)
            have HM3 := Aside0.mk (HM5.out.alloc (.cells Try.zeroCells125 125))
            have HK3 := Aside0.mk (Mv.heap ((Mv.refl (fun _ => False) w5).alloc (.cells Try.zeroCells125 125)) HK5.out id)
            have HBQ := Aside0.mk (show w5.heap.size ≠ q from by have := blk_lt HK5.out; omega)
            have HBG := Aside0.mk (show w.heap.size ≤ w5.heap.size from HM5.out.size)
            generalize w5.alloc (.cells Try.zeroCells125 125) = w3 at HS3 HR3 HM3 HK3 ⊢
            generalize w5.heap.size = b3 at HS3 HBQ HBG ⊢
            clear HR5 HM5 HK5
            have hB9 := (c).toNat_lt
            refine (glob_set_add.calls b3 _ ((c).toNat : Int) ((c).toNat : Int) w3 HS3.out (by omega) (by omega) (by omega) (by omega)).mono ?_
            rintro e w4 ⟨rfl, hs4, hm4⟩
            have HS4 := Aside0.mk hs4
            have HR4 := Aside0.mk (HR3.out.mv hm4 (fun e => by have := HG.out; have := HBG.out; omega))
            have HM4 := Aside0.mk (HM3.out.trans hm4 (fun i hi e => by have := HBG.out; omega))
            have HK4 := Aside0.mk (hm4.heap HK3.out (fun e => HBQ.out e.symm))
            clear hs4 hm4 HS3 HR3 HM3 HK3
            have hc0 := blk_cell HK4.out 0
            have hc1 := blk_cell HK4.out 1
            have hc2 := blk_cell HK4.out 2
            have hc3 := blk_cell HK4.out 3
            have hf0 := blk_frozen HK4.out 0
            have hf1 := blk_frozen HK4.out 1
            have hf2 := blk_frozen HK4.out 2
            have hf3 := blk_frozen HK4.out 3
            go_wp2_with fail
            refine bodyPost_ret (results_cell_row rfl _ _ q 87 (PcR.mk (some b3) false true ((c).toNat : Int)).cells.toArray (0, 0) _ rfl (blk_put (blk_put (blk_put (blk_put HK4.out 0 _ rfl) 1 _ rfl) 2 _ rfl) 3 _ rfl) Try.underlying87 rfl (by kernel_rfl)) rfl ?_
            exact ⟨_, _, r, false, rfl, PcAt.lit HBG.out (SetAt.mv (HS4.out) (Mv.setCell (Mv.setCell (Mv.setCell (Mv.setCell (Mv.refl (fun k => k = q) _) rfl _ _) rfl _ _) rfl _ _) rfl _ _) HBQ.out), (((((HR4.out.mv (Mv.setCell (Mv.refl (fun k => k = q) _) rfl _ _) HGQ.out).mv (Mv.setCell (Mv.refl (fun k => k = q) _) rfl _ _) HGQ.out).mv (Mv.setCell (Mv.refl (fun k => k = q) _) rfl _ _) HGQ.out).mv (Mv.setCell (Mv.refl (fun k => k = q) _) rfl _ _) HGQ.out)), fun h => absurd h (by simp), fun _ => piece_esc c r, (((HM4.out.setNew HQW.out _ _).setNew HQW.out _ _).setNew HQW.out _ _).setNew HQW.out _ _⟩
        · have e4 : ((b.toNat : Int) == 92) = false := byte_ne c4
          have HPC := Aside0.mk (piece_lit s c1 c2 c3 c4)
          clear c1 c2 c3 c4
          go_wp2_with fail
          have HS3 := Aside0.mk (glob_set.new w2)
          have HR3 := Aside0.mk (HR2.out.mv ((Mv.refl (fun _ => False) w2).alloc (.cells Try.zeroCells125 125)) id)
          have HM3 := Aside0.mk (HM2.out.alloc (.cells Try.zeroCells125 125))
          have HK3 := Aside0.mk (Mv.heap ((Mv.refl (fun _ => False) w2).alloc (.cells Try.zeroCells125 125)) HK2.out id)
          have HBQ := Aside0.mk (show w2.heap.size ≠ q from by have := blk_lt HK2.out; omega)
          have HBG := Aside0.mk (show w.heap.size ≤ w2.heap.size from HM2.out.size)
          generalize w2.alloc (.cells Try.zeroCells125 125) = w3 at HS3 HR3 HM3 HK3 ⊢
          generalize w2.heap.size = b3 at HS3 HBQ HBG ⊢
          clear HR2 HM2 HK2
          have hB9 := (b).toNat_lt
          refine (glob_set_add.calls b3 _ ((b).toNat : Int) ((b).toNat : Int) w3 HS3.out (by omega) (by omega) (by omega) (by omega)).mono ?_
          rintro e w4 ⟨rfl, hs4, hm4⟩
          have HS4 := Aside0.mk hs4
          have HR4 := Aside0.mk (HR3.out.mv hm4 (fun e => by have := HG.out; have := HBG.out; omega))
          have HM4 := Aside0.mk (HM3.out.trans hm4 (fun i hi e => by have := HBG.out; omega))
          have HK4 := Aside0.mk (hm4.heap HK3.out (fun e => HBQ.out e.symm))
          clear hs4 hm4 HS3 HR3 HM3 HK3
          have hc0 := blk_cell HK4.out 0
          have hc1 := blk_cell HK4.out 1
          have hc2 := blk_cell HK4.out 2
          have hc3 := blk_cell HK4.out 3
          have hf0 := blk_frozen HK4.out 0
          have hf1 := blk_frozen HK4.out 1
          have hf2 := blk_frozen HK4.out 2
          have hf3 := blk_frozen HK4.out 3
          go_wp2_with fail
          refine bodyPost_ret (results_cell_row rfl _ _ q 87 (PcR.mk (some b3) false true ((b).toNat : Int)).cells.toArray (0, 0) _ rfl (blk_put (blk_put (blk_put (blk_put HK4.out 0 _ rfl) 1 _ rfl) 2 _ rfl) 3 _ rfl) Try.underlying87 rfl (by kernel_rfl)) rfl ?_
          exact ⟨_, _, s, false, rfl, PcAt.lit HBG.out (SetAt.mv (HS4.out) (Mv.setCell (Mv.setCell (Mv.setCell (Mv.setCell (Mv.refl (fun k => k = q) _) rfl _ _) rfl _ _) rfl _ _) rfl _ _) HBQ.out), (((((HR4.out.mv (Mv.setCell (Mv.refl (fun k => k = q) _) rfl _ _) HGQ.out).mv (Mv.setCell (Mv.refl (fun k => k = q) _) rfl _ _) HGQ.out).mv (Mv.setCell (Mv.refl (fun k => k = q) _) rfl _ _) HGQ.out).mv (Mv.setCell (Mv.refl (fun k => k = q) _) rfl _ _) HGQ.out)), fun h => absurd h (by simp), fun _ => HPC.out, (((HM4.out.setNew HQW.out _ _).setNew HQW.out _ _).setNew HQW.out _ _).setNew HQW.out _ _⟩

end Go.Proofs.Yteidlffajcogcaa.XGlS
