-- Laid by extprint.py (the session's own driver): functions told by the kit's printer and by hand.
import Derived.Test.YtjfimileopbadaaGreatDoorXVaRx0
import Derived.Test.YtjfimileopbadaaGreatDoorXVaRx9
import Derived.Test.YtjfimileopbadaaGreatDoorXVaRx10
import Derived.Test.YtjfimileopbadaaGreatDoorXVaRx13
namespace Go.Proofs.YtjfimileopbadaaGreatDoor.XVaR
open Go.RowKit Gong Go.Proofs.YtjfimileopbadaaGreatDoorW.PrintWords Go.Proofs.YtjfimileopbadaaGreatDoorW.PrintLast Go.Proofs.YtjfimileopbadaaGreatDoorW.PrintMore
attribute [local go_sem] max2_int min2_int max_two min_two max_three min_three max_four min_four   -- for this text's walks alone
set_option linter.unusedVariables false
set_option linter.unusedSimpArgs false

/-! ### gongref06_Decode: function 83 -/
def gongref06_Decode.first (n : Int) : Int := if 2 < n / 40 then 2 else n / 40
def gongref06_Decode.l0 : Nat → ByteArray → Int → Int → List Int → Option (ByteArray × Int)
  | 0, _, _, _, _ => none
  | k + 1, s, p, e, l =>
    if 0 < wrap64 ((s.size : Int) - p) ∧ e = 0 then (gongref01_Reader_Groups.f k s p e 4294967295).bind fun t => if (l.length + 1) * 8 ≤ 140737488355328 then gongref06_Decode.l0 k t.2.1 t.2.2.1 t.2.2.2 (l ++ [t.1]) else none
    else if e = 0 then (gongref06_Is.f k l).bind fun b => if b = true then (gongref06_Put.f k l).bind fun q => some (q, 0) else some (⟨#[]⟩, 60)
    else some (⟨#[]⟩, 60)
def gongref06_Decode.f (k : Nat) (a0 : ByteArray) : Option (ByteArray × Int) :=
  if a0.size = 0 then some (⟨#[]⟩, 60) else if 640 < a0.size then some (⟨#[]⟩, 60) else
  (gongref01_Reader_Groups.f k a0 0 0 4294967295).bind fun t => if 0 ≤ t.1 ∧ t.1 ≤ 4294967295 then
    gongref06_Decode.l0 k t.2.1 t.2.2.1 t.2.2.2 [gongref06_Decode.first t.1, t.1 - 40 * gongref06_Decode.first t.1] else none
theorem gongref06_Decode.mono_l0 : ∀ k s p e l, LeO (gongref06_Decode.l0 k s p e l) (gongref06_Decode.l0 (k + 1) s p e l)
  | 0, _, _, _, _ => fun r h => by simp [gongref06_Decode.l0] at h
  | k + 1, s, p, e, l => by
    unfold gongref06_Decode.l0
    exact LeO.ite (LeO.bind (gongref01_Reader_Groups.mono _ _ _ _ _) (fun _ => LeO.ite (gongref06_Decode.mono_l0 k _ _ _ _) (LeO.refl _))) (LeO.ite (LeO.bind (gongref06_Is.mono _ _) (fun _ => LeO.ite (LeO.bind (gongref06_Put.mono _ _) (fun _ => LeO.refl _)) (LeO.refl _))) (LeO.refl _))
theorem gongref06_Decode.mono : ∀ a0 k, LeO (gongref06_Decode.f k a0) (gongref06_Decode.f (k + 1) a0) := by
  intro a0 k
  unfold gongref06_Decode.f
  exact LeO.ite (LeO.refl _) (LeO.ite (LeO.refl _) (LeO.bind (gongref01_Reader_Groups.mono _ _ _ _ _) (fun _ => LeO.ite (gongref06_Decode.mono_l0 _ _ _ _ _) (LeO.refl _))))
theorem ints2_new (w : World) (x y : Int) : Kd.R (Kd.int .i64) 3 (w.alloc (.cells #[.int .i64 x, .int .i64 y] 3)) w.heap.size (fun _ => True) (.slice (some ⟨w.heap.size, 0, none⟩) 2 2) [x, y] := by
  refine Kd.R_of_own (enc := Value.int .i64) (h1 := fun _ => rfl) (xs := [x, y]) ⟨by simp [encs], .inr ⟨w.heap.size, 2, #[.int .i64 x, .int .i64 y], rfl, Nat.le_refl _, heap_alloc_new w _, Nat.le_refl _, by decide, by simp, ?_⟩⟩ (fun _ _ => trivial)
  simp [encs]
theorem info_int : (Tryz.prog.info? 3).map (fun i => (i.zero, i.size, i.bytes)) = some (some (.int .i64 0), 1, 8) := by kernel_rfl
set_option maxHeartbeats 4000000 in
set_option maxRecDepth 100000 in
theorem gongref06_Decode.calls (k : Nat) (a0 : ByteArray) (r1 : ByteArray) (r2 : Int) (w : World) (h : gongref06_Decode.f k a0 = some (r1, r2)) :
    Calls Tryz.prog 83 #[.string a0] w fun e w' => e = .returned (.tuple #[.string r1, .int .i64 r2]) ∧ Below w.heap.size w w' := by
  unfold gongref06_Decode.f at h
  go_enter Tryz.func83, Tryz.ntmps83
  by_cases h0 : a0.size = 0
  · rw [if_pos h0] at h
    simp only [Option.some.injEq, Prod.mk.injEq] at h
    obtain ⟨rfl, rfl⟩ := h
    obtain rfl := size_zero h0
    go_wp2
    go_ret2
    exact ⟨rfl, Below.refl _ _⟩
  · rw [if_neg h0] at h
    have e0 : (a0.toList == ([] : List UInt8)) = false := toList_ne h0
    by_cases h1 : 640 < a0.size
    · rw [if_pos h1] at h
      simp only [Option.some.injEq, Prod.mk.injEq] at h
      obtain ⟨rfl, rfl⟩ := h
      have e1 : decide ((a0.size : Int) > 640) = true := decide_eq_true (by omega)
      have e2 := eq_true h1
      clear h0 h1
      go_wp2
      go_ret2
      exact ⟨rfl, Below.refl _ _⟩
    · rw [if_neg h1] at h
      obtain ⟨⟨n, s1, p1, c1⟩, hg, h⟩ := Option.bind_eq_some_iff.mp h
      simp only at h
      by_cases hn : 0 ≤ n ∧ n ≤ 4294967295
      · rw [if_pos hn] at h
        have H := Aside0.mk h
        have HGR := Aside0.mk hg
        have e1 : decide ((a0.size : Int) > 640) = false := decide_eq_false (by omega)
        have e2 := eq_false h1
        obtain ⟨hn0, hn1⟩ := hn
        clear h0 h1 h hg
        go_wp2_with fail
        have HI0 := Aside0.mk (IsS151.new w w a0 0 0 (Below.refl _ _))
        obtain ⟨g, hgq⟩ : ∃ g, g = w.heap.size := ⟨_, rfl⟩
        obtain ⟨w1, hw1⟩ : ∃ w1, w1 = w.alloc (.cells #[.string a0, .int .i64 0, .int .i64 0] 151) := ⟨_, rfl⟩
        have HB0 := Aside0.mk (below_alloc (Below.refl w.heap.size w) (.cells #[.string a0, .int .i64 0, .int .i64 0] 151))
        rw [← hw1] at HI0 HB0 ⊢
        rw [← hgq] at HI0 ⊢
        clear hw1
        refine (gongref01_Reader_Groups.calls k g a0 0 0 4294967295 n s1 p1 c1 w w1 HI0.out HB0.out HGR.out).mono ?_
        rintro e w2 ⟨rfl, hi2, hb2, _⟩
        have HI2 := Aside0.mk hi2
        have HB2 := Aside0.mk hb2
        have HGL := Aside0.mk (show g < w2.heap.size from (Array.getElem?_eq_some_iff.1 hi2.1).1)
        have HGE := Aside0.mk hi2.2
        clear hi2 hb2 HI0 HB0 HGR hgq
        have hq : (first n = 2 ∧ (2 < n / 40) = True) ∨ (first n = n / 40 ∧ (2 < n / 40) = False) := by
          unfold first
          by_cases c : 2 < n / 40
          · exact .inl ⟨if_pos c, eq_true c⟩
          · exact .inr ⟨if_neg c, eq_false c⟩
        rcases hq with ⟨hq, q1⟩ | ⟨hq, q1⟩
        all_goals
          rw [hq] at H
          clear hq
          go_wp2_with fail
          go_loopg [7] k (fun kq v7 W => ∃ (s : ByteArray) (p c : Int) (l : List Int), Aside0 (Kd.R (Kd.int .i64) 3 W (g + 1) (fun _ => True) v7 l) ∧ Aside0 (IsS151 w W g s p c) ∧ Aside0 (Below w.heap.size w W) ∧ Aside0 (kq ≤ k) ∧ Aside0 (gongref06_Decode.l0 kq s p c l = some (r1, r2)))
          case atStart => exact ⟨s1, p1, c1, _, ⟨Kd.R_lower (ints2_new w2 _ _) HGL.out⟩, ⟨IsS151.alloc HI2.out _⟩, ⟨below_alloc HB2.out _⟩, ⟨Nat.le_refl _⟩, H⟩
          case round =>
            clear HI2 HB2 H q1 HGL
            obtain ⟨s, p, c, l, HO, HI, HB, HK, H⟩ := hrel
            obtain ⟨ki, rfl⟩ : ∃ ki, gk = ki + 1 := by
              cases gk with
              | zero => exact absurd H.out (by simp [gongref06_Decode.l0])
              | succ ki => exact ⟨ki, rfl⟩
            have h := H.out
            simp only [gongref06_Decode.l0] at h
            clear H
            have hlf : gongref01_Reader_Left.f s p c = some (wrap64 ((s.size : Int) - p), s, p, c) := rfl
            have AL := Aside0.mk (gongref01_Reader_Left.calls g s p c _ s p c w wr HI.out HB.out hlf)
            obtain ⟨A7, c7, rfl⟩ := Kd.R_slice HO.out
            go_wp2_with fail
            refine AL.out.mono ?_
            rintro e w3 ⟨rfl, hi3, hb3, hk3⟩
            have HI3 := Aside0.mk hi3
            have HB3 := Aside0.mk hb3
            have HO3 := Aside0.mk (R_stay HO.out (mv_of_keep HB.out hb3 hk3) (fun k _ _ hk _ _ e => by omega))
            have hc2 := cellS151_2 hi3.1
            clear hi3 hb3 hk3 HI HB HO AL hlf
            by_cases q1 : 0 < wrap64 ((s.size : Int) - p) ∧ c = 0
            · rw [if_pos q1] at h
              obtain ⟨⟨n2, s2, p2, c2⟩, hgr, h⟩ := Option.bind_eq_some_iff.mp h
              simp only at h
              by_cases q2 : (l.length + 1) * 8 ≤ 140737488355328
              · rw [if_pos q2] at h
                have H := Aside0.mk h
                have HGR := Aside0.mk hgr
                have HQ2 := Aside0.mk q2
                obtain ⟨q3, q4⟩ := q1
                have q5 : decide (wrap64 ((s.size : Int) - p) > 0) = true := decide_eq_true q3
                subst q4
                clear h hgr q2 q3
                go_wp2_with fail
                refine (gongref01_Reader_Groups.calls ki g s p 0 4294967295 n2 s2 p2 c2 w w3 HI3.out HB3.out HGR.out).mono ?_
                rintro e w4 ⟨rfl, hi4, hb4, hk4⟩
                have HI4 := Aside0.mk hi4
                have HB4 := Aside0.mk hb4
                have HO4 := Aside0.mk (R_stay HO3.out (mv_of_keep HB3.out hb4 hk4) (fun k _ _ hk _ _ e => by omega))
                have HG4 := Aside0.mk (show g < w4.heap.size from (Array.getElem?_eq_some_iff.1 hi4.1).1)
                clear hi4 hb4 hk4 HI3 HB3 HO3 hc2
                go_wp2_with (at_builtin; refine Kd.R_append (Kd.int .i64) (w0 := w4) (W := w4) (g + 1) rfl (.tmp 39) (.tmp 42) 90 3 (.int .i64 0) 8 rfl Tryz.underlying90 info_int rfl (by decide) (by omega) _ l n2 [.int .i64 n2] (fun _ => True) (fun _ => False) rfl rfl ?aP (fun _ hk => hk.elim) ?aF ?aO ?aB ?aS ?aL ?_; (case aP => exact rfl); (case aF => exact fun _ _ => trivial); (case aO => exact HO4.out); (case aB => exact Below.refl _ _); (case aS => exact HG4.out); (case aL => exact HQ2.out); intro v5 w5 ho5 hb5 hg5 hat5)
                have hmv5 : Mv (fun k => (Value.slice A7 l.length c7).ownBlock = some k) w4 w5 := ((Mv.refl _ w4)).grown hg5 (fun k hk _ => hk)
                have HUB := Aside0.mk (Kd.R_bound HO4.out).1
                have HI5 := Aside0.mk (show IsS151 w w5 g s2 p2 c2 from ⟨hmv5.heap HI4.out.1 (fun e => by have := (HUB.out g e).2.1; omega), HI4.out.2⟩)
                have HB5 := Aside0.mk (Below.trans HB4.out (Mv.below hmv5 HB4.out.size (fun k hk => by have := (HUB.out k hk).2.1; have := HGE.out; omega)))
                have HO5 := Aside0.mk ho5
                clear ho5 hb5 hg5 hat5 hmv5 HI4 HB4 HO4
                go_wp2
                go_roundg ki
                case measure => have := HK.out; omega
                case rel => exact ⟨s2, p2, c2, _, HO5, HI5, HB5, ⟨by have := HK.out; omega⟩, H⟩
              · rw [if_neg q2] at h
                exact absurd h (by simp)
            · rw [if_neg q1] at h
              obtain ⟨hl7, hc7, hC7⟩ := Kd.R_reads' HO3.out
              by_cases q2 : c = 0
              · subst q2
                rw [if_pos rfl] at h
                obtain ⟨bb, hIs, h⟩ := Option.bind_eq_some_iff.mp h
                have q3 : decide (wrap64 ((s.size : Int) - p) > 0) = false := decide_eq_false (fun hh => q1 ⟨hh, rfl⟩)
                have HX := Aside0.mk (gongref06_Is.calls ki A7 c7 l bb w3 hC7 hc7 hIs)
                have HC7 := Aside0.mk hC7
                have HQ7 := Aside0.mk hc7
                have H := Aside0.mk h
                clear q1 h hl7 hC7 hc7 hIs
                go_wp2_with fail
                refine HX.out.mono ?_
                rintro e w4 ⟨rfl, hd4⟩
                have HB4 := Aside0.mk (Below.trans HB3.out (Below.mono hd4.below HB3.out.size))
                have HC4 := Aside0.mk (Kd.C_below HC7.out hd4.below)
                clear hd4 hc2
                cases bb with
                | true =>
                  have h := H.out
                  rw [if_pos rfl] at h
                  obtain ⟨qq, hP, h⟩ := Option.bind_eq_some_iff.mp h
                  simp only [Option.some.injEq, Prod.mk.injEq] at h
                  obtain ⟨rfl, rfl⟩ := h
                  have HP := Aside0.mk (gongref06_Put.calls ki A7 c7 l qq w4 HC4.out HQ7.out hP)
                  clear H hP HC4
                  go_wp2_with fail
                  refine HP.out.mono ?_
                  rintro e w5 ⟨rfl, hb5⟩
                  have HB5 := Aside0.mk (Below.trans HB4.out (Below.mono hb5 HB4.out.size))
                  clear hb5 HP
                  go_wp2
                  go_ret2
                  exact ⟨rfl, HB5.out⟩
                | false =>
                  have h := H.out
                  rw [if_neg (by decide)] at h
                  simp only [Option.some.injEq, Prod.mk.injEq] at h
                  obtain ⟨rfl, rfl⟩ := h
                  clear H HC4
                  go_wp2
                  go_ret2
                  exact ⟨rfl, HB4.out⟩
              · rw [if_neg q2] at h
                simp only [Option.some.injEq, Prod.mk.injEq] at h
                obtain ⟨rfl, rfl⟩ := h
                have q4 : (c == 0) = false := beq_eq_false_iff_ne.mpr q2
                have q5 : (c != 0) = true := bne_iff_ne.mpr q2
                by_cases q6 : 0 < wrap64 ((s.size : Int) - p)
                · have q3 : decide (wrap64 ((s.size : Int) - p) > 0) = true := decide_eq_true q6
                  clear q1 q2 q6 hl7 hC7 hc7
                  go_wp2
                  go_ret2
                  exact ⟨rfl, HB3.out⟩
                · have q3 : decide (wrap64 ((s.size : Int) - p) > 0) = false := decide_eq_false q6
                  clear q1 q2 q6 hl7 hC7 hc7
                  go_wp2
                  go_ret2
                  exact ⟨rfl, HB3.out⟩
      · rw [if_neg hn] at h
        exact absurd h (by simp)

end Go.Proofs.YtjfimileopbadaaGreatDoor.XVaR
