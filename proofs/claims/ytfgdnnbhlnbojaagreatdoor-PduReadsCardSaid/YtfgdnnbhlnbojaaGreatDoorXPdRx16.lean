-- Laid by extprint.py (the session's own driver): functions told by the kit's printer and by hand.
import Derived.Test.YtfgdnnbhlnbojaaGreatDoorXPdRx0
import Derived.Test.YtfgdnnbhlnbojaaGreatDoorXPdRx14
namespace Go.Proofs.YtfgdnnbhlnbojaaGreatDoor.XPdR
open Go.RowKit Gong Go.Proofs.YtfgdnnbhlnbojaaGreatDoorW.PrintWords Go.Proofs.YtfgdnnbhlnbojaaGreatDoorW.PrintLast Go.Proofs.YtfgdnnbhlnbojaaGreatDoorW.PrintMore
attribute [local go_sem] max2_int min2_int max_two min_two max_three min_three max_four min_four   -- for this text's walks alone
set_option linter.unusedVariables false
set_option linter.unusedSimpArgs false
mutual
def gongref07_Check.j0 : Nat → Int → Bool → Int → Int → ByteArray → Option (Int)
 | 0, _, _, _, _, _ => none
 | k + 1, x5, x21, x290000, x290001, x290002 => if x21 = true then (if x290001 = 0 then (if ((x290002.size : Int) ≤ 65535) then (some 0) else (some 70)) else (some 70)) else (if x5 = 5 then (if x290001 = 0 then (if (x290002.toList = ([] : List UInt8)) then (some 0) else (some 70)) else (some 70)) else (if x5 = 6 then (if x290001 = 0 then ((gongref07_isOid.f k x290002).bind fun t290 => (if t290 = true then (some 0) else (some 70))) else (some 70)) else (if x5 = 64 then (if x290001 = 0 then (if ((x290002.size : Int) = 4) then (some 0) else (some 70)) else (some 70)) else (if x5 = 65 then (gongref07_Check.j1 k x5 (x5 == 65) x290000 x290001 x290002) else (if x5 = 66 then (gongref07_Check.j1 k x5 (x5 == 66) x290000 x290001 x290002) else (gongref07_Check.j1 k x5 (x5 == 67) x290000 x290001 x290002))))))
def gongref07_Check.j1 : Nat → Int → Bool → Int → Int → ByteArray → Option (Int)
 | 0, _, _, _, _, _ => none
 | k + 1, x5, x64, x290000, x290001, x290002 => if x64 = true then (if x290002.toList = ([] : List UInt8) then (if x290001 ≥ 0 then (if x290001 ≤ 4294967295 then (some 0) else (some 70)) else (some 70)) else (some 70)) else (if x5 = 70 then (if (x290002.toList = ([] : List UInt8)) then (some 0) else (some 70)) else (some 70))
end
def gongref07_Check.f (k : Nat) (a0_0 : Int) (a0_1 : Int) (a0_2 : ByteArray) : Option (Int) := if a0_0 = 2 then (if a0_2.toList = ([] : List UInt8) then (if a0_1 ≥ (-2147483648) then (if a0_1 ≤ 2147483647 then (some 0) else (some 70)) else (some 70)) else (some 70)) else (if a0_0 = 4 then (gongref07_Check.j0 k a0_0 (a0_0 == 4) a0_0 a0_1 a0_2) else (gongref07_Check.j0 k a0_0 (a0_0 == 68) a0_0 a0_1 a0_2))
theorem gongref07_Check.mono_l : ∀ k, (∀ y0 y1 y2 y3 y4, LeO (gongref07_Check.j0 k y0 y1 y2 y3 y4) (gongref07_Check.j0 (k + 1) y0 y1 y2 y3 y4)) ∧ (∀ y0 y1 y2 y3 y4, LeO (gongref07_Check.j1 k y0 y1 y2 y3 y4) (gongref07_Check.j1 (k + 1) y0 y1 y2 y3 y4))
 | 0 => ⟨fun _ _ _ _ _ r h => by simp [gongref07_Check.j0] at h, fun _ _ _ _ _ r h => by simp [gongref07_Check.j1] at h⟩
 | k + 1 => by
  obtain ⟨ih0, ih1⟩ := gongref07_Check.mono_l k
  refine ⟨?_, ?_⟩
  ·intro y0 y1 y2 y3 y4
   unfold gongref07_Check.j0
   repeat' first
   | (with_reducible exact ih0 _ _ _ _ _)
   | (with_reducible exact ih1 _ _ _ _ _)
   | (with_reducible exact gongref07_isOid.mono _ _)
   | (with_reducible exact LeO.refl _)
   | (with_reducible exact LeO.none _)
   | (with_reducible refine LeO.ite ?_ ?_)
   | (with_reducible refine LeO.bind ?_ (fun _ => ?_))
   | exact ih0 _ _ _ _ _
   | exact ih1 _ _ _ _ _
   | exact gongref07_isOid.mono _ _
   | exact LeO.none _
   | refine LeO.ite ?_ ?_
   | refine LeO.bind ?_ (fun _ => ?_)
  ·intro y0 y1 y2 y3 y4
   unfold gongref07_Check.j1
   repeat' first
   | (with_reducible exact ih0 _ _ _ _ _)
   | (with_reducible exact ih1 _ _ _ _ _)
   | (with_reducible exact gongref07_isOid.mono _ _)
   | (with_reducible exact LeO.refl _)
   | (with_reducible exact LeO.none _)
   | (with_reducible refine LeO.ite ?_ ?_)
   | (with_reducible refine LeO.bind ?_ (fun _ => ?_))
   | exact ih0 _ _ _ _ _
   | exact ih1 _ _ _ _ _
   | exact gongref07_isOid.mono _ _
   | exact LeO.none _
   | refine LeO.ite ?_ ?_
   | refine LeO.bind ?_ (fun _ => ?_)
theorem gongref07_Check.mono : ∀ a0 a1 a2 k, LeO (gongref07_Check.f k a0 a1 a2) (gongref07_Check.f (k + 1) a0 a1 a2) := by
 intro a0 a1 a2 k
 obtain ⟨ih0, ih1⟩ := gongref07_Check.mono_l k
 unfold gongref07_Check.f
 repeat' first
   | (with_reducible exact ih0 _ _ _ _ _)
   | (with_reducible exact ih1 _ _ _ _ _)
   | (with_reducible exact gongref07_isOid.mono _ _)
   | (with_reducible exact LeO.refl _)
   | (with_reducible exact LeO.none _)
   | (with_reducible refine LeO.ite ?_ ?_)
   | (with_reducible refine LeO.bind ?_ (fun _ => ?_))
   | exact ih0 _ _ _ _ _
   | exact ih1 _ _ _ _ _
   | exact gongref07_isOid.mono _ _
   | exact LeO.none _
   | refine LeO.ite ?_ ?_
   | refine LeO.bind ?_ (fun _ => ?_)
set_option maxHeartbeats 8000000 in
set_option maxRecDepth 100000 in
theorem gongref07_Check.calls (k : Nat) (a0_0 : Int) (a0_1 : Int) (a0_2 : ByteArray) (r : Int) (w : World) (h : gongref07_Check.f k a0_0 a0_1 a0_2 = some r) :
  Calls Tryz.prog 78 #[.agg #[.int .i64 a0_0, .int .i64 a0_1, .string a0_2]] w fun e w' => e = .returned (.int .i64 r) ∧ Below w.heap.size w w' := by
 have hu28 := Tryz.underlying28
 have HB := Aside0.mk (Below.refl w.heap.size w)
 have H : (if a0_0 = 2 then (if a0_2.toList = ([] : List UInt8) then (if a0_1 ≥ (-2147483648) then (if a0_1 ≤ 2147483647 then (some 0) else (some 70)) else (some 70)) else (some 70)) else (if a0_0 = 4 then (gongref07_Check.j0 k a0_0 (a0_0 == 4) a0_0 a0_1 a0_2) else (gongref07_Check.j0 k a0_0 (a0_0 == 68) a0_0 a0_1 a0_2))) = some r := h
 clear h
 by_cases c2 : a0_0 = 2
 ·rw [if_pos c2] at H
  have c2b0 : (a0_0 == 2) = true := beq_iff_eq.mpr c2
  have c2b1 : (a0_0 != 2) = false := bne_eq_false_iff_eq.mpr c2
  clear c2
  by_cases c3 : a0_2.toList = ([] : List UInt8)
  rotate_left
  ·rw [if_neg c3] at H
   have c3b0 : (a0_2.toList == ([] : List UInt8)) = false := beq_eq_false_iff_ne.mpr c3
   have c3b1 : (a0_2.toList != ([] : List UInt8)) = true := bne_iff_ne.mpr c3
   obtain rfl := Option.some.inj H
   go_enter Tryz.func78, Tryz.ntmps78
   go_wp2_with (first | ((with_reducible refine gate_dst (N := 1) rfl ?_); (try (refine gate_guard (by rfl) ?_; dsimp only)); refine box_event ?hg (N := 1) ?hd (cs := #[.int .i64 a0_0, .int .i64 a0_1, .string a0_2]) (t := 28) ?hr ?_; (case hd => rfl); (case hg => rfl); (case hr => exact Zq2); intro gb289 hg w12 hbox hb; have BK289 := Aside0.mk (hbox); have GW289 := Aside0.mk ((Zq50 : w.heap.size ≤ gb289)); have GE289 := Aside0.mk ((Zq50 : w.heap.size ≤ gb289)); replace HB := Aside0.mk (below_step Zq12 hb); clear hb hbox hg; obtain ⟨hcz13_0, hcz13_1, hcz13_2⟩ := cells3_ BK289.out; obtain ⟨hfz13_0, hfz13_1, hfz13_2⟩ := frozen3_ BK289.out))
   go_ret
   exact ⟨Zy41, Zy22⟩
  rw [if_pos c3] at H
  have c3b0 : (a0_2.toList == ([] : List UInt8)) = true := beq_iff_eq.mpr c3
  have c3b1 : (a0_2.toList != ([] : List UInt8)) = false := bne_eq_false_iff_eq.mpr c3
  clear c3
  by_cases c4 : a0_1 ≥ (-2147483648)
  rotate_left
  ·rw [if_neg c4] at H
   have c4b0 : decide ((-2147483648) ≤ a0_1) = false := decide_eq_false c4
   clear c4
   obtain rfl := Option.some.inj H
   go_enter Tryz.func78, Tryz.ntmps78
   go_wp2_with (first | ((with_reducible refine gate_dst (N := 1) rfl ?_); (try (refine gate_guard (by rfl) ?_; dsimp only)); refine box_event ?hg (N := 1) ?hd (cs := #[.int .i64 a0_0, .int .i64 a0_1, .string a0_2]) (t := 28) ?hr ?_; (case hd => rfl); (case hg => rfl); (case hr => exact Zq2); intro gb289 hg w10 hbox hb; have BK289 := Aside0.mk (hbox); have GW289 := Aside0.mk ((Zq50 : w.heap.size ≤ gb289)); have GE289 := Aside0.mk ((Zq50 : w.heap.size ≤ gb289)); replace HB := Aside0.mk (below_step Zq12 hb); clear hb hbox hg; obtain ⟨hcz11_0, hcz11_1, hcz11_2⟩ := cells3_ BK289.out; obtain ⟨hfz11_0, hfz11_1, hfz11_2⟩ := frozen3_ BK289.out))
   go_ret
   exact ⟨Zy41, Zy22⟩
  rw [if_pos c4] at H
  have c4b0 : decide ((-2147483648) ≤ a0_1) = true := decide_eq_true c4
  clear c4
  by_cases c5 : a0_1 ≤ 2147483647
  ·rw [if_pos c5] at H
   have c5b0 : decide (a0_1 ≤ 2147483647) = true := decide_eq_true c5
   clear c5
   obtain rfl := Option.some.inj H
   go_enter Tryz.func78, Tryz.ntmps78
   go_wp2_with (first | ((with_reducible refine gate_dst (N := 1) rfl ?_); (try (refine gate_guard (by rfl) ?_; dsimp only)); refine box_event ?hg (N := 1) ?hd (cs := #[.int .i64 a0_0, .int .i64 a0_1, .string a0_2]) (t := 28) ?hr ?_; (case hd => rfl); (case hg => rfl); (case hr => exact Zq2); intro gb289 hg w6 hbox hb; have BK289 := Aside0.mk (hbox); have GW289 := Aside0.mk ((Zq50 : w.heap.size ≤ gb289)); have GE289 := Aside0.mk ((Zq50 : w.heap.size ≤ gb289)); replace HB := Aside0.mk (below_step Zq12 hb); clear hb hbox hg; obtain ⟨hcz7_0, hcz7_1, hcz7_2⟩ := cells3_ BK289.out; obtain ⟨hfz7_0, hfz7_1, hfz7_2⟩ := frozen3_ BK289.out))
   go_ret
   exact ⟨Zy41, Zy22⟩
  rw [if_neg c5] at H
  have c5b0 : decide (a0_1 ≤ 2147483647) = false := decide_eq_false c5
  clear c5
  obtain rfl := Option.some.inj H
  go_enter Tryz.func78, Tryz.ntmps78
  go_wp2_with (first | ((with_reducible refine gate_dst (N := 1) rfl ?_); (try (refine gate_guard (by rfl) ?_; dsimp only)); refine box_event ?hg (N := 1) ?hd (cs := #[.int .i64 a0_0, .int .i64 a0_1, .string a0_2]) (t := 28) ?hr ?_; (case hd => rfl); (case hg => rfl); (case hr => exact Zq2); intro gb289 hg w8 hbox hb; have BK289 := Aside0.mk (hbox); have GW289 := Aside0.mk ((Zq50 : w.heap.size ≤ gb289)); have GE289 := Aside0.mk ((Zq50 : w.heap.size ≤ gb289)); replace HB := Aside0.mk (below_step Zq12 hb); clear hb hbox hg; obtain ⟨hcz9_0, hcz9_1, hcz9_2⟩ := cells3_ BK289.out; obtain ⟨hfz9_0, hfz9_1, hfz9_2⟩ := frozen3_ BK289.out))
  go_ret
  exact ⟨Zy41, Zy22⟩
 rw [if_neg c2] at H
 have c2b0 : (a0_0 == 2) = false := beq_eq_false_iff_ne.mpr c2
 have c2b1 : (a0_0 != 2) = true := bne_iff_ne.mpr c2
 have HC14 := Aside0.mk H
 clear H
 go_enter Tryz.func78, Tryz.ntmps78
 go_upto_if 21 with (first | ((with_reducible refine gate_dst (N := 1) rfl ?_); (try (refine gate_guard (by rfl) ?_; dsimp only)); refine box_event ?hg (N := 1) ?hd (cs := #[.int .i64 a0_0, .int .i64 a0_1, .string a0_2]) (t := 28) ?hr ?_; (case hd => rfl); (case hg => rfl); (case hr => exact Zq2); intro gb289 hg w15 hbox hb; have BK289 := Aside0.mk (hbox); have GW289 := Aside0.mk ((Zq50 : w.heap.size ≤ gb289)); have GE289 := Aside0.mk ((Zq50 : w.heap.size ≤ gb289)); replace HB := Aside0.mk (below_step Zq12 hb); clear hb hbox hg; obtain ⟨hcz16_0, hcz16_1, hcz16_2⟩ := cells3_ BK289.out; obtain ⟨hfz16_0, hfz16_1, hfz16_2⟩ := frozen3_ BK289.out))
 (try simp only [Act.put, List.setIfInBounds_toArray, List.set_cons_zero, List.set_cons_succ])
 go_cut [21] (fun v21 wc => ∃ (kq : Nat) (x21_13 : Bool), v21 = .bool x21_13 ∧ Aside0 (gongref07_Check.j0 kq a0_0 x21_13 a0_0 a0_1 a0_2 = some r) ∧ Aside0 (kq ≤ k) ∧ Aside0 (wc.heap[gb289]? = some (.cells #[.int .i64 a0_0, .int .i64 a0_1, .string a0_2] 28 (0, 0))) ∧ Aside0 (Below w.heap.size w wc))
 case first =>
  have H := HC14.out
  clear HC14
  by_cases c17 : a0_0 = 4
  ·rw [if_pos c17] at H
   have c17b0 : (a0_0 == 4) = true := beq_iff_eq.mpr c17
   have c17b1 : (a0_0 != 4) = false := bne_eq_false_iff_eq.mpr c17
   clear c17
   (first | rw [c17b0] | (simp only [i64_w, i32_w]; rw [c17b0]) | skip)
   have H' := Aside0.mk H
   clear H
   go_wp2
   go_meet
   case rel => exact ⟨_, ((a0_0 == 4)), Zq11, H', ⟨Zy61⟩, ⟨Zy44⟩, ⟨Zy22⟩⟩
  ·rw [if_neg c17] at H
   have c17b0 : (a0_0 == 4) = false := beq_eq_false_iff_ne.mpr c17
   have c17b1 : (a0_0 != 4) = true := bne_iff_ne.mpr c17
   (first | rw [c17b0] | (simp only [i64_w, i32_w]; rw [c17b0]) | skip)
   have H' := Aside0.mk H
   clear H
   go_wp2
   go_meet
   case rel => exact ⟨_, ((a0_0 == 68)), Zq11, H', ⟨Zy61⟩, ⟨Zy44⟩, ⟨Zy22⟩⟩
 case rest =>
  clear HC14
  (try clear c1); (try clear c2); (try clear c2b0); (try clear c2b1); (try clear p2); (try clear c3); (try clear c3b0); (try clear c3b1); (try clear c4); (try clear c4b0); (try clear c5); (try clear c5b0); (try clear c7); (try clear c17); (try clear c17b0); (try clear c17b1); (try clear hcz11_0); (try clear hcz11_1); (try clear hcz11_2); (try clear hcz13_0); (try clear hcz13_1); (try clear hcz13_2); (try clear hcz16_0); (try clear hcz16_1); (try clear hcz16_2); (try clear hcz7_0); (try clear hcz7_1); (try clear hcz7_2); (try clear hcz9_0); (try clear hcz9_1); (try clear hcz9_2); (try clear hfz11_0); (try clear hfz11_1); (try clear hfz11_2); (try clear hfz13_0); (try clear hfz13_1); (try clear hfz13_2); (try clear hfz16_0); (try clear hfz16_1); (try clear hfz16_2); (try clear hfz7_0); (try clear hfz7_1); (try clear hfz7_2); (try clear hfz9_0); (try clear hfz9_1); (try clear hfz9_2)
  obtain ⟨kq, x21_13, rfl, HA, HJ13, BK289, HB⟩ := hcut
  cases kq with
  | zero => exact absurd HA.out (by simp [gongref07_Check.j0])
  | succ kj13 =>
   have H := HA.out
   clear HA
   simp only [gongref07_Check.j0] at H
   by_cases c18 : x21_13 = true
   ·subst c18
    have H1 : (if a0_1 = 0 then (if ((a0_2.size : Int) ≤ 65535) then (some 0) else (some 70)) else (some 70)) = some r := by rw [if_pos rfl] at H; exact H
    clear H
    have H := H1
    clear H1
    by_cases c19 : a0_1 = 0
    ·rw [if_pos c19] at H
     have c19b0 : (a0_1 == 0) = true := beq_iff_eq.mpr c19
     have c19b1 : (a0_1 != 0) = false := bne_eq_false_iff_eq.mpr c19
     clear c19
     by_cases c20 : ((a0_2.size : Int) ≤ 65535)
     ·rw [if_pos c20] at H
      have c20b0 : decide ((a0_2.size : Int) ≤ 65535) = true := decide_eq_true c20
      have c20b1 : decide (a0_2.size ≤ 65535) = true := decide_eq_true (by omega)
      clear c20
      obtain rfl := Option.some.inj H
      obtain ⟨hcz21_0, hcz21_1, hcz21_2⟩ := cells3_ BK289.out
      obtain ⟨hfz21_0, hfz21_1, hfz21_2⟩ := frozen3_ BK289.out
      go_wp2
      go_ret
      exact ⟨Zy41, Zy22⟩
     ·rw [if_neg c20] at H
      have c20b0 : decide ((a0_2.size : Int) ≤ 65535) = false := decide_eq_false c20
      have c20b1 : decide (a0_2.size ≤ 65535) = false := decide_eq_false (by omega)
      clear c20
      obtain rfl := Option.some.inj H
      obtain ⟨hcz22_0, hcz22_1, hcz22_2⟩ := cells3_ BK289.out
      obtain ⟨hfz22_0, hfz22_1, hfz22_2⟩ := frozen3_ BK289.out
      go_wp2
      go_ret
      exact ⟨Zy41, Zy22⟩
    ·rw [if_neg c19] at H
     have c19b0 : (a0_1 == 0) = false := beq_eq_false_iff_ne.mpr c19
     have c19b1 : (a0_1 != 0) = true := bne_iff_ne.mpr c19
     obtain rfl := Option.some.inj H
     obtain ⟨hcz23_0, hcz23_1, hcz23_2⟩ := cells3_ BK289.out
     obtain ⟨hfz23_0, hfz23_1, hfz23_2⟩ := frozen3_ BK289.out
     go_wp2
     go_ret
     exact ⟨Zy41, Zy22⟩
   ·replace c18 := Bool.eq_false_iff.mpr c18
    subst c18
    have H1 : (if a0_0 = 5 then (if a0_1 = 0 then (if (a0_2.toList = ([] : List UInt8)) then (some 0) else (some 70)) else (some 70)) else (if a0_0 = 6 then (if a0_1 = 0 then ((gongref07_isOid.f kj13 a0_2).bind fun t290 => (if t290 = true then (some 0) else (some 70))) else (some 70)) else (if a0_0 = 64 then (if a0_1 = 0 then (if ((a0_2.size : Int) = 4) then (some 0) else (some 70)) else (some 70)) else (if a0_0 = 65 then (gongref07_Check.j1 kj13 a0_0 (a0_0 == 65) a0_0 a0_1 a0_2) else (if a0_0 = 66 then (gongref07_Check.j1 kj13 a0_0 (a0_0 == 66) a0_0 a0_1 a0_2) else (gongref07_Check.j1 kj13 a0_0 (a0_0 == 67) a0_0 a0_1 a0_2)))))) = some r := by rw [if_neg (show ¬ (false = true) by decide)] at H; exact H
    clear H
    have H := H1
    clear H1
    by_cases c24 : a0_0 = 5
    ·rw [if_pos c24] at H
     have c24b0 : (a0_0 == 5) = true := beq_iff_eq.mpr c24
     have c24b1 : (a0_0 != 5) = false := bne_eq_false_iff_eq.mpr c24
     clear c24
     by_cases c25 : a0_1 = 0
     ·rw [if_pos c25] at H
      have c25b0 : (a0_1 == 0) = true := beq_iff_eq.mpr c25
      have c25b1 : (a0_1 != 0) = false := bne_eq_false_iff_eq.mpr c25
      clear c25
      by_cases c26 : (a0_2.toList = ([] : List UInt8))
      ·rw [if_pos c26] at H
       have c26b0 : (a0_2.toList == ([] : List UInt8)) = true := beq_iff_eq.mpr c26
       have c26b1 : (a0_2.toList != ([] : List UInt8)) = false := bne_eq_false_iff_eq.mpr c26
       clear c26
       obtain rfl := Option.some.inj H
       obtain ⟨hcz27_0, hcz27_1, hcz27_2⟩ := cells3_ BK289.out
       obtain ⟨hfz27_0, hfz27_1, hfz27_2⟩ := frozen3_ BK289.out
       go_wp2
       go_ret
       exact ⟨Zy41, Zy22⟩
      ·rw [if_neg c26] at H
       have c26b0 : (a0_2.toList == ([] : List UInt8)) = false := beq_eq_false_iff_ne.mpr c26
       have c26b1 : (a0_2.toList != ([] : List UInt8)) = true := bne_iff_ne.mpr c26
       obtain rfl := Option.some.inj H
       obtain ⟨hcz28_0, hcz28_1, hcz28_2⟩ := cells3_ BK289.out
       obtain ⟨hfz28_0, hfz28_1, hfz28_2⟩ := frozen3_ BK289.out
       go_wp2
       go_ret
       exact ⟨Zy41, Zy22⟩
     ·rw [if_neg c25] at H
      have c25b0 : (a0_1 == 0) = false := beq_eq_false_iff_ne.mpr c25
      have c25b1 : (a0_1 != 0) = true := bne_iff_ne.mpr c25
      obtain rfl := Option.some.inj H
      obtain ⟨hcz29_0, hcz29_1, hcz29_2⟩ := cells3_ BK289.out
      obtain ⟨hfz29_0, hfz29_1, hfz29_2⟩ := frozen3_ BK289.out
      go_wp2
      go_ret
      exact ⟨Zy41, Zy22⟩
    ·rw [if_neg c24] at H
     have c24b0 : (a0_0 == 5) = false := beq_eq_false_iff_ne.mpr c24
     have c24b1 : (a0_0 != 5) = true := bne_iff_ne.mpr c24
     by_cases c30 : a0_0 = 6
     ·rw [if_pos c30] at H
      have c30b0 : (a0_0 == 6) = true := beq_iff_eq.mpr c30
      have c30b1 : (a0_0 != 6) = false := bne_eq_false_iff_eq.mpr c30
      clear c30
      by_cases c31 : a0_1 = 0
      ·rw [if_pos c31] at H
       have c31b0 : (a0_1 == 0) = true := beq_iff_eq.mpr c31
       have c31b1 : (a0_1 != 0) = false := bne_eq_false_iff_eq.mpr c31
       clear c31
       replace H := Option.bind_eq_some_iff.mp H
       obtain ⟨t290, A320, H⟩ := H
       replace H : (if t290 = true then (some 0) else (some 70)) = some r := H
       have A32 := Aside0.mk A320
       clear A320
       by_cases c33 : t290 = true
       ·subst c33
        have H1 : (some 0) = some r := by rw [if_pos rfl] at H; exact H
        clear H
        have H := H1
        clear H1
        obtain rfl := Option.some.inj H
        obtain ⟨hcz34_0, hcz34_1, hcz34_2⟩ := cells3_ BK289.out
        obtain ⟨hfz34_0, hfz34_1, hfz34_2⟩ := frozen3_ BK289.out
        go_wp2_with (first | (go_at_call 102; (with_reducible refine (gongref07_isOid.calls kj13 a0_2 true _ A32.out).mono ?_); rintro e w35 ⟨rfl, hb⟩; replace BK289 := Aside0.mk (blkb_ BK289.out Zq31 hb); replace HB := Aside0.mk (below_step Zy22 hb); (try clear hb); (try clear hb2); (try clear hk); (try clear hi)))
        go_ret
        exact ⟨Zy41, Zy22⟩
       ·replace c33 := Bool.eq_false_iff.mpr c33
        subst c33
        have H1 : (some 70) = some r := by rw [if_neg (show ¬ (false = true) by decide)] at H; exact H
        clear H
        have H := H1
        clear H1
        obtain rfl := Option.some.inj H
        obtain ⟨hcz36_0, hcz36_1, hcz36_2⟩ := cells3_ BK289.out
        obtain ⟨hfz36_0, hfz36_1, hfz36_2⟩ := frozen3_ BK289.out
        go_wp2_with (first | (go_at_call 102; (with_reducible refine (gongref07_isOid.calls kj13 a0_2 false _ A32.out).mono ?_); rintro e w37 ⟨rfl, hb⟩; replace BK289 := Aside0.mk (blkb_ BK289.out Zq31 hb); replace HB := Aside0.mk (below_step Zy22 hb); (try clear hb); (try clear hb2); (try clear hk); (try clear hi)))
        go_ret
        exact ⟨Zy41, Zy22⟩
      ·rw [if_neg c31] at H
       have c31b0 : (a0_1 == 0) = false := beq_eq_false_iff_ne.mpr c31
       have c31b1 : (a0_1 != 0) = true := bne_iff_ne.mpr c31
       obtain rfl := Option.some.inj H
       obtain ⟨hcz38_0, hcz38_1, hcz38_2⟩ := cells3_ BK289.out
       obtain ⟨hfz38_0, hfz38_1, hfz38_2⟩ := frozen3_ BK289.out
       go_wp2
       go_ret
       exact ⟨Zy41, Zy22⟩
     ·rw [if_neg c30] at H
      have c30b0 : (a0_0 == 6) = false := beq_eq_false_iff_ne.mpr c30
      have c30b1 : (a0_0 != 6) = true := bne_iff_ne.mpr c30
      by_cases c39 : a0_0 = 64
      ·rw [if_pos c39] at H
       have c39b0 : (a0_0 == 64) = true := beq_iff_eq.mpr c39
       have c39b1 : (a0_0 != 64) = false := bne_eq_false_iff_eq.mpr c39
       clear c39
       by_cases c40 : a0_1 = 0
       ·rw [if_pos c40] at H
        have c40b0 : (a0_1 == 0) = true := beq_iff_eq.mpr c40
        have c40b1 : (a0_1 != 0) = false := bne_eq_false_iff_eq.mpr c40
        clear c40
        by_cases c41 : ((a0_2.size : Int) = 4)
        ·rw [if_pos c41] at H
         have c41b0 : ((a0_2.size : Int) == 4) = true := beq_iff_eq.mpr c41
         have c41b1 : ((a0_2.size : Int) != 4) = false := bne_eq_false_iff_eq.mpr c41
         clear c41
         obtain rfl := Option.some.inj H
         obtain ⟨hcz42_0, hcz42_1, hcz42_2⟩ := cells3_ BK289.out
         obtain ⟨hfz42_0, hfz42_1, hfz42_2⟩ := frozen3_ BK289.out
         go_wp2
         go_ret
         exact ⟨Zy41, Zy22⟩
        ·rw [if_neg c41] at H
         have c41b0 : ((a0_2.size : Int) == 4) = false := beq_eq_false_iff_ne.mpr c41
         have c41b1 : ((a0_2.size : Int) != 4) = true := bne_iff_ne.mpr c41
         obtain rfl := Option.some.inj H
         obtain ⟨hcz43_0, hcz43_1, hcz43_2⟩ := cells3_ BK289.out
         obtain ⟨hfz43_0, hfz43_1, hfz43_2⟩ := frozen3_ BK289.out
         go_wp2
         go_ret
         exact ⟨Zy41, Zy22⟩
       ·rw [if_neg c40] at H
        have c40b0 : (a0_1 == 0) = false := beq_eq_false_iff_ne.mpr c40
        have c40b1 : (a0_1 != 0) = true := bne_iff_ne.mpr c40
        obtain rfl := Option.some.inj H
        obtain ⟨hcz44_0, hcz44_1, hcz44_2⟩ := cells3_ BK289.out
        obtain ⟨hfz44_0, hfz44_1, hfz44_2⟩ := frozen3_ BK289.out
        go_wp2
        go_ret
        exact ⟨Zy41, Zy22⟩
      ·rw [if_neg c39] at H
       have c39b0 : (a0_0 == 64) = false := beq_eq_false_iff_ne.mpr c39
       have c39b1 : (a0_0 != 64) = true := bne_iff_ne.mpr c39
       have HC45 := Aside0.mk H
       clear H
       go_upto_if 64 with (fail)
       go_cut [64] (fun v64 wc => ∃ (kq : Nat) (x64_44 : Bool), v64 = .bool x64_44 ∧ Aside0 (gongref07_Check.j1 kq a0_0 x64_44 a0_0 a0_1 a0_2 = some r) ∧ Aside0 (kq ≤ kj13) ∧ Aside0 (wc.heap[gb289]? = some (.cells #[.int .i64 a0_0, .int .i64 a0_1, .string a0_2] 28 (0, 0))) ∧ Aside0 (Below w.heap.size w wc))
       case first =>
        have H := HC45.out
        clear HC45
        by_cases c46 : a0_0 = 65
        ·rw [if_pos c46] at H
         have c46b0 : (a0_0 == 65) = true := beq_iff_eq.mpr c46
         have c46b1 : (a0_0 != 65) = false := bne_eq_false_iff_eq.mpr c46
         clear c46
         (first | rw [c46b0] | (simp only [i64_w, i32_w]; rw [c46b0]) | skip)
         have H' := Aside0.mk H
         clear H
         go_wp2
         go_meet
         case rel => exact ⟨_, ((a0_0 == 65)), Zq11, H', ⟨by have := HJ13.out; first | omega | exact Nat.le_refl _⟩, ⟨Zy44⟩, ⟨Zy22⟩⟩
        ·rw [if_neg c46] at H
         have c46b0 : (a0_0 == 65) = false := beq_eq_false_iff_ne.mpr c46
         have c46b1 : (a0_0 != 65) = true := bne_iff_ne.mpr c46
         (first | rw [c46b0] | (simp only [i64_w, i32_w]; rw [c46b0]) | skip)
         by_cases c47 : a0_0 = 66
         ·rw [if_pos c47] at H
          have c47b0 : (a0_0 == 66) = true := beq_iff_eq.mpr c47
          have c47b1 : (a0_0 != 66) = false := bne_eq_false_iff_eq.mpr c47
          clear c47
          have H' := Aside0.mk H
          clear H
          go_wp2
          go_meet
          case rel => exact ⟨_, ((a0_0 == 66)), Zq11, H', ⟨by have := HJ13.out; first | omega | exact Nat.le_refl _⟩, ⟨Zy44⟩, ⟨Zy22⟩⟩
         ·rw [if_neg c47] at H
          have c47b0 : (a0_0 == 66) = false := beq_eq_false_iff_ne.mpr c47
          have c47b1 : (a0_0 != 66) = true := bne_iff_ne.mpr c47
          have H' := Aside0.mk H
          clear H
          go_wp2
          go_meet
          case rel => exact ⟨_, ((a0_0 == 67)), Zq11, H', ⟨by have := HJ13.out; first | omega | exact Nat.le_refl _⟩, ⟨Zy44⟩, ⟨Zy22⟩⟩
       case rest =>
        clear HC45
        (try clear c1); (try clear c2); (try clear c2b0); (try clear c2b1); (try clear p2); (try clear c3); (try clear c3b0); (try clear c3b1); (try clear c4); (try clear c4b0); (try clear c5); (try clear c5b0); (try clear c7); (try clear c17); (try clear c17b0); (try clear c17b1); (try clear c18); (try clear c19); (try clear c19b0); (try clear c19b1); (try clear c20); (try clear c20b0); (try clear c20b1); (try clear c24); (try clear c24b0); (try clear c24b1); (try clear c25); (try clear c25b0); (try clear c25b1); (try clear c26); (try clear c26b0); (try clear c26b1); (try clear c30); (try clear c30b0); (try clear c30b1); (try clear c31); (try clear c31b0); (try clear c31b1); (try clear c33); (try clear c39); (try clear c39b0); (try clear c39b1); (try clear c40); (try clear c40b0); (try clear c40b1); (try clear c41); (try clear c41b0); (try clear c41b1); (try clear c46); (try clear c46b0); (try clear c46b1); (try clear c47); (try clear c47b0); (try clear c47b1); (try clear hcz11_0); (try clear hcz11_1); (try clear hcz11_2); (try clear hcz13_0); (try clear hcz13_1); (try clear hcz13_2); (try clear hcz16_0); (try clear hcz16_1); (try clear hcz16_2); (try clear hcz21_0); (try clear hcz21_1); (try clear hcz21_2); (try clear hcz22_0); (try clear hcz22_1); (try clear hcz22_2); (try clear hcz23_0); (try clear hcz23_1); (try clear hcz23_2); (try clear hcz27_0); (try clear hcz27_1); (try clear hcz27_2); (try clear hcz28_0); (try clear hcz28_1); (try clear hcz28_2); (try clear hcz29_0); (try clear hcz29_1); (try clear hcz29_2); (try clear hcz34_0); (try clear hcz34_1); (try clear hcz34_2); (try clear hcz36_0); (try clear hcz36_1); (try clear hcz36_2); (try clear hcz38_0); (try clear hcz38_1); (try clear hcz38_2); (try clear hcz42_0); (try clear hcz42_1); (try clear hcz42_2); (try clear hcz43_0); (try clear hcz43_1); (try clear hcz43_2); (try clear hcz44_0); (try clear hcz44_1); (try clear hcz44_2); (try clear hcz7_0); (try clear hcz7_1); (try clear hcz7_2); (try clear hcz9_0); (try clear hcz9_1); (try clear hcz9_2); (try clear hfz11_0); (try clear hfz11_1); (try clear hfz11_2); (try clear hfz13_0); (try clear hfz13_1); (try clear hfz13_2); (try clear hfz16_0); (try clear hfz16_1); (try clear hfz16_2); (try clear hfz21_0); (try clear hfz21_1); (try clear hfz21_2); (try clear hfz22_0); (try clear hfz22_1); (try clear hfz22_2); (try clear hfz23_0); (try clear hfz23_1); (try clear hfz23_2); (try clear hfz27_0); (try clear hfz27_1); (try clear hfz27_2); (try clear hfz28_0); (try clear hfz28_1); (try clear hfz28_2); (try clear hfz29_0); (try clear hfz29_1); (try clear hfz29_2); (try clear hfz34_0); (try clear hfz34_1); (try clear hfz34_2); (try clear hfz36_0); (try clear hfz36_1); (try clear hfz36_2); (try clear hfz38_0); (try clear hfz38_1); (try clear hfz38_2); (try clear hfz42_0); (try clear hfz42_1); (try clear hfz42_2); (try clear hfz43_0); (try clear hfz43_1); (try clear hfz43_2); (try clear hfz44_0); (try clear hfz44_1); (try clear hfz44_2); (try clear hfz7_0); (try clear hfz7_1); (try clear hfz7_2); (try clear hfz9_0); (try clear hfz9_1); (try clear hfz9_2)
        obtain ⟨kq, x64_44, rfl, HA, HJ44, BK289, HB⟩ := hcut
        cases kq with
        | zero => exact absurd HA.out (by simp [gongref07_Check.j1])
        | succ kj44 =>
         have H := HA.out
         clear HA
         simp only [gongref07_Check.j1] at H
         by_cases c48 : x64_44 = true
         ·subst c48
          have H1 : (if a0_2.toList = ([] : List UInt8) then (if a0_1 ≥ 0 then (if a0_1 ≤ 4294967295 then (some 0) else (some 70)) else (some 70)) else (some 70)) = some r := by rw [if_pos rfl] at H; exact H
          clear H
          have H := H1
          clear H1
          by_cases c49 : a0_2.toList = ([] : List UInt8)
          ·rw [if_pos c49] at H
           have c49b0 : (a0_2.toList == ([] : List UInt8)) = true := beq_iff_eq.mpr c49
           have c49b1 : (a0_2.toList != ([] : List UInt8)) = false := bne_eq_false_iff_eq.mpr c49
           clear c49
           by_cases c50 : a0_1 ≥ 0
           ·rw [if_pos c50] at H
            have c50b0 : decide (0 ≤ a0_1) = true := decide_eq_true c50
            clear c50
            by_cases c51 : a0_1 ≤ 4294967295
            ·rw [if_pos c51] at H
             have c51b0 : decide (a0_1 ≤ 4294967295) = true := decide_eq_true c51
             clear c51
             obtain rfl := Option.some.inj H
             obtain ⟨hcz52_0, hcz52_1, hcz52_2⟩ := cells3_ BK289.out
             obtain ⟨hfz52_0, hfz52_1, hfz52_2⟩ := frozen3_ BK289.out
             go_wp2
             go_ret
             exact ⟨Zy41, Zy22⟩
            ·rw [if_neg c51] at H
             have c51b0 : decide (a0_1 ≤ 4294967295) = false := decide_eq_false c51
             clear c51
             obtain rfl := Option.some.inj H
             obtain ⟨hcz53_0, hcz53_1, hcz53_2⟩ := cells3_ BK289.out
             obtain ⟨hfz53_0, hfz53_1, hfz53_2⟩ := frozen3_ BK289.out
             go_wp2
             go_ret
             exact ⟨Zy41, Zy22⟩
           ·rw [if_neg c50] at H
            have c50b0 : decide (0 ≤ a0_1) = false := decide_eq_false c50
            clear c50
            obtain rfl := Option.some.inj H
            obtain ⟨hcz54_0, hcz54_1, hcz54_2⟩ := cells3_ BK289.out
            obtain ⟨hfz54_0, hfz54_1, hfz54_2⟩ := frozen3_ BK289.out
            go_wp2
            go_ret
            exact ⟨Zy41, Zy22⟩
          ·rw [if_neg c49] at H
           have c49b0 : (a0_2.toList == ([] : List UInt8)) = false := beq_eq_false_iff_ne.mpr c49
           have c49b1 : (a0_2.toList != ([] : List UInt8)) = true := bne_iff_ne.mpr c49
           obtain rfl := Option.some.inj H
           obtain ⟨hcz55_0, hcz55_1, hcz55_2⟩ := cells3_ BK289.out
           obtain ⟨hfz55_0, hfz55_1, hfz55_2⟩ := frozen3_ BK289.out
           go_wp2
           go_ret
           exact ⟨Zy41, Zy22⟩
         ·replace c48 := Bool.eq_false_iff.mpr c48
          subst c48
          have H1 : (if a0_0 = 70 then (if (a0_2.toList = ([] : List UInt8)) then (some 0) else (some 70)) else (some 70)) = some r := by rw [if_neg (show ¬ (false = true) by decide)] at H; exact H
          clear H
          have H := H1
          clear H1
          by_cases c56 : a0_0 = 70
          ·rw [if_pos c56] at H
           have c56b0 : (a0_0 == 70) = true := beq_iff_eq.mpr c56
           have c56b1 : (a0_0 != 70) = false := bne_eq_false_iff_eq.mpr c56
           clear c56
           by_cases c57 : (a0_2.toList = ([] : List UInt8))
           ·rw [if_pos c57] at H
            have c57b0 : (a0_2.toList == ([] : List UInt8)) = true := beq_iff_eq.mpr c57
            have c57b1 : (a0_2.toList != ([] : List UInt8)) = false := bne_eq_false_iff_eq.mpr c57
            clear c57
            obtain rfl := Option.some.inj H
            obtain ⟨hcz58_0, hcz58_1, hcz58_2⟩ := cells3_ BK289.out
            obtain ⟨hfz58_0, hfz58_1, hfz58_2⟩ := frozen3_ BK289.out
            go_wp2
            go_ret
            exact ⟨Zy41, Zy22⟩
           ·rw [if_neg c57] at H
            have c57b0 : (a0_2.toList == ([] : List UInt8)) = false := beq_eq_false_iff_ne.mpr c57
            have c57b1 : (a0_2.toList != ([] : List UInt8)) = true := bne_iff_ne.mpr c57
            obtain rfl := Option.some.inj H
            obtain ⟨hcz59_0, hcz59_1, hcz59_2⟩ := cells3_ BK289.out
            obtain ⟨hfz59_0, hfz59_1, hfz59_2⟩ := frozen3_ BK289.out
            go_wp2
            go_ret
            exact ⟨Zy41, Zy22⟩
          ·rw [if_neg c56] at H
           have c56b0 : (a0_0 == 70) = false := beq_eq_false_iff_ne.mpr c56
           have c56b1 : (a0_0 != 70) = true := bne_iff_ne.mpr c56
           obtain rfl := Option.some.inj H
           go_wp2
           go_ret
           exact ⟨Zy41, Zy22⟩
def gongref08_isBind.f (k : Nat) (a0_0 : ByteArray) (a0_1 : Int) (a0_2 : Int) (a0_3 : ByteArray) : Option (Bool) := (gongref06_Arcs.f k a0_0).bind fun bt292 => (if bt292.2 = 0 then ((gongref07_Check.f k a0_1 a0_2 a0_3).bind fun t296 => (some (t296 == 0))) else (some false))
set_option maxHeartbeats 8000000 in
set_option maxRecDepth 100000 in
theorem gongref08_isBind.calls (k : Nat) (a0_0 : ByteArray) (a0_1 : Int) (a0_2 : Int) (a0_3 : ByteArray) (r : Bool) (w : World) (h : gongref08_isBind.f k a0_0 a0_1 a0_2 a0_3 = some r) :
  Calls Tryz.prog 53 #[.agg #[.string a0_0, .int .i64 a0_1, .int .i64 a0_2, .string a0_3]] w fun e w' => e = .returned (.bool r) ∧ Below w.heap.size w w' := by
 have hu30 := Tryz.underlying30
 have hu28 := Tryz.underlying28
 have HB := Aside0.mk (Below.refl w.heap.size w)
 have H : ((gongref06_Arcs.f k a0_0).bind fun bt292 => (if bt292.2 = 0 then ((gongref07_Check.f k a0_1 a0_2 a0_3).bind fun t296 => (some (t296 == 0))) else (some false))) = some r := h
 clear h
 replace H := Option.bind_eq_some_iff.mp H
 obtain ⟨⟨t292, t293⟩, A20, H⟩ := H
 replace H : (if t293 = 0 then ((gongref07_Check.f k a0_1 a0_2 a0_3).bind fun t296 => (some (t296 == 0))) else (some false)) = some r := H
 have A2 := Aside0.mk A20
 clear A20
 by_cases c3 : t293 = 0
 rotate_left
 ·rw [if_neg c3] at H
  have c3b0 : (t293 == 0) = false := beq_eq_false_iff_ne.mpr c3
  have c3b1 : (t293 != 0) = true := bne_iff_ne.mpr c3
  obtain rfl := Option.some.inj H
  go_enter Tryz.func53, Tryz.ntmps53
  go_wp2_with (first | ((with_reducible refine gate_dst (N := 1) rfl ?_); refine box_event ?hg (N := 1) ?hd (cs := #[.string a0_0, .int .i64 a0_1, .int .i64 a0_2, .string a0_3]) (t := 30) ?hr ?_; (case hd => rfl); (case hg => rfl); (case hr => exact Zq2); intro gb291 hg w10 hbox hb; have BK291 := Aside0.mk (hbox); have GW291 := Aside0.mk ((by rw [hg]; exact (below_size Zq12) : w.heap.size ≤ gb291)); have GE291 := Aside0.mk ((by rw [hg]; exact (below_size Zq12) : w.heap.size ≤ gb291)); replace HB := Aside0.mk (below_step Zq12 hb); clear hb hbox hg; obtain ⟨hcz11_0, hcz11_1, hcz11_2, hcz11_3⟩ := cells4_ BK291.out; obtain ⟨hfz11_0, hfz11_1, hfz11_2, hfz11_3⟩ := frozen4_ BK291.out) | ((with_reducible refine gate_callee (f := 49) rfl ?_); refine goesL_ (some 8) rfl rfl Tryz.func49 (by kernel_rfl) rfl #[.string a0_0] rfl Zq13 ?_; (with_reducible refine (gongref06_Arcs.calls k a0_0 t292 t293 _ A2.out).mono ?_); rintro e w12 ⟨v294, rfl, ho0, hb⟩; refine ⟨_, rfl, ?_⟩; have HO295 := Aside0.mk (Kd.R_lower ho0 (below_size Zq22)); replace BK291 := Aside0.mk (blkb_ BK291.out Zq31 hb); replace HB := Aside0.mk (below_step Zq22 hb); (try clear hb); (try clear hb2); (try clear hk); (try clear hi); (try clear ho0)))
  go_ret
  exact ⟨Zy41, Zy23⟩
 rw [if_pos c3] at H
 have c3b0 : (t293 == 0) = true := beq_iff_eq.mpr c3
 have c3b1 : (t293 != 0) = false := bne_eq_false_iff_eq.mpr c3
 clear c3
 replace H := Option.bind_eq_some_iff.mp H
 obtain ⟨t296, A40, H⟩ := H
 replace H : (some (t296 == 0)) = some r := H
 have A4 := Aside0.mk A40
 clear A40
 obtain rfl := Option.some.inj H
 go_enter Tryz.func53, Tryz.ntmps53
 go_wp2_with (first | ((with_reducible refine gate_dst (N := 1) rfl ?_); refine box_event ?hg (N := 1) ?hd (cs := #[.string a0_0, .int .i64 a0_1, .int .i64 a0_2, .string a0_3]) (t := 30) ?hr ?_; (case hd => rfl); (case hg => rfl); (case hr => exact Zq2); intro gb291 hg w5 hbox hb; have BK291 := Aside0.mk (hbox); have GW291 := Aside0.mk ((by rw [hg]; exact (below_size Zq12) : w.heap.size ≤ gb291)); have GE291 := Aside0.mk ((by rw [hg]; exact (below_size Zq12) : w.heap.size ≤ gb291)); replace HB := Aside0.mk (below_step Zq12 hb); clear hb hbox hg; obtain ⟨hcz6_0, hcz6_1, hcz6_2, hcz6_3⟩ := cells4_ BK291.out; obtain ⟨hfz6_0, hfz6_1, hfz6_2, hfz6_3⟩ := frozen4_ BK291.out) | ((with_reducible refine gate_callee (f := 49) rfl ?_); refine goesL_ (some 8) rfl rfl Tryz.func49 (by kernel_rfl) rfl #[.string a0_0] rfl Zq13 ?_; (with_reducible refine (gongref06_Arcs.calls k a0_0 t292 t293 _ A2.out).mono ?_); rintro e w7 ⟨v294, rfl, ho0, hb⟩; refine ⟨_, rfl, ?_⟩; have HO295 := Aside0.mk (Kd.R_lower ho0 (below_size Zq22)); replace BK291 := Aside0.mk (blkb_ BK291.out Zq31 hb); replace HB := Aside0.mk (below_step Zq22 hb); (try clear hb); (try clear hb2); (try clear hk); (try clear hi); (try clear ho0); obtain ⟨hcz8_0, hcz8_1, hcz8_2, hcz8_3⟩ := cells4_ BK291.out; obtain ⟨hfz8_0, hfz8_1, hfz8_2, hfz8_3⟩ := frozen4_ BK291.out) | (go_at_call 78; (with_reducible refine (gongref07_Check.calls k a0_1 a0_2 a0_3 t296 _ A4.out).mono ?_); rintro e w9 ⟨rfl, hb⟩; replace HO295 := Aside0.mk (Kd.R_below (by (with_reducible repeat (first | apply Kd.R_alloc | apply Kd.R_drewN | apply Kd.R_drew)); exact HO295.out) hb); replace BK291 := Aside0.mk (blkb_ BK291.out Zq31 hb); replace HB := Aside0.mk (below_step Zq22 hb); (try clear hb); (try clear hb2); (try clear hk); (try clear hi)))
 go_ret
 exact ⟨Zy41, Zy23⟩
end Go.Proofs.YtfgdnnbhlnbojaaGreatDoor.XPdR
