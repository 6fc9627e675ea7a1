-- Laid by extprint.py (the session's own driver): functions told by the kit's printer and by hand.
import Derived.Test.YtfgdnnbhlnbojaaGreatDoorXPdRx0
import Derived.Test.YtfgdnnbhlnbojaaGreatDoorXPdRx3
namespace Go.Proofs.YtfgdnnbhlnbojaaGreatDoor.XPdR
open Go.RowKit Gong Go.Proofs.YtfgdnnbhlnbojaaGreatDoorW.PrintWords Go.Proofs.YtfgdnnbhlnbojaaGreatDoorW.PrintLast Go.Proofs.YtfgdnnbhlnbojaaGreatDoorW.PrintMore
attribute [local go_sem] max2_int min2_int max_two min_two max_three min_three max_four min_four   -- for this text's walks alone
set_option linter.unusedVariables false
set_option linter.unusedSimpArgs false
attribute [local go_sem high] eqA28
def value_right.f (k : Nat) (a0_0 : Int) (a0_1 : Int) (a0_2 : ByteArray) : Option (Bool) := (value_of.f a0_0).bind fun t117 => (if t117 = 1 then (if a0_2.toList = ([] : List UInt8) then (if a0_1 ≥ (-2147483648) then (some (decide (a0_1 ≤ 2147483647))) else (some false)) else (some false)) else (if t117 = 2 then (if a0_2.toList = ([] : List UInt8) then (if a0_0 = 70 then (some true) else (if a0_1 ≥ 0 then (some (decide (a0_1 ≤ 4294967295))) else (some false))) else (some false)) else (if t117 = 3 then (if a0_1 = 0 then ((value_long.f a0_0 (a0_2.size : Int)).bind fun t118 => (some t118)) else (some false)) else (if t117 = 4 then ((oid_Arcs.f k a0_2).bind fun bt119 => (if a0_1 = 0 then (some (bt119.2 == 0)) else (some false))) else (if t117 = 5 then (some (a0_1 == 0 && (a0_2.toList == ([] : List UInt8)))) else (some false))))))
theorem value_right.mono : ∀ a0 a1 a2 k, LeO (value_right.f k a0 a1 a2) (value_right.f (k + 1) a0 a1 a2) := by
 intro a0 a1 a2 k
 unfold value_right.f
 repeat' first
   | (with_reducible exact oid_Arcs.mono _ _)
   | (with_reducible exact LeO.refl _)
   | (with_reducible exact LeO.none _)
   | (with_reducible refine LeO.ite ?_ ?_)
   | (with_reducible refine LeO.bind ?_ (fun _ => ?_))
   | exact oid_Arcs.mono _ _
   | exact LeO.none _
   | refine LeO.ite ?_ ?_
   | refine LeO.bind ?_ (fun _ => ?_)
set_option maxHeartbeats 8000000 in
set_option maxRecDepth 100000 in
theorem value_right.calls (k : Nat) (a0_0 : Int) (a0_1 : Int) (a0_2 : ByteArray) (r : Bool) (w : World) (hG : Gl w) (h : value_right.f k a0_0 a0_1 a0_2 = some r) :
  Calls Tryz.prog 63 #[.agg #[.int .i64 a0_0, .int .i64 a0_1, .string a0_2]] w fun e w' => e = .returned (.bool r) ∧ Below w.heap.size w w' := by
 have HGl := Aside0.mk hG
 clear hG
 have hu28 := Tryz.underlying28
 have HB := Aside0.mk (Below.refl w.heap.size w)
 have H : ((value_of.f a0_0).bind fun t117 => (if t117 = 1 then (if a0_2.toList = ([] : List UInt8) then (if a0_1 ≥ (-2147483648) then (some (decide (a0_1 ≤ 2147483647))) else (some false)) else (some false)) else (if t117 = 2 then (if a0_2.toList = ([] : List UInt8) then (if a0_0 = 70 then (some true) else (if a0_1 ≥ 0 then (some (decide (a0_1 ≤ 4294967295))) else (some false))) else (some false)) else (if t117 = 3 then (if a0_1 = 0 then ((value_long.f a0_0 (a0_2.size : Int)).bind fun t118 => (some t118)) else (some false)) else (if t117 = 4 then ((oid_Arcs.f k a0_2).bind fun bt119 => (if a0_1 = 0 then (some (bt119.2 == 0)) else (some false))) else (if t117 = 5 then (some (a0_1 == 0 && (a0_2.toList == ([] : List UInt8)))) else (some false))))))) = some r := h
 clear h
 replace H := Option.bind_eq_some_iff.mp H
 obtain ⟨t117, A20, H⟩ := H
 replace H : (if t117 = 1 then (if a0_2.toList = ([] : List UInt8) then (if a0_1 ≥ (-2147483648) then (some (decide (a0_1 ≤ 2147483647))) else (some false)) else (some false)) else (if t117 = 2 then (if a0_2.toList = ([] : List UInt8) then (if a0_0 = 70 then (some true) else (if a0_1 ≥ 0 then (some (decide (a0_1 ≤ 4294967295))) else (some false))) else (some false)) else (if t117 = 3 then (if a0_1 = 0 then ((value_long.f a0_0 (a0_2.size : Int)).bind fun t118 => (some t118)) else (some false)) else (if t117 = 4 then ((oid_Arcs.f k a0_2).bind fun bt119 => (if a0_1 = 0 then (some (bt119.2 == 0)) else (some false))) else (if t117 = 5 then (some (a0_1 == 0 && (a0_2.toList == ([] : List UInt8)))) else (some false)))))) = some r := H
 have A2 := Aside0.mk A20
 clear A20
 by_cases c3 : t117 = 1
 ·rw [if_pos c3] at H
  have c3b0 : (t117 == 1) = true := beq_iff_eq.mpr c3
  have c3b1 : (t117 != 1) = false := bne_eq_false_iff_eq.mpr c3
  clear c3
  by_cases c4 : a0_2.toList = ([] : List UInt8)
  rotate_left
  ·rw [if_neg c4] at H
   have c4b0 : (a0_2.toList == ([] : List UInt8)) = false := beq_eq_false_iff_ne.mpr c4
   have c4b1 : (a0_2.toList != ([] : List UInt8)) = true := bne_iff_ne.mpr c4
   obtain rfl := Option.some.inj H
   go_enter Tryz.func63, Tryz.ntmps63
   go_wp2_with (first | ((with_reducible refine gate_dst (N := 1) rfl ?_); (try (refine gate_guard (by rfl) ?_; dsimp only)); refine box_event ?hg (N := 1) ?hd (cs := #[.int .i64 a0_0, .int .i64 a0_1, .string a0_2]) (t := 28) ?hr ?_; (case hd => rfl); (case hg => rfl); (case hr => exact Zq2); intro gb116 hg w10 hbox hb; have BK116 := Aside0.mk (hbox); have GW116 := Aside0.mk ((Zq50 : w.heap.size ≤ gb116)); have GE116 := Aside0.mk ((Zq50 : w.heap.size ≤ gb116)); replace HB := Aside0.mk (below_step Zq12 hb); clear hb hbox hg; obtain ⟨hcz11_0, hcz11_1, hcz11_2⟩ := cells3_ BK116.out; obtain ⟨hfz11_0, hfz11_1, hfz11_2⟩ := frozen3_ BK116.out) | ((with_reducible refine gate_callee (f := 64) rfl ?_); refine goesL_ (some 7) rfl rfl Tryz.func64 (by kernel_rfl) rfl #[.int .i64 a0_0] rfl Zq13 ?_; (with_reducible refine (value_of.calls a0_0 t117 _ A2.out).mono ?_); rintro e w' ⟨rfl, ⟨nd, rfl⟩⟩; refine ⟨_, rfl, ?_⟩))
   go_ret
   exact ⟨Zy41, Zy27⟩
  rw [if_pos c4] at H
  have c4b0 : (a0_2.toList == ([] : List UInt8)) = true := beq_iff_eq.mpr c4
  have c4b1 : (a0_2.toList != ([] : List UInt8)) = false := bne_eq_false_iff_eq.mpr c4
  clear c4
  by_cases c5 : a0_1 ≥ (-2147483648)
  ·rw [if_pos c5] at H
   have c5b0 : decide ((-2147483648) ≤ a0_1) = true := decide_eq_true c5
   clear c5
   obtain rfl := Option.some.inj H
   go_enter Tryz.func63, Tryz.ntmps63
   go_wp2_with (first | ((with_reducible refine gate_dst (N := 1) rfl ?_); (try (refine gate_guard (by rfl) ?_; dsimp only)); refine box_event ?hg (N := 1) ?hd (cs := #[.int .i64 a0_0, .int .i64 a0_1, .string a0_2]) (t := 28) ?hr ?_; (case hd => rfl); (case hg => rfl); (case hr => exact Zq2); intro gb116 hg w6 hbox hb; have BK116 := Aside0.mk (hbox); have GW116 := Aside0.mk ((Zq50 : w.heap.size ≤ gb116)); have GE116 := Aside0.mk ((Zq50 : w.heap.size ≤ gb116)); replace HB := Aside0.mk (below_step Zq12 hb); clear hb hbox hg; obtain ⟨hcz7_0, hcz7_1, hcz7_2⟩ := cells3_ BK116.out; obtain ⟨hfz7_0, hfz7_1, hfz7_2⟩ := frozen3_ BK116.out) | ((with_reducible refine gate_callee (f := 64) rfl ?_); refine goesL_ (some 7) rfl rfl Tryz.func64 (by kernel_rfl) rfl #[.int .i64 a0_0] rfl Zq13 ?_; (with_reducible refine (value_of.calls a0_0 t117 _ A2.out).mono ?_); rintro e w' ⟨rfl, ⟨nd, rfl⟩⟩; refine ⟨_, rfl, ?_⟩))
   go_ret
   exact ⟨Zy41, Zy27⟩
  rw [if_neg c5] at H
  have c5b0 : decide ((-2147483648) ≤ a0_1) = false := decide_eq_false c5
  clear c5
  obtain rfl := Option.some.inj H
  go_enter Tryz.func63, Tryz.ntmps63
  go_wp2_with (first | ((with_reducible refine gate_dst (N := 1) rfl ?_); (try (refine gate_guard (by rfl) ?_; dsimp only)); refine box_event ?hg (N := 1) ?hd (cs := #[.int .i64 a0_0, .int .i64 a0_1, .string a0_2]) (t := 28) ?hr ?_; (case hd => rfl); (case hg => rfl); (case hr => exact Zq2); intro gb116 hg w8 hbox hb; have BK116 := Aside0.mk (hbox); have GW116 := Aside0.mk ((Zq50 : w.heap.size ≤ gb116)); have GE116 := Aside0.mk ((Zq50 : w.heap.size ≤ gb116)); replace HB := Aside0.mk (below_step Zq12 hb); clear hb hbox hg; obtain ⟨hcz9_0, hcz9_1, hcz9_2⟩ := cells3_ BK116.out; obtain ⟨hfz9_0, hfz9_1, hfz9_2⟩ := frozen3_ BK116.out) | ((with_reducible refine gate_callee (f := 64) rfl ?_); refine goesL_ (some 7) rfl rfl Tryz.func64 (by kernel_rfl) rfl #[.int .i64 a0_0] rfl Zq13 ?_; (with_reducible refine (value_of.calls a0_0 t117 _ A2.out).mono ?_); rintro e w' ⟨rfl, ⟨nd, rfl⟩⟩; refine ⟨_, rfl, ?_⟩))
  go_ret
  exact ⟨Zy41, Zy27⟩
 rw [if_neg c3] at H
 have c3b0 : (t117 == 1) = false := beq_eq_false_iff_ne.mpr c3
 have c3b1 : (t117 != 1) = true := bne_iff_ne.mpr c3
 by_cases c12 : t117 = 2
 ·rw [if_pos c12] at H
  have c12b0 : (t117 == 2) = true := beq_iff_eq.mpr c12
  have c12b1 : (t117 != 2) = false := bne_eq_false_iff_eq.mpr c12
  clear c12
  by_cases c13 : a0_2.toList = ([] : List UInt8)
  rotate_left
  ·rw [if_neg c13] at H
   have c13b0 : (a0_2.toList == ([] : List UInt8)) = false := beq_eq_false_iff_ne.mpr c13
   have c13b1 : (a0_2.toList != ([] : List UInt8)) = true := bne_iff_ne.mpr c13
   obtain rfl := Option.some.inj H
   go_enter Tryz.func63, Tryz.ntmps63
   go_wp2_with (first | ((with_reducible refine gate_dst (N := 1) rfl ?_); (try (refine gate_guard (by rfl) ?_; dsimp only)); refine box_event ?hg (N := 1) ?hd (cs := #[.int .i64 a0_0, .int .i64 a0_1, .string a0_2]) (t := 28) ?hr ?_; (case hd => rfl); (case hg => rfl); (case hr => exact Zq2); intro gb116 hg w22 hbox hb; have BK116 := Aside0.mk (hbox); have GW116 := Aside0.mk ((Zq50 : w.heap.size ≤ gb116)); have GE116 := Aside0.mk ((Zq50 : w.heap.size ≤ gb116)); replace HB := Aside0.mk (below_step Zq12 hb); clear hb hbox hg; obtain ⟨hcz23_0, hcz23_1, hcz23_2⟩ := cells3_ BK116.out; obtain ⟨hfz23_0, hfz23_1, hfz23_2⟩ := frozen3_ BK116.out) | ((with_reducible refine gate_callee (f := 64) rfl ?_); refine goesL_ (some 7) rfl rfl Tryz.func64 (by kernel_rfl) rfl #[.int .i64 a0_0] rfl Zq13 ?_; (with_reducible refine (value_of.calls a0_0 t117 _ A2.out).mono ?_); rintro e w' ⟨rfl, ⟨nd, rfl⟩⟩; refine ⟨_, rfl, ?_⟩))
   go_ret
   exact ⟨Zy41, Zy27⟩
  rw [if_pos c13] at H
  have c13b0 : (a0_2.toList == ([] : List UInt8)) = true := beq_iff_eq.mpr c13
  have c13b1 : (a0_2.toList != ([] : List UInt8)) = false := bne_eq_false_iff_eq.mpr c13
  clear c13
  by_cases c14 : a0_0 = 70
  ·rw [if_pos c14] at H
   have c14b0 : (a0_0 == 70) = true := beq_iff_eq.mpr c14
   have c14b1 : (a0_0 != 70) = false := bne_eq_false_iff_eq.mpr c14
   clear c14
   obtain rfl := Option.some.inj H
   go_enter Tryz.func63, Tryz.ntmps63
   go_wp2_with (first | ((with_reducible refine gate_dst (N := 1) rfl ?_); (try (refine gate_guard (by rfl) ?_; dsimp only)); refine box_event ?hg (N := 1) ?hd (cs := #[.int .i64 a0_0, .int .i64 a0_1, .string a0_2]) (t := 28) ?hr ?_; (case hd => rfl); (case hg => rfl); (case hr => exact Zq2); intro gb116 hg w15 hbox hb; have BK116 := Aside0.mk (hbox); have GW116 := Aside0.mk ((Zq50 : w.heap.size ≤ gb116)); have GE116 := Aside0.mk ((Zq50 : w.heap.size ≤ gb116)); replace HB := Aside0.mk (below_step Zq12 hb); clear hb hbox hg; obtain ⟨hcz16_0, hcz16_1, hcz16_2⟩ := cells3_ BK116.out; obtain ⟨hfz16_0, hfz16_1, hfz16_2⟩ := frozen3_ BK116.out) | ((with_reducible refine gate_callee (f := 64) rfl ?_); refine goesL_ (some 7) rfl rfl Tryz.func64 (by kernel_rfl) rfl #[.int .i64 a0_0] rfl Zq13 ?_; (with_reducible refine (value_of.calls a0_0 t117 _ A2.out).mono ?_); rintro e w' ⟨rfl, ⟨nd, rfl⟩⟩; refine ⟨_, rfl, ?_⟩))
   go_ret
   exact ⟨Zy41, Zy27⟩
  rw [if_neg c14] at H
  have c14b0 : (a0_0 == 70) = false := beq_eq_false_iff_ne.mpr c14
  have c14b1 : (a0_0 != 70) = true := bne_iff_ne.mpr c14
  by_cases c17 : a0_1 ≥ 0
  ·rw [if_pos c17] at H
   have c17b0 : decide (0 ≤ a0_1) = true := decide_eq_true c17
   clear c17
   obtain rfl := Option.some.inj H
   go_enter Tryz.func63, Tryz.ntmps63
   go_wp2_with (first | ((with_reducible refine gate_dst (N := 1) rfl ?_); (try (refine gate_guard (by rfl) ?_; dsimp only)); refine box_event ?hg (N := 1) ?hd (cs := #[.int .i64 a0_0, .int .i64 a0_1, .string a0_2]) (t := 28) ?hr ?_; (case hd => rfl); (case hg => rfl); (case hr => exact Zq2); intro gb116 hg w18 hbox hb; have BK116 := Aside0.mk (hbox); have GW116 := Aside0.mk ((Zq50 : w.heap.size ≤ gb116)); have GE116 := Aside0.mk ((Zq50 : w.heap.size ≤ gb116)); replace HB := Aside0.mk (below_step Zq12 hb); clear hb hbox hg; obtain ⟨hcz19_0, hcz19_1, hcz19_2⟩ := cells3_ BK116.out; obtain ⟨hfz19_0, hfz19_1, hfz19_2⟩ := frozen3_ BK116.out) | ((with_reducible refine gate_callee (f := 64) rfl ?_); refine goesL_ (some 7) rfl rfl Tryz.func64 (by kernel_rfl) rfl #[.int .i64 a0_0] rfl Zq13 ?_; (with_reducible refine (value_of.calls a0_0 t117 _ A2.out).mono ?_); rintro e w' ⟨rfl, ⟨nd, rfl⟩⟩; refine ⟨_, rfl, ?_⟩))
   go_ret
   exact ⟨Zy41, Zy27⟩
  rw [if_neg c17] at H
  have c17b0 : decide (0 ≤ a0_1) = false := decide_eq_false c17
  clear c17
  obtain rfl := Option.some.inj H
  go_enter Tryz.func63, Tryz.ntmps63
  go_wp2_with (first | ((with_reducible refine gate_dst (N := 1) rfl ?_); (try (refine gate_guard (by rfl) ?_; dsimp only)); refine box_event ?hg (N := 1) ?hd (cs := #[.int .i64 a0_0, .int .i64 a0_1, .string a0_2]) (t := 28) ?hr ?_; (case hd => rfl); (case hg => rfl); (case hr => exact Zq2); intro gb116 hg w20 hbox hb; have BK116 := Aside0.mk (hbox); have GW116 := Aside0.mk ((Zq50 : w.heap.size ≤ gb116)); have GE116 := Aside0.mk ((Zq50 : w.heap.size ≤ gb116)); replace HB := Aside0.mk (below_step Zq12 hb); clear hb hbox hg; obtain ⟨hcz21_0, hcz21_1, hcz21_2⟩ := cells3_ BK116.out; obtain ⟨hfz21_0, hfz21_1, hfz21_2⟩ := frozen3_ BK116.out) | ((with_reducible refine gate_callee (f := 64) rfl ?_); refine goesL_ (some 7) rfl rfl Tryz.func64 (by kernel_rfl) rfl #[.int .i64 a0_0] rfl Zq13 ?_; (with_reducible refine (value_of.calls a0_0 t117 _ A2.out).mono ?_); rintro e w' ⟨rfl, ⟨nd, rfl⟩⟩; refine ⟨_, rfl, ?_⟩))
  go_ret
  exact ⟨Zy41, Zy27⟩
 rw [if_neg c12] at H
 have c12b0 : (t117 == 2) = false := beq_eq_false_iff_ne.mpr c12
 have c12b1 : (t117 != 2) = true := bne_iff_ne.mpr c12
 by_cases c24 : t117 = 3
 ·rw [if_pos c24] at H
  have c24b0 : (t117 == 3) = true := beq_iff_eq.mpr c24
  have c24b1 : (t117 != 3) = false := bne_eq_false_iff_eq.mpr c24
  clear c24
  by_cases c25 : a0_1 = 0
  rotate_left
  ·rw [if_neg c25] at H
   have c25b0 : (a0_1 == 0) = false := beq_eq_false_iff_ne.mpr c25
   have c25b1 : (a0_1 != 0) = true := bne_iff_ne.mpr c25
   obtain rfl := Option.some.inj H
   go_enter Tryz.func63, Tryz.ntmps63
   go_wp2_with (first | ((with_reducible refine gate_dst (N := 1) rfl ?_); (try (refine gate_guard (by rfl) ?_; dsimp only)); refine box_event ?hg (N := 1) ?hd (cs := #[.int .i64 a0_0, .int .i64 a0_1, .string a0_2]) (t := 28) ?hr ?_; (case hd => rfl); (case hg => rfl); (case hr => exact Zq2); intro gb116 hg w29 hbox hb; have BK116 := Aside0.mk (hbox); have GW116 := Aside0.mk ((Zq50 : w.heap.size ≤ gb116)); have GE116 := Aside0.mk ((Zq50 : w.heap.size ≤ gb116)); replace HB := Aside0.mk (below_step Zq12 hb); clear hb hbox hg; obtain ⟨hcz30_0, hcz30_1, hcz30_2⟩ := cells3_ BK116.out; obtain ⟨hfz30_0, hfz30_1, hfz30_2⟩ := frozen3_ BK116.out) | ((with_reducible refine gate_callee (f := 64) rfl ?_); refine goesL_ (some 7) rfl rfl Tryz.func64 (by kernel_rfl) rfl #[.int .i64 a0_0] rfl Zq13 ?_; (with_reducible refine (value_of.calls a0_0 t117 _ A2.out).mono ?_); rintro e w' ⟨rfl, ⟨nd, rfl⟩⟩; refine ⟨_, rfl, ?_⟩))
   go_ret
   exact ⟨Zy41, Zy27⟩
  rw [if_pos c25] at H
  have c25b0 : (a0_1 == 0) = true := beq_iff_eq.mpr c25
  have c25b1 : (a0_1 != 0) = false := bne_eq_false_iff_eq.mpr c25
  clear c25
  replace H := Option.bind_eq_some_iff.mp H
  obtain ⟨t118, A260, H⟩ := H
  replace H : (some t118) = some r := H
  have A26 := Aside0.mk A260
  clear A260
  obtain rfl := Option.some.inj H
  go_enter Tryz.func63, Tryz.ntmps63
  go_wp2_with (first | ((with_reducible refine gate_dst (N := 1) rfl ?_); (try (refine gate_guard (by rfl) ?_; dsimp only)); refine box_event ?hg (N := 1) ?hd (cs := #[.int .i64 a0_0, .int .i64 a0_1, .string a0_2]) (t := 28) ?hr ?_; (case hd => rfl); (case hg => rfl); (case hr => exact Zq2); intro gb116 hg w27 hbox hb; have BK116 := Aside0.mk (hbox); have GW116 := Aside0.mk ((Zq50 : w.heap.size ≤ gb116)); have GE116 := Aside0.mk ((Zq50 : w.heap.size ≤ gb116)); replace HB := Aside0.mk (below_step Zq12 hb); clear hb hbox hg; obtain ⟨hcz28_0, hcz28_1, hcz28_2⟩ := cells3_ BK116.out; obtain ⟨hfz28_0, hfz28_1, hfz28_2⟩ := frozen3_ BK116.out) | ((with_reducible refine gate_callee (f := 64) rfl ?_); refine goesL_ (some 7) rfl rfl Tryz.func64 (by kernel_rfl) rfl #[.int .i64 a0_0] rfl Zq13 ?_; (with_reducible refine (value_of.calls a0_0 t117 _ A2.out).mono ?_); rintro e w' ⟨rfl, ⟨nd, rfl⟩⟩; refine ⟨_, rfl, ?_⟩) | (go_at_call 91; (with_reducible refine (value_long.calls a0_0 (a0_2.size : Int) t118 _ A26.out).mono ?_); rintro e w' ⟨rfl, ⟨nd, rfl⟩⟩))
  go_ret
  exact ⟨Zy41, Zy27⟩
 rw [if_neg c24] at H
 have c24b0 : (t117 == 3) = false := beq_eq_false_iff_ne.mpr c24
 have c24b1 : (t117 != 3) = true := bne_iff_ne.mpr c24
 by_cases c31 : t117 = 4
 rotate_left
 ·rw [if_neg c31] at H
  have c31b0 : (t117 == 4) = false := beq_eq_false_iff_ne.mpr c31
  have c31b1 : (t117 != 4) = true := bne_iff_ne.mpr c31
  by_cases c42 : t117 = 5
  rotate_left
  ·rw [if_neg c42] at H
   have c42b0 : (t117 == 5) = false := beq_eq_false_iff_ne.mpr c42
   have c42b1 : (t117 != 5) = true := bne_iff_ne.mpr c42
   obtain rfl := Option.some.inj H
   go_enter Tryz.func63, Tryz.ntmps63
   go_wp2_with (first | ((with_reducible refine gate_dst (N := 1) rfl ?_); (try (refine gate_guard (by rfl) ?_; dsimp only)); refine box_event ?hg (N := 1) ?hd (cs := #[.int .i64 a0_0, .int .i64 a0_1, .string a0_2]) (t := 28) ?hr ?_; (case hd => rfl); (case hg => rfl); (case hr => exact Zq2); intro gb116 hg w45 hbox hb; have BK116 := Aside0.mk (hbox); have GW116 := Aside0.mk ((Zq50 : w.heap.size ≤ gb116)); have GE116 := Aside0.mk ((Zq50 : w.heap.size ≤ gb116)); replace HB := Aside0.mk (below_step Zq12 hb); clear hb hbox hg; obtain ⟨hcz46_0, hcz46_1, hcz46_2⟩ := cells3_ BK116.out; obtain ⟨hfz46_0, hfz46_1, hfz46_2⟩ := frozen3_ BK116.out) | ((with_reducible refine gate_callee (f := 64) rfl ?_); refine goesL_ (some 7) rfl rfl Tryz.func64 (by kernel_rfl) rfl #[.int .i64 a0_0] rfl Zq13 ?_; (with_reducible refine (value_of.calls a0_0 t117 _ A2.out).mono ?_); rintro e w' ⟨rfl, ⟨nd, rfl⟩⟩; refine ⟨_, rfl, ?_⟩))
   go_ret
   exact ⟨Zy41, Zy27⟩
  rw [if_pos c42] at H
  have c42b0 : (t117 == 5) = true := beq_iff_eq.mpr c42
  have c42b1 : (t117 != 5) = false := bne_eq_false_iff_eq.mpr c42
  clear c42
  obtain rfl := Option.some.inj H
  go_enter Tryz.func63, Tryz.ntmps63
  go_wp2_with (first | ((with_reducible refine gate_dst (N := 1) rfl ?_); (try (refine gate_guard (by rfl) ?_; dsimp only)); refine box_event ?hg (N := 1) ?hd (cs := #[.int .i64 a0_0, .int .i64 a0_1, .string a0_2]) (t := 28) ?hr ?_; (case hd => rfl); (case hg => rfl); (case hr => exact Zq2); intro gb116 hg w43 hbox hb; have BK116 := Aside0.mk (hbox); have GW116 := Aside0.mk ((Zq50 : w.heap.size ≤ gb116)); have GE116 := Aside0.mk ((Zq50 : w.heap.size ≤ gb116)); replace HB := Aside0.mk (below_step Zq12 hb); clear hb hbox hg; obtain ⟨hcz44_0, hcz44_1, hcz44_2⟩ := cells3_ BK116.out; obtain ⟨hfz44_0, hfz44_1, hfz44_2⟩ := frozen3_ BK116.out) | ((with_reducible refine gate_callee (f := 64) rfl ?_); refine goesL_ (some 7) rfl rfl Tryz.func64 (by kernel_rfl) rfl #[.int .i64 a0_0] rfl Zq13 ?_; (with_reducible refine (value_of.calls a0_0 t117 _ A2.out).mono ?_); rintro e w' ⟨rfl, ⟨nd, rfl⟩⟩; refine ⟨_, rfl, ?_⟩))
  go_ret
  exact ⟨Zy41, Zy27⟩
 rw [if_pos c31] at H
 have c31b0 : (t117 == 4) = true := beq_iff_eq.mpr c31
 have c31b1 : (t117 != 4) = false := bne_eq_false_iff_eq.mpr c31
 clear c31
 replace H := Option.bind_eq_some_iff.mp H
 obtain ⟨⟨t119, t120⟩, A320, H⟩ := H
 replace H : (if a0_1 = 0 then (some (t120 == 0)) else (some false)) = some r := H
 have A32 := Aside0.mk A320
 clear A320
 by_cases c33 : a0_1 = 0
 rotate_left
 ·rw [if_neg c33] at H
  have c33b0 : (a0_1 == 0) = false := beq_eq_false_iff_ne.mpr c33
  have c33b1 : (a0_1 != 0) = true := bne_iff_ne.mpr c33
  obtain rfl := Option.some.inj H
  go_enter Tryz.func63, Tryz.ntmps63
  go_wp2_with (first | ((with_reducible refine gate_dst (N := 1) rfl ?_); (try (refine gate_guard (by rfl) ?_; dsimp only)); refine box_event ?hg (N := 1) ?hd (cs := #[.int .i64 a0_0, .int .i64 a0_1, .string a0_2]) (t := 28) ?hr ?_; (case hd => rfl); (case hg => rfl); (case hr => exact Zq2); intro gb116 hg w38 hbox hb; have BK116 := Aside0.mk (hbox); have GW116 := Aside0.mk ((Zq50 : w.heap.size ≤ gb116)); have GE116 := Aside0.mk ((Zq50 : w.heap.size ≤ gb116)); replace HB := Aside0.mk (below_step Zq12 hb); clear hb hbox hg; obtain ⟨hcz39_0, hcz39_1, hcz39_2⟩ := cells3_ BK116.out; obtain ⟨hfz39_0, hfz39_1, hfz39_2⟩ := frozen3_ BK116.out) | ((with_reducible refine gate_callee (f := 64) rfl ?_); refine goesL_ (some 7) rfl rfl Tryz.func64 (by kernel_rfl) rfl #[.int .i64 a0_0] rfl Zq13 ?_; (with_reducible refine (value_of.calls a0_0 t117 _ A2.out).mono ?_); rintro e w' ⟨rfl, ⟨nd, rfl⟩⟩; refine ⟨_, rfl, ?_⟩) | ((with_reducible refine gate_callee (f := 51) rfl ?_); refine goesL_ (some 61) rfl rfl Tryz.func51 (by kernel_rfl) rfl #[.string a0_2] rfl Zq13 ?_; (with_reducible refine (oid_Arcs.calls k a0_2 t119 t120 _ ?side1 A32.out).mono ?_); (case side1 => exact Zq56); rintro e w40 ⟨v121, rfl, ho0, hb⟩; refine ⟨_, rfl, ?_⟩; have HO122 := Aside0.mk (Kd.R_lower ho0 (below_size Zq15)); replace BK116 := Aside0.mk (blkb_ BK116.out Zq31 hb); replace HB := Aside0.mk (below_step Zq15 hb); (try clear hb); (try clear hb2); (try clear hk); (try clear hi); (try clear ho0); obtain ⟨hcz41_0, hcz41_1, hcz41_2⟩ := cells3_ BK116.out; obtain ⟨hfz41_0, hfz41_1, hfz41_2⟩ := frozen3_ BK116.out))
  go_ret
  exact ⟨Zy41, Zy27⟩
 rw [if_pos c33] at H
 have c33b0 : (a0_1 == 0) = true := beq_iff_eq.mpr c33
 have c33b1 : (a0_1 != 0) = false := bne_eq_false_iff_eq.mpr c33
 clear c33
 obtain rfl := Option.some.inj H
 go_enter Tryz.func63, Tryz.ntmps63
 go_wp2_with (first | ((with_reducible refine gate_dst (N := 1) rfl ?_); (try (refine gate_guard (by rfl) ?_; dsimp only)); refine box_event ?hg (N := 1) ?hd (cs := #[.int .i64 a0_0, .int .i64 a0_1, .string a0_2]) (t := 28) ?hr ?_; (case hd => rfl); (case hg => rfl); (case hr => exact Zq2); intro gb116 hg w34 hbox hb; have BK116 := Aside0.mk (hbox); have GW116 := Aside0.mk ((Zq50 : w.heap.size ≤ gb116)); have GE116 := Aside0.mk ((Zq50 : w.heap.size ≤ gb116)); replace HB := Aside0.mk (below_step Zq12 hb); clear hb hbox hg; obtain ⟨hcz35_0, hcz35_1, hcz35_2⟩ := cells3_ BK116.out; obtain ⟨hfz35_0, hfz35_1, hfz35_2⟩ := frozen3_ BK116.out) | ((with_reducible refine gate_callee (f := 64) rfl ?_); refine goesL_ (some 7) rfl rfl Tryz.func64 (by kernel_rfl) rfl #[.int .i64 a0_0] rfl Zq13 ?_; (with_reducible refine (value_of.calls a0_0 t117 _ A2.out).mono ?_); rintro e w' ⟨rfl, ⟨nd, rfl⟩⟩; refine ⟨_, rfl, ?_⟩) | ((with_reducible refine gate_callee (f := 51) rfl ?_); refine goesL_ (some 61) rfl rfl Tryz.func51 (by kernel_rfl) rfl #[.string a0_2] rfl Zq13 ?_; (with_reducible refine (oid_Arcs.calls k a0_2 t119 t120 _ ?side1 A32.out).mono ?_); (case side1 => exact Zq56); rintro e w36 ⟨v121, rfl, ho0, hb⟩; refine ⟨_, rfl, ?_⟩; have HO122 := Aside0.mk (Kd.R_lower ho0 (below_size Zq15)); replace BK116 := Aside0.mk (blkb_ BK116.out Zq31 hb); replace HB := Aside0.mk (below_step Zq15 hb); (try clear hb); (try clear hb2); (try clear hk); (try clear hi); (try clear ho0); obtain ⟨hcz37_0, hcz37_1, hcz37_2⟩ := cells3_ BK116.out; obtain ⟨hfz37_0, hfz37_1, hfz37_2⟩ := frozen3_ BK116.out))
 go_ret
 exact ⟨Zy41, Zy27⟩
def value_Check.f (k : Nat) (a0_0 : Int) (a0_1 : Int) (a0_2 : ByteArray) : Option (Int) := (value_right.f k a0_0 a0_1 a0_2).bind fun t124 => (if t124 = true then (some 0) else (some 70))
set_option maxHeartbeats 8000000 in
set_option maxRecDepth 100000 in
theorem value_Check.calls (k : Nat) (a0_0 : Int) (a0_1 : Int) (a0_2 : ByteArray) (r : Int) (w : World) (hG : Gl w) (h : value_Check.f k a0_0 a0_1 a0_2 = some r) :
  Calls Tryz.prog 52 #[.agg #[.int .i64 a0_0, .int .i64 a0_1, .string a0_2]] w fun e w' => e = .returned (.int .i64 r) ∧ Below w.heap.size w w' := by
 have HGl := Aside0.mk hG
 clear hG
 have hu28 := Tryz.underlying28
 have HB := Aside0.mk (Below.refl w.heap.size w)
 have H : ((value_right.f k a0_0 a0_1 a0_2).bind fun t124 => (if t124 = true then (some 0) else (some 70))) = some r := h
 clear h
 replace H := Option.bind_eq_some_iff.mp H
 obtain ⟨t124, A20, H⟩ := H
 replace H : (if t124 = true then (some 0) else (some 70)) = some r := H
 have A2 := Aside0.mk A20
 clear A20
 by_cases c3 : t124 = true
 ·subst c3
  have H1 : (some 0) = some r := by rw [if_pos rfl] at H; exact H
  clear H
  have H := H1
  clear H1
  obtain rfl := Option.some.inj H
  go_enter Tryz.func52, Tryz.ntmps52
  go_wp2_with (first | ((with_reducible refine gate_dst (N := 1) rfl ?_); refine box_event ?hg (N := 1) ?hd (cs := #[.int .i64 a0_0, .int .i64 a0_1, .string a0_2]) (t := 28) ?hr ?_; (case hd => rfl); (case hg => rfl); (case hr => exact Zq2); intro gb123 hg w4 hbox hb; have BK123 := Aside0.mk (hbox); have GW123 := Aside0.mk ((by rw [hg]; exact (below_size Zq12) : w.heap.size ≤ gb123)); have GE123 := Aside0.mk ((by rw [hg]; exact (below_size Zq12) : w.heap.size ≤ gb123)); replace HB := Aside0.mk (below_step Zq12 hb); clear hb hbox hg; obtain ⟨hcz5_0, hcz5_1, hcz5_2⟩ := cells3_ BK123.out; obtain ⟨hfz5_0, hfz5_1, hfz5_2⟩ := frozen3_ BK123.out) | ((with_reducible refine gate_callee (f := 63) rfl ?_); refine goesL_ (some 4) rfl rfl Tryz.func63 (by kernel_rfl) rfl #[.agg #[.int .i64 a0_0, .int .i64 a0_1, .string a0_2]] rfl Zq13 ?_; (with_reducible refine (value_right.calls k a0_0 a0_1 a0_2 true _ ?side1 A2.out).mono ?_); (case side1 => exact Zq56); rintro e w6 ⟨rfl, hb⟩; refine ⟨_, rfl, ?_⟩; replace BK123 := Aside0.mk (blkb_ BK123.out Zq31 hb); replace HB := Aside0.mk (below_step Zy28 hb); (try clear hb); (try clear hb2); (try clear hk); (try clear hi)))
  go_ret
  exact ⟨Zy41, Zy28⟩
 replace c3 := Bool.eq_false_iff.mpr c3
 subst c3
 have H1 : (some 70) = some r := by rw [if_neg (show ¬ (false = true) by decide)] at H; exact H
 clear H
 have H := H1
 clear H1
 obtain rfl := Option.some.inj H
 go_enter Tryz.func52, Tryz.ntmps52
 go_wp2_with (first | ((with_reducible refine gate_dst (N := 1) rfl ?_); refine box_event ?hg (N := 1) ?hd (cs := #[.int .i64 a0_0, .int .i64 a0_1, .string a0_2]) (t := 28) ?hr ?_; (case hd => rfl); (case hg => rfl); (case hr => exact Zq2); intro gb123 hg w7 hbox hb; have BK123 := Aside0.mk (hbox); have GW123 := Aside0.mk ((by rw [hg]; exact (below_size Zq12) : w.heap.size ≤ gb123)); have GE123 := Aside0.mk ((by rw [hg]; exact (below_size Zq12) : w.heap.size ≤ gb123)); replace HB := Aside0.mk (below_step Zq12 hb); clear hb hbox hg; obtain ⟨hcz8_0, hcz8_1, hcz8_2⟩ := cells3_ BK123.out; obtain ⟨hfz8_0, hfz8_1, hfz8_2⟩ := frozen3_ BK123.out) | ((with_reducible refine gate_callee (f := 63) rfl ?_); refine goesL_ (some 4) rfl rfl Tryz.func63 (by kernel_rfl) rfl #[.agg #[.int .i64 a0_0, .int .i64 a0_1, .string a0_2]] rfl Zq13 ?_; (with_reducible refine (value_right.calls k a0_0 a0_1 a0_2 false _ ?side1 A2.out).mono ?_); (case side1 => exact Zq56); rintro e w9 ⟨rfl, hb⟩; refine ⟨_, rfl, ?_⟩; replace BK123 := Aside0.mk (blkb_ BK123.out Zq31 hb); replace HB := Aside0.mk (below_step Zy28 hb); (try clear hb); (try clear hb2); (try clear hk); (try clear hi)))
 go_ret
 exact ⟨Zy41, Zy28⟩
def pdu_isBind.f (k : Nat) (a0_0 : ByteArray) (a0_1 : Int) (a0_2 : Int) (a0_3 : ByteArray) : Option (Bool) := (oid_Arcs.f k a0_0).bind fun bt126 => (if bt126.2 = 0 then ((value_Check.f k a0_1 a0_2 a0_3).bind fun t130 => (some (t130 == 0))) else (some false))
set_option maxHeartbeats 8000000 in
set_option maxRecDepth 100000 in
theorem pdu_isBind.calls (k : Nat) (a0_0 : ByteArray) (a0_1 : Int) (a0_2 : Int) (a0_3 : ByteArray) (r : Bool) (w : World) (hG : Gl w) (h : pdu_isBind.f k a0_0 a0_1 a0_2 a0_3 = some r) :
  Calls Tryz.prog 29 #[.agg #[.string a0_0, .int .i64 a0_1, .int .i64 a0_2, .string a0_3]] w fun e w' => e = .returned (.bool r) ∧ Below w.heap.size w w' := by
 have HGl := Aside0.mk hG
 clear hG
 have hu30 := Tryz.underlying30
 have hu28 := Tryz.underlying28
 have HB := Aside0.mk (Below.refl w.heap.size w)
 have H : ((oid_Arcs.f k a0_0).bind fun bt126 => (if bt126.2 = 0 then ((value_Check.f k a0_1 a0_2 a0_3).bind fun t130 => (some (t130 == 0))) else (some false))) = some r := h
 clear h
 replace H := Option.bind_eq_some_iff.mp H
 obtain ⟨⟨t126, t127⟩, A20, H⟩ := H
 replace H : (if t127 = 0 then ((value_Check.f k a0_1 a0_2 a0_3).bind fun t130 => (some (t130 == 0))) else (some false)) = some r := H
 have A2 := Aside0.mk A20
 clear A20
 by_cases c3 : t127 = 0
 rotate_left
 ·rw [if_neg c3] at H
  have c3b0 : (t127 == 0) = false := beq_eq_false_iff_ne.mpr c3
  have c3b1 : (t127 != 0) = true := bne_iff_ne.mpr c3
  obtain rfl := Option.some.inj H
  go_enter Tryz.func29, Tryz.ntmps29
  go_wp2_with (first | ((with_reducible refine gate_dst (N := 1) rfl ?_); refine box_event ?hg (N := 1) ?hd (cs := #[.string a0_0, .int .i64 a0_1, .int .i64 a0_2, .string a0_3]) (t := 30) ?hr ?_; (case hd => rfl); (case hg => rfl); (case hr => exact Zq2); intro gb125 hg w10 hbox hb; have BK125 := Aside0.mk (hbox); have GW125 := Aside0.mk ((by rw [hg]; exact (below_size Zq12) : w.heap.size ≤ gb125)); have GE125 := Aside0.mk ((by rw [hg]; exact (below_size Zq12) : w.heap.size ≤ gb125)); replace HB := Aside0.mk (below_step Zq12 hb); clear hb hbox hg; obtain ⟨hcz11_0, hcz11_1, hcz11_2, hcz11_3⟩ := cells4_ BK125.out; obtain ⟨hfz11_0, hfz11_1, hfz11_2, hfz11_3⟩ := frozen4_ BK125.out) | ((with_reducible refine gate_callee (f := 51) rfl ?_); refine goesL_ (some 8) rfl rfl Tryz.func51 (by kernel_rfl) rfl #[.string a0_0] rfl Zq13 ?_; (with_reducible refine (oid_Arcs.calls k a0_0 t126 t127 _ ?side1 A2.out).mono ?_); (case side1 => exact Zq56); rintro e w12 ⟨v128, rfl, ho0, hb⟩; refine ⟨_, rfl, ?_⟩; have HO129 := Aside0.mk (Kd.R_lower ho0 (below_size Zq16)); replace BK125 := Aside0.mk (blkb_ BK125.out Zq31 hb); replace HB := Aside0.mk (below_step Zq16 hb); (try clear hb); (try clear hb2); (try clear hk); (try clear hi); (try clear ho0)))
  go_ret
  exact ⟨Zy41, Zy29⟩
 rw [if_pos c3] at H
 have c3b0 : (t127 == 0) = true := beq_iff_eq.mpr c3
 have c3b1 : (t127 != 0) = false := bne_eq_false_iff_eq.mpr c3
 clear c3
 replace H := Option.bind_eq_some_iff.mp H
 obtain ⟨t130, A40, H⟩ := H
 replace H : (some (t130 == 0)) = some r := H
 have A4 := Aside0.mk A40
 clear A40
 obtain rfl := Option.some.inj H
 go_enter Tryz.func29, Tryz.ntmps29
 go_wp2_with (first | ((with_reducible refine gate_dst (N := 1) rfl ?_); refine box_event ?hg (N := 1) ?hd (cs := #[.string a0_0, .int .i64 a0_1, .int .i64 a0_2, .string a0_3]) (t := 30) ?hr ?_; (case hd => rfl); (case hg => rfl); (case hr => exact Zq2); intro gb125 hg w5 hbox hb; have BK125 := Aside0.mk (hbox); have GW125 := Aside0.mk ((by rw [hg]; exact (below_size Zq12) : w.heap.size ≤ gb125)); have GE125 := Aside0.mk ((by rw [hg]; exact (below_size Zq12) : w.heap.size ≤ gb125)); replace HB := Aside0.mk (below_step Zq12 hb); clear hb hbox hg; obtain ⟨hcz6_0, hcz6_1, hcz6_2, hcz6_3⟩ := cells4_ BK125.out; obtain ⟨hfz6_0, hfz6_1, hfz6_2, hfz6_3⟩ := frozen4_ BK125.out) | ((with_reducible refine gate_callee (f := 51) rfl ?_); refine goesL_ (some 8) rfl rfl Tryz.func51 (by kernel_rfl) rfl #[.string a0_0] rfl Zq13 ?_; (with_reducible refine (oid_Arcs.calls k a0_0 t126 t127 _ ?side1 A2.out).mono ?_); (case side1 => exact Zq56); rintro e w7 ⟨v128, rfl, ho0, hb⟩; refine ⟨_, rfl, ?_⟩; have HO129 := Aside0.mk (Kd.R_lower ho0 (below_size Zq16)); replace BK125 := Aside0.mk (blkb_ BK125.out Zq31 hb); replace HB := Aside0.mk (below_step Zq16 hb); (try clear hb); (try clear hb2); (try clear hk); (try clear hi); (try clear ho0); obtain ⟨hcz8_0, hcz8_1, hcz8_2, hcz8_3⟩ := cells4_ BK125.out; obtain ⟨hfz8_0, hfz8_1, hfz8_2, hfz8_3⟩ := frozen4_ BK125.out) | (go_at_call 52; (with_reducible refine (value_Check.calls k a0_1 a0_2 a0_3 t130 _ ?side1 A4.out).mono ?_); (case side1 => exact Zq56); rintro e w9 ⟨rfl, hb⟩; replace HO129 := Aside0.mk (Kd.R_below (by (with_reducible repeat (first | apply Kd.R_alloc | apply Kd.R_drewN | apply Kd.R_drew)); exact HO129.out) hb); replace BK125 := Aside0.mk (blkb_ BK125.out Zq31 hb); replace HB := Aside0.mk (below_step Zq16 hb); (try clear hb); (try clear hb2); (try clear hk); (try clear hi)))
 go_ret
 exact ⟨Zy41, Zy29⟩
end Go.Proofs.YtfgdnnbhlnbojaaGreatDoor.XPdR
