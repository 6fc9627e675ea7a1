-- Laid by extprint.py (the session's own driver): functions told by the kit's printer and by hand.
import Derived.Test.YtfgdnnbhlnbojaaGreatDoorXPdRx0
namespace Go.Proofs.YtfgdnnbhlnbojaaGreatDoor.XPdR
open Go.RowKit Gong Go.Proofs.YtfgdnnbhlnbojaaGreatDoorW.PrintWords Go.Proofs.YtfgdnnbhlnbojaaGreatDoorW.PrintLast Go.Proofs.YtfgdnnbhlnbojaaGreatDoorW.PrintMore
attribute [local go_sem] max2_int min2_int max_two min_two max_three min_three max_four min_four   -- for this text's walks alone
set_option linter.unusedVariables false
set_option linter.unusedSimpArgs false
def pdu_within.f (a0 : Int) (a1 : Int) : Option (Bool) := if a0 ≥ a1 then (some (decide (a0 ≤ 2147483647))) else (some false)
set_option maxHeartbeats 8000000 in
set_option maxRecDepth 100000 in
theorem pdu_within.calls (a0 : Int) (a1 : Int) (r : Bool) (w : World) (h : pdu_within.f a0 a1 = some r) :
  Calls Tryz.prog 28 #[.int .i64 a0, .int .i64 a1] w fun e w' => e = .returned (.bool r) ∧ Drawn0 w w' := by
 have H : (if a0 ≥ a1 then (some (decide (a0 ≤ 2147483647))) else (some false)) = some r := h
 clear h
 by_cases c3 : a0 ≥ a1
 ·rw [if_pos c3] at H
  have c3b0 : decide (a1 ≤ a0) = true := decide_eq_true c3
  clear c3
  obtain rfl := Option.some.inj H
  go_enter Tryz.func28, Tryz.ntmps28
  go_wp2
  go_ret
  exact ⟨Zy59, Zy56⟩
 rw [if_neg c3] at H
 have c3b0 : decide (a1 ≤ a0) = false := decide_eq_false c3
 clear c3
 obtain rfl := Option.some.inj H
 go_enter Tryz.func28, Tryz.ntmps28
 go_wp2
 go_ret
 exact ⟨Zy59, Zy56⟩
def strings_Count.f (a0 a1 : ByteArray) : Option Int := match a1.data.toList with
 | [c] => some (Lib.countByte a0.data.toList c : Nat)
 | _ => none
theorem strings_Count.calls (a0 a1 : ByteArray) (r : Int) (w : World) (h : strings_Count.f a0 a1 = some r) :
  Calls Tryz.prog 74 #[.string a0, .string a1] w fun e w' => e = .returned (.int .i64 r) ∧ Drawn0 w w' := by
 unfold strings_Count.f at h
 split at h
 ·rename_i c hc
  obtain rfl := Option.some.inj h
  have e : a1 = ⟨#[c]⟩ := by
   rcases a1 with ⟨⟨l⟩⟩
   simp at hc
   rw [hc]
  rw [e]
  refine (Tryz.strings_Count_one a0 c w).mono ?_
  rintro e w' ⟨rfl, rfl⟩
  exact ⟨rfl, Drawn0.refl _⟩
 ·cases h
def strings_Split.f (a0 a1 : ByteArray) : Option (List ByteArray) :=
 if a0.size < 4294967281 ∧ 1 ≤ a1.size then some (Lib.splitB a1 0 (Lib.countB a0 a1) a0) else none
theorem strs_new (w : World) (l : List ByteArray) (hl : l.length ≤ 9223372036854775807) : Kd.R Kd.string 9 (w.alloc (.cells (l.map Value.string).toArray 9)) w.heap.size (fun _ => True) (.slice (some ⟨w.heap.size, 0, none⟩) l.length l.length) l := by
 refine Kd.R_of_own (enc := Value.string) (h1 := fun _ => rfl) ⟨by simp [encs], .inr ⟨w.heap.size, l.length, (l.map Value.string).toArray, rfl, Nat.le_refl _, heap_alloc_new w _, Nat.le_refl _, by unfold maxLen; omega, by simp, ?_⟩⟩ (fun _ _ => trivial)
 simp [encs, List.take_of_length_le]
theorem strings_Split.calls (a0 a1 : ByteArray) (r : List ByteArray) (w : World) (hG : Gl w) (h : strings_Split.f a0 a1 = some r) :
  Calls Tryz.prog 75 #[.string a0, .string a1] w fun e w' => ∃ v0_ : Value, e = .returned (v0_) ∧ Kd.R Kd.string 9 w' w.heap.size (fun _ => True) v0_ r ∧ Below w.heap.size w w' := by
 unfold strings_Split.f at h
 by_cases hc : a0.size < 4294967281 ∧ 1 ≤ a1.size
 ·rw [if_pos hc] at h
  obtain rfl := Option.some.inj h
  obtain ⟨m, hm⟩ := hG.ml
  refine (Tryz.strings_Split a0 a1 m w hc.1 hm hc.2).mono ?_
  rintro e w' ⟨rfl, rfl⟩
  have hl := Lib.splitB_all a1 hc.2 0 _ a0 rfl
  have hn := Lib.countB_le a1 hc.2 _ a0 (Nat.le_refl _)
  rw [← hl]
  exact ⟨_, rfl, strs_new w _ (by omega), below_alloc (Below.refl _ _) _⟩
 ·rw [if_neg hc] at h
  exact absurd h (by simp)
def strings_Trim.f (a0 a1 : ByteArray) : Option ByteArray :=
 if a0.size ≤ 9223372036854775807 ∧ a1.size < 4294967281 ∧ a1.data.toList.all (fun b => decide (b.toNat < 128)) = true then some ⟨(Lib.trimS a0.data.toList a1.data.toList).toArray⟩ else none
theorem strings_Trim.calls (a0 a1 : ByteArray) (r : ByteArray) (w : World) (h : strings_Trim.f a0 a1 = some r) :
  Calls Tryz.prog 100 #[.string a0, .string a1] w fun e w' => e = .returned (.string r) ∧ Below w.heap.size w w' := by
 unfold strings_Trim.f at h
 by_cases hc : a0.size ≤ 9223372036854775807 ∧ a1.size < 4294967281 ∧ a1.data.toList.all (fun b => decide (b.toNat < 128)) = true
 ·rw [if_pos hc] at h
  obtain rfl := Option.some.inj h
  refine (Any.strings_Trim_laid Tryz.lays160 (by kernel_rfl) a0 a1 w hc.1 hc.2.1 (fun j b hj => by simpa using List.all_eq_true.1 hc.2.2 b (List.mem_of_getElem? hj))).mono ?_
  rintro e w' ⟨rfl, hb⟩
  exact ⟨rfl, hb⟩
 ·rw [if_neg hc] at h
  exact absurd h (by simp)
def oid_arc.f (a0 : ByteArray) : Option Int :=
 if a0.size = 0 then some (-1) else if 10 < a0.size then some (-1) else if 1 < a0.size ∧ bt a0 0 = 48 then some (-1) else
 if Lib.trimS a0.data.toList [48, 49, 50, 51, 52, 53, 54, 55, 56, 57] = [] then (match Lib.atoiAll a0.data.toList with
  | .ok v => some v
  | _ => none) else some (-1)
theorem below_bytesWorld (w : World) (k : TypeId) (t : ByteArray) : Below w.heap.size w (Lib.bytesWorld w k t) :=
 Mv.below (Mv.freeze (((Mv.refl (fun k => k = w.heap.size) w).drew).alloc _) rfl 1) (Nat.le_refl _) (fun _ h => by rw [h]; exact Nat.le_refl _)
set_option maxHeartbeats 1600000 in
set_option maxRecDepth 100000 in
theorem oid_arc.calls (a0 : ByteArray) (r : Int) (w : World) (h : oid_arc.f a0 = some r) :
  Calls Tryz.prog 76 #[.string a0] w fun e w' => e = .returned (.int .i64 r) ∧ Below w.heap.size w w' := by
 unfold oid_arc.f at h
 by_cases h0 : a0.size = 0
 ·rw [if_pos h0] at h
  obtain rfl := Option.some.inj h
  obtain rfl := size_zero h0
  go_enter Tryz.func76, Tryz.ntmps76
  go_wp2
  go_ret
  exact ⟨rfl, Below.refl _ _⟩
 ·rw [if_neg h0] at h
  have e0 : (a0.toList == ([] : List UInt8)) = false := toList_ne h0
  have HS := Aside0.mk h0
  by_cases h1 : 10 < a0.size
  ·rw [if_pos h1] at h
   obtain rfl := Option.some.inj h
   have e1 : decide ((a0.size : Int) > 10) = true := decide_eq_true (by omega)
   clear h0 h1
   go_enter Tryz.func76, Tryz.ntmps76
   go_wp2
   go_ret
   exact ⟨rfl, Below.refl _ _⟩
  ·rw [if_neg h1] at h
   have e1 : decide ((a0.size : Int) > 10) = false := decide_eq_false (by omega)
   have e2 := eq_true (show 0 < a0.size by omega)
   have e3 : ∀ h : 0 < a0.size, ((a0[0]'h).toNat : Int) = bt a0 0 := bt_at a0 0
   by_cases h2 : 1 < a0.size ∧ bt a0 0 = 48
   ·rw [if_pos h2] at h
    obtain rfl := Option.some.inj h
    obtain ⟨h2, h3⟩ := h2
    have e4 : decide ((a0.size : Int) > 1) = true := decide_eq_true (by omega)
    have e5 : (bt a0 0 == 48) = true := beq_iff_eq.mpr h3
    clear h0 h1 h2 h3
    go_enter Tryz.func76, Tryz.ntmps76
    go_wp2
    go_ret
    exact ⟨rfl, Below.refl _ _⟩
   ·rw [if_neg h2] at h
    have e4 : (decide ((a0.size : Int) > 1) = true ∧ (bt a0 0 == 48) = false) ∨ decide ((a0.size : Int) > 1) = false := by
     by_cases h3 : 1 < a0.size
     ·exact .inl ⟨decide_eq_true (by omega), beq_eq_false_iff_ne.mpr (fun e => h2 ⟨h3, e⟩)⟩
     ·exact .inr (decide_eq_false (by omega))
    have hf : strings_Trim.f a0 ⟨#[48, 49, 50, 51, 52, 53, 54, 55, 56, 57]⟩ = some ⟨(Lib.trimS a0.data.toList [48, 49, 50, 51, 52, 53, 54, 55, 56, 57]).toArray⟩ := by
     unfold strings_Trim.f
     rw [if_pos ⟨by omega, by decide, by decide⟩]
    have HT := Aside0.mk (fun W => strings_Trim.calls a0 ⟨#[48, 49, 50, 51, 52, 53, 54, 55, 56, 57]⟩ _ W hf)
    have HL := Aside0.mk (show a0.size ≤ 9223372036854775806 by omega)
    clear h0 h1 h2 hf
    by_cases h4 : Lib.trimS a0.data.toList [48, 49, 50, 51, 52, 53, 54, 55, 56, 57] = []
    ·rw [if_pos h4] at h
     rw [h4] at HT
     cases ha : Lib.atoiAll a0.data.toList with
     | ok v =>
      rw [ha] at h
      simp only [Option.some.injEq] at h
      subst h
      have HA := Aside0.mk (fun W => Tryz.strconv_Atoi_ok a0 HL.out v ha W)
      clear ha h4
      go_enter Tryz.func76, Tryz.ntmps76
      rcases e4 with ⟨e4, e5⟩ | e4
      all_goals
       go_wp2_with fail
       refine (HT.out _).mono ?_
       rintro e w1 ⟨rfl, hb1⟩
       have HB1 := Aside0.mk hb1
       clear hb1
       go_wp2_with fail
       refine (HA.out _).mono ?_
       rintro e w2 ⟨rfl, hw2⟩
       have HB2 := Aside0.mk (show Below w.heap.size w w2 from by
        rcases hw2 with rfl | ⟨t, rfl⟩
        ·exact HB1.out
        ·exact Below.trans HB1.out (Below.mono (below_bytesWorld w1 5 t) HB1.out.size))
       clear hw2
       go_wp2
       go_ret
       exact ⟨rfl, HB2.out⟩
     | «syntax» => rw [ha] at h; simp at h
     | range => rw [ha] at h; simp at h
    ·rw [if_neg h4] at h
     obtain rfl := Option.some.inj h
     obtain ⟨z, hz⟩ : ∃ z : ByteArray, z = ⟨(Lib.trimS a0.data.toList [48, 49, 50, 51, 52, 53, 54, 55, 56, 57]).toArray⟩ := ⟨_, rfl⟩
     rw [← hz] at HT
     have hzs : ¬ z.size = 0 := by
      rw [hz]
      intro e
      exact h4 (List.eq_nil_of_length_eq_zero (show (Lib.trimS a0.data.toList [48, 49, 50, 51, 52, 53, 54, 55, 56, 57]).length = 0 from e))
     have e7 : (z.toList == ([] : List UInt8)) = false := toList_ne hzs
     have e6 : (z.toList != ([] : List UInt8)) = true := by rw [bne, e7]; rfl
     have e8 : z.toList.isEmpty = false := by
      have := isEmpty_bne z.toList
      rw [e6] at this
      exact this
     clear hzs
     clear hz h4
     go_enter Tryz.func76, Tryz.ntmps76
     rcases e4 with ⟨e4, e5⟩ | e4
     all_goals
      go_wp2_with fail
      refine (HT.out _).mono ?_
      rintro e w1 ⟨rfl, hb1⟩
      have HB1 := Aside0.mk hb1
      clear hb1
      go_wp2
      go_ret
      exact ⟨rfl, HB1.out⟩
mutual
def oid_is.j0 : Nat → List Int → Bool → Option (Bool)
 | 0, _, _ => none
 | k + 1, x0, x12 => if x12 = true then (some false) else (oid_is.l0 k x0 x0 (x0.length : Int) 0)
def oid_is.l0 : Nat → List Int → List Int → Int → Int → Option (Bool)
 | 0, _, _, _, _ => none
 | k + 1, x0, x13, x14, x15 => if x15 < x14 then (if 0 ≤ x15 then (if x15 < (x13.length : Int) then (if (rd x13 x15) < 0 then (some false) else (if (rd x13 x15) > 4294967295 then (some false) else (oid_is.l0 k x0 x13 x14 (wrap64 (x15 + 1))))) else (none)) else (none)) else (if 0 < (x0.length : Int) then (if (rd x0 0) < 2 then (if 1 < (x0.length : Int) then (some (decide ((rd x0 1) < 40))) else (none)) else (if (rd x0 0) = 2 then (if 1 < (x0.length : Int) then (some (decide ((rd x0 1) ≤ 4294967215))) else (none)) else (some false))) else (none))
end
def oid_is.f (k : Nat) (l0 : List Int) : Option (Bool) := if (l0.length : Int) < 2 then (oid_is.j0 k l0 true) else (oid_is.j0 k l0 (decide ((l0.length : Int) > 128)))
theorem oid_is.mono_l : ∀ k, (∀ y0 y1, LeO (oid_is.j0 k y0 y1) (oid_is.j0 (k + 1) y0 y1)) ∧ (∀ y0 y1 y2 y3, LeO (oid_is.l0 k y0 y1 y2 y3) (oid_is.l0 (k + 1) y0 y1 y2 y3))
 | 0 => ⟨fun _ _ r h => by simp [oid_is.j0] at h, fun _ _ _ _ r h => by simp [oid_is.l0] at h⟩
 | k + 1 => by
  obtain ⟨ih0, ih1⟩ := oid_is.mono_l k
  refine ⟨?_, ?_⟩
  ·intro y0 y1
   unfold oid_is.j0
   repeat' first
   | (with_reducible exact ih0 _ _)
   | (with_reducible exact ih1 _ _ _ _)
   | (with_reducible exact LeO.refl _)
   | (with_reducible exact LeO.none _)
   | (with_reducible refine LeO.ite ?_ ?_)
   | (with_reducible refine LeO.bind ?_ (fun _ => ?_))
   | exact ih0 _ _
   | exact ih1 _ _ _ _
   | exact LeO.none _
   | refine LeO.ite ?_ ?_
   | refine LeO.bind ?_ (fun _ => ?_)
  ·intro y0 y1 y2 y3
   unfold oid_is.l0
   repeat' first
   | (with_reducible exact ih0 _ _)
   | (with_reducible exact ih1 _ _ _ _)
   | (with_reducible exact LeO.refl _)
   | (with_reducible exact LeO.none _)
   | (with_reducible refine LeO.ite ?_ ?_)
   | (with_reducible refine LeO.bind ?_ (fun _ => ?_))
   | exact ih0 _ _
   | exact ih1 _ _ _ _
   | exact LeO.none _
   | refine LeO.ite ?_ ?_
   | refine LeO.bind ?_ (fun _ => ?_)
theorem oid_is.mono : ∀ a0 k, LeO (oid_is.f k a0) (oid_is.f (k + 1) a0) := by
 intro a0 k
 obtain ⟨ih0, ih1⟩ := oid_is.mono_l k
 unfold oid_is.f
 repeat' first
   | (with_reducible exact ih0 _ _)
   | (with_reducible exact ih1 _ _ _ _)
   | (with_reducible exact LeO.refl _)
   | (with_reducible exact LeO.none _)
   | (with_reducible refine LeO.ite ?_ ?_)
   | (with_reducible refine LeO.bind ?_ (fun _ => ?_))
   | exact ih0 _ _
   | exact ih1 _ _ _ _
   | exact LeO.none _
   | refine LeO.ite ?_ ?_
   | refine LeO.bind ?_ (fun _ => ?_)
set_option maxHeartbeats 8000000 in
set_option maxRecDepth 100000 in
theorem oid_is.calls (k : Nat) (A0 : Option Addr) (c0 : Nat) (l0 : List Int) (r : Bool) (w : World) (hr0 : Kd.C (Kd.int .i64) w A0 l0.length l0) (hc0 : l0.length ≤ c0) (h : oid_is.f k l0 = some r) :
  Calls Tryz.prog 77 #[.slice A0 l0.length c0] w fun e w' => e = .returned (.bool r) ∧ Drawn0 w w' := by
 have HR0 := Aside0.mk hr0
 have HC0 := Aside0.mk hc0
 clear hr0 hc0
 have H : (if (l0.length : Int) < 2 then (oid_is.j0 k l0 true) else (oid_is.j0 k l0 (decide ((l0.length : Int) > 128)))) = some r := h
 clear h
 have HC2 := Aside0.mk H
 clear H
 go_enter Tryz.func77, Tryz.ntmps77
 go_upto_region 1 with (fail)
 go_cut [12] (fun v12 wc => ∃ (kq : Nat) (x12_1 : Bool), v12 = .bool x12_1 ∧ Aside0 (oid_is.j0 kq l0 x12_1 = some r) ∧ Aside0 (kq ≤ k) ∧ Drawn0 w wc)
 case first =>
  have H := HC2.out
  clear HC2
  by_cases c3 : (l0.length : Int) < 2
  ·rw [if_pos c3] at H
   have c3b0 : decide ((l0.length : Int) < 2) = true := decide_eq_true c3
   have c3b1 : decide (l0.length < 2) = true := decide_eq_true (by omega)
   clear c3
   (first | rw [c3b0] | (simp only [i64_w, i32_w]; rw [c3b0]) | skip)
   have H' := Aside0.mk H
   clear H
   go_wp2
   go_meet
   case rel => exact ⟨_, (true), Zq11, H', ⟨Zy61⟩, Zy56⟩
  ·rw [if_neg c3] at H
   have c3b0 : decide ((l0.length : Int) < 2) = false := decide_eq_false c3
   have c3b1 : decide (l0.length < 2) = false := decide_eq_false (by omega)
   clear c3
   (first | rw [c3b0] | (simp only [i64_w, i32_w]; rw [c3b0]) | skip)
   have H' := Aside0.mk H
   clear H
   go_wp2
   go_meet
   case rel => exact ⟨_, (decide ((l0.length : Int) > 128)), Zq11, H', ⟨Zy61⟩, Zy56⟩
 case rest =>
  clear HC2
  (try clear p2); (try clear c3); (try clear c3b0); (try clear c3b1)
  obtain ⟨kq, x12_1, rfl, HA, HJ1, ⟨mc1, rfl⟩⟩ := hcut
  cases kq with
  | zero => exact absurd HA.out (by simp [oid_is.j0])
  | succ kj1 =>
   have H := HA.out
   clear HA
   simp only [oid_is.j0] at H
   by_cases c4 : x12_1 = true
   ·subst c4
    have H1 : (some false) = some r := by rw [if_pos rfl] at H; exact H
    clear H
    have H := H1
    clear H1
    obtain rfl := Option.some.inj H
    go_wp2
    go_ret
    exact ⟨Zy59, Zy56⟩
   ·replace c4 := Bool.eq_false_iff.mpr c4
    subst c4
    have H1 : (oid_is.l0 kj1 l0 l0 (l0.length : Int) 0) = some r := by rw [if_neg (show ¬ (false = true) by decide)] at H; exact H
    clear H
    have H := H1
    clear H1
    have H' := Aside0.mk H
    clear H
    go_wp2
    go_loopg [15] kj1 (fun kq v15 w' => ∃ (x15_2 : Int), v15 = .int .i64 x15_2 ∧ Aside0 (oid_is.l0 kq l0 l0 (l0.length : Int) x15_2 = some r) ∧ Aside0 (kq ≤ kj1) ∧ Drawn0 w w')
    case atStart => exact ⟨(0), Zq11, H', ⟨Nat.le_refl _⟩, Zy56⟩
    case round =>
     clear H'
     (try clear c1); (try clear p2); (try clear c3); (try clear c3b0); (try clear c3b1); (try clear c4)
     obtain ⟨x15_2, rfl, HA, HK2, ⟨m2, rfl⟩⟩ := hrel
     cases gk with
     | zero => exact absurd HA.out (by simp [oid_is.l0])
     | succ k2 =>
      have H := HA.out
      clear HA
      simp only [oid_is.l0] at H
      by_cases c5 : x15_2 < (l0.length : Int)
      ·rw [if_pos c5] at H
       have c5b0 : decide (x15_2 < (l0.length : Int)) = true := decide_eq_true c5
       clear c5
       by_cases c6 : 0 ≤ x15_2
       ·rw [if_pos c6] at H
        have c6b0 : decide (0 ≤ x15_2) = true := decide_eq_true c6
        clear c6
        by_cases c7 : x15_2 < (l0.length : Int)
        ·rw [if_pos c7] at H
         have c7b0 : decide (x15_2 < (l0.length : Int)) = true := decide_eq_true c7
         clear c7
         by_cases c8 : (rd l0 x15_2) < 0
         ·rw [if_pos c8] at H
          have c8b0 : decide ((rd l0 x15_2) < 0) = true := decide_eq_true c8
          clear c8
          obtain rfl := Option.some.inj H
          have p101 : 0 ≤ (x15_2 : Int) := of_decide_eq_true Zq1
          have q101 : x15_2 < (l0.length : Int) := of_decide_eq_true Zq1
          obtain ⟨ad101, e101, hx101_0⟩ := Kd.at_int HR0.out x15_2 p101 q101
          cases e101
          replace p101 := eq_true p101
          replace q101 := eq_true q101
          go_wp2
          go_ret
          exact ⟨Zy59, Zy56⟩
         ·rw [if_neg c8] at H
          have c8b0 : decide ((rd l0 x15_2) < 0) = false := decide_eq_false c8
          clear c8
          by_cases c9 : (rd l0 x15_2) > 4294967295
          ·rw [if_pos c9] at H
           have c9b0 : decide (4294967295 < (rd l0 x15_2)) = true := decide_eq_true c9
           clear c9
           obtain rfl := Option.some.inj H
           have p101 : 0 ≤ (x15_2 : Int) := of_decide_eq_true Zq1
           have q101 : x15_2 < (l0.length : Int) := of_decide_eq_true Zq1
           obtain ⟨ad101, e101, hx101_0⟩ := Kd.at_int HR0.out x15_2 p101 q101
           cases e101
           replace p101 := eq_true p101
           replace q101 := eq_true q101
           go_wp2
           go_ret
           exact ⟨Zy59, Zy56⟩
          ·rw [if_neg c9] at H
           have c9b0 : decide (4294967295 < (rd l0 x15_2)) = false := decide_eq_false c9
           clear c9
           have H' := Aside0.mk H
           clear H
           have p101 : 0 ≤ (x15_2 : Int) := of_decide_eq_true Zq1
           have q101 : x15_2 < (l0.length : Int) := of_decide_eq_true Zq1
           obtain ⟨ad101, e101, hx101_0⟩ := Kd.at_int HR0.out x15_2 p101 q101
           cases e101
           replace p101 := eq_true p101
           replace q101 := eq_true q101
           go_wp2
           go_roundg k2
           case measure => have := HJ1.out; have := HK2.out; omega
           case rel => exact ⟨(wrap64 (x15_2 + 1)), Zq11, H', ⟨by have := HJ1.out; have := HK2.out; omega⟩, Zy56⟩
        ·rw [if_neg c7] at H
         exact absurd H (by simp)
       ·rw [if_neg c6] at H
        exact absurd H (by simp)
      ·rw [if_neg c5] at H
       have c5b0 : decide (x15_2 < (l0.length : Int)) = false := decide_eq_false c5
       clear c5
       by_cases c10 : 0 < (l0.length : Int)
       ·rw [if_pos c10] at H
        have c10b0 : decide (0 < (l0.length : Int)) = true := decide_eq_true c10
        have c10b1 : decide (0 < l0.length) = true := decide_eq_true (by omega)
        clear c10
        by_cases c11 : (rd l0 0) < 2
        ·rw [if_pos c11] at H
         have c11b0 : decide ((rd l0 0) < 2) = true := decide_eq_true c11
         clear c11
         by_cases c12 : 1 < (l0.length : Int)
         ·rw [if_pos c12] at H
          have c12b0 : decide (1 < (l0.length : Int)) = true := decide_eq_true c12
          have c12b1 : decide (1 < l0.length) = true := decide_eq_true (by omega)
          clear c12
          obtain rfl := Option.some.inj H
          have p102 : 0 ≤ (0 : Int) := (by omega)
          have q102 : 0 < (l0.length : Int) := of_decide_eq_true Zq1
          obtain ⟨ad102, e102, hx102_0⟩ := Kd.at_int HR0.out 0 p102 q102
          cases e102
          have qi102 : (0 < l0.length) = True := eq_true (by omega)
          (try rw [show ((0 : Int)).toNat = 0 from rfl] at hx102_0)
          (try rw [Addr.add_zero'] at hx102_0)
          replace p102 := eq_true p102
          replace q102 := eq_true q102
          have p103 : 0 ≤ (1 : Int) := (by omega)
          have q103 : 1 < (l0.length : Int) := of_decide_eq_true Zq1
          obtain ⟨ad103, e103, hx103_0⟩ := Kd.at_int HR0.out 1 p103 q103
          obtain rfl : ad102 = ad103 := (by injection e103)
          (try simp only [show (1 : Int).toNat = 1 from rfl, Nat.reduceMul, Nat.reduceEqDiff, Go.Addr.add, ↓reduceIte] at hx103_0)
          have qi103 : (1 < l0.length) = True := eq_true (by omega)
          (try rw [show ((1 : Int)).toNat = 1 from rfl] at hx103_0)
          replace p103 := eq_true p103
          replace q103 := eq_true q103
          go_wp2
          go_ret
          exact ⟨Zy59, Zy56⟩
         ·rw [if_neg c12] at H
          exact absurd H (by simp)
        ·rw [if_neg c11] at H
         have c11b0 : decide ((rd l0 0) < 2) = false := decide_eq_false c11
         clear c11
         by_cases c13 : (rd l0 0) = 2
         ·rw [if_pos c13] at H
          have c13b0 : ((rd l0 0) == 2) = true := beq_iff_eq.mpr c13
          have c13b1 : ((rd l0 0) != 2) = false := bne_eq_false_iff_eq.mpr c13
          clear c13
          by_cases c14 : 1 < (l0.length : Int)
          ·rw [if_pos c14] at H
           have c14b0 : decide (1 < (l0.length : Int)) = true := decide_eq_true c14
           have c14b1 : decide (1 < l0.length) = true := decide_eq_true (by omega)
           clear c14
           obtain rfl := Option.some.inj H
           have p102 : 0 ≤ (0 : Int) := (by omega)
           have q102 : 0 < (l0.length : Int) := of_decide_eq_true Zq1
           obtain ⟨ad102, e102, hx102_0⟩ := Kd.at_int HR0.out 0 p102 q102
           cases e102
           have qi102 : (0 < l0.length) = True := eq_true (by omega)
           (try rw [show ((0 : Int)).toNat = 0 from rfl] at hx102_0)
           (try rw [Addr.add_zero'] at hx102_0)
           replace p102 := eq_true p102
           replace q102 := eq_true q102
           have p104 : 0 ≤ (0 : Int) := (by omega)
           have q104 : 0 < (l0.length : Int) := of_decide_eq_true Zq1
           obtain ⟨ad104, e104, hx104_0⟩ := Kd.at_int HR0.out 0 p104 q104
           obtain rfl : ad102 = ad104 := (by injection e104)
           have qi104 : (0 < l0.length) = True := eq_true (by omega)
           (try rw [show ((0 : Int)).toNat = 0 from rfl] at hx104_0)
           (try rw [Addr.add_zero'] at hx104_0)
           replace p104 := eq_true p104
           replace q104 := eq_true q104
           have p105 : 0 ≤ (1 : Int) := (by omega)
           have q105 : 1 < (l0.length : Int) := of_decide_eq_true Zq1
           obtain ⟨ad105, e105, hx105_0⟩ := Kd.at_int HR0.out 1 p105 q105
           obtain rfl : ad102 = ad105 := (by injection e105)
           (try simp only [show (1 : Int).toNat = 1 from rfl, Nat.reduceMul, Nat.reduceEqDiff, Go.Addr.add, ↓reduceIte] at hx105_0)
           have qi105 : (1 < l0.length) = True := eq_true (by omega)
           (try rw [show ((1 : Int)).toNat = 1 from rfl] at hx105_0)
           replace p105 := eq_true p105
           replace q105 := eq_true q105
           go_wp2
           go_ret
           exact ⟨Zy59, Zy56⟩
          ·rw [if_neg c14] at H
           exact absurd H (by simp)
         ·rw [if_neg c13] at H
          have c13b0 : ((rd l0 0) == 2) = false := beq_eq_false_iff_ne.mpr c13
          have c13b1 : ((rd l0 0) != 2) = true := bne_iff_ne.mpr c13
          obtain rfl := Option.some.inj H
          have p102 : 0 ≤ (0 : Int) := (by omega)
          have q102 : 0 < (l0.length : Int) := of_decide_eq_true Zq1
          obtain ⟨ad102, e102, hx102_0⟩ := Kd.at_int HR0.out 0 p102 q102
          cases e102
          have qi102 : (0 < l0.length) = True := eq_true (by omega)
          (try rw [show ((0 : Int)).toNat = 0 from rfl] at hx102_0)
          (try rw [Addr.add_zero'] at hx102_0)
          replace p102 := eq_true p102
          replace q102 := eq_true q102
          have p104 : 0 ≤ (0 : Int) := (by omega)
          have q104 : 0 < (l0.length : Int) := of_decide_eq_true Zq1
          obtain ⟨ad104, e104, hx104_0⟩ := Kd.at_int HR0.out 0 p104 q104
          obtain rfl : ad102 = ad104 := (by injection e104)
          have qi104 : (0 < l0.length) = True := eq_true (by omega)
          (try rw [show ((0 : Int)).toNat = 0 from rfl] at hx104_0)
          (try rw [Addr.add_zero'] at hx104_0)
          replace p104 := eq_true p104
          replace q104 := eq_true q104
          go_wp2
          go_ret
          exact ⟨Zy59, Zy56⟩
       ·rw [if_neg c10] at H
        exact absurd H (by simp)
def oid_Arcs.l0 : Nat → List Int → List ByteArray → Int → Int → Option (List Int × Int)
 | 0, _, _, _, _ => none
 | k + 1, x4, x11, x12, x13 => if x13 < x12 then (if 0 ≤ x13 then (if x13 < (x11.length : Int) then ((oid_arc.f (rdOf ByteArray.empty x11 x13)).bind fun t111 => (if x4.length < 17592186044416 then (oid_Arcs.l0 k (x4 ++ [t111]) x11 x12 (wrap64 (x13 + 1))) else (none))) else (none)) else (none)) else ((oid_is.f k x4).bind fun t115 => (if t115 = true then (some (x4, 0)) else (some (([] : List Int), 60))))
def oid_Arcs.f (k : Nat) (a0 : ByteArray) : Option (List Int × Int) := (strings_Count.f a0 (⟨#[46]⟩ : ByteArray)).bind fun t106 => (if t106 ≥ 128 then (some (([] : List Int), 60)) else ((strings_Split.f a0 (⟨#[46]⟩ : ByteArray)).bind fun t107 => (oid_Arcs.l0 k ([] : List Int) t107 (t107.length : Int) 0)))
theorem oid_Arcs.mono_l : ∀ k, (∀ y0 y1 y2 y3, LeO (oid_Arcs.l0 k y0 y1 y2 y3) (oid_Arcs.l0 (k + 1) y0 y1 y2 y3))
 | 0 => fun _ _ _ _ r h => by simp [oid_Arcs.l0] at h
 | k + 1 => by
  have ih0 := oid_Arcs.mono_l k
  ·intro y0 y1 y2 y3
   unfold oid_Arcs.l0
   repeat' first
   | (with_reducible exact ih0 _ _ _ _)
   | (with_reducible exact oid_is.mono _ _)
   | (with_reducible exact LeO.refl _)
   | (with_reducible exact LeO.none _)
   | (with_reducible refine LeO.ite ?_ ?_)
   | (with_reducible refine LeO.bind ?_ (fun _ => ?_))
   | exact ih0 _ _ _ _
   | exact oid_is.mono _ _
   | exact LeO.none _
   | refine LeO.ite ?_ ?_
   | refine LeO.bind ?_ (fun _ => ?_)
theorem oid_Arcs.mono : ∀ a0 k, LeO (oid_Arcs.f k a0) (oid_Arcs.f (k + 1) a0) := by
 intro a0 k
 have ih0 := oid_Arcs.mono_l k
 unfold oid_Arcs.f
 repeat' first
   | (with_reducible exact ih0 _ _ _ _)
   | (with_reducible exact oid_is.mono _ _)
   | (with_reducible exact LeO.refl _)
   | (with_reducible exact LeO.none _)
   | (with_reducible refine LeO.ite ?_ ?_)
   | (with_reducible refine LeO.bind ?_ (fun _ => ?_))
   | exact ih0 _ _ _ _
   | exact oid_is.mono _ _
   | exact LeO.none _
   | refine LeO.ite ?_ ?_
   | refine LeO.bind ?_ (fun _ => ?_)
set_option maxHeartbeats 8000000 in
set_option maxRecDepth 100000 in
theorem oid_Arcs.calls (k : Nat) (a0 : ByteArray) (r1 : List Int) (r2 : Int) (w : World) (hG : Gl w) (h : oid_Arcs.f k a0 = some (r1, r2)) :
  Calls Tryz.prog 51 #[.string a0] w fun e w' => ∃ v0_ : Value, e = .returned (.tuple #[v0_, .int .i64 r2]) ∧ Kd.R (Kd.int .i64) 3 w' w.heap.size (fun _ => True) v0_ r1 ∧ Below w.heap.size w w' := by
 have HGl := Aside0.mk hG
 clear hG
 have HB := Aside0.mk (Below.refl w.heap.size w)
 have H : ((strings_Count.f a0 (⟨#[46]⟩ : ByteArray)).bind fun t106 => (if t106 ≥ 128 then (some (([] : List Int), 60)) else ((strings_Split.f a0 (⟨#[46]⟩ : ByteArray)).bind fun t107 => (oid_Arcs.l0 k ([] : List Int) t107 (t107.length : Int) 0)))) = some (r1, r2) := h
 clear h
 replace H := Option.bind_eq_some_iff.mp H
 obtain ⟨t106, A20, H⟩ := H
 replace H : (if t106 ≥ 128 then (some (([] : List Int), 60)) else ((strings_Split.f a0 (⟨#[46]⟩ : ByteArray)).bind fun t107 => (oid_Arcs.l0 k ([] : List Int) t107 (t107.length : Int) 0))) = some (r1, r2) := H
 have A2 := Aside0.mk A20
 clear A20
 by_cases c3 : t106 ≥ 128
 ·rw [if_pos c3] at H
  have c3b0 : decide (128 ≤ t106) = true := decide_eq_true c3
  clear c3
  simp only [Option.some.injEq, Prod.mk.injEq] at H
  obtain ⟨rfl, rfl⟩ := H
  go_enter Tryz.func51, Tryz.ntmps51
  go_wp2_with (first | ((with_reducible refine gate_callee (f := 74) rfl ?_); refine goesL_ (some 8) rfl rfl Tryz.func74 (by kernel_rfl) rfl #[.string a0, .string (⟨#[46]⟩ : ByteArray)] rfl Zq13 ?_; (with_reducible refine (strings_Count.calls a0 (⟨#[46]⟩ : ByteArray) t106 _ A2.out).mono ?_); rintro e w' ⟨rfl, ⟨nd, rfl⟩⟩; refine ⟨_, rfl, ?_⟩))
  go_ret2
  exact ⟨_, Zy55, Zy35, Zy40⟩
 rw [if_neg c3] at H
 have c3b0 : decide (128 ≤ t106) = false := decide_eq_false c3
 clear c3
 replace H := Option.bind_eq_some_iff.mp H
 obtain ⟨t107, A40, H⟩ := H
 replace H : (oid_Arcs.l0 k ([] : List Int) t107 (t107.length : Int) 0) = some (r1, r2) := H
 have A4 := Aside0.mk A40
 clear A40
 have H' := Aside0.mk H
 clear H
 go_enter Tryz.func51, Tryz.ntmps51
 go_wp2_with (first | ((with_reducible refine gate_callee (f := 74) rfl ?_); refine goesL_ (some 8) rfl rfl Tryz.func74 (by kernel_rfl) rfl #[.string a0, .string (⟨#[46]⟩ : ByteArray)] rfl Zq13 ?_; (with_reducible refine (strings_Count.calls a0 (⟨#[46]⟩ : ByteArray) t106 _ A2.out).mono ?_); rintro e w' ⟨rfl, ⟨nd, rfl⟩⟩; refine ⟨_, rfl, ?_⟩) | ((with_reducible refine gate_callee (f := 75) rfl ?_); refine goesL_ (some 11) rfl rfl Tryz.func75 (by kernel_rfl) rfl #[.string a0, .string (⟨#[46]⟩ : ByteArray)] rfl Zq13 ?_; (with_reducible refine (strings_Split.calls a0 (⟨#[46]⟩ : ByteArray) t107 _ ?side1 A4.out).mono ?_); (case side1 => exact Zq56); rintro e w5 ⟨v108, rfl, ho0, hb⟩; refine ⟨_, rfl, ?_⟩; have HO109 := Aside0.mk (Kd.R_lower ho0 (below_size Zq12)); replace HB := Aside0.mk (below_step Zq12 hb); (try clear hb); (try clear hb2); (try clear hk); (try clear hi); (try clear ho0); obtain ⟨Ao6, co6, eo6⟩ := Kd.R_slice HO109.out; subst eo6))
 go_loopg [4, 13] k (fun kq v4 v13 w' => ∃ (x4_1 : List Int) (x13_1 : Int), v13 = .int .i64 x13_1 ∧ Aside0 (oid_Arcs.l0 kq x4_1 t107 (t107.length : Int) x13_1 = some (r1, r2)) ∧ Aside0 (kq ≤ k) ∧ Aside0 (Kd.R (Kd.int .i64) 3 w' w.heap.size (fun _ => True) v4 x4_1) ∧ Aside0 (Kd.R Kd.string 9 w' w.heap.size (fun _ => True) (.slice Ao6 t107.length co6) t107) ∧ Aside0 (Below w.heap.size w w'))
 case atStart => exact ⟨(([] : List Int)), (0), Zq11, H', ⟨Nat.le_refl _⟩, ⟨Zy35⟩, ⟨by (with_reducible repeat (first | apply Kd.R_alloc | apply Kd.R_drewN | apply Kd.R_drew)); exact HO109.out⟩, ⟨Zy40⟩⟩
 case round =>
  clear H'
  (try clear p2); (try clear c3); (try clear c3b0); (try clear c5)
  obtain ⟨x4_1, x13_1, rfl, HA, HK1, HO_4, HO_11, HB⟩ := hrel
  cases gk with
  | zero => exact absurd HA.out (by simp [oid_Arcs.l0])
  | succ k1 =>
   have H := HA.out
   clear HA
   simp only [oid_Arcs.l0] at H
   by_cases c7 : x13_1 < (t107.length : Int)
   ·rw [if_pos c7] at H
    have c7b0 : decide (x13_1 < (t107.length : Int)) = true := decide_eq_true c7
    clear c7
    by_cases c8 : 0 ≤ x13_1
    ·rw [if_pos c8] at H
     have c8b0 : decide (0 ≤ x13_1) = true := decide_eq_true c8
     clear c8
     by_cases c9 : x13_1 < (t107.length : Int)
     ·rw [if_pos c9] at H
      have c9b0 : decide (x13_1 < (t107.length : Int)) = true := decide_eq_true c9
      clear c9
      replace H := Option.bind_eq_some_iff.mp H
      obtain ⟨t111, A100, H⟩ := H
      replace H : (if x4_1.length < 17592186044416 then (oid_Arcs.l0 k1 (x4_1 ++ [t111]) t107 (t107.length : Int) (wrap64 (x13_1 + 1))) else (none)) = some (r1, r2) := H
      have A10 := Aside0.mk A100
      clear A100
      by_cases c11 : x4_1.length < 17592186044416
      ·rw [if_pos c11] at H
       have LMc11 := Aside0.mk c11
       clear c11
       obtain ⟨y112, hy112⟩ : ∃ y_ : List Int, y_ = (x4_1 ++ [t111]) := ⟨_, rfl⟩
       replace H : (oid_Arcs.l0 k1 y112 t107 (t107.length : Int) (wrap64 (x13_1 + 1))) = some (r1, r2) := by first | (rw [hy112]; with_reducible exact H) | (have H2_ := (Option.bind_some _ _).symm.trans H; rw [hy112]; with_reducible exact H2_) | (have H2_ := (Option.bind_some _ _).symm.trans H; with_reducible exact H2_) | with_reducible exact H | (rw [hy112]; exact H) | exact H
       have Ny112 := Aside0.mk hy112
       clear hy112
       have H' := Aside0.mk H
       clear H
       have p110 : 0 ≤ (x13_1 : Int) := of_decide_eq_true Zq1
       have q110 : x13_1 < (t107.length : Int) := of_decide_eq_true Zq1
       obtain ⟨ad110, e110, hx110_0⟩ := Kd.at_string (Kd.R_reads' HO_11.out).2.2 x13_1 p110 q110
       cases e110
       replace p110 := eq_true p110
       replace q110 := eq_true q110
       go_wp2_with (first | ((with_reducible refine gate_callee (f := 76) rfl ?_); refine goesL_ (some 19) rfl rfl Tryz.func76 (by kernel_rfl) rfl #[.string (rdOf ByteArray.empty t107 x13_1)] rfl Zq13 ?_; (with_reducible refine (oid_arc.calls (rdOf ByteArray.empty t107 x13_1) t111 _ A10.out).mono ?_); rintro e w12 ⟨rfl, hb⟩; refine ⟨_, rfl, ?_⟩; replace HO_4 := Aside0.mk (Kd.R_below Zq6 hb); replace HO_11 := Aside0.mk (Kd.R_below Zq9 hb); replace HB := Aside0.mk (below_step Zq12 hb); (try clear hb); (try clear hb2); (try clear hk); (try clear hi)) | ((with_reducible refine gate_builtin (b := .append) (xs := #[.tmp 17, .tmp 20]) rfl ?_); at_builtin; refine Kd.R_append (Kd.int .i64) (w0 := w) w.heap.size rfl (.tmp 17) (.tmp 20) 89 3 (.int .i64 0) 8 rfl Tryz.underlying89 info3 rfl (by decide) (by omega) u4 x4_1 t111 [.int .i64 t111] (fun _ => True) (fun _ => False) rfl rfl ?aP (fun _ hk => hk.elim) ?aF ?aO ?aB ?aS ?aL ?_; (case aP => exact rfl); (case aB => exact Zq12); (case aF => exact (fun _ _ => trivial)); (case aO => exact Zq6); (case aS => exact (below_size Zq12)); (case aL => have := LMc11.out; omega); intro v113 w13 ho hb hg hat; rw [← Ny112.out] at ho; have n0_ := Aside0.mk (Kd.R_over' Zq9 (Kd.R_typed Zq6) (by decide) hg); have n1_ := Aside0.mk (hb); have n2_ := Aside0.mk (ho); clear HO_11; clear HB; clear HO_4; have HO_11 := n0_; have HB := n1_; have HO114 := n2_; clear n0_ n1_ n2_; clear ho hb hg hat))
       go_roundg k1
       case measure => have := HK1.out; omega
       case rel => exact ⟨(y112), (wrap64 (x13_1 + 1)), Zq11, H', ⟨by have := HK1.out; omega⟩, ⟨by (with_reducible repeat (first | apply Kd.R_alloc | apply Kd.R_drewN | apply Kd.R_drew)); exact HO114.out⟩, ⟨by (with_reducible repeat (first | apply Kd.R_alloc | apply Kd.R_drewN | apply Kd.R_drew)); exact HO_11.out⟩, ⟨Zy40⟩⟩
      ·rw [if_neg c11] at H
       exact absurd H (by simp)
     ·rw [if_neg c9] at H
      exact absurd H (by simp)
    ·rw [if_neg c8] at H
     exact absurd H (by simp)
   ·rw [if_neg c7] at H
    have c7b0 : decide (x13_1 < (t107.length : Int)) = false := decide_eq_false c7
    clear c7
    replace H := Option.bind_eq_some_iff.mp H
    obtain ⟨t115, A140, H⟩ := H
    replace H : (if t115 = true then (some (x4_1, 0)) else (some (([] : List Int), 60))) = some (r1, r2) := H
    have A14 := Aside0.mk A140
    clear A140
    by_cases c15 : t115 = true
    ·subst c15
     have H1 : (some (x4_1, 0)) = some (r1, r2) := by rw [if_pos rfl] at H; exact H
     clear H
     have H := H1
     clear H1
     simp only [Option.some.injEq, Prod.mk.injEq] at H
     obtain ⟨rfl, rfl⟩ := H
     obtain ⟨Ao16, co16, eo16⟩ := Kd.R_slice HO_4.out
     subst eo16
     go_wp2_with (first | ((with_reducible refine gate_callee (f := 77) rfl ?_); refine goesL_ (some 24) rfl rfl Tryz.func77 (by kernel_rfl) rfl #[.slice Ao16 x4_1.length co16] rfl Zq13 ?_; (with_reducible refine (oid_is.calls k1 _ _ x4_1 true _ ?side1 ?side2 A14.out).mono ?_); (case side1 => exact Zq29); (case side2 => exact (Kd.R_reads' HO_4.out).2.1); rintro e w' ⟨rfl, ⟨nd, rfl⟩⟩; refine ⟨_, rfl, ?_⟩))
     go_ret2
     exact ⟨_, Zy55, Zy53, Zy40⟩
    ·replace c15 := Bool.eq_false_iff.mpr c15
     subst c15
     have H1 : (some (([] : List Int), 60)) = some (r1, r2) := by rw [if_neg (show ¬ (false = true) by decide)] at H; exact H
     clear H
     have H := H1
     clear H1
     simp only [Option.some.injEq, Prod.mk.injEq] at H
     obtain ⟨rfl, rfl⟩ := H
     obtain ⟨Ao17, co17, eo17⟩ := Kd.R_slice HO_4.out
     subst eo17
     go_wp2_with (first | ((with_reducible refine gate_callee (f := 77) rfl ?_); refine goesL_ (some 24) rfl rfl Tryz.func77 (by kernel_rfl) rfl #[.slice Ao17 x4_1.length co17] rfl Zq13 ?_; (with_reducible refine (oid_is.calls k1 _ _ x4_1 false _ ?side1 ?side2 A14.out).mono ?_); (case side1 => exact Zq29); (case side2 => exact (Kd.R_reads' HO_4.out).2.1); rintro e w' ⟨rfl, ⟨nd, rfl⟩⟩; refine ⟨_, rfl, ?_⟩))
     go_ret2
     exact ⟨_, Zy55, Zy35, Zy40⟩
def value_of.f (a0 : Int) : Option (Int) := if a0 = 2 then (some 1) else (if a0 = 6 then (some 4) else (if a0 = 5 then (some 5) else (if a0 = 65 then (some 2) else (if a0 = 66 then (some 2) else (if a0 = 67 then (some 2) else (if a0 = 70 then (some 2) else (if a0 = 4 then (some 3) else (if a0 = 64 then (some 3) else (if a0 = 68 then (some 3) else (some 0))))))))))
set_option maxHeartbeats 8000000 in
set_option maxRecDepth 100000 in
theorem value_of.calls (a0 : Int) (r : Int) (w : World) (h : value_of.f a0 = some r) :
  Calls Tryz.prog 64 #[.int .i64 a0] w fun e w' => e = .returned (.int .i64 r) ∧ Drawn0 w w' := by
 have H : (if a0 = 2 then (some 1) else (if a0 = 6 then (some 4) else (if a0 = 5 then (some 5) else (if a0 = 65 then (some 2) else (if a0 = 66 then (some 2) else (if a0 = 67 then (some 2) else (if a0 = 70 then (some 2) else (if a0 = 4 then (some 3) else (if a0 = 64 then (some 3) else (if a0 = 68 then (some 3) else (some 0))))))))))) = some r := h
 clear h
 by_cases c2 : a0 = 2
 ·rw [if_pos c2] at H
  have c2b0 : (a0 == 2) = true := beq_iff_eq.mpr c2
  have c2b1 : (a0 != 2) = false := bne_eq_false_iff_eq.mpr c2
  clear c2
  obtain rfl := Option.some.inj H
  go_enter Tryz.func64, Tryz.ntmps64
  go_wp2
  go_ret
  exact ⟨Zy59, Zy56⟩
 rw [if_neg c2] at H
 have c2b0 : (a0 == 2) = false := beq_eq_false_iff_ne.mpr c2
 have c2b1 : (a0 != 2) = true := bne_iff_ne.mpr c2
 by_cases c3 : a0 = 6
 ·rw [if_pos c3] at H
  have c3b0 : (a0 == 6) = true := beq_iff_eq.mpr c3
  have c3b1 : (a0 != 6) = false := bne_eq_false_iff_eq.mpr c3
  clear c3
  obtain rfl := Option.some.inj H
  go_enter Tryz.func64, Tryz.ntmps64
  go_wp2
  go_ret
  exact ⟨Zy59, Zy56⟩
 rw [if_neg c3] at H
 have c3b0 : (a0 == 6) = false := beq_eq_false_iff_ne.mpr c3
 have c3b1 : (a0 != 6) = true := bne_iff_ne.mpr c3
 by_cases c4 : a0 = 5
 ·rw [if_pos c4] at H
  have c4b0 : (a0 == 5) = true := beq_iff_eq.mpr c4
  have c4b1 : (a0 != 5) = false := bne_eq_false_iff_eq.mpr c4
  clear c4
  obtain rfl := Option.some.inj H
  go_enter Tryz.func64, Tryz.ntmps64
  go_wp2
  go_ret
  exact ⟨Zy59, Zy56⟩
 rw [if_neg c4] at H
 have c4b0 : (a0 == 5) = false := beq_eq_false_iff_ne.mpr c4
 have c4b1 : (a0 != 5) = true := bne_iff_ne.mpr c4
 by_cases c5 : a0 = 65
 ·rw [if_pos c5] at H
  have c5b0 : (a0 == 65) = true := beq_iff_eq.mpr c5
  have c5b1 : (a0 != 65) = false := bne_eq_false_iff_eq.mpr c5
  clear c5
  obtain rfl := Option.some.inj H
  go_enter Tryz.func64, Tryz.ntmps64
  go_wp2
  go_ret
  exact ⟨Zy59, Zy56⟩
 rw [if_neg c5] at H
 have c5b0 : (a0 == 65) = false := beq_eq_false_iff_ne.mpr c5
 have c5b1 : (a0 != 65) = true := bne_iff_ne.mpr c5
 by_cases c6 : a0 = 66
 ·rw [if_pos c6] at H
  have c6b0 : (a0 == 66) = true := beq_iff_eq.mpr c6
  have c6b1 : (a0 != 66) = false := bne_eq_false_iff_eq.mpr c6
  clear c6
  obtain rfl := Option.some.inj H
  go_enter Tryz.func64, Tryz.ntmps64
  go_wp2
  go_ret
  exact ⟨Zy59, Zy56⟩
 rw [if_neg c6] at H
 have c6b0 : (a0 == 66) = false := beq_eq_false_iff_ne.mpr c6
 have c6b1 : (a0 != 66) = true := bne_iff_ne.mpr c6
 by_cases c7 : a0 = 67
 ·rw [if_pos c7] at H
  have c7b0 : (a0 == 67) = true := beq_iff_eq.mpr c7
  have c7b1 : (a0 != 67) = false := bne_eq_false_iff_eq.mpr c7
  clear c7
  obtain rfl := Option.some.inj H
  go_enter Tryz.func64, Tryz.ntmps64
  go_wp2
  go_ret
  exact ⟨Zy59, Zy56⟩
 rw [if_neg c7] at H
 have c7b0 : (a0 == 67) = false := beq_eq_false_iff_ne.mpr c7
 have c7b1 : (a0 != 67) = true := bne_iff_ne.mpr c7
 by_cases c8 : a0 = 70
 ·rw [if_pos c8] at H
  have c8b0 : (a0 == 70) = true := beq_iff_eq.mpr c8
  have c8b1 : (a0 != 70) = false := bne_eq_false_iff_eq.mpr c8
  clear c8
  obtain rfl := Option.some.inj H
  go_enter Tryz.func64, Tryz.ntmps64
  go_wp2
  go_ret
  exact ⟨Zy59, Zy56⟩
 rw [if_neg c8] at H
 have c8b0 : (a0 == 70) = false := beq_eq_false_iff_ne.mpr c8
 have c8b1 : (a0 != 70) = true := bne_iff_ne.mpr c8
 by_cases c9 : a0 = 4
 ·rw [if_pos c9] at H
  have c9b0 : (a0 == 4) = true := beq_iff_eq.mpr c9
  have c9b1 : (a0 != 4) = false := bne_eq_false_iff_eq.mpr c9
  clear c9
  obtain rfl := Option.some.inj H
  go_enter Tryz.func64, Tryz.ntmps64
  go_wp2
  go_ret
  exact ⟨Zy59, Zy56⟩
 rw [if_neg c9] at H
 have c9b0 : (a0 == 4) = false := beq_eq_false_iff_ne.mpr c9
 have c9b1 : (a0 != 4) = true := bne_iff_ne.mpr c9
 by_cases c10 : a0 = 64
 ·rw [if_pos c10] at H
  have c10b0 : (a0 == 64) = true := beq_iff_eq.mpr c10
  have c10b1 : (a0 != 64) = false := bne_eq_false_iff_eq.mpr c10
  clear c10
  obtain rfl := Option.some.inj H
  go_enter Tryz.func64, Tryz.ntmps64
  go_wp2
  go_ret
  exact ⟨Zy59, Zy56⟩
 rw [if_neg c10] at H
 have c10b0 : (a0 == 64) = false := beq_eq_false_iff_ne.mpr c10
 have c10b1 : (a0 != 64) = true := bne_iff_ne.mpr c10
 by_cases c11 : a0 = 68
 rotate_left
 ·rw [if_neg c11] at H
  have c11b0 : (a0 == 68) = false := beq_eq_false_iff_ne.mpr c11
  have c11b1 : (a0 != 68) = true := bne_iff_ne.mpr c11
  obtain rfl := Option.some.inj H
  go_enter Tryz.func64, Tryz.ntmps64
  go_wp2
  go_ret
  exact ⟨Zy59, Zy56⟩
 rw [if_pos c11] at H
 have c11b0 : (a0 == 68) = true := beq_iff_eq.mpr c11
 have c11b1 : (a0 != 68) = false := bne_eq_false_iff_eq.mpr c11
 clear c11
 obtain rfl := Option.some.inj H
 go_enter Tryz.func64, Tryz.ntmps64
 go_wp2
 go_ret
 exact ⟨Zy59, Zy56⟩
def value_long.f (a0 : Int) (a1 : Int) : Option (Bool) := if a0 = 64 then (some (a1 == 4)) else (some (decide (a1 ≤ 65535)))
set_option maxHeartbeats 8000000 in
set_option maxRecDepth 100000 in
theorem value_long.calls (a0 : Int) (a1 : Int) (r : Bool) (w : World) (h : value_long.f a0 a1 = some r) :
  Calls Tryz.prog 91 #[.int .i64 a0, .int .i64 a1] w fun e w' => e = .returned (.bool r) ∧ Drawn0 w w' := by
 have H : (if a0 = 64 then (some (a1 == 4)) else (some (decide (a1 ≤ 65535)))) = some r := h
 clear h
 by_cases c3 : a0 = 64
 rotate_left
 ·rw [if_neg c3] at H
  have c3b0 : (a0 == 64) = false := beq_eq_false_iff_ne.mpr c3
  have c3b1 : (a0 != 64) = true := bne_iff_ne.mpr c3
  obtain rfl := Option.some.inj H
  go_enter Tryz.func91, Tryz.ntmps91
  go_wp2
  go_ret
  exact ⟨Zy59, Zy56⟩
 rw [if_pos c3] at H
 have c3b0 : (a0 == 64) = true := beq_iff_eq.mpr c3
 have c3b1 : (a0 != 64) = false := bne_eq_false_iff_eq.mpr c3
 clear c3
 obtain rfl := Option.some.inj H
 go_enter Tryz.func91, Tryz.ntmps91
 go_wp2
 go_ret
 exact ⟨Zy59, Zy56⟩
end Go.Proofs.YtfgdnnbhlnbojaaGreatDoor.XPdR
