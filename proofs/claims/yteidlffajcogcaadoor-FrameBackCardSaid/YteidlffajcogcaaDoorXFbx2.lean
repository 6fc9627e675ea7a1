-- Laid by extprint.py (the session's own driver): functions told by the kit's printer and by hand.
import Derived.Test.YteidlffajcogcaaDoorXFbx0
import Derived.Test.YteidlffajcogcaaDoorXFbx1
namespace Go.Proofs.YteidlffajcogcaaDoor.XFb
open Go.RowKit Gong Go.Proofs.YteidlffajcogcaaDoorW.PrintWords Go.Proofs.YteidlffajcogcaaDoorW.PrintLast Go.Proofs.YteidlffajcogcaaDoorW.PrintMore
attribute [local go_sem] max2_int min2_int max_two min_two max_three min_three max_four min_four   -- for this text's walks alone
set_option linter.unusedVariables false
set_option linter.unusedSimpArgs false

/-! ### frame_Frame: function 7 -/
def frame_Frame.f (a0 : ByteArray) : Option (ByteArray × Int) := if a0.toList = ([] : List UInt8) then (some ((⟨#[]⟩ : ByteArray), 1)) else (if (a0.size : Int) > 65535 then (some ((⟨#[]⟩ : ByteArray), 2)) else ((strconv_Itoa.f (a0.size : Int)).bind fun t103 => (if t103.size + 1 ≤ 9223372036854775807 then (if (t103 ++ (⟨#[32]⟩ : ByteArray)).size + a0.size ≤ 9223372036854775807 then (some ((t103 ++ (⟨#[32]⟩ : ByteArray)) ++ a0, 0)) else (none)) else (none))))
set_option maxHeartbeats 8000000 in
set_option maxRecDepth 100000 in
theorem frame_Frame.calls (a0 : ByteArray) (r1 : ByteArray) (r2 : Int) (w : World) (hG : Gl w) (h : frame_Frame.f a0 = some (r1, r2)) :
    Calls Tryd.prog 7 #[.string a0] w fun e w' => e = .returned (.tuple #[.string r1, .int .i64 r2]) ∧ Below w.heap.size w w' := by
  have HGl := Aside0.mk hG
  clear hG
  have HB := Aside0.mk (Below.refl w.heap.size w)
  have H : (if a0.toList = ([] : List UInt8) then (some ((⟨#[]⟩ : ByteArray), 1)) else (if (a0.size : Int) > 65535 then (some ((⟨#[]⟩ : ByteArray), 2)) else ((strconv_Itoa.f (a0.size : Int)).bind fun t103 => (if t103.size + 1 ≤ 9223372036854775807 then (if (t103 ++ (⟨#[32]⟩ : ByteArray)).size + a0.size ≤ 9223372036854775807 then (some ((t103 ++ (⟨#[32]⟩ : ByteArray)) ++ a0, 0)) else (none)) else (none))))) = some (r1, r2) := h
  clear h
  by_cases c2 : a0.toList = ([] : List UInt8)
  · rw [if_pos c2] at H
    have c2b0 : (a0.toList == ([] : List UInt8)) = true := beq_iff_eq.mpr c2
    have c2b1 : (a0.toList != ([] : List UInt8)) = false := bne_eq_false_iff_eq.mpr c2
    clear c2
    simp only [Option.some.injEq, Prod.mk.injEq] at H
    obtain ⟨rfl, rfl⟩ := H
    go_enter Tryd.func7, Tryd.ntmps7
    go_wp2
    go_ret2
    exact ⟨by first | rfl | (simp [errW_none, errW_some] <;> rfl) | (simp [*, errW_none, errW_some] <;> rfl), by repeat (first | (with_reducible first | exact HB.out | apply below_alloc | apply pw_below_drewN | apply below_drew1) | exact HB.out)⟩
  · rw [if_neg c2] at H
    have c2b0 : (a0.toList == ([] : List UInt8)) = false := beq_eq_false_iff_ne.mpr c2
    have c2b1 : (a0.toList != ([] : List UInt8)) = true := bne_iff_ne.mpr c2
    by_cases c3 : (a0.size : Int) > 65535
    · rw [if_pos c3] at H
      have c3b0 : decide (65535 < (a0.size : Int)) = true := decide_eq_true c3
      have c3b1 : decide (65535 < a0.size) = true := decide_eq_true (by omega)
      clear c3
      simp only [Option.some.injEq, Prod.mk.injEq] at H
      obtain ⟨rfl, rfl⟩ := H
      go_enter Tryd.func7, Tryd.ntmps7
      go_wp2
      go_ret2
      exact ⟨by first | rfl | (simp [errW_none, errW_some] <;> rfl) | (simp [*, errW_none, errW_some] <;> rfl), by repeat (first | (with_reducible first | exact HB.out | apply below_alloc | apply pw_below_drewN | apply below_drew1) | exact HB.out)⟩
    · rw [if_neg c3] at H
      have c3b0 : decide (65535 < (a0.size : Int)) = false := decide_eq_false c3
      have c3b1 : decide (65535 < a0.size) = false := decide_eq_false (by omega)
      clear c3
      replace H := Option.bind_eq_some_iff.mp H
      obtain ⟨t103, A40, H⟩ := H
      replace H : (if t103.size + 1 ≤ 9223372036854775807 then (if (t103 ++ (⟨#[32]⟩ : ByteArray)).size + a0.size ≤ 9223372036854775807 then (some ((t103 ++ (⟨#[32]⟩ : ByteArray)) ++ a0, 0)) else (none)) else (none)) = some (r1, r2) := H
      have A4 := Aside0.mk A40
      clear A40
      by_cases c5 : t103.size + 1 ≤ 9223372036854775807
      · rw [if_pos c5] at H
        have c5b0 := eq_true c5
        have c5b1 : decide (t103.size + 1 ≤ 9223372036854775807) = true := decide_eq_true c5
        try have c5b2 : (9223372036854775807 < t103.size + 1) = False := eq_false (Nat.not_lt.2 c5)
        by_cases c6 : (t103 ++ (⟨#[32]⟩ : ByteArray)).size + a0.size ≤ 9223372036854775807
        · rw [if_pos c6] at H
          have c6b0 := eq_true c6
          have c6b1 : decide ((t103 ++ (⟨#[32]⟩ : ByteArray)).size + a0.size ≤ 9223372036854775807) = true := decide_eq_true c6
          try have c6b2 : (9223372036854775807 < (t103 ++ (⟨#[32]⟩ : ByteArray)).size + a0.size) = False := eq_false (Nat.not_lt.2 c6)
          have c6z2 := c6b2
          simp only [ByteArray.size_append] at c6z2
          simp only [Option.some.injEq, Prod.mk.injEq] at H
          obtain ⟨rfl, rfl⟩ := H
          go_enter Tryd.func7, Tryd.ntmps7
          go_wp2_with (first | ((with_reducible refine gate_callee (f := 19) rfl ?_); refine goesL_ (some 13) rfl rfl Tryd.func19 (by kernel_rfl) rfl #[.int .i64 (a0.size : Int)] rfl (by (try simp only [List.map_toArray, List.map_cons, List.map_nil]); first | done | rfl | (simp only [List.length_drop, List.length_take]; rfl)) ?_; (with_reducible refine (strconv_Itoa.calls (a0.size : Int) t103 _ ?side1 A4.out).mono ?_); (case side1 => first | exact HGl.out | exact HGl.out.below (by repeat (first | (with_reducible first | exact HB.out | apply below_alloc | apply pw_below_drewN | apply below_drew1) | exact HB.out | exact Below.refl _ _))); rintro e w7 ⟨rfl, hb⟩; refine ⟨_, rfl, ?_⟩; have n0_ := Aside0.mk (below_step (by repeat (first | (with_reducible first | exact HB.out | apply below_alloc | apply pw_below_drewN | apply below_drew1) | exact HB.out)) hb); clear HB; have HB := n0_; clear n0_; (try clear hb); (try clear hb2); (try clear hk); (try clear hi)))
          go_ret2
          exact ⟨by first | rfl | (simp [errW_none, errW_some] <;> rfl) | (simp [*, errW_none, errW_some] <;> rfl), by repeat (first | (with_reducible first | exact HB.out | apply below_alloc | apply pw_below_drewN | apply below_drew1) | exact HB.out)⟩
        · rw [if_neg c6] at H
          exact absurd H (by simp)
      · rw [if_neg c5] at H
        exact absurd H (by simp)

/-! ### gongbook_Below: function 20 -/
def gongbook_Below.f (a0 : Int) (a1 : Int) : Option (Int) := if a1 = 0 then (none) else (some (Int.tmod (wrap64 ((Int.tmod a0 a1) + a1)) a1))
set_option maxHeartbeats 8000000 in
set_option maxRecDepth 100000 in
theorem gongbook_Below.calls (a0 : Int) (a1 : Int) (r : Int) (w : World) (h : gongbook_Below.f a0 a1 = some r) :
    Calls Tryd.prog 20 #[.int .i64 a0, .int .i64 a1] w fun e w' => e = .returned (.int .i64 r) ∧ Drawn0 w w' := by
  have H : (if a1 = 0 then (none) else (some (Int.tmod (wrap64 ((Int.tmod a0 a1) + a1)) a1))) = some r := h
  clear h
  by_cases c3 : a1 = 0
  · rw [if_pos c3] at H
    exact absurd H (by simp)
  · rw [if_neg c3] at H
    have c3b0 : (a1 == 0) = false := beq_eq_false_iff_ne.mpr c3
    have c3b1 : (a1 != 0) = true := bne_iff_ne.mpr c3
    obtain rfl := Option.some.inj H
    go_enter Tryd.func20, Tryd.ntmps20
    go_wp2
    go_ret
    exact ⟨by first | rfl | (simp; done) | (simp [*]; done), by repeat (first | exact Drawn0.refl _ | apply Drawn0.step)⟩

/-! ### frame_Framer_Dead: function 21 -/
set_option maxHeartbeats 1600000 in
set_option maxRecDepth 100000 in
theorem frame_Framer_Dead.calls (B g : Nat) (F : Fm) (bv : Value) (w : World) (hF : FmAt w B g F bv) :
    Calls Tryd.prog 21 #[.pointer (some ⟨g, 0, none⟩)] w fun e w' => e = .returned (.bool (F.state == 3)) ∧ Mv (fun _ => False) w w' := by
  have hc1 := blk_cell hF.blk 1
  clear hF
  go_enter Tryd.func21, Tryd.ntmps21
  go_wp2
  go_ret
  exact ⟨rfl, Mv.refl _ _⟩

/-! ### gonglaw12_fed: function 8 -/
/-- What a framer tells of a stream that is cut: round by round. -/
def gonglaw12_fed.l0 : Nat → ByteArray → List Int → Fm → List ByteArray → Int → Int → Option (List ByteArray × Bool × Int)
  | 0, _, _, _, _, _, _ => none
  | k + 1, s, cuts, F, out, fr, i =>
    if i ≤ (cuts.length : Int) then
      (if i < (cuts.length : Int) then (if 0 ≤ i then (gongbook_Below.f (rd cuts i) (wrap64 (wrap64 ((s.size : Int) - fr) + 1))).bind fun t => some (wrap64 (fr + t)) else none) else some (s.size : Int)).bind fun tz =>
        if 0 ≤ fr then if fr ≤ tz then if tz ≤ (s.size : Int) then
          (Fm.feed k F (s.extract fr.toNat tz.toNat)).bind fun m =>
            if (out.length + m.1.length) * 16 ≤ 140737488355328 then gonglaw12_fed.l0 k s cuts m.2.2 (out ++ m.1) tz (wrap64 (i + 1)) else none
        else none else none else none
    else some (out, F.state == 3, F.held)
def gonglaw12_fed.f (k : Nat) (a0 : Int) (a1 : ByteArray) (l2 : List Int) : Option (List ByteArray × Bool × Int) :=
  if 1 ≤ a0 ∧ a0 ≤ 65535 then gonglaw12_fed.l0 k a1 l2 ⟨a0, 0, 0, 0, [], 0⟩ [] 0 0 else some ([], false, -1)
theorem gonglaw12_fed.mono_l0 : ∀ k s cuts F out fr i, LeO (gonglaw12_fed.l0 k s cuts F out fr i) (gonglaw12_fed.l0 (k + 1) s cuts F out fr i)
  | 0, _, _, _, _, _, _ => fun r h => by simp [gonglaw12_fed.l0] at h
  | k + 1, s, cuts, F, out, fr, i => by
    unfold gonglaw12_fed.l0
    exact LeO.ite (LeO.bind (LeO.refl _) (fun _ => LeO.ite (LeO.ite (LeO.ite (LeO.bind (Fm.feed_mono _ _ _) (fun _ => LeO.ite (gonglaw12_fed.mono_l0 k _ _ _ _ _ _) (LeO.refl _))) (LeO.refl _)) (LeO.refl _)) (LeO.refl _))) (LeO.refl _)
theorem gonglaw12_fed.mono : ∀ a0 a1 l2 k, LeO (gonglaw12_fed.f k a0 a1 l2) (gonglaw12_fed.f (k + 1) a0 a1 l2) := by
  intro a0 a1 l2 k
  unfold gonglaw12_fed.f
  exact LeO.ite (gonglaw12_fed.mono_l0 _ _ _ _ _ _ _) (LeO.refl _)
theorem Fm.frm_str2 : (Tryd.prog.info? 9).map (fun i => (i.zero, i.size, i.bytes)) = some (some (.string ⟨#[]⟩), 1, 16) := by kernel_rfl
set_option maxHeartbeats 4000000 in
set_option maxRecDepth 100000 in
theorem gonglaw12_fed.calls (k : Nat) (a0 : Int) (a1 : ByteArray) (A2 : Option Addr) (c2 : Nat) (l2 : List Int) (r1 : List ByteArray) (r2 : Bool) (r3 : Int) (w : World) (hr2 : Kd.C (Kd.int .i64) w A2 l2.length l2) (hc2 : l2.length ≤ c2) (h : gonglaw12_fed.f k a0 a1 l2 = some (r1, r2, r3)) :
    Calls Tryd.prog 8 #[.int .i64 a0, .string a1, .slice A2 l2.length c2] w fun e w' => ∃ v0_ : Value, e = .returned (.tuple #[v0_, .bool r2, .int .i64 r3]) ∧ Kd.R Kd.string 9 w' w.heap.size (fun _ => True) v0_ r1 ∧ Below w.heap.size w w' := by
  have HR2 := Aside0.mk hr2
  have HC2 := Aside0.mk hc2
  clear hr2 hc2
  unfold gonglaw12_fed.f at h
  go_enter Tryd.func8, Tryd.ntmps8
  by_cases hm : 1 ≤ a0 ∧ a0 ≤ 65535
  · rw [if_pos hm] at h
    have H := Aside0.mk h
    have A0 := Aside0.mk (frame_New.ok a0 w hm.1 hm.2)
    clear h hm
    go_wp2_with fail
    refine A0.out.mono ?_
    rintro e w1 ⟨rfl, hF1, hm1⟩
    have hg1 := hF1.lt
    obtain ⟨g, hg⟩ : ∃ g, g = w.heap.size := ⟨_, rfl⟩
    rw [← hg] at hF1 hg1 ⊢
    have HG := Aside0.mk hg
    have HG1 := Aside0.mk hg1
    have HM1 := Aside0.mk hm1
    have HF1 := Aside0.mk hF1
    clear hg hg1 hm1 hF1 A0
    go_wp2
    go_loopg [11, 12, 13] k (fun kq v11 v12 v13 W => ∃ (F1 : Fm) (bv1 : Value) (o1 : List ByteArray) (fr i : Int), v12 = .int .i64 fr ∧ v13 = .int .i64 i ∧ Aside0 (Kd.R Kd.string 9 W (g + 1) (fun _ => True) v11 o1) ∧ Aside0 (FmAt W g g F1 bv1) ∧ Aside0 (∀ k, bv1.ownBlock = some k → g + 1 ≤ k) ∧ Aside0 (Below w.heap.size w W) ∧ Aside0 (kq ≤ k) ∧ Aside0 (gonglaw12_fed.l0 kq a1 l2 F1 o1 fr i = some (r1, r2, r3)))
    case atStart => exact ⟨_, .slice none 0 0, [], 0, 0, rfl, rfl, ⟨Kd.R_nil _ _ _ _ _⟩, HF1, ⟨fun k hk => by simp [Value.ownBlock] at hk⟩, ⟨Mv.below (HM1.out) (Nat.le_refl _) (fun _ h => h.elim)⟩, ⟨Nat.le_refl _⟩, H⟩
    case round =>
      clear HF1 H HM1
      obtain ⟨F1, bv1, o1, fr, i, rfl, rfl, HO, HF, HN, HB, HK, H⟩ := hrel
      obtain ⟨ki, rfl⟩ : ∃ ki, gk = ki + 1 := by
        cases gk with
        | zero => exact absurd H.out (by simp [gonglaw12_fed.l0])
        | succ ki => exact ⟨ki, rfl⟩
      have h := H.out
      simp only [gonglaw12_fed.l0] at h
      clear H
      by_cases c1 : i ≤ (l2.length : Int)
      · rw [if_pos c1] at h
        obtain ⟨tz, ht, h⟩ := Option.bind_eq_some_iff.mp h
        have H := Aside0.mk h
        have HT := Aside0.mk ht
        have e1 : decide (i ≤ (l2.length : Int)) = true := decide_eq_true c1
        clear h ht c1
        go_upto_if 39 with (fail)
        go_cut [14] (fun v14 wc => v14 = .int .i64 tz ∧ ∃ m, wc = wr.drewN m)
        case first =>
          have ht := HT.out
          by_cases c2 : i < (l2.length : Int)
          · rw [if_pos c2] at ht
            by_cases c3 : 0 ≤ i
            · rw [if_pos c3] at ht
              obtain ⟨t, ht1, ht2⟩ := Option.bind_eq_some_iff.mp ht
              have HT1 := Aside0.mk ht1
              injection ht2 with ht2
              subst ht2
              clear ht ht1
              obtain ⟨ad, e2, hx⟩ := Kd.at_int HR2.out i c3 c2
              subst e2
              replace hx := (HB.out.cell (World.block_lt_of_cell? w _ hx)).trans hx
              have e3 : decide (i < (l2.length : Int)) = true := decide_eq_true c2
              have c3' := eq_true c3
              have c2' := eq_true c2
              clear c2 c3
              rw [e3]
              go_wp2_with fail
              refine (gongbook_Below.calls _ _ t _ HT1.out).mono ?_
              rintro e w3 ⟨rfl, m3, rfl⟩
              go_wp2
              go_meet
              case rel => exact ⟨rfl, m3, rfl⟩
            · rw [if_neg c3] at ht
              exact absurd ht (by simp)
          · rw [if_neg c2] at ht
            injection ht with ht
            subst ht
            have e3 : decide (i < (l2.length : Int)) = false := decide_eq_false c2
            clear c2
            rw [e3]
            go_wp2
            go_meet
            case rel => exact ⟨rfl, 0, rfl⟩
        case rest =>
          obtain ⟨rfl, m3, rfl⟩ := hcut
          have h := H.out
          clear H HT e1
          by_cases c4 : 0 ≤ fr
          · rw [if_pos c4] at h
            by_cases c5 : fr ≤ tz
            · rw [if_pos c5] at h
              by_cases c6 : tz ≤ (a1.size : Int)
              · rw [if_pos c6] at h
                obtain ⟨⟨ms, cd, F2⟩, hf, h⟩ := Option.bind_eq_some_iff.mp h
                simp only at h
                by_cases c7 : (o1.length + ms.length) * 16 ≤ 140737488355328
                · rw [if_pos c7] at h
                  have H := Aside0.mk h
                  have HH := Aside0.mk hf
                  have H7 := Aside0.mk c7
                  clear h hf c7
                  have c4' := eq_true c4
                  have c5' := eq_true c5
                  have c6' := eq_true c6
                  have HFW := Aside0.mk (HF.out.mv ((Mv.refl (fun _ => False) wr).drewN m3) id (fun _ _ => id))
                  obtain ⟨wq, hwq⟩ : ∃ wq : World, wq = wr.drewN m3 := ⟨_, rfl⟩
                  have HOQ := Aside0.mk (Kd.R_drewN HO.out m3)
                  have HBQ := Aside0.mk (pw_below_drewN HB.out m3)
                  rw [← hwq] at HFW HOQ HBQ ⊢
                  clear hwq
                  have AF := Aside0.mk (frame_Framer_Feed.calls ki g g F1 F2 bv1 (a1.extract fr.toNat tz.toNat) ms cd wq HFW.out (Nat.le_of_lt HFW.out.lt) HH.out)
                  clear c4 c5 c6
                  go_wp2_with fail
                  refine AF.out.mono ?_
                  rintro e w4 ⟨mv, bv2, rfl, hr4, hF4, ho4, hm4⟩
                  have HR4 := Aside0.mk hr4
                  have HF4 := Aside0.mk hF4
                  have HN4 := Aside0.mk (show ∀ k, bv2.ownBlock = some k → g + 1 ≤ k from fun k hk => by
                    rcases ho4 k hk with h | h
                    · exact HN.out k h
                    · have := HFW.out.lt
                      omega)
                  have HO4 := Aside0.mk (R_fm (w0 := 0) HOQ.out HFW.out (Nat.lt_succ_self g) hm4)
                  have HB4 := Aside0.mk (Below.trans HBQ.out (Mv.below (B := w.heap.size) hm4 (by have := HFW.out.lt; have := HG.out; omega) (fun k hk => by
                    rcases hk with hk | hk
                    · have := HG.out; omega
                    · have := HN.out k hk; have := HG.out; omega)))
                  clear hr4 hF4 ho4 hm4 AF
                  obtain ⟨P4, q4, rfl, hq4, hC4⟩ := Kd.R_reads HR4.out
                  have HC4 := Aside0.mk hC4
                  clear hC4 hq4
                  have HUB := Aside0.mk (Kd.R_bound HO4.out).1
                  have HGG := Aside0.mk (show some g ≠ u11.ownBlock from fun e => by
                      have := (HUB.out g e.symm).2.1
                      omega)
                  have HBB := Aside0.mk (show ∀ k, bv2.ownBlock = some k → ¬ u11.ownBlock = some k from fun k h1 h2 => by
                      obtain ⟨cells1, h3⟩ := own_typed HF4.out.row k h1
                      obtain ⟨_, _, _, q, h4, cells2, h5⟩ := HUB.out k h2
                      rw [h3] at h5
                      have hq9 : q = 9 := by simpa [Kd.string, Kd.scalar] using h4
                      subst hq9
                      injection h5 with h5
                      injection h5 with _ h6 _
                      exact absurd h6 (by decide))
                  go_wp2_with (at_builtin; refine Kd.R_append_rows Kd.string (w0 := w4) (W := w4) (g + 1) rfl (.tmp 61) (.tmp 62) 22 9 (.string ⟨#[]⟩) 16 rfl Tryd.underlying22 Fm.frm_str2 rfl (by decide) (by omega) u11 o1 ms P4 ms.length q4 (fun _ => True) (fun _ => False) rfl rfl HO4.out HC4.out (fun _ _ h => h) (fun _ hk => hk.elim) (fun _ _ => trivial) (Below.refl _ _) (by have := HF4.out.lt; omega) H7.out ?_; intro v5 w5 ho hb hg5 hat)
                  have hmv5 : Mv (fun k => u11.ownBlock = some k) w4 w5 := (Mv.refl _ w4).grown hg5 (fun k hk _ => hk)
                  have HF5 := Aside0.mk (HF4.out.mv hmv5 (fun e => HGG.out e.symm) HBB.out)
                  have HO5 := Aside0.mk ho
                  have HB5 := Aside0.mk (Below.trans HB4.out (Mv.below (B := w.heap.size) hmv5 HB4.out.size (fun k hk => by have := (HUB.out k hk).2.1; have := HG.out; omega)))
                  clear ho hb hg5 hat hmv5
                  go_wp2
                  go_roundg ki
                  case measure => have := HK.out; omega
                  case rel => exact ⟨F2, bv2, _, tz, _, rfl, rfl, HO5, HF5, HN4, HB5, ⟨by have := HK.out; omega⟩, H⟩
                · rw [if_neg c7] at h
                  exact absurd h (by simp)
              · rw [if_neg c6] at h
                exact absurd h (by simp)
            · rw [if_neg c5] at h
              exact absurd h (by simp)
          · rw [if_neg c4] at h
            exact absurd h (by simp)
      · rw [if_neg c1] at h
        simp only [Option.some.injEq, Prod.mk.injEq] at h
        obtain ⟨rfl, rfl, rfl⟩ := h
        have e1 : decide (i ≤ (l2.length : Int)) = false := decide_eq_false c1
        clear c1
        have AD := Aside0.mk (frame_Framer_Dead.calls g g F1 bv1 wr HF.out)
        go_wp2_with fail
        refine AD.out.mono ?_
        rintro e w3 ⟨rfl, hm3⟩
        have HF3 := Aside0.mk (HF.out.mv hm3 id (fun _ _ => id))
        have HM3 := Aside0.mk hm3
        have AH := Aside0.mk (frame_Framer_Held.calls g g F1 bv1 w3 HF3.out)
        clear hm3 AD
        go_wp2_with fail
        refine AH.out.mono ?_
        rintro e w4 ⟨rfl, hm4⟩
        have HM4 := Aside0.mk hm4
        clear hm4 AH
        go_wp2
        go_ret3
        have hmv := HM3.out.trans HM4.out (fun _ _ h => h)
        exact ⟨u11, rfl, Kd.R_lower (R_mv HO.out hmv (fun _ _ _ _ _ _ h => h)) (by have := HG.out; omega), Below.trans HB.out (Mv.below hmv HB.out.size (fun _ h => h.elim))⟩
  · rw [if_neg hm] at h
    simp only [Option.some.injEq, Prod.mk.injEq] at h
    obtain ⟨rfl, rfl, rfl⟩ := h
    have A0 := Aside0.mk (frame_New.bad a0 w (by omega))
    clear hm
    go_wp2_with fail
    refine A0.out.mono ?_
    rintro e w1 ⟨rfl, rfl⟩
    go_wp2
    go_ret3
    exact ⟨_, rfl, Kd.R_nil _ _ _ _ _, Below.refl _ _⟩

end Go.Proofs.YteidlffajcogcaaDoor.XFb
