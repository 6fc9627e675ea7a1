-- Laid by extprint.py (the session's own driver): functions told by the kit's printer and by hand.
import Derived.Test.YteidlffajcogcaaXFrx0
import Derived.Test.YteidlffajcogcaaXFrx1
namespace Go.Proofs.Yteidlffajcogcaa.XFr
open Go.RowKit Gong Go.Proofs.YteidlffajcogcaaW.PrintWords Go.Proofs.YteidlffajcogcaaW.PrintLast Go.Proofs.YteidlffajcogcaaW.PrintMore
attribute [local go_sem] max2_int min2_int max_two min_two max_three min_three max_four min_four   -- for this text's walks alone
set_option linter.unusedVariables false
set_option linter.unusedSimpArgs false

/-! ### gonglaw12_fed: function 15 -/
/-- What a framer tells of a stream that is cut: round by round. -/
def gonglaw12_fed.l0 : Nat → ByteArray → List Int → Fm → List ByteArray → Int → Int → Option (List ByteArray × Bool × Int)
  | 0, _, _, _, _, _, _ => none
  | k + 1, s, cuts, F, out, fr, i =>
    if i ≤ (cuts.length : Int) then
      (if i < (cuts.length : Int) then (if 0 ≤ i then (gongbook_Below.f (rd cuts i) (wrap64 (wrap64 ((s.size : Int) - fr) + 1))).bind fun t => some (wrap64 (fr + t)) else none) else some (s.size : Int)).bind fun tz =>
        if 0 ≤ fr then if fr ≤ tz then if tz ≤ (s.size : Int) then
          (Fm.feed k F (s.extract fr.toNat tz.toNat)).bind fun m =>
            if (out.length + m.1.length) * 16 ≤ 140737488355328 then gonglaw12_fed.l0 k s cuts m.2.2 (out ++ m.1) tz (wrap64 (i + 1)) else none
        else none else none else none
    else some (out, F.state == 3, F.held)
def gonglaw12_fed.f (k : Nat) (a0 : Int) (a1 : ByteArray) (l2 : List Int) : Option (List ByteArray × Bool × Int) :=
  if 1 ≤ a0 ∧ a0 ≤ 65535 then gonglaw12_fed.l0 k a1 l2 ⟨a0, 0, 0, 0, [], 0⟩ [] 0 0 else some ([], false, -1)
theorem gonglaw12_fed.mono_l0 : ∀ k s cuts F out fr i, LeO (gonglaw12_fed.l0 k s cuts F out fr i) (gonglaw12_fed.l0 (k + 1) s cuts F out fr i)
  | 0, _, _, _, _, _, _ => fun r h => by simp [gonglaw12_fed.l0] at h
  | k + 1, s, cuts, F, out, fr, i => by
    unfold gonglaw12_fed.l0
    exact LeO.ite (LeO.bind (LeO.refl _) (fun _ => LeO.ite (LeO.ite (LeO.ite (LeO.bind (Fm.feed_mono _ _ _) (fun _ => LeO.ite (gonglaw12_fed.mono_l0 k _ _ _ _ _ _) (LeO.refl _))) (LeO.refl _)) (LeO.refl _)) (LeO.refl _))) (LeO.refl _)
theorem gonglaw12_fed.mono : ∀ a0 a1 l2 k, LeO (gonglaw12_fed.f k a0 a1 l2) (gonglaw12_fed.f (k + 1) a0 a1 l2) := by
  intro a0 a1 l2 k
  unfold gonglaw12_fed.f
  exact LeO.ite (gonglaw12_fed.mono_l0 _ _ _ _ _ _ _) (LeO.refl _)
theorem Fm.frm_str2 : (Try.prog.info? 9).map (fun i => (i.zero, i.size, i.bytes)) = some (some (.string ⟨#[]⟩), 1, 16) := by kernel_rfl
set_option maxHeartbeats 4000000 in
set_option maxRecDepth 100000 in
theorem gonglaw12_fed.calls (k : Nat) (a0 : Int) (a1 : ByteArray) (A2 : Option Addr) (c2 : Nat) (l2 : List Int) (r1 : List ByteArray) (r2 : Bool) (r3 : Int) (w : World) (hr2 : Kd.C (Kd.int .i64) w A2 l2.length l2) (hc2 : l2.length ≤ c2) (h : gonglaw12_fed.f k a0 a1 l2 = some (r1, r2, r3)) :
    Calls Try.prog 15 #[.int .i64 a0, .string a1, .slice A2 l2.length c2] w fun e w' => ∃ v0_ : Value, e = .returned (.tuple #[v0_, .bool r2, .int .i64 r3]) ∧ Kd.R Kd.string 9 w' w.heap.size (fun _ => True) v0_ r1 ∧ Below w.heap.size w w' := by
  have HR2 := Aside0.mk hr2
  have HC2 := Aside0.mk hc2
  clear hr2 hc2
  unfold gonglaw12_fed.f at h
  go_enter Try.func15, Try.ntmps15
  by_cases hm : 1 ≤ a0 ∧ a0 ≤ 65535
  · rw [if_pos hm] at h
    have H := Aside0.mk h
    have A0 := Aside0.mk (frame_New.ok a0 w hm.1 hm.2)
    clear h hm
    go_wp2_with fail
    refine A0.out.mono ?_
    rintro e w1 ⟨rfl, hF1, hm1⟩
    have hg1 := hF1.lt
    obtain ⟨g, hg⟩ : ∃ g, g = w.heap.size := ⟨_, rfl⟩
    rw [← hg] at hF1 hg1 ⊢
    have HG := Aside0.mk hg
    have HG1 := Aside0.mk hg1
    have HM1 := Aside0.mk hm1
    have HF1 := Aside0.mk hF1
    clear hg hg1 hm1 hF1 A0
    go_wp2
    go_loopg [11, 12, 13] k (fun kq v11 v12 v13 W => ∃ (F1 : Fm) (bv1 : Value) (o1 : List ByteArray) (fr i : Int), v12 = .int .i64 fr ∧ v13 = .int .i64 i ∧ Aside0 (Kd.R Kd.string 9 W (g + 1) (fun _ => True) v11 o1) ∧ Aside0 (FmAt W g g F1 bv1) ∧ Aside0 (∀ k, bv1.ownBlock = some k → g + 1 ≤ k) ∧ Aside0 (Below w.heap.size w W) ∧ Aside0 (kq ≤ k) ∧ Aside0 (gonglaw12_fed.l0 kq a1 l2 F1 o1 fr i = some (r1, r2, r3)))
    case atStart => exact ⟨_, .slice none 0 0, [], 0, 0, rfl, rfl, ⟨Kd.R_nil _ _ _ _ _⟩, HF1, ⟨fun k hk => by simp [Value.ownBlock] at hk⟩, ⟨Mv.below (HM1.out) (Nat.le_refl _) (fun _ h => h.elim)⟩, ⟨Nat.le_refl _⟩, H⟩
    case round =>
      clear HF1 H HM1
      obtain ⟨F1, bv1, o1, fr, i, rfl, rfl, HO, HF, HN, HB, HK, H⟩ := hrel
      obtain ⟨ki, rfl⟩ : ∃ ki, gk = ki + 1 := by
        cases gk with
        | zero => exact absurd H.out (by simp [gonglaw12_fed.l0])
        | succ ki => exact ⟨ki, rfl⟩
      have h := H.out
      simp only [gonglaw12_fed.l0] at h
      clear H
      by_cases c1 : i ≤ (l2.length : Int)
      · rw [if_pos c1] at h
        obtain ⟨tz, ht, h⟩ := Option.bind_eq_some_iff.mp h
        have H := Aside0.mk h
        have HT := Aside0.mk ht
        have e1 : decide (i ≤ (l2.length : Int)) = true := decide_eq_true c1
        clear h ht c1
        go_upto_if 39 with (fail)
        go_cut [14] (fun v14 wc => v14 = .int .i64 tz ∧ ∃ m, wc = wr.drewN m)
        case first =>
          have ht := HT.out
          by_cases c2 : i < (l2.length : Int)
          · rw [if_pos c2] at ht
            by_cases c3 : 0 ≤ i
            · rw [if_pos c3] at ht
              obtain ⟨t, ht1, ht2⟩ := Option.bind_eq_some_iff.mp ht
              have HT1 := Aside0.mk ht1
              injection ht2 with ht2
              subst ht2
              clear ht ht1
              obtain ⟨ad, e2, hx⟩ := Kd.at_int HR2.out i c3 c2
              subst e2
              replace hx := (HB.out.cell (World.block_lt_of_cell? w _ hx)).trans hx
              have e3 : decide (i < (l2.length : Int)) = true := decide_eq_true c2
              have c3' := eq_true c3
              have c2' := eq_true c2
              clear c2 c3
              rw [e3]
              go_wp2_with fail
              refine (gongbook_Below.calls _ _ t _ HT1.out).mono ?_
              rintro e w3 ⟨rfl, m3, rfl⟩
              go_wp2
              go_meet
              case rel => exact ⟨rfl, m3, rfl⟩
            · rw [if_neg c3] at ht
              exact absurd ht (by simp)
          · rw [if_neg c2] at ht
            injection ht with ht
            subst ht
            have e3 : decide (i < (l2.length : Int)) = false := decide_eq_false c2
            clear c2
            rw [e3]
            go_wp2
            go_meet
            case rel => exact ⟨rfl, 0, rfl⟩
        case rest =>
          obtain ⟨rfl, m3, rfl⟩ := hcut
          have h := H.out
          clear H HT e1
          by_cases c4 : 0 ≤ fr
          · rw [if_pos c4] at h
            by_cases c5 : fr ≤ tz
            · rw [if_pos c5] at h
              by_cases c6 : tz ≤ (a1.size : Int)
              · rw [if_pos c6] at h
                obtain ⟨⟨ms, cd, F2⟩, hf, h⟩ := Option.bind_eq_some_iff.mp h
                simp only at h
                by_cases c7 : (o1.length + ms.length) * 16 ≤ 140737488355328
                · rw [if_pos c7] at h
                  have H := Aside0.mk h
                  have HH := Aside0.mk hf
                  have H7 := Aside0.mk c7
                  clear h hf c7
                  have c4' := eq_true c4
                  have c5' := eq_true c5
                  have c6' := eq_true c6
                  have HFW := Aside0.mk (HF.out.mv ((Mv.refl (fun _ => False) wr).drewN m3) id (fun _ _ => id))
                  obtain ⟨wq, hwq⟩ : ∃ wq : World, wq = wr.drewN m3 := ⟨_, rfl⟩
                  have HOQ := Aside0.mk (Kd.R_drewN HO.out m3)
                  have HBQ := Aside0.mk (pw_below_drewN HB.out m3)
                  rw [← hwq] at HFW HOQ HBQ ⊢
                  clear hwq
                  have AF := Aside0.mk (frame_Framer_Feed.calls ki g g F1 F2 bv1 (a1.extract fr.toNat tz.toNat) ms cd wq HFW.out (Nat.le_of_lt HFW.out.lt) HH.out)
                  clear c4 c5 c6
                  go_wp2_with fail
                  refine AF.out.mono ?_
                  rintro e w4 ⟨mv, bv2, rfl, hr4, hF4, ho4, hm4⟩
                  have HR4 := Aside0.mk hr4
                  have HF4 := Aside0.mk hF4
                  have HN4 := Aside0.mk (show ∀ k, bv2.ownBlock = some k → g + 1 ≤ k from fun k hk => by
                    rcases ho4 k hk with h | h
                    · exact HN.out k h
                    · have := HFW.out.lt
                      omega)
                  have HO4 := Aside0.mk (R_fm (w0 := 0) HOQ.out HFW.out (Nat.lt_succ_self g) hm4)
                  have HB4 := Aside0.mk (Below.trans HBQ.out (Mv.below (B := w.heap.size) hm4 (by have := HFW.out.lt; have := HG.out; omega) (fun k hk => by
                    rcases hk with hk | hk
                    · have := HG.out; omega
                    · have := HN.out k hk; have := HG.out; omega)))
                  clear hr4 hF4 ho4 hm4 AF
                  obtain ⟨P4, q4, rfl, hq4, hC4⟩ := Kd.R_reads HR4.out
                  have HC4 := Aside0.mk hC4
                  clear hC4 hq4
                  have HUB := Aside0.mk (Kd.R_bound HO4.out).1
                  have HGG := Aside0.mk (show some g ≠ u11.ownBlock from fun e => by
                      have := (HUB.out g e.symm).2.1
                      omega)
                  have HBB := Aside0.mk (show ∀ k, bv2.ownBlock = some k → ¬ u11.ownBlock = some k from fun k h1 h2 => by
                      obtain ⟨cells1, h3⟩ := own_typed HF4.out.row k h1
                      obtain ⟨_, _, _, q, h4, cells2, h5⟩ := HUB.out k h2
                      rw [h3] at h5
                      have hq9 : q = 9 := by simpa [Kd.string, Kd.scalar] using h4
                      subst hq9
                      injection h5 with h5
                      injection h5 with _ h6 _
                      exact absurd h6 (by decide))
                  go_wp2_with (at_builtin; refine Kd.R_append_rows Kd.string (w0 := w4) (W := w4) (g + 1) rfl (.tmp 61) (.tmp 62) 25 9 (.string ⟨#[]⟩) 16 rfl Try.underlying25 Fm.frm_str2 rfl (by decide) (by omega) u11 o1 ms P4 ms.length q4 (fun _ => True) (fun _ => False) rfl rfl HO4.out HC4.out (fun _ _ h => h) (fun _ hk => hk.elim) (fun _ _ => trivial) (Below.refl _ _) (by have := HF4.out.lt; omega) H7.out ?_; intro v5 w5 ho hb hg5 hat)
                  have hmv5 : Mv (fun k => u11.ownBlock = some k) w4 w5 := (Mv.refl _ w4).grown hg5 (fun k hk _ => hk)
                  have HF5 := Aside0.mk (HF4.out.mv hmv5 (fun e => HGG.out e.symm) HBB.out)
                  have HO5 := Aside0.mk ho
                  have HB5 := Aside0.mk (Below.trans HB4.out (Mv.below (B := w.heap.size) hmv5 HB4.out.size (fun k hk => by have := (HUB.out k hk).2.1; have := HG.out; omega)))
                  clear ho hb hg5 hat hmv5
                  go_wp2
                  go_roundg ki
                  case measure => have := HK.out; omega
                  case rel => exact ⟨F2, bv2, _, tz, _, rfl, rfl, HO5, HF5, HN4, HB5, ⟨by have := HK.out; omega⟩, H⟩
                · rw [if_neg c7] at h
                  exact absurd h (by simp)
              · rw [if_neg c6] at h
                exact absurd h (by simp)
            · rw [if_neg c5] at h
              exact absurd h (by simp)
          · rw [if_neg c4] at h
            exact absurd h (by simp)
      · rw [if_neg c1] at h
        simp only [Option.some.injEq, Prod.mk.injEq] at h
        obtain ⟨rfl, rfl, rfl⟩ := h
        have e1 : decide (i ≤ (l2.length : Int)) = false := decide_eq_false c1
        clear c1
        have AD := Aside0.mk (frame_Framer_Dead.calls g g F1 bv1 wr HF.out)
        go_wp2_with fail
        refine AD.out.mono ?_
        rintro e w3 ⟨rfl, hm3⟩
        have HF3 := Aside0.mk (HF.out.mv hm3 id (fun _ _ => id))
        have HM3 := Aside0.mk hm3
        have AH := Aside0.mk (frame_Framer_Held.calls g g F1 bv1 w3 HF3.out)
        clear hm3 AD
        go_wp2_with fail
        refine AH.out.mono ?_
        rintro e w4 ⟨rfl, hm4⟩
        have HM4 := Aside0.mk hm4
        clear hm4 AH
        go_wp2
        go_ret3
        have hmv := HM3.out.trans HM4.out (fun _ _ h => h)
        exact ⟨u11, rfl, Kd.R_lower (R_mv HO.out hmv (fun _ _ _ _ _ _ h => h)) (by have := HG.out; omega), Below.trans HB.out (Mv.below hmv HB.out.size (fun _ h => h.elim))⟩
  · rw [if_neg hm] at h
    simp only [Option.some.injEq, Prod.mk.injEq] at h
    obtain ⟨rfl, rfl, rfl⟩ := h
    have A0 := Aside0.mk (frame_New.bad a0 w (by omega))
    clear hm
    go_wp2_with fail
    refine A0.out.mono ?_
    rintro e w1 ⟨rfl, rfl⟩
    go_wp2
    go_ret3
    exact ⟨_, rfl, Kd.R_nil _ _ _ _ _, Below.refl _ _⟩

/-! ### gonglaw12_FrameCuts: function 3 -/
def gonglaw12_FrameCuts.j0 : Nat → Int → ByteArray → List Int → Bool → Option (Bool)
  | 0, _, _, _, _ => none
  | k + 1, x0, x1, x2, x22 => if x22 = true then (some true) else ((gongbook_Below.f x0 300).bind fun t104 => ((gonglaw12_fed.f k (wrap64 (1 + t104)) x1 ([] : List Int)).bind fun bt105 => ((gonglaw12_fed.f k (wrap64 (1 + t104)) x1 x2).bind fun bt110 => ((gongbook_SameTexts.f k bt105.1 bt110.1).bind fun t115 => (if t115 = true then (if (bt105.2.1 == bt110.2.1) = true then (if bt105.2.2 = bt110.2.2 then (some (decide (bt105.2.2 ≥ 0))) else (some false)) else (some false)) else (some false))))))
def gonglaw12_FrameCuts.f (k : Nat) (a0 : Int) (a1 : ByteArray) (l2 : List Int) : Option (Bool) := (gonglaw12_works.f k).bind fun t103 => (if t103 = true then (if (a1.size : Int) > 2000 then (gonglaw12_FrameCuts.j0 k a0 a1 l2 true) else (gonglaw12_FrameCuts.j0 k a0 a1 l2 (decide ((l2.length : Int) > 30)))) else (some false))
theorem gonglaw12_FrameCuts.mono_l : ∀ k, (∀ y0 y1 y2 y3, LeO (gonglaw12_FrameCuts.j0 k y0 y1 y2 y3) (gonglaw12_FrameCuts.j0 (k + 1) y0 y1 y2 y3))
  | 0 => fun _ _ _ _ r h => by simp [gonglaw12_FrameCuts.j0] at h
  | k + 1 => by
    have ih0 := gonglaw12_FrameCuts.mono_l k
    · intro y0 y1 y2 y3
      unfold gonglaw12_FrameCuts.j0
      repeat' first
      | (with_reducible exact ih0 _ _ _ _)
      | (with_reducible exact gongbook_SameTexts.mono _ _ _)
      | (with_reducible exact gonglaw12_fed.mono _ _ _ _)
      | (with_reducible exact gonglaw12_works.mono _)
      | (with_reducible exact LeO.refl _)
      | (with_reducible exact LeO.none _)
      | (with_reducible refine LeO.ite ?_ ?_)
      | (with_reducible refine LeO.bind ?_ (fun _ => ?_))
      | exact ih0 _ _ _ _
      | exact gongbook_SameTexts.mono _ _ _
      | exact gonglaw12_fed.mono _ _ _ _
      | exact gonglaw12_works.mono _
      | exact LeO.none _
      | refine LeO.ite ?_ ?_
      | refine LeO.bind ?_ (fun _ => ?_)
theorem gonglaw12_FrameCuts.mono : ∀ a0 a1 a2 k, LeO (gonglaw12_FrameCuts.f k a0 a1 a2) (gonglaw12_FrameCuts.f (k + 1) a0 a1 a2) := by
  intro a0 a1 a2 k
  have ih0 := gonglaw12_FrameCuts.mono_l k
  unfold gonglaw12_FrameCuts.f
  repeat' first
      | (with_reducible exact ih0 _ _ _ _)
      | (with_reducible exact gongbook_SameTexts.mono _ _ _)
      | (with_reducible exact gonglaw12_fed.mono _ _ _ _)
      | (with_reducible exact gonglaw12_works.mono _)
      | (with_reducible exact LeO.refl _)
      | (with_reducible exact LeO.none _)
      | (with_reducible refine LeO.ite ?_ ?_)
      | (with_reducible refine LeO.bind ?_ (fun _ => ?_))
      | exact ih0 _ _ _ _
      | exact gongbook_SameTexts.mono _ _ _
      | exact gonglaw12_fed.mono _ _ _ _
      | exact gonglaw12_works.mono _
      | exact LeO.none _
      | refine LeO.ite ?_ ?_
      | refine LeO.bind ?_ (fun _ => ?_)
set_option maxHeartbeats 8000000 in
set_option maxRecDepth 100000 in
theorem gonglaw12_FrameCuts.calls (k : Nat) (a0 : Int) (a1 : ByteArray) (A2 : Option Addr) (c2 : Nat) (l2 : List Int) (r : Bool) (w : World) (hr2 : Kd.C (Kd.int .i64) w A2 l2.length l2) (hc2 : l2.length ≤ c2) (h : gonglaw12_FrameCuts.f k a0 a1 l2 = some r) :
    Calls Try.prog 3 #[.int .i64 a0, .string a1, .slice A2 l2.length c2] w fun e w' => e = .returned (.bool r) ∧ Below w.heap.size w w' := by
  have HR2 := Aside0.mk hr2
  have HC2 := Aside0.mk hc2
  clear hr2 hc2
  have HB := Aside0.mk (Below.refl w.heap.size w)
  have H : ((gonglaw12_works.f k).bind fun t103 => (if t103 = true then (if (a1.size : Int) > 2000 then (gonglaw12_FrameCuts.j0 k a0 a1 l2 true) else (gonglaw12_FrameCuts.j0 k a0 a1 l2 (decide ((l2.length : Int) > 30)))) else (some false))) = some r := h
  clear h
  replace H := Option.bind_eq_some_iff.mp H
  obtain ⟨t103, A40, H⟩ := H
  replace H : (if t103 = true then (if (a1.size : Int) > 2000 then (gonglaw12_FrameCuts.j0 k a0 a1 l2 true) else (gonglaw12_FrameCuts.j0 k a0 a1 l2 (decide ((l2.length : Int) > 30)))) else (some false)) = some r := H
  have A4 := Aside0.mk A40
  clear A40
  by_cases c5 : t103 = true
  · subst c5
    have H1 : (if (a1.size : Int) > 2000 then (gonglaw12_FrameCuts.j0 k a0 a1 l2 true) else (gonglaw12_FrameCuts.j0 k a0 a1 l2 (decide ((l2.length : Int) > 30)))) = some r := by rw [if_pos rfl] at H; exact H
    clear H
    have H := H1
    clear H1
    have HC6 := Aside0.mk H
    clear H
    go_enter Try.func3, Try.ntmps3
    go_upto_region 3 with (first | ((with_reducible refine gate_callee (f := 13) rfl ?_); refine goesL_ (some 13) rfl rfl Try.func13 (by kernel_rfl) rfl #[] rfl (by (try simp only [List.map_toArray, List.map_cons, List.map_nil]); first | done | rfl | (simp only [List.length_drop, List.length_take]; rfl)) ?_; (with_reducible refine (gonglaw12_works.calls k  true _ A4.out).mono ?_); rintro e w7 ⟨rfl, hb⟩; refine ⟨_, rfl, ?_⟩; have n0_ := Aside0.mk (below_step (by repeat (first | (with_reducible first | exact HB.out | apply below_alloc | apply pw_below_drewN | apply below_drew1) | exact HB.out)) hb); clear HB; have HB := n0_; clear n0_; (try clear hb); (try clear hb2); (try clear hk); (try clear hi)))
    (try simp only [Act.put, List.setIfInBounds_toArray, List.set_cons_zero, List.set_cons_succ])
    go_cut [22] (fun v22 wc => ∃ (kq : Nat) (x22_5 : Bool), v22 = .bool x22_5 ∧ Aside0 (gonglaw12_FrameCuts.j0 kq a0 a1 l2 x22_5 = some r) ∧ Aside0 (kq ≤ k) ∧ Aside0 (Below w.heap.size w wc))
    case first =>
      have H := HC6.out
      clear HC6
      by_cases c8 : (a1.size : Int) > 2000
      · rw [if_pos c8] at H
        have c8b0 : decide (2000 < (a1.size : Int)) = true := decide_eq_true c8
        have c8b1 : decide (2000 < a1.size) = true := decide_eq_true (by omega)
        clear c8
        (first | rw [c8b0] | (simp only [i64_w, i32_w]; rw [c8b0]) | skip)
        have H' := Aside0.mk H
        clear H
        go_wp2
        go_meet
        case rel => exact ⟨_, (true), (by first | rfl | (simp; done) | (simp [*]; done)), H', ⟨by first | omega | exact Nat.le_refl _⟩, ⟨by repeat (first | (with_reducible first | exact HB.out | apply below_alloc | apply pw_below_drewN | apply below_drew1) | exact HB.out)⟩⟩
      · rw [if_neg c8] at H
        have c8b0 : decide (2000 < (a1.size : Int)) = false := decide_eq_false c8
        have c8b1 : decide (2000 < a1.size) = false := decide_eq_false (by omega)
        clear c8
        (first | rw [c8b0] | (simp only [i64_w, i32_w]; rw [c8b0]) | skip)
        have H' := Aside0.mk H
        clear H
        go_wp2
        go_meet
        case rel => exact ⟨_, (decide ((l2.length : Int) > 30)), (by first | rfl | (simp; done) | (simp [*]; done)), H', ⟨by first | omega | exact Nat.le_refl _⟩, ⟨by repeat (first | (with_reducible first | exact HB.out | apply below_alloc | apply pw_below_drewN | apply below_drew1) | exact HB.out)⟩⟩
    case rest =>
      clear HC6
      try clear c1
      try clear c2
      try clear p2
      try clear c3
      try clear c5
      try clear c8
      try clear c8b0
      try clear c8b1
      obtain ⟨kq, x22_5, rfl, HA, HJ5, HB⟩ := hcut
      cases kq with
      | zero => exact absurd HA.out (by simp [gonglaw12_FrameCuts.j0])
      | succ kj5 =>
        have H := HA.out
        clear HA
        simp only [gonglaw12_FrameCuts.j0] at H
        by_cases c9 : x22_5 = true
        · subst c9
          have H1 : (some true) = some r := by rw [if_pos rfl] at H; exact H
          clear H
          have H := H1
          clear H1
          obtain rfl := Option.some.inj H
          go_wp2
          go_ret
          exact ⟨by first | rfl | (simp [errW_none, errW_some] <;> rfl) | (simp [*, errW_none, errW_some] <;> rfl), by repeat (first | (with_reducible first | exact HB.out | apply below_alloc | apply pw_below_drewN | apply below_drew1) | exact HB.out)⟩
        · replace c9 := Bool.eq_false_iff.mpr c9
          subst c9
          have H1 : ((gongbook_Below.f a0 300).bind fun t104 => ((gonglaw12_fed.f kj5 (wrap64 (1 + t104)) a1 ([] : List Int)).bind fun bt105 => ((gonglaw12_fed.f kj5 (wrap64 (1 + t104)) a1 l2).bind fun bt110 => ((gongbook_SameTexts.f kj5 bt105.1 bt110.1).bind fun t115 => (if t115 = true then (if (bt105.2.1 == bt110.2.1) = true then (if bt105.2.2 = bt110.2.2 then (some (decide (bt105.2.2 ≥ 0))) else (some false)) else (some false)) else (some false)))))) = some r := by rw [if_neg (show ¬ (false = true) by decide)] at H; exact H
          clear H
          have H := H1
          clear H1
          replace H := Option.bind_eq_some_iff.mp H
          obtain ⟨t104, A100, H⟩ := H
          replace H : ((gonglaw12_fed.f kj5 (wrap64 (1 + t104)) a1 ([] : List Int)).bind fun bt105 => ((gonglaw12_fed.f kj5 (wrap64 (1 + t104)) a1 l2).bind fun bt110 => ((gongbook_SameTexts.f kj5 bt105.1 bt110.1).bind fun t115 => (if t115 = true then (if (bt105.2.1 == bt110.2.1) = true then (if bt105.2.2 = bt110.2.2 then (some (decide (bt105.2.2 ≥ 0))) else (some false)) else (some false)) else (some false))))) = some r := H
          have A10 := Aside0.mk A100
          clear A100
          replace H := Option.bind_eq_some_iff.mp H
          obtain ⟨⟨t105, t106, t107⟩, A110, H⟩ := H
          replace H : ((gonglaw12_fed.f kj5 (wrap64 (1 + t104)) a1 l2).bind fun bt110 => ((gongbook_SameTexts.f kj5 t105 bt110.1).bind fun t115 => (if t115 = true then (if (t106 == bt110.2.1) = true then (if t107 = bt110.2.2 then (some (decide (t107 ≥ 0))) else (some false)) else (some false)) else (some false)))) = some r := H
          have A11 := Aside0.mk A110
          clear A110
          replace H := Option.bind_eq_some_iff.mp H
          obtain ⟨⟨t110, t111, t112⟩, A120, H⟩ := H
          replace H : ((gongbook_SameTexts.f kj5 t105 t110).bind fun t115 => (if t115 = true then (if (t106 == t111) = true then (if t107 = t112 then (some (decide (t107 ≥ 0))) else (some false)) else (some false)) else (some false))) = some r := H
          have A12 := Aside0.mk A120
          clear A120
          replace H := Option.bind_eq_some_iff.mp H
          obtain ⟨t115, A130, H⟩ := H
          replace H : (if t115 = true then (if (t106 == t111) = true then (if t107 = t112 then (some (decide (t107 ≥ 0))) else (some false)) else (some false)) else (some false)) = some r := H
          have A13 := Aside0.mk A130
          clear A130
          by_cases c14 : t115 = true
          · subst c14
            have H1 : (if (t106 == t111) = true then (if t107 = t112 then (some (decide (t107 ≥ 0))) else (some false)) else (some false)) = some r := by rw [if_pos rfl] at H; exact H
            clear H
            have H := H1
            clear H1
            by_cases c15 : (t106 == t111) = true
            · rw [if_pos c15] at H
              have c15b0 : (t106 == t111) = true := c15
              (try (have c15b1 : decide (t106 = t111) = true := by simpa using c15))
              (try (have c15b2 : (t106 == t111) = true := by simpa using c15))
              clear c15
              by_cases c16 : t107 = t112
              · rw [if_pos c16] at H
                have c16b0 : (t107 == t112) = true := beq_iff_eq.mpr c16
                have c16b1 : (t107 != t112) = false := bne_eq_false_iff_eq.mpr c16
                clear c16
                obtain rfl := Option.some.inj H
                go_wp2_with (first | ((with_reducible refine gate_callee (f := 14) rfl ?_); refine goesL_ (some 24) rfl rfl Try.func14 (by kernel_rfl) rfl #[.int .i64 a0, .int .i64 300] rfl (by (try simp only [List.map_toArray, List.map_cons, List.map_nil]); first | done | rfl | (simp only [List.length_drop, List.length_take]; rfl)) ?_; (with_reducible refine (gongbook_Below.calls a0 300 t104 _ A10.out).mono ?_); rintro e w' ⟨rfl, ⟨nd, rfl⟩⟩; refine ⟨_, rfl, ?_⟩) | ((with_reducible refine gate_callee (f := 15) rfl ?_); refine goesL_ (some 29) rfl rfl Try.func15 (by kernel_rfl) rfl #[.int .i64 (wrap64 (1 + t104)), .string a1, .slice none 0 0] rfl (by (try simp only [List.map_toArray, List.map_cons, List.map_nil]); first | done | rfl | (simp only [List.length_drop, List.length_take]; rfl)) ?_; (refine (gonglaw12_fed.calls kj5 (wrap64 (1 + t104)) a1 _ _ ([] : List Int) t105 t106 t107 _ ?side1 ?side2 A11.out).mono ?_); (case side1 => exact Kd.C_nil _ _); (case side2 => exact Nat.le_refl _); rintro e w17 ⟨v108, rfl, ho0, hb⟩; refine ⟨_, rfl, ?_⟩; have n0_ := Aside0.mk (Kd.R_lower ho0 (below_size (by repeat (first | (with_reducible first | exact HB.out | apply below_alloc | apply pw_below_drewN | apply below_drew1) | exact HB.out)))); have n1_ := Aside0.mk (below_step (by repeat (first | (with_reducible first | exact HB.out | apply below_alloc | apply pw_below_drewN | apply below_drew1) | exact HB.out)) hb); clear HB; have HO109 := n0_; have HB := n1_; clear n0_ n1_; (try clear hb); (try clear hb2); (try clear hk); (try clear hi); (try clear ho0)) | ((with_reducible refine gate_callee (f := 15) rfl ?_); refine goesL_ (some 37) rfl rfl Try.func15 (by kernel_rfl) rfl #[.int .i64 (wrap64 (1 + t104)), .string a1, .slice A2 l2.length c2] rfl (by (try simp only [List.map_toArray, List.map_cons, List.map_nil]); first | done | rfl | (simp only [List.length_drop, List.length_take]; rfl)) ?_; (with_reducible refine (gonglaw12_fed.calls kj5 (wrap64 (1 + t104)) a1 _ _ l2 t110 t111 t112 _ ?side1 ?side2 A12.out).mono ?_); (case side1 => repeat (first | exact (Kd.C_below HR2.out HB.out) | (with_reducible refine Kd.C_alloc ?_ _) | (with_reducible refine Kd.C_drewN ?_ _) | (with_reducible refine Kd.C_drew ?_))); (case side2 => exact HC2.out); rintro e w18 ⟨v113, rfl, ho0, hb⟩; refine ⟨_, rfl, ?_⟩; have n0_ := Aside0.mk (Kd.R_elder' (by (with_reducible repeat (first | apply Kd.R_alloc | apply Kd.R_drewN | apply Kd.R_drew)); exact HO109.out) (Kd.R_base ho0) hb); have n1_ := Aside0.mk (Kd.R_lower (Kd.R_new' ho0 (Kd.R_lt (by (with_reducible repeat (first | apply Kd.R_alloc | apply Kd.R_drewN | apply Kd.R_drew)); exact HO109.out))) (below_size (by repeat (first | (with_reducible first | exact HB.out | apply below_alloc | apply pw_below_drewN | apply below_drew1) | exact HB.out)))); have n2_ := Aside0.mk (below_step (by repeat (first | (with_reducible first | exact HB.out | apply below_alloc | apply pw_below_drewN | apply below_drew1) | exact HB.out)) hb); clear HO109; clear HB; have HO109 := n0_; have HO114 := n1_; have HB := n2_; clear n0_ n1_ n2_; (try clear hb); (try clear hb2); (try clear hk); (try clear hi); (try clear ho0); obtain ⟨Ao19, co19, eo19⟩ := Kd.R_slice HO109.out; subst eo19; obtain ⟨Ao20, co20, eo20⟩ := Kd.R_slice HO114.out; subst eo20) | ((with_reducible refine gate_callee (f := 16) rfl ?_); refine goesL_ (some 43) rfl rfl Try.func16 (by kernel_rfl) rfl #[.slice Ao19 t105.length co19, .slice Ao20 t110.length co20] rfl (by (try simp only [List.map_toArray, List.map_cons, List.map_nil]); first | done | rfl | (simp only [List.length_drop, List.length_take]; rfl)) ?_; (with_reducible refine (gongbook_SameTexts.calls kj5 _ _ t105 _ _ t110 true _ ?side1 ?side2 ?side3 ?side4 A13.out).mono ?_); (case side1 => repeat (first | exact (Kd.R_reads' HO109.out).2.2 | (with_reducible refine Kd.C_alloc ?_ _) | (with_reducible refine Kd.C_drewN ?_ _) | (with_reducible refine Kd.C_drew ?_))); (case side2 => exact (Kd.R_reads' HO109.out).2.1); (case side3 => repeat (first | exact (Kd.R_reads' HO114.out).2.2 | (with_reducible refine Kd.C_alloc ?_ _) | (with_reducible refine Kd.C_drewN ?_ _) | (with_reducible refine Kd.C_drew ?_))); (case side4 => exact (Kd.R_reads' HO114.out).2.1); rintro e w' ⟨rfl, ⟨nd, rfl⟩⟩; refine ⟨_, rfl, ?_⟩))
                go_ret
                exact ⟨by first | rfl | (simp [errW_none, errW_some] <;> rfl) | (simp [*, errW_none, errW_some] <;> rfl), by repeat (first | (with_reducible first | exact HB.out | apply below_alloc | apply pw_below_drewN | apply below_drew1) | exact HB.out)⟩
              · rw [if_neg c16] at H
                have c16b0 : (t107 == t112) = false := beq_eq_false_iff_ne.mpr c16
                have c16b1 : (t107 != t112) = true := bne_iff_ne.mpr c16
                obtain rfl := Option.some.inj H
                go_wp2_with (first | ((with_reducible refine gate_callee (f := 14) rfl ?_); refine goesL_ (some 24) rfl rfl Try.func14 (by kernel_rfl) rfl #[.int .i64 a0, .int .i64 300] rfl (by (try simp only [List.map_toArray, List.map_cons, List.map_nil]); first | done | rfl | (simp only [List.length_drop, List.length_take]; rfl)) ?_; (with_reducible refine (gongbook_Below.calls a0 300 t104 _ A10.out).mono ?_); rintro e w' ⟨rfl, ⟨nd, rfl⟩⟩; refine ⟨_, rfl, ?_⟩) | ((with_reducible refine gate_callee (f := 15) rfl ?_); refine goesL_ (some 29) rfl rfl Try.func15 (by kernel_rfl) rfl #[.int .i64 (wrap64 (1 + t104)), .string a1, .slice none 0 0] rfl (by (try simp only [List.map_toArray, List.map_cons, List.map_nil]); first | done | rfl | (simp only [List.length_drop, List.length_take]; rfl)) ?_; (refine (gonglaw12_fed.calls kj5 (wrap64 (1 + t104)) a1 _ _ ([] : List Int) t105 t106 t107 _ ?side1 ?side2 A11.out).mono ?_); (case side1 => exact Kd.C_nil _ _); (case side2 => exact Nat.le_refl _); rintro e w21 ⟨v108, rfl, ho0, hb⟩; refine ⟨_, rfl, ?_⟩; have n0_ := Aside0.mk (Kd.R_lower ho0 (below_size (by repeat (first | (with_reducible first | exact HB.out | apply below_alloc | apply pw_below_drewN | apply below_drew1) | exact HB.out)))); have n1_ := Aside0.mk (below_step (by repeat (first | (with_reducible first | exact HB.out | apply below_alloc | apply pw_below_drewN | apply below_drew1) | exact HB.out)) hb); clear HB; have HO109 := n0_; have HB := n1_; clear n0_ n1_; (try clear hb); (try clear hb2); (try clear hk); (try clear hi); (try clear ho0)) | ((with_reducible refine gate_callee (f := 15) rfl ?_); refine goesL_ (some 37) rfl rfl Try.func15 (by kernel_rfl) rfl #[.int .i64 (wrap64 (1 + t104)), .string a1, .slice A2 l2.length c2] rfl (by (try simp only [List.map_toArray, List.map_cons, List.map_nil]); first | done | rfl | (simp only [List.length_drop, List.length_take]; rfl)) ?_; (with_reducible refine (gonglaw12_fed.calls kj5 (wrap64 (1 + t104)) a1 _ _ l2 t110 t111 t112 _ ?side1 ?side2 A12.out).mono ?_); (case side1 => repeat (first | exact (Kd.C_below HR2.out HB.out) | (with_reducible refine Kd.C_alloc ?_ _) | (with_reducible refine Kd.C_drewN ?_ _) | (with_reducible refine Kd.C_drew ?_))); (case side2 => exact HC2.out); rintro e w22 ⟨v113, rfl, ho0, hb⟩; refine ⟨_, rfl, ?_⟩; have n0_ := Aside0.mk (Kd.R_elder' (by (with_reducible repeat (first | apply Kd.R_alloc | apply Kd.R_drewN | apply Kd.R_drew)); exact HO109.out) (Kd.R_base ho0) hb); have n1_ := Aside0.mk (Kd.R_lower (Kd.R_new' ho0 (Kd.R_lt (by (with_reducible repeat (first | apply Kd.R_alloc | apply Kd.R_drewN | apply Kd.R_drew)); exact HO109.out))) (below_size (by repeat (first | (with_reducible first | exact HB.out | apply below_alloc | apply pw_below_drewN | apply below_drew1) | exact HB.out)))); have n2_ := Aside0.mk (below_step (by repeat (first | (with_reducible first | exact HB.out | apply below_alloc | apply pw_below_drewN | apply below_drew1) | exact HB.out)) hb); clear HO109; clear HB; have HO109 := n0_; have HO114 := n1_; have HB := n2_; clear n0_ n1_ n2_; (try clear hb); (try clear hb2); (try clear hk); (try clear hi); (try clear ho0); obtain ⟨Ao23, co23, eo23⟩ := Kd.R_slice HO109.out; subst eo23; obtain ⟨Ao24, co24, eo24⟩ := Kd.R_slice HO114.out; subst eo24) | ((with_reducible refine gate_callee (f := 16) rfl ?_); refine goesL_ (some 43) rfl rfl Try.func16 (by kernel_rfl) rfl #[.slice Ao23 t105.length co23, .slice Ao24 t110.length co24] rfl (by (try simp only [List.map_toArray, List.map_cons, List.map_nil]); first | done | rfl | (simp only [List.length_drop, List.length_take]; rfl)) ?_; (with_reducible refine (gongbook_SameTexts.calls kj5 _ _ t105 _ _ t110 true _ ?side1 ?side2 ?side3 ?side4 A13.out).mono ?_); (case side1 => repeat (first | exact (Kd.R_reads' HO109.out).2.2 | (with_reducible refine Kd.C_alloc ?_ _) | (with_reducible refine Kd.C_drewN ?_ _) | (with_reducible refine Kd.C_drew ?_))); (case side2 => exact (Kd.R_reads' HO109.out).2.1); (case side3 => repeat (first | exact (Kd.R_reads' HO114.out).2.2 | (with_reducible refine Kd.C_alloc ?_ _) | (with_reducible refine Kd.C_drewN ?_ _) | (with_reducible refine Kd.C_drew ?_))); (case side4 => exact (Kd.R_reads' HO114.out).2.1); rintro e w' ⟨rfl, ⟨nd, rfl⟩⟩; refine ⟨_, rfl, ?_⟩))
                go_ret
                exact ⟨by first | rfl | (simp [errW_none, errW_some] <;> rfl) | (simp [*, errW_none, errW_some] <;> rfl), by repeat (first | (with_reducible first | exact HB.out | apply below_alloc | apply pw_below_drewN | apply below_drew1) | exact HB.out)⟩
            · rw [if_neg c15] at H
              have c15b0 : (t106 == t111) = false := by simpa using c15
              (try (have c15b1 : decide (t106 = t111) = false := by simpa using c15))
              (try (have c15b2 : (t106 == t111) = false := by simpa using c15))
              (try (have c15b3 : ¬ (t106 = t111) := by simpa using c15))
              clear c15
              obtain rfl := Option.some.inj H
              go_wp2_with (first | ((with_reducible refine gate_callee (f := 14) rfl ?_); refine goesL_ (some 24) rfl rfl Try.func14 (by kernel_rfl) rfl #[.int .i64 a0, .int .i64 300] rfl (by (try simp only [List.map_toArray, List.map_cons, List.map_nil]); first | done | rfl | (simp only [List.length_drop, List.length_take]; rfl)) ?_; (with_reducible refine (gongbook_Below.calls a0 300 t104 _ A10.out).mono ?_); rintro e w' ⟨rfl, ⟨nd, rfl⟩⟩; refine ⟨_, rfl, ?_⟩) | ((with_reducible refine gate_callee (f := 15) rfl ?_); refine goesL_ (some 29) rfl rfl Try.func15 (by kernel_rfl) rfl #[.int .i64 (wrap64 (1 + t104)), .string a1, .slice none 0 0] rfl (by (try simp only [List.map_toArray, List.map_cons, List.map_nil]); first | done | rfl | (simp only [List.length_drop, List.length_take]; rfl)) ?_; (refine (gonglaw12_fed.calls kj5 (wrap64 (1 + t104)) a1 _ _ ([] : List Int) t105 t106 t107 _ ?side1 ?side2 A11.out).mono ?_); (case side1 => exact Kd.C_nil _ _); (case side2 => exact Nat.le_refl _); rintro e w25 ⟨v108, rfl, ho0, hb⟩; refine ⟨_, rfl, ?_⟩; have n0_ := Aside0.mk (Kd.R_lower ho0 (below_size (by repeat (first | (with_reducible first | exact HB.out | apply below_alloc | apply pw_below_drewN | apply below_drew1) | exact HB.out)))); have n1_ := Aside0.mk (below_step (by repeat (first | (with_reducible first | exact HB.out | apply below_alloc | apply pw_below_drewN | apply below_drew1) | exact HB.out)) hb); clear HB; have HO109 := n0_; have HB := n1_; clear n0_ n1_; (try clear hb); (try clear hb2); (try clear hk); (try clear hi); (try clear ho0)) | ((with_reducible refine gate_callee (f := 15) rfl ?_); refine goesL_ (some 37) rfl rfl Try.func15 (by kernel_rfl) rfl #[.int .i64 (wrap64 (1 + t104)), .string a1, .slice A2 l2.length c2] rfl (by (try simp only [List.map_toArray, List.map_cons, List.map_nil]); first | done | rfl | (simp only [List.length_drop, List.length_take]; rfl)) ?_; (with_reducible refine (gonglaw12_fed.calls kj5 (wrap64 (1 + t104)) a1 _ _ l2 t110 t111 t112 _ ?side1 ?side2 A12.out).mono ?_); (case side1 => repeat (first | exact (Kd.C_below HR2.out HB.out) | (with_reducible refine Kd.C_alloc ?_ _) | (with_reducible refine Kd.C_drewN ?_ _) | (with_reducible refine Kd.C_drew ?_))); (case side2 => exact HC2.out); rintro e w26 ⟨v113, rfl, ho0, hb⟩; refine ⟨_, rfl, ?_⟩; have n0_ := Aside0.mk (Kd.R_elder' (by (with_reducible repeat (first | apply Kd.R_alloc | apply Kd.R_drewN | apply Kd.R_drew)); exact HO109.out) (Kd.R_base ho0) hb); have n1_ := Aside0.mk (Kd.R_lower (Kd.R_new' ho0 (Kd.R_lt (by (with_reducible repeat (first | apply Kd.R_alloc | apply Kd.R_drewN | apply Kd.R_drew)); exact HO109.out))) (below_size (by repeat (first | (with_reducible first | exact HB.out | apply below_alloc | apply pw_below_drewN | apply below_drew1) | exact HB.out)))); have n2_ := Aside0.mk (below_step (by repeat (first | (with_reducible first | exact HB.out | apply below_alloc | apply pw_below_drewN | apply below_drew1) | exact HB.out)) hb); clear HO109; clear HB; have HO109 := n0_; have HO114 := n1_; have HB := n2_; clear n0_ n1_ n2_; (try clear hb); (try clear hb2); (try clear hk); (try clear hi); (try clear ho0); obtain ⟨Ao27, co27, eo27⟩ := Kd.R_slice HO109.out; subst eo27; obtain ⟨Ao28, co28, eo28⟩ := Kd.R_slice HO114.out; subst eo28) | ((with_reducible refine gate_callee (f := 16) rfl ?_); refine goesL_ (some 43) rfl rfl Try.func16 (by kernel_rfl) rfl #[.slice Ao27 t105.length co27, .slice Ao28 t110.length co28] rfl (by (try simp only [List.map_toArray, List.map_cons, List.map_nil]); first | done | rfl | (simp only [List.length_drop, List.length_take]; rfl)) ?_; (with_reducible refine (gongbook_SameTexts.calls kj5 _ _ t105 _ _ t110 true _ ?side1 ?side2 ?side3 ?side4 A13.out).mono ?_); (case side1 => repeat (first | exact (Kd.R_reads' HO109.out).2.2 | (with_reducible refine Kd.C_alloc ?_ _) | (with_reducible refine Kd.C_drewN ?_ _) | (with_reducible refine Kd.C_drew ?_))); (case side2 => exact (Kd.R_reads' HO109.out).2.1); (case side3 => repeat (first | exact (Kd.R_reads' HO114.out).2.2 | (with_reducible refine Kd.C_alloc ?_ _) | (with_reducible refine Kd.C_drewN ?_ _) | (with_reducible refine Kd.C_drew ?_))); (case side4 => exact (Kd.R_reads' HO114.out).2.1); rintro e w' ⟨rfl, ⟨nd, rfl⟩⟩; refine ⟨_, rfl, ?_⟩))
              go_ret
              exact ⟨by first | rfl | (simp [errW_none, errW_some] <;> rfl) | (simp [*, errW_none, errW_some] <;> rfl), by repeat (first | (with_reducible first | exact HB.out | apply below_alloc | apply pw_below_drewN | apply below_drew1) | exact HB.out)⟩
          · replace c14 := Bool.eq_false_iff.mpr c14
            subst c14
            have H1 : (some false) = some r := by rw [if_neg (show ¬ (false = true) by decide)] at H; exact H
            clear H
            have H := H1
            clear H1
            obtain rfl := Option.some.inj H
            go_wp2_with (first | ((with_reducible refine gate_callee (f := 14) rfl ?_); refine goesL_ (some 24) rfl rfl Try.func14 (by kernel_rfl) rfl #[.int .i64 a0, .int .i64 300] rfl (by (try simp only [List.map_toArray, List.map_cons, List.map_nil]); first | done | rfl | (simp only [List.length_drop, List.length_take]; rfl)) ?_; (with_reducible refine (gongbook_Below.calls a0 300 t104 _ A10.out).mono ?_); rintro e w' ⟨rfl, ⟨nd, rfl⟩⟩; refine ⟨_, rfl, ?_⟩) | ((with_reducible refine gate_callee (f := 15) rfl ?_); refine goesL_ (some 29) rfl rfl Try.func15 (by kernel_rfl) rfl #[.int .i64 (wrap64 (1 + t104)), .string a1, .slice none 0 0] rfl (by (try simp only [List.map_toArray, List.map_cons, List.map_nil]); first | done | rfl | (simp only [List.length_drop, List.length_take]; rfl)) ?_; (refine (gonglaw12_fed.calls kj5 (wrap64 (1 + t104)) a1 _ _ ([] : List Int) t105 t106 t107 _ ?side1 ?side2 A11.out).mono ?_); (case side1 => exact Kd.C_nil _ _); (case side2 => exact Nat.le_refl _); rintro e w29 ⟨v108, rfl, ho0, hb⟩; refine ⟨_, rfl, ?_⟩; have n0_ := Aside0.mk (Kd.R_lower ho0 (below_size (by repeat (first | (with_reducible first | exact HB.out | apply below_alloc | apply pw_below_drewN | apply below_drew1) | exact HB.out)))); have n1_ := Aside0.mk (below_step (by repeat (first | (with_reducible first | exact HB.out | apply below_alloc | apply pw_below_drewN | apply below_drew1) | exact HB.out)) hb); clear HB; have HO109 := n0_; have HB := n1_; clear n0_ n1_; (try clear hb); (try clear hb2); (try clear hk); (try clear hi); (try clear ho0)) | ((with_reducible refine gate_callee (f := 15) rfl ?_); refine goesL_ (some 37) rfl rfl Try.func15 (by kernel_rfl) rfl #[.int .i64 (wrap64 (1 + t104)), .string a1, .slice A2 l2.length c2] rfl (by (try simp only [List.map_toArray, List.map_cons, List.map_nil]); first | done | rfl | (simp only [List.length_drop, List.length_take]; rfl)) ?_; (with_reducible refine (gonglaw12_fed.calls kj5 (wrap64 (1 + t104)) a1 _ _ l2 t110 t111 t112 _ ?side1 ?side2 A12.out).mono ?_); (case side1 => repeat (first | exact (Kd.C_below HR2.out HB.out) | (with_reducible refine Kd.C_alloc ?_ _) | (with_reducible refine Kd.C_drewN ?_ _) | (with_reducible refine Kd.C_drew ?_))); (case side2 => exact HC2.out); rintro e w30 ⟨v113, rfl, ho0, hb⟩; refine ⟨_, rfl, ?_⟩; have n0_ := Aside0.mk (Kd.R_elder' (by (with_reducible repeat (first | apply Kd.R_alloc | apply Kd.R_drewN | apply Kd.R_drew)); exact HO109.out) (Kd.R_base ho0) hb); have n1_ := Aside0.mk (Kd.R_lower (Kd.R_new' ho0 (Kd.R_lt (by (with_reducible repeat (first | apply Kd.R_alloc | apply Kd.R_drewN | apply Kd.R_drew)); exact HO109.out))) (below_size (by repeat (first | (with_reducible first | exact HB.out | apply below_alloc | apply pw_below_drewN | apply below_drew1) | exact HB.out)))); have n2_ := Aside0.mk (below_step (by repeat (first | (with_reducible first | exact HB.out | apply below_alloc | apply pw_below_drewN | apply below_drew1) | exact HB.out)) hb); clear HO109; clear HB; have HO109 := n0_; have HO114 := n1_; have HB := n2_; clear n0_ n1_ n2_; (try clear hb); (try clear hb2); (try clear hk); (try clear hi); (try clear ho0); obtain ⟨Ao31, co31, eo31⟩ := Kd.R_slice HO109.out; subst eo31; obtain ⟨Ao32, co32, eo32⟩ := Kd.R_slice HO114.out; subst eo32) | ((with_reducible refine gate_callee (f := 16) rfl ?_); refine goesL_ (some 43) rfl rfl Try.func16 (by kernel_rfl) rfl #[.slice Ao31 t105.length co31, .slice Ao32 t110.length co32] rfl (by (try simp only [List.map_toArray, List.map_cons, List.map_nil]); first | done | rfl | (simp only [List.length_drop, List.length_take]; rfl)) ?_; (with_reducible refine (gongbook_SameTexts.calls kj5 _ _ t105 _ _ t110 false _ ?side1 ?side2 ?side3 ?side4 A13.out).mono ?_); (case side1 => repeat (first | exact (Kd.R_reads' HO109.out).2.2 | (with_reducible refine Kd.C_alloc ?_ _) | (with_reducible refine Kd.C_drewN ?_ _) | (with_reducible refine Kd.C_drew ?_))); (case side2 => exact (Kd.R_reads' HO109.out).2.1); (case side3 => repeat (first | exact (Kd.R_reads' HO114.out).2.2 | (with_reducible refine Kd.C_alloc ?_ _) | (with_reducible refine Kd.C_drewN ?_ _) | (with_reducible refine Kd.C_drew ?_))); (case side4 => exact (Kd.R_reads' HO114.out).2.1); rintro e w' ⟨rfl, ⟨nd, rfl⟩⟩; refine ⟨_, rfl, ?_⟩))
            go_ret
            exact ⟨by first | rfl | (simp [errW_none, errW_some] <;> rfl) | (simp [*, errW_none, errW_some] <;> rfl), by repeat (first | (with_reducible first | exact HB.out | apply below_alloc | apply pw_below_drewN | apply below_drew1) | exact HB.out)⟩
  · replace c5 := Bool.eq_false_iff.mpr c5
    subst c5
    have H1 : (some false) = some r := by rw [if_neg (show ¬ (false = true) by decide)] at H; exact H
    clear H
    have H := H1
    clear H1
    obtain rfl := Option.some.inj H
    go_enter Try.func3, Try.ntmps3
    go_wp2_with (first | ((with_reducible refine gate_callee (f := 13) rfl ?_); refine goesL_ (some 13) rfl rfl Try.func13 (by kernel_rfl) rfl #[] rfl (by (try simp only [List.map_toArray, List.map_cons, List.map_nil]); first | done | rfl | (simp only [List.length_drop, List.length_take]; rfl)) ?_; (with_reducible refine (gonglaw12_works.calls k  false _ A4.out).mono ?_); rintro e w33 ⟨rfl, hb⟩; refine ⟨_, rfl, ?_⟩; have n0_ := Aside0.mk (below_step (by repeat (first | (with_reducible first | exact HB.out | apply below_alloc | apply pw_below_drewN | apply below_drew1) | exact HB.out)) hb); clear HB; have HB := n0_; clear n0_; (try clear hb); (try clear hb2); (try clear hk); (try clear hi)))
    go_ret
    exact ⟨by first | rfl | (simp [errW_none, errW_some] <;> rfl) | (simp [*, errW_none, errW_some] <;> rfl), by repeat (first | (with_reducible first | exact HB.out | apply below_alloc | apply pw_below_drewN | apply below_drew1) | exact HB.out)⟩

/-- THE ONE PURE STATEMENT of gonglaw12_FrameCuts: yours. -/
def gonglaw12_FrameCuts.Pure : Prop := ∀ (a0 : Int) (a1 : ByteArray) (l2 : List Int), (Lit.int .i64 a0).wf = true → a1.size ≤ 140737488351232 → l2.length ≤ maxLen → l2.length * 8 ≤ 140737488351232 → (∀ x ∈ l2, (Lit.int .i64 x).wf = true) → ∃ k, gonglaw12_FrameCuts.f k a0 a1 l2 = some true
theorem gonglaw12_FrameCuts.walk (P : gonglaw12_FrameCuts.Pure) (a0 : Int) (a1 : ByteArray) (a2 : Option Addr) (len2 cap2 : Nat) (z2 : List Int) (w : World) (w0 : (Lit.int .i64 a0).wf = true) (w1 : a1.size ≤ 140737488351232) (w2 : (a2 = none ∧ len2 = 0 ∧ cap2 = 0 ∧ z2 = []) ∨ ∃ x, a2 = some x ∧ len2 ≤ cap2 ∧ cap2 ≤ maxLen ∧ z2.length = cap2 ∧ (∀ i, i < z2.length → w.cell? (x.add i) = some (.int .i64 (z2.getD i 0))) ∧ ∀ n ∈ z2, (Lit.int .i64 n).wf = true) (y2 : len2 * 8 ≤ 140737488351232) :
    Calls Try.prog 3 #[.int .i64 a0, .string a1, .slice a2 len2 cap2] w fun e w' => e = .returned (.bool true) ∧ Below w.heap.size w w' := by
  obtain ⟨l2, rfl, hr2, hm2, hw2, hc2⟩ := ReadsInt.ofRowC w2
  obtain ⟨k, h⟩ := P a0 a1 l2 w0 w1 hm2 y2 hw2
  refine (gonglaw12_FrameCuts.calls k a0 a1 _ _ l2 true w (Kd.C_of_reads (d := (0 : Int)) (h1 := fun _ => rfl) hr2) hc2 h).mono ?_
  rintro e w' ⟨rfl, hd⟩
  exact ⟨rfl, hd⟩

end Go.Proofs.Yteidlffajcogcaa.XFr
