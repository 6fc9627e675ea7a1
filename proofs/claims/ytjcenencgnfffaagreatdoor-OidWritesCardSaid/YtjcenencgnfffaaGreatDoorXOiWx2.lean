-- Laid by extprint.py (the session's own driver): functions told by the kit's printer and by hand.
import Derived.Test.YtjcenencgnfffaaGreatDoorXOiWx0
import Derived.Test.YtjcenencgnfffaaGreatDoorXOiWx1
namespace Go.Proofs.YtjcenencgnfffaaGreatDoor.XOiW
open Go.RowKit Gong Go.Proofs.YtjcenencgnfffaaGreatDoorW.PrintWords Go.Proofs.YtjcenencgnfffaaGreatDoorW.PrintLast Go.Proofs.YtjcenencgnfffaaGreatDoorW.PrintMore
attribute [local go_sem] max2_int min2_int max_two min_two max_three min_three max_four min_four   -- for this text's walks alone
set_option linter.unusedVariables false
set_option linter.unusedSimpArgs false

/-! ### strings_Builder_WriteString: function 29 -/
theorem bld_u8 : (Tryz.prog.info? 5).map (fun i => (i.zero, i.size, i.bytes)) = some (some (.int .u8 0), 1, 1) := by kernel_rfl
set_option maxHeartbeats 1600000 in
set_option maxRecDepth 100000 in
theorem bld_WriteString (B b o n : Nat) (T : TypeId) (cs : Array Value) (p v : Value) (l : List UInt8) (s : ByteArray) (w : World) (hp : p = .pointer none ∨ p = .pointer (some ⟨b, o, none⟩))
    (hb : w.heap[b]? = some (.cells cs T (0, 0))) (hn : cs.size = n) (h0 : cs[o]? = some p) (h1 : cs[o + 1]? = some v) (hl : liesAt Tryz.prog Tryz.prog.depth T (n / Tryz.prog.cellsOf T) o 45 1 = true)
    (hT : 5 ≠ T) (hr : BRow w B 5 v l) (hlen : l.length + s.size ≤ 140737488355328) (hBw : B ≤ w.heap.size) :
    Calls Tryz.prog 29 #[.pointer (some ⟨b, o, none⟩), .string s] w fun e w' => e = .returned (.tuple #[.int .i64 s.size, .nilIface]) ∧ ∃ v', w'.heap[b]? = some (.cells ((cs.setIfInBounds o (.pointer (some ⟨b, o, none⟩))).setIfInBounds (o + 1) v') T (0, 0)) ∧ BRow w' B 5 v' (l ++ s.data.toList) ∧ (∀ k, v'.ownBlock = some k → v.ownBlock = some k ∨ w.heap.size ≤ k) ∧ Mv (fun k => k = b ∨ v.ownBlock = some k) w w' := by
  obtain ⟨i0, hi, hz0, hz1, hz2⟩ := info_parts bld_u8
  have hne := owns_ne hr hb hT
  have HR := Aside0.mk hr
  have HNE := Aside0.mk hne
  have H1 := Aside0.mk h1
  have HB0 := Aside0.mk (Array.getElem?_eq_some_iff.1 hb).1
  have HI := Aside0.mk hi
  have HZ0 := Aside0.mk hz0
  have HZ1 := Aside0.mk hz1
  have HZ2 := Aside0.mk hz2
  have HC := Aside0.mk (bld_copyCheck b o n T cs p w hp hb hn h0 hl)
  clear hb hn h0 hl hr hne h1 hi hz0 hz1 hz2 hp
  go_enter Tryz.func29, Tryz.ntmps29
  go_wp2_with fail
  refine HC.out.mono ?_
  rintro e w1 ⟨rfl, hb1, hm1⟩
  have hv1 : (cs.setIfInBounds o (.pointer (some ⟨b, o, none⟩)))[o + 1]? = some v := by
    rw [Array.getElem?_setIfInBounds_ne (by omega)]; exact H1.out
  have c1 := (blk_cell hb1 (o + 1)).trans hv1
  have HB1 := Aside0.mk hb1
  have HM1 := Aside0.mk hm1
  have HR1 := Aside0.mk (BRow.mv HR.out hm1 (fun k hk e => HNE.out (by rw [hk, e])))
  obtain ⟨A, c, rfl⟩ := BRow.slice HR.out
  clear hb1 hm1 hv1
  go_wp2_with (at_builtin; refine wpList_append_brow _ rfl _ _ 43 9 rfl B 5 i0 Tryz.underlying43 Tryz.underlying9 HI.out HZ0.out HZ1.out HZ2.out _ l rfl HR1.out s rfl (by omega) (by have := HM1.out.size; omega) ?_)
  intro v' w2 hr2 hg2 hk2
  have hb2 := Aside0.mk (blk_grown HB1.out hg2 (fun e => HNE.out e.symm))
  have d1 := (blk_cell hb2.out (o + 1))
  have f1 := blk_frozen hb2.out (o + 1)
  have HR2 := Aside0.mk hr2
  have HG2 := Aside0.mk hg2
  have HK2 := Aside0.mk hk2
  obtain ⟨A', c', rfl⟩ := BRow.slice hr2
  rw [Array.getElem?_setIfInBounds_ne (by omega), H1.out] at d1
  clear hr2 hg2 hk2
  go_wp2
  go_ret2
  have hlen2 : (l ++ s.data.toList).length = l.length + s.size := by simp
  rw [hlen2] at HR2 HK2
  have hmv : Mv (fun k => k = b ∨ (Value.slice A l.length c).ownBlock = some k) w w2 := (HM1.out.mono (fun k _ h => .inl h)).grown HG2.out (fun k hk _ => .inr hk)
  refine ⟨rfl, _, blk_set hb2.out (o + 1) _, ?_, ?_, Mv.setCell (S := fun k => k = b ∨ (Value.slice A l.length c).ownBlock = some k) hmv (.inl rfl) _ _⟩
  · refine BRow.mv HR2.out (Mv.setCell (S := fun k => k = b) (Mv.refl _ w2) rfl _ _) (fun k hk e => ?_)
    rcases HK2.out k hk with h | h
    · exact HNE.out (by rw [h, e])
    · have := HM1.out.size
      have := HB0.out
      omega
  · intro k hk
    rcases HK2.out k hk with h | h
    · exact .inl h
    · exact .inr (by have := HM1.out.size; omega)
theorem Bl.write {B b : Nat} {v : Value} {l : List UInt8} {w : World} (h : Bl w B b v l) (s : ByteArray) (hlen : l.length + s.size ≤ 140737488355328) :
    Calls Tryz.prog 29 #[.pointer (some ⟨b, 0, none⟩), .string s] w fun e w' => e = .returned (.tuple #[.int .i64 s.size, .nilIface]) ∧ ∃ v', Bl w' B b v' (l ++ s.data.toList) ∧ (∀ k, v'.ownBlock = some k → v.ownBlock = some k ∨ w.heap.size ≤ k) ∧ Mv (fun k => k = b ∨ v.ownBlock = some k) w w' := by
  obtain ⟨p, hp, hb⟩ := h.blk
  refine (bld_WriteString B b 0 2 45 #[p, v] p v l s w hp hb rfl rfl rfl (by kernel_rfl) (by decide) h.row hlen (Nat.le_of_lt (Nat.lt_of_le_of_lt h.ge h.lt))).mono ?_
  rintro e w' ⟨rfl, v', hb', hr', ho', hm'⟩
  exact ⟨rfl, v', ⟨⟨_, .inr rfl, hb'⟩, hr', h.ge⟩, ho', hm'⟩

/-! ### strings_Builder_String: function 30 -/
set_option maxHeartbeats 1600000 in
set_option maxRecDepth 100000 in
theorem bld_String_some (B b o : Nat) (T : TypeId) (cs : Array Value) (v : Value) (l : List UInt8) (w : World)
    (hb : w.heap[b]? = some (.cells cs T (0, 0))) (h1 : cs[o + 1]? = some v) (hr : BRow w B 5 v l) (h0 : l ≠ []) :
    Calls Tryz.prog 30 #[.pointer (some ⟨b, o, none⟩)] w fun e w' => e = .returned (.string ⟨l.toArray⟩) ∧ Mv (fun k => v.ownBlock = some k) w w' := by
  have hl0 : l.length ≠ 0 := by simpa using h0
  obtain ⟨g, cap, cur, rfl, hbg, hg, hnc, hcm, hcs, htake⟩ : ∃ g cap cur, v = .slice (some ⟨g, 0, none⟩) l.length cap ∧ B ≤ g ∧ w.heap[g]? = some (.cells cur 5 (0, 0)) ∧ l.length ≤ cap ∧ cap ≤ maxLen ∧ cur.size = cap * 1 ∧ cur.toList.take (l.length * 1) = l.map fun b => Value.int .u8 b.toNat := by
    rcases hr.2 with ⟨_, hz⟩ | ⟨g, cap, cur, hv, r⟩
    · exact absurd hz hl0
    · exact ⟨g, cap, cur, hv, r⟩
  have c1 : w.drew.cell? ⟨b, o + 1, none⟩ = some (.slice (some ⟨g, 0, none⟩) l.length cap) := (blk_cell (w := w.drew) hb (o + 1)).trans h1
  have hSD : (Builtin.unsafeSliceData_ #[43] 61 #[.slice (some ⟨g, 0, none⟩) l.length cap]).run Tryz.prog w.drew = .ok (.pointer (some ⟨g, 0, none⟩)) w.drew :=
    Lib.run_unsafeSliceData_row _ _ _ _ _ _ (by omega)
  have hUS : (Builtin.unsafeString_ #[61, 3] 9 #[.pointer (some ⟨g, 0, none⟩), .int .i64 l.length]).run Tryz.prog w.drew = .ok (.string ⟨l.toArray⟩) (w.drew.freeze ⟨g, 0, none⟩ l.length) := by
    refine Lib.run_unsafeString_row w.drew 61 3 9 5 Tryz.underlying61 (by kernel_rfl) g cur.size (by have hg' : w.drew.heap[g]? = some (.cells cur 5 (0, 0)) := hg; simp [World.shape?, hg']) l h0 (by omega) (by unfold maxLen at hcm; omega) ?_
    intro j x hx
    have := World.ownsRow.cells hr (g := g) rfl j (.int .u8 x.toNat) (by simp [hx])
    exact this
  have HG := Aside0.mk hg
  clear hb h1 hr h0 hl0 hbg hg hnc hcm hcs htake
  have u1 := Tryz.underlying45
  have u2 := Tryz.underlying42
  go_enter Tryz.func30, Tryz.ntmps30
  go_wp2
  go_region
  all_goals (go_wp2; go_ret; exact ⟨rfl, Mv.freeze (Mv.drew (Mv.refl _ w)) (by show Value.ownBlock _ = some _; rfl) _⟩)

set_option maxHeartbeats 1600000 in
set_option maxRecDepth 100000 in
theorem bld_String_none (B b o : Nat) (T : TypeId) (cs : Array Value) (v : Value) (w : World)
    (hb : w.heap[b]? = some (.cells cs T (0, 0))) (h1 : cs[o + 1]? = some v) (hr : BRow w B 5 v []) :
    Calls Tryz.prog 30 #[.pointer (some ⟨b, o, none⟩)] w fun e w' => e = .returned (.string ⟨#[]⟩) ∧ Mv (fun k => v.ownBlock = some k) w w' := by
  have hUS : ∀ W : World, ∀ q : Option Addr, (Builtin.unsafeString_ #[61, 3] 9 #[.pointer q, .int .i64 0]).run Tryz.prog W = .ok (.string .empty) W := fun W q => Lib.run_unsafeString_none W _ _ _ q
  have u1 := Tryz.underlying45
  have u2 := Tryz.underlying42
  have hlt : b < w.heap.size := (Array.getElem?_eq_some_iff.1 hb).1
  rcases hr.2 with ⟨rfl, _⟩ | ⟨g, cap, cur, rfl, hbg, hg, _, _, _, _⟩
  · have c1 : w.drew.cell? ⟨b, o + 1, none⟩ = some (.slice none 0 0) := (blk_cell (w := w.drew) hb (o + 1)).trans h1
    have hSD : (Builtin.unsafeSliceData_ #[43] 61 #[.slice none 0 0]).run Tryz.prog w.drew = .ok (.pointer none) w.drew := rfl
    clear hb h1 hr hlt
    go_enter Tryz.func30, Tryz.ntmps30
    go_wp2
    go_region
    all_goals (go_wp2; go_ret; exact ⟨rfl, Mv.drew (Mv.refl _ w)⟩)
  · by_cases hc0 : cap = 0
    · subst hc0
      have hSD : (Builtin.unsafeSliceData_ #[43] 61 #[.slice (some ⟨g, 0, none⟩) 0 0]).run Tryz.prog w.drew = .ok (.pointer (some ⟨w.drew.heap.size, 0, none⟩)) (w.drew.alloc (.view ⟨g, 0, none⟩ 5)) :=
        Lib.run_unsafeSliceData_zero w.drew _ _ 5 Tryz.underlying61 ⟨g, 0, none⟩ 0 (5, cur.size) (by have hg' : w.drew.heap[g]? = some (.cells cur 5 (0, 0)) := hg; simp [World.shape?, hg'])
      have c0 : w.cell? ⟨b, o + 1, none⟩ = some (.slice (some ⟨g, 0, none⟩) 0 0) := (blk_cell hb (o + 1)).trans h1
      have c1 : w.drew.cell? ⟨b, o + 1, none⟩ = some (.slice (some ⟨g, 0, none⟩) 0 0) := c0
      have c2 : (w.drew.alloc (.view ⟨g, 0, none⟩ 5)).cell? ⟨b, o + 1, none⟩ = some (.slice (some ⟨g, 0, none⟩) 0 0) :=
        (blk_cell (w := w.drew.alloc (.view ⟨g, 0, none⟩ 5)) (blk_alloc (w := w.drew) hb _) (o + 1)).trans h1
      have c3 : (w.alloc (.view ⟨g, 0, none⟩ 5)).drew.cell? ⟨b, o + 1, none⟩ = some (.slice (some ⟨g, 0, none⟩) 0 0) := c2
      clear hb h1 hr hlt hg
      go_enter Tryz.func30, Tryz.ntmps30
      go_wp2
      go_region
      all_goals (go_wp2; go_ret; exact ⟨rfl, by first | exact Mv.alloc (Mv.drew (Mv.refl _ w)) _ | exact Mv.drew (Mv.alloc (Mv.refl _ w) _)⟩)
    · have c1 : w.drew.cell? ⟨b, o + 1, none⟩ = some (.slice (some ⟨g, 0, none⟩) 0 cap) := (blk_cell (w := w.drew) hb (o + 1)).trans h1
      have hSD : (Builtin.unsafeSliceData_ #[43] 61 #[.slice (some ⟨g, 0, none⟩) 0 cap]).run Tryz.prog w.drew = .ok (.pointer (some ⟨g, 0, none⟩)) w.drew :=
        Lib.run_unsafeSliceData_row _ _ _ _ _ _ hc0
      clear hb h1 hr hlt hg hc0
      go_enter Tryz.func30, Tryz.ntmps30
      go_wp2
      go_region
      all_goals (go_wp2; go_ret; exact ⟨rfl, Mv.drew (Mv.refl _ w)⟩)
theorem bld_String (B b o : Nat) (T : TypeId) (cs : Array Value) (v : Value) (l : List UInt8) (w : World)
    (hb : w.heap[b]? = some (.cells cs T (0, 0))) (h1 : cs[o + 1]? = some v) (hr : BRow w B 5 v l) :
    Calls Tryz.prog 30 #[.pointer (some ⟨b, o, none⟩)] w fun e w' => e = .returned (.string ⟨l.toArray⟩) ∧ Mv (fun k => v.ownBlock = some k) w w' := by
  by_cases h0 : l = []
  · subst h0
    exact bld_String_none B b o T cs v w hb h1 hr
  · exact bld_String_some B b o T cs v l w hb h1 hr h0
theorem Bl.string {B b : Nat} {v : Value} {l : List UInt8} {w : World} (h : Bl w B b v l) :
    Calls Tryz.prog 30 #[.pointer (some ⟨b, 0, none⟩)] w fun e w' => e = .returned (.string ⟨l.toArray⟩) ∧ Mv (fun k => v.ownBlock = some k) w w' := by
  obtain ⟨p, hp, hb⟩ := h.blk
  exact bld_String B b 0 45 #[p, v] v l w hb rfl h.row

/-! ### oid_Encode: function 16 -/
def oid_Encode.go : List Int → List UInt8 → Option (List UInt8)
  | [], acc => some acc
  | n :: l, acc => (octet_Groups.f n).bind fun g => if acc.length + g.1.size ≤ 140737488355328 then oid_Encode.go l (acc ++ g.1.data.toList) else none
def oid_Encode.f (k : Nat) (a0 : ByteArray) : Option (ByteArray × Int) := (oid_Arcs.f k a0).bind fun r => if r.2 = 0 then (match r.1 with
    | x0 :: x1 :: l => (oid_Encode.go (wrap64 (x1 + wrap64 (40 * x0)) :: l) []).bind fun o => some (⟨o.toArray⟩, 0)
    | _ => none) else some (⟨#[]⟩, r.2)
theorem oid_Encode.mono : ∀ a0 k, LeO (oid_Encode.f k a0) (oid_Encode.f (k + 1) a0) := by
  intro a0 k
  unfold oid_Encode.f
  exact LeO.bind (oid_Arcs.mono _ _) (fun _ => LeO.refl _)
set_option maxHeartbeats 4000000 in
set_option maxRecDepth 100000 in
theorem oid_Encode.calls (k : Nat) (a0 : ByteArray) (r1 : ByteArray) (r2 : Int) (w : World) (hG : Gl w) (h : oid_Encode.f k a0 = some (r1, r2)) :
    Calls Tryz.prog 16 #[.string a0] w fun e w' => e = .returned (.tuple #[.string r1, .int .i64 r2]) ∧ Below w.heap.size w w' := by
  unfold oid_Encode.f at h
  obtain ⟨⟨x, c⟩, hA, h⟩ := Option.bind_eq_some_iff.mp h
  simp only at h
  have AA := Aside0.mk (oid_Arcs.calls k a0 x c w hG hA)
  clear hA hG
  go_enter Tryz.func16, Tryz.ntmps16
  by_cases hc : c = 0
  · rw [if_pos hc] at h
    subst hc
    match x, h, AA with
    | x0 :: x1 :: l, h, AA =>
    obtain ⟨o, ho, h⟩ := Option.bind_eq_some_iff.mp h
    simp only [Option.some.injEq, Prod.mk.injEq] at h
    obtain ⟨rfl, rfl⟩ := h
    have HO := Aside0.mk ho
    clear ho
    go_wp2_with fail
    refine AA.out.mono ?_
    rintro e w1 ⟨v1, rfl, hr1, hb1⟩
    have hown := Kd.own_of_R (enc := Value.int .i64) (h1 := fun _ => rfl) hr1
    have HB1 := Aside0.mk hb1
    obtain ⟨g, cap, cur, rfl, hbg, hg, hnc, hcm, hcs, htake⟩ : ∃ g cap cur, v1 = .slice (some ⟨g, 0, none⟩) (x0 :: x1 :: l).length cap ∧ w.heap.size ≤ g ∧ w1.heap[g]? = some (.cells cur 3 (0, 0)) ∧ (x0 :: x1 :: l).length ≤ cap ∧ cap ≤ maxLen ∧ cur.size = cap * 1 ∧ cur.toList.take ((x0 :: x1 :: l).length * 1) = encs (Value.int .i64) (x0 :: x1 :: l) := by
      rcases hown.2 with ⟨_, hz⟩ | ⟨g, cap, cur, hv, r⟩
      · exact absurd hz (by simp)
      · exact ⟨g, cap, cur, hv, r⟩
    have hl2 : 2 ≤ cur.size := by simp only [List.length_cons] at hnc; omega
    have hct : ∀ (j : Nat) (u : Value), (encs (Value.int .i64) (x0 :: x1 :: l))[j]? = some u → cur[j]? = some u := by
      intro j u hj
      rw [← htake, List.getElem?_take] at hj
      split at hj
      · rw [← Array.getElem?_toList]; exact hj
      · cases hj
    have hc0 : w1.cell? ⟨g, 0, none⟩ = some (.int .i64 x0) := (blk_cell hg 0).trans (hct 0 _ rfl)
    have hc1 : w1.cell? ⟨g, 1, none⟩ = some (.int .i64 x1) := (blk_cell hg 1).trans (hct 1 _ rfl)
    have hf1 : w1.frozen? ⟨g, 1, none⟩ = false := blk_frozen hg 1
    have HG := Aside0.mk hg
    have HT := Aside0.mk htake
    have HGB := Aside0.mk hbg
    have HCS := Aside0.mk hcs
    have HNC := Aside0.mk hnc
    have HCM := Aside0.mk hcm
    have HL2 := Aside0.mk hl2
    have k1 := eq_true (show 1 < (x0 :: x1 :: l).length by simp)
    have k0 := eq_true (show 0 < (x0 :: x1 :: l).length by simp)
    have hlen : (x0 :: x1 :: l).length = l.length + 2 := rfl
    clear hr1 hb1 hown hg htake hbg hcs hnc hcm hl2 AA
    go_wp2_with fail
    go_cut [] (fun W => Aside0 (W.heap[g]? = some (.cells (cur.setIfInBounds 1 (.int .i64 (wrap64 (x1 + wrap64 (40 * x0))))) 3 (0, 0))) ∧ Aside0 (Below w.heap.size w W))
    case first =>
      go_region
      all_goals
        go_wp2
        go_meet
        case rel => exact ⟨⟨blk_put HG.out 1 _ rfl⟩, ⟨by first | exact below_set HB1.out HGB.out | exact below_drew1 (below_set HB1.out HGB.out) | exact below_set (below_drew1 HB1.out) HGB.out⟩⟩
    case rest =>
      obtain ⟨HG2, HB2⟩ := hcut
      have HGL := Aside0.mk (show g < wc.heap.size from (Array.getElem?_eq_some_iff.1 HG2.out).1)
      obtain ⟨y, hy⟩ : ∃ y, y = wrap64 (x1 + wrap64 (40 * x0)) := ⟨_, rfl⟩
      rw [← hy] at HG2 HO
      have hrow : ∀ (j : Nat) (u : Int), (y :: l)[j]? = some u → (cur.setIfInBounds 1 (.int .i64 y))[1 + j]? = some (Value.int .i64 u) := by
        intro j u hj
        cases j with
        | zero =>
          simp only [List.getElem?_cons_zero, Option.some.injEq] at hj
          subst hj
          rw [Array.getElem?_setIfInBounds_self, if_pos (by have := HL2.out; omega)]
        | succ j =>
          rw [Array.getElem?_setIfInBounds_ne (by omega)]
          simp only [List.getElem?_cons_succ] at hj
          apply hct
          simp [encs, show 1 + (j + 1) = j + 2 from by omega, hj]
      have HRW := Aside0.mk hrow
      have k3 := eq_false (show ¬ (cap = 1) by have := HNC.out; simp only [List.length_cons] at this; omega)
      have k4 := eq_false (show ¬ (1 = cap) by have := HNC.out; simp only [List.length_cons] at this; omega)
      have k5 := eq_true (show 1 ≤ cap by have := HNC.out; simp only [List.length_cons] at this; omega)
      have HLB := Aside0.mk (show l.length + 2 ≤ maxLen by have := HCM.out; have := HNC.out; simp only [List.length_cons] at this; omega)
      clear hc0 hc1 hf1 HG HB1 hy hrow hct HT
      go_wp2_with fail
      have HBL := Aside0.mk (Bl.new wc wc.heap.size (Nat.le_refl _))
      have HG3 := Aside0.mk (show (wc.alloc (.cells #[.pointer none, .slice none 0 0] 45)).heap[g]? = some (.cells (cur.setIfInBounds 1 (.int .i64 y)) 3 (0, 0)) from (Mv.heap ((Mv.refl (fun _ => False) wc).alloc _) HG2.out id))
      have HB3 := Aside0.mk (below_alloc HB2.out (.cells #[.pointer none, .slice none 0 0] 45))
      obtain ⟨b, hb⟩ : ∃ b, b = wc.heap.size := ⟨_, rfl⟩
      have HGB2 := Aside0.mk (show g < b by rw [hb]; exact HGL.out)
      have HBB := Aside0.mk (show w.heap.size ≤ b by rw [hb]; exact HB2.out.size)
      rw [← hb] at HBL ⊢
      clear hb HG2 HB2 HGL
      obtain ⟨wd, hwd⟩ : ∃ wd, wd = wc.alloc (.cells #[.pointer none, .slice none 0 0] 45) := ⟨_, rfl⟩
      rw [← hwd] at HBL HG3 HB3 ⊢
      clear hwd
      go_loopw [31] (fun v31 W => ∃ (i : Nat) (v : Value) (acc : List UInt8), v31 = .int .i64 (i : Int) ∧ i ≤ l.length + 1 ∧ Aside0 (oid_Encode.go ((y :: l).drop i) acc = some o) ∧ Aside0 (Bl W b b v acc) ∧ Aside0 (W.heap[g]? = some (.cells (cur.setIfInBounds 1 (.int .i64 y)) 3 (0, 0))) ∧ Aside0 (Below w.heap.size w W)) (fun v31 _ => l.length + 2 - (intOf v31).toNat)
      case atStart => exact ⟨0, _, [], rfl, by omega, HO, HBL, HG3, HB3⟩
      case round =>
        clear HO HBL HG3 HB3
        obtain ⟨i, v, acc, rfl, hi, HA, HBL, HG3, HB3⟩ := hrel
        by_cases hlt : i < l.length + 1
        · obtain ⟨n, hn⟩ : ∃ n, (y :: l)[i]? = some n := ⟨_, List.getElem?_eq_getElem (by simpa using hlt)⟩
          have hd : (y :: l).drop i = n :: (y :: l).drop (i + 1) := by
            obtain ⟨h1, h2⟩ := List.getElem?_eq_some_iff.1 hn
            rw [← h2]
            exact List.drop_eq_getElem_cons h1
          have ha := HA.out
          rw [hd] at ha
          unfold oid_Encode.go at ha
          obtain ⟨⟨s1, c1⟩, hgr, ha⟩ := Option.bind_eq_some_iff.mp ha
          simp only at ha
          by_cases hsz : acc.length + s1.size ≤ 140737488355328
          · rw [if_pos hsz] at ha
            have hc := (blk_cell HG3.out (1 + i)).trans (HRW.out i n hn)
            have HA2 := Aside0.mk ha
            have HGR := Aside0.mk hgr
            have HSZ := Aside0.mk hsz
            have HLT := Aside0.mk hlt
            have q1 := eq_true (show i < l.length + 1 from hlt)
            have q2 := eq_true (show (i : Int) < (l.length : Int) + 1 by omega)
            have q3 : decide ((i : Int) < (l.length : Int) + 1) = true := decide_eq_true (by omega)
            clear HA hd hn ha hgr hsz hlt hi
            go_wp2_with fail
            refine (octet_Groups.calls n s1 c1 _ HGR.out).mono ?_
            rintro e w3 ⟨rfl, hb3⟩
            have HBL3 := Aside0.mk (HBL.out.keep hb3)
            have HG4 := Aside0.mk (show w3.heap[g]? = some (.cells (cur.setIfInBounds 1 (.int .i64 y)) 3 (0, 0)) from (Mv.heap (Mv.of_below (S := fun _ => False) hb3) HG3.out id))
            have HB4 := Aside0.mk (Below.trans HB3.out (Below.mono hb3 HB3.out.size))
            have AW := Aside0.mk (HBL3.out.write s1 HSZ.out)
            clear hb3 HBL HG3 HB3 hc
            go_wp2_with fail
            refine AW.out.mono ?_
            rintro e w5 ⟨rfl, v5, hbl5, ho5, hm5⟩
            have HBL5 := Aside0.mk hbl5
            have HG5 := Aside0.mk (show w5.heap[g]? = some (.cells (cur.setIfInBounds 1 (.int .i64 y)) 3 (0, 0)) from (hm5.heap HG4.out (fun h => by
              rcases h with h | h
              · have := HGB2.out; omega
              · have := (World.ownsRow.lt HBL3.out.row g h).1; have := HGB2.out; omega)))
            have HB5 := Aside0.mk (Below.trans HB4.out (Mv.below hm5 HB4.out.size (fun q h => by
              rcases h with h | h
              · have := HBB.out; omega
              · have := (World.ownsRow.lt HBL3.out.row q h).1; have := HBB.out; omega)))
            clear hbl5 ho5 hm5 AW HBL3 HG4 HB4
            have q5 : i ≤ 9223372036854775805 := by have := HLB.out; have := HLT.out; unfold maxLen at *; omega
            go_wp2
            go_roundw
            case rel => exact ⟨i + 1, v5, _, by go_num, by have := HLT.out; omega, HA2, HBL5, HG5, HB5⟩
            case measure => have := HLT.out; simp only [intOf]; omega
          · rw [if_neg hsz] at ha
            exact absurd ha (by simp)
        · have hd : (y :: l).drop i = [] := List.drop_eq_nil_of_le (by simp; omega)
          have ha := HA.out
          rw [hd] at ha
          unfold oid_Encode.go at ha
          injection ha with ha
          subst ha
          have q1 := eq_false (show ¬ i < l.length + 1 from hlt)
          have q2 := eq_false (show ¬ (i : Int) < (l.length : Int) + 1 by omega)
          have q3 : decide ((i : Int) < (l.length : Int) + 1) = false := decide_eq_false (by omega)
          have AS := Aside0.mk HBL.out.string
          clear HA hd hlt hi
          go_wp2_with fail
          refine AS.out.mono ?_
          rintro e w5 ⟨rfl, hm5⟩
          have HB5 := Aside0.mk (Below.trans HB3.out (Mv.below hm5 HB3.out.size (fun q h => by
            have := (World.ownsRow.lt HBL.out.row q h).1; have := HBB.out; omega)))
          clear hm5 AS
          go_wp2
          go_ret2
          exact ⟨rfl, HB5.out⟩
    | [], h, _ => exact absurd h (by simp)
    | [_], h, _ => exact absurd h (by simp)
  · rw [if_neg hc] at h
    simp only [Option.some.injEq, Prod.mk.injEq] at h
    obtain ⟨rfl, rfl⟩ := h
    have e1 : (c != 0) = true := bne_iff_ne.mpr hc
    clear hc
    go_wp2_with fail
    refine AA.out.mono ?_
    rintro e w1 ⟨v1, rfl, hr1, hb1⟩
    have HB1 := Aside0.mk hb1
    clear hr1 hb1
    go_wp2
    go_ret2
    exact ⟨rfl, HB1.out⟩

/-! ### gonglaw06_works: function 4 -/
def gonglaw06_works.f (k : Nat)  : Option (Bool) := (oid_Encode.f k (⟨#[49, 46, 51, 46, 54, 46, 49]⟩ : ByteArray)).bind fun bt116 => ((oid_Encode.f k (⟨#[50, 46, 57, 57, 57, 46, 51]⟩ : ByteArray)).bind fun bt118 => (if bt116.1.toList = ([43, 6, 1] : List UInt8) then (if bt116.2 = 0 then (if bt118.1.toList = ([136, 55, 3] : List UInt8) then (some (bt118.2 == 0)) else (some false)) else (some false)) else (some false)))
theorem gonglaw06_works.mono : ∀ k, LeO (gonglaw06_works.f k ) (gonglaw06_works.f (k + 1) ) := by
  intro  k
  unfold gonglaw06_works.f
  repeat' first
      | (with_reducible exact oid_Encode.mono _ _)
      | (with_reducible exact LeO.refl _)
      | (with_reducible exact LeO.none _)
      | (with_reducible refine LeO.ite ?_ ?_)
      | (with_reducible refine LeO.bind ?_ (fun _ => ?_))
      | exact oid_Encode.mono _ _
      | exact LeO.none _
      | refine LeO.ite ?_ ?_
      | refine LeO.bind ?_ (fun _ => ?_)
set_option maxHeartbeats 8000000 in
set_option maxRecDepth 100000 in
theorem gonglaw06_works.calls (k : Nat)  (r : Bool) (w : World) (hG : Gl w) (h : gonglaw06_works.f k  = some r) :
    Calls Tryz.prog 4 #[] w fun e w' => e = .returned (.bool r) ∧ Below w.heap.size w w' := by
  have HGl := Aside0.mk hG
  clear hG
  have HB := Aside0.mk (Below.refl w.heap.size w)
  have H : ((oid_Encode.f k (⟨#[49, 46, 51, 46, 54, 46, 49]⟩ : ByteArray)).bind fun bt116 => ((oid_Encode.f k (⟨#[50, 46, 57, 57, 57, 46, 51]⟩ : ByteArray)).bind fun bt118 => (if bt116.1.toList = ([43, 6, 1] : List UInt8) then (if bt116.2 = 0 then (if bt118.1.toList = ([136, 55, 3] : List UInt8) then (some (bt118.2 == 0)) else (some false)) else (some false)) else (some false)))) = some r := h
  clear h
  replace H := Option.bind_eq_some_iff.mp H
  obtain ⟨⟨t116, t117⟩, A10, H⟩ := H
  replace H : ((oid_Encode.f k (⟨#[50, 46, 57, 57, 57, 46, 51]⟩ : ByteArray)).bind fun bt118 => (if t116.toList = ([43, 6, 1] : List UInt8) then (if t117 = 0 then (if bt118.1.toList = ([136, 55, 3] : List UInt8) then (some (bt118.2 == 0)) else (some false)) else (some false)) else (some false))) = some r := H
  have A1 := Aside0.mk A10
  clear A10
  replace H := Option.bind_eq_some_iff.mp H
  obtain ⟨⟨t118, t119⟩, A20, H⟩ := H
  replace H : (if t116.toList = ([43, 6, 1] : List UInt8) then (if t117 = 0 then (if t118.toList = ([136, 55, 3] : List UInt8) then (some (t119 == 0)) else (some false)) else (some false)) else (some false)) = some r := H
  have A2 := Aside0.mk A20
  clear A20
  by_cases c3 : t116.toList = ([43, 6, 1] : List UInt8)
  rotate_left
  · rw [if_neg c3] at H
    have c3b0 : (t116.toList == ([43, 6, 1] : List UInt8)) = false := beq_eq_false_iff_ne.mpr c3
    have c3b1 : (t116.toList != ([43, 6, 1] : List UInt8)) = true := bne_iff_ne.mpr c3
    obtain rfl := Option.some.inj H
    go_enter Tryz.func4, Tryz.ntmps4
    go_wp2_with (first | ((with_reducible refine gate_callee (f := 16) rfl ?_); refine goesL_ (some 6) rfl rfl Tryz.func16 (by kernel_rfl) rfl #[.string (⟨#[49, 46, 51, 46, 54, 46, 49]⟩ : ByteArray)] rfl (by (try simp only [List.map_toArray, List.map_cons, List.map_nil]); first | done | rfl | (simp only [List.length_drop, List.length_take]; rfl)) ?_; (with_reducible refine (oid_Encode.calls k (⟨#[49, 46, 51, 46, 54, 46, 49]⟩ : ByteArray) t116 t117 _ ?side1 A1.out).mono ?_); (case side1 => first | exact HGl.out | exact HGl.out.below (by repeat (first | (with_reducible first | exact HB.out | apply below_alloc | apply pw_below_drewN | apply below_drew1) | exact HB.out | exact Below.refl _ _))); rintro e w12 ⟨rfl, hb⟩; refine ⟨_, rfl, ?_⟩; have n0_ := Aside0.mk (below_step (by repeat (first | (with_reducible first | exact HB.out | apply below_alloc | apply pw_below_drewN | apply below_drew1) | exact HB.out)) hb); clear HB; have HB := n0_; clear n0_; (try clear hb); (try clear hb2); (try clear hk); (try clear hi)) | ((with_reducible refine gate_callee (f := 16) rfl ?_); refine goesL_ (some 10) rfl rfl Tryz.func16 (by kernel_rfl) rfl #[.string (⟨#[50, 46, 57, 57, 57, 46, 51]⟩ : ByteArray)] rfl (by (try simp only [List.map_toArray, List.map_cons, List.map_nil]); first | done | rfl | (simp only [List.length_drop, List.length_take]; rfl)) ?_; (with_reducible refine (oid_Encode.calls k (⟨#[50, 46, 57, 57, 57, 46, 51]⟩ : ByteArray) t118 t119 _ ?side1 A2.out).mono ?_); (case side1 => first | exact HGl.out | exact HGl.out.below (by repeat (first | (with_reducible first | exact HB.out | apply below_alloc | apply pw_below_drewN | apply below_drew1) | exact HB.out | exact Below.refl _ _))); rintro e w13 ⟨rfl, hb⟩; refine ⟨_, rfl, ?_⟩; have n0_ := Aside0.mk (below_step (by repeat (first | (with_reducible first | exact HB.out | apply below_alloc | apply pw_below_drewN | apply below_drew1) | exact HB.out)) hb); clear HB; have HB := n0_; clear n0_; (try clear hb); (try clear hb2); (try clear hk); (try clear hi)))
    go_ret
    exact ⟨by first | rfl | (simp only [i64_w, i32_w]; rfl) | (simp [errW_none, errW_some] <;> rfl) | (simp [*, errW_none, errW_some] <;> rfl), by repeat (first | (with_reducible first | exact HB.out | apply below_alloc | apply pw_below_drewN | apply below_drew1) | exact HB.out)⟩
  rw [if_pos c3] at H
  have c3b0 : (t116.toList == ([43, 6, 1] : List UInt8)) = true := beq_iff_eq.mpr c3
  have c3b1 : (t116.toList != ([43, 6, 1] : List UInt8)) = false := bne_eq_false_iff_eq.mpr c3
  clear c3
  by_cases c4 : t117 = 0
  rotate_left
  · rw [if_neg c4] at H
    have c4b0 : (t117 == 0) = false := beq_eq_false_iff_ne.mpr c4
    have c4b1 : (t117 != 0) = true := bne_iff_ne.mpr c4
    obtain rfl := Option.some.inj H
    go_enter Tryz.func4, Tryz.ntmps4
    go_wp2_with (first | ((with_reducible refine gate_callee (f := 16) rfl ?_); refine goesL_ (some 6) rfl rfl Tryz.func16 (by kernel_rfl) rfl #[.string (⟨#[49, 46, 51, 46, 54, 46, 49]⟩ : ByteArray)] rfl (by (try simp only [List.map_toArray, List.map_cons, List.map_nil]); first | done | rfl | (simp only [List.length_drop, List.length_take]; rfl)) ?_; (with_reducible refine (oid_Encode.calls k (⟨#[49, 46, 51, 46, 54, 46, 49]⟩ : ByteArray) t116 t117 _ ?side1 A1.out).mono ?_); (case side1 => first | exact HGl.out | exact HGl.out.below (by repeat (first | (with_reducible first | exact HB.out | apply below_alloc | apply pw_below_drewN | apply below_drew1) | exact HB.out | exact Below.refl _ _))); rintro e w10 ⟨rfl, hb⟩; refine ⟨_, rfl, ?_⟩; have n0_ := Aside0.mk (below_step (by repeat (first | (with_reducible first | exact HB.out | apply below_alloc | apply pw_below_drewN | apply below_drew1) | exact HB.out)) hb); clear HB; have HB := n0_; clear n0_; (try clear hb); (try clear hb2); (try clear hk); (try clear hi)) | ((with_reducible refine gate_callee (f := 16) rfl ?_); refine goesL_ (some 10) rfl rfl Tryz.func16 (by kernel_rfl) rfl #[.string (⟨#[50, 46, 57, 57, 57, 46, 51]⟩ : ByteArray)] rfl (by (try simp only [List.map_toArray, List.map_cons, List.map_nil]); first | done | rfl | (simp only [List.length_drop, List.length_take]; rfl)) ?_; (with_reducible refine (oid_Encode.calls k (⟨#[50, 46, 57, 57, 57, 46, 51]⟩ : ByteArray) t118 t119 _ ?side1 A2.out).mono ?_); (case side1 => first | exact HGl.out | exact HGl.out.below (by repeat (first | (with_reducible first | exact HB.out | apply below_alloc | apply pw_below_drewN | apply below_drew1) | exact HB.out | exact Below.refl _ _))); rintro e w11 ⟨rfl, hb⟩; refine ⟨_, rfl, ?_⟩; have n0_ := Aside0.mk (below_step (by repeat (first | (with_reducible first | exact HB.out | apply below_alloc | apply pw_below_drewN | apply below_drew1) | exact HB.out)) hb); clear HB; have HB := n0_; clear n0_; (try clear hb); (try clear hb2); (try clear hk); (try clear hi)))
    go_ret
    exact ⟨by first | rfl | (simp only [i64_w, i32_w]; rfl) | (simp [errW_none, errW_some] <;> rfl) | (simp [*, errW_none, errW_some] <;> rfl), by repeat (first | (with_reducible first | exact HB.out | apply below_alloc | apply pw_below_drewN | apply below_drew1) | exact HB.out)⟩
  rw [if_pos c4] at H
  have c4b0 : (t117 == 0) = true := beq_iff_eq.mpr c4
  have c4b1 : (t117 != 0) = false := bne_eq_false_iff_eq.mpr c4
  clear c4
  by_cases c5 : t118.toList = ([136, 55, 3] : List UInt8)
  rotate_left
  · rw [if_neg c5] at H
    have c5b0 : (t118.toList == ([136, 55, 3] : List UInt8)) = false := beq_eq_false_iff_ne.mpr c5
    have c5b1 : (t118.toList != ([136, 55, 3] : List UInt8)) = true := bne_iff_ne.mpr c5
    obtain rfl := Option.some.inj H
    go_enter Tryz.func4, Tryz.ntmps4
    go_wp2_with (first | ((with_reducible refine gate_callee (f := 16) rfl ?_); refine goesL_ (some 6) rfl rfl Tryz.func16 (by kernel_rfl) rfl #[.string (⟨#[49, 46, 51, 46, 54, 46, 49]⟩ : ByteArray)] rfl (by (try simp only [List.map_toArray, List.map_cons, List.map_nil]); first | done | rfl | (simp only [List.length_drop, List.length_take]; rfl)) ?_; (with_reducible refine (oid_Encode.calls k (⟨#[49, 46, 51, 46, 54, 46, 49]⟩ : ByteArray) t116 t117 _ ?side1 A1.out).mono ?_); (case side1 => first | exact HGl.out | exact HGl.out.below (by repeat (first | (with_reducible first | exact HB.out | apply below_alloc | apply pw_below_drewN | apply below_drew1) | exact HB.out | exact Below.refl _ _))); rintro e w8 ⟨rfl, hb⟩; refine ⟨_, rfl, ?_⟩; have n0_ := Aside0.mk (below_step (by repeat (first | (with_reducible first | exact HB.out | apply below_alloc | apply pw_below_drewN | apply below_drew1) | exact HB.out)) hb); clear HB; have HB := n0_; clear n0_; (try clear hb); (try clear hb2); (try clear hk); (try clear hi)) | ((with_reducible refine gate_callee (f := 16) rfl ?_); refine goesL_ (some 10) rfl rfl Tryz.func16 (by kernel_rfl) rfl #[.string (⟨#[50, 46, 57, 57, 57, 46, 51]⟩ : ByteArray)] rfl (by (try simp only [List.map_toArray, List.map_cons, List.map_nil]); first | done | rfl | (simp only [List.length_drop, List.length_take]; rfl)) ?_; (with_reducible refine (oid_Encode.calls k (⟨#[50, 46, 57, 57, 57, 46, 51]⟩ : ByteArray) t118 t119 _ ?side1 A2.out).mono ?_); (case side1 => first | exact HGl.out | exact HGl.out.below (by repeat (first | (with_reducible first | exact HB.out | apply below_alloc | apply pw_below_drewN | apply below_drew1) | exact HB.out | exact Below.refl _ _))); rintro e w9 ⟨rfl, hb⟩; refine ⟨_, rfl, ?_⟩; have n0_ := Aside0.mk (below_step (by repeat (first | (with_reducible first | exact HB.out | apply below_alloc | apply pw_below_drewN | apply below_drew1) | exact HB.out)) hb); clear HB; have HB := n0_; clear n0_; (try clear hb); (try clear hb2); (try clear hk); (try clear hi)))
    go_ret
    exact ⟨by first | rfl | (simp only [i64_w, i32_w]; rfl) | (simp [errW_none, errW_some] <;> rfl) | (simp [*, errW_none, errW_some] <;> rfl), by repeat (first | (with_reducible first | exact HB.out | apply below_alloc | apply pw_below_drewN | apply below_drew1) | exact HB.out)⟩
  rw [if_pos c5] at H
  have c5b0 : (t118.toList == ([136, 55, 3] : List UInt8)) = true := beq_iff_eq.mpr c5
  have c5b1 : (t118.toList != ([136, 55, 3] : List UInt8)) = false := bne_eq_false_iff_eq.mpr c5
  clear c5
  obtain rfl := Option.some.inj H
  go_enter Tryz.func4, Tryz.ntmps4
  go_wp2_with (first | ((with_reducible refine gate_callee (f := 16) rfl ?_); refine goesL_ (some 6) rfl rfl Tryz.func16 (by kernel_rfl) rfl #[.string (⟨#[49, 46, 51, 46, 54, 46, 49]⟩ : ByteArray)] rfl (by (try simp only [List.map_toArray, List.map_cons, List.map_nil]); first | done | rfl | (simp only [List.length_drop, List.length_take]; rfl)) ?_; (with_reducible refine (oid_Encode.calls k (⟨#[49, 46, 51, 46, 54, 46, 49]⟩ : ByteArray) t116 t117 _ ?side1 A1.out).mono ?_); (case side1 => first | exact HGl.out | exact HGl.out.below (by repeat (first | (with_reducible first | exact HB.out | apply below_alloc | apply pw_below_drewN | apply below_drew1) | exact HB.out | exact Below.refl _ _))); rintro e w6 ⟨rfl, hb⟩; refine ⟨_, rfl, ?_⟩; have n0_ := Aside0.mk (below_step (by repeat (first | (with_reducible first | exact HB.out | apply below_alloc | apply pw_below_drewN | apply below_drew1) | exact HB.out)) hb); clear HB; have HB := n0_; clear n0_; (try clear hb); (try clear hb2); (try clear hk); (try clear hi)) | ((with_reducible refine gate_callee (f := 16) rfl ?_); refine goesL_ (some 10) rfl rfl Tryz.func16 (by kernel_rfl) rfl #[.string (⟨#[50, 46, 57, 57, 57, 46, 51]⟩ : ByteArray)] rfl (by (try simp only [List.map_toArray, List.map_cons, List.map_nil]); first | done | rfl | (simp only [List.length_drop, List.length_take]; rfl)) ?_; (with_reducible refine (oid_Encode.calls k (⟨#[50, 46, 57, 57, 57, 46, 51]⟩ : ByteArray) t118 t119 _ ?side1 A2.out).mono ?_); (case side1 => first | exact HGl.out | exact HGl.out.below (by repeat (first | (with_reducible first | exact HB.out | apply below_alloc | apply pw_below_drewN | apply below_drew1) | exact HB.out | exact Below.refl _ _))); rintro e w7 ⟨rfl, hb⟩; refine ⟨_, rfl, ?_⟩; have n0_ := Aside0.mk (below_step (by repeat (first | (with_reducible first | exact HB.out | apply below_alloc | apply pw_below_drewN | apply below_drew1) | exact HB.out)) hb); clear HB; have HB := n0_; clear n0_; (try clear hb); (try clear hb2); (try clear hk); (try clear hi)))
  go_ret
  exact ⟨by first | rfl | (simp only [i64_w, i32_w]; rfl) | (simp [errW_none, errW_some] <;> rfl) | (simp [*, errW_none, errW_some] <;> rfl), by repeat (first | (with_reducible first | exact HB.out | apply below_alloc | apply pw_below_drewN | apply below_drew1) | exact HB.out)⟩

/-! ### strconv_Itoa: function 31 -/
def strconv_Itoa.f (a0 : Int) : Option ByteArray :=
  if -9223372036854775808 ≤ a0 ∧ a0 ≤ 9223372036854775807 then some ⟨(Lib.itoa a0).toArray⟩ else none
theorem strconv_Itoa.calls (a0 : Int) (r : ByteArray) (w : World) (hG : Gl w) (h : strconv_Itoa.f a0 = some r) :
    Calls Tryz.prog 31 #[.int .i64 a0] w fun e w' => e = .returned (.string r) ∧ Below w.heap.size w w' := by
  unfold strconv_Itoa.f at h
  by_cases hc : -9223372036854775808 ≤ a0 ∧ a0 ≤ 9223372036854775807
  · rw [if_pos hc] at h
    obtain rfl := Option.some.inj h
    refine (Tryz.strconv_Itoa a0 hc.1 hc.2 w hG.tab).mono ?_
    rintro e w' ⟨rfl, k, os, rfl⟩
    exact ⟨rfl, Lib.below_grow _ w (Nat.le_refl _) k os⟩
  · rw [if_neg hc] at h
    exact absurd h (by simp)

/-! ### strings_Join: function 32 -/
def strings_Join.f (l0 : List ByteArray) (a1 : ByteArray) : Option ByteArray :=
  if l0.length ≤ 140737488355328 ∧ (Lib.join (l0.map (·.data.toList)) a1.data.toList).length ≤ 140737488355328 then some ⟨(Lib.join (l0.map (·.data.toList)) a1.data.toList).toArray⟩ else none
theorem strings_Join.calls (A0 : Option Addr) (c0 : Nat) (l0 : List ByteArray) (a1 : ByteArray) (r : ByteArray) (w : World) (hr0 : Kd.C Kd.string w A0 l0.length l0) (hc0 : l0.length ≤ c0) (h : strings_Join.f l0 a1 = some r) :
    Calls Tryz.prog 32 #[.slice A0 l0.length c0, .string a1] w fun e w' => e = .returned (.string r) ∧ Below w.heap.size w w' := by
  unfold strings_Join.f at h
  by_cases hc : l0.length ≤ 140737488355328 ∧ (Lib.join (l0.map (·.data.toList)) a1.data.toList).length ≤ 140737488355328
  · rw [if_pos hc] at h
    obtain rfl := Option.some.inj h
    by_cases h0 : l0.length = 0
    · obtain rfl := List.eq_nil_of_length_eq_zero h0
      refine (Tryz.strings_Join_none A0 c0 a1 w).mono ?_
      rintro e w' ⟨rfl, rfl⟩
      exact ⟨rfl, Below.refl _ _⟩
    · obtain ⟨ad, rfl, hcell⟩ := hr0.2.2 (by omega)
      have hat : ∀ (j : Nat) x, l0[j]? = some x → w.cell? (ad.add j) = some (.string x) := by
        intro j x hj
        obtain ⟨cs, hl, hk, hq⟩ := hcell j x hj
        have e : cs = [.string x] := hk
        subst e
        have := hq 0 _ rfl
        have e1 : j * Kd.string.sz + 0 = j := Nat.mul_one j
        rw [e1] at this
        exact this
      have hsp : ad.spot = none := by
        obtain ⟨x, hx⟩ : ∃ x, l0[0]? = some x := ⟨_, List.getElem?_eq_getElem (by omega)⟩
        have := hat 0 x hx
        have e0 : ad.add 0 = ad := by unfold Addr.add; rfl
        rw [e0] at this
        unfold World.cell? at this
        split at this
        · split at this
          · cases this
          · rename_i hs
            cases hh : ad.spot with
            | none => rfl
            | some _ => rw [hh] at hs; exact absurd rfl hs
        · cases this
      obtain ⟨bk, o, sp⟩ := ad
      simp only at hsp
      subst hsp
      have hcs : ∀ (j : Nat) x, l0[j]? = some x → w.cell? ⟨bk, o + j, none⟩ = some (.string x) := by
        intro j x hj
        rw [← hat j x hj]
        congr 1
        unfold Addr.add
        split
        · rename_i e; subst e; rfl
        · rfl
      have hbk : bk < w.heap.size := by
        obtain ⟨x, hx⟩ : ∃ x, l0[0]? = some x := ⟨_, List.getElem?_eq_getElem (by omega)⟩
        exact World.block_lt_of_cell? w _ (hcs 0 x hx)
      refine (Tryz.strings_Join bk o c0 l0 a1 w hcs hbk hc.1 hc0 hc.2).mono ?_
      rintro e w' ⟨rfl, hb⟩
      exact ⟨rfl, hb⟩
  · rw [if_neg hc] at h
    exact absurd h (by simp)

/-! ### oid_put: function 18 -/
def oid_put.l0 : Nat → List ByteArray → List Int → Int → Int → Option (ByteArray)
  | 0, _, _, _, _ => none
  | k + 1, x3, x6, x7, x8 => if x8 < x7 then (if 0 ≤ x8 then (if x8 < (x6.length : Int) then ((strconv_Itoa.f (rd x6 x8)).bind fun t121 => (if x3.length < 8796093022208 then (oid_put.l0 k (x3 ++ [t121]) x6 x7 (wrap64 (x8 + 1))) else (none))) else (none)) else (none)) else ((strings_Join.f x3 (⟨#[46]⟩ : ByteArray)).bind fun t125 => (some t125))
def oid_put.f (k : Nat) (l0 : List Int) : Option (ByteArray) := oid_put.l0 k ([] : List ByteArray) l0 (l0.length : Int) 0
theorem oid_put.mono_l : ∀ k, (∀ y0 y1 y2 y3, LeO (oid_put.l0 k y0 y1 y2 y3) (oid_put.l0 (k + 1) y0 y1 y2 y3))
  | 0 => fun _ _ _ _ r h => by simp [oid_put.l0] at h
  | k + 1 => by
    have ih0 := oid_put.mono_l k
    · intro y0 y1 y2 y3
      unfold oid_put.l0
      repeat' first
      | (with_reducible exact ih0 _ _ _ _)
      | (with_reducible exact LeO.refl _)
      | (with_reducible exact LeO.none _)
      | (with_reducible refine LeO.ite ?_ ?_)
      | (with_reducible refine LeO.bind ?_ (fun _ => ?_))
      | exact ih0 _ _ _ _
      | exact LeO.none _
      | refine LeO.ite ?_ ?_
      | refine LeO.bind ?_ (fun _ => ?_)
theorem oid_put.mono : ∀ a0 k, LeO (oid_put.f k a0) (oid_put.f (k + 1) a0) := by
  intro a0 k
  have ih0 := oid_put.mono_l k
  unfold oid_put.f
  repeat' first
      | (with_reducible exact ih0 _ _ _ _)
      | (with_reducible exact LeO.refl _)
      | (with_reducible exact LeO.none _)
      | (with_reducible refine LeO.ite ?_ ?_)
      | (with_reducible refine LeO.bind ?_ (fun _ => ?_))
      | exact ih0 _ _ _ _
      | exact LeO.none _
      | refine LeO.ite ?_ ?_
      | refine LeO.bind ?_ (fun _ => ?_)
set_option maxHeartbeats 8000000 in
set_option maxRecDepth 100000 in
theorem oid_put.calls (k : Nat) (A0 : Option Addr) (c0 : Nat) (l0 : List Int) (r : ByteArray) (w : World) (hG : Gl w) (hr0 : Kd.C (Kd.int .i64) w A0 l0.length l0) (hc0 : l0.length ≤ c0) (h : oid_put.f k l0 = some r) :
    Calls Tryz.prog 18 #[.slice A0 l0.length c0] w fun e w' => e = .returned (.string r) ∧ Below w.heap.size w w' := by
  have HGl := Aside0.mk hG
  clear hG
  have HR0 := Aside0.mk hr0
  have HC0 := Aside0.mk hc0
  clear hr0 hc0
  have HB := Aside0.mk (Below.refl w.heap.size w)
  have H : (oid_put.l0 k ([] : List ByteArray) l0 (l0.length : Int) 0) = some r := h
  clear h
  have H' := Aside0.mk H
  clear H
  go_enter Tryz.func18, Tryz.ntmps18
  go_wp2
  go_loopg [3, 8] k (fun kq v3 v8 w' => ∃ (x3_1 : List ByteArray) (x8_1 : Int), v8 = .int .i64 x8_1 ∧ Aside0 (oid_put.l0 kq x3_1 l0 (l0.length : Int) x8_1 = some r) ∧ Aside0 (kq ≤ k) ∧ Aside0 (Kd.R Kd.string 9 w' w.heap.size (fun _ => True) v3 x3_1) ∧ Aside0 (Below w.heap.size w w'))
  case atStart => exact ⟨(([] : List ByteArray)), (0), (by first | rfl | (simp; done) | (simp [*]; done) | (simp [*]; exact isEmpty_bne _) | (simp; exact isEmpty_bne _)), H', ⟨Nat.le_refl _⟩, ⟨by first | exact Kd.R_nil _ _ _ _ _ | exact Kd.N_nil _ _ _ _ _ | exact Kd.V_nil _ _ _ _ _ | exact Kd.Q_nil _ _ _ _ _ | exact Kd.S_nil _ _ _ _ _⟩, ⟨by repeat (first | (with_reducible first | exact HB.out | apply below_alloc | apply pw_below_drewN | apply below_drew1) | exact HB.out)⟩⟩
  case round =>
    clear H'
    try clear c1
    obtain ⟨x3_1, x8_1, rfl, HA, HK1, HO_3, HB⟩ := hrel
    cases gk with
    | zero => exact absurd HA.out (by simp [oid_put.l0])
    | succ k1 =>
      have H := HA.out
      clear HA
      simp only [oid_put.l0] at H
      by_cases c2 : x8_1 < (l0.length : Int)
      · rw [if_pos c2] at H
        have c2b0 : decide (x8_1 < (l0.length : Int)) = true := decide_eq_true c2
        clear c2
        by_cases c3 : 0 ≤ x8_1
        · rw [if_pos c3] at H
          have c3b0 : decide (0 ≤ x8_1) = true := decide_eq_true c3
          clear c3
          by_cases c4 : x8_1 < (l0.length : Int)
          · rw [if_pos c4] at H
            have c4b0 : decide (x8_1 < (l0.length : Int)) = true := decide_eq_true c4
            clear c4
            replace H := Option.bind_eq_some_iff.mp H
            obtain ⟨t121, A50, H⟩ := H
            replace H : (if x3_1.length < 8796093022208 then (oid_put.l0 k1 (x3_1 ++ [t121]) l0 (l0.length : Int) (wrap64 (x8_1 + 1))) else (none)) = some r := H
            have A5 := Aside0.mk A50
            clear A50
            by_cases c6 : x3_1.length < 8796093022208
            · rw [if_pos c6] at H
              have LMc6 := Aside0.mk c6
              clear c6
              obtain ⟨y122, hy122⟩ : ∃ y_ : List ByteArray, y_ = (x3_1 ++ [t121]) := ⟨_, rfl⟩
              replace H : (oid_put.l0 k1 y122 l0 (l0.length : Int) (wrap64 (x8_1 + 1))) = some r := by first | (rw [hy122]; with_reducible exact H) | (have H2_ := (Option.bind_some _ _).symm.trans H; rw [hy122]; with_reducible exact H2_) | (have H2_ := (Option.bind_some _ _).symm.trans H; with_reducible exact H2_) | with_reducible exact H | (rw [hy122]; exact H) | exact H
              have Ny122 := Aside0.mk hy122
              clear hy122
              have H' := Aside0.mk H
              clear H
              have p120 : 0 ≤ (x8_1 : Int) := of_decide_eq_true (by first | (with_reducible assumption) | assumption)
              have q120 : x8_1 < (l0.length : Int) := of_decide_eq_true (by first | (with_reducible assumption) | assumption)
              obtain ⟨ad120, e120, hx120_0⟩ := Kd.at_int HR0.out x8_1 p120 q120
              cases e120
              replace hx120_0 := (HB.out.cell (World.block_lt_of_cell? w _ hx120_0)).trans hx120_0
              replace p120 := eq_true p120
              replace q120 := eq_true q120
              go_wp2_with (first | ((with_reducible refine gate_callee (f := 31) rfl ?_); refine goesL_ (some 14) rfl rfl Tryz.func31 (by kernel_rfl) rfl #[.int .i64 (rd l0 x8_1)] rfl (by (try simp only [List.map_toArray, List.map_cons, List.map_nil]); first | done | rfl | (simp only [List.length_drop, List.length_take]; rfl)) ?_; (with_reducible refine (strconv_Itoa.calls (rd l0 x8_1) t121 _ ?side1 A5.out).mono ?_); (case side1 => first | exact HGl.out | exact HGl.out.below (by repeat (first | (with_reducible first | exact HB.out | apply below_alloc | apply pw_below_drewN | apply below_drew1) | exact HB.out | exact Below.refl _ _))); rintro e w7 ⟨rfl, hb⟩; refine ⟨_, rfl, ?_⟩; have n0_ := Aside0.mk (Kd.R_below (by (with_reducible repeat (first | apply Kd.R_alloc | apply Kd.R_drewN | apply Kd.R_drew)); exact HO_3.out) hb); have n1_ := Aside0.mk (below_step (by repeat (first | (with_reducible first | exact HB.out | apply below_alloc | apply pw_below_drewN | apply below_drew1) | exact HB.out)) hb); clear HO_3; clear HB; have HO_3 := n0_; have HB := n1_; clear n0_ n1_; (try clear hb); (try clear hb2); (try clear hk); (try clear hi)) | ((with_reducible refine gate_builtin (b := .append) (xs := #[.tmp 12, .tmp 15]) rfl ?_); at_builtin; refine Kd.R_append Kd.string (w0 := w) w.heap.size rfl (.tmp 12) (.tmp 15) 52 9 (.string ⟨#[]⟩) 16 rfl Tryz.underlying52 info9 rfl (by decide) (by omega) u3 x3_1 t121 [.string t121] (fun _ => True) (fun _ => False) rfl rfl ?aP (fun _ hk => hk.elim) ?aF ?aO ?aB ?aS ?aL ?_; (case aP => exact rfl); (case aB => exact (by repeat (first | (with_reducible first | exact HB.out | apply below_alloc | apply pw_below_drewN | apply below_drew1) | exact HB.out))); (case aF => exact (fun _ _ => trivial)); (case aO => exact (by (with_reducible repeat (first | apply Kd.R_alloc | apply Kd.R_drewN | apply Kd.R_drew)); exact HO_3.out)); (case aS => exact (below_size (by repeat (first | (with_reducible first | exact HB.out | apply below_alloc | apply pw_below_drewN | apply below_drew1) | exact HB.out)))); (case aL => have := LMc6.out; omega); intro v123 w8 ho hb hg hat; rw [← Ny122.out] at ho; have n0_ := Aside0.mk (hb); have n1_ := Aside0.mk (ho); clear HB; clear HO_3; have HB := n0_; have HO124 := n1_; clear n0_ n1_; clear ho hb hg hat))
              go_roundg k1
              case measure => have := HK1.out; omega
              case rel => exact ⟨(y122), (wrap64 (x8_1 + 1)), (by first | rfl | (simp; done) | (simp [*]; done) | (simp [*]; exact isEmpty_bne _) | (simp; exact isEmpty_bne _)), H', ⟨by have := HK1.out; omega⟩, ⟨by (with_reducible repeat (first | apply Kd.R_alloc | apply Kd.R_drewN | apply Kd.R_drew)); exact HO124.out⟩, ⟨by repeat (first | (with_reducible first | exact HB.out | apply below_alloc | apply pw_below_drewN | apply below_drew1) | exact HB.out)⟩⟩
            · rw [if_neg c6] at H
              exact absurd H (by simp)
          · rw [if_neg c4] at H
            exact absurd H (by simp)
        · rw [if_neg c3] at H
          exact absurd H (by simp)
      · rw [if_neg c2] at H
        have c2b0 : decide (x8_1 < (l0.length : Int)) = false := decide_eq_false c2
        clear c2
        replace H := Option.bind_eq_some_iff.mp H
        obtain ⟨t125, A90, H⟩ := H
        replace H : (some t125) = some r := H
        have A9 := Aside0.mk A90
        clear A90
        obtain rfl := Option.some.inj H
        obtain ⟨Ao10, co10, eo10⟩ := Kd.R_slice HO_3.out
        subst eo10
        go_wp2_with (first | ((with_reducible refine gate_callee (f := 32) rfl ?_); refine goesL_ (some 19) rfl rfl Tryz.func32 (by kernel_rfl) rfl #[.slice Ao10 x3_1.length co10, .string (⟨#[46]⟩ : ByteArray)] rfl (by (try simp only [List.map_toArray, List.map_cons, List.map_nil]); first | done | rfl | (simp only [List.length_drop, List.length_take]; rfl)) ?_; (with_reducible refine (strings_Join.calls _ _ x3_1 (⟨#[46]⟩ : ByteArray) t125 _ ?side1 ?side2 A9.out).mono ?_); (case side1 => repeat (first | exact (Kd.R_reads' HO_3.out).2.2 | (with_reducible refine Kd.C_alloc ?_ _) | (with_reducible refine Kd.C_drewN ?_ _) | (with_reducible refine Kd.C_drew ?_))); (case side2 => exact (Kd.R_reads' HO_3.out).2.1); rintro e w11 ⟨rfl, hb⟩; refine ⟨_, rfl, ?_⟩; have n0_ := Aside0.mk (Kd.R_below (by (with_reducible repeat (first | apply Kd.R_alloc | apply Kd.R_drewN | apply Kd.R_drew)); exact HO_3.out) hb); have n1_ := Aside0.mk (below_step (by repeat (first | (with_reducible first | exact HB.out | apply below_alloc | apply pw_below_drewN | apply below_drew1) | exact HB.out)) hb); clear HO_3; clear HB; have HO_3 := n0_; have HB := n1_; clear n0_ n1_; (try clear hb); (try clear hb2); (try clear hk); (try clear hi)))
        go_ret
        exact ⟨by first | rfl | (simp only [i64_w, i32_w]; rfl) | (simp [errW_none, errW_some] <;> rfl) | (simp [*, errW_none, errW_some] <;> rfl), by repeat (first | (with_reducible first | exact HB.out | apply below_alloc | apply pw_below_drewN | apply below_drew1) | exact HB.out)⟩

/-! ### oid_Text: function 5 -/
def oid_Text.f (k : Nat) (l0 : List Int) : Option (ByteArray × Int) := (oid_is.f k l0).bind fun t126 => (if t126 = true then ((oid_put.f k l0).bind fun t127 => (some (t127, 0))) else (some ((⟨#[]⟩ : ByteArray), 60)))
theorem oid_Text.mono : ∀ a0 k, LeO (oid_Text.f k a0) (oid_Text.f (k + 1) a0) := by
  intro a0 k
  unfold oid_Text.f
  repeat' first
      | (with_reducible exact oid_is.mono _ _)
      | (with_reducible exact oid_put.mono _ _)
      | (with_reducible exact LeO.refl _)
      | (with_reducible exact LeO.none _)
      | (with_reducible refine LeO.ite ?_ ?_)
      | (with_reducible refine LeO.bind ?_ (fun _ => ?_))
      | exact oid_is.mono _ _
      | exact oid_put.mono _ _
      | exact LeO.none _
      | refine LeO.ite ?_ ?_
      | refine LeO.bind ?_ (fun _ => ?_)
set_option maxHeartbeats 8000000 in
set_option maxRecDepth 100000 in
theorem oid_Text.calls (k : Nat) (A0 : Option Addr) (c0 : Nat) (l0 : List Int) (r1 : ByteArray) (r2 : Int) (w : World) (hG : Gl w) (hr0 : Kd.C (Kd.int .i64) w A0 l0.length l0) (hc0 : l0.length ≤ c0) (h : oid_Text.f k l0 = some (r1, r2)) :
    Calls Tryz.prog 5 #[.slice A0 l0.length c0] w fun e w' => e = .returned (.tuple #[.string r1, .int .i64 r2]) ∧ Below w.heap.size w w' := by
  have HGl := Aside0.mk hG
  clear hG
  have HR0 := Aside0.mk hr0
  have HC0 := Aside0.mk hc0
  clear hr0 hc0
  have HB := Aside0.mk (Below.refl w.heap.size w)
  have H : ((oid_is.f k l0).bind fun t126 => (if t126 = true then ((oid_put.f k l0).bind fun t127 => (some (t127, 0))) else (some ((⟨#[]⟩ : ByteArray), 60)))) = some (r1, r2) := h
  clear h
  replace H := Option.bind_eq_some_iff.mp H
  obtain ⟨t126, A20, H⟩ := H
  replace H : (if t126 = true then ((oid_put.f k l0).bind fun t127 => (some (t127, 0))) else (some ((⟨#[]⟩ : ByteArray), 60))) = some (r1, r2) := H
  have A2 := Aside0.mk A20
  clear A20
  by_cases c3 : t126 = true
  rotate_left
  · replace c3 := Bool.eq_false_iff.mpr c3
    subst c3
    have H1 : (some ((⟨#[]⟩ : ByteArray), 60)) = some (r1, r2) := by rw [if_neg (show ¬ (false = true) by decide)] at H; exact H
    clear H
    have H := H1
    clear H1
    simp only [Option.some.injEq, Prod.mk.injEq] at H
    obtain ⟨rfl, rfl⟩ := H
    go_enter Tryz.func5, Tryz.ntmps5
    go_wp2_with (first | ((with_reducible refine gate_callee (f := 17) rfl ?_); refine goesL_ (some 5) rfl rfl Tryz.func17 (by kernel_rfl) rfl #[.slice A0 l0.length c0] rfl (by (try simp only [List.map_toArray, List.map_cons, List.map_nil]); first | done | rfl | (simp only [List.length_drop, List.length_take]; rfl)) ?_; (with_reducible refine (oid_is.calls k _ _ l0 false _ ?side1 ?side2 A2.out).mono ?_); (case side1 => repeat (first | exact HR0.out | (with_reducible refine Kd.C_alloc ?_ _) | (with_reducible refine Kd.C_drewN ?_ _) | (with_reducible refine Kd.C_drew ?_))); (case side2 => exact HC0.out); rintro e w' ⟨rfl, ⟨nd, rfl⟩⟩; refine ⟨_, rfl, ?_⟩))
    go_ret2
    exact ⟨by first | rfl | (simp only [i64_w, i32_w]; rfl) | (simp [errW_none, errW_some] <;> rfl) | (simp [*, errW_none, errW_some] <;> rfl), by repeat (first | (with_reducible first | exact HB.out | apply below_alloc | apply pw_below_drewN | apply below_drew1) | exact HB.out)⟩
  subst c3
  have H1 : ((oid_put.f k l0).bind fun t127 => (some (t127, 0))) = some (r1, r2) := by rw [if_pos rfl] at H; exact H
  clear H
  have H := H1
  clear H1
  replace H := Option.bind_eq_some_iff.mp H
  obtain ⟨t127, A40, H⟩ := H
  replace H : (some (t127, 0)) = some (r1, r2) := H
  have A4 := Aside0.mk A40
  clear A40
  simp only [Option.some.injEq, Prod.mk.injEq] at H
  obtain ⟨rfl, rfl⟩ := H
  go_enter Tryz.func5, Tryz.ntmps5
  go_wp2_with (first | ((with_reducible refine gate_callee (f := 17) rfl ?_); refine goesL_ (some 5) rfl rfl Tryz.func17 (by kernel_rfl) rfl #[.slice A0 l0.length c0] rfl (by (try simp only [List.map_toArray, List.map_cons, List.map_nil]); first | done | rfl | (simp only [List.length_drop, List.length_take]; rfl)) ?_; (with_reducible refine (oid_is.calls k _ _ l0 true _ ?side1 ?side2 A2.out).mono ?_); (case side1 => repeat (first | exact HR0.out | (with_reducible refine Kd.C_alloc ?_ _) | (with_reducible refine Kd.C_drewN ?_ _) | (with_reducible refine Kd.C_drew ?_))); (case side2 => exact HC0.out); rintro e w' ⟨rfl, ⟨nd, rfl⟩⟩; refine ⟨_, rfl, ?_⟩) | ((with_reducible refine gate_callee (f := 18) rfl ?_); refine goesL_ (some 8) rfl rfl Tryz.func18 (by kernel_rfl) rfl #[.slice A0 l0.length c0] rfl (by (try simp only [List.map_toArray, List.map_cons, List.map_nil]); first | done | rfl | (simp only [List.length_drop, List.length_take]; rfl)) ?_; (with_reducible refine (oid_put.calls k _ _ l0 t127 _ ?side3 ?side1 ?side2 A4.out).mono ?_); (case side1 => repeat (first | exact HR0.out | (with_reducible refine Kd.C_alloc ?_ _) | (with_reducible refine Kd.C_drewN ?_ _) | (with_reducible refine Kd.C_drew ?_))); (case side2 => exact HC0.out); (case side3 => first | exact HGl.out | exact HGl.out.below (by repeat (first | (with_reducible first | exact HB.out | apply below_alloc | apply pw_below_drewN | apply below_drew1) | exact HB.out | exact Below.refl _ _))); rintro e w5 ⟨rfl, hb⟩; refine ⟨_, rfl, ?_⟩; have n0_ := Aside0.mk (below_step (by repeat (first | (with_reducible first | exact HB.out | apply below_alloc | apply pw_below_drewN | apply below_drew1) | exact HB.out)) hb); clear HB; have HB := n0_; clear n0_; (try clear hb); (try clear hb2); (try clear hk); (try clear hi)))
  go_ret2
  exact ⟨by first | rfl | (simp only [i64_w, i32_w]; rfl) | (simp [errW_none, errW_some] <;> rfl) | (simp [*, errW_none, errW_some] <;> rfl), by repeat (first | (with_reducible first | exact HB.out | apply below_alloc | apply pw_below_drewN | apply below_drew1) | exact HB.out)⟩

end Go.Proofs.YtjcenencgnfffaaGreatDoor.XOiW
