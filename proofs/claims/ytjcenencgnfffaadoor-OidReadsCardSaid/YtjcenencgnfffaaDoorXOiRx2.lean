-- Laid by extprint.py (the session's own driver): functions told by the kit's printer and by hand.
import Derived.Test.YtjcenencgnfffaaDoorXOiRx0
import Derived.Test.YtjcenencgnfffaaDoorXOiRx1
namespace Go.Proofs.YtjcenencgnfffaaDoor.XOiR
open Go.RowKit Gong Go.Proofs.YtjcenencgnfffaaDoorW.PrintWords Go.Proofs.YtjcenencgnfffaaDoorW.PrintLast Go.Proofs.YtjcenencgnfffaaDoorW.PrintMore
attribute [local go_sem] max2_int min2_int max_two min_two max_three min_three max_four min_four   -- for this text's walks alone
set_option linter.unusedVariables false
set_option linter.unusedSimpArgs false

/-! ### strings_Builder_WriteString: function 65 -/
theorem bld_u8 : (Tryd.prog.info? 5).map (fun i => (i.zero, i.size, i.bytes)) = some (some (.int .u8 0), 1, 1) := by kernel_rfl
set_option maxHeartbeats 1600000 in
set_option maxRecDepth 100000 in
theorem bld_WriteString (B b o n : Nat) (T : TypeId) (cs : Array Value) (p v : Value) (l : List UInt8) (s : ByteArray) (w : World) (hp : p = .pointer none ∨ p = .pointer (some ⟨b, o, none⟩))
    (hb : w.heap[b]? = some (.cells cs T (0, 0))) (hn : cs.size = n) (h0 : cs[o]? = some p) (h1 : cs[o + 1]? = some v) (hl : liesAt Tryd.prog Tryd.prog.depth T (n / Tryd.prog.cellsOf T) o 74 1 = true)
    (hT : 5 ≠ T) (hr : BRow w B 5 v l) (hlen : l.length + s.size ≤ 140737488355328) (hBw : B ≤ w.heap.size) :
    Calls Tryd.prog 65 #[.pointer (some ⟨b, o, none⟩), .string s] w fun e w' => e = .returned (.tuple #[.int .i64 s.size, .nilIface]) ∧ ∃ v', w'.heap[b]? = some (.cells ((cs.setIfInBounds o (.pointer (some ⟨b, o, none⟩))).setIfInBounds (o + 1) v') T (0, 0)) ∧ BRow w' B 5 v' (l ++ s.data.toList) ∧ (∀ k, v'.ownBlock = some k → v.ownBlock = some k ∨ w.heap.size ≤ k) ∧ Mv (fun k => k = b ∨ v.ownBlock = some k) w w' := by
  obtain ⟨i0, hi, hz0, hz1, hz2⟩ := info_parts bld_u8
  have hne := owns_ne hr hb hT
  have HR := Aside0.mk hr
  have HNE := Aside0.mk hne
  have H1 := Aside0.mk h1
  have HB0 := Aside0.mk (Array.getElem?_eq_some_iff.1 hb).1
  have HI := Aside0.mk hi
  have HZ0 := Aside0.mk hz0
  have HZ1 := Aside0.mk hz1
  have HZ2 := Aside0.mk hz2
  have HC := Aside0.mk (bld_copyCheck b o n T cs p w hp hb hn h0 hl)
  clear hb hn h0 hl hr hne h1 hi hz0 hz1 hz2 hp
  go_enter Tryd.func65, Tryd.ntmps65
  go_wp2_with fail
  refine HC.out.mono ?_
  rintro e w1 ⟨rfl, hb1, hm1⟩
  have hv1 : (cs.setIfInBounds o (.pointer (some ⟨b, o, none⟩)))[o + 1]? = some v := by
    rw [Array.getElem?_setIfInBounds_ne (by omega)]; exact H1.out
  have c1 := (blk_cell hb1 (o + 1)).trans hv1
  have HB1 := Aside0.mk hb1
  have HM1 := Aside0.mk hm1
  have HR1 := Aside0.mk (BRow.mv HR.out hm1 (fun k hk e => HNE.out (by rw [hk, e])))
  obtain ⟨A, c, rfl⟩ := BRow.slice HR.out
  clear hb1 hm1 hv1
  go_wp2_with (at_builtin; refine wpList_append_brow _ rfl _ _ 72 9 rfl B 5 i0 Tryd.underlying72 Tryd.underlying9 HI.out HZ0.out HZ1.out HZ2.out _ l rfl HR1.out s rfl (by omega) (by have := HM1.out.size; omega) ?_)
  intro v' w2 hr2 hg2 hk2
  have hb2 := Aside0.mk (blk_grown HB1.out hg2 (fun e => HNE.out e.symm))
  have d1 := (blk_cell hb2.out (o + 1))
  have f1 := blk_frozen hb2.out (o + 1)
  have HR2 := Aside0.mk hr2
  have HG2 := Aside0.mk hg2
  have HK2 := Aside0.mk hk2
  obtain ⟨A', c', rfl⟩ := BRow.slice hr2
  rw [Array.getElem?_setIfInBounds_ne (by omega), H1.out] at d1
  clear hr2 hg2 hk2
  go_wp2
  go_ret2
  have hlen2 : (l ++ s.data.toList).length = l.length + s.size := by simp
  rw [hlen2] at HR2 HK2
  have hmv : Mv (fun k => k = b ∨ (Value.slice A l.length c).ownBlock = some k) w w2 := (HM1.out.mono (fun k _ h => .inl h)).grown HG2.out (fun k hk _ => .inr hk)
  refine ⟨rfl, _, blk_set hb2.out (o + 1) _, ?_, ?_, Mv.setCell (S := fun k => k = b ∨ (Value.slice A l.length c).ownBlock = some k) hmv (.inl rfl) _ _⟩
  · refine BRow.mv HR2.out (Mv.setCell (S := fun k => k = b) (Mv.refl _ w2) rfl _ _) (fun k hk e => ?_)
    rcases HK2.out k hk with h | h
    · exact HNE.out (by rw [h, e])
    · have := HM1.out.size
      have := HB0.out
      omega
  · intro k hk
    rcases HK2.out k hk with h | h
    · exact .inl h
    · exact .inr (by have := HM1.out.size; omega)
theorem Bl.write {B b : Nat} {v : Value} {l : List UInt8} {w : World} (h : Bl w B b v l) (s : ByteArray) (hlen : l.length + s.size ≤ 140737488355328) :
    Calls Tryd.prog 65 #[.pointer (some ⟨b, 0, none⟩), .string s] w fun e w' => e = .returned (.tuple #[.int .i64 s.size, .nilIface]) ∧ ∃ v', Bl w' B b v' (l ++ s.data.toList) ∧ (∀ k, v'.ownBlock = some k → v.ownBlock = some k ∨ w.heap.size ≤ k) ∧ Mv (fun k => k = b ∨ v.ownBlock = some k) w w' := by
  obtain ⟨p, hp, hb⟩ := h.blk
  refine (bld_WriteString B b 0 2 74 #[p, v] p v l s w hp hb rfl rfl rfl (by kernel_rfl) (by decide) h.row hlen (Nat.le_of_lt (Nat.lt_of_le_of_lt h.ge h.lt))).mono ?_
  rintro e w' ⟨rfl, v', hb', hr', ho', hm'⟩
  exact ⟨rfl, v', ⟨⟨_, .inr rfl, hb'⟩, hr', h.ge⟩, ho', hm'⟩

/-! ### strings_Builder_String: function 66 -/
set_option maxHeartbeats 1600000 in
set_option maxRecDepth 100000 in
theorem bld_String_some (B b o : Nat) (T : TypeId) (cs : Array Value) (v : Value) (l : List UInt8) (w : World)
    (hb : w.heap[b]? = some (.cells cs T (0, 0))) (h1 : cs[o + 1]? = some v) (hr : BRow w B 5 v l) (h0 : l ≠ []) :
    Calls Tryd.prog 66 #[.pointer (some ⟨b, o, none⟩)] w fun e w' => e = .returned (.string ⟨l.toArray⟩) ∧ Mv (fun k => v.ownBlock = some k) w w' := by
  have hl0 : l.length ≠ 0 := by simpa using h0
  obtain ⟨g, cap, cur, rfl, hbg, hg, hnc, hcm, hcs, htake⟩ : ∃ g cap cur, v = .slice (some ⟨g, 0, none⟩) l.length cap ∧ B ≤ g ∧ w.heap[g]? = some (.cells cur 5 (0, 0)) ∧ l.length ≤ cap ∧ cap ≤ maxLen ∧ cur.size = cap * 1 ∧ cur.toList.take (l.length * 1) = l.map fun b => Value.int .u8 b.toNat := by
    rcases hr.2 with ⟨_, hz⟩ | ⟨g, cap, cur, hv, r⟩
    · exact absurd hz hl0
    · exact ⟨g, cap, cur, hv, r⟩
  have c1 : w.drew.cell? ⟨b, o + 1, none⟩ = some (.slice (some ⟨g, 0, none⟩) l.length cap) := (blk_cell (w := w.drew) hb (o + 1)).trans h1
  have hSD : (Builtin.unsafeSliceData_ #[72] 106 #[.slice (some ⟨g, 0, none⟩) l.length cap]).run Tryd.prog w.drew = .ok (.pointer (some ⟨g, 0, none⟩)) w.drew :=
    Lib.run_unsafeSliceData_row _ _ _ _ _ _ (by omega)
  have hUS : (Builtin.unsafeString_ #[106, 3] 9 #[.pointer (some ⟨g, 0, none⟩), .int .i64 l.length]).run Tryd.prog w.drew = .ok (.string ⟨l.toArray⟩) (w.drew.freeze ⟨g, 0, none⟩ l.length) := by
    refine Lib.run_unsafeString_row w.drew 106 3 9 5 Tryd.underlying106 (by kernel_rfl) g cur.size (by have hg' : w.drew.heap[g]? = some (.cells cur 5 (0, 0)) := hg; simp [World.shape?, hg']) l h0 (by omega) (by unfold maxLen at hcm; omega) ?_
    intro j x hx
    have := World.ownsRow.cells hr (g := g) rfl j (.int .u8 x.toNat) (by simp [hx])
    exact this
  have HG := Aside0.mk hg
  clear hb h1 hr h0 hl0 hbg hg hnc hcm hcs htake
  have u1 := Tryd.underlying74
  have u2 := Tryd.underlying71
  go_enter Tryd.func66, Tryd.ntmps66
  go_wp2
  go_region
  all_goals (go_wp2; go_ret; exact ⟨rfl, Mv.freeze (Mv.drew (Mv.refl _ w)) (by show Value.ownBlock _ = some _; rfl) _⟩)

set_option maxHeartbeats 1600000 in
set_option maxRecDepth 100000 in
theorem bld_String_none (B b o : Nat) (T : TypeId) (cs : Array Value) (v : Value) (w : World)
    (hb : w.heap[b]? = some (.cells cs T (0, 0))) (h1 : cs[o + 1]? = some v) (hr : BRow w B 5 v []) :
    Calls Tryd.prog 66 #[.pointer (some ⟨b, o, none⟩)] w fun e w' => e = .returned (.string ⟨#[]⟩) ∧ Mv (fun k => v.ownBlock = some k) w w' := by
  have hUS : ∀ W : World, ∀ q : Option Addr, (Builtin.unsafeString_ #[106, 3] 9 #[.pointer q, .int .i64 0]).run Tryd.prog W = .ok (.string .empty) W := fun W q => Lib.run_unsafeString_none W _ _ _ q
  have u1 := Tryd.underlying74
  have u2 := Tryd.underlying71
  have hlt : b < w.heap.size := (Array.getElem?_eq_some_iff.1 hb).1
  rcases hr.2 with ⟨rfl, _⟩ | ⟨g, cap, cur, rfl, hbg, hg, _, _, _, _⟩
  · have c1 : w.drew.cell? ⟨b, o + 1, none⟩ = some (.slice none 0 0) := (blk_cell (w := w.drew) hb (o + 1)).trans h1
    have hSD : (Builtin.unsafeSliceData_ #[72] 106 #[.slice none 0 0]).run Tryd.prog w.drew = .ok (.pointer none) w.drew := rfl
    clear hb h1 hr hlt
    go_enter Tryd.func66, Tryd.ntmps66
    go_wp2
    go_region
    all_goals (go_wp2; go_ret; exact ⟨rfl, Mv.drew (Mv.refl _ w)⟩)
  · by_cases hc0 : cap = 0
    · subst hc0
      have hSD : (Builtin.unsafeSliceData_ #[72] 106 #[.slice (some ⟨g, 0, none⟩) 0 0]).run Tryd.prog w.drew = .ok (.pointer (some ⟨w.drew.heap.size, 0, none⟩)) (w.drew.alloc (.view ⟨g, 0, none⟩ 5)) :=
        Lib.run_unsafeSliceData_zero w.drew _ _ 5 Tryd.underlying106 ⟨g, 0, none⟩ 0 (5, cur.size) (by have hg' : w.drew.heap[g]? = some (.cells cur 5 (0, 0)) := hg; simp [World.shape?, hg'])
      have c0 : w.cell? ⟨b, o + 1, none⟩ = some (.slice (some ⟨g, 0, none⟩) 0 0) := (blk_cell hb (o + 1)).trans h1
      have c1 : w.drew.cell? ⟨b, o + 1, none⟩ = some (.slice (some ⟨g, 0, none⟩) 0 0) := c0
      have c2 : (w.drew.alloc (.view ⟨g, 0, none⟩ 5)).cell? ⟨b, o + 1, none⟩ = some (.slice (some ⟨g, 0, none⟩) 0 0) :=
        (blk_cell (w := w.drew.alloc (.view ⟨g, 0, none⟩ 5)) (blk_alloc (w := w.drew) hb _) (o + 1)).trans h1
      have c3 : (w.alloc (.view ⟨g, 0, none⟩ 5)).drew.cell? ⟨b, o + 1, none⟩ = some (.slice (some ⟨g, 0, none⟩) 0 0) := c2
      clear hb h1 hr hlt hg
      go_enter Tryd.func66, Tryd.ntmps66
      go_wp2
      go_region
      all_goals (go_wp2; go_ret; exact ⟨rfl, by first | exact Mv.alloc (Mv.drew (Mv.refl _ w)) _ | exact Mv.drew (Mv.alloc (Mv.refl _ w) _)⟩)
    · have c1 : w.drew.cell? ⟨b, o + 1, none⟩ = some (.slice (some ⟨g, 0, none⟩) 0 cap) := (blk_cell (w := w.drew) hb (o + 1)).trans h1
      have hSD : (Builtin.unsafeSliceData_ #[72] 106 #[.slice (some ⟨g, 0, none⟩) 0 cap]).run Tryd.prog w.drew = .ok (.pointer (some ⟨g, 0, none⟩)) w.drew :=
        Lib.run_unsafeSliceData_row _ _ _ _ _ _ hc0
      clear hb h1 hr hlt hg hc0
      go_enter Tryd.func66, Tryd.ntmps66
      go_wp2
      go_region
      all_goals (go_wp2; go_ret; exact ⟨rfl, Mv.drew (Mv.refl _ w)⟩)
theorem bld_String (B b o : Nat) (T : TypeId) (cs : Array Value) (v : Value) (l : List UInt8) (w : World)
    (hb : w.heap[b]? = some (.cells cs T (0, 0))) (h1 : cs[o + 1]? = some v) (hr : BRow w B 5 v l) :
    Calls Tryd.prog 66 #[.pointer (some ⟨b, o, none⟩)] w fun e w' => e = .returned (.string ⟨l.toArray⟩) ∧ Mv (fun k => v.ownBlock = some k) w w' := by
  by_cases h0 : l = []
  · subst h0
    exact bld_String_none B b o T cs v w hb h1 hr
  · exact bld_String_some B b o T cs v l w hb h1 hr h0
theorem Bl.string {B b : Nat} {v : Value} {l : List UInt8} {w : World} (h : Bl w B b v l) :
    Calls Tryd.prog 66 #[.pointer (some ⟨b, 0, none⟩)] w fun e w' => e = .returned (.string ⟨l.toArray⟩) ∧ Mv (fun k => v.ownBlock = some k) w w' := by
  obtain ⟨p, hp, hb⟩ := h.blk
  exact bld_String B b 0 74 #[p, v] v l w hb rfl h.row

/-! ### oid_Encode: function 27 -/
def oid_Encode.go : List Int → List UInt8 → Option (List UInt8)
  | [], acc => some acc
  | n :: l, acc => (octet_Groups.f n).bind fun g => if acc.length + g.1.size ≤ 140737488355328 then oid_Encode.go l (acc ++ g.1.data.toList) else none
def oid_Encode.f (k : Nat) (a0 : ByteArray) : Option (ByteArray × Int) := (oid_Arcs.f k a0).bind fun r => if r.2 = 0 then (match r.1 with
    | x0 :: x1 :: l => (oid_Encode.go (wrap64 (x1 + wrap64 (40 * x0)) :: l) []).bind fun o => some (⟨o.toArray⟩, 0)
    | _ => none) else some (⟨#[]⟩, r.2)
theorem oid_Encode.mono : ∀ a0 k, LeO (oid_Encode.f k a0) (oid_Encode.f (k + 1) a0) := by
  intro a0 k
  unfold oid_Encode.f
  exact LeO.bind (oid_Arcs.mono _ _) (fun _ => LeO.refl _)
set_option maxHeartbeats 4000000 in
set_option maxRecDepth 100000 in
theorem oid_Encode.calls (k : Nat) (a0 : ByteArray) (r1 : ByteArray) (r2 : Int) (w : World) (hG : Gl w) (h : oid_Encode.f k a0 = some (r1, r2)) :
    Calls Tryd.prog 27 #[.string a0] w fun e w' => e = .returned (.tuple #[.string r1, .int .i64 r2]) ∧ Below w.heap.size w w' := by
  unfold oid_Encode.f at h
  obtain ⟨⟨x, c⟩, hA, h⟩ := Option.bind_eq_some_iff.mp h
  simp only at h
  have AA := Aside0.mk (oid_Arcs.calls k a0 x c w hG hA)
  clear hA hG
  go_enter Tryd.func27, Tryd.ntmps27
  by_cases hc : c = 0
  · rw [if_pos hc] at h
    subst hc
    match x, h, AA with
    | x0 :: x1 :: l, h, AA =>
    obtain ⟨o, ho, h⟩ := Option.bind_eq_some_iff.mp h
    simp only [Option.some.injEq, Prod.mk.injEq] at h
    obtain ⟨rfl, rfl⟩ := h
    have HO := Aside0.mk ho
    clear ho
    go_wp2_with fail
    refine AA.out.mono ?_
    rintro e w1 ⟨v1, rfl, hr1, hb1⟩
    have hown := Kd.own_of_R (enc := Value.int .i64) (h1 := fun _ => rfl) hr1
    have HB1 := Aside0.mk hb1
    obtain ⟨g, cap, cur, rfl, hbg, hg, hnc, hcm, hcs, htake⟩ : ∃ g cap cur, v1 = .slice (some ⟨g, 0, none⟩) (x0 :: x1 :: l).length cap ∧ w.heap.size ≤ g ∧ w1.heap[g]? = some (.cells cur 3 (0, 0)) ∧ (x0 :: x1 :: l).length ≤ cap ∧ cap ≤ maxLen ∧ cur.size = cap * 1 ∧ cur.toList.take ((x0 :: x1 :: l).length * 1) = encs (Value.int .i64) (x0 :: x1 :: l) := by
      rcases hown.2 with ⟨_, hz⟩ | ⟨g, cap, cur, hv, r⟩
      · exact absurd hz (by simp)
      · exact ⟨g, cap, cur, hv, r⟩
    have hl2 : 2 ≤ cur.size := by simp only [List.length_cons] at hnc; omega
    have hct : ∀ (j : Nat) (u : Value), (encs (Value.int .i64) (x0 :: x1 :: l))[j]? = some u → cur[j]? = some u := by
      intro j u hj
      rw [← htake, List.getElem?_take] at hj
      split at hj
      · rw [← Array.getElem?_toList]; exact hj
      · cases hj
    have hc0 : w1.cell? ⟨g, 0, none⟩ = some (.int .i64 x0) := (blk_cell hg 0).trans (hct 0 _ rfl)
    have hc1 : w1.cell? ⟨g, 1, none⟩ = some (.int .i64 x1) := (blk_cell hg 1).trans (hct 1 _ rfl)
    have hf1 : w1.frozen? ⟨g, 1, none⟩ = false := blk_frozen hg 1
    have HG := Aside0.mk hg
    have HT := Aside0.mk htake
    have HGB := Aside0.mk hbg
    have HCS := Aside0.mk hcs
    have HNC := Aside0.mk hnc
    have HCM := Aside0.mk hcm
    have HL2 := Aside0.mk hl2
    have k1 := eq_true (show 1 < (x0 :: x1 :: l).length by simp)
    have k0 := eq_true (show 0 < (x0 :: x1 :: l).length by simp)
    have hlen : (x0 :: x1 :: l).length = l.length + 2 := rfl
    clear hr1 hb1 hown hg htake hbg hcs hnc hcm hl2 AA
    go_wp2_with fail
    go_cut [] (fun W => Aside0 (W.heap[g]? = some (.cells (cur.setIfInBounds 1 (.int .i64 (wrap64 (x1 + wrap64 (40 * x0))))) 3 (0, 0))) ∧ Aside0 (Below w.heap.size w W))
    case first =>
      go_region
      all_goals
        go_wp2
        go_meet
        case rel => exact ⟨⟨blk_put HG.out 1 _ rfl⟩, ⟨by first | exact below_set HB1.out HGB.out | exact below_drew1 (below_set HB1.out HGB.out) | exact below_set (below_drew1 HB1.out) HGB.out⟩⟩
    case rest =>
      obtain ⟨HG2, HB2⟩ := hcut
      have HGL := Aside0.mk (show g < wc.heap.size from (Array.getElem?_eq_some_iff.1 HG2.out).1)
      obtain ⟨y, hy⟩ : ∃ y, y = wrap64 (x1 + wrap64 (40 * x0)) := ⟨_, rfl⟩
      rw [← hy] at HG2 HO
      have hrow : ∀ (j : Nat) (u : Int), (y :: l)[j]? = some u → (cur.setIfInBounds 1 (.int .i64 y))[1 + j]? = some (Value.int .i64 u) := by
        intro j u hj
        cases j with
        | zero =>
          simp only [List.getElem?_cons_zero, Option.some.injEq] at hj
          subst hj
          rw [Array.getElem?_setIfInBounds_self, if_pos (by have := HL2.out; omega)]
        | succ j =>
          rw [Array.getElem?_setIfInBounds_ne (by omega)]
          simp only [List.getElem?_cons_succ] at hj
          apply hct
          simp [encs, show 1 + (j + 1) = j + 2 from by omega, hj]
      have HRW := Aside0.mk hrow
      have k3 := eq_false (show ¬ (cap = 1) by have := HNC.out; simp only [List.length_cons] at this; omega)
      have k4 := eq_false (show ¬ (1 = cap) by have := HNC.out; simp only [List.length_cons] at this; omega)
      have k5 := eq_true (show 1 ≤ cap by have := HNC.out; simp only [List.length_cons] at this; omega)
      have HLB := Aside0.mk (show l.length + 2 ≤ maxLen by have := HCM.out; have := HNC.out; simp only [List.length_cons] at this; omega)
      clear hc0 hc1 hf1 HG HB1 hy hrow hct HT
      go_wp2_with fail
      have HBL := Aside0.mk (Bl.new wc wc.heap.size (Nat.le_refl _))
      have HG3 := Aside0.mk (show (wc.alloc (.cells #[.pointer none, .slice none 0 0] 74)).heap[g]? = some (.cells (cur.setIfInBounds 1 (.int .i64 y)) 3 (0, 0)) from (Mv.heap ((Mv.refl (fun _ => False) wc).alloc _) HG2.out id))
      have HB3 := Aside0.mk (below_alloc HB2.out (.cells #[.pointer none, .slice none 0 0] 74))
      obtain ⟨b, hb⟩ : ∃ b, b = wc.heap.size := ⟨_, rfl⟩
      have HGB2 := Aside0.mk (show g < b by rw [hb]; exact HGL.out)
      have HBB := Aside0.mk (show w.heap.size ≤ b by rw [hb]; exact HB2.out.size)
      rw [← hb] at HBL ⊢
      clear hb HG2 HB2 HGL
      obtain ⟨wd, hwd⟩ : ∃ wd, wd = wc.alloc (.cells #[.pointer none, .slice none 0 0] 74) := ⟨_, rfl⟩
      rw [← hwd] at HBL HG3 HB3 ⊢
      clear hwd
      go_loopw [31] (fun v31 W => ∃ (i : Nat) (v : Value) (acc : List UInt8), v31 = .int .i64 (i : Int) ∧ i ≤ l.length + 1 ∧ Aside0 (oid_Encode.go ((y :: l).drop i) acc = some o) ∧ Aside0 (Bl W b b v acc) ∧ Aside0 (W.heap[g]? = some (.cells (cur.setIfInBounds 1 (.int .i64 y)) 3 (0, 0))) ∧ Aside0 (Below w.heap.size w W)) (fun v31 _ => l.length + 2 - (intOf v31).toNat)
      case atStart => exact ⟨0, _, [], rfl, by omega, HO, HBL, HG3, HB3⟩
      case round =>
        clear HO HBL HG3 HB3
        obtain ⟨i, v, acc, rfl, hi, HA, HBL, HG3, HB3⟩ := hrel
        by_cases hlt : i < l.length + 1
        · obtain ⟨n, hn⟩ : ∃ n, (y :: l)[i]? = some n := ⟨_, List.getElem?_eq_getElem (by simpa using hlt)⟩
          have hd : (y :: l).drop i = n :: (y :: l).drop (i + 1) := by
            obtain ⟨h1, h2⟩ := List.getElem?_eq_some_iff.1 hn
            rw [← h2]
            exact List.drop_eq_getElem_cons h1
          have ha := HA.out
          rw [hd] at ha
          unfold oid_Encode.go at ha
          obtain ⟨⟨s1, c1⟩, hgr, ha⟩ := Option.bind_eq_some_iff.mp ha
          simp only at ha
          by_cases hsz : acc.length + s1.size ≤ 140737488355328
          · rw [if_pos hsz] at ha
            have hc := (blk_cell HG3.out (1 + i)).trans (HRW.out i n hn)
            have HA2 := Aside0.mk ha
            have HGR := Aside0.mk hgr
            have HSZ := Aside0.mk hsz
            have HLT := Aside0.mk hlt
            have q1 := eq_true (show i < l.length + 1 from hlt)
            have q2 := eq_true (show (i : Int) < (l.length : Int) + 1 by omega)
            have q3 : decide ((i : Int) < (l.length : Int) + 1) = true := decide_eq_true (by omega)
            clear HA hd hn ha hgr hsz hlt hi
            go_wp2_with fail
            refine (octet_Groups.calls n s1 c1 _ HGR.out).mono ?_
            rintro e w3 ⟨rfl, hb3⟩
            have HBL3 := Aside0.mk (HBL.out.keep hb3)
            have HG4 := Aside0.mk (show w3.heap[g]? = some (.cells (cur.setIfInBounds 1 (.int .i64 y)) 3 (0, 0)) from (Mv.heap (Mv.of_below (S := fun _ => False) hb3) HG3.out id))
            have HB4 := Aside0.mk (Below.trans HB3.out (Below.mono hb3 HB3.out.size))
            have AW := Aside0.mk (HBL3.out.write s1 HSZ.out)
            clear hb3 HBL HG3 HB3 hc
            go_wp2_with fail
            refine AW.out.mono ?_
            rintro e w5 ⟨rfl, v5, hbl5, ho5, hm5⟩
            have HBL5 := Aside0.mk hbl5
            have HG5 := Aside0.mk (show w5.heap[g]? = some (.cells (cur.setIfInBounds 1 (.int .i64 y)) 3 (0, 0)) from (hm5.heap HG4.out (fun h => by
              rcases h with h | h
              · have := HGB2.out; omega
              · have := (World.ownsRow.lt HBL3.out.row g h).1; have := HGB2.out; omega)))
            have HB5 := Aside0.mk (Below.trans HB4.out (Mv.below hm5 HB4.out.size (fun q h => by
              rcases h with h | h
              · have := HBB.out; omega
              · have := (World.ownsRow.lt HBL3.out.row q h).1; have := HBB.out; omega)))
            clear hbl5 ho5 hm5 AW HBL3 HG4 HB4
            have q5 : i ≤ 9223372036854775805 := by have := HLB.out; have := HLT.out; unfold maxLen at *; omega
            go_wp2
            go_roundw
            case rel => exact ⟨i + 1, v5, _, by go_num, by have := HLT.out; omega, HA2, HBL5, HG5, HB5⟩
            case measure => have := HLT.out; simp only [intOf]; omega
          · rw [if_neg hsz] at ha
            exact absurd ha (by simp)
        · have hd : (y :: l).drop i = [] := List.drop_eq_nil_of_le (by simp; omega)
          have ha := HA.out
          rw [hd] at ha
          unfold oid_Encode.go at ha
          injection ha with ha
          subst ha
          have q1 := eq_false (show ¬ i < l.length + 1 from hlt)
          have q2 := eq_false (show ¬ (i : Int) < (l.length : Int) + 1 by omega)
          have q3 : decide ((i : Int) < (l.length : Int) + 1) = false := decide_eq_false (by omega)
          have AS := Aside0.mk HBL.out.string
          clear HA hd hlt hi
          go_wp2_with fail
          refine AS.out.mono ?_
          rintro e w5 ⟨rfl, hm5⟩
          have HB5 := Aside0.mk (Below.trans HB3.out (Mv.below hm5 HB3.out.size (fun q h => by
            have := (World.ownsRow.lt HBL.out.row q h).1; have := HBB.out; omega)))
          clear hm5 AS
          go_wp2
          go_ret2
          exact ⟨rfl, HB5.out⟩
    | [], h, _ => exact absurd h (by simp)
    | [_], h, _ => exact absurd h (by simp)
  · rw [if_neg hc] at h
    simp only [Option.some.injEq, Prod.mk.injEq] at h
    obtain ⟨rfl, rfl⟩ := h
    have e1 : (c != 0) = true := bne_iff_ne.mpr hc
    clear hc
    go_wp2_with fail
    refine AA.out.mono ?_
    rintro e w1 ⟨v1, rfl, hr1, hb1⟩
    have HB1 := Aside0.mk hb1
    clear hr1 hb1
    go_wp2
    go_ret2
    exact ⟨rfl, HB1.out⟩

/-! ### gonglaw06_works: function 24 -/
def gonglaw06_works.f (k : Nat)  : Option (Bool) := (oid_Encode.f k (⟨#[49, 46, 51, 46, 54, 46, 49]⟩ : ByteArray)).bind fun bt116 => ((oid_Encode.f k (⟨#[50, 46, 57, 57, 57, 46, 51]⟩ : ByteArray)).bind fun bt118 => (if bt116.1.toList = ([43, 6, 1] : List UInt8) then (if bt116.2 = 0 then (if bt118.1.toList = ([136, 55, 3] : List UInt8) then (some (bt118.2 == 0)) else (some false)) else (some false)) else (some false)))
theorem gonglaw06_works.mono : ∀ k, LeO (gonglaw06_works.f k ) (gonglaw06_works.f (k + 1) ) := by
  intro  k
  unfold gonglaw06_works.f
  repeat' first
      | (with_reducible exact oid_Encode.mono _ _)
      | (with_reducible exact LeO.refl _)
      | (with_reducible exact LeO.none _)
      | (with_reducible refine LeO.ite ?_ ?_)
      | (with_reducible refine LeO.bind ?_ (fun _ => ?_))
      | exact oid_Encode.mono _ _
      | exact LeO.none _
      | refine LeO.ite ?_ ?_
      | refine LeO.bind ?_ (fun _ => ?_)
set_option maxHeartbeats 8000000 in
set_option maxRecDepth 100000 in
theorem gonglaw06_works.calls (k : Nat)  (r : Bool) (w : World) (hG : Gl w) (h : gonglaw06_works.f k  = some r) :
    Calls Tryd.prog 24 #[] w fun e w' => e = .returned (.bool r) ∧ Below w.heap.size w w' := by
  have HGl := Aside0.mk hG
  clear hG
  have HB := Aside0.mk (Below.refl w.heap.size w)
  have H : ((oid_Encode.f k (⟨#[49, 46, 51, 46, 54, 46, 49]⟩ : ByteArray)).bind fun bt116 => ((oid_Encode.f k (⟨#[50, 46, 57, 57, 57, 46, 51]⟩ : ByteArray)).bind fun bt118 => (if bt116.1.toList = ([43, 6, 1] : List UInt8) then (if bt116.2 = 0 then (if bt118.1.toList = ([136, 55, 3] : List UInt8) then (some (bt118.2 == 0)) else (some false)) else (some false)) else (some false)))) = some r := h
  clear h
  replace H := Option.bind_eq_some_iff.mp H
  obtain ⟨⟨t116, t117⟩, A10, H⟩ := H
  replace H : ((oid_Encode.f k (⟨#[50, 46, 57, 57, 57, 46, 51]⟩ : ByteArray)).bind fun bt118 => (if t116.toList = ([43, 6, 1] : List UInt8) then (if t117 = 0 then (if bt118.1.toList = ([136, 55, 3] : List UInt8) then (some (bt118.2 == 0)) else (some false)) else (some false)) else (some false))) = some r := H
  have A1 := Aside0.mk A10
  clear A10
  replace H := Option.bind_eq_some_iff.mp H
  obtain ⟨⟨t118, t119⟩, A20, H⟩ := H
  replace H : (if t116.toList = ([43, 6, 1] : List UInt8) then (if t117 = 0 then (if t118.toList = ([136, 55, 3] : List UInt8) then (some (t119 == 0)) else (some false)) else (some false)) else (some false)) = some r := H
  have A2 := Aside0.mk A20
  clear A20
  by_cases c3 : t116.toList = ([43, 6, 1] : List UInt8)
  · rw [if_pos c3] at H
    have c3b0 : (t116.toList == ([43, 6, 1] : List UInt8)) = true := beq_iff_eq.mpr c3
    have c3b1 : (t116.toList != ([43, 6, 1] : List UInt8)) = false := bne_eq_false_iff_eq.mpr c3
    clear c3
    by_cases c4 : t117 = 0
    · rw [if_pos c4] at H
      have c4b0 : (t117 == 0) = true := beq_iff_eq.mpr c4
      have c4b1 : (t117 != 0) = false := bne_eq_false_iff_eq.mpr c4
      clear c4
      by_cases c5 : t118.toList = ([136, 55, 3] : List UInt8)
      · rw [if_pos c5] at H
        have c5b0 : (t118.toList == ([136, 55, 3] : List UInt8)) = true := beq_iff_eq.mpr c5
        have c5b1 : (t118.toList != ([136, 55, 3] : List UInt8)) = false := bne_eq_false_iff_eq.mpr c5
        clear c5
        obtain rfl := Option.some.inj H
        go_enter Tryd.func24, Tryd.ntmps24
        go_wp2_with (first | ((with_reducible refine gate_callee (f := 27) rfl ?_); refine goesL_ (some 6) rfl rfl Tryd.func27 (by kernel_rfl) rfl #[.string (⟨#[49, 46, 51, 46, 54, 46, 49]⟩ : ByteArray)] rfl (by (try simp only [List.map_toArray, List.map_cons, List.map_nil]); first | done | rfl | (simp only [List.length_drop, List.length_take]; rfl)) ?_; (with_reducible refine (oid_Encode.calls k (⟨#[49, 46, 51, 46, 54, 46, 49]⟩ : ByteArray) t116 t117 _ ?side1 A1.out).mono ?_); (case side1 => first | exact HGl.out | exact HGl.out.below (by repeat (first | (with_reducible first | exact HB.out | apply below_alloc | apply pw_below_drewN | apply below_drew1) | exact HB.out | exact Below.refl _ _))); rintro e w6 ⟨rfl, hb⟩; refine ⟨_, rfl, ?_⟩; have n0_ := Aside0.mk (below_step (by repeat (first | (with_reducible first | exact HB.out | apply below_alloc | apply pw_below_drewN | apply below_drew1) | exact HB.out)) hb); clear HB; have HB := n0_; clear n0_; (try clear hb); (try clear hb2); (try clear hk); (try clear hi)) | ((with_reducible refine gate_callee (f := 27) rfl ?_); refine goesL_ (some 10) rfl rfl Tryd.func27 (by kernel_rfl) rfl #[.string (⟨#[50, 46, 57, 57, 57, 46, 51]⟩ : ByteArray)] rfl (by (try simp only [List.map_toArray, List.map_cons, List.map_nil]); first | done | rfl | (simp only [List.length_drop, List.length_take]; rfl)) ?_; (with_reducible refine (oid_Encode.calls k (⟨#[50, 46, 57, 57, 57, 46, 51]⟩ : ByteArray) t118 t119 _ ?side1 A2.out).mono ?_); (case side1 => first | exact HGl.out | exact HGl.out.below (by repeat (first | (with_reducible first | exact HB.out | apply below_alloc | apply pw_below_drewN | apply below_drew1) | exact HB.out | exact Below.refl _ _))); rintro e w7 ⟨rfl, hb⟩; refine ⟨_, rfl, ?_⟩; have n0_ := Aside0.mk (below_step (by repeat (first | (with_reducible first | exact HB.out | apply below_alloc | apply pw_below_drewN | apply below_drew1) | exact HB.out)) hb); clear HB; have HB := n0_; clear n0_; (try clear hb); (try clear hb2); (try clear hk); (try clear hi)))
        go_ret
        exact ⟨by first | rfl | (simp [errW_none, errW_some] <;> rfl) | (simp [*, errW_none, errW_some] <;> rfl), by repeat (first | (with_reducible first | exact HB.out | apply below_alloc | apply pw_below_drewN | apply below_drew1) | exact HB.out)⟩
      · rw [if_neg c5] at H
        have c5b0 : (t118.toList == ([136, 55, 3] : List UInt8)) = false := beq_eq_false_iff_ne.mpr c5
        have c5b1 : (t118.toList != ([136, 55, 3] : List UInt8)) = true := bne_iff_ne.mpr c5
        obtain rfl := Option.some.inj H
        go_enter Tryd.func24, Tryd.ntmps24
        go_wp2_with (first | ((with_reducible refine gate_callee (f := 27) rfl ?_); refine goesL_ (some 6) rfl rfl Tryd.func27 (by kernel_rfl) rfl #[.string (⟨#[49, 46, 51, 46, 54, 46, 49]⟩ : ByteArray)] rfl (by (try simp only [List.map_toArray, List.map_cons, List.map_nil]); first | done | rfl | (simp only [List.length_drop, List.length_take]; rfl)) ?_; (with_reducible refine (oid_Encode.calls k (⟨#[49, 46, 51, 46, 54, 46, 49]⟩ : ByteArray) t116 t117 _ ?side1 A1.out).mono ?_); (case side1 => first | exact HGl.out | exact HGl.out.below (by repeat (first | (with_reducible first | exact HB.out | apply below_alloc | apply pw_below_drewN | apply below_drew1) | exact HB.out | exact Below.refl _ _))); rintro e w8 ⟨rfl, hb⟩; refine ⟨_, rfl, ?_⟩; have n0_ := Aside0.mk (below_step (by repeat (first | (with_reducible first | exact HB.out | apply below_alloc | apply pw_below_drewN | apply below_drew1) | exact HB.out)) hb); clear HB; have HB := n0_; clear n0_; (try clear hb); (try clear hb2); (try clear hk); (try clear hi)) | ((with_reducible refine gate_callee (f := 27) rfl ?_); refine goesL_ (some 10) rfl rfl Tryd.func27 (by kernel_rfl) rfl #[.string (⟨#[50, 46, 57, 57, 57, 46, 51]⟩ : ByteArray)] rfl (by (try simp only [List.map_toArray, List.map_cons, List.map_nil]); first | done | rfl | (simp only [List.length_drop, List.length_take]; rfl)) ?_; (with_reducible refine (oid_Encode.calls k (⟨#[50, 46, 57, 57, 57, 46, 51]⟩ : ByteArray) t118 t119 _ ?side1 A2.out).mono ?_); (case side1 => first | exact HGl.out | exact HGl.out.below (by repeat (first | (with_reducible first | exact HB.out | apply below_alloc | apply pw_below_drewN | apply below_drew1) | exact HB.out | exact Below.refl _ _))); rintro e w9 ⟨rfl, hb⟩; refine ⟨_, rfl, ?_⟩; have n0_ := Aside0.mk (below_step (by repeat (first | (with_reducible first | exact HB.out | apply below_alloc | apply pw_below_drewN | apply below_drew1) | exact HB.out)) hb); clear HB; have HB := n0_; clear n0_; (try clear hb); (try clear hb2); (try clear hk); (try clear hi)))
        go_ret
        exact ⟨by first | rfl | (simp [errW_none, errW_some] <;> rfl) | (simp [*, errW_none, errW_some] <;> rfl), by repeat (first | (with_reducible first | exact HB.out | apply below_alloc | apply pw_below_drewN | apply below_drew1) | exact HB.out)⟩
    · rw [if_neg c4] at H
      have c4b0 : (t117 == 0) = false := beq_eq_false_iff_ne.mpr c4
      have c4b1 : (t117 != 0) = true := bne_iff_ne.mpr c4
      obtain rfl := Option.some.inj H
      go_enter Tryd.func24, Tryd.ntmps24
      go_wp2_with (first | ((with_reducible refine gate_callee (f := 27) rfl ?_); refine goesL_ (some 6) rfl rfl Tryd.func27 (by kernel_rfl) rfl #[.string (⟨#[49, 46, 51, 46, 54, 46, 49]⟩ : ByteArray)] rfl (by (try simp only [List.map_toArray, List.map_cons, List.map_nil]); first | done | rfl | (simp only [List.length_drop, List.length_take]; rfl)) ?_; (with_reducible refine (oid_Encode.calls k (⟨#[49, 46, 51, 46, 54, 46, 49]⟩ : ByteArray) t116 t117 _ ?side1 A1.out).mono ?_); (case side1 => first | exact HGl.out | exact HGl.out.below (by repeat (first | (with_reducible first | exact HB.out | apply below_alloc | apply pw_below_drewN | apply below_drew1) | exact HB.out | exact Below.refl _ _))); rintro e w10 ⟨rfl, hb⟩; refine ⟨_, rfl, ?_⟩; have n0_ := Aside0.mk (below_step (by repeat (first | (with_reducible first | exact HB.out | apply below_alloc | apply pw_below_drewN | apply below_drew1) | exact HB.out)) hb); clear HB; have HB := n0_; clear n0_; (try clear hb); (try clear hb2); (try clear hk); (try clear hi)) | ((with_reducible refine gate_callee (f := 27) rfl ?_); refine goesL_ (some 10) rfl rfl Tryd.func27 (by kernel_rfl) rfl #[.string (⟨#[50, 46, 57, 57, 57, 46, 51]⟩ : ByteArray)] rfl (by (try simp only [List.map_toArray, List.map_cons, List.map_nil]); first | done | rfl | (simp only [List.length_drop, List.length_take]; rfl)) ?_; (with_reducible refine (oid_Encode.calls k (⟨#[50, 46, 57, 57, 57, 46, 51]⟩ : ByteArray) t118 t119 _ ?side1 A2.out).mono ?_); (case side1 => first | exact HGl.out | exact HGl.out.below (by repeat (first | (with_reducible first | exact HB.out | apply below_alloc | apply pw_below_drewN | apply below_drew1) | exact HB.out | exact Below.refl _ _))); rintro e w11 ⟨rfl, hb⟩; refine ⟨_, rfl, ?_⟩; have n0_ := Aside0.mk (below_step (by repeat (first | (with_reducible first | exact HB.out | apply below_alloc | apply pw_below_drewN | apply below_drew1) | exact HB.out)) hb); clear HB; have HB := n0_; clear n0_; (try clear hb); (try clear hb2); (try clear hk); (try clear hi)))
      go_ret
      exact ⟨by first | rfl | (simp [errW_none, errW_some] <;> rfl) | (simp [*, errW_none, errW_some] <;> rfl), by repeat (first | (with_reducible first | exact HB.out | apply below_alloc | apply pw_below_drewN | apply below_drew1) | exact HB.out)⟩
  · rw [if_neg c3] at H
    have c3b0 : (t116.toList == ([43, 6, 1] : List UInt8)) = false := beq_eq_false_iff_ne.mpr c3
    have c3b1 : (t116.toList != ([43, 6, 1] : List UInt8)) = true := bne_iff_ne.mpr c3
    obtain rfl := Option.some.inj H
    go_enter Tryd.func24, Tryd.ntmps24
    go_wp2_with (first | ((with_reducible refine gate_callee (f := 27) rfl ?_); refine goesL_ (some 6) rfl rfl Tryd.func27 (by kernel_rfl) rfl #[.string (⟨#[49, 46, 51, 46, 54, 46, 49]⟩ : ByteArray)] rfl (by (try simp only [List.map_toArray, List.map_cons, List.map_nil]); first | done | rfl | (simp only [List.length_drop, List.length_take]; rfl)) ?_; (with_reducible refine (oid_Encode.calls k (⟨#[49, 46, 51, 46, 54, 46, 49]⟩ : ByteArray) t116 t117 _ ?side1 A1.out).mono ?_); (case side1 => first | exact HGl.out | exact HGl.out.below (by repeat (first | (with_reducible first | exact HB.out | apply below_alloc | apply pw_below_drewN | apply below_drew1) | exact HB.out | exact Below.refl _ _))); rintro e w12 ⟨rfl, hb⟩; refine ⟨_, rfl, ?_⟩; have n0_ := Aside0.mk (below_step (by repeat (first | (with_reducible first | exact HB.out | apply below_alloc | apply pw_below_drewN | apply below_drew1) | exact HB.out)) hb); clear HB; have HB := n0_; clear n0_; (try clear hb); (try clear hb2); (try clear hk); (try clear hi)) | ((with_reducible refine gate_callee (f := 27) rfl ?_); refine goesL_ (some 10) rfl rfl Tryd.func27 (by kernel_rfl) rfl #[.string (⟨#[50, 46, 57, 57, 57, 46, 51]⟩ : ByteArray)] rfl (by (try simp only [List.map_toArray, List.map_cons, List.map_nil]); first | done | rfl | (simp only [List.length_drop, List.length_take]; rfl)) ?_; (with_reducible refine (oid_Encode.calls k (⟨#[50, 46, 57, 57, 57, 46, 51]⟩ : ByteArray) t118 t119 _ ?side1 A2.out).mono ?_); (case side1 => first | exact HGl.out | exact HGl.out.below (by repeat (first | (with_reducible first | exact HB.out | apply below_alloc | apply pw_below_drewN | apply below_drew1) | exact HB.out | exact Below.refl _ _))); rintro e w13 ⟨rfl, hb⟩; refine ⟨_, rfl, ?_⟩; have n0_ := Aside0.mk (below_step (by repeat (first | (with_reducible first | exact HB.out | apply below_alloc | apply pw_below_drewN | apply below_drew1) | exact HB.out)) hb); clear HB; have HB := n0_; clear n0_; (try clear hb); (try clear hb2); (try clear hk); (try clear hi)))
    go_ret
    exact ⟨by first | rfl | (simp [errW_none, errW_some] <;> rfl) | (simp [*, errW_none, errW_some] <;> rfl), by repeat (first | (with_reducible first | exact HB.out | apply below_alloc | apply pw_below_drewN | apply below_drew1) | exact HB.out)⟩

/-! ### gongref06_Is: function 62 -/
mutual
def gongref06_Is.j0 : Nat → List Int → Bool → Option (Bool)
  | 0, _, _ => none
  | k + 1, x0, x11 => if x11 = true then (some false) else (gongref06_Is.l0 k x0 0)
def gongref06_Is.l0 : Nat → List Int → Int → Option (Bool)
  | 0, _, _ => none
  | k + 1, x0, x3 => if x3 < (x0.length : Int) then (if 0 ≤ x3 then (if (rd x0 x3) < 0 then (some false) else (if (rd x0 x3) > 4294967295 then (some false) else (gongref06_Is.l0 k x0 (wrap64 (x3 + 1))))) else (none)) else (if 0 < (x0.length : Int) then (if (rd x0 0) < 2 then (if 1 < (x0.length : Int) then (if (rd x0 1) ≤ 39 then (some true) else (if (rd x0 0) = 2 then (some (decide ((rd x0 1) ≤ 4294967215))) else (some false))) else (none)) else (if (rd x0 0) = 2 then (if 1 < (x0.length : Int) then (some (decide ((rd x0 1) ≤ 4294967215))) else (none)) else (some false))) else (none))
end
def gongref06_Is.f (k : Nat) (l0 : List Int) : Option (Bool) := if (l0.length : Int) < 2 then (gongref06_Is.j0 k l0 true) else (gongref06_Is.j0 k l0 (decide ((l0.length : Int) > 128)))
theorem gongref06_Is.mono_l : ∀ k, (∀ y0 y1, LeO (gongref06_Is.j0 k y0 y1) (gongref06_Is.j0 (k + 1) y0 y1)) ∧ (∀ y0 y1, LeO (gongref06_Is.l0 k y0 y1) (gongref06_Is.l0 (k + 1) y0 y1))
  | 0 => ⟨fun _ _ r h => by simp [gongref06_Is.j0] at h, fun _ _ r h => by simp [gongref06_Is.l0] at h⟩
  | k + 1 => by
    obtain ⟨ih0, ih1⟩ := gongref06_Is.mono_l k
    refine ⟨?_, ?_⟩
    · intro y0 y1
      unfold gongref06_Is.j0
      repeat' first
      | (with_reducible exact ih0 _ _)
      | (with_reducible exact ih1 _ _)
      | (with_reducible exact LeO.refl _)
      | (with_reducible exact LeO.none _)
      | (with_reducible refine LeO.ite ?_ ?_)
      | (with_reducible refine LeO.bind ?_ (fun _ => ?_))
      | exact ih0 _ _
      | exact ih1 _ _
      | exact LeO.none _
      | refine LeO.ite ?_ ?_
      | refine LeO.bind ?_ (fun _ => ?_)
    · intro y0 y1
      unfold gongref06_Is.l0
      repeat' first
      | (with_reducible exact ih0 _ _)
      | (with_reducible exact ih1 _ _)
      | (with_reducible exact LeO.refl _)
      | (with_reducible exact LeO.none _)
      | (with_reducible refine LeO.ite ?_ ?_)
      | (with_reducible refine LeO.bind ?_ (fun _ => ?_))
      | exact ih0 _ _
      | exact ih1 _ _
      | exact LeO.none _
      | refine LeO.ite ?_ ?_
      | refine LeO.bind ?_ (fun _ => ?_)
theorem gongref06_Is.mono : ∀ a0 k, LeO (gongref06_Is.f k a0) (gongref06_Is.f (k + 1) a0) := by
  intro a0 k
  obtain ⟨ih0, ih1⟩ := gongref06_Is.mono_l k
  unfold gongref06_Is.f
  repeat' first
      | (with_reducible exact ih0 _ _)
      | (with_reducible exact ih1 _ _)
      | (with_reducible exact LeO.refl _)
      | (with_reducible exact LeO.none _)
      | (with_reducible refine LeO.ite ?_ ?_)
      | (with_reducible refine LeO.bind ?_ (fun _ => ?_))
      | exact ih0 _ _
      | exact ih1 _ _
      | exact LeO.none _
      | refine LeO.ite ?_ ?_
      | refine LeO.bind ?_ (fun _ => ?_)
set_option maxHeartbeats 8000000 in
set_option maxRecDepth 100000 in
theorem gongref06_Is.calls (k : Nat) (A0 : Option Addr) (c0 : Nat) (l0 : List Int) (r : Bool) (w : World) (hr0 : Kd.C (Kd.int .i64) w A0 l0.length l0) (hc0 : l0.length ≤ c0) (h : gongref06_Is.f k l0 = some r) :
    Calls Tryd.prog 62 #[.slice A0 l0.length c0] w fun e w' => e = .returned (.bool r) ∧ Drawn0 w w' := by
  have HR0 := Aside0.mk hr0
  have HC0 := Aside0.mk hc0
  clear hr0 hc0
  have H : (if (l0.length : Int) < 2 then (gongref06_Is.j0 k l0 true) else (gongref06_Is.j0 k l0 (decide ((l0.length : Int) > 128)))) = some r := h
  clear h
  have HC2 := Aside0.mk H
  clear H
  go_enter Tryd.func62, Tryd.ntmps62
  go_upto_region 1 with (fail)
  go_cut [11] (fun v11 wc => ∃ (kq : Nat) (x11_1 : Bool), v11 = .bool x11_1 ∧ Aside0 (gongref06_Is.j0 kq l0 x11_1 = some r) ∧ Aside0 (kq ≤ k) ∧ Drawn0 w wc)
  case first =>
    have H := HC2.out
    clear HC2
    by_cases c3 : (l0.length : Int) < 2
    · rw [if_pos c3] at H
      have c3b0 : decide ((l0.length : Int) < 2) = true := decide_eq_true c3
      have c3b1 : decide (l0.length < 2) = true := decide_eq_true (by omega)
      clear c3
      (first | rw [c3b0] | (simp only [i64_w, i32_w]; rw [c3b0]) | skip)
      have H' := Aside0.mk H
      clear H
      go_wp2
      go_meet
      case rel => exact ⟨_, (true), (by first | rfl | (simp; done) | (simp [*]; done) | (simp [*]; exact isEmpty_bne _) | (simp; exact isEmpty_bne _)), H', ⟨by first | omega | exact Nat.le_refl _⟩, by repeat (first | exact Drawn0.refl _ | apply Drawn0.step)⟩
    · rw [if_neg c3] at H
      have c3b0 : decide ((l0.length : Int) < 2) = false := decide_eq_false c3
      have c3b1 : decide (l0.length < 2) = false := decide_eq_false (by omega)
      clear c3
      (first | rw [c3b0] | (simp only [i64_w, i32_w]; rw [c3b0]) | skip)
      have H' := Aside0.mk H
      clear H
      go_wp2
      go_meet
      case rel => exact ⟨_, (decide ((l0.length : Int) > 128)), (by first | rfl | (simp; done) | (simp [*]; done) | (simp [*]; exact isEmpty_bne _) | (simp; exact isEmpty_bne _)), H', ⟨by first | omega | exact Nat.le_refl _⟩, by repeat (first | exact Drawn0.refl _ | apply Drawn0.step)⟩
  case rest =>
    clear HC2
    try clear p2
    try clear c3
    try clear c3b0
    try clear c3b1
    obtain ⟨kq, x11_1, rfl, HA, HJ1, ⟨mc1, rfl⟩⟩ := hcut
    cases kq with
    | zero => exact absurd HA.out (by simp [gongref06_Is.j0])
    | succ kj1 =>
      have H := HA.out
      clear HA
      simp only [gongref06_Is.j0] at H
      by_cases c4 : x11_1 = true
      · subst c4
        have H1 : (some false) = some r := by rw [if_pos rfl] at H; exact H
        clear H
        have H := H1
        clear H1
        obtain rfl := Option.some.inj H
        go_wp2
        go_ret
        exact ⟨by first | rfl | (simp; done) | (simp [*]; done), by repeat (first | exact Drawn0.refl _ | apply Drawn0.step)⟩
      · replace c4 := Bool.eq_false_iff.mpr c4
        subst c4
        have H1 : (gongref06_Is.l0 kj1 l0 0) = some r := by rw [if_neg (show ¬ (false = true) by decide)] at H; exact H
        clear H
        have H := H1
        clear H1
        have H' := Aside0.mk H
        clear H
        go_wp2
        go_loopg [3] kj1 (fun kq v3 w' => ∃ (x3_2 : Int), v3 = .int .i64 x3_2 ∧ Aside0 (gongref06_Is.l0 kq l0 x3_2 = some r) ∧ Aside0 (kq ≤ kj1) ∧ Drawn0 w w')
        case atStart => exact ⟨(0), (by first | rfl | (simp; done) | (simp [*]; done) | (simp [*]; exact isEmpty_bne _) | (simp; exact isEmpty_bne _)), H', ⟨Nat.le_refl _⟩, by repeat (first | exact Drawn0.refl _ | apply Drawn0.step)⟩
        case round =>
          clear H'
          try clear c1
          try clear p2
          try clear c3
          try clear c3b0
          try clear c3b1
          try clear c4
          try clear p2
          obtain ⟨x3_2, rfl, HA, HK2, ⟨m2, rfl⟩⟩ := hrel
          cases gk with
          | zero => exact absurd HA.out (by simp [gongref06_Is.l0])
          | succ k2 =>
            have H := HA.out
            clear HA
            simp only [gongref06_Is.l0] at H
            by_cases c5 : x3_2 < (l0.length : Int)
            · rw [if_pos c5] at H
              have c5b0 : decide (x3_2 < (l0.length : Int)) = true := decide_eq_true c5
              clear c5
              by_cases c6 : 0 ≤ x3_2
              · rw [if_pos c6] at H
                have c6b0 : decide (0 ≤ x3_2) = true := decide_eq_true c6
                clear c6
                by_cases c7 : (rd l0 x3_2) < 0
                · rw [if_pos c7] at H
                  have c7b0 : decide ((rd l0 x3_2) < 0) = true := decide_eq_true c7
                  clear c7
                  obtain rfl := Option.some.inj H
                  have p120 : 0 ≤ (x3_2 : Int) := of_decide_eq_true (by first | (with_reducible assumption) | assumption)
                  have q120 : x3_2 < (l0.length : Int) := of_decide_eq_true (by first | (with_reducible assumption) | assumption)
                  obtain ⟨ad120, e120, hx120_0⟩ := Kd.at_int HR0.out x3_2 p120 q120
                  cases e120
                  replace p120 := eq_true p120
                  replace q120 := eq_true q120
                  go_wp2
                  go_ret
                  exact ⟨by first | rfl | (simp; done) | (simp [*]; done), by repeat (first | exact Drawn0.refl _ | apply Drawn0.step)⟩
                · rw [if_neg c7] at H
                  have c7b0 : decide ((rd l0 x3_2) < 0) = false := decide_eq_false c7
                  clear c7
                  by_cases c8 : (rd l0 x3_2) > 4294967295
                  · rw [if_pos c8] at H
                    have c8b0 : decide (4294967295 < (rd l0 x3_2)) = true := decide_eq_true c8
                    clear c8
                    obtain rfl := Option.some.inj H
                    have p120 : 0 ≤ (x3_2 : Int) := of_decide_eq_true (by first | (with_reducible assumption) | assumption)
                    have q120 : x3_2 < (l0.length : Int) := of_decide_eq_true (by first | (with_reducible assumption) | assumption)
                    obtain ⟨ad120, e120, hx120_0⟩ := Kd.at_int HR0.out x3_2 p120 q120
                    cases e120
                    replace p120 := eq_true p120
                    replace q120 := eq_true q120
                    have p121 : 0 ≤ (x3_2 : Int) := of_decide_eq_true (by first | (with_reducible assumption) | assumption)
                    have q121 : x3_2 < (l0.length : Int) := of_decide_eq_true (by first | (with_reducible assumption) | assumption)
                    obtain ⟨ad121, e121, hx121_0⟩ := Kd.at_int HR0.out x3_2 p121 q121
                    obtain rfl : ad120 = ad121 := (by injection e121)
                    replace p121 := eq_true p121
                    replace q121 := eq_true q121
                    go_wp2
                    go_ret
                    exact ⟨by first | rfl | (simp; done) | (simp [*]; done), by repeat (first | exact Drawn0.refl _ | apply Drawn0.step)⟩
                  · rw [if_neg c8] at H
                    have c8b0 : decide (4294967295 < (rd l0 x3_2)) = false := decide_eq_false c8
                    clear c8
                    have H' := Aside0.mk H
                    clear H
                    have p120 : 0 ≤ (x3_2 : Int) := of_decide_eq_true (by first | (with_reducible assumption) | assumption)
                    have q120 : x3_2 < (l0.length : Int) := of_decide_eq_true (by first | (with_reducible assumption) | assumption)
                    obtain ⟨ad120, e120, hx120_0⟩ := Kd.at_int HR0.out x3_2 p120 q120
                    cases e120
                    replace p120 := eq_true p120
                    replace q120 := eq_true q120
                    have p121 : 0 ≤ (x3_2 : Int) := of_decide_eq_true (by first | (with_reducible assumption) | assumption)
                    have q121 : x3_2 < (l0.length : Int) := of_decide_eq_true (by first | (with_reducible assumption) | assumption)
                    obtain ⟨ad121, e121, hx121_0⟩ := Kd.at_int HR0.out x3_2 p121 q121
                    obtain rfl : ad120 = ad121 := (by injection e121)
                    replace p121 := eq_true p121
                    replace q121 := eq_true q121
                    go_wp2
                    go_roundg k2
                    case measure => have := HJ1.out; have := HK2.out; omega
                    case rel => exact ⟨(wrap64 (x3_2 + 1)), (by first | rfl | (simp; done) | (simp [*]; done) | (simp [*]; exact isEmpty_bne _) | (simp; exact isEmpty_bne _)), H', ⟨by have := HJ1.out; have := HK2.out; omega⟩, by repeat (first | exact Drawn0.refl _ | apply Drawn0.step)⟩
              · rw [if_neg c6] at H
                exact absurd H (by simp)
            · rw [if_neg c5] at H
              have c5b0 : decide (x3_2 < (l0.length : Int)) = false := decide_eq_false c5
              clear c5
              by_cases c9 : 0 < (l0.length : Int)
              · rw [if_pos c9] at H
                have c9b0 : decide (0 < (l0.length : Int)) = true := decide_eq_true c9
                have c9b1 : decide (0 < l0.length) = true := decide_eq_true (by omega)
                clear c9
                by_cases c10 : (rd l0 0) < 2
                · rw [if_pos c10] at H
                  have c10b0 : decide ((rd l0 0) < 2) = true := decide_eq_true c10
                  clear c10
                  by_cases c11 : 1 < (l0.length : Int)
                  · rw [if_pos c11] at H
                    have c11b0 : decide (1 < (l0.length : Int)) = true := decide_eq_true c11
                    have c11b1 : decide (1 < l0.length) = true := decide_eq_true (by omega)
                    clear c11
                    by_cases c12 : (rd l0 1) ≤ 39
                    · rw [if_pos c12] at H
                      have c12b0 : decide ((rd l0 1) ≤ 39) = true := decide_eq_true c12
                      clear c12
                      obtain rfl := Option.some.inj H
                      have p122 : 0 ≤ (0 : Int) := (by omega)
                      have q122 : 0 < (l0.length : Int) := of_decide_eq_true (by first | (with_reducible assumption) | assumption)
                      obtain ⟨ad122, e122, hx122_0⟩ := Kd.at_int HR0.out 0 p122 q122
                      cases e122
                      have qi122 : (0 < l0.length) = True := eq_true (by omega)
                      (try rw [show ((0 : Int)).toNat = 0 from rfl] at hx122_0)
                      (try rw [Addr.add_zero'] at hx122_0)
                      replace p122 := eq_true p122
                      replace q122 := eq_true q122
                      have p123 : 0 ≤ (1 : Int) := (by omega)
                      have q123 : 1 < (l0.length : Int) := of_decide_eq_true (by first | (with_reducible assumption) | assumption)
                      obtain ⟨ad123, e123, hx123_0⟩ := Kd.at_int HR0.out 1 p123 q123
                      obtain rfl : ad122 = ad123 := (by injection e123)
                      (try simp only [show (1 : Int).toNat = 1 from rfl, Nat.reduceMul, Nat.reduceEqDiff, Go.Addr.add, ↓reduceIte] at hx123_0)
                      have qi123 : (1 < l0.length) = True := eq_true (by omega)
                      (try rw [show ((1 : Int)).toNat = 1 from rfl] at hx123_0)
                      replace p123 := eq_true p123
                      replace q123 := eq_true q123
                      go_wp2
                      go_ret
                      exact ⟨by first | rfl | (simp; done) | (simp [*]; done), by repeat (first | exact Drawn0.refl _ | apply Drawn0.step)⟩
                    · rw [if_neg c12] at H
                      have c12b0 : decide ((rd l0 1) ≤ 39) = false := decide_eq_false c12
                      clear c12
                      by_cases c13 : (rd l0 0) = 2
                      · rw [if_pos c13] at H
                        have c13b0 : ((rd l0 0) == 2) = true := beq_iff_eq.mpr c13
                        have c13b1 : ((rd l0 0) != 2) = false := bne_eq_false_iff_eq.mpr c13
                        clear c13
                        obtain rfl := Option.some.inj H
                        have p122 : 0 ≤ (0 : Int) := (by omega)
                        have q122 : 0 < (l0.length : Int) := of_decide_eq_true (by first | (with_reducible assumption) | assumption)
                        obtain ⟨ad122, e122, hx122_0⟩ := Kd.at_int HR0.out 0 p122 q122
                        cases e122
                        have qi122 : (0 < l0.length) = True := eq_true (by omega)
                        (try rw [show ((0 : Int)).toNat = 0 from rfl] at hx122_0)
                        (try rw [Addr.add_zero'] at hx122_0)
                        replace p122 := eq_true p122
                        replace q122 := eq_true q122
                        have p123 : 0 ≤ (1 : Int) := (by omega)
                        have q123 : 1 < (l0.length : Int) := of_decide_eq_true (by first | (with_reducible assumption) | assumption)
                        obtain ⟨ad123, e123, hx123_0⟩ := Kd.at_int HR0.out 1 p123 q123
                        obtain rfl : ad122 = ad123 := (by injection e123)
                        (try simp only [show (1 : Int).toNat = 1 from rfl, Nat.reduceMul, Nat.reduceEqDiff, Go.Addr.add, ↓reduceIte] at hx123_0)
                        have qi123 : (1 < l0.length) = True := eq_true (by omega)
                        (try rw [show ((1 : Int)).toNat = 1 from rfl] at hx123_0)
                        replace p123 := eq_true p123
                        replace q123 := eq_true q123
                        have p124 : 0 ≤ (0 : Int) := (by omega)
                        have q124 : 0 < (l0.length : Int) := of_decide_eq_true (by first | (with_reducible assumption) | assumption)
                        obtain ⟨ad124, e124, hx124_0⟩ := Kd.at_int HR0.out 0 p124 q124
                        obtain rfl : ad122 = ad124 := (by injection e124)
                        have qi124 : (0 < l0.length) = True := eq_true (by omega)
                        (try rw [show ((0 : Int)).toNat = 0 from rfl] at hx124_0)
                        (try rw [Addr.add_zero'] at hx124_0)
                        replace p124 := eq_true p124
                        replace q124 := eq_true q124
                        have p125 : 0 ≤ (1 : Int) := (by omega)
                        have q125 : 1 < (l0.length : Int) := of_decide_eq_true (by first | (with_reducible assumption) | assumption)
                        obtain ⟨ad125, e125, hx125_0⟩ := Kd.at_int HR0.out 1 p125 q125
                        obtain rfl : ad122 = ad125 := (by injection e125)
                        (try simp only [show (1 : Int).toNat = 1 from rfl, Nat.reduceMul, Nat.reduceEqDiff, Go.Addr.add, ↓reduceIte] at hx125_0)
                        have qi125 : (1 < l0.length) = True := eq_true (by omega)
                        (try rw [show ((1 : Int)).toNat = 1 from rfl] at hx125_0)
                        replace p125 := eq_true p125
                        replace q125 := eq_true q125
                        go_wp2
                        go_ret
                        exact ⟨by first | rfl | (simp; done) | (simp [*]; done), by repeat (first | exact Drawn0.refl _ | apply Drawn0.step)⟩
                      · rw [if_neg c13] at H
                        have c13b0 : ((rd l0 0) == 2) = false := beq_eq_false_iff_ne.mpr c13
                        have c13b1 : ((rd l0 0) != 2) = true := bne_iff_ne.mpr c13
                        obtain rfl := Option.some.inj H
                        have p122 : 0 ≤ (0 : Int) := (by omega)
                        have q122 : 0 < (l0.length : Int) := of_decide_eq_true (by first | (with_reducible assumption) | assumption)
                        obtain ⟨ad122, e122, hx122_0⟩ := Kd.at_int HR0.out 0 p122 q122
                        cases e122
                        have qi122 : (0 < l0.length) = True := eq_true (by omega)
                        (try rw [show ((0 : Int)).toNat = 0 from rfl] at hx122_0)
                        (try rw [Addr.add_zero'] at hx122_0)
                        replace p122 := eq_true p122
                        replace q122 := eq_true q122
                        have p123 : 0 ≤ (1 : Int) := (by omega)
                        have q123 : 1 < (l0.length : Int) := of_decide_eq_true (by first | (with_reducible assumption) | assumption)
                        obtain ⟨ad123, e123, hx123_0⟩ := Kd.at_int HR0.out 1 p123 q123
                        obtain rfl : ad122 = ad123 := (by injection e123)
                        (try simp only [show (1 : Int).toNat = 1 from rfl, Nat.reduceMul, Nat.reduceEqDiff, Go.Addr.add, ↓reduceIte] at hx123_0)
                        have qi123 : (1 < l0.length) = True := eq_true (by omega)
                        (try rw [show ((1 : Int)).toNat = 1 from rfl] at hx123_0)
                        replace p123 := eq_true p123
                        replace q123 := eq_true q123
                        have p124 : 0 ≤ (0 : Int) := (by omega)
                        have q124 : 0 < (l0.length : Int) := of_decide_eq_true (by first | (with_reducible assumption) | assumption)
                        obtain ⟨ad124, e124, hx124_0⟩ := Kd.at_int HR0.out 0 p124 q124
                        obtain rfl : ad122 = ad124 := (by injection e124)
                        have qi124 : (0 < l0.length) = True := eq_true (by omega)
                        (try rw [show ((0 : Int)).toNat = 0 from rfl] at hx124_0)
                        (try rw [Addr.add_zero'] at hx124_0)
                        replace p124 := eq_true p124
                        replace q124 := eq_true q124
                        go_wp2
                        go_ret
                        exact ⟨by first | rfl | (simp; done) | (simp [*]; done), by repeat (first | exact Drawn0.refl _ | apply Drawn0.step)⟩
                  · rw [if_neg c11] at H
                    exact absurd H (by simp)
                · rw [if_neg c10] at H
                  have c10b0 : decide ((rd l0 0) < 2) = false := decide_eq_false c10
                  clear c10
                  by_cases c14 : (rd l0 0) = 2
                  · rw [if_pos c14] at H
                    have c14b0 : ((rd l0 0) == 2) = true := beq_iff_eq.mpr c14
                    have c14b1 : ((rd l0 0) != 2) = false := bne_eq_false_iff_eq.mpr c14
                    clear c14
                    by_cases c15 : 1 < (l0.length : Int)
                    · rw [if_pos c15] at H
                      have c15b0 : decide (1 < (l0.length : Int)) = true := decide_eq_true c15
                      have c15b1 : decide (1 < l0.length) = true := decide_eq_true (by omega)
                      clear c15
                      obtain rfl := Option.some.inj H
                      have p122 : 0 ≤ (0 : Int) := (by omega)
                      have q122 : 0 < (l0.length : Int) := of_decide_eq_true (by first | (with_reducible assumption) | assumption)
                      obtain ⟨ad122, e122, hx122_0⟩ := Kd.at_int HR0.out 0 p122 q122
                      cases e122
                      have qi122 : (0 < l0.length) = True := eq_true (by omega)
                      (try rw [show ((0 : Int)).toNat = 0 from rfl] at hx122_0)
                      (try rw [Addr.add_zero'] at hx122_0)
                      replace p122 := eq_true p122
                      replace q122 := eq_true q122
                      have p126 : 0 ≤ (0 : Int) := (by omega)
                      have q126 : 0 < (l0.length : Int) := of_decide_eq_true (by first | (with_reducible assumption) | assumption)
                      obtain ⟨ad126, e126, hx126_0⟩ := Kd.at_int HR0.out 0 p126 q126
                      obtain rfl : ad122 = ad126 := (by injection e126)
                      have qi126 : (0 < l0.length) = True := eq_true (by omega)
                      (try rw [show ((0 : Int)).toNat = 0 from rfl] at hx126_0)
                      (try rw [Addr.add_zero'] at hx126_0)
                      replace p126 := eq_true p126
                      replace q126 := eq_true q126
                      have p127 : 0 ≤ (1 : Int) := (by omega)
                      have q127 : 1 < (l0.length : Int) := of_decide_eq_true (by first | (with_reducible assumption) | assumption)
                      obtain ⟨ad127, e127, hx127_0⟩ := Kd.at_int HR0.out 1 p127 q127
                      obtain rfl : ad122 = ad127 := (by injection e127)
                      (try simp only [show (1 : Int).toNat = 1 from rfl, Nat.reduceMul, Nat.reduceEqDiff, Go.Addr.add, ↓reduceIte] at hx127_0)
                      have qi127 : (1 < l0.length) = True := eq_true (by omega)
                      (try rw [show ((1 : Int)).toNat = 1 from rfl] at hx127_0)
                      replace p127 := eq_true p127
                      replace q127 := eq_true q127
                      go_wp2
                      go_ret
                      exact ⟨by first | rfl | (simp; done) | (simp [*]; done), by repeat (first | exact Drawn0.refl _ | apply Drawn0.step)⟩
                    · rw [if_neg c15] at H
                      exact absurd H (by simp)
                  · rw [if_neg c14] at H
                    have c14b0 : ((rd l0 0) == 2) = false := beq_eq_false_iff_ne.mpr c14
                    have c14b1 : ((rd l0 0) != 2) = true := bne_iff_ne.mpr c14
                    obtain rfl := Option.some.inj H
                    have p122 : 0 ≤ (0 : Int) := (by omega)
                    have q122 : 0 < (l0.length : Int) := of_decide_eq_true (by first | (with_reducible assumption) | assumption)
                    obtain ⟨ad122, e122, hx122_0⟩ := Kd.at_int HR0.out 0 p122 q122
                    cases e122
                    have qi122 : (0 < l0.length) = True := eq_true (by omega)
                    (try rw [show ((0 : Int)).toNat = 0 from rfl] at hx122_0)
                    (try rw [Addr.add_zero'] at hx122_0)
                    replace p122 := eq_true p122
                    replace q122 := eq_true q122
                    have p126 : 0 ≤ (0 : Int) := (by omega)
                    have q126 : 0 < (l0.length : Int) := of_decide_eq_true (by first | (with_reducible assumption) | assumption)
                    obtain ⟨ad126, e126, hx126_0⟩ := Kd.at_int HR0.out 0 p126 q126
                    obtain rfl : ad122 = ad126 := (by injection e126)
                    have qi126 : (0 < l0.length) = True := eq_true (by omega)
                    (try rw [show ((0 : Int)).toNat = 0 from rfl] at hx126_0)
                    (try rw [Addr.add_zero'] at hx126_0)
                    replace p126 := eq_true p126
                    replace q126 := eq_true q126
                    go_wp2
                    go_ret
                    exact ⟨by first | rfl | (simp; done) | (simp [*]; done), by repeat (first | exact Drawn0.refl _ | apply Drawn0.step)⟩
              · rw [if_neg c9] at H
                exact absurd H (by simp)

end Go.Proofs.YtjcenencgnfffaaDoor.XOiR
