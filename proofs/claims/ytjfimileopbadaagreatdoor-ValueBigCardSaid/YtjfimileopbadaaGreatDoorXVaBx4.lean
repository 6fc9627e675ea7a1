-- Laid by extprint.py (the session's own driver): functions told by the kit's printer and by hand.
import Derived.Test.YtjfimileopbadaaGreatDoorXVaBx0
import Derived.Test.YtjfimileopbadaaGreatDoorXVaBx3
namespace Go.Proofs.YtjfimileopbadaaGreatDoor.XVaB
open Go.RowKit Gong Go.Proofs.YtjfimileopbadaaGreatDoorW.PrintWords Go.Proofs.YtjfimileopbadaaGreatDoorW.PrintLast Go.Proofs.YtjfimileopbadaaGreatDoorW.PrintMore
attribute [local go_sem] max2_int min2_int max_two min_two max_three min_three max_four min_four   -- for this text's walks alone
set_option linter.unusedVariables false
set_option linter.unusedSimpArgs false

/-! ### strings_Builder_WriteString: function 41 -/
theorem bld_u8 : (Tryz.prog.info? 5).map (fun i => (i.zero, i.size, i.bytes)) = some (some (.int .u8 0), 1, 1) := by kernel_rfl
set_option maxHeartbeats 1600000 in
set_option maxRecDepth 100000 in
theorem bld_WriteString (B b o n : Nat) (T : TypeId) (cs : Array Value) (p v : Value) (l : List UInt8) (s : ByteArray) (w : World) (hp : p = .pointer none ∨ p = .pointer (some ⟨b, o, none⟩))
    (hb : w.heap[b]? = some (.cells cs T (0, 0))) (hn : cs.size = n) (h0 : cs[o]? = some p) (h1 : cs[o + 1]? = some v) (hl : liesAt Tryz.prog Tryz.prog.depth T (n / Tryz.prog.cellsOf T) o 75 1 = true)
    (hT : 5 ≠ T) (hr : BRow w B 5 v l) (hlen : l.length + s.size ≤ 140737488355328) (hBw : B ≤ w.heap.size) :
    Calls Tryz.prog 41 #[.pointer (some ⟨b, o, none⟩), .string s] w fun e w' => e = .returned (.tuple #[.int .i64 s.size, .nilIface]) ∧ ∃ v', w'.heap[b]? = some (.cells ((cs.setIfInBounds o (.pointer (some ⟨b, o, none⟩))).setIfInBounds (o + 1) v') T (0, 0)) ∧ BRow w' B 5 v' (l ++ s.data.toList) ∧ (∀ k, v'.ownBlock = some k → v.ownBlock = some k ∨ w.heap.size ≤ k) ∧ Mv (fun k => k = b ∨ v.ownBlock = some k) w w' := by
  obtain ⟨i0, hi, hz0, hz1, hz2⟩ := info_parts bld_u8
  have hne := owns_ne hr hb hT
  have HR := Aside0.mk hr
  have HNE := Aside0.mk hne
  have H1 := Aside0.mk h1
  have HB0 := Aside0.mk (Array.getElem?_eq_some_iff.1 hb).1
  have HI := Aside0.mk hi
  have HZ0 := Aside0.mk hz0
  have HZ1 := Aside0.mk hz1
  have HZ2 := Aside0.mk hz2
  have HC := Aside0.mk (bld_copyCheck b o n T cs p w hp hb hn h0 hl)
  clear hb hn h0 hl hr hne h1 hi hz0 hz1 hz2 hp
  go_enter Tryz.func41, Tryz.ntmps41
  go_wp2_with fail
  refine HC.out.mono ?_
  rintro e w1 ⟨rfl, hb1, hm1⟩
  have hv1 : (cs.setIfInBounds o (.pointer (some ⟨b, o, none⟩)))[o + 1]? = some v := by
    rw [Array.getElem?_setIfInBounds_ne (by omega)]; exact H1.out
  have c1 := (blk_cell hb1 (o + 1)).trans hv1
  have HB1 := Aside0.mk hb1
  have HM1 := Aside0.mk hm1
  have HR1 := Aside0.mk (BRow.mv HR.out hm1 (fun k hk e => HNE.out (by rw [hk, e])))
  obtain ⟨A, c, rfl⟩ := BRow.slice HR.out
  clear hb1 hm1 hv1
  go_wp2_with (at_builtin; refine wpList_append_brow _ rfl _ _ 73 9 rfl B 5 i0 Tryz.underlying73 Tryz.underlying9 HI.out HZ0.out HZ1.out HZ2.out _ l rfl HR1.out s rfl (by omega) (by have := HM1.out.size; omega) ?_)
  intro v' w2 hr2 hg2 hk2
  have hb2 := Aside0.mk (blk_grown HB1.out hg2 (fun e => HNE.out e.symm))
  have d1 := (blk_cell hb2.out (o + 1))
  have f1 := blk_frozen hb2.out (o + 1)
  have HR2 := Aside0.mk hr2
  have HG2 := Aside0.mk hg2
  have HK2 := Aside0.mk hk2
  obtain ⟨A', c', rfl⟩ := BRow.slice hr2
  rw [Array.getElem?_setIfInBounds_ne (by omega), H1.out] at d1
  clear hr2 hg2 hk2
  go_wp2
  go_ret2
  have hlen2 : (l ++ s.data.toList).length = l.length + s.size := by simp
  rw [hlen2] at HR2 HK2
  have hmv : Mv (fun k => k = b ∨ (Value.slice A l.length c).ownBlock = some k) w w2 := (HM1.out.mono (fun k _ h => .inl h)).grown HG2.out (fun k hk _ => .inr hk)
  refine ⟨rfl, _, blk_set hb2.out (o + 1) _, ?_, ?_, Mv.setCell (S := fun k => k = b ∨ (Value.slice A l.length c).ownBlock = some k) hmv (.inl rfl) _ _⟩
  · refine BRow.mv HR2.out (Mv.setCell (S := fun k => k = b) (Mv.refl _ w2) rfl _ _) (fun k hk e => ?_)
    rcases HK2.out k hk with h | h
    · exact HNE.out (by rw [h, e])
    · have := HM1.out.size
      have := HB0.out
      omega
  · intro k hk
    rcases HK2.out k hk with h | h
    · exact .inl h
    · exact .inr (by have := HM1.out.size; omega)
theorem Bl.write {B b : Nat} {v : Value} {l : List UInt8} {w : World} (h : Bl w B b v l) (s : ByteArray) (hlen : l.length + s.size ≤ 140737488355328) :
    Calls Tryz.prog 41 #[.pointer (some ⟨b, 0, none⟩), .string s] w fun e w' => e = .returned (.tuple #[.int .i64 s.size, .nilIface]) ∧ ∃ v', Bl w' B b v' (l ++ s.data.toList) ∧ (∀ k, v'.ownBlock = some k → v.ownBlock = some k ∨ w.heap.size ≤ k) ∧ Mv (fun k => k = b ∨ v.ownBlock = some k) w w' := by
  obtain ⟨p, hp, hb⟩ := h.blk
  refine (bld_WriteString B b 0 2 75 #[p, v] p v l s w hp hb rfl rfl rfl (by kernel_rfl) (by decide) h.row hlen (Nat.le_of_lt (Nat.lt_of_le_of_lt h.ge h.lt))).mono ?_
  rintro e w' ⟨rfl, v', hb', hr', ho', hm'⟩
  exact ⟨rfl, v', ⟨⟨_, .inr rfl, hb'⟩, hr', h.ge⟩, ho', hm'⟩

/-! ### strings_Builder_String: function 46 -/
set_option maxHeartbeats 1600000 in
set_option maxRecDepth 100000 in
theorem bld_String_some (B b o : Nat) (T : TypeId) (cs : Array Value) (v : Value) (l : List UInt8) (w : World)
    (hb : w.heap[b]? = some (.cells cs T (0, 0))) (h1 : cs[o + 1]? = some v) (hr : BRow w B 5 v l) (h0 : l ≠ []) :
    Calls Tryz.prog 46 #[.pointer (some ⟨b, o, none⟩)] w fun e w' => e = .returned (.string ⟨l.toArray⟩) ∧ Mv (fun k => v.ownBlock = some k) w w' := by
  have hl0 : l.length ≠ 0 := by simpa using h0
  obtain ⟨g, cap, cur, rfl, hbg, hg, hnc, hcm, hcs, htake⟩ : ∃ g cap cur, v = .slice (some ⟨g, 0, none⟩) l.length cap ∧ B ≤ g ∧ w.heap[g]? = some (.cells cur 5 (0, 0)) ∧ l.length ≤ cap ∧ cap ≤ maxLen ∧ cur.size = cap * 1 ∧ cur.toList.take (l.length * 1) = l.map fun b => Value.int .u8 b.toNat := by
    rcases hr.2 with ⟨_, hz⟩ | ⟨g, cap, cur, hv, r⟩
    · exact absurd hz hl0
    · exact ⟨g, cap, cur, hv, r⟩
  have c1 : w.drew.cell? ⟨b, o + 1, none⟩ = some (.slice (some ⟨g, 0, none⟩) l.length cap) := (blk_cell (w := w.drew) hb (o + 1)).trans h1
  have hSD : (Builtin.unsafeSliceData_ #[73] 123 #[.slice (some ⟨g, 0, none⟩) l.length cap]).run Tryz.prog w.drew = .ok (.pointer (some ⟨g, 0, none⟩)) w.drew :=
    Lib.run_unsafeSliceData_row _ _ _ _ _ _ (by omega)
  have hUS : (Builtin.unsafeString_ #[123, 3] 9 #[.pointer (some ⟨g, 0, none⟩), .int .i64 l.length]).run Tryz.prog w.drew = .ok (.string ⟨l.toArray⟩) (w.drew.freeze ⟨g, 0, none⟩ l.length) := by
    refine Lib.run_unsafeString_row w.drew 123 3 9 5 Tryz.underlying123 (by kernel_rfl) g cur.size (by have hg' : w.drew.heap[g]? = some (.cells cur 5 (0, 0)) := hg; simp [World.shape?, hg']) l h0 (by omega) (by unfold maxLen at hcm; omega) ?_
    intro j x hx
    have := World.ownsRow.cells hr (g := g) rfl j (.int .u8 x.toNat) (by simp [hx])
    exact this
  have HG := Aside0.mk hg
  clear hb h1 hr h0 hl0 hbg hg hnc hcm hcs htake
  have u1 := Tryz.underlying75
  have u2 := Tryz.underlying72
  go_enter Tryz.func46, Tryz.ntmps46
  go_wp2
  go_region
  all_goals (go_wp2; go_ret; exact ⟨rfl, Mv.freeze (Mv.drew (Mv.refl _ w)) (by show Value.ownBlock _ = some _; rfl) _⟩)

set_option maxHeartbeats 1600000 in
set_option maxRecDepth 100000 in
theorem bld_String_none (B b o : Nat) (T : TypeId) (cs : Array Value) (v : Value) (w : World)
    (hb : w.heap[b]? = some (.cells cs T (0, 0))) (h1 : cs[o + 1]? = some v) (hr : BRow w B 5 v []) :
    Calls Tryz.prog 46 #[.pointer (some ⟨b, o, none⟩)] w fun e w' => e = .returned (.string ⟨#[]⟩) ∧ Mv (fun k => v.ownBlock = some k) w w' := by
  have hUS : ∀ W : World, ∀ q : Option Addr, (Builtin.unsafeString_ #[123, 3] 9 #[.pointer q, .int .i64 0]).run Tryz.prog W = .ok (.string .empty) W := fun W q => Lib.run_unsafeString_none W _ _ _ q
  have u1 := Tryz.underlying75
  have u2 := Tryz.underlying72
  have hlt : b < w.heap.size := (Array.getElem?_eq_some_iff.1 hb).1
  rcases hr.2 with ⟨rfl, _⟩ | ⟨g, cap, cur, rfl, hbg, hg, _, _, _, _⟩
  · have c1 : w.drew.cell? ⟨b, o + 1, none⟩ = some (.slice none 0 0) := (blk_cell (w := w.drew) hb (o + 1)).trans h1
    have hSD : (Builtin.unsafeSliceData_ #[73] 123 #[.slice none 0 0]).run Tryz.prog w.drew = .ok (.pointer none) w.drew := rfl
    clear hb h1 hr hlt
    go_enter Tryz.func46, Tryz.ntmps46
    go_wp2
    go_region
    all_goals (go_wp2; go_ret; exact ⟨rfl, Mv.drew (Mv.refl _ w)⟩)
  · by_cases hc0 : cap = 0
    · subst hc0
      have hSD : (Builtin.unsafeSliceData_ #[73] 123 #[.slice (some ⟨g, 0, none⟩) 0 0]).run Tryz.prog w.drew = .ok (.pointer (some ⟨w.drew.heap.size, 0, none⟩)) (w.drew.alloc (.view ⟨g, 0, none⟩ 5)) :=
        Lib.run_unsafeSliceData_zero w.drew _ _ 5 Tryz.underlying123 ⟨g, 0, none⟩ 0 (5, cur.size) (by have hg' : w.drew.heap[g]? = some (.cells cur 5 (0, 0)) := hg; simp [World.shape?, hg'])
      have c0 : w.cell? ⟨b, o + 1, none⟩ = some (.slice (some ⟨g, 0, none⟩) 0 0) := (blk_cell hb (o + 1)).trans h1
      have c1 : w.drew.cell? ⟨b, o + 1, none⟩ = some (.slice (some ⟨g, 0, none⟩) 0 0) := c0
      have c2 : (w.drew.alloc (.view ⟨g, 0, none⟩ 5)).cell? ⟨b, o + 1, none⟩ = some (.slice (some ⟨g, 0, none⟩) 0 0) :=
        (blk_cell (w := w.drew.alloc (.view ⟨g, 0, none⟩ 5)) (blk_alloc (w := w.drew) hb _) (o + 1)).trans h1
      have c3 : (w.alloc (.view ⟨g, 0, none⟩ 5)).drew.cell? ⟨b, o + 1, none⟩ = some (.slice (some ⟨g, 0, none⟩) 0 0) := c2
      clear hb h1 hr hlt hg
      go_enter Tryz.func46, Tryz.ntmps46
      go_wp2
      go_region
      all_goals (go_wp2; go_ret; exact ⟨rfl, by first | exact Mv.alloc (Mv.drew (Mv.refl _ w)) _ | exact Mv.drew (Mv.alloc (Mv.refl _ w) _)⟩)
    · have c1 : w.drew.cell? ⟨b, o + 1, none⟩ = some (.slice (some ⟨g, 0, none⟩) 0 cap) := (blk_cell (w := w.drew) hb (o + 1)).trans h1
      have hSD : (Builtin.unsafeSliceData_ #[73] 123 #[.slice (some ⟨g, 0, none⟩) 0 cap]).run Tryz.prog w.drew = .ok (.pointer (some ⟨g, 0, none⟩)) w.drew :=
        Lib.run_unsafeSliceData_row _ _ _ _ _ _ hc0
      clear hb h1 hr hlt hg hc0
      go_enter Tryz.func46, Tryz.ntmps46
      go_wp2
      go_region
      all_goals (go_wp2; go_ret; exact ⟨rfl, Mv.drew (Mv.refl _ w)⟩)
theorem bld_String (B b o : Nat) (T : TypeId) (cs : Array Value) (v : Value) (l : List UInt8) (w : World)
    (hb : w.heap[b]? = some (.cells cs T (0, 0))) (h1 : cs[o + 1]? = some v) (hr : BRow w B 5 v l) :
    Calls Tryz.prog 46 #[.pointer (some ⟨b, o, none⟩)] w fun e w' => e = .returned (.string ⟨l.toArray⟩) ∧ Mv (fun k => v.ownBlock = some k) w w' := by
  by_cases h0 : l = []
  · subst h0
    exact bld_String_none B b o T cs v w hb h1 hr
  · exact bld_String_some B b o T cs v l w hb h1 hr h0
theorem Bl.string {B b : Nat} {v : Value} {l : List UInt8} {w : World} (h : Bl w B b v l) :
    Calls Tryz.prog 46 #[.pointer (some ⟨b, 0, none⟩)] w fun e w' => e = .returned (.string ⟨l.toArray⟩) ∧ Mv (fun k => v.ownBlock = some k) w w' := by
  obtain ⟨p, hp, hb⟩ := h.blk
  exact bld_String B b 0 75 #[p, v] v l w hb rfl h.row

/-! ### octet_Wide: function 103 -/
def octet_Wide.f (a0 a1 : Int) : Option (ByteArray × Int) :=
  if 1 ≤ a1 ∧ a1 ≤ 8 ∧ 0 ≤ a0 then (if a1 < 8 ∧ 0 < a0 / 2 ^ (8 * a1.toNat) then some (⟨#[]⟩, 1) else some (strOfNums ((bytes8 a0).drop (8 - a1.toNat)), 0)) else some (⟨#[]⟩, 1)
set_option maxHeartbeats 1600000 in
set_option maxRecDepth 100000 in
theorem octet_Wide.calls (a0 a1 : Int) (r1 : ByteArray) (r2 : Int) (w : World) (h : octet_Wide.f a0 a1 = some (r1, r2)) :
    Calls Tryz.prog 103 #[.int .i64 a0, .int .i64 a1] w fun e w' => e = .returned (.tuple #[.string r1, .int .i64 r2]) ∧ Below w.heap.size w w' := by
  unfold octet_Wide.f at h
  by_cases hs : 1 ≤ a1 ∧ a1 ≤ 8 ∧ 0 ≤ a0
  · rw [if_pos hs] at h
    obtain ⟨hs1, hs2, hs3⟩ := hs
    obtain ⟨W, rfl⟩ := Int.eq_ofNat_of_zero_le (show 0 ≤ a1 by omega)
    rw [Int.toNat_natCast] at h
    obtain ⟨D, hD⟩ : ∃ D : Nat, D = 8 - W := ⟨_, rfl⟩
    rw [← hD] at h
    have H := Aside0.mk h
    have HD := Aside0.mk hD
    clear h hD
    have e1 : decide ((W : Int) < 1) = false := decide_eq_false (by omega)
    have e2 : decide (8 < (W : Int)) = false := decide_eq_false (by omega)
    have e3 : decide (a0 < 0) = false := decide_eq_false (by omega)
    go_enter Tryz.func103, Tryz.ntmps103
    go_wp2_with fail
    have hblk : (w.alloc (.cells #[.int .u8 0, .int .u8 0, .int .u8 0, .int .u8 0, .int .u8 0, .int .u8 0, .int .u8 0, .int .u8 0] 121)).heap[w.heap.size]? = some (.cells (rowIf 8 (fun i => a0 / 2 ^ (8 * (7 - i)) % 256) (fun i => decide (8 ≤ i))) 121 (0, 0)) := by
      rw [heap_alloc_new w _]
      rfl
    have HK := Aside0.mk hblk
    have HB := Aside0.mk (below_alloc (Below.refl w.heap.size w) (.cells #[.int .u8 0, .int .u8 0, .int .u8 0, .int .u8 0, .int .u8 0, .int .u8 0, .int .u8 0, .int .u8 0] 121))
    clear hblk
    obtain ⟨w1, hw1⟩ : ∃ w1, w1 = w.alloc (.cells #[.int .u8 0, .int .u8 0, .int .u8 0, .int .u8 0, .int .u8 0, .int .u8 0, .int .u8 0, .int .u8 0] 121) := ⟨_, rfl⟩
    rw [← hw1] at HB HK ⊢
    clear hw1
    obtain ⟨g, hg⟩ : ∃ g, g = w.heap.size := ⟨_, rfl⟩
    have GE := Aside0.mk (Nat.le_of_eq hg.symm)
    rw [← hg] at HK ⊢
    clear hg
    go_loopw [7, 8] (fun u v W => ∃ m : Nat, m ≤ 8 ∧ v = .int .i64 ((m : Int) - 1) ∧ u = .int .i64 (a0 / 2 ^ (8 * (8 - m))) ∧ Aside0 (W.heap[g]? = some (.cells (rowIf 8 (fun i => a0 / 2 ^ (8 * (7 - i)) % 256) (fun i => decide (m ≤ i))) 121 (0, 0))) ∧ Aside0 (Below w.heap.size w W)) (fun _ v _ => (intOf v + 1).toNat)
    case atStart => exact ⟨8, Nat.le_refl _, rfl, by simp, HK, HB⟩
    case round =>
      obtain ⟨m, hm, rfl, rfl, HK, HB⟩ := hrel
      by_cases hlt : 0 < m
      · obtain ⟨j, rfl⟩ : ∃ j, m = j + 1 := ⟨m - 1, by omega⟩
        rw [show (((j + 1 : Nat) : Int) - 1) = (j : Int) from by omega]
        have hc := (blk_cell HK.out j).trans (rowIf_get _ _ _ _ (show j < 8 by omega))
        have hf := blk_frozen HK.out j
        go_wp2
        go_roundw
        case rel =>
          refine ⟨j, by omega, rfl, ?_, ⟨blk_put HK.out j _ (rowIf_set 8 (fun i => a0 / 2 ^ (8 * (7 - i)) % 256) _ _ j (fun i hi => by rw [Bool.eq_iff_iff]; simp; omega))⟩, ⟨below_set HB.out GE.out⟩⟩
          rw [div256, show 7 - j + 1 = 8 - j from by omega]
        case measure => simp [intOf]
      · obtain rfl : m = 0 := by omega
        have h := H.out
        by_cases hq : (W : Int) < 8 ∧ 0 < a0 / 2 ^ (8 * W)
        · rw [if_pos hq] at h
          simp only [Option.some.injEq, Prod.mk.injEq] at h
          obtain ⟨rfl, rfl⟩ := h
          have f1 : decide ((W : Int) < 8) = true := decide_eq_true hq.1
          have f2 : decide (0 < a0 / 2 ^ (8 * W)) = true := decide_eq_true hq.2
          clear hq
          go_wp2
          go_ret2
          exact ⟨rfl, HB.out⟩
        · rw [if_neg hq] at h
          simp only [Option.some.injEq, Prod.mk.injEq] at h
          obtain ⟨rfl, rfl⟩ := h
          have f3 : (8 : Int) - (W : Int) = (D : Int) := by have := HD.out; omega
          have f4 : D ≤ 7 := by have := HD.out; omega
          have f5 := eq_true (show D ≤ 8 by omega)
          have f6 := eq_true (show (D : Int) ≤ 8 by omega)
          have f7 := eq_false (show ¬ (8 = D) by omega)
          have hcv : ∀ c, (convert 73 9 (.slice (some ⟨g, D, none⟩) (8 - D) c)).run Tryz.prog wr = .ok (.string (strOfNums ((bytes8 a0).drop D))) wr := fun c => by
            refine run_convert_bytes_arg wr 73 5 Tryz.underlying73 Tryz.underlying5 g D (8 - D) c _ (by simp [bytes8]) (fun i hi => ?_) 9 Tryz.underlying9
            rw [(blk_cell HK.out (D + i)).trans (rowIf_get _ _ _ _ (show D + i < 8 by omega))]
            simp [bytes8, show D + i < 8 by omega]
          by_cases hw : (W : Int) < 8
          · have f1 : decide ((W : Int) < 8) = true := decide_eq_true hw
            have f2 : decide (0 < a0 / 2 ^ (8 * W)) = false := decide_eq_false (fun hh => hq ⟨hw, hh⟩)
            clear hq hw
            go_wp2
            go_ret2
            exact ⟨rfl, HB.out⟩
          · have f1 : decide ((W : Int) < 8) = false := decide_eq_false hw
            clear hq hw
            go_wp2
            go_ret2
            exact ⟨rfl, HB.out⟩
  · rw [if_neg hs] at h
    simp only [Option.some.injEq, Prod.mk.injEq] at h
    obtain ⟨rfl, rfl⟩ := h
    by_cases h1 : a1 < 1
    · have e1 : decide (a1 < 1) = true := decide_eq_true h1
      clear hs h1
      go_enter Tryz.func103, Tryz.ntmps103
      go_wp2
      go_ret2
      exact ⟨rfl, Below.refl _ _⟩
    · have e1 : decide (a1 < 1) = false := decide_eq_false h1
      by_cases h2 : 8 < a1
      · have e2 : decide (8 < a1) = true := decide_eq_true h2
        clear hs h1 h2
        go_enter Tryz.func103, Tryz.ntmps103
        go_wp2
        go_ret2
        exact ⟨rfl, Below.refl _ _⟩
      · have e2 : decide (8 < a1) = false := decide_eq_false h2
        have e3 : decide (a0 < 0) = true := decide_eq_true (by omega)
        clear hs h1 h2
        go_enter Tryz.func103, Tryz.ntmps103
        go_wp2
        go_ret2
        exact ⟨rfl, Below.refl _ _⟩

/-! ### ber_put: function 66 -/
def ber_put.l0 : Nat → ByteArray → Int → List Int → Int → Option (ByteArray)
  | 0, _, _, _, _ => none
  | k + 1, x1, x5, x6, x7 => if 0 ≤ (wrap64 (8 * x7)) then (if (shr .i64 x5 (wrap64 (8 * x7))) > 0 then (ber_put.l0 k x1 x5 x6 (wrap64 (x7 + 1))) else ((octet_Wide.f x5 x7).bind fun bt127 => (if 1 < (x6.length : Int) then ((some (x6.set (1 : Int).toNat ((wrap64 (128 + x7)) % 256) : List Int)).bind fun y129 => (if y129.length + bt127.1.size < 140737488355328 then ((some (y129 ++ bytesOf bt127.1 : List Int)).bind fun y130 => (if (strOfNums y130).size + x1.size ≤ 9223372036854775807 then (some ((strOfNums y130) ++ x1)) else (none))) else (none))) else (none)))) else (none)
def ber_put.f (k : Nat) (a0 : Int) (a1 : ByteArray) : Option (ByteArray) := (some (([(a0) % 256, ((a1.size : Int)) % 256] : List Int) : List Int)).bind fun y124 => (if (a1.size : Int) ≥ 128 then (ber_put.l0 k a1 (a1.size : Int) y124 1) else (if (strOfNums y124).size + a1.size ≤ 9223372036854775807 then (some ((strOfNums y124) ++ a1)) else (none)))
theorem ber_put.mono_l : ∀ k, (∀ y0 y1 y2 y3, LeO (ber_put.l0 k y0 y1 y2 y3) (ber_put.l0 (k + 1) y0 y1 y2 y3))
  | 0 => fun _ _ _ _ r h => by simp [ber_put.l0] at h
  | k + 1 => by
    have ih0 := ber_put.mono_l k
    · intro y0 y1 y2 y3
      unfold ber_put.l0
      repeat' first
      | (with_reducible exact ih0 _ _ _ _)
      | (with_reducible exact LeO.refl _)
      | (with_reducible exact LeO.none _)
      | (with_reducible refine LeO.ite ?_ ?_)
      | (with_reducible refine LeO.bind ?_ (fun _ => ?_))
      | exact ih0 _ _ _ _
      | exact LeO.none _
      | refine LeO.ite ?_ ?_
      | refine LeO.bind ?_ (fun _ => ?_)
theorem ber_put.mono : ∀ a0 a1 k, LeO (ber_put.f k a0 a1) (ber_put.f (k + 1) a0 a1) := by
  intro a0 a1 k
  have ih0 := ber_put.mono_l k
  unfold ber_put.f
  repeat' first
      | (with_reducible exact ih0 _ _ _ _)
      | (with_reducible exact LeO.refl _)
      | (with_reducible exact LeO.none _)
      | (with_reducible refine LeO.ite ?_ ?_)
      | (with_reducible refine LeO.bind ?_ (fun _ => ?_))
      | exact ih0 _ _ _ _
      | exact LeO.none _
      | refine LeO.ite ?_ ?_
      | refine LeO.bind ?_ (fun _ => ?_)
set_option maxHeartbeats 8000000 in
set_option maxRecDepth 100000 in
theorem ber_put.calls (k : Nat) (a0 : Int) (a1 : ByteArray) (r : ByteArray) (w : World) (h : ber_put.f k a0 a1 = some r) :
    Calls Tryz.prog 66 #[.int .i64 a0, .string a1] w fun e w' => e = .returned (.string r) ∧ Below w.heap.size w w' := by
  have HB := Aside0.mk (Below.refl w.heap.size w)
  have H : ((some (([(a0) % 256, ((a1.size : Int)) % 256] : List Int) : List Int)).bind fun y124 => (if (a1.size : Int) ≥ 128 then (ber_put.l0 k a1 (a1.size : Int) y124 1) else (if (strOfNums y124).size + a1.size ≤ 9223372036854775807 then (some ((strOfNums y124) ++ a1)) else (none)))) = some r := h
  clear h
  obtain ⟨y124, hy124⟩ : ∃ y_ : List Int, y_ = (([(a0) % 256, ((a1.size : Int)) % 256] : List Int)) := ⟨_, rfl⟩
  replace H : (if (a1.size : Int) ≥ 128 then (ber_put.l0 k a1 (a1.size : Int) y124 1) else (if (strOfNums y124).size + a1.size ≤ 9223372036854775807 then (some ((strOfNums y124) ++ a1)) else (none))) = some r := by first | (rw [hy124]; with_reducible exact H) | (have H2_ := (Option.bind_some _ _).symm.trans H; rw [hy124]; with_reducible exact H2_) | (have H2_ := (Option.bind_some _ _).symm.trans H; with_reducible exact H2_) | with_reducible exact H | (rw [hy124]; exact H) | exact H
  have Ny124 := Aside0.mk hy124
  clear hy124
  by_cases c3 : (a1.size : Int) ≥ 128
  rotate_left
  · rw [if_neg c3] at H
    have c3b0 : decide (128 ≤ (a1.size : Int)) = false := decide_eq_false c3
    have c3b1 : decide (128 ≤ a1.size) = false := decide_eq_false (by omega)
    clear c3
    by_cases c20 : (strOfNums y124).size + a1.size ≤ 9223372036854775807
    rotate_left
    · rw [if_neg c20] at H
      exact absurd H (by simp)
    rw [if_pos c20] at H
    have c20b0 := eq_true c20
    have c20b1 : decide ((strOfNums y124).size + a1.size ≤ 9223372036854775807) = true := decide_eq_true c20
    try have c20b2 : (9223372036854775807 < (strOfNums y124).size + a1.size) = False := eq_false (Nat.not_lt.2 c20)
    obtain rfl := Option.some.inj H
    go_enter Tryz.func66, Tryz.ntmps66
    go_wp2_with (first | ((with_reducible refine gate_dst (N := 16) rfl ?_); refine Kd.R_lit (Kd.int .u8) _ 5 ?hg (N := 16) ?hd (xs := ([(a0) % 256, ((a1.size : Int)) % 256] : List Int)) (inner := [.int .u8 ((a0) % 256), .int .u8 (((a1.size : Int)) % 256)]) (ok := fun _ => True) (okp := fun _ => True) ?hr ?hp (fun _ hk => hk) trivial (Below.refl _ _) (Nat.le_refl _) (by simp) ?_; (case hd => rfl); (case hg => rfl); (case hr => first | (go_simp; done) | (go_simp; rfl)); (case hp => exact (Reps.one (show Kd.M (Kd.int .u8) _ _ _ ((a0) % 256) [.int .u8 ((a0) % 256)] from rfl) (Reps.one (show Kd.M (Kd.int .u8) _ _ _ (((a1.size : Int)) % 256) [.int .u8 (((a1.size : Int)) % 256)] from rfl) (Reps.none _ _)))); intro v125 w21 ho22 hb hg_ hnew_; clear hg_ hnew_; (first | rw [← Ny124.out] at ho22 | (simp only [Int.reduceToNat] at ho22; rw [← Ny124.out] at ho22)); have n0_ := Aside0.mk (Kd.R_lower ho22 (below_size (by repeat (first | (with_reducible first | exact HB.out | apply below_alloc | apply pw_below_drewN | apply below_drew1) | exact HB.out)))); have n1_ := Aside0.mk (below_step (by repeat (first | (with_reducible first | exact HB.out | apply below_alloc | apply pw_below_drewN | apply below_drew1) | exact HB.out)) hb); clear HB; have HO126 := n0_; have HB := n1_; clear n0_ n1_; clear hb ho22; have hcv23 := own_string (P := Tryz.prog) Tryz.underlying73 Tryz.underlying5 Tryz.underlying9 (Kd.own_of_R HO126.out)))
    go_ret
    exact ⟨by first | rfl | (simp only [i64_w, i32_w]; rfl) | (simp [errW_none, errW_some] <;> rfl) | (simp [*, errW_none, errW_some] <;> rfl), by repeat (first | (with_reducible first | exact HB.out | apply below_alloc | apply pw_below_drewN | apply below_drew1) | exact HB.out)⟩
  rw [if_pos c3] at H
  have c3b0 : decide (128 ≤ (a1.size : Int)) = true := decide_eq_true c3
  have c3b1 : decide (128 ≤ a1.size) = true := decide_eq_true (by omega)
  clear c3
  have H' := Aside0.mk H
  clear H
  go_enter Tryz.func66, Tryz.ntmps66
  go_wp2_with (first | ((with_reducible refine gate_dst (N := 16) rfl ?_); refine Kd.R_lit (Kd.int .u8) _ 5 ?hg (N := 16) ?hd (xs := ([(a0) % 256, ((a1.size : Int)) % 256] : List Int)) (inner := [.int .u8 ((a0) % 256), .int .u8 (((a1.size : Int)) % 256)]) (ok := fun _ => True) (okp := fun _ => True) ?hr ?hp (fun _ hk => hk) trivial (Below.refl _ _) (Nat.le_refl _) (by simp) ?_; (case hd => rfl); (case hg => rfl); (case hr => first | (go_simp; done) | (go_simp; rfl)); (case hp => exact (Reps.one (show Kd.M (Kd.int .u8) _ _ _ ((a0) % 256) [.int .u8 ((a0) % 256)] from rfl) (Reps.one (show Kd.M (Kd.int .u8) _ _ _ (((a1.size : Int)) % 256) [.int .u8 (((a1.size : Int)) % 256)] from rfl) (Reps.none _ _)))); intro v125 w4 ho5 hb hg_ hnew_; clear hg_ hnew_; (first | rw [← Ny124.out] at ho5 | (simp only [Int.reduceToNat] at ho5; rw [← Ny124.out] at ho5)); have n0_ := Aside0.mk (Kd.R_lower ho5 (below_size (by repeat (first | (with_reducible first | exact HB.out | apply below_alloc | apply pw_below_drewN | apply below_drew1) | exact HB.out)))); have n1_ := Aside0.mk (below_step (by repeat (first | (with_reducible first | exact HB.out | apply below_alloc | apply pw_below_drewN | apply below_drew1) | exact HB.out)) hb); clear HB; have HO126 := n0_; have HB := n1_; clear n0_ n1_; clear hb ho5))
  go_loopg [7] k (fun kq v7 w' => ∃ (x7_1 : Int), v7 = .int .i64 x7_1 ∧ Aside0 (ber_put.l0 kq a1 (a1.size : Int) y124 x7_1 = some r) ∧ Aside0 (kq ≤ k) ∧ Aside0 (Kd.R (Kd.int .u8) 5 w' w.heap.size (fun _ => True) v125 y124) ∧ Aside0 (Below w.heap.size w w'))
  case atStart => exact ⟨(1), (by first | rfl | (simp; done) | (simp [*]; done) | (simp [*]; exact isEmpty_bne _) | (simp; exact isEmpty_bne _)), H', ⟨Nat.le_refl _⟩, ⟨by (with_reducible repeat (first | apply Kd.R_alloc | apply Kd.R_drewN | apply Kd.R_drew)); exact HO126.out⟩, ⟨by repeat (first | (with_reducible first | exact HB.out | apply below_alloc | apply pw_below_drewN | apply below_drew1) | exact HB.out)⟩⟩
  case round =>
    clear H'
    try clear p2
    try clear c3
    try clear c3b0
    try clear c3b1
    obtain ⟨x7_1, rfl, HA, HK1, HO_6, HB⟩ := hrel
    cases gk with
    | zero => exact absurd HA.out (by simp [ber_put.l0])
    | succ k1 =>
      have H := HA.out
      clear HA
      simp only [ber_put.l0] at H
      obtain ⟨ji6, hji6⟩ : ∃ j_ : Int, (wrap64 (8 * x7_1)) = j_ := ⟨_, rfl⟩
      replace H : (if 0 ≤ (ji6) then (if (shr .i64 (a1.size : Int) (ji6)) > 0 then (ber_put.l0 k1 a1 (a1.size : Int) y124 (wrap64 (x7_1 + 1))) else ((octet_Wide.f (a1.size : Int) x7_1).bind fun bt127 => (if 1 < (y124.length : Int) then ((some (y124.set (1 : Int).toNat ((wrap64 (128 + x7_1)) % 256) : List Int)).bind fun y129 => (if y129.length + bt127.1.size < 140737488355328 then ((some (y129 ++ bytesOf bt127.1 : List Int)).bind fun y130 => (if (strOfNums y130).size + a1.size ≤ 9223372036854775807 then (some ((strOfNums y130) ++ a1)) else (none))) else (none))) else (none)))) else (none)) = some r := by first | (rw [hji6] at H; exact H) | (simp only [hji6] at H ⊢; exact H)
      have hji6w : (IntKind.i64.wrap (8 * x7_1)) = ji6 := (i64_w _).trans hji6
      by_cases c7 : 0 ≤ (ji6)
      · rw [if_pos c7] at H
        have c7b0 := eq_true c7
        have c7b1 : decide (0 ≤ (ji6)) = true := decide_eq_true c7
        clear c7
        obtain ⟨ji8, hji8⟩ : ∃ j_ : Int, (shr .i64 (a1.size : Int) (ji6)) = j_ := ⟨_, rfl⟩
        replace H : (if (ji8) > 0 then (ber_put.l0 k1 a1 (a1.size : Int) y124 (wrap64 (x7_1 + 1))) else ((octet_Wide.f (a1.size : Int) x7_1).bind fun bt127 => (if 1 < (y124.length : Int) then ((some (y124.set (1 : Int).toNat ((wrap64 (128 + x7_1)) % 256) : List Int)).bind fun y129 => (if y129.length + bt127.1.size < 140737488355328 then ((some (y129 ++ bytesOf bt127.1 : List Int)).bind fun y130 => (if (strOfNums y130).size + a1.size ≤ 9223372036854775807 then (some ((strOfNums y130) ++ a1)) else (none))) else (none))) else (none)))) = some r := by first | (rw [hji8] at H; exact H) | (simp only [hji8] at H ⊢; exact H)
        have hji8_ : ((a1.size : Int) / 2 ^ min (ji6).toNat 64) = ji8 := hji8
        have hji8z : (ji6) ≤ 64 → ((a1.size : Int) / 2 ^ (ji6).toNat) = ji8 := shr_small hji8
        by_cases c9 : (ji8) > 0
        · rw [if_pos c9] at H
          have c9b0 : decide (0 < (ji8)) = true := decide_eq_true c9
          clear c9
          have H' := Aside0.mk H
          clear H
          go_wp2
          go_roundg k1
          case measure => have := HK1.out; omega
          case rel => exact ⟨(wrap64 (x7_1 + 1)), (by first | rfl | (simp; done) | (simp [*]; done) | (simp [*]; exact isEmpty_bne _) | (simp; exact isEmpty_bne _)), H', ⟨by have := HK1.out; omega⟩, ⟨by (with_reducible repeat (first | apply Kd.R_alloc | apply Kd.R_drewN | apply Kd.R_drew)); exact HO_6.out⟩, ⟨by repeat (first | (with_reducible first | exact HB.out | apply below_alloc | apply pw_below_drewN | apply below_drew1) | exact HB.out)⟩⟩
        · rw [if_neg c9] at H
          have c9b0 : decide (0 < (ji8)) = false := decide_eq_false c9
          clear c9
          replace H := Option.bind_eq_some_iff.mp H
          obtain ⟨⟨t127, t128⟩, A100, H⟩ := H
          replace H : (if 1 < (y124.length : Int) then ((some (y124.set (1 : Int).toNat ((wrap64 (128 + x7_1)) % 256) : List Int)).bind fun y129 => (if y129.length + t127.size < 140737488355328 then ((some (y129 ++ bytesOf t127 : List Int)).bind fun y130 => (if (strOfNums y130).size + a1.size ≤ 9223372036854775807 then (some ((strOfNums y130) ++ a1)) else (none))) else (none))) else (none)) = some r := H
          have A10 := Aside0.mk A100
          clear A100
          by_cases c11 : 1 < (y124.length : Int)
          · rw [if_pos c11] at H
            have c11b0 : decide (1 < (y124.length : Int)) = true := decide_eq_true c11
            have c11b1 : decide (1 < y124.length) = true := decide_eq_true (by omega)
            clear c11
            obtain ⟨y129, hy129⟩ : ∃ y_ : List Int, y_ = (y124.set (1 : Int).toNat ((wrap64 (128 + x7_1)) % 256)) := ⟨_, rfl⟩
            replace H : (if y129.length + t127.size < 140737488355328 then ((some (y129 ++ bytesOf t127 : List Int)).bind fun y130 => (if (strOfNums y130).size + a1.size ≤ 9223372036854775807 then (some ((strOfNums y130) ++ a1)) else (none))) else (none)) = some r := by first | (rw [hy129]; with_reducible exact H) | (have H2_ := (Option.bind_some _ _).symm.trans H; rw [hy129]; with_reducible exact H2_) | (have H2_ := (Option.bind_some _ _).symm.trans H; with_reducible exact H2_) | with_reducible exact H | (rw [hy129]; exact H) | exact H
            have Ny129 := Aside0.mk hy129
            clear hy129
            by_cases c13 : y129.length + t127.size < 140737488355328
            · rw [if_pos c13] at H
              have LMc13 := Aside0.mk c13
              clear c13
              obtain ⟨y130, hy130⟩ : ∃ y_ : List Int, y_ = (y129 ++ bytesOf t127) := ⟨_, rfl⟩
              replace H : (if (strOfNums y130).size + a1.size ≤ 9223372036854775807 then (some ((strOfNums y130) ++ a1)) else (none)) = some r := by first | (rw [hy130]; with_reducible exact H) | (have H2_ := (Option.bind_some _ _).symm.trans H; rw [hy130]; with_reducible exact H2_) | (have H2_ := (Option.bind_some _ _).symm.trans H; with_reducible exact H2_) | with_reducible exact H | (rw [hy130]; exact H) | exact H
              have Ny130 := Aside0.mk hy130
              clear hy130
              by_cases c14 : (strOfNums y130).size + a1.size ≤ 9223372036854775807
              · rw [if_pos c14] at H
                have c14b0 := eq_true c14
                have c14b1 : decide ((strOfNums y130).size + a1.size ≤ 9223372036854775807) = true := decide_eq_true c14
                try have c14b2 : (9223372036854775807 < (strOfNums y130).size + a1.size) = False := eq_false (Nat.not_lt.2 c14)
                obtain rfl := Option.some.inj H
                go_wp2_with (first | ((with_reducible refine gate_callee (f := 103) rfl ?_); refine goesL_ (some 29) rfl rfl Tryz.func103 (by kernel_rfl) rfl #[.int .i64 (a1.size : Int), .int .i64 x7_1] rfl (by (try simp only [List.map_toArray, List.map_cons, List.map_nil]); first | done | rfl | (simp only [List.length_drop, List.length_take]; rfl)) ?_; (with_reducible refine (octet_Wide.calls (a1.size : Int) x7_1 t127 t128 _ A10.out).mono ?_); rintro e w15 ⟨rfl, hb⟩; refine ⟨_, rfl, ?_⟩; have n0_ := Aside0.mk (Kd.R_below (by (with_reducible repeat (first | apply Kd.R_alloc | apply Kd.R_drewN | apply Kd.R_drew)); exact HO_6.out) hb); have n1_ := Aside0.mk (below_step (by repeat (first | (with_reducible first | exact HB.out | apply below_alloc | apply pw_below_drewN | apply below_drew1) | exact HB.out)) hb); clear HO_6; clear HB; have HO_6 := n0_; have HB := n1_; clear n0_ n1_; (try clear hb); (try clear hb2); (try clear hk); (try clear hi); have p12 : 0 ≤ (1 : Int) := (by omega); have q12 : (1 : Int) < ((y124.length : Int) : Int) := of_decide_eq_true (by first | (with_reducible assumption) | assumption); have qi12 : (1 < y124.length) = True := eq_true (by omega); obtain ⟨go12, co12, eo12, gb12, gl12, cl12, HG12⟩ := Kd.R_form HO_6.out (by omega); (first | cases eo12 | (injection eo12 with ea_ en_ ec_; (first | subst ea_ | (injection ea_ with ea_; subst ea_)); subst ec_; clear en_)); have GB12 := Aside0.mk gb12; have GG12 := Aside0.mk HG12; clear gb12 gl12 HG12; obtain ⟨hx12_0, hf12_0⟩ := Kd.R_celln 0 HO_6.out (1 : Int) p12 q12; (try rw [show ((1 : Int)).toNat = 1 from rfl] at hx12_0); (try simp only [Nat.reduceMul, Nat.zero_mul, Nat.zero_add, Nat.reduceAdd] at hx12_0); (try rw [show ((1 : Int)).toNat = 1 from rfl] at hf12_0); (try simp only [Nat.reduceMul, Nat.zero_mul, Nat.zero_add, Nat.reduceAdd] at hf12_0); replace p12 := eq_true p12; replace q12 := eq_true q12; obtain ⟨hy16_, hz16_⟩ := Kd.R_celln 0 HO_6.out (1 : Int) (by omega) (of_decide_eq_true (by first | (with_reducible assumption) | assumption)); (try simp only [Int.reduceToNat, Int.toNat_zero, Int.toNat_ofNat, Nat.reduceMul, Nat.zero_mul, Nat.zero_add] at hy16_ hz16_); (try rw [show ((1 : Int)).toNat = 1 from rfl] at hy16_); (try rw [show ((1 : Int)).toNat = 1 from rfl] at hz16_); have HP16 := Kd.R_putg HO_6.out (1 : Int) ((wrap64 (128 + x7_1)) % 256)) | ((with_reducible refine gate_store (t := 5) (p := 36) rfl ?_); refine store_event (t := 5) (p := 36) (v := ?vo_w17) (w1 := (w15.setCell ⟨go12, (1 : Int).toNat, none⟩ (.int .u8 ((wrap64 (128 + x7_1)) % 256)))) ?hg ?ho ?hn ?hr ?_; (case ho => rfl); (case hg => rfl); (case hn => rfl); (case hr => first | (go_simp; done) | (go_simp; rfl)); intro w17 hw; have hg : w15.grownBy w17 (some go12) := (by rw [hw]; exact HP16.2); have hp_ : Kd.R (Kd.int .u8) 5 w17 w.heap.size (fun _ => True) (.slice (some ⟨go12, 0, none⟩) y124.length co12) y129 := (by rw [hw, Ny129.out]; exact HP16.1); clear HP16; have n0_ := Aside0.mk (hp_); have n1_ := Aside0.mk ((by rw [hw]; exact below_set (HB.out) GB12.out : Below w.heap.size w w17)); clear HO_6; clear HB; have HO_6 := n0_; have HB := n1_; clear n0_ n1_; clear hg hw hp_) | (at_builtin; refine print_append_str (w0 := w) w.heap.size rfl (.tmp 37) _ 73 9 5 rfl Tryz.underlying73 Tryz.underlying9 info5 (.slice (some ⟨go12, 0, none⟩) y124.length co12) y129 t127 rfl rfl ?aO ?aB ?aS ?aL ?_; (case aB => exact (by repeat (first | (with_reducible first | exact HB.out | apply below_alloc | apply pw_below_drewN | apply below_drew1) | exact HB.out))); (case aO => exact (Kd.own_of_R (by (with_reducible repeat (first | apply Kd.R_alloc | apply Kd.R_drewN | apply Kd.R_drew)); exact HO_6.out))); (case aS => exact (below_size (by repeat (first | (with_reducible first | exact HB.out | apply below_alloc | apply pw_below_drewN | apply below_drew1) | exact HB.out)))); (case aL => have := LMc13.out; omega); intro v131 w18 ho0 hb hg; have ho := Kd.R_of_own (h1 := fun _ => rfl) (ok := fun _ => True) ho0 (fun _ _ => trivial); clear ho0; have hat := True.intro; rw [← Ny130.out] at ho; change Kd.R (Kd.int .u8) 5 w18 w.heap.size (fun _ => True) v131 y130 at ho; have n0_ := Aside0.mk (hb); have n1_ := Aside0.mk (ho); clear HB; clear HO_6; have HB := n0_; have HO132 := n1_; clear n0_ n1_; clear ho hb hg hat; have hcv19 := own_string (P := Tryz.prog) Tryz.underlying73 Tryz.underlying5 Tryz.underlying9 (Kd.own_of_R HO132.out)))
                go_ret
                exact ⟨by first | rfl | (simp only [i64_w, i32_w]; rfl) | (simp [errW_none, errW_some] <;> rfl) | (simp only [← hji6, ← hji8]; first | rfl | (simp [errW_none, errW_some] <;> rfl)) | (simp [*, errW_none, errW_some] <;> rfl), by repeat (first | (with_reducible first | exact HB.out | apply below_alloc | apply pw_below_drewN | apply below_drew1) | exact HB.out)⟩
              · rw [if_neg c14] at H
                exact absurd H (by simp)
            · rw [if_neg c13] at H
              exact absurd H (by simp)
          · rw [if_neg c11] at H
            exact absurd H (by simp)
      · rw [if_neg c7] at H
        exact absurd H (by simp)

/-! ### ber_Part_made: function 102 -/
def ber_Part_made.f (a0_0 : Int) (a0_1 : ByteArray) : Option (Bool) := some ((Go.bits .and .i64 a0_0 32) != 0)
set_option maxHeartbeats 8000000 in
set_option maxRecDepth 100000 in
theorem ber_Part_made.calls (a0_0 : Int) (a0_1 : ByteArray) (r : Bool) (w : World) (h : ber_Part_made.f a0_0 a0_1 = some r) :
    Calls Tryz.prog 102 #[.agg #[.int .i64 a0_0, .string a0_1]] w fun e w' => e = .returned (.bool r) ∧ Below w.heap.size w w' := by
  have hu50 := Tryz.underlying50
  have HB := Aside0.mk (Below.refl w.heap.size w)
  have H : (some ((Go.bits .and .i64 a0_0 32) != 0)) = some r := h
  clear h
  obtain rfl := Option.some.inj H
  go_enter Tryz.func102, Tryz.ntmps102
  go_wp2_with (first | ((with_reducible refine gate_dst (N := 1) rfl ?_); refine box_event ?hg (N := 1) ?hd (cs := #[.int .i64 a0_0, .string a0_1]) (t := 50) ?hr ?_; (case hd => rfl); (case hg => rfl); (case hr => first | (go_simp; done) | (go_simp; rfl)); intro gb133 hg w2 hbox hb; have n0_ := Aside0.mk (below_step (by repeat (first | (with_reducible first | exact HB.out | apply below_alloc | apply pw_below_drewN | apply below_drew1) | exact HB.out)) hb); have n1_ := Aside0.mk (hbox); have n2_ := Aside0.mk ((by rw [hg]; exact (below_size (by repeat (first | (with_reducible first | exact HB.out | apply below_alloc | apply pw_below_drewN | apply below_drew1) | exact HB.out))) : w.heap.size ≤ gb133)); have n3_ := Aside0.mk ((by rw [hg]; exact (below_size (by repeat (first | (with_reducible first | exact HB.out | apply below_alloc | apply pw_below_drewN | apply below_drew1) | exact HB.out))) : w.heap.size ≤ gb133)); clear HB; have HB := n0_; have BK133 := n1_; have GW133 := n2_; have GE133 := n3_; clear n0_ n1_ n2_ n3_; clear hb hbox hg; have hcz3_0 : w2.cell? ⟨gb133, 0, none⟩ = some (.int .i64 a0_0) := (blk_cell BK133.out 0).trans rfl; have hcz3_1 : w2.cell? ⟨gb133, 1, none⟩ = some (.string a0_1) := (blk_cell BK133.out 1).trans rfl; have hfz3_0 := blk_frozen BK133.out 0; have hfz3_1 := blk_frozen BK133.out 1))
  go_ret
  exact ⟨by first | rfl | (simp only [i64_w, i32_w]; rfl) | (simp [errW_none, errW_some] <;> rfl) | (simp [*, errW_none, errW_some] <;> rfl), by repeat (first | (with_reducible first | exact HB.out | apply below_alloc | apply pw_below_drewN | apply below_drew1 | refine below_set ?_ GE133.out) | exact HB.out)⟩

end Go.Proofs.YtjfimileopbadaaGreatDoor.XVaB
