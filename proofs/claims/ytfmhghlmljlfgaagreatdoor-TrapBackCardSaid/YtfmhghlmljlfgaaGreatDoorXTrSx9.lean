-- Laid by extprint.py (the session's own driver): functions told by the kit's printer and by hand.
import Derived.Test.YtfmhghlmljlfgaaGreatDoorXTrSx0
import Derived.Test.YtfmhghlmljlfgaaGreatDoorXTrSx6
import Derived.Test.YtfmhghlmljlfgaaGreatDoorXTrSx8
namespace Go.Proofs.YtfmhghlmljlfgaaGreatDoor.XTrS
open Go.RowKit Gong Go.Proofs.YtfmhghlmljlfgaaGreatDoorW.PrintWords Go.Proofs.YtfmhghlmljlfgaaGreatDoorW.PrintLast Go.Proofs.YtfmhghlmljlfgaaGreatDoorW.PrintMore
attribute [local go_sem] max2_int min2_int max_two min_two max_three min_three max_four min_four   -- for this text's walks alone
set_option linter.unusedVariables false
set_option linter.unusedSimpArgs false
set_option maxHeartbeats 1600000 in
set_option maxRecDepth 100000 in
theorem bld_String_some (B b o : Nat) (T : TypeId) (cs : Array Value) (v : Value) (l : List UInt8) (w : World)
  (hb : w.heap[b]? = some (.cells cs T (0, 0))) (h1 : cs[o + 1]? = some v) (hr : BRow w B 5 v l) (h0 : l ≠ []) :
  Calls Tryz.prog 43 #[.pointer (some ⟨b, o, none⟩)] w fun e w' => e = .returned (.string ⟨l.toArray⟩) ∧ Mv (fun k => v.ownBlock = some k) w w' := by
 have hl0 : l.length ≠ 0 := by simpa using h0
 obtain ⟨g, cap, cur, rfl, hbg, hg, hnc, hcm, hcs, htake⟩ : ∃ g cap cur, v = .slice (some ⟨g, 0, none⟩) l.length cap ∧ B ≤ g ∧ w.heap[g]? = some (.cells cur 5 (0, 0)) ∧ l.length ≤ cap ∧ cap ≤ maxLen ∧ cur.size = cap * 1 ∧ cur.toList.take (l.length * 1) = l.map fun b => Value.int .u8 b.toNat := by
  rcases hr.2 with ⟨_, hz⟩ | ⟨g, cap, cur, hv, r⟩
  ·exact absurd hz hl0
  ·exact ⟨g, cap, cur, hv, r⟩
 have c1 : w.drew.cell? ⟨b, o + 1, none⟩ = some (.slice (some ⟨g, 0, none⟩) l.length cap) := (blk_cell (w := w.drew) hb (o + 1)).trans h1
 have hSD : (Builtin.unsafeSliceData_ #[87] 117 #[.slice (some ⟨g, 0, none⟩) l.length cap]).run Tryz.prog w.drew = .ok (.pointer (some ⟨g, 0, none⟩)) w.drew :=
  Lib.run_unsafeSliceData_row _ _ _ _ _ _ (by omega)
 have hUS : (Builtin.unsafeString_ #[117, 3] 9 #[.pointer (some ⟨g, 0, none⟩), .int .i64 l.length]).run Tryz.prog w.drew = .ok (.string ⟨l.toArray⟩) (w.drew.freeze ⟨g, 0, none⟩ l.length) := by
  refine Lib.run_unsafeString_row w.drew 117 3 9 5 Tryz.underlying117 (by kernel_rfl) g cur.size (by have hg' : w.drew.heap[g]? = some (.cells cur 5 (0, 0)) := hg; simp [World.shape?, hg']) l h0 (by omega) (by unfold maxLen at hcm; omega) ?_
  intro j x hx
  have := World.ownsRow.cells hr (g := g) rfl j (.int .u8 x.toNat) (by simp [hx])
  exact this
 have HG := Aside0.mk hg
 clear hb h1 hr h0 hl0 hbg hg hnc hcm hcs htake
 have u1 := Tryz.underlying89
 have u2 := Tryz.underlying86
 go_enter Tryz.func43, Tryz.ntmps43
 go_wp2
 go_region
 all_goals (go_wp2; go_ret; exact ⟨rfl, Mv.freeze (Mv.drew (Mv.refl _ w)) (by show Value.ownBlock _ = some _; rfl) _⟩)
set_option maxHeartbeats 1600000 in
set_option maxRecDepth 100000 in
theorem bld_String_none (B b o : Nat) (T : TypeId) (cs : Array Value) (v : Value) (w : World)
  (hb : w.heap[b]? = some (.cells cs T (0, 0))) (h1 : cs[o + 1]? = some v) (hr : BRow w B 5 v []) :
  Calls Tryz.prog 43 #[.pointer (some ⟨b, o, none⟩)] w fun e w' => e = .returned (.string ⟨#[]⟩) ∧ Mv (fun k => v.ownBlock = some k) w w' := by
 have hUS : ∀ W : World, ∀ q : Option Addr, (Builtin.unsafeString_ #[117, 3] 9 #[.pointer q, .int .i64 0]).run Tryz.prog W = .ok (.string .empty) W := fun W q => Lib.run_unsafeString_none W _ _ _ q
 have u1 := Tryz.underlying89
 have u2 := Tryz.underlying86
 have hlt : b < w.heap.size := (Array.getElem?_eq_some_iff.1 hb).1
 rcases hr.2 with ⟨rfl, _⟩ | ⟨g, cap, cur, rfl, hbg, hg, _, _, _, _⟩
 ·have c1 : w.drew.cell? ⟨b, o + 1, none⟩ = some (.slice none 0 0) := (blk_cell (w := w.drew) hb (o + 1)).trans h1
  have hSD : (Builtin.unsafeSliceData_ #[87] 117 #[.slice none 0 0]).run Tryz.prog w.drew = .ok (.pointer none) w.drew := rfl
  clear hb h1 hr hlt
  go_enter Tryz.func43, Tryz.ntmps43
  go_wp2
  go_region
  all_goals (go_wp2; go_ret; exact ⟨rfl, Mv.drew (Mv.refl _ w)⟩)
 ·by_cases hc0 : cap = 0
  ·subst hc0
   have hSD : (Builtin.unsafeSliceData_ #[87] 117 #[.slice (some ⟨g, 0, none⟩) 0 0]).run Tryz.prog w.drew = .ok (.pointer (some ⟨w.drew.heap.size, 0, none⟩)) (w.drew.alloc (.view ⟨g, 0, none⟩ 5)) :=
    Lib.run_unsafeSliceData_zero w.drew _ _ 5 Tryz.underlying117 ⟨g, 0, none⟩ 0 (5, cur.size) (by have hg' : w.drew.heap[g]? = some (.cells cur 5 (0, 0)) := hg; simp [World.shape?, hg'])
   have c0 : w.cell? ⟨b, o + 1, none⟩ = some (.slice (some ⟨g, 0, none⟩) 0 0) := (blk_cell hb (o + 1)).trans h1
   have c1 : w.drew.cell? ⟨b, o + 1, none⟩ = some (.slice (some ⟨g, 0, none⟩) 0 0) := c0
   have c2 : (w.drew.alloc (.view ⟨g, 0, none⟩ 5)).cell? ⟨b, o + 1, none⟩ = some (.slice (some ⟨g, 0, none⟩) 0 0) :=
    (blk_cell (w := w.drew.alloc (.view ⟨g, 0, none⟩ 5)) (blk_alloc (w := w.drew) hb _) (o + 1)).trans h1
   have c3 : (w.alloc (.view ⟨g, 0, none⟩ 5)).drew.cell? ⟨b, o + 1, none⟩ = some (.slice (some ⟨g, 0, none⟩) 0 0) := c2
   clear hb h1 hr hlt hg
   go_enter Tryz.func43, Tryz.ntmps43
   go_wp2
   go_region
   all_goals (go_wp2; go_ret; exact ⟨rfl, by first | exact Mv.alloc (Mv.drew (Mv.refl _ w)) _ | exact Mv.drew (Mv.alloc (Mv.refl _ w) _)⟩)
  ·have c1 : w.drew.cell? ⟨b, o + 1, none⟩ = some (.slice (some ⟨g, 0, none⟩) 0 cap) := (blk_cell (w := w.drew) hb (o + 1)).trans h1
   have hSD : (Builtin.unsafeSliceData_ #[87] 117 #[.slice (some ⟨g, 0, none⟩) 0 cap]).run Tryz.prog w.drew = .ok (.pointer (some ⟨g, 0, none⟩)) w.drew :=
    Lib.run_unsafeSliceData_row _ _ _ _ _ _ hc0
   clear hb h1 hr hlt hg hc0
   go_enter Tryz.func43, Tryz.ntmps43
   go_wp2
   go_region
   all_goals (go_wp2; go_ret; exact ⟨rfl, Mv.drew (Mv.refl _ w)⟩)
theorem bld_String (B b o : Nat) (T : TypeId) (cs : Array Value) (v : Value) (l : List UInt8) (w : World)
  (hb : w.heap[b]? = some (.cells cs T (0, 0))) (h1 : cs[o + 1]? = some v) (hr : BRow w B 5 v l) :
  Calls Tryz.prog 43 #[.pointer (some ⟨b, o, none⟩)] w fun e w' => e = .returned (.string ⟨l.toArray⟩) ∧ Mv (fun k => v.ownBlock = some k) w w' := by
 by_cases h0 : l = []
 ·subst h0
  exact bld_String_none B b o T cs v w hb h1 hr
 ·exact bld_String_some B b o T cs v l w hb h1 hr h0
theorem Bl.string {B b : Nat} {v : Value} {l : List UInt8} {w : World} (h : Bl w B b v l) :
  Calls Tryz.prog 43 #[.pointer (some ⟨b, 0, none⟩)] w fun e w' => e = .returned (.string ⟨l.toArray⟩) ∧ Mv (fun k => v.ownBlock = some k) w w' := by
 obtain ⟨p, hp, hb⟩ := h.blk
 exact bld_String B b 0 89 #[p, v] v l w hb rfl h.row
def gbyte (n : Int) (i : Nat) : Int := n / 128 ^ (8 - i) % 128 + (if i < 8 then 128 else 0)
def gbytes (n : Int) : List Int := (List.range 9).map fun i => gbyte n i
def gkAt : Nat → Int → Nat → Nat
 | 0, _, k => k
 | f + 1, n, k => if 0 < n / 128 ^ (k + 1) then gkAt f n (k + 1) else k
def gkOf (n : Int) : Nat := gkAt 8 n 0
theorem or128 (m : Nat) (h : m < 128) : bits .or .i64 (m : Int) 128 = (m : Int) + 128 := by
 have : ∀ m : Fin 128, bits .or .i64 ((m.val : Nat) : Int) 128 = ((m.val : Nat) : Int) + 128 := by decide +kernel
 exact this ⟨m, h⟩
def octet_Groups.f (a0 : Int) : Option (ByteArray × Int) :=
 if a0 < 0 then some (⟨#[]⟩, 1) else if a0 ≤ 9223372036854775807 then some (strOfNums ((gbytes a0).drop (8 - gkOf a0)), 0) else none
set_option maxHeartbeats 1600000 in
set_option maxRecDepth 100000 in
theorem octet_Groups.calls (a0 : Int) (r1 : ByteArray) (r2 : Int) (w : World) (h : octet_Groups.f a0 = some (r1, r2)) :
  Calls Tryz.prog 72 #[.int .i64 a0] w fun e w' => e = .returned (.tuple #[.string r1, .int .i64 r2]) ∧ Below w.heap.size w w' := by
 unfold octet_Groups.f at h
 by_cases h0 : a0 < 0
 ·rw [if_pos h0] at h
  simp only [Option.some.injEq, Prod.mk.injEq] at h
  obtain ⟨rfl, rfl⟩ := h
  have e1 : decide (a0 < 0) = true := decide_eq_true h0
  clear h0
  go_enter Tryz.func72, Tryz.ntmps72
  go_wp2
  go_ret2
  exact ⟨rfl, Below.refl _ _⟩
 ·rw [if_neg h0] at h
  by_cases h1 : a0 ≤ 9223372036854775807
  ·rw [if_pos h1] at h
   have H := Aside0.mk h
   have h0' : 0 ≤ a0 := by omega
   have e1 : decide (a0 < 0) = false := decide_eq_false h0
   have e2 : a0 % 128 ≤ 127 := by omega
   have e3 : 0 ≤ a0 % 128 := by omega
   clear h h0
   go_enter Tryz.func72, Tryz.ntmps72
   go_wp2_with fail
   have hblk : (w.alloc (.cells #[.int .u8 0, .int .u8 0, .int .u8 0, .int .u8 0, .int .u8 0, .int .u8 0, .int .u8 0, .int .u8 0, .int .u8 (a0 % 128)] 143)).heap[w.heap.size]? = some (.cells (rowIf 9 (gbyte a0) (fun i => decide (8 ≤ i))) 143 (0, 0)) := by
    rw [heap_alloc_new w _]
    have e9 : gbyte a0 8 = a0 % 128 := by unfold gbyte; simp
    rw [← e9]
    rfl
   have HK := Aside0.mk hblk
   have HB := Aside0.mk (below_alloc (Below.refl w.heap.size w) (.cells #[.int .u8 0, .int .u8 0, .int .u8 0, .int .u8 0, .int .u8 0, .int .u8 0, .int .u8 0, .int .u8 0, .int .u8 (a0 % 128)] 143))
   clear hblk
   obtain ⟨w1, hw1⟩ : ∃ w1, w1 = w.alloc (.cells #[.int .u8 0, .int .u8 0, .int .u8 0, .int .u8 0, .int .u8 0, .int .u8 0, .int .u8 0, .int .u8 0, .int .u8 (a0 % 128)] 143) := ⟨_, rfl⟩
   rw [← hw1] at HB HK ⊢
   clear hw1
   obtain ⟨g, hg⟩ : ∃ g, g = w.heap.size := ⟨_, rfl⟩
   have GE := Aside0.mk (Nat.le_of_eq hg.symm)
   rw [← hg] at HK ⊢
   clear hg
   have H0 := Aside0.mk h0'
   have H1 := Aside0.mk h1
   clear h1 e1 e2 e3 h0'
   go_loopw [0, 5] (fun u v W => ∃ m : Nat, m ≤ 8 ∧ v = .int .i64 (m : Int) ∧ u = .int .i64 (a0 / 128 ^ (9 - m)) ∧ Aside0 (gkAt m a0 (8 - m) = gkOf a0) ∧ Aside0 (W.heap[g]? = some (.cells (rowIf 9 (gbyte a0) (fun i => decide (m ≤ i))) 143 (0, 0))) ∧ Aside0 (Below w.heap.size w W)) (fun _ v _ => (intOf v + 1).toNat)
   case atStart => exact ⟨8, Nat.le_refl _, rfl, by simp, ⟨rfl⟩, HK, HB⟩
   case round =>
    obtain ⟨m, hm, rfl, rfl, HG, HK, HB⟩ := hrel
    obtain ⟨N, hN⟩ : ∃ N : Nat, a0 / 128 ^ (9 - m) = (N : Int) := ⟨(a0 / 128 ^ (9 - m)).toNat, by have : 0 ≤ a0 / 128 ^ (9 - m) := Int.ediv_nonneg H0.out (by exact Int.le_of_lt (Int.pow_pos (by decide))); omega⟩
    have HN := Aside0.mk hN
    rw [hN]
    clear hN
    by_cases hlt : 0 < N
    ·have hm0 : 0 < m := by
      rcases Nat.eq_zero_or_pos m with rfl | h
      ·have h9 : a0 / 128 ^ 9 = (N : Int) := HN.out
       have := H0.out
       have := H1.out
       omega
      ·exact h
     obtain ⟨j, rfl⟩ : ∃ j, m = j + 1 := ⟨m - 1, by omega⟩
     have e4 : decide ((N : Int) > 0) = true := decide_eq_true (by omega)
     have e5 : bits .or .i64 ((N : Int) % 128) 128 = (N : Int) % 128 + 128 := by
      have := or128 (N % 128) (Nat.mod_lt _ (by decide))
      rw [Int.natCast_emod] at this
      exact this
     have e6 : (((j + 1 : Nat) : Int) - 1) = (j : Int) := by omega
     have e7 : (N : Int) % 128 ≤ 127 := by omega
     have e8 : 0 ≤ (N : Int) % 128 := by omega
     have e9 : 0 ≤ (N : Int) := by omega
     have HV := Aside0.mk (show (N : Int) % 128 + 128 = gbyte a0 j from by
      unfold gbyte
      rw [if_pos (by omega), show 8 - j = 9 - (j + 1) from by omega, HN.out])
     have HV2 := Aside0.mk (show (N : Int) / 128 = a0 / 128 ^ (9 - j) from by
      rw [← HN.out, show 9 - j = 9 - (j + 1) + 1 from by omega, Int.pow_succ, Int.ediv_ediv_of_nonneg (Int.le_of_lt (Int.pow_pos (by decide)))])
     have HG2 := Aside0.mk (show gkAt j a0 (8 - j) = gkOf a0 from by
      rw [← HG.out]
      conv => rhs; unfold gkAt
      rw [show 8 - (j + 1) + 1 = 9 - (j + 1) from by omega, HN.out, if_pos (by omega), show 9 - (j + 1) = 8 - j from by omega])
     have hc := (blk_cell HK.out j).trans (rowIf_get _ _ _ _ (show j < 9 by omega))
     have hf := blk_frozen HK.out j
     have HJ := Aside0.mk (show j ≤ 7 by omega)
     have g1 := eq_true (show 0 < N by omega)
     have g2 := eq_true (show j < 9 by omega)
     have g3 := eq_true (show (j : Int) < 9 by omega)
     clear hlt hm0
     go_wp2
     go_roundw
     case rel => exact ⟨j, by have := HJ.out; omega, rfl, by rw [← HV2.out], HG2, ⟨by rw [HV.out]; exact blk_put HK.out j _ (rowIf_set 9 (gbyte a0) _ _ j (fun i hi => by rw [Bool.eq_iff_iff]; simp; omega))⟩, ⟨below_set HB.out GE.out⟩⟩
     case measure => simp [intOf]; omega
    ·obtain rfl : N = 0 := by omega
     rw [show ((0 : Nat) : Int) = 0 from rfl]
     have hk : 8 - gkOf a0 = m := by
      rw [← HG.out]
      cases m with
      | zero => rfl
      | succ q =>
       unfold gkAt
       have e : 8 - (q + 1) + 1 = 9 - (q + 1) := by omega
       rw [e, HN.out, if_neg (by decide)]
       omega
     have h := H.out
     rw [hk] at h
     simp only [Option.some.injEq, Prod.mk.injEq] at h
     obtain ⟨rfl, rfl⟩ := h
     have f5 := eq_true (show m ≤ 9 by omega)
     have f6 := eq_true (show (m : Int) ≤ 9 by omega)
     have f7 := eq_false (show ¬ (9 = m) by omega)
     have hcv : ∀ c, (convert 87 9 (.slice (some ⟨g, m, none⟩) (9 - m) c)).run Tryz.prog wr = .ok (.string (strOfNums ((gbytes a0).drop m))) wr := fun c => by
      refine run_convert_bytes_arg wr 87 5 Tryz.underlying87 Tryz.underlying5 g m (9 - m) c _ (by simp [gbytes]) (fun i hi => ?_) 9 Tryz.underlying9
      rw [(blk_cell HK.out (m + i)).trans (rowIf_get _ _ _ _ (show m + i < 9 by omega))]
      simp [gbytes, show m + i < 9 by omega]
     clear hlt hk hm
     go_wp2
     go_ret2
     exact ⟨rfl, HB.out⟩
  ·rw [if_neg h1] at h
   exact absurd h (by simp)
def oid_Encode.go : List Int → List UInt8 → Option (List UInt8)
 | [], acc => some acc
 | n :: l, acc => (octet_Groups.f n).bind fun g => if acc.length + g.1.size ≤ 140737488355328 then oid_Encode.go l (acc ++ g.1.data.toList) else none
def oid_Encode.f (k : Nat) (a0 : ByteArray) : Option (ByteArray × Int) := (oid_Arcs.f k a0).bind fun r => if r.2 = 0 then (match r.1 with
  | x0 :: x1 :: l => (oid_Encode.go (wrap64 (x1 + wrap64 (40 * x0)) :: l) []).bind fun o => some (⟨o.toArray⟩, 0)
  | _ => none) else some (⟨#[]⟩, r.2)
set_option maxHeartbeats 4000000 in
set_option maxRecDepth 100000 in
theorem oid_Encode.calls (k : Nat) (a0 : ByteArray) (r1 : ByteArray) (r2 : Int) (w : World) (hG : Gl w) (h : oid_Encode.f k a0 = some (r1, r2)) :
  Calls Tryz.prog 57 #[.string a0] w fun e w' => e = .returned (.tuple #[.string r1, .int .i64 r2]) ∧ Below w.heap.size w w' := by
 unfold oid_Encode.f at h
 obtain ⟨⟨x, c⟩, hA, h⟩ := Option.bind_eq_some_iff.mp h
 simp only at h
 have AA := Aside0.mk (oid_Arcs.calls k a0 x c w hG hA)
 clear hA hG
 go_enter Tryz.func57, Tryz.ntmps57
 by_cases hc : c = 0
 ·rw [if_pos hc] at h
  subst hc
  match x, h, AA with
  | x0 :: x1 :: l, h, AA =>
  obtain ⟨o, ho, h⟩ := Option.bind_eq_some_iff.mp h
  simp only [Option.some.injEq, Prod.mk.injEq] at h
  obtain ⟨rfl, rfl⟩ := h
  have HO := Aside0.mk ho
  clear ho
  go_wp2_with fail
  refine AA.out.mono ?_
  rintro e w1 ⟨v1, rfl, hr1, hb1⟩
  have hown := Kd.own_of_R (enc := Value.int .i64) (h1 := fun _ => rfl) hr1
  have HB1 := Aside0.mk hb1
  obtain ⟨g, cap, cur, rfl, hbg, hg, hnc, hcm, hcs, htake⟩ : ∃ g cap cur, v1 = .slice (some ⟨g, 0, none⟩) (x0 :: x1 :: l).length cap ∧ w.heap.size ≤ g ∧ w1.heap[g]? = some (.cells cur 3 (0, 0)) ∧ (x0 :: x1 :: l).length ≤ cap ∧ cap ≤ maxLen ∧ cur.size = cap * 1 ∧ cur.toList.take ((x0 :: x1 :: l).length * 1) = encs (Value.int .i64) (x0 :: x1 :: l) := by
   rcases hown.2 with ⟨_, hz⟩ | ⟨g, cap, cur, hv, r⟩
   ·exact absurd hz (by simp)
   ·exact ⟨g, cap, cur, hv, r⟩
  have hl2 : 2 ≤ cur.size := by simp only [List.length_cons] at hnc; omega
  have hct : ∀ (j : Nat) (u : Value), (encs (Value.int .i64) (x0 :: x1 :: l))[j]? = some u → cur[j]? = some u := by
   intro j u hj
   rw [← htake, List.getElem?_take] at hj
   split at hj
   ·rw [← Array.getElem?_toList]; exact hj
   ·cases hj
  have hc0 : w1.cell? ⟨g, 0, none⟩ = some (.int .i64 x0) := (blk_cell hg 0).trans (hct 0 _ rfl)
  have hc1 : w1.cell? ⟨g, 1, none⟩ = some (.int .i64 x1) := (blk_cell hg 1).trans (hct 1 _ rfl)
  have hf1 : w1.frozen? ⟨g, 1, none⟩ = false := blk_frozen hg 1
  have HG := Aside0.mk hg
  have HT := Aside0.mk htake
  have HGB := Aside0.mk hbg
  have HCS := Aside0.mk hcs
  have HNC := Aside0.mk hnc
  have HCM := Aside0.mk hcm
  have HL2 := Aside0.mk hl2
  have k1 := eq_true (show 1 < (x0 :: x1 :: l).length by simp)
  have k0 := eq_true (show 0 < (x0 :: x1 :: l).length by simp)
  have hlen : (x0 :: x1 :: l).length = l.length + 2 := rfl
  clear hr1 hb1 hown hg htake hbg hcs hnc hcm hl2 AA
  go_wp2_with fail
  go_cut [] (fun W => Aside0 (W.heap[g]? = some (.cells (cur.setIfInBounds 1 (.int .i64 (wrap64 (x1 + wrap64 (40 * x0))))) 3 (0, 0))) ∧ Aside0 (Below w.heap.size w W))
  case first =>
   go_region
   all_goals
    go_wp2
    go_meet
    case rel => exact ⟨⟨blk_put HG.out 1 _ rfl⟩, ⟨by first | exact below_set HB1.out HGB.out | exact below_drew1 (below_set HB1.out HGB.out) | exact below_set (below_drew1 HB1.out) HGB.out⟩⟩
  case rest =>
   obtain ⟨HG2, HB2⟩ := hcut
   have HGL := Aside0.mk (show g < wc.heap.size from (Array.getElem?_eq_some_iff.1 HG2.out).1)
   obtain ⟨y, hy⟩ : ∃ y, y = wrap64 (x1 + wrap64 (40 * x0)) := ⟨_, rfl⟩
   rw [← hy] at HG2 HO
   have hrow : ∀ (j : Nat) (u : Int), (y :: l)[j]? = some u → (cur.setIfInBounds 1 (.int .i64 y))[1 + j]? = some (Value.int .i64 u) := by
    intro j u hj
    cases j with
    | zero =>
     simp only [List.getElem?_cons_zero, Option.some.injEq] at hj
     subst hj
     rw [Array.getElem?_setIfInBounds_self, if_pos (by have := HL2.out; omega)]
    | succ j =>
     rw [Array.getElem?_setIfInBounds_ne (by omega)]
     simp only [List.getElem?_cons_succ] at hj
     apply hct
     simp [encs, show 1 + (j + 1) = j + 2 from by omega, hj]
   have HRW := Aside0.mk hrow
   have k3 := eq_false (show ¬ (cap = 1) by have := HNC.out; simp only [List.length_cons] at this; omega)
   have k4 := eq_false (show ¬ (1 = cap) by have := HNC.out; simp only [List.length_cons] at this; omega)
   have k5 := eq_true (show 1 ≤ cap by have := HNC.out; simp only [List.length_cons] at this; omega)
   have HLB := Aside0.mk (show l.length + 2 ≤ maxLen by have := HCM.out; have := HNC.out; simp only [List.length_cons] at this; omega)
   clear hc0 hc1 hf1 HG HB1 hy hrow hct HT
   go_wp2_with fail
   have HBL := Aside0.mk (Bl.new wc wc.heap.size (Nat.le_refl _))
   have HG3 := Aside0.mk (show (wc.alloc (.cells #[.pointer none, .slice none 0 0] 89)).heap[g]? = some (.cells (cur.setIfInBounds 1 (.int .i64 y)) 3 (0, 0)) from (Mv.heap ((Mv.refl (fun _ => False) wc).alloc _) HG2.out id))
   have HB3 := Aside0.mk (below_alloc HB2.out (.cells #[.pointer none, .slice none 0 0] 89))
   obtain ⟨b, hb⟩ : ∃ b, b = wc.heap.size := ⟨_, rfl⟩
   have HGB2 := Aside0.mk (show g < b by rw [hb]; exact HGL.out)
   have HBB := Aside0.mk (show w.heap.size ≤ b by rw [hb]; exact HB2.out.size)
   rw [← hb] at HBL ⊢
   clear hb HG2 HB2 HGL
   obtain ⟨wd, hwd⟩ : ∃ wd, wd = wc.alloc (.cells #[.pointer none, .slice none 0 0] 89) := ⟨_, rfl⟩
   rw [← hwd] at HBL HG3 HB3 ⊢
   clear hwd
   go_loopw [31] (fun v31 W => ∃ (i : Nat) (v : Value) (acc : List UInt8), v31 = .int .i64 (i : Int) ∧ i ≤ l.length + 1 ∧ Aside0 (oid_Encode.go ((y :: l).drop i) acc = some o) ∧ Aside0 (Bl W b b v acc) ∧ Aside0 (W.heap[g]? = some (.cells (cur.setIfInBounds 1 (.int .i64 y)) 3 (0, 0))) ∧ Aside0 (Below w.heap.size w W)) (fun v31 _ => l.length + 2 - (intOf v31).toNat)
   case atStart => exact ⟨0, _, [], rfl, by omega, HO, HBL, HG3, HB3⟩
   case round =>
    clear HO HBL HG3 HB3
    obtain ⟨i, v, acc, rfl, hi, HA, HBL, HG3, HB3⟩ := hrel
    by_cases hlt : i < l.length + 1
    ·obtain ⟨n, hn⟩ : ∃ n, (y :: l)[i]? = some n := ⟨_, List.getElem?_eq_getElem (by simpa using hlt)⟩
     have hd : (y :: l).drop i = n :: (y :: l).drop (i + 1) := by
      obtain ⟨h1, h2⟩ := List.getElem?_eq_some_iff.1 hn
      rw [← h2]
      exact List.drop_eq_getElem_cons h1
     have ha := HA.out
     rw [hd] at ha
     unfold oid_Encode.go at ha
     obtain ⟨⟨s1, c1⟩, hgr, ha⟩ := Option.bind_eq_some_iff.mp ha
     simp only at ha
     by_cases hsz : acc.length + s1.size ≤ 140737488355328
     ·rw [if_pos hsz] at ha
      have hc := (blk_cell HG3.out (1 + i)).trans (HRW.out i n hn)
      have HA2 := Aside0.mk ha
      have HGR := Aside0.mk hgr
      have HSZ := Aside0.mk hsz
      have HLT := Aside0.mk hlt
      have q1 := eq_true (show i < l.length + 1 from hlt)
      have q2 := eq_true (show (i : Int) < (l.length : Int) + 1 by omega)
      have q3 : decide ((i : Int) < (l.length : Int) + 1) = true := decide_eq_true (by omega)
      clear HA hd hn ha hgr hsz hlt hi
      go_wp2_with fail
      refine (octet_Groups.calls n s1 c1 _ HGR.out).mono ?_
      rintro e w3 ⟨rfl, hb3⟩
      have HBL3 := Aside0.mk (HBL.out.keep hb3)
      have HG4 := Aside0.mk (show w3.heap[g]? = some (.cells (cur.setIfInBounds 1 (.int .i64 y)) 3 (0, 0)) from (Mv.heap (Mv.of_below (S := fun _ => False) hb3) HG3.out id))
      have HB4 := Aside0.mk (Below.trans HB3.out (Below.mono hb3 HB3.out.size))
      have AW := Aside0.mk (HBL3.out.write s1 HSZ.out)
      clear hb3 HBL HG3 HB3 hc
      go_wp2_with fail
      refine AW.out.mono ?_
      rintro e w5 ⟨rfl, v5, hbl5, ho5, hm5⟩
      have HBL5 := Aside0.mk hbl5
      have HG5 := Aside0.mk (show w5.heap[g]? = some (.cells (cur.setIfInBounds 1 (.int .i64 y)) 3 (0, 0)) from (hm5.heap HG4.out (fun h => by
       rcases h with h | h
       ·have := HGB2.out; omega
       ·have := (World.ownsRow.lt HBL3.out.row g h).1; have := HGB2.out; omega)))
      have HB5 := Aside0.mk (Below.trans HB4.out (Mv.below hm5 HB4.out.size (fun q h => by
       rcases h with h | h
       ·have := HBB.out; omega
       ·have := (World.ownsRow.lt HBL3.out.row q h).1; have := HBB.out; omega)))
      clear hbl5 ho5 hm5 AW HBL3 HG4 HB4
      have q5 : i ≤ 9223372036854775805 := by have := HLB.out; have := HLT.out; unfold maxLen at *; omega
      go_wp2
      go_roundw
      case rel => exact ⟨i + 1, v5, _, by go_num, by have := HLT.out; omega, HA2, HBL5, HG5, HB5⟩
      case measure => have := HLT.out; simp only [intOf]; omega
     ·rw [if_neg hsz] at ha
      exact absurd ha (by simp)
    ·have hd : (y :: l).drop i = [] := List.drop_eq_nil_of_le (by simp; omega)
     have ha := HA.out
     rw [hd] at ha
     unfold oid_Encode.go at ha
     injection ha with ha
     subst ha
     have q1 := eq_false (show ¬ i < l.length + 1 from hlt)
     have q2 := eq_false (show ¬ (i : Int) < (l.length : Int) + 1 by omega)
     have q3 : decide ((i : Int) < (l.length : Int) + 1) = false := decide_eq_false (by omega)
     have AS := Aside0.mk HBL.out.string
     clear HA hd hlt hi
     go_wp2_with fail
     refine AS.out.mono ?_
     rintro e w5 ⟨rfl, hm5⟩
     have HB5 := Aside0.mk (Below.trans HB3.out (Mv.below hm5 HB3.out.size (fun q h => by
      have := (World.ownsRow.lt HBL.out.row q h).1; have := HBB.out; omega)))
     clear hm5 AS
     go_wp2
     go_ret2
     exact ⟨rfl, HB5.out⟩
  | [], h, _ => exact absurd h (by simp)
  | [_], h, _ => exact absurd h (by simp)
 ·rw [if_neg hc] at h
  simp only [Option.some.injEq, Prod.mk.injEq] at h
  obtain ⟨rfl, rfl⟩ := h
  have e1 : (c != 0) = true := bne_iff_ne.mpr hc
  clear hc
  go_wp2_with fail
  refine AA.out.mono ?_
  rintro e w1 ⟨v1, rfl, hr1, hb1⟩
  have HB1 := Aside0.mk hb1
  clear hr1 hb1
  go_wp2
  go_ret2
  exact ⟨rfl, HB1.out⟩
def ber_PutUnsigned.f (k : Nat) (a0 : Int) : Option ByteArray := ber_trimmed.f k (bytes9 a0)
set_option maxHeartbeats 1600000 in
set_option maxRecDepth 100000 in
theorem ber_PutUnsigned.calls (k : Nat) (a0 : Int) (r : ByteArray) (w : World) (h : ber_PutUnsigned.f k a0 = some r) :
  Calls Tryz.prog 73 #[.int .u64 a0] w fun e w' => e = .returned (.string r) ∧ Below w.heap.size w w' := by
 have H := Aside0.mk h
 clear h
 go_enter Tryz.func73, Tryz.ntmps73
 go_wp2_with fail
 have hblk : (w.alloc (.cells #[.int .u8 0, .int .u8 0, .int .u8 0, .int .u8 0, .int .u8 0, .int .u8 0, .int .u8 0, .int .u8 0, .int .u8 0] 143)).heap[w.heap.size]? = some (.cells (rowIf 9 (fun i => byte9 a0 i) (fun i => decide (i < 1))) 143 (0, 0)) := by
  rw [heap_alloc_new w _]
  rfl
 have HK := Aside0.mk hblk
 have HB := Aside0.mk (below_alloc (Below.refl w.heap.size w) (.cells #[.int .u8 0, .int .u8 0, .int .u8 0, .int .u8 0, .int .u8 0, .int .u8 0, .int .u8 0, .int .u8 0, .int .u8 0] 143))
 clear hblk
 obtain ⟨w1, hw1⟩ : ∃ w1, w1 = w.alloc (.cells #[.int .u8 0, .int .u8 0, .int .u8 0, .int .u8 0, .int .u8 0, .int .u8 0, .int .u8 0, .int .u8 0, .int .u8 0] 143) := ⟨_, rfl⟩
 rw [← hw1] at HB HK ⊢
 clear hw1
 obtain ⟨g, hg⟩ : ∃ g, g = w.heap.size := ⟨_, rfl⟩
 have GE := Aside0.mk (Nat.le_of_eq hg.symm)
 rw [← hg] at HK ⊢
 clear hg
 go_loopw [5] (fun v W => ∃ k : Nat, k ≤ 8 ∧ v = .int .i64 k ∧ Aside0 (W.heap[g]? = some (.cells (rowIf 9 (fun i => byte9 a0 i) (fun i => decide (i < k + 1))) 143 (0, 0))) ∧ Aside0 (Below w.heap.size w W)) (fun v _ => 8 - (intOf v).toNat)
 case atStart => exact ⟨0, Nat.zero_le _, rfl, HK, HB⟩
 case round =>
  obtain ⟨j, hj, rfl, HK, HB⟩ := hrel
  by_cases hlt : j < 8
  ·have hc := (blk_cell HK.out (1 + j)).trans (rowIf_get _ _ _ _ (show 1 + j < 9 by omega))
   have hf := blk_frozen HK.out (1 + j)
   go_wp2
   go_roundw
   case rel =>
    rw [← byte9_succ]
    refine ⟨j + 1, by omega, by go_num, ?_, ?_⟩
    rotate_left
    ·exact ⟨below_set HB.out GE.out⟩
    refine ⟨blk_put HK.out (1 + j) (.int .u8 (byte9 a0 (1 + j))) ?_⟩
    exact rowIf_set 9 (fun i => byte9 a0 i) _ _ (1 + j) (fun i hi => by rw [Bool.eq_iff_iff]; simp; omega)
   case measure => simp [intOf]; omega
  ·obtain rfl : j = 8 := by omega
   go_wp2_with fail
   have hr : ReadsInt wr .u8 (some ⟨g, 0, none⟩) 9 (bytes9 a0) := by
    refine ⟨by simp [bytes9], by omega, fun _ => ⟨_, rfl, fun i hi => ?_⟩⟩
    have := (blk_cell HK.out i).trans (rowIf_get _ _ _ _ hi)
    have e : (⟨g, 0, none⟩ : Addr).add i = ⟨g, i, none⟩ := by
     by_cases h0 : i = 0
     ·subst h0; rfl
     ·simp [Addr.add, h0]
    rw [e, this]
    simp [bytes9, hi]
   refine (ber_trimmed.calls k (some ⟨g, 0, none⟩) 9 (bytes9 a0) r _ (Kd.C_of_reads (d := (0 : Int)) (h1 := fun _ => rfl) hr) (Nat.le_refl _) H.out).mono ?_
   rintro e w2 ⟨rfl, m, rfl⟩
   go_wp2
   go_ret
   exact ⟨rfl, pw_below_drewN HB.out m⟩
def value_Encode.f (k : Nat) (a0_0 : Int) (a0_1 : Int) (a0_2 : ByteArray) : Option (ByteArray × Int) := (value_right.f k a0_0 a0_1 a0_2).bind fun t162 => (if t162 = true then ((value_of.f a0_0).bind fun t163 => (if t163 = 1 then ((ber_PutNumber.f k a0_1).bind fun t164 => ((ber_Wrap.f k a0_0 t164).bind fun bt165 => (some (bt165.1, bt165.2)))) else (if t163 = 2 then ((ber_PutUnsigned.f k (IntKind.u64.wrap (a0_1))).bind fun t167 => ((ber_Wrap.f k a0_0 t167).bind fun bt168 => (some (bt168.1, bt168.2)))) else (if t163 = 4 then ((oid_Encode.f k a0_2).bind fun bt170 => ((ber_Wrap.f k a0_0 bt170.1).bind fun bt172 => (some (bt172.1, bt172.2)))) else ((ber_Wrap.f k a0_0 a0_2).bind fun bt174 => (some (bt174.1, bt174.2))))))) else (some ((⟨#[]⟩ : ByteArray), 70)))
set_option maxHeartbeats 8000000 in
set_option maxRecDepth 100000 in
theorem value_Encode.calls (k : Nat) (a0_0 : Int) (a0_1 : Int) (a0_2 : ByteArray) (r1 : ByteArray) (r2 : Int) (w : World) (hG : Gl w) (h : value_Encode.f k a0_0 a0_1 a0_2 = some (r1, r2)) :
  Calls Tryz.prog 58 #[.agg #[.int .i64 a0_0, .int .i64 a0_1, .string a0_2]] w fun e w' => e = .returned (.tuple #[.string r1, .int .i64 r2]) ∧ Below w.heap.size w w' := by
 have HGl := Aside0.mk hG
 clear hG
 have hu38 := Tryz.underlying38
 have HB := Aside0.mk (Below.refl w.heap.size w)
 have H : ((value_right.f k a0_0 a0_1 a0_2).bind fun t162 => (if t162 = true then ((value_of.f a0_0).bind fun t163 => (if t163 = 1 then ((ber_PutNumber.f k a0_1).bind fun t164 => ((ber_Wrap.f k a0_0 t164).bind fun bt165 => (some (bt165.1, bt165.2)))) else (if t163 = 2 then ((ber_PutUnsigned.f k (IntKind.u64.wrap (a0_1))).bind fun t167 => ((ber_Wrap.f k a0_0 t167).bind fun bt168 => (some (bt168.1, bt168.2)))) else (if t163 = 4 then ((oid_Encode.f k a0_2).bind fun bt170 => ((ber_Wrap.f k a0_0 bt170.1).bind fun bt172 => (some (bt172.1, bt172.2)))) else ((ber_Wrap.f k a0_0 a0_2).bind fun bt174 => (some (bt174.1, bt174.2))))))) else (some ((⟨#[]⟩ : ByteArray), 70)))) = some (r1, r2) := h
 clear h
 replace H := Option.bind_eq_some_iff.mp H
 obtain ⟨t162, A20, H⟩ := H
 replace H : (if t162 = true then ((value_of.f a0_0).bind fun t163 => (if t163 = 1 then ((ber_PutNumber.f k a0_1).bind fun t164 => ((ber_Wrap.f k a0_0 t164).bind fun bt165 => (some (bt165.1, bt165.2)))) else (if t163 = 2 then ((ber_PutUnsigned.f k (IntKind.u64.wrap (a0_1))).bind fun t167 => ((ber_Wrap.f k a0_0 t167).bind fun bt168 => (some (bt168.1, bt168.2)))) else (if t163 = 4 then ((oid_Encode.f k a0_2).bind fun bt170 => ((ber_Wrap.f k a0_0 bt170.1).bind fun bt172 => (some (bt172.1, bt172.2)))) else ((ber_Wrap.f k a0_0 a0_2).bind fun bt174 => (some (bt174.1, bt174.2))))))) else (some ((⟨#[]⟩ : ByteArray), 70))) = some (r1, r2) := H
 have A2 := Aside0.mk A20
 clear A20
 by_cases c3 : t162 = true
 rotate_left
 ·replace c3 := Bool.eq_false_iff.mpr c3
  subst c3
  have H1 : (some ((⟨#[]⟩ : ByteArray), 70)) = some (r1, r2) := by rw [if_neg (show ¬ (false = true) by decide)] at H; exact H
  clear H
  have H := H1
  clear H1
  simp only [Option.some.injEq, Prod.mk.injEq] at H
  obtain ⟨rfl, rfl⟩ := H
  go_enter Tryz.func58, Tryz.ntmps58
  go_wp2_with (first | ((with_reducible refine gate_dst (N := 1) rfl ?_); refine box_event ?hg (N := 1) ?hd (cs := #[.int .i64 a0_0, .int .i64 a0_1, .string a0_2]) (t := 38) ?hr ?_; (case hd => rfl); (case hg => rfl); (case hr => exact Zq2); intro gb161 hg w41 hbox hb; have BK161 := Aside0.mk (hbox); have GW161 := Aside0.mk ((Zq67 : w.heap.size ≤ gb161)); have GE161 := Aside0.mk ((Zq67 : w.heap.size ≤ gb161)); replace HB := Aside0.mk (below_step Zq13 hb); clear hb hbox hg; obtain ⟨hcz42_0, hcz42_1, hcz42_2⟩ := cells3_ BK161.out; obtain ⟨hfz42_0, hfz42_1, hfz42_2⟩ := frozen3_ BK161.out) | ((with_reducible refine gate_callee (f := 64) rfl ?_); refine goesL_ (some 6) rfl rfl Tryz.func64 (by kernel_rfl) rfl #[.agg #[.int .i64 a0_0, .int .i64 a0_1, .string a0_2]] rfl Zq14 ?_; (with_reducible refine (value_right.calls k a0_0 a0_1 a0_2 false _ ?side1 A2.out).mono ?_); (case side1 => exact Zq71); rintro e w43 ⟨rfl, hb⟩; refine ⟨_, rfl, ?_⟩; replace BK161 := Aside0.mk (blkb_ BK161.out Zq52 hb); replace HB := Aside0.mk (below_step Zq20 hb); (try clear hb); (try clear hb2); (try clear hk); (try clear hi)))
  go_ret2
  exact ⟨Zy51, Zy41⟩
 subst c3
 have H1 : ((value_of.f a0_0).bind fun t163 => (if t163 = 1 then ((ber_PutNumber.f k a0_1).bind fun t164 => ((ber_Wrap.f k a0_0 t164).bind fun bt165 => (some (bt165.1, bt165.2)))) else (if t163 = 2 then ((ber_PutUnsigned.f k (IntKind.u64.wrap (a0_1))).bind fun t167 => ((ber_Wrap.f k a0_0 t167).bind fun bt168 => (some (bt168.1, bt168.2)))) else (if t163 = 4 then ((oid_Encode.f k a0_2).bind fun bt170 => ((ber_Wrap.f k a0_0 bt170.1).bind fun bt172 => (some (bt172.1, bt172.2)))) else ((ber_Wrap.f k a0_0 a0_2).bind fun bt174 => (some (bt174.1, bt174.2))))))) = some (r1, r2) := by rw [if_pos rfl] at H; exact H
 clear H
 have H := H1
 clear H1
 replace H := Option.bind_eq_some_iff.mp H
 obtain ⟨t163, A40, H⟩ := H
 replace H : (if t163 = 1 then ((ber_PutNumber.f k a0_1).bind fun t164 => ((ber_Wrap.f k a0_0 t164).bind fun bt165 => (some (bt165.1, bt165.2)))) else (if t163 = 2 then ((ber_PutUnsigned.f k (IntKind.u64.wrap (a0_1))).bind fun t167 => ((ber_Wrap.f k a0_0 t167).bind fun bt168 => (some (bt168.1, bt168.2)))) else (if t163 = 4 then ((oid_Encode.f k a0_2).bind fun bt170 => ((ber_Wrap.f k a0_0 bt170.1).bind fun bt172 => (some (bt172.1, bt172.2)))) else ((ber_Wrap.f k a0_0 a0_2).bind fun bt174 => (some (bt174.1, bt174.2)))))) = some (r1, r2) := H
 have A4 := Aside0.mk A40
 clear A40
 by_cases c5 : t163 = 1
 ·rw [if_pos c5] at H
  have c5b0 : (t163 == 1) = true := beq_iff_eq.mpr c5
  have c5b1 : (t163 != 1) = false := bne_eq_false_iff_eq.mpr c5
  clear c5
  replace H := Option.bind_eq_some_iff.mp H
  obtain ⟨t164, A60, H⟩ := H
  replace H : ((ber_Wrap.f k a0_0 t164).bind fun bt165 => (some (bt165.1, bt165.2))) = some (r1, r2) := H
  have A6 := Aside0.mk A60
  clear A60
  replace H := Option.bind_eq_some_iff.mp H
  obtain ⟨⟨t165, t166⟩, A70, H⟩ := H
  replace H : (some (t165, t166)) = some (r1, r2) := H
  have A7 := Aside0.mk A70
  clear A70
  simp only [Option.some.injEq, Prod.mk.injEq] at H
  obtain ⟨rfl, rfl⟩ := H
  go_enter Tryz.func58, Tryz.ntmps58
  go_wp2_with (first | ((with_reducible refine gate_dst (N := 1) rfl ?_); refine box_event ?hg (N := 1) ?hd (cs := #[.int .i64 a0_0, .int .i64 a0_1, .string a0_2]) (t := 38) ?hr ?_; (case hd => rfl); (case hg => rfl); (case hr => exact Zq2); intro gb161 hg w8 hbox hb; have BK161 := Aside0.mk (hbox); have GW161 := Aside0.mk ((Zq67 : w.heap.size ≤ gb161)); have GE161 := Aside0.mk ((Zq67 : w.heap.size ≤ gb161)); replace HB := Aside0.mk (below_step Zq13 hb); clear hb hbox hg; obtain ⟨hcz9_0, hcz9_1, hcz9_2⟩ := cells3_ BK161.out; obtain ⟨hfz9_0, hfz9_1, hfz9_2⟩ := frozen3_ BK161.out) | ((with_reducible refine gate_callee (f := 64) rfl ?_); refine goesL_ (some 6) rfl rfl Tryz.func64 (by kernel_rfl) rfl #[.agg #[.int .i64 a0_0, .int .i64 a0_1, .string a0_2]] rfl Zq14 ?_; (with_reducible refine (value_right.calls k a0_0 a0_1 a0_2 true _ ?side1 A2.out).mono ?_); (case side1 => exact Zq71); rintro e w10 ⟨rfl, hb⟩; refine ⟨_, rfl, ?_⟩; replace BK161 := Aside0.mk (blkb_ BK161.out Zq52 hb); replace HB := Aside0.mk (below_step Zq20 hb); (try clear hb); (try clear hb2); (try clear hk); (try clear hi); obtain ⟨hcz11_0, hcz11_1, hcz11_2⟩ := cells3_ BK161.out; obtain ⟨hfz11_0, hfz11_1, hfz11_2⟩ := frozen3_ BK161.out) | ((with_reducible refine gate_callee (f := 69) rfl ?_); refine goesL_ (some 12) rfl rfl Tryz.func69 (by kernel_rfl) rfl #[.int .i64 a0_0] rfl Zq14 ?_; (with_reducible refine (value_of.calls a0_0 t163 _ A4.out).mono ?_); rintro e w' ⟨rfl, ⟨nd, rfl⟩⟩; refine ⟨_, rfl, ?_⟩) | ((with_reducible refine gate_callee (f := 30) rfl ?_); refine goesL_ (some 17) rfl rfl Tryz.func30 (by kernel_rfl) rfl #[.int .i64 a0_1] rfl Zq14 ?_; (with_reducible refine (ber_PutNumber.calls k a0_1 t164 _ A6.out).mono ?_); rintro e w12 ⟨rfl, hb⟩; refine ⟨_, rfl, ?_⟩; replace BK161 := Aside0.mk (blkb_ BK161.out Zq52 hb); replace HB := Aside0.mk (below_step Zq20 hb); (try clear hb); (try clear hb2); (try clear hk); (try clear hi); obtain ⟨hcz13_0, hcz13_1, hcz13_2⟩ := cells3_ BK161.out; obtain ⟨hfz13_0, hfz13_1, hfz13_2⟩ := frozen3_ BK161.out) | ((with_reducible refine gate_callee (f := 29) rfl ?_); refine goesL_ (some 35) rfl rfl Tryz.func29 (by kernel_rfl) rfl #[.int .i64 a0_0, .string t164] rfl Zq14 ?_; (with_reducible refine (ber_Wrap.calls k a0_0 t164 t165 t166 _ A7.out).mono ?_); rintro e w14 ⟨rfl, hb⟩; refine ⟨_, rfl, ?_⟩; replace BK161 := Aside0.mk (blkb_ BK161.out Zq52 hb); replace HB := Aside0.mk (below_step Zq20 hb); (try clear hb); (try clear hb2); (try clear hk); (try clear hi)))
  go_ret2
  exact ⟨Zy51, Zy41⟩
 rw [if_neg c5] at H
 have c5b0 : (t163 == 1) = false := beq_eq_false_iff_ne.mpr c5
 have c5b1 : (t163 != 1) = true := bne_iff_ne.mpr c5
 by_cases c15 : t163 = 2
 ·rw [if_pos c15] at H
  have c15b0 : (t163 == 2) = true := beq_iff_eq.mpr c15
  have c15b1 : (t163 != 2) = false := bne_eq_false_iff_eq.mpr c15
  clear c15
  replace H := Option.bind_eq_some_iff.mp H
  obtain ⟨t167, A160, H⟩ := H
  replace H : ((ber_Wrap.f k a0_0 t167).bind fun bt168 => (some (bt168.1, bt168.2))) = some (r1, r2) := H
  have A16 := Aside0.mk A160
  clear A160
  replace H := Option.bind_eq_some_iff.mp H
  obtain ⟨⟨t168, t169⟩, A170, H⟩ := H
  replace H : (some (t168, t169)) = some (r1, r2) := H
  have A17 := Aside0.mk A170
  clear A170
  simp only [Option.some.injEq, Prod.mk.injEq] at H
  obtain ⟨rfl, rfl⟩ := H
  go_enter Tryz.func58, Tryz.ntmps58
  go_wp2_with (first | ((with_reducible refine gate_dst (N := 1) rfl ?_); refine box_event ?hg (N := 1) ?hd (cs := #[.int .i64 a0_0, .int .i64 a0_1, .string a0_2]) (t := 38) ?hr ?_; (case hd => rfl); (case hg => rfl); (case hr => exact Zq2); intro gb161 hg w18 hbox hb; have BK161 := Aside0.mk (hbox); have GW161 := Aside0.mk ((Zq67 : w.heap.size ≤ gb161)); have GE161 := Aside0.mk ((Zq67 : w.heap.size ≤ gb161)); replace HB := Aside0.mk (below_step Zq13 hb); clear hb hbox hg; obtain ⟨hcz19_0, hcz19_1, hcz19_2⟩ := cells3_ BK161.out; obtain ⟨hfz19_0, hfz19_1, hfz19_2⟩ := frozen3_ BK161.out) | ((with_reducible refine gate_callee (f := 64) rfl ?_); refine goesL_ (some 6) rfl rfl Tryz.func64 (by kernel_rfl) rfl #[.agg #[.int .i64 a0_0, .int .i64 a0_1, .string a0_2]] rfl Zq14 ?_; (with_reducible refine (value_right.calls k a0_0 a0_1 a0_2 true _ ?side1 A2.out).mono ?_); (case side1 => exact Zq71); rintro e w20 ⟨rfl, hb⟩; refine ⟨_, rfl, ?_⟩; replace BK161 := Aside0.mk (blkb_ BK161.out Zq52 hb); replace HB := Aside0.mk (below_step Zq20 hb); (try clear hb); (try clear hb2); (try clear hk); (try clear hi); obtain ⟨hcz21_0, hcz21_1, hcz21_2⟩ := cells3_ BK161.out; obtain ⟨hfz21_0, hfz21_1, hfz21_2⟩ := frozen3_ BK161.out) | ((with_reducible refine gate_callee (f := 69) rfl ?_); refine goesL_ (some 12) rfl rfl Tryz.func69 (by kernel_rfl) rfl #[.int .i64 a0_0] rfl Zq14 ?_; (with_reducible refine (value_of.calls a0_0 t163 _ A4.out).mono ?_); rintro e w' ⟨rfl, ⟨nd, rfl⟩⟩; refine ⟨_, rfl, ?_⟩) | ((with_reducible refine gate_callee (f := 73) rfl ?_); refine goesL_ (some 23) rfl rfl Tryz.func73 (by kernel_rfl) rfl #[.int .u64 (IntKind.u64.wrap (a0_1))] rfl Zq14 ?_; (with_reducible refine (ber_PutUnsigned.calls k (IntKind.u64.wrap (a0_1)) t167 _ A16.out).mono ?_); rintro e w22 ⟨rfl, hb⟩; refine ⟨_, rfl, ?_⟩; replace BK161 := Aside0.mk (blkb_ BK161.out Zq52 hb); replace HB := Aside0.mk (below_step Zq20 hb); (try clear hb); (try clear hb2); (try clear hk); (try clear hi); obtain ⟨hcz23_0, hcz23_1, hcz23_2⟩ := cells3_ BK161.out; obtain ⟨hfz23_0, hfz23_1, hfz23_2⟩ := frozen3_ BK161.out) | ((with_reducible refine gate_callee (f := 29) rfl ?_); refine goesL_ (some 35) rfl rfl Tryz.func29 (by kernel_rfl) rfl #[.int .i64 a0_0, .string t167] rfl Zq14 ?_; (with_reducible refine (ber_Wrap.calls k a0_0 t167 t168 t169 _ A17.out).mono ?_); rintro e w24 ⟨rfl, hb⟩; refine ⟨_, rfl, ?_⟩; replace BK161 := Aside0.mk (blkb_ BK161.out Zq52 hb); replace HB := Aside0.mk (below_step Zq20 hb); (try clear hb); (try clear hb2); (try clear hk); (try clear hi)))
  go_ret2
  exact ⟨Zy51, Zy41⟩
 rw [if_neg c15] at H
 have c15b0 : (t163 == 2) = false := beq_eq_false_iff_ne.mpr c15
 have c15b1 : (t163 != 2) = true := bne_iff_ne.mpr c15
 by_cases c25 : t163 = 4
 rotate_left
 ·rw [if_neg c25] at H
  have c25b0 : (t163 == 4) = false := beq_eq_false_iff_ne.mpr c25
  have c25b1 : (t163 != 4) = true := bne_iff_ne.mpr c25
  replace H := Option.bind_eq_some_iff.mp H
  obtain ⟨⟨t174, t175⟩, A350, H⟩ := H
  replace H : (some (t174, t175)) = some (r1, r2) := H
  have A35 := Aside0.mk A350
  clear A350
  simp only [Option.some.injEq, Prod.mk.injEq] at H
  obtain ⟨rfl, rfl⟩ := H
  go_enter Tryz.func58, Tryz.ntmps58
  go_wp2_with (first | ((with_reducible refine gate_dst (N := 1) rfl ?_); refine box_event ?hg (N := 1) ?hd (cs := #[.int .i64 a0_0, .int .i64 a0_1, .string a0_2]) (t := 38) ?hr ?_; (case hd => rfl); (case hg => rfl); (case hr => exact Zq2); intro gb161 hg w36 hbox hb; have BK161 := Aside0.mk (hbox); have GW161 := Aside0.mk ((Zq67 : w.heap.size ≤ gb161)); have GE161 := Aside0.mk ((Zq67 : w.heap.size ≤ gb161)); replace HB := Aside0.mk (below_step Zq13 hb); clear hb hbox hg; obtain ⟨hcz37_0, hcz37_1, hcz37_2⟩ := cells3_ BK161.out; obtain ⟨hfz37_0, hfz37_1, hfz37_2⟩ := frozen3_ BK161.out) | ((with_reducible refine gate_callee (f := 64) rfl ?_); refine goesL_ (some 6) rfl rfl Tryz.func64 (by kernel_rfl) rfl #[.agg #[.int .i64 a0_0, .int .i64 a0_1, .string a0_2]] rfl Zq14 ?_; (with_reducible refine (value_right.calls k a0_0 a0_1 a0_2 true _ ?side1 A2.out).mono ?_); (case side1 => exact Zq71); rintro e w38 ⟨rfl, hb⟩; refine ⟨_, rfl, ?_⟩; replace BK161 := Aside0.mk (blkb_ BK161.out Zq52 hb); replace HB := Aside0.mk (below_step Zq20 hb); (try clear hb); (try clear hb2); (try clear hk); (try clear hi); obtain ⟨hcz39_0, hcz39_1, hcz39_2⟩ := cells3_ BK161.out; obtain ⟨hfz39_0, hfz39_1, hfz39_2⟩ := frozen3_ BK161.out) | ((with_reducible refine gate_callee (f := 69) rfl ?_); refine goesL_ (some 12) rfl rfl Tryz.func69 (by kernel_rfl) rfl #[.int .i64 a0_0] rfl Zq14 ?_; (with_reducible refine (value_of.calls a0_0 t163 _ A4.out).mono ?_); rintro e w' ⟨rfl, ⟨nd, rfl⟩⟩; refine ⟨_, rfl, ?_⟩) | ((with_reducible refine gate_callee (f := 29) rfl ?_); refine goesL_ (some 35) rfl rfl Tryz.func29 (by kernel_rfl) rfl #[.int .i64 a0_0, .string a0_2] rfl Zq14 ?_; (with_reducible refine (ber_Wrap.calls k a0_0 a0_2 t174 t175 _ A35.out).mono ?_); rintro e w40 ⟨rfl, hb⟩; refine ⟨_, rfl, ?_⟩; replace BK161 := Aside0.mk (blkb_ BK161.out Zq52 hb); replace HB := Aside0.mk (below_step Zq20 hb); (try clear hb); (try clear hb2); (try clear hk); (try clear hi)))
  go_ret2
  exact ⟨Zy51, Zy41⟩
 rw [if_pos c25] at H
 have c25b0 : (t163 == 4) = true := beq_iff_eq.mpr c25
 have c25b1 : (t163 != 4) = false := bne_eq_false_iff_eq.mpr c25
 clear c25
 replace H := Option.bind_eq_some_iff.mp H
 obtain ⟨⟨t170, t171⟩, A260, H⟩ := H
 replace H : ((ber_Wrap.f k a0_0 t170).bind fun bt172 => (some (bt172.1, bt172.2))) = some (r1, r2) := H
 have A26 := Aside0.mk A260
 clear A260
 replace H := Option.bind_eq_some_iff.mp H
 obtain ⟨⟨t172, t173⟩, A270, H⟩ := H
 replace H : (some (t172, t173)) = some (r1, r2) := H
 have A27 := Aside0.mk A270
 clear A270
 simp only [Option.some.injEq, Prod.mk.injEq] at H
 obtain ⟨rfl, rfl⟩ := H
 go_enter Tryz.func58, Tryz.ntmps58
 go_wp2_with (first | ((with_reducible refine gate_dst (N := 1) rfl ?_); refine box_event ?hg (N := 1) ?hd (cs := #[.int .i64 a0_0, .int .i64 a0_1, .string a0_2]) (t := 38) ?hr ?_; (case hd => rfl); (case hg => rfl); (case hr => exact Zq2); intro gb161 hg w28 hbox hb; have BK161 := Aside0.mk (hbox); have GW161 := Aside0.mk ((Zq67 : w.heap.size ≤ gb161)); have GE161 := Aside0.mk ((Zq67 : w.heap.size ≤ gb161)); replace HB := Aside0.mk (below_step Zq13 hb); clear hb hbox hg; obtain ⟨hcz29_0, hcz29_1, hcz29_2⟩ := cells3_ BK161.out; obtain ⟨hfz29_0, hfz29_1, hfz29_2⟩ := frozen3_ BK161.out) | ((with_reducible refine gate_callee (f := 64) rfl ?_); refine goesL_ (some 6) rfl rfl Tryz.func64 (by kernel_rfl) rfl #[.agg #[.int .i64 a0_0, .int .i64 a0_1, .string a0_2]] rfl Zq14 ?_; (with_reducible refine (value_right.calls k a0_0 a0_1 a0_2 true _ ?side1 A2.out).mono ?_); (case side1 => exact Zq71); rintro e w30 ⟨rfl, hb⟩; refine ⟨_, rfl, ?_⟩; replace BK161 := Aside0.mk (blkb_ BK161.out Zq52 hb); replace HB := Aside0.mk (below_step Zq20 hb); (try clear hb); (try clear hb2); (try clear hk); (try clear hi); obtain ⟨hcz31_0, hcz31_1, hcz31_2⟩ := cells3_ BK161.out; obtain ⟨hfz31_0, hfz31_1, hfz31_2⟩ := frozen3_ BK161.out) | ((with_reducible refine gate_callee (f := 69) rfl ?_); refine goesL_ (some 12) rfl rfl Tryz.func69 (by kernel_rfl) rfl #[.int .i64 a0_0] rfl Zq14 ?_; (with_reducible refine (value_of.calls a0_0 t163 _ A4.out).mono ?_); rintro e w' ⟨rfl, ⟨nd, rfl⟩⟩; refine ⟨_, rfl, ?_⟩) | ((with_reducible refine gate_callee (f := 57) rfl ?_); refine goesL_ (some 29) rfl rfl Tryz.func57 (by kernel_rfl) rfl #[.string a0_2] rfl Zq14 ?_; (with_reducible refine (oid_Encode.calls k a0_2 t170 t171 _ ?side1 A26.out).mono ?_); (case side1 => exact Zq71); rintro e w32 ⟨rfl, hb⟩; refine ⟨_, rfl, ?_⟩; replace BK161 := Aside0.mk (blkb_ BK161.out Zq52 hb); replace HB := Aside0.mk (below_step Zq20 hb); (try clear hb); (try clear hb2); (try clear hk); (try clear hi); obtain ⟨hcz33_0, hcz33_1, hcz33_2⟩ := cells3_ BK161.out; obtain ⟨hfz33_0, hfz33_1, hfz33_2⟩ := frozen3_ BK161.out) | ((with_reducible refine gate_callee (f := 29) rfl ?_); refine goesL_ (some 35) rfl rfl Tryz.func29 (by kernel_rfl) rfl #[.int .i64 a0_0, .string t170] rfl Zq14 ?_; (with_reducible refine (ber_Wrap.calls k a0_0 t170 t172 t173 _ A27.out).mono ?_); rintro e w34 ⟨rfl, hb⟩; refine ⟨_, rfl, ?_⟩; replace BK161 := Aside0.mk (blkb_ BK161.out Zq52 hb); replace HB := Aside0.mk (below_step Zq20 hb); (try clear hb); (try clear hb2); (try clear hk); (try clear hi)))
 go_ret2
 exact ⟨Zy51, Zy41⟩
def pdu_bind.f (k : Nat) (a0_0 : ByteArray) (a0_1 : Int) (a0_2 : Int) (a0_3 : ByteArray) : Option (ByteArray) := (oid_Encode.f k a0_0).bind fun bt177 => ((value_Encode.f k a0_1 a0_2 a0_3).bind fun bt179 => ((pdu_wrap.f k 6 bt177.1).bind fun t181 => (if t181.size + bt179.1.size ≤ 9223372036854775807 then ((pdu_wrap.f k 48 (t181 ++ bt179.1)).bind fun t182 => (some t182)) else (none))))
set_option maxHeartbeats 8000000 in
set_option maxRecDepth 100000 in
theorem pdu_bind.calls (k : Nat) (a0_0 : ByteArray) (a0_1 : Int) (a0_2 : Int) (a0_3 : ByteArray) (r : ByteArray) (w : World) (hG : Gl w) (h : pdu_bind.f k a0_0 a0_1 a0_2 a0_3 = some r) :
  Calls Tryz.prog 40 #[.agg #[.string a0_0, .int .i64 a0_1, .int .i64 a0_2, .string a0_3]] w fun e w' => e = .returned (.string r) ∧ Below w.heap.size w w' := by
 have HGl := Aside0.mk hG
 clear hG
 have hu40 := Tryz.underlying40
 have hu38 := Tryz.underlying38
 have HB := Aside0.mk (Below.refl w.heap.size w)
 have H : ((oid_Encode.f k a0_0).bind fun bt177 => ((value_Encode.f k a0_1 a0_2 a0_3).bind fun bt179 => ((pdu_wrap.f k 6 bt177.1).bind fun t181 => (if t181.size + bt179.1.size ≤ 9223372036854775807 then ((pdu_wrap.f k 48 (t181 ++ bt179.1)).bind fun t182 => (some t182)) else (none))))) = some r := h
 clear h
 replace H := Option.bind_eq_some_iff.mp H
 obtain ⟨⟨t177, t178⟩, A20, H⟩ := H
 replace H : ((value_Encode.f k a0_1 a0_2 a0_3).bind fun bt179 => ((pdu_wrap.f k 6 t177).bind fun t181 => (if t181.size + bt179.1.size ≤ 9223372036854775807 then ((pdu_wrap.f k 48 (t181 ++ bt179.1)).bind fun t182 => (some t182)) else (none)))) = some r := H
 have A2 := Aside0.mk A20
 clear A20
 replace H := Option.bind_eq_some_iff.mp H
 obtain ⟨⟨t179, t180⟩, A30, H⟩ := H
 replace H : ((pdu_wrap.f k 6 t177).bind fun t181 => (if t181.size + t179.size ≤ 9223372036854775807 then ((pdu_wrap.f k 48 (t181 ++ t179)).bind fun t182 => (some t182)) else (none))) = some r := H
 have A3 := Aside0.mk A30
 clear A30
 replace H := Option.bind_eq_some_iff.mp H
 obtain ⟨t181, A40, H⟩ := H
 replace H : (if t181.size + t179.size ≤ 9223372036854775807 then ((pdu_wrap.f k 48 (t181 ++ t179)).bind fun t182 => (some t182)) else (none)) = some r := H
 have A4 := Aside0.mk A40
 clear A40
 by_cases c5 : t181.size + t179.size ≤ 9223372036854775807
 rotate_left
 ·rw [if_neg c5] at H
  exact absurd H (by simp)
 rw [if_pos c5] at H
 have c5b0 := eq_true c5
 have c5b1 : decide (t181.size + t179.size ≤ 9223372036854775807) = true := decide_eq_true c5
 try have c5b2 : (9223372036854775807 < t181.size + t179.size) = False := eq_false (Nat.not_lt.2 c5)
 replace H := Option.bind_eq_some_iff.mp H
 obtain ⟨t182, A60, H⟩ := H
 replace H : (some t182) = some r := H
 have A6 := Aside0.mk A60
 clear A60
 obtain rfl := Option.some.inj H
 go_enter Tryz.func40, Tryz.ntmps40
 go_wp2_with (first | ((with_reducible refine gate_dst (N := 1) rfl ?_); refine box_event ?hg (N := 1) ?hd (cs := #[.string a0_0, .int .i64 a0_1, .int .i64 a0_2, .string a0_3]) (t := 40) ?hr ?_; (case hd => rfl); (case hg => rfl); (case hr => exact Zq2); intro gb176 hg w7 hbox hb; have BK176 := Aside0.mk (hbox); have GW176 := Aside0.mk ((by rw [hg]; exact (below_size Zq13) : w.heap.size ≤ gb176)); have GE176 := Aside0.mk ((by rw [hg]; exact (below_size Zq13) : w.heap.size ≤ gb176)); replace HB := Aside0.mk (below_step Zq13 hb); clear hb hbox hg; obtain ⟨hcz8_0, hcz8_1, hcz8_2, hcz8_3⟩ := cells4_ BK176.out; obtain ⟨hfz8_0, hfz8_1, hfz8_2, hfz8_3⟩ := frozen4_ BK176.out) | ((with_reducible refine gate_callee (f := 57) rfl ?_); refine goesL_ (some 10) rfl rfl Tryz.func57 (by kernel_rfl) rfl #[.string a0_0] rfl Zq14 ?_; (with_reducible refine (oid_Encode.calls k a0_0 t177 t178 _ ?side1 A2.out).mono ?_); (case side1 => exact Zq71); rintro e w9 ⟨rfl, hb⟩; refine ⟨_, rfl, ?_⟩; replace BK176 := Aside0.mk (blkb_ BK176.out Zq52 hb); replace HB := Aside0.mk (below_step Zq21 hb); (try clear hb); (try clear hb2); (try clear hk); (try clear hi); obtain ⟨hcz10_0, hcz10_1, hcz10_2, hcz10_3⟩ := cells4_ BK176.out; obtain ⟨hfz10_0, hfz10_1, hfz10_2, hfz10_3⟩ := frozen4_ BK176.out) | ((with_reducible refine gate_callee (f := 58) rfl ?_); refine goesL_ (some 16) rfl rfl Tryz.func58 (by kernel_rfl) rfl #[.agg #[.int .i64 a0_1, .int .i64 a0_2, .string a0_3]] rfl Zq14 ?_; (with_reducible refine (value_Encode.calls k a0_1 a0_2 a0_3 t179 t180 _ ?side1 A3.out).mono ?_); (case side1 => exact Zq71); rintro e w11 ⟨rfl, hb⟩; refine ⟨_, rfl, ?_⟩; replace BK176 := Aside0.mk (blkb_ BK176.out Zq52 hb); replace HB := Aside0.mk (below_step Zq21 hb); (try clear hb); (try clear hb2); (try clear hk); (try clear hi)) | ((with_reducible refine gate_callee (f := 42) rfl ?_); refine goesL_ (some 20) rfl rfl Tryz.func42 (by kernel_rfl) rfl #[.int .i64 6, .string t177] rfl Zq14 ?_; (with_reducible refine (pdu_wrap.calls k 6 t177 t181 _ A4.out).mono ?_); rintro e w12 ⟨rfl, hb⟩; refine ⟨_, rfl, ?_⟩; replace BK176 := Aside0.mk (blkb_ BK176.out Zq52 hb); replace HB := Aside0.mk (below_step Zq21 hb); (try clear hb); (try clear hb2); (try clear hk); (try clear hi)) | ((with_reducible refine gate_callee (f := 42) rfl ?_); refine goesL_ (some 23) rfl rfl Tryz.func42 (by kernel_rfl) rfl #[.int .i64 48, .string (t181 ++ t179)] rfl Zq14 ?_; (with_reducible refine (pdu_wrap.calls k 48 (t181 ++ t179) t182 _ A6.out).mono ?_); rintro e w13 ⟨rfl, hb⟩; refine ⟨_, rfl, ?_⟩; replace BK176 := Aside0.mk (blkb_ BK176.out Zq52 hb); replace HB := Aside0.mk (below_step Zq21 hb); (try clear hb); (try clear hb2); (try clear hk); (try clear hi)))
 go_ret
 exact ⟨Zy51, by repeat (first | (with_reducible first | exact HB.out | apply below_alloc | apply pw_below_drewN | apply below_drew1 | refine below_set ?_ GE176.out) | exact HB.out)⟩
set_option maxHeartbeats 1600000 in
set_option maxRecDepth 100000 in
theorem Bl.len_ {B b : Nat} {v : Value} {l : List UInt8} {w : World} (h : Bl w B b v l) :
  Calls Tryz.prog 41 #[.pointer (some ⟨b, 0, none⟩)] w fun e w' => e = .returned (.int .i64 l.length) ∧ w' = w := by
 obtain ⟨p, _, hb⟩ := h.blk
 obtain ⟨A, c, rfl⟩ := BRow.slice h.row
 have hc := (blk_cell hb 1).trans rfl
 clear h hb
 go_enter Tryz.func41, Tryz.ntmps41
 go_wp2
 go_ret
 exact ⟨rfl, rfl⟩
end Go.Proofs.YtfmhghlmljlfgaaGreatDoor.XTrS
