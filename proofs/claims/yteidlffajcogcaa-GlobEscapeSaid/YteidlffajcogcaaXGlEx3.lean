-- Laid by extprint.py (the session's own driver): functions told by the kit's printer and by hand.
import Derived.Test.YteidlffajcogcaaXGlEx0
import Derived.Test.YteidlffajcogcaaXGlEx2
namespace Go.Proofs.Yteidlffajcogcaa.XGlE
open Go.RowKit Gong Go.Proofs.YteidlffajcogcaaW.PrintWords Go.Proofs.YteidlffajcogcaaW.PrintLast Go.Proofs.YteidlffajcogcaaW.PrintMore
attribute [local go_sem] max2_int min2_int max_two min_two max_three min_three max_four min_four   -- for this text's walks alone
set_option linter.unusedVariables false
set_option linter.unusedSimpArgs false

/-! ### glob_Escape: function 20 -/
set_option maxHeartbeats 4000000 in
set_option maxRecDepth 100000 in
theorem glob_Escape.calls (s : ByteArray) (w : World) (hs : s.size ≤ 1000) :
    Calls Try.prog 20 #[.string s] w fun e w' => e = .returned (.string (Bz (GlobS.escL s.data.toList))) ∧ Mv (fun _ => False) w w' := by
  have HS := Aside0.mk hs
  clear hs
  obtain ⟨l, hl⟩ : ∃ l, l = s.data.toList := ⟨_, rfl⟩
  have HLL := Aside0.mk (show l.length = s.size by rw [hl]; simp)
  have hconv := fun (s : ByteArray) (W : World) => Lib.run_convert_string_bytes (P := Try.prog) W 9 91 5 s Try.underlying9 Try.underlying91 Try.underlying5
  rw [← hl]
  go_enter Try.func20, Try.ntmps20
  go_wp2
  obtain ⟨w1, hw1⟩ : ∃ w1, w1 = w.alloc (.cells #[.pointer none, .slice none 0 0] 93) := ⟨_, rfl⟩
  obtain ⟨w2, hw2⟩ : ∃ w2, w2 = Lib.bytesWorld w1 5 s := ⟨_, rfl⟩
  have hbel : Below w1.heap.size w1 w2 := by rw [hw2]; exact bytes_below (Below.refl _ _) (Nat.le_refl _) 5 s
  have HBL := Aside0.mk (show Bl w2 w.heap.size w.heap.size (.slice none 0 0) [] from (show Bl w1 w.heap.size w.heap.size (.slice none 0 0) [] by rw [hw1]; exact Bl.new w w.heap.size (Nat.le_refl _)).keep hbel)
  have HMV := Aside0.mk (show Mv (fun _ => False) w w2 from (show Mv (fun _ => False) w w1 by rw [hw1]; exact (Mv.refl _ w).alloc _).then_below hbel)
  have HSZ := Aside0.mk (show w1.heap.size = w.heap.size + 1 by rw [hw1]; simp)
  have HCV := Aside0.mk (show ∃ cs fr, w2.heap[w1.heap.size]? = some (.cells cs 5 fr) ∧ ∀ (j : Nat) (c : UInt8), l[j]? = some c → cs[j]? = some (Value.int .u8 c.toNat) by
    rw [hw2, hl]
    refine ⟨_, _, Lib.bytesWorld_at_new w1 5 s, fun j c hj => ?_⟩
    have hj2 : j < s.size := by simpa using (List.getElem?_eq_some_iff.1 hj).1
    have := Lib.bytesWorld_cell w1 5 s j hj2
    rw [cell_of_row _ _ _ _ _ _ (Lib.bytesWorld_at_new w1 5 s)] at this
    rw [this, List.getD_eq_getElem?_getD, hj]
    rfl)
  rw [HSZ.out] at HCV
  rw [← hw1, ← hw2]
  obtain ⟨gcap, hgcap⟩ : ∃ gcap, gcap = grownCap w1 s.size 0 5 := ⟨_, rfl⟩
  rw [← hgcap]
  obtain ⟨gc, hgc⟩ : ∃ gc, gc = w.heap.size + 1 := ⟨_, rfl⟩
  obtain ⟨b, hb⟩ : ∃ b, b = w.heap.size := ⟨_, rfl⟩
  rw [← hgc] at HCV ⊢
  rw [← hb] at HBL ⊢
  have HBB := Aside0.mk hb
  have HGB := Aside0.mk (show gc = b + 1 by rw [hgc, hb])
  obtain ⟨cs, fr, hcv, hcs⟩ := HCV.out
  have HCS := Aside0.mk hcs
  have HC0 := Aside0.mk hcv
  have HL := Aside0.mk hl
  clear hw1 hw2 hbel hgc hb hgcap HCV hcs hcv hl HSZ
  go_loopg [9] (s.size + 2) (fun kq v9 W => ∃ (k : Nat) (bv : Value), v9 = .int .i64 k ∧ Aside0 (k ≤ s.size) ∧ Aside0 (s.size - k < kq) ∧ Aside0 (Bl W b b bv (GlobS.escL (l.take k))) ∧ Aside0 (∀ q, bv.ownBlock = some q → gc < q) ∧ Aside0 (W.heap[gc]? = some (.cells cs 5 fr)) ∧ Aside0 (Mv (fun _ => False) w W))
  case atStart => exact ⟨0, _, rfl, ⟨Nat.zero_le _⟩, ⟨by omega⟩, HBL, ⟨fun q h => by simp [Value.ownBlock] at h⟩, HC0, HMV⟩
  case round =>
    clear HBL HC0 HMV
    obtain ⟨k, bv, rfl, HK, HKQ, HBL, HOW, HC0, HMV⟩ := hrel
    by_cases ck : k < s.size
    · have e2 := eq_true ck
      obtain ⟨c, hc⟩ : ∃ c, l[k]? = some c := ⟨_, List.getElem?_eq_getElem (by have := HLL.out; omega)⟩
      have hcell := (cell_of_row wr gc k cs 5 fr HC0.out).trans (HCS.out k c hc)
      have HC := Aside0.mk hc
      have HCK := Aside0.mk ck
      have HTK := Aside0.mk (GlobS.esc_take hc)
      have hcl := c.toNat_lt
      have e9 : wrap64 ((k : Int) + 1) = ((k + 1 : Nat) : Int) := by have := HS.out; have := HCK.out; unfold wrap64; omega
      clear hc ck
      have hsp := GlobS.spec_ix c
      cases hspc : GlobS.special c with
      | true =>
        have HEB := Aside0.mk (show GlobS.escB c = [92, c] by unfold GlobS.escB; rw [if_pos hspc])
        rw [hspc] at hsp
        have hsp2 := eq_true (of_decide_eq_true hsp)
        go_wp2_with (go_at_call 51; refine (Try.strings_IndexByte _ _ _).mono ?_; rintro e w5 ⟨rfl, rfl⟩)
        clear hsp hsp2 hspc
        go_wp2_with fail
        refine (HBL.out.writeByte 92 (by have := GlobS.esc_len (l.take k); rw [List.length_take] at this; have := HS.out; have := HCK.out; omega)).mono ?_
        rintro e w6 ⟨rfl, v6, hbl6, ho6, hm6⟩
        have HBL6 := Aside0.mk hbl6
        have HOW6 := Aside0.mk (show ∀ q, v6.ownBlock = some q → gc < q from fun q hq => by
          rcases ho6 q hq with h | h
          · exact HOW.out q h
          · have := (Array.getElem?_eq_some_iff.1 HC0.out).1; omega)
        have HM6 := Aside0.mk (HMV.out.trans hm6 (fun i hi h => by
          rcases h with h | h
          · have := HBB.out; omega
          · have := (World.ownsRow.lt HBL.out.row i h).1; have := HBB.out; omega))
        have HMV6 := HM6
        have HC06 := Aside0.mk (hm6.heap HC0.out (fun h => by
          rcases h with h | h
          · have := HGB.out; omega
          · have := HOW.out gc h; omega))
        clear hbl6 ho6 hm6
        go_wp2_with fail
        refine (HBL6.out.writeByte c (by have := GlobS.esc_len (l.take k); rw [List.length_take] at this; rw [List.length_append, List.length_singleton]; have := HS.out; have := HCK.out; omega)).mono ?_
        rintro e w7 ⟨rfl, v7, hbl7, ho7, hm7⟩
        have HBL7 := Aside0.mk hbl7
        have HOW7 := Aside0.mk (show ∀ q, v7.ownBlock = some q → gc < q from fun q hq => by
          rcases ho7 q hq with h | h
          · exact HOW6.out q h
          · have := (Array.getElem?_eq_some_iff.1 HC06.out).1; omega)
        have HM7 := Aside0.mk (HMV6.out.trans hm7 (fun i hi h => by
          rcases h with h | h
          · have := HBB.out; omega
          · have := (World.ownsRow.lt HBL6.out.row i h).1; have := HBB.out; omega))
        have HMV7 := HM7
        have HC07 := Aside0.mk (hm7.heap HC06.out (fun h => by
          rcases h with h | h
          · have := HGB.out; omega
          · have := HOW6.out gc h; omega))
        clear hbl7 ho7 hm7
        go_wp2
        go_roundg (s.size - (k + 1) + 1)
        case measure => have := HKQ.out; have := HCK.out; omega
        case rel => exact ⟨k + 1, v7, by first | rfl | rw [e9], ⟨HCK.out⟩, ⟨by omega⟩, ⟨by rw [HTK.out, HEB.out]; simpa using HBL7.out⟩, HOW7, HC07, HMV7⟩
      | false =>
        have HEB := Aside0.mk (show GlobS.escB c = [c] by unfold GlobS.escB; rw [if_neg (by rw [hspc]; simp)])
        rw [hspc] at hsp
        have hsp2 := eq_false (of_decide_eq_false hsp)
        go_wp2_with (go_at_call 51; refine (Try.strings_IndexByte _ _ _).mono ?_; rintro e w5 ⟨rfl, rfl⟩)
        clear hsp hsp2 hspc
        go_wp2_with fail
        refine (HBL.out.writeByte c (by have := GlobS.esc_len (l.take k); rw [List.length_take] at this; have := HS.out; have := HCK.out; omega)).mono ?_
        rintro e w6 ⟨rfl, v6, hbl6, ho6, hm6⟩
        have HBL6 := Aside0.mk hbl6
        have HOW6 := Aside0.mk (show ∀ q, v6.ownBlock = some q → gc < q from fun q hq => by
          rcases ho6 q hq with h | h
          · exact HOW.out q h
          · have := (Array.getElem?_eq_some_iff.1 HC0.out).1; omega)
        have HM6 := Aside0.mk (HMV.out.trans hm6 (fun i hi h => by
          rcases h with h | h
          · have := HBB.out; omega
          · have := (World.ownsRow.lt HBL.out.row i h).1; have := HBB.out; omega))
        have HMV6 := HM6
        have HC06 := Aside0.mk (hm6.heap HC0.out (fun h => by
          rcases h with h | h
          · have := HGB.out; omega
          · have := HOW.out gc h; omega))
        clear hbl6 ho6 hm6
        go_wp2
        go_roundg (s.size - (k + 1) + 1)
        case measure => have := HKQ.out; have := HCK.out; omega
        case rel => exact ⟨k + 1, v6, by first | rfl | rw [e9], ⟨HCK.out⟩, ⟨by omega⟩, ⟨by rw [HTK.out, HEB.out]; simpa using HBL6.out⟩, HOW6, HC06, HMV6⟩
    · have e2 := eq_false ck
      have hk : k = s.size := by have := HK.out; omega
      have HTK := Aside0.mk (show l.take k = l from List.take_of_length_le (by have := HLL.out; omega))
      clear ck hk
      have AS := Aside0.mk HBL.out.string
      go_wp2_with fail
      refine AS.out.mono ?_
      rintro e w5 ⟨rfl, hm5⟩
      have HM5 := Aside0.mk (HMV.out.trans hm5 (fun i hi h => by have := (World.ownsRow.lt HBL.out.row i h).1; have := HBB.out; omega))
      clear hm5
      go_wp2
      go_ret
      exact ⟨by rw [HTK.out]; rfl, HM5.out⟩

/-! ### glob_Pattern_Plain: function 22 -/
theorem owns_blk {w : World} {B size n k : Nat} {e : TypeId} {v : Value} {xs : List Value} (h : w.ownsRow B e size v n xs) (hk : v.ownBlock = some k) : ∃ cur, w.heap[k]? = some (.cells cur e (0, 0)) := by
  rcases h.2 with ⟨rfl, _⟩ | ⟨g, cap, cur, rfl, _, hg, _⟩
  · simp [Value.ownBlock] at hk
  · simp [Value.ownBlock] at hk
    subst hk
    exact ⟨cur, hg⟩
/-- A pattern, beside a builder that is written to. -/
theorem PatAt_bl {w w' : World} {B B' g b : Nat} {s : ByteArray} {v bv : Value} {rs : List PcR} {ps : List GlobS.Pi} {l : List UInt8} (h : PatAt 84 87 125 w B g s v rs ps) (hb : Bl w B' b bv l)
    (hm : Mv (fun k => k = b ∨ bv.ownBlock = some k) w w') : PatAt 84 87 125 w' B g s v rs ps := by
  obtain ⟨p, _, hbb⟩ := hb.blk
  have key : ∀ k T cs fr, w.heap[k]? = some (.cells cs T fr) → T ≠ 93 → T ≠ 5 → ¬ (k = b ∨ bv.ownBlock = some k) := by
    intro k T cs fr hk h1 h2 h3
    rcases h3 with h3 | h3
    · exact blk_types hk hbb h1 h3
    · obtain ⟨cur, hc⟩ := owns_blk hb.row h3
      exact blk_types hk hc h2 rfl
  refine ⟨hm.heap h.blk (key _ _ _ _ h.blk (by decide) (by decide)), hm.own h.row (fun k hk => ?_), PcsAt.mvT hm (fun b' f hs => key _ _ _ _ hs (by decide) (by decide)) h.pcs, h.ge⟩
  obtain ⟨cur, hc⟩ := owns_blk h.row hk
  exact key _ _ _ _ hc (by decide) (by decide)
set_option maxHeartbeats 4000000 in
set_option maxRecDepth 100000 in
theorem glob_Pattern_Plain.calls (g B : Nat) (s0 : ByteArray) (v : Value) (rs : List PcR) (ps : List GlobS.Pi) (w : World) (h : PatAt 84 87 125 w B g s0 v rs ps) (hn : rs.length ≤ 1000) :
    Calls Try.prog 22 #[.pointer (some ⟨g, 0, none⟩)] w fun e w' => e = .returned (.tuple #[.string (GlobS.plainR ps).1, .bool (GlobS.plainR ps).2]) ∧ Mv (fun _ => False) w w' := by
  obtain ⟨A, c, rfl⟩ := own_slice h.row
  obtain ⟨q, hq⟩ : ∃ q, q = GlobS.plainR ps := ⟨_, rfl⟩
  rw [← hq]
  have HQ := Aside0.mk hq
  have HNL := Aside0.mk (show ps.length = rs.length by rw [h.pcs.len])
  have HBD := Aside0.mk hn
  have huP := Try.underlying82
  have HPT := Aside0.mk (h.below ((Mv.refl (fun _ => False) w).alloc (.cells #[.pointer none, .slice none 0 0] 93)))
  have HBL := Aside0.mk (Bl.new w w.heap.size (Nat.le_refl _))
  have HMV := Aside0.mk ((Mv.refl (fun _ => False) w).alloc (.cells #[.pointer none, .slice none 0 0] 93))
  have HGE := Aside0.mk (show g < w.heap.size from (Array.getElem?_eq_some_iff.1 h.blk).1)
  clear h hn hq
  go_enter Try.func22, Try.ntmps22
  go_upto_region 2 with (fail)
  obtain ⟨w1, hw1⟩ : ∃ w1, w1 = w.alloc (.cells #[.pointer none, .slice none 0 0] 93) := ⟨_, rfl⟩
  rw [← hw1] at HPT HBL HMV ⊢
  have HB0 := Aside0.mk (show w.heap.size ≤ w.heap.size from Nat.le_refl _)
  obtain ⟨b, hb⟩ : ∃ b, b = w.heap.size := ⟨_, rfl⟩
  rw [← hb] at HBL ⊢
  have HBB := Aside0.mk hb
  clear hw1 hb HB0
  have hg0 := blk_cell HPT.out.blk 0
  have hg1 := blk_cell HPT.out.blk 1
  go_wp2
  clear hg0 hg1
  go_loopg [12] (rs.length + 2) (fun kq v12 W => ∃ (k : Nat) (bv : Value), v12 = .int .i64 k ∧ Aside0 (k ≤ rs.length) ∧ Aside0 (rs.length - k < kq) ∧ Aside0 (∀ j p, j < k → ps[j]? = some p → p.own.isSome = true) ∧
    Aside0 (Bl W b b bv ((ps.map (fun p => p.own.getD 0)).take k)) ∧ Aside0 (PatAt 84 87 125 W B g s0 (.slice A rs.length c) rs ps) ∧ Aside0 (Mv (fun _ => False) w W))
  case atStart => exact ⟨0, _, rfl, ⟨Nat.zero_le _⟩, ⟨by omega⟩, ⟨fun j p hj => absurd hj (Nat.not_lt_zero _)⟩, HBL, HPT, HMV⟩
  case round =>
    clear HBL HPT HMV
    obtain ⟨k, bv, rfl, HK, HKQ, HYES, HBL, HPT, HMV⟩ := hrel
    by_cases ck : k < rs.length
    · obtain ⟨gr, r, p, rfl, hr, hp, hpc, hc0, hc1, hc2, hc3, -⟩ := HPT.out.piece k ck
      have e2 := eq_true ck
      have HCK := Aside0.mk ck
      have HPP := Aside0.mk hp
      have hpl := hpc.plain
      have HOW := Aside0.mk hpc.own_
      obtain ⟨ptr, any, plain, own⟩ := r
      simp only at hpl
      subst hpl
      obtain ⟨pp, hptr⟩ : ∃ pp, (PcR.mk ptr any p.own.isSome own).ptrV = .pointer pp := by cases ptr <;> exact ⟨_, rfl⟩
      rw [hptr] at hc0
      simp only at hc1 hc2 hc3
      clear hpc hr hp ck hptr
      cases hown : p.own with
      | none =>
        have HNO := Aside0.mk (GlobS.plainR_no HPP.out hown)
        rw [hown] at hc2
        simp only [Option.isSome_none] at hc2
        go_wp2
        go_ret2
        exact ⟨by rw [HQ.out, HNO.out]; rfl, HMV.out.alloc _⟩
      | some c0 =>
        rw [hown] at hc2
        simp only [Option.isSome_some] at hc2
        have ho := HOW.out
        rw [hown] at ho
        simp only [Option.getD_some] at ho
        subst ho
        have HTK := Aside0.mk (show (ps.map (fun p => p.own.getD 0)).take (k + 1) = (ps.map (fun p => p.own.getD 0)).take k ++ [c0] from GlobS.take_snoc' (by rw [List.getElem?_map, HPP.out]; simp [hown]))
        have HYES2 := Aside0.mk (show ∀ j p, j < k + 1 → ps[j]? = some p → p.own.isSome = true from fun j p' hj hp' => by
          by_cases e : j = k
          · subst e; rw [HPP.out, Option.some.injEq] at hp'; rw [← hp', hown]; rfl
          · exact HYES.out j p' (by omega) hp')
        have HBW := Aside0.mk (HBL.out.mv ((Mv.refl (fun _ => False) wr).alloc (.cells #[.pointer pp, .bool any, .bool true, .int .u8 c0.toNat] 87)) id (fun _ _ => id))
        have HMW := Aside0.mk (HMV.out.alloc (.cells #[.pointer pp, .bool any, .bool true, .int .u8 c0.toNat] 87))
        have HPW := Aside0.mk (HPT.out.below ((Mv.refl (fun _ => False) wr).alloc (.cells #[.pointer pp, .bool any, .bool true, .int .u8 c0.toNat] 87)))
        have e9 : wrap64 ((k : Int) + 1) = ((k + 1 : Nat) : Int) := by have := HBD.out; have := HCK.out; unfold wrap64; omega
        clear HYES HBL HMV HPT HOW
        go_wp2_with fail
        refine (HBW.out.writeByte c0 (by rw [List.length_take]; have := HBD.out; have := HCK.out; omega)).mono ?_
        rintro e w5 ⟨rfl, v5, hbl5, ho5, hm5⟩
        have HBL5 := Aside0.mk hbl5
        have HM5 := Aside0.mk (HMW.out.trans hm5 (fun i hi h => by
          rcases h with h | h
          · have := HBB.out; omega
          · have := (World.ownsRow.lt HBW.out.row i h).1; have := HBB.out; omega))
        have HP5 := Aside0.mk (PatAt_bl HPW.out HBW.out hm5)
        clear hbl5 ho5 hm5 HBW HMW HPW
        go_wp2
        go_roundg (rs.length - (k + 1) + 1)
        case measure => have := HKQ.out; have := HCK.out; omega
        case rel => exact ⟨k + 1, v5, by first | rfl | rw [e9], ⟨HCK.out⟩, ⟨by omega⟩, HYES2, ⟨by rw [HTK.out]; exact HBL5.out⟩, HP5, HM5⟩
    · have e2 := eq_false ck
      have hk : k = rs.length := by have := HK.out; omega
      have HALL := Aside0.mk (show GlobS.plainR ps = (⟨(ps.map (fun p => p.own.getD 0)).toArray⟩, true) from GlobS.plainR_yes (fun p hp => by
        obtain ⟨j, hj⟩ := List.mem_iff_getElem?.1 hp
        exact HYES.out j p (by have := (List.getElem?_eq_some_iff.1 hj).1; have := HNL.out; omega) hj))
      have HTK := Aside0.mk (show (ps.map (fun p => p.own.getD 0)).take k = ps.map (fun p => p.own.getD 0) from List.take_of_length_le (by have := HNL.out; rw [List.length_map]; omega))
      clear ck hk
      have AS := Aside0.mk HBL.out.string
      go_wp2_with fail
      refine AS.out.mono ?_
      rintro e w5 ⟨rfl, hm5⟩
      have HM5 := Aside0.mk (HMV.out.trans hm5 (fun i hi h => by have := (World.ownsRow.lt HBL.out.row i h).1; have := HBB.out; omega))
      clear hm5
      go_wp2
      go_ret2
      exact ⟨by rw [HQ.out, HALL.out]; simp only [HTK.out]; rfl, HM5.out⟩

/-! ### gonglaw13_GlobEscape: function 5 -/
set_option maxHeartbeats 4000000 in
set_option maxRecDepth 100000 in
theorem gonglaw13_GlobEscape.calls (s t : ByteArray) (w : World) :
    Calls Try.prog 5 #[.string s, .string t] w fun e w' => e = .returned (.bool true) ∧ Below w.heap.size w w' := by
  go_enter Try.func5, Try.ntmps5
  go_wp2_with fail
  refine (gonglaw13_works.calls w).mono ?_
  rintro e w1 ⟨rfl, hm1⟩
  have HM1 := Aside0.mk hm1
  clear hm1
  by_cases c1 : s.size > 600
  · have e1 : decide ((s.size : Int) > 600) = true := decide_eq_true (by omega)
    have e1' : decide (600 < s.size) = true := decide_eq_true (by omega)
    have e1'' := eq_true c1
    clear c1
    go_wp2
    go_ret
    exact ⟨rfl, HM1.out.below (Nat.le_refl _) (fun _ h => h.elim)⟩
  have e1 : decide ((s.size : Int) > 600) = false := decide_eq_false (by omega)
  have e1'' := eq_false c1
  have C1 := Aside0.mk c1
  clear c1
  by_cases c2 : t.size > 600
  · have e2 : decide ((t.size : Int) > 600) = true := decide_eq_true (by omega)
    have e2'' := eq_true c2
    clear c2
    go_wp2
    go_ret
    exact ⟨rfl, HM1.out.below (Nat.le_refl _) (fun _ h => h.elim)⟩
  have e2 : decide ((t.size : Int) > 600) = false := decide_eq_false (by omega)
  have e2'' := eq_false c2
  have C2 := Aside0.mk c2
  clear c2
  go_wp2_with fail
  refine (glob_Escape.calls s w1 (by have := C1.out; omega)).mono ?_
  rintro e w2 ⟨rfl, hm2⟩
  have HM2 := Aside0.mk (HM1.out.trans hm2 (fun _ _ h => h))
  clear hm2 e1 e1'' e2 e2''
  obtain ⟨p, hp⟩ : ∃ p, p = Bz (GlobS.escL s.data.toList) := ⟨_, rfl⟩
  rw [← hp]
  have HP := Aside0.mk (show GlobS.parseL p.data.toList = some (s.data.toList.map GlobS.lit) by rw [hp, show (Bz (GlobS.escL s.data.toList)).data.toList = GlobS.escL s.data.toList from rfl]; exact GlobS.parse_esc _)
  clear hp
  go_wp2_with fail
  refine (glob_Match.calls p s w2 (by have := C1.out; omega)).mono ?_
  rintro e w3 ⟨rfl, hm3⟩
  have HM3 := Aside0.mk (HM2.out.trans hm3 (fun _ _ h => h))
  clear hm3
  by_cases c3 : 256 < p.size
  · rw [GlobS.mr_long c3]
    have C3 := Aside0.mk c3
    clear c3
    go_wp2_with fail
    refine (glob_Match.calls p t w3 (by have := C2.out; omega)).mono ?_
    rintro e w4 ⟨rfl, hm4⟩
    have HM4 := Aside0.mk (HM3.out.trans hm4 (fun _ _ h => h))
    clear hm4
    rw [GlobS.mr_long C3.out]
    have e3 := eq_true C3.out
    have e3' : decide ((p.size : Int) > 256) = true := decide_eq_true (by have := C3.out; omega)
    have e3'' := eq_false (show ¬ (p.size : Int) ≤ 256 by have := C3.out; omega)
    go_wp2
    go_ret
    exact ⟨rfl, HM4.out.below (Nat.le_refl _) (fun _ h => h.elim)⟩
  have C3 := Aside0.mk (Nat.not_lt.1 c3)
  rw [GlobS.mr_ok C3.out HP.out, GlobS.mt_lits]
  clear c3
  go_wp2_with fail
  refine (glob_Match.calls p t w3 (by have := C2.out; omega)).mono ?_
  rintro e w4 ⟨rfl, hm4⟩
  have HM4 := Aside0.mk (HM3.out.trans hm4 (fun _ _ h => h))
  clear hm4
  rw [GlobS.mr_ok C3.out HP.out, GlobS.mt_lits]
  obtain ⟨qt, hqt⟩ : ∃ qt, qt = (s.data.toList == t.data.toList) := ⟨_, rfl⟩
  rw [← hqt]
  have HQT := Aside0.mk hqt
  clear hqt
  have e3 := eq_false (show ¬ 256 < p.size by have := C3.out; omega)
  have e3' : decide ((p.size : Int) > 256) = false := decide_eq_false (by have := C3.out; omega)
  have e3'' := eq_true (show (p.size : Int) ≤ 256 by have := C3.out; omega)
  go_wp2_with fail
  refine (glob_Parse.calls p w4).mono ?_
  rintro e w5 ⟨hpr, hm5⟩
  have HM5 := Aside0.mk (HM4.out.trans hm5 (fun _ _ h => h))
  clear hm5
  rcases hpr with ⟨h1, _⟩ | ⟨_, h2, _⟩ | ⟨_, gc, vc, rc, pc, hpc, rfl, htc, hlc⟩
  · have := C3.out; omega
  · rw [HP.out] at h2
    simp at h2
  rw [HP.out, Option.some.injEq] at hpc
  subst hpc
  have HTC := Aside0.mk htc
  have HLC := Aside0.mk (show rc.length ≤ 1000 by have := C3.out; omega)
  clear htc hlc
  go_wp2_with fail
  refine (glob_Pattern_Plain.calls gc _ p vc rc _ w5 HTC.out HLC.out).mono ?_
  rintro e w6 ⟨rfl, hm6⟩
  have HM6 := Aside0.mk (HM5.out.trans hm6 (fun _ _ h => h))
  clear hm6
  rw [GlobS.plain_lits]
  have hs : (⟨s.data.toList.toArray⟩ : ByteArray) = s := by cases s; simp
  rw [hs]
  clear hs
  by_cases hst : s = t
  · subst hst
    obtain rfl : qt = true := by rw [HQT.out]; simp
    go_wp2
    go_ret
    exact ⟨by simp, HM6.out.below (Nat.le_refl _) (fun _ h => h.elim)⟩
  · obtain rfl : qt = false := by rw [HQT.out, beq_eq_false_iff_ne]; intro h; exact hst (by cases s; cases t; simp at h; simp [h])
    have h2 : (s.toList == t.toList) = false := by have := HQT.out; rw [Go.ByteArray.toList_eq, Go.ByteArray.toList_eq, ← this]
    have h4 := eq_false hst
    go_wp2
    go_ret
    exact ⟨by simp, HM6.out.below (Nat.le_refl _) (fun _ h => h.elim)⟩

end Go.Proofs.Yteidlffajcogcaa.XGlE
