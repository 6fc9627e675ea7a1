-- Laid by extprint.py (the session's own driver): functions told by the kit's printer and by hand.
import Derived.Test.YteidlffajcogcaaXGlSx0
import Derived.Test.YteidlffajcogcaaXGlSx1
import Derived.Test.YteidlffajcogcaaXGlSx2
namespace Go.Proofs.Yteidlffajcogcaa.XGlS
open Go.RowKit Gong Go.Proofs.YteidlffajcogcaaW.PrintWords Go.Proofs.YteidlffajcogcaaW.PrintLast Go.Proofs.YteidlffajcogcaaW.PrintMore
attribute [local go_sem] max2_int min2_int max_two min_two max_three min_three max_four min_four   -- for this text's walks alone
set_option linter.unusedVariables false
set_option linter.unusedSimpArgs false

/-! ### glob_Escape: function 20 -/
set_option maxHeartbeats 4000000 in
set_option maxRecDepth 100000 in
theorem glob_Escape.calls (s : ByteArray) (w : World) (hs : s.size ≤ 1000) :
    Calls Try.prog 20 #[.string s] w fun e w' => e = .returned (.string (Bz (GlobS.escL s.data.toList))) ∧ Mv (fun _ => False) w w' := by
  have HS := Aside0.mk hs
  clear hs
  obtain ⟨l, hl⟩ : ∃ l, l = s.data.toList := ⟨_, rfl⟩
  have HLL := Aside0.mk (show l.length = s.size by rw [hl]; simp)
  have hconv := fun (s : ByteArray) (W : World) => Lib.run_convert_string_bytes (P := Try.prog) W 9 91 5 s Try.underlying9 Try.underlying91 Try.underlying5
  rw [← hl]
  go_enter Try.func20, Try.ntmps20
  go_wp2
  obtain ⟨w1, hw1⟩ : ∃ w1, w1 = w.alloc (.cells #[.pointer none, .slice none 0 0] 93) := ⟨_, rfl⟩
  obtain ⟨w2, hw2⟩ : ∃ w2, w2 = Lib.bytesWorld w1 5 s := ⟨_, rfl⟩
  have hbel : Below w1.heap.size w1 w2 := by rw [hw2]; exact bytes_below (Below.refl _ _) (Nat.le_refl _) 5 s
  have HBL := Aside0.mk (show Bl w2 w.heap.size w.heap.size (.slice none 0 0) [] from (show Bl w1 w.heap.size w.heap.size (.slice none 0 0) [] by rw [hw1]; exact Bl.new w w.heap.size (Nat.le_refl _)).keep hbel)
  have HMV := Aside0.mk (show Mv (fun _ => False) w w2 from (show Mv (fun _ => False) w w1 by rw [hw1]; exact (Mv.refl _ w).alloc _).then_below hbel)
  have HSZ := Aside0.mk (show w1.heap.size = w.heap.size + 1 by rw [hw1]; simp)
  have HCV := Aside0.mk (show ∃ cs fr, w2.heap[w1.heap.size]? = some (.cells cs 5 fr) ∧ ∀ (j : Nat) (c : UInt8), l[j]? = some c → cs[j]? = some (Value.int .u8 c.toNat) by
    rw [hw2, hl]
    refine ⟨_, _, Lib.bytesWorld_at_new w1 5 s, fun j c hj => ?_⟩
    have hj2 : j < s.size := by simpa using (List.getElem?_eq_some_iff.1 hj).1
    have := Lib.bytesWorld_cell w1 5 s j hj2
    rw [cell_of_row _ _ _ _ _ _ (Lib.bytesWorld_at_new w1 5 s)] at this
    rw [this, List.getD_eq_getElem?_getD, hj]
    rfl)
  rw [HSZ.out] at HCV
  rw [← hw1, ← hw2]
  obtain ⟨gcap, hgcap⟩ : ∃ gcap, gcap = grownCap w1 s.size 0 5 := ⟨_, rfl⟩
  rw [← hgcap]
  obtain ⟨gc, hgc⟩ : ∃ gc, gc = w.heap.size + 1 := ⟨_, rfl⟩
  obtain ⟨b, hb⟩ : ∃ b, b = w.heap.size := ⟨_, rfl⟩
  rw [← hgc] at HCV ⊢
  rw [← hb] at HBL ⊢
  have HBB := Aside0.mk hb
  have HGB := Aside0.mk (show gc = b + 1 by rw [hgc, hb])
  obtain ⟨cs, fr, hcv, hcs⟩ := HCV.out
  have HCS := Aside0.mk hcs
  have HC0 := Aside0.mk hcv
  have HL := Aside0.mk hl
  clear hw1 hw2 hbel hgc hb hgcap HCV hcs hcv hl HSZ
  go_loopg [9] (s.size + 2) (fun kq v9 W => ∃ (k : Nat) (bv : Value), v9 = .int .i64 k ∧ Aside0 (k ≤ s.size) ∧ Aside0 (s.size - k < kq) ∧ Aside0 (Bl W b b bv (GlobS.escL (l.take k))) ∧ Aside0 (∀ q, bv.ownBlock = some q → gc < q) ∧ Aside0 (W.heap[gc]? = some (.cells cs 5 fr)) ∧ Aside0 (Mv (fun _ => False) w W))
  case atStart => exact ⟨0, _, rfl, ⟨Nat.zero_le _⟩, ⟨by omega⟩, HBL, ⟨fun q h => by simp [Value.ownBlock] at h⟩, HC0, HMV⟩
  case round =>
    clear HBL HC0 HMV
    obtain ⟨k, bv, rfl, HK, HKQ, HBL, HOW, HC0, HMV⟩ := hrel
    by_cases ck : k < s.size
    · have e2 := eq_true ck
      obtain ⟨c, hc⟩ : ∃ c, l[k]? = some c := ⟨_, List.getElem?_eq_getElem (by have := HLL.out; omega)⟩
      have hcell := (cell_of_row wr gc k cs 5 fr HC0.out).trans (HCS.out k c hc)
      have HC := Aside0.mk hc
      have HCK := Aside0.mk ck
      have HTK := Aside0.mk (GlobS.esc_take hc)
      have hcl := c.toNat_lt
      have e9 : wrap64 ((k : Int) + 1) = ((k + 1 : Nat) : Int) := by have := HS.out; have := HCK.out; unfold wrap64; omega
      clear hc ck
      have hsp := GlobS.spec_ix c
      cases hspc : GlobS.special c with
      | true =>
        have HEB := Aside0.mk (show GlobS.escB c = [92, c] by unfold GlobS.escB; rw [if_pos hspc])
        rw [hspc] at hsp
        have hsp2 := eq_true (of_decide_eq_true hsp)
        go_wp2_with (go_at_call 51; refine (Try.strings_IndexByte _ _ _).mono ?_; rintro e w5 ⟨rfl, rfl⟩)
        clear hsp hsp2 hspc
        go_wp2_with fail
        refine (HBL.out.writeByte 92 (by have := GlobS.esc_len (l.take k); rw [List.length_take] at this; have := HS.out; have := HCK.out; omega)).mono ?_
        rintro e w6 ⟨rfl, v6, hbl6, ho6, hm6⟩
        have HBL6 := Aside0.mk hbl6
        have HOW6 := Aside0.mk (show ∀ q, v6.ownBlock = some q → gc < q from fun q hq => by
          rcases ho6 q hq with h | h
          · exact HOW.out q h
          · have := (Array.getElem?_eq_some_iff.1 HC0.out).1; omega)
        have HM6 := Aside0.mk (HMV.out.trans hm6 (fun i hi h => by
          rcases h with h | h
          · have := HBB.out; omega
          · have := (World.ownsRow.lt HBL.out.row i h).1; have := HBB.out; omega))
        have HMV6 := HM6
        have HC06 := Aside0.mk (hm6.heap HC0.out (fun h => by
          rcases h with h | h
          · have := HGB.out; omega
          · have := HOW.out gc h; omega))
        clear hbl6 ho6 hm6
        go_wp2_with fail
        refine (HBL6.out.writeByte c (by have := GlobS.esc_len (l.take k); rw [List.length_take] at this; rw [List.length_append, List.length_singleton]; have := HS.out; have := HCK.out; omega)).mono ?_
        rintro e w7 ⟨rfl, v7, hbl7, ho7, hm7⟩
        have HBL7 := Aside0.mk hbl7
        have HOW7 := Aside0.mk (show ∀ q, v7.ownBlock = some q → gc < q from fun q hq => by
          rcases ho7 q hq with h | h
          · exact HOW6.out q h
          · have := (Array.getElem?_eq_some_iff.1 HC06.out).1; omega)
        have HM7 := Aside0.mk (HMV6.out.trans hm7 (fun i hi h => by
          rcases h with h | h
          · have := HBB.out; omega
          · have := (World.ownsRow.lt HBL6.out.row i h).1; have := HBB.out; omega))
        have HMV7 := HM7
        have HC07 := Aside0.mk (hm7.heap HC06.out (fun h => by
          rcases h with h | h
          · have := HGB.out; omega
          · have := HOW6.out gc h; omega))
        clear hbl7 ho7 hm7
        go_wp2
        go_roundg (s.size - (k + 1) + 1)
        case measure => have := HKQ.out; have := HCK.out; omega
        case rel => exact ⟨k + 1, v7, by first | rfl | rw [e9], ⟨HCK.out⟩, ⟨by omega⟩, ⟨by rw [HTK.out, HEB.out]; simpa using HBL7.out⟩, HOW7, HC07, HMV7⟩
      | false =>
        have HEB := Aside0.mk (show GlobS.escB c = [c] by unfold GlobS.escB; rw [if_neg (by rw [hspc]; simp)])
        rw [hspc] at hsp
        have hsp2 := eq_false (of_decide_eq_false hsp)
        go_wp2_with (go_at_call 51; refine (Try.strings_IndexByte _ _ _).mono ?_; rintro e w5 ⟨rfl, rfl⟩)
        clear hsp hsp2 hspc
        go_wp2_with fail
        refine (HBL.out.writeByte c (by have := GlobS.esc_len (l.take k); rw [List.length_take] at this; have := HS.out; have := HCK.out; omega)).mono ?_
        rintro e w6 ⟨rfl, v6, hbl6, ho6, hm6⟩
        have HBL6 := Aside0.mk hbl6
        have HOW6 := Aside0.mk (show ∀ q, v6.ownBlock = some q → gc < q from fun q hq => by
          rcases ho6 q hq with h | h
          · exact HOW.out q h
          · have := (Array.getElem?_eq_some_iff.1 HC0.out).1; omega)
        have HM6 := Aside0.mk (HMV.out.trans hm6 (fun i hi h => by
          rcases h with h | h
          · have := HBB.out; omega
          · have := (World.ownsRow.lt HBL.out.row i h).1; have := HBB.out; omega))
        have HMV6 := HM6
        have HC06 := Aside0.mk (hm6.heap HC0.out (fun h => by
          rcases h with h | h
          · have := HGB.out; omega
          · have := HOW.out gc h; omega))
        clear hbl6 ho6 hm6
        go_wp2
        go_roundg (s.size - (k + 1) + 1)
        case measure => have := HKQ.out; have := HCK.out; omega
        case rel => exact ⟨k + 1, v6, by first | rfl | rw [e9], ⟨HCK.out⟩, ⟨by omega⟩, ⟨by rw [HTK.out, HEB.out]; simpa using HBL6.out⟩, HOW6, HC06, HMV6⟩
    · have e2 := eq_false ck
      have hk : k = s.size := by have := HK.out; omega
      have HTK := Aside0.mk (show l.take k = l from List.take_of_length_le (by have := HLL.out; omega))
      clear ck hk
      have AS := Aside0.mk HBL.out.string
      go_wp2_with fail
      refine AS.out.mono ?_
      rintro e w5 ⟨rfl, hm5⟩
      have HM5 := Aside0.mk (HMV.out.trans hm5 (fun i hi h => by have := (World.ownsRow.lt HBL.out.row i h).1; have := HBB.out; omega))
      clear hm5
      go_wp2
      go_ret
      exact ⟨by rw [HTK.out]; rfl, HM5.out⟩

/-! ### strings_Repeat: function 38 -/
def strings_Repeat.f (a0 : ByteArray) (a1 : Int) : Option ByteArray :=
  if 0 ≤ a1 ∧ a1 ≤ 9223372036854775807 ∧ a0.size * a1.toNat ≤ 140737488355328 then some ⟨(Lib.repeatL a0.data.toList a1.toNat).toArray⟩ else none
theorem strings_Repeat.calls (a0 : ByteArray) (a1 : Int) (r : ByteArray) (w : World) (h : strings_Repeat.f a0 a1 = some r) :
    Calls Try.prog 38 #[.string a0, .int .i64 a1] w fun e w' => e = .returned (.string r) ∧ Below w.heap.size w w' := by
  unfold strings_Repeat.f at h
  by_cases hc : 0 ≤ a1 ∧ a1 ≤ 9223372036854775807 ∧ a0.size * a1.toNat ≤ 140737488355328
  · rw [if_pos hc] at h
    obtain rfl := Option.some.inj h
    obtain ⟨n, rfl⟩ := Int.eq_ofNat_of_zero_le hc.1
    exact Try.strings_Repeat a0 n w (by omega) (by simpa using hc.2.2)
  · rw [if_neg hc] at h
    exact absurd h (by simp)

/-! ### strings_Contains: function 48 -/

/-! ### gonglaw13_GlobStars: function 12 -/
set_option maxHeartbeats 4000000 in
set_option maxRecDepth 100000 in
theorem gonglaw13_GlobStars.calls (a0 : Int) (s part : ByteArray) (w : World) (hml : ∃ m, w.cell? ⟨0, 0, none⟩ = some (.int .i64 m)) :
    Calls Try.prog 12 #[.int .i64 a0, .string s, .string part] w fun e w' => e = .returned (.bool true) ∧ Below w.heap.size w w' := by
  obtain ⟨ml, hml⟩ := hml
  have HML := Aside0.mk hml
  have HW0 := Aside0.mk (show 0 < w.heap.size from World.block_lt_of_cell? w _ hml)
  clear hml
  go_enter Try.func12, Try.ntmps12
  go_wp2_with fail
  refine (gonglaw13_works.calls w).mono ?_
  rintro e w1 ⟨rfl, hm1⟩
  have HM1 := Aside0.mk hm1
  clear hm1
  by_cases c1 : s.size > 200
  · have e1 : decide ((s.size : Int) > 200) = true := decide_eq_true (by omega)
    have e1'' := eq_true c1
    clear c1
    go_wp2
    go_ret
    exact ⟨rfl, HM1.out.below (Nat.le_refl _) (fun _ h => h.elim)⟩
  have e1 : decide ((s.size : Int) > 200) = false := decide_eq_false (by omega)
  have e1'' := eq_false c1
  have C1 := Aside0.mk c1
  clear c1
  by_cases c2 : part.size > 100
  · have e2 : decide ((part.size : Int) > 100) = true := decide_eq_true (by omega)
    have e2'' := eq_true c2
    clear c2
    go_wp2
    go_ret
    exact ⟨rfl, HM1.out.below (Nat.le_refl _) (fun _ h => h.elim)⟩
  have e2 : decide ((part.size : Int) > 100) = false := decide_eq_false (by omega)
  have e2'' := eq_false c2
  have C2 := Aside0.mk c2
  clear c2
  obtain ⟨n, hn, hlt⟩ : ∃ n : Nat, gongbook_Below.f a0 200 = some (n : Int) ∧ n < 200 := by
    have h1 := Int.tmod_lt_of_pos a0 (show (0 : Int) < 200 by decide)
    have h2 : -200 < Int.tmod a0 200 := by
      rcases Int.le_total 0 a0 with h | h
      · have := Int.tmod_nonneg 200 h; omega
      · have h3 := Int.tmod_lt_of_pos (-a0) (show (0 : Int) < 200 by decide)
        rw [Int.neg_tmod] at h3
        omega
    have hw : wrap64 (Int.tmod a0 200 + 200) = Int.tmod a0 200 + 200 := by unfold wrap64; omega
    have h4 : 0 ≤ Int.tmod (Int.tmod a0 200 + 200) 200 := Int.tmod_nonneg _ (by omega)
    have h5 := Int.tmod_lt_of_pos (Int.tmod a0 200 + 200) (show (0 : Int) < 200 by decide)
    refine ⟨(Int.tmod (Int.tmod a0 200 + 200) 200).toNat, ?_, by omega⟩
    unfold gongbook_Below.f
    rw [if_neg (by decide), hw, Int.toNat_of_nonneg h4]
  have HN := Aside0.mk hlt
  have HF := Aside0.mk hn
  clear hn
  go_wp2_with fail
  refine (gongbook_Below.calls a0 200 _ w1 HF.out).mono ?_
  rintro e w2 ⟨rfl, hd2⟩
  have HM2 := Aside0.mk (HM1.out.then_below hd2.below)
  clear hd2 HF e1 e1'' e2 e2''
  have e9 : wrap64 (1 + (n : Int)) = ((n + 1 : Nat) : Int) := by have := HN.out; unfold wrap64; omega
  have e8 : 1 + (n : Int) = ((n + 1 : Nat) : Int) := by omega
  go_wp2_with fail
  have hr1 : strings_Repeat.f ⟨#[42]⟩ ((n : Int) + 1) = some ⟨(Lib.repeatL [42] (n + 1)).toArray⟩ := by
    unfold strings_Repeat.f
    rw [if_pos ⟨by omega, by have := HN.out; omega, by have := HN.out; show 1 * ((n : Int) + 1).toNat ≤ _; omega⟩]
    rw [show ((n : Int) + 1).toNat = n + 1 by omega]
  have hr2 : strings_Repeat.f ⟨#[63]⟩ (n : Int) = some ⟨(Lib.repeatL [63] n).toArray⟩ := by
    unfold strings_Repeat.f
    rw [if_pos ⟨by omega, by have := HN.out; omega, by have := HN.out; show 1 * (n : Int).toNat ≤ _; omega⟩]
    rw [show (n : Int).toNat = n by omega]
  have HR1 := Aside0.mk hr1
  have HR2 := Aside0.mk hr2
  clear hr1 hr2
  refine (strings_Repeat.calls _ _ _ w2 HR1.out).mono ?_
  rintro e w3 ⟨rfl, hb3⟩
  have HM3 := Aside0.mk (HM2.out.then_below hb3)
  clear hb3 HR1
  obtain ⟨p1, hp1⟩ : ∃ p, p = (⟨(Lib.repeatL [42] (n + 1)).toArray⟩ : ByteArray) := ⟨_, rfl⟩
  rw [← hp1]
  have HP1 := Aside0.mk hp1
  clear hp1
  go_wp2_with fail
  refine (glob_Match.calls p1 s w3 (by have := C1.out; omega)).mono ?_
  rintro e w4 ⟨rfl, hm4⟩
  have HM4 := Aside0.mk (HM3.out.trans hm4 (fun _ _ h => h))
  clear hm4
  rw [HP1.out, GlobS.mr_stars n s (by have := HN.out; omega)]
  clear HP1
  go_wp2_with fail
  refine (strings_Repeat.calls _ _ _ w4 HR2.out).mono ?_
  rintro e w5 ⟨rfl, hb5⟩
  have HM5 := Aside0.mk (HM4.out.then_below hb5)
  clear hb5 HR2
  obtain ⟨p2, hp2⟩ : ∃ p, p = (⟨(Lib.repeatL [63] n).toArray⟩ : ByteArray) := ⟨_, rfl⟩
  rw [← hp2]
  have HP2 := Aside0.mk hp2
  clear hp2
  go_wp2_with fail
  refine (glob_Match.calls p2 s w5 (by have := C1.out; omega)).mono ?_
  rintro e w6 ⟨rfl, hm6⟩
  have HM6 := Aside0.mk (HM5.out.trans hm6 (fun _ _ h => h))
  clear hm6
  rw [HP2.out, GlobS.mr_marks n s (by have := HN.out; omega)]
  clear HP2
  obtain ⟨qm, hqm⟩ : ∃ q, q = decide (s.size = n) := ⟨_, rfl⟩
  rw [← hqm]
  have HQM := Aside0.mk hqm
  clear hqm
  go_wp2_with fail
  refine (glob_Escape.calls part w6 (by have := C2.out; omega)).mono ?_
  rintro e w7 ⟨rfl, hm7⟩
  have HM7 := Aside0.mk (HM6.out.trans hm7 (fun _ _ h => h))
  clear hm7
  obtain ⟨q7, hq7⟩ : ∃ q, q = Bz (GlobS.escL part.data.toList) := ⟨_, rfl⟩
  rw [← hq7]
  have HQ7 := Aside0.mk (show q7.data.toList = GlobS.escL part.data.toList by rw [hq7]; rfl)
  have HS7 := Aside0.mk (show q7.size ≤ 200 by rw [hq7, Bz_size]; have := GlobS.esc_len part.data.toList; have e : part.data.toList.length = part.size := by simp
                                               have := C2.out; omega)
  clear hq7
  have f1 : (9223372036854775807 < 1 + q7.size) = False := eq_false (by have := HS7.out; omega)
  have f1' : (1 + q7.size ≤ 9223372036854775807) = True := eq_true (by have := HS7.out; omega)
  have f2 : (9223372036854775807 < 1 + q7.size + 1) = False := eq_false (by have := HS7.out; omega)
  have f2' : (1 + q7.size + 1 ≤ 9223372036854775807) = True := eq_true (by have := HS7.out; omega)
  have f3 : (q7.size ≤ 9223372036854775805) = True := eq_true (by have := HS7.out; omega)
  have f4 : (q7.size ≤ 9223372036854775806) = True := eq_true (by have := HS7.out; omega)
  go_wp2_with fail
  clear f1 f1' f2 f2' f3 f4
  obtain ⟨p3, hp3⟩ : ∃ p, p = (⟨#[42]⟩ ++ q7 ++ ⟨#[42]⟩ : ByteArray) := ⟨_, rfl⟩
  rw [← hp3]
  have HP3 := Aside0.mk (show p3.data.toList = [42] ++ GlobS.escL part.data.toList ++ [42] by rw [hp3, ← HQ7.out]; simp)
  clear hp3
  refine (glob_Match.calls p3 s w7 (by have := C1.out; omega)).mono ?_
  rintro e w8 ⟨rfl, hm8⟩
  have HM8 := Aside0.mk (HM7.out.trans hm8 (fun _ _ h => h))
  clear hm8
  rw [GlobS.mr_held part.data.toList p3 s HP3.out (by have := C2.out; have e : part.data.toList.length = part.size := by simp
                                                      omega)]
  have hcell : w8.cell? ⟨0, 0, none⟩ = some (.int .i64 ml) := ((HM8.out.below (B := w.heap.size) (Nat.le_refl _) (fun _ h => h.elim)).cell (p := ⟨0, 0, none⟩) HW0.out).trans HML.out
  have HCC := Aside0.mk (Try.strings_Contains s part ml w8 (by have := C1.out; omega) hcell)
  obtain ⟨qc, hqc⟩ : ∃ q, q = Lib.contains s.data.toList part.data.toList := ⟨_, rfl⟩
  rw [← hqc] at HCC ⊢
  clear hqc hcell
  have g1 : ((s.size : Int) == (n : Int)) = qm := by rw [HQM.out, Bool.eq_iff_iff, beq_iff_eq, decide_eq_true_iff]; omega
  have g2 : (s.size == n) = qm := by rw [HQM.out, Bool.eq_iff_iff, beq_iff_eq, decide_eq_true_iff]
  have g3 : decide (s.size = n) = qm := HQM.out.symm
  cases qm with
  | true =>
    have g4 : (s.size = n) = True := eq_true (of_decide_eq_true g3)
    clear g3
    go_wp2_with (go_at_call 48; refine (HCC.out).mono ?_; rintro e w' ⟨rfl, rfl⟩)
    go_ret
    exact ⟨by simp, HM8.out.below (Nat.le_refl _) (fun _ h => h.elim)⟩
  | false =>
    have g4 : (s.size = n) = False := eq_false (of_decide_eq_false g3)
    clear g3
    go_wp2_with (go_at_call 48; refine (HCC.out).mono ?_; rintro e w' ⟨rfl, rfl⟩)
    go_ret
    exact ⟨by simp, HM8.out.below (Nat.le_refl _) (fun _ h => h.elim)⟩

end Go.Proofs.Yteidlffajcogcaa.XGlS
