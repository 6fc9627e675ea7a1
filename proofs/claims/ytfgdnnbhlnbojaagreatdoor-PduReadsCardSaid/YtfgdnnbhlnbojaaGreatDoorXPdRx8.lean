-- Laid by extprint.py (the session's own driver): functions told by the kit's printer and by hand.
import Derived.Test.YtfgdnnbhlnbojaaGreatDoorXPdRx0
import Derived.Test.YtfgdnnbhlnbojaaGreatDoorXPdRx5
import Derived.Test.YtfgdnnbhlnbojaaGreatDoorXPdRx6
import Derived.Test.YtfgdnnbhlnbojaaGreatDoorXPdRx7
namespace Go.Proofs.YtfgdnnbhlnbojaaGreatDoor.XPdR
open Go.RowKit Gong Go.Proofs.YtfgdnnbhlnbojaaGreatDoorW.PrintWords Go.Proofs.YtfgdnnbhlnbojaaGreatDoorW.PrintLast Go.Proofs.YtfgdnnbhlnbojaaGreatDoorW.PrintMore
attribute [local go_sem] max2_int min2_int max_two min_two max_three min_three max_four min_four   -- for this text's walks alone
set_option linter.unusedVariables false
set_option linter.unusedSimpArgs false
attribute [local go_sem high] eqA30
def pdu_Encode.go (k : Nat) : List S30 → List UInt8 → Option (Option (List UInt8))
 | [], acc => some (some acc)
 | b :: l, acc => (pdu_bind.f k b.f0 b.f1.f0 b.f1.f1 b.f1.f2).bind fun s => if acc.length + s.size ≤ 1000000000 then (if 65536 < acc.length + s.size then some none else pdu_Encode.go k l (acc ++ s.data.toList)) else none
def pdu_Encode.cat (a b : ByteArray) : Option ByteArray := if a.size + b.size ≤ 1000000000 then some (a ++ b) else none
def pdu_Encode.nums (k : Nat) : List Int → ByteArray → Option ByteArray
 | [], y => some y
 | n :: ns, y => (ber_PutNumber.f k n).bind fun p => (pdu_wrap.f k 2 p).bind fun e => (pdu_Encode.cat y e).bind fun z => pdu_Encode.nums k ns z
def pdu_Encode.tail (k : Nat) (a0 : Int) (y : ByteArray) (acc : List UInt8) : Option (ByteArray × Int) :=
 (pdu_wrap.f k 48 ⟨acc.toArray⟩).bind fun s1 => (pdu_Encode.cat y s1).bind fun z => (pdu_wrap.f k a0 z).bind fun s => if 65536 < s.size then some (⟨#[]⟩, 2) else some (s, 0)
def pdu_Encode.rest (k : Nat) (a0 a1 a2 a3 : Int) : Option (List UInt8) → Option (ByteArray × Int)
 | none => some (⟨#[]⟩, 2)
 | some acc => (pdu_Encode.nums k [a1, a2, a3] ⟨#[]⟩).bind fun y => pdu_Encode.tail k a0 y acc
def pdu_Encode.f (k : Nat) (a0 a1 a2 a3 : Int) (l : List S30) : Option (ByteArray × Int) :=
 (pdu_Check.f k a0 a1 a2 a3 l).bind fun c => if c = 0 then (pdu_Encode.go k l []).bind fun o => pdu_Encode.rest k a0 a1 a2 a3 o else some (⟨#[]⟩, c)
set_option maxHeartbeats 8000000 in
set_option maxRecDepth 100000 in
theorem pdu_Encode.calls (k : Nat) (a0_0 : Int) (a0_1 : Int) (a0_2 : Int) (a0_3 : Int) (A0_4 : Option Addr) (c0_4 : Nat) (l0_4 : List (S30)) (r1 : ByteArray) (r2 : Int) (w : World) (hG : Gl w) (hr0_4 : Kd.C k30 w A0_4 l0_4.length l0_4) (hc0_4 : l0_4.length ≤ c0_4) (h : pdu_Encode.f k a0_0 a0_1 a0_2 a0_3 l0_4 = some (r1, r2)) :
  Calls Tryz.prog 7 #[.agg #[.int .i64 a0_0, .int .i64 a0_1, .int .i64 a0_2, .int .i64 a0_3, .slice A0_4 l0_4.length c0_4]] w fun e w' => e = .returned (.tuple #[.string r1, .int .i64 r2]) ∧ Below w.heap.size w w' := by
 have HGl := Aside0.mk hG
 have HR0 := Aside0.mk hr0_4
 have HC0 := Aside0.mk hc0_4
 have HLN := Aside0.mk hr0_4.2.1
 unfold pdu_Encode.f at h
 obtain ⟨c, hck, h⟩ := Option.bind_eq_some_iff.1 h
 have HCK := Aside0.mk hck
 clear hG hr0_4 hc0_4 hck
 go_enter Tryz.func7, Tryz.ntmps7
 go_wp2_with fail
 obtain ⟨w1, hw1⟩ : ∃ w1, w1 = w.alloc (.cells #[.int .i64 a0_0, .int .i64 a0_1, .int .i64 a0_2, .int .i64 a0_3, .slice A0_4 l0_4.length c0_4] 24) := ⟨_, rfl⟩
 have HX := Aside0.mk (show w1.heap[w.heap.size]? = some (.cells #[.int .i64 a0_0, .int .i64 a0_1, .int .i64 a0_2, .int .i64 a0_3, .slice A0_4 l0_4.length c0_4] 24 (0, 0)) by rw [hw1]; exact heap_alloc_new w _)
 have HB := Aside0.mk (show Below w.heap.size w w1 by rw [hw1]; exact below_alloc (Below.refl _ _) _)
 rw [← hw1]
 clear hw1
 refine (pdu_Check.calls k a0_0 a0_1 a0_2 a0_3 A0_4 c0_4 l0_4 c w1 (HGl.out.below HB.out) (Kd.C_below HR0.out HB.out) HC0.out HCK.out).mono ?_
 rintro e w3 ⟨rfl, hb3⟩
 have HX3 := Aside0.mk ((Mv.of_below (S := fun _ => False) hb3).heap HX.out id)
 have HB3 := Aside0.mk (Below.trans HB.out (Below.mono hb3 HB.out.size))
 clear hb3 HX HB HCK
 by_cases hc : c = 0
 case neg =>
  rw [if_neg hc] at h
  simp only [Option.some.injEq, Prod.mk.injEq] at h
  obtain ⟨rfl, rfl⟩ := h
  have e1 : (c != 0) = true := bne_iff_ne.mpr hc
  have e1' := eq_false hc
  clear hc
  go_wp2
  go_ret2
  exact ⟨rfl, HB3.out⟩
 subst hc
 rw [if_pos rfl] at h
 obtain ⟨o, hgo, h⟩ := Option.bind_eq_some_iff.1 h
 have HGO := Aside0.mk hgo
 have HH := Aside0.mk h
 clear hgo h
 have x4 := (blk_cell HX3.out 4).trans rfl
 go_upto_region 5 with (fail)
 obtain ⟨w4, hw4⟩ : ∃ w4, w4 = w3.alloc (.cells #[.pointer none, .slice none 0 0] 55) := ⟨_, rfl⟩
 have HBL := Aside0.mk (show Bl w4 w3.heap.size w3.heap.size (.slice none 0 0) [] by rw [hw4]; exact Bl.new w3 w3.heap.size (Nat.le_refl _))
 have HX4 := Aside0.mk (show w4.heap[w.heap.size]? = some (.cells #[.int .i64 a0_0, .int .i64 a0_1, .int .i64 a0_2, .int .i64 a0_3, .slice A0_4 l0_4.length c0_4] 24 (0, 0)) by rw [hw4]; exact ((Mv.refl (fun _ => False) w3).alloc _).heap HX3.out id)
 have HB4 := Aside0.mk (show Below w.heap.size w w4 by rw [hw4]; exact below_alloc HB3.out _)
 have HBB := Aside0.mk (show w.heap.size < w3.heap.size from (Array.getElem?_eq_some_iff.1 HX3.out).1)
 rw [← hw4]
 clear x4 hw4 HX3 HB3
 generalize w3.heap.size = b at HBL HBB ⊢
 have x4 := (blk_cell HX4.out 4).trans rfl
 go_wp2
 clear x4
 go_loopg [20] (l0_4.length + 2) (fun kq v20 W => ∃ (i : Nat) (bv : Value) (acc : List UInt8), v20 = .int .i64 i ∧ Aside0 (i ≤ l0_4.length) ∧ Aside0 (l0_4.length - i < kq) ∧ Aside0 (pdu_Encode.go k (l0_4.drop i) acc = some o) ∧ Aside0 (Bl W b b bv acc) ∧ Aside0 (W.heap[w.heap.size]? = some (.cells #[.int .i64 a0_0, .int .i64 a0_1, .int .i64 a0_2, .int .i64 a0_3, .slice A0_4 l0_4.length c0_4] 24 (0, 0))) ∧ Aside0 (Below w.heap.size w W))
 case atStart => exact ⟨0, _, [], rfl, ⟨Nat.zero_le _⟩, ⟨by omega⟩, HGO, HBL, HX4, HB4⟩
 case round =>
  clear HGO HBL HX4 HB4
  obtain ⟨i, bv, acc, rfl, HI, HKQ, HGO, HBL, HX, HB⟩ := hrel
  by_cases ci : i < l0_4.length
  ·obtain ⟨x, hx⟩ : ∃ x, l0_4[i]? = some x := ⟨_, List.getElem?_eq_getElem ci⟩
   have hd : l0_4.drop i = x :: l0_4.drop (i + 1) := by
    obtain ⟨h1, h2⟩ := List.getElem?_eq_some_iff.1 hx
    rw [← h2]; exact List.drop_eq_getElem_cons h1
   have hgo := HGO.out
   rw [hd, pdu_Encode.go] at hgo
   obtain ⟨s, hbd, hgo⟩ := Option.bind_eq_some_iff.1 hgo
   by_cases hsz : acc.length + s.size ≤ 1000000000
   case neg => rw [if_neg hsz] at hgo; exact absurd hgo (by simp)
   rw [if_pos hsz] at hgo
   obtain ⟨ad, rfl, y0, y1, y2, y3⟩ := at_T30 (Kd.C_below HR0.out HB.out) (i : Int) (by omega) (by omega)
   have hrd : rd_T30 l0_4 (i : Int) = x := by unfold rd_T30; rw [Int.toNat_natCast, List.getD_eq_getElem?_getD, hx]; rfl
   rw [hrd] at y0 y1 y2 y3
   rw [Int.toNat_natCast] at y0 y1 y2 y3
   have HI2 := Aside0.mk ci
   have HBD := Aside0.mk hbd
   have HGO2 := Aside0.mk hgo
   have HSZ := Aside0.mk hsz
   have e1 := eq_true ci
   have e2 : decide ((i : Int) < (l0_4.length : Int)) = true := decide_eq_true (by omega)
   have e3 : (0 ≤ (i : Int)) = True := eq_true (by omega)
   have e9 : wrap64 ((i : Int) + 1) = ((i + 1 : Nat) : Int) := by have := HLN.out; unfold wrap64; omega
   clear hd hgo hbd hsz hx hrd ci HGO HI
   go_wp2_with fail
   obtain ⟨w5, hw5⟩ : ∃ w5, w5 = wr.alloc (.cells #[.string x.f0, .int .i64 x.f1.f0, .int .i64 x.f1.f1, .string x.f1.f2] 30) := ⟨_, rfl⟩
   have hb5 : Below wr.heap.size wr w5 := by rw [hw5]; exact below_alloc (Below.refl _ _) _
   rw [← hw5]
   clear hw5
   refine (pdu_bind.calls k x.f0 x.f1.f0 x.f1.f1 x.f1.f2 s w5 (HGl.out.below (Below.trans HB.out (Below.mono hb5 HB.out.size))) HBD.out).mono ?_
   rintro e w6 ⟨rfl, hb6⟩
   have hb56 : Below wr.heap.size wr w6 := Below.trans hb5 (Below.mono hb6 hb5.size)
   have HBL6 := Aside0.mk (HBL.out.keep hb56)
   have HX6 := Aside0.mk ((Mv.of_below (S := fun _ => False) hb56).heap HX.out id)
   have HB6 := Aside0.mk (Below.trans HB.out (Below.mono hb56 HB.out.size))
   clear hb5 hb6 hb56 y0 y1 y2 y3 HBL HX HB
   go_wp2_with fail
   refine (HBL6.out.write s (by have := HSZ.out; omega)).mono ?_
   rintro e w7 ⟨rfl, v7, hbl7, ho7, hm7⟩
   have HBL7 := Aside0.mk hbl7
   have HX7 := Aside0.mk (hm7.heap HX6.out (fun h => h.elim (fun h => by have := HBB.out; omega) (fun h => by have := (World.ownsRow.lt HBL6.out.row _ h).1; have := HBB.out; omega)))
   have HB7 := Aside0.mk (Below.trans HB6.out (hm7.below HB6.out.size (fun q hq => hq.elim (fun h => by have := HBB.out; omega) (fun h => by have := (World.ownsRow.lt HBL6.out.row _ h).1; have := HBB.out; omega))))
   clear hbl7 ho7 hm7 HBL6 HX6 HB6
   go_wp2_with fail
   refine HBL7.out.len_.mono ?_
   rintro e w8 ⟨rfl, rfl⟩
   have HLA := Aside0.mk (show (acc ++ s.data.toList).length = acc.length + s.size by simp)
   by_cases hbig : 65536 < acc.length + s.size
   ·have hgo := HGO2.out
    rw [if_pos hbig, Option.some.injEq] at hgo
    subst hgo
    have hh := HH.out
    unfold pdu_Encode.rest at hh
    simp only [Option.some.injEq, Prod.mk.injEq] at hh
    obtain ⟨rfl, rfl⟩ := hh
    have e6 : ((65536 : Int) < (acc.length : Int) + (s.size : Int)) = True := eq_true (by omega)
    have e7 : decide ((65536 : Int) < (acc.length : Int) + (s.size : Int)) = true := decide_eq_true (by omega)
    clear hbig
    go_wp2
    go_ret2
    exact ⟨rfl, HB7.out⟩
   ·have hgo := HGO2.out
    rw [if_neg hbig] at hgo
    have HGO3 := Aside0.mk hgo
    have e6 : ((65536 : Int) < (acc.length : Int) + (s.size : Int)) = False := eq_false (by omega)
    have e7 : decide ((65536 : Int) < (acc.length : Int) + (s.size : Int)) = false := decide_eq_false (by omega)
    clear hbig hgo
    go_wp2
    go_roundg (l0_4.length - (i + 1) + 1)
    case measure => have := HKQ.out; have := HI2.out; omega
    case rel => exact ⟨i + 1, v7, acc ++ s.data.toList, by first | rfl | rw [e9], ⟨HI2.out⟩, ⟨by omega⟩, HGO3, HBL7, HX7, HB7⟩
  ·have hi : i = l0_4.length := by have := HI.out; omega
   have hgo := HGO.out
   rw [hi, List.drop_length, pdu_Encode.go, Option.some.injEq] at hgo
   subst hgo
   have hh := HH.out
   unfold pdu_Encode.rest at hh
   obtain ⟨y, hns, hh⟩ := Option.bind_eq_some_iff.1 hh
   have HNS := Aside0.mk hns
   have HHH := Aside0.mk hh
   have e1 := eq_false ci
   have e2 : decide ((i : Int) < (l0_4.length : Int)) = false := decide_eq_false (by omega)
   have x1 := (blk_cell HX.out 1).trans rfl
   have x2 := (blk_cell HX.out 2).trans rfl
   have x3 := (blk_cell HX.out 3).trans rfl
   clear hns hh ci hi HGO HI HKQ HH
   go_wp2
   clear x1 x2 x3
   generalize HW2 : wr = w10 at HBL HX HB ⊢
   clear HW2
   have u82 : Tryz.prog.underlying 62 = some (.array 3 3) := by kernel_rfl
   go_loopg [8, 37] 5 (fun kq v8 v37 W => ∃ (j : Nat) (y2 : ByteArray), v8 = .string y2 ∧ v37 = .int .i64 j ∧ Aside0 (j ≤ 3) ∧ Aside0 (3 - j < kq) ∧ Aside0 (pdu_Encode.nums k ([a0_1, a0_2, a0_3].drop j) y2 = some y) ∧ Aside0 (Bl W b b bv acc) ∧ Aside0 (W.heap[w.heap.size]? = some (.cells #[.int .i64 a0_0, .int .i64 a0_1, .int .i64 a0_2, .int .i64 a0_3, .slice A0_4 l0_4.length c0_4] 24 (0, 0))) ∧ Aside0 (Below w.heap.size w W))
   case atStart => exact ⟨0, _, rfl, rfl, ⟨by omega⟩, ⟨by omega⟩, HNS, HBL, HX, HB⟩
   case round =>
    clear HNS HBL HX HB
    obtain ⟨j, y2, rfl, rfl, HJ, HJK, HNS, HBL, HX, HB⟩ := hrel
    have hj : j = 0 ∨ j = 1 ∨ j = 2 ∨ j = 3 := by have := HJ.out; omega
    rcases hj with rfl | rfl | rfl | rfl
    ·have hns := HNS.out
     rw [show List.drop 0 [a0_1, a0_2, a0_3] = a0_1 :: List.drop 1 [a0_1, a0_2, a0_3] from rfl, pdu_Encode.nums] at hns
     obtain ⟨p, hp, hns⟩ := Option.bind_eq_some_iff.1 hns
     obtain ⟨q, hq, hns⟩ := Option.bind_eq_some_iff.1 hns
     obtain ⟨z, hz, hns⟩ := Option.bind_eq_some_iff.1 hns
     unfold pdu_Encode.cat at hz
     by_cases hc : y2.size + q.size ≤ 1000000000
     case neg => rw [if_neg hc] at hz; exact absurd hz (by simp)
     rw [if_pos hc, Option.some.injEq] at hz
     subst hz
     have HP := Aside0.mk hp
     have HQ := Aside0.mk hq
     have HN2 := Aside0.mk hns
     have e1 : (9223372036854775807 < y2.size + q.size) = False := eq_false (by omega)
     have hix : ∀ W, (Instr.index 62 (.agg #[.int .i64 a0_1, .int .i64 a0_2, .int .i64 a0_3]) (.int .i64 0)).run Tryz.prog W = .ok (.int .i64 a0_1) W := by
      intro W
      simp [Instr.index, run_underlying u82, asIntOf, go_sem]
     clear hp hq hns hc HNS HJ
     go_wp2_with fail
     refine (ber_PutNumber.calls k a0_1 p wr HP.out).mono ?_
     rintro e w11 ⟨rfl, hb11⟩
     go_wp2_with fail
     refine (pdu_wrap.calls k 2 p q w11 HQ.out).mono ?_
     rintro e w12 ⟨rfl, hb12⟩
     have hb13 : Below wr.heap.size wr w12 := Below.trans hb11 (Below.mono hb12 hb11.size)
     have HBL6 := Aside0.mk (HBL.out.keep hb13)
     have HX6 := Aside0.mk ((Mv.of_below (S := fun _ => False) hb13).heap HX.out id)
     have HB6 := Aside0.mk (Below.trans HB.out (Below.mono hb13 HB.out.size))
     clear hb11 hb12 hb13 HBL HX HB
     go_wp2
     go_roundg (3)
     case measure => have := HJK.out; omega
     case rel => exact ⟨1, y2 ++ q, rfl, rfl, ⟨by omega⟩, ⟨by omega⟩, HN2, HBL6, HX6, HB6⟩
    ·have hns := HNS.out
     rw [show List.drop 1 [a0_1, a0_2, a0_3] = a0_2 :: List.drop 2 [a0_1, a0_2, a0_3] from rfl, pdu_Encode.nums] at hns
     obtain ⟨p, hp, hns⟩ := Option.bind_eq_some_iff.1 hns
     obtain ⟨q, hq, hns⟩ := Option.bind_eq_some_iff.1 hns
     obtain ⟨z, hz, hns⟩ := Option.bind_eq_some_iff.1 hns
     unfold pdu_Encode.cat at hz
     by_cases hc : y2.size + q.size ≤ 1000000000
     case neg => rw [if_neg hc] at hz; exact absurd hz (by simp)
     rw [if_pos hc, Option.some.injEq] at hz
     subst hz
     have HP := Aside0.mk hp
     have HQ := Aside0.mk hq
     have HN2 := Aside0.mk hns
     have e1 : (9223372036854775807 < y2.size + q.size) = False := eq_false (by omega)
     have hix : ∀ W, (Instr.index 62 (.agg #[.int .i64 a0_1, .int .i64 a0_2, .int .i64 a0_3]) (.int .i64 1)).run Tryz.prog W = .ok (.int .i64 a0_2) W := by
      intro W
      simp [Instr.index, run_underlying u82, asIntOf, go_sem]
     clear hp hq hns hc HNS HJ
     go_wp2_with fail
     refine (ber_PutNumber.calls k a0_2 p wr HP.out).mono ?_
     rintro e w11 ⟨rfl, hb11⟩
     go_wp2_with fail
     refine (pdu_wrap.calls k 2 p q w11 HQ.out).mono ?_
     rintro e w12 ⟨rfl, hb12⟩
     have hb13 : Below wr.heap.size wr w12 := Below.trans hb11 (Below.mono hb12 hb11.size)
     have HBL6 := Aside0.mk (HBL.out.keep hb13)
     have HX6 := Aside0.mk ((Mv.of_below (S := fun _ => False) hb13).heap HX.out id)
     have HB6 := Aside0.mk (Below.trans HB.out (Below.mono hb13 HB.out.size))
     clear hb11 hb12 hb13 HBL HX HB
     go_wp2
     go_roundg (2)
     case measure => have := HJK.out; omega
     case rel => exact ⟨2, y2 ++ q, rfl, rfl, ⟨by omega⟩, ⟨by omega⟩, HN2, HBL6, HX6, HB6⟩
    ·have hns := HNS.out
     rw [show List.drop 2 [a0_1, a0_2, a0_3] = a0_3 :: List.drop 3 [a0_1, a0_2, a0_3] from rfl, pdu_Encode.nums] at hns
     obtain ⟨p, hp, hns⟩ := Option.bind_eq_some_iff.1 hns
     obtain ⟨q, hq, hns⟩ := Option.bind_eq_some_iff.1 hns
     obtain ⟨z, hz, hns⟩ := Option.bind_eq_some_iff.1 hns
     unfold pdu_Encode.cat at hz
     by_cases hc : y2.size + q.size ≤ 1000000000
     case neg => rw [if_neg hc] at hz; exact absurd hz (by simp)
     rw [if_pos hc, Option.some.injEq] at hz
     subst hz
     have HP := Aside0.mk hp
     have HQ := Aside0.mk hq
     have HN2 := Aside0.mk hns
     have e1 : (9223372036854775807 < y2.size + q.size) = False := eq_false (by omega)
     have hix : ∀ W, (Instr.index 62 (.agg #[.int .i64 a0_1, .int .i64 a0_2, .int .i64 a0_3]) (.int .i64 2)).run Tryz.prog W = .ok (.int .i64 a0_3) W := by
      intro W
      simp [Instr.index, run_underlying u82, asIntOf, go_sem]
     clear hp hq hns hc HNS HJ
     go_wp2_with fail
     refine (ber_PutNumber.calls k a0_3 p wr HP.out).mono ?_
     rintro e w11 ⟨rfl, hb11⟩
     go_wp2_with fail
     refine (pdu_wrap.calls k 2 p q w11 HQ.out).mono ?_
     rintro e w12 ⟨rfl, hb12⟩
     have hb13 : Below wr.heap.size wr w12 := Below.trans hb11 (Below.mono hb12 hb11.size)
     have HBL6 := Aside0.mk (HBL.out.keep hb13)
     have HX6 := Aside0.mk ((Mv.of_below (S := fun _ => False) hb13).heap HX.out id)
     have HB6 := Aside0.mk (Below.trans HB.out (Below.mono hb13 HB.out.size))
     clear hb11 hb12 hb13 HBL HX HB
     go_wp2
     go_roundg (1)
     case measure => have := HJK.out; omega
     case rel => exact ⟨3, y2 ++ q, rfl, rfl, ⟨by omega⟩, ⟨by omega⟩, HN2, HBL6, HX6, HB6⟩
    ·have hns := HNS.out
     rw [show List.drop 3 [a0_1, a0_2, a0_3] = [] from rfl, pdu_Encode.nums, Option.some.injEq] at hns
     subst hns
     have hh := HHH.out
     unfold pdu_Encode.tail at hh
     obtain ⟨s1, h1, hh⟩ := Option.bind_eq_some_iff.1 hh
     obtain ⟨z, hz, hh⟩ := Option.bind_eq_some_iff.1 hh
     obtain ⟨s2, h2, ht⟩ := Option.bind_eq_some_iff.1 hh
     clear hh
     unfold pdu_Encode.cat at hz
     by_cases hc : y2.size + s1.size ≤ 1000000000
     case neg => rw [if_neg hc] at hz; exact absurd hz (by simp)
     rw [if_pos hc, Option.some.injEq] at hz
     subst hz
     have H1 := Aside0.mk h1
     have H2 := Aside0.mk h2
     have H3 := Aside0.mk ht
     have e1 : (9223372036854775807 < y2.size + s1.size) = False := eq_false (by omega)
     clear h1 h2 ht hc HNS HJ HJK HHH
     go_upto_region 18 with (fail)
     have HX1 := Aside0.mk (blk_drew HX.out)
     have HB1 := Aside0.mk (below_drew1 HB.out)
     have HBL1 := Aside0.mk (HBL.out.mv ((Mv.refl (fun _ => False) wr).drew) id (fun _ _ => id))
     refine start_ (n := 8) (S := fun w' => w'.cell? ⟨w.heap.size, 0, none⟩ = some (.int .i64 a0_0)) (ds := []) #[false, false, false, false, false, false, false, false] (by kernel_rfl) rfl rfl ((blk_cell HX1.out 0).trans rfl) (fun hHeld => ?_)
     clear HX HB HBL
     generalize wr.drew = w11 at HX1 HB1 HBL1 hHeld ⊢
     refine pure_ (i := 0) (N := some 46) (v := ?_) (a' := ?_) #[true, false, false, false, false, false, false, false] rfl rfl (by kernel_rfl) (fun _ _ _ h => h) (Or.inl ⟨by rfl, ?_⟩) ?_ ?_
     rotate_left
     ·intro w'
      go_simp
      with_reducible rfl
     rotate_left
     ·simp only [Act.put, List.setIfInBounds_toArray, List.set_cons_zero, List.set_cons_succ, i64_w, i32_w]
      rfl
     refine take_ (i := 1) (N := some 47) (v := ?_) (a' := ?_) #[true, true, false, false, false, false, false, false] rfl rfl (by kernel_rfl) (fun _ _ _ h => h) (Or.inl ⟨by rfl, ?_⟩) hHeld ?_ ?_
     rotate_left
     ·intro w' s0
      go_simp
      with_reducible rfl
     rotate_left
     ·simp only [Act.put, List.setIfInBounds_toArray, List.set_cons_zero, List.set_cons_succ, i64_w, i32_w]
      rfl
     refine pure_ (i := 2) (N := some 48) (v := ?_) (a' := ?_) #[true, true, true, false, false, false, false, false] rfl rfl (by kernel_rfl) (fun _ _ _ h => h) (Or.inl ⟨by rfl, ?_⟩) ?_ ?_
     rotate_left
     ·intro w'
      go_simp
      with_reducible rfl
     rotate_left
     ·simp only [Act.put, List.setIfInBounds_toArray, List.set_cons_zero, List.set_cons_succ, i64_w, i32_w]
      rfl
     refine one_ (i := 3) (N := some 49) #[true, true, true, true, false, false, false, false] rfl rfl (by kernel_rfl) (by decide) (fun K hK => ?_)
     refine goes_ Tryz.func24 (by kernel_rfl) rfl #[.pointer (some ⟨b, 0, none⟩)] (by rfl) rfl rfl Zq3 ?_
     refine (HBL1.out.string).mono ?_
     rintro e w2 ⟨rfl, hm2⟩
     refine ⟨_, rfl, ?_⟩
     have HX2 := Aside0.mk (hm2.heap HX1.out (fun h => by have := (World.ownsRow.lt HBL1.out.row _ h).1; have := HBB.out; omega))
     have HB2 := Aside0.mk (Below.trans HB1.out (hm2.below HB1.out.size (fun q h => by have := (World.ownsRow.lt HBL1.out.row _ h).1; have := HBB.out; omega)))
     clear hm2 HX1 HB1 HBL1
     refine hK.out _ _ ((blk_cell HX2.out 0).trans rfl) (fun hHeld_ => ?_)
     clear hK K hHeld
     have hHeld := hHeld_
     clear hHeld_
     refine nz_ 49 ?_
     refine one_ (i := 4) (N := some 50) #[true, true, true, true, true, false, false, false] rfl rfl (by kernel_rfl) (by decide) (fun K hK => ?_)
     refine goes_ Tryz.func22 (by kernel_rfl) rfl #[.int .i64 48, .string ⟨acc.toArray⟩] (by rfl) rfl rfl Zq3 ?_
     refine (pdu_wrap.calls k 48 ⟨acc.toArray⟩ s1 _ H1.out).mono ?_
     rintro e w3 ⟨rfl, hb3⟩
     refine ⟨_, rfl, ?_⟩
     have HX3 := Aside0.mk ((Mv.of_below (S := fun _ => False) hb3).heap HX2.out id)
     have HB3 := Aside0.mk (Below.trans HB2.out (Below.mono hb3 HB2.out.size))
     clear hb3 HX2 HB2
     refine hK.out _ _ ((blk_cell HX3.out 0).trans rfl) (fun hHeld_ => ?_)
     clear hK K hHeld
     have hHeld := hHeld_
     clear hHeld_
     refine nz_ 50 ?_
     refine pure_ (i := 5) (N := some 51) (v := ?_) (a' := ?_) #[true, true, true, true, true, true, false, false] rfl rfl (by kernel_rfl) (fun _ _ _ h => h) (Or.inl ⟨by rfl, ?_⟩) ?_ ?_
     rotate_left
     ·intro w'
      go_simp
      with_reducible rfl
     rotate_left
     ·simp only [Act.put, List.setIfInBounds_toArray, List.set_cons_zero, List.set_cons_succ, i64_w, i32_w]
      rfl
     refine one_ (i := 6) (N := some 52) #[true, true, true, true, true, true, true, false] rfl rfl (by kernel_rfl) (by decide) (fun K hK => ?_)
     refine goes_ Tryz.func22 (by kernel_rfl) rfl #[.int .i64 a0_0, .string (y2 ++ s1)] (by rfl) rfl rfl Zq3 ?_
     refine (pdu_wrap.calls k a0_0 (y2 ++ s1) s2 _ H2.out).mono ?_
     rintro e w4 ⟨rfl, hb4⟩
     refine ⟨_, rfl, ?_⟩
     have HX4 := Aside0.mk ((Mv.of_below (S := fun _ => False) hb4).heap HX3.out id)
     have HB4 := Aside0.mk (Below.trans HB3.out (Below.mono hb4 HB3.out.size))
     clear hb4 HX3 HB3
     refine hK.out _ _ ((blk_cell HX4.out 0).trans rfl) (fun hHeld_ => ?_)
     clear hK K hHeld
     have hHeld := hHeld_
     clear hHeld_
     refine nz_ 52 ?_
     refine pure_ (i := 7) (N := some 11) (v := ?_) (a' := ?_) #[true, true, true, true, true, true, true, true] rfl rfl (by kernel_rfl) (fun _ _ _ h => h) (Or.inl ⟨by rfl, ?_⟩) ?_ ?_
     rotate_left
     ·intro w'
      go_simp
      with_reducible rfl
     rotate_left
     ·simp only [Act.put, List.setIfInBounds_toArray, List.set_cons_zero, List.set_cons_succ, i64_w, i32_w]
      rfl
     refine done_ (by kernel_rfl) ?_
     (try clear hHeld)
     have h3 := H3.out
     by_cases hbig : 65536 < s2.size
     ·rw [if_pos hbig] at h3
      simp only [Option.some.injEq, Prod.mk.injEq] at h3
      obtain ⟨rfl, rfl⟩ := h3
      have e6 : ((65536 : Int) < (s2.size : Int)) = True := eq_true (by omega)
      have e7 : decide ((65536 : Int) < (s2.size : Int)) = true := decide_eq_true (by omega)
      clear hbig
      go_wp2
      go_ret2
      exact ⟨rfl, HB4.out⟩
     ·rw [if_neg hbig] at h3
      simp only [Option.some.injEq, Prod.mk.injEq] at h3
      obtain ⟨rfl, rfl⟩ := h3
      have e6 : ((65536 : Int) < (s2.size : Int)) = False := eq_false (by omega)
      have e7 : decide ((65536 : Int) < (s2.size : Int)) = false := decide_eq_false (by omega)
      clear hbig
      go_wp2
      go_ret2
      exact ⟨rfl, HB4.out⟩
def gonglaw08_works.f (k : Nat)  : Option (Bool) := (pdu_Encode.f k 167 1 0 0 ([] : List (S30))).bind fun bt174 => (if bt174.1.toList = ([167, 11, 2, 1, 1, 2, 1, 0, 2, 1, 0, 48, 0] : List UInt8) then (some (bt174.2 == 0)) else (some false))
set_option maxHeartbeats 8000000 in
set_option maxRecDepth 100000 in
theorem gonglaw08_works.calls (k : Nat)  (r : Bool) (w : World) (hG : Gl w) (h : gonglaw08_works.f k  = some r) :
  Calls Tryz.prog 6 #[] w fun e w' => e = .returned (.bool r) ∧ Below w.heap.size w w' := by
 have HGl := Aside0.mk hG
 clear hG
 have hu24 := Tryz.underlying24
 have HB := Aside0.mk (Below.refl w.heap.size w)
 have H : ((pdu_Encode.f k 167 1 0 0 ([] : List (S30))).bind fun bt174 => (if bt174.1.toList = ([167, 11, 2, 1, 1, 2, 1, 0, 2, 1, 0, 48, 0] : List UInt8) then (some (bt174.2 == 0)) else (some false))) = some r := h
 clear h
 replace H := Option.bind_eq_some_iff.mp H
 obtain ⟨⟨t174, t175⟩, A10, H⟩ := H
 replace H : (if t174.toList = ([167, 11, 2, 1, 1, 2, 1, 0, 2, 1, 0, 48, 0] : List UInt8) then (some (t175 == 0)) else (some false)) = some r := H
 have A1 := Aside0.mk A10
 clear A10
 by_cases c2 : t174.toList = ([167, 11, 2, 1, 1, 2, 1, 0, 2, 1, 0, 48, 0] : List UInt8)
 rotate_left
 ·rw [if_neg c2] at H
  have c2b0 : (t174.toList == ([167, 11, 2, 1, 1, 2, 1, 0, 2, 1, 0, 48, 0] : List UInt8)) = false := beq_eq_false_iff_ne.mpr c2
  have c2b1 : (t174.toList != ([167, 11, 2, 1, 1, 2, 1, 0, 2, 1, 0, 48, 0] : List UInt8)) = true := bne_iff_ne.mpr c2
  obtain rfl := Option.some.inj H
  go_enter Tryz.func6, Tryz.ntmps6
  go_wp2_with (first | ((with_reducible refine gate_callee (f := 7) rfl ?_); refine goesL_ (some 5) rfl rfl Tryz.func7 (by kernel_rfl) rfl #[.agg #[.int .i64 167, .int .i64 1, .int .i64 0, .int .i64 0, .slice none 0 0]] rfl Zq13 ?_; (refine (pdu_Encode.calls k 167 1 0 0 _ _ ([] : List (S30)) t174 t175 _ ?side3 ?side1 ?side2 A1.out).mono ?_); (case side1 => exact Kd.C_nil _ _); (case side2 => exact Nat.le_refl _); (case side3 => first | (with_reducible exact HGl.out) | exact HGl.out.below Zq45); rintro e w4 ⟨rfl, hb⟩; refine ⟨_, rfl, ?_⟩; replace HB := Aside0.mk (below_step Zq12 hb); (try clear hb); (try clear hb2); (try clear hk); (try clear hi)))
  go_ret
  exact ⟨Zy41, Zy40⟩
 rw [if_pos c2] at H
 have c2b0 : (t174.toList == ([167, 11, 2, 1, 1, 2, 1, 0, 2, 1, 0, 48, 0] : List UInt8)) = true := beq_iff_eq.mpr c2
 have c2b1 : (t174.toList != ([167, 11, 2, 1, 1, 2, 1, 0, 2, 1, 0, 48, 0] : List UInt8)) = false := bne_eq_false_iff_eq.mpr c2
 clear c2
 obtain rfl := Option.some.inj H
 go_enter Tryz.func6, Tryz.ntmps6
 go_wp2_with (first | ((with_reducible refine gate_callee (f := 7) rfl ?_); refine goesL_ (some 5) rfl rfl Tryz.func7 (by kernel_rfl) rfl #[.agg #[.int .i64 167, .int .i64 1, .int .i64 0, .int .i64 0, .slice none 0 0]] rfl Zq13 ?_; (refine (pdu_Encode.calls k 167 1 0 0 _ _ ([] : List (S30)) t174 t175 _ ?side3 ?side1 ?side2 A1.out).mono ?_); (case side1 => exact Kd.C_nil _ _); (case side2 => exact Nat.le_refl _); (case side3 => first | (with_reducible exact HGl.out) | exact HGl.out.below Zq45); rintro e w3 ⟨rfl, hb⟩; refine ⟨_, rfl, ?_⟩; replace HB := Aside0.mk (below_step Zq12 hb); (try clear hb); (try clear hb2); (try clear hk); (try clear hi)))
 go_ret
 exact ⟨Zy41, Zy40⟩
def gonglaw08_of.f (a0_0 : Int) (a0_1 : Int) (a0_2 : Int) (a0_3 : Int) (l0_4 : List (S30)) : Option (Int × Int × Int × Int × (List (S30))) := some (a0_0, a0_1, a0_2, a0_3, l0_4)
set_option maxHeartbeats 8000000 in
set_option maxRecDepth 100000 in
theorem gonglaw08_of.calls (a0_0 : Int) (a0_1 : Int) (a0_2 : Int) (a0_3 : Int) (P0_4_ : Nat → Prop) (u9000_ : Value) (l0_4 : List (S30)) (r1 : Int) (r2 : Int) (r3 : Int) (r4 : Int) (r5 : List (S30)) (w0 w : World) (hB : Below w0.heap.size w0 w) (ho0_4 : Kd.R k30 30 w w0.heap.size P0_4_ u9000_ l0_4) (h : gonglaw08_of.f a0_0 a0_1 a0_2 a0_3 l0_4 = some (r1, r2, r3, r4, r5)) :
  Calls Tryz.prog 9 #[.agg #[.int .i64 a0_0, .int .i64 a0_1, .int .i64 a0_2, .int .i64 a0_3, u9000_]] w fun e w' => ∃ v4_ : Value, e = .returned (.agg #[.int .i64 r1, .int .i64 r2, .int .i64 r3, .int .i64 r4, v4_]) ∧ Kd.R k30 30 w' w0.heap.size (fun k_ => (P0_4_ k_ ∨ w.heap.size ≤ k_)) v4_ r5 ∧ Below w0.heap.size w0 w' ∧ Kept w w' (fun k_ => P0_4_ k_) := by
 have hu24 := Tryz.underlying24
 have hu35 := Tryz.underlying35
 have HO0_4 := Aside0.mk (show Kd.R k30 30 w w0.heap.size (fun k_ => (P0_4_ k_ ∨ w.heap.size ≤ k_)) u9000_ l0_4 from Kd.R_mono ho0_4 (fun k_ hk => (.inl hk)))
 have HK := Aside0.mk (Kept.refl w (fun k_ => P0_4_ k_))
 have HW0 := Aside0.mk hB.size
 have HB := Aside0.mk hB
 clear hB
 have H : (some (a0_0, a0_1, a0_2, a0_3, l0_4)) = some (r1, r2, r3, r4, r5) := h
 clear h
 simp only [Option.some.injEq, Prod.mk.injEq] at H
 obtain ⟨rfl, rfl, rfl, rfl, rfl⟩ := H
 obtain ⟨Ao2, co2, eo2⟩ := Kd.R_slice HO0_4.out
 subst eo2
 go_enter Tryz.func9, Tryz.ntmps9
 go_wp2_with (first | ((with_reducible refine gate_dst (N := 1) rfl ?_); refine box_event ?hg (N := 1) ?hd (cs := #[.int .i64 a0_0, .int .i64 a0_1, .int .i64 a0_2, .int .i64 a0_3, .slice Ao2 l0_4.length co2]) (t := 24) ?hr ?_; (case hd => rfl); (case hg => rfl); (case hr => exact Zq2); intro gb176 hg w3 hbox hb; have BK176 := Aside0.mk (hbox); have GW176 := Aside0.mk ((by rw [hg]; exact (by first | exact HK.out.1 | exact (show Kept w _ (fun k_ => P0_4_ k_) from by repeat (first | (with_reducible first | exact HK.out | apply Kept.alloc | apply Kept.drewN | apply Kept.drew) | exact HK.out)).1) : w.heap.size ≤ gb176)); have GE176 := Aside0.mk ((by rw [hg]; exact (below_size Zq12) : w0.heap.size ≤ gb176)); replace HO0_4 := Aside0.mk (Kd.R_below (by (with_reducible repeat (first | apply Kd.R_alloc | apply Kd.R_drewN | apply Kd.R_drew)); exact HO0_4.out) hb); replace HK := Aside0.mk (Kept.below (S := (fun k_ => P0_4_ k_)) (by repeat (first | (with_reducible first | exact HK.out | apply Kept.alloc | apply Kept.drewN | apply Kept.drew) | exact HK.out)) hb); replace HB := Aside0.mk (below_step Zq12 hb); clear hb hbox hg) | ((with_reducible refine gate_dst (N := 2) rfl ?_); refine box_event ?hg (N := 2) ?hd (cs := #[.int .i64 0, .int .i64 0, .int .i64 0, .int .i64 0, .slice none 0 0]) (t := 35) ?hr ?_; (case hd => rfl); (case hg => rfl); (case hr => exact Zq2); intro gb177 hg w4 hbox hb; have BK177 := Aside0.mk (hbox); have GW177 := Aside0.mk ((by rw [hg]; exact (by first | exact HK.out.1 | exact (show Kept w _ (fun k_ => P0_4_ k_) from by repeat (first | (with_reducible first | exact HK.out | apply Kept.alloc | apply Kept.drewN | apply Kept.drew | refine Kept.setCell ?_ (.inr GW176.out) _) | exact HK.out)).1) : w.heap.size ≤ gb177)); have GE177 := Aside0.mk ((by rw [hg]; exact (below_size Zy32) : w0.heap.size ≤ gb177)); have NB176_177 := Aside0.mk ((by rw [hg]; exact Nat.ne_of_lt (blk_lt (g := gb176) (o := .cells #[.int .i64 a0_0, .int .i64 a0_1, .int .i64 a0_2, .int .i64 a0_3, .slice Ao2 l0_4.length co2] 24 (0, 0)) Zq31) : gb176 ≠ gb177)); have NB177_176 := Aside0.mk ((by rw [hg]; exact Nat.ne_of_gt (blk_lt (g := gb176) (o := .cells #[.int .i64 a0_0, .int .i64 a0_1, .int .i64 a0_2, .int .i64 a0_3, .slice Ao2 l0_4.length co2] 24 (0, 0)) Zq31) : gb177 ≠ gb176)); replace HO0_4 := Aside0.mk (Kd.R_below (by (with_reducible repeat (first | apply Kd.R_alloc | apply Kd.R_drewN | apply Kd.R_drew)); exact HO0_4.out) hb); replace BK176 := Aside0.mk (blkb_ BK176.out Zq31 hb); replace HK := Aside0.mk (Kept.below (S := (fun k_ => P0_4_ k_)) (by repeat (first | (with_reducible first | exact HK.out | apply Kept.alloc | apply Kept.drewN | apply Kept.drew | refine Kept.setCell ?_ (.inr GW176.out) _) | exact HK.out)) hb); replace HB := Aside0.mk (below_step Zy32 hb); clear hb hbox hg; have hnb5 := NB176_177.out; have hnc5 := NB177_176.out; obtain ⟨hcz6_0, hcz6_1, hcz6_2, hcz6_3, hcz6_4⟩ := cells5_ BK176.out; obtain ⟨hfz6_0, hfz6_1, hfz6_2, hfz6_3, hfz6_4⟩ := frozen5_ BK176.out; obtain ⟨hcz7_0, hcz7_1, hcz7_2, hcz7_3, hcz7_4⟩ := cells5_ BK177.out; obtain ⟨hfz7_0, hfz7_1, hfz7_2, hfz7_3, hfz7_4⟩ := frozen5_ BK177.out))
 refine bodyPost_ret (results_cell_row rfl _ _ gb177 35 #[.int .i64 a0_0, .int .i64 a0_1, .int .i64 a0_2, .int .i64 a0_3, .slice Ao2 l0_4.length co2] (0, 0) _ rfl Zq47 Tryz.underlying35 rfl (by kernel_rfl)) rfl ?_
 exact ⟨_, Zy55, by (with_reducible repeat (first | apply Kd.R_alloc | apply Kd.R_drewN | apply Kd.R_drew)); exact Kd.R_mono (Kd.R_far (p := ⟨gb177, 4, none⟩) (Kd.R_far (p := ⟨gb177, 3, none⟩) (Kd.R_far (p := ⟨gb177, 2, none⟩) (Kd.R_far (p := ⟨gb177, 1, none⟩) (Kd.R_far (p := ⟨gb177, 0, none⟩) (Kd.R_types HO0_4.out BK177.out (by decide)) (fun _ hk => hk.2) (.int .i64 a0_0)) (fun _ hk => hk.2) (.int .i64 a0_1)) (fun _ hk => hk.2) (.int .i64 a0_2)) (fun _ hk => hk.2) (.int .i64 a0_3)) (fun _ hk => hk.2) (.slice Ao2 l0_4.length co2)) (fun _ hk => hk.1), by repeat (first | (with_reducible first | exact HB.out | apply below_alloc | apply pw_below_drewN | apply below_drew1 | refine below_set ?_ GE176.out | refine below_set ?_ GE177.out) | exact HB.out), by repeat (first | (with_reducible first | exact HK.out | apply Kept.alloc | apply Kept.drewN | apply Kept.drew | refine Kept.setCell ?_ (.inr GW176.out) _ | refine Kept.setCell ?_ (.inr GW177.out) _) | exact HK.out)⟩
def gongref08_SameBinds.l0 : Nat → List (S30) → List (S30) → Int → Option (Bool)
 | 0, _, _, _ => none
 | k + 1, x0, x1, x5 => if x5 < (x0.length : Int) then (if 0 ≤ x5 then (if x5 < (x1.length : Int) then (if (!((((rd_T30 x0 x5).f0).toList) == (((rd_T30 x1 x5).f0).toList)) || ((!(((rd_T30 x0 x5).f1.f0) == ((rd_T30 x1 x5).f1.f0)) || (!(((rd_T30 x0 x5).f1.f1) == ((rd_T30 x1 x5).f1.f1)) || (!((((rd_T30 x0 x5).f1.f2).toList) == (((rd_T30 x1 x5).f1.f2).toList))))))) = true then (some false) else (gongref08_SameBinds.l0 k x0 x1 (wrap64 (x5 + 1)))) else (none)) else (none)) else (some true)
def gongref08_SameBinds.f (k : Nat) (l0 : List (S30)) (l1 : List (S30)) : Option (Bool) := if (l0.length : Int) = (l1.length : Int) then (gongref08_SameBinds.l0 k l0 l1 0) else (some false)
set_option maxHeartbeats 8000000 in
set_option maxRecDepth 100000 in
theorem gongref08_SameBinds.calls (k : Nat) (A0 : Option Addr) (c0 : Nat) (l0 : List (S30)) (A1 : Option Addr) (c1 : Nat) (l1 : List (S30)) (r : Bool) (w : World) (hr0 : Kd.C k30 w A0 l0.length l0) (hc0 : l0.length ≤ c0) (hr1 : Kd.C k30 w A1 l1.length l1) (hc1 : l1.length ≤ c1) (h : gongref08_SameBinds.f k l0 l1 = some r) :
  Calls Tryz.prog 12 #[.slice A0 l0.length c0, .slice A1 l1.length c1] w fun e w' => e = .returned (.bool r) ∧ Drawn0 w w' := by
 have hu30 := Tryz.underlying30
 have HR0 := Aside0.mk hr0
 have HC0 := Aside0.mk hc0
 clear hr0 hc0
 have HR1 := Aside0.mk hr1
 have HC1 := Aside0.mk hc1
 clear hr1 hc1
 have H : (if (l0.length : Int) = (l1.length : Int) then (gongref08_SameBinds.l0 k l0 l1 0) else (some false)) = some r := h
 clear h
 by_cases c3 : (l0.length : Int) = (l1.length : Int)
 rotate_left
 ·rw [if_neg c3] at H
  have c3b0 : ((l0.length : Int) == (l1.length : Int)) = false := beq_eq_false_iff_ne.mpr c3
  have c3b1 : ((l0.length : Int) != (l1.length : Int)) = true := bne_iff_ne.mpr c3
  have c3b2 : (l0.length == l1.length) = false := by first | simpa using c3 | (simp at c3 ⊢; omega)
  obtain rfl := Option.some.inj H
  go_enter Tryz.func12, Tryz.ntmps12
  go_wp2
  repeat (go_quiet (fail); try go_wp2)
  go_ret
  exact ⟨Zy59, Zy56⟩
 rw [if_pos c3] at H
 have c3b0 : ((l0.length : Int) == (l1.length : Int)) = true := beq_iff_eq.mpr c3
 have c3b1 : ((l0.length : Int) != (l1.length : Int)) = false := bne_eq_false_iff_eq.mpr c3
 have c3b2 : (l0.length == l1.length) = true := by first | simpa using c3 | (simp at c3 ⊢; omega)
 clear c3
 have H' := Aside0.mk H
 clear H
 go_enter Tryz.func12, Tryz.ntmps12
 go_wp2
 repeat (go_quiet (fail); try go_wp2)
 go_loopg [5] k (fun kq v5 w' => ∃ (x5_1 : Int), v5 = .int .i64 x5_1 ∧ Aside0 (gongref08_SameBinds.l0 kq l0 l1 x5_1 = some r) ∧ Aside0 (kq ≤ k) ∧ Drawn0 w w')
 case atStart => exact ⟨(0), Zq11, H', ⟨Nat.le_refl _⟩, Zy56⟩
 case round =>
  clear H'
  (try clear c1); (try clear p2); (try clear c3); (try clear c3b0); (try clear c3b1); (try clear c3b2)
  obtain ⟨x5_1, rfl, HA, HK1, ⟨m1, rfl⟩⟩ := hrel
  cases gk with
  | zero => exact absurd HA.out (by simp [gongref08_SameBinds.l0])
  | succ k1 =>
   have H := HA.out
   clear HA
   simp only [gongref08_SameBinds.l0] at H
   by_cases c4 : x5_1 < (l0.length : Int)
   ·rw [if_pos c4] at H
    have c4b0 : decide (x5_1 < (l0.length : Int)) = true := decide_eq_true c4
    clear c4
    by_cases c5 : 0 ≤ x5_1
    ·rw [if_pos c5] at H
     have c5b0 : decide (0 ≤ x5_1) = true := decide_eq_true c5
     clear c5
     by_cases c6 : x5_1 < (l1.length : Int)
     ·rw [if_pos c6] at H
      have c6b0 : decide (x5_1 < (l1.length : Int)) = true := decide_eq_true c6
      clear c6
      by_cases c7 : (!((((rd_T30 l0 x5_1).f0).toList) == (((rd_T30 l1 x5_1).f0).toList)) || ((!(((rd_T30 l0 x5_1).f1.f0) == ((rd_T30 l1 x5_1).f1.f0)) || (!(((rd_T30 l0 x5_1).f1.f1) == ((rd_T30 l1 x5_1).f1.f1)) || (!((((rd_T30 l0 x5_1).f1.f2).toList) == (((rd_T30 l1 x5_1).f1.f2).toList))))))) = true
      ·rw [if_pos c7] at H
       have c7b0 : (!((((rd_T30 l0 x5_1).f0).toList) == (((rd_T30 l1 x5_1).f0).toList)) || ((!(((rd_T30 l0 x5_1).f1.f0) == ((rd_T30 l1 x5_1).f1.f0)) || (!(((rd_T30 l0 x5_1).f1.f1) == ((rd_T30 l1 x5_1).f1.f1)) || (!((((rd_T30 l0 x5_1).f1.f2).toList) == (((rd_T30 l1 x5_1).f1.f2).toList))))))) = true := c7
       clear c7
       obtain rfl := Option.some.inj H
       have p178 : 0 ≤ (x5_1 : Int) := of_decide_eq_true Zq1
       have q178 : x5_1 < (l0.length : Int) := of_decide_eq_true Zq1
       obtain ⟨ad178, e178, hx178_0, hx178_1, hx178_2, hx178_3⟩ := at_T30 HR0.out x5_1 p178 q178
       cases e178
       replace p178 := eq_true p178
       replace q178 := eq_true q178
       have p179 : 0 ≤ (x5_1 : Int) := of_decide_eq_true Zq1
       have q179 : x5_1 < (l1.length : Int) := of_decide_eq_true Zq1
       obtain ⟨ad179, e179, hx179_0, hx179_1, hx179_2, hx179_3⟩ := at_T30 HR1.out x5_1 p179 q179
       cases e179
       replace p179 := eq_true p179
       replace q179 := eq_true q179
       go_wp2
       repeat (go_quiet (fail); try go_wp2)
       go_ret
       exact ⟨Zy59, Zy56⟩
      ·rw [if_neg c7] at H
       have c7b0 : (!((((rd_T30 l0 x5_1).f0).toList) == (((rd_T30 l1 x5_1).f0).toList)) || ((!(((rd_T30 l0 x5_1).f1.f0) == ((rd_T30 l1 x5_1).f1.f0)) || (!(((rd_T30 l0 x5_1).f1.f1) == ((rd_T30 l1 x5_1).f1.f1)) || (!((((rd_T30 l0 x5_1).f1.f2).toList) == (((rd_T30 l1 x5_1).f1.f2).toList))))))) = false := by simpa using c7
       clear c7
       have H' := Aside0.mk H
       clear H
       have p178 : 0 ≤ (x5_1 : Int) := of_decide_eq_true Zq1
       have q178 : x5_1 < (l0.length : Int) := of_decide_eq_true Zq1
       obtain ⟨ad178, e178, hx178_0, hx178_1, hx178_2, hx178_3⟩ := at_T30 HR0.out x5_1 p178 q178
       cases e178
       replace p178 := eq_true p178
       replace q178 := eq_true q178
       have p179 : 0 ≤ (x5_1 : Int) := of_decide_eq_true Zq1
       have q179 : x5_1 < (l1.length : Int) := of_decide_eq_true Zq1
       obtain ⟨ad179, e179, hx179_0, hx179_1, hx179_2, hx179_3⟩ := at_T30 HR1.out x5_1 p179 q179
       cases e179
       replace p179 := eq_true p179
       replace q179 := eq_true q179
       go_wp2
       repeat (go_quiet (fail); try go_wp2)
       go_roundg k1
       case measure => have := HK1.out; omega
       case rel => exact ⟨(wrap64 (x5_1 + 1)), Zq11, H', ⟨by have := HK1.out; omega⟩, Zy56⟩
     ·rw [if_neg c6] at H
      exact absurd H (by simp)
    ·rw [if_neg c5] at H
     exact absurd H (by simp)
   ·rw [if_neg c4] at H
    have c4b0 : decide (x5_1 < (l0.length : Int)) = false := decide_eq_false c4
    clear c4
    obtain rfl := Option.some.inj H
    go_wp2
    repeat (go_quiet (fail); try go_wp2)
    go_ret
    exact ⟨Zy59, Zy56⟩
def gongref08_Same.f (k : Nat) (a0_0 : Int) (a0_1 : Int) (a0_2 : Int) (a0_3 : Int) (l0_4 : List (S30)) (a1_0 : Int) (a1_1 : Int) (a1_2 : Int) (a1_3 : Int) (l1_4 : List (S30)) : Option (Bool) := if a0_0 = a1_0 then (if a0_1 = a1_1 then (if a0_2 = a1_2 then (if a0_3 = a1_3 then ((gongref08_SameBinds.f k l0_4 l1_4).bind fun t182 => (some t182)) else (some false)) else (some false)) else (some false)) else (some false)
set_option maxHeartbeats 8000000 in
set_option maxRecDepth 100000 in
theorem gongref08_Same.calls (k : Nat) (a0_0 : Int) (a0_1 : Int) (a0_2 : Int) (a0_3 : Int) (A0_4 : Option Addr) (c0_4 : Nat) (l0_4 : List (S30)) (a1_0 : Int) (a1_1 : Int) (a1_2 : Int) (a1_3 : Int) (A1_4 : Option Addr) (c1_4 : Nat) (l1_4 : List (S30)) (r : Bool) (w : World) (hr0_4 : Kd.C k30 w A0_4 l0_4.length l0_4) (hc0_4 : l0_4.length ≤ c0_4) (hr1_4 : Kd.C k30 w A1_4 l1_4.length l1_4) (hc1_4 : l1_4.length ≤ c1_4) (h : gongref08_Same.f k a0_0 a0_1 a0_2 a0_3 l0_4 a1_0 a1_1 a1_2 a1_3 l1_4 = some r) :
  Calls Tryz.prog 16 #[.agg #[.int .i64 a0_0, .int .i64 a0_1, .int .i64 a0_2, .int .i64 a0_3, .slice A0_4 l0_4.length c0_4], .agg #[.int .i64 a1_0, .int .i64 a1_1, .int .i64 a1_2, .int .i64 a1_3, .slice A1_4 l1_4.length c1_4]] w fun e w' => e = .returned (.bool r) ∧ Below w.heap.size w w' := by
 have hu35 := Tryz.underlying35
 have HR0_4 := Aside0.mk hr0_4
 have HC0_4 := Aside0.mk hc0_4
 clear hr0_4 hc0_4
 have HR1_4 := Aside0.mk hr1_4
 have HC1_4 := Aside0.mk hc1_4
 clear hr1_4 hc1_4
 have HB := Aside0.mk (Below.refl w.heap.size w)
 have H : (if a0_0 = a1_0 then (if a0_1 = a1_1 then (if a0_2 = a1_2 then (if a0_3 = a1_3 then ((gongref08_SameBinds.f k l0_4 l1_4).bind fun t182 => (some t182)) else (some false)) else (some false)) else (some false)) else (some false)) = some r := h
 clear h
 by_cases c3 : a0_0 = a1_0
 rotate_left
 ·rw [if_neg c3] at H
  have c3b0 : (a0_0 == a1_0) = false := beq_eq_false_iff_ne.mpr c3
  have c3b1 : (a0_0 != a1_0) = true := bne_iff_ne.mpr c3
  obtain rfl := Option.some.inj H
  go_enter Tryz.func16, Tryz.ntmps16
  go_wp2_with (first | ((with_reducible refine gate_dst (N := 2) rfl ?_); refine box_event ?hg (N := 2) ?hd (cs := #[.int .i64 a0_0, .int .i64 a0_1, .int .i64 a0_2, .int .i64 a0_3, .slice A0_4 l0_4.length c0_4]) (t := 35) ?hr ?_; (case hd => rfl); (case hg => rfl); (case hr => exact Zq2); intro gb180 hg w28 hbox hb; have BK180 := Aside0.mk (hbox); have GW180 := Aside0.mk ((Zq50 : w.heap.size ≤ gb180)); have GE180 := Aside0.mk ((Zq50 : w.heap.size ≤ gb180)); replace HB := Aside0.mk (below_step Zq12 hb); clear hb hbox hg) | ((with_reducible refine gate_dst (N := 3) rfl ?_); refine box_event ?hg (N := 3) ?hd (cs := #[.int .i64 a1_0, .int .i64 a1_1, .int .i64 a1_2, .int .i64 a1_3, .slice A1_4 l1_4.length c1_4]) (t := 35) ?hr ?_; (case hd => rfl); (case hg => rfl); (case hr => exact Zq2); intro gb181 hg w29 hbox hb; have BK181 := Aside0.mk (hbox); have GW181 := Aside0.mk ((Zq54 : w.heap.size ≤ gb181)); have GE181 := Aside0.mk ((Zq54 : w.heap.size ≤ gb181)); have NB180_181 := Aside0.mk ((Zq62 : gb180 ≠ gb181)); have NB181_180 := Aside0.mk ((Zq61 : gb181 ≠ gb180)); replace BK180 := Aside0.mk (blkb_ BK180.out Zq31 hb); replace HB := Aside0.mk (below_step Zq20 hb); clear hb hbox hg; have hnb30 := NB180_181.out; have hnc30 := NB181_180.out; obtain ⟨hcz31_0, hcz31_1, hcz31_2, hcz31_3, hcz31_4⟩ := cells5_ BK180.out; obtain ⟨hfz31_0, hfz31_1, hfz31_2, hfz31_3, hfz31_4⟩ := frozen5_ BK180.out; obtain ⟨hcz32_0, hcz32_1, hcz32_2, hcz32_3, hcz32_4⟩ := cells5_ BK181.out; obtain ⟨hfz32_0, hfz32_1, hfz32_2, hfz32_3, hfz32_4⟩ := frozen5_ BK181.out))
  go_ret
  exact ⟨Zy41, Zy14⟩
 rw [if_pos c3] at H
 have c3b0 : (a0_0 == a1_0) = true := beq_iff_eq.mpr c3
 have c3b1 : (a0_0 != a1_0) = false := bne_eq_false_iff_eq.mpr c3
 clear c3
 by_cases c4 : a0_1 = a1_1
 rotate_left
 ·rw [if_neg c4] at H
  have c4b0 : (a0_1 == a1_1) = false := beq_eq_false_iff_ne.mpr c4
  have c4b1 : (a0_1 != a1_1) = true := bne_iff_ne.mpr c4
  obtain rfl := Option.some.inj H
  go_enter Tryz.func16, Tryz.ntmps16
  go_wp2_with (first | ((with_reducible refine gate_dst (N := 2) rfl ?_); refine box_event ?hg (N := 2) ?hd (cs := #[.int .i64 a0_0, .int .i64 a0_1, .int .i64 a0_2, .int .i64 a0_3, .slice A0_4 l0_4.length c0_4]) (t := 35) ?hr ?_; (case hd => rfl); (case hg => rfl); (case hr => exact Zq2); intro gb180 hg w23 hbox hb; have BK180 := Aside0.mk (hbox); have GW180 := Aside0.mk ((Zq50 : w.heap.size ≤ gb180)); have GE180 := Aside0.mk ((Zq50 : w.heap.size ≤ gb180)); replace HB := Aside0.mk (below_step Zq12 hb); clear hb hbox hg) | ((with_reducible refine gate_dst (N := 3) rfl ?_); refine box_event ?hg (N := 3) ?hd (cs := #[.int .i64 a1_0, .int .i64 a1_1, .int .i64 a1_2, .int .i64 a1_3, .slice A1_4 l1_4.length c1_4]) (t := 35) ?hr ?_; (case hd => rfl); (case hg => rfl); (case hr => exact Zq2); intro gb181 hg w24 hbox hb; have BK181 := Aside0.mk (hbox); have GW181 := Aside0.mk ((Zq54 : w.heap.size ≤ gb181)); have GE181 := Aside0.mk ((Zq54 : w.heap.size ≤ gb181)); have NB180_181 := Aside0.mk ((Zq62 : gb180 ≠ gb181)); have NB181_180 := Aside0.mk ((Zq61 : gb181 ≠ gb180)); replace BK180 := Aside0.mk (blkb_ BK180.out Zq31 hb); replace HB := Aside0.mk (below_step Zq20 hb); clear hb hbox hg; have hnb25 := NB180_181.out; have hnc25 := NB181_180.out; obtain ⟨hcz26_0, hcz26_1, hcz26_2, hcz26_3, hcz26_4⟩ := cells5_ BK180.out; obtain ⟨hfz26_0, hfz26_1, hfz26_2, hfz26_3, hfz26_4⟩ := frozen5_ BK180.out; obtain ⟨hcz27_0, hcz27_1, hcz27_2, hcz27_3, hcz27_4⟩ := cells5_ BK181.out; obtain ⟨hfz27_0, hfz27_1, hfz27_2, hfz27_3, hfz27_4⟩ := frozen5_ BK181.out))
  go_ret
  exact ⟨Zy41, Zy14⟩
 rw [if_pos c4] at H
 have c4b0 : (a0_1 == a1_1) = true := beq_iff_eq.mpr c4
 have c4b1 : (a0_1 != a1_1) = false := bne_eq_false_iff_eq.mpr c4
 clear c4
 by_cases c5 : a0_2 = a1_2
 rotate_left
 ·rw [if_neg c5] at H
  have c5b0 : (a0_2 == a1_2) = false := beq_eq_false_iff_ne.mpr c5
  have c5b1 : (a0_2 != a1_2) = true := bne_iff_ne.mpr c5
  obtain rfl := Option.some.inj H
  go_enter Tryz.func16, Tryz.ntmps16
  go_wp2_with (first | ((with_reducible refine gate_dst (N := 2) rfl ?_); refine box_event ?hg (N := 2) ?hd (cs := #[.int .i64 a0_0, .int .i64 a0_1, .int .i64 a0_2, .int .i64 a0_3, .slice A0_4 l0_4.length c0_4]) (t := 35) ?hr ?_; (case hd => rfl); (case hg => rfl); (case hr => exact Zq2); intro gb180 hg w18 hbox hb; have BK180 := Aside0.mk (hbox); have GW180 := Aside0.mk ((Zq50 : w.heap.size ≤ gb180)); have GE180 := Aside0.mk ((Zq50 : w.heap.size ≤ gb180)); replace HB := Aside0.mk (below_step Zq12 hb); clear hb hbox hg) | ((with_reducible refine gate_dst (N := 3) rfl ?_); refine box_event ?hg (N := 3) ?hd (cs := #[.int .i64 a1_0, .int .i64 a1_1, .int .i64 a1_2, .int .i64 a1_3, .slice A1_4 l1_4.length c1_4]) (t := 35) ?hr ?_; (case hd => rfl); (case hg => rfl); (case hr => exact Zq2); intro gb181 hg w19 hbox hb; have BK181 := Aside0.mk (hbox); have GW181 := Aside0.mk ((Zq54 : w.heap.size ≤ gb181)); have GE181 := Aside0.mk ((Zq54 : w.heap.size ≤ gb181)); have NB180_181 := Aside0.mk ((Zq62 : gb180 ≠ gb181)); have NB181_180 := Aside0.mk ((Zq61 : gb181 ≠ gb180)); replace BK180 := Aside0.mk (blkb_ BK180.out Zq31 hb); replace HB := Aside0.mk (below_step Zq20 hb); clear hb hbox hg; have hnb20 := NB180_181.out; have hnc20 := NB181_180.out; obtain ⟨hcz21_0, hcz21_1, hcz21_2, hcz21_3, hcz21_4⟩ := cells5_ BK180.out; obtain ⟨hfz21_0, hfz21_1, hfz21_2, hfz21_3, hfz21_4⟩ := frozen5_ BK180.out; obtain ⟨hcz22_0, hcz22_1, hcz22_2, hcz22_3, hcz22_4⟩ := cells5_ BK181.out; obtain ⟨hfz22_0, hfz22_1, hfz22_2, hfz22_3, hfz22_4⟩ := frozen5_ BK181.out))
  go_ret
  exact ⟨Zy41, Zy14⟩
 rw [if_pos c5] at H
 have c5b0 : (a0_2 == a1_2) = true := beq_iff_eq.mpr c5
 have c5b1 : (a0_2 != a1_2) = false := bne_eq_false_iff_eq.mpr c5
 clear c5
 by_cases c6 : a0_3 = a1_3
 rotate_left
 ·rw [if_neg c6] at H
  have c6b0 : (a0_3 == a1_3) = false := beq_eq_false_iff_ne.mpr c6
  have c6b1 : (a0_3 != a1_3) = true := bne_iff_ne.mpr c6
  obtain rfl := Option.some.inj H
  go_enter Tryz.func16, Tryz.ntmps16
  go_wp2_with (first | ((with_reducible refine gate_dst (N := 2) rfl ?_); refine box_event ?hg (N := 2) ?hd (cs := #[.int .i64 a0_0, .int .i64 a0_1, .int .i64 a0_2, .int .i64 a0_3, .slice A0_4 l0_4.length c0_4]) (t := 35) ?hr ?_; (case hd => rfl); (case hg => rfl); (case hr => exact Zq2); intro gb180 hg w13 hbox hb; have BK180 := Aside0.mk (hbox); have GW180 := Aside0.mk ((Zq50 : w.heap.size ≤ gb180)); have GE180 := Aside0.mk ((Zq50 : w.heap.size ≤ gb180)); replace HB := Aside0.mk (below_step Zq12 hb); clear hb hbox hg) | ((with_reducible refine gate_dst (N := 3) rfl ?_); refine box_event ?hg (N := 3) ?hd (cs := #[.int .i64 a1_0, .int .i64 a1_1, .int .i64 a1_2, .int .i64 a1_3, .slice A1_4 l1_4.length c1_4]) (t := 35) ?hr ?_; (case hd => rfl); (case hg => rfl); (case hr => exact Zq2); intro gb181 hg w14 hbox hb; have BK181 := Aside0.mk (hbox); have GW181 := Aside0.mk ((Zq54 : w.heap.size ≤ gb181)); have GE181 := Aside0.mk ((Zq54 : w.heap.size ≤ gb181)); have NB180_181 := Aside0.mk ((Zq62 : gb180 ≠ gb181)); have NB181_180 := Aside0.mk ((Zq61 : gb181 ≠ gb180)); replace BK180 := Aside0.mk (blkb_ BK180.out Zq31 hb); replace HB := Aside0.mk (below_step Zq20 hb); clear hb hbox hg; have hnb15 := NB180_181.out; have hnc15 := NB181_180.out; obtain ⟨hcz16_0, hcz16_1, hcz16_2, hcz16_3, hcz16_4⟩ := cells5_ BK180.out; obtain ⟨hfz16_0, hfz16_1, hfz16_2, hfz16_3, hfz16_4⟩ := frozen5_ BK180.out; obtain ⟨hcz17_0, hcz17_1, hcz17_2, hcz17_3, hcz17_4⟩ := cells5_ BK181.out; obtain ⟨hfz17_0, hfz17_1, hfz17_2, hfz17_3, hfz17_4⟩ := frozen5_ BK181.out))
  go_ret
  exact ⟨Zy41, Zy14⟩
 rw [if_pos c6] at H
 have c6b0 : (a0_3 == a1_3) = true := beq_iff_eq.mpr c6
 have c6b1 : (a0_3 != a1_3) = false := bne_eq_false_iff_eq.mpr c6
 clear c6
 replace H := Option.bind_eq_some_iff.mp H
 obtain ⟨t182, A70, H⟩ := H
 replace H : (some t182) = some r := H
 have A7 := Aside0.mk A70
 clear A70
 obtain rfl := Option.some.inj H
 go_enter Tryz.func16, Tryz.ntmps16
 go_wp2_with (first | ((with_reducible refine gate_dst (N := 2) rfl ?_); refine box_event ?hg (N := 2) ?hd (cs := #[.int .i64 a0_0, .int .i64 a0_1, .int .i64 a0_2, .int .i64 a0_3, .slice A0_4 l0_4.length c0_4]) (t := 35) ?hr ?_; (case hd => rfl); (case hg => rfl); (case hr => exact Zq2); intro gb180 hg w8 hbox hb; have BK180 := Aside0.mk (hbox); have GW180 := Aside0.mk ((Zq50 : w.heap.size ≤ gb180)); have GE180 := Aside0.mk ((Zq50 : w.heap.size ≤ gb180)); replace HB := Aside0.mk (below_step Zq12 hb); clear hb hbox hg) | ((with_reducible refine gate_dst (N := 3) rfl ?_); refine box_event ?hg (N := 3) ?hd (cs := #[.int .i64 a1_0, .int .i64 a1_1, .int .i64 a1_2, .int .i64 a1_3, .slice A1_4 l1_4.length c1_4]) (t := 35) ?hr ?_; (case hd => rfl); (case hg => rfl); (case hr => exact Zq2); intro gb181 hg w9 hbox hb; have BK181 := Aside0.mk (hbox); have GW181 := Aside0.mk ((Zq54 : w.heap.size ≤ gb181)); have GE181 := Aside0.mk ((Zq54 : w.heap.size ≤ gb181)); have NB180_181 := Aside0.mk ((Zq62 : gb180 ≠ gb181)); have NB181_180 := Aside0.mk ((Zq61 : gb181 ≠ gb180)); replace BK180 := Aside0.mk (blkb_ BK180.out Zq31 hb); replace HB := Aside0.mk (below_step Zq20 hb); clear hb hbox hg; have hnb10 := NB180_181.out; have hnc10 := NB181_180.out; obtain ⟨hcz11_0, hcz11_1, hcz11_2, hcz11_3, hcz11_4⟩ := cells5_ BK180.out; obtain ⟨hfz11_0, hfz11_1, hfz11_2, hfz11_3, hfz11_4⟩ := frozen5_ BK180.out; obtain ⟨hcz12_0, hcz12_1, hcz12_2, hcz12_3, hcz12_4⟩ := cells5_ BK181.out; obtain ⟨hfz12_0, hfz12_1, hfz12_2, hfz12_3, hfz12_4⟩ := frozen5_ BK181.out) | (go_at_call 12; (with_reducible refine (gongref08_SameBinds.calls k _ _ l0_4 _ _ l1_4 t182 _ ?side1 ?side2 ?side3 ?side4 A7.out).mono ?_); (case side1 => exact Zq32); (case side2 => exact HC0_4.out); (case side3 => repeat (first | exact (Kd.C_below HR1_4.out HB.out) | (with_reducible refine Kd.C_alloc ?_ _) | (with_reducible refine Kd.C_drewN ?_ _) | (with_reducible refine Kd.C_drew ?_))); (case side4 => exact HC1_4.out); rintro e w' ⟨rfl, ⟨nd, rfl⟩⟩))
 go_ret
 exact ⟨Zy41, Zy14⟩
def IsS141 (w0 W : World) (g : Nat) (f0 : ByteArray) (f1 : Int) : Prop := W.heap[g]? = some (.cells #[.string f0, .int .i64 f1] 141 (0, 0)) ∧ w0.heap.size ≤ g
theorem IsS141.grown {w0 W : World} {g : Nat} {f0 : ByteArray} {f1 : Int} {W1 : World} {row : Option Nat} (h : IsS141 w0 W g f0 f1) (hw : W.grownBy W1 row) (hne : some g ≠ row) : IsS141 w0 W1 g f0 f1 := by
 obtain ⟨hb, hg⟩ := h
 exact ⟨blk_grown hb hw hne, hg⟩
theorem IsS141.fresh {w0 W : World} {g : Nat} {f0 : ByteArray} {f1 : Int} (h : IsS141 w0 W g f0 f1) : ∀ k, W.heap.size ≤ k → k ≠ g := by
 obtain ⟨hb, hg⟩ := h
 exact Kd.freshB hb
theorem IsS141.kept {w0 W : World} {g : Nat} {f0 : ByteArray} {f1 : Int} {W1 : World} {S : Nat → Prop} (h : IsS141 w0 W g f0 f1) (hk : Kept W W1 S) (hne : ¬ S g) : IsS141 w0 W1 g f0 f1 := by
 obtain ⟨hb, hg⟩ := h
 exact ⟨blk_kept hb hk hne, hg⟩
theorem IsS141.below {w0 W : World} {g : Nat} {f0 : ByteArray} {f1 : Int} {W1 : World} (h : IsS141 w0 W g f0 f1) (hw : Below W.heap.size W W1) : IsS141 w0 W1 g f0 f1 := h.grown (grown_of_below hw none) (by simp)
theorem IsS141.alloc {w0 W : World} {g : Nat} {f0 : ByteArray} {f1 : Int} (h : IsS141 w0 W g f0 f1) (o : Obj) : IsS141 w0 (W.alloc o) g f0 f1 := h.below (below_alloc (Below.refl _ _) o)
theorem IsS141.drewN {w0 W : World} {g : Nat} {f0 : ByteArray} {f1 : Int} (h : IsS141 w0 W g f0 f1) (m : Nat) : IsS141 w0 (W.drewN m) g f0 f1 := h
theorem IsS141.drew {w0 W : World} {g : Nat} {f0 : ByteArray} {f1 : Int} (h : IsS141 w0 W g f0 f1) : IsS141 w0 W.drew g f0 f1 := h
theorem IsS141.at_ {w0 W : World} {g : Nat} {f0 : ByteArray} {f1 : Int} {w' : World} {m : Nat} (hq : W.drewN m = w') (h : IsS141 w0 W g f0 f1) : IsS141 w0 w' g f0 f1 := by subst hq; exact IsS141.drewN h m
theorem IsS141.apart {w0 W : World} {g : Nat} {f0 : ByteArray} {f1 : Int} {α : Type} {d : Kd α} {e : Nat} {base : Nat} {ok : Nat → Prop} {v : Value} {xs : List α} (h : IsS141 w0 W g f0 f1) (ho : d.R e W base ok v xs) (ht : ∀ q, q ∈ e :: d.E → q ≠ 141) : d.R e W base (fun k => ok k ∧ k ≠ g) v xs := by
 obtain ⟨hb, hg⟩ := h
 exact Kd.R_types ho hb ht
theorem IsS141.own_ne {w0 W : World} {g : Nat} {f0 : ByteArray} {f1 : Int} {α : Type} {d : Kd α} {e : Nat} {base : Nat} {ok : Nat → Prop} {v : Value} {xs : List α} (h : IsS141 w0 W g f0 f1) (ho : d.R e W base ok v xs) (ht : e ≠ 141) : some g ≠ v.ownBlock := by
 obtain ⟨hb, hg⟩ := h
 exact Kd.R_ne ho hb ht
theorem IsS141.lt {w0 W : World} {g : Nat} {f0 : ByteArray} {f1 : Int} (h : IsS141 w0 W g f0 f1) : g < W.heap.size := by
 obtain ⟨hb, hg⟩ := h
 exact blk_lt hb
theorem IsS141.ge {w0 W : World} {g : Nat} {f0 : ByteArray} {f1 : Int} (h : IsS141 w0 W g f0 f1) : w0.heap.size ≤ g := by
 obtain ⟨hb, hg⟩ := h
 exact hg
theorem cellS141_0 {W : World} {g : Nat} {f0 : ByteArray} {f1 : Int} (h : W.heap[g]? = some (.cells #[.string f0, .int .i64 f1] 141 (0, 0))) : W.cell? ⟨g, 0, none⟩ = some (.string f0) := (blk_cell h 0).trans rfl
theorem IsS141.set_0 {w0 W : World} {g : Nat} {f0 : ByteArray} {f1 : Int} (h : IsS141 w0 W g f0 f1) (x : ByteArray) : IsS141 w0 (W.setCell ⟨g, 0, none⟩ (.string x)) g x f1 := by
 obtain ⟨hb, hg⟩ := h
 exact ⟨by simpa using blk_set hb 0 (.string x), hg⟩
theorem cellS141_1 {W : World} {g : Nat} {f0 : ByteArray} {f1 : Int} (h : W.heap[g]? = some (.cells #[.string f0, .int .i64 f1] 141 (0, 0))) : W.cell? ⟨g, 1, none⟩ = some (.int .i64 f1) := (blk_cell h 1).trans rfl
theorem IsS141.set_1 {w0 W : World} {g : Nat} {f0 : ByteArray} {f1 : Int} (h : IsS141 w0 W g f0 f1) (x : Int) : IsS141 w0 (W.setCell ⟨g, 1, none⟩ (.int .i64 x)) g f0 x := by
 obtain ⟨hb, hg⟩ := h
 exact ⟨by simpa using blk_set hb 1 (.int .i64 x), hg⟩
theorem IsS141.new (w0 W : World) (f0 : ByteArray) (f1 : Int) (hB : Below w0.heap.size w0 W) : IsS141 w0 (W.alloc (.cells #[.string f0, .int .i64 f1] 141)) W.heap.size f0 f1 := ⟨by simpa using heap_alloc_new W _, hB.size⟩
def octet_Read.f (a0 : ByteArray) : Option (ByteArray × Int) := some (a0, 0)
set_option maxHeartbeats 8000000 in
set_option maxRecDepth 100000 in
theorem octet_Read.calls (a0 : ByteArray) (r1 : ByteArray) (r2 : Int) (w0 w : World) (hB : Below w0.heap.size w0 w) (h : octet_Read.f a0 = some (r1, r2)) :
  Calls Tryz.prog 80 #[.string a0] w fun e w' => ∃ g_ : Nat, e = .returned (.pointer (some ⟨g_, 0, none⟩)) ∧ IsS141 w0 w' g_ r1 r2 ∧ Below w0.heap.size w0 w' ∧ Below w.heap.size w w' := by
 have hu141 := Tryz.underlying141
 have HBW := Aside0.mk (Below.refl w.heap.size w)
 have HW0 := Aside0.mk hB.size
 have HB := Aside0.mk hB
 clear hB
 have H : (some (a0, 0)) = some (r1, r2) := h
 clear h
 simp only [Option.some.injEq, Prod.mk.injEq] at H
 obtain ⟨rfl, rfl⟩ := H
 go_enter Tryz.func80, Tryz.ntmps80
 go_wp2_with (first | ((with_reducible refine gate_dst (N := 5) rfl ?_); refine box_event ?hg (N := 5) ?hd (cs := #[.string a0, .int .i64 0]) (t := 141) ?hr ?_; (case hd => rfl); (case hg => rfl); (case hr => exact Zq2); intro gb183 hg w2 hbox hb; have BK183 := Aside0.mk (hbox); have GW183 := Aside0.mk ((by rw [hg]; exact (below_size Zy36) : w.heap.size ≤ gb183)); have GE183 := Aside0.mk ((Nat.le_trans HW0.out (by rw [hg]; exact (below_size Zy36) : w.heap.size ≤ gb183) : w0.heap.size ≤ gb183)); replace HBW := Aside0.mk (below_step HBW.out hb); replace HB := Aside0.mk (below_step Zq12 hb); clear hb hbox hg))
 go_ret
 exact ⟨_, rfl, (show IsS141 w0 _ gb183 a0 0 from ⟨by (with_reducible repeat (first | refine blk_drewN ?_ _ | refine blk_drew ?_ | refine blk_alloc ?_ _)); exact BK183.out, GE183.out⟩), by repeat (first | (with_reducible first | exact HB.out | apply below_alloc | apply pw_below_drewN | apply below_drew1 | refine below_set ?_ GE183.out) | exact HB.out), by repeat (first | (with_reducible first | exact HBW.out | apply below_alloc | apply pw_below_drewN | apply below_drew1 | refine below_set ?_ GW183.out) | exact HBW.out)⟩
def octet_Reader_Code.f (s0_0 : ByteArray) (s0_1 : Int) : Option (Int × ByteArray × Int) := some (s0_1, s0_0, s0_1)
set_option maxHeartbeats 8000000 in
set_option maxRecDepth 100000 in
theorem octet_Reader_Code.calls (g : Nat) (s0_0 : ByteArray) (s0_1 : Int) (r1 : Int) (r2 : ByteArray) (r3 : Int) (w0 w : World) (hI : IsS141 w0 w g s0_0 s0_1) (hB : Below w0.heap.size w0 w) (h : octet_Reader_Code.f s0_0 s0_1 = some (r1, r2, r3)) :
  Calls Tryz.prog 82 #[.pointer (some ⟨g, 0, none⟩)] w fun e w' => e = .returned (.int .i64 r1) ∧ IsS141 w0 w' g r2 r3 ∧ Below w0.heap.size w0 w' ∧ KeepBut w w' g none := by
 have HI0 := Aside0.mk hI
 have HK := Aside0.mk (KeepBut.refl w g none)
 have HL := Aside0.mk hB.size
 clear hI
 have HW0 := Aside0.mk hB.size
 have HB := Aside0.mk hB
 clear hB
 have H : (some (s0_1, s0_0, s0_1)) = some (r1, r2, r3) := h
 clear h
 simp only [Option.some.injEq, Prod.mk.injEq] at H
 obtain ⟨rfl, rfl, rfl⟩ := H
 obtain ⟨HGz2, hgz2⟩ := HI0.out
 have hcz2_0 := cellS141_0 HGz2
 have hcz2_1 := cellS141_1 HGz2
 have hfz2_0 := blk_frozen HGz2 0
 have hfz2_1 := blk_frozen HGz2 1
 clear HGz2 hgz2
 go_enter Tryz.func82, Tryz.ntmps82
 go_wp2
 go_ret
 exact ⟨Zy41, Zy19, Zy21, Zy34⟩
def octet_Reader_Left.f (s0_0 : ByteArray) (s0_1 : Int) : Option (Int × ByteArray × Int) := some ((s0_0.size : Int), s0_0, s0_1)
set_option maxHeartbeats 8000000 in
set_option maxRecDepth 100000 in
theorem octet_Reader_Left.calls (g : Nat) (s0_0 : ByteArray) (s0_1 : Int) (r1 : Int) (r2 : ByteArray) (r3 : Int) (w0 w : World) (hI : IsS141 w0 w g s0_0 s0_1) (hB : Below w0.heap.size w0 w) (h : octet_Reader_Left.f s0_0 s0_1 = some (r1, r2, r3)) :
  Calls Tryz.prog 83 #[.pointer (some ⟨g, 0, none⟩)] w fun e w' => e = .returned (.int .i64 r1) ∧ IsS141 w0 w' g r2 r3 ∧ Below w0.heap.size w0 w' ∧ KeepBut w w' g none := by
 have HI0 := Aside0.mk hI
 have HK := Aside0.mk (KeepBut.refl w g none)
 have HL := Aside0.mk hB.size
 clear hI
 have HW0 := Aside0.mk hB.size
 have HB := Aside0.mk hB
 clear hB
 have H : (some ((s0_0.size : Int), s0_0, s0_1)) = some (r1, r2, r3) := h
 clear h
 simp only [Option.some.injEq, Prod.mk.injEq] at H
 obtain ⟨rfl, rfl, rfl⟩ := H
 obtain ⟨HGz2, hgz2⟩ := HI0.out
 have hcz2_0 := cellS141_0 HGz2
 have hcz2_1 := cellS141_1 HGz2
 have hfz2_0 := blk_frozen HGz2 0
 have hfz2_1 := blk_frozen HGz2 1
 clear HGz2 hgz2
 go_enter Tryz.func83, Tryz.ntmps83
 go_wp2
 go_ret
 exact ⟨Zy41, Zy19, Zy21, Zy34⟩
end Go.Proofs.YtfgdnnbhlnbojaaGreatDoor.XPdR
