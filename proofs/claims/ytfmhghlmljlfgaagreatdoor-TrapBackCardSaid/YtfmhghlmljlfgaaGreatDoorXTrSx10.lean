-- Laid by extprint.py (the session's own driver): functions told by the kit's printer and by hand.
import Derived.Test.YtfmhghlmljlfgaaGreatDoorXTrSx0
import Derived.Test.YtfmhghlmljlfgaaGreatDoorXTrSx5
import Derived.Test.YtfmhghlmljlfgaaGreatDoorXTrSx7
import Derived.Test.YtfmhghlmljlfgaaGreatDoorXTrSx8
import Derived.Test.YtfmhghlmljlfgaaGreatDoorXTrSx9
namespace Go.Proofs.YtfmhghlmljlfgaaGreatDoor.XTrS
open Go.RowKit Gong Go.Proofs.YtfmhghlmljlfgaaGreatDoorW.PrintWords Go.Proofs.YtfmhghlmljlfgaaGreatDoorW.PrintLast Go.Proofs.YtfmhghlmljlfgaaGreatDoorW.PrintMore
attribute [local go_sem] max2_int min2_int max_two min_two max_three min_three max_four min_four   -- for this text's walks alone
set_option linter.unusedVariables false
set_option linter.unusedSimpArgs false
def pdu_Encode.go (k : Nat) : List S40 → List UInt8 → Option (Option (List UInt8))
 | [], acc => some (some acc)
 | b :: l, acc => (pdu_bind.f k b.f0 b.f1.f0 b.f1.f1 b.f1.f2).bind fun s => if acc.length + s.size ≤ 1000000000 then (if 65536 < acc.length + s.size then some none else pdu_Encode.go k l (acc ++ s.data.toList)) else none
def pdu_Encode.cat (a b : ByteArray) : Option ByteArray := if a.size + b.size ≤ 1000000000 then some (a ++ b) else none
def pdu_Encode.nums (k : Nat) : List Int → ByteArray → Option ByteArray
 | [], y => some y
 | n :: ns, y => (ber_PutNumber.f k n).bind fun p => (pdu_wrap.f k 2 p).bind fun e => (pdu_Encode.cat y e).bind fun z => pdu_Encode.nums k ns z
def pdu_Encode.tail (k : Nat) (a0 : Int) (y : ByteArray) (acc : List UInt8) : Option (ByteArray × Int) :=
 (pdu_wrap.f k 48 ⟨acc.toArray⟩).bind fun s1 => (pdu_Encode.cat y s1).bind fun z => (pdu_wrap.f k a0 z).bind fun s => if 65536 < s.size then some (⟨#[]⟩, 2) else some (s, 0)
def pdu_Encode.rest (k : Nat) (a0 a1 a2 a3 : Int) : Option (List UInt8) → Option (ByteArray × Int)
 | none => some (⟨#[]⟩, 2)
 | some acc => (pdu_Encode.nums k [a1, a2, a3] ⟨#[]⟩).bind fun y => pdu_Encode.tail k a0 y acc
def pdu_Encode.f (k : Nat) (a0 a1 a2 a3 : Int) (l : List S40) : Option (ByteArray × Int) :=
 (pdu_Check.f k a0 a1 a2 a3 l).bind fun c => if c = 0 then (pdu_Encode.go k l []).bind fun o => pdu_Encode.rest k a0 a1 a2 a3 o else some (⟨#[]⟩, c)
set_option maxHeartbeats 8000000 in
set_option maxRecDepth 100000 in
theorem pdu_Encode.calls (k : Nat) (a0_0 : Int) (a0_1 : Int) (a0_2 : Int) (a0_3 : Int) (A0_4 : Option Addr) (c0_4 : Nat) (l0_4 : List (S40)) (r1 : ByteArray) (r2 : Int) (w : World) (hG : Gl w) (hr0_4 : Kd.C k40 w A0_4 l0_4.length l0_4) (hc0_4 : l0_4.length ≤ c0_4) (h : pdu_Encode.f k a0_0 a0_1 a0_2 a0_3 l0_4 = some (r1, r2)) :
  Calls Tryz.prog 28 #[.agg #[.int .i64 a0_0, .int .i64 a0_1, .int .i64 a0_2, .int .i64 a0_3, .slice A0_4 l0_4.length c0_4]] w fun e w' => e = .returned (.tuple #[.string r1, .int .i64 r2]) ∧ Below w.heap.size w w' := by
 have HGl := Aside0.mk hG
 have HR0 := Aside0.mk hr0_4
 have HC0 := Aside0.mk hc0_4
 have HLN := Aside0.mk hr0_4.2.1
 unfold pdu_Encode.f at h
 obtain ⟨c, hck, h⟩ := Option.bind_eq_some_iff.1 h
 have HCK := Aside0.mk hck
 clear hG hr0_4 hc0_4 hck
 go_enter Tryz.func28, Tryz.ntmps28
 go_wp2_with fail
 obtain ⟨w1, hw1⟩ : ∃ w1, w1 = w.alloc (.cells #[.int .i64 a0_0, .int .i64 a0_1, .int .i64 a0_2, .int .i64 a0_3, .slice A0_4 l0_4.length c0_4] 43) := ⟨_, rfl⟩
 have HX := Aside0.mk (show w1.heap[w.heap.size]? = some (.cells #[.int .i64 a0_0, .int .i64 a0_1, .int .i64 a0_2, .int .i64 a0_3, .slice A0_4 l0_4.length c0_4] 43 (0, 0)) by rw [hw1]; exact heap_alloc_new w _)
 have HB := Aside0.mk (show Below w.heap.size w w1 by rw [hw1]; exact below_alloc (Below.refl _ _) _)
 rw [← hw1]
 clear hw1
 refine (pdu_Check.calls k a0_0 a0_1 a0_2 a0_3 A0_4 c0_4 l0_4 c w1 (HGl.out.below HB.out) (Kd.C_below HR0.out HB.out) HC0.out HCK.out).mono ?_
 rintro e w3 ⟨rfl, hb3⟩
 have HX3 := Aside0.mk ((Mv.of_below (S := fun _ => False) hb3).heap HX.out id)
 have HB3 := Aside0.mk (Below.trans HB.out (Below.mono hb3 HB.out.size))
 clear hb3 HX HB HCK
 by_cases hc : c = 0
 case neg =>
  rw [if_neg hc] at h
  simp only [Option.some.injEq, Prod.mk.injEq] at h
  obtain ⟨rfl, rfl⟩ := h
  have e1 : (c != 0) = true := bne_iff_ne.mpr hc
  have e1' := eq_false hc
  clear hc
  go_wp2
  go_ret2
  exact ⟨rfl, HB3.out⟩
 subst hc
 rw [if_pos rfl] at h
 obtain ⟨o, hgo, h⟩ := Option.bind_eq_some_iff.1 h
 have HGO := Aside0.mk hgo
 have HH := Aside0.mk h
 clear hgo h
 have x4 := (blk_cell HX3.out 4).trans rfl
 go_upto_region 5 with (fail)
 obtain ⟨w4, hw4⟩ : ∃ w4, w4 = w3.alloc (.cells #[.pointer none, .slice none 0 0] 89) := ⟨_, rfl⟩
 have HBL := Aside0.mk (show Bl w4 w3.heap.size w3.heap.size (.slice none 0 0) [] by rw [hw4]; exact Bl.new w3 w3.heap.size (Nat.le_refl _))
 have HX4 := Aside0.mk (show w4.heap[w.heap.size]? = some (.cells #[.int .i64 a0_0, .int .i64 a0_1, .int .i64 a0_2, .int .i64 a0_3, .slice A0_4 l0_4.length c0_4] 43 (0, 0)) by rw [hw4]; exact ((Mv.refl (fun _ => False) w3).alloc _).heap HX3.out id)
 have HB4 := Aside0.mk (show Below w.heap.size w w4 by rw [hw4]; exact below_alloc HB3.out _)
 have HBB := Aside0.mk (show w.heap.size < w3.heap.size from (Array.getElem?_eq_some_iff.1 HX3.out).1)
 rw [← hw4]
 clear x4 hw4 HX3 HB3
 generalize w3.heap.size = b at HBL HBB ⊢
 have x4 := (blk_cell HX4.out 4).trans rfl
 go_wp2
 clear x4
 go_loopg [20] (l0_4.length + 2) (fun kq v20 W => ∃ (i : Nat) (bv : Value) (acc : List UInt8), v20 = .int .i64 i ∧ Aside0 (i ≤ l0_4.length) ∧ Aside0 (l0_4.length - i < kq) ∧ Aside0 (pdu_Encode.go k (l0_4.drop i) acc = some o) ∧ Aside0 (Bl W b b bv acc) ∧ Aside0 (W.heap[w.heap.size]? = some (.cells #[.int .i64 a0_0, .int .i64 a0_1, .int .i64 a0_2, .int .i64 a0_3, .slice A0_4 l0_4.length c0_4] 43 (0, 0))) ∧ Aside0 (Below w.heap.size w W))
 case atStart => exact ⟨0, _, [], rfl, ⟨Nat.zero_le _⟩, ⟨by omega⟩, HGO, HBL, HX4, HB4⟩
 case round =>
  clear HGO HBL HX4 HB4
  obtain ⟨i, bv, acc, rfl, HI, HKQ, HGO, HBL, HX, HB⟩ := hrel
  by_cases ci : i < l0_4.length
  ·obtain ⟨x, hx⟩ : ∃ x, l0_4[i]? = some x := ⟨_, List.getElem?_eq_getElem ci⟩
   have hd : l0_4.drop i = x :: l0_4.drop (i + 1) := by
    obtain ⟨h1, h2⟩ := List.getElem?_eq_some_iff.1 hx
    rw [← h2]; exact List.drop_eq_getElem_cons h1
   have hgo := HGO.out
   rw [hd, pdu_Encode.go] at hgo
   obtain ⟨s, hbd, hgo⟩ := Option.bind_eq_some_iff.1 hgo
   by_cases hsz : acc.length + s.size ≤ 1000000000
   case neg => rw [if_neg hsz] at hgo; exact absurd hgo (by simp)
   rw [if_pos hsz] at hgo
   obtain ⟨ad, rfl, y0, y1, y2, y3⟩ := at_T40 (Kd.C_below HR0.out HB.out) (i : Int) (by omega) (by omega)
   have hrd : rd_T40 l0_4 (i : Int) = x := by unfold rd_T40; rw [Int.toNat_natCast, List.getD_eq_getElem?_getD, hx]; rfl
   rw [hrd] at y0 y1 y2 y3
   rw [Int.toNat_natCast] at y0 y1 y2 y3
   have HI2 := Aside0.mk ci
   have HBD := Aside0.mk hbd
   have HGO2 := Aside0.mk hgo
   have HSZ := Aside0.mk hsz
   have e1 := eq_true ci
   have e2 : decide ((i : Int) < (l0_4.length : Int)) = true := decide_eq_true (by omega)
   have e3 : (0 ≤ (i : Int)) = True := eq_true (by omega)
   have e9 : wrap64 ((i : Int) + 1) = ((i + 1 : Nat) : Int) := by have := HLN.out; unfold wrap64; omega
   clear hd hgo hbd hsz hx hrd ci HGO HI
   go_wp2_with fail
   obtain ⟨w5, hw5⟩ : ∃ w5, w5 = wr.alloc (.cells #[.string x.f0, .int .i64 x.f1.f0, .int .i64 x.f1.f1, .string x.f1.f2] 40) := ⟨_, rfl⟩
   have hb5 : Below wr.heap.size wr w5 := by rw [hw5]; exact below_alloc (Below.refl _ _) _
   rw [← hw5]
   clear hw5
   refine (pdu_bind.calls k x.f0 x.f1.f0 x.f1.f1 x.f1.f2 s w5 (HGl.out.below (Below.trans HB.out (Below.mono hb5 HB.out.size))) HBD.out).mono ?_
   rintro e w6 ⟨rfl, hb6⟩
   have hb56 : Below wr.heap.size wr w6 := Below.trans hb5 (Below.mono hb6 hb5.size)
   have HBL6 := Aside0.mk (HBL.out.keep hb56)
   have HX6 := Aside0.mk ((Mv.of_below (S := fun _ => False) hb56).heap HX.out id)
   have HB6 := Aside0.mk (Below.trans HB.out (Below.mono hb56 HB.out.size))
   clear hb5 hb6 hb56 y0 y1 y2 y3 HBL HX HB
   go_wp2_with fail
   refine (HBL6.out.write s (by have := HSZ.out; omega)).mono ?_
   rintro e w7 ⟨rfl, v7, hbl7, ho7, hm7⟩
   have HBL7 := Aside0.mk hbl7
   have HX7 := Aside0.mk (hm7.heap HX6.out (fun h => h.elim (fun h => by have := HBB.out; omega) (fun h => by have := (World.ownsRow.lt HBL6.out.row _ h).1; have := HBB.out; omega)))
   have HB7 := Aside0.mk (Below.trans HB6.out (hm7.below HB6.out.size (fun q hq => hq.elim (fun h => by have := HBB.out; omega) (fun h => by have := (World.ownsRow.lt HBL6.out.row _ h).1; have := HBB.out; omega))))
   clear hbl7 ho7 hm7 HBL6 HX6 HB6
   go_wp2_with fail
   refine HBL7.out.len_.mono ?_
   rintro e w8 ⟨rfl, rfl⟩
   have HLA := Aside0.mk (show (acc ++ s.data.toList).length = acc.length + s.size by simp)
   by_cases hbig : 65536 < acc.length + s.size
   ·have hgo := HGO2.out
    rw [if_pos hbig, Option.some.injEq] at hgo
    subst hgo
    have hh := HH.out
    unfold pdu_Encode.rest at hh
    simp only [Option.some.injEq, Prod.mk.injEq] at hh
    obtain ⟨rfl, rfl⟩ := hh
    have e6 : ((65536 : Int) < (acc.length : Int) + (s.size : Int)) = True := eq_true (by omega)
    have e7 : decide ((65536 : Int) < (acc.length : Int) + (s.size : Int)) = true := decide_eq_true (by omega)
    clear hbig
    go_wp2
    go_ret2
    exact ⟨rfl, HB7.out⟩
   ·have hgo := HGO2.out
    rw [if_neg hbig] at hgo
    have HGO3 := Aside0.mk hgo
    have e6 : ((65536 : Int) < (acc.length : Int) + (s.size : Int)) = False := eq_false (by omega)
    have e7 : decide ((65536 : Int) < (acc.length : Int) + (s.size : Int)) = false := decide_eq_false (by omega)
    clear hbig hgo
    go_wp2
    go_roundg (l0_4.length - (i + 1) + 1)
    case measure => have := HKQ.out; have := HI2.out; omega
    case rel => exact ⟨i + 1, v7, acc ++ s.data.toList, by first | rfl | rw [e9], ⟨HI2.out⟩, ⟨by omega⟩, HGO3, HBL7, HX7, HB7⟩
  ·have hi : i = l0_4.length := by have := HI.out; omega
   have hgo := HGO.out
   rw [hi, List.drop_length, pdu_Encode.go, Option.some.injEq] at hgo
   subst hgo
   have hh := HH.out
   unfold pdu_Encode.rest at hh
   obtain ⟨y, hns, hh⟩ := Option.bind_eq_some_iff.1 hh
   have HNS := Aside0.mk hns
   have HHH := Aside0.mk hh
   have e1 := eq_false ci
   have e2 : decide ((i : Int) < (l0_4.length : Int)) = false := decide_eq_false (by omega)
   have x1 := (blk_cell HX.out 1).trans rfl
   have x2 := (blk_cell HX.out 2).trans rfl
   have x3 := (blk_cell HX.out 3).trans rfl
   clear hns hh ci hi HGO HI HKQ HH
   go_wp2
   clear x1 x2 x3
   generalize HW2 : wr = w10 at HBL HX HB ⊢
   clear HW2
   have u82 : Tryz.prog.underlying 83 = some (.array 3 3) := by kernel_rfl
   go_loopg [8, 37] 5 (fun kq v8 v37 W => ∃ (j : Nat) (y2 : ByteArray), v8 = .string y2 ∧ v37 = .int .i64 j ∧ Aside0 (j ≤ 3) ∧ Aside0 (3 - j < kq) ∧ Aside0 (pdu_Encode.nums k ([a0_1, a0_2, a0_3].drop j) y2 = some y) ∧ Aside0 (Bl W b b bv acc) ∧ Aside0 (W.heap[w.heap.size]? = some (.cells #[.int .i64 a0_0, .int .i64 a0_1, .int .i64 a0_2, .int .i64 a0_3, .slice A0_4 l0_4.length c0_4] 43 (0, 0))) ∧ Aside0 (Below w.heap.size w W))
   case atStart => exact ⟨0, _, rfl, rfl, ⟨by omega⟩, ⟨by omega⟩, HNS, HBL, HX, HB⟩
   case round =>
    clear HNS HBL HX HB
    obtain ⟨j, y2, rfl, rfl, HJ, HJK, HNS, HBL, HX, HB⟩ := hrel
    have hj : j = 0 ∨ j = 1 ∨ j = 2 ∨ j = 3 := by have := HJ.out; omega
    rcases hj with rfl | rfl | rfl | rfl
    ·have hns := HNS.out
     rw [show List.drop 0 [a0_1, a0_2, a0_3] = a0_1 :: List.drop 1 [a0_1, a0_2, a0_3] from rfl, pdu_Encode.nums] at hns
     obtain ⟨p, hp, hns⟩ := Option.bind_eq_some_iff.1 hns
     obtain ⟨q, hq, hns⟩ := Option.bind_eq_some_iff.1 hns
     obtain ⟨z, hz, hns⟩ := Option.bind_eq_some_iff.1 hns
     unfold pdu_Encode.cat at hz
     by_cases hc : y2.size + q.size ≤ 1000000000
     case neg => rw [if_neg hc] at hz; exact absurd hz (by simp)
     rw [if_pos hc, Option.some.injEq] at hz
     subst hz
     have HP := Aside0.mk hp
     have HQ := Aside0.mk hq
     have HN2 := Aside0.mk hns
     have e1 : (9223372036854775807 < y2.size + q.size) = False := eq_false (by omega)
     have hix : ∀ W, (Instr.index 83 (.agg #[.int .i64 a0_1, .int .i64 a0_2, .int .i64 a0_3]) (.int .i64 0)).run Tryz.prog W = .ok (.int .i64 a0_1) W := by
      intro W
      simp [Instr.index, run_underlying u82, asIntOf, go_sem]
     clear hp hq hns hc HNS HJ
     go_wp2_with fail
     refine (ber_PutNumber.calls k a0_1 p wr HP.out).mono ?_
     rintro e w11 ⟨rfl, hb11⟩
     go_wp2_with fail
     refine (pdu_wrap.calls k 2 p q w11 HQ.out).mono ?_
     rintro e w12 ⟨rfl, hb12⟩
     have hb13 : Below wr.heap.size wr w12 := Below.trans hb11 (Below.mono hb12 hb11.size)
     have HBL6 := Aside0.mk (HBL.out.keep hb13)
     have HX6 := Aside0.mk ((Mv.of_below (S := fun _ => False) hb13).heap HX.out id)
     have HB6 := Aside0.mk (Below.trans HB.out (Below.mono hb13 HB.out.size))
     clear hb11 hb12 hb13 HBL HX HB
     go_wp2
     go_roundg (3)
     case measure => have := HJK.out; omega
     case rel => exact ⟨1, y2 ++ q, rfl, rfl, ⟨by omega⟩, ⟨by omega⟩, HN2, HBL6, HX6, HB6⟩
    ·have hns := HNS.out
     rw [show List.drop 1 [a0_1, a0_2, a0_3] = a0_2 :: List.drop 2 [a0_1, a0_2, a0_3] from rfl, pdu_Encode.nums] at hns
     obtain ⟨p, hp, hns⟩ := Option.bind_eq_some_iff.1 hns
     obtain ⟨q, hq, hns⟩ := Option.bind_eq_some_iff.1 hns
     obtain ⟨z, hz, hns⟩ := Option.bind_eq_some_iff.1 hns
     unfold pdu_Encode.cat at hz
     by_cases hc : y2.size + q.size ≤ 1000000000
     case neg => rw [if_neg hc] at hz; exact absurd hz (by simp)
     rw [if_pos hc, Option.some.injEq] at hz
     subst hz
     have HP := Aside0.mk hp
     have HQ := Aside0.mk hq
     have HN2 := Aside0.mk hns
     have e1 : (9223372036854775807 < y2.size + q.size) = False := eq_false (by omega)
     have hix : ∀ W, (Instr.index 83 (.agg #[.int .i64 a0_1, .int .i64 a0_2, .int .i64 a0_3]) (.int .i64 1)).run Tryz.prog W = .ok (.int .i64 a0_2) W := by
      intro W
      simp [Instr.index, run_underlying u82, asIntOf, go_sem]
     clear hp hq hns hc HNS HJ
     go_wp2_with fail
     refine (ber_PutNumber.calls k a0_2 p wr HP.out).mono ?_
     rintro e w11 ⟨rfl, hb11⟩
     go_wp2_with fail
     refine (pdu_wrap.calls k 2 p q w11 HQ.out).mono ?_
     rintro e w12 ⟨rfl, hb12⟩
     have hb13 : Below wr.heap.size wr w12 := Below.trans hb11 (Below.mono hb12 hb11.size)
     have HBL6 := Aside0.mk (HBL.out.keep hb13)
     have HX6 := Aside0.mk ((Mv.of_below (S := fun _ => False) hb13).heap HX.out id)
     have HB6 := Aside0.mk (Below.trans HB.out (Below.mono hb13 HB.out.size))
     clear hb11 hb12 hb13 HBL HX HB
     go_wp2
     go_roundg (2)
     case measure => have := HJK.out; omega
     case rel => exact ⟨2, y2 ++ q, rfl, rfl, ⟨by omega⟩, ⟨by omega⟩, HN2, HBL6, HX6, HB6⟩
    ·have hns := HNS.out
     rw [show List.drop 2 [a0_1, a0_2, a0_3] = a0_3 :: List.drop 3 [a0_1, a0_2, a0_3] from rfl, pdu_Encode.nums] at hns
     obtain ⟨p, hp, hns⟩ := Option.bind_eq_some_iff.1 hns
     obtain ⟨q, hq, hns⟩ := Option.bind_eq_some_iff.1 hns
     obtain ⟨z, hz, hns⟩ := Option.bind_eq_some_iff.1 hns
     unfold pdu_Encode.cat at hz
     by_cases hc : y2.size + q.size ≤ 1000000000
     case neg => rw [if_neg hc] at hz; exact absurd hz (by simp)
     rw [if_pos hc, Option.some.injEq] at hz
     subst hz
     have HP := Aside0.mk hp
     have HQ := Aside0.mk hq
     have HN2 := Aside0.mk hns
     have e1 : (9223372036854775807 < y2.size + q.size) = False := eq_false (by omega)
     have hix : ∀ W, (Instr.index 83 (.agg #[.int .i64 a0_1, .int .i64 a0_2, .int .i64 a0_3]) (.int .i64 2)).run Tryz.prog W = .ok (.int .i64 a0_3) W := by
      intro W
      simp [Instr.index, run_underlying u82, asIntOf, go_sem]
     clear hp hq hns hc HNS HJ
     go_wp2_with fail
     refine (ber_PutNumber.calls k a0_3 p wr HP.out).mono ?_
     rintro e w11 ⟨rfl, hb11⟩
     go_wp2_with fail
     refine (pdu_wrap.calls k 2 p q w11 HQ.out).mono ?_
     rintro e w12 ⟨rfl, hb12⟩
     have hb13 : Below wr.heap.size wr w12 := Below.trans hb11 (Below.mono hb12 hb11.size)
     have HBL6 := Aside0.mk (HBL.out.keep hb13)
     have HX6 := Aside0.mk ((Mv.of_below (S := fun _ => False) hb13).heap HX.out id)
     have HB6 := Aside0.mk (Below.trans HB.out (Below.mono hb13 HB.out.size))
     clear hb11 hb12 hb13 HBL HX HB
     go_wp2
     go_roundg (1)
     case measure => have := HJK.out; omega
     case rel => exact ⟨3, y2 ++ q, rfl, rfl, ⟨by omega⟩, ⟨by omega⟩, HN2, HBL6, HX6, HB6⟩
    ·have hns := HNS.out
     rw [show List.drop 3 [a0_1, a0_2, a0_3] = [] from rfl, pdu_Encode.nums, Option.some.injEq] at hns
     subst hns
     have hh := HHH.out
     unfold pdu_Encode.tail at hh
     obtain ⟨s1, h1, hh⟩ := Option.bind_eq_some_iff.1 hh
     obtain ⟨z, hz, hh⟩ := Option.bind_eq_some_iff.1 hh
     obtain ⟨s2, h2, ht⟩ := Option.bind_eq_some_iff.1 hh
     clear hh
     unfold pdu_Encode.cat at hz
     by_cases hc : y2.size + s1.size ≤ 1000000000
     case neg => rw [if_neg hc] at hz; exact absurd hz (by simp)
     rw [if_pos hc, Option.some.injEq] at hz
     subst hz
     have H1 := Aside0.mk h1
     have H2 := Aside0.mk h2
     have H3 := Aside0.mk ht
     have e1 : (9223372036854775807 < y2.size + s1.size) = False := eq_false (by omega)
     clear h1 h2 ht hc HNS HJ HJK HHH
     go_upto_region 18 with (fail)
     have HX1 := Aside0.mk (blk_drew HX.out)
     have HB1 := Aside0.mk (below_drew1 HB.out)
     have HBL1 := Aside0.mk (HBL.out.mv ((Mv.refl (fun _ => False) wr).drew) id (fun _ _ => id))
     refine start_ (n := 8) (S := fun w' => w'.cell? ⟨w.heap.size, 0, none⟩ = some (.int .i64 a0_0)) (ds := []) #[false, false, false, false, false, false, false, false] (by kernel_rfl) rfl rfl ((blk_cell HX1.out 0).trans rfl) (fun hHeld => ?_)
     clear HX HB HBL
     generalize wr.drew = w11 at HX1 HB1 HBL1 hHeld ⊢
     refine pure_ (i := 0) (N := some 46) (v := ?_) (a' := ?_) #[true, false, false, false, false, false, false, false] rfl rfl (by kernel_rfl) (fun _ _ _ h => h) (Or.inl ⟨by rfl, ?_⟩) ?_ ?_
     rotate_left
     ·intro w'
      go_simp
      with_reducible rfl
     rotate_left
     ·simp only [Act.put, List.setIfInBounds_toArray, List.set_cons_zero, List.set_cons_succ, i64_w, i32_w]
      rfl
     refine take_ (i := 1) (N := some 47) (v := ?_) (a' := ?_) #[true, true, false, false, false, false, false, false] rfl rfl (by kernel_rfl) (fun _ _ _ h => h) (Or.inl ⟨by rfl, ?_⟩) hHeld ?_ ?_
     rotate_left
     ·intro w' s0
      go_simp
      with_reducible rfl
     rotate_left
     ·simp only [Act.put, List.setIfInBounds_toArray, List.set_cons_zero, List.set_cons_succ, i64_w, i32_w]
      rfl
     refine pure_ (i := 2) (N := some 48) (v := ?_) (a' := ?_) #[true, true, true, false, false, false, false, false] rfl rfl (by kernel_rfl) (fun _ _ _ h => h) (Or.inl ⟨by rfl, ?_⟩) ?_ ?_
     rotate_left
     ·intro w'
      go_simp
      with_reducible rfl
     rotate_left
     ·simp only [Act.put, List.setIfInBounds_toArray, List.set_cons_zero, List.set_cons_succ, i64_w, i32_w]
      rfl
     refine one_ (i := 3) (N := some 49) #[true, true, true, true, false, false, false, false] rfl rfl (by kernel_rfl) (by decide) (fun K hK => ?_)
     refine goes_ Tryz.func43 (by kernel_rfl) rfl #[.pointer (some ⟨b, 0, none⟩)] (by rfl) rfl rfl Zq3 ?_
     refine (HBL1.out.string).mono ?_
     rintro e w2 ⟨rfl, hm2⟩
     refine ⟨_, rfl, ?_⟩
     have HX2 := Aside0.mk (hm2.heap HX1.out (fun h => by have := (World.ownsRow.lt HBL1.out.row _ h).1; have := HBB.out; omega))
     have HB2 := Aside0.mk (Below.trans HB1.out (hm2.below HB1.out.size (fun q h => by have := (World.ownsRow.lt HBL1.out.row _ h).1; have := HBB.out; omega)))
     clear hm2 HX1 HB1 HBL1
     refine hK.out _ _ ((blk_cell HX2.out 0).trans rfl) (fun hHeld_ => ?_)
     clear hK K hHeld
     have hHeld := hHeld_
     clear hHeld_
     refine nz_ 49 ?_
     refine one_ (i := 4) (N := some 50) #[true, true, true, true, true, false, false, false] rfl rfl (by kernel_rfl) (by decide) (fun K hK => ?_)
     refine goes_ Tryz.func42 (by kernel_rfl) rfl #[.int .i64 48, .string ⟨acc.toArray⟩] (by rfl) rfl rfl Zq3 ?_
     refine (pdu_wrap.calls k 48 ⟨acc.toArray⟩ s1 _ H1.out).mono ?_
     rintro e w3 ⟨rfl, hb3⟩
     refine ⟨_, rfl, ?_⟩
     have HX3 := Aside0.mk ((Mv.of_below (S := fun _ => False) hb3).heap HX2.out id)
     have HB3 := Aside0.mk (Below.trans HB2.out (Below.mono hb3 HB2.out.size))
     clear hb3 HX2 HB2
     refine hK.out _ _ ((blk_cell HX3.out 0).trans rfl) (fun hHeld_ => ?_)
     clear hK K hHeld
     have hHeld := hHeld_
     clear hHeld_
     refine nz_ 50 ?_
     refine pure_ (i := 5) (N := some 51) (v := ?_) (a' := ?_) #[true, true, true, true, true, true, false, false] rfl rfl (by kernel_rfl) (fun _ _ _ h => h) (Or.inl ⟨by rfl, ?_⟩) ?_ ?_
     rotate_left
     ·intro w'
      go_simp
      with_reducible rfl
     rotate_left
     ·simp only [Act.put, List.setIfInBounds_toArray, List.set_cons_zero, List.set_cons_succ, i64_w, i32_w]
      rfl
     refine one_ (i := 6) (N := some 52) #[true, true, true, true, true, true, true, false] rfl rfl (by kernel_rfl) (by decide) (fun K hK => ?_)
     refine goes_ Tryz.func42 (by kernel_rfl) rfl #[.int .i64 a0_0, .string (y2 ++ s1)] (by rfl) rfl rfl Zq3 ?_
     refine (pdu_wrap.calls k a0_0 (y2 ++ s1) s2 _ H2.out).mono ?_
     rintro e w4 ⟨rfl, hb4⟩
     refine ⟨_, rfl, ?_⟩
     have HX4 := Aside0.mk ((Mv.of_below (S := fun _ => False) hb4).heap HX3.out id)
     have HB4 := Aside0.mk (Below.trans HB3.out (Below.mono hb4 HB3.out.size))
     clear hb4 HX3 HB3
     refine hK.out _ _ ((blk_cell HX4.out 0).trans rfl) (fun hHeld_ => ?_)
     clear hK K hHeld
     have hHeld := hHeld_
     clear hHeld_
     refine nz_ 52 ?_
     refine pure_ (i := 7) (N := some 11) (v := ?_) (a' := ?_) #[true, true, true, true, true, true, true, true] rfl rfl (by kernel_rfl) (fun _ _ _ h => h) (Or.inl ⟨by rfl, ?_⟩) ?_ ?_
     rotate_left
     ·intro w'
      go_simp
      with_reducible rfl
     rotate_left
     ·simp only [Act.put, List.setIfInBounds_toArray, List.set_cons_zero, List.set_cons_succ, i64_w, i32_w]
      rfl
     refine done_ (by kernel_rfl) ?_
     (try clear hHeld)
     have h3 := H3.out
     by_cases hbig : 65536 < s2.size
     ·rw [if_pos hbig] at h3
      simp only [Option.some.injEq, Prod.mk.injEq] at h3
      obtain ⟨rfl, rfl⟩ := h3
      have e6 : ((65536 : Int) < (s2.size : Int)) = True := eq_true (by omega)
      have e7 : decide ((65536 : Int) < (s2.size : Int)) = true := decide_eq_true (by omega)
      clear hbig
      go_wp2
      go_ret2
      exact ⟨rfl, HB4.out⟩
     ·rw [if_neg hbig] at h3
      simp only [Option.some.injEq, Prod.mk.injEq] at h3
      obtain ⟨rfl, rfl⟩ := h3
      have e6 : ((65536 : Int) < (s2.size : Int)) = False := eq_false (by omega)
      have e7 : decide ((65536 : Int) < (s2.size : Int)) = false := decide_eq_false (by omega)
      clear hbig
      go_wp2
      go_ret2
      exact ⟨rfl, HB4.out⟩
def trap_message.f (k : Nat) (a0 : ByteArray) (a1_0 : Int) (a1_1 : Int) (a1_2 : Int) (a1_3 : Int) (l1_4 : List (S40)) : Option (ByteArray × Int) := (pdu_Encode.f k a1_0 a1_1 a1_2 a1_3 l1_4).bind fun bt184 => (if bt184.2 = 0 then ((ber_PutNumber.f k 1).bind fun t186 => ((ber_Wrap.f k 2 t186).bind fun bt187 => ((ber_Wrap.f k 4 a0).bind fun bt189 => (if bt187.1.size + bt189.1.size ≤ 9223372036854775807 then (if (bt187.1 ++ bt189.1).size + bt184.1.size ≤ 9223372036854775807 then ((ber_Wrap.f k 48 ((bt187.1 ++ bt189.1) ++ bt184.1)).bind fun bt191 => (if (bt191.1.size : Int) > 65535 then (some ((⟨#[]⟩ : ByteArray), 2)) else (some (bt191.1, 0)))) else (none)) else (none))))) else (some ((⟨#[]⟩ : ByteArray), 2)))
set_option maxHeartbeats 8000000 in
set_option maxRecDepth 100000 in
theorem trap_message.calls (k : Nat) (a0 : ByteArray) (a1_0 : Int) (a1_1 : Int) (a1_2 : Int) (a1_3 : Int) (A1_4 : Option Addr) (c1_4 : Nat) (l1_4 : List (S40)) (r1 : ByteArray) (r2 : Int) (w : World) (hG : Gl w) (hr1_4 : Kd.C k40 w A1_4 l1_4.length l1_4) (hc1_4 : l1_4.length ≤ c1_4) (h : trap_message.f k a0 a1_0 a1_1 a1_2 a1_3 l1_4 = some (r1, r2)) :
  Calls Tryz.prog 16 #[.string a0, .agg #[.int .i64 a1_0, .int .i64 a1_1, .int .i64 a1_2, .int .i64 a1_3, .slice A1_4 l1_4.length c1_4]] w fun e w' => e = .returned (.tuple #[.string r1, .int .i64 r2]) ∧ Below w.heap.size w w' := by
 have HGl := Aside0.mk hG
 clear hG
 have hu43 := Tryz.underlying43
 have HR1_4 := Aside0.mk hr1_4
 have HC1_4 := Aside0.mk hc1_4
 clear hr1_4 hc1_4
 have HB := Aside0.mk (Below.refl w.heap.size w)
 have H : ((pdu_Encode.f k a1_0 a1_1 a1_2 a1_3 l1_4).bind fun bt184 => (if bt184.2 = 0 then ((ber_PutNumber.f k 1).bind fun t186 => ((ber_Wrap.f k 2 t186).bind fun bt187 => ((ber_Wrap.f k 4 a0).bind fun bt189 => (if bt187.1.size + bt189.1.size ≤ 9223372036854775807 then (if (bt187.1 ++ bt189.1).size + bt184.1.size ≤ 9223372036854775807 then ((ber_Wrap.f k 48 ((bt187.1 ++ bt189.1) ++ bt184.1)).bind fun bt191 => (if (bt191.1.size : Int) > 65535 then (some ((⟨#[]⟩ : ByteArray), 2)) else (some (bt191.1, 0)))) else (none)) else (none))))) else (some ((⟨#[]⟩ : ByteArray), 2)))) = some (r1, r2) := h
 clear h
 replace H := Option.bind_eq_some_iff.mp H
 obtain ⟨⟨t184, t185⟩, A30, H⟩ := H
 replace H : (if t185 = 0 then ((ber_PutNumber.f k 1).bind fun t186 => ((ber_Wrap.f k 2 t186).bind fun bt187 => ((ber_Wrap.f k 4 a0).bind fun bt189 => (if bt187.1.size + bt189.1.size ≤ 9223372036854775807 then (if (bt187.1 ++ bt189.1).size + t184.size ≤ 9223372036854775807 then ((ber_Wrap.f k 48 ((bt187.1 ++ bt189.1) ++ t184)).bind fun bt191 => (if (bt191.1.size : Int) > 65535 then (some ((⟨#[]⟩ : ByteArray), 2)) else (some (bt191.1, 0)))) else (none)) else (none))))) else (some ((⟨#[]⟩ : ByteArray), 2))) = some (r1, r2) := H
 have A3 := Aside0.mk A30
 clear A30
 by_cases c4 : t185 = 0
 rotate_left
 ·rw [if_neg c4] at H
  have c4b0 : (t185 == 0) = false := beq_eq_false_iff_ne.mpr c4
  have c4b1 : (t185 != 0) = true := bne_iff_ne.mpr c4
  simp only [Option.some.injEq, Prod.mk.injEq] at H
  obtain ⟨rfl, rfl⟩ := H
  go_enter Tryz.func16, Tryz.ntmps16
  go_wp2_with (first | ((with_reducible refine gate_dst (N := 3) rfl ?_); refine box_event ?hg (N := 3) ?hd (cs := #[.int .i64 a1_0, .int .i64 a1_1, .int .i64 a1_2, .int .i64 a1_3, .slice A1_4 l1_4.length c1_4]) (t := 43) ?hr ?_; (case hd => rfl); (case hg => rfl); (case hr => exact Zq2); intro gb183 hg w26 hbox hb; have BK183 := Aside0.mk (hbox); have GW183 := Aside0.mk ((by rw [hg]; exact (below_size Zq13) : w.heap.size ≤ gb183)); have GE183 := Aside0.mk ((by rw [hg]; exact (below_size Zq13) : w.heap.size ≤ gb183)); replace HB := Aside0.mk (below_step Zq13 hb); clear hb hbox hg; obtain ⟨hcz27_0, hcz27_1, hcz27_2, hcz27_3, hcz27_4⟩ := cells5_ BK183.out; obtain ⟨hfz27_0, hfz27_1, hfz27_2, hfz27_3, hfz27_4⟩ := frozen5_ BK183.out) | ((with_reducible refine gate_callee (f := 28) rfl ?_); refine goesL_ (some 14) rfl rfl Tryz.func28 (by kernel_rfl) rfl #[.agg #[.int .i64 a1_0, .int .i64 a1_1, .int .i64 a1_2, .int .i64 a1_3, .slice A1_4 l1_4.length c1_4]] rfl Zq14 ?_; (with_reducible refine (pdu_Encode.calls k a1_0 a1_1 a1_2 a1_3 _ _ l1_4 t184 t185 _ ?side3 ?side1 ?side2 A3.out).mono ?_); (case side1 => exact Zq36); (case side2 => exact HC1_4.out); (case side3 => exact Zq71); rintro e w28 ⟨rfl, hb⟩; refine ⟨_, rfl, ?_⟩; replace BK183 := Aside0.mk (blkb_ BK183.out Zq52 hb); replace HB := Aside0.mk (below_step Zq22 hb); (try clear hb); (try clear hb2); (try clear hk); (try clear hi)))
  go_ret2
  exact ⟨Zy51, Zy30⟩
 rw [if_pos c4] at H
 have c4b0 : (t185 == 0) = true := beq_iff_eq.mpr c4
 have c4b1 : (t185 != 0) = false := bne_eq_false_iff_eq.mpr c4
 clear c4
 replace H := Option.bind_eq_some_iff.mp H
 obtain ⟨t186, A50, H⟩ := H
 replace H : ((ber_Wrap.f k 2 t186).bind fun bt187 => ((ber_Wrap.f k 4 a0).bind fun bt189 => (if bt187.1.size + bt189.1.size ≤ 9223372036854775807 then (if (bt187.1 ++ bt189.1).size + t184.size ≤ 9223372036854775807 then ((ber_Wrap.f k 48 ((bt187.1 ++ bt189.1) ++ t184)).bind fun bt191 => (if (bt191.1.size : Int) > 65535 then (some ((⟨#[]⟩ : ByteArray), 2)) else (some (bt191.1, 0)))) else (none)) else (none)))) = some (r1, r2) := H
 have A5 := Aside0.mk A50
 clear A50
 replace H := Option.bind_eq_some_iff.mp H
 obtain ⟨⟨t187, t188⟩, A60, H⟩ := H
 replace H : ((ber_Wrap.f k 4 a0).bind fun bt189 => (if t187.size + bt189.1.size ≤ 9223372036854775807 then (if (t187 ++ bt189.1).size + t184.size ≤ 9223372036854775807 then ((ber_Wrap.f k 48 ((t187 ++ bt189.1) ++ t184)).bind fun bt191 => (if (bt191.1.size : Int) > 65535 then (some ((⟨#[]⟩ : ByteArray), 2)) else (some (bt191.1, 0)))) else (none)) else (none))) = some (r1, r2) := H
 have A6 := Aside0.mk A60
 clear A60
 replace H := Option.bind_eq_some_iff.mp H
 obtain ⟨⟨t189, t190⟩, A70, H⟩ := H
 replace H : (if t187.size + t189.size ≤ 9223372036854775807 then (if (t187 ++ t189).size + t184.size ≤ 9223372036854775807 then ((ber_Wrap.f k 48 ((t187 ++ t189) ++ t184)).bind fun bt191 => (if (bt191.1.size : Int) > 65535 then (some ((⟨#[]⟩ : ByteArray), 2)) else (some (bt191.1, 0)))) else (none)) else (none)) = some (r1, r2) := H
 have A7 := Aside0.mk A70
 clear A70
 by_cases c8 : t187.size + t189.size ≤ 9223372036854775807
 rotate_left
 ·rw [if_neg c8] at H
  exact absurd H (by simp)
 rw [if_pos c8] at H
 have c8b0 := eq_true c8
 have c8b1 : decide (t187.size + t189.size ≤ 9223372036854775807) = true := decide_eq_true c8
 try have c8b2 : (9223372036854775807 < t187.size + t189.size) = False := eq_false (Nat.not_lt.2 c8)
 by_cases c9 : (t187 ++ t189).size + t184.size ≤ 9223372036854775807
 rotate_left
 ·rw [if_neg c9] at H
  exact absurd H (by simp)
 rw [if_pos c9] at H
 have c9b0 := eq_true c9
 have c9b1 : decide ((t187 ++ t189).size + t184.size ≤ 9223372036854775807) = true := decide_eq_true c9
 try have c9b2 : (9223372036854775807 < (t187 ++ t189).size + t184.size) = False := eq_false (Nat.not_lt.2 c9)
 have c9z2 := c9b2
 simp only [ByteArray.size_append] at c9z2
 have c9z3 := c9z2
 try simp only [size_lit1, size_lit2, size_lit3, size_lit4] at c9z3
 replace H := Option.bind_eq_some_iff.mp H
 obtain ⟨⟨t191, t192⟩, A100, H⟩ := H
 replace H : (if (t191.size : Int) > 65535 then (some ((⟨#[]⟩ : ByteArray), 2)) else (some (t191, 0))) = some (r1, r2) := H
 have A10 := Aside0.mk A100
 clear A100
 by_cases c11 : (t191.size : Int) > 65535
 ·rw [if_pos c11] at H
  have c11b0 : decide (65535 < (t191.size : Int)) = true := decide_eq_true c11
  have c11b1 : decide (65535 < t191.size) = true := decide_eq_true (by omega)
  clear c11
  simp only [Option.some.injEq, Prod.mk.injEq] at H
  obtain ⟨rfl, rfl⟩ := H
  go_enter Tryz.func16, Tryz.ntmps16
  go_wp2_with (first | ((with_reducible refine gate_dst (N := 3) rfl ?_); refine box_event ?hg (N := 3) ?hd (cs := #[.int .i64 a1_0, .int .i64 a1_1, .int .i64 a1_2, .int .i64 a1_3, .slice A1_4 l1_4.length c1_4]) (t := 43) ?hr ?_; (case hd => rfl); (case hg => rfl); (case hr => exact Zq2); intro gb183 hg w12 hbox hb; have BK183 := Aside0.mk (hbox); have GW183 := Aside0.mk ((by rw [hg]; exact (below_size Zq13) : w.heap.size ≤ gb183)); have GE183 := Aside0.mk ((by rw [hg]; exact (below_size Zq13) : w.heap.size ≤ gb183)); replace HB := Aside0.mk (below_step Zq13 hb); clear hb hbox hg; obtain ⟨hcz13_0, hcz13_1, hcz13_2, hcz13_3, hcz13_4⟩ := cells5_ BK183.out; obtain ⟨hfz13_0, hfz13_1, hfz13_2, hfz13_3, hfz13_4⟩ := frozen5_ BK183.out) | ((with_reducible refine gate_callee (f := 28) rfl ?_); refine goesL_ (some 14) rfl rfl Tryz.func28 (by kernel_rfl) rfl #[.agg #[.int .i64 a1_0, .int .i64 a1_1, .int .i64 a1_2, .int .i64 a1_3, .slice A1_4 l1_4.length c1_4]] rfl Zq14 ?_; (with_reducible refine (pdu_Encode.calls k a1_0 a1_1 a1_2 a1_3 _ _ l1_4 t184 t185 _ ?side3 ?side1 ?side2 A3.out).mono ?_); (case side1 => exact Zq36); (case side2 => exact HC1_4.out); (case side3 => exact Zq71); rintro e w14 ⟨rfl, hb⟩; refine ⟨_, rfl, ?_⟩; replace BK183 := Aside0.mk (blkb_ BK183.out Zq52 hb); replace HB := Aside0.mk (below_step Zq22 hb); (try clear hb); (try clear hb2); (try clear hk); (try clear hi)) | ((with_reducible refine gate_callee (f := 30) rfl ?_); refine goesL_ (some 20) rfl rfl Tryz.func30 (by kernel_rfl) rfl #[.int .i64 1] rfl Zq14 ?_; (with_reducible refine (ber_PutNumber.calls k 1 t186 _ A5.out).mono ?_); rintro e w15 ⟨rfl, hb⟩; refine ⟨_, rfl, ?_⟩; replace BK183 := Aside0.mk (blkb_ BK183.out Zq52 hb); replace HB := Aside0.mk (below_step Zq22 hb); (try clear hb); (try clear hb2); (try clear hk); (try clear hi)) | ((with_reducible refine gate_callee (f := 29) rfl ?_); refine goesL_ (some 21) rfl rfl Tryz.func29 (by kernel_rfl) rfl #[.int .i64 2, .string t186] rfl Zq14 ?_; (with_reducible refine (ber_Wrap.calls k 2 t186 t187 t188 _ A6.out).mono ?_); rintro e w16 ⟨rfl, hb⟩; refine ⟨_, rfl, ?_⟩; replace BK183 := Aside0.mk (blkb_ BK183.out Zq52 hb); replace HB := Aside0.mk (below_step Zq22 hb); (try clear hb); (try clear hb2); (try clear hk); (try clear hi)) | ((with_reducible refine gate_callee (f := 29) rfl ?_); refine goesL_ (some 26) rfl rfl Tryz.func29 (by kernel_rfl) rfl #[.int .i64 4, .string a0] rfl Zq14 ?_; (with_reducible refine (ber_Wrap.calls k 4 a0 t189 t190 _ A7.out).mono ?_); rintro e w17 ⟨rfl, hb⟩; refine ⟨_, rfl, ?_⟩; replace BK183 := Aside0.mk (blkb_ BK183.out Zq52 hb); replace HB := Aside0.mk (below_step Zq22 hb); (try clear hb); (try clear hb2); (try clear hk); (try clear hi)) | ((with_reducible refine gate_callee (f := 29) rfl ?_); refine goesL_ (some 35) rfl rfl Tryz.func29 (by kernel_rfl) rfl #[.int .i64 48, .string ((t187 ++ t189) ++ t184)] rfl Zq14 ?_; (with_reducible refine (ber_Wrap.calls k 48 ((t187 ++ t189) ++ t184) t191 t192 _ A10.out).mono ?_); rintro e w18 ⟨rfl, hb⟩; refine ⟨_, rfl, ?_⟩; replace BK183 := Aside0.mk (blkb_ BK183.out Zq52 hb); replace HB := Aside0.mk (below_step Zq22 hb); (try clear hb); (try clear hb2); (try clear hk); (try clear hi)))
  go_ret2
  exact ⟨Zy51, Zy30⟩
 rw [if_neg c11] at H
 have c11b0 : decide (65535 < (t191.size : Int)) = false := decide_eq_false c11
 have c11b1 : decide (65535 < t191.size) = false := decide_eq_false (by omega)
 clear c11
 simp only [Option.some.injEq, Prod.mk.injEq] at H
 obtain ⟨rfl, rfl⟩ := H
 go_enter Tryz.func16, Tryz.ntmps16
 go_wp2_with (first | ((with_reducible refine gate_dst (N := 3) rfl ?_); refine box_event ?hg (N := 3) ?hd (cs := #[.int .i64 a1_0, .int .i64 a1_1, .int .i64 a1_2, .int .i64 a1_3, .slice A1_4 l1_4.length c1_4]) (t := 43) ?hr ?_; (case hd => rfl); (case hg => rfl); (case hr => exact Zq2); intro gb183 hg w19 hbox hb; have BK183 := Aside0.mk (hbox); have GW183 := Aside0.mk ((by rw [hg]; exact (below_size Zq13) : w.heap.size ≤ gb183)); have GE183 := Aside0.mk ((by rw [hg]; exact (below_size Zq13) : w.heap.size ≤ gb183)); replace HB := Aside0.mk (below_step Zq13 hb); clear hb hbox hg; obtain ⟨hcz20_0, hcz20_1, hcz20_2, hcz20_3, hcz20_4⟩ := cells5_ BK183.out; obtain ⟨hfz20_0, hfz20_1, hfz20_2, hfz20_3, hfz20_4⟩ := frozen5_ BK183.out) | ((with_reducible refine gate_callee (f := 28) rfl ?_); refine goesL_ (some 14) rfl rfl Tryz.func28 (by kernel_rfl) rfl #[.agg #[.int .i64 a1_0, .int .i64 a1_1, .int .i64 a1_2, .int .i64 a1_3, .slice A1_4 l1_4.length c1_4]] rfl Zq14 ?_; (with_reducible refine (pdu_Encode.calls k a1_0 a1_1 a1_2 a1_3 _ _ l1_4 t184 t185 _ ?side3 ?side1 ?side2 A3.out).mono ?_); (case side1 => exact Zq36); (case side2 => exact HC1_4.out); (case side3 => exact Zq71); rintro e w21 ⟨rfl, hb⟩; refine ⟨_, rfl, ?_⟩; replace BK183 := Aside0.mk (blkb_ BK183.out Zq52 hb); replace HB := Aside0.mk (below_step Zq22 hb); (try clear hb); (try clear hb2); (try clear hk); (try clear hi)) | ((with_reducible refine gate_callee (f := 30) rfl ?_); refine goesL_ (some 20) rfl rfl Tryz.func30 (by kernel_rfl) rfl #[.int .i64 1] rfl Zq14 ?_; (with_reducible refine (ber_PutNumber.calls k 1 t186 _ A5.out).mono ?_); rintro e w22 ⟨rfl, hb⟩; refine ⟨_, rfl, ?_⟩; replace BK183 := Aside0.mk (blkb_ BK183.out Zq52 hb); replace HB := Aside0.mk (below_step Zq22 hb); (try clear hb); (try clear hb2); (try clear hk); (try clear hi)) | ((with_reducible refine gate_callee (f := 29) rfl ?_); refine goesL_ (some 21) rfl rfl Tryz.func29 (by kernel_rfl) rfl #[.int .i64 2, .string t186] rfl Zq14 ?_; (with_reducible refine (ber_Wrap.calls k 2 t186 t187 t188 _ A6.out).mono ?_); rintro e w23 ⟨rfl, hb⟩; refine ⟨_, rfl, ?_⟩; replace BK183 := Aside0.mk (blkb_ BK183.out Zq52 hb); replace HB := Aside0.mk (below_step Zq22 hb); (try clear hb); (try clear hb2); (try clear hk); (try clear hi)) | ((with_reducible refine gate_callee (f := 29) rfl ?_); refine goesL_ (some 26) rfl rfl Tryz.func29 (by kernel_rfl) rfl #[.int .i64 4, .string a0] rfl Zq14 ?_; (with_reducible refine (ber_Wrap.calls k 4 a0 t189 t190 _ A7.out).mono ?_); rintro e w24 ⟨rfl, hb⟩; refine ⟨_, rfl, ?_⟩; replace BK183 := Aside0.mk (blkb_ BK183.out Zq52 hb); replace HB := Aside0.mk (below_step Zq22 hb); (try clear hb); (try clear hb2); (try clear hk); (try clear hi)) | ((with_reducible refine gate_callee (f := 29) rfl ?_); refine goesL_ (some 35) rfl rfl Tryz.func29 (by kernel_rfl) rfl #[.int .i64 48, .string ((t187 ++ t189) ++ t184)] rfl Zq14 ?_; (with_reducible refine (ber_Wrap.calls k 48 ((t187 ++ t189) ++ t184) t191 t192 _ A10.out).mono ?_); rintro e w25 ⟨rfl, hb⟩; refine ⟨_, rfl, ?_⟩; replace BK183 := Aside0.mk (blkb_ BK183.out Zq52 hb); replace HB := Aside0.mk (below_step Zq22 hb); (try clear hb); (try clear hb2); (try clear hk); (try clear hi)))
 go_ret2
 exact ⟨Zy51, Zy30⟩
def trap_Encode.f (k : Nat) (a0_0 : ByteArray) (a0_1 : Bool) (a0_2 : Int) (a0_3 : Int) (a0_4 : ByteArray) (l0_5 : List (S40)) : Option (ByteArray × Int) := (trap_Check.f k a0_0 a0_1 a0_2 a0_3 a0_4 l0_5).bind fun t194 => (if t194 = 0 then ((trap_unit.f a0_0 a0_1 a0_2 a0_3 a0_4 l0_5).bind fun bt195 => ((trap_message.f k a0_0 bt195.1 bt195.2.1 bt195.2.2.1 bt195.2.2.2.1 bt195.2.2.2.2).bind fun bt202 => (some (bt202.1, bt202.2)))) else (some ((⟨#[]⟩ : ByteArray), t194)))
def trap_Encode.T4 : Bool × List (List Nat × List Nat) := (true, [([], []), ([0], [0]), ([], []), ([2], [2]), ([1, 3, 3], [1, 3]), ([4], [4]), ([4], [4]), ([5, 4, 0, 1, 2, 3, 4, 5, 6], [5]), ([6, 7, 0, 1, 2, 3, 4, 5, 6, 7], [6])])
def trap_Encode.B4 : List Nat := [0, 1, 0, 4, 15, 31, 31, 127, 255]
theorem trap_Encode.tab4 : rtab .any (opsOf Tryz.f8 4) = trap_Encode.T4 := by kernel_rfl
theorem trap_Encode.bits4 : waitsOk trap_Encode.T4.2 trap_Encode.B4 = true := by kernel_rfl
set_option maxHeartbeats 8000000 in
set_option maxRecDepth 100000 in
theorem trap_Encode.calls (k : Nat) (a0_0 : ByteArray) (a0_1 : Bool) (a0_2 : Int) (a0_3 : Int) (a0_4 : ByteArray) (A0_5 : Option Addr) (c0_5 : Nat) (l0_5 : List (S40)) (r1 : ByteArray) (r2 : Int) (w : World) (hG : Gl w) (hr0_5 : Kd.C k40 w A0_5 l0_5.length l0_5) (hc0_5 : l0_5.length ≤ c0_5) (h : trap_Encode.f k a0_0 a0_1 a0_2 a0_3 a0_4 l0_5 = some (r1, r2)) :
  Calls Tryz.prog 8 #[.agg #[.string a0_0, .bool a0_1, .int .i64 a0_2, .int .i64 a0_3, .string a0_4, .slice A0_5 l0_5.length c0_5]] w fun e w' => e = .returned (.tuple #[.string r1, .int .i64 r2]) ∧ Below w.heap.size w w' := by
 have HGl := Aside0.mk hG
 clear hG
 have hu24 := Tryz.underlying24
 have HR0_5 := Aside0.mk hr0_5
 have HC0_5 := Aside0.mk hc0_5
 clear hr0_5 hc0_5
 have HB := Aside0.mk (Below.refl w.heap.size w)
 have H : ((trap_Check.f k a0_0 a0_1 a0_2 a0_3 a0_4 l0_5).bind fun t194 => (if t194 = 0 then ((trap_unit.f a0_0 a0_1 a0_2 a0_3 a0_4 l0_5).bind fun bt195 => ((trap_message.f k a0_0 bt195.1 bt195.2.1 bt195.2.2.1 bt195.2.2.2.1 bt195.2.2.2.2).bind fun bt202 => (some (bt202.1, bt202.2)))) else (some ((⟨#[]⟩ : ByteArray), t194)))) = some (r1, r2) := h
 clear h
 replace H := Option.bind_eq_some_iff.mp H
 obtain ⟨t194, A20, H⟩ := H
 replace H : (if t194 = 0 then ((trap_unit.f a0_0 a0_1 a0_2 a0_3 a0_4 l0_5).bind fun bt195 => ((trap_message.f k a0_0 bt195.1 bt195.2.1 bt195.2.2.1 bt195.2.2.2.1 bt195.2.2.2.2).bind fun bt202 => (some (bt202.1, bt202.2)))) else (some ((⟨#[]⟩ : ByteArray), t194))) = some (r1, r2) := H
 have A2 := Aside0.mk A20
 clear A20
 by_cases c3 : t194 = 0
 rotate_left
 ·rw [if_neg c3] at H
  have c3b0 : (t194 == 0) = false := beq_eq_false_iff_ne.mpr c3
  have c3b1 : (t194 != 0) = true := bne_iff_ne.mpr c3
  simp only [Option.some.injEq, Prod.mk.injEq] at H
  obtain ⟨rfl, rfl⟩ := H
  go_enter Tryz.func8, Tryz.ntmps8
  go_wp2_with (first | ((with_reducible refine gate_dst (N := 1) rfl ?_); refine box_event ?hg (N := 1) ?hd (cs := #[.string a0_0, .bool a0_1, .int .i64 a0_2, .int .i64 a0_3, .string a0_4, .slice A0_5 l0_5.length c0_5]) (t := 24) ?hr ?_; (case hd => rfl); (case hg => rfl); (case hr => exact Zq2); intro gb193 hg w13 hbox hb; have BK193 := Aside0.mk (hbox); have GW193 := Aside0.mk ((by rw [hg]; exact (below_size Zq13) : w.heap.size ≤ gb193)); have GE193 := Aside0.mk ((by rw [hg]; exact (below_size Zq13) : w.heap.size ≤ gb193)); replace HB := Aside0.mk (below_step Zq13 hb); clear hb hbox hg; obtain ⟨hcz14_0, hcz14_1, hcz14_2, hcz14_3, hcz14_4, hcz14_5⟩ := cells6_ BK193.out; obtain ⟨hfz14_0, hfz14_1, hfz14_2, hfz14_3, hfz14_4, hfz14_5⟩ := frozen6_ BK193.out) | ((with_reducible refine gate_callee (f := 9) rfl ?_); refine goesL_ (some 6) rfl rfl Tryz.func9 (by kernel_rfl) rfl #[.agg #[.string a0_0, .bool a0_1, .int .i64 a0_2, .int .i64 a0_3, .string a0_4, .slice A0_5 l0_5.length c0_5]] rfl Zq14 ?_; (with_reducible refine (trap_Check.calls k a0_0 a0_1 a0_2 a0_3 a0_4 _ _ l0_5 t194 _ ?side3 ?side1 ?side2 A2.out).mono ?_); (case side1 => exact Zq35); (case side2 => exact HC0_5.out); (case side3 => exact Zq71); rintro e w15 ⟨rfl, hb⟩; refine ⟨_, rfl, ?_⟩; replace BK193 := Aside0.mk (blkb_ BK193.out Zq52 hb); replace HB := Aside0.mk (below_step Zq23 hb); (try clear hb); (try clear hb2); (try clear hk); (try clear hi)))
  go_ret2
  exact ⟨Zy51, Zy31⟩
 rw [if_pos c3] at H
 have c3b0 : (t194 == 0) = true := beq_iff_eq.mpr c3
 have c3b1 : (t194 != 0) = false := bne_eq_false_iff_eq.mpr c3
 clear c3
 replace H := Option.bind_eq_some_iff.mp H
 obtain ⟨⟨t195, t196, t197, t198, t199⟩, A40, H⟩ := H
 replace H : ((trap_message.f k a0_0 t195 t196 t197 t198 t199).bind fun bt202 => (some (bt202.1, bt202.2))) = some (r1, r2) := H
 have A4 := Aside0.mk A40
 clear A40
 replace H := Option.bind_eq_some_iff.mp H
 obtain ⟨⟨t202, t203⟩, A50, H⟩ := H
 replace H : (some (t202, t203)) = some (r1, r2) := H
 have A5 := Aside0.mk A50
 clear A50
 simp only [Option.some.injEq, Prod.mk.injEq] at H
 obtain ⟨rfl, rfl⟩ := H
 go_enter Tryz.func8, Tryz.ntmps8
 try go_wp2_with (first | ((with_reducible refine gate_dst (N := 1) rfl ?_); refine box_event ?hg (N := 1) ?hd (cs := #[.string a0_0, .bool a0_1, .int .i64 a0_2, .int .i64 a0_3, .string a0_4, .slice A0_5 l0_5.length c0_5]) (t := 24) ?hr ?_; (case hd => rfl); (case hg => rfl); (case hr => exact Zq2); intro gb193 hg w6 hbox hb; have BK193 := Aside0.mk (hbox); have GW193 := Aside0.mk ((by rw [hg]; exact (below_size Zq13) : w.heap.size ≤ gb193)); have GE193 := Aside0.mk ((by rw [hg]; exact (below_size Zq13) : w.heap.size ≤ gb193)); replace HB := Aside0.mk (below_step Zq13 hb); clear hb hbox hg; obtain ⟨hcz7_0, hcz7_1, hcz7_2, hcz7_3, hcz7_4, hcz7_5⟩ := cells6_ BK193.out; obtain ⟨hfz7_0, hfz7_1, hfz7_2, hfz7_3, hfz7_4, hfz7_5⟩ := frozen6_ BK193.out) | ((with_reducible refine gate_callee (f := 9) rfl ?_); refine goesL_ (some 6) rfl rfl Tryz.func9 (by kernel_rfl) rfl #[.agg #[.string a0_0, .bool a0_1, .int .i64 a0_2, .int .i64 a0_3, .string a0_4, .slice A0_5 l0_5.length c0_5]] rfl Zq14 ?_; (with_reducible refine (trap_Check.calls k a0_0 a0_1 a0_2 a0_3 a0_4 _ _ l0_5 t194 _ ?side3 ?side1 ?side2 A2.out).mono ?_); (case side1 => exact Zq35); (case side2 => exact HC0_5.out); (case side3 => exact Zq71); rintro e w8 ⟨rfl, hb⟩; refine ⟨_, rfl, ?_⟩; replace BK193 := Aside0.mk (blkb_ BK193.out Zq52 hb); replace HB := Aside0.mk (below_step Zq23 hb); (try clear hb); (try clear hb2); (try clear hk); (try clear hi)))
 replace BK193 := Aside0.mk (blk_drew BK193.out)
 replace HB := Aside0.mk (below_drew1 HB.out)
 refine start_ (n := 9) (S := fun w' => w'.cell? ⟨gb193, 0, none⟩ = some (.string a0_0) ∧ w'.cell? ⟨gb193, 1, none⟩ = some (.bool a0_1) ∧ w'.cell? ⟨gb193, 2, none⟩ = some (.int .i64 a0_2) ∧ w'.cell? ⟨gb193, 3, none⟩ = some (.int .i64 a0_3) ∧ w'.cell? ⟨gb193, 4, none⟩ = some (.string a0_4) ∧ w'.cell? ⟨gb193, 5, none⟩ = some (.slice A0_5 l0_5.length c0_5)) (ds := []) #[false, false, false, false, false, false, false, false, false] (by kernel_rfl) rfl rfl ⟨(blk_cell BK193.out 0).trans rfl, (blk_cell BK193.out 1).trans rfl, (blk_cell BK193.out 2).trans rfl, (blk_cell BK193.out 3).trans rfl, (blk_cell BK193.out 4).trans rfl, (blk_cell BK193.out 5).trans rfl⟩ (fun hHeld => ?_); refine with_tabW trap_Encode.tab4 trap_Encode.bits4 (fun HT_ HW_ => ?_)
 generalize w8.drew = w9 at BK193 HB hHeld ⊢
 refine pz_ 0 10 ?_
 refine tz_ 1 11 hHeld ?_
 refine tz_ 2 12 hHeld ?_
 refine oz_ 3 13 (fun K hK => ?_)
 refine goes_ Tryz.func17 (by kernel_rfl) rfl #[.agg #[.string a0_0, .bool a0_1, .int .i64 a0_2, .int .i64 a0_3, .string a0_4, .slice A0_5 l0_5.length c0_5]] (by rfl) rfl rfl Zq14 ?_
 with_reducible refine (trap_unit.calls a0_0 a0_1 a0_2 a0_3 a0_4 _ _ l0_5 t195 t196 t197 t198 t199 _ ?side1 ?side2 A4.out).mono ?_
 (case side1 => exact Zq35)
 (case side2 => exact HC0_5.out)
 rintro e w10 ⟨v200, rfl, ho0, hb⟩
 refine ⟨_, rfl, ?_⟩
 have HO201 := Aside0.mk (Kd.R_lower ho0 (below_size Zq23))
 replace BK193 := Aside0.mk (blkb_ BK193.out Zq52 hb)
 replace HB := Aside0.mk (below_step Zq23 hb)
 (try clear hb)
 (try clear hb2)
 (try clear hk)
 (try clear hi)
 (try clear ho0)
 obtain ⟨Ao11, co11, eo11⟩ := Kd.R_slice HO201.out
 (first | subst eo11 | (injection eo11 with f1_ f2_ f3_; have f4_ := f1_.symm; have f5_ := f3_.symm; clear f1_ f2_ f3_; subst f4_; subst f5_))
 refine hK.out _ _ ⟨(blk_cell BK193.out 0).trans rfl, (blk_cell BK193.out 1).trans rfl, (blk_cell BK193.out 2).trans rfl, (blk_cell BK193.out 3).trans rfl, (blk_cell BK193.out 4).trans rfl, (blk_cell BK193.out 5).trans rfl⟩ (fun hHeld_ => ?_)
 clear hK K hHeld
 have hHeld := hHeld_
 clear hHeld_
 refine nz_ 13 ?_
 refine oz_ 4 14 (fun K hK => ?_)
 refine goes_ Tryz.func16 (by kernel_rfl) rfl #[.string a0_0, .agg #[.int .i64 t195, .int .i64 t196, .int .i64 t197, .int .i64 t198, .slice Ao11 t199.length co11]] (by rfl) rfl rfl Zq14 ?_
 with_reducible refine (trap_message.calls k a0_0 t195 t196 t197 t198 _ _ t199 t202 t203 _ ?side3 ?side1 ?side2 A5.out).mono ?_
 (case side1 => repeat (first | exact (Kd.R_reads' HO201.out).2.2 | (with_reducible refine Kd.C_alloc ?_ _) | (with_reducible refine Kd.C_drewN ?_ _) | (with_reducible refine Kd.C_drew ?_)))
 (case side2 => exact (Kd.R_reads' HO201.out).2.1)
 (case side3 => exact Zq71)
 rintro e w12 ⟨rfl, hb⟩
 refine ⟨_, rfl, ?_⟩
 replace HO201 := Aside0.mk (Kd.R_below (by (with_reducible repeat (first | apply Kd.R_alloc | apply Kd.R_drewN | apply Kd.R_drew)); exact HO201.out) hb)
 replace BK193 := Aside0.mk (blkb_ BK193.out Zq52 hb)
 replace HB := Aside0.mk (below_step Zq23 hb)
 (try clear hb)
 (try clear hb2)
 (try clear hk)
 (try clear hi)
 refine hK.out _ _ ⟨(blk_cell BK193.out 0).trans rfl, (blk_cell BK193.out 1).trans rfl, (blk_cell BK193.out 2).trans rfl, (blk_cell BK193.out 3).trans rfl, (blk_cell BK193.out 4).trans rfl, (blk_cell BK193.out 5).trans rfl⟩ (fun hHeld_ => ?_)
 clear hK K hHeld
 have hHeld := hHeld_
 clear hHeld_
 refine nz_ 14 ?_
 refine pz_ 5 15 ?_
 refine pz_ 6 16 ?_
 refine pz_ 7 2 ?_
 refine pz_ 8 3 ?_
 refine done_ (done_of HT_.out (by kernel_rfl)) ?_
 (try clear hHeld)
 try go_wp2
 go_ret2
 exact ⟨Zy51, Zy31⟩
def IsS125 (w0 W : World) (g : Nat) (f0 : ByteArray) (f1 : Int) : Prop := W.heap[g]? = some (.cells #[.string f0, .int .i64 f1] 125 (0, 0)) ∧ w0.heap.size ≤ g
theorem IsS125.grown {w0 W : World} {g : Nat} {f0 : ByteArray} {f1 : Int} {W1 : World} {row : Option Nat} (h : IsS125 w0 W g f0 f1) (hw : W.grownBy W1 row) (hne : some g ≠ row) : IsS125 w0 W1 g f0 f1 := by
 obtain ⟨hb, hg⟩ := h
 exact ⟨blk_grown hb hw hne, hg⟩
theorem IsS125.fresh {w0 W : World} {g : Nat} {f0 : ByteArray} {f1 : Int} (h : IsS125 w0 W g f0 f1) : ∀ k, W.heap.size ≤ k → k ≠ g := by
 obtain ⟨hb, hg⟩ := h
 exact Kd.freshB hb
theorem IsS125.kept {w0 W : World} {g : Nat} {f0 : ByteArray} {f1 : Int} {W1 : World} {S : Nat → Prop} (h : IsS125 w0 W g f0 f1) (hk : Kept W W1 S) (hne : ¬ S g) : IsS125 w0 W1 g f0 f1 := by
 obtain ⟨hb, hg⟩ := h
 exact ⟨blk_kept hb hk hne, hg⟩
theorem IsS125.below {w0 W : World} {g : Nat} {f0 : ByteArray} {f1 : Int} {W1 : World} (h : IsS125 w0 W g f0 f1) (hw : Below W.heap.size W W1) : IsS125 w0 W1 g f0 f1 := h.grown (grown_of_below hw none) (by simp)
theorem IsS125.alloc {w0 W : World} {g : Nat} {f0 : ByteArray} {f1 : Int} (h : IsS125 w0 W g f0 f1) (o : Obj) : IsS125 w0 (W.alloc o) g f0 f1 := h.below (below_alloc (Below.refl _ _) o)
theorem IsS125.drewN {w0 W : World} {g : Nat} {f0 : ByteArray} {f1 : Int} (h : IsS125 w0 W g f0 f1) (m : Nat) : IsS125 w0 (W.drewN m) g f0 f1 := h
theorem IsS125.drew {w0 W : World} {g : Nat} {f0 : ByteArray} {f1 : Int} (h : IsS125 w0 W g f0 f1) : IsS125 w0 W.drew g f0 f1 := h
theorem IsS125.at_ {w0 W : World} {g : Nat} {f0 : ByteArray} {f1 : Int} {w' : World} {m : Nat} (hq : W.drewN m = w') (h : IsS125 w0 W g f0 f1) : IsS125 w0 w' g f0 f1 := by subst hq; exact IsS125.drewN h m
theorem IsS125.apart {w0 W : World} {g : Nat} {f0 : ByteArray} {f1 : Int} {α : Type} {d : Kd α} {e : Nat} {base : Nat} {ok : Nat → Prop} {v : Value} {xs : List α} (h : IsS125 w0 W g f0 f1) (ho : d.R e W base ok v xs) (ht : ∀ q, q ∈ e :: d.E → q ≠ 125) : d.R e W base (fun k => ok k ∧ k ≠ g) v xs := by
 obtain ⟨hb, hg⟩ := h
 exact Kd.R_types ho hb ht
theorem IsS125.own_ne {w0 W : World} {g : Nat} {f0 : ByteArray} {f1 : Int} {α : Type} {d : Kd α} {e : Nat} {base : Nat} {ok : Nat → Prop} {v : Value} {xs : List α} (h : IsS125 w0 W g f0 f1) (ho : d.R e W base ok v xs) (ht : e ≠ 125) : some g ≠ v.ownBlock := by
 obtain ⟨hb, hg⟩ := h
 exact Kd.R_ne ho hb ht
theorem IsS125.lt {w0 W : World} {g : Nat} {f0 : ByteArray} {f1 : Int} (h : IsS125 w0 W g f0 f1) : g < W.heap.size := by
 obtain ⟨hb, hg⟩ := h
 exact blk_lt hb
theorem IsS125.ge {w0 W : World} {g : Nat} {f0 : ByteArray} {f1 : Int} (h : IsS125 w0 W g f0 f1) : w0.heap.size ≤ g := by
 obtain ⟨hb, hg⟩ := h
 exact hg
theorem cellS125_0 {W : World} {g : Nat} {f0 : ByteArray} {f1 : Int} (h : W.heap[g]? = some (.cells #[.string f0, .int .i64 f1] 125 (0, 0))) : W.cell? ⟨g, 0, none⟩ = some (.string f0) := (blk_cell h 0).trans rfl
theorem IsS125.set_0 {w0 W : World} {g : Nat} {f0 : ByteArray} {f1 : Int} (h : IsS125 w0 W g f0 f1) (x : ByteArray) : IsS125 w0 (W.setCell ⟨g, 0, none⟩ (.string x)) g x f1 := by
 obtain ⟨hb, hg⟩ := h
 exact ⟨by simpa using blk_set hb 0 (.string x), hg⟩
theorem cellS125_1 {W : World} {g : Nat} {f0 : ByteArray} {f1 : Int} (h : W.heap[g]? = some (.cells #[.string f0, .int .i64 f1] 125 (0, 0))) : W.cell? ⟨g, 1, none⟩ = some (.int .i64 f1) := (blk_cell h 1).trans rfl
theorem IsS125.set_1 {w0 W : World} {g : Nat} {f0 : ByteArray} {f1 : Int} (h : IsS125 w0 W g f0 f1) (x : Int) : IsS125 w0 (W.setCell ⟨g, 1, none⟩ (.int .i64 x)) g f0 x := by
 obtain ⟨hb, hg⟩ := h
 exact ⟨by simpa using blk_set hb 1 (.int .i64 x), hg⟩
theorem IsS125.new (w0 W : World) (f0 : ByteArray) (f1 : Int) (hB : Below w0.heap.size w0 W) : IsS125 w0 (W.alloc (.cells #[.string f0, .int .i64 f1] 125)) W.heap.size f0 f1 := ⟨by simpa using heap_alloc_new W _, hB.size⟩
def octet_Read.f (a0 : ByteArray) : Option (ByteArray × Int) := some (a0, 0)
set_option maxHeartbeats 8000000 in
set_option maxRecDepth 100000 in
theorem octet_Read.calls (a0 : ByteArray) (r1 : ByteArray) (r2 : Int) (w0 w : World) (hB : Below w0.heap.size w0 w) (h : octet_Read.f a0 = some (r1, r2)) :
  Calls Tryz.prog 50 #[.string a0] w fun e w' => ∃ g_ : Nat, e = .returned (.pointer (some ⟨g_, 0, none⟩)) ∧ IsS125 w0 w' g_ r1 r2 ∧ Below w0.heap.size w0 w' ∧ Below w.heap.size w w' := by
 have hu125 := Tryz.underlying125
 have HBW := Aside0.mk (Below.refl w.heap.size w)
 have HW0 := Aside0.mk hB.size
 have HB := Aside0.mk hB
 clear hB
 have H : (some (a0, 0)) = some (r1, r2) := h
 clear h
 simp only [Option.some.injEq, Prod.mk.injEq] at H
 obtain ⟨rfl, rfl⟩ := H
 go_enter Tryz.func50, Tryz.ntmps50
 go_wp2_with (first | ((with_reducible refine gate_dst (N := 5) rfl ?_); refine box_event ?hg (N := 5) ?hd (cs := #[.string a0, .int .i64 0]) (t := 125) ?hr ?_; (case hd => rfl); (case hg => rfl); (case hr => exact Zq2); intro gb204 hg w2 hbox hb; have BK204 := Aside0.mk (hbox); have GW204 := Aside0.mk ((by rw [hg]; exact (below_size Zy46) : w.heap.size ≤ gb204)); have GE204 := Aside0.mk ((Nat.le_trans HW0.out (by rw [hg]; exact (below_size Zy46) : w.heap.size ≤ gb204) : w0.heap.size ≤ gb204)); replace HBW := Aside0.mk (below_step HBW.out hb); replace HB := Aside0.mk (below_step Zq13 hb); clear hb hbox hg))
 go_ret
 exact ⟨_, rfl, (show IsS125 w0 _ gb204 a0 0 from ⟨by (with_reducible repeat (first | refine blk_drewN ?_ _ | refine blk_drew ?_ | refine blk_alloc ?_ _)); exact BK204.out, GE204.out⟩), by repeat (first | (with_reducible first | exact HB.out | apply below_alloc | apply pw_below_drewN | apply below_drew1 | refine below_set ?_ GE204.out) | exact HB.out), by repeat (first | (with_reducible first | exact HBW.out | apply below_alloc | apply pw_below_drewN | apply below_drew1 | refine below_set ?_ GW204.out) | exact HBW.out)⟩
def octet_Reader_Refuse.f (s0_0 : ByteArray) (s0_1 : Int) (a1 : Int) : Option (ByteArray × Int) := if s0_1 = 0 then (some (s0_0, a1)) else (some (s0_0, s0_1))
set_option maxHeartbeats 8000000 in
set_option maxRecDepth 100000 in
theorem octet_Reader_Refuse.calls (g : Nat) (s0_0 : ByteArray) (s0_1 : Int) (a1 : Int) (r1 : ByteArray) (r2 : Int) (w0 w : World) (hI : IsS125 w0 w g s0_0 s0_1) (hB : Below w0.heap.size w0 w) (h : octet_Reader_Refuse.f s0_0 s0_1 a1 = some (r1, r2)) :
  Calls Tryz.prog 65 #[.pointer (some ⟨g, 0, none⟩), .int .i64 a1] w fun e w' => e = .returned (.tuple #[]) ∧ IsS125 w0 w' g r1 r2 ∧ Below w0.heap.size w0 w' ∧ KeepBut w w' g none := by
 have HI0 := Aside0.mk hI
 have HK := Aside0.mk (KeepBut.refl w g none)
 have HL := Aside0.mk hB.size
 clear hI
 have HW0 := Aside0.mk hB.size
 have HB := Aside0.mk hB
 clear hB
 have H : (if s0_1 = 0 then (some (s0_0, a1)) else (some (s0_0, s0_1))) = some (r1, r2) := h
 clear h
 by_cases c3 : s0_1 = 0
 rotate_left
 ·rw [if_neg c3] at H
  have c3b0 : (s0_1 == 0) = false := beq_eq_false_iff_ne.mpr c3
  have c3b1 : (s0_1 != 0) = true := bne_iff_ne.mpr c3
  simp only [Option.some.injEq, Prod.mk.injEq] at H
  obtain ⟨rfl, rfl⟩ := H
  obtain ⟨HGz5, hgz5⟩ := HI0.out
  have hcz5_0 := cellS125_0 HGz5
  have hcz5_1 := cellS125_1 HGz5
  have hfz5_0 := blk_frozen HGz5 0
  have hfz5_1 := blk_frozen HGz5 1
  clear HGz5 hgz5
  go_enter Tryz.func65, Tryz.ntmps65
  go_wp2
  first | go_end0 | ((try simp only [Exit.inBlock, Exit.then]); refine bodyPost_ret (results_none rfl _ _ _) rfl ?_)
  exact ⟨Zy51, Zy28, Zy29, Zy44⟩
 rw [if_pos c3] at H
 have c3b0 : (s0_1 == 0) = true := beq_iff_eq.mpr c3
 have c3b1 : (s0_1 != 0) = false := bne_eq_false_iff_eq.mpr c3
 clear c3
 simp only [Option.some.injEq, Prod.mk.injEq] at H
 obtain ⟨rfl, rfl⟩ := H
 obtain ⟨HGz4, hgz4⟩ := HI0.out
 have hcz4_0 := cellS125_0 HGz4
 have hcz4_1 := cellS125_1 HGz4
 have hfz4_0 := blk_frozen HGz4 0
 have hfz4_1 := blk_frozen HGz4 1
 clear HGz4 hgz4
 go_enter Tryz.func65, Tryz.ntmps65
 go_wp2
 first | go_end0 | ((try simp only [Exit.inBlock, Exit.then]); refine bodyPost_ret (results_none rfl _ _ _) rfl ?_)
 exact ⟨Zy51, Zy28, Zy29, Zy44⟩
end Go.Proofs.YtfmhghlmljlfgaaGreatDoor.XTrS
