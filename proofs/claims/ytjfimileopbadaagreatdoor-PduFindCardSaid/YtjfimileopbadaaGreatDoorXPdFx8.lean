-- Laid by extprint.py (the session's own driver): functions told by the kit's printer and by hand.
import Derived.Test.YtjfimileopbadaaGreatDoorXPdFx0
import Derived.Test.YtjfimileopbadaaGreatDoorXPdFx4
import Derived.Test.YtjfimileopbadaaGreatDoorXPdFx5
import Derived.Test.YtjfimileopbadaaGreatDoorXPdFx6
import Derived.Test.YtjfimileopbadaaGreatDoorXPdFx7
namespace Go.Proofs.YtjfimileopbadaaGreatDoor.XPdF
open Go.RowKit Gong Go.Proofs.YtjfimileopbadaaGreatDoorW.PrintWords Go.Proofs.YtjfimileopbadaaGreatDoorW.PrintLast Go.Proofs.YtjfimileopbadaaGreatDoorW.PrintMore
attribute [local go_sem] max2_int min2_int max_two min_two max_three min_three max_four min_four   -- for this text's walks alone
set_option linter.unusedVariables false
set_option linter.unusedSimpArgs false

/-! ### pdu_Encode: function 13 -/
def pdu_Encode.go (k : Nat) : List S30 → List UInt8 → Option (Option (List UInt8))
  | [], acc => some (some acc)
  | b :: l, acc => (pdu_bind.f k b.f0 b.f1.f0 b.f1.f1 b.f1.f2).bind fun s => if acc.length + s.size ≤ 1000000000 then (if 65536 < acc.length + s.size then some none else pdu_Encode.go k l (acc ++ s.data.toList)) else none
def pdu_Encode.cat (a b : ByteArray) : Option ByteArray := if a.size + b.size ≤ 1000000000 then some (a ++ b) else none
def pdu_Encode.nums (k : Nat) : List Int → ByteArray → Option ByteArray
  | [], y => some y
  | n :: ns, y => (ber_PutNumber.f k n).bind fun p => (pdu_wrap.f k 2 p).bind fun e => (pdu_Encode.cat y e).bind fun z => pdu_Encode.nums k ns z
def pdu_Encode.tail (k : Nat) (a0 : Int) (y : ByteArray) (acc : List UInt8) : Option (ByteArray × Int) :=
  (pdu_wrap.f k 48 ⟨acc.toArray⟩).bind fun s1 => (pdu_Encode.cat y s1).bind fun z => (pdu_wrap.f k a0 z).bind fun s => if 65536 < s.size then some (⟨#[]⟩, 2) else some (s, 0)
def pdu_Encode.rest (k : Nat) (a0 a1 a2 a3 : Int) : Option (List UInt8) → Option (ByteArray × Int)
  | none => some (⟨#[]⟩, 2)
  | some acc => (pdu_Encode.nums k [a1, a2, a3] ⟨#[]⟩).bind fun y => pdu_Encode.tail k a0 y acc
def pdu_Encode.f (k : Nat) (a0 a1 a2 a3 : Int) (l : List S30) : Option (ByteArray × Int) :=
  (pdu_Check.f k a0 a1 a2 a3 l).bind fun c => if c = 0 then (pdu_Encode.go k l []).bind fun o => pdu_Encode.rest k a0 a1 a2 a3 o else some (⟨#[]⟩, c)
theorem pdu_Encode.go_mono (k : Nat) : ∀ l acc, LeO (pdu_Encode.go k l acc) (pdu_Encode.go (k + 1) l acc)
  | [], acc => LeO.refl _
  | b :: l, acc => by
    unfold pdu_Encode.go
    refine LeO.bind (pdu_bind.mono _ _ _ _ _) (fun s => ?_)
    split
    · split
      · exact LeO.refl _
      · exact pdu_Encode.go_mono k l _
    · exact LeO.refl _
theorem pdu_Encode.nums_mono (k : Nat) : ∀ ns y, LeO (pdu_Encode.nums k ns y) (pdu_Encode.nums (k + 1) ns y)
  | [], y => LeO.refl _
  | n :: ns, y => by
    unfold pdu_Encode.nums
    exact LeO.bind (ber_PutNumber.mono _ _) (fun _ => LeO.bind (pdu_wrap.mono _ _ _) (fun _ => LeO.bind (LeO.refl _) (fun _ => pdu_Encode.nums_mono k ns _)))
theorem pdu_Encode.mono : ∀ a0 a1 a2 a3 l k, LeO (pdu_Encode.f k a0 a1 a2 a3 l) (pdu_Encode.f (k + 1) a0 a1 a2 a3 l) := by
  intro a0 a1 a2 a3 l k
  unfold pdu_Encode.f
  refine LeO.bind (pdu_Check.mono _ _ _ _ _ _) (fun c => ?_)
  split
  · refine LeO.bind (pdu_Encode.go_mono k _ _) (fun o => ?_)
    cases o with
    | none => exact LeO.refl _
    | some acc =>
      unfold pdu_Encode.rest pdu_Encode.tail
      exact LeO.bind (pdu_Encode.nums_mono k _ _) (fun _ => LeO.bind (pdu_wrap.mono _ _ _) (fun _ => LeO.bind (LeO.refl _) (fun _ => LeO.bind (pdu_wrap.mono _ _ _) (fun _ => LeO.refl _))))
  · exact LeO.refl _
set_option maxHeartbeats 8000000 in
set_option maxRecDepth 100000 in
theorem pdu_Encode.calls (k : Nat) (a0_0 : Int) (a0_1 : Int) (a0_2 : Int) (a0_3 : Int) (A0_4 : Option Addr) (c0_4 : Nat) (l0_4 : List (S30)) (r1 : ByteArray) (r2 : Int) (w : World) (hG : Gl w) (hr0_4 : Kd.C k30 w A0_4 l0_4.length l0_4) (hc0_4 : l0_4.length ≤ c0_4) (h : pdu_Encode.f k a0_0 a0_1 a0_2 a0_3 l0_4 = some (r1, r2)) :
    Calls Tryz.prog 13 #[.agg #[.int .i64 a0_0, .int .i64 a0_1, .int .i64 a0_2, .int .i64 a0_3, .slice A0_4 l0_4.length c0_4]] w fun e w' => e = .returned (.tuple #[.string r1, .int .i64 r2]) ∧ Below w.heap.size w w' := by
  have HGl := Aside0.mk hG
  have HR0 := Aside0.mk hr0_4
  have HC0 := Aside0.mk hc0_4
  have HLN := Aside0.mk hr0_4.2.1
  unfold pdu_Encode.f at h
  obtain ⟨c, hck, h⟩ := Option.bind_eq_some_iff.1 h
  have HCK := Aside0.mk hck
  clear hG hr0_4 hc0_4 hck
  go_enter Tryz.func13, Tryz.ntmps13
  go_wp2_with fail
  obtain ⟨w1, hw1⟩ : ∃ w1, w1 = w.alloc (.cells #[.int .i64 a0_0, .int .i64 a0_1, .int .i64 a0_2, .int .i64 a0_3, .slice A0_4 l0_4.length c0_4] 24) := ⟨_, rfl⟩
  have HX := Aside0.mk (show w1.heap[w.heap.size]? = some (.cells #[.int .i64 a0_0, .int .i64 a0_1, .int .i64 a0_2, .int .i64 a0_3, .slice A0_4 l0_4.length c0_4] 24 (0, 0)) by rw [hw1]; exact heap_alloc_new w _)
  have HB := Aside0.mk (show Below w.heap.size w w1 by rw [hw1]; exact below_alloc (Below.refl _ _) _)
  rw [← hw1]
  clear hw1
  refine (pdu_Check.calls k a0_0 a0_1 a0_2 a0_3 A0_4 c0_4 l0_4 c w1 (HGl.out.below HB.out) (Kd.C_below HR0.out HB.out) HC0.out HCK.out).mono ?_
  rintro e w3 ⟨rfl, hb3⟩
  have HX3 := Aside0.mk ((Mv.of_below (S := fun _ => False) hb3).heap HX.out id)
  have HB3 := Aside0.mk (Below.trans HB.out (Below.mono hb3 HB.out.size))
  clear hb3 HX HB HCK
  by_cases hc : c = 0
  case neg =>
    rw [if_neg hc] at h
    simp only [Option.some.injEq, Prod.mk.injEq] at h
    obtain ⟨rfl, rfl⟩ := h
    have e1 : (c != 0) = true := bne_iff_ne.mpr hc
    have e1' := eq_false hc
    clear hc
    go_wp2
    go_ret2
    exact ⟨rfl, HB3.out⟩
  subst hc
  rw [if_pos rfl] at h
  obtain ⟨o, hgo, h⟩ := Option.bind_eq_some_iff.1 h
  have HGO := Aside0.mk hgo
  have HH := Aside0.mk h
  clear hgo h
  have x4 := (blk_cell HX3.out 4).trans rfl
  go_upto_region 5 with (fail)
  obtain ⟨w4, hw4⟩ : ∃ w4, w4 = w3.alloc (.cells #[.pointer none, .slice none 0 0] 75) := ⟨_, rfl⟩
  have HBL := Aside0.mk (show Bl w4 w3.heap.size w3.heap.size (.slice none 0 0) [] by rw [hw4]; exact Bl.new w3 w3.heap.size (Nat.le_refl _))
  have HX4 := Aside0.mk (show w4.heap[w.heap.size]? = some (.cells #[.int .i64 a0_0, .int .i64 a0_1, .int .i64 a0_2, .int .i64 a0_3, .slice A0_4 l0_4.length c0_4] 24 (0, 0)) by rw [hw4]; exact ((Mv.refl (fun _ => False) w3).alloc _).heap HX3.out id)
  have HB4 := Aside0.mk (show Below w.heap.size w w4 by rw [hw4]; exact below_alloc HB3.out _)
  have HBB := Aside0.mk (show w.heap.size < w3.heap.size from (Array.getElem?_eq_some_iff.1 HX3.out).1)
  rw [← hw4]
  clear x4 hw4 HX3 HB3
  generalize w3.heap.size = b at HBL HBB ⊢
  have x4 := (blk_cell HX4.out 4).trans rfl
  go_wp2
  clear x4
  go_loopg [20] (l0_4.length + 2) (fun kq v20 W => ∃ (i : Nat) (bv : Value) (acc : List UInt8), v20 = .int .i64 i ∧ Aside0 (i ≤ l0_4.length) ∧ Aside0 (l0_4.length - i < kq) ∧ Aside0 (pdu_Encode.go k (l0_4.drop i) acc = some o) ∧ Aside0 (Bl W b b bv acc) ∧ Aside0 (W.heap[w.heap.size]? = some (.cells #[.int .i64 a0_0, .int .i64 a0_1, .int .i64 a0_2, .int .i64 a0_3, .slice A0_4 l0_4.length c0_4] 24 (0, 0))) ∧ Aside0 (Below w.heap.size w W))
  case atStart => exact ⟨0, _, [], rfl, ⟨Nat.zero_le _⟩, ⟨by omega⟩, HGO, HBL, HX4, HB4⟩
  case round =>
    clear HGO HBL HX4 HB4
    obtain ⟨i, bv, acc, rfl, HI, HKQ, HGO, HBL, HX, HB⟩ := hrel
    by_cases ci : i < l0_4.length
    · obtain ⟨x, hx⟩ : ∃ x, l0_4[i]? = some x := ⟨_, List.getElem?_eq_getElem ci⟩
      have hd : l0_4.drop i = x :: l0_4.drop (i + 1) := by
        obtain ⟨h1, h2⟩ := List.getElem?_eq_some_iff.1 hx
        rw [← h2]; exact List.drop_eq_getElem_cons h1
      have hgo := HGO.out
      rw [hd, pdu_Encode.go] at hgo
      obtain ⟨s, hbd, hgo⟩ := Option.bind_eq_some_iff.1 hgo
      by_cases hsz : acc.length + s.size ≤ 1000000000
      case neg => rw [if_neg hsz] at hgo; exact absurd hgo (by simp)
      rw [if_pos hsz] at hgo
      obtain ⟨ad, rfl, y0, y1, y2, y3⟩ := at_T30 (Kd.C_below HR0.out HB.out) (i : Int) (by omega) (by omega)
      have hrd : rd_T30 l0_4 (i : Int) = x := by unfold rd_T30; rw [Int.toNat_natCast, List.getD_eq_getElem?_getD, hx]; rfl
      rw [hrd] at y0 y1 y2 y3
      rw [Int.toNat_natCast] at y0 y1 y2 y3
      have HI2 := Aside0.mk ci
      have HBD := Aside0.mk hbd
      have HGO2 := Aside0.mk hgo
      have HSZ := Aside0.mk hsz
      have e1 := eq_true ci
      have e2 : decide ((i : Int) < (l0_4.length : Int)) = true := decide_eq_true (by omega)
      have e3 : (0 ≤ (i : Int)) = True := eq_true (by omega)
      have e9 : wrap64 ((i : Int) + 1) = ((i + 1 : Nat) : Int) := by have := HLN.out; unfold wrap64; omega
      clear hd hgo hbd hsz hx hrd ci HGO HI
      go_wp2_with fail
      obtain ⟨w5, hw5⟩ : ∃ w5, w5 = wr.alloc (.cells #[.string x.f0, .int .i64 x.f1.f0, .int .i64 x.f1.f1, .string x.f1.f2] 30) := ⟨_, rfl⟩
      have hb5 : Below wr.heap.size wr w5 := by rw [hw5]; exact below_alloc (Below.refl _ _) _
      rw [← hw5]
      clear hw5
      refine (pdu_bind.calls k x.f0 x.f1.f0 x.f1.f1 x.f1.f2 s w5 (HGl.out.below (Below.trans HB.out (Below.mono hb5 HB.out.size))) HBD.out).mono ?_
      rintro e w6 ⟨rfl, hb6⟩
      have hb56 : Below wr.heap.size wr w6 := Below.trans hb5 (Below.mono hb6 hb5.size)
      have HBL6 := Aside0.mk (HBL.out.keep hb56)
      have HX6 := Aside0.mk ((Mv.of_below (S := fun _ => False) hb56).heap HX.out id)
      have HB6 := Aside0.mk (Below.trans HB.out (Below.mono hb56 HB.out.size))
      clear hb5 hb6 hb56 y0 y1 y2 y3 HBL HX HB
      go_wp2_with fail
      refine (HBL6.out.write s (by have := HSZ.out; omega)).mono ?_
      rintro e w7 ⟨rfl, v7, hbl7, ho7, hm7⟩
      have HBL7 := Aside0.mk hbl7
      have HX7 := Aside0.mk (hm7.heap HX6.out (fun h => h.elim (fun h => by have := HBB.out; omega) (fun h => by have := (World.ownsRow.lt HBL6.out.row _ h).1; have := HBB.out; omega)))
      have HB7 := Aside0.mk (Below.trans HB6.out (hm7.below HB6.out.size (fun q hq => hq.elim (fun h => by have := HBB.out; omega) (fun h => by have := (World.ownsRow.lt HBL6.out.row _ h).1; have := HBB.out; omega))))
      clear hbl7 ho7 hm7 HBL6 HX6 HB6
      go_wp2_with fail
      refine HBL7.out.len_.mono ?_
      rintro e w8 ⟨rfl, rfl⟩
      have HLA := Aside0.mk (show (acc ++ s.data.toList).length = acc.length + s.size by simp)
      by_cases hbig : 65536 < acc.length + s.size
      · have hgo := HGO2.out
        rw [if_pos hbig, Option.some.injEq] at hgo
        subst hgo
        have hh := HH.out
        unfold pdu_Encode.rest at hh
        simp only [Option.some.injEq, Prod.mk.injEq] at hh
        obtain ⟨rfl, rfl⟩ := hh
        have e6 : ((65536 : Int) < (acc.length : Int) + (s.size : Int)) = True := eq_true (by omega)
        have e7 : decide ((65536 : Int) < (acc.length : Int) + (s.size : Int)) = true := decide_eq_true (by omega)
        clear hbig
        go_wp2
        go_ret2
        exact ⟨rfl, HB7.out⟩
      · have hgo := HGO2.out
        rw [if_neg hbig] at hgo
        have HGO3 := Aside0.mk hgo
        have e6 : ((65536 : Int) < (acc.length : Int) + (s.size : Int)) = False := eq_false (by omega)
        have e7 : decide ((65536 : Int) < (acc.length : Int) + (s.size : Int)) = false := decide_eq_false (by omega)
        clear hbig hgo
        go_wp2
        go_roundg (l0_4.length - (i + 1) + 1)
        case measure => have := HKQ.out; have := HI2.out; omega
        case rel => exact ⟨i + 1, v7, acc ++ s.data.toList, by first | rfl | rw [e9], ⟨HI2.out⟩, ⟨by omega⟩, HGO3, HBL7, HX7, HB7⟩
    · have hi : i = l0_4.length := by have := HI.out; omega
      have hgo := HGO.out
      rw [hi, List.drop_length, pdu_Encode.go, Option.some.injEq] at hgo
      subst hgo
      have hh := HH.out
      unfold pdu_Encode.rest at hh
      obtain ⟨y, hns, hh⟩ := Option.bind_eq_some_iff.1 hh
      have HNS := Aside0.mk hns
      have HHH := Aside0.mk hh
      have e1 := eq_false ci
      have e2 : decide ((i : Int) < (l0_4.length : Int)) = false := decide_eq_false (by omega)
      have x1 := (blk_cell HX.out 1).trans rfl
      have x2 := (blk_cell HX.out 2).trans rfl
      have x3 := (blk_cell HX.out 3).trans rfl
      clear hns hh ci hi HGO HI HKQ HH
      go_wp2
      clear x1 x2 x3
      generalize HW2 : wr = w10 at HBL HX HB ⊢
      clear HW2
      have u82 : Tryz.prog.underlying 82 = some (.array 3 3) := by kernel_rfl
      go_loopg [8, 37] 5 (fun kq v8 v37 W => ∃ (j : Nat) (y2 : ByteArray), v8 = .string y2 ∧ v37 = .int .i64 j ∧ Aside0 (j ≤ 3) ∧ Aside0 (3 - j < kq) ∧ Aside0 (pdu_Encode.nums k ([a0_1, a0_2, a0_3].drop j) y2 = some y) ∧ Aside0 (Bl W b b bv acc) ∧ Aside0 (W.heap[w.heap.size]? = some (.cells #[.int .i64 a0_0, .int .i64 a0_1, .int .i64 a0_2, .int .i64 a0_3, .slice A0_4 l0_4.length c0_4] 24 (0, 0))) ∧ Aside0 (Below w.heap.size w W))
      case atStart => exact ⟨0, _, rfl, rfl, ⟨by omega⟩, ⟨by omega⟩, HNS, HBL, HX, HB⟩
      case round =>
        clear HNS HBL HX HB
        obtain ⟨j, y2, rfl, rfl, HJ, HJK, HNS, HBL, HX, HB⟩ := hrel
        have hj : j = 0 ∨ j = 1 ∨ j = 2 ∨ j = 3 := by have := HJ.out; omega
        rcases hj with rfl | rfl | rfl | rfl
        · have hns := HNS.out
          rw [show List.drop 0 [a0_1, a0_2, a0_3] = a0_1 :: List.drop 1 [a0_1, a0_2, a0_3] from rfl, pdu_Encode.nums] at hns
          obtain ⟨p, hp, hns⟩ := Option.bind_eq_some_iff.1 hns
          obtain ⟨q, hq, hns⟩ := Option.bind_eq_some_iff.1 hns
          obtain ⟨z, hz, hns⟩ := Option.bind_eq_some_iff.1 hns
          unfold pdu_Encode.cat at hz
          by_cases hc : y2.size + q.size ≤ 1000000000
          case neg => rw [if_neg hc] at hz; exact absurd hz (by simp)
          rw [if_pos hc, Option.some.injEq] at hz
          subst hz
          have HP := Aside0.mk hp
          have HQ := Aside0.mk hq
          have HN2 := Aside0.mk hns
          have e1 : (9223372036854775807 < y2.size + q.size) = False := eq_false (by omega)
          have hix : ∀ W, (Instr.index 82 (.agg #[.int .i64 a0_1, .int .i64 a0_2, .int .i64 a0_3]) (.int .i64 0)).run Tryz.prog W = .ok (.int .i64 a0_1) W := by
            intro W
            simp [Instr.index, run_underlying u82, asIntOf, go_sem]
          clear hp hq hns hc HNS HJ
          go_wp2_with fail
          refine (ber_PutNumber.calls k a0_1 p wr HP.out).mono ?_
          rintro e w11 ⟨rfl, hb11⟩
          go_wp2_with fail
          refine (pdu_wrap.calls k 2 p q w11 HQ.out).mono ?_
          rintro e w12 ⟨rfl, hb12⟩
          have hb13 : Below wr.heap.size wr w12 := Below.trans hb11 (Below.mono hb12 hb11.size)
          have HBL6 := Aside0.mk (HBL.out.keep hb13)
          have HX6 := Aside0.mk ((Mv.of_below (S := fun _ => False) hb13).heap HX.out id)
          have HB6 := Aside0.mk (Below.trans HB.out (Below.mono hb13 HB.out.size))
          clear hb11 hb12 hb13 HBL HX HB
          go_wp2
          go_roundg (3)
          case measure => have := HJK.out; omega
          case rel => exact ⟨1, y2 ++ q, rfl, rfl, ⟨by omega⟩, ⟨by omega⟩, HN2, HBL6, HX6, HB6⟩
        · have hns := HNS.out
          rw [show List.drop 1 [a0_1, a0_2, a0_3] = a0_2 :: List.drop 2 [a0_1, a0_2, a0_3] from rfl, pdu_Encode.nums] at hns
          obtain ⟨p, hp, hns⟩ := Option.bind_eq_some_iff.1 hns
          obtain ⟨q, hq, hns⟩ := Option.bind_eq_some_iff.1 hns
          obtain ⟨z, hz, hns⟩ := Option.bind_eq_some_iff.1 hns
          unfold pdu_Encode.cat at hz
          by_cases hc : y2.size + q.size ≤ 1000000000
          case neg => rw [if_neg hc] at hz; exact absurd hz (by simp)
          rw [if_pos hc, Option.some.injEq] at hz
          subst hz
          have HP := Aside0.mk hp
          have HQ := Aside0.mk hq
          have HN2 := Aside0.mk hns
          have e1 : (9223372036854775807 < y2.size + q.size) = False := eq_false (by omega)
          have hix : ∀ W, (Instr.index 82 (.agg #[.int .i64 a0_1, .int .i64 a0_2, .int .i64 a0_3]) (.int .i64 1)).run Tryz.prog W = .ok (.int .i64 a0_2) W := by
            intro W
            simp [Instr.index, run_underlying u82, asIntOf, go_sem]
          clear hp hq hns hc HNS HJ
          go_wp2_with fail
          refine (ber_PutNumber.calls k a0_2 p wr HP.out).mono ?_
          rintro e w11 ⟨rfl, hb11⟩
          go_wp2_with fail
          refine (pdu_wrap.calls k 2 p q w11 HQ.out).mono ?_
          rintro e w12 ⟨rfl, hb12⟩
          have hb13 : Below wr.heap.size wr w12 := Below.trans hb11 (Below.mono hb12 hb11.size)
          have HBL6 := Aside0.mk (HBL.out.keep hb13)
          have HX6 := Aside0.mk ((Mv.of_below (S := fun _ => False) hb13).heap HX.out id)
          have HB6 := Aside0.mk (Below.trans HB.out (Below.mono hb13 HB.out.size))
          clear hb11 hb12 hb13 HBL HX HB
          go_wp2
          go_roundg (2)
          case measure => have := HJK.out; omega
          case rel => exact ⟨2, y2 ++ q, rfl, rfl, ⟨by omega⟩, ⟨by omega⟩, HN2, HBL6, HX6, HB6⟩
        · have hns := HNS.out
          rw [show List.drop 2 [a0_1, a0_2, a0_3] = a0_3 :: List.drop 3 [a0_1, a0_2, a0_3] from rfl, pdu_Encode.nums] at hns
          obtain ⟨p, hp, hns⟩ := Option.bind_eq_some_iff.1 hns
          obtain ⟨q, hq, hns⟩ := Option.bind_eq_some_iff.1 hns
          obtain ⟨z, hz, hns⟩ := Option.bind_eq_some_iff.1 hns
          unfold pdu_Encode.cat at hz
          by_cases hc : y2.size + q.size ≤ 1000000000
          case neg => rw [if_neg hc] at hz; exact absurd hz (by simp)
          rw [if_pos hc, Option.some.injEq] at hz
          subst hz
          have HP := Aside0.mk hp
          have HQ := Aside0.mk hq
          have HN2 := Aside0.mk hns
          have e1 : (9223372036854775807 < y2.size + q.size) = False := eq_false (by omega)
          have hix : ∀ W, (Instr.index 82 (.agg #[.int .i64 a0_1, .int .i64 a0_2, .int .i64 a0_3]) (.int .i64 2)).run Tryz.prog W = .ok (.int .i64 a0_3) W := by
            intro W
            simp [Instr.index, run_underlying u82, asIntOf, go_sem]
          clear hp hq hns hc HNS HJ
          go_wp2_with fail
          refine (ber_PutNumber.calls k a0_3 p wr HP.out).mono ?_
          rintro e w11 ⟨rfl, hb11⟩
          go_wp2_with fail
          refine (pdu_wrap.calls k 2 p q w11 HQ.out).mono ?_
          rintro e w12 ⟨rfl, hb12⟩
          have hb13 : Below wr.heap.size wr w12 := Below.trans hb11 (Below.mono hb12 hb11.size)
          have HBL6 := Aside0.mk (HBL.out.keep hb13)
          have HX6 := Aside0.mk ((Mv.of_below (S := fun _ => False) hb13).heap HX.out id)
          have HB6 := Aside0.mk (Below.trans HB.out (Below.mono hb13 HB.out.size))
          clear hb11 hb12 hb13 HBL HX HB
          go_wp2
          go_roundg (1)
          case measure => have := HJK.out; omega
          case rel => exact ⟨3, y2 ++ q, rfl, rfl, ⟨by omega⟩, ⟨by omega⟩, HN2, HBL6, HX6, HB6⟩
        · have hns := HNS.out
          rw [show List.drop 3 [a0_1, a0_2, a0_3] = [] from rfl, pdu_Encode.nums, Option.some.injEq] at hns
          subst hns
          have hh := HHH.out
          unfold pdu_Encode.tail at hh
          obtain ⟨s1, h1, hh⟩ := Option.bind_eq_some_iff.1 hh
          obtain ⟨z, hz, hh⟩ := Option.bind_eq_some_iff.1 hh
          obtain ⟨s2, h2, ht⟩ := Option.bind_eq_some_iff.1 hh
          clear hh
          unfold pdu_Encode.cat at hz
          by_cases hc : y2.size + s1.size ≤ 1000000000
          case neg => rw [if_neg hc] at hz; exact absurd hz (by simp)
          rw [if_pos hc, Option.some.injEq] at hz
          subst hz
          have H1 := Aside0.mk h1
          have H2 := Aside0.mk h2
          have H3 := Aside0.mk ht
          have e1 : (9223372036854775807 < y2.size + s1.size) = False := eq_false (by omega)
          clear h1 h2 ht hc HNS HJ HJK HHH
          go_upto_region 18 with (fail)
          have HX1 := Aside0.mk (blk_drew HX.out)
          have HB1 := Aside0.mk (below_drew1 HB.out)
          have HBL1 := Aside0.mk (HBL.out.mv ((Mv.refl (fun _ => False) wr).drew) id (fun _ _ => id))
          refine start_ (n := 8) (S := fun w' => w'.cell? ⟨w.heap.size, 0, none⟩ = some (.int .i64 a0_0)) (ds := []) #[false, false, false, false, false, false, false, false] (by kernel_rfl) rfl rfl ((blk_cell HX1.out 0).trans rfl) (fun hHeld => ?_)
          clear HX HB HBL
          generalize wr.drew = w11 at HX1 HB1 HBL1 hHeld ⊢
          refine pure_ (i := 0) (N := some 46) (v := ?_) (a' := ?_) #[true, false, false, false, false, false, false, false] rfl rfl (by kernel_rfl) (fun _ _ _ h => h) (Or.inl ⟨by rfl, ?_⟩) ?_ ?_
          rotate_left
          · intro w'
            go_simp
            with_reducible rfl
          rotate_left
          · simp only [Act.put, List.setIfInBounds_toArray, List.set_cons_zero, List.set_cons_succ, i64_w, i32_w]
            rfl
          refine take_ (i := 1) (N := some 47) (v := ?_) (a' := ?_) #[true, true, false, false, false, false, false, false] rfl rfl (by kernel_rfl) (fun _ _ _ h => h) (Or.inl ⟨by rfl, ?_⟩) hHeld ?_ ?_
          rotate_left
          · intro w' s0
            go_simp
            with_reducible rfl
          rotate_left
          · simp only [Act.put, List.setIfInBounds_toArray, List.set_cons_zero, List.set_cons_succ, i64_w, i32_w]
            rfl
          refine pure_ (i := 2) (N := some 48) (v := ?_) (a' := ?_) #[true, true, true, false, false, false, false, false] rfl rfl (by kernel_rfl) (fun _ _ _ h => h) (Or.inl ⟨by rfl, ?_⟩) ?_ ?_
          rotate_left
          · intro w'
            go_simp
            with_reducible rfl
          rotate_left
          · simp only [Act.put, List.setIfInBounds_toArray, List.set_cons_zero, List.set_cons_succ, i64_w, i32_w]
            rfl
          refine one_ (i := 3) (N := some 49) #[true, true, true, true, false, false, false, false] rfl rfl (by kernel_rfl) (by decide) (fun K hK => ?_)
          refine goes_ Tryz.func46 (by kernel_rfl) rfl #[.pointer (some ⟨b, 0, none⟩)] (by rfl) rfl rfl (by (try simp only [List.map_toArray, List.map_cons, List.map_nil]); first | done | rfl) ?_
          refine (HBL1.out.string).mono ?_
          rintro e w2 ⟨rfl, hm2⟩
          refine ⟨_, rfl, ?_⟩
          have HX2 := Aside0.mk (hm2.heap HX1.out (fun h => by have := (World.ownsRow.lt HBL1.out.row _ h).1; have := HBB.out; omega))
          have HB2 := Aside0.mk (Below.trans HB1.out (hm2.below HB1.out.size (fun q h => by have := (World.ownsRow.lt HBL1.out.row _ h).1; have := HBB.out; omega)))
          clear hm2 HX1 HB1 HBL1
          refine hK.out _ _ ((blk_cell HX2.out 0).trans rfl) (fun hHeld => ?_)
          clear hK K
          refine norm_ (a' := ?_) ?_ ?_
          rotate_left
          · show Act.put _ (some 49) _ = _
            simp only [Act.put, List.setIfInBounds_toArray, List.set_cons_zero, List.set_cons_succ, i64_w, i32_w]
            rfl
          refine one_ (i := 4) (N := some 50) #[true, true, true, true, true, false, false, false] rfl rfl (by kernel_rfl) (by decide) (fun K hK => ?_)
          refine goes_ Tryz.func44 (by kernel_rfl) rfl #[.int .i64 48, .string ⟨acc.toArray⟩] (by rfl) rfl rfl (by (try simp only [List.map_toArray, List.map_cons, List.map_nil]); first | done | rfl) ?_
          refine (pdu_wrap.calls k 48 ⟨acc.toArray⟩ s1 _ H1.out).mono ?_
          rintro e w3 ⟨rfl, hb3⟩
          refine ⟨_, rfl, ?_⟩
          have HX3 := Aside0.mk ((Mv.of_below (S := fun _ => False) hb3).heap HX2.out id)
          have HB3 := Aside0.mk (Below.trans HB2.out (Below.mono hb3 HB2.out.size))
          clear hb3 HX2 HB2
          refine hK.out _ _ ((blk_cell HX3.out 0).trans rfl) (fun hHeld => ?_)
          clear hK K
          refine norm_ (a' := ?_) ?_ ?_
          rotate_left
          · show Act.put _ (some 50) _ = _
            simp only [Act.put, List.setIfInBounds_toArray, List.set_cons_zero, List.set_cons_succ, i64_w, i32_w]
            rfl
          refine pure_ (i := 5) (N := some 51) (v := ?_) (a' := ?_) #[true, true, true, true, true, true, false, false] rfl rfl (by kernel_rfl) (fun _ _ _ h => h) (Or.inl ⟨by rfl, ?_⟩) ?_ ?_
          rotate_left
          · intro w'
            go_simp
            with_reducible rfl
          rotate_left
          · simp only [Act.put, List.setIfInBounds_toArray, List.set_cons_zero, List.set_cons_succ, i64_w, i32_w]
            rfl
          refine one_ (i := 6) (N := some 52) #[true, true, true, true, true, true, true, false] rfl rfl (by kernel_rfl) (by decide) (fun K hK => ?_)
          refine goes_ Tryz.func44 (by kernel_rfl) rfl #[.int .i64 a0_0, .string (y2 ++ s1)] (by rfl) rfl rfl (by (try simp only [List.map_toArray, List.map_cons, List.map_nil]); first | done | rfl) ?_
          refine (pdu_wrap.calls k a0_0 (y2 ++ s1) s2 _ H2.out).mono ?_
          rintro e w4 ⟨rfl, hb4⟩
          refine ⟨_, rfl, ?_⟩
          have HX4 := Aside0.mk ((Mv.of_below (S := fun _ => False) hb4).heap HX3.out id)
          have HB4 := Aside0.mk (Below.trans HB3.out (Below.mono hb4 HB3.out.size))
          clear hb4 HX3 HB3
          refine hK.out _ _ ((blk_cell HX4.out 0).trans rfl) (fun hHeld => ?_)
          clear hK K
          refine norm_ (a' := ?_) ?_ ?_
          rotate_left
          · show Act.put _ (some 52) _ = _
            simp only [Act.put, List.setIfInBounds_toArray, List.set_cons_zero, List.set_cons_succ, i64_w, i32_w]
            rfl
          refine pure_ (i := 7) (N := some 11) (v := ?_) (a' := ?_) #[true, true, true, true, true, true, true, true] rfl rfl (by kernel_rfl) (fun _ _ _ h => h) (Or.inl ⟨by rfl, ?_⟩) ?_ ?_
          rotate_left
          · intro w'
            go_simp
            with_reducible rfl
          rotate_left
          · simp only [Act.put, List.setIfInBounds_toArray, List.set_cons_zero, List.set_cons_succ, i64_w, i32_w]
            rfl
          refine done_ (by kernel_rfl) ?_
          have h3 := H3.out
          by_cases hbig : 65536 < s2.size
          · rw [if_pos hbig] at h3
            simp only [Option.some.injEq, Prod.mk.injEq] at h3
            obtain ⟨rfl, rfl⟩ := h3
            have e6 : ((65536 : Int) < (s2.size : Int)) = True := eq_true (by omega)
            have e7 : decide ((65536 : Int) < (s2.size : Int)) = true := decide_eq_true (by omega)
            clear hbig
            go_wp2
            go_ret2
            exact ⟨rfl, HB4.out⟩
          · rw [if_neg hbig] at h3
            simp only [Option.some.injEq, Prod.mk.injEq] at h3
            obtain ⟨rfl, rfl⟩ := h3
            have e6 : ((65536 : Int) < (s2.size : Int)) = False := eq_false (by omega)
            have e7 : decide ((65536 : Int) < (s2.size : Int)) = false := decide_eq_false (by omega)
            clear hbig
            go_wp2
            go_ret2
            exact ⟨rfl, HB4.out⟩

/-! ### gonglaw08_works: function 12 -/
def gonglaw08_works.f (k : Nat)  : Option (Bool) := (pdu_Encode.f k 167 1 0 0 ([] : List (S30))).bind fun bt176 => (if bt176.1.toList = ([167, 11, 2, 1, 1, 2, 1, 0, 2, 1, 0, 48, 0] : List UInt8) then (some (bt176.2 == 0)) else (some false))
theorem gonglaw08_works.mono : ∀ k, LeO (gonglaw08_works.f k ) (gonglaw08_works.f (k + 1) ) := by
  intro  k
  unfold gonglaw08_works.f
  repeat' first
      | (with_reducible exact pdu_Encode.mono _ _ _ _ _ _)
      | (with_reducible exact LeO.refl _)
      | (with_reducible exact LeO.none _)
      | (with_reducible refine LeO.ite ?_ ?_)
      | (with_reducible refine LeO.bind ?_ (fun _ => ?_))
      | exact pdu_Encode.mono _ _ _ _ _ _
      | exact LeO.none _
      | refine LeO.ite ?_ ?_
      | refine LeO.bind ?_ (fun _ => ?_)
set_option maxHeartbeats 8000000 in
set_option maxRecDepth 100000 in
theorem gonglaw08_works.calls (k : Nat)  (r : Bool) (w : World) (hG : Gl w) (h : gonglaw08_works.f k  = some r) :
    Calls Tryz.prog 12 #[] w fun e w' => e = .returned (.bool r) ∧ Below w.heap.size w w' := by
  have HGl := Aside0.mk hG
  clear hG
  have hu24 := Tryz.underlying24
  have HB := Aside0.mk (Below.refl w.heap.size w)
  have H : ((pdu_Encode.f k 167 1 0 0 ([] : List (S30))).bind fun bt176 => (if bt176.1.toList = ([167, 11, 2, 1, 1, 2, 1, 0, 2, 1, 0, 48, 0] : List UInt8) then (some (bt176.2 == 0)) else (some false))) = some r := h
  clear h
  replace H := Option.bind_eq_some_iff.mp H
  obtain ⟨⟨t176, t177⟩, A10, H⟩ := H
  replace H : (if t176.toList = ([167, 11, 2, 1, 1, 2, 1, 0, 2, 1, 0, 48, 0] : List UInt8) then (some (t177 == 0)) else (some false)) = some r := H
  have A1 := Aside0.mk A10
  clear A10
  by_cases c2 : t176.toList = ([167, 11, 2, 1, 1, 2, 1, 0, 2, 1, 0, 48, 0] : List UInt8)
  rotate_left
  · rw [if_neg c2] at H
    have c2b0 : (t176.toList == ([167, 11, 2, 1, 1, 2, 1, 0, 2, 1, 0, 48, 0] : List UInt8)) = false := beq_eq_false_iff_ne.mpr c2
    have c2b1 : (t176.toList != ([167, 11, 2, 1, 1, 2, 1, 0, 2, 1, 0, 48, 0] : List UInt8)) = true := bne_iff_ne.mpr c2
    obtain rfl := Option.some.inj H
    go_enter Tryz.func12, Tryz.ntmps12
    go_wp2_with (first | ((with_reducible refine gate_callee (f := 13) rfl ?_); refine goesL_ (some 5) rfl rfl Tryz.func13 (by kernel_rfl) rfl #[.agg #[.int .i64 167, .int .i64 1, .int .i64 0, .int .i64 0, .slice none 0 0]] rfl (by (try simp only [List.map_toArray, List.map_cons, List.map_nil]); first | done | rfl | (simp only [List.length_drop, List.length_take]; rfl)) ?_; (refine (pdu_Encode.calls k 167 1 0 0 _ _ ([] : List (S30)) t176 t177 _ ?side3 ?side1 ?side2 A1.out).mono ?_); (case side1 => exact Kd.C_nil _ _); (case side2 => exact Nat.le_refl _); (case side3 => first | exact HGl.out | exact HGl.out.below (by repeat (first | (with_reducible first | exact HB.out | apply below_alloc | apply pw_below_drewN | apply below_drew1) | exact HB.out | (refine below_set ?_ (Aside0.out (by assumption))) | exact Below.refl _ _))); rintro e w4 ⟨rfl, hb⟩; refine ⟨_, rfl, ?_⟩; have n0_ := Aside0.mk (below_step (by repeat (first | (with_reducible first | exact HB.out | apply below_alloc | apply pw_below_drewN | apply below_drew1) | exact HB.out)) hb); clear HB; have HB := n0_; clear n0_; (try clear hb); (try clear hb2); (try clear hk); (try clear hi)))
    go_ret
    exact ⟨by first | rfl | (simp only [i64_w, i32_w]; rfl) | (simp [errW_none, errW_some] <;> rfl) | (simp [*, errW_none, errW_some] <;> rfl), by repeat (first | (with_reducible first | exact HB.out | apply below_alloc | apply pw_below_drewN | apply below_drew1) | exact HB.out)⟩
  rw [if_pos c2] at H
  have c2b0 : (t176.toList == ([167, 11, 2, 1, 1, 2, 1, 0, 2, 1, 0, 48, 0] : List UInt8)) = true := beq_iff_eq.mpr c2
  have c2b1 : (t176.toList != ([167, 11, 2, 1, 1, 2, 1, 0, 2, 1, 0, 48, 0] : List UInt8)) = false := bne_eq_false_iff_eq.mpr c2
  clear c2
  obtain rfl := Option.some.inj H
  go_enter Tryz.func12, Tryz.ntmps12
  go_wp2_with (first | ((with_reducible refine gate_callee (f := 13) rfl ?_); refine goesL_ (some 5) rfl rfl Tryz.func13 (by kernel_rfl) rfl #[.agg #[.int .i64 167, .int .i64 1, .int .i64 0, .int .i64 0, .slice none 0 0]] rfl (by (try simp only [List.map_toArray, List.map_cons, List.map_nil]); first | done | rfl | (simp only [List.length_drop, List.length_take]; rfl)) ?_; (refine (pdu_Encode.calls k 167 1 0 0 _ _ ([] : List (S30)) t176 t177 _ ?side3 ?side1 ?side2 A1.out).mono ?_); (case side1 => exact Kd.C_nil _ _); (case side2 => exact Nat.le_refl _); (case side3 => first | exact HGl.out | exact HGl.out.below (by repeat (first | (with_reducible first | exact HB.out | apply below_alloc | apply pw_below_drewN | apply below_drew1) | exact HB.out | (refine below_set ?_ (Aside0.out (by assumption))) | exact Below.refl _ _))); rintro e w3 ⟨rfl, hb⟩; refine ⟨_, rfl, ?_⟩; have n0_ := Aside0.mk (below_step (by repeat (first | (with_reducible first | exact HB.out | apply below_alloc | apply pw_below_drewN | apply below_drew1) | exact HB.out)) hb); clear HB; have HB := n0_; clear n0_; (try clear hb); (try clear hb2); (try clear hk); (try clear hi)))
  go_ret
  exact ⟨by first | rfl | (simp only [i64_w, i32_w]; rfl) | (simp [errW_none, errW_some] <;> rfl) | (simp [*, errW_none, errW_some] <;> rfl), by repeat (first | (with_reducible first | exact HB.out | apply below_alloc | apply pw_below_drewN | apply below_drew1) | exact HB.out)⟩

/-! ### oid_both: function 53 -/
def oid_both.f (k : Nat) (a0 : ByteArray) (a1 : ByteArray) : Option (List Int × List Int × Bool) := (oid_Arcs.f k a0).bind fun bt178 => ((oid_Arcs.f k a1).bind fun bt182 => (if bt178.2 = 0 then (some (bt178.1, bt182.1, (bt182.2 == 0))) else (some (bt178.1, bt182.1, false))))
theorem oid_both.mono : ∀ a0 a1 k, LeO (oid_both.f k a0 a1) (oid_both.f (k + 1) a0 a1) := by
  intro a0 a1 k
  unfold oid_both.f
  repeat' first
      | (with_reducible exact oid_Arcs.mono _ _)
      | (with_reducible exact LeO.refl _)
      | (with_reducible exact LeO.none _)
      | (with_reducible refine LeO.ite ?_ ?_)
      | (with_reducible refine LeO.bind ?_ (fun _ => ?_))
      | exact oid_Arcs.mono _ _
      | exact LeO.none _
      | refine LeO.ite ?_ ?_
      | refine LeO.bind ?_ (fun _ => ?_)
set_option maxHeartbeats 8000000 in
set_option maxRecDepth 100000 in
theorem oid_both.calls (k : Nat) (a0 : ByteArray) (a1 : ByteArray) (r1 : List Int) (r2 : List Int) (r3 : Bool) (w : World) (hG : Gl w) (h : oid_both.f k a0 a1 = some (r1, r2, r3)) :
    Calls Tryz.prog 53 #[.string a0, .string a1] w fun e w' => ∃ v0_ v1_ : Value, e = .returned (.tuple #[v0_, v1_, .bool r3]) ∧ Kd.R (Kd.int .i64) 3 w' w.heap.size (fun k_ => some k_ ≠ (v1_ : Value).ownBlock) v0_ r1 ∧ Kd.R (Kd.int .i64) 3 w' w.heap.size (fun k_ => some k_ ≠ (v0_ : Value).ownBlock) v1_ r2 ∧ Below w.heap.size w w' := by
  have HGl := Aside0.mk hG
  clear hG
  have HB := Aside0.mk (Below.refl w.heap.size w)
  have H : ((oid_Arcs.f k a0).bind fun bt178 => ((oid_Arcs.f k a1).bind fun bt182 => (if bt178.2 = 0 then (some (bt178.1, bt182.1, (bt182.2 == 0))) else (some (bt178.1, bt182.1, false))))) = some (r1, r2, r3) := h
  clear h
  replace H := Option.bind_eq_some_iff.mp H
  obtain ⟨⟨t178, t179⟩, A30, H⟩ := H
  replace H : ((oid_Arcs.f k a1).bind fun bt182 => (if t179 = 0 then (some (t178, bt182.1, (bt182.2 == 0))) else (some (t178, bt182.1, false)))) = some (r1, r2, r3) := H
  have A3 := Aside0.mk A30
  clear A30
  replace H := Option.bind_eq_some_iff.mp H
  obtain ⟨⟨t182, t183⟩, A40, H⟩ := H
  replace H : (if t179 = 0 then (some (t178, t182, (t183 == 0))) else (some (t178, t182, false))) = some (r1, r2, r3) := H
  have A4 := Aside0.mk A40
  clear A40
  by_cases c5 : t179 = 0
  rotate_left
  · rw [if_neg c5] at H
    have c5b0 : (t179 == 0) = false := beq_eq_false_iff_ne.mpr c5
    have c5b1 : (t179 != 0) = true := bne_iff_ne.mpr c5
    simp only [Option.some.injEq, Prod.mk.injEq] at H
    obtain ⟨rfl, rfl, rfl⟩ := H
    go_enter Tryz.func53, Tryz.ntmps53
    go_wp2_with (first | ((with_reducible refine gate_callee (f := 55) rfl ?_); refine goesL_ (some 11) rfl rfl Tryz.func55 (by kernel_rfl) rfl #[.string a0] rfl (by (try simp only [List.map_toArray, List.map_cons, List.map_nil]); first | done | rfl | (simp only [List.length_drop, List.length_take]; rfl)) ?_; (with_reducible refine (oid_Arcs.calls k a0 t178 t179 _ ?side1 A3.out).mono ?_); (case side1 => first | exact HGl.out | exact HGl.out.below (by repeat (first | (with_reducible first | exact HB.out | apply below_alloc | apply pw_below_drewN | apply below_drew1) | exact HB.out | (refine below_set ?_ (Aside0.out (by assumption))) | exact Below.refl _ _))); rintro e w8 ⟨v180, rfl, ho0, hb⟩; refine ⟨_, rfl, ?_⟩; have n0_ := Aside0.mk (Kd.R_lower ho0 (below_size (by repeat (first | (with_reducible first | exact HB.out | apply below_alloc | apply pw_below_drewN | apply below_drew1) | exact HB.out)))); have n1_ := Aside0.mk (below_step (by repeat (first | (with_reducible first | exact HB.out | apply below_alloc | apply pw_below_drewN | apply below_drew1) | exact HB.out)) hb); clear HB; have HO181 := n0_; have HB := n1_; clear n0_ n1_; (try clear hb); (try clear hb2); (try clear hk); (try clear hi); (try clear ho0)) | ((with_reducible refine gate_callee (f := 55) rfl ?_); refine goesL_ (some 16) rfl rfl Tryz.func55 (by kernel_rfl) rfl #[.string a1] rfl (by (try simp only [List.map_toArray, List.map_cons, List.map_nil]); first | done | rfl | (simp only [List.length_drop, List.length_take]; rfl)) ?_; (with_reducible refine (oid_Arcs.calls k a1 t182 t183 _ ?side1 A4.out).mono ?_); (case side1 => first | exact HGl.out | exact HGl.out.below (by repeat (first | (with_reducible first | exact HB.out | apply below_alloc | apply pw_below_drewN | apply below_drew1) | exact HB.out | (refine below_set ?_ (Aside0.out (by assumption))) | exact Below.refl _ _))); rintro e w9 ⟨v184, rfl, ho0, hb⟩; refine ⟨_, rfl, ?_⟩; have n0_ := Aside0.mk (Kd.R_elder' (by (with_reducible repeat (first | apply Kd.R_alloc | apply Kd.R_drewN | apply Kd.R_drew)); exact HO181.out) (Kd.R_base ho0) hb); have n1_ := Aside0.mk (Kd.R_lower (Kd.R_new' ho0 (Kd.R_lt (by (with_reducible repeat (first | apply Kd.R_alloc | apply Kd.R_drewN | apply Kd.R_drew)); exact HO181.out))) (below_size (by repeat (first | (with_reducible first | exact HB.out | apply below_alloc | apply pw_below_drewN | apply below_drew1) | exact HB.out)))); have n2_ := Aside0.mk (below_step (by repeat (first | (with_reducible first | exact HB.out | apply below_alloc | apply pw_below_drewN | apply below_drew1) | exact HB.out)) hb); clear HO181; clear HB; have HO181 := n0_; have HO185 := n1_; have HB := n2_; clear n0_ n1_ n2_; (try clear hb); (try clear hb2); (try clear hk); (try clear hi); (try clear ho0)))
    go_ret3
    exact ⟨_, _, by first | rfl | (simp [errW_none, errW_some] <;> rfl) | (simp [*, errW_none, errW_some] <;> rfl), by (with_reducible repeat (first | apply Kd.R_alloc | apply Kd.R_drewN | apply Kd.R_drew)); exact Kd.R_mono HO181.out (fun _ hk => hk.2), by (with_reducible repeat (first | apply Kd.R_alloc | apply Kd.R_drewN | apply Kd.R_drew)); exact Kd.R_mono HO185.out (fun _ hk => hk.2), by repeat (first | (with_reducible first | exact HB.out | apply below_alloc | apply pw_below_drewN | apply below_drew1) | exact HB.out)⟩
  rw [if_pos c5] at H
  have c5b0 : (t179 == 0) = true := beq_iff_eq.mpr c5
  have c5b1 : (t179 != 0) = false := bne_eq_false_iff_eq.mpr c5
  clear c5
  simp only [Option.some.injEq, Prod.mk.injEq] at H
  obtain ⟨rfl, rfl, rfl⟩ := H
  go_enter Tryz.func53, Tryz.ntmps53
  go_wp2_with (first | ((with_reducible refine gate_callee (f := 55) rfl ?_); refine goesL_ (some 11) rfl rfl Tryz.func55 (by kernel_rfl) rfl #[.string a0] rfl (by (try simp only [List.map_toArray, List.map_cons, List.map_nil]); first | done | rfl | (simp only [List.length_drop, List.length_take]; rfl)) ?_; (with_reducible refine (oid_Arcs.calls k a0 t178 t179 _ ?side1 A3.out).mono ?_); (case side1 => first | exact HGl.out | exact HGl.out.below (by repeat (first | (with_reducible first | exact HB.out | apply below_alloc | apply pw_below_drewN | apply below_drew1) | exact HB.out | (refine below_set ?_ (Aside0.out (by assumption))) | exact Below.refl _ _))); rintro e w6 ⟨v180, rfl, ho0, hb⟩; refine ⟨_, rfl, ?_⟩; have n0_ := Aside0.mk (Kd.R_lower ho0 (below_size (by repeat (first | (with_reducible first | exact HB.out | apply below_alloc | apply pw_below_drewN | apply below_drew1) | exact HB.out)))); have n1_ := Aside0.mk (below_step (by repeat (first | (with_reducible first | exact HB.out | apply below_alloc | apply pw_below_drewN | apply below_drew1) | exact HB.out)) hb); clear HB; have HO181 := n0_; have HB := n1_; clear n0_ n1_; (try clear hb); (try clear hb2); (try clear hk); (try clear hi); (try clear ho0)) | ((with_reducible refine gate_callee (f := 55) rfl ?_); refine goesL_ (some 16) rfl rfl Tryz.func55 (by kernel_rfl) rfl #[.string a1] rfl (by (try simp only [List.map_toArray, List.map_cons, List.map_nil]); first | done | rfl | (simp only [List.length_drop, List.length_take]; rfl)) ?_; (with_reducible refine (oid_Arcs.calls k a1 t182 t183 _ ?side1 A4.out).mono ?_); (case side1 => first | exact HGl.out | exact HGl.out.below (by repeat (first | (with_reducible first | exact HB.out | apply below_alloc | apply pw_below_drewN | apply below_drew1) | exact HB.out | (refine below_set ?_ (Aside0.out (by assumption))) | exact Below.refl _ _))); rintro e w7 ⟨v184, rfl, ho0, hb⟩; refine ⟨_, rfl, ?_⟩; have n0_ := Aside0.mk (Kd.R_elder' (by (with_reducible repeat (first | apply Kd.R_alloc | apply Kd.R_drewN | apply Kd.R_drew)); exact HO181.out) (Kd.R_base ho0) hb); have n1_ := Aside0.mk (Kd.R_lower (Kd.R_new' ho0 (Kd.R_lt (by (with_reducible repeat (first | apply Kd.R_alloc | apply Kd.R_drewN | apply Kd.R_drew)); exact HO181.out))) (below_size (by repeat (first | (with_reducible first | exact HB.out | apply below_alloc | apply pw_below_drewN | apply below_drew1) | exact HB.out)))); have n2_ := Aside0.mk (below_step (by repeat (first | (with_reducible first | exact HB.out | apply below_alloc | apply pw_below_drewN | apply below_drew1) | exact HB.out)) hb); clear HO181; clear HB; have HO181 := n0_; have HO185 := n1_; have HB := n2_; clear n0_ n1_ n2_; (try clear hb); (try clear hb2); (try clear hk); (try clear hi); (try clear ho0)))
  go_ret3
  exact ⟨_, _, by first | rfl | (simp [errW_none, errW_some] <;> rfl) | (simp [*, errW_none, errW_some] <;> rfl), by (with_reducible repeat (first | apply Kd.R_alloc | apply Kd.R_drewN | apply Kd.R_drew)); exact Kd.R_mono HO181.out (fun _ hk => hk.2), by (with_reducible repeat (first | apply Kd.R_alloc | apply Kd.R_drewN | apply Kd.R_drew)); exact Kd.R_mono HO185.out (fun _ hk => hk.2), by repeat (first | (with_reducible first | exact HB.out | apply below_alloc | apply pw_below_drewN | apply below_drew1) | exact HB.out)⟩

/-! ### slices_Equal_int_int: function 54 -/
def slices_Equal_int_int.l0 : Nat → List Int → List Int → Int → Int → Option (Bool)
  | 0, _, _, _, _ => none
  | k + 1, x0, x1, x12, x13 => if x13 < x12 then (if 0 ≤ x13 then (if x13 < (x0.length : Int) then (if x13 < (x1.length : Int) then (if (rd x0 x13) = (rd x1 x13) then (slices_Equal_int_int.l0 k x0 x1 x12 (wrap64 (x13 + 1))) else (some false)) else (none)) else (none)) else (none)) else (some true)
def slices_Equal_int_int.f (k : Nat) (l0 : List Int) (l1 : List Int) : Option (Bool) := if (l0.length : Int) = (l1.length : Int) then (slices_Equal_int_int.l0 k l0 l1 (l0.length : Int) 0) else (some false)
theorem slices_Equal_int_int.mono_l : ∀ k, (∀ y0 y1 y2 y3, LeO (slices_Equal_int_int.l0 k y0 y1 y2 y3) (slices_Equal_int_int.l0 (k + 1) y0 y1 y2 y3))
  | 0 => fun _ _ _ _ r h => by simp [slices_Equal_int_int.l0] at h
  | k + 1 => by
    have ih0 := slices_Equal_int_int.mono_l k
    · intro y0 y1 y2 y3
      unfold slices_Equal_int_int.l0
      repeat' first
      | (with_reducible exact ih0 _ _ _ _)
      | (with_reducible exact LeO.refl _)
      | (with_reducible exact LeO.none _)
      | (with_reducible refine LeO.ite ?_ ?_)
      | (with_reducible refine LeO.bind ?_ (fun _ => ?_))
      | exact ih0 _ _ _ _
      | exact LeO.none _
      | refine LeO.ite ?_ ?_
      | refine LeO.bind ?_ (fun _ => ?_)
theorem slices_Equal_int_int.mono : ∀ a0 a1 k, LeO (slices_Equal_int_int.f k a0 a1) (slices_Equal_int_int.f (k + 1) a0 a1) := by
  intro a0 a1 k
  have ih0 := slices_Equal_int_int.mono_l k
  unfold slices_Equal_int_int.f
  repeat' first
      | (with_reducible exact ih0 _ _ _ _)
      | (with_reducible exact LeO.refl _)
      | (with_reducible exact LeO.none _)
      | (with_reducible refine LeO.ite ?_ ?_)
      | (with_reducible refine LeO.bind ?_ (fun _ => ?_))
      | exact ih0 _ _ _ _
      | exact LeO.none _
      | refine LeO.ite ?_ ?_
      | refine LeO.bind ?_ (fun _ => ?_)
set_option maxHeartbeats 8000000 in
set_option maxRecDepth 100000 in
theorem slices_Equal_int_int.calls (k : Nat) (A0 : Option Addr) (c0 : Nat) (l0 : List Int) (A1 : Option Addr) (c1 : Nat) (l1 : List Int) (r : Bool) (w : World) (hr0 : Kd.C (Kd.int .i64) w A0 l0.length l0) (hc0 : l0.length ≤ c0) (hr1 : Kd.C (Kd.int .i64) w A1 l1.length l1) (hc1 : l1.length ≤ c1) (h : slices_Equal_int_int.f k l0 l1 = some r) :
    Calls Tryz.prog 54 #[.slice A0 l0.length c0, .slice A1 l1.length c1] w fun e w' => e = .returned (.bool r) ∧ Drawn0 w w' := by
  have HR0 := Aside0.mk hr0
  have HC0 := Aside0.mk hc0
  clear hr0 hc0
  have HR1 := Aside0.mk hr1
  have HC1 := Aside0.mk hc1
  clear hr1 hc1
  have H : (if (l0.length : Int) = (l1.length : Int) then (slices_Equal_int_int.l0 k l0 l1 (l0.length : Int) 0) else (some false)) = some r := h
  clear h
  by_cases c3 : (l0.length : Int) = (l1.length : Int)
  rotate_left
  · rw [if_neg c3] at H
    have c3b0 : ((l0.length : Int) == (l1.length : Int)) = false := beq_eq_false_iff_ne.mpr c3
    have c3b1 : ((l0.length : Int) != (l1.length : Int)) = true := bne_iff_ne.mpr c3
    have c3b2 : (l0.length == l1.length) = false := by first | simpa using c3 | (simp at c3 ⊢; omega)
    obtain rfl := Option.some.inj H
    go_enter Tryz.func54, Tryz.ntmps54
    go_wp2
    repeat (go_quiet (fail); try go_wp2)
    go_ret
    exact ⟨by first | rfl | (simp; done) | (simp [*]; done), by repeat (first | exact Drawn0.refl _ | apply Drawn0.step)⟩
  rw [if_pos c3] at H
  have c3b0 : ((l0.length : Int) == (l1.length : Int)) = true := beq_iff_eq.mpr c3
  have c3b1 : ((l0.length : Int) != (l1.length : Int)) = false := bne_eq_false_iff_eq.mpr c3
  have c3b2 : (l0.length == l1.length) = true := by first | simpa using c3 | (simp at c3 ⊢; omega)
  clear c3
  have H' := Aside0.mk H
  clear H
  go_enter Tryz.func54, Tryz.ntmps54
  go_wp2
  repeat (go_quiet (fail); try go_wp2)
  go_loopg [13] k (fun kq v13 w' => ∃ (x13_1 : Int), v13 = .int .i64 x13_1 ∧ Aside0 (slices_Equal_int_int.l0 kq l0 l1 (l0.length : Int) x13_1 = some r) ∧ Aside0 (kq ≤ k) ∧ Drawn0 w w')
  case atStart => exact ⟨(0), (by first | rfl | (simp; done) | (simp [*]; done) | (simp [*]; exact isEmpty_bne _) | (simp; exact isEmpty_bne _)), H', ⟨Nat.le_refl _⟩, by repeat (first | exact Drawn0.refl _ | apply Drawn0.step)⟩
  case round =>
    clear H'
    try clear c1
    try clear p2
    try clear c3
    try clear c3b0
    try clear c3b1
    try clear c3b2
    obtain ⟨x13_1, rfl, HA, HK1, ⟨m1, rfl⟩⟩ := hrel
    cases gk with
    | zero => exact absurd HA.out (by simp [slices_Equal_int_int.l0])
    | succ k1 =>
      have H := HA.out
      clear HA
      simp only [slices_Equal_int_int.l0] at H
      by_cases c4 : x13_1 < (l0.length : Int)
      · rw [if_pos c4] at H
        have c4b0 : decide (x13_1 < (l0.length : Int)) = true := decide_eq_true c4
        clear c4
        by_cases c5 : 0 ≤ x13_1
        · rw [if_pos c5] at H
          have c5b0 : decide (0 ≤ x13_1) = true := decide_eq_true c5
          clear c5
          by_cases c6 : x13_1 < (l0.length : Int)
          · rw [if_pos c6] at H
            have c6b0 : decide (x13_1 < (l0.length : Int)) = true := decide_eq_true c6
            clear c6
            by_cases c7 : x13_1 < (l1.length : Int)
            · rw [if_pos c7] at H
              have c7b0 : decide (x13_1 < (l1.length : Int)) = true := decide_eq_true c7
              clear c7
              by_cases c8 : (rd l0 x13_1) = (rd l1 x13_1)
              · rw [if_pos c8] at H
                have c8b0 : ((rd l0 x13_1) == (rd l1 x13_1)) = true := beq_iff_eq.mpr c8
                have c8b1 : ((rd l0 x13_1) != (rd l1 x13_1)) = false := bne_eq_false_iff_eq.mpr c8
                clear c8
                have H' := Aside0.mk H
                clear H
                have p186 : 0 ≤ (x13_1 : Int) := of_decide_eq_true (by first | (with_reducible assumption) | assumption)
                have q186 : x13_1 < (l0.length : Int) := of_decide_eq_true (by first | (with_reducible assumption) | assumption)
                obtain ⟨ad186, e186, hx186_0⟩ := Kd.at_int HR0.out x13_1 p186 q186
                cases e186
                replace p186 := eq_true p186
                replace q186 := eq_true q186
                have p187 : 0 ≤ (x13_1 : Int) := of_decide_eq_true (by first | (with_reducible assumption) | assumption)
                have q187 : x13_1 < (l1.length : Int) := of_decide_eq_true (by first | (with_reducible assumption) | assumption)
                obtain ⟨ad187, e187, hx187_0⟩ := Kd.at_int HR1.out x13_1 p187 q187
                cases e187
                replace p187 := eq_true p187
                replace q187 := eq_true q187
                go_wp2
                repeat (go_quiet (fail); try go_wp2)
                go_roundg k1
                case measure => have := HK1.out; omega
                case rel => exact ⟨(wrap64 (x13_1 + 1)), (by first | rfl | (simp; done) | (simp [*]; done) | (simp [*]; exact isEmpty_bne _) | (simp; exact isEmpty_bne _)), H', ⟨by have := HK1.out; omega⟩, by repeat (first | exact Drawn0.refl _ | apply Drawn0.step)⟩
              · rw [if_neg c8] at H
                have c8b0 : ((rd l0 x13_1) == (rd l1 x13_1)) = false := beq_eq_false_iff_ne.mpr c8
                have c8b1 : ((rd l0 x13_1) != (rd l1 x13_1)) = true := bne_iff_ne.mpr c8
                obtain rfl := Option.some.inj H
                have p186 : 0 ≤ (x13_1 : Int) := of_decide_eq_true (by first | (with_reducible assumption) | assumption)
                have q186 : x13_1 < (l0.length : Int) := of_decide_eq_true (by first | (with_reducible assumption) | assumption)
                obtain ⟨ad186, e186, hx186_0⟩ := Kd.at_int HR0.out x13_1 p186 q186
                cases e186
                replace p186 := eq_true p186
                replace q186 := eq_true q186
                have p187 : 0 ≤ (x13_1 : Int) := of_decide_eq_true (by first | (with_reducible assumption) | assumption)
                have q187 : x13_1 < (l1.length : Int) := of_decide_eq_true (by first | (with_reducible assumption) | assumption)
                obtain ⟨ad187, e187, hx187_0⟩ := Kd.at_int HR1.out x13_1 p187 q187
                cases e187
                replace p187 := eq_true p187
                replace q187 := eq_true q187
                go_wp2
                repeat (go_quiet (fail); try go_wp2)
                go_ret
                exact ⟨by first | rfl | (simp; done) | (simp [*]; done), by repeat (first | exact Drawn0.refl _ | apply Drawn0.step)⟩
            · rw [if_neg c7] at H
              exact absurd H (by simp)
          · rw [if_neg c6] at H
            exact absurd H (by simp)
        · rw [if_neg c5] at H
          exact absurd H (by simp)
      · rw [if_neg c4] at H
        have c4b0 : decide (x13_1 < (l0.length : Int)) = false := decide_eq_false c4
        clear c4
        obtain rfl := Option.some.inj H
        go_wp2
        repeat (go_quiet (fail); try go_wp2)
        go_ret
        exact ⟨by first | rfl | (simp; done) | (simp [*]; done), by repeat (first | exact Drawn0.refl _ | apply Drawn0.step)⟩

/-! ### oid_Within: function 23 -/
def oid_Within.f (k : Nat) (a0 a1 : ByteArray) : Option Bool := (oid_both.f k a0 a1).bind fun r =>
  if r.2.2 = true then (if r.1.length ≤ r.2.1.length then slices_Equal_int_int.f k r.1 (r.2.1.take r.1.length) else some false) else some false
theorem oid_Within.mono : ∀ a0 a1 k, LeO (oid_Within.f k a0 a1) (oid_Within.f (k + 1) a0 a1) := by
  intro a0 a1 k
  unfold oid_Within.f
  exact LeO.bind (oid_both.mono _ _ _) (fun _ => LeO.ite (LeO.ite (slices_Equal_int_int.mono _ _ _) (LeO.refl _)) (LeO.refl _))
set_option maxHeartbeats 1600000 in
set_option maxRecDepth 100000 in
theorem oid_Within.calls (k : Nat) (a0 a1 : ByteArray) (r : Bool) (w : World) (hG : Gl w) (h : oid_Within.f k a0 a1 = some r) :
    Calls Tryz.prog 23 #[.string a0, .string a1] w fun e w' => e = .returned (.bool r) ∧ Below w.heap.size w w' := by
  unfold oid_Within.f at h
  obtain ⟨⟨x, y, ok⟩, hB, h⟩ := Option.bind_eq_some_iff.mp h
  simp only at h
  have AB := Aside0.mk (oid_both.calls k a0 a1 x y ok w hG hB)
  clear hB hG
  go_enter Tryz.func23, Tryz.ntmps23
  go_wp2_with fail
  refine AB.out.mono ?_
  rintro e w1 ⟨v0, v1, rfl, hr0, hr1, hb1⟩
  obtain ⟨A0, c0, rfl, hc0, hC0⟩ := Kd.R_reads hr0
  obtain ⟨A1, c1, rfl, hc1, hC1⟩ := Kd.R_reads hr1
  have HB1 := Aside0.mk hb1
  have HC0 := Aside0.mk hC0
  have HC1 := Aside0.mk hC1
  clear hr0 hr1 hb1 hC0 hC1 AB
  cases ok with
  | true =>
    rw [if_pos rfl] at h
    by_cases hl : x.length ≤ y.length
    · rw [if_pos hl] at h
      have H := Aside0.mk h
      have e1 : decide ((x.length : Int) ≤ (y.length : Int)) = true := decide_eq_true (by omega)
      have e2 := eq_true (show x.length ≤ c1 by omega)
      have e3 := eq_true (show (x.length : Int) ≤ (c1 : Int) by omega)
      have e4 : decide (x.length ≤ y.length) = true := decide_eq_true hl
      have HL := Aside0.mk hl
      have HX := Aside0.mk hc0
      clear h hl hc1 hc0
      go_wp2_with fail
      have hC2 := Kd.C_take HC1.out HL.out
      have hn : (y.take x.length).length = x.length := by rw [List.length_take]; have := HL.out; omega
      have AE := slices_Equal_int_int.calls k A0 c0 x A1 x.length (y.take x.length) r w1 HC0.out HX.out hC2 (Nat.le_of_eq hn) H.out
      rw [hn] at AE
      refine AE.mono ?_
      rintro e w2 ⟨rfl, hd⟩
      have HD := Aside0.mk hd
      clear hC2 hn AE hd
      go_wp2
      go_ret
      exact ⟨rfl, Below.trans HB1.out (Below.mono HD.out.below HB1.out.size)⟩
    · rw [if_neg hl] at h
      obtain rfl := Option.some.inj h
      have e1 : decide ((x.length : Int) ≤ (y.length : Int)) = false := decide_eq_false (by omega)
      have e4 : decide (x.length ≤ y.length) = false := decide_eq_false hl
      clear hl hc1 hc0
      go_wp2
      go_ret
      exact ⟨rfl, HB1.out⟩
  | false =>
    rw [if_neg (by decide)] at h
    obtain rfl := Option.some.inj h
    clear hc1 hc0
    go_wp2
    go_ret
    exact ⟨rfl, HB1.out⟩

end Go.Proofs.YtjfimileopbadaaGreatDoor.XPdF
