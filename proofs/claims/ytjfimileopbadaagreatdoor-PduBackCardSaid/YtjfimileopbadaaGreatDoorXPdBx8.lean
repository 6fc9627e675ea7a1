-- Laid by extprint.py (the session's own driver): functions told by the kit's printer and by hand.
import Derived.Test.YtjfimileopbadaaGreatDoorXPdBx0
import Derived.Test.YtjfimileopbadaaGreatDoorXPdBx2
import Derived.Test.YtjfimileopbadaaGreatDoorXPdBx5
import Derived.Test.YtjfimileopbadaaGreatDoorXPdBx6
import Derived.Test.YtjfimileopbadaaGreatDoorXPdBx7
namespace Go.Proofs.YtjfimileopbadaaGreatDoor.XPdB
open Go.RowKit Gong Go.Proofs.YtjfimileopbadaaGreatDoorW.PrintWords Go.Proofs.YtjfimileopbadaaGreatDoorW.PrintLast Go.Proofs.YtjfimileopbadaaGreatDoorW.PrintMore
attribute [local go_sem] max2_int min2_int max_two min_two max_three min_three max_four min_four   -- for this text's walks alone
set_option linter.unusedVariables false
set_option linter.unusedSimpArgs false

attribute [local go_sem high] eqA30
/-! ### pdu_Encode: function 13 -/
def pdu_Encode.go (k : Nat) : List S30 → List UInt8 → Option (Option (List UInt8))
  | [], acc => some (some acc)
  | b :: l, acc => (pdu_bind.f k b.f0 b.f1.f0 b.f1.f1 b.f1.f2).bind fun s => if acc.length + s.size ≤ 1000000000 then (if 65536 < acc.length + s.size then some none else pdu_Encode.go k l (acc ++ s.data.toList)) else none
def pdu_Encode.cat (a b : ByteArray) : Option ByteArray := if a.size + b.size ≤ 1000000000 then some (a ++ b) else none
def pdu_Encode.nums (k : Nat) : List Int → ByteArray → Option ByteArray
  | [], y => some y
  | n :: ns, y => (ber_PutNumber.f k n).bind fun p => (pdu_wrap.f k 2 p).bind fun e => (pdu_Encode.cat y e).bind fun z => pdu_Encode.nums k ns z
def pdu_Encode.tail (k : Nat) (a0 : Int) (y : ByteArray) (acc : List UInt8) : Option (ByteArray × Int) :=
  (pdu_wrap.f k 48 ⟨acc.toArray⟩).bind fun s1 => (pdu_Encode.cat y s1).bind fun z => (pdu_wrap.f k a0 z).bind fun s => if 65536 < s.size then some (⟨#[]⟩, 2) else some (s, 0)
def pdu_Encode.rest (k : Nat) (a0 a1 a2 a3 : Int) : Option (List UInt8) → Option (ByteArray × Int)
  | none => some (⟨#[]⟩, 2)
  | some acc => (pdu_Encode.nums k [a1, a2, a3] ⟨#[]⟩).bind fun y => pdu_Encode.tail k a0 y acc
def pdu_Encode.f (k : Nat) (a0 a1 a2 a3 : Int) (l : List S30) : Option (ByteArray × Int) :=
  (pdu_Check.f k a0 a1 a2 a3 l).bind fun c => if c = 0 then (pdu_Encode.go k l []).bind fun o => pdu_Encode.rest k a0 a1 a2 a3 o else some (⟨#[]⟩, c)
theorem pdu_Encode.go_mono (k : Nat) : ∀ l acc, LeO (pdu_Encode.go k l acc) (pdu_Encode.go (k + 1) l acc)
  | [], acc => LeO.refl _
  | b :: l, acc => by
    unfold pdu_Encode.go
    refine LeO.bind (pdu_bind.mono _ _ _ _ _) (fun s => ?_)
    split
    · split
      · exact LeO.refl _
      · exact pdu_Encode.go_mono k l _
    · exact LeO.refl _
theorem pdu_Encode.nums_mono (k : Nat) : ∀ ns y, LeO (pdu_Encode.nums k ns y) (pdu_Encode.nums (k + 1) ns y)
  | [], y => LeO.refl _
  | n :: ns, y => by
    unfold pdu_Encode.nums
    exact LeO.bind (ber_PutNumber.mono _ _) (fun _ => LeO.bind (pdu_wrap.mono _ _ _) (fun _ => LeO.bind (LeO.refl _) (fun _ => pdu_Encode.nums_mono k ns _)))
theorem pdu_Encode.mono : ∀ a0 a1 a2 a3 l k, LeO (pdu_Encode.f k a0 a1 a2 a3 l) (pdu_Encode.f (k + 1) a0 a1 a2 a3 l) := by
  intro a0 a1 a2 a3 l k
  unfold pdu_Encode.f
  refine LeO.bind (pdu_Check.mono _ _ _ _ _ _) (fun c => ?_)
  split
  · refine LeO.bind (pdu_Encode.go_mono k _ _) (fun o => ?_)
    cases o with
    | none => exact LeO.refl _
    | some acc =>
      unfold pdu_Encode.rest pdu_Encode.tail
      exact LeO.bind (pdu_Encode.nums_mono k _ _) (fun _ => LeO.bind (pdu_wrap.mono _ _ _) (fun _ => LeO.bind (LeO.refl _) (fun _ => LeO.bind (pdu_wrap.mono _ _ _) (fun _ => LeO.refl _))))
  · exact LeO.refl _
set_option maxHeartbeats 8000000 in
set_option maxRecDepth 100000 in
theorem pdu_Encode.calls (k : Nat) (a0_0 : Int) (a0_1 : Int) (a0_2 : Int) (a0_3 : Int) (A0_4 : Option Addr) (c0_4 : Nat) (l0_4 : List (S30)) (r1 : ByteArray) (r2 : Int) (w : World) (hG : Gl w) (hr0_4 : Kd.C k30 w A0_4 l0_4.length l0_4) (hc0_4 : l0_4.length ≤ c0_4) (h : pdu_Encode.f k a0_0 a0_1 a0_2 a0_3 l0_4 = some (r1, r2)) :
    Calls Tryz.prog 13 #[.agg #[.int .i64 a0_0, .int .i64 a0_1, .int .i64 a0_2, .int .i64 a0_3, .slice A0_4 l0_4.length c0_4]] w fun e w' => e = .returned (.tuple #[.string r1, .int .i64 r2]) ∧ Below w.heap.size w w' := by
  have HGl := Aside0.mk hG
  have HR0 := Aside0.mk hr0_4
  have HC0 := Aside0.mk hc0_4
  have HLN := Aside0.mk hr0_4.2.1
  unfold pdu_Encode.f at h
  obtain ⟨c, hck, h⟩ := Option.bind_eq_some_iff.1 h
  have HCK := Aside0.mk hck
  clear hG hr0_4 hc0_4 hck
  go_enter Tryz.func13, Tryz.ntmps13
  go_wp2_with fail
  obtain ⟨w1, hw1⟩ : ∃ w1, w1 = w.alloc (.cells #[.int .i64 a0_0, .int .i64 a0_1, .int .i64 a0_2, .int .i64 a0_3, .slice A0_4 l0_4.length c0_4] 24) := ⟨_, rfl⟩
  have HX := Aside0.mk (show w1.heap[w.heap.size]? = some (.cells #[.int .i64 a0_0, .int .i64 a0_1, .int .i64 a0_2, .int .i64 a0_3, .slice A0_4 l0_4.length c0_4] 24 (0, 0)) by rw [hw1]; exact heap_alloc_new w _)
  have HB := Aside0.mk (show Below w.heap.size w w1 by rw [hw1]; exact below_alloc (Below.refl _ _) _)
  rw [← hw1]
  clear hw1
  refine (pdu_Check.calls k a0_0 a0_1 a0_2 a0_3 A0_4 c0_4 l0_4 c w1 (HGl.out.below HB.out) (Kd.C_below HR0.out HB.out) HC0.out HCK.out).mono ?_
  rintro e w3 ⟨rfl, hb3⟩
  have HX3 := Aside0.mk ((Mv.of_below (S := fun _ => False) hb3).heap HX.out id)
  have HB3 := Aside0.mk (Below.trans HB.out (Below.mono hb3 HB.out.size))
  clear hb3 HX HB HCK
  by_cases hc : c = 0
  case neg =>
    rw [if_neg hc] at h
    simp only [Option.some.injEq, Prod.mk.injEq] at h
    obtain ⟨rfl, rfl⟩ := h
    have e1 : (c != 0) = true := bne_iff_ne.mpr hc
    have e1' := eq_false hc
    clear hc
    go_wp2
    go_ret2
    exact ⟨rfl, HB3.out⟩
  subst hc
  rw [if_pos rfl] at h
  obtain ⟨o, hgo, h⟩ := Option.bind_eq_some_iff.1 h
  have HGO := Aside0.mk hgo
  have HH := Aside0.mk h
  clear hgo h
  have x4 := (blk_cell HX3.out 4).trans rfl
  go_upto_region 5 with (fail)
  obtain ⟨w4, hw4⟩ : ∃ w4, w4 = w3.alloc (.cells #[.pointer none, .slice none 0 0] 75) := ⟨_, rfl⟩
  have HBL := Aside0.mk (show Bl w4 w3.heap.size w3.heap.size (.slice none 0 0) [] by rw [hw4]; exact Bl.new w3 w3.heap.size (Nat.le_refl _))
  have HX4 := Aside0.mk (show w4.heap[w.heap.size]? = some (.cells #[.int .i64 a0_0, .int .i64 a0_1, .int .i64 a0_2, .int .i64 a0_3, .slice A0_4 l0_4.length c0_4] 24 (0, 0)) by rw [hw4]; exact ((Mv.refl (fun _ => False) w3).alloc _).heap HX3.out id)
  have HB4 := Aside0.mk (show Below w.heap.size w w4 by rw [hw4]; exact below_alloc HB3.out _)
  have HBB := Aside0.mk (show w.heap.size < w3.heap.size from (Array.getElem?_eq_some_iff.1 HX3.out).1)
  rw [← hw4]
  clear x4 hw4 HX3 HB3
  generalize w3.heap.size = b at HBL HBB ⊢
  have x4 := (blk_cell HX4.out 4).trans rfl
  go_wp2
  clear x4
  go_loopg [20] (l0_4.length + 2) (fun kq v20 W => ∃ (i : Nat) (bv : Value) (acc : List UInt8), v20 = .int .i64 i ∧ Aside0 (i ≤ l0_4.length) ∧ Aside0 (l0_4.length - i < kq) ∧ Aside0 (pdu_Encode.go k (l0_4.drop i) acc = some o) ∧ Aside0 (Bl W b b bv acc) ∧ Aside0 (W.heap[w.heap.size]? = some (.cells #[.int .i64 a0_0, .int .i64 a0_1, .int .i64 a0_2, .int .i64 a0_3, .slice A0_4 l0_4.length c0_4] 24 (0, 0))) ∧ Aside0 (Below w.heap.size w W))
  case atStart => exact ⟨0, _, [], rfl, ⟨Nat.zero_le _⟩, ⟨by omega⟩, HGO, HBL, HX4, HB4⟩
  case round =>
    clear HGO HBL HX4 HB4
    obtain ⟨i, bv, acc, rfl, HI, HKQ, HGO, HBL, HX, HB⟩ := hrel
    by_cases ci : i < l0_4.length
    · obtain ⟨x, hx⟩ : ∃ x, l0_4[i]? = some x := ⟨_, List.getElem?_eq_getElem ci⟩
      have hd : l0_4.drop i = x :: l0_4.drop (i + 1) := by
        obtain ⟨h1, h2⟩ := List.getElem?_eq_some_iff.1 hx
        rw [← h2]; exact List.drop_eq_getElem_cons h1
      have hgo := HGO.out
      rw [hd, pdu_Encode.go] at hgo
      obtain ⟨s, hbd, hgo⟩ := Option.bind_eq_some_iff.1 hgo
      by_cases hsz : acc.length + s.size ≤ 1000000000
      case neg => rw [if_neg hsz] at hgo; exact absurd hgo (by simp)
      rw [if_pos hsz] at hgo
      obtain ⟨ad, rfl, y0, y1, y2, y3⟩ := at_T30 (Kd.C_below HR0.out HB.out) (i : Int) (by omega) (by omega)
      have hrd : rd_T30 l0_4 (i : Int) = x := by unfold rd_T30; rw [Int.toNat_natCast, List.getD_eq_getElem?_getD, hx]; rfl
      rw [hrd] at y0 y1 y2 y3
      rw [Int.toNat_natCast] at y0 y1 y2 y3
      have HI2 := Aside0.mk ci
      have HBD := Aside0.mk hbd
      have HGO2 := Aside0.mk hgo
      have HSZ := Aside0.mk hsz
      have e1 := eq_true ci
      have e2 : decide ((i : Int) < (l0_4.length : Int)) = true := decide_eq_true (by omega)
      have e3 : (0 ≤ (i : Int)) = True := eq_true (by omega)
      have e9 : wrap64 ((i : Int) + 1) = ((i + 1 : Nat) : Int) := by have := HLN.out; unfold wrap64; omega
      clear hd hgo hbd hsz hx hrd ci HGO HI
      go_wp2_with fail
      obtain ⟨w5, hw5⟩ : ∃ w5, w5 = wr.alloc (.cells #[.string x.f0, .int .i64 x.f1.f0, .int .i64 x.f1.f1, .string x.f1.f2] 30) := ⟨_, rfl⟩
      have hb5 : Below wr.heap.size wr w5 := by rw [hw5]; exact below_alloc (Below.refl _ _) _
      rw [← hw5]
      clear hw5
      refine (pdu_bind.calls k x.f0 x.f1.f0 x.f1.f1 x.f1.f2 s w5 (HGl.out.below (Below.trans HB.out (Below.mono hb5 HB.out.size))) HBD.out).mono ?_
      rintro e w6 ⟨rfl, hb6⟩
      have hb56 : Below wr.heap.size wr w6 := Below.trans hb5 (Below.mono hb6 hb5.size)
      have HBL6 := Aside0.mk (HBL.out.keep hb56)
      have HX6 := Aside0.mk ((Mv.of_below (S := fun _ => False) hb56).heap HX.out id)
      have HB6 := Aside0.mk (Below.trans HB.out (Below.mono hb56 HB.out.size))
      clear hb5 hb6 hb56 y0 y1 y2 y3 HBL HX HB
      go_wp2_with fail
      refine (HBL6.out.write s (by have := HSZ.out; omega)).mono ?_
      rintro e w7 ⟨rfl, v7, hbl7, ho7, hm7⟩
      have HBL7 := Aside0.mk hbl7
      have HX7 := Aside0.mk (hm7.heap HX6.out (fun h => h.elim (fun h => by have := HBB.out; omega) (fun h => by have := (World.ownsRow.lt HBL6.out.row _ h).1; have := HBB.out; omega)))
      have HB7 := Aside0.mk (Below.trans HB6.out (hm7.below HB6.out.size (fun q hq => hq.elim (fun h => by have := HBB.out; omega) (fun h => by have := (World.ownsRow.lt HBL6.out.row _ h).1; have := HBB.out; omega))))
      clear hbl7 ho7 hm7 HBL6 HX6 HB6
      go_wp2_with fail
      refine HBL7.out.len_.mono ?_
      rintro e w8 ⟨rfl, rfl⟩
      have HLA := Aside0.mk (show (acc ++ s.data.toList).length = acc.length + s.size by simp)
      by_cases hbig : 65536 < acc.length + s.size
      · have hgo := HGO2.out
        rw [if_pos hbig, Option.some.injEq] at hgo
        subst hgo
        have hh := HH.out
        unfold pdu_Encode.rest at hh
        simp only [Option.some.injEq, Prod.mk.injEq] at hh
        obtain ⟨rfl, rfl⟩ := hh
        have e6 : ((65536 : Int) < (acc.length : Int) + (s.size : Int)) = True := eq_true (by omega)
        have e7 : decide ((65536 : Int) < (acc.length : Int) + (s.size : Int)) = true := decide_eq_true (by omega)
        clear hbig
        go_wp2
        go_ret2
        exact ⟨rfl, HB7.out⟩
      · have hgo := HGO2.out
        rw [if_neg hbig] at hgo
        have HGO3 := Aside0.mk hgo
        have e6 : ((65536 : Int) < (acc.length : Int) + (s.size : Int)) = False := eq_false (by omega)
        have e7 : decide ((65536 : Int) < (acc.length : Int) + (s.size : Int)) = false := decide_eq_false (by omega)
        clear hbig hgo
        go_wp2
        go_roundg (l0_4.length - (i + 1) + 1)
        case measure => have := HKQ.out; have := HI2.out; omega
        case rel => exact ⟨i + 1, v7, acc ++ s.data.toList, by first | rfl | rw [e9], ⟨HI2.out⟩, ⟨by omega⟩, HGO3, HBL7, HX7, HB7⟩
    · have hi : i = l0_4.length := by have := HI.out; omega
      have hgo := HGO.out
      rw [hi, List.drop_length, pdu_Encode.go, Option.some.injEq] at hgo
      subst hgo
      have hh := HH.out
      unfold pdu_Encode.rest at hh
      obtain ⟨y, hns, hh⟩ := Option.bind_eq_some_iff.1 hh
      have HNS := Aside0.mk hns
      have HHH := Aside0.mk hh
      have e1 := eq_false ci
      have e2 : decide ((i : Int) < (l0_4.length : Int)) = false := decide_eq_false (by omega)
      have x1 := (blk_cell HX.out 1).trans rfl
      have x2 := (blk_cell HX.out 2).trans rfl
      have x3 := (blk_cell HX.out 3).trans rfl
      clear hns hh ci hi HGO HI HKQ HH
      go_wp2
      clear x1 x2 x3
      generalize HW2 : wr = w10 at HBL HX HB ⊢
      clear HW2
      have u82 : Tryz.prog.underlying 82 = some (.array 3 3) := by kernel_rfl
      go_loopg [8, 37] 5 (fun kq v8 v37 W => ∃ (j : Nat) (y2 : ByteArray), v8 = .string y2 ∧ v37 = .int .i64 j ∧ Aside0 (j ≤ 3) ∧ Aside0 (3 - j < kq) ∧ Aside0 (pdu_Encode.nums k ([a0_1, a0_2, a0_3].drop j) y2 = some y) ∧ Aside0 (Bl W b b bv acc) ∧ Aside0 (W.heap[w.heap.size]? = some (.cells #[.int .i64 a0_0, .int .i64 a0_1, .int .i64 a0_2, .int .i64 a0_3, .slice A0_4 l0_4.length c0_4] 24 (0, 0))) ∧ Aside0 (Below w.heap.size w W))
      case atStart => exact ⟨0, _, rfl, rfl, ⟨by omega⟩, ⟨by omega⟩, HNS, HBL, HX, HB⟩
      case round =>
        clear HNS HBL HX HB
        obtain ⟨j, y2, rfl, rfl, HJ, HJK, HNS, HBL, HX, HB⟩ := hrel
        have hj : j = 0 ∨ j = 1 ∨ j = 2 ∨ j = 3 := by have := HJ.out; omega
        rcases hj with rfl | rfl | rfl | rfl
        · have hns := HNS.out
          rw [show List.drop 0 [a0_1, a0_2, a0_3] = a0_1 :: List.drop 1 [a0_1, a0_2, a0_3] from rfl, pdu_Encode.nums] at hns
          obtain ⟨p, hp, hns⟩ := Option.bind_eq_some_iff.1 hns
          obtain ⟨q, hq, hns⟩ := Option.bind_eq_some_iff.1 hns
          obtain ⟨z, hz, hns⟩ := Option.bind_eq_some_iff.1 hns
          unfold pdu_Encode.cat at hz
          by_cases hc : y2.size + q.size ≤ 1000000000
          case neg => rw [if_neg hc] at hz; exact absurd hz (by simp)
          rw [if_pos hc, Option.some.injEq] at hz
          subst hz
          have HP := Aside0.mk hp
          have HQ := Aside0.mk hq
          have HN2 := Aside0.mk hns
          have e1 : (9223372036854775807 < y2.size + q.size) = False := eq_false (by omega)
          have hix : ∀ W, (Instr.index 82 (.agg #[.int .i64 a0_1, .int .i64 a0_2, .int .i64 a0_3]) (.int .i64 0)).run Tryz.prog W = .ok (.int .i64 a0_1) W := by
            intro W
            simp [Instr.index, run_underlying u82, asIntOf, go_sem]
          clear hp hq hns hc HNS HJ
          go_wp2_with fail
          refine (ber_PutNumber.calls k a0_1 p wr HP.out).mono ?_
          rintro e w11 ⟨rfl, hb11⟩
          go_wp2_with fail
          refine (pdu_wrap.calls k 2 p q w11 HQ.out).mono ?_
          rintro e w12 ⟨rfl, hb12⟩
          have hb13 : Below wr.heap.size wr w12 := Below.trans hb11 (Below.mono hb12 hb11.size)
          have HBL6 := Aside0.mk (HBL.out.keep hb13)
          have HX6 := Aside0.mk ((Mv.of_below (S := fun _ => False) hb13).heap HX.out id)
          have HB6 := Aside0.mk (Below.trans HB.out (Below.mono hb13 HB.out.size))
          clear hb11 hb12 hb13 HBL HX HB
          go_wp2
          go_roundg (3)
          case measure => have := HJK.out; omega
          case rel => exact ⟨1, y2 ++ q, rfl, rfl, ⟨by omega⟩, ⟨by omega⟩, HN2, HBL6, HX6, HB6⟩
        · have hns := HNS.out
          rw [show List.drop 1 [a0_1, a0_2, a0_3] = a0_2 :: List.drop 2 [a0_1, a0_2, a0_3] from rfl, pdu_Encode.nums] at hns
          obtain ⟨p, hp, hns⟩ := Option.bind_eq_some_iff.1 hns
          obtain ⟨q, hq, hns⟩ := Option.bind_eq_some_iff.1 hns
          obtain ⟨z, hz, hns⟩ := Option.bind_eq_some_iff.1 hns
          unfold pdu_Encode.cat at hz
          by_cases hc : y2.size + q.size ≤ 1000000000
          case neg => rw [if_neg hc] at hz; exact absurd hz (by simp)
          rw [if_pos hc, Option.some.injEq] at hz
          subst hz
          have HP := Aside0.mk hp
          have HQ := Aside0.mk hq
          have HN2 := Aside0.mk hns
          have e1 : (9223372036854775807 < y2.size + q.size) = False := eq_false (by omega)
          have hix : ∀ W, (Instr.index 82 (.agg #[.int .i64 a0_1, .int .i64 a0_2, .int .i64 a0_3]) (.int .i64 1)).run Tryz.prog W = .ok (.int .i64 a0_2) W := by
            intro W
            simp [Instr.index, run_underlying u82, asIntOf, go_sem]
          clear hp hq hns hc HNS HJ
          go_wp2_with fail
          refine (ber_PutNumber.calls k a0_2 p wr HP.out).mono ?_
          rintro e w11 ⟨rfl, hb11⟩
          go_wp2_with fail
          refine (pdu_wrap.calls k 2 p q w11 HQ.out).mono ?_
          rintro e w12 ⟨rfl, hb12⟩
          have hb13 : Below wr.heap.size wr w12 := Below.trans hb11 (Below.mono hb12 hb11.size)
          have HBL6 := Aside0.mk (HBL.out.keep hb13)
          have HX6 := Aside0.mk ((Mv.of_below (S := fun _ => False) hb13).heap HX.out id)
          have HB6 := Aside0.mk (Below.trans HB.out (Below.mono hb13 HB.out.size))
          clear hb11 hb12 hb13 HBL HX HB
          go_wp2
          go_roundg (2)
          case measure => have := HJK.out; omega
          case rel => exact ⟨2, y2 ++ q, rfl, rfl, ⟨by omega⟩, ⟨by omega⟩, HN2, HBL6, HX6, HB6⟩
        · have hns := HNS.out
          rw [show List.drop 2 [a0_1, a0_2, a0_3] = a0_3 :: List.drop 3 [a0_1, a0_2, a0_3] from rfl, pdu_Encode.nums] at hns
          obtain ⟨p, hp, hns⟩ := Option.bind_eq_some_iff.1 hns
          obtain ⟨q, hq, hns⟩ := Option.bind_eq_some_iff.1 hns
          obtain ⟨z, hz, hns⟩ := Option.bind_eq_some_iff.1 hns
          unfold pdu_Encode.cat at hz
          by_cases hc : y2.size + q.size ≤ 1000000000
          case neg => rw [if_neg hc] at hz; exact absurd hz (by simp)
          rw [if_pos hc, Option.some.injEq] at hz
          subst hz
          have HP := Aside0.mk hp
          have HQ := Aside0.mk hq
          have HN2 := Aside0.mk hns
          have e1 : (9223372036854775807 < y2.size + q.size) = False := eq_false (by omega)
          have hix : ∀ W, (Instr.index 82 (.agg #[.int .i64 a0_1, .int .i64 a0_2, .int .i64 a0_3]) (.int .i64 2)).run Tryz.prog W = .ok (.int .i64 a0_3) W := by
            intro W
            simp [Instr.index, run_underlying u82, asIntOf, go_sem]
          clear hp hq hns hc HNS HJ
          go_wp2_with fail
          refine (ber_PutNumber.calls k a0_3 p wr HP.out).mono ?_
          rintro e w11 ⟨rfl, hb11⟩
          go_wp2_with fail
          refine (pdu_wrap.calls k 2 p q w11 HQ.out).mono ?_
          rintro e w12 ⟨rfl, hb12⟩
          have hb13 : Below wr.heap.size wr w12 := Below.trans hb11 (Below.mono hb12 hb11.size)
          have HBL6 := Aside0.mk (HBL.out.keep hb13)
          have HX6 := Aside0.mk ((Mv.of_below (S := fun _ => False) hb13).heap HX.out id)
          have HB6 := Aside0.mk (Below.trans HB.out (Below.mono hb13 HB.out.size))
          clear hb11 hb12 hb13 HBL HX HB
          go_wp2
          go_roundg (1)
          case measure => have := HJK.out; omega
          case rel => exact ⟨3, y2 ++ q, rfl, rfl, ⟨by omega⟩, ⟨by omega⟩, HN2, HBL6, HX6, HB6⟩
        · have hns := HNS.out
          rw [show List.drop 3 [a0_1, a0_2, a0_3] = [] from rfl, pdu_Encode.nums, Option.some.injEq] at hns
          subst hns
          have hh := HHH.out
          unfold pdu_Encode.tail at hh
          obtain ⟨s1, h1, hh⟩ := Option.bind_eq_some_iff.1 hh
          obtain ⟨z, hz, hh⟩ := Option.bind_eq_some_iff.1 hh
          obtain ⟨s2, h2, ht⟩ := Option.bind_eq_some_iff.1 hh
          clear hh
          unfold pdu_Encode.cat at hz
          by_cases hc : y2.size + s1.size ≤ 1000000000
          case neg => rw [if_neg hc] at hz; exact absurd hz (by simp)
          rw [if_pos hc, Option.some.injEq] at hz
          subst hz
          have H1 := Aside0.mk h1
          have H2 := Aside0.mk h2
          have H3 := Aside0.mk ht
          have e1 : (9223372036854775807 < y2.size + s1.size) = False := eq_false (by omega)
          clear h1 h2 ht hc HNS HJ HJK HHH
          go_upto_region 18 with (fail)
          have HX1 := Aside0.mk (blk_drew HX.out)
          have HB1 := Aside0.mk (below_drew1 HB.out)
          have HBL1 := Aside0.mk (HBL.out.mv ((Mv.refl (fun _ => False) wr).drew) id (fun _ _ => id))
          refine start_ (n := 8) (S := fun w' => w'.cell? ⟨w.heap.size, 0, none⟩ = some (.int .i64 a0_0)) (ds := []) #[false, false, false, false, false, false, false, false] (by kernel_rfl) rfl rfl ((blk_cell HX1.out 0).trans rfl) (fun hHeld => ?_)
          clear HX HB HBL
          generalize wr.drew = w11 at HX1 HB1 HBL1 hHeld ⊢
          refine pure_ (i := 0) (N := some 46) (v := ?_) (a' := ?_) #[true, false, false, false, false, false, false, false] rfl rfl (by kernel_rfl) (fun _ _ _ h => h) (Or.inl ⟨by rfl, ?_⟩) ?_ ?_
          rotate_left
          · intro w'
            go_simp
            with_reducible rfl
          rotate_left
          · simp only [Act.put, List.setIfInBounds_toArray, List.set_cons_zero, List.set_cons_succ, i64_w, i32_w]
            rfl
          refine take_ (i := 1) (N := some 47) (v := ?_) (a' := ?_) #[true, true, false, false, false, false, false, false] rfl rfl (by kernel_rfl) (fun _ _ _ h => h) (Or.inl ⟨by rfl, ?_⟩) hHeld ?_ ?_
          rotate_left
          · intro w' s0
            go_simp
            with_reducible rfl
          rotate_left
          · simp only [Act.put, List.setIfInBounds_toArray, List.set_cons_zero, List.set_cons_succ, i64_w, i32_w]
            rfl
          refine pure_ (i := 2) (N := some 48) (v := ?_) (a' := ?_) #[true, true, true, false, false, false, false, false] rfl rfl (by kernel_rfl) (fun _ _ _ h => h) (Or.inl ⟨by rfl, ?_⟩) ?_ ?_
          rotate_left
          · intro w'
            go_simp
            with_reducible rfl
          rotate_left
          · simp only [Act.put, List.setIfInBounds_toArray, List.set_cons_zero, List.set_cons_succ, i64_w, i32_w]
            rfl
          refine one_ (i := 3) (N := some 49) #[true, true, true, true, false, false, false, false] rfl rfl (by kernel_rfl) (by decide) (fun K hK => ?_)
          refine goes_ Tryz.func46 (by kernel_rfl) rfl #[.pointer (some ⟨b, 0, none⟩)] (by rfl) rfl rfl (by (try simp only [List.map_toArray, List.map_cons, List.map_nil]); first | done | rfl) ?_
          refine (HBL1.out.string).mono ?_
          rintro e w2 ⟨rfl, hm2⟩
          refine ⟨_, rfl, ?_⟩
          have HX2 := Aside0.mk (hm2.heap HX1.out (fun h => by have := (World.ownsRow.lt HBL1.out.row _ h).1; have := HBB.out; omega))
          have HB2 := Aside0.mk (Below.trans HB1.out (hm2.below HB1.out.size (fun q h => by have := (World.ownsRow.lt HBL1.out.row _ h).1; have := HBB.out; omega)))
          clear hm2 HX1 HB1 HBL1
          refine hK.out _ _ ((blk_cell HX2.out 0).trans rfl) (fun hHeld => ?_)
          clear hK K
          refine norm_ (a' := ?_) ?_ ?_
          rotate_left
          · show Act.put _ (some 49) _ = _
            simp only [Act.put, List.setIfInBounds_toArray, List.set_cons_zero, List.set_cons_succ, i64_w, i32_w]
            rfl
          refine one_ (i := 4) (N := some 50) #[true, true, true, true, true, false, false, false] rfl rfl (by kernel_rfl) (by decide) (fun K hK => ?_)
          refine goes_ Tryz.func44 (by kernel_rfl) rfl #[.int .i64 48, .string ⟨acc.toArray⟩] (by rfl) rfl rfl (by (try simp only [List.map_toArray, List.map_cons, List.map_nil]); first | done | rfl) ?_
          refine (pdu_wrap.calls k 48 ⟨acc.toArray⟩ s1 _ H1.out).mono ?_
          rintro e w3 ⟨rfl, hb3⟩
          refine ⟨_, rfl, ?_⟩
          have HX3 := Aside0.mk ((Mv.of_below (S := fun _ => False) hb3).heap HX2.out id)
          have HB3 := Aside0.mk (Below.trans HB2.out (Below.mono hb3 HB2.out.size))
          clear hb3 HX2 HB2
          refine hK.out _ _ ((blk_cell HX3.out 0).trans rfl) (fun hHeld => ?_)
          clear hK K
          refine norm_ (a' := ?_) ?_ ?_
          rotate_left
          · show Act.put _ (some 50) _ = _
            simp only [Act.put, List.setIfInBounds_toArray, List.set_cons_zero, List.set_cons_succ, i64_w, i32_w]
            rfl
          refine pure_ (i := 5) (N := some 51) (v := ?_) (a' := ?_) #[true, true, true, true, true, true, false, false] rfl rfl (by kernel_rfl) (fun _ _ _ h => h) (Or.inl ⟨by rfl, ?_⟩) ?_ ?_
          rotate_left
          · intro w'
            go_simp
            with_reducible rfl
          rotate_left
          · simp only [Act.put, List.setIfInBounds_toArray, List.set_cons_zero, List.set_cons_succ, i64_w, i32_w]
            rfl
          refine one_ (i := 6) (N := some 52) #[true, true, true, true, true, true, true, false] rfl rfl (by kernel_rfl) (by decide) (fun K hK => ?_)
          refine goes_ Tryz.func44 (by kernel_rfl) rfl #[.int .i64 a0_0, .string (y2 ++ s1)] (by rfl) rfl rfl (by (try simp only [List.map_toArray, List.map_cons, List.map_nil]); first | done | rfl) ?_
          refine (pdu_wrap.calls k a0_0 (y2 ++ s1) s2 _ H2.out).mono ?_
          rintro e w4 ⟨rfl, hb4⟩
          refine ⟨_, rfl, ?_⟩
          have HX4 := Aside0.mk ((Mv.of_below (S := fun _ => False) hb4).heap HX3.out id)
          have HB4 := Aside0.mk (Below.trans HB3.out (Below.mono hb4 HB3.out.size))
          clear hb4 HX3 HB3
          refine hK.out _ _ ((blk_cell HX4.out 0).trans rfl) (fun hHeld => ?_)
          clear hK K
          refine norm_ (a' := ?_) ?_ ?_
          rotate_left
          · show Act.put _ (some 52) _ = _
            simp only [Act.put, List.setIfInBounds_toArray, List.set_cons_zero, List.set_cons_succ, i64_w, i32_w]
            rfl
          refine pure_ (i := 7) (N := some 11) (v := ?_) (a' := ?_) #[true, true, true, true, true, true, true, true] rfl rfl (by kernel_rfl) (fun _ _ _ h => h) (Or.inl ⟨by rfl, ?_⟩) ?_ ?_
          rotate_left
          · intro w'
            go_simp
            with_reducible rfl
          rotate_left
          · simp only [Act.put, List.setIfInBounds_toArray, List.set_cons_zero, List.set_cons_succ, i64_w, i32_w]
            rfl
          refine done_ (by kernel_rfl) ?_
          have h3 := H3.out
          by_cases hbig : 65536 < s2.size
          · rw [if_pos hbig] at h3
            simp only [Option.some.injEq, Prod.mk.injEq] at h3
            obtain ⟨rfl, rfl⟩ := h3
            have e6 : ((65536 : Int) < (s2.size : Int)) = True := eq_true (by omega)
            have e7 : decide ((65536 : Int) < (s2.size : Int)) = true := decide_eq_true (by omega)
            clear hbig
            go_wp2
            go_ret2
            exact ⟨rfl, HB4.out⟩
          · rw [if_neg hbig] at h3
            simp only [Option.some.injEq, Prod.mk.injEq] at h3
            obtain ⟨rfl, rfl⟩ := h3
            have e6 : ((65536 : Int) < (s2.size : Int)) = False := eq_false (by omega)
            have e7 : decide ((65536 : Int) < (s2.size : Int)) = false := decide_eq_false (by omega)
            clear hbig
            go_wp2
            go_ret2
            exact ⟨rfl, HB4.out⟩

/-! ### gonglaw08_works: function 12 -/
def gonglaw08_works.f (k : Nat)  : Option (Bool) := (pdu_Encode.f k 167 1 0 0 ([] : List (S30))).bind fun bt176 => (if bt176.1.toList = ([167, 11, 2, 1, 1, 2, 1, 0, 2, 1, 0, 48, 0] : List UInt8) then (some (bt176.2 == 0)) else (some false))
theorem gonglaw08_works.mono : ∀ k, LeO (gonglaw08_works.f k ) (gonglaw08_works.f (k + 1) ) := by
  intro  k
  unfold gonglaw08_works.f
  repeat' first
      | (with_reducible exact pdu_Encode.mono _ _ _ _ _ _)
      | (with_reducible exact LeO.refl _)
      | (with_reducible exact LeO.none _)
      | (with_reducible refine LeO.ite ?_ ?_)
      | (with_reducible refine LeO.bind ?_ (fun _ => ?_))
      | exact pdu_Encode.mono _ _ _ _ _ _
      | exact LeO.none _
      | refine LeO.ite ?_ ?_
      | refine LeO.bind ?_ (fun _ => ?_)
set_option maxHeartbeats 8000000 in
set_option maxRecDepth 100000 in
theorem gonglaw08_works.calls (k : Nat)  (r : Bool) (w : World) (hG : Gl w) (h : gonglaw08_works.f k  = some r) :
    Calls Tryz.prog 12 #[] w fun e w' => e = .returned (.bool r) ∧ Below w.heap.size w w' := by
  have HGl := Aside0.mk hG
  clear hG
  have hu24 := Tryz.underlying24
  have HB := Aside0.mk (Below.refl w.heap.size w)
  have H : ((pdu_Encode.f k 167 1 0 0 ([] : List (S30))).bind fun bt176 => (if bt176.1.toList = ([167, 11, 2, 1, 1, 2, 1, 0, 2, 1, 0, 48, 0] : List UInt8) then (some (bt176.2 == 0)) else (some false))) = some r := h
  clear h
  replace H := Option.bind_eq_some_iff.mp H
  obtain ⟨⟨t176, t177⟩, A10, H⟩ := H
  replace H : (if t176.toList = ([167, 11, 2, 1, 1, 2, 1, 0, 2, 1, 0, 48, 0] : List UInt8) then (some (t177 == 0)) else (some false)) = some r := H
  have A1 := Aside0.mk A10
  clear A10
  by_cases c2 : t176.toList = ([167, 11, 2, 1, 1, 2, 1, 0, 2, 1, 0, 48, 0] : List UInt8)
  rotate_left
  · rw [if_neg c2] at H
    have c2b0 : (t176.toList == ([167, 11, 2, 1, 1, 2, 1, 0, 2, 1, 0, 48, 0] : List UInt8)) = false := beq_eq_false_iff_ne.mpr c2
    have c2b1 : (t176.toList != ([167, 11, 2, 1, 1, 2, 1, 0, 2, 1, 0, 48, 0] : List UInt8)) = true := bne_iff_ne.mpr c2
    obtain rfl := Option.some.inj H
    go_enter Tryz.func12, Tryz.ntmps12
    go_wp2_with (first | ((with_reducible refine gate_callee (f := 13) rfl ?_); refine goesL_ (some 5) rfl rfl Tryz.func13 (by kernel_rfl) rfl #[.agg #[.int .i64 167, .int .i64 1, .int .i64 0, .int .i64 0, .slice none 0 0]] rfl (by (try simp only [List.map_toArray, List.map_cons, List.map_nil]); first | done | rfl | (simp only [List.length_drop, List.length_take]; rfl)) ?_; (refine (pdu_Encode.calls k 167 1 0 0 _ _ ([] : List (S30)) t176 t177 _ ?side3 ?side1 ?side2 A1.out).mono ?_); (case side1 => exact Kd.C_nil _ _); (case side2 => exact Nat.le_refl _); (case side3 => first | exact HGl.out | exact HGl.out.below (by repeat (first | (with_reducible first | exact HB.out | apply below_alloc | apply pw_below_drewN | apply below_drew1) | exact HB.out | (refine below_set ?_ (Aside0.out (by assumption))) | exact Below.refl _ _))); rintro e w4 ⟨rfl, hb⟩; refine ⟨_, rfl, ?_⟩; have n0_ := Aside0.mk (below_step (by repeat (first | (with_reducible first | exact HB.out | apply below_alloc | apply pw_below_drewN | apply below_drew1) | exact HB.out)) hb); clear HB; have HB := n0_; clear n0_; (try clear hb); (try clear hb2); (try clear hk); (try clear hi)))
    go_ret
    exact ⟨by first | rfl | (simp only [i64_w, i32_w]; rfl) | (simp [errW_none, errW_some] <;> rfl) | (simp [*, errW_none, errW_some] <;> rfl), by repeat (first | (with_reducible first | exact HB.out | apply below_alloc | apply pw_below_drewN | apply below_drew1) | exact HB.out)⟩
  rw [if_pos c2] at H
  have c2b0 : (t176.toList == ([167, 11, 2, 1, 1, 2, 1, 0, 2, 1, 0, 48, 0] : List UInt8)) = true := beq_iff_eq.mpr c2
  have c2b1 : (t176.toList != ([167, 11, 2, 1, 1, 2, 1, 0, 2, 1, 0, 48, 0] : List UInt8)) = false := bne_eq_false_iff_eq.mpr c2
  clear c2
  obtain rfl := Option.some.inj H
  go_enter Tryz.func12, Tryz.ntmps12
  go_wp2_with (first | ((with_reducible refine gate_callee (f := 13) rfl ?_); refine goesL_ (some 5) rfl rfl Tryz.func13 (by kernel_rfl) rfl #[.agg #[.int .i64 167, .int .i64 1, .int .i64 0, .int .i64 0, .slice none 0 0]] rfl (by (try simp only [List.map_toArray, List.map_cons, List.map_nil]); first | done | rfl | (simp only [List.length_drop, List.length_take]; rfl)) ?_; (refine (pdu_Encode.calls k 167 1 0 0 _ _ ([] : List (S30)) t176 t177 _ ?side3 ?side1 ?side2 A1.out).mono ?_); (case side1 => exact Kd.C_nil _ _); (case side2 => exact Nat.le_refl _); (case side3 => first | exact HGl.out | exact HGl.out.below (by repeat (first | (with_reducible first | exact HB.out | apply below_alloc | apply pw_below_drewN | apply below_drew1) | exact HB.out | (refine below_set ?_ (Aside0.out (by assumption))) | exact Below.refl _ _))); rintro e w3 ⟨rfl, hb⟩; refine ⟨_, rfl, ?_⟩; have n0_ := Aside0.mk (below_step (by repeat (first | (with_reducible first | exact HB.out | apply below_alloc | apply pw_below_drewN | apply below_drew1) | exact HB.out)) hb); clear HB; have HB := n0_; clear n0_; (try clear hb); (try clear hb2); (try clear hk); (try clear hi)))
  go_ret
  exact ⟨by first | rfl | (simp only [i64_w, i32_w]; rfl) | (simp [errW_none, errW_some] <;> rfl) | (simp [*, errW_none, errW_some] <;> rfl), by repeat (first | (with_reducible first | exact HB.out | apply below_alloc | apply pw_below_drewN | apply below_drew1) | exact HB.out)⟩

/-! ### api_Bind: function 52 -/
def api_Bind.l0 : Nat → List (S30) → List (S30) → Int → Int → Option (Bool)
  | 0, _, _, _, _ => none
  | k + 1, x0, x1, x12, x13 => if x13 < x12 then (if 0 ≤ x13 then (if x13 < (x0.length : Int) then (if x13 < (x1.length : Int) then (if (!((((rd_T30 x0 x13).f0).toList) == (((rd_T30 x1 x13).f0).toList)) || ((!(((rd_T30 x0 x13).f1.f0) == ((rd_T30 x1 x13).f1.f0)) || (!(((rd_T30 x0 x13).f1.f1) == ((rd_T30 x1 x13).f1.f1)) || (!((((rd_T30 x0 x13).f1.f2).toList) == (((rd_T30 x1 x13).f1.f2).toList))))))) = true then (some false) else (api_Bind.l0 k x0 x1 x12 (wrap64 (x13 + 1)))) else (none)) else (none)) else (none)) else (some true)
def api_Bind.f (k : Nat) (l0 : List (S30)) (l1 : List (S30)) : Option (Bool) := if (l0.length : Int) = (l1.length : Int) then (api_Bind.l0 k l0 l1 (l0.length : Int) 0) else (some false)
theorem api_Bind.mono_l : ∀ k, (∀ y0 y1 y2 y3, LeO (api_Bind.l0 k y0 y1 y2 y3) (api_Bind.l0 (k + 1) y0 y1 y2 y3))
  | 0 => fun _ _ _ _ r h => by simp [api_Bind.l0] at h
  | k + 1 => by
    have ih0 := api_Bind.mono_l k
    · intro y0 y1 y2 y3
      unfold api_Bind.l0
      repeat' first
      | (with_reducible exact ih0 _ _ _ _)
      | (with_reducible exact LeO.refl _)
      | (with_reducible exact LeO.none _)
      | (with_reducible refine LeO.ite ?_ ?_)
      | (with_reducible refine LeO.bind ?_ (fun _ => ?_))
      | exact ih0 _ _ _ _
      | exact LeO.none _
      | refine LeO.ite ?_ ?_
      | refine LeO.bind ?_ (fun _ => ?_)
theorem api_Bind.mono : ∀ a0 a1 k, LeO (api_Bind.f k a0 a1) (api_Bind.f (k + 1) a0 a1) := by
  intro a0 a1 k
  have ih0 := api_Bind.mono_l k
  unfold api_Bind.f
  repeat' first
      | (with_reducible exact ih0 _ _ _ _)
      | (with_reducible exact LeO.refl _)
      | (with_reducible exact LeO.none _)
      | (with_reducible refine LeO.ite ?_ ?_)
      | (with_reducible refine LeO.bind ?_ (fun _ => ?_))
      | exact ih0 _ _ _ _
      | exact LeO.none _
      | refine LeO.ite ?_ ?_
      | refine LeO.bind ?_ (fun _ => ?_)
set_option maxHeartbeats 8000000 in
set_option maxRecDepth 100000 in
theorem api_Bind.calls (k : Nat) (A0 : Option Addr) (c0 : Nat) (l0 : List (S30)) (A1 : Option Addr) (c1 : Nat) (l1 : List (S30)) (r : Bool) (w : World) (hr0 : Kd.C k30 w A0 l0.length l0) (hc0 : l0.length ≤ c0) (hr1 : Kd.C k30 w A1 l1.length l1) (hc1 : l1.length ≤ c1) (h : api_Bind.f k l0 l1 = some r) :
    Calls Tryz.prog 52 #[.slice A0 l0.length c0, .slice A1 l1.length c1] w fun e w' => e = .returned (.bool r) ∧ Drawn0 w w' := by
  have hu30 := Tryz.underlying30
  have HR0 := Aside0.mk hr0
  have HC0 := Aside0.mk hc0
  clear hr0 hc0
  have HR1 := Aside0.mk hr1
  have HC1 := Aside0.mk hc1
  clear hr1 hc1
  have H : (if (l0.length : Int) = (l1.length : Int) then (api_Bind.l0 k l0 l1 (l0.length : Int) 0) else (some false)) = some r := h
  clear h
  by_cases c3 : (l0.length : Int) = (l1.length : Int)
  rotate_left
  · rw [if_neg c3] at H
    have c3b0 : ((l0.length : Int) == (l1.length : Int)) = false := beq_eq_false_iff_ne.mpr c3
    have c3b1 : ((l0.length : Int) != (l1.length : Int)) = true := bne_iff_ne.mpr c3
    have c3b2 : (l0.length == l1.length) = false := by first | simpa using c3 | (simp at c3 ⊢; omega)
    obtain rfl := Option.some.inj H
    go_enter Tryz.func52, Tryz.ntmps52
    go_wp2
    repeat (go_quiet (fail); try go_wp2)
    go_ret
    exact ⟨by first | rfl | (simp; done) | (simp [*]; done), by repeat (first | exact Drawn0.refl _ | apply Drawn0.step)⟩
  rw [if_pos c3] at H
  have c3b0 : ((l0.length : Int) == (l1.length : Int)) = true := beq_iff_eq.mpr c3
  have c3b1 : ((l0.length : Int) != (l1.length : Int)) = false := bne_eq_false_iff_eq.mpr c3
  have c3b2 : (l0.length == l1.length) = true := by first | simpa using c3 | (simp at c3 ⊢; omega)
  clear c3
  have H' := Aside0.mk H
  clear H
  go_enter Tryz.func52, Tryz.ntmps52
  go_wp2
  repeat (go_quiet (fail); try go_wp2)
  go_loopg [13] k (fun kq v13 w' => ∃ (x13_1 : Int), v13 = .int .i64 x13_1 ∧ Aside0 (api_Bind.l0 kq l0 l1 (l0.length : Int) x13_1 = some r) ∧ Aside0 (kq ≤ k) ∧ Drawn0 w w')
  case atStart => exact ⟨(0), (by first | rfl | (simp; done) | (simp [*]; done) | (simp [*]; exact isEmpty_bne _) | (simp; exact isEmpty_bne _)), H', ⟨Nat.le_refl _⟩, by repeat (first | exact Drawn0.refl _ | apply Drawn0.step)⟩
  case round =>
    clear H'
    try clear c1
    try clear p2
    try clear c3
    try clear c3b0
    try clear c3b1
    try clear c3b2
    obtain ⟨x13_1, rfl, HA, HK1, ⟨m1, rfl⟩⟩ := hrel
    cases gk with
    | zero => exact absurd HA.out (by simp [api_Bind.l0])
    | succ k1 =>
      have H := HA.out
      clear HA
      simp only [api_Bind.l0] at H
      by_cases c4 : x13_1 < (l0.length : Int)
      · rw [if_pos c4] at H
        have c4b0 : decide (x13_1 < (l0.length : Int)) = true := decide_eq_true c4
        clear c4
        by_cases c5 : 0 ≤ x13_1
        · rw [if_pos c5] at H
          have c5b0 : decide (0 ≤ x13_1) = true := decide_eq_true c5
          clear c5
          by_cases c6 : x13_1 < (l0.length : Int)
          · rw [if_pos c6] at H
            have c6b0 : decide (x13_1 < (l0.length : Int)) = true := decide_eq_true c6
            clear c6
            by_cases c7 : x13_1 < (l1.length : Int)
            · rw [if_pos c7] at H
              have c7b0 : decide (x13_1 < (l1.length : Int)) = true := decide_eq_true c7
              clear c7
              by_cases c8 : (!((((rd_T30 l0 x13_1).f0).toList) == (((rd_T30 l1 x13_1).f0).toList)) || ((!(((rd_T30 l0 x13_1).f1.f0) == ((rd_T30 l1 x13_1).f1.f0)) || (!(((rd_T30 l0 x13_1).f1.f1) == ((rd_T30 l1 x13_1).f1.f1)) || (!((((rd_T30 l0 x13_1).f1.f2).toList) == (((rd_T30 l1 x13_1).f1.f2).toList))))))) = true
              · rw [if_pos c8] at H
                have c8b0 : (!((((rd_T30 l0 x13_1).f0).toList) == (((rd_T30 l1 x13_1).f0).toList)) || ((!(((rd_T30 l0 x13_1).f1.f0) == ((rd_T30 l1 x13_1).f1.f0)) || (!(((rd_T30 l0 x13_1).f1.f1) == ((rd_T30 l1 x13_1).f1.f1)) || (!((((rd_T30 l0 x13_1).f1.f2).toList) == (((rd_T30 l1 x13_1).f1.f2).toList))))))) = true := c8
                clear c8
                obtain rfl := Option.some.inj H
                have p178 : 0 ≤ (x13_1 : Int) := of_decide_eq_true (by first | (with_reducible assumption) | assumption)
                have q178 : x13_1 < (l0.length : Int) := of_decide_eq_true (by first | (with_reducible assumption) | assumption)
                obtain ⟨ad178, e178, hx178_0, hx178_1, hx178_2, hx178_3⟩ := at_T30 HR0.out x13_1 p178 q178
                cases e178
                replace p178 := eq_true p178
                replace q178 := eq_true q178
                have p179 : 0 ≤ (x13_1 : Int) := of_decide_eq_true (by first | (with_reducible assumption) | assumption)
                have q179 : x13_1 < (l1.length : Int) := of_decide_eq_true (by first | (with_reducible assumption) | assumption)
                obtain ⟨ad179, e179, hx179_0, hx179_1, hx179_2, hx179_3⟩ := at_T30 HR1.out x13_1 p179 q179
                cases e179
                replace p179 := eq_true p179
                replace q179 := eq_true q179
                go_wp2
                repeat (go_quiet (fail); try go_wp2)
                go_ret
                exact ⟨by first | rfl | (simp; done) | (simp [*]; done), by repeat (first | exact Drawn0.refl _ | apply Drawn0.step)⟩
              · rw [if_neg c8] at H
                have c8b0 : (!((((rd_T30 l0 x13_1).f0).toList) == (((rd_T30 l1 x13_1).f0).toList)) || ((!(((rd_T30 l0 x13_1).f1.f0) == ((rd_T30 l1 x13_1).f1.f0)) || (!(((rd_T30 l0 x13_1).f1.f1) == ((rd_T30 l1 x13_1).f1.f1)) || (!((((rd_T30 l0 x13_1).f1.f2).toList) == (((rd_T30 l1 x13_1).f1.f2).toList))))))) = false := by simpa using c8
                clear c8
                have H' := Aside0.mk H
                clear H
                have p178 : 0 ≤ (x13_1 : Int) := of_decide_eq_true (by first | (with_reducible assumption) | assumption)
                have q178 : x13_1 < (l0.length : Int) := of_decide_eq_true (by first | (with_reducible assumption) | assumption)
                obtain ⟨ad178, e178, hx178_0, hx178_1, hx178_2, hx178_3⟩ := at_T30 HR0.out x13_1 p178 q178
                cases e178
                replace p178 := eq_true p178
                replace q178 := eq_true q178
                have p179 : 0 ≤ (x13_1 : Int) := of_decide_eq_true (by first | (with_reducible assumption) | assumption)
                have q179 : x13_1 < (l1.length : Int) := of_decide_eq_true (by first | (with_reducible assumption) | assumption)
                obtain ⟨ad179, e179, hx179_0, hx179_1, hx179_2, hx179_3⟩ := at_T30 HR1.out x13_1 p179 q179
                cases e179
                replace p179 := eq_true p179
                replace q179 := eq_true q179
                go_wp2
                repeat (go_quiet (fail); try go_wp2)
                go_roundg k1
                case measure => have := HK1.out; omega
                case rel => exact ⟨(wrap64 (x13_1 + 1)), (by first | rfl | (simp; done) | (simp [*]; done) | (simp [*]; exact isEmpty_bne _) | (simp; exact isEmpty_bne _)), H', ⟨by have := HK1.out; omega⟩, by repeat (first | exact Drawn0.refl _ | apply Drawn0.step)⟩
            · rw [if_neg c7] at H
              exact absurd H (by simp)
          · rw [if_neg c6] at H
            exact absurd H (by simp)
        · rw [if_neg c5] at H
          exact absurd H (by simp)
      · rw [if_neg c4] at H
        have c4b0 : decide (x13_1 < (l0.length : Int)) = false := decide_eq_false c4
        clear c4
        obtain rfl := Option.some.inj H
        go_wp2
        repeat (go_quiet (fail); try go_wp2)
        go_ret
        exact ⟨by first | rfl | (simp; done) | (simp [*]; done), by repeat (first | exact Drawn0.refl _ | apply Drawn0.step)⟩

/-! ### pdu_Same: function 21 -/
def pdu_Same.f (k : Nat) (a0 a1 a2 a3 : Int) (l : List S30) (b0 b1 b2 b3 : Int) (m : List S30) : Option Bool :=
  if a0 = b0 ∧ a1 = b1 ∧ a2 = b2 ∧ a3 = b3 then api_Bind.f k l m else some false
theorem pdu_Same.mono : ∀ a0 a1 a2 a3 l b0 b1 b2 b3 m k, LeO (pdu_Same.f k a0 a1 a2 a3 l b0 b1 b2 b3 m) (pdu_Same.f (k + 1) a0 a1 a2 a3 l b0 b1 b2 b3 m) := by
  intro a0 a1 a2 a3 l b0 b1 b2 b3 m k
  unfold pdu_Same.f
  split
  · exact api_Bind.mono _ _ _
  · exact LeO.refl _
theorem pdu_Same.step (i : Nat) (is : List Nat) (xs ys : Array Value) (a b : Int) (W : World) (hx : xs[i]? = some (.int .i64 a)) (hy : ys[i]? = some (.int .i64 b)) : (Op.eqItems 9999 3 1 xs ys (i :: is)).run Tryz.prog W = if (a == b) = true then (Op.eqItems 9999 3 1 xs ys is).run Tryz.prog W else .ok false W := by
  have u3 : Tryz.prog.underlying 3 = some (.int .i64) := by kernel_rfl
  have p3 : Tryz.prog.plainKey 3 = true := by kernel_rfl
  rw [Op.eqItems]
  simp only [Nat.mul_one, Sem.run_bind, run_part_plain W p3 hx, run_part_plain W p3 hy, Result.andThen_ok, run_equalIn_int W 9998 3 .i64 .i64 a b u3]
  cases h : a == b <;> simp
theorem pdu_Same.arr (x0 x1 x2 x3 y0 y1 y2 y3 : Int) (W : World) : (Op.equalIn 10000 89 (.agg #[.int .i64 x0, .int .i64 x1, .int .i64 x2, .int .i64 x3]) (.agg #[.int .i64 y0, .int .i64 y1, .int .i64 y2, .int .i64 y3])).run Tryz.prog W = .ok (decide (x0 = y0 ∧ x1 = y1 ∧ x2 = y2 ∧ x3 = y3)) W := by
  have hi3 : (Tryz.prog.info? 3).isSome = true := by kernel_rfl
  obtain ⟨i3, hi3⟩ := Option.isSome_iff_exists.1 hi3
  have c3 : Tryz.prog.cellsOf 3 = 1 := by kernel_rfl
  rw [run_equalIn_array W 9999 _ _ (show Tryz.prog.underlying 89 = some (.array 4 3) by kernel_rfl) hi3, c3]
  rw [show List.range 4 = [0, 1, 2, 3] from rfl, pdu_Same.step 0 _ _ _ x0 y0 W rfl rfl, pdu_Same.step 1 _ _ _ x1 y1 W rfl rfl, pdu_Same.step 2 _ _ _ x2 y2 W rfl rfl, pdu_Same.step 3 _ _ _ x3 y3 W rfl rfl]
  by_cases h0 : x0 = y0
  · by_cases h1 : x1 = y1
    · by_cases h2 : x2 = y2
      · by_cases h3 : x3 = y3 <;> simp [h0, h1, h2, h3, Op.eqItems]
      · simp [h0, h1, h2]
    · simp [h0, h1]
  · simp [h0]
set_option maxHeartbeats 4000000 in
set_option maxRecDepth 100000 in
theorem pdu_Same.calls (k : Nat) (a0_0 : Int) (a0_1 : Int) (a0_2 : Int) (a0_3 : Int) (A0_4 : Option Addr) (c0_4 : Nat) (l0_4 : List (S30)) (a1_0 : Int) (a1_1 : Int) (a1_2 : Int) (a1_3 : Int) (A1_4 : Option Addr) (c1_4 : Nat) (l1_4 : List (S30)) (r : Bool) (w : World) (hr0_4 : Kd.C k30 w A0_4 l0_4.length l0_4) (hc0_4 : l0_4.length ≤ c0_4) (hr1_4 : Kd.C k30 w A1_4 l1_4.length l1_4) (hc1_4 : l1_4.length ≤ c1_4) (h : pdu_Same.f k a0_0 a0_1 a0_2 a0_3 l0_4 a1_0 a1_1 a1_2 a1_3 l1_4 = some r) :
    Calls Tryz.prog 21 #[.agg #[.int .i64 a0_0, .int .i64 a0_1, .int .i64 a0_2, .int .i64 a0_3, .slice A0_4 l0_4.length c0_4], .agg #[.int .i64 a1_0, .int .i64 a1_1, .int .i64 a1_2, .int .i64 a1_3, .slice A1_4 l1_4.length c1_4]] w fun e w' => e = .returned (.bool r) ∧ Below w.heap.size w w' := by
  have HR0 := Aside0.mk hr0_4
  have HC0 := Aside0.mk hc0_4
  have HR1 := Aside0.mk hr1_4
  have HC1 := Aside0.mk hc1_4
  have HH := Aside0.mk h
  clear hr0_4 hc0_4 hr1_4 hc1_4 h
  have hq := pdu_Same.arr a0_0 a0_1 a0_2 a0_3 a1_0 a1_1 a1_2 a1_3
  obtain ⟨d, hd⟩ : ∃ d, d = decide (a0_0 = a1_0 ∧ a0_1 = a1_1 ∧ a0_2 = a1_2 ∧ a0_3 = a1_3) := ⟨_, rfl⟩
  rw [← hd] at hq
  have HD := Aside0.mk hd
  clear hd
  go_enter Tryz.func21, Tryz.ntmps21
  go_upto_region 2 with (fail)
  obtain ⟨w1, hw1⟩ : ∃ w1, w1 = (w.alloc (.cells #[.int .i64 a0_0, .int .i64 a0_1, .int .i64 a0_2, .int .i64 a0_3, .slice A0_4 l0_4.length c0_4] 24)).alloc (.cells #[.int .i64 a1_0, .int .i64 a1_1, .int .i64 a1_2, .int .i64 a1_3, .slice A1_4 l1_4.length c1_4] 24) := ⟨_, rfl⟩
  have hb1 : Below w.heap.size w w1 := by rw [hw1]; exact below_alloc (below_alloc (Below.refl _ _) _) _
  have hx0 : w1.heap[w.heap.size]? = some (.cells #[.int .i64 a0_0, .int .i64 a0_1, .int .i64 a0_2, .int .i64 a0_3, .slice A0_4 l0_4.length c0_4] 24 (0, 0)) := by rw [hw1]; exact blk_alloc (heap_alloc_new w _) _
  have hx1 : w1.heap[w.heap.size + 1]? = some (.cells #[.int .i64 a1_0, .int .i64 a1_1, .int .i64 a1_2, .int .i64 a1_3, .slice A1_4 l1_4.length c1_4] 24 (0, 0)) := by
    rw [hw1]
    have := heap_alloc_new (w.alloc (.cells #[.int .i64 a0_0, .int .i64 a0_1, .int .i64 a0_2, .int .i64 a0_3, .slice A0_4 l0_4.length c0_4] 24)) (.cells #[.int .i64 a1_0, .int .i64 a1_1, .int .i64 a1_2, .int .i64 a1_3, .slice A1_4 l1_4.length c1_4] 24)
    simpa using this
  have HB1 := Aside0.mk hb1
  have y0 := (blk_cell hx0 4).trans rfl
  have y1 := (blk_cell hx1 4).trans rfl
  rw [← hw1]
  clear hw1 hb1 hx0 hx1 hq
  cases d with
  | false =>
    have hh := HH.out
    unfold pdu_Same.f at hh
    rw [if_neg (of_decide_eq_false HD.out.symm), Option.some.injEq] at hh
    subst hh
    go_wp2
    go_ret
    exact ⟨rfl, HB1.out⟩
  | true =>
    have hh := HH.out
    unfold pdu_Same.f at hh
    rw [if_pos (of_decide_eq_true HD.out.symm)] at hh
    have AE := api_Bind.calls k A0_4 c0_4 l0_4 A1_4 c1_4 l1_4 r w1 (Kd.C_below HR0.out HB1.out) HC0.out (Kd.C_below HR1.out HB1.out) HC1.out hh
    clear hh
    go_wp2_with fail
    refine AE.mono ?_
    rintro e w2 ⟨rfl, hd2⟩
    go_wp2
    go_ret
    exact ⟨rfl, Below.trans HB1.out (Below.mono hd2.below HB1.out.size)⟩

/-- A state of type 160 at block g of W; what its slices lead to came in by w0. -/
def IsS160 (w0 W : World) (g : Nat) (f0 : ByteArray) (f1 : Int) : Prop := W.heap[g]? = some (.cells #[.string f0, .int .i64 f1] 160 (0, 0)) ∧ w0.heap.size ≤ g
theorem IsS160.grown {w0 W : World} {g : Nat} {f0 : ByteArray} {f1 : Int} {W1 : World} {row : Option Nat} (h : IsS160 w0 W g f0 f1) (hw : W.grownBy W1 row) (hne : some g ≠ row) : IsS160 w0 W1 g f0 f1 := by
  obtain ⟨hb, hg⟩ := h
  exact ⟨blk_grown hb hw hne, hg⟩
theorem IsS160.own_neN {w0 W : World} {g : Nat} {f0 : ByteArray} {f1 : Int} {α : Type} {d : Kd α} {e : Nat} {base : Nat} {ok : Nat → Prop} {v : Value} {xs : List α} (h : IsS160 w0 W g f0 f1) (ho : Kd.N d e W base ok v xs) (ht : e ≠ 160) : some g ≠ v.ownBlock := by
  obtain ⟨hb, hg⟩ := h
  exact Kd.N_ne ho hb ht
theorem IsS160.fresh {w0 W : World} {g : Nat} {f0 : ByteArray} {f1 : Int} (h : IsS160 w0 W g f0 f1) : ∀ k, W.heap.size ≤ k → k ≠ g := by
  obtain ⟨hb, hg⟩ := h
  exact Kd.freshB hb
theorem IsS160.kept {w0 W : World} {g : Nat} {f0 : ByteArray} {f1 : Int} {W1 : World} {S : Nat → Prop} (h : IsS160 w0 W g f0 f1) (hk : Kept W W1 S) (hne : ¬ S g) : IsS160 w0 W1 g f0 f1 := by
  obtain ⟨hb, hg⟩ := h
  exact ⟨blk_kept hb hk hne, hg⟩
theorem IsS160.below {w0 W : World} {g : Nat} {f0 : ByteArray} {f1 : Int} {W1 : World} (h : IsS160 w0 W g f0 f1) (hw : Below W.heap.size W W1) : IsS160 w0 W1 g f0 f1 := h.grown (grown_of_below hw none) (by simp)
theorem IsS160.alloc {w0 W : World} {g : Nat} {f0 : ByteArray} {f1 : Int} (h : IsS160 w0 W g f0 f1) (o : Obj) : IsS160 w0 (W.alloc o) g f0 f1 := h.below (below_alloc (Below.refl _ _) o)
theorem IsS160.drewN {w0 W : World} {g : Nat} {f0 : ByteArray} {f1 : Int} (h : IsS160 w0 W g f0 f1) (m : Nat) : IsS160 w0 (W.drewN m) g f0 f1 := h
theorem IsS160.drew {w0 W : World} {g : Nat} {f0 : ByteArray} {f1 : Int} (h : IsS160 w0 W g f0 f1) : IsS160 w0 W.drew g f0 f1 := h
theorem IsS160.at_ {w0 W : World} {g : Nat} {f0 : ByteArray} {f1 : Int} {w' : World} {m : Nat} (hq : W.drewN m = w') (h : IsS160 w0 W g f0 f1) : IsS160 w0 w' g f0 f1 := by subst hq; exact IsS160.drewN h m
theorem IsS160.apart {w0 W : World} {g : Nat} {f0 : ByteArray} {f1 : Int} {α : Type} {d : Kd α} {e : Nat} {base : Nat} {ok : Nat → Prop} {v : Value} {xs : List α} (h : IsS160 w0 W g f0 f1) (ho : d.R e W base ok v xs) (ht : ∀ q, q ∈ e :: d.E → q ≠ 160) : d.R e W base (fun k => ok k ∧ k ≠ g) v xs := by
  obtain ⟨hb, hg⟩ := h
  exact Kd.R_types ho hb ht
theorem IsS160.own_ne {w0 W : World} {g : Nat} {f0 : ByteArray} {f1 : Int} {α : Type} {d : Kd α} {e : Nat} {base : Nat} {ok : Nat → Prop} {v : Value} {xs : List α} (h : IsS160 w0 W g f0 f1) (ho : d.R e W base ok v xs) (ht : e ≠ 160) : some g ≠ v.ownBlock := by
  obtain ⟨hb, hg⟩ := h
  exact Kd.R_ne ho hb ht
theorem IsS160.apartQ {w0 W : World} {g : Nat} {f0 : ByteArray} {f1 : Int} {α : Type} {d : Kd α} {e : Nat} {base : Nat} {ok : Nat → Prop} {v : Value} {xs : List α} (h : IsS160 w0 W g f0 f1) (ho : d.Q e W base ok v xs) (ht : ∀ q, q ∈ e :: d.E → q ≠ 160) : d.Q e W base (fun k => ok k ∧ k ≠ g) v xs := by
  obtain ⟨hb, hg⟩ := h
  exact Kd.Q_types ho hb ht
theorem IsS160.own_neQ {w0 W : World} {g : Nat} {f0 : ByteArray} {f1 : Int} {α : Type} {d : Kd α} {e : Nat} {base : Nat} {ok : Nat → Prop} {v : Value} {xs : List α} (h : IsS160 w0 W g f0 f1) (ho : d.Q e W base ok v xs) (ht : e ≠ 160) : some g ≠ v.ownBlock := by
  obtain ⟨hb, hg⟩ := h
  exact Kd.Q_ne ho hb ht
theorem IsS160.apartS {w0 W : World} {g : Nat} {f0 : ByteArray} {f1 : Int} {α : Type} {d : Kd α} {e : Nat} {base : Nat} {ok : Nat → Prop} {v : Value} {xs : List α} (h : IsS160 w0 W g f0 f1) (ho : d.S e W base ok v xs) (ht : ∀ q, q ∈ e :: d.E → q ≠ 160) : d.S e W base (fun k => ok k ∧ k ≠ g) v xs := by
  obtain ⟨hb, hg⟩ := h
  exact Kd.S_types ho hb ht
theorem IsS160.own_neS {w0 W : World} {g : Nat} {f0 : ByteArray} {f1 : Int} {α : Type} {d : Kd α} {e : Nat} {base : Nat} {ok : Nat → Prop} {v : Value} {xs : List α} (h : IsS160 w0 W g f0 f1) (ho : d.S e W base ok v xs) (ht : e ≠ 160) : some g ≠ v.ownBlock := by
  obtain ⟨hb, hg⟩ := h
  exact Kd.S_ne ho hb ht
theorem IsS160.lt {w0 W : World} {g : Nat} {f0 : ByteArray} {f1 : Int} (h : IsS160 w0 W g f0 f1) : g < W.heap.size := by
  obtain ⟨hb, hg⟩ := h
  exact blk_lt hb
theorem IsS160.ge {w0 W : World} {g : Nat} {f0 : ByteArray} {f1 : Int} (h : IsS160 w0 W g f0 f1) : w0.heap.size ≤ g := by
  obtain ⟨hb, hg⟩ := h
  exact hg
theorem IsS160.ne_blk {w0 W : World} {g : Nat} {f0 : ByteArray} {f1 : Int} {a : Nat} {cs : Array Value} {t : TypeId} {fr : Nat × Nat} (h : IsS160 w0 W g f0 f1) (hb2 : W.heap[a]? = some (.cells cs t fr)) (ht : t ≠ 160) : g ≠ a := by
  obtain ⟨hb, hg⟩ := h
  rintro rfl
  rw [hb] at hb2
  injection hb2 with hb2
  injection hb2 with _ ht2
  exact ht ht2.symm
theorem IsS160.far {w0 W : World} {g : Nat} {f0 : ByteArray} {f1 : Int} {p : Addr} (h : IsS160 w0 W g f0 f1) (hne : g ≠ p.block) (u : Value) : IsS160 w0 (W.setCell p u) g f0 f1 := by
  obtain ⟨hb, hg⟩ := h
  exact ⟨blk_far hb hne u, hg⟩
theorem cellS160_0 {W : World} {g : Nat} {f0 : ByteArray} {f1 : Int} (h : W.heap[g]? = some (.cells #[.string f0, .int .i64 f1] 160 (0, 0))) : W.cell? ⟨g, 0, none⟩ = some (.string f0) := (blk_cell h 0).trans rfl
theorem IsS160.set_0 {w0 W : World} {g : Nat} {f0 : ByteArray} {f1 : Int} (h : IsS160 w0 W g f0 f1) (x : ByteArray) : IsS160 w0 (W.setCell ⟨g, 0, none⟩ (.string x)) g x f1 := by
  obtain ⟨hb, hg⟩ := h
  exact ⟨by simpa using blk_set hb 0 (.string x), hg⟩
theorem cellS160_1 {W : World} {g : Nat} {f0 : ByteArray} {f1 : Int} (h : W.heap[g]? = some (.cells #[.string f0, .int .i64 f1] 160 (0, 0))) : W.cell? ⟨g, 1, none⟩ = some (.int .i64 f1) := (blk_cell h 1).trans rfl
theorem IsS160.set_1 {w0 W : World} {g : Nat} {f0 : ByteArray} {f1 : Int} (h : IsS160 w0 W g f0 f1) (x : Int) : IsS160 w0 (W.setCell ⟨g, 1, none⟩ (.int .i64 x)) g f0 x := by
  obtain ⟨hb, hg⟩ := h
  exact ⟨by simpa using blk_set hb 1 (.int .i64 x), hg⟩
theorem IsS160.new (w0 W : World) (f0 : ByteArray) (f1 : Int) (hB : Below w0.heap.size w0 W) : IsS160 w0 (W.alloc (.cells #[.string f0, .int .i64 f1] 160)) W.heap.size f0 f1 := ⟨by simpa using heap_alloc_new W _, hB.size⟩

/-! ### octet_Read: function 98 -/
def octet_Read.f (a0 : ByteArray) : Option (ByteArray × Int) := some (a0, 0)
set_option maxHeartbeats 8000000 in
set_option maxRecDepth 100000 in
theorem octet_Read.calls (a0 : ByteArray) (r1 : ByteArray) (r2 : Int) (w0 w : World) (hB : Below w0.heap.size w0 w) (h : octet_Read.f a0 = some (r1, r2)) :
    Calls Tryz.prog 98 #[.string a0] w fun e w' => ∃ g_ : Nat, e = .returned (.pointer (some ⟨g_, 0, none⟩)) ∧ IsS160 w0 w' g_ r1 r2 ∧ Below w0.heap.size w0 w' ∧ Below w.heap.size w w' := by
  have hu160 := Tryz.underlying160
  have HBW := Aside0.mk (Below.refl w.heap.size w)
  have HW0 := Aside0.mk hB.size
  have HB := Aside0.mk hB
  clear hB
  have H : (some (a0, 0)) = some (r1, r2) := h
  clear h
  simp only [Option.some.injEq, Prod.mk.injEq] at H
  obtain ⟨rfl, rfl⟩ := H
  go_enter Tryz.func98, Tryz.ntmps98
  go_wp2_with (first | ((with_reducible refine gate_dst (N := 5) rfl ?_); refine box_event ?hg (N := 5) ?hd (cs := #[.string a0, .int .i64 0]) (t := 160) ?hr ?_; (case hd => rfl); (case hg => rfl); (case hr => first | (go_simp; done) | (go_simp; rfl)); intro gb180 hg w2 hbox hb; have n0_ := Aside0.mk (below_step HBW.out hb); have n1_ := Aside0.mk (below_step (by repeat (first | (with_reducible first | exact HB.out | apply below_alloc | apply pw_below_drewN | apply below_drew1) | exact HB.out)) hb); have n2_ := Aside0.mk (hbox); have n3_ := Aside0.mk ((by rw [hg]; exact (below_size (by repeat (first | (with_reducible first | exact HBW.out | apply below_alloc | apply pw_below_drewN | apply below_drew1) | exact HBW.out))) : w.heap.size ≤ gb180)); have n4_ := Aside0.mk ((Nat.le_trans HW0.out (by rw [hg]; exact (below_size (by repeat (first | (with_reducible first | exact HBW.out | apply below_alloc | apply pw_below_drewN | apply below_drew1) | exact HBW.out))) : w.heap.size ≤ gb180) : w0.heap.size ≤ gb180)); clear HBW; clear HB; have HBW := n0_; have HB := n1_; have BK180 := n2_; have GW180 := n3_; have GE180 := n4_; clear n0_ n1_ n2_ n3_ n4_; clear hb hbox hg))
  go_ret
  exact ⟨_, rfl, (show IsS160 w0 _ gb180 a0 0 from ⟨by (with_reducible repeat (first | refine blk_drewN ?_ _ | refine blk_drew ?_ | refine blk_alloc ?_ _)); exact BK180.out, GE180.out⟩), by repeat (first | (with_reducible first | exact HB.out | apply below_alloc | apply pw_below_drewN | apply below_drew1 | refine below_set ?_ GE180.out) | exact HB.out), by repeat (first | (with_reducible first | exact HBW.out | apply below_alloc | apply pw_below_drewN | apply below_drew1 | refine below_set ?_ GW180.out) | exact HBW.out)⟩

/-! ### octet_Reader_Refuse: function 131 -/
def octet_Reader_Refuse.f (s0_0 : ByteArray) (s0_1 : Int) (a1 : Int) : Option (ByteArray × Int) := if s0_1 = 0 then (some (s0_0, a1)) else (some (s0_0, s0_1))
set_option maxHeartbeats 8000000 in
set_option maxRecDepth 100000 in
theorem octet_Reader_Refuse.calls (g : Nat) (s0_0 : ByteArray) (s0_1 : Int) (a1 : Int) (r1 : ByteArray) (r2 : Int) (w0 w : World) (hI : IsS160 w0 w g s0_0 s0_1) (hB : Below w0.heap.size w0 w) (h : octet_Reader_Refuse.f s0_0 s0_1 a1 = some (r1, r2)) :
    Calls Tryz.prog 131 #[.pointer (some ⟨g, 0, none⟩), .int .i64 a1] w fun e w' => e = .returned (.tuple #[]) ∧ IsS160 w0 w' g r1 r2 ∧ Below w0.heap.size w0 w' ∧ KeepBut w w' g none := by
  have HI0 := Aside0.mk hI
  have HK := Aside0.mk (KeepBut.refl w g none)
  have HL := Aside0.mk hB.size
  clear hI
  have HW0 := Aside0.mk hB.size
  have HB := Aside0.mk hB
  clear hB
  have H : (if s0_1 = 0 then (some (s0_0, a1)) else (some (s0_0, s0_1))) = some (r1, r2) := h
  clear h
  by_cases c3 : s0_1 = 0
  rotate_left
  · rw [if_neg c3] at H
    have c3b0 : (s0_1 == 0) = false := beq_eq_false_iff_ne.mpr c3
    have c3b1 : (s0_1 != 0) = true := bne_iff_ne.mpr c3
    simp only [Option.some.injEq, Prod.mk.injEq] at H
    obtain ⟨rfl, rfl⟩ := H
    obtain ⟨HGz5, hgz5⟩ := HI0.out
    have hcz5_0 := cellS160_0 HGz5
    have hcz5_1 := cellS160_1 HGz5
    have hfz5_0 := blk_frozen HGz5 0
    have hfz5_1 := blk_frozen HGz5 1
    clear HGz5 hgz5
    go_enter Tryz.func131, Tryz.ntmps131
    go_wp2
    first | go_end0 | ((try simp only [Exit.inBlock, Exit.then]); refine bodyPost_ret (results_none rfl _ _ _) rfl ?_)
    exact ⟨by first | rfl | (simp only [i64_w, i32_w]; rfl) | (simp [errW_none, errW_some] <;> rfl) | (simp [*, errW_none, errW_some] <;> rfl), by repeat (first | (with_reducible first | exact HI0.out | apply IsS160.alloc | apply IsS160.drewN | apply IsS160.drew | apply IsS160.set_0 | apply IsS160.set_1) | exact HI0.out), by repeat (first | (with_reducible first | exact HB.out | apply below_alloc | apply pw_below_drewN | apply below_drew1 | refine below_set ?_ (IsS160.ge HI0.out)) | exact HB.out), by repeat (first | (with_reducible first | exact HK.out | apply KeepBut.set_ | apply keep_drewN | apply keep_drew | apply keep_alloc) | exact HK.out)⟩
  rw [if_pos c3] at H
  have c3b0 : (s0_1 == 0) = true := beq_iff_eq.mpr c3
  have c3b1 : (s0_1 != 0) = false := bne_eq_false_iff_eq.mpr c3
  clear c3
  simp only [Option.some.injEq, Prod.mk.injEq] at H
  obtain ⟨rfl, rfl⟩ := H
  obtain ⟨HGz4, hgz4⟩ := HI0.out
  have hcz4_0 := cellS160_0 HGz4
  have hcz4_1 := cellS160_1 HGz4
  have hfz4_0 := blk_frozen HGz4 0
  have hfz4_1 := blk_frozen HGz4 1
  clear HGz4 hgz4
  go_enter Tryz.func131, Tryz.ntmps131
  go_wp2
  first | go_end0 | ((try simp only [Exit.inBlock, Exit.then]); refine bodyPost_ret (results_none rfl _ _ _) rfl ?_)
  exact ⟨by first | rfl | (simp only [i64_w, i32_w]; rfl) | (simp [errW_none, errW_some] <;> rfl) | (simp [*, errW_none, errW_some] <;> rfl), by repeat (first | (with_reducible first | exact HI0.out | apply IsS160.alloc | apply IsS160.drewN | apply IsS160.drew | apply IsS160.set_0 | apply IsS160.set_1) | exact HI0.out), by repeat (first | (with_reducible first | exact HB.out | apply below_alloc | apply pw_below_drewN | apply below_drew1 | refine below_set ?_ (IsS160.ge HI0.out)) | exact HB.out), by repeat (first | (with_reducible first | exact HK.out | apply KeepBut.set_ | apply keep_drewN | apply keep_drew | apply keep_alloc) | exact HK.out)⟩

end Go.Proofs.YtjfimileopbadaaGreatDoor.XPdB
