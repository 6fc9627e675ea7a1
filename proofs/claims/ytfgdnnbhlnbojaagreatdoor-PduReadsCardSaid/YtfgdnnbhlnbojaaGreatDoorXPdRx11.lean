-- Laid by extprint.py (the session's own driver): functions told by the kit's printer and by hand.
import Derived.Test.YtfgdnnbhlnbojaaGreatDoorXPdRx0
import Derived.Test.YtfgdnnbhlnbojaaGreatDoorXPdRx3
import Derived.Test.YtfgdnnbhlnbojaaGreatDoorXPdRx4
import Derived.Test.YtfgdnnbhlnbojaaGreatDoorXPdRx7
import Derived.Test.YtfgdnnbhlnbojaaGreatDoorXPdRx9
import Derived.Test.YtfgdnnbhlnbojaaGreatDoorXPdRx10
namespace Go.Proofs.YtfgdnnbhlnbojaaGreatDoor.XPdR
open Go.RowKit Gong Go.Proofs.YtfgdnnbhlnbojaaGreatDoorW.PrintWords Go.Proofs.YtfgdnnbhlnbojaaGreatDoorW.PrintLast Go.Proofs.YtfgdnnbhlnbojaaGreatDoorW.PrintMore
attribute [local go_sem] max2_int min2_int max_two min_two max_three min_three max_four min_four   -- for this text's walks alone
set_option linter.unusedVariables false
set_option linter.unusedSimpArgs false
def ber_Unsigned.f (a0 : ByteArray) : Option (Int × Int) :=
 if 1 ≤ a0.size ∧ a0.size ≤ 9 ∧ bt a0 0 < 128 then (ber_spare.f a0).bind fun sp => if sp = true then some (0, 50) else if 8 < a0.size ∧ bt a0 0 ≠ 0 then some (0, 50) else some (beNum a0.data.toList, 0) else some (0, 50)
set_option maxHeartbeats 1600000 in
set_option maxRecDepth 100000 in
theorem ber_Unsigned.calls (a0 : ByteArray) (r1 r2 : Int) (w : World) (h : ber_Unsigned.f a0 = some (r1, r2)) :
  Calls Tryz.prog 85 #[.string a0] w fun e w' => e = .returned (.tuple #[.int .u64 r1, .int .i64 r2]) ∧ Below w.heap.size w w' := by
 unfold ber_Unsigned.f at h
 by_cases hs : 1 ≤ a0.size ∧ a0.size ≤ 9 ∧ bt a0 0 < 128
 ·rw [if_pos hs] at h
  obtain ⟨hs1, hs2, hs3⟩ := hs
  obtain ⟨sp, A0, h⟩ := Option.bind_eq_some_iff.mp h
  have A := Aside0.mk A0
  have H := Aside0.mk h
  clear A0 h
  have e0 : (a0.toList == ([] : List UInt8)) = false := toList_ne (by omega)
  have e2 : ∀ h : 0 < a0.size, ((a0[0]'h).toNat : Int) = bt a0 0 := bt_at a0 0
  have e4 := eq_true (show 0 < a0.size by omega)
  have e5 := bt_range a0 0
  have e3 := eq_true (show 1 ≤ (a0.size : Int) by omega)
  have e1 := eq_true (show (0 : Int) < (a0.size : Int) by omega)
  have e6 : decide (128 ≤ bt a0 0) = false := decide_eq_false (by omega)
  have e7 : decide (9 < (a0.size : Int)) = false := decide_eq_false (by omega)
  have e8 : decide (9 < a0.size) = false := decide_eq_false (by omega)
  go_enter Tryz.func85, Tryz.ntmps85
  go_wp2_with fail
  (with_reducible refine (ber_spare.calls a0 sp _ A.out).mono ?_)
  rintro e w2 ⟨rfl, m, rfl⟩
  obtain ⟨w2, hw2⟩ : ∃ w2, w2 = w.drewN m := ⟨_, rfl⟩
  have HB := Aside0.mk (pw_below_drewN (Below.refl w.heap.size w) m)
  rw [← hw2] at HB ⊢
  clear hw2
  have hbad : ∀ v : Bool, v = true → True := fun _ _ => trivial
  cases sp with
  | true =>
   have h := H.out
   rw [if_pos rfl] at h
   simp only [Option.some.injEq, Prod.mk.injEq] at h
   obtain ⟨rfl, rfl⟩ := h
   go_wp2
   go_ret2
   exact ⟨rfl, HB.out⟩
  | false =>
   have h := H.out
   rw [if_neg (by decide)] at h
   clear H
   by_cases h9 : 8 < a0.size ∧ bt a0 0 ≠ 0
   ·rw [if_pos h9] at h
    simp only [Option.some.injEq, Prod.mk.injEq] at h
    obtain ⟨rfl, rfl⟩ := h
    have g1 : decide (8 < (a0.size : Int)) = true := decide_eq_true (by omega)
    have g2 : decide (8 < a0.size) = true := decide_eq_true h9.1
    have g3 : (bt a0 0 != 0) = true := bne_iff_ne.mpr h9.2
    clear h9
    go_wp2
    go_ret2
    exact ⟨rfl, HB.out⟩
   ·rw [if_neg h9] at h
    simp only [Option.some.injEq, Prod.mk.injEq] at h
    obtain ⟨rfl, rfl⟩ := h
    have hconv := fun (s : ByteArray) (W : World) => Lib.run_convert_string_bytes (P := Tryz.prog) W 9 53 5 s Tryz.underlying9 Tryz.underlying53 Tryz.underlying5
    have hcell : ∀ W : World, ∀ j, j < a0.size → (Lib.bytesWorld W 5 a0).cell? ⟨W.heap.size, j, none⟩ = some (.int .u8 (a0.data.toList.getD j 0).toNat) := fun W j hj => Lib.bytesWorld_cell W 5 a0 j hj
    have hbel : ∀ W : World, Below W.heap.size W (Lib.bytesWorld W 5 a0) := fun W => bytes_below (Below.refl _ _) (Nat.le_refl _) 5 _
    have hb0 : bt a0 0 = ((a0.data.toList.headD 0).toNat : Int) := by rw [← bt_at a0 0 (by simpa using (show 0 < a0.size by omega))]; exact congrArg (fun x : UInt8 => ((x.toNat : Nat) : Int)) (head_get a0 (by omega))
    have hz : 8 < a0.size → a0.data.toList.headD 0 = 0 := fun h8 => by
     have hb : bt a0 0 = 0 := Decidable.byContradiction fun hh => h9 ⟨h8, hh⟩
     rw [hb] at hb0
     exact UInt8.toNat_inj.mp (by have : (0 : UInt8).toNat = 0 := rfl; omega)
    have HZ := Aside0.mk hz
    have HC := Aside0.mk hcell
    have HE := Aside0.mk hbel
    clear hb0 hz hcell hbel
    by_cases h8 : 8 < a0.size
    ·have g1 : decide (8 < (a0.size : Int)) = true := decide_eq_true (by omega)
     have g2 : decide (8 < a0.size) = true := decide_eq_true h8
     have hb : bt a0 0 = 0 := Decidable.byContradiction fun hh => h9 ⟨h8, hh⟩
     have g3 : (bt a0 0 != 0) = false := bne_eq_false_iff_eq.mpr hb
     clear h9 hb
     go_wp2_with fail
     have hcell := HC.out w2
     have hbel := HE.out w2
     obtain ⟨w3, hw3⟩ : ∃ w3, w3 = Lib.bytesWorld w2 5 a0 := ⟨_, rfl⟩
     rw [← hw3] at hcell hbel ⊢
     have HCELL := Aside0.mk hcell
     have HB3 := Aside0.mk (Below.trans HB.out (Below.mono hbel HB.out.size))
     clear hw3 hcell hbel hconv HB HC HE
     go_loop [4, 36] (fun v i => ∃ k : Nat, k ≤ a0.size ∧ i = .int .i64 k ∧ v = .int .u64 (beNum (a0.data.toList.take k))) (fun _ i => a0.size - (intOf i).toNat)
     case atStart => exact ⟨0, Nat.zero_le _, rfl, rfl⟩
     case round =>
      obtain ⟨k, hk, rfl, rfl⟩ := hrel
      by_cases hlt : k < a0.size
      ·have hc := HCELL.out k hlt
       go_wp2
       go_round
       case rel =>
        refine ⟨k + 1, by omega, by go_num, ?_⟩
        rw [beNum_take _ _ (by simpa using hlt)]
        have e1 := u64_or8 (beNum (a0.data.toList.take k)) a0.data[k] (beNum_lt _).1 (beNum_le9 _ _ (by omega) (fun h8 => HZ.out (by omega)))
        rw [e1]
        simp [List.getD, hlt]
       case measure => simp [intOf]; omega
      ·obtain rfl : k = a0.size := by omega
       rw [List.take_of_length_le (by simp)]
       clear hk hlt
       go_wp2
       go_ret2
       exact ⟨rfl, HB3.out⟩
    ·have g1 : decide (8 < (a0.size : Int)) = false := decide_eq_false (by omega)
     have g2 : decide (8 < a0.size) = false := decide_eq_false h8
     clear h9
     go_wp2_with fail
     have hcell := HC.out w2
     have hbel := HE.out w2
     obtain ⟨w3, hw3⟩ : ∃ w3, w3 = Lib.bytesWorld w2 5 a0 := ⟨_, rfl⟩
     rw [← hw3] at hcell hbel ⊢
     have HCELL := Aside0.mk hcell
     have HB3 := Aside0.mk (Below.trans HB.out (Below.mono hbel HB.out.size))
     clear hw3 hcell hbel hconv HB HC HE
     go_loop [4, 36] (fun v i => ∃ k : Nat, k ≤ a0.size ∧ i = .int .i64 k ∧ v = .int .u64 (beNum (a0.data.toList.take k))) (fun _ i => a0.size - (intOf i).toNat)
     case atStart => exact ⟨0, Nat.zero_le _, rfl, rfl⟩
     case round =>
      obtain ⟨k, hk, rfl, rfl⟩ := hrel
      by_cases hlt : k < a0.size
      ·have hc := HCELL.out k hlt
       go_wp2
       go_round
       case rel =>
        refine ⟨k + 1, by omega, by go_num, ?_⟩
        rw [beNum_take _ _ (by simpa using hlt)]
        have e1 := u64_or8 (beNum (a0.data.toList.take k)) a0.data[k] (beNum_lt _).1 (beNum_le9 _ _ (by omega) (fun h8 => HZ.out (by omega)))
        rw [e1]
        simp [List.getD, hlt]
       case measure => simp [intOf]; omega
      ·obtain rfl : k = a0.size := by omega
       rw [List.take_of_length_le (by simp)]
       clear hk hlt
       go_wp2
       go_ret2
       exact ⟨rfl, HB3.out⟩
 ·rw [if_neg hs] at h
  simp only [Option.some.injEq, Prod.mk.injEq] at h
  obtain ⟨rfl, rfl⟩ := h
  by_cases h0 : a0.size = 0
  ·obtain rfl := size_zero h0
   clear h0 hs
   go_enter Tryz.func85, Tryz.ntmps85
   go_wp2
   go_ret2
   exact ⟨rfl, Below.refl _ _⟩
  ·have e0 : (a0.toList == ([] : List UInt8)) = false := toList_ne h0
   have e2 : ∀ h : 0 < a0.size, ((a0[0]'h).toNat : Int) = bt a0 0 := bt_at a0 0
   have e4 := eq_true (show 0 < a0.size by omega)
   have e5 := bt_range a0 0
   have e1 := eq_true (show (0 : Int) < (a0.size : Int) by omega)
   by_cases h9 : 9 < a0.size
   ·have e7 : decide (9 < (a0.size : Int)) = true := decide_eq_true (by omega)
    have e8 : decide (9 < a0.size) = true := decide_eq_true (by omega)
    clear h0 hs
    go_enter Tryz.func85, Tryz.ntmps85
    go_wp2
    go_ret2
    exact ⟨rfl, Below.refl _ _⟩
   ·have e7 : decide (9 < (a0.size : Int)) = false := decide_eq_false (by omega)
    have e8 : decide (9 < a0.size) = false := decide_eq_false (by omega)
    have e6 : decide (128 ≤ bt a0 0) = true := decide_eq_true (by omega)
    clear h0 hs
    go_enter Tryz.func85, Tryz.ntmps85
    go_wp2
    go_ret2
    exact ⟨rfl, Below.refl _ _⟩
def value_Decode.fin (k : Nat) (kind n : Int) (s : ByteArray) (e : Int) : Option (Int × Int × ByteArray × Int) :=
 if e = 0 then (value_right.f k kind n s).bind fun t => if t = true then some (kind, n, s, 0) else some (0, 0, ⟨#[]⟩, 70) else some (0, 0, ⟨#[]⟩, 70)
def value_Decode.f (k : Nat) (a0_0 : Int) (a0_1 : ByteArray) : Option (Int × Int × ByteArray × Int) := (value_of.f a0_0).bind fun t =>
 if t = 1 then (ber_Number.f a0_1).bind fun r => value_Decode.fin k a0_0 r.1 ⟨#[]⟩ r.2 else
 if t = 2 then (ber_Unsigned.f a0_1).bind fun r => value_Decode.fin k a0_0 (wrap64 r.1) ⟨#[]⟩ r.2 else
 if t = 4 then (oid_Decode.f k a0_1).bind fun r => value_Decode.fin k a0_0 0 r.1 r.2 else value_Decode.fin k a0_0 0 a0_1 0
theorem value_Decode.fin_mono (kind n : Int) (s : ByteArray) (e : Int) (k : Nat) : LeO (value_Decode.fin k kind n s e) (value_Decode.fin (k + 1) kind n s e) := by
 unfold value_Decode.fin
 split
 ·exact LeO.bind (value_right.mono _ _ _ _) (fun _ => LeO.refl _)
 ·exact LeO.refl _
theorem value_Decode.mono : ∀ a0 a1 k, LeO (value_Decode.f k a0 a1) (value_Decode.f (k + 1) a0 a1) := by
 intro a0 a1 k
 unfold value_Decode.f
 refine LeO.bind (LeO.refl _) (fun t => ?_)
 split
 ·exact LeO.bind (LeO.refl _) (fun _ => value_Decode.fin_mono _ _ _ _ k)
 ·split
  ·exact LeO.bind (LeO.refl _) (fun _ => value_Decode.fin_mono _ _ _ _ k)
  ·split
   ·exact LeO.bind (oid_Decode.mono _ _) (fun _ => value_Decode.fin_mono _ _ _ _ k)
   ·exact value_Decode.fin_mono _ _ _ _ k
set_option maxHeartbeats 8000000 in
set_option maxRecDepth 100000 in
theorem value_Decode.calls (k : Nat) (a0_0 : Int) (a0_1 : ByteArray) (r1 : Int) (r2 : Int) (r3 : ByteArray) (r4 : Int) (w : World) (hG : Gl w) (h : value_Decode.f k a0_0 a0_1 = some (r1, r2, r3, r4)) :
  Calls Tryz.prog 57 #[.agg #[.int .i64 a0_0, .string a0_1]] w fun e w' => e = .returned (.tuple #[.agg #[.int .i64 r1, .int .i64 r2, .string r3], .int .i64 r4]) ∧ Below w.heap.size w w' := by
 have HGl := Aside0.mk hG
 unfold value_Decode.f at h
 obtain ⟨t, hof, h⟩ := Option.bind_eq_some_iff.1 h
 have HOF := Aside0.mk hof
 clear hG hof
 go_enter Tryz.func57, Tryz.ntmps57
 go_wp2_with fail
 obtain ⟨w3, hw3⟩ : ∃ w3, w3 = (((w.alloc (.cells #[.int .i64 a0_0, .string a0_1] 47)).alloc (.cells #[.int .i64 0, .int .i64 0, .string ⟨#[]⟩] 28)).alloc (.cells #[.int .i64 a0_0, .int .i64 0, .string ⟨#[]⟩] 28)) := ⟨_, rfl⟩
 have H1 := Aside0.mk (show w3.heap[w.heap.size]? = some (.cells #[.int .i64 a0_0, .string a0_1] 47 (0, 0)) by rw [hw3]; exact blk_alloc (blk_alloc (heap_alloc_new w _) _) _)
 have H2 := Aside0.mk (show w3.heap[w.heap.size + 1]? = some (.cells #[.int .i64 0, .int .i64 0, .string ⟨#[]⟩] 28 (0, 0)) by
  rw [hw3]; refine blk_alloc ?_ _
  have := heap_alloc_new (w.alloc (.cells #[.int .i64 a0_0, .string a0_1] 47)) (.cells #[.int .i64 0, .int .i64 0, .string ⟨#[]⟩] 28)
  simpa using this)
 have H4 := Aside0.mk (show w3.heap[w.heap.size + 1 + 1]? = some (.cells #[.int .i64 a0_0, .int .i64 0, .string ⟨#[]⟩] 28 (0, 0)) by
  rw [hw3]
  have := heap_alloc_new ((w.alloc (.cells #[.int .i64 a0_0, .string a0_1] 47)).alloc (.cells #[.int .i64 0, .int .i64 0, .string ⟨#[]⟩] 28)) (.cells #[.int .i64 a0_0, .int .i64 0, .string ⟨#[]⟩] 28)
  simpa using this)
 have HB := Aside0.mk (show Below w.heap.size w w3 by rw [hw3]; exact below_alloc (below_alloc (below_alloc (Below.refl _ _) _) _) _)
 rw [← hw3]
 obtain ⟨b2, hb2⟩ : ∃ b2, b2 = w.heap.size + 1 := ⟨_, rfl⟩
 obtain ⟨b4, hb4⟩ : ∃ b4, b4 = w.heap.size + 1 + 1 := ⟨_, rfl⟩
 rw [← hb4, ← hb2]
 rw [← hb2] at H2
 rw [← hb4] at H4
 have HN := Aside0.mk (show w.heap.size ≤ b2 ∧ w.heap.size ≤ b4 ∧ b2 ≠ b4 ∧ w.heap.size ≠ b4 by omega)
 have n1 : b2 ≠ b4 := by omega
 have n2 : b4 ≠ b2 := by omega
 have n3 : w.heap.size ≠ b4 := by omega
 clear hb4 hb2 hw3
 refine (value_of.calls a0_0 t w3 HOF.out).mono ?_
 rintro e w' ⟨rfl, ⟨nd, rfl⟩⟩
 have H1d := Aside0.mk (show (w3.drewN nd).heap[w.heap.size]? = _ from H1.out)
 have H2d := Aside0.mk (show (w3.drewN nd).heap[b2]? = _ from H2.out)
 have H4d := Aside0.mk (show (w3.drewN nd).heap[b4]? = _ from H4.out)
 have HBd := Aside0.mk (show Below w.heap.size w (w3.drewN nd) from pw_below_drewN HB.out nd)
 obtain ⟨w4, hw4⟩ : ∃ w4, w4 = w3.drewN nd := ⟨_, rfl⟩
 rw [← hw4] at H1d H2d H4d HBd ⊢
 clear hw4 H1 H2 H4 HB HOF
 by_cases ht1 : t = 1
 ·subst ht1
  rw [if_pos rfl] at h
  obtain ⟨⟨x, ec⟩, hF, h⟩ := Option.bind_eq_some_iff.1 h
  simp only at h
  have HF := Aside0.mk hF
  clear hF
  have c1 := (blk_cell H1d.out 1).trans rfl
  go_wp2_with fail
  refine (ber_Number.calls a0_1 x ec w4 HF.out).mono ?_
  rintro e w5 ⟨rfl, hb5⟩
  clear c1
  have K4 := Aside0.mk ((Mv.of_below (S := fun _ => False) hb5).heap H4d.out id)
  have K2 := Aside0.mk ((Mv.of_below (S := fun _ => False) hb5).heap H2d.out id)
  have KB := Aside0.mk (Below.trans HBd.out (Below.mono hb5 HBd.out.size))
  clear hb5 H4d H2d HBd H1d HF
  have x0 := (blk_cell K4.out 1).trans rfl
  have y0 := blk_frozen K4.out 1
  go_upto_region 13 with (fail)
  clear x0 y0
  obtain ⟨w6, hw6⟩ : ∃ w6, w6 = w5.setCell ⟨b4, 1, none⟩ (.int .i64 x) := ⟨_, rfl⟩
  have H4s := Aside0.mk (show w6.heap[b4]? = some (.cells #[.int .i64 a0_0, .int .i64 x, .string ⟨#[]⟩] 28 (0, 0)) by rw [hw6]; exact blk_put K4.out 1 _ rfl)
  have H2s := Aside0.mk (show w6.heap[b2]? = some (.cells #[.int .i64 0, .int .i64 0, .string ⟨#[]⟩] 28 (0, 0)) by rw [hw6]; exact blk_far K2.out HN.out.2.2.1 _)
  have HBs := Aside0.mk (show Below w.heap.size w w6 by rw [hw6]; exact below_set KB.out HN.out.2.1)
  rw [← hw6]
  clear hw6 K4 K2 KB
  unfold value_Decode.fin at h
  by_cases hec : ec = 0
  ·rw [if_pos hec] at h
   subst hec
   obtain ⟨tt, hR, h⟩ := Option.bind_eq_some_iff.1 h
   have HR := Aside0.mk hR
   clear hR
   have z0 := (blk_cell H4s.out 0).trans rfl
   have z1 := (blk_cell H4s.out 1).trans rfl
   have z2 := (blk_cell H4s.out 2).trans rfl
   go_wp2_with fail
   refine (value_right.calls k a0_0 x ⟨#[]⟩ tt w6 (HGl.out.below HBs.out) HR.out).mono ?_
   rintro e w7 ⟨rfl, hb7⟩
   clear z0 z1 z2
   have H2r := Aside0.mk ((Mv.of_below (S := fun _ => False) hb7).heap H2s.out id)
   have H4r := Aside0.mk ((Mv.of_below (S := fun _ => False) hb7).heap H4s.out id)
   have HBr := Aside0.mk (Below.trans HBs.out (Below.mono hb7 HBs.out.size))
   clear hb7 H2s H4s HBs
   have x0 := (blk_cell H2r.out 0).trans rfl
   have x1 := (blk_cell H2r.out 1).trans rfl
   have x2 := (blk_cell H2r.out 2).trans rfl
   have y0 := blk_frozen H2r.out 0
   have y1 := blk_frozen H2r.out 1
   have y2 := blk_frozen H2r.out 2
   have z0 := (blk_cell H4r.out 0).trans rfl
   have z1 := (blk_cell H4r.out 1).trans rfl
   have z2 := (blk_cell H4r.out 2).trans rfl
   cases tt with
   | true =>
    rw [if_pos rfl] at h
    simp only [Option.some.injEq, Prod.mk.injEq] at h
    obtain ⟨rfl, rfl, rfl, rfl⟩ := h
    go_wp2
    refine bodyPost_ret (results_ct rfl _ _ b2 28 #[.int .i64 a0_0, .int .i64 x, .string ⟨#[]⟩] (0, 0) _ rfl (by
     refine blk_put (cs := #[.int .i64 a0_0, .int .i64 x, .string ⟨#[]⟩]) ?_ 2 _ rfl
     refine blk_put (cs := #[.int .i64 a0_0, .int .i64 0, .string ⟨#[]⟩]) ?_ 1 _ rfl
     refine blk_put (cs := #[.int .i64 0, .int .i64 0, .string ⟨#[]⟩]) ?_ 0 _ rfl
     exact H2r.out) Tryz.underlying28 rfl (by kernel_rfl)) rfl ?_
    exact ⟨rfl, below_set (below_set (below_set HBr.out HN.out.1) HN.out.1) HN.out.1⟩
   | false =>
    rw [if_neg (by simp)] at h
    simp only [Option.some.injEq, Prod.mk.injEq] at h
    obtain ⟨rfl, rfl, rfl, rfl⟩ := h
    go_wp2
    refine bodyPost_ret (results_ct rfl _ _ b2 28 #[.int .i64 0, .int .i64 0, .string ⟨#[]⟩] (0, 0) _ rfl (by
     refine blk_put (cs := #[.int .i64 0, .int .i64 0, .string ⟨#[]⟩]) ?_ 2 _ rfl
     refine blk_put (cs := #[.int .i64 0, .int .i64 0, .string ⟨#[]⟩]) ?_ 1 _ rfl
     refine blk_put (cs := #[.int .i64 0, .int .i64 0, .string ⟨#[]⟩]) ?_ 0 _ rfl
     exact H2r.out) Tryz.underlying28 rfl (by kernel_rfl)) rfl ?_
    exact ⟨rfl, below_set (below_set (below_set HBr.out HN.out.1) HN.out.1) HN.out.1⟩
  ·rw [if_neg hec] at h
   have d1 : (ec != 0) = true := bne_iff_ne.mpr hec
   have d2 := eq_false hec
   clear hec
   simp only [Option.some.injEq, Prod.mk.injEq] at h
   obtain ⟨rfl, rfl, rfl, rfl⟩ := h
   have x0 := (blk_cell H2s.out 0).trans rfl
   have x1 := (blk_cell H2s.out 1).trans rfl
   have x2 := (blk_cell H2s.out 2).trans rfl
   have y0 := blk_frozen H2s.out 0
   have y1 := blk_frozen H2s.out 1
   have y2 := blk_frozen H2s.out 2
   go_wp2
   refine bodyPost_ret (results_ct rfl _ _ b2 28 #[.int .i64 0, .int .i64 0, .string ⟨#[]⟩] (0, 0) _ rfl (by
    refine blk_put (cs := #[.int .i64 0, .int .i64 0, .string ⟨#[]⟩]) ?_ 2 _ rfl
    refine blk_put (cs := #[.int .i64 0, .int .i64 0, .string ⟨#[]⟩]) ?_ 1 _ rfl
    refine blk_put (cs := #[.int .i64 0, .int .i64 0, .string ⟨#[]⟩]) ?_ 0 _ rfl
    exact H2s.out) Tryz.underlying28 rfl (by kernel_rfl)) rfl ?_
   exact ⟨rfl, below_set (below_set (below_set HBs.out HN.out.1) HN.out.1) HN.out.1⟩
 rw [if_neg ht1] at h
 have e1 : (t == 1) = false := beq_eq_false_iff_ne.mpr ht1
 have e1' := eq_false ht1
 clear ht1
 by_cases ht2 : t = 2
 ·subst ht2
  rw [if_pos rfl] at h
  obtain ⟨⟨x, ec⟩, hF, h⟩ := Option.bind_eq_some_iff.1 h
  simp only at h
  have HF := Aside0.mk hF
  clear hF
  have c1 := (blk_cell H1d.out 1).trans rfl
  go_wp2_with fail
  refine (ber_Unsigned.calls a0_1 x ec w4 HF.out).mono ?_
  rintro e w5 ⟨rfl, hb5⟩
  clear c1
  have K4 := Aside0.mk ((Mv.of_below (S := fun _ => False) hb5).heap H4d.out id)
  have K2 := Aside0.mk ((Mv.of_below (S := fun _ => False) hb5).heap H2d.out id)
  have KB := Aside0.mk (Below.trans HBd.out (Below.mono hb5 HBd.out.size))
  clear hb5 H4d H2d HBd H1d HF
  have x0 := (blk_cell K4.out 1).trans rfl
  have y0 := blk_frozen K4.out 1
  go_upto_region 13 with (fail)
  clear x0 y0
  obtain ⟨w6, hw6⟩ : ∃ w6, w6 = w5.setCell ⟨b4, 1, none⟩ (.int .i64 (wrap64 x)) := ⟨_, rfl⟩
  have H4s := Aside0.mk (show w6.heap[b4]? = some (.cells #[.int .i64 a0_0, .int .i64 (wrap64 x), .string ⟨#[]⟩] 28 (0, 0)) by rw [hw6]; exact blk_put K4.out 1 _ rfl)
  have H2s := Aside0.mk (show w6.heap[b2]? = some (.cells #[.int .i64 0, .int .i64 0, .string ⟨#[]⟩] 28 (0, 0)) by rw [hw6]; exact blk_far K2.out HN.out.2.2.1 _)
  have HBs := Aside0.mk (show Below w.heap.size w w6 by rw [hw6]; exact below_set KB.out HN.out.2.1)
  rw [← hw6]
  clear hw6 K4 K2 KB
  unfold value_Decode.fin at h
  by_cases hec : ec = 0
  ·rw [if_pos hec] at h
   subst hec
   obtain ⟨tt, hR, h⟩ := Option.bind_eq_some_iff.1 h
   have HR := Aside0.mk hR
   clear hR
   have z0 := (blk_cell H4s.out 0).trans rfl
   have z1 := (blk_cell H4s.out 1).trans rfl
   have z2 := (blk_cell H4s.out 2).trans rfl
   go_wp2_with fail
   refine (value_right.calls k a0_0 (wrap64 x) ⟨#[]⟩ tt w6 (HGl.out.below HBs.out) HR.out).mono ?_
   rintro e w7 ⟨rfl, hb7⟩
   clear z0 z1 z2
   have H2r := Aside0.mk ((Mv.of_below (S := fun _ => False) hb7).heap H2s.out id)
   have H4r := Aside0.mk ((Mv.of_below (S := fun _ => False) hb7).heap H4s.out id)
   have HBr := Aside0.mk (Below.trans HBs.out (Below.mono hb7 HBs.out.size))
   clear hb7 H2s H4s HBs
   have x0 := (blk_cell H2r.out 0).trans rfl
   have x1 := (blk_cell H2r.out 1).trans rfl
   have x2 := (blk_cell H2r.out 2).trans rfl
   have y0 := blk_frozen H2r.out 0
   have y1 := blk_frozen H2r.out 1
   have y2 := blk_frozen H2r.out 2
   have z0 := (blk_cell H4r.out 0).trans rfl
   have z1 := (blk_cell H4r.out 1).trans rfl
   have z2 := (blk_cell H4r.out 2).trans rfl
   cases tt with
   | true =>
    rw [if_pos rfl] at h
    simp only [Option.some.injEq, Prod.mk.injEq] at h
    obtain ⟨rfl, rfl, rfl, rfl⟩ := h
    go_wp2
    refine bodyPost_ret (results_ct rfl _ _ b2 28 #[.int .i64 a0_0, .int .i64 (wrap64 x), .string ⟨#[]⟩] (0, 0) _ rfl (by
     refine blk_put (cs := #[.int .i64 a0_0, .int .i64 (wrap64 x), .string ⟨#[]⟩]) ?_ 2 _ rfl
     refine blk_put (cs := #[.int .i64 a0_0, .int .i64 0, .string ⟨#[]⟩]) ?_ 1 _ rfl
     refine blk_put (cs := #[.int .i64 0, .int .i64 0, .string ⟨#[]⟩]) ?_ 0 _ rfl
     exact H2r.out) Tryz.underlying28 rfl (by kernel_rfl)) rfl ?_
    exact ⟨rfl, below_set (below_set (below_set HBr.out HN.out.1) HN.out.1) HN.out.1⟩
   | false =>
    rw [if_neg (by simp)] at h
    simp only [Option.some.injEq, Prod.mk.injEq] at h
    obtain ⟨rfl, rfl, rfl, rfl⟩ := h
    go_wp2
    refine bodyPost_ret (results_ct rfl _ _ b2 28 #[.int .i64 0, .int .i64 0, .string ⟨#[]⟩] (0, 0) _ rfl (by
     refine blk_put (cs := #[.int .i64 0, .int .i64 0, .string ⟨#[]⟩]) ?_ 2 _ rfl
     refine blk_put (cs := #[.int .i64 0, .int .i64 0, .string ⟨#[]⟩]) ?_ 1 _ rfl
     refine blk_put (cs := #[.int .i64 0, .int .i64 0, .string ⟨#[]⟩]) ?_ 0 _ rfl
     exact H2r.out) Tryz.underlying28 rfl (by kernel_rfl)) rfl ?_
    exact ⟨rfl, below_set (below_set (below_set HBr.out HN.out.1) HN.out.1) HN.out.1⟩
  ·rw [if_neg hec] at h
   have d1 : (ec != 0) = true := bne_iff_ne.mpr hec
   have d2 := eq_false hec
   clear hec
   simp only [Option.some.injEq, Prod.mk.injEq] at h
   obtain ⟨rfl, rfl, rfl, rfl⟩ := h
   have x0 := (blk_cell H2s.out 0).trans rfl
   have x1 := (blk_cell H2s.out 1).trans rfl
   have x2 := (blk_cell H2s.out 2).trans rfl
   have y0 := blk_frozen H2s.out 0
   have y1 := blk_frozen H2s.out 1
   have y2 := blk_frozen H2s.out 2
   go_wp2
   refine bodyPost_ret (results_ct rfl _ _ b2 28 #[.int .i64 0, .int .i64 0, .string ⟨#[]⟩] (0, 0) _ rfl (by
    refine blk_put (cs := #[.int .i64 0, .int .i64 0, .string ⟨#[]⟩]) ?_ 2 _ rfl
    refine blk_put (cs := #[.int .i64 0, .int .i64 0, .string ⟨#[]⟩]) ?_ 1 _ rfl
    refine blk_put (cs := #[.int .i64 0, .int .i64 0, .string ⟨#[]⟩]) ?_ 0 _ rfl
    exact H2s.out) Tryz.underlying28 rfl (by kernel_rfl)) rfl ?_
   exact ⟨rfl, below_set (below_set (below_set HBs.out HN.out.1) HN.out.1) HN.out.1⟩
 rw [if_neg ht2] at h
 have e2 : (t == 2) = false := beq_eq_false_iff_ne.mpr ht2
 have e2' := eq_false ht2
 clear ht2
 by_cases ht4 : t = 4
 ·subst ht4
  rw [if_pos rfl] at h
  obtain ⟨⟨x, ec⟩, hF, h⟩ := Option.bind_eq_some_iff.1 h
  simp only at h
  have HF := Aside0.mk hF
  clear hF
  have c1 := (blk_cell H1d.out 1).trans rfl
  go_wp2_with fail
  refine (oid_Decode.calls k a0_1 x ec w4 (HGl.out.below HBd.out) HF.out).mono ?_
  rintro e w5 ⟨rfl, hb5⟩
  clear c1
  have K4 := Aside0.mk ((Mv.of_below (S := fun _ => False) hb5).heap H4d.out id)
  have K2 := Aside0.mk ((Mv.of_below (S := fun _ => False) hb5).heap H2d.out id)
  have KB := Aside0.mk (Below.trans HBd.out (Below.mono hb5 HBd.out.size))
  clear hb5 H4d H2d HBd H1d HF
  have x0 := (blk_cell K4.out 2).trans rfl
  have y0 := blk_frozen K4.out 2
  go_upto_region 13 with (fail)
  clear x0 y0
  obtain ⟨w6, hw6⟩ : ∃ w6, w6 = w5.setCell ⟨b4, 2, none⟩ (.string x) := ⟨_, rfl⟩
  have H4s := Aside0.mk (show w6.heap[b4]? = some (.cells #[.int .i64 a0_0, .int .i64 0, .string x] 28 (0, 0)) by rw [hw6]; exact blk_put K4.out 2 _ rfl)
  have H2s := Aside0.mk (show w6.heap[b2]? = some (.cells #[.int .i64 0, .int .i64 0, .string ⟨#[]⟩] 28 (0, 0)) by rw [hw6]; exact blk_far K2.out HN.out.2.2.1 _)
  have HBs := Aside0.mk (show Below w.heap.size w w6 by rw [hw6]; exact below_set KB.out HN.out.2.1)
  rw [← hw6]
  clear hw6 K4 K2 KB
  unfold value_Decode.fin at h
  by_cases hec : ec = 0
  ·rw [if_pos hec] at h
   subst hec
   obtain ⟨tt, hR, h⟩ := Option.bind_eq_some_iff.1 h
   have HR := Aside0.mk hR
   clear hR
   have z0 := (blk_cell H4s.out 0).trans rfl
   have z1 := (blk_cell H4s.out 1).trans rfl
   have z2 := (blk_cell H4s.out 2).trans rfl
   go_wp2_with fail
   refine (value_right.calls k a0_0 0 x tt w6 (HGl.out.below HBs.out) HR.out).mono ?_
   rintro e w7 ⟨rfl, hb7⟩
   clear z0 z1 z2
   have H2r := Aside0.mk ((Mv.of_below (S := fun _ => False) hb7).heap H2s.out id)
   have H4r := Aside0.mk ((Mv.of_below (S := fun _ => False) hb7).heap H4s.out id)
   have HBr := Aside0.mk (Below.trans HBs.out (Below.mono hb7 HBs.out.size))
   clear hb7 H2s H4s HBs
   have x0 := (blk_cell H2r.out 0).trans rfl
   have x1 := (blk_cell H2r.out 1).trans rfl
   have x2 := (blk_cell H2r.out 2).trans rfl
   have y0 := blk_frozen H2r.out 0
   have y1 := blk_frozen H2r.out 1
   have y2 := blk_frozen H2r.out 2
   have z0 := (blk_cell H4r.out 0).trans rfl
   have z1 := (blk_cell H4r.out 1).trans rfl
   have z2 := (blk_cell H4r.out 2).trans rfl
   cases tt with
   | true =>
    rw [if_pos rfl] at h
    simp only [Option.some.injEq, Prod.mk.injEq] at h
    obtain ⟨rfl, rfl, rfl, rfl⟩ := h
    go_wp2
    refine bodyPost_ret (results_ct rfl _ _ b2 28 #[.int .i64 a0_0, .int .i64 0, .string x] (0, 0) _ rfl (by
     refine blk_put (cs := #[.int .i64 a0_0, .int .i64 0, .string ⟨#[]⟩]) ?_ 2 _ rfl
     refine blk_put (cs := #[.int .i64 a0_0, .int .i64 0, .string ⟨#[]⟩]) ?_ 1 _ rfl
     refine blk_put (cs := #[.int .i64 0, .int .i64 0, .string ⟨#[]⟩]) ?_ 0 _ rfl
     exact H2r.out) Tryz.underlying28 rfl (by kernel_rfl)) rfl ?_
    exact ⟨rfl, below_set (below_set (below_set HBr.out HN.out.1) HN.out.1) HN.out.1⟩
   | false =>
    rw [if_neg (by simp)] at h
    simp only [Option.some.injEq, Prod.mk.injEq] at h
    obtain ⟨rfl, rfl, rfl, rfl⟩ := h
    go_wp2
    refine bodyPost_ret (results_ct rfl _ _ b2 28 #[.int .i64 0, .int .i64 0, .string ⟨#[]⟩] (0, 0) _ rfl (by
     refine blk_put (cs := #[.int .i64 0, .int .i64 0, .string ⟨#[]⟩]) ?_ 2 _ rfl
     refine blk_put (cs := #[.int .i64 0, .int .i64 0, .string ⟨#[]⟩]) ?_ 1 _ rfl
     refine blk_put (cs := #[.int .i64 0, .int .i64 0, .string ⟨#[]⟩]) ?_ 0 _ rfl
     exact H2r.out) Tryz.underlying28 rfl (by kernel_rfl)) rfl ?_
    exact ⟨rfl, below_set (below_set (below_set HBr.out HN.out.1) HN.out.1) HN.out.1⟩
  ·rw [if_neg hec] at h
   have d1 : (ec != 0) = true := bne_iff_ne.mpr hec
   have d2 := eq_false hec
   clear hec
   simp only [Option.some.injEq, Prod.mk.injEq] at h
   obtain ⟨rfl, rfl, rfl, rfl⟩ := h
   have x0 := (blk_cell H2s.out 0).trans rfl
   have x1 := (blk_cell H2s.out 1).trans rfl
   have x2 := (blk_cell H2s.out 2).trans rfl
   have y0 := blk_frozen H2s.out 0
   have y1 := blk_frozen H2s.out 1
   have y2 := blk_frozen H2s.out 2
   go_wp2
   refine bodyPost_ret (results_ct rfl _ _ b2 28 #[.int .i64 0, .int .i64 0, .string ⟨#[]⟩] (0, 0) _ rfl (by
    refine blk_put (cs := #[.int .i64 0, .int .i64 0, .string ⟨#[]⟩]) ?_ 2 _ rfl
    refine blk_put (cs := #[.int .i64 0, .int .i64 0, .string ⟨#[]⟩]) ?_ 1 _ rfl
    refine blk_put (cs := #[.int .i64 0, .int .i64 0, .string ⟨#[]⟩]) ?_ 0 _ rfl
    exact H2s.out) Tryz.underlying28 rfl (by kernel_rfl)) rfl ?_
   exact ⟨rfl, below_set (below_set (below_set HBs.out HN.out.1) HN.out.1) HN.out.1⟩
 rw [if_neg ht4] at h
 have e4 : (t == 4) = false := beq_eq_false_iff_ne.mpr ht4
 have e4' := eq_false ht4
 clear ht4
 have c1 := (blk_cell H1d.out 1).trans rfl
 have K4 := Aside0.mk H4d.out
 have K2 := Aside0.mk H2d.out
 have KB := Aside0.mk HBd.out
 have x0 := (blk_cell K4.out 2).trans rfl
 have y0 := blk_frozen K4.out 2
 go_upto_region 13 with (fail)
 clear x0 y0
 obtain ⟨w6, hw6⟩ : ∃ w6, w6 = w4.setCell ⟨b4, 2, none⟩ (.string a0_1) := ⟨_, rfl⟩
 have H4s := Aside0.mk (show w6.heap[b4]? = some (.cells #[.int .i64 a0_0, .int .i64 0, .string a0_1] 28 (0, 0)) by rw [hw6]; exact blk_put K4.out 2 _ rfl)
 have H2s := Aside0.mk (show w6.heap[b2]? = some (.cells #[.int .i64 0, .int .i64 0, .string ⟨#[]⟩] 28 (0, 0)) by rw [hw6]; exact blk_far K2.out HN.out.2.2.1 _)
 have HBs := Aside0.mk (show Below w.heap.size w w6 by rw [hw6]; exact below_set KB.out HN.out.2.1)
 rw [← hw6]
 clear hw6 K4 K2 KB
 clear c1 H1d H2d H4d HBd
 unfold value_Decode.fin at h
 rw [if_pos rfl] at h
 obtain ⟨tt, hR, h⟩ := Option.bind_eq_some_iff.1 h
 have HR := Aside0.mk hR
 clear hR
 have z0 := (blk_cell H4s.out 0).trans rfl
 have z1 := (blk_cell H4s.out 1).trans rfl
 have z2 := (blk_cell H4s.out 2).trans rfl
 go_wp2_with fail
 refine (value_right.calls k a0_0 0 a0_1 tt w6 (HGl.out.below HBs.out) HR.out).mono ?_
 rintro e w7 ⟨rfl, hb7⟩
 clear z0 z1 z2
 have H2r := Aside0.mk ((Mv.of_below (S := fun _ => False) hb7).heap H2s.out id)
 have H4r := Aside0.mk ((Mv.of_below (S := fun _ => False) hb7).heap H4s.out id)
 have HBr := Aside0.mk (Below.trans HBs.out (Below.mono hb7 HBs.out.size))
 clear hb7 H2s H4s HBs
 have x0 := (blk_cell H2r.out 0).trans rfl
 have x1 := (blk_cell H2r.out 1).trans rfl
 have x2 := (blk_cell H2r.out 2).trans rfl
 have y0 := blk_frozen H2r.out 0
 have y1 := blk_frozen H2r.out 1
 have y2 := blk_frozen H2r.out 2
 have z0 := (blk_cell H4r.out 0).trans rfl
 have z1 := (blk_cell H4r.out 1).trans rfl
 have z2 := (blk_cell H4r.out 2).trans rfl
 cases tt with
 | true =>
  rw [if_pos rfl] at h
  simp only [Option.some.injEq, Prod.mk.injEq] at h
  obtain ⟨rfl, rfl, rfl, rfl⟩ := h
  go_wp2
  refine bodyPost_ret (results_ct rfl _ _ b2 28 #[.int .i64 a0_0, .int .i64 0, .string a0_1] (0, 0) _ rfl (by
   refine blk_put (cs := #[.int .i64 a0_0, .int .i64 0, .string ⟨#[]⟩]) ?_ 2 _ rfl
   refine blk_put (cs := #[.int .i64 a0_0, .int .i64 0, .string ⟨#[]⟩]) ?_ 1 _ rfl
   refine blk_put (cs := #[.int .i64 0, .int .i64 0, .string ⟨#[]⟩]) ?_ 0 _ rfl
   exact H2r.out) Tryz.underlying28 rfl (by kernel_rfl)) rfl ?_
  exact ⟨rfl, below_set (below_set (below_set HBr.out HN.out.1) HN.out.1) HN.out.1⟩
 | false =>
  rw [if_neg (by simp)] at h
  simp only [Option.some.injEq, Prod.mk.injEq] at h
  obtain ⟨rfl, rfl, rfl, rfl⟩ := h
  go_wp2
  refine bodyPost_ret (results_ct rfl _ _ b2 28 #[.int .i64 0, .int .i64 0, .string ⟨#[]⟩] (0, 0) _ rfl (by
   refine blk_put (cs := #[.int .i64 0, .int .i64 0, .string ⟨#[]⟩]) ?_ 2 _ rfl
   refine blk_put (cs := #[.int .i64 0, .int .i64 0, .string ⟨#[]⟩]) ?_ 1 _ rfl
   refine blk_put (cs := #[.int .i64 0, .int .i64 0, .string ⟨#[]⟩]) ?_ 0 _ rfl
   exact H2r.out) Tryz.underlying28 rfl (by kernel_rfl)) rfl ?_
  exact ⟨rfl, below_set (below_set (below_set HBr.out HN.out.1) HN.out.1) HN.out.1⟩
end Go.Proofs.YtfgdnnbhlnbojaaGreatDoor.XPdR
