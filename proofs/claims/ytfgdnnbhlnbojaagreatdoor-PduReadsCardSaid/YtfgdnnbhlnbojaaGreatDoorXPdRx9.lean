-- Laid by extprint.py (the session's own driver): functions told by the kit's printer and by hand.
import Derived.Test.YtfgdnnbhlnbojaaGreatDoorXPdRx0
import Derived.Test.YtfgdnnbhlnbojaaGreatDoorXPdRx5
import Derived.Test.YtfgdnnbhlnbojaaGreatDoorXPdRx7
import Derived.Test.YtfgdnnbhlnbojaaGreatDoorXPdRx8
namespace Go.Proofs.YtfgdnnbhlnbojaaGreatDoor.XPdR
open Go.RowKit Gong Go.Proofs.YtfgdnnbhlnbojaaGreatDoorW.PrintWords Go.Proofs.YtfgdnnbhlnbojaaGreatDoorW.PrintLast Go.Proofs.YtfgdnnbhlnbojaaGreatDoorW.PrintMore
attribute [local go_sem] max2_int min2_int max_two min_two max_three min_three max_four min_four   -- for this text's walks alone
set_option linter.unusedVariables false
set_option linter.unusedSimpArgs false
def octet_Reader_Refuse.f (s0_0 : ByteArray) (s0_1 : Int) (a1 : Int) : Option (ByteArray × Int) := if s0_1 = 0 then (some (s0_0, a1)) else (some (s0_0, s0_1))
set_option maxHeartbeats 8000000 in
set_option maxRecDepth 100000 in
theorem octet_Reader_Refuse.calls (g : Nat) (s0_0 : ByteArray) (s0_1 : Int) (a1 : Int) (r1 : ByteArray) (r2 : Int) (w0 w : World) (hI : IsS141 w0 w g s0_0 s0_1) (hB : Below w0.heap.size w0 w) (h : octet_Reader_Refuse.f s0_0 s0_1 a1 = some (r1, r2)) :
  Calls Tryz.prog 105 #[.pointer (some ⟨g, 0, none⟩), .int .i64 a1] w fun e w' => e = .returned (.tuple #[]) ∧ IsS141 w0 w' g r1 r2 ∧ Below w0.heap.size w0 w' ∧ KeepBut w w' g none := by
 have HI0 := Aside0.mk hI
 have HK := Aside0.mk (KeepBut.refl w g none)
 have HL := Aside0.mk hB.size
 clear hI
 have HW0 := Aside0.mk hB.size
 have HB := Aside0.mk hB
 clear hB
 have H : (if s0_1 = 0 then (some (s0_0, a1)) else (some (s0_0, s0_1))) = some (r1, r2) := h
 clear h
 by_cases c3 : s0_1 = 0
 rotate_left
 ·rw [if_neg c3] at H
  have c3b0 : (s0_1 == 0) = false := beq_eq_false_iff_ne.mpr c3
  have c3b1 : (s0_1 != 0) = true := bne_iff_ne.mpr c3
  simp only [Option.some.injEq, Prod.mk.injEq] at H
  obtain ⟨rfl, rfl⟩ := H
  obtain ⟨HGz5, hgz5⟩ := HI0.out
  have hcz5_0 := cellS141_0 HGz5
  have hcz5_1 := cellS141_1 HGz5
  have hfz5_0 := blk_frozen HGz5 0
  have hfz5_1 := blk_frozen HGz5 1
  clear HGz5 hgz5
  go_enter Tryz.func105, Tryz.ntmps105
  go_wp2
  first | go_end0 | ((try simp only [Exit.inBlock, Exit.then]); refine bodyPost_ret (results_none rfl _ _ _) rfl ?_)
  exact ⟨Zy41, Zy19, Zy21, Zy34⟩
 rw [if_pos c3] at H
 have c3b0 : (s0_1 == 0) = true := beq_iff_eq.mpr c3
 have c3b1 : (s0_1 != 0) = false := bne_eq_false_iff_eq.mpr c3
 clear c3
 simp only [Option.some.injEq, Prod.mk.injEq] at H
 obtain ⟨rfl, rfl⟩ := H
 obtain ⟨HGz4, hgz4⟩ := HI0.out
 have hcz4_0 := cellS141_0 HGz4
 have hcz4_1 := cellS141_1 HGz4
 have hfz4_0 := blk_frozen HGz4 0
 have hfz4_1 := blk_frozen HGz4 1
 clear HGz4 hgz4
 go_enter Tryz.func105, Tryz.ntmps105
 go_wp2
 first | go_end0 | ((try simp only [Exit.inBlock, Exit.then]); refine bodyPost_ret (results_none rfl _ _ _) rfl ?_)
 exact ⟨Zy41, Zy19, Zy21, Zy34⟩
def octet_Reader_Bytes.f (s0_0 : ByteArray) (s0_1 : Int) (a1 : Int) : Option (ByteArray × ByteArray × Int) := if s0_1 = 0 then (if a1 < 0 then ((octet_Reader_Refuse.f s0_0 s0_1 1).bind fun bt184 => (some ((⟨#[]⟩ : ByteArray), bt184.1, bt184.2))) else (if a1 > (s0_0.size : Int) then ((octet_Reader_Refuse.f s0_0 s0_1 10).bind fun bt186 => (some ((⟨#[]⟩ : ByteArray), bt186.1, bt186.2))) else (if 0 ≤ a1 then (if a1 ≤ (s0_0.size : Int) then (some (s0_0.extract 0 (a1 : Int).toNat, s0_0.extract (a1 : Int).toNat s0_0.size, s0_1)) else (none)) else (none)))) else (some ((⟨#[]⟩ : ByteArray), s0_0, s0_1))
set_option maxHeartbeats 8000000 in
set_option maxRecDepth 100000 in
theorem octet_Reader_Bytes.calls (g : Nat) (s0_0 : ByteArray) (s0_1 : Int) (a1 : Int) (r1 : ByteArray) (r2 : ByteArray) (r3 : Int) (w0 w : World) (hI : IsS141 w0 w g s0_0 s0_1) (hB : Below w0.heap.size w0 w) (h : octet_Reader_Bytes.f s0_0 s0_1 a1 = some (r1, r2, r3)) :
  Calls Tryz.prog 119 #[.pointer (some ⟨g, 0, none⟩), .int .i64 a1] w fun e w' => e = .returned (.string r1) ∧ IsS141 w0 w' g r2 r3 ∧ Below w0.heap.size w0 w' ∧ KeepBut w w' g none := by
 have HI0 := Aside0.mk hI
 have HK := Aside0.mk (KeepBut.refl w g none)
 have HL := Aside0.mk hB.size
 clear hI
 have HW0 := Aside0.mk hB.size
 have HB := Aside0.mk hB
 clear hB
 have H : (if s0_1 = 0 then (if a1 < 0 then ((octet_Reader_Refuse.f s0_0 s0_1 1).bind fun bt184 => (some ((⟨#[]⟩ : ByteArray), bt184.1, bt184.2))) else (if a1 > (s0_0.size : Int) then ((octet_Reader_Refuse.f s0_0 s0_1 10).bind fun bt186 => (some ((⟨#[]⟩ : ByteArray), bt186.1, bt186.2))) else (if 0 ≤ a1 then (if a1 ≤ (s0_0.size : Int) then (some (s0_0.extract 0 (a1 : Int).toNat, s0_0.extract (a1 : Int).toNat s0_0.size, s0_1)) else (none)) else (none)))) else (some ((⟨#[]⟩ : ByteArray), s0_0, s0_1))) = some (r1, r2, r3) := h
 clear h
 by_cases c3 : s0_1 = 0
 rotate_left
 ·rw [if_neg c3] at H
  have c3b0 : (s0_1 == 0) = false := beq_eq_false_iff_ne.mpr c3
  have c3b1 : (s0_1 != 0) = true := bne_iff_ne.mpr c3
  simp only [Option.some.injEq, Prod.mk.injEq] at H
  obtain ⟨rfl, rfl, rfl⟩ := H
  obtain ⟨HGz17, hgz17⟩ := HI0.out
  have hcz17_0 := cellS141_0 HGz17
  have hcz17_1 := cellS141_1 HGz17
  have hfz17_0 := blk_frozen HGz17 0
  have hfz17_1 := blk_frozen HGz17 1
  clear HGz17 hgz17
  go_enter Tryz.func119, Tryz.ntmps119
  go_wp2
  go_ret
  exact ⟨Zy41, Zy19, Zy21, Zy34⟩
 rw [if_pos c3] at H
 have c3b0 : (s0_1 == 0) = true := beq_iff_eq.mpr c3
 have c3b1 : (s0_1 != 0) = false := bne_eq_false_iff_eq.mpr c3
 clear c3
 by_cases c4 : a1 < 0
 ·rw [if_pos c4] at H
  have c4b0 : decide (a1 < 0) = true := decide_eq_true c4
  clear c4
  replace H := Option.bind_eq_some_iff.mp H
  obtain ⟨⟨t184, t185⟩, A50, H⟩ := H
  replace H : (some ((⟨#[]⟩ : ByteArray), t184, t185)) = some (r1, r2, r3) := H
  have A5 := Aside0.mk A50
  clear A50
  simp only [Option.some.injEq, Prod.mk.injEq] at H
  obtain ⟨rfl, rfl, rfl⟩ := H
  obtain ⟨HGz6, hgz6⟩ := HI0.out
  have hcz6_0 := cellS141_0 HGz6
  have hcz6_1 := cellS141_1 HGz6
  have hfz6_0 := blk_frozen HGz6 0
  have hfz6_1 := blk_frozen HGz6 1
  clear HGz6 hgz6
  go_enter Tryz.func119, Tryz.ntmps119
  go_wp2_with (first | ((with_reducible refine gate_callee (f := 105) rfl ?_); refine goesL_ (some 32) rfl rfl Tryz.func105 (by kernel_rfl) rfl #[.pointer (some ⟨g, 0, none⟩), .int .i64 1] rfl Zq13 ?_; (with_reducible refine (octet_Reader_Refuse.calls g s0_0 s0_1 1 t184 t185 w0 _ ?side1 ?side2 A5.out).mono ?_); (case side1 => repeat (first | (with_reducible first | exact HI0.out | apply IsS141.alloc | apply IsS141.drewN | apply IsS141.drew | apply IsS141.set_0 | apply IsS141.set_1) | exact HI0.out)); (case side2 => repeat (first | (with_reducible first | exact HB.out | apply below_alloc | apply pw_below_drewN | apply below_drew1 | refine below_set ?_ (IsS141.ge HI0.out)) | exact HB.out)); rintro e w7 ⟨rfl, hi, hb, hk⟩; refine ⟨_, rfl, ?_⟩; replace HK := Aside0.mk (KeepBut.trans Zy34 hk (.inl rfl)); replace HI0 := Aside0.mk (hi); replace HB := Aside0.mk (hb); (try clear hb); (try clear hb2); (try clear hk); (try clear hi)))
  go_ret
  exact ⟨Zy41, Zy19, Zy21, Zy34⟩
 rw [if_neg c4] at H
 have c4b0 : decide (a1 < 0) = false := decide_eq_false c4
 clear c4
 by_cases c8 : a1 > (s0_0.size : Int)
 ·rw [if_pos c8] at H
  have c8b0 : decide ((s0_0.size : Int) < a1) = true := decide_eq_true c8
  clear c8
  replace H := Option.bind_eq_some_iff.mp H
  obtain ⟨⟨t186, t187⟩, A90, H⟩ := H
  replace H : (some ((⟨#[]⟩ : ByteArray), t186, t187)) = some (r1, r2, r3) := H
  have A9 := Aside0.mk A90
  clear A90
  simp only [Option.some.injEq, Prod.mk.injEq] at H
  obtain ⟨rfl, rfl, rfl⟩ := H
  obtain ⟨HGz10, hgz10⟩ := HI0.out
  have hcz10_0 := cellS141_0 HGz10
  have hcz10_1 := cellS141_1 HGz10
  have hfz10_0 := blk_frozen HGz10 0
  have hfz10_1 := blk_frozen HGz10 1
  clear HGz10 hgz10
  go_enter Tryz.func119, Tryz.ntmps119
  go_wp2_with (first | ((with_reducible refine gate_callee (f := 105) rfl ?_); refine goesL_ (some 42) rfl rfl Tryz.func105 (by kernel_rfl) rfl #[.pointer (some ⟨g, 0, none⟩), .int .i64 10] rfl Zq13 ?_; (with_reducible refine (octet_Reader_Refuse.calls g s0_0 s0_1 10 t186 t187 w0 _ ?side1 ?side2 A9.out).mono ?_); (case side1 => repeat (first | (with_reducible first | exact HI0.out | apply IsS141.alloc | apply IsS141.drewN | apply IsS141.drew | apply IsS141.set_0 | apply IsS141.set_1) | exact HI0.out)); (case side2 => repeat (first | (with_reducible first | exact HB.out | apply below_alloc | apply pw_below_drewN | apply below_drew1 | refine below_set ?_ (IsS141.ge HI0.out)) | exact HB.out)); rintro e w11 ⟨rfl, hi, hb, hk⟩; refine ⟨_, rfl, ?_⟩; replace HK := Aside0.mk (KeepBut.trans Zy34 hk (.inl rfl)); replace HI0 := Aside0.mk (hi); replace HB := Aside0.mk (hb); (try clear hb); (try clear hb2); (try clear hk); (try clear hi)))
  go_ret
  exact ⟨Zy41, Zy19, Zy21, Zy34⟩
 rw [if_neg c8] at H
 have c8b0 : decide ((s0_0.size : Int) < a1) = false := decide_eq_false c8
 clear c8
 by_cases c12 : 0 ≤ a1
 rotate_left
 ·rw [if_neg c12] at H
  exact absurd H (by simp)
 rw [if_pos c12] at H
 have c12b0 := eq_true c12
 have c12b1 : decide (0 ≤ a1) = true := decide_eq_true c12
 clear c12
 by_cases c13 : a1 ≤ (s0_0.size : Int)
 rotate_left
 ·rw [if_neg c13] at H
  exact absurd H (by simp)
 rw [if_pos c13] at H
 have c13b0 := eq_true c13
 have c13b1 : decide (a1 ≤ (s0_0.size : Int)) = true := decide_eq_true c13
 clear c13
 have c14b0 := eq_true (of_decide_eq_true Zq1 : 0 ≤ a1)
 have c15b0 := eq_true (of_decide_eq_true Zq1 : a1 ≤ (s0_0.size : Int))
 simp only [Option.some.injEq, Prod.mk.injEq] at H
 obtain ⟨rfl, rfl, rfl⟩ := H
 obtain ⟨HGz16, hgz16⟩ := HI0.out
 have hcz16_0 := cellS141_0 HGz16
 have hcz16_1 := cellS141_1 HGz16
 have hfz16_0 := blk_frozen HGz16 0
 have hfz16_1 := blk_frozen HGz16 1
 clear HGz16 hgz16
 go_enter Tryz.func119, Tryz.ntmps119
 go_wp2
 go_ret
 exact ⟨Zy41, Zy19, Zy21, Zy34⟩
def octet_Reader_Wide.code (c a : Int) : Int := if 1 ≤ a ∧ a ≤ 8 then c else codeOr c 1
def octet_Reader_Wide.f (s0_0 : ByteArray) (s0_1 a1 : Int) : Option (Int × ByteArray × Int) :=
 (octet_Reader_Bytes.f s0_0 (octet_Reader_Wide.code s0_1 a1) a1).bind fun t =>
  if beNum t.1.data.toList ≥ 9223372036854775808 then some (0, s0_0, codeOr t.2.2 1) else some (beNum t.1.data.toList, t.2.1, t.2.2)
theorem octet_Reader_Bytes.size (s : ByteArray) (c a : Int) (t1 t2 : ByteArray) (t3 : Int) (h : octet_Reader_Bytes.f s c a = some (t1, t2, t3)) (hc : c = 0 → a ≤ 8) : t1.size ≤ 8 := by
 unfold octet_Reader_Bytes.f at h
 by_cases h0 : c = 0
 ·rw [if_pos h0] at h
  have := hc h0
  by_cases h1 : a < 0
  ·rw [if_pos h1] at h
   obtain ⟨x, _, h⟩ := Option.bind_eq_some_iff.mp h
   simp only [Option.some.injEq, Prod.mk.injEq] at h
   rw [← h.1]; decide
  ·rw [if_neg h1] at h
   by_cases h2 : a > (s.size : Int)
   ·rw [if_pos h2] at h
    obtain ⟨x, _, h⟩ := Option.bind_eq_some_iff.mp h
    simp only [Option.some.injEq, Prod.mk.injEq] at h
    rw [← h.1]; decide
   ·rw [if_neg h2, if_pos (by omega), if_pos (by omega)] at h
    simp only [Option.some.injEq, Prod.mk.injEq] at h
    rw [← h.1, ByteArray.size_extract]; omega
 ·rw [if_neg h0] at h
  simp only [Option.some.injEq, Prod.mk.injEq] at h
  rw [← h.1]; decide
set_option maxHeartbeats 800000 in
set_option maxRecDepth 100000 in
theorem octet_Reader_Wide.calls (g : Nat) (s0_0 : ByteArray) (s0_1 : Int) (a1 : Int) (r1 : Int) (r2 : ByteArray) (r3 : Int) (w0 w : World) (hI : IsS141 w0 w g s0_0 s0_1) (hB : Below w0.heap.size w0 w) (h : octet_Reader_Wide.f s0_0 s0_1 a1 = some (r1, r2, r3)) :
  Calls Tryz.prog 103 #[.pointer (some ⟨g, 0, none⟩), .int .i64 a1] w fun e w' => e = .returned (.int .i64 r1) ∧ IsS141 w0 w' g r2 r3 ∧ Below w0.heap.size w0 w' ∧ KeepBut w w' g none := by
 have HI0 := Aside0.mk hI
 have HK := Aside0.mk (KeepBut.refl w g none)
 have HL := Aside0.mk hB.size
 clear hI
 have HW0 := Aside0.mk hB.size
 have HB := Aside0.mk hB
 clear hB
 have H := Aside0.mk h
 clear h
 obtain ⟨HGz, hgz⟩ := HI0.out
 have hcz_0 := cellS141_0 HGz
 have hcz_1 := cellS141_1 HGz
 have hfz_0 := blk_frozen HGz 0
 have hfz_1 := blk_frozen HGz 1
 clear HGz hgz
 go_enter Tryz.func103, Tryz.ntmps103
 go_upto_region 1 with (fail)
 go_cut [14] (fun v wx => w = wx ∧ ((v = .bool false ∧ 1 ≤ a1 ∧ a1 ≤ 8) ∨ (v = .bool true ∧ ¬ (1 ≤ a1 ∧ a1 ≤ 8))))
 case first =>
  by_cases h1 : a1 < 1
  ·have e : decide (a1 < 1) = true := decide_eq_true h1
   go_wp2
   go_meet
   exact ⟨rfl, by simp; omega⟩
  ·have e : decide (a1 < 1) = false := decide_eq_false h1
   go_wp2
   go_meet
   exact ⟨rfl, by simp; omega⟩
 case rest =>
  obtain ⟨rfl, hv⟩ := hcut
  have HV := Aside0.mk hv
  clear hv
  go_upto_if 14 with (fail)
  go_cut [] (fun wx => Aside0 (IsS141 w0 wx g s0_0 (octet_Reader_Wide.code s0_1 a1)) ∧ Aside0 (Below w0.heap.size w0 wx) ∧ Aside0 (KeepBut w wx g none))
  case first =>
   rcases HV.out with ⟨rfl, h1, h2⟩ | ⟨rfl, h1⟩
   ·go_wp2
    go_meet
    exact ⟨⟨by rw [octet_Reader_Wide.code, if_pos ⟨h1, h2⟩]; exact HI0.out⟩, HB, HK⟩
   ·go_wp2_with (go_at_call 105; refine (octet_Reader_Refuse.calls g s0_0 s0_1 1 s0_0 (octet_Reader_Wide.code s0_1 a1) w0 _ HI0.out HB.out (by unfold octet_Reader_Refuse.f octet_Reader_Wide.code codeOr; rw [if_neg h1]; split <;> rfl)).mono ?_; rintro e w1 ⟨rfl, hi, hb, hk⟩)
    go_meet
    exact ⟨⟨hi⟩, ⟨hb⟩, ⟨hk⟩⟩
  case rest =>
   clear HI0 HB HK HV hcz_0 hcz_1 hfz_0 hfz_1
   rename_i w1
   obtain ⟨HI0, HB, HK⟩ := hcut
   obtain ⟨HGz, hgz⟩ := HI0.out
   have hcz_0 := cellS141_0 HGz
   clear HGz hgz
   have H1 := Option.bind_eq_some_iff.mp H.out
   clear H
   obtain ⟨⟨t1, t2, t3⟩, A0, H⟩ := H1
   have A := Aside0.mk A0
   have H' := Aside0.mk H
   clear A0 H
   have hconv := fun (s : ByteArray) (W : World) => Lib.run_convert_string_bytes (P := Tryz.prog) W 9 53 5 s Tryz.underlying9 Tryz.underlying53 Tryz.underlying5
   go_wp2_with (go_at_call 119; refine (octet_Reader_Bytes.calls g s0_0 _ a1 t1 t2 t3 w0 _ HI0.out HB.out A.out).mono ?_; rintro e w2 ⟨rfl, hi, hb, hk⟩)
   have hcell : ∀ j, j < t1.size → (Lib.bytesWorld w2 5 t1).cell? ⟨w2.heap.size, j, none⟩ = some (.int .u8 (t1.data.toList.getD j 0).toNat) := fun j hj => Lib.bytesWorld_cell w2 5 t1 j hj
   have hbel : Below w2.heap.size w2 (Lib.bytesWorld w2 5 t1) := bytes_below (Below.refl _ _) (Nat.le_refl _) 5 t1
   obtain ⟨w3, hw3⟩ : ∃ w3, w3 = Lib.bytesWorld w2 5 t1 := ⟨_, rfl⟩
   rw [← hw3] at hcell hbel ⊢
   have HCELL := Aside0.mk hcell
   have HI3 := Aside0.mk (IsS141.below hi hbel)
   have HB3 := Aside0.mk (Below.trans hb (Below.mono hbel hb.size))
   have HK3 := Aside0.mk (KeepBut.trans (KeepBut.trans HK.out hk (.inl rfl)) (KeepBut.of_below hbel g none) (.inl rfl))
   clear hw3 hcell hbel hi hb hk HI0 HB HK hconv hcz_0
   have hlen : t1.size ≤ 8 := octet_Reader_Bytes.size _ _ _ _ _ _ A.out (by
    intro h0
    unfold octet_Reader_Wide.code codeOr at h0
    by_cases hr : 1 ≤ a1 ∧ a1 ≤ 8
    ·exact hr.2
    ·rw [if_neg hr] at h0
     split at h0 <;> omega)
   go_loop [6, 26] (fun n i => ∃ k : Nat, k ≤ t1.size ∧ i = .int .i64 k ∧ n = .int .u64 (beNum (t1.data.toList.take k))) (fun _ i => t1.size - (intOf i).toNat)
   case atStart => exact ⟨0, Nat.zero_le _, rfl, rfl⟩
   case round =>
    obtain ⟨k, hk, rfl, rfl⟩ := hrel
    by_cases hlt : k < t1.size
    ·have hc := HCELL.out k hlt
     go_wp2
     go_round
     case rel => 
      refine ⟨k + 1, by omega, by go_num, ?_⟩
      rw [beNum_take _ _ (by simpa using hlt)]
      have e1 := u64_or8 (beNum (t1.data.toList.take k)) t1.data[k] (beNum_lt _).1 (beNum_le _ _ (by omega))
      rw [e1]
      simp [List.getD, hlt]
     case measure => simp [intOf]; omega
    ·obtain rfl : k = t1.size := by omega
     rw [List.take_of_length_le (by simp)]
     have hd : decide ((t1.size : Int) < t1.size) = false := decide_eq_false (by omega)
     clear hk hlt
     obtain ⟨HGz, hgz⟩ := HI3.out
     have hcz_0 := cellS141_0 HGz
     have hcz_1 := cellS141_1 HGz
     have hfz_0 := blk_frozen HGz 0
     have hfz_1 := blk_frozen HGz 1
     clear HGz hgz
     obtain ⟨n, hn⟩ : ∃ n, n = beNum t1.data.toList := ⟨_, rfl⟩
     rw [← hn] at H' ⊢
     by_cases hb : n ≥ 9223372036854775808
     ·have hb1 : decide (9223372036854775808 ≤ n) = true := decide_eq_true hb
      have H1 := H'.out
      rw [if_pos hb] at H1
      clear H' hb hn
      simp only [Option.some.injEq, Prod.mk.injEq] at H1
      obtain ⟨rfl, rfl, rfl⟩ := H1
      go_wp2_with fail
      refine (octet_Reader_Refuse.calls g t2 t3 1 t2 (codeOr t3 1) w0 _ HI3.out HB3.out (by unfold octet_Reader_Refuse.f codeOr; split <;> rfl)).mono ?_
      rintro e w4 ⟨rfl, hi, hb, hk⟩
      have HI4 := Aside0.mk hi
      have HB4 := Aside0.mk hb
      have HK4 := Aside0.mk hk
      clear hcz_0 hcz_1 hfz_0 hfz_1
      obtain ⟨HGz, hgz⟩ := hi
      have hcz_0 := cellS141_0 HGz
      have hfz_0 := blk_frozen HGz 0
      clear HGz hgz hb hk
      go_wp2
      go_ret
      exact ⟨rfl, IsS141.set_0 HI4.out s0_0, below_set HB4.out (IsS141.ge HI4.out), KeepBut.set_ (KeepBut.trans HK3.out HK4.out (.inl rfl)) _ _⟩
     ·have hb1 : decide (9223372036854775808 ≤ n) = false := decide_eq_false hb
      have H1 := H'.out
      rw [if_neg hb] at H1
      have hlo := (beNum_lt t1.data.toList).1
      rw [← hn] at hlo
      clear H' hb hn
      simp only [Option.some.injEq, Prod.mk.injEq] at H1
      obtain ⟨rfl, rfl, rfl⟩ := H1
      have hw : wrap64 n = n := by unfold wrap64; simp at hb1; omega
      go_wp2
      go_ret
      exact ⟨by first | rfl | rw [hw], HI3.out, HB3.out, HK3.out⟩
def ber_length.j0 : Nat → ByteArray → Int → Bool → ByteArray → Int → Option (Int × Int)
 | 0, _, _, _, _, _ => none
 | k + 1, x0, x5, x23, x191000, x191001 => if x23 = true then (some (0, 0)) else ((octet_Reader_Wide.f x191000 x191001 (wrap64 (x5 - 128))).bind fun bt197 => ((octet_Reader_Code.f bt197.2.1 bt197.2.2).bind fun bt200 => (if bt200.1 = 0 then ((octet_Reader_Left.f bt200.2.1 bt200.2.2).bind fun bt203 => (some (bt197.1, wrap64 ((x0.size : Int) - bt203.1)))) else (some (0, 0)))))
def ber_length.f (k : Nat) (a0 : ByteArray) : Option (Int × Int) := (octet_Read.f a0).bind fun bt188 => ((octet_Reader_Wide.f bt188.1 bt188.2 1).bind fun bt191 => (if bt191.1 < 128 then ((octet_Reader_Left.f bt191.2.1 bt191.2.2).bind fun bt194 => (some (bt191.1, wrap64 ((a0.size : Int) - bt194.1)))) else (if bt191.1 = 128 then (ber_length.j0 k a0 bt191.1 true bt191.2.1 bt191.2.2) else (ber_length.j0 k a0 bt191.1 (decide (bt191.1 > 132)) bt191.2.1 bt191.2.2))))
theorem ber_length.mono_l : ∀ k, (∀ y0 y1 y2 y3 y4, LeO (ber_length.j0 k y0 y1 y2 y3 y4) (ber_length.j0 (k + 1) y0 y1 y2 y3 y4))
 | 0 => fun _ _ _ _ _ r h => by simp [ber_length.j0] at h
 | k + 1 => by
  have ih0 := ber_length.mono_l k
  ·intro y0 y1 y2 y3 y4
   unfold ber_length.j0
   repeat' first
   | (with_reducible exact ih0 _ _ _ _ _)
   | (with_reducible exact LeO.refl _)
   | (with_reducible exact LeO.none _)
   | (with_reducible refine LeO.ite ?_ ?_)
   | (with_reducible refine LeO.bind ?_ (fun _ => ?_))
   | exact ih0 _ _ _ _ _
   | exact LeO.none _
   | refine LeO.ite ?_ ?_
   | refine LeO.bind ?_ (fun _ => ?_)
theorem ber_length.mono : ∀ a0 k, LeO (ber_length.f k a0) (ber_length.f (k + 1) a0) := by
 intro a0 k
 have ih0 := ber_length.mono_l k
 unfold ber_length.f
 repeat' first
   | (with_reducible exact ih0 _ _ _ _ _)
   | (with_reducible exact LeO.refl _)
   | (with_reducible exact LeO.none _)
   | (with_reducible refine LeO.ite ?_ ?_)
   | (with_reducible refine LeO.bind ?_ (fun _ => ?_))
   | exact ih0 _ _ _ _ _
   | exact LeO.none _
   | refine LeO.ite ?_ ?_
   | refine LeO.bind ?_ (fun _ => ?_)
set_option maxHeartbeats 8000000 in
set_option maxRecDepth 100000 in
theorem ber_length.calls (k : Nat) (a0 : ByteArray) (r1 : Int) (r2 : Int) (w : World) (h : ber_length.f k a0 = some (r1, r2)) :
  Calls Tryz.prog 79 #[.string a0] w fun e w' => e = .returned (.tuple #[.int .i64 r1, .int .i64 r2]) ∧ Below w.heap.size w w' := by
 have HB := Aside0.mk (Below.refl w.heap.size w)
 have H : ((octet_Read.f a0).bind fun bt188 => ((octet_Reader_Wide.f bt188.1 bt188.2 1).bind fun bt191 => (if bt191.1 < 128 then ((octet_Reader_Left.f bt191.2.1 bt191.2.2).bind fun bt194 => (some (bt191.1, wrap64 ((a0.size : Int) - bt194.1)))) else (if bt191.1 = 128 then (ber_length.j0 k a0 bt191.1 true bt191.2.1 bt191.2.2) else (ber_length.j0 k a0 bt191.1 (decide (bt191.1 > 132)) bt191.2.1 bt191.2.2))))) = some (r1, r2) := h
 clear h
 replace H := Option.bind_eq_some_iff.mp H
 obtain ⟨⟨t188, t189⟩, A20, H⟩ := H
 replace H : ((octet_Reader_Wide.f t188 t189 1).bind fun bt191 => (if bt191.1 < 128 then ((octet_Reader_Left.f bt191.2.1 bt191.2.2).bind fun bt194 => (some (bt191.1, wrap64 ((a0.size : Int) - bt194.1)))) else (if bt191.1 = 128 then (ber_length.j0 k a0 bt191.1 true bt191.2.1 bt191.2.2) else (ber_length.j0 k a0 bt191.1 (decide (bt191.1 > 132)) bt191.2.1 bt191.2.2)))) = some (r1, r2) := H
 have A2 := Aside0.mk A20
 clear A20
 replace H := Option.bind_eq_some_iff.mp H
 obtain ⟨⟨t191, t192, t193⟩, A30, H⟩ := H
 replace H : (if t191 < 128 then ((octet_Reader_Left.f t192 t193).bind fun bt194 => (some (t191, wrap64 ((a0.size : Int) - bt194.1)))) else (if t191 = 128 then (ber_length.j0 k a0 t191 true t192 t193) else (ber_length.j0 k a0 t191 (decide (t191 > 132)) t192 t193))) = some (r1, r2) := H
 have A3 := Aside0.mk A30
 clear A30
 by_cases c4 : t191 < 128
 ·rw [if_pos c4] at H
  have c4b0 : decide (t191 < 128) = true := decide_eq_true c4
  clear c4
  replace H := Option.bind_eq_some_iff.mp H
  obtain ⟨⟨t194, t195, t196⟩, A50, H⟩ := H
  replace H : (some (t191, wrap64 ((a0.size : Int) - t194))) = some (r1, r2) := H
  have A5 := Aside0.mk A50
  clear A50
  simp only [Option.some.injEq, Prod.mk.injEq] at H
  obtain ⟨rfl, rfl⟩ := H
  go_enter Tryz.func79, Tryz.ntmps79
  go_wp2_with (first | ((with_reducible refine gate_callee (f := 80) rfl ?_); refine goesL_ (some 7) rfl rfl Tryz.func80 (by kernel_rfl) rfl #[.string a0] rfl Zq13 ?_; (with_reducible refine (octet_Read.calls a0 t188 t189 w _ ?side1 A2.out).mono ?_); (case side1 => exact Zq12); rintro e w6 ⟨g190, rfl, hi, hb, hb2⟩; refine ⟨_, rfl, ?_⟩; have HI190 := Aside0.mk (hi); replace HB := Aside0.mk (hb); (try clear hb); (try clear hb2); (try clear hk); (try clear hi)) | ((with_reducible refine gate_callee (f := 103) rfl ?_); refine goesL_ (some 9) rfl rfl Tryz.func103 (by kernel_rfl) rfl #[.pointer (some ⟨g190, 0, none⟩), .int .i64 1] rfl Zq13 ?_; (with_reducible refine (octet_Reader_Wide.calls g190 t188 t189 1 t191 t192 t193 w _ ?side1 ?side2 A3.out).mono ?_); (case side1 => exact Zq35); (case side2 => exact Zq33); rintro e w7 ⟨rfl, hi, hb, hk⟩; refine ⟨_, rfl, ?_⟩; replace HI190 := Aside0.mk (hi); replace HB := Aside0.mk (hb); (try clear hb); (try clear hb2); (try clear hk); (try clear hi)) | ((with_reducible refine gate_callee (f := 83) rfl ?_); refine goesL_ (some 16) rfl rfl Tryz.func83 (by kernel_rfl) rfl #[.pointer (some ⟨g190, 0, none⟩)] rfl Zq13 ?_; (with_reducible refine (octet_Reader_Left.calls g190 t192 t193 t194 t195 t196 w _ ?side1 ?side2 A5.out).mono ?_); (case side1 => exact Zq35); (case side2 => exact Zq33); rintro e w8 ⟨rfl, hi, hb, hk⟩; refine ⟨_, rfl, ?_⟩; replace HI190 := Aside0.mk (hi); replace HB := Aside0.mk (hb); (try clear hb); (try clear hb2); (try clear hk); (try clear hi)))
  go_ret2
  exact ⟨Zy41, Zy18⟩
 rw [if_neg c4] at H
 have c4b0 : decide (t191 < 128) = false := decide_eq_false c4
 clear c4
 have HC9 := Aside0.mk H
 clear H
 go_enter Tryz.func79, Tryz.ntmps79
 go_upto_region 5 with (first | ((with_reducible refine gate_callee (f := 80) rfl ?_); refine goesL_ (some 7) rfl rfl Tryz.func80 (by kernel_rfl) rfl #[.string a0] rfl Zq13 ?_; (with_reducible refine (octet_Read.calls a0 t188 t189 w _ ?side1 A2.out).mono ?_); (case side1 => exact Zq12); rintro e w10 ⟨g190, rfl, hi, hb, hb2⟩; refine ⟨_, rfl, ?_⟩; have HI190 := Aside0.mk (hi); replace HB := Aside0.mk (hb); (try clear hb); (try clear hb2); (try clear hk); (try clear hi)) | ((with_reducible refine gate_callee (f := 103) rfl ?_); refine goesL_ (some 9) rfl rfl Tryz.func103 (by kernel_rfl) rfl #[.pointer (some ⟨g190, 0, none⟩), .int .i64 1] rfl Zq13 ?_; (with_reducible refine (octet_Reader_Wide.calls g190 t188 t189 1 t191 t192 t193 w _ ?side1 ?side2 A3.out).mono ?_); (case side1 => exact Zq35); (case side2 => exact Zq33); rintro e w11 ⟨rfl, hi, hb, hk⟩; refine ⟨_, rfl, ?_⟩; replace HI190 := Aside0.mk (hi); replace HB := Aside0.mk (hb); (try clear hb); (try clear hb2); (try clear hk); (try clear hi)))
 (try simp only [Act.put, List.setIfInBounds_toArray, List.set_cons_zero, List.set_cons_succ])
 go_cut [23] (fun v23 wc => ∃ (kq : Nat) (x23_8 : Bool), v23 = .bool x23_8 ∧ Aside0 (ber_length.j0 kq a0 t191 x23_8 t192 t193 = some (r1, r2)) ∧ Aside0 (kq ≤ k) ∧ Aside0 (IsS141 w wc g190 t192 t193) ∧ Aside0 (Below w.heap.size w wc))
 case first =>
  have H := HC9.out
  clear HC9
  by_cases c12 : t191 = 128
  ·rw [if_pos c12] at H
   have c12b0 : (t191 == 128) = true := beq_iff_eq.mpr c12
   have c12b1 : (t191 != 128) = false := bne_eq_false_iff_eq.mpr c12
   clear c12
   (first | rw [c12b0] | (simp only [i64_w, i32_w]; rw [c12b0]) | skip)
   have H' := Aside0.mk H
   clear H
   go_wp2
   go_meet
   case rel => exact ⟨_, (true), Zq11, H', ⟨Zy61⟩, ⟨Zy16⟩, ⟨Zy18⟩⟩
  ·rw [if_neg c12] at H
   have c12b0 : (t191 == 128) = false := beq_eq_false_iff_ne.mpr c12
   have c12b1 : (t191 != 128) = true := bne_iff_ne.mpr c12
   (first | rw [c12b0] | (simp only [i64_w, i32_w]; rw [c12b0]) | skip)
   have H' := Aside0.mk H
   clear H
   go_wp2
   go_meet
   case rel => exact ⟨_, (decide (t191 > 132)), Zq11, H', ⟨Zy61⟩, ⟨Zy16⟩, ⟨Zy18⟩⟩
 case rest =>
  clear HC9
  (try clear c1); (try clear p2); (try clear c4); (try clear c4b0); (try clear p6); (try clear c7); (try clear c8); (try clear c10); (try clear c12); (try clear c12b0); (try clear c12b1)
  obtain ⟨kq, x23_8, rfl, HA, HJ8, HI190, HB⟩ := hcut
  cases kq with
  | zero => exact absurd HA.out (by simp [ber_length.j0])
  | succ kj8 =>
   have H := HA.out
   clear HA
   simp only [ber_length.j0] at H
   by_cases c13 : x23_8 = true
   ·subst c13
    have H1 : (some (0, 0)) = some (r1, r2) := by rw [if_pos rfl] at H; exact H
    clear H
    have H := H1
    clear H1
    simp only [Option.some.injEq, Prod.mk.injEq] at H
    obtain ⟨rfl, rfl⟩ := H
    go_wp2
    go_ret2
    exact ⟨Zy41, Zy18⟩
   ·replace c13 := Bool.eq_false_iff.mpr c13
    subst c13
    have H1 : ((octet_Reader_Wide.f t192 t193 (wrap64 (t191 - 128))).bind fun bt197 => ((octet_Reader_Code.f bt197.2.1 bt197.2.2).bind fun bt200 => (if bt200.1 = 0 then ((octet_Reader_Left.f bt200.2.1 bt200.2.2).bind fun bt203 => (some (bt197.1, wrap64 ((a0.size : Int) - bt203.1)))) else (some (0, 0))))) = some (r1, r2) := by rw [if_neg (show ¬ (false = true) by decide)] at H; exact H
    clear H
    have H := H1
    clear H1
    replace H := Option.bind_eq_some_iff.mp H
    obtain ⟨⟨t197, t198, t199⟩, A140, H⟩ := H
    replace H : ((octet_Reader_Code.f t198 t199).bind fun bt200 => (if bt200.1 = 0 then ((octet_Reader_Left.f bt200.2.1 bt200.2.2).bind fun bt203 => (some (t197, wrap64 ((a0.size : Int) - bt203.1)))) else (some (0, 0)))) = some (r1, r2) := H
    have A14 := Aside0.mk A140
    clear A140
    replace H := Option.bind_eq_some_iff.mp H
    obtain ⟨⟨t200, t201, t202⟩, A150, H⟩ := H
    replace H : (if t200 = 0 then ((octet_Reader_Left.f t201 t202).bind fun bt203 => (some (t197, wrap64 ((a0.size : Int) - bt203.1)))) else (some (0, 0))) = some (r1, r2) := H
    have A15 := Aside0.mk A150
    clear A150
    by_cases c16 : t200 = 0
    ·rw [if_pos c16] at H
     have c16b0 : (t200 == 0) = true := beq_iff_eq.mpr c16
     have c16b1 : (t200 != 0) = false := bne_eq_false_iff_eq.mpr c16
     clear c16
     replace H := Option.bind_eq_some_iff.mp H
     obtain ⟨⟨t203, t204, t205⟩, A170, H⟩ := H
     replace H : (some (t197, wrap64 ((a0.size : Int) - t203))) = some (r1, r2) := H
     have A17 := Aside0.mk A170
     clear A170
     simp only [Option.some.injEq, Prod.mk.injEq] at H
     obtain ⟨rfl, rfl⟩ := H
     go_wp2_with (first | ((with_reducible refine gate_callee (f := 103) rfl ?_); refine goesL_ (some 27) rfl rfl Tryz.func103 (by kernel_rfl) rfl #[.pointer (some ⟨g190, 0, none⟩), .int .i64 (wrap64 (t191 - 128))] rfl Zq13 ?_; (with_reducible refine (octet_Reader_Wide.calls g190 t192 t193 (wrap64 (t191 - 128)) t197 t198 t199 w _ ?side1 ?side2 A14.out).mono ?_); (case side1 => exact Zq35); (case side2 => exact Zq33); rintro e w18 ⟨rfl, hi, hb, hk⟩; refine ⟨_, rfl, ?_⟩; replace HI190 := Aside0.mk (hi); replace HB := Aside0.mk (hb); (try clear hb); (try clear hb2); (try clear hk); (try clear hi)) | ((with_reducible refine gate_callee (f := 82) rfl ?_); refine goesL_ (some 29) rfl rfl Tryz.func82 (by kernel_rfl) rfl #[.pointer (some ⟨g190, 0, none⟩)] rfl Zq13 ?_; (with_reducible refine (octet_Reader_Code.calls g190 t198 t199 t200 t201 t202 w _ ?side1 ?side2 A15.out).mono ?_); (case side1 => exact Zq35); (case side2 => exact Zq33); rintro e w19 ⟨rfl, hi, hb, hk⟩; refine ⟨_, rfl, ?_⟩; replace HI190 := Aside0.mk (hi); replace HB := Aside0.mk (hb); (try clear hb); (try clear hb2); (try clear hk); (try clear hi)) | ((with_reducible refine gate_callee (f := 83) rfl ?_); refine goesL_ (some 35) rfl rfl Tryz.func83 (by kernel_rfl) rfl #[.pointer (some ⟨g190, 0, none⟩)] rfl Zq13 ?_; (with_reducible refine (octet_Reader_Left.calls g190 t201 t202 t203 t204 t205 w _ ?side1 ?side2 A17.out).mono ?_); (case side1 => exact Zq35); (case side2 => exact Zq33); rintro e w20 ⟨rfl, hi, hb, hk⟩; refine ⟨_, rfl, ?_⟩; replace HI190 := Aside0.mk (hi); replace HB := Aside0.mk (hb); (try clear hb); (try clear hb2); (try clear hk); (try clear hi)))
     go_ret2
     exact ⟨Zy41, Zy18⟩
    ·rw [if_neg c16] at H
     have c16b0 : (t200 == 0) = false := beq_eq_false_iff_ne.mpr c16
     have c16b1 : (t200 != 0) = true := bne_iff_ne.mpr c16
     simp only [Option.some.injEq, Prod.mk.injEq] at H
     obtain ⟨rfl, rfl⟩ := H
     go_wp2_with (first | ((with_reducible refine gate_callee (f := 103) rfl ?_); refine goesL_ (some 27) rfl rfl Tryz.func103 (by kernel_rfl) rfl #[.pointer (some ⟨g190, 0, none⟩), .int .i64 (wrap64 (t191 - 128))] rfl Zq13 ?_; (with_reducible refine (octet_Reader_Wide.calls g190 t192 t193 (wrap64 (t191 - 128)) t197 t198 t199 w _ ?side1 ?side2 A14.out).mono ?_); (case side1 => exact Zq35); (case side2 => exact Zq33); rintro e w21 ⟨rfl, hi, hb, hk⟩; refine ⟨_, rfl, ?_⟩; replace HI190 := Aside0.mk (hi); replace HB := Aside0.mk (hb); (try clear hb); (try clear hb2); (try clear hk); (try clear hi)) | ((with_reducible refine gate_callee (f := 82) rfl ?_); refine goesL_ (some 29) rfl rfl Tryz.func82 (by kernel_rfl) rfl #[.pointer (some ⟨g190, 0, none⟩)] rfl Zq13 ?_; (with_reducible refine (octet_Reader_Code.calls g190 t198 t199 t200 t201 t202 w _ ?side1 ?side2 A15.out).mono ?_); (case side1 => exact Zq35); (case side2 => exact Zq33); rintro e w22 ⟨rfl, hi, hb, hk⟩; refine ⟨_, rfl, ?_⟩; replace HI190 := Aside0.mk (hi); replace HB := Aside0.mk (hb); (try clear hb); (try clear hb2); (try clear hk); (try clear hi)))
     go_ret2
     exact ⟨Zy41, Zy18⟩
def ber_Next.f (k : Nat) (a0 : ByteArray) : Option (Int × ByteArray × ByteArray × Int) :=
 if a0.size = 0 then some (0, ⟨#[]⟩, ⟨#[]⟩, 50) else
  (ber_isTag.f (bt a0 0)).bind fun t => if t = false then some (0, ⟨#[]⟩, ⟨#[]⟩, 50) else
   (ber_length.f k (a0.extract 1 a0.size)).bind fun q =>
    if 0 ≤ q.2 ∧ 1 + q.2 ≤ (a0.size : Int) ∧ q.2 < 140737488355328 then
     if q.2 = 0 then some (0, ⟨#[]⟩, ⟨#[]⟩, 50) else
     if ((a0.size - (1 + q.2).toNat : Nat) : Int) < q.1 then some (0, ⟨#[]⟩, ⟨#[]⟩, 50) else
     if 0 ≤ q.1 then some (bt a0 0, (a0.extract (1 + q.2).toNat a0.size).extract 0 q.1.toNat, (a0.extract (1 + q.2).toNat a0.size).extract q.1.toNat (a0.size - (1 + q.2).toNat), 0) else none
    else none
theorem ber_Next.mono : ∀ a0 k, LeO (ber_Next.f k a0) (ber_Next.f (k + 1) a0) := by
 intro a0 k
 unfold ber_Next.f
 refine LeO.ite (LeO.refl _) (LeO.bind (LeO.refl _) (fun _ => LeO.ite (LeO.refl _) (LeO.bind (ber_length.mono _ _) (fun _ => LeO.refl _))))
set_option maxHeartbeats 1600000 in
set_option maxRecDepth 100000 in
theorem ber_Next.calls (k : Nat) (a0 : ByteArray) (r1 : Int) (r2 r3 : ByteArray) (r4 : Int) (w : World) (h : ber_Next.f k a0 = some (r1, r2, r3, r4)) :
  Calls Tryz.prog 54 #[.string a0] w fun e w' => e = .returned (.tuple #[.agg #[.int .i64 r1, .string r2], .string r3, .int .i64 r4]) ∧ Below w.heap.size w w' := by
 have hu := Tryz.underlying47
 unfold ber_Next.f at h
 go_enter Tryz.func54, Tryz.ntmps54
 go_upto_region 1 with (fail)
 have HB := Aside0.mk (below_alloc (Below.refl w.heap.size w) (.cells #[.int .i64 0, .string ⟨#[]⟩] 47))
 have hblk : (w.alloc (.cells #[.int .i64 0, .string ⟨#[]⟩] 47)).heap[w.heap.size]? = some (.cells #[.int .i64 0, .string ⟨#[]⟩] 47 (0, 0)) := by simpa using heap_alloc_new w _
 have HK := Aside0.mk hblk
 clear hblk
 obtain ⟨w1, hw1⟩ : ∃ w1, w1 = w.alloc (.cells #[.int .i64 0, .string ⟨#[]⟩] 47) := ⟨_, rfl⟩
 rw [← hw1] at HB HK ⊢
 clear hw1
 obtain ⟨g, hg⟩ : ∃ g, g = w.heap.size := ⟨_, rfl⟩
 have GE := Aside0.mk (Nat.le_of_eq hg.symm)
 rw [← hg] at HK ⊢
 clear hg
 by_cases h0 : a0.size = 0
 ·rw [if_pos h0] at h
  simp only [Option.some.injEq, Prod.mk.injEq] at h
  obtain ⟨rfl, rfl, rfl, rfl⟩ := h
  obtain rfl := size_zero h0
  clear h0
  have hc0 := blk_cell HK.out 0
  have hc1 := blk_cell HK.out 1
  obtain ⟨hf0, hf1⟩ := frozen2_ HK.out
  go_wp2
  refine bodyPost_ret (results_ctt rfl _ _ g 47 #[.int .i64 0, .string ⟨#[]⟩] (0, 0) _ rfl (blk_put (blk_put HK.out 0 _ rfl) 1 _ rfl) Tryz.underlying47 rfl (by kernel_rfl)) rfl ?_
  exact ⟨rfl, below_set (below_set HB.out GE.out) GE.out⟩
 rw [if_neg h0] at h
 obtain ⟨t, A0, h⟩ := Option.bind_eq_some_iff.mp h
 have A := Aside0.mk A0
 clear A0
 have e0 : (a0.toList == ([] : List UInt8)) = false := toList_ne h0
 have e1 := eq_true (show (0 : Int) < (a0.size : Int) by omega)
 have e2 : ∀ h : 0 < a0.size, ((a0[0]'h).toNat : Int) = bt a0 0 := bt_at a0 0
 have e4 := eq_true (show 0 < a0.size by omega)
 have e5 := bt_range a0 0
 have e3 := eq_true (show 1 ≤ (a0.size : Int) by omega)
 have H := Aside0.mk h
 clear h
 go_wp2_with fail
 (with_reducible refine (ber_isTag.calls (bt a0 0) t _ A.out).mono ?_)
 rintro e w2 ⟨rfl, m, rfl⟩
 have HK2 := Aside0.mk (blk_drewN HK.out m)
 have HB2 := Aside0.mk (pw_below_drewN HB.out m)
 clear HK HB
 obtain ⟨w2, hw2⟩ : ∃ w2, w2 = w1.drewN m := ⟨_, rfl⟩
 rw [← hw2] at HK2 HB2 ⊢
 clear hw2
 cases t with
 | false =>
  have H1 := H.out
  rw [if_pos rfl] at H1
  simp only [Option.some.injEq, Prod.mk.injEq] at H1
  obtain ⟨rfl, rfl, rfl, rfl⟩ := H1
  have hc0 := blk_cell HK2.out 0
  have hc1 := blk_cell HK2.out 1
  obtain ⟨hf0, hf1⟩ := frozen2_ HK2.out
  go_wp2
  refine bodyPost_ret (results_ctt rfl _ _ g 47 #[.int .i64 0, .string ⟨#[]⟩] (0, 0) _ rfl (blk_put (blk_put HK2.out 0 _ rfl) 1 _ rfl) Tryz.underlying47 rfl (by kernel_rfl)) rfl ?_
  exact ⟨rfl, below_set (below_set HB2.out GE.out) GE.out⟩
 | true =>
  have H1 := H.out
  rw [if_neg (by decide)] at H1
  obtain ⟨⟨n, l⟩, A1, h⟩ := Option.bind_eq_some_iff.mp H1
  have A := Aside0.mk A1
  have H := Aside0.mk h
  clear A1 h H1
  go_wp2_with fail
  (with_reducible refine (ber_length.calls k (a0.extract 1 a0.size) n l _ A.out).mono ?_)
  rintro e w3 ⟨rfl, hb⟩
  have HK3 := Aside0.mk (blk_below HK2.out hb)
  have HB3 := Aside0.mk (Below.trans HB2.out (Below.mono hb HB2.out.size))
  clear HK2 HB2 hb
  have h := H.out
  by_cases hl : 0 ≤ l ∧ 1 + l ≤ (a0.size : Int) ∧ l < 140737488355328
  ·rw [if_pos hl] at h
   have f1 := eq_true (show 0 ≤ 1 + l by omega)
   have f2 := eq_true hl.2.1
   obtain ⟨hl1, hl2, hl3⟩ := hl
   by_cases hz : l = 0
   ·subst hz
    rw [if_pos rfl] at h
    simp only [Option.some.injEq, Prod.mk.injEq] at h
    obtain ⟨rfl, rfl, rfl, rfl⟩ := h
    have hc0 := blk_cell HK3.out 0
    have hc1 := blk_cell HK3.out 1
    obtain ⟨hf0, hf1⟩ := frozen2_ HK3.out
    go_wp2
    refine bodyPost_ret (results_ctt rfl _ _ g 47 #[.int .i64 0, .string ⟨#[]⟩] (0, 0) _ rfl (blk_put (blk_put HK3.out 0 _ rfl) 1 _ rfl) Tryz.underlying47 rfl (by kernel_rfl)) rfl ?_
    exact ⟨rfl, below_set (below_set HB3.out GE.out) GE.out⟩
   ·rw [if_neg hz] at h
    have z1 : (l == 0) = false := beq_eq_false_iff_ne.mpr hz
    clear hz
    by_cases hn : ((a0.size - (1 + l).toNat : Nat) : Int) < n
    ·rw [if_pos hn] at h
     simp only [Option.some.injEq, Prod.mk.injEq] at h
     obtain ⟨rfl, rfl, rfl, rfl⟩ := h
     have z2 : decide (((a0.size - (1 + l).toNat : Nat) : Int) < n) = true := decide_eq_true hn
     clear hn
     have hc0 := blk_cell HK3.out 0
     have hc1 := blk_cell HK3.out 1
     obtain ⟨hf0, hf1⟩ := frozen2_ HK3.out
     go_wp2
     refine bodyPost_ret (results_ctt rfl _ _ g 47 #[.int .i64 0, .string ⟨#[]⟩] (0, 0) _ rfl (blk_put (blk_put HK3.out 0 _ rfl) 1 _ rfl) Tryz.underlying47 rfl (by kernel_rfl)) rfl ?_
     exact ⟨rfl, below_set (below_set HB3.out GE.out) GE.out⟩
    ·rw [if_neg hn] at h
     have z2 : decide (((a0.size - (1 + l).toNat : Nat) : Int) < n) = false := decide_eq_false hn
     have z3 : n ≤ ((a0.size - (1 + l).toNat : Nat) : Int) := by omega
     clear hn
     by_cases hp : 0 ≤ n
     ·rw [if_pos hp] at h
      simp only [Option.some.injEq, Prod.mk.injEq] at h
      obtain ⟨rfl, rfl, rfl, rfl⟩ := h
      have z4 := eq_true hp
      have z5 := eq_true z3
      go_wp2
      have hc0 := blk_cell HK3.out 0
      have hc1 := blk_cell HK3.out 1
      obtain ⟨hf0, hf1⟩ := frozen2_ HK3.out
      go_region
      go_wp2
      refine bodyPost_ret (results_ctt rfl _ _ g 47 #[.int .i64 (bt a0 0), .string ((a0.extract (1 + l).toNat a0.size).extract 0 n.toNat)] (0, 0) _ rfl (by (with_reducible repeat (first | refine blk_drewN ?_ _ | refine blk_drew ?_)); exact blk_put (blk_put HK3.out 0 _ rfl) 1 _ rfl) Tryz.underlying47 rfl (by kernel_rfl)) rfl ?_
      exact ⟨rfl, by repeat (first | exact HB3.out | apply pw_below_drewN | apply below_drew1 | refine below_set ?_ GE.out)⟩
     ·rw [if_neg hp] at h
      exact absurd h (by simp)
  ·rw [if_neg hl] at h
   exact absurd h (by simp)
def ber_Parts.l0 : Nat → ByteArray → List (S47) → Option ((List (S47)) × Int)
 | 0, _, _ => none
 | k + 1, x0, x4 => if x0.toList = ([] : List UInt8) then (some (x4, 0)) else ((ber_Next.f k x0).bind fun bt206 => (if bt206.2.2.2 = 0 then (if (x4.length : Int) = 4096 then (some (([] : List (S47)), 2)) else (if x4.length < 5864062014805 then (ber_Parts.l0 k bt206.2.2.1 (x4 ++ [(⟨bt206.1, bt206.2.1⟩ : S47)])) else (none))) else (some (([] : List (S47)), bt206.2.2.2))))
def ber_Parts.f (k : Nat) (a0 : ByteArray) : Option ((List (S47)) × Int) := ber_Parts.l0 k a0 ([] : List (S47))
theorem ber_Parts.mono_l : ∀ k, (∀ y0 y1, LeO (ber_Parts.l0 k y0 y1) (ber_Parts.l0 (k + 1) y0 y1))
 | 0 => fun _ _ r h => by simp [ber_Parts.l0] at h
 | k + 1 => by
  have ih0 := ber_Parts.mono_l k
  ·intro y0 y1
   unfold ber_Parts.l0
   repeat' first
   | (with_reducible exact ih0 _ _)
   | (with_reducible exact ber_Next.mono _ _)
   | (with_reducible exact LeO.refl _)
   | (with_reducible exact LeO.none _)
   | (with_reducible refine LeO.ite ?_ ?_)
   | (with_reducible refine LeO.bind ?_ (fun _ => ?_))
   | exact ih0 _ _
   | exact ber_Next.mono _ _
   | exact LeO.none _
   | refine LeO.ite ?_ ?_
   | refine LeO.bind ?_ (fun _ => ?_)
theorem ber_Parts.mono : ∀ a0 k, LeO (ber_Parts.f k a0) (ber_Parts.f (k + 1) a0) := by
 intro a0 k
 have ih0 := ber_Parts.mono_l k
 unfold ber_Parts.f
 repeat' first
   | (with_reducible exact ih0 _ _)
   | (with_reducible exact ber_Next.mono _ _)
   | (with_reducible exact LeO.refl _)
   | (with_reducible exact LeO.none _)
   | (with_reducible refine LeO.ite ?_ ?_)
   | (with_reducible refine LeO.bind ?_ (fun _ => ?_))
   | exact ih0 _ _
   | exact ber_Next.mono _ _
   | exact LeO.none _
   | refine LeO.ite ?_ ?_
   | refine LeO.bind ?_ (fun _ => ?_)
set_option maxHeartbeats 8000000 in
set_option maxRecDepth 100000 in
theorem ber_Parts.calls (k : Nat) (a0 : ByteArray) (r1 : List (S47)) (r2 : Int) (w : World) (h : ber_Parts.f k a0 = some (r1, r2)) :
  Calls Tryz.prog 32 #[.string a0] w fun e w' => ∃ v0_ : Value, e = .returned (.tuple #[v0_, .int .i64 r2]) ∧ Kd.R k47 47 w' w.heap.size (fun _ => True) v0_ r1 ∧ Below w.heap.size w w' := by
 have hu47 := Tryz.underlying47
 have HB := Aside0.mk (Below.refl w.heap.size w)
 have H : (ber_Parts.l0 k a0 ([] : List (S47))) = some (r1, r2) := h
 clear h
 have H' := Aside0.mk H
 clear H
 go_enter Tryz.func32, Tryz.ntmps32
 go_wp2
 go_loopg [0, 4] k (fun kq v0 v4 w' => ∃ (x0_1 : ByteArray) (x4_1 : List (S47)), v0 = .string x0_1 ∧ Aside0 (ber_Parts.l0 kq x0_1 x4_1 = some (r1, r2)) ∧ Aside0 (kq ≤ k) ∧ Aside0 (Kd.R k47 47 w' w.heap.size (fun _ => True) v4 x4_1) ∧ Aside0 (Below w.heap.size w w'))
 case atStart => exact ⟨(a0), (([] : List (S47))), Zq11, H', ⟨Nat.le_refl _⟩, ⟨Zy35⟩, ⟨Zy40⟩⟩
 case round =>
  clear H'
  obtain ⟨x0_1, x4_1, rfl, HA, HK1, HO_4, HB⟩ := hrel
  cases gk with
  | zero => exact absurd HA.out (by simp [ber_Parts.l0])
  | succ k1 =>
   have H := HA.out
   clear HA
   simp only [ber_Parts.l0] at H
   by_cases c2 : x0_1.toList = ([] : List UInt8)
   ·rw [if_pos c2] at H
    have c2b0 : (x0_1.toList == ([] : List UInt8)) = true := beq_iff_eq.mpr c2
    have c2b1 : (x0_1.toList != ([] : List UInt8)) = false := bne_eq_false_iff_eq.mpr c2
    clear c2
    simp only [Option.some.injEq, Prod.mk.injEq] at H
    obtain ⟨rfl, rfl⟩ := H
    go_wp2
    go_ret2
    exact ⟨_, Zy55, Zy53, Zy40⟩
   ·rw [if_neg c2] at H
    have c2b0 : (x0_1.toList == ([] : List UInt8)) = false := beq_eq_false_iff_ne.mpr c2
    have c2b1 : (x0_1.toList != ([] : List UInt8)) = true := bne_iff_ne.mpr c2
    replace H := Option.bind_eq_some_iff.mp H
    obtain ⟨⟨t206, t207, t208, t209⟩, A30, H⟩ := H
    replace H : (if t209 = 0 then (if (x4_1.length : Int) = 4096 then (some (([] : List (S47)), 2)) else (if x4_1.length < 5864062014805 then (ber_Parts.l0 k1 t208 (x4_1 ++ [(⟨t206, t207⟩ : S47)])) else (none))) else (some (([] : List (S47)), t209))) = some (r1, r2) := H
    have A3 := Aside0.mk A30
    clear A30
    by_cases c4 : t209 = 0
    ·rw [if_pos c4] at H
     have c4b0 : (t209 == 0) = true := beq_iff_eq.mpr c4
     have c4b1 : (t209 != 0) = false := bne_eq_false_iff_eq.mpr c4
     clear c4
     by_cases c5 : (x4_1.length : Int) = 4096
     ·rw [if_pos c5] at H
      have c5b0 : ((x4_1.length : Int) == 4096) = true := beq_iff_eq.mpr c5
      have c5b1 : ((x4_1.length : Int) != 4096) = false := bne_eq_false_iff_eq.mpr c5
      clear c5
      simp only [Option.some.injEq, Prod.mk.injEq] at H
      obtain ⟨rfl, rfl⟩ := H
      go_wp2_with (first | ((with_reducible refine gate_callee (f := 54) rfl ?_); refine goesL_ (some 12) rfl rfl Tryz.func54 (by kernel_rfl) rfl #[.string x0_1] rfl Zq13 ?_; (with_reducible refine (ber_Next.calls k1 x0_1 t206 t207 t208 t209 _ A3.out).mono ?_); rintro e w6 ⟨rfl, hb⟩; refine ⟨_, rfl, ?_⟩; replace HO_4 := Aside0.mk (Kd.R_below Zq6 hb); replace HB := Aside0.mk (below_step Zq12 hb); (try clear hb); (try clear hb2); (try clear hk); (try clear hi)) | ((with_reducible refine gate_dst (N := 5) rfl ?_); refine box_event ?hg (N := 5) ?hd (cs := #[.int .i64 0, .string (⟨#[]⟩ : ByteArray)]) (t := 47) ?hr ?_; (case hd => rfl); (case hg => rfl); (case hr => exact Zq2); intro gb210 hg w7 hbox hb; have BK210 := Aside0.mk (hbox); have GW210 := Aside0.mk ((by rw [hg]; exact (below_size Zq12) : w.heap.size ≤ gb210)); have GE210 := Aside0.mk ((by rw [hg]; exact (below_size Zq12) : w.heap.size ≤ gb210)); replace HO_4 := Aside0.mk (Kd.R_below (Kd.R_elderB Zq6 gb210 (Nat.le_of_eq hg.symm)) hb); replace HB := Aside0.mk (below_step Zq12 hb); clear hb hbox hg; obtain ⟨hcz8_0, hcz8_1⟩ := cells2_ BK210.out; obtain ⟨hfz8_0, hfz8_1⟩ := frozen2_ BK210.out; obtain ⟨Ao9, co9, eo9⟩ := Kd.R_slice HO_4.out; subst eo9))
      go_ret2
      exact ⟨_, Zy55, Zy35, Zy33⟩
     ·rw [if_neg c5] at H
      have c5b0 : ((x4_1.length : Int) == 4096) = false := beq_eq_false_iff_ne.mpr c5
      have c5b1 : ((x4_1.length : Int) != 4096) = true := bne_iff_ne.mpr c5
      by_cases c10 : x4_1.length < 5864062014805
      ·rw [if_pos c10] at H
       have LMc10 := Aside0.mk c10
       clear c10
       obtain ⟨y211, hy211⟩ : ∃ y_ : List (S47), y_ = (x4_1 ++ [(⟨t206, t207⟩ : S47)]) := ⟨_, rfl⟩
       replace H : (ber_Parts.l0 k1 t208 y211) = some (r1, r2) := by first | (rw [hy211]; with_reducible exact H) | (have H2_ := (Option.bind_some _ _).symm.trans H; rw [hy211]; with_reducible exact H2_) | (have H2_ := (Option.bind_some _ _).symm.trans H; with_reducible exact H2_) | with_reducible exact H | (rw [hy211]; exact H) | exact H
       have Ny211 := Aside0.mk hy211
       clear hy211
       have H' := Aside0.mk H
       clear H
       go_wp2_with (first | ((with_reducible refine gate_callee (f := 54) rfl ?_); refine goesL_ (some 12) rfl rfl Tryz.func54 (by kernel_rfl) rfl #[.string x0_1] rfl Zq13 ?_; (with_reducible refine (ber_Next.calls k1 x0_1 t206 t207 t208 t209 _ A3.out).mono ?_); rintro e w11 ⟨rfl, hb⟩; refine ⟨_, rfl, ?_⟩; replace HO_4 := Aside0.mk (Kd.R_below Zq6 hb); replace HB := Aside0.mk (below_step Zq12 hb); (try clear hb); (try clear hb2); (try clear hk); (try clear hi)) | ((with_reducible refine gate_dst (N := 5) rfl ?_); refine box_event ?hg (N := 5) ?hd (cs := #[.int .i64 0, .string (⟨#[]⟩ : ByteArray)]) (t := 47) ?hr ?_; (case hd => rfl); (case hg => rfl); (case hr => exact Zq2); intro gb210 hg w12 hbox hb; have BK210 := Aside0.mk (hbox); have GW210 := Aside0.mk ((by rw [hg]; exact (below_size Zq12) : w.heap.size ≤ gb210)); have GE210 := Aside0.mk ((by rw [hg]; exact (below_size Zq12) : w.heap.size ≤ gb210)); replace HO_4 := Aside0.mk (Kd.R_below (Kd.R_elderB Zq6 gb210 (Nat.le_of_eq hg.symm)) hb); replace HB := Aside0.mk (below_step Zq12 hb); clear hb hbox hg; obtain ⟨hcz13_0, hcz13_1⟩ := cells2_ BK210.out; obtain ⟨hfz13_0, hfz13_1⟩ := frozen2_ BK210.out; obtain ⟨Ao14, co14, eo14⟩ := Kd.R_slice HO_4.out; subst eo14) | ((with_reducible refine gate_builtin (b := .append) (xs := #[.tmp 24, .tmp 26]) rfl ?_); at_builtin; refine Kd.R_append k47 (w0 := w) w.heap.size rfl (.tmp 24) (.tmp 26) 71 47 (.agg #[(.int .i64 0), (.string ⟨#[]⟩)]) 24 rfl Tryz.underlying71 info47 rfl (by decide) (by omega) (.slice Ao14 x4_1.length co14) x4_1 (⟨t206, t207⟩ : S47) [.int .i64 t206, .string t207] (fun k_ => k_ ≠ gb210) (fun _ => False) rfl Zy60 ?aP (fun _ hk => hk.elim) ?aF ?aO ?aB ?aS ?aL ?_; (case aP => exact k47_mkM _ _ _ (⟨t206, t207⟩ : S47)); (case aB => exact Zy33); (case aF => exact (fun k_ hk => Kd.freshB (g := gb210) (o := .cells #[.int .i64 t206, .string t207] 47 (0, 0)) Zq47 k_ hk)); (case aO => exact (by (with_reducible repeat (first | apply Kd.R_alloc | apply Kd.R_drewN | apply Kd.R_drew)); exact Kd.R_mono (Kd.R_far (p := ⟨gb210, 1, none⟩) (Kd.R_far (p := ⟨gb210, 0, none⟩) (Kd.R_mono HO_4.out (fun k_ hk => (⟨hk, hk.2⟩ : _ ∧ k_ ≠ gb210))) (fun _ hk => hk.2) (.int .i64 t206)) (fun _ hk => hk.2) (.string t207)) (fun _ hk => hk.1.2))); (case aS => exact (below_size Zy33)); (case aL => have := LMc10.out; omega); intro v212 w15 ho hb hg hat; rw [← Ny211.out] at ho; have n0_ := Aside0.mk (blk_grown (g := gb210) (o := .cells #[.int .i64 t206, .string t207] 47 (0, 0)) Zq47 hg (Kd.R_away HO_4.out (fun _ hk => hk.2))); have n1_ := Aside0.mk (hb); have n2_ := Aside0.mk (ho); clear BK210; clear HB; clear HO_4; have BK210 := n0_; have HB := n1_; have HO213 := n2_; clear n0_ n1_ n2_; clear ho hb hg hat))
       go_roundg k1
       case measure => have := HK1.out; omega
       case rel => exact ⟨(t208), (y211), Zq11, H', ⟨by have := HK1.out; omega⟩, ⟨by (with_reducible repeat (first | apply Kd.R_alloc | apply Kd.R_drewN | apply Kd.R_drew)); exact Kd.R_mono HO213.out (fun _ hk => trivial)⟩, ⟨Zy33⟩⟩
      ·rw [if_neg c10] at H
       exact absurd H (by simp)
    ·rw [if_neg c4] at H
     have c4b0 : (t209 == 0) = false := beq_eq_false_iff_ne.mpr c4
     have c4b1 : (t209 != 0) = true := bne_iff_ne.mpr c4
     simp only [Option.some.injEq, Prod.mk.injEq] at H
     obtain ⟨rfl, rfl⟩ := H
     go_wp2_with (first | ((with_reducible refine gate_callee (f := 54) rfl ?_); refine goesL_ (some 12) rfl rfl Tryz.func54 (by kernel_rfl) rfl #[.string x0_1] rfl Zq13 ?_; (with_reducible refine (ber_Next.calls k1 x0_1 t206 t207 t208 t209 _ A3.out).mono ?_); rintro e w16 ⟨rfl, hb⟩; refine ⟨_, rfl, ?_⟩; replace HO_4 := Aside0.mk (Kd.R_below Zq6 hb); replace HB := Aside0.mk (below_step Zq12 hb); (try clear hb); (try clear hb2); (try clear hk); (try clear hi)) | ((with_reducible refine gate_dst (N := 5) rfl ?_); refine box_event ?hg (N := 5) ?hd (cs := #[.int .i64 0, .string (⟨#[]⟩ : ByteArray)]) (t := 47) ?hr ?_; (case hd => rfl); (case hg => rfl); (case hr => exact Zq2); intro gb210 hg w17 hbox hb; have BK210 := Aside0.mk (hbox); have GW210 := Aside0.mk ((by rw [hg]; exact (below_size Zq12) : w.heap.size ≤ gb210)); have GE210 := Aside0.mk ((by rw [hg]; exact (below_size Zq12) : w.heap.size ≤ gb210)); replace HO_4 := Aside0.mk (Kd.R_below (Kd.R_elderB Zq6 gb210 (Nat.le_of_eq hg.symm)) hb); replace HB := Aside0.mk (below_step Zq12 hb); clear hb hbox hg; obtain ⟨hcz18_0, hcz18_1⟩ := cells2_ BK210.out; obtain ⟨hfz18_0, hfz18_1⟩ := frozen2_ BK210.out))
     go_ret2
     exact ⟨_, Zy55, Zy35, Zy33⟩
def ber_Number.f (a0 : ByteArray) : Option (Int × Int) :=
 if 1 ≤ a0.size ∧ a0.size ≤ 8 then (ber_spare.f a0).bind fun sp => if sp = true then some (0, 50) else some (sNum a0.data.toList, 0) else some (0, 50)
set_option maxHeartbeats 1600000 in
set_option maxRecDepth 100000 in
theorem ber_Number.calls (a0 : ByteArray) (r1 r2 : Int) (w : World) (h : ber_Number.f a0 = some (r1, r2)) :
  Calls Tryz.prog 33 #[.string a0] w fun e w' => e = .returned (.tuple #[.int .i64 r1, .int .i64 r2]) ∧ Below w.heap.size w w' := by
 unfold ber_Number.f at h
 by_cases hs : 1 ≤ a0.size ∧ a0.size ≤ 8
 ·rw [if_pos hs] at h
  obtain ⟨hs1, hs2⟩ := hs
  obtain ⟨sp, A0, h⟩ := Option.bind_eq_some_iff.mp h
  have A := Aside0.mk A0
  have H := Aside0.mk h
  clear A0 h
  have e0 : (a0.toList == ([] : List UInt8)) = false := toList_ne (by omega)
  have e2 : ∀ h : 0 < a0.size, ((a0[0]'h).toNat : Int) = bt a0 0 := bt_at a0 0
  have e4 := eq_true (show 0 < a0.size by omega)
  have e5 := bt_range a0 0
  have e3 := eq_true (show 1 ≤ (a0.size : Int) by omega)
  have e1 := eq_true (show (0 : Int) < (a0.size : Int) by omega)
  go_enter Tryz.func33, Tryz.ntmps33
  go_wp2_with fail
  (with_reducible refine (ber_spare.calls a0 sp _ A.out).mono ?_)
  rintro e w2 ⟨rfl, m, rfl⟩
  obtain ⟨w2, hw2⟩ : ∃ w2, w2 = w.drewN m := ⟨_, rfl⟩
  have HB := Aside0.mk (pw_below_drewN (Below.refl w.heap.size w) m)
  rw [← hw2] at HB ⊢
  clear hw2
  cases sp with
  | true =>
   have h := H.out
   rw [if_pos rfl] at h
   simp only [Option.some.injEq, Prod.mk.injEq] at h
   obtain ⟨rfl, rfl⟩ := h
   go_wp2
   go_ret2
   exact ⟨rfl, HB.out⟩
  | false =>
   have h := H.out
   rw [if_neg (by decide)] at h
   simp only [Option.some.injEq, Prod.mk.injEq] at h
   obtain ⟨rfl, rfl⟩ := h
   have hconv := fun (s : ByteArray) (W : World) => Lib.run_convert_string_bytes (P := Tryz.prog) W 9 53 5 s Tryz.underlying9 Tryz.underlying53 Tryz.underlying5
   go_wp2_with fail
   have hcell : ∀ j, j < a0.size - 1 → (Lib.bytesWorld w2 5 (a0.extract 1 a0.size)).cell? ⟨w2.heap.size, j, none⟩ = some (.int .u8 (a0.data.toList.tail.getD j 0).toNat) := fun j hj => by
    have := Lib.bytesWorld_cell w2 5 (a0.extract 1 a0.size) j (by simp [ByteArray.size_extract]; omega)
    rw [extract_tail] at this
    exact this
   have hbel : Below w2.heap.size w2 (Lib.bytesWorld w2 5 (a0.extract 1 a0.size)) := bytes_below (Below.refl _ _) (Nat.le_refl _) 5 _
   obtain ⟨w3, hw3⟩ : ∃ w3, w3 = Lib.bytesWorld w2 5 (a0.extract 1 a0.size) := ⟨_, rfl⟩
   rw [← hw3] at hcell hbel ⊢
   rw [sByte_i8 _ e5.1 e5.2]
   have HCELL := Aside0.mk hcell
   have HB3 := Aside0.mk (Below.trans HB.out (Below.mono hbel HB.out.size))
   clear hw3 hcell hbel hconv HB
   have hb0 : bt a0 0 = ((a0.data.toList.headD 0).toNat : Int) := by rw [← bt_at a0 0 (by simpa using (show 0 < a0.size by omega))]; exact congrArg (fun x : UInt8 => ((x.toNat : Nat) : Int)) (head_get a0 (by omega))
   have HS := Aside0.mk (show sNum a0.data.toList = onto (sByte (bt a0 0)) a0.data.toList.tail by rw [hb0]; rfl)
   clear hb0
   have hl : a0.data.toList.tail.length = a0.size - 1 := by simp
   have HL := Aside0.mk hl
   clear hl
   obtain ⟨T, hT⟩ : ∃ T, T = a0.data.toList.tail := ⟨_, rfl⟩
   rw [← hT] at HCELL HS HL
   clear hT
   obtain ⟨n, hn⟩ : ∃ n, n = a0.size - 1 := ⟨_, rfl⟩
   have hn7 : n ≤ 7 := by omega
   rw [← hn] at HCELL HL ⊢
   clear hn
   go_loop [4, 26] (fun v i => ∃ k : Nat, k ≤ n ∧ i = .int .i64 k ∧ v = .int .i64 (onto (sByte (bt a0 0)) (T.take k))) (fun _ i => n - (intOf i).toNat)
   case atStart => exact ⟨0, Nat.zero_le _, rfl, rfl⟩
   case round =>
    obtain ⟨k, hk, rfl, rfl⟩ := hrel
    by_cases hlt : k < n
    ·have hc := HCELL.out k hlt
     go_wp2
     go_round
     case rel =>
      refine ⟨k + 1, by omega, by go_num, ?_⟩
      have hs := onto_small (bt a0 0) T k e5.1 e5.2 (by omega)
      rw [onto_take _ _ _ (by rw [HL.out]; exact hlt)]
      exact congrArg (Value.int .i64) (i64_or_byte _ _ hs.1 hs.2)
     case measure => simp [intOf]; omega
    ·obtain rfl : k = n := by omega
     rw [List.take_of_length_le (Nat.le_of_eq HL.out), ← HS.out]
     clear hk hlt
     go_wp2
     go_ret2
     exact ⟨rfl, HB3.out⟩
 ·rw [if_neg hs] at h
  simp only [Option.some.injEq, Prod.mk.injEq] at h
  obtain ⟨rfl, rfl⟩ := h
  by_cases h0 : a0.size = 0
  ·obtain rfl := size_zero h0
   clear h0 hs
   go_enter Tryz.func33, Tryz.ntmps33
   go_wp2
   go_ret2
   exact ⟨rfl, Below.refl _ _⟩
  ·have e0 : (a0.toList == ([] : List UInt8)) = false := toList_ne h0
   have e1 : decide (8 < (a0.size : Int)) = true := decide_eq_true (by omega)
   have e2 : decide (8 < a0.size) = true := decide_eq_true (by omega)
   clear h0 hs
   go_enter Tryz.func33, Tryz.ntmps33
   go_wp2
   go_ret2
   exact ⟨rfl, Below.refl _ _⟩
end Go.Proofs.YtfgdnnbhlnbojaaGreatDoor.XPdR
