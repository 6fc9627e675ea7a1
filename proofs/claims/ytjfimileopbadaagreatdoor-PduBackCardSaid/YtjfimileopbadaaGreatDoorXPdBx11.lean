-- Laid by extprint.py (the session's own driver): functions told by the kit's printer and by hand.
import Derived.Test.YtjfimileopbadaaGreatDoorXPdBx0
import Derived.Test.YtjfimileopbadaaGreatDoorXPdBx3
import Derived.Test.YtjfimileopbadaaGreatDoorXPdBx4
import Derived.Test.YtjfimileopbadaaGreatDoorXPdBx8
import Derived.Test.YtjfimileopbadaaGreatDoorXPdBx9
import Derived.Test.YtjfimileopbadaaGreatDoorXPdBx10
namespace Go.Proofs.YtjfimileopbadaaGreatDoor.XPdB
open Go.RowKit Gong Go.Proofs.YtjfimileopbadaaGreatDoorW.PrintWords Go.Proofs.YtjfimileopbadaaGreatDoorW.PrintLast Go.Proofs.YtjfimileopbadaaGreatDoorW.PrintMore
attribute [local go_sem] max2_int min2_int max_two min_two max_three min_three max_four min_four   -- for this text's walks alone
set_option linter.unusedVariables false
set_option linter.unusedSimpArgs false

/-! ### oid_Decode: function 81 -/
mutual
def oid_Decode.j1 : Nat → List Int → ByteArray → Int → Option (ByteArray × Int)
  | 0, _, _, _ => none
  | k + 1, x7, x220000, x220001 => (octet_Reader_Code.f x220000 x220001).bind fun bt238 => (if bt238.1 = 0 then ((oid_is.f k x7).bind fun t241 => (if t241 = true then ((oid_put.f k x7).bind fun t242 => (some (t242, 0))) else (some ((⟨#[]⟩ : ByteArray), 60)))) else (some ((⟨#[]⟩ : ByteArray), 60)))
def oid_Decode.l0 : Nat → List Int → ByteArray → Int → Option (ByteArray × Int)
  | 0, _, _, _ => none
  | k + 1, x7, x220000, x220001 => (octet_Reader_Code.f x220000 x220001).bind fun bt226 => (if bt226.1 = 0 then ((octet_Reader_Left.f bt226.2.1 bt226.2.2).bind fun bt229 => (if bt229.1 > 0 then (if (x7.length : Int) ≤ 128 then ((octet_Reader_Groups.f k bt229.2.1 bt229.2.2 4294967295).bind fun bt232 => (if x7.length < 17592186044416 then (oid_Decode.l0 k (x7 ++ [bt232.1]) bt232.2.1 bt232.2.2) else (none))) else (oid_Decode.j1 k x7 bt229.2.1 bt229.2.2)) else (oid_Decode.j1 k x7 bt229.2.1 bt229.2.2))) else (oid_Decode.j1 k x7 bt226.2.1 bt226.2.2))
end
def oid_Decode.f (k : Nat) (a0 : ByteArray) : Option (ByteArray × Int) := (octet_Read.f a0).bind fun bt217 => ((octet_Reader_Groups.f k bt217.1 bt217.2 4294967295).bind fun bt220 => (oid_Decode.l0 k (([mn (wrap64 (Int.tdiv bt220.1 40)) 2, wrap64 (bt220.1 - (wrap64 (40 * (mn (wrap64 (Int.tdiv bt220.1 40)) 2))))] : List Int)) bt220.2.1 bt220.2.2))
theorem oid_Decode.mono_l : ∀ k, (∀ y0 y1 y2, LeO (oid_Decode.j1 k y0 y1 y2) (oid_Decode.j1 (k + 1) y0 y1 y2)) ∧ (∀ y0 y1 y2, LeO (oid_Decode.l0 k y0 y1 y2) (oid_Decode.l0 (k + 1) y0 y1 y2))
  | 0 => ⟨fun _ _ _ r h => by simp [oid_Decode.j1] at h, fun _ _ _ r h => by simp [oid_Decode.l0] at h⟩
  | k + 1 => by
    obtain ⟨ih0, ih1⟩ := oid_Decode.mono_l k
    refine ⟨?_, ?_⟩
    · intro y0 y1 y2
      unfold oid_Decode.j1
      repeat' first
      | (with_reducible exact ih0 _ _ _)
      | (with_reducible exact ih1 _ _ _)
      | (with_reducible exact octet_Reader_Groups.mono _ _ _ _)
      | (with_reducible exact oid_is.mono _ _)
      | (with_reducible exact oid_put.mono _ _)
      | (with_reducible exact LeO.refl _)
      | (with_reducible exact LeO.none _)
      | (with_reducible refine LeO.ite ?_ ?_)
      | (with_reducible refine LeO.bind ?_ (fun _ => ?_))
      | exact ih0 _ _ _
      | exact ih1 _ _ _
      | exact octet_Reader_Groups.mono _ _ _ _
      | exact oid_is.mono _ _
      | exact oid_put.mono _ _
      | exact LeO.none _
      | refine LeO.ite ?_ ?_
      | refine LeO.bind ?_ (fun _ => ?_)
    · intro y0 y1 y2
      unfold oid_Decode.l0
      repeat' first
      | (with_reducible exact ih0 _ _ _)
      | (with_reducible exact ih1 _ _ _)
      | (with_reducible exact octet_Reader_Groups.mono _ _ _ _)
      | (with_reducible exact oid_is.mono _ _)
      | (with_reducible exact oid_put.mono _ _)
      | (with_reducible exact LeO.refl _)
      | (with_reducible exact LeO.none _)
      | (with_reducible refine LeO.ite ?_ ?_)
      | (with_reducible refine LeO.bind ?_ (fun _ => ?_))
      | exact ih0 _ _ _
      | exact ih1 _ _ _
      | exact octet_Reader_Groups.mono _ _ _ _
      | exact oid_is.mono _ _
      | exact oid_put.mono _ _
      | exact LeO.none _
      | refine LeO.ite ?_ ?_
      | refine LeO.bind ?_ (fun _ => ?_)
theorem oid_Decode.mono : ∀ a0 k, LeO (oid_Decode.f k a0) (oid_Decode.f (k + 1) a0) := by
  intro a0 k
  obtain ⟨ih0, ih1⟩ := oid_Decode.mono_l k
  unfold oid_Decode.f
  repeat' first
      | (with_reducible exact ih0 _ _ _)
      | (with_reducible exact ih1 _ _ _)
      | (with_reducible exact octet_Reader_Groups.mono _ _ _ _)
      | (with_reducible exact oid_is.mono _ _)
      | (with_reducible exact oid_put.mono _ _)
      | (with_reducible exact LeO.refl _)
      | (with_reducible exact LeO.none _)
      | (with_reducible refine LeO.ite ?_ ?_)
      | (with_reducible refine LeO.bind ?_ (fun _ => ?_))
      | exact ih0 _ _ _
      | exact ih1 _ _ _
      | exact octet_Reader_Groups.mono _ _ _ _
      | exact oid_is.mono _ _
      | exact oid_put.mono _ _
      | exact LeO.none _
      | refine LeO.ite ?_ ?_
      | refine LeO.bind ?_ (fun _ => ?_)
set_option maxHeartbeats 8000000 in
set_option maxRecDepth 100000 in
theorem oid_Decode.calls (k : Nat) (a0 : ByteArray) (r1 : ByteArray) (r2 : Int) (w : World) (hG : Gl w) (h : oid_Decode.f k a0 = some (r1, r2)) :
    Calls Tryz.prog 81 #[.string a0] w fun e w' => e = .returned (.tuple #[.string r1, .int .i64 r2]) ∧ Below w.heap.size w w' := by
  have HGl := Aside0.mk hG
  clear hG
  have HB := Aside0.mk (Below.refl w.heap.size w)
  have H : ((octet_Read.f a0).bind fun bt217 => ((octet_Reader_Groups.f k bt217.1 bt217.2 4294967295).bind fun bt220 => (oid_Decode.l0 k (([mn (wrap64 (Int.tdiv bt220.1 40)) 2, wrap64 (bt220.1 - (wrap64 (40 * (mn (wrap64 (Int.tdiv bt220.1 40)) 2))))] : List Int)) bt220.2.1 bt220.2.2))) = some (r1, r2) := h
  clear h
  replace H := Option.bind_eq_some_iff.mp H
  obtain ⟨⟨t217, t218⟩, A20, H⟩ := H
  replace H : ((octet_Reader_Groups.f k t217 t218 4294967295).bind fun bt220 => (oid_Decode.l0 k (([mn (wrap64 (Int.tdiv bt220.1 40)) 2, wrap64 (bt220.1 - (wrap64 (40 * (mn (wrap64 (Int.tdiv bt220.1 40)) 2))))] : List Int)) bt220.2.1 bt220.2.2)) = some (r1, r2) := H
  have A2 := Aside0.mk A20
  clear A20
  replace H := Option.bind_eq_some_iff.mp H
  obtain ⟨⟨t220, t221, t222⟩, A30, H⟩ := H
  replace H : (oid_Decode.l0 k (([mn (wrap64 (Int.tdiv t220 40)) 2, wrap64 (t220 - (wrap64 (40 * (mn (wrap64 (Int.tdiv t220 40)) 2))))] : List Int)) t221 t222) = some (r1, r2) := H
  have A3 := Aside0.mk A30
  clear A30
  obtain ⟨ji4, hji4⟩ : ∃ j_ : Int, (mn (wrap64 (Int.tdiv t220 40)) 2) = j_ := ⟨_, rfl⟩
  replace H : (oid_Decode.l0 k (([ji4, wrap64 (t220 - (wrap64 (40 * (ji4))))] : List Int)) t221 t222) = some (r1, r2) := by first | (rw [hji4] at H; exact H) | (simp only [hji4] at H ⊢; exact H)
  (try rw [hji4] at A2)
  (try rw [hji4] at A3)
  (try (have hji4h : ji4 ≤ 2 := by (rw [← hji4]; unfold mn; (repeat' split) <;> omega)))
  (try (have hji4g : ji4 ≤ 64 := by omega))
  have hji4_ : (if 2 < (wrap64 (Int.tdiv t220 40)) then 2 else (wrap64 (Int.tdiv t220 40))) = ji4 := hji4
  obtain ⟨y223, hy223⟩ : ∃ y_ : List Int, y_ = (([ji4, wrap64 (t220 - (wrap64 (40 * (ji4))))] : List Int)) := ⟨_, rfl⟩
  replace H : (oid_Decode.l0 k y223 t221 t222) = some (r1, r2) := by first | (rw [hy223]; with_reducible exact H) | (have H2_ := (Option.bind_some _ _).symm.trans H; rw [hy223]; with_reducible exact H2_) | (have H2_ := (Option.bind_some _ _).symm.trans H; with_reducible exact H2_) | with_reducible exact H | (rw [hy223]; exact H) | exact H
  have Ny223 := Aside0.mk hy223
  clear hy223
  have HC5 := Aside0.mk H
  clear H
  go_enter Tryz.func81, Tryz.ntmps81
  go_upto_block 0 with (first | ((with_reducible refine gate_callee (f := 98) rfl ?_); refine goesL_ (some 9) rfl rfl Tryz.func98 (by kernel_rfl) rfl #[.string a0] rfl (by (try simp only [List.map_toArray, List.map_cons, List.map_nil]); first | done | rfl | (simp only [List.length_drop, List.length_take]; rfl)) ?_; (with_reducible refine (octet_Read.calls a0 t217 t218 w _ ?side1 A2.out).mono ?_); (case side1 => repeat (first | (with_reducible first | exact HB.out | apply below_alloc | apply pw_below_drewN | apply below_drew1) | exact HB.out)); rintro e w6 ⟨g219, rfl, hi, hb, hb2⟩; refine ⟨_, rfl, ?_⟩; have n0_ := Aside0.mk (hb); have n1_ := Aside0.mk (hi); clear HB; have HB := n0_; have HI219 := n1_; clear n0_ n1_; (try clear hb); (try clear hb2); (try clear hk); (try clear hi)) | ((with_reducible refine gate_callee (f := 115) rfl ?_); refine goesL_ (some 11) rfl rfl Tryz.func115 (by kernel_rfl) rfl #[.pointer (some ⟨g219, 0, none⟩), .int .i64 4294967295] rfl (by (try simp only [List.map_toArray, List.map_cons, List.map_nil]); first | done | rfl | (simp only [List.length_drop, List.length_take]; rfl)) ?_; (with_reducible refine (octet_Reader_Groups.calls k g219 t217 t218 4294967295 t220 t221 t222 w _ ?side1 ?side2 A3.out).mono ?_); (case side1 => repeat (first | (with_reducible first | exact HI219.out | apply IsS160.alloc | apply IsS160.drewN | apply IsS160.drew | apply IsS160.set_0 | apply IsS160.set_1) | exact HI219.out)); (case side2 => repeat (first | (with_reducible first | exact HB.out | apply below_alloc | apply pw_below_drewN | apply below_drew1 | refine below_set ?_ (IsS160.ge HI219.out)) | exact HB.out)); rintro e w7 ⟨rfl, hi, hb, hk⟩; refine ⟨_, rfl, ?_⟩; have n0_ := Aside0.mk (hb); have n1_ := Aside0.mk (hi); clear HB; clear HI219; have HB := n0_; have HI219 := n1_; clear n0_ n1_; (try clear hb); (try clear hb2); (try clear hk); (try clear hi)) | ((with_reducible refine gate_dst (N := 20) rfl ?_); (try (refine gate_guard (by rfl) ?_; dsimp only)); refine Kd.R_lit (Kd.int .i64) _ 3 ?hg (N := 20) ?hd (xs := ([ji4, wrap64 (t220 - (wrap64 (40 * (ji4))))] : List Int)) (inner := [.int .i64 ji4, .int .i64 (wrap64 (t220 - (wrap64 (40 * (ji4)))))]) (ok := fun _ => True) (okp := fun _ => True) ?hr ?hp (fun _ hk => hk) trivial (Below.refl _ _) (Nat.le_refl _) (by simp) ?_; (case hd => rfl); (case hg => rfl); (case hr => first | (go_simp; done) | (go_simp; rfl)); (case hp => exact (Reps.one (show Kd.M (Kd.int .i64) _ _ _ ji4 [.int .i64 ji4] from rfl) (Reps.one (show Kd.M (Kd.int .i64) _ _ _ (wrap64 (t220 - (wrap64 (40 * (ji4))))) [.int .i64 (wrap64 (t220 - (wrap64 (40 * (ji4)))))] from rfl) (Reps.none _ _)))); intro v224 w8 ho9 hb hg_ hnew_; clear hg_ hnew_; (first | rw [← Ny223.out] at ho9 | (simp only [Int.reduceToNat] at ho9; rw [← Ny223.out] at ho9)); have n0_ := Aside0.mk (Kd.R_lower ho9 (below_size (by repeat (first | (with_reducible first | exact HB.out | apply below_alloc | apply pw_below_drewN | apply below_drew1 | refine below_set ?_ (IsS160.ge HI219.out)) | exact HB.out)))); have n1_ := Aside0.mk (IsS160.below (by repeat (first | (with_reducible first | exact HI219.out | apply IsS160.alloc | apply IsS160.drewN | apply IsS160.drew | apply IsS160.set_0 | apply IsS160.set_1) | exact HI219.out)) hb); have n2_ := Aside0.mk (below_step (by repeat (first | (with_reducible first | exact HB.out | apply below_alloc | apply pw_below_drewN | apply below_drew1 | refine below_set ?_ (IsS160.ge HI219.out)) | exact HB.out)) hb); clear HI219; clear HB; have HO225 := n0_; have HI219 := n1_; have HB := n2_; clear n0_ n1_ n2_; clear hb ho9))
  (try simp only [Act.put, List.setIfInBounds_toArray, List.set_cons_zero, List.set_cons_succ])
  go_cut [7] (fun v7 wc => ∃ (kq : Nat) (x7_4 : List Int) (x220000_4 : ByteArray) (x220001_4 : Int), Aside0 (oid_Decode.j1 kq x7_4 x220000_4 x220001_4 = some (r1, r2)) ∧ Aside0 (kq ≤ k) ∧ Aside0 (Kd.R (Kd.int .i64) 3 wc w.heap.size (fun _ => True) v7 x7_4) ∧ Aside0 (IsS160 w wc g219 x220000_4 x220001_4) ∧ Aside0 (Below w.heap.size w wc))
  case first =>
    have H := HC5.out
    clear HC5
    have H' := Aside0.mk H
    clear H
    go_wp2
    go_loopg [7] k (fun kq v7 w' => ∃ (x7_1 : List Int) (x220000_1 : ByteArray) (x220001_1 : Int), Aside0 (oid_Decode.l0 kq x7_1 x220000_1 x220001_1 = some (r1, r2)) ∧ Aside0 (kq ≤ k) ∧ Aside0 (Kd.R (Kd.int .i64) 3 w' w.heap.size (fun _ => True) v7 x7_1) ∧ Aside0 (IsS160 w w' g219 x220000_1 x220001_1) ∧ Aside0 (Below w.heap.size w w'))
    case atStart => exact ⟨(y223), (t221), (t222), H', ⟨Nat.le_refl _⟩, ⟨by (with_reducible repeat (first | apply Kd.R_alloc | apply Kd.R_drewN | apply Kd.R_drew)); exact HO225.out⟩, ⟨by repeat (first | (with_reducible first | exact HI219.out | apply IsS160.alloc | apply IsS160.drewN | apply IsS160.drew | apply IsS160.set_0 | apply IsS160.set_1) | exact HI219.out)⟩, ⟨by repeat (first | (with_reducible first | exact HB.out | apply below_alloc | apply pw_below_drewN | apply below_drew1 | refine below_set ?_ (IsS160.ge HI219.out)) | exact HB.out)⟩⟩
    case round =>
      clear H'
      try clear c1
      try clear p2
      try clear p6
      try clear c8
      try clear c9
      obtain ⟨x7_1, x220000_1, x220001_1, HA, HK1, HO_7, HI219, HB⟩ := hrel
      cases gk with
      | zero => exact absurd HA.out (by simp [oid_Decode.l0])
      | succ k1 =>
        have H := HA.out
        clear HA
        simp only [oid_Decode.l0] at H
        replace H := Option.bind_eq_some_iff.mp H
        obtain ⟨⟨t226, t227, t228⟩, A100, H⟩ := H
        replace H : (if t226 = 0 then ((octet_Reader_Left.f t227 t228).bind fun bt229 => (if bt229.1 > 0 then (if (x7_1.length : Int) ≤ 128 then ((octet_Reader_Groups.f k1 bt229.2.1 bt229.2.2 4294967295).bind fun bt232 => (if x7_1.length < 17592186044416 then (oid_Decode.l0 k1 (x7_1 ++ [bt232.1]) bt232.2.1 bt232.2.2) else (none))) else (oid_Decode.j1 k1 x7_1 bt229.2.1 bt229.2.2)) else (oid_Decode.j1 k1 x7_1 bt229.2.1 bt229.2.2))) else (oid_Decode.j1 k1 x7_1 t227 t228)) = some (r1, r2) := H
        have A10 := Aside0.mk A100
        clear A100
        by_cases c11 : t226 = 0
        · rw [if_pos c11] at H
          have c11b0 : (t226 == 0) = true := beq_iff_eq.mpr c11
          have c11b1 : (t226 != 0) = false := bne_eq_false_iff_eq.mpr c11
          clear c11
          (first | rw [c11b0] | (simp only [i64_w, i32_w]; rw [c11b0]) | skip)
          replace H := Option.bind_eq_some_iff.mp H
          obtain ⟨⟨t229, t230, t231⟩, A120, H⟩ := H
          replace H : (if t229 > 0 then (if (x7_1.length : Int) ≤ 128 then ((octet_Reader_Groups.f k1 t230 t231 4294967295).bind fun bt232 => (if x7_1.length < 17592186044416 then (oid_Decode.l0 k1 (x7_1 ++ [bt232.1]) bt232.2.1 bt232.2.2) else (none))) else (oid_Decode.j1 k1 x7_1 t230 t231)) else (oid_Decode.j1 k1 x7_1 t230 t231)) = some (r1, r2) := H
          have A12 := Aside0.mk A120
          clear A120
          by_cases c13 : t229 > 0
          · rw [if_pos c13] at H
            have c13b0 : decide (0 < t229) = true := decide_eq_true c13
            clear c13
            by_cases c14 : (x7_1.length : Int) ≤ 128
            · rw [if_pos c14] at H
              have c14b0 : decide ((x7_1.length : Int) ≤ 128) = true := decide_eq_true c14
              have c14b1 : decide (x7_1.length ≤ 128) = true := decide_eq_true (by omega)
              clear c14
              replace H := Option.bind_eq_some_iff.mp H
              obtain ⟨⟨t232, t233, t234⟩, A150, H⟩ := H
              replace H : (if x7_1.length < 17592186044416 then (oid_Decode.l0 k1 (x7_1 ++ [t232]) t233 t234) else (none)) = some (r1, r2) := H
              have A15 := Aside0.mk A150
              clear A150
              by_cases c16 : x7_1.length < 17592186044416
              · rw [if_pos c16] at H
                have LMc16 := Aside0.mk c16
                clear c16
                obtain ⟨y235, hy235⟩ : ∃ y_ : List Int, y_ = (x7_1 ++ [t232]) := ⟨_, rfl⟩
                replace H : (oid_Decode.l0 k1 y235 t233 t234) = some (r1, r2) := by first | (rw [hy235]; with_reducible exact H) | (have H2_ := (Option.bind_some _ _).symm.trans H; rw [hy235]; with_reducible exact H2_) | (have H2_ := (Option.bind_some _ _).symm.trans H; with_reducible exact H2_) | with_reducible exact H | (rw [hy235]; exact H) | exact H
                have Ny235 := Aside0.mk hy235
                clear hy235
                have H' := Aside0.mk H
                clear H
                go_wp2_with (first | ((with_reducible refine gate_callee (f := 101) rfl ?_); refine goesL_ (some 22) rfl rfl Tryz.func101 (by kernel_rfl) rfl #[.pointer (some ⟨g219, 0, none⟩)] rfl (by (try simp only [List.map_toArray, List.map_cons, List.map_nil]); first | done | rfl | (simp only [List.length_drop, List.length_take]; rfl)) ?_; (with_reducible refine (octet_Reader_Code.calls g219 x220000_1 x220001_1 t226 t227 t228 w _ ?side1 ?side2 A10.out).mono ?_); (case side1 => repeat (first | (with_reducible first | exact HI219.out | apply IsS160.alloc | apply IsS160.drewN | apply IsS160.drew | apply IsS160.set_0 | apply IsS160.set_1) | exact HI219.out)); (case side2 => repeat (first | (with_reducible first | exact HB.out | apply below_alloc | apply pw_below_drewN | apply below_drew1 | refine below_set ?_ (IsS160.ge HI219.out)) | exact HB.out)); rintro e w17 ⟨rfl, hi, hb, hk⟩; refine ⟨_, rfl, ?_⟩; have n0_ := Aside0.mk (Kd.R_mono (Kd.R_keep (IsS160.apart (show IsS160 w _ g219 x220000_1 x220001_1 from by repeat (first | (with_reducible first | exact HI219.out | apply IsS160.alloc | apply IsS160.drewN | apply IsS160.drew | apply IsS160.set_0 | apply IsS160.set_1) | exact HI219.out)) (by (with_reducible repeat (first | apply Kd.R_alloc | apply Kd.R_drewN | apply Kd.R_drew)); exact HO_7.out) (by decide)) hk (fun _ h => h.2)) (fun _ h => h.1)); have n1_ := Aside0.mk (hb); have n2_ := Aside0.mk (hi); clear HO_7; clear HB; clear HI219; have HO_7 := n0_; have HB := n1_; have HI219 := n2_; clear n0_ n1_ n2_; (try clear hb); (try clear hb2); (try clear hk); (try clear hi)) | (go_at_call 100; (with_reducible refine (octet_Reader_Left.calls g219 t227 t228 t229 t230 t231 w _ ?side1 ?side2 A12.out).mono ?_); (case side1 => repeat (first | (with_reducible first | exact HI219.out | apply IsS160.alloc | apply IsS160.drewN | apply IsS160.drew | apply IsS160.set_0 | apply IsS160.set_1) | exact HI219.out)); (case side2 => repeat (first | (with_reducible first | exact HB.out | apply below_alloc | apply pw_below_drewN | apply below_drew1 | refine below_set ?_ (IsS160.ge HI219.out)) | exact HB.out)); rintro e w18 ⟨rfl, hi, hb, hk⟩; have n0_ := Aside0.mk (Kd.R_mono (Kd.R_keep (IsS160.apart (show IsS160 w _ g219 t227 t228 from by repeat (first | (with_reducible first | exact HI219.out | apply IsS160.alloc | apply IsS160.drewN | apply IsS160.drew | apply IsS160.set_0 | apply IsS160.set_1) | exact HI219.out)) (by (with_reducible repeat (first | apply Kd.R_alloc | apply Kd.R_drewN | apply Kd.R_drew)); exact HO_7.out) (by decide)) hk (fun _ h => h.2)) (fun _ h => h.1)); have n1_ := Aside0.mk (hb); have n2_ := Aside0.mk (hi); clear HO_7; clear HB; clear HI219; have HO_7 := n0_; have HB := n1_; have HI219 := n2_; clear n0_ n1_ n2_; (try clear hb); (try clear hb2); (try clear hk); (try clear hi); obtain ⟨Ao19, co19, eo19⟩ := Kd.R_slice HO_7.out; subst eo19) | ((with_reducible refine gate_callee (f := 115) rfl ?_); refine goesL_ (some 36) rfl rfl Tryz.func115 (by kernel_rfl) rfl #[.pointer (some ⟨g219, 0, none⟩), .int .i64 4294967295] rfl (by (try simp only [List.map_toArray, List.map_cons, List.map_nil]); first | done | rfl | (simp only [List.length_drop, List.length_take]; rfl)) ?_; (with_reducible refine (octet_Reader_Groups.calls k1 g219 t230 t231 4294967295 t232 t233 t234 w _ ?side1 ?side2 A15.out).mono ?_); (case side1 => repeat (first | (with_reducible first | exact HI219.out | apply IsS160.alloc | apply IsS160.drewN | apply IsS160.drew | apply IsS160.set_0 | apply IsS160.set_1) | exact HI219.out)); (case side2 => repeat (first | (with_reducible first | exact HB.out | apply below_alloc | apply pw_below_drewN | apply below_drew1 | refine below_set ?_ (IsS160.ge HI219.out)) | exact HB.out)); rintro e w20 ⟨rfl, hi, hb, hk⟩; refine ⟨_, rfl, ?_⟩; have n0_ := Aside0.mk (Kd.R_mono (Kd.R_keep (IsS160.apart (show IsS160 w _ g219 t230 t231 from by repeat (first | (with_reducible first | exact HI219.out | apply IsS160.alloc | apply IsS160.drewN | apply IsS160.drew | apply IsS160.set_0 | apply IsS160.set_1) | exact HI219.out)) (by (with_reducible repeat (first | apply Kd.R_alloc | apply Kd.R_drewN | apply Kd.R_drew)); exact HO_7.out) (by decide)) hk (fun _ h => h.2)) (fun _ h => h.1)); have n1_ := Aside0.mk (hb); have n2_ := Aside0.mk (hi); clear HO_7; clear HB; clear HI219; have HO_7 := n0_; have HB := n1_; have HI219 := n2_; clear n0_ n1_ n2_; (try clear hb); (try clear hb2); (try clear hk); (try clear hi)) | ((with_reducible refine gate_builtin (b := .append) (xs := #[.tmp 34, .tmp 37]) rfl ?_); (try (refine gate_guard (by rfl) ?_; dsimp only)); at_builtin; refine Kd.R_append (Kd.int .i64) (w0 := w) w.heap.size rfl (.tmp 34) (.tmp 37) 90 3 (.int .i64 0) 8 rfl Tryz.underlying90 info3 rfl (by decide) (by omega) (.slice Ao19 x7_1.length co19) x7_1 t232 [.int .i64 t232] (fun _ => True) (fun _ => False) rfl rfl ?aP (fun _ hk => hk.elim) ?aF ?aO ?aB ?aS ?aL ?_; (case aP => exact rfl); (case aB => exact (by repeat (first | (with_reducible first | exact HB.out | apply below_alloc | apply pw_below_drewN | apply below_drew1 | refine below_set ?_ (IsS160.ge HI219.out)) | exact HB.out))); (case aF => exact (fun _ _ => trivial)); (case aO => exact (by (with_reducible repeat (first | apply Kd.R_alloc | apply Kd.R_drewN | apply Kd.R_drew)); exact HO_7.out)); (case aS => exact (below_size (by repeat (first | (with_reducible first | exact HB.out | apply below_alloc | apply pw_below_drewN | apply below_drew1 | refine below_set ?_ (IsS160.ge HI219.out)) | exact HB.out)))); (case aL => have := LMc16.out; omega); intro v236 w21 ho hb hg hat; rw [← Ny235.out] at ho; have n0_ := Aside0.mk (IsS160.grown (by repeat (first | (with_reducible first | exact HI219.out | apply IsS160.alloc | apply IsS160.drewN | apply IsS160.drew | apply IsS160.set_0 | apply IsS160.set_1) | exact HI219.out)) hg (IsS160.own_ne HI219.out HO_7.out (by decide))); have n1_ := Aside0.mk (hb); have n2_ := Aside0.mk (ho); clear HI219; clear HB; clear HO_7; have HI219 := n0_; have HB := n1_; have HO237 := n2_; clear n0_ n1_ n2_; clear ho hb hg hat))
                go_roundg k1
                case measure => have := HK1.out; omega
                case rel => exact ⟨(y235), (t233), (t234), H', ⟨by have := HK1.out; omega⟩, ⟨by (with_reducible repeat (first | apply Kd.R_alloc | apply Kd.R_drewN | apply Kd.R_drew)); exact HO237.out⟩, ⟨by repeat (first | (with_reducible first | exact HI219.out | apply IsS160.alloc | apply IsS160.drewN | apply IsS160.drew | apply IsS160.set_0 | apply IsS160.set_1) | exact HI219.out)⟩, ⟨by repeat (first | (with_reducible first | exact HB.out | apply below_alloc | apply pw_below_drewN | apply below_drew1 | refine below_set ?_ (IsS160.ge HI219.out)) | exact HB.out)⟩⟩
              · rw [if_neg c16] at H
                exact absurd H (by simp)
            · rw [if_neg c14] at H
              have c14b0 : decide ((x7_1.length : Int) ≤ 128) = false := decide_eq_false c14
              have c14b1 : decide (x7_1.length ≤ 128) = false := decide_eq_false (by omega)
              clear c14
              have H' := Aside0.mk H
              clear H
              go_wp2_with (first | ((with_reducible refine gate_callee (f := 101) rfl ?_); refine goesL_ (some 22) rfl rfl Tryz.func101 (by kernel_rfl) rfl #[.pointer (some ⟨g219, 0, none⟩)] rfl (by (try simp only [List.map_toArray, List.map_cons, List.map_nil]); first | done | rfl | (simp only [List.length_drop, List.length_take]; rfl)) ?_; (with_reducible refine (octet_Reader_Code.calls g219 x220000_1 x220001_1 t226 t227 t228 w _ ?side1 ?side2 A10.out).mono ?_); (case side1 => repeat (first | (with_reducible first | exact HI219.out | apply IsS160.alloc | apply IsS160.drewN | apply IsS160.drew | apply IsS160.set_0 | apply IsS160.set_1) | exact HI219.out)); (case side2 => repeat (first | (with_reducible first | exact HB.out | apply below_alloc | apply pw_below_drewN | apply below_drew1 | refine below_set ?_ (IsS160.ge HI219.out)) | exact HB.out)); rintro e w22 ⟨rfl, hi, hb, hk⟩; refine ⟨_, rfl, ?_⟩; have n0_ := Aside0.mk (Kd.R_mono (Kd.R_keep (IsS160.apart (show IsS160 w _ g219 x220000_1 x220001_1 from by repeat (first | (with_reducible first | exact HI219.out | apply IsS160.alloc | apply IsS160.drewN | apply IsS160.drew | apply IsS160.set_0 | apply IsS160.set_1) | exact HI219.out)) (by (with_reducible repeat (first | apply Kd.R_alloc | apply Kd.R_drewN | apply Kd.R_drew)); exact HO_7.out) (by decide)) hk (fun _ h => h.2)) (fun _ h => h.1)); have n1_ := Aside0.mk (hb); have n2_ := Aside0.mk (hi); clear HO_7; clear HB; clear HI219; have HO_7 := n0_; have HB := n1_; have HI219 := n2_; clear n0_ n1_ n2_; (try clear hb); (try clear hb2); (try clear hk); (try clear hi)) | (go_at_call 100; (with_reducible refine (octet_Reader_Left.calls g219 t227 t228 t229 t230 t231 w _ ?side1 ?side2 A12.out).mono ?_); (case side1 => repeat (first | (with_reducible first | exact HI219.out | apply IsS160.alloc | apply IsS160.drewN | apply IsS160.drew | apply IsS160.set_0 | apply IsS160.set_1) | exact HI219.out)); (case side2 => repeat (first | (with_reducible first | exact HB.out | apply below_alloc | apply pw_below_drewN | apply below_drew1 | refine below_set ?_ (IsS160.ge HI219.out)) | exact HB.out)); rintro e w23 ⟨rfl, hi, hb, hk⟩; have n0_ := Aside0.mk (Kd.R_mono (Kd.R_keep (IsS160.apart (show IsS160 w _ g219 t227 t228 from by repeat (first | (with_reducible first | exact HI219.out | apply IsS160.alloc | apply IsS160.drewN | apply IsS160.drew | apply IsS160.set_0 | apply IsS160.set_1) | exact HI219.out)) (by (with_reducible repeat (first | apply Kd.R_alloc | apply Kd.R_drewN | apply Kd.R_drew)); exact HO_7.out) (by decide)) hk (fun _ h => h.2)) (fun _ h => h.1)); have n1_ := Aside0.mk (hb); have n2_ := Aside0.mk (hi); clear HO_7; clear HB; clear HI219; have HO_7 := n0_; have HB := n1_; have HI219 := n2_; clear n0_ n1_ n2_; (try clear hb); (try clear hb2); (try clear hk); (try clear hi); obtain ⟨Ao24, co24, eo24⟩ := Kd.R_slice HO_7.out; subst eo24))
              go_meet
              case rel => exact ⟨_, (x7_1), (t230), (t231), H', ⟨by have := HK1.out; first | omega | exact Nat.le_refl _⟩, ⟨by (with_reducible repeat (first | apply Kd.R_alloc | apply Kd.R_drewN | apply Kd.R_drew)); exact HO_7.out⟩, ⟨by repeat (first | (with_reducible first | exact HI219.out | apply IsS160.alloc | apply IsS160.drewN | apply IsS160.drew | apply IsS160.set_0 | apply IsS160.set_1) | exact HI219.out)⟩, ⟨by repeat (first | (with_reducible first | exact HB.out | apply below_alloc | apply pw_below_drewN | apply below_drew1 | refine below_set ?_ (IsS160.ge HI219.out)) | exact HB.out)⟩⟩
          · rw [if_neg c13] at H
            have c13b0 : decide (0 < t229) = false := decide_eq_false c13
            clear c13
            have H' := Aside0.mk H
            clear H
            go_wp2_with (first | ((with_reducible refine gate_callee (f := 101) rfl ?_); refine goesL_ (some 22) rfl rfl Tryz.func101 (by kernel_rfl) rfl #[.pointer (some ⟨g219, 0, none⟩)] rfl (by (try simp only [List.map_toArray, List.map_cons, List.map_nil]); first | done | rfl | (simp only [List.length_drop, List.length_take]; rfl)) ?_; (with_reducible refine (octet_Reader_Code.calls g219 x220000_1 x220001_1 t226 t227 t228 w _ ?side1 ?side2 A10.out).mono ?_); (case side1 => repeat (first | (with_reducible first | exact HI219.out | apply IsS160.alloc | apply IsS160.drewN | apply IsS160.drew | apply IsS160.set_0 | apply IsS160.set_1) | exact HI219.out)); (case side2 => repeat (first | (with_reducible first | exact HB.out | apply below_alloc | apply pw_below_drewN | apply below_drew1 | refine below_set ?_ (IsS160.ge HI219.out)) | exact HB.out)); rintro e w25 ⟨rfl, hi, hb, hk⟩; refine ⟨_, rfl, ?_⟩; have n0_ := Aside0.mk (Kd.R_mono (Kd.R_keep (IsS160.apart (show IsS160 w _ g219 x220000_1 x220001_1 from by repeat (first | (with_reducible first | exact HI219.out | apply IsS160.alloc | apply IsS160.drewN | apply IsS160.drew | apply IsS160.set_0 | apply IsS160.set_1) | exact HI219.out)) (by (with_reducible repeat (first | apply Kd.R_alloc | apply Kd.R_drewN | apply Kd.R_drew)); exact HO_7.out) (by decide)) hk (fun _ h => h.2)) (fun _ h => h.1)); have n1_ := Aside0.mk (hb); have n2_ := Aside0.mk (hi); clear HO_7; clear HB; clear HI219; have HO_7 := n0_; have HB := n1_; have HI219 := n2_; clear n0_ n1_ n2_; (try clear hb); (try clear hb2); (try clear hk); (try clear hi)) | (go_at_call 100; (with_reducible refine (octet_Reader_Left.calls g219 t227 t228 t229 t230 t231 w _ ?side1 ?side2 A12.out).mono ?_); (case side1 => repeat (first | (with_reducible first | exact HI219.out | apply IsS160.alloc | apply IsS160.drewN | apply IsS160.drew | apply IsS160.set_0 | apply IsS160.set_1) | exact HI219.out)); (case side2 => repeat (first | (with_reducible first | exact HB.out | apply below_alloc | apply pw_below_drewN | apply below_drew1 | refine below_set ?_ (IsS160.ge HI219.out)) | exact HB.out)); rintro e w26 ⟨rfl, hi, hb, hk⟩; have n0_ := Aside0.mk (Kd.R_mono (Kd.R_keep (IsS160.apart (show IsS160 w _ g219 t227 t228 from by repeat (first | (with_reducible first | exact HI219.out | apply IsS160.alloc | apply IsS160.drewN | apply IsS160.drew | apply IsS160.set_0 | apply IsS160.set_1) | exact HI219.out)) (by (with_reducible repeat (first | apply Kd.R_alloc | apply Kd.R_drewN | apply Kd.R_drew)); exact HO_7.out) (by decide)) hk (fun _ h => h.2)) (fun _ h => h.1)); have n1_ := Aside0.mk (hb); have n2_ := Aside0.mk (hi); clear HO_7; clear HB; clear HI219; have HO_7 := n0_; have HB := n1_; have HI219 := n2_; clear n0_ n1_ n2_; (try clear hb); (try clear hb2); (try clear hk); (try clear hi)))
            go_meet
            case rel => exact ⟨_, (x7_1), (t230), (t231), H', ⟨by have := HK1.out; first | omega | exact Nat.le_refl _⟩, ⟨by (with_reducible repeat (first | apply Kd.R_alloc | apply Kd.R_drewN | apply Kd.R_drew)); exact HO_7.out⟩, ⟨by repeat (first | (with_reducible first | exact HI219.out | apply IsS160.alloc | apply IsS160.drewN | apply IsS160.drew | apply IsS160.set_0 | apply IsS160.set_1) | exact HI219.out)⟩, ⟨by repeat (first | (with_reducible first | exact HB.out | apply below_alloc | apply pw_below_drewN | apply below_drew1 | refine below_set ?_ (IsS160.ge HI219.out)) | exact HB.out)⟩⟩
        · rw [if_neg c11] at H
          have c11b0 : (t226 == 0) = false := beq_eq_false_iff_ne.mpr c11
          have c11b1 : (t226 != 0) = true := bne_iff_ne.mpr c11
          (first | rw [c11b0] | (simp only [i64_w, i32_w]; rw [c11b0]) | skip)
          have H' := Aside0.mk H
          clear H
          go_wp2_with (first | ((with_reducible refine gate_callee (f := 101) rfl ?_); refine goesL_ (some 22) rfl rfl Tryz.func101 (by kernel_rfl) rfl #[.pointer (some ⟨g219, 0, none⟩)] rfl (by (try simp only [List.map_toArray, List.map_cons, List.map_nil]); first | done | rfl | (simp only [List.length_drop, List.length_take]; rfl)) ?_; (with_reducible refine (octet_Reader_Code.calls g219 x220000_1 x220001_1 t226 t227 t228 w _ ?side1 ?side2 A10.out).mono ?_); (case side1 => repeat (first | (with_reducible first | exact HI219.out | apply IsS160.alloc | apply IsS160.drewN | apply IsS160.drew | apply IsS160.set_0 | apply IsS160.set_1) | exact HI219.out)); (case side2 => repeat (first | (with_reducible first | exact HB.out | apply below_alloc | apply pw_below_drewN | apply below_drew1 | refine below_set ?_ (IsS160.ge HI219.out)) | exact HB.out)); rintro e w27 ⟨rfl, hi, hb, hk⟩; refine ⟨_, rfl, ?_⟩; have n0_ := Aside0.mk (Kd.R_mono (Kd.R_keep (IsS160.apart (show IsS160 w _ g219 x220000_1 x220001_1 from by repeat (first | (with_reducible first | exact HI219.out | apply IsS160.alloc | apply IsS160.drewN | apply IsS160.drew | apply IsS160.set_0 | apply IsS160.set_1) | exact HI219.out)) (by (with_reducible repeat (first | apply Kd.R_alloc | apply Kd.R_drewN | apply Kd.R_drew)); exact HO_7.out) (by decide)) hk (fun _ h => h.2)) (fun _ h => h.1)); have n1_ := Aside0.mk (hb); have n2_ := Aside0.mk (hi); clear HO_7; clear HB; clear HI219; have HO_7 := n0_; have HB := n1_; have HI219 := n2_; clear n0_ n1_ n2_; (try clear hb); (try clear hb2); (try clear hk); (try clear hi)))
          go_meet
          case rel => exact ⟨_, (x7_1), (t227), (t228), H', ⟨by have := HK1.out; first | omega | exact Nat.le_refl _⟩, ⟨by (with_reducible repeat (first | apply Kd.R_alloc | apply Kd.R_drewN | apply Kd.R_drew)); exact HO_7.out⟩, ⟨by repeat (first | (with_reducible first | exact HI219.out | apply IsS160.alloc | apply IsS160.drewN | apply IsS160.drew | apply IsS160.set_0 | apply IsS160.set_1) | exact HI219.out)⟩, ⟨by repeat (first | (with_reducible first | exact HB.out | apply below_alloc | apply pw_below_drewN | apply below_drew1 | refine below_set ?_ (IsS160.ge HI219.out)) | exact HB.out)⟩⟩
  case rest =>
    clear HC5
    try clear c1
    try clear p2
    try clear p6
    try clear c8
    try clear c9
    try clear c10
    try clear c11
    try clear c11b0
    try clear c11b1
    try clear c13
    try clear c13b0
    try clear c14
    try clear c14b0
    try clear c14b1
    try clear c16
    try clear p2
    try clear p6
    obtain ⟨kq, x7_4, x220000_4, x220001_4, HA, HJ4, HO_7, HI219, HB⟩ := hcut
    cases kq with
    | zero => exact absurd HA.out (by simp [oid_Decode.j1])
    | succ kj4 =>
      have H := HA.out
      clear HA
      simp only [oid_Decode.j1] at H
      replace H := Option.bind_eq_some_iff.mp H
      obtain ⟨⟨t238, t239, t240⟩, A280, H⟩ := H
      replace H : (if t238 = 0 then ((oid_is.f kj4 x7_4).bind fun t241 => (if t241 = true then ((oid_put.f kj4 x7_4).bind fun t242 => (some (t242, 0))) else (some ((⟨#[]⟩ : ByteArray), 60)))) else (some ((⟨#[]⟩ : ByteArray), 60))) = some (r1, r2) := H
      have A28 := Aside0.mk A280
      clear A280
      by_cases c29 : t238 = 0
      · rw [if_pos c29] at H
        have c29b0 : (t238 == 0) = true := beq_iff_eq.mpr c29
        have c29b1 : (t238 != 0) = false := bne_eq_false_iff_eq.mpr c29
        clear c29
        replace H := Option.bind_eq_some_iff.mp H
        obtain ⟨t241, A300, H⟩ := H
        replace H : (if t241 = true then ((oid_put.f kj4 x7_4).bind fun t242 => (some (t242, 0))) else (some ((⟨#[]⟩ : ByteArray), 60))) = some (r1, r2) := H
        have A30 := Aside0.mk A300
        clear A300
        by_cases c31 : t241 = true
        · subst c31
          have H1 : ((oid_put.f kj4 x7_4).bind fun t242 => (some (t242, 0))) = some (r1, r2) := by rw [if_pos rfl] at H; exact H
          clear H
          have H := H1
          clear H1
          replace H := Option.bind_eq_some_iff.mp H
          obtain ⟨t242, A320, H⟩ := H
          replace H : (some (t242, 0)) = some (r1, r2) := H
          have A32 := Aside0.mk A320
          clear A320
          simp only [Option.some.injEq, Prod.mk.injEq] at H
          obtain ⟨rfl, rfl⟩ := H
          go_wp2_with (first | ((with_reducible refine gate_callee (f := 101) rfl ?_); refine goesL_ (some 40) rfl rfl Tryz.func101 (by kernel_rfl) rfl #[.pointer (some ⟨g219, 0, none⟩)] rfl (by (try simp only [List.map_toArray, List.map_cons, List.map_nil]); first | done | rfl | (simp only [List.length_drop, List.length_take]; rfl)) ?_; (with_reducible refine (octet_Reader_Code.calls g219 x220000_4 x220001_4 t238 t239 t240 w _ ?side1 ?side2 A28.out).mono ?_); (case side1 => repeat (first | (with_reducible first | exact HI219.out | apply IsS160.alloc | apply IsS160.drewN | apply IsS160.drew | apply IsS160.set_0 | apply IsS160.set_1) | exact HI219.out)); (case side2 => repeat (first | (with_reducible first | exact HB.out | apply below_alloc | apply pw_below_drewN | apply below_drew1 | refine below_set ?_ (IsS160.ge HI219.out)) | exact HB.out)); rintro e w33 ⟨rfl, hi, hb, hk⟩; refine ⟨_, rfl, ?_⟩; have n0_ := Aside0.mk (Kd.R_mono (Kd.R_keep (IsS160.apart (show IsS160 w _ g219 x220000_4 x220001_4 from by repeat (first | (with_reducible first | exact HI219.out | apply IsS160.alloc | apply IsS160.drewN | apply IsS160.drew | apply IsS160.set_0 | apply IsS160.set_1) | exact HI219.out)) (by (with_reducible repeat (first | apply Kd.R_alloc | apply Kd.R_drewN | apply Kd.R_drew)); exact HO_7.out) (by decide)) hk (fun _ h => h.2)) (fun _ h => h.1)); have n1_ := Aside0.mk (hb); have n2_ := Aside0.mk (hi); clear HO_7; clear HB; clear HI219; have HO_7 := n0_; have HB := n1_; have HI219 := n2_; clear n0_ n1_ n2_; (try clear hb); (try clear hb2); (try clear hk); (try clear hi); obtain ⟨Ao34, co34, eo34⟩ := Kd.R_slice HO_7.out; subst eo34) | (go_at_call 95; (with_reducible refine (oid_is.calls kj4 _ _ x7_4 true _ ?side1 ?side2 A30.out).mono ?_); (case side1 => repeat (first | exact (Kd.R_reads' HO_7.out).2.2 | (with_reducible refine Kd.C_alloc ?_ _) | (with_reducible refine Kd.C_drewN ?_ _) | (with_reducible refine Kd.C_drew ?_))); (case side2 => exact (Kd.R_reads' HO_7.out).2.1); rintro e w' ⟨rfl, ⟨nd, rfl⟩⟩) | ((with_reducible refine gate_callee (f := 96) rfl ?_); refine goesL_ (some 48) rfl rfl Tryz.func96 (by kernel_rfl) rfl #[.slice Ao34 x7_4.length co34] rfl (by (try simp only [List.map_toArray, List.map_cons, List.map_nil]); first | done | rfl | (simp only [List.length_drop, List.length_take]; rfl)) ?_; (with_reducible refine (oid_put.calls kj4 _ _ x7_4 t242 _ ?side3 ?side1 ?side2 A32.out).mono ?_); (case side1 => repeat (first | exact (Kd.R_reads' HO_7.out).2.2 | (with_reducible refine Kd.C_alloc ?_ _) | (with_reducible refine Kd.C_drewN ?_ _) | (with_reducible refine Kd.C_drew ?_))); (case side2 => exact (Kd.R_reads' HO_7.out).2.1); (case side3 => first | exact HGl.out | exact HGl.out.below (by repeat (first | (with_reducible first | exact HB.out | apply below_alloc | apply pw_below_drewN | apply below_drew1) | exact HB.out | (refine below_set ?_ (Aside0.out (by assumption))) | exact Below.refl _ _))); rintro e w35 ⟨rfl, hb⟩; refine ⟨_, rfl, ?_⟩; have n0_ := Aside0.mk (Kd.R_below (by (with_reducible repeat (first | apply Kd.R_alloc | apply Kd.R_drewN | apply Kd.R_drew)); exact HO_7.out) hb); have n1_ := Aside0.mk (IsS160.below (by repeat (first | (with_reducible first | exact HI219.out | apply IsS160.alloc | apply IsS160.drewN | apply IsS160.drew | apply IsS160.set_0 | apply IsS160.set_1) | exact HI219.out)) hb); have n2_ := Aside0.mk (below_step (by repeat (first | (with_reducible first | exact HB.out | apply below_alloc | apply pw_below_drewN | apply below_drew1 | refine below_set ?_ (IsS160.ge HI219.out)) | exact HB.out)) hb); clear HO_7; clear HI219; clear HB; have HO_7 := n0_; have HI219 := n1_; have HB := n2_; clear n0_ n1_ n2_; (try clear hb); (try clear hb2); (try clear hk); (try clear hi)))
          go_ret2
          exact ⟨by first | rfl | (simp only [i64_w, i32_w]; rfl) | (simp [errW_none, errW_some] <;> rfl) | (simp only [← hji4]; first | rfl | (simp [errW_none, errW_some] <;> rfl)) | (simp [*, errW_none, errW_some] <;> rfl), by repeat (first | (with_reducible first | exact HB.out | apply below_alloc | apply pw_below_drewN | apply below_drew1 | refine below_set ?_ (IsS160.ge HI219.out)) | exact HB.out)⟩
        · replace c31 := Bool.eq_false_iff.mpr c31
          subst c31
          have H1 : (some ((⟨#[]⟩ : ByteArray), 60)) = some (r1, r2) := by rw [if_neg (show ¬ (false = true) by decide)] at H; exact H
          clear H
          have H := H1
          clear H1
          simp only [Option.some.injEq, Prod.mk.injEq] at H
          obtain ⟨rfl, rfl⟩ := H
          go_wp2_with (first | ((with_reducible refine gate_callee (f := 101) rfl ?_); refine goesL_ (some 40) rfl rfl Tryz.func101 (by kernel_rfl) rfl #[.pointer (some ⟨g219, 0, none⟩)] rfl (by (try simp only [List.map_toArray, List.map_cons, List.map_nil]); first | done | rfl | (simp only [List.length_drop, List.length_take]; rfl)) ?_; (with_reducible refine (octet_Reader_Code.calls g219 x220000_4 x220001_4 t238 t239 t240 w _ ?side1 ?side2 A28.out).mono ?_); (case side1 => repeat (first | (with_reducible first | exact HI219.out | apply IsS160.alloc | apply IsS160.drewN | apply IsS160.drew | apply IsS160.set_0 | apply IsS160.set_1) | exact HI219.out)); (case side2 => repeat (first | (with_reducible first | exact HB.out | apply below_alloc | apply pw_below_drewN | apply below_drew1 | refine below_set ?_ (IsS160.ge HI219.out)) | exact HB.out)); rintro e w36 ⟨rfl, hi, hb, hk⟩; refine ⟨_, rfl, ?_⟩; have n0_ := Aside0.mk (Kd.R_mono (Kd.R_keep (IsS160.apart (show IsS160 w _ g219 x220000_4 x220001_4 from by repeat (first | (with_reducible first | exact HI219.out | apply IsS160.alloc | apply IsS160.drewN | apply IsS160.drew | apply IsS160.set_0 | apply IsS160.set_1) | exact HI219.out)) (by (with_reducible repeat (first | apply Kd.R_alloc | apply Kd.R_drewN | apply Kd.R_drew)); exact HO_7.out) (by decide)) hk (fun _ h => h.2)) (fun _ h => h.1)); have n1_ := Aside0.mk (hb); have n2_ := Aside0.mk (hi); clear HO_7; clear HB; clear HI219; have HO_7 := n0_; have HB := n1_; have HI219 := n2_; clear n0_ n1_ n2_; (try clear hb); (try clear hb2); (try clear hk); (try clear hi); obtain ⟨Ao37, co37, eo37⟩ := Kd.R_slice HO_7.out; subst eo37) | (go_at_call 95; (with_reducible refine (oid_is.calls kj4 _ _ x7_4 false _ ?side1 ?side2 A30.out).mono ?_); (case side1 => repeat (first | exact (Kd.R_reads' HO_7.out).2.2 | (with_reducible refine Kd.C_alloc ?_ _) | (with_reducible refine Kd.C_drewN ?_ _) | (with_reducible refine Kd.C_drew ?_))); (case side2 => exact (Kd.R_reads' HO_7.out).2.1); rintro e w' ⟨rfl, ⟨nd, rfl⟩⟩))
          go_ret2
          exact ⟨by first | rfl | (simp only [i64_w, i32_w]; rfl) | (simp [errW_none, errW_some] <;> rfl) | (simp only [← hji4]; first | rfl | (simp [errW_none, errW_some] <;> rfl)) | (simp [*, errW_none, errW_some] <;> rfl), by repeat (first | (with_reducible first | exact HB.out | apply below_alloc | apply pw_below_drewN | apply below_drew1 | refine below_set ?_ (IsS160.ge HI219.out)) | exact HB.out)⟩
      · rw [if_neg c29] at H
        have c29b0 : (t238 == 0) = false := beq_eq_false_iff_ne.mpr c29
        have c29b1 : (t238 != 0) = true := bne_iff_ne.mpr c29
        simp only [Option.some.injEq, Prod.mk.injEq] at H
        obtain ⟨rfl, rfl⟩ := H
        go_wp2_with (first | ((with_reducible refine gate_callee (f := 101) rfl ?_); refine goesL_ (some 40) rfl rfl Tryz.func101 (by kernel_rfl) rfl #[.pointer (some ⟨g219, 0, none⟩)] rfl (by (try simp only [List.map_toArray, List.map_cons, List.map_nil]); first | done | rfl | (simp only [List.length_drop, List.length_take]; rfl)) ?_; (with_reducible refine (octet_Reader_Code.calls g219 x220000_4 x220001_4 t238 t239 t240 w _ ?side1 ?side2 A28.out).mono ?_); (case side1 => repeat (first | (with_reducible first | exact HI219.out | apply IsS160.alloc | apply IsS160.drewN | apply IsS160.drew | apply IsS160.set_0 | apply IsS160.set_1) | exact HI219.out)); (case side2 => repeat (first | (with_reducible first | exact HB.out | apply below_alloc | apply pw_below_drewN | apply below_drew1 | refine below_set ?_ (IsS160.ge HI219.out)) | exact HB.out)); rintro e w38 ⟨rfl, hi, hb, hk⟩; refine ⟨_, rfl, ?_⟩; have n0_ := Aside0.mk (Kd.R_mono (Kd.R_keep (IsS160.apart (show IsS160 w _ g219 x220000_4 x220001_4 from by repeat (first | (with_reducible first | exact HI219.out | apply IsS160.alloc | apply IsS160.drewN | apply IsS160.drew | apply IsS160.set_0 | apply IsS160.set_1) | exact HI219.out)) (by (with_reducible repeat (first | apply Kd.R_alloc | apply Kd.R_drewN | apply Kd.R_drew)); exact HO_7.out) (by decide)) hk (fun _ h => h.2)) (fun _ h => h.1)); have n1_ := Aside0.mk (hb); have n2_ := Aside0.mk (hi); clear HO_7; clear HB; clear HI219; have HO_7 := n0_; have HB := n1_; have HI219 := n2_; clear n0_ n1_ n2_; (try clear hb); (try clear hb2); (try clear hk); (try clear hi)))
        go_ret2
        exact ⟨by first | rfl | (simp only [i64_w, i32_w]; rfl) | (simp [errW_none, errW_some] <;> rfl) | (simp only [← hji4]; first | rfl | (simp [errW_none, errW_some] <;> rfl)) | (simp [*, errW_none, errW_some] <;> rfl), by repeat (first | (with_reducible first | exact HB.out | apply below_alloc | apply pw_below_drewN | apply below_drew1 | refine below_set ?_ (IsS160.ge HI219.out)) | exact HB.out)⟩

/-! ### value_Decode: function 39 -/
def value_Decode.fin (k : Nat) (kind n : Int) (s : ByteArray) (e : Int) : Option (Int × Int × ByteArray × Int) :=
  if e = 0 then (value_right.f k kind n s).bind fun t => if t = true then some (kind, n, s, 0) else some (0, 0, ⟨#[]⟩, 70) else some (0, 0, ⟨#[]⟩, 70)
def value_Decode.f (k : Nat) (a0_0 : Int) (a0_1 : ByteArray) : Option (Int × Int × ByteArray × Int) := (value_of.f a0_0).bind fun t =>
  if t = 1 then (ber_Number.f a0_1).bind fun r => value_Decode.fin k a0_0 r.1 ⟨#[]⟩ r.2 else
  if t = 2 then (ber_Unsigned.f a0_1).bind fun r => value_Decode.fin k a0_0 (wrap64 r.1) ⟨#[]⟩ r.2 else
  if t = 4 then (oid_Decode.f k a0_1).bind fun r => value_Decode.fin k a0_0 0 r.1 r.2 else value_Decode.fin k a0_0 0 a0_1 0
theorem value_Decode.fin_mono (kind n : Int) (s : ByteArray) (e : Int) (k : Nat) : LeO (value_Decode.fin k kind n s e) (value_Decode.fin (k + 1) kind n s e) := by
  unfold value_Decode.fin
  split
  · exact LeO.bind (value_right.mono _ _ _ _) (fun _ => LeO.refl _)
  · exact LeO.refl _
theorem value_Decode.mono : ∀ a0 a1 k, LeO (value_Decode.f k a0 a1) (value_Decode.f (k + 1) a0 a1) := by
  intro a0 a1 k
  unfold value_Decode.f
  refine LeO.bind (LeO.refl _) (fun t => ?_)
  split
  · exact LeO.bind (LeO.refl _) (fun _ => value_Decode.fin_mono _ _ _ _ k)
  · split
    · exact LeO.bind (LeO.refl _) (fun _ => value_Decode.fin_mono _ _ _ _ k)
    · split
      · exact LeO.bind (oid_Decode.mono _ _) (fun _ => value_Decode.fin_mono _ _ _ _ k)
      · exact value_Decode.fin_mono _ _ _ _ k
set_option maxHeartbeats 8000000 in
set_option maxRecDepth 100000 in
theorem value_Decode.calls (k : Nat) (a0_0 : Int) (a0_1 : ByteArray) (r1 : Int) (r2 : Int) (r3 : ByteArray) (r4 : Int) (w : World) (hG : Gl w) (h : value_Decode.f k a0_0 a0_1 = some (r1, r2, r3, r4)) :
    Calls Tryz.prog 39 #[.agg #[.int .i64 a0_0, .string a0_1]] w fun e w' => e = .returned (.tuple #[.agg #[.int .i64 r1, .int .i64 r2, .string r3], .int .i64 r4]) ∧ Below w.heap.size w w' := by
  have HGl := Aside0.mk hG
  unfold value_Decode.f at h
  obtain ⟨t, hof, h⟩ := Option.bind_eq_some_iff.1 h
  have HOF := Aside0.mk hof
  clear hG hof
  go_enter Tryz.func39, Tryz.ntmps39
  go_wp2_with fail
  obtain ⟨w3, hw3⟩ : ∃ w3, w3 = (((w.alloc (.cells #[.int .i64 a0_0, .string a0_1] 50)).alloc (.cells #[.int .i64 0, .int .i64 0, .string ⟨#[]⟩] 28)).alloc (.cells #[.int .i64 a0_0, .int .i64 0, .string ⟨#[]⟩] 28)) := ⟨_, rfl⟩
  have H1 := Aside0.mk (show w3.heap[w.heap.size]? = some (.cells #[.int .i64 a0_0, .string a0_1] 50 (0, 0)) by rw [hw3]; exact blk_alloc (blk_alloc (heap_alloc_new w _) _) _)
  have H2 := Aside0.mk (show w3.heap[w.heap.size + 1]? = some (.cells #[.int .i64 0, .int .i64 0, .string ⟨#[]⟩] 28 (0, 0)) by
    rw [hw3]; refine blk_alloc ?_ _
    have := heap_alloc_new (w.alloc (.cells #[.int .i64 a0_0, .string a0_1] 50)) (.cells #[.int .i64 0, .int .i64 0, .string ⟨#[]⟩] 28)
    simpa using this)
  have H4 := Aside0.mk (show w3.heap[w.heap.size + 1 + 1]? = some (.cells #[.int .i64 a0_0, .int .i64 0, .string ⟨#[]⟩] 28 (0, 0)) by
    rw [hw3]
    have := heap_alloc_new ((w.alloc (.cells #[.int .i64 a0_0, .string a0_1] 50)).alloc (.cells #[.int .i64 0, .int .i64 0, .string ⟨#[]⟩] 28)) (.cells #[.int .i64 a0_0, .int .i64 0, .string ⟨#[]⟩] 28)
    simpa using this)
  have HB := Aside0.mk (show Below w.heap.size w w3 by rw [hw3]; exact below_alloc (below_alloc (below_alloc (Below.refl _ _) _) _) _)
  rw [← hw3]
  obtain ⟨b2, hb2⟩ : ∃ b2, b2 = w.heap.size + 1 := ⟨_, rfl⟩
  obtain ⟨b4, hb4⟩ : ∃ b4, b4 = w.heap.size + 1 + 1 := ⟨_, rfl⟩
  rw [← hb4, ← hb2]
  rw [← hb2] at H2
  rw [← hb4] at H4
  have HN := Aside0.mk (show w.heap.size ≤ b2 ∧ w.heap.size ≤ b4 ∧ b2 ≠ b4 ∧ w.heap.size ≠ b4 by omega)
  have n1 : b2 ≠ b4 := by omega
  have n2 : b4 ≠ b2 := by omega
  have n3 : w.heap.size ≠ b4 := by omega
  clear hb4 hb2 hw3
  refine (value_of.calls a0_0 t w3 HOF.out).mono ?_
  rintro e w' ⟨rfl, ⟨nd, rfl⟩⟩
  have H1d := Aside0.mk (show (w3.drewN nd).heap[w.heap.size]? = _ from H1.out)
  have H2d := Aside0.mk (show (w3.drewN nd).heap[b2]? = _ from H2.out)
  have H4d := Aside0.mk (show (w3.drewN nd).heap[b4]? = _ from H4.out)
  have HBd := Aside0.mk (show Below w.heap.size w (w3.drewN nd) from pw_below_drewN HB.out nd)
  obtain ⟨w4, hw4⟩ : ∃ w4, w4 = w3.drewN nd := ⟨_, rfl⟩
  rw [← hw4] at H1d H2d H4d HBd ⊢
  clear hw4 H1 H2 H4 HB HOF
  by_cases ht1 : t = 1
  · subst ht1
    rw [if_pos rfl] at h
    obtain ⟨⟨x, ec⟩, hF, h⟩ := Option.bind_eq_some_iff.1 h
    simp only at h
    have HF := Aside0.mk hF
    clear hF
    have c1 := (blk_cell H1d.out 1).trans rfl
    go_wp2_with fail
    refine (ber_Number.calls a0_1 x ec w4 HF.out).mono ?_
    rintro e w5 ⟨rfl, hb5⟩
    clear c1
    have K4 := Aside0.mk ((Mv.of_below (S := fun _ => False) hb5).heap H4d.out id)
    have K2 := Aside0.mk ((Mv.of_below (S := fun _ => False) hb5).heap H2d.out id)
    have KB := Aside0.mk (Below.trans HBd.out (Below.mono hb5 HBd.out.size))
    clear hb5 H4d H2d HBd H1d HF
    have x0 := (blk_cell K4.out 1).trans rfl
    have y0 := blk_frozen K4.out 1
    go_upto_region 13 with (fail)
    clear x0 y0
    obtain ⟨w6, hw6⟩ : ∃ w6, w6 = w5.setCell ⟨b4, 1, none⟩ (.int .i64 x) := ⟨_, rfl⟩
    have H4s := Aside0.mk (show w6.heap[b4]? = some (.cells #[.int .i64 a0_0, .int .i64 x, .string ⟨#[]⟩] 28 (0, 0)) by rw [hw6]; exact blk_put K4.out 1 _ rfl)
    have H2s := Aside0.mk (show w6.heap[b2]? = some (.cells #[.int .i64 0, .int .i64 0, .string ⟨#[]⟩] 28 (0, 0)) by rw [hw6]; exact blk_far K2.out HN.out.2.2.1 _)
    have HBs := Aside0.mk (show Below w.heap.size w w6 by rw [hw6]; exact below_set KB.out HN.out.2.1)
    rw [← hw6]
    clear hw6 K4 K2 KB
    unfold value_Decode.fin at h
    by_cases hec : ec = 0
    · rw [if_pos hec] at h
      subst hec
      obtain ⟨tt, hR, h⟩ := Option.bind_eq_some_iff.1 h
      have HR := Aside0.mk hR
      clear hR
      have z0 := (blk_cell H4s.out 0).trans rfl
      have z1 := (blk_cell H4s.out 1).trans rfl
      have z2 := (blk_cell H4s.out 2).trans rfl
      go_wp2_with fail
      refine (value_right.calls k a0_0 x ⟨#[]⟩ tt w6 (HGl.out.below HBs.out) HR.out).mono ?_
      rintro e w7 ⟨rfl, hb7⟩
      clear z0 z1 z2
      have H2r := Aside0.mk ((Mv.of_below (S := fun _ => False) hb7).heap H2s.out id)
      have H4r := Aside0.mk ((Mv.of_below (S := fun _ => False) hb7).heap H4s.out id)
      have HBr := Aside0.mk (Below.trans HBs.out (Below.mono hb7 HBs.out.size))
      clear hb7 H2s H4s HBs
      have x0 := (blk_cell H2r.out 0).trans rfl
      have x1 := (blk_cell H2r.out 1).trans rfl
      have x2 := (blk_cell H2r.out 2).trans rfl
      have y0 := blk_frozen H2r.out 0
      have y1 := blk_frozen H2r.out 1
      have y2 := blk_frozen H2r.out 2
      have z0 := (blk_cell H4r.out 0).trans rfl
      have z1 := (blk_cell H4r.out 1).trans rfl
      have z2 := (blk_cell H4r.out 2).trans rfl
      cases tt with
      | true =>
        rw [if_pos rfl] at h
        simp only [Option.some.injEq, Prod.mk.injEq] at h
        obtain ⟨rfl, rfl, rfl, rfl⟩ := h
        go_wp2
        refine bodyPost_ret (results_ct rfl _ _ b2 28 #[.int .i64 a0_0, .int .i64 x, .string ⟨#[]⟩] (0, 0) _ rfl (by
          refine blk_put (cs := #[.int .i64 a0_0, .int .i64 x, .string ⟨#[]⟩]) ?_ 2 _ rfl
          refine blk_put (cs := #[.int .i64 a0_0, .int .i64 0, .string ⟨#[]⟩]) ?_ 1 _ rfl
          refine blk_put (cs := #[.int .i64 0, .int .i64 0, .string ⟨#[]⟩]) ?_ 0 _ rfl
          exact H2r.out) Tryz.underlying28 rfl (by kernel_rfl)) rfl ?_
        exact ⟨rfl, below_set (below_set (below_set HBr.out HN.out.1) HN.out.1) HN.out.1⟩
      | false =>
        rw [if_neg (by simp)] at h
        simp only [Option.some.injEq, Prod.mk.injEq] at h
        obtain ⟨rfl, rfl, rfl, rfl⟩ := h
        go_wp2
        refine bodyPost_ret (results_ct rfl _ _ b2 28 #[.int .i64 0, .int .i64 0, .string ⟨#[]⟩] (0, 0) _ rfl (by
          refine blk_put (cs := #[.int .i64 0, .int .i64 0, .string ⟨#[]⟩]) ?_ 2 _ rfl
          refine blk_put (cs := #[.int .i64 0, .int .i64 0, .string ⟨#[]⟩]) ?_ 1 _ rfl
          refine blk_put (cs := #[.int .i64 0, .int .i64 0, .string ⟨#[]⟩]) ?_ 0 _ rfl
          exact H2r.out) Tryz.underlying28 rfl (by kernel_rfl)) rfl ?_
        exact ⟨rfl, below_set (below_set (below_set HBr.out HN.out.1) HN.out.1) HN.out.1⟩
    · rw [if_neg hec] at h
      have d1 : (ec != 0) = true := bne_iff_ne.mpr hec
      have d2 := eq_false hec
      clear hec
      simp only [Option.some.injEq, Prod.mk.injEq] at h
      obtain ⟨rfl, rfl, rfl, rfl⟩ := h
      have x0 := (blk_cell H2s.out 0).trans rfl
      have x1 := (blk_cell H2s.out 1).trans rfl
      have x2 := (blk_cell H2s.out 2).trans rfl
      have y0 := blk_frozen H2s.out 0
      have y1 := blk_frozen H2s.out 1
      have y2 := blk_frozen H2s.out 2
      go_wp2
      refine bodyPost_ret (results_ct rfl _ _ b2 28 #[.int .i64 0, .int .i64 0, .string ⟨#[]⟩] (0, 0) _ rfl (by
        refine blk_put (cs := #[.int .i64 0, .int .i64 0, .string ⟨#[]⟩]) ?_ 2 _ rfl
        refine blk_put (cs := #[.int .i64 0, .int .i64 0, .string ⟨#[]⟩]) ?_ 1 _ rfl
        refine blk_put (cs := #[.int .i64 0, .int .i64 0, .string ⟨#[]⟩]) ?_ 0 _ rfl
        exact H2s.out) Tryz.underlying28 rfl (by kernel_rfl)) rfl ?_
      exact ⟨rfl, below_set (below_set (below_set HBs.out HN.out.1) HN.out.1) HN.out.1⟩
  rw [if_neg ht1] at h
  have e1 : (t == 1) = false := beq_eq_false_iff_ne.mpr ht1
  have e1' := eq_false ht1
  clear ht1
  by_cases ht2 : t = 2
  · subst ht2
    rw [if_pos rfl] at h
    obtain ⟨⟨x, ec⟩, hF, h⟩ := Option.bind_eq_some_iff.1 h
    simp only at h
    have HF := Aside0.mk hF
    clear hF
    have c1 := (blk_cell H1d.out 1).trans rfl
    go_wp2_with fail
    refine (ber_Unsigned.calls a0_1 x ec w4 HF.out).mono ?_
    rintro e w5 ⟨rfl, hb5⟩
    clear c1
    have K4 := Aside0.mk ((Mv.of_below (S := fun _ => False) hb5).heap H4d.out id)
    have K2 := Aside0.mk ((Mv.of_below (S := fun _ => False) hb5).heap H2d.out id)
    have KB := Aside0.mk (Below.trans HBd.out (Below.mono hb5 HBd.out.size))
    clear hb5 H4d H2d HBd H1d HF
    have x0 := (blk_cell K4.out 1).trans rfl
    have y0 := blk_frozen K4.out 1
    go_upto_region 13 with (fail)
    clear x0 y0
    obtain ⟨w6, hw6⟩ : ∃ w6, w6 = w5.setCell ⟨b4, 1, none⟩ (.int .i64 (wrap64 x)) := ⟨_, rfl⟩
    have H4s := Aside0.mk (show w6.heap[b4]? = some (.cells #[.int .i64 a0_0, .int .i64 (wrap64 x), .string ⟨#[]⟩] 28 (0, 0)) by rw [hw6]; exact blk_put K4.out 1 _ rfl)
    have H2s := Aside0.mk (show w6.heap[b2]? = some (.cells #[.int .i64 0, .int .i64 0, .string ⟨#[]⟩] 28 (0, 0)) by rw [hw6]; exact blk_far K2.out HN.out.2.2.1 _)
    have HBs := Aside0.mk (show Below w.heap.size w w6 by rw [hw6]; exact below_set KB.out HN.out.2.1)
    rw [← hw6]
    clear hw6 K4 K2 KB
    unfold value_Decode.fin at h
    by_cases hec : ec = 0
    · rw [if_pos hec] at h
      subst hec
      obtain ⟨tt, hR, h⟩ := Option.bind_eq_some_iff.1 h
      have HR := Aside0.mk hR
      clear hR
      have z0 := (blk_cell H4s.out 0).trans rfl
      have z1 := (blk_cell H4s.out 1).trans rfl
      have z2 := (blk_cell H4s.out 2).trans rfl
      go_wp2_with fail
      refine (value_right.calls k a0_0 (wrap64 x) ⟨#[]⟩ tt w6 (HGl.out.below HBs.out) HR.out).mono ?_
      rintro e w7 ⟨rfl, hb7⟩
      clear z0 z1 z2
      have H2r := Aside0.mk ((Mv.of_below (S := fun _ => False) hb7).heap H2s.out id)
      have H4r := Aside0.mk ((Mv.of_below (S := fun _ => False) hb7).heap H4s.out id)
      have HBr := Aside0.mk (Below.trans HBs.out (Below.mono hb7 HBs.out.size))
      clear hb7 H2s H4s HBs
      have x0 := (blk_cell H2r.out 0).trans rfl
      have x1 := (blk_cell H2r.out 1).trans rfl
      have x2 := (blk_cell H2r.out 2).trans rfl
      have y0 := blk_frozen H2r.out 0
      have y1 := blk_frozen H2r.out 1
      have y2 := blk_frozen H2r.out 2
      have z0 := (blk_cell H4r.out 0).trans rfl
      have z1 := (blk_cell H4r.out 1).trans rfl
      have z2 := (blk_cell H4r.out 2).trans rfl
      cases tt with
      | true =>
        rw [if_pos rfl] at h
        simp only [Option.some.injEq, Prod.mk.injEq] at h
        obtain ⟨rfl, rfl, rfl, rfl⟩ := h
        go_wp2
        refine bodyPost_ret (results_ct rfl _ _ b2 28 #[.int .i64 a0_0, .int .i64 (wrap64 x), .string ⟨#[]⟩] (0, 0) _ rfl (by
          refine blk_put (cs := #[.int .i64 a0_0, .int .i64 (wrap64 x), .string ⟨#[]⟩]) ?_ 2 _ rfl
          refine blk_put (cs := #[.int .i64 a0_0, .int .i64 0, .string ⟨#[]⟩]) ?_ 1 _ rfl
          refine blk_put (cs := #[.int .i64 0, .int .i64 0, .string ⟨#[]⟩]) ?_ 0 _ rfl
          exact H2r.out) Tryz.underlying28 rfl (by kernel_rfl)) rfl ?_
        exact ⟨rfl, below_set (below_set (below_set HBr.out HN.out.1) HN.out.1) HN.out.1⟩
      | false =>
        rw [if_neg (by simp)] at h
        simp only [Option.some.injEq, Prod.mk.injEq] at h
        obtain ⟨rfl, rfl, rfl, rfl⟩ := h
        go_wp2
        refine bodyPost_ret (results_ct rfl _ _ b2 28 #[.int .i64 0, .int .i64 0, .string ⟨#[]⟩] (0, 0) _ rfl (by
          refine blk_put (cs := #[.int .i64 0, .int .i64 0, .string ⟨#[]⟩]) ?_ 2 _ rfl
          refine blk_put (cs := #[.int .i64 0, .int .i64 0, .string ⟨#[]⟩]) ?_ 1 _ rfl
          refine blk_put (cs := #[.int .i64 0, .int .i64 0, .string ⟨#[]⟩]) ?_ 0 _ rfl
          exact H2r.out) Tryz.underlying28 rfl (by kernel_rfl)) rfl ?_
        exact ⟨rfl, below_set (below_set (below_set HBr.out HN.out.1) HN.out.1) HN.out.1⟩
    · rw [if_neg hec] at h
      have d1 : (ec != 0) = true := bne_iff_ne.mpr hec
      have d2 := eq_false hec
      clear hec
      simp only [Option.some.injEq, Prod.mk.injEq] at h
      obtain ⟨rfl, rfl, rfl, rfl⟩ := h
      have x0 := (blk_cell H2s.out 0).trans rfl
      have x1 := (blk_cell H2s.out 1).trans rfl
      have x2 := (blk_cell H2s.out 2).trans rfl
      have y0 := blk_frozen H2s.out 0
      have y1 := blk_frozen H2s.out 1
      have y2 := blk_frozen H2s.out 2
      go_wp2
      refine bodyPost_ret (results_ct rfl _ _ b2 28 #[.int .i64 0, .int .i64 0, .string ⟨#[]⟩] (0, 0) _ rfl (by
        refine blk_put (cs := #[.int .i64 0, .int .i64 0, .string ⟨#[]⟩]) ?_ 2 _ rfl
        refine blk_put (cs := #[.int .i64 0, .int .i64 0, .string ⟨#[]⟩]) ?_ 1 _ rfl
        refine blk_put (cs := #[.int .i64 0, .int .i64 0, .string ⟨#[]⟩]) ?_ 0 _ rfl
        exact H2s.out) Tryz.underlying28 rfl (by kernel_rfl)) rfl ?_
      exact ⟨rfl, below_set (below_set (below_set HBs.out HN.out.1) HN.out.1) HN.out.1⟩
  rw [if_neg ht2] at h
  have e2 : (t == 2) = false := beq_eq_false_iff_ne.mpr ht2
  have e2' := eq_false ht2
  clear ht2
  by_cases ht4 : t = 4
  · subst ht4
    rw [if_pos rfl] at h
    obtain ⟨⟨x, ec⟩, hF, h⟩ := Option.bind_eq_some_iff.1 h
    simp only at h
    have HF := Aside0.mk hF
    clear hF
    have c1 := (blk_cell H1d.out 1).trans rfl
    go_wp2_with fail
    refine (oid_Decode.calls k a0_1 x ec w4 (HGl.out.below HBd.out) HF.out).mono ?_
    rintro e w5 ⟨rfl, hb5⟩
    clear c1
    have K4 := Aside0.mk ((Mv.of_below (S := fun _ => False) hb5).heap H4d.out id)
    have K2 := Aside0.mk ((Mv.of_below (S := fun _ => False) hb5).heap H2d.out id)
    have KB := Aside0.mk (Below.trans HBd.out (Below.mono hb5 HBd.out.size))
    clear hb5 H4d H2d HBd H1d HF
    have x0 := (blk_cell K4.out 2).trans rfl
    have y0 := blk_frozen K4.out 2
    go_upto_region 13 with (fail)
    clear x0 y0
    obtain ⟨w6, hw6⟩ : ∃ w6, w6 = w5.setCell ⟨b4, 2, none⟩ (.string x) := ⟨_, rfl⟩
    have H4s := Aside0.mk (show w6.heap[b4]? = some (.cells #[.int .i64 a0_0, .int .i64 0, .string x] 28 (0, 0)) by rw [hw6]; exact blk_put K4.out 2 _ rfl)
    have H2s := Aside0.mk (show w6.heap[b2]? = some (.cells #[.int .i64 0, .int .i64 0, .string ⟨#[]⟩] 28 (0, 0)) by rw [hw6]; exact blk_far K2.out HN.out.2.2.1 _)
    have HBs := Aside0.mk (show Below w.heap.size w w6 by rw [hw6]; exact below_set KB.out HN.out.2.1)
    rw [← hw6]
    clear hw6 K4 K2 KB
    unfold value_Decode.fin at h
    by_cases hec : ec = 0
    · rw [if_pos hec] at h
      subst hec
      obtain ⟨tt, hR, h⟩ := Option.bind_eq_some_iff.1 h
      have HR := Aside0.mk hR
      clear hR
      have z0 := (blk_cell H4s.out 0).trans rfl
      have z1 := (blk_cell H4s.out 1).trans rfl
      have z2 := (blk_cell H4s.out 2).trans rfl
      go_wp2_with fail
      refine (value_right.calls k a0_0 0 x tt w6 (HGl.out.below HBs.out) HR.out).mono ?_
      rintro e w7 ⟨rfl, hb7⟩
      clear z0 z1 z2
      have H2r := Aside0.mk ((Mv.of_below (S := fun _ => False) hb7).heap H2s.out id)
      have H4r := Aside0.mk ((Mv.of_below (S := fun _ => False) hb7).heap H4s.out id)
      have HBr := Aside0.mk (Below.trans HBs.out (Below.mono hb7 HBs.out.size))
      clear hb7 H2s H4s HBs
      have x0 := (blk_cell H2r.out 0).trans rfl
      have x1 := (blk_cell H2r.out 1).trans rfl
      have x2 := (blk_cell H2r.out 2).trans rfl
      have y0 := blk_frozen H2r.out 0
      have y1 := blk_frozen H2r.out 1
      have y2 := blk_frozen H2r.out 2
      have z0 := (blk_cell H4r.out 0).trans rfl
      have z1 := (blk_cell H4r.out 1).trans rfl
      have z2 := (blk_cell H4r.out 2).trans rfl
      cases tt with
      | true =>
        rw [if_pos rfl] at h
        simp only [Option.some.injEq, Prod.mk.injEq] at h
        obtain ⟨rfl, rfl, rfl, rfl⟩ := h
        go_wp2
        refine bodyPost_ret (results_ct rfl _ _ b2 28 #[.int .i64 a0_0, .int .i64 0, .string x] (0, 0) _ rfl (by
          refine blk_put (cs := #[.int .i64 a0_0, .int .i64 0, .string ⟨#[]⟩]) ?_ 2 _ rfl
          refine blk_put (cs := #[.int .i64 a0_0, .int .i64 0, .string ⟨#[]⟩]) ?_ 1 _ rfl
          refine blk_put (cs := #[.int .i64 0, .int .i64 0, .string ⟨#[]⟩]) ?_ 0 _ rfl
          exact H2r.out) Tryz.underlying28 rfl (by kernel_rfl)) rfl ?_
        exact ⟨rfl, below_set (below_set (below_set HBr.out HN.out.1) HN.out.1) HN.out.1⟩
      | false =>
        rw [if_neg (by simp)] at h
        simp only [Option.some.injEq, Prod.mk.injEq] at h
        obtain ⟨rfl, rfl, rfl, rfl⟩ := h
        go_wp2
        refine bodyPost_ret (results_ct rfl _ _ b2 28 #[.int .i64 0, .int .i64 0, .string ⟨#[]⟩] (0, 0) _ rfl (by
          refine blk_put (cs := #[.int .i64 0, .int .i64 0, .string ⟨#[]⟩]) ?_ 2 _ rfl
          refine blk_put (cs := #[.int .i64 0, .int .i64 0, .string ⟨#[]⟩]) ?_ 1 _ rfl
          refine blk_put (cs := #[.int .i64 0, .int .i64 0, .string ⟨#[]⟩]) ?_ 0 _ rfl
          exact H2r.out) Tryz.underlying28 rfl (by kernel_rfl)) rfl ?_
        exact ⟨rfl, below_set (below_set (below_set HBr.out HN.out.1) HN.out.1) HN.out.1⟩
    · rw [if_neg hec] at h
      have d1 : (ec != 0) = true := bne_iff_ne.mpr hec
      have d2 := eq_false hec
      clear hec
      simp only [Option.some.injEq, Prod.mk.injEq] at h
      obtain ⟨rfl, rfl, rfl, rfl⟩ := h
      have x0 := (blk_cell H2s.out 0).trans rfl
      have x1 := (blk_cell H2s.out 1).trans rfl
      have x2 := (blk_cell H2s.out 2).trans rfl
      have y0 := blk_frozen H2s.out 0
      have y1 := blk_frozen H2s.out 1
      have y2 := blk_frozen H2s.out 2
      go_wp2
      refine bodyPost_ret (results_ct rfl _ _ b2 28 #[.int .i64 0, .int .i64 0, .string ⟨#[]⟩] (0, 0) _ rfl (by
        refine blk_put (cs := #[.int .i64 0, .int .i64 0, .string ⟨#[]⟩]) ?_ 2 _ rfl
        refine blk_put (cs := #[.int .i64 0, .int .i64 0, .string ⟨#[]⟩]) ?_ 1 _ rfl
        refine blk_put (cs := #[.int .i64 0, .int .i64 0, .string ⟨#[]⟩]) ?_ 0 _ rfl
        exact H2s.out) Tryz.underlying28 rfl (by kernel_rfl)) rfl ?_
      exact ⟨rfl, below_set (below_set (below_set HBs.out HN.out.1) HN.out.1) HN.out.1⟩
  rw [if_neg ht4] at h
  have e4 : (t == 4) = false := beq_eq_false_iff_ne.mpr ht4
  have e4' := eq_false ht4
  clear ht4
  have c1 := (blk_cell H1d.out 1).trans rfl
  have K4 := Aside0.mk H4d.out
  have K2 := Aside0.mk H2d.out
  have KB := Aside0.mk HBd.out
  have x0 := (blk_cell K4.out 2).trans rfl
  have y0 := blk_frozen K4.out 2
  go_upto_region 13 with (fail)
  clear x0 y0
  obtain ⟨w6, hw6⟩ : ∃ w6, w6 = w4.setCell ⟨b4, 2, none⟩ (.string a0_1) := ⟨_, rfl⟩
  have H4s := Aside0.mk (show w6.heap[b4]? = some (.cells #[.int .i64 a0_0, .int .i64 0, .string a0_1] 28 (0, 0)) by rw [hw6]; exact blk_put K4.out 2 _ rfl)
  have H2s := Aside0.mk (show w6.heap[b2]? = some (.cells #[.int .i64 0, .int .i64 0, .string ⟨#[]⟩] 28 (0, 0)) by rw [hw6]; exact blk_far K2.out HN.out.2.2.1 _)
  have HBs := Aside0.mk (show Below w.heap.size w w6 by rw [hw6]; exact below_set KB.out HN.out.2.1)
  rw [← hw6]
  clear hw6 K4 K2 KB
  clear c1 H1d H2d H4d HBd
  unfold value_Decode.fin at h
  rw [if_pos rfl] at h
  obtain ⟨tt, hR, h⟩ := Option.bind_eq_some_iff.1 h
  have HR := Aside0.mk hR
  clear hR
  have z0 := (blk_cell H4s.out 0).trans rfl
  have z1 := (blk_cell H4s.out 1).trans rfl
  have z2 := (blk_cell H4s.out 2).trans rfl
  go_wp2_with fail
  refine (value_right.calls k a0_0 0 a0_1 tt w6 (HGl.out.below HBs.out) HR.out).mono ?_
  rintro e w7 ⟨rfl, hb7⟩
  clear z0 z1 z2
  have H2r := Aside0.mk ((Mv.of_below (S := fun _ => False) hb7).heap H2s.out id)
  have H4r := Aside0.mk ((Mv.of_below (S := fun _ => False) hb7).heap H4s.out id)
  have HBr := Aside0.mk (Below.trans HBs.out (Below.mono hb7 HBs.out.size))
  clear hb7 H2s H4s HBs
  have x0 := (blk_cell H2r.out 0).trans rfl
  have x1 := (blk_cell H2r.out 1).trans rfl
  have x2 := (blk_cell H2r.out 2).trans rfl
  have y0 := blk_frozen H2r.out 0
  have y1 := blk_frozen H2r.out 1
  have y2 := blk_frozen H2r.out 2
  have z0 := (blk_cell H4r.out 0).trans rfl
  have z1 := (blk_cell H4r.out 1).trans rfl
  have z2 := (blk_cell H4r.out 2).trans rfl
  cases tt with
  | true =>
    rw [if_pos rfl] at h
    simp only [Option.some.injEq, Prod.mk.injEq] at h
    obtain ⟨rfl, rfl, rfl, rfl⟩ := h
    go_wp2
    refine bodyPost_ret (results_ct rfl _ _ b2 28 #[.int .i64 a0_0, .int .i64 0, .string a0_1] (0, 0) _ rfl (by
      refine blk_put (cs := #[.int .i64 a0_0, .int .i64 0, .string ⟨#[]⟩]) ?_ 2 _ rfl
      refine blk_put (cs := #[.int .i64 a0_0, .int .i64 0, .string ⟨#[]⟩]) ?_ 1 _ rfl
      refine blk_put (cs := #[.int .i64 0, .int .i64 0, .string ⟨#[]⟩]) ?_ 0 _ rfl
      exact H2r.out) Tryz.underlying28 rfl (by kernel_rfl)) rfl ?_
    exact ⟨rfl, below_set (below_set (below_set HBr.out HN.out.1) HN.out.1) HN.out.1⟩
  | false =>
    rw [if_neg (by simp)] at h
    simp only [Option.some.injEq, Prod.mk.injEq] at h
    obtain ⟨rfl, rfl, rfl, rfl⟩ := h
    go_wp2
    refine bodyPost_ret (results_ct rfl _ _ b2 28 #[.int .i64 0, .int .i64 0, .string ⟨#[]⟩] (0, 0) _ rfl (by
      refine blk_put (cs := #[.int .i64 0, .int .i64 0, .string ⟨#[]⟩]) ?_ 2 _ rfl
      refine blk_put (cs := #[.int .i64 0, .int .i64 0, .string ⟨#[]⟩]) ?_ 1 _ rfl
      refine blk_put (cs := #[.int .i64 0, .int .i64 0, .string ⟨#[]⟩]) ?_ 0 _ rfl
      exact H2r.out) Tryz.underlying28 rfl (by kernel_rfl)) rfl ?_
    exact ⟨rfl, below_set (below_set (below_set HBr.out HN.out.1) HN.out.1) HN.out.1⟩

end Go.Proofs.YtjfimileopbadaaGreatDoor.XPdB
