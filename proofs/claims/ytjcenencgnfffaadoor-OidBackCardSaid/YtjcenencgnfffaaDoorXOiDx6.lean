-- Laid by extprint.py (the session's own driver): functions told by the kit's printer and by hand.
import Derived.Test.YtjcenencgnfffaaDoorXOiDx0
import Derived.Test.YtjcenencgnfffaaDoorXOiDx1
import Derived.Test.YtjcenencgnfffaaDoorXOiDx2
import Derived.Test.YtjcenencgnfffaaDoorXOiDx5
namespace Go.Proofs.YtjcenencgnfffaaDoor.XOiD
open Go.RowKit Gong Go.Proofs.YtjcenencgnfffaaDoorW.PrintWords Go.Proofs.YtjcenencgnfffaaDoorW.PrintLast Go.Proofs.YtjcenencgnfffaaDoorW.PrintMore
attribute [local go_sem] max2_int min2_int max_two min_two max_three min_three max_four min_four   -- for this text's walks alone
set_option linter.unusedVariables false
set_option linter.unusedSimpArgs false

/-! ### gonglaw06_OidBack: function 9 -/
def gonglaw06_OidBack.j0 : Nat → ByteArray → Bool → Option (Bool)
  | 0, _, _ => none
  | k + 1, x1, x62 => if x62 = true then (some false) else (if (x1.size : Int) > 500 then (some true) else ((oid_Decode.f k x1).bind fun bt232 => (if bt232.2 = 0 then ((oid_Encode.f k bt232.1).bind fun bt234 => (if bt234.2 = 0 then (some (bt234.1.toList == x1.toList)) else (some false))) else (if bt232.2 = 60 then (some (bt232.1.toList == ([] : List UInt8))) else (some false)))))
def gonglaw06_OidBack.f (k : Nat) (l0 : List Int) (a1 : ByteArray) : Option (Bool) := (gonglaw06_works.f k).bind fun t217 => (if t217 = true then ((gonglaw06_named.f k l0).bind fun t218 => ((oid_Text.f k t218).bind fun bt221 => ((oid_Arcs.f k bt221.1).bind fun bt223 => ((oid_Encode.f k bt221.1).bind fun bt227 => ((oid_Decode.f k bt227.1).bind fun bt229 => (if bt221.2 = 0 then (if bt223.2 = 0 then (if bt227.2 = 0 then (if bt229.2 = 0 then ((gongbook_SameInts.f k bt223.1 t218).bind fun t231 => (if t231 = true then (gonglaw06_OidBack.j0 k a1 (bt229.1.toList != bt221.1.toList)) else (gonglaw06_OidBack.j0 k a1 true))) else (gonglaw06_OidBack.j0 k a1 true)) else (gonglaw06_OidBack.j0 k a1 true)) else (gonglaw06_OidBack.j0 k a1 true)) else (gonglaw06_OidBack.j0 k a1 true))))))) else (some false))
theorem gonglaw06_OidBack.mono_l : ∀ k, (∀ y0 y1, LeO (gonglaw06_OidBack.j0 k y0 y1) (gonglaw06_OidBack.j0 (k + 1) y0 y1))
  | 0 => fun _ _ r h => by simp [gonglaw06_OidBack.j0] at h
  | k + 1 => by
    have ih0 := gonglaw06_OidBack.mono_l k
    · intro y0 y1
      unfold gonglaw06_OidBack.j0
      repeat' first
      | (with_reducible exact ih0 _ _)
      | (with_reducible exact gongbook_SameInts.mono _ _ _)
      | (with_reducible exact gonglaw06_named.mono _ _)
      | (with_reducible exact gonglaw06_works.mono _)
      | (with_reducible exact oid_Arcs.mono _ _)
      | (with_reducible exact oid_Decode.mono _ _)
      | (with_reducible exact oid_Encode.mono _ _)
      | (with_reducible exact oid_Text.mono _ _)
      | (with_reducible exact LeO.refl _)
      | (with_reducible exact LeO.none _)
      | (with_reducible refine LeO.ite ?_ ?_)
      | (with_reducible refine LeO.bind ?_ (fun _ => ?_))
      | exact ih0 _ _
      | exact gongbook_SameInts.mono _ _ _
      | exact gonglaw06_named.mono _ _
      | exact gonglaw06_works.mono _
      | exact oid_Arcs.mono _ _
      | exact oid_Decode.mono _ _
      | exact oid_Encode.mono _ _
      | exact oid_Text.mono _ _
      | exact LeO.none _
      | refine LeO.ite ?_ ?_
      | refine LeO.bind ?_ (fun _ => ?_)
theorem gonglaw06_OidBack.mono : ∀ a0 a1 k, LeO (gonglaw06_OidBack.f k a0 a1) (gonglaw06_OidBack.f (k + 1) a0 a1) := by
  intro a0 a1 k
  have ih0 := gonglaw06_OidBack.mono_l k
  unfold gonglaw06_OidBack.f
  repeat' first
      | (with_reducible exact ih0 _ _)
      | (with_reducible exact gongbook_SameInts.mono _ _ _)
      | (with_reducible exact gonglaw06_named.mono _ _)
      | (with_reducible exact gonglaw06_works.mono _)
      | (with_reducible exact oid_Arcs.mono _ _)
      | (with_reducible exact oid_Decode.mono _ _)
      | (with_reducible exact oid_Encode.mono _ _)
      | (with_reducible exact oid_Text.mono _ _)
      | (with_reducible exact LeO.refl _)
      | (with_reducible exact LeO.none _)
      | (with_reducible refine LeO.ite ?_ ?_)
      | (with_reducible refine LeO.bind ?_ (fun _ => ?_))
      | exact ih0 _ _
      | exact gongbook_SameInts.mono _ _ _
      | exact gonglaw06_named.mono _ _
      | exact gonglaw06_works.mono _
      | exact oid_Arcs.mono _ _
      | exact oid_Decode.mono _ _
      | exact oid_Encode.mono _ _
      | exact oid_Text.mono _ _
      | exact LeO.none _
      | refine LeO.ite ?_ ?_
      | refine LeO.bind ?_ (fun _ => ?_)
set_option maxHeartbeats 8000000 in
set_option maxRecDepth 100000 in
theorem gonglaw06_OidBack.calls (k : Nat) (A0 : Option Addr) (c0 : Nat) (l0 : List Int) (a1 : ByteArray) (r : Bool) (w : World) (hG : Gl w) (hr0 : Kd.C (Kd.int .i64) w A0 l0.length l0) (hc0 : l0.length ≤ c0) (h : gonglaw06_OidBack.f k l0 a1 = some r) :
    Calls Tryd.prog 9 #[.slice A0 l0.length c0, .string a1] w fun e w' => e = .returned (.bool r) ∧ Below w.heap.size w w' := by
  have HGl := Aside0.mk hG
  clear hG
  have HR0 := Aside0.mk hr0
  have HC0 := Aside0.mk hc0
  clear hr0 hc0
  have HB := Aside0.mk (Below.refl w.heap.size w)
  have H : ((gonglaw06_works.f k).bind fun t217 => (if t217 = true then ((gonglaw06_named.f k l0).bind fun t218 => ((oid_Text.f k t218).bind fun bt221 => ((oid_Arcs.f k bt221.1).bind fun bt223 => ((oid_Encode.f k bt221.1).bind fun bt227 => ((oid_Decode.f k bt227.1).bind fun bt229 => (if bt221.2 = 0 then (if bt223.2 = 0 then (if bt227.2 = 0 then (if bt229.2 = 0 then ((gongbook_SameInts.f k bt223.1 t218).bind fun t231 => (if t231 = true then (gonglaw06_OidBack.j0 k a1 (bt229.1.toList != bt221.1.toList)) else (gonglaw06_OidBack.j0 k a1 true))) else (gonglaw06_OidBack.j0 k a1 true)) else (gonglaw06_OidBack.j0 k a1 true)) else (gonglaw06_OidBack.j0 k a1 true)) else (gonglaw06_OidBack.j0 k a1 true))))))) else (some false))) = some r := h
  clear h
  replace H := Option.bind_eq_some_iff.mp H
  obtain ⟨t217, A30, H⟩ := H
  replace H : (if t217 = true then ((gonglaw06_named.f k l0).bind fun t218 => ((oid_Text.f k t218).bind fun bt221 => ((oid_Arcs.f k bt221.1).bind fun bt223 => ((oid_Encode.f k bt221.1).bind fun bt227 => ((oid_Decode.f k bt227.1).bind fun bt229 => (if bt221.2 = 0 then (if bt223.2 = 0 then (if bt227.2 = 0 then (if bt229.2 = 0 then ((gongbook_SameInts.f k bt223.1 t218).bind fun t231 => (if t231 = true then (gonglaw06_OidBack.j0 k a1 (bt229.1.toList != bt221.1.toList)) else (gonglaw06_OidBack.j0 k a1 true))) else (gonglaw06_OidBack.j0 k a1 true)) else (gonglaw06_OidBack.j0 k a1 true)) else (gonglaw06_OidBack.j0 k a1 true)) else (gonglaw06_OidBack.j0 k a1 true))))))) else (some false)) = some r := H
  have A3 := Aside0.mk A30
  clear A30
  by_cases c4 : t217 = true
  · subst c4
    have H1 : ((gonglaw06_named.f k l0).bind fun t218 => ((oid_Text.f k t218).bind fun bt221 => ((oid_Arcs.f k bt221.1).bind fun bt223 => ((oid_Encode.f k bt221.1).bind fun bt227 => ((oid_Decode.f k bt227.1).bind fun bt229 => (if bt221.2 = 0 then (if bt223.2 = 0 then (if bt227.2 = 0 then (if bt229.2 = 0 then ((gongbook_SameInts.f k bt223.1 t218).bind fun t231 => (if t231 = true then (gonglaw06_OidBack.j0 k a1 (bt229.1.toList != bt221.1.toList)) else (gonglaw06_OidBack.j0 k a1 true))) else (gonglaw06_OidBack.j0 k a1 true)) else (gonglaw06_OidBack.j0 k a1 true)) else (gonglaw06_OidBack.j0 k a1 true)) else (gonglaw06_OidBack.j0 k a1 true))))))) = some r := by rw [if_pos rfl] at H; exact H
    clear H
    have H := H1
    clear H1
    replace H := Option.bind_eq_some_iff.mp H
    obtain ⟨t218, A50, H⟩ := H
    replace H : ((oid_Text.f k t218).bind fun bt221 => ((oid_Arcs.f k bt221.1).bind fun bt223 => ((oid_Encode.f k bt221.1).bind fun bt227 => ((oid_Decode.f k bt227.1).bind fun bt229 => (if bt221.2 = 0 then (if bt223.2 = 0 then (if bt227.2 = 0 then (if bt229.2 = 0 then ((gongbook_SameInts.f k bt223.1 t218).bind fun t231 => (if t231 = true then (gonglaw06_OidBack.j0 k a1 (bt229.1.toList != bt221.1.toList)) else (gonglaw06_OidBack.j0 k a1 true))) else (gonglaw06_OidBack.j0 k a1 true)) else (gonglaw06_OidBack.j0 k a1 true)) else (gonglaw06_OidBack.j0 k a1 true)) else (gonglaw06_OidBack.j0 k a1 true)))))) = some r := H
    have A5 := Aside0.mk A50
    clear A50
    replace H := Option.bind_eq_some_iff.mp H
    obtain ⟨⟨t221, t222⟩, A60, H⟩ := H
    replace H : ((oid_Arcs.f k t221).bind fun bt223 => ((oid_Encode.f k t221).bind fun bt227 => ((oid_Decode.f k bt227.1).bind fun bt229 => (if t222 = 0 then (if bt223.2 = 0 then (if bt227.2 = 0 then (if bt229.2 = 0 then ((gongbook_SameInts.f k bt223.1 t218).bind fun t231 => (if t231 = true then (gonglaw06_OidBack.j0 k a1 (bt229.1.toList != t221.toList)) else (gonglaw06_OidBack.j0 k a1 true))) else (gonglaw06_OidBack.j0 k a1 true)) else (gonglaw06_OidBack.j0 k a1 true)) else (gonglaw06_OidBack.j0 k a1 true)) else (gonglaw06_OidBack.j0 k a1 true))))) = some r := H
    have A6 := Aside0.mk A60
    clear A60
    replace H := Option.bind_eq_some_iff.mp H
    obtain ⟨⟨t223, t224⟩, A70, H⟩ := H
    replace H : ((oid_Encode.f k t221).bind fun bt227 => ((oid_Decode.f k bt227.1).bind fun bt229 => (if t222 = 0 then (if t224 = 0 then (if bt227.2 = 0 then (if bt229.2 = 0 then ((gongbook_SameInts.f k t223 t218).bind fun t231 => (if t231 = true then (gonglaw06_OidBack.j0 k a1 (bt229.1.toList != t221.toList)) else (gonglaw06_OidBack.j0 k a1 true))) else (gonglaw06_OidBack.j0 k a1 true)) else (gonglaw06_OidBack.j0 k a1 true)) else (gonglaw06_OidBack.j0 k a1 true)) else (gonglaw06_OidBack.j0 k a1 true)))) = some r := H
    have A7 := Aside0.mk A70
    clear A70
    replace H := Option.bind_eq_some_iff.mp H
    obtain ⟨⟨t227, t228⟩, A80, H⟩ := H
    replace H : ((oid_Decode.f k t227).bind fun bt229 => (if t222 = 0 then (if t224 = 0 then (if t228 = 0 then (if bt229.2 = 0 then ((gongbook_SameInts.f k t223 t218).bind fun t231 => (if t231 = true then (gonglaw06_OidBack.j0 k a1 (bt229.1.toList != t221.toList)) else (gonglaw06_OidBack.j0 k a1 true))) else (gonglaw06_OidBack.j0 k a1 true)) else (gonglaw06_OidBack.j0 k a1 true)) else (gonglaw06_OidBack.j0 k a1 true)) else (gonglaw06_OidBack.j0 k a1 true))) = some r := H
    have A8 := Aside0.mk A80
    clear A80
    replace H := Option.bind_eq_some_iff.mp H
    obtain ⟨⟨t229, t230⟩, A90, H⟩ := H
    replace H : (if t222 = 0 then (if t224 = 0 then (if t228 = 0 then (if t230 = 0 then ((gongbook_SameInts.f k t223 t218).bind fun t231 => (if t231 = true then (gonglaw06_OidBack.j0 k a1 (t229.toList != t221.toList)) else (gonglaw06_OidBack.j0 k a1 true))) else (gonglaw06_OidBack.j0 k a1 true)) else (gonglaw06_OidBack.j0 k a1 true)) else (gonglaw06_OidBack.j0 k a1 true)) else (gonglaw06_OidBack.j0 k a1 true)) = some r := H
    have A9 := Aside0.mk A90
    clear A90
    have HC10 := Aside0.mk H
    clear H
    go_enter Tryd.func9, Tryd.ntmps9
    go_upto_region 8 with (first | ((with_reducible refine gate_callee (f := 24) rfl ?_); refine goesL_ (some 14) rfl rfl Tryd.func24 (by kernel_rfl) rfl #[] rfl (by (try simp only [List.map_toArray, List.map_cons, List.map_nil]); first | done | rfl | (simp only [List.length_drop, List.length_take]; rfl)) ?_; (with_reducible refine (gonglaw06_works.calls k  true _ ?side1 A3.out).mono ?_); (case side1 => first | exact HGl.out | exact HGl.out.below (by repeat (first | (with_reducible first | exact HB.out | apply below_alloc | apply pw_below_drewN | apply below_drew1) | exact HB.out | exact Below.refl _ _))); rintro e w11 ⟨rfl, hb⟩; refine ⟨_, rfl, ?_⟩; have n0_ := Aside0.mk (below_step (by repeat (first | (with_reducible first | exact HB.out | apply below_alloc | apply pw_below_drewN | apply below_drew1) | exact HB.out)) hb); clear HB; have HB := n0_; clear n0_; (try clear hb); (try clear hb2); (try clear hk); (try clear hi)) | ((with_reducible refine gate_callee (f := 33) rfl ?_); refine goesL_ (some 17) rfl rfl Tryd.func33 (by kernel_rfl) rfl #[.slice A0 l0.length c0] rfl (by (try simp only [List.map_toArray, List.map_cons, List.map_nil]); first | done | rfl | (simp only [List.length_drop, List.length_take]; rfl)) ?_; (with_reducible refine (gonglaw06_named.calls k _ _ l0 t218 _ ?side1 ?side2 A5.out).mono ?_); (case side1 => repeat (first | exact (Kd.C_below HR0.out HB.out) | (with_reducible refine Kd.C_alloc ?_ _) | (with_reducible refine Kd.C_drewN ?_ _) | (with_reducible refine Kd.C_drew ?_))); (case side2 => exact HC0.out); rintro e w12 ⟨v219, rfl, ho0, hb⟩; refine ⟨_, rfl, ?_⟩; have n0_ := Aside0.mk (Kd.R_lower ho0 (below_size (by repeat (first | (with_reducible first | exact HB.out | apply below_alloc | apply pw_below_drewN | apply below_drew1) | exact HB.out)))); have n1_ := Aside0.mk (below_step (by repeat (first | (with_reducible first | exact HB.out | apply below_alloc | apply pw_below_drewN | apply below_drew1) | exact HB.out)) hb); clear HB; have HO220 := n0_; have HB := n1_; clear n0_ n1_; (try clear hb); (try clear hb2); (try clear hk); (try clear hi); (try clear ho0); obtain ⟨Ao13, co13, eo13⟩ := Kd.R_slice HO220.out; subst eo13) | ((with_reducible refine gate_callee (f := 34) rfl ?_); refine goesL_ (some 20) rfl rfl Tryd.func34 (by kernel_rfl) rfl #[.slice Ao13 t218.length co13] rfl (by (try simp only [List.map_toArray, List.map_cons, List.map_nil]); first | done | rfl | (simp only [List.length_drop, List.length_take]; rfl)) ?_; (with_reducible refine (oid_Text.calls k _ _ t218 t221 t222 _ ?side3 ?side1 ?side2 A6.out).mono ?_); (case side1 => repeat (first | exact (Kd.R_reads' HO220.out).2.2 | (with_reducible refine Kd.C_alloc ?_ _) | (with_reducible refine Kd.C_drewN ?_ _) | (with_reducible refine Kd.C_drew ?_))); (case side2 => exact (Kd.R_reads' HO220.out).2.1); (case side3 => first | exact HGl.out | exact HGl.out.below (by repeat (first | (with_reducible first | exact HB.out | apply below_alloc | apply pw_below_drewN | apply below_drew1) | exact HB.out | exact Below.refl _ _))); rintro e w14 ⟨rfl, hb⟩; refine ⟨_, rfl, ?_⟩; have n0_ := Aside0.mk (Kd.R_below (by (with_reducible repeat (first | apply Kd.R_alloc | apply Kd.R_drewN | apply Kd.R_drew)); exact HO220.out) hb); have n1_ := Aside0.mk (below_step (by repeat (first | (with_reducible first | exact HB.out | apply below_alloc | apply pw_below_drewN | apply below_drew1) | exact HB.out)) hb); clear HO220; clear HB; have HO220 := n0_; have HB := n1_; clear n0_ n1_; (try clear hb); (try clear hb2); (try clear hk); (try clear hi)) | ((with_reducible refine gate_callee (f := 25) rfl ?_); refine goesL_ (some 25) rfl rfl Tryd.func25 (by kernel_rfl) rfl #[.string t221] rfl (by (try simp only [List.map_toArray, List.map_cons, List.map_nil]); first | done | rfl | (simp only [List.length_drop, List.length_take]; rfl)) ?_; (with_reducible refine (oid_Arcs.calls k t221 t223 t224 _ ?side1 A7.out).mono ?_); (case side1 => first | exact HGl.out | exact HGl.out.below (by repeat (first | (with_reducible first | exact HB.out | apply below_alloc | apply pw_below_drewN | apply below_drew1) | exact HB.out | exact Below.refl _ _))); rintro e w15 ⟨v225, rfl, ho0, hb⟩; refine ⟨_, rfl, ?_⟩; have n0_ := Aside0.mk (Kd.R_elder' (by (with_reducible repeat (first | apply Kd.R_alloc | apply Kd.R_drewN | apply Kd.R_drew)); exact HO220.out) (Kd.R_base ho0) hb); have n1_ := Aside0.mk (Kd.R_lower (Kd.R_new' ho0 (Kd.R_lt (by (with_reducible repeat (first | apply Kd.R_alloc | apply Kd.R_drewN | apply Kd.R_drew)); exact HO220.out))) (below_size (by repeat (first | (with_reducible first | exact HB.out | apply below_alloc | apply pw_below_drewN | apply below_drew1) | exact HB.out)))); have n2_ := Aside0.mk (below_step (by repeat (first | (with_reducible first | exact HB.out | apply below_alloc | apply pw_below_drewN | apply below_drew1) | exact HB.out)) hb); clear HO220; clear HB; have HO220 := n0_; have HO226 := n1_; have HB := n2_; clear n0_ n1_ n2_; (try clear hb); (try clear hb2); (try clear hk); (try clear hi); (try clear ho0)) | ((with_reducible refine gate_callee (f := 27) rfl ?_); refine goesL_ (some 30) rfl rfl Tryd.func27 (by kernel_rfl) rfl #[.string t221] rfl (by (try simp only [List.map_toArray, List.map_cons, List.map_nil]); first | done | rfl | (simp only [List.length_drop, List.length_take]; rfl)) ?_; (with_reducible refine (oid_Encode.calls k t221 t227 t228 _ ?side1 A8.out).mono ?_); (case side1 => first | exact HGl.out | exact HGl.out.below (by repeat (first | (with_reducible first | exact HB.out | apply below_alloc | apply pw_below_drewN | apply below_drew1) | exact HB.out | exact Below.refl _ _))); rintro e w16 ⟨rfl, hb⟩; refine ⟨_, rfl, ?_⟩; have n0_ := Aside0.mk (Kd.R_below (by (with_reducible repeat (first | apply Kd.R_alloc | apply Kd.R_drewN | apply Kd.R_drew)); exact HO220.out) hb); have n1_ := Aside0.mk (Kd.R_below (by (with_reducible repeat (first | apply Kd.R_alloc | apply Kd.R_drewN | apply Kd.R_drew)); exact HO226.out) hb); have n2_ := Aside0.mk (below_step (by repeat (first | (with_reducible first | exact HB.out | apply below_alloc | apply pw_below_drewN | apply below_drew1) | exact HB.out)) hb); clear HO220; clear HO226; clear HB; have HO220 := n0_; have HO226 := n1_; have HB := n2_; clear n0_ n1_ n2_; (try clear hb); (try clear hb2); (try clear hk); (try clear hi)) | ((with_reducible refine gate_callee (f := 29) rfl ?_); refine goesL_ (some 35) rfl rfl Tryd.func29 (by kernel_rfl) rfl #[.string t227] rfl (by (try simp only [List.map_toArray, List.map_cons, List.map_nil]); first | done | rfl | (simp only [List.length_drop, List.length_take]; rfl)) ?_; (with_reducible refine (oid_Decode.calls k t227 t229 t230 _ ?side1 A9.out).mono ?_); (case side1 => first | exact HGl.out | exact HGl.out.below (by repeat (first | (with_reducible first | exact HB.out | apply below_alloc | apply pw_below_drewN | apply below_drew1) | exact HB.out | exact Below.refl _ _))); rintro e w17 ⟨rfl, hb⟩; refine ⟨_, rfl, ?_⟩; have n0_ := Aside0.mk (Kd.R_below (by (with_reducible repeat (first | apply Kd.R_alloc | apply Kd.R_drewN | apply Kd.R_drew)); exact HO220.out) hb); have n1_ := Aside0.mk (Kd.R_below (by (with_reducible repeat (first | apply Kd.R_alloc | apply Kd.R_drewN | apply Kd.R_drew)); exact HO226.out) hb); have n2_ := Aside0.mk (below_step (by repeat (first | (with_reducible first | exact HB.out | apply below_alloc | apply pw_below_drewN | apply below_drew1) | exact HB.out)) hb); clear HO220; clear HO226; clear HB; have HO220 := n0_; have HO226 := n1_; have HB := n2_; clear n0_ n1_ n2_; (try clear hb); (try clear hb2); (try clear hk); (try clear hi)))
    (try simp only [Act.put, List.setIfInBounds_toArray, List.set_cons_zero, List.set_cons_succ])
    go_cut [62] (fun v62 wc => ∃ (kq : Nat) (x62_9 : Bool), v62 = .bool x62_9 ∧ Aside0 (gonglaw06_OidBack.j0 kq a1 x62_9 = some r) ∧ Aside0 (kq ≤ k) ∧ Aside0 (Below w.heap.size w wc))
    case first =>
      have H := HC10.out
      clear HC10
      by_cases c18 : t222 = 0
      · rw [if_pos c18] at H
        have c18b0 : (t222 == 0) = true := beq_iff_eq.mpr c18
        have c18b1 : (t222 != 0) = false := bne_eq_false_iff_eq.mpr c18
        clear c18
        (first | rw [c18b0] | (simp only [i64_w, i32_w]; rw [c18b0]) | skip)
        by_cases c19 : t224 = 0
        · rw [if_pos c19] at H
          have c19b0 : (t224 == 0) = true := beq_iff_eq.mpr c19
          have c19b1 : (t224 != 0) = false := bne_eq_false_iff_eq.mpr c19
          clear c19
          by_cases c20 : t228 = 0
          · rw [if_pos c20] at H
            have c20b0 : (t228 == 0) = true := beq_iff_eq.mpr c20
            have c20b1 : (t228 != 0) = false := bne_eq_false_iff_eq.mpr c20
            clear c20
            by_cases c21 : t230 = 0
            · rw [if_pos c21] at H
              have c21b0 : (t230 == 0) = true := beq_iff_eq.mpr c21
              have c21b1 : (t230 != 0) = false := bne_eq_false_iff_eq.mpr c21
              clear c21
              replace H := Option.bind_eq_some_iff.mp H
              obtain ⟨t231, A220, H⟩ := H
              replace H : (if t231 = true then (gonglaw06_OidBack.j0 k a1 (t229.toList != t221.toList)) else (gonglaw06_OidBack.j0 k a1 true)) = some r := H
              have A22 := Aside0.mk A220
              clear A220
              by_cases c23 : t231 = true
              · subst c23
                have H1 : (gonglaw06_OidBack.j0 k a1 (t229.toList != t221.toList)) = some r := by rw [if_pos rfl] at H; exact H
                clear H
                have H := H1
                clear H1
                have H' := Aside0.mk H
                clear H
                obtain ⟨Ao24, co24, eo24⟩ := Kd.R_slice HO226.out
                subst eo24
                go_wp2_with (first | (go_at_call 31; (with_reducible refine (gongbook_SameInts.calls k _ _ t223 _ _ t218 true _ ?side1 ?side2 ?side3 ?side4 A22.out).mono ?_); (case side1 => repeat (first | exact (Kd.R_reads' HO226.out).2.2 | (with_reducible refine Kd.C_alloc ?_ _) | (with_reducible refine Kd.C_drewN ?_ _) | (with_reducible refine Kd.C_drew ?_))); (case side2 => exact (Kd.R_reads' HO226.out).2.1); (case side3 => repeat (first | exact (Kd.R_reads' HO220.out).2.2 | (with_reducible refine Kd.C_alloc ?_ _) | (with_reducible refine Kd.C_drewN ?_ _) | (with_reducible refine Kd.C_drew ?_))); (case side4 => exact (Kd.R_reads' HO220.out).2.1); rintro e w' ⟨rfl, ⟨nd, rfl⟩⟩))
                go_meet
                case rel => exact ⟨_, ((t229.toList != t221.toList)), (by first | rfl | (simp; done) | (simp [*]; done) | (simp [*]; exact isEmpty_bne _) | (simp; exact isEmpty_bne _)), H', ⟨by first | omega | exact Nat.le_refl _⟩, ⟨by repeat (first | (with_reducible first | exact HB.out | apply below_alloc | apply pw_below_drewN | apply below_drew1) | exact HB.out)⟩⟩
              · replace c23 := Bool.eq_false_iff.mpr c23
                subst c23
                have H1 : (gonglaw06_OidBack.j0 k a1 true) = some r := by rw [if_neg (show ¬ (false = true) by decide)] at H; exact H
                clear H
                have H := H1
                clear H1
                have H' := Aside0.mk H
                clear H
                obtain ⟨Ao25, co25, eo25⟩ := Kd.R_slice HO226.out
                subst eo25
                go_wp2_with (first | (go_at_call 31; (with_reducible refine (gongbook_SameInts.calls k _ _ t223 _ _ t218 false _ ?side1 ?side2 ?side3 ?side4 A22.out).mono ?_); (case side1 => repeat (first | exact (Kd.R_reads' HO226.out).2.2 | (with_reducible refine Kd.C_alloc ?_ _) | (with_reducible refine Kd.C_drewN ?_ _) | (with_reducible refine Kd.C_drew ?_))); (case side2 => exact (Kd.R_reads' HO226.out).2.1); (case side3 => repeat (first | exact (Kd.R_reads' HO220.out).2.2 | (with_reducible refine Kd.C_alloc ?_ _) | (with_reducible refine Kd.C_drewN ?_ _) | (with_reducible refine Kd.C_drew ?_))); (case side4 => exact (Kd.R_reads' HO220.out).2.1); rintro e w' ⟨rfl, ⟨nd, rfl⟩⟩))
                go_meet
                case rel => exact ⟨_, (true), (by first | rfl | (simp; done) | (simp [*]; done) | (simp [*]; exact isEmpty_bne _) | (simp; exact isEmpty_bne _)), H', ⟨by first | omega | exact Nat.le_refl _⟩, ⟨by repeat (first | (with_reducible first | exact HB.out | apply below_alloc | apply pw_below_drewN | apply below_drew1) | exact HB.out)⟩⟩
            · rw [if_neg c21] at H
              have c21b0 : (t230 == 0) = false := beq_eq_false_iff_ne.mpr c21
              have c21b1 : (t230 != 0) = true := bne_iff_ne.mpr c21
              have H' := Aside0.mk H
              clear H
              go_wp2
              go_meet
              case rel => exact ⟨_, (true), (by first | rfl | (simp; done) | (simp [*]; done) | (simp [*]; exact isEmpty_bne _) | (simp; exact isEmpty_bne _)), H', ⟨by first | omega | exact Nat.le_refl _⟩, ⟨by repeat (first | (with_reducible first | exact HB.out | apply below_alloc | apply pw_below_drewN | apply below_drew1) | exact HB.out)⟩⟩
          · rw [if_neg c20] at H
            have c20b0 : (t228 == 0) = false := beq_eq_false_iff_ne.mpr c20
            have c20b1 : (t228 != 0) = true := bne_iff_ne.mpr c20
            have H' := Aside0.mk H
            clear H
            go_wp2
            go_meet
            case rel => exact ⟨_, (true), (by first | rfl | (simp; done) | (simp [*]; done) | (simp [*]; exact isEmpty_bne _) | (simp; exact isEmpty_bne _)), H', ⟨by first | omega | exact Nat.le_refl _⟩, ⟨by repeat (first | (with_reducible first | exact HB.out | apply below_alloc | apply pw_below_drewN | apply below_drew1) | exact HB.out)⟩⟩
        · rw [if_neg c19] at H
          have c19b0 : (t224 == 0) = false := beq_eq_false_iff_ne.mpr c19
          have c19b1 : (t224 != 0) = true := bne_iff_ne.mpr c19
          have H' := Aside0.mk H
          clear H
          go_wp2
          go_meet
          case rel => exact ⟨_, (true), (by first | rfl | (simp; done) | (simp [*]; done) | (simp [*]; exact isEmpty_bne _) | (simp; exact isEmpty_bne _)), H', ⟨by first | omega | exact Nat.le_refl _⟩, ⟨by repeat (first | (with_reducible first | exact HB.out | apply below_alloc | apply pw_below_drewN | apply below_drew1) | exact HB.out)⟩⟩
      · rw [if_neg c18] at H
        have c18b0 : (t222 == 0) = false := beq_eq_false_iff_ne.mpr c18
        have c18b1 : (t222 != 0) = true := bne_iff_ne.mpr c18
        (first | rw [c18b0] | (simp only [i64_w, i32_w]; rw [c18b0]) | skip)
        have H' := Aside0.mk H
        clear H
        go_wp2
        go_meet
        case rel => exact ⟨_, (true), (by first | rfl | (simp; done) | (simp [*]; done) | (simp [*]; exact isEmpty_bne _) | (simp; exact isEmpty_bne _)), H', ⟨by first | omega | exact Nat.le_refl _⟩, ⟨by repeat (first | (with_reducible first | exact HB.out | apply below_alloc | apply pw_below_drewN | apply below_drew1) | exact HB.out)⟩⟩
    case rest =>
      clear HC10
      try clear c1
      try clear c2
      try clear p2
      try clear c3
      try clear c4
      try clear c9
      try clear c18
      try clear c18b0
      try clear c18b1
      try clear c19
      try clear c19b0
      try clear c19b1
      try clear c20
      try clear c20b0
      try clear c20b1
      try clear c21
      try clear c21b0
      try clear c21b1
      try clear c23
      try clear c24
      try clear c25
      obtain ⟨kq, x62_9, rfl, HA, HJ9, HB⟩ := hcut
      cases kq with
      | zero => exact absurd HA.out (by simp [gonglaw06_OidBack.j0])
      | succ kj9 =>
        have H := HA.out
        clear HA
        simp only [gonglaw06_OidBack.j0] at H
        by_cases c26 : x62_9 = true
        · subst c26
          have H1 : (some false) = some r := by rw [if_pos rfl] at H; exact H
          clear H
          have H := H1
          clear H1
          obtain rfl := Option.some.inj H
          go_wp2
          go_ret
          exact ⟨by first | rfl | (simp [errW_none, errW_some] <;> rfl) | (simp [*, errW_none, errW_some] <;> rfl), by repeat (first | (with_reducible first | exact HB.out | apply below_alloc | apply pw_below_drewN | apply below_drew1) | exact HB.out)⟩
        · replace c26 := Bool.eq_false_iff.mpr c26
          subst c26
          have H1 : (if (a1.size : Int) > 500 then (some true) else ((oid_Decode.f kj9 a1).bind fun bt232 => (if bt232.2 = 0 then ((oid_Encode.f kj9 bt232.1).bind fun bt234 => (if bt234.2 = 0 then (some (bt234.1.toList == a1.toList)) else (some false))) else (if bt232.2 = 60 then (some (bt232.1.toList == ([] : List UInt8))) else (some false))))) = some r := by rw [if_neg (show ¬ (false = true) by decide)] at H; exact H
          clear H
          have H := H1
          clear H1
          by_cases c27 : (a1.size : Int) > 500
          · rw [if_pos c27] at H
            have c27b0 : decide (500 < (a1.size : Int)) = true := decide_eq_true c27
            have c27b1 : decide (500 < a1.size) = true := decide_eq_true (by omega)
            clear c27
            obtain rfl := Option.some.inj H
            go_wp2
            go_ret
            exact ⟨by first | rfl | (simp [errW_none, errW_some] <;> rfl) | (simp [*, errW_none, errW_some] <;> rfl), by repeat (first | (with_reducible first | exact HB.out | apply below_alloc | apply pw_below_drewN | apply below_drew1) | exact HB.out)⟩
          · rw [if_neg c27] at H
            have c27b0 : decide (500 < (a1.size : Int)) = false := decide_eq_false c27
            have c27b1 : decide (500 < a1.size) = false := decide_eq_false (by omega)
            clear c27
            replace H := Option.bind_eq_some_iff.mp H
            obtain ⟨⟨t232, t233⟩, A280, H⟩ := H
            replace H : (if t233 = 0 then ((oid_Encode.f kj9 t232).bind fun bt234 => (if bt234.2 = 0 then (some (bt234.1.toList == a1.toList)) else (some false))) else (if t233 = 60 then (some (t232.toList == ([] : List UInt8))) else (some false))) = some r := H
            have A28 := Aside0.mk A280
            clear A280
            by_cases c29 : t233 = 0
            · rw [if_pos c29] at H
              have c29b0 : (t233 == 0) = true := beq_iff_eq.mpr c29
              have c29b1 : (t233 != 0) = false := bne_eq_false_iff_eq.mpr c29
              clear c29
              replace H := Option.bind_eq_some_iff.mp H
              obtain ⟨⟨t234, t235⟩, A300, H⟩ := H
              replace H : (if t235 = 0 then (some (t234.toList == a1.toList)) else (some false)) = some r := H
              have A30 := Aside0.mk A300
              clear A300
              by_cases c31 : t235 = 0
              · rw [if_pos c31] at H
                have c31b0 : (t235 == 0) = true := beq_iff_eq.mpr c31
                have c31b1 : (t235 != 0) = false := bne_eq_false_iff_eq.mpr c31
                clear c31
                obtain rfl := Option.some.inj H
                go_wp2_with (first | ((with_reducible refine gate_callee (f := 29) rfl ?_); refine goesL_ (some 68) rfl rfl Tryd.func29 (by kernel_rfl) rfl #[.string a1] rfl (by (try simp only [List.map_toArray, List.map_cons, List.map_nil]); first | done | rfl | (simp only [List.length_drop, List.length_take]; rfl)) ?_; (with_reducible refine (oid_Decode.calls kj9 a1 t232 t233 _ ?side1 A28.out).mono ?_); (case side1 => first | exact HGl.out | exact HGl.out.below (by repeat (first | (with_reducible first | exact HB.out | apply below_alloc | apply pw_below_drewN | apply below_drew1) | exact HB.out | exact Below.refl _ _))); rintro e w32 ⟨rfl, hb⟩; refine ⟨_, rfl, ?_⟩; have n0_ := Aside0.mk (below_step (by repeat (first | (with_reducible first | exact HB.out | apply below_alloc | apply pw_below_drewN | apply below_drew1) | exact HB.out)) hb); clear HB; have HB := n0_; clear n0_; (try clear hb); (try clear hb2); (try clear hk); (try clear hi)) | ((with_reducible refine gate_callee (f := 27) rfl ?_); refine goesL_ (some 81) rfl rfl Tryd.func27 (by kernel_rfl) rfl #[.string t232] rfl (by (try simp only [List.map_toArray, List.map_cons, List.map_nil]); first | done | rfl | (simp only [List.length_drop, List.length_take]; rfl)) ?_; (with_reducible refine (oid_Encode.calls kj9 t232 t234 t235 _ ?side1 A30.out).mono ?_); (case side1 => first | exact HGl.out | exact HGl.out.below (by repeat (first | (with_reducible first | exact HB.out | apply below_alloc | apply pw_below_drewN | apply below_drew1) | exact HB.out | exact Below.refl _ _))); rintro e w33 ⟨rfl, hb⟩; refine ⟨_, rfl, ?_⟩; have n0_ := Aside0.mk (below_step (by repeat (first | (with_reducible first | exact HB.out | apply below_alloc | apply pw_below_drewN | apply below_drew1) | exact HB.out)) hb); clear HB; have HB := n0_; clear n0_; (try clear hb); (try clear hb2); (try clear hk); (try clear hi)))
                go_ret
                exact ⟨by first | rfl | (simp [errW_none, errW_some] <;> rfl) | (simp [*, errW_none, errW_some] <;> rfl), by repeat (first | (with_reducible first | exact HB.out | apply below_alloc | apply pw_below_drewN | apply below_drew1) | exact HB.out)⟩
              · rw [if_neg c31] at H
                have c31b0 : (t235 == 0) = false := beq_eq_false_iff_ne.mpr c31
                have c31b1 : (t235 != 0) = true := bne_iff_ne.mpr c31
                obtain rfl := Option.some.inj H
                go_wp2_with (first | ((with_reducible refine gate_callee (f := 29) rfl ?_); refine goesL_ (some 68) rfl rfl Tryd.func29 (by kernel_rfl) rfl #[.string a1] rfl (by (try simp only [List.map_toArray, List.map_cons, List.map_nil]); first | done | rfl | (simp only [List.length_drop, List.length_take]; rfl)) ?_; (with_reducible refine (oid_Decode.calls kj9 a1 t232 t233 _ ?side1 A28.out).mono ?_); (case side1 => first | exact HGl.out | exact HGl.out.below (by repeat (first | (with_reducible first | exact HB.out | apply below_alloc | apply pw_below_drewN | apply below_drew1) | exact HB.out | exact Below.refl _ _))); rintro e w34 ⟨rfl, hb⟩; refine ⟨_, rfl, ?_⟩; have n0_ := Aside0.mk (below_step (by repeat (first | (with_reducible first | exact HB.out | apply below_alloc | apply pw_below_drewN | apply below_drew1) | exact HB.out)) hb); clear HB; have HB := n0_; clear n0_; (try clear hb); (try clear hb2); (try clear hk); (try clear hi)) | ((with_reducible refine gate_callee (f := 27) rfl ?_); refine goesL_ (some 81) rfl rfl Tryd.func27 (by kernel_rfl) rfl #[.string t232] rfl (by (try simp only [List.map_toArray, List.map_cons, List.map_nil]); first | done | rfl | (simp only [List.length_drop, List.length_take]; rfl)) ?_; (with_reducible refine (oid_Encode.calls kj9 t232 t234 t235 _ ?side1 A30.out).mono ?_); (case side1 => first | exact HGl.out | exact HGl.out.below (by repeat (first | (with_reducible first | exact HB.out | apply below_alloc | apply pw_below_drewN | apply below_drew1) | exact HB.out | exact Below.refl _ _))); rintro e w35 ⟨rfl, hb⟩; refine ⟨_, rfl, ?_⟩; have n0_ := Aside0.mk (below_step (by repeat (first | (with_reducible first | exact HB.out | apply below_alloc | apply pw_below_drewN | apply below_drew1) | exact HB.out)) hb); clear HB; have HB := n0_; clear n0_; (try clear hb); (try clear hb2); (try clear hk); (try clear hi)))
                go_ret
                exact ⟨by first | rfl | (simp [errW_none, errW_some] <;> rfl) | (simp [*, errW_none, errW_some] <;> rfl), by repeat (first | (with_reducible first | exact HB.out | apply below_alloc | apply pw_below_drewN | apply below_drew1) | exact HB.out)⟩
            · rw [if_neg c29] at H
              have c29b0 : (t233 == 0) = false := beq_eq_false_iff_ne.mpr c29
              have c29b1 : (t233 != 0) = true := bne_iff_ne.mpr c29
              by_cases c36 : t233 = 60
              · rw [if_pos c36] at H
                have c36b0 : (t233 == 60) = true := beq_iff_eq.mpr c36
                have c36b1 : (t233 != 60) = false := bne_eq_false_iff_eq.mpr c36
                clear c36
                obtain rfl := Option.some.inj H
                go_wp2_with (first | ((with_reducible refine gate_callee (f := 29) rfl ?_); refine goesL_ (some 68) rfl rfl Tryd.func29 (by kernel_rfl) rfl #[.string a1] rfl (by (try simp only [List.map_toArray, List.map_cons, List.map_nil]); first | done | rfl | (simp only [List.length_drop, List.length_take]; rfl)) ?_; (with_reducible refine (oid_Decode.calls kj9 a1 t232 t233 _ ?side1 A28.out).mono ?_); (case side1 => first | exact HGl.out | exact HGl.out.below (by repeat (first | (with_reducible first | exact HB.out | apply below_alloc | apply pw_below_drewN | apply below_drew1) | exact HB.out | exact Below.refl _ _))); rintro e w37 ⟨rfl, hb⟩; refine ⟨_, rfl, ?_⟩; have n0_ := Aside0.mk (below_step (by repeat (first | (with_reducible first | exact HB.out | apply below_alloc | apply pw_below_drewN | apply below_drew1) | exact HB.out)) hb); clear HB; have HB := n0_; clear n0_; (try clear hb); (try clear hb2); (try clear hk); (try clear hi)))
                go_ret
                exact ⟨by first | rfl | (simp [errW_none, errW_some] <;> rfl) | (simp [*, errW_none, errW_some] <;> rfl), by repeat (first | (with_reducible first | exact HB.out | apply below_alloc | apply pw_below_drewN | apply below_drew1) | exact HB.out)⟩
              · rw [if_neg c36] at H
                have c36b0 : (t233 == 60) = false := beq_eq_false_iff_ne.mpr c36
                have c36b1 : (t233 != 60) = true := bne_iff_ne.mpr c36
                obtain rfl := Option.some.inj H
                go_wp2_with (first | ((with_reducible refine gate_callee (f := 29) rfl ?_); refine goesL_ (some 68) rfl rfl Tryd.func29 (by kernel_rfl) rfl #[.string a1] rfl (by (try simp only [List.map_toArray, List.map_cons, List.map_nil]); first | done | rfl | (simp only [List.length_drop, List.length_take]; rfl)) ?_; (with_reducible refine (oid_Decode.calls kj9 a1 t232 t233 _ ?side1 A28.out).mono ?_); (case side1 => first | exact HGl.out | exact HGl.out.below (by repeat (first | (with_reducible first | exact HB.out | apply below_alloc | apply pw_below_drewN | apply below_drew1) | exact HB.out | exact Below.refl _ _))); rintro e w38 ⟨rfl, hb⟩; refine ⟨_, rfl, ?_⟩; have n0_ := Aside0.mk (below_step (by repeat (first | (with_reducible first | exact HB.out | apply below_alloc | apply pw_below_drewN | apply below_drew1) | exact HB.out)) hb); clear HB; have HB := n0_; clear n0_; (try clear hb); (try clear hb2); (try clear hk); (try clear hi)))
                go_ret
                exact ⟨by first | rfl | (simp [errW_none, errW_some] <;> rfl) | (simp [*, errW_none, errW_some] <;> rfl), by repeat (first | (with_reducible first | exact HB.out | apply below_alloc | apply pw_below_drewN | apply below_drew1) | exact HB.out)⟩
  · replace c4 := Bool.eq_false_iff.mpr c4
    subst c4
    have H1 : (some false) = some r := by rw [if_neg (show ¬ (false = true) by decide)] at H; exact H
    clear H
    have H := H1
    clear H1
    obtain rfl := Option.some.inj H
    go_enter Tryd.func9, Tryd.ntmps9
    go_wp2_with (first | ((with_reducible refine gate_callee (f := 24) rfl ?_); refine goesL_ (some 14) rfl rfl Tryd.func24 (by kernel_rfl) rfl #[] rfl (by (try simp only [List.map_toArray, List.map_cons, List.map_nil]); first | done | rfl | (simp only [List.length_drop, List.length_take]; rfl)) ?_; (with_reducible refine (gonglaw06_works.calls k  false _ ?side1 A3.out).mono ?_); (case side1 => first | exact HGl.out | exact HGl.out.below (by repeat (first | (with_reducible first | exact HB.out | apply below_alloc | apply pw_below_drewN | apply below_drew1) | exact HB.out | exact Below.refl _ _))); rintro e w39 ⟨rfl, hb⟩; refine ⟨_, rfl, ?_⟩; have n0_ := Aside0.mk (below_step (by repeat (first | (with_reducible first | exact HB.out | apply below_alloc | apply pw_below_drewN | apply below_drew1) | exact HB.out)) hb); clear HB; have HB := n0_; clear n0_; (try clear hb); (try clear hb2); (try clear hk); (try clear hi)))
    go_ret
    exact ⟨by first | rfl | (simp [errW_none, errW_some] <;> rfl) | (simp [*, errW_none, errW_some] <;> rfl), by repeat (first | (with_reducible first | exact HB.out | apply below_alloc | apply pw_below_drewN | apply below_drew1) | exact HB.out)⟩

end Go.Proofs.YtjcenencgnfffaaDoor.XOiD
