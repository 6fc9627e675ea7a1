-- Laid by extprint.py (the session's own driver): functions told by the kit's printer and by hand.
import Derived.Test.YtjcenencgnfffaaDoorXOiDx0
import Derived.Test.YtjcenencgnfffaaDoorXOiDx2
import Derived.Test.YtjcenencgnfffaaDoorXOiDx3
namespace Go.Proofs.YtjcenencgnfffaaDoor.XOiD
open Go.RowKit Gong Go.Proofs.YtjcenencgnfffaaDoorW.PrintWords Go.Proofs.YtjcenencgnfffaaDoorW.PrintLast Go.Proofs.YtjcenencgnfffaaDoorW.PrintMore
attribute [local go_sem] max2_int min2_int max_two min_two max_three min_three max_four min_four   -- for this text's walks alone
set_option linter.unusedVariables false
set_option linter.unusedSimpArgs false

/-! ### gonglaw06_OidOrder: function 10 -/
mutual
def gonglaw06_OidOrder.j0 : Nat → ByteArray → ByteArray → ByteArray → Bool → Option (Bool)
  | 0, _, _, _, _ => none
  | k + 1, x7, x9, x11, x44 => if x44 = true then (some false) else ((oid_Less.f k x7 x9).bind fun t175 => ((oid_Less.f k x9 x7).bind fun t176 => (if t175 = true then (if t176 = true then (gonglaw06_OidOrder.j1 k x7 x9 x11 t175 true) else (if ((x7.toList == x9.toList) == true) = true then (gonglaw06_OidOrder.j1 k x7 x9 x11 t175 true) else ((oid_Less.f k x7 x7).bind fun t177 => (if t177 = true then (gonglaw06_OidOrder.j1 k x7 x9 x11 t175 true) else ((oid_Within.f k x7 x7).bind fun t178 => (gonglaw06_OidOrder.j1 k x7 x9 x11 t175 (!t178))))))) else (if ((x7.toList == x9.toList) == t176) = true then (gonglaw06_OidOrder.j1 k x7 x9 x11 t175 true) else ((oid_Less.f k x7 x7).bind fun t179 => (if t179 = true then (gonglaw06_OidOrder.j1 k x7 x9 x11 t175 true) else ((oid_Within.f k x7 x7).bind fun t180 => (gonglaw06_OidOrder.j1 k x7 x9 x11 t175 (!t180)))))))))
def gonglaw06_OidOrder.j1 : Nat → ByteArray → ByteArray → ByteArray → Bool → Bool → Option (Bool)
  | 0, _, _, _, _, _ => none
  | k + 1, x7, x9, x11, x13, x75 => if x75 = true then (some false) else (if x13 = true then ((oid_Less.f k x9 x11).bind fun t181 => (if t181 = true then ((oid_Less.f k x7 x11).bind fun t182 => (gonglaw06_OidOrder.j2 k x7 x9 x11 x13 (!t182))) else (gonglaw06_OidOrder.j2 k x7 x9 x11 x13 false))) else (gonglaw06_OidOrder.j2 k x7 x9 x11 x13 false))
def gonglaw06_OidOrder.j2 : Nat → ByteArray → ByteArray → ByteArray → Bool → Bool → Option (Bool)
  | 0, _, _, _, _, _ => none
  | k + 1, x7, x9, x11, x13, x87 => if x87 = true then (some false) else ((oid_Within.f k x7 x9).bind fun t183 => (if t183 = true then (if x7.toList = x9.toList then (gonglaw06_OidOrder.j3 k x7 x9 x11 false) else (gonglaw06_OidOrder.j3 k x7 x9 x11 (!x13))) else (gonglaw06_OidOrder.j3 k x7 x9 x11 false)))
def gonglaw06_OidOrder.j3 : Nat → ByteArray → ByteArray → ByteArray → Bool → Option (Bool)
  | 0, _, _, _, _ => none
  | k + 1, x7, x9, x11, x99 => if x99 = true then (some false) else ((oid_Within.f k x7 x9).bind fun t184 => (if t184 = true then ((oid_Within.f k x7 x11).bind fun t185 => (if t185 = true then (some true) else ((oid_Less.f k x7 x11).bind fun t186 => (if t186 = true then ((oid_Less.f k x9 x11).bind fun t187 => (some t187)) else (some true))))) else (some true)))
end
def gonglaw06_OidOrder.f (k : Nat) (l0 : List Int) (l1 : List Int) (l2 : List Int) : Option (Bool) := (gonglaw06_works.f k).bind fun t159 => (if t159 = true then ((gonglaw06_named.f k l0).bind fun t160 => ((oid_Text.f k t160).bind fun bt163 => ((gonglaw06_named.f k l1).bind fun t165 => ((oid_Text.f k t165).bind fun bt168 => ((gonglaw06_named.f k l2).bind fun t170 => ((oid_Text.f k t170).bind fun bt173 => (if bt163.2 = 0 then (if bt168.2 = 0 then (gonglaw06_OidOrder.j0 k bt163.1 bt168.1 bt173.1 (bt173.2 != 0)) else (gonglaw06_OidOrder.j0 k bt163.1 bt168.1 bt173.1 true)) else (gonglaw06_OidOrder.j0 k bt163.1 bt168.1 bt173.1 true)))))))) else (some false))
theorem gonglaw06_OidOrder.mono_l : ∀ k, (∀ y0 y1 y2 y3, LeO (gonglaw06_OidOrder.j0 k y0 y1 y2 y3) (gonglaw06_OidOrder.j0 (k + 1) y0 y1 y2 y3)) ∧ (∀ y0 y1 y2 y3 y4, LeO (gonglaw06_OidOrder.j1 k y0 y1 y2 y3 y4) (gonglaw06_OidOrder.j1 (k + 1) y0 y1 y2 y3 y4)) ∧ (∀ y0 y1 y2 y3 y4, LeO (gonglaw06_OidOrder.j2 k y0 y1 y2 y3 y4) (gonglaw06_OidOrder.j2 (k + 1) y0 y1 y2 y3 y4)) ∧ (∀ y0 y1 y2 y3, LeO (gonglaw06_OidOrder.j3 k y0 y1 y2 y3) (gonglaw06_OidOrder.j3 (k + 1) y0 y1 y2 y3))
  | 0 => ⟨fun _ _ _ _ r h => by simp [gonglaw06_OidOrder.j0] at h, fun _ _ _ _ _ r h => by simp [gonglaw06_OidOrder.j1] at h, fun _ _ _ _ _ r h => by simp [gonglaw06_OidOrder.j2] at h, fun _ _ _ _ r h => by simp [gonglaw06_OidOrder.j3] at h⟩
  | k + 1 => by
    obtain ⟨ih0, ih1, ih2, ih3⟩ := gonglaw06_OidOrder.mono_l k
    refine ⟨?_, ?_, ?_, ?_⟩
    · intro y0 y1 y2 y3
      unfold gonglaw06_OidOrder.j0
      repeat' first
      | (with_reducible exact ih0 _ _ _ _)
      | (with_reducible exact ih1 _ _ _ _ _)
      | (with_reducible exact ih2 _ _ _ _ _)
      | (with_reducible exact ih3 _ _ _ _)
      | (with_reducible exact gonglaw06_named.mono _ _)
      | (with_reducible exact gonglaw06_works.mono _)
      | (with_reducible exact oid_Less.mono _ _ _)
      | (with_reducible exact oid_Text.mono _ _)
      | (with_reducible exact oid_Within.mono _ _ _)
      | (with_reducible exact LeO.refl _)
      | (with_reducible exact LeO.none _)
      | (with_reducible refine LeO.ite ?_ ?_)
      | (with_reducible refine LeO.bind ?_ (fun _ => ?_))
      | exact ih0 _ _ _ _
      | exact ih1 _ _ _ _ _
      | exact ih2 _ _ _ _ _
      | exact ih3 _ _ _ _
      | exact gonglaw06_named.mono _ _
      | exact gonglaw06_works.mono _
      | exact oid_Less.mono _ _ _
      | exact oid_Text.mono _ _
      | exact oid_Within.mono _ _ _
      | exact LeO.none _
      | refine LeO.ite ?_ ?_
      | refine LeO.bind ?_ (fun _ => ?_)
    · intro y0 y1 y2 y3 y4
      unfold gonglaw06_OidOrder.j1
      repeat' first
      | (with_reducible exact ih0 _ _ _ _)
      | (with_reducible exact ih1 _ _ _ _ _)
      | (with_reducible exact ih2 _ _ _ _ _)
      | (with_reducible exact ih3 _ _ _ _)
      | (with_reducible exact gonglaw06_named.mono _ _)
      | (with_reducible exact gonglaw06_works.mono _)
      | (with_reducible exact oid_Less.mono _ _ _)
      | (with_reducible exact oid_Text.mono _ _)
      | (with_reducible exact oid_Within.mono _ _ _)
      | (with_reducible exact LeO.refl _)
      | (with_reducible exact LeO.none _)
      | (with_reducible refine LeO.ite ?_ ?_)
      | (with_reducible refine LeO.bind ?_ (fun _ => ?_))
      | exact ih0 _ _ _ _
      | exact ih1 _ _ _ _ _
      | exact ih2 _ _ _ _ _
      | exact ih3 _ _ _ _
      | exact gonglaw06_named.mono _ _
      | exact gonglaw06_works.mono _
      | exact oid_Less.mono _ _ _
      | exact oid_Text.mono _ _
      | exact oid_Within.mono _ _ _
      | exact LeO.none _
      | refine LeO.ite ?_ ?_
      | refine LeO.bind ?_ (fun _ => ?_)
    · intro y0 y1 y2 y3 y4
      unfold gonglaw06_OidOrder.j2
      repeat' first
      | (with_reducible exact ih0 _ _ _ _)
      | (with_reducible exact ih1 _ _ _ _ _)
      | (with_reducible exact ih2 _ _ _ _ _)
      | (with_reducible exact ih3 _ _ _ _)
      | (with_reducible exact gonglaw06_named.mono _ _)
      | (with_reducible exact gonglaw06_works.mono _)
      | (with_reducible exact oid_Less.mono _ _ _)
      | (with_reducible exact oid_Text.mono _ _)
      | (with_reducible exact oid_Within.mono _ _ _)
      | (with_reducible exact LeO.refl _)
      | (with_reducible exact LeO.none _)
      | (with_reducible refine LeO.ite ?_ ?_)
      | (with_reducible refine LeO.bind ?_ (fun _ => ?_))
      | exact ih0 _ _ _ _
      | exact ih1 _ _ _ _ _
      | exact ih2 _ _ _ _ _
      | exact ih3 _ _ _ _
      | exact gonglaw06_named.mono _ _
      | exact gonglaw06_works.mono _
      | exact oid_Less.mono _ _ _
      | exact oid_Text.mono _ _
      | exact oid_Within.mono _ _ _
      | exact LeO.none _
      | refine LeO.ite ?_ ?_
      | refine LeO.bind ?_ (fun _ => ?_)
    · intro y0 y1 y2 y3
      unfold gonglaw06_OidOrder.j3
      repeat' first
      | (with_reducible exact ih0 _ _ _ _)
      | (with_reducible exact ih1 _ _ _ _ _)
      | (with_reducible exact ih2 _ _ _ _ _)
      | (with_reducible exact ih3 _ _ _ _)
      | (with_reducible exact gonglaw06_named.mono _ _)
      | (with_reducible exact gonglaw06_works.mono _)
      | (with_reducible exact oid_Less.mono _ _ _)
      | (with_reducible exact oid_Text.mono _ _)
      | (with_reducible exact oid_Within.mono _ _ _)
      | (with_reducible exact LeO.refl _)
      | (with_reducible exact LeO.none _)
      | (with_reducible refine LeO.ite ?_ ?_)
      | (with_reducible refine LeO.bind ?_ (fun _ => ?_))
      | exact ih0 _ _ _ _
      | exact ih1 _ _ _ _ _
      | exact ih2 _ _ _ _ _
      | exact ih3 _ _ _ _
      | exact gonglaw06_named.mono _ _
      | exact gonglaw06_works.mono _
      | exact oid_Less.mono _ _ _
      | exact oid_Text.mono _ _
      | exact oid_Within.mono _ _ _
      | exact LeO.none _
      | refine LeO.ite ?_ ?_
      | refine LeO.bind ?_ (fun _ => ?_)
theorem gonglaw06_OidOrder.mono : ∀ a0 a1 a2 k, LeO (gonglaw06_OidOrder.f k a0 a1 a2) (gonglaw06_OidOrder.f (k + 1) a0 a1 a2) := by
  intro a0 a1 a2 k
  obtain ⟨ih0, ih1, ih2, ih3⟩ := gonglaw06_OidOrder.mono_l k
  unfold gonglaw06_OidOrder.f
  repeat' first
      | (with_reducible exact ih0 _ _ _ _)
      | (with_reducible exact ih1 _ _ _ _ _)
      | (with_reducible exact ih2 _ _ _ _ _)
      | (with_reducible exact ih3 _ _ _ _)
      | (with_reducible exact gonglaw06_named.mono _ _)
      | (with_reducible exact gonglaw06_works.mono _)
      | (with_reducible exact oid_Less.mono _ _ _)
      | (with_reducible exact oid_Text.mono _ _)
      | (with_reducible exact oid_Within.mono _ _ _)
      | (with_reducible exact LeO.refl _)
      | (with_reducible exact LeO.none _)
      | (with_reducible refine LeO.ite ?_ ?_)
      | (with_reducible refine LeO.bind ?_ (fun _ => ?_))
      | exact ih0 _ _ _ _
      | exact ih1 _ _ _ _ _
      | exact ih2 _ _ _ _ _
      | exact ih3 _ _ _ _
      | exact gonglaw06_named.mono _ _
      | exact gonglaw06_works.mono _
      | exact oid_Less.mono _ _ _
      | exact oid_Text.mono _ _
      | exact oid_Within.mono _ _ _
      | exact LeO.none _
      | refine LeO.ite ?_ ?_
      | refine LeO.bind ?_ (fun _ => ?_)
set_option maxHeartbeats 8000000 in
set_option maxRecDepth 100000 in
theorem gonglaw06_OidOrder.calls (k : Nat) (A0 : Option Addr) (c0 : Nat) (l0 : List Int) (A1 : Option Addr) (c1 : Nat) (l1 : List Int) (A2 : Option Addr) (c2 : Nat) (l2 : List Int) (r : Bool) (w : World) (hG : Gl w) (hr0 : Kd.C (Kd.int .i64) w A0 l0.length l0) (hc0 : l0.length ≤ c0) (hr1 : Kd.C (Kd.int .i64) w A1 l1.length l1) (hc1 : l1.length ≤ c1) (hr2 : Kd.C (Kd.int .i64) w A2 l2.length l2) (hc2 : l2.length ≤ c2) (h : gonglaw06_OidOrder.f k l0 l1 l2 = some r) :
    Calls Tryd.prog 10 #[.slice A0 l0.length c0, .slice A1 l1.length c1, .slice A2 l2.length c2] w fun e w' => e = .returned (.bool r) ∧ Below w.heap.size w w' := by
  have HGl := Aside0.mk hG
  clear hG
  have HR0 := Aside0.mk hr0
  have HC0 := Aside0.mk hc0
  clear hr0 hc0
  have HR1 := Aside0.mk hr1
  have HC1 := Aside0.mk hc1
  clear hr1 hc1
  have HR2 := Aside0.mk hr2
  have HC2 := Aside0.mk hc2
  clear hr2 hc2
  have HB := Aside0.mk (Below.refl w.heap.size w)
  have H : ((gonglaw06_works.f k).bind fun t159 => (if t159 = true then ((gonglaw06_named.f k l0).bind fun t160 => ((oid_Text.f k t160).bind fun bt163 => ((gonglaw06_named.f k l1).bind fun t165 => ((oid_Text.f k t165).bind fun bt168 => ((gonglaw06_named.f k l2).bind fun t170 => ((oid_Text.f k t170).bind fun bt173 => (if bt163.2 = 0 then (if bt168.2 = 0 then (gonglaw06_OidOrder.j0 k bt163.1 bt168.1 bt173.1 (bt173.2 != 0)) else (gonglaw06_OidOrder.j0 k bt163.1 bt168.1 bt173.1 true)) else (gonglaw06_OidOrder.j0 k bt163.1 bt168.1 bt173.1 true)))))))) else (some false))) = some r := h
  clear h
  replace H := Option.bind_eq_some_iff.mp H
  obtain ⟨t159, A40, H⟩ := H
  replace H : (if t159 = true then ((gonglaw06_named.f k l0).bind fun t160 => ((oid_Text.f k t160).bind fun bt163 => ((gonglaw06_named.f k l1).bind fun t165 => ((oid_Text.f k t165).bind fun bt168 => ((gonglaw06_named.f k l2).bind fun t170 => ((oid_Text.f k t170).bind fun bt173 => (if bt163.2 = 0 then (if bt168.2 = 0 then (gonglaw06_OidOrder.j0 k bt163.1 bt168.1 bt173.1 (bt173.2 != 0)) else (gonglaw06_OidOrder.j0 k bt163.1 bt168.1 bt173.1 true)) else (gonglaw06_OidOrder.j0 k bt163.1 bt168.1 bt173.1 true)))))))) else (some false)) = some r := H
  have A4 := Aside0.mk A40
  clear A40
  by_cases c5 : t159 = true
  · subst c5
    have H1 : ((gonglaw06_named.f k l0).bind fun t160 => ((oid_Text.f k t160).bind fun bt163 => ((gonglaw06_named.f k l1).bind fun t165 => ((oid_Text.f k t165).bind fun bt168 => ((gonglaw06_named.f k l2).bind fun t170 => ((oid_Text.f k t170).bind fun bt173 => (if bt163.2 = 0 then (if bt168.2 = 0 then (gonglaw06_OidOrder.j0 k bt163.1 bt168.1 bt173.1 (bt173.2 != 0)) else (gonglaw06_OidOrder.j0 k bt163.1 bt168.1 bt173.1 true)) else (gonglaw06_OidOrder.j0 k bt163.1 bt168.1 bt173.1 true)))))))) = some r := by rw [if_pos rfl] at H; exact H
    clear H
    have H := H1
    clear H1
    replace H := Option.bind_eq_some_iff.mp H
    obtain ⟨t160, A60, H⟩ := H
    replace H : ((oid_Text.f k t160).bind fun bt163 => ((gonglaw06_named.f k l1).bind fun t165 => ((oid_Text.f k t165).bind fun bt168 => ((gonglaw06_named.f k l2).bind fun t170 => ((oid_Text.f k t170).bind fun bt173 => (if bt163.2 = 0 then (if bt168.2 = 0 then (gonglaw06_OidOrder.j0 k bt163.1 bt168.1 bt173.1 (bt173.2 != 0)) else (gonglaw06_OidOrder.j0 k bt163.1 bt168.1 bt173.1 true)) else (gonglaw06_OidOrder.j0 k bt163.1 bt168.1 bt173.1 true))))))) = some r := H
    have A6 := Aside0.mk A60
    clear A60
    replace H := Option.bind_eq_some_iff.mp H
    obtain ⟨⟨t163, t164⟩, A70, H⟩ := H
    replace H : ((gonglaw06_named.f k l1).bind fun t165 => ((oid_Text.f k t165).bind fun bt168 => ((gonglaw06_named.f k l2).bind fun t170 => ((oid_Text.f k t170).bind fun bt173 => (if t164 = 0 then (if bt168.2 = 0 then (gonglaw06_OidOrder.j0 k t163 bt168.1 bt173.1 (bt173.2 != 0)) else (gonglaw06_OidOrder.j0 k t163 bt168.1 bt173.1 true)) else (gonglaw06_OidOrder.j0 k t163 bt168.1 bt173.1 true)))))) = some r := H
    have A7 := Aside0.mk A70
    clear A70
    replace H := Option.bind_eq_some_iff.mp H
    obtain ⟨t165, A80, H⟩ := H
    replace H : ((oid_Text.f k t165).bind fun bt168 => ((gonglaw06_named.f k l2).bind fun t170 => ((oid_Text.f k t170).bind fun bt173 => (if t164 = 0 then (if bt168.2 = 0 then (gonglaw06_OidOrder.j0 k t163 bt168.1 bt173.1 (bt173.2 != 0)) else (gonglaw06_OidOrder.j0 k t163 bt168.1 bt173.1 true)) else (gonglaw06_OidOrder.j0 k t163 bt168.1 bt173.1 true))))) = some r := H
    have A8 := Aside0.mk A80
    clear A80
    replace H := Option.bind_eq_some_iff.mp H
    obtain ⟨⟨t168, t169⟩, A90, H⟩ := H
    replace H : ((gonglaw06_named.f k l2).bind fun t170 => ((oid_Text.f k t170).bind fun bt173 => (if t164 = 0 then (if t169 = 0 then (gonglaw06_OidOrder.j0 k t163 t168 bt173.1 (bt173.2 != 0)) else (gonglaw06_OidOrder.j0 k t163 t168 bt173.1 true)) else (gonglaw06_OidOrder.j0 k t163 t168 bt173.1 true)))) = some r := H
    have A9 := Aside0.mk A90
    clear A90
    replace H := Option.bind_eq_some_iff.mp H
    obtain ⟨t170, A100, H⟩ := H
    replace H : ((oid_Text.f k t170).bind fun bt173 => (if t164 = 0 then (if t169 = 0 then (gonglaw06_OidOrder.j0 k t163 t168 bt173.1 (bt173.2 != 0)) else (gonglaw06_OidOrder.j0 k t163 t168 bt173.1 true)) else (gonglaw06_OidOrder.j0 k t163 t168 bt173.1 true))) = some r := H
    have A10 := Aside0.mk A100
    clear A100
    replace H := Option.bind_eq_some_iff.mp H
    obtain ⟨⟨t173, t174⟩, A110, H⟩ := H
    replace H : (if t164 = 0 then (if t169 = 0 then (gonglaw06_OidOrder.j0 k t163 t168 t173 (t174 != 0)) else (gonglaw06_OidOrder.j0 k t163 t168 t173 true)) else (gonglaw06_OidOrder.j0 k t163 t168 t173 true)) = some r := H
    have A11 := Aside0.mk A110
    clear A110
    have HC12 := Aside0.mk H
    clear H
    go_enter Tryd.func10, Tryd.ntmps10
    go_upto_region 6 with (first | ((with_reducible refine gate_callee (f := 24) rfl ?_); refine goesL_ (some 15) rfl rfl Tryd.func24 (by kernel_rfl) rfl #[] rfl (by (try simp only [List.map_toArray, List.map_cons, List.map_nil]); first | done | rfl | (simp only [List.length_drop, List.length_take]; rfl)) ?_; (with_reducible refine (gonglaw06_works.calls k  true _ ?side1 A4.out).mono ?_); (case side1 => first | exact HGl.out | exact HGl.out.below (by repeat (first | (with_reducible first | exact HB.out | apply below_alloc | apply pw_below_drewN | apply below_drew1) | exact HB.out | exact Below.refl _ _))); rintro e w13 ⟨rfl, hb⟩; refine ⟨_, rfl, ?_⟩; have n0_ := Aside0.mk (below_step (by repeat (first | (with_reducible first | exact HB.out | apply below_alloc | apply pw_below_drewN | apply below_drew1) | exact HB.out)) hb); clear HB; have HB := n0_; clear n0_; (try clear hb); (try clear hb2); (try clear hk); (try clear hi)) | ((with_reducible refine gate_callee (f := 33) rfl ?_); refine goesL_ (some 19) rfl rfl Tryd.func33 (by kernel_rfl) rfl #[.slice A0 l0.length c0] rfl (by (try simp only [List.map_toArray, List.map_cons, List.map_nil]); first | done | rfl | (simp only [List.length_drop, List.length_take]; rfl)) ?_; (with_reducible refine (gonglaw06_named.calls k _ _ l0 t160 _ ?side1 ?side2 A6.out).mono ?_); (case side1 => repeat (first | exact (Kd.C_below HR0.out HB.out) | (with_reducible refine Kd.C_alloc ?_ _) | (with_reducible refine Kd.C_drewN ?_ _) | (with_reducible refine Kd.C_drew ?_))); (case side2 => exact HC0.out); rintro e w14 ⟨v161, rfl, ho0, hb⟩; refine ⟨_, rfl, ?_⟩; have n0_ := Aside0.mk (Kd.R_lower ho0 (below_size (by repeat (first | (with_reducible first | exact HB.out | apply below_alloc | apply pw_below_drewN | apply below_drew1) | exact HB.out)))); have n1_ := Aside0.mk (below_step (by repeat (first | (with_reducible first | exact HB.out | apply below_alloc | apply pw_below_drewN | apply below_drew1) | exact HB.out)) hb); clear HB; have HO162 := n0_; have HB := n1_; clear n0_ n1_; (try clear hb); (try clear hb2); (try clear hk); (try clear hi); (try clear ho0); obtain ⟨Ao15, co15, eo15⟩ := Kd.R_slice HO162.out; subst eo15) | ((with_reducible refine gate_callee (f := 34) rfl ?_); refine goesL_ (some 20) rfl rfl Tryd.func34 (by kernel_rfl) rfl #[.slice Ao15 t160.length co15] rfl (by (try simp only [List.map_toArray, List.map_cons, List.map_nil]); first | done | rfl | (simp only [List.length_drop, List.length_take]; rfl)) ?_; (with_reducible refine (oid_Text.calls k _ _ t160 t163 t164 _ ?side3 ?side1 ?side2 A7.out).mono ?_); (case side1 => repeat (first | exact (Kd.R_reads' HO162.out).2.2 | (with_reducible refine Kd.C_alloc ?_ _) | (with_reducible refine Kd.C_drewN ?_ _) | (with_reducible refine Kd.C_drew ?_))); (case side2 => exact (Kd.R_reads' HO162.out).2.1); (case side3 => first | exact HGl.out | exact HGl.out.below (by repeat (first | (with_reducible first | exact HB.out | apply below_alloc | apply pw_below_drewN | apply below_drew1) | exact HB.out | exact Below.refl _ _))); rintro e w16 ⟨rfl, hb⟩; refine ⟨_, rfl, ?_⟩; have n0_ := Aside0.mk (Kd.R_below (by (with_reducible repeat (first | apply Kd.R_alloc | apply Kd.R_drewN | apply Kd.R_drew)); exact HO162.out) hb); have n1_ := Aside0.mk (below_step (by repeat (first | (with_reducible first | exact HB.out | apply below_alloc | apply pw_below_drewN | apply below_drew1) | exact HB.out)) hb); clear HO162; clear HB; have HO162 := n0_; have HB := n1_; clear n0_ n1_; (try clear hb); (try clear hb2); (try clear hk); (try clear hi)) | ((with_reducible refine gate_callee (f := 33) rfl ?_); refine goesL_ (some 25) rfl rfl Tryd.func33 (by kernel_rfl) rfl #[.slice A1 l1.length c1] rfl (by (try simp only [List.map_toArray, List.map_cons, List.map_nil]); first | done | rfl | (simp only [List.length_drop, List.length_take]; rfl)) ?_; (with_reducible refine (gonglaw06_named.calls k _ _ l1 t165 _ ?side1 ?side2 A8.out).mono ?_); (case side1 => repeat (first | exact (Kd.C_below HR1.out HB.out) | (with_reducible refine Kd.C_alloc ?_ _) | (with_reducible refine Kd.C_drewN ?_ _) | (with_reducible refine Kd.C_drew ?_))); (case side2 => exact HC1.out); rintro e w17 ⟨v166, rfl, ho0, hb⟩; refine ⟨_, rfl, ?_⟩; have n0_ := Aside0.mk (Kd.R_elder' (by (with_reducible repeat (first | apply Kd.R_alloc | apply Kd.R_drewN | apply Kd.R_drew)); exact HO162.out) (Kd.R_base ho0) hb); have n1_ := Aside0.mk (Kd.R_lower (Kd.R_new' ho0 (Kd.R_lt (by (with_reducible repeat (first | apply Kd.R_alloc | apply Kd.R_drewN | apply Kd.R_drew)); exact HO162.out))) (below_size (by repeat (first | (with_reducible first | exact HB.out | apply below_alloc | apply pw_below_drewN | apply below_drew1) | exact HB.out)))); have n2_ := Aside0.mk (below_step (by repeat (first | (with_reducible first | exact HB.out | apply below_alloc | apply pw_below_drewN | apply below_drew1) | exact HB.out)) hb); clear HO162; clear HB; have HO162 := n0_; have HO167 := n1_; have HB := n2_; clear n0_ n1_ n2_; (try clear hb); (try clear hb2); (try clear hk); (try clear hi); (try clear ho0); obtain ⟨Ao18, co18, eo18⟩ := Kd.R_slice HO167.out; subst eo18) | ((with_reducible refine gate_callee (f := 34) rfl ?_); refine goesL_ (some 26) rfl rfl Tryd.func34 (by kernel_rfl) rfl #[.slice Ao18 t165.length co18] rfl (by (try simp only [List.map_toArray, List.map_cons, List.map_nil]); first | done | rfl | (simp only [List.length_drop, List.length_take]; rfl)) ?_; (with_reducible refine (oid_Text.calls k _ _ t165 t168 t169 _ ?side3 ?side1 ?side2 A9.out).mono ?_); (case side1 => repeat (first | exact (Kd.R_reads' HO167.out).2.2 | (with_reducible refine Kd.C_alloc ?_ _) | (with_reducible refine Kd.C_drewN ?_ _) | (with_reducible refine Kd.C_drew ?_))); (case side2 => exact (Kd.R_reads' HO167.out).2.1); (case side3 => first | exact HGl.out | exact HGl.out.below (by repeat (first | (with_reducible first | exact HB.out | apply below_alloc | apply pw_below_drewN | apply below_drew1) | exact HB.out | exact Below.refl _ _))); rintro e w19 ⟨rfl, hb⟩; refine ⟨_, rfl, ?_⟩; have n0_ := Aside0.mk (Kd.R_below (by (with_reducible repeat (first | apply Kd.R_alloc | apply Kd.R_drewN | apply Kd.R_drew)); exact HO162.out) hb); have n1_ := Aside0.mk (Kd.R_below (by (with_reducible repeat (first | apply Kd.R_alloc | apply Kd.R_drewN | apply Kd.R_drew)); exact HO167.out) hb); have n2_ := Aside0.mk (below_step (by repeat (first | (with_reducible first | exact HB.out | apply below_alloc | apply pw_below_drewN | apply below_drew1) | exact HB.out)) hb); clear HO162; clear HO167; clear HB; have HO162 := n0_; have HO167 := n1_; have HB := n2_; clear n0_ n1_ n2_; (try clear hb); (try clear hb2); (try clear hk); (try clear hi)) | ((with_reducible refine gate_callee (f := 33) rfl ?_); refine goesL_ (some 31) rfl rfl Tryd.func33 (by kernel_rfl) rfl #[.slice A2 l2.length c2] rfl (by (try simp only [List.map_toArray, List.map_cons, List.map_nil]); first | done | rfl | (simp only [List.length_drop, List.length_take]; rfl)) ?_; (with_reducible refine (gonglaw06_named.calls k _ _ l2 t170 _ ?side1 ?side2 A10.out).mono ?_); (case side1 => repeat (first | exact (Kd.C_below HR2.out HB.out) | (with_reducible refine Kd.C_alloc ?_ _) | (with_reducible refine Kd.C_drewN ?_ _) | (with_reducible refine Kd.C_drew ?_))); (case side2 => exact HC2.out); rintro e w20 ⟨v171, rfl, ho0, hb⟩; refine ⟨_, rfl, ?_⟩; have n0_ := Aside0.mk (Kd.R_elder' (by (with_reducible repeat (first | apply Kd.R_alloc | apply Kd.R_drewN | apply Kd.R_drew)); exact HO162.out) (Kd.R_base ho0) hb); have n1_ := Aside0.mk (Kd.R_elder' (by (with_reducible repeat (first | apply Kd.R_alloc | apply Kd.R_drewN | apply Kd.R_drew)); exact HO167.out) (Kd.R_base ho0) hb); have n2_ := Aside0.mk (Kd.R_lower (Kd.R_new' (Kd.R_new' ho0 (Kd.R_lt (by (with_reducible repeat (first | apply Kd.R_alloc | apply Kd.R_drewN | apply Kd.R_drew)); exact HO162.out))) (Kd.R_lt (by (with_reducible repeat (first | apply Kd.R_alloc | apply Kd.R_drewN | apply Kd.R_drew)); exact HO167.out))) (below_size (by repeat (first | (with_reducible first | exact HB.out | apply below_alloc | apply pw_below_drewN | apply below_drew1) | exact HB.out)))); have n3_ := Aside0.mk (below_step (by repeat (first | (with_reducible first | exact HB.out | apply below_alloc | apply pw_below_drewN | apply below_drew1) | exact HB.out)) hb); clear HO162; clear HO167; clear HB; have HO162 := n0_; have HO167 := n1_; have HO172 := n2_; have HB := n3_; clear n0_ n1_ n2_ n3_; (try clear hb); (try clear hb2); (try clear hk); (try clear hi); (try clear ho0); obtain ⟨Ao21, co21, eo21⟩ := Kd.R_slice HO172.out; subst eo21) | ((with_reducible refine gate_callee (f := 34) rfl ?_); refine goesL_ (some 32) rfl rfl Tryd.func34 (by kernel_rfl) rfl #[.slice Ao21 t170.length co21] rfl (by (try simp only [List.map_toArray, List.map_cons, List.map_nil]); first | done | rfl | (simp only [List.length_drop, List.length_take]; rfl)) ?_; (with_reducible refine (oid_Text.calls k _ _ t170 t173 t174 _ ?side3 ?side1 ?side2 A11.out).mono ?_); (case side1 => repeat (first | exact (Kd.R_reads' HO172.out).2.2 | (with_reducible refine Kd.C_alloc ?_ _) | (with_reducible refine Kd.C_drewN ?_ _) | (with_reducible refine Kd.C_drew ?_))); (case side2 => exact (Kd.R_reads' HO172.out).2.1); (case side3 => first | exact HGl.out | exact HGl.out.below (by repeat (first | (with_reducible first | exact HB.out | apply below_alloc | apply pw_below_drewN | apply below_drew1) | exact HB.out | exact Below.refl _ _))); rintro e w22 ⟨rfl, hb⟩; refine ⟨_, rfl, ?_⟩; have n0_ := Aside0.mk (Kd.R_below (by (with_reducible repeat (first | apply Kd.R_alloc | apply Kd.R_drewN | apply Kd.R_drew)); exact HO162.out) hb); have n1_ := Aside0.mk (Kd.R_below (by (with_reducible repeat (first | apply Kd.R_alloc | apply Kd.R_drewN | apply Kd.R_drew)); exact HO167.out) hb); have n2_ := Aside0.mk (Kd.R_below (by (with_reducible repeat (first | apply Kd.R_alloc | apply Kd.R_drewN | apply Kd.R_drew)); exact HO172.out) hb); have n3_ := Aside0.mk (below_step (by repeat (first | (with_reducible first | exact HB.out | apply below_alloc | apply pw_below_drewN | apply below_drew1) | exact HB.out)) hb); clear HO162; clear HO167; clear HO172; clear HB; have HO162 := n0_; have HO167 := n1_; have HO172 := n2_; have HB := n3_; clear n0_ n1_ n2_ n3_; (try clear hb); (try clear hb2); (try clear hk); (try clear hi)))
    (try simp only [Act.put, List.setIfInBounds_toArray, List.set_cons_zero, List.set_cons_succ])
    go_cut [44] (fun v44 wc => ∃ (kq : Nat) (x44_11 : Bool), v44 = .bool x44_11 ∧ Aside0 (gonglaw06_OidOrder.j0 kq t163 t168 t173 x44_11 = some r) ∧ Aside0 (kq ≤ k) ∧ Aside0 (Below w.heap.size w wc))
    case first =>
      have H := HC12.out
      clear HC12
      by_cases c23 : t164 = 0
      · rw [if_pos c23] at H
        have c23b0 : (t164 == 0) = true := beq_iff_eq.mpr c23
        have c23b1 : (t164 != 0) = false := bne_eq_false_iff_eq.mpr c23
        clear c23
        (first | rw [c23b0] | (simp only [i64_w, i32_w]; rw [c23b0]) | skip)
        by_cases c24 : t169 = 0
        · rw [if_pos c24] at H
          have c24b0 : (t169 == 0) = true := beq_iff_eq.mpr c24
          have c24b1 : (t169 != 0) = false := bne_eq_false_iff_eq.mpr c24
          clear c24
          have H' := Aside0.mk H
          clear H
          go_wp2
          go_meet
          case rel => exact ⟨_, ((t174 != 0)), (by first | rfl | (simp; done) | (simp [*]; done) | (simp [*]; exact isEmpty_bne _) | (simp; exact isEmpty_bne _)), H', ⟨by first | omega | exact Nat.le_refl _⟩, ⟨by repeat (first | (with_reducible first | exact HB.out | apply below_alloc | apply pw_below_drewN | apply below_drew1) | exact HB.out)⟩⟩
        · rw [if_neg c24] at H
          have c24b0 : (t169 == 0) = false := beq_eq_false_iff_ne.mpr c24
          have c24b1 : (t169 != 0) = true := bne_iff_ne.mpr c24
          have H' := Aside0.mk H
          clear H
          go_wp2
          go_meet
          case rel => exact ⟨_, (true), (by first | rfl | (simp; done) | (simp [*]; done) | (simp [*]; exact isEmpty_bne _) | (simp; exact isEmpty_bne _)), H', ⟨by first | omega | exact Nat.le_refl _⟩, ⟨by repeat (first | (with_reducible first | exact HB.out | apply below_alloc | apply pw_below_drewN | apply below_drew1) | exact HB.out)⟩⟩
      · rw [if_neg c23] at H
        have c23b0 : (t164 == 0) = false := beq_eq_false_iff_ne.mpr c23
        have c23b1 : (t164 != 0) = true := bne_iff_ne.mpr c23
        (first | rw [c23b0] | (simp only [i64_w, i32_w]; rw [c23b0]) | skip)
        have H' := Aside0.mk H
        clear H
        go_wp2
        go_meet
        case rel => exact ⟨_, (true), (by first | rfl | (simp; done) | (simp [*]; done) | (simp [*]; exact isEmpty_bne _) | (simp; exact isEmpty_bne _)), H', ⟨by first | omega | exact Nat.le_refl _⟩, ⟨by repeat (first | (with_reducible first | exact HB.out | apply below_alloc | apply pw_below_drewN | apply below_drew1) | exact HB.out)⟩⟩
    case rest =>
      clear HC12
      try clear c1
      try clear c2
      try clear p2
      try clear c3
      try clear c5
      try clear c10
      try clear c23
      try clear c23b0
      try clear c23b1
      try clear c24
      try clear c24b0
      try clear c24b1
      obtain ⟨kq, x44_11, rfl, HA, HJ11, HB⟩ := hcut
      cases kq with
      | zero => exact absurd HA.out (by simp [gonglaw06_OidOrder.j0])
      | succ kj11 =>
        have H := HA.out
        clear HA
        simp only [gonglaw06_OidOrder.j0] at H
        by_cases c25 : x44_11 = true
        · subst c25
          have H1 : (some false) = some r := by rw [if_pos rfl] at H; exact H
          clear H
          have H := H1
          clear H1
          obtain rfl := Option.some.inj H
          go_wp2
          go_ret
          exact ⟨by first | rfl | (simp [errW_none, errW_some] <;> rfl) | (simp [*, errW_none, errW_some] <;> rfl), by repeat (first | (with_reducible first | exact HB.out | apply below_alloc | apply pw_below_drewN | apply below_drew1) | exact HB.out)⟩
        · replace c25 := Bool.eq_false_iff.mpr c25
          subst c25
          have H1 : ((oid_Less.f kj11 t163 t168).bind fun t175 => ((oid_Less.f kj11 t168 t163).bind fun t176 => (if t175 = true then (if t176 = true then (gonglaw06_OidOrder.j1 kj11 t163 t168 t173 t175 true) else (if ((t163.toList == t168.toList) == true) = true then (gonglaw06_OidOrder.j1 kj11 t163 t168 t173 t175 true) else ((oid_Less.f kj11 t163 t163).bind fun t177 => (if t177 = true then (gonglaw06_OidOrder.j1 kj11 t163 t168 t173 t175 true) else ((oid_Within.f kj11 t163 t163).bind fun t178 => (gonglaw06_OidOrder.j1 kj11 t163 t168 t173 t175 (!t178))))))) else (if ((t163.toList == t168.toList) == t176) = true then (gonglaw06_OidOrder.j1 kj11 t163 t168 t173 t175 true) else ((oid_Less.f kj11 t163 t163).bind fun t179 => (if t179 = true then (gonglaw06_OidOrder.j1 kj11 t163 t168 t173 t175 true) else ((oid_Within.f kj11 t163 t163).bind fun t180 => (gonglaw06_OidOrder.j1 kj11 t163 t168 t173 t175 (!t180))))))))) = some r := by rw [if_neg (show ¬ (false = true) by decide)] at H; exact H
          clear H
          have H := H1
          clear H1
          replace H := Option.bind_eq_some_iff.mp H
          obtain ⟨t175, A260, H⟩ := H
          replace H : ((oid_Less.f kj11 t168 t163).bind fun t176 => (if t175 = true then (if t176 = true then (gonglaw06_OidOrder.j1 kj11 t163 t168 t173 t175 true) else (if ((t163.toList == t168.toList) == true) = true then (gonglaw06_OidOrder.j1 kj11 t163 t168 t173 t175 true) else ((oid_Less.f kj11 t163 t163).bind fun t177 => (if t177 = true then (gonglaw06_OidOrder.j1 kj11 t163 t168 t173 t175 true) else ((oid_Within.f kj11 t163 t163).bind fun t178 => (gonglaw06_OidOrder.j1 kj11 t163 t168 t173 t175 (!t178))))))) else (if ((t163.toList == t168.toList) == t176) = true then (gonglaw06_OidOrder.j1 kj11 t163 t168 t173 t175 true) else ((oid_Less.f kj11 t163 t163).bind fun t179 => (if t179 = true then (gonglaw06_OidOrder.j1 kj11 t163 t168 t173 t175 true) else ((oid_Within.f kj11 t163 t163).bind fun t180 => (gonglaw06_OidOrder.j1 kj11 t163 t168 t173 t175 (!t180)))))))) = some r := H
          have A26 := Aside0.mk A260
          clear A260
          replace H := Option.bind_eq_some_iff.mp H
          obtain ⟨t176, A270, H⟩ := H
          replace H : (if t175 = true then (if t176 = true then (gonglaw06_OidOrder.j1 kj11 t163 t168 t173 t175 true) else (if ((t163.toList == t168.toList) == true) = true then (gonglaw06_OidOrder.j1 kj11 t163 t168 t173 t175 true) else ((oid_Less.f kj11 t163 t163).bind fun t177 => (if t177 = true then (gonglaw06_OidOrder.j1 kj11 t163 t168 t173 t175 true) else ((oid_Within.f kj11 t163 t163).bind fun t178 => (gonglaw06_OidOrder.j1 kj11 t163 t168 t173 t175 (!t178))))))) else (if ((t163.toList == t168.toList) == t176) = true then (gonglaw06_OidOrder.j1 kj11 t163 t168 t173 t175 true) else ((oid_Less.f kj11 t163 t163).bind fun t179 => (if t179 = true then (gonglaw06_OidOrder.j1 kj11 t163 t168 t173 t175 true) else ((oid_Within.f kj11 t163 t163).bind fun t180 => (gonglaw06_OidOrder.j1 kj11 t163 t168 t173 t175 (!t180))))))) = some r := H
          have A27 := Aside0.mk A270
          clear A270
          have HC28 := Aside0.mk H
          clear H
          go_upto_region 9 with (first | ((with_reducible refine gate_callee (f := 35) rfl ?_); refine goesL_ (some 47) rfl rfl Tryd.func35 (by kernel_rfl) rfl #[.string t163, .string t168] rfl (by (try simp only [List.map_toArray, List.map_cons, List.map_nil]); first | done | rfl | (simp only [List.length_drop, List.length_take]; rfl)) ?_; (with_reducible refine (oid_Less.calls kj11 t163 t168 t175 _ ?side1 A26.out).mono ?_); (case side1 => first | exact HGl.out | exact HGl.out.below (by repeat (first | (with_reducible first | exact HB.out | apply below_alloc | apply pw_below_drewN | apply below_drew1) | exact HB.out | exact Below.refl _ _))); rintro e w29 ⟨rfl, hb⟩; refine ⟨_, rfl, ?_⟩; have n0_ := Aside0.mk (below_step (by repeat (first | (with_reducible first | exact HB.out | apply below_alloc | apply pw_below_drewN | apply below_drew1) | exact HB.out)) hb); clear HB; have HB := n0_; clear n0_; (try clear hb); (try clear hb2); (try clear hk); (try clear hi)) | ((with_reducible refine gate_callee (f := 35) rfl ?_); refine goesL_ (some 50) rfl rfl Tryd.func35 (by kernel_rfl) rfl #[.string t168, .string t163] rfl (by (try simp only [List.map_toArray, List.map_cons, List.map_nil]); first | done | rfl | (simp only [List.length_drop, List.length_take]; rfl)) ?_; (with_reducible refine (oid_Less.calls kj11 t168 t163 t176 _ ?side1 A27.out).mono ?_); (case side1 => first | exact HGl.out | exact HGl.out.below (by repeat (first | (with_reducible first | exact HB.out | apply below_alloc | apply pw_below_drewN | apply below_drew1) | exact HB.out | exact Below.refl _ _))); rintro e w30 ⟨rfl, hb⟩; refine ⟨_, rfl, ?_⟩; have n0_ := Aside0.mk (below_step (by repeat (first | (with_reducible first | exact HB.out | apply below_alloc | apply pw_below_drewN | apply below_drew1) | exact HB.out)) hb); clear HB; have HB := n0_; clear n0_; (try clear hb); (try clear hb2); (try clear hk); (try clear hi)))
          (try simp only [Act.put, List.setIfInBounds_toArray, List.set_cons_zero, List.set_cons_succ])
          go_cut [75] (fun v75 wc => ∃ (kq : Nat) (x75_27 : Bool), v75 = .bool x75_27 ∧ Aside0 (gonglaw06_OidOrder.j1 kq t163 t168 t173 t175 x75_27 = some r) ∧ Aside0 (kq ≤ kj11) ∧ Aside0 (Below w.heap.size w wc))
          case first =>
            have H := HC28.out
            clear HC28
            by_cases c31 : t175 = true
            · subst c31
              have H1 : (if t176 = true then (gonglaw06_OidOrder.j1 kj11 t163 t168 t173 true true) else (if ((t163.toList == t168.toList) == true) = true then (gonglaw06_OidOrder.j1 kj11 t163 t168 t173 true true) else ((oid_Less.f kj11 t163 t163).bind fun t177 => (if t177 = true then (gonglaw06_OidOrder.j1 kj11 t163 t168 t173 true true) else ((oid_Within.f kj11 t163 t163).bind fun t178 => (gonglaw06_OidOrder.j1 kj11 t163 t168 t173 true (!t178))))))) = some r := by rw [if_pos rfl] at H; exact H
              clear H
              have H := H1
              clear H1
              by_cases c32 : t176 = true
              · subst c32
                have H1 : (gonglaw06_OidOrder.j1 kj11 t163 t168 t173 true true) = some r := by rw [if_pos rfl] at H; exact H
                clear H
                have H := H1
                clear H1
                have H' := Aside0.mk H
                clear H
                go_wp2
                go_meet
                case rel => exact ⟨_, (true), (by first | rfl | (simp; done) | (simp [*]; done) | (simp [*]; exact isEmpty_bne _) | (simp; exact isEmpty_bne _)), H', ⟨by have := HJ11.out; first | omega | exact Nat.le_refl _⟩, ⟨by repeat (first | (with_reducible first | exact HB.out | apply below_alloc | apply pw_below_drewN | apply below_drew1) | exact HB.out)⟩⟩
              · replace c32 := Bool.eq_false_iff.mpr c32
                subst c32
                have H1 : (if ((t163.toList == t168.toList) == true) = true then (gonglaw06_OidOrder.j1 kj11 t163 t168 t173 true true) else ((oid_Less.f kj11 t163 t163).bind fun t177 => (if t177 = true then (gonglaw06_OidOrder.j1 kj11 t163 t168 t173 true true) else ((oid_Within.f kj11 t163 t163).bind fun t178 => (gonglaw06_OidOrder.j1 kj11 t163 t168 t173 true (!t178)))))) = some r := by rw [if_neg (show ¬ (false = true) by decide)] at H; exact H
                clear H
                have H := H1
                clear H1
                by_cases c33 : ((t163.toList == t168.toList) == true) = true
                · rw [if_pos c33] at H
                  have c33b0 : ((t163.toList == t168.toList) == true) = true := c33
                  (try (have c33b1 : decide ((t163.toList == t168.toList) = true) = true := by simpa using c33))
                  (try (have c33b2 : ((t163.toList == t168.toList) == true) = true := by simpa using c33))
                  clear c33
                  (first | rw [c33b0] | (simp only [i64_w, i32_w]; rw [c33b0]) | skip)
                  have H' := Aside0.mk H
                  clear H
                  go_wp2
                  go_meet
                  case rel => exact ⟨_, (true), (by first | rfl | (simp; done) | (simp [*]; done) | (simp [*]; exact isEmpty_bne _) | (simp; exact isEmpty_bne _)), H', ⟨by have := HJ11.out; first | omega | exact Nat.le_refl _⟩, ⟨by repeat (first | (with_reducible first | exact HB.out | apply below_alloc | apply pw_below_drewN | apply below_drew1) | exact HB.out)⟩⟩
                · rw [if_neg c33] at H
                  have c33b0 : ((t163.toList == t168.toList) == true) = false := by simpa using c33
                  (try (have c33b1 : decide ((t163.toList == t168.toList) = true) = false := by simpa using c33))
                  (try (have c33b2 : ((t163.toList == t168.toList) == true) = false := by simpa using c33))
                  (try (have c33b3 : ¬ ((t163.toList == t168.toList) = true) := by simpa using c33))
                  clear c33
                  (first | rw [c33b0] | (simp only [i64_w, i32_w]; rw [c33b0]) | skip)
                  replace H := Option.bind_eq_some_iff.mp H
                  obtain ⟨t177, A340, H⟩ := H
                  replace H : (if t177 = true then (gonglaw06_OidOrder.j1 kj11 t163 t168 t173 true true) else ((oid_Within.f kj11 t163 t163).bind fun t178 => (gonglaw06_OidOrder.j1 kj11 t163 t168 t173 true (!t178)))) = some r := H
                  have A34 := Aside0.mk A340
                  clear A340
                  by_cases c35 : t177 = true
                  · subst c35
                    have H1 : (gonglaw06_OidOrder.j1 kj11 t163 t168 t173 true true) = some r := by rw [if_pos rfl] at H; exact H
                    clear H
                    have H := H1
                    clear H1
                    have H' := Aside0.mk H
                    clear H
                    go_wp2_with (first | (go_at_call 35; (with_reducible refine (oid_Less.calls kj11 t163 t163 true _ ?side1 A34.out).mono ?_); (case side1 => first | exact HGl.out | exact HGl.out.below (by repeat (first | (with_reducible first | exact HB.out | apply below_alloc | apply pw_below_drewN | apply below_drew1) | exact HB.out | exact Below.refl _ _))); rintro e w36 ⟨rfl, hb⟩; have n0_ := Aside0.mk (below_step (by repeat (first | (with_reducible first | exact HB.out | apply below_alloc | apply pw_below_drewN | apply below_drew1) | exact HB.out)) hb); clear HB; have HB := n0_; clear n0_; (try clear hb); (try clear hb2); (try clear hk); (try clear hi)))
                    go_meet
                    case rel => exact ⟨_, (true), (by first | rfl | (simp; done) | (simp [*]; done) | (simp [*]; exact isEmpty_bne _) | (simp; exact isEmpty_bne _)), H', ⟨by have := HJ11.out; first | omega | exact Nat.le_refl _⟩, ⟨by repeat (first | (with_reducible first | exact HB.out | apply below_alloc | apply pw_below_drewN | apply below_drew1) | exact HB.out)⟩⟩
                  · replace c35 := Bool.eq_false_iff.mpr c35
                    subst c35
                    have H1 : ((oid_Within.f kj11 t163 t163).bind fun t178 => (gonglaw06_OidOrder.j1 kj11 t163 t168 t173 true (!t178))) = some r := by rw [if_neg (show ¬ (false = true) by decide)] at H; exact H
                    clear H
                    have H := H1
                    clear H1
                    replace H := Option.bind_eq_some_iff.mp H
                    obtain ⟨t178, A370, H⟩ := H
                    replace H : (gonglaw06_OidOrder.j1 kj11 t163 t168 t173 true (!t178)) = some r := H
                    have A37 := Aside0.mk A370
                    clear A370
                    have H' := Aside0.mk H
                    clear H
                    go_wp2_with (first | (go_at_call 35; (with_reducible refine (oid_Less.calls kj11 t163 t163 false _ ?side1 A34.out).mono ?_); (case side1 => first | exact HGl.out | exact HGl.out.below (by repeat (first | (with_reducible first | exact HB.out | apply below_alloc | apply pw_below_drewN | apply below_drew1) | exact HB.out | exact Below.refl _ _))); rintro e w38 ⟨rfl, hb⟩; have n0_ := Aside0.mk (below_step (by repeat (first | (with_reducible first | exact HB.out | apply below_alloc | apply pw_below_drewN | apply below_drew1) | exact HB.out)) hb); clear HB; have HB := n0_; clear n0_; (try clear hb); (try clear hb2); (try clear hk); (try clear hi)) | (go_at_call 36; (with_reducible refine (oid_Within.calls kj11 t163 t163 t178 _ ?side1 A37.out).mono ?_); (case side1 => first | exact HGl.out | exact HGl.out.below (by repeat (first | (with_reducible first | exact HB.out | apply below_alloc | apply pw_below_drewN | apply below_drew1) | exact HB.out | exact Below.refl _ _))); rintro e w39 ⟨rfl, hb⟩; have n0_ := Aside0.mk (below_step (by repeat (first | (with_reducible first | exact HB.out | apply below_alloc | apply pw_below_drewN | apply below_drew1) | exact HB.out)) hb); clear HB; have HB := n0_; clear n0_; (try clear hb); (try clear hb2); (try clear hk); (try clear hi)))
                    go_meet
                    case rel => exact ⟨_, (!t178), (by first | rfl | (simp; done) | (simp [*]; done) | (simp [*]; exact isEmpty_bne _) | (simp; exact isEmpty_bne _)), H', ⟨by have := HJ11.out; first | omega | exact Nat.le_refl _⟩, ⟨by repeat (first | (with_reducible first | exact HB.out | apply below_alloc | apply pw_below_drewN | apply below_drew1) | exact HB.out)⟩⟩
            · replace c31 := Bool.eq_false_iff.mpr c31
              subst c31
              have H1 : (if ((t163.toList == t168.toList) == t176) = true then (gonglaw06_OidOrder.j1 kj11 t163 t168 t173 false true) else ((oid_Less.f kj11 t163 t163).bind fun t179 => (if t179 = true then (gonglaw06_OidOrder.j1 kj11 t163 t168 t173 false true) else ((oid_Within.f kj11 t163 t163).bind fun t180 => (gonglaw06_OidOrder.j1 kj11 t163 t168 t173 false (!t180)))))) = some r := by rw [if_neg (show ¬ (false = true) by decide)] at H; exact H
              clear H
              have H := H1
              clear H1
              by_cases c40 : ((t163.toList == t168.toList) == t176) = true
              · rw [if_pos c40] at H
                have c40b0 : ((t163.toList == t168.toList) == t176) = true := c40
                (try (have c40b1 : decide ((t163.toList == t168.toList) = t176) = true := by simpa using c40))
                (try (have c40b2 : ((t163.toList == t168.toList) == t176) = true := by simpa using c40))
                clear c40
                have H' := Aside0.mk H
                clear H
                go_wp2
                go_meet
                case rel => exact ⟨_, (true), (by first | rfl | (simp; done) | (simp [*]; done) | (simp [*]; exact isEmpty_bne _) | (simp; exact isEmpty_bne _)), H', ⟨by have := HJ11.out; first | omega | exact Nat.le_refl _⟩, ⟨by repeat (first | (with_reducible first | exact HB.out | apply below_alloc | apply pw_below_drewN | apply below_drew1) | exact HB.out)⟩⟩
              · rw [if_neg c40] at H
                have c40b0 : ((t163.toList == t168.toList) == t176) = false := by simpa using c40
                (try (have c40b1 : decide ((t163.toList == t168.toList) = t176) = false := by simpa using c40))
                (try (have c40b2 : ((t163.toList == t168.toList) == t176) = false := by simpa using c40))
                (try (have c40b3 : ¬ ((t163.toList == t168.toList) = t176) := by simpa using c40))
                clear c40
                replace H := Option.bind_eq_some_iff.mp H
                obtain ⟨t179, A410, H⟩ := H
                replace H : (if t179 = true then (gonglaw06_OidOrder.j1 kj11 t163 t168 t173 false true) else ((oid_Within.f kj11 t163 t163).bind fun t180 => (gonglaw06_OidOrder.j1 kj11 t163 t168 t173 false (!t180)))) = some r := H
                have A41 := Aside0.mk A410
                clear A410
                by_cases c42 : t179 = true
                · subst c42
                  have H1 : (gonglaw06_OidOrder.j1 kj11 t163 t168 t173 false true) = some r := by rw [if_pos rfl] at H; exact H
                  clear H
                  have H := H1
                  clear H1
                  have H' := Aside0.mk H
                  clear H
                  go_wp2_with (first | (go_at_call 35; (with_reducible refine (oid_Less.calls kj11 t163 t163 true _ ?side1 A41.out).mono ?_); (case side1 => first | exact HGl.out | exact HGl.out.below (by repeat (first | (with_reducible first | exact HB.out | apply below_alloc | apply pw_below_drewN | apply below_drew1) | exact HB.out | exact Below.refl _ _))); rintro e w43 ⟨rfl, hb⟩; have n0_ := Aside0.mk (below_step (by repeat (first | (with_reducible first | exact HB.out | apply below_alloc | apply pw_below_drewN | apply below_drew1) | exact HB.out)) hb); clear HB; have HB := n0_; clear n0_; (try clear hb); (try clear hb2); (try clear hk); (try clear hi)))
                  go_meet
                  case rel => exact ⟨_, (true), (by first | rfl | (simp; done) | (simp [*]; done) | (simp [*]; exact isEmpty_bne _) | (simp; exact isEmpty_bne _)), H', ⟨by have := HJ11.out; first | omega | exact Nat.le_refl _⟩, ⟨by repeat (first | (with_reducible first | exact HB.out | apply below_alloc | apply pw_below_drewN | apply below_drew1) | exact HB.out)⟩⟩
                · replace c42 := Bool.eq_false_iff.mpr c42
                  subst c42
                  have H1 : ((oid_Within.f kj11 t163 t163).bind fun t180 => (gonglaw06_OidOrder.j1 kj11 t163 t168 t173 false (!t180))) = some r := by rw [if_neg (show ¬ (false = true) by decide)] at H; exact H
                  clear H
                  have H := H1
                  clear H1
                  replace H := Option.bind_eq_some_iff.mp H
                  obtain ⟨t180, A440, H⟩ := H
                  replace H : (gonglaw06_OidOrder.j1 kj11 t163 t168 t173 false (!t180)) = some r := H
                  have A44 := Aside0.mk A440
                  clear A440
                  have H' := Aside0.mk H
                  clear H
                  go_wp2_with (first | (go_at_call 35; (with_reducible refine (oid_Less.calls kj11 t163 t163 false _ ?side1 A41.out).mono ?_); (case side1 => first | exact HGl.out | exact HGl.out.below (by repeat (first | (with_reducible first | exact HB.out | apply below_alloc | apply pw_below_drewN | apply below_drew1) | exact HB.out | exact Below.refl _ _))); rintro e w45 ⟨rfl, hb⟩; have n0_ := Aside0.mk (below_step (by repeat (first | (with_reducible first | exact HB.out | apply below_alloc | apply pw_below_drewN | apply below_drew1) | exact HB.out)) hb); clear HB; have HB := n0_; clear n0_; (try clear hb); (try clear hb2); (try clear hk); (try clear hi)) | (go_at_call 36; (with_reducible refine (oid_Within.calls kj11 t163 t163 t180 _ ?side1 A44.out).mono ?_); (case side1 => first | exact HGl.out | exact HGl.out.below (by repeat (first | (with_reducible first | exact HB.out | apply below_alloc | apply pw_below_drewN | apply below_drew1) | exact HB.out | exact Below.refl _ _))); rintro e w46 ⟨rfl, hb⟩; have n0_ := Aside0.mk (below_step (by repeat (first | (with_reducible first | exact HB.out | apply below_alloc | apply pw_below_drewN | apply below_drew1) | exact HB.out)) hb); clear HB; have HB := n0_; clear n0_; (try clear hb); (try clear hb2); (try clear hk); (try clear hi)))
                  go_meet
                  case rel => exact ⟨_, (!t180), (by first | rfl | (simp; done) | (simp [*]; done) | (simp [*]; exact isEmpty_bne _) | (simp; exact isEmpty_bne _)), H', ⟨by have := HJ11.out; first | omega | exact Nat.le_refl _⟩, ⟨by repeat (first | (with_reducible first | exact HB.out | apply below_alloc | apply pw_below_drewN | apply below_drew1) | exact HB.out)⟩⟩
          case rest =>
            clear HC28
            try clear c1
            try clear c2
            try clear p2
            try clear c3
            try clear c4
            try clear c5
            try clear c10
            try clear c23
            try clear c23b0
            try clear c23b1
            try clear c24
            try clear c24b0
            try clear c24b1
            try clear c25
            try clear c31
            try clear c32
            try clear c33
            try clear c33b0
            try clear c33b1
            try clear c33b2
            try clear c34
            try clear c35
            try clear c40
            try clear c40b0
            try clear c40b1
            try clear c40b2
            try clear c42
            try clear p2
            obtain ⟨kq, x75_27, rfl, HA, HJ27, HB⟩ := hcut
            cases kq with
            | zero => exact absurd HA.out (by simp [gonglaw06_OidOrder.j1])
            | succ kj27 =>
              have H := HA.out
              clear HA
              simp only [gonglaw06_OidOrder.j1] at H
              by_cases c47 : x75_27 = true
              · subst c47
                have H1 : (some false) = some r := by rw [if_pos rfl] at H; exact H
                clear H
                have H := H1
                clear H1
                obtain rfl := Option.some.inj H
                go_wp2
                go_ret
                exact ⟨by first | rfl | (simp [errW_none, errW_some] <;> rfl) | (simp [*, errW_none, errW_some] <;> rfl), by repeat (first | (with_reducible first | exact HB.out | apply below_alloc | apply pw_below_drewN | apply below_drew1) | exact HB.out)⟩
              · replace c47 := Bool.eq_false_iff.mpr c47
                subst c47
                have H1 : (if t175 = true then ((oid_Less.f kj27 t168 t173).bind fun t181 => (if t181 = true then ((oid_Less.f kj27 t163 t173).bind fun t182 => (gonglaw06_OidOrder.j2 kj27 t163 t168 t173 t175 (!t182))) else (gonglaw06_OidOrder.j2 kj27 t163 t168 t173 t175 false))) else (gonglaw06_OidOrder.j2 kj27 t163 t168 t173 t175 false)) = some r := by rw [if_neg (show ¬ (false = true) by decide)] at H; exact H
                clear H
                have H := H1
                clear H1
                have HC48 := Aside0.mk H
                clear H
                go_upto_region 11 with (fail)
                go_cut [87] (fun v87 wc => ∃ (kq : Nat) (x87_47 : Bool), v87 = .bool x87_47 ∧ Aside0 (gonglaw06_OidOrder.j2 kq t163 t168 t173 t175 x87_47 = some r) ∧ Aside0 (kq ≤ kj27) ∧ Aside0 (Below w.heap.size w wc))
                case first =>
                  have H := HC48.out
                  clear HC48
                  by_cases c49 : t175 = true
                  · subst c49
                    have H1 : ((oid_Less.f kj27 t168 t173).bind fun t181 => (if t181 = true then ((oid_Less.f kj27 t163 t173).bind fun t182 => (gonglaw06_OidOrder.j2 kj27 t163 t168 t173 true (!t182))) else (gonglaw06_OidOrder.j2 kj27 t163 t168 t173 true false))) = some r := by rw [if_pos rfl] at H; exact H
                    clear H
                    have H := H1
                    clear H1
                    replace H := Option.bind_eq_some_iff.mp H
                    obtain ⟨t181, A500, H⟩ := H
                    replace H : (if t181 = true then ((oid_Less.f kj27 t163 t173).bind fun t182 => (gonglaw06_OidOrder.j2 kj27 t163 t168 t173 true (!t182))) else (gonglaw06_OidOrder.j2 kj27 t163 t168 t173 true false)) = some r := H
                    have A50 := Aside0.mk A500
                    clear A500
                    by_cases c51 : t181 = true
                    · subst c51
                      have H1 : ((oid_Less.f kj27 t163 t173).bind fun t182 => (gonglaw06_OidOrder.j2 kj27 t163 t168 t173 true (!t182))) = some r := by rw [if_pos rfl] at H; exact H
                      clear H
                      have H := H1
                      clear H1
                      replace H := Option.bind_eq_some_iff.mp H
                      obtain ⟨t182, A520, H⟩ := H
                      replace H : (gonglaw06_OidOrder.j2 kj27 t163 t168 t173 true (!t182)) = some r := H
                      have A52 := Aside0.mk A520
                      clear A520
                      have H' := Aside0.mk H
                      clear H
                      go_wp2_with (first | (go_at_call 35; (with_reducible refine (oid_Less.calls kj27 t168 t173 true _ ?side1 A50.out).mono ?_); (case side1 => first | exact HGl.out | exact HGl.out.below (by repeat (first | (with_reducible first | exact HB.out | apply below_alloc | apply pw_below_drewN | apply below_drew1) | exact HB.out | exact Below.refl _ _))); rintro e w53 ⟨rfl, hb⟩; have n0_ := Aside0.mk (below_step (by repeat (first | (with_reducible first | exact HB.out | apply below_alloc | apply pw_below_drewN | apply below_drew1) | exact HB.out)) hb); clear HB; have HB := n0_; clear n0_; (try clear hb); (try clear hb2); (try clear hk); (try clear hi)) | (go_at_call 35; (with_reducible refine (oid_Less.calls kj27 t163 t173 t182 _ ?side1 A52.out).mono ?_); (case side1 => first | exact HGl.out | exact HGl.out.below (by repeat (first | (with_reducible first | exact HB.out | apply below_alloc | apply pw_below_drewN | apply below_drew1) | exact HB.out | exact Below.refl _ _))); rintro e w54 ⟨rfl, hb⟩; have n0_ := Aside0.mk (below_step (by repeat (first | (with_reducible first | exact HB.out | apply below_alloc | apply pw_below_drewN | apply below_drew1) | exact HB.out)) hb); clear HB; have HB := n0_; clear n0_; (try clear hb); (try clear hb2); (try clear hk); (try clear hi)))
                      go_meet
                      case rel => exact ⟨_, (!t182), (by first | rfl | (simp; done) | (simp [*]; done) | (simp [*]; exact isEmpty_bne _) | (simp; exact isEmpty_bne _)), H', ⟨by have := HJ11.out; have := HJ27.out; first | omega | exact Nat.le_refl _⟩, ⟨by repeat (first | (with_reducible first | exact HB.out | apply below_alloc | apply pw_below_drewN | apply below_drew1) | exact HB.out)⟩⟩
                    · replace c51 := Bool.eq_false_iff.mpr c51
                      subst c51
                      have H1 : (gonglaw06_OidOrder.j2 kj27 t163 t168 t173 true false) = some r := by rw [if_neg (show ¬ (false = true) by decide)] at H; exact H
                      clear H
                      have H := H1
                      clear H1
                      have H' := Aside0.mk H
                      clear H
                      go_wp2_with (first | (go_at_call 35; (with_reducible refine (oid_Less.calls kj27 t168 t173 false _ ?side1 A50.out).mono ?_); (case side1 => first | exact HGl.out | exact HGl.out.below (by repeat (first | (with_reducible first | exact HB.out | apply below_alloc | apply pw_below_drewN | apply below_drew1) | exact HB.out | exact Below.refl _ _))); rintro e w55 ⟨rfl, hb⟩; have n0_ := Aside0.mk (below_step (by repeat (first | (with_reducible first | exact HB.out | apply below_alloc | apply pw_below_drewN | apply below_drew1) | exact HB.out)) hb); clear HB; have HB := n0_; clear n0_; (try clear hb); (try clear hb2); (try clear hk); (try clear hi)))
                      go_meet
                      case rel => exact ⟨_, (false), (by first | rfl | (simp; done) | (simp [*]; done) | (simp [*]; exact isEmpty_bne _) | (simp; exact isEmpty_bne _)), H', ⟨by have := HJ11.out; have := HJ27.out; first | omega | exact Nat.le_refl _⟩, ⟨by repeat (first | (with_reducible first | exact HB.out | apply below_alloc | apply pw_below_drewN | apply below_drew1) | exact HB.out)⟩⟩
                  · replace c49 := Bool.eq_false_iff.mpr c49
                    subst c49
                    have H1 : (gonglaw06_OidOrder.j2 kj27 t163 t168 t173 false false) = some r := by rw [if_neg (show ¬ (false = true) by decide)] at H; exact H
                    clear H
                    have H := H1
                    clear H1
                    have H' := Aside0.mk H
                    clear H
                    go_wp2
                    go_meet
                    case rel => exact ⟨_, (false), (by first | rfl | (simp; done) | (simp [*]; done) | (simp [*]; exact isEmpty_bne _) | (simp; exact isEmpty_bne _)), H', ⟨by have := HJ11.out; have := HJ27.out; first | omega | exact Nat.le_refl _⟩, ⟨by repeat (first | (with_reducible first | exact HB.out | apply below_alloc | apply pw_below_drewN | apply below_drew1) | exact HB.out)⟩⟩
                case rest =>
                  clear HC48
                  try clear c1
                  try clear c2
                  try clear p2
                  try clear c3
                  try clear c4
                  try clear c5
                  try clear c10
                  try clear c23
                  try clear c23b0
                  try clear c23b1
                  try clear c24
                  try clear c24b0
                  try clear c24b1
                  try clear c25
                  try clear c31
                  try clear c32
                  try clear c33
                  try clear c33b0
                  try clear c33b1
                  try clear c33b2
                  try clear c34
                  try clear c35
                  try clear c40
                  try clear c40b0
                  try clear c40b1
                  try clear c40b2
                  try clear c42
                  try clear c47
                  try clear c49
                  try clear c51
                  try clear p2
                  obtain ⟨kq, x87_47, rfl, HA, HJ47, HB⟩ := hcut
                  cases kq with
                  | zero => exact absurd HA.out (by simp [gonglaw06_OidOrder.j2])
                  | succ kj47 =>
                    have H := HA.out
                    clear HA
                    simp only [gonglaw06_OidOrder.j2] at H
                    by_cases c56 : x87_47 = true
                    · subst c56
                      have H1 : (some false) = some r := by rw [if_pos rfl] at H; exact H
                      clear H
                      have H := H1
                      clear H1
                      obtain rfl := Option.some.inj H
                      go_wp2
                      go_ret
                      exact ⟨by first | rfl | (simp [errW_none, errW_some] <;> rfl) | (simp [*, errW_none, errW_some] <;> rfl), by repeat (first | (with_reducible first | exact HB.out | apply below_alloc | apply pw_below_drewN | apply below_drew1) | exact HB.out)⟩
                    · replace c56 := Bool.eq_false_iff.mpr c56
                      subst c56
                      have H1 : ((oid_Within.f kj47 t163 t168).bind fun t183 => (if t183 = true then (if t163.toList = t168.toList then (gonglaw06_OidOrder.j3 kj47 t163 t168 t173 false) else (gonglaw06_OidOrder.j3 kj47 t163 t168 t173 (!t175))) else (gonglaw06_OidOrder.j3 kj47 t163 t168 t173 false))) = some r := by rw [if_neg (show ¬ (false = true) by decide)] at H; exact H
                      clear H
                      have H := H1
                      clear H1
                      have HC57 := Aside0.mk H
                      clear H
                      go_upto_region 13 with (fail)
                      go_cut [99] (fun v99 wc => ∃ (kq : Nat) (x99_56 : Bool), v99 = .bool x99_56 ∧ Aside0 (gonglaw06_OidOrder.j3 kq t163 t168 t173 x99_56 = some r) ∧ Aside0 (kq ≤ kj47) ∧ Aside0 (Below w.heap.size w wc))
                      case first =>
                        have H := HC57.out
                        clear HC57
                        replace H := Option.bind_eq_some_iff.mp H
                        obtain ⟨t183, A580, H⟩ := H
                        replace H : (if t183 = true then (if t163.toList = t168.toList then (gonglaw06_OidOrder.j3 kj47 t163 t168 t173 false) else (gonglaw06_OidOrder.j3 kj47 t163 t168 t173 (!t175))) else (gonglaw06_OidOrder.j3 kj47 t163 t168 t173 false)) = some r := H
                        have A58 := Aside0.mk A580
                        clear A580
                        by_cases c59 : t183 = true
                        · subst c59
                          have H1 : (if t163.toList = t168.toList then (gonglaw06_OidOrder.j3 kj47 t163 t168 t173 false) else (gonglaw06_OidOrder.j3 kj47 t163 t168 t173 (!t175))) = some r := by rw [if_pos rfl] at H; exact H
                          clear H
                          have H := H1
                          clear H1
                          by_cases c60 : t163.toList = t168.toList
                          · rw [if_pos c60] at H
                            have c60b0 : (t163.toList == t168.toList) = true := beq_iff_eq.mpr c60
                            have c60b1 : (t163.toList != t168.toList) = false := bne_eq_false_iff_eq.mpr c60
                            clear c60
                            (first | rw [c60b0] | (simp only [i64_w, i32_w]; rw [c60b0]) | skip)
                            have H' := Aside0.mk H
                            clear H
                            go_wp2_with (first | ((with_reducible refine gate_callee (f := 36) rfl ?_); refine goesL_ (some 90) rfl rfl Tryd.func36 (by kernel_rfl) rfl #[.string t163, .string t168] rfl (by (try simp only [List.map_toArray, List.map_cons, List.map_nil]); first | done | rfl | (simp only [List.length_drop, List.length_take]; rfl)) ?_; (with_reducible refine (oid_Within.calls kj47 t163 t168 true _ ?side1 A58.out).mono ?_); (case side1 => first | exact HGl.out | exact HGl.out.below (by repeat (first | (with_reducible first | exact HB.out | apply below_alloc | apply pw_below_drewN | apply below_drew1) | exact HB.out | exact Below.refl _ _))); rintro e w61 ⟨rfl, hb⟩; refine ⟨_, rfl, ?_⟩; have n0_ := Aside0.mk (below_step (by repeat (first | (with_reducible first | exact HB.out | apply below_alloc | apply pw_below_drewN | apply below_drew1) | exact HB.out)) hb); clear HB; have HB := n0_; clear n0_; (try clear hb); (try clear hb2); (try clear hk); (try clear hi)))
                            go_meet
                            case rel => exact ⟨_, (false), (by first | rfl | (simp; done) | (simp [*]; done) | (simp [*]; exact isEmpty_bne _) | (simp; exact isEmpty_bne _)), H', ⟨by have := HJ11.out; have := HJ27.out; have := HJ47.out; first | omega | exact Nat.le_refl _⟩, ⟨by repeat (first | (with_reducible first | exact HB.out | apply below_alloc | apply pw_below_drewN | apply below_drew1) | exact HB.out)⟩⟩
                          · rw [if_neg c60] at H
                            have c60b0 : (t163.toList == t168.toList) = false := beq_eq_false_iff_ne.mpr c60
                            have c60b1 : (t163.toList != t168.toList) = true := bne_iff_ne.mpr c60
                            (first | rw [c60b0] | (simp only [i64_w, i32_w]; rw [c60b0]) | skip)
                            have H' := Aside0.mk H
                            clear H
                            go_wp2_with (first | ((with_reducible refine gate_callee (f := 36) rfl ?_); refine goesL_ (some 90) rfl rfl Tryd.func36 (by kernel_rfl) rfl #[.string t163, .string t168] rfl (by (try simp only [List.map_toArray, List.map_cons, List.map_nil]); first | done | rfl | (simp only [List.length_drop, List.length_take]; rfl)) ?_; (with_reducible refine (oid_Within.calls kj47 t163 t168 true _ ?side1 A58.out).mono ?_); (case side1 => first | exact HGl.out | exact HGl.out.below (by repeat (first | (with_reducible first | exact HB.out | apply below_alloc | apply pw_below_drewN | apply below_drew1) | exact HB.out | exact Below.refl _ _))); rintro e w62 ⟨rfl, hb⟩; refine ⟨_, rfl, ?_⟩; have n0_ := Aside0.mk (below_step (by repeat (first | (with_reducible first | exact HB.out | apply below_alloc | apply pw_below_drewN | apply below_drew1) | exact HB.out)) hb); clear HB; have HB := n0_; clear n0_; (try clear hb); (try clear hb2); (try clear hk); (try clear hi)))
                            go_meet
                            case rel => exact ⟨_, (!t175), (by first | rfl | (simp; done) | (simp [*]; done) | (simp [*]; exact isEmpty_bne _) | (simp; exact isEmpty_bne _)), H', ⟨by have := HJ11.out; have := HJ27.out; have := HJ47.out; first | omega | exact Nat.le_refl _⟩, ⟨by repeat (first | (with_reducible first | exact HB.out | apply below_alloc | apply pw_below_drewN | apply below_drew1) | exact HB.out)⟩⟩
                        · replace c59 := Bool.eq_false_iff.mpr c59
                          subst c59
                          have H1 : (gonglaw06_OidOrder.j3 kj47 t163 t168 t173 false) = some r := by rw [if_neg (show ¬ (false = true) by decide)] at H; exact H
                          clear H
                          have H := H1
                          clear H1
                          have H' := Aside0.mk H
                          clear H
                          go_wp2_with (first | ((with_reducible refine gate_callee (f := 36) rfl ?_); refine goesL_ (some 90) rfl rfl Tryd.func36 (by kernel_rfl) rfl #[.string t163, .string t168] rfl (by (try simp only [List.map_toArray, List.map_cons, List.map_nil]); first | done | rfl | (simp only [List.length_drop, List.length_take]; rfl)) ?_; (with_reducible refine (oid_Within.calls kj47 t163 t168 false _ ?side1 A58.out).mono ?_); (case side1 => first | exact HGl.out | exact HGl.out.below (by repeat (first | (with_reducible first | exact HB.out | apply below_alloc | apply pw_below_drewN | apply below_drew1) | exact HB.out | exact Below.refl _ _))); rintro e w63 ⟨rfl, hb⟩; refine ⟨_, rfl, ?_⟩; have n0_ := Aside0.mk (below_step (by repeat (first | (with_reducible first | exact HB.out | apply below_alloc | apply pw_below_drewN | apply below_drew1) | exact HB.out)) hb); clear HB; have HB := n0_; clear n0_; (try clear hb); (try clear hb2); (try clear hk); (try clear hi)))
                          go_meet
                          case rel => exact ⟨_, (false), (by first | rfl | (simp; done) | (simp [*]; done) | (simp [*]; exact isEmpty_bne _) | (simp; exact isEmpty_bne _)), H', ⟨by have := HJ11.out; have := HJ27.out; have := HJ47.out; first | omega | exact Nat.le_refl _⟩, ⟨by repeat (first | (with_reducible first | exact HB.out | apply below_alloc | apply pw_below_drewN | apply below_drew1) | exact HB.out)⟩⟩
                      case rest =>
                        clear HC57
                        try clear c1
                        try clear c2
                        try clear p2
                        try clear c3
                        try clear c4
                        try clear c5
                        try clear c6
                        try clear c10
                        try clear c23
                        try clear c23b0
                        try clear c23b1
                        try clear c24
                        try clear c24b0
                        try clear c24b1
                        try clear c25
                        try clear c31
                        try clear c32
                        try clear c33
                        try clear c33b0
                        try clear c33b1
                        try clear c33b2
                        try clear c34
                        try clear c35
                        try clear c36
                        try clear c40
                        try clear c40b0
                        try clear c40b1
                        try clear c40b2
                        try clear c42
                        try clear c47
                        try clear c49
                        try clear c51
                        try clear c56
                        try clear c59
                        try clear c60
                        try clear c60b0
                        try clear c60b1
                        try clear p2
                        obtain ⟨kq, x99_56, rfl, HA, HJ56, HB⟩ := hcut
                        cases kq with
                        | zero => exact absurd HA.out (by simp [gonglaw06_OidOrder.j3])
                        | succ kj56 =>
                          have H := HA.out
                          clear HA
                          simp only [gonglaw06_OidOrder.j3] at H
                          by_cases c64 : x99_56 = true
                          · subst c64
                            have H1 : (some false) = some r := by rw [if_pos rfl] at H; exact H
                            clear H
                            have H := H1
                            clear H1
                            obtain rfl := Option.some.inj H
                            go_wp2
                            go_ret
                            exact ⟨by first | rfl | (simp [errW_none, errW_some] <;> rfl) | (simp [*, errW_none, errW_some] <;> rfl), by repeat (first | (with_reducible first | exact HB.out | apply below_alloc | apply pw_below_drewN | apply below_drew1) | exact HB.out)⟩
                          · replace c64 := Bool.eq_false_iff.mpr c64
                            subst c64
                            have H1 : ((oid_Within.f kj56 t163 t168).bind fun t184 => (if t184 = true then ((oid_Within.f kj56 t163 t173).bind fun t185 => (if t185 = true then (some true) else ((oid_Less.f kj56 t163 t173).bind fun t186 => (if t186 = true then ((oid_Less.f kj56 t168 t173).bind fun t187 => (some t187)) else (some true))))) else (some true))) = some r := by rw [if_neg (show ¬ (false = true) by decide)] at H; exact H
                            clear H
                            have H := H1
                            clear H1
                            replace H := Option.bind_eq_some_iff.mp H
                            obtain ⟨t184, A650, H⟩ := H
                            replace H : (if t184 = true then ((oid_Within.f kj56 t163 t173).bind fun t185 => (if t185 = true then (some true) else ((oid_Less.f kj56 t163 t173).bind fun t186 => (if t186 = true then ((oid_Less.f kj56 t168 t173).bind fun t187 => (some t187)) else (some true))))) else (some true)) = some r := H
                            have A65 := Aside0.mk A650
                            clear A650
                            by_cases c66 : t184 = true
                            · subst c66
                              have H1 : ((oid_Within.f kj56 t163 t173).bind fun t185 => (if t185 = true then (some true) else ((oid_Less.f kj56 t163 t173).bind fun t186 => (if t186 = true then ((oid_Less.f kj56 t168 t173).bind fun t187 => (some t187)) else (some true))))) = some r := by rw [if_pos rfl] at H; exact H
                              clear H
                              have H := H1
                              clear H1
                              replace H := Option.bind_eq_some_iff.mp H
                              obtain ⟨t185, A670, H⟩ := H
                              replace H : (if t185 = true then (some true) else ((oid_Less.f kj56 t163 t173).bind fun t186 => (if t186 = true then ((oid_Less.f kj56 t168 t173).bind fun t187 => (some t187)) else (some true)))) = some r := H
                              have A67 := Aside0.mk A670
                              clear A670
                              by_cases c68 : t185 = true
                              · subst c68
                                have H1 : (some true) = some r := by rw [if_pos rfl] at H; exact H
                                clear H
                                have H := H1
                                clear H1
                                obtain rfl := Option.some.inj H
                                go_wp2_with (first | ((with_reducible refine gate_callee (f := 36) rfl ?_); refine goesL_ (some 102) rfl rfl Tryd.func36 (by kernel_rfl) rfl #[.string t163, .string t168] rfl (by (try simp only [List.map_toArray, List.map_cons, List.map_nil]); first | done | rfl | (simp only [List.length_drop, List.length_take]; rfl)) ?_; (with_reducible refine (oid_Within.calls kj56 t163 t168 true _ ?side1 A65.out).mono ?_); (case side1 => first | exact HGl.out | exact HGl.out.below (by repeat (first | (with_reducible first | exact HB.out | apply below_alloc | apply pw_below_drewN | apply below_drew1) | exact HB.out | exact Below.refl _ _))); rintro e w69 ⟨rfl, hb⟩; refine ⟨_, rfl, ?_⟩; have n0_ := Aside0.mk (below_step (by repeat (first | (with_reducible first | exact HB.out | apply below_alloc | apply pw_below_drewN | apply below_drew1) | exact HB.out)) hb); clear HB; have HB := n0_; clear n0_; (try clear hb); (try clear hb2); (try clear hk); (try clear hi)) | (go_at_call 36; (with_reducible refine (oid_Within.calls kj56 t163 t173 true _ ?side1 A67.out).mono ?_); (case side1 => first | exact HGl.out | exact HGl.out.below (by repeat (first | (with_reducible first | exact HB.out | apply below_alloc | apply pw_below_drewN | apply below_drew1) | exact HB.out | exact Below.refl _ _))); rintro e w70 ⟨rfl, hb⟩; have n0_ := Aside0.mk (below_step (by repeat (first | (with_reducible first | exact HB.out | apply below_alloc | apply pw_below_drewN | apply below_drew1) | exact HB.out)) hb); clear HB; have HB := n0_; clear n0_; (try clear hb); (try clear hb2); (try clear hk); (try clear hi)))
                                go_ret
                                exact ⟨by first | rfl | (simp [errW_none, errW_some] <;> rfl) | (simp [*, errW_none, errW_some] <;> rfl), by repeat (first | (with_reducible first | exact HB.out | apply below_alloc | apply pw_below_drewN | apply below_drew1) | exact HB.out)⟩
                              · replace c68 := Bool.eq_false_iff.mpr c68
                                subst c68
                                have H1 : ((oid_Less.f kj56 t163 t173).bind fun t186 => (if t186 = true then ((oid_Less.f kj56 t168 t173).bind fun t187 => (some t187)) else (some true))) = some r := by rw [if_neg (show ¬ (false = true) by decide)] at H; exact H
                                clear H
                                have H := H1
                                clear H1
                                replace H := Option.bind_eq_some_iff.mp H
                                obtain ⟨t186, A710, H⟩ := H
                                replace H : (if t186 = true then ((oid_Less.f kj56 t168 t173).bind fun t187 => (some t187)) else (some true)) = some r := H
                                have A71 := Aside0.mk A710
                                clear A710
                                by_cases c72 : t186 = true
                                · subst c72
                                  have H1 : ((oid_Less.f kj56 t168 t173).bind fun t187 => (some t187)) = some r := by rw [if_pos rfl] at H; exact H
                                  clear H
                                  have H := H1
                                  clear H1
                                  replace H := Option.bind_eq_some_iff.mp H
                                  obtain ⟨t187, A730, H⟩ := H
                                  replace H : (some t187) = some r := H
                                  have A73 := Aside0.mk A730
                                  clear A730
                                  obtain rfl := Option.some.inj H
                                  go_wp2_with (first | ((with_reducible refine gate_callee (f := 36) rfl ?_); refine goesL_ (some 102) rfl rfl Tryd.func36 (by kernel_rfl) rfl #[.string t163, .string t168] rfl (by (try simp only [List.map_toArray, List.map_cons, List.map_nil]); first | done | rfl | (simp only [List.length_drop, List.length_take]; rfl)) ?_; (with_reducible refine (oid_Within.calls kj56 t163 t168 true _ ?side1 A65.out).mono ?_); (case side1 => first | exact HGl.out | exact HGl.out.below (by repeat (first | (with_reducible first | exact HB.out | apply below_alloc | apply pw_below_drewN | apply below_drew1) | exact HB.out | exact Below.refl _ _))); rintro e w74 ⟨rfl, hb⟩; refine ⟨_, rfl, ?_⟩; have n0_ := Aside0.mk (below_step (by repeat (first | (with_reducible first | exact HB.out | apply below_alloc | apply pw_below_drewN | apply below_drew1) | exact HB.out)) hb); clear HB; have HB := n0_; clear n0_; (try clear hb); (try clear hb2); (try clear hk); (try clear hi)) | (go_at_call 36; (with_reducible refine (oid_Within.calls kj56 t163 t173 false _ ?side1 A67.out).mono ?_); (case side1 => first | exact HGl.out | exact HGl.out.below (by repeat (first | (with_reducible first | exact HB.out | apply below_alloc | apply pw_below_drewN | apply below_drew1) | exact HB.out | exact Below.refl _ _))); rintro e w75 ⟨rfl, hb⟩; have n0_ := Aside0.mk (below_step (by repeat (first | (with_reducible first | exact HB.out | apply below_alloc | apply pw_below_drewN | apply below_drew1) | exact HB.out)) hb); clear HB; have HB := n0_; clear n0_; (try clear hb); (try clear hb2); (try clear hk); (try clear hi)) | (go_at_call 35; (with_reducible refine (oid_Less.calls kj56 t163 t173 true _ ?side1 A71.out).mono ?_); (case side1 => first | exact HGl.out | exact HGl.out.below (by repeat (first | (with_reducible first | exact HB.out | apply below_alloc | apply pw_below_drewN | apply below_drew1) | exact HB.out | exact Below.refl _ _))); rintro e w76 ⟨rfl, hb⟩; have n0_ := Aside0.mk (below_step (by repeat (first | (with_reducible first | exact HB.out | apply below_alloc | apply pw_below_drewN | apply below_drew1) | exact HB.out)) hb); clear HB; have HB := n0_; clear n0_; (try clear hb); (try clear hb2); (try clear hk); (try clear hi)) | (go_at_call 35; (with_reducible refine (oid_Less.calls kj56 t168 t173 t187 _ ?side1 A73.out).mono ?_); (case side1 => first | exact HGl.out | exact HGl.out.below (by repeat (first | (with_reducible first | exact HB.out | apply below_alloc | apply pw_below_drewN | apply below_drew1) | exact HB.out | exact Below.refl _ _))); rintro e w77 ⟨rfl, hb⟩; have n0_ := Aside0.mk (below_step (by repeat (first | (with_reducible first | exact HB.out | apply below_alloc | apply pw_below_drewN | apply below_drew1) | exact HB.out)) hb); clear HB; have HB := n0_; clear n0_; (try clear hb); (try clear hb2); (try clear hk); (try clear hi)))
                                  go_ret
                                  exact ⟨by first | rfl | (simp [errW_none, errW_some] <;> rfl) | (simp [*, errW_none, errW_some] <;> rfl), by repeat (first | (with_reducible first | exact HB.out | apply below_alloc | apply pw_below_drewN | apply below_drew1) | exact HB.out)⟩
                                · replace c72 := Bool.eq_false_iff.mpr c72
                                  subst c72
                                  have H1 : (some true) = some r := by rw [if_neg (show ¬ (false = true) by decide)] at H; exact H
                                  clear H
                                  have H := H1
                                  clear H1
                                  obtain rfl := Option.some.inj H
                                  go_wp2_with (first | ((with_reducible refine gate_callee (f := 36) rfl ?_); refine goesL_ (some 102) rfl rfl Tryd.func36 (by kernel_rfl) rfl #[.string t163, .string t168] rfl (by (try simp only [List.map_toArray, List.map_cons, List.map_nil]); first | done | rfl | (simp only [List.length_drop, List.length_take]; rfl)) ?_; (with_reducible refine (oid_Within.calls kj56 t163 t168 true _ ?side1 A65.out).mono ?_); (case side1 => first | exact HGl.out | exact HGl.out.below (by repeat (first | (with_reducible first | exact HB.out | apply below_alloc | apply pw_below_drewN | apply below_drew1) | exact HB.out | exact Below.refl _ _))); rintro e w78 ⟨rfl, hb⟩; refine ⟨_, rfl, ?_⟩; have n0_ := Aside0.mk (below_step (by repeat (first | (with_reducible first | exact HB.out | apply below_alloc | apply pw_below_drewN | apply below_drew1) | exact HB.out)) hb); clear HB; have HB := n0_; clear n0_; (try clear hb); (try clear hb2); (try clear hk); (try clear hi)) | (go_at_call 36; (with_reducible refine (oid_Within.calls kj56 t163 t173 false _ ?side1 A67.out).mono ?_); (case side1 => first | exact HGl.out | exact HGl.out.below (by repeat (first | (with_reducible first | exact HB.out | apply below_alloc | apply pw_below_drewN | apply below_drew1) | exact HB.out | exact Below.refl _ _))); rintro e w79 ⟨rfl, hb⟩; have n0_ := Aside0.mk (below_step (by repeat (first | (with_reducible first | exact HB.out | apply below_alloc | apply pw_below_drewN | apply below_drew1) | exact HB.out)) hb); clear HB; have HB := n0_; clear n0_; (try clear hb); (try clear hb2); (try clear hk); (try clear hi)) | (go_at_call 35; (with_reducible refine (oid_Less.calls kj56 t163 t173 false _ ?side1 A71.out).mono ?_); (case side1 => first | exact HGl.out | exact HGl.out.below (by repeat (first | (with_reducible first | exact HB.out | apply below_alloc | apply pw_below_drewN | apply below_drew1) | exact HB.out | exact Below.refl _ _))); rintro e w80 ⟨rfl, hb⟩; have n0_ := Aside0.mk (below_step (by repeat (first | (with_reducible first | exact HB.out | apply below_alloc | apply pw_below_drewN | apply below_drew1) | exact HB.out)) hb); clear HB; have HB := n0_; clear n0_; (try clear hb); (try clear hb2); (try clear hk); (try clear hi)))
                                  go_ret
                                  exact ⟨by first | rfl | (simp [errW_none, errW_some] <;> rfl) | (simp [*, errW_none, errW_some] <;> rfl), by repeat (first | (with_reducible first | exact HB.out | apply below_alloc | apply pw_below_drewN | apply below_drew1) | exact HB.out)⟩
                            · replace c66 := Bool.eq_false_iff.mpr c66
                              subst c66
                              have H1 : (some true) = some r := by rw [if_neg (show ¬ (false = true) by decide)] at H; exact H
                              clear H
                              have H := H1
                              clear H1
                              obtain rfl := Option.some.inj H
                              go_wp2_with (first | ((with_reducible refine gate_callee (f := 36) rfl ?_); refine goesL_ (some 102) rfl rfl Tryd.func36 (by kernel_rfl) rfl #[.string t163, .string t168] rfl (by (try simp only [List.map_toArray, List.map_cons, List.map_nil]); first | done | rfl | (simp only [List.length_drop, List.length_take]; rfl)) ?_; (with_reducible refine (oid_Within.calls kj56 t163 t168 false _ ?side1 A65.out).mono ?_); (case side1 => first | exact HGl.out | exact HGl.out.below (by repeat (first | (with_reducible first | exact HB.out | apply below_alloc | apply pw_below_drewN | apply below_drew1) | exact HB.out | exact Below.refl _ _))); rintro e w81 ⟨rfl, hb⟩; refine ⟨_, rfl, ?_⟩; have n0_ := Aside0.mk (below_step (by repeat (first | (with_reducible first | exact HB.out | apply below_alloc | apply pw_below_drewN | apply below_drew1) | exact HB.out)) hb); clear HB; have HB := n0_; clear n0_; (try clear hb); (try clear hb2); (try clear hk); (try clear hi)))
                              go_ret
                              exact ⟨by first | rfl | (simp [errW_none, errW_some] <;> rfl) | (simp [*, errW_none, errW_some] <;> rfl), by repeat (first | (with_reducible first | exact HB.out | apply below_alloc | apply pw_below_drewN | apply below_drew1) | exact HB.out)⟩
  · replace c5 := Bool.eq_false_iff.mpr c5
    subst c5
    have H1 : (some false) = some r := by rw [if_neg (show ¬ (false = true) by decide)] at H; exact H
    clear H
    have H := H1
    clear H1
    obtain rfl := Option.some.inj H
    go_enter Tryd.func10, Tryd.ntmps10
    go_wp2_with (first | ((with_reducible refine gate_callee (f := 24) rfl ?_); refine goesL_ (some 15) rfl rfl Tryd.func24 (by kernel_rfl) rfl #[] rfl (by (try simp only [List.map_toArray, List.map_cons, List.map_nil]); first | done | rfl | (simp only [List.length_drop, List.length_take]; rfl)) ?_; (with_reducible refine (gonglaw06_works.calls k  false _ ?side1 A4.out).mono ?_); (case side1 => first | exact HGl.out | exact HGl.out.below (by repeat (first | (with_reducible first | exact HB.out | apply below_alloc | apply pw_below_drewN | apply below_drew1) | exact HB.out | exact Below.refl _ _))); rintro e w82 ⟨rfl, hb⟩; refine ⟨_, rfl, ?_⟩; have n0_ := Aside0.mk (below_step (by repeat (first | (with_reducible first | exact HB.out | apply below_alloc | apply pw_below_drewN | apply below_drew1) | exact HB.out)) hb); clear HB; have HB := n0_; clear n0_; (try clear hb); (try clear hb2); (try clear hk); (try clear hi)))
    go_ret
    exact ⟨by first | rfl | (simp [errW_none, errW_some] <;> rfl) | (simp [*, errW_none, errW_some] <;> rfl), by repeat (first | (with_reducible first | exact HB.out | apply below_alloc | apply pw_below_drewN | apply below_drew1) | exact HB.out)⟩

/-- A state of type 108 at block g of W; what its slices lead to came in by w0. -/
def IsS108 (w0 W : World) (g : Nat) (f0 : ByteArray) (f1 : Int) : Prop := W.heap[g]? = some (.cells #[.string f0, .int .i64 f1] 108 (0, 0)) ∧ w0.heap.size ≤ g
theorem IsS108.grown {w0 W : World} {g : Nat} {f0 : ByteArray} {f1 : Int} {W1 : World} {row : Option Nat} (h : IsS108 w0 W g f0 f1) (hw : W.grownBy W1 row) (hne : some g ≠ row) : IsS108 w0 W1 g f0 f1 := by
  obtain ⟨hb, hg⟩ := h
  exact ⟨blk_grown hb hw hne, hg⟩
theorem IsS108.own_neN {w0 W : World} {g : Nat} {f0 : ByteArray} {f1 : Int} {α : Type} {d : Kd α} {e : Nat} {base : Nat} {ok : Nat → Prop} {v : Value} {xs : List α} (h : IsS108 w0 W g f0 f1) (ho : Kd.N d e W base ok v xs) (ht : e ≠ 108) : some g ≠ v.ownBlock := by
  obtain ⟨hb, hg⟩ := h
  exact Kd.N_ne ho hb ht
theorem IsS108.fresh {w0 W : World} {g : Nat} {f0 : ByteArray} {f1 : Int} (h : IsS108 w0 W g f0 f1) : ∀ k, W.heap.size ≤ k → k ≠ g := by
  obtain ⟨hb, hg⟩ := h
  exact Kd.freshB hb
theorem IsS108.kept {w0 W : World} {g : Nat} {f0 : ByteArray} {f1 : Int} {W1 : World} {S : Nat → Prop} (h : IsS108 w0 W g f0 f1) (hk : Kept W W1 S) (hne : ¬ S g) : IsS108 w0 W1 g f0 f1 := by
  obtain ⟨hb, hg⟩ := h
  exact ⟨blk_kept hb hk hne, hg⟩
theorem IsS108.below {w0 W : World} {g : Nat} {f0 : ByteArray} {f1 : Int} {W1 : World} (h : IsS108 w0 W g f0 f1) (hw : Below W.heap.size W W1) : IsS108 w0 W1 g f0 f1 := h.grown (grown_of_below hw none) (by simp)
theorem IsS108.alloc {w0 W : World} {g : Nat} {f0 : ByteArray} {f1 : Int} (h : IsS108 w0 W g f0 f1) (o : Obj) : IsS108 w0 (W.alloc o) g f0 f1 := h.below (below_alloc (Below.refl _ _) o)
theorem IsS108.drewN {w0 W : World} {g : Nat} {f0 : ByteArray} {f1 : Int} (h : IsS108 w0 W g f0 f1) (m : Nat) : IsS108 w0 (W.drewN m) g f0 f1 := h
theorem IsS108.drew {w0 W : World} {g : Nat} {f0 : ByteArray} {f1 : Int} (h : IsS108 w0 W g f0 f1) : IsS108 w0 W.drew g f0 f1 := h
theorem IsS108.at_ {w0 W : World} {g : Nat} {f0 : ByteArray} {f1 : Int} {w' : World} {m : Nat} (hq : W.drewN m = w') (h : IsS108 w0 W g f0 f1) : IsS108 w0 w' g f0 f1 := by subst hq; exact IsS108.drewN h m
theorem IsS108.apart {w0 W : World} {g : Nat} {f0 : ByteArray} {f1 : Int} {α : Type} {d : Kd α} {e : Nat} {base : Nat} {ok : Nat → Prop} {v : Value} {xs : List α} (h : IsS108 w0 W g f0 f1) (ho : d.R e W base ok v xs) (ht : ∀ q, q ∈ e :: d.E → q ≠ 108) : d.R e W base (fun k => ok k ∧ k ≠ g) v xs := by
  obtain ⟨hb, hg⟩ := h
  exact Kd.R_types ho hb ht
theorem IsS108.own_ne {w0 W : World} {g : Nat} {f0 : ByteArray} {f1 : Int} {α : Type} {d : Kd α} {e : Nat} {base : Nat} {ok : Nat → Prop} {v : Value} {xs : List α} (h : IsS108 w0 W g f0 f1) (ho : d.R e W base ok v xs) (ht : e ≠ 108) : some g ≠ v.ownBlock := by
  obtain ⟨hb, hg⟩ := h
  exact Kd.R_ne ho hb ht
theorem IsS108.apartQ {w0 W : World} {g : Nat} {f0 : ByteArray} {f1 : Int} {α : Type} {d : Kd α} {e : Nat} {base : Nat} {ok : Nat → Prop} {v : Value} {xs : List α} (h : IsS108 w0 W g f0 f1) (ho : d.Q e W base ok v xs) (ht : ∀ q, q ∈ e :: d.E → q ≠ 108) : d.Q e W base (fun k => ok k ∧ k ≠ g) v xs := by
  obtain ⟨hb, hg⟩ := h
  exact Kd.Q_types ho hb ht
theorem IsS108.own_neQ {w0 W : World} {g : Nat} {f0 : ByteArray} {f1 : Int} {α : Type} {d : Kd α} {e : Nat} {base : Nat} {ok : Nat → Prop} {v : Value} {xs : List α} (h : IsS108 w0 W g f0 f1) (ho : d.Q e W base ok v xs) (ht : e ≠ 108) : some g ≠ v.ownBlock := by
  obtain ⟨hb, hg⟩ := h
  exact Kd.Q_ne ho hb ht
theorem IsS108.apartS {w0 W : World} {g : Nat} {f0 : ByteArray} {f1 : Int} {α : Type} {d : Kd α} {e : Nat} {base : Nat} {ok : Nat → Prop} {v : Value} {xs : List α} (h : IsS108 w0 W g f0 f1) (ho : d.S e W base ok v xs) (ht : ∀ q, q ∈ e :: d.E → q ≠ 108) : d.S e W base (fun k => ok k ∧ k ≠ g) v xs := by
  obtain ⟨hb, hg⟩ := h
  exact Kd.S_types ho hb ht
theorem IsS108.own_neS {w0 W : World} {g : Nat} {f0 : ByteArray} {f1 : Int} {α : Type} {d : Kd α} {e : Nat} {base : Nat} {ok : Nat → Prop} {v : Value} {xs : List α} (h : IsS108 w0 W g f0 f1) (ho : d.S e W base ok v xs) (ht : e ≠ 108) : some g ≠ v.ownBlock := by
  obtain ⟨hb, hg⟩ := h
  exact Kd.S_ne ho hb ht
theorem IsS108.lt {w0 W : World} {g : Nat} {f0 : ByteArray} {f1 : Int} (h : IsS108 w0 W g f0 f1) : g < W.heap.size := by
  obtain ⟨hb, hg⟩ := h
  exact blk_lt hb
theorem IsS108.ge {w0 W : World} {g : Nat} {f0 : ByteArray} {f1 : Int} (h : IsS108 w0 W g f0 f1) : w0.heap.size ≤ g := by
  obtain ⟨hb, hg⟩ := h
  exact hg
theorem IsS108.ne_blk {w0 W : World} {g : Nat} {f0 : ByteArray} {f1 : Int} {a : Nat} {cs : Array Value} {t : TypeId} {fr : Nat × Nat} (h : IsS108 w0 W g f0 f1) (hb2 : W.heap[a]? = some (.cells cs t fr)) (ht : t ≠ 108) : g ≠ a := by
  obtain ⟨hb, hg⟩ := h
  rintro rfl
  rw [hb] at hb2
  injection hb2 with hb2
  injection hb2 with _ ht2
  exact ht ht2.symm
theorem IsS108.far {w0 W : World} {g : Nat} {f0 : ByteArray} {f1 : Int} {p : Addr} (h : IsS108 w0 W g f0 f1) (hne : g ≠ p.block) (u : Value) : IsS108 w0 (W.setCell p u) g f0 f1 := by
  obtain ⟨hb, hg⟩ := h
  exact ⟨blk_far hb hne u, hg⟩
theorem cellS108_0 {W : World} {g : Nat} {f0 : ByteArray} {f1 : Int} (h : W.heap[g]? = some (.cells #[.string f0, .int .i64 f1] 108 (0, 0))) : W.cell? ⟨g, 0, none⟩ = some (.string f0) := (blk_cell h 0).trans rfl
theorem IsS108.set_0 {w0 W : World} {g : Nat} {f0 : ByteArray} {f1 : Int} (h : IsS108 w0 W g f0 f1) (x : ByteArray) : IsS108 w0 (W.setCell ⟨g, 0, none⟩ (.string x)) g x f1 := by
  obtain ⟨hb, hg⟩ := h
  exact ⟨by simpa using blk_set hb 0 (.string x), hg⟩
theorem cellS108_1 {W : World} {g : Nat} {f0 : ByteArray} {f1 : Int} (h : W.heap[g]? = some (.cells #[.string f0, .int .i64 f1] 108 (0, 0))) : W.cell? ⟨g, 1, none⟩ = some (.int .i64 f1) := (blk_cell h 1).trans rfl
theorem IsS108.set_1 {w0 W : World} {g : Nat} {f0 : ByteArray} {f1 : Int} (h : IsS108 w0 W g f0 f1) (x : Int) : IsS108 w0 (W.setCell ⟨g, 1, none⟩ (.int .i64 x)) g f0 x := by
  obtain ⟨hb, hg⟩ := h
  exact ⟨by simpa using blk_set hb 1 (.int .i64 x), hg⟩
theorem IsS108.new (w0 W : World) (f0 : ByteArray) (f1 : Int) (hB : Below w0.heap.size w0 W) : IsS108 w0 (W.alloc (.cells #[.string f0, .int .i64 f1] 108)) W.heap.size f0 f1 := ⟨by simpa using heap_alloc_new W _, hB.size⟩

/-! ### octet_Read: function 68 -/
def octet_Read.f (a0 : ByteArray) : Option (ByteArray × Int) := some (a0, 0)
set_option maxHeartbeats 8000000 in
set_option maxRecDepth 100000 in
theorem octet_Read.calls (a0 : ByteArray) (r1 : ByteArray) (r2 : Int) (w0 w : World) (hB : Below w0.heap.size w0 w) (h : octet_Read.f a0 = some (r1, r2)) :
    Calls Tryd.prog 68 #[.string a0] w fun e w' => ∃ g_ : Nat, e = .returned (.pointer (some ⟨g_, 0, none⟩)) ∧ IsS108 w0 w' g_ r1 r2 ∧ Below w0.heap.size w0 w' ∧ Below w.heap.size w w' := by
  have hu108 := Tryd.underlying108
  have HBW := Aside0.mk (Below.refl w.heap.size w)
  have HW0 := Aside0.mk hB.size
  have HB := Aside0.mk hB
  clear hB
  have H : (some (a0, 0)) = some (r1, r2) := h
  clear h
  simp only [Option.some.injEq, Prod.mk.injEq] at H
  obtain ⟨rfl, rfl⟩ := H
  go_enter Tryd.func68, Tryd.ntmps68
  go_wp2_with (first | ((with_reducible refine gate_dst (N := 5) rfl ?_); refine box_event ?hg (N := 5) ?hd (cs := #[.string a0, .int .i64 0]) (t := 108) ?hr ?_; (case hd => rfl); (case hg => rfl); (case hr => first | (go_simp; done) | (go_simp; rfl)); intro gb188 hg w2 hbox hb; have n0_ := Aside0.mk (below_step HBW.out hb); have n1_ := Aside0.mk (below_step (by repeat (first | (with_reducible first | exact HB.out | apply below_alloc | apply pw_below_drewN | apply below_drew1) | exact HB.out)) hb); have n2_ := Aside0.mk (hbox); have n3_ := Aside0.mk ((by rw [hg]; exact (below_size (by repeat (first | (with_reducible first | exact HBW.out | apply below_alloc | apply pw_below_drewN | apply below_drew1) | exact HBW.out))) : w.heap.size ≤ gb188)); have n4_ := Aside0.mk ((Nat.le_trans HW0.out (by rw [hg]; exact (below_size (by repeat (first | (with_reducible first | exact HBW.out | apply below_alloc | apply pw_below_drewN | apply below_drew1) | exact HBW.out))) : w.heap.size ≤ gb188) : w0.heap.size ≤ gb188)); clear HBW; clear HB; have HBW := n0_; have HB := n1_; have BK188 := n2_; have GW188 := n3_; have GE188 := n4_; clear n0_ n1_ n2_ n3_ n4_; clear hb hbox hg))
  go_ret
  exact ⟨_, rfl, (show IsS108 w0 _ gb188 a0 0 from ⟨by (with_reducible repeat (first | refine blk_drewN ?_ _ | refine blk_drew ?_ | refine blk_alloc ?_ _)); exact BK188.out, GE188.out⟩), by repeat (first | (with_reducible first | exact HB.out | apply below_alloc | apply pw_below_drewN | apply below_drew1 | refine below_set ?_ GE188.out) | exact HB.out), by repeat (first | (with_reducible first | exact HBW.out | apply below_alloc | apply pw_below_drewN | apply below_drew1 | refine below_set ?_ GW188.out) | exact HBW.out)⟩

end Go.Proofs.YtjcenencgnfffaaDoor.XOiD
