/- The row of gong/gonglaw09.TrapBack, out of its contract. -/
import Derived.Lay
import Derived.Test.YtfmhghlmljlfgaaGreatDoorCards
import Derived.Test.YtfmhghlmljlfgaaGreatDoorTie
import Derived.Lib.ItoaNum
import Derived.Lib.LaidTab
import Derived.Stop.LaidErr
import Derived.Stop.Joined
import Derived.LaidMore
import Derived.LaidLaws
import Derived.SevenTiedAt
import Derived.Test.YtfmhghlmljlfgaaGreatDoorRows
import Derived.Test.YtfmhghlmljlfgaaGreatDoorGOpen
import Derived.Test.YtfmhghlmljlfgaaGreatDoorXTrSx23
import Derived.Test.YtfmhghlmljlfgaaGreatDoorMTrapBack
import Derived.WalkKit
import Derived.ProofKit
import Derived.OpenShut
import Derived.ShutString
import Derived.ChangeOld
import Derived.Below
import Derived.SizedLaws
import Derived.ChangeSlices
import Derived.Carry
namespace Go.Proofs.YtfmhghlmljlfgaaGreatDoor.trapBack
open Go.ChangeShapes Go.WideShapes Go.ChangeAt Go.RowKit Gong Go.Proofs.YtfmhghlmljlfgaaGreatDoor.XTrS Go.Proofs.YtfmhghlmljlfgaaGreatDoorW.PrintWords
open Go.ChangeMaps (open_string shut_string)
set_option linter.unusedVariables false
theorem own : ownKnob Tryz.prog.godebug = none := by kernel_rfl
theorem laidOut : laidOutB Tryz.prog = true := by kernel_rfl
/-- The witness's heap meets the condition. -/
theorem door_met (os : Os) (args : Array Value) : laidMetH Tryz.prog Rows.trapBackRow.laid ((World.laidAll Tryz.prog os Rows.trapBackRow.laid).forCall (fun _ _ => 0) ⟨#[], args, []⟩).memory := by
  rw [MakeChecks.laidMetH_plain _ _ _ (by kernel_rfl)]; exact laidMet_laidAll _ (by kernel_rfl) (by kernel_rfl)
/-- What the condition gives the walks. -/
theorem gl_of {W : World} (h : laidMetH Tryz.prog Rows.trapBackRow.laid W) (hsh : W.ShapedOpen Tryz.prog) : Gl W := by
  rw [MakeChecks.laidMetH_plain _ _ _ (by kernel_rfl)] at h
  exact ⟨Lib.tabIs_of_head (g := 5) (t := 191) (e := 127) (by kernel_rfl) (by kernel_rfl) Tryz.underlying191 Tryz.underlying127 (by kernel_rfl) (by kernel_rfl) (laidMet.tail (laidMet.tail (h))),
    Go.Proofs.cell_of_shapedOpen_int (g := 0) (zero := #[.int .i64 0]) (t := 3) hsh (of_decide_eq_true (by kernel_rfl)) (by kernel_rfl) rfl (by kernel_rfl) (by kernel_rfl) Tryz.underlying3⟩
set_option maxRecDepth 100000 in
theorem lifted (os : Os) (started : os.Started) (H : Type) (enc : TypeId × Value → H) :
    ReturnsInHanded {} Tryz.checked os 3 .any (fun w args => (Rows.trapBackSpec.pre enc Tryz.prog Tryz.f3 Rows.trapBackRow.domain false w args ∧ laidMetH Tryz.prog Rows.trapBackRow.laid w) ∧ sizedMet enc Tryz.prog Tryz.f3 (OpenSpec.ofChange Rows.trapBackSpec) false w args) (Rows.trapBackSpec.post enc Tryz.prog Tryz.f3 false true false false) := by
  refine returns_of_and_shaped (C := Tryz.checked) (X := fun w _ => laidMetH Tryz.prog Rows.trapBackRow.laid w) (fun _ _ _ hh h => h.of_heap hh) own started (by kernel_rfl) Tryz.func3
    (ChangeSpec.witness_shaped (enc := enc) (C := Tryz.checked) (os := os) (X := fun w _ => laidMetH Tryz.prog Rows.trapBackRow.laid w) false (World.laidAll Tryz.prog os Rows.trapBackRow.laid) #[.agg #[.string ByteArray.empty, .bool false, .int .i64 0, .int .i64 0, .string ByteArray.empty, .slice none 0 0], .slice none 0 0, .int .i64 0] 8 (World.laidAll_os _ _ _) (World.shaped_of_ZipB (by kernel_rfl) (by kernel_rfl)) (by kernel_rfl) (by kernel_rfl) (by kernel_rfl) (door_met os _)) ?_
  intro W base args ds gs before hval0 hW hcnd hsz0 hL hsh _
  have hGl := gl_of hL hsh
  have hsz : (DataW.weightsEach Tryz.prog (Tryz.f3.params.toList ++ Rows.trapBackSpec.plain.varTypes Tryz.prog) (ds ++ gs)).all (· ≤ reachBytes) = true := hsz0
  have hval : ∀ (j : Nat) t v, Tryz.f3.params[j]? = some t → args[j]? = some v → Value.okWide Tryz.prog W .any base t v := hval0
  have hW' := hW
  obtain ⟨p, q, hA0, hV, rfl, hfz, hnd⟩ := hW
  have hA : DataW.TrodAll enc Tryz.prog W 0 (fun _ => true) true Tryz.f3.params.toList args.toList ds p := hA0
  rw [Tryz.params3] at hA hval hsz
  obtain ⟨v0, vs0, d0, ds0, p0, q0, hargs, rfl, rfl, h0, r0⟩ := trodAll_cons hA
  obtain ⟨v1, vs1, d1, ds1, p1, q1, rfl, rfl, rfl, h1, r1⟩ := trodAll_cons r0
  obtain ⟨v2, vs2, d2, ds2, p2, q2, rfl, rfl, rfl, h2, r2⟩ := trodAll_cons r1
  obtain ⟨rfl, rfl, rfl⟩ := trodAll_nil r2
  obtain rfl : args = #[v0, v1, v2] := by cases args; simp_all
  obtain ⟨rfl, rfl⟩ := trodVars_none hV
  have k0 := h0
  have lt0 : ∀ x ∈ p0, x.block < W.heap.size := by obtain ⟨m, hm⟩ := k0; exact DataW.trod_lt m _ _ _ hm
  obtain ⟨x0, hx0, ft0⟩ := Opens.param (Opens.struct Tryz.underlying24 (by kernel_rfl) (OpensFs.cons rfl (by kernel_rfl) (Opens.string Tryz.underlying9) (OpensFs.cons rfl (by kernel_rfl) (Opens.bool Tryz.underlying4) (OpensFs.cons rfl (by kernel_rfl) (Opens.int Tryz.underlying3) (OpensFs.cons rfl (by kernel_rfl) (Opens.int Tryz.underlying3) (OpensFs.cons rfl (by kernel_rfl) (Opens.string Tryz.underlying9) (OpensFs.one rfl (by kernel_rfl) (Opens.slice (B := 48) Tryz.underlying22 (by kernel_rfl) (by kernel_rfl) (Opens.iso (fun x : S40 => (x.f0, x.f1)) (fun p => ⟨p.1, p.2⟩) (fun _ => rfl) (Opens.struct Tryz.underlying40 (by kernel_rfl) (OpensFs.cons rfl (by kernel_rfl) (Opens.string Tryz.underlying9) (OpensFs.one rfl (by kernel_rfl) (Opens.iso (fun x : S38 => (x.f0, (x.f1, x.f2))) (fun p => ⟨p.1, p.2.1, p.2.2⟩) (fun _ => rfl) (Opens.struct Tryz.underlying38 (by kernel_rfl) (OpensFs.cons rfl (by kernel_rfl) (Opens.int Tryz.underlying3) (OpensFs.cons rfl (by kernel_rfl) (Opens.int Tryz.underlying3) (OpensFs.one rfl (by kernel_rfl) (Opens.string Tryz.underlying9)))))))))))))))))) hsz (j := 0) (t := 24) rfl rfl h0
  obtain ⟨cs0, hcs0⟩ : ∃ cs, v0 = .agg cs := by
    have hv := (hval 0 24 v0 rfl rfl)
    unfold Value.okWide at hv
    rw [Tryz.underlying24] at hv
    obtain ⟨cs, e, _⟩ := hv
    exact ⟨cs, e⟩
  subst hcs0
  obtain ⟨l0_0, m0_0, e0_0, g0_0, h0_1⟩ := hx0
  have g0_0_ := g0_0
  obtain ⟨l0_1, m0_1, e0_1, g0_1, h0_2⟩ := h0_1
  have g0_1_ := g0_1
  obtain ⟨l0_2, m0_2, e0_2, g0_2, h0_3⟩ := h0_2
  have g0_2_ := g0_2
  obtain ⟨l0_3, m0_3, e0_3, g0_3, h0_4⟩ := h0_3
  have g0_3_ := g0_3
  obtain ⟨l0_4, m0_4, e0_4, g0_4, h0_5⟩ := h0_4
  have g0_4_ := g0_4
  obtain ⟨A0_5, c0_5, g0_5_, hc0_5, hr0_5⟩ := h0_5
  obtain rfl : cs0 = #[.string x0.1, .bool x0.2.1, .int .i64 x0.2.2.1, .int .i64 x0.2.2.2.1, .string x0.2.2.2.2.1, .slice A0_5 x0.2.2.2.2.2.length c0_5] := by
    apply Array.toList_inj.1
    refine Eq.trans (show cs0.toList = (Value.agg cs0).cells.toList from rfl) ?_
    rw [e0_0, g0_0_, e0_1, g0_1_, e0_2, g0_2_, e0_3, g0_3_, e0_4, g0_4_, g0_5_]
    rfl
  have k1 := h1
  have lt1 : ∀ x ∈ p1, x.block < W.heap.size := by obtain ⟨m, hm⟩ := k1; exact DataW.trod_lt m _ _ _ hm
  obtain ⟨A1, c1, l1, rfl, hc1, hr1, ft1⟩ := Opens.slice_param (Opens.slice (B := 16) Tryz.underlying25 (by kernel_rfl) (by kernel_rfl) (Opens.string Tryz.underlying9)) hsz (j := 1) (t := 25) rfl rfl h1 (okWide_slice Tryz.underlying25 (hval 1 25 v1 rfl rfl))
  obtain ⟨a2, rfl, rfl, rfl, w2⟩ := open_int Tryz.underlying3 (hval 2 3 v2 rfl rfl) h2
  clear hA0 hval0 hsz0 hsz
  obtain ⟨k, hk⟩ := Pure.TrapBack x0.1 x0.2.1 x0.2.2.1 x0.2.2.2.1 x0.2.2.2.2.1 x0.2.2.2.2.2 l1 a2 ft0 ft1 w2
  refine (XTrS.gonglaw09_TrapBack.calls k x0.1 x0.2.1 x0.2.2.1 x0.2.2.2.1 x0.2.2.2.2.1 A0_5 c0_5 x0.2.2.2.2.2 A1 c1 l1 a2 true W hGl hr0_5 hc0_5 hr1 hc1 hk).mono fun e W' ⟨he, bel0⟩ => ?_
  have bel := bel0
  subst he
  exact ⟨_, rfl, _, _, _, [], _, [], hW', trodAll_mk1 (shut_bool Tryz.underlying4 _), (trodAll_cons_mk (Below.trod laidOut (by kernel_rfl) (of_decide_eq_true (by kernel_rfl)) k0 bel lt0) (trodAll_cons_mk (Below.trod laidOut (by kernel_rfl) (of_decide_eq_true (by kernel_rfl)) k1 bel lt1) (trodAll_cons_mk (shut_int Tryz.underlying3 w2) trodAll_mk0))), rfl, bel.frame _, fun h => by cases h⟩
theorem over : Rows.trapBackRow.holds Tryz.pinned (OpenSpec.ofChange Rows.trapBackSpec) :=
  OpenClaim.holds_of_wide 3 Tryz.f3 rfl rfl rfl rfl rfl rfl rfl ⟨rfl, rfl, rfl, rfl, rfl⟩ rfl rfl rfl rfl rfl (by kernel_rfl) Tryz.func3 (by kernel_rfl)
    (of_decide_eq_true (by kernel_rfl)) (by unfold Func.isWrapper; first | (rw [if_pos (by decide +kernel)]; kernel_rfl) | (rw [if_neg (by decide +kernel)]; exact ⟨rfl, rfl⟩))
    (fun os started H enc _ => lifted os started H enc)
theorem proved : Rows.TrapBackSaid := over
theorem card_holds : Rows.TrapBackCardSaid :=
  Claim7.holds_tied_plain_at .later [] [.data, .data, .data, .data, .sentinel, .sentinel, .pinned] true (true, "aadd058a59a68cdece7bb345c00563cf5a4b9b819ec1dbd00609006f6024bee4") true
    proved (fun _ h => by cases h) (by kernel_rfl) (fun _ h => by cases h) trapBack_row_tie rfl ⟨rfl, rfl⟩ (by kernel_rfl) rfl
    (fun f fn hf hfn => by
      obtain rfl : f = 3 := Option.some.inj ((show Tryz.prog.funcNamed "gong/gonglaw09.TrapBack" = some 3 by kernel_rfl).symm.trans hf) |>.symm
      obtain rfl : fn = Tryz.f3 := (Option.some.inj (Tryz.func3.symm.trans hfn)).symm
      exact ⟨by kernel_rfl, fun j t ht => by
        rw [Tryz.params3] at ht
        have hm : t ∈ [24, 25, 3] := by simpa using Array.mem_of_getElem? ht
        have hall : ([24, 25, 3].all fun u => !Tryz.prog.wantsStandIn u) = true := by kernel_rfl
        exact (show Tryz.prog.wantsStandIn t = false by simpa using List.all_eq_true.1 hall t hm)⟩)
    (by kernel_rfl)
#print axioms card_holds
end Go.Proofs.YtfmhghlmljlfgaaGreatDoor.trapBack
namespace Go.Proofs.YtfmhghlmljlfgaaGreatDoor
/-- The row, under a short name, for the claim. -/
theorem trapBack_holds : Rows.TrapBackCardSaid := trapBack.card_holds
end Go.Proofs.YtfmhghlmljlfgaaGreatDoor
