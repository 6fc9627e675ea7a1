/- The row of gong/gonglaw07.ValueWrites, out of its contract. -/
import Derived.Lay
import Derived.Test.YtjfimileopbadaaGreatDoorCards
import Derived.Test.YtjfimileopbadaaGreatDoorTie
import Derived.Lib.ItoaNum
import Derived.Lib.LaidTab
import Derived.Stop.LaidErr
import Derived.Stop.Joined
import Derived.LaidMore
import Derived.LaidLaws
import Derived.SevenTiedAt
import Derived.Test.YtjfimileopbadaaGreatDoorRows
import Derived.Test.YtjfimileopbadaaGreatDoorGOpen
import Derived.Test.YtjfimileopbadaaGreatDoorXVaAx
import Derived.Test.YtjfimileopbadaaGreatDoorMValueWrites
import Derived.WalkKit
import Derived.ProofKit
import Derived.OpenShut
import Derived.ShutString
import Derived.ChangeOld
import Derived.Below
import Derived.SizedLaws
import Derived.ChangeSlices
import Derived.Carry
namespace Go.Proofs.YtjfimileopbadaaGreatDoor.valueWrites
open Go.ChangeShapes Go.WideShapes Go.ChangeAt Go.RowKit Gong Go.Proofs.YtjfimileopbadaaGreatDoor.XVaA Go.Proofs.YtjfimileopbadaaGreatDoorW.PrintWords
open Go.ChangeMaps (open_string shut_string)
set_option linter.unusedVariables false
theorem own : ownKnob Tryz.prog.godebug = none := by kernel_rfl
theorem laidOut : laidOutB Tryz.prog = true := by kernel_rfl
/-- The witness's heap meets the condition. -/
theorem door_met (os : Os) (args : Array Value) : laidMetH Tryz.prog Rows.valueWritesRow.laid ((World.laidAll Tryz.prog os Rows.valueWritesRow.laid).forCall (fun _ _ => 0) ⟨#[], args, []⟩).memory := by
  rw [MakeChecks.laidMetH_plain _ _ _ (by kernel_rfl)]; exact laidMet_laidAll _ (by kernel_rfl) (by kernel_rfl)
/-- What the condition gives the walks. -/
theorem gl_of {W : World} (h : laidMetH Tryz.prog Rows.valueWritesRow.laid W) (hsh : W.ShapedOpen Tryz.prog) : Gl W := by
  rw [MakeChecks.laidMetH_plain _ _ _ (by kernel_rfl)] at h
  exact ⟨Lib.tabIs_of_head (g := 1) (t := 183) (e := 63) (by kernel_rfl) (by kernel_rfl) Tryz.underlying183 Tryz.underlying63 (by kernel_rfl) (by kernel_rfl) (laidMet.tail (laidMet.tail (h))),
    Go.Proofs.cell_of_shapedOpen_int (g := 0) (zero := #[.int .i64 0]) (t := 3) hsh (of_decide_eq_true (by kernel_rfl)) (by kernel_rfl) rfl (by kernel_rfl) (by kernel_rfl) Tryz.underlying3⟩
set_option maxRecDepth 100000 in
theorem lifted (os : Os) (started : os.Started) (H : Type) (enc : TypeId × Value → H) :
    ReturnsInHanded {} Tryz.checked os 7 .any (fun w args => (Rows.valueWritesSpec.pre enc Tryz.prog Tryz.f7 Rows.valueWritesRow.domain false w args ∧ laidMetH Tryz.prog Rows.valueWritesRow.laid w) ∧ sizedMet enc Tryz.prog Tryz.f7 (OpenSpec.ofChange Rows.valueWritesSpec) false w args) (Rows.valueWritesSpec.post enc Tryz.prog Tryz.f7 false true false false) := by
  refine returns_of_and_shaped (C := Tryz.checked) (X := fun w _ => laidMetH Tryz.prog Rows.valueWritesRow.laid w) (fun _ _ _ hh h => h.of_heap hh) own started (by kernel_rfl) Tryz.func7
    (ChangeSpec.witness_shaped (enc := enc) (C := Tryz.checked) (os := os) (X := fun w _ => laidMetH Tryz.prog Rows.valueWritesRow.laid w) false (World.laidAll Tryz.prog os Rows.valueWritesRow.laid) #[.agg #[.int .i64 0, .int .i64 0, .string ByteArray.empty]] 8 (World.laidAll_os _ _ _) (World.shaped_of_ZipB (by kernel_rfl) (by kernel_rfl)) (by kernel_rfl) (by kernel_rfl) (by kernel_rfl) (door_met os _)) ?_
  intro W base args ds gs before hval0 hW hcnd hsz0 hL hsh _
  have hGl := gl_of hL hsh
  have hsz : (DataW.weightsEach Tryz.prog (Tryz.f7.params.toList ++ Rows.valueWritesSpec.plain.varTypes Tryz.prog) (ds ++ gs)).all (· ≤ reachBytes) = true := hsz0
  have hval : ∀ (j : Nat) t v, Tryz.f7.params[j]? = some t → args[j]? = some v → Value.okWide Tryz.prog W .any base t v := hval0
  have hW' := hW
  obtain ⟨p, q, hA0, hV, rfl, hfz, hnd⟩ := hW
  have hA : DataW.TrodAll enc Tryz.prog W 0 (fun _ => true) true Tryz.f7.params.toList args.toList ds p := hA0
  rw [Tryz.params7] at hA hval hsz
  obtain ⟨v0, vs0, d0, ds0, p0, q0, hargs, rfl, rfl, h0, r0⟩ := trodAll_cons hA
  obtain ⟨rfl, rfl, rfl⟩ := trodAll_nil r0
  obtain rfl : args = #[v0] := by cases args; simp_all
  obtain ⟨rfl, rfl⟩ := trodVars_none hV
  have k0 := h0
  have lt0 : ∀ x ∈ p0, x.block < W.heap.size := by obtain ⟨m, hm⟩ := k0; exact DataW.trod_lt m _ _ _ hm
  obtain ⟨x0, hx0, ft0⟩ := Opens.param (Opens.struct Tryz.underlying28 (by kernel_rfl) (OpensFs.cons rfl (by kernel_rfl) (Opens.int Tryz.underlying3) (OpensFs.cons rfl (by kernel_rfl) (Opens.int Tryz.underlying3) (OpensFs.one rfl (by kernel_rfl) (Opens.string Tryz.underlying9))))) hsz (j := 0) (t := 28) rfl rfl h0
  obtain ⟨cs0, hcs0⟩ : ∃ cs, v0 = .agg cs := by
    have hv := (hval 0 28 v0 rfl rfl)
    unfold Value.okWide at hv
    rw [Tryz.underlying28] at hv
    obtain ⟨cs, e, _⟩ := hv
    exact ⟨cs, e⟩
  subst hcs0
  obtain ⟨l0_0, m0_0, e0_0, g0_0, h0_1⟩ := hx0
  have g0_0_ := g0_0
  obtain ⟨l0_1, m0_1, e0_1, g0_1, h0_2⟩ := h0_1
  have g0_1_ := g0_1
  have g0_2_ := h0_2
  obtain rfl : cs0 = #[.int .i64 x0.1, .int .i64 x0.2.1, .string x0.2.2] := by
    apply Array.toList_inj.1
    refine Eq.trans (show cs0.toList = (Value.agg cs0).cells.toList from rfl) ?_
    rw [e0_0, g0_0_, e0_1, g0_1_, g0_2_]
    rfl
  clear hA0 hval0 hsz0 hsz
  obtain ⟨k, hk⟩ := Pure.ValueWrites x0.1 x0.2.1 x0.2.2 ft0
  refine (XVaA.gonglaw07_ValueWrites.calls k x0.1 x0.2.1 x0.2.2 true W hGl  hk).mono fun e W' ⟨he, bel0⟩ => ?_
  have bel := bel0
  subst he
  exact ⟨_, rfl, _, _, _, [], _, [], hW', trodAll_mk1 (shut_bool Tryz.underlying4 _), (trodAll_cons_mk (Below.trod laidOut (by kernel_rfl) (of_decide_eq_true (by kernel_rfl)) k0 bel lt0) trodAll_mk0), rfl, bel.frame _, fun h => by cases h⟩
theorem over : Rows.valueWritesRow.holds Tryz.pinned (OpenSpec.ofChange Rows.valueWritesSpec) :=
  OpenClaim.holds_of_wide 7 Tryz.f7 rfl rfl rfl rfl rfl rfl rfl ⟨rfl, rfl, rfl, rfl, rfl⟩ rfl rfl rfl rfl rfl (by kernel_rfl) Tryz.func7 (by kernel_rfl)
    (of_decide_eq_true (by kernel_rfl)) (by unfold Func.isWrapper; first | (rw [if_pos (by decide +kernel)]; kernel_rfl) | (rw [if_neg (by decide +kernel)]; exact ⟨rfl, rfl⟩))
    (fun os started H enc _ => lifted os started H enc)
theorem proved : Rows.ValueWritesSaid := over
theorem card_holds : Rows.ValueWritesCardSaid :=
  Claim7.holds_tied_plain_at .later [] [.data, .data, .data, .data, .sentinel, .sentinel, .pinned] true (true, "16caaa6ec316d5a5b8975a97c0482f94da3fc60e064aaff5080661cd2b0fc76d") true
    proved (fun _ h => by cases h) (by kernel_rfl) (fun _ h => by cases h) valueWrites_row_tie rfl ⟨rfl, rfl⟩ (by kernel_rfl) rfl
    (fun f fn hf hfn => by
      obtain rfl : f = 7 := Option.some.inj ((show Tryz.prog.funcNamed "gong/gonglaw07.ValueWrites" = some 7 by kernel_rfl).symm.trans hf) |>.symm
      obtain rfl : fn = Tryz.f7 := (Option.some.inj (Tryz.func7.symm.trans hfn)).symm
      exact ⟨by kernel_rfl, fun j t ht => by
        rw [Tryz.params7] at ht
        have hm : t ∈ [28] := by simpa using Array.mem_of_getElem? ht
        have hall : ([28].all fun u => !Tryz.prog.wantsStandIn u) = true := by kernel_rfl
        exact (show Tryz.prog.wantsStandIn t = false by simpa using List.all_eq_true.1 hall t hm)⟩)
    (by kernel_rfl)
#print axioms card_holds
end Go.Proofs.YtjfimileopbadaaGreatDoor.valueWrites
namespace Go.Proofs.YtjfimileopbadaaGreatDoor
/-- The row, under a short name, for the claim. -/
theorem valueWrites_holds : Rows.ValueWritesCardSaid := valueWrites.card_holds
end Go.Proofs.YtjfimileopbadaaGreatDoor
