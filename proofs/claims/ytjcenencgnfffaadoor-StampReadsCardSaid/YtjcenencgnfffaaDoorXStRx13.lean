-- Laid by extprint.py (the session's own driver): functions told by the kit's printer and by hand.
import Derived.Test.YtjcenencgnfffaaDoorXStRx0
import Derived.Test.YtjcenencgnfffaaDoorXStRx1
namespace Go.Proofs.YtjcenencgnfffaaDoor.XStR
open Go.RowKit Gong Go.Proofs.YtjcenencgnfffaaDoorW.PrintWords Go.Proofs.YtjcenencgnfffaaDoorW.PrintLast Go.Proofs.YtjcenencgnfffaaDoorW.PrintMore
attribute [local go_sem] max2_int min2_int max_two min_two max_three min_three max_four min_four   -- for this text's walks alone
set_option linter.unusedVariables false
set_option linter.unusedSimpArgs false

/-! ### strings_TrimLeft: function 49 -/
def strings_TrimLeft.f (a0 a1 : ByteArray) : Option ByteArray :=
  if a0.size ≤ 9223372036854775807 ∧ a1.size < 4294967281 ∧ a1.data.toList.all (fun b => decide (b.toNat < 128)) = true then some ⟨(Lib.trimLeftS a0.data.toList a1.data.toList).toArray⟩ else none
theorem strings_TrimLeft.calls (a0 a1 : ByteArray) (r : ByteArray) (w : World) (h : strings_TrimLeft.f a0 a1 = some r) :
    Calls Tryd.prog 49 #[.string a0, .string a1] w fun e w' => e = .returned (.string r) ∧ Below w.heap.size w w' := by
  unfold strings_TrimLeft.f at h
  by_cases hc : a0.size ≤ 9223372036854775807 ∧ a1.size < 4294967281 ∧ a1.data.toList.all (fun b => decide (b.toNat < 128)) = true
  · rw [if_pos hc] at h
    obtain rfl := Option.some.inj h
    refine (Any.strings_TrimLeft_laid Tryd.lays161 (by kernel_rfl) a0 a1 w hc.2.1 (fun j b hj => by simpa using List.all_eq_true.1 hc.2.2 b (List.mem_of_getElem? hj))).mono ?_
    rintro e w' ⟨rfl, hb⟩
    exact ⟨rfl, hb⟩
  · rw [if_neg hc] at h
    exact absurd h (by simp)

/-! ### stamp_Span: function 15 -/
def unitRow : List (List UInt8 × Int) := [([100], 86400000000000), ([104], 3600000000000), ([109], 60000000000), ([115], 1000000000), ([109, 115], 1000000), ([117, 115], 1000), ([110, 115], 1)]
def spanGo (name : List UInt8) (n : Int) : List (List UInt8 × Int) → Int × Int
  | [] => (0, 30)
  | u :: us => if u.1 = name ∧ n ≤ 2305843009213693952 / u.2 then (wrap64 (n * u.2), 0) else spanGo name n us
def spanName (l : List UInt8) : List UInt8 := Lib.trimLeftS l [48, 49, 50, 51, 52, 53, 54, 55, 56, 57]
def spanDigits (l : List UInt8) : List UInt8 := l.take (l.length - (spanName l).length)
def stamp_Span.f (a0 : ByteArray) : Option (Int × Int) :=
  if a0.size ≤ 1000 then (if spanDigits a0.data.toList = [] then some (0, 30) else if 9 < (spanDigits a0.data.toList).length then some (0, 30) else if ¬ spanDigits a0.data.toList = [48] ∧ (spanDigits a0.data.toList).head? = some 48 then some (0, 30) else
    match Lib.atoiAll (spanDigits a0.data.toList) with | .ok n => some (spanGo (spanName a0.data.toList) n unitRow) | _ => none) else none
theorem run_index_struct {P : Program} {t e : TypeId} {n : Nat} {fs : Array Field} (ht : P.underlying t = some (.array n e)) (he : P.underlying e = some (.struct fs)) {c : Nat} (hc : P.cellsOf e = c) (m : Nat) (hm : m < n) (cs : Array Value) (w : World) :
    (Instr.index t (.agg cs) (.int .i64 m)).run P w = .ok (.agg (cs.extract (m * c) (m * c + c))) w := by
  have hm' : (m : Int) < n := by omega
  cases hi : P.info? e with
  | none => simp [Program.underlying, hi] at he
  | some i =>
    have hs : i.size = c := by simpa [Program.cellsOf, hi] using hc
    simp [Instr.index, asIntOf, run_underlying ht, part, isAgg, run_underlying he, sizeOf, typeInfo, hi, hm', hs]
    intro h
    omega
theorem bt_head0 (s : ByteArray) (h : 0 < s.size) : bt s 0 = 48 ↔ s.data.toList.head? = some 48 := by
  have h1 : bt s 0 = ((s[0]'h).toNat : Int) := (bt_at s 0 h).symm
  have h2 : s.data.toList.head? = some (s[0]'h) := by
    have h3 : 0 < s.data.toList.length := by simpa using h
    rw [List.head?_eq_getElem?, List.getElem?_eq_getElem h3]
    rfl
  rw [h1, h2]
  constructor
  · intro e
    rw [Option.some.injEq]
    exact UInt8.toNat_inj.1 (by have e48 : (48 : UInt8).toNat = 48 := rfl; omega)
  · intro e
    rw [Option.some.injEq] at e
    rw [e]; rfl
theorem unit_at (m : Nat) (h : m < 7) : ∃ nm by_, unitRow.drop m = (nm, by_) :: unitRow.drop (m + 1) ∧ 0 < by_ ∧ by_ ≤ 86400000000000 ∧ ∀ W, (Instr.index 61 (.agg #[.string ⟨#[100]⟩, .int .i64 86400000000000, .string ⟨#[104]⟩, .int .i64 3600000000000, .string ⟨#[109]⟩, .int .i64 60000000000, .string ⟨#[115]⟩, .int .i64 1000000000, .string ⟨#[109, 115]⟩, .int .i64 1000000, .string ⟨#[117, 115]⟩, .int .i64 1000, .string ⟨#[110, 115]⟩, .int .i64 1]) (.int .i64 m)).run Tryd.prog W = .ok (.agg #[.string ⟨nm.toArray⟩, .int .i64 by_]) W := by
  have hx := fun W => run_index_struct Tryd.underlying61 Tryd.underlying60 (c := 2) (by kernel_rfl) m h unitCells.toArray W
  have : m = 0 ∨ m = 1 ∨ m = 2 ∨ m = 3 ∨ m = 4 ∨ m = 5 ∨ m = 6 := by omega
  rcases this with rfl | rfl | rfl | rfl | rfl | rfl | rfl
  all_goals exact ⟨_, _, rfl, by decide, by decide, fun W => (hx W).trans rfl⟩
set_option maxHeartbeats 1600000 in
set_option maxRecDepth 100000 in
theorem stamp_Span.calls (a0 : ByteArray) (r1 r2 : Int) (w : World) (hG : Gl w) (h : stamp_Span.f a0 = some (r1, r2)) :
    Calls Tryd.prog 15 #[.string a0] w fun e w' => e = .returned (.tuple #[.int .i64 r1, .int .i64 r2]) ∧ Below w.heap.size w w' := by
  unfold stamp_Span.f at h
  have hs : a0.size ≤ 1000 := by
    by_cases c : a0.size ≤ 1000
    · exact c
    · rw [if_neg c] at h; exact absurd h (by simp)
  rw [if_pos hs] at h
  have hT : strings_TrimLeft.f a0 ⟨#[48, 49, 50, 51, 52, 53, 54, 55, 56, 57]⟩ = some ⟨(spanName a0.data.toList).toArray⟩ := by
    unfold strings_TrimLeft.f
    rw [if_pos ⟨by omega, by decide, by decide⟩]
    rfl
  have HT := Aside0.mk (fun W => strings_TrimLeft.calls a0 ⟨#[48, 49, 50, 51, 52, 53, 54, 55, 56, 57]⟩ _ W hT)
  have hnl : (spanName a0.data.toList).length ≤ a0.data.toList.length := by
    unfold spanName Lib.trimLeftS
    exact (List.dropWhile_sublist _).length_le
  have hal : a0.data.toList.length = a0.size := by simp
  obtain ⟨nm, hnm⟩ : ∃ nm : ByteArray, nm = ⟨(spanName a0.data.toList).toArray⟩ := ⟨_, rfl⟩
  have hns : nm.size = (spanName a0.data.toList).length := by rw [hnm]; rfl
  obtain ⟨D, hD⟩ : ∃ D, D = a0.size - nm.size := ⟨_, rfl⟩
  obtain ⟨ds, hds⟩ : ∃ ds : ByteArray, ds = a0.extract 0 D := ⟨_, rfl⟩
  have hdl : ds.data.toList = spanDigits a0.data.toList := by
    rw [hds, hD]
    unfold spanDigits
    rw [hns, hal]
    simp
  rw [← hnm] at HT
  have e1 : wrap64 ((a0.size : Int) - (nm.size : Int)) = (D : Int) := by unfold wrap64; omega
  have e2 := eq_true (show D ≤ a0.size by omega)
  have e3 := eq_true (show (D : Int) ≤ (a0.size : Int) by omega)
  have HH := Aside0.mk h
  have HGl := Aside0.mk hG
  have HD := Aside0.mk (show a0.size ≤ 1000 ∧ ds.data.toList = spanDigits a0.data.toList from ⟨hs, hdl⟩)
  have HNM := Aside0.mk (show nm.toList = spanName a0.data.toList from by rw [hnm, Go.ByteArray.toList_eq])
  clear h hG hT hnl hal hnm hns hD hdl hs
  go_enter Tryd.func15, Tryd.ntmps15
  go_wp2_with fail
  refine (HT.out _).mono ?_
  rintro e w1 ⟨rfl, hb1⟩
  have HB := Aside0.mk hb1
  clear hb1
  go_upto_region 3 with (fail)
  rw [← hds]
  have hsz : ds.size = D := by
    rw [hds]
    have := e2
    simp at this
    simp
    omega
  clear e1 e2 e3 hds
  have hU := (HGl.out.below HB.out).units
  have hC : ∀ i v, unitCells.toArray[i]? = some v → w1.cell? ⟨0, i, none⟩ = some v := fun i v hv => (World.var?_cell gl_u hU i).trans hv
  have c0 := hC 0 (.string ⟨#[100]⟩) rfl
  have c1 := hC 1 (.int .i64 86400000000000) rfl
  have c2 := hC 2 (.string ⟨#[104]⟩) rfl
  have c3 := hC 3 (.int .i64 3600000000000) rfl
  have c4 := hC 4 (.string ⟨#[109]⟩) rfl
  have c5 := hC 5 (.int .i64 60000000000) rfl
  have c6 := hC 6 (.string ⟨#[115]⟩) rfl
  have c7 := hC 7 (.int .i64 1000000000) rfl
  have c8 := hC 8 (.string ⟨#[109, 115]⟩) rfl
  have c9 := hC 9 (.int .i64 1000000) rfl
  have c10 := hC 10 (.string ⟨#[117, 115]⟩) rfl
  have c11 := hC 11 (.int .i64 1000) rfl
  have c12 := hC 12 (.string ⟨#[110, 115]⟩) rfl
  have c13 := hC 13 (.int .i64 1) rfl
  clear hC hU
  have h := HH.out
  rw [← HD.out.2] at h
  have hdl : ds.data.toList.length = D := by rw [← hsz]; simp
  by_cases k0 : D = 0
  · have k1 : ds.data.toList = [] := List.eq_nil_of_length_eq_zero (by omega)
    rw [if_pos k1] at h
    simp only [Option.some.injEq, Prod.mk.injEq] at h
    obtain ⟨rfl, rfl⟩ := h
    have k2 : (ds.toList == ([] : List UInt8)) = true := by rw [Go.ByteArray.toList_eq, k1]; rfl
    clear hdl k0 k1 hsz
    go_wp2
    go_ret2
    exact ⟨rfl, HB.out⟩
  · have k1 : ¬ ds.data.toList = [] := fun e => by rw [e] at hdl; simp at hdl; omega
    rw [if_neg k1] at h
    have k2 : (ds.toList == ([] : List UInt8)) = false := toList_ne (by omega)
    by_cases k3 : 9 < D
    · rw [if_pos (by omega)] at h
      simp only [Option.some.injEq, Prod.mk.injEq] at h
      obtain ⟨rfl, rfl⟩ := h
      have k4 : decide ((ds.size : Int) > 9) = true := decide_eq_true (by omega)
      clear hdl k0 k1 hsz k3
      go_wp2
      go_ret2
      exact ⟨rfl, HB.out⟩
    · rw [if_neg (by omega)] at h
      have k4 : decide ((ds.size : Int) > 9) = false := decide_eq_false (by omega)
      have k5 : ∀ h : 0 < ds.size, ((ds[0]'h).toNat : Int) = bt ds 0 := bt_at ds 0
      have k6 := eq_true (show 0 < ds.size by omega)
      by_cases k7 : ¬ ds.data.toList = [48] ∧ ds.data.toList.head? = some 48
      · rw [if_pos k7] at h
        simp only [Option.some.injEq, Prod.mk.injEq] at h
        obtain ⟨rfl, rfl⟩ := h
        have k8 : (ds.toList == ([48] : List UInt8)) = false := by rw [Go.ByteArray.toList_eq, beq_eq_false_iff_ne]; exact k7.1
        have k9 : (bt ds 0 == 48) = true := beq_iff_eq.mpr ((bt_head0 ds (by omega)).2 k7.2)
        clear hdl k0 k1 hsz k3 k7
        go_wp2
        go_ret2
        exact ⟨rfl, HB.out⟩
      · rw [if_neg k7] at h
        have k8 : (ds.toList == ([48] : List UInt8)) = true ∨ ((ds.toList == ([48] : List UInt8)) = false ∧ (bt ds 0 == 48) = false) := by
          rw [Go.ByteArray.toList_eq]
          by_cases c : ds.data.toList = [48]
          · exact .inl (beq_iff_eq.mpr c)
          · exact .inr ⟨beq_eq_false_iff_ne.mpr c, beq_eq_false_iff_ne.mpr (fun e => k7 ⟨c, (bt_head0 ds (by omega)).1 e⟩)⟩
        cases ha : Lib.atoiAll ds.data.toList with
        | «syntax» => rw [ha] at h; simp at h
        | range => rw [ha] at h; simp at h
        | ok n =>
          rw [ha] at h
          simp only [Option.some.injEq] at h
          have hn : stamp_number.f ds = some n := by unfold stamp_number.f; rw [if_pos (by omega), ha]
          have HN := Aside0.mk (fun W => stamp_number.calls ds n W hn)
          have HQ := Aside0.mk h
          clear h hn ha hdl k0 k1 hsz k3 k7 HH HD HT
          rcases k8 with k8 | ⟨k8, k9⟩
          all_goals
            go_wp2_with fail
            go_loopw [35] (fun v W => ∃ m : Nat, m ≤ 7 ∧ v = .int .i64 (m : Int) ∧ Aside0 (spanGo (spanName a0.data.toList) n (unitRow.drop m) = (r1, r2)) ∧ Aside0 (Below w.heap.size w W)) (fun v _ => (7 - intOf v).toNat)
            case atStart => exact ⟨0, by omega, rfl, HQ, HB⟩
            case round =>
              obtain ⟨m, hm, rfl, HS, HW⟩ := hrel
              by_cases hlt : m < 7
              · obtain ⟨nu, bu, hu, hb0, hb1, hx⟩ := unit_at m hlt
                have e9 : decide ((m : Int) < 7) = true := decide_eq_true (by omega)
                have e10 : (bu == 0) = false := beq_eq_false_iff_ne.mpr (by omega)
                have e12 : wrap64 ((m : Int) + 1) = ((m + 1 : Nat) : Int) := by unfold wrap64; omega
                have hs := HS.out
                rw [hu, spanGo, ← HNM.out] at hs
                clear HS
                have HM := Aside0.mk hlt
                clear hlt
                go_wp2_with fail
                have hsz := HW.out.size
                have HW2 := HW.out.alloc hsz (.cells #[.string ⟨nu.toArray⟩, .int .i64 bu] 60)
                refine (HN.out _).mono ?_
                rintro e w2 ⟨rfl, hb2⟩
                have hblk : (wr.alloc (.cells #[.string ⟨nu.toArray⟩, .int .i64 bu] 60)).heap[wr.heap.size]? = some (.cells #[.string ⟨nu.toArray⟩, .int .i64 bu] 60 (0, 0)) := by simpa using heap_alloc_new wr _
                have hb3 := (hb2.block wr.heap.size (by show wr.heap.size < (wr.heap.push _).size; rw [Array.size_push]; omega)).trans hblk
                have x0 : w2.cell? ⟨wr.heap.size, 0, none⟩ = some (.string ⟨nu.toArray⟩) := (blk_cell hb3 0).trans rfl
                have x1 : w2.cell? ⟨wr.heap.size, 1, none⟩ = some (.int .i64 bu) := (blk_cell hb3 1).trans rfl
                have HB2 := Aside0.mk (Below.trans HW2 (Below.mono hb2 HW2.size))
                clear hblk hb3 hb2 HW2 hsz
                generalize wr.heap.size = g at x0 x1 ⊢
                by_cases q1 : nu = nm.toList
                · have e14 : ((⟨nu.toArray⟩ : ByteArray).toList == nm.toList) = true := by rw [Go.ByteArray.toList_eq]; exact beq_iff_eq.mpr q1
                  have e16 : (nu == nm.toList) = true := beq_iff_eq.mpr q1
                  have e17 := eq_true q1
                  by_cases q2 : n ≤ 2305843009213693952 / bu
                  · rw [if_pos ⟨q1, q2⟩] at hs
                    simp only [Prod.mk.injEq] at hs
                    obtain ⟨rfl, rfl⟩ := hs
                    have e15 : decide (n ≤ 2305843009213693952 / bu) = true := decide_eq_true q2
                    have e18 := eq_false (show ¬ (2305843009213693952 / bu < n) from Int.not_lt.2 q2)
                    clear q1 q2
                    go_wp2
                    go_ret2
                    exact ⟨rfl, HB2.out⟩
                  · rw [if_neg (fun h => q2 h.2)] at hs
                    have HS := Aside0.mk hs
                    have e15 : decide (n ≤ 2305843009213693952 / bu) = false := decide_eq_false q2
                    have e18 := eq_true (show 2305843009213693952 / bu < n from Int.not_le.1 q2)
                    clear q1 q2 hs
                    go_wp2
                    go_roundw
                    case rel => exact ⟨m + 1, HM.out, rfl, by rw [HNM.out] at HS; exact HS, HB2⟩
                    case measure => have := HM.out; simp [intOf]; omega
                · have e14 : ((⟨nu.toArray⟩ : ByteArray).toList == nm.toList) = false := by rw [Go.ByteArray.toList_eq]; exact beq_eq_false_iff_ne.mpr q1
                  have e16 : (nu == nm.toList) = false := beq_eq_false_iff_ne.mpr q1
                  have e17 := eq_false q1
                  rw [if_neg (fun h => q1 h.1)] at hs
                  have HS := Aside0.mk hs
                  clear q1 hs
                  go_wp2
                  go_roundw
                  case rel => exact ⟨m + 1, HM.out, rfl, by rw [HNM.out] at HS; exact HS, HB2⟩
                  case measure => have := HM.out; simp [intOf]; omega
              · obtain rfl : m = 7 := by omega
                have hs := HS.out
                rw [show unitRow.drop 7 = [] from rfl, spanGo] at hs
                simp only [Prod.mk.injEq] at hs
                obtain ⟨rfl, rfl⟩ := hs
                clear hlt hm
                go_wp2
                go_ret2
                exact ⟨rfl, HW.out⟩

/-! ### gongref03_Units: function 51 -/
def gongref03_Units.f  : Option (List ByteArray × List Int) := some ((([(⟨#[100]⟩ : ByteArray), (⟨#[104]⟩ : ByteArray), (⟨#[109]⟩ : ByteArray), (⟨#[115]⟩ : ByteArray), (⟨#[109, 115]⟩ : ByteArray), (⟨#[117, 115]⟩ : ByteArray), (⟨#[110, 115]⟩ : ByteArray)] : List ByteArray)), (([86400000000000, 3600000000000, 60000000000, 1000000000, 1000000, 1000, 1] : List Int)))
set_option maxHeartbeats 8000000 in
set_option maxRecDepth 100000 in
theorem gongref03_Units.calls  (r1 : List ByteArray) (r2 : List Int) (w : World) (h : gongref03_Units.f  = some (r1, r2)) :
    Calls Tryd.prog 51 #[] w fun e w' => ∃ v0_ v1_ : Value, e = .returned (.tuple #[v0_, v1_]) ∧ Kd.R Kd.string 9 w' w.heap.size (fun _ => True) v0_ r1 ∧ Kd.R (Kd.int .i64) 3 w' w.heap.size (fun _ => True) v1_ r2 ∧ Below w.heap.size w w' := by
  have HB := Aside0.mk (Below.refl w.heap.size w)
  have H : (some ((([(⟨#[100]⟩ : ByteArray), (⟨#[104]⟩ : ByteArray), (⟨#[109]⟩ : ByteArray), (⟨#[115]⟩ : ByteArray), (⟨#[109, 115]⟩ : ByteArray), (⟨#[117, 115]⟩ : ByteArray), (⟨#[110, 115]⟩ : ByteArray)] : List ByteArray)), (([86400000000000, 3600000000000, 60000000000, 1000000000, 1000000, 1000, 1] : List Int)))) = some (r1, r2) := h
  clear h
  obtain ⟨y162, hy162⟩ : ∃ y_ : List ByteArray, y_ = (([(⟨#[100]⟩ : ByteArray), (⟨#[104]⟩ : ByteArray), (⟨#[109]⟩ : ByteArray), (⟨#[115]⟩ : ByteArray), (⟨#[109, 115]⟩ : ByteArray), (⟨#[117, 115]⟩ : ByteArray), (⟨#[110, 115]⟩ : ByteArray)] : List ByteArray)) := ⟨_, rfl⟩
  replace H : (some (y162, (([86400000000000, 3600000000000, 60000000000, 1000000000, 1000000, 1000, 1] : List Int)))) = some (r1, r2) := by first | (rw [hy162]; with_reducible exact H) | (have H2_ := (Option.bind_some _ _).symm.trans H; rw [hy162]; with_reducible exact H2_) | (have H2_ := (Option.bind_some _ _).symm.trans H; with_reducible exact H2_) | with_reducible exact H | (rw [hy162]; exact H) | exact H
  have Ny162 := Aside0.mk hy162
  clear hy162
  obtain ⟨y165, hy165⟩ : ∃ y_ : List Int, y_ = (([86400000000000, 3600000000000, 60000000000, 1000000000, 1000000, 1000, 1] : List Int)) := ⟨_, rfl⟩
  replace H : (some (y162, y165)) = some (r1, r2) := by first | (rw [hy165]; with_reducible exact H) | (have H2_ := (Option.bind_some _ _).symm.trans H; rw [hy165]; with_reducible exact H2_) | (have H2_ := (Option.bind_some _ _).symm.trans H; with_reducible exact H2_) | with_reducible exact H | (rw [hy165]; exact H) | exact H
  have Ny165 := Aside0.mk hy165
  clear hy165
  simp only [Option.some.injEq, Prod.mk.injEq] at H
  obtain ⟨rfl, rfl⟩ := H
  go_enter Tryd.func51, Tryd.ntmps51
  go_wp2_with (first | ((with_reducible refine gate_dst (N := 2) rfl ?_); refine Kd.R_lit Kd.string _ 9 ?hg (N := 2) ?hd (xs := ([(⟨#[100]⟩ : ByteArray), (⟨#[104]⟩ : ByteArray), (⟨#[109]⟩ : ByteArray), (⟨#[115]⟩ : ByteArray), (⟨#[109, 115]⟩ : ByteArray), (⟨#[117, 115]⟩ : ByteArray), (⟨#[110, 115]⟩ : ByteArray)] : List ByteArray)) (inner := [.string (⟨#[100]⟩ : ByteArray), .string (⟨#[104]⟩ : ByteArray), .string (⟨#[109]⟩ : ByteArray), .string (⟨#[115]⟩ : ByteArray), .string (⟨#[109, 115]⟩ : ByteArray), .string (⟨#[117, 115]⟩ : ByteArray), .string (⟨#[110, 115]⟩ : ByteArray)]) (ok := fun _ => True) (okp := fun _ => True) ?hr ?hp (fun _ hk => hk) trivial (Below.refl _ _) (Nat.le_refl _) (by simp) ?_; (case hd => rfl); (case hg => rfl); (case hr => first | (go_simp; done) | (go_simp; rfl)); (case hp => exact (Reps.one (show Kd.M Kd.string _ _ _ (⟨#[100]⟩ : ByteArray) [.string (⟨#[100]⟩ : ByteArray)] from rfl) (Reps.one (show Kd.M Kd.string _ _ _ (⟨#[104]⟩ : ByteArray) [.string (⟨#[104]⟩ : ByteArray)] from rfl) (Reps.one (show Kd.M Kd.string _ _ _ (⟨#[109]⟩ : ByteArray) [.string (⟨#[109]⟩ : ByteArray)] from rfl) (Reps.one (show Kd.M Kd.string _ _ _ (⟨#[115]⟩ : ByteArray) [.string (⟨#[115]⟩ : ByteArray)] from rfl) (Reps.one (show Kd.M Kd.string _ _ _ (⟨#[109, 115]⟩ : ByteArray) [.string (⟨#[109, 115]⟩ : ByteArray)] from rfl) (Reps.one (show Kd.M Kd.string _ _ _ (⟨#[117, 115]⟩ : ByteArray) [.string (⟨#[117, 115]⟩ : ByteArray)] from rfl) (Reps.one (show Kd.M Kd.string _ _ _ (⟨#[110, 115]⟩ : ByteArray) [.string (⟨#[110, 115]⟩ : ByteArray)] from rfl) (Reps.none _ _))))))))); intro v163 w1 ho2 hb hg_ hnew_; clear hg_ hnew_; (first | rw [← Ny162.out] at ho2 | (simp only [Int.reduceToNat] at ho2; rw [← Ny162.out] at ho2)); have n0_ := Aside0.mk (Kd.R_lower ho2 (below_size (by repeat (first | (with_reducible first | exact HB.out | apply below_alloc | apply pw_below_drewN | apply below_drew1) | exact HB.out)))); have n1_ := Aside0.mk (below_step (by repeat (first | (with_reducible first | exact HB.out | apply below_alloc | apply pw_below_drewN | apply below_drew1) | exact HB.out)) hb); clear HB; have HO164 := n0_; have HB := n1_; clear n0_ n1_; clear hb ho2) | ((with_reducible refine gate_dst (N := 3) rfl ?_); refine Kd.R_lit (Kd.int .i64) _ 3 ?hg (N := 3) ?hd (xs := ([86400000000000, 3600000000000, 60000000000, 1000000000, 1000000, 1000, 1] : List Int)) (inner := [.int .i64 86400000000000, .int .i64 3600000000000, .int .i64 60000000000, .int .i64 1000000000, .int .i64 1000000, .int .i64 1000, .int .i64 1]) (ok := fun _ => True) (okp := fun _ => True) ?hr ?hp (fun _ hk => hk) trivial (Below.refl _ _) (Nat.le_refl _) (by simp) ?_; (case hd => rfl); (case hg => rfl); (case hr => first | (go_simp; done) | (go_simp; rfl)); (case hp => exact (Reps.one (show Kd.M (Kd.int .i64) _ _ _ 86400000000000 [.int .i64 86400000000000] from rfl) (Reps.one (show Kd.M (Kd.int .i64) _ _ _ 3600000000000 [.int .i64 3600000000000] from rfl) (Reps.one (show Kd.M (Kd.int .i64) _ _ _ 60000000000 [.int .i64 60000000000] from rfl) (Reps.one (show Kd.M (Kd.int .i64) _ _ _ 1000000000 [.int .i64 1000000000] from rfl) (Reps.one (show Kd.M (Kd.int .i64) _ _ _ 1000000 [.int .i64 1000000] from rfl) (Reps.one (show Kd.M (Kd.int .i64) _ _ _ 1000 [.int .i64 1000] from rfl) (Reps.one (show Kd.M (Kd.int .i64) _ _ _ 1 [.int .i64 1] from rfl) (Reps.none _ _))))))))); intro v166 w3 ho4 hb hg_ hnew_; clear hg_ hnew_; (first | rw [← Ny165.out] at ho4 | (simp only [Int.reduceToNat] at ho4; rw [← Ny165.out] at ho4)); have n0_ := Aside0.mk (Kd.R_below (by (with_reducible repeat (first | apply Kd.R_alloc | apply Kd.R_drewN | apply Kd.R_drew)); exact HO164.out) hb); have n1_ := Aside0.mk (Kd.R_lower ho4 (below_size (by repeat (first | (with_reducible first | exact HB.out | apply below_alloc | apply pw_below_drewN | apply below_drew1) | exact HB.out)))); have n2_ := Aside0.mk (below_step (by repeat (first | (with_reducible first | exact HB.out | apply below_alloc | apply pw_below_drewN | apply below_drew1) | exact HB.out)) hb); clear HO164; clear HB; have HO164 := n0_; have HO167 := n1_; have HB := n2_; clear n0_ n1_ n2_; clear hb ho4))
  go_ret2
  exact ⟨_, _, by first | rfl | (simp [errW_none, errW_some] <;> rfl) | (simp [*, errW_none, errW_some] <;> rfl), by (with_reducible repeat (first | apply Kd.R_alloc | apply Kd.R_drewN | apply Kd.R_drew)); exact HO164.out, by (with_reducible repeat (first | apply Kd.R_alloc | apply Kd.R_drewN | apply Kd.R_drew)); exact HO167.out, by repeat (first | (with_reducible first | exact HB.out | apply below_alloc | apply pw_below_drewN | apply below_drew1) | exact HB.out)⟩

end Go.Proofs.YtjcenencgnfffaaDoor.XStR
