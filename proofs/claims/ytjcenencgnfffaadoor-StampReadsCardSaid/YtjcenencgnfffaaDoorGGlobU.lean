/- What the listed tables hold, and that it stays. -/
import Derived.Lib.LaidTab
import Derived.Lib.ItoaNum
import Derived.FnData
import Derived.OpenShut
import Derived.WalkSmall
import Derived.Lib.AppendIntMem
import Derived.Shelf.Vars
import Derived.Shelf.Strings.SlTrimAscii
import Derived.Below
import Derived.Test.YtjcenencgnfffaaDoorProg
namespace Gong
open Go Go.Proofs Go.RowKit
set_option linter.unusedSimpArgs false
theorem gl_g : Tryd.prog.globalNamed "internal/strconv.uint64pow10" = some 7 := by kernel_rfl
theorem tab_below {w w' : World} (h : Lib.TabIs Tryd.prog w "internal/strconv.uint64pow10" .u64 Lib.pow10Tab) (hb : Below w.heap.size w w') : Lib.TabIs Tryd.prog w' "internal/strconv.uint64pow10" .u64 Lib.pow10Tab := by
  have h' : w.var? Tryd.prog "internal/strconv.uint64pow10" = some _ := h
  refine var?_below hb gl_g ?_ h'
  have hc := World.var?_cell gl_g h' 0
  rw [show ((Lib.pow10Tab.map fun z => Value.int .u64 z).toArray)[0]? = some (.int .u64 1) from rfl] at hc
  unfold World.cell? at hc
  cases hg : w.heap[7]? with
  | none => simp [hg] at hc
  | some o => exact (Array.getElem?_eq_some_iff.1 hg).1
theorem ml_below {w w' : World} (h : ∃ m, w.cell? ⟨2, 0, none⟩ = some (.int .i64 m)) (hb : Below w.heap.size w w') : ∃ m, w'.cell? ⟨2, 0, none⟩ = some (.int .i64 m) := by
  obtain ⟨m, h⟩ := h
  refine ⟨m, (hb.cell ?_).trans h⟩
  show 2 < w.heap.size
  unfold World.cell? at h
  cases hg : w.heap[2]? with
  | none => simp [hg] at h
  | some o => exact (Array.getElem?_eq_some_iff.1 hg).1
def aheadTab : List Int := [0, 0, 31, 59, 90, 120, 151, 181, 212, 243, 273, 304, 334, 365]
theorem gl_h : Tryd.prog.globalNamed "gong/stamp.ahead" = some 1 := by kernel_rfl
theorem ahead_below {w w' : World} (h : Lib.TabIs Tryd.prog w "gong/stamp.ahead" .i64 aheadTab) (hb : Below w.heap.size w w') : Lib.TabIs Tryd.prog w' "gong/stamp.ahead" .i64 aheadTab := by
  have h' : w.var? Tryd.prog "gong/stamp.ahead" = some _ := h
  refine var?_below hb gl_h ?_ h'
  have hc := World.var?_cell gl_h h' 0
  rw [show ((aheadTab.map fun z => Value.int .i64 z).toArray)[0]? = some (.int .i64 0) from rfl] at hc
  unfold World.cell? at hc
  cases hg : w.heap[1]? with
  | none => simp [hg] at hc
  | some o => exact (Array.getElem?_eq_some_iff.1 hg).1
def unitCells : List Value := [.string ⟨#[100]⟩, .int .i64 86400000000000, .string ⟨#[104]⟩, .int .i64 3600000000000, .string ⟨#[109]⟩, .int .i64 60000000000, .string ⟨#[115]⟩, .int .i64 1000000000, .string ⟨#[109, 115]⟩, .int .i64 1000000, .string ⟨#[117, 115]⟩, .int .i64 1000, .string ⟨#[110, 115]⟩, .int .i64 1]
theorem gl_u : Tryd.prog.globalNamed "gong/stamp.units" = some 0 := by kernel_rfl
theorem units_below {w w' : World} (h : w.var? Tryd.prog "gong/stamp.units" = some unitCells.toArray) (hb : Below w.heap.size w w') : w'.var? Tryd.prog "gong/stamp.units" = some unitCells.toArray := by
  refine var?_below hb gl_u ?_ h
  have hc := World.var?_cell gl_u h 0
  rw [show (unitCells.toArray)[0]? = some (.string ⟨#[100]⟩) from rfl] at hc
  unfold World.cell? at hc
  cases hg : w.heap[0]? with
  | none => simp [hg] at hc
  | some o => exact (Array.getElem?_eq_some_iff.1 hg).1
/-- A pair of a text and a number, read as data. -/
theorem pair_cells {H : Type} {enc : TypeId × Value → H} {P : Program} {w : World} {base : Nat} {sp : Nat → Bool} {held : Bool} {fuel : Nat} {e : TypeId} {f0 f1 : Field} {cs : List Value} {s : List UInt8} {n : Int} {p : List MemPlace}
    (he : P.underlying e = some (.struct #[f0, f1])) (h0 : P.underlying f0.type = some .string) (h1 : P.underlying f1.type = some (.int .i64)) (o0 : f0.offset = 0) (o1 : f1.offset = 1) (c0 : P.cellsOf f0.type = 1) (c1 : P.cellsOf f1.type = 1)
    (h : DataW.trod enc P w base sp held fuel e cs = some (.agg [.lit (.string s), .lit (.int .i64 n)], p)) : cs[0]? = some (.string ⟨s.toArray⟩) ∧ cs[1]? = some (.int .i64 n) := by
  obtain ⟨xs, m, _, hx, hl, hxl, hf⟩ := DataW.trod_struct he h
  simp only [Prod.mk.injEq, DataW.agg.injEq] at hx
  have a0 := hf 0 f0 rfl
  have a1 := hf 1 f1 rfl
  match xs, hxl, hx with
  | [x0, x1], _, hx =>
    simp only [List.map_cons, List.map_nil, List.cons.injEq, and_true] at hx
    rw [o0, c0] at a0
    rw [o1, c1] at a1
    obtain ⟨s', e0, q0, _⟩ := DataW.trod_string h0 a0
    obtain ⟨n', e1, q1, _⟩ := DataW.trod_int h1 a1
    obtain ⟨⟨hx0, hx1⟩, _⟩ := hx
    rw [q0] at hx0
    rw [q1] at hx1
    simp only [DataW.lit.injEq, Lit.string.injEq, Lit.int.injEq, true_and] at hx0 hx1
    subst hx0; subst hx1
    refine ⟨?_, ?_⟩
    · have := congrArg (·[0]?) e0
      simpa [List.getElem?_take, List.getElem?_drop] using this
    · have := congrArg (·[0]?) e1
      simpa [List.getElem?_take, List.getElem?_drop] using this
theorem units_of_head {P : Program} {W : World} {name : String} {rest : List (String × DataW Unit)} {g : Nat} {t e : TypeId} {f0 f1 : Field}
    (hg : P.globalNamed name = some g) (hty : (P.globals[g]?).map (·.type) = some t) (ht : P.underlying t = some (.array 7 e)) (he : P.underlying e = some (.struct #[f0, f1])) (h0 : P.underlying f0.type = some .string) (h1 : P.underlying f1.type = some (.int .i64)) (o0 : f0.offset = 0) (o1 : f1.offset = 1) (c0 : P.cellsOf f0.type = 1) (c1 : P.cellsOf f1.type = 1) (hce : P.cellsOf e = 2) (hct : P.cellsOf t = 14)
    (h : laidMet P ((name, .agg [.agg [.lit (.string [100]), .lit (.int .i64 86400000000000)], .agg [.lit (.string [104]), .lit (.int .i64 3600000000000)], .agg [.lit (.string [109]), .lit (.int .i64 60000000000)], .agg [.lit (.string [115]), .lit (.int .i64 1000000000)], .agg [.lit (.string [109, 115]), .lit (.int .i64 1000000)], .agg [.lit (.string [117, 115]), .lit (.int .i64 1000)], .agg [.lit (.string [110, 115]), .lit (.int .i64 1)]]) :: rest) W) : W.var? P name = some unitCells.toArray := by
  obtain ⟨ps, ⟨g', t', cs, fuel, p, q, hg', ht', hvar, hd, _, _⟩, _⟩ := h
  obtain rfl := Option.some.inj (hg.symm.trans hg')
  obtain rfl := Option.some.inj (hty.symm.trans ht')
  rw [hvar]
  obtain ⟨xs, m, _, hx, hl, hxl, hf⟩ := DataW.trod_array ht hd
  simp only [Prod.mk.injEq, DataW.agg.injEq] at hx
  rw [hct] at hl
  rw [hce] at hf
  match xs, hxl, hx with
  | [x0, x1, x2, x3, x4, x5, x6], _, hx =>
    simp only [List.map_cons, List.map_nil, List.cons.injEq, and_true] at hx
    obtain ⟨⟨y0, y1, y2, y3, y4, y5, y6⟩, _⟩ := hx
    have z0 := pair_cells he h0 h1 o0 o1 c0 c1 (show _ = some (_, x0.2) from by rw [y0]; exact hf 0 (by omega))
    have z1 := pair_cells he h0 h1 o0 o1 c0 c1 (show _ = some (_, x1.2) from by rw [y1]; exact hf 1 (by omega))
    have z2 := pair_cells he h0 h1 o0 o1 c0 c1 (show _ = some (_, x2.2) from by rw [y2]; exact hf 2 (by omega))
    have z3 := pair_cells he h0 h1 o0 o1 c0 c1 (show _ = some (_, x3.2) from by rw [y3]; exact hf 3 (by omega))
    have z4 := pair_cells he h0 h1 o0 o1 c0 c1 (show _ = some (_, x4.2) from by rw [y4]; exact hf 4 (by omega))
    have z5 := pair_cells he h0 h1 o0 o1 c0 c1 (show _ = some (_, x5.2) from by rw [y5]; exact hf 5 (by omega))
    have z6 := pair_cells he h0 h1 o0 o1 c0 c1 (show _ = some (_, x6.2) from by rw [y6]; exact hf 6 (by omega))
    simp [List.getElem?_take, List.getElem?_drop] at z0 z1 z2 z3 z4 z5 z6
    have hs : cs.size = 14 := by simpa using hl
    congr 1
    apply Array.ext_getElem?
    intro i
    by_cases hi : i < 14
    · have : i = 0 ∨ i = 1 ∨ i = 2 ∨ i = 3 ∨ i = 4 ∨ i = 5 ∨ i = 6 ∨ i = 7 ∨ i = 8 ∨ i = 9 ∨ i = 10 ∨ i = 11 ∨ i = 12 ∨ i = 13 := by omega
      rcases this with rfl | rfl | rfl | rfl | rfl | rfl | rfl | rfl | rfl | rfl | rfl | rfl | rfl | rfl <;> first | exact z0.1 | exact z0.2 | exact z1.1 | exact z1.2 | exact z2.1 | exact z2.2 | exact z3.1 | exact z3.2 | exact z4.1 | exact z4.2 | exact z5.1 | exact z5.2 | exact z6.1 | exact z6.2
    · rw [Array.getElem?_eq_none (by omega), Array.getElem?_eq_none (by simp [unitCells]; omega)]
structure Gl (w : World) : Prop where
  tab : Lib.TabIs Tryd.prog w "internal/strconv.uint64pow10" .u64 Lib.pow10Tab
  ml : ∃ m, w.cell? ⟨2, 0, none⟩ = some (.int .i64 m)
  ahead : Lib.TabIs Tryd.prog w "gong/stamp.ahead" .i64 aheadTab
  units : w.var? Tryd.prog "gong/stamp.units" = some unitCells.toArray
theorem Gl.below {w w' : World} (h : Gl w) (hb : Below w.heap.size w w') : Gl w' := ⟨tab_below h.tab hb, ml_below h.ml hb, ahead_below h.ahead hb, units_below h.units hb⟩
end Gong
