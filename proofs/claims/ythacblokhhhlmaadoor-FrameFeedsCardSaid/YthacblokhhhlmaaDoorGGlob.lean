/- What the listed tables hold, and that it stays. -/
import Derived.Lib.LaidTab
import Derived.Lib.ItoaNum
import Derived.FnData
import Derived.WalkSmall
import Derived.Lib.AppendIntMem
import Derived.Shelf.Vars
import Derived.Shelf.Strings.SlTrimAscii
import Derived.Below
import Derived.Test.YthacblokhhhlmaaDoorProg
namespace Gong
open Go Go.Proofs Go.RowKit
set_option linter.unusedSimpArgs false
theorem gl_g : Tryd.prog.globalNamed "internal/strconv.uint64pow10" = some 0 := by kernel_rfl
theorem tab_below {w w' : World} (h : Lib.TabIs Tryd.prog w "internal/strconv.uint64pow10" .u64 Lib.pow10Tab) (hb : Below w.heap.size w w') : Lib.TabIs Tryd.prog w' "internal/strconv.uint64pow10" .u64 Lib.pow10Tab := by
  have h' : w.var? Tryd.prog "internal/strconv.uint64pow10" = some _ := h
  refine var?_below hb gl_g ?_ h'
  have hc := World.var?_cell gl_g h' 0
  rw [show ((Lib.pow10Tab.map fun z => Value.int .u64 z).toArray)[0]? = some (.int .u64 1) from rfl] at hc
  unfold World.cell? at hc
  cases hg : w.heap[0]? with
  | none => simp [hg] at hc
  | some o => exact (Array.getElem?_eq_some_iff.1 hg).1
structure Gl (w : World) : Prop where
  tab : Lib.TabIs Tryd.prog w "internal/strconv.uint64pow10" .u64 Lib.pow10Tab
theorem Gl.below {w w' : World} (h : Gl w) (hb : Below w.heap.size w w') : Gl w' := ⟨tab_below h.tab hb⟩
end Gong
