/-
  No cell of these rows narrows 'for every input' (looked for: loops, veiled, ifaces, maps, wideKeys, modest, calm, conditions, laid).
  DERIVED. THE GIVEN ROWS OF THIS SEAT. 10 by the template 'for every input the law returns true; each argument reads behind the call as it read before'; 0 by the template 'total and deterministic' (their statements: YteidlffajcogcaaTotals.lean).
  GIVEN WITH THE SEED: the statements are not yours to turn. If you find one false, say at which input.
  Laid BY PROGRAM, IN A SANDBOX (cutbox-rows.mjs): the forced cells as the released guide's own fill.sh prints them over the translation 32937a128a4869d0… (all of the seat's roots in one cut). By AI agents, Wed Nov 11 2026. No macro, syntax, notation, axiom, sorry.
-/
import Derived.Test.YteidlffajcogcaaChecked
import GoSem.Claim
import GoSem.ClaimJoined
import GoSem.ClaimMapViews
import Derived.JoinedTies
import Derived.KernelRfl
namespace Go.Proofs.Yteidlffajcogcaa
/- THE CELL 'sum', in the pinned program and in every row, IS THE sha256 OF THE DUMP (.gsa) THAT YteidlffajcogcaaProg.lean LOADS. Nothing in Lean hashes anything: it is a label: what it is worth is what the hold of that sum in a sandbox is worth. -/
noncomputable def Try.pinned : Pinned := { name := "yteidlffajcogcaa", sum := "32937a128a4869d03fcf104452923496f0878221a2bbb9138ba2e0113c4b4499", checked := Try.checked }
namespace Rows
def none {H : Type} : Left H := { results := [], args := [] }

/-- 'gonglaw12.FrameCuts': WHATEVER THE INPUT: true; the input reads as it did. -/
def frameCutsSpec : ChangeSpec := { name := "frameCuts", fn := fun _ => fun
  | [d1, d2, d3] => { results := [.lit (.bool true)], args := [d1, d2, d3] }
  | _ => none }
def frameCutsRow : OpenClaim := { program := "yteidlffajcogcaa", sum := "32937a128a4869d03fcf104452923496f0878221a2bbb9138ba2e0113c4b4499", func := "gong/gonglaw12.FrameCuts", spec := "frameCuts", apart := false }
def FrameCutsSaid : Prop := frameCutsRow.holds Try.pinned (OpenSpec.ofChange frameCutsSpec)

/-- ITS FALSE NEIGHBOUR: 'it returns false'. Refute it at one input. -/
def frameCutsWrong : ChangeSpec := { name := "frameCuts", fn := fun _ => fun
  | [d1, d2, d3] => { results := [.lit (.bool false)], args := [d1, d2, d3] }
  | _ => none }
def FrameCutsWrongFalsely : Prop := frameCutsRow.holds Try.pinned (OpenSpec.ofChange frameCutsWrong)

/-- 'gonglaw13.GlobBoth': WHATEVER THE INPUT: true; the input reads as it did. -/
def globBothSpec : ChangeSpec := { name := "globBoth", fn := fun _ => fun
  | [d1, d2, d3] => { results := [.lit (.bool true)], args := [d1, d2, d3] }
  | _ => none }
def globBothRow : OpenClaim := { program := "yteidlffajcogcaa", sum := "32937a128a4869d03fcf104452923496f0878221a2bbb9138ba2e0113c4b4499", func := "gong/gonglaw13.GlobBoth", spec := "globBoth", apart := false }
def GlobBothSaid : Prop := globBothRow.holds Try.pinned (OpenSpec.ofChange globBothSpec)

/-- ITS FALSE NEIGHBOUR: 'it returns false'. Refute it at one input. -/
def globBothWrong : ChangeSpec := { name := "globBoth", fn := fun _ => fun
  | [d1, d2, d3] => { results := [.lit (.bool false)], args := [d1, d2, d3] }
  | _ => none }
def GlobBothWrongFalsely : Prop := globBothRow.holds Try.pinned (OpenSpec.ofChange globBothWrong)

/-- 'gonglaw13.GlobEscape': WHATEVER THE INPUT: true; the input reads as it did. -/
def globEscapeSpec : ChangeSpec := { name := "globEscape", fn := fun _ => fun
  | [d1, d2] => { results := [.lit (.bool true)], args := [d1, d2] }
  | _ => none }
def globEscapeRow : OpenClaim := { program := "yteidlffajcogcaa", sum := "32937a128a4869d03fcf104452923496f0878221a2bbb9138ba2e0113c4b4499", func := "gong/gonglaw13.GlobEscape", spec := "globEscape", inPlace := ["internal/bytealg.IndexByteString", "internal/abi.NoEscape"], apart := false }
def GlobEscapeSaid : Prop := globEscapeRow.holds Try.pinned (OpenSpec.ofChange globEscapeSpec)

/-- ITS FALSE NEIGHBOUR: 'it returns false'. Refute it at one input. -/
def globEscapeWrong : ChangeSpec := { name := "globEscape", fn := fun _ => fun
  | [d1, d2] => { results := [.lit (.bool false)], args := [d1, d2] }
  | _ => none }
def GlobEscapeWrongFalsely : Prop := globEscapeRow.holds Try.pinned (OpenSpec.ofChange globEscapeWrong)

/-- 'gonglaw13.GlobMatches': WHATEVER THE INPUT: true; the input reads as it did. -/
def globMatchesSpec : ChangeSpec := { name := "globMatches", fn := fun _ => fun
  | [d1, d2] => { results := [.lit (.bool true)], args := [d1, d2] }
  | _ => none }
def globMatchesRow : OpenClaim := { program := "yteidlffajcogcaa", sum := "32937a128a4869d03fcf104452923496f0878221a2bbb9138ba2e0113c4b4499", func := "gong/gonglaw13.GlobMatches", spec := "globMatches", inPlace := ["internal/bytealg.IndexByteString", "internal/abi.NoEscape"], apart := false }
def GlobMatchesSaid : Prop := globMatchesRow.holds Try.pinned (OpenSpec.ofChange globMatchesSpec)

/-- ITS FALSE NEIGHBOUR: 'it returns false'. Refute it at one input. -/
def globMatchesWrong : ChangeSpec := { name := "globMatches", fn := fun _ => fun
  | [d1, d2] => { results := [.lit (.bool false)], args := [d1, d2] }
  | _ => none }
def GlobMatchesWrongFalsely : Prop := globMatchesRow.holds Try.pinned (OpenSpec.ofChange globMatchesWrong)

/-- 'gonglaw05.BerDeep': WHATEVER THE INPUT: true; the input reads as it did. -/
def berDeepSpec : ChangeSpec := { name := "berDeep", fn := fun _ => fun
  | [d1, d2] => { results := [.lit (.bool true)], args := [d1, d2] }
  | _ => none }
def berDeepRow : OpenClaim := { program := "yteidlffajcogcaa", sum := "32937a128a4869d03fcf104452923496f0878221a2bbb9138ba2e0113c4b4499", func := "gong/gonglaw05.BerDeep", spec := "berDeep", inPlace := ["internal/abi.NoEscape"], apart := false }
def BerDeepSaid : Prop := berDeepRow.holds Try.pinned (OpenSpec.ofChange berDeepSpec)

/-- ITS FALSE NEIGHBOUR: 'it returns false'. Refute it at one input. -/
def berDeepWrong : ChangeSpec := { name := "berDeep", fn := fun _ => fun
  | [d1, d2] => { results := [.lit (.bool false)], args := [d1, d2] }
  | _ => none }
def BerDeepWrongFalsely : Prop := berDeepRow.holds Try.pinned (OpenSpec.ofChange berDeepWrong)

/-- 'gonglaw05.BerWrites': WHATEVER THE INPUT: true; the input reads as it did. -/
def berWritesSpec : ChangeSpec := { name := "berWrites", fn := fun _ => fun
  | [d1, d2, d3] => { results := [.lit (.bool true)], args := [d1, d2, d3] }
  | _ => none }
def berWritesRow : OpenClaim := { program := "yteidlffajcogcaa", sum := "32937a128a4869d03fcf104452923496f0878221a2bbb9138ba2e0113c4b4499", func := "gong/gonglaw05.BerWrites", spec := "berWrites", inPlace := ["internal/abi.NoEscape"], apart := false }
def BerWritesSaid : Prop := berWritesRow.holds Try.pinned (OpenSpec.ofChange berWritesSpec)

/-- ITS FALSE NEIGHBOUR: 'it returns false'. Refute it at one input. -/
def berWritesWrong : ChangeSpec := { name := "berWrites", fn := fun _ => fun
  | [d1, d2, d3] => { results := [.lit (.bool false)], args := [d1, d2, d3] }
  | _ => none }
def BerWritesWrongFalsely : Prop := berWritesRow.holds Try.pinned (OpenSpec.ofChange berWritesWrong)

/-- 'gonglaw12.FrameDead': WHATEVER THE INPUT: true; the input reads as it did. -/
def frameDeadSpec : ChangeSpec := { name := "frameDead", fn := fun _ => fun
  | [d] => { results := [.lit (.bool true)], args := [d] }
  | _ => none }
def frameDeadRow : OpenClaim := { program := "yteidlffajcogcaa", sum := "32937a128a4869d03fcf104452923496f0878221a2bbb9138ba2e0113c4b4499", func := "gong/gonglaw12.FrameDead", spec := "frameDead", inPlace := ["internal/abi.NoEscape", "internal/bytealg.MakeNoZero"], apart := false }
def FrameDeadSaid : Prop := frameDeadRow.holds Try.pinned (OpenSpec.ofChange frameDeadSpec)

/-- ITS FALSE NEIGHBOUR: 'it returns false'. Refute it at one input. -/
def frameDeadWrong : ChangeSpec := { name := "frameDead", fn := fun _ => fun
  | [d] => { results := [.lit (.bool false)], args := [d] }
  | _ => none }
def FrameDeadWrongFalsely : Prop := frameDeadRow.holds Try.pinned (OpenSpec.ofChange frameDeadWrong)

/-- 'gonglaw05.BerBack': WHATEVER THE INPUT: true; the input reads as it did. -/
def berBackSpec : ChangeSpec := { name := "berBack", fn := fun _ => fun
  | [d1, d2, d3] => { results := [.lit (.bool true)], args := [d1, d2, d3] }
  | _ => none }
def berBackRow : OpenClaim := { program := "yteidlffajcogcaa", sum := "32937a128a4869d03fcf104452923496f0878221a2bbb9138ba2e0113c4b4499", func := "gong/gonglaw05.BerBack", spec := "berBack", inPlace := ["internal/abi.NoEscape"], apart := false }
def BerBackSaid : Prop := berBackRow.holds Try.pinned (OpenSpec.ofChange berBackSpec)

/-- ITS FALSE NEIGHBOUR: 'it returns false'. Refute it at one input. -/
def berBackWrong : ChangeSpec := { name := "berBack", fn := fun _ => fun
  | [d1, d2, d3] => { results := [.lit (.bool false)], args := [d1, d2, d3] }
  | _ => none }
def BerBackWrongFalsely : Prop := berBackRow.holds Try.pinned (OpenSpec.ofChange berBackWrong)

/-- 'gonglaw05.BerCanon': WHATEVER THE INPUT: true; the input reads as it did. -/
def berCanonSpec : ChangeSpec := { name := "berCanon", fn := fun _ => fun
  | [d1, d2] => { results := [.lit (.bool true)], args := [d1, d2] }
  | _ => none }
def berCanonRow : OpenClaim := { program := "yteidlffajcogcaa", sum := "32937a128a4869d03fcf104452923496f0878221a2bbb9138ba2e0113c4b4499", func := "gong/gonglaw05.BerCanon", spec := "berCanon", inPlace := ["internal/abi.NoEscape", "internal/bytealg.MakeNoZero"], apart := false }
def BerCanonSaid : Prop := berCanonRow.holds Try.pinned (OpenSpec.ofChange berCanonSpec)

/-- ITS FALSE NEIGHBOUR: 'it returns false'. Refute it at one input. -/
def berCanonWrong : ChangeSpec := { name := "berCanon", fn := fun _ => fun
  | [d1, d2] => { results := [.lit (.bool false)], args := [d1, d2] }
  | _ => none }
def BerCanonWrongFalsely : Prop := berCanonRow.holds Try.pinned (OpenSpec.ofChange berCanonWrong)

/-- 'gonglaw13.GlobStars': WHATEVER THE INPUT: true; the input reads as it did. -/
def globStarsSpec : ChangeSpec := { name := "globStars", fn := fun _ => fun
  | [d1, d2, d3] => { results := [.lit (.bool true)], args := [d1, d2, d3] }
  | _ => none }
def globStarsRow : OpenClaim := { program := "yteidlffajcogcaa", sum := "32937a128a4869d03fcf104452923496f0878221a2bbb9138ba2e0113c4b4499", func := "gong/gonglaw13.GlobStars", spec := "globStars", inPlace := ["internal/abi.NoEscape", "internal/bytealg.MakeNoZero", "internal/bytealg.IndexByteString", "internal/bytealg.IndexString"], named := ["internal/bytealg.MaxLen"], apart := false }
def GlobStarsSaid : Prop := globStarsRow.holds Try.pinned (OpenSpec.ofChange globStarsSpec)

/-- ITS FALSE NEIGHBOUR: 'it returns false'. Refute it at one input. -/
def globStarsWrong : ChangeSpec := { name := "globStars", fn := fun _ => fun
  | [d1, d2, d3] => { results := [.lit (.bool false)], args := [d1, d2, d3] }
  | _ => none }
def GlobStarsWrongFalsely : Prop := globStarsRow.holds Try.pinned (OpenSpec.ofChange globStarsWrong)

/- THE SECOND FORM. 'bulk': how many values and letters a reading holds, each counted each time it is reached (what is shared counts as often as it is met; a slice's spare places count too). A statement '..UptoSaid' is the law's where the arguments, and the package variables that the reading takes, are together of bulk at most 1048576: NARROWER than '..Said'. Prove '..Said' where nothing that the law and all that it calls make is longer than what came in: it says more and counts as full. Else prove '..UptoSaid'. A law counts once. -/
mutual
def uptoBulk {H : Type} : DataW H → Nat
  | .lit (.string bytes) => bytes.length + 1
  | .lit _ => 1
  | .nil => 1
  | .ptr d => uptoBulk d + 1
  | .slice elems spare => uptoBulkAll elems + uptoBulkAll spare + 1
  | .agg parts => uptoBulkAll parts + 1
  | .iface _ d => uptoBulk d + 1
  | .map entries => uptoBulkEntries entries + 1
  | .held _ => 1
def uptoBulkAll {H : Type} : List (DataW H) → Nat
  | [] => 0
  | d :: r => uptoBulk d + uptoBulkAll r
def uptoBulkEntries {H : Type} : List (Lit × DataW H) → Nat
  | [] => 0
  | x :: r => uptoBulkEntry x + uptoBulkEntries r
def uptoBulkEntry {H : Type} : Lit × DataW H → Nat
  | (.string bytes, d) => bytes.length + uptoBulk d + 1
  | (_, d) => uptoBulk d + 1
 end
def uptoSmall : (H : Type) → List (DataW H) → Bool := fun _ ds => decide (uptoBulkAll ds ≤ 1048576)
def OpenSpec.upto (s : _root_.Go.ChangeSpec) : _root_.Go.OpenSpec := { _root_.Go.OpenSpec.ofChange s with cond := some uptoSmall }

/-- 'gonglaw12.FrameCuts', WHERE WHAT IT READS IS OF BULK AT MOST 1048576: true; the input reads as it did. -/
def frameCutsUptoRow : OpenClaim := { program := "yteidlffajcogcaa", sum := "32937a128a4869d03fcf104452923496f0878221a2bbb9138ba2e0113c4b4499", func := "gong/gonglaw12.FrameCuts", spec := "frameCuts", apart := false, narrowed := true }
def FrameCutsUptoSaid : Prop := frameCutsUptoRow.holds Try.pinned (OpenSpec.upto frameCutsSpec)

/-- 'gonglaw13.GlobBoth', WHERE WHAT IT READS IS OF BULK AT MOST 1048576: true; the input reads as it did. -/
def globBothUptoRow : OpenClaim := { program := "yteidlffajcogcaa", sum := "32937a128a4869d03fcf104452923496f0878221a2bbb9138ba2e0113c4b4499", func := "gong/gonglaw13.GlobBoth", spec := "globBoth", apart := false, narrowed := true }
def GlobBothUptoSaid : Prop := globBothUptoRow.holds Try.pinned (OpenSpec.upto globBothSpec)

/-- 'gonglaw13.GlobEscape', WHERE WHAT IT READS IS OF BULK AT MOST 1048576: true; the input reads as it did. -/
def globEscapeUptoRow : OpenClaim := { program := "yteidlffajcogcaa", sum := "32937a128a4869d03fcf104452923496f0878221a2bbb9138ba2e0113c4b4499", func := "gong/gonglaw13.GlobEscape", spec := "globEscape", inPlace := ["internal/bytealg.IndexByteString", "internal/abi.NoEscape"], apart := false, narrowed := true }
def GlobEscapeUptoSaid : Prop := globEscapeUptoRow.holds Try.pinned (OpenSpec.upto globEscapeSpec)

/-- 'gonglaw13.GlobMatches', WHERE WHAT IT READS IS OF BULK AT MOST 1048576: true; the input reads as it did. -/
def globMatchesUptoRow : OpenClaim := { program := "yteidlffajcogcaa", sum := "32937a128a4869d03fcf104452923496f0878221a2bbb9138ba2e0113c4b4499", func := "gong/gonglaw13.GlobMatches", spec := "globMatches", inPlace := ["internal/bytealg.IndexByteString", "internal/abi.NoEscape"], apart := false, narrowed := true }
def GlobMatchesUptoSaid : Prop := globMatchesUptoRow.holds Try.pinned (OpenSpec.upto globMatchesSpec)

/-- 'gonglaw05.BerDeep', WHERE WHAT IT READS IS OF BULK AT MOST 1048576: true; the input reads as it did. -/
def berDeepUptoRow : OpenClaim := { program := "yteidlffajcogcaa", sum := "32937a128a4869d03fcf104452923496f0878221a2bbb9138ba2e0113c4b4499", func := "gong/gonglaw05.BerDeep", spec := "berDeep", inPlace := ["internal/abi.NoEscape"], apart := false, narrowed := true }
def BerDeepUptoSaid : Prop := berDeepUptoRow.holds Try.pinned (OpenSpec.upto berDeepSpec)

/-- 'gonglaw05.BerWrites', WHERE WHAT IT READS IS OF BULK AT MOST 1048576: true; the input reads as it did. -/
def berWritesUptoRow : OpenClaim := { program := "yteidlffajcogcaa", sum := "32937a128a4869d03fcf104452923496f0878221a2bbb9138ba2e0113c4b4499", func := "gong/gonglaw05.BerWrites", spec := "berWrites", inPlace := ["internal/abi.NoEscape"], apart := false, narrowed := true }
def BerWritesUptoSaid : Prop := berWritesUptoRow.holds Try.pinned (OpenSpec.upto berWritesSpec)

/-- 'gonglaw12.FrameDead', WHERE WHAT IT READS IS OF BULK AT MOST 1048576: true; the input reads as it did. -/
def frameDeadUptoRow : OpenClaim := { program := "yteidlffajcogcaa", sum := "32937a128a4869d03fcf104452923496f0878221a2bbb9138ba2e0113c4b4499", func := "gong/gonglaw12.FrameDead", spec := "frameDead", inPlace := ["internal/abi.NoEscape", "internal/bytealg.MakeNoZero"], apart := false, narrowed := true }
def FrameDeadUptoSaid : Prop := frameDeadUptoRow.holds Try.pinned (OpenSpec.upto frameDeadSpec)

/-- 'gonglaw05.BerBack', WHERE WHAT IT READS IS OF BULK AT MOST 1048576: true; the input reads as it did. -/
def berBackUptoRow : OpenClaim := { program := "yteidlffajcogcaa", sum := "32937a128a4869d03fcf104452923496f0878221a2bbb9138ba2e0113c4b4499", func := "gong/gonglaw05.BerBack", spec := "berBack", inPlace := ["internal/abi.NoEscape"], apart := false, narrowed := true }
def BerBackUptoSaid : Prop := berBackUptoRow.holds Try.pinned (OpenSpec.upto berBackSpec)

/-- 'gonglaw05.BerCanon', WHERE WHAT IT READS IS OF BULK AT MOST 1048576: true; the input reads as it did. -/
def berCanonUptoRow : OpenClaim := { program := "yteidlffajcogcaa", sum := "32937a128a4869d03fcf104452923496f0878221a2bbb9138ba2e0113c4b4499", func := "gong/gonglaw05.BerCanon", spec := "berCanon", inPlace := ["internal/abi.NoEscape", "internal/bytealg.MakeNoZero"], apart := false, narrowed := true }
def BerCanonUptoSaid : Prop := berCanonUptoRow.holds Try.pinned (OpenSpec.upto berCanonSpec)

/-- 'gonglaw13.GlobStars', WHERE WHAT IT READS IS OF BULK AT MOST 1048576: true; the input reads as it did. -/
def globStarsUptoRow : OpenClaim := { program := "yteidlffajcogcaa", sum := "32937a128a4869d03fcf104452923496f0878221a2bbb9138ba2e0113c4b4499", func := "gong/gonglaw13.GlobStars", spec := "globStars", inPlace := ["internal/abi.NoEscape", "internal/bytealg.MakeNoZero", "internal/bytealg.IndexByteString", "internal/bytealg.IndexString"], named := ["internal/bytealg.MaxLen"], apart := false, narrowed := true }
def GlobStarsUptoSaid : Prop := globStarsUptoRow.holds Try.pinned (OpenSpec.upto globStarsSpec)

end Rows
end Go.Proofs.Yteidlffajcogcaa
