/-
  DERIVED. GIVEN WITH THE SEED: THE CARDS: each row of YtfmhghlmljlfgaaGreatDoorRows.lean that lists a variable, with what it lists TIED to the program's text (the seventh form; the later family's looks); each row that meets fmt, with fmt's text TOLD by the authors' own Lean function (tested against real Go, not proved from fmt's source: count such statements apart). THE CARD IS WHAT COUNTS. Prove the row's statement (the work); the ties are given (YtfmhghlmljlfgaaGreatDoorTie.lean); close each card by the builder's one call (the guide's Derived/Test/ToyasCard.lean, 'card_holds'). Laid BY PROGRAM, IN A SANDBOX (cutbox-door.mjs). By AI agents, Wed Nov 11 2026. No macro, syntax, notation, axiom, sorry.
-/
import Derived.Test.YtfmhghlmljlfgaaGreatDoorRows
import GoSem.ClaimSeven
namespace Go.Proofs.YtfmhghlmljlfgaaGreatDoor
namespace Rows

/-- THE TIED CARD OF 'gonglaw09.TrapBack'. -/
def trapBackCard : Claim7 := { stood := { row := trapBackRow, standIns := [], harness := (true, "aadd058a59a68cdece7bb345c00563cf5a4b9b819ec1dbd00609006f6024bee4"), looks := true }, kinds := [], alts := [], laidByText := true, laidKinds := [.data, .data, .data, .data, .sentinel, .sentinel, .pinned], laidTests := true, laidLooks := .later }
def TrapBackCardSaid : Prop := Claim7.holds Tryz.pinned (.plain (OpenSpec.ofChange trapBackSpec)) trapBackCard

/-- THE TIED CARD OF 'gonglaw09.TrapSame'. -/
def trapSameCard : Claim7 := { stood := { row := trapSameRow, standIns := [], harness := (true, "aadd058a59a68cdece7bb345c00563cf5a4b9b819ec1dbd00609006f6024bee4"), looks := true }, kinds := [], alts := [], laidByText := true, laidKinds := [.data, .data, .data, .data, .sentinel, .sentinel, .pinned], laidTests := true, laidLooks := .later }
def TrapSameCardSaid : Prop := Claim7.holds Tryz.pinned (.plain (OpenSpec.ofChange trapSameSpec)) trapSameCard

/-- THE TIED CARD OF 'gonglaw09.TrapAnswer'. -/
def trapAnswerCard : Claim7 := { stood := { row := trapAnswerRow, standIns := [], harness := (true, "aadd058a59a68cdece7bb345c00563cf5a4b9b819ec1dbd00609006f6024bee4"), looks := true }, kinds := [], alts := [], laidByText := true, laidKinds := [.data, .data, .data, .data, .sentinel, .sentinel, .pinned], laidTests := true, laidLooks := .later }
def TrapAnswerCardSaid : Prop := Claim7.holds Tryz.pinned (.plain (OpenSpec.ofChange trapAnswerSpec)) trapAnswerCard

/-- THE SECOND FORM's CARD OF 'gonglaw09.TrapBack'. -/
def trapBackUptoCard : Claim7 := { stood := { row := trapBackUptoRow, standIns := [], harness := (true, "aadd058a59a68cdece7bb345c00563cf5a4b9b819ec1dbd00609006f6024bee4"), looks := true }, kinds := [], alts := [], laidByText := true, laidKinds := [.data, .data, .data, .data, .sentinel, .sentinel, .pinned], laidTests := true, laidLooks := .later }
def TrapBackUptoCardSaid : Prop := Claim7.holds Tryz.pinned (.plain (OpenSpec.upto trapBackSpec)) trapBackUptoCard

/-- THE SECOND FORM's CARD OF 'gonglaw09.TrapSame'. -/
def trapSameUptoCard : Claim7 := { stood := { row := trapSameUptoRow, standIns := [], harness := (true, "aadd058a59a68cdece7bb345c00563cf5a4b9b819ec1dbd00609006f6024bee4"), looks := true }, kinds := [], alts := [], laidByText := true, laidKinds := [.data, .data, .data, .data, .sentinel, .sentinel, .pinned], laidTests := true, laidLooks := .later }
def TrapSameUptoCardSaid : Prop := Claim7.holds Tryz.pinned (.plain (OpenSpec.upto trapSameSpec)) trapSameUptoCard

/-- THE SECOND FORM's CARD OF 'gonglaw09.TrapAnswer'. -/
def trapAnswerUptoCard : Claim7 := { stood := { row := trapAnswerUptoRow, standIns := [], harness := (true, "aadd058a59a68cdece7bb345c00563cf5a4b9b819ec1dbd00609006f6024bee4"), looks := true }, kinds := [], alts := [], laidByText := true, laidKinds := [.data, .data, .data, .data, .sentinel, .sentinel, .pinned], laidTests := true, laidLooks := .later }
def TrapAnswerUptoCardSaid : Prop := Claim7.holds Tryz.pinned (.plain (OpenSpec.upto trapAnswerSpec)) trapAnswerUptoCard
end Rows
end Go.Proofs.YtfmhghlmljlfgaaGreatDoor
