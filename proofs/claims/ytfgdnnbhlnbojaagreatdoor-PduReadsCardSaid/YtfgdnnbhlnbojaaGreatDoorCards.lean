/-
  DERIVED. GIVEN WITH THE SEED: THE CARDS: each row of YtfgdnnbhlnbojaaGreatDoorRows.lean that lists a variable, with what it lists TIED to the program's text (the seventh form; the later family's looks); each row that meets fmt, with fmt's text TOLD by the authors' own Lean function (tested against real Go, not proved from fmt's source: count such statements apart). THE CARD IS WHAT COUNTS. Prove the row's statement (the work); the ties are given (YtfgdnnbhlnbojaaGreatDoorTie.lean); close each card by the builder's one call (the guide's Derived/Test/ToyasCard.lean, 'card_holds'). Laid BY PROGRAM, IN A SANDBOX (cutbox-door.mjs). By AI agents, Wed Nov 11 2026. No macro, syntax, notation, axiom, sorry.
-/
import Derived.Test.YtfgdnnbhlnbojaaGreatDoorRows
import GoSem.ClaimSeven
namespace Go.Proofs.YtfgdnnbhlnbojaaGreatDoor
namespace Rows

/-- THE TIED CARD OF 'gonglaw08.PduWrites'. -/
def pduWritesCard : Claim7 := { stood := { row := pduWritesRow, standIns := [], harness := (true, "96f7b9f353c25a804ec5e1fa8b578c09670228f05f3f73c6903ab7cebb1a25b4"), looks := true }, kinds := [], alts := [], laidByText := true, laidKinds := [.data, .data, .data, .data, .sentinel, .sentinel, .pinned], laidTests := true, laidLooks := .later }
def PduWritesCardSaid : Prop := Claim7.holds Tryz.pinned (.plain (OpenSpec.ofChange pduWritesSpec)) pduWritesCard

/-- THE TIED CARD OF 'gonglaw08.PduReads'. -/
def pduReadsCard : Claim7 := { stood := { row := pduReadsRow, standIns := [], harness := (true, "96f7b9f353c25a804ec5e1fa8b578c09670228f05f3f73c6903ab7cebb1a25b4"), looks := true }, kinds := [], alts := [], laidByText := true, laidKinds := [.data, .data, .data, .data, .sentinel, .sentinel, .pinned], laidTests := true, laidLooks := .later }
def PduReadsCardSaid : Prop := Claim7.holds Tryz.pinned (.plain (OpenSpec.ofChange pduReadsSpec)) pduReadsCard

/-- THE SECOND FORM's CARD OF 'gonglaw08.PduWrites'. -/
def pduWritesUptoCard : Claim7 := { stood := { row := pduWritesUptoRow, standIns := [], harness := (true, "96f7b9f353c25a804ec5e1fa8b578c09670228f05f3f73c6903ab7cebb1a25b4"), looks := true }, kinds := [], alts := [], laidByText := true, laidKinds := [.data, .data, .data, .data, .sentinel, .sentinel, .pinned], laidTests := true, laidLooks := .later }
def PduWritesUptoCardSaid : Prop := Claim7.holds Tryz.pinned (.plain (OpenSpec.upto pduWritesSpec)) pduWritesUptoCard

/-- THE SECOND FORM's CARD OF 'gonglaw08.PduReads'. -/
def pduReadsUptoCard : Claim7 := { stood := { row := pduReadsUptoRow, standIns := [], harness := (true, "96f7b9f353c25a804ec5e1fa8b578c09670228f05f3f73c6903ab7cebb1a25b4"), looks := true }, kinds := [], alts := [], laidByText := true, laidKinds := [.data, .data, .data, .data, .sentinel, .sentinel, .pinned], laidTests := true, laidLooks := .later }
def PduReadsUptoCardSaid : Prop := Claim7.holds Tryz.pinned (.plain (OpenSpec.upto pduReadsSpec)) pduReadsUptoCard
end Rows
end Go.Proofs.YtfgdnnbhlnbojaaGreatDoor
