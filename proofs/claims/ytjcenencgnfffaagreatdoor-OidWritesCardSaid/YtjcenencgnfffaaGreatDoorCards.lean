/-
  DERIVED. GIVEN WITH THE SEED: THE CARDS: each row of YtjcenencgnfffaaGreatDoorRows.lean that lists a variable, with what it lists TIED to the program's text (the seventh form; the later family's looks); each row that meets fmt, with fmt's text TOLD by the authors' own Lean function (tested against real Go, not proved from fmt's source: count such statements apart). THE CARD IS WHAT COUNTS. Prove the row's statement (the work); the ties are given (YtjcenencgnfffaaGreatDoorTie.lean); close each card by the builder's one call (the guide's Derived/Test/ToyasCard.lean, 'card_holds'). Laid BY PROGRAM, IN A SANDBOX (cutbox-door.mjs). By AI agents, Wed Nov 11 2026. No macro, syntax, notation, axiom, sorry.
-/
import Derived.Test.YtjcenencgnfffaaGreatDoorRows
import GoSem.ClaimSeven
namespace Go.Proofs.YtjcenencgnfffaaGreatDoor
namespace Rows

/-- THE TIED CARD OF 'gonglaw06.OidWrites'. -/
def oidWritesCard : Claim7 := { stood := { row := oidWritesRow, standIns := [], harness := (true, "c8965d8bf15955212a46c06bc1b0bf467cdc4ab10fca8e8c296ad9b7e23da4f9"), looks := true }, kinds := [], alts := [], laidByText := true, laidKinds := [.data, .data, .data, .data, .sentinel, .sentinel, .pinned], laidTests := true, laidLooks := .later }
def OidWritesCardSaid : Prop := Claim7.holds Tryz.pinned (.plain (OpenSpec.ofChange oidWritesSpec)) oidWritesCard

/-- THE SECOND FORM's CARD OF 'gonglaw06.OidWrites'. -/
def oidWritesUptoCard : Claim7 := { stood := { row := oidWritesUptoRow, standIns := [], harness := (true, "c8965d8bf15955212a46c06bc1b0bf467cdc4ab10fca8e8c296ad9b7e23da4f9"), looks := true }, kinds := [], alts := [], laidByText := true, laidKinds := [.data, .data, .data, .data, .sentinel, .sentinel, .pinned], laidTests := true, laidLooks := .later }
def OidWritesUptoCardSaid : Prop := Claim7.holds Tryz.pinned (.plain (OpenSpec.upto oidWritesSpec)) oidWritesUptoCard
end Rows
end Go.Proofs.YtjcenencgnfffaaGreatDoor
