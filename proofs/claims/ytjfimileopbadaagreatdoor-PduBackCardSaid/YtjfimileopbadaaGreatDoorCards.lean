/-
  DERIVED. GIVEN WITH THE SEED: THE CARDS: each row of YtjfimileopbadaaGreatDoorRows.lean that lists a variable, with what it lists TIED to the program's text (the seventh form; the later family's looks); each row that meets fmt, with fmt's text TOLD by the authors' own Lean function (tested against real Go, not proved from fmt's source: count such statements apart). THE CARD IS WHAT COUNTS. Prove the row's statement (the work); the ties are given (YtjfimileopbadaaGreatDoorTie.lean); close each card by the builder's one call (the guide's Derived/Test/ToyasCard.lean, 'card_holds'). Laid BY PROGRAM, IN A SANDBOX (cutbox-door.mjs). By AI agents, Wed Nov 11 2026. No macro, syntax, notation, axiom, sorry.
-/
import Derived.Test.YtjfimileopbadaaGreatDoorRows
import GoSem.ClaimSeven
namespace Go.Proofs.YtjfimileopbadaaGreatDoor
namespace Rows

/-- THE TIED CARD OF 'gonglaw08.PduWrites'. -/
def pduWritesCard : Claim7 := { stood := { row := pduWritesRow, standIns := [], harness := (true, "16caaa6ec316d5a5b8975a97c0482f94da3fc60e064aaff5080661cd2b0fc76d"), looks := true }, kinds := [], alts := [], laidByText := true, laidKinds := [.data, .data, .data, .data, .sentinel, .sentinel, .pinned], laidTests := true, laidLooks := .later }
def PduWritesCardSaid : Prop := Claim7.holds Tryz.pinned (.plain (OpenSpec.ofChange pduWritesSpec)) pduWritesCard

/-- THE TIED CARD OF 'gonglaw08.PduFind'. -/
def pduFindCard : Claim7 := { stood := { row := pduFindRow, standIns := [], harness := (true, "16caaa6ec316d5a5b8975a97c0482f94da3fc60e064aaff5080661cd2b0fc76d"), looks := true }, kinds := [], alts := [], laidByText := true, laidKinds := [.data, .data, .data, .data, .sentinel, .sentinel, .pinned], laidTests := true, laidLooks := .later }
def PduFindCardSaid : Prop := Claim7.holds Tryz.pinned (.plain (OpenSpec.ofChange pduFindSpec)) pduFindCard

/-- THE TIED CARD OF 'gonglaw08.PduReads'. -/
def pduReadsCard : Claim7 := { stood := { row := pduReadsRow, standIns := [], harness := (true, "16caaa6ec316d5a5b8975a97c0482f94da3fc60e064aaff5080661cd2b0fc76d"), looks := true }, kinds := [], alts := [], laidByText := true, laidKinds := [.data, .data, .data, .data, .sentinel, .sentinel, .pinned], laidTests := true, laidLooks := .later }
def PduReadsCardSaid : Prop := Claim7.holds Tryz.pinned (.plain (OpenSpec.ofChange pduReadsSpec)) pduReadsCard

/-- THE TIED CARD OF 'gonglaw08.PduBack'. -/
def pduBackCard : Claim7 := { stood := { row := pduBackRow, standIns := [], harness := (true, "16caaa6ec316d5a5b8975a97c0482f94da3fc60e064aaff5080661cd2b0fc76d"), looks := true }, kinds := [], alts := [], laidByText := true, laidKinds := [.data, .data, .data, .data, .sentinel, .sentinel, .pinned], laidTests := true, laidLooks := .later }
def PduBackCardSaid : Prop := Claim7.holds Tryz.pinned (.plain (OpenSpec.ofChange pduBackSpec)) pduBackCard

/-- THE TIED CARD OF 'gonglaw07.ValueWrites'. -/
def valueWritesCard : Claim7 := { stood := { row := valueWritesRow, standIns := [], harness := (true, "16caaa6ec316d5a5b8975a97c0482f94da3fc60e064aaff5080661cd2b0fc76d"), looks := true }, kinds := [], alts := [], laidByText := true, laidKinds := [.data, .data, .data, .data, .sentinel, .sentinel, .pinned], laidTests := true, laidLooks := .later }
def ValueWritesCardSaid : Prop := Claim7.holds Tryz.pinned (.plain (OpenSpec.ofChange valueWritesSpec)) valueWritesCard

/-- THE TIED CARD OF 'gonglaw07.ValueBig'. -/
def valueBigCard : Claim7 := { stood := { row := valueBigRow, standIns := [], harness := (true, "16caaa6ec316d5a5b8975a97c0482f94da3fc60e064aaff5080661cd2b0fc76d"), looks := true }, kinds := [], alts := [], laidByText := true, laidKinds := [.data, .data, .data, .data, .sentinel, .sentinel, .pinned], laidTests := true, laidLooks := .later }
def ValueBigCardSaid : Prop := Claim7.holds Tryz.pinned (.plain (OpenSpec.ofChange valueBigSpec)) valueBigCard

/-- THE TIED CARD OF 'gonglaw07.ValueReads'. -/
def valueReadsCard : Claim7 := { stood := { row := valueReadsRow, standIns := [], harness := (true, "16caaa6ec316d5a5b8975a97c0482f94da3fc60e064aaff5080661cd2b0fc76d"), looks := true }, kinds := [], alts := [], laidByText := true, laidKinds := [.data, .data, .data, .data, .sentinel, .sentinel, .pinned], laidTests := true, laidLooks := .later }
def ValueReadsCardSaid : Prop := Claim7.holds Tryz.pinned (.plain (OpenSpec.ofChange valueReadsSpec)) valueReadsCard

/-- THE TIED CARD OF 'gonglaw07.ValueBack'. -/
def valueBackCard : Claim7 := { stood := { row := valueBackRow, standIns := [], harness := (true, "16caaa6ec316d5a5b8975a97c0482f94da3fc60e064aaff5080661cd2b0fc76d"), looks := true }, kinds := [], alts := [], laidByText := true, laidKinds := [.data, .data, .data, .data, .sentinel, .sentinel, .pinned], laidTests := true, laidLooks := .later }
def ValueBackCardSaid : Prop := Claim7.holds Tryz.pinned (.plain (OpenSpec.ofChange valueBackSpec)) valueBackCard

/-- THE SECOND FORM's CARD OF 'gonglaw08.PduWrites'. -/
def pduWritesUptoCard : Claim7 := { stood := { row := pduWritesUptoRow, standIns := [], harness := (true, "16caaa6ec316d5a5b8975a97c0482f94da3fc60e064aaff5080661cd2b0fc76d"), looks := true }, kinds := [], alts := [], laidByText := true, laidKinds := [.data, .data, .data, .data, .sentinel, .sentinel, .pinned], laidTests := true, laidLooks := .later }
def PduWritesUptoCardSaid : Prop := Claim7.holds Tryz.pinned (.plain (OpenSpec.upto pduWritesSpec)) pduWritesUptoCard

/-- THE SECOND FORM's CARD OF 'gonglaw08.PduFind'. -/
def pduFindUptoCard : Claim7 := { stood := { row := pduFindUptoRow, standIns := [], harness := (true, "16caaa6ec316d5a5b8975a97c0482f94da3fc60e064aaff5080661cd2b0fc76d"), looks := true }, kinds := [], alts := [], laidByText := true, laidKinds := [.data, .data, .data, .data, .sentinel, .sentinel, .pinned], laidTests := true, laidLooks := .later }
def PduFindUptoCardSaid : Prop := Claim7.holds Tryz.pinned (.plain (OpenSpec.upto pduFindSpec)) pduFindUptoCard

/-- THE SECOND FORM's CARD OF 'gonglaw08.PduReads'. -/
def pduReadsUptoCard : Claim7 := { stood := { row := pduReadsUptoRow, standIns := [], harness := (true, "16caaa6ec316d5a5b8975a97c0482f94da3fc60e064aaff5080661cd2b0fc76d"), looks := true }, kinds := [], alts := [], laidByText := true, laidKinds := [.data, .data, .data, .data, .sentinel, .sentinel, .pinned], laidTests := true, laidLooks := .later }
def PduReadsUptoCardSaid : Prop := Claim7.holds Tryz.pinned (.plain (OpenSpec.upto pduReadsSpec)) pduReadsUptoCard

/-- THE SECOND FORM's CARD OF 'gonglaw08.PduBack'. -/
def pduBackUptoCard : Claim7 := { stood := { row := pduBackUptoRow, standIns := [], harness := (true, "16caaa6ec316d5a5b8975a97c0482f94da3fc60e064aaff5080661cd2b0fc76d"), looks := true }, kinds := [], alts := [], laidByText := true, laidKinds := [.data, .data, .data, .data, .sentinel, .sentinel, .pinned], laidTests := true, laidLooks := .later }
def PduBackUptoCardSaid : Prop := Claim7.holds Tryz.pinned (.plain (OpenSpec.upto pduBackSpec)) pduBackUptoCard

/-- THE SECOND FORM's CARD OF 'gonglaw07.ValueWrites'. -/
def valueWritesUptoCard : Claim7 := { stood := { row := valueWritesUptoRow, standIns := [], harness := (true, "16caaa6ec316d5a5b8975a97c0482f94da3fc60e064aaff5080661cd2b0fc76d"), looks := true }, kinds := [], alts := [], laidByText := true, laidKinds := [.data, .data, .data, .data, .sentinel, .sentinel, .pinned], laidTests := true, laidLooks := .later }
def ValueWritesUptoCardSaid : Prop := Claim7.holds Tryz.pinned (.plain (OpenSpec.upto valueWritesSpec)) valueWritesUptoCard

/-- THE SECOND FORM's CARD OF 'gonglaw07.ValueBig'. -/
def valueBigUptoCard : Claim7 := { stood := { row := valueBigUptoRow, standIns := [], harness := (true, "16caaa6ec316d5a5b8975a97c0482f94da3fc60e064aaff5080661cd2b0fc76d"), looks := true }, kinds := [], alts := [], laidByText := true, laidKinds := [.data, .data, .data, .data, .sentinel, .sentinel, .pinned], laidTests := true, laidLooks := .later }
def ValueBigUptoCardSaid : Prop := Claim7.holds Tryz.pinned (.plain (OpenSpec.upto valueBigSpec)) valueBigUptoCard

/-- THE SECOND FORM's CARD OF 'gonglaw07.ValueReads'. -/
def valueReadsUptoCard : Claim7 := { stood := { row := valueReadsUptoRow, standIns := [], harness := (true, "16caaa6ec316d5a5b8975a97c0482f94da3fc60e064aaff5080661cd2b0fc76d"), looks := true }, kinds := [], alts := [], laidByText := true, laidKinds := [.data, .data, .data, .data, .sentinel, .sentinel, .pinned], laidTests := true, laidLooks := .later }
def ValueReadsUptoCardSaid : Prop := Claim7.holds Tryz.pinned (.plain (OpenSpec.upto valueReadsSpec)) valueReadsUptoCard

/-- THE SECOND FORM's CARD OF 'gonglaw07.ValueBack'. -/
def valueBackUptoCard : Claim7 := { stood := { row := valueBackUptoRow, standIns := [], harness := (true, "16caaa6ec316d5a5b8975a97c0482f94da3fc60e064aaff5080661cd2b0fc76d"), looks := true }, kinds := [], alts := [], laidByText := true, laidKinds := [.data, .data, .data, .data, .sentinel, .sentinel, .pinned], laidTests := true, laidLooks := .later }
def ValueBackUptoCardSaid : Prop := Claim7.holds Tryz.pinned (.plain (OpenSpec.upto valueBackSpec)) valueBackUptoCard
end Rows
end Go.Proofs.YtjfimileopbadaaGreatDoor
