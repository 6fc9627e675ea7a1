/-
  DERIVED. GIVEN WITH THE SEED: THE CARDS: each row of YtjcenencgnfffaaDoorRows.lean that lists a variable, with what it lists TIED to the program's text (the seventh form; the later family's looks); each row that meets fmt, with fmt's text TOLD by the authors' own Lean function (tested against real Go, not proved from fmt's source: count such statements apart). THE CARD IS WHAT COUNTS. Prove the row's statement (the work); the ties are given (YtjcenencgnfffaaDoorTie.lean); close each card by the builder's one call (the guide's Derived/Test/ToyasCard.lean, 'card_holds'). Laid BY PROGRAM, IN A SANDBOX (cutbox-door.mjs). By AI agents, Wed Nov 11 2026. No macro, syntax, notation, axiom, sorry.
-/
import Derived.Test.YtjcenencgnfffaaDoorRows
import GoSem.ClaimSeven
namespace Go.Proofs.YtjcenencgnfffaaDoor
namespace Rows

/-- THE TIED CARD OF 'gonglaw03.StampReads'. -/
def stampReadsCard : Claim7 := { stood := { row := stampReadsRow, standIns := [], harness := (true, "7409945354e99114c7ca6e185704d0c6a63342a3e5765b138817be0977c742b7"), looks := true }, kinds := [], alts := [], laidByText := true, laidKinds := [.data, .data, .data, .data, .sentinel, .sentinel, .data, .data, .pinned], laidTests := true, laidLooks := .later }
def StampReadsCardSaid : Prop := Claim7.holds Tryd.pinned (.plain (OpenSpec.ofChange stampReadsSpec)) stampReadsCard

/-- THE TIED CARD OF 'gonglaw03.StampOrder'. -/
def stampOrderCard : Claim7 := { stood := { row := stampOrderRow, standIns := [], harness := (true, "7409945354e99114c7ca6e185704d0c6a63342a3e5765b138817be0977c742b7"), looks := true }, kinds := [], alts := [], laidByText := true, laidKinds := [.data, .data, .data, .data, .sentinel, .sentinel, .data, .pinned], laidTests := true, laidLooks := .later }
def StampOrderCardSaid : Prop := Claim7.holds Tryd.pinned (.plain (OpenSpec.ofChange stampOrderSpec)) stampOrderCard

/-- THE TIED CARD OF 'gonglaw03.StampPoint'. -/
def stampPointCard : Claim7 := { stood := { row := stampPointRow, standIns := [], harness := (true, "7409945354e99114c7ca6e185704d0c6a63342a3e5765b138817be0977c742b7"), looks := true }, kinds := [], alts := [], laidByText := true, laidKinds := [.data, .data, .data, .data, .sentinel, .sentinel, .data, .pinned], laidTests := true, laidLooks := .later }
def StampPointCardSaid : Prop := Claim7.holds Tryd.pinned (.plain (OpenSpec.ofChange stampPointSpec)) stampPointCard

/-- THE TIED CARD OF 'gonglaw03.StampWrites'. -/
def stampWritesCard : Claim7 := { stood := { row := stampWritesRow, standIns := [], harness := (true, "7409945354e99114c7ca6e185704d0c6a63342a3e5765b138817be0977c742b7"), looks := true }, kinds := [], alts := [], laidByText := true, laidKinds := [.data, .data, .data, .data, .sentinel, .sentinel, .data, .data, .pinned], laidTests := true, laidLooks := .later }
def StampWritesCardSaid : Prop := Claim7.holds Tryd.pinned (.plain (OpenSpec.ofChange stampWritesSpec)) stampWritesCard

/-- THE TIED CARD OF 'gonglaw03.StampBack'. -/
def stampBackCard : Claim7 := { stood := { row := stampBackRow, standIns := [], harness := (true, "7409945354e99114c7ca6e185704d0c6a63342a3e5765b138817be0977c742b7"), looks := true }, kinds := [], alts := [], laidByText := true, laidKinds := [.data, .data, .data, .data, .sentinel, .sentinel, .data, .data, .pinned], laidTests := true, laidLooks := .later }
def StampBackCardSaid : Prop := Claim7.holds Tryd.pinned (.plain (OpenSpec.ofChange stampBackSpec)) stampBackCard

/-- THE TIED CARD OF 'gonglaw06.OidReads'. -/
def oidReadsCard : Claim7 := { stood := { row := oidReadsRow, standIns := [], harness := (true, "7409945354e99114c7ca6e185704d0c6a63342a3e5765b138817be0977c742b7"), looks := true }, kinds := [], alts := [], laidByText := true, laidKinds := [.data, .data, .data, .data, .sentinel, .sentinel, .pinned], laidTests := true, laidLooks := .later }
def OidReadsCardSaid : Prop := Claim7.holds Tryd.pinned (.plain (OpenSpec.ofChange oidReadsSpec)) oidReadsCard

/-- THE TIED CARD OF 'gonglaw06.OidBack'. -/
def oidBackCard : Claim7 := { stood := { row := oidBackRow, standIns := [], harness := (true, "7409945354e99114c7ca6e185704d0c6a63342a3e5765b138817be0977c742b7"), looks := true }, kinds := [], alts := [], laidByText := true, laidKinds := [.data, .data, .data, .data, .sentinel, .sentinel, .pinned], laidTests := true, laidLooks := .later }
def OidBackCardSaid : Prop := Claim7.holds Tryd.pinned (.plain (OpenSpec.ofChange oidBackSpec)) oidBackCard

/-- THE TIED CARD OF 'gonglaw06.OidOrder'. -/
def oidOrderCard : Claim7 := { stood := { row := oidOrderRow, standIns := [], harness := (true, "7409945354e99114c7ca6e185704d0c6a63342a3e5765b138817be0977c742b7"), looks := true }, kinds := [], alts := [], laidByText := true, laidKinds := [.data, .data, .data, .data, .sentinel, .sentinel, .pinned], laidTests := true, laidLooks := .later }
def OidOrderCardSaid : Prop := Claim7.holds Tryd.pinned (.plain (OpenSpec.ofChange oidOrderSpec)) oidOrderCard

/-- THE TIED CARD OF 'gonglaw06.OidChild'. -/
def oidChildCard : Claim7 := { stood := { row := oidChildRow, standIns := [], harness := (true, "7409945354e99114c7ca6e185704d0c6a63342a3e5765b138817be0977c742b7"), looks := true }, kinds := [], alts := [], laidByText := true, laidKinds := [.data, .data, .data, .data, .sentinel, .sentinel, .pinned], laidTests := true, laidLooks := .later }
def OidChildCardSaid : Prop := Claim7.holds Tryd.pinned (.plain (OpenSpec.ofChange oidChildSpec)) oidChildCard

/-- THE SECOND FORM's CARD OF 'gonglaw03.StampReads'. -/
def stampReadsUptoCard : Claim7 := { stood := { row := stampReadsUptoRow, standIns := [], harness := (true, "7409945354e99114c7ca6e185704d0c6a63342a3e5765b138817be0977c742b7"), looks := true }, kinds := [], alts := [], laidByText := true, laidKinds := [.data, .data, .data, .data, .sentinel, .sentinel, .data, .data, .pinned], laidTests := true, laidLooks := .later }
def StampReadsUptoCardSaid : Prop := Claim7.holds Tryd.pinned (.plain (OpenSpec.upto stampReadsSpec)) stampReadsUptoCard

/-- THE SECOND FORM's CARD OF 'gonglaw03.StampOrder'. -/
def stampOrderUptoCard : Claim7 := { stood := { row := stampOrderUptoRow, standIns := [], harness := (true, "7409945354e99114c7ca6e185704d0c6a63342a3e5765b138817be0977c742b7"), looks := true }, kinds := [], alts := [], laidByText := true, laidKinds := [.data, .data, .data, .data, .sentinel, .sentinel, .data, .pinned], laidTests := true, laidLooks := .later }
def StampOrderUptoCardSaid : Prop := Claim7.holds Tryd.pinned (.plain (OpenSpec.upto stampOrderSpec)) stampOrderUptoCard

/-- THE SECOND FORM's CARD OF 'gonglaw03.StampPoint'. -/
def stampPointUptoCard : Claim7 := { stood := { row := stampPointUptoRow, standIns := [], harness := (true, "7409945354e99114c7ca6e185704d0c6a63342a3e5765b138817be0977c742b7"), looks := true }, kinds := [], alts := [], laidByText := true, laidKinds := [.data, .data, .data, .data, .sentinel, .sentinel, .data, .pinned], laidTests := true, laidLooks := .later }
def StampPointUptoCardSaid : Prop := Claim7.holds Tryd.pinned (.plain (OpenSpec.upto stampPointSpec)) stampPointUptoCard

/-- THE SECOND FORM's CARD OF 'gonglaw03.StampWrites'. -/
def stampWritesUptoCard : Claim7 := { stood := { row := stampWritesUptoRow, standIns := [], harness := (true, "7409945354e99114c7ca6e185704d0c6a63342a3e5765b138817be0977c742b7"), looks := true }, kinds := [], alts := [], laidByText := true, laidKinds := [.data, .data, .data, .data, .sentinel, .sentinel, .data, .data, .pinned], laidTests := true, laidLooks := .later }
def StampWritesUptoCardSaid : Prop := Claim7.holds Tryd.pinned (.plain (OpenSpec.upto stampWritesSpec)) stampWritesUptoCard

/-- THE SECOND FORM's CARD OF 'gonglaw03.StampBack'. -/
def stampBackUptoCard : Claim7 := { stood := { row := stampBackUptoRow, standIns := [], harness := (true, "7409945354e99114c7ca6e185704d0c6a63342a3e5765b138817be0977c742b7"), looks := true }, kinds := [], alts := [], laidByText := true, laidKinds := [.data, .data, .data, .data, .sentinel, .sentinel, .data, .data, .pinned], laidTests := true, laidLooks := .later }
def StampBackUptoCardSaid : Prop := Claim7.holds Tryd.pinned (.plain (OpenSpec.upto stampBackSpec)) stampBackUptoCard

/-- THE SECOND FORM's CARD OF 'gonglaw06.OidReads'. -/
def oidReadsUptoCard : Claim7 := { stood := { row := oidReadsUptoRow, standIns := [], harness := (true, "7409945354e99114c7ca6e185704d0c6a63342a3e5765b138817be0977c742b7"), looks := true }, kinds := [], alts := [], laidByText := true, laidKinds := [.data, .data, .data, .data, .sentinel, .sentinel, .pinned], laidTests := true, laidLooks := .later }
def OidReadsUptoCardSaid : Prop := Claim7.holds Tryd.pinned (.plain (OpenSpec.upto oidReadsSpec)) oidReadsUptoCard

/-- THE SECOND FORM's CARD OF 'gonglaw06.OidBack'. -/
def oidBackUptoCard : Claim7 := { stood := { row := oidBackUptoRow, standIns := [], harness := (true, "7409945354e99114c7ca6e185704d0c6a63342a3e5765b138817be0977c742b7"), looks := true }, kinds := [], alts := [], laidByText := true, laidKinds := [.data, .data, .data, .data, .sentinel, .sentinel, .pinned], laidTests := true, laidLooks := .later }
def OidBackUptoCardSaid : Prop := Claim7.holds Tryd.pinned (.plain (OpenSpec.upto oidBackSpec)) oidBackUptoCard

/-- THE SECOND FORM's CARD OF 'gonglaw06.OidOrder'. -/
def oidOrderUptoCard : Claim7 := { stood := { row := oidOrderUptoRow, standIns := [], harness := (true, "7409945354e99114c7ca6e185704d0c6a63342a3e5765b138817be0977c742b7"), looks := true }, kinds := [], alts := [], laidByText := true, laidKinds := [.data, .data, .data, .data, .sentinel, .sentinel, .pinned], laidTests := true, laidLooks := .later }
def OidOrderUptoCardSaid : Prop := Claim7.holds Tryd.pinned (.plain (OpenSpec.upto oidOrderSpec)) oidOrderUptoCard

/-- THE SECOND FORM's CARD OF 'gonglaw06.OidChild'. -/
def oidChildUptoCard : Claim7 := { stood := { row := oidChildUptoRow, standIns := [], harness := (true, "7409945354e99114c7ca6e185704d0c6a63342a3e5765b138817be0977c742b7"), looks := true }, kinds := [], alts := [], laidByText := true, laidKinds := [.data, .data, .data, .data, .sentinel, .sentinel, .pinned], laidTests := true, laidLooks := .later }
def OidChildUptoCardSaid : Prop := Claim7.holds Tryd.pinned (.plain (OpenSpec.upto oidChildSpec)) oidChildUptoCard
end Rows
end Go.Proofs.YtjcenencgnfffaaDoor
