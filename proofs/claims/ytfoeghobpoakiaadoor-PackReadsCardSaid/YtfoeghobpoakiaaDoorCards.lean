/-
  DERIVED. GIVEN WITH THE SEED: THE CARDS: each row of YtfoeghobpoakiaaDoorRows.lean that lists a variable, with what it lists TIED to the program's text (the seventh form; the later family's looks); each row that meets fmt, with fmt's text TOLD by the authors' own Lean function (tested against real Go, not proved from fmt's source: count such statements apart). THE CARD IS WHAT COUNTS. Prove the row's statement (the work); the ties are given (YtfoeghobpoakiaaDoorTie.lean); close each card by the builder's one call (the guide's Derived/Test/ToyasCard.lean, 'card_holds'). Laid BY PROGRAM, IN A SANDBOX (cutbox-door.mjs). By AI agents, Wed Nov 11 2026. No macro, syntax, notation, axiom, sorry.
-/
import Derived.Test.YtfoeghobpoakiaaDoorRows
import GoSem.ClaimSeven
namespace Go.Proofs.YtfoeghobpoakiaaDoor
namespace Rows

/-- THE TIED CARD OF 'trestlelaw01.PackText'. -/
def packTextCard : Claim7 := { stood := { row := packTextRow, standIns := [], harness := (true, "11666bd37047b15fa5ac98d0b4fb788d0fab09c306de82503e1e337454fb6844"), looks := true }, kinds := [], alts := [], laidByText := true, laidKinds := [.data, .data, .data, .sentinel, .sentinel], laidTests := true, laidLooks := .later }
def PackTextCardSaid : Prop := Claim7.holds Tryd.pinned (.plain (OpenSpec.ofChange packTextSpec)) packTextCard

/-- THE TIED CARD OF 'trestlelaw01.PackNum'. -/
def packNumCard : Claim7 := { stood := { row := packNumRow, standIns := [], harness := (true, "11666bd37047b15fa5ac98d0b4fb788d0fab09c306de82503e1e337454fb6844"), looks := true }, kinds := [], alts := [], laidByText := true, laidKinds := [.data, .data, .data, .sentinel, .sentinel], laidTests := true, laidLooks := .later }
def PackNumCardSaid : Prop := Claim7.holds Tryd.pinned (.plain (OpenSpec.ofChange packNumSpec)) packNumCard

/-- THE TIED CARD OF 'trestlelaw01.PackList'. -/
def packListCard : Claim7 := { stood := { row := packListRow, standIns := [], harness := (true, "11666bd37047b15fa5ac98d0b4fb788d0fab09c306de82503e1e337454fb6844"), looks := true }, kinds := [], alts := [], laidByText := true, laidKinds := [.data, .data, .data, .sentinel, .sentinel], laidTests := true, laidLooks := .later }
def PackListCardSaid : Prop := Claim7.holds Tryd.pinned (.plain (OpenSpec.ofChange packListSpec)) packListCard

/-- THE TIED CARD OF 'trestlelaw01.PackEnds'. -/
def packEndsCard : Claim7 := { stood := { row := packEndsRow, standIns := [], harness := (true, "11666bd37047b15fa5ac98d0b4fb788d0fab09c306de82503e1e337454fb6844"), looks := true }, kinds := [], alts := [], laidByText := true, laidKinds := [.data, .data, .data, .sentinel, .sentinel], laidTests := true, laidLooks := .later }
def PackEndsCardSaid : Prop := Claim7.holds Tryd.pinned (.plain (OpenSpec.ofChange packEndsSpec)) packEndsCard

/-- THE TIED CARD OF 'trestlelaw01.PackDigits'. -/
def packDigitsCard : Claim7 := { stood := { row := packDigitsRow, standIns := [], harness := (true, "11666bd37047b15fa5ac98d0b4fb788d0fab09c306de82503e1e337454fb6844"), looks := true }, kinds := [], alts := [], laidByText := true, laidKinds := [.data, .data, .data, .sentinel, .sentinel], laidTests := true, laidLooks := .later }
def PackDigitsCardSaid : Prop := Claim7.holds Tryd.pinned (.plain (OpenSpec.ofChange packDigitsSpec)) packDigitsCard

/-- THE TIED CARD OF 'trestlelaw01.PackReads'. -/
def packReadsCard : Claim7 := { stood := { row := packReadsRow, standIns := [], harness := (true, "11666bd37047b15fa5ac98d0b4fb788d0fab09c306de82503e1e337454fb6844"), looks := true }, kinds := [], alts := [], laidByText := true, laidKinds := [.data, .data, .data, .sentinel, .sentinel], laidTests := true, laidLooks := .later }
def PackReadsCardSaid : Prop := Claim7.holds Tryd.pinned (.plain (OpenSpec.ofChange packReadsSpec)) packReadsCard

/-- THE TIED CARD OF 'trestlelaw01.PackBack'. -/
def packBackCard : Claim7 := { stood := { row := packBackRow, standIns := [], harness := (true, "11666bd37047b15fa5ac98d0b4fb788d0fab09c306de82503e1e337454fb6844"), looks := true }, kinds := [], alts := [], laidByText := true, laidKinds := [.data, .data, .data, .sentinel, .sentinel], laidTests := true, laidLooks := .later }
def PackBackCardSaid : Prop := Claim7.holds Tryd.pinned (.plain (OpenSpec.ofChange packBackSpec)) packBackCard

/-- THE TIED CARD OF 'trestlelaw01.PackNil'. -/
def packNilCard : Claim7 := { stood := { row := packNilRow, standIns := [], harness := (true, "11666bd37047b15fa5ac98d0b4fb788d0fab09c306de82503e1e337454fb6844"), looks := true }, kinds := [], alts := [], laidByText := true, laidKinds := [.data, .data, .data, .sentinel, .sentinel], laidTests := true, laidLooks := .later }
def PackNilCardSaid : Prop := Claim7.holds Tryd.pinned (.plain (OpenSpec.ofChange packNilSpec)) packNilCard

/-- THE SECOND FORM's CARD OF 'trestlelaw01.PackText'. -/
def packTextUptoCard : Claim7 := { stood := { row := packTextUptoRow, standIns := [], harness := (true, "11666bd37047b15fa5ac98d0b4fb788d0fab09c306de82503e1e337454fb6844"), looks := true }, kinds := [], alts := [], laidByText := true, laidKinds := [.data, .data, .data, .sentinel, .sentinel], laidTests := true, laidLooks := .later }
def PackTextUptoCardSaid : Prop := Claim7.holds Tryd.pinned (.plain (OpenSpec.upto packTextSpec)) packTextUptoCard

/-- THE SECOND FORM's CARD OF 'trestlelaw01.PackNum'. -/
def packNumUptoCard : Claim7 := { stood := { row := packNumUptoRow, standIns := [], harness := (true, "11666bd37047b15fa5ac98d0b4fb788d0fab09c306de82503e1e337454fb6844"), looks := true }, kinds := [], alts := [], laidByText := true, laidKinds := [.data, .data, .data, .sentinel, .sentinel], laidTests := true, laidLooks := .later }
def PackNumUptoCardSaid : Prop := Claim7.holds Tryd.pinned (.plain (OpenSpec.upto packNumSpec)) packNumUptoCard

/-- THE SECOND FORM's CARD OF 'trestlelaw01.PackList'. -/
def packListUptoCard : Claim7 := { stood := { row := packListUptoRow, standIns := [], harness := (true, "11666bd37047b15fa5ac98d0b4fb788d0fab09c306de82503e1e337454fb6844"), looks := true }, kinds := [], alts := [], laidByText := true, laidKinds := [.data, .data, .data, .sentinel, .sentinel], laidTests := true, laidLooks := .later }
def PackListUptoCardSaid : Prop := Claim7.holds Tryd.pinned (.plain (OpenSpec.upto packListSpec)) packListUptoCard

/-- THE SECOND FORM's CARD OF 'trestlelaw01.PackEnds'. -/
def packEndsUptoCard : Claim7 := { stood := { row := packEndsUptoRow, standIns := [], harness := (true, "11666bd37047b15fa5ac98d0b4fb788d0fab09c306de82503e1e337454fb6844"), looks := true }, kinds := [], alts := [], laidByText := true, laidKinds := [.data, .data, .data, .sentinel, .sentinel], laidTests := true, laidLooks := .later }
def PackEndsUptoCardSaid : Prop := Claim7.holds Tryd.pinned (.plain (OpenSpec.upto packEndsSpec)) packEndsUptoCard

/-- THE SECOND FORM's CARD OF 'trestlelaw01.PackDigits'. -/
def packDigitsUptoCard : Claim7 := { stood := { row := packDigitsUptoRow, standIns := [], harness := (true, "11666bd37047b15fa5ac98d0b4fb788d0fab09c306de82503e1e337454fb6844"), looks := true }, kinds := [], alts := [], laidByText := true, laidKinds := [.data, .data, .data, .sentinel, .sentinel], laidTests := true, laidLooks := .later }
def PackDigitsUptoCardSaid : Prop := Claim7.holds Tryd.pinned (.plain (OpenSpec.upto packDigitsSpec)) packDigitsUptoCard

/-- THE SECOND FORM's CARD OF 'trestlelaw01.PackReads'. -/
def packReadsUptoCard : Claim7 := { stood := { row := packReadsUptoRow, standIns := [], harness := (true, "11666bd37047b15fa5ac98d0b4fb788d0fab09c306de82503e1e337454fb6844"), looks := true }, kinds := [], alts := [], laidByText := true, laidKinds := [.data, .data, .data, .sentinel, .sentinel], laidTests := true, laidLooks := .later }
def PackReadsUptoCardSaid : Prop := Claim7.holds Tryd.pinned (.plain (OpenSpec.upto packReadsSpec)) packReadsUptoCard

/-- THE SECOND FORM's CARD OF 'trestlelaw01.PackBack'. -/
def packBackUptoCard : Claim7 := { stood := { row := packBackUptoRow, standIns := [], harness := (true, "11666bd37047b15fa5ac98d0b4fb788d0fab09c306de82503e1e337454fb6844"), looks := true }, kinds := [], alts := [], laidByText := true, laidKinds := [.data, .data, .data, .sentinel, .sentinel], laidTests := true, laidLooks := .later }
def PackBackUptoCardSaid : Prop := Claim7.holds Tryd.pinned (.plain (OpenSpec.upto packBackSpec)) packBackUptoCard

/-- THE SECOND FORM's CARD OF 'trestlelaw01.PackNil'. -/
def packNilUptoCard : Claim7 := { stood := { row := packNilUptoRow, standIns := [], harness := (true, "11666bd37047b15fa5ac98d0b4fb788d0fab09c306de82503e1e337454fb6844"), looks := true }, kinds := [], alts := [], laidByText := true, laidKinds := [.data, .data, .data, .sentinel, .sentinel], laidTests := true, laidLooks := .later }
def PackNilUptoCardSaid : Prop := Claim7.holds Tryd.pinned (.plain (OpenSpec.upto packNilSpec)) packNilUptoCard
end Rows
end Go.Proofs.YtfoeghobpoakiaaDoor
