/-
  DERIVED. GIVEN WITH THE SEED: THE CARDS: each row of YtbnahfjhlbibcaaDoorRows.lean that lists a variable, with what it lists TIED to the program's text (the seventh form; the later family's looks); each row that meets fmt, with fmt's text TOLD by the authors' own Lean function (tested against real Go, not proved from fmt's source: count such statements apart). THE CARD IS WHAT COUNTS. Prove the row's statement (the work); the ties are given (YtbnahfjhlbibcaaDoorTie.lean); close each card by the builder's one call (the guide's Derived/Test/ToyasCard.lean, 'card_holds'). Laid BY PROGRAM, IN A SANDBOX (cutbox-door.mjs). By AI agents, Wed Nov 11 2026. No macro, syntax, notation, axiom, sorry.
-/
import Derived.Test.YtbnahfjhlbibcaaDoorRows
import GoSem.ClaimSeven
namespace Go.Proofs.YtbnahfjhlbibcaaDoor
namespace Rows

/-- THE TIED CARD OF 'trestlelaw16.CodecGiven'. -/
def codecGivenCard : Claim7 := { stood := { row := codecGivenRow, standIns := [], harness := (true, "e81385cb5d5f654c5d07372798eaf7bac4f37cca57a24d04d313bd2f1b2f54f9"), looks := true }, kinds := [], alts := [], laidByText := true, laidKinds := [.data, .data, .data, .sentinel, .sentinel], laidTests := true, laidLooks := .later }
def CodecGivenCardSaid : Prop := Claim7.holds Tryd.pinned (.plain (OpenSpec.ofChange codecGivenSpec)) codecGivenCard

/-- THE TIED CARD OF 'trestlelaw16.CodecOne'. -/
def codecOneCard : Claim7 := { stood := { row := codecOneRow, standIns := [], harness := (true, "e81385cb5d5f654c5d07372798eaf7bac4f37cca57a24d04d313bd2f1b2f54f9"), looks := true }, kinds := [], alts := [], laidByText := true, laidKinds := [.data, .data, .data, .sentinel, .sentinel], laidTests := true, laidLooks := .later }
def CodecOneCardSaid : Prop := Claim7.holds Tryd.pinned (.plain (OpenSpec.ofChange codecOneSpec)) codecOneCard

/-- THE TIED CARD OF 'trestlelaw16.CodecEvent'. -/
def codecEventCard : Claim7 := { stood := { row := codecEventRow, standIns := [], harness := (true, "e81385cb5d5f654c5d07372798eaf7bac4f37cca57a24d04d313bd2f1b2f54f9"), looks := true }, kinds := [], alts := [], laidByText := true, laidKinds := [.data, .data, .data, .sentinel, .sentinel], laidTests := true, laidLooks := .later }
def CodecEventCardSaid : Prop := Claim7.holds Tryd.pinned (.plain (OpenSpec.ofChange codecEventSpec)) codecEventCard

/-- THE TIED CARD OF 'trestlelaw16.CodecTask'. -/
def codecTaskCard : Claim7 := { stood := { row := codecTaskRow, standIns := [], harness := (true, "e81385cb5d5f654c5d07372798eaf7bac4f37cca57a24d04d313bd2f1b2f54f9"), looks := true }, kinds := [], alts := [], laidByText := true, laidKinds := [.data, .data, .data, .sentinel, .sentinel], laidTests := true, laidLooks := .later }
def CodecTaskCardSaid : Prop := Claim7.holds Tryd.pinned (.plain (OpenSpec.ofChange codecTaskSpec)) codecTaskCard

/-- THE TIED CARD OF 'trestlelaw16.CodecReport'. -/
def codecReportCard : Claim7 := { stood := { row := codecReportRow, standIns := [], harness := (true, "e81385cb5d5f654c5d07372798eaf7bac4f37cca57a24d04d313bd2f1b2f54f9"), looks := true }, kinds := [], alts := [], laidByText := true, laidKinds := [.data, .data, .data, .sentinel, .sentinel], laidTests := true, laidLooks := .later }
def CodecReportCardSaid : Prop := Claim7.holds Tryd.pinned (.plain (OpenSpec.ofChange codecReportSpec)) codecReportCard

/-- THE TIED CARD OF 'trestlelaw16.CodecWrites'. -/
def codecWritesCard : Claim7 := { stood := { row := codecWritesRow, standIns := [], harness := (true, "e81385cb5d5f654c5d07372798eaf7bac4f37cca57a24d04d313bd2f1b2f54f9"), looks := true }, kinds := [], alts := [], laidByText := true, laidKinds := [.data, .data, .data, .sentinel, .sentinel], laidTests := true, laidLooks := .later }
def CodecWritesCardSaid : Prop := Claim7.holds Tryd.pinned (.plain (OpenSpec.ofChange codecWritesSpec)) codecWritesCard

/-- THE TIED CARD OF 'trestlelaw16.CodecTable'. -/
def codecTableCard : Claim7 := { stood := { row := codecTableRow, standIns := [], harness := (true, "e81385cb5d5f654c5d07372798eaf7bac4f37cca57a24d04d313bd2f1b2f54f9"), looks := true }, kinds := [], alts := [], laidByText := true, laidKinds := [.data, .data, .data, .sentinel, .sentinel], laidTests := true, laidLooks := .later }
def CodecTableCardSaid : Prop := Claim7.holds Tryd.pinned (.plain (OpenSpec.ofChange codecTableSpec)) codecTableCard

/-- THE TIED CARD OF 'trestlelaw16.CodecSends'. -/
def codecSendsCard : Claim7 := { stood := { row := codecSendsRow, standIns := [], harness := (true, "e81385cb5d5f654c5d07372798eaf7bac4f37cca57a24d04d313bd2f1b2f54f9"), looks := true }, kinds := [], alts := [], laidByText := true, laidKinds := [.data, .data, .data, .sentinel, .sentinel], laidTests := true, laidLooks := .later }
def CodecSendsCardSaid : Prop := Claim7.holds Tryd.pinned (.plain (OpenSpec.ofChange codecSendsSpec)) codecSendsCard

/-- THE SECOND FORM's CARD OF 'trestlelaw16.CodecGiven'. -/
def codecGivenUptoCard : Claim7 := { stood := { row := codecGivenUptoRow, standIns := [], harness := (true, "e81385cb5d5f654c5d07372798eaf7bac4f37cca57a24d04d313bd2f1b2f54f9"), looks := true }, kinds := [], alts := [], laidByText := true, laidKinds := [.data, .data, .data, .sentinel, .sentinel], laidTests := true, laidLooks := .later }
def CodecGivenUptoCardSaid : Prop := Claim7.holds Tryd.pinned (.plain (OpenSpec.upto codecGivenSpec)) codecGivenUptoCard

/-- THE SECOND FORM's CARD OF 'trestlelaw16.CodecOne'. -/
def codecOneUptoCard : Claim7 := { stood := { row := codecOneUptoRow, standIns := [], harness := (true, "e81385cb5d5f654c5d07372798eaf7bac4f37cca57a24d04d313bd2f1b2f54f9"), looks := true }, kinds := [], alts := [], laidByText := true, laidKinds := [.data, .data, .data, .sentinel, .sentinel], laidTests := true, laidLooks := .later }
def CodecOneUptoCardSaid : Prop := Claim7.holds Tryd.pinned (.plain (OpenSpec.upto codecOneSpec)) codecOneUptoCard

/-- THE SECOND FORM's CARD OF 'trestlelaw16.CodecEvent'. -/
def codecEventUptoCard : Claim7 := { stood := { row := codecEventUptoRow, standIns := [], harness := (true, "e81385cb5d5f654c5d07372798eaf7bac4f37cca57a24d04d313bd2f1b2f54f9"), looks := true }, kinds := [], alts := [], laidByText := true, laidKinds := [.data, .data, .data, .sentinel, .sentinel], laidTests := true, laidLooks := .later }
def CodecEventUptoCardSaid : Prop := Claim7.holds Tryd.pinned (.plain (OpenSpec.upto codecEventSpec)) codecEventUptoCard

/-- THE SECOND FORM's CARD OF 'trestlelaw16.CodecTask'. -/
def codecTaskUptoCard : Claim7 := { stood := { row := codecTaskUptoRow, standIns := [], harness := (true, "e81385cb5d5f654c5d07372798eaf7bac4f37cca57a24d04d313bd2f1b2f54f9"), looks := true }, kinds := [], alts := [], laidByText := true, laidKinds := [.data, .data, .data, .sentinel, .sentinel], laidTests := true, laidLooks := .later }
def CodecTaskUptoCardSaid : Prop := Claim7.holds Tryd.pinned (.plain (OpenSpec.upto codecTaskSpec)) codecTaskUptoCard

/-- THE SECOND FORM's CARD OF 'trestlelaw16.CodecReport'. -/
def codecReportUptoCard : Claim7 := { stood := { row := codecReportUptoRow, standIns := [], harness := (true, "e81385cb5d5f654c5d07372798eaf7bac4f37cca57a24d04d313bd2f1b2f54f9"), looks := true }, kinds := [], alts := [], laidByText := true, laidKinds := [.data, .data, .data, .sentinel, .sentinel], laidTests := true, laidLooks := .later }
def CodecReportUptoCardSaid : Prop := Claim7.holds Tryd.pinned (.plain (OpenSpec.upto codecReportSpec)) codecReportUptoCard

/-- THE SECOND FORM's CARD OF 'trestlelaw16.CodecWrites'. -/
def codecWritesUptoCard : Claim7 := { stood := { row := codecWritesUptoRow, standIns := [], harness := (true, "e81385cb5d5f654c5d07372798eaf7bac4f37cca57a24d04d313bd2f1b2f54f9"), looks := true }, kinds := [], alts := [], laidByText := true, laidKinds := [.data, .data, .data, .sentinel, .sentinel], laidTests := true, laidLooks := .later }
def CodecWritesUptoCardSaid : Prop := Claim7.holds Tryd.pinned (.plain (OpenSpec.upto codecWritesSpec)) codecWritesUptoCard

/-- THE SECOND FORM's CARD OF 'trestlelaw16.CodecTable'. -/
def codecTableUptoCard : Claim7 := { stood := { row := codecTableUptoRow, standIns := [], harness := (true, "e81385cb5d5f654c5d07372798eaf7bac4f37cca57a24d04d313bd2f1b2f54f9"), looks := true }, kinds := [], alts := [], laidByText := true, laidKinds := [.data, .data, .data, .sentinel, .sentinel], laidTests := true, laidLooks := .later }
def CodecTableUptoCardSaid : Prop := Claim7.holds Tryd.pinned (.plain (OpenSpec.upto codecTableSpec)) codecTableUptoCard

/-- THE SECOND FORM's CARD OF 'trestlelaw16.CodecSends'. -/
def codecSendsUptoCard : Claim7 := { stood := { row := codecSendsUptoRow, standIns := [], harness := (true, "e81385cb5d5f654c5d07372798eaf7bac4f37cca57a24d04d313bd2f1b2f54f9"), looks := true }, kinds := [], alts := [], laidByText := true, laidKinds := [.data, .data, .data, .sentinel, .sentinel], laidTests := true, laidLooks := .later }
def CodecSendsUptoCardSaid : Prop := Claim7.holds Tryd.pinned (.plain (OpenSpec.upto codecSendsSpec)) codecSendsUptoCard
end Rows
end Go.Proofs.YtbnahfjhlbibcaaDoor
