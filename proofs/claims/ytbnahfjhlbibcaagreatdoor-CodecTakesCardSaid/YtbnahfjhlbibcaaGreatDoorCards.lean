/-
  DERIVED. GIVEN WITH THE SEED: THE CARDS: each row of YtbnahfjhlbibcaaGreatDoorRows.lean that lists a variable, with what it lists TIED to the program's text (the seventh form; the later family's looks); each row that meets fmt, with fmt's text TOLD by the authors' own Lean function (tested against real Go, not proved from fmt's source: count such statements apart). THE CARD IS WHAT COUNTS. Prove the row's statement (the work); the ties are given (YtbnahfjhlbibcaaGreatDoorTie.lean); close each card by the builder's one call (the guide's Derived/Test/ToyasCard.lean, 'card_holds'). Laid BY PROGRAM, IN A SANDBOX (cutbox-door.mjs). By AI agents, Wed Nov 11 2026. No macro, syntax, notation, axiom, sorry.
-/
import Derived.Test.YtbnahfjhlbibcaaGreatDoorRows
import GoSem.ClaimSeven
namespace Go.Proofs.YtbnahfjhlbibcaaGreatDoor
namespace Rows

/-- THE TIED CARD OF 'trestlelaw16.CodecReads'. -/
def codecReadsCard : Claim7 := { stood := { row := codecReadsRow, standIns := [], harness := (true, "d8b521dfb8d8b29da43c506975a40b4355e9fed8c57385928c33deeaea5ed39d"), looks := true }, kinds := [], alts := [], laidByText := true, laidKinds := [.data, .data, .data, .sentinel, .sentinel], laidTests := true, laidLooks := .later }
def CodecReadsCardSaid : Prop := Claim7.holds Tryz.pinned (.plain (OpenSpec.ofChange codecReadsSpec)) codecReadsCard

/-- THE TIED CARD OF 'trestlelaw16.CodecTakes'. -/
def codecTakesCard : Claim7 := { stood := { row := codecTakesRow, standIns := [], harness := (true, "d8b521dfb8d8b29da43c506975a40b4355e9fed8c57385928c33deeaea5ed39d"), looks := true }, kinds := [], alts := [], laidByText := true, laidKinds := [.data, .data, .data, .sentinel, .sentinel], laidTests := true, laidLooks := .later }
def CodecTakesCardSaid : Prop := Claim7.holds Tryz.pinned (.plain (OpenSpec.ofChange codecTakesSpec)) codecTakesCard

/-- THE SECOND FORM's CARD OF 'trestlelaw16.CodecReads'. -/
def codecReadsUptoCard : Claim7 := { stood := { row := codecReadsUptoRow, standIns := [], harness := (true, "d8b521dfb8d8b29da43c506975a40b4355e9fed8c57385928c33deeaea5ed39d"), looks := true }, kinds := [], alts := [], laidByText := true, laidKinds := [.data, .data, .data, .sentinel, .sentinel], laidTests := true, laidLooks := .later }
def CodecReadsUptoCardSaid : Prop := Claim7.holds Tryz.pinned (.plain (OpenSpec.upto codecReadsSpec)) codecReadsUptoCard

/-- THE SECOND FORM's CARD OF 'trestlelaw16.CodecTakes'. -/
def codecTakesUptoCard : Claim7 := { stood := { row := codecTakesUptoRow, standIns := [], harness := (true, "d8b521dfb8d8b29da43c506975a40b4355e9fed8c57385928c33deeaea5ed39d"), looks := true }, kinds := [], alts := [], laidByText := true, laidKinds := [.data, .data, .data, .sentinel, .sentinel], laidTests := true, laidLooks := .later }
def CodecTakesUptoCardSaid : Prop := Claim7.holds Tryz.pinned (.plain (OpenSpec.upto codecTakesSpec)) codecTakesUptoCard
end Rows
end Go.Proofs.YtbnahfjhlbibcaaGreatDoor
