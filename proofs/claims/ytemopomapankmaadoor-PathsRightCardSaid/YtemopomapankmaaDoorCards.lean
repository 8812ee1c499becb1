/-
  DERIVED. GIVEN WITH THE SEED: THE CARDS: each row of YtemopomapankmaaDoorRows.lean that lists a variable, with what it lists TIED to the program's text (the seventh form; the later family's looks); each row that meets fmt, with fmt's text TOLD by the authors' own Lean function (tested against real Go, not proved from fmt's source: count such statements apart). THE CARD IS WHAT COUNTS. Prove the row's statement (the work); the ties are given (YtemopomapankmaaDoorTie.lean); close each card by the builder's one call (the guide's Derived/Test/ToyasCard.lean, 'card_holds'). Laid BY PROGRAM, IN A SANDBOX (cutbox-door.mjs). By AI agents, Wed Nov 11 2026. No macro, syntax, notation, axiom, sorry.
-/
import Derived.Test.YtemopomapankmaaDoorRows
import GoSem.ClaimSeven
namespace Go.Proofs.YtemopomapankmaaDoor
namespace Rows

/-- THE TIED CARD OF 'trestlelaw03.PathsPuts'. -/
def pathsPutsCard : Claim7 := { stood := { row := pathsPutsRow, standIns := [], harness := (true, "f62b01575f68c625baf1a08326f45fbf0115493356e6399c62ae1c5ad72edb3a"), looks := false }, kinds := [], alts := [], laidByText := true, laidKinds := [.data, .pinned], laidTests := true, laidLooks := .later }
def PathsPutsCardSaid : Prop := Claim7.holds Tryd.pinned (.plain (OpenSpec.ofChange pathsPutsSpec)) pathsPutsCard

/-- THE TIED CARD OF 'trestlelaw03.PathsPath'. -/
def pathsPathCard : Claim7 := { stood := { row := pathsPathRow, standIns := [], harness := (true, "f62b01575f68c625baf1a08326f45fbf0115493356e6399c62ae1c5ad72edb3a"), looks := false }, kinds := [], alts := [], laidByText := true, laidKinds := [.data, .pinned], laidTests := true, laidLooks := .later }
def PathsPathCardSaid : Prop := Claim7.holds Tryd.pinned (.plain (OpenSpec.ofChange pathsPathSpec)) pathsPathCard

/-- THE TIED CARD OF 'trestlelaw03.PathsUnder'. -/
def pathsUnderCard : Claim7 := { stood := { row := pathsUnderRow, standIns := [], harness := (true, "f62b01575f68c625baf1a08326f45fbf0115493356e6399c62ae1c5ad72edb3a"), looks := false }, kinds := [], alts := [], laidByText := true, laidKinds := [.data, .pinned], laidTests := true, laidLooks := .later }
def PathsUnderCardSaid : Prop := Claim7.holds Tryd.pinned (.plain (OpenSpec.ofChange pathsUnderSpec)) pathsUnderCard

/-- THE TIED CARD OF 'trestlelaw03.PathsGet'. -/
def pathsGetCard : Claim7 := { stood := { row := pathsGetRow, standIns := [], harness := (true, "f62b01575f68c625baf1a08326f45fbf0115493356e6399c62ae1c5ad72edb3a"), looks := false }, kinds := [], alts := [], laidByText := true, laidKinds := [.data, .pinned], laidTests := true, laidLooks := .later }
def PathsGetCardSaid : Prop := Claim7.holds Tryd.pinned (.plain (OpenSpec.ofChange pathsGetSpec)) pathsGetCard

/-- THE TIED CARD OF 'trestlelaw03.PathsUnion'. -/
def pathsUnionCard : Claim7 := { stood := { row := pathsUnionRow, standIns := [], harness := (true, "f62b01575f68c625baf1a08326f45fbf0115493356e6399c62ae1c5ad72edb3a"), looks := false }, kinds := [], alts := [], laidByText := true, laidKinds := [.data, .pinned], laidTests := true, laidLooks := .later }
def PathsUnionCardSaid : Prop := Claim7.holds Tryd.pinned (.plain (OpenSpec.ofChange pathsUnionSpec)) pathsUnionCard

/-- THE TIED CARD OF 'trestlelaw03.PathsTexts'. -/
def pathsTextsCard : Claim7 := { stood := { row := pathsTextsRow, standIns := [], harness := (true, "f62b01575f68c625baf1a08326f45fbf0115493356e6399c62ae1c5ad72edb3a"), looks := false }, kinds := [], alts := [], laidByText := true, laidKinds := [.data, .pinned], laidTests := true, laidLooks := .later }
def PathsTextsCardSaid : Prop := Claim7.holds Tryd.pinned (.plain (OpenSpec.ofChange pathsTextsSpec)) pathsTextsCard

/-- THE TIED CARD OF 'trestlelaw03.PathsName'. -/
def pathsNameCard : Claim7 := { stood := { row := pathsNameRow, standIns := [], harness := (true, "f62b01575f68c625baf1a08326f45fbf0115493356e6399c62ae1c5ad72edb3a"), looks := false }, kinds := [], alts := [], laidByText := true, laidKinds := [.data, .pinned], laidTests := true, laidLooks := .later }
def PathsNameCardSaid : Prop := Claim7.holds Tryd.pinned (.plain (OpenSpec.ofChange pathsNameSpec)) pathsNameCard

/-- THE TIED CARD OF 'trestlelaw03.PathsInto'. -/
def pathsIntoCard : Claim7 := { stood := { row := pathsIntoRow, standIns := [], harness := (true, "f62b01575f68c625baf1a08326f45fbf0115493356e6399c62ae1c5ad72edb3a"), looks := false }, kinds := [], alts := [], laidByText := true, laidKinds := [.data, .pinned], laidTests := true, laidLooks := .later }
def PathsIntoCardSaid : Prop := Claim7.holds Tryd.pinned (.plain (OpenSpec.ofChange pathsIntoSpec)) pathsIntoCard

/-- THE TIED CARD OF 'trestlelaw03.PathsCheck'. -/
def pathsCheckCard : Claim7 := { stood := { row := pathsCheckRow, standIns := [], harness := (true, "f62b01575f68c625baf1a08326f45fbf0115493356e6399c62ae1c5ad72edb3a"), looks := false }, kinds := [], alts := [], laidByText := true, laidKinds := [.data, .pinned], laidTests := true, laidLooks := .later }
def PathsCheckCardSaid : Prop := Claim7.holds Tryd.pinned (.plain (OpenSpec.ofChange pathsCheckSpec)) pathsCheckCard

/-- THE TIED CARD OF 'trestlelaw03.PathsApart'. -/
def pathsApartCard : Claim7 := { stood := { row := pathsApartRow, standIns := [], harness := (true, "f62b01575f68c625baf1a08326f45fbf0115493356e6399c62ae1c5ad72edb3a"), looks := false }, kinds := [], alts := [], laidByText := true, laidKinds := [.data, .pinned], laidTests := true, laidLooks := .later }
def PathsApartCardSaid : Prop := Claim7.holds Tryd.pinned (.plain (OpenSpec.ofChange pathsApartSpec)) pathsApartCard

/-- THE TIED CARD OF 'trestlelaw03.PathsWithout'. -/
def pathsWithoutCard : Claim7 := { stood := { row := pathsWithoutRow, standIns := [], harness := (true, "f62b01575f68c625baf1a08326f45fbf0115493356e6399c62ae1c5ad72edb3a"), looks := false }, kinds := [], alts := [], laidByText := true, laidKinds := [.data, .pinned], laidTests := true, laidLooks := .later }
def PathsWithoutCardSaid : Prop := Claim7.holds Tryd.pinned (.plain (OpenSpec.ofChange pathsWithoutSpec)) pathsWithoutCard

/-- THE TIED CARD OF 'trestlelaw03.PathsJoins'. -/
def pathsJoinsCard : Claim7 := { stood := { row := pathsJoinsRow, standIns := [], harness := (true, "f62b01575f68c625baf1a08326f45fbf0115493356e6399c62ae1c5ad72edb3a"), looks := false }, kinds := [], alts := [], laidByText := true, laidKinds := [.data, .pinned], laidTests := true, laidLooks := .later }
def PathsJoinsCardSaid : Prop := Claim7.holds Tryd.pinned (.plain (OpenSpec.ofChange pathsJoinsSpec)) pathsJoinsCard

/-- THE TIED CARD OF 'trestlelaw03.PathsGets'. -/
def pathsGetsCard : Claim7 := { stood := { row := pathsGetsRow, standIns := [], harness := (true, "f62b01575f68c625baf1a08326f45fbf0115493356e6399c62ae1c5ad72edb3a"), looks := false }, kinds := [], alts := [], laidByText := true, laidKinds := [.data, .pinned], laidTests := true, laidLooks := .later }
def PathsGetsCardSaid : Prop := Claim7.holds Tryd.pinned (.plain (OpenSpec.ofChange pathsGetsSpec)) pathsGetsCard

/-- THE TIED CARD OF 'trestlelaw03.PathsRight'. -/
def pathsRightCard : Claim7 := { stood := { row := pathsRightRow, standIns := [], harness := (true, "f62b01575f68c625baf1a08326f45fbf0115493356e6399c62ae1c5ad72edb3a"), looks := false }, kinds := [], alts := [], laidByText := true, laidKinds := [.data, .pinned], laidTests := true, laidLooks := .later }
def PathsRightCardSaid : Prop := Claim7.holds Tryd.pinned (.plain (OpenSpec.ofChange pathsRightSpec)) pathsRightCard

/-- THE SECOND FORM's CARD OF 'trestlelaw03.PathsPuts'. -/
def pathsPutsUptoCard : Claim7 := { stood := { row := pathsPutsUptoRow, standIns := [], harness := (true, "f62b01575f68c625baf1a08326f45fbf0115493356e6399c62ae1c5ad72edb3a"), looks := false }, kinds := [], alts := [], laidByText := true, laidKinds := [.data, .pinned], laidTests := true, laidLooks := .later }
def PathsPutsUptoCardSaid : Prop := Claim7.holds Tryd.pinned (.plain (OpenSpec.upto pathsPutsSpec)) pathsPutsUptoCard

/-- THE SECOND FORM's CARD OF 'trestlelaw03.PathsPath'. -/
def pathsPathUptoCard : Claim7 := { stood := { row := pathsPathUptoRow, standIns := [], harness := (true, "f62b01575f68c625baf1a08326f45fbf0115493356e6399c62ae1c5ad72edb3a"), looks := false }, kinds := [], alts := [], laidByText := true, laidKinds := [.data, .pinned], laidTests := true, laidLooks := .later }
def PathsPathUptoCardSaid : Prop := Claim7.holds Tryd.pinned (.plain (OpenSpec.upto pathsPathSpec)) pathsPathUptoCard

/-- THE SECOND FORM's CARD OF 'trestlelaw03.PathsUnder'. -/
def pathsUnderUptoCard : Claim7 := { stood := { row := pathsUnderUptoRow, standIns := [], harness := (true, "f62b01575f68c625baf1a08326f45fbf0115493356e6399c62ae1c5ad72edb3a"), looks := false }, kinds := [], alts := [], laidByText := true, laidKinds := [.data, .pinned], laidTests := true, laidLooks := .later }
def PathsUnderUptoCardSaid : Prop := Claim7.holds Tryd.pinned (.plain (OpenSpec.upto pathsUnderSpec)) pathsUnderUptoCard

/-- THE SECOND FORM's CARD OF 'trestlelaw03.PathsGet'. -/
def pathsGetUptoCard : Claim7 := { stood := { row := pathsGetUptoRow, standIns := [], harness := (true, "f62b01575f68c625baf1a08326f45fbf0115493356e6399c62ae1c5ad72edb3a"), looks := false }, kinds := [], alts := [], laidByText := true, laidKinds := [.data, .pinned], laidTests := true, laidLooks := .later }
def PathsGetUptoCardSaid : Prop := Claim7.holds Tryd.pinned (.plain (OpenSpec.upto pathsGetSpec)) pathsGetUptoCard

/-- THE SECOND FORM's CARD OF 'trestlelaw03.PathsUnion'. -/
def pathsUnionUptoCard : Claim7 := { stood := { row := pathsUnionUptoRow, standIns := [], harness := (true, "f62b01575f68c625baf1a08326f45fbf0115493356e6399c62ae1c5ad72edb3a"), looks := false }, kinds := [], alts := [], laidByText := true, laidKinds := [.data, .pinned], laidTests := true, laidLooks := .later }
def PathsUnionUptoCardSaid : Prop := Claim7.holds Tryd.pinned (.plain (OpenSpec.upto pathsUnionSpec)) pathsUnionUptoCard

/-- THE SECOND FORM's CARD OF 'trestlelaw03.PathsTexts'. -/
def pathsTextsUptoCard : Claim7 := { stood := { row := pathsTextsUptoRow, standIns := [], harness := (true, "f62b01575f68c625baf1a08326f45fbf0115493356e6399c62ae1c5ad72edb3a"), looks := false }, kinds := [], alts := [], laidByText := true, laidKinds := [.data, .pinned], laidTests := true, laidLooks := .later }
def PathsTextsUptoCardSaid : Prop := Claim7.holds Tryd.pinned (.plain (OpenSpec.upto pathsTextsSpec)) pathsTextsUptoCard

/-- THE SECOND FORM's CARD OF 'trestlelaw03.PathsName'. -/
def pathsNameUptoCard : Claim7 := { stood := { row := pathsNameUptoRow, standIns := [], harness := (true, "f62b01575f68c625baf1a08326f45fbf0115493356e6399c62ae1c5ad72edb3a"), looks := false }, kinds := [], alts := [], laidByText := true, laidKinds := [.data, .pinned], laidTests := true, laidLooks := .later }
def PathsNameUptoCardSaid : Prop := Claim7.holds Tryd.pinned (.plain (OpenSpec.upto pathsNameSpec)) pathsNameUptoCard

/-- THE SECOND FORM's CARD OF 'trestlelaw03.PathsInto'. -/
def pathsIntoUptoCard : Claim7 := { stood := { row := pathsIntoUptoRow, standIns := [], harness := (true, "f62b01575f68c625baf1a08326f45fbf0115493356e6399c62ae1c5ad72edb3a"), looks := false }, kinds := [], alts := [], laidByText := true, laidKinds := [.data, .pinned], laidTests := true, laidLooks := .later }
def PathsIntoUptoCardSaid : Prop := Claim7.holds Tryd.pinned (.plain (OpenSpec.upto pathsIntoSpec)) pathsIntoUptoCard

/-- THE SECOND FORM's CARD OF 'trestlelaw03.PathsCheck'. -/
def pathsCheckUptoCard : Claim7 := { stood := { row := pathsCheckUptoRow, standIns := [], harness := (true, "f62b01575f68c625baf1a08326f45fbf0115493356e6399c62ae1c5ad72edb3a"), looks := false }, kinds := [], alts := [], laidByText := true, laidKinds := [.data, .pinned], laidTests := true, laidLooks := .later }
def PathsCheckUptoCardSaid : Prop := Claim7.holds Tryd.pinned (.plain (OpenSpec.upto pathsCheckSpec)) pathsCheckUptoCard

/-- THE SECOND FORM's CARD OF 'trestlelaw03.PathsApart'. -/
def pathsApartUptoCard : Claim7 := { stood := { row := pathsApartUptoRow, standIns := [], harness := (true, "f62b01575f68c625baf1a08326f45fbf0115493356e6399c62ae1c5ad72edb3a"), looks := false }, kinds := [], alts := [], laidByText := true, laidKinds := [.data, .pinned], laidTests := true, laidLooks := .later }
def PathsApartUptoCardSaid : Prop := Claim7.holds Tryd.pinned (.plain (OpenSpec.upto pathsApartSpec)) pathsApartUptoCard

/-- THE SECOND FORM's CARD OF 'trestlelaw03.PathsWithout'. -/
def pathsWithoutUptoCard : Claim7 := { stood := { row := pathsWithoutUptoRow, standIns := [], harness := (true, "f62b01575f68c625baf1a08326f45fbf0115493356e6399c62ae1c5ad72edb3a"), looks := false }, kinds := [], alts := [], laidByText := true, laidKinds := [.data, .pinned], laidTests := true, laidLooks := .later }
def PathsWithoutUptoCardSaid : Prop := Claim7.holds Tryd.pinned (.plain (OpenSpec.upto pathsWithoutSpec)) pathsWithoutUptoCard

/-- THE SECOND FORM's CARD OF 'trestlelaw03.PathsJoins'. -/
def pathsJoinsUptoCard : Claim7 := { stood := { row := pathsJoinsUptoRow, standIns := [], harness := (true, "f62b01575f68c625baf1a08326f45fbf0115493356e6399c62ae1c5ad72edb3a"), looks := false }, kinds := [], alts := [], laidByText := true, laidKinds := [.data, .pinned], laidTests := true, laidLooks := .later }
def PathsJoinsUptoCardSaid : Prop := Claim7.holds Tryd.pinned (.plain (OpenSpec.upto pathsJoinsSpec)) pathsJoinsUptoCard

/-- THE SECOND FORM's CARD OF 'trestlelaw03.PathsGets'. -/
def pathsGetsUptoCard : Claim7 := { stood := { row := pathsGetsUptoRow, standIns := [], harness := (true, "f62b01575f68c625baf1a08326f45fbf0115493356e6399c62ae1c5ad72edb3a"), looks := false }, kinds := [], alts := [], laidByText := true, laidKinds := [.data, .pinned], laidTests := true, laidLooks := .later }
def PathsGetsUptoCardSaid : Prop := Claim7.holds Tryd.pinned (.plain (OpenSpec.upto pathsGetsSpec)) pathsGetsUptoCard

/-- THE SECOND FORM's CARD OF 'trestlelaw03.PathsRight'. -/
def pathsRightUptoCard : Claim7 := { stood := { row := pathsRightUptoRow, standIns := [], harness := (true, "f62b01575f68c625baf1a08326f45fbf0115493356e6399c62ae1c5ad72edb3a"), looks := false }, kinds := [], alts := [], laidByText := true, laidKinds := [.data, .pinned], laidTests := true, laidLooks := .later }
def PathsRightUptoCardSaid : Prop := Claim7.holds Tryd.pinned (.plain (OpenSpec.upto pathsRightSpec)) pathsRightUptoCard
end Rows
end Go.Proofs.YtemopomapankmaaDoor
