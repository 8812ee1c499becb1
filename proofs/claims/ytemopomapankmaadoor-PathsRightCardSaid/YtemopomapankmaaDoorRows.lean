/-
  NARROWER THAN 'FOR EVERY INPUT', by the rows' own cells (each row's printed sentence says how): PathsPuts: laid · PathsPath: laid · PathsUnder: laid · PathsGet: laid · PathsUnion: laid · PathsTexts: laid · PathsName: laid · PathsInto: laid · PathsCheck: laid · PathsApart: laid · PathsWithout: laid · PathsJoins: laid · PathsGets: laid · PathsRight: laid.
  DERIVED. THE GIVEN ROWS OF THIS SEAT. 14 by the template 'for every input the law returns true; each argument reads behind the call as it read before'; 0 by the template 'total and deterministic' (their statements: YtemopomapankmaaDoorTotals.lean).
  GIVEN WITH THE SEED: the statements are not yours to turn. If you find one false, say at which input.
  Laid BY PROGRAM, IN A SANDBOX (cutbox-rows.mjs): the forced cells as the released guide's own fill.sh prints them over the translation c3bf518597784e21… (all of the seat's roots in one cut). By AI agents, Wed Nov 11 2026. No macro, syntax, notation, axiom, sorry.
-/
import Derived.Test.YtemopomapankmaaDoorChecked
import GoSem.PinnedTables
import GoSem.Claim
import GoSem.ClaimJoined
import GoSem.ClaimMapViews
import Derived.JoinedTies
import Derived.KernelRfl
namespace Go.Proofs.YtemopomapankmaaDoor
/- THE CELL 'sum', in the pinned program and in every row, IS THE sha256 OF THE DUMP (.gsa) THAT YtemopomapankmaaDoorProg.lean LOADS. Nothing in Lean hashes anything: it is a label: what it is worth is what the hold of that sum in a sandbox is worth. -/
noncomputable def Tryd.pinned : Pinned := { name := "ytemopomapankmaadoor", sum := "c3bf518597784e21f115cbc7e64a474ae492c70be01d0cf10c4e02d142c0d15d", checked := Tryd.checked }
namespace Rows
def none {H : Type} : Left H := { results := [], args := [] }

/- WHAT THE LISTED PACKAGE-LEVEL VARIABLES READ AS WHEN THE CALL BEGINS. Each datum BY PROGRAM (the guide's laid-datum.mjs) off the statement by which the dump's own 'gosem.cut.vars' lays the variable. In a bare row this is a premise. The card (YtemopomapankmaaDoorCards.lean) ties it to the program's text. -/
def laid_unicode_utf8_acceptRanges {H : Type} : DataW H := .agg [.agg [.lit (.int .u8 128), .lit (.int .u8 191)], .agg [.lit (.int .u8 160), .lit (.int .u8 191)], .agg [.lit (.int .u8 128), .lit (.int .u8 159)], .agg [.lit (.int .u8 144), .lit (.int .u8 191)], .agg [.lit (.int .u8 128), .lit (.int .u8 143)], .agg [.lit (.int .u8 0), .lit (.int .u8 0)], .agg [.lit (.int .u8 0), .lit (.int .u8 0)], .agg [.lit (.int .u8 0), .lit (.int .u8 0)], .agg [.lit (.int .u8 0), .lit (.int .u8 0)], .agg [.lit (.int .u8 0), .lit (.int .u8 0)], .agg [.lit (.int .u8 0), .lit (.int .u8 0)], .agg [.lit (.int .u8 0), .lit (.int .u8 0)], .agg [.lit (.int .u8 0), .lit (.int .u8 0)], .agg [.lit (.int .u8 0), .lit (.int .u8 0)], .agg [.lit (.int .u8 0), .lit (.int .u8 0)], .agg [.lit (.int .u8 0), .lit (.int .u8 0)]]
/-- One of Go's own tables, pinned by name: the form's constant. -/
def laid_unicode_utf8_first : DataW Unit := Go.Pinned.utf8First

/-- 'trestlelaw03.PathsPuts': WHATEVER THE INPUT: true; the input reads as it did. -/
def pathsPutsSpec : ChangeSpec := { name := "pathsPuts", fn := fun _ => fun
  | [d1, d2] => { results := [.lit (.bool true)], args := [d1, d2] }
  | _ => none }
def pathsPutsRow : OpenClaim := { program := "ytemopomapankmaadoor", sum := "c3bf518597784e21f115cbc7e64a474ae492c70be01d0cf10c4e02d142c0d15d", func := "trestle/trestlelaw03.PathsPuts", spec := "pathsPuts", inPlace := ["internal/bytealg.CountString", "internal/bytealg.IndexByteString", "internal/bytealg.IndexString", "slices.overlaps[trestle/api.File]"], unfollowed := true, recurses := true, named := ["unicode/utf8.first", "unicode/utf8.acceptRanges", "internal/bytealg.MaxLen"], apart := false, laid := [("unicode/utf8.acceptRanges", laid_unicode_utf8_acceptRanges), ("unicode/utf8.first", laid_unicode_utf8_first)] }
def PathsPutsSaid : Prop := pathsPutsRow.holds Tryd.pinned (OpenSpec.ofChange pathsPutsSpec)

/-- ITS FALSE NEIGHBOUR: 'it returns false'. Refute it at one input. -/
def pathsPutsWrong : ChangeSpec := { name := "pathsPuts", fn := fun _ => fun
  | [d1, d2] => { results := [.lit (.bool false)], args := [d1, d2] }
  | _ => none }
def PathsPutsWrongFalsely : Prop := pathsPutsRow.holds Tryd.pinned (OpenSpec.ofChange pathsPutsWrong)

/-- 'trestlelaw03.PathsPath': WHATEVER THE INPUT: true; the input reads as it did. -/
def pathsPathSpec : ChangeSpec := { name := "pathsPath", fn := fun _ => fun
  | [d] => { results := [.lit (.bool true)], args := [d] }
  | _ => none }
def pathsPathRow : OpenClaim := { program := "ytemopomapankmaadoor", sum := "c3bf518597784e21f115cbc7e64a474ae492c70be01d0cf10c4e02d142c0d15d", func := "trestle/trestlelaw03.PathsPath", spec := "pathsPath", inPlace := ["internal/bytealg.CountString", "internal/bytealg.IndexByteString", "internal/bytealg.IndexString", "slices.overlaps[trestle/api.File]"], unfollowed := true, recurses := true, named := ["unicode/utf8.first", "unicode/utf8.acceptRanges", "internal/bytealg.MaxLen"], apart := false, laid := [("unicode/utf8.acceptRanges", laid_unicode_utf8_acceptRanges), ("unicode/utf8.first", laid_unicode_utf8_first)] }
def PathsPathSaid : Prop := pathsPathRow.holds Tryd.pinned (OpenSpec.ofChange pathsPathSpec)

/-- ITS FALSE NEIGHBOUR: 'it returns false'. Refute it at one input. -/
def pathsPathWrong : ChangeSpec := { name := "pathsPath", fn := fun _ => fun
  | [d] => { results := [.lit (.bool false)], args := [d] }
  | _ => none }
def PathsPathWrongFalsely : Prop := pathsPathRow.holds Tryd.pinned (OpenSpec.ofChange pathsPathWrong)

/-- 'trestlelaw03.PathsUnder': WHATEVER THE INPUT: true; the input reads as it did. -/
def pathsUnderSpec : ChangeSpec := { name := "pathsUnder", fn := fun _ => fun
  | [d1, d2] => { results := [.lit (.bool true)], args := [d1, d2] }
  | _ => none }
def pathsUnderRow : OpenClaim := { program := "ytemopomapankmaadoor", sum := "c3bf518597784e21f115cbc7e64a474ae492c70be01d0cf10c4e02d142c0d15d", func := "trestle/trestlelaw03.PathsUnder", spec := "pathsUnder", inPlace := ["internal/bytealg.CountString", "internal/bytealg.IndexByteString", "internal/bytealg.IndexString", "slices.overlaps[trestle/api.File]"], unfollowed := true, recurses := true, named := ["unicode/utf8.first", "unicode/utf8.acceptRanges", "internal/bytealg.MaxLen"], apart := false, laid := [("unicode/utf8.acceptRanges", laid_unicode_utf8_acceptRanges), ("unicode/utf8.first", laid_unicode_utf8_first)] }
def PathsUnderSaid : Prop := pathsUnderRow.holds Tryd.pinned (OpenSpec.ofChange pathsUnderSpec)

/-- ITS FALSE NEIGHBOUR: 'it returns false'. Refute it at one input. -/
def pathsUnderWrong : ChangeSpec := { name := "pathsUnder", fn := fun _ => fun
  | [d1, d2] => { results := [.lit (.bool false)], args := [d1, d2] }
  | _ => none }
def PathsUnderWrongFalsely : Prop := pathsUnderRow.holds Tryd.pinned (OpenSpec.ofChange pathsUnderWrong)

/-- 'trestlelaw03.PathsGet': WHATEVER THE INPUT: true; the input reads as it did. -/
def pathsGetSpec : ChangeSpec := { name := "pathsGet", fn := fun _ => fun
  | [d1, d2] => { results := [.lit (.bool true)], args := [d1, d2] }
  | _ => none }
def pathsGetRow : OpenClaim := { program := "ytemopomapankmaadoor", sum := "c3bf518597784e21f115cbc7e64a474ae492c70be01d0cf10c4e02d142c0d15d", func := "trestle/trestlelaw03.PathsGet", spec := "pathsGet", inPlace := ["internal/bytealg.CountString", "internal/bytealg.IndexByteString", "internal/bytealg.IndexString", "slices.overlaps[trestle/api.File]"], unfollowed := true, recurses := true, named := ["unicode/utf8.first", "unicode/utf8.acceptRanges", "internal/bytealg.MaxLen"], apart := false, laid := [("unicode/utf8.acceptRanges", laid_unicode_utf8_acceptRanges), ("unicode/utf8.first", laid_unicode_utf8_first)] }
def PathsGetSaid : Prop := pathsGetRow.holds Tryd.pinned (OpenSpec.ofChange pathsGetSpec)

/-- ITS FALSE NEIGHBOUR: 'it returns false'. Refute it at one input. -/
def pathsGetWrong : ChangeSpec := { name := "pathsGet", fn := fun _ => fun
  | [d1, d2] => { results := [.lit (.bool false)], args := [d1, d2] }
  | _ => none }
def PathsGetWrongFalsely : Prop := pathsGetRow.holds Tryd.pinned (OpenSpec.ofChange pathsGetWrong)

/-- 'trestlelaw03.PathsUnion': WHATEVER THE INPUT: true; the input reads as it did. -/
def pathsUnionSpec : ChangeSpec := { name := "pathsUnion", fn := fun _ => fun
  | [d1, d2] => { results := [.lit (.bool true)], args := [d1, d2] }
  | _ => none }
def pathsUnionRow : OpenClaim := { program := "ytemopomapankmaadoor", sum := "c3bf518597784e21f115cbc7e64a474ae492c70be01d0cf10c4e02d142c0d15d", func := "trestle/trestlelaw03.PathsUnion", spec := "pathsUnion", inPlace := ["internal/bytealg.CountString", "internal/bytealg.IndexByteString", "internal/bytealg.IndexString", "slices.overlaps[trestle/api.File]"], unfollowed := true, recurses := true, named := ["unicode/utf8.first", "unicode/utf8.acceptRanges", "internal/bytealg.MaxLen"], apart := false, laid := [("unicode/utf8.acceptRanges", laid_unicode_utf8_acceptRanges), ("unicode/utf8.first", laid_unicode_utf8_first)] }
def PathsUnionSaid : Prop := pathsUnionRow.holds Tryd.pinned (OpenSpec.ofChange pathsUnionSpec)

/-- ITS FALSE NEIGHBOUR: 'it returns false'. Refute it at one input. -/
def pathsUnionWrong : ChangeSpec := { name := "pathsUnion", fn := fun _ => fun
  | [d1, d2] => { results := [.lit (.bool false)], args := [d1, d2] }
  | _ => none }
def PathsUnionWrongFalsely : Prop := pathsUnionRow.holds Tryd.pinned (OpenSpec.ofChange pathsUnionWrong)

/-- 'trestlelaw03.PathsTexts': WHATEVER THE INPUT: true; the input reads as it did. -/
def pathsTextsSpec : ChangeSpec := { name := "pathsTexts", fn := fun _ => fun
  | [d] => { results := [.lit (.bool true)], args := [d] }
  | _ => none }
def pathsTextsRow : OpenClaim := { program := "ytemopomapankmaadoor", sum := "c3bf518597784e21f115cbc7e64a474ae492c70be01d0cf10c4e02d142c0d15d", func := "trestle/trestlelaw03.PathsTexts", spec := "pathsTexts", inPlace := ["internal/bytealg.CountString", "internal/bytealg.IndexByteString", "internal/bytealg.IndexString", "slices.overlaps[trestle/api.File]"], unfollowed := true, recurses := true, named := ["unicode/utf8.first", "unicode/utf8.acceptRanges", "internal/bytealg.MaxLen"], apart := false, laid := [("unicode/utf8.acceptRanges", laid_unicode_utf8_acceptRanges), ("unicode/utf8.first", laid_unicode_utf8_first)] }
def PathsTextsSaid : Prop := pathsTextsRow.holds Tryd.pinned (OpenSpec.ofChange pathsTextsSpec)

/-- ITS FALSE NEIGHBOUR: 'it returns false'. Refute it at one input. -/
def pathsTextsWrong : ChangeSpec := { name := "pathsTexts", fn := fun _ => fun
  | [d] => { results := [.lit (.bool false)], args := [d] }
  | _ => none }
def PathsTextsWrongFalsely : Prop := pathsTextsRow.holds Tryd.pinned (OpenSpec.ofChange pathsTextsWrong)

/-- 'trestlelaw03.PathsName': WHATEVER THE INPUT: true; the input reads as it did. -/
def pathsNameSpec : ChangeSpec := { name := "pathsName", fn := fun _ => fun
  | [d] => { results := [.lit (.bool true)], args := [d] }
  | _ => none }
def pathsNameRow : OpenClaim := { program := "ytemopomapankmaadoor", sum := "c3bf518597784e21f115cbc7e64a474ae492c70be01d0cf10c4e02d142c0d15d", func := "trestle/trestlelaw03.PathsName", spec := "pathsName", inPlace := ["internal/bytealg.CountString", "internal/bytealg.IndexByteString", "internal/bytealg.IndexString", "slices.overlaps[trestle/api.File]"], unfollowed := true, recurses := true, named := ["unicode/utf8.first", "unicode/utf8.acceptRanges", "internal/bytealg.MaxLen"], apart := false, laid := [("unicode/utf8.acceptRanges", laid_unicode_utf8_acceptRanges), ("unicode/utf8.first", laid_unicode_utf8_first)] }
def PathsNameSaid : Prop := pathsNameRow.holds Tryd.pinned (OpenSpec.ofChange pathsNameSpec)

/-- ITS FALSE NEIGHBOUR: 'it returns false'. Refute it at one input. -/
def pathsNameWrong : ChangeSpec := { name := "pathsName", fn := fun _ => fun
  | [d] => { results := [.lit (.bool false)], args := [d] }
  | _ => none }
def PathsNameWrongFalsely : Prop := pathsNameRow.holds Tryd.pinned (OpenSpec.ofChange pathsNameWrong)

/-- 'trestlelaw03.PathsInto': WHATEVER THE INPUT: true; the input reads as it did. -/
def pathsIntoSpec : ChangeSpec := { name := "pathsInto", fn := fun _ => fun
  | [d1, d2] => { results := [.lit (.bool true)], args := [d1, d2] }
  | _ => none }
def pathsIntoRow : OpenClaim := { program := "ytemopomapankmaadoor", sum := "c3bf518597784e21f115cbc7e64a474ae492c70be01d0cf10c4e02d142c0d15d", func := "trestle/trestlelaw03.PathsInto", spec := "pathsInto", inPlace := ["internal/bytealg.CountString", "internal/bytealg.IndexByteString", "internal/bytealg.IndexString", "slices.overlaps[trestle/api.File]"], unfollowed := true, recurses := true, named := ["unicode/utf8.first", "unicode/utf8.acceptRanges", "internal/bytealg.MaxLen"], apart := false, laid := [("unicode/utf8.acceptRanges", laid_unicode_utf8_acceptRanges), ("unicode/utf8.first", laid_unicode_utf8_first)] }
def PathsIntoSaid : Prop := pathsIntoRow.holds Tryd.pinned (OpenSpec.ofChange pathsIntoSpec)

/-- ITS FALSE NEIGHBOUR: 'it returns false'. Refute it at one input. -/
def pathsIntoWrong : ChangeSpec := { name := "pathsInto", fn := fun _ => fun
  | [d1, d2] => { results := [.lit (.bool false)], args := [d1, d2] }
  | _ => none }
def PathsIntoWrongFalsely : Prop := pathsIntoRow.holds Tryd.pinned (OpenSpec.ofChange pathsIntoWrong)

/-- 'trestlelaw03.PathsCheck': WHATEVER THE INPUT: true; the input reads as it did. -/
def pathsCheckSpec : ChangeSpec := { name := "pathsCheck", fn := fun _ => fun
  | [d] => { results := [.lit (.bool true)], args := [d] }
  | _ => none }
def pathsCheckRow : OpenClaim := { program := "ytemopomapankmaadoor", sum := "c3bf518597784e21f115cbc7e64a474ae492c70be01d0cf10c4e02d142c0d15d", func := "trestle/trestlelaw03.PathsCheck", spec := "pathsCheck", inPlace := ["internal/bytealg.CountString", "internal/bytealg.IndexByteString", "internal/bytealg.IndexString", "slices.overlaps[trestle/api.File]"], unfollowed := true, recurses := true, named := ["unicode/utf8.first", "unicode/utf8.acceptRanges", "internal/bytealg.MaxLen"], apart := false, laid := [("unicode/utf8.acceptRanges", laid_unicode_utf8_acceptRanges), ("unicode/utf8.first", laid_unicode_utf8_first)] }
def PathsCheckSaid : Prop := pathsCheckRow.holds Tryd.pinned (OpenSpec.ofChange pathsCheckSpec)

/-- ITS FALSE NEIGHBOUR: 'it returns false'. Refute it at one input. -/
def pathsCheckWrong : ChangeSpec := { name := "pathsCheck", fn := fun _ => fun
  | [d] => { results := [.lit (.bool false)], args := [d] }
  | _ => none }
def PathsCheckWrongFalsely : Prop := pathsCheckRow.holds Tryd.pinned (OpenSpec.ofChange pathsCheckWrong)

/-- 'trestlelaw03.PathsApart': WHATEVER THE INPUT: true; the input reads as it did. -/
def pathsApartSpec : ChangeSpec := { name := "pathsApart", fn := fun _ => fun
  | [d1, d2] => { results := [.lit (.bool true)], args := [d1, d2] }
  | _ => none }
def pathsApartRow : OpenClaim := { program := "ytemopomapankmaadoor", sum := "c3bf518597784e21f115cbc7e64a474ae492c70be01d0cf10c4e02d142c0d15d", func := "trestle/trestlelaw03.PathsApart", spec := "pathsApart", inPlace := ["internal/bytealg.CountString", "internal/bytealg.IndexByteString", "internal/bytealg.IndexString", "slices.overlaps[trestle/api.File]"], unfollowed := true, recurses := true, named := ["unicode/utf8.first", "unicode/utf8.acceptRanges", "internal/bytealg.MaxLen"], apart := false, laid := [("unicode/utf8.acceptRanges", laid_unicode_utf8_acceptRanges), ("unicode/utf8.first", laid_unicode_utf8_first)] }
def PathsApartSaid : Prop := pathsApartRow.holds Tryd.pinned (OpenSpec.ofChange pathsApartSpec)

/-- ITS FALSE NEIGHBOUR: 'it returns false'. Refute it at one input. -/
def pathsApartWrong : ChangeSpec := { name := "pathsApart", fn := fun _ => fun
  | [d1, d2] => { results := [.lit (.bool false)], args := [d1, d2] }
  | _ => none }
def PathsApartWrongFalsely : Prop := pathsApartRow.holds Tryd.pinned (OpenSpec.ofChange pathsApartWrong)

/-- 'trestlelaw03.PathsWithout': WHATEVER THE INPUT: true; the input reads as it did. -/
def pathsWithoutSpec : ChangeSpec := { name := "pathsWithout", fn := fun _ => fun
  | [d1, d2] => { results := [.lit (.bool true)], args := [d1, d2] }
  | _ => none }
def pathsWithoutRow : OpenClaim := { program := "ytemopomapankmaadoor", sum := "c3bf518597784e21f115cbc7e64a474ae492c70be01d0cf10c4e02d142c0d15d", func := "trestle/trestlelaw03.PathsWithout", spec := "pathsWithout", inPlace := ["internal/bytealg.CountString", "internal/bytealg.IndexByteString", "internal/bytealg.IndexString", "slices.overlaps[trestle/api.File]"], unfollowed := true, recurses := true, named := ["unicode/utf8.first", "unicode/utf8.acceptRanges", "internal/bytealg.MaxLen"], apart := false, laid := [("unicode/utf8.acceptRanges", laid_unicode_utf8_acceptRanges), ("unicode/utf8.first", laid_unicode_utf8_first)] }
def PathsWithoutSaid : Prop := pathsWithoutRow.holds Tryd.pinned (OpenSpec.ofChange pathsWithoutSpec)

/-- ITS FALSE NEIGHBOUR: 'it returns false'. Refute it at one input. -/
def pathsWithoutWrong : ChangeSpec := { name := "pathsWithout", fn := fun _ => fun
  | [d1, d2] => { results := [.lit (.bool false)], args := [d1, d2] }
  | _ => none }
def PathsWithoutWrongFalsely : Prop := pathsWithoutRow.holds Tryd.pinned (OpenSpec.ofChange pathsWithoutWrong)

/-- 'trestlelaw03.PathsJoins': WHATEVER THE INPUT: true; the input reads as it did. -/
def pathsJoinsSpec : ChangeSpec := { name := "pathsJoins", fn := fun _ => fun
  | [d1, d2, d3] => { results := [.lit (.bool true)], args := [d1, d2, d3] }
  | _ => none }
def pathsJoinsRow : OpenClaim := { program := "ytemopomapankmaadoor", sum := "c3bf518597784e21f115cbc7e64a474ae492c70be01d0cf10c4e02d142c0d15d", func := "trestle/trestlelaw03.PathsJoins", spec := "pathsJoins", inPlace := ["internal/bytealg.CountString", "internal/bytealg.IndexByteString", "internal/bytealg.IndexString", "slices.overlaps[trestle/api.File]"], unfollowed := true, recurses := true, named := ["unicode/utf8.first", "unicode/utf8.acceptRanges", "internal/bytealg.MaxLen"], apart := false, laid := [("unicode/utf8.acceptRanges", laid_unicode_utf8_acceptRanges), ("unicode/utf8.first", laid_unicode_utf8_first)] }
def PathsJoinsSaid : Prop := pathsJoinsRow.holds Tryd.pinned (OpenSpec.ofChange pathsJoinsSpec)

/-- ITS FALSE NEIGHBOUR: 'it returns false'. Refute it at one input. -/
def pathsJoinsWrong : ChangeSpec := { name := "pathsJoins", fn := fun _ => fun
  | [d1, d2, d3] => { results := [.lit (.bool false)], args := [d1, d2, d3] }
  | _ => none }
def PathsJoinsWrongFalsely : Prop := pathsJoinsRow.holds Tryd.pinned (OpenSpec.ofChange pathsJoinsWrong)

/-- 'trestlelaw03.PathsGets': WHATEVER THE INPUT: true; the input reads as it did. -/
def pathsGetsSpec : ChangeSpec := { name := "pathsGets", fn := fun _ => fun
  | [d1, d2] => { results := [.lit (.bool true)], args := [d1, d2] }
  | _ => none }
def pathsGetsRow : OpenClaim := { program := "ytemopomapankmaadoor", sum := "c3bf518597784e21f115cbc7e64a474ae492c70be01d0cf10c4e02d142c0d15d", func := "trestle/trestlelaw03.PathsGets", spec := "pathsGets", inPlace := ["internal/bytealg.CountString", "internal/bytealg.IndexByteString", "internal/bytealg.IndexString", "slices.overlaps[trestle/api.File]"], unfollowed := true, recurses := true, named := ["unicode/utf8.first", "unicode/utf8.acceptRanges", "internal/bytealg.MaxLen"], apart := false, laid := [("unicode/utf8.acceptRanges", laid_unicode_utf8_acceptRanges), ("unicode/utf8.first", laid_unicode_utf8_first)] }
def PathsGetsSaid : Prop := pathsGetsRow.holds Tryd.pinned (OpenSpec.ofChange pathsGetsSpec)

/-- ITS FALSE NEIGHBOUR: 'it returns false'. Refute it at one input. -/
def pathsGetsWrong : ChangeSpec := { name := "pathsGets", fn := fun _ => fun
  | [d1, d2] => { results := [.lit (.bool false)], args := [d1, d2] }
  | _ => none }
def PathsGetsWrongFalsely : Prop := pathsGetsRow.holds Tryd.pinned (OpenSpec.ofChange pathsGetsWrong)

/-- 'trestlelaw03.PathsRight': WHATEVER THE INPUT: true; the input reads as it did. -/
def pathsRightSpec : ChangeSpec := { name := "pathsRight", fn := fun _ => fun
  | [d1, d2, d3] => { results := [.lit (.bool true)], args := [d1, d2, d3] }
  | _ => none }
def pathsRightRow : OpenClaim := { program := "ytemopomapankmaadoor", sum := "c3bf518597784e21f115cbc7e64a474ae492c70be01d0cf10c4e02d142c0d15d", func := "trestle/trestlelaw03.PathsRight", spec := "pathsRight", inPlace := ["internal/bytealg.CountString", "internal/bytealg.IndexByteString", "internal/bytealg.IndexString", "slices.overlaps[trestle/api.File]"], unfollowed := true, recurses := true, named := ["unicode/utf8.first", "unicode/utf8.acceptRanges", "internal/bytealg.MaxLen"], apart := false, laid := [("unicode/utf8.acceptRanges", laid_unicode_utf8_acceptRanges), ("unicode/utf8.first", laid_unicode_utf8_first)] }
def PathsRightSaid : Prop := pathsRightRow.holds Tryd.pinned (OpenSpec.ofChange pathsRightSpec)

/-- ITS FALSE NEIGHBOUR: 'it returns false'. Refute it at one input. -/
def pathsRightWrong : ChangeSpec := { name := "pathsRight", fn := fun _ => fun
  | [d1, d2, d3] => { results := [.lit (.bool false)], args := [d1, d2, d3] }
  | _ => none }
def PathsRightWrongFalsely : Prop := pathsRightRow.holds Tryd.pinned (OpenSpec.ofChange pathsRightWrong)

/- THE SECOND FORM. 'bulk': how many values and letters a reading holds, each counted each time it is reached (what is shared counts as often as it is met; a slice's spare places count too). A statement '..UptoSaid' is the law's where the arguments, and the package variables that the reading takes, are together of bulk at most 1048576: NARROWER than '..Said'. Prove '..Said' where nothing that the law and all that it calls make is longer than what came in: it says more and counts as full. Else prove '..UptoSaid'. A law counts once. -/
mutual
def uptoBulk {H : Type} : DataW H → Nat
  | .lit (.string bytes) => bytes.length + 1
  | .lit _ => 1
  | .nil => 1
  | .ptr d => uptoBulk d + 1
  | .slice elems spare => uptoBulkAll elems + uptoBulkAll spare + 1
  | .agg parts => uptoBulkAll parts + 1
  | .iface _ d => uptoBulk d + 1
  | .map entries => uptoBulkEntries entries + 1
  | .held _ => 1
def uptoBulkAll {H : Type} : List (DataW H) → Nat
  | [] => 0
  | d :: r => uptoBulk d + uptoBulkAll r
def uptoBulkEntries {H : Type} : List (Lit × DataW H) → Nat
  | [] => 0
  | x :: r => uptoBulkEntry x + uptoBulkEntries r
def uptoBulkEntry {H : Type} : Lit × DataW H → Nat
  | (.string bytes, d) => bytes.length + uptoBulk d + 1
  | (_, d) => uptoBulk d + 1
 end
def uptoSmall : (H : Type) → List (DataW H) → Bool := fun _ ds => decide (uptoBulkAll ds ≤ 1048576)
def OpenSpec.upto (s : _root_.Go.ChangeSpec) : _root_.Go.OpenSpec := { _root_.Go.OpenSpec.ofChange s with cond := some uptoSmall }

/-- 'trestlelaw03.PathsPuts', WHERE WHAT IT READS IS OF BULK AT MOST 1048576: true; the input reads as it did. -/
def pathsPutsUptoRow : OpenClaim := { program := "ytemopomapankmaadoor", sum := "c3bf518597784e21f115cbc7e64a474ae492c70be01d0cf10c4e02d142c0d15d", func := "trestle/trestlelaw03.PathsPuts", spec := "pathsPuts", inPlace := ["internal/bytealg.CountString", "internal/bytealg.IndexByteString", "internal/bytealg.IndexString", "slices.overlaps[trestle/api.File]"], unfollowed := true, recurses := true, named := ["unicode/utf8.first", "unicode/utf8.acceptRanges", "internal/bytealg.MaxLen"], apart := false, laid := [("unicode/utf8.acceptRanges", laid_unicode_utf8_acceptRanges), ("unicode/utf8.first", laid_unicode_utf8_first)], narrowed := true }
def PathsPutsUptoSaid : Prop := pathsPutsUptoRow.holds Tryd.pinned (OpenSpec.upto pathsPutsSpec)

/-- 'trestlelaw03.PathsPath', WHERE WHAT IT READS IS OF BULK AT MOST 1048576: true; the input reads as it did. -/
def pathsPathUptoRow : OpenClaim := { program := "ytemopomapankmaadoor", sum := "c3bf518597784e21f115cbc7e64a474ae492c70be01d0cf10c4e02d142c0d15d", func := "trestle/trestlelaw03.PathsPath", spec := "pathsPath", inPlace := ["internal/bytealg.CountString", "internal/bytealg.IndexByteString", "internal/bytealg.IndexString", "slices.overlaps[trestle/api.File]"], unfollowed := true, recurses := true, named := ["unicode/utf8.first", "unicode/utf8.acceptRanges", "internal/bytealg.MaxLen"], apart := false, laid := [("unicode/utf8.acceptRanges", laid_unicode_utf8_acceptRanges), ("unicode/utf8.first", laid_unicode_utf8_first)], narrowed := true }
def PathsPathUptoSaid : Prop := pathsPathUptoRow.holds Tryd.pinned (OpenSpec.upto pathsPathSpec)

/-- 'trestlelaw03.PathsUnder', WHERE WHAT IT READS IS OF BULK AT MOST 1048576: true; the input reads as it did. -/
def pathsUnderUptoRow : OpenClaim := { program := "ytemopomapankmaadoor", sum := "c3bf518597784e21f115cbc7e64a474ae492c70be01d0cf10c4e02d142c0d15d", func := "trestle/trestlelaw03.PathsUnder", spec := "pathsUnder", inPlace := ["internal/bytealg.CountString", "internal/bytealg.IndexByteString", "internal/bytealg.IndexString", "slices.overlaps[trestle/api.File]"], unfollowed := true, recurses := true, named := ["unicode/utf8.first", "unicode/utf8.acceptRanges", "internal/bytealg.MaxLen"], apart := false, laid := [("unicode/utf8.acceptRanges", laid_unicode_utf8_acceptRanges), ("unicode/utf8.first", laid_unicode_utf8_first)], narrowed := true }
def PathsUnderUptoSaid : Prop := pathsUnderUptoRow.holds Tryd.pinned (OpenSpec.upto pathsUnderSpec)

/-- 'trestlelaw03.PathsGet', WHERE WHAT IT READS IS OF BULK AT MOST 1048576: true; the input reads as it did. -/
def pathsGetUptoRow : OpenClaim := { program := "ytemopomapankmaadoor", sum := "c3bf518597784e21f115cbc7e64a474ae492c70be01d0cf10c4e02d142c0d15d", func := "trestle/trestlelaw03.PathsGet", spec := "pathsGet", inPlace := ["internal/bytealg.CountString", "internal/bytealg.IndexByteString", "internal/bytealg.IndexString", "slices.overlaps[trestle/api.File]"], unfollowed := true, recurses := true, named := ["unicode/utf8.first", "unicode/utf8.acceptRanges", "internal/bytealg.MaxLen"], apart := false, laid := [("unicode/utf8.acceptRanges", laid_unicode_utf8_acceptRanges), ("unicode/utf8.first", laid_unicode_utf8_first)], narrowed := true }
def PathsGetUptoSaid : Prop := pathsGetUptoRow.holds Tryd.pinned (OpenSpec.upto pathsGetSpec)

/-- 'trestlelaw03.PathsUnion', WHERE WHAT IT READS IS OF BULK AT MOST 1048576: true; the input reads as it did. -/
def pathsUnionUptoRow : OpenClaim := { program := "ytemopomapankmaadoor", sum := "c3bf518597784e21f115cbc7e64a474ae492c70be01d0cf10c4e02d142c0d15d", func := "trestle/trestlelaw03.PathsUnion", spec := "pathsUnion", inPlace := ["internal/bytealg.CountString", "internal/bytealg.IndexByteString", "internal/bytealg.IndexString", "slices.overlaps[trestle/api.File]"], unfollowed := true, recurses := true, named := ["unicode/utf8.first", "unicode/utf8.acceptRanges", "internal/bytealg.MaxLen"], apart := false, laid := [("unicode/utf8.acceptRanges", laid_unicode_utf8_acceptRanges), ("unicode/utf8.first", laid_unicode_utf8_first)], narrowed := true }
def PathsUnionUptoSaid : Prop := pathsUnionUptoRow.holds Tryd.pinned (OpenSpec.upto pathsUnionSpec)

/-- 'trestlelaw03.PathsTexts', WHERE WHAT IT READS IS OF BULK AT MOST 1048576: true; the input reads as it did. -/
def pathsTextsUptoRow : OpenClaim := { program := "ytemopomapankmaadoor", sum := "c3bf518597784e21f115cbc7e64a474ae492c70be01d0cf10c4e02d142c0d15d", func := "trestle/trestlelaw03.PathsTexts", spec := "pathsTexts", inPlace := ["internal/bytealg.CountString", "internal/bytealg.IndexByteString", "internal/bytealg.IndexString", "slices.overlaps[trestle/api.File]"], unfollowed := true, recurses := true, named := ["unicode/utf8.first", "unicode/utf8.acceptRanges", "internal/bytealg.MaxLen"], apart := false, laid := [("unicode/utf8.acceptRanges", laid_unicode_utf8_acceptRanges), ("unicode/utf8.first", laid_unicode_utf8_first)], narrowed := true }
def PathsTextsUptoSaid : Prop := pathsTextsUptoRow.holds Tryd.pinned (OpenSpec.upto pathsTextsSpec)

/-- 'trestlelaw03.PathsName', WHERE WHAT IT READS IS OF BULK AT MOST 1048576: true; the input reads as it did. -/
def pathsNameUptoRow : OpenClaim := { program := "ytemopomapankmaadoor", sum := "c3bf518597784e21f115cbc7e64a474ae492c70be01d0cf10c4e02d142c0d15d", func := "trestle/trestlelaw03.PathsName", spec := "pathsName", inPlace := ["internal/bytealg.CountString", "internal/bytealg.IndexByteString", "internal/bytealg.IndexString", "slices.overlaps[trestle/api.File]"], unfollowed := true, recurses := true, named := ["unicode/utf8.first", "unicode/utf8.acceptRanges", "internal/bytealg.MaxLen"], apart := false, laid := [("unicode/utf8.acceptRanges", laid_unicode_utf8_acceptRanges), ("unicode/utf8.first", laid_unicode_utf8_first)], narrowed := true }
def PathsNameUptoSaid : Prop := pathsNameUptoRow.holds Tryd.pinned (OpenSpec.upto pathsNameSpec)

/-- 'trestlelaw03.PathsInto', WHERE WHAT IT READS IS OF BULK AT MOST 1048576: true; the input reads as it did. -/
def pathsIntoUptoRow : OpenClaim := { program := "ytemopomapankmaadoor", sum := "c3bf518597784e21f115cbc7e64a474ae492c70be01d0cf10c4e02d142c0d15d", func := "trestle/trestlelaw03.PathsInto", spec := "pathsInto", inPlace := ["internal/bytealg.CountString", "internal/bytealg.IndexByteString", "internal/bytealg.IndexString", "slices.overlaps[trestle/api.File]"], unfollowed := true, recurses := true, named := ["unicode/utf8.first", "unicode/utf8.acceptRanges", "internal/bytealg.MaxLen"], apart := false, laid := [("unicode/utf8.acceptRanges", laid_unicode_utf8_acceptRanges), ("unicode/utf8.first", laid_unicode_utf8_first)], narrowed := true }
def PathsIntoUptoSaid : Prop := pathsIntoUptoRow.holds Tryd.pinned (OpenSpec.upto pathsIntoSpec)

/-- 'trestlelaw03.PathsCheck', WHERE WHAT IT READS IS OF BULK AT MOST 1048576: true; the input reads as it did. -/
def pathsCheckUptoRow : OpenClaim := { program := "ytemopomapankmaadoor", sum := "c3bf518597784e21f115cbc7e64a474ae492c70be01d0cf10c4e02d142c0d15d", func := "trestle/trestlelaw03.PathsCheck", spec := "pathsCheck", inPlace := ["internal/bytealg.CountString", "internal/bytealg.IndexByteString", "internal/bytealg.IndexString", "slices.overlaps[trestle/api.File]"], unfollowed := true, recurses := true, named := ["unicode/utf8.first", "unicode/utf8.acceptRanges", "internal/bytealg.MaxLen"], apart := false, laid := [("unicode/utf8.acceptRanges", laid_unicode_utf8_acceptRanges), ("unicode/utf8.first", laid_unicode_utf8_first)], narrowed := true }
def PathsCheckUptoSaid : Prop := pathsCheckUptoRow.holds Tryd.pinned (OpenSpec.upto pathsCheckSpec)

/-- 'trestlelaw03.PathsApart', WHERE WHAT IT READS IS OF BULK AT MOST 1048576: true; the input reads as it did. -/
def pathsApartUptoRow : OpenClaim := { program := "ytemopomapankmaadoor", sum := "c3bf518597784e21f115cbc7e64a474ae492c70be01d0cf10c4e02d142c0d15d", func := "trestle/trestlelaw03.PathsApart", spec := "pathsApart", inPlace := ["internal/bytealg.CountString", "internal/bytealg.IndexByteString", "internal/bytealg.IndexString", "slices.overlaps[trestle/api.File]"], unfollowed := true, recurses := true, named := ["unicode/utf8.first", "unicode/utf8.acceptRanges", "internal/bytealg.MaxLen"], apart := false, laid := [("unicode/utf8.acceptRanges", laid_unicode_utf8_acceptRanges), ("unicode/utf8.first", laid_unicode_utf8_first)], narrowed := true }
def PathsApartUptoSaid : Prop := pathsApartUptoRow.holds Tryd.pinned (OpenSpec.upto pathsApartSpec)

/-- 'trestlelaw03.PathsWithout', WHERE WHAT IT READS IS OF BULK AT MOST 1048576: true; the input reads as it did. -/
def pathsWithoutUptoRow : OpenClaim := { program := "ytemopomapankmaadoor", sum := "c3bf518597784e21f115cbc7e64a474ae492c70be01d0cf10c4e02d142c0d15d", func := "trestle/trestlelaw03.PathsWithout", spec := "pathsWithout", inPlace := ["internal/bytealg.CountString", "internal/bytealg.IndexByteString", "internal/bytealg.IndexString", "slices.overlaps[trestle/api.File]"], unfollowed := true, recurses := true, named := ["unicode/utf8.first", "unicode/utf8.acceptRanges", "internal/bytealg.MaxLen"], apart := false, laid := [("unicode/utf8.acceptRanges", laid_unicode_utf8_acceptRanges), ("unicode/utf8.first", laid_unicode_utf8_first)], narrowed := true }
def PathsWithoutUptoSaid : Prop := pathsWithoutUptoRow.holds Tryd.pinned (OpenSpec.upto pathsWithoutSpec)

/-- 'trestlelaw03.PathsJoins', WHERE WHAT IT READS IS OF BULK AT MOST 1048576: true; the input reads as it did. -/
def pathsJoinsUptoRow : OpenClaim := { program := "ytemopomapankmaadoor", sum := "c3bf518597784e21f115cbc7e64a474ae492c70be01d0cf10c4e02d142c0d15d", func := "trestle/trestlelaw03.PathsJoins", spec := "pathsJoins", inPlace := ["internal/bytealg.CountString", "internal/bytealg.IndexByteString", "internal/bytealg.IndexString", "slices.overlaps[trestle/api.File]"], unfollowed := true, recurses := true, named := ["unicode/utf8.first", "unicode/utf8.acceptRanges", "internal/bytealg.MaxLen"], apart := false, laid := [("unicode/utf8.acceptRanges", laid_unicode_utf8_acceptRanges), ("unicode/utf8.first", laid_unicode_utf8_first)], narrowed := true }
def PathsJoinsUptoSaid : Prop := pathsJoinsUptoRow.holds Tryd.pinned (OpenSpec.upto pathsJoinsSpec)

/-- 'trestlelaw03.PathsGets', WHERE WHAT IT READS IS OF BULK AT MOST 1048576: true; the input reads as it did. -/
def pathsGetsUptoRow : OpenClaim := { program := "ytemopomapankmaadoor", sum := "c3bf518597784e21f115cbc7e64a474ae492c70be01d0cf10c4e02d142c0d15d", func := "trestle/trestlelaw03.PathsGets", spec := "pathsGets", inPlace := ["internal/bytealg.CountString", "internal/bytealg.IndexByteString", "internal/bytealg.IndexString", "slices.overlaps[trestle/api.File]"], unfollowed := true, recurses := true, named := ["unicode/utf8.first", "unicode/utf8.acceptRanges", "internal/bytealg.MaxLen"], apart := false, laid := [("unicode/utf8.acceptRanges", laid_unicode_utf8_acceptRanges), ("unicode/utf8.first", laid_unicode_utf8_first)], narrowed := true }
def PathsGetsUptoSaid : Prop := pathsGetsUptoRow.holds Tryd.pinned (OpenSpec.upto pathsGetsSpec)

/-- 'trestlelaw03.PathsRight', WHERE WHAT IT READS IS OF BULK AT MOST 1048576: true; the input reads as it did. -/
def pathsRightUptoRow : OpenClaim := { program := "ytemopomapankmaadoor", sum := "c3bf518597784e21f115cbc7e64a474ae492c70be01d0cf10c4e02d142c0d15d", func := "trestle/trestlelaw03.PathsRight", spec := "pathsRight", inPlace := ["internal/bytealg.CountString", "internal/bytealg.IndexByteString", "internal/bytealg.IndexString", "slices.overlaps[trestle/api.File]"], unfollowed := true, recurses := true, named := ["unicode/utf8.first", "unicode/utf8.acceptRanges", "internal/bytealg.MaxLen"], apart := false, laid := [("unicode/utf8.acceptRanges", laid_unicode_utf8_acceptRanges), ("unicode/utf8.first", laid_unicode_utf8_first)], narrowed := true }
def PathsRightUptoSaid : Prop := pathsRightUptoRow.holds Tryd.pinned (OpenSpec.upto pathsRightSpec)

end Rows
end Go.Proofs.YtemopomapankmaaDoor
