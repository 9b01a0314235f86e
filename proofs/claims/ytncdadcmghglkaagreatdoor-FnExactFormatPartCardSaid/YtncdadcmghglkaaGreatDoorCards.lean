/-
  DERIVED. GIVEN WITH THE SEED: THE CARDS: each row of YtncdadcmghglkaaGreatDoorRows.lean that lists a variable, with what it lists TIED to the program's text (the seventh form; the later family's looks); each row that meets fmt, with fmt's text TOLD by the authors' own Lean function (tested against real Go, not proved from fmt's source: count such statements apart). THE CARD IS WHAT COUNTS. Prove the row's statement (the work); the ties are given (YtncdadcmghglkaaGreatDoorTie.lean); close each card by the builder's one call (the guide's Derived/Test/ToyasCard.lean, 'card_holds'). Laid BY PROGRAM, IN A SANDBOX (cutbox-door.mjs). By AI agents, Wed Nov 11 2026. No macro, syntax, notation, axiom, sorry.
-/
import Derived.Test.YtncdadcmghglkaaGreatDoorRows
import GoSem.ClaimSeven
namespace Go.Proofs.YtncdadcmghglkaaGreatDoor
namespace Rows

/-- THE TIED CARD OF 'laws.FnParseBody'. -/
def fnParseBodyCard : Claim7 := { stood := { row := fnParseBodyRow, standIns := [], harness := (true, "e560fd3a97d72f1783f232e0d42f00be40171e7105b7e43398d219736c1de7c0"), looks := false }, kinds := [], alts := [], laidByText := true, laidKinds := [.data, .pinned], laidTests := true, laidLooks := .later }
def FnParseBodyCardSaid : Prop := Claim7.holds Tryz.pinned (.plain (OpenSpec.ofChange fnParseBodySpec)) fnParseBodyCard

/-- THE TIED CARD OF 'laws.FnPartText'. -/
def fnPartTextCard : Claim7 := { stood := { row := fnPartTextRow, standIns := [], harness := (true, "e560fd3a97d72f1783f232e0d42f00be40171e7105b7e43398d219736c1de7c0"), looks := false }, kinds := [], alts := [], laidByText := true, laidKinds := [.data, .pinned], laidTests := true, laidLooks := .later }
def FnPartTextCardSaid : Prop := Claim7.holds Tryz.pinned (.plain (OpenSpec.ofChange fnPartTextSpec)) fnPartTextCard

/-- THE TIED CARD OF 'laws.FnPartSame'. -/
def fnPartSameCard : Claim7 := { stood := { row := fnPartSameRow, standIns := [], harness := (true, "e560fd3a97d72f1783f232e0d42f00be40171e7105b7e43398d219736c1de7c0"), looks := false }, kinds := [], alts := [], laidByText := true, laidKinds := [.data, .pinned], laidTests := true, laidLooks := .later }
def FnPartSameCardSaid : Prop := Claim7.holds Tryz.pinned (.plain (OpenSpec.ofChange fnPartSameSpec)) fnPartSameCard

/-- THE TIED CARD OF 'laws.FnExactPartValid'. -/
def fnExactPartValidCard : Claim7 := { stood := { row := fnExactPartValidRow, standIns := [], harness := (true, "e560fd3a97d72f1783f232e0d42f00be40171e7105b7e43398d219736c1de7c0"), looks := false }, kinds := [], alts := [], laidByText := true, laidKinds := [.data, .pinned], laidTests := true, laidLooks := .later }
def FnExactPartValidCardSaid : Prop := Claim7.holds Tryz.pinned (.plain (OpenSpec.ofChange fnExactPartValidSpec)) fnExactPartValidCard

/-- THE TIED CARD OF 'laws.FnExactCountParts'. -/
def fnExactCountPartsCard : Claim7 := { stood := { row := fnExactCountPartsRow, standIns := [], harness := (true, "e560fd3a97d72f1783f232e0d42f00be40171e7105b7e43398d219736c1de7c0"), looks := false }, kinds := [], alts := [], laidByText := true, laidKinds := [.data, .pinned], laidTests := true, laidLooks := .later }
def FnExactCountPartsCardSaid : Prop := Claim7.holds Tryz.pinned (.plain (OpenSpec.ofChange fnExactCountPartsSpec)) fnExactCountPartsCard

/-- THE TIED CARD OF 'laws.FnExactFormatPart'. -/
def fnExactFormatPartCard : Claim7 := { stood := { row := fnExactFormatPartRow, standIns := [], harness := (true, "e560fd3a97d72f1783f232e0d42f00be40171e7105b7e43398d219736c1de7c0"), looks := false }, kinds := [], alts := [], laidByText := true, laidKinds := [.data, .pinned], laidTests := true, laidLooks := .later }
def FnExactFormatPartCardSaid : Prop := Claim7.holds Tryz.pinned (.plain (OpenSpec.ofChange fnExactFormatPartSpec)) fnExactFormatPartCard

/-- THE TIED CARD OF 'laws.FnPartLines'. -/
def fnPartLinesCard : Claim7 := { stood := { row := fnPartLinesRow, standIns := [], harness := (true, "e560fd3a97d72f1783f232e0d42f00be40171e7105b7e43398d219736c1de7c0"), looks := false }, kinds := [], alts := [], laidByText := true, laidKinds := [.data, .pinned], laidTests := true, laidLooks := .later }
def FnPartLinesCardSaid : Prop := Claim7.holds Tryz.pinned (.plain (OpenSpec.ofChange fnPartLinesSpec)) fnPartLinesCard

/-- THE TIED CARD OF 'laws.FnCountParts'. -/
def fnCountPartsCard : Claim7 := { stood := { row := fnCountPartsRow, standIns := [], harness := (true, "e560fd3a97d72f1783f232e0d42f00be40171e7105b7e43398d219736c1de7c0"), looks := false }, kinds := [], alts := [], laidByText := true, laidKinds := [.data, .pinned], laidTests := true, laidLooks := .later }
def FnCountPartsCardSaid : Prop := Claim7.holds Tryz.pinned (.plain (OpenSpec.ofChange fnCountPartsSpec)) fnCountPartsCard

/-- THE TIED CARD OF 'laws.FnKidValid'. -/
def fnKidValidCard : Claim7 := { stood := { row := fnKidValidRow, standIns := [], harness := (true, "e560fd3a97d72f1783f232e0d42f00be40171e7105b7e43398d219736c1de7c0"), looks := false }, kinds := [], alts := [], laidByText := true, laidKinds := [.data, .pinned], laidTests := true, laidLooks := .later }
def FnKidValidCardSaid : Prop := Claim7.holds Tryz.pinned (.plain (OpenSpec.ofChange fnKidValidSpec)) fnKidValidCard

/-- THE TIED CARD OF 'laws.FnExactPartAt'. -/
def fnExactPartAtCard : Claim7 := { stood := { row := fnExactPartAtRow, standIns := [], harness := (true, "e560fd3a97d72f1783f232e0d42f00be40171e7105b7e43398d219736c1de7c0"), looks := false }, kinds := [], alts := [], laidByText := true, laidKinds := [.data, .pinned], laidTests := true, laidLooks := .later }
def FnExactPartAtCardSaid : Prop := Claim7.holds Tryz.pinned (.plain (OpenSpec.ofChange fnExactPartAtSpec)) fnExactPartAtCard

/-- THE TIED CARD OF 'laws.FnKidLines'. -/
def fnKidLinesCard : Claim7 := { stood := { row := fnKidLinesRow, standIns := [], harness := (true, "e560fd3a97d72f1783f232e0d42f00be40171e7105b7e43398d219736c1de7c0"), looks := false }, kinds := [], alts := [], laidByText := true, laidKinds := [.data, .pinned], laidTests := true, laidLooks := .later }
def FnKidLinesCardSaid : Prop := Claim7.holds Tryz.pinned (.plain (OpenSpec.ofChange fnKidLinesSpec)) fnKidLinesCard

/-- THE TIED CARD OF 'laws.FnPartValid'. -/
def fnPartValidCard : Claim7 := { stood := { row := fnPartValidRow, standIns := [], harness := (true, "e560fd3a97d72f1783f232e0d42f00be40171e7105b7e43398d219736c1de7c0"), looks := false }, kinds := [], alts := [], laidByText := true, laidKinds := [.data, .pinned], laidTests := true, laidLooks := .later }
def FnPartValidCardSaid : Prop := Claim7.holds Tryz.pinned (.plain (OpenSpec.ofChange fnPartValidSpec)) fnPartValidCard

/-- THE TIED CARD OF 'laws.FnExactParsePart'. -/
def fnExactParsePartCard : Claim7 := { stood := { row := fnExactParsePartRow, standIns := [], harness := (true, "e560fd3a97d72f1783f232e0d42f00be40171e7105b7e43398d219736c1de7c0"), looks := false }, kinds := [], alts := [], laidByText := true, laidKinds := [.data, .pinned], laidTests := true, laidLooks := .later }
def FnExactParsePartCardSaid : Prop := Claim7.holds Tryz.pinned (.plain (OpenSpec.ofChange fnExactParsePartSpec)) fnExactParsePartCard

/-- THE TIED CARD OF 'laws.FnPathEmpty'. -/
def fnPathEmptyCard : Claim7 := { stood := { row := fnPathEmptyRow, standIns := [], harness := (true, "e560fd3a97d72f1783f232e0d42f00be40171e7105b7e43398d219736c1de7c0"), looks := false }, kinds := [], alts := [], laidByText := true, laidKinds := [.data, .pinned], laidTests := true, laidLooks := .later }
def FnPathEmptyCardSaid : Prop := Claim7.holds Tryz.pinned (.plain (OpenSpec.ofChange fnPathEmptySpec)) fnPathEmptyCard

/-- THE TIED CARD OF 'laws.FnPartAt'. -/
def fnPartAtCard : Claim7 := { stood := { row := fnPartAtRow, standIns := [], harness := (true, "e560fd3a97d72f1783f232e0d42f00be40171e7105b7e43398d219736c1de7c0"), looks := false }, kinds := [], alts := [], laidByText := true, laidKinds := [.data, .pinned], laidTests := true, laidLooks := .later }
def FnPartAtCardSaid : Prop := Claim7.holds Tryz.pinned (.plain (OpenSpec.ofChange fnPartAtSpec)) fnPartAtCard

/-- THE SECOND FORM's CARD OF 'laws.FnParseBody'. -/
def fnParseBodyUptoCard : Claim7 := { stood := { row := fnParseBodyUptoRow, standIns := [], harness := (true, "e560fd3a97d72f1783f232e0d42f00be40171e7105b7e43398d219736c1de7c0"), looks := false }, kinds := [], alts := [], laidByText := true, laidKinds := [.data, .pinned], laidTests := true, laidLooks := .later }
def FnParseBodyUptoCardSaid : Prop := Claim7.holds Tryz.pinned (.plain (OpenSpec.upto fnParseBodySpec)) fnParseBodyUptoCard

/-- THE SECOND FORM's CARD OF 'laws.FnPartText'. -/
def fnPartTextUptoCard : Claim7 := { stood := { row := fnPartTextUptoRow, standIns := [], harness := (true, "e560fd3a97d72f1783f232e0d42f00be40171e7105b7e43398d219736c1de7c0"), looks := false }, kinds := [], alts := [], laidByText := true, laidKinds := [.data, .pinned], laidTests := true, laidLooks := .later }
def FnPartTextUptoCardSaid : Prop := Claim7.holds Tryz.pinned (.plain (OpenSpec.upto fnPartTextSpec)) fnPartTextUptoCard

/-- THE SECOND FORM's CARD OF 'laws.FnPartSame'. -/
def fnPartSameUptoCard : Claim7 := { stood := { row := fnPartSameUptoRow, standIns := [], harness := (true, "e560fd3a97d72f1783f232e0d42f00be40171e7105b7e43398d219736c1de7c0"), looks := false }, kinds := [], alts := [], laidByText := true, laidKinds := [.data, .pinned], laidTests := true, laidLooks := .later }
def FnPartSameUptoCardSaid : Prop := Claim7.holds Tryz.pinned (.plain (OpenSpec.upto fnPartSameSpec)) fnPartSameUptoCard

/-- THE SECOND FORM's CARD OF 'laws.FnExactPartValid'. -/
def fnExactPartValidUptoCard : Claim7 := { stood := { row := fnExactPartValidUptoRow, standIns := [], harness := (true, "e560fd3a97d72f1783f232e0d42f00be40171e7105b7e43398d219736c1de7c0"), looks := false }, kinds := [], alts := [], laidByText := true, laidKinds := [.data, .pinned], laidTests := true, laidLooks := .later }
def FnExactPartValidUptoCardSaid : Prop := Claim7.holds Tryz.pinned (.plain (OpenSpec.upto fnExactPartValidSpec)) fnExactPartValidUptoCard

/-- THE SECOND FORM's CARD OF 'laws.FnExactCountParts'. -/
def fnExactCountPartsUptoCard : Claim7 := { stood := { row := fnExactCountPartsUptoRow, standIns := [], harness := (true, "e560fd3a97d72f1783f232e0d42f00be40171e7105b7e43398d219736c1de7c0"), looks := false }, kinds := [], alts := [], laidByText := true, laidKinds := [.data, .pinned], laidTests := true, laidLooks := .later }
def FnExactCountPartsUptoCardSaid : Prop := Claim7.holds Tryz.pinned (.plain (OpenSpec.upto fnExactCountPartsSpec)) fnExactCountPartsUptoCard

/-- THE SECOND FORM's CARD OF 'laws.FnExactFormatPart'. -/
def fnExactFormatPartUptoCard : Claim7 := { stood := { row := fnExactFormatPartUptoRow, standIns := [], harness := (true, "e560fd3a97d72f1783f232e0d42f00be40171e7105b7e43398d219736c1de7c0"), looks := false }, kinds := [], alts := [], laidByText := true, laidKinds := [.data, .pinned], laidTests := true, laidLooks := .later }
def FnExactFormatPartUptoCardSaid : Prop := Claim7.holds Tryz.pinned (.plain (OpenSpec.upto fnExactFormatPartSpec)) fnExactFormatPartUptoCard

/-- THE SECOND FORM's CARD OF 'laws.FnPartLines'. -/
def fnPartLinesUptoCard : Claim7 := { stood := { row := fnPartLinesUptoRow, standIns := [], harness := (true, "e560fd3a97d72f1783f232e0d42f00be40171e7105b7e43398d219736c1de7c0"), looks := false }, kinds := [], alts := [], laidByText := true, laidKinds := [.data, .pinned], laidTests := true, laidLooks := .later }
def FnPartLinesUptoCardSaid : Prop := Claim7.holds Tryz.pinned (.plain (OpenSpec.upto fnPartLinesSpec)) fnPartLinesUptoCard

/-- THE SECOND FORM's CARD OF 'laws.FnCountParts'. -/
def fnCountPartsUptoCard : Claim7 := { stood := { row := fnCountPartsUptoRow, standIns := [], harness := (true, "e560fd3a97d72f1783f232e0d42f00be40171e7105b7e43398d219736c1de7c0"), looks := false }, kinds := [], alts := [], laidByText := true, laidKinds := [.data, .pinned], laidTests := true, laidLooks := .later }
def FnCountPartsUptoCardSaid : Prop := Claim7.holds Tryz.pinned (.plain (OpenSpec.upto fnCountPartsSpec)) fnCountPartsUptoCard

/-- THE SECOND FORM's CARD OF 'laws.FnKidValid'. -/
def fnKidValidUptoCard : Claim7 := { stood := { row := fnKidValidUptoRow, standIns := [], harness := (true, "e560fd3a97d72f1783f232e0d42f00be40171e7105b7e43398d219736c1de7c0"), looks := false }, kinds := [], alts := [], laidByText := true, laidKinds := [.data, .pinned], laidTests := true, laidLooks := .later }
def FnKidValidUptoCardSaid : Prop := Claim7.holds Tryz.pinned (.plain (OpenSpec.upto fnKidValidSpec)) fnKidValidUptoCard

/-- THE SECOND FORM's CARD OF 'laws.FnExactPartAt'. -/
def fnExactPartAtUptoCard : Claim7 := { stood := { row := fnExactPartAtUptoRow, standIns := [], harness := (true, "e560fd3a97d72f1783f232e0d42f00be40171e7105b7e43398d219736c1de7c0"), looks := false }, kinds := [], alts := [], laidByText := true, laidKinds := [.data, .pinned], laidTests := true, laidLooks := .later }
def FnExactPartAtUptoCardSaid : Prop := Claim7.holds Tryz.pinned (.plain (OpenSpec.upto fnExactPartAtSpec)) fnExactPartAtUptoCard

/-- THE SECOND FORM's CARD OF 'laws.FnKidLines'. -/
def fnKidLinesUptoCard : Claim7 := { stood := { row := fnKidLinesUptoRow, standIns := [], harness := (true, "e560fd3a97d72f1783f232e0d42f00be40171e7105b7e43398d219736c1de7c0"), looks := false }, kinds := [], alts := [], laidByText := true, laidKinds := [.data, .pinned], laidTests := true, laidLooks := .later }
def FnKidLinesUptoCardSaid : Prop := Claim7.holds Tryz.pinned (.plain (OpenSpec.upto fnKidLinesSpec)) fnKidLinesUptoCard

/-- THE SECOND FORM's CARD OF 'laws.FnPartValid'. -/
def fnPartValidUptoCard : Claim7 := { stood := { row := fnPartValidUptoRow, standIns := [], harness := (true, "e560fd3a97d72f1783f232e0d42f00be40171e7105b7e43398d219736c1de7c0"), looks := false }, kinds := [], alts := [], laidByText := true, laidKinds := [.data, .pinned], laidTests := true, laidLooks := .later }
def FnPartValidUptoCardSaid : Prop := Claim7.holds Tryz.pinned (.plain (OpenSpec.upto fnPartValidSpec)) fnPartValidUptoCard

/-- THE SECOND FORM's CARD OF 'laws.FnExactParsePart'. -/
def fnExactParsePartUptoCard : Claim7 := { stood := { row := fnExactParsePartUptoRow, standIns := [], harness := (true, "e560fd3a97d72f1783f232e0d42f00be40171e7105b7e43398d219736c1de7c0"), looks := false }, kinds := [], alts := [], laidByText := true, laidKinds := [.data, .pinned], laidTests := true, laidLooks := .later }
def FnExactParsePartUptoCardSaid : Prop := Claim7.holds Tryz.pinned (.plain (OpenSpec.upto fnExactParsePartSpec)) fnExactParsePartUptoCard

/-- THE SECOND FORM's CARD OF 'laws.FnPathEmpty'. -/
def fnPathEmptyUptoCard : Claim7 := { stood := { row := fnPathEmptyUptoRow, standIns := [], harness := (true, "e560fd3a97d72f1783f232e0d42f00be40171e7105b7e43398d219736c1de7c0"), looks := false }, kinds := [], alts := [], laidByText := true, laidKinds := [.data, .pinned], laidTests := true, laidLooks := .later }
def FnPathEmptyUptoCardSaid : Prop := Claim7.holds Tryz.pinned (.plain (OpenSpec.upto fnPathEmptySpec)) fnPathEmptyUptoCard

/-- THE SECOND FORM's CARD OF 'laws.FnPartAt'. -/
def fnPartAtUptoCard : Claim7 := { stood := { row := fnPartAtUptoRow, standIns := [], harness := (true, "e560fd3a97d72f1783f232e0d42f00be40171e7105b7e43398d219736c1de7c0"), looks := false }, kinds := [], alts := [], laidByText := true, laidKinds := [.data, .pinned], laidTests := true, laidLooks := .later }
def FnPartAtUptoCardSaid : Prop := Claim7.holds Tryz.pinned (.plain (OpenSpec.upto fnPartAtSpec)) fnPartAtUptoCard
end Rows
end Go.Proofs.YtncdadcmghglkaaGreatDoor
