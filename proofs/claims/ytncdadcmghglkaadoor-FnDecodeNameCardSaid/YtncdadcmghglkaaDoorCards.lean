/-
  DERIVED. GIVEN WITH THE SEED: THE CARDS: each row of YtncdadcmghglkaaDoorRows.lean that lists a variable, with what it lists TIED to the program's text (the seventh form; the later family's looks); each row that meets fmt, with fmt's text TOLD by the authors' own Lean function (tested against real Go, not proved from fmt's source: count such statements apart). THE CARD IS WHAT COUNTS. Prove the row's statement (the work); the ties are given (YtncdadcmghglkaaDoorTie.lean); close each card by the builder's one call (the guide's Derived/Test/ToyasCard.lean, 'card_holds'). Laid BY PROGRAM, IN A SANDBOX (cutbox-door.mjs). By AI agents, Wed Nov 11 2026. No macro, syntax, notation, axiom, sorry.
-/
import Derived.Test.YtncdadcmghglkaaDoorRows
import GoSem.ClaimSeven
namespace Go.Proofs.YtncdadcmghglkaaDoor
namespace Rows

/-- THE TIED CARD OF 'laws.FnDecodeName'. -/
def fnDecodeNameCard : Claim7 := { stood := { row := fnDecodeNameRow, standIns := [], harness := (true, "640e2111a204ebb656970f4b9954e1eb60d7de3a049f256307478c2f6a0ebe31"), looks := false }, kinds := [], alts := [], laidByText := true, laidKinds := [.data, .pinned], laidTests := true, laidLooks := .later }
def FnDecodeNameCardSaid : Prop := Claim7.holds Tryd.pinned (.plain (OpenSpec.ofChange fnDecodeNameSpec)) fnDecodeNameCard

/-- THE SECOND FORM's CARD OF 'laws.FnDecodeName'. -/
def fnDecodeNameUptoCard : Claim7 := { stood := { row := fnDecodeNameUptoRow, standIns := [], harness := (true, "640e2111a204ebb656970f4b9954e1eb60d7de3a049f256307478c2f6a0ebe31"), looks := false }, kinds := [], alts := [], laidByText := true, laidKinds := [.data, .pinned], laidTests := true, laidLooks := .later }
def FnDecodeNameUptoCardSaid : Prop := Claim7.holds Tryd.pinned (.plain (OpenSpec.upto fnDecodeNameSpec)) fnDecodeNameUptoCard
end Rows
end Go.Proofs.YtncdadcmghglkaaDoor
