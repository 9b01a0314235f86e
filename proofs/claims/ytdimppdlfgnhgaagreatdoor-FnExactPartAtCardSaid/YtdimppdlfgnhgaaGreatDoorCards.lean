/-
  DERIVED. GIVEN WITH THE SEED: THE CARDS: each row of YtdimppdlfgnhgaaGreatDoorRows.lean that lists a variable, with what it lists TIED to the program's text (the seventh form; the later family's looks); each row that meets fmt, with fmt's text TOLD by the authors' own Lean function (tested against real Go, not proved from fmt's source: count such statements apart). THE CARD IS WHAT COUNTS. Prove the row's statement (the work); the ties are given (YtdimppdlfgnhgaaGreatDoorTie.lean); close each card by the builder's one call (the guide's Derived/Test/ToyasCard.lean, 'card_holds'). Laid BY PROGRAM, IN A SANDBOX (cutbox-door.mjs). By AI agents, Wed Nov 11 2026. No macro, syntax, notation, axiom, sorry.
-/
import Derived.Test.YtdimppdlfgnhgaaGreatDoorRows
import GoSem.ClaimSeven
namespace Go.Proofs.YtdimppdlfgnhgaaGreatDoor
namespace Rows

/-- THE TIED CARD OF 'laws.FnExactPartAt'. -/
def fnExactPartAtCard : Claim7 := { stood := { row := fnExactPartAtRow, standIns := [], harness := (true, "a415b43bc074ad357dbb180f5ec6b5383a5ddaea2e34a3c50094bff4305a73d8"), looks := false }, kinds := [], alts := [], laidByText := true, laidKinds := [.data, .pinned], laidTests := true, laidLooks := .later }
def FnExactPartAtCardSaid : Prop := Claim7.holds Tryz.pinned (.plain (OpenSpec.ofChange fnExactPartAtSpec)) fnExactPartAtCard

/-- THE TIED CARD OF 'laws.FnExactParsePart'. -/
def fnExactParsePartCard : Claim7 := { stood := { row := fnExactParsePartRow, standIns := [], harness := (true, "a415b43bc074ad357dbb180f5ec6b5383a5ddaea2e34a3c50094bff4305a73d8"), looks := false }, kinds := [], alts := [], laidByText := true, laidKinds := [.data, .pinned], laidTests := true, laidLooks := .later }
def FnExactParsePartCardSaid : Prop := Claim7.holds Tryz.pinned (.plain (OpenSpec.ofChange fnExactParsePartSpec)) fnExactParsePartCard

/-- THE SECOND FORM's CARD OF 'laws.FnExactPartAt'. -/
def fnExactPartAtUptoCard : Claim7 := { stood := { row := fnExactPartAtUptoRow, standIns := [], harness := (true, "a415b43bc074ad357dbb180f5ec6b5383a5ddaea2e34a3c50094bff4305a73d8"), looks := false }, kinds := [], alts := [], laidByText := true, laidKinds := [.data, .pinned], laidTests := true, laidLooks := .later }
def FnExactPartAtUptoCardSaid : Prop := Claim7.holds Tryz.pinned (.plain (OpenSpec.upto fnExactPartAtSpec)) fnExactPartAtUptoCard

/-- THE SECOND FORM's CARD OF 'laws.FnExactParsePart'. -/
def fnExactParsePartUptoCard : Claim7 := { stood := { row := fnExactParsePartUptoRow, standIns := [], harness := (true, "a415b43bc074ad357dbb180f5ec6b5383a5ddaea2e34a3c50094bff4305a73d8"), looks := false }, kinds := [], alts := [], laidByText := true, laidKinds := [.data, .pinned], laidTests := true, laidLooks := .later }
def FnExactParsePartUptoCardSaid : Prop := Claim7.holds Tryz.pinned (.plain (OpenSpec.upto fnExactParsePartSpec)) fnExactParsePartUptoCard
end Rows
end Go.Proofs.YtdimppdlfgnhgaaGreatDoor
