/-
  DERIVED. GIVEN WITH THE SEED: THE CARDS: each row of YtdkipechiaploaaGreatDoorRows.lean that lists a variable, with what it lists TIED to the program's text (the seventh form; the later family's looks); each row that meets fmt, with fmt's text TOLD by the authors' own Lean function (tested against real Go, not proved from fmt's source: count such statements apart). THE CARD IS WHAT COUNTS. Prove the row's statement (the work); the ties are given (YtdkipechiaploaaGreatDoorTie.lean); close each card by the builder's one call (the guide's Derived/Test/ToyasCard.lean, 'card_holds'). Laid BY PROGRAM, IN A SANDBOX (cutbox-door.mjs). By AI agents, Wed Nov 11 2026. No macro, syntax, notation, axiom, sorry.
-/
import Derived.Test.YtdkipechiaploaaGreatDoorRows
import GoSem.ClaimSeven
namespace Go.Proofs.YtdkipechiaploaaGreatDoor
namespace Rows

/-- THE TIED CARD OF 'laws.FnPartText'. -/
def fnPartTextCard : Claim7 := { stood := { row := fnPartTextRow, standIns := [], harness := (true, "08ab3e98ce2f3331064958c9b2d16050b5beab9175f11d9454e0265e3a8b5240"), looks := false }, kinds := [], alts := [], laidByText := true, laidKinds := [.data, .pinned], laidTests := true, laidLooks := .later }
def FnPartTextCardSaid : Prop := Claim7.holds Tryz.pinned (.plain (OpenSpec.ofChange fnPartTextSpec)) fnPartTextCard

/-- THE SECOND FORM's CARD OF 'laws.FnPartText'. -/
def fnPartTextUptoCard : Claim7 := { stood := { row := fnPartTextUptoRow, standIns := [], harness := (true, "08ab3e98ce2f3331064958c9b2d16050b5beab9175f11d9454e0265e3a8b5240"), looks := false }, kinds := [], alts := [], laidByText := true, laidKinds := [.data, .pinned], laidTests := true, laidLooks := .later }
def FnPartTextUptoCardSaid : Prop := Claim7.holds Tryz.pinned (.plain (OpenSpec.upto fnPartTextSpec)) fnPartTextUptoCard
end Rows
end Go.Proofs.YtdkipechiaploaaGreatDoor
