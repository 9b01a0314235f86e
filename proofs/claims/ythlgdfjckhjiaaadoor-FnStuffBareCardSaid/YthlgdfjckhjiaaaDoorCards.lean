/-
  DERIVED. GIVEN WITH THE SEED: THE CARDS: each row of YthlgdfjckhjiaaaDoorRows.lean that lists a variable, with what it lists TIED to the program's text (the seventh form; the later family's looks); each row that meets fmt, with fmt's text TOLD by the authors' own Lean function (tested against real Go, not proved from fmt's source: count such statements apart). THE CARD IS WHAT COUNTS. Prove the row's statement (the work); the ties are given (YthlgdfjckhjiaaaDoorTie.lean); close each card by the builder's one call (the guide's Derived/Test/ToyasCard.lean, 'card_holds'). Laid BY PROGRAM, IN A SANDBOX (cutbox-door.mjs). By AI agents, Wed Nov 11 2026. No macro, syntax, notation, axiom, sorry.
-/
import Derived.Test.YthlgdfjckhjiaaaDoorRows
import GoSem.ClaimSeven
namespace Go.Proofs.YthlgdfjckhjiaaaDoor
namespace Rows

/-- THE TIED CARD OF 'laws.FnExactSplitWire'. -/
def fnExactSplitWireCard : Claim7 := { stood := { row := fnExactSplitWireRow, standIns := [], harness := (true, "2db729f5f7f9b217f8f4df9963afa0924c0d35d7301d13bcc40af9abf76c1047"), looks := false }, kinds := [], alts := [], laidByText := true, laidKinds := [.data, .pinned], laidTests := true, laidLooks := .later }
def FnExactSplitWireCardSaid : Prop := Claim7.holds Tryd.pinned (.plain (OpenSpec.ofChange fnExactSplitWireSpec)) fnExactSplitWireCard

/-- THE TIED CARD OF 'laws.FnSplitWire'. -/
def fnSplitWireCard : Claim7 := { stood := { row := fnSplitWireRow, standIns := [], harness := (true, "2db729f5f7f9b217f8f4df9963afa0924c0d35d7301d13bcc40af9abf76c1047"), looks := false }, kinds := [], alts := [], laidByText := true, laidKinds := [.data, .pinned], laidTests := true, laidLooks := .later }
def FnSplitWireCardSaid : Prop := Claim7.holds Tryd.pinned (.plain (OpenSpec.ofChange fnSplitWireSpec)) fnSplitWireCard

/-- THE TIED CARD OF 'laws.FnSplitNormal'. -/
def fnSplitNormalCard : Claim7 := { stood := { row := fnSplitNormalRow, standIns := [], harness := (true, "2db729f5f7f9b217f8f4df9963afa0924c0d35d7301d13bcc40af9abf76c1047"), looks := false }, kinds := [], alts := [], laidByText := true, laidKinds := [.data, .pinned], laidTests := true, laidLooks := .later }
def FnSplitNormalCardSaid : Prop := Claim7.holds Tryd.pinned (.plain (OpenSpec.ofChange fnSplitNormalSpec)) fnSplitNormalCard

/-- THE TIED CARD OF 'laws.FnStuffBare'. -/
def fnStuffBareCard : Claim7 := { stood := { row := fnStuffBareRow, standIns := [], harness := (true, "2db729f5f7f9b217f8f4df9963afa0924c0d35d7301d13bcc40af9abf76c1047"), looks := false }, kinds := [], alts := [], laidByText := true, laidKinds := [.data, .pinned], laidTests := true, laidLooks := .later }
def FnStuffBareCardSaid : Prop := Claim7.holds Tryd.pinned (.plain (OpenSpec.ofChange fnStuffBareSpec)) fnStuffBareCard

/-- THE SECOND FORM's CARD OF 'laws.FnExactSplitWire'. -/
def fnExactSplitWireUptoCard : Claim7 := { stood := { row := fnExactSplitWireUptoRow, standIns := [], harness := (true, "2db729f5f7f9b217f8f4df9963afa0924c0d35d7301d13bcc40af9abf76c1047"), looks := false }, kinds := [], alts := [], laidByText := true, laidKinds := [.data, .pinned], laidTests := true, laidLooks := .later }
def FnExactSplitWireUptoCardSaid : Prop := Claim7.holds Tryd.pinned (.plain (OpenSpec.upto fnExactSplitWireSpec)) fnExactSplitWireUptoCard

/-- THE SECOND FORM's CARD OF 'laws.FnSplitWire'. -/
def fnSplitWireUptoCard : Claim7 := { stood := { row := fnSplitWireUptoRow, standIns := [], harness := (true, "2db729f5f7f9b217f8f4df9963afa0924c0d35d7301d13bcc40af9abf76c1047"), looks := false }, kinds := [], alts := [], laidByText := true, laidKinds := [.data, .pinned], laidTests := true, laidLooks := .later }
def FnSplitWireUptoCardSaid : Prop := Claim7.holds Tryd.pinned (.plain (OpenSpec.upto fnSplitWireSpec)) fnSplitWireUptoCard

/-- THE SECOND FORM's CARD OF 'laws.FnSplitNormal'. -/
def fnSplitNormalUptoCard : Claim7 := { stood := { row := fnSplitNormalUptoRow, standIns := [], harness := (true, "2db729f5f7f9b217f8f4df9963afa0924c0d35d7301d13bcc40af9abf76c1047"), looks := false }, kinds := [], alts := [], laidByText := true, laidKinds := [.data, .pinned], laidTests := true, laidLooks := .later }
def FnSplitNormalUptoCardSaid : Prop := Claim7.holds Tryd.pinned (.plain (OpenSpec.upto fnSplitNormalSpec)) fnSplitNormalUptoCard

/-- THE SECOND FORM's CARD OF 'laws.FnStuffBare'. -/
def fnStuffBareUptoCard : Claim7 := { stood := { row := fnStuffBareUptoRow, standIns := [], harness := (true, "2db729f5f7f9b217f8f4df9963afa0924c0d35d7301d13bcc40af9abf76c1047"), looks := false }, kinds := [], alts := [], laidByText := true, laidKinds := [.data, .pinned], laidTests := true, laidLooks := .later }
def FnStuffBareUptoCardSaid : Prop := Claim7.holds Tryd.pinned (.plain (OpenSpec.upto fnStuffBareSpec)) fnStuffBareUptoCard
end Rows
end Go.Proofs.YthlgdfjckhjiaaaDoor
