/-
  DERIVED. GIVEN WITH THE SEED: THE CARDS: each row of YtengipddcaookaaDoorRows.lean that lists a variable, with what it lists TIED to the program's text (the seventh form; the later family's looks); each row that meets fmt, with fmt's text TOLD by the authors' own Lean function (tested against real Go, not proved from fmt's source: count such statements apart). THE CARD IS WHAT COUNTS. Prove the row's statement (the work); the ties are given (YtengipddcaookaaDoorTie.lean); close each card by the builder's one call (the guide's Derived/Test/ToyasCard.lean, 'card_holds'). Laid BY PROGRAM, IN A SANDBOX (cutbox-door.mjs). By AI agents, Wed Nov 11 2026. No macro, syntax, notation, axiom, sorry.
-/
import Derived.Test.YtengipddcaookaaDoorRows
import GoSem.ClaimSeven
namespace Go.Proofs.YtengipddcaookaaDoor
namespace Rows

/-- THE TIED CARD OF 'laws.FnKindParam'. -/
def fnKindParamCard : Claim7 := { stood := { row := fnKindParamRow, standIns := [], harness := (true, "e1890208c27384f2ce42d62f4fcf21088bc8e0fd1fd6ca74df6eceb46db41c8a"), looks := false }, kinds := [], alts := [], laidByText := true, laidKinds := [.data, .pinned], laidTests := true, laidLooks := .later }
def FnKindParamCardSaid : Prop := Claim7.holds Tryd.pinned (.plain (OpenSpec.ofChange fnKindParamSpec)) fnKindParamCard

/-- THE TIED CARD OF 'laws.FnKindCapital'. -/
def fnKindCapitalCard : Claim7 := { stood := { row := fnKindCapitalRow, standIns := [], harness := (true, "e1890208c27384f2ce42d62f4fcf21088bc8e0fd1fd6ca74df6eceb46db41c8a"), looks := false }, kinds := [], alts := [], laidByText := true, laidKinds := [.data, .pinned], laidTests := true, laidLooks := .later }
def FnKindCapitalCardSaid : Prop := Claim7.holds Tryd.pinned (.plain (OpenSpec.ofChange fnKindCapitalSpec)) fnKindCapitalCard

/-- THE TIED CARD OF 'laws.FnBoundaryKind'. -/
def fnBoundaryKindCard : Claim7 := { stood := { row := fnBoundaryKindRow, standIns := [], harness := (true, "e1890208c27384f2ce42d62f4fcf21088bc8e0fd1fd6ca74df6eceb46db41c8a"), looks := false }, kinds := [], alts := [], laidByText := true, laidKinds := [.data, .pinned], laidTests := true, laidLooks := .later }
def FnBoundaryKindCardSaid : Prop := Claim7.holds Tryd.pinned (.plain (OpenSpec.ofChange fnBoundaryKindSpec)) fnBoundaryKindCard

/-- THE TIED CARD OF 'laws.FnExactParseKind'. -/
def fnExactParseKindCard : Claim7 := { stood := { row := fnExactParseKindRow, standIns := [], harness := (true, "e1890208c27384f2ce42d62f4fcf21088bc8e0fd1fd6ca74df6eceb46db41c8a"), looks := false }, kinds := [], alts := [], laidByText := true, laidKinds := [.data, .pinned], laidTests := true, laidLooks := .later }
def FnExactParseKindCardSaid : Prop := Claim7.holds Tryd.pinned (.plain (OpenSpec.ofChange fnExactParseKindSpec)) fnExactParseKindCard

/-- THE TIED CARD OF 'laws.FnKindText'. -/
def fnKindTextCard : Claim7 := { stood := { row := fnKindTextRow, standIns := [], harness := (true, "e1890208c27384f2ce42d62f4fcf21088bc8e0fd1fd6ca74df6eceb46db41c8a"), looks := false }, kinds := [], alts := [], laidByText := true, laidKinds := [.data, .pinned], laidTests := true, laidLooks := .later }
def FnKindTextCardSaid : Prop := Claim7.holds Tryd.pinned (.plain (OpenSpec.ofChange fnKindTextSpec)) fnKindTextCard

/-- THE SECOND FORM's CARD OF 'laws.FnKindParam'. -/
def fnKindParamUptoCard : Claim7 := { stood := { row := fnKindParamUptoRow, standIns := [], harness := (true, "e1890208c27384f2ce42d62f4fcf21088bc8e0fd1fd6ca74df6eceb46db41c8a"), looks := false }, kinds := [], alts := [], laidByText := true, laidKinds := [.data, .pinned], laidTests := true, laidLooks := .later }
def FnKindParamUptoCardSaid : Prop := Claim7.holds Tryd.pinned (.plain (OpenSpec.upto fnKindParamSpec)) fnKindParamUptoCard

/-- THE SECOND FORM's CARD OF 'laws.FnKindCapital'. -/
def fnKindCapitalUptoCard : Claim7 := { stood := { row := fnKindCapitalUptoRow, standIns := [], harness := (true, "e1890208c27384f2ce42d62f4fcf21088bc8e0fd1fd6ca74df6eceb46db41c8a"), looks := false }, kinds := [], alts := [], laidByText := true, laidKinds := [.data, .pinned], laidTests := true, laidLooks := .later }
def FnKindCapitalUptoCardSaid : Prop := Claim7.holds Tryd.pinned (.plain (OpenSpec.upto fnKindCapitalSpec)) fnKindCapitalUptoCard

/-- THE SECOND FORM's CARD OF 'laws.FnBoundaryKind'. -/
def fnBoundaryKindUptoCard : Claim7 := { stood := { row := fnBoundaryKindUptoRow, standIns := [], harness := (true, "e1890208c27384f2ce42d62f4fcf21088bc8e0fd1fd6ca74df6eceb46db41c8a"), looks := false }, kinds := [], alts := [], laidByText := true, laidKinds := [.data, .pinned], laidTests := true, laidLooks := .later }
def FnBoundaryKindUptoCardSaid : Prop := Claim7.holds Tryd.pinned (.plain (OpenSpec.upto fnBoundaryKindSpec)) fnBoundaryKindUptoCard

/-- THE SECOND FORM's CARD OF 'laws.FnExactParseKind'. -/
def fnExactParseKindUptoCard : Claim7 := { stood := { row := fnExactParseKindUptoRow, standIns := [], harness := (true, "e1890208c27384f2ce42d62f4fcf21088bc8e0fd1fd6ca74df6eceb46db41c8a"), looks := false }, kinds := [], alts := [], laidByText := true, laidKinds := [.data, .pinned], laidTests := true, laidLooks := .later }
def FnExactParseKindUptoCardSaid : Prop := Claim7.holds Tryd.pinned (.plain (OpenSpec.upto fnExactParseKindSpec)) fnExactParseKindUptoCard

/-- THE SECOND FORM's CARD OF 'laws.FnKindText'. -/
def fnKindTextUptoCard : Claim7 := { stood := { row := fnKindTextUptoRow, standIns := [], harness := (true, "e1890208c27384f2ce42d62f4fcf21088bc8e0fd1fd6ca74df6eceb46db41c8a"), looks := false }, kinds := [], alts := [], laidByText := true, laidKinds := [.data, .pinned], laidTests := true, laidLooks := .later }
def FnKindTextUptoCardSaid : Prop := Claim7.holds Tryd.pinned (.plain (OpenSpec.upto fnKindTextSpec)) fnKindTextUptoCard
end Rows
end Go.Proofs.YtengipddcaookaaDoor
