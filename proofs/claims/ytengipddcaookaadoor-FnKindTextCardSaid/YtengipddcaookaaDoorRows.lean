/-
  NARROWER THAN 'FOR EVERY INPUT', by the rows' own cells (each row's printed sentence says how): FnKindParam: laid · FnKindCapital: laid · FnBoundaryKind: laid · FnExactParseKind: laid · FnKindText: laid.
  DERIVED. THE GIVEN ROWS OF THIS SEAT. 5 by the template 'for every input the law returns true; each argument reads behind the call as it read before'; 0 by the template 'total and deterministic' (their statements: YtengipddcaookaaDoorTotals.lean).
  GIVEN WITH THE SEED: the statements are not yours to turn. If you find one false, say at which input.
  Laid BY PROGRAM, IN A SANDBOX (cutbox-rows.mjs): the forced cells as the released guide's own fill.sh prints them over the translation 91f76081de2c92ee… (all of the seat's roots in one cut). By AI agents, Wed Nov 11 2026. No macro, syntax, notation, axiom, sorry.
-/
import Derived.Test.YtengipddcaookaaDoorChecked
import GoSem.PinnedTables
import GoSem.Claim
import GoSem.ClaimJoined
import GoSem.ClaimMapViews
import Derived.JoinedTies
import Derived.KernelRfl
namespace Go.Proofs.YtengipddcaookaaDoor
/- THE CELL 'sum', in the pinned program and in every row, IS THE sha256 OF THE DUMP (.gsa) THAT YtengipddcaookaaDoorProg.lean LOADS. Nothing in Lean hashes anything: it is a label: what it is worth is what the hold of that sum in a sandbox is worth. -/
noncomputable def Tryd.pinned : Pinned := { name := "ytengipddcaookaadoor", sum := "91f76081de2c92eefa0739a1a24686dce4d61e9e126b9a8210f2e43a27dffa63", checked := Tryd.checked }
namespace Rows
def none {H : Type} : Left H := { results := [], args := [] }

/- WHAT THE LISTED PACKAGE-LEVEL VARIABLES READ AS WHEN THE CALL BEGINS. Each datum BY PROGRAM (the guide's laid-datum.mjs) off the statement by which the dump's own 'gosem.cut.vars' lays the variable. In a bare row this is a premise. The card (YtengipddcaookaaDoorCards.lean) ties it to the program's text. -/
def laid_unicode_utf8_acceptRanges {H : Type} : DataW H := .agg [.agg [.lit (.int .u8 128), .lit (.int .u8 191)], .agg [.lit (.int .u8 160), .lit (.int .u8 191)], .agg [.lit (.int .u8 128), .lit (.int .u8 159)], .agg [.lit (.int .u8 144), .lit (.int .u8 191)], .agg [.lit (.int .u8 128), .lit (.int .u8 143)], .agg [.lit (.int .u8 0), .lit (.int .u8 0)], .agg [.lit (.int .u8 0), .lit (.int .u8 0)], .agg [.lit (.int .u8 0), .lit (.int .u8 0)], .agg [.lit (.int .u8 0), .lit (.int .u8 0)], .agg [.lit (.int .u8 0), .lit (.int .u8 0)], .agg [.lit (.int .u8 0), .lit (.int .u8 0)], .agg [.lit (.int .u8 0), .lit (.int .u8 0)], .agg [.lit (.int .u8 0), .lit (.int .u8 0)], .agg [.lit (.int .u8 0), .lit (.int .u8 0)], .agg [.lit (.int .u8 0), .lit (.int .u8 0)], .agg [.lit (.int .u8 0), .lit (.int .u8 0)]]
/-- One of Go's own tables, pinned by name: the form's constant. -/
def laid_unicode_utf8_first : DataW Unit := Go.Pinned.utf8First

/-- 'laws.FnKindParam': WHATEVER THE INPUT: true; the input reads as it did. -/
def fnKindParamSpec : ChangeSpec := { name := "fnKindParam", fn := fun _ => fun
  | [d] => { results := [.lit (.bool true)], args := [d] }
  | _ => none }
def fnKindParamRow : OpenClaim := { program := "ytengipddcaookaadoor", sum := "91f76081de2c92eefa0739a1a24686dce4d61e9e126b9a8210f2e43a27dffa63", func := "loop.example/mailwire/laws.FnKindParam", spec := "fnKindParam", inPlace := ["internal/bytealg.IndexByteString", "internal/bytealg.IndexString"], unfollowed := true, recurses := true, named := ["unicode/utf8.first", "unicode/utf8.acceptRanges", "internal/bytealg.MaxLen"], apart := false, laid := [("unicode/utf8.acceptRanges", laid_unicode_utf8_acceptRanges), ("unicode/utf8.first", laid_unicode_utf8_first)] }
def FnKindParamSaid : Prop := fnKindParamRow.holds Tryd.pinned (OpenSpec.ofChange fnKindParamSpec)

/-- ITS FALSE NEIGHBOUR: 'it returns false'. Refute it at one input. -/
def fnKindParamWrong : ChangeSpec := { name := "fnKindParam", fn := fun _ => fun
  | [d] => { results := [.lit (.bool false)], args := [d] }
  | _ => none }
def FnKindParamWrongFalsely : Prop := fnKindParamRow.holds Tryd.pinned (OpenSpec.ofChange fnKindParamWrong)

/-- 'laws.FnKindCapital': WHATEVER THE INPUT: true; the input reads as it did. -/
def fnKindCapitalSpec : ChangeSpec := { name := "fnKindCapital", fn := fun _ => fun
  | [d] => { results := [.lit (.bool true)], args := [d] }
  | _ => none }
def fnKindCapitalRow : OpenClaim := { program := "ytengipddcaookaadoor", sum := "91f76081de2c92eefa0739a1a24686dce4d61e9e126b9a8210f2e43a27dffa63", func := "loop.example/mailwire/laws.FnKindCapital", spec := "fnKindCapital", inPlace := ["internal/bytealg.IndexByteString", "internal/bytealg.IndexString"], unfollowed := true, recurses := true, named := ["unicode/utf8.first", "unicode/utf8.acceptRanges", "internal/bytealg.MaxLen"], apart := false, laid := [("unicode/utf8.acceptRanges", laid_unicode_utf8_acceptRanges), ("unicode/utf8.first", laid_unicode_utf8_first)] }
def FnKindCapitalSaid : Prop := fnKindCapitalRow.holds Tryd.pinned (OpenSpec.ofChange fnKindCapitalSpec)

/-- ITS FALSE NEIGHBOUR: 'it returns false'. Refute it at one input. -/
def fnKindCapitalWrong : ChangeSpec := { name := "fnKindCapital", fn := fun _ => fun
  | [d] => { results := [.lit (.bool false)], args := [d] }
  | _ => none }
def FnKindCapitalWrongFalsely : Prop := fnKindCapitalRow.holds Tryd.pinned (OpenSpec.ofChange fnKindCapitalWrong)

/-- 'laws.FnBoundaryKind': WHATEVER THE INPUT: true; the input reads as it did. -/
def fnBoundaryKindSpec : ChangeSpec := { name := "fnBoundaryKind", fn := fun _ => fun
  | [d] => { results := [.lit (.bool true)], args := [d] }
  | _ => none }
def fnBoundaryKindRow : OpenClaim := { program := "ytengipddcaookaadoor", sum := "91f76081de2c92eefa0739a1a24686dce4d61e9e126b9a8210f2e43a27dffa63", func := "loop.example/mailwire/laws.FnBoundaryKind", spec := "fnBoundaryKind", inPlace := ["internal/bytealg.IndexByteString", "internal/bytealg.IndexString"], unfollowed := true, recurses := true, named := ["unicode/utf8.first", "unicode/utf8.acceptRanges", "internal/bytealg.MaxLen"], apart := false, laid := [("unicode/utf8.acceptRanges", laid_unicode_utf8_acceptRanges), ("unicode/utf8.first", laid_unicode_utf8_first)] }
def FnBoundaryKindSaid : Prop := fnBoundaryKindRow.holds Tryd.pinned (OpenSpec.ofChange fnBoundaryKindSpec)

/-- ITS FALSE NEIGHBOUR: 'it returns false'. Refute it at one input. -/
def fnBoundaryKindWrong : ChangeSpec := { name := "fnBoundaryKind", fn := fun _ => fun
  | [d] => { results := [.lit (.bool false)], args := [d] }
  | _ => none }
def FnBoundaryKindWrongFalsely : Prop := fnBoundaryKindRow.holds Tryd.pinned (OpenSpec.ofChange fnBoundaryKindWrong)

/-- 'laws.FnExactParseKind': WHATEVER THE INPUT: true; the input reads as it did. -/
def fnExactParseKindSpec : ChangeSpec := { name := "fnExactParseKind", fn := fun _ => fun
  | [d] => { results := [.lit (.bool true)], args := [d] }
  | _ => none }
def fnExactParseKindRow : OpenClaim := { program := "ytengipddcaookaadoor", sum := "91f76081de2c92eefa0739a1a24686dce4d61e9e126b9a8210f2e43a27dffa63", func := "loop.example/mailwire/laws.FnExactParseKind", spec := "fnExactParseKind", inPlace := ["internal/bytealg.IndexByteString", "internal/bytealg.IndexString"], unfollowed := true, recurses := true, named := ["unicode/utf8.first", "unicode/utf8.acceptRanges", "internal/bytealg.MaxLen"], apart := false, laid := [("unicode/utf8.acceptRanges", laid_unicode_utf8_acceptRanges), ("unicode/utf8.first", laid_unicode_utf8_first)] }
def FnExactParseKindSaid : Prop := fnExactParseKindRow.holds Tryd.pinned (OpenSpec.ofChange fnExactParseKindSpec)

/-- ITS FALSE NEIGHBOUR: 'it returns false'. Refute it at one input. -/
def fnExactParseKindWrong : ChangeSpec := { name := "fnExactParseKind", fn := fun _ => fun
  | [d] => { results := [.lit (.bool false)], args := [d] }
  | _ => none }
def FnExactParseKindWrongFalsely : Prop := fnExactParseKindRow.holds Tryd.pinned (OpenSpec.ofChange fnExactParseKindWrong)

/-- 'laws.FnKindText': WHATEVER THE INPUT: true; the input reads as it did. -/
def fnKindTextSpec : ChangeSpec := { name := "fnKindText", fn := fun _ => fun
  | [d1, d2] => { results := [.lit (.bool true)], args := [d1, d2] }
  | _ => none }
def fnKindTextRow : OpenClaim := { program := "ytengipddcaookaadoor", sum := "91f76081de2c92eefa0739a1a24686dce4d61e9e126b9a8210f2e43a27dffa63", func := "loop.example/mailwire/laws.FnKindText", spec := "fnKindText", inPlace := ["internal/bytealg.IndexByteString", "internal/bytealg.IndexString"], unfollowed := true, recurses := true, named := ["unicode/utf8.first", "unicode/utf8.acceptRanges", "internal/bytealg.MaxLen"], apart := false, laid := [("unicode/utf8.acceptRanges", laid_unicode_utf8_acceptRanges), ("unicode/utf8.first", laid_unicode_utf8_first)] }
def FnKindTextSaid : Prop := fnKindTextRow.holds Tryd.pinned (OpenSpec.ofChange fnKindTextSpec)

/-- ITS FALSE NEIGHBOUR: 'it returns false'. Refute it at one input. -/
def fnKindTextWrong : ChangeSpec := { name := "fnKindText", fn := fun _ => fun
  | [d1, d2] => { results := [.lit (.bool false)], args := [d1, d2] }
  | _ => none }
def FnKindTextWrongFalsely : Prop := fnKindTextRow.holds Tryd.pinned (OpenSpec.ofChange fnKindTextWrong)

/- THE SECOND FORM. 'bulk': how many values and letters a reading holds, each counted each time it is reached (what is shared counts as often as it is met; a slice's spare places count too). A statement '..UptoSaid' is the law's where the arguments, and the package variables that the reading takes, are together of bulk at most 1048576: NARROWER than '..Said'. Prove '..Said' where nothing that the law and all that it calls make is longer than what came in: it says more and counts as full. Else prove '..UptoSaid'. A law counts once. -/
mutual
def uptoBulk {H : Type} : DataW H → Nat
  | .lit (.string bytes) => bytes.length + 1
  | .lit _ => 1
  | .nil => 1
  | .ptr d => uptoBulk d + 1
  | .slice elems spare => uptoBulkAll elems + uptoBulkAll spare + 1
  | .agg parts => uptoBulkAll parts + 1
  | .iface _ d => uptoBulk d + 1
  | .map entries => uptoBulkEntries entries + 1
  | .held _ => 1
def uptoBulkAll {H : Type} : List (DataW H) → Nat
  | [] => 0
  | d :: r => uptoBulk d + uptoBulkAll r
def uptoBulkEntries {H : Type} : List (Lit × DataW H) → Nat
  | [] => 0
  | x :: r => uptoBulkEntry x + uptoBulkEntries r
def uptoBulkEntry {H : Type} : Lit × DataW H → Nat
  | (.string bytes, d) => bytes.length + uptoBulk d + 1
  | (_, d) => uptoBulk d + 1
 end
def uptoSmall : (H : Type) → List (DataW H) → Bool := fun _ ds => decide (uptoBulkAll ds ≤ 1048576)
def OpenSpec.upto (s : _root_.Go.ChangeSpec) : _root_.Go.OpenSpec := { _root_.Go.OpenSpec.ofChange s with cond := some uptoSmall }

/-- 'laws.FnKindParam', WHERE WHAT IT READS IS OF BULK AT MOST 1048576: true; the input reads as it did. -/
def fnKindParamUptoRow : OpenClaim := { program := "ytengipddcaookaadoor", sum := "91f76081de2c92eefa0739a1a24686dce4d61e9e126b9a8210f2e43a27dffa63", func := "loop.example/mailwire/laws.FnKindParam", spec := "fnKindParam", inPlace := ["internal/bytealg.IndexByteString", "internal/bytealg.IndexString"], unfollowed := true, recurses := true, named := ["unicode/utf8.first", "unicode/utf8.acceptRanges", "internal/bytealg.MaxLen"], apart := false, laid := [("unicode/utf8.acceptRanges", laid_unicode_utf8_acceptRanges), ("unicode/utf8.first", laid_unicode_utf8_first)], narrowed := true }
def FnKindParamUptoSaid : Prop := fnKindParamUptoRow.holds Tryd.pinned (OpenSpec.upto fnKindParamSpec)

/-- 'laws.FnKindCapital', WHERE WHAT IT READS IS OF BULK AT MOST 1048576: true; the input reads as it did. -/
def fnKindCapitalUptoRow : OpenClaim := { program := "ytengipddcaookaadoor", sum := "91f76081de2c92eefa0739a1a24686dce4d61e9e126b9a8210f2e43a27dffa63", func := "loop.example/mailwire/laws.FnKindCapital", spec := "fnKindCapital", inPlace := ["internal/bytealg.IndexByteString", "internal/bytealg.IndexString"], unfollowed := true, recurses := true, named := ["unicode/utf8.first", "unicode/utf8.acceptRanges", "internal/bytealg.MaxLen"], apart := false, laid := [("unicode/utf8.acceptRanges", laid_unicode_utf8_acceptRanges), ("unicode/utf8.first", laid_unicode_utf8_first)], narrowed := true }
def FnKindCapitalUptoSaid : Prop := fnKindCapitalUptoRow.holds Tryd.pinned (OpenSpec.upto fnKindCapitalSpec)

/-- 'laws.FnBoundaryKind', WHERE WHAT IT READS IS OF BULK AT MOST 1048576: true; the input reads as it did. -/
def fnBoundaryKindUptoRow : OpenClaim := { program := "ytengipddcaookaadoor", sum := "91f76081de2c92eefa0739a1a24686dce4d61e9e126b9a8210f2e43a27dffa63", func := "loop.example/mailwire/laws.FnBoundaryKind", spec := "fnBoundaryKind", inPlace := ["internal/bytealg.IndexByteString", "internal/bytealg.IndexString"], unfollowed := true, recurses := true, named := ["unicode/utf8.first", "unicode/utf8.acceptRanges", "internal/bytealg.MaxLen"], apart := false, laid := [("unicode/utf8.acceptRanges", laid_unicode_utf8_acceptRanges), ("unicode/utf8.first", laid_unicode_utf8_first)], narrowed := true }
def FnBoundaryKindUptoSaid : Prop := fnBoundaryKindUptoRow.holds Tryd.pinned (OpenSpec.upto fnBoundaryKindSpec)

/-- 'laws.FnExactParseKind', WHERE WHAT IT READS IS OF BULK AT MOST 1048576: true; the input reads as it did. -/
def fnExactParseKindUptoRow : OpenClaim := { program := "ytengipddcaookaadoor", sum := "91f76081de2c92eefa0739a1a24686dce4d61e9e126b9a8210f2e43a27dffa63", func := "loop.example/mailwire/laws.FnExactParseKind", spec := "fnExactParseKind", inPlace := ["internal/bytealg.IndexByteString", "internal/bytealg.IndexString"], unfollowed := true, recurses := true, named := ["unicode/utf8.first", "unicode/utf8.acceptRanges", "internal/bytealg.MaxLen"], apart := false, laid := [("unicode/utf8.acceptRanges", laid_unicode_utf8_acceptRanges), ("unicode/utf8.first", laid_unicode_utf8_first)], narrowed := true }
def FnExactParseKindUptoSaid : Prop := fnExactParseKindUptoRow.holds Tryd.pinned (OpenSpec.upto fnExactParseKindSpec)

/-- 'laws.FnKindText', WHERE WHAT IT READS IS OF BULK AT MOST 1048576: true; the input reads as it did. -/
def fnKindTextUptoRow : OpenClaim := { program := "ytengipddcaookaadoor", sum := "91f76081de2c92eefa0739a1a24686dce4d61e9e126b9a8210f2e43a27dffa63", func := "loop.example/mailwire/laws.FnKindText", spec := "fnKindText", inPlace := ["internal/bytealg.IndexByteString", "internal/bytealg.IndexString"], unfollowed := true, recurses := true, named := ["unicode/utf8.first", "unicode/utf8.acceptRanges", "internal/bytealg.MaxLen"], apart := false, laid := [("unicode/utf8.acceptRanges", laid_unicode_utf8_acceptRanges), ("unicode/utf8.first", laid_unicode_utf8_first)], narrowed := true }
def FnKindTextUptoSaid : Prop := fnKindTextUptoRow.holds Tryd.pinned (OpenSpec.upto fnKindTextSpec)

end Rows
end Go.Proofs.YtengipddcaookaaDoor
