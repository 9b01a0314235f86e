/-
  NARROWER THAN 'FOR EVERY INPUT', by the rows' own cells (each row's printed sentence says how): FnParseBody: laid · FnPartText: laid · FnPartSame: laid · FnExactPartValid: loops, laid · FnExactCountParts: loops, laid · FnExactFormatPart: loops, laid · FnPartLines: laid · FnCountParts: laid · FnKidValid: laid · FnExactPartAt: loops, laid · FnKidLines: laid · FnPartValid: laid · FnExactParsePart: laid · FnPathEmpty: laid · FnPartAt: laid.
  DERIVED. THE GIVEN ROWS OF THIS SEAT. 15 by the template 'for every input the law returns true; each argument reads behind the call as it read before'; 0 by the template 'total and deterministic' (their statements: YtncdadcmghglkaaGreatDoorTotals.lean).
  GIVEN WITH THE SEED: the statements are not yours to turn. If you find one false, say at which input.
  Laid BY PROGRAM, IN A SANDBOX (cutbox-rows.mjs): the forced cells as the released guide's own fill.sh prints them over the translation faabf41bec961bb2… (all of the seat's roots in one cut). By AI agents, Wed Nov 11 2026. No macro, syntax, notation, axiom, sorry.
-/
import Derived.Test.YtncdadcmghglkaaGreatDoorChecked
import GoSem.PinnedTables
import GoSem.Claim
import GoSem.ClaimJoined
import GoSem.ClaimMapViews
import Derived.JoinedTies
import Derived.KernelRfl
namespace Go.Proofs.YtncdadcmghglkaaGreatDoor
/- THE CELL 'sum', in the pinned program and in every row, IS THE sha256 OF THE DUMP (.gsa) THAT YtncdadcmghglkaaGreatDoorProg.lean LOADS. Nothing in Lean hashes anything: it is a label: what it is worth is what the hold of that sum in a sandbox is worth. -/
noncomputable def Tryz.pinned : Pinned := { name := "ytncdadcmghglkaagreatdoor", sum := "faabf41bec961bb226745f1feca61c15116fb8319d03274ae46074ad56f81e2f", checked := Tryz.checked }
namespace Rows
def none {H : Type} : Left H := { results := [], args := [] }

/- WHAT THE LISTED PACKAGE-LEVEL VARIABLES READ AS WHEN THE CALL BEGINS. Each datum BY PROGRAM (the guide's laid-datum.mjs) off the statement by which the dump's own 'gosem.cut.vars' lays the variable. In a bare row this is a premise. The card (YtncdadcmghglkaaGreatDoorCards.lean) ties it to the program's text. -/
def laid_unicode_utf8_acceptRanges {H : Type} : DataW H := .agg [.agg [.lit (.int .u8 128), .lit (.int .u8 191)], .agg [.lit (.int .u8 160), .lit (.int .u8 191)], .agg [.lit (.int .u8 128), .lit (.int .u8 159)], .agg [.lit (.int .u8 144), .lit (.int .u8 191)], .agg [.lit (.int .u8 128), .lit (.int .u8 143)], .agg [.lit (.int .u8 0), .lit (.int .u8 0)], .agg [.lit (.int .u8 0), .lit (.int .u8 0)], .agg [.lit (.int .u8 0), .lit (.int .u8 0)], .agg [.lit (.int .u8 0), .lit (.int .u8 0)], .agg [.lit (.int .u8 0), .lit (.int .u8 0)], .agg [.lit (.int .u8 0), .lit (.int .u8 0)], .agg [.lit (.int .u8 0), .lit (.int .u8 0)], .agg [.lit (.int .u8 0), .lit (.int .u8 0)], .agg [.lit (.int .u8 0), .lit (.int .u8 0)], .agg [.lit (.int .u8 0), .lit (.int .u8 0)], .agg [.lit (.int .u8 0), .lit (.int .u8 0)]]
/-- One of Go's own tables, pinned by name: the form's constant. -/
def laid_unicode_utf8_first : DataW Unit := Go.Pinned.utf8First

/-- 'laws.FnParseBody': WHATEVER THE INPUT: true; the input reads as it did. -/
def fnParseBodySpec : ChangeSpec := { name := "fnParseBody", fn := fun _ => fun
  | [d] => { results := [.lit (.bool true)], args := [d] }
  | _ => none }
def fnParseBodyRow : OpenClaim := { program := "ytncdadcmghglkaagreatdoor", sum := "faabf41bec961bb226745f1feca61c15116fb8319d03274ae46074ad56f81e2f", func := "loop.example/mailwire/laws.FnParseBody", spec := "fnParseBody", inPlace := ["internal/bytealg.IndexByteString", "internal/bytealg.IndexString"], unfollowed := true, recurses := true, named := ["internal/bytealg.MaxLen", "unicode/utf8.first", "unicode/utf8.acceptRanges"], apart := false, laid := [("unicode/utf8.acceptRanges", laid_unicode_utf8_acceptRanges), ("unicode/utf8.first", laid_unicode_utf8_first)] }
def FnParseBodySaid : Prop := fnParseBodyRow.holds Tryz.pinned (OpenSpec.ofChange fnParseBodySpec)

/-- ITS FALSE NEIGHBOUR: 'it returns false'. Refute it at one input. -/
def fnParseBodyWrong : ChangeSpec := { name := "fnParseBody", fn := fun _ => fun
  | [d] => { results := [.lit (.bool false)], args := [d] }
  | _ => none }
def FnParseBodyWrongFalsely : Prop := fnParseBodyRow.holds Tryz.pinned (OpenSpec.ofChange fnParseBodyWrong)

/-- 'laws.FnPartText': WHATEVER THE INPUT: true; the input reads as it did. -/
def fnPartTextSpec : ChangeSpec := { name := "fnPartText", fn := fun _ => fun
  | [d1, d2] => { results := [.lit (.bool true)], args := [d1, d2] }
  | _ => none }
def fnPartTextRow : OpenClaim := { program := "ytncdadcmghglkaagreatdoor", sum := "faabf41bec961bb226745f1feca61c15116fb8319d03274ae46074ad56f81e2f", func := "loop.example/mailwire/laws.FnPartText", spec := "fnPartText", inPlace := ["internal/bytealg.IndexByteString", "internal/bytealg.IndexString"], unfollowed := true, recurses := true, named := ["unicode/utf8.first", "unicode/utf8.acceptRanges", "internal/bytealg.MaxLen"], apart := false, laid := [("unicode/utf8.acceptRanges", laid_unicode_utf8_acceptRanges), ("unicode/utf8.first", laid_unicode_utf8_first)] }
def FnPartTextSaid : Prop := fnPartTextRow.holds Tryz.pinned (OpenSpec.ofChange fnPartTextSpec)

/-- ITS FALSE NEIGHBOUR: 'it returns false'. Refute it at one input. -/
def fnPartTextWrong : ChangeSpec := { name := "fnPartText", fn := fun _ => fun
  | [d1, d2] => { results := [.lit (.bool false)], args := [d1, d2] }
  | _ => none }
def FnPartTextWrongFalsely : Prop := fnPartTextRow.holds Tryz.pinned (OpenSpec.ofChange fnPartTextWrong)

/-- 'laws.FnPartSame': WHATEVER THE INPUT: true; the input reads as it did. -/
def fnPartSameSpec : ChangeSpec := { name := "fnPartSame", fn := fun _ => fun
  | [d] => { results := [.lit (.bool true)], args := [d] }
  | _ => none }
def fnPartSameRow : OpenClaim := { program := "ytncdadcmghglkaagreatdoor", sum := "faabf41bec961bb226745f1feca61c15116fb8319d03274ae46074ad56f81e2f", func := "loop.example/mailwire/laws.FnPartSame", spec := "fnPartSame", inPlace := ["internal/bytealg.IndexByteString", "internal/bytealg.IndexString"], unfollowed := true, recurses := true, named := ["unicode/utf8.first", "unicode/utf8.acceptRanges", "internal/bytealg.MaxLen"], apart := false, laid := [("unicode/utf8.acceptRanges", laid_unicode_utf8_acceptRanges), ("unicode/utf8.first", laid_unicode_utf8_first)] }
def FnPartSameSaid : Prop := fnPartSameRow.holds Tryz.pinned (OpenSpec.ofChange fnPartSameSpec)

/-- ITS FALSE NEIGHBOUR: 'it returns false'. Refute it at one input. -/
def fnPartSameWrong : ChangeSpec := { name := "fnPartSame", fn := fun _ => fun
  | [d] => { results := [.lit (.bool false)], args := [d] }
  | _ => none }
def FnPartSameWrongFalsely : Prop := fnPartSameRow.holds Tryz.pinned (OpenSpec.ofChange fnPartSameWrong)

/-- 'laws.FnExactPartValid': WHATEVER THE INPUT: true; the input reads as it did. -/
def fnExactPartValidSpec : ChangeSpec := { name := "fnExactPartValid", fn := fun _ => fun
  | [d] => { results := [.lit (.bool true)], args := [d] }
  | _ => none }
def fnExactPartValidRow : OpenClaim := { program := "ytncdadcmghglkaagreatdoor", sum := "faabf41bec961bb226745f1feca61c15116fb8319d03274ae46074ad56f81e2f", func := "loop.example/mailwire/laws.FnExactPartValid", spec := "fnExactPartValid", inPlace := ["internal/bytealg.IndexByteString", "internal/bytealg.IndexString"], unfollowed := true, recurses := true, named := ["unicode/utf8.first", "unicode/utf8.acceptRanges", "internal/bytealg.MaxLen"], loops := true, apart := false, laid := [("unicode/utf8.acceptRanges", laid_unicode_utf8_acceptRanges), ("unicode/utf8.first", laid_unicode_utf8_first)] }
def FnExactPartValidSaid : Prop := fnExactPartValidRow.holds Tryz.pinned (OpenSpec.ofChange fnExactPartValidSpec)

/-- ITS FALSE NEIGHBOUR: 'it returns false'. Refute it at one input. -/
def fnExactPartValidWrong : ChangeSpec := { name := "fnExactPartValid", fn := fun _ => fun
  | [d] => { results := [.lit (.bool false)], args := [d] }
  | _ => none }
def FnExactPartValidWrongFalsely : Prop := fnExactPartValidRow.holds Tryz.pinned (OpenSpec.ofChange fnExactPartValidWrong)

/-- 'laws.FnExactCountParts': WHATEVER THE INPUT: true; the input reads as it did. -/
def fnExactCountPartsSpec : ChangeSpec := { name := "fnExactCountParts", fn := fun _ => fun
  | [d] => { results := [.lit (.bool true)], args := [d] }
  | _ => none }
def fnExactCountPartsRow : OpenClaim := { program := "ytncdadcmghglkaagreatdoor", sum := "faabf41bec961bb226745f1feca61c15116fb8319d03274ae46074ad56f81e2f", func := "loop.example/mailwire/laws.FnExactCountParts", spec := "fnExactCountParts", inPlace := ["internal/bytealg.IndexByteString", "internal/bytealg.IndexString"], unfollowed := true, recurses := true, named := ["unicode/utf8.first", "unicode/utf8.acceptRanges", "internal/bytealg.MaxLen"], loops := true, apart := false, laid := [("unicode/utf8.acceptRanges", laid_unicode_utf8_acceptRanges), ("unicode/utf8.first", laid_unicode_utf8_first)] }
def FnExactCountPartsSaid : Prop := fnExactCountPartsRow.holds Tryz.pinned (OpenSpec.ofChange fnExactCountPartsSpec)

/-- ITS FALSE NEIGHBOUR: 'it returns false'. Refute it at one input. -/
def fnExactCountPartsWrong : ChangeSpec := { name := "fnExactCountParts", fn := fun _ => fun
  | [d] => { results := [.lit (.bool false)], args := [d] }
  | _ => none }
def FnExactCountPartsWrongFalsely : Prop := fnExactCountPartsRow.holds Tryz.pinned (OpenSpec.ofChange fnExactCountPartsWrong)

/-- 'laws.FnExactFormatPart': WHATEVER THE INPUT: true; the input reads as it did. -/
def fnExactFormatPartSpec : ChangeSpec := { name := "fnExactFormatPart", fn := fun _ => fun
  | [d] => { results := [.lit (.bool true)], args := [d] }
  | _ => none }
def fnExactFormatPartRow : OpenClaim := { program := "ytncdadcmghglkaagreatdoor", sum := "faabf41bec961bb226745f1feca61c15116fb8319d03274ae46074ad56f81e2f", func := "loop.example/mailwire/laws.FnExactFormatPart", spec := "fnExactFormatPart", inPlace := ["internal/bytealg.IndexByteString", "internal/bytealg.IndexString"], unfollowed := true, recurses := true, named := ["unicode/utf8.first", "unicode/utf8.acceptRanges", "internal/bytealg.MaxLen"], loops := true, apart := false, laid := [("unicode/utf8.acceptRanges", laid_unicode_utf8_acceptRanges), ("unicode/utf8.first", laid_unicode_utf8_first)] }
def FnExactFormatPartSaid : Prop := fnExactFormatPartRow.holds Tryz.pinned (OpenSpec.ofChange fnExactFormatPartSpec)

/-- ITS FALSE NEIGHBOUR: 'it returns false'. Refute it at one input. -/
def fnExactFormatPartWrong : ChangeSpec := { name := "fnExactFormatPart", fn := fun _ => fun
  | [d] => { results := [.lit (.bool false)], args := [d] }
  | _ => none }
def FnExactFormatPartWrongFalsely : Prop := fnExactFormatPartRow.holds Tryz.pinned (OpenSpec.ofChange fnExactFormatPartWrong)

/-- 'laws.FnPartLines': WHATEVER THE INPUT: true; the input reads as it did. -/
def fnPartLinesSpec : ChangeSpec := { name := "fnPartLines", fn := fun _ => fun
  | [d] => { results := [.lit (.bool true)], args := [d] }
  | _ => none }
def fnPartLinesRow : OpenClaim := { program := "ytncdadcmghglkaagreatdoor", sum := "faabf41bec961bb226745f1feca61c15116fb8319d03274ae46074ad56f81e2f", func := "loop.example/mailwire/laws.FnPartLines", spec := "fnPartLines", inPlace := ["internal/bytealg.IndexByteString", "internal/bytealg.IndexString"], unfollowed := true, recurses := true, named := ["unicode/utf8.first", "unicode/utf8.acceptRanges", "internal/bytealg.MaxLen"], apart := false, laid := [("unicode/utf8.acceptRanges", laid_unicode_utf8_acceptRanges), ("unicode/utf8.first", laid_unicode_utf8_first)] }
def FnPartLinesSaid : Prop := fnPartLinesRow.holds Tryz.pinned (OpenSpec.ofChange fnPartLinesSpec)

/-- ITS FALSE NEIGHBOUR: 'it returns false'. Refute it at one input. -/
def fnPartLinesWrong : ChangeSpec := { name := "fnPartLines", fn := fun _ => fun
  | [d] => { results := [.lit (.bool false)], args := [d] }
  | _ => none }
def FnPartLinesWrongFalsely : Prop := fnPartLinesRow.holds Tryz.pinned (OpenSpec.ofChange fnPartLinesWrong)

/-- 'laws.FnCountParts': WHATEVER THE INPUT: true; the input reads as it did. -/
def fnCountPartsSpec : ChangeSpec := { name := "fnCountParts", fn := fun _ => fun
  | [d] => { results := [.lit (.bool true)], args := [d] }
  | _ => none }
def fnCountPartsRow : OpenClaim := { program := "ytncdadcmghglkaagreatdoor", sum := "faabf41bec961bb226745f1feca61c15116fb8319d03274ae46074ad56f81e2f", func := "loop.example/mailwire/laws.FnCountParts", spec := "fnCountParts", inPlace := ["internal/bytealg.IndexByteString", "internal/bytealg.IndexString"], unfollowed := true, recurses := true, named := ["unicode/utf8.first", "unicode/utf8.acceptRanges", "internal/bytealg.MaxLen"], apart := false, laid := [("unicode/utf8.acceptRanges", laid_unicode_utf8_acceptRanges), ("unicode/utf8.first", laid_unicode_utf8_first)] }
def FnCountPartsSaid : Prop := fnCountPartsRow.holds Tryz.pinned (OpenSpec.ofChange fnCountPartsSpec)

/-- ITS FALSE NEIGHBOUR: 'it returns false'. Refute it at one input. -/
def fnCountPartsWrong : ChangeSpec := { name := "fnCountParts", fn := fun _ => fun
  | [d] => { results := [.lit (.bool false)], args := [d] }
  | _ => none }
def FnCountPartsWrongFalsely : Prop := fnCountPartsRow.holds Tryz.pinned (OpenSpec.ofChange fnCountPartsWrong)

/-- 'laws.FnKidValid': WHATEVER THE INPUT: true; the input reads as it did. -/
def fnKidValidSpec : ChangeSpec := { name := "fnKidValid", fn := fun _ => fun
  | [d] => { results := [.lit (.bool true)], args := [d] }
  | _ => none }
def fnKidValidRow : OpenClaim := { program := "ytncdadcmghglkaagreatdoor", sum := "faabf41bec961bb226745f1feca61c15116fb8319d03274ae46074ad56f81e2f", func := "loop.example/mailwire/laws.FnKidValid", spec := "fnKidValid", inPlace := ["internal/bytealg.IndexByteString", "internal/bytealg.IndexString"], unfollowed := true, recurses := true, named := ["unicode/utf8.first", "unicode/utf8.acceptRanges", "internal/bytealg.MaxLen"], apart := false, laid := [("unicode/utf8.acceptRanges", laid_unicode_utf8_acceptRanges), ("unicode/utf8.first", laid_unicode_utf8_first)] }
def FnKidValidSaid : Prop := fnKidValidRow.holds Tryz.pinned (OpenSpec.ofChange fnKidValidSpec)

/-- ITS FALSE NEIGHBOUR: 'it returns false'. Refute it at one input. -/
def fnKidValidWrong : ChangeSpec := { name := "fnKidValid", fn := fun _ => fun
  | [d] => { results := [.lit (.bool false)], args := [d] }
  | _ => none }
def FnKidValidWrongFalsely : Prop := fnKidValidRow.holds Tryz.pinned (OpenSpec.ofChange fnKidValidWrong)

/-- 'laws.FnExactPartAt': WHATEVER THE INPUT: true; the input reads as it did. -/
def fnExactPartAtSpec : ChangeSpec := { name := "fnExactPartAt", fn := fun _ => fun
  | [d1, d2] => { results := [.lit (.bool true)], args := [d1, d2] }
  | _ => none }
def fnExactPartAtRow : OpenClaim := { program := "ytncdadcmghglkaagreatdoor", sum := "faabf41bec961bb226745f1feca61c15116fb8319d03274ae46074ad56f81e2f", func := "loop.example/mailwire/laws.FnExactPartAt", spec := "fnExactPartAt", inPlace := ["internal/bytealg.IndexByteString", "internal/bytealg.IndexString"], unfollowed := true, recurses := true, named := ["unicode/utf8.first", "unicode/utf8.acceptRanges", "internal/bytealg.MaxLen"], loops := true, apart := false, laid := [("unicode/utf8.acceptRanges", laid_unicode_utf8_acceptRanges), ("unicode/utf8.first", laid_unicode_utf8_first)] }
def FnExactPartAtSaid : Prop := fnExactPartAtRow.holds Tryz.pinned (OpenSpec.ofChange fnExactPartAtSpec)

/-- ITS FALSE NEIGHBOUR: 'it returns false'. Refute it at one input. -/
def fnExactPartAtWrong : ChangeSpec := { name := "fnExactPartAt", fn := fun _ => fun
  | [d1, d2] => { results := [.lit (.bool false)], args := [d1, d2] }
  | _ => none }
def FnExactPartAtWrongFalsely : Prop := fnExactPartAtRow.holds Tryz.pinned (OpenSpec.ofChange fnExactPartAtWrong)

/-- 'laws.FnKidLines': WHATEVER THE INPUT: true; the input reads as it did. -/
def fnKidLinesSpec : ChangeSpec := { name := "fnKidLines", fn := fun _ => fun
  | [d] => { results := [.lit (.bool true)], args := [d] }
  | _ => none }
def fnKidLinesRow : OpenClaim := { program := "ytncdadcmghglkaagreatdoor", sum := "faabf41bec961bb226745f1feca61c15116fb8319d03274ae46074ad56f81e2f", func := "loop.example/mailwire/laws.FnKidLines", spec := "fnKidLines", inPlace := ["internal/bytealg.IndexByteString", "internal/bytealg.IndexString"], unfollowed := true, recurses := true, named := ["unicode/utf8.first", "unicode/utf8.acceptRanges", "internal/bytealg.MaxLen"], apart := false, laid := [("unicode/utf8.acceptRanges", laid_unicode_utf8_acceptRanges), ("unicode/utf8.first", laid_unicode_utf8_first)] }
def FnKidLinesSaid : Prop := fnKidLinesRow.holds Tryz.pinned (OpenSpec.ofChange fnKidLinesSpec)

/-- ITS FALSE NEIGHBOUR: 'it returns false'. Refute it at one input. -/
def fnKidLinesWrong : ChangeSpec := { name := "fnKidLines", fn := fun _ => fun
  | [d] => { results := [.lit (.bool false)], args := [d] }
  | _ => none }
def FnKidLinesWrongFalsely : Prop := fnKidLinesRow.holds Tryz.pinned (OpenSpec.ofChange fnKidLinesWrong)

/-- 'laws.FnPartValid': WHATEVER THE INPUT: true; the input reads as it did. -/
def fnPartValidSpec : ChangeSpec := { name := "fnPartValid", fn := fun _ => fun
  | [d] => { results := [.lit (.bool true)], args := [d] }
  | _ => none }
def fnPartValidRow : OpenClaim := { program := "ytncdadcmghglkaagreatdoor", sum := "faabf41bec961bb226745f1feca61c15116fb8319d03274ae46074ad56f81e2f", func := "loop.example/mailwire/laws.FnPartValid", spec := "fnPartValid", inPlace := ["internal/bytealg.IndexByteString", "internal/bytealg.IndexString"], unfollowed := true, recurses := true, named := ["unicode/utf8.first", "unicode/utf8.acceptRanges", "internal/bytealg.MaxLen"], apart := false, laid := [("unicode/utf8.acceptRanges", laid_unicode_utf8_acceptRanges), ("unicode/utf8.first", laid_unicode_utf8_first)] }
def FnPartValidSaid : Prop := fnPartValidRow.holds Tryz.pinned (OpenSpec.ofChange fnPartValidSpec)

/-- ITS FALSE NEIGHBOUR: 'it returns false'. Refute it at one input. -/
def fnPartValidWrong : ChangeSpec := { name := "fnPartValid", fn := fun _ => fun
  | [d] => { results := [.lit (.bool false)], args := [d] }
  | _ => none }
def FnPartValidWrongFalsely : Prop := fnPartValidRow.holds Tryz.pinned (OpenSpec.ofChange fnPartValidWrong)

/-- 'laws.FnExactParsePart': WHATEVER THE INPUT: true; the input reads as it did. -/
def fnExactParsePartSpec : ChangeSpec := { name := "fnExactParsePart", fn := fun _ => fun
  | [d] => { results := [.lit (.bool true)], args := [d] }
  | _ => none }
def fnExactParsePartRow : OpenClaim := { program := "ytncdadcmghglkaagreatdoor", sum := "faabf41bec961bb226745f1feca61c15116fb8319d03274ae46074ad56f81e2f", func := "loop.example/mailwire/laws.FnExactParsePart", spec := "fnExactParsePart", inPlace := ["internal/bytealg.IndexByteString", "internal/bytealg.IndexString"], unfollowed := true, recurses := true, named := ["internal/bytealg.MaxLen", "unicode/utf8.first", "unicode/utf8.acceptRanges"], apart := false, laid := [("unicode/utf8.acceptRanges", laid_unicode_utf8_acceptRanges), ("unicode/utf8.first", laid_unicode_utf8_first)] }
def FnExactParsePartSaid : Prop := fnExactParsePartRow.holds Tryz.pinned (OpenSpec.ofChange fnExactParsePartSpec)

/-- ITS FALSE NEIGHBOUR: 'it returns false'. Refute it at one input. -/
def fnExactParsePartWrong : ChangeSpec := { name := "fnExactParsePart", fn := fun _ => fun
  | [d] => { results := [.lit (.bool false)], args := [d] }
  | _ => none }
def FnExactParsePartWrongFalsely : Prop := fnExactParsePartRow.holds Tryz.pinned (OpenSpec.ofChange fnExactParsePartWrong)

/-- 'laws.FnPathEmpty': WHATEVER THE INPUT: true; the input reads as it did. -/
def fnPathEmptySpec : ChangeSpec := { name := "fnPathEmpty", fn := fun _ => fun
  | [d] => { results := [.lit (.bool true)], args := [d] }
  | _ => none }
def fnPathEmptyRow : OpenClaim := { program := "ytncdadcmghglkaagreatdoor", sum := "faabf41bec961bb226745f1feca61c15116fb8319d03274ae46074ad56f81e2f", func := "loop.example/mailwire/laws.FnPathEmpty", spec := "fnPathEmpty", inPlace := ["internal/bytealg.IndexByteString", "internal/bytealg.IndexString"], unfollowed := true, recurses := true, named := ["unicode/utf8.first", "unicode/utf8.acceptRanges", "internal/bytealg.MaxLen"], apart := false, laid := [("unicode/utf8.acceptRanges", laid_unicode_utf8_acceptRanges), ("unicode/utf8.first", laid_unicode_utf8_first)] }
def FnPathEmptySaid : Prop := fnPathEmptyRow.holds Tryz.pinned (OpenSpec.ofChange fnPathEmptySpec)

/-- ITS FALSE NEIGHBOUR: 'it returns false'. Refute it at one input. -/
def fnPathEmptyWrong : ChangeSpec := { name := "fnPathEmpty", fn := fun _ => fun
  | [d] => { results := [.lit (.bool false)], args := [d] }
  | _ => none }
def FnPathEmptyWrongFalsely : Prop := fnPathEmptyRow.holds Tryz.pinned (OpenSpec.ofChange fnPathEmptyWrong)

/-- 'laws.FnPartAt': WHATEVER THE INPUT: true; the input reads as it did. -/
def fnPartAtSpec : ChangeSpec := { name := "fnPartAt", fn := fun _ => fun
  | [d] => { results := [.lit (.bool true)], args := [d] }
  | _ => none }
def fnPartAtRow : OpenClaim := { program := "ytncdadcmghglkaagreatdoor", sum := "faabf41bec961bb226745f1feca61c15116fb8319d03274ae46074ad56f81e2f", func := "loop.example/mailwire/laws.FnPartAt", spec := "fnPartAt", inPlace := ["internal/bytealg.IndexByteString", "internal/bytealg.IndexString"], unfollowed := true, recurses := true, named := ["unicode/utf8.first", "unicode/utf8.acceptRanges", "internal/bytealg.MaxLen"], apart := false, laid := [("unicode/utf8.acceptRanges", laid_unicode_utf8_acceptRanges), ("unicode/utf8.first", laid_unicode_utf8_first)] }
def FnPartAtSaid : Prop := fnPartAtRow.holds Tryz.pinned (OpenSpec.ofChange fnPartAtSpec)

/-- ITS FALSE NEIGHBOUR: 'it returns false'. Refute it at one input. -/
def fnPartAtWrong : ChangeSpec := { name := "fnPartAt", fn := fun _ => fun
  | [d] => { results := [.lit (.bool false)], args := [d] }
  | _ => none }
def FnPartAtWrongFalsely : Prop := fnPartAtRow.holds Tryz.pinned (OpenSpec.ofChange fnPartAtWrong)

/- THE SECOND FORM. 'bulk': how many values and letters a reading holds, each counted each time it is reached (what is shared counts as often as it is met; a slice's spare places count too). A statement '..UptoSaid' is the law's where the arguments, and the package variables that the reading takes, are together of bulk at most 1048576: NARROWER than '..Said'. Prove '..Said' where nothing that the law and all that it calls make is longer than what came in: it says more and counts as full. Else prove '..UptoSaid'. A law counts once. -/
mutual
def uptoBulk {H : Type} : DataW H → Nat
  | .lit (.string bytes) => bytes.length + 1
  | .lit _ => 1
  | .nil => 1
  | .ptr d => uptoBulk d + 1
  | .slice elems spare => uptoBulkAll elems + uptoBulkAll spare + 1
  | .agg parts => uptoBulkAll parts + 1
  | .iface _ d => uptoBulk d + 1
  | .map entries => uptoBulkEntries entries + 1
  | .held _ => 1
def uptoBulkAll {H : Type} : List (DataW H) → Nat
  | [] => 0
  | d :: r => uptoBulk d + uptoBulkAll r
def uptoBulkEntries {H : Type} : List (Lit × DataW H) → Nat
  | [] => 0
  | x :: r => uptoBulkEntry x + uptoBulkEntries r
def uptoBulkEntry {H : Type} : Lit × DataW H → Nat
  | (.string bytes, d) => bytes.length + uptoBulk d + 1
  | (_, d) => uptoBulk d + 1
 end
def uptoSmall : (H : Type) → List (DataW H) → Bool := fun _ ds => decide (uptoBulkAll ds ≤ 1048576)
def OpenSpec.upto (s : _root_.Go.ChangeSpec) : _root_.Go.OpenSpec := { _root_.Go.OpenSpec.ofChange s with cond := some uptoSmall }

/-- 'laws.FnParseBody', WHERE WHAT IT READS IS OF BULK AT MOST 1048576: true; the input reads as it did. -/
def fnParseBodyUptoRow : OpenClaim := { program := "ytncdadcmghglkaagreatdoor", sum := "faabf41bec961bb226745f1feca61c15116fb8319d03274ae46074ad56f81e2f", func := "loop.example/mailwire/laws.FnParseBody", spec := "fnParseBody", inPlace := ["internal/bytealg.IndexByteString", "internal/bytealg.IndexString"], unfollowed := true, recurses := true, named := ["internal/bytealg.MaxLen", "unicode/utf8.first", "unicode/utf8.acceptRanges"], apart := false, laid := [("unicode/utf8.acceptRanges", laid_unicode_utf8_acceptRanges), ("unicode/utf8.first", laid_unicode_utf8_first)], narrowed := true }
def FnParseBodyUptoSaid : Prop := fnParseBodyUptoRow.holds Tryz.pinned (OpenSpec.upto fnParseBodySpec)

/-- 'laws.FnPartText', WHERE WHAT IT READS IS OF BULK AT MOST 1048576: true; the input reads as it did. -/
def fnPartTextUptoRow : OpenClaim := { program := "ytncdadcmghglkaagreatdoor", sum := "faabf41bec961bb226745f1feca61c15116fb8319d03274ae46074ad56f81e2f", func := "loop.example/mailwire/laws.FnPartText", spec := "fnPartText", inPlace := ["internal/bytealg.IndexByteString", "internal/bytealg.IndexString"], unfollowed := true, recurses := true, named := ["unicode/utf8.first", "unicode/utf8.acceptRanges", "internal/bytealg.MaxLen"], apart := false, laid := [("unicode/utf8.acceptRanges", laid_unicode_utf8_acceptRanges), ("unicode/utf8.first", laid_unicode_utf8_first)], narrowed := true }
def FnPartTextUptoSaid : Prop := fnPartTextUptoRow.holds Tryz.pinned (OpenSpec.upto fnPartTextSpec)

/-- 'laws.FnPartSame', WHERE WHAT IT READS IS OF BULK AT MOST 1048576: true; the input reads as it did. -/
def fnPartSameUptoRow : OpenClaim := { program := "ytncdadcmghglkaagreatdoor", sum := "faabf41bec961bb226745f1feca61c15116fb8319d03274ae46074ad56f81e2f", func := "loop.example/mailwire/laws.FnPartSame", spec := "fnPartSame", inPlace := ["internal/bytealg.IndexByteString", "internal/bytealg.IndexString"], unfollowed := true, recurses := true, named := ["unicode/utf8.first", "unicode/utf8.acceptRanges", "internal/bytealg.MaxLen"], apart := false, laid := [("unicode/utf8.acceptRanges", laid_unicode_utf8_acceptRanges), ("unicode/utf8.first", laid_unicode_utf8_first)], narrowed := true }
def FnPartSameUptoSaid : Prop := fnPartSameUptoRow.holds Tryz.pinned (OpenSpec.upto fnPartSameSpec)

/-- 'laws.FnExactPartValid', WHERE WHAT IT READS IS OF BULK AT MOST 1048576: true; the input reads as it did. -/
def fnExactPartValidUptoRow : OpenClaim := { program := "ytncdadcmghglkaagreatdoor", sum := "faabf41bec961bb226745f1feca61c15116fb8319d03274ae46074ad56f81e2f", func := "loop.example/mailwire/laws.FnExactPartValid", spec := "fnExactPartValid", inPlace := ["internal/bytealg.IndexByteString", "internal/bytealg.IndexString"], unfollowed := true, recurses := true, named := ["unicode/utf8.first", "unicode/utf8.acceptRanges", "internal/bytealg.MaxLen"], loops := true, apart := false, laid := [("unicode/utf8.acceptRanges", laid_unicode_utf8_acceptRanges), ("unicode/utf8.first", laid_unicode_utf8_first)], narrowed := true }
def FnExactPartValidUptoSaid : Prop := fnExactPartValidUptoRow.holds Tryz.pinned (OpenSpec.upto fnExactPartValidSpec)

/-- 'laws.FnExactCountParts', WHERE WHAT IT READS IS OF BULK AT MOST 1048576: true; the input reads as it did. -/
def fnExactCountPartsUptoRow : OpenClaim := { program := "ytncdadcmghglkaagreatdoor", sum := "faabf41bec961bb226745f1feca61c15116fb8319d03274ae46074ad56f81e2f", func := "loop.example/mailwire/laws.FnExactCountParts", spec := "fnExactCountParts", inPlace := ["internal/bytealg.IndexByteString", "internal/bytealg.IndexString"], unfollowed := true, recurses := true, named := ["unicode/utf8.first", "unicode/utf8.acceptRanges", "internal/bytealg.MaxLen"], loops := true, apart := false, laid := [("unicode/utf8.acceptRanges", laid_unicode_utf8_acceptRanges), ("unicode/utf8.first", laid_unicode_utf8_first)], narrowed := true }
def FnExactCountPartsUptoSaid : Prop := fnExactCountPartsUptoRow.holds Tryz.pinned (OpenSpec.upto fnExactCountPartsSpec)

/-- 'laws.FnExactFormatPart', WHERE WHAT IT READS IS OF BULK AT MOST 1048576: true; the input reads as it did. -/
def fnExactFormatPartUptoRow : OpenClaim := { program := "ytncdadcmghglkaagreatdoor", sum := "faabf41bec961bb226745f1feca61c15116fb8319d03274ae46074ad56f81e2f", func := "loop.example/mailwire/laws.FnExactFormatPart", spec := "fnExactFormatPart", inPlace := ["internal/bytealg.IndexByteString", "internal/bytealg.IndexString"], unfollowed := true, recurses := true, named := ["unicode/utf8.first", "unicode/utf8.acceptRanges", "internal/bytealg.MaxLen"], loops := true, apart := false, laid := [("unicode/utf8.acceptRanges", laid_unicode_utf8_acceptRanges), ("unicode/utf8.first", laid_unicode_utf8_first)], narrowed := true }
def FnExactFormatPartUptoSaid : Prop := fnExactFormatPartUptoRow.holds Tryz.pinned (OpenSpec.upto fnExactFormatPartSpec)

/-- 'laws.FnPartLines', WHERE WHAT IT READS IS OF BULK AT MOST 1048576: true; the input reads as it did. -/
def fnPartLinesUptoRow : OpenClaim := { program := "ytncdadcmghglkaagreatdoor", sum := "faabf41bec961bb226745f1feca61c15116fb8319d03274ae46074ad56f81e2f", func := "loop.example/mailwire/laws.FnPartLines", spec := "fnPartLines", inPlace := ["internal/bytealg.IndexByteString", "internal/bytealg.IndexString"], unfollowed := true, recurses := true, named := ["unicode/utf8.first", "unicode/utf8.acceptRanges", "internal/bytealg.MaxLen"], apart := false, laid := [("unicode/utf8.acceptRanges", laid_unicode_utf8_acceptRanges), ("unicode/utf8.first", laid_unicode_utf8_first)], narrowed := true }
def FnPartLinesUptoSaid : Prop := fnPartLinesUptoRow.holds Tryz.pinned (OpenSpec.upto fnPartLinesSpec)

/-- 'laws.FnCountParts', WHERE WHAT IT READS IS OF BULK AT MOST 1048576: true; the input reads as it did. -/
def fnCountPartsUptoRow : OpenClaim := { program := "ytncdadcmghglkaagreatdoor", sum := "faabf41bec961bb226745f1feca61c15116fb8319d03274ae46074ad56f81e2f", func := "loop.example/mailwire/laws.FnCountParts", spec := "fnCountParts", inPlace := ["internal/bytealg.IndexByteString", "internal/bytealg.IndexString"], unfollowed := true, recurses := true, named := ["unicode/utf8.first", "unicode/utf8.acceptRanges", "internal/bytealg.MaxLen"], apart := false, laid := [("unicode/utf8.acceptRanges", laid_unicode_utf8_acceptRanges), ("unicode/utf8.first", laid_unicode_utf8_first)], narrowed := true }
def FnCountPartsUptoSaid : Prop := fnCountPartsUptoRow.holds Tryz.pinned (OpenSpec.upto fnCountPartsSpec)

/-- 'laws.FnKidValid', WHERE WHAT IT READS IS OF BULK AT MOST 1048576: true; the input reads as it did. -/
def fnKidValidUptoRow : OpenClaim := { program := "ytncdadcmghglkaagreatdoor", sum := "faabf41bec961bb226745f1feca61c15116fb8319d03274ae46074ad56f81e2f", func := "loop.example/mailwire/laws.FnKidValid", spec := "fnKidValid", inPlace := ["internal/bytealg.IndexByteString", "internal/bytealg.IndexString"], unfollowed := true, recurses := true, named := ["unicode/utf8.first", "unicode/utf8.acceptRanges", "internal/bytealg.MaxLen"], apart := false, laid := [("unicode/utf8.acceptRanges", laid_unicode_utf8_acceptRanges), ("unicode/utf8.first", laid_unicode_utf8_first)], narrowed := true }
def FnKidValidUptoSaid : Prop := fnKidValidUptoRow.holds Tryz.pinned (OpenSpec.upto fnKidValidSpec)

/-- 'laws.FnExactPartAt', WHERE WHAT IT READS IS OF BULK AT MOST 1048576: true; the input reads as it did. -/
def fnExactPartAtUptoRow : OpenClaim := { program := "ytncdadcmghglkaagreatdoor", sum := "faabf41bec961bb226745f1feca61c15116fb8319d03274ae46074ad56f81e2f", func := "loop.example/mailwire/laws.FnExactPartAt", spec := "fnExactPartAt", inPlace := ["internal/bytealg.IndexByteString", "internal/bytealg.IndexString"], unfollowed := true, recurses := true, named := ["unicode/utf8.first", "unicode/utf8.acceptRanges", "internal/bytealg.MaxLen"], loops := true, apart := false, laid := [("unicode/utf8.acceptRanges", laid_unicode_utf8_acceptRanges), ("unicode/utf8.first", laid_unicode_utf8_first)], narrowed := true }
def FnExactPartAtUptoSaid : Prop := fnExactPartAtUptoRow.holds Tryz.pinned (OpenSpec.upto fnExactPartAtSpec)

/-- 'laws.FnKidLines', WHERE WHAT IT READS IS OF BULK AT MOST 1048576: true; the input reads as it did. -/
def fnKidLinesUptoRow : OpenClaim := { program := "ytncdadcmghglkaagreatdoor", sum := "faabf41bec961bb226745f1feca61c15116fb8319d03274ae46074ad56f81e2f", func := "loop.example/mailwire/laws.FnKidLines", spec := "fnKidLines", inPlace := ["internal/bytealg.IndexByteString", "internal/bytealg.IndexString"], unfollowed := true, recurses := true, named := ["unicode/utf8.first", "unicode/utf8.acceptRanges", "internal/bytealg.MaxLen"], apart := false, laid := [("unicode/utf8.acceptRanges", laid_unicode_utf8_acceptRanges), ("unicode/utf8.first", laid_unicode_utf8_first)], narrowed := true }
def FnKidLinesUptoSaid : Prop := fnKidLinesUptoRow.holds Tryz.pinned (OpenSpec.upto fnKidLinesSpec)

/-- 'laws.FnPartValid', WHERE WHAT IT READS IS OF BULK AT MOST 1048576: true; the input reads as it did. -/
def fnPartValidUptoRow : OpenClaim := { program := "ytncdadcmghglkaagreatdoor", sum := "faabf41bec961bb226745f1feca61c15116fb8319d03274ae46074ad56f81e2f", func := "loop.example/mailwire/laws.FnPartValid", spec := "fnPartValid", inPlace := ["internal/bytealg.IndexByteString", "internal/bytealg.IndexString"], unfollowed := true, recurses := true, named := ["unicode/utf8.first", "unicode/utf8.acceptRanges", "internal/bytealg.MaxLen"], apart := false, laid := [("unicode/utf8.acceptRanges", laid_unicode_utf8_acceptRanges), ("unicode/utf8.first", laid_unicode_utf8_first)], narrowed := true }
def FnPartValidUptoSaid : Prop := fnPartValidUptoRow.holds Tryz.pinned (OpenSpec.upto fnPartValidSpec)

/-- 'laws.FnExactParsePart', WHERE WHAT IT READS IS OF BULK AT MOST 1048576: true; the input reads as it did. -/
def fnExactParsePartUptoRow : OpenClaim := { program := "ytncdadcmghglkaagreatdoor", sum := "faabf41bec961bb226745f1feca61c15116fb8319d03274ae46074ad56f81e2f", func := "loop.example/mailwire/laws.FnExactParsePart", spec := "fnExactParsePart", inPlace := ["internal/bytealg.IndexByteString", "internal/bytealg.IndexString"], unfollowed := true, recurses := true, named := ["internal/bytealg.MaxLen", "unicode/utf8.first", "unicode/utf8.acceptRanges"], apart := false, laid := [("unicode/utf8.acceptRanges", laid_unicode_utf8_acceptRanges), ("unicode/utf8.first", laid_unicode_utf8_first)], narrowed := true }
def FnExactParsePartUptoSaid : Prop := fnExactParsePartUptoRow.holds Tryz.pinned (OpenSpec.upto fnExactParsePartSpec)

/-- 'laws.FnPathEmpty', WHERE WHAT IT READS IS OF BULK AT MOST 1048576: true; the input reads as it did. -/
def fnPathEmptyUptoRow : OpenClaim := { program := "ytncdadcmghglkaagreatdoor", sum := "faabf41bec961bb226745f1feca61c15116fb8319d03274ae46074ad56f81e2f", func := "loop.example/mailwire/laws.FnPathEmpty", spec := "fnPathEmpty", inPlace := ["internal/bytealg.IndexByteString", "internal/bytealg.IndexString"], unfollowed := true, recurses := true, named := ["unicode/utf8.first", "unicode/utf8.acceptRanges", "internal/bytealg.MaxLen"], apart := false, laid := [("unicode/utf8.acceptRanges", laid_unicode_utf8_acceptRanges), ("unicode/utf8.first", laid_unicode_utf8_first)], narrowed := true }
def FnPathEmptyUptoSaid : Prop := fnPathEmptyUptoRow.holds Tryz.pinned (OpenSpec.upto fnPathEmptySpec)

/-- 'laws.FnPartAt', WHERE WHAT IT READS IS OF BULK AT MOST 1048576: true; the input reads as it did. -/
def fnPartAtUptoRow : OpenClaim := { program := "ytncdadcmghglkaagreatdoor", sum := "faabf41bec961bb226745f1feca61c15116fb8319d03274ae46074ad56f81e2f", func := "loop.example/mailwire/laws.FnPartAt", spec := "fnPartAt", inPlace := ["internal/bytealg.IndexByteString", "internal/bytealg.IndexString"], unfollowed := true, recurses := true, named := ["unicode/utf8.first", "unicode/utf8.acceptRanges", "internal/bytealg.MaxLen"], apart := false, laid := [("unicode/utf8.acceptRanges", laid_unicode_utf8_acceptRanges), ("unicode/utf8.first", laid_unicode_utf8_first)], narrowed := true }
def FnPartAtUptoSaid : Prop := fnPartAtUptoRow.holds Tryz.pinned (OpenSpec.upto fnPartAtSpec)

end Rows
end Go.Proofs.YtncdadcmghglkaaGreatDoor
