/-
  No cell of these rows narrows 'for every input' (looked for: loops, veiled, ifaces, maps, wideKeys, modest, calm, conditions, laid).
  DERIVED. THE GIVEN ROWS OF THIS SEAT. 16 by the template 'for every input the law returns true; each argument reads behind the call as it read before'; 0 by the template 'total and deterministic' (their statements: YtengipddcaookaaTotals.lean).
  GIVEN WITH THE SEED: the statements are not yours to turn. If you find one false, say at which input.
  Laid BY PROGRAM, IN A SANDBOX (cutbox-rows.mjs): the forced cells as the released guide's own fill.sh prints them over the translation f1556a12df10159d… (all of the seat's roots in one cut). By AI agents, Wed Nov 11 2026. No macro, syntax, notation, axiom, sorry.
-/
import Derived.Test.YtengipddcaookaaChecked
import GoSem.Claim
import GoSem.ClaimJoined
import GoSem.ClaimMapViews
import Derived.JoinedTies
import Derived.KernelRfl
namespace Go.Proofs.Ytengipddcaookaa
/- THE CELL 'sum', in the pinned program and in every row, IS THE sha256 OF THE DUMP (.gsa) THAT YtengipddcaookaaProg.lean LOADS. Nothing in Lean hashes anything: it is a label: what it is worth is what the hold of that sum in a sandbox is worth. -/
noncomputable def Try.pinned : Pinned := { name := "ytengipddcaookaa", sum := "f1556a12df10159d377ebceae77610bfc9fe69a7641ed3262ede383d1c6cba9b", checked := Try.checked }
namespace Rows
def none {H : Type} : Left H := { results := [], args := [] }

/-- 'laws.FnExactFreshBoundary': WHATEVER THE INPUT: true; the input reads as it did. -/
def fnExactFreshBoundarySpec : ChangeSpec := { name := "fnExactFreshBoundary", fn := fun _ => fun
  | [d] => { results := [.lit (.bool true)], args := [d] }
  | _ => none }
def fnExactFreshBoundaryRow : OpenClaim := { program := "ytengipddcaookaa", sum := "f1556a12df10159d377ebceae77610bfc9fe69a7641ed3262ede383d1c6cba9b", func := "loop.example/mailwire/laws.FnExactFreshBoundary", spec := "fnExactFreshBoundary", recurses := true, apart := false }
def FnExactFreshBoundarySaid : Prop := fnExactFreshBoundaryRow.holds Try.pinned (OpenSpec.ofChange fnExactFreshBoundarySpec)

/-- ITS FALSE NEIGHBOUR: 'it returns false'. Refute it at one input. -/
def fnExactFreshBoundaryWrong : ChangeSpec := { name := "fnExactFreshBoundary", fn := fun _ => fun
  | [d] => { results := [.lit (.bool false)], args := [d] }
  | _ => none }
def FnExactFreshBoundaryWrongFalsely : Prop := fnExactFreshBoundaryRow.holds Try.pinned (OpenSpec.ofChange fnExactFreshBoundaryWrong)

/-- 'laws.FnFreshFirst': WHATEVER THE INPUT: true; the input reads as it did. -/
def fnFreshFirstSpec : ChangeSpec := { name := "fnFreshFirst", fn := fun _ => fun
  | [d] => { results := [.lit (.bool true)], args := [d] }
  | _ => none }
def fnFreshFirstRow : OpenClaim := { program := "ytengipddcaookaa", sum := "f1556a12df10159d377ebceae77610bfc9fe69a7641ed3262ede383d1c6cba9b", func := "loop.example/mailwire/laws.FnFreshFirst", spec := "fnFreshFirst", recurses := true, apart := false }
def FnFreshFirstSaid : Prop := fnFreshFirstRow.holds Try.pinned (OpenSpec.ofChange fnFreshFirstSpec)

/-- ITS FALSE NEIGHBOUR: 'it returns false'. Refute it at one input. -/
def fnFreshFirstWrong : ChangeSpec := { name := "fnFreshFirst", fn := fun _ => fun
  | [d] => { results := [.lit (.bool false)], args := [d] }
  | _ => none }
def FnFreshFirstWrongFalsely : Prop := fnFreshFirstRow.holds Try.pinned (OpenSpec.ofChange fnFreshFirstWrong)

/-- 'laws.FnSplitLines': WHATEVER THE INPUT: true; the input reads as it did. -/
def fnSplitLinesSpec : ChangeSpec := { name := "fnSplitLines", fn := fun _ => fun
  | [d] => { results := [.lit (.bool true)], args := [d] }
  | _ => none }
def fnSplitLinesRow : OpenClaim := { program := "ytengipddcaookaa", sum := "f1556a12df10159d377ebceae77610bfc9fe69a7641ed3262ede383d1c6cba9b", func := "loop.example/mailwire/laws.FnSplitLines", spec := "fnSplitLines", unfollowed := true, recurses := true, apart := false }
def FnSplitLinesSaid : Prop := fnSplitLinesRow.holds Try.pinned (OpenSpec.ofChange fnSplitLinesSpec)

/-- ITS FALSE NEIGHBOUR: 'it returns false'. Refute it at one input. -/
def fnSplitLinesWrong : ChangeSpec := { name := "fnSplitLines", fn := fun _ => fun
  | [d] => { results := [.lit (.bool false)], args := [d] }
  | _ => none }
def FnSplitLinesWrongFalsely : Prop := fnSplitLinesRow.holds Try.pinned (OpenSpec.ofChange fnSplitLinesWrong)

/-- 'laws.FnExactKindSame': WHATEVER THE INPUT: true; the input reads as it did. -/
def fnExactKindSameSpec : ChangeSpec := { name := "fnExactKindSame", fn := fun _ => fun
  | [d1, d2] => { results := [.lit (.bool true)], args := [d1, d2] }
  | _ => none }
def fnExactKindSameRow : OpenClaim := { program := "ytengipddcaookaa", sum := "f1556a12df10159d377ebceae77610bfc9fe69a7641ed3262ede383d1c6cba9b", func := "loop.example/mailwire/laws.FnExactKindSame", spec := "fnExactKindSame", apart := false }
def FnExactKindSameSaid : Prop := fnExactKindSameRow.holds Try.pinned (OpenSpec.ofChange fnExactKindSameSpec)

/-- ITS FALSE NEIGHBOUR: 'it returns false'. Refute it at one input. -/
def fnExactKindSameWrong : ChangeSpec := { name := "fnExactKindSame", fn := fun _ => fun
  | [d1, d2] => { results := [.lit (.bool false)], args := [d1, d2] }
  | _ => none }
def FnExactKindSameWrongFalsely : Prop := fnExactKindSameRow.holds Try.pinned (OpenSpec.ofChange fnExactKindSameWrong)

/-- 'laws.FnSplitBefore': WHATEVER THE INPUT: true; the input reads as it did. -/
def fnSplitBeforeSpec : ChangeSpec := { name := "fnSplitBefore", fn := fun _ => fun
  | [d] => { results := [.lit (.bool true)], args := [d] }
  | _ => none }
def fnSplitBeforeRow : OpenClaim := { program := "ytengipddcaookaa", sum := "f1556a12df10159d377ebceae77610bfc9fe69a7641ed3262ede383d1c6cba9b", func := "loop.example/mailwire/laws.FnSplitBefore", spec := "fnSplitBefore", unfollowed := true, recurses := true, apart := false }
def FnSplitBeforeSaid : Prop := fnSplitBeforeRow.holds Try.pinned (OpenSpec.ofChange fnSplitBeforeSpec)

/-- ITS FALSE NEIGHBOUR: 'it returns false'. Refute it at one input. -/
def fnSplitBeforeWrong : ChangeSpec := { name := "fnSplitBefore", fn := fun _ => fun
  | [d] => { results := [.lit (.bool false)], args := [d] }
  | _ => none }
def FnSplitBeforeWrongFalsely : Prop := fnSplitBeforeRow.holds Try.pinned (OpenSpec.ofChange fnSplitBeforeWrong)

/-- 'laws.FnJoinLines': WHATEVER THE INPUT: true; the input reads as it did. -/
def fnJoinLinesSpec : ChangeSpec := { name := "fnJoinLines", fn := fun _ => fun
  | [d] => { results := [.lit (.bool true)], args := [d] }
  | _ => none }
def fnJoinLinesRow : OpenClaim := { program := "ytengipddcaookaa", sum := "f1556a12df10159d377ebceae77610bfc9fe69a7641ed3262ede383d1c6cba9b", func := "loop.example/mailwire/laws.FnJoinLines", spec := "fnJoinLines", unfollowed := true, recurses := true, apart := false }
def FnJoinLinesSaid : Prop := fnJoinLinesRow.holds Try.pinned (OpenSpec.ofChange fnJoinLinesSpec)

/-- ITS FALSE NEIGHBOUR: 'it returns false'. Refute it at one input. -/
def fnJoinLinesWrong : ChangeSpec := { name := "fnJoinLines", fn := fun _ => fun
  | [d] => { results := [.lit (.bool false)], args := [d] }
  | _ => none }
def FnJoinLinesWrongFalsely : Prop := fnJoinLinesRow.holds Try.pinned (OpenSpec.ofChange fnJoinLinesWrong)

/-- 'laws.FnJoinParts': WHATEVER THE INPUT: true; the input reads as it did. -/
def fnJoinPartsSpec : ChangeSpec := { name := "fnJoinParts", fn := fun _ => fun
  | [d] => { results := [.lit (.bool true)], args := [d] }
  | _ => none }
def fnJoinPartsRow : OpenClaim := { program := "ytengipddcaookaa", sum := "f1556a12df10159d377ebceae77610bfc9fe69a7641ed3262ede383d1c6cba9b", func := "loop.example/mailwire/laws.FnJoinParts", spec := "fnJoinParts", unfollowed := true, recurses := true, apart := false }
def FnJoinPartsSaid : Prop := fnJoinPartsRow.holds Try.pinned (OpenSpec.ofChange fnJoinPartsSpec)

/-- ITS FALSE NEIGHBOUR: 'it returns false'. Refute it at one input. -/
def fnJoinPartsWrong : ChangeSpec := { name := "fnJoinParts", fn := fun _ => fun
  | [d] => { results := [.lit (.bool false)], args := [d] }
  | _ => none }
def FnJoinPartsWrongFalsely : Prop := fnJoinPartsRow.holds Try.pinned (OpenSpec.ofChange fnJoinPartsWrong)

/-- 'laws.FnExactSplitParts': WHATEVER THE INPUT: true; the input reads as it did. -/
def fnExactSplitPartsSpec : ChangeSpec := { name := "fnExactSplitParts", fn := fun _ => fun
  | [d1, d2] => { results := [.lit (.bool true)], args := [d1, d2] }
  | _ => none }
def fnExactSplitPartsRow : OpenClaim := { program := "ytengipddcaookaa", sum := "f1556a12df10159d377ebceae77610bfc9fe69a7641ed3262ede383d1c6cba9b", func := "loop.example/mailwire/laws.FnExactSplitParts", spec := "fnExactSplitParts", unfollowed := true, recurses := true, apart := false }
def FnExactSplitPartsSaid : Prop := fnExactSplitPartsRow.holds Try.pinned (OpenSpec.ofChange fnExactSplitPartsSpec)

/-- ITS FALSE NEIGHBOUR: 'it returns false'. Refute it at one input. -/
def fnExactSplitPartsWrong : ChangeSpec := { name := "fnExactSplitParts", fn := fun _ => fun
  | [d1, d2] => { results := [.lit (.bool false)], args := [d1, d2] }
  | _ => none }
def FnExactSplitPartsWrongFalsely : Prop := fnExactSplitPartsRow.holds Try.pinned (OpenSpec.ofChange fnExactSplitPartsWrong)

/-- 'laws.FnSplitParts': WHATEVER THE INPUT: true; the input reads as it did. -/
def fnSplitPartsSpec : ChangeSpec := { name := "fnSplitParts", fn := fun _ => fun
  | [d] => { results := [.lit (.bool true)], args := [d] }
  | _ => none }
def fnSplitPartsRow : OpenClaim := { program := "ytengipddcaookaa", sum := "f1556a12df10159d377ebceae77610bfc9fe69a7641ed3262ede383d1c6cba9b", func := "loop.example/mailwire/laws.FnSplitParts", spec := "fnSplitParts", unfollowed := true, recurses := true, apart := false }
def FnSplitPartsSaid : Prop := fnSplitPartsRow.holds Try.pinned (OpenSpec.ofChange fnSplitPartsSpec)

/-- ITS FALSE NEIGHBOUR: 'it returns false'. Refute it at one input. -/
def fnSplitPartsWrong : ChangeSpec := { name := "fnSplitParts", fn := fun _ => fun
  | [d] => { results := [.lit (.bool false)], args := [d] }
  | _ => none }
def FnSplitPartsWrongFalsely : Prop := fnSplitPartsRow.holds Try.pinned (OpenSpec.ofChange fnSplitPartsWrong)

/-- 'laws.FnFreshBoundary': WHATEVER THE INPUT: true; the input reads as it did. -/
def fnFreshBoundarySpec : ChangeSpec := { name := "fnFreshBoundary", fn := fun _ => fun
  | [d] => { results := [.lit (.bool true)], args := [d] }
  | _ => none }
def fnFreshBoundaryRow : OpenClaim := { program := "ytengipddcaookaa", sum := "f1556a12df10159d377ebceae77610bfc9fe69a7641ed3262ede383d1c6cba9b", func := "loop.example/mailwire/laws.FnFreshBoundary", spec := "fnFreshBoundary", unfollowed := true, recurses := true, apart := false }
def FnFreshBoundarySaid : Prop := fnFreshBoundaryRow.holds Try.pinned (OpenSpec.ofChange fnFreshBoundarySpec)

/-- ITS FALSE NEIGHBOUR: 'it returns false'. Refute it at one input. -/
def fnFreshBoundaryWrong : ChangeSpec := { name := "fnFreshBoundary", fn := fun _ => fun
  | [d] => { results := [.lit (.bool false)], args := [d] }
  | _ => none }
def FnFreshBoundaryWrongFalsely : Prop := fnFreshBoundaryRow.holds Try.pinned (OpenSpec.ofChange fnFreshBoundaryWrong)

/-- 'laws.FnExactJoinParts': WHATEVER THE INPUT: true; the input reads as it did. -/
def fnExactJoinPartsSpec : ChangeSpec := { name := "fnExactJoinParts", fn := fun _ => fun
  | [d1, d2] => { results := [.lit (.bool true)], args := [d1, d2] }
  | _ => none }
def fnExactJoinPartsRow : OpenClaim := { program := "ytengipddcaookaa", sum := "f1556a12df10159d377ebceae77610bfc9fe69a7641ed3262ede383d1c6cba9b", func := "loop.example/mailwire/laws.FnExactJoinParts", spec := "fnExactJoinParts", unfollowed := true, recurses := true, apart := false }
def FnExactJoinPartsSaid : Prop := fnExactJoinPartsRow.holds Try.pinned (OpenSpec.ofChange fnExactJoinPartsSpec)

/-- ITS FALSE NEIGHBOUR: 'it returns false'. Refute it at one input. -/
def fnExactJoinPartsWrong : ChangeSpec := { name := "fnExactJoinParts", fn := fun _ => fun
  | [d1, d2] => { results := [.lit (.bool false)], args := [d1, d2] }
  | _ => none }
def FnExactJoinPartsWrongFalsely : Prop := fnExactJoinPartsRow.holds Try.pinned (OpenSpec.ofChange fnExactJoinPartsWrong)

/-- 'laws.FnKindSame': WHATEVER THE INPUT: true; the input reads as it did. -/
def fnKindSameSpec : ChangeSpec := { name := "fnKindSame", fn := fun _ => fun
  | [d] => { results := [.lit (.bool true)], args := [d] }
  | _ => none }
def fnKindSameRow : OpenClaim := { program := "ytengipddcaookaa", sum := "f1556a12df10159d377ebceae77610bfc9fe69a7641ed3262ede383d1c6cba9b", func := "loop.example/mailwire/laws.FnKindSame", spec := "fnKindSame", unfollowed := true, recurses := true, apart := false }
def FnKindSameSaid : Prop := fnKindSameRow.holds Try.pinned (OpenSpec.ofChange fnKindSameSpec)

/-- ITS FALSE NEIGHBOUR: 'it returns false'. Refute it at one input. -/
def fnKindSameWrong : ChangeSpec := { name := "fnKindSame", fn := fun _ => fun
  | [d] => { results := [.lit (.bool false)], args := [d] }
  | _ => none }
def FnKindSameWrongFalsely : Prop := fnKindSameRow.holds Try.pinned (OpenSpec.ofChange fnKindSameWrong)

/-- 'laws.FnExactKindValid': WHATEVER THE INPUT: true; the input reads as it did. -/
def fnExactKindValidSpec : ChangeSpec := { name := "fnExactKindValid", fn := fun _ => fun
  | [d] => { results := [.lit (.bool true)], args := [d] }
  | _ => none }
def fnExactKindValidRow : OpenClaim := { program := "ytengipddcaookaa", sum := "f1556a12df10159d377ebceae77610bfc9fe69a7641ed3262ede383d1c6cba9b", func := "loop.example/mailwire/laws.FnExactKindValid", spec := "fnExactKindValid", unfollowed := true, recurses := true, apart := false }
def FnExactKindValidSaid : Prop := fnExactKindValidRow.holds Try.pinned (OpenSpec.ofChange fnExactKindValidSpec)

/-- ITS FALSE NEIGHBOUR: 'it returns false'. Refute it at one input. -/
def fnExactKindValidWrong : ChangeSpec := { name := "fnExactKindValid", fn := fun _ => fun
  | [d] => { results := [.lit (.bool false)], args := [d] }
  | _ => none }
def FnExactKindValidWrongFalsely : Prop := fnExactKindValidRow.holds Try.pinned (OpenSpec.ofChange fnExactKindValidWrong)

/-- 'laws.FnExactFormatKind': WHATEVER THE INPUT: true; the input reads as it did. -/
def fnExactFormatKindSpec : ChangeSpec := { name := "fnExactFormatKind", fn := fun _ => fun
  | [d] => { results := [.lit (.bool true)], args := [d] }
  | _ => none }
def fnExactFormatKindRow : OpenClaim := { program := "ytengipddcaookaa", sum := "f1556a12df10159d377ebceae77610bfc9fe69a7641ed3262ede383d1c6cba9b", func := "loop.example/mailwire/laws.FnExactFormatKind", spec := "fnExactFormatKind", unfollowed := true, recurses := true, apart := false }
def FnExactFormatKindSaid : Prop := fnExactFormatKindRow.holds Try.pinned (OpenSpec.ofChange fnExactFormatKindSpec)

/-- ITS FALSE NEIGHBOUR: 'it returns false'. Refute it at one input. -/
def fnExactFormatKindWrong : ChangeSpec := { name := "fnExactFormatKind", fn := fun _ => fun
  | [d] => { results := [.lit (.bool false)], args := [d] }
  | _ => none }
def FnExactFormatKindWrongFalsely : Prop := fnExactFormatKindRow.holds Try.pinned (OpenSpec.ofChange fnExactFormatKindWrong)

/-- 'laws.FnBoundaryOf': WHATEVER THE INPUT: true; the input reads as it did. -/
def fnBoundaryOfSpec : ChangeSpec := { name := "fnBoundaryOf", fn := fun _ => fun
  | [d] => { results := [.lit (.bool true)], args := [d] }
  | _ => none }
def fnBoundaryOfRow : OpenClaim := { program := "ytengipddcaookaa", sum := "f1556a12df10159d377ebceae77610bfc9fe69a7641ed3262ede383d1c6cba9b", func := "loop.example/mailwire/laws.FnBoundaryOf", spec := "fnBoundaryOf", unfollowed := true, recurses := true, apart := false }
def FnBoundaryOfSaid : Prop := fnBoundaryOfRow.holds Try.pinned (OpenSpec.ofChange fnBoundaryOfSpec)

/-- ITS FALSE NEIGHBOUR: 'it returns false'. Refute it at one input. -/
def fnBoundaryOfWrong : ChangeSpec := { name := "fnBoundaryOf", fn := fun _ => fun
  | [d] => { results := [.lit (.bool false)], args := [d] }
  | _ => none }
def FnBoundaryOfWrongFalsely : Prop := fnBoundaryOfRow.holds Try.pinned (OpenSpec.ofChange fnBoundaryOfWrong)

/-- 'laws.FnExactBoundaryOf': WHATEVER THE INPUT: true; the input reads as it did. -/
def fnExactBoundaryOfSpec : ChangeSpec := { name := "fnExactBoundaryOf", fn := fun _ => fun
  | [d] => { results := [.lit (.bool true)], args := [d] }
  | _ => none }
def fnExactBoundaryOfRow : OpenClaim := { program := "ytengipddcaookaa", sum := "f1556a12df10159d377ebceae77610bfc9fe69a7641ed3262ede383d1c6cba9b", func := "loop.example/mailwire/laws.FnExactBoundaryOf", spec := "fnExactBoundaryOf", unfollowed := true, recurses := true, apart := false }
def FnExactBoundaryOfSaid : Prop := fnExactBoundaryOfRow.holds Try.pinned (OpenSpec.ofChange fnExactBoundaryOfSpec)

/-- ITS FALSE NEIGHBOUR: 'it returns false'. Refute it at one input. -/
def fnExactBoundaryOfWrong : ChangeSpec := { name := "fnExactBoundaryOf", fn := fun _ => fun
  | [d] => { results := [.lit (.bool false)], args := [d] }
  | _ => none }
def FnExactBoundaryOfWrongFalsely : Prop := fnExactBoundaryOfRow.holds Try.pinned (OpenSpec.ofChange fnExactBoundaryOfWrong)

/- THE SECOND FORM. 'bulk': how many values and letters a reading holds, each counted each time it is reached (what is shared counts as often as it is met; a slice's spare places count too). A statement '..UptoSaid' is the law's where the arguments, and the package variables that the reading takes, are together of bulk at most 1048576: NARROWER than '..Said'. Prove '..Said' where nothing that the law and all that it calls make is longer than what came in: it says more and counts as full. Else prove '..UptoSaid'. A law counts once. -/
mutual
def uptoBulk {H : Type} : DataW H → Nat
  | .lit (.string bytes) => bytes.length + 1
  | .lit _ => 1
  | .nil => 1
  | .ptr d => uptoBulk d + 1
  | .slice elems spare => uptoBulkAll elems + uptoBulkAll spare + 1
  | .agg parts => uptoBulkAll parts + 1
  | .iface _ d => uptoBulk d + 1
  | .map entries => uptoBulkEntries entries + 1
  | .held _ => 1
def uptoBulkAll {H : Type} : List (DataW H) → Nat
  | [] => 0
  | d :: r => uptoBulk d + uptoBulkAll r
def uptoBulkEntries {H : Type} : List (Lit × DataW H) → Nat
  | [] => 0
  | x :: r => uptoBulkEntry x + uptoBulkEntries r
def uptoBulkEntry {H : Type} : Lit × DataW H → Nat
  | (.string bytes, d) => bytes.length + uptoBulk d + 1
  | (_, d) => uptoBulk d + 1
 end
def uptoSmall : (H : Type) → List (DataW H) → Bool := fun _ ds => decide (uptoBulkAll ds ≤ 1048576)
def OpenSpec.upto (s : _root_.Go.ChangeSpec) : _root_.Go.OpenSpec := { _root_.Go.OpenSpec.ofChange s with cond := some uptoSmall }

/-- 'laws.FnExactFreshBoundary', WHERE WHAT IT READS IS OF BULK AT MOST 1048576: true; the input reads as it did. -/
def fnExactFreshBoundaryUptoRow : OpenClaim := { program := "ytengipddcaookaa", sum := "f1556a12df10159d377ebceae77610bfc9fe69a7641ed3262ede383d1c6cba9b", func := "loop.example/mailwire/laws.FnExactFreshBoundary", spec := "fnExactFreshBoundary", recurses := true, apart := false, narrowed := true }
def FnExactFreshBoundaryUptoSaid : Prop := fnExactFreshBoundaryUptoRow.holds Try.pinned (OpenSpec.upto fnExactFreshBoundarySpec)

/-- 'laws.FnFreshFirst', WHERE WHAT IT READS IS OF BULK AT MOST 1048576: true; the input reads as it did. -/
def fnFreshFirstUptoRow : OpenClaim := { program := "ytengipddcaookaa", sum := "f1556a12df10159d377ebceae77610bfc9fe69a7641ed3262ede383d1c6cba9b", func := "loop.example/mailwire/laws.FnFreshFirst", spec := "fnFreshFirst", recurses := true, apart := false, narrowed := true }
def FnFreshFirstUptoSaid : Prop := fnFreshFirstUptoRow.holds Try.pinned (OpenSpec.upto fnFreshFirstSpec)

/-- 'laws.FnSplitLines', WHERE WHAT IT READS IS OF BULK AT MOST 1048576: true; the input reads as it did. -/
def fnSplitLinesUptoRow : OpenClaim := { program := "ytengipddcaookaa", sum := "f1556a12df10159d377ebceae77610bfc9fe69a7641ed3262ede383d1c6cba9b", func := "loop.example/mailwire/laws.FnSplitLines", spec := "fnSplitLines", unfollowed := true, recurses := true, apart := false, narrowed := true }
def FnSplitLinesUptoSaid : Prop := fnSplitLinesUptoRow.holds Try.pinned (OpenSpec.upto fnSplitLinesSpec)

/-- 'laws.FnExactKindSame', WHERE WHAT IT READS IS OF BULK AT MOST 1048576: true; the input reads as it did. -/
def fnExactKindSameUptoRow : OpenClaim := { program := "ytengipddcaookaa", sum := "f1556a12df10159d377ebceae77610bfc9fe69a7641ed3262ede383d1c6cba9b", func := "loop.example/mailwire/laws.FnExactKindSame", spec := "fnExactKindSame", apart := false, narrowed := true }
def FnExactKindSameUptoSaid : Prop := fnExactKindSameUptoRow.holds Try.pinned (OpenSpec.upto fnExactKindSameSpec)

/-- 'laws.FnSplitBefore', WHERE WHAT IT READS IS OF BULK AT MOST 1048576: true; the input reads as it did. -/
def fnSplitBeforeUptoRow : OpenClaim := { program := "ytengipddcaookaa", sum := "f1556a12df10159d377ebceae77610bfc9fe69a7641ed3262ede383d1c6cba9b", func := "loop.example/mailwire/laws.FnSplitBefore", spec := "fnSplitBefore", unfollowed := true, recurses := true, apart := false, narrowed := true }
def FnSplitBeforeUptoSaid : Prop := fnSplitBeforeUptoRow.holds Try.pinned (OpenSpec.upto fnSplitBeforeSpec)

/-- 'laws.FnJoinLines', WHERE WHAT IT READS IS OF BULK AT MOST 1048576: true; the input reads as it did. -/
def fnJoinLinesUptoRow : OpenClaim := { program := "ytengipddcaookaa", sum := "f1556a12df10159d377ebceae77610bfc9fe69a7641ed3262ede383d1c6cba9b", func := "loop.example/mailwire/laws.FnJoinLines", spec := "fnJoinLines", unfollowed := true, recurses := true, apart := false, narrowed := true }
def FnJoinLinesUptoSaid : Prop := fnJoinLinesUptoRow.holds Try.pinned (OpenSpec.upto fnJoinLinesSpec)

/-- 'laws.FnJoinParts', WHERE WHAT IT READS IS OF BULK AT MOST 1048576: true; the input reads as it did. -/
def fnJoinPartsUptoRow : OpenClaim := { program := "ytengipddcaookaa", sum := "f1556a12df10159d377ebceae77610bfc9fe69a7641ed3262ede383d1c6cba9b", func := "loop.example/mailwire/laws.FnJoinParts", spec := "fnJoinParts", unfollowed := true, recurses := true, apart := false, narrowed := true }
def FnJoinPartsUptoSaid : Prop := fnJoinPartsUptoRow.holds Try.pinned (OpenSpec.upto fnJoinPartsSpec)

/-- 'laws.FnExactSplitParts', WHERE WHAT IT READS IS OF BULK AT MOST 1048576: true; the input reads as it did. -/
def fnExactSplitPartsUptoRow : OpenClaim := { program := "ytengipddcaookaa", sum := "f1556a12df10159d377ebceae77610bfc9fe69a7641ed3262ede383d1c6cba9b", func := "loop.example/mailwire/laws.FnExactSplitParts", spec := "fnExactSplitParts", unfollowed := true, recurses := true, apart := false, narrowed := true }
def FnExactSplitPartsUptoSaid : Prop := fnExactSplitPartsUptoRow.holds Try.pinned (OpenSpec.upto fnExactSplitPartsSpec)

/-- 'laws.FnSplitParts', WHERE WHAT IT READS IS OF BULK AT MOST 1048576: true; the input reads as it did. -/
def fnSplitPartsUptoRow : OpenClaim := { program := "ytengipddcaookaa", sum := "f1556a12df10159d377ebceae77610bfc9fe69a7641ed3262ede383d1c6cba9b", func := "loop.example/mailwire/laws.FnSplitParts", spec := "fnSplitParts", unfollowed := true, recurses := true, apart := false, narrowed := true }
def FnSplitPartsUptoSaid : Prop := fnSplitPartsUptoRow.holds Try.pinned (OpenSpec.upto fnSplitPartsSpec)

/-- 'laws.FnFreshBoundary', WHERE WHAT IT READS IS OF BULK AT MOST 1048576: true; the input reads as it did. -/
def fnFreshBoundaryUptoRow : OpenClaim := { program := "ytengipddcaookaa", sum := "f1556a12df10159d377ebceae77610bfc9fe69a7641ed3262ede383d1c6cba9b", func := "loop.example/mailwire/laws.FnFreshBoundary", spec := "fnFreshBoundary", unfollowed := true, recurses := true, apart := false, narrowed := true }
def FnFreshBoundaryUptoSaid : Prop := fnFreshBoundaryUptoRow.holds Try.pinned (OpenSpec.upto fnFreshBoundarySpec)

/-- 'laws.FnExactJoinParts', WHERE WHAT IT READS IS OF BULK AT MOST 1048576: true; the input reads as it did. -/
def fnExactJoinPartsUptoRow : OpenClaim := { program := "ytengipddcaookaa", sum := "f1556a12df10159d377ebceae77610bfc9fe69a7641ed3262ede383d1c6cba9b", func := "loop.example/mailwire/laws.FnExactJoinParts", spec := "fnExactJoinParts", unfollowed := true, recurses := true, apart := false, narrowed := true }
def FnExactJoinPartsUptoSaid : Prop := fnExactJoinPartsUptoRow.holds Try.pinned (OpenSpec.upto fnExactJoinPartsSpec)

/-- 'laws.FnKindSame', WHERE WHAT IT READS IS OF BULK AT MOST 1048576: true; the input reads as it did. -/
def fnKindSameUptoRow : OpenClaim := { program := "ytengipddcaookaa", sum := "f1556a12df10159d377ebceae77610bfc9fe69a7641ed3262ede383d1c6cba9b", func := "loop.example/mailwire/laws.FnKindSame", spec := "fnKindSame", unfollowed := true, recurses := true, apart := false, narrowed := true }
def FnKindSameUptoSaid : Prop := fnKindSameUptoRow.holds Try.pinned (OpenSpec.upto fnKindSameSpec)

/-- 'laws.FnExactKindValid', WHERE WHAT IT READS IS OF BULK AT MOST 1048576: true; the input reads as it did. -/
def fnExactKindValidUptoRow : OpenClaim := { program := "ytengipddcaookaa", sum := "f1556a12df10159d377ebceae77610bfc9fe69a7641ed3262ede383d1c6cba9b", func := "loop.example/mailwire/laws.FnExactKindValid", spec := "fnExactKindValid", unfollowed := true, recurses := true, apart := false, narrowed := true }
def FnExactKindValidUptoSaid : Prop := fnExactKindValidUptoRow.holds Try.pinned (OpenSpec.upto fnExactKindValidSpec)

/-- 'laws.FnExactFormatKind', WHERE WHAT IT READS IS OF BULK AT MOST 1048576: true; the input reads as it did. -/
def fnExactFormatKindUptoRow : OpenClaim := { program := "ytengipddcaookaa", sum := "f1556a12df10159d377ebceae77610bfc9fe69a7641ed3262ede383d1c6cba9b", func := "loop.example/mailwire/laws.FnExactFormatKind", spec := "fnExactFormatKind", unfollowed := true, recurses := true, apart := false, narrowed := true }
def FnExactFormatKindUptoSaid : Prop := fnExactFormatKindUptoRow.holds Try.pinned (OpenSpec.upto fnExactFormatKindSpec)

/-- 'laws.FnBoundaryOf', WHERE WHAT IT READS IS OF BULK AT MOST 1048576: true; the input reads as it did. -/
def fnBoundaryOfUptoRow : OpenClaim := { program := "ytengipddcaookaa", sum := "f1556a12df10159d377ebceae77610bfc9fe69a7641ed3262ede383d1c6cba9b", func := "loop.example/mailwire/laws.FnBoundaryOf", spec := "fnBoundaryOf", unfollowed := true, recurses := true, apart := false, narrowed := true }
def FnBoundaryOfUptoSaid : Prop := fnBoundaryOfUptoRow.holds Try.pinned (OpenSpec.upto fnBoundaryOfSpec)

/-- 'laws.FnExactBoundaryOf', WHERE WHAT IT READS IS OF BULK AT MOST 1048576: true; the input reads as it did. -/
def fnExactBoundaryOfUptoRow : OpenClaim := { program := "ytengipddcaookaa", sum := "f1556a12df10159d377ebceae77610bfc9fe69a7641ed3262ede383d1c6cba9b", func := "loop.example/mailwire/laws.FnExactBoundaryOf", spec := "fnExactBoundaryOf", unfollowed := true, recurses := true, apart := false, narrowed := true }
def FnExactBoundaryOfUptoSaid : Prop := fnExactBoundaryOfUptoRow.holds Try.pinned (OpenSpec.upto fnExactBoundaryOfSpec)

end Rows
end Go.Proofs.Ytengipddcaookaa
