/-
  No cell of these rows narrows 'for every input' (looked for: loops, veiled, ifaces, maps, wideKeys, modest, calm, conditions, laid).
  DERIVED. THE GIVEN ROWS OF THIS SEAT. 14 by the template 'for every input the law returns true; each argument reads behind the call as it read before'; 0 by the template 'total and deterministic' (their statements: YthlgdfjckhjiaaaTotals.lean).
  GIVEN WITH THE SEED: the statements are not yours to turn. If you find one false, say at which input.
  Laid BY PROGRAM, IN A SANDBOX (cutbox-rows.mjs): the forced cells as the released guide's own fill.sh prints them over the translation 2c8e99e8539e68a0… (all of the seat's roots in one cut). By AI agents, Wed Nov 11 2026. No macro, syntax, notation, axiom, sorry.
-/
import Derived.Test.YthlgdfjckhjiaaaChecked
import GoSem.Claim
import GoSem.ClaimJoined
import GoSem.ClaimMapViews
import Derived.JoinedTies
import Derived.KernelRfl
namespace Go.Proofs.Ythlgdfjckhjiaaa
/- THE CELL 'sum', in the pinned program and in every row, IS THE sha256 OF THE DUMP (.gsa) THAT YthlgdfjckhjiaaaProg.lean LOADS. Nothing in Lean hashes anything: it is a label: what it is worth is what the hold of that sum in a sandbox is worth. -/
noncomputable def Try.pinned : Pinned := { name := "ythlgdfjckhjiaaa", sum := "2c8e99e8539e68a09db855e1d160c4a404140266687d9b76ae5e6c48f9d53602", checked := Try.checked }
namespace Rows
def none {H : Type} : Left H := { results := [], args := [] }

/-- 'laws.FnExactCountBare': WHATEVER THE INPUT: true; the input reads as it did. -/
def fnExactCountBareSpec : ChangeSpec := { name := "fnExactCountBare", fn := fun _ => fun
  | [d] => { results := [.lit (.bool true)], args := [d] }
  | _ => none }
def fnExactCountBareRow : OpenClaim := { program := "ythlgdfjckhjiaaa", sum := "2c8e99e8539e68a09db855e1d160c4a404140266687d9b76ae5e6c48f9d53602", func := "loop.example/mailwire/laws.FnExactCountBare", spec := "fnExactCountBare", apart := false }
def FnExactCountBareSaid : Prop := fnExactCountBareRow.holds Try.pinned (OpenSpec.ofChange fnExactCountBareSpec)

/-- ITS FALSE NEIGHBOUR: 'it returns false'. Refute it at one input. -/
def fnExactCountBareWrong : ChangeSpec := { name := "fnExactCountBare", fn := fun _ => fun
  | [d] => { results := [.lit (.bool false)], args := [d] }
  | _ => none }
def FnExactCountBareWrongFalsely : Prop := fnExactCountBareRow.holds Try.pinned (OpenSpec.ofChange fnExactCountBareWrong)

/-- 'laws.FnExactNormalText': WHATEVER THE INPUT: true; the input reads as it did. -/
def fnExactNormalTextSpec : ChangeSpec := { name := "fnExactNormalText", fn := fun _ => fun
  | [d] => { results := [.lit (.bool true)], args := [d] }
  | _ => none }
def fnExactNormalTextRow : OpenClaim := { program := "ythlgdfjckhjiaaa", sum := "2c8e99e8539e68a09db855e1d160c4a404140266687d9b76ae5e6c48f9d53602", func := "loop.example/mailwire/laws.FnExactNormalText", spec := "fnExactNormalText", apart := false }
def FnExactNormalTextSaid : Prop := fnExactNormalTextRow.holds Try.pinned (OpenSpec.ofChange fnExactNormalTextSpec)

/-- ITS FALSE NEIGHBOUR: 'it returns false'. Refute it at one input. -/
def fnExactNormalTextWrong : ChangeSpec := { name := "fnExactNormalText", fn := fun _ => fun
  | [d] => { results := [.lit (.bool false)], args := [d] }
  | _ => none }
def FnExactNormalTextWrongFalsely : Prop := fnExactNormalTextRow.holds Try.pinned (OpenSpec.ofChange fnExactNormalTextWrong)

/-- 'laws.FnExactReplyText': WHATEVER THE INPUT: true; the input reads as it did. -/
def fnExactReplyTextSpec : ChangeSpec := { name := "fnExactReplyText", fn := fun _ => fun
  | [d] => { results := [.lit (.bool true)], args := [d] }
  | _ => none }
def fnExactReplyTextRow : OpenClaim := { program := "ythlgdfjckhjiaaa", sum := "2c8e99e8539e68a09db855e1d160c4a404140266687d9b76ae5e6c48f9d53602", func := "loop.example/mailwire/laws.FnExactReplyText", spec := "fnExactReplyText", apart := false }
def FnExactReplyTextSaid : Prop := fnExactReplyTextRow.holds Try.pinned (OpenSpec.ofChange fnExactReplyTextSpec)

/-- ITS FALSE NEIGHBOUR: 'it returns false'. Refute it at one input. -/
def fnExactReplyTextWrong : ChangeSpec := { name := "fnExactReplyText", fn := fun _ => fun
  | [d] => { results := [.lit (.bool false)], args := [d] }
  | _ => none }
def FnExactReplyTextWrongFalsely : Prop := fnExactReplyTextRow.holds Try.pinned (OpenSpec.ofChange fnExactReplyTextWrong)

/-- 'laws.FnBareParts': WHATEVER THE INPUT: true; the input reads as it did. -/
def fnBarePartsSpec : ChangeSpec := { name := "fnBareParts", fn := fun _ => fun
  | [d] => { results := [.lit (.bool true)], args := [d] }
  | _ => none }
def fnBarePartsRow : OpenClaim := { program := "ythlgdfjckhjiaaa", sum := "2c8e99e8539e68a09db855e1d160c4a404140266687d9b76ae5e6c48f9d53602", func := "loop.example/mailwire/laws.FnBareParts", spec := "fnBareParts", apart := false }
def FnBarePartsSaid : Prop := fnBarePartsRow.holds Try.pinned (OpenSpec.ofChange fnBarePartsSpec)

/-- ITS FALSE NEIGHBOUR: 'it returns false'. Refute it at one input. -/
def fnBarePartsWrong : ChangeSpec := { name := "fnBareParts", fn := fun _ => fun
  | [d] => { results := [.lit (.bool false)], args := [d] }
  | _ => none }
def FnBarePartsWrongFalsely : Prop := fnBarePartsRow.holds Try.pinned (OpenSpec.ofChange fnBarePartsWrong)

/-- 'laws.FnCountBare': WHATEVER THE INPUT: true; the input reads as it did. -/
def fnCountBareSpec : ChangeSpec := { name := "fnCountBare", fn := fun _ => fun
  | [d] => { results := [.lit (.bool true)], args := [d] }
  | _ => none }
def fnCountBareRow : OpenClaim := { program := "ythlgdfjckhjiaaa", sum := "2c8e99e8539e68a09db855e1d160c4a404140266687d9b76ae5e6c48f9d53602", func := "loop.example/mailwire/laws.FnCountBare", spec := "fnCountBare", apart := false }
def FnCountBareSaid : Prop := fnCountBareRow.holds Try.pinned (OpenSpec.ofChange fnCountBareSpec)

/-- ITS FALSE NEIGHBOUR: 'it returns false'. Refute it at one input. -/
def fnCountBareWrong : ChangeSpec := { name := "fnCountBare", fn := fun _ => fun
  | [d] => { results := [.lit (.bool false)], args := [d] }
  | _ => none }
def FnCountBareWrongFalsely : Prop := fnCountBareRow.holds Try.pinned (OpenSpec.ofChange fnCountBareWrong)

/-- 'laws.FnNormalJoin': WHATEVER THE INPUT: true; the input reads as it did. -/
def fnNormalJoinSpec : ChangeSpec := { name := "fnNormalJoin", fn := fun _ => fun
  | [d] => { results := [.lit (.bool true)], args := [d] }
  | _ => none }
def fnNormalJoinRow : OpenClaim := { program := "ythlgdfjckhjiaaa", sum := "2c8e99e8539e68a09db855e1d160c4a404140266687d9b76ae5e6c48f9d53602", func := "loop.example/mailwire/laws.FnNormalJoin", spec := "fnNormalJoin", apart := false }
def FnNormalJoinSaid : Prop := fnNormalJoinRow.holds Try.pinned (OpenSpec.ofChange fnNormalJoinSpec)

/-- ITS FALSE NEIGHBOUR: 'it returns false'. Refute it at one input. -/
def fnNormalJoinWrong : ChangeSpec := { name := "fnNormalJoin", fn := fun _ => fun
  | [d] => { results := [.lit (.bool false)], args := [d] }
  | _ => none }
def FnNormalJoinWrongFalsely : Prop := fnNormalJoinRow.holds Try.pinned (OpenSpec.ofChange fnNormalJoinWrong)

/-- 'laws.FnNormalText': WHATEVER THE INPUT: true; the input reads as it did. -/
def fnNormalTextSpec : ChangeSpec := { name := "fnNormalText", fn := fun _ => fun
  | [d] => { results := [.lit (.bool true)], args := [d] }
  | _ => none }
def fnNormalTextRow : OpenClaim := { program := "ythlgdfjckhjiaaa", sum := "2c8e99e8539e68a09db855e1d160c4a404140266687d9b76ae5e6c48f9d53602", func := "loop.example/mailwire/laws.FnNormalText", spec := "fnNormalText", apart := false }
def FnNormalTextSaid : Prop := fnNormalTextRow.holds Try.pinned (OpenSpec.ofChange fnNormalTextSpec)

/-- ITS FALSE NEIGHBOUR: 'it returns false'. Refute it at one input. -/
def fnNormalTextWrong : ChangeSpec := { name := "fnNormalText", fn := fun _ => fun
  | [d] => { results := [.lit (.bool false)], args := [d] }
  | _ => none }
def FnNormalTextWrongFalsely : Prop := fnNormalTextRow.holds Try.pinned (OpenSpec.ofChange fnNormalTextWrong)

/-- 'laws.FnExactStuffLines': WHATEVER THE INPUT: true; the input reads as it did. -/
def fnExactStuffLinesSpec : ChangeSpec := { name := "fnExactStuffLines", fn := fun _ => fun
  | [d] => { results := [.lit (.bool true)], args := [d] }
  | _ => none }
def fnExactStuffLinesRow : OpenClaim := { program := "ythlgdfjckhjiaaa", sum := "2c8e99e8539e68a09db855e1d160c4a404140266687d9b76ae5e6c48f9d53602", func := "loop.example/mailwire/laws.FnExactStuffLines", spec := "fnExactStuffLines", apart := false }
def FnExactStuffLinesSaid : Prop := fnExactStuffLinesRow.holds Try.pinned (OpenSpec.ofChange fnExactStuffLinesSpec)

/-- ITS FALSE NEIGHBOUR: 'it returns false'. Refute it at one input. -/
def fnExactStuffLinesWrong : ChangeSpec := { name := "fnExactStuffLines", fn := fun _ => fun
  | [d] => { results := [.lit (.bool false)], args := [d] }
  | _ => none }
def FnExactStuffLinesWrongFalsely : Prop := fnExactStuffLinesRow.holds Try.pinned (OpenSpec.ofChange fnExactStuffLinesWrong)

/-- 'laws.FnStuffSize': WHATEVER THE INPUT: true; the input reads as it did. -/
def fnStuffSizeSpec : ChangeSpec := { name := "fnStuffSize", fn := fun _ => fun
  | [d] => { results := [.lit (.bool true)], args := [d] }
  | _ => none }
def fnStuffSizeRow : OpenClaim := { program := "ythlgdfjckhjiaaa", sum := "2c8e99e8539e68a09db855e1d160c4a404140266687d9b76ae5e6c48f9d53602", func := "loop.example/mailwire/laws.FnStuffSize", spec := "fnStuffSize", apart := false }
def FnStuffSizeSaid : Prop := fnStuffSizeRow.holds Try.pinned (OpenSpec.ofChange fnStuffSizeSpec)

/-- ITS FALSE NEIGHBOUR: 'it returns false'. Refute it at one input. -/
def fnStuffSizeWrong : ChangeSpec := { name := "fnStuffSize", fn := fun _ => fun
  | [d] => { results := [.lit (.bool false)], args := [d] }
  | _ => none }
def FnStuffSizeWrongFalsely : Prop := fnStuffSizeRow.holds Try.pinned (OpenSpec.ofChange fnStuffSizeWrong)

/-- 'laws.FnExactUnstuffText': WHATEVER THE INPUT: true; the input reads as it did. -/
def fnExactUnstuffTextSpec : ChangeSpec := { name := "fnExactUnstuffText", fn := fun _ => fun
  | [d] => { results := [.lit (.bool true)], args := [d] }
  | _ => none }
def fnExactUnstuffTextRow : OpenClaim := { program := "ythlgdfjckhjiaaa", sum := "2c8e99e8539e68a09db855e1d160c4a404140266687d9b76ae5e6c48f9d53602", func := "loop.example/mailwire/laws.FnExactUnstuffText", spec := "fnExactUnstuffText", inPlace := ["internal/bytealg.IndexByteString", "internal/bytealg.IndexString"], named := ["internal/bytealg.MaxLen"], apart := false }
def FnExactUnstuffTextSaid : Prop := fnExactUnstuffTextRow.holds Try.pinned (OpenSpec.ofChange fnExactUnstuffTextSpec)

/-- ITS FALSE NEIGHBOUR: 'it returns false'. Refute it at one input. -/
def fnExactUnstuffTextWrong : ChangeSpec := { name := "fnExactUnstuffText", fn := fun _ => fun
  | [d] => { results := [.lit (.bool false)], args := [d] }
  | _ => none }
def FnExactUnstuffTextWrongFalsely : Prop := fnExactUnstuffTextRow.holds Try.pinned (OpenSpec.ofChange fnExactUnstuffTextWrong)

/-- 'laws.FnUnstuffEnd': WHATEVER THE INPUT: true; the input reads as it did. -/
def fnUnstuffEndSpec : ChangeSpec := { name := "fnUnstuffEnd", fn := fun _ => fun
  | [d] => { results := [.lit (.bool true)], args := [d] }
  | _ => none }
def fnUnstuffEndRow : OpenClaim := { program := "ythlgdfjckhjiaaa", sum := "2c8e99e8539e68a09db855e1d160c4a404140266687d9b76ae5e6c48f9d53602", func := "loop.example/mailwire/laws.FnUnstuffEnd", spec := "fnUnstuffEnd", inPlace := ["internal/bytealg.IndexByteString", "internal/bytealg.IndexString"], named := ["internal/bytealg.MaxLen"], apart := false }
def FnUnstuffEndSaid : Prop := fnUnstuffEndRow.holds Try.pinned (OpenSpec.ofChange fnUnstuffEndSpec)

/-- ITS FALSE NEIGHBOUR: 'it returns false'. Refute it at one input. -/
def fnUnstuffEndWrong : ChangeSpec := { name := "fnUnstuffEnd", fn := fun _ => fun
  | [d] => { results := [.lit (.bool false)], args := [d] }
  | _ => none }
def FnUnstuffEndWrongFalsely : Prop := fnUnstuffEndRow.holds Try.pinned (OpenSpec.ofChange fnUnstuffEndWrong)

/-- 'laws.FnStuffLines': WHATEVER THE INPUT: true; the input reads as it did. -/
def fnStuffLinesSpec : ChangeSpec := { name := "fnStuffLines", fn := fun _ => fun
  | [d] => { results := [.lit (.bool true)], args := [d] }
  | _ => none }
def fnStuffLinesRow : OpenClaim := { program := "ythlgdfjckhjiaaa", sum := "2c8e99e8539e68a09db855e1d160c4a404140266687d9b76ae5e6c48f9d53602", func := "loop.example/mailwire/laws.FnStuffLines", spec := "fnStuffLines", inPlace := ["internal/bytealg.IndexByteString", "internal/bytealg.IndexString"], named := ["internal/bytealg.MaxLen"], apart := false }
def FnStuffLinesSaid : Prop := fnStuffLinesRow.holds Try.pinned (OpenSpec.ofChange fnStuffLinesSpec)

/-- ITS FALSE NEIGHBOUR: 'it returns false'. Refute it at one input. -/
def fnStuffLinesWrong : ChangeSpec := { name := "fnStuffLines", fn := fun _ => fun
  | [d] => { results := [.lit (.bool false)], args := [d] }
  | _ => none }
def FnStuffLinesWrongFalsely : Prop := fnStuffLinesRow.holds Try.pinned (OpenSpec.ofChange fnStuffLinesWrong)

/-- 'laws.FnStuffTwo': WHATEVER THE INPUT: true; the input reads as it did. -/
def fnStuffTwoSpec : ChangeSpec := { name := "fnStuffTwo", fn := fun _ => fun
  | [d1, d2] => { results := [.lit (.bool true)], args := [d1, d2] }
  | _ => none }
def fnStuffTwoRow : OpenClaim := { program := "ythlgdfjckhjiaaa", sum := "2c8e99e8539e68a09db855e1d160c4a404140266687d9b76ae5e6c48f9d53602", func := "loop.example/mailwire/laws.FnStuffTwo", spec := "fnStuffTwo", inPlace := ["internal/bytealg.IndexByteString", "internal/bytealg.IndexString"], named := ["internal/bytealg.MaxLen"], apart := false }
def FnStuffTwoSaid : Prop := fnStuffTwoRow.holds Try.pinned (OpenSpec.ofChange fnStuffTwoSpec)

/-- ITS FALSE NEIGHBOUR: 'it returns false'. Refute it at one input. -/
def fnStuffTwoWrong : ChangeSpec := { name := "fnStuffTwo", fn := fun _ => fun
  | [d1, d2] => { results := [.lit (.bool false)], args := [d1, d2] }
  | _ => none }
def FnStuffTwoWrongFalsely : Prop := fnStuffTwoRow.holds Try.pinned (OpenSpec.ofChange fnStuffTwoWrong)

/-- 'laws.FnUnstuffText': WHATEVER THE INPUT: true; the input reads as it did. -/
def fnUnstuffTextSpec : ChangeSpec := { name := "fnUnstuffText", fn := fun _ => fun
  | [d] => { results := [.lit (.bool true)], args := [d] }
  | _ => none }
def fnUnstuffTextRow : OpenClaim := { program := "ythlgdfjckhjiaaa", sum := "2c8e99e8539e68a09db855e1d160c4a404140266687d9b76ae5e6c48f9d53602", func := "loop.example/mailwire/laws.FnUnstuffText", spec := "fnUnstuffText", inPlace := ["internal/bytealg.IndexByteString", "internal/bytealg.IndexString"], named := ["internal/bytealg.MaxLen"], apart := false }
def FnUnstuffTextSaid : Prop := fnUnstuffTextRow.holds Try.pinned (OpenSpec.ofChange fnUnstuffTextSpec)

/-- ITS FALSE NEIGHBOUR: 'it returns false'. Refute it at one input. -/
def fnUnstuffTextWrong : ChangeSpec := { name := "fnUnstuffText", fn := fun _ => fun
  | [d] => { results := [.lit (.bool false)], args := [d] }
  | _ => none }
def FnUnstuffTextWrongFalsely : Prop := fnUnstuffTextRow.holds Try.pinned (OpenSpec.ofChange fnUnstuffTextWrong)

/- THE SECOND FORM. 'bulk': how many values and letters a reading holds, each counted each time it is reached (what is shared counts as often as it is met; a slice's spare places count too). A statement '..UptoSaid' is the law's where the arguments, and the package variables that the reading takes, are together of bulk at most 1048576: NARROWER than '..Said'. Prove '..Said' where nothing that the law and all that it calls make is longer than what came in: it says more and counts as full. Else prove '..UptoSaid'. A law counts once. -/
mutual
def uptoBulk {H : Type} : DataW H → Nat
  | .lit (.string bytes) => bytes.length + 1
  | .lit _ => 1
  | .nil => 1
  | .ptr d => uptoBulk d + 1
  | .slice elems spare => uptoBulkAll elems + uptoBulkAll spare + 1
  | .agg parts => uptoBulkAll parts + 1
  | .iface _ d => uptoBulk d + 1
  | .map entries => uptoBulkEntries entries + 1
  | .held _ => 1
def uptoBulkAll {H : Type} : List (DataW H) → Nat
  | [] => 0
  | d :: r => uptoBulk d + uptoBulkAll r
def uptoBulkEntries {H : Type} : List (Lit × DataW H) → Nat
  | [] => 0
  | x :: r => uptoBulkEntry x + uptoBulkEntries r
def uptoBulkEntry {H : Type} : Lit × DataW H → Nat
  | (.string bytes, d) => bytes.length + uptoBulk d + 1
  | (_, d) => uptoBulk d + 1
 end
def uptoSmall : (H : Type) → List (DataW H) → Bool := fun _ ds => decide (uptoBulkAll ds ≤ 1048576)
def OpenSpec.upto (s : _root_.Go.ChangeSpec) : _root_.Go.OpenSpec := { _root_.Go.OpenSpec.ofChange s with cond := some uptoSmall }

/-- 'laws.FnExactCountBare', WHERE WHAT IT READS IS OF BULK AT MOST 1048576: true; the input reads as it did. -/
def fnExactCountBareUptoRow : OpenClaim := { program := "ythlgdfjckhjiaaa", sum := "2c8e99e8539e68a09db855e1d160c4a404140266687d9b76ae5e6c48f9d53602", func := "loop.example/mailwire/laws.FnExactCountBare", spec := "fnExactCountBare", apart := false, narrowed := true }
def FnExactCountBareUptoSaid : Prop := fnExactCountBareUptoRow.holds Try.pinned (OpenSpec.upto fnExactCountBareSpec)

/-- 'laws.FnExactNormalText', WHERE WHAT IT READS IS OF BULK AT MOST 1048576: true; the input reads as it did. -/
def fnExactNormalTextUptoRow : OpenClaim := { program := "ythlgdfjckhjiaaa", sum := "2c8e99e8539e68a09db855e1d160c4a404140266687d9b76ae5e6c48f9d53602", func := "loop.example/mailwire/laws.FnExactNormalText", spec := "fnExactNormalText", apart := false, narrowed := true }
def FnExactNormalTextUptoSaid : Prop := fnExactNormalTextUptoRow.holds Try.pinned (OpenSpec.upto fnExactNormalTextSpec)

/-- 'laws.FnExactReplyText', WHERE WHAT IT READS IS OF BULK AT MOST 1048576: true; the input reads as it did. -/
def fnExactReplyTextUptoRow : OpenClaim := { program := "ythlgdfjckhjiaaa", sum := "2c8e99e8539e68a09db855e1d160c4a404140266687d9b76ae5e6c48f9d53602", func := "loop.example/mailwire/laws.FnExactReplyText", spec := "fnExactReplyText", apart := false, narrowed := true }
def FnExactReplyTextUptoSaid : Prop := fnExactReplyTextUptoRow.holds Try.pinned (OpenSpec.upto fnExactReplyTextSpec)

/-- 'laws.FnBareParts', WHERE WHAT IT READS IS OF BULK AT MOST 1048576: true; the input reads as it did. -/
def fnBarePartsUptoRow : OpenClaim := { program := "ythlgdfjckhjiaaa", sum := "2c8e99e8539e68a09db855e1d160c4a404140266687d9b76ae5e6c48f9d53602", func := "loop.example/mailwire/laws.FnBareParts", spec := "fnBareParts", apart := false, narrowed := true }
def FnBarePartsUptoSaid : Prop := fnBarePartsUptoRow.holds Try.pinned (OpenSpec.upto fnBarePartsSpec)

/-- 'laws.FnCountBare', WHERE WHAT IT READS IS OF BULK AT MOST 1048576: true; the input reads as it did. -/
def fnCountBareUptoRow : OpenClaim := { program := "ythlgdfjckhjiaaa", sum := "2c8e99e8539e68a09db855e1d160c4a404140266687d9b76ae5e6c48f9d53602", func := "loop.example/mailwire/laws.FnCountBare", spec := "fnCountBare", apart := false, narrowed := true }
def FnCountBareUptoSaid : Prop := fnCountBareUptoRow.holds Try.pinned (OpenSpec.upto fnCountBareSpec)

/-- 'laws.FnNormalJoin', WHERE WHAT IT READS IS OF BULK AT MOST 1048576: true; the input reads as it did. -/
def fnNormalJoinUptoRow : OpenClaim := { program := "ythlgdfjckhjiaaa", sum := "2c8e99e8539e68a09db855e1d160c4a404140266687d9b76ae5e6c48f9d53602", func := "loop.example/mailwire/laws.FnNormalJoin", spec := "fnNormalJoin", apart := false, narrowed := true }
def FnNormalJoinUptoSaid : Prop := fnNormalJoinUptoRow.holds Try.pinned (OpenSpec.upto fnNormalJoinSpec)

/-- 'laws.FnNormalText', WHERE WHAT IT READS IS OF BULK AT MOST 1048576: true; the input reads as it did. -/
def fnNormalTextUptoRow : OpenClaim := { program := "ythlgdfjckhjiaaa", sum := "2c8e99e8539e68a09db855e1d160c4a404140266687d9b76ae5e6c48f9d53602", func := "loop.example/mailwire/laws.FnNormalText", spec := "fnNormalText", apart := false, narrowed := true }
def FnNormalTextUptoSaid : Prop := fnNormalTextUptoRow.holds Try.pinned (OpenSpec.upto fnNormalTextSpec)

/-- 'laws.FnExactStuffLines', WHERE WHAT IT READS IS OF BULK AT MOST 1048576: true; the input reads as it did. -/
def fnExactStuffLinesUptoRow : OpenClaim := { program := "ythlgdfjckhjiaaa", sum := "2c8e99e8539e68a09db855e1d160c4a404140266687d9b76ae5e6c48f9d53602", func := "loop.example/mailwire/laws.FnExactStuffLines", spec := "fnExactStuffLines", apart := false, narrowed := true }
def FnExactStuffLinesUptoSaid : Prop := fnExactStuffLinesUptoRow.holds Try.pinned (OpenSpec.upto fnExactStuffLinesSpec)

/-- 'laws.FnStuffSize', WHERE WHAT IT READS IS OF BULK AT MOST 1048576: true; the input reads as it did. -/
def fnStuffSizeUptoRow : OpenClaim := { program := "ythlgdfjckhjiaaa", sum := "2c8e99e8539e68a09db855e1d160c4a404140266687d9b76ae5e6c48f9d53602", func := "loop.example/mailwire/laws.FnStuffSize", spec := "fnStuffSize", apart := false, narrowed := true }
def FnStuffSizeUptoSaid : Prop := fnStuffSizeUptoRow.holds Try.pinned (OpenSpec.upto fnStuffSizeSpec)

/-- 'laws.FnExactUnstuffText', WHERE WHAT IT READS IS OF BULK AT MOST 1048576: true; the input reads as it did. -/
def fnExactUnstuffTextUptoRow : OpenClaim := { program := "ythlgdfjckhjiaaa", sum := "2c8e99e8539e68a09db855e1d160c4a404140266687d9b76ae5e6c48f9d53602", func := "loop.example/mailwire/laws.FnExactUnstuffText", spec := "fnExactUnstuffText", inPlace := ["internal/bytealg.IndexByteString", "internal/bytealg.IndexString"], named := ["internal/bytealg.MaxLen"], apart := false, narrowed := true }
def FnExactUnstuffTextUptoSaid : Prop := fnExactUnstuffTextUptoRow.holds Try.pinned (OpenSpec.upto fnExactUnstuffTextSpec)

/-- 'laws.FnUnstuffEnd', WHERE WHAT IT READS IS OF BULK AT MOST 1048576: true; the input reads as it did. -/
def fnUnstuffEndUptoRow : OpenClaim := { program := "ythlgdfjckhjiaaa", sum := "2c8e99e8539e68a09db855e1d160c4a404140266687d9b76ae5e6c48f9d53602", func := "loop.example/mailwire/laws.FnUnstuffEnd", spec := "fnUnstuffEnd", inPlace := ["internal/bytealg.IndexByteString", "internal/bytealg.IndexString"], named := ["internal/bytealg.MaxLen"], apart := false, narrowed := true }
def FnUnstuffEndUptoSaid : Prop := fnUnstuffEndUptoRow.holds Try.pinned (OpenSpec.upto fnUnstuffEndSpec)

/-- 'laws.FnStuffLines', WHERE WHAT IT READS IS OF BULK AT MOST 1048576: true; the input reads as it did. -/
def fnStuffLinesUptoRow : OpenClaim := { program := "ythlgdfjckhjiaaa", sum := "2c8e99e8539e68a09db855e1d160c4a404140266687d9b76ae5e6c48f9d53602", func := "loop.example/mailwire/laws.FnStuffLines", spec := "fnStuffLines", inPlace := ["internal/bytealg.IndexByteString", "internal/bytealg.IndexString"], named := ["internal/bytealg.MaxLen"], apart := false, narrowed := true }
def FnStuffLinesUptoSaid : Prop := fnStuffLinesUptoRow.holds Try.pinned (OpenSpec.upto fnStuffLinesSpec)

/-- 'laws.FnStuffTwo', WHERE WHAT IT READS IS OF BULK AT MOST 1048576: true; the input reads as it did. -/
def fnStuffTwoUptoRow : OpenClaim := { program := "ythlgdfjckhjiaaa", sum := "2c8e99e8539e68a09db855e1d160c4a404140266687d9b76ae5e6c48f9d53602", func := "loop.example/mailwire/laws.FnStuffTwo", spec := "fnStuffTwo", inPlace := ["internal/bytealg.IndexByteString", "internal/bytealg.IndexString"], named := ["internal/bytealg.MaxLen"], apart := false, narrowed := true }
def FnStuffTwoUptoSaid : Prop := fnStuffTwoUptoRow.holds Try.pinned (OpenSpec.upto fnStuffTwoSpec)

/-- 'laws.FnUnstuffText', WHERE WHAT IT READS IS OF BULK AT MOST 1048576: true; the input reads as it did. -/
def fnUnstuffTextUptoRow : OpenClaim := { program := "ythlgdfjckhjiaaa", sum := "2c8e99e8539e68a09db855e1d160c4a404140266687d9b76ae5e6c48f9d53602", func := "loop.example/mailwire/laws.FnUnstuffText", spec := "fnUnstuffText", inPlace := ["internal/bytealg.IndexByteString", "internal/bytealg.IndexString"], named := ["internal/bytealg.MaxLen"], apart := false, narrowed := true }
def FnUnstuffTextUptoSaid : Prop := fnUnstuffTextUptoRow.holds Try.pinned (OpenSpec.upto fnUnstuffTextSpec)

end Rows
end Go.Proofs.Ythlgdfjckhjiaaa
