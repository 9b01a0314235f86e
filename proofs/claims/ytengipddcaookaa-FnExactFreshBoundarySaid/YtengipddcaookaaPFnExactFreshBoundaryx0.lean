/- Written by a program of this session out of the translation: each Go function named below as a Lean function, and the proof that the call answers as that function does; conditions: those in each statement. -/
import Derived.Test.YtengipddcaookaaProg
import Derived.Test.YtengipddcaookaaX
import Derived.Below
import Derived.Deep.Draws
import Derived.Deep.AppendLies
import Derived.Maps.AppendAt
import Derived.OwnWalk
import Derived.Laws.BytesArg
import Derived.Laws.MakeOwn
import Derived.Laws.OwnMore
import Derived.Deep.OwnRows
import Derived.Tactics
import Derived.Lib.ConvBytes
import Derived.Laws.Slices
import Derived.WalkKit
import Derived.KernelRfl
import Derived.RowKit3
import Derived.Deep.LoopGhost
import Derived.Deep.QuietTactic
import Derived.BigQuiet
import Derived.WideLaws
import Derived.Deep.DeepCutAuto
import Derived.Deep.CutBlock
import Derived.Deep.RegionHeld3
import Derived.Laws.Rows
import Derived.Lib.AppendStr
import Derived.ArgAppend
import Derived.Laws.IdiomCopy
import Derived.OrdersHeld
import Derived.Laws.BitsLemmas
import Derived.RowKit
import Derived.Test.YtengipddcaookaaWWords
import Derived.Test.YtengipddcaookaaWLast
import Derived.Test.YtengipddcaookaaWTab
import Derived.Test.YtengipddcaookaaWFour
import Derived.Test.YtengipddcaookaaWQPut
import Derived.Test.YtengipddcaookaaWApart
import Derived.Test.YtengipddcaookaaWArr
import Derived.Test.YtengipddcaookaaWZeros
import Derived.Test.YtengipddcaookaaWFoot
import Derived.Test.YtengipddcaookaaWKept
import Derived.Test.YtengipddcaookaaWShare
import Derived.Test.YtengipddcaookaaWN
import Derived.Test.YtengipddcaookaaWFootNe
import Derived.Test.YtengipddcaookaaWAt
import Derived.Test.YtengipddcaookaaWEqStruct
import Derived.Test.YtengipddcaookaaWRepsOne
import Derived.Test.YtengipddcaookaaWInv
import Derived.Test.YtengipddcaookaaWInvWords
import Derived.Test.YtengipddcaookaaWGuard
import Derived.Test.YtengipddcaookaaWNEv
import Derived.Test.YtengipddcaookaaWMore
namespace Go.Proofs.Ytengipddcaookaa.PFnExactFreshBoundary
open Go.RowKit Go.Proofs.Ytengipddcaookaa.X Go.Proofs.YtengipddcaookaaW.PrintWords Go.Proofs.YtengipddcaookaaW.PrintLast Go.Proofs.YtengipddcaookaaW.PrintMore
attribute [local go_sem] max2_int min2_int max_two min_two max_three min_three max_four min_four   -- for this text's walks alone
set_option linter.unusedVariables false
set_option linter.unusedSimpArgs false



def errW : Option Int → Value
  | none => .nilIface
  | some c => .iface 0 (.int .i64 c)
theorem errW_none : errW none = .nilIface := rfl
theorem errW_some (c : Int) : errW (some c) = .iface 0 (.int .i64 c) := rfl

theorem info5 : (Try.prog.info? 5).map (fun i => (i.zero, i.size, i.bytes)) = some (some (.int .u8 0), 1, 1) := by kernel_rfl
theorem info9 : (Try.prog.info? 9).map (fun i => (i.zero, i.size, i.bytes)) = some (some (.string ⟨#[]⟩), 1, 16) := by kernel_rfl
-- the values' own types

end Go.Proofs.Ytengipddcaookaa.PFnExactFreshBoundary
