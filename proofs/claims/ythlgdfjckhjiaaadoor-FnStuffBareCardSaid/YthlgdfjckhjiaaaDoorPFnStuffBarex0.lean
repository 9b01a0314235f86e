/- Written by a program of this session out of the translation: each Go function named below as a Lean function, and the proof that the call answers as that function does; conditions: those in each statement. -/
import Derived.Test.YthlgdfjckhjiaaaDoorProg
import Derived.Test.YthlgdfjckhjiaaaDoorX
import Derived.Below
import Derived.Deep.Draws
import Derived.Deep.AppendLies
import Derived.Maps.AppendAt
import Derived.OwnWalk
import Derived.Laws.BytesArg
import Derived.Laws.MakeOwn
import Derived.Laws.OwnMore
import Derived.Deep.OwnRows
import Derived.Tactics
import Derived.Lib.ConvBytes
import Derived.Laws.Slices
import Derived.WalkKit
import Derived.KernelRfl
import Derived.RowKit3
import Derived.Deep.LoopGhost
import Derived.Deep.QuietTactic
import Derived.BigQuiet
import Derived.WideLaws
import Derived.Deep.DeepCutAuto
import Derived.Deep.CutBlock
import Derived.Deep.RegionHeld3
import Derived.Laws.Rows
import Derived.Lib.AppendStr
import Derived.ArgAppend
import Derived.Laws.IdiomCopy
import Derived.OrdersHeld
import Derived.Laws.BitsLemmas
import Derived.RowKit
import Derived.Test.YthlgdfjckhjiaaaDoorMx
import Derived.Test.YthlgdfjckhjiaaaDoorWWords
import Derived.Test.YthlgdfjckhjiaaaDoorWLast
import Derived.Test.YthlgdfjckhjiaaaDoorWTab
import Derived.Test.YthlgdfjckhjiaaaDoorWFour
import Derived.Test.YthlgdfjckhjiaaaDoorWQPut
import Derived.Test.YthlgdfjckhjiaaaDoorWApart
import Derived.Test.YthlgdfjckhjiaaaDoorWArr
import Derived.Test.YthlgdfjckhjiaaaDoorWZeros
import Derived.Test.YthlgdfjckhjiaaaDoorWFoot
import Derived.Test.YthlgdfjckhjiaaaDoorWKept
import Derived.Test.YthlgdfjckhjiaaaDoorWShare
import Derived.Test.YthlgdfjckhjiaaaDoorWN
import Derived.Test.YthlgdfjckhjiaaaDoorWFootNe
import Derived.Test.YthlgdfjckhjiaaaDoorWAt
import Derived.Test.YthlgdfjckhjiaaaDoorWEqStruct
import Derived.Test.YthlgdfjckhjiaaaDoorWRepsOne
import Derived.Test.YthlgdfjckhjiaaaDoorWInv
import Derived.Test.YthlgdfjckhjiaaaDoorWInvWords
import Derived.Test.YthlgdfjckhjiaaaDoorWGuard
import Derived.Test.YthlgdfjckhjiaaaDoorWNEv
import Derived.Test.YthlgdfjckhjiaaaDoorWMore
namespace Go.Proofs.YthlgdfjckhjiaaaDoor.PFnStuffBare
open Go.RowKit Go.Proofs.YthlgdfjckhjiaaaDoor.X Go.Proofs.YthlgdfjckhjiaaaDoorW.PrintWords Go.Proofs.YthlgdfjckhjiaaaDoorW.PrintLast Go.Proofs.YthlgdfjckhjiaaaDoorW.PrintMore
attribute [local go_sem] max2_int min2_int max_two min_two max_three min_three max_four min_four   -- for this text's walks alone
set_option linter.unusedVariables false
set_option linter.unusedSimpArgs false



def errW : Option Int → Value
  | none => .nilIface
  | some c => .iface 0 (.int .i64 c)
theorem errW_none : errW none = .nilIface := rfl
theorem errW_some (c : Int) : errW (some c) = .iface 0 (.int .i64 c) := rfl

theorem info3 : (Tryd.prog.info? 3).map (fun i => (i.zero, i.size, i.bytes)) = some (some (.int .i64 0), 1, 8) := by kernel_rfl
theorem info5 : (Tryd.prog.info? 5).map (fun i => (i.zero, i.size, i.bytes)) = some (some (.int .u8 0), 1, 1) := by kernel_rfl
theorem info9 : (Tryd.prog.info? 9).map (fun i => (i.zero, i.size, i.bytes)) = some (some (.string ⟨#[]⟩), 1, 16) := by kernel_rfl
-- the values' own types

end Go.Proofs.YthlgdfjckhjiaaaDoor.PFnStuffBare
