/- Proved here: the words of the translation's head as lists of signs, and what the claim's form asks of them; no condition. -/
import Derived.Test.YtdkipechiaploaaGreatDoorRows
import Derived.WalkKit
import Derived.ProofKit
import Derived.JoinedOf
namespace Go.Proofs.YtdkipechiaploaaGreatDoorHeads
open Go
set_option maxRecDepth 100000
theorem signs : Tryz.prog.initOrder.toList = List.map Char.ofNat [104, 97, 114, 110, 101, 115, 115, 32, 48, 56, 97, 98, 51, 101, 57, 56, 99, 101, 50, 102, 51, 51, 51, 49, 48, 54, 52, 57, 53, 56, 99, 57, 98, 50, 100, 49, 54, 48, 53, 48, 98, 53, 98, 101, 97, 98, 57, 49, 55, 53, 102, 49, 49, 100, 57, 52, 53, 52, 101, 48, 50, 54, 53, 101, 51, 97, 56, 98, 53, 50, 52, 48, 32, 99, 117, 116, 32, 97, 116, 32, 108, 111, 111, 112, 46, 101, 120, 97, 109, 112, 108, 101, 47, 109, 97, 105, 108, 119, 105, 114, 101, 47, 108, 97, 119, 115, 46, 70, 110, 80, 97, 114, 116, 84, 101, 120, 116] := by
  rw [show Tryz.prog.initOrder = String.ofList (List.map Char.ofNat [104, 97, 114, 110, 101, 115, 115, 32, 48, 56, 97, 98, 51, 101, 57, 56, 99, 101, 50, 102, 51, 51, 51, 49, 48, 54, 52, 57, 53, 56, 99, 57, 98, 50, 100, 49, 54, 48, 53, 48, 98, 53, 98, 101, 97, 98, 57, 49, 55, 53, 102, 49, 49, 100, 57, 52, 53, 52, 101, 48, 50, 54, 53, 101, 51, 97, 56, 98, 53, 50, 52, 48, 32, 99, 117, 116, 32, 97, 116, 32, 108, 111, 111, 112, 46, 101, 120, 97, 109, 112, 108, 101, 47, 109, 97, 105, 108, 119, 105, 114, 101, 47, 108, 97, 119, 115, 46, 70, 110, 80, 97, 114, 116, 84, 101, 120, 116]) from by kernel_rfl]
  exact String.toList_ofList
theorem heads : behindMainWord (wordsSigns Tryz.prog.initOrder.toList) = List.map (List.map Char.ofNat) [[99, 117, 116], [97, 116], [108, 111, 111, 112, 46, 101, 120, 97, 109, 112, 108, 101, 47, 109, 97, 105, 108, 119, 105, 114, 101, 47, 108, 97, 119, 115, 46, 70, 110, 80, 97, 114, 116, 84, 101, 120, 116]] := by
  rw [signs]; kernel_rfl
theorem enters : Tryz.prog.mayEnter = true := by
  unfold Program.mayEnter; rw [heads]; kernel_rfl
theorem lifts : Tryz.prog.liftsFinal = false := by
  unfold Program.liftsFinal Program.headLifts; rw [heads]; kernel_rfl
theorem makes : Tryz.prog.make = some .cut := by
  unfold Program.make; rw [heads]; kernel_rfl
end Go.Proofs.YtdkipechiaploaaGreatDoorHeads
