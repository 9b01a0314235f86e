/- Proved here: the words of the translation's head as lists of signs, and what the claim's form asks of them; no condition. -/
import Derived.Test.YtdimppdlfgnhgaaGreatDoorRows
import Derived.WalkKit
import Derived.ProofKit
import Derived.JoinedOf
namespace Go.Proofs.YtdimppdlfgnhgaaGreatDoorHeads
open Go
set_option maxRecDepth 100000
theorem signs : Tryz.prog.initOrder.toList = List.map Char.ofNat [104, 97, 114, 110, 101, 115, 115, 32, 97, 52, 49, 53, 98, 52, 51, 98, 99, 48, 55, 52, 97, 100, 51, 53, 55, 100, 98, 98, 49, 56, 48, 102, 53, 101, 99, 54, 98, 53, 51, 56, 51, 97, 53, 100, 100, 97, 101, 97, 50, 101, 51, 52, 97, 51, 99, 53, 48, 48, 57, 52, 98, 102, 102, 52, 51, 48, 53, 97, 55, 51, 100, 56, 32, 99, 117, 116, 32, 97, 116, 32, 108, 111, 111, 112, 46, 101, 120, 97, 109, 112, 108, 101, 47, 109, 97, 105, 108, 119, 105, 114, 101, 47, 108, 97, 119, 115, 46, 70, 110, 69, 120, 97, 99, 116, 80, 97, 114, 116, 65, 116, 32, 108, 111, 111, 112, 46, 101, 120, 97, 109, 112, 108, 101, 47, 109, 97, 105, 108, 119, 105, 114, 101, 47, 108, 97, 119, 115, 46, 70, 110, 69, 120, 97, 99, 116, 80, 97, 114, 115, 101, 80, 97, 114, 116] := by
  rw [show Tryz.prog.initOrder = String.ofList (List.map Char.ofNat [104, 97, 114, 110, 101, 115, 115, 32, 97, 52, 49, 53, 98, 52, 51, 98, 99, 48, 55, 52, 97, 100, 51, 53, 55, 100, 98, 98, 49, 56, 48, 102, 53, 101, 99, 54, 98, 53, 51, 56, 51, 97, 53, 100, 100, 97, 101, 97, 50, 101, 51, 52, 97, 51, 99, 53, 48, 48, 57, 52, 98, 102, 102, 52, 51, 48, 53, 97, 55, 51, 100, 56, 32, 99, 117, 116, 32, 97, 116, 32, 108, 111, 111, 112, 46, 101, 120, 97, 109, 112, 108, 101, 47, 109, 97, 105, 108, 119, 105, 114, 101, 47, 108, 97, 119, 115, 46, 70, 110, 69, 120, 97, 99, 116, 80, 97, 114, 116, 65, 116, 32, 108, 111, 111, 112, 46, 101, 120, 97, 109, 112, 108, 101, 47, 109, 97, 105, 108, 119, 105, 114, 101, 47, 108, 97, 119, 115, 46, 70, 110, 69, 120, 97, 99, 116, 80, 97, 114, 115, 101, 80, 97, 114, 116]) from by kernel_rfl]
  exact String.toList_ofList
theorem heads : behindMainWord (wordsSigns Tryz.prog.initOrder.toList) = List.map (List.map Char.ofNat) [[99, 117, 116], [97, 116], [108, 111, 111, 112, 46, 101, 120, 97, 109, 112, 108, 101, 47, 109, 97, 105, 108, 119, 105, 114, 101, 47, 108, 97, 119, 115, 46, 70, 110, 69, 120, 97, 99, 116, 80, 97, 114, 116, 65, 116], [108, 111, 111, 112, 46, 101, 120, 97, 109, 112, 108, 101, 47, 109, 97, 105, 108, 119, 105, 114, 101, 47, 108, 97, 119, 115, 46, 70, 110, 69, 120, 97, 99, 116, 80, 97, 114, 115, 101, 80, 97, 114, 116]] := by
  rw [signs]; kernel_rfl
theorem enters : Tryz.prog.mayEnter = true := by
  unfold Program.mayEnter; rw [heads]; kernel_rfl
theorem lifts : Tryz.prog.liftsFinal = false := by
  unfold Program.liftsFinal Program.headLifts; rw [heads]; kernel_rfl
theorem makes : Tryz.prog.make = some .cut := by
  unfold Program.make; rw [heads]; kernel_rfl
end Go.Proofs.YtdimppdlfgnhgaaGreatDoorHeads
