/- Proved here: the words of the translation's head as lists of signs, and what the claim's form asks of them; no condition. -/
import Derived.Test.YtncdadcmghglkaaDoorRows
import Derived.WalkKit
import Derived.ProofKit
import Derived.JoinedOf
namespace Go.Proofs.YtncdadcmghglkaaDoorHeads
open Go
set_option maxRecDepth 100000
theorem signs : Tryd.prog.initOrder.toList = List.map Char.ofNat [104, 97, 114, 110, 101, 115, 115, 32, 54, 52, 48, 101, 50, 49, 49, 49, 97, 50, 48, 52, 101, 98, 98, 54, 53, 54, 57, 55, 48, 102, 52, 98, 57, 57, 53, 52, 101, 49, 101, 98, 54, 48, 100, 55, 100, 101, 51, 97, 48, 52, 57, 102, 50, 53, 54, 51, 48, 55, 52, 55, 56, 99, 50, 102, 54, 97, 48, 101, 98, 101, 51, 49, 32, 99, 117, 116, 32, 97, 116, 32, 108, 111, 111, 112, 46, 101, 120, 97, 109, 112, 108, 101, 47, 109, 97, 105, 108, 119, 105, 114, 101, 47, 108, 97, 119, 115, 46, 70, 110, 68, 101, 99, 111, 100, 101, 78, 97, 109, 101] := by
  rw [show Tryd.prog.initOrder = String.ofList (List.map Char.ofNat [104, 97, 114, 110, 101, 115, 115, 32, 54, 52, 48, 101, 50, 49, 49, 49, 97, 50, 48, 52, 101, 98, 98, 54, 53, 54, 57, 55, 48, 102, 52, 98, 57, 57, 53, 52, 101, 49, 101, 98, 54, 48, 100, 55, 100, 101, 51, 97, 48, 52, 57, 102, 50, 53, 54, 51, 48, 55, 52, 55, 56, 99, 50, 102, 54, 97, 48, 101, 98, 101, 51, 49, 32, 99, 117, 116, 32, 97, 116, 32, 108, 111, 111, 112, 46, 101, 120, 97, 109, 112, 108, 101, 47, 109, 97, 105, 108, 119, 105, 114, 101, 47, 108, 97, 119, 115, 46, 70, 110, 68, 101, 99, 111, 100, 101, 78, 97, 109, 101]) from by kernel_rfl]
  exact String.toList_ofList
theorem heads : behindMainWord (wordsSigns Tryd.prog.initOrder.toList) = List.map (List.map Char.ofNat) [[99, 117, 116], [97, 116], [108, 111, 111, 112, 46, 101, 120, 97, 109, 112, 108, 101, 47, 109, 97, 105, 108, 119, 105, 114, 101, 47, 108, 97, 119, 115, 46, 70, 110, 68, 101, 99, 111, 100, 101, 78, 97, 109, 101]] := by
  rw [signs]; kernel_rfl
theorem enters : Tryd.prog.mayEnter = true := by
  unfold Program.mayEnter; rw [heads]; kernel_rfl
theorem lifts : Tryd.prog.liftsFinal = false := by
  unfold Program.liftsFinal Program.headLifts; rw [heads]; kernel_rfl
theorem makes : Tryd.prog.make = some .cut := by
  unfold Program.make; rw [heads]; kernel_rfl
end Go.Proofs.YtncdadcmghglkaaDoorHeads
