/- Proved here: the words of the translation's head as lists of signs, and what the claim's form asks of them; no condition. -/
import Derived.Test.YtncdadcmghglkaaRows
import Derived.WalkKit
import Derived.ProofKit
import Derived.JoinedOf
namespace Go.Proofs.YtncdadcmghglkaaHeads
open Go
set_option maxRecDepth 100000
theorem signs : Try.prog.initOrder.toList = List.map Char.ofNat [104, 97, 114, 110, 101, 115, 115, 32, 54, 49, 101, 98, 54, 52, 49, 55, 54, 48, 49, 98, 99, 55, 102, 102, 55, 100, 50, 102, 49, 50, 102, 99, 100, 99, 54, 101, 97, 52, 48, 53, 99, 102, 51, 98, 54, 55, 52, 56, 52, 101, 53, 57, 53, 50, 100, 56, 51, 97, 97, 102, 101, 50, 100, 51, 53, 55, 57, 48, 100, 102, 52, 51, 32, 99, 117, 116, 32, 97, 116, 32, 108, 111, 111, 112, 46, 101, 120, 97, 109, 112, 108, 101, 47, 109, 97, 105, 108, 119, 105, 114, 101, 47, 108, 97, 119, 115, 46, 70, 110, 69, 120, 97, 99, 116, 80, 97, 114, 116, 83, 97, 109, 101] := by
  rw [show Try.prog.initOrder = String.ofList (List.map Char.ofNat [104, 97, 114, 110, 101, 115, 115, 32, 54, 49, 101, 98, 54, 52, 49, 55, 54, 48, 49, 98, 99, 55, 102, 102, 55, 100, 50, 102, 49, 50, 102, 99, 100, 99, 54, 101, 97, 52, 48, 53, 99, 102, 51, 98, 54, 55, 52, 56, 52, 101, 53, 57, 53, 50, 100, 56, 51, 97, 97, 102, 101, 50, 100, 51, 53, 55, 57, 48, 100, 102, 52, 51, 32, 99, 117, 116, 32, 97, 116, 32, 108, 111, 111, 112, 46, 101, 120, 97, 109, 112, 108, 101, 47, 109, 97, 105, 108, 119, 105, 114, 101, 47, 108, 97, 119, 115, 46, 70, 110, 69, 120, 97, 99, 116, 80, 97, 114, 116, 83, 97, 109, 101]) from by kernel_rfl]
  exact String.toList_ofList
theorem heads : behindMainWord (wordsSigns Try.prog.initOrder.toList) = List.map (List.map Char.ofNat) [[99, 117, 116], [97, 116], [108, 111, 111, 112, 46, 101, 120, 97, 109, 112, 108, 101, 47, 109, 97, 105, 108, 119, 105, 114, 101, 47, 108, 97, 119, 115, 46, 70, 110, 69, 120, 97, 99, 116, 80, 97, 114, 116, 83, 97, 109, 101]] := by
  rw [signs]; kernel_rfl
theorem enters : Try.prog.mayEnter = true := by
  unfold Program.mayEnter; rw [heads]; kernel_rfl
theorem lifts : Try.prog.liftsFinal = false := by
  unfold Program.liftsFinal Program.headLifts; rw [heads]; kernel_rfl
theorem makes : Try.prog.make = some .cut := by
  unfold Program.make; rw [heads]; kernel_rfl
end Go.Proofs.YtncdadcmghglkaaHeads
