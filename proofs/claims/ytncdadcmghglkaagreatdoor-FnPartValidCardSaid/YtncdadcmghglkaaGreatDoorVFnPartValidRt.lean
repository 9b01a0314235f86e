/- Words of this session for a region whose order is drawn: its operations one behind the other in an order that is told, each that only looks taken first, what looks stay true as long as all that stood at its start stands; no condition beyond those of each statement. -/
import Derived.Test.YtncdadcmghglkaaGreatDoorVFnPartValidXt
-- dense
namespace Go.Proofs.YtncdadcmghglkaaGreatDoor.X
open Go.RowKit Go.Proofs.YtncdadcmghglkaaGreatDoorW.bK Go.Proofs.YtncdadcmghglkaaGreatDoorW.gY Go.Proofs.YtncdadcmghglkaaGreatDoorW.iU
/-- Does the operation make or change memory, or run code? -/
def UM : Op → Bool
 | .call { callee := .builtin b, .. } => match b with | .len | .cap | .min | .max => false | _ => true
 | .alloc _ | .box .. | .buildSlice .. | .makeSlice .. | .makeMap .. | .makeChan .. | .store .. | .convert .. | .call _ | .go _ | .defer _ | .panic _ | .send .. | .recv .. | .select .. | .mapUpdate .. | .insert .. | .mapEntry .. | .entryStore .. | .next .. => true
 | _ => false
section
variable {P : Program} {ops : Array Oper} {Q : Exit → Act → World → Prop} {S : World → Prop}
/-- May the operations come one behind the other in this order: one that looks is taken first, any other alone may come up? -/
def ahf (ops : Array Oper) : Array Bool → List Nat → Bool
 | l, [] => Region.ready .any ops l == []
 | l, i :: is => (match ops[i]? with
  | some o => if UM o.op then Region.ready .any ops l == [i] else Region.free .any ops l i && (Region.ready .any ops l).contains i && Region.Fa .any ops l
  | none => false) && ahf ops (l.setIfInBounds i true) is
/-- The operations in that order. -/
def He (P : Program) (ops : Array Oper) (Q : Exit → Act → World → Prop) (S : World → Prop) : List Nat → Act → World → Prop
 | [], a, w => Q .normal a w
 | i :: is, a, w => ∃ o, ops[i]? = some o ∧ ((UM o.op = false ∧ ∃ v, YieldsIf P ops S o v a ∧ He P ops Q S is (a.put o.dst v) w) ∨
   (UM o.op = true ∧ ∀ K : Act → World → Prop, Shut (∀ a' w', S w' → He P ops Q S is a' w' → K a' w') → if Region.wanted o (yielded ops a.tmps) = true then Oper.wp P o a w K Q else K (a.put o.dst undef) w))
def axh (ops : Array Oper) (is : List Nat) : Bool := Region.noSelect ops && (is.length == ops.size) && ahf ops (Array.replicate ops.size false) is
end
end Go.Proofs.YtncdadcmghglkaaGreatDoor.X
