/- Proved here: the card of the law FnPartLines out of its row; conditions: those of the card. -/
import Derived.Test.YtncdadcmghglkaaGreatDoorRows
import Derived.Test.YtncdadcmghglkaaGreatDoorCards
import Derived.Test.YtncdadcmghglkaaGreatDoorTie
import Derived.Test.YtncdadcmghglkaaGreatDoorCx
import Derived.SevenTiedAt
import Derived.Test.YtncdadcmghglkaaGreatDoorPFnPartLinesx31
namespace Go.Proofs.YtncdadcmghglkaaGreatDoor.fnPartLines
open Go.ChangeShapes Go.WideShapes Go.ChangeAt Go.RowKit
open Go.ChangeMaps (open_string shut_string)
set_option linter.unusedVariables false
theorem named : Tryz.prog.funcNamed Rows.fnPartLinesRow.func = some 9 := by kernel_rfl
theorem aco : ([22].all fun u => !Tryz.prog.wantsStandIn u) = true := by kernel_rfl
theorem looksAt : false = Tryz.pinned.checked.prog.looks [] := by kernel_rfl
theorem ak7 : OpenClaim.wfByText (OpenSpec.ofChange Rows.fnPartLinesSpec) Rows.fnPartLinesRow = true := by kernel_rfl
theorem main : Tryz.pinned.checked.prog.mainIs = some (Rows.fnPartLinesCard.stood.harness.fst, Rows.fnPartLinesCard.stood.harness.snd.toList) := by kernel_rfl
theorem goes : false = Rows.fnPartLinesRow.goesBy Tryz.pinned.checked.prog := by kernel_rfl
theorem params (j : Nat) (t : TypeId) (ht : Tryz.f9.params[j]? = some t) : Tryz.prog.wantsStandIn t = false := by
  rw [Tryz.params9] at ht
  have hm : t ∈ [22] := by simpa using Array.mem_of_getElem? ht
  exact (show Tryz.prog.wantsStandIn t = false by simpa using List.all_eq_true.1 aco t hm)
theorem at_ (f : FuncId) (fn : Func) (hf : Tryz.pinned.checked.prog.funcNamed Rows.fnPartLinesRow.func = some f) (hfn : Tryz.pinned.checked.prog.funcs[f]? = some fn) : false = Tryz.pinned.checked.prog.looks [] ∧ ∀ (j : Nat) (t : TypeId), fn.params[j]? = some t → Tryz.pinned.checked.prog.wantsStandIn t = false := by
  obtain rfl : 9 = f := Option.some.inj (named.symm.trans hf)
  obtain rfl : Tryz.f9 = fn := Option.some.inj (Tryz.func9.symm.trans hfn)
  exact ⟨looksAt, params⟩
theorem card_holds : Rows.FnPartLinesCardSaid :=
  Claim7.holds_tied_plain_at .later [] [.data, .pinned] true Rows.fnPartLinesCard.stood.harness false over (fun _ h => by cases h) ak7 (fun _ h => by cases h) fnPartLines_row_tie rfl ⟨rfl, rfl⟩ main rfl at_ goes
#print axioms card_holds
end Go.Proofs.YtncdadcmghglkaaGreatDoor.fnPartLines
namespace Go.Proofs.YtncdadcmghglkaaGreatDoor
/-- The row, under a short name, for the claim. -/
theorem fnPartLines_holds : Rows.FnPartLinesCardSaid := fnPartLines.card_holds
end Go.Proofs.YtncdadcmghglkaaGreatDoor
