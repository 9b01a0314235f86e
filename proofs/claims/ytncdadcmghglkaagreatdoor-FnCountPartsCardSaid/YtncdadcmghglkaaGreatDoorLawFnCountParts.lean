/- Proved here: the card of the law FnCountParts out of its row; conditions: those of the card. -/
import Derived.Test.YtncdadcmghglkaaGreatDoorRows
import Derived.Test.YtncdadcmghglkaaGreatDoorCards
import Derived.Test.YtncdadcmghglkaaGreatDoorTie
import Derived.Test.YtncdadcmghglkaaGreatDoorCx
import Derived.SevenTiedAt
import Derived.Test.YtncdadcmghglkaaGreatDoorPFnCountPartsx31
namespace Go.Proofs.YtncdadcmghglkaaGreatDoor.fnCountParts
open Go.ChangeShapes Go.WideShapes Go.ChangeAt Go.RowKit
open Go.ChangeMaps (open_string shut_string)
set_option linter.unusedVariables false
theorem named : Tryz.prog.funcNamed Rows.fnCountPartsRow.func = some 10 := by kernel_rfl
theorem acA : ([22].all fun u => !Tryz.prog.wantsStandIn u) = true := by kernel_rfl
theorem looksAt : false = Tryz.pinned.checked.prog.looks [] := by kernel_rfl
theorem ali : OpenClaim.wfByText (OpenSpec.ofChange Rows.fnCountPartsSpec) Rows.fnCountPartsRow = true := by kernel_rfl
theorem main : Tryz.pinned.checked.prog.mainIs = some (Rows.fnCountPartsCard.stood.harness.fst, Rows.fnCountPartsCard.stood.harness.snd.toList) := by kernel_rfl
theorem goes : false = Rows.fnCountPartsRow.goesBy Tryz.pinned.checked.prog := by kernel_rfl
theorem params (j : Nat) (t : TypeId) (ht : Tryz.f10.params[j]? = some t) : Tryz.prog.wantsStandIn t = false := by
  rw [Tryz.params10] at ht
  have hm : t ∈ [22] := by simpa using Array.mem_of_getElem? ht
  exact (show Tryz.prog.wantsStandIn t = false by simpa using List.all_eq_true.1 acA t hm)
theorem at_ (f : FuncId) (fn : Func) (hf : Tryz.pinned.checked.prog.funcNamed Rows.fnCountPartsRow.func = some f) (hfn : Tryz.pinned.checked.prog.funcs[f]? = some fn) : false = Tryz.pinned.checked.prog.looks [] ∧ ∀ (j : Nat) (t : TypeId), fn.params[j]? = some t → Tryz.pinned.checked.prog.wantsStandIn t = false := by
  obtain rfl : 10 = f := Option.some.inj (named.symm.trans hf)
  obtain rfl : Tryz.f10 = fn := Option.some.inj (Tryz.func10.symm.trans hfn)
  exact ⟨looksAt, params⟩
theorem card_holds : Rows.FnCountPartsCardSaid :=
  Claim7.holds_tied_plain_at .later [] [.data, .pinned] true Rows.fnCountPartsCard.stood.harness false over (fun _ h => by cases h) ali (fun _ h => by cases h) fnCountParts_row_tie rfl ⟨rfl, rfl⟩ main rfl at_ goes
#print axioms card_holds
end Go.Proofs.YtncdadcmghglkaaGreatDoor.fnCountParts
namespace Go.Proofs.YtncdadcmghglkaaGreatDoor
/-- The row, under a short name, for the claim. -/
theorem fnCountParts_holds : Rows.FnCountPartsCardSaid := fnCountParts.card_holds
end Go.Proofs.YtncdadcmghglkaaGreatDoor
