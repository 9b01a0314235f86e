/- Proved here: the card of the law FnPartValid out of its row; conditions: those of the card. -/
import Derived.Test.YtncdadcmghglkaaGreatDoorRows
import Derived.Test.YtncdadcmghglkaaGreatDoorCards
import Derived.Test.YtncdadcmghglkaaGreatDoorTie
import Derived.Test.YtncdadcmghglkaaGreatDoorCx
import Derived.SevenTiedAt
import Derived.Test.YtncdadcmghglkaaGreatDoorPFnPartValidx34
namespace Go.Proofs.YtncdadcmghglkaaGreatDoor.fnPartValid
open Go.ChangeShapes Go.WideShapes Go.ChangeAt Go.RowKit
open Go.ChangeMaps (open_string shut_string)
set_option linter.unusedVariables false
theorem named : Tryz.prog.funcNamed Rows.fnPartValidRow.func = some 14 := by kernel_rfl
theorem ad4 : ([22].all fun u => !Tryz.prog.wantsStandIn u) = true := by kernel_rfl
theorem looksAt : false = Tryz.pinned.checked.prog.looks [] := by kernel_rfl
theorem amO : OpenClaim.wfByText (OpenSpec.ofChange Rows.fnPartValidSpec) Rows.fnPartValidRow = true := by kernel_rfl
theorem main : Tryz.pinned.checked.prog.mainIs = some (Rows.fnPartValidCard.stood.harness.fst, Rows.fnPartValidCard.stood.harness.snd.toList) := by kernel_rfl
theorem goes : false = Rows.fnPartValidRow.goesBy Tryz.pinned.checked.prog := by kernel_rfl
theorem params (j : Nat) (t : TypeId) (ht : Tryz.f14.params[j]? = some t) : Tryz.prog.wantsStandIn t = false := by
  rw [Tryz.params14] at ht
  have hm : t ∈ [22] := by simpa using Array.mem_of_getElem? ht
  exact (show Tryz.prog.wantsStandIn t = false by simpa using List.all_eq_true.1 ad4 t hm)
theorem at_ (f : FuncId) (fn : Func) (hf : Tryz.pinned.checked.prog.funcNamed Rows.fnPartValidRow.func = some f) (hfn : Tryz.pinned.checked.prog.funcs[f]? = some fn) : false = Tryz.pinned.checked.prog.looks [] ∧ ∀ (j : Nat) (t : TypeId), fn.params[j]? = some t → Tryz.pinned.checked.prog.wantsStandIn t = false := by
  obtain rfl : 14 = f := Option.some.inj (named.symm.trans hf)
  obtain rfl : Tryz.f14 = fn := Option.some.inj (Tryz.func14.symm.trans hfn)
  exact ⟨looksAt, params⟩
theorem card_holds : Rows.FnPartValidCardSaid :=
  Claim7.holds_tied_plain_at .later [] [.data, .pinned] true Rows.fnPartValidCard.stood.harness false over (fun _ h => by cases h) amO (fun _ h => by cases h) fnPartValid_row_tie rfl ⟨rfl, rfl⟩ main rfl at_ goes
#print axioms card_holds
end Go.Proofs.YtncdadcmghglkaaGreatDoor.fnPartValid
namespace Go.Proofs.YtncdadcmghglkaaGreatDoor
/-- The row, under a short name, for the claim. -/
theorem fnPartValid_holds : Rows.FnPartValidCardSaid := fnPartValid.card_holds
end Go.Proofs.YtncdadcmghglkaaGreatDoor
