/- Proved here: the card of the law FnKidValid out of its row; conditions: those of the card. -/
import Derived.Test.YtncdadcmghglkaaGreatDoorRows
import Derived.Test.YtncdadcmghglkaaGreatDoorCards
import Derived.Test.YtncdadcmghglkaaGreatDoorTie
import Derived.Test.YtncdadcmghglkaaGreatDoorCx
import Derived.SevenTiedAt
import Derived.Test.YtncdadcmghglkaaGreatDoorPFnKidValidx31
namespace Go.Proofs.YtncdadcmghglkaaGreatDoor.fnKidValid
open Go.ChangeShapes Go.WideShapes Go.ChangeAt Go.RowKit
open Go.ChangeMaps (open_string shut_string)
set_option linter.unusedVariables false
theorem named : Tryz.prog.funcNamed Rows.fnKidValidRow.func = some 11 := by kernel_rfl
theorem adf : ([22].all fun u => !Tryz.prog.wantsStandIn u) = true := by kernel_rfl
theorem looksAt : false = Tryz.pinned.checked.prog.looks [] := by kernel_rfl
theorem amh : OpenClaim.wfByText (OpenSpec.ofChange Rows.fnKidValidSpec) Rows.fnKidValidRow = true := by kernel_rfl
theorem main : Tryz.pinned.checked.prog.mainIs = some (Rows.fnKidValidCard.stood.harness.fst, Rows.fnKidValidCard.stood.harness.snd.toList) := by kernel_rfl
theorem goes : false = Rows.fnKidValidRow.goesBy Tryz.pinned.checked.prog := by kernel_rfl
theorem params (j : Nat) (t : TypeId) (ht : Tryz.f11.params[j]? = some t) : Tryz.prog.wantsStandIn t = false := by
  rw [Tryz.params11] at ht
  have hm : t ∈ [22] := by simpa using Array.mem_of_getElem? ht
  exact (show Tryz.prog.wantsStandIn t = false by simpa using List.all_eq_true.1 adf t hm)
theorem at_ (f : FuncId) (fn : Func) (hf : Tryz.pinned.checked.prog.funcNamed Rows.fnKidValidRow.func = some f) (hfn : Tryz.pinned.checked.prog.funcs[f]? = some fn) : false = Tryz.pinned.checked.prog.looks [] ∧ ∀ (j : Nat) (t : TypeId), fn.params[j]? = some t → Tryz.pinned.checked.prog.wantsStandIn t = false := by
  obtain rfl : 11 = f := Option.some.inj (named.symm.trans hf)
  obtain rfl : Tryz.f11 = fn := Option.some.inj (Tryz.func11.symm.trans hfn)
  exact ⟨looksAt, params⟩
theorem card_holds : Rows.FnKidValidCardSaid :=
  Claim7.holds_tied_plain_at .later [] [.data, .pinned] true Rows.fnKidValidCard.stood.harness false over (fun _ h => by cases h) amh (fun _ h => by cases h) fnKidValid_row_tie rfl ⟨rfl, rfl⟩ main rfl at_ goes
#print axioms card_holds
end Go.Proofs.YtncdadcmghglkaaGreatDoor.fnKidValid
namespace Go.Proofs.YtncdadcmghglkaaGreatDoor
/-- The row, under a short name, for the claim. -/
theorem fnKidValid_holds : Rows.FnKidValidCardSaid := fnKidValid.card_holds
end Go.Proofs.YtncdadcmghglkaaGreatDoor
