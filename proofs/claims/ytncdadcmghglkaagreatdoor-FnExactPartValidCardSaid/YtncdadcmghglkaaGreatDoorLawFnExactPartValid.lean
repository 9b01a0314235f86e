/- Proved here: the card of the law FnExactPartValid out of its row; conditions: those of the card. -/
import Derived.Test.YtncdadcmghglkaaGreatDoorRows
import Derived.Test.YtncdadcmghglkaaGreatDoorCards
import Derived.Test.YtncdadcmghglkaaGreatDoorTie
import Derived.Test.YtncdadcmghglkaaGreatDoorCx
import Derived.SevenTiedAt
import Derived.Test.YtncdadcmghglkaaGreatDoorPFnExactPartValidx25
namespace Go.Proofs.YtncdadcmghglkaaGreatDoor.fnExactPartValid
open Go.Proofs.YtncdadcmghglkaaGreatDoorOP
open Go.ChangeShapes Go.WideShapes Go.ChangeAt Go.RowKit Go.Proofs.YtncdadcmghglkaaGreatDoorW.PrintWords Go.Proofs.YtncdadcmghglkaaGreatDoorO Go.Proofs.YtncdadcmghglkaaGreatDoor.PFnExactPartValid
open Go.ChangeMaps (open_string shut_string)
set_option linter.unusedVariables false
theorem named : Tryz.prog.funcNamed Rows.fnExactPartValidRow.func = some 6 := by kernel_rfl
theorem standsIn : ([44].all fun u => !Tryz.prog.wantsStandIn u) = true := by kernel_rfl
theorem looksAt : false = Tryz.pinned.checked.prog.looks [] := by kernel_rfl
theorem byText : OpenClaim.wfByText (OpenSpec.ofChange Rows.fnExactPartValidSpec) Rows.fnExactPartValidRow = true := by kernel_rfl
theorem main : Tryz.pinned.checked.prog.mainIs = some (Rows.fnExactPartValidCard.stood.harness.fst, Rows.fnExactPartValidCard.stood.harness.snd.toList) := by kernel_rfl
theorem goes : false = Rows.fnExactPartValidRow.goesBy Tryz.pinned.checked.prog := by kernel_rfl
theorem params (j : Nat) (t : TypeId) (ht : Tryz.f6.params[j]? = some t) : Tryz.prog.wantsStandIn t = false := by
  rw [Tryz.params6] at ht
  have hm : t ∈ [44] := by simpa using Array.mem_of_getElem? ht
  exact (show Tryz.prog.wantsStandIn t = false by simpa using List.all_eq_true.1 standsIn t hm)
theorem at_ (f : FuncId) (fn : Func) (hf : Tryz.pinned.checked.prog.funcNamed Rows.fnExactPartValidRow.func = some f) (hfn : Tryz.pinned.checked.prog.funcs[f]? = some fn) : false = Tryz.pinned.checked.prog.looks [] ∧ ∀ (j : Nat) (t : TypeId), fn.params[j]? = some t → Tryz.pinned.checked.prog.wantsStandIn t = false := by
  obtain rfl : 6 = f := Option.some.inj (named.symm.trans hf)
  obtain rfl : Tryz.f6 = fn := Option.some.inj (Tryz.func6.symm.trans hfn)
  exact ⟨looksAt, params⟩
theorem card_holds : Rows.FnExactPartValidCardSaid :=
  Claim7.holds_tied_plain_at .later [] [.data, .pinned] true Rows.fnExactPartValidCard.stood.harness false over (fun _ h => by cases h) byText (fun _ h => by cases h) fnExactPartValid_row_tie rfl ⟨rfl, rfl⟩ main rfl at_ goes
#print axioms card_holds
end Go.Proofs.YtncdadcmghglkaaGreatDoor.fnExactPartValid
namespace Go.Proofs.YtncdadcmghglkaaGreatDoor
/-- The row, under a short name, for the claim. -/
theorem fnExactPartValid_holds : Rows.FnExactPartValidCardSaid := fnExactPartValid.card_holds
end Go.Proofs.YtncdadcmghglkaaGreatDoor
