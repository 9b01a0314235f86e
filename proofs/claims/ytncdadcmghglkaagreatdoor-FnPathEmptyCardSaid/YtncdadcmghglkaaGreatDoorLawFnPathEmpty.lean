/- Proved here: the card of the law FnPathEmpty out of its row; conditions: those of the card. -/
import Derived.Test.YtncdadcmghglkaaGreatDoorRows
import Derived.Test.YtncdadcmghglkaaGreatDoorCards
import Derived.Test.YtncdadcmghglkaaGreatDoorTie
import Derived.Test.YtncdadcmghglkaaGreatDoorCx
import Derived.SevenTiedAt
import Derived.Test.YtncdadcmghglkaaGreatDoorPFnPathEmptyx37
namespace Go.Proofs.YtncdadcmghglkaaGreatDoor.fnPathEmpty
open Go.ChangeShapes Go.WideShapes Go.ChangeAt Go.RowKit
open Go.ChangeMaps (open_string shut_string)
set_option linter.unusedVariables false
theorem named:Tryz.prog.funcNamed Rows.fnPathEmptyRow.func=some 16:=by kernel_rfl
theorem ahL:([22].all fun u=>!Tryz.prog.wantsStandIn u)=true:=by kernel_rfl
theorem looksAt:false=Tryz.pinned.checked.prog.looks []:=by kernel_rfl
theorem aq6:OpenClaim.wfByText (OpenSpec.ofChange Rows.fnPathEmptySpec) Rows.fnPathEmptyRow=true:=by kernel_rfl
theorem main:Tryz.pinned.checked.prog.mainIs=some (Rows.fnPathEmptyCard.stood.harness.fst,Rows.fnPathEmptyCard.stood.harness.snd.toList):=by kernel_rfl
theorem goes:false=Rows.fnPathEmptyRow.goesBy Tryz.pinned.checked.prog:=by kernel_rfl
theorem params (j:Nat) (t:TypeId) (ht:Tryz.f16.params[j]? =some t):Tryz.prog.wantsStandIn t=false:=by
  rw[Tryz.params16]at ht
  have hm:t∈[22]:=by simpa using Array.mem_of_getElem? ht
  exact(show Tryz.prog.wantsStandIn t=false by simpa using List.all_eq_true.1 ahL t hm)
theorem at_ (f:FuncId) (fn:Func) (hf:Tryz.pinned.checked.prog.funcNamed Rows.fnPathEmptyRow.func=some f) (hfn:Tryz.pinned.checked.prog.funcs[f]? =some fn):false=Tryz.pinned.checked.prog.looks []∧∀(j:Nat) (t:TypeId),fn.params[j]? =some t→Tryz.pinned.checked.prog.wantsStandIn t=false:=by
  obtain rfl:16=f:=Option.some.inj (named.symm.trans hf)
  obtain rfl:Tryz.f16=fn:=Option.some.inj (Tryz.func16.symm.trans hfn)
  exact⟨looksAt,params⟩
theorem card_holds:Rows.FnPathEmptyCardSaid:=
  Claim7.holds_tied_plain_at .later [] [.data, .pinned] true Rows.fnPathEmptyCard.stood.harness false over (fun _ h=>by cases h) aq6 (fun _ h=>by cases h) fnPathEmpty_row_tie rfl ⟨rfl,rfl⟩ main rfl at_ goes
#print axioms card_holds
end Go.Proofs.YtncdadcmghglkaaGreatDoor.fnPathEmpty
namespace Go.Proofs.YtncdadcmghglkaaGreatDoor
/-- The row, under a short name, for the claim. -/
theorem fnPathEmpty_holds:Rows.FnPathEmptyCardSaid:=fnPathEmpty.card_holds
end Go.Proofs.YtncdadcmghglkaaGreatDoor
