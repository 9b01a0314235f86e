/- Proved here: the card of the law FnKidLines out of its row; conditions: those of the card. -/
import Derived.Test.YtncdadcmghglkaaGreatDoorRows
import Derived.Test.YtncdadcmghglkaaGreatDoorCards
import Derived.Test.YtncdadcmghglkaaGreatDoorTie
import Derived.Test.YtncdadcmghglkaaGreatDoorCx
import Derived.SevenTiedAt
import Derived.Test.YtncdadcmghglkaaGreatDoorPFnKidLinesx32
namespace Go.Proofs.YtncdadcmghglkaaGreatDoor.fnKidLines
open Go.ChangeShapes Go.WideShapes Go.ChangeAt Go.RowKit
open Go.ChangeMaps (open_string shut_string)
set_option linter.unusedVariables false
theorem named:Tryz.prog.funcNamed Rows.fnKidLinesRow.func=some 13:=by kernel_rfl
theorem adO:([22].all fun u=>!Tryz.prog.wantsStandIn u)=true:=by kernel_rfl
theorem looksAt:false=Tryz.pinned.checked.prog.looks []:=by kernel_rfl
theorem am3:OpenClaim.wfByText (OpenSpec.ofChange Rows.fnKidLinesSpec) Rows.fnKidLinesRow=true:=by kernel_rfl
theorem main:Tryz.pinned.checked.prog.mainIs=some (Rows.fnKidLinesCard.stood.harness.fst,Rows.fnKidLinesCard.stood.harness.snd.toList):=by kernel_rfl
theorem goes:false=Rows.fnKidLinesRow.goesBy Tryz.pinned.checked.prog:=by kernel_rfl
theorem params (j:Nat) (t:TypeId) (ht:Tryz.f13.params[j]? =some t):Tryz.prog.wantsStandIn t=false:=by
  rw[Tryz.params13]at ht
  have hm:t∈[22]:=by simpa using Array.mem_of_getElem? ht
  exact(show Tryz.prog.wantsStandIn t=false by simpa using List.all_eq_true.1 adO t hm)
theorem at_ (f:FuncId) (fn:Func) (hf:Tryz.pinned.checked.prog.funcNamed Rows.fnKidLinesRow.func=some f) (hfn:Tryz.pinned.checked.prog.funcs[f]? =some fn):false=Tryz.pinned.checked.prog.looks []∧∀(j:Nat) (t:TypeId),fn.params[j]? =some t→Tryz.pinned.checked.prog.wantsStandIn t=false:=by
  obtain rfl:13=f:=Option.some.inj (named.symm.trans hf)
  obtain rfl:Tryz.f13=fn:=Option.some.inj (Tryz.func13.symm.trans hfn)
  exact⟨looksAt,params⟩
theorem card_holds:Rows.FnKidLinesCardSaid:=
  Claim7.holds_tied_plain_at .later [] [.data, .pinned] true Rows.fnKidLinesCard.stood.harness false over (fun _ h=>by cases h) am3 (fun _ h=>by cases h) fnKidLines_row_tie rfl ⟨rfl,rfl⟩ main rfl at_ goes
#print axioms card_holds
end Go.Proofs.YtncdadcmghglkaaGreatDoor.fnKidLines
namespace Go.Proofs.YtncdadcmghglkaaGreatDoor
/-- The row, under a short name, for the claim. -/
theorem fnKidLines_holds:Rows.FnKidLinesCardSaid:=fnKidLines.card_holds
end Go.Proofs.YtncdadcmghglkaaGreatDoor
