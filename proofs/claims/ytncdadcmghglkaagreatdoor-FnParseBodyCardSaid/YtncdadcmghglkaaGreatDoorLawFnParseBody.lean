/- Proved here: the card of the law FnParseBody out of its row; conditions: those of the card. -/
import Derived.Test.YtncdadcmghglkaaGreatDoorRows
import Derived.Test.YtncdadcmghglkaaGreatDoorCards
import Derived.Test.YtncdadcmghglkaaGreatDoorTie
import Derived.Test.YtncdadcmghglkaaGreatDoorCx
import Derived.SevenTiedAt
import Derived.Test.YtncdadcmghglkaaGreatDoorPFnParseBodyx36
namespace Go.Proofs.YtncdadcmghglkaaGreatDoor.fnParseBody
open Go.ChangeShapes Go.WideShapes Go.ChangeAt Go.RowKit
open Go.ChangeMaps (open_string shut_string)
set_option linter.unusedVariables false
theorem named:Tryz.prog.funcNamed Rows.fnParseBodyRow.func=some 3:=by kernel_rfl
theorem ahL:([22].all fun u=>!Tryz.prog.wantsStandIn u)=true:=by kernel_rfl
theorem looksAt:false=Tryz.pinned.checked.prog.looks []:=by kernel_rfl
theorem asl:OpenClaim.wfByText (OpenSpec.ofChange Rows.fnParseBodySpec) Rows.fnParseBodyRow=true:=by kernel_rfl
theorem main:Tryz.pinned.checked.prog.mainIs=some (Rows.fnParseBodyCard.stood.harness.fst,Rows.fnParseBodyCard.stood.harness.snd.toList):=by kernel_rfl
theorem goes:false=Rows.fnParseBodyRow.goesBy Tryz.pinned.checked.prog:=by kernel_rfl
theorem params(j:Nat)(t:TypeId)(ht:Tryz.f3.params[j]? =some t):Tryz.prog.wantsStandIn t=false:=by
  rw[Tryz.params3]at ht;have hm:t∈[22]:=by simpa using Array.mem_of_getElem? ht
  exact(show Tryz.prog.wantsStandIn t=false by simpa using List.all_eq_true.1 ahL t hm)
theorem at_(f:FuncId)(fn:Func)(hf:Tryz.pinned.checked.prog.funcNamed Rows.fnParseBodyRow.func=some f)(hfn:Tryz.pinned.checked.prog.funcs[f]? =some fn):false=Tryz.pinned.checked.prog.looks []∧∀(j:Nat) (t:TypeId),fn.params[j]? =some t→Tryz.pinned.checked.prog.wantsStandIn t=false:=by
  obtain rfl:3=f:=Option.some.inj (named.symm.trans hf);obtain rfl:Tryz.f3=fn:=Option.some.inj (Tryz.func3.symm.trans hfn);exact⟨looksAt,params⟩
theorem card_holds:Rows.FnParseBodyCardSaid:=
  Claim7.holds_tied_plain_at .later [] [.data, .pinned] true Rows.fnParseBodyCard.stood.harness false over (fun _ h=>by cases h) asl (fun _ h=>by cases h) fnParseBody_row_tie rfl ⟨rfl,rfl⟩ main rfl at_ goes
#print axioms card_holds
end Go.Proofs.YtncdadcmghglkaaGreatDoor.fnParseBody
namespace Go.Proofs.YtncdadcmghglkaaGreatDoor
theorem fnParseBody_holds:Rows.FnParseBodyCardSaid:=fnParseBody.card_holds
end Go.Proofs.YtncdadcmghglkaaGreatDoor
