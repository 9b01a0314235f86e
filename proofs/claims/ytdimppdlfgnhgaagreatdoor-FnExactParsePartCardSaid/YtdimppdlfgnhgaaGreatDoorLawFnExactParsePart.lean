/- Proved here: the card of the law FnExactParsePart out of its row; conditions: those of the card. -/
import Derived.Test.YtdimppdlfgnhgaaGreatDoorRows
import Derived.Test.YtdimppdlfgnhgaaGreatDoorCards
import Derived.Test.YtdimppdlfgnhgaaGreatDoorTie
import Derived.Test.YtdimppdlfgnhgaaGreatDoorCx
import Derived.SevenTiedAt
import Derived.Test.YtdimppdlfgnhgaaGreatDoorPFnExactParsePartx31
namespace Go.Proofs.YtdimppdlfgnhgaaGreatDoor.fnExactParsePart
open Go.ChangeShapes Go.WideShapes Go.ChangeAt Go.RowKit Go.Proofs.YtdimppdlfgnhgaaGreatDoorW.eP Go.Proofs.rP Go.Proofs.YtdimppdlfgnhgaaGreatDoor.PFnExactParsePart
open Go.ChangeMaps (open_string shut_string)
set_option linter.unusedVariables false
theorem named:Tryz.prog.funcNamed Rows.fnExactParsePartRow.func=some 4:=by kernel_rfl
theorem ajE:([23].all fun u=>!Tryz.prog.wantsStandIn u)=true:=by kernel_rfl
theorem looksAt:false=Tryz.pinned.checked.prog.looks []:=by kernel_rfl
theorem avg:OpenClaim.wfByText (OpenSpec.ofChange Rows.fnExactParsePartSpec) Rows.fnExactParsePartRow=true:=by kernel_rfl
theorem main:Tryz.pinned.checked.prog.mainIs=some (Rows.fnExactParsePartCard.stood.harness.fst,Rows.fnExactParsePartCard.stood.harness.snd.toList):=by kernel_rfl
theorem goes:false=Rows.fnExactParsePartRow.goesBy Tryz.pinned.checked.prog:=by kernel_rfl
theorem params(j:Nat)(t:TypeId)(ht:Tryz.f4.params[j]? =some t):Tryz.prog.wantsStandIn t=false:=by
  rw[Tryz.params4]at ht;have hm:t∈[23]:=by simpa using Array.mem_of_getElem? ht
  exact(show Tryz.prog.wantsStandIn t=false by simpa using List.all_eq_true.1 ajE t hm)
theorem at_(f:FuncId)(fn:Func)(hf:Tryz.pinned.checked.prog.funcNamed Rows.fnExactParsePartRow.func=some f)(hfn:Tryz.pinned.checked.prog.funcs[f]? =some fn):false=Tryz.pinned.checked.prog.looks []∧∀(j:Nat) (t:TypeId),fn.params[j]? =some t→Tryz.pinned.checked.prog.wantsStandIn t=false:=by
  obtain rfl:4=f:=Option.some.inj (named.symm.trans hf);obtain rfl:Tryz.f4=fn:=Option.some.inj (Tryz.func4.symm.trans hfn);exact⟨looksAt,params⟩
theorem card_holds:Rows.FnExactParsePartCardSaid:=
  Claim7.holds_tied_plain_at .later [] [.data, .pinned] true Rows.fnExactParsePartCard.stood.harness false over (fun _ h=>by cases h) avg (fun _ h=>by cases h) fnExactParsePart_row_tie rfl ⟨rfl,rfl⟩ main rfl at_ goes
#print axioms card_holds
end Go.Proofs.YtdimppdlfgnhgaaGreatDoor.fnExactParsePart
namespace Go.Proofs.YtdimppdlfgnhgaaGreatDoor
theorem fnExactParsePart_holds:Rows.FnExactParsePartCardSaid:=fnExactParsePart.card_holds
end Go.Proofs.YtdimppdlfgnhgaaGreatDoor
