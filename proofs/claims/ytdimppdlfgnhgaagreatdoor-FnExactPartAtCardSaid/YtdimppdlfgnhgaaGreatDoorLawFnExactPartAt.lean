/- Proved here: the card of the law FnExactPartAt out of its row; conditions: those of the card. -/
import Derived.Test.YtdimppdlfgnhgaaGreatDoorRows
import Derived.Test.YtdimppdlfgnhgaaGreatDoorCards
import Derived.Test.YtdimppdlfgnhgaaGreatDoorTie
import Derived.Test.YtdimppdlfgnhgaaGreatDoorCx
import Derived.SevenTiedAt
import Derived.Test.YtdimppdlfgnhgaaGreatDoorPFnExactPartAtx33
namespace Go.Proofs.YtdimppdlfgnhgaaGreatDoor.fnExactPartAt
open Go.Proofs.mg
open Go.ChangeShapes Go.WideShapes Go.ChangeAt Go.RowKit Go.Proofs.YtdimppdlfgnhgaaGreatDoorW.fD Go.Proofs.lC Go.Proofs.YtdimppdlfgnhgaaGreatDoor.PFnExactPartAt
open Go.ChangeMaps (open_string shut_string)
set_option linter.unusedVariables false
theorem named:Tryz.prog.funcNamed Rows.fnExactPartAtRow.func=some 3:=by kernel_rfl
theorem aj2:([26, 27].all fun u=>!Tryz.prog.wantsStandIn u)=true:=by kernel_rfl
theorem looksAt:false=Tryz.pinned.checked.prog.looks []:=by kernel_rfl
theorem aue:OpenClaim.wfByText (OpenSpec.ofChange Rows.fnExactPartAtSpec) Rows.fnExactPartAtRow=true:=by kernel_rfl
theorem main:Tryz.pinned.checked.prog.mainIs=some (Rows.fnExactPartAtCard.stood.harness.fst,Rows.fnExactPartAtCard.stood.harness.snd.toList):=by kernel_rfl
theorem goes:false=Rows.fnExactPartAtRow.goesBy Tryz.pinned.checked.prog:=by kernel_rfl
theorem params(j:Nat)(t:TypeId)(ht:Tryz.f3.params[j]? =some t):Tryz.prog.wantsStandIn t=false:=by
  rw[Tryz.params3]at ht;have hm:t∈[26, 27]:=by simpa using Array.mem_of_getElem? ht
  exact(show Tryz.prog.wantsStandIn t=false by simpa using List.all_eq_true.1 aj2 t hm)
theorem at_(f:FuncId)(fn:Func)(hf:Tryz.pinned.checked.prog.funcNamed Rows.fnExactPartAtRow.func=some f)(hfn:Tryz.pinned.checked.prog.funcs[f]? =some fn):false=Tryz.pinned.checked.prog.looks []∧∀(j:Nat) (t:TypeId),fn.params[j]? =some t→Tryz.pinned.checked.prog.wantsStandIn t=false:=by
  obtain rfl:3=f:=Option.some.inj (named.symm.trans hf);obtain rfl:Tryz.f3=fn:=Option.some.inj (Tryz.func3.symm.trans hfn);exact⟨looksAt,params⟩
theorem card_holds:Rows.FnExactPartAtCardSaid:=
  Claim7.holds_tied_plain_at .later [] [.data, .pinned] true Rows.fnExactPartAtCard.stood.harness false over (fun _ h=>by cases h) aue (fun _ h=>by cases h) fnExactPartAt_row_tie rfl ⟨rfl,rfl⟩ main rfl at_ goes
#print axioms card_holds
end Go.Proofs.YtdimppdlfgnhgaaGreatDoor.fnExactPartAt
namespace Go.Proofs.YtdimppdlfgnhgaaGreatDoor
theorem fnExactPartAt_holds:Rows.FnExactPartAtCardSaid:=fnExactPartAt.card_holds
end Go.Proofs.YtdimppdlfgnhgaaGreatDoor
