/- Proved here: the card of the law FnPartText out of its row; conditions: those of the card. -/
import Derived.Test.YtdkipechiaploaaGreatDoorRows
import Derived.Test.YtdkipechiaploaaGreatDoorCards
import Derived.Test.YtdkipechiaploaaGreatDoorTie
import Derived.Test.YtdkipechiaploaaGreatDoorCx
import Derived.SevenTiedAt
import Derived.Test.YtdkipechiaploaaGreatDoorPFnPartTextx40
namespace Go.Proofs.YtdkipechiaploaaGreatDoor.fnPartText
open Go.ChangeShapes Go.WideShapes Go.ChangeAt Go.RowKit
open Go.ChangeMaps (open_string shut_string)
set_option linter.unusedVariables false
theorem named:Tryz.prog.funcNamed Rows.fnPartTextRow.func=some 3:=by kernel_rfl
theorem akk:([22].all fun u=>!Tryz.prog.wantsStandIn u)=true:=by kernel_rfl
theorem looksAt:false=Tryz.pinned.checked.prog.looks []:=by kernel_rfl
theorem awf:OpenClaim.wfByText (OpenSpec.ofChange Rows.fnPartTextSpec) Rows.fnPartTextRow=true:=by kernel_rfl
theorem main:Tryz.pinned.checked.prog.mainIs=some (Rows.fnPartTextCard.stood.harness.fst,Rows.fnPartTextCard.stood.harness.snd.toList):=by kernel_rfl
theorem goes:false=Rows.fnPartTextRow.goesBy Tryz.pinned.checked.prog:=by kernel_rfl
theorem params(j:Nat)(t:TypeId)(ht:Tryz.f3.params[j]? =some t):Tryz.prog.wantsStandIn t=false:=by
  rw[Tryz.params3]at ht;have hm:t∈[22]:=by simpa using Array.mem_of_getElem? ht
  exact(show Tryz.prog.wantsStandIn t=false by simpa using List.all_eq_true.1 akk t hm)
theorem at_(f:FuncId)(fn:Func)(hf:Tryz.pinned.checked.prog.funcNamed Rows.fnPartTextRow.func=some f)(hfn:Tryz.pinned.checked.prog.funcs[f]? =some fn):false=Tryz.pinned.checked.prog.looks []∧∀(j:Nat) (t:TypeId),fn.params[j]? =some t→Tryz.pinned.checked.prog.wantsStandIn t=false:=by
  obtain rfl:3=f:=Option.some.inj (named.symm.trans hf);obtain rfl:Tryz.f3=fn:=Option.some.inj (Tryz.func3.symm.trans hfn);exact⟨looksAt,params⟩
theorem card_holds:Rows.FnPartTextCardSaid:=
  Claim7.holds_tied_plain_at .later [] [.data, .pinned] true Rows.fnPartTextCard.stood.harness false over (fun _ h=>by cases h) awf (fun _ h=>by cases h) fnPartText_row_tie rfl ⟨rfl,rfl⟩ main rfl at_ goes
#print axioms card_holds
end Go.Proofs.YtdkipechiaploaaGreatDoor.fnPartText
namespace Go.Proofs.YtdkipechiaploaaGreatDoor
theorem fnPartText_holds:Rows.FnPartTextCardSaid:=fnPartText.card_holds
end Go.Proofs.YtdkipechiaploaaGreatDoor
