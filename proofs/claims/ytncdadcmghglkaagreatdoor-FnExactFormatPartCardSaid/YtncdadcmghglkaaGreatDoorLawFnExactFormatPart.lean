/- Proved here: the card of the law FnExactFormatPart out of its row; conditions: those of the card. -/
import Derived.Test.YtncdadcmghglkaaGreatDoorRows
import Derived.Test.YtncdadcmghglkaaGreatDoorCards
import Derived.Test.YtncdadcmghglkaaGreatDoorTie
import Derived.Test.YtncdadcmghglkaaGreatDoorCx
import Derived.SevenTiedAt
import Derived.Test.YtncdadcmghglkaaGreatDoorPFnExactFormatPartx26
namespace Go.Proofs.YtncdadcmghglkaaGreatDoor.fnExactFormatPart
open Go.Proofs.jW
open Go.ChangeShapes Go.WideShapes Go.ChangeAt Go.RowKit Go.Proofs.YtncdadcmghglkaaGreatDoorW.dB Go.Proofs.lT Go.Proofs.YtncdadcmghglkaaGreatDoor.PFnExactFormatPart
open Go.ChangeMaps (open_string shut_string)
set_option linter.unusedVariables false
theorem named:Tryz.prog.funcNamed Rows.fnExactFormatPartRow.func=some 8:=by kernel_rfl
theorem acs:([44].all fun u=>!Tryz.prog.wantsStandIn u)=true:=by kernel_rfl
theorem looksAt:false=Tryz.pinned.checked.prog.looks []:=by kernel_rfl
theorem aky:OpenClaim.wfByText (OpenSpec.ofChange Rows.fnExactFormatPartSpec) Rows.fnExactFormatPartRow=true:=by kernel_rfl
theorem main:Tryz.pinned.checked.prog.mainIs=some (Rows.fnExactFormatPartCard.stood.harness.fst,Rows.fnExactFormatPartCard.stood.harness.snd.toList):=by kernel_rfl
theorem goes:false=Rows.fnExactFormatPartRow.goesBy Tryz.pinned.checked.prog:=by kernel_rfl
theorem params(j:Nat)(t:TypeId)(ht:Tryz.f8.params[j]? =some t):Tryz.prog.wantsStandIn t=false:=by
  rw[Tryz.params8]at ht;have hm:t∈[44]:=by simpa using Array.mem_of_getElem? ht
  exact(show Tryz.prog.wantsStandIn t=false by simpa using List.all_eq_true.1 acs t hm)
theorem at_(f:FuncId)(fn:Func)(hf:Tryz.pinned.checked.prog.funcNamed Rows.fnExactFormatPartRow.func=some f)(hfn:Tryz.pinned.checked.prog.funcs[f]? =some fn):false=Tryz.pinned.checked.prog.looks []∧∀(j:Nat) (t:TypeId),fn.params[j]? =some t→Tryz.pinned.checked.prog.wantsStandIn t=false:=by
  obtain rfl:8=f:=Option.some.inj (named.symm.trans hf);obtain rfl:Tryz.f8=fn:=Option.some.inj (Tryz.func8.symm.trans hfn);exact⟨looksAt,params⟩
theorem card_holds:Rows.FnExactFormatPartCardSaid:=
  Claim7.holds_tied_plain_at .later [] [.data, .pinned] true Rows.fnExactFormatPartCard.stood.harness false over (fun _ h=>by cases h) aky (fun _ h=>by cases h) fnExactFormatPart_row_tie rfl ⟨rfl,rfl⟩ main rfl at_ goes
#print axioms card_holds
end Go.Proofs.YtncdadcmghglkaaGreatDoor.fnExactFormatPart
namespace Go.Proofs.YtncdadcmghglkaaGreatDoor
theorem fnExactFormatPart_holds:Rows.FnExactFormatPartCardSaid:=fnExactFormatPart.card_holds
end Go.Proofs.YtncdadcmghglkaaGreatDoor
