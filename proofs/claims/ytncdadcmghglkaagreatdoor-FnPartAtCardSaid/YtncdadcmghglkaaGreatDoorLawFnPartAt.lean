/- Proved here: the card of the law FnPartAt out of its row; conditions: those of the card. -/
import Derived.Test.YtncdadcmghglkaaGreatDoorRows
import Derived.Test.YtncdadcmghglkaaGreatDoorCards
import Derived.Test.YtncdadcmghglkaaGreatDoorTie
import Derived.Test.YtncdadcmghglkaaGreatDoorCx
import Derived.SevenTiedAt
import Derived.Test.YtncdadcmghglkaaGreatDoorPFnPartAtx37
namespace Go.Proofs.YtncdadcmghglkaaGreatDoor.fnPartAt
open Go.ChangeShapes Go.WideShapes Go.ChangeAt Go.RowKit
open Go.ChangeMaps (open_string shut_string)
set_option linter.unusedVariables false
theorem named:Tryz.prog.funcNamed Rows.fnPartAtRow.func=some 17:=by kernel_rfl
theorem ah7:([22].all fun u=>!Tryz.prog.wantsStandIn u)=true:=by kernel_rfl
theorem looksAt:false=Tryz.pinned.checked.prog.looks []:=by kernel_rfl
theorem arL:OpenClaim.wfByText (OpenSpec.ofChange Rows.fnPartAtSpec) Rows.fnPartAtRow=true:=by kernel_rfl
theorem main:Tryz.pinned.checked.prog.mainIs=some (Rows.fnPartAtCard.stood.harness.fst,Rows.fnPartAtCard.stood.harness.snd.toList):=by kernel_rfl
theorem goes:false=Rows.fnPartAtRow.goesBy Tryz.pinned.checked.prog:=by kernel_rfl
theorem params (j:Nat) (t:TypeId) (ht:Tryz.f17.params[j]? =some t):Tryz.prog.wantsStandIn t=false:=by
  rw[Tryz.params17]at ht
  have hm:t∈[22]:=by simpa using Array.mem_of_getElem? ht
  exact(show Tryz.prog.wantsStandIn t=false by simpa using List.all_eq_true.1 ah7 t hm)
theorem at_ (f:FuncId) (fn:Func) (hf:Tryz.pinned.checked.prog.funcNamed Rows.fnPartAtRow.func=some f) (hfn:Tryz.pinned.checked.prog.funcs[f]? =some fn):false=Tryz.pinned.checked.prog.looks []∧∀(j:Nat) (t:TypeId),fn.params[j]? =some t→Tryz.pinned.checked.prog.wantsStandIn t=false:=by
  obtain rfl:17=f:=Option.some.inj (named.symm.trans hf)
  obtain rfl:Tryz.f17=fn:=Option.some.inj (Tryz.func17.symm.trans hfn)
  exact⟨looksAt,params⟩
theorem card_holds:Rows.FnPartAtCardSaid:=
  Claim7.holds_tied_plain_at .later [] [.data, .pinned] true Rows.fnPartAtCard.stood.harness false over (fun _ h=>by cases h) arL (fun _ h=>by cases h) fnPartAt_row_tie rfl ⟨rfl,rfl⟩ main rfl at_ goes
#print axioms card_holds
end Go.Proofs.YtncdadcmghglkaaGreatDoor.fnPartAt
namespace Go.Proofs.YtncdadcmghglkaaGreatDoor
/-- The row, under a short name, for the claim. -/
theorem fnPartAt_holds:Rows.FnPartAtCardSaid:=fnPartAt.card_holds
end Go.Proofs.YtncdadcmghglkaaGreatDoor
