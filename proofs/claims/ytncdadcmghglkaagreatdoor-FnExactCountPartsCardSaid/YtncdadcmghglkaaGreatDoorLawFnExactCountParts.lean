/- Proved here: the card of the law; conditions: those of the card. -/
import Derived.Test.YtncdadcmghglkaaGreatDoorPFnExactCountPartsx26
namespace Go.Proofs.YtncdadcmghglkaaGreatDoor.fnExactCountParts
noncomputable abbrev P := Tryz.pinned.checked.prog
noncomputable abbrev R := Rows.fnExactCountPartsRow
noncomputable abbrev H := Rows.fnExactCountPartsCard.stood.harness
theorem named : P.funcNamed R.func = some 7 := by kernel_rfl
theorem stands : ([44].all fun u => !P.wantsStandIn u) = true := by kernel_rfl
theorem looks : false = P.looks [] := by kernel_rfl
theorem text : OpenClaim.wfByText (OpenSpec.ofChange Rows.fnExactCountPartsSpec) R = true := by kernel_rfl
theorem main : P.mainIs = some (H.fst, H.snd.toList) := by kernel_rfl
theorem goes : false = R.goesBy P := by kernel_rfl
theorem params (j : Nat) (t : TypeId) (ht : Tryz.f7.params[j]? = some t) : P.wantsStandIn t = false := by
  rw [Tryz.params7] at ht
  have hm : t ∈ [44] := by simpa using Array.mem_of_getElem? ht
  simpa using List.all_eq_true.1 stands t hm
theorem at_ (f : FuncId) (fn : Func) (hf : P.funcNamed R.func = some f) (hfn : P.funcs[f]? = some fn) : false = P.looks [] ∧ ∀ (j : Nat) (t : TypeId), fn.params[j]? = some t → P.wantsStandIn t = false := by
  obtain rfl : 7 = f := Option.some.inj (named.symm.trans hf)
  obtain rfl : Tryz.f7 = fn := Option.some.inj (Tryz.func7.symm.trans hfn)
  exact ⟨looks, params⟩
theorem card_holds : Rows.FnExactCountPartsCardSaid :=
  Claim7.holds_tied_plain_at .later [] [.data, .pinned] true H false over (fun _ h => by cases h) text (fun _ h => by cases h) fnExactCountParts_row_tie rfl ⟨rfl, rfl⟩ main rfl at_ goes
end Go.Proofs.YtncdadcmghglkaaGreatDoor.fnExactCountParts
theorem Go.Proofs.YtncdadcmghglkaaGreatDoor.fnExactCountParts_holds : Go.Proofs.YtncdadcmghglkaaGreatDoor.Rows.FnExactCountPartsCardSaid := Go.Proofs.YtncdadcmghglkaaGreatDoor.fnExactCountParts.card_holds
