/- Proved here: the row of the law FnExactSplitWire: the law's walk, its pure form, and what its parameters hold; conditions: those of the row. -/
import Derived.Test.YthlgdfjckhjiaaaDoorRows
import Derived.Test.YthlgdfjckhjiaaaDoorCards
import Derived.Test.YthlgdfjckhjiaaaDoorTie
import Derived.Test.YthlgdfjckhjiaaaDoorCx
import Derived.SevenTiedAt
import Derived.Test.YthlgdfjckhjiaaaDoorHeads
import Derived.Test.YthlgdfjckhjiaaaDoorPFnExactSplitWirex2
import Derived.Test.YthlgdfjckhjiaaaDoorPureFnExactSplitWire
import Derived.Test.YthlgdfjckhjiaaaDoorOps
import Derived.Test.YthlgdfjckhjiaaaDoorWSized
import Derived.WalkKit
import Derived.ProofKit
import Derived.OpenShut
import Derived.ShutString
import Derived.ChangeOld
import Derived.Below
import Derived.SizedLaws
import Derived.HandedShaped
import Derived.Test.YthlgdfjckhjiaaaDoorMx
namespace Go.Proofs.YthlgdfjckhjiaaaDoor.fnExactSplitWire
open Go.ChangeShapes Go.WideShapes Go.ChangeAt Go.RowKit Go.Proofs.YthlgdfjckhjiaaaDoorW.PrintWords Go.Proofs.YthlgdfjckhjiaaaDoorO Go.Proofs.YthlgdfjckhjiaaaDoor.PFnExactSplitWire
open Go.ChangeMaps (open_string shut_string)
set_option linter.unusedVariables false
theorem own : ownKnob Tryd.prog.godebug = none := by kernel_rfl
theorem laidOut : laidOutB Tryd.prog = true := by kernel_rfl
set_option maxRecDepth 100000 in
theorem lifted (os : Os) (started : os.Started) (H : Type) (enc : TypeId × Value → H) :
    ReturnsInHanded {} Tryd.checked os 3 .any (fun w args => (Rows.fnExactSplitWireSpec.pre enc Tryd.prog Tryd.f3 Rows.fnExactSplitWireRow.domain false w args ∧ laidMetH Tryd.prog Rows.fnExactSplitWireRow.laid w) ∧ sizedMet enc Tryd.prog Tryd.f3 (OpenSpec.ofChange Rows.fnExactSplitWireSpec) false w args) (Rows.fnExactSplitWireSpec.post enc Tryd.prog Tryd.f3 false true false false) := by
  refine Go.Proofs.YthlgdfjckhjiaaaDoorC.shaped_and (C := Tryd.checked) (X := fun w _ => laidMetH Tryd.prog Rows.fnExactSplitWireRow.laid w) (fun _ _ _ hh h => h.of_heap hh) own started (by kernel_rfl) Tryd.func3
    (ChangeSpec.witness_shaped (enc := enc) (C := Tryd.checked) (os := os) (X := fun w _ => laidMetH Tryd.prog Rows.fnExactSplitWireRow.laid w) false (World.laidAll Tryd.prog os Rows.fnExactSplitWireRow.laid) #[.string ByteArray.empty] 8 (World.laidAll_os _ _ _)
      (World.shaped_of_ZipB (by kernel_rfl) (by kernel_rfl)) (by kernel_rfl) (by kernel_rfl) (by kernel_rfl)
      (by rw [MakeChecks.laidMetH_plain _ _ _ (by kernel_rfl)]; exact laidMet_laidAll _ (by kernel_rfl) (by kernel_rfl))) ?_
  intro W base args ds gs before hval0 hW hcnd hsz0 hsh hL _
  have hval : ∀ (j : Nat) t v, Tryd.f3.params[j]? = some t → args[j]? = some v → Value.okWide Tryd.prog W .any base t v := hval0
  have hW' := hW
  obtain ⟨p, q, hA0, hV, rfl, hfz, hnd⟩ := hW
  have hA : DataW.TrodAll enc Tryd.prog W 0 (fun _ => true) true Tryd.f3.params.toList args.toList ds p := hA0
  rw [Tryd.params3] at hA hval
  obtain ⟨v0, vs0, d0, ds0, p0, q0, hargs, rfl, rfl, h0, r0⟩ := trodAll_cons hA
  obtain ⟨rfl, rfl, rfl⟩ := trodAll_nil r0
  obtain rfl : args = #[v0] := by cases args; simp_all
  obtain ⟨rfl, rfl⟩ := trodVars_none hV
  obtain ⟨a0, rfl, rfl, rfl, y0⟩ := open_string Tryd.underlying9 (hval 0 9 v0 rfl rfl) h0
  clear hA0 hval0 hsz0
  obtain ⟨k, h⟩ := Pure.FnExactSplitWire a0 y0
  refine (laws_FnExactSplitWire.calls k a0 true W  (Go.Proofs.YthlgdfjckhjiaaaDoor.X.MaxOk.of_shaped hsh) h).mono fun e W' ⟨he, bel⟩ => ?_
  subst he
  exact ⟨_, rfl, _, _, _, [], _, [], hW', trodAll_mk1 (shut_bool Tryd.underlying4 _), (trodAll_cons_mk (shut_string Tryd.underlying9 y0) trodAll_mk0), rfl, bel.frame _, fun h => by cases h⟩
set_option maxRecDepth 100000 in
theorem closed : joinedFacts Tryd.prog 3 Tryd.f3 Rows.fnExactSplitWireSpec Rows.fnExactSplitWireRow = true := by
  unfold joinedFacts
  rw [Go.Proofs.YthlgdfjckhjiaaaDoorHeads.enters, Go.Proofs.YthlgdfjckhjiaaaDoorHeads.lifts, Go.Proofs.YthlgdfjckhjiaaaDoorHeads.makes]
  kernel_rfl
theorem over : Rows.fnExactSplitWireRow.holds Tryd.pinned (OpenSpec.ofChange Rows.fnExactSplitWireSpec) :=
  OpenClaim.holds_of_wide 3 Tryd.f3 rfl rfl rfl rfl rfl rfl rfl ⟨rfl, rfl, rfl, rfl, rfl⟩ rfl rfl rfl rfl rfl (by kernel_rfl) Tryd.func3 closed
    (of_decide_eq_true (by kernel_rfl)) (by unfold Func.isWrapper; first | (rw [if_pos (by decide +kernel)]; kernel_rfl) | (rw [if_neg (by decide +kernel)]; exact ⟨rfl, rfl⟩))
    (fun os started H enc _ => lifted os started H enc)
theorem card_holds : Rows.FnExactSplitWireCardSaid :=
  Claim7.holds_tied_plain_at .later [] [.data, .pinned] true Rows.fnExactSplitWireCard.stood.harness false over (fun _ h => by cases h) (by kernel_rfl) (fun _ h => by cases h) fnExactSplitWire_row_tie rfl ⟨rfl, rfl⟩ (by kernel_rfl) rfl
    (fun f fn hf hfn => by
      obtain rfl : f = 3 := Option.some.inj ((show Tryd.prog.funcNamed Rows.fnExactSplitWireRow.func = some 3 by kernel_rfl).symm.trans hf) |>.symm
      obtain rfl : fn = Tryd.f3 := (Option.some.inj (Tryd.func3.symm.trans hfn)).symm
      exact ⟨by kernel_rfl, fun j t ht => by
        rw [Tryd.params3] at ht
        have hm : t ∈ [9] := by simpa using Array.mem_of_getElem? ht
        have hall : ([9].all fun u => !Tryd.prog.wantsStandIn u) = true := by kernel_rfl
        exact (show Tryd.prog.wantsStandIn t = false by simpa using List.all_eq_true.1 hall t hm)⟩)
    (by kernel_rfl)
#print axioms card_holds
end Go.Proofs.YthlgdfjckhjiaaaDoor.fnExactSplitWire
namespace Go.Proofs.YthlgdfjckhjiaaaDoor
/-- The row, under a short name, for the claim. -/
theorem fnExactSplitWire_holds : Rows.FnExactSplitWireCardSaid := fnExactSplitWire.card_holds
end Go.Proofs.YthlgdfjckhjiaaaDoor
