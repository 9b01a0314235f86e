/- Proved here: the row of the law FnExactJoinParts: the law's walk, its pure form, and what its parameters hold; conditions: those of the row. -/
import Derived.Test.YtengipddcaookaaRows
import Derived.Test.YtengipddcaookaaHeads
import Derived.Test.YtengipddcaookaaPFnExactJoinPartsx5
import Derived.Test.YtengipddcaookaaPureFnExactJoinParts
import Derived.Test.YtengipddcaookaaOps
import Derived.Test.YtengipddcaookaaWSized
import Derived.WalkKit
import Derived.ProofKit
import Derived.OpenShut
import Derived.ShutString
import Derived.ChangeOld
import Derived.Below
import Derived.SizedLaws
namespace Go.Proofs.Ytengipddcaookaa.fnExactJoinParts
open Go.ChangeShapes Go.WideShapes Go.ChangeAt Go.RowKit Go.Proofs.YtengipddcaookaaW.PrintWords Go.Proofs.YtengipddcaookaaO Go.Proofs.Ytengipddcaookaa.PFnExactJoinParts
open Go.ChangeMaps (open_string shut_string)
set_option linter.unusedVariables false
theorem own : ownKnob Try.prog.godebug = none := by kernel_rfl
theorem laidOut : laidOutB Try.prog = true := by kernel_rfl
set_option maxRecDepth 100000 in
theorem lifted (os : Os) (started : os.Started) (H : Type) (enc : TypeId × Value → H) :
    ReturnsInHanded {} Try.checked os 13 .any (Rows.fnExactJoinPartsSpec.pre6 enc Try.prog Try.f13 Rows.fnExactJoinPartsRow.domain false) (Rows.fnExactJoinPartsSpec.post enc Try.prog Try.f13 false true false false) := by
  refine returnsInHanded_of_change_sized (C := Try.checked) own started (by kernel_rfl) Try.func13
    (ChangeSpec.witness6 (enc := enc) (C := Try.checked) false ⟨#[], #[.slice none 0 0, .string ByteArray.empty], []⟩ 8 (by kernel_rfl) (by kernel_rfl) (by kernel_rfl) (by kernel_rfl)) ?_
  intro W base args ds gs before hval0 hW hcnd hsz0 _
  have hval : ∀ (j : Nat) t v, Try.f13.params[j]? = some t → args[j]? = some v → Value.okWide Try.prog W .any base t v := hval0
  have hW' := hW
  obtain ⟨p, q, hA0, hV, rfl, hfz, hnd⟩ := hW
  have hA : DataW.TrodAll enc Try.prog W 0 (fun _ => true) true Try.f13.params.toList args.toList ds p := hA0
  rw [Try.params13] at hA hval
  obtain ⟨v0, vs0, d0, ds0, p0, q0, hargs, rfl, rfl, h0, r0⟩ := trodAll_cons hA
  obtain ⟨v1, vs1, d1, ds1, p1, q1, rfl, rfl, rfl, h1, r1⟩ := trodAll_cons r0
  obtain ⟨rfl, rfl, rfl⟩ := trodAll_nil r1
  obtain rfl : args = #[v0, v1] := by cases args; simp_all
  obtain ⟨rfl, rfl⟩ := trodVars_none hV
  have k0 := h0
  have lt0 : ∀ x ∈ p0, x.block < W.heap.size := by obtain ⟨m, hm⟩ := k0; exact DataW.trod_lt m _ _ _ hm
  obtain ⟨b0, len0, cap0, rfl⟩ := okWide_slice Try.underlying34 (hval 0 34 v0 rfl rfl)
  obtain ⟨A0, c0, l0, e0, m0, C0, x0, g0⟩ : ∃ (A : Option Addr) (c : Nat) (l : List (List ByteArray)), (Value.slice b0 len0 cap0) = .slice A l.length c ∧ l.length ≤ c ∧ Kd.C (Kd.slice 9 Kd.string) W A l.length l ∧ l.length ≤ maxLen ∧ ∀ x ∈ l, x.length ≤ maxLen ∧ ∀ y ∈ x, y.size ≤ maxLen := by
    obtain ⟨fuel, hf⟩ := h0
    obtain ⟨A, c, l, h1, h2⟩ := open_row Try.underlying34 (by kernel_rfl) (op_slice 9 Try.underlying22 (by kernel_rfl) (op_string Try.underlying9)) hf
    simp [Value.cells] at h1
    obtain ⟨rfl, rfl, rfl⟩ := h1
    exact ⟨_, _, l, rfl, h2⟩
  cases e0
  obtain ⟨a1, rfl, rfl, rfl, y1⟩ := open_string Try.underlying9 (hval 1 9 v1 rfl rfl) h1
  clear hA0 hval0 hsz0
  obtain ⟨k, h⟩ := Pure.FnExactJoinParts l0 a1 x0 g0 y1
  refine (laws_FnExactJoinParts.calls k _ _ l0 a1 true W C0 m0 h).mono fun e W' ⟨he, bel⟩ => ?_
  subst he
  exact ⟨_, rfl, _, _, _, [], _, [], hW', trodAll_mk1 (shut_bool Try.underlying4 _), (trodAll_cons_mk (Below.trod laidOut (by kernel_rfl) (of_decide_eq_true (by kernel_rfl)) k0 bel lt0) (trodAll_cons_mk (shut_string Try.underlying9 y1) trodAll_mk0)), rfl, bel.frame _, fun h => by cases h⟩
set_option maxRecDepth 100000 in
theorem closed : joinedFacts Try.prog 13 Try.f13 Rows.fnExactJoinPartsSpec Rows.fnExactJoinPartsRow = true := by
  unfold joinedFacts
  rw [Go.Proofs.YtengipddcaookaaHeads.enters, Go.Proofs.YtengipddcaookaaHeads.lifts, Go.Proofs.YtengipddcaookaaHeads.makes]
  kernel_rfl
theorem over : Rows.fnExactJoinPartsRow.holds Try.pinned (OpenSpec.ofChange Rows.fnExactJoinPartsSpec) :=
  OpenClaim.holds_of_wide 13 Try.f13 rfl rfl rfl rfl rfl rfl rfl ⟨rfl, rfl, rfl, rfl, rfl⟩ rfl rfl rfl rfl rfl (by kernel_rfl) Try.func13 closed
    (of_decide_eq_true (by kernel_rfl)) (by unfold Func.isWrapper; first | (rw [if_pos (by decide +kernel)]; kernel_rfl) | (rw [if_neg (by decide +kernel)]; exact ⟨rfl, rfl⟩))
    (fun os started H enc _ => lifted os started H enc)
theorem proved : Rows.FnExactJoinPartsSaid := over
#print axioms proved
end Go.Proofs.Ytengipddcaookaa.fnExactJoinParts
namespace Go.Proofs.Ytengipddcaookaa
/-- The row, under a short name, for the claim. -/
theorem fnExactJoinParts_holds : Rows.FnExactJoinPartsSaid := fnExactJoinParts.proved
end Go.Proofs.Ytengipddcaookaa
