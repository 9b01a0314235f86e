/- Proved here: the row of the law FnExactBoundaryOf: the law's walk, its pure form, and what its parameters hold; conditions: those of the row. -/
import Derived.Test.YtengipddcaookaaRows
import Derived.Test.YtengipddcaookaaHeads
import Derived.Test.YtengipddcaookaaPFnExactBoundaryOfx8
import Derived.Test.YtengipddcaookaaPureFnExactBoundaryOf
import Derived.Test.YtengipddcaookaaVFnExactBoundaryOfOpst
import Derived.WalkKit
import Derived.ProofKit
import Derived.OpenShut
import Derived.ShutString
import Derived.ChangeOld
import Derived.Below
import Derived.SizedLaws
namespace Go.Proofs.Ytengipddcaookaa.fnExactBoundaryOf
open Go.ChangeShapes Go.WideShapes Go.ChangeAt Go.RowKit Go.Proofs.YtengipddcaookaaW.PrintWords Go.Proofs.YtengipddcaookaaO Go.Proofs.Ytengipddcaookaa.PFnExactBoundaryOf
open Go.ChangeMaps (open_string shut_string)
set_option linter.unusedVariables false
theorem own : ownKnob Try.prog.godebug = none := by kernel_rfl
theorem laidOut : laidOutB Try.prog = true := by kernel_rfl
set_option maxRecDepth 100000 in
theorem lifted (os : Os) (started : os.Started) (H : Type) (enc : TypeId × Value → H) :
    ReturnsInHanded {} Try.checked os 18 .any (Rows.fnExactBoundaryOfSpec.pre6 enc Try.prog Try.f18 Rows.fnExactBoundaryOfRow.domain false) (Rows.fnExactBoundaryOfSpec.post enc Try.prog Try.f18 false true false false) := by
  refine returnsInHanded_of_change_sized (C := Try.checked) own started (by kernel_rfl) Try.func18
    (ChangeSpec.witness6 (enc := enc) (C := Try.checked) false ⟨#[], #[.agg #[.string ByteArray.empty, .string ByteArray.empty, .slice none 0 0]], []⟩ 8 (by kernel_rfl) (by kernel_rfl) (by kernel_rfl) (by kernel_rfl)) ?_
  intro W base args ds gs before hval0 hW hcnd hsz0 _
  have hval : ∀ (j : Nat) t v, Try.f18.params[j]? = some t → args[j]? = some v → Value.okWide Try.prog W .any base t v := hval0
  have hW' := hW
  obtain ⟨p, q, hA0, hV, rfl, hfz, hnd⟩ := hW
  have hA : DataW.TrodAll enc Try.prog W 0 (fun _ => true) true Try.f18.params.toList args.toList ds p := hA0
  rw [Try.params18] at hA hval
  obtain ⟨v0, vs0, d0, ds0, p0, q0, hargs, rfl, rfl, h0, r0⟩ := trodAll_cons hA
  obtain ⟨rfl, rfl, rfl⟩ := trodAll_nil r0
  obtain rfl : args = #[v0] := by cases args; simp_all
  obtain ⟨rfl, rfl⟩ := trodVars_none hV
  have k0 := h0
  have lt0 : ∀ x ∈ p0, x.block < W.heap.size := by obtain ⟨m, hm⟩ := k0; exact DataW.trod_lt m _ _ _ hm
  obtain ⟨cs0, rfl, _⟩ := okWide_struct Try.underlying39 (hval 0 39 v0 rfl rfl)
  obtain ⟨s0, u0, A0, c0, l0, e0, m0, C0, gs0, gu0, x0, g0⟩ : ∃ (s u : ByteArray) (A : Option Addr) (c : Nat) (l : List (S91)), (Value.agg cs0) = .agg #[.string s, .string u, .slice A l.length c] ∧ l.length ≤ c ∧ Kd.C (k91) W A l.length l ∧ s.size ≤ maxLen ∧ u.size ≤ maxLen ∧ l.length ≤ maxLen ∧ ∀ x ∈ l, x.f0.size ≤ maxLen ∧ x.f1.size ≤ maxLen := by
    obtain ⟨fuel, hf⟩ := h0
    obtain ⟨c0, c1, c2, n, y0, y1, y2, h1, t0, t1, t2⟩ := open_three Try.underlying39 ⟨rfl, rfl, rfl⟩ ⟨by kernel_rfl, by kernel_rfl, by kernel_rfl⟩ (by kernel_rfl) hf
    obtain ⟨s, es, gs⟩ := op_string Try.underlying9 _ _ _ _ _ t0
    obtain ⟨u, eu, gu⟩ := op_string Try.underlying9 _ _ _ _ _ t1
    obtain ⟨A, c, l, el, h2⟩ := open_row Try.underlying37 (by kernel_rfl) (op_iso (f := fun x : S91 => (x.f0, x.f1)) (fun x => ⟨x.1, x.2⟩) (fun x => rfl) (op_pair Try.underlying91 (op_string Try.underlying9) (op_string Try.underlying9) rfl (by kernel_rfl) rfl (by kernel_rfl) (by kernel_rfl))) t2
    have es2 : [c0] = [Value.string s] := es
    have eu2 : [c1] = [Value.string u] := eu
    cases es2; cases eu2; cases el
    have hcs : cs0 = #[.string s, .string u, .slice A l.length c] := Array.toList_inj.mp (by simpa [Value.cells] using h1)
    exact ⟨s, u, A, c, l, by rw [hcs], h2.1, h2.2.1, gs, gu, h2.2.2.1, h2.2.2.2⟩
  cases e0
  clear hA0 hval0 hsz0
  obtain ⟨k, h⟩ := Pure.FnExactBoundaryOf s0 u0 l0 gs0 gu0 x0 g0
  refine (laws_FnExactBoundaryOf.calls k s0 u0 _ _ l0 true W C0 m0 h).mono fun e W' ⟨he, bel⟩ => ?_
  subst he
  exact ⟨_, rfl, _, _, _, [], _, [], hW', trodAll_mk1 (shut_bool Try.underlying4 _), (trodAll_cons_mk (Below.trod laidOut (by kernel_rfl) (of_decide_eq_true (by kernel_rfl)) k0 bel lt0) trodAll_mk0), rfl, bel.frame _, fun h => by cases h⟩
set_option maxRecDepth 100000 in
theorem closed : joinedFacts Try.prog 18 Try.f18 Rows.fnExactBoundaryOfSpec Rows.fnExactBoundaryOfRow = true := by
  unfold joinedFacts
  rw [Go.Proofs.YtengipddcaookaaHeads.enters, Go.Proofs.YtengipddcaookaaHeads.lifts, Go.Proofs.YtengipddcaookaaHeads.makes]
  kernel_rfl
theorem over : Rows.fnExactBoundaryOfRow.holds Try.pinned (OpenSpec.ofChange Rows.fnExactBoundaryOfSpec) :=
  OpenClaim.holds_of_wide 18 Try.f18 rfl rfl rfl rfl rfl rfl rfl ⟨rfl, rfl, rfl, rfl, rfl⟩ rfl rfl rfl rfl rfl (by kernel_rfl) Try.func18 closed
    (of_decide_eq_true (by kernel_rfl)) (by unfold Func.isWrapper; first | (rw [if_pos (by decide +kernel)]; kernel_rfl) | (rw [if_neg (by decide +kernel)]; exact ⟨rfl, rfl⟩))
    (fun os started H enc _ => lifted os started H enc)
theorem proved : Rows.FnExactBoundaryOfSaid := over
#print axioms proved
end Go.Proofs.Ytengipddcaookaa.fnExactBoundaryOf
namespace Go.Proofs.Ytengipddcaookaa
/-- The row, under a short name, for the claim. -/
theorem fnExactBoundaryOf_holds : Rows.FnExactBoundaryOfSaid := fnExactBoundaryOf.proved
end Go.Proofs.Ytengipddcaookaa
