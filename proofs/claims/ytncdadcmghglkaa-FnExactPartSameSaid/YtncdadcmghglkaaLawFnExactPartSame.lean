/- Proved here: the row of the law FnExactPartSame: the law's walk, its pure form, and what its parameters hold; conditions: those of the row. -/
import Derived.Test.YtncdadcmghglkaaRows
import Derived.Test.YtncdadcmghglkaaHeads
import Derived.Test.YtncdadcmghglkaaPFnExactPartSamex10
import Derived.Test.YtncdadcmghglkaaPureFnExactPartSame
import Derived.Test.YtncdadcmghglkaaOps
import Derived.Test.YtncdadcmghglkaaWSized
import Derived.Test.YtncdadcmghglkaaOpsPart
import Derived.WalkKit
import Derived.ProofKit
import Derived.OpenShut
import Derived.ShutString
import Derived.ChangeOld
import Derived.Below
import Derived.SizedLaws
namespace Go.Proofs.Ytncdadcmghglkaa.fnExactPartSame
open Go.Proofs.YtncdadcmghglkaaOP
open Go.ChangeShapes Go.WideShapes Go.ChangeAt Go.RowKit Go.Proofs.YtncdadcmghglkaaW.PrintWords Go.Proofs.YtncdadcmghglkaaO Go.Proofs.Ytncdadcmghglkaa.PFnExactPartSame
open Go.ChangeMaps (open_string shut_string)
set_option linter.unusedVariables false
theorem own : ownKnob Try.prog.godebug = none := by kernel_rfl
theorem laidOut : laidOutB Try.prog = true := by kernel_rfl
set_option maxRecDepth 100000 in
theorem lifted (os : Os) (started : os.Started) (H : Type) (enc : TypeId × Value → H) :
    ReturnsInHanded {} Try.checked os 3 .any (Rows.fnExactPartSameSpec.pre6 enc Try.prog Try.f3 Rows.fnExactPartSameRow.domain false) (Rows.fnExactPartSameSpec.post enc Try.prog Try.f3 false true false false) := by
  refine returnsInHanded_of_change_sized (C := Try.checked) own started (by kernel_rfl) Try.func3
    (ChangeSpec.witness6 (enc := enc) (C := Try.checked) false ⟨#[], #[.agg #[.slice none 0 0, .slice none 0 0, .slice none 0 0], .agg #[.slice none 0 0, .slice none 0 0, .slice none 0 0]], []⟩ 8 (by kernel_rfl) (by kernel_rfl) (by kernel_rfl) (by kernel_rfl)) ?_
  intro W base args ds gs before hval0 hW hcnd hsz0 _
  have hval : ∀ (j : Nat) t v, Try.f3.params[j]? = some t → args[j]? = some v → Value.okWide Try.prog W .any base t v := hval0
  have hW' := hW
  obtain ⟨p, q, hA0, hV, rfl, hfz, hnd⟩ := hW
  have hA : DataW.TrodAll enc Try.prog W 0 (fun _ => true) true Try.f3.params.toList args.toList ds p := hA0
  rw [Try.params3] at hA hval
  obtain ⟨v0, vs0, d0, ds0, p0, q0, hargs, rfl, rfl, h0, r0⟩ := trodAll_cons hA
  obtain ⟨v1, vs1, d1, ds1, p1, q1, rfl, rfl, rfl, h1, r1⟩ := trodAll_cons r0
  obtain ⟨rfl, rfl, rfl⟩ := trodAll_nil r1
  obtain rfl : args = #[v0, v1] := by cases args; simp_all
  obtain ⟨rfl, rfl⟩ := trodVars_none hV
  have k0 := h0
  have lt0 : ∀ x ∈ p0, x.block < W.heap.size := by obtain ⟨m, hm⟩ := k0; exact DataW.trod_lt m _ _ _ hm
  obtain ⟨cs0, rfl, _⟩ := okWide_struct Try.underlying26 (hval 0 26 v0 rfl rfl)
  obtain ⟨x0, A0, c0, B0, d0, C0, f0, e0, Q0, g0⟩ : ∃ (x : S26) (A : Option Addr) (c : Nat) (B : Option Addr) (d : Nat) (C : Option Addr) (f : Nat), (Value.agg cs0) = .agg #[.slice A x.f0.length c, .slice B x.f1.length d, .slice C x.f2.length f] ∧ Aside0 (QC W A c x.f0 B d x.f1 C f x.f2) ∧ GoodP x := by
    obtain ⟨fuel, hf⟩ := h0
    obtain ⟨x, hk, hg⟩ := Go.Proofs.YtncdadcmghglkaaOP.op_part W fuel H enc _ _ hf
    obtain ⟨A, c, B, d, C, f, hcs, l0, g0, l1, g1, l2, g2⟩ := k26_open hk
    have hcs' : cs0 = #[.slice A x.f0.length c, .slice B x.f1.length d, .slice C x.f2.length f] := Array.toList_inj.mp (by simpa [Value.cells] using hcs)
    exact ⟨x, A, c, B, d, C, f, by rw [hcs'], ⟨g0, l0, g1, l1, g2, l2⟩, hg⟩
  cases e0
  have k1 := h1
  have lt1 : ∀ x ∈ p1, x.block < W.heap.size := by obtain ⟨m, hm⟩ := k1; exact DataW.trod_lt m _ _ _ hm
  obtain ⟨cs1, rfl, _⟩ := okWide_struct Try.underlying26 (hval 1 26 v1 rfl rfl)
  obtain ⟨x1, A1, c1, B1, d1, C1, f1, e1, Q1, g1⟩ : ∃ (x : S26) (A : Option Addr) (c : Nat) (B : Option Addr) (d : Nat) (C : Option Addr) (f : Nat), (Value.agg cs1) = .agg #[.slice A x.f0.length c, .slice B x.f1.length d, .slice C x.f2.length f] ∧ Aside0 (QC W A c x.f0 B d x.f1 C f x.f2) ∧ GoodP x := by
    obtain ⟨fuel, hf⟩ := h1
    obtain ⟨x, hk, hg⟩ := Go.Proofs.YtncdadcmghglkaaOP.op_part W fuel H enc _ _ hf
    obtain ⟨A, c, B, d, C, f, hcs, l0, g0, l1, g1, l2, g2⟩ := k26_open hk
    have hcs' : cs1 = #[.slice A x.f0.length c, .slice B x.f1.length d, .slice C x.f2.length f] := Array.toList_inj.mp (by simpa [Value.cells] using hcs)
    exact ⟨x, A, c, B, d, C, f, by rw [hcs'], ⟨g0, l0, g1, l1, g2, l2⟩, hg⟩
  cases e1
  clear hA0 hval0 hsz0
  obtain ⟨k, h⟩ := Pure.FnExactPartSame x0 x1 g0 g1
  refine (laws_FnExactPartSame.calls k _ _ _ _ _ _ x0 _ _ _ _ _ _ x1 true W Q0 Q1 h).mono fun e W' ⟨he, bel⟩ => ?_
  subst he
  exact ⟨_, rfl, _, _, _, [], _, [], hW', trodAll_mk1 (shut_bool Try.underlying4 _), (trodAll_cons_mk (Below.trod laidOut (by kernel_rfl) (of_decide_eq_true (by kernel_rfl)) k0 bel lt0) (trodAll_cons_mk (Below.trod laidOut (by kernel_rfl) (of_decide_eq_true (by kernel_rfl)) k1 bel lt1) trodAll_mk0)), rfl, bel.frame _, fun h => by cases h⟩
set_option maxRecDepth 100000 in
theorem closed : joinedFacts Try.prog 3 Try.f3 Rows.fnExactPartSameSpec Rows.fnExactPartSameRow = true := by
  unfold joinedFacts
  rw [Go.Proofs.YtncdadcmghglkaaHeads.enters, Go.Proofs.YtncdadcmghglkaaHeads.lifts, Go.Proofs.YtncdadcmghglkaaHeads.makes]
  kernel_rfl
theorem over : Rows.fnExactPartSameRow.holds Try.pinned (OpenSpec.ofChange Rows.fnExactPartSameSpec) :=
  OpenClaim.holds_of_wide 3 Try.f3 rfl rfl rfl rfl rfl rfl rfl ⟨rfl, rfl, rfl, rfl, rfl⟩ rfl rfl rfl rfl rfl (by kernel_rfl) Try.func3 closed
    (of_decide_eq_true (by kernel_rfl)) (by unfold Func.isWrapper; first | (rw [if_pos (by decide +kernel)]; kernel_rfl) | (rw [if_neg (by decide +kernel)]; exact ⟨rfl, rfl⟩))
    (fun os started H enc _ => lifted os started H enc)
theorem proved : Rows.FnExactPartSameSaid := over
#print axioms proved
end Go.Proofs.Ytncdadcmghglkaa.fnExactPartSame
namespace Go.Proofs.Ytncdadcmghglkaa
/-- The row, under a short name, for the claim. -/
theorem fnExactPartSame_holds : Rows.FnExactPartSameSaid := fnExactPartSame.proved
end Go.Proofs.Ytncdadcmghglkaa
