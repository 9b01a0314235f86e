/- Proved here: the row of the law FnExactParsePart: the law's walk, its pure form, and what its parameters hold; conditions: those of the row. -/
import Derived.Test.YtdimppdlfgnhgaaGreatDoorRows
import Derived.Test.YtdimppdlfgnhgaaGreatDoorCards
import Derived.Test.YtdimppdlfgnhgaaGreatDoorTie
import Derived.Test.YtdimppdlfgnhgaaGreatDoorCx
import Derived.SevenTiedAt
import Derived.Test.YtdimppdlfgnhgaaGreatDoorHeads
import Derived.Test.YtdimppdlfgnhgaaGreatDoorPFnExactParsePartx30
import Derived.Test.YtdimppdlfgnhgaaGreatDoorPureFnExactParsePart
import Derived.Test.YtdimppdlfgnhgaaGreatDoorVFnExactParsePartOpst
import Derived.WalkKit
import Derived.ProofKit
import Derived.OpenShut
import Derived.ShutString
import Derived.ChangeOld
import Derived.Below
import Derived.SizedLaws
import Derived.HandedShaped
import Derived.Test.YtdimppdlfgnhgaaGreatDoorMx
namespace Go.Proofs.YtdimppdlfgnhgaaGreatDoor.fnExactParsePart
open Go.ChangeShapes Go.WideShapes Go.ChangeAt Go.RowKit Go.Proofs.YtdimppdlfgnhgaaGreatDoorW.eP Go.Proofs.rP Go.Proofs.YtdimppdlfgnhgaaGreatDoor.PFnExactParsePart
open Go.ChangeMaps (open_string shut_string)
set_option linter.unusedVariables false
theorem own:ownKnob Tryz.prog.godebug=none:=by kernel_rfl
theorem laidOut:laidOutB Tryz.prog=true:=by kernel_rfl
set_option maxRecDepth 100000 in
theorem lifted(os:Os)(started:os.Started)(H:Type)(enc:TypeId×Value→H):
  ReturnsInHanded {} Tryz.checked os 4 .any (fun w args=>(Rows.fnExactParsePartSpec.pre enc Tryz.prog Tryz.f4 Rows.fnExactParsePartRow.domain false w args∧laidMetH Tryz.prog Rows.fnExactParsePartRow.laid w)∧sizedMet enc Tryz.prog Tryz.f4 (OpenSpec.ofChange Rows.fnExactParsePartSpec) false w args) (Rows.fnExactParsePartSpec.post enc Tryz.prog Tryz.f4 false true false false):=by
 refine Go.Proofs.YtdimppdlfgnhgaaGreatDoorC.shaped_and (C:=Tryz.checked) (X:=fun w _=>laidMetH Tryz.prog Rows.fnExactParsePartRow.laid w) (fun _ _ _ hh h=>h.of_heap hh) own started (by kernel_rfl) Tryz.func4
  (ChangeSpec.witness_shaped (enc:=enc) (C:=Tryz.checked) (os:=os) (X:=fun w _=>laidMetH Tryz.prog Rows.fnExactParsePartRow.laid w) false (World.laidAll Tryz.prog os Rows.fnExactParsePartRow.laid) #[.slice none 0 0] 8 (World.laidAll_os _ _ _)
   (World.shaped_of_ZipB (by kernel_rfl) (by kernel_rfl)) (by kernel_rfl) (by kernel_rfl) (by kernel_rfl)
   (by rw[MakeChecks.laidMetH_plain _ _ _ (by kernel_rfl)];exact laidMet_laidAll _ (by kernel_rfl) (by kernel_rfl))) ?_
 intro W base args ds gs before hval0 hW hcnd hsz0 hsh hL _;have hval:∀(j:Nat) t v,Tryz.f4.params[j]? =some t→args[j]? =some v→Value.okWide Tryz.prog W .any base t v:=hval0;have hW':=hW;obtain⟨p,q,hA0,hV,rfl,hfz,hnd⟩:=hW;have hA:DataW.TrodAll enc Tryz.prog W 0 (fun _=>true) true Tryz.f4.params.toList args.toList ds p:=hA0;rw[Tryz.params4]at hA hval;obtain⟨v0,vs0,d0,ds0,p0,q0,hargs,rfl,rfl,h0,r0⟩:=trodAll_cons hA;obtain⟨rfl,rfl,rfl⟩:=trodAll_nil r0;obtain rfl:args= #[v0]:=by cases args;simp_all
 obtain⟨rfl,rfl⟩:=trodVars_none hV;have k0:=h0;have lt0:∀x∈p0,x.block<W.heap.size:=by obtain⟨m,hm⟩:=k0;exact DataW.trod_lt m _ _ _ hm
 obtain⟨b0,len0,cap0,rfl⟩:=okWide_slice Tryz.underlying23 (hval 0 23 v0 rfl rfl)
 obtain⟨A0,c0,l0,e0,m0,C0,x0,g0⟩:∃(A:Option Addr) (c:Nat) (l:List (ByteArray)),(Value.slice b0 len0 cap0)= .slice A l.length c∧l.length≤c∧Kd.C (Kd.string) W A l.length l∧l.length≤maxLen∧∀x∈l,x.size≤maxLen:=by
  obtain⟨fuel,hf⟩:=h0;obtain⟨A,c,l,h1,h2⟩:=Go.Proofs.rP.open_row Tryz.underlying23 (by kernel_rfl) (ajd Tryz.underlying9) hf;simp[Value.cells]at h1;obtain⟨rfl,rfl,rfl⟩:=h1;exact⟨_,_,l,rfl,h2⟩
 cases e0;clear hA0 hval0 hsz0;obtain⟨k,h⟩:=Pure.FnExactParsePart l0 x0 g0;refine(sJ.calls k _ _ l0 true W C0 m0 (ay.mk (Go.Proofs.YtdimppdlfgnhgaaGreatDoor.X.MaxOk.of_shaped hsh)) h).mono fun e W' ⟨he,bel⟩=>?_
 subst he;exact⟨_,rfl,_,_,_,[],_,[],hW',trodAll_mk1 (shut_bool Tryz.underlying4 _),(trodAll_cons_mk (Below.trod laidOut (by kernel_rfl) (of_decide_eq_true (by kernel_rfl)) k0 bel lt0) trodAll_mk0),rfl,bel.frame _,fun h=>by cases h⟩
set_option maxRecDepth 100000 in
theorem closed:joinedFacts Tryz.prog 4 Tryz.f4 Rows.fnExactParsePartSpec Rows.fnExactParsePartRow=true:=by
 unfold joinedFacts;rw[Go.Proofs.YtdimppdlfgnhgaaGreatDoorHeads.enters,Go.Proofs.YtdimppdlfgnhgaaGreatDoorHeads.lifts,Go.Proofs.YtdimppdlfgnhgaaGreatDoorHeads.makes]
 kernel_rfl
theorem over:Rows.fnExactParsePartRow.holds Tryz.pinned (OpenSpec.ofChange Rows.fnExactParsePartSpec):=
 OpenClaim.holds_of_wide 4 Tryz.f4 rfl rfl rfl rfl rfl rfl rfl ⟨rfl,rfl,rfl,rfl,rfl⟩ rfl rfl rfl rfl rfl (by kernel_rfl) Tryz.func4 closed
  (of_decide_eq_true (by kernel_rfl)) (by unfold Func.isWrapper;first|(rw[if_pos (by decide+kernel)];kernel_rfl)|(rw[if_neg (by decide+kernel)];exact⟨rfl,rfl⟩))
  (fun os started H enc _=>lifted os started H enc)
end Go.Proofs.YtdimppdlfgnhgaaGreatDoor.fnExactParsePart
