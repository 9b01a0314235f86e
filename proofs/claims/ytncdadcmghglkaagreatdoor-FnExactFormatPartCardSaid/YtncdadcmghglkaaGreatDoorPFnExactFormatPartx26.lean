/- Proved here: the row of the law FnExactFormatPart: the law's walk, its pure form, and what its parameters hold; conditions: those of the row. -/
import Derived.Test.YtncdadcmghglkaaGreatDoorRows
import Derived.Test.YtncdadcmghglkaaGreatDoorCards
import Derived.Test.YtncdadcmghglkaaGreatDoorTie
import Derived.Test.YtncdadcmghglkaaGreatDoorCx
import Derived.SevenTiedAt
import Derived.Test.YtncdadcmghglkaaGreatDoorHeads
import Derived.Test.YtncdadcmghglkaaGreatDoorPFnExactFormatPartx25
import Derived.Test.YtncdadcmghglkaaGreatDoorPureFnExactFormatPart
import Derived.Test.YtncdadcmghglkaaGreatDoorVFnExactFormatPartOpst
import Derived.Test.YtncdadcmghglkaaGreatDoorVFnExactFormatPartOpsPartt
import Derived.WalkKit
import Derived.ProofKit
import Derived.OpenShut
import Derived.ShutString
import Derived.ChangeOld
import Derived.Below
import Derived.SizedLaws
import Derived.HandedShaped
import Derived.Test.YtncdadcmghglkaaGreatDoorMx
namespace Go.Proofs.YtncdadcmghglkaaGreatDoor.fnExactFormatPart
open Go.Proofs.jW
open Go.ChangeShapes Go.WideShapes Go.ChangeAt Go.RowKit Go.Proofs.YtncdadcmghglkaaGreatDoorW.dB Go.Proofs.lT Go.Proofs.YtncdadcmghglkaaGreatDoor.PFnExactFormatPart
open Go.ChangeMaps (open_string shut_string)
set_option linter.unusedVariables false
theorem own:ownKnob Tryz.prog.godebug=none:=by kernel_rfl
theorem laidOut:laidOutB Tryz.prog=true:=by kernel_rfl
set_option maxRecDepth 100000 in
theorem lifted(os:Os)(started:os.Started)(H:Type)(enc:TypeId×Value→H):
  ReturnsInHanded {} Tryz.checked os 8 .any (fun w args=>(Rows.fnExactFormatPartSpec.pre enc Tryz.prog Tryz.f8 Rows.fnExactFormatPartRow.domain false w args∧laidMetH Tryz.prog Rows.fnExactFormatPartRow.laid w)∧sizedMet enc Tryz.prog Tryz.f8 (OpenSpec.ofChange Rows.fnExactFormatPartSpec) false w args) (Rows.fnExactFormatPartSpec.post enc Tryz.prog Tryz.f8 false true false false):=by
 refine Go.Proofs.YtncdadcmghglkaaGreatDoorC.shaped_and (C:=Tryz.checked) (X:=fun w _=>laidMetH Tryz.prog Rows.fnExactFormatPartRow.laid w) (fun _ _ _ hh h=>h.of_heap hh) own started (by kernel_rfl) Tryz.func8
  (ChangeSpec.witness_shaped (enc:=enc) (C:=Tryz.checked) (os:=os) (X:=fun w _=>laidMetH Tryz.prog Rows.fnExactFormatPartRow.laid w) false (World.laidAll Tryz.prog os Rows.fnExactFormatPartRow.laid) #[.agg #[.slice none 0 0, .slice none 0 0, .slice none 0 0]] 8 (World.laidAll_os _ _ _)
   (World.shaped_of_ZipB (by kernel_rfl) (by kernel_rfl)) (by kernel_rfl) (by kernel_rfl) (by kernel_rfl)
   (by rw[MakeChecks.laidMetH_plain _ _ _ (by kernel_rfl)];exact laidMet_laidAll _ (by kernel_rfl) (by kernel_rfl))) ?_
 intro W base args ds gs before hval0 hW hcnd hsz0 hsh hL _;have hval:∀(j:Nat) t v,Tryz.f8.params[j]? =some t→args[j]? =some v→Value.okWide Tryz.prog W .any base t v:=hval0;have hW':=hW;obtain⟨p,q,hA0,hV,rfl,hfz,hnd⟩:=hW;have hA:DataW.TrodAll enc Tryz.prog W 0 (fun _=>true) true Tryz.f8.params.toList args.toList ds p:=hA0;rw[Tryz.params8]at hA hval;obtain⟨v0,vs0,d0,ds0,p0,q0,hargs,rfl,rfl,h0,r0⟩:=trodAll_cons hA;obtain⟨rfl,rfl,rfl⟩:=trodAll_nil r0;obtain rfl:args= #[v0]:=by cases args;simp_all
 obtain⟨rfl,rfl⟩:=trodVars_none hV;have k0:=h0;have lt0:∀x∈p0,x.block<W.heap.size:=by obtain⟨m,hm⟩:=k0;exact DataW.trod_lt m _ _ _ hm
 obtain⟨cs0,rfl,_⟩:=okWide_struct Tryz.underlying44 (hval 0 44 v0 rfl rfl)
 obtain⟨x0,A0,c0,B0,d0,C0,f0,e0,Q0,g0⟩:∃(x:Di) (A:Option Addr) (c:Nat) (B:Option Addr) (d:Nat) (C:Option Addr) (f:Nat),(Value.agg cs0)= .agg #[.slice A x.f0.length c, .slice B x.f1.length d, .slice C x.f2.length f]∧ah (QC W A c x.f0 B d x.f1 C f x.f2)∧JU x:=by
  obtain⟨fuel,hf⟩:=h0;obtain⟨x,hk,hg⟩:=Go.Proofs.jW.ah4 W fuel H enc _ _ hf;obtain⟨A,c,B,d,C,f,hcs,l0,g0,l1,g1,l2,g2⟩:=Vm hk;have hcs':cs0= #[.slice A x.f0.length c, .slice B x.f1.length d, .slice C x.f2.length f]:=Array.toList_inj.mp (by simpa [Value.cells] using hcs);exact⟨x,A,c,B,d,C,f,by rw[hcs'],⟨g0,l0,g1,l1,g2,l2⟩,hg⟩
 cases e0;clear hA0 hval0 hsz0;obtain⟨k,h⟩:=Pure.FnExactFormatPart x0 g0;refine(l7.calls k _ _ _ _ _ _ x0 true W Q0 (ah.mk (Go.Proofs.YtncdadcmghglkaaGreatDoor.X.MaxOk.of_shaped hsh)) h).mono fun e W' ⟨he,bel⟩=>?_
 subst he;exact⟨_,rfl,_,_,_,[],_,[],hW',trodAll_mk1 (shut_bool Tryz.underlying4 _),(trodAll_cons_mk (Below.trod laidOut (by kernel_rfl) (of_decide_eq_true (by kernel_rfl)) k0 bel lt0) trodAll_mk0),rfl,bel.frame _,fun h=>by cases h⟩
set_option maxRecDepth 100000 in
theorem closed:joinedFacts Tryz.prog 8 Tryz.f8 Rows.fnExactFormatPartSpec Rows.fnExactFormatPartRow=true:=by
 unfold joinedFacts;rw[Go.Proofs.YtncdadcmghglkaaGreatDoorHeads.enters,Go.Proofs.YtncdadcmghglkaaGreatDoorHeads.lifts,Go.Proofs.YtncdadcmghglkaaGreatDoorHeads.makes]
 kernel_rfl
theorem over:Rows.fnExactFormatPartRow.holds Tryz.pinned (OpenSpec.ofChange Rows.fnExactFormatPartSpec):=
 OpenClaim.holds_of_wide 8 Tryz.f8 rfl rfl rfl rfl rfl rfl rfl ⟨rfl,rfl,rfl,rfl,rfl⟩ rfl rfl rfl rfl rfl (by kernel_rfl) Tryz.func8 closed
  (of_decide_eq_true (by kernel_rfl)) (by unfold Func.isWrapper;first|(rw[if_pos (by decide+kernel)];kernel_rfl)|(rw[if_neg (by decide+kernel)];exact⟨rfl,rfl⟩))
  (fun os started H enc _=>lifted os started H enc)
end Go.Proofs.YtncdadcmghglkaaGreatDoor.fnExactFormatPart
