/- Proved here: the row of the law FnExactPartAt: the law's walk, its pure form, and what its parameters hold; conditions: those of the row. -/
import Derived.Test.YtdimppdlfgnhgaaGreatDoorRows
import Derived.Test.YtdimppdlfgnhgaaGreatDoorCards
import Derived.Test.YtdimppdlfgnhgaaGreatDoorTie
import Derived.Test.YtdimppdlfgnhgaaGreatDoorCx
import Derived.SevenTiedAt
import Derived.Test.YtdimppdlfgnhgaaGreatDoorHeads
import Derived.Test.YtdimppdlfgnhgaaGreatDoorPFnExactPartAtx32
import Derived.Test.YtdimppdlfgnhgaaGreatDoorPureFnExactPartAt
import Derived.Test.YtdimppdlfgnhgaaGreatDoorVFnExactPartAtOpst
import Derived.Test.YtdimppdlfgnhgaaGreatDoorVFnExactPartAtOpsPartt
import Derived.WalkKit
import Derived.ProofKit
import Derived.OpenShut
import Derived.ShutString
import Derived.ChangeOld
import Derived.Below
import Derived.SizedLaws
import Derived.HandedShaped
import Derived.Test.YtdimppdlfgnhgaaGreatDoorMx
namespace Go.Proofs.YtdimppdlfgnhgaaGreatDoor.fnExactPartAt
open Go.Proofs.mg
open Go.ChangeShapes Go.WideShapes Go.ChangeAt Go.RowKit Go.Proofs.YtdimppdlfgnhgaaGreatDoorW.fD Go.Proofs.lC Go.Proofs.YtdimppdlfgnhgaaGreatDoor.PFnExactPartAt
open Go.ChangeMaps (open_string shut_string)
set_option linter.unusedVariables false
theorem own:ownKnob Tryz.prog.godebug=none:=by kernel_rfl
theorem laidOut:laidOutB Tryz.prog=true:=by kernel_rfl
set_option maxRecDepth 100000 in
theorem lifted(os:Os)(started:os.Started)(H:Type)(enc:TypeId×Value→H):
  ReturnsInHanded {} Tryz.checked os 3 .any (fun w args=>(Rows.fnExactPartAtSpec.pre enc Tryz.prog Tryz.f3 Rows.fnExactPartAtRow.domain false w args∧laidMetH Tryz.prog Rows.fnExactPartAtRow.laid w)∧sizedMet enc Tryz.prog Tryz.f3 (OpenSpec.ofChange Rows.fnExactPartAtSpec) false w args) (Rows.fnExactPartAtSpec.post enc Tryz.prog Tryz.f3 false true false false):=by
 refine Go.Proofs.YtdimppdlfgnhgaaGreatDoorC.shaped_and (C:=Tryz.checked) (X:=fun w _=>laidMetH Tryz.prog Rows.fnExactPartAtRow.laid w) (fun _ _ _ hh h=>h.of_heap hh) own started (by kernel_rfl) Tryz.func3
  (ChangeSpec.witness_shaped (enc:=enc) (C:=Tryz.checked) (os:=os) (X:=fun w _=>laidMetH Tryz.prog Rows.fnExactPartAtRow.laid w) false (World.laidAll Tryz.prog os Rows.fnExactPartAtRow.laid) #[.agg #[.slice none 0 0, .slice none 0 0, .slice none 0 0], .slice none 0 0] 8 (World.laidAll_os _ _ _)
   (World.shaped_of_ZipB (by kernel_rfl) (by kernel_rfl)) (by kernel_rfl) (by kernel_rfl) (by kernel_rfl)
   (by rw[MakeChecks.laidMetH_plain _ _ _ (by kernel_rfl)];exact laidMet_laidAll _ (by kernel_rfl) (by kernel_rfl))) ?_
 intro W base args ds gs before hval0 hW hcnd hsz0 hsh hL _;have hval:∀(j:Nat) t v,Tryz.f3.params[j]? =some t→args[j]? =some v→Value.okWide Tryz.prog W .any base t v:=hval0;have hW':=hW;obtain⟨p,q,hA0,hV,rfl,hfz,hnd⟩:=hW;have hA:DataW.TrodAll enc Tryz.prog W 0 (fun _=>true) true Tryz.f3.params.toList args.toList ds p:=hA0;rw[Tryz.params3]at hA hval;obtain⟨v0,vs0,d0,ds0,p0,q0,hargs,rfl,rfl,h0,r0⟩:=trodAll_cons hA;obtain⟨v1,vs1,d1,ds1,p1,q1,rfl,rfl,rfl,h1,r1⟩:=trodAll_cons r0;obtain⟨rfl,rfl,rfl⟩:=trodAll_nil r1;obtain rfl:args= #[v0,v1]:=by cases args;simp_all
 obtain⟨rfl,rfl⟩:=trodVars_none hV;have k0:=h0;have lt0:∀x∈p0,x.block<W.heap.size:=by obtain⟨m,hm⟩:=k0;exact DataW.trod_lt m _ _ _ hm
 obtain⟨cs0,rfl,_⟩:=okWide_struct Tryz.underlying26 (hval 0 26 v0 rfl rfl)
 obtain⟨x0,A0,c0,B0,d0,C0,f0,e0,Q0,g0⟩:∃(x:FW) (A:Option Addr) (c:Nat) (B:Option Addr) (d:Nat) (C:Option Addr) (f:Nat),(Value.agg cs0)= .agg #[.slice A x.f0.length c, .slice B x.f1.length d, .slice C x.f2.length f]∧ah (QC W A c x.f0 B d x.f1 C f x.f2)∧UO x:=by
  obtain⟨fuel,hf⟩:=h0;obtain⟨x,hk,hg⟩:=Go.Proofs.mg.aqt W fuel H enc _ _ hf;obtain⟨A,c,B,d,C,f,hcs,l0,g0,l1,g1,l2,g2⟩:=Hy hk;have hcs':cs0= #[.slice A x.f0.length c, .slice B x.f1.length d, .slice C x.f2.length f]:=Array.toList_inj.mp (by simpa [Value.cells] using hcs);exact⟨x,A,c,B,d,C,f,by rw[hcs'],⟨g0,l0,g1,l1,g2,l2⟩,hg⟩
 cases e0;have k1:=h1;have lt1:∀x∈p1,x.block<W.heap.size:=by obtain⟨m,hm⟩:=k1;exact DataW.trod_lt m _ _ _ hm
 obtain⟨b1,len1,cap1,rfl⟩:=okWide_slice Tryz.underlying27 (hval 1 27 v1 rfl rfl)
 obtain⟨A1,c1,l1,e1,m1,C1,x1,g1⟩:∃(A:Option Addr) (c:Nat) (l:List (Int)),(Value.slice b1 len1 cap1)= .slice A l.length c∧l.length≤c∧Kd.C (Kd.int .i64) W A l.length l∧l.length≤maxLen∧∀x∈l,(Lit.int .i64 x).wf=true:=by
  obtain⟨fuel,hf⟩:=h1;obtain⟨A,c,l,h1,h2⟩:=Go.Proofs.lC.open_row Tryz.underlying27 (by kernel_rfl) (awJ Tryz.underlying3) hf;simp[Value.cells]at h1;obtain⟨rfl,rfl,rfl⟩:=h1;exact⟨_,_,l,rfl,h2⟩
 cases e1;clear hA0 hval0 hsz0;obtain⟨k,h⟩:=Pure.FnExactPartAt x0 l1 g0 x1 g1;refine(uY.calls k _ _ _ _ _ _ x0 _ _ l1 true W Q0 C1 m1 (ah.mk (Go.Proofs.YtdimppdlfgnhgaaGreatDoor.X.MaxOk.of_shaped hsh)) h).mono fun e W' ⟨he,bel⟩=>?_
 subst he;exact⟨_,rfl,_,_,_,[],_,[],hW',trodAll_mk1 (shut_bool Tryz.underlying4 _),(trodAll_cons_mk (Below.trod laidOut (by kernel_rfl) (of_decide_eq_true (by kernel_rfl)) k0 bel lt0) (trodAll_cons_mk (Below.trod laidOut (by kernel_rfl) (of_decide_eq_true (by kernel_rfl)) k1 bel lt1) trodAll_mk0)),rfl,bel.frame _,fun h=>by cases h⟩
set_option maxRecDepth 100000 in
theorem closed:joinedFacts Tryz.prog 3 Tryz.f3 Rows.fnExactPartAtSpec Rows.fnExactPartAtRow=true:=by
 unfold joinedFacts;rw[Go.Proofs.YtdimppdlfgnhgaaGreatDoorHeads.enters,Go.Proofs.YtdimppdlfgnhgaaGreatDoorHeads.lifts,Go.Proofs.YtdimppdlfgnhgaaGreatDoorHeads.makes]
 kernel_rfl
theorem over:Rows.fnExactPartAtRow.holds Tryz.pinned (OpenSpec.ofChange Rows.fnExactPartAtSpec):=
 OpenClaim.holds_of_wide 3 Tryz.f3 rfl rfl rfl rfl rfl rfl rfl ⟨rfl,rfl,rfl,rfl,rfl⟩ rfl rfl rfl rfl rfl (by kernel_rfl) Tryz.func3 closed
  (of_decide_eq_true (by kernel_rfl)) (by unfold Func.isWrapper;first|(rw[if_pos (by decide+kernel)];kernel_rfl)|(rw[if_neg (by decide+kernel)];exact⟨rfl,rfl⟩))
  (fun os started H enc _=>lifted os started H enc)
end Go.Proofs.YtdimppdlfgnhgaaGreatDoor.fnExactPartAt
