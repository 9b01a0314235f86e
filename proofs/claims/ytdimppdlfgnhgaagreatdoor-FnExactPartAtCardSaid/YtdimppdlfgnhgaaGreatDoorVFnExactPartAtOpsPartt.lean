/- Proved here: what is read of data at the law's own kind of a part, which holds a row of itself, is of the printed walk's kind; conditions: those in each statement. -/
import Derived.Test.YtdimppdlfgnhgaaGreatDoorVFnExactPartAtOpst
import Derived.Test.YtdimppdlfgnhgaaGreatDoorPFnExactPartAtx0
import Derived.Test.YtdimppdlfgnhgaaGreatDoorProg
namespace Go.Proofs.mg
open Go Go.Deep Go.ChangeShapes Go.WideShapes Go.ChangeAt Go.Proofs.YtdimppdlfgnhgaaGreatDoorW.fD Go.Proofs.lC Go.Proofs.YtdimppdlfgnhgaaGreatDoor.PFnExactPartAt
set_option linter.unusedVariables false
def axq{α:Type}(P:Program)(w:World)(d:Kd α)(t:TypeId)(G:α→Prop)(fuel:Nat):Prop:=
 ∀(H:Type) (enc:TypeId×Value→H) (cs:List Value) (x:DataW H×List MemPlace),DataW.trod enc P w 0 (fun _=>true) true fuel t cs=some x→∃v,d.K w v cs∧G v
variable {P:Program} {w:World}
theorem anY{α:Type}{d:Kd α}{t e:TypeId}{G:α→Prop}{fuel:Nat}(q:Nat)(ht:P.underlying t=some (.slice e))(hc:P.cellsOf e=d.sz)(he:∀n,n<fuel→axq P w d e G n):axq P w (Kd.slice q d) t (fun l=>l.length≤maxLen∧∀x∈l,G x) fuel:=by
 intro H enc cs x h;rcases DataW.trod_slice ht h with⟨rfl,_⟩|⟨a,len,cap,elems,rest,n,hf,rfl,rfl,hb,hl,hm,hlen,hel,_,_⟩
 ·exact⟨[],⟨none,0,rfl,Nat.le_refl _,Kd.anZ d w⟩,by simp,by simp⟩
 ·have each:∀i,i<len→∃v,(∃cs',w.cells? 0 (a.add (i*P.cellsOf e)) (P.cellsOf e)=some cs'∧d.K w v cs')∧G v:=fun i hi=>by
   have h0:=hel i hi;have h1:∃y,elems[i]? =some y:=⟨elems[i]'(by omega),List.getElem?_eq_getElem (by omega)⟩
   obtain⟨y,hy⟩:=h1;rw[hy]at h0;obtain⟨cs',h2,h3⟩:=Option.bind_eq_some_iff.mp h0;obtain⟨v,h4,h5⟩:=he n (by omega) H enc _ _ h3;exact⟨v,⟨cs',h2,h4⟩,h5⟩
  obtain⟨l,hll,hlv⟩:=aiK len each;refine⟨l,⟨some a,cap,by rw[hll],by omega,rfl,by unfold maxLen at hm;omega,fun _=>⟨a,rfl,fun j p hj=>?_⟩⟩,by omega,fun v hv=>?_⟩
  ·obtain⟨⟨cs',h1,h2⟩,_⟩:=hlv j p hj;have hs:=d.rW h2;rw[hc]at h1
   exact⟨cs',hs,h2,fun i u hi=>by
    have hlt:i<d.sz:=by have:=(List.getElem?_eq_some_iff.mp hi).1;omega
    have h3:=(World.cells?_some h1).2.2 i hlt;rw[hi]at h3;rw[←h3,Addr.add_add]⟩
  ·obtain⟨j,hj⟩:=List.mem_iff_getElem?.mp hv;exact(hlv j v hj).2
theorem an0{t:TypeId}{f0 f1 f2:Field}{H:Type}{enc:TypeId×Value→H}{fuel:Nat}{cs:List Value}{x:DataW H×List MemPlace}(ht:P.underlying t=some (.struct #[f0,f1,f2]))
  (o:f0.offset=0∧f1.offset=1∧f2.offset=2) (c:P.cellsOf f0.type=1∧P.cellsOf f1.type=1∧P.cellsOf f2.type=1) (ct:P.cellsOf t=3) (h:DataW.trod enc P w 0 (fun _=>true) true fuel t cs=some x):
  ∃c0 c1 c2 n y0 y1 y2,fuel=n+1∧cs=[c0,c1,c2]∧DataW.trod enc P w 0 (fun _=>true) true n f0.type [c0]=some y0∧DataW.trod enc P w 0 (fun _=>true) true n f1.type [c1]=some y1∧DataW.trod enc P w 0 (fun _=>true) true n f2.type [c2]=some y2:=by
 obtain⟨xs,n,hn,_,hl,hlen,hf⟩:=DataW.trod_struct ht h;rw[ct]at hl
 match xs,hlen with
 |[y0,y1,y2],_=>
  have t0:=hf 0 f0 rfl;have t1:=hf 1 f1 rfl;have t2:=hf 2 f2 rfl;rw[o.1,c.1]at t0;rw[o.2.1,c.2.1]at t1;rw[o.2.2,c.2.2]at t2
  match cs,hl with
  |[c0,c1,c2],_=>exact⟨c0,c1,c2,n,y0,y1,y2,hn,rfl,t0,t1,t2⟩
inductive UO:FW→Prop
 |mk (x:FW) (h0:x.f0.length≤maxLen) (g0:∀f∈x.f0,f.f0.size≤maxLen∧f.f1.size≤maxLen) (h1:x.f1.length≤maxLen) (g1:∀s∈x.f1,s.size≤maxLen) (h2:x.f2.length≤maxLen) (g2:∀y∈x.f2,UO y):UO x
theorem aqt(w:World):∀fuel,axq Tryz.prog w k26 26 UO fuel:=by
 intro fuel
 induction fuel using Nat.strongRecOn with
 |_ fuel ih=>
 intro H enc cs x h;obtain⟨c0,c1,c2,n,y0,y1,y2,rfl,rfl,t0,t1,t2⟩:=an0 Tryz.underlying26 ⟨rfl,rfl,rfl⟩ ⟨by kernel_rfl,by kernel_rfl,by kernel_rfl⟩ (by kernel_rfl) h;have of:=axr (f:=fun x:J_=>(x.f0,x.f1)) (fun x=>⟨x.1,x.2⟩) (fun x=>rfl) (arl Tryz.underlying61 (Um Tryz.underlying9) (Um Tryz.underlying9) rfl (by kernel_rfl) rfl (by kernel_rfl) (by kernel_rfl)) (w:=w);obtain⟨l0,⟨A0,k0,e0,z0,q0⟩,m0,g0⟩:=YB 61 Tryz.underlying22 (by kernel_rfl) of H enc _ _ _ t0;obtain⟨l1,⟨A1,k1,e1,z1,q1⟩,m1,g1⟩:=YB 9 Tryz.underlying23 (by kernel_rfl) (Um Tryz.underlying9) (w:=w) H enc _ _ _ t1;obtain⟨l2,⟨A2,k2,e2,z2,q2⟩,m2,g2⟩:=anY (d:=k26) (G:=UO) 26 Tryz.underlying24 (by kernel_rfl) (fun m hm=>ih m (by omega)) H enc _ _ t2;cases e0;cases e1;cases e2;exact⟨⟨l0,l1,l2⟩,aj8 w ⟨l0,l1,l2⟩ z0 q0 z1 q1 z2 q2,UO.mk _ m0 g0 m1 g1 m2 g2⟩
theorem awJ{P:Program}{w:World}{t:TypeId}{k:IntKind}(ht:P.underlying t=some (.int k)):Go.Proofs.lC.Op P w (Kd.int k) t (fun n=>(Lit.int k n).wf=true):=by
 intro H enc fuel cs x h;obtain⟨n,h1,h2,h3⟩:=DataW.trod_int ht h;exact⟨n,h1,h3⟩
end Go.Proofs.mg
