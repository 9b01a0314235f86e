/- Proved here: what is read of data at a type (strings, whole numbers, slices, structs) is of the printed walk's kinds; conditions: those in each statement. -/
import Derived.Test.YtdimppdlfgnhgaaGreatDoorVFnExactPartAtWords
import Derived.WalkKit
import Derived.ProofKit
import Derived.OpenShut
import Derived.ShutString
import Derived.Below
import Derived.ChangeOld
import Derived.ChangeSame
import Derived.Deep.Slices
import Derived.Deep.Strs
import Derived.SizedLaws
namespace Go.Proofs.lC
open Go Go.Deep Go.ChangeShapes Go.WideShapes Go.ChangeAt Go.Proofs.YtdimppdlfgnhgaaGreatDoorW.fD
set_option linter.unusedVariables false
def Op{α:Type}(P:Program)(w:World)(d:Kd α)(t:TypeId)(G:α→Prop):Prop:=
 ∀(H:Type) (enc:TypeId×Value→H) (fuel:Nat) (cs:List Value) (x:DataW H×List MemPlace),DataW.trod enc P w 0 (fun _=>true) true fuel t cs=some x→∃v,d.K w v cs∧G v
variable {P:Program} {w:World}
theorem Um{t:TypeId}(ht:P.underlying t=some .string):Op P w Kd.string t (fun s=>s.size≤maxLen):=by
 intro H enc fuel cs x h;obtain⟨s,h1,h2,h3⟩:=DataW.trod_string ht h;exact⟨s,h1,h3⟩
theorem aiK{α:Type}{p:Nat→α→Prop}(n:Nat)(h:∀i,i<n→∃v,p i v):∃l:List α,l.length=n∧∀j v,l[j]? =some v→p j v:=by
 induction n with
 |zero=>exact⟨[],rfl,fun j v hj=>by simp at hj⟩
 |succ n ih=>
  obtain⟨l,hl,hp⟩:=ih (fun i hi=>h i (by omega));obtain⟨v,hv⟩:=h n (by omega);refine⟨l++[v],by simp[hl],fun j u hj=>?_⟩;by_cases hjn:j<l.length
  ·rw[List.getElem?_append_left hjn]at hj;exact hp j u hj
  ·rw[List.getElem?_append_right (by omega)]at hj;by_cases e:j-l.length=0
   ·rw[e]at hj;cases hj;rw[show j=n by omega];exact hv
   ·obtain⟨m,hm⟩:=Nat.exists_eq_succ_of_ne_zero e;rw[hm]at hj;simp at hj
theorem YB{α:Type}{d:Kd α}{t e:TypeId}{G:α→Prop}(q:Nat)(ht:P.underlying t=some (.slice e))(hc:P.cellsOf e=d.sz)(he:Op P w d e G):Op P w (Kd.slice q d) t (fun l=>l.length≤maxLen∧∀x∈l,G x):=by
 intro H enc fuel cs x h;rcases open_slice ht h with⟨rfl,_⟩|⟨a,len,cap,m,n,D,Pl,rfl,hb,hl,hm,hmm,_,hx⟩
 ·exact⟨[],⟨none,0,rfl,Nat.le_refl _,Kd.anZ d w⟩,by simp,by simp⟩
 ·have hlm:len≤m:=by rw[hmm];split<;>omega
  have each:∀i,i<len→∃v,(∃cs',w.cells? 0 (a.add (i*P.cellsOf e)) (P.cellsOf e)=some cs'∧d.K w v cs')∧G v:=fun i hi=>by
   obtain⟨cs',h1,h2⟩:=hx i (by omega);obtain⟨v,h3,h4⟩:=he H enc _ _ _ h2;exact⟨v,⟨cs',h1,h3⟩,h4⟩
  obtain⟨l,hll,hlv⟩:=aiK len each;refine⟨l,⟨some a,cap,by rw[hll],by omega,rfl,by unfold maxLen at hm;omega,fun _=>⟨a,rfl,fun j p hj=>?_⟩⟩,by omega,fun v hv=>?_⟩
  ·obtain⟨⟨cs',h1,h2⟩,_⟩:=hlv j p hj;have hs:=d.rW h2;rw[hc]at h1
   exact⟨cs',hs,h2,fun i u hi=>by
    have hlt:i<d.sz:=by have:=(List.getElem?_eq_some_iff.mp hi).1;omega
    have h3:=(World.cells?_some h1).2.2 i hlt;rw[hi]at h3;rw[←h3,Addr.add_add]⟩
  ·obtain⟨j,hj⟩:=List.mem_iff_getElem?.mp hv;exact(hlv j v hj).2
theorem arl{α β:Type}{a:Kd α}{b:Kd β}{t:TypeId}{f0 f1:Field}{G0:α→Prop}{G1:β→Prop}(ht:P.underlying t=some (.struct #[f0,f1]))(h0:Op P w a f0.type G0)(h1:Op P w b f1.type G1)
  (o0:f0.offset=0) (c0:P.cellsOf f0.type=a.sz) (o1:f1.offset=a.sz) (c1:P.cellsOf f1.type=b.sz) (ct:P.cellsOf t=a.sz+b.sz):Op P w (Kd.pair a b) t (fun x=>G0 x.1∧G1 x.2):=by
 intro H enc fuel cs x h;obtain⟨y0,y1,n,_,hl,t0,t1⟩:=trod_struct2 ht h;obtain⟨v0,k0,g0⟩:=h0 H enc _ _ _ t0;obtain⟨v1,k1,g1⟩:=h1 H enc _ _ _ t1;refine⟨(v0,v1),⟨_,_,?_,k0,k1⟩,g0,g1⟩;rw[o0,c0,o1,c1,List.drop_zero];rw[List.take_of_length_le (l:=cs.drop a.sz) (by rw[List.length_drop,hl,ct];omega)];exact(List.take_append_drop _ _).symm
theorem axr{α β:Type}{d:Kd α}{t:TypeId}{f:β→α}{G:α→Prop}(g:α→β)(hfg:∀x,f (g x)=x)(h:Op P w d t G):Op P w (Kd.iso d f) t (fun x=>G (f x)):=by
 intro H enc fuel cs x h1;obtain⟨v,k0,g0⟩:=h H enc _ _ _ h1;exact⟨g v,by show d.K w (f (g v)) cs;rw[hfg];exact k0,by show G (f (g v));rw[hfg];exact g0⟩
theorem open_row{α:Type}{d:Kd α}{t e:TypeId}{G:α→Prop}{H:Type}{enc:TypeId×Value→H}{fuel:Nat}{cs:List Value}{x:DataW H×List MemPlace}(ht:P.underlying t=some (.slice e))(hc:P.cellsOf e=d.sz)(he:Op P w d e G)
  (h:DataW.trod enc P w 0 (fun _=>true) true fuel t cs=some x):∃(A:Option Addr) (c:Nat) (l:List α),cs=[.slice A l.length c]∧l.length≤c∧d.C w A l.length l∧l.length≤maxLen∧∀x∈l,G x:=by
 obtain⟨l,⟨A,c,h1,h2,h3⟩,h4,h5⟩:=YB 0 ht hc he H enc fuel cs x h;exact⟨A,c,l,h1,h2,h3,h4,h5⟩
end Go.Proofs.lC
