-- PRINTED BY print.sh 35421559b90ae4d0a3588c463048766b98c2df88dd9212a6774a882060cdf62d: not written by this session
import Derived.Test.YtncdadcmghglkaaGreatDoorVFnExactFormatPartWords
import Derived.Test.YtncdadcmghglkaaGreatDoorVFnExactFormatPartLast
namespace Go.Proofs.YtncdadcmghglkaaGreatDoorW.dB
open Go.RowKit
namespace Kd
def tag{α:Type}(f:Nat→Nat)(d:Kd α):Kd (α×Nat) where
 sz:=d.sz
 E:=d.E
 K:=fun w x cs=>d.K w x.1 cs
 M:=fun w base ok x cs=>d.M w base (fun k=>ok k∧f k=x.2) x.1 cs
 qZ:=fun h=>d.qZ h
 rM:=fun h=>d.rM h
 oG:=fun hb h=>d.oG hb h
 mg:=fun h=>d.mg h
 jV:=fun hok h=>d.jV (fun k hk=>⟨hok k hk.1,hk.2⟩) h
 lQ:=fun h=>d.jV (fun _ hk=>⟨⟨hk.1.1,hk.2⟩,hk.1.2⟩) (d.lQ h)
 nX:=fun hm h=>d.nX (fun k hk=>hm k hk.1) h
 oH:=fun hb h=>d.oH hb h
def bare{α:Type}(d:Kd α):Kd α where
 sz:=d.sz
 E:=d.E
 K:=d.K
 M:=fun w base _ x cs=>d.M w base (fun _=>False) x cs
 qZ:=fun h=>d.qZ h
 rM:=fun h=>d.rM h
 oG:=fun hb h=>d.oG hb h
 mg:=fun h=>d.mg h
 jV:=fun _ h=>h
 lQ:=fun h=>h
 nX:=fun _ h=>d.nX (fun _ hk=>hk.elim) h
 oH:=fun hb h=>d.oH hb h
def raw(sz:Nat):Kd (List Value) where
 sz:=sz
 E:=[]
 K:=fun _ x cs=>cs=x∧cs.length=sz∧∀u∈cs,u.oneCell'=true
 M:=fun _ _ _ x cs=>cs=x∧cs.length=sz∧∀u∈cs,u.oneCell'=true
 qZ:=fun h=>h.2.1
 rM:=fun h=>h.2.2
 oG:=fun _ h=>h
 mg:=fun h=>h
 jV:=fun _ h=>h
 lQ:=fun h=>h
 nX:=fun _ h=>h
 oH:=fun _ h=>h
def S{α:Type}(d:Kd α)(e:Nat)(w:World)(base:Nat)(ok:Nat→Prop)(v:Value)(xs:List α):Prop:=∃f,(tag f d).R e w base ok v xs.zipIdx
section
variable {α β:Type} {d:Kd α} {d':Kd β} {e e':Nat} {w w1 W:World} {base b:Nat} {ok ok' okv oku:Nat→Prop} {u v:Value} {xs:List α} {ys:List β}
theorem ani{xs:List α}{j:Nat}{p:α}(h:xs[j]? =some p):xs.zipIdx[j]? =some (p,j):=by rw[List.getElem?_zipIdx,h,Nat.zero_add];rfl
theorem S_R(h:S d e w base ok v xs):d.R e w base ok v xs:=by
 obtain⟨f,h0,inner,ho,hr⟩:=h;rw[List.length_zipIdx]at ho;exact⟨h0,inner,ho,by have:=hr.1;rw[List.length_zipIdx]at this;exact this,fun j p hj=>d.jV (fun _ hk=>hk.1) (hr.2 j (p,j) (ani hj))⟩
theorem Zp(hE:d.E=[])(h:d.R e w base ok v xs):d.R e w base (fun k=>some k=v.ownBlock) v xs:=by
 obtain⟨h0,inner,ho,hr⟩:=h;refine⟨fun k hk=>hk.symm,inner,ho,hr.Dh (fun p c hp=>d.jV (fun k hk=>?_) (d.lQ hp))⟩;obtain⟨_,_,_,q,hq,_⟩:=hk;rw[hE]at hq;cases hq
theorem arE(d:Kd α)(e:Nat)(w:World)(base:Nat)(ok:Nat→Prop):S d e w base ok (.slice none 0 0) []:=⟨fun _=>0,Pv _ _ _ _ _⟩
theorem Dt(h:S d e w base ok v xs)(hok:∀k,ok k→ok' k):S d e w base ok' v xs:=by
 obtain⟨f,h⟩:=h;exact⟨f,dM h hok⟩
theorem aiE(h:S d e w base ok v xs):S d e w base (fun k=>ok k∧base≤k∧k<w.heap.size∧∃q,q∈e:: d.E∧∃cells,w.heap[k]? =some (.cells cells q (0,0))) v xs:=by
 obtain⟨f,h⟩:=h;exact⟨f,oD h⟩
theorem anj(h:S d e w base ok v xs)(hm:∀k,ok k→w1.heap[k]? =w.heap[k]?):S d e w1 base ok v xs:=by
 obtain⟨f,h⟩:=h;exact⟨f,MB h hm⟩
theorem Zg{base':Nat}(h:S d e w base ok v xs)(hb:base'≤base):S d e w base' ok v xs:=by
 obtain⟨f,h⟩:=h;exact⟨f,fA h hb⟩
theorem afw(h:S d e w base ok v xs)(hm:∀k,ok k→k<w.heap.size→w1.heap[k]? =w.heap[k]?):S d e w1 base ok v xs:=
 Dt (anj (aiE h) (fun k hk=>hm k hk.1 hk.2.2.1)) (fun _ hk=>hk.1)
theorem I4(h:S d e w base ok v xs)(hb:Below w.heap.size w w1):S d e w1 base ok v xs:=afw h (fun k _ hk=>hb.block k hk)
theorem o7(h:S d e w base ok v xs)(o:Obj):S d e (w.alloc o) base ok v xs:=I4 h (mF (Below.refl _ _) o)
theorem sF(h:S d e w base ok v xs):S d e w.drew base ok v xs:=I4 h (Em (Below.refl _ _))
theorem o8(h:S d e w base ok v xs)(m:Nat):S d e (w.drewN m) base ok v xs:=I4 h (kW (Below.refl _ _) m)
theorem Q_(h:S d e w base ok v xs){p:Addr}(hok:∀k,ok k→k≠p.block)(u:Value):S d e (w.setCell p u) base ok v xs:=afw h (fun k ho _=>Below.heap_setCell w p u k (hok k ho))
theorem Zo(h:S d e w base ok v xs){g t:Nat}{cells:Array Value}(hb:w.heap[g]? =some (.cells cells t (0,0)))(ht:∀q,q∈e:: d.E→q≠t):S d e w base (fun k=>ok k∧k≠g) v xs:=by
 obtain⟨f,h⟩:=h;exact⟨f,jr h hb ht⟩
theorem Gi(h:S d e w base ok v xs):∀k,v.ownBlock=some k→∃cells,w.heap[k]? =some (.cells cells e (0,0)):=Jj (S_R h)
theorem EZ(h:S d e W base ok u xs)(hbase:∀k,v.ownBlock=some k→W.heap.size≤k)(hb:Below W.heap.size W w1):S d e w1 base (fun k=>ok k∧some k≠v.ownBlock) u xs:=by
 obtain⟨f,h⟩:=h;exact⟨f,oN h hbase hb⟩
theorem acP(h:S d e w1 W.heap.size ok v xs)(hlt:∀k,u.ownBlock=some k→k<W.heap.size):S d e w1 W.heap.size (fun k=>ok k∧some k≠u.ownBlock) v xs:=by
 obtain⟨f,h⟩:=h;exact⟨f,rE h hlt⟩
theorem Zt{v1:Value}(h:S d e W base (fun k=>ok k∧some k≠v.ownBlock) u xs)(hg:W.grownBy w1 v.ownBlock)(hat:v1.ownBlock=v.ownBlock∨∃b,v1.ownBlock=some b∧W.heap.size≤b):S d e w1 base (fun k=>ok k∧some k≠v1.ownBlock) u xs:=by
 obtain⟨f,h⟩:=h;exact⟨f,I7 h hg hat⟩
theorem ank(h:(bare d).R e w base ok v xs):S d e w base ok v xs:=by
 obtain⟨h0,inner,ho,hr⟩:=h;refine⟨fun _=>0,h0,inner,by rw[List.length_zipIdx];exact ho,by rw[List.length_zipIdx];exact hr.1,fun j p hj=>?_⟩;rw[List.getElem?_zipIdx,Nat.zero_add]at hj;obtain⟨x,hx,rfl⟩:=Option.map_eq_some_iff.1 hj;exact d.jV (fun _ hk=>hk.elim) (hr.2 j x hx)
theorem arF{f f':Nat→Nat}{zs:List (α×Nat)}(h:(tag f d).R e w base ok v zs)(hf:∀k,ok k→k<w.heap.size→f' k=f k):(tag f' d).R e w base ok v zs:=by
 obtain⟨h0,inner,ho,hr⟩:=oD h;exact⟨fun k hk=>(h0 k hk).1,inner,ho,hr.1,fun j p hj=>d.jV (fun k hk=>⟨⟨hk.1.1.1,hk.1.2⟩,(hf k hk.1.1.1 hk.1.1.2.2.1).trans hk.2⟩) (hr.2 j p hj)⟩
end
section
variable {α β:Type} {d:Kd α} {d':Kd β} {e e' g:Nat} {w w1 W:World} {base b:Nat} {ok ok' okv oku:Nat→Prop} {u v:Value} {xs:List α} {ys:List β}
theorem akY(h:S d e w base ok v xs){t:Nat}{cells:Array Value}(hb:w.heap[g]? =some (.cells cells t (0,0)))(ht:e≠t):some g≠v.ownBlock:=AP (S_R h) hb ht
theorem Zr(h:S d e w base ok v xs):∃A c,v= .slice A xs.length c:=eU (S_R h)
theorem I5{A:Option Addr}{n c:Nat}(h:S d e w base ok (.slice A n c) xs):n=xs.length∧n≤c∧d.C w A xs.length xs:=dK (S_R h)
theorem afx(xs:List α)(p:α):(xs++[p]).zipIdx=xs.zipIdx++[(p,xs.length)]:=by rw[List.zipIdx_append];simp
end
section
open Classical in
theorem arG{α:Type}{d:Kd α}{e base:Nat}{okv:Nat→Prop}{w:World}{v:Value}{xs:List α}(h:S d e w base okv v xs)(m:Nat)(pz:Nat→Prop)(hap:∀k,pz k→¬okv k):∃f,(∀k,pz k→f k=m)∧(tag f d).R e w base okv v xs.zipIdx:=by
 obtain⟨f,h⟩:=h;exact⟨fun k=>if pz k then m else f k,fun k hk=>if_pos hk,arF h (fun k hk _=>if_neg (fun h2=>hap k h2 hk))⟩
variable {P:Program} {ops:Array Oper} {rest:List Oper} {o:Oper} {a:Act} {Q:Exit→Act→World→Prop} {Kc:Act→World→Prop} {α:Type}
theorem Vt(d:Kd α){w0 W:World}(base:Nat)(hgd:o.guard=none)(s x:Operand)(t e:TypeId)(z:Value)(bytes:Nat)
  (ho:o.op= .call {callee:= .builtin .append,args:=#[s,x],argTypes:=#[t,t]})
  (ht:P.underlying t=some (.slice e)) (hinfo:(P.info? e).map (fun i=>(i.zero,i.size,i.bytes))=some (some z,d.sz,bytes)) (hz:z.cells.size=d.sz) (hs0:0<d.sz) (hb0:0<bytes)
  (v:Value) (xs:List α) (p:α) (cs:List Value) (ok pz:Nat→Prop) (hs:a.eval s=v) (hx:a.eval x= .slice (some ⟨W.heap.size,0,none⟩) 1 1) (hp:d.M W base pz p cs) (Ir:∀k,pz k→ok k∧some k≠v.ownBlock) (hfresh:∀k,W.heap.size≤k→ok k)
  (HO:S d e W base (fun k=>ok k∧¬pz k) v xs) (HB:Below base w0 W) (hbase:base≤W.heap.size) (hl:(xs.length+1)*bytes≤140737488355328)
  (h:∀v1 w1,S d e w1 base ok v1 (xs++[p])→Below base w0 w1→W.grownBy w1 v.ownBlock→(v1.ownBlock=v.ownBlock∨∃b,v1.ownBlock=some b∧W.heap.size≤b)→wpList P ops Q rest (a.put o.dst v1) w1):
  wpList P ops Q (o:: rest) a (W.alloc (.cells cs.toArray e)):=by
 obtain⟨f,hf,hR⟩:=arG HO xs.length pz (fun _ hk h2=>h2.2 hk);refine iR (tag f d) base hgd s x t e z bytes ho ht hinfo hz hs0 hb0 v xs.zipIdx (p,xs.length) cs ok pz hs hx (d.jV (fun k hk=>⟨hk,hf k hk⟩) hp) Ir hfresh (dM hR (fun _ hk=>hk.1)) HB hbase (by rw[List.length_zipIdx];exact hl) ?_;intro v1 w1 hr;rw[←afx]at hr;exact h v1 w1 ⟨f,hr⟩
theorem ai2(d:Kd α){w0 W:World}(base e:Nat)(hgd:o.guard=none){N:Tmp}(_hd:o.dst=some N){xs:List α}{inner:List Value}{ok pz:Nat→Prop}
  (hrun:(execOp a.eval o).run P W= .ok (.value (.slice (some ⟨W.heap.size,0,none⟩) xs.length xs.length)) (W.alloc (.cells inner.toArray e)))
  (hrep:iF (d.M W base (fun _=>False)) d.sz xs inner) (_hok:∀k,pz k→ok k) (hfresh:ok W.heap.size) (HB:Below base w0 W) (hbase:base≤W.heap.size) (hm:xs.length≤9223372036854775807)
  (h:∀v1 w1,S d e w1 base ok v1 xs→Below base w0 w1→W.grownBy w1 none→(∃b,v1.ownBlock=some b∧W.heap.size≤b)→wpList P ops Q rest (a.put o.dst v1) w1):wpList P ops Q (o:: rest) a W:=
 qg (bare d) base e hgd _hd (ok:=ok) (pz:=ok) hrun hrep (fun _ hk=>hk) hfresh HB hbase hm (fun v1 w1 hr=>h v1 w1 (ank hr))
end
def gap{α:Type}(f:Nat→Nat)(d:Kd α)(i:Nat)(c:List Value):Kd (α×Nat) where
 sz:=d.sz
 E:=d.E
 K:=fun w x cs=>(x.2=i→cs=c∧cs.length=d.sz∧∀u∈cs,u.oneCell'=true)∧(x.2≠i→d.K w x.1 cs)
 M:=fun w base ok x cs=>(x.2=i→cs=c∧cs.length=d.sz∧∀u∈cs,u.oneCell'=true)∧(x.2≠i→d.M w base (fun k=>ok k∧f k=x.2) x.1 cs)
 qZ:=fun {w x cs} h=>by
  by_cases hx:x.2=i
  ·exact(h.1 hx).2.1
  ·exact d.qZ (h.2 hx)
 rM:=fun {w x cs} h=>by
  by_cases hx:x.2=i
  ·exact(h.1 hx).2.2
  ·exact d.rM (h.2 hx)
 oG:=fun hb h=>⟨h.1,fun hx=>d.oG hb (h.2 hx)⟩
 mg:=fun h=>⟨h.1,fun hx=>d.mg (h.2 hx)⟩
 jV:=fun hok h=>⟨h.1,fun hx=>d.jV (fun k hk=>⟨hok k hk.1,hk.2⟩) (h.2 hx)⟩
 lQ:=fun h=>⟨h.1,fun hx=>d.jV (fun _ hk=>⟨⟨hk.1.1,hk.2⟩,hk.1.2⟩) (d.lQ (h.2 hx))⟩
 nX:=fun hm h=>⟨h.1,fun hx=>d.nX (fun k hk=>hm k hk.1) (h.2 hx)⟩
 oH:=fun hb h=>⟨h.1,fun hx=>d.oH hb (h.2 hx)⟩
def H{α:Type}(d:Kd α)(e:Nat)(w:World)(base:Nat)(ok:Nat→Prop)(v:Value)(xs:List α)(i:Int)(oki:Nat→Prop)(c:List Value):Prop:=
 (∀k,oki k→ok k)∧∃f,(gap f d i.toNat c).R e w base (fun k=>ok k∧¬oki k) v xs.zipIdx
section
variable {α β:Type} {d:Kd α} {e e' g n cap:Nat} {w w1 W:World} {base:Nat} {ok ok' oki pz:Nat→Prop} {u v:Value} {xs:List α} {i:Int} {c:List Value}
open Classical in
end
section
variable {P:Program} {ops:Array Oper} {rest:List Oper} {o:Oper} {a:Act} {Q:Exit→Act→World→Prop} {α:Type}
end
end Kd
end Go.Proofs.YtncdadcmghglkaaGreatDoorW.dB
