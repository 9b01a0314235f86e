-- PRINTED BY print.sh 35421559b90ae4d0a3588c463048766b98c2df88dd9212a6774a882060cdf62d: not written by this session
import Derived.Test.YtdimppdlfgnhgaaGreatDoorVFnExactPartAtWords
import Derived.Test.YtdimppdlfgnhgaaGreatDoorVFnExactPartAtLast
namespace Go.Proofs.YtdimppdlfgnhgaaGreatDoorW.fD
open Go.RowKit
namespace Kd
def tag{α:Type}(f:Nat→Nat)(d:Kd α):Kd (α×Nat) where
 sz:=d.sz
 E:=d.E
 K:=fun w x cs=>d.K w x.1 cs
 M:=fun w base ok x cs=>d.M w base (fun k=>ok k∧f k=x.2) x.1 cs
 rW:=fun h=>d.rW h
 sG:=fun h=>d.sG h
 oV:=fun hb h=>d.oV hb h
 m_:=fun h=>d.m_ h
 jW:=fun hok h=>d.jW (fun k hk=>⟨hok k hk.1,hk.2⟩) h
 mP:=fun h=>d.jW (fun _ hk=>⟨⟨hk.1.1,hk.2⟩,hk.1.2⟩) (d.mP h)
 pz:=fun hm h=>d.pz (fun k hk=>hm k hk.1) h
 pJ:=fun hb h=>d.pJ hb h
def bare{α:Type}(d:Kd α):Kd α where
 sz:=d.sz
 E:=d.E
 K:=d.K
 M:=fun w base _ x cs=>d.M w base (fun _=>False) x cs
 rW:=fun h=>d.rW h
 sG:=fun h=>d.sG h
 oV:=fun hb h=>d.oV hb h
 m_:=fun h=>d.m_ h
 jW:=fun _ h=>h
 mP:=fun h=>h
 pz:=fun _ h=>d.pz (fun _ hk=>hk.elim) h
 pJ:=fun hb h=>d.pJ hb h
def raw(sz:Nat):Kd (List Value) where
 sz:=sz
 E:=[]
 K:=fun _ x cs=>cs=x∧cs.length=sz∧∀u∈cs,u.oneCell'=true
 M:=fun _ _ _ x cs=>cs=x∧cs.length=sz∧∀u∈cs,u.oneCell'=true
 rW:=fun h=>h.2.1
 sG:=fun h=>h.2.2
 oV:=fun _ h=>h
 m_:=fun h=>h
 jW:=fun _ h=>h
 mP:=fun h=>h
 pz:=fun _ h=>h
 pJ:=fun _ h=>h
def S{α:Type}(d:Kd α)(e:Nat)(w:World)(base:Nat)(ok:Nat→Prop)(v:Value)(xs:List α):Prop:=∃f,(tag f d).R e w base ok v xs.zipIdx
section
variable {α β:Type} {d:Kd α} {d':Kd β} {e e':Nat} {w w1 W:World} {base b:Nat} {ok ok' okv oku:Nat→Prop} {u v:Value} {xs:List α} {ys:List β}
theorem acy{xs:List α}{j:Nat}{p:α}(h:xs[j]? =some p):xs.zipIdx[j]? =some (p,j):=by rw[List.getElem?_zipIdx,h,Nat.zero_add];rfl
theorem S_R(h:S d e w base ok v xs):d.R e w base ok v xs:=by
 obtain⟨f,h0,inner,ho,hr⟩:=h;rw[List.length_zipIdx]at ho;exact⟨h0,inner,ho,by have:=hr.1;rw[List.length_zipIdx]at this;exact this,fun j p hj=>d.jW (fun _ hk=>hk.1) (hr.2 j (p,j) (acy hj))⟩
theorem Gf(hE:d.E=[])(h:d.R e w base ok v xs):d.R e w base (fun k=>some k=v.ownBlock) v xs:=by
 obtain⟨h0,inner,ho,hr⟩:=h;refine⟨fun k hk=>hk.symm,inner,ho,hr.Hq (fun p c hp=>d.jW (fun k hk=>?_) (d.mP hp))⟩;obtain⟨_,_,_,q,hq,_⟩:=hk;rw[hE]at hq;cases hq
theorem acU(d:Kd α)(e:Nat)(w:World)(base:Nat)(ok:Nat→Prop):S d e w base ok (.slice none 0 0) []:=⟨fun _=>0,Kw _ _ _ _ _⟩
theorem oz(h:S d e w base ok v xs)(hok:∀k,ok k→ok' k):S d e w base ok' v xs:=by
 obtain⟨f,h⟩:=h;exact⟨f,aY h hok⟩
theorem Bc(h:S d e w base ok v xs):S d e w base (fun k=>ok k∧base≤k∧k<w.heap.size∧∃q,q∈e:: d.E∧∃cells,w.heap[k]? =some (.cells cells q (0,0))) v xs:=by
 obtain⟨f,h⟩:=h;exact⟨f,lM h⟩
theorem akd(h:S d e w base ok v xs)(hm:∀k,ok k→w1.heap[k]? =w.heap[k]?):S d e w1 base ok v xs:=by
 obtain⟨f,h⟩:=h;exact⟨f,Kt h hm⟩
theorem IK{base':Nat}(h:S d e w base ok v xs)(hb:base'≤base):S d e w base' ok v xs:=by
 obtain⟨f,h⟩:=h;exact⟨f,bP h hb⟩
theorem Ol(h:S d e w base ok v xs)(hm:∀k,ok k→k<w.heap.size→w1.heap[k]? =w.heap[k]?):S d e w1 base ok v xs:=
 oz (akd (Bc h) (fun k hk=>hm k hk.1 hk.2.2.1)) (fun _ hk=>hk.1)
theorem F9(h:S d e w base ok v xs)(hb:Below w.heap.size w w1):S d e w1 base ok v xs:=Ol h (fun k _ hk=>hb.block k hk)
theorem pG(h:S d e w base ok v xs):S d e w.drew base ok v xs:=F9 h (OI (Below.refl _ _))
theorem CS(h:S d e w base ok v xs){p:Addr}(hok:∀k,ok k→k≠p.block)(u:Value):S d e (w.setCell p u) base ok v xs:=Ol h (fun k ho _=>Below.heap_setCell w p u k (hok k ho))
theorem agC(h:S d e w base ok v xs){g t:Nat}{cells:Array Value}(hb:w.heap[g]? =some (.cells cells t (0,0)))(ht:∀q,q∈e:: d.E→q≠t):S d e w base (fun k=>ok k∧k≠g) v xs:=by
 obtain⟨f,h⟩:=h;exact⟨f,eP h hb ht⟩
theorem Gi(h:S d e w base ok v xs):∀k,v.ownBlock=some k→∃cells,w.heap[k]? =some (.cells cells e (0,0)):=qA (S_R h)
theorem axM(h:S d e w base ok v xs):∀k,v.ownBlock=some k→k<w.heap.size:=ru (S_R h)
theorem aa9(h:S d e w base ok v xs):∀k,v.ownBlock=some k→base≤k:=jf (S_R h)
theorem KE(h:S d e W base ok u xs)(hbase:∀k,v.ownBlock=some k→W.heap.size≤k)(hb:Below W.heap.size W w1):S d e w1 base (fun k=>ok k∧some k≠v.ownBlock) u xs:=by
 obtain⟨f,h⟩:=h;exact⟨f,nV h hbase hb⟩
theorem WZ(h:S d e w1 W.heap.size ok v xs)(hlt:∀k,u.ownBlock=some k→k<W.heap.size):S d e w1 W.heap.size (fun k=>ok k∧some k≠u.ownBlock) v xs:=by
 obtain⟨f,h⟩:=h;exact⟨f,nI h hlt⟩
theorem agD{v1:Value}(h:S d e W base (fun k=>ok k∧some k≠v.ownBlock) u xs)(hg:W.grownBy w1 v.ownBlock)(hat:v1.ownBlock=v.ownBlock∨∃b,v1.ownBlock=some b∧W.heap.size≤b):S d e w1 base (fun k=>ok k∧some k≠v1.ownBlock) u xs:=by
 obtain⟨f,h⟩:=h;exact⟨f,P7 h hg hat⟩
theorem arv(h:S d e W base ok u xs)(hb:Below W.heap.size W w1):S d e w1 base (fun k=>ok k∧k<W.heap.size) u xs:=
 oz (F9 (Bc h) hb) (fun _ hk=>⟨hk.1,hk.2.2.1⟩)
theorem axi(h:(bare d).R e w base ok v xs):S d e w base ok v xs:=by
 obtain⟨h0,inner,ho,hr⟩:=h;refine⟨fun _=>0,h0,inner,by rw[List.length_zipIdx];exact ho,by rw[List.length_zipIdx];exact hr.1,fun j p hj=>?_⟩;rw[List.getElem?_zipIdx,Nat.zero_add]at hj;obtain⟨x,hx,rfl⟩:=Option.map_eq_some_iff.1 hj;exact d.jW (fun _ hk=>hk.elim) (hr.2 j x hx)
theorem aB2{f f':Nat→Nat}{zs:List (α×Nat)}(h:(tag f d).R e w base ok v zs)(hf:∀k,ok k→k<w.heap.size→f' k=f k):(tag f' d).R e w base ok v zs:=by
 obtain⟨h0,inner,ho,hr⟩:=lM h;exact⟨fun k hk=>(h0 k hk).1,inner,ho,hr.1,fun j p hj=>d.jW (fun k hk=>⟨⟨hk.1.1.1,hk.1.2⟩,(hf k hk.1.1.1 hk.1.1.2.2.1).trans hk.2⟩) (hr.2 j p hj)⟩
end
section
variable {α β:Type} {d:Kd α} {d':Kd β} {e e' g:Nat} {w w1 W:World} {base b:Nat} {ok ok' okv oku:Nat→Prop} {u v:Value} {xs:List α} {ys:List β}
theorem au0(h:S d e w base ok v xs){t:Nat}{cells:Array Value}(hb:w.heap[g]? =some (.cells cells t (0,0)))(ht:e≠t):some g≠v.ownBlock:=um (S_R h) hb ht
theorem aa_(h:S d e w base ok v xs)(hok:∀k,ok k→k≠g):some g≠v.ownBlock:=Ku (S_R h) hok
theorem aww(h:S d e w base ok v xs)(hp:0<xs.length):∃g cap,v= .slice (some ⟨g,0,none⟩) xs.length cap∧base≤g∧g<w.heap.size∧∃cells,w.heap[g]? =some (.cells cells e (0,0)):=ED (S_R h) hp
theorem Df(h:S d e w base ok v xs):∃A c,v= .slice A xs.length c:=bG (S_R h)
theorem aok(h:S d e w base ok v xs):∃A c,v= .slice A xs.length c∧xs.length≤c∧d.C w A xs.length xs:=LW (S_R h)
theorem zu{A:Option Addr}{n c:Nat}(h:S d e w base ok (.slice A n c) xs):n=xs.length∧n≤c∧d.C w A xs.length xs:=dB (S_R h)
theorem alo(h:S d e w base ok v xs)(a:Nat)(ha:w.heap.size≤a):S d e w base (fun k=>ok k∧k≠a) v xs:=oz (Bc h) (fun k hk=>⟨hk.1,by have:=hk.2.2.1;omega⟩)
theorem Tz{o:Obj}(h:S d e w1 w.heap.size ok v xs)(hb:w.heap[g]? =some o):S d e w1 w.heap.size (fun k=>ok k∧k≠g) v xs:=oz (Bc h) (fun k hk=>⟨hk.1,by have:=dI hb;have:=hk.2.1;omega⟩)
theorem aeA{N:Nat}(h:S d e w1 base (fun k=>ok k∧k<N) u xs)(hbase:∀k,v.ownBlock=some k→N≤k):S d e w1 base (fun k=>(ok k∧some k≠v.ownBlock)∧k<N) u xs:=
 oz h (fun k hk=>⟨⟨hk.1,fun e=>Nat.lt_irrefl _ (Nat.lt_of_lt_of_le hk.2 (hbase k e.symm))⟩,hk.2⟩)
theorem ad2(xs:List α)(p:α):(xs++[p]).zipIdx=xs.zipIdx++[(p,xs.length)]:=by rw[List.zipIdx_append];simp
end
section
open Classical in
theorem at7{α:Type}{d:Kd α}{e base:Nat}{okv:Nat→Prop}{w:World}{v:Value}{xs:List α}(h:S d e w base okv v xs)(m:Nat)(rE:Nat→Prop)(hap:∀k,rE k→¬okv k):∃f,(∀k,rE k→f k=m)∧(tag f d).R e w base okv v xs.zipIdx:=by
 obtain⟨f,h⟩:=h;exact⟨fun k=>if rE k then m else f k,fun k hk=>if_pos hk,aB2 h (fun k hk _=>if_neg (fun h2=>hap k h2 hk))⟩
variable {P:Program} {ops:Array Oper} {rest:List Oper} {o:Oper} {a:Act} {Q:Exit→Act→World→Prop} {Kc:Act→World→Prop} {α:Type}
theorem WH(d:Kd α){w0 W:World}(base:Nat)(hgd:o.guard=none)(s x:Operand)(t e:TypeId)(z:Value)(bytes:Nat)
  (ho:o.op= .call {callee:= .builtin .append,args:=#[s,x],argTypes:=#[t,t]})
  (ht:P.underlying t=some (.slice e)) (hinfo:(P.info? e).map (fun i=>(i.zero,i.size,i.bytes))=some (some z,d.sz,bytes)) (hz:z.cells.size=d.sz) (hs0:0<d.sz) (hb0:0<bytes)
  (v:Value) (xs:List α) (p:α) (cs:List Value) (ok rE:Nat→Prop) (hs:a.eval s=v) (hx:a.eval x= .slice (some ⟨W.heap.size,0,none⟩) 1 1) (hp:d.M W base rE p cs) (LP:∀k,rE k→ok k∧some k≠v.ownBlock) (hfresh:∀k,W.heap.size≤k→ok k)
  (HO:S d e W base (fun k=>ok k∧¬rE k) v xs) (HB:Below base w0 W) (hbase:base≤W.heap.size) (hl:(xs.length+1)*bytes≤140737488355328)
  (h:∀v1 w1,S d e w1 base ok v1 (xs++[p])→Below base w0 w1→W.grownBy w1 v.ownBlock→(v1.ownBlock=v.ownBlock∨∃b,v1.ownBlock=some b∧W.heap.size≤b)→wpList P ops Q rest (a.put o.dst v1) w1):
  wpList P ops Q (o:: rest) a (W.alloc (.cells cs.toArray e)):=by
 obtain⟨f,hf,hR⟩:=at7 HO xs.length rE (fun _ hk h2=>h2.2 hk);refine mD (tag f d) base hgd s x t e z bytes ho ht hinfo hz hs0 hb0 v xs.zipIdx (p,xs.length) cs ok rE hs hx (d.jW (fun k hk=>⟨hk,hf k hk⟩) hp) LP hfresh (aY hR (fun _ hk=>hk.1)) HB hbase (by rw[List.length_zipIdx];exact hl) ?_;intro v1 w1 hr;rw[←ad2]at hr;exact h v1 w1 ⟨f,hr⟩
theorem YO(d:Kd α){w0 W:World}(base:Nat)(hw:Region.wanted o (yielded ops a.tmps)=true)(s x:Operand)(t e:TypeId)(z:Value)(bytes:Nat)
  (ho:o.op= .call {callee:= .builtin .append,args:=#[s,x],argTypes:=#[t,t]})
  (ht:P.underlying t=some (.slice e)) (hinfo:(P.info? e).map (fun i=>(i.zero,i.size,i.bytes))=some (some z,d.sz,bytes)) (hz:z.cells.size=d.sz) (hs0:0<d.sz) (hb0:0<bytes)
  (v:Value) (xs:List α) (p:α) (cs:List Value) (ok rE:Nat→Prop) (hs:a.eval s=v) (hx:a.eval x= .slice (some ⟨W.heap.size,0,none⟩) 1 1) (hp:d.M W base rE p cs) (LP:∀k,rE k→ok k∧some k≠v.ownBlock) (hfresh:∀k,W.heap.size≤k→ok k)
  (HO:S d e W base (fun k=>ok k∧¬rE k) v xs) (HB:Below base w0 W) (hbase:base≤W.heap.size) (hl:(xs.length+1)*bytes≤140737488355328)
  (h:∀v1 w1,S d e w1 base ok v1 (xs++[p])→Below base w0 w1→W.grownBy w1 v.ownBlock→(v1.ownBlock=v.ownBlock∨∃b,v1.ownBlock=some b∧W.heap.size≤b)→Kc (a.put o.dst v1) w1):
  if Region.wanted o (yielded ops a.tmps)=true then Oper.wp P o a (W.alloc (.cells cs.toArray e)) Kc Q else Kc (a.put o.dst undef) (W.alloc (.cells cs.toArray e)):=by
 obtain⟨f,hf,hR⟩:=at7 HO xs.length rE (fun _ hk h2=>h2.2 hk);refine vK (tag f d) base hw s x t e z bytes ho ht hinfo hz hs0 hb0 v xs.zipIdx (p,xs.length) cs ok rE hs hx (d.jW (fun k hk=>⟨hk,hf k hk⟩) hp) LP hfresh (aY hR (fun _ hk=>hk.1)) HB hbase (by rw[List.length_zipIdx];exact hl) ?_;intro v1 w1 hr;rw[←ad2]at hr;exact h v1 w1 ⟨f,hr⟩
theorem ase(d:Kd α){w0 W:World}(base e:Nat)(hgd:o.guard=none){N:Tmp}(_hd:o.dst=some N){xs:List α}{inner:List Value}{ok rE:Nat→Prop}
  (hrun:(execOp a.eval o).run P W= .ok (.value (.slice (some ⟨W.heap.size,0,none⟩) xs.length xs.length)) (W.alloc (.cells inner.toArray e)))
  (hrep:jJ (d.M W base (fun _=>False)) d.sz xs inner) (_hok:∀k,rE k→ok k) (hfresh:ok W.heap.size) (HB:Below base w0 W) (hbase:base≤W.heap.size) (hm:xs.length≤9223372036854775807)
  (h:∀v1 w1,S d e w1 base ok v1 xs→Below base w0 w1→W.grownBy w1 none→(∃b,v1.ownBlock=some b∧W.heap.size≤b)→wpList P ops Q rest (a.put o.dst v1) w1):wpList P ops Q (o:: rest) a W:=
 Es (bare d) base e hgd _hd (ok:=ok) (rE:=ok) hrun hrep (fun _ hk=>hk) hfresh HB hbase hm (fun v1 w1 hr=>h v1 w1 (axi hr))
end
def gap{α:Type}(f:Nat→Nat)(d:Kd α)(i:Nat)(c:List Value):Kd (α×Nat) where
 sz:=d.sz
 E:=d.E
 K:=fun w x cs=>(x.2=i→cs=c∧cs.length=d.sz∧∀u∈cs,u.oneCell'=true)∧(x.2≠i→d.K w x.1 cs)
 M:=fun w base ok x cs=>(x.2=i→cs=c∧cs.length=d.sz∧∀u∈cs,u.oneCell'=true)∧(x.2≠i→d.M w base (fun k=>ok k∧f k=x.2) x.1 cs)
 rW:=fun {w x cs} h=>by
  by_cases hx:x.2=i
  ·exact(h.1 hx).2.1
  ·exact d.rW (h.2 hx)
 sG:=fun {w x cs} h=>by
  by_cases hx:x.2=i
  ·exact(h.1 hx).2.2
  ·exact d.sG (h.2 hx)
 oV:=fun hb h=>⟨h.1,fun hx=>d.oV hb (h.2 hx)⟩
 m_:=fun h=>⟨h.1,fun hx=>d.m_ (h.2 hx)⟩
 jW:=fun hok h=>⟨h.1,fun hx=>d.jW (fun k hk=>⟨hok k hk.1,hk.2⟩) (h.2 hx)⟩
 mP:=fun h=>⟨h.1,fun hx=>d.jW (fun _ hk=>⟨⟨hk.1.1,hk.2⟩,hk.1.2⟩) (d.mP (h.2 hx))⟩
 pz:=fun hm h=>⟨h.1,fun hx=>d.pz (fun k hk=>hm k hk.1) (h.2 hx)⟩
 pJ:=fun hb h=>⟨h.1,fun hx=>d.pJ hb (h.2 hx)⟩
def H{α:Type}(d:Kd α)(e:Nat)(w:World)(base:Nat)(ok:Nat→Prop)(v:Value)(xs:List α)(i:Int)(Kq:Nat→Prop)(c:List Value):Prop:=
 (∀k,Kq k→ok k)∧∃f,(gap f d i.toNat c).R e w base (fun k=>ok k∧¬Kq k) v xs.zipIdx
section
variable {α β:Type} {d:Kd α} {e e' g n cap:Nat} {w w1 W:World} {base:Nat} {ok ok' Kq rE:Nat→Prop} {u v:Value} {xs:List α} {i:Int} {c:List Value}
theorem awu(h:S d e W base ok (.slice (some ⟨g,0,none⟩) n cap) xs)(z:α)(i:Int)(h0:0≤i)(h1:i<n):
  ∃(Kq:Nat→Prop) (c:List Value),c.length=d.sz∧d.M W base Kq (xs.getD i.toNat z) c∧(∀j u,c[j]? =some u→W.cell? ⟨g,i.toNat*d.sz+j,none⟩=some u)∧(∀k,Kq k→ok k∧k≠g)∧H d e W base ok (.slice (some ⟨g,0,none⟩) n cap) xs i Kq c:=by
 obtain⟨f,hR⟩:=h;have hn:=(dB hR).1;rw[List.length_zipIdx]at hn;have hgo:some g=(Value.slice (some ⟨g,0,none⟩) n cap).ownBlock:=by simp[Value.ownBlock]
 obtain⟨hok0,inner,ho,hr⟩:=hR;have hil:i.toNat<xs.length:=by omega
 have hlen:inner.length=xs.length*d.sz:=by have:=hr.1;rw[List.length_zipIdx]at this;exact this
 have hseg:i.toNat*d.sz+d.sz≤inner.length:=by rw[hlen,←Nat.succ_mul];exact Nat.mul_le_mul_right _ hil
 have hM:=hr.2 i.toNat _ (acy (List.getElem?_eq_getElem hil));have hkg:∀k,some k≠(Value.slice (some ⟨g,0,none⟩) n cap).ownBlock→k≠g:=fun k hk he=>hk (by rw[he];exact hgo)
 refine⟨fun k=>(ok k∧k≠g)∧f k=i.toNat,(inner.drop (i.toNat*d.sz)).take d.sz,by rw[List.length_take,List.length_drop];omega,?_,fun j u hu=>?_,fun k hk=>hk.1,fun k hk=>hk.1.1,f,fun k hk=>⟨hok0 k hk,fun h2=>h2.1.2 ?_⟩,inner,ho,hr.1,fun m p hm=>?_⟩
 ·rw[List.getD_eq_getElem?_getD,List.getElem?_eq_getElem hil];exact d.jW (fun k hk=>⟨⟨hk.1.1,hkg k hk.1.2⟩,hk.2⟩) hM
 ·rw[List.getElem?_take]at hu;split at hu
  ·rw[List.getElem?_drop]at hu;have:=ho.cells (g:=g) hgo.symm _ u hu
   rwa [add_plain]at this
  ·cases hu
 ·rw[←hgo]at hk;injection hk with hk;exact hk.symm
 ·have hold:=hr.2 m p hm
  have hp2:p.2=m:=by
   rw[List.getElem?_zipIdx,Nat.zero_add]at hm;obtain⟨q,_,rfl⟩:=Option.map_eq_some_iff.1 hm;rfl
  refine⟨fun hx=>?_,fun hx=>d.jW (fun k hk=>⟨⟨⟨hk.1.1,fun h2=>hx ?_⟩,hk.1.2⟩,hk.2⟩) hold⟩
  ·have hmi:m=i.toNat:=by omega
   subst hmi;exact⟨rfl,d.rW (d.m_ hM),d.sG (d.m_ hM)⟩
  ·rw[←hk.2];exact h2.2
open Classical in
theorem awv(h:H d e w base ok v xs i Kq c){x':α}(hM:d.M w base rE x' c)(hok:∀k,rE k→Kq k):S d e w base ok v (xs.set i.toNat x'):=by
 obtain⟨ho,f,h0,inner,hown,hr⟩:=h;refine⟨fun k=>if Kq k then i.toNat else f k,fun k hk=>(h0 k hk).1,inner,by rw[List.length_zipIdx,List.length_set];rw[List.length_zipIdx]at hown;exact hown,by have:=hr.1;rw[List.length_zipIdx]at this;rw[List.length_zipIdx,List.length_set];exact this,fun m p hm=>?_⟩;rw[List.getElem?_zipIdx,Nat.zero_add]at hm;obtain⟨q,hq,rfl⟩:=Option.map_eq_some_iff.1 hm
 have hml:m<xs.length:=by
  have:=(List.getElem?_eq_some_iff.1 hq).1
  rwa [List.length_set]at this
 by_cases hmi:m=i.toNat
 ·subst hmi;rw[List.getElem?_set_self hml]at hq;injection hq with hq;subst hq;have hc:=((hr.2 i.toNat _ (acy (List.getElem?_eq_getElem hml))).1 rfl).1
  show d.M w base _ x' ((inner.drop (i.toNat*d.sz)).take d.sz)
  rw[show(inner.drop (i.toNat*d.sz)).take d.sz=c from hc];exact d.jW (fun k hk=>⟨⟨ho k (hok k hk),fun he=>(h0 k he.symm).2 (hok k hk)⟩,if_pos (hok k hk)⟩) hM
 ·rw[List.getElem?_set_ne (Ne.symm hmi)]at hq;exact d.jW (fun k hk=>⟨⟨hk.1.1.1,hk.1.2⟩,(if_neg hk.1.1.2).trans hk.2⟩) ((hr.2 m (q,m) (acy hq)).2 hmi)
theorem aft(h:H d e w base ok v xs i Kq c)(hm:∀k,ok k→¬Kq k→k<w.heap.size→w1.heap[k]? =w.heap[k]?):H d e w1 base ok v xs i Kq c:=by
 obtain⟨ho,f,h⟩:=h;exact⟨ho,f,yD h (fun k hk hlt=>hm k hk.1 hk.2 hlt)⟩
end
section
variable {P:Program} {ops:Array Oper} {rest:List Oper} {o:Oper} {a:Act} {Q:Exit→Act→World→Prop} {α:Type}
end
end Kd
end Go.Proofs.YtdimppdlfgnhgaaGreatDoorW.fD
