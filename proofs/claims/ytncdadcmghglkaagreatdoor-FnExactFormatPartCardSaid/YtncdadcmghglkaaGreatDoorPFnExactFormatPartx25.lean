/- Proved by hand: the walk of the law FnExactFormatPart over the contracts of what it calls; conditions: those in each statement. -/
import Derived.Test.YtncdadcmghglkaaGreatDoorPFnExactFormatPartx0
import Derived.Test.YtncdadcmghglkaaGreatDoorPFnExactFormatPartx1
import Derived.Test.YtncdadcmghglkaaGreatDoorPFnExactFormatPartx2
import Derived.Test.YtncdadcmghglkaaGreatDoorPFnExactFormatPartx3
import Derived.Test.YtncdadcmghglkaaGreatDoorPFnExactFormatPartx4
import Derived.Test.YtncdadcmghglkaaGreatDoorPFnExactFormatPartx6
import Derived.Test.YtncdadcmghglkaaGreatDoorPFnExactFormatPartx7
import Derived.Test.YtncdadcmghglkaaGreatDoorPFnExactFormatPartx8
import Derived.Test.YtncdadcmghglkaaGreatDoorPFnExactFormatPartx10
import Derived.Test.YtncdadcmghglkaaGreatDoorPFnExactFormatPartx11
import Derived.Test.YtncdadcmghglkaaGreatDoorPFnExactFormatPartx12
import Derived.Test.YtncdadcmghglkaaGreatDoorPFnExactFormatPartx14
import Derived.Test.YtncdadcmghglkaaGreatDoorPFnExactFormatPartx16
import Derived.Test.YtncdadcmghglkaaGreatDoorPFnExactFormatPartx17
import Derived.Test.YtncdadcmghglkaaGreatDoorPFnExactFormatPartx18
import Derived.Test.YtncdadcmghglkaaGreatDoorPFnExactFormatPartx19
import Derived.Test.YtncdadcmghglkaaGreatDoorPFnExactFormatPartx20
import Derived.Test.YtncdadcmghglkaaGreatDoorPFnExactFormatPartx24
import Derived.Test.YtncdadcmghglkaaGreatDoorVFnExactFormatPartRt
namespace Go.Proofs.YtncdadcmghglkaaGreatDoor.PFnExactFormatPart
open Go.RowKit Go.Proofs.YtncdadcmghglkaaGreatDoor.X Go.Proofs.YtncdadcmghglkaaGreatDoorW.dB Go.Proofs.YtncdadcmghglkaaGreatDoorW.iy Go.Proofs.YtncdadcmghglkaaGreatDoorW.jo
attribute [local go_sem] lU lV oh oq kJ kK lW lX   -- for this text's walks alone
set_option linter.unusedVariables false
set_option linter.unusedSimpArgs false
def Sm(S:Nat→Prop)(w w':World):Prop:=w.heap.size≤w'.heap.size∧(∀g,g<w.heap.size→(¬S g→w'.heap[g]? =w.heap[g]?)∧
 (∀(cells:Array Value) (t:TypeId),w.heap[g]? =some (.cells cells t (0,0))→∃cells':Array Value,w'.heap[g]? =some (.cells cells' t (0,0))∧cells'.size=cells.size∧∀i:Nat,cells'[i]? =cells[i]?∨(i<cells.size∧∃s,cells'[i]? =some (.string s))))∧
 ∀wB:World,(∀g,S g→wB.heap.size≤g)→Below wB.heap.size wB w→Below wB.heap.size wB w'
def Lf(w:World)(g t m:Nat):Prop:=∃cells:Array Value,w.heap[g]? =some (.cells cells t (0,0))∧∀c:Nat,c<m→∃s,cells[c]? =some (.string s)
section
variable {S:Nat→Prop} {w a b:World}
theorem Sm.refl(S:Nat→Prop)(w:World):Sm S w w:=⟨Nat.le_refl _,fun _ _=>⟨fun _=>rfl,fun cells _ h=>⟨cells,h,rfl,fun _=> .inl rfl⟩⟩,fun _ _ h=>h⟩
theorem Sm.below(h:Sm S w a)(hb:Below a.heap.size a b):Sm S w b:=by
 refine⟨Nat.le_trans h.1 hb.size,fun g hg=>?_,fun wB h1 h2=>aG (h.2.2 wB h1 h2) hb⟩;have e:b.heap[g]? =a.heap[g]?:=hb.block g (Nat.lt_of_lt_of_le hg h.1);rw[e];exact h.2.1 g hg
theorem Sm.set(h:Sm S w a){g i:Nat}(hS:S g)(s:ByteArray):Sm S w (a.setCell ⟨g,i,none⟩ (.string s)):=by
 refine⟨by simpa [World.setCell] using h.1,fun q hq=>?_,fun wB h1 h2=>lF (h.2.2 wB h1 h2) (h1 g hS)⟩;by_cases e:q=g
 ·subst e;refine⟨fun hn=>absurd hS hn,fun cells t hc=>?_⟩;obtain⟨cs,h1,h2,h3⟩:=(h.2.1 q hq).2 cells t hc;refine⟨cs.setIfInBounds i (.string s),bK h1 i _ rfl,by rw[Array.size_setIfInBounds,h2],fun j=>?_⟩;rw[Array.getElem?_setIfInBounds];by_cases ej:i=j
  ·rw[if_pos ej];by_cases hj:j<cs.size
   ·rw[if_pos (by omega)];exact .inr ⟨by omega,s,rfl⟩
   ·rw[if_neg (by omega)];rcases h3 j with h4|⟨h5,_⟩
    ·refine .inl ?_;rw[←h4,Array.getElem?_eq_none (by omega)]
    ·omega
  ·rw[if_neg ej];exact h3 j
 ·rw[Below.heap_setCell _ _ _ _ e];exact h.2.1 q hq
theorem Sm.cell{g t m c:Nat}(h:Sm S w a)(hL:Lf w g t m)(hc:c<m):∃s,a.cell? ⟨g,c,none⟩=some (.string s)∧a.frozen? ⟨g,c,none⟩=false:=by
 obtain⟨cells,h1,h2⟩:=hL;obtain⟨cs,h3,_,h4⟩:=(h.2.1 g (fC h1)).2 cells t h1;obtain⟨s,hs⟩:=h2 c hc;rcases h4 c with h5|⟨_,s',h5⟩
 ·exact⟨s,by rw[aI h3,h5,hs],kE h3 c⟩
 ·exact⟨s',by rw[aI h3,h5],kE h3 c⟩
theorem Sm.mark{c g:Nat}(h:Sm S w a)(hS:S g)(s:ByteArray):Sm S w (a.setCell ⟨g,c,none⟩ (.string s)):=Sm.set h hS s
theorem Lf.lt{g t m:Nat}(h:Lf w g t m):g<w.heap.size:=by
 obtain⟨cells,h1,_⟩:=h;exact fC h1
theorem wrapM{x:Int}(h0:-9223372036854775808≤x)(h1:x≤9223372036854775807):wrap64 x=x:=by
 unfold wrap64;omega
theorem Rz{base:Nat}{ok:Nat→Prop}{v:Value}{l:List ByteArray}(h:Kd.string.R 9 w base ok v l):∃A c,v= .slice A l.length c∧(0<l.length→∃g,A=some ⟨g,0,none⟩∧ok g∧Lf w g 9 l.length):=by
 obtain⟨A,c,rfl⟩:=Kd.eU h;refine⟨A,c,rfl,fun hp=>?_⟩;obtain⟨g,cap,e,-,-,cells,hc⟩:=Kd.ER h hp;injection e with e1 _ e3;subst e1;subst e3;refine⟨g,rfl,h.1 g rfl,cells,hc,fun i hi=>?_⟩;have h1:=(Kd.NM (⟨#[]⟩:ByteArray) h (i:Int) (by omega) (by omega)).1;rw[Int.toNat_natCast,aI hc]at h1;exact⟨_,h1⟩
theorem V8{base:Nat}{ok:Nat→Prop}{v:Value}{l:List jl}(h:pV.R 69 w base ok v l):∃A c,v= .slice A l.length c∧(0<l.length→∃g,A=some ⟨g,0,none⟩∧ok g∧Lf w g 69 (l.length*2)):=by
 obtain⟨A,c,rfl⟩:=Kd.eU h;refine⟨A,c,rfl,fun hp=>?_⟩;obtain⟨g,cap,e,-,-,cells,hc⟩:=Kd.ER h hp;injection e with e1 _ e3;subst e1;subst e3;refine⟨g,rfl,h.1 g rfl,cells,hc,fun i hi=>?_⟩;obtain⟨cs,hcl,hM,hcc⟩:=Kd.ajY h z69 ((i/2:Nat):Int) (by omega) (by omega);rw[Int.toNat_natCast]at hM hcc;have hcs:=wM hM;subst hcs
 have key:∀(j:Nat) (u:Value),[Value.string (l.getD (i/2) z69).f0,Value.string (l.getD (i/2) z69).f1][j]? =some u→cells[i/2*2+j]? =some u:=by
  intro j u hu;have:=hcc j u hu
  have e2:(⟨g,0,none⟩:Addr).add (i/2*pV.sz+j)=⟨g,i/2*2+j,none⟩:=by
   show(⟨g,0,none⟩:Addr).add (i/2*2+j)=_
   unfold Addr.add;split<;>simp_all
  rw[e2,aI hc]at this;exact this
 by_cases e:i%2=0
 ·have:=key 0 _ rfl;rw[show i/2*2+0=i by omega]at this;exact⟨_,this⟩
 ·have:=key 1 _ rfl;rw[show i/2*2+1=i by omega]at this;exact⟨_,this⟩
def H9(S:Nat→Prop)(w w0 a:World):Prop:=Sm S w a∧Sm S w0 a
theorem H9.below{w0:World}(h:H9 S w w0 a)(hb:Below a.heap.size a b):H9 S w w0 b:=⟨h.1.below hb,h.2.below hb⟩
theorem H9.mark{w0:World}{c g:Nat}(h:H9 S w w0 a)(hS:S g)(s:ByteArray):H9 S w w0 (a.setCell ⟨g,c,none⟩ (.string s)):=⟨h.1.mark hS s,h.2.mark hS s⟩
theorem H9.cell{w0:World}{g t m c:Nat}(h:H9 S w w0 a)(hL:Lf w g t m)(hc:c<m):∃s,a.cell? ⟨g,c,none⟩=some (.string s)∧a.frozen? ⟨g,c,none⟩=false:=h.1.cell hL hc
end
def MT(k B:Nat):Prop:=∀m:Nat,m≤B→∃r,dQ.f k (m:Int)=some r
set_option maxHeartbeats 8000000 in
set_option maxRecDepth 100000 in
theorem amD{S:Nat→Prop}{k B:Nat}(hT:MT k B)(hBB:B≤1000000000000){A:Option Addr}{n c m:Nat}{w1 w0 w:World}(hL:0<n→∃g,A=some ⟨g,0,none⟩∧S g∧Lf w1 g 9 n)(hm:m+n≤B)(hs:H9 S w1 w0 w):
  Calls Tryz.prog 37 #[.slice A n c, .int .i64 (m:Int)] w fun e w'=>e= .returned (.int .i64 ((m+n:Nat):Int))∧H9 S w1 w0 w':=by
 have HS:=ak hs;clear hs;go_enter Tryz.func37,Tryz.ntmps37;go_wp2;go_loopg [1,5] n (fun kq v1 v5 w'=>∃i j:Nat,v1= .int .i64 (j:Int)∧v5= .int .i64 (i:Int)∧ah (i≤n)∧ah (kq=n-i)∧ah (j=m+i)∧ah (H9 S w1 w0 w'))
 case atStart=>exact⟨0,m,rfl,rfl,⟨Nat.zero_le _⟩,⟨rfl⟩,⟨rfl⟩,HS⟩
 case round=>
  clear HS;obtain⟨gq,hq⟩:∃g,g=gk:=⟨_,rfl⟩
  subst hq;obtain⟨i,j,rfl,rfl,HI,HK,HJ,HS⟩:=hrel;by_cases c1:i<n
  ·have cb:decide ((i:Int)<(n:Int))=true:=decide_eq_true (by omega);obtain⟨r,hr⟩:=hT j (by have:=HJ.out;omega);obtain⟨g,rfl,hgS,hLf⟩:=hL (by omega);have pI:0≤(i:Int):=by omega
   have qI:(i:Int)<(n:Int):=by omega
   obtain⟨pI,qI⟩:=tt pI qI;have ew1:wrap64 ((j:Int)+1)=((j+1:Nat):Int):=by have:=HJ.out;rw[wrapM (by omega) (by omega)];omega
   have ew5:wrap64 ((i:Int)+1)=((i+1:Nat):Int):=by rw[wrapM (by omega) (by omega)];omega
   go_wp2_with (go_at_call 81;(with_reducible refine mB (dQ.calls k _ r _ hr) ?_);intro w_ hb;have HS1:=ak (H9.below HS.out hb);replace HS:=HS1;clear HS1 hb;obtain⟨s0,hc0,hf0⟩:=H9.cell (c:=i) HS.out hLf (by omega))
   go_roundg (n-(i+1))
   case measure=>(have:=HK.out;omega)
   case rel=>exact⟨i+1,j+1,(by first|(rw[←ew1];done)|(rw[←ew1];rfl)|(simp only[bC];rw[ew1];done)|(simp;done)),(by first|(rw[←ew5];done)|(rw[←ew5];rfl)|(simp only[bC];rw[ew5];done)|(simp;done)),⟨c1⟩,⟨rfl⟩,⟨by have:=HJ.out;omega⟩,⟨H9.mark HS.out hgS _⟩⟩
  ·have cb:decide ((i:Int)<(n:Int))=false:=decide_eq_false (by omega);have ei:i=n:=by have:=HI.out;omega
   subst ei;go_wp2;go_ret;exact⟨(by rw[HJ.out];rfl),HS.out⟩
set_option maxHeartbeats 8000000 in
set_option maxRecDepth 100000 in
theorem amE{S:Nat→Prop}{k B:Nat}(hT:MT k B)(hBB:B≤1000000000000){A:Option Addr}{n c m:Nat}{w1 w0 w:World}(hL:0<n→∃g,A=some ⟨g,0,none⟩∧S g∧Lf w1 g 69 (n*2))(hm:m+2*n≤B)(hs:H9 S w1 w0 w):
  Calls Tryz.prog 79 #[.slice A n c, .int .i64 (m:Int)] w fun e w'=>e= .returned (.int .i64 ((m+2*n:Nat):Int))∧H9 S w1 w0 w':=by
 have HS:=ak hs;clear hs;go_enter Tryz.func79,Tryz.ntmps79;go_wp2;go_loopg [1,5] n (fun kq v1 v5 w'=>∃i j:Nat,v1= .int .i64 (j:Int)∧v5= .int .i64 (i:Int)∧ah (i≤n)∧ah (kq=n-i)∧ah (j=m+2*i)∧ah (H9 S w1 w0 w'))
 case atStart=>exact⟨0,m,rfl,rfl,⟨Nat.zero_le _⟩,⟨rfl⟩,⟨rfl⟩,HS⟩
 case round=>
  clear HS;obtain⟨gq,hq⟩:∃g,g=gk:=⟨_,rfl⟩
  subst hq;obtain⟨i,j,rfl,rfl,HI,HK,HJ,HS⟩:=hrel;by_cases c1:i<n
  ·have cb:decide ((i:Int)<(n:Int))=true:=decide_eq_true (by omega);obtain⟨r,hr⟩:=hT j (by have:=HJ.out;omega);obtain⟨r2,hr2⟩:=hT (j+1) (by have:=HJ.out;omega);obtain⟨g,rfl,hgS,hLf⟩:=hL (by omega);have pI:0≤(i:Int):=by omega
   have qI:(i:Int)<(n:Int):=by omega
   obtain⟨pI,qI⟩:=tt pI qI;have ew1:wrap64 ((j:Int)+1)=((j+1:Nat):Int):=by have:=HJ.out;rw[wrapM (by omega) (by omega)];omega
   obtain⟨j2,hj2⟩:∃j2:Nat,j2=j+1:=⟨_,rfl⟩
   rw[←hj2]at ew1 hr2;have ew2:wrap64 ((j2:Int)+1)=((j2+1:Nat):Int):=by have:=HJ.out;rw[wrapM (by omega) (by omega)];omega
   have HJ2:=ak hj2;clear hj2;have ew5:wrap64 ((i:Int)+1)=((i+1:Nat):Int):=by rw[wrapM (by omega) (by omega)];omega
   go_upto_region 6 with(go_at_call 81;(with_reducible refine mB (dQ.calls k _ r _ hr) ?_);intro w_ hb;have HS1:=ak (H9.below HS.out hb);replace HS:=HS1;clear HS1 hb;obtain⟨s0,hc0,hf0⟩:=H9.cell (c:=i*2) HS.out hLf (by omega))
   have HS1:=ak (H9.mark (c:=i*2) HS.out hgS r);replace HS:=HS1;clear HS1 hc0 hf0;rw[ew1];go_wp2_with (go_at_call 81;(with_reducible refine mB (dQ.calls k _ r2 _ hr2) ?_);intro w_ hb;have HS1:=ak (H9.below HS.out hb);replace HS:=HS1;clear HS1 hb;obtain⟨s0,hc0,hf0⟩:=H9.cell (c:=i*2+1) HS.out hLf (by omega))
   go_roundg (n-(i+1))
   case measure=>(have:=HK.out;omega)
   case rel=>exact⟨i+1,j2+1,(by first|(rw[←ew2];done)|(rw[←ew2];rfl)|(simp only[bC];rw[ew2];done)|(simp;done)),(by first|(rw[←ew5];done)|(rw[←ew5];rfl)|(simp only[bC];rw[ew5];done)|(simp;done)),⟨c1⟩,⟨rfl⟩,⟨by have:=HJ.out;have:=HJ2.out;omega⟩,⟨H9.mark (c:=i*2+1) HS.out hgS _⟩⟩
  ·have cb:decide ((i:Int)<(n:Int))=false:=decide_eq_false (by omega);have ei:i=n:=by have:=HI.out;omega
   subst ei;go_wp2;go_ret;exact⟨(by rw[HJ.out];rfl),HS.out⟩
theorem aaT{S:Nat→Prop}{k B:Nat}(hT:MT k B)(hBB:B≤1000000000000){A:Option Addr}{n c m m':Nat}{w1 w0 w:World}(hL:0<n→∃g,A=some ⟨g,0,none⟩∧S g∧Lf w1 g 9 n)(hm:m+n≤B)(hm':m'=m+n)(hs:H9 S w1 w0 w):
  Calls Tryz.prog 37 #[.slice A n c, .int .i64 (m:Int)] w fun e w'=>e= .returned (.int .i64 (m':Int))∧H9 S w1 w0 w':=by
 subst hm';exact amD hT hBB hL hm hs
theorem aaU{S:Nat→Prop}{k B:Nat}(hT:MT k B)(hBB:B≤1000000000000){A:Option Addr}{n c m m':Nat}{w1 w0 w:World}(hL:0<n→∃g,A=some ⟨g,0,none⟩∧S g∧Lf w1 g 69 (n*2))(hm:m+2*n≤B)(hm':m'=m+2*n)(hs:H9 S w1 w0 w):
  Calls Tryz.prog 79 #[.slice A n c, .int .i64 (m:Int)] w fun e w'=>e= .returned (.int .i64 (m':Int))∧H9 S w1 w0 w':=by
 subst hm';exact amE hT hBB hL hm hs
mutual
def muS:pq→Nat
 |⟨a,b,k⟩=>2*a.length+b.length+MQ k+1
def MQ:List pq→Nat
 |[]=>0
 |p:: r=>muS p+MQ r
end
theorem PL(x:pq):muS x=2*x.f0.length+x.f1.length+MQ x.f2+1:=by cases x;rw[muS]
theorem ah0(l:List pq):l.length≤MQ l:=by
 induction l with
 |nil=>simp
 |cons p r ih=>have:=PL p;rw[List.length_cons,MQ];omega
theorem PN(a b:List pq):MQ (a++b)=MQ a+MQ b:=by
 induction a with
 |nil=>simp[MQ]
 |cons p r ih=>rw[List.cons_append,MQ,MQ,ih];omega
theorem aes{l:List pq}{i:Nat}(h:i<l.length):MQ (l.take (i+1))=MQ (l.take i)+muS (l.getD i z28):=by
 rw[List.take_add_one,List.getElem?_eq_getElem h,Option.toList_some,PN,List.getD_eq_getElem?_getD,List.getElem?_eq_getElem h];rw[MQ,MQ];rfl
theorem V9(l:List pq)(i:Nat):MQ (l.take i)≤MQ l:=by
 have h:=PN (l.take i) (l.drop i);rw[List.take_append_drop]at h;omega
theorem Sm.c28{S:Nat→Prop}{w a:World}{g:Nat}{t:TypeId}{cells:Array Value}(h:Sm S w a)(hn:¬S g)(hc:w.heap[g]? =some (.cells cells t (0,0)))(c:Nat):a.cell? ⟨g,c,none⟩=w.cell? ⟨g,c,none⟩:=by
 have e:=(h.2.1 g (fC hc)).1 hn;rw[hc]at e;rw[aI e,aI hc]
theorem avf{w1:World}{base:Nat}{ok:Nat→Prop}{v:Value}{l:List pq}(h:k28.R 28 w1 base ok v l){i:Nat}(hi:i<l.length):∃(g c:Nat) (cells:Array Value) (v0 v1 v2:Value),v= .slice (some ⟨g,0,none⟩) l.length c∧w1.heap[g]? =some (.cells cells 28 (0,0))∧
  w1.cell? ⟨g,i*3,none⟩=some v0∧w1.cell? ⟨g,i*3+1,none⟩=some v1∧w1.cell? ⟨g,i*3+2,none⟩=some v2∧pV.R 69 w1 base ok v0 (l.getD i z28).f0∧Kd.string.R 9 w1 base ok v1 (l.getD i z28).f1∧k28.R 28 w1 base ok v2 (l.getD i z28).f2:=by
 obtain⟨g,cap,e,-,-,cells,hc⟩:=Kd.ER h (by omega);subst e;obtain⟨cs,hcl,hM,hcc⟩:=Kd.ajY h z28 (i:Int) (by omega) (by omega);rw[Int.toNat_natCast]at hM hcc;obtain⟨v0,v1,v2,rfl,h0,h1,h2⟩:=Le hM
 have key:∀(j:Nat) (u:Value),[v0,v1,v2][j]? =some u→w1.cell? ⟨g,i*3+j,none⟩=some u:=by
  intro j u hu;have:=hcc j u hu
  have e2:(⟨g,0,none⟩:Addr).add (i*k28.sz+j)=⟨g,i*3+j,none⟩:=by
   show(⟨g,0,none⟩:Addr).add (i*3+j)=_
   unfold Addr.add;split<;>simp_all
  rw[e2]at this;exact this
 exact⟨g,cap,cells,v0,v1,v2,rfl,hc,key 0 _ rfl,key 1 _ rfl,key 2 _ rfl,Kd.dM h0 (fun _ hk=>hk.1),Kd.dM h1 (fun _ hk=>hk.1),Kd.dM h2 (fun _ hk=>hk.1)⟩
theorem amF{l:List pq}{i:Nat}(hi:i<l.length):SizeOf.sizeOf (l.getD i z28).f2<SizeOf.sizeOf l:=by
 have e:l.getD i z28=l[i]:=by rw[List.getD_eq_getElem?_getD,List.getElem?_eq_getElem hi];rfl
 rw[e];have h1:=List.sizeOf_lt_of_mem (List.getElem_mem hi)
 have h2:SizeOf.sizeOf (l[i]).f2<SizeOf.sizeOf l[i]:=by
  cases l[i]with
  |mk a b k=>simp only[pq.mk.sizeOf_spec];omega
 omega
set_option maxHeartbeats 8000000 in
set_option maxRecDepth 100000 in
theorem amG{S ok:Nat→Prop}{k B:Nat}(hT:MT k B)(hBB:B≤1000000000000){w1 w0:World}(h28:∀g cells,w1.heap[g]? =some (.cells cells 28 (0,0))→¬S g)(hok:∀g cells t,ok g→w1.heap[g]? =some (.cells cells t (0,0))→t=69∨t=9→S g):∀(N:Nat) (l:List pq),SizeOf.sizeOf l<N→∀(base m:Nat) (v:Value) (w:World),k28.R 28 w1 base ok v l→m+MQ l≤B→H9 S w1 w0 w→
  Calls Tryz.prog 80 #[v, .int .i64 (m:Int)] w fun e w'=>∃m':Nat,e= .returned (.int .i64 (m':Int))∧m'≤m+MQ l∧H9 S w1 w0 w':=by
 intro N
 induction N with
 |zero=>intro l h;omega
 |succ N ih=>
  intro l hN base m v w hR hm hs;have HS:=ak hs;have HR:=ak hR;obtain⟨A,c,rfl⟩:=Kd.eU hR;clear hs hR;go_enter Tryz.func80,Tryz.ntmps80;go_wp2;go_loopg [1,5] (l.length) (fun kq v1 v5 w'=>∃i j:Nat,v1= .int .i64 (j:Int)∧v5= .int .i64 (i:Int)∧ah (i≤l.length)∧ah (kq=l.length-i)∧ah (j≤m+MQ (l.take i))∧ah (H9 S w1 w0 w'))
  case atStart=>exact⟨0,m,rfl,rfl,⟨Nat.zero_le _⟩,⟨rfl⟩,⟨Nat.le_add_right _ _⟩,HS⟩
  case round=>
   clear HS;obtain⟨gq,hq⟩:∃g,g=gk:=⟨_,rfl⟩
   subst hq;obtain⟨i,j,rfl,rfl,HI,HK,HJ,HS⟩:=hrel;by_cases c1:i<l.length
   ·have cb:decide ((i:Int)<(l.length:Int))=true:=decide_eq_true (by omega);obtain⟨g,c',cells,v0,v1,v2,ev,hc,x0,x1,x2,r0,r1,r2⟩:=avf HR.out c1;injection ev with ev1 ev2 ev3;subst ev1;clear ev2 ev3;obtain⟨A0,c0,rfl,L0⟩:=V8 r0;obtain⟨A1,c1',rfl,L1⟩:=Rz r1;have hlt:=amF c1;have hmu:=aes c1;have hle:=V9 l (i+1);have hml:=ah0 l;have hmx:=PL (l.getD i z28)
    have M1:0<(l.getD i z28).f0.length→∃g,A0=some ⟨g,0,none⟩∧S g∧Lf w1 g 69 ((l.getD i z28).f0.length*2):=fun hp=>by
     obtain⟨q,e1,e2,e3⟩:=L0 hp;obtain⟨cs,e4,e5⟩:=e3;exact⟨q,e1,hok q cs 69 e2 e4 (.inl rfl),cs,e4,e5⟩
    have M2:0<(l.getD i z28).f1.length→∃g,A1=some ⟨g,0,none⟩∧S g∧Lf w1 g 9 (l.getD i z28).f1.length:=fun hp=>by
     obtain⟨q,e1,e2,e3⟩:=L1 hp;obtain⟨cs,e4,e5⟩:=e3;exact⟨q,e1,hok q cs 9 e2 e4 (.inr rfl),cs,e4,e5⟩
    have R2:=ak r2;have amH:=h28 g cells hc;have pI:0≤(i:Int):=by omega
    have qI:(i:Int)<(l.length:Int):=by omega
    obtain⟨pI,qI⟩:=tt pI qI;obtain⟨j1,hj1⟩:∃j1:Nat,j1=j+2*(l.getD i z28).f0.length:=⟨_,rfl⟩
    obtain⟨j2,hj2⟩:∃j2:Nat,j2=j1+(l.getD i z28).f1.length:=⟨_,rfl⟩
    have AO:=ak hj1;have HJ2:=ak hj2;have ew5:wrap64 ((i:Int)+1)=((i+1:Nat):Int):=by rw[wrapM (by omega) (by omega)];omega
    clear hj1 hj2 r0 r1 r2 L0 L1;have y0:=(Sm.c28 HS.out.1 amH hc (i*3)).trans x0
    generalize hX:l.getD i z28=X at*
    go_upto_region 5 with(go_at_call 79;(with_reducible refine(aaU (m':=j1) hT hBB M1 (by have:=HJ.out;have:=AO.out;omega) AO.out HS.out).mono ?_);rintro e w_ ⟨rfl,hs⟩;replace HS:=ak hs;clear hs)
    clear y0;have y1:=(Sm.c28 HS.out.1 amH hc (i*3+1)).trans x1;go_upto_region 6 with(go_at_call 37;(with_reducible refine(aaT (m':=j2) hT hBB M2 (by have:=HJ.out;have:=AO.out;have:=HJ2.out;omega) HJ2.out HS.out).mono ?_);rintro e w_ ⟨rfl,hs⟩;replace HS:=ak hs;clear hs)
    clear y1;have y2:=(Sm.c28 HS.out.1 amH hc (i*3+2)).trans x2;obtain⟨A2,c2,e2⟩:=Kd.eU R2.out;subst e2;go_wp2_with (go_at_call 80;(with_reducible refine(ih X.f2 (by omega) base j2 _ _ R2.out (by have:=HJ.out;have:=AO.out;have:=HJ2.out;omega) HS.out).mono ?_);rintro e w_ ⟨j3,rfl,hj3,hs⟩;replace HS:=ak hs;have Qx:=ak hj3;clear hs hj3)
    go_roundg (l.length-(i+1))
    case measure=>(have:=HK.out;omega)
    case rel=>exact⟨i+1,j3,rfl,(by first|(rw[←ew5];done)|(rw[←ew5];rfl)|(simp only[bC];rw[ew5];done)|(simp;done)),⟨c1⟩,⟨rfl⟩,⟨by have:=HJ.out;have:=AO.out;have:=HJ2.out;have:=Qx.out;omega⟩,HS⟩
   ·have cb:decide ((i:Int)<(l.length:Int))=false:=decide_eq_false (by omega);have ei:i=l.length:=by have:=HI.out;omega
    subst ei;go_wp2;go_ret;exact⟨j,rfl,(by have:=HJ.out;rw[List.take_length]at this;exact this),HS.out⟩
set_option maxHeartbeats 8000000 in
set_option maxRecDepth 100000 in
theorem amI{S ok:Nat→Prop}{k B:Nat}(hT:MT k B)(hBB:B≤1000000000000){w1 w:World}(h28:∀g cells,w1.heap[g]? =some (.cells cells 28 (0,0))→¬S g)(hok:∀g cells t,ok g→w1.heap[g]? =some (.cells cells t (0,0))→t=69∨t=9→S g)(hS:∀g,S g→g<w1.heap.size)
  {x:pq} {base m:Nat} {v0 v1 v2:Value} (r0:pV.R 69 w1 base ok v0 x.f0) (r1:Kd.string.R 9 w1 base ok v1 x.f1) (r2:k28.R 28 w1 base ok v2 x.f2) (hm:m+muS x≤B) (hs:Sm S w1 w):
  Calls Tryz.prog 36 #[.agg #[v0,v1,v2], .int .i64 (m:Int)] w fun e w'=>∃m':Nat,e= .returned (.int .i64 (m':Int))∧m'≤B∧Sm S w1 w':=by
 have Na:=Tryz.underlying28;obtain⟨A0,c0,rfl,L0⟩:=V8 r0;obtain⟨A1,c1,rfl,L1⟩:=Rz r1
 have M1:0<x.f0.length→∃g,A0=some ⟨g,0,none⟩∧S g∧Lf w1 g 69 (x.f0.length*2):=fun hp=>by
  obtain⟨q,e1,e2,e3⟩:=L0 hp;obtain⟨cs,e4,e5⟩:=e3;exact⟨q,e1,hok q cs 69 e2 e4 (.inl rfl),cs,e4,e5⟩
 have M2:0<x.f1.length→∃g,A1=some ⟨g,0,none⟩∧S g∧Lf w1 g 9 x.f1.length:=fun hp=>by
  obtain⟨q,e1,e2,e3⟩:=L1 hp;obtain⟨cs,e4,e5⟩:=e3;exact⟨q,e1,hok q cs 9 e2 e4 (.inr rfl),cs,e4,e5⟩
 obtain⟨A2,c2,e2⟩:=Kd.eU r2;subst e2;have R2:=ak r2;have HS:=ak hs;have hmx:=PL x;obtain⟨j1,hj1⟩:∃j1:Nat,j1=m+2*x.f0.length:=⟨_,rfl⟩
 obtain⟨j2,hj2⟩:∃j2:Nat,j2=j1+x.f1.length:=⟨_,rfl⟩
 have AO:=ak hj1;have HJ2:=ak hj2;have HB:=ak (Below.refl w.heap.size w);clear hj1 hj2 r0 r1 r2 L0 L1 hs;go_enter Tryz.func36,Tryz.ntmps36;go_upto_region 1 with(refine bY HB 2 #[.slice A0 x.f0.length c0, .slice A1 x.f1.length c1, .slice A2 x.f2.length c2] 28 ?_;intro gb wb BK GW hg hb;have HS1:=ak (Sm.below HS.out hb);have HG:=ak (show¬S gb from fun h_=>by have h1_:=hS gb h_;have h2_:=HS.out.1;omega);have HS0:=ak (Sm.refl S wb);clear hb hg HB)
 have HS2:=ak (show H9 S w1 wb wb from⟨HS1.out,HS0.out⟩);clear HS HS1 HS0;have y0:wb.cell? ⟨gb,0,none⟩=some (.slice A0 x.f0.length c0):=(aI BK.out 0).trans rfl;go_upto_region 2 with(go_at_call 79;(with_reducible refine(aaU (m':=j1) hT hBB M1 (by have:=AO.out;omega) AO.out HS2.out).mono ?_);rintro e w_ ⟨rfl,hs⟩;replace HS2:=ak hs;clear hs)
 clear y0;have y1:=(Sm.c28 HS2.out.2 HG.out BK.out 1).trans (show wb.cell? ⟨gb,1,none⟩=some (.slice A1 x.f1.length c1)from(aI BK.out 1).trans rfl);go_upto_region 3 with(go_at_call 37;(with_reducible refine(aaT (m':=j2) hT hBB M2 (by have:=AO.out;have:=HJ2.out;omega) HJ2.out HS2.out).mono ?_);rintro e w_ ⟨rfl,hs⟩;replace HS2:=ak hs;clear hs)
 clear y1;have y2:=(Sm.c28 HS2.out.2 HG.out BK.out 2).trans (show wb.cell? ⟨gb,2,none⟩=some (.slice A2 x.f2.length c2)from(aI BK.out 2).trans rfl);go_wp2_with (go_at_call 80;(with_reducible refine(amG hT hBB h28 hok (SizeOf.sizeOf x.f2+1) x.f2 (Nat.lt_succ_self _) base j2 _ _ R2.out (by have:=AO.out;have:=HJ2.out;omega) HS2.out).mono ?_);rintro e w_ ⟨j3,rfl,hj3,hs⟩;replace HS2:=ak hs;have Qx:=ak hj3;clear hs hj3)
 go_ret;exact⟨j3,rfl,(by have:=AO.out;have:=HJ2.out;have:=Qx.out;omega),HS2.out.1⟩
abbrev PC (w:World) (A0:Option Addr) (c0:Nat) (p0:List jl) (A1:Option Addr) (c1:Nat) (p1:List ByteArray) (A2:Option Addr) (c2:Nat) (p2:List pq):Prop:=
 Kd.C pV w A0 p0.length p0∧p0.length≤c0∧Kd.C Kd.string w A1 p1.length p1∧p1.length≤c1∧Kd.C k28 w A2 p2.length p2∧p2.length≤c2
theorem FD{w w':World}{A0:Option Addr}{c0:Nat}{p0:List jl}{A1:Option Addr}{c1:Nat}{p1:List ByteArray}{A2:Option Addr}{c2:Nat}{p2:List pq}(h:ah (PC w A0 c0 p0 A1 c1 p1 A2 c2 p2))(hb:Below w.heap.size w w'):ah (PC w' A0 c0 p0 A1 c1 p1 A2 c2 p2):=
 ⟨Kd.aN h.out.1 hb,h.out.2.1,Kd.aN h.out.2.2.1 hb,h.out.2.2.2.1,Kd.aN h.out.2.2.2.2.1 hb,h.out.2.2.2.2.2⟩
abbrev QC (w:World) (A0:Option Addr) (c0:Nat) (p0:List rU) (A1:Option Addr) (c1:Nat) (p1:List ByteArray) (A2:Option Addr) (c2:Nat) (p2:List Di):Prop:=
 Kd.C EF w A0 p0.length p0∧p0.length≤c0∧Kd.C Kd.string w A1 p1.length p1∧p1.length≤c1∧Kd.C Vl w A2 p2.length p2∧p2.length≤c2
theorem nI{w w':World}{A0:Option Addr}{c0:Nat}{p0:List rU}{A1:Option Addr}{c1:Nat}{p1:List ByteArray}{A2:Option Addr}{c2:Nat}{p2:List Di}(h:ah (QC w A0 c0 p0 A1 c1 p1 A2 c2 p2))(hb:Below w.heap.size w w'):ah (QC w' A0 c0 p0 A1 c1 p1 A2 c2 p2):=
 ⟨Kd.aN h.out.1 hb,h.out.2.1,Kd.aN h.out.2.2.1 hb,h.out.2.2.2.1,Kd.aN h.out.2.2.2.2.1 hb,h.out.2.2.2.2.2⟩
theorem axE{w:World}{base:Nat}{ok0 ok1 ok2:Nat→Prop}{v0 v1 v2:Value}{p0:List jl}{p1:List ByteArray}{p2:List pq}(h0:Kd.R pV 69 w base ok0 v0 p0)(h1:Kd.R Kd.string 9 w base ok1 v1 p1)(h2:Kd.R k28 28 w base ok2 v2 p2):
  ∃A0 c0 A1 c1 A2 c2,v0= .slice A0 p0.length c0∧v1= .slice A1 p1.length c1∧v2= .slice A2 p2.length c2∧ah (PC w A0 c0 p0 A1 c1 p1 A2 c2 p2):=by
 obtain⟨A0,c0,rfl⟩:=Kd.eU h0;obtain⟨A1,c1,rfl⟩:=Kd.eU h1;obtain⟨A2,c2,rfl⟩:=Kd.eU h2;exact⟨A0,c0,A1,c1,A2,c2,rfl,rfl,rfl,⟨(Kd.dK h0).2.2,(Kd.dK h0).2.1,(Kd.dK h1).2.2,(Kd.dK h1).2.1,(Kd.dK h2).2.2,(Kd.dK h2).2.1⟩⟩
theorem cx3{w:World}{g t:Nat}{a b c:Value}(h:w.heap[g]? =some (.cells #[a,b,c] t (0,0))):w.cell? ⟨g,0,none⟩=some a∧w.cell? ⟨g,1,none⟩=some b∧w.cell? ⟨g,2,none⟩=some c:=
 ⟨(aI h 0).trans rfl,(aI h 1).trans rfl,(aI h 2).trans rfl⟩
theorem Yw{w W:World}{g:Nat}{u0 u1 u2:Value}(h:Below w.heap.size w W)(hg:w.heap.size≤g):Below w.heap.size w (((W.setCell ⟨g,0,none⟩ u0).setCell ⟨g,1,none⟩ u1).setCell ⟨g,2,none⟩ u2):=lF (lF (lF h hg) hg) hg
theorem aeu{w:World}{g t:Nat}{a b c u0 u1 u2:Value}(h:w.heap[g]? =some (.cells #[a,b,c] t (0,0))):(((w.setCell ⟨g,0,none⟩ u0).setCell ⟨g,1,none⟩ u1).setCell ⟨g,2,none⟩ u2).heap[g]? =some (.cells #[u0,u1,u2] t (0,0)):=bK (bK (bK h 0 u0 rfl) 1 u1 rfl) 2 u2 rfl
theorem ab3{P:Program}{c:Code}{Q:Exit→Act→World→Prop}{a:Act}{b W:World}{g t:Nat}{cs:Array Value}{u0 u1 u2 x y z:Value}(_old:ah (b.heap[g]? =some (.cells cs t (0,0))))
  (h:∀W',ah (W'.heap[g]? =some (.cells #[x,y,z] t (0,0)))→ah (∀g' o,g'≠g→W.heap[g']? =some o→W'.heap[g']? =some o)→ah (∀s:World,s.heap.size≤g→Below s.heap.size s W→Below s.heap.size s W')→c.wp P Q a W')
  (hK:W.heap[g]? =some (.cells #[u0,u1,u2] t (0,0)):=by exact bq):c.wp P Q a (((W.setCell ⟨g,0,none⟩ x).setCell ⟨g,1,none⟩ y).setCell ⟨g,2,none⟩ z):=
 h _ ⟨aeu hK⟩ ⟨fun _ _ hn ho=>(Below.heap_setCell _ _ _ _ hn).trans ((Below.heap_setCell _ _ _ _ hn).trans ((Below.heap_setCell _ _ _ _ hn).trans ho))⟩ ⟨fun _ hg hb=>Yw hb hg⟩
theorem aaV{w:World}{B0 B1 B2:Nat}{o0 o1 o2:Nat→Prop}{a0 a1 a2:Option Addr}{a0' a1' a2':Nat}{p0:List jl}{p1:List ByteArray}{p2:List pq}(h0:ah (Kd.R pV 69 w B0 o0 (.slice a0 p0.length a0') p0))(h1:ah (Kd.R Kd.string 9 w B1 o1 (.slice a1 p1.length a1') p1))(h2:ah (Kd.R k28 28 w B2 o2 (.slice a2 p2.length a2') p2)):ah (PC w a0 a0' p0 a1 a1' p1 a2 a2' p2):=
 ⟨(Kd.dK h0.out).2.2,(Kd.dK h0.out).2.1,(Kd.dK h1.out).2.2,(Kd.dK h1.out).2.1,(Kd.dK h2.out).2.2,(Kd.dK h2.out).2.1⟩
theorem kx_{a W W':World}{g g':Nat}{o:Obj}(_old:ah (a.heap[g']? =some o))(hk:ah (∀g' o,g'≠g→W.heap[g']? =some o→W'.heap[g']? =some o))(n:ah (g'≠g))(h:W.heap[g']? =some o:=by exact bq):ah (W'.heap[g']? =some o):=⟨hk.out _ _ n.out h⟩
theorem hx_{s a W W':World}{g:Nat}(_old:ah (Below s.heap.size s a))(hs:ah (∀s:World,s.heap.size≤g→Below s.heap.size s W→Below s.heap.size s W'))(G:ah (s.heap.size≤g))(h:Below s.heap.size s W:=by exact bb):ah (Below s.heap.size s W'):=⟨hs.out s G.out h⟩
theorem cTo{k:Nat}{x:Di}{p:pq}{w:World}{a0 a1 a2:Option Addr}{a0' a1' a2':Nat}(HX:ah (QC w a0 a0' x.f0 a1 a1' x.f1 a2 a2' x.f2))(h:kQ.f k x.f0 x.f1 x.f2=some (p.f0,p.f1,p.f2)):
  Calls Tryz.prog 31 #[.agg #[.slice a0 x.f0.length a0', .slice a1 x.f1.length a1', .slice a2 x.f2.length a2']] w fun e w'=>∃v0 v1 v2:Value,e= .returned (.agg #[v0,v1,v2])∧Kd.R pV 69 w' w.heap.size (fun _=>True) v0 p.f0∧Kd.R Kd.string 9 w' w.heap.size (fun _=>True) v1 p.f1∧Kd.R k28 28 w' w.heap.size (fun _=>True) v2 p.f2∧Below w.heap.size w w':=
 ((kQ.pair k).1 _ _ _ _ _ _ _ _ _ _ _ _ _ HX.out.1 HX.out.2.1 HX.out.2.2.1 HX.out.2.2.2.1 HX.out.2.2.2.2.1 HX.out.2.2.2.2.2 h).mono (by
  rintro e w' ⟨v0,v1,v2,he,h0,h1,h2,hb⟩;exact⟨v0,v1,v2,he,h0,h1,Kd.dM h2 (fun _ _=>trivial),hb⟩)
theorem avg{k:Nat}{p r:pq}{t:Bool}{w:World}{a0 a1 a2:Option Addr}{a0' a1' a2':Nat}{b0 b1 b2:Option Addr}{b0' b1' b2':Nat}(HP:ah (PC w a0 a0' p.f0 a1 a1' p.f1 a2 a2' p.f2))(HQ:ah (PC w b0 b0' r.f0 b1 b1' r.f1 b2 b2' r.f2))(h:kR.f k p.f0 p.f1 p.f2 r.f0 r.f1 r.f2=some t):
  Calls Tryz.prog 32 #[.agg #[.slice a0 p.f0.length a0', .slice a1 p.f1.length a1', .slice a2 p.f2.length a2'], .agg #[.slice b0 r.f0.length b0', .slice b1 r.f1.length b1', .slice b2 r.f2.length b2']] w fun e w'=>e= .returned (.bool t)∧Below w.heap.size w w':=
 (kR.pair k).1 _ _ _ _ _ _ _ _ _ _ _ _ _ _ _ _ _ _ _ _ HP.out.1 HP.out.2.1 HP.out.2.2.1 HP.out.2.2.2.1 HP.out.2.2.2.2.1 HP.out.2.2.2.2.2 HQ.out.1 HQ.out.2.1 HQ.out.2.2.1 HQ.out.2.2.2.1 HQ.out.2.2.2.2.1 HQ.out.2.2.2.2.2 h
theorem aqi{k:Nat}{p:pq}{ls:List ByteArray}{b:Bool}{w:World}{a0 a1 a2:Option Addr}{a0' a1' a2':Nat}(HP:ah (PC w a0 a0' p.f0 a1 a1' p.f1 a2 a2' p.f2))(h:nU.f k p.f0 p.f1 p.f2=some (ls,b)):
  Calls Tryz.prog 25 #[.agg #[.slice a0 p.f0.length a0', .slice a1 p.f1.length a1', .slice a2 p.f2.length a2']] w fun e w'=>∃v0:Value,e= .returned (.tuple #[v0, .bool b])∧Kd.R Kd.string 9 w' w.heap.size (fun _=>True) v0 ls∧Below w.heap.size w w':=
 nU.calls k _ _ _ _ _ _ _ _ _ _ _ _ HP.out.1 HP.out.2.1 HP.out.2.2.1 HP.out.2.2.2.1 HP.out.2.2.2.2.1 HP.out.2.2.2.2.2 h
theorem ajZ{k:Nat}{p:pq}{ls:List ByteArray}{b:Bool}{w:World}{a0 a1 a2:Option Addr}{a0' a1' a2':Nat}(HP:ah (PC w a0 a0' p.f0 a1 a1' p.f1 a2 a2' p.f2))(hg:MaxOk w)(h:nT.f k p.f0 p.f1 p.f2=some (ls,b)):
  Calls Tryz.prog 24 #[.agg #[.slice a0 p.f0.length a0', .slice a1 p.f1.length a1', .slice a2 p.f2.length a2']] w fun e w'=>∃v0:Value,e= .returned (.tuple #[v0, .bool b])∧Kd.R Kd.string 9 w' w.heap.size (fun _=>True) v0 ls∧Below w.heap.size w w':=
 nT.calls k _ _ _ _ _ _ _ _ _ _ _ _ HP.out.1 HP.out.2.1 HP.out.2.2.1 HP.out.2.2.2.1 HP.out.2.2.2.2.1 HP.out.2.2.2.2.2 hg h
theorem amJ{k:Nat}{l r:List ByteArray}{t:Bool}{w:World}{a b:Option Addr}{a' b':Nat}(hl:Kd.C Kd.string w a l.length l)(hl':l.length≤a')(hr:Kd.C Kd.string w b r.length r)(hr':r.length≤b')(h:fD.f k l r=some t):
  Calls Tryz.prog 35 #[.slice a l.length a', .slice b r.length b'] w fun e w'=>e= .returned (.bool t)∧Below w.heap.size w w':=
 (fD.calls k _ _ _ _ _ _ _ _ hl hl' hr hr' h).mono (by
  rintro e w' ⟨he,n,rfl⟩;exact⟨he,kW (Below.refl _ _) n⟩)
theorem axF{k:Nat}{l:List ByteArray}{m r:Int}{w:World}{a:Option Addr}{a':Nat}(hl:Kd.C Kd.string w a l.length l)(hl':l.length≤a')(h:fE.f k l m=some r):
  Calls Tryz.prog 38 #[.slice a l.length a', .int .i64 m] w fun e w'=>e= .returned (.int .i64 r)∧Below w.heap.size w w':=
 fE.calls k _ _ _ _ _ _ hl hl' h
theorem aev{k n:Nat}{l:List ByteArray}{m r:Int}{w:World}{a:Option Addr}{a':Nat}(hn:n=l.length)(hl:Kd.C Kd.string w a l.length l)(hl':n≤a')(h:fE.f k l m=some r):
  Calls Tryz.prog 38 #[.slice a n a', .int .i64 m] w fun e w'=>e= .returned (.int .i64 r)∧Below w.heap.size w w':=by
 subst hn;exact fE.calls k _ _ _ _ _ _ hl hl' h
def Sx(wS wP:World)(g:Nat):Prop:=wS.heap.size≤g∧g<wP.heap.size∧∃cells t,wP.heap[g]? =some (.cells cells t (0,0))∧(t=69∨t=9)
theorem ah1{k:Nat}{p:pq}{wS wP w:World}{v0 v1 v2:Value}(hT:MT k 10000000)(h0:pV.R 69 wP wS.heap.size (fun _=>True) v0 p.f0)(h1:Kd.string.R 9 wP wS.heap.size (fun _=>True) v1 p.f1)(h2:k28.R 28 wP wS.heap.size (fun _=>True) v2 p.f2)(hd:Below wP.heap.size wP w)(hm:1+muS p≤10000000):
  Calls Tryz.prog 36 #[.agg #[v0,v1,v2], .int .i64 1] w fun e w'=>∃m':Nat,e= .returned (.int .i64 (m':Int))∧Sm (Sx wS wP) w w':=by
 have q:=amI (S:=Sx wS wP) (ok:=fun g=>wS.heap.size≤g∧g<wP.heap.size) (k:=k) (m:=1) hT (by omega) (w1:=w) (w:=w) ?_ ?_ ?_ (Kd.dM (Kd.mV (Kd.oD h0) hd) (fun _ hk=>⟨hk.2.1,hk.2.2.1⟩)) (Kd.dM (Kd.mV (Kd.oD h1) hd) (fun _ hk=>⟨hk.2.1,hk.2.2.1⟩)) (Kd.dM (Kd.mV (Kd.oD h2) hd) (fun _ hk=>⟨hk.2.1,hk.2.2.1⟩)) hm (Sm.refl _ _)
 ·exact q.mono (by
   rintro e w' ⟨m',he,-,hs⟩;exact⟨m',he,hs⟩)
 ·rintro g cells hc ⟨-,hl,cs,t,e1,e2⟩;rw[hd.block g hl,e1]at hc
  have e3:t=28:=by
   have:=Option.some.inj hc;injection this
  rcases e2 with rfl|rfl
  ·exact absurd e3 (by decide)
  ·exact absurd e3 (by decide)
 ·intro g cells t hg hc ht;refine⟨hg.1,hg.2,cells,t,?_,ht⟩;rw[←hd.block g hg.2];exact hc
 ·rintro g ⟨-,hl,-⟩;exact Nat.lt_of_lt_of_le hl hd.size
def l7.Ok(k:Nat)(x:Di):Prop:=
 ∃v,jO.f k x.f0 x.f1 x.f2 1048576=some v∧(v<0∨¬v<0∧∃(p:pq) (ls r2:List ByteArray) (b:Bool) (r1:Int),kQ.f k x.f0 x.f1 x.f2=some (p.f0,p.f1,p.f2)∧nU.f k p.f0 p.f1 p.f2=some (ls,b)∧nT.f k p.f0 p.f1 p.f2=some (ls,b)∧
  fD.f k ls ls=some true∧kR.f k p.f0 p.f1 p.f2 p.f0 p.f1 p.f2=some true∧MT k 10000000∧1+muS p≤10000000∧gK.f k ls 1=some (r1,r2)∧r2.length=ls.length∧fE.f k r2 1=some r1∧0≤r1)
set_option maxHeartbeats 8000000 in
set_option maxRecDepth 100000 in
theorem l7.calls(k:Nat)(A0:Option Addr)(c0:Nat)(A1:Option Addr)(c1:Nat)(A2:Option Addr)(c2:Nat)(x:Di)(_r:Bool)(w:World)(hx:ah (QC w A0 c0 x.f0 A1 c1 x.f1 A2 c2 x.f2))(hm:ah (MaxOk w))(h:l7.Ok k x):
  Calls Tryz.prog 8 #[.agg #[.slice A0 x.f0.length c0, .slice A1 x.f1.length c1, .slice A2 x.f2.length c2]] w fun e w'=>e= .returned (.bool true)∧Below w.heap.size w w':=by
 have Na:=Tryz.underlying28;obtain⟨v,e1,h2⟩:=h;have E1:=ak e1;clear e1;have B:=ak (Below.refl w.heap.size w);rcases h2 with h2|⟨h2,p,ls,r2,b,r1,e3,e4,e5,e6,e7,e8,e9,e10,e11,e12,e13⟩
 ·have fM:decide (v<0)=true:=decide_eq_true h2;clear h2;go_enter Tryz.func8,Tryz.ntmps8;go_wp2_with (first|(refine bY B 1 #[.slice A0 x.f0.length c0, .slice A1 x.f1.length c1, .slice A2 x.f2.length c2] 44 ?_;intro ga w_ B_ GWa hg hb;clear hg;replace B:=bz B hb;clear hb;have QI:=jP B_.out)|(go_at_call 29;(with_reducible refine((jO.pair k).1 _ _ x.f0 _ _ x.f1 _ _ x.f2 1048576 v _ (nI hx B.out).out.1 (nI hx B.out).out.2.1 (nI hx B.out).out.2.2.1 (nI hx B.out).out.2.2.2.1 (nI hx B.out).out.2.2.2.2.1 (nI hx B.out).out.2.2.2.2.2 E1.out).mono ?_);rintro e w_ ⟨rfl,hb⟩;replace B:=bz B hb;replace B_:=kb B_ hb;clear hb;have QI:=jP B_.out))
  go_ret;exact⟨rfl,B.out⟩
 have fM:decide (v<0)=false:=decide_eq_false h2;have cb:(b !=b)=false:=by simp
 have cr:decide (r1<0)=false:=decide_eq_false (by omega);have crr:(r1 !=r1)=false:=by simp
 have E3:=ak e3;have E4:=ak e4;have E5:=ak e5;have E6:=ak e6;have E7:=ak e7;have E8:=ak e8;have E9:=ak e9;have E10:=ak e10;have E11:=ak e11;have E12:=ak e12;have E13:=ak e13;clear h2 e3 e4 e5 e6 e7 e8 e9 e10 e11 e12 e13;go_enter Tryz.func8,Tryz.ntmps8;go_upto_region 5 with(first|(refine bY B 1 #[.slice A0 x.f0.length c0, .slice A1 x.f1.length c1, .slice A2 x.f2.length c2] 44 ?_;intro ga w_ B_ GWa hg hb;clear hg;replace B:=bz B hb;clear hb;have QI:=jP B_.out)|(go_at_call 29;(with_reducible refine((jO.pair k).1 _ _ x.f0 _ _ x.f1 _ _ x.f2 1048576 v _ (nI hx B.out).out.1 (nI hx B.out).out.2.1 (nI hx B.out).out.2.2.1 (nI hx B.out).out.2.2.2.1 (nI hx B.out).out.2.2.2.2.1 (nI hx B.out).out.2.2.2.2.2 E1.out).mono ?_);rintro e w_ ⟨rfl,hb⟩;replace B:=bz B hb;replace B_:=kb B_ hb;clear hb;have QI:=jP B_.out))
 go_upto_region 6 with(first|(go_at_call 31;(with_reducible refine(cTo (nI hx B.out) E3.out).mono ?_);rintro e w_U ⟨wH,v1_,v2_,rfl,h0,h1,h2,hb⟩;replace B:=bz B hb;replace B_:=kb B_ hb;clear hb;have QI:=jP B_.out;obtain⟨U0,U1,rfl⟩:=Kd.eU h0;obtain⟨U2,U3,rfl⟩:=Kd.eU h1;obtain⟨U4,U5,rfl⟩:=Kd.eU h2;have HU:=aaV (ak h0) (ak h1) (ak h2);have DU:=ak (Below.refl w_U.heap.size w_U);clear h0 h1 h2)|(go_at_call 25;(with_reducible refine(aqi (FD HU DU.out) E4.out).mono ?_);rintro e w_S ⟨wH,rfl,h0,hb⟩;replace B:=bz B hb;replace DU:=bz DU hb;replace B_:=kb B_ hb;clear hb;have QI:=jP B_.out;obtain⟨S0,S1,rfl⟩:=Kd.eU h0;have HW:=ak (Kd.dK h0).2.2;have HWc:=ak (Kd.dK h0).2.1;have DS:=ak (Below.refl w_S.heap.size w_S);clear h0 DU HU))
 have V_:=B_;have HX:=nI hx B.out;have HM:=ak (MaxOk.below hm.out B.out);have zD:=ak (Below.refl w_S.heap.size w_S);clear hx hm DS;go_upto_region 7 with(first|(go_at_call 31;(with_reducible refine(cTo (nI HX zD.out) E3.out).mono ?_);rintro e w_P ⟨wH,v1_,v2_,rfl,h0,h1,h2,hb⟩;replace zD:=bz zD hb;replace B_:=kb B_ hb;clear hb;have QI:=jP B_.out;obtain⟨P0,P1,rfl⟩:=Kd.eU h0;obtain⟨P2,P3,rfl⟩:=Kd.eU h1;obtain⟨P4,P5,rfl⟩:=Kd.eU h2;have HR0:=ak (Kd.oD h0);have HR1:=ak (Kd.oD h1);have HR2:=ak (Kd.oD h2);have HP:=aaV (ak h0) (ak h1) (ak h2);have DP:=ak (Below.refl w_P.heap.size w_P);clear h0 h1 h2)|(refine bY zD 6 #[.slice none 0 0, .slice none 0 0, .slice none 0 0] 28 ?_;intro gp w_ QJ aqj hg hb;have avh:=jY DP hg;have Nap:=nl_ B_ hg;have Npa:=ng_ B_ hg;replace zD:=bz zD hb;replace DP:=bz DP hb;replace B_:=kb B_ hb;clear hb hg;have QI:=jP B_.out;have zp_:=jP QJ.out;have azV:=Nap.out;have hmap:=Npa.out))
 (try simp only[Act.put,jI,jJ,l_c]);refine ab3 QJ ?_;intro w_ BKn hk hs;replace B_:=kx_ B_ hk Nap;replace zD:=hx_ zD hs aqj;replace DP:=hx_ DP hs avh;clear hk hs QJ;have QJ:=BKn;clear BKn;have QI:=jP B_.out;have zp_:=jP QJ.out;go_upto_region 8 with(go_at_call 24;(with_reducible refine(ajZ (FD HP DP.out) (MaxOk.below HM.out bb) E5.out).mono ?_);rintro e w_G ⟨wH,rfl,h0,hb⟩;have HGb:=ak (aA DP.out);have HGs:=ak (aA zD.out);replace zD:=bz zD hb;replace DP:=bz DP hb;replace B_:=kb B_ hb;replace QJ:=kb QJ hb;clear hb;have QI:=jP B_.out;have zp_:=jP QJ.out;obtain⟨G0,G1,rfl⟩:=Kd.eU h0;have HG:=ak (Kd.oD h0);have HGC:=ak (Kd.dK h0).2.2;have HGc:=ak (Kd.dK h0).2.1;have DG:=ak (Below.refl w_G.heap.size w_G);clear h0)
 go_upto_region 10 with(go_at_call 35;(with_reducible refine mB (amJ (Kd.aN HGC.out DG.out) HGc.out (Kd.aN HW.out zD.out) HWc.out E6.out) ?_);intro w_ hb;replace zD:=bz zD hb;replace DP:=bz DP hb;replace DG:=bz DG hb;replace B_:=kb B_ hb;replace QJ:=kb QJ hb;clear hb;have QI:=jP B_.out;have zp_:=jP QJ.out)
 refine avi [0,1,2,3,4] (by kernel_rfl) (by kernel_rfl) (fun _ _ d _ _ h=>by cases d<;>exact h) (fun wd hb RS=>?_);replace zD:=bz zD hb;replace DP:=bz DP hb;replace DG:=bz DG hb;replace B_:=kb B_ hb;replace QJ:=kb QJ hb;clear hb;have QI:=jP B_.out;have zp_:=jP QJ.out;go_upto_region 13 with(first|(go_at_call 31;(with_reducible refine(cTo (nI HX zD.out) E3.out).mono ?_);rintro e w_R ⟨wH,v1_,v2_,rfl,h0,h1,h2,hb⟩;replace zD:=bz zD hb;replace DP:=bz DP hb;replace DG:=bz DG hb;replace RS:=bz RS hb;replace B_:=kb B_ hb;replace QJ:=kb QJ hb;clear hb;have QI:=jP B_.out;have zp_:=jP QJ.out;obtain⟨R0,R1,rfl⟩:=Kd.eU h0;obtain⟨R2,R3,rfl⟩:=Kd.eU h1;obtain⟨R4,R5,rfl⟩:=Kd.eU h2;have HRR:=aaV (ak h0) (ak h1) (ak h2);have DR:=ak (Below.refl w_R.heap.size w_R);clear h0 h1 h2)|(go_at_call 32;(with_reducible refine mB (avg (FD HP DP.out) (FD HRR DR.out) E7.out) ?_);intro w_ hb;replace zD:=bz zD hb;replace DP:=bz DP hb;replace DG:=bz DG hb;replace DR:=bz DR hb;replace RS:=bz RS hb;replace B_:=kb B_ hb;replace QJ:=kb QJ hb;clear hb;have QI:=jP B_.out;have zp_:=jP QJ.out)|(refine ah2 ?_;clear RS)|(refine aew (v:=?_) (a':=?_) (gk.trans rfl) rfl rfl ?_ ?_ ?_;rotate_left;(focus (intro w' hS;have hcell:=ah3 hS;clear hS;go_simp;with_reducible rfl));rotate_left;(focus (simp only[Act.put,jI,jJ,l_c];rfl)))|(refine aex (gk.trans rfl) rfl (fun K_ hK_=>?_);rw[if_pos (by rfl)])|(refine Shut.out hK_ _ _ RS.out ?_))
 have R0m:=Kd.mV HR0.out DP.out;have R1m:=Kd.mV HR1.out DP.out;have R2m:=Kd.mV HR2.out DP.out;have RGm:=ak (Kd.mV HG.out DG.out);have HMk:=ak (ah1 E8.out (Kd.dM HR0.out (fun _ _=>trivial)) (Kd.dM HR1.out (fun _ _=>trivial)) (Kd.dM HR2.out (fun _ _=>trivial)) DP.out E9.out);clear R0m R1m R2m;go_upto_region 14 with(go_at_call 36;(with_reducible refine HMk.out.mono ?_);rintro e w_M ⟨m1,rfl,hs⟩;have HB1:=ak (hs.2.2 w_S (fun g hg=>hg.1) zD.out);have HG2:=ak (Kd.fA (Kd.UD RGm.out (fun k_ hk hl=>(hs.2.1 k_ hl).1 (fun hS=>by have a1:=hk.2.1;have a2:=hS.2.1;have a3:=HGb.out;omega))) HGs.out);clear HMk RGm hs DP DG DR HGC HGc;replace zD:=HB1;clear HB1;have QI:=jP (iD V_.out zD.out);have HGC:=ak (Kd.dK HG2.out).2.2;have HGc:=ak (Kd.dK HG2.out).2.1;have DG:=ak (Below.refl w_M.heap.size w_M);have cm:decide ((m1:Int)<0)=false:=decide_eq_false (by omega))
 try clear B_ QJ
 go_upto_region 17 with(go_at_call 35;(with_reducible refine mB (amJ (Kd.aN HGC.out DG.out) HGc.out (Kd.aN HW.out zD.out) HWc.out E6.out) ?_);intro w_ hb;replace zD:=bz zD hb;replace DG:=bz DG hb;clear hb;have QI:=jP (iD V_.out zD.out))
 go_upto_region 19 with(go_at_call 37;(with_reducible refine(gK.calls k _ _ ls 1 r1 r2 w_S _ zD.out (Kd.mV HG2.out DG.out) E10.out).mono ?_);rintro e w_N ⟨rfl,hR,hBn,hKp⟩;replace zD:=ak hBn;clear hBn hKp HGC HGc DG HG2;have QI:=jP (iD V_.out zD.out);have HGC:=ak (Kd.dK hR).2.2;have HGc:=ak (Kd.dK hR).2.1;have DG:=ak (Below.refl w_N.heap.size w_N);clear hR)
 go_upto_region 24 with(go_at_call 38;(with_reducible refine mB (aev E11.out.symm (Kd.aN HGC.out DG.out) HGc.out E12.out) ?_);intro w_ hb;replace zD:=bz zD hb;replace DG:=bz DG hb;clear hb;have QI:=jP (iD V_.out zD.out))
 go_upto_region 25 with(first|(go_at_call 31;(with_reducible refine(cTo (nI HX zD.out) E3.out).mono ?_);rintro e w_V ⟨wH,v1_,v2_,rfl,h0,h1,h2,hb⟩;replace zD:=bz zD hb;replace DG:=bz DG hb;clear hb;have QI:=jP (iD V_.out zD.out);obtain⟨V0,V1,rfl⟩:=Kd.eU h0;obtain⟨V2,V3,rfl⟩:=Kd.eU h1;obtain⟨V4,V5,rfl⟩:=Kd.eU h2;have HV:=aaV (ak h0) (ak h1) (ak h2);have DV:=ak (Below.refl w_V.heap.size w_V);clear h0 h1 h2)|(go_at_call 24;(with_reducible refine(ajZ (FD HV DV.out) (MaxOk.below HM.out bb) E5.out).mono ?_);rintro e w_H ⟨wH,rfl,h0,hb⟩;replace zD:=bz zD hb;replace DG:=bz DG hb;replace DV:=bz DV hb;clear hb;have QI:=jP (iD V_.out zD.out);obtain⟨H0,H1,rfl⟩:=Kd.eU h0;have HHC:=ak (Kd.dK h0).2.2;have HHc:=ak (Kd.dK h0).2.1;have DH:=ak (Below.refl w_H.heap.size w_H);clear h0 DV HV))
 go_upto_region 28 with(go_at_call 35;(with_reducible refine mB (amJ (Kd.aN HHC.out DH.out) HHc.out (Kd.aN HW.out zD.out) HWc.out E6.out) ?_);intro w_ hb;replace zD:=bz zD hb;replace DG:=bz DG hb;replace DH:=bz DH hb;clear hb;have QI:=jP (iD V_.out zD.out))
 go_wp2_with (go_at_call 38;(with_reducible refine mB (aev E11.out.symm (Kd.aN HGC.out DG.out) HGc.out E12.out) ?_);intro w_ hb;replace zD:=bz zD hb;replace DG:=bz DG hb;replace DH:=bz DH hb;clear hb;have QI:=jP (iD V_.out zD.out))
 go_ret;exact⟨rfl,aG B.out zD.out⟩
end Go.Proofs.YtncdadcmghglkaaGreatDoor.PFnExactFormatPart
