/- Proved here: the pure form of the law FnExactPartAt (the program's PartAt is the reference's) returns true for all arguments; conditions: none beyond those that the printed statement bears. -/
import Derived.Test.YtdimppdlfgnhgaaGreatDoorPFnExactPartAtx32
import Derived.Test.YtdimppdlfgnhgaaGreatDoorVFnExactPartAtOpsPartt
import Derived.Test.YtdimppdlfgnhgaaGreatDoorVFnExactPartAtZbt
import Derived.Test.YtdimppdlfgnhgaaGreatDoorVFnExactPartAtMore
import Derived.Lib.TrimByte
import Derived.Lib.CutLaws
import Derived.Lib.ReplaceLaws
import Derived.Lib.Join
import Derived.Lib.JoinLaws
import Derived.Lib.Split
import Derived.Lib.CountLaws
namespace Go.Proofs.YtdimppdlfgnhgaaGreatDoor.Pure
open Go.Proofs.YtdimppdlfgnhgaaGreatDoorW.qy Go.Proofs.mg Go.RowKit Go.Proofs.YtdimppdlfgnhgaaGreatDoor.X Go.Proofs.YtdimppdlfgnhgaaGreatDoor.PFnExactPartAt Go.Proofs.YtdimppdlfgnhgaaGreatDoorW.fD Go.Proofs.YtdimppdlfgnhgaaGreatDoorW.mZ Go.Proofs.YtdimppdlfgnhgaaGreatDoor.Z
set_option linter.unusedVariables false
set_option linter.unusedSimpArgs false
theorem anv{α R:Type}(fin:Unit→R)(r:List α):run (fun(_:Unit) (_:α)=>(.inr ():R ⊕ Unit)) fin r ()=fin ():=by
 induction r with
 |nil=>rfl
 |cons c r ih=>unfold run;exact ih
def szs:List Str→Nat
 |[]=>0
 |c:: r=>c.length+szs r
theorem aq1{a:List Str}{c:Str}(h:c∈a):c.length≤szs a:=by
 induction a with
 |nil=>cases h
 |cons d a ih=>
  simp only[szs];rcases List.mem_cons.mp h with rfl|h
  ·omega
  ·have:=ih h;omega
theorem ajD(l:List ByteArray):(l.map L).map dK=l:=by
 rw[List.map_map];exact(List.map_congr_left (fun x _=>anw x)).trans (List.map_id l)
theorem Y4(ls:List Str)(hl:∀x∈ls,x.length≤9223372036854775807)(hn:ls.length≤9223372036854775807)(r:List Str):∀(p:List Str) (left:Nat),ls=p++r→left≤1048576→∃v:Int,Ev (fun k=>iH.l0 k (ls.map dK) (left:Int) (p.length:Int)) v∧v≤left∧(0≤v→v=(left:Int)-szs r):=by
 induction r with
 |nil=>
  intro p left h hle;have hz:ls.length=p.length:=by rw[h,List.append_nil]
  refine⟨left,vc ?_,Int.le_refl _,fun _=>by simp[szs]⟩;simp only[iH.l0,List.length_map];exact vn (by omega) (vs _)
 |cons c r ih=>
  intro p left h hle;have hz:=iI h;have e1:=yh h;have hc:=hl c (by rw[h];simp);have w1:wrap64 ((p.length:Int)+1)=(p.length:Int)+1∧wrap64 ((left:Int)-(c.length:Int))=(left:Int)-(c.length:Int):=⟨bQ (by omega) (by omega),bQ (by omega) (by omega)⟩
  by_cases hlt:(left:Int)-(c.length:Int)<0
  ·refine⟨-1,vc ?_,by omega,fun h=>by omega⟩;simp only[iH.l0,List.length_map,e1,aZ,w1.1,w1.2];clear w1;exact vp (by omega) (vp (by omega) (vp hlt (vs _)))
  ·obtain⟨v,hv,hv1,hv2⟩:=ih (p++[c]) (left-c.length) (by rw[h];simp) (by omega);rw[jD]at hv;refine⟨v,vc ?_,by omega,fun h0=>by have:=hv2 h0;simp only[szs];omega⟩;have e2:(left:Int)-(c.length:Int)=((left-c.length:Nat):Int):=by omega
   simp only[iH.l0,List.length_map,e1,aZ,w1.1,w1.2];clear w1;rw[e2];exact vp (by omega) (vp (by omega) (vn (by omega) hv))
theorem Rt(ls:List Str)(hl:∀x∈ls,x.length≤9223372036854775807)(hn:ls.length≤9223372036854775807)(left:Nat)(hle:left≤1048576):∃v:Int,Ev (fun k=>iH.f k (ls.map dK) (left:Int)) v∧v≤left∧(0≤v→v=(left:Int)-ls.length-szs ls):=by
 unfold iH.f;have w1:wrap64 ((left:Int)-(ls.length:Int))=(left:Int)-(ls.length:Int):=bQ (by omega) (by omega);rw[List.length_map,w1];clear w1;by_cases h:(left:Int)-(ls.length:Int)<0
 ·exact⟨-1,vp h (vs _),by omega,fun h=>by omega⟩
 ·have e2:(left:Int)-(ls.length:Int)=((left-ls.length:Nat):Int):=by omega
  obtain⟨v,hv,hv1,hv2⟩:=Y4 ls hl hn ls [] (left-ls.length) rfl (by omega);rw[e2];exact⟨v,vn (by omega) hv,by omega,fun h0=>by have:=hv2 h0;omega⟩
theorem Ru(ls:List Str)(hn:ls.length≤1000000000000):Ev (fun k=>jo.f k (ls.map dK)) (ls.map dK):=by
 have key:∀(r p:List Str),ls=p++r→Ev (fun k=>jo.l0 k (ls.map dK) (p.map dK++List.replicate r.length (⟨#[]⟩:ByteArray)) (p.length:Int)) (ls.map dK):=by
  intro r
  induction r with
  |nil=>
   intro p h;have hz:ls.length=p.length:=by rw[h,List.append_nil]
   refine vc ?_;simp only[jo.l0,List.length_map];refine vn (by omega) (vq (vs _) ?_);rw[h];simp
  |cons c r ih=>
   intro p h;have hz:=iI h;have e1:=yh h;have w1:wrap64 ((p.length:Int)+1)=(p.length:Int)+1:=bQ (by omega) (by omega);have:=ih (p++[c]) (by rw[h];simp);rw[jD]at this
   have e2:(p.map dK++List.replicate (r.length+1) (⟨#[]⟩:ByteArray)).set p.length (dK c)=(p++[c]).map dK++List.replicate r.length (⟨#[]⟩:ByteArray):=by
    rw[List.set_append_right _ _ (by simp),List.length_map,Nat.sub_self,List.replicate_succ,List.set_cons_zero,List.map_append,List.append_assoc];rfl
   rw[←e2]at this;refine vc ?_;simp only[jo.l0,List.length_map,e1,w1,Int.toNat_natCast,List.length_cons];clear w1;exact vp (by omega) (vp (by omega) (vp (by simp;omega) this))
 unfold jo.f;simp only[List.length_map,Int.toNat_natCast];exact vp (by omega) (vp (by omega) (key ls [] rfl))
theorem Rw(a b:List Str)(hn:a.length≤1000000000000000):Ev (fun k=>iO.f k (a.map dK) (b.map dK)) (decide (a=b)):=by
 unfold iO.f;simp only[List.length_map];by_cases hl:a.length=b.length
 ·refine vp (by omega) ?_
  refine vq (pU (xs:=a) (F:=fun k (_:List Str) i=>iO.l0 k (a.map dK) (b.map dK) i) (st:=fun r c=>match r with
   |[]=> .inl false
   |d:: r=>if c=d then .inr r else .inl false) (fin:=fun _=>true) (s:=b) (fun p r=>∃q,b=q++r∧q.length=p.length) ⟨[],rfl,rfl⟩ ?_ ?_) ?_
  ·rintro p c r s h ⟨q,hq,hql⟩;have hz:=iI h;have e1:=yh h;have w1:wrap64 ((p.length:Int)+1)=(p.length:Int)+1:=bQ (by omega) (by omega)
   cases s with
   |nil=>rw[hq]at hl;simp at hl;omega
   |cons d s=>
    have e2:=yh hq;rw[hql]at e2;simp only[iO.l0,e1,e2,w1,List.length_map,oD];clear w1 e1 e2;by_cases e:c=d
    ·simp only[if_pos e];refine⟨(fun v hv=>by cases hv),fun s' hs=>⟨?_,fun v hv=>?_⟩⟩
     ·cases hs;exact⟨q++[d],by rw[hq];simp,by simp[hql]⟩
     ·exact vp (by omega) (vp (by omega) (vp (by omega) hv))
    ·simp only[if_neg e];refine⟨(fun v hv=>?_),fun s' hs=>by cases hs⟩;cases hv;exact vp (by omega) (vp (by omega) (vp (by omega) (vs _)))
  ·intro s _;simp only[iO.l0,List.length_map];exact vn (by omega) (vs _)
  ·clear hn
   induction a generalizing b with
   |nil=>cases b with
    |nil=>rfl
    |cons d b=>simp at hl
   |cons c a ih=>cases b with
    |nil=>simp at hl
    |cons d b=>
     unfold run;by_cases e:c=d
     ·simp only[if_pos e];rw[ih b (by simpa using hl)];simp[e]
     ·simp only[if_neg e];simp[e]
 ·refine vn (by omega) (vq (vs _) ?_);rw[eq_comm];exact decide_eq_false (fun h=>hl (by rw[h]))
def e91(p:Str×Str):J_:=⟨dK p.1,dK p.2⟩
def vI(p:Str×Str):iq:=⟨dK p.1,dK p.2⟩
def Hu:List (Str×Str)→Nat
 |[]=>0
 |c:: r=>c.1.length+c.2.length+Hu r
theorem aq2{a:List (Str×Str)}{c:Str×Str}(h:c∈a):c.1.length+c.2.length≤Hu a:=by
 induction a with
 |nil=>cases h
 |cons d a ih=>
  simp only[Hu];rcases List.mem_cons.mp h with rfl|h
  ·omega
  ·have:=ih h;omega
theorem adB{ls p r:List (Str×Str)}{c:Str×Str}(h:ls=p++c:: r):uj (ls.map e91) (p.length:Int)=e91 c:=by
 unfold uj;rw[List.getD_eq_getElem?_getD,h];simp
theorem yj{ls p r:List (Str×Str)}{c:Str×Str}(h:ls=p++c:: r):aT (ls.map vI) (p.length:Int)=vI c:=by
 unfold aT;rw[List.getD_eq_getElem?_getD,h];simp
def p91(x:J_):Str×Str:=(L x.f0,L x.f1)
theorem aq3(l:List J_):(l.map p91).map e91=l:=by
 rw[List.map_map];exact(List.map_congr_left (fun x _=>rfl)).trans (List.map_id l)
theorem afJ(a b:Str)(ha:a.length≤9223372036854775807)(hb:b.length≤9223372036854775807)(left:Nat)(hle:left≤1048576):∃v:Int,uQ.f (dK a) (dK b) (left:Int)=some v∧v≤left∧(0≤v→v=(left:Int)-a.length-b.length):=by
 unfold uQ.f;have w1:wrap64 ((left:Int)-(a.length:Int))=(left:Int)-(a.length:Int):=bQ (by omega) (by omega);rw[aZ,aZ,w1];by_cases h:(left:Int)-(a.length:Int)<0
 ·exact⟨-1,by rw[if_pos h],by omega,fun h=>by omega⟩
 ·have w2:wrap64 ((left:Int)-(a.length:Int)-(b.length:Int))=(left:Int)-(a.length:Int)-(b.length:Int):=bQ (by omega) (by omega);rw[if_neg h,w2];by_cases h2:(left:Int)-(a.length:Int)-(b.length:Int)<0
  ·exact⟨-1,by rw[if_pos h2],by omega,fun h=>by omega⟩
  ·exact⟨_,by rw[if_neg h2],by omega,fun _=>rfl⟩
def sane(ls:List (Str×Str)):Prop:=∀x∈ls,x.1.length≤9223372036854775807∧x.2.length≤9223372036854775807
theorem Y5(ls:List (Str×Str))(hl:sane ls)(hn:ls.length≤9223372036854775807)(r:List (Str×Str)):∀(p:List (Str×Str)) (left:Nat),ls=p++r→left≤1048576→∃v:Int,Ev (fun k=>iJ.l0 k (ls.map e91) (left:Int) (p.length:Int)) v∧v≤left∧(0≤v→v=(left:Int)-Hu r):=by
 induction r with
 |nil=>
  intro p left h hle;have hz:ls.length=p.length:=by rw[h,List.append_nil]
  refine⟨left,vc ?_,Int.le_refl _,fun _=>by simp[Hu]⟩;simp only[iJ.l0,List.length_map];exact vn (by omega) (vs _)
 |cons c r ih=>
  intro p left h hle;have hz:=iI h;have e1:=adB h;have hc:=hl c (by rw[h];simp);have w1:wrap64 ((p.length:Int)+1)=(p.length:Int)+1:=bQ (by omega) (by omega);obtain⟨v,hv,hv1,hv2⟩:=afJ c.1 c.2 hc.1 hc.2 left hle;by_cases hlt:v<0
  ·refine⟨-1,vc ?_,by omega,fun h=>by omega⟩;simp only[iJ.l0,List.length_map,e1,w1];clear w1;exact vp (by omega) (vp (by omega) (kK hv (vp hlt (vs _))))
  ·have hvv:=hv2 (by omega);obtain⟨u,hu,hu1,hu2⟩:=ih (p++[c]) (left-c.1.length-c.2.length) (by rw[h];simp) (by omega);rw[jD]at hu;refine⟨u,vc ?_,by omega,fun h0=>by have:=hu2 h0;simp only[Hu];omega⟩;have e2:v=((left-c.1.length-c.2.length:Nat):Int):=by omega
   simp only[iJ.l0,List.length_map,e1,w1];clear w1;rw[←e2]at hu;exact vp (by omega) (vp (by omega) (kK hv (vn hlt hu)))
theorem adC(ls:List (Str×Str))(hl:sane ls)(hn:ls.length≤9223372036854775807)(left:Nat)(hle:left≤1048576):∃v:Int,Ev (fun k=>iJ.f k (ls.map e91) (left:Int)) v∧v≤left∧(0≤v→v=(left:Int)-ls.length-Hu ls):=by
 unfold iJ.f;have w1:wrap64 ((left:Int)-(ls.length:Int))=(left:Int)-(ls.length:Int):=bQ (by omega) (by omega);rw[List.length_map,w1];clear w1;by_cases h:(left:Int)-(ls.length:Int)<0
 ·exact⟨-1,vp h (vs _),by omega,fun h=>by omega⟩
 ·have e2:(left:Int)-(ls.length:Int)=((left-ls.length:Nat):Int):=by omega
  obtain⟨v,hv,hv1,hv2⟩:=Y5 ls hl hn ls [] (left-ls.length) rfl (by omega);rw[e2];exact⟨v,vn (by omega) hv,by omega,fun h0=>by have:=hv2 h0;omega⟩
theorem adD(ls:List (Str×Str))(hn:ls.length≤1000000000000):Ev (fun k=>jH.f k (ls.map e91)) (ls.map vI):=by
 have key:∀(r p:List (Str×Str)),ls=p++r→Ev (fun k=>jH.l0 k (ls.map e91) (p.map vI++List.replicate r.length z63) (p.length:Int)) (ls.map vI):=by
  intro r
  induction r with
  |nil=>
   intro p h;have hz:ls.length=p.length:=by rw[h,List.append_nil]
   refine vc ?_;simp only[jH.l0,List.length_map];refine vn (by omega) (vq (vs _) ?_);rw[h];simp
  |cons c r ih=>
   intro p h;have hz:=iI h;have e1:=adB h;have w1:wrap64 ((p.length:Int)+1)=(p.length:Int)+1:=bQ (by omega) (by omega);have:=ih (p++[c]) (by rw[h];simp);rw[jD]at this
   have e2:(p.map vI++List.replicate (r.length+1) z63).set p.length (⟨dK c.1,dK c.2⟩:iq)=(p++[c]).map vI++List.replicate r.length z63:=by
    rw[List.set_append_right _ _ (by simp),List.length_map,Nat.sub_self,List.replicate_succ,List.set_cons_zero,List.map_append,List.append_assoc];rfl
   rw[←e2]at this;refine vc ?_;simp only[jH.l0,yZ.f,List.length_map,e1,w1,Int.toNat_natCast,List.length_cons,Option.bind_some];clear w1;exact vp (by omega) (vp (by omega) (vp (by simp;omega) this))
 unfold jH.f;simp only[List.length_map,Int.toNat_natCast];exact vp (by omega) (vp (by omega) (key ls [] rfl))
theorem adE(ls:List (Str×Str))(hn:ls.length≤1000000000000):Ev (fun k=>fM.f k (ls.map vI) (ls.map vI)) true:=by
 unfold fM.f;refine vp rfl (vq (pU (xs:=ls) (F:=fun k (_:Unit) i=>fM.l0 k (ls.map vI) (ls.map vI) i) (st:=fun _ _=> .inr ()) (fin:=fun _=>true) (s:=()) (fun _ _=>True) trivial ?_ ?_) (anv _ _))
 ·intro p c r s h _;have hz:=iI h;have e1:=yj h;have w1:wrap64 ((p.length:Int)+1)=(p.length:Int)+1:=bQ (by omega) (by omega);simp only[fM.l0,xC.f,e1,w1,List.length_map];clear w1 e1;refine⟨(fun v hv=>by cases hv),fun s' hs=>⟨trivial,fun v hv=>?_⟩⟩;exact vp (by omega) (vp (by omega) (vp (by omega) (kK (by simp) (vp rfl hv))))
 ·intro s _;simp only[fM.l0,List.length_map];exact vn (by omega) (vs _)
theorem Yd{ps p r:List (List Str)}{c:List Str}(h:ps=p++c:: r):xH (ps.map (List.map dK)) (p.length:Int)=c.map dK:=by
 unfold xH;rw[List.getD_eq_getElem?_getD,h];simp
def tl:List (List Str)→Nat
 |[]=>0
 |c:: r=>c.length+1+tl r
theorem Iu(a b:List (List Str)):tl (a++b)=tl a+tl b:=by
 induction a with
 |nil=>simp[tl]
 |cons c a ih=>simp only[List.cons_append,tl,ih];omega
theorem acf(a:List (List Str)):a.length≤tl a:=by
 induction a with
 |nil=>simp[tl]
 |cons c a ih=>simp only[List.length_cons,tl];omega
theorem axa{a:List (List Str)}{c:List Str}(h:c∈a):c.length≤tl a:=by
 induction a with
 |nil=>cases h
 |cons d a ih=>
  simp only[tl];rcases List.mem_cons.mp h with rfl|h
  ·omega
  ·have:=ih h;omega
def Ov(c:UInt8):Bool:=decide (97≤(c.toNat:Int)∧(c.toNat:Int)≤122)||decide (65≤(c.toNat:Int)∧(c.toNat:Int)≤90)
def ajE(c:UInt8):Bool:=decide (48≤(c.toNat:Int)∧(c.toNat:Int)≤57)
def Hl(c:UInt8):Bool:=Ov c||ajE c
def Ld(l:Str):Bool:=decide (1≤l.length)&&decide (l.length≤20)&&l.all Hl
theorem Ye{l:Str}(h:Ld l=true):l.length≤20:=by
 unfold Ld at h;simp at h;exact h.1.2
theorem AZ(c:UInt8):bT.f (c.toNat:Int)=some (Ov c):=by
 unfold bT.f Ov;by_cases h1:97≤(c.toNat:Int)<;>by_cases h2:(c.toNat:Int)≤122<;>by_cases h3:65≤(c.toNat:Int)<;>by_cases h4:(c.toNat:Int)≤90<;>simp[h1,h2,h3,h4]
theorem JX(c:UInt8):dZ.f (c.toNat:Int)=some (ajE c):=by
 unfold dZ.f ajE;by_cases h1:48≤(c.toNat:Int)<;>by_cases h2:(c.toNat:Int)≤57<;>simp[h1,h2]
theorem uH(c:UInt8):jT.f (c.toNat:Int)=some (Hl c):=by
 unfold jT.f Hl Ov ajE;by_cases h1:97≤(c.toNat:Int)<;>by_cases h2:(c.toNat:Int)≤122<;>by_cases h3:65≤(c.toNat:Int)<;>by_cases h4:(c.toNat:Int)≤90<;>by_cases h5:48≤(c.toNat:Int)<;>by_cases h6:(c.toNat:Int)≤57<;>simp[h1,h2,h3,h4,h5,h6]
def Yf:Str:=[33,35,36,37,38,39,42,43,45,47,61,63,94,95,96,123,124,125,126]
def xM(c:UInt8):Bool:=Hl c||decide (c∈Yf)
def Yg(l:Str):Bool:=decide (1≤l.length)&&decide (l.length≤40)&&l.all xM
theorem acg{p:UInt8→Prop}(h:∀n:Nat,n<256→p (UInt8.ofNat n))(c:UInt8):p c:=by
 have:=h c.toNat c.toNat_lt
 rwa [UInt8.ofNat_toNat]at this
theorem yE(c:UInt8):mW.f (c.toNat:Int)=some (xM c):=by
 revert c
 exact acg (by decide+kernel)
theorem D_(l:Str)(hl:l.length≤1000000000000000):Ev (fun k=>dX.f k (dK l)) (l.all xM):=by
 unfold dX.f;rw[aZ];refine vq (pU (xs:=l) (F:=fun k (_:Unit) i=>dX.l0 k (dK l) (l.length:Int) i) (st:=fun _ c=>if xM c=true then .inr ()else .inl false) (fin:=fun _=>true) (s:=()) (fun _ _=>True) trivial ?_ ?_) ?_
 ·intro p c r s h _;have hz:=iI h;have e1:=lG h;have w1:wrap64 ((p.length:Int)+1)=(p.length:Int)+1:=bQ (by omega) (by omega);simp only[dX.l0,e1,w1,aZ];clear w1 e1
  cases e:xM c with
  |true=>
   simp only[if_true];refine⟨(fun v hv=>by cases hv),fun s' hs=>⟨trivial,fun v hv=>?_⟩⟩;refine vp (by omega) (vp (by omega) (vp (by omega) (kK (yE c) (vp e hv))))
  |false=>
   refine⟨(fun v hv=>?_),fun s' hs=>by simp at hs⟩;simp only[Bool.false_eq_true,if_false,Sum.inl.injEq]at hv;subst hv;refine vp (by omega) (vp (by omega) (vp (by omega) (kK (yE c) (vn (by rw[e];simp) (vs _)))))
 ·intro s _;simp only[dX.l0];exact vn (by omega) (vs _)
 ·clear hl
  induction l with
  |nil=>rfl
  |cons c r ih=>
   unfold run
   cases e:xM c with
   |true=>simp[e,ih]
   |false=>simp[e]
theorem Rx(l:Str)(hl:l.length≤1000000000000000):Ev (fun k=>pX.f k (dK l)) (Yg l):=by
 unfold pX.f Yg;rw[aZ];by_cases h1:1≤l.length
 ·rw[decide_eq_true h1];refine vp (by omega) ?_;by_cases h2:l.length≤40
  ·rw[decide_eq_true h2];exact vp (by omega) (vb (D_ l hl) (vs _))
  ·rw[decide_eq_false h2];exact vn (by omega) (vs _)
 ·rw[decide_eq_false h1];exact vn (by omega) (vs _)
theorem Fb(c:UInt8):Ev (fun k=>jO.f k (c.toNat:Int)) (xM c):=by
 unfold jO.f;have lit:(⟨#[33,35,36,37,38,39,42,43,45,47,61,63,94,95,96,123,124,125,126]⟩:ByteArray)=dK Yf:=rfl;have hlen:Yf.length=19:=rfl;refine vq (pU (xs:=Yf) (F:=fun k (_:Unit) i=>jO.l0 k (c.toNat:Int) i) (st:=fun _ d=>if c=d then .inl true else .inr ()) (fin:=fun _=>Hl c) (s:=()) (fun _ _=>True) trivial ?_ ?_) ?_
 ·intro p d r s h _;have hz:=iI h;have e1:=lG h;have w1:wrap64 ((p.length:Int)+1)=(p.length:Int)+1:=bQ (by omega) (by omega);simp only[jO.l0,lit,e1,w1];clear w1 e1;by_cases e:c=d
  ·simp only[if_pos e];refine⟨(fun v hv=>?_),fun s' hs=>by cases hs⟩;cases hv;exact vp (by omega) (vp (by omega) (vp (by rw[e]) (vs _)))
  ·simp only[if_neg e];refine⟨(fun v hv=>by cases hv),fun s' hs=>⟨trivial,fun v hv=>?_⟩⟩;exact vp (by omega) (vp (by omega) (vn (fun hh=>e (UInt8.toNat_inj.mp (by omega))) hv))
 ·intro s _;simp only[jO.l0];exact vn (by omega) (kK (uH c) (vs _))
 ·have key:∀r:Str,run (fun(_:Unit) d=>if c=d then .inl true else .inr ()) (fun _=>Hl c) r ()=(Hl c||decide (c∈r)):=by
   intro r
   induction r with
   |nil=>simp[run]
   |cons d r ih=>
    unfold run;by_cases e:c=d
    ·simp[e]
    ·simp[e,ih]
  exact key Yf
theorem Ry(l:Str)(hl:l.length≤1000000000000000):Ev (fun k=>eX.f k (dK l)) (Yg l):=by
 unfold eX.f
 have hj':∀i:Int,Ev (fun k=>eX.j1 k (dK l) i false) (decide (1≤l.length)&&decide (l.length≤40)):=by
  intro i;refine vc ?_;simp only[eX.j1,aZ];by_cases h1:1≤l.length
  ·rw[decide_eq_true h1];refine vn (by simp) (vp (by omega) (vq (vs _) ?_));rw[Bool.true_and];by_cases h2:l.length≤40
   ·rw[decide_eq_true h2];exact decide_eq_true (by omega)
   ·rw[decide_eq_false h2];exact decide_eq_false (by omega)
  ·rw[decide_eq_false h1];exact vn (by simp) (vn (by omega) (vs _))
 refine vq (pU (xs:=l) (F:=fun k (_:Nat) i=>eX.l0 k (dK l) i) (st:=fun n c=>if n≤40 then(if xM c=true then .inr (n+1)else .inl false)else .inl (decide (1≤l.length)&&decide (l.length≤40))) (fin:=fun _=>decide (1≤l.length)&&decide (l.length≤40)) (s:=0) (fun p n=>n=p.length) rfl ?_ ?_) ?_
 ·intro p c r n h hn;subst hn;have hz:=iI h;have e1:=lG h;have w1:wrap64 ((p.length:Int)+1)=(p.length:Int)+1:=bQ (by omega) (by omega);by_cases h20:p.length≤40
  ·simp only[if_pos h20];have hd:decide ((p.length:Int)≤40)=true:=decide_eq_true (by omega);simp only[eX.l0,hd,aZ]
   cases e:xM c with
   |true=>
    simp only[if_true];refine⟨(fun v hv=>by cases hv),fun s' hs=>⟨?_,fun v hv=>?_⟩⟩
    ·cases hs;simp
    ·refine vp (by omega) (vc ?_);simp only[eX.j1,e1,w1,aZ];clear w1 e1;exact vp trivial (vp (by omega) (vp (by omega) (vb (Fb c) (vp e hv))))
   |false=>
    refine⟨(fun v hv=>?_),fun s' hs=>by simp at hs⟩;simp only[Bool.false_eq_true,if_false,Sum.inl.injEq]at hv;subst hv;refine vp (by omega) (vc ?_);simp only[eX.j1,e1,w1,aZ];clear w1 e1;exact vp trivial (vp (by omega) (vp (by omega) (vb (Fb c) (vn (by rw[e];simp) (vs _)))))
  ·simp only[if_neg h20];have hd:decide ((p.length:Int)≤40)=false:=decide_eq_false (by omega);refine⟨(fun v hv=>?_),fun s' hs=>by cases hs⟩;cases hv;simp only[eX.l0,hd,aZ];clear w1 e1;exact vp (by omega) (hj' _)
 ·intro s hs;subst hs;simp only[eX.l0,aZ];exact vn (by omega) (hj' _)
 ·unfold Yg
  have key:∀(r:Str) (n:Nat),n+r.length=l.length→run (fun n c=>if n≤40 then(if xM c=true then .inr (n+1)else .inl false)else .inl (decide (1≤l.length)&&decide (l.length≤40))) (fun _=>decide (1≤l.length)&&decide (l.length≤40)) r n=(decide (1≤l.length)&&decide (l.length≤40)&&r.all xM):=by
   intro r
   induction r with
   |nil=>intro n _;simp[run]
   |cons c r ih=>
    intro n hn;simp only[List.length_cons]at hn;unfold run;by_cases h20:n≤40
    ·simp only[if_pos h20]
     cases e:xM c with
     |true=>simp[e,ih (n+1) (by omega)]
     |false=>simp[e]
    ·simp only[if_neg h20];have:decide (l.length≤40)=false:=decide_eq_false (by omega);simp[this]
  exact key l 0 (by omega)
def nmB(c:UInt8):Bool:=Hl c||decide (c=45)
def Np(l:Str):Bool:=decide (l.length≤30)&&(match l with
 |[]=>false
 |c:: _=>Ov c)&&l.all nmB
def aBY(c:UInt8):UInt8:=if 65≤c∧c≤90 then c+32 else c
def low(l:Str):Str:=l.map aBY
def isSmall(l:Str):Bool:=Np l&&decide (low l=l)
theorem adF{l:Str}(h:Np l=true):l.length≤30:=by
 unfold Np at h;simp at h;exact h.1.1
theorem MP(a b:Str):(a==b)=decide (a=b):=by
 rw[Bool.eq_iff_iff];simp
theorem anx(c:UInt8):YQ (c.toNat:Int)=((aBY c).toNat:Int):=by
 revert c
 exact acg (by decide+kernel)
theorem anz(l:Str):(zn l).map YQ=zn (low l):=by
 unfold zn low;rw[List.map_map,List.map_map];exact List.map_congr_left (fun c _=>anx c)
theorem GR(l:Str):(low l).length=l.length:=by unfold low;simp
theorem nO(l:Str)(hl:l.length≤140737488355328):iC.f (dK l)=some (dK (low l)):=by
 unfold iC.f;rw[aZ,if_pos hl,UU,anz,Af]
theorem nP(l:Str)(hl:l.length≤140737488355328):gu.f (dK l)=some (dK (low l)):=by
 unfold gu.f;rw[aZ,if_pos hl,UU,anz,Af]
theorem TR(a b:Str)(ha:a.length≤140737488355328)(hb:b.length≤140737488355328):sW.f (dK a) (dK b)=some (decide (low a=low b)):=by
 unfold sW.f;rw[nO a ha,nO b hb];simp only[Option.bind_some,oD,MP]
theorem TS(a b:Str)(ha:a.length≤140737488355328)(hb:b.length≤140737488355328):tq.f (dK a) (dK b)=some (decide (low a=low b)):=by
 unfold tq.f;rw[nP a ha,nP b hb];simp only[Option.bind_some,oD,MP]
theorem Iw(c:UInt8):sZ.f (c.toNat:Int)=some (nmB c):=by
 unfold sZ.f nmB Hl;rw[AZ,JX];have:=yP c 45 (by omega);by_cases e:c=45
 ·have h2:=this.mpr e;cases Ov c<;>cases ajE c<;>simp[e,h2]
 ·have h2:¬(c.toNat:Int)=45:=fun hh=>e (this.mp hh)
  cases Ov c<;>cases ajE c<;>simp[e,h2]
theorem F6(l:Str)(hl:l.length≤1000000000000000):Ev (fun k=>eU.f k (dK l)) (l.all nmB):=by
 unfold eU.f;rw[aZ];refine vq (pU (xs:=l) (F:=fun k (_:Unit) i=>eU.l0 k (dK l) (l.length:Int) i) (st:=fun _ c=>if nmB c=true then .inr ()else .inl false) (fin:=fun _=>true) (s:=()) (fun _ _=>True) trivial ?_ ?_) ?_
 ·intro p c r s h _;have hz:=iI h;have e1:=lG h;have w1:wrap64 ((p.length:Int)+1)=(p.length:Int)+1:=bQ (by omega) (by omega);simp only[eU.l0,e1,w1,aZ];clear w1 e1
  cases e:nmB c with
  |true=>
   simp only[if_true];refine⟨(fun v hv=>by cases hv),fun s' hs=>⟨trivial,fun v hv=>?_⟩⟩;refine vp (by omega) (vp (by omega) (vp (by omega) (kK (Iw c) (vp e hv))))
  |false=>
   refine⟨(fun v hv=>?_),fun s' hs=>by simp at hs⟩;simp only[Bool.false_eq_true,if_false,Sum.inl.injEq]at hv;subst hv;refine vp (by omega) (vp (by omega) (vp (by omega) (kK (Iw c) (vn (by rw[e];simp) (vs _)))))
 ·intro s _;simp only[eU.l0];exact vn (by omega) (vs _)
 ·clear hl
  induction l with
  |nil=>rfl
  |cons c r ih=>
   unfold run
   cases e:nmB c with
   |true=>simp[e,ih]
   |false=>simp[e]
theorem Le(l:Str)(hl:l.length≤1000000000000000):Ev (fun k=>jM.f k (dK l)) (Np l):=by
 unfold jM.f Np;rw[aZ]
 cases l with
 |nil=>exact vn (by simp) (vs _)
 |cons c r=>
  simp only[aiv];refine vp (by simp only[List.length_cons];omega) ?_;by_cases h2:(c:: r).length≤30
  ·rw[decide_eq_true h2];refine vp (by omega) (vp (by simp) (kK (AZ c) ?_))
   cases e:Ov c with
   |true=>exact vp rfl (vb (F6 (c:: r) hl) (vs _))
   |false=>exact vn (by simp) (vs _)
  ·rw[decide_eq_false h2];exact vn (by omega) (vs _)
theorem xP(l:Str)(hl:l.length≤140737488355328):Ev (fun k=>iw.f k (dK l)) (isSmall l):=by
 unfold iw.f isSmall;refine vb (Le l (by omega)) ?_
 cases e:Np l with
 |true=>
  refine vp rfl (kK (nO l hl) (vq (vs _) ?_));simp only[oD,MP,Bool.true_and]
 |false=>exact vn (by simp) (vs _)
theorem Lh(l:Str)(hl:l.length≤1000000000000000):Ev (fun k=>dJ.f k (dK l)) (Np l):=by
 unfold dJ.f
 have hj':∀i:Int,Ev (fun k=>dJ.j1 k (dK l) i false) (decide (1≤l.length)&&decide (l.length≤30)):=by
  intro i;refine vc ?_;simp only[dJ.j1,aZ];by_cases h1:1≤l.length
  ·rw[decide_eq_true h1];refine vn (by simp) (vp (by omega) (vq (vs _) ?_));rw[Bool.true_and];by_cases h2:l.length≤30
   ·rw[decide_eq_true h2];exact decide_eq_true (by omega)
   ·rw[decide_eq_false h2];exact decide_eq_false (by omega)
  ·rw[decide_eq_false h1];exact vn (by simp) (vn (by omega) (vs _))
 refine vq (pU (xs:=l) (F:=fun k (_:Nat) i=>dJ.l0 k (dK l) i) (st:=fun n c=>if n≤30 then(if nmB c=true then(if n=0 then(if Ov c=true then .inr (n+1)else .inl false)else .inr (n+1))else .inl false)else .inl (decide (1≤l.length)&&decide (l.length≤30))) (fin:=fun _=>decide (1≤l.length)&&decide (l.length≤30)) (s:=0) (fun p n=>n=p.length) rfl ?_ ?_) ?_
 ·intro p c r n h hn;subst hn;have hz:=iI h;have e1:=lG h;have w1:wrap64 ((p.length:Int)+1)=(p.length:Int)+1:=bQ (by omega) (by omega);by_cases h20:p.length≤30
  ·simp only[if_pos h20];have hd:decide ((p.length:Int)≤30)=true:=decide_eq_true (by omega);simp only[dJ.l0,hd,aZ];have h45:=yP c 45 (by omega);have hlet:nmB c=true→(Ov c=true↔¬(c.toNat:Int)≤57):=acg (p:=fun c=>nmB c=true→(Ov c=true↔¬(c.toNat:Int)≤57)) (by decide+kernel) c
   cases e:nmB c with
   |true=>
    have hlt:=hlet e
    have go:∀v,Ev (fun k=>if(p.length:Int)=0 then(if(c.toNat:Int)≤57 then some false else dJ.l0 k (dK l) ((p.length:Int)+1))else dJ.l0 k (dK l) ((p.length:Int)+1)) v→Ev (fun k=>if(p.length:Int)<(l.length:Int)then dJ.j1 (k+0) (dK l) (p.length:Int) true else dJ.j1 (k+0) (dK l) (p.length:Int) false) v:=by
     intro v hv;refine vp (by omega) (vc ?_);simp only[dJ.j1,e1,w1,aZ];clear w1 e1;refine vp trivial (vp (by omega) (vp (by omega) (kK (uH c) ?_)))
     cases ea:Hl c with
     |true=>exact vp rfl hv
     |false=>
      have:c=45:=by
       unfold nmB at e;rw[ea,Bool.false_or]at e;exact of_decide_eq_true e
      exact vn (by simp) (vp (h45.mpr this) hv)
    simp only[if_true];by_cases h0:p.length=0
    ·simp only[if_pos h0];by_cases hL:Ov c=true
     ·simp only[if_pos hL];refine⟨(fun v hv=>by cases hv),fun s' hs=>⟨?_,fun v hv=>?_⟩⟩
      ·cases hs;simp
      ·exact go v (vp (by omega) (vn (hlt.mp hL) hv))
     ·simp only[if_neg hL];refine⟨(fun v hv=>?_),fun s' hs=>by cases hs⟩;cases hv;exact go false (vp (by omega) (vp (Decidable.not_not.mp (fun hh=>hL (hlt.mpr hh))) (vs _)))
    ·simp only[if_neg h0];refine⟨(fun v hv=>by cases hv),fun s' hs=>⟨?_,fun v hv=>?_⟩⟩
     ·cases hs;simp
     ·exact go v (vn (by omega) hv)
   |false=>
    refine⟨(fun v hv=>?_),fun s' hs=>by simp at hs⟩;simp only[Bool.false_eq_true,if_false,Sum.inl.injEq]at hv;subst hv;refine vp (by omega) (vc ?_);simp only[dJ.j1,e1,w1,aZ];clear w1 e1;unfold nmB at e;rw[Bool.or_eq_false_iff]at e;exact vp trivial (vp (by omega) (vp (by omega) (kK (uH c) (vn (by rw[e.1];simp) (vn (fun hh=>(of_decide_eq_false e.2) (h45.mp hh)) (vs _))))))
  ·simp only[if_neg h20];have hd:decide ((p.length:Int)≤30)=false:=decide_eq_false (by omega);refine⟨(fun v hv=>?_),fun s' hs=>by cases hs⟩;cases hv;simp only[dJ.l0,hd,aZ];clear w1 e1;exact vp (by omega) (hj' _)
 ·intro s hs;subst hs;simp only[dJ.l0,aZ];exact vn (by omega) (hj' _)
 ·have key:∀(r:Str) (n:Nat),1≤n→n+r.length=l.length→run (fun n c=>if n≤30 then(if nmB c=true then(if n=0 then(if Ov c=true then .inr (n+1)else .inl false)else .inr (n+1))else .inl false)else .inl (decide (1≤l.length)&&decide (l.length≤30))) (fun _=>decide (1≤l.length)&&decide (l.length≤30)) r n=(decide (l.length≤30)&&r.all nmB):=by
   intro r
   induction r with
   |nil=>intro n h1 h2;have:decide (1≤l.length)=true:=decide_eq_true (by simp at h2;omega);simp only[run,this];simp
   |cons c r ih=>
    intro n h1 hn;simp only[List.length_cons]at hn;unfold run;have h1l:decide (1≤l.length)=true:=decide_eq_true (by omega);by_cases h20:n≤30
    ·simp only[if_pos h20,if_neg (show¬n=0 by omega)]
     cases e:nmB c with
     |true=>simp[e,ih (n+1) (by omega) (by omega)]
     |false=>simp[e]
    ·simp only[if_neg h20];have:decide (l.length≤30)=false:=decide_eq_false (by omega);simp[this]
  cases l with
  |nil=>simp[run,Np]
  |cons c r=>
   unfold run Np;have hc:=key r 1 (by omega) (by simp;omega);simp only[if_pos (show(0:Nat)≤30 by omega),if_true]
   cases e:nmB c with
   |true=>
    cases e2:Ov c with
    |true=>simp only[if_true];rw[hc];simp[e]
    |false=>simp
   |false=>simp[e]
theorem Fe(l:Str)(hl:l.length≤140737488355328):Ev (fun k=>kZ.f k (dK l)) (isSmall l):=by
 unfold kZ.f isSmall;refine vb (Lh l (by omega)) ?_
 cases e:Np l with
 |true=>
  refine vp rfl (kK (nP l hl) (vq (vs _) ?_));simp only[oD,MP,Bool.true_and]
 |false=>exact vn (by simp) (vs _)
def fidx(n:Str):List (Str×Str)→Nat→Int
 |[],_=>-1
 |c:: r,i=>if low c.1=low n then(i:Int)else fidx n r (i+1)
def small(ls:List (Str×Str)):Prop:=∀x∈ls,x.1.length≤1048576∧x.2.length≤1048576
theorem Iy{ls:List (Str×Str)}(h:Hu ls≤1048576):small ls:=fun x hx=>by
 have:=aq2 hx;exact⟨by omega,by omega⟩
theorem Yh(n:Str)(r:List (Str×Str)):∀i:Nat,fidx n r i= -1∨((i:Int)≤fidx n r i∧fidx n r i<i+r.length):=by
 induction r with
 |nil=>intro i;exact Or.inl rfl
 |cons c r ih=>
  intro i;unfold fidx;split
  ·right;simp only[List.length_cons];omega
  ·rcases ih (i+1)with h|⟨h1,h2⟩
   ·exact Or.inl h
   ·right;simp only[List.length_cons];omega
theorem adG(n:Str)(r:List (Str×Str)):∀i:Nat,run (fun(i:Nat) (c:Str×Str)=>if low c.1=low n then .inl (i:Int)else .inr (i+1)) (fun _=>(-1:Int)) r i=fidx n r i:=by
 induction r with
 |nil=>intro i;rfl
 |cons c r ih=>
  intro i;unfold run fidx;by_cases e:low c.1=low n
  ·simp only[if_pos e]
  ·simp only[if_neg e,ih]
theorem Lj(ls:List (Str×Str))(n:Str)(hs:small ls)(hn:n.length≤1048576)(hl:ls.length≤1048576):Ev (fun k=>jQ.f k (ls.map vI) (dK n)) (fidx n ls 0):=by
 unfold jQ.f;refine vq (pU (xs:=ls) (F:=fun k (_:Nat) i=>jQ.l0 k (ls.map vI) (dK n) i) (st:=fun i c=>if low c.1=low n then .inl (i:Int)else .inr (i+1)) (fin:=fun _=>(-1:Int)) (s:=0) (fun p i=>i=p.length) rfl ?_ ?_) (adG n ls 0)
 ·intro p c r i h hi;subst hi;have hz:=iI h;have e1:=yj h;have hc:=hs c (by rw[h];simp);have w1:wrap64 ((p.length:Int)+1)=(p.length:Int)+1:=bQ (by omega) (by omega);have hq:=TS c.1 n (by omega) (by omega);simp only[jQ.l0,e1,w1,List.length_map,vI,hq];clear w1 e1;by_cases e:low c.1=low n
  ·simp only[if_pos e];refine⟨(fun v hv=>?_),fun s' hs=>by cases hs⟩;cases hv;exact vp (by omega) (vp (by omega) (kK rfl (vp (decide_eq_true e) (vs _))))
  ·simp only[if_neg e];refine⟨(fun v hv=>by cases hv),fun s' hs=>⟨?_,fun v hv=>?_⟩⟩
   ·cases hs;simp
   ·exact vp (by omega) (vp (by omega) (kK rfl (vn (by simp[e]) hv)))
 ·intro s _;simp only[jQ.l0,List.length_map];exact vn (by omega) (vs _)
theorem Fg(ls:List (Str×Str))(n:Str)(hs:small ls)(hn:n.length≤1048576)(hl:ls.length≤1048576):Ev (fun k=>lW.f k (ls.map vI) (dK n)) (fidx n ls 0):=by
 unfold lW.f eY.f;refine vb ?_ (vs _);rw[List.length_map];refine vq (pU (xs:=ls) (F:=fun k (_:Nat) i=>eY.l0 k (ls.map vI) (ls.length:Int) i (dK n)) (st:=fun i c=>if low c.1=low n then .inl (i:Int)else .inr (i+1)) (fin:=fun _=>(-1:Int)) (s:=0) (fun p i=>i=p.length) rfl ?_ ?_) (adG n ls 0)
 ·intro p c r i h hi;subst hi;have hz:=iI h;have e1:=yj h;have hc:=hs c (by rw[h];simp);have w1:wrap64 ((p.length:Int)+1)=(p.length:Int)+1:=bQ (by omega) (by omega);have hq:=TR c.1 n (by omega) (by omega);simp only[eY.l0,qC.f,e1,w1,List.length_map,vI,hq,Option.bind_some];clear w1 e1;by_cases e:low c.1=low n
  ·simp only[if_pos e];refine⟨(fun v hv=>?_),fun s' hs=>by cases hs⟩;cases hv;exact vp (by omega) (vp (by omega) (vp (by omega) (vp (decide_eq_true e) (vs _))))
  ·simp only[if_neg e];refine⟨(fun v hv=>by cases hv),fun s' hs=>⟨?_,fun v hv=>?_⟩⟩
   ·cases hs;simp
   ·exact vp (by omega) (vp (by omega) (vp (by omega) (vn (by simp[e]) hv)))
 ·intro s _;simp only[eY.l0];exact vn (by omega) (vs _)
def okB(c:UInt8):Bool:=32≤c&&c≤126
def nH(l:Str):Bool:=l.all okB&&decide (l.length≤200)
theorem anA(c:UInt8)(h:(c.toNat:Int)<32):okB c=false:=by
 have:c<32:=(aBZ c 32 (by omega)).mp h;unfold okB;simp[UInt8.le_iff_toNat_le,UInt8.lt_iff_toNat_lt]at this⊢;omega
theorem anB(c:UInt8)(h:(c.toNat:Int)>126):okB c=false:=by
 unfold okB;simp[UInt8.le_iff_toNat_le,UInt8.lt_iff_toNat_lt];omega
theorem aiw(c:UInt8)(h:¬(c.toNat:Int)<32)(h2:¬(c.toNat:Int)>126):okB c=true:=by
 unfold okB;simp[UInt8.le_iff_toNat_le,UInt8.lt_iff_toNat_lt];omega
theorem Ox{l:Str}(h:nH l=true):l.length≤200:=by
 unfold nH at h;simp at h;exact h.2
theorem Nq(l:Str)(hl:l.length≤1000000000000000)(r:Str):∀(p:Str),l=p++r→Ev (fun k=>bC.l0 k (dK l) (l.length:Int) (p.length:Int)) (r.all okB&&decide (l.length≤200)):=by
 induction r with
 |nil=>
  intro p h;have hz:l.length=p.length:=by rw[h,List.append_nil]
  refine vc ?_;simp only[bC.l0,aZ];repeat(first|refine vp (by first|assumption|omega|decide) ?_|refine vn (by first|assumption|omega|decide) ?_)
  exact vq (vs _) (by simp;omega)
 |cons c r ih=>
  intro p h;have hz:l.length=p.length+(r.length+1):=by rw[h];simp
  have e1:bt (dK l) (p.length:Int)=(c.toNat:Int):=by rw[h];exact afK p r c
  have:=ih (p++[c]) (by rw[h];simp);rw[jD]at this;refine vc ?_;simp(disch:=omega) only[bC.l0,aZ,e1,bQ];by_cases h1:(c.toNat:Int)<32
  ·repeat(first|refine vp (by first|assumption|omega|decide) ?_|refine vn (by first|assumption|omega|decide) ?_)
   exact vq (vs _) (by simp[anA c h1])
  ·by_cases h2:(c.toNat:Int)>126
   ·repeat(first|refine vp (by first|assumption|omega|decide) ?_|refine vn (by first|assumption|omega|decide) ?_)
    exact vq (vs _) (by simp[anB c h2])
   ·repeat(first|refine vp (by first|assumption|omega|decide) ?_|refine vn (by first|assumption|omega|decide) ?_)
    exact vq this (by simp[aiw c h1 h2])
theorem qL(l:Str)(hl:l.length≤1000000000000000):Ev (fun k=>bC.f k (dK l)) (nH l):=by
 unfold bC.f;rw[aZ];exact Nq l hl l [] rfl
theorem Nr(l:Str)(hl:l.length≤1000000000000000)(r:Str):∀(p:Str),l=p++r→Ev (fun k=>bf.l0 k (dK l) (p.length:Int)) (r.all okB&&decide (l.length≤200)):=by
 induction r with
 |nil=>
  intro p h;have hz:l.length=p.length:=by rw[h,List.append_nil]
  refine vc ?_;simp only[bf.l0,aZ];repeat(first|refine vp (by first|assumption|omega|decide) ?_|refine vn (by first|assumption|omega|decide) ?_)
  refine vc ?_;simp only[bf.j1,aZ];repeat(first|refine vp (by first|assumption|omega|decide) ?_|refine vn (by first|assumption|omega|decide) ?_)
  exact vq (vs _) (by simp;omega)
 |cons c r ih=>
  intro p h;have hz:l.length=p.length+(r.length+1):=by rw[h];simp
  have e1:bt (dK l) (p.length:Int)=(c.toNat:Int):=by rw[h];exact afK p r c
  have:=ih (p++[c]) (by rw[h];simp);rw[jD]at this;by_cases h0:(p.length:Int)≤200
  ·refine vc ?_;simp only[bf.l0,aZ];repeat(first|refine vp (by first|assumption|omega|decide) ?_|refine vn (by first|assumption|omega|decide) ?_)
   refine vc ?_;simp(disch:=omega) only[bf.j1,aZ,e1,bQ,decide_eq_true h0];by_cases h1:(c.toNat:Int)<32
   ·repeat(first|refine vp (by first|assumption|omega|decide) ?_|refine vn (by first|assumption|omega|decide) ?_)
    exact vq (vs _) (by simp[anA c h1])
   ·by_cases h2:(c.toNat:Int)>126
    ·repeat(first|refine vp (by first|assumption|omega|decide) ?_|refine vn (by first|assumption|omega|decide) ?_)
     exact vq (vs _) (by simp[anB c h2])
    ·repeat(first|refine vp (by first|assumption|omega|decide) ?_|refine vn (by first|assumption|omega|decide) ?_)
     exact vq this (by simp[aiw c h1 h2])
  ·refine vc ?_;simp only[bf.l0,aZ];repeat(first|refine vp (by first|assumption|omega|decide) ?_|refine vn (by first|assumption|omega|decide) ?_)
   refine vc ?_;simp only[bf.j1,aZ,decide_eq_false h0];repeat(first|refine vp (by first|assumption|omega|decide) ?_|refine vn (by first|assumption|omega|decide) ?_)
   have d1:decide ((l.length:Int)≤200)=false:=decide_eq_false (by omega);have d2:decide (l.length≤200)=false:=decide_eq_false (by omega);exact vq (vs _) (by rw[d1,d2,Bool.and_false])
theorem sS(l:Str)(hl:l.length≤1000000000000000):Ev (fun k=>bf.f k (dK l)) (nH l):=by
 unfold bf.f;exact Nr l hl l [] rfl
def TT(c:UInt8):Str:=if c=34∨c=92 then[92,c]else[c]
def esc:Str→Str
 |[]=>[]
 |c:: r=>TT c++esc r
def quote(l:Str):Str:=34:: (esc l++[34])
def qw(l:Str):Str:=if nH l=true then(if Yg l=true then l else quote l)else[]
theorem Yi(a b:Str):esc (a++b)=esc a++esc b:=by
 induction a with
 |nil=>rfl
 |cons c a ih=>simp only[List.cons_append,esc,ih,List.append_assoc]
theorem anC(c:UInt8):(TT c).length≤2:=by unfold TT;split<;>simp
theorem Rz(l:Str):(esc l).length≤2*l.length:=by
 induction l with
 |nil=>simp[esc]
 |cons c r ih=>have:=anC c;simp only[esc,List.length_append,List.length_cons];omega
theorem afL(l:Str):(qw l).length≤2*l.length+2:=by
 unfold qw quote;have:=Rz l;split
 ·split
  ·omega
  ·simp only[List.length_cons,List.length_append,List.length_nil];omega
 ·simp
theorem RD(l:Str)(hl:l.length≤1048576):Ev (fun k=>jq.f k (dK l)) (dK (qw l)):=by
 have key:∀(r p:Str),l=p++r→Ev (fun k=>jq.l0 k (dK l) (zn (34:: esc p)) (l.length:Int) (p.length:Int)) (dK (quote l)):=by
  intro r
  induction r with
  |nil=>
   intro p h;rw[List.append_nil]at h;subst h;have h1:=Rz l;refine vc ?_;simp only[jq.l0,TU];refine vn (by omega) (vp (by simp only[List.length_cons];omega) (vq (vs _) ?_));rw[show([34]:List Int)=zn [34]from rfl,←MQ,Af];rfl
  |cons c r ih=>
   intro p h;have hz:=iI h;have e1:=lG h;have h1:=Rz p;have hh:=ih (p++[c]) (by rw[h];simp);rw[jD,Yi]at hh;have w1:wrap64 ((p.length:Int)+1)=(p.length:Int)+1:=bQ (by omega) (by omega);have Yj:=yP c 34 (by omega);have h92:=yP c 92 (by omega);have b1:(34:: esc p:Str).length<140737488355328:=by simp only[List.length_cons];omega
   have b2:(34:: esc p++[92]:Str).length<140737488355328:=by simp only[List.length_cons,List.length_append,List.length_nil];omega
   refine vc ?_;have e92:([92]:List Int)=zn [92]:=rfl;have ec:([(c.toNat:Int)]:List Int)=zn [c]:=rfl;simp only[jq.l0,e1,w1,aZ,TU,Option.bind_some,e92,ec,←MQ];clear w1 e1;refine vp (by omega) (vp (by omega) (vp (by omega) ?_));have two:TT c=[92,c]→(34:: esc p++[92])++[c]=34:: (esc p++(esc [c])):=fun h=>by simp[esc,h]
   have one:TT c=[c]→(34:: esc p)++[c]=34:: (esc p++(esc [c])):=fun h=>by simp[esc,h]
   by_cases c1:(c.toNat:Int)=34
   ·have hc:c=34:=Yj.mp c1;refine vp c1 (vp b1 (vp b2 ?_));rw[two (by unfold TT;rw[if_pos (Or.inl hc)])];exact hh
   ·have hc:¬c=34:=fun h=>c1 (Yj.mpr h)
    by_cases c2:(c.toNat:Int)=92
    ·have hc2:c=92:=h92.mp c2;refine vn c1 (vp c2 (vp b1 (vp b2 ?_)));rw[two (by unfold TT;rw[if_pos (Or.inr hc2)])];exact hh
    ·have hc2:¬c=92:=fun h=>c2 (h92.mpr h)
     refine vn c1 (vn c2 (vp b1 ?_));rw[one (by unfold TT;rw[if_neg (by simp[hc,hc2])])];exact hh
 unfold jq.f qw;refine vb (qL l (by omega)) ?_
 cases e1:nH l with
 |false=>exact vn (by simp) (vq (vs _) rfl)
 |true=>
  refine vp rfl (vb (Rx l (by omega)) ?_)
  cases e2:Yg l with
  |true=>exact vp rfl (vs _)
  |false=>
   have:=key l [] rfl;simp only[aZ];exact vn (by simp) this
theorem RF(l:Str)(hl:l.length≤1048576):Ev (fun k=>uF.f k (dK l)) (dK (qw l)):=by
 have key:∀(r p:Str),l=p++r→Ev (fun k=>jZ.l0 k (dK l) (dK (34:: esc p)) (p.length:Int)) (dK (quote l)):=by
  intro r
  induction r with
  |nil=>
   intro p h;rw[List.append_nil]at h;subst h;have h1:=Rz l;refine vc ?_;simp only[jZ.l0,aZ];refine vn (by omega) (vp (by simp only[List.length_cons];omega) (vq (vs _) ?_));rw[show(⟨#[34]⟩:ByteArray)=dK [34]from rfl,qP];rfl
  |cons c r ih=>
   intro p h;have hz:=iI h;have e1:=lG h;have h1:=Rz p;have hh:=ih (p++[c]) (by rw[h];simp);rw[jD,Yi]at hh;have w1:wrap64 ((p.length:Int)+1)=((p.length+1:Nat):Int):=(bQ (by omega) (by omega)).trans (by omega);have w2:((p.length+1:Nat):Int)=(p.length:Int)+1:=by omega
   have Yj:=yP c 34 (by omega);have h92:=yP c 92 (by omega);have e3:strOfNums ([92]:List Int)=dK [92]:=Af [92]
   have e4:(l.drop p.length).take (p.length+1-p.length)=[c]:=by
    rw[h,List.drop_left,show p.length+1-p.length=1 by omega];rfl
   refine vc ?_;simp only[jZ.l0,e1,w1,aZ,Option.bind_some,e3,Int.toNat_natCast,nR,e4,qP];clear w1 e1 e3 e4;simp only[w2];refine vp (by omega) (vp (by omega) ?_);have two:TT c=[92,c]→(34:: esc p++[92])++[c]=34:: (esc p++(esc [c])):=fun h=>by simp[esc,h]
   have one:TT c=[c]→(34:: esc p)++[c]=34:: (esc p++(esc [c])):=fun h=>by simp[esc,h]
   have b1:(34:: esc p:Str).length+([92]:Str).length≤9223372036854775807:=by simp only[List.length_cons,List.length_nil];omega
   have b2:(34:: esc p++[92]:Str).length+([c]:Str).length≤9223372036854775807:=by simp only[List.length_cons,List.length_append,List.length_nil];omega
   have b3:(34:: esc p:Str).length+([c]:Str).length≤9223372036854775807:=by simp only[List.length_cons,List.length_nil];omega
   by_cases c1:(c.toNat:Int)=34
   ·have hc:c=34:=Yj.mp c1;refine vp c1 (vp b1 (vp (by omega) (vp (by omega) (vp b2 ?_))));rw[two (by unfold TT;rw[if_pos (Or.inl hc)])];exact hh
   ·have hc:¬c=34:=fun h=>c1 (Yj.mpr h)
    by_cases c2:(c.toNat:Int)=92
    ·have hc2:c=92:=h92.mp c2;refine vn c1 (vp c2 (vp b1 (vp (by omega) (vp (by omega) (vp b2 ?_)))));rw[two (by unfold TT;rw[if_pos (Or.inr hc2)])];exact hh
    ·have hc2:¬c=92:=fun h=>c2 (h92.mpr h)
     refine vn c1 (vn c2 (vp (by omega) (vp (by omega) (vp b3 ?_))));rw[one (by unfold TT;rw[if_neg (by simp[hc,hc2])])];exact hh
 unfold uF.f qw;refine vb (sS l (by omega)) ?_
 cases e1:nH l with
 |false=>exact vn (by simp) (vq (vs _) rfl)
 |true=>
  refine vp rfl (vb (Ry l (by omega)) ?_)
  cases e2:Yg l with
  |true=>exact vp rfl (vs _)
  |false=>
   have:=key l [] rfl;unfold jZ.f;exact vn (by simp) (vb this (vs _))
def aix(p:Str×Str):Str:=[59,32]++p.1++[61]++qw p.2
def uN:List (Str×Str)→Str
 |[]=>[]
 |c:: r=>aix c++uN r
def RG(a b:Str)(ps:List (Str×Str)):Str:=(a++[47]++b)++uN ps
def kfl(q:List (Str×Str)):List (Str×Str)→Bool
 |[]=>true
 |c:: r=>isSmall c.1&&(nH c.2&&decide (c.2.length≤40))&&decide (¬(fidx c.1 q 0≥0))&&kfl (q++[c]) r
def xg(a b:Str)(ps:List (Str×Str)):Bool:=isSmall a&&isSmall b&&decide (¬(ps.length>4))&&kfl [] ps&&decide ((RG a b ps).length≤150)
theorem ZR(p:Str×Str):(aix p).length=3+p.1.length+(qw p.2).length:=by
 unfold aix;simp only[List.length_append,List.length_cons,List.length_nil];omega
theorem RH(a b:List (Str×Str)):uN (a++b)=uN a++uN b:=by
 induction a with
 |nil=>rfl
 |cons c a ih=>simp only[List.cons_append,uN,ih,List.append_assoc]
theorem ZT(ps:List (Str×Str)):(uN ps).length≤2*Hu ps+5*ps.length:=by
 induction ps with
 |nil=>simp[uN]
 |cons c r ih=>
  have h1:=ZR c;have h2:=afL c.2;simp only[uN,Hu,List.length_append,List.length_cons];omega
theorem JI(a b:List (Str×Str)):Hu (a++b)=Hu a+Hu b:=by
 induction a with
 |nil=>simp[Hu]
 |cons c a ih=>simp only[List.cons_append,Hu,ih];omega
theorem Yk{ls p r:List (Str×Str)}(h:ls=p++r)(hs:small ls):small p:=fun x hx=>hs x (by rw[h];exact List.mem_append_left _ hx)
theorem RI{ls p r:List (Str×Str)}(h:ls=p++r):(ls.map vI).take p.length=p.map vI:=by
 rw[h,List.map_append];exact List.take_left' (by simp)
theorem TV(a b:Str)(ps:List (Str×Str))(ha:a.length≤1048576)(hb:b.length≤1048576)(hz:Hu ps≤1048576)(hn:ps.length≤1048576):Ev (fun k=>kH.f k (dK a) (dK b) (ps.map vI)) (dK (RG a b ps)):=by
 have hs:=Iy hz;unfold kH.f;have e47:(⟨#[47]⟩:ByteArray)=dK [47]:=rfl;simp only[e47,qP,aZ,List.length_map];refine vp (by omega) (vp (by first|omega|(simp only[List.length_append,List.length_cons,List.length_nil];omega)) ?_)
 have key:∀(r p:List (Str×Str)),ps=p++r→Ev (fun k=>kH.l0 k (dK (a++[47]++b++uN p)) (ps.map vI) (ps.length:Int) (p.length:Int)) (dK (RG a b ps)):=by
  intro r
  induction r with
  |nil=>
   intro p h;rw[List.append_nil]at h;subst h;refine vc ?_;simp only[kH.l0];exact vn (by omega) (vs _)
  |cons c r ih=>
   intro p h;have hz2:=iI h;have e1:=yj h;have hc:=hs c (by rw[h];simp);have hh:=ih (p++[c]) (by rw[h];simp);rw[jD,RH]at hh;have hq:=afL c.2
   have hp:(uN p).length≤20000000:=by
    have h1:=ZT p;have h2:Hu p≤Hu ps:=by rw[h,JI];omega
    omega
   have hi:=RD c.2 (by omega);have w1:wrap64 ((p.length:Int)+1)=(p.length:Int)+1:=bQ (by omega) (by omega);have e59:(⟨#[59,32]⟩:ByteArray)=dK [59,32]:=rfl;have e61:(⟨#[61]⟩:ByteArray)=dK [61]:=rfl;refine vc ?_;simp only[kH.l0,e1,w1,vI,e59,e61,aZ,qP,List.length_map];clear w1 e1;refine vp (by omega) (vp (by omega) (vp (by omega) (vp (by first|omega|(simp only[List.length_cons,List.length_nil];omega)) (vp (by first|omega|(simp only[List.length_append,List.length_cons,List.length_nil];omega)) (vb hi ?_)))));simp only[aZ,qP];refine vp (by first|omega|(simp only[List.length_append,List.length_cons,List.length_nil];omega)) (vp (by first|omega|(simp only[List.length_append,List.length_cons,List.length_nil];omega)) ?_)
   have e:a++[47]++b++uN p++([59,32]++c.1++[61]++qw c.2)=a++[47]++b++(uN p++uN [c]):=by
    simp[uN,aix]
   rw[e];exact hh
 have:=key ps [] rfl
 simpa [uN] using this
theorem GU(a b:Str)(ps:List (Str×Str))(ha:a.length≤1048576)(hb:b.length≤1048576)(hz:Hu ps≤1048576)(hn:ps.length≤1048576):Ev (fun k=>dY.f k (dK a) (dK b) (ps.map vI)) (xg a b ps):=by
 have hs:=Iy hz;have ht:=TV a b ps ha hb hz hn
 have hbad:Ev (fun k=>dY.j0 k true (dK a) (dK b) (ps.map vI)) false:=by
  refine vc ?_;simp only[dY.j0];exact vp trivial (vs _)
 have key:∀(r p:List (Str×Str)),ps=p++r→Ev (fun k=>dY.l0 k (ps.map vI) (ps.length:Int) (p.length:Int) (dK a) (dK b) (ps.map vI)) (kfl p r&&decide ((RG a b ps).length≤150)):=by
  intro r
  induction r with
  |nil=>
   intro p h;rw[List.append_nil]at h;subst h;refine vc ?_;simp only[dY.l0,kfl,Bool.true_and];refine vn (by omega) (vb ht (vq (vs _) ?_));rw[aZ];by_cases h1:(RG a b ps).length≤150
   ·rw[decide_eq_true h1];exact decide_eq_true (by omega)
   ·rw[decide_eq_false h1];exact decide_eq_false (by omega)
  |cons c r ih=>
   intro p h;have hz2:=iI h;have e1:=yj h;have hc:=hs c (by rw[h];simp);have hh:=ih (p++[c]) (by rw[h];simp);rw[jD]at hh;have w1:wrap64 ((p.length:Int)+1)=(p.length:Int)+1:=bQ (by omega) (by omega);have i1:=xP c.1 (by omega);have i2:=qL c.2 (by omega);have i3:=Fg p c.1 (Yk h hs) hc.1 (by omega);have e3:=RI h;refine vc ?_;simp only[dY.l0,kfl,e1,w1,vI,aZ,List.length_map,Int.toNat_natCast];clear w1 e1;refine vp (by omega) (vp (by omega) (vp (by omega) (vb i1 ?_)))
   cases q1:isSmall c.1 with
   |false=>exact vn (by simp) (vs _)
   |true=>
    refine vp rfl (vb i2 ?_)
    cases q2:nH c.2 with
    |false=>exact vn (by simp) (vs _)
    |true=>
     refine vp rfl ?_;by_cases q3:c.2.length≤40
     ·rw[decide_eq_true q3];refine vn (by omega) (vp (by omega) ?_);rw[e3];refine vb i3 ?_;by_cases q4:fidx c.1 p 0≥0
      ·refine vp q4 (vq (vs _) ?_);rw[decide_eq_false (fun hn=>hn q4)];rfl
      ·refine vn q4 ?_;rw[decide_eq_true q4]
       simpa using hh
     ·rw[decide_eq_false q3];exact vp (by omega) (vs _)
 unfold dY.f xg;refine vb (xP a (by omega)) ?_
 cases q1:isSmall a with
 |false=>exact vn (by simp) hbad
 |true=>
  refine vp rfl (vb (xP b (by omega)) ?_)
  cases q2:isSmall b with
  |false=>exact vn (by simp) hbad
  |true=>
   refine vp rfl (vc ?_);simp only[dY.j0,List.length_map];by_cases q3:ps.length>4
   ·refine vp (decide_eq_true (by omega)) (vq (vs _) ?_);rw[decide_eq_false (fun hn=>hn q3)];rfl
   ·refine vn (by simp;omega) ?_;rw[decide_eq_true q3];have:=key ps [] rfl
    simpa using this
theorem Yl(l:Str)(hl:l.length≤1000000000):Ev (fun k=>uM.f k (dK l)) (nH l&&decide (l.length≤40)):=by
 unfold uM.f;refine vb (sS l (by omega)) ?_
 cases q2:nH l with
 |false=>exact vn (by simp) (vs _)
 |true=>
  refine vp rfl (vq (vs _) ?_);rw[aZ,Bool.true_and];by_cases h1:l.length≤40
  ·rw[decide_eq_true h1];exact decide_eq_true (by omega)
  ·rw[decide_eq_false h1];exact decide_eq_false (by omega)
theorem GV(a b:Str)(ps:List (Str×Str))(ha:a.length≤1048576)(hb:b.length≤1048576)(hz:Hu ps≤1048576)(hn:ps.length≤1048576):Ev (fun k=>dQ.f k (dK a) (dK b) (ps.map vI)) (xg a b ps):=by
 have hs:=Iy hz
 have hbad:Ev (fun k=>dQ.j0 k true (dK a) (dK b) (ps.map vI)) false:=by
  refine vc ?_;simp only[dQ.j0];exact vp trivial (vs _)
 have key:∀(r p:List (Str×Str)),ps=p++r→Ev (fun k=>dQ.l0 k (((a++[47]++b++uN p:Str).length:Nat):Int) (p.length:Int) (dK a) (dK b) (ps.map vI)) (kfl p r&&decide ((RG a b ps).length≤150)):=by
  intro r
  induction r with
  |nil=>
   intro p h;rw[List.append_nil]at h;subst h;refine vc ?_;simp only[dQ.l0,kfl,Bool.true_and,List.length_map];refine vn (by omega) (vq (vs _) ?_);have e:a++[47]++b++uN ps=RG a b ps:=rfl;rw[e];by_cases h1:(RG a b ps).length≤150
   ·rw[decide_eq_true h1];exact decide_eq_true (by omega)
   ·rw[decide_eq_false h1];exact decide_eq_false (by omega)
  |cons c r ih=>
   intro p h;have hz2:=iI h;have e1:=yj h;have hc:=hs c (by rw[h];simp);have hh:=ih (p++[c]) (by rw[h];simp);rw[jD]at hh
   have hp:(uN p).length≤20000000:=by
    have h1:=ZT p;have h2:Hu p≤Hu ps:=by rw[h,JI];omega
    omega
   have hq:=afL c.2;have hk:=ZR c;have i1:=Fe c.1 (by omega);have i2:=Yl c.2 (by omega);have i3:=Lj p c.1 (Yk h hs) hc.1 (by omega);have i4:=RF c.2 (by omega);have e3:=RI h
   have en:(a++[47]++b++uN (p++[c]):Str).length=(a++[47]++b++uN p:Str).length+3+c.1.length+(qw c.2).length:=by
    rw[RH];simp only[List.length_append,uN,List.length_nil,hk];omega
   have hm:(a++[47]++b++uN p:Str).length≤30000000:=by
    simp only[List.length_append,List.length_cons,List.length_nil];omega
   rw[en]at hh
   generalize (a++[47]++b++uN p:Str).length=m at hh hm
   have w1:Unit→wrap64 ((p.length:Int)+1)=(p.length:Int)+1∧wrap64 (wrap64 (wrap64 ((m:Int)+3)+(c.1.length:Int))+((qw c.2).length:Int))=((m+3+c.1.length+(qw c.2).length:Nat):Int):=by
    intro _;have x1:wrap64 ((m:Int)+3)=(m:Int)+3:=bQ (by omega) (by omega);rw[x1];clear x1;have x2:wrap64 ((m:Int)+3+(c.1.length:Int))=(m:Int)+3+(c.1.length:Int):=bQ (by omega) (by omega);rw[x2];clear x2;exact⟨bQ (by omega) (by omega),(bQ (by omega) (by omega)).trans (by omega)⟩
   refine vc ?_;simp only[dQ.l0,kfl,e1,(w1 ()).1,vI,aZ,List.length_map,Int.toNat_natCast];refine vp (by omega) (vp (by omega) (vb i1 ?_))
   cases q1:isSmall c.1 with
   |false=>exact vn (by simp) (vs _)
   |true=>
    refine vp rfl (vb i2 ?_)
    cases q2:(nH c.2&&decide (c.2.length≤40))with
    |false=>exact vn (by simp) (vs _)
    |true=>
     refine vp rfl (vp (by omega) ?_);rw[e3];refine vb i3 ?_;by_cases q4:fidx c.1 p 0≥0
     ·refine vp q4 (vq (vs _) ?_);rw[decide_eq_false (fun hn=>hn q4)];rfl
     ·refine vn q4 (vb i4 ?_);rw[decide_eq_true q4];simp only[aZ,(w1 ()).2]
      simpa using hh
 unfold dQ.f xg;refine vb (Fe a (by omega)) ?_
 cases q1:isSmall a with
 |false=>exact vn (by simp) hbad
 |true=>
  refine vp rfl (vb (Fe b (by omega)) ?_)
  cases q2:isSmall b with
  |false=>exact vn (by simp) hbad
  |true=>
   refine vp rfl (vc ?_);simp only[dQ.j0,List.length_map,aZ];by_cases q3:ps.length>4
   ·refine vp (decide_eq_true (by omega)) (vq (vs _) ?_);rw[decide_eq_false (fun hn=>hn q3)];rfl
   ·refine vn (by simp;omega) ?_;rw[decide_eq_true q3];have:=key ps [] rfl;have x1:wrap64 ((a.length:Int)+(b.length:Int))=(a.length:Int)+(b.length:Int):=bQ (by omega) (by omega);rw[x1];clear x1
    have x2:wrap64 ((a.length:Int)+(b.length:Int)+1)=(((a++[47]++b++uN []:Str).length:Nat):Int):=by
     refine(bQ (by omega) (by omega)).trans ?_;simp only[uN,List.length_append,List.length_cons,List.length_nil];omega
    rw[x2]
    simpa using this
theorem BX(c:UInt8):o7.f (c.toNat:Int)=some (Hl c):=by
 unfold o7.f Hl;rw[AZ,JX];cases Ov c<;>simp
theorem BZ(l:Str)(hl:l.length≤1000000000000000):Ev (fun k=>dO.f k (dK l)) (l.all Hl):=by
 unfold dO.f;rw[aZ];refine vq (pU (xs:=l) (F:=fun k (_:Unit) i=>dO.l0 k (dK l) (l.length:Int) i) (st:=fun _ c=>if Hl c=true then .inr ()else .inl false) (fin:=fun _=>true) (s:=()) (fun _ _=>True) trivial ?_ ?_) ?_
 ·intro p c r s h _;have hz:=iI h;have e1:=lG h;have w1:wrap64 ((p.length:Int)+1)=(p.length:Int)+1:=bQ (by omega) (by omega);simp only[dO.l0,e1,w1,aZ];clear w1 e1
  cases e:Hl c with
  |true=>
   simp only[if_true];refine⟨(fun v hv=>by cases hv),fun s' hs=>⟨trivial,fun v hv=>?_⟩⟩;refine vp (by omega) (vp (by omega) (vp (by omega) (kK (BX c) (vp e hv))))
  |false=>
   refine⟨(fun v hv=>?_),fun s' hs=>by simp at hs⟩;simp only[Bool.false_eq_true,if_false,Sum.inl.injEq]at hv;subst hv;refine vp (by omega) (vp (by omega) (vp (by omega) (kK (BX c) (vn (by rw[e];simp) (vs _)))))
 ·intro s _;simp only[dO.l0];exact vn (by omega) (vs _)
 ·clear hl
  induction l with
  |nil=>rfl
  |cons c r ih=>
   unfold run
   cases e:Hl c with
   |true=>simp[e,ih]
   |false=>simp[e]
theorem Fh(l:Str)(hl:l.length≤1000000000000000):Ev (fun k=>lq.f k (dK l)) (Ld l):=by
 unfold lq.f Ld;rw[aZ];by_cases h1:1≤l.length
 ·rw[decide_eq_true h1];refine vp (by omega) ?_;by_cases h2:l.length≤20
  ·rw[decide_eq_true h2];exact vp (by omega) (vb (BZ l hl) (vs _))
  ·rw[decide_eq_false h2];exact vn (by omega) (vs _)
 ·rw[decide_eq_false h1];exact vn (by omega) (vs _)
theorem Fj(l:Str)(hl:l.length≤1000000000000000):Ev (fun k=>dH.f k (dK l)) (Ld l):=by
 unfold dH.f
 have hj:Ev (fun k=>dH.j1 k (dK l) (0:Int) false) (decide (1≤l.length)&&decide (l.length≤20)):=by
  refine vc ?_;simp only[dH.j1,aZ];by_cases h1:1≤l.length
  ·rw[decide_eq_true h1];refine vn (by simp) (vp (by omega) (vq (vs _) ?_));rw[Bool.true_and];by_cases h2:l.length≤20
   ·rw[decide_eq_true h2];exact decide_eq_true (by omega)
   ·rw[decide_eq_false h2];exact decide_eq_false (by omega)
  ·rw[decide_eq_false h1];exact vn (by simp) (vn (by omega) (vs _))
 have hj':∀i:Int,Ev (fun k=>dH.j1 k (dK l) i false) (decide (1≤l.length)&&decide (l.length≤20)):=by
  intro i;obtain⟨K,hK⟩:=hj;refine⟨K+1,fun k hk=>?_⟩;have:=hK k (by omega);obtain⟨m,rfl⟩:∃m,k=m+1:=⟨k-1,by omega⟩
  simp only[dH.j1]at this⊢;exact this
 refine vq (pU (xs:=l) (F:=fun k (_:Nat) i=>dH.l0 k (dK l) i) (st:=fun n c=>if n≤20 then(if Hl c=true then .inr (n+1)else .inl false)else .inl (decide (1≤l.length)&&decide (l.length≤20))) (fin:=fun _=>decide (1≤l.length)&&decide (l.length≤20)) (s:=0) (fun p n=>n=p.length) rfl ?_ ?_) ?_
 ·intro p c r n h hn;subst hn;have hz:=iI h;have e1:=lG h;have w1:wrap64 ((p.length:Int)+1)=(p.length:Int)+1:=bQ (by omega) (by omega);by_cases h20:p.length≤20
  ·simp only[if_pos h20];have hd:decide ((p.length:Int)≤20)=true:=decide_eq_true (by omega);simp only[dH.l0,hd,aZ]
   cases e:Hl c with
   |true=>
    simp only[if_true];refine⟨(fun v hv=>by cases hv),fun s' hs=>⟨?_,fun v hv=>?_⟩⟩
    ·cases hs;simp
    ·refine vp (by omega) (vc ?_);simp only[dH.j1,e1,w1,aZ];clear w1 e1;exact vp trivial (vp (by omega) (vp (by omega) (kK (uH c) (vp e hv))))
   |false=>
    refine⟨(fun v hv=>?_),fun s' hs=>by simp at hs⟩;simp only[Bool.false_eq_true,if_false,Sum.inl.injEq]at hv;subst hv;refine vp (by omega) (vc ?_);simp only[dH.j1,e1,w1,aZ];clear w1 e1;exact vp trivial (vp (by omega) (vp (by omega) (kK (uH c) (vn (by rw[e];simp) (vs _)))))
  ·simp only[if_neg h20];have hd:decide ((p.length:Int)≤20)=false:=decide_eq_false (by omega);refine⟨(fun v hv=>?_),fun s' hs=>by cases hs⟩;cases hv;simp only[dH.l0,hd,aZ];clear w1 e1;exact vp (by omega) (hj' _)
 ·intro s hs;subst hs;simp only[dH.l0,aZ];exact vn (by omega) (hj' _)
 ·unfold Ld
  have key:∀(r:Str) (n:Nat),n+r.length=l.length→run (fun n c=>if n≤20 then(if Hl c=true then .inr (n+1)else .inl false)else .inl (decide (1≤l.length)&&decide (l.length≤20))) (fun _=>decide (1≤l.length)&&decide (l.length≤20)) r n=(decide (1≤l.length)&&decide (l.length≤20)&&r.all Hl):=by
   intro r
   induction r with
   |nil=>intro n _;simp[run]
   |cons c r ih=>
    intro n hn;simp only[List.length_cons]at hn;unfold run;by_cases h20:n≤20
    ·simp only[if_pos h20]
     cases e:Hl c with
     |true=>simp[e,ih (n+1) (by omega)]
     |false=>simp[e]
    ·simp only[if_neg h20];have:decide (l.length≤20)=false:=decide_eq_false (by omega);simp[this]
  exact key l 0 (by omega)
def A_(ps:List (Str×Str))(n:Str):Str×Bool:=if fidx n ps 0<0 then([],false)else((ps.getD (fidx n ps 0).toNat ([],[])).2,true)
def multi:Str:=[109,117,108,116,105,112,97,114,116]
def bnd:Str:=[98,111,117,110,100,97,114,121]
def Ve(a b:Str)(ps:List (Str×Str)):Str×Bool:=if xg a b ps=true∧a=multi∧Ld (A_ ps bnd).1=true then((A_ ps bnd).1,true)else([],false)
theorem JJ(ps:List (Str×Str))(n:Str)(hs:small ps):(A_ ps n).1.length≤1048576:=by
 unfold A_;split
 ·simp
 ·rw[List.getD_eq_getElem?_getD]
  cases e:ps[(fidx n ps 0).toNat]? with
  |none=>simp
  |some x=>exact(hs x (List.mem_of_getElem? e)).2
theorem ZU(ps:List (Str×Str))(i:Int):(aT (ps.map vI) i).f1=dK ((ps.getD i.toNat ([],[])).2):=by
 unfold aT;rw[List.getD_eq_getElem?_getD,List.getD_eq_getElem?_getD,List.getElem?_map]
 cases ps[i.toNat]? with
 |none=>rfl
 |some x=>rfl
theorem Iz(ps:List (Str×Str))(n:Str)(hs:small ps)(hn:n.length≤1048576)(hl:ps.length≤1048576):Ev (fun k=>nU.f k (ps.map vI) (dK n)) (dK (A_ ps n).1,(A_ ps n).2):=by
 unfold nU.f A_;refine vb (Fg ps n hs hn hl) ?_;have hr:=Yh n ps 0;by_cases h:fidx n ps 0<0
 ·simp only[if_pos h];exact vq (vs _) rfl
 ·simp only[if_neg h,List.length_map,ZU];exact vp (by omega) (vp (by omega) (vs _))
theorem IB(ps:List (Str×Str))(n:Str)(hs:small ps)(hn:n.length≤1048576)(hl:ps.length≤1048576):Ev (fun k=>kJ.f k (ps.map vI) (dK n)) (dK (A_ ps n).1,(A_ ps n).2):=by
 unfold kJ.f A_;refine vb (Lj ps n hs hn hl) ?_;have hr:=Yh n ps 0;by_cases h:fidx n ps 0<0
 ·simp only[if_pos h];exact vq (vs _) rfl
 ·simp only[if_neg h,List.length_map,ZU];exact vp (by omega) (vp (by omega) (vs _))
theorem ZV(ps:List (Str×Str))(n:Str)(h:(A_ ps n).2=false):(A_ ps n).1=[]:=by
 unfold A_ at*;split at h
 ·rename_i h1;rw[if_pos h1]
 ·cases h
theorem aiy:(⟨#[98,111,117,110,100,97,114,121]⟩:ByteArray)=dK bnd:=rfl
theorem Oy(a b:Str)(ps:List (Str×Str))(ha:a.length≤1048576)(hb:b.length≤1048576)(hz:Hu ps≤1048576)(hn:ps.length≤1048576):Ev (fun k=>iV.f k (dK a) (dK b) (ps.map vI)) (dK (Ve a b ps).1,(Ve a b ps).2):=by
 have hs:=Iy hz;have hg:=JJ ps bnd hs;unfold iV.f;refine vb (GU a b ps ha hb hz hn) ?_;simp only[oD]
 have hbad:Ve a b ps=([],false)→Ev (fun k=>iV.j0 k true (dK a) (dK b) (ps.map vI)) (dK (Ve a b ps).1,(Ve a b ps).2):=by
  intro e;rw[e];refine vc ?_;simp only[iV.j0];exact vp trivial (vq (vs _) rfl)
 cases e:xg a b ps with
 |false=>exact vn (by simp) (hbad (by unfold Ve;rw[if_neg (by simp[e])]))
 |true=>
  refine vp rfl ?_;by_cases hm:a=multi
  ·have e2:(a !=([109,117,108,116,105,112,97,114,116]:List UInt8))=false:=by rw[hm];decide
   rw[e2];refine vc ?_;simp only[iV.j0,aiy];refine vn (by simp) (vb (Iz ps bnd hs (by decide) (by omega)) (vb (Fh (A_ ps bnd).1 (by omega)) ?_))
   cases e3:Ld (A_ ps bnd).1 with
   |true=>
    have hv:Ve a b ps=((A_ ps bnd).1,true):=by unfold Ve;rw[if_pos ⟨e,hm,e3⟩]
    rw[hv];exact vp rfl (vs _)
   |false=>
    have hv:Ve a b ps=([],false):=by unfold Ve;rw[if_neg (by rw[e3];simp)]
    rw[hv];exact vn (by simp) (vq (vs _) rfl)
  ·have e2:(a !=([109,117,108,116,105,112,97,114,116]:List UInt8))=true:=by simpa [multi] using hm
   rw[e2];exact hbad (by unfold Ve;rw[if_neg (by simp[hm])])
theorem Fp(a b:Str)(ps:List (Str×Str))(ha:a.length≤1048576)(hb:b.length≤1048576)(hz:Hu ps≤1048576)(hn:ps.length≤1048576):Ev (fun k=>oq.f k (dK a) (dK b) (ps.map vI)) (dK (Ve a b ps).1,(Ve a b ps).2):=by
 have hs:=Iy hz;have hg:=JJ ps bnd hs;unfold oq.f;simp only[aiy,oD];refine vb (IB ps bnd hs (by decide) (by omega)) (vb (GV a b ps ha hb hz hn) ?_)
 cases e:xg a b ps with
 |false=>
  have hv:Ve a b ps=([],false):=by unfold Ve;rw[if_neg (by rw[e];simp)]
  rw[hv];exact vn (by simp) (vq (vs _) rfl)
 |true=>
  refine vp rfl ?_;by_cases hm:a=multi
  ·refine vp hm ?_
   cases e4:(A_ ps bnd).2 with
   |false=>
    have:=ZV ps bnd e4;have hv:Ve a b ps=([],false):=by unfold Ve;rw[if_neg (by rw[this];simp[Ld])]
    rw[hv];exact vn (by simp) (vq (vs _) rfl)
   |true=>
    refine vp rfl (vb (Fj (A_ ps bnd).1 (by omega)) ?_)
    cases e3:Ld (A_ ps bnd).1 with
    |true=>
     have hv:Ve a b ps=((A_ ps bnd).1,true):=by unfold Ve;rw[if_pos ⟨e,hm,e3⟩]
     rw[hv];exact vp rfl (vs _)
    |false=>
     have hv:Ve a b ps=([],false):=by unfold Ve;rw[if_neg (by rw[e3];simp)]
     rw[hv];exact vn (by simp) (vq (vs _) rfl)
  ·have hv:Ve a b ps=([],false):=by unfold Ve;rw[if_neg (by simp[hm])]
   rw[hv];exact vn hm (vq (vs _) rfl)
def RJ:Str→Option (Str×Str)
 |[]=>none
 |c:: r=>if c=34 then some ([],r)else if c=92 then(match r with
   |[]=>none
   |d:: t=>(RJ t).map fun q=>(d:: q.1,q.2))else(RJ r).map fun q=>(c:: q.1,q.2)
theorem IC(c:UInt8)(r:Str):RJ (c:: r)=if c=34 then some ([],r)else if c=92 then(match r with
   |[]=>none
   |d:: t=>(RJ t).map fun q=>(d:: q.1,q.2))else(RJ r).map fun q=>(c:: q.1,q.2):=by rw[RJ.eq_def];rfl
def nq(q:Nat)(c:UInt8):Nat:=if q=2 then 1 else if q=1 then(if c=34 then 0 else if c=92 then 2 else 1)else(if c=34 then 1 else 0)
def sU(b:UInt8):Nat→Str→Option (Str×Str)
 |_,[]=>none
 |q,c:: r=>if q=0∧c=b then some ([],r)else(sU b (nq q c) r).map fun x=>(c:: x.1,x.2)
def hd1(c:UInt8):List Str→List Str
 |[]=>[[c]]
 |x:: r=>(c:: x):: r
def parts(b:UInt8):Nat→Str→List Str
 |_,[]=>[[]]
 |q,c:: r=>if q=0∧c=b then[]:: parts b 0 r else hd1 c (parts b (nq q c) r)
theorem MS(b:UInt8):∀(n:Nat) (r w t:Str),r.length≤n→RJ r=some (w,t)→∃m,r=m++t∧w.length<m.length∧sU b 1 r=(sU b 0 t).map fun x=>(m++x.1,x.2):=by
 intro n
 induction n with
 |zero=>intro r w t h h2;cases r with
  |nil=>cases h2
  |cons c r=>simp at h
 |succ n ih=>
  intro r w t h h2
  cases r with
  |nil=>cases h2
  |cons c r=>
   simp only[List.length_cons]at h;rw[IC]at h2;by_cases c1:c=34
   ·rw[if_pos c1]at h2;cases h2;refine⟨[c],rfl,by simp,?_⟩;rw[sU,if_neg (by simp),c1];rfl
   ·rw[if_neg c1]at h2;by_cases c2:c=92
    ·rw[if_pos c2]at h2
     cases r with
     |nil=>cases h2
     |cons d r=>
      simp only[List.length_cons]at h;simp only[Option.map_eq_some_iff]at h2;obtain⟨⟨w1,t1⟩,e1,e2⟩:=h2;cases e2;obtain⟨m,e3,e4,e5⟩:=ih r w1 t1 (by omega) e1;refine⟨c:: d:: m,by rw[e3];rfl,by simp only[List.length_cons];omega,?_⟩;rw[sU,if_neg (by simp),c2,sU,if_neg (by simp[nq])];have:nq (nq 1 92) d=1:=by simp[nq]
      rw[this,e5];cases sU b 0 t1<;>rfl
    ·rw[if_neg c2]at h2;simp only[Option.map_eq_some_iff]at h2;obtain⟨⟨w1,t1⟩,e1,e2⟩:=h2;cases e2;obtain⟨m,e3,e4,e5⟩:=ih r w1 t1 (by omega) e1;refine⟨c:: m,by rw[e3];rfl,by simp only[List.length_cons];omega,?_⟩;have:nq 1 c=1:=by simp[nq,c1,c2]
     rw[sU,if_neg (by simp),this,e5];cases sU b 0 t1<;>rfl
theorem adH(b:UInt8):∀(n:Nat) (r:Str),r.length≤n→RJ r=none→sU b 1 r=none:=by
 intro n
 induction n with
 |zero=>intro r h h2;cases r with
  |nil=>rfl
  |cons c r=>simp at h
 |succ n ih=>
  intro r h h2
  cases r with
  |nil=>rfl
  |cons c r=>
   simp only[List.length_cons]at h;rw[IC]at h2;by_cases c1:c=34
   ·rw[if_pos c1]at h2;cases h2
   ·rw[if_neg c1]at h2;by_cases c2:c=92
    ·rw[if_pos c2]at h2
     cases r with
     |nil=>rw[sU,if_neg (by simp)];rfl
     |cons d r=>
      simp only[List.length_cons]at h;simp only[Option.map_eq_none_iff]at h2;rw[sU,if_neg (by simp),c2,sU,if_neg (by simp[nq])];have:nq (nq 1 92) d=1:=by simp[nq]
      rw[this,ih r (by omega) h2];rfl
    ·rw[if_neg c2]at h2;simp only[Option.map_eq_none_iff]at h2;have:nq 1 c=1:=by simp[nq,c1,c2]
     rw[sU,if_neg (by simp),this,ih r (by omega) h2];rfl
theorem aiz(b:UInt8)(s:Str):∀(q:Nat) (x t:Str),sU b q s=some (x,t)→s=x++b:: t:=by
 induction s with
 |nil=>intro q x t h;cases h
 |cons c r ih=>
  intro q x t h;rw[sU]at h;split at h
  ·rename_i hc;cases h;rw[hc.2];rfl
  ·simp only[Option.map_eq_some_iff]at h;obtain⟨⟨w1,t1⟩,e1,e2⟩:=h;cases e2;rw[ih _ _ _ e1];rfl
theorem TW(b:UInt8)(s:Str):∀q:Nat,parts b q s=match sU b q s with
  |none=>[s]
  |some x=>x.1:: parts b 0 x.2:=by
 induction s with
 |nil=>intro q;rfl
 |cons c r ih=>
  intro q;rw[parts,sU];by_cases h:q=0∧c=b
  ·rw[if_pos h,if_pos h]
  ·rw[if_neg h,if_neg h,ih];cases sU b (nq q c) r<;>rfl
theorem ZW(b:UInt8)(s:Str):∀q:Nat,1≤(parts b q s).length∧(parts b q s).length≤s.length+1:=by
 induction s with
 |nil=>intro q;exact⟨Nat.le_refl _,Nat.le_refl _⟩
 |cons c r ih=>
  intro q;rw[parts];split
  ·have:=ih 0;simp only[List.length_cons];omega
  ·have:=ih (nq q c)
   cases e:parts b (nq q c) r with
   |nil=>rw[e]at this;simp at this
   |cons y l=>rw[e]at this;simp only[hd1,List.length_cons]at this⊢;omega
theorem ajF(b:UInt8)(s:Str):∀(q:Nat) (x:Str),x∈parts b q s→x.length≤s.length∧∀c∈x,c∈s:=by
 induction s with
 |nil=>intro q x h;simp only[parts,List.mem_singleton]at h;subst h;simp
 |cons c r ih=>
  intro q x h;rw[parts]at h;split at h
  ·rcases List.mem_cons.mp h with rfl|h
   ·simp
   ·obtain⟨h1,h2⟩:=ih _ x h;exact⟨by simp only[List.length_cons];omega,fun d hd=>List.mem_cons_of_mem _ (h2 d hd)⟩
  ·cases e:parts b (nq q c) r with
   |nil=>have:=ZW b r (nq q c);rw[e]at this;simp at this
   |cons y l=>
    rw[e,hd1]at h;rcases List.mem_cons.mp h with rfl|h
    ·obtain⟨h1,h2⟩:=ih (nq q c) y (by rw[e];simp);refine⟨by simp only[List.length_cons];omega,fun d hd=>?_⟩;rcases List.mem_cons.mp hd with rfl|hd
     ·simp
     ·exact List.mem_cons_of_mem _ (h2 d hd)
    ·obtain⟨h1,h2⟩:=ih (nq q c) x (by rw[e];exact List.mem_cons_of_mem _ h);exact⟨by simp only[List.length_cons];omega,fun d hd=>List.mem_cons_of_mem _ (h2 d hd)⟩
def RN:Nat→Bool→Str→Option (List Str)
 |0,_,_=>none
 |_+1,_,[]=>some []
 |n+1,a,c:: r=>if c=32 then RN n true r else if a=false then none else if c=34 then(match RJ r with
   |none=>none
   |some q=>(RN n false q.2).map (q.1:: ·))else if(c:: r).takeWhile xM=[]then none else(RN n false ((c:: r).dropWhile xM)).map ((c:: r).takeWhile xM:: ·)
def words(s:Str):Option (List Str):=RN (s.length+1) true s
def Ak(b:UInt8):Str→Option (Str×Str)
 |[]=>none
 |c:: r=>if c=b then some ([],r)else(Ak b r).map fun x=>(c:: x.1,x.2)
theorem ach(b:UInt8)(s:Str):∀(x t:Str),Ak b s=some (x,t)→s=x++b:: t:=by
 induction s with
 |nil=>intro x t h;cases h
 |cons c r ih=>
  intro x t h;rw[Ak]at h;split at h
  ·rename_i hc;cases h;rw[hc];rfl
  ·simp only[Option.map_eq_some_iff]at h;obtain⟨⟨w1,t1⟩,e1,e2⟩:=h;cases e2;rw[ih _ _ e1];rfl
theorem aq4(b:UInt8)(s:Str):Lib.index s [b]=match Ak b s with
  |none=>-1
  |some x=>(x.1.length:Int):=by
 induction s with
 |nil=>rfl
 |cons c r ih=>
  rw[Lib.index,Ak];by_cases h:c=b
  ·rw[if_pos (by simp[List.isPrefixOf,h]),if_pos h];rfl
  ·rw[if_neg (by simp only[List.isPrefixOf,Bool.and_true,beq_iff_eq];exact fun e=>h e.symm),if_neg h,ih]
   cases e:Ak b r with
   |none=>rfl
   |some q=>
    simp only[Option.map_some,List.length_cons];rw[if_neg (by simp)];rfl
theorem aB0(b:UInt8)(s:Str):Lib.cut s [b]=match Ak b s with
  |none=>(s,[],false)
  |some x=>(x.1,x.2,true):=by
 unfold Lib.cut;rw[aq4]
 cases e:Ak b s with
 |none=>rfl
 |some q=>
  obtain⟨x,t⟩:=q;have:=ach b s x t e;simp only;rw[if_pos (by omega)];subst this;simp
def trim(l:Str):Str:=Lib.trimB l 32
theorem Ho(p:UInt8→Bool)(l:Str):∃m,l=m++l.dropWhile p∧∀c∈m,p c=true:=by
 induction l with
 |nil=>exact⟨[],rfl,by simp⟩
 |cons c r ih=>
  cases e:p c with
  |true=>
   obtain⟨m,h1,h2⟩:=ih;refine⟨c:: m,by simp[List.dropWhile,e];exact h1,fun d hd=>?_⟩;rcases List.mem_cons.mp hd with rfl|hd
   ·exact e
   ·exact h2 d hd
  |false=>exact⟨[],by simp[List.dropWhile,e],by simp⟩
theorem Oz(l:Str):∃i j,l=List.replicate i 32++trim l++List.replicate j 32:=by
 unfold trim Lib.trimB Lib.trimLeftB Lib.trimRightB;have rep:∀m:Str,(∀c∈m,(c==32)=true)→m=List.replicate m.length 32:=fun m h=>List.eq_replicate_iff.mpr ⟨rfl,fun c hc=>by simpa using h c hc⟩
 obtain⟨m,h1,h2⟩:=Ho (·==32) l.reverse;obtain⟨m2,h3,h4⟩:=Ho (·==32) (l.reverse.dropWhile (·==32)).reverse;refine⟨m2.length,m.length,?_⟩;rw[←rep m2 h4,←h3]
 have e:m.reverse=List.replicate m.length 32:=by
  have:=rep m.reverse (fun c hc=>h2 c (List.mem_reverse.mp hc))
  rwa [List.length_reverse]at this
 rw[←e,←List.reverse_append,←h1,List.reverse_reverse]
theorem IE(l:Str):(trim l).length≤l.length:=by
 obtain⟨i,j,h⟩:=Oz l;have:=congrArg List.length h;simp only[List.length_append]at this;omega
theorem adI(l:Str)(c:UInt8)(hc:c∈l)(h32:c≠32):c∈trim l:=by
 obtain⟨i,j,h⟩:=Oz l;rw[h]at hc;simp only[List.mem_append,List.mem_replicate]at hc;rcases hc with(⟨_,h⟩|h)|⟨_,h⟩
 ·exact absurd h h32
 ·exact h
 ·exact absurd h h32
theorem ZX(l:Str):trim (32:: l)=trim l:=by
 unfold trim Lib.trimB Lib.trimLeftB Lib.trimRightB;rw[List.reverse_cons,List.dropWhile_append];split
 ·rename_i h
  have:l.reverse.dropWhile (·==32)=[]:=by simpa using h
  rw[this];rfl
 ·rw[List.reverse_append];simp
def OA(s:Str):Option (Str×Str):=match Ak 61 s with
 |none=>none
 |some x=>match words x.2 with
  |some [w]=>some (low (trim x.1),w)
  |_=>none
def Ym:List Str→Option (List (Str×Str))
 |[]=>some []
 |s:: r=>match OA s with
  |none=>none
  |some x=>(Ym r).map (x:: ·)
def pkO(o:Option (Str×Str))(ps:Option (List (Str×Str))):Option (Str×Str×List (Str×Str)):=match o,ps with
 |some x,some ps=>if xg (low x.1) (low x.2) ps=true then some (low x.1,low x.2,ps)else none
 |_,_=>none
def pk(s:Str):Option (Str×Str×List (Str×Str)):=if nH s=true then pkO (Ak 47 (trim ((parts 59 0 s).headD []))) (Ym ((parts 59 0 s).drop 1))else none
theorem anD(c b:UInt8):((c.toNat:Int)=(b.toNat:Int))↔c=b:=by
 constructor
 ·intro e;exact UInt8.toNat_inj.mp (by omega)
 ·intro e;rw[e]
def Y6(L:Nat)(acc:Str):Option (Str×Str)→ByteArray×Int×Bool
 |none=>(dK [],0,false)
 |some q=>(dK (acc++q.1),((L-q.2.length:Nat):Int),true)
theorem TY(l:Str)(hl:l.length≤1048576):∀(n:Nat) (r p acc:Str),r.length≤n→l=p++r→acc.length≤p.length→Ev (fun k=>jL.l0 k (dK l) (zn acc) (p.length:Int)) (Y6 l.length acc (RJ r)):=by
 intro n
 induction n with
 |zero=>
  intro r p acc h h2 h3;have:r=[]:=List.length_eq_zero_iff.mp (by omega);subst this;rw[List.append_nil]at h2;subst h2;refine vc ?_;simp only[jL.l0,aZ];exact vn (by omega) (vq (vs _) rfl)
 |succ n ih=>
  intro r p acc h h2 h3
  cases r with
  |nil=>
   rw[List.append_nil]at h2;subst h2;refine vc ?_;simp only[jL.l0,aZ];exact vn (by omega) (vq (vs _) rfl)
  |cons c r=>
   simp only[List.length_cons]at h;have hz:=iI h2;have e1:=lG h2;have w1:wrap64 ((p.length:Int)+1)=((p.length+1:Nat):Int):=(bQ (by omega) (by omega)).trans (by omega);have Yj:(c.toNat:Int)=34↔c=34:=yP c 34 (by omega);have h92:(c.toNat:Int)=92↔c=92:=yP c 92 (by omega);refine vc ?_;simp only[jL.l0,e1,w1,aZ,TU];clear e1 w1;rw[IC];refine vp (by omega) (vp (by omega) ?_);by_cases c1:(c.toNat:Int)=34
   ·refine vp c1 (vq (vs _) ?_);rw[if_pos (Yj.mp c1),Y6,Af,show l.length-r.length=p.length+1 by omega];simp
   ·refine vn c1 ?_;rw[if_neg (fun hh=>c1 (Yj.mpr hh))];by_cases c2:(c.toNat:Int)=92
    ·refine vp c2 ?_;rw[if_pos (h92.mp c2)]
     cases r with
     |nil=>
      simp only[List.length_nil]at hz;exact vp (by omega) (vq (vs _) rfl)
     |cons d r=>
      simp only[List.length_cons]at h hz
      have e2:bt (dK l) ((p.length+1:Nat):Int)=(d.toNat:Int):=by
       have:=lG (l:=l) (p:=p++[c]) (c:=d) (r:=r) (by rw[h2];simp)
       rwa [List.length_append]at this
      have w2:wrap64 (((p.length+1:Nat):Int)+1)=((p.length+2:Nat):Int):=(bQ (by omega) (by omega)).trans (by omega);have:=ih r (p++[c,d]) (acc++[d]) (by omega) (by rw[h2];simp) (by simp;omega);rw[MQ,List.length_append]at this;have e3:([(d.toNat:Int)]:List Int)=zn [d]:=rfl;rw[e2,w2,e3];clear e2 w2;refine vn (by omega) (vp (by omega) (vp (by omega) (vp (by omega) (vq this ?_))))
      show _=Y6 l.length acc ((RJ r).map fun q=>(d:: q.1,q.2))
      cases RJ r with
      |none=>rfl
      |some q=>simp[Y6]
    ·refine vn c2 ?_;rw[if_neg (fun hh=>c2 (h92.mpr hh))];have:=ih r (p++[c]) (acc++[c]) (by omega) (by rw[h2];simp) (by simp;omega);rw[MQ,List.length_append]at this;have e3:([(c.toNat:Int)]:List Int)=zn [c]:=rfl;rw[e3];refine vp (by omega) (vq this ?_)
     cases RJ r with
     |none=>rfl
     |some q=>simp[Y6]
theorem Ll(c:UInt8)(r:Str)(hl:r.length≤1048575):Ev (fun k=>jL.f k (dK (c:: r))) (Y6 (r.length+1) [] (RJ r)):=TY (c:: r) (by simp only[List.length_cons];omega) r.length r [c] [] (Nat.le_refl _) rfl (by simp)
def adJ(p:Nat):Option (Str×Str)→Int
 |none=>-1
 |some q=>((p+q.1.length:Nat):Int)
theorem Fq{l p r:Str}(h:l=p++r):l.drop p.length=r:=by rw[h,List.drop_left]
theorem RP(l:Str)(b:UInt8)(hb:b≠34)(hl:l.length≤1048576):∀(n:Nat) (r p:Str),r.length≤n→l=p++r→Ev (fun k=>jX.l0 k (dK l) (b.toNat:Int) (p.length:Int)) (adJ p.length (sU b 0 r)):=by
 intro n
 induction n with
 |zero=>
  intro r p h h2;have:r=[]:=List.length_eq_zero_iff.mp (by omega);subst this;rw[List.append_nil]at h2;subst h2;refine vc ?_;simp only[jX.l0,aZ];exact vn (by omega) (vq (vs _) rfl)
 |succ n ih=>
  intro r p h h2
  cases r with
  |nil=>
   rw[List.append_nil]at h2;subst h2;refine vc ?_;simp only[jX.l0,aZ];exact vn (by omega) (vq (vs _) rfl)
  |cons c r=>
   simp only[List.length_cons]at h;have hz:=iI h2;have e1:=lG h2;have w1:wrap64 ((p.length:Int)+1)=((p.length+1:Nat):Int):=(bQ (by omega) (by omega)).trans (by omega);have Yj:(c.toNat:Int)=34↔c=34:=yP c 34 (by omega);have hbb:=anD c b
   have ex:(dK l).extract (p.length:Int).toNat l.length=dK (c:: r):=by
    rw[Int.toNat_natCast,nR,Fq h2,List.take_of_length_le (by simp only[List.length_cons];omega)]
   refine vc ?_;simp only[jX.l0,e1,w1,aZ,ex];clear e1 w1 ex;rw[sU];refine vp (by omega) (vp (by omega) ?_);by_cases c1:(c.toNat:Int)=34
   ·have hc:=Yj.mp c1;refine vp c1 (vp (by omega) (vb (Ll c r (by omega)) ?_));rw[if_neg (by intro hh;exact hb (hh.2.symm.trans hc)),show nq 0 c=1 by rw[hc];rfl]
    cases e:RJ r with
    |none=>rw[adH b r.length r (Nat.le_refl _) e];exact vn (by simp[Y6]) (vq (vs _) rfl)
    |some q=>
     obtain⟨w,t⟩:=q;obtain⟨m,h3,h4,h5⟩:=MS b r.length r w t (Nat.le_refl _) e;have hm:r.length=m.length+t.length:=by rw[h3,List.length_append]
     have:=ih t (p++c:: m) (by omega) (by rw[h2,h3];simp);refine vp rfl ?_;simp only[Y6];have w2:wrap64 (((r.length+1-t.length:Nat):Int)-1)=(m.length:Int):=(bQ (by omega) (by omega)).trans (by omega);rw[w2];clear w2;have w3:wrap64 ((p.length:Int)+(m.length:Int))=((p.length+m.length:Nat):Int):=(bQ (by omega) (by omega)).trans (by omega);rw[w3];clear w3;have w4:wrap64 (((p.length+m.length:Nat):Int)+1)=((p++c:: m).length:Int):=(bQ (by omega) (by omega)).trans (by simp only[List.length_append,List.length_cons];omega);rw[w4,h5];clear w4;refine vq this ?_
     cases sU b 0 t with
     |none=>rfl
     |some x=>simp only[Option.map_some,adJ,List.length_append,List.length_cons];omega
   ·refine vn c1 ?_;have hc:¬c=34:=fun hh=>c1 (Yj.mpr hh)
    by_cases c2:c=b
    ·rw[if_pos ⟨rfl,c2⟩];exact vp (hbb.mpr c2) (vq (vs _) (by simp[adJ]))
    ·rw[if_neg (fun hh=>c2 hh.2),show nq 0 c=0 by simp[nq,hc]];have:=ih r (p++[c]) (by omega) (by rw[h2];simp);rw[List.length_append]at this;refine vn (fun hh=>c2 (hbb.mp hh)) (vq this ?_)
     cases sU b 0 r with
     |none=>rfl
     |some x=>simp only[Option.map_some,adJ,List.length_append,List.length_cons,List.length_nil];omega
theorem JY(l:Str)(b:UInt8)(hb:b≠34)(hl:l.length≤1048576):Ev (fun k=>jX.f k (dK l) (b.toNat:Int)) (adJ 0 (sU b 0 l)):=RP l b hb hl l.length l [] (Nat.le_refl _) rfl
theorem JK(b:UInt8)(hb:b≠34):∀(n:Nat) (s:Str) (acc:List Str),s.length≤n→s.length+acc.length≤1048576→Ev (fun k=>ig.l0 k (dK s) (b.toNat:Int) (acc.map dK)) ((acc++parts b 0 s).map dK):=by
 intro n
 induction n with
 |zero=>
  intro s acc h h2;have:s=[]:=List.length_eq_zero_iff.mp (by omega);subst this;refine vc ?_;simp only[ig.l0,List.length_map];refine vb (JY [] b hb (by simp)) (vp (by simp[sU,adJ]) (vp (by simp at h2;omega) (vq (vs _) ?_)));simp[parts]
 |succ n ih=>
  intro s acc h h2;refine vc ?_;simp only[ig.l0,List.length_map,aZ];refine vb (JY s b hb (by omega)) ?_;rw[TW]
  cases e:sU b 0 s with
  |none=>exact vp (by simp[adJ]) (vp (by omega) (vq (vs _) (by simp)))
  |some q=>
   obtain⟨x,t⟩:=q;have hs:=aiz b s 0 x t e;have hz:s.length=x.length+(t.length+1):=by rw[hs];simp
   have:=ih t (acc++[x]) (by omega) (by simp;omega);have w1:wrap64 ((x.length:Int)+1)=((x.length+1:Nat):Int):=(bQ (by omega) (by omega)).trans (by omega);simp only[adJ,Nat.zero_add,w1,Int.toNat_natCast,nR,List.drop_zero,Nat.sub_zero];have e1:s.take x.length=x:=by rw[hs,List.take_left]
   have e2:(s.drop (x.length+1)).take (s.length-(x.length+1))=t:=by
    rw[List.take_of_length_le (by simp),hs,←List.drop_drop,List.drop_left];rfl
   rw[e1,e2];clear w1;refine vn (by omega) (vp (by omega) (vp (by omega) (vp (by omega) (vp (by omega) (vp (by omega) (vq (r:=((acc++[x]++parts b 0 t).map dK)) ?_ (by simp)))))))
   simpa using this
theorem Lm(s:Str)(hs:s.length≤1048576):Ev (fun k=>ig.f k (dK s) 59) ((parts 59 0 s).map dK):=by
 have:=JK 59 (by decide) s.length s [] (Nat.le_refl _) (by simpa using hs);unfold ig.f
 simpa using this
def Ns(acc:List Str):Option (List Str)→List ByteArray×Bool
 |none=>([],false)
 |some ws=>((acc++ws).map dK,true)
theorem Nu(l:Str)(acc:List Str)(hl:l.length≤1048576)(ha:acc.length≤1048576)(p:Str)(v:List ByteArray×Bool):∀(r a:Str),l=p++(a++r)→a.all xM=true→
  (a++r.takeWhile xM=[]→v=([],false))→
  (a++r.takeWhile xM≠[]→Ev (fun k=>eG.l0 k (dK l) ((acc++[a++r.takeWhile xM]).map dK) (((p++(a++r.takeWhile xM)).length:Nat):Int) false) v)→
  Ev (fun k=>eG.l1 k (dK l) (acc.map dK) (p.length:Int) (((p++a).length:Nat):Int)) v:=by
 intro r
 induction r with
 |nil=>
  intro a h h2 h3 h4;have hz:l.length=p.length+a.length:=by rw[h];simp
  have hpa:(p++a).length=p.length+a.length:=by simp
  simp only[List.takeWhile_nil,List.append_nil]at h3 h4;refine vc ?_;simp only[eG.l1,aZ,List.length_map];refine vn (by omega) ?_;by_cases e:a=[]
  ·rw[h3 e];subst e;exact vp (by simp) (vs _)
  ·have hne:0<a.length:=List.length_pos_iff.mpr e
   have ex:(dK l).extract (p.length:Int).toNat (((p++a).length:Nat):Int).toNat=dK a:=by
    rw[Int.toNat_natCast,Int.toNat_natCast,nR,Fq h,hpa,List.append_nil];rw[List.take_of_length_le (by omega)]
   rw[ex];have:=h4 e;rw[List.map_append,List.map_singleton]at this;exact vn (by omega) (vp (by omega) (vp (by omega) (vp (by omega) (vp (by omega) this))))
 |cons c r ih=>
  intro a h h2 h3 h4;have hz:l.length=p.length+(a.length+(r.length+1)):=by rw[h];simp
  have hpa:(p++a).length=p.length+a.length:=by simp
  have e1:bt (dK l) (((p++a).length:Nat):Int)=(c.toNat:Int):=lG (l:=l) (p:=p++a) (c:=c) (r:=r) (by rw[h];simp);have w1:wrap64 ((((p++a).length:Nat):Int)+1)=((p++(a++[c])).length:Int):=(bQ (by omega) (by omega)).trans (by simp only[List.length_append,List.length_cons,List.length_nil];omega);refine vc ?_;simp only[eG.l1,aZ,List.length_map,e1,w1];clear e1 w1;refine vp (by omega) (vp (by omega) (kK (yE c) ?_))
  cases e:xM c with
  |true=>
   refine vp rfl ?_;have ec:a++(c:: r).takeWhile xM=a++[c]++r.takeWhile xM:=by simp[List.takeWhile,e]
   refine ih (a++[c]) (by rw[h];simp) (by simp[h2,e]) (fun hh=>h3 (by rw[ec];exact hh)) (fun hh=>?_);have:=h4 (by rw[ec];exact hh)
   rwa [ec]at this
  |false=>
   have et:(c:: r).takeWhile xM=[]:=by simp[List.takeWhile,e]
   rw[et,List.append_nil]at h3 h4;refine vn (by simp) ?_;by_cases e:a=[]
   ·rw[h3 e];subst e;exact vp (by simp) (vs _)
   ·have hne:0<a.length:=List.length_pos_iff.mpr e
    have ex:(dK l).extract (p.length:Int).toNat (((p++a).length:Nat):Int).toNat=dK a:=by
     rw[Int.toNat_natCast,Int.toNat_natCast,nR,Fq h,hpa,show p.length+a.length-p.length=a.length by omega,List.take_left]
    rw[ex];have:=h4 e;rw[List.map_append,List.map_singleton]at this;exact vn (by omega) (vp (by omega) (vp (by omega) (vp (by omega) (vp (by omega) this))))
theorem GX(p:UInt8→Bool)(l:Str):l.takeWhile p++l.dropWhile p=l:=List.takeWhile_append_dropWhile
theorem Lp(l:Str)(hl:l.length≤1048576):∀(n:Nat) (r p:Str) (acc:List Str) (a:Bool),r.length<n→l=p++r→acc.length≤p.length→Ev (fun k=>eG.l0 k (dK l) (acc.map dK) (p.length:Int) a) (Ns acc (RN n a r)):=by
 intro n
 induction n with
 |zero=>intro r p acc a h;omega
 |succ n ih=>
  intro r p acc a h h2 h3;refine vc ?_
  cases r with
  |nil=>
   rw[List.append_nil]at h2;subst h2;simp only[eG.l0,aZ];exact vn (by omega) (vq (vs _) (by simp[RN,Ns]))
  |cons c r=>
   simp only[List.length_cons]at h;have hz:=iI h2;have e1:=lG h2;have w1:wrap64 ((p.length:Int)+1)=(((p++[c]).length:Nat):Int):=(bQ (by omega) (by omega)).trans (by simp);have h32:(c.toNat:Int)=32↔c=32:=yP c 32 (by omega);have Yj:(c.toNat:Int)=34↔c=34:=yP c 34 (by omega)
   have ex:(dK l).extract (p.length:Int).toNat l.length=dK (c:: r):=by
    rw[Int.toNat_natCast,nR,Fq h2,List.take_of_length_le (by simp only[List.length_cons];omega)]
   simp only[eG.l0,e1,w1,aZ,ex,List.length_map];clear e1 w1 ex;rw[RN];refine vp (by omega) (vp (by omega) ?_);by_cases c1:(c.toNat:Int)=32
   ·rw[if_pos (h32.mp c1)];exact vp c1 (ih r (p++[c]) acc true (by omega) (by rw[h2];simp) (by simp;omega))
   ·rw[if_neg (fun hh=>c1 (h32.mpr hh))];refine vn c1 ?_
    cases a with
    |false=>exact vn (by simp) (vq (vs _) rfl)
    |true=>
     refine vp rfl ?_;rw[if_neg (by simp)];by_cases c2:(c.toNat:Int)=34
     ·rw[if_pos (Yj.mp c2)];refine vp c2 (vp (by omega) (vb (Ll c r (by omega)) ?_))
      cases e:RJ r with
      |none=>exact vn (by simp[Y6]) (vq (vs _) rfl)
      |some q=>
       obtain⟨w,t⟩:=q;obtain⟨m,h4,h5,_⟩:=MS 0 r.length r w t (Nat.le_refl _) e;have hm:r.length=m.length+t.length:=by rw[h4,List.length_append]
       have:=ih t (p++c:: m) (acc++[w]) false (by omega) (by rw[h2,h4];simp) (by simp;omega);have w2:wrap64 ((p.length:Int)+((r.length+1-t.length:Nat):Int))=((p++c:: m).length:Int):=(bQ (by omega) (by omega)).trans (by simp only[List.length_append,List.length_cons];omega);simp only[Y6,List.nil_append,w2];rw[List.map_append,List.map_singleton]at this;refine vp trivial (vp (by omega) (vq this ?_))
       cases RN n false t with
       |none=>rfl
       |some ws=>simp[Ns]
     ·rw[if_neg (fun hh=>c2 (Yj.mpr hh))];refine vn c2 ?_;have hsw:=GX xM (c:: r);refine Nu l acc hl (by omega) p _ (c:: r) [] h2 rfl (fun hh=>?_) (fun hh=>?_) |>fun hq=>by simpa using hq
      ·rw[List.nil_append]at hh;rw[if_pos hh];rfl
      ·rw[List.nil_append]at hh⊢;rw[if_neg hh];have hne:0<((c:: r).takeWhile xM).length:=List.length_pos_iff.mpr hh
       have hlen:((c:: r).takeWhile xM).length+((c:: r).dropWhile xM).length=r.length+1:=by
        have:=congrArg List.length hsw
        rwa [List.length_append,List.length_cons]at this
       have:=ih ((c:: r).dropWhile xM) (p++(c:: r).takeWhile xM) (acc++[(c:: r).takeWhile xM]) false (by omega) (by rw[List.append_assoc,hsw];exact h2) (by simp only[List.length_append,List.length_cons,List.length_nil];omega);refine vq this ?_
       cases RN n false ((c:: r).dropWhile xM)with
       |none=>rfl
       |some ws=>simp[Ns]
theorem Fv(l:Str)(hl:l.length≤1048576)(ht:nH l=true):Ev (fun k=>eG.f k (dK l)) (Ns [] (words l)):=by
 unfold eG.f;refine vb (qL l (by omega)) (vp ht ?_);exact Lp l hl (l.length+1) l [] [] true (by omega) rfl (by simp)
def Vf:Option (Str×Str×List (Str×Str))→ByteArray×ByteArray×List iq×Bool
 |none=>(dK [],dK [],[],false)
 |some x=>(dK x.1,dK x.2.1,x.2.2.map vI,true)
theorem JZ(l:Str)(hl:l.length≤1048576):kQ.f (dK l) ⟨#[32]⟩=some (dK (trim l)):=by
 unfold kQ.f;rw[if_pos rfl,if_pos (by rw[aZ];omega)];rfl
def Lr(s:Str):Option (Str×Str)→ByteArray×ByteArray×Bool
 |none=>(dK s,dK [],false)
 |some x=>(dK x.1,dK x.2,true)
theorem Ls(b:UInt8)(l:Str)(hl:l.length≤1048576):strings_Cut.f (dK l) ⟨#[b]⟩=some (Lr l (Ak b l)):=by
 unfold strings_Cut.f;rw[if_pos (by rw[aZ];omega)];have e:Lib.cut (dK l).data.toList (⟨#[b]⟩:ByteArray).data.toList=Lib.cut l [b]:=rfl;rw[e,aB0]
 cases Ak b l with
 |none=>rfl
 |some x=>rfl
theorem adK{b:UInt8}{s x t:Str}(h:Ak b s=some (x,t)):s.length=x.length+t.length+1:=by
 rw[ach b s x t h];simp;omega
theorem Yn{s t:Str}(h:nH s=true)(hl:t.length≤s.length)(hm:∀c∈t,c∈s):nH t=true:=by
 unfold nH at*;simp only[Bool.and_eq_true,List.all_eq_true,decide_eq_true_iff]at*;exact⟨fun c hc=>h.1 c (hm c hc),by omega⟩
theorem aq5:∀(n:Nat) (a:Bool) (s:Str) (ws:List Str),RN n a s=some ws→∀w∈ws,w.length≤s.length:=by
 intro n
 induction n with
 |zero=>intro a s ws h;cases h
 |succ n ih=>
  intro a s ws h
  cases s with
  |nil=>simp only[RN,Option.some.injEq]at h;subst h;simp
  |cons c r=>
   rw[RN]at h;split at h
   ·intro w hw;have:=ih _ _ _ h w hw;simp only[List.length_cons];omega
   ·split at h
    ·cases h
    ·split at h
     ·cases e:RJ r with
      |none=>rw[e]at h;cases h
      |some q=>
       obtain⟨w1,t⟩:=q;obtain⟨m,h4,h5,_⟩:=MS 0 r.length r w1 t (Nat.le_refl _) e;have hm:r.length=m.length+t.length:=by rw[h4,List.length_append]
       rw[e]at h;simp only[Option.map_eq_some_iff]at h;obtain⟨v,e1,rfl⟩:=h;intro w hw;simp only[List.length_cons];rcases List.mem_cons.mp hw with rfl|hw
       ·omega
       ·have:=ih _ _ _ e1 w hw;omega
     ·split at h
      ·cases h
      ·simp only[Option.map_eq_some_iff]at h;obtain⟨v,e1,rfl⟩:=h;have hlen:=congrArg List.length (GX xM (c:: r));rw[List.length_append]at hlen;intro w hw;rcases List.mem_cons.mp hw with rfl|hw
       ·omega
       ·have:=ih _ _ _ e1 w hw;omega
theorem ZY{s:Str}{ws:List Str}(h:words s=some ws):∀w∈ws,w.length≤s.length:=aq5 _ _ _ _ h
def fin1(ok:Bool)(m u:Str)(ps:List (Str×Str)):Option (Str×Str×List (Str×Str)):=if ok=true∧xg m u ps=true then some (m,u,ps)else none
def Vg(ok:Bool)(m u:Str)(q:List (Str×Str)):Option (List (Str×Str))→Option (Str×Str×List (Str×Str))
 |none=>none
 |some ps=>fin1 ok m u (q++ps)
theorem Z4(ok:Bool)(m u:Str)(q:List (Str×Str))(x:Str×Str)(o:Option (List (Str×Str))):Vg ok m u q (o.map (x:: ·))=Vg ok m u (q++[x]) o:=by
 cases o with
 |none=>rfl
 |some ps=>simp[Vg]
theorem OB(ok:Bool)(m u:Str)(ps:List (Str×Str))(hm:m.length≤1048576)(hu:u.length≤1048576)(hz:Hu ps≤1048576)(hn:ps.length≤1048576):
  Ev (fun k=>if ok=true then((dY.f k (dK m) (dK u) (ps.map vI)).bind fun t=>(if t=true then(some (dK m,dK u,ps.map vI,true))else(some ((⟨#[]⟩:ByteArray),(⟨#[]⟩:ByteArray),([]:List iq),false))))else(some ((⟨#[]⟩:ByteArray),(⟨#[]⟩:ByteArray),([]:List iq),false))) (Vf (fin1 ok m u ps)):=by
 cases ok with
 |false=>exact vn (by simp) (vq (vs _) (by unfold fin1;rw[if_neg (by simp)];rfl))
 |true=>
  refine vp rfl (vb (GU m u ps hm hu hz hn) ?_)
  cases e:xg m u ps with
  |true=>exact vp rfl (vq (vs _) (by unfold fin1;rw[if_pos ⟨rfl,e⟩];rfl))
  |false=>exact vn (by simp) (vq (vs _) (by unfold fin1;rw[if_neg (by simp[e])];rfl))
theorem CW(ok:Bool)(xs:List Str)(m u:Str)(hx:xs.length≤1000)(ht:∀x∈xs,nH x=true)(hm:m.length≤1048576)(hu:u.length≤1048576):∀(r p:List Str) (q:List (Str×Str)),xs=p++r→q.length≤p.length→Hu q≤400*q.length→
  Ev (fun k=>dN.l0 k ok (xs.map dK) (xs.length:Int) (p.length:Int) (dK m) (dK u) (q.map vI)) (Vf (Vg ok m u q (Ym r))):=by
 intro r
 induction r with
 |nil=>
  intro p q h hq hz;rw[List.append_nil]at h;subst h;refine vc ?_;simp only[dN.l0];refine vn (by omega) ?_;have:=OB ok m u q hm hu (by omega) (by omega)
  simpa [Ym,Vg] using this
 |cons c r ih=>
  intro p q h hq hz;have hz2:=iI h;have e1:=yh h;have htc:=ht c (by rw[h];simp);have hcl:=Ox htc;have w1:wrap64 ((p.length:Int)+1)=((p++[c]).length:Int):=(bQ (by omega) (by omega)).trans (by simp);have hcut:=Ls 61 c (by omega);refine vc ?_;simp only[dN.l0,e1,hcut,List.length_map,Option.bind_some];clear e1 hcut
  have hbad:∀(x11:ByteArray) (x14:List ByteArray),Ev (fun k=>dN.j1 k ok x11 x14 (xs.map dK) (xs.length:Int) (p.length:Int) true (dK m) (dK u) (q.map vI)) (Vf none):=by
   intro x11 x14;refine vc ?_;simp only[dN.j1];exact vp trivial (vs _)
  refine vp (by omega) (vp (by omega) (vp (by omega) ?_))
  cases e:Ak 61 c with
  |none=>
   simp only[Lr];refine vb (Fv [] (by simp) (by decide)) (vn (by simp) (vq (hbad _ _) ?_));rw[Ym,OA,e];rfl
  |some x=>
   obtain⟨n,v⟩:=x;have hlen:=adK e;have hvs:nH v=true:=Yn htc (by omega) (fun d hd=>by rw[ach 61 c n v e];simp[hd]);simp only[Lr];refine vb (Fv v (by omega) hvs) (vp trivial ?_)
   cases e2:words v with
   |none=>
    refine vn (by simp[Ns]) (vq (hbad _ _) ?_);rw[Ym,OA,e];simp only[e2];rfl
   |some ws=>
    simp only[Ns,List.nil_append];refine vp trivial ?_;by_cases h1:ws.length=1
    ·obtain⟨w,rfl⟩:=List.length_eq_one_iff.mp h1;have hwl:=ZY e2 w (by simp);have hnl:=IE n;have e3:OA c=some (low (trim n),w):=by rw[OA,e];simp only[e2]
     have:=ih (p++[c]) (q++[(low (trim n),w)]) (by rw[h];simp) (by simp;omega) (by rw[JI];simp only[Hu,List.length_append,List.length_cons,List.length_nil,GR];omega);have ht:=JZ n (by omega);have hl:=nO (trim n) (by omega);refine vc ?_;simp only[dN.j1,List.map_cons,List.map_nil,List.length_cons,List.length_nil,ht,hl,w1,Option.bind_some,List.length_map];clear w1 ht hl;refine vn (by simp) (vp (by omega) (vp (by omega) ?_));rw[Ym,e3];simp only;rw[Z4];rw[List.map_append]at this;exact this
    ·have e4:((((ws.map dK).length:Nat):Int) !=1)=true:=by
      rw[List.length_map];simp only[bne_iff_ne,ne_eq];omega
     rw[e4];refine vq (hbad _ _) ?_
     have e3:OA c=none:=by
      rw[OA,e];simp only[e2]
      match ws,h1 with
      |[],_=>rfl
      |[w],h1=>exact absurd rfl h1
      |_:: _:: _,_=>rfl
     rw[Ym,e3];rfl
theorem aiA(o:Option (Str×Str))(ps:Option (List (Str×Str)))(s:Str):pkO o ps=Vg (Lr s o).2.2 (match o with
  |none=>low s
  |some x=>low x.1) (match o with
  |none=>[]
  |some x=>low x.2) [] ps:=by
 cases o with
 |none=>cases ps with
  |none=>rfl
  |some p=>simp[pkO,Vg,fin1,Lr]
 |some x=>cases ps with
  |none=>rfl
  |some p=>simp[pkO,Vg,fin1,Lr]
theorem RQ(s:Str)(hs:s.length≤1048576):Ev (fun k=>dN.f k (dK s)) (Vf (pk s)):=by
 unfold dN.f pk;refine vb (qL s (by omega)) ?_
 cases et:nH s with
 |false=>exact vn (by simp) (vq (vs _) rfl)
 |true=>
  refine vp rfl (vb (Lm s hs) ?_);rw[if_pos rfl];have hpl:=ZW 59 s 0;have hpm:=ajF 59 s 0;have hsl:=Ox et
  generalize parts 59 0 s=xs at hpl hpm⊢
  cases xs with
  |nil=>simp at hpl
  |cons h0 r=>
   have hh:=hpm h0 (by simp);have htl:=IE h0;have e0:o8 ByteArray.empty (dK h0:: r.map dK) 0=dK h0:=rfl;have et:=JZ h0 (by omega);have ec:=Ls 47 (trim h0) (by omega);have hr:r.length≤1000:=by simp only[List.length_cons]at hpl;omega
   simp only[e0,et,ec,List.length_map,List.length_cons,Option.bind_some,List.drop_one,List.map_cons,List.tail_cons,List.headD_cons];rw[aiA _ _ (trim h0)]
   have htv:∀x∈r,nH x=true:=fun x hx=>by
    have:=hpm x (by simp[hx]);exact Yn (by assumption) this.1 this.2
   cases e:Ak 47 (trim h0)with
   |none=>
    simp only[Lr];have l1:=nO (trim h0) (by omega);have l2:=nO [] (by simp);have:=CW false r (low (trim h0)) (low []) hr htv (by rw[GR];omega) (by simp[low]) r [] [] rfl (by simp) (by simp[Hu]);simp only[l1,l2,Option.bind_some];refine vp (by omega) (vp (by omega) ?_)
    simpa [low] using this
   |some x=>
    obtain⟨a,b⟩:=x;have hlen:=adK e;simp only[Lr];have l1:=nO a (by omega);have l2:=nO b (by omega);have:=CW true r (low a) (low b) hr htv (by rw[GR];omega) (by rw[GR];omega) r [] [] rfl (by simp) (by simp[Hu]);simp only[l1,l2,Option.bind_some];refine vp (by omega) (vp (by omega) ?_)
    simpa using this
theorem aq6(c:UInt8):nmB c=true→c≠34∧c≠59∧c≠47∧c≠61∧c≠32∧okB c=true:=by
 revert c
 exact acg (by decide+kernel)
theorem anE{l:Str}(h:Np l=true):∀c∈l,nmB c=true:=by
 unfold Np at h;simp only[Bool.and_eq_true,List.all_eq_true]at h;exact h.2
theorem afM{l:Str}(h:isSmall l=true):Np l=true∧low l=l:=by
 unfold isSmall at h
 simpa using h
def aHe(x:Str)(l:List Str):List Str:=x.foldr hd1 l
def Pass(b:UInt8)(x:Str):Prop:=∀t,parts b 0 (x++t)=aHe x (parts b 0 t)
def seg(p:Str×Str):Str:=32:: (p.1++[61]++qw p.2)
theorem aiB:∀(ps q:List (Str×Str)),kfl q ps=true→∀p∈ps,isSmall p.1=true∧nH p.2=true∧p.2.length≤40:=by
 intro ps
 induction ps with
 |nil=>intro q h p hp;cases hp
 |cons c r ih=>
  intro q h p hp;rw[kfl]at h;simp only[Bool.and_eq_true,decide_eq_true_iff]at h;rcases List.mem_cons.mp hp with rfl|hp
  ·exact⟨h.1.1.1,h.1.1.2.1,h.1.1.2.2⟩
  ·exact ih _ h.2 p hp
theorem RU{a b:Str}{ps:List (Str×Str)}(h:xg a b ps=true):isSmall a=true∧isSmall b=true∧ps.length≤4∧kfl [] ps=true∧(RG a b ps).length≤150:=by
 unfold xg at h;simp only[Bool.and_eq_true,decide_eq_true_iff]at h;obtain⟨⟨⟨⟨h1,h2⟩,h3⟩,h4⟩,h5⟩:=h;exact⟨h1,h2,by omega,h4,h5⟩
theorem anF{s a b:Str}{ps:List (Str×Str)}(h:pk s=some (a,b,ps)):xg a b ps=true:=by
 unfold pk at h;split at h
 ·unfold pkO at h;split at h
  ·split at h
   ·rename_i hk
    cases h;exact hk
   ·cases h
  ·cases h
 ·cases h
def Y7(L:Nat)(acc:Str):Option (Str×Str)→ByteArray×Int
 |none=>(dK [],-1)
 |some q=>(dK (acc++q.1),((L-q.2.length:Nat):Int))
theorem Z5{l p r:Str}{c:UInt8}(h:l=p++c:: r):(l.drop p.length).take (p.length+1-p.length)=[c]:=by
 rw[Fq h,show p.length+1-p.length=1 by omega];rfl
theorem T_(l:Str)(hl:l.length≤1048576):∀(n:Nat) (r p acc:Str),r.length≤n→l=p++r→acc.length≤p.length→Ev (fun k=>iy.l0 k (dK l) (dK acc) (p.length:Int)) (Y7 l.length acc (RJ r)):=by
 intro n
 induction n with
 |zero=>
  intro r p acc h h2 h3;have:r=[]:=List.length_eq_zero_iff.mp (by omega);subst this;rw[List.append_nil]at h2;subst h2;refine vc ?_;simp only[iy.l0,aZ];exact vn (by omega) (vq (vs _) rfl)
 |succ n ih=>
  intro r p acc h h2 h3
  cases r with
  |nil=>
   rw[List.append_nil]at h2;subst h2;refine vc ?_;simp only[iy.l0,aZ];exact vn (by omega) (vq (vs _) rfl)
  |cons c r=>
   simp only[List.length_cons]at h;have hz:=iI h2;have e1:=lG h2;have w1:wrap64 ((p.length:Int)+1)=((p.length+1:Nat):Int):=(bQ (by omega) (by omega)).trans (by omega);have Yj:(c.toNat:Int)=34↔c=34:=yP c 34 (by omega);have h92:(c.toNat:Int)=92↔c=92:=yP c 92 (by omega);have e4:=Z5 h2;refine vc ?_;simp only[iy.l0,e1,w1,aZ,Int.toNat_natCast,nR,e4,qP];clear e1 w1 e4;rw[IC];refine vp (by omega) (vp (by omega) ?_);by_cases c1:(c.toNat:Int)=34
   ·refine vp c1 (vq (vs _) ?_);rw[if_pos (Yj.mp c1),Y7,show l.length-r.length=p.length+1 by omega];simp
   ·refine vn c1 ?_;rw[if_neg (fun hh=>c1 (Yj.mpr hh))];by_cases c2:(c.toNat:Int)=92
    ·refine vp c2 ?_;rw[if_pos (h92.mp c2)]
     cases r with
     |nil=>
      simp only[List.length_nil]at hz;exact vp (by omega) (vq (vs _) rfl)
     |cons d r=>
      simp only[List.length_cons]at h hz;have w2:wrap64 (((p.length+1:Nat):Int)+1)=((p.length+2:Nat):Int):=(bQ (by omega) (by omega)).trans (by omega);have hd:l=(p++[c])++d:: r:=by rw[h2];simp
      have e5:(l.drop (p.length+1)).take (p.length+2-(p.length+1))=[d]:=by
       have:=Z5 hd
       rwa [List.length_append]at this
      have:=ih r (p++[c,d]) (acc++[d]) (by omega) (by rw[h2];simp) (by simp;omega);rw[List.length_append]at this;rw[w2,Int.toNat_natCast,e5];clear w2 e5;refine vn (by omega) (vp (by omega) (vp (by omega) (vp (by omega) (vp (by simp only[List.length_cons,List.length_nil];omega) (vq this ?_)))))
      show _=Y7 l.length acc ((RJ r).map fun q=>(d:: q.1,q.2))
      cases RJ r with
      |none=>rfl
      |some q=>simp[Y7]
    ·refine vn c2 ?_;rw[if_neg (fun hh=>c2 (h92.mpr hh))];have:=ih r (p++[c]) (acc++[c]) (by omega) (by rw[h2];simp) (by simp;omega);rw[List.length_append]at this;refine vp (by omega) (vp (by omega) (vp (by simp only[List.length_cons,List.length_nil];omega) (vq this ?_)))
     cases RJ r with
     |none=>rfl
     |some q=>simp[Y7]
theorem Lu{l p r:Str}{c:UInt8}(h:l=p++c:: r)(hl:l.length≤1048576):Ev (fun k=>iy.f k (dK l) (p.length:Int)) (Y7 l.length [] (RJ r)):=by
 have hz:=iI h;have:=T_ l hl r.length r (p++[c]) [] (Nat.le_refl _) (by rw[h];simp) (by simp);have w1:wrap64 ((p.length:Int)+1)=((p++[c]).length:Int):=(bQ (by omega) (by omega)).trans (by simp);unfold iy.f;rw[w1];exact this
def aiC(s p:Str):Option (Str×Str)→ByteArray×ByteArray×Bool
 |none=>(dK s,dK [],false)
 |some x=>(dK (p++x.1),dK x.2,true)
theorem Vh(l:Str)(b:UInt8)(hb:b≠34)(hl:l.length≤1048576):∀(n:Nat) (r p:Str),r.length≤n→l=p++r→Ev (fun k=>jA.l0 k (dK l) (b.toNat:Int) (p.length:Int)) (aiC l p (sU b 0 r)):=by
 intro n
 induction n with
 |zero=>
  intro r p h h2;have:r=[]:=List.length_eq_zero_iff.mp (by omega);subst this;rw[List.append_nil]at h2;subst h2;refine vc ?_;simp only[jA.l0,aZ];exact vn (by omega) (vq (vs _) rfl)
 |succ n ih=>
  intro r p h h2
  cases r with
  |nil=>
   rw[List.append_nil]at h2;subst h2;refine vc ?_;simp only[jA.l0,aZ];exact vn (by omega) (vq (vs _) rfl)
  |cons c r=>
   simp only[List.length_cons]at h;have hz:=iI h2;have e1:=lG h2;have w1:wrap64 ((p.length:Int)+1)=((p.length+1:Nat):Int):=(bQ (by omega) (by omega)).trans (by omega);have Yj:(c.toNat:Int)=34↔c=34:=yP c 34 (by omega);have hbb:=anD c b;have x1:(l.drop 0).take (p.length-0)=p:=by rw[List.drop_zero,Nat.sub_zero,h2,List.take_left]
   have x2:(l.drop (p.length+1)).take (l.length-(p.length+1))=r:=by
    rw[List.take_of_length_le (by simp),h2,←List.drop_drop,List.drop_left];rfl
   refine vc ?_;simp only[jA.l0,e1,w1,aZ,Int.toNat_natCast,nR,x1,x2];clear e1 w1 x1 x2;rw[sU];refine vp (by omega) (vp (by omega) ?_);by_cases c1:(c.toNat:Int)=34
   ·have hc:=Yj.mp c1;refine vp c1 (vb (Lu h2 hl) ?_);rw[if_neg (show¬((0:Nat)=0∧c=b)from fun hh=>hb (hh.2.symm.trans hc)),show nq 0 c=1 by rw[hc];rfl]
    cases e:RJ r with
    |none=>rw[adH b r.length r (Nat.le_refl _) e];exact vp (by simp[Y7]) (vq (vs _) rfl)
    |some q=>
     obtain⟨w,t⟩:=q;obtain⟨m,h3,h4,h5⟩:=MS b r.length r w t (Nat.le_refl _) e;have hm:r.length=m.length+t.length:=by rw[h3,List.length_append]
     have:=ih t (p++c:: m) (by omega) (by rw[h2,h3];simp);have ei:l.length-t.length=(p++c:: m).length:=by simp only[List.length_append,List.length_cons];omega
     simp only[Y7,ei];refine vn (by omega) ?_;rw[h5];refine vq this ?_
     cases sU b 0 t with
     |none=>rfl
     |some x=>simp[aiC]
   ·refine vn c1 ?_;have hc:¬c=34:=fun hh=>c1 (Yj.mpr hh)
    by_cases c2:c=b
    ·rw[if_pos (show(0:Nat)=0∧c=b from⟨rfl,c2⟩)];exact vp (hbb.mpr c2) (vp (by omega) (vp (by omega) (vp (by omega) (vq (vs _) (by simp[aiC])))))
    ·rw[if_neg (show¬((0:Nat)=0∧c=b)from fun hh=>c2 hh.2),show nq 0 c=0 by simp[nq,hc]];have:=ih r (p++[c]) (by omega) (by rw[h2];simp);rw[List.length_append]at this;refine vn (fun hh=>c2 (hbb.mp hh)) (vq this ?_)
     cases sU b 0 r with
     |none=>rfl
     |some x=>simp[aiC]
theorem Bz(l:Str)(b:UInt8)(hb:b≠34)(hl:l.length≤1048576):Ev (fun k=>jA.f k (dK l) (b.toNat:Int)) (Lr l (sU b 0 l)):=by
 refine vq (Vh l b hb hl l.length l [] (Nat.le_refl _) rfl) ?_;cases sU b 0 l<;>rfl
def Z7(l:Str):Str:=(l.reverse.dropWhile (·==32)).reverse
theorem afN(l:Str)(c:UInt8):Z7 (l++[c])=if c=32 then Z7 l else l++[c]:=by
 unfold Z7;rw[List.reverse_append,List.reverse_singleton,List.singleton_append,List.dropWhile];by_cases h:c=32
 ·simp[h]
 ·rw[show(c==32)=false by simp[h]];simp[h]
theorem GY:∀(n:Nat) (s:Str),s.length≤n→s.length≤1048576→Ev (fun k=>dL.l1 k (dK s)) (dK (Z7 s)):=by
 intro n
 induction n with
 |zero=>
  intro s h _;have:s=[]:=List.length_eq_zero_iff.mp (by omega);subst this;refine vc ?_;simp only[dL.l1,aZ];exact vn (by simp) (vq (vs _) rfl)
 |succ n ih=>
  intro s h hl;rcases List.eq_nil_or_concat s with rfl|⟨p,c,rfl⟩
  ·refine vc ?_;simp only[dL.l1,aZ];exact vn (by simp) (vq (vs _) rfl)
  ·rw[List.concat_eq_append]at*;simp only[List.length_append,List.length_cons,List.length_nil]at h hl;have hz:(p++[c]).length=p.length+1:=by simp
   have e1:=lG (l:=p++[c]) (p:=p) (c:=c) (r:=[]) rfl;have w1:wrap64 (((p++[c]).length:Int)-1)=((p.length:Nat):Int):=(bQ (by omega) (by omega)).trans (by omega);have h32:(c.toNat:Int)=32↔c=32:=yP c 32 (by omega);have x1:((p++[c]).drop 0).take (p.length-0)=p:=by rw[List.drop_zero,Nat.sub_zero,List.take_left]
   refine vc ?_;simp only[dL.l1,aZ,w1,e1,Int.toNat_natCast,nR,x1];clear e1 w1 x1;rw[afN];refine vp (by omega) (vp (by omega) (vp (by omega) ?_));by_cases c1:(c.toNat:Int)=32
   ·rw[if_pos (h32.mp c1)];exact vp c1 (vp (by omega) (ih p (by omega) (by omega)))
   ·rw[if_neg (fun hh=>c1 (h32.mpr hh))];exact vn c1 (vs _)
theorem aci(c:UInt8)(r:Str)(h:c≠32):trim (c:: r)=Z7 (c:: r):=by
 unfold trim Lib.trimB Lib.trimLeftB Lib.trimRightB Z7;obtain⟨m,h1,h2⟩:=Ho (·==32) (c:: r).reverse;have h3:=congrArg List.reverse h1;rw[List.reverse_reverse,List.reverse_append]at h3
 cases e:((c:: r).reverse.dropWhile (·==32)).reverse with
 |nil=>
  rw[e,List.nil_append]at h3
  have:c∈m:=by
   have:c∈m.reverse:=by rw[←h3];simp
   exact List.mem_reverse.mp this
  exact absurd (by simpa using h2 c this) h
 |cons d u=>
  rw[e]at h3;injection h3 with h4 h5;subst h4;rw[List.dropWhile,show(c==32)=false by simp[h]]
theorem uI(s:Str)(hl:s.length≤1048576):Ev (fun k=>dL.f k (dK s)) (dK (trim s)):=by
 unfold dL.f
 induction s with
 |nil=>
  refine vc ?_;simp only[dL.l0,aZ];refine vn (by simp) (vc ?_);simp only[dL.j1];exact GY 0 [] (by simp) (by simp)
 |cons c r ih=>
  simp only[List.length_cons]at hl;have hz:(c:: r).length=r.length+1:=rfl;have h32:(c.toNat:Int)=32↔c=32:=yP c 32 (by omega);have x1:((c:: r).drop 1).take ((c:: r).length-1)=r:=by rw[List.drop_one,List.tail_cons,hz,List.take_of_length_le (by omega)]
  refine vc ?_;simp only[dL.l0,aZ,aiv,nR,x1];clear x1;refine vp (by omega) (vp (by omega) ?_);by_cases c1:(c.toNat:Int)=32
  ·rw[h32.mp c1,ZX];exact vp (by decide) (vp (by simp;omega) (ih (by omega)))
  ·rw[aci c r (fun hh=>c1 (h32.mpr hh))];refine vn c1 (vc ?_);simp only[dL.j1];exact GY (r.length+1) (c:: r) (by simp) (by simp;omega)
theorem Ua(n:Nat)(s:Str)(h:s.length<n):RN n false s=if s=[]∨s.head? =some 32 then RN n true s else none:=by
 obtain⟨n,rfl⟩:∃m,n=m+1:=⟨n-1,by omega⟩
 cases s with
 |nil=>rw[if_pos (Or.inl rfl)];rfl
 |cons c r=>
  by_cases c1:c=32
  ·rw[if_pos (Or.inr (by rw[c1];rfl)),RN,RN,if_pos c1,if_pos c1]
  ·rw[if_neg (by simp[c1]),RN,if_neg c1,if_pos rfl]
theorem Ub(l:Str)(acc:List Str)(hl:l.length≤1048576)(ha:acc.length≤1048576)(p:Str)(v:List ByteArray×Bool):∀(r a:Str),l=p++(a++r)→a.all xM=true→
  (a++r.takeWhile xM=[]→v=([],false))→
  (a++r.takeWhile xM≠[]→¬(r.dropWhile xM=[]∨(r.dropWhile xM).head? =some 32)→v=([],false))→
  (a++r.takeWhile xM≠[]→(r.dropWhile xM=[]∨(r.dropWhile xM).head? =some 32)→Ev (fun k=>gI.l0 k (dK l) ((acc++[a++r.takeWhile xM]).map dK) (((p++(a++r.takeWhile xM)).length:Nat):Int)) v)→
  Ev (fun k=>gI.l1 k (dK l) (acc.map dK) (((p++a).length:Nat):Int) (p.length:Int)) v:=by
 intro r
 induction r with
 |nil=>
  intro a h h2 h3 h4 h5;have hz:l.length=p.length+a.length:=by rw[h];simp
  have hpa:(p++a).length=p.length+a.length:=by simp
  simp only[List.takeWhile_nil,List.append_nil,List.dropWhile_nil]at h3 h4 h5;refine vc ?_;simp only[gI.l1,aZ,List.length_map];refine vn (by omega) (vp (by omega) (vp (by omega) (vp (by omega) ?_)));by_cases e:a=[]
  ·rw[h3 e];subst e;exact vp (by simp) (vs _)
  ·have hne:0<a.length:=List.length_pos_iff.mpr e
   have ex:(dK l).extract (p.length:Int).toNat (((p++a).length:Nat):Int).toNat=dK a:=by
    rw[Int.toNat_natCast,Int.toNat_natCast,nR,Fq h,hpa,List.append_nil];rw[List.take_of_length_le (by omega)]
   rw[ex];have:=h5 e (by simp);rw[List.map_append,List.map_singleton]at this;exact vn (by omega) (vp (by omega) this)
 |cons c r ih=>
  intro a h h2 h3 h4 h5;have hz:l.length=p.length+(a.length+(r.length+1)):=by rw[h];simp
  have hpa:(p++a).length=p.length+a.length:=by simp
  have e1:bt (dK l) (((p++a).length:Nat):Int)=(c.toNat:Int):=lG (l:=l) (p:=p++a) (c:=c) (r:=r) (by rw[h];simp);have w1:wrap64 ((((p++a).length:Nat):Int)+1)=((p++(a++[c])).length:Int):=(bQ (by omega) (by omega)).trans (by simp only[List.length_append,List.length_cons,List.length_nil];omega);have h32:(c.toNat:Int)=32↔c=32:=yP c 32 (by omega);refine vc ?_;simp only[gI.l1,aZ,List.length_map,e1,w1];clear e1 w1;refine vp (by omega) (vp (by omega) (vb (Fb c) ?_))
  cases e:xM c with
  |true=>
   refine vp rfl ?_;have ec:a++(c:: r).takeWhile xM=a++[c]++r.takeWhile xM:=by simp[List.takeWhile,e]
   have ed:(c:: r).dropWhile xM=r.dropWhile xM:=by simp[List.dropWhile,e]
   rw[ec]at h3;rw[ec,ed]at h4;rw[ec,ed]at h5;exact ih (a++[c]) (by rw[h];simp) (by simp[h2,e]) h3 h4 h5
  |false=>
   have et:(c:: r).takeWhile xM=[]:=by simp[List.takeWhile,e]
   have ed:(c:: r).dropWhile xM=c:: r:=by simp[List.dropWhile,e]
   rw[et,List.append_nil]at h3;rw[et,ed,List.append_nil]at h4;rw[et,ed,List.append_nil]at h5;refine vn (by simp) (vp (by omega) (vp (by omega) (vp (by omega) ?_)));by_cases e:a=[]
   ·rw[h3 e];subst e;exact vp (by simp) (vs _)
   ·have hne:0<a.length:=List.length_pos_iff.mpr e
    have ex:(dK l).extract (p.length:Int).toNat (((p++a).length:Nat):Int).toNat=dK a:=by
     rw[Int.toNat_natCast,Int.toNat_natCast,nR,Fq h,hpa,show p.length+a.length-p.length=a.length by omega,List.take_left]
    rw[ex];refine vn (by omega) ?_;by_cases c1:(c.toNat:Int)=32
    ·have:=h5 e (Or.inr (by rw[h32.mp c1];rfl));rw[List.map_append,List.map_singleton]at this;exact vp c1 (vp (by omega) this)
    ·rw[h4 e (by simp only[List.head?_cons,Option.some.injEq,reduceCtorEq,false_or];exact fun hh=>c1 (h32.mpr hh))];exact vn c1 (vs _)
theorem RV(l:Str)(hl:l.length≤1048576):∀(n:Nat) (r p:Str) (acc:List Str),r.length<n→l=p++r→acc.length≤p.length→Ev (fun k=>gI.l0 k (dK l) (acc.map dK) (p.length:Int)) (Ns acc (RN n true r)):=by
 intro n
 induction n with
 |zero=>intro r p acc h;omega
 |succ n ih=>
  intro r p acc h h2 h3;refine vc ?_
  cases r with
  |nil=>
   rw[List.append_nil]at h2;subst h2;simp only[gI.l0,aZ];exact vn (by omega) (vq (vs _) (by simp[RN,Ns]))
  |cons c r=>
   simp only[List.length_cons]at h;have hz:=iI h2;have e1:=lG h2;have w1:wrap64 ((p.length:Int)+1)=(((p++[c]).length:Nat):Int):=(bQ (by omega) (by omega)).trans (by simp);have h32:(c.toNat:Int)=32↔c=32:=yP c 32 (by omega);have Yj:(c.toNat:Int)=34↔c=34:=yP c 34 (by omega);simp only[gI.l0,e1,w1,aZ,List.length_map];clear e1 w1;rw[RN];refine vp (by omega) (vp (by omega) ?_);by_cases c1:(c.toNat:Int)=32
   ·rw[if_pos (h32.mp c1)];exact vp c1 (ih r (p++[c]) acc (by omega) (by rw[h2];simp) (by simp;omega))
   ·rw[if_neg (fun hh=>c1 (h32.mpr hh)),if_neg (by simp)];refine vn c1 ?_;by_cases c2:(c.toNat:Int)=34
    ·rw[if_pos (Yj.mp c2)];refine vp c2 (vb (Lu h2 hl) ?_)
     cases e:RJ r with
     |none=>exact vp (by simp[Y7]) (vq (vs _) rfl)
     |some q=>
      obtain⟨w,t⟩:=q;obtain⟨m,h4,h5,_⟩:=MS 0 r.length r w t (Nat.le_refl _) e;have hm:r.length=m.length+t.length:=by rw[h4,List.length_append]
      have hpm:(p++c:: m).length=p.length+m.length+1:=by simp only[List.length_append,List.length_cons];omega
      have ei:l.length-t.length=(p++c:: m).length:=by omega
      have:=ih t (p++c:: m) (acc++[w]) (by omega) (by rw[h2,h4];simp) (by simp;omega);rw[List.map_append,List.map_singleton]at this;simp only[Y7,ei,List.nil_append];rw[Ua n t (by omega)];refine vn (by omega) (vn (by omega) ?_)
      cases t with
      |nil=>
       rw[if_pos (Or.inl rfl)];simp only[List.length_nil]at hm ei;refine vn (by omega) (vp (by omega) (vq this ?_))
       cases RN n true []with
       |none=>rfl
       |some ws=>simp[Ns]
      |cons d t=>
       have e2:bt (dK l) ((p++c:: m).length:Int)=(d.toNat:Int):=lG (l:=l) (p:=p++c:: m) (c:=d) (r:=t) (by rw[h2,h4];simp);have h32:(d.toNat:Int)=32↔d=32:=yP d 32 (by omega);simp only[List.length_cons]at hm;rw[e2];clear e2;refine vp (by omega) (vp (by omega) ?_);by_cases c3:(d.toNat:Int)=32
       ·rw[if_pos (Or.inr (by rw[h32.mp c3];rfl))];refine vp c3 (vp (by omega) (vq this ?_))
        cases RN n true (d:: t)with
        |none=>rfl
        |some ws=>simp[Ns]
       ·rw[if_neg (by simp only[List.head?_cons,Option.some.injEq,reduceCtorEq,false_or];exact fun hh=>c3 (h32.mpr hh))];exact vn c3 (vq (vs _) rfl)
    ·rw[if_neg (fun hh=>c2 (Yj.mpr hh))];refine vn c2 ?_;have hsw:=GX xM (c:: r);have hlen:=congrArg List.length hsw;rw[List.length_append,List.length_cons]at hlen;have key:=Ub l acc hl (by omega) p (Ns acc (if(c:: r).takeWhile xM=[]then none else(RN n false ((c:: r).dropWhile xM)).map ((c:: r).takeWhile xM:: ·))) (c:: r) [] h2 rfl (fun hh=>by rw[List.nil_append]at hh;rw[if_pos hh];rfl);refine(key (fun hh hn=>?_) (fun hh hn=>?_)) |>fun hq=>by simpa using hq
     ·rw[List.nil_append]at hh;have hne:0<((c:: r).takeWhile xM).length:=List.length_pos_iff.mpr hh;rw[if_neg hh,Ua _ _ (by omega),if_neg hn];rfl
     ·rw[List.nil_append]at hh⊢;have hne:0<((c:: r).takeWhile xM).length:=List.length_pos_iff.mpr hh;rw[if_neg hh,Ua _ _ (by omega),if_pos hn];have:=ih ((c:: r).dropWhile xM) (p++(c:: r).takeWhile xM) (acc++[(c:: r).takeWhile xM]) (by omega) (by rw[List.append_assoc,hsw];exact h2) (by simp only[List.length_append,List.length_cons,List.length_nil];omega);refine vq this ?_
      cases RN n true ((c:: r).dropWhile xM)with
      |none=>rfl
      |some ws=>simp[Ns]
theorem J3(l:Str)(hl:l.length≤1048576):Ev (fun k=>gI.f k (dK l)) (Ns [] (words l)):=by
 unfold gI.f;exact RV l hl (l.length+1) l [] [] (by omega) rfl (by simp)
theorem axb(s:Str):∀n:Nat,s.length≤n→RJ (s++[32])=(RJ s).map fun q=>(q.1,q.2++[32]):=by
 intro n
 induction n generalizing s with
 |zero=>
  intro h;have:s=[]:=List.length_eq_zero_iff.mp (by omega);subst this;rfl
 |succ n ih=>
  intro h
  cases s with
  |nil=>rfl
  |cons c r=>
   simp only[List.length_cons]at h;rw[List.cons_append,IC,IC];by_cases c1:c=34
   ·rw[if_pos c1,if_pos c1];rfl
   ·rw[if_neg c1,if_neg c1];by_cases c2:c=92
    ·rw[if_pos c2,if_pos c2]
     cases r with
     |nil=>rfl
     |cons d r=>
      simp only[List.length_cons]at h;simp only[List.cons_append];rw[ih r (by omega)];cases RJ r<;>rfl
    ·rw[if_neg c2,if_neg c2,ih r (by omega)];cases RJ r<;>rfl
theorem anG(l:Str):(l++[32]).takeWhile xM=l.takeWhile xM∧(l++[32]).dropWhile xM=l.dropWhile xM++[32]:=by
 induction l with
 |nil=>exact⟨rfl,rfl⟩
 |cons c r ih=>
  rw[List.cons_append]
  cases e:xM c with
  |true=>simp only[List.takeWhile,List.dropWhile,e];exact⟨congrArg _ ih.1,ih.2⟩
  |false=>simp[List.takeWhile,List.dropWhile,e]
theorem axc:∀(n:Nat) (a:Bool) (s:Str),s.length<n→RN (n+1) a (s++[32])=RN n a s:=by
 intro n
 induction n with
 |zero=>intro a s h;omega
 |succ n ih=>
  intro a s h
  cases s with
  |nil=>rfl
  |cons c r=>
   simp only[List.length_cons]at h;rw[List.cons_append,RN,RN,ih true r (by omega)];by_cases c1:c=32
   ·rw[if_pos c1,if_pos c1]
   ·rw[if_neg c1,if_neg c1];by_cases c2:a=false
    ·rw[if_pos c2,if_pos c2]
    ·rw[if_neg c2,if_neg c2];by_cases c3:c=34
     ·rw[if_pos c3,if_pos c3,axb r r.length (Nat.le_refl _)]
      cases e:RJ r with
      |none=>rfl
      |some q=>
       obtain⟨w,t⟩:=q;obtain⟨m,h4,h5,_⟩:=MS 0 r.length r w t (Nat.le_refl _) e;have hm:r.length=m.length+t.length:=by rw[h4,List.length_append]
       simp only[Option.map_some];rw[ih false t (by omega)]
     ·rw[if_neg c3,if_neg c3];have hw:=anG (c:: r);rw[List.cons_append]at hw;rw[hw.1,hw.2];by_cases c4:(c:: r).takeWhile xM=[]
      ·rw[if_pos c4,if_pos c4]
      ·have hne:0<((c:: r).takeWhile xM).length:=List.length_pos_iff.mpr c4;have hlen:=congrArg List.length (GX xM (c:: r));rw[List.length_append,List.length_cons]at hlen;rw[if_neg c4,if_neg c4,ih false _ (by omega)]
theorem Yo(s:Str):words (s++[32])=words s:=by
 unfold words;rw[List.length_append];exact axc (s.length+1) true s (by omega)
theorem Y8(s:Str):words (32:: s)=words s:=by
 unfold words;rw[RN,if_pos rfl];rfl
theorem adL{α:Type}(f:Str→α)(h1:∀s,f (32:: s)=f s)(h2:∀s,f (s++[32])=f s)(s:Str):f (trim s)=f s:=by
 have r1:∀(i:Nat) (t:Str),f (List.replicate i 32++t)=f t:=by
  intro i
  induction i with
  |zero=>intro t;rfl
  |succ i ih=>intro t;rw[List.replicate_succ,List.cons_append,h1,ih]
 have r2:∀(j:Nat) (t:Str),f (t++List.replicate j 32)=f t:=by
  intro j
  induction j with
  |zero=>intro t;rw[List.replicate_zero,List.append_nil]
  |succ j ih=>intro t;rw[List.replicate_succ',←List.append_assoc,h2,ih]
 obtain⟨i,j,e⟩:=Oz s;have:f s=f (List.replicate i 32++trim s++List.replicate j 32):=congrArg f e;rw[this,r2,r1]
theorem afO(s:Str):words (trim s)=words s:=adL words Y8 Yo s
theorem ajG(b:UInt8)(hb:b≠32)(s:Str):Ak b (s++[32])=(Ak b s).map fun x=>(x.1,x.2++[32]):=by
 induction s with
 |nil=>
  have h:¬(32:UInt8)=b:=fun h=>hb h.symm
  simp[Ak,h]
 |cons c r ih=>
  rw[List.cons_append,Ak,Ak];by_cases h:c=b
  ·rw[if_pos h,if_pos h];rfl
  ·rw[if_neg h,if_neg h,ih];cases Ak b r<;>rfl
theorem ajH(s:Str):OA (trim s)=OA s:=by
 refine adL OA (fun s=>?_) (fun s=>?_) s
 ·unfold OA;rw[Ak,if_neg (by decide)]
  cases Ak 61 s with
  |none=>rfl
  |some x=>simp only[Option.map_some,ZX]
 ·unfold OA;rw[ajG 61 (by decide)]
  cases Ak 61 s with
  |none=>rfl
  |some x=>simp only[Option.map_some,Yo]
theorem anH(b:UInt8)(s:Str):sU b 0 s=Ak b s∨((∀x,sU b 0 s=some x→34∈x.1)∧(∀x,Ak b s=some x→34∈x.1)):=by
 induction s with
 |nil=>exact Or.inl rfl
 |cons c r ih=>
  rw[sU,Ak];by_cases h:c=b
  ·rw[if_pos ⟨rfl,h⟩,if_pos h];exact Or.inl rfl
  ·rw[if_neg (fun hh=>h hh.2),if_neg h];by_cases c1:c=34
   ·right
    rw[c1];refine⟨fun x hx=>?_,fun x hx=>?_⟩<;>
    ·simp only[Option.map_eq_some_iff]at hx;obtain⟨y,_,rfl⟩:=hx;simp
   ·rw[show nq 0 c=0 by simp[nq,c1]];rcases ih with h2|⟨h2,h3⟩
    ·left;rw[h2]
    ·right
     refine⟨fun x hx=>?_,fun x hx=>?_⟩
     ·simp only[Option.map_eq_some_iff]at hx;obtain⟨y,hy,rfl⟩:=hx;simp[h2 y hy]
     ·simp only[Option.map_eq_some_iff]at hx;obtain⟨y,hy,rfl⟩:=hx;simp[h3 y hy]
def Y9(s:Str):Option (Str×Str):=match sU 61 0 (trim s)with
 |none=>none
 |some x=>match words x.2 with
  |some [w]=>some (low (trim x.1),w)
  |_=>none
def Bad(o:Option (Str×Str)):Prop:=∀x,o=some x→34∈x.1
theorem acj{l:Str}(h:(34:UInt8)∈l):(34:UInt8)∈low l:=List.mem_map.mpr ⟨34,h,by decide⟩
theorem axd(s:Str):Y9 s=OA s∨(Bad (Y9 s)∧Bad (OA s)):=by
 rw[←ajH s];unfold Y9 OA;rcases anH 61 (trim s)with h|⟨h1,h2⟩
 ·left;rw[h]
 ·right
  refine⟨fun x hx=>?_,fun x hx=>?_⟩
  ·cases e:sU 61 0 (trim s)with
   |none=>rw[e]at hx;cases hx
   |some y=>
    have h3:=h1 y e;rw[e]at hx;simp only at hx;split at hx
    ·cases hx;exact acj (adI _ _ h3 (by decide))
    ·cases hx
  ·cases e:Ak 61 (trim s)with
   |none=>rw[e]at hx;cases hx
   |some y=>
    have h3:=h2 y e;rw[e]at hx;simp only at hx;split at hx
    ·cases hx;exact acj (adI _ _ h3 (by decide))
    ·cases hx
def GZ:List Str→Option (List (Str×Str))
 |[]=>some []
 |s:: r=>match Y9 s with
  |none=>none
  |some x=>(GZ r).map (x:: ·)
def ajI(o:Option (List (Str×Str))):Prop:=∀l,o=some l→∃x∈l,(34:UInt8)∈x.1
theorem aq7(r:List Str):GZ r=Ym r∨(ajI (GZ r)∧ajI (Ym r)):=by
 induction r with
 |nil=>exact Or.inl rfl
 |cons s r ih=>
  rw[GZ,Ym]
  have aiD:∀(o:Option (Str×Str)) (p:Option (List (Str×Str))),Bad o→ajI (match o with
    |none=>none
    |some x=>p.map (x:: ·)):=by
   intro o p h l hl
   cases o with
   |none=>cases hl
   |some x=>
    simp only[Option.map_eq_some_iff]at hl;obtain⟨y,_,rfl⟩:=hl;exact⟨x,by simp,h x rfl⟩
  have aiE:∀(o:Option (Str×Str)) (p:Option (List (Str×Str))),ajI p→ajI (match o with
    |none=>none
    |some x=>p.map (x:: ·)):=by
   intro o p h l hl
   cases o with
   |none=>cases hl
   |some x=>
    simp only[Option.map_eq_some_iff]at hl;obtain⟨y,hy,rfl⟩:=hl;obtain⟨z,hz,h3⟩:=h y hy;exact⟨z,by simp[hz],h3⟩
  rcases axd s with h|⟨h1,h2⟩
  ·rcases ih with h2|⟨h2,h3⟩
   ·left;rw[h,h2]
   ·right;exact⟨aiE _ _ h2,aiE _ _ h3⟩
  ·right;exact⟨aiD _ _ h1,aiD _ _ h2⟩
theorem Yp{l:Str}(h:(34:UInt8)∈l):isSmall l=false:=by
 cases e:isSmall l with
 |false=>rfl
 |true=>exact absurd rfl (aq6 34 (anE (afM e).1 34 h)).1
theorem Yq(a b:Str)(ps:List (Str×Str))(h:(34:UInt8)∈a∨∃x∈ps,(34:UInt8)∈x.1):xg a b ps=false:=by
 cases e:xg a b ps with
 |false=>rfl
 |true=>
  obtain⟨h1,_,_,h4,_⟩:=RU e;rcases h with h|⟨x,hx,h⟩
  ·rw[Yp h]at h1;cases h1
  ·have:=(aiB ps [] h4 x hx).1;rw[Yp h]at this;cases this
def pkS(s:Str):Option (Str×Str×List (Str×Str)):=if nH s=true then pkO (sU 47 0 (trim ((parts 59 0 s).headD []))) (GZ ((parts 59 0 s).drop 1))else none
theorem adM(o:Option (Str×Str))(p:Option (List (Str×Str)))(h:Bad o):pkO o p=none:=by
 unfold pkO;split
 ·rename_i x ps
  rw[Yq _ _ _ (Or.inl (acj (h x rfl)))];rfl
 ·rfl
theorem adN(o:Option (Str×Str))(p:Option (List (Str×Str)))(h:ajI p):pkO o p=none:=by
 unfold pkO;split
 ·rename_i x ps
  rw[Yq _ _ _ (Or.inr (h ps rfl))];rfl
 ·rfl
theorem axe(s:Str):pkS s=pk s:=by
 unfold pkS pk;split
 ·rcases anH 47 (trim ((parts 59 0 s).headD []))with h|⟨h1,h2⟩
  ·rw[h];rcases aq7 ((parts 59 0 s).drop 1)with h3|⟨h3,h4⟩
   ·rw[h3]
   ·rw[adN _ _ h3,adN _ _ h4]
  ·rw[adM _ _ h1,adM _ _ h2]
 ·rfl
theorem Fz(ok:Bool)(m u:Str)(ps:List (Str×Str))(hm:m.length≤1048576)(hu:u.length≤1048576)(hz:Hu ps≤1048576)(hn:ps.length≤1048576):
  Ev (fun k=>if ok=true then((dQ.f k (dK m) (dK u) (ps.map vI)).bind fun t=>(if t=true then(some (dK m,dK u,ps.map vI,true))else(some ((⟨#[]⟩:ByteArray),(⟨#[]⟩:ByteArray),([]:List iq),false))))else(some ((⟨#[]⟩:ByteArray),(⟨#[]⟩:ByteArray),([]:List iq),false))) (Vf (fin1 ok m u ps)):=by
 cases ok with
 |false=>exact vn (by simp) (vq (vs _) (by unfold fin1;rw[if_neg (by simp)];rfl))
 |true=>
  refine vp rfl (vb (GV m u ps hm hu hz hn) ?_)
  cases e:xg m u ps with
  |true=>exact vp rfl (vq (vs _) (by unfold fin1;rw[if_pos ⟨rfl,e⟩];rfl))
  |false=>exact vn (by simp) (vq (vs _) (by unfold fin1;rw[if_neg (by simp[e])];rfl))
theorem RX{b:UInt8}{q:Nat}{s x t:Str}(h:sU b q s=some (x,t)):s.length=x.length+t.length+1:=by
 rw[aiz b s q x t h];simp;omega
def rest(more:Bool)(s:Str):List Str:=if more=true then parts 59 0 s else[]
theorem CX(ok:Bool)(m u:Str)(hm:m.length≤1048576)(hu:u.length≤1048576):∀(n:Nat) (s:Str) (more:Bool) (q:List (Str×Str)),s.length+(if more=true then 1 else 0)≤n→s.length+q.length+(if more=true then 1 else 0)≤500→Hu q≤1000*q.length→
  Ev (fun k=>bW.l0 k (dK s) more ok (dK m) (dK u) (q.map vI)) (Vf (Vg ok m u q (GZ (rest more s)))):=by
 intro n
 induction n with
 |zero=>
  intro s more q h h2 h3
  cases more with
  |true=>simp at h
  |false=>
   refine vc ?_;simp only[bW.l0];refine vn (by simp) ?_;have:=Fz ok m u q hm hu (by omega) (by omega)
   simpa [rest,GZ,Vg] using this
 |succ n ih=>
  intro s more q h h2 h3
  cases more with
  |false=>
   refine vc ?_;simp only[bW.l0];refine vn (by simp) ?_;have:=Fz ok m u q hm hu (by omega) (by omega)
   simpa [rest,GZ,Vg] using this
  |true=>
   simp only[if_true]at h h2
   have hbad:∀(x5:ByteArray) (x6:Bool) (x12:ByteArray) (x15:List ByteArray),Ev (fun k=>bW.j1 k x5 x6 ok x12 x15 true (dK m) (dK u) (q.map vI)) (Vf none):=by
    intro x5 x6 x12 x15;refine vc ?_;simp only[bW.j1];exact vp trivial (vs _)
   /-one part -/
   have one:∀(c t:Str) (more:Bool),c.length≤500→t.length+(if more=true then 1 else 0)≤n→t.length+(q.length+1)+(if more=true then 1 else 0)≤500→
     Ev (fun k=>(dL.f k (dK c)).bind fun Y3=>((jA.f k Y3 61).bind fun adO=>((dL.f k adO.2.1).bind fun aqI=>((gI.f k aqI).bind fun adP=>(if adO.2.2=true then(if adP.2=true then(bW.j1 k (dK t) more ok adO.1 adP.1 ((adP.1.length:Int) !=1) (dK m) (dK u) (q.map vI))else(bW.j1 k (dK t) more ok adO.1 adP.1 true (dK m) (dK u) (q.map vI)))else(bW.j1 k (dK t) more ok adO.1 adP.1 true (dK m) (dK u) (q.map vI))))))) (Vf (Vg ok m u q (GZ (c:: rest more t)))):=by
    intro c t more hc ht hq;have htl:=IE c;refine vb (uI c (by omega)) (vb (Bz (trim c) 61 (by decide) (by omega)) ?_)
    cases e:sU 61 0 (trim c)with
    |none=>
     simp only[Lr];refine vb (uI [] (by simp)) (vb (J3 _ (by decide)) (vn (by simp) (vq (hbad _ _ _ _) ?_)));rw[GZ,Y9,e];rfl
    |some x=>
     obtain⟨a,v⟩:=x;have hlen:=RX e;have hvl:=IE v;have hal:=IE a;simp only[Lr];refine vb (uI v (by omega)) (vb (J3 _ (by omega)) (vp trivial ?_));rw[afO]
     cases e2:words v with
     |none=>
      refine vn (by simp[Ns]) (vq (hbad _ _ _ _) ?_);rw[GZ,Y9,e];simp only[e2];rfl
     |some ws=>
      simp only[Ns,List.nil_append];refine vp trivial ?_;by_cases h1:ws.length=1
      ·obtain⟨w,rfl⟩:=List.length_eq_one_iff.mp h1;have hwl:=ZY e2 w (by simp);have e3:Y9 c=some (low (trim a),w):=by rw[Y9,e];simp only[e2]
       have:=ih t more (q++[(low (trim a),w)]) ht (by simp only[List.length_append,List.length_cons,List.length_nil];omega) (by rw[JI];simp only[Hu,List.length_append,List.length_cons,List.length_nil,GR];omega);have hl:=nP (trim a) (by omega);refine vc ?_;simp only[bW.j1,List.map_cons,List.map_nil,List.length_cons,List.length_nil,List.length_map];refine vn (by simp) (vb (uI a (by omega)) ?_);simp only[hl,Option.bind_some];refine vp (by omega) (vp (by omega) ?_);rw[GZ,e3];simp only;rw[Z4];rw[List.map_append]at this;exact this
      ·have e4:((((ws.map dK).length:Nat):Int) !=1)=true:=by
        rw[List.length_map];simp only[bne_iff_ne,ne_eq];omega
       rw[e4];refine vq (hbad _ _ _ _) ?_
       have e3:Y9 c=none:=by
        rw[Y9,e];simp only[e2]
        match ws,h1 with
        |[],_=>rfl
        |[w],h1=>exact absurd rfl h1
        |_:: _:: _,_=>rfl
       rw[GZ,e3];rfl
   refine vc ?_;simp only[bW.l0];refine vp trivial (vb (Bz s 59 (by decide) (by omega)) ?_);rw[rest,if_pos rfl,TW]
   cases e:sU 59 0 s with
   |none=>
    simp only[Lr];have:=one s [] false (by omega) (by simp) (by simp;omega)
    simpa [rest] using this
   |some x=>
    obtain⟨c,t⟩:=x;have hlen:=RX e;simp only[Lr];have:=one c t true (by omega) (by simp;omega) (by simp only[if_true];omega);rw[rest,if_pos rfl]at this;exact this
theorem RY(s:Str)(hs:s.length≤1048576):Ev (fun k=>bW.f k (dK s)) (Vf (pk s)):=by
 rw[←axe];unfold bW.f pkS;refine vb (sS s (by omega)) ?_
 cases et:nH s with
 |false=>exact vn (by simp) (vq (vs _) rfl)
 |true=>
  have hsl:=Ox et;refine vp rfl ?_;rw[if_pos rfl]
  /-the head,and what is behind it -/
  have key:∀(h0 t:Str) (more:Bool),h0.length≤200→t.length≤200→Ev (fun k=>(dL.f k (dK h0)).bind fun aHf=>((jA.f k aHf 47).bind fun anI=>((gu.f anI.1).bind fun aHg=>((gu.f anI.2.1).bind fun aHh=>(bW.l0 k (dK t) more anI.2.2 aHg aHh ([]:List iq)))))) (Vf (pkO (sU 47 0 (trim h0)) (GZ (rest more t)))):=by
   intro h0 t more hh ht;have htl:=IE h0;refine vb (uI h0 (by omega)) (vb (Bz (trim h0) 47 (by decide) (by omega)) ?_);rw[aiA _ _ (trim h0)]
   cases e:sU 47 0 (trim h0)with
   |none=>
    have l1:=nP (trim h0) (by omega);have l2:=nP [] (by simp);have:=CX false (low (trim h0)) (low []) (by rw[GR];omega) (by simp[low]) (t.length+1) t more [] (by split<;>omega) (by simp only[List.length_nil];split<;>omega) (by simp[Hu]);simp only[Lr,l1,l2,Option.bind_some]
    simpa [low] using this
   |some x=>
    obtain⟨a,b⟩:=x;have hlen:=RX e;have l1:=nP a (by omega);have l2:=nP b (by omega);have:=CX true (low a) (low b) (by rw[GR];omega) (by rw[GR];omega) (t.length+1) t more [] (by split<;>omega) (by simp only[List.length_nil];split<;>omega) (by simp[Hu]);simp only[Lr,l1,l2,Option.bind_some]
    simpa using this
  refine vb (Bz s 59 (by decide) (by omega)) ?_;rw[TW]
  cases e:sU 59 0 s with
  |none=>
   simp only[Lr];have:=key s [] false (by omega) (by simp)
   simpa [rest] using this
  |some x=>
   obtain⟨c,t⟩:=x;have hlen:=RX e;simp only[Lr];have:=key c t true (by omega) (by omega);rw[rest,if_pos rfl]at this
   simpa using this
theorem Vj(ls:List Str)(x:Str)(hn:ls.length≤1000000000000000):∃i:Int,Ev (fun k=>dP.f k (ls.map dK) (dK x)) i∧(i= -1∨0≤i)∧(0≤i↔x∈ls):=by
 unfold dP.f;rw[List.length_map];refine⟨_,pU (xs:=ls) (F:=fun k (_:Nat) i=>dP.l0 k (ls.map dK) (dK x) (ls.length:Int) i) (st:=fun n c=>if x=c then .inl (n:Int)else .inr (n+1)) (fin:=fun _=>(-1:Int)) (s:=0) (fun p n=>n=p.length) rfl ?_ ?_,?_,?_⟩
 ·intro p c r n h hn;subst hn;have hz:=iI h;have e1:=yh h;have w1:wrap64 ((p.length:Int)+1)=(p.length:Int)+1:=bQ (by omega) (by omega);simp only[dP.l0,e1,w1,List.length_map,oD];clear w1 e1;by_cases e:x=c
  ·simp only[if_pos e];refine⟨(fun v hv=>?_),fun s' hs=>by cases hs⟩;cases hv;exact vp (by omega) (vp (by omega) (vp (by omega) (vs _)))
  ·simp only[if_neg e];refine⟨(fun v hv=>by cases hv),fun s' hs=>⟨?_,fun v hv=>?_⟩⟩
   ·cases hs;simp
   ·exact vp (by omega) (vp (by omega) (vp (by omega) hv))
 ·intro s _;simp only[dP.l0];exact vn (by omega) (vs _)
 ·have key:∀(r:List Str) (n:Nat),run (fun(n:Nat) c=>if x=c then .inl (n:Int)else .inr (n+1)) (fun _=>(-1:Int)) r n= -1∨0≤run (fun(n:Nat) c=>if x=c then .inl (n:Int)else .inr (n+1)) (fun _=>(-1:Int)) r n:=by
   intro r
   induction r with
   |nil=>intro n;exact Or.inl rfl
   |cons c r ih=>
    intro n;unfold run;by_cases e:x=c
    ·simp only[if_pos e];exact Or.inr (by omega)
    ·simp only[if_neg e];exact ih (n+1)
  exact key ls 0
 ·have key:∀(r:List Str) (n:Nat),0≤run (fun(n:Nat) c=>if x=c then .inl (n:Int)else .inr (n+1)) (fun _=>(-1:Int)) r n↔x∈r:=by
   intro r
   induction r with
   |nil=>intro n;simp[run]
   |cons c r ih=>
    intro n;unfold run;by_cases e:x=c
    ·simp only[if_pos e];simp[e]
    ·simp only[if_neg e];rw[ih];simp[e]
  exact key ls 0
theorem FB(ls:List Str)(x:Str)(hn:ls.length≤1000000000000000):Ev (fun k=>fH.f k (ls.map dK) (dK x)) (decide (x∈ls)):=by
 obtain⟨i,hi,h1,h2⟩:=Vj ls x hn;unfold fH.f;refine vb hi (vq (vs _) ?_);by_cases h:x∈ls
 ·rw[decide_eq_true h];exact decide_eq_true (h2.mpr h)
 ·rw[decide_eq_false h];exact decide_eq_false (fun hh=>h (h2.mp hh))
def dash(b:Str):Str:=[45,45]++b
def fin2(b:Str):Str:=[45,45]++b++[45,45]
def dv(ls:List Str)(b:Str):Bool:=decide (dash b∈ls)||decide (fin2 b∈ls)
def lk(l b:Str):Bool:=decide (l=dash b)||decide (l=fin2 b)
theorem at1(ls:List Str)(b:Str):dv ls b=ls.any (fun l=>lk l b):=by
 unfold dv;rw[Bool.eq_iff_iff];simp only[lk,Bool.or_eq_true,decide_eq_true_iff,List.any_eq_true];constructor
 ·rintro(h|h)
  ·exact⟨_,h,Or.inl rfl⟩
  ·exact⟨_,h,Or.inr rfl⟩
 ·rintro⟨x,h,rfl|rfl⟩
  ·exact Or.inl h
  ·exact Or.inr h
theorem IG(b:Str):(⟨#[45,45]⟩:ByteArray)++dK b=dK (dash b):=by rw[afP,Yr,qP];rfl
theorem Wy(b:Str):dK (dash b)++(⟨#[45,45]⟩:ByteArray)=dK (fin2 b):=by rw[afP,Yr,qP];rfl
theorem RZ(b:Str):(dash b).length=b.length+2:=by unfold dash;simp
theorem aiF(b:Str):(fin2 b).length=b.length+4:=by unfold fin2;simp
theorem Vk(ls:List Str)(b:Str)(hb:b.length≤1000000000000000)(hn:ls.length≤1000000000000000):Ev (fun k=>uX.f k (ls.map dK) (dK b)) (dv ls b):=by
 unfold uX.f dv;have hd:=RZ b;simp only[IG,Wy,aZ];refine vp (by omega) (vb (FB ls (dash b) hn) ?_)
 cases e:decide (dash b∈ls)with
 |true=>exact vp rfl (vs _)
 |false=>exact vn (by simp) (vp (by omega) (vb (FB ls (fin2 b) hn) (vs _)))
theorem J4(l b:Str)(hb:b.length≤1000000000000000):pW.f (dK l) (dK b)=some (lk l b):=by
 unfold pW.f lk;have hd:=RZ b;simp only[IG,Wy,aZ,oD];rw[if_pos (by omega)];by_cases h:l=dash b
 ·rw[if_pos h,decide_eq_true h];rfl
 ·rw[if_neg h,decide_eq_false h,if_pos (by omega)];simp only[Bool.false_or]
  congr 1
  rw[Bool.eq_iff_iff];simp
def jb(b:Str):List (List Str)→List Str
 |[]=>[]
 |c:: r=>dash b:: (c++jb b r)
def jR(b:Str)(ps:List (List Str)):Option (List Str):=if Ld b=true∧ps≠[]∧ps.any (fun c=>dv c b)=false then some (jb b ps++[fin2 b])else none
def Uc(o:Option (List Str)):List ByteArray×Bool:=match o with
 |none=>([],false)
 |some l=>(l.map dK,true)
theorem Yt(b:Str)(ps:List (List Str)):(jb b ps).length=tl ps:=by
 induction ps with
 |nil=>rfl
 |cons c r ih=>simp only[jb,tl,List.length_cons,List.length_append,ih];omega
theorem Z8(b:Str)(a c:List (List Str)):jb b (a++c)=jb b a++jb b c:=by
 induction a with
 |nil=>rfl
 |cons d a ih=>simp[jb,ih]
theorem aq8{b:Str}(ps:List (List Str))(h:Ld b=false):jR b ps=none:=by
 unfold jR;rw[if_neg (by rw[h];simp)]
theorem aq9(b:Str):jR b []=none:=by
 unfold jR;rw[if_neg (by simp)]
theorem axf{b:Str}{ps:List (List Str)}(h1:Ld b=true)(h2:ps≠[]):Uc (jR b ps)=if ps.any (fun c=>dv c b)=true then([],false)else((jb b ps++[fin2 b]).map dK,true):=by
 unfold jR
 cases e:ps.any (fun c=>dv c b)with
 |true=>rw[if_neg (by simp),if_pos rfl];rfl
 |false=>rw[if_pos ⟨h1,h2,rfl⟩,if_neg (by simp)];rfl
theorem Nv(ls:List Str)(b:Str)(hb:b.length≤1000000000000)(hn:ls.length≤1000000000000):Ev (fun k=>pR.f k (ls.map dK) (dK b)) (dv ls b):=by
 unfold pR.f;exact vb (Vk ls b (by omega) (by omega)) (vs _)
theorem J7(ps:List (List Str))(b:Str)(hb:b.length≤1000000000000)(hn:tl ps≤1000000000000):Ev (fun k=>fB.f k (ps.map (List.map dK)) (dK b)) (ps.any (fun c=>dv c b)):=by
 unfold fB.f aX.f;have hl:=acf ps
 have key:∀(r:List (List Str)) (n:Nat),decide (run (fun(n:Nat) c=>if dv c b=true then .inl (n:Int)else .inr (n+1)) (fun _=>(-1:Int)) r n≥0)=r.any (fun c=>dv c b):=by
  intro r
  induction r with
  |nil=>intro n;rfl
  |cons c r ih=>
   intro n;unfold run
   cases e:dv c b with
   |true=>simp[e]
   |false=>simp only[Bool.false_eq_true,if_false,ih,List.any_cons,e,Bool.false_or]
 rw[List.length_map];refine vb (pU (xs:=ps) (F:=fun k (_:Nat) i=>aX.l0 k (ps.map (List.map dK)) (ps.length:Int) i (dK b)) (st:=fun n c=>if dv c b=true then .inl (n:Int)else .inr (n+1)) (fin:=fun _=>(-1:Int)) (s:=0) (fun p n=>n=p.length) rfl ?_ ?_) (vq (vs _) (key ps 0))
 ·intro p c r n h hn';subst hn';have hz:=iI h;have hc:c.length≤tl ps:=axa (by rw[h];simp);have e1:=Yd h;have w1:wrap64 ((p.length:Int)+1)=(p.length:Int)+1:=bQ (by omega) (by omega);simp only[aX.l0,e1,w1,List.length_map];clear w1 e1;have hd:=Nv c b hb (by omega)
  cases e:dv c b with
  |true=>
   simp only[if_true];rw[e]at hd;refine⟨(fun v hv=>?_),fun s' hs=>by cases hs⟩;cases hv;exact vp (by omega) (vp (by omega) (vp (by omega) (vb hd (vp rfl (vs _)))))
  |false=>
   rw[e]at hd;refine⟨(fun v hv=>by cases hv),fun s' hs=>⟨?_,fun v hv=>?_⟩⟩
   ·cases hs;simp
   ·exact vp (by omega) (vp (by omega) (vp (by omega) (vb hd (vn (by simp) hv))))
 ·intro s _;simp only[aX.l0];exact vn (by omega) (vs _)
theorem R_(ps:List (List Str))(b:Str)(hb:b.length≤1000000000000)(hn:tl ps≤1000000000000):Ev (fun k=>fG.f k (ps.map (List.map dK)) (dK b)) (Uc (jR b ps)):=by
 have hl:=acf ps;have hd:=RZ b
 have hbad:∀ps:List (List Str),Ev (fun k=>fG.j0 k (ps.map (List.map dK)) true (dK b)) (Uc none):=by
  intro ps;refine vc ?_;simp only[fG.j0];exact vp trivial (vs _)
 unfold fG.f;refine vb (Fh b (by omega)) ?_;unfold jR
 cases e1:Ld b with
 |false=>
  rw[if_neg (by simp)];exact vn (by simp) (hbad ps)
 |true=>
  refine vp rfl ?_;rw[List.length_map];by_cases e2:ps=[]
  ·rw[if_neg (by simp[e2])];exact vp (by simp[e2]) (hbad ps)
  ·have h2:ps.length≠0:=by rw[ne_eq,List.length_eq_zero_iff];exact e2
   refine vn (by omega) (vb (J7 ps b hb hn) ?_)
   cases e3:ps.any (fun c=>dv c b)with
   |true=>
    rw[if_neg (by simp)];exact hbad ps
   |false=>
    rw[if_pos ⟨rfl,e2,rfl⟩];refine vc ?_;simp only[fG.j0,Bool.false_eq_true,if_false,List.length_map];refine vq (pU (xs:=ps) (F:=fun k (out:List Str) i=>fG.l0 k (out.map dK) (ps.map (List.map dK)) (ps.length:Int) i (dK b)) (st:=fun out c=> .inr (out++(dash b:: c))) (fin:=fun out=>Uc (some (out++[fin2 b]))) (s:=[]) (fun p out=>out=jb b p) rfl ?_ ?_) ?_
    ·intro p c r out h ho;have hz:=iI h;have e1:=Yd h;have hlen:out.length=tl p:=by rw[ho,Yt]
     have htl:tl ps=tl p+(c.length+1+tl r):=by rw[h,Iu];rfl
     have w1:wrap64 ((p.length:Int)+1)=(p.length:Int)+1:=bQ (by omega) (by omega);simp only[fG.l0,e1,w1,List.length_map,IG,aZ,Option.bind_some,List.length_append,List.length_cons,List.length_nil];clear w1 e1;refine⟨(fun v hv=>by cases hv),fun s' hs=>⟨?_,fun v hv=>?_⟩⟩
     ·cases hs;rw[ho,Z8];simp[jb]
     ·cases hs;refine vp (by omega) (vp (by omega) (vp (by omega) (vp (by omega) (vp (by omega) (vp (by omega) ?_)))));have e5:out.map dK++[dK (dash b)]++c.map dK=(out++(dash b:: c)).map dK:=by simp
      rw[e5];exact hv
    ·intro out ho;have hlen:out.length=tl ps:=by rw[ho,Yt]
     have hd4:=aiF b;simp only[fG.l0,IG,Wy,aZ,List.length_map];refine vn (by omega) (vp (by omega) (vp (by omega) (vp (by omega) (vq (vs _) ?_))));simp[Uc]
    ·have key:∀(r:List (List Str)) (out:List Str),run (fun out c=> .inr (out++(dash b:: c))) (fun out=>Uc (some (out++[fin2 b]))) r out=Uc (some (out++jb b r++[fin2 b])):=by
      intro r
      induction r with
      |nil=>intro out;simp[run,jb]
      |cons c r ih=>intro out;unfold run;simp only;rw[ih];simp[jb]
     exact key ps []
theorem Si(ps:List (List Str))(b:Str)(hb:b.length≤1000000000000)(hn:tl ps≤1000000000000)(p r:List (List Str))(c:List Str)(h:ps=p++c:: r)(out:List Str)(ho:out.length≤tl p+1)(V:List ByteArray×Bool)
  (hV:c.any (fun l=>lk l b)=false→Ev (fun k=>dU.l0 k (ps.map (List.map dK)) (dK b) ((out++c).map dK) ((p.length:Int)+1)) V):
  Ev (fun k=>dU.l1 k (ps.map (List.map dK)) (dK b) (out.map dK) (p.length:Int) 0) (if c.any (fun l=>lk l b)=true then([],false)else V):=by
 have hz:=iI h;have hl:=acf ps;have e1:=Yd h;have htl:tl ps=tl p+(c.length+1+tl r):=by rw[h,Iu];rfl
 have w0:wrap64 ((p.length:Int)+1)=(p.length:Int)+1:=bQ (by omega) (by omega);refine vq (pU (xs:=c) (F:=fun k (o:List Str) i=>dU.l1 k (ps.map (List.map dK)) (dK b) (o.map dK) (p.length:Int) i) (st:=fun o l=>if lk l b=true then .inl ([],false)else .inr (o++[l])) (fin:=fun _=>V) (s:=out) (fun q o=>o=out++q∧q.any (fun l=>lk l b)=false) ⟨by simp,rfl⟩ ?_ ?_) ?_
 ·rintro q l s o hc ⟨ho2,hq⟩;have hzc:=iI hc;have e2:=yh hc;have hlo:o.length=out.length+q.length:=by rw[ho2,List.length_append]
  have w1:wrap64 ((q.length:Int)+1)=(q.length:Int)+1:=bQ (by omega) (by omega);simp only[dU.l1,e1,e2,w1,List.length_map];clear w1 e2 w0;have hk:=J4 l b (by omega)
  cases e:lk l b with
  |true=>
   rw[e]at hk;simp only[if_true];refine⟨(fun v hv=>?_),fun s' hs=>by cases hs⟩;cases hv;exact vp (by omega) (vp (by omega) (vp (by omega) (vp (by omega) (kK hk (vp rfl (vs _))))))
  |false=>
   rw[e]at hk;refine⟨(fun v hv=>by cases hv),fun s' hs=>⟨?_,fun v hv=>?_⟩⟩
   ·cases hs;exact⟨by rw[ho2];simp,by simp[List.any_append,hq,e]⟩
   ·cases hs;refine vp (by omega) (vp (by omega) (vp (by omega) (vp (by omega) (kK hk (vn (by simp) (vp (by omega) ?_))))));have e5:o.map dK++[dK l]=(o++[l]).map dK:=by simp
    rw[e5];exact hv
 ·rintro o ⟨ho2,hq⟩;simp only[dU.l1,e1,w0,List.length_map];clear w0;rw[ho2];exact vp (by omega) (vp (by omega) (vn (by omega) (hV hq)))
 ·have key:∀(r:List Str) (o:List Str),run (fun o l=>if lk l b=true then .inl ([],false)else .inr (o++[l])) (fun _=>V) r o=if r.any (fun l=>lk l b)=true then([],false)else V:=by
   intro r
   induction r with
   |nil=>intro o;rfl
   |cons c r ih=>
    intro o;unfold run
    cases e:lk c b with
    |true=>simp[e]
    |false=>simp only[Bool.false_eq_true,if_false,ih,List.any_cons,e,Bool.false_or]
  exact key c out
theorem Sj(ps:List (List Str))(b:Str)(hb:b.length≤1000000000000)(hn:tl ps≤1000000000000)(r:List (List Str)):∀(p:List (List Str)),ps=p++r→Ev (fun k=>dU.l0 k (ps.map (List.map dK)) (dK b) ((jb b p).map dK) (p.length:Int)) (if r.any (fun c=>dv c b)=true then([],false)else((jb b ps++[fin2 b]).map dK,true)):=by
 have hd:=RZ b;have hd4:=aiF b
 induction r with
 |nil=>
  intro p h;rw[List.append_nil]at h;subst h;have hlen:=Yt b ps;refine vc ?_;simp only[dU.l0,IG,Wy,aZ,List.length_map];refine vn (by omega) (vp (by omega) (vp (by omega) (vp (by omega) (vq (vs _) ?_))));simp
 |cons c r ih=>
  intro p h;have hz:=iI h;have hl:=acf ps;have hlen:=Yt b p;have htl:tl ps=tl p+(c.length+1+tl r):=by rw[h,Iu];rfl
  have h1:=ih (p++[c]) (by rw[h];simp);rw[jD]at h1;have e5:jb b (p++[c])=jb b p++[dash b]++c:=by rw[Z8];simp[jb]
  rw[e5]at h1;have h2:=Si ps b hb hn p r c h (jb b p++[dash b]) (by rw[List.length_append,hlen];simp) _ (fun _=>h1);refine vc ?_;simp only[dU.l0,IG,aZ,List.length_map];have e6:(jb b p).map dK++[dK (dash b)]=(jb b p++[dash b]).map dK:=by simp
  rw[e6];refine vp (by omega) (vp (by omega) (vp (by omega) (vq h2 ?_)));rw[←at1,List.any_cons];cases dv c b<;>simp
theorem Sl(ps:List (List Str))(b:Str)(hb:b.length≤1000000000000)(hn:tl ps≤1000000000000):Ev (fun k=>dU.f k (ps.map (List.map dK)) (dK b)) (Uc (jR b ps)):=by
 have hbad:Ev (fun k=>dU.j0 k (ps.map (List.map dK)) (dK b) [] true) (Uc none):=by
  refine vc ?_;simp only[dU.j0];exact vp trivial (vs _)
 unfold dU.f;simp only[Option.bind_some,List.length_map];refine vb (Fj b (by omega)) ?_
 cases e1:Ld b with
 |false=>
  rw[aq8 ps e1];exact vn (by simp) hbad
 |true=>
  refine vp rfl ?_;by_cases e2:ps=[]
  ·subst e2;rw[aq9];exact hbad
  ·have h2:ps.length≠0:=by rw[ne_eq,List.length_eq_zero_iff];exact e2
   have:((ps.length:Int)==0)=false:=by rw[beq_eq_false_iff_ne];omega
   rw[this,axf e1 e2];refine vc ?_;simp only[dU.j0];exact vn (by simp) (Sj ps b hb hn ps [] rfl)
inductive Pt where
 |mk (f:List (Str×Str)) (b:List Str) (k:List Pt)
mutual
def e32:Pt→jm
 | .mk f b k=>⟨f.map vI,b.map dK,aq_ k⟩
def aq_:List Pt→List jm
 |[]=>[]
 |p:: r=>e32 p:: aq_ r
end
theorem anJ(k:List Pt):aq_ k=k.map e32:=by
 induction k with
 |nil=>rfl
 |cons p r ih=>rw[aq_,ih];rfl
theorem yF(f:List (Str×Str))(b:List Str)(k:List Pt):e32 (.mk f b k)=⟨f.map vI,b.map dK,k.map e32⟩:=by rw[e32,anJ]
theorem FC{ls p r:List Pt}{c:Pt}(h:ls=p++c:: r):aH (ls.map e32) (p.length:Int)=e32 c:=by
 unfold aH;rw[List.getD_eq_getElem?_getD,h];simp
mutual
def Cb:Pt→Nat
 | .mk f b k=>f.length+Hu f+b.length+szs b+k.length+FD k
def FD:List Pt→Nat
 |[]=>0
 |p:: r=>Cb p+FD r
end
theorem Ag{k:List Pt}{p:Pt}(h:p∈k):Cb p≤FD k:=by
 induction k with
 |nil=>cases h
 |cons d a ih=>
  rw[FD];rcases List.mem_cons.mp h with rfl|h
  ·omega
  ·have:=ih h;omega
mutual
def smt:Pt→Pt→Bool
 | .mk f b k, .mk g c l=>decide (f=g)&&(decide (b=c)&&(decide (k.length=l.length)&&aB1 k l))
def aB1:List Pt→List Pt→Bool
 |[],_=>true
 |_:: _,[]=>false
 |p:: r,q:: s=>smt p q&&aB1 r s
end
theorem LC{P:Pt→Prop}(h:∀f b k,(∀p∈k,P p)→P (.mk f b k))(p:Pt):P p:=by
 have key:∀(n:Nat) (p:Pt),SizeOf.sizeOf p<n→P p:=by
  intro n
  induction n with
  |zero=>intro p hp;omega
  |succ n ih=>
   intro p hp
   cases p with
   |mk f b k=>
    refine h f b k fun q hq=>ih q ?_
    have:=List.sizeOf_lt_of_mem hq;simp only[Pt.mk.sizeOf_spec]at hp;omega
 exact key _ p (Nat.lt_succ_self _)
mutual
def e26:Pt→FW
 | .mk f b k=>⟨f.map e91,b.map dK,ara k⟩
def ara:List Pt→List FW
 |[]=>[]
 |p:: r=>e26 p:: ara r
end
theorem anK(k:List Pt):ara k=k.map e26:=by
 induction k with
 |nil=>rfl
 |cons p r ih=>rw[ara,ih];rfl
theorem afQ(f:List (Str×Str))(b:List Str)(k:List Pt):e26 (.mk f b k)=⟨f.map e91,b.map dK,k.map e26⟩:=by rw[e26,anK]
theorem adQ{ls p r:List Pt}{c:Pt}(h:ls=p++c:: r):lT (ls.map e26) (p.length:Int)=e26 c:=by
 unfold lT;rw[List.getD_eq_getElem?_getD,h];simp
inductive Yu:Pt→Prop
 |mk (f:List (Str×Str)) (b:List Str) (k:List Pt) (h0:f.length≤9223372036854775807) (g0:sane f) (h1:b.length≤9223372036854775807) (g1:∀x∈b,x.length≤9223372036854775807) (h2:k.length≤9223372036854775807) (g2:∀p∈k,Yu p):Yu (.mk f b k)
theorem ajJ(p:Pt)(hp:Yu p):∀left:Nat,left≤1048576→∃v:Int,Ev (fun n=>jS.f n (e26 p).f0 (e26 p).f1 (e26 p).f2 (left:Int)) v∧v≤left∧(0≤v→v=(left:Int)-Cb p):=by
 induction hp with
 |mk f b k h0 g0 h1 g1 h2 g2 ih=>
  intro left hle
  have key:∀(r p:List Pt) (left:Nat),k=p++r→left≤1048576→∃v:Int,Ev (fun n=>jY.l0 n (k.map e26) (left:Int) (p.length:Int)) v∧v≤left∧(0≤v→v=(left:Int)-FD r):=by
   intro r
   induction r with
   |nil=>
    intro p left h hle;have hz:k.length=p.length:=by rw[h,List.append_nil]
    refine⟨left,vc ?_,Int.le_refl _,fun _=>by simp[FD]⟩;simp only[jY.l0,List.length_map];exact vn (by omega) (vs _)
   |cons c r ihr=>
    intro p left h hle;have hz:=iI h;have e1:=adQ h;have w1:wrap64 ((p.length:Int)+1)=(p.length:Int)+1:=bQ (by omega) (by omega);obtain⟨v,hv,hv1,hv2⟩:=ih c (by rw[h];simp) left hle;by_cases hlt:v<0
    ·refine⟨-1,vc ?_,by omega,fun h=>by omega⟩;simp only[jY.l0,List.length_map,e1,w1];clear w1;exact vp (by omega) (vp (by omega) (vb hv (vp hlt (vs _))))
    ·have hvv:=hv2 (by omega);obtain⟨m,rfl⟩:=Int.eq_ofNat_of_zero_le (a:=v) (by omega);obtain⟨u,hu,hu1,hu2⟩:=ihr (p++[c]) m (by rw[h];simp) (by omega);rw[jD]at hu;refine⟨u,vc ?_,by omega,fun h0=>by have:=hu2 h0;simp only[FD];omega⟩;simp only[jY.l0,List.length_map,e1,w1];clear w1;exact vp (by omega) (vp (by omega) (vb hv (vn hlt hu)))
  simp only[afQ];obtain⟨v,hv,hv1,hv2⟩:=adC f g0 (by omega) left hle;by_cases c1:v<0
  ·refine⟨-1,vc ?_,by omega,fun h=>by omega⟩;simp only[jS.f];exact vb hv (vp c1 (vs _))
  have hvv:=hv2 (by omega);obtain⟨m,rfl⟩:=Int.eq_ofNat_of_zero_le (a:=v) (by omega);obtain⟨u,hu,hu1,hu2⟩:=Rt b g1 (by omega) m (by omega);by_cases c2:u<0
  ·refine⟨-1,vc ?_,by omega,fun h=>by omega⟩;simp only[jS.f];exact vb hv (vn c1 (vb hu (vp c2 (vs _))))
  have huu:=hu2 (by omega);obtain⟨i,rfl⟩:=Int.eq_ofNat_of_zero_le (a:=u) (by omega);have w1:wrap64 ((i:Int)-(k.length:Int))=(i:Int)-(k.length:Int):=bQ (by omega) (by omega);by_cases c3:(i:Int)-(k.length:Int)<0
  ·refine⟨-1,vc ?_,by omega,fun h=>by omega⟩;simp only[jS.f,List.length_map];exact vb hv (vn c1 (vb hu (vn c2 (vb (vp (by rw[w1];exact c3) (vs _)) (vp (by omega) (vs _))))))
  obtain⟨j,hj⟩:=Int.eq_ofNat_of_zero_le (a:=(i:Int)-(k.length:Int)) (by omega);obtain⟨t,ht,ht1,ht2⟩:=key k [] j rfl (by omega);rw[←hj,←w1]at ht;by_cases c4:t<0
  ·refine⟨-1,vc ?_,by omega,fun h=>by omega⟩;simp only[jS.f,List.length_map];exact vb hv (vn c1 (vb hu (vn c2 (vb (vn (by rw[w1];exact c3) ht) (vp c4 (vs _))))))
  ·refine⟨t,vc ?_,by omega,fun h=>by have:=ht2 h;rw[Cb];omega⟩;simp only[jS.f,List.length_map];exact vb hv (vn c1 (vb hu (vn c2 (vb (vn (by rw[w1];exact c3) ht) (vn c4 (vs _))))))
theorem ajK(p:Pt):Cb p≤1048576→Ev (fun n=>kY.f n (e26 p).f0 (e26 p).f1 (e26 p).f2) ((e32 p).f0,(e32 p).f1,(e32 p).f2):=by
 refine LC (P:=fun p=>Cb p≤1048576→Ev (fun n=>kY.f n (e26 p).f0 (e26 p).f1 (e26 p).f2) ((e32 p).f0,(e32 p).f1,(e32 p).f2)) (fun f b k ih hs=>?_) p;rw[Cb]at hs
 have key:∀(r p:List Pt),k=p++r→Ev (fun n=>kR.l0 n (k.map e26) (p.map e32++List.replicate r.length z32) (p.length:Int)) (k.map e32):=by
  intro r
  induction r with
  |nil=>
   intro p h;have hz:k.length=p.length:=by rw[h,List.append_nil]
   refine vc ?_;simp only[kR.l0,List.length_map];refine vn (by omega) (vq (vs _) ?_);rw[h];simp
  |cons c r ihr=>
   intro p h;have hz:=iI h;have e1:=adQ h;have w1:wrap64 ((p.length:Int)+1)=(p.length:Int)+1:=bQ (by omega) (by omega);have hm:c∈k:=by rw[h];simp
   have hc:=ih c hm (by have:=Ag hm;omega);have:=ihr (p++[c]) (by rw[h];simp);rw[jD]at this
   have e2:(p.map e32++List.replicate (r.length+1) z32).set p.length (⟨(e32 c).f0,(e32 c).f1,(e32 c).f2⟩:jm)=(p++[c]).map e32++List.replicate r.length z32:=by
    rw[List.set_append_right _ _ (by simp),List.length_map,Nat.sub_self,List.replicate_succ,List.set_cons_zero,List.map_append,List.append_assoc];simp only[List.map_cons,List.map_nil,List.cons_append,List.nil_append];cases e32 c;rfl
   rw[←e2]at this;refine vc ?_;simp only[kR.l0,List.length_map,e1,w1,Int.toNat_natCast,List.length_cons];clear w1;exact vp (by omega) (vp (by omega) (vb hc (vp (by simp;omega) this)))
 have hk:=key k [] rfl;simp only[afQ,yF];refine vc ?_;simp only[kY.f,List.length_map,Int.toNat_natCast];exact vb (adD f (by omega)) (vb (Ru b (by omega)) (vb (vp (by omega) (vp (by omega) hk)) (vs _)))
theorem Z9(p:Pt):Cb p≤1048576→Ev (fun n=>kS.f n (e32 p).f0 (e32 p).f1 (e32 p).f2 (e32 p).f0 (e32 p).f1 (e32 p).f2) true:=by
 refine LC (P:=fun p=>Cb p≤1048576→Ev (fun n=>kS.f n (e32 p).f0 (e32 p).f1 (e32 p).f2 (e32 p).f0 (e32 p).f1 (e32 p).f2) true) (fun f b k ih hs=>?_) p;rw[Cb]at hs
 have key:∀(r p:List Pt),k=p++r→Ev (fun n=>iR.l0 n (k.map e32) (k.map e32) (p.length:Int)) true:=by
  intro r
  induction r with
  |nil=>
   intro p h;have hz:k.length=p.length:=by rw[h,List.append_nil]
   refine vc ?_;simp only[iR.l0,List.length_map];exact vn (by omega) (vs _)
  |cons c r ihr=>
   intro p h;have hz:=iI h;have e1:=FC h;have w1:wrap64 ((p.length:Int)+1)=(p.length:Int)+1:=bQ (by omega) (by omega);have hm:c∈k:=by rw[h];simp
   have hc:=ih c hm (by have:=Ag hm;omega);have:=ihr (p++[c]) (by rw[h];simp);rw[jD]at this;refine vc ?_;simp only[iR.l0,List.length_map,e1,w1];clear w1;exact vp (by omega) (vp (by omega) (vp (by omega) (vb hc (vp (by simp) this))))
 have hk:=key k [] rfl;simp only[yF];refine vc ?_;simp only[kS.f];have hb:=Rw b b (by omega);rw[decide_eq_true rfl]at hb;exact vb (adE f (by omega)) (vp (by simp) (vb hb (vp (by simp) (vb (vp (by simp) hk) (vp (by simp) (vs _))))))
def rE(l:Str)(i:Nat):Bool:=decide (bt (dK l) (i:Int)=32)&&(!decide (bt (dK l) ((i:Int)-1)=32)&& !decide (bt (dK l) ((i:Int)+1)=32))
def t_(l:Str)(i:Nat)(b:Int):Int:=if rE l i=true∧(b<0∨i≤40)then(i:Int)else b
def brk(l:Str):Nat→Nat→Int→Int
 |0,_,b=>b
 |n+1,i,b=>brk l n (i+1) (t_ l i b)
def Ud(l:Str)(i:Nat):Int:=brk l (l.length-1-i) i (-1)
theorem Z_(l:Str):∀(n i:Nat) (b:Int),brk l n i b=b∨((i:Int)≤brk l n i b∧brk l n i b<i+n)
 |0,_,_=> .inl rfl
 |n+1,i,b=>by
  rw[brk];rcases Z_ l n (i+1) (t_ l i b)with h|h
  ·rw[h];unfold t_;by_cases c:rE l i=true∧(b<0∨i≤40)
   ·rw[if_pos c];exact .inr ⟨by omega,by omega⟩
   ·rw[if_neg c];exact .inl rfl
  ·exact .inr ⟨by omega,by omega⟩
theorem OC(l:Str)(i:Nat):Ud l i<0∨((i:Int)≤Ud l i∧Ud l i<l.length):=by
 unfold Ud;rcases Z_ l (l.length-1-i) i (-1)with h|h
 ·exact .inl (by omega)
 ·exact .inr ⟨h.1,by omega⟩
def fl:Nat→Str→Nat→List Str
 |0,l,_=>[l]
 |n+1,l,i=>if l.length>40 then(if Ud l i<0 then[l]else l.take (Ud l i).toNat:: fl n (l.drop (Ud l i).toNat) 2)else[l]
theorem anL:∀(n:Nat) (l:Str) (i:Nat),1≤i→(fl n l i).length≤l.length+1
 |0,l,i,_=>by simp[fl]
 |n+1,l,i,hi=>by
  rw[fl];by_cases c:l.length>40
  ·rw[if_pos c];by_cases d:Ud l i<0
   ·rw[if_pos d];simp
   ·rw[if_neg d];have:=OC l i;have h2:=anL n (l.drop (Ud l i).toNat) 2 (by omega);rw[List.length_drop]at h2;rw[List.length_cons];omega
  ·rw[if_neg c];simp
def adR(f:Str×Str):Str:=(f.1++[58])++(if f.2=[]then[]else 32:: f.2)
def J5(f:Str×Str):List Str:=fl (adR f).length (adR f) (f.1.length+3)
theorem B_(acc:List Str)(l:Str):acc.map dK++[dK l]=(acc++[l]).map dK:=by rw[List.map_append];rfl
theorem acn(l:Str)(acc:List Str)(hl:l.length≤1048576)(V:List ByteArray):∀(n i:Nat) (b:Int),n=l.length-1-i→1≤i→i≤1048579→
  Ev (fun k=>if brk l n i b<0 then(if(acc.map dK).length<8796093022208 then(some ((acc.map dK)++[dK l]))else(none))else(if 0≤brk l n i b then(if brk l n i b≤((dK l).size:Int)then(if(acc.map dK).length<8796093022208 then(bD.l0 k ((dK l).extract (brk l n i b:Int).toNat (dK l).size) 2 ((acc.map dK)++[(dK l).extract 0 (brk l n i b:Int).toNat]))else(none))else(none))else(none))) V→
  Ev (fun k=>bD.l1 k (dK l) (acc.map dK) b (i:Int)) V:=by
 intro n
 induction n with
 |zero=>
  intro i b hn hi hi2 hE;have w1:wrap64 ((i:Int)+1)=(i:Int)+1:=bQ (by omega) (by omega);refine vc ?_;simp only[bD.l1,w1];clear w1;rw[brk]at hE;exact vn (by rw[aZ];omega) hE
 |succ n ih=>
  intro i b hn hi hi2 hE;have w1:wrap64 ((i:Int)+1)=(i:Int)+1:=bQ (by omega) (by omega);have w2:wrap64 ((i:Int)-1)=(i:Int)-1:=bQ (by omega) (by omega);have hs:=aZ l;rw[brk]at hE;have go:=ih (i+1) (t_ l i b) (by omega) (by omega) (by omega) hE;rw[show((i+1:Nat):Int)=(i:Int)+1 by omega]at go;clear hE ih;refine vc ?_;simp only[bD.l1,w1,w2];clear w1 w2;refine vp (by omega) (vp (by omega) (vp (by omega) ?_));by_cases c1:bt (dK l) (i:Int)=32
  ·refine vp c1 (vp (by omega) (vp (by omega) ?_));by_cases c2:bt (dK l) ((i:Int)-1)=32
   ·refine vp c2 ?_;have e:t_ l i b=b:=by unfold t_ rE;rw[if_neg (by simp[c2])]
    rw[e]at go;exact go
   ·refine vn c2 (vp (by omega) ?_);by_cases c3:bt (dK l) ((i:Int)+1)=32
    ·refine vp c3 ?_;have e:t_ l i b=b:=by unfold t_ rE;rw[if_neg (by simp[c3])]
     rw[e]at go;exact go
    ·refine vn c3 ?_;by_cases c4:b<0
     ·refine vp c4 ?_;have e:t_ l i b=(i:Int):=by unfold t_ rE;rw[if_pos (by simp[c1,c2,c3,c4])]
      rw[e]at go;exact go
     ·refine vn c4 ?_;by_cases c5:(i:Int)≤40
      ·refine vp c5 ?_;have e:t_ l i b=(i:Int):=by unfold t_ rE;rw[if_pos (by simp[c1,c2,c3];omega)]
       rw[e]at go;exact go
      ·refine vn c5 ?_;have e:t_ l i b=b:=by unfold t_;rw[if_neg (fun h=>by have:=h.2;omega)]
       rw[e]at go;exact go
  ·refine vn c1 ?_;have e:t_ l i b=b:=by unfold t_ rE;rw[if_neg (by simp[c1])]
   rw[e]at go;exact go
theorem aco:∀(n:Nat) (l:Str) (i:Nat) (acc:List Str),l.length≤n→l.length≤1048576→1≤i→i≤1048579→acc.length+l.length≤2000000→Ev (fun k=>bD.l0 k (dK l) (i:Int) (acc.map dK)) ((acc++fl n l i).map dK):=by
 intro n
 induction n with
 |zero=>
  intro l i acc hn hl hi hi2 ha;refine vc ?_;simp only[bD.l0,aZ,List.length_map,fl];exact vn (by omega) (vp (by omega) (vq (vs _) (B_ acc l)))
 |succ n ih=>
  intro l i acc hn hl hi hi2 ha;refine vc ?_;simp only[bD.l0,fl];by_cases c:l.length>40
  ·refine vp (by rw[aZ];omega) ?_;rw[if_pos c];have hr:=OC l i;refine acn l acc hl _ (l.length-1-i) i (-1) rfl hi hi2 ?_;rw[show brk l (l.length-1-i) i (-1)=Ud l i from rfl]
   generalize Ud l i=t at hr
   by_cases d:t<0
   ·rw[if_pos d];exact vp d (vp (by rw[List.length_map];omega) (vq (vs _) (B_ acc l)))
   ·rw[if_neg d];obtain⟨m,rfl⟩:=Int.eq_ofNat_of_zero_le (a:=t) (by omega);have h2:=ih (l.drop m) 2 (acc++[l.take m]) (by rw[List.length_drop];omega) (by rw[List.length_drop];omega) (by omega) (by omega) (by rw[List.length_append,List.length_drop];simp;omega);refine vn d (vp (by omega) (vp (by rw[aZ];omega) (vp (by rw[List.length_map];omega) ?_)));rw[←B_]at h2;simp only[nR,aZ,Int.toNat_natCast,List.drop_zero,Nat.sub_zero]at h2⊢;rw[List.take_of_length_le (l:=l.drop m) (by rw[List.length_drop];omega)];refine vq h2 ?_;simp
  ·refine vn (by rw[aZ];omega) ?_;rw[if_neg c];exact vp (by rw[List.length_map];omega) (vq (vs _) (B_ acc l))
theorem aac:(⟨#[58]⟩:ByteArray)=dK [58]:=rfl
theorem aad:(⟨#[32]⟩:ByteArray)=dK [32]:=rfl
theorem Sr(f:Str×Str)(h1:f.1.length≤1000)(h2:f.2.length≤1000):Ev (fun k=>bD.f k (dK f.1) (dK f.2)) ((J5 f).map dK):=by
 obtain⟨a,b⟩:=f;simp only at h1 h2;unfold bD.f J5 adR;have w:wrap64 ((a.length:Int)+3)=((a.length+3:Nat):Int):=by rw[bQ (by omega) (by omega)];omega
 simp only[aac,aad,qP,aZ,oD,w,List.length_append,List.length_cons,List.length_nil];clear w
 have key:∀l:Str,l.length≤3000→Ev (fun k=>bD.j0 k (dK l) ((a.length+3:Nat):Int)) ((fl l.length l (a.length+3)).map dK):=by
  intro l hl;refine vc ?_;simp only[bD.j0];have:=aco l.length l (a.length+3) [] (Nat.le_refl _) (by omega) (by omega) (by omega) (by simp;omega);exact this
 refine vp (by omega) ?_;by_cases c:b=[]
 ·subst c;refine vp rfl ?_;have:=key (a++[58]) (by simp;omega)
  simpa using this
 ·refine vn c (vp (by omega) (vp (by omega) ?_));have:=key ((a++[58])++([32]++b)) (by simp;omega);rw[if_neg c]
  simpa [Nat.add_assoc,Nat.add_comm,Nat.add_left_comm] using this
theorem afR(l:Str)(hl:l.length≤1048576):∀(n i:Nat) (b:Int),n=l.length-1-i→1≤i→i≤1048579→Ev (fun k=>fC.l0 k (dK l) b (i:Int)) (brk l n i b):=by
 intro n
 induction n with
 |zero=>
  intro i b hn hi hi2;have w1:wrap64 ((i:Int)+1)=(i:Int)+1:=bQ (by omega) (by omega);refine vc ?_;simp only[fC.l0,w1,brk];clear w1;exact vn (by rw[aZ];omega) (vs _)
 |succ n ih=>
  intro i b hn hi hi2;have w1:wrap64 ((i:Int)+1)=(i:Int)+1:=bQ (by omega) (by omega);have w2:wrap64 ((i:Int)-1)=(i:Int)-1:=bQ (by omega) (by omega);have hs:=aZ l;have go:=ih (i+1) (t_ l i b) (by omega) (by omega) (by omega);rw[show((i+1:Nat):Int)=(i:Int)+1 by omega]at go;rw[brk];clear ih
  have jt:t_ l i b=b→Ev (fun k=>fC.j1 k (dK l) b (i:Int) true) (brk l n (i+1) (t_ l i b)):=fun e=>by
   refine vc ?_;simp only[fC.j1,w1];rw[e]at go⊢;exact vp (by simp) go
  refine vc ?_;simp only[fC.l0,w1,w2];refine vp (by omega) (vp (by omega) (vp (by omega) ?_));by_cases c1:bt (dK l) (i:Int)=32
  ·refine vp c1 (vp (by omega) (vp (by omega) ?_));by_cases c2:bt (dK l) ((i:Int)-1)=32
   ·exact vp c2 (jt (by unfold t_ rE;rw[if_neg (by simp[c2])]))
   ·refine vn c2 (vp (by omega) ?_);by_cases c3:bt (dK l) ((i:Int)+1)=32
    ·rw[show(bt (dK l) ((i:Int)+1)==32)=true by simp[c3]];exact jt (by unfold t_ rE;rw[if_neg (by simp[c3])])
    ·rw[show(bt (dK l) ((i:Int)+1)==32)=false by simp[c3]];refine vc ?_;simp only[fC.j1,w1];clear w1 w2;refine vn (by simp) ?_;by_cases c5:(i:Int)≤40
     ·refine vp c5 ?_;have e:t_ l i b=(i:Int):=by unfold t_ rE;rw[if_pos (by simp[c1,c2,c3];omega)]
      rw[e]at go⊢;exact go
     ·refine vn c5 ?_;by_cases c4:b<0
      ·refine vp c4 ?_;have e:t_ l i b=(i:Int):=by unfold t_ rE;rw[if_pos (by simp[c1,c2,c3,c4])]
       rw[e]at go⊢;exact go
      ·refine vn c4 ?_;have e:t_ l i b=b:=by unfold t_;rw[if_neg (fun h=>by have:=h.2;omega)]
       rw[e]at go⊢;exact go
  ·exact vn c1 (jt (by unfold t_ rE;rw[if_neg (by simp[c1])]))
theorem Sv:∀(n:Nat) (l:Str) (i:Nat) (acc:List Str),l.length≤n→l.length≤1048576→1≤i→i≤1048578→acc.length+l.length≤2000000→Ev (fun k=>gJ.l0 k (acc.map dK) (dK l) (i:Int)) ((acc++fl n l (i+1)).map dK):=by
 intro n
 induction n with
 |zero=>
  intro l i acc hn hl hi hi2 ha;refine vc ?_;simp only[gJ.l0,aZ,List.length_map,fl];exact vn (by omega) (vp (by omega) (vq (vs _) (B_ acc l)))
 |succ n ih=>
  intro l i acc hn hl hi hi2 ha;refine vc ?_;simp only[gJ.l0,fl];by_cases c:l.length>40
  ·refine vp (by rw[aZ];omega) ?_;rw[if_pos c];have hr:=OC l (i+1)
   have hb:Ev (fun k=>fC.f k (dK l) (i:Int)) (Ud l (i+1)):=by
    unfold fC.f;rw[show wrap64 ((i:Int)+1)=((i+1:Nat):Int) by rw[bQ (by omega) (by omega)];omega];exact afR l hl (l.length-1-(i+1)) (i+1) (-1) rfl (by omega) (by omega)
   refine vb hb ?_
   generalize Ud l (i+1)=t at hr
   by_cases d:t<0
   ·rw[if_pos d];exact vp d (vp (by rw[List.length_map];omega) (vq (vs _) (B_ acc l)))
   ·rw[if_neg d];obtain⟨m,rfl⟩:=Int.eq_ofNat_of_zero_le (a:=t) (by omega);have h2:=ih (l.drop m) 1 (acc++[l.take m]) (by rw[List.length_drop];omega) (by rw[List.length_drop];omega) (by omega) (by omega) (by rw[List.length_append,List.length_drop];simp;omega);refine vn d (vp (by omega) (vp (by rw[aZ];omega) (vp (by rw[List.length_map];omega) ?_)));rw[←B_]at h2;simp only[nR,aZ,Int.toNat_natCast,List.drop_zero,Nat.sub_zero]at h2⊢;rw[List.take_of_length_le (l:=l.drop m) (by rw[List.length_drop];omega)];refine vq h2 ?_;simp
  ·refine vn (by rw[aZ];omega) ?_;rw[if_neg c];exact vp (by rw[List.length_map];omega) (vq (vs _) (B_ acc l))
def fv(f:Str×Str):Bool:=Np f.1&&(nH f.2&&(decide (f.2.length≤150)&&decide (trim f.2=f.2)))
def fvs(fs:List (Str×Str)):Bool:=decide (fs.length≤20)&&fs.all fv
theorem afS{f:Str×Str}(h:fv f=true):f.1.length≤30∧f.2.length≤150:=by
 unfold fv at h;simp only[Bool.and_eq_true,decide_eq_true_iff]at h;exact⟨adF h.1,h.2.2.1⟩
theorem Ue{f:Str×Str}(h:fv f=true):(J5 f).length≤183:=by
 have:=afS h;have h2:=anL (adR f).length (adR f) (f.1.length+3) (by omega)
 have h3:(adR f).length≤f.1.length+2+f.2.length:=by
  unfold adR;by_cases c:f.2=[]
  ·rw[if_pos c];simp;omega
  ·rw[if_neg c];simp;omega
 unfold J5;omega
theorem acp(l:Str)(hl:l.length≤1000000000):kQ.f (dK l) (⟨#[32]⟩:ByteArray)=some (dK (trim l)):=by
 unfold kQ.f;rw[if_pos rfl,if_pos (by rw[aZ];omega)];rfl
theorem OD(f:Str×Str)(h1:f.1.length≤1048576)(h2:f.2.length≤1048576):Ev (fun k=>qN.f k (dK f.1) (dK f.2)) (fv f):=by
 unfold qN.f fv;refine vb (Le f.1 (by omega)) ?_
 cases Np f.1 with
 |false=>exact vn (by simp) (vs _)
 |true=>
  refine vp rfl (vb (qL f.2 (by omega)) ?_)
  cases nH f.2 with
  |false=>exact vn (by simp) (vs _)
  |true=>
   refine vp rfl ?_;rw[aZ];by_cases c:f.2.length≤150
   ·refine vp (by omega) (kK (acp f.2 (by omega)) (vq (vs _) ?_));rw[oD,oD,MP,decide_eq_true c];simp
   ·refine vn (by omega) (vq (vs _) ?_);rw[decide_eq_false c];simp
theorem FH(f:Str×Str)(h1:f.1.length≤1048576)(h2:f.2.length≤1048576):Ev (fun k=>lY.f k (dK f.1) (dK f.2)) (fv f):=by
 unfold lY.f fv;refine vb (Lh f.1 (by omega)) ?_
 cases Np f.1 with
 |false=>exact vn (by simp) (vs _)
 |true=>
  refine vp rfl (vb (sS f.2 (by omega)) ?_)
  cases nH f.2 with
  |false=>exact vn (by simp) (vs _)
  |true=>
   refine vp rfl ?_;rw[aZ];by_cases c:f.2.length≤150
   ·refine vp (by omega) (vb (uI f.2 (by omega)) (vq (vs _) ?_));rw[oD,oD,MP,decide_eq_true c];simp
   ·refine vn (by omega) (vq (vs _) ?_);rw[decide_eq_false c];simp
theorem J8(ls:List (Str×Str))(hs:small ls)(hn:ls.length≤1048576)(r:List (Str×Str)):∀p,ls=p++r→∃v:Int,Ev (fun k=>dG.l0 k (ls.map vI) (ls.length:Int) (p.length:Int)) v∧decide (v≥0)= !(r.all fv):=by
 induction r with
 |nil=>
  intro p h;have hz:ls.length=p.length:=by rw[h,List.append_nil]
  refine⟨-1,vc ?_,rfl⟩;simp only[dG.l0];exact vn (by omega) (vs _)
 |cons c r ih=>
  intro p h;have hz:=iI h;have e1:=yj h;have hc:=hs c (by rw[h];simp);have w1:wrap64 ((p.length:Int)+1)=(p.length:Int)+1:=bQ (by omega) (by omega);obtain⟨v,hv,hv2⟩:=ih (p++[c]) (by rw[h];simp);rw[jD]at hv;have h1:Ev (fun k=>pO.f k (dK c.1) (dK c.2)) (!fv c):=vb (OD c hc.1 hc.2) (vs _)
  cases e:fv c with
  |true=>
   rw[e]at h1;refine⟨v,vc ?_,by rw[hv2,List.all_cons,e];rfl⟩;simp only[dG.l0,e1,w1,List.length_map];clear w1;exact vp (by omega) (vp (by omega) (vp (by omega) (vb h1 (vn (by simp) hv))))
  |false=>
   rw[e]at h1;refine⟨p.length,vc ?_,by rw[List.all_cons,e];simp⟩;simp only[dG.l0,e1,w1,List.length_map];clear w1;exact vp (by omega) (vp (by omega) (vp (by omega) (vb h1 (vp (by simp) (vs _)))))
theorem Nw(ls:List (Str×Str))(hs:small ls)(hn:ls.length≤1048576):Ev (fun k=>oJ.f k (ls.map vI)) (fvs ls):=by
 unfold oJ.f kM.f dG.f fvs;rw[List.length_map];by_cases c:ls.length≤20
 ·obtain⟨v,hv,hv2⟩:=J8 ls hs hn ls [] rfl;refine vp (by omega) (vb (vb hv (vs _)) (vq (vs _) ?_));rw[hv2,decide_eq_true c];simp
 ·refine vn (by omega) (vq (vs _) ?_);rw[decide_eq_false c];rfl
theorem Sz(ls:List (Str×Str))(hs:small ls)(hn:ls.length≤1048576)(r:List (Str×Str)):∀p,ls=p++r→Ev (fun k=>fQ.l0 k (ls.map vI) (p.length:Int)) (decide (ls.length≤20)&&r.all fv):=by
 have out:∀i:Int,Ev (fun k=>fQ.j1 k (ls.map vI) i false) (decide (ls.length≤20)):=fun i=>by
  refine vc ?_;simp only[fQ.j1,List.length_map];refine vn (by simp) (vq (vs _) ?_);exact decide_eq_decide.mpr (by omega)
 induction r with
 |nil=>
  intro p h;have hz:ls.length=p.length:=by rw[h,List.append_nil]
  refine vc ?_;simp only[fQ.l0,List.length_map];refine vn (by omega) (vq (out _) (by simp))
 |cons c r ih=>
  intro p h;have hz:=iI h;have e1:=yj h;have hc:=hs c (by rw[h];simp);have w1:wrap64 ((p.length:Int)+1)=(p.length:Int)+1:=bQ (by omega) (by omega);have hv:=ih (p++[c]) (by rw[h];simp);rw[jD]at hv;have h1:=FH c hc.1 hc.2;refine vc ?_;simp only[fQ.l0,List.length_map];refine vp (by omega) ?_;by_cases c2:p.length≤20
  ·rw[show decide ((p.length:Int)≤20)=true from decide_eq_true (by omega)];refine vc ?_;simp only[fQ.j1,List.length_map,e1,w1];clear w1;refine vp trivial (vp (by omega) (vp (by omega) (vb h1 ?_)))
   cases e:fv c with
   |true=>exact vp rfl (vq hv (by rw[List.all_cons,e,Bool.true_and]))
   |false=>exact vn (by simp) (vq (vs _) (by rw[List.all_cons,e];simp))
  ·rw[show decide ((p.length:Int)≤20)=false from decide_eq_false (by omega)];exact vq (out _) (by rw[decide_eq_false (by omega)];rfl)
theorem Ci(ls:List (Str×Str))(hs:small ls)(hn:ls.length≤1048576):Ev (fun k=>fQ.f k (ls.map vI)) (fvs ls):=Sz ls hs hn ls [] rfl
theorem LD(ls:List (Str×Str))(hv:ls.all fv=true)(hn:ls.length≤20)(r:List (Str×Str)):∀(p:List (Str×Str)) (acc:List Str),ls=p++r→acc.length≤183*p.length→Ev (fun k=>ji.l0 k (acc.map dK) (ls.map vI) (ls.length:Int) (p.length:Int)) ((acc++r.flatMap J5).map dK,true):=by
 induction r with
 |nil=>
  intro p acc h ha;have hz:ls.length=p.length:=by rw[h,List.append_nil]
  refine vc ?_;simp only[ji.l0];exact vn (by omega) (vq (vs _) (by simp))
 |cons c r ih=>
  intro p acc h ha;have hz:=iI h;have e1:=yj h;have hc:fv c=true:=List.all_eq_true.mp hv c (by rw[h];simp);have hl:=afS hc;have hf:=Ue hc;have w1:wrap64 ((p.length:Int)+1)=(p.length:Int)+1:=bQ (by omega) (by omega);have hv:=ih (p++[c]) (acc++J5 c) (by rw[h];simp) (by simp only[List.length_append,List.length_singleton];omega);rw[jD,List.map_append]at hv;refine vc ?_;simp only[ji.l0,List.length_map,e1,w1];clear w1;exact vp (by omega) (vp (by omega) (vp (by omega) (vb (Sr c (by omega) (by omega)) (vp (by simp only[List.length_map];omega) (vq hv (by simp))))))
def folds(ls:List (Str×Str)):List Str:=ls.flatMap J5
theorem Uf(ls:List (Str×Str))(h:fvs ls=true):(folds ls).length≤3660:=by
 unfold fvs at h;simp only[Bool.and_eq_true,decide_eq_true_iff]at h
 have key:∀r:List (Str×Str),r.all fv=true→(r.flatMap J5).length≤183*r.length:=by
  intro r
  induction r with
  |nil=>intro _;simp
  |cons c r ih=>
   intro h;rw[List.all_cons,Bool.and_eq_true]at h;have:=ih h.2;have:=Ue h.1;rw[List.flatMap_cons,List.length_append,List.length_cons];omega
 have:=key ls h.2;unfold folds;omega
theorem yG(ls:List (Str×Str))(hs:small ls)(hn:ls.length≤1048576):Ev (fun k=>ji.f k (ls.map vI)) (if fvs ls=true then((folds ls).map dK,true)else([],false)):=by
 unfold ji.f;refine vb (Nw ls hs hn) ?_
 cases e:fvs ls with
 |false=>exact vn (by simp) (vs _)
 |true=>
  rw[List.length_map];unfold fvs at e;simp only[Bool.and_eq_true,decide_eq_true_iff]at e;exact vp rfl (LD ls e.2 e.1 ls [] [] rfl (by simp))
theorem SA(f:Str×Str)(hf:fv f=true):Ev (fun k=>gJ.f k (dK f.1) (dK f.2)) ((J5 f).map dK):=by
 have hl:=afS hf;have hx:=FH f (by omega) (by omega);rw[hf]at hx;obtain⟨a,b⟩:=f;simp only at hl;unfold gJ.f J5 adR
 have key:∀l:Str,l.length≤3000→Ev (fun k=>gJ.j0 k [] (dK l) ((a.length+2:Nat):Int)) ((fl l.length l (a.length+3)).map dK):=by
  intro l hl;refine vc ?_;simp only[gJ.j0];have:=Sv l.length l (a.length+2) [] (Nat.le_refl _) (by omega) (by omega) (by omega) (by simp;omega);exact this
 refine vb (vs _) (vb hx (vp rfl ?_));have w:wrap64 (((a.length+1:Nat):Int)+1)=((a.length+2:Nat):Int):=by rw[bQ (by omega) (by omega)];omega
 simp only[aac,aad,qP,aZ,oD,List.length_append,List.length_cons,List.length_nil];refine vp (by omega) ?_;by_cases c:b=[]
 ·subst c;refine vp rfl ?_;refine vc ?_;simp only[gJ.j0];have:=Sv (a++[58]).length (a++[58]) (a.length+1) [] (Nat.le_refl _) (by simp;omega) (by omega) (by omega) (by simp;omega)
  have e:fl (a++[58]).length (a++[58]) (a.length+1+1)=fl (a++[58]).length (a++[58]) (a.length+3):=by
   have g:∀(n i j:Nat),fl n (a++[58]) i=fl n (a++[58]) j:=fun n i j=>by
    cases n with
    |zero=>rfl
    |succ n=>rw[fl,fl,if_neg (by simp;omega),if_neg (by simp;omega)]
   exact g _ _ _
  rw[e]at this
  simpa using this
 ·refine vn c (vp (by omega) (vp (by omega) ?_));have:=key ((a++[58])++[32]++b) (by simp;omega);rw[if_neg c,w]
  simpa [Nat.add_assoc,Nat.add_comm,Nat.add_left_comm] using this
theorem LG(ls:List (Str×Str))(hv:ls.all fv=true)(hn:ls.length≤20)(r:List (Str×Str)):∀(p:List (Str×Str)) (acc:List Str),ls=p++r→acc.length≤183*p.length→Ev (fun k=>iW.l0 k (ls.map vI) (acc.map dK) (p.length:Int)) ((acc++r.flatMap J5).map dK,true):=by
 induction r with
 |nil=>
  intro p acc h ha;have hz:ls.length=p.length:=by rw[h,List.append_nil]
  refine vc ?_;simp only[iW.l0,List.length_map];exact vn (by omega) (vq (vs _) (by simp))
 |cons c r ih=>
  intro p acc h ha;have hz:=iI h;have e1:=yj h;have hc:fv c=true:=List.all_eq_true.mp hv c (by rw[h];simp);have hf:=Ue hc;have w1:wrap64 ((p.length:Int)+1)=(p.length:Int)+1:=bQ (by omega) (by omega);have hv:=ih (p++[c]) (acc++J5 c) (by rw[h];simp) (by simp only[List.length_append,List.length_singleton];omega);rw[jD,List.map_append]at hv;refine vc ?_;simp only[iW.l0,List.length_map,e1,w1];clear w1;exact vp (by omega) (vp (by omega) (vb (SA c hc) (vp (by simp only[List.length_map];omega) (vq hv (by simp)))))
theorem OE(ls:List (Str×Str))(hs:small ls)(hn:ls.length≤1048576):Ev (fun k=>iW.f k (ls.map vI)) (if fvs ls=true then((folds ls).map dK,true)else([],false)):=by
 unfold iW.f;refine vb (vs _) (vb (Ci ls hs hn) ?_)
 cases e:fvs ls with
 |false=>exact vn (by simp) (vs _)
 |true=>
  unfold fvs at e;simp only[Bool.and_eq_true,decide_eq_true_iff]at e;exact vp rfl (LG ls e.2 e.1 ls [] [] rfl (by simp))
def ctype:Str:=[67,111,110,116,101,110,116,45,84,121,112,101]
def bF(fs:List (Str×Str)):Str×Bool:=match pk (A_ fs ctype).1 with
 |none=>([],false)
 |some x=>Ve x.1 x.2.1 x.2.2
theorem aae:(⟨#[67,111,110,116,101,110,116,45,84,121,112,101]⟩:ByteArray)=dK ctype:=rfl
theorem acr{fs:List (Str×Str)}(h:(bF fs).2=true):Ld (bF fs).1=true:=by
 unfold bF at h⊢
 cases e:pk (A_ fs ctype).1 with
 |none=>rw[e]at h;cases h
 |some x=>
  rw[e]at h;simp only at h⊢;unfold Ve at h⊢;by_cases c:xg x.1 x.2.1 x.2.2=true∧x.1=multi∧Ld (A_ x.2.2 bnd).1=true
  ·rw[if_pos c];exact c.2.2
  ·rw[if_neg c]at h;cases h
theorem axg:pk []=none:=by decide
theorem LH{l:Str}(h:isSmall l=true):l.length≤30:=by
 unfold isSmall at h;rw[Bool.and_eq_true]at h;exact adF h.1
theorem adS{s:Str}{x:Str×Str×List (Str×Str)}(h:pk s=some x):x.1.length≤1048576∧x.2.1.length≤1048576∧Hu x.2.2≤1048576∧x.2.2.length≤1048576:=by
 obtain⟨a,b,ps⟩:=x;have hv:=anF h;have h1:=RU hv;have h2:=aiB ps [] h1.2.2.2.1
 have key:∀q:List (Str×Str),(∀p∈q,isSmall p.1=true∧nH p.2=true∧p.2.length≤40)→Hu q≤70*q.length:=by
  intro q
  induction q with
  |nil=>intro _;simp[Hu]
  |cons c q ih=>
   intro h;have h3:=h c (by simp);have h4:=ih fun p hp=>h p (by simp[hp])
   have h5:=LH h3.1;rw[Hu,List.length_cons];omega
 have h3:=key ps h2;have h4:=LH h1.1;have h5:=LH h1.2.1;refine⟨?_,?_,?_,?_⟩<;>(simp only;omega)
theorem J9(fs:List (Str×Str))(hs:small fs)(hn:fs.length≤1048576)(bb:List ByteArray)(kk:List jm):Ev (fun k=>mQ.f k (fs.map vI) bb kk) (dK (bF fs).1,(bF fs).2):=by
 unfold mQ.f bF;rw[aae];refine vb (Iz fs ctype hs (by decide) hn) (vb (RQ _ (JJ fs ctype hs)) ?_)
 cases e:pk (A_ fs ctype).1 with
 |none=>exact vn (by simp[Vf]) (vs _)
 |some x=>
  have hx:=adS e;exact vp rfl (vb (Oy x.1 x.2.1 x.2.2 hx.1 hx.2.1 hx.2.2.1 hx.2.2.2) (vs _))
theorem FI(fs:List (Str×Str))(hs:small fs)(hn:fs.length≤1048576):Ev (fun k=>lu.f k (fs.map vI)) (dK (bF fs).1,(bF fs).2):=by
 unfold lu.f;rw[aae];refine vb (IB fs ctype hs (by decide) hn) (vb (RY _ (JJ fs ctype hs)) ?_);unfold bF
 cases e:pk (A_ fs ctype).1 with
 |none=>
  refine vb (Fp [] [] [] (by simp) (by simp) (by simp[Hu]) (by simp)) ?_
  cases (A_ fs ctype).2 with
  |true=>exact vp rfl (vn (by simp[Vf]) (vs _))
  |false=>exact vn (by simp) (vs _)
 |some x=>
  have hx:=adS e;refine vb (Fp x.1 x.2.1 x.2.2 hx.1 hx.2.1 hx.2.2.1 hx.2.2.2) ?_
  cases g:(A_ fs ctype).2 with
  |true=>exact vp rfl (vp rfl (vs _))
  |false=>rw[ZV fs ctype g,axg]at e;cases e
def kl(g:Pt→Option (List Str)):List Pt→Option (List (List Str))
 |[]=>some []
 |p:: r=>match g p with
  |none=>none
  |some a=>(kl g r).map (a:: ·)
def tbs(b:List Str):Bool:=decide (b.length≤30)&&b.all nH
def head(f:List (Str×Str)):List Str:=folds f++[[]]
def lines:Nat→Pt→Option (List Str)
 |0,_=>none
 |d+1, .mk f b k=>if fvs f=true then(if(bF f).2=true then(if b=[]∧1≤k.length∧k.length≤4 then(match kl (lines d) k with
   |none=>none
   |some ls=>(jR (bF f).1 ls).map (head f++ ·))else none)else(if k=[]∧tbs b=true then some (head f++b)else none))else none
theorem afT{g:Pt→Option (List Str)}{N:Nat}:∀{k:List Pt} {ls:List (List Str)},kl g k=some ls→(∀p∈k,∀a,g p=some a→a.length≤N)→ls.length=k.length∧tl ls≤(N+1)*k.length
 |[],ls,h,_=>by
  rw[kl]at h;cases h;simp[tl]
 |p:: r,ls,h,hN=>by
  rw[kl]at h
  cases e:g p with
  |none=>rw[e]at h;cases h
  |some a=>
   rw[e]at h
   cases e2:kl g r with
   |none=>rw[e2]at h;cases h
   |some l=>
    rw[e2]at h;cases h;have h1:=afT e2 fun q hq=>hN q (by simp[hq])
    have h2:=hN p (by simp) a e;rw[List.length_cons,List.length_cons,tl,Nat.mul_succ];omega
def lN:Nat→Nat
 |0=>4000
 |d+1=>4*lN d+4000
theorem anM{d:Nat}(h:d≤3):lN d≤500000:=by
 rcases d with _|_|_|_|d
 ·decide
 ·decide
 ·decide
 ·decide
 ·omega
theorem afU{b:Str}{ps:List (List Str)}{s:List Str}(h:jR b ps=some s):s.length=tl ps+1:=by
 unfold jR at h;split at h
 ·cases h;rw[List.length_append,Yt];rfl
 ·cases h
theorem Yv{f:List (Str×Str)}(h:fvs f=true):(head f).length≤3661:=by
 have:=Uf f h;unfold head;rw[List.length_append,List.length_singleton];omega
theorem II:∀(d:Nat) (p:Pt) (ls:List Str),lines d p=some ls→ls.length≤lN d
 |0,p,ls,h=>by rw[lines]at h;cases h
 |d+1, .mk f b k,ls,h=>by
  rw[lines]at h;by_cases c:fvs f=true
  ·rw[if_pos c]at h;have h1:=Yv c;by_cases c1:(bF f).2=true
   ·rw[if_pos c1]at h;by_cases c2:b=[]∧1≤k.length∧k.length≤4
    ·rw[if_pos c2]at h
     cases e:kl (lines d) k with
     |none=>rw[e]at h;cases h
     |some l=>
      rw[e]at h;simp only at h;have h2:=afT e (N:=lN d) fun p _ a h=>II d p a h
      cases e2:jR (bF f).1 l with
      |none=>rw[e2]at h;cases h
      |some s=>
       rw[e2]at h;cases h;have h3:=afU e2;have h4:(lN d+1)*k.length≤(lN d+1)*4:=Nat.mul_le_mul_left _ c2.2.2;rw[List.length_append,lN];omega
    ·rw[if_neg c2]at h;cases h
   ·rw[if_neg c1]at h;by_cases c2:k=[]∧tbs b=true
    ·rw[if_pos c2]at h;cases h;have h2:=c2.2;unfold tbs at h2;simp only[Bool.and_eq_true,decide_eq_true_iff]at h2;rw[List.length_append,lN];omega
    ·rw[if_neg c2]at h;cases h
  ·rw[if_neg c]at h;cases h
theorem OG(ls:List Str)(hs:∀x∈ls,x.length≤1048576)(hn:ls.length≤1048576)(r:List Str):∀p,ls=p++r→∃v:Int,Ev (fun k=>aU.l0 k (ls.map dK) (ls.length:Int) (p.length:Int)) v∧decide (v≥0)= !(r.all nH):=by
 induction r with
 |nil=>
  intro p h;have hz:ls.length=p.length:=by rw[h,List.append_nil]
  refine⟨-1,vc ?_,rfl⟩;simp only[aU.l0];exact vn (by omega) (vs _)
 |cons c r ih=>
  intro p h;have hz:=iI h;have e1:=yh h;have hc:=hs c (by rw[h];simp);have w1:wrap64 ((p.length:Int)+1)=(p.length:Int)+1:=bQ (by omega) (by omega);obtain⟨v,hv,hv2⟩:=ih (p++[c]) (by rw[h];simp);rw[jD]at hv;have h1:Ev (fun k=>su.f k (dK c)) (!nH c):=vb (qL c (by omega)) (vs _)
  cases e:nH c with
  |true=>
   rw[e]at h1;refine⟨v,vc ?_,by rw[hv2,List.all_cons,e];rfl⟩;simp only[aU.l0,e1,w1,List.length_map];clear w1;exact vp (by omega) (vp (by omega) (vp (by omega) (vb h1 (vn (by simp) hv))))
  |false=>
   rw[e]at h1;refine⟨p.length,vc ?_,by rw[List.all_cons,e];simp⟩;simp only[aU.l0,e1,w1,List.length_map];clear w1;exact vp (by omega) (vp (by omega) (vp (by omega) (vb h1 (vp (by simp) (vs _)))))
theorem Ug(ls:List Str)(hs:∀x∈ls,x.length≤1048576)(hn:ls.length≤1048576):Ev (fun k=>tu.f k (ls.map dK) 30) (tbs ls):=by
 unfold tu.f gU.f aU.f tbs;rw[List.length_map];by_cases c:ls.length≤30
 ·obtain⟨v,hv,hv2⟩:=OG ls hs hn ls [] rfl;refine vp (by omega) (vb (vb hv (vs _)) (vq (vs _) ?_));rw[hv2,decide_eq_true c];simp
 ·refine vn (by omega) (vq (vs _) ?_);rw[decide_eq_false c];rfl
def lr(o:Option (List Str))(v:List ByteArray×Bool):Prop:=match o with
 |some ls=>v=(ls.map dK,true)
 |none=>v.2=false
theorem Ba{f:List (Str×Str)}{b:List Str}{k:List Pt}(h:Cb (.mk f b k)≤1048576):small f∧f.length≤1048576∧(∀x∈b,x.length≤1048576)∧b.length≤1048576∧k.length≤1048576∧∀p∈k,Cb p≤1048576:=by
 rw[Cb]at h;exact⟨Iy (by omega),by omega,fun x hx=>by have:=aq1 hx;omega,by omega,by omega,fun p hp=>by have:=Ag hp;omega⟩
theorem adT(f:List (Str×Str)):(folds f).map dK++[(⟨#[]⟩:ByteArray)]=(head f).map dK:=by
 unfold head;rw[List.map_append];rfl
theorem adU(acc:List (List Str))(l:List Str):acc.map (List.map dK)++[l.map dK]=(acc++[l]).map (List.map dK):=by rw[List.map_append];rfl
theorem Vl:∀(d:Nat) (p:Pt),d≤3→Cb p≤1048576→∃v,Ev (fun k=>aV.f k (e32 p).f0 (e32 p).f1 (e32 p).f2 (d:Int)) v∧lr (lines d p) v:=by
 have bad:∀(d:Int) (X:List ByteArray) (F:List iq) (B:List ByteArray) (K:List jm),Ev (fun k=>aV.j0 k d X true F B K) ([],false):=fun d X F B K=>by
  refine vc ?_;simp only[aV.j0];exact vp trivial (vs _)
 intro d
 induction d with
 |zero=>
  intro p hd hp;obtain⟨f,b,k⟩:=p;obtain⟨hf,hfn,-⟩:=Ba hp;simp only[yF];refine⟨([],false),vc ?_,rfl⟩;simp only[aV.f];refine vb (yG f hf hfn) ?_;by_cases c:fvs f=true
  ·rw[if_pos c];exact vp rfl (bad _ _ _ _ _)
  ·rw[if_neg c];exact vn (by simp) (bad _ _ _ _ _)
 |succ d ih=>
  intro p hd hp;obtain⟨f,b,k⟩:=p;obtain⟨hf,hfn,hb,hbn,hkn,hk⟩:=Ba hp;simp only[yF];rw[lines];by_cases c:fvs f=true
  case neg=>
   rw[if_neg c];refine⟨([],false),vc ?_,rfl⟩;simp only[aV.f];refine vb (yG f hf hfn) ?_;rw[if_neg c];exact vn (by simp) (bad _ _ _ _ _)
  rw[if_pos c];have hh:=Yv c;have hfo:=Uf f c
  have go:∀v,Ev (fun n=>if(bF f).2=true then(if(b.length:Int)>0 then aV.j1 n ((d+1:Nat):Int) ((head f).map dK) (dK (bF f).1) true (f.map vI) (b.map dK) (k.map e32)else(if(k.length:Int)<1 then aV.j1 n ((d+1:Nat):Int) ((head f).map dK) (dK (bF f).1) true (f.map vI) (b.map dK) (k.map e32)else aV.j1 n ((d+1:Nat):Int) ((head f).map dK) (dK (bF f).1) (decide ((k.length:Int)>4)) (f.map vI) (b.map dK) (k.map e32)))else(if((head f).map dK).length+(b.map dK).length<8796093022208 then(some ((head f).map dK++b.map dK:List ByteArray)).bind fun y=>(if(k.length:Int)=0 then((tu.f n (b.map dK) 30).bind fun t=>some (y,t))else some (y,false))else none)) v→Ev (fun n=>aV.f n (f.map vI) (b.map dK) (k.map e32) ((d+1:Nat):Int)) v:=by
   intro v hv;refine vc ?_;simp only[aV.f];refine vb (yG f hf hfn) ?_;rw[if_pos c];refine vp rfl ?_;rw[show(((d+1:Nat):Int)==0)=false by simp;omega];refine vc ?_;simp only[aV.j0];refine vn (by simp) (vp (by rw[List.length_map];omega) (vb (vs _) (vb (J9 f hf hfn _ _) ?_)));rw[adT];simp only[List.length_map]at hv⊢;exact hv
  have afV:∀(X:List ByteArray) (B:ByteArray),Ev (fun n=>aV.j1 n ((d+1:Nat):Int) X B true (f.map vI) (b.map dK) (k.map e32)) ([],false):=fun X B=>by
   refine vc ?_;simp only[aV.j1];exact vp trivial (vs _)
  by_cases c1:(bF f).2=true
  ·rw[if_pos c1];by_cases c2:b=[]∧1≤k.length∧k.length≤4
   ·rw[if_pos c2];obtain⟨rfl,hk1,hk4⟩:=c2;have hbd:=Ye (acr c1);have hN:=anM (d:=d) (by omega)
    have key:∀(r p:List Pt) (acc:List (List Str)),k=p++r→acc.length=p.length→tl acc≤(lN d+1)*p.length→∃v,Ev (fun n=>aV.l0 n ((d+1:Nat):Int) ((head f).map dK) (dK (bF f).1) (acc.map (List.map dK)) (k.map e32) (k.length:Int) (p.length:Int)) v∧lr (match kl (lines d) r with
      |none=>none
      |some ls=>(jR (bF f).1 (acc++ls)).map (head f++ ·)) v:=by
     intro r
     induction r with
     |nil=>
      intro p acc h ha ht;have hz:k.length=p.length:=by rw[h,List.append_nil]
      have ht2:(lN d+1)*p.length≤(lN d+1)*4:=Nat.mul_le_mul_left _ (by omega);have hj:=R_ acc (bF f).1 (by omega) (by omega);rw[kl];simp only[List.append_nil]
      cases e:jR (bF f).1 acc with
      |none=>
       rw[e]at hj;refine⟨((head f).map dK++[],false),vc ?_,rfl⟩;simp only[aV.l0];exact vn (by omega) (vb hj (vp (by rw[List.length_map];simp only[Uc,List.length_nil];omega) (vs _)))
      |some s=>
       rw[e]at hj;have hs:=afU e;refine⟨((head f).map dK++s.map dK,true),vc ?_,by simp[lr]⟩;simp only[aV.l0];exact vn (by omega) (vb hj (vp (by rw[List.length_map];simp only[Uc,List.length_map];omega) (vs _)))
     |cons q r ihr=>
      intro p acc h ha ht;have hz:=iI h;have e1:=FC h;have w1:wrap64 ((p.length:Int)+1)=(p.length:Int)+1:=bQ (by omega) (by omega);have w2:wrap64 (((d+1:Nat):Int)-1)=(d:Int):=by rw[bQ (by omega) (by omega)];omega
      obtain⟨u,hu,hr⟩:=ih q (by omega) (hk q (by rw[h];simp));rw[kl]
      cases e:lines d q with
      |none=>
       rw[e]at hr;refine⟨([],false),vc ?_,rfl⟩;simp only[aV.l0,List.length_map,e1,w1,w2];clear w1 w2;exact vp (by omega) (vp (by omega) (vp (by omega) (vb hu (vn (by rw[show u.2=false from hr];simp) (vs _)))))
      |some a=>
       rw[e]at hr;have hr:u=(a.map dK,true):=hr;subst hr;have hla:=II d q a e;obtain⟨v,hv,hv2⟩:=ihr (p++[q]) (acc++[a]) (by rw[h];simp) (by simp[ha]) (by rw[Iu,List.length_append,List.length_singleton,Nat.mul_add];simp only[tl];omega);rw[jD,←adU]at hv;refine⟨v,vc ?_,?_⟩
       ·simp only[aV.l0,List.length_map,e1,w1,w2];clear w1 w2;exact vp (by omega) (vp (by omega) (vp (by omega) (vb hu (vp rfl (vp (by omega) hv)))))
       ·simp only
        cases e2:kl (lines d) r with
        |none=>rw[e2]at hv2;exact hv2
        |some l=>
         rw[e2]at hv2
         simpa using hv2
    obtain⟨v,hv,hv2⟩:=key k [] [] rfl rfl (by simp[tl]);refine⟨v,go v (vp c1 (vn (by simp) (vn (by omega) ?_))),hv2⟩;rw[show decide ((k.length:Int)>4)=false from decide_eq_false (by omega)];refine vc ?_;simp only[aV.j1,List.length_map];exact vn (by simp) hv
   ·rw[if_neg c2];refine⟨([],false),go _ (vp c1 ?_),rfl⟩;by_cases c3:(b.length:Int)>0
    ·exact vp c3 (afV _ _)
    ·refine vn c3 ?_;have hb0:b=[]:=List.length_eq_zero_iff.mp (by omega);by_cases c4:(k.length:Int)<1
     ·exact vp c4 (afV _ _)
     ·refine vn c4 ?_
      rw[show decide ((k.length:Int)>4)=true from decide_eq_true (by
       apply Classical.byContradiction;intro h;exact c2 ⟨hb0,by omega,by omega⟩)]
      exact afV _ _
  ·rw[if_neg c1];have hlen:((head f).map dK).length+(b.map dK).length<8796093022208:=by simp only[List.length_map];omega
   by_cases c3:k=[]
   ·subst c3;refine⟨((head f).map dK++b.map dK,tbs b),go _ (vn c1 (vp hlen (vb (vs _) (vp rfl (vb (Ug b hb hbn) (vs _)))))),?_⟩
    cases e:tbs b with
    |true=>simp[lr]
    |false=>simp[lr]
   ·have hk0:¬(k.length:Int)=0:=fun h=>c3 (List.length_eq_zero_iff.mp (by omega))
    refine⟨((head f).map dK++b.map dK,false),go _ (vn c1 (vp hlen (vb (vs _) (vn hk0 (vs _))))),?_⟩;rw[if_neg (fun h=>c3 h.1)];rfl
theorem SB(p:Pt)(hp:Cb p≤1048576):Ev (fun k=>pY.f k (e32 p).f0 (e32 p).f1 (e32 p).f2) (lines 3 p).isSome:=by
 unfold pY.f;obtain⟨v,hv,hr⟩:=Vl 3 p (by omega) hp;refine vb hv (vq (vs _) ?_)
 cases e:lines 3 p with
 |none=>rw[e]at hr;exact hr
 |some ls=>
  rw[e]at hr;rw[show v=_ from hr];rfl
theorem Uh:∀(d:Nat) (p:Pt) (ls:List Str),d≤3→Cb p≤1048576→lines d p=some ls→Ev (fun k=>jI.f k (e32 p).f0 (e32 p).f1 (e32 p).f2) (ls.map dK):=by
 intro d
 induction d with
 |zero=>intro p ls hd hp h;rw[lines]at h;cases h
 |succ d ih=>
  intro p ls hd hp h;obtain⟨f,b,k⟩:=p;obtain⟨hf,hfn,hb,hbn,hkn,hk⟩:=Ba hp;simp only[yF];rw[lines]at h;by_cases c:fvs f=true
  case neg=>rw[if_neg c]at h;cases h
  rw[if_pos c]at h;have hh:=Yv c;have hfo:=Uf f c;refine vc ?_;simp only[jI.f];refine vb (OE f hf hfn) ?_;rw[if_pos c];refine vp (by rw[List.length_map];omega) (vb (vs _) (vb (FI f hf hfn) ?_));simp only[adT];by_cases c1:(bF f).2=true
  ·rw[if_pos c1]at h;by_cases c2:b=[]∧1≤k.length∧k.length≤4
   case neg=>rw[if_neg c2]at h;cases h
   rw[if_pos c2]at h;obtain⟨rfl,hk1,hk4⟩:=c2;have hbd:=Ye (acr c1);have hN:=anM (d:=d) (by omega)
   cases e:kl (lines d) k with
   |none=>rw[e]at h;cases h
   |some l=>
   rw[e]at h;simp only at h
   cases e2:jR (bF f).1 l with
   |none=>rw[e2]at h;cases h
   |some s=>
   rw[e2]at h;cases h
   have key:∀(r p:List Pt) (acc m:List (List Str)),k=p++r→acc.length=p.length→tl acc≤(lN d+1)*p.length→kl (lines d) r=some m→l=acc++m→Ev (fun n=>jI.l0 n ((head f).map dK) (dK (bF f).1) (acc.map (List.map dK)) (p.length:Int) (f.map vI) (([]:List Str).map dK) (k.map e32)) ((head f++s).map dK):=by
    intro r
    induction r with
    |nil=>
     intro p acc m h ha ht hm hl;have hz:k.length=p.length:=by rw[h,List.append_nil]
     have ht2:(lN d+1)*p.length≤(lN d+1)*4:=Nat.mul_le_mul_left _ (by omega);rw[kl]at hm;cases hm;rw[List.append_nil]at hl;subst hl;have hj:=Sl l (bF f).1 (by omega) (by omega);rw[e2]at hj;have hs:=afU e2;refine vc ?_;simp only[jI.l0,List.length_map];exact vn (by omega) (vb hj (vp (by simp only[Uc,List.length_map];omega) (vq (vs _) (by simp[Uc]))))
    |cons q r ihr=>
     intro p acc m h ha ht hm hl;have hz:=iI h;have e1:=FC h;have w1:wrap64 ((p.length:Int)+1)=(p.length:Int)+1:=bQ (by omega) (by omega);rw[kl]at hm
     cases e3:lines d q with
     |none=>rw[e3]at hm;cases hm
     |some a=>
     rw[e3]at hm
     cases e4:kl (lines d) r with
     |none=>rw[e4]at hm;cases hm
     |some m2=>
     rw[e4]at hm;cases hm;have hu:=ih q a (by omega) (hk q (by rw[h];simp)) e3;have hla:=II d q a e3;have hv:=ihr (p++[q]) (acc++[a]) m2 (by rw[h];simp) (by simp[ha]) (by rw[Iu,List.length_append,List.length_singleton,Nat.mul_add];simp only[tl];omega) e4 (by rw[hl];simp);rw[jD,←adU]at hv;refine vc ?_;simp only[jI.l0,List.length_map,e1,w1];clear w1;exact vp (by omega) (vp (by omega) (vb hu (vp (by omega) hv)))
   exact vp c1 (key k [] [] l rfl rfl (by simp[tl]) e rfl)
  ·rw[if_neg c1]at h;by_cases c2:k=[]∧tbs b=true
   case neg=>rw[if_neg c2]at h;cases h
   rw[if_pos c2]at h;cases h;refine vn c1 (vp (by simp only[List.length_map];omega) (vq (vs _) ?_));rw[List.map_append]
theorem Ui(ls:List Str)(hs:∀x∈ls,x.length≤1048576)(hn:ls.length≤1048576)(r:List Str):∀p,ls=p++r→Ev (fun k=>jw.l0 k (ls.map dK) (p.length:Int)) (decide (ls.length≤30)&&r.all nH):=by
 have out:∀i:Int,Ev (fun k=>jw.j1 k (ls.map dK) i false) (decide (ls.length≤30)):=fun i=>by
  refine vc ?_;simp only[jw.j1,List.length_map];refine vn (by simp) (vq (vs _) ?_);exact decide_eq_decide.mpr (by omega)
 induction r with
 |nil=>
  intro p h;have hz:ls.length=p.length:=by rw[h,List.append_nil]
  refine vc ?_;simp only[jw.l0,List.length_map];refine vn (by omega) (vq (out _) (by simp))
 |cons c r ih=>
  intro p h;have hz:=iI h;have e1:=yh h;have hc:=hs c (by rw[h];simp);have w1:wrap64 ((p.length:Int)+1)=(p.length:Int)+1:=bQ (by omega) (by omega);have hv:=ih (p++[c]) (by rw[h];simp);rw[jD]at hv;have h1:=sS c (by omega);refine vc ?_;simp only[jw.l0,List.length_map];refine vp (by omega) ?_;by_cases c2:p.length≤30
  ·rw[show decide ((p.length:Int)≤30)=true from decide_eq_true (by omega)];refine vc ?_;simp only[jw.j1,List.length_map,e1,w1];clear w1;refine vp trivial (vp (by omega) (vp (by omega) (vb h1 ?_)))
   cases e:nH c with
   |true=>exact vp rfl (vq hv (by rw[List.all_cons,e,Bool.true_and]))
   |false=>exact vn (by simp) (vq (vs _) (by rw[List.all_cons,e];simp))
  ·rw[show decide ((p.length:Int)≤30)=false from decide_eq_false (by omega)];exact vq (out _) (by rw[decide_eq_false (by omega)];rfl)
theorem Yw(ls:List Str)(hs:∀x∈ls,x.length≤1048576)(hn:ls.length≤1048576):Ev (fun k=>jw.f k (ls.map dK)) (tbs ls):=Ui ls hs hn ls [] rfl
theorem afW(b:Str)(hb:b.length≤100)(d x7:Int)(F:List iq)(B:List ByteArray)(K:List jm)(ls:List Str)(hn:ls.length≤1048576)(V:Bool)(h1:dv ls b=true→V=false)(h2:dv ls b=false→Ev (fun n=>bZ.l0 n d (dK b) (wrap64 (x7+1)) F B K) V):Ev (fun n=>bZ.l1 n d (dK b) x7 (ls.map dK) 0 F B K) V:=by
 rw[at1]at h1 h2
 have key:∀(r p:List Str),ls=p++r→(r.any (fun l=>lk l b)=true→V=false)→(r.any (fun l=>lk l b)=false→Ev (fun n=>bZ.l0 n d (dK b) (wrap64 (x7+1)) F B K) V)→Ev (fun n=>bZ.l1 n d (dK b) x7 (ls.map dK) (p.length:Int) F B K) V:=by
  intro r
  induction r with
  |nil=>
   intro p h g1 g2;have hz:ls.length=p.length:=by rw[h,List.append_nil]
   refine vc ?_;simp only[bZ.l1,List.length_map];exact vn (by omega) (g2 rfl)
  |cons c r ih=>
   intro p h g1 g2;have hz:=iI h;have e1:=yh h;have w1:wrap64 ((p.length:Int)+1)=(p.length:Int)+1:=bQ (by omega) (by omega);refine vc ?_;simp only[bZ.l1,List.length_map,e1,w1];clear w1;refine vp (by omega) (vp (by omega) (kK (J4 c b (by omega)) ?_))
   cases e:lk c b with
   |true=>
    refine vp rfl (vq (vs _) (g1 ?_).symm);rw[List.any_cons,e];rfl
   |false=>
    have:=ih (p++[c]) (by rw[h];simp) (fun g=>g1 (by rw[List.any_cons,e];exact g)) (fun g=>g2 (by rw[List.any_cons,e];exact g));rw[jD]at this;exact vn (by simp) this
 exact key ls [] rfl h1 h2
theorem Vm:∀(d:Nat) (p:Pt),d≤3→Cb p≤1048576→Ev (fun k=>bZ.f k (e32 p).f0 (e32 p).f1 (e32 p).f2 (d:Int)) (lines d p).isSome:=by
 have bad:∀(d:Int) (F:List iq) (B:List ByteArray) (K:List jm),Ev (fun k=>bZ.j0 k d true F B K) false:=fun d F B K=>by
  refine vc ?_;simp only[bZ.j0];exact vp trivial (vs _)
 intro d
 induction d with
 |zero=>
  intro p hd hp;obtain⟨f,b,k⟩:=p;obtain⟨hf,hfn,-⟩:=Ba hp;simp only[yF];refine vc ?_;simp only[bZ.f];refine vb (Ci f hf hfn) ?_;by_cases c:fvs f=true
  ·exact vp c (bad _ _ _ _)
  ·exact vn c (bad _ _ _ _)
 |succ d ih=>
  intro p hd hp;obtain⟨f,b,k⟩:=p;obtain⟨hf,hfn,hb,hbn,hkn,hk⟩:=Ba hp;simp only[yF];rw[lines];refine vc ?_;simp only[bZ.f];refine vb (Ci f hf hfn) ?_;by_cases c:fvs f=true
  case neg=>
   rw[if_neg c];exact vn c (bad _ _ _ _)
  rw[if_pos c];refine vp c ?_;rw[show decide (((d+1:Nat):Int)<1)=false from decide_eq_false (by omega)];refine vc ?_;simp only[bZ.j0,List.length_map];refine vn (by simp) (vb (FI f hf hfn) ?_)
  have afV:∀(B:ByteArray),Ev (fun n=>bZ.j1 n ((d+1:Nat):Int) B true (f.map vI) (b.map dK) (k.map e32)) false:=fun B=>by
   refine vc ?_;simp only[bZ.j1];exact vp trivial (vs _)
  by_cases c1:(bF f).2=true
  ·rw[if_pos c1];refine vp c1 ?_;by_cases c2:b=[]∧1≤k.length∧k.length≤4
   ·rw[if_pos c2];obtain⟨rfl,hk1,hk4⟩:=c2;have hbs:=acr c1;have hbd:=Ye hbs;have hN:=anM (d:=d) (by omega)
    have key:∀(r p:List Pt),k=p++r→Ev (fun n=>bZ.l0 n ((d+1:Nat):Int) (dK (bF f).1) (p.length:Int) (f.map vI) (([]:List Str).map dK) (k.map e32)) (match kl (lines d) r with
      |none=>false
      |some ls=>!ls.any (fun c=>dv c (bF f).1)):=by
     intro r
     induction r with
     |nil=>
      intro p h;have hz:k.length=p.length:=by rw[h,List.append_nil]
      refine vc ?_;simp only[bZ.l0,List.length_map];exact vn (by omega) (vs _)
     |cons q r ihr=>
      intro p h;have hz:=iI h;have e1:=FC h;have w1:wrap64 ((p.length:Int)+1)=(p.length:Int)+1:=bQ (by omega) (by omega);have w2:wrap64 (((d+1:Nat):Int)-1)=(d:Int):=by rw[bQ (by omega) (by omega)];omega
      have hu:=ih q (by omega) (hk q (by rw[h];simp));have hv:=ihr (p++[q]) (by rw[h];simp);rw[jD,←w1]at hv;refine vc ?_;simp only[bZ.l0,List.length_map,e1,w2];clear w1 w2;refine vp (by omega) (vp (by omega) (vb hu ?_));rw[kl]
      cases e:lines d q with
      |none=>exact vn (by simp) (vs _)
      |some a=>
       have hg:=Uh d q a (by omega) (hk q (by rw[h];simp)) e;have hla:=II d q a e;refine vp rfl (vb hg (afW _ (by omega) _ _ _ _ _ a (by omega) _ (fun g=>?_) (fun g=>vq hv ?_)))
       ·cases kl (lines d) r with
        |none=>rfl
        |some m=>simp[g]
       ·cases kl (lines d) r with
        |none=>rfl
        |some m=>simp[g]
    refine vn (by simp) (vn (by omega) ?_);rw[show decide ((k.length:Int)>4)=false from decide_eq_false (by omega)];refine vc ?_;simp only[bZ.j1];refine vn (by simp) (vq (key k [] rfl) ?_)
    cases e:kl (lines d) k with
    |none=>rfl
    |some ls=>
     have hl:=(afT e (N:=lN d) fun p _ a h=>II d p a h).1;have h0:ls≠[]:=fun h=>by rw[h]at hl;simp at hl;omega
     show(!ls.any (fun c=>dv c (bF f).1))=((jR (bF f).1 ls).map (head f++ ·)).isSome
     unfold jR
     cases ls.any (fun c=>dv c (bF f).1)with
     |true=>rw[if_neg (fun h=>by have:=h.2.2;cases this)];rfl
     |false=>rw[if_pos ⟨hbs,h0,rfl⟩];rfl
   ·rw[if_neg c2];by_cases c3:(b.length:Int)>0
    ·exact vp c3 (afV _)
    ·refine vn c3 ?_;have hb0:b=[]:=List.length_eq_zero_iff.mp (by omega);by_cases c4:(k.length:Int)<1
     ·exact vp c4 (afV _)
     ·refine vn c4 ?_
      rw[show decide ((k.length:Int)>4)=true from decide_eq_true (by
       apply Classical.byContradiction;intro h;exact c2 ⟨hb0,by omega,by omega⟩)]
      exact afV _
  ·rw[if_neg c1];refine vn c1 ?_;by_cases c3:k=[]
   ·subst c3;refine vp rfl (vb (Yw b hb hbn) (vq (vs _) ?_))
    cases e:tbs b with
    |true=>simp
    |false=>simp
   ·have hk0:¬(k.length:Int)=0:=fun h=>c3 (List.length_eq_zero_iff.mp (by omega))
    refine vn hk0 ?_;rw[if_neg (fun h=>c3 h.1)];exact vs _
theorem SC(p:Pt)(hp:Cb p≤1048576):Ev (fun k=>qp.f k (e32 p).f0 (e32 p).f1 (e32 p).f2) (lines 3 p).isSome:=by
 unfold qp.f;exact vb (Vm 3 p (by omega) hp) (vs _)
theorem ajL{x:FW}(h:UO x):∃p,x=e26 p∧Yu p:=by
 induction h with
 |mk x h0 g0 h1 g1 h2 g2 ih=>
  have hk:∀l:List FW,(∀y∈l,∃p,y=e26 p∧Yu p)→∃k:List Pt,l=k.map e26∧∀p∈k,Yu p:=by
   intro l
   induction l with
   |nil=>exact fun _=>⟨[],rfl,by simp⟩
   |cons y l ih=>
    intro h;obtain⟨p,hp,hs⟩:=h y (by simp);obtain⟨k,hk,hks⟩:=ih (fun z hz=>h z (by simp[hz]))
    exact⟨p:: k,by rw[List.map_cons,←hp,←hk],fun q hq=>by
     rcases List.mem_cons.mp hq with rfl|hq
     ·exact hs
     ·exact hks q hq⟩
  obtain⟨k,hk,hks⟩:=hk x.f2 ih;obtain⟨f0,f1,f2⟩:=x;simp only at h0 g0 h1 g1 h2 hk;unfold maxLen at h0 h1 h2;refine⟨.mk (f0.map p91) (f1.map L) k,by rw[afQ,aq3,ajD,←hk],Yu.mk _ _ _ (by rw[List.length_map];exact h0) (fun y hy=>?_) (by rw[List.length_map];exact h1) (fun y hy=>?_) (by rw[hk,List.length_map]at h2;exact h2) hks⟩
  ·obtain⟨z,hz,rfl⟩:=List.mem_map.mp hy;have:=g0 z hz;rw[OH,OH]at this;unfold maxLen at this;exact⟨by show(L z.f0).length≤_;omega,by show(L z.f1).length≤_;omega⟩
  ·obtain⟨z,hz,rfl⟩:=List.mem_map.mp hy;have:=g1 z hz;rw[OH]at this;unfold maxLen at this;omega
def fmt(p:Pt):List ByteArray×Bool:=match lines 3 p with
 |some ls=>(ls.map dK,true)
 |none=>([],false)
theorem Y_:∀(n:Nat) (a:Nat) (out:Str),a<n→out.length+a≤100000000000000000→∃s:Str,Ev (fun k=>dV.l0 k (a:Int) (dK out)) (dK s):=by
 intro n
 induction n with
 |zero=>intro a out h;omega
 |succ n ih=>
  intro a out h hb;by_cases h0:a=0
  ·subst h0;refine⟨109:: out,vc ?_⟩;simp only[dV.l0,aZ,afP,Yr,qP];exact vn (by simp) (vp (by omega) (vs _))
  ·have hd:a/10+1≤a:=by omega
   have e1:Int.tdiv (a:Int) 10=((a/10:Nat):Int):=by rw[Int.tdiv_eq_ediv_of_nonneg (by omega)];omega
   have e2:wrap64 (((a/10:Nat):Int))=((a/10:Nat):Int):=bQ (by omega) (by omega);obtain⟨x,hx⟩:∃x:Int,x=(wrap64 (48+(Int.tmod (a:Int) 10)))%256:=⟨_,rfl⟩
   obtain⟨c,hc⟩:∃c:Str,strOfNums [x]=dK c∧c.length=1:=⟨[UInt8.ofNat x.toNat],rfl,rfl⟩
   obtain⟨s,hs⟩:=ih (a/10) (c++out) (by omega) (by rw[List.length_append,hc.2];omega);refine⟨s,vc ?_⟩;simp only[dV.l0,←hx,Option.bind_some,hc.1,aZ,qP,e1,e2];exact vp (by omega) (vp (by rw[hc.2];omega) hs)
theorem UW(a:Nat)(h:a≤10000000000000000):∃s:Str,Ev (fun k=>dV.f k (a:Int)) (dK s):=by
 unfold dV.f;by_cases h0:a=0
 ·exact⟨[109,48],vp (by omega) (vs _)⟩
 ·obtain⟨s,hs⟩:=Y_ (a+1) a [] (by omega) (by simp;omega);exact⟨s,vn (by omega) hs⟩
def IsMark(T:Nat→Str):Prop:=∀a:Nat,a≤10000000000000000→Ev (fun k=>dV.f k (a:Int)) (dK (T a))
theorem ajM:∃T,IsMark T:=by
 have:∀a:Nat,∃s:Str,a≤10000000000000000→Ev (fun k=>dV.f k (a:Int)) (dK s):=by
  intro a;by_cases h:a≤10000000000000000
  ·obtain⟨s,hs⟩:=UW a h;exact⟨s,fun _=>hs⟩
  ·exact⟨[],fun h2=>absurd h2 h⟩
 obtain⟨T,hT⟩:=Classical.axiomOfChoice this;exact⟨T,hT⟩
def mks(T:Nat→Str):Nat→Nat→List ByteArray
 |_,0=>[]
 |m,n+1=>dK (T m):: mks T (m+1) n
theorem Uj(T:Nat→Str)(hT:IsMark T)(r:List ByteArray):∀(p:List ByteArray) (m:Nat),p.length+r.length≤1000000000000000→m+r.length≤10000000000000000→Ev (fun k=>fU.l0 k (p++r) (m:Int) (p.length:Int)) (((m+r.length:Nat):Int),p++mks T m r.length):=by
 induction r with
 |nil=>
  intro p m h h2;refine vc ?_;simp only[fU.l0];exact vn (by simp) (vs _)
 |cons c r ih=>
  intro p m h h2;simp only[List.length_cons]at h h2;have w1:wrap64 ((p.length:Int)+1)=(p.length:Int)+1∧wrap64 ((m:Int)+1)=((m+1:Nat):Int):=⟨bQ (by omega) (by omega),bQ (by omega) (by omega)⟩
  have e1:(p++c:: r).set ((p.length:Nat):Int).toNat (dK (T m))=(p++[dK (T m)])++r:=by
   rw[Int.toNat_natCast,List.set_append_right _ _ (Nat.le_refl _),Nat.sub_self,List.set_cons_zero];simp
  have:=ih (p++[dK (T m)]) (m+1) (by simp;omega) (by omega);rw[jD]at this;refine vc ?_;simp only[fU.l0,w1.1,w1.2];clear w1;refine vp (by simp;omega) (vb (hT m (by omega)) (vp (by omega) ?_));rw[e1];refine vq this ?_;simp only[mks,List.length_cons,List.append_assoc,List.singleton_append]
  congr 1
  omega
theorem LJ(T:Nat→Str)(hT:IsMark T)(r:List ByteArray)(m:Nat)(h:r.length≤1000000000000000)(h2:m+r.length≤10000000000000000):Ev (fun k=>fU.f k r (m:Int)) (((m+r.length:Nat):Int),mks T m r.length):=by
 unfold fU.f;have:=Uj T hT r [] m (by simpa using h) h2
 simpa using this
theorem Uk(T:Nat→Str)(hT:IsMark T)(n:Nat):∀(p:List ByteArray) (m:Nat),p.length+n≤1000000000000000→m+n≤10000000000000000→Ev (fun k=>fF.l0 k (p++mks T m n) (m:Int) (p.length:Int)) (((m+n:Nat):Int)):=by
 induction n with
 |zero=>
  intro p m h h2;refine vc ?_;simp only[fF.l0,mks,List.append_nil];exact vn (by omega) (vs _)
 |succ n ih=>
  intro p m h h2;have w1:wrap64 ((p.length:Int)+1)=(p.length:Int)+1∧wrap64 ((m:Int)+1)=((m+1:Nat):Int):=⟨bQ (by omega) (by omega),bQ (by omega) (by omega)⟩
  have:=ih (p++[dK (T m)]) (m+1) (by simp;omega) (by omega);rw[jD]at this;have e1:o8 ByteArray.empty (p++mks T m (n+1)) (p.length:Int)=dK (T m):=adV _ _ _ _;refine vc ?_;simp only[fF.l0,w1.1,w1.2,e1];clear w1;refine vp (by simp[mks];omega) (vp (by omega) (vb (hT m (by omega)) (vp rfl ?_)));refine vq ?_ (show(((m+1+n:Nat):Int))=((m+(n+1):Nat):Int) by omega);have e2:p++mks T m (n+1)=(p++[dK (T m)])++mks T (m+1) n:=by simp[mks]
  rw[e2];exact this
theorem LK(T:Nat→Str)(hT:IsMark T)(n m:Nat)(h:n≤1000000000000000)(h2:m+n≤10000000000000000):Ev (fun k=>fF.f k (mks T m n) (m:Int)) (((m+n:Nat):Int)):=by
 unfold fF.f;have:=Uk T hT n [] m (by simpa using h) h2
 simpa using this
def Evp(p:Nat→Prop):Prop:=∃K,∀k,K≤k→p k
theorem yH{α:Type}{g:Nat→Option α}{r:α}(h:Ev g r):Evp (fun k=>g k=some r):=h
theorem xG{p q:Nat→Prop}(h:Evp p)(h2:Evp q):Evp (fun k=>p k∧q k):=by
 obtain⟨K,h⟩:=h;obtain⟨M,h2⟩:=h2;exact⟨K+M,fun k hk=>⟨h k (by omega),h2 k (by omega)⟩⟩
theorem adW{p:Nat→Prop}(h:Evp p):∃k,p k:=by
 obtain⟨K,h⟩:=h;exact⟨K,h K (Nat.le_refl _)⟩
def sz3(f:List (Str×Str))(b:List Str)(k:List Pt):Nat:=f.length+Hu f+b.length+szs b+k.length+FD k
theorem anN(x:jm):(⟨x.f0,x.f1,x.f2⟩:jm)=x:=by cases x;rfl
def szR:List iq→Nat
 |[]=>0
 |x:: r=>x.f0.size+x.f1.size+szR r
theorem afX(p:Pt):Cb p≤1000000000→Ev (fun n=>iU.f n (e32 p).f0 (e32 p).f1 (e32 p).f2) ((e32 p).f0,(e32 p).f1,(e32 p).f2):=by
 refine LC (P:=fun p=>Cb p≤1000000000→Ev (fun n=>iU.f n (e32 p).f0 (e32 p).f1 (e32 p).f2) ((e32 p).f0,(e32 p).f1,(e32 p).f2)) ?_ p;intro f b k ih hs;rw[Cb]at hs;simp only[yF]
 have key:∀(r q:List Pt),k=q++r→Ev (fun n=>fV.l0 n (q.map e32) (k.map e32) (k.length:Int) (q.length:Int)) (k.map e32):=by
  intro r
  induction r with
  |nil=>
   intro q h;have hz:k.length=q.length:=by rw[h];simp
   refine vc ?_;simp only[fV.l0];exact vn (by omega) (vq (vs _) (by rw[h,List.append_nil]))
  |cons c r ihr=>
   intro q h;have hz:k.length=q.length+(r.length+1):=by rw[h];simp
   have e1:=FC h;have hm:c∈k:=by rw[h];simp
   have hc:=Ag hm;have g:=ih c hm (by omega);have w1:Unit→wrap64 ((q.length:Int)+1)=(((q++[c]).length:Nat):Int):=fun _=>by rw[bQ (by omega) (by omega)];simp
   have g2:=ihr (q++[c]) (by rw[h];simp);rw[List.map_append,List.map_singleton]at g2;refine vc ?_;simp only[fV.l0,List.length_map,e1,w1 ()];refine vp (by omega) (vp (by omega) (vp (by omega) (vb g ?_)));simp only[anN];exact vp (by omega) g2
 have k0:=key k [] rfl;refine vc ?_;simp only[iU.f,List.length_map];refine kK rfl (vp (by simp;omega) (kK rfl (vp (by simp;omega) (vb k0 (vq (vs _) (by simp))))))
theorem ajN(p:Pt):Cb p≤1000000000→Ev (fun n=>fA.f n (e32 p).f0 (e32 p).f1 (e32 p).f2) ((e32 p).f0,(e32 p).f1,(e32 p).f2):=by
 refine LC (P:=fun p=>Cb p≤1000000000→Ev (fun n=>fA.f n (e32 p).f0 (e32 p).f1 (e32 p).f2) ((e32 p).f0,(e32 p).f1,(e32 p).f2)) ?_ p;intro f b k ih hs;rw[Cb]at hs;simp only[yF]
 have key:∀(r q:List Pt),k=q++r→Ev (fun n=>fA.l0 n (q.length:Int) (f.map vI) (b.map dK) (k.map e32) (f.map vI) (b.map dK) (q.map e32)) (f.map vI,b.map dK,k.map e32):=by
  intro r
  induction r with
  |nil=>
   intro q h;have hz:k.length=q.length:=by rw[h];simp
   refine vc ?_;simp only[fA.l0,List.length_map];exact vn (by omega) (vq (vs _) (by rw[h,List.append_nil]))
  |cons c r ihr=>
   intro q h;have hz:k.length=q.length+(r.length+1):=by rw[h];simp
   have e1:=FC h;have hm:c∈k:=by rw[h];simp
   have hc:=Ag hm;have g:=ih c hm (by omega);have w1:Unit→wrap64 ((q.length:Int)+1)=(((q++[c]).length:Nat):Int):=fun _=>by rw[bQ (by omega) (by omega)];simp
   have g2:=ihr (q++[c]) (by rw[h];simp);rw[List.map_append,List.map_singleton]at g2;refine vc ?_;simp only[fA.l0,List.length_map,e1,w1 ()];refine vp (by omega) (vp (by omega) (vb g ?_));simp only[anN];exact vp (by omega) g2
 have k0:=key k [] rfl;refine vc ?_;simp only[fA.f,List.length_map];exact kK rfl (vp (by simp;omega) (kK rfl (vp (by simp;omega) k0)))
def mkF(T:Nat→Str):Nat→Nat→List iq
 |_,0=>[]
 |m,n+1=>⟨dK (T m),dK (T (m+1))⟩:: mkF T (m+2) n
theorem afY(T:Nat→Str)(n:Nat):∀m,(mkF T m n).length=n:=by
 induction n with
 |zero=>intro m;rfl
 |succ n ih=>intro m;rw[mkF,List.length_cons,ih]
theorem aiG(p r:List iq)(c:iq):aT (p++c:: r) (p.length:Int)=c:=by
 unfold aT;rw[List.getD_eq_getElem?_getD];simp
theorem anO(p r:List iq)(c d:iq):(p++c:: r).set ((p.length:Nat):Int).toNat d=p++d:: r:=by
 rw[Int.toNat_natCast,List.set_append_right _ _ (Nat.le_refl _),Nat.sub_self,List.set_cons_zero]
theorem Vo(T:Nat→Str)(hT:IsMark T)(r:List iq):∀(p:List iq) (m:Nat),p.length+r.length≤1000000000000→m+2*r.length≤10000000000000→Ev (fun k=>g_.l0 k (p++r) (m:Int) (p.length:Int)) (((m+2*r.length:Nat):Int),p++mkF T m r.length):=by
 induction r with
 |nil=>
  intro p m h h2;refine vc ?_;simp only[g_.l0];exact vn (by simp) (vs _)
 |cons c r ih=>
  intro p m h h2;simp only[List.length_cons]at h h2;have w1:wrap64 ((p.length:Int)+1)=(p.length:Int)+1∧wrap64 ((m:Int)+1)=((m+1:Nat):Int)∧wrap64 (((m+1:Nat):Int)+1)=((m+2:Nat):Int):=⟨bQ (by omega) (by omega),(bQ (by omega) (by omega)).trans (by omega),(bQ (by omega) (by omega)).trans (by omega)⟩
  have:=ih (p++[⟨dK (T m),dK (T (m+1))⟩]) (m+2) (by simp;omega) (by omega);rw[jD]at this;refine vc ?_;simp only[g_.l0,w1.1,w1.2.1,w1.2.2];clear w1;refine vp (by simp;omega) (vb (hT m (by omega)) (vp (by omega) ?_));simp only[aiG,anO,Option.bind_some];refine vb (hT (m+1) (by omega)) ?_;refine vq (r:=(((m+2+2*r.length:Nat):Int),p++[⟨dK (T m),dK (T (m+1))⟩]++mkF T (m+2) r.length)) ?_ ?_
  ·simpa using this
  ·simp only[mkF,List.length_cons,List.append_assoc,List.singleton_append]
   congr 1
   omega
theorem NP(T:Nat→Str)(hT:IsMark T)(r:List iq)(m:Nat)(h:r.length≤1000000000000)(h2:m+2*r.length≤10000000000000):Ev (fun k=>g_.f k r (m:Int)) (((m+2*r.length:Nat):Int),mkF T m r.length):=by
 unfold g_.f;have:=Vo T hT r [] m (by simpa using h) h2
 simpa using this
theorem Vp(T:Nat→Str)(hT:IsMark T)(n:Nat):∀(p:List iq) (m:Nat),p.length+n≤1000000000000→m+2*n≤10000000000000→Ev (fun k=>bM.l0 k (p++mkF T m n) (m:Int) (p.length:Int)) (((m+2*n:Nat):Int)):=by
 induction n with
 |zero=>
  intro p m h h2;refine vc ?_;simp only[bM.l0,mkF,List.append_nil];exact vn (by omega) (vs _)
 |succ n ih=>
  intro p m h h2;have w1:wrap64 ((p.length:Int)+1)=(p.length:Int)+1∧wrap64 ((m:Int)+1)=((m+1:Nat):Int)∧wrap64 (((m+1:Nat):Int)+1)=((m+2:Nat):Int):=⟨bQ (by omega) (by omega),(bQ (by omega) (by omega)).trans (by omega),(bQ (by omega) (by omega)).trans (by omega)⟩
  have:=ih (p++[⟨dK (T m),dK (T (m+1))⟩]) (m+2) (by simp;omega) (by omega);rw[jD]at this;refine vc ?_;simp only[bM.l0,w1.1,w1.2.1,w1.2.2,mkF,aiG];clear w1;refine vp (by simp[afY];omega) (vp (by omega) (vb (hT m (by omega)) (vp rfl (vb (hT (m+1) (by omega)) (vp rfl ?_)))));refine vq ?_ (show(((m+2+2*n:Nat):Int))=((m+2*(n+1):Nat):Int) by omega)
  simpa using this
theorem NQ(T:Nat→Str)(hT:IsMark T)(n m:Nat)(h:n≤1000000000000)(h2:m+2*n≤10000000000000):Ev (fun k=>bM.f k (mkF T m n) (m:Int)) (((m+2*n:Nat):Int)):=by
 unfold bM.f;have:=Vp T hT n [] m (by simpa using h) h2
 simpa using this
mutual
def Za:Pt→Nat
 | .mk f b k=>2*f.length+b.length+FM k
def FM:List Pt→Nat
 |[]=>0
 |p:: r=>Za p+FM r
end
mutual
def mkT(T:Nat→Str):Pt→Nat→jm
 | .mk f b k,m=>⟨mkF T m f.length,mks T (m+2*f.length) b.length,Cj T k (m+2*f.length+b.length)⟩
def Cj(T:Nat→Str):List Pt→Nat→List jm
 |[],_=>[]
 |p:: r,m=>mkT T p m:: Cj T r (m+Za p)
end
def FN:Pt→List Pt
 | .mk _ _ k=>k
theorem acs(f:List (Str×Str))(b:List Str)(k:List Pt):Cb (.mk f b k)=f.length+Hu f+b.length+szs b+k.length+FD k:=by rw[Cb]
theorem adX(T:Nat→Str)(r:List Pt):∀m,(Cj T r m).length=r.length:=by
 induction r with
 |nil=>intro m;rw[Cj];rfl
 |cons p r ih=>intro m;rw[Cj,List.length_cons,List.length_cons,ih]
theorem arb{k:List Pt}(h:∀p∈k,Za p≤2*Cb p):FM k≤2*FD k:=by
 induction k with
 |nil=>simp[FM]
 |cons p r ih=>
  have h1:=h p (by simp);have h2:=ih fun q hq=>h q (by simp[hq])
  rw[FM,FD];omega
theorem afZ(p:Pt):Za p≤2*Cb p:=by
 refine LC (P:=fun p=>Za p≤2*Cb p) (fun f b k ih=>?_) p;have:=arb ih;rw[Za,Cb];omega
theorem aiH(p r:List jm)(c:jm):aH (p++c:: r) (p.length:Int)=c:=by
 unfold aH;rw[List.getD_eq_getElem?_getD];simp
theorem anP(p r:List jm)(c d:jm):(p++c:: r).set ((p.length:Nat):Int).toNat d=p++d:: r:=by
 rw[Int.toNat_natCast,List.set_append_right _ _ (Nat.le_refl _),Nat.sub_self,List.set_cons_zero]
theorem ajO(T:Nat→Str)(hT:IsMark T)(p:Pt):Cb p≤1048576→∀m:Nat,m+2*FD (FN p)≤100000000→
  Ev (fun n=>jr.l0 n ((FN p).map e32) (m:Int) 0) (((m+FM (FN p):Nat):Int),Cj T (FN p) m)∧Ev (fun n=>gY.f n (Cj T (FN p) m) (m:Int)) (((m+FM (FN p):Nat):Int)):=by
 refine LC (P:=fun p=>Cb p≤1048576→∀m:Nat,m+2*FD (FN p)≤100000000→
  Ev (fun n=>jr.l0 n ((FN p).map e32) (m:Int) 0) (((m+FM (FN p):Nat):Int),Cj T (FN p) m)∧Ev (fun n=>gY.f n (Cj T (FN p) m) (m:Int)) (((m+FM (FN p):Nat):Int))) (fun f b k ih hs m hm=>?_) p
 show Ev (fun n=>jr.l0 n (k.map e32) (m:Int) 0) (((m+FM k:Nat):Int),Cj T k m)∧Ev (fun n=>gY.f n (Cj T k m) (m:Int)) (((m+FM k:Nat):Int))
 rw[Cb]at hs;have hm:m+2*FD k≤100000000:=hm
 have key1:∀(r:List Pt),(∀c∈r,c∈k)→∀(q:List jm) (m:Nat),q.length+r.length≤1048576→m+2*FD r≤100000000→Ev (fun n=>jr.l0 n (q++r.map e32) (m:Int) (q.length:Int)) (((m+FM r:Nat):Int),q++Cj T r m):=by
  intro r
  induction r with
  |nil=>
   intro _ q m h1 h2;refine vc ?_;simp only[jr.l0,FM,Cj];exact vn (by simp) (vs _)
  |cons c r ihr=>
   intro hc q m h1 h2;simp only[List.length_cons]at h1;rw[FD]at h2;have hmem:=hc c (by simp);have hsz:=Ag hmem;have hnu:=afZ c;obtain⟨q',hq'⟩:∃q',q'=q++[mkT T c m]:=⟨_,rfl⟩
   have hlen:q'.length=q.length+1:=by rw[hq'];simp
   have tail:=ihr (fun d hd=>hc d (by simp[hd])) q' (m+Za c) (by omega) (by omega);rw[hlen]at tail;have kid:=(ih c hmem (by omega))
   cases c with
   |mk cf cb ck=>
    have e1:=acs cf cb ck;have e2:Za (.mk cf cb ck)=2*cf.length+cb.length+FM ck:=by rw[Za]
    rw[e1]at h2 hsz;have g0:=NP T hT (cf.map vI) m (by rw[List.length_map];omega) (by rw[List.length_map];omega);have g1:=LJ T hT (cb.map dK) (m+2*cf.length) (by rw[List.length_map];omega) (by rw[List.length_map];omega);have g2:=(kid (m+2*cf.length+cb.length) (by show _+2*FD ck≤_;omega)).1;simp only[List.length_map]at g0 g1;simp only[FN]at g2;have w1:wrap64 ((q.length:Int)+1)=((q.length+1:Nat):Int):=(bQ (by omega) (by omega)).trans (by omega);refine vc ?_;simp only[jr.l0,List.map_cons,aiH,w1,yF,anP];clear w1;refine vp (by simp;omega) (vb g0 ?_);dsimp only;refine vb g1 ?_;dsimp only;refine vb g2 ?_;dsimp only;have e3:m+2*cf.length+cb.length+FM ck=m+Za (.mk cf cb ck):=by rw[e2];omega
    rw[e3]
    have e4:q++(⟨mkF T m cf.length,mks T (m+2*cf.length) cb.length,Cj T ck (m+2*cf.length+cb.length)⟩:jm):: r.map e32=q'++r.map e32:=by
     rw[hq',mkT];simp
    rw[e4];refine vq tail ?_;rw[FM,Cj,hq'];simp only[List.append_assoc,List.singleton_append]
    congr 1
    omega
 have key2:∀(r:List Pt),(∀c∈r,c∈k)→∀(q:List jm) (m:Nat),q.length+r.length≤1048576→m+2*FD r≤100000000→Ev (fun n=>gY.l0 n (q++Cj T r m) (m:Int) (q.length:Int)) (((m+FM r:Nat):Int)):=by
  intro r
  induction r with
  |nil=>
   intro _ q m h1 h2;refine vc ?_;simp only[gY.l0,FM,Cj];exact vn (by simp) (vs _)
  |cons c r ihr=>
   intro hc q m h1 h2;simp only[List.length_cons]at h1;rw[FD]at h2;have hmem:=hc c (by simp);have hsz:=Ag hmem;have hnu:=afZ c;obtain⟨q',hq'⟩:∃q',q'=q++[mkT T c m]:=⟨_,rfl⟩
   have hlen:q'.length=q.length+1:=by rw[hq'];simp
   have tail:=ihr (fun d hd=>hc d (by simp[hd])) q' (m+Za c) (by omega) (by omega);rw[hlen]at tail;have kid:=(ih c hmem (by omega))
   cases c with
   |mk cf cb ck=>
    have e1:=acs cf cb ck;have e2:Za (.mk cf cb ck)=2*cf.length+cb.length+FM ck:=by rw[Za]
    rw[e1]at h2 hsz;have g0:=NQ T hT cf.length m (by omega) (by omega);have g1:=LK T hT cb.length (m+2*cf.length) (by omega) (by omega);have g2:=(kid (m+2*cf.length+cb.length) (by show _+2*FD ck≤_;omega)).2;simp only[FN]at g2;have e5:Cj T (Pt.mk cf cb ck:: r) m=mkT T (.mk cf cb ck) m:: Cj T r (m+Za (.mk cf cb ck)):=by rw[Cj]
    have e6:mkT T (.mk cf cb ck) m=⟨mkF T m cf.length,mks T (m+2*cf.length) cb.length,Cj T ck (m+2*cf.length+cb.length)⟩:=by rw[mkT]
    have e4:q++Cj T (Pt.mk cf cb ck:: r) m=q'++Cj T r (m+Za (.mk cf cb ck)):=by rw[hq',e5];simp
    have e7:aH (q++Cj T (Pt.mk cf cb ck:: r) m) (q.length:Int)=mkT T (.mk cf cb ck) m:=by rw[e5];exact aiH _ _ _
    have w1:wrap64 ((q.length:Int)+1)=((q.length+1:Nat):Int):=(bQ (by omega) (by omega)).trans (by omega);refine vc ?_;simp only[gY.l0,e7,w1,e6];clear w1;have e3:m+2*cf.length+cb.length+FM ck=m+Za (.mk cf cb ck):=by rw[e2];omega
    rw[e3]at g2;refine vp (by rw[List.length_append,adX];simp;omega) (vp (by omega) (vb g0 (vn (by omega) (vb g1 (vn (by omega) (vb g2 (vn (by omega) ?_)))))));rw[e4];refine vq tail ?_;rw[FM];omega
 have hk:k.length≤1048576:=by omega
 constructor
 ·have:=key1 k (fun _ h=>h) [] m (by simpa using hk) (by omega)
  simpa using this
 ·refine vc ?_;simp only[gY.f];have:=key2 k (fun _ h=>h) [] m (by simpa using hk) (by omega)
  simpa using this
theorem anQ(T:Nat→Str)(hT:IsMark T)(p:Pt)(hp:Cb p≤1048576):∃t1 t2:Int,Ev (fun n=>g_.f n (e32 p).f0 1) (t1,(mkT T p 1).f0)∧Ev (fun n=>fU.f n (e32 p).f1 t1) (t2,(mkT T p 1).f1)∧Ev (fun n=>jr.l0 n (e32 p).f2 t2 0) (((1+Za p:Nat):Int),(mkT T p 1).f2)∧Ev (fun n=>tK.f n (mkT T p 1).f0 (mkT T p 1).f1 (mkT T p 1).f2 1) ((1+Za p:Nat):Int):=by
 have kid:=ajO T hT p hp;have hnu:=afZ p
 cases p with
 |mk f b k=>
  have e1:=acs f b k;have e2:Za (.mk f b k)=2*f.length+b.length+FM k:=by rw[Za]
  have e6:mkT T (.mk f b k) 1=⟨mkF T 1 f.length,mks T (1+2*f.length) b.length,Cj T k (1+2*f.length+b.length)⟩:=by rw[mkT]
  obtain⟨k1,k2⟩:=kid (1+2*f.length+b.length) (by show _+2*FD k≤_;omega);simp only[FN]at k1 k2;have e3:1+2*f.length+b.length+FM k=1+Za (.mk f b k):=by rw[e2];omega
  rw[e3]at k1 k2;rw[e1]at hp;have g0:=NP T hT (f.map vI) 1 (by rw[List.length_map];omega) (by rw[List.length_map];omega);have g1:=LJ T hT (b.map dK) (1+2*f.length) (by rw[List.length_map];omega) (by rw[List.length_map];omega);have h0:=NQ T hT f.length 1 (by omega) (by omega);have h1:=LK T hT b.length (1+2*f.length) (by omega) (by omega);simp only[List.length_map]at g0 g1;rw[e6,yF];refine⟨_,_,g0,g1,k1,?_⟩;unfold tK.f;exact vb h0 (vn (by omega) (vb h1 (vn (by omega) (vb k2 (vn (by omega) (vs _))))))
def pAt:List Int→Pt→Option Pt
 |[],p=>some p
 |i:: r, .mk _ _ k=>if i<0 then none else(match k[i.toNat]? with
  |none=>none
  |some q=>pAt r q)
def atX(o:Option Pt):jm:=match o with
 |none=>⟨[],[],[]⟩
 |some p=>e32 p
theorem Ul(p:Pt):Cb p≤1000000000→Ev (fun n=>dR.f n (e32 p).f0 (e32 p).f1 (e32 p).f2) ((e32 p).f0,(e32 p).f1,(e32 p).f2):=by
 refine LC (P:=fun p=>Cb p≤1000000000→Ev (fun n=>dR.f n (e32 p).f0 (e32 p).f1 (e32 p).f2) ((e32 p).f0,(e32 p).f1,(e32 p).f2)) ?_ p;intro f b k ih hs;rw[Cb]at hs
 have key:∀(r p:List Pt),k=p++r→Ev (fun n=>dR.l0 n (k.map e32) (k.length:Int) (p.length:Int) (f.map vI) (b.map dK) (p.map e32)) (f.map vI,b.map dK,k.map e32):=by
  intro r
  induction r with
  |nil=>
   intro p h;rw[List.append_nil]at h;subst h;refine vc ?_;simp only[dR.l0];exact vn (by omega) (vs _)
  |cons c r ihr=>
   intro p h;have hz:=iI h;have e1:=FC h;have hc:=ih c (by rw[h];simp) (by have:=Ag (k:=k) (p:=c) (by rw[h];simp);omega);have ws:wrap64 ((p.length:Int)+1)=(p.length:Int)+1:=bQ (by omega) (by omega);have hv:=ihr (p++[c]) (by rw[h];simp);rw[jD,←ws,List.map_append,List.map_singleton]at hv;refine vc ?_;simp only[dR.l0,List.length_map,e1];clear ws;refine vp (by omega) (vp (by omega) (vp (by omega) (vb hc ?_)));simp only[anN];exact vp (by omega) hv
 simp only[yF];refine vc ?_;simp only[dR.f,List.length_map];refine kK (by unfold rF.f;rw[if_pos (by rw[List.length_map];omega)]) (kK (by unfold jc.f;rw[if_pos (by rw[List.length_map];omega)]) ?_);exact key k [] rfl
theorem adY{l p r:List Int}{c:Int}(h:l=p++c:: r):rd l (p.length:Int)=c:=by rw[h];exact anR p r c
theorem af0{k:List Pt}{i:Int}(h0:¬i<0){q:Pt}(h:k[i.toNat]? =some q):i<(k.length:Int)∧aH (k.map e32) i=e32 q∧q∈k:=by
 obtain⟨hl,hq⟩:=List.getElem?_eq_some_iff.mp h;refine⟨by omega,?_,by rw[←hq];exact List.getElem_mem hl⟩;unfold aH;rw[List.getD_eq_getElem?_getD,List.getElem?_map,h];rfl
theorem acu(path:List Int)(hn:path.length≤1048576):∀(r q:List Int) (p:Pt),path=q++r→Cb p≤1048576→Ev (fun n=>lJ.l0 n path (path.length:Int) (q.length:Int) (e32 p).f0 (e32 p).f1 (e32 p).f2) ((atX (pAt r p)).f0,(atX (pAt r p)).f1,(atX (pAt r p)).f2,(pAt r p).isSome):=by
 intro r
 induction r with
 |nil=>
  intro q p h hs;rw[List.append_nil]at h;subst h;refine vc ?_;simp only[lJ.l0];exact vn (by omega) (vb (Ul p (by omega)) (vs _))
 |cons i r ih=>
  intro q p h hs;obtain⟨f,b,k⟩:=p;have hz:=iI h;have e1:=adY h;obtain⟨-,-,-,-,hkn,hk⟩:=Ba hs;have ws:wrap64 ((q.length:Int)+1)=(q.length:Int)+1:=bQ (by omega) (by omega);refine vc ?_;simp only[lJ.l0,e1,yF,List.length_map,ws];clear ws;refine vp (by omega) (vp (by omega) (vp (by omega) ?_));rw[pAt];by_cases h0:i<0
  ·rw[if_pos h0];exact vp h0 (vs _)
  ·rw[if_neg h0];refine vn h0 ?_
   cases e:k[i.toNat]? with
   |none=>
    have:=List.getElem?_eq_none_iff.mp e;exact vp (by omega) (vs _)
   |some c=>
    obtain⟨h1,h2,h3⟩:=af0 h0 e;have hv:=ih (q++[i]) c (by rw[h];simp) (hk c h3);rw[jD]at hv;simp only[h2];exact vn (by omega) (vp (by omega) (vp (by omega) hv))
theorem acv(path:List Int)(hn:path.length≤1048576):∀(r q:List Int) (p:Pt),path=q++r→Cb p≤1048576→Ev (fun n=>dA.l0 n path (q.length:Int) (e32 p).f0 (e32 p).f1 (e32 p).f2) ((atX (pAt r p)).f0,(atX (pAt r p)).f1,(atX (pAt r p)).f2,(pAt r p).isSome):=by
 intro r
 induction r with
 |nil=>
  intro q p h hs;rw[List.append_nil]at h;subst h;refine vc ?_;simp only[dA.l0];exact vn (by omega) (vb (ajN p (by omega)) (vs _))
 |cons i r ih=>
  intro q p h hs;obtain⟨f,b,k⟩:=p;have hz:=iI h;have e1:=adY h;obtain⟨-,-,-,-,hkn,hk⟩:=Ba hs;have ws:wrap64 ((q.length:Int)+1)=(q.length:Int)+1:=bQ (by omega) (by omega);refine vc ?_;simp only[dA.l0,e1,yF,List.length_map,ws];clear ws;refine vp (by omega) (vp (by omega) ?_);rw[pAt];by_cases h0:i<0
  ·rw[if_pos h0];exact vp h0 (vs _)
  ·rw[if_neg h0];refine vn h0 ?_
   cases e:k[i.toNat]? with
   |none=>
    have:=List.getElem?_eq_none_iff.mp e;exact vp (by omega) (vs _)
   |some c=>
    obtain⟨h1,h2,h3⟩:=af0 h0 e;have hv:=ih (q++[i]) c (by rw[h];simp) (hk c h3);rw[jD]at hv;simp only[h2];exact vn (by omega) (vp (by omega) (vp (by omega) hv))
def pA(p:Pt)(path:List Int):Option Pt:=if(lines 3 p).isSome=true then pAt path p else none
theorem Yx(p:Pt)(path:List Int)(hp:Cb p≤1048576)(hn:path.length≤1048576):Ev (fun n=>lJ.f n (e32 p).f0 (e32 p).f1 (e32 p).f2 path) ((atX (pA p path)).f0,(atX (pA p path)).f1,(atX (pA p path)).f2,(pA p path).isSome):=by
 unfold lJ.f pA;refine vb (SB p hp) ?_;by_cases c:(lines 3 p).isSome=true
 ·rw[if_pos c];exact vp c (acu path hn path [] p rfl hp)
 ·rw[if_neg c];exact vn c (vs _)
theorem aiI:∀(path:List Int) (p q:Pt),pAt path p=some q→Cb q≤Cb p
 |[],p,q,h=>by rw[pAt]at h;cases h;exact Nat.le_refl _
 |i:: r, .mk f b k,q,h=>by
  rw[pAt]at h;by_cases h0:i<0
  ·rw[if_pos h0]at h;cases h
  ·rw[if_neg h0]at h
   cases e:k[i.toNat]? with
   |none=>rw[e]at h;cases h
   |some c=>
    rw[e]at h;have h1:=aiI r c q h;have h2:=Ag (af0 h0 e).2.2;rw[Cb];omega
def xz:Pt:= .mk [] [] []
def atP(o:Option Pt):Pt:=match o with
 |none=>xz
 |some p=>p
theorem at6(o:Option Pt):atX o=e32 (atP o):=by
 cases o with
 |none=>rfl
 |some p=>rfl
theorem anS(p:Pt)(path:List Int):Cb (atP (pA p path))≤Cb p:=by
 unfold pA;split
 ·cases e:pAt path p with
  |none=>exact Nat.zero_le _
  |some q=>exact aiI path p q e
 ·exact Nat.zero_le _
theorem Yy(p:Pt)(path:List Int)(hp:Cb p≤1048576)(hn:path.length≤1048576):Ev (fun n=>wZ.f n (e32 p).f0 (e32 p).f1 (e32 p).f2 path) ((atX (pA p path)).f0,(atX (pA p path)).f1,(atX (pA p path)).f2,(pA p path).isSome):=by
 unfold wZ.f
 have h1:Ev (fun n=>dA.f n (e32 p).f0 (e32 p).f1 (e32 p).f2 path) ((atX (pA p path)).f0,(atX (pA p path)).f1,(atX (pA p path)).f2,(pA p path).isSome):=by
  unfold dA.f pA;refine vb (SC p hp) ?_;by_cases c:(lines 3 p).isSome=true
  ·rw[if_pos c];exact vp c (acv path hn path [] p rfl hp)
  ·rw[if_neg c];exact vn c (vs _)
 have h2:=afX (atP (pA p path)) (by have:=anS p path;omega);rw[←at6]at h2;exact vb h1 (vb h2 (vs _))
theorem ard(p r:List Int)(c:Int):rd (p++c:: r) (p.length:Int)=c:=anR p r c
theorem adZ(r:List Int):∀(p q:List Int),p.length+r.length≤1000000000000→Ev (fun k=>kP.l0 k (p++r) (p++List.replicate r.length 0) (p.length:Int)) (p++r):=by
 induction r with
 |nil=>
  intro p q h;refine vc ?_;simp only[kP.l0,List.length_nil,List.replicate_zero,List.append_nil];exact vn (by omega) (vs _)
 |cons c r ih=>
  intro p q h;simp only[List.length_cons]at h
  have e1:(p++List.replicate (r.length+1) (0:Int)).set ((p.length:Nat):Int).toNat c=(p++[c])++List.replicate r.length 0:=by
   rw[Int.toNat_natCast,List.replicate_succ,List.set_append_right _ _ (Nat.le_refl _),Nat.sub_self,List.set_cons_zero];simp
  have e2:p++c:: r=(p++[c])++r:=by simp
  have:=ih (p++[c]) q (by simp;omega);rw[jD]at this;have w1:wrap64 ((p.length:Int)+1)=(p.length:Int)+1:=bQ (by omega) (by omega);refine vc ?_;simp only[kP.l0,ard,w1,List.length_cons,e1];clear w1;refine vp (by simp;omega) (vp (by omega) (vp (by simp;omega) ?_));rw[e2];exact this
theorem ajP(l:List Int)(h:l.length≤1048576):Ev (fun k=>kP.f k l) l:=by
 unfold kP.f;have:=adZ l [] [] (by simp;omega);simp only[Int.toNat_natCast];refine vp (by omega) (vp (by omega) ?_)
 simpa using this
theorem ajQ(a:List Int)(h:a.length≤1048576):Ev (fun k=>lI.f k a a) true:=by
 unfold lI.f;refine vp rfl ?_
 have key:∀(r p:List Int),a=p++r→Ev (fun k=>lI.l0 k a a (p.length:Int)) true:=by
  intro r
  induction r with
  |nil=>
   intro p h;rw[List.append_nil]at h;subst h;refine vc ?_;simp only[lI.l0];exact vn (by omega) (vs _)
  |cons c r ih=>
   intro p h2;have hz:=iI h2;have:=ih (p++[c]) (by rw[h2];simp);have w1:wrap64 ((p.length:Int)+1)=((p++[c]).length:Int):=(bQ (by omega) (by omega)).trans (by simp);refine vc ?_;simp only[lI.l0,w1];clear w1;exact vp (by omega) (vp (by omega) (vp (by omega) (vp trivial this)))
 exact key a [] rfl
theorem Zb(r:List Int):∀(p:List Int) (m:Nat),p.length+r.length≤1000000000000→m+r.length≤1000000000000→∃y:List Int,Ev (fun k=>jU.l0 k (p++r) (m:Int) (p.length:Int)) (((m+r.length:Nat):Int),y):=by
 induction r with
 |nil=>
  intro p m h h2;refine⟨p,vc ?_⟩;simp only[jU.l0,List.append_nil];exact vn (by omega) (vs _)
 |cons c r ih=>
  intro p m h h2;simp only[List.length_cons]at h h2;obtain⟨y,hy⟩:=ih (p++[(m:Int)]) (m+1) (by simp;omega) (by omega);rw[jD]at hy
  have e1:(p++c:: r).set ((p.length:Nat):Int).toNat (m:Int)=(p++[(m:Int)])++r:=by
   rw[Int.toNat_natCast,List.set_append_right _ _ (Nat.le_refl _),Nat.sub_self,List.set_cons_zero];simp
  have e2:m+1+r.length=m+(r.length+1):=by omega
  rw[e2]at hy;refine⟨y,vc ?_⟩;have w1:wrap64 ((p.length:Int)+1)=(p.length:Int)+1∧wrap64 ((m:Int)+1)=((m+1:Nat):Int):=⟨bQ (by omega) (by omega),(bQ (by omega) (by omega)).trans (by omega)⟩
  simp only[jU.l0,w1.1,w1.2,e1];clear w1;exact vp (by simp;omega) (vp (by omega) hy)
theorem ad1(l:List Int)(m:Nat)(h:l.length≤1048576)(h2:m≤1000000000):∃y:List Int,Ev (fun k=>jU.f k l (m:Int)) (((m+l.length:Nat):Int),y):=by
 unfold jU.f;have:=Zb l [] m (by simp;omega) (by omega)
 simpa using this
theorem acw{P:Nat→Nat→Prop}:∀(n:Nat),(∀i,i<n→Evp (P i))→Evp (fun k=>∀i,i<n→P i k)
 |0,_=>⟨0,fun _ _ i hi=>absurd hi (Nat.not_lt_zero _)⟩
 |n+1,h=>by
  obtain⟨K,h1⟩:=acw n fun i hi=>h i (by omega)
  obtain⟨M,h2⟩:=h n (by omega);refine⟨K+M,fun k hk i hi=>?_⟩;by_cases e:i=n
  ·subst e;exact h2 k (by omega)
  ·exact h1 k (by omega) i (by omega)
theorem arf{k:List Pt}(h:∀p∈k,muS (e32 p)≤2*Cb p+1):XY (k.map e32)≤2*FD k+k.length:=by
 induction k with
 |nil=>simp[XY]
 |cons p r ih=>
  have h1:=h p (by simp);have h2:=ih fun q hq=>h q (by simp[hq])
  rw[List.map_cons,XY,FD,List.length_cons];omega
theorem axh(p:Pt):muS (e32 p)≤2*Cb p+1:=by
 refine LC (P:=fun p=>muS (e32 p)≤2*Cb p+1) (fun f b k ih=>?_) p;have:=arf ih;rw[abO,yF,Cb];simp only[List.length_map];omega
theorem FnExactPartAt(x:FW)(l1:List Int)(gx:UO x)(hlen:l1.length≤maxLen)(_g1:∀n∈l1,(Lit.int .i64 n).wf=true):∃k,uY.Ok k x l1:=by
 by_cases hc:(l1.length:Int)>1048576
 ·exact⟨0,Or.inl hc⟩
 obtain⟨p,rfl,hp⟩:=ajL gx;obtain⟨v,hv,hv1,hv2⟩:=ajJ p hp 1048576 (by omega);by_cases h0:v<0
 ·obtain⟨k,h⟩:=adW (yH hv);exact⟨k,Or.inr ⟨hc,v,h,Or.inl h0⟩⟩
 have hvv:=hv2 (by omega);have sp:Cb p≤1048576:=by omega
 have hl:l1.length≤1048576:=by omega
 obtain⟨T,hT⟩:=ajM;have i1:=Yy p l1 sp hl;have i2:=Yx p l1 sp hl;rw[at6]at i1 i2;have hz:=anS p l1;have hsz:Cb (atP (pA p l1))≤1048576:=by omega
 have i3:=Z9 (atP (pA p l1)) hsz;obtain⟨t1,t2,j1,j2,j3,j4⟩:=anQ T hT (atP (pA p l1)) hsz
 have g4:Evp (fun k=>∀m:Nat,m<10000001→∃r,dV.f k (m:Int)=some r):=acw _ fun m hm=>by
  obtain⟨s,hs⟩:=UW m (by omega);exact(yH hs).imp fun K hK k hk=>⟨_,hK k hk⟩
 have g5:Evp (fun k=>∀m:Nat,m<10000001→∃(m2:Int) (x2:List Int),jU.f k l1 (m:Int)=some (m2,x2)∧¬m2<0):=acw _ fun m hm=>by
  obtain⟨y,hy⟩:=ad1 l1 m hl (by omega);exact(yH hy).imp fun K hK k hk=>⟨_,_,hK k hk,by omega⟩
 have hm:=axh p;obtain⟨k,a1,a2,a3,a4,a5,a6,a7,a8,a9,a10,a11,a12,a13,a14⟩:=adW (xG (yH hv) (xG (yH (ajK p sp)) (xG (yH (ajP l1 hl)) (xG (yH i1) (xG (yH i2) (xG (yH i3) (xG (yH (Z9 p sp)) (xG (yH (ajQ l1 hl)) (xG g4 (xG g5 (xG (yH j1) (xG (yH j2) (xG (yH j3) (yH j4))))))))))))));exact⟨k,Or.inr ⟨hc,v,a1,Or.inr ⟨h0,e32 p,e32 (atP (pA p l1)),mkT T (atP (pA p l1)) 1,_,t1,t2,_,a2,a3,a4,a5,a6,a7,a8,fun m hm=>a9 m (by omega),by omega,fun m hm=>a10 m (by omega),a11,a12,a13,a14,by omega⟩⟩⟩
end Go.Proofs.YtdimppdlfgnhgaaGreatDoor.Pure
