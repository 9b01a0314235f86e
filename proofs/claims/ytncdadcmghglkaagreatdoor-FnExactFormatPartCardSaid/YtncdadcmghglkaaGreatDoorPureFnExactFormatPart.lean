/- Proved here: the pure form of the law FnExactFormatPart (the program's FormatPart is the reference's) returns true for all arguments; conditions: none beyond those that the printed statement bears. -/
import Derived.Test.YtncdadcmghglkaaGreatDoorPFnExactFormatPartx25
import Derived.Test.YtncdadcmghglkaaGreatDoorVFnExactFormatPartOpsPartt
import Derived.Test.YtncdadcmghglkaaGreatDoorVFnExactFormatPartZbt
namespace Go.Proofs.YtncdadcmghglkaaGreatDoor.Pure
open Go.Proofs.jW Go.RowKit Go.Proofs.YtncdadcmghglkaaGreatDoor.X Go.Proofs.YtncdadcmghglkaaGreatDoor.PFnExactFormatPart Go.Proofs.YtncdadcmghglkaaGreatDoorW.dB Go.Proofs.YtncdadcmghglkaaGreatDoorW.iy Go.Proofs.YtncdadcmghglkaaGreatDoor.Z
set_option linter.unusedVariables false
set_option linter.unusedSimpArgs false
theorem afg{α R:Type}(fin:Unit→R)(r:List α):run (fun(_:Unit) (_:α)=>(.inr ():R ⊕ Unit)) fin r ()=fin ():=by
 induction r with
 |nil=>rfl
 |cons c r ih=>unfold run;exact ih
def szs:List Str→Nat
 |[]=>0
 |c:: r=>c.length+szs r
theorem ait{a:List Str}{c:Str}(h:c∈a):c.length≤szs a:=by
 induction a with
 |nil=>cases h
 |cons d a ih=>
  simp only[szs];rcases List.mem_cons.mp h with rfl|h
  ·omega
  ·have:=ih h;omega
theorem ab5(l:List ByteArray):(l.map L).map b_=l:=by
 rw[List.map_map];exact(List.map_congr_left (fun x _=>afh x)).trans (List.map_id l)
theorem QL(ls:List Str)(hl:∀x∈ls,x.length≤9223372036854775807)(hn:ls.length≤9223372036854775807)(r:List Str):∀(p:List Str) (left:Nat),ls=p++r→left≤1048576→∃v:Int,Ev (fun k=>fO.l0 k (ls.map b_) (left:Int) (p.length:Int)) v∧v≤left∧(0≤v→v=(left:Int)-szs r):=by
 induction r with
 |nil=>
  intro p left h hle;have hz:ls.length=p.length:=by rw[h,List.append_nil]
  refine⟨left,vc ?_,Int.le_refl _,fun _=>by simp[szs]⟩;simp only[fO.l0,List.length_map];exact vn (by omega) (vs _)
 |cons c r ih=>
  intro p left h hle;have hz:=gJ h;have e1:=uz h;have hc:=hl c (by rw[h];simp);have w1:wrap64 ((p.length:Int)+1)=(p.length:Int)+1∧wrap64 ((left:Int)-(c.length:Int))=(left:Int)-(c.length:Int):=⟨dA (by omega) (by omega),dA (by omega) (by omega)⟩
  by_cases hlt:(left:Int)-(c.length:Int)<0
  ·refine⟨-1,vc ?_,by omega,fun h=>by omega⟩;simp only[fO.l0,List.length_map,e1,aV,w1.1,w1.2];clear w1;exact vp (by omega) (vp (by omega) (vp hlt (vs _)))
  ·obtain⟨v,hv,hv1,hv2⟩:=ih (p++[c]) (left-c.length) (by rw[h];simp) (by omega);rw[jA]at hv;refine⟨v,vc ?_,by omega,fun h0=>by have:=hv2 h0;simp only[szs];omega⟩;have e2:(left:Int)-(c.length:Int)=((left-c.length:Nat):Int):=by omega
   simp only[fO.l0,List.length_map,e1,aV,w1.1,w1.2];clear w1;rw[e2];exact vp (by omega) (vp (by omega) (vn (by omega) hv))
theorem J6(ls:List Str)(hl:∀x∈ls,x.length≤9223372036854775807)(hn:ls.length≤9223372036854775807)(left:Nat)(hle:left≤1048576):∃v:Int,Ev (fun k=>fO.f k (ls.map b_) (left:Int)) v∧v≤left∧(0≤v→v=(left:Int)-ls.length-szs ls):=by
 unfold fO.f;have w1:wrap64 ((left:Int)-(ls.length:Int))=(left:Int)-(ls.length:Int):=dA (by omega) (by omega);rw[List.length_map,w1];clear w1;by_cases h:(left:Int)-(ls.length:Int)<0
 ·exact⟨-1,vp h (vs _),by omega,fun h=>by omega⟩
 ·have e2:(left:Int)-(ls.length:Int)=((left-ls.length:Nat):Int):=by omega
  obtain⟨v,hv,hv1,hv2⟩:=QL ls hl hn ls [] (left-ls.length) rfl (by omega);rw[e2];exact⟨v,vn (by omega) hv,by omega,fun h0=>by have:=hv2 h0;omega⟩
theorem J7(ls:List Str)(hn:ls.length≤1000000000000):Ev (fun k=>g_.f k (ls.map b_)) (ls.map b_):=by
 have key:∀(r p:List Str),ls=p++r→Ev (fun k=>g_.l0 k (ls.map b_) (p.map b_++List.replicate r.length (⟨#[]⟩:ByteArray)) (p.length:Int)) (ls.map b_):=by
  intro r
  induction r with
  |nil=>
   intro p h;have hz:ls.length=p.length:=by rw[h,List.append_nil]
   refine vc ?_;simp only[g_.l0,List.length_map];refine vn (by omega) (vq (vs _) ?_);rw[h];simp
  |cons c r ih=>
   intro p h;have hz:=gJ h;have e1:=uz h;have w1:wrap64 ((p.length:Int)+1)=(p.length:Int)+1:=dA (by omega) (by omega);have:=ih (p++[c]) (by rw[h];simp);rw[jA]at this
   have e2:(p.map b_++List.replicate (r.length+1) (⟨#[]⟩:ByteArray)).set p.length (b_ c)=(p++[c]).map b_++List.replicate r.length (⟨#[]⟩:ByteArray):=by
    rw[List.set_append_right _ _ (by simp),List.length_map,Nat.sub_self,List.replicate_succ,List.set_cons_zero,List.map_append,List.append_assoc];rfl
   rw[←e2]at this;refine vc ?_;simp only[g_.l0,List.length_map,e1,w1,Int.toNat_natCast,List.length_cons];clear w1;exact vp (by omega) (vp (by omega) (vp (by simp;omega) this))
 unfold g_.f;simp only[List.length_map,Int.toNat_natCast];exact vp (by omega) (vp (by omega) (key ls [] rfl))
theorem wF(a b:List Str)(hn:a.length≤1000000000000000):Ev (fun k=>fD.f k (a.map b_) (b.map b_)) (decide (a=b)):=by
 unfold fD.f;simp only[List.length_map];by_cases hl:a.length=b.length
 ·refine vp (by omega) ?_
  refine vq (ng (xs:=a) (F:=fun k (_:List Str) i=>fD.l0 k (a.map b_) (b.map b_) i) (st:=fun r c=>match r with
   |[]=> .inl false
   |d:: r=>if c=d then .inr r else .inl false) (fin:=fun _=>true) (s:=b) (fun p r=>∃q,b=q++r∧q.length=p.length) ⟨[],rfl,rfl⟩ ?_ ?_) ?_
  ·rintro p c r s h ⟨q,hq,hql⟩;have hz:=gJ h;have e1:=uz h;have w1:wrap64 ((p.length:Int)+1)=(p.length:Int)+1:=dA (by omega) (by omega)
   cases s with
   |nil=>rw[hq]at hl;simp at hl;omega
   |cons d s=>
    have e2:=uz hq;rw[hql]at e2;simp only[fD.l0,e1,e2,w1,List.length_map,lD];clear w1 e1 e2;by_cases e:c=d
    ·simp only[if_pos e];refine⟨(fun v hv=>by cases hv),fun s' hs=>⟨?_,fun v hv=>?_⟩⟩
     ·cases hs;exact⟨q++[d],by rw[hq];simp,by simp[hql]⟩
     ·exact vp (by omega) (vp (by omega) (vp (by omega) hv))
    ·simp only[if_neg e];refine⟨(fun v hv=>?_),fun s' hs=>by cases hs⟩;cases hv;exact vp (by omega) (vp (by omega) (vp (by omega) (vs _)))
  ·intro s _;simp only[fD.l0,List.length_map];exact vn (by omega) (vs _)
  ·clear hn
   induction a generalizing b with
   |nil=>cases b with
    |nil=>rfl
    |cons d b=>simp at hl
   |cons c a ih=>cases b with
    |nil=>simp at hl
    |cons d b=>
     unfold run;by_cases e:c=d
     ·simp only[if_pos e];rw[ih b (by simpa using hl)];simp[e]
     ·simp only[if_neg e];simp[e]
 ·refine vn (by omega) (vq (vs _) ?_);rw[eq_comm];exact decide_eq_false (fun h=>hl (by rw[h]))
def e91(p:Str×Str):rU:=⟨b_ p.1,b_ p.2⟩
def sV(p:Str×Str):jl:=⟨b_ p.1,b_ p.2⟩
def Dj:List (Str×Str)→Nat
 |[]=>0
 |c:: r=>c.1.length+c.2.length+Dj r
theorem aiu{a:List (Str×Str)}{c:Str×Str}(h:c∈a):c.1.length+c.2.length≤Dj a:=by
 induction a with
 |nil=>cases h
 |cons d a ih=>
  simp only[Dj];rcases List.mem_cons.mp h with rfl|h
  ·omega
  ·have:=ih h;omega
theorem Wu{ls p r:List (Str×Str)}{c:Str×Str}(h:ls=p++c:: r):nN (ls.map e91) (p.length:Int)=e91 c:=by
 unfold nN;rw[List.getD_eq_getElem?_getD,h];simp
theorem uD{ls p r:List (Str×Str)}{c:Str×Str}(h:ls=p++c:: r):aH (ls.map sV) (p.length:Int)=sV c:=by
 unfold aH;rw[List.getD_eq_getElem?_getD,h];simp
def p91(x:rU):Str×Str:=(L x.f0,L x.f1)
theorem aiv(l:List rU):(l.map p91).map e91=l:=by
 rw[List.map_map];exact(List.map_congr_left (fun x _=>rfl)).trans (List.map_id l)
theorem YK(a b:Str)(ha:a.length≤9223372036854775807)(hb:b.length≤9223372036854775807)(left:Nat)(hle:left≤1048576):∃v:Int,qP.f (b_ a) (b_ b) (left:Int)=some v∧v≤left∧(0≤v→v=(left:Int)-a.length-b.length):=by
 unfold qP.f;have w1:wrap64 ((left:Int)-(a.length:Int))=(left:Int)-(a.length:Int):=dA (by omega) (by omega);rw[aV,aV,w1];by_cases h:(left:Int)-(a.length:Int)<0
 ·exact⟨-1,by rw[if_pos h],by omega,fun h=>by omega⟩
 ·have w2:wrap64 ((left:Int)-(a.length:Int)-(b.length:Int))=(left:Int)-(a.length:Int)-(b.length:Int):=dA (by omega) (by omega);rw[if_neg h,w2];by_cases h2:(left:Int)-(a.length:Int)-(b.length:Int)<0
  ·exact⟨-1,by rw[if_pos h2],by omega,fun h=>by omega⟩
  ·exact⟨_,by rw[if_neg h2],by omega,fun _=>rfl⟩
def sane(ls:List (Str×Str)):Prop:=∀x∈ls,x.1.length≤9223372036854775807∧x.2.length≤9223372036854775807
theorem QM(ls:List (Str×Str))(hl:sane ls)(hn:ls.length≤9223372036854775807)(r:List (Str×Str)):∀(p:List (Str×Str)) (left:Nat),ls=p++r→left≤1048576→∃v:Int,Ev (fun k=>fZ.l0 k (ls.map e91) (left:Int) (p.length:Int)) v∧v≤left∧(0≤v→v=(left:Int)-Dj r):=by
 induction r with
 |nil=>
  intro p left h hle;have hz:ls.length=p.length:=by rw[h,List.append_nil]
  refine⟨left,vc ?_,Int.le_refl _,fun _=>by simp[Dj]⟩;simp only[fZ.l0,List.length_map];exact vn (by omega) (vs _)
 |cons c r ih=>
  intro p left h hle;have hz:=gJ h;have e1:=Wu h;have hc:=hl c (by rw[h];simp);have w1:wrap64 ((p.length:Int)+1)=(p.length:Int)+1:=dA (by omega) (by omega);obtain⟨v,hv,hv1,hv2⟩:=YK c.1 c.2 hc.1 hc.2 left hle;by_cases hlt:v<0
  ·refine⟨-1,vc ?_,by omega,fun h=>by omega⟩;simp only[fZ.l0,List.length_map,e1,w1];clear w1;exact vp (by omega) (vp (by omega) (jZ hv (vp hlt (vs _))))
  ·have hvv:=hv2 (by omega);obtain⟨u,hu,hu1,hu2⟩:=ih (p++[c]) (left-c.1.length-c.2.length) (by rw[h];simp) (by omega);rw[jA]at hu;refine⟨u,vc ?_,by omega,fun h0=>by have:=hu2 h0;simp only[Dj];omega⟩;have e2:v=((left-c.1.length-c.2.length:Nat):Int):=by omega
   simp only[fZ.l0,List.length_map,e1,w1];clear w1;rw[←e2]at hu;exact vp (by omega) (vp (by omega) (jZ hv (vn hlt hu)))
theorem Wv(ls:List (Str×Str))(hl:sane ls)(hn:ls.length≤9223372036854775807)(left:Nat)(hle:left≤1048576):∃v:Int,Ev (fun k=>fZ.f k (ls.map e91) (left:Int)) v∧v≤left∧(0≤v→v=(left:Int)-ls.length-Dj ls):=by
 unfold fZ.f;have w1:wrap64 ((left:Int)-(ls.length:Int))=(left:Int)-(ls.length:Int):=dA (by omega) (by omega);rw[List.length_map,w1];clear w1;by_cases h:(left:Int)-(ls.length:Int)<0
 ·exact⟨-1,vp h (vs _),by omega,fun h=>by omega⟩
 ·have e2:(left:Int)-(ls.length:Int)=((left-ls.length:Nat):Int):=by omega
  obtain⟨v,hv,hv1,hv2⟩:=QM ls hl hn ls [] (left-ls.length) rfl (by omega);rw[e2];exact⟨v,vn (by omega) hv,by omega,fun h0=>by have:=hv2 h0;omega⟩
theorem Wx(ls:List (Str×Str))(hn:ls.length≤1000000000000):Ev (fun k=>iG.f k (ls.map e91)) (ls.map sV):=by
 have key:∀(r p:List (Str×Str)),ls=p++r→Ev (fun k=>iG.l0 k (ls.map e91) (p.map sV++List.replicate r.length z69) (p.length:Int)) (ls.map sV):=by
  intro r
  induction r with
  |nil=>
   intro p h;have hz:ls.length=p.length:=by rw[h,List.append_nil]
   refine vc ?_;simp only[iG.l0,List.length_map];refine vn (by omega) (vq (vs _) ?_);rw[h];simp
  |cons c r ih=>
   intro p h;have hz:=gJ h;have e1:=Wu h;have w1:wrap64 ((p.length:Int)+1)=(p.length:Int)+1:=dA (by omega) (by omega);have:=ih (p++[c]) (by rw[h];simp);rw[jA]at this
   have e2:(p.map sV++List.replicate (r.length+1) z69).set p.length (⟨b_ c.1,b_ c.2⟩:jl)=(p++[c]).map sV++List.replicate r.length z69:=by
    rw[List.set_append_right _ _ (by simp),List.length_map,Nat.sub_self,List.replicate_succ,List.set_cons_zero,List.map_append,List.append_assoc];rfl
   rw[←e2]at this;refine vc ?_;simp only[iG.l0,vV.f,List.length_map,e1,w1,Int.toNat_natCast,List.length_cons,Option.bind_some];clear w1;exact vp (by omega) (vp (by omega) (vp (by simp;omega) this))
 unfold iG.f;simp only[List.length_map,Int.toNat_natCast];exact vp (by omega) (vp (by omega) (key ls [] rfl))
theorem Wy(ls:List (Str×Str))(hn:ls.length≤1000000000000):Ev (fun k=>eF.f k (ls.map sV) (ls.map sV)) true:=by
 unfold eF.f;refine vp rfl (vq (ng (xs:=ls) (F:=fun k (_:Unit) i=>eF.l0 k (ls.map sV) (ls.map sV) i) (st:=fun _ _=> .inr ()) (fin:=fun _=>true) (s:=()) (fun _ _=>True) trivial ?_ ?_) (afg _ _))
 ·intro p c r s h _;have hz:=gJ h;have e1:=uD h;have w1:wrap64 ((p.length:Int)+1)=(p.length:Int)+1:=dA (by omega) (by omega);simp only[eF.l0,tN.f,e1,w1,List.length_map];clear w1 e1;refine⟨(fun v hv=>by cases hv),fun s' hs=>⟨trivial,fun v hv=>?_⟩⟩;exact vp (by omega) (vp (by omega) (vp (by omega) (jZ (by simp) (vp rfl hv))))
 ·intro s _;simp only[eF.l0,List.length_map];exact vn (by omega) (vs _)
theorem PW{ps p r:List (List Str)}{c:List Str}(h:ps=p++c:: r):qC (ps.map (List.map b_)) (p.length:Int)=c.map b_:=by
 unfold qC;rw[List.getD_eq_getElem?_getD,h];simp
def tl:List (List Str)→Nat
 |[]=>0
 |c:: r=>c.length+1+tl r
theorem CU(a b:List (List Str)):tl (a++b)=tl a+tl b:=by
 induction a with
 |nil=>simp[tl]
 |cons c a ih=>simp only[List.cons_append,tl,ih];omega
theorem UK(a:List (List Str)):a.length≤tl a:=by
 induction a with
 |nil=>simp[tl]
 |cons c a ih=>simp only[List.length_cons,tl];omega
theorem ana{a:List (List Str)}{c:List Str}(h:c∈a):c.length≤tl a:=by
 induction a with
 |nil=>cases h
 |cons d a ih=>
  simp only[tl];rcases List.mem_cons.mp h with rfl|h
  ·omega
  ·have:=ih h;omega
def Ic(c:UInt8):Bool:=decide (97≤(c.toNat:Int)∧(c.toNat:Int)≤122)||decide (65≤(c.toNat:Int)∧(c.toNat:Int)≤90)
def ab6(c:UInt8):Bool:=decide (48≤(c.toNat:Int)∧(c.toNat:Int)≤57)
def Cc(c:UInt8):Bool:=Ic c||ab6 c
def FI(l:Str):Bool:=decide (1≤l.length)&&decide (l.length≤20)&&l.all Cc
theorem PX{l:Str}(h:FI l=true):l.length≤20:=by
 unfold FI at h;simp at h;exact h.1.2
theorem wY(c:UInt8):bI.f (c.toNat:Int)=some (Ic c):=by
 unfold bI.f Ic;by_cases h1:97≤(c.toNat:Int)<;>by_cases h2:(c.toNat:Int)≤122<;>by_cases h3:65≤(c.toNat:Int)<;>by_cases h4:(c.toNat:Int)≤90<;>simp[h1,h2,h3,h4]
theorem Eu(c:UInt8):dG.f (c.toNat:Int)=some (ab6 c):=by
 unfold dG.f ab6;by_cases h1:48≤(c.toNat:Int)<;>by_cases h2:(c.toNat:Int)≤57<;>simp[h1,h2]
theorem qx(c:UInt8):iT.f (c.toNat:Int)=some (Cc c):=by
 unfold iT.f Cc Ic ab6;by_cases h1:97≤(c.toNat:Int)<;>by_cases h2:(c.toNat:Int)≤122<;>by_cases h3:65≤(c.toNat:Int)<;>by_cases h4:(c.toNat:Int)≤90<;>by_cases h5:48≤(c.toNat:Int)<;>by_cases h6:(c.toNat:Int)≤57<;>simp[h1,h2,h3,h4,h5,h6]
def PY:Str:=[33,35,36,37,38,39,42,43,45,47,61,63,94,95,96,123,124,125,126]
def uj(c:UInt8):Bool:=Cc c||decide (c∈PY)
def PZ(l:Str):Bool:=decide (1≤l.length)&&decide (l.length≤40)&&l.all uj
theorem UL{p:UInt8→Prop}(h:∀n:Nat,n<256→p (UInt8.ofNat n))(c:UInt8):p c:=by
 have:=h c.toNat c.toNat_lt
 rwa [UInt8.ofNat_toNat]at this
theorem uM(c:UInt8):kF.f (c.toNat:Int)=some (uj c):=by
 revert c
 exact UL (by decide+kernel)
theorem zG(l:Str)(hl:l.length≤1000000000000000):Ev (fun k=>dF.f k (b_ l)) (l.all uj):=by
 unfold dF.f;rw[aV];refine vq (ng (xs:=l) (F:=fun k (_:Unit) i=>dF.l0 k (b_ l) (l.length:Int) i) (st:=fun _ c=>if uj c=true then .inr ()else .inl false) (fin:=fun _=>true) (s:=()) (fun _ _=>True) trivial ?_ ?_) ?_
 ·intro p c r s h _;have hz:=gJ h;have e1:=jH h;have w1:wrap64 ((p.length:Int)+1)=(p.length:Int)+1:=dA (by omega) (by omega);simp only[dF.l0,e1,w1,aV];clear w1 e1
  cases e:uj c with
  |true=>
   simp only[if_true];refine⟨(fun v hv=>by cases hv),fun s' hs=>⟨trivial,fun v hv=>?_⟩⟩;refine vp (by omega) (vp (by omega) (vp (by omega) (jZ (uM c) (vp e hv))))
  |false=>
   refine⟨(fun v hv=>?_),fun s' hs=>by simp at hs⟩;simp only[Bool.false_eq_true,if_false,Sum.inl.injEq]at hv;subst hv;refine vp (by omega) (vp (by omega) (vp (by omega) (jZ (uM c) (vn (by rw[e];simp) (vs _)))))
 ·intro s _;simp only[dF.l0];exact vn (by omega) (vs _)
 ·clear hl
  induction l with
  |nil=>rfl
  |cons c r ih=>
   unfold run
   cases e:uj c with
   |true=>simp[e,ih]
   |false=>simp[e]
theorem J8(l:Str)(hl:l.length≤1000000000000000):Ev (fun k=>nJ.f k (b_ l)) (PZ l):=by
 unfold nJ.f PZ;rw[aV];by_cases h1:1≤l.length
 ·rw[decide_eq_true h1];refine vp (by omega) ?_;by_cases h2:l.length≤40
  ·rw[decide_eq_true h2];exact vp (by omega) (vb (zG l hl) (vs _))
  ·rw[decide_eq_false h2];exact vn (by omega) (vs _)
 ·rw[decide_eq_false h1];exact vn (by omega) (vs _)
theorem Ad(c:UInt8):Ev (fun k=>iK.f k (c.toNat:Int)) (uj c):=by
 unfold iK.f;have lit:(⟨#[33,35,36,37,38,39,42,43,45,47,61,63,94,95,96,123,124,125,126]⟩:ByteArray)=b_ PY:=rfl;have hlen:PY.length=19:=rfl;refine vq (ng (xs:=PY) (F:=fun k (_:Unit) i=>iK.l0 k (c.toNat:Int) i) (st:=fun _ d=>if c=d then .inl true else .inr ()) (fin:=fun _=>Cc c) (s:=()) (fun _ _=>True) trivial ?_ ?_) ?_
 ·intro p d r s h _;have hz:=gJ h;have e1:=jH h;have w1:wrap64 ((p.length:Int)+1)=(p.length:Int)+1:=dA (by omega) (by omega);simp only[iK.l0,lit,e1,w1];clear w1 e1;by_cases e:c=d
  ·simp only[if_pos e];refine⟨(fun v hv=>?_),fun s' hs=>by cases hs⟩;cases hv;exact vp (by omega) (vp (by omega) (vp (by rw[e]) (vs _)))
  ·simp only[if_neg e];refine⟨(fun v hv=>by cases hv),fun s' hs=>⟨trivial,fun v hv=>?_⟩⟩;exact vp (by omega) (vp (by omega) (vn (fun hh=>e (UInt8.toNat_inj.mp (by omega))) hv))
 ·intro s _;simp only[iK.l0];exact vn (by omega) (jZ (qx c) (vs _))
 ·have key:∀r:Str,run (fun(_:Unit) d=>if c=d then .inl true else .inr ()) (fun _=>Cc c) r ()=(Cc c||decide (c∈r)):=by
   intro r
   induction r with
   |nil=>simp[run]
   |cons d r ih=>
    unfold run;by_cases e:c=d
    ·simp[e]
    ·simp[e,ih]
  exact key PY
theorem J9(l:Str)(hl:l.length≤1000000000000000):Ev (fun k=>dO.f k (b_ l)) (PZ l):=by
 unfold dO.f
 have hj':∀i:Int,Ev (fun k=>dO.j1 k (b_ l) i false) (decide (1≤l.length)&&decide (l.length≤40)):=by
  intro i;refine vc ?_;simp only[dO.j1,aV];by_cases h1:1≤l.length
  ·rw[decide_eq_true h1];refine vn (by simp) (vp (by omega) (vq (vs _) ?_));rw[Bool.true_and];by_cases h2:l.length≤40
   ·rw[decide_eq_true h2];exact decide_eq_true (by omega)
   ·rw[decide_eq_false h2];exact decide_eq_false (by omega)
  ·rw[decide_eq_false h1];exact vn (by simp) (vn (by omega) (vs _))
 refine vq (ng (xs:=l) (F:=fun k (_:Nat) i=>dO.l0 k (b_ l) i) (st:=fun n c=>if n≤40 then(if uj c=true then .inr (n+1)else .inl false)else .inl (decide (1≤l.length)&&decide (l.length≤40))) (fin:=fun _=>decide (1≤l.length)&&decide (l.length≤40)) (s:=0) (fun p n=>n=p.length) rfl ?_ ?_) ?_
 ·intro p c r n h hn;subst hn;have hz:=gJ h;have e1:=jH h;have w1:wrap64 ((p.length:Int)+1)=(p.length:Int)+1:=dA (by omega) (by omega);by_cases h20:p.length≤40
  ·simp only[if_pos h20];have hd:decide ((p.length:Int)≤40)=true:=decide_eq_true (by omega);simp only[dO.l0,hd,aV]
   cases e:uj c with
   |true=>
    simp only[if_true];refine⟨(fun v hv=>by cases hv),fun s' hs=>⟨?_,fun v hv=>?_⟩⟩
    ·cases hs;simp
    ·refine vp (by omega) (vc ?_);simp only[dO.j1,e1,w1,aV];clear w1 e1;exact vp trivial (vp (by omega) (vp (by omega) (vb (Ad c) (vp e hv))))
   |false=>
    refine⟨(fun v hv=>?_),fun s' hs=>by simp at hs⟩;simp only[Bool.false_eq_true,if_false,Sum.inl.injEq]at hv;subst hv;refine vp (by omega) (vc ?_);simp only[dO.j1,e1,w1,aV];clear w1 e1;exact vp trivial (vp (by omega) (vp (by omega) (vb (Ad c) (vn (by rw[e];simp) (vs _)))))
  ·simp only[if_neg h20];have hd:decide ((p.length:Int)≤40)=false:=decide_eq_false (by omega);refine⟨(fun v hv=>?_),fun s' hs=>by cases hs⟩;cases hv;simp only[dO.l0,hd,aV];clear w1 e1;exact vp (by omega) (hj' _)
 ·intro s hs;subst hs;simp only[dO.l0,aV];exact vn (by omega) (hj' _)
 ·unfold PZ
  have key:∀(r:Str) (n:Nat),n+r.length=l.length→run (fun n c=>if n≤40 then(if uj c=true then .inr (n+1)else .inl false)else .inl (decide (1≤l.length)&&decide (l.length≤40))) (fun _=>decide (1≤l.length)&&decide (l.length≤40)) r n=(decide (1≤l.length)&&decide (l.length≤40)&&r.all uj):=by
   intro r
   induction r with
   |nil=>intro n _;simp[run]
   |cons c r ih=>
    intro n hn;simp only[List.length_cons]at hn;unfold run;by_cases h20:n≤40
    ·simp only[if_pos h20]
     cases e:uj c with
     |true=>simp[e,ih (n+1) (by omega)]
     |false=>simp[e]
    ·simp only[if_neg h20];have:decide (l.length≤40)=false:=decide_eq_false (by omega);simp[this]
  exact key l 0 (by omega)
def UM(c:UInt8):Bool:=Cc c||decide (c=45)
def GI(l:Str):Bool:=decide (l.length≤30)&&(match l with
 |[]=>false
 |c:: _=>Ic c)&&l.all UM
def arA(c:UInt8):UInt8:=if 65≤c∧c≤90 then c+32 else c
def low(l:Str):Str:=l.map arA
def isSmall(l:Str):Bool:=GI l&&decide (low l=l)
theorem WA{l:Str}(h:GI l=true):l.length≤30:=by
 unfold GI at h;simp at h;exact h.1.1
theorem Gp(a b:Str):(a==b)=decide (a=b):=by
 rw[Bool.eq_iff_iff];simp
theorem afi(c:UInt8):Qy (c.toNat:Int)=((arA c).toNat:Int):=by
 revert c
 exact UL (by decide+kernel)
theorem afj(l:Str):(zn l).map Qy=zn (low l):=by
 unfold zn low;rw[List.map_map,List.map_map];exact List.map_congr_left (fun c _=>afi c)
theorem BH(l:Str):(low l).length=l.length:=by unfold low;simp
theorem kS(l:Str)(hl:l.length≤140737488355328):fK.f (b_ l)=some (b_ (low l)):=by
 unfold fK.f;rw[aV,if_pos hl,MS,afj,wG]
theorem kT(l:Str)(hl:l.length≤140737488355328):eX.f (b_ l)=some (b_ (low l)):=by
 unfold eX.f;rw[aV,if_pos hl,MS,afj,wG]
theorem LJ(a b:Str)(ha:a.length≤140737488355328)(hb:b.length≤140737488355328):pO.f (b_ a) (b_ b)=some (decide (low a=low b)):=by
 unfold pO.f;rw[kS a ha,kS b hb];simp only[Option.bind_some,lD,Gp]
theorem LK(a b:Str)(ha:a.length≤140737488355328)(hb:b.length≤140737488355328):pJ.f (b_ a) (b_ b)=some (decide (low a=low b)):=by
 unfold pJ.f;rw[kT a ha,kT b hb];simp only[Option.bind_some,lD,Gp]
theorem CV(c:UInt8):pF.f (c.toNat:Int)=some (UM c):=by
 unfold pF.f UM Cc;rw[wY,Eu];have:=uT c 45 (by omega);by_cases e:c=45
 ·have h2:=this.mpr e;cases Ic c<;>cases ab6 c<;>simp[e,h2]
 ·have h2:¬(c.toNat:Int)=45:=fun hh=>e (this.mp hh)
  cases Ic c<;>cases ab6 c<;>simp[e,h2]
theorem AV(l:Str)(hl:l.length≤1000000000000000):Ev (fun k=>dN.f k (b_ l)) (l.all UM):=by
 unfold dN.f;rw[aV];refine vq (ng (xs:=l) (F:=fun k (_:Unit) i=>dN.l0 k (b_ l) (l.length:Int) i) (st:=fun _ c=>if UM c=true then .inr ()else .inl false) (fin:=fun _=>true) (s:=()) (fun _ _=>True) trivial ?_ ?_) ?_
 ·intro p c r s h _;have hz:=gJ h;have e1:=jH h;have w1:wrap64 ((p.length:Int)+1)=(p.length:Int)+1:=dA (by omega) (by omega);simp only[dN.l0,e1,w1,aV];clear w1 e1
  cases e:UM c with
  |true=>
   simp only[if_true];refine⟨(fun v hv=>by cases hv),fun s' hs=>⟨trivial,fun v hv=>?_⟩⟩;refine vp (by omega) (vp (by omega) (vp (by omega) (jZ (CV c) (vp e hv))))
  |false=>
   refine⟨(fun v hv=>?_),fun s' hs=>by simp at hs⟩;simp only[Bool.false_eq_true,if_false,Sum.inl.injEq]at hv;subst hv;refine vp (by omega) (vp (by omega) (vp (by omega) (jZ (CV c) (vn (by rw[e];simp) (vs _)))))
 ·intro s _;simp only[dN.l0];exact vn (by omega) (vs _)
 ·clear hl
  induction l with
  |nil=>rfl
  |cons c r ih=>
   unfold run
   cases e:UM c with
   |true=>simp[e,ih]
   |false=>simp[e]
theorem FM(l:Str)(hl:l.length≤1000000000000000):Ev (fun k=>iJ.f k (b_ l)) (GI l):=by
 unfold iJ.f GI;rw[aV]
 cases l with
 |nil=>exact vn (by simp) (vs _)
 |cons c r=>
  simp only[aa8];refine vp (by simp only[List.length_cons];omega) ?_;by_cases h2:(c:: r).length≤30
  ·rw[decide_eq_true h2];refine vp (by omega) (vp (by simp) (jZ (wY c) ?_))
   cases e:Ic c with
   |true=>exact vp rfl (vb (AV (c:: r) hl) (vs _))
   |false=>exact vn (by simp) (vs _)
  ·rw[decide_eq_false h2];exact vn (by omega) (vs _)
theorem uw(l:Str)(hl:l.length≤140737488355328):Ev (fun k=>fG.f k (b_ l)) (isSmall l):=by
 unfold fG.f isSmall;refine vb (FM l (by omega)) ?_
 cases e:GI l with
 |true=>
  refine vp rfl (jZ (kS l hl) (vq (vs _) ?_));simp only[lD,Gp,Bool.true_and]
 |false=>exact vn (by simp) (vs _)
theorem FN(l:Str)(hl:l.length≤1000000000000000):Ev (fun k=>bT.f k (b_ l)) (GI l):=by
 unfold bT.f
 have hj':∀i:Int,Ev (fun k=>bT.j1 k (b_ l) i false) (decide (1≤l.length)&&decide (l.length≤30)):=by
  intro i;refine vc ?_;simp only[bT.j1,aV];by_cases h1:1≤l.length
  ·rw[decide_eq_true h1];refine vn (by simp) (vp (by omega) (vq (vs _) ?_));rw[Bool.true_and];by_cases h2:l.length≤30
   ·rw[decide_eq_true h2];exact decide_eq_true (by omega)
   ·rw[decide_eq_false h2];exact decide_eq_false (by omega)
  ·rw[decide_eq_false h1];exact vn (by simp) (vn (by omega) (vs _))
 refine vq (ng (xs:=l) (F:=fun k (_:Nat) i=>bT.l0 k (b_ l) i) (st:=fun n c=>if n≤30 then(if UM c=true then(if n=0 then(if Ic c=true then .inr (n+1)else .inl false)else .inr (n+1))else .inl false)else .inl (decide (1≤l.length)&&decide (l.length≤30))) (fin:=fun _=>decide (1≤l.length)&&decide (l.length≤30)) (s:=0) (fun p n=>n=p.length) rfl ?_ ?_) ?_
 ·intro p c r n h hn;subst hn;have hz:=gJ h;have e1:=jH h;have w1:wrap64 ((p.length:Int)+1)=(p.length:Int)+1:=dA (by omega) (by omega);by_cases h20:p.length≤30
  ·simp only[if_pos h20];have hd:decide ((p.length:Int)≤30)=true:=decide_eq_true (by omega);simp only[bT.l0,hd,aV];have h45:=uT c 45 (by omega);have hlet:UM c=true→(Ic c=true↔¬(c.toNat:Int)≤57):=UL (p:=fun c=>UM c=true→(Ic c=true↔¬(c.toNat:Int)≤57)) (by decide+kernel) c
   cases e:UM c with
   |true=>
    have hlt:=hlet e
    have go:∀v,Ev (fun k=>if(p.length:Int)=0 then(if(c.toNat:Int)≤57 then some false else bT.l0 k (b_ l) ((p.length:Int)+1))else bT.l0 k (b_ l) ((p.length:Int)+1)) v→Ev (fun k=>if(p.length:Int)<(l.length:Int)then bT.j1 (k+0) (b_ l) (p.length:Int) true else bT.j1 (k+0) (b_ l) (p.length:Int) false) v:=by
     intro v hv;refine vp (by omega) (vc ?_);simp only[bT.j1,e1,w1,aV];clear w1 e1;refine vp trivial (vp (by omega) (vp (by omega) (jZ (qx c) ?_)))
     cases ea:Cc c with
     |true=>exact vp rfl hv
     |false=>
      have:c=45:=by
       unfold UM at e;rw[ea,Bool.false_or]at e;exact of_decide_eq_true e
      exact vn (by simp) (vp (h45.mpr this) hv)
    simp only[if_true];by_cases h0:p.length=0
    ·simp only[if_pos h0];by_cases hL:Ic c=true
     ·simp only[if_pos hL];refine⟨(fun v hv=>by cases hv),fun s' hs=>⟨?_,fun v hv=>?_⟩⟩
      ·cases hs;simp
      ·exact go v (vp (by omega) (vn (hlt.mp hL) hv))
     ·simp only[if_neg hL];refine⟨(fun v hv=>?_),fun s' hs=>by cases hs⟩;cases hv;exact go false (vp (by omega) (vp (Decidable.not_not.mp (fun hh=>hL (hlt.mpr hh))) (vs _)))
    ·simp only[if_neg h0];refine⟨(fun v hv=>by cases hv),fun s' hs=>⟨?_,fun v hv=>?_⟩⟩
     ·cases hs;simp
     ·exact go v (vn (by omega) hv)
   |false=>
    refine⟨(fun v hv=>?_),fun s' hs=>by simp at hs⟩;simp only[Bool.false_eq_true,if_false,Sum.inl.injEq]at hv;subst hv;refine vp (by omega) (vc ?_);simp only[bT.j1,e1,w1,aV];clear w1 e1;unfold UM at e;rw[Bool.or_eq_false_iff]at e;exact vp trivial (vp (by omega) (vp (by omega) (jZ (qx c) (vn (by rw[e.1];simp) (vn (fun hh=>(of_decide_eq_false e.2) (h45.mp hh)) (vs _))))))
  ·simp only[if_neg h20];have hd:decide ((p.length:Int)≤30)=false:=decide_eq_false (by omega);refine⟨(fun v hv=>?_),fun s' hs=>by cases hs⟩;cases hv;simp only[bT.l0,hd,aV];clear w1 e1;exact vp (by omega) (hj' _)
 ·intro s hs;subst hs;simp only[bT.l0,aV];exact vn (by omega) (hj' _)
 ·have key:∀(r:Str) (n:Nat),1≤n→n+r.length=l.length→run (fun n c=>if n≤30 then(if UM c=true then(if n=0 then(if Ic c=true then .inr (n+1)else .inl false)else .inr (n+1))else .inl false)else .inl (decide (1≤l.length)&&decide (l.length≤30))) (fun _=>decide (1≤l.length)&&decide (l.length≤30)) r n=(decide (l.length≤30)&&r.all UM):=by
   intro r
   induction r with
   |nil=>intro n h1 h2;have:decide (1≤l.length)=true:=decide_eq_true (by simp at h2;omega);simp only[run,this];simp
   |cons c r ih=>
    intro n h1 hn;simp only[List.length_cons]at hn;unfold run;have h1l:decide (1≤l.length)=true:=decide_eq_true (by omega);by_cases h20:n≤30
    ·simp only[if_pos h20,if_neg (show¬n=0 by omega)]
     cases e:UM c with
     |true=>simp[e,ih (n+1) (by omega) (by omega)]
     |false=>simp[e]
    ·simp only[if_neg h20];have:decide (l.length≤30)=false:=decide_eq_false (by omega);simp[this]
  cases l with
  |nil=>simp[run,GI]
  |cons c r=>
   unfold run GI;have hc:=key r 1 (by omega) (by simp;omega);simp only[if_pos (show(0:Nat)≤30 by omega),if_true]
   cases e:UM c with
   |true=>
    cases e2:Ic c with
    |true=>simp only[if_true];rw[hc];simp[e]
    |false=>simp
   |false=>simp[e]
theorem Ae(l:Str)(hl:l.length≤140737488355328):Ev (fun k=>jB.f k (b_ l)) (isSmall l):=by
 unfold jB.f isSmall;refine vb (FN l (by omega)) ?_
 cases e:GI l with
 |true=>
  refine vp rfl (jZ (kT l hl) (vq (vs _) ?_));simp only[lD,Gp,Bool.true_and]
 |false=>exact vn (by simp) (vs _)
def fidx(n:Str):List (Str×Str)→Nat→Int
 |[],_=>-1
 |c:: r,i=>if low c.1=low n then(i:Int)else fidx n r (i+1)
def small(ls:List (Str×Str)):Prop:=∀x∈ls,x.1.length≤1048576∧x.2.length≤1048576
theorem CW{ls:List (Str×Str)}(h:Dj ls≤1048576):small ls:=fun x hx=>by
 have:=aiu hx;exact⟨by omega,by omega⟩
theorem P6(n:Str)(r:List (Str×Str)):∀i:Nat,fidx n r i= -1∨((i:Int)≤fidx n r i∧fidx n r i<i+r.length):=by
 induction r with
 |nil=>intro i;exact Or.inl rfl
 |cons c r ih=>
  intro i;unfold fidx;split
  ·right;simp only[List.length_cons];omega
  ·rcases ih (i+1)with h|⟨h1,h2⟩
   ·exact Or.inl h
   ·right;simp only[List.length_cons];omega
theorem WB(n:Str)(r:List (Str×Str)):∀i:Nat,run (fun(i:Nat) (c:Str×Str)=>if low c.1=low n then .inl (i:Int)else .inr (i+1)) (fun _=>(-1:Int)) r i=fidx n r i:=by
 induction r with
 |nil=>intro i;rfl
 |cons c r ih=>
  intro i;unfold run fidx;by_cases e:low c.1=low n
  ·simp only[if_pos e]
  ·simp only[if_neg e,ih]
theorem FP(ls:List (Str×Str))(n:Str)(hs:small ls)(hn:n.length≤1048576)(hl:ls.length≤1048576):Ev (fun k=>iU.f k (ls.map sV) (b_ n)) (fidx n ls 0):=by
 unfold iU.f;refine vq (ng (xs:=ls) (F:=fun k (_:Nat) i=>iU.l0 k (ls.map sV) (b_ n) i) (st:=fun i c=>if low c.1=low n then .inl (i:Int)else .inr (i+1)) (fin:=fun _=>(-1:Int)) (s:=0) (fun p i=>i=p.length) rfl ?_ ?_) (WB n ls 0)
 ·intro p c r i h hi;subst hi;have hz:=gJ h;have e1:=uD h;have hc:=hs c (by rw[h];simp);have w1:wrap64 ((p.length:Int)+1)=(p.length:Int)+1:=dA (by omega) (by omega);have hq:=LK c.1 n (by omega) (by omega);simp only[iU.l0,e1,w1,List.length_map,sV,hq];clear w1 e1;by_cases e:low c.1=low n
  ·simp only[if_pos e];refine⟨(fun v hv=>?_),fun s' hs=>by cases hs⟩;cases hv;exact vp (by omega) (vp (by omega) (jZ rfl (vp (decide_eq_true e) (vs _))))
  ·simp only[if_neg e];refine⟨(fun v hv=>by cases hv),fun s' hs=>⟨?_,fun v hv=>?_⟩⟩
   ·cases hs;simp
   ·exact vp (by omega) (vp (by omega) (jZ rfl (vn (by simp[e]) hv)))
 ·intro s _;simp only[iU.l0,List.length_map];exact vn (by omega) (vs _)
theorem Af(ls:List (Str×Str))(n:Str)(hs:small ls)(hn:n.length≤1048576)(hl:ls.length≤1048576):Ev (fun k=>jU.f k (ls.map sV) (b_ n)) (fidx n ls 0):=by
 unfold jU.f dP.f;refine vb ?_ (vs _);rw[List.length_map];refine vq (ng (xs:=ls) (F:=fun k (_:Nat) i=>dP.l0 k (ls.map sV) (ls.length:Int) i (b_ n)) (st:=fun i c=>if low c.1=low n then .inl (i:Int)else .inr (i+1)) (fin:=fun _=>(-1:Int)) (s:=0) (fun p i=>i=p.length) rfl ?_ ?_) (WB n ls 0)
 ·intro p c r i h hi;subst hi;have hz:=gJ h;have e1:=uD h;have hc:=hs c (by rw[h];simp);have w1:wrap64 ((p.length:Int)+1)=(p.length:Int)+1:=dA (by omega) (by omega);have hq:=LJ c.1 n (by omega) (by omega);simp only[dP.l0,nP.f,e1,w1,List.length_map,sV,hq,Option.bind_some];clear w1 e1;by_cases e:low c.1=low n
  ·simp only[if_pos e];refine⟨(fun v hv=>?_),fun s' hs=>by cases hs⟩;cases hv;exact vp (by omega) (vp (by omega) (vp (by omega) (vp (decide_eq_true e) (vs _))))
  ·simp only[if_neg e];refine⟨(fun v hv=>by cases hv),fun s' hs=>⟨?_,fun v hv=>?_⟩⟩
   ·cases hs;simp
   ·exact vp (by omega) (vp (by omega) (vp (by omega) (vn (by simp[e]) hv)))
 ·intro s _;simp only[dP.l0];exact vn (by omega) (vs _)
def okB(c:UInt8):Bool:=32≤c&&c≤126
def kM(l:Str):Bool:=l.all okB&&decide (l.length≤200)
theorem afk(c:UInt8)(h:(c.toNat:Int)<32):okB c=false:=by
 have:c<32:=(arB c 32 (by omega)).mp h;unfold okB;simp[UInt8.le_iff_toNat_le,UInt8.lt_iff_toNat_lt]at this⊢;omega
theorem afl(c:UInt8)(h:(c.toNat:Int)>126):okB c=false:=by
 unfold okB;simp[UInt8.le_iff_toNat_le,UInt8.lt_iff_toNat_lt];omega
theorem aa9(c:UInt8)(h:¬(c.toNat:Int)<32)(h2:¬(c.toNat:Int)>126):okB c=true:=by
 unfold okB;simp[UInt8.le_iff_toNat_le,UInt8.lt_iff_toNat_lt];omega
theorem Ie{l:Str}(h:kM l=true):l.length≤200:=by
 unfold kM at h;simp at h;exact h.2
theorem GK(l:Str)(hl:l.length≤1000000000000000)(r:Str):∀(p:Str),l=p++r→Ev (fun k=>bg.l0 k (b_ l) (l.length:Int) (p.length:Int)) (r.all okB&&decide (l.length≤200)):=by
 induction r with
 |nil=>
  intro p h;have hz:l.length=p.length:=by rw[h,List.append_nil]
  refine vc ?_;simp only[bg.l0,aV];repeat(first|refine vp (by first|assumption|omega|decide) ?_|refine vn (by first|assumption|omega|decide) ?_)
  exact vq (vs _) (by simp;omega)
 |cons c r ih=>
  intro p h;have hz:l.length=p.length+(r.length+1):=by rw[h];simp
  have e1:bt (b_ l) (p.length:Int)=(c.toNat:Int):=by rw[h];exact YL p r c
  have:=ih (p++[c]) (by rw[h];simp);rw[jA]at this;refine vc ?_;simp(disch:=omega) only[bg.l0,aV,e1,dA];by_cases h1:(c.toNat:Int)<32
  ·repeat(first|refine vp (by first|assumption|omega|decide) ?_|refine vn (by first|assumption|omega|decide) ?_)
   exact vq (vs _) (by simp[afk c h1])
  ·by_cases h2:(c.toNat:Int)>126
   ·repeat(first|refine vp (by first|assumption|omega|decide) ?_|refine vn (by first|assumption|omega|decide) ?_)
    exact vq (vs _) (by simp[afl c h2])
   ·repeat(first|refine vp (by first|assumption|omega|decide) ?_|refine vn (by first|assumption|omega|decide) ?_)
    exact vq this (by simp[aa9 c h1 h2])
theorem nR(l:Str)(hl:l.length≤1000000000000000):Ev (fun k=>bg.f k (b_ l)) (kM l):=by
 unfold bg.f;rw[aV];exact GK l hl l [] rfl
theorem GL(l:Str)(hl:l.length≤1000000000000000)(r:Str):∀(p:Str),l=p++r→Ev (fun k=>aW.l0 k (b_ l) (p.length:Int)) (r.all okB&&decide (l.length≤200)):=by
 induction r with
 |nil=>
  intro p h;have hz:l.length=p.length:=by rw[h,List.append_nil]
  refine vc ?_;simp only[aW.l0,aV];repeat(first|refine vp (by first|assumption|omega|decide) ?_|refine vn (by first|assumption|omega|decide) ?_)
  refine vc ?_;simp only[aW.j1,aV];repeat(first|refine vp (by first|assumption|omega|decide) ?_|refine vn (by first|assumption|omega|decide) ?_)
  exact vq (vs _) (by simp;omega)
 |cons c r ih=>
  intro p h;have hz:l.length=p.length+(r.length+1):=by rw[h];simp
  have e1:bt (b_ l) (p.length:Int)=(c.toNat:Int):=by rw[h];exact YL p r c
  have:=ih (p++[c]) (by rw[h];simp);rw[jA]at this;by_cases h0:(p.length:Int)≤200
  ·refine vc ?_;simp only[aW.l0,aV];repeat(first|refine vp (by first|assumption|omega|decide) ?_|refine vn (by first|assumption|omega|decide) ?_)
   refine vc ?_;simp(disch:=omega) only[aW.j1,aV,e1,dA,decide_eq_true h0];by_cases h1:(c.toNat:Int)<32
   ·repeat(first|refine vp (by first|assumption|omega|decide) ?_|refine vn (by first|assumption|omega|decide) ?_)
    exact vq (vs _) (by simp[afk c h1])
   ·by_cases h2:(c.toNat:Int)>126
    ·repeat(first|refine vp (by first|assumption|omega|decide) ?_|refine vn (by first|assumption|omega|decide) ?_)
     exact vq (vs _) (by simp[afl c h2])
    ·repeat(first|refine vp (by first|assumption|omega|decide) ?_|refine vn (by first|assumption|omega|decide) ?_)
     exact vq this (by simp[aa9 c h1 h2])
  ·refine vc ?_;simp only[aW.l0,aV];repeat(first|refine vp (by first|assumption|omega|decide) ?_|refine vn (by first|assumption|omega|decide) ?_)
   refine vc ?_;simp only[aW.j1,aV,decide_eq_false h0];repeat(first|refine vp (by first|assumption|omega|decide) ?_|refine vn (by first|assumption|omega|decide) ?_)
   have d1:decide ((l.length:Int)≤200)=false:=decide_eq_false (by omega);have d2:decide (l.length≤200)=false:=decide_eq_false (by omega);exact vq (vs _) (by rw[d1,d2,Bool.and_false])
theorem o9(l:Str)(hl:l.length≤1000000000000000):Ev (fun k=>aW.f k (b_ l)) (kM l):=by
 unfold aW.f;exact GL l hl l [] rfl
def LM(c:UInt8):Str:=if c=34∨c=92 then[92,c]else[c]
def esc:Str→Str
 |[]=>[]
 |c:: r=>LM c++esc r
def quote(l:Str):Str:=34:: (esc l++[34])
def qw(l:Str):Str:=if kM l=true then(if PZ l=true then l else quote l)else[]
theorem P7(a b:Str):esc (a++b)=esc a++esc b:=by
 induction a with
 |nil=>rfl
 |cons c a ih=>simp only[List.cons_append,esc,ih,List.append_assoc]
theorem afm(c:UInt8):(LM c).length≤2:=by unfold LM;split<;>simp
theorem J_(l:Str):(esc l).length≤2*l.length:=by
 induction l with
 |nil=>simp[esc]
 |cons c r ih=>have:=afm c;simp only[esc,List.length_append,List.length_cons];omega
theorem YM(l:Str):(qw l).length≤2*l.length+2:=by
 unfold qw quote;have:=J_ l;split
 ·split
  ·omega
  ·simp only[List.length_cons,List.length_append,List.length_nil];omega
 ·simp
theorem Ko(l:Str)(hl:l.length≤1048576):Ev (fun k=>ig.f k (b_ l)) (b_ (qw l)):=by
 have key:∀(r p:Str),l=p++r→Ev (fun k=>ig.l0 k (b_ l) (zn (34:: esc p)) (l.length:Int) (p.length:Int)) (b_ (quote l)):=by
  intro r
  induction r with
  |nil=>
   intro p h;rw[List.append_nil]at h;subst h;have h1:=J_ l;refine vc ?_;simp only[ig.l0,LP];refine vn (by omega) (vp (by simp only[List.length_cons];omega) (vq (vs _) ?_));rw[show([34]:List Int)=zn [34]from rfl,←Gq,wG];rfl
  |cons c r ih=>
   intro p h;have hz:=gJ h;have e1:=jH h;have h1:=J_ p;have hh:=ih (p++[c]) (by rw[h];simp);rw[jA,P7]at hh;have w1:wrap64 ((p.length:Int)+1)=(p.length:Int)+1:=dA (by omega) (by omega);have P8:=uT c 34 (by omega);have h92:=uT c 92 (by omega);have b1:(34:: esc p:Str).length<140737488355328:=by simp only[List.length_cons];omega
   have b2:(34:: esc p++[92]:Str).length<140737488355328:=by simp only[List.length_cons,List.length_append,List.length_nil];omega
   refine vc ?_;have e92:([92]:List Int)=zn [92]:=rfl;have ec:([(c.toNat:Int)]:List Int)=zn [c]:=rfl;simp only[ig.l0,e1,w1,aV,LP,Option.bind_some,e92,ec,←Gq];clear w1 e1;refine vp (by omega) (vp (by omega) (vp (by omega) ?_));have two:LM c=[92,c]→(34:: esc p++[92])++[c]=34:: (esc p++(esc [c])):=fun h=>by simp[esc,h]
   have one:LM c=[c]→(34:: esc p)++[c]=34:: (esc p++(esc [c])):=fun h=>by simp[esc,h]
   by_cases c1:(c.toNat:Int)=34
   ·have hc:c=34:=P8.mp c1;refine vp c1 (vp b1 (vp b2 ?_));rw[two (by unfold LM;rw[if_pos (Or.inl hc)])];exact hh
   ·have hc:¬c=34:=fun h=>c1 (P8.mpr h)
    by_cases c2:(c.toNat:Int)=92
    ·have hc2:c=92:=h92.mp c2;refine vn c1 (vp c2 (vp b1 (vp b2 ?_)));rw[two (by unfold LM;rw[if_pos (Or.inr hc2)])];exact hh
    ·have hc2:¬c=92:=fun h=>c2 (h92.mpr h)
     refine vn c1 (vn c2 (vp b1 ?_));rw[one (by unfold LM;rw[if_neg (by simp[hc,hc2])])];exact hh
 unfold ig.f qw;refine vb (nR l (by omega)) ?_
 cases e1:kM l with
 |false=>exact vn (by simp) (vq (vs _) rfl)
 |true=>
  refine vp rfl (vb (J8 l (by omega)) ?_)
  cases e2:PZ l with
  |true=>exact vp rfl (vs _)
  |false=>
   have:=key l [] rfl;simp only[aV];exact vn (by simp) this
theorem Kq(l:Str)(hl:l.length≤1048576):Ev (fun k=>ql.f k (b_ l)) (b_ (qw l)):=by
 have key:∀(r p:Str),l=p++r→Ev (fun k=>jd.l0 k (b_ l) (b_ (34:: esc p)) (p.length:Int)) (b_ (quote l)):=by
  intro r
  induction r with
  |nil=>
   intro p h;rw[List.append_nil]at h;subst h;have h1:=J_ l;refine vc ?_;simp only[jd.l0,aV];refine vn (by omega) (vp (by simp only[List.length_cons];omega) (vq (vs _) ?_));rw[show(⟨#[34]⟩:ByteArray)=b_ [34]from rfl,nV];rfl
  |cons c r ih=>
   intro p h;have hz:=gJ h;have e1:=jH h;have h1:=J_ p;have hh:=ih (p++[c]) (by rw[h];simp);rw[jA,P7]at hh;have w1:wrap64 ((p.length:Int)+1)=((p.length+1:Nat):Int):=(dA (by omega) (by omega)).trans (by omega);have w2:((p.length+1:Nat):Int)=(p.length:Int)+1:=by omega
   have P8:=uT c 34 (by omega);have h92:=uT c 92 (by omega);have e3:strOfNums ([92]:List Int)=b_ [92]:=wG [92]
   have e4:(l.drop p.length).take (p.length+1-p.length)=[c]:=by
    rw[h,List.drop_left,show p.length+1-p.length=1 by omega];rfl
   refine vc ?_;simp only[jd.l0,e1,w1,aV,Option.bind_some,e3,Int.toNat_natCast,kU,e4,nV];clear w1 e1 e3 e4;simp only[w2];refine vp (by omega) (vp (by omega) ?_);have two:LM c=[92,c]→(34:: esc p++[92])++[c]=34:: (esc p++(esc [c])):=fun h=>by simp[esc,h]
   have one:LM c=[c]→(34:: esc p)++[c]=34:: (esc p++(esc [c])):=fun h=>by simp[esc,h]
   have b1:(34:: esc p:Str).length+([92]:Str).length≤9223372036854775807:=by simp only[List.length_cons,List.length_nil];omega
   have b2:(34:: esc p++[92]:Str).length+([c]:Str).length≤9223372036854775807:=by simp only[List.length_cons,List.length_append,List.length_nil];omega
   have b3:(34:: esc p:Str).length+([c]:Str).length≤9223372036854775807:=by simp only[List.length_cons,List.length_nil];omega
   by_cases c1:(c.toNat:Int)=34
   ·have hc:c=34:=P8.mp c1;refine vp c1 (vp b1 (vp (by omega) (vp (by omega) (vp b2 ?_))));rw[two (by unfold LM;rw[if_pos (Or.inl hc)])];exact hh
   ·have hc:¬c=34:=fun h=>c1 (P8.mpr h)
    by_cases c2:(c.toNat:Int)=92
    ·have hc2:c=92:=h92.mp c2;refine vn c1 (vp c2 (vp b1 (vp (by omega) (vp (by omega) (vp b2 ?_)))));rw[two (by unfold LM;rw[if_pos (Or.inr hc2)])];exact hh
    ·have hc2:¬c=92:=fun h=>c2 (h92.mpr h)
     refine vn c1 (vn c2 (vp (by omega) (vp (by omega) (vp b3 ?_))));rw[one (by unfold LM;rw[if_neg (by simp[hc,hc2])])];exact hh
 unfold ql.f qw;refine vb (o9 l (by omega)) ?_
 cases e1:kM l with
 |false=>exact vn (by simp) (vq (vs _) rfl)
 |true=>
  refine vp rfl (vb (J9 l (by omega)) ?_)
  cases e2:PZ l with
  |true=>exact vp rfl (vs _)
  |false=>
   have:=key l [] rfl;unfold jd.f;exact vn (by simp) (vb this (vs _))
def aa_(p:Str×Str):Str:=[59,32]++p.1++[61]++qw p.2
def qG:List (Str×Str)→Str
 |[]=>[]
 |c:: r=>aa_ c++qG r
def Kr(a b:Str)(ps:List (Str×Str)):Str:=(a++[47]++b)++qG ps
def kfl(q:List (Str×Str)):List (Str×Str)→Bool
 |[]=>true
 |c:: r=>isSmall c.1&&(kM c.2&&decide (c.2.length≤40))&&decide (¬(fidx c.1 q 0≥0))&&kfl (q++[c]) r
def sU(a b:Str)(ps:List (Str×Str)):Bool:=isSmall a&&isSmall b&&decide (¬(ps.length>4))&&kfl [] ps&&decide ((Kr a b ps).length≤150)
theorem RG(p:Str×Str):(aa_ p).length=3+p.1.length+(qw p.2).length:=by
 unfold aa_;simp only[List.length_append,List.length_cons,List.length_nil];omega
theorem Kt(a b:List (Str×Str)):qG (a++b)=qG a++qG b:=by
 induction a with
 |nil=>rfl
 |cons c a ih=>simp only[List.cons_append,qG,ih,List.append_assoc]
theorem RH(ps:List (Str×Str)):(qG ps).length≤2*Dj ps+5*ps.length:=by
 induction ps with
 |nil=>simp[qG]
 |cons c r ih=>
  have h1:=RG c;have h2:=YM c.2;simp only[qG,Dj,List.length_append,List.length_cons];omega
theorem Ef(a b:List (Str×Str)):Dj (a++b)=Dj a+Dj b:=by
 induction a with
 |nil=>simp[Dj]
 |cons c a ih=>simp only[List.cons_append,Dj,ih];omega
theorem P9{ls p r:List (Str×Str)}(h:ls=p++r)(hs:small ls):small p:=fun x hx=>hs x (by rw[h];exact List.mem_append_left _ hx)
theorem Ku{ls p r:List (Str×Str)}(h:ls=p++r):(ls.map sV).take p.length=p.map sV:=by
 rw[h,List.map_append];exact List.take_left' (by simp)
theorem LQ(a b:Str)(ps:List (Str×Str))(ha:a.length≤1048576)(hb:b.length≤1048576)(hz:Dj ps≤1048576)(hn:ps.length≤1048576):Ev (fun k=>fP.f k (b_ a) (b_ b) (ps.map sV)) (b_ (Kr a b ps)):=by
 have hs:=CW hz;unfold fP.f;have e47:(⟨#[47]⟩:ByteArray)=b_ [47]:=rfl;simp only[e47,nV,aV,List.length_map];refine vp (by omega) (vp (by first|omega|(simp only[List.length_append,List.length_cons,List.length_nil];omega)) ?_)
 have key:∀(r p:List (Str×Str)),ps=p++r→Ev (fun k=>fP.l0 k (b_ (a++[47]++b++qG p)) (ps.map sV) (ps.length:Int) (p.length:Int)) (b_ (Kr a b ps)):=by
  intro r
  induction r with
  |nil=>
   intro p h;rw[List.append_nil]at h;subst h;refine vc ?_;simp only[fP.l0];exact vn (by omega) (vs _)
  |cons c r ih=>
   intro p h;have hz2:=gJ h;have e1:=uD h;have hc:=hs c (by rw[h];simp);have hh:=ih (p++[c]) (by rw[h];simp);rw[jA,Kt]at hh;have hq:=YM c.2
   have hp:(qG p).length≤20000000:=by
    have h1:=RH p;have h2:Dj p≤Dj ps:=by rw[h,Ef];omega
    omega
   have hi:=Ko c.2 (by omega);have w1:wrap64 ((p.length:Int)+1)=(p.length:Int)+1:=dA (by omega) (by omega);have e59:(⟨#[59,32]⟩:ByteArray)=b_ [59,32]:=rfl;have e61:(⟨#[61]⟩:ByteArray)=b_ [61]:=rfl;refine vc ?_;simp only[fP.l0,e1,w1,sV,e59,e61,aV,nV,List.length_map];clear w1 e1;refine vp (by omega) (vp (by omega) (vp (by omega) (vp (by first|omega|(simp only[List.length_cons,List.length_nil];omega)) (vp (by first|omega|(simp only[List.length_append,List.length_cons,List.length_nil];omega)) (vb hi ?_)))));simp only[aV,nV];refine vp (by first|omega|(simp only[List.length_append,List.length_cons,List.length_nil];omega)) (vp (by first|omega|(simp only[List.length_append,List.length_cons,List.length_nil];omega)) ?_)
   have e:a++[47]++b++qG p++([59,32]++c.1++[61]++qw c.2)=a++[47]++b++(qG p++qG [c]):=by
    simp[qG,aa_]
   rw[e];exact hh
 have:=key ps [] rfl
 simpa [qG] using this
theorem BI(a b:Str)(ps:List (Str×Str))(ha:a.length≤1048576)(hb:b.length≤1048576)(hz:Dj ps≤1048576)(hn:ps.length≤1048576):Ev (fun k=>bJ.f k (b_ a) (b_ b) (ps.map sV)) (sU a b ps):=by
 have hs:=CW hz;have ht:=LQ a b ps ha hb hz hn
 have hbad:Ev (fun k=>bJ.j0 k true (b_ a) (b_ b) (ps.map sV)) false:=by
  refine vc ?_;simp only[bJ.j0];exact vp trivial (vs _)
 have key:∀(r p:List (Str×Str)),ps=p++r→Ev (fun k=>bJ.l0 k (ps.map sV) (ps.length:Int) (p.length:Int) (b_ a) (b_ b) (ps.map sV)) (kfl p r&&decide ((Kr a b ps).length≤150)):=by
  intro r
  induction r with
  |nil=>
   intro p h;rw[List.append_nil]at h;subst h;refine vc ?_;simp only[bJ.l0,kfl,Bool.true_and];refine vn (by omega) (vb ht (vq (vs _) ?_));rw[aV];by_cases h1:(Kr a b ps).length≤150
   ·rw[decide_eq_true h1];exact decide_eq_true (by omega)
   ·rw[decide_eq_false h1];exact decide_eq_false (by omega)
  |cons c r ih=>
   intro p h;have hz2:=gJ h;have e1:=uD h;have hc:=hs c (by rw[h];simp);have hh:=ih (p++[c]) (by rw[h];simp);rw[jA]at hh;have w1:wrap64 ((p.length:Int)+1)=(p.length:Int)+1:=dA (by omega) (by omega);have i1:=uw c.1 (by omega);have i2:=nR c.2 (by omega);have i3:=Af p c.1 (P9 h hs) hc.1 (by omega);have e3:=Ku h;refine vc ?_;simp only[bJ.l0,kfl,e1,w1,sV,aV,List.length_map,Int.toNat_natCast];clear w1 e1;refine vp (by omega) (vp (by omega) (vp (by omega) (vb i1 ?_)))
   cases q1:isSmall c.1 with
   |false=>exact vn (by simp) (vs _)
   |true=>
    refine vp rfl (vb i2 ?_)
    cases q2:kM c.2 with
    |false=>exact vn (by simp) (vs _)
    |true=>
     refine vp rfl ?_;by_cases q3:c.2.length≤40
     ·rw[decide_eq_true q3];refine vn (by omega) (vp (by omega) ?_);rw[e3];refine vb i3 ?_;by_cases q4:fidx c.1 p 0≥0
      ·refine vp q4 (vq (vs _) ?_);rw[decide_eq_false (fun hn=>hn q4)];rfl
      ·refine vn q4 ?_;rw[decide_eq_true q4]
       simpa using hh
     ·rw[decide_eq_false q3];exact vp (by omega) (vs _)
 unfold bJ.f sU;refine vb (uw a (by omega)) ?_
 cases q1:isSmall a with
 |false=>exact vn (by simp) hbad
 |true=>
  refine vp rfl (vb (uw b (by omega)) ?_)
  cases q2:isSmall b with
  |false=>exact vn (by simp) hbad
  |true=>
   refine vp rfl (vc ?_);simp only[bJ.j0,List.length_map];by_cases q3:ps.length>4
   ·refine vp (decide_eq_true (by omega)) (vq (vs _) ?_);rw[decide_eq_false (fun hn=>hn q3)];rfl
   ·refine vn (by simp;omega) ?_;rw[decide_eq_true q3];have:=key ps [] rfl
    simpa using this
theorem P_(l:Str)(hl:l.length≤1000000000):Ev (fun k=>qF.f k (b_ l)) (kM l&&decide (l.length≤40)):=by
 unfold qF.f;refine vb (o9 l (by omega)) ?_
 cases q2:kM l with
 |false=>exact vn (by simp) (vs _)
 |true=>
  refine vp rfl (vq (vs _) ?_);rw[aV,Bool.true_and];by_cases h1:l.length≤40
  ·rw[decide_eq_true h1];exact decide_eq_true (by omega)
  ·rw[decide_eq_false h1];exact decide_eq_false (by omega)
theorem BJ(a b:Str)(ps:List (Str×Str))(ha:a.length≤1048576)(hb:b.length≤1048576)(hz:Dj ps≤1048576)(hn:ps.length≤1048576):Ev (fun k=>aX.f k (b_ a) (b_ b) (ps.map sV)) (sU a b ps):=by
 have hs:=CW hz
 have hbad:Ev (fun k=>aX.j0 k true (b_ a) (b_ b) (ps.map sV)) false:=by
  refine vc ?_;simp only[aX.j0];exact vp trivial (vs _)
 have key:∀(r p:List (Str×Str)),ps=p++r→Ev (fun k=>aX.l0 k (((a++[47]++b++qG p:Str).length:Nat):Int) (p.length:Int) (b_ a) (b_ b) (ps.map sV)) (kfl p r&&decide ((Kr a b ps).length≤150)):=by
  intro r
  induction r with
  |nil=>
   intro p h;rw[List.append_nil]at h;subst h;refine vc ?_;simp only[aX.l0,kfl,Bool.true_and,List.length_map];refine vn (by omega) (vq (vs _) ?_);have e:a++[47]++b++qG ps=Kr a b ps:=rfl;rw[e];by_cases h1:(Kr a b ps).length≤150
   ·rw[decide_eq_true h1];exact decide_eq_true (by omega)
   ·rw[decide_eq_false h1];exact decide_eq_false (by omega)
  |cons c r ih=>
   intro p h;have hz2:=gJ h;have e1:=uD h;have hc:=hs c (by rw[h];simp);have hh:=ih (p++[c]) (by rw[h];simp);rw[jA]at hh
   have hp:(qG p).length≤20000000:=by
    have h1:=RH p;have h2:Dj p≤Dj ps:=by rw[h,Ef];omega
    omega
   have hq:=YM c.2;have hk:=RG c;have i1:=Ae c.1 (by omega);have i2:=P_ c.2 (by omega);have i3:=FP p c.1 (P9 h hs) hc.1 (by omega);have i4:=Kq c.2 (by omega);have e3:=Ku h
   have en:(a++[47]++b++qG (p++[c]):Str).length=(a++[47]++b++qG p:Str).length+3+c.1.length+(qw c.2).length:=by
    rw[Kt];simp only[List.length_append,qG,List.length_nil,hk];omega
   have hm:(a++[47]++b++qG p:Str).length≤30000000:=by
    simp only[List.length_append,List.length_cons,List.length_nil];omega
   rw[en]at hh
   generalize (a++[47]++b++qG p:Str).length=m at hh hm
   have w1:Unit→wrap64 ((p.length:Int)+1)=(p.length:Int)+1∧wrap64 (wrap64 (wrap64 ((m:Int)+3)+(c.1.length:Int))+((qw c.2).length:Int))=((m+3+c.1.length+(qw c.2).length:Nat):Int):=by
    intro _;have x1:wrap64 ((m:Int)+3)=(m:Int)+3:=dA (by omega) (by omega);rw[x1];clear x1;have x2:wrap64 ((m:Int)+3+(c.1.length:Int))=(m:Int)+3+(c.1.length:Int):=dA (by omega) (by omega);rw[x2];clear x2;exact⟨dA (by omega) (by omega),(dA (by omega) (by omega)).trans (by omega)⟩
   refine vc ?_;simp only[aX.l0,kfl,e1,(w1 ()).1,sV,aV,List.length_map,Int.toNat_natCast];refine vp (by omega) (vp (by omega) (vb i1 ?_))
   cases q1:isSmall c.1 with
   |false=>exact vn (by simp) (vs _)
   |true=>
    refine vp rfl (vb i2 ?_)
    cases q2:(kM c.2&&decide (c.2.length≤40))with
    |false=>exact vn (by simp) (vs _)
    |true=>
     refine vp rfl (vp (by omega) ?_);rw[e3];refine vb i3 ?_;by_cases q4:fidx c.1 p 0≥0
     ·refine vp q4 (vq (vs _) ?_);rw[decide_eq_false (fun hn=>hn q4)];rfl
     ·refine vn q4 (vb i4 ?_);rw[decide_eq_true q4];simp only[aV,(w1 ()).2]
      simpa using hh
 unfold aX.f sU;refine vb (Ae a (by omega)) ?_
 cases q1:isSmall a with
 |false=>exact vn (by simp) hbad
 |true=>
  refine vp rfl (vb (Ae b (by omega)) ?_)
  cases q2:isSmall b with
  |false=>exact vn (by simp) hbad
  |true=>
   refine vp rfl (vc ?_);simp only[aX.j0,List.length_map,aV];by_cases q3:ps.length>4
   ·refine vp (decide_eq_true (by omega)) (vq (vs _) ?_);rw[decide_eq_false (fun hn=>hn q3)];rfl
   ·refine vn (by simp;omega) ?_;rw[decide_eq_true q3];have:=key ps [] rfl;have x1:wrap64 ((a.length:Int)+(b.length:Int))=(a.length:Int)+(b.length:Int):=dA (by omega) (by omega);rw[x1];clear x1
    have x2:wrap64 ((a.length:Int)+(b.length:Int)+1)=(((a++[47]++b++qG []:Str).length:Nat):Int):=by
     refine(dA (by omega) (by omega)).trans ?_;simp only[qG,List.length_append,List.length_cons,List.length_nil];omega
    rw[x2]
    simpa using this
theorem yg(c:UInt8):l9.f (c.toNat:Int)=some (Cc c):=by
 unfold l9.f Cc;rw[wY,Eu];cases Ic c<;>simp
theorem yh(l:Str)(hl:l.length≤1000000000000000):Ev (fun k=>dh.f k (b_ l)) (l.all Cc):=by
 unfold dh.f;rw[aV];refine vq (ng (xs:=l) (F:=fun k (_:Unit) i=>dh.l0 k (b_ l) (l.length:Int) i) (st:=fun _ c=>if Cc c=true then .inr ()else .inl false) (fin:=fun _=>true) (s:=()) (fun _ _=>True) trivial ?_ ?_) ?_
 ·intro p c r s h _;have hz:=gJ h;have e1:=jH h;have w1:wrap64 ((p.length:Int)+1)=(p.length:Int)+1:=dA (by omega) (by omega);simp only[dh.l0,e1,w1,aV];clear w1 e1
  cases e:Cc c with
  |true=>
   simp only[if_true];refine⟨(fun v hv=>by cases hv),fun s' hs=>⟨trivial,fun v hv=>?_⟩⟩;refine vp (by omega) (vp (by omega) (vp (by omega) (jZ (yg c) (vp e hv))))
  |false=>
   refine⟨(fun v hv=>?_),fun s' hs=>by simp at hs⟩;simp only[Bool.false_eq_true,if_false,Sum.inl.injEq]at hv;subst hv;refine vp (by omega) (vp (by omega) (vp (by omega) (jZ (yg c) (vn (by rw[e];simp) (vs _)))))
 ·intro s _;simp only[dh.l0];exact vn (by omega) (vs _)
 ·clear hl
  induction l with
  |nil=>rfl
  |cons c r ih=>
   unfold run
   cases e:Cc c with
   |true=>simp[e,ih]
   |false=>simp[e]
theorem Ag(l:Str)(hl:l.length≤1000000000000000):Ev (fun k=>jF.f k (b_ l)) (FI l):=by
 unfold jF.f FI;rw[aV];by_cases h1:1≤l.length
 ·rw[decide_eq_true h1];refine vp (by omega) ?_;by_cases h2:l.length≤20
  ·rw[decide_eq_true h2];exact vp (by omega) (vb (yh l hl) (vs _))
  ·rw[decide_eq_false h2];exact vn (by omega) (vs _)
 ·rw[decide_eq_false h1];exact vn (by omega) (vs _)
theorem Ah(l:Str)(hl:l.length≤1000000000000000):Ev (fun k=>bQ.f k (b_ l)) (FI l):=by
 unfold bQ.f
 have hj:Ev (fun k=>bQ.j1 k (b_ l) (0:Int) false) (decide (1≤l.length)&&decide (l.length≤20)):=by
  refine vc ?_;simp only[bQ.j1,aV];by_cases h1:1≤l.length
  ·rw[decide_eq_true h1];refine vn (by simp) (vp (by omega) (vq (vs _) ?_));rw[Bool.true_and];by_cases h2:l.length≤20
   ·rw[decide_eq_true h2];exact decide_eq_true (by omega)
   ·rw[decide_eq_false h2];exact decide_eq_false (by omega)
  ·rw[decide_eq_false h1];exact vn (by simp) (vn (by omega) (vs _))
 have hj':∀i:Int,Ev (fun k=>bQ.j1 k (b_ l) i false) (decide (1≤l.length)&&decide (l.length≤20)):=by
  intro i;obtain⟨K,hK⟩:=hj;refine⟨K+1,fun k hk=>?_⟩;have:=hK k (by omega);obtain⟨m,rfl⟩:∃m,k=m+1:=⟨k-1,by omega⟩
  simp only[bQ.j1]at this⊢;exact this
 refine vq (ng (xs:=l) (F:=fun k (_:Nat) i=>bQ.l0 k (b_ l) i) (st:=fun n c=>if n≤20 then(if Cc c=true then .inr (n+1)else .inl false)else .inl (decide (1≤l.length)&&decide (l.length≤20))) (fin:=fun _=>decide (1≤l.length)&&decide (l.length≤20)) (s:=0) (fun p n=>n=p.length) rfl ?_ ?_) ?_
 ·intro p c r n h hn;subst hn;have hz:=gJ h;have e1:=jH h;have w1:wrap64 ((p.length:Int)+1)=(p.length:Int)+1:=dA (by omega) (by omega);by_cases h20:p.length≤20
  ·simp only[if_pos h20];have hd:decide ((p.length:Int)≤20)=true:=decide_eq_true (by omega);simp only[bQ.l0,hd,aV]
   cases e:Cc c with
   |true=>
    simp only[if_true];refine⟨(fun v hv=>by cases hv),fun s' hs=>⟨?_,fun v hv=>?_⟩⟩
    ·cases hs;simp
    ·refine vp (by omega) (vc ?_);simp only[bQ.j1,e1,w1,aV];clear w1 e1;exact vp trivial (vp (by omega) (vp (by omega) (jZ (qx c) (vp e hv))))
   |false=>
    refine⟨(fun v hv=>?_),fun s' hs=>by simp at hs⟩;simp only[Bool.false_eq_true,if_false,Sum.inl.injEq]at hv;subst hv;refine vp (by omega) (vc ?_);simp only[bQ.j1,e1,w1,aV];clear w1 e1;exact vp trivial (vp (by omega) (vp (by omega) (jZ (qx c) (vn (by rw[e];simp) (vs _)))))
  ·simp only[if_neg h20];have hd:decide ((p.length:Int)≤20)=false:=decide_eq_false (by omega);refine⟨(fun v hv=>?_),fun s' hs=>by cases hs⟩;cases hv;simp only[bQ.l0,hd,aV];clear w1 e1;exact vp (by omega) (hj' _)
 ·intro s hs;subst hs;simp only[bQ.l0,aV];exact vn (by omega) (hj' _)
 ·unfold FI
  have key:∀(r:Str) (n:Nat),n+r.length=l.length→run (fun n c=>if n≤20 then(if Cc c=true then .inr (n+1)else .inl false)else .inl (decide (1≤l.length)&&decide (l.length≤20))) (fun _=>decide (1≤l.length)&&decide (l.length≤20)) r n=(decide (1≤l.length)&&decide (l.length≤20)&&r.all Cc):=by
   intro r
   induction r with
   |nil=>intro n _;simp[run]
   |cons c r ih=>
    intro n hn;simp only[List.length_cons]at hn;unfold run;by_cases h20:n≤20
    ·simp only[if_pos h20]
     cases e:Cc c with
     |true=>simp[e,ih (n+1) (by omega)]
     |false=>simp[e]
    ·simp only[if_neg h20];have:decide (l.length≤20)=false:=decide_eq_false (by omega);simp[this]
  exact key l 0 (by omega)
def wZ(ps:List (Str×Str))(n:Str):Str×Bool:=if fidx n ps 0<0 then([],false)else((ps.getD (fidx n ps 0).toNat ([],[])).2,true)
def multi:Str:=[109,117,108,116,105,112,97,114,116]
def bnd:Str:=[98,111,117,110,100,97,114,121]
def Nu(a b:Str)(ps:List (Str×Str)):Str×Bool:=if sU a b ps=true∧a=multi∧FI (wZ ps bnd).1=true then((wZ ps bnd).1,true)else([],false)
theorem Eh(ps:List (Str×Str))(n:Str)(hs:small ps):(wZ ps n).1.length≤1048576:=by
 unfold wZ;split
 ·simp
 ·rw[List.getD_eq_getElem?_getD]
  cases e:ps[(fidx n ps 0).toNat]? with
  |none=>simp
  |some x=>exact(hs x (List.mem_of_getElem? e)).2
theorem RI(ps:List (Str×Str))(i:Int):(aH (ps.map sV) i).f1=b_ ((ps.getD i.toNat ([],[])).2):=by
 unfold aH;rw[List.getD_eq_getElem?_getD,List.getD_eq_getElem?_getD,List.getElem?_map]
 cases ps[i.toNat]? with
 |none=>rfl
 |some x=>rfl
theorem CX(ps:List (Str×Str))(n:Str)(hs:small ps)(hn:n.length≤1048576)(hl:ps.length≤1048576):Ev (fun k=>lg.f k (ps.map sV) (b_ n)) (b_ (wZ ps n).1,(wZ ps n).2):=by
 unfold lg.f wZ;refine vb (Af ps n hs hn hl) ?_;have hr:=P6 n ps 0;by_cases h:fidx n ps 0<0
 ·simp only[if_pos h];exact vq (vs _) rfl
 ·simp only[if_neg h,List.length_map,RI];exact vp (by omega) (vp (by omega) (vs _))
theorem CY(ps:List (Str×Str))(n:Str)(hs:small ps)(hn:n.length≤1048576)(hl:ps.length≤1048576):Ev (fun k=>jg.f k (ps.map sV) (b_ n)) (b_ (wZ ps n).1,(wZ ps n).2):=by
 unfold jg.f wZ;refine vb (FP ps n hs hn hl) ?_;have hr:=P6 n ps 0;by_cases h:fidx n ps 0<0
 ·simp only[if_pos h];exact vq (vs _) rfl
 ·simp only[if_neg h,List.length_map,RI];exact vp (by omega) (vp (by omega) (vs _))
theorem RJ(ps:List (Str×Str))(n:Str)(h:(wZ ps n).2=false):(wZ ps n).1=[]:=by
 unfold wZ at*;split at h
 ·rename_i h1;rw[if_pos h1]
 ·cases h
theorem abb:(⟨#[98,111,117,110,100,97,114,121]⟩:ByteArray)=b_ bnd:=rfl
theorem Ig(a b:Str)(ps:List (Str×Str))(ha:a.length≤1048576)(hb:b.length≤1048576)(hz:Dj ps≤1048576)(hn:ps.length≤1048576):Ev (fun k=>gy.f k (b_ a) (b_ b) (ps.map sV)) (b_ (Nu a b ps).1,(Nu a b ps).2):=by
 have hs:=CW hz;have hg:=Eh ps bnd hs;unfold gy.f;refine vb (BI a b ps ha hb hz hn) ?_;simp only[lD]
 have hbad:Nu a b ps=([],false)→Ev (fun k=>gy.j0 k true (b_ a) (b_ b) (ps.map sV)) (b_ (Nu a b ps).1,(Nu a b ps).2):=by
  intro e;rw[e];refine vc ?_;simp only[gy.j0];exact vp trivial (vq (vs _) rfl)
 cases e:sU a b ps with
 |false=>exact vn (by simp) (hbad (by unfold Nu;rw[if_neg (by simp[e])]))
 |true=>
  refine vp rfl ?_;by_cases hm:a=multi
  ·have e2:(a !=([109,117,108,116,105,112,97,114,116]:List UInt8))=false:=by rw[hm];decide
   rw[e2];refine vc ?_;simp only[gy.j0,abb];refine vn (by simp) (vb (CX ps bnd hs (by decide) (by omega)) (vb (Ag (wZ ps bnd).1 (by omega)) ?_))
   cases e3:FI (wZ ps bnd).1 with
   |true=>
    have hv:Nu a b ps=((wZ ps bnd).1,true):=by unfold Nu;rw[if_pos ⟨e,hm,e3⟩]
    rw[hv];exact vp rfl (vs _)
   |false=>
    have hv:Nu a b ps=([],false):=by unfold Nu;rw[if_neg (by rw[e3];simp)]
    rw[hv];exact vn (by simp) (vq (vs _) rfl)
  ·have e2:(a !=([109,117,108,116,105,112,97,114,116]:List UInt8))=true:=by simpa [multi] using hm
   rw[e2];exact hbad (by unfold Nu;rw[if_neg (by simp[hm])])
theorem Ai(a b:Str)(ps:List (Str×Str))(ha:a.length≤1048576)(hb:b.length≤1048576)(hz:Dj ps≤1048576)(hn:ps.length≤1048576):Ev (fun k=>lC.f k (b_ a) (b_ b) (ps.map sV)) (b_ (Nu a b ps).1,(Nu a b ps).2):=by
 have hs:=CW hz;have hg:=Eh ps bnd hs;unfold lC.f;simp only[abb,lD];refine vb (CY ps bnd hs (by decide) (by omega)) (vb (BJ a b ps ha hb hz hn) ?_)
 cases e:sU a b ps with
 |false=>
  have hv:Nu a b ps=([],false):=by unfold Nu;rw[if_neg (by rw[e];simp)]
  rw[hv];exact vn (by simp) (vq (vs _) rfl)
 |true=>
  refine vp rfl ?_;by_cases hm:a=multi
  ·refine vp hm ?_
   cases e4:(wZ ps bnd).2 with
   |false=>
    have:=RJ ps bnd e4;have hv:Nu a b ps=([],false):=by unfold Nu;rw[if_neg (by rw[this];simp[FI])]
    rw[hv];exact vn (by simp) (vq (vs _) rfl)
   |true=>
    refine vp rfl (vb (Ah (wZ ps bnd).1 (by omega)) ?_)
    cases e3:FI (wZ ps bnd).1 with
    |true=>
     have hv:Nu a b ps=((wZ ps bnd).1,true):=by unfold Nu;rw[if_pos ⟨e,hm,e3⟩]
     rw[hv];exact vp rfl (vs _)
    |false=>
     have hv:Nu a b ps=([],false):=by unfold Nu;rw[if_neg (by rw[e3];simp)]
     rw[hv];exact vn (by simp) (vq (vs _) rfl)
  ·have hv:Nu a b ps=([],false):=by unfold Nu;rw[if_neg (by simp[hm])]
   rw[hv];exact vn hm (vq (vs _) rfl)
def Kv:Str→Option (Str×Str)
 |[]=>none
 |c:: r=>if c=34 then some ([],r)else if c=92 then(match r with
   |[]=>none
   |d:: t=>(Kv t).map fun q=>(d:: q.1,q.2))else(Kv r).map fun q=>(c:: q.1,q.2)
theorem CZ(c:UInt8)(r:Str):Kv (c:: r)=if c=34 then some ([],r)else if c=92 then(match r with
   |[]=>none
   |d:: t=>(Kv t).map fun q=>(d:: q.1,q.2))else(Kv r).map fun q=>(c:: q.1,q.2):=by rw[Kv.eq_def];rfl
def nq(q:Nat)(c:UInt8):Nat:=if q=2 then 1 else if q=1 then(if c=34 then 0 else if c=92 then 2 else 1)else(if c=34 then 1 else 0)
def o_(b:UInt8):Nat→Str→Option (Str×Str)
 |_,[]=>none
 |q,c:: r=>if q=0∧c=b then some ([],r)else(o_ b (nq q c) r).map fun x=>(c:: x.1,x.2)
def hd1(c:UInt8):List Str→List Str
 |[]=>[[c]]
 |x:: r=>(c:: x):: r
def parts(b:UInt8):Nat→Str→List Str
 |_,[]=>[[]]
 |q,c:: r=>if q=0∧c=b then[]:: parts b 0 r else hd1 c (parts b (nq q c) r)
theorem Gs(b:UInt8):∀(n:Nat) (r w t:Str),r.length≤n→Kv r=some (w,t)→∃m,r=m++t∧w.length<m.length∧o_ b 1 r=(o_ b 0 t).map fun x=>(m++x.1,x.2):=by
 intro n
 induction n with
 |zero=>intro r w t h h2;cases r with
  |nil=>cases h2
  |cons c r=>simp at h
 |succ n ih=>
  intro r w t h h2
  cases r with
  |nil=>cases h2
  |cons c r=>
   simp only[List.length_cons]at h;rw[CZ]at h2;by_cases c1:c=34
   ·rw[if_pos c1]at h2;cases h2;refine⟨[c],rfl,by simp,?_⟩;rw[o_,if_neg (by simp),c1];rfl
   ·rw[if_neg c1]at h2;by_cases c2:c=92
    ·rw[if_pos c2]at h2
     cases r with
     |nil=>cases h2
     |cons d r=>
      simp only[List.length_cons]at h;simp only[Option.map_eq_some_iff]at h2;obtain⟨⟨w1,t1⟩,e1,e2⟩:=h2;cases e2;obtain⟨m,e3,e4,e5⟩:=ih r w1 t1 (by omega) e1;refine⟨c:: d:: m,by rw[e3];rfl,by simp only[List.length_cons];omega,?_⟩;rw[o_,if_neg (by simp),c2,o_,if_neg (by simp[nq])];have:nq (nq 1 92) d=1:=by simp[nq]
      rw[this,e5];cases o_ b 0 t1<;>rfl
    ·rw[if_neg c2]at h2;simp only[Option.map_eq_some_iff]at h2;obtain⟨⟨w1,t1⟩,e1,e2⟩:=h2;cases e2;obtain⟨m,e3,e4,e5⟩:=ih r w1 t1 (by omega) e1;refine⟨c:: m,by rw[e3];rfl,by simp only[List.length_cons];omega,?_⟩;have:nq 1 c=1:=by simp[nq,c1,c2]
     rw[o_,if_neg (by simp),this,e5];cases o_ b 0 t1<;>rfl
theorem WC(b:UInt8):∀(n:Nat) (r:Str),r.length≤n→Kv r=none→o_ b 1 r=none:=by
 intro n
 induction n with
 |zero=>intro r h h2;cases r with
  |nil=>rfl
  |cons c r=>simp at h
 |succ n ih=>
  intro r h h2
  cases r with
  |nil=>rfl
  |cons c r=>
   simp only[List.length_cons]at h;rw[CZ]at h2;by_cases c1:c=34
   ·rw[if_pos c1]at h2;cases h2
   ·rw[if_neg c1]at h2;by_cases c2:c=92
    ·rw[if_pos c2]at h2
     cases r with
     |nil=>rw[o_,if_neg (by simp)];rfl
     |cons d r=>
      simp only[List.length_cons]at h;simp only[Option.map_eq_none_iff]at h2;rw[o_,if_neg (by simp),c2,o_,if_neg (by simp[nq])];have:nq (nq 1 92) d=1:=by simp[nq]
      rw[this,ih r (by omega) h2];rfl
    ·rw[if_neg c2]at h2;simp only[Option.map_eq_none_iff]at h2;have:nq 1 c=1:=by simp[nq,c1,c2]
     rw[o_,if_neg (by simp),this,ih r (by omega) h2];rfl
theorem abd(b:UInt8)(s:Str):∀(q:Nat) (x t:Str),o_ b q s=some (x,t)→s=x++b:: t:=by
 induction s with
 |nil=>intro q x t h;cases h
 |cons c r ih=>
  intro q x t h;rw[o_]at h;split at h
  ·rename_i hc;cases h;rw[hc.2];rfl
  ·simp only[Option.map_eq_some_iff]at h;obtain⟨⟨w1,t1⟩,e1,e2⟩:=h;cases e2;rw[ih _ _ _ e1];rfl
theorem LU(b:UInt8)(s:Str):∀q:Nat,parts b q s=match o_ b q s with
  |none=>[s]
  |some x=>x.1:: parts b 0 x.2:=by
 induction s with
 |nil=>intro q;rfl
 |cons c r ih=>
  intro q;rw[parts,o_];by_cases h:q=0∧c=b
  ·rw[if_pos h,if_pos h]
  ·rw[if_neg h,if_neg h,ih];cases o_ b (nq q c) r<;>rfl
theorem RN(b:UInt8)(s:Str):∀q:Nat,1≤(parts b q s).length∧(parts b q s).length≤s.length+1:=by
 induction s with
 |nil=>intro q;exact⟨Nat.le_refl _,Nat.le_refl _⟩
 |cons c r ih=>
  intro q;rw[parts];split
  ·have:=ih 0;simp only[List.length_cons];omega
  ·have:=ih (nq q c)
   cases e:parts b (nq q c) r with
   |nil=>rw[e]at this;simp at this
   |cons y l=>rw[e]at this;simp only[hd1,List.length_cons]at this⊢;omega
theorem ab7(b:UInt8)(s:Str):∀(q:Nat) (x:Str),x∈parts b q s→x.length≤s.length∧∀c∈x,c∈s:=by
 induction s with
 |nil=>intro q x h;simp only[parts,List.mem_singleton]at h;subst h;simp
 |cons c r ih=>
  intro q x h;rw[parts]at h;split at h
  ·rcases List.mem_cons.mp h with rfl|h
   ·simp
   ·obtain⟨h1,h2⟩:=ih _ x h;exact⟨by simp only[List.length_cons];omega,fun d hd=>List.mem_cons_of_mem _ (h2 d hd)⟩
  ·cases e:parts b (nq q c) r with
   |nil=>have:=RN b r (nq q c);rw[e]at this;simp at this
   |cons y l=>
    rw[e,hd1]at h;rcases List.mem_cons.mp h with rfl|h
    ·obtain⟨h1,h2⟩:=ih (nq q c) y (by rw[e];simp);refine⟨by simp only[List.length_cons];omega,fun d hd=>?_⟩;rcases List.mem_cons.mp hd with rfl|hd
     ·simp
     ·exact List.mem_cons_of_mem _ (h2 d hd)
    ·obtain⟨h1,h2⟩:=ih (nq q c) x (by rw[e];exact List.mem_cons_of_mem _ h);exact⟨by simp only[List.length_cons];omega,fun d hd=>List.mem_cons_of_mem _ (h2 d hd)⟩
def Kw:Nat→Bool→Str→Option (List Str)
 |0,_,_=>none
 |_+1,_,[]=>some []
 |n+1,a,c:: r=>if c=32 then Kw n true r else if a=false then none else if c=34 then(match Kv r with
   |none=>none
   |some q=>(Kw n false q.2).map (q.1:: ·))else if(c:: r).takeWhile uj=[]then none else(Kw n false ((c:: r).dropWhile uj)).map ((c:: r).takeWhile uj:: ·)
def words(s:Str):Option (List Str):=Kw (s.length+1) true s
def wI(b:UInt8):Str→Option (Str×Str)
 |[]=>none
 |c:: r=>if c=b then some ([],r)else(wI b r).map fun x=>(c:: x.1,x.2)
theorem UN(b:UInt8)(s:Str):∀(x t:Str),wI b s=some (x,t)→s=x++b:: t:=by
 induction s with
 |nil=>intro x t h;cases h
 |cons c r ih=>
  intro x t h;rw[wI]at h;split at h
  ·rename_i hc;cases h;rw[hc];rfl
  ·simp only[Option.map_eq_some_iff]at h;obtain⟨⟨w1,t1⟩,e1,e2⟩:=h;cases e2;rw[ih _ _ e1];rfl
theorem aiw(b:UInt8)(s:Str):Lib.index s [b]=match wI b s with
  |none=>-1
  |some x=>(x.1.length:Int):=by
 induction s with
 |nil=>rfl
 |cons c r ih=>
  rw[Lib.index,wI];by_cases h:c=b
  ·rw[if_pos (by simp[List.isPrefixOf,h]),if_pos h];rfl
  ·rw[if_neg (by simp only[List.isPrefixOf,Bool.and_true,beq_iff_eq];exact fun e=>h e.symm),if_neg h,ih]
   cases e:wI b r with
   |none=>rfl
   |some q=>
    simp only[Option.map_some,List.length_cons];rw[if_neg (by simp)];rfl
theorem arC(b:UInt8)(s:Str):Lib.cut s [b]=match wI b s with
  |none=>(s,[],false)
  |some x=>(x.1,x.2,true):=by
 unfold Lib.cut;rw[aiw]
 cases e:wI b s with
 |none=>rfl
 |some q=>
  obtain⟨x,t⟩:=q;have:=UN b s x t e;simp only;rw[if_pos (by omega)];subst this;simp
def trim(l:Str):Str:=Lib.trimB l 32
theorem Ce(p:UInt8→Bool)(l:Str):∃m,l=m++l.dropWhile p∧∀c∈m,p c=true:=by
 induction l with
 |nil=>exact⟨[],rfl,by simp⟩
 |cons c r ih=>
  cases e:p c with
  |true=>
   obtain⟨m,h1,h2⟩:=ih;refine⟨c:: m,by simp[List.dropWhile,e];exact h1,fun d hd=>?_⟩;rcases List.mem_cons.mp hd with rfl|hd
   ·exact e
   ·exact h2 d hd
  |false=>exact⟨[],by simp[List.dropWhile,e],by simp⟩
theorem Ih(l:Str):∃i j,l=List.replicate i 32++trim l++List.replicate j 32:=by
 unfold trim Lib.trimB Lib.trimLeftB Lib.trimRightB;have rep:∀m:Str,(∀c∈m,(c==32)=true)→m=List.replicate m.length 32:=fun m h=>List.eq_replicate_iff.mpr ⟨rfl,fun c hc=>by simpa using h c hc⟩
 obtain⟨m,h1,h2⟩:=Ce (·==32) l.reverse;obtain⟨m2,h3,h4⟩:=Ce (·==32) (l.reverse.dropWhile (·==32)).reverse;refine⟨m2.length,m.length,?_⟩;rw[←rep m2 h4,←h3]
 have e:m.reverse=List.replicate m.length 32:=by
  have:=rep m.reverse (fun c hc=>h2 c (List.mem_reverse.mp hc))
  rwa [List.length_reverse]at this
 rw[←e,←List.reverse_append,←h1,List.reverse_reverse]
theorem C9(l:Str):(trim l).length≤l.length:=by
 obtain⟨i,j,h⟩:=Ih l;have:=congrArg List.length h;simp only[List.length_append]at this;omega
theorem WE(l:Str)(c:UInt8)(hc:c∈l)(h32:c≠32):c∈trim l:=by
 obtain⟨i,j,h⟩:=Ih l;rw[h]at hc;simp only[List.mem_append,List.mem_replicate]at hc;rcases hc with(⟨_,h⟩|h)|⟨_,h⟩
 ·exact absurd h h32
 ·exact h
 ·exact absurd h h32
theorem RP(l:Str):trim (32:: l)=trim l:=by
 unfold trim Lib.trimB Lib.trimLeftB Lib.trimRightB;rw[List.reverse_cons,List.dropWhile_append];split
 ·rename_i h
  have:l.reverse.dropWhile (·==32)=[]:=by simpa using h
  rw[this];rfl
 ·rw[List.reverse_append];simp
def Ii(s:Str):Option (Str×Str):=match wI 61 s with
 |none=>none
 |some x=>match words x.2 with
  |some [w]=>some (low (trim x.1),w)
  |_=>none
def Qa:List Str→Option (List (Str×Str))
 |[]=>some []
 |s:: r=>match Ii s with
  |none=>none
  |some x=>(Qa r).map (x:: ·)
def pkO(o:Option (Str×Str))(ps:Option (List (Str×Str))):Option (Str×Str×List (Str×Str)):=match o,ps with
 |some x,some ps=>if sU (low x.1) (low x.2) ps=true then some (low x.1,low x.2,ps)else none
 |_,_=>none
def pk(s:Str):Option (Str×Str×List (Str×Str)):=if kM s=true then pkO (wI 47 (trim ((parts 59 0 s).headD []))) (Qa ((parts 59 0 s).drop 1))else none
theorem afn(c b:UInt8):((c.toNat:Int)=(b.toNat:Int))↔c=b:=by
 constructor
 ·intro e;exact UInt8.toNat_inj.mp (by omega)
 ·intro e;rw[e]
def QN(L:Nat)(acc:Str):Option (Str×Str)→ByteArray×Int×Bool
 |none=>(b_ [],0,false)
 |some q=>(b_ (acc++q.1),((L-q.2.length:Nat):Int),true)
theorem LV(l:Str)(hl:l.length≤1048576):∀(n:Nat) (r p acc:Str),r.length≤n→l=p++r→acc.length≤p.length→Ev (fun k=>iL.l0 k (b_ l) (zn acc) (p.length:Int)) (QN l.length acc (Kv r)):=by
 intro n
 induction n with
 |zero=>
  intro r p acc h h2 h3;have:r=[]:=List.length_eq_zero_iff.mp (by omega);subst this;rw[List.append_nil]at h2;subst h2;refine vc ?_;simp only[iL.l0,aV];exact vn (by omega) (vq (vs _) rfl)
 |succ n ih=>
  intro r p acc h h2 h3
  cases r with
  |nil=>
   rw[List.append_nil]at h2;subst h2;refine vc ?_;simp only[iL.l0,aV];exact vn (by omega) (vq (vs _) rfl)
  |cons c r=>
   simp only[List.length_cons]at h;have hz:=gJ h2;have e1:=jH h2;have w1:wrap64 ((p.length:Int)+1)=((p.length+1:Nat):Int):=(dA (by omega) (by omega)).trans (by omega);have P8:(c.toNat:Int)=34↔c=34:=uT c 34 (by omega);have h92:(c.toNat:Int)=92↔c=92:=uT c 92 (by omega);refine vc ?_;simp only[iL.l0,e1,w1,aV,LP];clear e1 w1;rw[CZ];refine vp (by omega) (vp (by omega) ?_);by_cases c1:(c.toNat:Int)=34
   ·refine vp c1 (vq (vs _) ?_);rw[if_pos (P8.mp c1),QN,wG,show l.length-r.length=p.length+1 by omega];simp
   ·refine vn c1 ?_;rw[if_neg (fun hh=>c1 (P8.mpr hh))];by_cases c2:(c.toNat:Int)=92
    ·refine vp c2 ?_;rw[if_pos (h92.mp c2)]
     cases r with
     |nil=>
      simp only[List.length_nil]at hz;exact vp (by omega) (vq (vs _) rfl)
     |cons d r=>
      simp only[List.length_cons]at h hz
      have e2:bt (b_ l) ((p.length+1:Nat):Int)=(d.toNat:Int):=by
       have:=jH (l:=l) (p:=p++[c]) (c:=d) (r:=r) (by rw[h2];simp)
       rwa [List.length_append]at this
      have w2:wrap64 (((p.length+1:Nat):Int)+1)=((p.length+2:Nat):Int):=(dA (by omega) (by omega)).trans (by omega);have:=ih r (p++[c,d]) (acc++[d]) (by omega) (by rw[h2];simp) (by simp;omega);rw[Gq,List.length_append]at this;have e3:([(d.toNat:Int)]:List Int)=zn [d]:=rfl;rw[e2,w2,e3];clear e2 w2;refine vn (by omega) (vp (by omega) (vp (by omega) (vp (by omega) (vq this ?_))))
      show _=QN l.length acc ((Kv r).map fun q=>(d:: q.1,q.2))
      cases Kv r with
      |none=>rfl
      |some q=>simp[QN]
    ·refine vn c2 ?_;rw[if_neg (fun hh=>c2 (h92.mpr hh))];have:=ih r (p++[c]) (acc++[c]) (by omega) (by rw[h2];simp) (by simp;omega);rw[Gq,List.length_append]at this;have e3:([(c.toNat:Int)]:List Int)=zn [c]:=rfl;rw[e3];refine vp (by omega) (vq this ?_)
     cases Kv r with
     |none=>rfl
     |some q=>simp[QN]
theorem FQ(c:UInt8)(r:Str)(hl:r.length≤1048575):Ev (fun k=>iL.f k (b_ (c:: r))) (QN (r.length+1) [] (Kv r)):=LV (c:: r) (by simp only[List.length_cons];omega) r.length r [c] [] (Nat.le_refl _) rfl (by simp)
def WG(p:Nat):Option (Str×Str)→Int
 |none=>-1
 |some q=>((p+q.1.length:Nat):Int)
theorem Aj{l p r:Str}(h:l=p++r):l.drop p.length=r:=by rw[h,List.drop_left]
theorem Ky(l:Str)(b:UInt8)(hb:b≠34)(hl:l.length≤1048576):∀(n:Nat) (r p:Str),r.length≤n→l=p++r→Ev (fun k=>je.l0 k (b_ l) (b.toNat:Int) (p.length:Int)) (WG p.length (o_ b 0 r)):=by
 intro n
 induction n with
 |zero=>
  intro r p h h2;have:r=[]:=List.length_eq_zero_iff.mp (by omega);subst this;rw[List.append_nil]at h2;subst h2;refine vc ?_;simp only[je.l0,aV];exact vn (by omega) (vq (vs _) rfl)
 |succ n ih=>
  intro r p h h2
  cases r with
  |nil=>
   rw[List.append_nil]at h2;subst h2;refine vc ?_;simp only[je.l0,aV];exact vn (by omega) (vq (vs _) rfl)
  |cons c r=>
   simp only[List.length_cons]at h;have hz:=gJ h2;have e1:=jH h2;have w1:wrap64 ((p.length:Int)+1)=((p.length+1:Nat):Int):=(dA (by omega) (by omega)).trans (by omega);have P8:(c.toNat:Int)=34↔c=34:=uT c 34 (by omega);have hbb:=afn c b
   have ex:(b_ l).extract (p.length:Int).toNat l.length=b_ (c:: r):=by
    rw[Int.toNat_natCast,kU,Aj h2,List.take_of_length_le (by simp only[List.length_cons];omega)]
   refine vc ?_;simp only[je.l0,e1,w1,aV,ex];clear e1 w1 ex;rw[o_];refine vp (by omega) (vp (by omega) ?_);by_cases c1:(c.toNat:Int)=34
   ·have hc:=P8.mp c1;refine vp c1 (vp (by omega) (vb (FQ c r (by omega)) ?_));rw[if_neg (by intro hh;exact hb (hh.2.symm.trans hc)),show nq 0 c=1 by rw[hc];rfl]
    cases e:Kv r with
    |none=>rw[WC b r.length r (Nat.le_refl _) e];exact vn (by simp[QN]) (vq (vs _) rfl)
    |some q=>
     obtain⟨w,t⟩:=q;obtain⟨m,h3,h4,h5⟩:=Gs b r.length r w t (Nat.le_refl _) e;have hm:r.length=m.length+t.length:=by rw[h3,List.length_append]
     have:=ih t (p++c:: m) (by omega) (by rw[h2,h3];simp);refine vp rfl ?_;simp only[QN];have w2:wrap64 (((r.length+1-t.length:Nat):Int)-1)=(m.length:Int):=(dA (by omega) (by omega)).trans (by omega);rw[w2];clear w2;have w3:wrap64 ((p.length:Int)+(m.length:Int))=((p.length+m.length:Nat):Int):=(dA (by omega) (by omega)).trans (by omega);rw[w3];clear w3;have w4:wrap64 (((p.length+m.length:Nat):Int)+1)=((p++c:: m).length:Int):=(dA (by omega) (by omega)).trans (by simp only[List.length_append,List.length_cons];omega);rw[w4,h5];clear w4;refine vq this ?_
     cases o_ b 0 t with
     |none=>rfl
     |some x=>simp only[Option.map_some,WG,List.length_append,List.length_cons];omega
   ·refine vn c1 ?_;have hc:¬c=34:=fun hh=>c1 (P8.mpr hh)
    by_cases c2:c=b
    ·rw[if_pos ⟨rfl,c2⟩];exact vp (hbb.mpr c2) (vq (vs _) (by simp[WG]))
    ·rw[if_neg (fun hh=>c2 hh.2),show nq 0 c=0 by simp[nq,hc]];have:=ih r (p++[c]) (by omega) (by rw[h2];simp);rw[List.length_append]at this;refine vn (fun hh=>c2 (hbb.mp hh)) (vq this ?_)
     cases o_ b 0 r with
     |none=>rfl
     |some x=>simp only[Option.map_some,WG,List.length_append,List.length_cons,List.length_nil];omega
theorem Ew(l:Str)(b:UInt8)(hb:b≠34)(hl:l.length≤1048576):Ev (fun k=>je.f k (b_ l) (b.toNat:Int)) (WG 0 (o_ b 0 l)):=Ky l b hb hl l.length l [] (Nat.le_refl _) rfl
theorem Ei(b:UInt8)(hb:b≠34):∀(n:Nat) (s:Str) (acc:List Str),s.length≤n→s.length+acc.length≤1048576→Ev (fun k=>dH.l0 k (b_ s) (b.toNat:Int) (acc.map b_)) ((acc++parts b 0 s).map b_):=by
 intro n
 induction n with
 |zero=>
  intro s acc h h2;have:s=[]:=List.length_eq_zero_iff.mp (by omega);subst this;refine vc ?_;simp only[dH.l0,List.length_map];refine vb (Ew [] b hb (by simp)) (vp (by simp[o_,WG]) (vp (by simp at h2;omega) (vq (vs _) ?_)));simp[parts]
 |succ n ih=>
  intro s acc h h2;refine vc ?_;simp only[dH.l0,List.length_map,aV];refine vb (Ew s b hb (by omega)) ?_;rw[LU]
  cases e:o_ b 0 s with
  |none=>exact vp (by simp[WG]) (vp (by omega) (vq (vs _) (by simp)))
  |some q=>
   obtain⟨x,t⟩:=q;have hs:=abd b s 0 x t e;have hz:s.length=x.length+(t.length+1):=by rw[hs];simp
   have:=ih t (acc++[x]) (by omega) (by simp;omega);have w1:wrap64 ((x.length:Int)+1)=((x.length+1:Nat):Int):=(dA (by omega) (by omega)).trans (by omega);simp only[WG,Nat.zero_add,w1,Int.toNat_natCast,kU,List.drop_zero,Nat.sub_zero];have e1:s.take x.length=x:=by rw[hs,List.take_left]
   have e2:(s.drop (x.length+1)).take (s.length-(x.length+1))=t:=by
    rw[List.take_of_length_le (by simp),hs,←List.drop_drop,List.drop_left];rfl
   rw[e1,e2];clear w1;refine vn (by omega) (vp (by omega) (vp (by omega) (vp (by omega) (vp (by omega) (vp (by omega) (vq (r:=((acc++[x]++parts b 0 t).map b_)) ?_ (by simp)))))))
   simpa using this
theorem FT(s:Str)(hs:s.length≤1048576):Ev (fun k=>dH.f k (b_ s) 59) ((parts 59 0 s).map b_):=by
 have:=Ei 59 (by decide) s.length s [] (Nat.le_refl _) (by simpa using hs);unfold dH.f
 simpa using this
def GN(acc:List Str):Option (List Str)→List ByteArray×Bool
 |none=>([],false)
 |some ws=>((acc++ws).map b_,true)
theorem GR(l:Str)(acc:List Str)(hl:l.length≤1048576)(ha:acc.length≤1048576)(p:Str)(v:List ByteArray×Bool):∀(r a:Str),l=p++(a++r)→a.all uj=true→
  (a++r.takeWhile uj=[]→v=([],false))→
  (a++r.takeWhile uj≠[]→Ev (fun k=>dI.l0 k (b_ l) ((acc++[a++r.takeWhile uj]).map b_) (((p++(a++r.takeWhile uj)).length:Nat):Int) false) v)→
  Ev (fun k=>dI.l1 k (b_ l) (acc.map b_) (p.length:Int) (((p++a).length:Nat):Int)) v:=by
 intro r
 induction r with
 |nil=>
  intro a h h2 h3 h4;have hz:l.length=p.length+a.length:=by rw[h];simp
  have hpa:(p++a).length=p.length+a.length:=by simp
  simp only[List.takeWhile_nil,List.append_nil]at h3 h4;refine vc ?_;simp only[dI.l1,aV,List.length_map];refine vn (by omega) ?_;by_cases e:a=[]
  ·rw[h3 e];subst e;exact vp (by simp) (vs _)
  ·have hne:0<a.length:=List.length_pos_iff.mpr e
   have ex:(b_ l).extract (p.length:Int).toNat (((p++a).length:Nat):Int).toNat=b_ a:=by
    rw[Int.toNat_natCast,Int.toNat_natCast,kU,Aj h,hpa,List.append_nil];rw[List.take_of_length_le (by omega)]
   rw[ex];have:=h4 e;rw[List.map_append,List.map_singleton]at this;exact vn (by omega) (vp (by omega) (vp (by omega) (vp (by omega) (vp (by omega) this))))
 |cons c r ih=>
  intro a h h2 h3 h4;have hz:l.length=p.length+(a.length+(r.length+1)):=by rw[h];simp
  have hpa:(p++a).length=p.length+a.length:=by simp
  have e1:bt (b_ l) (((p++a).length:Nat):Int)=(c.toNat:Int):=jH (l:=l) (p:=p++a) (c:=c) (r:=r) (by rw[h];simp);have w1:wrap64 ((((p++a).length:Nat):Int)+1)=((p++(a++[c])).length:Int):=(dA (by omega) (by omega)).trans (by simp only[List.length_append,List.length_cons,List.length_nil];omega);refine vc ?_;simp only[dI.l1,aV,List.length_map,e1,w1];clear e1 w1;refine vp (by omega) (vp (by omega) (jZ (uM c) ?_))
  cases e:uj c with
  |true=>
   refine vp rfl ?_;have ec:a++(c:: r).takeWhile uj=a++[c]++r.takeWhile uj:=by simp[List.takeWhile,e]
   refine ih (a++[c]) (by rw[h];simp) (by simp[h2,e]) (fun hh=>h3 (by rw[ec];exact hh)) (fun hh=>?_);have:=h4 (by rw[ec];exact hh)
   rwa [ec]at this
  |false=>
   have et:(c:: r).takeWhile uj=[]:=by simp[List.takeWhile,e]
   rw[et,List.append_nil]at h3 h4;refine vn (by simp) ?_;by_cases e:a=[]
   ·rw[h3 e];subst e;exact vp (by simp) (vs _)
   ·have hne:0<a.length:=List.length_pos_iff.mpr e
    have ex:(b_ l).extract (p.length:Int).toNat (((p++a).length:Nat):Int).toNat=b_ a:=by
     rw[Int.toNat_natCast,Int.toNat_natCast,kU,Aj h,hpa,show p.length+a.length-p.length=a.length by omega,List.take_left]
    rw[ex];have:=h4 e;rw[List.map_append,List.map_singleton]at this;exact vn (by omega) (vp (by omega) (vp (by omega) (vp (by omega) (vp (by omega) this))))
theorem BL(p:UInt8→Bool)(l:Str):l.takeWhile p++l.dropWhile p=l:=List.takeWhile_append_dropWhile
theorem FU(l:Str)(hl:l.length≤1048576):∀(n:Nat) (r p:Str) (acc:List Str) (a:Bool),r.length<n→l=p++r→acc.length≤p.length→Ev (fun k=>dI.l0 k (b_ l) (acc.map b_) (p.length:Int) a) (GN acc (Kw n a r)):=by
 intro n
 induction n with
 |zero=>intro r p acc a h;omega
 |succ n ih=>
  intro r p acc a h h2 h3;refine vc ?_
  cases r with
  |nil=>
   rw[List.append_nil]at h2;subst h2;simp only[dI.l0,aV];exact vn (by omega) (vq (vs _) (by simp[Kw,GN]))
  |cons c r=>
   simp only[List.length_cons]at h;have hz:=gJ h2;have e1:=jH h2;have w1:wrap64 ((p.length:Int)+1)=(((p++[c]).length:Nat):Int):=(dA (by omega) (by omega)).trans (by simp);have h32:(c.toNat:Int)=32↔c=32:=uT c 32 (by omega);have P8:(c.toNat:Int)=34↔c=34:=uT c 34 (by omega)
   have ex:(b_ l).extract (p.length:Int).toNat l.length=b_ (c:: r):=by
    rw[Int.toNat_natCast,kU,Aj h2,List.take_of_length_le (by simp only[List.length_cons];omega)]
   simp only[dI.l0,e1,w1,aV,ex,List.length_map];clear e1 w1 ex;rw[Kw];refine vp (by omega) (vp (by omega) ?_);by_cases c1:(c.toNat:Int)=32
   ·rw[if_pos (h32.mp c1)];exact vp c1 (ih r (p++[c]) acc true (by omega) (by rw[h2];simp) (by simp;omega))
   ·rw[if_neg (fun hh=>c1 (h32.mpr hh))];refine vn c1 ?_
    cases a with
    |false=>exact vn (by simp) (vq (vs _) rfl)
    |true=>
     refine vp rfl ?_;rw[if_neg (by simp)];by_cases c2:(c.toNat:Int)=34
     ·rw[if_pos (P8.mp c2)];refine vp c2 (vp (by omega) (vb (FQ c r (by omega)) ?_))
      cases e:Kv r with
      |none=>exact vn (by simp[QN]) (vq (vs _) rfl)
      |some q=>
       obtain⟨w,t⟩:=q;obtain⟨m,h4,h5,_⟩:=Gs 0 r.length r w t (Nat.le_refl _) e;have hm:r.length=m.length+t.length:=by rw[h4,List.length_append]
       have:=ih t (p++c:: m) (acc++[w]) false (by omega) (by rw[h2,h4];simp) (by simp;omega);have w2:wrap64 ((p.length:Int)+((r.length+1-t.length:Nat):Int))=((p++c:: m).length:Int):=(dA (by omega) (by omega)).trans (by simp only[List.length_append,List.length_cons];omega);simp only[QN,List.nil_append,w2];rw[List.map_append,List.map_singleton]at this;refine vp trivial (vp (by omega) (vq this ?_))
       cases Kw n false t with
       |none=>rfl
       |some ws=>simp[GN]
     ·rw[if_neg (fun hh=>c2 (P8.mpr hh))];refine vn c2 ?_;have hsw:=BL uj (c:: r);refine GR l acc hl (by omega) p _ (c:: r) [] h2 rfl (fun hh=>?_) (fun hh=>?_) |>fun hq=>by simpa using hq
      ·rw[List.nil_append]at hh;rw[if_pos hh];rfl
      ·rw[List.nil_append]at hh⊢;rw[if_neg hh];have hne:0<((c:: r).takeWhile uj).length:=List.length_pos_iff.mpr hh
       have hlen:((c:: r).takeWhile uj).length+((c:: r).dropWhile uj).length=r.length+1:=by
        have:=congrArg List.length hsw
        rwa [List.length_append,List.length_cons]at this
       have:=ih ((c:: r).dropWhile uj) (p++(c:: r).takeWhile uj) (acc++[(c:: r).takeWhile uj]) false (by omega) (by rw[List.append_assoc,hsw];exact h2) (by simp only[List.length_append,List.length_cons,List.length_nil];omega);refine vq this ?_
       cases Kw n false ((c:: r).dropWhile uj)with
       |none=>rfl
       |some ws=>simp[GN]
theorem Ak(l:Str)(hl:l.length≤1048576)(ht:kM l=true):Ev (fun k=>dI.f k (b_ l)) (GN [] (words l)):=by
 unfold dI.f;refine vb (nR l (by omega)) (vp ht ?_);exact FU l hl (l.length+1) l [] [] true (by omega) rfl (by simp)
def Nv:Option (Str×Str×List (Str×Str))→ByteArray×ByteArray×List jl×Bool
 |none=>(b_ [],b_ [],[],false)
 |some x=>(b_ x.1,b_ x.2.1,x.2.2.map sV,true)
theorem Ey(l:Str)(hl:l.length≤1048576):jm.f (b_ l) ⟨#[32]⟩=some (b_ (trim l)):=by
 unfold jm.f;rw[if_pos rfl,if_pos (by rw[aV];omega)];rfl
def FV(s:Str):Option (Str×Str)→ByteArray×ByteArray×Bool
 |none=>(b_ s,b_ [],false)
 |some x=>(b_ x.1,b_ x.2,true)
theorem FW(b:UInt8)(l:Str)(hl:l.length≤1048576):strings_Cut.f (b_ l) ⟨#[b]⟩=some (FV l (wI b l)):=by
 unfold strings_Cut.f;rw[if_pos (by rw[aV];omega)];have e:Lib.cut (b_ l).data.toList (⟨#[b]⟩:ByteArray).data.toList=Lib.cut l [b]:=rfl;rw[e,arC]
 cases wI b l with
 |none=>rfl
 |some x=>rfl
theorem WH{b:UInt8}{s x t:Str}(h:wI b s=some (x,t)):s.length=x.length+t.length+1:=by
 rw[UN b s x t h];simp;omega
theorem Qb{s t:Str}(h:kM s=true)(hl:t.length≤s.length)(hm:∀c∈t,c∈s):kM t=true:=by
 unfold kM at*;simp only[Bool.and_eq_true,List.all_eq_true,decide_eq_true_iff]at*;exact⟨fun c hc=>h.1 c (hm c hc),by omega⟩
theorem aix:∀(n:Nat) (a:Bool) (s:Str) (ws:List Str),Kw n a s=some ws→∀w∈ws,w.length≤s.length:=by
 intro n
 induction n with
 |zero=>intro a s ws h;cases h
 |succ n ih=>
  intro a s ws h
  cases s with
  |nil=>simp only[Kw,Option.some.injEq]at h;subst h;simp
  |cons c r=>
   rw[Kw]at h;split at h
   ·intro w hw;have:=ih _ _ _ h w hw;simp only[List.length_cons];omega
   ·split at h
    ·cases h
    ·split at h
     ·cases e:Kv r with
      |none=>rw[e]at h;cases h
      |some q=>
       obtain⟨w1,t⟩:=q;obtain⟨m,h4,h5,_⟩:=Gs 0 r.length r w1 t (Nat.le_refl _) e;have hm:r.length=m.length+t.length:=by rw[h4,List.length_append]
       rw[e]at h;simp only[Option.map_eq_some_iff]at h;obtain⟨v,e1,rfl⟩:=h;intro w hw;simp only[List.length_cons];rcases List.mem_cons.mp hw with rfl|hw
       ·omega
       ·have:=ih _ _ _ e1 w hw;omega
     ·split at h
      ·cases h
      ·simp only[Option.map_eq_some_iff]at h;obtain⟨v,e1,rfl⟩:=h;have hlen:=congrArg List.length (BL uj (c:: r));rw[List.length_append]at hlen;intro w hw;rcases List.mem_cons.mp hw with rfl|hw
       ·omega
       ·have:=ih _ _ _ e1 w hw;omega
theorem RQ{s:Str}{ws:List Str}(h:words s=some ws):∀w∈ws,w.length≤s.length:=aix _ _ _ _ h
def fin1(ok:Bool)(m u:Str)(ps:List (Str×Str)):Option (Str×Str×List (Str×Str)):=if ok=true∧sU m u ps=true then some (m,u,ps)else none
def Nw(ok:Bool)(m u:Str)(q:List (Str×Str)):Option (List (Str×Str))→Option (Str×Str×List (Str×Str))
 |none=>none
 |some ps=>fin1 ok m u (q++ps)
theorem RU(ok:Bool)(m u:Str)(q:List (Str×Str))(x:Str×Str)(o:Option (List (Str×Str))):Nw ok m u q (o.map (x:: ·))=Nw ok m u (q++[x]) o:=by
 cases o with
 |none=>rfl
 |some ps=>simp[Nw]
theorem Ij(ok:Bool)(m u:Str)(ps:List (Str×Str))(hm:m.length≤1048576)(hu:u.length≤1048576)(hz:Dj ps≤1048576)(hn:ps.length≤1048576):
  Ev (fun k=>if ok=true then((bJ.f k (b_ m) (b_ u) (ps.map sV)).bind fun t=>(if t=true then(some (b_ m,b_ u,ps.map sV,true))else(some ((⟨#[]⟩:ByteArray),(⟨#[]⟩:ByteArray),([]:List jl),false))))else(some ((⟨#[]⟩:ByteArray),(⟨#[]⟩:ByteArray),([]:List jl),false))) (Nv (fin1 ok m u ps)):=by
 cases ok with
 |false=>exact vn (by simp) (vq (vs _) (by unfold fin1;rw[if_neg (by simp)];rfl))
 |true=>
  refine vp rfl (vb (BI m u ps hm hu hz hn) ?_)
  cases e:sU m u ps with
  |true=>exact vp rfl (vq (vs _) (by unfold fin1;rw[if_pos ⟨rfl,e⟩];rfl))
  |false=>exact vn (by simp) (vq (vs _) (by unfold fin1;rw[if_neg (by simp[e])];rfl))
theorem yO(ok:Bool)(xs:List Str)(m u:Str)(hx:xs.length≤1000)(ht:∀x∈xs,kM x=true)(hm:m.length≤1048576)(hu:u.length≤1048576):∀(r p:List Str) (q:List (Str×Str)),xs=p++r→q.length≤p.length→Dj q≤400*q.length→
  Ev (fun k=>bW.l0 k ok (xs.map b_) (xs.length:Int) (p.length:Int) (b_ m) (b_ u) (q.map sV)) (Nv (Nw ok m u q (Qa r))):=by
 intro r
 induction r with
 |nil=>
  intro p q h hq hz;rw[List.append_nil]at h;subst h;refine vc ?_;simp only[bW.l0];refine vn (by omega) ?_;have:=Ij ok m u q hm hu (by omega) (by omega)
  simpa [Qa,Nw] using this
 |cons c r ih=>
  intro p q h hq hz;have hz2:=gJ h;have e1:=uz h;have htc:=ht c (by rw[h];simp);have hcl:=Ie htc;have w1:wrap64 ((p.length:Int)+1)=((p++[c]).length:Int):=(dA (by omega) (by omega)).trans (by simp);have hcut:=FW 61 c (by omega);refine vc ?_;simp only[bW.l0,e1,hcut,List.length_map,Option.bind_some];clear e1 hcut
  have hbad:∀(x11:ByteArray) (x14:List ByteArray),Ev (fun k=>bW.j1 k ok x11 x14 (xs.map b_) (xs.length:Int) (p.length:Int) true (b_ m) (b_ u) (q.map sV)) (Nv none):=by
   intro x11 x14;refine vc ?_;simp only[bW.j1];exact vp trivial (vs _)
  refine vp (by omega) (vp (by omega) (vp (by omega) ?_))
  cases e:wI 61 c with
  |none=>
   simp only[FV];refine vb (Ak [] (by simp) (by decide)) (vn (by simp) (vq (hbad _ _) ?_));rw[Qa,Ii,e];rfl
  |some x=>
   obtain⟨n,v⟩:=x;have hlen:=WH e;have hvs:kM v=true:=Qb htc (by omega) (fun d hd=>by rw[UN 61 c n v e];simp[hd]);simp only[FV];refine vb (Ak v (by omega) hvs) (vp trivial ?_)
   cases e2:words v with
   |none=>
    refine vn (by simp[GN]) (vq (hbad _ _) ?_);rw[Qa,Ii,e];simp only[e2];rfl
   |some ws=>
    simp only[GN,List.nil_append];refine vp trivial ?_;by_cases h1:ws.length=1
    ·obtain⟨w,rfl⟩:=List.length_eq_one_iff.mp h1;have hwl:=RQ e2 w (by simp);have hnl:=C9 n;have e3:Ii c=some (low (trim n),w):=by rw[Ii,e];simp only[e2]
     have:=ih (p++[c]) (q++[(low (trim n),w)]) (by rw[h];simp) (by simp;omega) (by rw[Ef];simp only[Dj,List.length_append,List.length_cons,List.length_nil,BH];omega);have ht:=Ey n (by omega);have hl:=kS (trim n) (by omega);refine vc ?_;simp only[bW.j1,List.map_cons,List.map_nil,List.length_cons,List.length_nil,ht,hl,w1,Option.bind_some,List.length_map];clear w1 ht hl;refine vn (by simp) (vp (by omega) (vp (by omega) ?_));rw[Qa,e3];simp only;rw[RU];rw[List.map_append]at this;exact this
    ·have e4:((((ws.map b_).length:Nat):Int) !=1)=true:=by
      rw[List.length_map];simp only[bne_iff_ne,ne_eq];omega
     rw[e4];refine vq (hbad _ _) ?_
     have e3:Ii c=none:=by
      rw[Ii,e];simp only[e2]
      match ws,h1 with
      |[],_=>rfl
      |[w],h1=>exact absurd rfl h1
      |_:: _:: _,_=>rfl
     rw[Qa,e3];rfl
theorem abe(o:Option (Str×Str))(ps:Option (List (Str×Str)))(s:Str):pkO o ps=Nw (FV s o).2.2 (match o with
  |none=>low s
  |some x=>low x.1) (match o with
  |none=>[]
  |some x=>low x.2) [] ps:=by
 cases o with
 |none=>cases ps with
  |none=>rfl
  |some p=>simp[pkO,Nw,fin1,FV]
 |some x=>cases ps with
  |none=>rfl
  |some p=>simp[pkO,Nw,fin1,FV]
theorem Kz(s:Str)(hs:s.length≤1048576):Ev (fun k=>bW.f k (b_ s)) (Nv (pk s)):=by
 unfold bW.f pk;refine vb (nR s (by omega)) ?_
 cases et:kM s with
 |false=>exact vn (by simp) (vq (vs _) rfl)
 |true=>
  refine vp rfl (vb (FT s hs) ?_);rw[if_pos rfl];have hpl:=RN 59 s 0;have hpm:=ab7 59 s 0;have hsl:=Ie et
  generalize parts 59 0 s=xs at hpl hpm⊢
  cases xs with
  |nil=>simp at hpl
  |cons h0 r=>
   have hh:=hpm h0 (by simp);have htl:=C9 h0;have e0:kV ByteArray.empty (b_ h0:: r.map b_) 0=b_ h0:=rfl;have et:=Ey h0 (by omega);have ec:=FW 47 (trim h0) (by omega);have hr:r.length≤1000:=by simp only[List.length_cons]at hpl;omega
   simp only[e0,et,ec,List.length_map,List.length_cons,Option.bind_some,List.drop_one,List.map_cons,List.tail_cons,List.headD_cons];rw[abe _ _ (trim h0)]
   have htv:∀x∈r,kM x=true:=fun x hx=>by
    have:=hpm x (by simp[hx]);exact Qb (by assumption) this.1 this.2
   cases e:wI 47 (trim h0)with
   |none=>
    simp only[FV];have l1:=kS (trim h0) (by omega);have l2:=kS [] (by simp);have:=yO false r (low (trim h0)) (low []) hr htv (by rw[BH];omega) (by simp[low]) r [] [] rfl (by simp) (by simp[Dj]);simp only[l1,l2,Option.bind_some];refine vp (by omega) (vp (by omega) ?_)
    simpa [low] using this
   |some x=>
    obtain⟨a,b⟩:=x;have hlen:=WH e;simp only[FV];have l1:=kS a (by omega);have l2:=kS b (by omega);have:=yO true r (low a) (low b) hr htv (by rw[BH];omega) (by rw[BH];omega) r [] [] rfl (by simp) (by simp[Dj]);simp only[l1,l2,Option.bind_some];refine vp (by omega) (vp (by omega) ?_)
    simpa using this
theorem aiy(c:UInt8):UM c=true→c≠34∧c≠59∧c≠47∧c≠61∧c≠32∧okB c=true:=by
 revert c
 exact UL (by decide+kernel)
theorem afo{l:Str}(h:GI l=true):∀c∈l,UM c=true:=by
 unfold GI at h;simp only[Bool.and_eq_true,List.all_eq_true]at h;exact h.2
theorem YN{l:Str}(h:isSmall l=true):GI l=true∧low l=l:=by
 unfold isSmall at h
 simpa using h
def avT(x:Str)(l:List Str):List Str:=x.foldr hd1 l
def Pass(b:UInt8)(x:Str):Prop:=∀t,parts b 0 (x++t)=avT x (parts b 0 t)
def seg(p:Str×Str):Str:=32:: (p.1++[61]++qw p.2)
theorem abf:∀(ps q:List (Str×Str)),kfl q ps=true→∀p∈ps,isSmall p.1=true∧kM p.2=true∧p.2.length≤40:=by
 intro ps
 induction ps with
 |nil=>intro q h p hp;cases hp
 |cons c r ih=>
  intro q h p hp;rw[kfl]at h;simp only[Bool.and_eq_true,decide_eq_true_iff]at h;rcases List.mem_cons.mp hp with rfl|hp
  ·exact⟨h.1.1.1,h.1.1.2.1,h.1.1.2.2⟩
  ·exact ih _ h.2 p hp
theorem KA{a b:Str}{ps:List (Str×Str)}(h:sU a b ps=true):isSmall a=true∧isSmall b=true∧ps.length≤4∧kfl [] ps=true∧(Kr a b ps).length≤150:=by
 unfold sU at h;simp only[Bool.and_eq_true,decide_eq_true_iff]at h;obtain⟨⟨⟨⟨h1,h2⟩,h3⟩,h4⟩,h5⟩:=h;exact⟨h1,h2,by omega,h4,h5⟩
theorem afp{s a b:Str}{ps:List (Str×Str)}(h:pk s=some (a,b,ps)):sU a b ps=true:=by
 unfold pk at h;split at h
 ·unfold pkO at h;split at h
  ·split at h
   ·rename_i hk
    cases h;exact hk
   ·cases h
  ·cases h
 ·cases h
def QO(L:Nat)(acc:Str):Option (Str×Str)→ByteArray×Int
 |none=>(b_ [],-1)
 |some q=>(b_ (acc++q.1),((L-q.2.length:Nat):Int))
theorem RV{l p r:Str}{c:UInt8}(h:l=p++c:: r):(l.drop p.length).take (p.length+1-p.length)=[c]:=by
 rw[Aj h,show p.length+1-p.length=1 by omega];rfl
theorem LW(l:Str)(hl:l.length≤1048576):∀(n:Nat) (r p acc:Str),r.length≤n→l=p++r→acc.length≤p.length→Ev (fun k=>fH.l0 k (b_ l) (b_ acc) (p.length:Int)) (QO l.length acc (Kv r)):=by
 intro n
 induction n with
 |zero=>
  intro r p acc h h2 h3;have:r=[]:=List.length_eq_zero_iff.mp (by omega);subst this;rw[List.append_nil]at h2;subst h2;refine vc ?_;simp only[fH.l0,aV];exact vn (by omega) (vq (vs _) rfl)
 |succ n ih=>
  intro r p acc h h2 h3
  cases r with
  |nil=>
   rw[List.append_nil]at h2;subst h2;refine vc ?_;simp only[fH.l0,aV];exact vn (by omega) (vq (vs _) rfl)
  |cons c r=>
   simp only[List.length_cons]at h;have hz:=gJ h2;have e1:=jH h2;have w1:wrap64 ((p.length:Int)+1)=((p.length+1:Nat):Int):=(dA (by omega) (by omega)).trans (by omega);have P8:(c.toNat:Int)=34↔c=34:=uT c 34 (by omega);have h92:(c.toNat:Int)=92↔c=92:=uT c 92 (by omega);have e4:=RV h2;refine vc ?_;simp only[fH.l0,e1,w1,aV,Int.toNat_natCast,kU,e4,nV];clear e1 w1 e4;rw[CZ];refine vp (by omega) (vp (by omega) ?_);by_cases c1:(c.toNat:Int)=34
   ·refine vp c1 (vq (vs _) ?_);rw[if_pos (P8.mp c1),QO,show l.length-r.length=p.length+1 by omega];simp
   ·refine vn c1 ?_;rw[if_neg (fun hh=>c1 (P8.mpr hh))];by_cases c2:(c.toNat:Int)=92
    ·refine vp c2 ?_;rw[if_pos (h92.mp c2)]
     cases r with
     |nil=>
      simp only[List.length_nil]at hz;exact vp (by omega) (vq (vs _) rfl)
     |cons d r=>
      simp only[List.length_cons]at h hz;have w2:wrap64 (((p.length+1:Nat):Int)+1)=((p.length+2:Nat):Int):=(dA (by omega) (by omega)).trans (by omega);have hd:l=(p++[c])++d:: r:=by rw[h2];simp
      have e5:(l.drop (p.length+1)).take (p.length+2-(p.length+1))=[d]:=by
       have:=RV hd
       rwa [List.length_append]at this
      have:=ih r (p++[c,d]) (acc++[d]) (by omega) (by rw[h2];simp) (by simp;omega);rw[List.length_append]at this;rw[w2,Int.toNat_natCast,e5];clear w2 e5;refine vn (by omega) (vp (by omega) (vp (by omega) (vp (by omega) (vp (by simp only[List.length_cons,List.length_nil];omega) (vq this ?_)))))
      show _=QO l.length acc ((Kv r).map fun q=>(d:: q.1,q.2))
      cases Kv r with
      |none=>rfl
      |some q=>simp[QO]
    ·refine vn c2 ?_;rw[if_neg (fun hh=>c2 (h92.mpr hh))];have:=ih r (p++[c]) (acc++[c]) (by omega) (by rw[h2];simp) (by simp;omega);rw[List.length_append]at this;refine vp (by omega) (vp (by omega) (vp (by simp only[List.length_cons,List.length_nil];omega) (vq this ?_)))
     cases Kv r with
     |none=>rfl
     |some q=>simp[QO]
theorem FX{l p r:Str}{c:UInt8}(h:l=p++c:: r)(hl:l.length≤1048576):Ev (fun k=>fH.f k (b_ l) (p.length:Int)) (QO l.length [] (Kv r)):=by
 have hz:=gJ h;have:=LW l hl r.length r (p++[c]) [] (Nat.le_refl _) (by rw[h];simp) (by simp);have w1:wrap64 ((p.length:Int)+1)=((p++[c]).length:Int):=(dA (by omega) (by omega)).trans (by simp);unfold fH.f;rw[w1];exact this
def abg(s p:Str):Option (Str×Str)→ByteArray×ByteArray×Bool
 |none=>(b_ s,b_ [],false)
 |some x=>(b_ (p++x.1),b_ x.2,true)
theorem Nz(l:Str)(b:UInt8)(hb:b≠34)(hl:l.length≤1048576):∀(n:Nat) (r p:Str),r.length≤n→l=p++r→Ev (fun k=>iw.l0 k (b_ l) (b.toNat:Int) (p.length:Int)) (abg l p (o_ b 0 r)):=by
 intro n
 induction n with
 |zero=>
  intro r p h h2;have:r=[]:=List.length_eq_zero_iff.mp (by omega);subst this;rw[List.append_nil]at h2;subst h2;refine vc ?_;simp only[iw.l0,aV];exact vn (by omega) (vq (vs _) rfl)
 |succ n ih=>
  intro r p h h2
  cases r with
  |nil=>
   rw[List.append_nil]at h2;subst h2;refine vc ?_;simp only[iw.l0,aV];exact vn (by omega) (vq (vs _) rfl)
  |cons c r=>
   simp only[List.length_cons]at h;have hz:=gJ h2;have e1:=jH h2;have w1:wrap64 ((p.length:Int)+1)=((p.length+1:Nat):Int):=(dA (by omega) (by omega)).trans (by omega);have P8:(c.toNat:Int)=34↔c=34:=uT c 34 (by omega);have hbb:=afn c b;have x1:(l.drop 0).take (p.length-0)=p:=by rw[List.drop_zero,Nat.sub_zero,h2,List.take_left]
   have x2:(l.drop (p.length+1)).take (l.length-(p.length+1))=r:=by
    rw[List.take_of_length_le (by simp),h2,←List.drop_drop,List.drop_left];rfl
   refine vc ?_;simp only[iw.l0,e1,w1,aV,Int.toNat_natCast,kU,x1,x2];clear e1 w1 x1 x2;rw[o_];refine vp (by omega) (vp (by omega) ?_);by_cases c1:(c.toNat:Int)=34
   ·have hc:=P8.mp c1;refine vp c1 (vb (FX h2 hl) ?_);rw[if_neg (show¬((0:Nat)=0∧c=b)from fun hh=>hb (hh.2.symm.trans hc)),show nq 0 c=1 by rw[hc];rfl]
    cases e:Kv r with
    |none=>rw[WC b r.length r (Nat.le_refl _) e];exact vp (by simp[QO]) (vq (vs _) rfl)
    |some q=>
     obtain⟨w,t⟩:=q;obtain⟨m,h3,h4,h5⟩:=Gs b r.length r w t (Nat.le_refl _) e;have hm:r.length=m.length+t.length:=by rw[h3,List.length_append]
     have:=ih t (p++c:: m) (by omega) (by rw[h2,h3];simp);have ei:l.length-t.length=(p++c:: m).length:=by simp only[List.length_append,List.length_cons];omega
     simp only[QO,ei];refine vn (by omega) ?_;rw[h5];refine vq this ?_
     cases o_ b 0 t with
     |none=>rfl
     |some x=>simp[abg]
   ·refine vn c1 ?_;have hc:¬c=34:=fun hh=>c1 (P8.mpr hh)
    by_cases c2:c=b
    ·rw[if_pos (show(0:Nat)=0∧c=b from⟨rfl,c2⟩)];exact vp (hbb.mpr c2) (vp (by omega) (vp (by omega) (vp (by omega) (vq (vs _) (by simp[abg])))))
    ·rw[if_neg (show¬((0:Nat)=0∧c=b)from fun hh=>c2 hh.2),show nq 0 c=0 by simp[nq,hc]];have:=ih r (p++[c]) (by omega) (by rw[h2];simp);rw[List.length_append]at this;refine vn (fun hh=>c2 (hbb.mp hh)) (vq this ?_)
     cases o_ b 0 r with
     |none=>rfl
     |some x=>simp[abg]
theorem xJ(l:Str)(b:UInt8)(hb:b≠34)(hl:l.length≤1048576):Ev (fun k=>iw.f k (b_ l) (b.toNat:Int)) (FV l (o_ b 0 l)):=by
 refine vq (Nz l b hb hl l.length l [] (Nat.le_refl _) rfl) ?_;cases o_ b 0 l<;>rfl
def RX(l:Str):Str:=(l.reverse.dropWhile (·==32)).reverse
theorem YO(l:Str)(c:UInt8):RX (l++[c])=if c=32 then RX l else l++[c]:=by
 unfold RX;rw[List.reverse_append,List.reverse_singleton,List.singleton_append,List.dropWhile];by_cases h:c=32
 ·simp[h]
 ·rw[show(c==32)=false by simp[h]];simp[h]
theorem BM:∀(n:Nat) (s:Str),s.length≤n→s.length≤1048576→Ev (fun k=>bZ.l1 k (b_ s)) (b_ (RX s)):=by
 intro n
 induction n with
 |zero=>
  intro s h _;have:s=[]:=List.length_eq_zero_iff.mp (by omega);subst this;refine vc ?_;simp only[bZ.l1,aV];exact vn (by simp) (vq (vs _) rfl)
 |succ n ih=>
  intro s h hl;rcases List.eq_nil_or_concat s with rfl|⟨p,c,rfl⟩
  ·refine vc ?_;simp only[bZ.l1,aV];exact vn (by simp) (vq (vs _) rfl)
  ·rw[List.concat_eq_append]at*;simp only[List.length_append,List.length_cons,List.length_nil]at h hl;have hz:(p++[c]).length=p.length+1:=by simp
   have e1:=jH (l:=p++[c]) (p:=p) (c:=c) (r:=[]) rfl;have w1:wrap64 (((p++[c]).length:Int)-1)=((p.length:Nat):Int):=(dA (by omega) (by omega)).trans (by omega);have h32:(c.toNat:Int)=32↔c=32:=uT c 32 (by omega);have x1:((p++[c]).drop 0).take (p.length-0)=p:=by rw[List.drop_zero,Nat.sub_zero,List.take_left]
   refine vc ?_;simp only[bZ.l1,aV,w1,e1,Int.toNat_natCast,kU,x1];clear e1 w1 x1;rw[YO];refine vp (by omega) (vp (by omega) (vp (by omega) ?_));by_cases c1:(c.toNat:Int)=32
   ·rw[if_pos (h32.mp c1)];exact vp c1 (vp (by omega) (ih p (by omega) (by omega)))
   ·rw[if_neg (fun hh=>c1 (h32.mpr hh))];exact vn c1 (vs _)
theorem UO(c:UInt8)(r:Str)(h:c≠32):trim (c:: r)=RX (c:: r):=by
 unfold trim Lib.trimB Lib.trimLeftB Lib.trimRightB RX;obtain⟨m,h1,h2⟩:=Ce (·==32) (c:: r).reverse;have h3:=congrArg List.reverse h1;rw[List.reverse_reverse,List.reverse_append]at h3
 cases e:((c:: r).reverse.dropWhile (·==32)).reverse with
 |nil=>
  rw[e,List.nil_append]at h3
  have:c∈m:=by
   have:c∈m.reverse:=by rw[←h3];simp
   exact List.mem_reverse.mp this
  exact absurd (by simpa using h2 c this) h
 |cons d u=>
  rw[e]at h3;injection h3 with h4 h5;subst h4;rw[List.dropWhile,show(c==32)=false by simp[h]]
theorem qy(s:Str)(hl:s.length≤1048576):Ev (fun k=>bZ.f k (b_ s)) (b_ (trim s)):=by
 unfold bZ.f
 induction s with
 |nil=>
  refine vc ?_;simp only[bZ.l0,aV];refine vn (by simp) (vc ?_);simp only[bZ.j1];exact BM 0 [] (by simp) (by simp)
 |cons c r ih=>
  simp only[List.length_cons]at hl;have hz:(c:: r).length=r.length+1:=rfl;have h32:(c.toNat:Int)=32↔c=32:=uT c 32 (by omega);have x1:((c:: r).drop 1).take ((c:: r).length-1)=r:=by rw[List.drop_one,List.tail_cons,hz,List.take_of_length_le (by omega)]
  refine vc ?_;simp only[bZ.l0,aV,aa8,kU,x1];clear x1;refine vp (by omega) (vp (by omega) ?_);by_cases c1:(c.toNat:Int)=32
  ·rw[h32.mp c1,RP];exact vp (by decide) (vp (by simp;omega) (ih (by omega)))
  ·rw[UO c r (fun hh=>c1 (h32.mpr hh))];refine vn c1 (vc ?_);simp only[bZ.j1];exact BM (r.length+1) (c:: r) (by simp) (by simp;omega)
theorem LX(n:Nat)(s:Str)(h:s.length<n):Kw n false s=if s=[]∨s.head? =some 32 then Kw n true s else none:=by
 obtain⟨n,rfl⟩:∃m,n=m+1:=⟨n-1,by omega⟩
 cases s with
 |nil=>rw[if_pos (Or.inl rfl)];rfl
 |cons c r=>
  by_cases c1:c=32
  ·rw[if_pos (Or.inr (by rw[c1];rfl)),Kw,Kw,if_pos c1,if_pos c1]
  ·rw[if_neg (by simp[c1]),Kw,if_neg c1,if_pos rfl]
theorem LY(l:Str)(acc:List Str)(hl:l.length≤1048576)(ha:acc.length≤1048576)(p:Str)(v:List ByteArray×Bool):∀(r a:Str),l=p++(a++r)→a.all uj=true→
  (a++r.takeWhile uj=[]→v=([],false))→
  (a++r.takeWhile uj≠[]→¬(r.dropWhile uj=[]∨(r.dropWhile uj).head? =some 32)→v=([],false))→
  (a++r.takeWhile uj≠[]→(r.dropWhile uj=[]∨(r.dropWhile uj).head? =some 32)→Ev (fun k=>eu.l0 k (b_ l) ((acc++[a++r.takeWhile uj]).map b_) (((p++(a++r.takeWhile uj)).length:Nat):Int)) v)→
  Ev (fun k=>eu.l1 k (b_ l) (acc.map b_) (((p++a).length:Nat):Int) (p.length:Int)) v:=by
 intro r
 induction r with
 |nil=>
  intro a h h2 h3 h4 h5;have hz:l.length=p.length+a.length:=by rw[h];simp
  have hpa:(p++a).length=p.length+a.length:=by simp
  simp only[List.takeWhile_nil,List.append_nil,List.dropWhile_nil]at h3 h4 h5;refine vc ?_;simp only[eu.l1,aV,List.length_map];refine vn (by omega) (vp (by omega) (vp (by omega) (vp (by omega) ?_)));by_cases e:a=[]
  ·rw[h3 e];subst e;exact vp (by simp) (vs _)
  ·have hne:0<a.length:=List.length_pos_iff.mpr e
   have ex:(b_ l).extract (p.length:Int).toNat (((p++a).length:Nat):Int).toNat=b_ a:=by
    rw[Int.toNat_natCast,Int.toNat_natCast,kU,Aj h,hpa,List.append_nil];rw[List.take_of_length_le (by omega)]
   rw[ex];have:=h5 e (by simp);rw[List.map_append,List.map_singleton]at this;exact vn (by omega) (vp (by omega) this)
 |cons c r ih=>
  intro a h h2 h3 h4 h5;have hz:l.length=p.length+(a.length+(r.length+1)):=by rw[h];simp
  have hpa:(p++a).length=p.length+a.length:=by simp
  have e1:bt (b_ l) (((p++a).length:Nat):Int)=(c.toNat:Int):=jH (l:=l) (p:=p++a) (c:=c) (r:=r) (by rw[h];simp);have w1:wrap64 ((((p++a).length:Nat):Int)+1)=((p++(a++[c])).length:Int):=(dA (by omega) (by omega)).trans (by simp only[List.length_append,List.length_cons,List.length_nil];omega);have h32:(c.toNat:Int)=32↔c=32:=uT c 32 (by omega);refine vc ?_;simp only[eu.l1,aV,List.length_map,e1,w1];clear e1 w1;refine vp (by omega) (vp (by omega) (vb (Ad c) ?_))
  cases e:uj c with
  |true=>
   refine vp rfl ?_;have ec:a++(c:: r).takeWhile uj=a++[c]++r.takeWhile uj:=by simp[List.takeWhile,e]
   have ed:(c:: r).dropWhile uj=r.dropWhile uj:=by simp[List.dropWhile,e]
   rw[ec]at h3;rw[ec,ed]at h4;rw[ec,ed]at h5;exact ih (a++[c]) (by rw[h];simp) (by simp[h2,e]) h3 h4 h5
  |false=>
   have et:(c:: r).takeWhile uj=[]:=by simp[List.takeWhile,e]
   have ed:(c:: r).dropWhile uj=c:: r:=by simp[List.dropWhile,e]
   rw[et,List.append_nil]at h3;rw[et,ed,List.append_nil]at h4;rw[et,ed,List.append_nil]at h5;refine vn (by simp) (vp (by omega) (vp (by omega) (vp (by omega) ?_)));by_cases e:a=[]
   ·rw[h3 e];subst e;exact vp (by simp) (vs _)
   ·have hne:0<a.length:=List.length_pos_iff.mpr e
    have ex:(b_ l).extract (p.length:Int).toNat (((p++a).length:Nat):Int).toNat=b_ a:=by
     rw[Int.toNat_natCast,Int.toNat_natCast,kU,Aj h,hpa,show p.length+a.length-p.length=a.length by omega,List.take_left]
    rw[ex];refine vn (by omega) ?_;by_cases c1:(c.toNat:Int)=32
    ·have:=h5 e (Or.inr (by rw[h32.mp c1];rfl));rw[List.map_append,List.map_singleton]at this;exact vp c1 (vp (by omega) this)
    ·rw[h4 e (by simp only[List.head?_cons,Option.some.injEq,reduceCtorEq,false_or];exact fun hh=>c1 (h32.mpr hh))];exact vn c1 (vs _)
theorem KC(l:Str)(hl:l.length≤1048576):∀(n:Nat) (r p:Str) (acc:List Str),r.length<n→l=p++r→acc.length≤p.length→Ev (fun k=>eu.l0 k (b_ l) (acc.map b_) (p.length:Int)) (GN acc (Kw n true r)):=by
 intro n
 induction n with
 |zero=>intro r p acc h;omega
 |succ n ih=>
  intro r p acc h h2 h3;refine vc ?_
  cases r with
  |nil=>
   rw[List.append_nil]at h2;subst h2;simp only[eu.l0,aV];exact vn (by omega) (vq (vs _) (by simp[Kw,GN]))
  |cons c r=>
   simp only[List.length_cons]at h;have hz:=gJ h2;have e1:=jH h2;have w1:wrap64 ((p.length:Int)+1)=(((p++[c]).length:Nat):Int):=(dA (by omega) (by omega)).trans (by simp);have h32:(c.toNat:Int)=32↔c=32:=uT c 32 (by omega);have P8:(c.toNat:Int)=34↔c=34:=uT c 34 (by omega);simp only[eu.l0,e1,w1,aV,List.length_map];clear e1 w1;rw[Kw];refine vp (by omega) (vp (by omega) ?_);by_cases c1:(c.toNat:Int)=32
   ·rw[if_pos (h32.mp c1)];exact vp c1 (ih r (p++[c]) acc (by omega) (by rw[h2];simp) (by simp;omega))
   ·rw[if_neg (fun hh=>c1 (h32.mpr hh)),if_neg (by simp)];refine vn c1 ?_;by_cases c2:(c.toNat:Int)=34
    ·rw[if_pos (P8.mp c2)];refine vp c2 (vb (FX h2 hl) ?_)
     cases e:Kv r with
     |none=>exact vp (by simp[QO]) (vq (vs _) rfl)
     |some q=>
      obtain⟨w,t⟩:=q;obtain⟨m,h4,h5,_⟩:=Gs 0 r.length r w t (Nat.le_refl _) e;have hm:r.length=m.length+t.length:=by rw[h4,List.length_append]
      have hpm:(p++c:: m).length=p.length+m.length+1:=by simp only[List.length_append,List.length_cons];omega
      have ei:l.length-t.length=(p++c:: m).length:=by omega
      have:=ih t (p++c:: m) (acc++[w]) (by omega) (by rw[h2,h4];simp) (by simp;omega);rw[List.map_append,List.map_singleton]at this;simp only[QO,ei,List.nil_append];rw[LX n t (by omega)];refine vn (by omega) (vn (by omega) ?_)
      cases t with
      |nil=>
       rw[if_pos (Or.inl rfl)];simp only[List.length_nil]at hm ei;refine vn (by omega) (vp (by omega) (vq this ?_))
       cases Kw n true []with
       |none=>rfl
       |some ws=>simp[GN]
      |cons d t=>
       have e2:bt (b_ l) ((p++c:: m).length:Int)=(d.toNat:Int):=jH (l:=l) (p:=p++c:: m) (c:=d) (r:=t) (by rw[h2,h4];simp);have h32:(d.toNat:Int)=32↔d=32:=uT d 32 (by omega);simp only[List.length_cons]at hm;rw[e2];clear e2;refine vp (by omega) (vp (by omega) ?_);by_cases c3:(d.toNat:Int)=32
       ·rw[if_pos (Or.inr (by rw[h32.mp c3];rfl))];refine vp c3 (vp (by omega) (vq this ?_))
        cases Kw n true (d:: t)with
        |none=>rfl
        |some ws=>simp[GN]
       ·rw[if_neg (by simp only[List.head?_cons,Option.some.injEq,reduceCtorEq,false_or];exact fun hh=>c3 (h32.mpr hh))];exact vn c3 (vq (vs _) rfl)
    ·rw[if_neg (fun hh=>c2 (P8.mpr hh))];refine vn c2 ?_;have hsw:=BL uj (c:: r);have hlen:=congrArg List.length hsw;rw[List.length_append,List.length_cons]at hlen;have key:=LY l acc hl (by omega) p (GN acc (if(c:: r).takeWhile uj=[]then none else(Kw n false ((c:: r).dropWhile uj)).map ((c:: r).takeWhile uj:: ·))) (c:: r) [] h2 rfl (fun hh=>by rw[List.nil_append]at hh;rw[if_pos hh];rfl);refine(key (fun hh hn=>?_) (fun hh hn=>?_)) |>fun hq=>by simpa using hq
     ·rw[List.nil_append]at hh;have hne:0<((c:: r).takeWhile uj).length:=List.length_pos_iff.mpr hh;rw[if_neg hh,LX _ _ (by omega),if_neg hn];rfl
     ·rw[List.nil_append]at hh⊢;have hne:0<((c:: r).takeWhile uj).length:=List.length_pos_iff.mpr hh;rw[if_neg hh,LX _ _ (by omega),if_pos hn];have:=ih ((c:: r).dropWhile uj) (p++(c:: r).takeWhile uj) (acc++[(c:: r).takeWhile uj]) (by omega) (by rw[List.append_assoc,hsw];exact h2) (by simp only[List.length_append,List.length_cons,List.length_nil];omega);refine vq this ?_
      cases Kw n true ((c:: r).dropWhile uj)with
      |none=>rfl
      |some ws=>simp[GN]
theorem Ez(l:Str)(hl:l.length≤1048576):Ev (fun k=>eu.f k (b_ l)) (GN [] (words l)):=by
 unfold eu.f;exact KC l hl (l.length+1) l [] [] (by omega) rfl (by simp)
theorem anb(s:Str):∀n:Nat,s.length≤n→Kv (s++[32])=(Kv s).map fun q=>(q.1,q.2++[32]):=by
 intro n
 induction n generalizing s with
 |zero=>
  intro h;have:s=[]:=List.length_eq_zero_iff.mp (by omega);subst this;rfl
 |succ n ih=>
  intro h
  cases s with
  |nil=>rfl
  |cons c r=>
   simp only[List.length_cons]at h;rw[List.cons_append,CZ,CZ];by_cases c1:c=34
   ·rw[if_pos c1,if_pos c1];rfl
   ·rw[if_neg c1,if_neg c1];by_cases c2:c=92
    ·rw[if_pos c2,if_pos c2]
     cases r with
     |nil=>rfl
     |cons d r=>
      simp only[List.length_cons]at h;simp only[List.cons_append];rw[ih r (by omega)];cases Kv r<;>rfl
    ·rw[if_neg c2,if_neg c2,ih r (by omega)];cases Kv r<;>rfl
theorem afq(l:Str):(l++[32]).takeWhile uj=l.takeWhile uj∧(l++[32]).dropWhile uj=l.dropWhile uj++[32]:=by
 induction l with
 |nil=>exact⟨rfl,rfl⟩
 |cons c r ih=>
  rw[List.cons_append]
  cases e:uj c with
  |true=>simp only[List.takeWhile,List.dropWhile,e];exact⟨congrArg _ ih.1,ih.2⟩
  |false=>simp[List.takeWhile,List.dropWhile,e]
theorem anc:∀(n:Nat) (a:Bool) (s:Str),s.length<n→Kw (n+1) a (s++[32])=Kw n a s:=by
 intro n
 induction n with
 |zero=>intro a s h;omega
 |succ n ih=>
  intro a s h
  cases s with
  |nil=>rfl
  |cons c r=>
   simp only[List.length_cons]at h;rw[List.cons_append,Kw,Kw,ih true r (by omega)];by_cases c1:c=32
   ·rw[if_pos c1,if_pos c1]
   ·rw[if_neg c1,if_neg c1];by_cases c2:a=false
    ·rw[if_pos c2,if_pos c2]
    ·rw[if_neg c2,if_neg c2];by_cases c3:c=34
     ·rw[if_pos c3,if_pos c3,anb r r.length (Nat.le_refl _)]
      cases e:Kv r with
      |none=>rfl
      |some q=>
       obtain⟨w,t⟩:=q;obtain⟨m,h4,h5,_⟩:=Gs 0 r.length r w t (Nat.le_refl _) e;have hm:r.length=m.length+t.length:=by rw[h4,List.length_append]
       simp only[Option.map_some];rw[ih false t (by omega)]
     ·rw[if_neg c3,if_neg c3];have hw:=afq (c:: r);rw[List.cons_append]at hw;rw[hw.1,hw.2];by_cases c4:(c:: r).takeWhile uj=[]
      ·rw[if_pos c4,if_pos c4]
      ·have hne:0<((c:: r).takeWhile uj).length:=List.length_pos_iff.mpr c4;have hlen:=congrArg List.length (BL uj (c:: r));rw[List.length_append,List.length_cons]at hlen;rw[if_neg c4,if_neg c4,ih false _ (by omega)]
theorem Qc(s:Str):words (s++[32])=words s:=by
 unfold words;rw[List.length_append];exact anc (s.length+1) true s (by omega)
theorem QS(s:Str):words (32:: s)=words s:=by
 unfold words;rw[Kw,if_pos rfl];rfl
theorem WI{α:Type}(f:Str→α)(h1:∀s,f (32:: s)=f s)(h2:∀s,f (s++[32])=f s)(s:Str):f (trim s)=f s:=by
 have r1:∀(i:Nat) (t:Str),f (List.replicate i 32++t)=f t:=by
  intro i
  induction i with
  |zero=>intro t;rfl
  |succ i ih=>intro t;rw[List.replicate_succ,List.cons_append,h1,ih]
 have r2:∀(j:Nat) (t:Str),f (t++List.replicate j 32)=f t:=by
  intro j
  induction j with
  |zero=>intro t;rw[List.replicate_zero,List.append_nil]
  |succ j ih=>intro t;rw[List.replicate_succ',←List.append_assoc,h2,ih]
 obtain⟨i,j,e⟩:=Ih s;have:f s=f (List.replicate i 32++trim s++List.replicate j 32):=congrArg f e;rw[this,r2,r1]
theorem YP(s:Str):words (trim s)=words s:=WI words QS Qc s
theorem ab8(b:UInt8)(hb:b≠32)(s:Str):wI b (s++[32])=(wI b s).map fun x=>(x.1,x.2++[32]):=by
 induction s with
 |nil=>
  have h:¬(32:UInt8)=b:=fun h=>hb h.symm
  simp[wI,h]
 |cons c r ih=>
  rw[List.cons_append,wI,wI];by_cases h:c=b
  ·rw[if_pos h,if_pos h];rfl
  ·rw[if_neg h,if_neg h,ih];cases wI b r<;>rfl
theorem ab9(s:Str):Ii (trim s)=Ii s:=by
 refine WI Ii (fun s=>?_) (fun s=>?_) s
 ·unfold Ii;rw[wI,if_neg (by decide)]
  cases wI 61 s with
  |none=>rfl
  |some x=>simp only[Option.map_some,RP]
 ·unfold Ii;rw[ab8 61 (by decide)]
  cases wI 61 s with
  |none=>rfl
  |some x=>simp only[Option.map_some,Qc]
theorem afr(b:UInt8)(s:Str):o_ b 0 s=wI b s∨((∀x,o_ b 0 s=some x→34∈x.1)∧(∀x,wI b s=some x→34∈x.1)):=by
 induction s with
 |nil=>exact Or.inl rfl
 |cons c r ih=>
  rw[o_,wI];by_cases h:c=b
  ·rw[if_pos ⟨rfl,h⟩,if_pos h];exact Or.inl rfl
  ·rw[if_neg (fun hh=>h hh.2),if_neg h];by_cases c1:c=34
   ·right
    rw[c1];refine⟨fun x hx=>?_,fun x hx=>?_⟩<;>
    ·simp only[Option.map_eq_some_iff]at hx;obtain⟨y,_,rfl⟩:=hx;simp
   ·rw[show nq 0 c=0 by simp[nq,c1]];rcases ih with h2|⟨h2,h3⟩
    ·left;rw[h2]
    ·right
     refine⟨fun x hx=>?_,fun x hx=>?_⟩
     ·simp only[Option.map_eq_some_iff]at hx;obtain⟨y,hy,rfl⟩:=hx;simp[h2 y hy]
     ·simp only[Option.map_eq_some_iff]at hx;obtain⟨y,hy,rfl⟩:=hx;simp[h3 y hy]
def QT(s:Str):Option (Str×Str):=match o_ 61 0 (trim s)with
 |none=>none
 |some x=>match words x.2 with
  |some [w]=>some (low (trim x.1),w)
  |_=>none
def Bad(o:Option (Str×Str)):Prop:=∀x,o=some x→34∈x.1
theorem UQ{l:Str}(h:(34:UInt8)∈l):(34:UInt8)∈low l:=List.mem_map.mpr ⟨34,h,by decide⟩
theorem ane(s:Str):QT s=Ii s∨(Bad (QT s)∧Bad (Ii s)):=by
 rw[←ab9 s];unfold QT Ii;rcases afr 61 (trim s)with h|⟨h1,h2⟩
 ·left;rw[h]
 ·right
  refine⟨fun x hx=>?_,fun x hx=>?_⟩
  ·cases e:o_ 61 0 (trim s)with
   |none=>rw[e]at hx;cases hx
   |some y=>
    have h3:=h1 y e;rw[e]at hx;simp only at hx;split at hx
    ·cases hx;exact UQ (WE _ _ h3 (by decide))
    ·cases hx
  ·cases e:wI 61 (trim s)with
   |none=>rw[e]at hx;cases hx
   |some y=>
    have h3:=h2 y e;rw[e]at hx;simp only at hx;split at hx
    ·cases hx;exact UQ (WE _ _ h3 (by decide))
    ·cases hx
def BN:List Str→Option (List (Str×Str))
 |[]=>some []
 |s:: r=>match QT s with
  |none=>none
  |some x=>(BN r).map (x:: ·)
def ab_(o:Option (List (Str×Str))):Prop:=∀l,o=some l→∃x∈l,(34:UInt8)∈x.1
theorem aiz(r:List Str):BN r=Qa r∨(ab_ (BN r)∧ab_ (Qa r)):=by
 induction r with
 |nil=>exact Or.inl rfl
 |cons s r ih=>
  rw[BN,Qa]
  have abh:∀(o:Option (Str×Str)) (p:Option (List (Str×Str))),Bad o→ab_ (match o with
    |none=>none
    |some x=>p.map (x:: ·)):=by
   intro o p h l hl
   cases o with
   |none=>cases hl
   |some x=>
    simp only[Option.map_eq_some_iff]at hl;obtain⟨y,_,rfl⟩:=hl;exact⟨x,by simp,h x rfl⟩
  have abj:∀(o:Option (Str×Str)) (p:Option (List (Str×Str))),ab_ p→ab_ (match o with
    |none=>none
    |some x=>p.map (x:: ·)):=by
   intro o p h l hl
   cases o with
   |none=>cases hl
   |some x=>
    simp only[Option.map_eq_some_iff]at hl;obtain⟨y,hy,rfl⟩:=hl;obtain⟨z,hz,h3⟩:=h y hy;exact⟨z,by simp[hz],h3⟩
  rcases ane s with h|⟨h1,h2⟩
  ·rcases ih with h2|⟨h2,h3⟩
   ·left;rw[h,h2]
   ·right;exact⟨abj _ _ h2,abj _ _ h3⟩
  ·right;exact⟨abh _ _ h1,abh _ _ h2⟩
theorem Qd{l:Str}(h:(34:UInt8)∈l):isSmall l=false:=by
 cases e:isSmall l with
 |false=>rfl
 |true=>exact absurd rfl (aiy 34 (afo (YN e).1 34 h)).1
theorem Qe(a b:Str)(ps:List (Str×Str))(h:(34:UInt8)∈a∨∃x∈ps,(34:UInt8)∈x.1):sU a b ps=false:=by
 cases e:sU a b ps with
 |false=>rfl
 |true=>
  obtain⟨h1,_,_,h4,_⟩:=KA e;rcases h with h|⟨x,hx,h⟩
  ·rw[Qd h]at h1;cases h1
  ·have:=(abf ps [] h4 x hx).1;rw[Qd h]at this;cases this
def pkS(s:Str):Option (Str×Str×List (Str×Str)):=if kM s=true then pkO (o_ 47 0 (trim ((parts 59 0 s).headD []))) (BN ((parts 59 0 s).drop 1))else none
theorem WJ(o:Option (Str×Str))(p:Option (List (Str×Str)))(h:Bad o):pkO o p=none:=by
 unfold pkO;split
 ·rename_i x ps
  rw[Qe _ _ _ (Or.inl (UQ (h x rfl)))];rfl
 ·rfl
theorem WL(o:Option (Str×Str))(p:Option (List (Str×Str)))(h:ab_ p):pkO o p=none:=by
 unfold pkO;split
 ·rename_i x ps
  rw[Qe _ _ _ (Or.inr (h ps rfl))];rfl
 ·rfl
theorem anf(s:Str):pkS s=pk s:=by
 unfold pkS pk;split
 ·rcases afr 47 (trim ((parts 59 0 s).headD []))with h|⟨h1,h2⟩
  ·rw[h];rcases aiz ((parts 59 0 s).drop 1)with h3|⟨h3,h4⟩
   ·rw[h3]
   ·rw[WL _ _ h3,WL _ _ h4]
  ·rw[WJ _ _ h1,WJ _ _ h2]
 ·rfl
theorem Am(ok:Bool)(m u:Str)(ps:List (Str×Str))(hm:m.length≤1048576)(hu:u.length≤1048576)(hz:Dj ps≤1048576)(hn:ps.length≤1048576):
  Ev (fun k=>if ok=true then((aX.f k (b_ m) (b_ u) (ps.map sV)).bind fun t=>(if t=true then(some (b_ m,b_ u,ps.map sV,true))else(some ((⟨#[]⟩:ByteArray),(⟨#[]⟩:ByteArray),([]:List jl),false))))else(some ((⟨#[]⟩:ByteArray),(⟨#[]⟩:ByteArray),([]:List jl),false))) (Nv (fin1 ok m u ps)):=by
 cases ok with
 |false=>exact vn (by simp) (vq (vs _) (by unfold fin1;rw[if_neg (by simp)];rfl))
 |true=>
  refine vp rfl (vb (BJ m u ps hm hu hz hn) ?_)
  cases e:sU m u ps with
  |true=>exact vp rfl (vq (vs _) (by unfold fin1;rw[if_pos ⟨rfl,e⟩];rfl))
  |false=>exact vn (by simp) (vq (vs _) (by unfold fin1;rw[if_neg (by simp[e])];rfl))
theorem KD{b:UInt8}{q:Nat}{s x t:Str}(h:o_ b q s=some (x,t)):s.length=x.length+t.length+1:=by
 rw[abd b s q x t h];simp;omega
def rest(more:Bool)(s:Str):List Str:=if more=true then parts 59 0 s else[]
theorem yP(ok:Bool)(m u:Str)(hm:m.length≤1048576)(hu:u.length≤1048576):∀(n:Nat) (s:Str) (more:Bool) (q:List (Str×Str)),s.length+(if more=true then 1 else 0)≤n→s.length+q.length+(if more=true then 1 else 0)≤500→Dj q≤1000*q.length→
  Ev (fun k=>bG.l0 k (b_ s) more ok (b_ m) (b_ u) (q.map sV)) (Nv (Nw ok m u q (BN (rest more s)))):=by
 intro n
 induction n with
 |zero=>
  intro s more q h h2 h3
  cases more with
  |true=>simp at h
  |false=>
   refine vc ?_;simp only[bG.l0];refine vn (by simp) ?_;have:=Am ok m u q hm hu (by omega) (by omega)
   simpa [rest,BN,Nw] using this
 |succ n ih=>
  intro s more q h h2 h3
  cases more with
  |false=>
   refine vc ?_;simp only[bG.l0];refine vn (by simp) ?_;have:=Am ok m u q hm hu (by omega) (by omega)
   simpa [rest,BN,Nw] using this
  |true=>
   simp only[if_true]at h h2
   have hbad:∀(x5:ByteArray) (x6:Bool) (x12:ByteArray) (x15:List ByteArray),Ev (fun k=>bG.j1 k x5 x6 ok x12 x15 true (b_ m) (b_ u) (q.map sV)) (Nv none):=by
    intro x5 x6 x12 x15;refine vc ?_;simp only[bG.j1];exact vp trivial (vs _)
   /-one part -/
   have one:∀(c t:Str) (more:Bool),c.length≤500→t.length+(if more=true then 1 else 0)≤n→t.length+(q.length+1)+(if more=true then 1 else 0)≤500→
     Ev (fun k=>(bZ.f k (b_ c)).bind fun avU=>((iw.f k avU 61).bind fun WM=>((bZ.f k WM.2.1).bind fun akW=>((eu.f k akW).bind fun WO=>(if WM.2.2=true then(if WO.2=true then(bG.j1 k (b_ t) more ok WM.1 WO.1 ((WO.1.length:Int) !=1) (b_ m) (b_ u) (q.map sV))else(bG.j1 k (b_ t) more ok WM.1 WO.1 true (b_ m) (b_ u) (q.map sV)))else(bG.j1 k (b_ t) more ok WM.1 WO.1 true (b_ m) (b_ u) (q.map sV))))))) (Nv (Nw ok m u q (BN (c:: rest more t)))):=by
    intro c t more hc ht hq;have htl:=C9 c;refine vb (qy c (by omega)) (vb (xJ (trim c) 61 (by decide) (by omega)) ?_)
    cases e:o_ 61 0 (trim c)with
    |none=>
     simp only[FV];refine vb (qy [] (by simp)) (vb (Ez _ (by decide)) (vn (by simp) (vq (hbad _ _ _ _) ?_)));rw[BN,QT,e];rfl
    |some x=>
     obtain⟨a,v⟩:=x;have hlen:=KD e;have hvl:=C9 v;have hal:=C9 a;simp only[FV];refine vb (qy v (by omega)) (vb (Ez _ (by omega)) (vp trivial ?_));rw[YP]
     cases e2:words v with
     |none=>
      refine vn (by simp[GN]) (vq (hbad _ _ _ _) ?_);rw[BN,QT,e];simp only[e2];rfl
     |some ws=>
      simp only[GN,List.nil_append];refine vp trivial ?_;by_cases h1:ws.length=1
      ·obtain⟨w,rfl⟩:=List.length_eq_one_iff.mp h1;have hwl:=RQ e2 w (by simp);have e3:QT c=some (low (trim a),w):=by rw[QT,e];simp only[e2]
       have:=ih t more (q++[(low (trim a),w)]) ht (by simp only[List.length_append,List.length_cons,List.length_nil];omega) (by rw[Ef];simp only[Dj,List.length_append,List.length_cons,List.length_nil,BH];omega);have hl:=kT (trim a) (by omega);refine vc ?_;simp only[bG.j1,List.map_cons,List.map_nil,List.length_cons,List.length_nil,List.length_map];refine vn (by simp) (vb (qy a (by omega)) ?_);simp only[hl,Option.bind_some];refine vp (by omega) (vp (by omega) ?_);rw[BN,e3];simp only;rw[RU];rw[List.map_append]at this;exact this
      ·have e4:((((ws.map b_).length:Nat):Int) !=1)=true:=by
        rw[List.length_map];simp only[bne_iff_ne,ne_eq];omega
       rw[e4];refine vq (hbad _ _ _ _) ?_
       have e3:QT c=none:=by
        rw[QT,e];simp only[e2]
        match ws,h1 with
        |[],_=>rfl
        |[w],h1=>exact absurd rfl h1
        |_:: _:: _,_=>rfl
       rw[BN,e3];rfl
   refine vc ?_;simp only[bG.l0];refine vp trivial (vb (xJ s 59 (by decide) (by omega)) ?_);rw[rest,if_pos rfl,LU]
   cases e:o_ 59 0 s with
   |none=>
    simp only[FV];have:=one s [] false (by omega) (by simp) (by simp;omega)
    simpa [rest] using this
   |some x=>
    obtain⟨c,t⟩:=x;have hlen:=KD e;simp only[FV];have:=one c t true (by omega) (by simp;omega) (by simp only[if_true];omega);rw[rest,if_pos rfl]at this;exact this
theorem KE(s:Str)(hs:s.length≤1048576):Ev (fun k=>bG.f k (b_ s)) (Nv (pk s)):=by
 rw[←anf];unfold bG.f pkS;refine vb (o9 s (by omega)) ?_
 cases et:kM s with
 |false=>exact vn (by simp) (vq (vs _) rfl)
 |true=>
  have hsl:=Ie et;refine vp rfl ?_;rw[if_pos rfl]
  /-the head,and what is behind it -/
  have key:∀(h0 t:Str) (more:Bool),h0.length≤200→t.length≤200→Ev (fun k=>(bZ.f k (b_ h0)).bind fun avV=>((iw.f k avV 47).bind fun afs=>((eX.f afs.1).bind fun avW=>((eX.f afs.2.1).bind fun avX=>(bG.l0 k (b_ t) more afs.2.2 avW avX ([]:List jl)))))) (Nv (pkO (o_ 47 0 (trim h0)) (BN (rest more t)))):=by
   intro h0 t more hh ht;have htl:=C9 h0;refine vb (qy h0 (by omega)) (vb (xJ (trim h0) 47 (by decide) (by omega)) ?_);rw[abe _ _ (trim h0)]
   cases e:o_ 47 0 (trim h0)with
   |none=>
    have l1:=kT (trim h0) (by omega);have l2:=kT [] (by simp);have:=yP false (low (trim h0)) (low []) (by rw[BH];omega) (by simp[low]) (t.length+1) t more [] (by split<;>omega) (by simp only[List.length_nil];split<;>omega) (by simp[Dj]);simp only[FV,l1,l2,Option.bind_some]
    simpa [low] using this
   |some x=>
    obtain⟨a,b⟩:=x;have hlen:=KD e;have l1:=kT a (by omega);have l2:=kT b (by omega);have:=yP true (low a) (low b) (by rw[BH];omega) (by rw[BH];omega) (t.length+1) t more [] (by split<;>omega) (by simp only[List.length_nil];split<;>omega) (by simp[Dj]);simp only[FV,l1,l2,Option.bind_some]
    simpa using this
  refine vb (xJ s 59 (by decide) (by omega)) ?_;rw[LU]
  cases e:o_ 59 0 s with
  |none=>
   simp only[FV];have:=key s [] false (by omega) (by simp)
   simpa [rest] using this
  |some x=>
   obtain⟨c,t⟩:=x;have hlen:=KD e;simp only[FV];have:=key c t true (by omega) (by omega);rw[rest,if_pos rfl]at this
   simpa using this
theorem NC(ls:List Str)(x:Str)(hn:ls.length≤1000000000000000):∃i:Int,Ev (fun k=>dw.f k (ls.map b_) (b_ x)) i∧(i= -1∨0≤i)∧(0≤i↔x∈ls):=by
 unfold dw.f;rw[List.length_map];refine⟨_,ng (xs:=ls) (F:=fun k (_:Nat) i=>dw.l0 k (ls.map b_) (b_ x) (ls.length:Int) i) (st:=fun n c=>if x=c then .inl (n:Int)else .inr (n+1)) (fin:=fun _=>(-1:Int)) (s:=0) (fun p n=>n=p.length) rfl ?_ ?_,?_,?_⟩
 ·intro p c r n h hn;subst hn;have hz:=gJ h;have e1:=uz h;have w1:wrap64 ((p.length:Int)+1)=(p.length:Int)+1:=dA (by omega) (by omega);simp only[dw.l0,e1,w1,List.length_map,lD];clear w1 e1;by_cases e:x=c
  ·simp only[if_pos e];refine⟨(fun v hv=>?_),fun s' hs=>by cases hs⟩;cases hv;exact vp (by omega) (vp (by omega) (vp (by omega) (vs _)))
  ·simp only[if_neg e];refine⟨(fun v hv=>by cases hv),fun s' hs=>⟨?_,fun v hv=>?_⟩⟩
   ·cases hs;simp
   ·exact vp (by omega) (vp (by omega) (vp (by omega) hv))
 ·intro s _;simp only[dw.l0];exact vn (by omega) (vs _)
 ·have key:∀(r:List Str) (n:Nat),run (fun(n:Nat) c=>if x=c then .inl (n:Int)else .inr (n+1)) (fun _=>(-1:Int)) r n= -1∨0≤run (fun(n:Nat) c=>if x=c then .inl (n:Int)else .inr (n+1)) (fun _=>(-1:Int)) r n:=by
   intro r
   induction r with
   |nil=>intro n;exact Or.inl rfl
   |cons c r ih=>
    intro n;unfold run;by_cases e:x=c
    ·simp only[if_pos e];exact Or.inr (by omega)
    ·simp only[if_neg e];exact ih (n+1)
  exact key ls 0
 ·have key:∀(r:List Str) (n:Nat),0≤run (fun(n:Nat) c=>if x=c then .inl (n:Int)else .inr (n+1)) (fun _=>(-1:Int)) r n↔x∈r:=by
   intro r
   induction r with
   |nil=>intro n;simp[run]
   |cons c r ih=>
    intro n;unfold run;by_cases e:x=c
    ·simp only[if_pos e];simp[e]
    ·simp only[if_neg e];rw[ih];simp[e]
  exact key ls 0
theorem Ap(ls:List Str)(x:Str)(hn:ls.length≤1000000000000000):Ev (fun k=>dZ.f k (ls.map b_) (b_ x)) (decide (x∈ls)):=by
 obtain⟨i,hi,h1,h2⟩:=NC ls x hn;unfold dZ.f;refine vb hi (vq (vs _) ?_);by_cases h:x∈ls
 ·rw[decide_eq_true h];exact decide_eq_true (h2.mpr h)
 ·rw[decide_eq_false h];exact decide_eq_false (fun hh=>h (h2.mp hh))
def dash(b:Str):Str:=[45,45]++b
def fin2(b:Str):Str:=[45,45]++b++[45,45]
def dv(ls:List Str)(b:Str):Bool:=decide (dash b∈ls)||decide (fin2 b∈ls)
def lk(l b:Str):Bool:=decide (l=dash b)||decide (l=fin2 b)
theorem aku(ls:List Str)(b:Str):dv ls b=ls.any (fun l=>lk l b):=by
 unfold dv;rw[Bool.eq_iff_iff];simp only[lk,Bool.or_eq_true,decide_eq_true_iff,List.any_eq_true];constructor
 ·rintro(h|h)
  ·exact⟨_,h,Or.inl rfl⟩
  ·exact⟨_,h,Or.inr rfl⟩
 ·rintro⟨x,h,rfl|rfl⟩
  ·exact Or.inl h
  ·exact Or.inr h
theorem C_(b:Str):(⟨#[45,45]⟩:ByteArray)++b_ b=b_ (dash b):=by rw[YQ,Qg,nV];rfl
theorem Ox(b:Str):b_ (dash b)++(⟨#[45,45]⟩:ByteArray)=b_ (fin2 b):=by rw[YQ,Qg,nV];rfl
theorem KF(b:Str):(dash b).length=b.length+2:=by unfold dash;simp
theorem abk(b:Str):(fin2 b).length=b.length+4:=by unfold fin2;simp
theorem ND(ls:List Str)(b:Str)(hb:b.length≤1000000000000000)(hn:ls.length≤1000000000000000):Ev (fun k=>qV.f k (ls.map b_) (b_ b)) (dv ls b):=by
 unfold qV.f dv;have hd:=KF b;simp only[C_,Ox,aV];refine vp (by omega) (vb (Ap ls (dash b) hn) ?_)
 cases e:decide (dash b∈ls)with
 |true=>exact vp rfl (vs _)
 |false=>exact vn (by simp) (vp (by omega) (vb (Ap ls (fin2 b) hn) (vs _)))
theorem EC(l b:Str)(hb:b.length≤1000000000000000):ni.f (b_ l) (b_ b)=some (lk l b):=by
 unfold ni.f lk;have hd:=KF b;simp only[C_,Ox,aV,lD];rw[if_pos (by omega)];by_cases h:l=dash b
 ·rw[if_pos h,decide_eq_true h];rfl
 ·rw[if_neg h,decide_eq_false h,if_pos (by omega)];simp only[Bool.false_or]
  congr 1
  rw[Bool.eq_iff_iff];simp
def jb(b:Str):List (List Str)→List Str
 |[]=>[]
 |c:: r=>dash b:: (c++jb b r)
def jR(b:Str)(ps:List (List Str)):Option (List Str):=if FI b=true∧ps≠[]∧ps.any (fun c=>dv c b)=false then some (jb b ps++[fin2 b])else none
def LZ(o:Option (List Str)):List ByteArray×Bool:=match o with
 |none=>([],false)
 |some l=>(l.map b_,true)
theorem Qh(b:Str)(ps:List (List Str)):(jb b ps).length=tl ps:=by
 induction ps with
 |nil=>rfl
 |cons c r ih=>simp only[jb,tl,List.length_cons,List.length_append,ih];omega
theorem RY(b:Str)(a c:List (List Str)):jb b (a++c)=jb b a++jb b c:=by
 induction a with
 |nil=>rfl
 |cons d a ih=>simp[jb,ih]
theorem aiA{b:Str}(ps:List (List Str))(h:FI b=false):jR b ps=none:=by
 unfold jR;rw[if_neg (by rw[h];simp)]
theorem aiB(b:Str):jR b []=none:=by
 unfold jR;rw[if_neg (by simp)]
theorem ang{b:Str}{ps:List (List Str)}(h1:FI b=true)(h2:ps≠[]):LZ (jR b ps)=if ps.any (fun c=>dv c b)=true then([],false)else((jb b ps++[fin2 b]).map b_,true):=by
 unfold jR
 cases e:ps.any (fun c=>dv c b)with
 |true=>rw[if_neg (by simp),if_pos rfl];rfl
 |false=>rw[if_pos ⟨h1,h2,rfl⟩,if_neg (by simp)];rfl
theorem GU(ls:List Str)(b:Str)(hb:b.length≤1000000000000)(hn:ls.length≤1000000000000):Ev (fun k=>m_.f k (ls.map b_) (b_ b)) (dv ls b):=by
 unfold m_.f;exact vb (ND ls b (by omega) (by omega)) (vs _)
theorem EM(ps:List (List Str))(b:Str)(hb:b.length≤1000000000000)(hn:tl ps≤1000000000000):Ev (fun k=>dV.f k (ps.map (List.map b_)) (b_ b)) (ps.any (fun c=>dv c b)):=by
 unfold dV.f aU.f;have hl:=UK ps
 have key:∀(r:List (List Str)) (n:Nat),decide (run (fun(n:Nat) c=>if dv c b=true then .inl (n:Int)else .inr (n+1)) (fun _=>(-1:Int)) r n≥0)=r.any (fun c=>dv c b):=by
  intro r
  induction r with
  |nil=>intro n;rfl
  |cons c r ih=>
   intro n;unfold run
   cases e:dv c b with
   |true=>simp[e]
   |false=>simp only[Bool.false_eq_true,if_false,ih,List.any_cons,e,Bool.false_or]
 rw[List.length_map];refine vb (ng (xs:=ps) (F:=fun k (_:Nat) i=>aU.l0 k (ps.map (List.map b_)) (ps.length:Int) i (b_ b)) (st:=fun n c=>if dv c b=true then .inl (n:Int)else .inr (n+1)) (fin:=fun _=>(-1:Int)) (s:=0) (fun p n=>n=p.length) rfl ?_ ?_) (vq (vs _) (key ps 0))
 ·intro p c r n h hn';subst hn';have hz:=gJ h;have hc:c.length≤tl ps:=ana (by rw[h];simp);have e1:=PW h;have w1:wrap64 ((p.length:Int)+1)=(p.length:Int)+1:=dA (by omega) (by omega);simp only[aU.l0,e1,w1,List.length_map];clear w1 e1;have hd:=GU c b hb (by omega)
  cases e:dv c b with
  |true=>
   simp only[if_true];rw[e]at hd;refine⟨(fun v hv=>?_),fun s' hs=>by cases hs⟩;cases hv;exact vp (by omega) (vp (by omega) (vp (by omega) (vb hd (vp rfl (vs _)))))
  |false=>
   rw[e]at hd;refine⟨(fun v hv=>by cases hv),fun s' hs=>⟨?_,fun v hv=>?_⟩⟩
   ·cases hs;simp
   ·exact vp (by omega) (vp (by omega) (vp (by omega) (vb hd (vn (by simp) hv))))
 ·intro s _;simp only[aU.l0];exact vn (by omega) (vs _)
theorem KG(ps:List (List Str))(b:Str)(hb:b.length≤1000000000000)(hn:tl ps≤1000000000000):Ev (fun k=>dS.f k (ps.map (List.map b_)) (b_ b)) (LZ (jR b ps)):=by
 have hl:=UK ps;have hd:=KF b
 have hbad:∀ps:List (List Str),Ev (fun k=>dS.j0 k (ps.map (List.map b_)) true (b_ b)) (LZ none):=by
  intro ps;refine vc ?_;simp only[dS.j0];exact vp trivial (vs _)
 unfold dS.f;refine vb (Ag b (by omega)) ?_;unfold jR
 cases e1:FI b with
 |false=>
  rw[if_neg (by simp)];exact vn (by simp) (hbad ps)
 |true=>
  refine vp rfl ?_;rw[List.length_map];by_cases e2:ps=[]
  ·rw[if_neg (by simp[e2])];exact vp (by simp[e2]) (hbad ps)
  ·have h2:ps.length≠0:=by rw[ne_eq,List.length_eq_zero_iff];exact e2
   refine vn (by omega) (vb (EM ps b hb hn) ?_)
   cases e3:ps.any (fun c=>dv c b)with
   |true=>
    rw[if_neg (by simp)];exact hbad ps
   |false=>
    rw[if_pos ⟨rfl,e2,rfl⟩];refine vc ?_;simp only[dS.j0,Bool.false_eq_true,if_false,List.length_map];refine vq (ng (xs:=ps) (F:=fun k (out:List Str) i=>dS.l0 k (out.map b_) (ps.map (List.map b_)) (ps.length:Int) i (b_ b)) (st:=fun out c=> .inr (out++(dash b:: c))) (fin:=fun out=>LZ (some (out++[fin2 b]))) (s:=[]) (fun p out=>out=jb b p) rfl ?_ ?_) ?_
    ·intro p c r out h ho;have hz:=gJ h;have e1:=PW h;have hlen:out.length=tl p:=by rw[ho,Qh]
     have htl:tl ps=tl p+(c.length+1+tl r):=by rw[h,CU];rfl
     have w1:wrap64 ((p.length:Int)+1)=(p.length:Int)+1:=dA (by omega) (by omega);simp only[dS.l0,e1,w1,List.length_map,C_,aV,Option.bind_some,List.length_append,List.length_cons,List.length_nil];clear w1 e1;refine⟨(fun v hv=>by cases hv),fun s' hs=>⟨?_,fun v hv=>?_⟩⟩
     ·cases hs;rw[ho,RY];simp[jb]
     ·cases hs;refine vp (by omega) (vp (by omega) (vp (by omega) (vp (by omega) (vp (by omega) (vp (by omega) ?_)))));have e5:out.map b_++[b_ (dash b)]++c.map b_=(out++(dash b:: c)).map b_:=by simp
      rw[e5];exact hv
    ·intro out ho;have hlen:out.length=tl ps:=by rw[ho,Qh]
     have hd4:=abk b;simp only[dS.l0,C_,Ox,aV,List.length_map];refine vn (by omega) (vp (by omega) (vp (by omega) (vp (by omega) (vq (vs _) ?_))));simp[LZ]
    ·have key:∀(r:List (List Str)) (out:List Str),run (fun out c=> .inr (out++(dash b:: c))) (fun out=>LZ (some (out++[fin2 b]))) r out=LZ (some (out++jb b r++[fin2 b])):=by
      intro r
      induction r with
      |nil=>intro out;simp[run,jb]
      |cons c r ih=>intro out;unfold run;simp only;rw[ih];simp[jb]
     exact key ps []
theorem KH(ps:List (List Str))(b:Str)(hb:b.length≤1000000000000)(hn:tl ps≤1000000000000)(p r:List (List Str))(c:List Str)(h:ps=p++c:: r)(out:List Str)(ho:out.length≤tl p+1)(V:List ByteArray×Bool)
  (hV:c.any (fun l=>lk l b)=false→Ev (fun k=>bV.l0 k (ps.map (List.map b_)) (b_ b) ((out++c).map b_) ((p.length:Int)+1)) V):
  Ev (fun k=>bV.l1 k (ps.map (List.map b_)) (b_ b) (out.map b_) (p.length:Int) 0) (if c.any (fun l=>lk l b)=true then([],false)else V):=by
 have hz:=gJ h;have hl:=UK ps;have e1:=PW h;have htl:tl ps=tl p+(c.length+1+tl r):=by rw[h,CU];rfl
 have w0:wrap64 ((p.length:Int)+1)=(p.length:Int)+1:=dA (by omega) (by omega);refine vq (ng (xs:=c) (F:=fun k (o:List Str) i=>bV.l1 k (ps.map (List.map b_)) (b_ b) (o.map b_) (p.length:Int) i) (st:=fun o l=>if lk l b=true then .inl ([],false)else .inr (o++[l])) (fin:=fun _=>V) (s:=out) (fun q o=>o=out++q∧q.any (fun l=>lk l b)=false) ⟨by simp,rfl⟩ ?_ ?_) ?_
 ·rintro q l s o hc ⟨ho2,hq⟩;have hzc:=gJ hc;have e2:=uz hc;have hlo:o.length=out.length+q.length:=by rw[ho2,List.length_append]
  have w1:wrap64 ((q.length:Int)+1)=(q.length:Int)+1:=dA (by omega) (by omega);simp only[bV.l1,e1,e2,w1,List.length_map];clear w1 e2 w0;have hk:=EC l b (by omega)
  cases e:lk l b with
  |true=>
   rw[e]at hk;simp only[if_true];refine⟨(fun v hv=>?_),fun s' hs=>by cases hs⟩;cases hv;exact vp (by omega) (vp (by omega) (vp (by omega) (vp (by omega) (jZ hk (vp rfl (vs _))))))
  |false=>
   rw[e]at hk;refine⟨(fun v hv=>by cases hv),fun s' hs=>⟨?_,fun v hv=>?_⟩⟩
   ·cases hs;exact⟨by rw[ho2];simp,by simp[List.any_append,hq,e]⟩
   ·cases hs;refine vp (by omega) (vp (by omega) (vp (by omega) (vp (by omega) (jZ hk (vn (by simp) (vp (by omega) ?_))))));have e5:o.map b_++[b_ l]=(o++[l]).map b_:=by simp
    rw[e5];exact hv
 ·rintro o ⟨ho2,hq⟩;simp only[bV.l1,e1,w0,List.length_map];clear w0;rw[ho2];exact vp (by omega) (vp (by omega) (vn (by omega) (hV hq)))
 ·have key:∀(r:List Str) (o:List Str),run (fun o l=>if lk l b=true then .inl ([],false)else .inr (o++[l])) (fun _=>V) r o=if r.any (fun l=>lk l b)=true then([],false)else V:=by
   intro r
   induction r with
   |nil=>intro o;rfl
   |cons c r ih=>
    intro o;unfold run
    cases e:lk c b with
    |true=>simp[e]
    |false=>simp only[Bool.false_eq_true,if_false,ih,List.any_cons,e,Bool.false_or]
  exact key c out
theorem KI(ps:List (List Str))(b:Str)(hb:b.length≤1000000000000)(hn:tl ps≤1000000000000)(r:List (List Str)):∀(p:List (List Str)),ps=p++r→Ev (fun k=>bV.l0 k (ps.map (List.map b_)) (b_ b) ((jb b p).map b_) (p.length:Int)) (if r.any (fun c=>dv c b)=true then([],false)else((jb b ps++[fin2 b]).map b_,true)):=by
 have hd:=KF b;have hd4:=abk b
 induction r with
 |nil=>
  intro p h;rw[List.append_nil]at h;subst h;have hlen:=Qh b ps;refine vc ?_;simp only[bV.l0,C_,Ox,aV,List.length_map];refine vn (by omega) (vp (by omega) (vp (by omega) (vp (by omega) (vq (vs _) ?_))));simp
 |cons c r ih=>
  intro p h;have hz:=gJ h;have hl:=UK ps;have hlen:=Qh b p;have htl:tl ps=tl p+(c.length+1+tl r):=by rw[h,CU];rfl
  have h1:=ih (p++[c]) (by rw[h];simp);rw[jA]at h1;have e5:jb b (p++[c])=jb b p++[dash b]++c:=by rw[RY];simp[jb]
  rw[e5]at h1;have h2:=KH ps b hb hn p r c h (jb b p++[dash b]) (by rw[List.length_append,hlen];simp) _ (fun _=>h1);refine vc ?_;simp only[bV.l0,C_,aV,List.length_map];have e6:(jb b p).map b_++[b_ (dash b)]=(jb b p++[dash b]).map b_:=by simp
  rw[e6];refine vp (by omega) (vp (by omega) (vp (by omega) (vq h2 ?_)));rw[←aku,List.any_cons];cases dv c b<;>simp
theorem KJ(ps:List (List Str))(b:Str)(hb:b.length≤1000000000000)(hn:tl ps≤1000000000000):Ev (fun k=>bV.f k (ps.map (List.map b_)) (b_ b)) (LZ (jR b ps)):=by
 have hbad:Ev (fun k=>bV.j0 k (ps.map (List.map b_)) (b_ b) [] true) (LZ none):=by
  refine vc ?_;simp only[bV.j0];exact vp trivial (vs _)
 unfold bV.f;simp only[Option.bind_some,List.length_map];refine vb (Ah b (by omega)) ?_
 cases e1:FI b with
 |false=>
  rw[aiA ps e1];exact vn (by simp) hbad
 |true=>
  refine vp rfl ?_;by_cases e2:ps=[]
  ·subst e2;rw[aiB];exact hbad
  ·have h2:ps.length≠0:=by rw[ne_eq,List.length_eq_zero_iff];exact e2
   have:((ps.length:Int)==0)=false:=by rw[beq_eq_false_iff_ne];omega
   rw[this,ang e1 e2];refine vc ?_;simp only[bV.j0];exact vn (by simp) (KI ps b hb hn ps [] rfl)
inductive Pt where
 |mk (f:List (Str×Str)) (b:List Str) (k:List Pt)
mutual
def e32:Pt→pq
 | .mk f b k=>⟨f.map sV,b.map b_,aiC k⟩
def aiC:List Pt→List pq
 |[]=>[]
 |p:: r=>e32 p:: aiC r
end
theorem aft(k:List Pt):aiC k=k.map e32:=by
 induction k with
 |nil=>rfl
 |cons p r ih=>rw[aiC,ih];rfl
theorem Ej(f:List (Str×Str))(b:List Str)(k:List Pt):e32 (.mk f b k)=⟨f.map sV,b.map b_,k.map e32⟩:=by rw[e32,aft]
theorem KL{ls p r:List Pt}{c:Pt}(h:ls=p++c:: r):bn (ls.map e32) (p.length:Int)=e32 c:=by
 unfold bn;rw[List.getD_eq_getElem?_getD,h];simp
mutual
def KN:Pt→Nat
 | .mk f b k=>f.length+Dj f+b.length+szs b+k.length+Qi k
def Qi:List Pt→Nat
 |[]=>0
 |p:: r=>KN p+Qi r
end
theorem Qj{k:List Pt}{p:Pt}(h:p∈k):KN p≤Qi k:=by
 induction k with
 |nil=>cases h
 |cons d a ih=>
  rw[Qi];rcases List.mem_cons.mp h with rfl|h
  ·omega
  ·have:=ih h;omega
mutual
def smt:Pt→Pt→Bool
 | .mk f b k, .mk g c l=>decide (f=g)&&(decide (b=c)&&(decide (k.length=l.length)&&arD k l))
def arD:List Pt→List Pt→Bool
 |[],_=>true
 |_:: _,[]=>false
 |p:: r,q:: s=>smt p q&&arD r s
end
theorem UR{P:Pt→Prop}(h:∀f b k,(∀p∈k,P p)→P (.mk f b k))(p:Pt):P p:=by
 have key:∀(n:Nat) (p:Pt),SizeOf.sizeOf p<n→P p:=by
  intro n
  induction n with
  |zero=>intro p hp;omega
  |succ n ih=>
   intro p hp
   cases p with
   |mk f b k=>
    refine h f b k fun q hq=>ih q ?_
    have:=List.sizeOf_lt_of_mem hq;simp only[Pt.mk.sizeOf_spec]at hp;omega
 exact key _ p (Nat.lt_succ_self _)
mutual
def e26:Pt→Di
 | .mk f b k=>⟨f.map e91,b.map b_,aiD k⟩
def aiD:List Pt→List Di
 |[]=>[]
 |p:: r=>e26 p:: aiD r
end
theorem afu(k:List Pt):aiD k=k.map e26:=by
 induction k with
 |nil=>rfl
 |cons p r ih=>rw[aiD,ih];rfl
theorem YR(f:List (Str×Str))(b:List Str)(k:List Pt):e26 (.mk f b k)=⟨f.map e91,b.map b_,k.map e26⟩:=by rw[e26,afu]
theorem WQ{ls p r:List Pt}{c:Pt}(h:ls=p++c:: r):jS (ls.map e26) (p.length:Int)=e26 c:=by
 unfold jS;rw[List.getD_eq_getElem?_getD,h];simp
inductive Qk:Pt→Prop
 |mk (f:List (Str×Str)) (b:List Str) (k:List Pt) (h0:f.length≤9223372036854775807) (g0:sane f) (h1:b.length≤9223372036854775807) (g1:∀x∈b,x.length≤9223372036854775807) (h2:k.length≤9223372036854775807) (g2:∀p∈k,Qk p):Qk (.mk f b k)
theorem RZ(p:Pt)(hp:Qk p):∀left:Nat,left≤1048576→∃v:Int,Ev (fun n=>jO.f n (e26 p).f0 (e26 p).f1 (e26 p).f2 (left:Int)) v∧v≤left∧(0≤v→v=(left:Int)-KN p):=by
 induction hp with
 |mk f b k h0 g0 h1 g1 h2 g2 ih=>
  intro left hle
  have key:∀(r p:List Pt) (left:Nat),k=p++r→left≤1048576→∃v:Int,Ev (fun n=>jD.l0 n (k.map e26) (left:Int) (p.length:Int)) v∧v≤left∧(0≤v→v=(left:Int)-Qi r):=by
   intro r
   induction r with
   |nil=>
    intro p left h hle;have hz:k.length=p.length:=by rw[h,List.append_nil]
    refine⟨left,vc ?_,Int.le_refl _,fun _=>by simp[Qi]⟩;simp only[jD.l0,List.length_map];exact vn (by omega) (vs _)
   |cons c r ihr=>
    intro p left h hle;have hz:=gJ h;have e1:=WQ h;have w1:wrap64 ((p.length:Int)+1)=(p.length:Int)+1:=dA (by omega) (by omega);obtain⟨v,hv,hv1,hv2⟩:=ih c (by rw[h];simp) left hle;by_cases hlt:v<0
    ·refine⟨-1,vc ?_,by omega,fun h=>by omega⟩;simp only[jD.l0,List.length_map,e1,w1];clear w1;exact vp (by omega) (vp (by omega) (vb hv (vp hlt (vs _))))
    ·have hvv:=hv2 (by omega);obtain⟨m,rfl⟩:=Int.eq_ofNat_of_zero_le (a:=v) (by omega);obtain⟨u,hu,hu1,hu2⟩:=ihr (p++[c]) m (by rw[h];simp) (by omega);rw[jA]at hu;refine⟨u,vc ?_,by omega,fun h0=>by have:=hu2 h0;simp only[Qi];omega⟩;simp only[jD.l0,List.length_map,e1,w1];clear w1;exact vp (by omega) (vp (by omega) (vb hv (vn hlt hu)))
  simp only[YR];obtain⟨v,hv,hv1,hv2⟩:=Wv f g0 (by omega) left hle;by_cases c1:v<0
  ·refine⟨-1,vc ?_,by omega,fun h=>by omega⟩;simp only[jO.f];exact vb hv (vp c1 (vs _))
  have hvv:=hv2 (by omega);obtain⟨m,rfl⟩:=Int.eq_ofNat_of_zero_le (a:=v) (by omega);obtain⟨u,hu,hu1,hu2⟩:=J6 b g1 (by omega) m (by omega);by_cases c2:u<0
  ·refine⟨-1,vc ?_,by omega,fun h=>by omega⟩;simp only[jO.f];exact vb hv (vn c1 (vb hu (vp c2 (vs _))))
  have huu:=hu2 (by omega);obtain⟨i,rfl⟩:=Int.eq_ofNat_of_zero_le (a:=u) (by omega);have w1:wrap64 ((i:Int)-(k.length:Int))=(i:Int)-(k.length:Int):=dA (by omega) (by omega);by_cases c3:(i:Int)-(k.length:Int)<0
  ·refine⟨-1,vc ?_,by omega,fun h=>by omega⟩;simp only[jO.f,List.length_map];exact vb hv (vn c1 (vb hu (vn c2 (vb (vp (by rw[w1];exact c3) (vs _)) (vp (by omega) (vs _))))))
  obtain⟨j,hj⟩:=Int.eq_ofNat_of_zero_le (a:=(i:Int)-(k.length:Int)) (by omega);obtain⟨t,ht,ht1,ht2⟩:=key k [] j rfl (by omega);rw[←hj,←w1]at ht;by_cases c4:t<0
  ·refine⟨-1,vc ?_,by omega,fun h=>by omega⟩;simp only[jO.f,List.length_map];exact vb hv (vn c1 (vb hu (vn c2 (vb (vn (by rw[w1];exact c3) ht) (vp c4 (vs _))))))
  ·refine⟨t,vc ?_,by omega,fun h=>by have:=ht2 h;rw[KN];omega⟩;simp only[jO.f,List.length_map];exact vb hv (vn c1 (vb hu (vn c2 (vb (vn (by rw[w1];exact c3) ht) (vn c4 (vs _))))))
theorem R_(p:Pt):KN p≤1048576→Ev (fun n=>kQ.f n (e26 p).f0 (e26 p).f1 (e26 p).f2) ((e32 p).f0,(e32 p).f1,(e32 p).f2):=by
 refine UR (P:=fun p=>KN p≤1048576→Ev (fun n=>kQ.f n (e26 p).f0 (e26 p).f1 (e26 p).f2) ((e32 p).f0,(e32 p).f1,(e32 p).f2)) (fun f b k ih hs=>?_) p;rw[KN]at hs
 have key:∀(r p:List Pt),k=p++r→Ev (fun n=>jQ.l0 n (k.map e26) (p.map e32++List.replicate r.length z28) (p.length:Int)) (k.map e32):=by
  intro r
  induction r with
  |nil=>
   intro p h;have hz:k.length=p.length:=by rw[h,List.append_nil]
   refine vc ?_;simp only[jQ.l0,List.length_map];refine vn (by omega) (vq (vs _) ?_);rw[h];simp
  |cons c r ihr=>
   intro p h;have hz:=gJ h;have e1:=WQ h;have w1:wrap64 ((p.length:Int)+1)=(p.length:Int)+1:=dA (by omega) (by omega);have hm:c∈k:=by rw[h];simp
   have hc:=ih c hm (by have:=Qj hm;omega);have:=ihr (p++[c]) (by rw[h];simp);rw[jA]at this
   have e2:(p.map e32++List.replicate (r.length+1) z28).set p.length (⟨(e32 c).f0,(e32 c).f1,(e32 c).f2⟩:pq)=(p++[c]).map e32++List.replicate r.length z28:=by
    rw[List.set_append_right _ _ (by simp),List.length_map,Nat.sub_self,List.replicate_succ,List.set_cons_zero,List.map_append,List.append_assoc];simp only[List.map_cons,List.map_nil,List.cons_append,List.nil_append];cases e32 c;rfl
   rw[←e2]at this;refine vc ?_;simp only[jQ.l0,List.length_map,e1,w1,Int.toNat_natCast,List.length_cons];clear w1;exact vp (by omega) (vp (by omega) (vb hc (vp (by simp;omega) this)))
 have hk:=key k [] rfl;simp only[YR,Ej];refine vc ?_;simp only[kQ.f,List.length_map,Int.toNat_natCast];exact vb (Wx f (by omega)) (vb (J7 b (by omega)) (vb (vp (by omega) (vp (by omega) hk)) (vs _)))
theorem Si(p:Pt):KN p≤1048576→Ev (fun n=>kR.f n (e32 p).f0 (e32 p).f1 (e32 p).f2 (e32 p).f0 (e32 p).f1 (e32 p).f2) true:=by
 refine UR (P:=fun p=>KN p≤1048576→Ev (fun n=>kR.f n (e32 p).f0 (e32 p).f1 (e32 p).f2 (e32 p).f0 (e32 p).f1 (e32 p).f2) true) (fun f b k ih hs=>?_) p;rw[KN]at hs
 have key:∀(r p:List Pt),k=p++r→Ev (fun n=>gY.l0 n (k.map e32) (k.map e32) (p.length:Int)) true:=by
  intro r
  induction r with
  |nil=>
   intro p h;have hz:k.length=p.length:=by rw[h,List.append_nil]
   refine vc ?_;simp only[gY.l0,List.length_map];exact vn (by omega) (vs _)
  |cons c r ihr=>
   intro p h;have hz:=gJ h;have e1:=KL h;have w1:wrap64 ((p.length:Int)+1)=(p.length:Int)+1:=dA (by omega) (by omega);have hm:c∈k:=by rw[h];simp
   have hc:=ih c hm (by have:=Qj hm;omega);have:=ihr (p++[c]) (by rw[h];simp);rw[jA]at this;refine vc ?_;simp only[gY.l0,List.length_map,e1,w1];clear w1;exact vp (by omega) (vp (by omega) (vp (by omega) (vb hc (vp (by simp) this))))
 have hk:=key k [] rfl;simp only[Ej];refine vc ?_;simp only[kR.f];have hb:=wF b b (by omega);rw[decide_eq_true rfl]at hb;exact vb (Wy f (by omega)) (vp (by simp) (vb hb (vp (by simp) (vb (vp (by simp) hk) (vp (by simp) (vs _))))))
def pz(l:Str)(i:Nat):Bool:=decide (bt (b_ l) (i:Int)=32)&&(!decide (bt (b_ l) ((i:Int)-1)=32)&& !decide (bt (b_ l) ((i:Int)+1)=32))
def pR(l:Str)(i:Nat)(b:Int):Int:=if pz l i=true∧(b<0∨i≤40)then(i:Int)else b
def brk(l:Str):Nat→Nat→Int→Int
 |0,_,b=>b
 |n+1,i,b=>brk l n (i+1) (pR l i b)
def L6(l:Str)(i:Nat):Int:=brk l (l.length-1-i) i (-1)
theorem Sj(l:Str):∀(n i:Nat) (b:Int),brk l n i b=b∨((i:Int)≤brk l n i b∧brk l n i b<i+n)
 |0,_,_=> .inl rfl
 |n+1,i,b=>by
  rw[brk];rcases Sj l n (i+1) (pR l i b)with h|h
  ·rw[h];unfold pR;by_cases c:pz l i=true∧(b<0∨i≤40)
   ·rw[if_pos c];exact .inr ⟨by omega,by omega⟩
   ·rw[if_neg c];exact .inl rfl
  ·exact .inr ⟨by omega,by omega⟩
theorem Ik(l:Str)(i:Nat):L6 l i<0∨((i:Int)≤L6 l i∧L6 l i<l.length):=by
 unfold L6;rcases Sj l (l.length-1-i) i (-1)with h|h
 ·exact .inl (by omega)
 ·exact .inr ⟨h.1,by omega⟩
def fl:Nat→Str→Nat→List Str
 |0,l,_=>[l]
 |n+1,l,i=>if l.length>40 then(if L6 l i<0 then[l]else l.take (L6 l i).toNat:: fl n (l.drop (L6 l i).toNat) 2)else[l]
theorem afv:∀(n:Nat) (l:Str) (i:Nat),1≤i→(fl n l i).length≤l.length+1
 |0,l,i,_=>by simp[fl]
 |n+1,l,i,hi=>by
  rw[fl];by_cases c:l.length>40
  ·rw[if_pos c];by_cases d:L6 l i<0
   ·rw[if_pos d];simp
   ·rw[if_neg d];have:=Ik l i;have h2:=afv n (l.drop (L6 l i).toNat) 2 (by omega);rw[List.length_drop]at h2;rw[List.length_cons];omega
  ·rw[if_neg c];simp
def WR(f:Str×Str):Str:=(f.1++[58])++(if f.2=[]then[]else 32:: f.2)
def ED(f:Str×Str):List Str:=fl (WR f).length (WR f) (f.1.length+3)
theorem yj(acc:List Str)(l:Str):acc.map b_++[b_ l]=(acc++[l]).map b_:=by rw[List.map_append];rfl
theorem UU(l:Str)(acc:List Str)(hl:l.length≤1048576)(V:List ByteArray):∀(n i:Nat) (b:Int),n=l.length-1-i→1≤i→i≤1048579→
  Ev (fun k=>if brk l n i b<0 then(if(acc.map b_).length<8796093022208 then(some ((acc.map b_)++[b_ l]))else(none))else(if 0≤brk l n i b then(if brk l n i b≤((b_ l).size:Int)then(if(acc.map b_).length<8796093022208 then(aQ.l0 k ((b_ l).extract (brk l n i b:Int).toNat (b_ l).size) 2 ((acc.map b_)++[(b_ l).extract 0 (brk l n i b:Int).toNat]))else(none))else(none))else(none))) V→
  Ev (fun k=>aQ.l1 k (b_ l) (acc.map b_) b (i:Int)) V:=by
 intro n
 induction n with
 |zero=>
  intro i b hn hi hi2 hE;have w1:wrap64 ((i:Int)+1)=(i:Int)+1:=dA (by omega) (by omega);refine vc ?_;simp only[aQ.l1,w1];clear w1;rw[brk]at hE;exact vn (by rw[aV];omega) hE
 |succ n ih=>
  intro i b hn hi hi2 hE;have w1:wrap64 ((i:Int)+1)=(i:Int)+1:=dA (by omega) (by omega);have w2:wrap64 ((i:Int)-1)=(i:Int)-1:=dA (by omega) (by omega);have hs:=aV l;rw[brk]at hE;have go:=ih (i+1) (pR l i b) (by omega) (by omega) (by omega) hE;rw[show((i+1:Nat):Int)=(i:Int)+1 by omega]at go;clear hE ih;refine vc ?_;simp only[aQ.l1,w1,w2];clear w1 w2;refine vp (by omega) (vp (by omega) (vp (by omega) ?_));by_cases c1:bt (b_ l) (i:Int)=32
  ·refine vp c1 (vp (by omega) (vp (by omega) ?_));by_cases c2:bt (b_ l) ((i:Int)-1)=32
   ·refine vp c2 ?_;have e:pR l i b=b:=by unfold pR pz;rw[if_neg (by simp[c2])]
    rw[e]at go;exact go
   ·refine vn c2 (vp (by omega) ?_);by_cases c3:bt (b_ l) ((i:Int)+1)=32
    ·refine vp c3 ?_;have e:pR l i b=b:=by unfold pR pz;rw[if_neg (by simp[c3])]
     rw[e]at go;exact go
    ·refine vn c3 ?_;by_cases c4:b<0
     ·refine vp c4 ?_;have e:pR l i b=(i:Int):=by unfold pR pz;rw[if_pos (by simp[c1,c2,c3,c4])]
      rw[e]at go;exact go
     ·refine vn c4 ?_;by_cases c5:(i:Int)≤40
      ·refine vp c5 ?_;have e:pR l i b=(i:Int):=by unfold pR pz;rw[if_pos (by simp[c1,c2,c3];omega)]
       rw[e]at go;exact go
      ·refine vn c5 ?_;have e:pR l i b=b:=by unfold pR;rw[if_neg (fun h=>by have:=h.2;omega)]
       rw[e]at go;exact go
  ·refine vn c1 ?_;have e:pR l i b=b:=by unfold pR pz;rw[if_neg (by simp[c1])]
   rw[e]at go;exact go
theorem UW:∀(n:Nat) (l:Str) (i:Nat) (acc:List Str),l.length≤n→l.length≤1048576→1≤i→i≤1048579→acc.length+l.length≤2000000→Ev (fun k=>aQ.l0 k (b_ l) (i:Int) (acc.map b_)) ((acc++fl n l i).map b_):=by
 intro n
 induction n with
 |zero=>
  intro l i acc hn hl hi hi2 ha;refine vc ?_;simp only[aQ.l0,aV,List.length_map,fl];exact vn (by omega) (vp (by omega) (vq (vs _) (yj acc l)))
 |succ n ih=>
  intro l i acc hn hl hi hi2 ha;refine vc ?_;simp only[aQ.l0,fl];by_cases c:l.length>40
  ·refine vp (by rw[aV];omega) ?_;rw[if_pos c];have hr:=Ik l i;refine UU l acc hl _ (l.length-1-i) i (-1) rfl hi hi2 ?_;rw[show brk l (l.length-1-i) i (-1)=L6 l i from rfl]
   generalize L6 l i=t at hr
   by_cases d:t<0
   ·rw[if_pos d];exact vp d (vp (by rw[List.length_map];omega) (vq (vs _) (yj acc l)))
   ·rw[if_neg d];obtain⟨m,rfl⟩:=Int.eq_ofNat_of_zero_le (a:=t) (by omega);have h2:=ih (l.drop m) 2 (acc++[l.take m]) (by rw[List.length_drop];omega) (by rw[List.length_drop];omega) (by omega) (by omega) (by rw[List.length_append,List.length_drop];simp;omega);refine vn d (vp (by omega) (vp (by rw[aV];omega) (vp (by rw[List.length_map];omega) ?_)));rw[←yj]at h2;simp only[kU,aV,Int.toNat_natCast,List.drop_zero,Nat.sub_zero]at h2⊢;rw[List.take_of_length_le (l:=l.drop m) (by rw[List.length_drop];omega)];refine vq h2 ?_;simp
  ·refine vn (by rw[aV];omega) ?_;rw[if_neg c];exact vp (by rw[List.length_map];omega) (vq (vs _) (yj acc l))
theorem Sl:(⟨#[58]⟩:ByteArray)=b_ [58]:=rfl
theorem Sr:(⟨#[32]⟩:ByteArray)=b_ [32]:=rfl
theorem KO(f:Str×Str)(h1:f.1.length≤1000)(h2:f.2.length≤1000):Ev (fun k=>aQ.f k (b_ f.1) (b_ f.2)) ((ED f).map b_):=by
 obtain⟨a,b⟩:=f;simp only at h1 h2;unfold aQ.f ED WR;have w:wrap64 ((a.length:Int)+3)=((a.length+3:Nat):Int):=by rw[dA (by omega) (by omega)];omega
 simp only[Sl,Sr,nV,aV,lD,w,List.length_append,List.length_cons,List.length_nil];clear w
 have key:∀l:Str,l.length≤3000→Ev (fun k=>aQ.j0 k (b_ l) ((a.length+3:Nat):Int)) ((fl l.length l (a.length+3)).map b_):=by
  intro l hl;refine vc ?_;simp only[aQ.j0];have:=UW l.length l (a.length+3) [] (Nat.le_refl _) (by omega) (by omega) (by omega) (by simp;omega);exact this
 refine vp (by omega) ?_;by_cases c:b=[]
 ·subst c;refine vp rfl ?_;have:=key (a++[58]) (by simp;omega)
  simpa using this
 ·refine vn c (vp (by omega) (vp (by omega) ?_));have:=key ((a++[58])++([32]++b)) (by simp;omega);rw[if_neg c]
  simpa [Nat.add_assoc,Nat.add_comm,Nat.add_left_comm] using this
theorem YS(l:Str)(hl:l.length≤1048576):∀(n i:Nat) (b:Int),n=l.length-1-i→1≤i→i≤1048579→Ev (fun k=>dW.l0 k (b_ l) b (i:Int)) (brk l n i b):=by
 intro n
 induction n with
 |zero=>
  intro i b hn hi hi2;have w1:wrap64 ((i:Int)+1)=(i:Int)+1:=dA (by omega) (by omega);refine vc ?_;simp only[dW.l0,w1,brk];clear w1;exact vn (by rw[aV];omega) (vs _)
 |succ n ih=>
  intro i b hn hi hi2;have w1:wrap64 ((i:Int)+1)=(i:Int)+1:=dA (by omega) (by omega);have w2:wrap64 ((i:Int)-1)=(i:Int)-1:=dA (by omega) (by omega);have hs:=aV l;have go:=ih (i+1) (pR l i b) (by omega) (by omega) (by omega);rw[show((i+1:Nat):Int)=(i:Int)+1 by omega]at go;rw[brk];clear ih
  have jt:pR l i b=b→Ev (fun k=>dW.j1 k (b_ l) b (i:Int) true) (brk l n (i+1) (pR l i b)):=fun e=>by
   refine vc ?_;simp only[dW.j1,w1];rw[e]at go⊢;exact vp (by simp) go
  refine vc ?_;simp only[dW.l0,w1,w2];refine vp (by omega) (vp (by omega) (vp (by omega) ?_));by_cases c1:bt (b_ l) (i:Int)=32
  ·refine vp c1 (vp (by omega) (vp (by omega) ?_));by_cases c2:bt (b_ l) ((i:Int)-1)=32
   ·exact vp c2 (jt (by unfold pR pz;rw[if_neg (by simp[c2])]))
   ·refine vn c2 (vp (by omega) ?_);by_cases c3:bt (b_ l) ((i:Int)+1)=32
    ·rw[show(bt (b_ l) ((i:Int)+1)==32)=true by simp[c3]];exact jt (by unfold pR pz;rw[if_neg (by simp[c3])])
    ·rw[show(bt (b_ l) ((i:Int)+1)==32)=false by simp[c3]];refine vc ?_;simp only[dW.j1,w1];clear w1 w2;refine vn (by simp) ?_;by_cases c5:(i:Int)≤40
     ·refine vp c5 ?_;have e:pR l i b=(i:Int):=by unfold pR pz;rw[if_pos (by simp[c1,c2,c3];omega)]
      rw[e]at go⊢;exact go
     ·refine vn c5 ?_;by_cases c4:b<0
      ·refine vp c4 ?_;have e:pR l i b=(i:Int):=by unfold pR pz;rw[if_pos (by simp[c1,c2,c3,c4])]
       rw[e]at go⊢;exact go
      ·refine vn c4 ?_;have e:pR l i b=b:=by unfold pR;rw[if_neg (fun h=>by have:=h.2;omega)]
       rw[e]at go⊢;exact go
  ·exact vn c1 (jt (by unfold pR pz;rw[if_neg (by simp[c1])]))
theorem KP:∀(n:Nat) (l:Str) (i:Nat) (acc:List Str),l.length≤n→l.length≤1048576→1≤i→i≤1048578→acc.length+l.length≤2000000→Ev (fun k=>dY.l0 k (acc.map b_) (b_ l) (i:Int)) ((acc++fl n l (i+1)).map b_):=by
 intro n
 induction n with
 |zero=>
  intro l i acc hn hl hi hi2 ha;refine vc ?_;simp only[dY.l0,aV,List.length_map,fl];exact vn (by omega) (vp (by omega) (vq (vs _) (yj acc l)))
 |succ n ih=>
  intro l i acc hn hl hi hi2 ha;refine vc ?_;simp only[dY.l0,fl];by_cases c:l.length>40
  ·refine vp (by rw[aV];omega) ?_;rw[if_pos c];have hr:=Ik l (i+1)
   have hb:Ev (fun k=>dW.f k (b_ l) (i:Int)) (L6 l (i+1)):=by
    unfold dW.f;rw[show wrap64 ((i:Int)+1)=((i+1:Nat):Int) by rw[dA (by omega) (by omega)];omega];exact YS l hl (l.length-1-(i+1)) (i+1) (-1) rfl (by omega) (by omega)
   refine vb hb ?_
   generalize L6 l (i+1)=t at hr
   by_cases d:t<0
   ·rw[if_pos d];exact vp d (vp (by rw[List.length_map];omega) (vq (vs _) (yj acc l)))
   ·rw[if_neg d];obtain⟨m,rfl⟩:=Int.eq_ofNat_of_zero_le (a:=t) (by omega);have h2:=ih (l.drop m) 1 (acc++[l.take m]) (by rw[List.length_drop];omega) (by rw[List.length_drop];omega) (by omega) (by omega) (by rw[List.length_append,List.length_drop];simp;omega);refine vn d (vp (by omega) (vp (by rw[aV];omega) (vp (by rw[List.length_map];omega) ?_)));rw[←yj]at h2;simp only[kU,aV,Int.toNat_natCast,List.drop_zero,Nat.sub_zero]at h2⊢;rw[List.take_of_length_le (l:=l.drop m) (by rw[List.length_drop];omega)];refine vq h2 ?_;simp
  ·refine vn (by rw[aV];omega) ?_;rw[if_neg c];exact vp (by rw[List.length_map];omega) (vq (vs _) (yj acc l))
def fv(f:Str×Str):Bool:=GI f.1&&(kM f.2&&(decide (f.2.length≤150)&&decide (trim f.2=f.2)))
def fvs(fs:List (Str×Str)):Bool:=decide (fs.length≤20)&&fs.all fv
theorem YT{f:Str×Str}(h:fv f=true):f.1.length≤30∧f.2.length≤150:=by
 unfold fv at h;simp only[Bool.and_eq_true,decide_eq_true_iff]at h;exact⟨WA h.1,h.2.2.1⟩
theorem L8{f:Str×Str}(h:fv f=true):(ED f).length≤183:=by
 have:=YT h;have h2:=afv (WR f).length (WR f) (f.1.length+3) (by omega)
 have h3:(WR f).length≤f.1.length+2+f.2.length:=by
  unfold WR;by_cases c:f.2=[]
  ·rw[if_pos c];simp;omega
  ·rw[if_neg c];simp;omega
 unfold ED;omega
theorem UY(l:Str)(hl:l.length≤1000000000):jm.f (b_ l) (⟨#[32]⟩:ByteArray)=some (b_ (trim l)):=by
 unfold jm.f;rw[if_pos rfl,if_pos (by rw[aV];omega)];rfl
theorem Il(f:Str×Str)(h1:f.1.length≤1048576)(h2:f.2.length≤1048576):Ev (fun k=>nS.f k (b_ f.1) (b_ f.2)) (fv f):=by
 unfold nS.f fv;refine vb (FM f.1 (by omega)) ?_
 cases GI f.1 with
 |false=>exact vn (by simp) (vs _)
 |true=>
  refine vp rfl (vb (nR f.2 (by omega)) ?_)
  cases kM f.2 with
  |false=>exact vn (by simp) (vs _)
  |true=>
   refine vp rfl ?_;rw[aV];by_cases c:f.2.length≤150
   ·refine vp (by omega) (jZ (UY f.2 (by omega)) (vq (vs _) ?_));rw[lD,lD,Gp,decide_eq_true c];simp
   ·refine vn (by omega) (vq (vs _) ?_);rw[decide_eq_false c];simp
theorem Aq(f:Str×Str)(h1:f.1.length≤1048576)(h2:f.2.length≤1048576):Ev (fun k=>jT.f k (b_ f.1) (b_ f.2)) (fv f):=by
 unfold jT.f fv;refine vb (FN f.1 (by omega)) ?_
 cases GI f.1 with
 |false=>exact vn (by simp) (vs _)
 |true=>
  refine vp rfl (vb (o9 f.2 (by omega)) ?_)
  cases kM f.2 with
  |false=>exact vn (by simp) (vs _)
  |true=>
   refine vp rfl ?_;rw[aV];by_cases c:f.2.length≤150
   ·refine vp (by omega) (vb (qy f.2 (by omega)) (vq (vs _) ?_));rw[lD,lD,Gp,decide_eq_true c];simp
   ·refine vn (by omega) (vq (vs _) ?_);rw[decide_eq_false c];simp
theorem EN(ls:List (Str×Str))(hs:small ls)(hn:ls.length≤1048576)(r:List (Str×Str)):∀p,ls=p++r→∃v:Int,Ev (fun k=>bP.l0 k (ls.map sV) (ls.length:Int) (p.length:Int)) v∧decide (v≥0)= !(r.all fv):=by
 induction r with
 |nil=>
  intro p h;have hz:ls.length=p.length:=by rw[h,List.append_nil]
  refine⟨-1,vc ?_,rfl⟩;simp only[bP.l0];exact vn (by omega) (vs _)
 |cons c r ih=>
  intro p h;have hz:=gJ h;have e1:=uD h;have hc:=hs c (by rw[h];simp);have w1:wrap64 ((p.length:Int)+1)=(p.length:Int)+1:=dA (by omega) (by omega);obtain⟨v,hv,hv2⟩:=ih (p++[c]) (by rw[h];simp);rw[jA]at hv;have h1:Ev (fun k=>mX.f k (b_ c.1) (b_ c.2)) (!fv c):=vb (Il c hc.1 hc.2) (vs _)
  cases e:fv c with
  |true=>
   rw[e]at h1;refine⟨v,vc ?_,by rw[hv2,List.all_cons,e];rfl⟩;simp only[bP.l0,e1,w1,List.length_map];clear w1;exact vp (by omega) (vp (by omega) (vp (by omega) (vb h1 (vn (by simp) hv))))
  |false=>
   rw[e]at h1;refine⟨p.length,vc ?_,by rw[List.all_cons,e];simp⟩;simp only[bP.l0,e1,w1,List.length_map];clear w1;exact vp (by omega) (vp (by omega) (vp (by omega) (vb h1 (vp (by simp) (vs _)))))
theorem GV(ls:List (Str×Str))(hs:small ls)(hn:ls.length≤1048576):Ev (fun k=>lG.f k (ls.map sV)) (fvs ls):=by
 unfold lG.f jk.f bP.f fvs;rw[List.length_map];by_cases c:ls.length≤20
 ·obtain⟨v,hv,hv2⟩:=EN ls hs hn ls [] rfl;refine vp (by omega) (vb (vb hv (vs _)) (vq (vs _) ?_));rw[hv2,decide_eq_true c];simp
 ·refine vn (by omega) (vq (vs _) ?_);rw[decide_eq_false c];rfl
theorem KQ(ls:List (Str×Str))(hs:small ls)(hn:ls.length≤1048576)(r:List (Str×Str)):∀p,ls=p++r→Ev (fun k=>eP.l0 k (ls.map sV) (p.length:Int)) (decide (ls.length≤20)&&r.all fv):=by
 have out:∀i:Int,Ev (fun k=>eP.j1 k (ls.map sV) i false) (decide (ls.length≤20)):=fun i=>by
  refine vc ?_;simp only[eP.j1,List.length_map];refine vn (by simp) (vq (vs _) ?_);exact decide_eq_decide.mpr (by omega)
 induction r with
 |nil=>
  intro p h;have hz:ls.length=p.length:=by rw[h,List.append_nil]
  refine vc ?_;simp only[eP.l0,List.length_map];refine vn (by omega) (vq (out _) (by simp))
 |cons c r ih=>
  intro p h;have hz:=gJ h;have e1:=uD h;have hc:=hs c (by rw[h];simp);have w1:wrap64 ((p.length:Int)+1)=(p.length:Int)+1:=dA (by omega) (by omega);have hv:=ih (p++[c]) (by rw[h];simp);rw[jA]at hv;have h1:=Aq c hc.1 hc.2;refine vc ?_;simp only[eP.l0,List.length_map];refine vp (by omega) ?_;by_cases c2:p.length≤20
  ·rw[show decide ((p.length:Int)≤20)=true from decide_eq_true (by omega)];refine vc ?_;simp only[eP.j1,List.length_map,e1,w1];clear w1;refine vp trivial (vp (by omega) (vp (by omega) (vb h1 ?_)))
   cases e:fv c with
   |true=>exact vp rfl (vq hv (by rw[List.all_cons,e,Bool.true_and]))
   |false=>exact vn (by simp) (vq (vs _) (by rw[List.all_cons,e];simp))
  ·rw[show decide ((p.length:Int)≤20)=false from decide_eq_false (by omega)];exact vq (out _) (by rw[decide_eq_false (by omega)];rfl)
theorem yF(ls:List (Str×Str))(hs:small ls)(hn:ls.length≤1048576):Ev (fun k=>eP.f k (ls.map sV)) (fvs ls):=KQ ls hs hn ls [] rfl
theorem FY(ls:List (Str×Str))(hv:ls.all fv=true)(hn:ls.length≤20)(r:List (Str×Str)):∀(p:List (Str×Str)) (acc:List Str),ls=p++r→acc.length≤183*p.length→Ev (fun k=>gU.l0 k (acc.map b_) (ls.map sV) (ls.length:Int) (p.length:Int)) ((acc++r.flatMap ED).map b_,true):=by
 induction r with
 |nil=>
  intro p acc h ha;have hz:ls.length=p.length:=by rw[h,List.append_nil]
  refine vc ?_;simp only[gU.l0];exact vn (by omega) (vq (vs _) (by simp))
 |cons c r ih=>
  intro p acc h ha;have hz:=gJ h;have e1:=uD h;have hc:fv c=true:=List.all_eq_true.mp hv c (by rw[h];simp);have hl:=YT hc;have hf:=L8 hc;have w1:wrap64 ((p.length:Int)+1)=(p.length:Int)+1:=dA (by omega) (by omega);have hv:=ih (p++[c]) (acc++ED c) (by rw[h];simp) (by simp only[List.length_append,List.length_singleton];omega);rw[jA,List.map_append]at hv;refine vc ?_;simp only[gU.l0,List.length_map,e1,w1];clear w1;exact vp (by omega) (vp (by omega) (vp (by omega) (vb (KO c (by omega) (by omega)) (vp (by simp only[List.length_map];omega) (vq hv (by simp))))))
def folds(ls:List (Str×Str)):List Str:=ls.flatMap ED
theorem L9(ls:List (Str×Str))(h:fvs ls=true):(folds ls).length≤3660:=by
 unfold fvs at h;simp only[Bool.and_eq_true,decide_eq_true_iff]at h
 have key:∀r:List (Str×Str),r.all fv=true→(r.flatMap ED).length≤183*r.length:=by
  intro r
  induction r with
  |nil=>intro _;simp
  |cons c r ih=>
   intro h;rw[List.all_cons,Bool.and_eq_true]at h;have:=ih h.2;have:=L8 h.1;rw[List.flatMap_cons,List.length_append,List.length_cons];omega
 have:=key ls h.2;unfold folds;omega
theorem uN(ls:List (Str×Str))(hs:small ls)(hn:ls.length≤1048576):Ev (fun k=>gU.f k (ls.map sV)) (if fvs ls=true then((folds ls).map b_,true)else([],false)):=by
 unfold gU.f;refine vb (GV ls hs hn) ?_
 cases e:fvs ls with
 |false=>exact vn (by simp) (vs _)
 |true=>
  rw[List.length_map];unfold fvs at e;simp only[Bool.and_eq_true,decide_eq_true_iff]at e;exact vp rfl (FY ls e.2 e.1 ls [] [] rfl (by simp))
theorem KR(f:Str×Str)(hf:fv f=true):Ev (fun k=>dY.f k (b_ f.1) (b_ f.2)) ((ED f).map b_):=by
 have hl:=YT hf;have hx:=Aq f (by omega) (by omega);rw[hf]at hx;obtain⟨a,b⟩:=f;simp only at hl;unfold dY.f ED WR
 have key:∀l:Str,l.length≤3000→Ev (fun k=>dY.j0 k [] (b_ l) ((a.length+2:Nat):Int)) ((fl l.length l (a.length+3)).map b_):=by
  intro l hl;refine vc ?_;simp only[dY.j0];have:=KP l.length l (a.length+2) [] (Nat.le_refl _) (by omega) (by omega) (by omega) (by simp;omega);exact this
 refine vb (vs _) (vb hx (vp rfl ?_));have w:wrap64 (((a.length+1:Nat):Int)+1)=((a.length+2:Nat):Int):=by rw[dA (by omega) (by omega)];omega
 simp only[Sl,Sr,nV,aV,lD,List.length_append,List.length_cons,List.length_nil];refine vp (by omega) ?_;by_cases c:b=[]
 ·subst c;refine vp rfl ?_;refine vc ?_;simp only[dY.j0];have:=KP (a++[58]).length (a++[58]) (a.length+1) [] (Nat.le_refl _) (by simp;omega) (by omega) (by omega) (by simp;omega)
  have e:fl (a++[58]).length (a++[58]) (a.length+1+1)=fl (a++[58]).length (a++[58]) (a.length+3):=by
   have g:∀(n i j:Nat),fl n (a++[58]) i=fl n (a++[58]) j:=fun n i j=>by
    cases n with
    |zero=>rfl
    |succ n=>rw[fl,fl,if_neg (by simp;omega),if_neg (by simp;omega)]
   exact g _ _ _
  rw[e]at this
  simpa using this
 ·refine vn c (vp (by omega) (vp (by omega) ?_));have:=key ((a++[58])++[32]++b) (by simp;omega);rw[if_neg c,w]
  simpa [Nat.add_assoc,Nat.add_comm,Nat.add_left_comm] using this
theorem FZ(ls:List (Str×Str))(hv:ls.all fv=true)(hn:ls.length≤20)(r:List (Str×Str)):∀(p:List (Str×Str)) (acc:List Str),ls=p++r→acc.length≤183*p.length→Ev (fun k=>gu.l0 k (ls.map sV) (acc.map b_) (p.length:Int)) ((acc++r.flatMap ED).map b_,true):=by
 induction r with
 |nil=>
  intro p acc h ha;have hz:ls.length=p.length:=by rw[h,List.append_nil]
  refine vc ?_;simp only[gu.l0,List.length_map];exact vn (by omega) (vq (vs _) (by simp))
 |cons c r ih=>
  intro p acc h ha;have hz:=gJ h;have e1:=uD h;have hc:fv c=true:=List.all_eq_true.mp hv c (by rw[h];simp);have hf:=L8 hc;have w1:wrap64 ((p.length:Int)+1)=(p.length:Int)+1:=dA (by omega) (by omega);have hv:=ih (p++[c]) (acc++ED c) (by rw[h];simp) (by simp only[List.length_append,List.length_singleton];omega);rw[jA,List.map_append]at hv;refine vc ?_;simp only[gu.l0,List.length_map,e1,w1];clear w1;exact vp (by omega) (vp (by omega) (vb (KR c hc) (vp (by simp only[List.length_map];omega) (vq hv (by simp)))))
theorem Io(ls:List (Str×Str))(hs:small ls)(hn:ls.length≤1048576):Ev (fun k=>gu.f k (ls.map sV)) (if fvs ls=true then((folds ls).map b_,true)else([],false)):=by
 unfold gu.f;refine vb (vs _) (vb (yF ls hs hn) ?_)
 cases e:fvs ls with
 |false=>exact vn (by simp) (vs _)
 |true=>
  unfold fvs at e;simp only[Bool.and_eq_true,decide_eq_true_iff]at e;exact vp rfl (FZ ls e.2 e.1 ls [] [] rfl (by simp))
def ctype:Str:=[67,111,110,116,101,110,116,45,84,121,112,101]
def bF(fs:List (Str×Str)):Str×Bool:=match pk (wZ fs ctype).1 with
 |none=>([],false)
 |some x=>Nu x.1 x.2.1 x.2.2
theorem Sv:(⟨#[67,111,110,116,101,110,116,45,84,121,112,101]⟩:ByteArray)=b_ ctype:=rfl
theorem UZ{fs:List (Str×Str)}(h:(bF fs).2=true):FI (bF fs).1=true:=by
 unfold bF at h⊢
 cases e:pk (wZ fs ctype).1 with
 |none=>rw[e]at h;cases h
 |some x=>
  rw[e]at h;simp only at h⊢;unfold Nu at h⊢;by_cases c:sU x.1 x.2.1 x.2.2=true∧x.1=multi∧FI (wZ x.2.2 bnd).1=true
  ·rw[if_pos c];exact c.2.2
  ·rw[if_neg c]at h;cases h
theorem anh:pk []=none:=by decide
theorem F5{l:Str}(h:isSmall l=true):l.length≤30:=by
 unfold isSmall at h;rw[Bool.and_eq_true]at h;exact WA h.1
theorem WS{s:Str}{x:Str×Str×List (Str×Str)}(h:pk s=some x):x.1.length≤1048576∧x.2.1.length≤1048576∧Dj x.2.2≤1048576∧x.2.2.length≤1048576:=by
 obtain⟨a,b,ps⟩:=x;have hv:=afp h;have h1:=KA hv;have h2:=abf ps [] h1.2.2.2.1
 have key:∀q:List (Str×Str),(∀p∈q,isSmall p.1=true∧kM p.2=true∧p.2.length≤40)→Dj q≤70*q.length:=by
  intro q
  induction q with
  |nil=>intro _;simp[Dj]
  |cons c q ih=>
   intro h;have h3:=h c (by simp);have h4:=ih fun p hp=>h p (by simp[hp])
   have h5:=F5 h3.1;rw[Dj,List.length_cons];omega
 have h3:=key ps h2;have h4:=F5 h1.1;have h5:=F5 h1.2.1;refine⟨?_,?_,?_,?_⟩<;>(simp only;omega)
theorem EO(fs:List (Str×Str))(hs:small fs)(hn:fs.length≤1048576)(bb:List ByteArray)(kk:List pq):Ev (fun k=>ku.f k (fs.map sV) bb kk) (b_ (bF fs).1,(bF fs).2):=by
 unfold ku.f bF;rw[Sv];refine vb (CX fs ctype hs (by decide) hn) (vb (Kz _ (Eh fs ctype hs)) ?_)
 cases e:pk (wZ fs ctype).1 with
 |none=>exact vn (by simp[Nv]) (vs _)
 |some x=>
  have hx:=WS e;exact vp rfl (vb (Ig x.1 x.2.1 x.2.2 hx.1 hx.2.1 hx.2.2.1 hx.2.2.2) (vs _))
theorem Ar(fs:List (Str×Str))(hs:small fs)(hn:fs.length≤1048576):Ev (fun k=>jE.f k (fs.map sV)) (b_ (bF fs).1,(bF fs).2):=by
 unfold jE.f;rw[Sv];refine vb (CY fs ctype hs (by decide) hn) (vb (KE _ (Eh fs ctype hs)) ?_);unfold bF
 cases e:pk (wZ fs ctype).1 with
 |none=>
  refine vb (Ai [] [] [] (by simp) (by simp) (by simp[Dj]) (by simp)) ?_
  cases (wZ fs ctype).2 with
  |true=>exact vp rfl (vn (by simp[Nv]) (vs _))
  |false=>exact vn (by simp) (vs _)
 |some x=>
  have hx:=WS e;refine vb (Ai x.1 x.2.1 x.2.2 hx.1 hx.2.1 hx.2.2.1 hx.2.2.2) ?_
  cases g:(wZ fs ctype).2 with
  |true=>exact vp rfl (vp rfl (vs _))
  |false=>rw[RJ fs ctype g,anh]at e;cases e
def kl(g:Pt→Option (List Str)):List Pt→Option (List (List Str))
 |[]=>some []
 |p:: r=>match g p with
  |none=>none
  |some a=>(kl g r).map (a:: ·)
def tbs(b:List Str):Bool:=decide (b.length≤30)&&b.all kM
def head(f:List (Str×Str)):List Str:=folds f++[[]]
def lines:Nat→Pt→Option (List Str)
 |0,_=>none
 |d+1, .mk f b k=>if fvs f=true then(if(bF f).2=true then(if b=[]∧1≤k.length∧k.length≤4 then(match kl (lines d) k with
   |none=>none
   |some ls=>(jR (bF f).1 ls).map (head f++ ·))else none)else(if k=[]∧tbs b=true then some (head f++b)else none))else none
theorem YU{g:Pt→Option (List Str)}{N:Nat}:∀{k:List Pt} {ls:List (List Str)},kl g k=some ls→(∀p∈k,∀a,g p=some a→a.length≤N)→ls.length=k.length∧tl ls≤(N+1)*k.length
 |[],ls,h,_=>by
  rw[kl]at h;cases h;simp[tl]
 |p:: r,ls,h,hN=>by
  rw[kl]at h
  cases e:g p with
  |none=>rw[e]at h;cases h
  |some a=>
   rw[e]at h
   cases e2:kl g r with
   |none=>rw[e2]at h;cases h
   |some l=>
    rw[e2]at h;cases h;have h1:=YU e2 fun q hq=>hN q (by simp[hq])
    have h2:=hN p (by simp) a e;rw[List.length_cons,List.length_cons,tl,Nat.mul_succ];omega
def lN:Nat→Nat
 |0=>4000
 |d+1=>4*lN d+4000
theorem WT{d:Nat}(h:d≤3):lN d≤500000:=by
 rcases d with _|_|_|_|d
 ·decide
 ·decide
 ·decide
 ·decide
 ·omega
theorem YV{b:Str}{ps:List (List Str)}{s:List Str}(h:jR b ps=some s):s.length=tl ps+1:=by
 unfold jR at h;split at h
 ·cases h;rw[List.length_append,Qh];rfl
 ·cases h
theorem Ql{f:List (Str×Str)}(h:fvs f=true):(head f).length≤3661:=by
 have:=L9 f h;unfold head;rw[List.length_append,List.length_singleton];omega
theorem xg:∀(d:Nat) (p:Pt) (ls:List Str),lines d p=some ls→ls.length≤lN d
 |0,p,ls,h=>by rw[lines]at h;cases h
 |d+1, .mk f b k,ls,h=>by
  rw[lines]at h;by_cases c:fvs f=true
  ·rw[if_pos c]at h;have h1:=Ql c;by_cases c1:(bF f).2=true
   ·rw[if_pos c1]at h;by_cases c2:b=[]∧1≤k.length∧k.length≤4
    ·rw[if_pos c2]at h
     cases e:kl (lines d) k with
     |none=>rw[e]at h;cases h
     |some l=>
      rw[e]at h;simp only at h;have h2:=YU e (N:=lN d) fun p _ a h=>xg d p a h
      cases e2:jR (bF f).1 l with
      |none=>rw[e2]at h;cases h
      |some s=>
       rw[e2]at h;cases h;have h3:=YV e2;have h4:(lN d+1)*k.length≤(lN d+1)*4:=Nat.mul_le_mul_left _ c2.2.2;rw[List.length_append,lN];omega
    ·rw[if_neg c2]at h;cases h
   ·rw[if_neg c1]at h;by_cases c2:k=[]∧tbs b=true
    ·rw[if_pos c2]at h;cases h;have h2:=c2.2;unfold tbs at h2;simp only[Bool.and_eq_true,decide_eq_true_iff]at h2;rw[List.length_append,lN];omega
    ·rw[if_neg c2]at h;cases h
  ·rw[if_neg c]at h;cases h
theorem Ip(ls:List Str)(hs:∀x∈ls,x.length≤1048576)(hn:ls.length≤1048576)(r:List Str):∀p,ls=p++r→∃v:Int,Ev (fun k=>aT.l0 k (ls.map b_) (ls.length:Int) (p.length:Int)) v∧decide (v≥0)= !(r.all kM):=by
 induction r with
 |nil=>
  intro p h;have hz:ls.length=p.length:=by rw[h,List.append_nil]
  refine⟨-1,vc ?_,rfl⟩;simp only[aT.l0];exact vn (by omega) (vs _)
 |cons c r ih=>
  intro p h;have hz:=gJ h;have e1:=uz h;have hc:=hs c (by rw[h];simp);have w1:wrap64 ((p.length:Int)+1)=(p.length:Int)+1:=dA (by omega) (by omega);obtain⟨v,hv,hv2⟩:=ih (p++[c]) (by rw[h];simp);rw[jA]at hv;have h1:Ev (fun k=>oV.f k (b_ c)) (!kM c):=vb (nR c (by omega)) (vs _)
  cases e:kM c with
  |true=>
   rw[e]at h1;refine⟨v,vc ?_,by rw[hv2,List.all_cons,e];rfl⟩;simp only[aT.l0,e1,w1,List.length_map];clear w1;exact vp (by omega) (vp (by omega) (vp (by omega) (vb h1 (vn (by simp) hv))))
  |false=>
   rw[e]at h1;refine⟨p.length,vc ?_,by rw[List.all_cons,e];simp⟩;simp only[aT.l0,e1,w1,List.length_map];clear w1;exact vp (by omega) (vp (by omega) (vp (by omega) (vb h1 (vp (by simp) (vs _)))))
theorem L_(ls:List Str)(hs:∀x∈ls,x.length≤1048576)(hn:ls.length≤1048576):Ev (fun k=>pG.f k (ls.map b_) 30) (tbs ls):=by
 unfold pG.f fB.f aT.f tbs;rw[List.length_map];by_cases c:ls.length≤30
 ·obtain⟨v,hv,hv2⟩:=Ip ls hs hn ls [] rfl;refine vp (by omega) (vb (vb hv (vs _)) (vq (vs _) ?_));rw[hv2,decide_eq_true c];simp
 ·refine vn (by omega) (vq (vs _) ?_);rw[decide_eq_false c];rfl
def lr(o:Option (List Str))(v:List ByteArray×Bool):Prop:=match o with
 |some ls=>v=(ls.map b_,true)
 |none=>v.2=false
theorem Dc{f:List (Str×Str)}{b:List Str}{k:List Pt}(h:KN (.mk f b k)≤1048576):small f∧f.length≤1048576∧(∀x∈b,x.length≤1048576)∧b.length≤1048576∧k.length≤1048576∧∀p∈k,KN p≤1048576:=by
 rw[KN]at h;exact⟨CW (by omega),by omega,fun x hx=>by have:=ait hx;omega,by omega,by omega,fun p hp=>by have:=Qj hp;omega⟩
theorem WU(f:List (Str×Str)):(folds f).map b_++[(⟨#[]⟩:ByteArray)]=(head f).map b_:=by
 unfold head;rw[List.map_append];rfl
theorem WV(acc:List (List Str))(l:List Str):acc.map (List.map b_)++[l.map b_]=(acc++[l]).map (List.map b_):=by rw[List.map_append];rfl
theorem NG:∀(d:Nat) (p:Pt),d≤3→KN p≤1048576→∃v,Ev (fun k=>aJ.f k (e32 p).f0 (e32 p).f1 (e32 p).f2 (d:Int)) v∧lr (lines d p) v:=by
 have bad:∀(d:Int) (X:List ByteArray) (F:List jl) (B:List ByteArray) (K:List pq),Ev (fun k=>aJ.j0 k d X true F B K) ([],false):=fun d X F B K=>by
  refine vc ?_;simp only[aJ.j0];exact vp trivial (vs _)
 intro d
 induction d with
 |zero=>
  intro p hd hp;obtain⟨f,b,k⟩:=p;obtain⟨hf,hfn,-⟩:=Dc hp;simp only[Ej];refine⟨([],false),vc ?_,rfl⟩;simp only[aJ.f];refine vb (uN f hf hfn) ?_;by_cases c:fvs f=true
  ·rw[if_pos c];exact vp rfl (bad _ _ _ _ _)
  ·rw[if_neg c];exact vn (by simp) (bad _ _ _ _ _)
 |succ d ih=>
  intro p hd hp;obtain⟨f,b,k⟩:=p;obtain⟨hf,hfn,hb,hbn,hkn,hk⟩:=Dc hp;simp only[Ej];rw[lines];by_cases c:fvs f=true
  case neg=>
   rw[if_neg c];refine⟨([],false),vc ?_,rfl⟩;simp only[aJ.f];refine vb (uN f hf hfn) ?_;rw[if_neg c];exact vn (by simp) (bad _ _ _ _ _)
  rw[if_pos c];have hh:=Ql c;have hfo:=L9 f c
  have go:∀v,Ev (fun n=>if(bF f).2=true then(if(b.length:Int)>0 then aJ.j1 n ((d+1:Nat):Int) ((head f).map b_) (b_ (bF f).1) true (f.map sV) (b.map b_) (k.map e32)else(if(k.length:Int)<1 then aJ.j1 n ((d+1:Nat):Int) ((head f).map b_) (b_ (bF f).1) true (f.map sV) (b.map b_) (k.map e32)else aJ.j1 n ((d+1:Nat):Int) ((head f).map b_) (b_ (bF f).1) (decide ((k.length:Int)>4)) (f.map sV) (b.map b_) (k.map e32)))else(if((head f).map b_).length+(b.map b_).length<8796093022208 then(some ((head f).map b_++b.map b_:List ByteArray)).bind fun y=>(if(k.length:Int)=0 then((pG.f n (b.map b_) 30).bind fun t=>some (y,t))else some (y,false))else none)) v→Ev (fun n=>aJ.f n (f.map sV) (b.map b_) (k.map e32) ((d+1:Nat):Int)) v:=by
   intro v hv;refine vc ?_;simp only[aJ.f];refine vb (uN f hf hfn) ?_;rw[if_pos c];refine vp rfl ?_;rw[show(((d+1:Nat):Int)==0)=false by simp;omega];refine vc ?_;simp only[aJ.j0];refine vn (by simp) (vp (by rw[List.length_map];omega) (vb (vs _) (vb (EO f hf hfn _ _) ?_)));rw[WU];simp only[List.length_map]at hv⊢;exact hv
  have YW:∀(X:List ByteArray) (B:ByteArray),Ev (fun n=>aJ.j1 n ((d+1:Nat):Int) X B true (f.map sV) (b.map b_) (k.map e32)) ([],false):=fun X B=>by
   refine vc ?_;simp only[aJ.j1];exact vp trivial (vs _)
  by_cases c1:(bF f).2=true
  ·rw[if_pos c1];by_cases c2:b=[]∧1≤k.length∧k.length≤4
   ·rw[if_pos c2];obtain⟨rfl,hk1,hk4⟩:=c2;have hbd:=PX (UZ c1);have hN:=WT (d:=d) (by omega)
    have key:∀(r p:List Pt) (acc:List (List Str)),k=p++r→acc.length=p.length→tl acc≤(lN d+1)*p.length→∃v,Ev (fun n=>aJ.l0 n ((d+1:Nat):Int) ((head f).map b_) (b_ (bF f).1) (acc.map (List.map b_)) (k.map e32) (k.length:Int) (p.length:Int)) v∧lr (match kl (lines d) r with
      |none=>none
      |some ls=>(jR (bF f).1 (acc++ls)).map (head f++ ·)) v:=by
     intro r
     induction r with
     |nil=>
      intro p acc h ha ht;have hz:k.length=p.length:=by rw[h,List.append_nil]
      have ht2:(lN d+1)*p.length≤(lN d+1)*4:=Nat.mul_le_mul_left _ (by omega);have hj:=KG acc (bF f).1 (by omega) (by omega);rw[kl];simp only[List.append_nil]
      cases e:jR (bF f).1 acc with
      |none=>
       rw[e]at hj;refine⟨((head f).map b_++[],false),vc ?_,rfl⟩;simp only[aJ.l0];exact vn (by omega) (vb hj (vp (by rw[List.length_map];simp only[LZ,List.length_nil];omega) (vs _)))
      |some s=>
       rw[e]at hj;have hs:=YV e;refine⟨((head f).map b_++s.map b_,true),vc ?_,by simp[lr]⟩;simp only[aJ.l0];exact vn (by omega) (vb hj (vp (by rw[List.length_map];simp only[LZ,List.length_map];omega) (vs _)))
     |cons q r ihr=>
      intro p acc h ha ht;have hz:=gJ h;have e1:=KL h;have w1:wrap64 ((p.length:Int)+1)=(p.length:Int)+1:=dA (by omega) (by omega);have w2:wrap64 (((d+1:Nat):Int)-1)=(d:Int):=by rw[dA (by omega) (by omega)];omega
      obtain⟨u,hu,hr⟩:=ih q (by omega) (hk q (by rw[h];simp));rw[kl]
      cases e:lines d q with
      |none=>
       rw[e]at hr;refine⟨([],false),vc ?_,rfl⟩;simp only[aJ.l0,List.length_map,e1,w1,w2];clear w1 w2;exact vp (by omega) (vp (by omega) (vp (by omega) (vb hu (vn (by rw[show u.2=false from hr];simp) (vs _)))))
      |some a=>
       rw[e]at hr;have hr:u=(a.map b_,true):=hr;subst hr;have hla:=xg d q a e;obtain⟨v,hv,hv2⟩:=ihr (p++[q]) (acc++[a]) (by rw[h];simp) (by simp[ha]) (by rw[CU,List.length_append,List.length_singleton,Nat.mul_add];simp only[tl];omega);rw[jA,←WV]at hv;refine⟨v,vc ?_,?_⟩
       ·simp only[aJ.l0,List.length_map,e1,w1,w2];clear w1 w2;exact vp (by omega) (vp (by omega) (vp (by omega) (vb hu (vp rfl (vp (by omega) hv)))))
       ·simp only
        cases e2:kl (lines d) r with
        |none=>rw[e2]at hv2;exact hv2
        |some l=>
         rw[e2]at hv2
         simpa using hv2
    obtain⟨v,hv,hv2⟩:=key k [] [] rfl rfl (by simp[tl]);refine⟨v,go v (vp c1 (vn (by simp) (vn (by omega) ?_))),hv2⟩;rw[show decide ((k.length:Int)>4)=false from decide_eq_false (by omega)];refine vc ?_;simp only[aJ.j1,List.length_map];exact vn (by simp) hv
   ·rw[if_neg c2];refine⟨([],false),go _ (vp c1 ?_),rfl⟩;by_cases c3:(b.length:Int)>0
    ·exact vp c3 (YW _ _)
    ·refine vn c3 ?_;have hb0:b=[]:=List.length_eq_zero_iff.mp (by omega);by_cases c4:(k.length:Int)<1
     ·exact vp c4 (YW _ _)
     ·refine vn c4 ?_
      rw[show decide ((k.length:Int)>4)=true from decide_eq_true (by
       apply Classical.byContradiction;intro h;exact c2 ⟨hb0,by omega,by omega⟩)]
      exact YW _ _
  ·rw[if_neg c1];have hlen:((head f).map b_).length+(b.map b_).length<8796093022208:=by simp only[List.length_map];omega
   by_cases c3:k=[]
   ·subst c3;refine⟨((head f).map b_++b.map b_,tbs b),go _ (vn c1 (vp hlen (vb (vs _) (vp rfl (vb (L_ b hb hbn) (vs _)))))),?_⟩
    cases e:tbs b with
    |true=>simp[lr]
    |false=>simp[lr]
   ·have hk0:¬(k.length:Int)=0:=fun h=>c3 (List.length_eq_zero_iff.mp (by omega))
    refine⟨((head f).map b_++b.map b_,false),go _ (vn c1 (vp hlen (vb (vs _) (vn hk0 (vs _))))),?_⟩;rw[if_neg (fun h=>c3 h.1)];rfl
theorem Df:∀(d:Nat) (p:Pt) (ls:List Str),d≤3→KN p≤1048576→lines d p=some ls→Ev (fun k=>fV.f k (e32 p).f0 (e32 p).f1 (e32 p).f2) (ls.map b_):=by
 intro d
 induction d with
 |zero=>intro p ls hd hp h;rw[lines]at h;cases h
 |succ d ih=>
  intro p ls hd hp h;obtain⟨f,b,k⟩:=p;obtain⟨hf,hfn,hb,hbn,hkn,hk⟩:=Dc hp;simp only[Ej];rw[lines]at h;by_cases c:fvs f=true
  case neg=>rw[if_neg c]at h;cases h
  rw[if_pos c]at h;have hh:=Ql c;have hfo:=L9 f c;refine vc ?_;simp only[fV.f];refine vb (Io f hf hfn) ?_;rw[if_pos c];refine vp (by rw[List.length_map];omega) (vb (vs _) (vb (Ar f hf hfn) ?_));simp only[WU];by_cases c1:(bF f).2=true
  ·rw[if_pos c1]at h;by_cases c2:b=[]∧1≤k.length∧k.length≤4
   case neg=>rw[if_neg c2]at h;cases h
   rw[if_pos c2]at h;obtain⟨rfl,hk1,hk4⟩:=c2;have hbd:=PX (UZ c1);have hN:=WT (d:=d) (by omega)
   cases e:kl (lines d) k with
   |none=>rw[e]at h;cases h
   |some l=>
   rw[e]at h;simp only at h
   cases e2:jR (bF f).1 l with
   |none=>rw[e2]at h;cases h
   |some s=>
   rw[e2]at h;cases h
   have key:∀(r p:List Pt) (acc m:List (List Str)),k=p++r→acc.length=p.length→tl acc≤(lN d+1)*p.length→kl (lines d) r=some m→l=acc++m→Ev (fun n=>fV.l0 n ((head f).map b_) (b_ (bF f).1) (acc.map (List.map b_)) (p.length:Int) (f.map sV) (([]:List Str).map b_) (k.map e32)) ((head f++s).map b_):=by
    intro r
    induction r with
    |nil=>
     intro p acc m h ha ht hm hl;have hz:k.length=p.length:=by rw[h,List.append_nil]
     have ht2:(lN d+1)*p.length≤(lN d+1)*4:=Nat.mul_le_mul_left _ (by omega);rw[kl]at hm;cases hm;rw[List.append_nil]at hl;subst hl;have hj:=KJ l (bF f).1 (by omega) (by omega);rw[e2]at hj;have hs:=YV e2;refine vc ?_;simp only[fV.l0,List.length_map];exact vn (by omega) (vb hj (vp (by simp only[LZ,List.length_map];omega) (vq (vs _) (by simp[LZ]))))
    |cons q r ihr=>
     intro p acc m h ha ht hm hl;have hz:=gJ h;have e1:=KL h;have w1:wrap64 ((p.length:Int)+1)=(p.length:Int)+1:=dA (by omega) (by omega);rw[kl]at hm
     cases e3:lines d q with
     |none=>rw[e3]at hm;cases hm
     |some a=>
     rw[e3]at hm
     cases e4:kl (lines d) r with
     |none=>rw[e4]at hm;cases hm
     |some m2=>
     rw[e4]at hm;cases hm;have hu:=ih q a (by omega) (hk q (by rw[h];simp)) e3;have hla:=xg d q a e3;have hv:=ihr (p++[q]) (acc++[a]) m2 (by rw[h];simp) (by simp[ha]) (by rw[CU,List.length_append,List.length_singleton,Nat.mul_add];simp only[tl];omega) e4 (by rw[hl];simp);rw[jA,←WV]at hv;refine vc ?_;simp only[fV.l0,List.length_map,e1,w1];clear w1;exact vp (by omega) (vp (by omega) (vb hu (vp (by omega) hv)))
   exact vp c1 (key k [] [] l rfl rfl (by simp[tl]) e rfl)
  ·rw[if_neg c1]at h;by_cases c2:k=[]∧tbs b=true
   case neg=>rw[if_neg c2]at h;cases h
   rw[if_pos c2]at h;cases h;refine vn c1 (vp (by simp only[List.length_map];omega) (vq (vs _) ?_));rw[List.map_append]
theorem Mc(ls:List Str)(hs:∀x∈ls,x.length≤1048576)(hn:ls.length≤1048576)(r:List Str):∀p,ls=p++r→Ev (fun k=>iq.l0 k (ls.map b_) (p.length:Int)) (decide (ls.length≤30)&&r.all kM):=by
 have out:∀i:Int,Ev (fun k=>iq.j1 k (ls.map b_) i false) (decide (ls.length≤30)):=fun i=>by
  refine vc ?_;simp only[iq.j1,List.length_map];refine vn (by simp) (vq (vs _) ?_);exact decide_eq_decide.mpr (by omega)
 induction r with
 |nil=>
  intro p h;have hz:ls.length=p.length:=by rw[h,List.append_nil]
  refine vc ?_;simp only[iq.l0,List.length_map];refine vn (by omega) (vq (out _) (by simp))
 |cons c r ih=>
  intro p h;have hz:=gJ h;have e1:=uz h;have hc:=hs c (by rw[h];simp);have w1:wrap64 ((p.length:Int)+1)=(p.length:Int)+1:=dA (by omega) (by omega);have hv:=ih (p++[c]) (by rw[h];simp);rw[jA]at hv;have h1:=o9 c (by omega);refine vc ?_;simp only[iq.l0,List.length_map];refine vp (by omega) ?_;by_cases c2:p.length≤30
  ·rw[show decide ((p.length:Int)≤30)=true from decide_eq_true (by omega)];refine vc ?_;simp only[iq.j1,List.length_map,e1,w1];clear w1;refine vp trivial (vp (by omega) (vp (by omega) (vb h1 ?_)))
   cases e:kM c with
   |true=>exact vp rfl (vq hv (by rw[List.all_cons,e,Bool.true_and]))
   |false=>exact vn (by simp) (vq (vs _) (by rw[List.all_cons,e];simp))
  ·rw[show decide ((p.length:Int)≤30)=false from decide_eq_false (by omega)];exact vq (out _) (by rw[decide_eq_false (by omega)];rfl)
theorem Qm(ls:List Str)(hs:∀x∈ls,x.length≤1048576)(hn:ls.length≤1048576):Ev (fun k=>iq.f k (ls.map b_)) (tbs ls):=Mc ls hs hn ls [] rfl
theorem YX(b:Str)(hb:b.length≤100)(d x7:Int)(F:List jl)(B:List ByteArray)(K:List pq)(ls:List Str)(hn:ls.length≤1048576)(V:Bool)(h1:dv ls b=true→V=false)(h2:dv ls b=false→Ev (fun n=>bD.l0 n d (b_ b) (wrap64 (x7+1)) F B K) V):Ev (fun n=>bD.l1 n d (b_ b) x7 (ls.map b_) 0 F B K) V:=by
 rw[aku]at h1 h2
 have key:∀(r p:List Str),ls=p++r→(r.any (fun l=>lk l b)=true→V=false)→(r.any (fun l=>lk l b)=false→Ev (fun n=>bD.l0 n d (b_ b) (wrap64 (x7+1)) F B K) V)→Ev (fun n=>bD.l1 n d (b_ b) x7 (ls.map b_) (p.length:Int) F B K) V:=by
  intro r
  induction r with
  |nil=>
   intro p h g1 g2;have hz:ls.length=p.length:=by rw[h,List.append_nil]
   refine vc ?_;simp only[bD.l1,List.length_map];exact vn (by omega) (g2 rfl)
  |cons c r ih=>
   intro p h g1 g2;have hz:=gJ h;have e1:=uz h;have w1:wrap64 ((p.length:Int)+1)=(p.length:Int)+1:=dA (by omega) (by omega);refine vc ?_;simp only[bD.l1,List.length_map,e1,w1];clear w1;refine vp (by omega) (vp (by omega) (jZ (EC c b (by omega)) ?_))
   cases e:lk c b with
   |true=>
    refine vp rfl (vq (vs _) (g1 ?_).symm);rw[List.any_cons,e];rfl
   |false=>
    have:=ih (p++[c]) (by rw[h];simp) (fun g=>g1 (by rw[List.any_cons,e];exact g)) (fun g=>g2 (by rw[List.any_cons,e];exact g));rw[jA]at this;exact vn (by simp) this
 exact key ls [] rfl h1 h2
theorem NH:∀(d:Nat) (p:Pt),d≤3→KN p≤1048576→Ev (fun k=>bD.f k (e32 p).f0 (e32 p).f1 (e32 p).f2 (d:Int)) (lines d p).isSome:=by
 have bad:∀(d:Int) (F:List jl) (B:List ByteArray) (K:List pq),Ev (fun k=>bD.j0 k d true F B K) false:=fun d F B K=>by
  refine vc ?_;simp only[bD.j0];exact vp trivial (vs _)
 intro d
 induction d with
 |zero=>
  intro p hd hp;obtain⟨f,b,k⟩:=p;obtain⟨hf,hfn,-⟩:=Dc hp;simp only[Ej];refine vc ?_;simp only[bD.f];refine vb (yF f hf hfn) ?_;by_cases c:fvs f=true
  ·exact vp c (bad _ _ _ _)
  ·exact vn c (bad _ _ _ _)
 |succ d ih=>
  intro p hd hp;obtain⟨f,b,k⟩:=p;obtain⟨hf,hfn,hb,hbn,hkn,hk⟩:=Dc hp;simp only[Ej];rw[lines];refine vc ?_;simp only[bD.f];refine vb (yF f hf hfn) ?_;by_cases c:fvs f=true
  case neg=>
   rw[if_neg c];exact vn c (bad _ _ _ _)
  rw[if_pos c];refine vp c ?_;rw[show decide (((d+1:Nat):Int)<1)=false from decide_eq_false (by omega)];refine vc ?_;simp only[bD.j0,List.length_map];refine vn (by simp) (vb (Ar f hf hfn) ?_)
  have YW:∀(B:ByteArray),Ev (fun n=>bD.j1 n ((d+1:Nat):Int) B true (f.map sV) (b.map b_) (k.map e32)) false:=fun B=>by
   refine vc ?_;simp only[bD.j1];exact vp trivial (vs _)
  by_cases c1:(bF f).2=true
  ·rw[if_pos c1];refine vp c1 ?_;by_cases c2:b=[]∧1≤k.length∧k.length≤4
   ·rw[if_pos c2];obtain⟨rfl,hk1,hk4⟩:=c2;have hbs:=UZ c1;have hbd:=PX hbs;have hN:=WT (d:=d) (by omega)
    have key:∀(r p:List Pt),k=p++r→Ev (fun n=>bD.l0 n ((d+1:Nat):Int) (b_ (bF f).1) (p.length:Int) (f.map sV) (([]:List Str).map b_) (k.map e32)) (match kl (lines d) r with
      |none=>false
      |some ls=>!ls.any (fun c=>dv c (bF f).1)):=by
     intro r
     induction r with
     |nil=>
      intro p h;have hz:k.length=p.length:=by rw[h,List.append_nil]
      refine vc ?_;simp only[bD.l0,List.length_map];exact vn (by omega) (vs _)
     |cons q r ihr=>
      intro p h;have hz:=gJ h;have e1:=KL h;have w1:wrap64 ((p.length:Int)+1)=(p.length:Int)+1:=dA (by omega) (by omega);have w2:wrap64 (((d+1:Nat):Int)-1)=(d:Int):=by rw[dA (by omega) (by omega)];omega
      have hu:=ih q (by omega) (hk q (by rw[h];simp));have hv:=ihr (p++[q]) (by rw[h];simp);rw[jA,←w1]at hv;refine vc ?_;simp only[bD.l0,List.length_map,e1,w2];clear w1 w2;refine vp (by omega) (vp (by omega) (vb hu ?_));rw[kl]
      cases e:lines d q with
      |none=>exact vn (by simp) (vs _)
      |some a=>
       have hg:=Df d q a (by omega) (hk q (by rw[h];simp)) e;have hla:=xg d q a e;refine vp rfl (vb hg (YX _ (by omega) _ _ _ _ _ a (by omega) _ (fun g=>?_) (fun g=>vq hv ?_)))
       ·cases kl (lines d) r with
        |none=>rfl
        |some m=>simp[g]
       ·cases kl (lines d) r with
        |none=>rfl
        |some m=>simp[g]
    refine vn (by simp) (vn (by omega) ?_);rw[show decide ((k.length:Int)>4)=false from decide_eq_false (by omega)];refine vc ?_;simp only[bD.j1];refine vn (by simp) (vq (key k [] rfl) ?_)
    cases e:kl (lines d) k with
    |none=>rfl
    |some ls=>
     have hl:=(YU e (N:=lN d) fun p _ a h=>xg d p a h).1;have h0:ls≠[]:=fun h=>by rw[h]at hl;simp at hl;omega
     show(!ls.any (fun c=>dv c (bF f).1))=((jR (bF f).1 ls).map (head f++ ·)).isSome
     unfold jR
     cases ls.any (fun c=>dv c (bF f).1)with
     |true=>rw[if_neg (fun h=>by have:=h.2.2;cases this)];rfl
     |false=>rw[if_pos ⟨hbs,h0,rfl⟩];rfl
   ·rw[if_neg c2];by_cases c3:(b.length:Int)>0
    ·exact vp c3 (YW _)
    ·refine vn c3 ?_;have hb0:b=[]:=List.length_eq_zero_iff.mp (by omega);by_cases c4:(k.length:Int)<1
     ·exact vp c4 (YW _)
     ·refine vn c4 ?_
      rw[show decide ((k.length:Int)>4)=true from decide_eq_true (by
       apply Classical.byContradiction;intro h;exact c2 ⟨hb0,by omega,by omega⟩)]
      exact YW _
  ·rw[if_neg c1];refine vn c1 ?_;by_cases c3:k=[]
   ·subst c3;refine vp rfl (vb (Qm b hb hbn) (vq (vs _) ?_))
    cases e:tbs b with
    |true=>simp
    |false=>simp
   ·have hk0:¬(k.length:Int)=0:=fun h=>c3 (List.length_eq_zero_iff.mp (by omega))
    refine vn hk0 ?_;rw[if_neg (fun h=>c3 h.1)];exact vs _
theorem KT(p:Pt)(hp:KN p≤1048576):Ev (fun k=>nH.f k (e32 p).f0 (e32 p).f1 (e32 p).f2) (lines 3 p).isSome:=by
 unfold nH.f;exact vb (NH 3 p (by omega) hp) (vs _)
theorem Sz{x:Di}(h:JU x):∃p,x=e26 p∧Qk p:=by
 induction h with
 |mk x h0 g0 h1 g1 h2 g2 ih=>
  have hk:∀l:List Di,(∀y∈l,∃p,y=e26 p∧Qk p)→∃k:List Pt,l=k.map e26∧∀p∈k,Qk p:=by
   intro l
   induction l with
   |nil=>exact fun _=>⟨[],rfl,by simp⟩
   |cons y l ih=>
    intro h;obtain⟨p,hp,hs⟩:=h y (by simp);obtain⟨k,hk,hks⟩:=ih (fun z hz=>h z (by simp[hz]))
    exact⟨p:: k,by rw[List.map_cons,←hp,←hk],fun q hq=>by
     rcases List.mem_cons.mp hq with rfl|hq
     ·exact hs
     ·exact hks q hq⟩
  obtain⟨k,hk,hks⟩:=hk x.f2 ih;obtain⟨f0,f1,f2⟩:=x;simp only at h0 g0 h1 g1 h2 hk;unfold maxLen at h0 h1 h2;refine⟨.mk (f0.map p91) (f1.map L) k,by rw[YR,aiv,ab5,←hk],Qk.mk _ _ _ (by rw[List.length_map];exact h0) (fun y hy=>?_) (by rw[List.length_map];exact h1) (fun y hy=>?_) (by rw[hk,List.length_map]at h2;exact h2) hks⟩
  ·obtain⟨z,hz,rfl⟩:=List.mem_map.mp hy;have:=g0 z hz;rw[Iq,Iq]at this;unfold maxLen at this;exact⟨by show(L z.f0).length≤_;omega,by show(L z.f1).length≤_;omega⟩
  ·obtain⟨z,hz,rfl⟩:=List.mem_map.mp hy;have:=g1 z hz;rw[Iq]at this;unfold maxLen at this;omega
def fmt(p:Pt):List ByteArray×Bool:=match lines 3 p with
 |some ls=>(ls.map b_,true)
 |none=>([],false)
theorem Au(p:Pt)(hp:KN p≤1048576):Ev (fun k=>nT.f k (e32 p).f0 (e32 p).f1 (e32 p).f2) (fmt p):=by
 unfold nT.f fmt;obtain⟨v,hv,hr⟩:=NG 3 p (by omega) hp;refine vb hv ?_
 cases e:lines 3 p with
 |none=>
  rw[e]at hr;have hr':v.2=false:=hr;exact vn (by simp[hr']) (vs _)
 |some ls=>
  rw[e]at hr;have hr':v=(ls.map b_,true):=hr;rw[hr'];exact vp rfl (vs _)
theorem Aw(p:Pt)(hp:KN p≤1048576):Ev (fun k=>nU.f k (e32 p).f0 (e32 p).f1 (e32 p).f2) (fmt p):=by
 unfold nU.f fmt;refine vb (KT p hp) ?_
 cases e:lines 3 p with
 |none=>exact vn (by simp) (vs _)
 |some ls=>exact vp rfl (vb (Df 3 p ls (by omega) hp e) (vs _))
theorem QU:∀(n:Nat) (a:Nat) (out:Str),a<n→out.length+a≤100000000000000000→∃s:Str,Ev (fun k=>dQ.l0 k (a:Int) (b_ out)) (b_ s):=by
 intro n
 induction n with
 |zero=>intro a out h;omega
 |succ n ih=>
  intro a out h hb;by_cases h0:a=0
  ·subst h0;refine⟨109:: out,vc ?_⟩;simp only[dQ.l0,aV,YQ,Qg,nV];exact vn (by simp) (vp (by omega) (vs _))
  ·have hd:a/10+1≤a:=by omega
   have e1:Int.tdiv (a:Int) 10=((a/10:Nat):Int):=by rw[Int.tdiv_eq_ediv_of_nonneg (by omega)];omega
   have e2:wrap64 (((a/10:Nat):Int))=((a/10:Nat):Int):=dA (by omega) (by omega);obtain⟨x,hx⟩:∃x:Int,x=(wrap64 (48+(Int.tmod (a:Int) 10)))%256:=⟨_,rfl⟩
   obtain⟨c,hc⟩:∃c:Str,strOfNums [x]=b_ c∧c.length=1:=⟨[UInt8.ofNat x.toNat],rfl,rfl⟩
   obtain⟨s,hs⟩:=ih (a/10) (c++out) (by omega) (by rw[List.length_append,hc.2];omega);refine⟨s,vc ?_⟩;simp only[dQ.l0,←hx,Option.bind_some,hc.1,aV,nV,e1,e2];exact vp (by omega) (vp (by rw[hc.2];omega) hs)
theorem F6(a:Nat)(h:a≤10000000000000000):∃s:Str,Ev (fun k=>dQ.f k (a:Int)) (b_ s):=by
 unfold dQ.f;by_cases h0:a=0
 ·exact⟨[109,48],vp (by omega) (vs _)⟩
 ·obtain⟨s,hs⟩:=QU (a+1) a [] (by omega) (by simp;omega);exact⟨s,vn (by omega) hs⟩
def IsMark(T:Nat→Str):Prop:=∀a:Nat,a≤10000000000000000→Ev (fun k=>dQ.f k (a:Int)) (b_ (T a))
theorem SA:∃T,IsMark T:=by
 have:∀a:Nat,∃s:Str,a≤10000000000000000→Ev (fun k=>dQ.f k (a:Int)) (b_ s):=by
  intro a;by_cases h:a≤10000000000000000
  ·obtain⟨s,hs⟩:=F6 a h;exact⟨s,fun _=>hs⟩
  ·exact⟨[],fun h2=>absurd h2 h⟩
 obtain⟨T,hT⟩:=Classical.axiomOfChoice this;exact⟨T,hT⟩
def Xc(T:Nat→Str):Nat→Nat→List ByteArray
 |_,0=>[]
 |m,n+1=>b_ (T m):: Xc T (m+1) n
theorem Qn(T:Nat→Str)(n:Nat):∀m,(Xc T m n).length=n:=by
 induction n with
 |zero=>intro m;rfl
 |succ n ih=>intro m;rw[Xc,List.length_cons,ih]
theorem Md(T:Nat→Str)(hT:IsMark T)(r:List ByteArray):∀(p:List ByteArray) (m:Nat),p.length+r.length≤1000000000000000→m+r.length≤10000000000000000→Ev (fun k=>gK.l0 k (p++r) (m:Int) (p.length:Int)) (((m+r.length:Nat):Int),p++Xc T m r.length):=by
 induction r with
 |nil=>
  intro p m h h2;refine vc ?_;simp only[gK.l0];exact vn (by simp) (vs _)
 |cons c r ih=>
  intro p m h h2;simp only[List.length_cons]at h h2;have w1:wrap64 ((p.length:Int)+1)=(p.length:Int)+1∧wrap64 ((m:Int)+1)=((m+1:Nat):Int):=⟨dA (by omega) (by omega),dA (by omega) (by omega)⟩
  have e1:(p++c:: r).set ((p.length:Nat):Int).toNat (b_ (T m))=(p++[b_ (T m)])++r:=by
   rw[Int.toNat_natCast,List.set_append_right _ _ (Nat.le_refl _),Nat.sub_self,List.set_cons_zero];simp
  have:=ih (p++[b_ (T m)]) (m+1) (by simp;omega) (by omega);rw[jA]at this;refine vc ?_;simp only[gK.l0,w1.1,w1.2];clear w1;refine vp (by simp;omega) (vb (hT m (by omega)) (vp (by omega) ?_));rw[e1];refine vq this ?_;simp only[Xc,List.length_cons,List.append_assoc,List.singleton_append]
  congr 1
  omega
theorem F7(T:Nat→Str)(hT:IsMark T)(r:List ByteArray)(m:Nat)(h:r.length≤1000000000000000)(h2:m+r.length≤10000000000000000):Ev (fun k=>gK.f k r (m:Int)) (((m+r.length:Nat):Int),Xc T m r.length):=by
 unfold gK.f;have:=Md T hT r [] m (by simpa using h) h2
 simpa using this
theorem Me(T:Nat→Str)(hT:IsMark T)(n:Nat):∀(p:List ByteArray) (m:Nat),p.length+n≤1000000000000000→m+n≤10000000000000000→Ev (fun k=>fE.l0 k (p++Xc T m n) (m:Int) (p.length:Int)) (((m+n:Nat):Int)):=by
 induction n with
 |zero=>
  intro p m h h2;refine vc ?_;simp only[fE.l0,Xc,List.append_nil];exact vn (by omega) (vs _)
 |succ n ih=>
  intro p m h h2;have w1:wrap64 ((p.length:Int)+1)=(p.length:Int)+1∧wrap64 ((m:Int)+1)=((m+1:Nat):Int):=⟨dA (by omega) (by omega),dA (by omega) (by omega)⟩
  have:=ih (p++[b_ (T m)]) (m+1) (by simp;omega) (by omega);rw[jA]at this;have e1:kV ByteArray.empty (p++Xc T m (n+1)) (p.length:Int)=b_ (T m):=WW _ _ _ _;refine vc ?_;simp only[fE.l0,w1.1,w1.2,e1];clear w1;refine vp (by simp[Xc];omega) (vp (by omega) (vb (hT m (by omega)) (vp rfl ?_)));refine vq ?_ (show(((m+1+n:Nat):Int))=((m+(n+1):Nat):Int) by omega);have e2:p++Xc T m (n+1)=(p++[b_ (T m)])++Xc T (m+1) n:=by simp[Xc]
  rw[e2];exact this
theorem F8(T:Nat→Str)(hT:IsMark T)(n m:Nat)(h:n≤1000000000000000)(h2:m+n≤10000000000000000):Ev (fun k=>fE.f k (Xc T m n) (m:Int)) (((m+n:Nat):Int)):=by
 unfold fE.f;have:=Me T hT n [] m (by simpa using h) h2
 simpa using this
def Evp(p:Nat→Prop):Prop:=∃K,∀k,K≤k→p k
theorem qA{α:Type}{g:Nat→Option α}{r:α}(h:Ev g r):Evp (fun k=>g k=some r):=h
theorem qc{p q:Nat→Prop}(h:Evp p)(h2:Evp q):Evp (fun k=>p k∧q k):=by
 obtain⟨K,h⟩:=h;obtain⟨M,h2⟩:=h2;exact⟨K+M,fun k hk=>⟨h k (by omega),h2 k (by omega)⟩⟩
theorem KU{p:Nat→Prop}(h:Evp p):∃k,p k:=by
 obtain⟨K,h⟩:=h;exact⟨K,h K (Nat.le_refl _)⟩
theorem KW{P:Nat→Nat→Prop}:∀(n:Nat),(∀i,i<n→Evp (P i))→Evp (fun k=>∀i,i<n→P i k)
 |0,_=>⟨0,fun _ _ i hi=>absurd hi (Nat.not_lt_zero _)⟩
 |n+1,h=>by
  obtain⟨K,h1⟩:=KW n fun i hi=>h i (by omega)
  obtain⟨M,h2⟩:=h n (by omega);refine⟨K+M,fun k hk i hi=>?_⟩;by_cases e:i=n
  ·subst e;exact h2 k (by omega)
  ·exact h1 k (by omega) i (by omega)
theorem U6{k:List Pt}(h:∀p∈k,muS (e32 p)≤2*KN p+1):MQ (k.map e32)≤2*Qi k+k.length:=by
 induction k with
 |nil=>simp[MQ]
 |cons p r ih=>
  have h1:=h p (by simp);have h2:=ih fun q hq=>h q (by simp[hq])
  rw[List.map_cons,MQ,Qi,List.length_cons];omega
theorem YZ(p:Pt):muS (e32 p)≤2*KN p+1:=by
 refine UR (P:=fun p=>muS (e32 p)≤2*KN p+1) (fun f b k ih=>?_) p;have:=U6 ih;rw[PL,Ej,KN];simp only[List.length_map];omega
theorem U7(p:Pt):(fmt p).1.length≤500000:=by
 unfold fmt
 cases e:lines 3 p with
 |none=>simp
 |some ls=>
  have h1:=xg 3 p ls e;have h2:=WT (d:=3) (Nat.le_refl _);simp only[List.length_map];omega
theorem U8(p:Pt):∃ls:List Str,(fmt p).1=ls.map b_:=by
 unfold fmt
 cases lines 3 p with
 |none=>exact⟨[],rfl⟩
 |some ls=>exact⟨ls,rfl⟩
theorem FnExactFormatPart(x:Di)(gx:JU x):∃k,l7.Ok k x:=by
 obtain⟨p,rfl,hp⟩:=Sz gx;obtain⟨v,hv,hv1,hv2⟩:=RZ p hp 1048576 (by omega);by_cases h0:v<0
 ·obtain⟨k,h⟩:=KU (qA hv);exact⟨k,v,h,Or.inl h0⟩
 have hvv:=hv2 (by omega);have sp:KN p≤1048576:=by omega
 obtain⟨T,hT⟩:=SA;have hl:=U7 p;obtain⟨ls,hls⟩:=U8 p;have g1:=wF ls ls (by rw[hls,List.length_map]at hl;omega);rw[←hls,decide_eq_true rfl]at g1;have g2:=F7 T hT (fmt p).1 1 (by omega) (by omega);have g3:=F8 T hT (fmt p).1.length 1 (by omega) (by omega)
 have g4:Evp (fun k=>∀m:Nat,m<10000001→∃r,dQ.f k (m:Int)=some r):=KW _ fun m hm=>by
  obtain⟨s,hs⟩:=F6 m (by omega);exact(qA hs).imp fun K hK k hk=>⟨_,hK k hk⟩
 obtain⟨k,a1,a2,a3,a4,a5,a6,a7,a8,a9⟩:=KU (qc (qA hv) (qc (qA (R_ p sp)) (qc (qA (Aw p sp)) (qc (qA (Au p sp)) (qc (qA g1) (qc (qA (Si p sp)) (qc g4 (qc (qA g2) (qA g3)))))))));have hm:=YZ p;exact⟨k,v,a1,Or.inr ⟨h0,e32 p,(fmt p).1,Xc T 1 (fmt p).1.length,(fmt p).2,_,a2,a3,a4,a5,a6,fun m hm=>a7 m (by omega),by omega,a8,Qn T _ 1,a9,by omega⟩⟩
end Go.Proofs.YtncdadcmghglkaaGreatDoor.Pure
