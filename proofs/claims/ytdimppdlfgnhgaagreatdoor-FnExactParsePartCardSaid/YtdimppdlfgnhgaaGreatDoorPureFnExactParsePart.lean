/- Proved here: the pure form of the law FnExactParsePart (the program's ParsePart is the reference's) returns true for all arguments; conditions: none beyond those that the printed statement bears. -/
import Derived.Test.YtdimppdlfgnhgaaGreatDoorPFnExactParsePartx30
import Derived.Test.YtdimppdlfgnhgaaGreatDoorVFnExactParsePartZbt
import Derived.Test.YtdimppdlfgnhgaaGreatDoorVFnExactParsePartMore
import Derived.Lib.TrimByte
import Derived.Lib.CutLaws
import Derived.Lib.ReplaceLaws
import Derived.Lib.Join
import Derived.Lib.JoinLaws
import Derived.Lib.Split
import Derived.Lib.CountLaws
namespace Go.Proofs.YtdimppdlfgnhgaaGreatDoor.Pure
open Go.Proofs.YtdimppdlfgnhgaaGreatDoorW.mX Go.RowKit Go.Proofs.YtdimppdlfgnhgaaGreatDoor.X Go.Proofs.YtdimppdlfgnhgaaGreatDoor.PFnExactParsePart Go.Proofs.YtdimppdlfgnhgaaGreatDoorW.eP Go.Proofs.YtdimppdlfgnhgaaGreatDoorW.lF Go.Proofs.YtdimppdlfgnhgaaGreatDoor.Z
set_option linter.unusedVariables false
set_option linter.unusedSimpArgs false
theorem anx{α R:Type}(fin:Unit→R)(r:List α):run (fun(_:Unit) (_:α)=>(.inr ():R ⊕ Unit)) fin r ()=fin ():=by
 induction r with
 |nil=>rfl
 |cons c r ih=>unfold run;exact ih
def xO:List Str→Nat
 |[]=>0
 |c:: r=>c.length+xO r
theorem Gs(a b:List Str):xO (a++b)=xO a+xO b:=by
 induction a with
 |nil=>simp[xO]
 |cons c a ih=>simp only[List.cons_append,xO,ih];omega
theorem arY{a:List Str}{c:Str}(h:c∈a):c.length≤xO a:=by
 induction a with
 |nil=>cases h
 |cons d a ih=>
  simp only[xO];rcases List.mem_cons.mp h with rfl|h
  ·omega
  ·have:=ih h;omega
theorem ajj(l:List ByteArray):(l.map L).map bP=l:=by
 rw[List.map_map];exact(List.map_congr_left (fun x _=>anz x)).trans (List.map_id l)
theorem Zg(ls:List Str)(hl:∀x∈ls,x.length≤9223372036854775807)(hn:ls.length≤9223372036854775807)(r:List Str):∀(p:List Str) (left:Nat),ls=p++r→left≤1048576→∃v:Int,Ev (fun k=>jq.l0 k (ls.map bP) (left:Int) (p.length:Int)) v∧v≤left∧(0≤v→v=(left:Int)-xO r):=by
 induction r with
 |nil=>
  intro p left h hle;have hz:ls.length=p.length:=by rw[h,List.append_nil]
  refine⟨left,vc ?_,Int.le_refl _,fun _=>by simp[xO]⟩;simp only[jq.l0,List.length_map];exact vn (by omega) (vs _)
 |cons c r ih=>
  intro p left h hle;have hz:=iC h;have e1:=nX h;have hc:=hl c (by rw[h];simp);have w1:wrap64 ((p.length:Int)+1)=(p.length:Int)+1∧wrap64 ((left:Int)-(c.length:Int))=(left:Int)-(c.length:Int):=⟨b_ (by omega) (by omega),b_ (by omega) (by omega)⟩
  by_cases hlt:(left:Int)-(c.length:Int)<0
  ·refine⟨-1,vc ?_,by omega,fun h=>by omega⟩;simp only[jq.l0,List.length_map,e1,aZ,w1.1,w1.2];clear w1;exact vp (by omega) (vp (by omega) (vp hlt (vs _)))
  ·obtain⟨v,hv,hv1,hv2⟩:=ih (p++[c]) (left-c.length) (by rw[h];simp) (by omega);rw[jF]at hv;refine⟨v,vc ?_,by omega,fun h0=>by have:=hv2 h0;simp only[xO];omega⟩;have e2:(left:Int)-(c.length:Int)=((left-c.length:Nat):Int):=by omega
   simp only[jq.l0,List.length_map,e1,aZ,w1.1,w1.2];clear w1;rw[e2];exact vp (by omega) (vp (by omega) (vn (by omega) hv))
theorem Tn(ls:List Str)(hl:∀x∈ls,x.length≤9223372036854775807)(hn:ls.length≤9223372036854775807)(left:Nat)(hle:left≤1048576):∃v:Int,Ev (fun k=>jq.f k (ls.map bP) (left:Int)) v∧v≤left∧(0≤v→v=(left:Int)-ls.length-xO ls):=by
 unfold jq.f;have w1:wrap64 ((left:Int)-(ls.length:Int))=(left:Int)-(ls.length:Int):=b_ (by omega) (by omega);rw[List.length_map,w1];clear w1;by_cases h:(left:Int)-(ls.length:Int)<0
 ·exact⟨-1,vp h (vs _),by omega,fun h=>by omega⟩
 ·have e2:(left:Int)-(ls.length:Int)=((left-ls.length:Nat):Int):=by omega
  obtain⟨v,hv,hv1,hv2⟩:=Zg ls hl hn ls [] (left-ls.length) rfl (by omega);rw[e2];exact⟨v,vn (by omega) hv,by omega,fun h0=>by have:=hv2 h0;omega⟩
theorem Tq(ls:List Str)(hn:ls.length≤1000000000000):Ev (fun k=>jg.f k (ls.map bP)) (ls.map bP):=by
 have key:∀(r p:List Str),ls=p++r→Ev (fun k=>jg.l0 k (ls.map bP) (p.map bP++List.replicate r.length (⟨#[]⟩:ByteArray)) (p.length:Int)) (ls.map bP):=by
  intro r
  induction r with
  |nil=>
   intro p h;have hz:ls.length=p.length:=by rw[h,List.append_nil]
   refine vc ?_;simp only[jg.l0,List.length_map];refine vn (by omega) (vq (vs _) ?_);rw[h];simp
  |cons c r ih=>
   intro p h;have hz:=iC h;have e1:=nX h;have w1:wrap64 ((p.length:Int)+1)=(p.length:Int)+1:=b_ (by omega) (by omega);have:=ih (p++[c]) (by rw[h];simp);rw[jF]at this
   have e2:(p.map bP++List.replicate (r.length+1) (⟨#[]⟩:ByteArray)).set p.length (bP c)=(p++[c]).map bP++List.replicate r.length (⟨#[]⟩:ByteArray):=by
    rw[List.set_append_right _ _ (by simp),List.length_map,Nat.sub_self,List.replicate_succ,List.set_cons_zero,List.map_append,List.append_assoc];rfl
   rw[←e2]at this;refine vc ?_;simp only[jg.l0,List.length_map,e1,w1,Int.toNat_natCast,List.length_cons];clear w1;exact vp (by omega) (vp (by omega) (vp (by simp;omega) this))
 unfold jg.f;simp only[List.length_map,Int.toNat_natCast];exact vp (by omega) (vp (by omega) (key ls [] rfl))
theorem IG(a b:List Str)(hn:a.length≤1000000000000000):Ev (fun k=>gZ.f k (a.map bP) (b.map bP)) (decide (a=b)):=by
 unfold gZ.f;simp only[List.length_map];by_cases hl:a.length=b.length
 ·refine vp (by omega) ?_
  refine vq (nN (xs:=a) (F:=fun k (_:List Str) i=>gZ.l0 k (a.map bP) (b.map bP) i) (st:=fun r c=>match r with
   |[]=> .inl false
   |d:: r=>if c=d then .inr r else .inl false) (fin:=fun _=>true) (s:=b) (fun p r=>∃q,b=q++r∧q.length=p.length) ⟨[],rfl,rfl⟩ ?_ ?_) ?_
  ·rintro p c r s h ⟨q,hq,hql⟩;have hz:=iC h;have e1:=nX h;have w1:wrap64 ((p.length:Int)+1)=(p.length:Int)+1:=b_ (by omega) (by omega)
   cases s with
   |nil=>rw[hq]at hl;simp at hl;omega
   |cons d s=>
    have e2:=nX hq;rw[hql]at e2;simp only[gZ.l0,e1,e2,w1,List.length_map,jL];clear w1 e1 e2;by_cases e:c=d
    ·simp only[if_pos e];refine⟨(fun v hv=>by cases hv),fun s' hs=>⟨?_,fun v hv=>?_⟩⟩
     ·cases hs;exact⟨q++[d],by rw[hq];simp,by simp[hql]⟩
     ·exact vp (by omega) (vp (by omega) (vp (by omega) hv))
    ·simp only[if_neg e];refine⟨(fun v hv=>?_),fun s' hs=>by cases hs⟩;cases hv;exact vp (by omega) (vp (by omega) (vp (by omega) (vs _)))
  ·intro s _;simp only[gZ.l0,List.length_map];exact vn (by omega) (vs _)
  ·clear hn
   induction a generalizing b with
   |nil=>cases b with
    |nil=>rfl
    |cons d b=>simp at hl
   |cons c a ih=>cases b with
    |nil=>simp at hl
    |cons d b=>
     unfold run;by_cases e:c=d
     ·simp only[if_pos e];rw[ih b (by simpa using hl)];simp[e]
     ·simp only[if_neg e];simp[e]
 ·refine vn (by omega) (vq (vs _) ?_);rw[eq_comm];exact decide_eq_false (fun h=>hl (by rw[h]))
def vX(p:Str×Str):gI:=⟨bP p.1,bP p.2⟩
def II:List (Str×Str)→Nat
 |[]=>0
 |c:: r=>c.1.length+c.2.length+II r
theorem aib{a:List (Str×Str)}{c:Str×Str}(h:c∈a):c.1.length+c.2.length≤II a:=by
 induction a with
 |nil=>cases h
 |cons d a ih=>
  simp only[II];rcases List.mem_cons.mp h with rfl|h
  ·omega
  ·have:=ih h;omega
theorem y7{ls p r:List (Str×Str)}{c:Str×Str}(h:ls=p++c:: r):aG (ls.map vX) (p.length:Int)=vX c:=by
 unfold aG;rw[List.getD_eq_getElem?_getD,h];simp
def sane(ls:List (Str×Str)):Prop:=∀x∈ls,x.1.length≤9223372036854775807∧x.2.length≤9223372036854775807
theorem adB(ls:List (Str×Str))(hn:ls.length≤1000000000000):Ev (fun k=>gu.f k (ls.map vX) (ls.map vX)) true:=by
 unfold gu.f;refine vp rfl (vq (nN (xs:=ls) (F:=fun k (_:Unit) i=>gu.l0 k (ls.map vX) (ls.map vX) i) (st:=fun _ _=> .inr ()) (fin:=fun _=>true) (s:=()) (fun _ _=>True) trivial ?_ ?_) (anx _ _))
 ·intro p c r s h _;have hz:=iC h;have e1:=y7 h;have w1:wrap64 ((p.length:Int)+1)=(p.length:Int)+1:=b_ (by omega) (by omega);simp only[gu.l0,xX.f,e1,w1,List.length_map];clear w1 e1;refine⟨(fun v hv=>by cases hv),fun s' hs=>⟨trivial,fun v hv=>?_⟩⟩;exact vp (by omega) (vp (by omega) (vp (by omega) (kW (by simp) (vp rfl hv))))
 ·intro s _;simp only[gu.l0,List.length_map];exact vn (by omega) (vs _)
theorem Gt{ps p r:List (List Str)}{c:List Str}(h:ps=p++c:: r):kM (ps.map (List.map bP)) (p.length:Int)=c.map bP:=by
 unfold kM;rw[List.getD_eq_getElem?_getD,h];simp
def tl:List (List Str)→Nat
 |[]=>0
 |c:: r=>c.length+1+tl r
theorem CQ(a b:List (List Str)):tl (a++b)=tl a+tl b:=by
 induction a with
 |nil=>simp[tl]
 |cons c a ih=>simp only[List.cons_append,tl,ih];omega
theorem YB(a:List (List Str)):a.length≤tl a:=by
 induction a with
 |nil=>simp[tl]
 |cons c a ih=>simp only[List.length_cons,tl];omega
theorem anA{a:List (List Str)}{c:List Str}(h:c∈a):c.length≤tl a:=by
 induction a with
 |nil=>cases h
 |cons d a ih=>
  simp only[tl];rcases List.mem_cons.mp h with rfl|h
  ·omega
  ·have:=ih h;omega
def Qd(c:UInt8):Bool:=decide (97≤(c.toNat:Int)∧(c.toNat:Int)≤122)||decide (65≤(c.toNat:Int)∧(c.toNat:Int)≤90)
def ajk(c:UInt8):Bool:=decide (48≤(c.toNat:Int)∧(c.toNat:Int)≤57)
def Jg(c:UInt8):Bool:=Qd c||ajk c
def He(l:Str):Bool:=decide (1≤l.length)&&decide (l.length≤20)&&l.all Jg
theorem Nb{l:Str}(h:He l=true):l.length≤20:=by
 unfold He at h;simp at h;exact h.1.2
theorem CS(c:UInt8):dD.f (c.toNat:Int)=some (Qd c):=by
 unfold dD.f Qd;by_cases h1:97≤(c.toNat:Int)<;>by_cases h2:(c.toNat:Int)≤122<;>by_cases h3:65≤(c.toNat:Int)<;>by_cases h4:(c.toNat:Int)≤90<;>simp[h1,h2,h3,h4]
theorem KZ(c:UInt8):eu.f (c.toNat:Int)=some (ajk c):=by
 unfold eu.f ajk;by_cases h1:48≤(c.toNat:Int)<;>by_cases h2:(c.toNat:Int)≤57<;>simp[h1,h2]
theorem vH(c:UInt8):kF.f (c.toNat:Int)=some (Jg c):=by
 unfold kF.f Jg Qd ajk;by_cases h1:97≤(c.toNat:Int)<;>by_cases h2:(c.toNat:Int)≤122<;>by_cases h3:65≤(c.toNat:Int)<;>by_cases h4:(c.toNat:Int)≤90<;>by_cases h5:48≤(c.toNat:Int)<;>by_cases h6:(c.toNat:Int)≤57<;>simp[h1,h2,h3,h4,h5,h6]
def YC:Str:=[33,35,36,37,38,39,42,43,45,47,61,63,94,95,96,123,124,125,126]
def yJ(c:UInt8):Bool:=Jg c||decide (c∈YC)
def YD(l:Str):Bool:=decide (1≤l.length)&&decide (l.length≤40)&&l.all yJ
theorem ab5{p:UInt8→Prop}(h:∀n:Nat,n<256→p (UInt8.ofNat n))(c:UInt8):p c:=by
 have:=h c.toNat c.toNat_lt
 rwa [UInt8.ofNat_toNat]at this
theorem zF(c:UInt8):mP.f (c.toNat:Int)=some (yJ c):=by
 revert c
 exact ab5 (by decide+kernel)
theorem Fb(l:Str)(hl:l.length≤1000000000000000):Ev (fun k=>dX.f k (bP l)) (l.all yJ):=by
 unfold dX.f;rw[aZ];refine vq (nN (xs:=l) (F:=fun k (_:Unit) i=>dX.l0 k (bP l) (l.length:Int) i) (st:=fun _ c=>if yJ c=true then .inr ()else .inl false) (fin:=fun _=>true) (s:=()) (fun _ _=>True) trivial ?_ ?_) ?_
 ·intro p c r s h _;have hz:=iC h;have e1:=kX h;have w1:wrap64 ((p.length:Int)+1)=(p.length:Int)+1:=b_ (by omega) (by omega);simp only[dX.l0,e1,w1,aZ];clear w1 e1
  cases e:yJ c with
  |true=>
   simp only[if_true];refine⟨(fun v hv=>by cases hv),fun s' hs=>⟨trivial,fun v hv=>?_⟩⟩;refine vp (by omega) (vp (by omega) (vp (by omega) (kW (zF c) (vp e hv))))
  |false=>
   refine⟨(fun v hv=>?_),fun s' hs=>by simp at hs⟩;simp only[Bool.false_eq_true,if_false,Sum.inl.injEq]at hv;subst hv;refine vp (by omega) (vp (by omega) (vp (by omega) (kW (zF c) (vn (by rw[e];simp) (vs _)))))
 ·intro s _;simp only[dX.l0];exact vn (by omega) (vs _)
 ·clear hl
  induction l with
  |nil=>rfl
  |cons c r ih=>
   unfold run
   cases e:yJ c with
   |true=>simp[e,ih]
   |false=>simp[e]
theorem Tt(l:Str)(hl:l.length≤1000000000000000):Ev (fun k=>qC.f k (bP l)) (YD l):=by
 unfold qC.f YD;rw[aZ];by_cases h1:1≤l.length
 ·rw[decide_eq_true h1];refine vp (by omega) ?_;by_cases h2:l.length≤40
  ·rw[decide_eq_true h2];exact vp (by omega) (vb (Fb l hl) (vs _))
  ·rw[decide_eq_false h2];exact vn (by omega) (vs _)
 ·rw[decide_eq_false h1];exact vn (by omega) (vs _)
theorem Gu(c:UInt8):Ev (fun k=>jV.f k (c.toNat:Int)) (yJ c):=by
 unfold jV.f;have lit:(⟨#[33,35,36,37,38,39,42,43,45,47,61,63,94,95,96,123,124,125,126]⟩:ByteArray)=bP YC:=rfl;have hlen:YC.length=19:=rfl;refine vq (nN (xs:=YC) (F:=fun k (_:Unit) i=>jV.l0 k (c.toNat:Int) i) (st:=fun _ d=>if c=d then .inl true else .inr ()) (fin:=fun _=>Jg c) (s:=()) (fun _ _=>True) trivial ?_ ?_) ?_
 ·intro p d r s h _;have hz:=iC h;have e1:=kX h;have w1:wrap64 ((p.length:Int)+1)=(p.length:Int)+1:=b_ (by omega) (by omega);simp only[jV.l0,lit,e1,w1];clear w1 e1;by_cases e:c=d
  ·simp only[if_pos e];refine⟨(fun v hv=>?_),fun s' hs=>by cases hs⟩;cases hv;exact vp (by omega) (vp (by omega) (vp (by rw[e]) (vs _)))
  ·simp only[if_neg e];refine⟨(fun v hv=>by cases hv),fun s' hs=>⟨trivial,fun v hv=>?_⟩⟩;exact vp (by omega) (vp (by omega) (vn (fun hh=>e (UInt8.toNat_inj.mp (by omega))) hv))
 ·intro s _;simp only[jV.l0];exact vn (by omega) (kW (vH c) (vs _))
 ·have key:∀r:Str,run (fun(_:Unit) d=>if c=d then .inl true else .inr ()) (fun _=>Jg c) r ()=(Jg c||decide (c∈r)):=by
   intro r
   induction r with
   |nil=>simp[run]
   |cons d r ih=>
    unfold run;by_cases e:c=d
    ·simp[e]
    ·simp[e,ih]
  exact key YC
theorem Tv(l:Str)(hl:l.length≤1000000000000000):Ev (fun k=>fA.f k (bP l)) (YD l):=by
 unfold fA.f
 have hj':∀i:Int,Ev (fun k=>fA.j1 k (bP l) i false) (decide (1≤l.length)&&decide (l.length≤40)):=by
  intro i;refine vc ?_;simp only[fA.j1,aZ];by_cases h1:1≤l.length
  ·rw[decide_eq_true h1];refine vn (by simp) (vp (by omega) (vq (vs _) ?_));rw[Bool.true_and];by_cases h2:l.length≤40
   ·rw[decide_eq_true h2];exact decide_eq_true (by omega)
   ·rw[decide_eq_false h2];exact decide_eq_false (by omega)
  ·rw[decide_eq_false h1];exact vn (by simp) (vn (by omega) (vs _))
 refine vq (nN (xs:=l) (F:=fun k (_:Nat) i=>fA.l0 k (bP l) i) (st:=fun n c=>if n≤40 then(if yJ c=true then .inr (n+1)else .inl false)else .inl (decide (1≤l.length)&&decide (l.length≤40))) (fin:=fun _=>decide (1≤l.length)&&decide (l.length≤40)) (s:=0) (fun p n=>n=p.length) rfl ?_ ?_) ?_
 ·intro p c r n h hn;subst hn;have hz:=iC h;have e1:=kX h;have w1:wrap64 ((p.length:Int)+1)=(p.length:Int)+1:=b_ (by omega) (by omega);by_cases h20:p.length≤40
  ·simp only[if_pos h20];have hd:decide ((p.length:Int)≤40)=true:=decide_eq_true (by omega);simp only[fA.l0,hd,aZ]
   cases e:yJ c with
   |true=>
    simp only[if_true];refine⟨(fun v hv=>by cases hv),fun s' hs=>⟨?_,fun v hv=>?_⟩⟩
    ·cases hs;simp
    ·refine vp (by omega) (vc ?_);simp only[fA.j1,e1,w1,aZ];clear w1 e1;exact vp trivial (vp (by omega) (vp (by omega) (vb (Gu c) (vp e hv))))
   |false=>
    refine⟨(fun v hv=>?_),fun s' hs=>by simp at hs⟩;simp only[Bool.false_eq_true,if_false,Sum.inl.injEq]at hv;subst hv;refine vp (by omega) (vc ?_);simp only[fA.j1,e1,w1,aZ];clear w1 e1;exact vp trivial (vp (by omega) (vp (by omega) (vb (Gu c) (vn (by rw[e];simp) (vs _)))))
  ·simp only[if_neg h20];have hd:decide ((p.length:Int)≤40)=false:=decide_eq_false (by omega);refine⟨(fun v hv=>?_),fun s' hs=>by cases hs⟩;cases hv;simp only[fA.l0,hd,aZ];clear w1 e1;exact vp (by omega) (hj' _)
 ·intro s hs;subst hs;simp only[fA.l0,aZ];exact vn (by omega) (hj' _)
 ·unfold YD
  have key:∀(r:Str) (n:Nat),n+r.length=l.length→run (fun n c=>if n≤40 then(if yJ c=true then .inr (n+1)else .inl false)else .inl (decide (1≤l.length)&&decide (l.length≤40))) (fun _=>decide (1≤l.length)&&decide (l.length≤40)) r n=(decide (1≤l.length)&&decide (l.length≤40)&&r.all yJ):=by
   intro r
   induction r with
   |nil=>intro n _;simp[run]
   |cons c r ih=>
    intro n hn;simp only[List.length_cons]at hn;unfold run;by_cases h20:n≤40
    ·simp only[if_pos h20]
     cases e:yJ c with
     |true=>simp[e,ih (n+1) (by omega)]
     |false=>simp[e]
    ·simp only[if_neg h20];have:decide (l.length≤40)=false:=decide_eq_false (by omega);simp[this]
  exact key l 0 (by omega)
def nmB(c:UInt8):Bool:=Jg c||decide (c=45)
def Nc(l:Str):Bool:=decide (l.length≤30)&&(match l with
 |[]=>false
 |c:: _=>Qd c)&&l.all nmB
def aDT(c:UInt8):UInt8:=if 65≤c∧c≤90 then c+32 else c
def low(l:Str):Str:=l.map aDT
def isSmall(l:Str):Bool:=Nc l&&decide (low l=l)
theorem adC{l:Str}(h:Nc l=true):l.length≤30:=by
 unfold Nc at h;simp at h;exact h.1.1
theorem Ol(a b:Str):(a==b)=decide (a=b):=by
 rw[Bool.eq_iff_iff];simp
theorem anB(c:UInt8):Y8 (c.toNat:Int)=((aDT c).toNat:Int):=by
 revert c
 exact ab5 (by decide+kernel)
theorem anC(l:Str):(zn l).map Y8=zn (low l):=by
 unfold zn low;rw[List.map_map,List.map_map];exact List.map_congr_left (fun c _=>anB c)
theorem IJ(l:Str):(low l).length=l.length:=by unfold low;simp
theorem nK(l:Str)(hl:l.length≤140737488355328):iG.f (bP l)=some (bP (low l)):=by
 unfold iG.f;rw[aZ,if_pos hl,VO,anC,BL]
theorem nM(l:Str)(hl:l.length≤140737488355328):gU.f (bP l)=some (bP (low l)):=by
 unfold gU.f;rw[aZ,if_pos hl,VO,anC,BL]
theorem U8(a b:Str)(ha:a.length≤140737488355328)(hb:b.length≤140737488355328):ug.f (bP a) (bP b)=some (decide (low a=low b)):=by
 unfold ug.f;rw[nK a ha,nK b hb];simp only[Option.bind_some,jL,Ol]
theorem U9(a b:Str)(ha:a.length≤140737488355328)(hb:b.length≤140737488355328):uw.f (bP a) (bP b)=some (decide (low a=low b)):=by
 unfold uw.f;rw[nM a ha,nM b hb];simp only[Option.bind_some,jL,Ol]
theorem JE(c:UInt8):um.f (c.toNat:Int)=some (nmB c):=by
 unfold um.f nmB Jg;rw[CS,KZ];have:=yK c 45 (by omega);by_cases e:c=45
 ·have h2:=this.mpr e;cases Qd c<;>cases ajk c<;>simp[e,h2]
 ·have h2:¬(c.toNat:Int)=45:=fun hh=>e (this.mp hh)
  cases Qd c<;>cases ajk c<;>simp[e,h2]
theorem Hf(l:Str)(hl:l.length≤1000000000000000):Ev (fun k=>eY.f k (bP l)) (l.all nmB):=by
 unfold eY.f;rw[aZ];refine vq (nN (xs:=l) (F:=fun k (_:Unit) i=>eY.l0 k (bP l) (l.length:Int) i) (st:=fun _ c=>if nmB c=true then .inr ()else .inl false) (fin:=fun _=>true) (s:=()) (fun _ _=>True) trivial ?_ ?_) ?_
 ·intro p c r s h _;have hz:=iC h;have e1:=kX h;have w1:wrap64 ((p.length:Int)+1)=(p.length:Int)+1:=b_ (by omega) (by omega);simp only[eY.l0,e1,w1,aZ];clear w1 e1
  cases e:nmB c with
  |true=>
   simp only[if_true];refine⟨(fun v hv=>by cases hv),fun s' hs=>⟨trivial,fun v hv=>?_⟩⟩;refine vp (by omega) (vp (by omega) (vp (by omega) (kW (JE c) (vp e hv))))
  |false=>
   refine⟨(fun v hv=>?_),fun s' hs=>by simp at hs⟩;simp only[Bool.false_eq_true,if_false,Sum.inl.injEq]at hv;subst hv;refine vp (by omega) (vp (by omega) (vp (by omega) (kW (JE c) (vn (by rw[e];simp) (vs _)))))
 ·intro s _;simp only[eY.l0];exact vn (by omega) (vs _)
 ·clear hl
  induction l with
  |nil=>rfl
  |cons c r ih=>
   unfold run
   cases e:nmB c with
   |true=>simp[e,ih]
   |false=>simp[e]
theorem Nh(l:Str)(hl:l.length≤1000000000000000):Ev (fun k=>jU.f k (bP l)) (Nc l):=by
 unfold jU.f Nc;rw[aZ]
 cases l with
 |nil=>exact vn (by simp) (vs _)
 |cons c r=>
  simp only[aic];refine vp (by simp only[List.length_cons];omega) ?_;by_cases h2:(c:: r).length≤30
  ·rw[decide_eq_true h2];refine vp (by omega) (vp (by simp) (kW (CS c) ?_))
   cases e:Qd c with
   |true=>exact vp rfl (vb (Hf (c:: r) hl) (vs _))
   |false=>exact vn (by simp) (vs _)
  ·rw[decide_eq_false h2];exact vn (by omega) (vs _)
theorem yQ(l:Str)(hl:l.length≤140737488355328):Ev (fun k=>iy.f k (bP l)) (isSmall l):=by
 unfold iy.f isSmall;refine vb (Nh l (by omega)) ?_
 cases e:Nc l with
 |true=>
  refine vp rfl (kW (nK l hl) (vq (vs _) ?_));simp only[jL,Ol,Bool.true_and]
 |false=>exact vn (by simp) (vs _)
theorem Nl(l:Str)(hl:l.length≤1000000000000000):Ev (fun k=>dK.f k (bP l)) (Nc l):=by
 unfold dK.f
 have hj':∀i:Int,Ev (fun k=>dK.j1 k (bP l) i false) (decide (1≤l.length)&&decide (l.length≤30)):=by
  intro i;refine vc ?_;simp only[dK.j1,aZ];by_cases h1:1≤l.length
  ·rw[decide_eq_true h1];refine vn (by simp) (vp (by omega) (vq (vs _) ?_));rw[Bool.true_and];by_cases h2:l.length≤30
   ·rw[decide_eq_true h2];exact decide_eq_true (by omega)
   ·rw[decide_eq_false h2];exact decide_eq_false (by omega)
  ·rw[decide_eq_false h1];exact vn (by simp) (vn (by omega) (vs _))
 refine vq (nN (xs:=l) (F:=fun k (_:Nat) i=>dK.l0 k (bP l) i) (st:=fun n c=>if n≤30 then(if nmB c=true then(if n=0 then(if Qd c=true then .inr (n+1)else .inl false)else .inr (n+1))else .inl false)else .inl (decide (1≤l.length)&&decide (l.length≤30))) (fin:=fun _=>decide (1≤l.length)&&decide (l.length≤30)) (s:=0) (fun p n=>n=p.length) rfl ?_ ?_) ?_
 ·intro p c r n h hn;subst hn;have hz:=iC h;have e1:=kX h;have w1:wrap64 ((p.length:Int)+1)=(p.length:Int)+1:=b_ (by omega) (by omega);by_cases h20:p.length≤30
  ·simp only[if_pos h20];have hd:decide ((p.length:Int)≤30)=true:=decide_eq_true (by omega);simp only[dK.l0,hd,aZ];have h45:=yK c 45 (by omega);have hlet:nmB c=true→(Qd c=true↔¬(c.toNat:Int)≤57):=ab5 (p:=fun c=>nmB c=true→(Qd c=true↔¬(c.toNat:Int)≤57)) (by decide+kernel) c
   cases e:nmB c with
   |true=>
    have hlt:=hlet e
    have go:∀v,Ev (fun k=>if(p.length:Int)=0 then(if(c.toNat:Int)≤57 then some false else dK.l0 k (bP l) ((p.length:Int)+1))else dK.l0 k (bP l) ((p.length:Int)+1)) v→Ev (fun k=>if(p.length:Int)<(l.length:Int)then dK.j1 (k+0) (bP l) (p.length:Int) true else dK.j1 (k+0) (bP l) (p.length:Int) false) v:=by
     intro v hv;refine vp (by omega) (vc ?_);simp only[dK.j1,e1,w1,aZ];clear w1 e1;refine vp trivial (vp (by omega) (vp (by omega) (kW (vH c) ?_)))
     cases ea:Jg c with
     |true=>exact vp rfl hv
     |false=>
      have:c=45:=by
       unfold nmB at e;rw[ea,Bool.false_or]at e;exact of_decide_eq_true e
      exact vn (by simp) (vp (h45.mpr this) hv)
    simp only[if_true];by_cases h0:p.length=0
    ·simp only[if_pos h0];by_cases hL:Qd c=true
     ·simp only[if_pos hL];refine⟨(fun v hv=>by cases hv),fun s' hs=>⟨?_,fun v hv=>?_⟩⟩
      ·cases hs;simp
      ·exact go v (vp (by omega) (vn (hlt.mp hL) hv))
     ·simp only[if_neg hL];refine⟨(fun v hv=>?_),fun s' hs=>by cases hs⟩;cases hv;exact go false (vp (by omega) (vp (Decidable.not_not.mp (fun hh=>hL (hlt.mpr hh))) (vs _)))
    ·simp only[if_neg h0];refine⟨(fun v hv=>by cases hv),fun s' hs=>⟨?_,fun v hv=>?_⟩⟩
     ·cases hs;simp
     ·exact go v (vn (by omega) hv)
   |false=>
    refine⟨(fun v hv=>?_),fun s' hs=>by simp at hs⟩;simp only[Bool.false_eq_true,if_false,Sum.inl.injEq]at hv;subst hv;refine vp (by omega) (vc ?_);simp only[dK.j1,e1,w1,aZ];clear w1 e1;unfold nmB at e;rw[Bool.or_eq_false_iff]at e;exact vp trivial (vp (by omega) (vp (by omega) (kW (vH c) (vn (by rw[e.1];simp) (vn (fun hh=>(of_decide_eq_false e.2) (h45.mp hh)) (vs _))))))
  ·simp only[if_neg h20];have hd:decide ((p.length:Int)≤30)=false:=decide_eq_false (by omega);refine⟨(fun v hv=>?_),fun s' hs=>by cases hs⟩;cases hv;simp only[dK.l0,hd,aZ];clear w1 e1;exact vp (by omega) (hj' _)
 ·intro s hs;subst hs;simp only[dK.l0,aZ];exact vn (by omega) (hj' _)
 ·have key:∀(r:Str) (n:Nat),1≤n→n+r.length=l.length→run (fun n c=>if n≤30 then(if nmB c=true then(if n=0 then(if Qd c=true then .inr (n+1)else .inl false)else .inr (n+1))else .inl false)else .inl (decide (1≤l.length)&&decide (l.length≤30))) (fun _=>decide (1≤l.length)&&decide (l.length≤30)) r n=(decide (l.length≤30)&&r.all nmB):=by
   intro r
   induction r with
   |nil=>intro n h1 h2;have:decide (1≤l.length)=true:=decide_eq_true (by simp at h2;omega);simp only[run,this];simp
   |cons c r ih=>
    intro n h1 hn;simp only[List.length_cons]at hn;unfold run;have h1l:decide (1≤l.length)=true:=decide_eq_true (by omega);by_cases h20:n≤30
    ·simp only[if_pos h20,if_neg (show¬n=0 by omega)]
     cases e:nmB c with
     |true=>simp[e,ih (n+1) (by omega) (by omega)]
     |false=>simp[e]
    ·simp only[if_neg h20];have:decide (l.length≤30)=false:=decide_eq_false (by omega);simp[this]
  cases l with
  |nil=>simp[run,Nc]
  |cons c r=>
   unfold run Nc;have hc:=key r 1 (by omega) (by simp;omega);simp only[if_pos (show(0:Nat)≤30 by omega),if_true]
   cases e:nmB c with
   |true=>
    cases e2:Qd c with
    |true=>simp only[if_true];rw[hc];simp[e]
    |false=>simp
   |false=>simp[e]
theorem Gv(l:Str)(hl:l.length≤140737488355328):Ev (fun k=>lQ.f k (bP l)) (isSmall l):=by
 unfold lQ.f isSmall;refine vb (Nl l (by omega)) ?_
 cases e:Nc l with
 |true=>
  refine vp rfl (kW (nM l hl) (vq (vs _) ?_));simp only[jL,Ol,Bool.true_and]
 |false=>exact vn (by simp) (vs _)
def fidx(n:Str):List (Str×Str)→Nat→Int
 |[],_=>-1
 |c:: r,i=>if low c.1=low n then(i:Int)else fidx n r (i+1)
def small(ls:List (Str×Str)):Prop:=∀x∈ls,x.1.length≤1048576∧x.2.length≤1048576
theorem JF{ls:List (Str×Str)}(h:II ls≤1048576):small ls:=fun x hx=>by
 have:=aib hx;exact⟨by omega,by omega⟩
theorem YE(n:Str)(r:List (Str×Str)):∀i:Nat,fidx n r i= -1∨((i:Int)≤fidx n r i∧fidx n r i<i+r.length):=by
 induction r with
 |nil=>intro i;exact Or.inl rfl
 |cons c r ih=>
  intro i;unfold fidx;split
  ·right;simp only[List.length_cons];omega
  ·rcases ih (i+1)with h|⟨h1,h2⟩
   ·exact Or.inl h
   ·right;simp only[List.length_cons];omega
theorem adD(n:Str)(r:List (Str×Str)):∀i:Nat,run (fun(i:Nat) (c:Str×Str)=>if low c.1=low n then .inl (i:Int)else .inr (i+1)) (fun _=>(-1:Int)) r i=fidx n r i:=by
 induction r with
 |nil=>intro i;rfl
 |cons c r ih=>
  intro i;unfold run fidx;by_cases e:low c.1=low n
  ·simp only[if_pos e]
  ·simp only[if_neg e,ih]
theorem Np(ls:List (Str×Str))(n:Str)(hs:small ls)(hn:n.length≤1048576)(hl:ls.length≤1048576):Ev (fun k=>kG.f k (ls.map vX) (bP n)) (fidx n ls 0):=by
 unfold kG.f;refine vq (nN (xs:=ls) (F:=fun k (_:Nat) i=>kG.l0 k (ls.map vX) (bP n) i) (st:=fun i c=>if low c.1=low n then .inl (i:Int)else .inr (i+1)) (fin:=fun _=>(-1:Int)) (s:=0) (fun p i=>i=p.length) rfl ?_ ?_) (adD n ls 0)
 ·intro p c r i h hi;subst hi;have hz:=iC h;have e1:=y7 h;have hc:=hs c (by rw[h];simp);have w1:wrap64 ((p.length:Int)+1)=(p.length:Int)+1:=b_ (by omega) (by omega);have hq:=U9 c.1 n (by omega) (by omega);simp only[kG.l0,e1,w1,List.length_map,vX,hq];clear w1 e1;by_cases e:low c.1=low n
  ·simp only[if_pos e];refine⟨(fun v hv=>?_),fun s' hs=>by cases hs⟩;cases hv;exact vp (by omega) (vp (by omega) (kW rfl (vp (decide_eq_true e) (vs _))))
  ·simp only[if_neg e];refine⟨(fun v hv=>by cases hv),fun s' hs=>⟨?_,fun v hv=>?_⟩⟩
   ·cases hs;simp
   ·exact vp (by omega) (vp (by omega) (kW rfl (vn (by simp[e]) hv)))
 ·intro s _;simp only[kG.l0,List.length_map];exact vn (by omega) (vs _)
theorem Gw(ls:List (Str×Str))(n:Str)(hs:small ls)(hn:n.length≤1048576)(hl:ls.length≤1048576):Ev (fun k=>mg.f k (ls.map vX) (bP n)) (fidx n ls 0):=by
 unfold mg.f fB.f;refine vb ?_ (vs _);rw[List.length_map];refine vq (nN (xs:=ls) (F:=fun k (_:Nat) i=>fB.l0 k (ls.map vX) (ls.length:Int) i (bP n)) (st:=fun i c=>if low c.1=low n then .inl (i:Int)else .inr (i+1)) (fin:=fun _=>(-1:Int)) (s:=0) (fun p i=>i=p.length) rfl ?_ ?_) (adD n ls 0)
 ·intro p c r i h hi;subst hi;have hz:=iC h;have e1:=y7 h;have hc:=hs c (by rw[h];simp);have w1:wrap64 ((p.length:Int)+1)=(p.length:Int)+1:=b_ (by omega) (by omega);have hq:=U8 c.1 n (by omega) (by omega);simp only[fB.l0,qH.f,e1,w1,List.length_map,vX,hq,Option.bind_some];clear w1 e1;by_cases e:low c.1=low n
  ·simp only[if_pos e];refine⟨(fun v hv=>?_),fun s' hs=>by cases hs⟩;cases hv;exact vp (by omega) (vp (by omega) (vp (by omega) (vp (decide_eq_true e) (vs _))))
  ·simp only[if_neg e];refine⟨(fun v hv=>by cases hv),fun s' hs=>⟨?_,fun v hv=>?_⟩⟩
   ·cases hs;simp
   ·exact vp (by omega) (vp (by omega) (vp (by omega) (vn (by simp[e]) hv)))
 ·intro s _;simp only[fB.l0];exact vn (by omega) (vs _)
def okB(c:UInt8):Bool:=32≤c&&c≤126
def mZ(l:Str):Bool:=l.all okB&&decide (l.length≤200)
theorem anD(c:UInt8)(h:(c.toNat:Int)<32):okB c=false:=by
 have:c<32:=(aDU c 32 (by omega)).mp h;unfold okB;simp[UInt8.le_iff_toNat_le,UInt8.lt_iff_toNat_lt]at this⊢;omega
theorem anE(c:UInt8)(h:(c.toNat:Int)>126):okB c=false:=by
 unfold okB;simp[UInt8.le_iff_toNat_le,UInt8.lt_iff_toNat_lt];omega
theorem aie(c:UInt8)(h:¬(c.toNat:Int)<32)(h2:¬(c.toNat:Int)>126):okB c=true:=by
 unfold okB;simp[UInt8.le_iff_toNat_le,UInt8.lt_iff_toNat_lt];omega
theorem Qe{l:Str}(h:mZ l=true):l.length≤200:=by
 unfold mZ at h;simp at h;exact h.2
theorem OD(l:Str)(hl:l.length≤1000000000000000)(r:Str):∀(p:Str),l=p++r→Ev (fun k=>bU.l0 k (bP l) (l.length:Int) (p.length:Int)) (r.all okB&&decide (l.length≤200)):=by
 induction r with
 |nil=>
  intro p h;have hz:l.length=p.length:=by rw[h,List.append_nil]
  refine vc ?_;simp only[bU.l0,aZ];repeat(first|refine vp (by first|assumption|omega|decide) ?_|refine vn (by first|assumption|omega|decide) ?_)
  exact vq (vs _) (by simp;omega)
 |cons c r ih=>
  intro p h;have hz:l.length=p.length+(r.length+1):=by rw[h];simp
  have e1:bt (bP l) (p.length:Int)=(c.toNat:Int):=by rw[h];exact afJ p r c
  have:=ih (p++[c]) (by rw[h];simp);rw[jF]at this;refine vc ?_;simp(disch:=omega) only[bU.l0,aZ,e1,b_];by_cases h1:(c.toNat:Int)<32
  ·repeat(first|refine vp (by first|assumption|omega|decide) ?_|refine vn (by first|assumption|omega|decide) ?_)
   exact vq (vs _) (by simp[anD c h1])
  ·by_cases h2:(c.toNat:Int)>126
   ·repeat(first|refine vp (by first|assumption|omega|decide) ?_|refine vn (by first|assumption|omega|decide) ?_)
    exact vq (vs _) (by simp[anE c h2])
   ·repeat(first|refine vp (by first|assumption|omega|decide) ?_|refine vn (by first|assumption|omega|decide) ?_)
    exact vq this (by simp[aie c h1 h2])
theorem qO(l:Str)(hl:l.length≤1000000000000000):Ev (fun k=>bU.f k (bP l)) (mZ l):=by
 unfold bU.f;rw[aZ];exact OD l hl l [] rfl
theorem OE(l:Str)(hl:l.length≤1000000000000000)(r:Str):∀(p:Str),l=p++r→Ev (fun k=>bK.l0 k (bP l) (p.length:Int)) (r.all okB&&decide (l.length≤200)):=by
 induction r with
 |nil=>
  intro p h;have hz:l.length=p.length:=by rw[h,List.append_nil]
  refine vc ?_;simp only[bK.l0,aZ];repeat(first|refine vp (by first|assumption|omega|decide) ?_|refine vn (by first|assumption|omega|decide) ?_)
  refine vc ?_;simp only[bK.j1,aZ];repeat(first|refine vp (by first|assumption|omega|decide) ?_|refine vn (by first|assumption|omega|decide) ?_)
  exact vq (vs _) (by simp;omega)
 |cons c r ih=>
  intro p h;have hz:l.length=p.length+(r.length+1):=by rw[h];simp
  have e1:bt (bP l) (p.length:Int)=(c.toNat:Int):=by rw[h];exact afJ p r c
  have:=ih (p++[c]) (by rw[h];simp);rw[jF]at this;by_cases h0:(p.length:Int)≤200
  ·refine vc ?_;simp only[bK.l0,aZ];repeat(first|refine vp (by first|assumption|omega|decide) ?_|refine vn (by first|assumption|omega|decide) ?_)
   refine vc ?_;simp(disch:=omega) only[bK.j1,aZ,e1,b_,decide_eq_true h0];by_cases h1:(c.toNat:Int)<32
   ·repeat(first|refine vp (by first|assumption|omega|decide) ?_|refine vn (by first|assumption|omega|decide) ?_)
    exact vq (vs _) (by simp[anD c h1])
   ·by_cases h2:(c.toNat:Int)>126
    ·repeat(first|refine vp (by first|assumption|omega|decide) ?_|refine vn (by first|assumption|omega|decide) ?_)
     exact vq (vs _) (by simp[anE c h2])
    ·repeat(first|refine vp (by first|assumption|omega|decide) ?_|refine vn (by first|assumption|omega|decide) ?_)
     exact vq this (by simp[aie c h1 h2])
  ·refine vc ?_;simp only[bK.l0,aZ];repeat(first|refine vp (by first|assumption|omega|decide) ?_|refine vn (by first|assumption|omega|decide) ?_)
   refine vc ?_;simp only[bK.j1,aZ,decide_eq_false h0];repeat(first|refine vp (by first|assumption|omega|decide) ?_|refine vn (by first|assumption|omega|decide) ?_)
   have d1:decide ((l.length:Int)≤200)=false:=decide_eq_false (by omega);have d2:decide (l.length≤200)=false:=decide_eq_false (by omega);exact vq (vs _) (by rw[d1,d2,Bool.and_false])
theorem tY(l:Str)(hl:l.length≤1000000000000000):Ev (fun k=>bK.f k (bP l)) (mZ l):=by
 unfold bK.f;exact OE l hl l [] rfl
def U_(c:UInt8):Str:=if c=34∨c=92 then[92,c]else[c]
def esc:Str→Str
 |[]=>[]
 |c:: r=>U_ c++esc r
def quote(l:Str):Str:=34:: (esc l++[34])
def qw(l:Str):Str:=if mZ l=true then(if YD l=true then l else quote l)else[]
theorem YF(a b:Str):esc (a++b)=esc a++esc b:=by
 induction a with
 |nil=>rfl
 |cons c a ih=>simp only[List.cons_append,esc,ih,List.append_assoc]
theorem anF(c:UInt8):(U_ c).length≤2:=by unfold U_;split<;>simp
theorem Tz(l:Str):(esc l).length≤2*l.length:=by
 induction l with
 |nil=>simp[esc]
 |cons c r ih=>have:=anF c;simp only[esc,List.length_append,List.length_cons];omega
theorem afK(l:Str):(qw l).length≤2*l.length+2:=by
 unfold qw quote;have:=Tz l;split
 ·split
  ·omega
  ·simp only[List.length_cons,List.length_append,List.length_nil];omega
 ·simp
theorem TA(l:Str)(hl:l.length≤1048576):Ev (fun k=>jo.f k (bP l)) (bP (qw l)):=by
 have key:∀(r p:Str),l=p++r→Ev (fun k=>jo.l0 k (bP l) (zn (34:: esc p)) (l.length:Int) (p.length:Int)) (bP (quote l)):=by
  intro r
  induction r with
  |nil=>
   intro p h;rw[List.append_nil]at h;subst h;have h1:=Tz l;refine vc ?_;simp only[jo.l0,Va];refine vn (by omega) (vp (by simp only[List.length_cons];omega) (vq (vs _) ?_));rw[show([34]:List Int)=zn [34]from rfl,←Om,BL];rfl
  |cons c r ih=>
   intro p h;have hz:=iC h;have e1:=kX h;have h1:=Tz p;have hh:=ih (p++[c]) (by rw[h];simp);rw[jF,YF]at hh;have w1:wrap64 ((p.length:Int)+1)=(p.length:Int)+1:=b_ (by omega) (by omega);have YG:=yK c 34 (by omega);have h92:=yK c 92 (by omega);have b1:(34:: esc p:Str).length<140737488355328:=by simp only[List.length_cons];omega
   have b2:(34:: esc p++[92]:Str).length<140737488355328:=by simp only[List.length_cons,List.length_append,List.length_nil];omega
   refine vc ?_;have e92:([92]:List Int)=zn [92]:=rfl;have ec:([(c.toNat:Int)]:List Int)=zn [c]:=rfl;simp only[jo.l0,e1,w1,aZ,Va,Option.bind_some,e92,ec,←Om];clear w1 e1;refine vp (by omega) (vp (by omega) (vp (by omega) ?_));have two:U_ c=[92,c]→(34:: esc p++[92])++[c]=34:: (esc p++(esc [c])):=fun h=>by simp[esc,h]
   have one:U_ c=[c]→(34:: esc p)++[c]=34:: (esc p++(esc [c])):=fun h=>by simp[esc,h]
   by_cases c1:(c.toNat:Int)=34
   ·have hc:c=34:=YG.mp c1;refine vp c1 (vp b1 (vp b2 ?_));rw[two (by unfold U_;rw[if_pos (Or.inl hc)])];exact hh
   ·have hc:¬c=34:=fun h=>c1 (YG.mpr h)
    by_cases c2:(c.toNat:Int)=92
    ·have hc2:c=92:=h92.mp c2;refine vn c1 (vp c2 (vp b1 (vp b2 ?_)));rw[two (by unfold U_;rw[if_pos (Or.inr hc2)])];exact hh
    ·have hc2:¬c=92:=fun h=>c2 (h92.mpr h)
     refine vn c1 (vn c2 (vp b1 ?_));rw[one (by unfold U_;rw[if_neg (by simp[hc,hc2])])];exact hh
 unfold jo.f qw;refine vb (qO l (by omega)) ?_
 cases e1:mZ l with
 |false=>exact vn (by simp) (vq (vs _) rfl)
 |true=>
  refine vp rfl (vb (Tt l (by omega)) ?_)
  cases e2:YD l with
  |true=>exact vp rfl (vs _)
  |false=>
   have:=key l [] rfl;simp only[aZ];exact vn (by simp) this
theorem TB(l:Str)(hl:l.length≤1048576):Ev (fun k=>vG.f k (bP l)) (bP (qw l)):=by
 have key:∀(r p:Str),l=p++r→Ev (fun k=>kR.l0 k (bP l) (bP (34:: esc p)) (p.length:Int)) (bP (quote l)):=by
  intro r
  induction r with
  |nil=>
   intro p h;rw[List.append_nil]at h;subst h;have h1:=Tz l;refine vc ?_;simp only[kR.l0,aZ];refine vn (by omega) (vp (by simp only[List.length_cons];omega) (vq (vs _) ?_));rw[show(⟨#[34]⟩:ByteArray)=bP [34]from rfl,oZ];rfl
  |cons c r ih=>
   intro p h;have hz:=iC h;have e1:=kX h;have h1:=Tz p;have hh:=ih (p++[c]) (by rw[h];simp);rw[jF,YF]at hh;have w1:wrap64 ((p.length:Int)+1)=((p.length+1:Nat):Int):=(b_ (by omega) (by omega)).trans (by omega);have w2:((p.length+1:Nat):Int)=(p.length:Int)+1:=by omega
   have YG:=yK c 34 (by omega);have h92:=yK c 92 (by omega);have e3:strOfNums ([92]:List Int)=bP [92]:=BL [92]
   have e4:(l.drop p.length).take (p.length+1-p.length)=[c]:=by
    rw[h,List.drop_left,show p.length+1-p.length=1 by omega];rfl
   refine vc ?_;simp only[kR.l0,e1,w1,aZ,Option.bind_some,e3,Int.toNat_natCast,lX,e4,oZ];clear w1 e1 e3 e4;simp only[w2];refine vp (by omega) (vp (by omega) ?_);have two:U_ c=[92,c]→(34:: esc p++[92])++[c]=34:: (esc p++(esc [c])):=fun h=>by simp[esc,h]
   have one:U_ c=[c]→(34:: esc p)++[c]=34:: (esc p++(esc [c])):=fun h=>by simp[esc,h]
   have b1:(34:: esc p:Str).length+([92]:Str).length≤9223372036854775807:=by simp only[List.length_cons,List.length_nil];omega
   have b2:(34:: esc p++[92]:Str).length+([c]:Str).length≤9223372036854775807:=by simp only[List.length_cons,List.length_append,List.length_nil];omega
   have b3:(34:: esc p:Str).length+([c]:Str).length≤9223372036854775807:=by simp only[List.length_cons,List.length_nil];omega
   by_cases c1:(c.toNat:Int)=34
   ·have hc:c=34:=YG.mp c1;refine vp c1 (vp b1 (vp (by omega) (vp (by omega) (vp b2 ?_))));rw[two (by unfold U_;rw[if_pos (Or.inl hc)])];exact hh
   ·have hc:¬c=34:=fun h=>c1 (YG.mpr h)
    by_cases c2:(c.toNat:Int)=92
    ·have hc2:c=92:=h92.mp c2;refine vn c1 (vp c2 (vp b1 (vp (by omega) (vp (by omega) (vp b2 ?_)))));rw[two (by unfold U_;rw[if_pos (Or.inr hc2)])];exact hh
    ·have hc2:¬c=92:=fun h=>c2 (h92.mpr h)
     refine vn c1 (vn c2 (vp (by omega) (vp (by omega) (vp b3 ?_))));rw[one (by unfold U_;rw[if_neg (by simp[hc,hc2])])];exact hh
 unfold vG.f qw;refine vb (tY l (by omega)) ?_
 cases e1:mZ l with
 |false=>exact vn (by simp) (vq (vs _) rfl)
 |true=>
  refine vp rfl (vb (Tv l (by omega)) ?_)
  cases e2:YD l with
  |true=>exact vp rfl (vs _)
  |false=>
   have:=key l [] rfl;unfold kR.f;exact vn (by simp) (vb this (vs _))
def aif(p:Str×Str):Str:=[59,32]++p.1++[61]++qw p.2
def vO:List (Str×Str)→Str
 |[]=>[]
 |c:: r=>aif c++vO r
def TD(a b:Str)(ps:List (Str×Str)):Str:=(a++[47]++b)++vO ps
def kfl(q:List (Str×Str)):List (Str×Str)→Bool
 |[]=>true
 |c:: r=>isSmall c.1&&(mZ c.2&&decide (c.2.length≤40))&&decide (¬(fidx c.1 q 0≥0))&&kfl (q++[c]) r
def xP(a b:Str)(ps:List (Str×Str)):Bool:=isSmall a&&isSmall b&&decide (¬(ps.length>4))&&kfl [] ps&&decide ((TD a b ps).length≤150)
theorem ZQ(p:Str×Str):(aif p).length=3+p.1.length+(qw p.2).length:=by
 unfold aif;simp only[List.length_append,List.length_cons,List.length_nil];omega
theorem TF(a b:List (Str×Str)):vO (a++b)=vO a++vO b:=by
 induction a with
 |nil=>rfl
 |cons c a ih=>simp only[List.cons_append,vO,ih,List.append_assoc]
theorem ZR(ps:List (Str×Str)):(vO ps).length≤2*II ps+5*ps.length:=by
 induction ps with
 |nil=>simp[vO]
 |cons c r ih=>
  have h1:=ZQ c;have h2:=afK c.2;simp only[vO,II,List.length_append,List.length_cons];omega
theorem KI(a b:List (Str×Str)):II (a++b)=II a+II b:=by
 induction a with
 |nil=>simp[II]
 |cons c a ih=>simp only[List.cons_append,II,ih];omega
theorem YH{ls p r:List (Str×Str)}(h:ls=p++r)(hs:small ls):small p:=fun x hx=>hs x (by rw[h];exact List.mem_append_left _ hx)
theorem TG{ls p r:List (Str×Str)}(h:ls=p++r):(ls.map vX).take p.length=p.map vX:=by
 rw[h,List.map_append];exact List.take_left' (by simp)
theorem Vb(a b:Str)(ps:List (Str×Str))(ha:a.length≤1048576)(hb:b.length≤1048576)(hz:II ps≤1048576)(hn:ps.length≤1048576):Ev (fun k=>iP.f k (bP a) (bP b) (ps.map vX)) (bP (TD a b ps)):=by
 have hs:=JF hz;unfold iP.f;have e47:(⟨#[47]⟩:ByteArray)=bP [47]:=rfl;simp only[e47,oZ,aZ,List.length_map];refine vp (by omega) (vp (by first|omega|(simp only[List.length_append,List.length_cons,List.length_nil];omega)) ?_)
 have key:∀(r p:List (Str×Str)),ps=p++r→Ev (fun k=>iP.l0 k (bP (a++[47]++b++vO p)) (ps.map vX) (ps.length:Int) (p.length:Int)) (bP (TD a b ps)):=by
  intro r
  induction r with
  |nil=>
   intro p h;rw[List.append_nil]at h;subst h;refine vc ?_;simp only[iP.l0];exact vn (by omega) (vs _)
  |cons c r ih=>
   intro p h;have hz2:=iC h;have e1:=y7 h;have hc:=hs c (by rw[h];simp);have hh:=ih (p++[c]) (by rw[h];simp);rw[jF,TF]at hh;have hq:=afK c.2
   have hp:(vO p).length≤20000000:=by
    have h1:=ZR p;have h2:II p≤II ps:=by rw[h,KI];omega
    omega
   have hi:=TA c.2 (by omega);have w1:wrap64 ((p.length:Int)+1)=(p.length:Int)+1:=b_ (by omega) (by omega);have e59:(⟨#[59,32]⟩:ByteArray)=bP [59,32]:=rfl;have e61:(⟨#[61]⟩:ByteArray)=bP [61]:=rfl;refine vc ?_;simp only[iP.l0,e1,w1,vX,e59,e61,aZ,oZ,List.length_map];clear w1 e1;refine vp (by omega) (vp (by omega) (vp (by omega) (vp (by first|omega|(simp only[List.length_cons,List.length_nil];omega)) (vp (by first|omega|(simp only[List.length_append,List.length_cons,List.length_nil];omega)) (vb hi ?_)))));simp only[aZ,oZ];refine vp (by first|omega|(simp only[List.length_append,List.length_cons,List.length_nil];omega)) (vp (by first|omega|(simp only[List.length_append,List.length_cons,List.length_nil];omega)) ?_)
   have e:a++[47]++b++vO p++([59,32]++c.1++[61]++qw c.2)=a++[47]++b++(vO p++vO [c]):=by
    simp[vO,aif]
   rw[e];exact hh
 have:=key ps [] rfl
 simpa [vO] using this
theorem IK(a b:Str)(ps:List (Str×Str))(ha:a.length≤1048576)(hb:b.length≤1048576)(hz:II ps≤1048576)(hn:ps.length≤1048576):Ev (fun k=>dF.f k (bP a) (bP b) (ps.map vX)) (xP a b ps):=by
 have hs:=JF hz;have ht:=Vb a b ps ha hb hz hn
 have hbad:Ev (fun k=>dF.j0 k true (bP a) (bP b) (ps.map vX)) false:=by
  refine vc ?_;simp only[dF.j0];exact vp trivial (vs _)
 have key:∀(r p:List (Str×Str)),ps=p++r→Ev (fun k=>dF.l0 k (ps.map vX) (ps.length:Int) (p.length:Int) (bP a) (bP b) (ps.map vX)) (kfl p r&&decide ((TD a b ps).length≤150)):=by
  intro r
  induction r with
  |nil=>
   intro p h;rw[List.append_nil]at h;subst h;refine vc ?_;simp only[dF.l0,kfl,Bool.true_and];refine vn (by omega) (vb ht (vq (vs _) ?_));rw[aZ];by_cases h1:(TD a b ps).length≤150
   ·rw[decide_eq_true h1];exact decide_eq_true (by omega)
   ·rw[decide_eq_false h1];exact decide_eq_false (by omega)
  |cons c r ih=>
   intro p h;have hz2:=iC h;have e1:=y7 h;have hc:=hs c (by rw[h];simp);have hh:=ih (p++[c]) (by rw[h];simp);rw[jF]at hh;have w1:wrap64 ((p.length:Int)+1)=(p.length:Int)+1:=b_ (by omega) (by omega);have i1:=yQ c.1 (by omega);have i2:=qO c.2 (by omega);have i3:=Gw p c.1 (YH h hs) hc.1 (by omega);have e3:=TG h;refine vc ?_;simp only[dF.l0,kfl,e1,w1,vX,aZ,List.length_map,Int.toNat_natCast];clear w1 e1;refine vp (by omega) (vp (by omega) (vp (by omega) (vb i1 ?_)))
   cases q1:isSmall c.1 with
   |false=>exact vn (by simp) (vs _)
   |true=>
    refine vp rfl (vb i2 ?_)
    cases q2:mZ c.2 with
    |false=>exact vn (by simp) (vs _)
    |true=>
     refine vp rfl ?_;by_cases q3:c.2.length≤40
     ·rw[decide_eq_true q3];refine vn (by omega) (vp (by omega) ?_);rw[e3];refine vb i3 ?_;by_cases q4:fidx c.1 p 0≥0
      ·refine vp q4 (vq (vs _) ?_);rw[decide_eq_false (fun hn=>hn q4)];rfl
      ·refine vn q4 ?_;rw[decide_eq_true q4]
       simpa using hh
     ·rw[decide_eq_false q3];exact vp (by omega) (vs _)
 unfold dF.f xP;refine vb (yQ a (by omega)) ?_
 cases q1:isSmall a with
 |false=>exact vn (by simp) hbad
 |true=>
  refine vp rfl (vb (yQ b (by omega)) ?_)
  cases q2:isSmall b with
  |false=>exact vn (by simp) hbad
  |true=>
   refine vp rfl (vc ?_);simp only[dF.j0,List.length_map];by_cases q3:ps.length>4
   ·refine vp (decide_eq_true (by omega)) (vq (vs _) ?_);rw[decide_eq_false (fun hn=>hn q3)];rfl
   ·refine vn (by simp;omega) ?_;rw[decide_eq_true q3];have:=key ps [] rfl
    simpa using this
theorem YI(l:Str)(hl:l.length≤1000000000):Ev (fun k=>vN.f k (bP l)) (mZ l&&decide (l.length≤40)):=by
 unfold vN.f;refine vb (tY l (by omega)) ?_
 cases q2:mZ l with
 |false=>exact vn (by simp) (vs _)
 |true=>
  refine vp rfl (vq (vs _) ?_);rw[aZ,Bool.true_and];by_cases h1:l.length≤40
  ·rw[decide_eq_true h1];exact decide_eq_true (by omega)
  ·rw[decide_eq_false h1];exact decide_eq_false (by omega)
theorem IL(a b:Str)(ps:List (Str×Str))(ha:a.length≤1048576)(hb:b.length≤1048576)(hz:II ps≤1048576)(hn:ps.length≤1048576):Ev (fun k=>bJ.f k (bP a) (bP b) (ps.map vX)) (xP a b ps):=by
 have hs:=JF hz
 have hbad:Ev (fun k=>bJ.j0 k true (bP a) (bP b) (ps.map vX)) false:=by
  refine vc ?_;simp only[bJ.j0];exact vp trivial (vs _)
 have key:∀(r p:List (Str×Str)),ps=p++r→Ev (fun k=>bJ.l0 k (((a++[47]++b++vO p:Str).length:Nat):Int) (p.length:Int) (bP a) (bP b) (ps.map vX)) (kfl p r&&decide ((TD a b ps).length≤150)):=by
  intro r
  induction r with
  |nil=>
   intro p h;rw[List.append_nil]at h;subst h;refine vc ?_;simp only[bJ.l0,kfl,Bool.true_and,List.length_map];refine vn (by omega) (vq (vs _) ?_);have e:a++[47]++b++vO ps=TD a b ps:=rfl;rw[e];by_cases h1:(TD a b ps).length≤150
   ·rw[decide_eq_true h1];exact decide_eq_true (by omega)
   ·rw[decide_eq_false h1];exact decide_eq_false (by omega)
  |cons c r ih=>
   intro p h;have hz2:=iC h;have e1:=y7 h;have hc:=hs c (by rw[h];simp);have hh:=ih (p++[c]) (by rw[h];simp);rw[jF]at hh
   have hp:(vO p).length≤20000000:=by
    have h1:=ZR p;have h2:II p≤II ps:=by rw[h,KI];omega
    omega
   have hq:=afK c.2;have hk:=ZQ c;have i1:=Gv c.1 (by omega);have i2:=YI c.2 (by omega);have i3:=Np p c.1 (YH h hs) hc.1 (by omega);have i4:=TB c.2 (by omega);have e3:=TG h
   have en:(a++[47]++b++vO (p++[c]):Str).length=(a++[47]++b++vO p:Str).length+3+c.1.length+(qw c.2).length:=by
    rw[TF];simp only[List.length_append,vO,List.length_nil,hk];omega
   have hm:(a++[47]++b++vO p:Str).length≤30000000:=by
    simp only[List.length_append,List.length_cons,List.length_nil];omega
   rw[en]at hh
   generalize (a++[47]++b++vO p:Str).length=m at hh hm
   have w1:Unit→wrap64 ((p.length:Int)+1)=(p.length:Int)+1∧wrap64 (wrap64 (wrap64 ((m:Int)+3)+(c.1.length:Int))+((qw c.2).length:Int))=((m+3+c.1.length+(qw c.2).length:Nat):Int):=by
    intro _;have x1:wrap64 ((m:Int)+3)=(m:Int)+3:=b_ (by omega) (by omega);rw[x1];clear x1;have x2:wrap64 ((m:Int)+3+(c.1.length:Int))=(m:Int)+3+(c.1.length:Int):=b_ (by omega) (by omega);rw[x2];clear x2;exact⟨b_ (by omega) (by omega),(b_ (by omega) (by omega)).trans (by omega)⟩
   refine vc ?_;simp only[bJ.l0,kfl,e1,(w1 ()).1,vX,aZ,List.length_map,Int.toNat_natCast];refine vp (by omega) (vp (by omega) (vb i1 ?_))
   cases q1:isSmall c.1 with
   |false=>exact vn (by simp) (vs _)
   |true=>
    refine vp rfl (vb i2 ?_)
    cases q2:(mZ c.2&&decide (c.2.length≤40))with
    |false=>exact vn (by simp) (vs _)
    |true=>
     refine vp rfl (vp (by omega) ?_);rw[e3];refine vb i3 ?_;by_cases q4:fidx c.1 p 0≥0
     ·refine vp q4 (vq (vs _) ?_);rw[decide_eq_false (fun hn=>hn q4)];rfl
     ·refine vn q4 (vb i4 ?_);rw[decide_eq_true q4];simp only[aZ,(w1 ()).2]
      simpa using hh
 unfold bJ.f xP;refine vb (Gv a (by omega)) ?_
 cases q1:isSmall a with
 |false=>exact vn (by simp) hbad
 |true=>
  refine vp rfl (vb (Gv b (by omega)) ?_)
  cases q2:isSmall b with
  |false=>exact vn (by simp) hbad
  |true=>
   refine vp rfl (vc ?_);simp only[bJ.j0,List.length_map,aZ];by_cases q3:ps.length>4
   ·refine vp (decide_eq_true (by omega)) (vq (vs _) ?_);rw[decide_eq_false (fun hn=>hn q3)];rfl
   ·refine vn (by simp;omega) ?_;rw[decide_eq_true q3];have:=key ps [] rfl;have x1:wrap64 ((a.length:Int)+(b.length:Int))=(a.length:Int)+(b.length:Int):=b_ (by omega) (by omega);rw[x1];clear x1
    have x2:wrap64 ((a.length:Int)+(b.length:Int)+1)=(((a++[47]++b++vO []:Str).length:Nat):Int):=by
     refine(b_ (by omega) (by omega)).trans ?_;simp only[vO,List.length_append,List.length_cons,List.length_nil];omega
    rw[x2]
    simpa using this
theorem Dp(c:UInt8):oW.f (c.toNat:Int)=some (Jg c):=by
 unfold oW.f Jg;rw[CS,KZ];cases Qd c<;>simp
theorem Dq(l:Str)(hl:l.length≤1000000000000000):Ev (fun k=>dO.f k (bP l)) (l.all Jg):=by
 unfold dO.f;rw[aZ];refine vq (nN (xs:=l) (F:=fun k (_:Unit) i=>dO.l0 k (bP l) (l.length:Int) i) (st:=fun _ c=>if Jg c=true then .inr ()else .inl false) (fin:=fun _=>true) (s:=()) (fun _ _=>True) trivial ?_ ?_) ?_
 ·intro p c r s h _;have hz:=iC h;have e1:=kX h;have w1:wrap64 ((p.length:Int)+1)=(p.length:Int)+1:=b_ (by omega) (by omega);simp only[dO.l0,e1,w1,aZ];clear w1 e1
  cases e:Jg c with
  |true=>
   simp only[if_true];refine⟨(fun v hv=>by cases hv),fun s' hs=>⟨trivial,fun v hv=>?_⟩⟩;refine vp (by omega) (vp (by omega) (vp (by omega) (kW (Dp c) (vp e hv))))
  |false=>
   refine⟨(fun v hv=>?_),fun s' hs=>by simp at hs⟩;simp only[Bool.false_eq_true,if_false,Sum.inl.injEq]at hv;subst hv;refine vp (by omega) (vp (by omega) (vp (by omega) (kW (Dp c) (vn (by rw[e];simp) (vs _)))))
 ·intro s _;simp only[dO.l0];exact vn (by omega) (vs _)
 ·clear hl
  induction l with
  |nil=>rfl
  |cons c r ih=>
   unfold run
   cases e:Jg c with
   |true=>simp[e,ih]
   |false=>simp[e]
theorem zG(l:Str)(hl:l.length≤1000000000000000):Ev (fun k=>jG.f k (bP l)) (He l):=by
 unfold jG.f He;rw[aZ];by_cases h1:1≤l.length
 ·rw[decide_eq_true h1];refine vp (by omega) ?_;by_cases h2:l.length≤20
  ·rw[decide_eq_true h2];exact vp (by omega) (vb (Dq l hl) (vs _))
  ·rw[decide_eq_false h2];exact vn (by omega) (vs _)
 ·rw[decide_eq_false h1];exact vn (by omega) (vs _)
theorem vV(l:Str)(hl:l.length≤1000000000000000):Ev (fun k=>dB.f k (bP l)) (He l):=by
 unfold dB.f
 have hj:Ev (fun k=>dB.j1 k (bP l) (0:Int) false) (decide (1≤l.length)&&decide (l.length≤20)):=by
  refine vc ?_;simp only[dB.j1,aZ];by_cases h1:1≤l.length
  ·rw[decide_eq_true h1];refine vn (by simp) (vp (by omega) (vq (vs _) ?_));rw[Bool.true_and];by_cases h2:l.length≤20
   ·rw[decide_eq_true h2];exact decide_eq_true (by omega)
   ·rw[decide_eq_false h2];exact decide_eq_false (by omega)
  ·rw[decide_eq_false h1];exact vn (by simp) (vn (by omega) (vs _))
 have hj':∀i:Int,Ev (fun k=>dB.j1 k (bP l) i false) (decide (1≤l.length)&&decide (l.length≤20)):=by
  intro i;obtain⟨K,hK⟩:=hj;refine⟨K+1,fun k hk=>?_⟩;have:=hK k (by omega);obtain⟨m,rfl⟩:∃m,k=m+1:=⟨k-1,by omega⟩
  simp only[dB.j1]at this⊢;exact this
 refine vq (nN (xs:=l) (F:=fun k (_:Nat) i=>dB.l0 k (bP l) i) (st:=fun n c=>if n≤20 then(if Jg c=true then .inr (n+1)else .inl false)else .inl (decide (1≤l.length)&&decide (l.length≤20))) (fin:=fun _=>decide (1≤l.length)&&decide (l.length≤20)) (s:=0) (fun p n=>n=p.length) rfl ?_ ?_) ?_
 ·intro p c r n h hn;subst hn;have hz:=iC h;have e1:=kX h;have w1:wrap64 ((p.length:Int)+1)=(p.length:Int)+1:=b_ (by omega) (by omega);by_cases h20:p.length≤20
  ·simp only[if_pos h20];have hd:decide ((p.length:Int)≤20)=true:=decide_eq_true (by omega);simp only[dB.l0,hd,aZ]
   cases e:Jg c with
   |true=>
    simp only[if_true];refine⟨(fun v hv=>by cases hv),fun s' hs=>⟨?_,fun v hv=>?_⟩⟩
    ·cases hs;simp
    ·refine vp (by omega) (vc ?_);simp only[dB.j1,e1,w1,aZ];clear w1 e1;exact vp trivial (vp (by omega) (vp (by omega) (kW (vH c) (vp e hv))))
   |false=>
    refine⟨(fun v hv=>?_),fun s' hs=>by simp at hs⟩;simp only[Bool.false_eq_true,if_false,Sum.inl.injEq]at hv;subst hv;refine vp (by omega) (vc ?_);simp only[dB.j1,e1,w1,aZ];clear w1 e1;exact vp trivial (vp (by omega) (vp (by omega) (kW (vH c) (vn (by rw[e];simp) (vs _)))))
  ·simp only[if_neg h20];have hd:decide ((p.length:Int)≤20)=false:=decide_eq_false (by omega);refine⟨(fun v hv=>?_),fun s' hs=>by cases hs⟩;cases hv;simp only[dB.l0,hd,aZ];clear w1 e1;exact vp (by omega) (hj' _)
 ·intro s hs;subst hs;simp only[dB.l0,aZ];exact vn (by omega) (hj' _)
 ·unfold He
  have key:∀(r:Str) (n:Nat),n+r.length=l.length→run (fun n c=>if n≤20 then(if Jg c=true then .inr (n+1)else .inl false)else .inl (decide (1≤l.length)&&decide (l.length≤20))) (fun _=>decide (1≤l.length)&&decide (l.length≤20)) r n=(decide (1≤l.length)&&decide (l.length≤20)&&r.all Jg):=by
   intro r
   induction r with
   |nil=>intro n _;simp[run]
   |cons c r ih=>
    intro n hn;simp only[List.length_cons]at hn;unfold run;by_cases h20:n≤20
    ·simp only[if_pos h20]
     cases e:Jg c with
     |true=>simp[e,ih (n+1) (by omega)]
     |false=>simp[e]
    ·simp only[if_neg h20];have:decide (l.length≤20)=false:=decide_eq_false (by omega);simp[this]
  exact key l 0 (by omega)
def CU(ps:List (Str×Str))(n:Str):Str×Bool:=if fidx n ps 0<0 then([],false)else((ps.getD (fidx n ps 0).toNat ([],[])).2,true)
def multi:Str:=[109,117,108,116,105,112,97,114,116]
def bnd:Str:=[98,111,117,110,100,97,114,121]
def Wu(a b:Str)(ps:List (Str×Str)):Str×Bool:=if xP a b ps=true∧a=multi∧He (CU ps bnd).1=true then((CU ps bnd).1,true)else([],false)
theorem KJ(ps:List (Str×Str))(n:Str)(hs:small ps):(CU ps n).1.length≤1048576:=by
 unfold CU;split
 ·simp
 ·rw[List.getD_eq_getElem?_getD]
  cases e:ps[(fidx n ps 0).toNat]? with
  |none=>simp
  |some x=>exact(hs x (List.mem_of_getElem? e)).2
theorem ZT(ps:List (Str×Str))(i:Int):(aG (ps.map vX) i).f1=bP ((ps.getD i.toNat ([],[])).2):=by
 unfold aG;rw[List.getD_eq_getElem?_getD,List.getD_eq_getElem?_getD,List.getElem?_map]
 cases ps[i.toNat]? with
 |none=>rfl
 |some x=>rfl
theorem JG(ps:List (Str×Str))(n:Str)(hs:small ps)(hn:n.length≤1048576)(hl:ps.length≤1048576):Ev (fun k=>nR.f k (ps.map vX) (bP n)) (bP (CU ps n).1,(CU ps n).2):=by
 unfold nR.f CU;refine vb (Gw ps n hs hn hl) ?_;have hr:=YE n ps 0;by_cases h:fidx n ps 0<0
 ·simp only[if_pos h];exact vq (vs _) rfl
 ·simp only[if_neg h,List.length_map,ZT];exact vp (by omega) (vp (by omega) (vs _))
theorem JH(ps:List (Str×Str))(n:Str)(hs:small ps)(hn:n.length≤1048576)(hl:ps.length≤1048576):Ev (fun k=>kT.f k (ps.map vX) (bP n)) (bP (CU ps n).1,(CU ps n).2):=by
 unfold kT.f CU;refine vb (Np ps n hs hn hl) ?_;have hr:=YE n ps 0;by_cases h:fidx n ps 0<0
 ·simp only[if_pos h];exact vq (vs _) rfl
 ·simp only[if_neg h,List.length_map,ZT];exact vp (by omega) (vp (by omega) (vs _))
theorem ZU(ps:List (Str×Str))(n:Str)(h:(CU ps n).2=false):(CU ps n).1=[]:=by
 unfold CU at*;split at h
 ·rename_i h1;rw[if_pos h1]
 ·cases h
theorem aii:(⟨#[98,111,117,110,100,97,114,121]⟩:ByteArray)=bP bnd:=rfl
theorem Qg(a b:Str)(ps:List (Str×Str))(ha:a.length≤1048576)(hb:b.length≤1048576)(hz:II ps≤1048576)(hn:ps.length≤1048576):Ev (fun k=>jf.f k (bP a) (bP b) (ps.map vX)) (bP (Wu a b ps).1,(Wu a b ps).2):=by
 have hs:=JF hz;have hg:=KJ ps bnd hs;unfold jf.f;refine vb (IK a b ps ha hb hz hn) ?_;simp only[jL]
 have hbad:Wu a b ps=([],false)→Ev (fun k=>jf.j0 k true (bP a) (bP b) (ps.map vX)) (bP (Wu a b ps).1,(Wu a b ps).2):=by
  intro e;rw[e];refine vc ?_;simp only[jf.j0];exact vp trivial (vq (vs _) rfl)
 cases e:xP a b ps with
 |false=>exact vn (by simp) (hbad (by unfold Wu;rw[if_neg (by simp[e])]))
 |true=>
  refine vp rfl ?_;by_cases hm:a=multi
  ·have e2:(a !=([109,117,108,116,105,112,97,114,116]:List UInt8))=false:=by rw[hm];decide
   rw[e2];refine vc ?_;simp only[jf.j0,aii];refine vn (by simp) (vb (JG ps bnd hs (by decide) (by omega)) (vb (zG (CU ps bnd).1 (by omega)) ?_))
   cases e3:He (CU ps bnd).1 with
   |true=>
    have hv:Wu a b ps=((CU ps bnd).1,true):=by unfold Wu;rw[if_pos ⟨e,hm,e3⟩]
    rw[hv];exact vp rfl (vs _)
   |false=>
    have hv:Wu a b ps=([],false):=by unfold Wu;rw[if_neg (by rw[e3];simp)]
    rw[hv];exact vn (by simp) (vq (vs _) rfl)
  ·have e2:(a !=([109,117,108,116,105,112,97,114,116]:List UInt8))=true:=by simpa [multi] using hm
   rw[e2];exact hbad (by unfold Wu;rw[if_neg (by simp[hm])])
theorem Gx(a b:Str)(ps:List (Str×Str))(ha:a.length≤1048576)(hb:b.length≤1048576)(hz:II ps≤1048576)(hn:ps.length≤1048576):Ev (fun k=>oq.f k (bP a) (bP b) (ps.map vX)) (bP (Wu a b ps).1,(Wu a b ps).2):=by
 have hs:=JF hz;have hg:=KJ ps bnd hs;unfold oq.f;simp only[aii,jL];refine vb (JH ps bnd hs (by decide) (by omega)) (vb (IL a b ps ha hb hz hn) ?_)
 cases e:xP a b ps with
 |false=>
  have hv:Wu a b ps=([],false):=by unfold Wu;rw[if_neg (by rw[e];simp)]
  rw[hv];exact vn (by simp) (vq (vs _) rfl)
 |true=>
  refine vp rfl ?_;by_cases hm:a=multi
  ·refine vp hm ?_
   cases e4:(CU ps bnd).2 with
   |false=>
    have:=ZU ps bnd e4;have hv:Wu a b ps=([],false):=by unfold Wu;rw[if_neg (by rw[this];simp[He])]
    rw[hv];exact vn (by simp) (vq (vs _) rfl)
   |true=>
    refine vp rfl (vb (vV (CU ps bnd).1 (by omega)) ?_)
    cases e3:He (CU ps bnd).1 with
    |true=>
     have hv:Wu a b ps=((CU ps bnd).1,true):=by unfold Wu;rw[if_pos ⟨e,hm,e3⟩]
     rw[hv];exact vp rfl (vs _)
    |false=>
     have hv:Wu a b ps=([],false):=by unfold Wu;rw[if_neg (by rw[e3];simp)]
     rw[hv];exact vn (by simp) (vq (vs _) rfl)
  ·have hv:Wu a b ps=([],false):=by unfold Wu;rw[if_neg (by simp[hm])]
   rw[hv];exact vn hm (vq (vs _) rfl)
def TI:Str→Option (Str×Str)
 |[]=>none
 |c:: r=>if c=34 then some ([],r)else if c=92 then(match r with
   |[]=>none
   |d:: t=>(TI t).map fun q=>(d:: q.1,q.2))else(TI r).map fun q=>(c:: q.1,q.2)
theorem JI(c:UInt8)(r:Str):TI (c:: r)=if c=34 then some ([],r)else if c=92 then(match r with
   |[]=>none
   |d:: t=>(TI t).map fun q=>(d:: q.1,q.2))else(TI r).map fun q=>(c:: q.1,q.2):=by rw[TI.eq_def];rfl
def nq(q:Nat)(c:UInt8):Nat:=if q=2 then 1 else if q=1 then(if c=34 then 0 else if c=92 then 2 else 1)else(if c=34 then 1 else 0)
def tZ(b:UInt8):Nat→Str→Option (Str×Str)
 |_,[]=>none
 |q,c:: r=>if q=0∧c=b then some ([],r)else(tZ b (nq q c) r).map fun x=>(c:: x.1,x.2)
def hd1(c:UInt8):List Str→List Str
 |[]=>[[c]]
 |x:: r=>(c:: x):: r
def parts(b:UInt8):Nat→Str→List Str
 |_,[]=>[[]]
 |q,c:: r=>if q=0∧c=b then[]:: parts b 0 r else hd1 c (parts b (nq q c) r)
theorem Oo(b:UInt8):∀(n:Nat) (r w t:Str),r.length≤n→TI r=some (w,t)→∃m,r=m++t∧w.length<m.length∧tZ b 1 r=(tZ b 0 t).map fun x=>(m++x.1,x.2):=by
 intro n
 induction n with
 |zero=>intro r w t h h2;cases r with
  |nil=>cases h2
  |cons c r=>simp at h
 |succ n ih=>
  intro r w t h h2
  cases r with
  |nil=>cases h2
  |cons c r=>
   simp only[List.length_cons]at h;rw[JI]at h2;by_cases c1:c=34
   ·rw[if_pos c1]at h2;cases h2;refine⟨[c],rfl,by simp,?_⟩;rw[tZ,if_neg (by simp),c1];rfl
   ·rw[if_neg c1]at h2;by_cases c2:c=92
    ·rw[if_pos c2]at h2
     cases r with
     |nil=>cases h2
     |cons d r=>
      simp only[List.length_cons]at h;simp only[Option.map_eq_some_iff]at h2;obtain⟨⟨w1,t1⟩,e1,e2⟩:=h2;cases e2;obtain⟨m,e3,e4,e5⟩:=ih r w1 t1 (by omega) e1;refine⟨c:: d:: m,by rw[e3];rfl,by simp only[List.length_cons];omega,?_⟩;rw[tZ,if_neg (by simp),c2,tZ,if_neg (by simp[nq])];have:nq (nq 1 92) d=1:=by simp[nq]
      rw[this,e5];cases tZ b 0 t1<;>rfl
    ·rw[if_neg c2]at h2;simp only[Option.map_eq_some_iff]at h2;obtain⟨⟨w1,t1⟩,e1,e2⟩:=h2;cases e2;obtain⟨m,e3,e4,e5⟩:=ih r w1 t1 (by omega) e1;refine⟨c:: m,by rw[e3];rfl,by simp only[List.length_cons];omega,?_⟩;have:nq 1 c=1:=by simp[nq,c1,c2]
     rw[tZ,if_neg (by simp),this,e5];cases tZ b 0 t1<;>rfl
theorem adE(b:UInt8):∀(n:Nat) (r:Str),r.length≤n→TI r=none→tZ b 1 r=none:=by
 intro n
 induction n with
 |zero=>intro r h h2;cases r with
  |nil=>rfl
  |cons c r=>simp at h
 |succ n ih=>
  intro r h h2
  cases r with
  |nil=>rfl
  |cons c r=>
   simp only[List.length_cons]at h;rw[JI]at h2;by_cases c1:c=34
   ·rw[if_pos c1]at h2;cases h2
   ·rw[if_neg c1]at h2;by_cases c2:c=92
    ·rw[if_pos c2]at h2
     cases r with
     |nil=>rw[tZ,if_neg (by simp)];rfl
     |cons d r=>
      simp only[List.length_cons]at h;simp only[Option.map_eq_none_iff]at h2;rw[tZ,if_neg (by simp),c2,tZ,if_neg (by simp[nq])];have:nq (nq 1 92) d=1:=by simp[nq]
      rw[this,ih r (by omega) h2];rfl
    ·rw[if_neg c2]at h2;simp only[Option.map_eq_none_iff]at h2;have:nq 1 c=1:=by simp[nq,c1,c2]
     rw[tZ,if_neg (by simp),this,ih r (by omega) h2];rfl
theorem aij(b:UInt8)(s:Str):∀(q:Nat) (x t:Str),tZ b q s=some (x,t)→s=x++b:: t:=by
 induction s with
 |nil=>intro q x t h;cases h
 |cons c r ih=>
  intro q x t h;rw[tZ]at h;split at h
  ·rename_i hc;cases h;rw[hc.2];rfl
  ·simp only[Option.map_eq_some_iff]at h;obtain⟨⟨w1,t1⟩,e1,e2⟩:=h;cases e2;rw[ih _ _ _ e1];rfl
theorem Vd(b:UInt8)(s:Str):∀q:Nat,parts b q s=match tZ b q s with
  |none=>[s]
  |some x=>x.1:: parts b 0 x.2:=by
 induction s with
 |nil=>intro q;rfl
 |cons c r ih=>
  intro q;rw[parts,tZ];by_cases h:q=0∧c=b
  ·rw[if_pos h,if_pos h]
  ·rw[if_neg h,if_neg h,ih];cases tZ b (nq q c) r<;>rfl
theorem ZV(b:UInt8)(s:Str):∀q:Nat,1≤(parts b q s).length∧(parts b q s).length≤s.length+1:=by
 induction s with
 |nil=>intro q;exact⟨Nat.le_refl _,Nat.le_refl _⟩
 |cons c r ih=>
  intro q;rw[parts];split
  ·have:=ih 0;simp only[List.length_cons];omega
  ·have:=ih (nq q c)
   cases e:parts b (nq q c) r with
   |nil=>rw[e]at this;simp at this
   |cons y l=>rw[e]at this;simp only[hd1,List.length_cons]at this⊢;omega
theorem ajl(b:UInt8)(s:Str):∀(q:Nat) (x:Str),x∈parts b q s→x.length≤s.length∧∀c∈x,c∈s:=by
 induction s with
 |nil=>intro q x h;simp only[parts,List.mem_singleton]at h;subst h;simp
 |cons c r ih=>
  intro q x h;rw[parts]at h;split at h
  ·rcases List.mem_cons.mp h with rfl|h
   ·simp
   ·obtain⟨h1,h2⟩:=ih _ x h;exact⟨by simp only[List.length_cons];omega,fun d hd=>List.mem_cons_of_mem _ (h2 d hd)⟩
  ·cases e:parts b (nq q c) r with
   |nil=>have:=ZV b r (nq q c);rw[e]at this;simp at this
   |cons y l=>
    rw[e,hd1]at h;rcases List.mem_cons.mp h with rfl|h
    ·obtain⟨h1,h2⟩:=ih (nq q c) y (by rw[e];simp);refine⟨by simp only[List.length_cons];omega,fun d hd=>?_⟩;rcases List.mem_cons.mp hd with rfl|hd
     ·simp
     ·exact List.mem_cons_of_mem _ (h2 d hd)
    ·obtain⟨h1,h2⟩:=ih (nq q c) x (by rw[e];exact List.mem_cons_of_mem _ h);exact⟨by simp only[List.length_cons];omega,fun d hd=>List.mem_cons_of_mem _ (h2 d hd)⟩
def TJ:Nat→Bool→Str→Option (List Str)
 |0,_,_=>none
 |_+1,_,[]=>some []
 |n+1,a,c:: r=>if c=32 then TJ n true r else if a=false then none else if c=34 then(match TI r with
   |none=>none
   |some q=>(TJ n false q.2).map (q.1:: ·))else if(c:: r).takeWhile yJ=[]then none else(TJ n false ((c:: r).dropWhile yJ)).map ((c:: r).takeWhile yJ:: ·)
def words(s:Str):Option (List Str):=TJ (s.length+1) true s
def wz(b:UInt8):Str→Option (Str×Str)
 |[]=>none
 |c:: r=>if c=b then some ([],r)else(wz b r).map fun x=>(c:: x.1,x.2)
theorem ab6(b:UInt8)(s:Str):∀(x t:Str),wz b s=some (x,t)→s=x++b:: t:=by
 induction s with
 |nil=>intro x t h;cases h
 |cons c r ih=>
  intro x t h;rw[wz]at h;split at h
  ·rename_i hc;cases h;rw[hc];rfl
  ·simp only[Option.map_eq_some_iff]at h;obtain⟨⟨w1,t1⟩,e1,e2⟩:=h;cases e2;rw[ih _ _ e1];rfl
theorem arZ(b:UInt8)(s:Str):Lib.index s [b]=match wz b s with
  |none=>-1
  |some x=>(x.1.length:Int):=by
 induction s with
 |nil=>rfl
 |cons c r ih=>
  rw[Lib.index,wz];by_cases h:c=b
  ·rw[if_pos (by simp[List.isPrefixOf,h]),if_pos h];rfl
  ·rw[if_neg (by simp only[List.isPrefixOf,Bool.and_true,beq_iff_eq];exact fun e=>h e.symm),if_neg h,ih]
   cases e:wz b r with
   |none=>rfl
   |some q=>
    simp only[Option.map_some,List.length_cons];rw[if_neg (by simp)];rfl
theorem aDV(b:UInt8)(s:Str):Lib.cut s [b]=match wz b s with
  |none=>(s,[],false)
  |some x=>(x.1,x.2,true):=by
 unfold Lib.cut;rw[arZ]
 cases e:wz b s with
 |none=>rfl
 |some q=>
  obtain⟨x,t⟩:=q;have:=ab6 b s x t e;simp only;rw[if_pos (by omega)];subst this;simp
def trim(l:Str):Str:=Lib.trimB l 32
theorem Jh(p:UInt8→Bool)(l:Str):∃m,l=m++l.dropWhile p∧∀c∈m,p c=true:=by
 induction l with
 |nil=>exact⟨[],rfl,by simp⟩
 |cons c r ih=>
  cases e:p c with
  |true=>
   obtain⟨m,h1,h2⟩:=ih;refine⟨c:: m,by simp[List.dropWhile,e];exact h1,fun d hd=>?_⟩;rcases List.mem_cons.mp hd with rfl|hd
   ·exact e
   ·exact h2 d hd
  |false=>exact⟨[],by simp[List.dropWhile,e],by simp⟩
theorem Qh(l:Str):∃i j,l=List.replicate i 32++trim l++List.replicate j 32:=by
 unfold trim Lib.trimB Lib.trimLeftB Lib.trimRightB;have rep:∀m:Str,(∀c∈m,(c==32)=true)→m=List.replicate m.length 32:=fun m h=>List.eq_replicate_iff.mpr ⟨rfl,fun c hc=>by simpa using h c hc⟩
 obtain⟨m,h1,h2⟩:=Jh (·==32) l.reverse;obtain⟨m2,h3,h4⟩:=Jh (·==32) (l.reverse.dropWhile (·==32)).reverse;refine⟨m2.length,m.length,?_⟩;rw[←rep m2 h4,←h3]
 have e:m.reverse=List.replicate m.length 32:=by
  have:=rep m.reverse (fun c hc=>h2 c (List.mem_reverse.mp hc))
  rwa [List.length_reverse]at this
 rw[←e,←List.reverse_append,←h1,List.reverse_reverse]
theorem BM(l:Str):(trim l).length≤l.length:=by
 obtain⟨i,j,h⟩:=Qh l;have:=congrArg List.length h;simp only[List.length_append]at this;omega
theorem adF(l:Str)(c:UInt8)(hc:c∈l)(h32:c≠32):c∈trim l:=by
 obtain⟨i,j,h⟩:=Qh l;rw[h]at hc;simp only[List.mem_append,List.mem_replicate]at hc;rcases hc with(⟨_,h⟩|h)|⟨_,h⟩
 ·exact absurd h h32
 ·exact h
 ·exact absurd h h32
theorem ZW(l:Str):trim (32:: l)=trim l:=by
 unfold trim Lib.trimB Lib.trimLeftB Lib.trimRightB;rw[List.reverse_cons,List.dropWhile_append];split
 ·rename_i h
  have:l.reverse.dropWhile (·==32)=[]:=by simpa using h
  rw[this];rfl
 ·rw[List.reverse_append];simp
def Qi(s:Str):Option (Str×Str):=match wz 61 s with
 |none=>none
 |some x=>match words x.2 with
  |some [w]=>some (low (trim x.1),w)
  |_=>none
def YJ:List Str→Option (List (Str×Str))
 |[]=>some []
 |s:: r=>match Qi s with
  |none=>none
  |some x=>(YJ r).map (x:: ·)
def pkO(o:Option (Str×Str))(ps:Option (List (Str×Str))):Option (Str×Str×List (Str×Str)):=match o,ps with
 |some x,some ps=>if xP (low x.1) (low x.2) ps=true then some (low x.1,low x.2,ps)else none
 |_,_=>none
def pk(s:Str):Option (Str×Str×List (Str×Str)):=if mZ s=true then pkO (wz 47 (trim ((parts 59 0 s).headD []))) (YJ ((parts 59 0 s).drop 1))else none
theorem anG(c b:UInt8):((c.toNat:Int)=(b.toNat:Int))↔c=b:=by
 constructor
 ·intro e;exact UInt8.toNat_inj.mp (by omega)
 ·intro e;rw[e]
def Zh(L:Nat)(acc:Str):Option (Str×Str)→ByteArray×Int×Bool
 |none=>(bP [],0,false)
 |some q=>(bP (acc++q.1),((L-q.2.length:Nat):Int),true)
theorem Ve(l:Str)(hl:l.length≤1048576):∀(n:Nat) (r p acc:Str),r.length≤n→l=p++r→acc.length≤p.length→Ev (fun k=>jT.l0 k (bP l) (zn acc) (p.length:Int)) (Zh l.length acc (TI r)):=by
 intro n
 induction n with
 |zero=>
  intro r p acc h h2 h3;have:r=[]:=List.length_eq_zero_iff.mp (by omega);subst this;rw[List.append_nil]at h2;subst h2;refine vc ?_;simp only[jT.l0,aZ];exact vn (by omega) (vq (vs _) rfl)
 |succ n ih=>
  intro r p acc h h2 h3
  cases r with
  |nil=>
   rw[List.append_nil]at h2;subst h2;refine vc ?_;simp only[jT.l0,aZ];exact vn (by omega) (vq (vs _) rfl)
  |cons c r=>
   simp only[List.length_cons]at h;have hz:=iC h2;have e1:=kX h2;have w1:wrap64 ((p.length:Int)+1)=((p.length+1:Nat):Int):=(b_ (by omega) (by omega)).trans (by omega);have YG:(c.toNat:Int)=34↔c=34:=yK c 34 (by omega);have h92:(c.toNat:Int)=92↔c=92:=yK c 92 (by omega);refine vc ?_;simp only[jT.l0,e1,w1,aZ,Va];clear e1 w1;rw[JI];refine vp (by omega) (vp (by omega) ?_);by_cases c1:(c.toNat:Int)=34
   ·refine vp c1 (vq (vs _) ?_);rw[if_pos (YG.mp c1),Zh,BL,show l.length-r.length=p.length+1 by omega];simp
   ·refine vn c1 ?_;rw[if_neg (fun hh=>c1 (YG.mpr hh))];by_cases c2:(c.toNat:Int)=92
    ·refine vp c2 ?_;rw[if_pos (h92.mp c2)]
     cases r with
     |nil=>
      simp only[List.length_nil]at hz;exact vp (by omega) (vq (vs _) rfl)
     |cons d r=>
      simp only[List.length_cons]at h hz
      have e2:bt (bP l) ((p.length+1:Nat):Int)=(d.toNat:Int):=by
       have:=kX (l:=l) (p:=p++[c]) (c:=d) (r:=r) (by rw[h2];simp)
       rwa [List.length_append]at this
      have w2:wrap64 (((p.length+1:Nat):Int)+1)=((p.length+2:Nat):Int):=(b_ (by omega) (by omega)).trans (by omega);have:=ih r (p++[c,d]) (acc++[d]) (by omega) (by rw[h2];simp) (by simp;omega);rw[Om,List.length_append]at this;have e3:([(d.toNat:Int)]:List Int)=zn [d]:=rfl;rw[e2,w2,e3];clear e2 w2;refine vn (by omega) (vp (by omega) (vp (by omega) (vp (by omega) (vq this ?_))))
      show _=Zh l.length acc ((TI r).map fun q=>(d:: q.1,q.2))
      cases TI r with
      |none=>rfl
      |some q=>simp[Zh]
    ·refine vn c2 ?_;rw[if_neg (fun hh=>c2 (h92.mpr hh))];have:=ih r (p++[c]) (acc++[c]) (by omega) (by rw[h2];simp) (by simp;omega);rw[Om,List.length_append]at this;have e3:([(c.toNat:Int)]:List Int)=zn [c]:=rfl;rw[e3];refine vp (by omega) (vq this ?_)
     cases TI r with
     |none=>rfl
     |some q=>simp[Zh]
theorem Nq(c:UInt8)(r:Str)(hl:r.length≤1048575):Ev (fun k=>jT.f k (bP (c:: r))) (Zh (r.length+1) [] (TI r)):=Ve (c:: r) (by simp only[List.length_cons];omega) r.length r [c] [] (Nat.le_refl _) rfl (by simp)
def adG(p:Nat):Option (Str×Str)→Int
 |none=>-1
 |some q=>((p+q.1.length:Nat):Int)
theorem Gy{l p r:Str}(h:l=p++r):l.drop p.length=r:=by rw[h,List.drop_left]
theorem TK(l:Str)(b:UInt8)(hb:b≠34)(hl:l.length≤1048576):∀(n:Nat) (r p:Str),r.length≤n→l=p++r→Ev (fun k=>kQ.l0 k (bP l) (b.toNat:Int) (p.length:Int)) (adG p.length (tZ b 0 r)):=by
 intro n
 induction n with
 |zero=>
  intro r p h h2;have:r=[]:=List.length_eq_zero_iff.mp (by omega);subst this;rw[List.append_nil]at h2;subst h2;refine vc ?_;simp only[kQ.l0,aZ];exact vn (by omega) (vq (vs _) rfl)
 |succ n ih=>
  intro r p h h2
  cases r with
  |nil=>
   rw[List.append_nil]at h2;subst h2;refine vc ?_;simp only[kQ.l0,aZ];exact vn (by omega) (vq (vs _) rfl)
  |cons c r=>
   simp only[List.length_cons]at h;have hz:=iC h2;have e1:=kX h2;have w1:wrap64 ((p.length:Int)+1)=((p.length+1:Nat):Int):=(b_ (by omega) (by omega)).trans (by omega);have YG:(c.toNat:Int)=34↔c=34:=yK c 34 (by omega);have hbb:=anG c b
   have ex:(bP l).extract (p.length:Int).toNat l.length=bP (c:: r):=by
    rw[Int.toNat_natCast,lX,Gy h2,List.take_of_length_le (by simp only[List.length_cons];omega)]
   refine vc ?_;simp only[kQ.l0,e1,w1,aZ,ex];clear e1 w1 ex;rw[tZ];refine vp (by omega) (vp (by omega) ?_);by_cases c1:(c.toNat:Int)=34
   ·have hc:=YG.mp c1;refine vp c1 (vp (by omega) (vb (Nq c r (by omega)) ?_));rw[if_neg (by intro hh;exact hb (hh.2.symm.trans hc)),show nq 0 c=1 by rw[hc];rfl]
    cases e:TI r with
    |none=>rw[adE b r.length r (Nat.le_refl _) e];exact vn (by simp[Zh]) (vq (vs _) rfl)
    |some q=>
     obtain⟨w,t⟩:=q;obtain⟨m,h3,h4,h5⟩:=Oo b r.length r w t (Nat.le_refl _) e;have hm:r.length=m.length+t.length:=by rw[h3,List.length_append]
     have:=ih t (p++c:: m) (by omega) (by rw[h2,h3];simp);refine vp rfl ?_;simp only[Zh];have w2:wrap64 (((r.length+1-t.length:Nat):Int)-1)=(m.length:Int):=(b_ (by omega) (by omega)).trans (by omega);rw[w2];clear w2;have w3:wrap64 ((p.length:Int)+(m.length:Int))=((p.length+m.length:Nat):Int):=(b_ (by omega) (by omega)).trans (by omega);rw[w3];clear w3;have w4:wrap64 (((p.length+m.length:Nat):Int)+1)=((p++c:: m).length:Int):=(b_ (by omega) (by omega)).trans (by simp only[List.length_append,List.length_cons];omega);rw[w4,h5];clear w4;refine vq this ?_
     cases tZ b 0 t with
     |none=>rfl
     |some x=>simp only[Option.map_some,adG,List.length_append,List.length_cons];omega
   ·refine vn c1 ?_;have hc:¬c=34:=fun hh=>c1 (YG.mpr hh)
    by_cases c2:c=b
    ·rw[if_pos ⟨rfl,c2⟩];exact vp (hbb.mpr c2) (vq (vs _) (by simp[adG]))
    ·rw[if_neg (fun hh=>c2 hh.2),show nq 0 c=0 by simp[nq,hc]];have:=ih r (p++[c]) (by omega) (by rw[h2];simp);rw[List.length_append]at this;refine vn (fun hh=>c2 (hbb.mp hh)) (vq this ?_)
     cases tZ b 0 r with
     |none=>rfl
     |some x=>simp only[Option.map_some,adG,List.length_append,List.length_cons,List.length_nil];omega
theorem K_(l:Str)(b:UInt8)(hb:b≠34)(hl:l.length≤1048576):Ev (fun k=>kQ.f k (bP l) (b.toNat:Int)) (adG 0 (tZ b 0 l)):=TK l b hb hl l.length l [] (Nat.le_refl _) rfl
theorem KL(b:UInt8)(hb:b≠34):∀(n:Nat) (s:Str) (acc:List Str),s.length≤n→s.length+acc.length≤1048576→Ev (fun k=>dZ.l0 k (bP s) (b.toNat:Int) (acc.map bP)) ((acc++parts b 0 s).map bP):=by
 intro n
 induction n with
 |zero=>
  intro s acc h h2;have:s=[]:=List.length_eq_zero_iff.mp (by omega);subst this;refine vc ?_;simp only[dZ.l0,List.length_map];refine vb (K_ [] b hb (by simp)) (vp (by simp[tZ,adG]) (vp (by simp at h2;omega) (vq (vs _) ?_)));simp[parts]
 |succ n ih=>
  intro s acc h h2;refine vc ?_;simp only[dZ.l0,List.length_map,aZ];refine vb (K_ s b hb (by omega)) ?_;rw[Vd]
  cases e:tZ b 0 s with
  |none=>exact vp (by simp[adG]) (vp (by omega) (vq (vs _) (by simp)))
  |some q=>
   obtain⟨x,t⟩:=q;have hs:=aij b s 0 x t e;have hz:s.length=x.length+(t.length+1):=by rw[hs];simp
   have:=ih t (acc++[x]) (by omega) (by simp;omega);have w1:wrap64 ((x.length:Int)+1)=((x.length+1:Nat):Int):=(b_ (by omega) (by omega)).trans (by omega);simp only[adG,Nat.zero_add,w1,Int.toNat_natCast,lX,List.drop_zero,Nat.sub_zero];have e1:s.take x.length=x:=by rw[hs,List.take_left]
   have e2:(s.drop (x.length+1)).take (s.length-(x.length+1))=t:=by
    rw[List.take_of_length_le (by simp),hs,←List.drop_drop,List.drop_left];rfl
   rw[e1,e2];clear w1;refine vn (by omega) (vp (by omega) (vp (by omega) (vp (by omega) (vp (by omega) (vp (by omega) (vq (r:=((acc++[x]++parts b 0 t).map bP)) ?_ (by simp)))))))
   simpa using this
theorem Nr(s:Str)(hs:s.length≤1048576):Ev (fun k=>dZ.f k (bP s) 59) ((parts 59 0 s).map bP):=by
 have:=KL 59 (by decide) s.length s [] (Nat.le_refl _) (by simpa using hs);unfold dZ.f
 simpa using this
def OG(acc:List Str):Option (List Str)→List ByteArray×Bool
 |none=>([],false)
 |some ws=>((acc++ws).map bP,true)
theorem OH(l:Str)(acc:List Str)(hl:l.length≤1048576)(ha:acc.length≤1048576)(p:Str)(v:List ByteArray×Bool):∀(r a:Str),l=p++(a++r)→a.all yJ=true→
  (a++r.takeWhile yJ=[]→v=([],false))→
  (a++r.takeWhile yJ≠[]→Ev (fun k=>eF.l0 k (bP l) ((acc++[a++r.takeWhile yJ]).map bP) (((p++(a++r.takeWhile yJ)).length:Nat):Int) false) v)→
  Ev (fun k=>eF.l1 k (bP l) (acc.map bP) (p.length:Int) (((p++a).length:Nat):Int)) v:=by
 intro r
 induction r with
 |nil=>
  intro a h h2 h3 h4;have hz:l.length=p.length+a.length:=by rw[h];simp
  have hpa:(p++a).length=p.length+a.length:=by simp
  simp only[List.takeWhile_nil,List.append_nil]at h3 h4;refine vc ?_;simp only[eF.l1,aZ,List.length_map];refine vn (by omega) ?_;by_cases e:a=[]
  ·rw[h3 e];subst e;exact vp (by simp) (vs _)
  ·have hne:0<a.length:=List.length_pos_iff.mpr e
   have ex:(bP l).extract (p.length:Int).toNat (((p++a).length:Nat):Int).toNat=bP a:=by
    rw[Int.toNat_natCast,Int.toNat_natCast,lX,Gy h,hpa,List.append_nil];rw[List.take_of_length_le (by omega)]
   rw[ex];have:=h4 e;rw[List.map_append,List.map_singleton]at this;exact vn (by omega) (vp (by omega) (vp (by omega) (vp (by omega) (vp (by omega) this))))
 |cons c r ih=>
  intro a h h2 h3 h4;have hz:l.length=p.length+(a.length+(r.length+1)):=by rw[h];simp
  have hpa:(p++a).length=p.length+a.length:=by simp
  have e1:bt (bP l) (((p++a).length:Nat):Int)=(c.toNat:Int):=kX (l:=l) (p:=p++a) (c:=c) (r:=r) (by rw[h];simp);have w1:wrap64 ((((p++a).length:Nat):Int)+1)=((p++(a++[c])).length:Int):=(b_ (by omega) (by omega)).trans (by simp only[List.length_append,List.length_cons,List.length_nil];omega);refine vc ?_;simp only[eF.l1,aZ,List.length_map,e1,w1];clear e1 w1;refine vp (by omega) (vp (by omega) (kW (zF c) ?_))
  cases e:yJ c with
  |true=>
   refine vp rfl ?_;have ec:a++(c:: r).takeWhile yJ=a++[c]++r.takeWhile yJ:=by simp[List.takeWhile,e]
   refine ih (a++[c]) (by rw[h];simp) (by simp[h2,e]) (fun hh=>h3 (by rw[ec];exact hh)) (fun hh=>?_);have:=h4 (by rw[ec];exact hh)
   rwa [ec]at this
  |false=>
   have et:(c:: r).takeWhile yJ=[]:=by simp[List.takeWhile,e]
   rw[et,List.append_nil]at h3 h4;refine vn (by simp) ?_;by_cases e:a=[]
   ·rw[h3 e];subst e;exact vp (by simp) (vs _)
   ·have hne:0<a.length:=List.length_pos_iff.mpr e
    have ex:(bP l).extract (p.length:Int).toNat (((p++a).length:Nat):Int).toNat=bP a:=by
     rw[Int.toNat_natCast,Int.toNat_natCast,lX,Gy h,hpa,show p.length+a.length-p.length=a.length by omega,List.take_left]
    rw[ex];have:=h4 e;rw[List.map_append,List.map_singleton]at this;exact vn (by omega) (vp (by omega) (vp (by omega) (vp (by omega) (vp (by omega) this))))
theorem IQ(p:UInt8→Bool)(l:Str):l.takeWhile p++l.dropWhile p=l:=List.takeWhile_append_dropWhile
theorem Ns(l:Str)(hl:l.length≤1048576):∀(n:Nat) (r p:Str) (acc:List Str) (a:Bool),r.length<n→l=p++r→acc.length≤p.length→Ev (fun k=>eF.l0 k (bP l) (acc.map bP) (p.length:Int) a) (OG acc (TJ n a r)):=by
 intro n
 induction n with
 |zero=>intro r p acc a h;omega
 |succ n ih=>
  intro r p acc a h h2 h3;refine vc ?_
  cases r with
  |nil=>
   rw[List.append_nil]at h2;subst h2;simp only[eF.l0,aZ];exact vn (by omega) (vq (vs _) (by simp[TJ,OG]))
  |cons c r=>
   simp only[List.length_cons]at h;have hz:=iC h2;have e1:=kX h2;have w1:wrap64 ((p.length:Int)+1)=(((p++[c]).length:Nat):Int):=(b_ (by omega) (by omega)).trans (by simp);have h32:(c.toNat:Int)=32↔c=32:=yK c 32 (by omega);have YG:(c.toNat:Int)=34↔c=34:=yK c 34 (by omega)
   have ex:(bP l).extract (p.length:Int).toNat l.length=bP (c:: r):=by
    rw[Int.toNat_natCast,lX,Gy h2,List.take_of_length_le (by simp only[List.length_cons];omega)]
   simp only[eF.l0,e1,w1,aZ,ex,List.length_map];clear e1 w1 ex;rw[TJ];refine vp (by omega) (vp (by omega) ?_);by_cases c1:(c.toNat:Int)=32
   ·rw[if_pos (h32.mp c1)];exact vp c1 (ih r (p++[c]) acc true (by omega) (by rw[h2];simp) (by simp;omega))
   ·rw[if_neg (fun hh=>c1 (h32.mpr hh))];refine vn c1 ?_
    cases a with
    |false=>exact vn (by simp) (vq (vs _) rfl)
    |true=>
     refine vp rfl ?_;rw[if_neg (by simp)];by_cases c2:(c.toNat:Int)=34
     ·rw[if_pos (YG.mp c2)];refine vp c2 (vp (by omega) (vb (Nq c r (by omega)) ?_))
      cases e:TI r with
      |none=>exact vn (by simp[Zh]) (vq (vs _) rfl)
      |some q=>
       obtain⟨w,t⟩:=q;obtain⟨m,h4,h5,_⟩:=Oo 0 r.length r w t (Nat.le_refl _) e;have hm:r.length=m.length+t.length:=by rw[h4,List.length_append]
       have:=ih t (p++c:: m) (acc++[w]) false (by omega) (by rw[h2,h4];simp) (by simp;omega);have w2:wrap64 ((p.length:Int)+((r.length+1-t.length:Nat):Int))=((p++c:: m).length:Int):=(b_ (by omega) (by omega)).trans (by simp only[List.length_append,List.length_cons];omega);simp only[Zh,List.nil_append,w2];rw[List.map_append,List.map_singleton]at this;refine vp trivial (vp (by omega) (vq this ?_))
       cases TJ n false t with
       |none=>rfl
       |some ws=>simp[OG]
     ·rw[if_neg (fun hh=>c2 (YG.mpr hh))];refine vn c2 ?_;have hsw:=IQ yJ (c:: r);refine OH l acc hl (by omega) p _ (c:: r) [] h2 rfl (fun hh=>?_) (fun hh=>?_) |>fun hq=>by simpa using hq
      ·rw[List.nil_append]at hh;rw[if_pos hh];rfl
      ·rw[List.nil_append]at hh⊢;rw[if_neg hh];have hne:0<((c:: r).takeWhile yJ).length:=List.length_pos_iff.mpr hh
       have hlen:((c:: r).takeWhile yJ).length+((c:: r).dropWhile yJ).length=r.length+1:=by
        have:=congrArg List.length hsw
        rwa [List.length_append,List.length_cons]at this
       have:=ih ((c:: r).dropWhile yJ) (p++(c:: r).takeWhile yJ) (acc++[(c:: r).takeWhile yJ]) false (by omega) (by rw[List.append_assoc,hsw];exact h2) (by simp only[List.length_append,List.length_cons,List.length_nil];omega);refine vq this ?_
       cases TJ n false ((c:: r).dropWhile yJ)with
       |none=>rfl
       |some ws=>simp[OG]
theorem Gz(l:Str)(hl:l.length≤1048576)(ht:mZ l=true):Ev (fun k=>eF.f k (bP l)) (OG [] (words l)):=by
 unfold eF.f;refine vb (qO l (by omega)) (vp ht ?_);exact Ns l hl (l.length+1) l [] [] true (by omega) rfl (by simp)
def Wv:Option (Str×Str×List (Str×Str))→ByteArray×ByteArray×List gI×Bool
 |none=>(bP [],bP [],[],false)
 |some x=>(bP x.1,bP x.2.1,x.2.2.map vX,true)
theorem La(l:Str)(hl:l.length≤1048576):kC.f (bP l) ⟨#[32]⟩=some (bP (trim l)):=by
 unfold kC.f;rw[if_pos rfl,if_pos (by rw[aZ];omega)];rfl
def LD(s:Str):Option (Str×Str)→ByteArray×ByteArray×Bool
 |none=>(bP s,bP [],false)
 |some x=>(bP x.1,bP x.2,true)
theorem GH(b:UInt8)(l:Str)(hl:l.length≤1048576):strings_Cut.f (bP l) ⟨#[b]⟩=some (LD l (wz b l)):=by
 unfold strings_Cut.f;rw[if_pos (by rw[aZ];omega)];have e:Lib.cut (bP l).data.toList (⟨#[b]⟩:ByteArray).data.toList=Lib.cut l [b]:=rfl;rw[e,aDV]
 cases wz b l with
 |none=>rfl
 |some x=>rfl
theorem TL{b:UInt8}{s x t:Str}(h:wz b s=some (x,t)):s.length=x.length+t.length+1:=by
 rw[ab6 b s x t h];simp;omega
theorem YK{s t:Str}(h:mZ s=true)(hl:t.length≤s.length)(hm:∀c∈t,c∈s):mZ t=true:=by
 unfold mZ at*;simp only[Bool.and_eq_true,List.all_eq_true,decide_eq_true_iff]at*;exact⟨fun c hc=>h.1 c (hm c hc),by omega⟩
theorem ar0:∀(n:Nat) (a:Bool) (s:Str) (ws:List Str),TJ n a s=some ws→∀w∈ws,w.length≤s.length:=by
 intro n
 induction n with
 |zero=>intro a s ws h;cases h
 |succ n ih=>
  intro a s ws h
  cases s with
  |nil=>simp only[TJ,Option.some.injEq]at h;subst h;simp
  |cons c r=>
   rw[TJ]at h;split at h
   ·intro w hw;have:=ih _ _ _ h w hw;simp only[List.length_cons];omega
   ·split at h
    ·cases h
    ·split at h
     ·cases e:TI r with
      |none=>rw[e]at h;cases h
      |some q=>
       obtain⟨w1,t⟩:=q;obtain⟨m,h4,h5,_⟩:=Oo 0 r.length r w1 t (Nat.le_refl _) e;have hm:r.length=m.length+t.length:=by rw[h4,List.length_append]
       rw[e]at h;simp only[Option.map_eq_some_iff]at h;obtain⟨v,e1,rfl⟩:=h;intro w hw;simp only[List.length_cons];rcases List.mem_cons.mp hw with rfl|hw
       ·omega
       ·have:=ih _ _ _ e1 w hw;omega
     ·split at h
      ·cases h
      ·simp only[Option.map_eq_some_iff]at h;obtain⟨v,e1,rfl⟩:=h;have hlen:=congrArg List.length (IQ yJ (c:: r));rw[List.length_append]at hlen;intro w hw;rcases List.mem_cons.mp hw with rfl|hw
       ·omega
       ·have:=ih _ _ _ e1 w hw;omega
theorem ZX{s:Str}{ws:List Str}(h:words s=some ws):∀w∈ws,w.length≤s.length:=ar0 _ _ _ _ h
def fin1(ok:Bool)(m u:Str)(ps:List (Str×Str)):Option (Str×Str×List (Str×Str)):=if ok=true∧xP m u ps=true then some (m,u,ps)else none
def Wx(ok:Bool)(m u:Str)(q:List (Str×Str)):Option (List (Str×Str))→Option (Str×Str×List (Str×Str))
 |none=>none
 |some ps=>fin1 ok m u (q++ps)
theorem ZY(ok:Bool)(m u:Str)(q:List (Str×Str))(x:Str×Str)(o:Option (List (Str×Str))):Wx ok m u q (o.map (x:: ·))=Wx ok m u (q++[x]) o:=by
 cases o with
 |none=>rfl
 |some ps=>simp[Wx]
theorem Qj(ok:Bool)(m u:Str)(ps:List (Str×Str))(hm:m.length≤1048576)(hu:u.length≤1048576)(hz:II ps≤1048576)(hn:ps.length≤1048576):
  Ev (fun k=>if ok=true then((dF.f k (bP m) (bP u) (ps.map vX)).bind fun t=>(if t=true then(some (bP m,bP u,ps.map vX,true))else(some ((⟨#[]⟩:ByteArray),(⟨#[]⟩:ByteArray),([]:List gI),false))))else(some ((⟨#[]⟩:ByteArray),(⟨#[]⟩:ByteArray),([]:List gI),false))) (Wv (fin1 ok m u ps)):=by
 cases ok with
 |false=>exact vn (by simp) (vq (vs _) (by unfold fin1;rw[if_neg (by simp)];rfl))
 |true=>
  refine vp rfl (vb (IK m u ps hm hu hz hn) ?_)
  cases e:xP m u ps with
  |true=>exact vp rfl (vq (vs _) (by unfold fin1;rw[if_pos ⟨rfl,e⟩];rfl))
  |false=>exact vn (by simp) (vq (vs _) (by unfold fin1;rw[if_neg (by simp[e])];rfl))
theorem D6(ok:Bool)(xs:List Str)(m u:Str)(hx:xs.length≤1000)(ht:∀x∈xs,mZ x=true)(hm:m.length≤1048576)(hu:u.length≤1048576):∀(r p:List Str) (q:List (Str×Str)),xs=p++r→q.length≤p.length→II q≤400*q.length→
  Ev (fun k=>dM.l0 k ok (xs.map bP) (xs.length:Int) (p.length:Int) (bP m) (bP u) (q.map vX)) (Wv (Wx ok m u q (YJ r))):=by
 intro r
 induction r with
 |nil=>
  intro p q h hq hz;rw[List.append_nil]at h;subst h;refine vc ?_;simp only[dM.l0];refine vn (by omega) ?_;have:=Qj ok m u q hm hu (by omega) (by omega)
  simpa [YJ,Wx] using this
 |cons c r ih=>
  intro p q h hq hz;have hz2:=iC h;have e1:=nX h;have htc:=ht c (by rw[h];simp);have hcl:=Qe htc;have w1:wrap64 ((p.length:Int)+1)=((p++[c]).length:Int):=(b_ (by omega) (by omega)).trans (by simp);have hcut:=GH 61 c (by omega);refine vc ?_;simp only[dM.l0,e1,hcut,List.length_map,Option.bind_some];clear e1 hcut
  have hbad:∀(x11:ByteArray) (x14:List ByteArray),Ev (fun k=>dM.j1 k ok x11 x14 (xs.map bP) (xs.length:Int) (p.length:Int) true (bP m) (bP u) (q.map vX)) (Wv none):=by
   intro x11 x14;refine vc ?_;simp only[dM.j1];exact vp trivial (vs _)
  refine vp (by omega) (vp (by omega) (vp (by omega) ?_))
  cases e:wz 61 c with
  |none=>
   simp only[LD];refine vb (Gz [] (by simp) (by decide)) (vn (by simp) (vq (hbad _ _) ?_));rw[YJ,Qi,e];rfl
  |some x=>
   obtain⟨n,v⟩:=x;have hlen:=TL e;have hvs:mZ v=true:=YK htc (by omega) (fun d hd=>by rw[ab6 61 c n v e];simp[hd]);simp only[LD];refine vb (Gz v (by omega) hvs) (vp trivial ?_)
   cases e2:words v with
   |none=>
    refine vn (by simp[OG]) (vq (hbad _ _) ?_);rw[YJ,Qi,e];simp only[e2];rfl
   |some ws=>
    simp only[OG,List.nil_append];refine vp trivial ?_;by_cases h1:ws.length=1
    ·obtain⟨w,rfl⟩:=List.length_eq_one_iff.mp h1;have hwl:=ZX e2 w (by simp);have hnl:=BM n;have e3:Qi c=some (low (trim n),w):=by rw[Qi,e];simp only[e2]
     have:=ih (p++[c]) (q++[(low (trim n),w)]) (by rw[h];simp) (by simp;omega) (by rw[KI];simp only[II,List.length_append,List.length_cons,List.length_nil,IJ];omega);have ht:=La n (by omega);have hl:=nK (trim n) (by omega);refine vc ?_;simp only[dM.j1,List.map_cons,List.map_nil,List.length_cons,List.length_nil,ht,hl,w1,Option.bind_some,List.length_map];clear w1 ht hl;refine vn (by simp) (vp (by omega) (vp (by omega) ?_));rw[YJ,e3];simp only;rw[ZY];rw[List.map_append]at this;exact this
    ·have e4:((((ws.map bP).length:Nat):Int) !=1)=true:=by
      rw[List.length_map];simp only[bne_iff_ne,ne_eq];omega
     rw[e4];refine vq (hbad _ _) ?_
     have e3:Qi c=none:=by
      rw[Qi,e];simp only[e2]
      match ws,h1 with
      |[],_=>rfl
      |[w],h1=>exact absurd rfl h1
      |_:: _:: _,_=>rfl
     rw[YJ,e3];rfl
theorem aik(o:Option (Str×Str))(ps:Option (List (Str×Str)))(s:Str):pkO o ps=Wx (LD s o).2.2 (match o with
  |none=>low s
  |some x=>low x.1) (match o with
  |none=>[]
  |some x=>low x.2) [] ps:=by
 cases o with
 |none=>cases ps with
  |none=>rfl
  |some p=>simp[pkO,Wx,fin1,LD]
 |some x=>cases ps with
  |none=>rfl
  |some p=>simp[pkO,Wx,fin1,LD]
theorem TM(s:Str)(hs:s.length≤1048576):Ev (fun k=>dM.f k (bP s)) (Wv (pk s)):=by
 unfold dM.f pk;refine vb (qO s (by omega)) ?_
 cases et:mZ s with
 |false=>exact vn (by simp) (vq (vs _) rfl)
 |true=>
  refine vp rfl (vb (Nr s hs) ?_);rw[if_pos rfl];have hpl:=ZV 59 s 0;have hpm:=ajl 59 s 0;have hsl:=Qe et
  generalize parts 59 0 s=xs at hpl hpm⊢
  cases xs with
  |nil=>simp at hpl
  |cons h0 r=>
   have hh:=hpm h0 (by simp);have htl:=BM h0;have e0:f_ ByteArray.empty (bP h0:: r.map bP) 0=bP h0:=rfl;have et:=La h0 (by omega);have ec:=GH 47 (trim h0) (by omega);have hr:r.length≤1000:=by simp only[List.length_cons]at hpl;omega
   simp only[e0,et,ec,List.length_map,List.length_cons,Option.bind_some,List.drop_one,List.map_cons,List.tail_cons,List.headD_cons];rw[aik _ _ (trim h0)]
   have htv:∀x∈r,mZ x=true:=fun x hx=>by
    have:=hpm x (by simp[hx]);exact YK (by assumption) this.1 this.2
   cases e:wz 47 (trim h0)with
   |none=>
    simp only[LD];have l1:=nK (trim h0) (by omega);have l2:=nK [] (by simp);have:=D6 false r (low (trim h0)) (low []) hr htv (by rw[IJ];omega) (by simp[low]) r [] [] rfl (by simp) (by simp[II]);simp only[l1,l2,Option.bind_some];refine vp (by omega) (vp (by omega) ?_)
    simpa [low] using this
   |some x=>
    obtain⟨a,b⟩:=x;have hlen:=TL e;simp only[LD];have l1:=nK a (by omega);have l2:=nK b (by omega);have:=D6 true r (low a) (low b) hr htv (by rw[IJ];omega) (by rw[IJ];omega) r [] [] rfl (by simp) (by simp[II]);simp only[l1,l2,Option.bind_some];refine vp (by omega) (vp (by omega) ?_)
    simpa using this
theorem ar1(c:UInt8):nmB c=true→c≠34∧c≠59∧c≠47∧c≠61∧c≠32∧okB c=true:=by
 revert c
 exact ab5 (by decide+kernel)
theorem anH{l:Str}(h:Nc l=true):∀c∈l,nmB c=true:=by
 unfold Nc at h;simp only[Bool.and_eq_true,List.all_eq_true]at h;exact h.2
theorem afL{l:Str}(h:isSmall l=true):Nc l=true∧low l=l:=by
 unfold isSmall at h
 simpa using h
def aKA(x:Str)(l:List Str):List Str:=x.foldr hd1 l
def Pass(b:UInt8)(x:Str):Prop:=∀t,parts b 0 (x++t)=aKA x (parts b 0 t)
def seg(p:Str×Str):Str:=32:: (p.1++[61]++qw p.2)
theorem ail:∀(ps q:List (Str×Str)),kfl q ps=true→∀p∈ps,isSmall p.1=true∧mZ p.2=true∧p.2.length≤40:=by
 intro ps
 induction ps with
 |nil=>intro q h p hp;cases hp
 |cons c r ih=>
  intro q h p hp;rw[kfl]at h;simp only[Bool.and_eq_true,decide_eq_true_iff]at h;rcases List.mem_cons.mp hp with rfl|hp
  ·exact⟨h.1.1.1,h.1.1.2.1,h.1.1.2.2⟩
  ·exact ih _ h.2 p hp
theorem TN{a b:Str}{ps:List (Str×Str)}(h:xP a b ps=true):isSmall a=true∧isSmall b=true∧ps.length≤4∧kfl [] ps=true∧(TD a b ps).length≤150:=by
 unfold xP at h;simp only[Bool.and_eq_true,decide_eq_true_iff]at h;obtain⟨⟨⟨⟨h1,h2⟩,h3⟩,h4⟩,h5⟩:=h;exact⟨h1,h2,by omega,h4,h5⟩
theorem anI{s a b:Str}{ps:List (Str×Str)}(h:pk s=some (a,b,ps)):xP a b ps=true:=by
 unfold pk at h;split at h
 ·unfold pkO at h;split at h
  ·split at h
   ·rename_i hk
    cases h;exact hk
   ·cases h
  ·cases h
 ·cases h
def Zi(L:Nat)(acc:Str):Option (Str×Str)→ByteArray×Int
 |none=>(bP [],-1)
 |some q=>(bP (acc++q.1),((L-q.2.length:Nat):Int))
theorem Z4{l p r:Str}{c:UInt8}(h:l=p++c:: r):(l.drop p.length).take (p.length+1-p.length)=[c]:=by
 rw[Gy h,show p.length+1-p.length=1 by omega];rfl
theorem Vf(l:Str)(hl:l.length≤1048576):∀(n:Nat) (r p acc:Str),r.length≤n→l=p++r→acc.length≤p.length→Ev (fun k=>iD.l0 k (bP l) (bP acc) (p.length:Int)) (Zi l.length acc (TI r)):=by
 intro n
 induction n with
 |zero=>
  intro r p acc h h2 h3;have:r=[]:=List.length_eq_zero_iff.mp (by omega);subst this;rw[List.append_nil]at h2;subst h2;refine vc ?_;simp only[iD.l0,aZ];exact vn (by omega) (vq (vs _) rfl)
 |succ n ih=>
  intro r p acc h h2 h3
  cases r with
  |nil=>
   rw[List.append_nil]at h2;subst h2;refine vc ?_;simp only[iD.l0,aZ];exact vn (by omega) (vq (vs _) rfl)
  |cons c r=>
   simp only[List.length_cons]at h;have hz:=iC h2;have e1:=kX h2;have w1:wrap64 ((p.length:Int)+1)=((p.length+1:Nat):Int):=(b_ (by omega) (by omega)).trans (by omega);have YG:(c.toNat:Int)=34↔c=34:=yK c 34 (by omega);have h92:(c.toNat:Int)=92↔c=92:=yK c 92 (by omega);have e4:=Z4 h2;refine vc ?_;simp only[iD.l0,e1,w1,aZ,Int.toNat_natCast,lX,e4,oZ];clear e1 w1 e4;rw[JI];refine vp (by omega) (vp (by omega) ?_);by_cases c1:(c.toNat:Int)=34
   ·refine vp c1 (vq (vs _) ?_);rw[if_pos (YG.mp c1),Zi,show l.length-r.length=p.length+1 by omega];simp
   ·refine vn c1 ?_;rw[if_neg (fun hh=>c1 (YG.mpr hh))];by_cases c2:(c.toNat:Int)=92
    ·refine vp c2 ?_;rw[if_pos (h92.mp c2)]
     cases r with
     |nil=>
      simp only[List.length_nil]at hz;exact vp (by omega) (vq (vs _) rfl)
     |cons d r=>
      simp only[List.length_cons]at h hz;have w2:wrap64 (((p.length+1:Nat):Int)+1)=((p.length+2:Nat):Int):=(b_ (by omega) (by omega)).trans (by omega);have hd:l=(p++[c])++d:: r:=by rw[h2];simp
      have e5:(l.drop (p.length+1)).take (p.length+2-(p.length+1))=[d]:=by
       have:=Z4 hd
       rwa [List.length_append]at this
      have:=ih r (p++[c,d]) (acc++[d]) (by omega) (by rw[h2];simp) (by simp;omega);rw[List.length_append]at this;rw[w2,Int.toNat_natCast,e5];clear w2 e5;refine vn (by omega) (vp (by omega) (vp (by omega) (vp (by omega) (vp (by simp only[List.length_cons,List.length_nil];omega) (vq this ?_)))))
      show _=Zi l.length acc ((TI r).map fun q=>(d:: q.1,q.2))
      cases TI r with
      |none=>rfl
      |some q=>simp[Zi]
    ·refine vn c2 ?_;rw[if_neg (fun hh=>c2 (h92.mpr hh))];have:=ih r (p++[c]) (acc++[c]) (by omega) (by rw[h2];simp) (by simp;omega);rw[List.length_append]at this;refine vp (by omega) (vp (by omega) (vp (by simp only[List.length_cons,List.length_nil];omega) (vq this ?_)))
     cases TI r with
     |none=>rfl
     |some q=>simp[Zi]
theorem Nu{l p r:Str}{c:UInt8}(h:l=p++c:: r)(hl:l.length≤1048576):Ev (fun k=>iD.f k (bP l) (p.length:Int)) (Zi l.length [] (TI r)):=by
 have hz:=iC h;have:=Vf l hl r.length r (p++[c]) [] (Nat.le_refl _) (by rw[h];simp) (by simp);have w1:wrap64 ((p.length:Int)+1)=((p++[c]).length:Int):=(b_ (by omega) (by omega)).trans (by simp);unfold iD.f;rw[w1];exact this
def ain(s p:Str):Option (Str×Str)→ByteArray×ByteArray×Bool
 |none=>(bP s,bP [],false)
 |some x=>(bP (p++x.1),bP x.2,true)
theorem Wy(l:Str)(b:UInt8)(hb:b≠34)(hl:l.length≤1048576):∀(n:Nat) (r p:Str),r.length≤n→l=p++r→Ev (fun k=>jC.l0 k (bP l) (b.toNat:Int) (p.length:Int)) (ain l p (tZ b 0 r)):=by
 intro n
 induction n with
 |zero=>
  intro r p h h2;have:r=[]:=List.length_eq_zero_iff.mp (by omega);subst this;rw[List.append_nil]at h2;subst h2;refine vc ?_;simp only[jC.l0,aZ];exact vn (by omega) (vq (vs _) rfl)
 |succ n ih=>
  intro r p h h2
  cases r with
  |nil=>
   rw[List.append_nil]at h2;subst h2;refine vc ?_;simp only[jC.l0,aZ];exact vn (by omega) (vq (vs _) rfl)
  |cons c r=>
   simp only[List.length_cons]at h;have hz:=iC h2;have e1:=kX h2;have w1:wrap64 ((p.length:Int)+1)=((p.length+1:Nat):Int):=(b_ (by omega) (by omega)).trans (by omega);have YG:(c.toNat:Int)=34↔c=34:=yK c 34 (by omega);have hbb:=anG c b;have x1:(l.drop 0).take (p.length-0)=p:=by rw[List.drop_zero,Nat.sub_zero,h2,List.take_left]
   have x2:(l.drop (p.length+1)).take (l.length-(p.length+1))=r:=by
    rw[List.take_of_length_le (by simp),h2,←List.drop_drop,List.drop_left];rfl
   refine vc ?_;simp only[jC.l0,e1,w1,aZ,Int.toNat_natCast,lX,x1,x2];clear e1 w1 x1 x2;rw[tZ];refine vp (by omega) (vp (by omega) ?_);by_cases c1:(c.toNat:Int)=34
   ·have hc:=YG.mp c1;refine vp c1 (vb (Nu h2 hl) ?_);rw[if_neg (show¬((0:Nat)=0∧c=b)from fun hh=>hb (hh.2.symm.trans hc)),show nq 0 c=1 by rw[hc];rfl]
    cases e:TI r with
    |none=>rw[adE b r.length r (Nat.le_refl _) e];exact vp (by simp[Zi]) (vq (vs _) rfl)
    |some q=>
     obtain⟨w,t⟩:=q;obtain⟨m,h3,h4,h5⟩:=Oo b r.length r w t (Nat.le_refl _) e;have hm:r.length=m.length+t.length:=by rw[h3,List.length_append]
     have:=ih t (p++c:: m) (by omega) (by rw[h2,h3];simp);have ei:l.length-t.length=(p++c:: m).length:=by simp only[List.length_append,List.length_cons];omega
     simp only[Zi,ei];refine vn (by omega) ?_;rw[h5];refine vq this ?_
     cases tZ b 0 t with
     |none=>rfl
     |some x=>simp[ain]
   ·refine vn c1 ?_;have hc:¬c=34:=fun hh=>c1 (YG.mpr hh)
    by_cases c2:c=b
    ·rw[if_pos (show(0:Nat)=0∧c=b from⟨rfl,c2⟩)];exact vp (hbb.mpr c2) (vp (by omega) (vp (by omega) (vp (by omega) (vq (vs _) (by simp[ain])))))
    ·rw[if_neg (show¬((0:Nat)=0∧c=b)from fun hh=>c2 hh.2),show nq 0 c=0 by simp[nq,hc]];have:=ih r (p++[c]) (by omega) (by rw[h2];simp);rw[List.length_append]at this;refine vn (fun hh=>c2 (hbb.mp hh)) (vq this ?_)
     cases tZ b 0 r with
     |none=>rfl
     |some x=>simp[ain]
theorem CZ(l:Str)(b:UInt8)(hb:b≠34)(hl:l.length≤1048576):Ev (fun k=>jC.f k (bP l) (b.toNat:Int)) (LD l (tZ b 0 l)):=by
 refine vq (Wy l b hb hl l.length l [] (Nat.le_refl _) rfl) ?_;cases tZ b 0 l<;>rfl
def Z5(l:Str):Str:=(l.reverse.dropWhile (·==32)).reverse
theorem afM(l:Str)(c:UInt8):Z5 (l++[c])=if c=32 then Z5 l else l++[c]:=by
 unfold Z5;rw[List.reverse_append,List.reverse_singleton,List.singleton_append,List.dropWhile];by_cases h:c=32
 ·simp[h]
 ·rw[show(c==32)=false by simp[h]];simp[h]
theorem IU:∀(n:Nat) (s:Str),s.length≤n→s.length≤1048576→Ev (fun k=>dG.l1 k (bP s)) (bP (Z5 s)):=by
 intro n
 induction n with
 |zero=>
  intro s h _;have:s=[]:=List.length_eq_zero_iff.mp (by omega);subst this;refine vc ?_;simp only[dG.l1,aZ];exact vn (by simp) (vq (vs _) rfl)
 |succ n ih=>
  intro s h hl;rcases List.eq_nil_or_concat s with rfl|⟨p,c,rfl⟩
  ·refine vc ?_;simp only[dG.l1,aZ];exact vn (by simp) (vq (vs _) rfl)
  ·rw[List.concat_eq_append]at*;simp only[List.length_append,List.length_cons,List.length_nil]at h hl;have hz:(p++[c]).length=p.length+1:=by simp
   have e1:=kX (l:=p++[c]) (p:=p) (c:=c) (r:=[]) rfl;have w1:wrap64 (((p++[c]).length:Int)-1)=((p.length:Nat):Int):=(b_ (by omega) (by omega)).trans (by omega);have h32:(c.toNat:Int)=32↔c=32:=yK c 32 (by omega);have x1:((p++[c]).drop 0).take (p.length-0)=p:=by rw[List.drop_zero,Nat.sub_zero,List.take_left]
   refine vc ?_;simp only[dG.l1,aZ,w1,e1,Int.toNat_natCast,lX,x1];clear e1 w1 x1;rw[afM];refine vp (by omega) (vp (by omega) (vp (by omega) ?_));by_cases c1:(c.toNat:Int)=32
   ·rw[if_pos (h32.mp c1)];exact vp c1 (vp (by omega) (ih p (by omega) (by omega)))
   ·rw[if_neg (fun hh=>c1 (h32.mpr hh))];exact vn c1 (vs _)
theorem ab7(c:UInt8)(r:Str)(h:c≠32):trim (c:: r)=Z5 (c:: r):=by
 unfold trim Lib.trimB Lib.trimLeftB Lib.trimRightB Z5;obtain⟨m,h1,h2⟩:=Jh (·==32) (c:: r).reverse;have h3:=congrArg List.reverse h1;rw[List.reverse_reverse,List.reverse_append]at h3
 cases e:((c:: r).reverse.dropWhile (·==32)).reverse with
 |nil=>
  rw[e,List.nil_append]at h3
  have:c∈m:=by
   have:c∈m.reverse:=by rw[←h3];simp
   exact List.mem_reverse.mp this
  exact absurd (by simpa using h2 c this) h
 |cons d u=>
  rw[e]at h3;injection h3 with h4 h5;subst h4;rw[List.dropWhile,show(c==32)=false by simp[h]]
theorem sF(s:Str)(hl:s.length≤1048576):Ev (fun k=>dG.f k (bP s)) (bP (trim s)):=by
 unfold dG.f
 induction s with
 |nil=>
  refine vc ?_;simp only[dG.l0,aZ];refine vn (by simp) (vc ?_);simp only[dG.j1];exact IU 0 [] (by simp) (by simp)
 |cons c r ih=>
  simp only[List.length_cons]at hl;have hz:(c:: r).length=r.length+1:=rfl;have h32:(c.toNat:Int)=32↔c=32:=yK c 32 (by omega);have x1:((c:: r).drop 1).take ((c:: r).length-1)=r:=by rw[List.drop_one,List.tail_cons,hz,List.take_of_length_le (by omega)]
  refine vc ?_;simp only[dG.l0,aZ,aic,lX,x1];clear x1;refine vp (by omega) (vp (by omega) ?_);by_cases c1:(c.toNat:Int)=32
  ·rw[h32.mp c1,ZW];exact vp (by decide) (vp (by simp;omega) (ih (by omega)))
  ·rw[ab7 c r (fun hh=>c1 (h32.mpr hh))];refine vn c1 (vc ?_);simp only[dG.j1];exact IU (r.length+1) (c:: r) (by simp) (by simp;omega)
theorem Vg(n:Nat)(s:Str)(h:s.length<n):TJ n false s=if s=[]∨s.head? =some 32 then TJ n true s else none:=by
 obtain⟨n,rfl⟩:∃m,n=m+1:=⟨n-1,by omega⟩
 cases s with
 |nil=>rw[if_pos (Or.inl rfl)];rfl
 |cons c r=>
  by_cases c1:c=32
  ·rw[if_pos (Or.inr (by rw[c1];rfl)),TJ,TJ,if_pos c1,if_pos c1]
  ·rw[if_neg (by simp[c1]),TJ,if_neg c1,if_pos rfl]
theorem Vh(l:Str)(acc:List Str)(hl:l.length≤1048576)(ha:acc.length≤1048576)(p:Str)(v:List ByteArray×Bool):∀(r a:Str),l=p++(a++r)→a.all yJ=true→
  (a++r.takeWhile yJ=[]→v=([],false))→
  (a++r.takeWhile yJ≠[]→¬(r.dropWhile yJ=[]∨(r.dropWhile yJ).head? =some 32)→v=([],false))→
  (a++r.takeWhile yJ≠[]→(r.dropWhile yJ=[]∨(r.dropWhile yJ).head? =some 32)→Ev (fun k=>gq.l0 k (bP l) ((acc++[a++r.takeWhile yJ]).map bP) (((p++(a++r.takeWhile yJ)).length:Nat):Int)) v)→
  Ev (fun k=>gq.l1 k (bP l) (acc.map bP) (((p++a).length:Nat):Int) (p.length:Int)) v:=by
 intro r
 induction r with
 |nil=>
  intro a h h2 h3 h4 h5;have hz:l.length=p.length+a.length:=by rw[h];simp
  have hpa:(p++a).length=p.length+a.length:=by simp
  simp only[List.takeWhile_nil,List.append_nil,List.dropWhile_nil]at h3 h4 h5;refine vc ?_;simp only[gq.l1,aZ,List.length_map];refine vn (by omega) (vp (by omega) (vp (by omega) (vp (by omega) ?_)));by_cases e:a=[]
  ·rw[h3 e];subst e;exact vp (by simp) (vs _)
  ·have hne:0<a.length:=List.length_pos_iff.mpr e
   have ex:(bP l).extract (p.length:Int).toNat (((p++a).length:Nat):Int).toNat=bP a:=by
    rw[Int.toNat_natCast,Int.toNat_natCast,lX,Gy h,hpa,List.append_nil];rw[List.take_of_length_le (by omega)]
   rw[ex];have:=h5 e (by simp);rw[List.map_append,List.map_singleton]at this;exact vn (by omega) (vp (by omega) this)
 |cons c r ih=>
  intro a h h2 h3 h4 h5;have hz:l.length=p.length+(a.length+(r.length+1)):=by rw[h];simp
  have hpa:(p++a).length=p.length+a.length:=by simp
  have e1:bt (bP l) (((p++a).length:Nat):Int)=(c.toNat:Int):=kX (l:=l) (p:=p++a) (c:=c) (r:=r) (by rw[h];simp);have w1:wrap64 ((((p++a).length:Nat):Int)+1)=((p++(a++[c])).length:Int):=(b_ (by omega) (by omega)).trans (by simp only[List.length_append,List.length_cons,List.length_nil];omega);have h32:(c.toNat:Int)=32↔c=32:=yK c 32 (by omega);refine vc ?_;simp only[gq.l1,aZ,List.length_map,e1,w1];clear e1 w1;refine vp (by omega) (vp (by omega) (vb (Gu c) ?_))
  cases e:yJ c with
  |true=>
   refine vp rfl ?_;have ec:a++(c:: r).takeWhile yJ=a++[c]++r.takeWhile yJ:=by simp[List.takeWhile,e]
   have ed:(c:: r).dropWhile yJ=r.dropWhile yJ:=by simp[List.dropWhile,e]
   rw[ec]at h3;rw[ec,ed]at h4;rw[ec,ed]at h5;exact ih (a++[c]) (by rw[h];simp) (by simp[h2,e]) h3 h4 h5
  |false=>
   have et:(c:: r).takeWhile yJ=[]:=by simp[List.takeWhile,e]
   have ed:(c:: r).dropWhile yJ=c:: r:=by simp[List.dropWhile,e]
   rw[et,List.append_nil]at h3;rw[et,ed,List.append_nil]at h4;rw[et,ed,List.append_nil]at h5;refine vn (by simp) (vp (by omega) (vp (by omega) (vp (by omega) ?_)));by_cases e:a=[]
   ·rw[h3 e];subst e;exact vp (by simp) (vs _)
   ·have hne:0<a.length:=List.length_pos_iff.mpr e
    have ex:(bP l).extract (p.length:Int).toNat (((p++a).length:Nat):Int).toNat=bP a:=by
     rw[Int.toNat_natCast,Int.toNat_natCast,lX,Gy h,hpa,show p.length+a.length-p.length=a.length by omega,List.take_left]
    rw[ex];refine vn (by omega) ?_;by_cases c1:(c.toNat:Int)=32
    ·have:=h5 e (Or.inr (by rw[h32.mp c1];rfl));rw[List.map_append,List.map_singleton]at this;exact vp c1 (vp (by omega) this)
    ·rw[h4 e (by simp only[List.head?_cons,Option.some.injEq,reduceCtorEq,false_or];exact fun hh=>c1 (h32.mpr hh))];exact vn c1 (vs _)
theorem TP(l:Str)(hl:l.length≤1048576):∀(n:Nat) (r p:Str) (acc:List Str),r.length<n→l=p++r→acc.length≤p.length→Ev (fun k=>gq.l0 k (bP l) (acc.map bP) (p.length:Int)) (OG acc (TJ n true r)):=by
 intro n
 induction n with
 |zero=>intro r p acc h;omega
 |succ n ih=>
  intro r p acc h h2 h3;refine vc ?_
  cases r with
  |nil=>
   rw[List.append_nil]at h2;subst h2;simp only[gq.l0,aZ];exact vn (by omega) (vq (vs _) (by simp[TJ,OG]))
  |cons c r=>
   simp only[List.length_cons]at h;have hz:=iC h2;have e1:=kX h2;have w1:wrap64 ((p.length:Int)+1)=(((p++[c]).length:Nat):Int):=(b_ (by omega) (by omega)).trans (by simp);have h32:(c.toNat:Int)=32↔c=32:=yK c 32 (by omega);have YG:(c.toNat:Int)=34↔c=34:=yK c 34 (by omega);simp only[gq.l0,e1,w1,aZ,List.length_map];clear e1 w1;rw[TJ];refine vp (by omega) (vp (by omega) ?_);by_cases c1:(c.toNat:Int)=32
   ·rw[if_pos (h32.mp c1)];exact vp c1 (ih r (p++[c]) acc (by omega) (by rw[h2];simp) (by simp;omega))
   ·rw[if_neg (fun hh=>c1 (h32.mpr hh)),if_neg (by simp)];refine vn c1 ?_;by_cases c2:(c.toNat:Int)=34
    ·rw[if_pos (YG.mp c2)];refine vp c2 (vb (Nu h2 hl) ?_)
     cases e:TI r with
     |none=>exact vp (by simp[Zi]) (vq (vs _) rfl)
     |some q=>
      obtain⟨w,t⟩:=q;obtain⟨m,h4,h5,_⟩:=Oo 0 r.length r w t (Nat.le_refl _) e;have hm:r.length=m.length+t.length:=by rw[h4,List.length_append]
      have hpm:(p++c:: m).length=p.length+m.length+1:=by simp only[List.length_append,List.length_cons];omega
      have ei:l.length-t.length=(p++c:: m).length:=by omega
      have:=ih t (p++c:: m) (acc++[w]) (by omega) (by rw[h2,h4];simp) (by simp;omega);rw[List.map_append,List.map_singleton]at this;simp only[Zi,ei,List.nil_append];rw[Vg n t (by omega)];refine vn (by omega) (vn (by omega) ?_)
      cases t with
      |nil=>
       rw[if_pos (Or.inl rfl)];simp only[List.length_nil]at hm ei;refine vn (by omega) (vp (by omega) (vq this ?_))
       cases TJ n true []with
       |none=>rfl
       |some ws=>simp[OG]
      |cons d t=>
       have e2:bt (bP l) ((p++c:: m).length:Int)=(d.toNat:Int):=kX (l:=l) (p:=p++c:: m) (c:=d) (r:=t) (by rw[h2,h4];simp);have h32:(d.toNat:Int)=32↔d=32:=yK d 32 (by omega);simp only[List.length_cons]at hm;rw[e2];clear e2;refine vp (by omega) (vp (by omega) ?_);by_cases c3:(d.toNat:Int)=32
       ·rw[if_pos (Or.inr (by rw[h32.mp c3];rfl))];refine vp c3 (vp (by omega) (vq this ?_))
        cases TJ n true (d:: t)with
        |none=>rfl
        |some ws=>simp[OG]
       ·rw[if_neg (by simp only[List.head?_cons,Option.some.injEq,reduceCtorEq,false_or];exact fun hh=>c3 (h32.mpr hh))];exact vn c3 (vq (vs _) rfl)
    ·rw[if_neg (fun hh=>c2 (YG.mpr hh))];refine vn c2 ?_;have hsw:=IQ yJ (c:: r);have hlen:=congrArg List.length hsw;rw[List.length_append,List.length_cons]at hlen;have key:=Vh l acc hl (by omega) p (OG acc (if(c:: r).takeWhile yJ=[]then none else(TJ n false ((c:: r).dropWhile yJ)).map ((c:: r).takeWhile yJ:: ·))) (c:: r) [] h2 rfl (fun hh=>by rw[List.nil_append]at hh;rw[if_pos hh];rfl);refine(key (fun hh hn=>?_) (fun hh hn=>?_)) |>fun hq=>by simpa using hq
     ·rw[List.nil_append]at hh;have hne:0<((c:: r).takeWhile yJ).length:=List.length_pos_iff.mpr hh;rw[if_neg hh,Vg _ _ (by omega),if_neg hn];rfl
     ·rw[List.nil_append]at hh⊢;have hne:0<((c:: r).takeWhile yJ).length:=List.length_pos_iff.mpr hh;rw[if_neg hh,Vg _ _ (by omega),if_pos hn];have:=ih ((c:: r).dropWhile yJ) (p++(c:: r).takeWhile yJ) (acc++[(c:: r).takeWhile yJ]) (by omega) (by rw[List.append_assoc,hsw];exact h2) (by simp only[List.length_append,List.length_cons,List.length_nil];omega);refine vq this ?_
      cases TJ n true ((c:: r).dropWhile yJ)with
      |none=>rfl
      |some ws=>simp[OG]
theorem Lc(l:Str)(hl:l.length≤1048576):Ev (fun k=>gq.f k (bP l)) (OG [] (words l)):=by
 unfold gq.f;exact TP l hl (l.length+1) l [] [] (by omega) rfl (by simp)
theorem ayb(s:Str):∀n:Nat,s.length≤n→TI (s++[32])=(TI s).map fun q=>(q.1,q.2++[32]):=by
 intro n
 induction n generalizing s with
 |zero=>
  intro h;have:s=[]:=List.length_eq_zero_iff.mp (by omega);subst this;rfl
 |succ n ih=>
  intro h
  cases s with
  |nil=>rfl
  |cons c r=>
   simp only[List.length_cons]at h;rw[List.cons_append,JI,JI];by_cases c1:c=34
   ·rw[if_pos c1,if_pos c1];rfl
   ·rw[if_neg c1,if_neg c1];by_cases c2:c=92
    ·rw[if_pos c2,if_pos c2]
     cases r with
     |nil=>rfl
     |cons d r=>
      simp only[List.length_cons]at h;simp only[List.cons_append];rw[ih r (by omega)];cases TI r<;>rfl
    ·rw[if_neg c2,if_neg c2,ih r (by omega)];cases TI r<;>rfl
theorem anJ(l:Str):(l++[32]).takeWhile yJ=l.takeWhile yJ∧(l++[32]).dropWhile yJ=l.dropWhile yJ++[32]:=by
 induction l with
 |nil=>exact⟨rfl,rfl⟩
 |cons c r ih=>
  rw[List.cons_append]
  cases e:yJ c with
  |true=>simp only[List.takeWhile,List.dropWhile,e];exact⟨congrArg _ ih.1,ih.2⟩
  |false=>simp[List.takeWhile,List.dropWhile,e]
theorem ayc:∀(n:Nat) (a:Bool) (s:Str),s.length<n→TJ (n+1) a (s++[32])=TJ n a s:=by
 intro n
 induction n with
 |zero=>intro a s h;omega
 |succ n ih=>
  intro a s h
  cases s with
  |nil=>rfl
  |cons c r=>
   simp only[List.length_cons]at h;rw[List.cons_append,TJ,TJ,ih true r (by omega)];by_cases c1:c=32
   ·rw[if_pos c1,if_pos c1]
   ·rw[if_neg c1,if_neg c1];by_cases c2:a=false
    ·rw[if_pos c2,if_pos c2]
    ·rw[if_neg c2,if_neg c2];by_cases c3:c=34
     ·rw[if_pos c3,if_pos c3,ayb r r.length (Nat.le_refl _)]
      cases e:TI r with
      |none=>rfl
      |some q=>
       obtain⟨w,t⟩:=q;obtain⟨m,h4,h5,_⟩:=Oo 0 r.length r w t (Nat.le_refl _) e;have hm:r.length=m.length+t.length:=by rw[h4,List.length_append]
       simp only[Option.map_some];rw[ih false t (by omega)]
     ·rw[if_neg c3,if_neg c3];have hw:=anJ (c:: r);rw[List.cons_append]at hw;rw[hw.1,hw.2];by_cases c4:(c:: r).takeWhile yJ=[]
      ·rw[if_pos c4,if_pos c4]
      ·have hne:0<((c:: r).takeWhile yJ).length:=List.length_pos_iff.mpr c4;have hlen:=congrArg List.length (IQ yJ (c:: r));rw[List.length_append,List.length_cons]at hlen;rw[if_neg c4,if_neg c4,ih false _ (by omega)]
theorem YL(s:Str):words (s++[32])=words s:=by
 unfold words;rw[List.length_append];exact ayc (s.length+1) true s (by omega)
theorem Zj(s:Str):words (32:: s)=words s:=by
 unfold words;rw[TJ,if_pos rfl];rfl
theorem adH{α:Type}(f:Str→α)(h1:∀s,f (32:: s)=f s)(h2:∀s,f (s++[32])=f s)(s:Str):f (trim s)=f s:=by
 have r1:∀(i:Nat) (t:Str),f (List.replicate i 32++t)=f t:=by
  intro i
  induction i with
  |zero=>intro t;rfl
  |succ i ih=>intro t;rw[List.replicate_succ,List.cons_append,h1,ih]
 have r2:∀(j:Nat) (t:Str),f (t++List.replicate j 32)=f t:=by
  intro j
  induction j with
  |zero=>intro t;rw[List.replicate_zero,List.append_nil]
  |succ j ih=>intro t;rw[List.replicate_succ',←List.append_assoc,h2,ih]
 obtain⟨i,j,e⟩:=Qh s;have:f s=f (List.replicate i 32++trim s++List.replicate j 32):=congrArg f e;rw[this,r2,r1]
theorem afN(s:Str):words (trim s)=words s:=adH words Zj YL s
theorem ajm(b:UInt8)(hb:b≠32)(s:Str):wz b (s++[32])=(wz b s).map fun x=>(x.1,x.2++[32]):=by
 induction s with
 |nil=>
  have h:¬(32:UInt8)=b:=fun h=>hb h.symm
  simp[wz,h]
 |cons c r ih=>
  rw[List.cons_append,wz,wz];by_cases h:c=b
  ·rw[if_pos h,if_pos h];rfl
  ·rw[if_neg h,if_neg h,ih];cases wz b r<;>rfl
theorem ajn(s:Str):Qi (trim s)=Qi s:=by
 refine adH Qi (fun s=>?_) (fun s=>?_) s
 ·unfold Qi;rw[wz,if_neg (by decide)]
  cases wz 61 s with
  |none=>rfl
  |some x=>simp only[Option.map_some,ZW]
 ·unfold Qi;rw[ajm 61 (by decide)]
  cases wz 61 s with
  |none=>rfl
  |some x=>simp only[Option.map_some,YL]
theorem anK(b:UInt8)(s:Str):tZ b 0 s=wz b s∨((∀x,tZ b 0 s=some x→34∈x.1)∧(∀x,wz b s=some x→34∈x.1)):=by
 induction s with
 |nil=>exact Or.inl rfl
 |cons c r ih=>
  rw[tZ,wz];by_cases h:c=b
  ·rw[if_pos ⟨rfl,h⟩,if_pos h];exact Or.inl rfl
  ·rw[if_neg (fun hh=>h hh.2),if_neg h];by_cases c1:c=34
   ·right
    rw[c1];refine⟨fun x hx=>?_,fun x hx=>?_⟩<;>
    ·simp only[Option.map_eq_some_iff]at hx;obtain⟨y,_,rfl⟩:=hx;simp
   ·rw[show nq 0 c=0 by simp[nq,c1]];rcases ih with h2|⟨h2,h3⟩
    ·left;rw[h2]
    ·right
     refine⟨fun x hx=>?_,fun x hx=>?_⟩
     ·simp only[Option.map_eq_some_iff]at hx;obtain⟨y,hy,rfl⟩:=hx;simp[h2 y hy]
     ·simp only[Option.map_eq_some_iff]at hx;obtain⟨y,hy,rfl⟩:=hx;simp[h3 y hy]
def Zk(s:Str):Option (Str×Str):=match tZ 61 0 (trim s)with
 |none=>none
 |some x=>match words x.2 with
  |some [w]=>some (low (trim x.1),w)
  |_=>none
def Bad(o:Option (Str×Str)):Prop:=∀x,o=some x→34∈x.1
theorem ab8{l:Str}(h:(34:UInt8)∈l):(34:UInt8)∈low l:=List.mem_map.mpr ⟨34,h,by decide⟩
theorem ayd(s:Str):Zk s=Qi s∨(Bad (Zk s)∧Bad (Qi s)):=by
 rw[←ajn s];unfold Zk Qi;rcases anK 61 (trim s)with h|⟨h1,h2⟩
 ·left;rw[h]
 ·right
  refine⟨fun x hx=>?_,fun x hx=>?_⟩
  ·cases e:tZ 61 0 (trim s)with
   |none=>rw[e]at hx;cases hx
   |some y=>
    have h3:=h1 y e;rw[e]at hx;simp only at hx;split at hx
    ·cases hx;exact ab8 (adF _ _ h3 (by decide))
    ·cases hx
  ·cases e:wz 61 (trim s)with
   |none=>rw[e]at hx;cases hx
   |some y=>
    have h3:=h2 y e;rw[e]at hx;simp only at hx;split at hx
    ·cases hx;exact ab8 (adF _ _ h3 (by decide))
    ·cases hx
def IV:List Str→Option (List (Str×Str))
 |[]=>some []
 |s:: r=>match Zk s with
  |none=>none
  |some x=>(IV r).map (x:: ·)
def ajo(o:Option (List (Str×Str))):Prop:=∀l,o=some l→∃x∈l,(34:UInt8)∈x.1
theorem ar2(r:List Str):IV r=YJ r∨(ajo (IV r)∧ajo (YJ r)):=by
 induction r with
 |nil=>exact Or.inl rfl
 |cons s r ih=>
  rw[IV,YJ]
  have aio:∀(o:Option (Str×Str)) (p:Option (List (Str×Str))),Bad o→ajo (match o with
    |none=>none
    |some x=>p.map (x:: ·)):=by
   intro o p h l hl
   cases o with
   |none=>cases hl
   |some x=>
    simp only[Option.map_eq_some_iff]at hl;obtain⟨y,_,rfl⟩:=hl;exact⟨x,by simp,h x rfl⟩
  have aip:∀(o:Option (Str×Str)) (p:Option (List (Str×Str))),ajo p→ajo (match o with
    |none=>none
    |some x=>p.map (x:: ·)):=by
   intro o p h l hl
   cases o with
   |none=>cases hl
   |some x=>
    simp only[Option.map_eq_some_iff]at hl;obtain⟨y,hy,rfl⟩:=hl;obtain⟨z,hz,h3⟩:=h y hy;exact⟨z,by simp[hz],h3⟩
  rcases ayd s with h|⟨h1,h2⟩
  ·rcases ih with h2|⟨h2,h3⟩
   ·left;rw[h,h2]
   ·right;exact⟨aip _ _ h2,aip _ _ h3⟩
  ·right;exact⟨aio _ _ h1,aio _ _ h2⟩
theorem YM{l:Str}(h:(34:UInt8)∈l):isSmall l=false:=by
 cases e:isSmall l with
 |false=>rfl
 |true=>exact absurd rfl (ar1 34 (anH (afL e).1 34 h)).1
theorem YN(a b:Str)(ps:List (Str×Str))(h:(34:UInt8)∈a∨∃x∈ps,(34:UInt8)∈x.1):xP a b ps=false:=by
 cases e:xP a b ps with
 |false=>rfl
 |true=>
  obtain⟨h1,_,_,h4,_⟩:=TN e;rcases h with h|⟨x,hx,h⟩
  ·rw[YM h]at h1;cases h1
  ·have:=(ail ps [] h4 x hx).1;rw[YM h]at this;cases this
def pkS(s:Str):Option (Str×Str×List (Str×Str)):=if mZ s=true then pkO (tZ 47 0 (trim ((parts 59 0 s).headD []))) (IV ((parts 59 0 s).drop 1))else none
theorem adI(o:Option (Str×Str))(p:Option (List (Str×Str)))(h:Bad o):pkO o p=none:=by
 unfold pkO;split
 ·rename_i x ps
  rw[YN _ _ _ (Or.inl (ab8 (h x rfl)))];rfl
 ·rfl
theorem adJ(o:Option (Str×Str))(p:Option (List (Str×Str)))(h:ajo p):pkO o p=none:=by
 unfold pkO;split
 ·rename_i x ps
  rw[YN _ _ _ (Or.inr (h ps rfl))];rfl
 ·rfl
theorem aye(s:Str):pkS s=pk s:=by
 unfold pkS pk;split
 ·rcases anK 47 (trim ((parts 59 0 s).headD []))with h|⟨h1,h2⟩
  ·rw[h];rcases ar2 ((parts 59 0 s).drop 1)with h3|⟨h3,h4⟩
   ·rw[h3]
   ·rw[adJ _ _ h3,adJ _ _ h4]
  ·rw[adI _ _ h1,adI _ _ h2]
 ·rfl
theorem GI(ok:Bool)(m u:Str)(ps:List (Str×Str))(hm:m.length≤1048576)(hu:u.length≤1048576)(hz:II ps≤1048576)(hn:ps.length≤1048576):
  Ev (fun k=>if ok=true then((bJ.f k (bP m) (bP u) (ps.map vX)).bind fun t=>(if t=true then(some (bP m,bP u,ps.map vX,true))else(some ((⟨#[]⟩:ByteArray),(⟨#[]⟩:ByteArray),([]:List gI),false))))else(some ((⟨#[]⟩:ByteArray),(⟨#[]⟩:ByteArray),([]:List gI),false))) (Wv (fin1 ok m u ps)):=by
 cases ok with
 |false=>exact vn (by simp) (vq (vs _) (by unfold fin1;rw[if_neg (by simp)];rfl))
 |true=>
  refine vp rfl (vb (IL m u ps hm hu hz hn) ?_)
  cases e:xP m u ps with
  |true=>exact vp rfl (vq (vs _) (by unfold fin1;rw[if_pos ⟨rfl,e⟩];rfl))
  |false=>exact vn (by simp) (vq (vs _) (by unfold fin1;rw[if_neg (by simp[e])];rfl))
theorem TQ{b:UInt8}{q:Nat}{s x t:Str}(h:tZ b q s=some (x,t)):s.length=x.length+t.length+1:=by
 rw[aij b s q x t h];simp;omega
def rest(more:Bool)(s:Str):List Str:=if more=true then parts 59 0 s else[]
theorem D7(ok:Bool)(m u:Str)(hm:m.length≤1048576)(hu:u.length≤1048576):∀(n:Nat) (s:Str) (more:Bool) (q:List (Str×Str)),s.length+(if more=true then 1 else 0)≤n→s.length+q.length+(if more=true then 1 else 0)≤500→II q≤1000*q.length→
  Ev (fun k=>cO.l0 k (bP s) more ok (bP m) (bP u) (q.map vX)) (Wv (Wx ok m u q (IV (rest more s)))):=by
 intro n
 induction n with
 |zero=>
  intro s more q h h2 h3
  cases more with
  |true=>simp at h
  |false=>
   refine vc ?_;simp only[cO.l0];refine vn (by simp) ?_;have:=GI ok m u q hm hu (by omega) (by omega)
   simpa [rest,IV,Wx] using this
 |succ n ih=>
  intro s more q h h2 h3
  cases more with
  |false=>
   refine vc ?_;simp only[cO.l0];refine vn (by simp) ?_;have:=GI ok m u q hm hu (by omega) (by omega)
   simpa [rest,IV,Wx] using this
  |true=>
   simp only[if_true]at h h2
   have hbad:∀(x5:ByteArray) (x6:Bool) (x12:ByteArray) (x15:List ByteArray),Ev (fun k=>cO.j1 k x5 x6 ok x12 x15 true (bP m) (bP u) (q.map vX)) (Wv none):=by
    intro x5 x6 x12 x15;refine vc ?_;simp only[cO.j1];exact vp trivial (vs _)
   /-one part -/
   have one:∀(c t:Str) (more:Bool),c.length≤500→t.length+(if more=true then 1 else 0)≤n→t.length+(q.length+1)+(if more=true then 1 else 0)≤500→
     Ev (fun k=>(dG.f k (bP c)).bind fun aKB=>((jC.f k aKB 61).bind fun adK=>((dG.f k adK.2.1).bind fun aKC=>((gq.f k aKC).bind fun Mc=>(if adK.2.2=true then(if Mc.2=true then(cO.j1 k (bP t) more ok adK.1 Mc.1 ((Mc.1.length:Int) !=1) (bP m) (bP u) (q.map vX))else(cO.j1 k (bP t) more ok adK.1 Mc.1 true (bP m) (bP u) (q.map vX)))else(cO.j1 k (bP t) more ok adK.1 Mc.1 true (bP m) (bP u) (q.map vX))))))) (Wv (Wx ok m u q (IV (c:: rest more t)))):=by
    intro c t more hc ht hq;have htl:=BM c;refine vb (sF c (by omega)) (vb (CZ (trim c) 61 (by decide) (by omega)) ?_)
    cases e:tZ 61 0 (trim c)with
    |none=>
     simp only[LD];refine vb (sF [] (by simp)) (vb (Lc _ (by decide)) (vn (by simp) (vq (hbad _ _ _ _) ?_)));rw[IV,Zk,e];rfl
    |some x=>
     obtain⟨a,v⟩:=x;have hlen:=TQ e;have hvl:=BM v;have hal:=BM a;simp only[LD];refine vb (sF v (by omega)) (vb (Lc _ (by omega)) (vp trivial ?_));rw[afN]
     cases e2:words v with
     |none=>
      refine vn (by simp[OG]) (vq (hbad _ _ _ _) ?_);rw[IV,Zk,e];simp only[e2];rfl
     |some ws=>
      simp only[OG,List.nil_append];refine vp trivial ?_;by_cases h1:ws.length=1
      ·obtain⟨w,rfl⟩:=List.length_eq_one_iff.mp h1;have hwl:=ZX e2 w (by simp);have e3:Zk c=some (low (trim a),w):=by rw[Zk,e];simp only[e2]
       have:=ih t more (q++[(low (trim a),w)]) ht (by simp only[List.length_append,List.length_cons,List.length_nil];omega) (by rw[KI];simp only[II,List.length_append,List.length_cons,List.length_nil,IJ];omega);have hl:=nM (trim a) (by omega);refine vc ?_;simp only[cO.j1,List.map_cons,List.map_nil,List.length_cons,List.length_nil,List.length_map];refine vn (by simp) (vb (sF a (by omega)) ?_);simp only[hl,Option.bind_some];refine vp (by omega) (vp (by omega) ?_);rw[IV,e3];simp only;rw[ZY];rw[List.map_append]at this;exact this
      ·have e4:((((ws.map bP).length:Nat):Int) !=1)=true:=by
        rw[List.length_map];simp only[bne_iff_ne,ne_eq];omega
       rw[e4];refine vq (hbad _ _ _ _) ?_
       have e3:Zk c=none:=by
        rw[Zk,e];simp only[e2]
        match ws,h1 with
        |[],_=>rfl
        |[w],h1=>exact absurd rfl h1
        |_:: _:: _,_=>rfl
       rw[IV,e3];rfl
   refine vc ?_;simp only[cO.l0];refine vp trivial (vb (CZ s 59 (by decide) (by omega)) ?_);rw[rest,if_pos rfl,Vd]
   cases e:tZ 59 0 s with
   |none=>
    simp only[LD];have:=one s [] false (by omega) (by simp) (by simp;omega)
    simpa [rest] using this
   |some x=>
    obtain⟨c,t⟩:=x;have hlen:=TQ e;simp only[LD];have:=one c t true (by omega) (by simp;omega) (by simp only[if_true];omega);rw[rest,if_pos rfl]at this;exact this
theorem TR(s:Str)(hs:s.length≤1048576):Ev (fun k=>cO.f k (bP s)) (Wv (pk s)):=by
 rw[←aye];unfold cO.f pkS;refine vb (tY s (by omega)) ?_
 cases et:mZ s with
 |false=>exact vn (by simp) (vq (vs _) rfl)
 |true=>
  have hsl:=Qe et;refine vp rfl ?_;rw[if_pos rfl]
  /-the head,and what is behind it -/
  have key:∀(h0 t:Str) (more:Bool),h0.length≤200→t.length≤200→Ev (fun k=>(dG.f k (bP h0)).bind fun aKD=>((jC.f k aKD 47).bind fun anL=>((gU.f anL.1).bind fun aKE=>((gU.f anL.2.1).bind fun aKF=>(cO.l0 k (bP t) more anL.2.2 aKE aKF ([]:List gI)))))) (Wv (pkO (tZ 47 0 (trim h0)) (IV (rest more t)))):=by
   intro h0 t more hh ht;have htl:=BM h0;refine vb (sF h0 (by omega)) (vb (CZ (trim h0) 47 (by decide) (by omega)) ?_);rw[aik _ _ (trim h0)]
   cases e:tZ 47 0 (trim h0)with
   |none=>
    have l1:=nM (trim h0) (by omega);have l2:=nM [] (by simp);have:=D7 false (low (trim h0)) (low []) (by rw[IJ];omega) (by simp[low]) (t.length+1) t more [] (by split<;>omega) (by simp only[List.length_nil];split<;>omega) (by simp[II]);simp only[LD,l1,l2,Option.bind_some]
    simpa [low] using this
   |some x=>
    obtain⟨a,b⟩:=x;have hlen:=TQ e;have l1:=nM a (by omega);have l2:=nM b (by omega);have:=D7 true (low a) (low b) (by rw[IJ];omega) (by rw[IJ];omega) (t.length+1) t more [] (by split<;>omega) (by simp only[List.length_nil];split<;>omega) (by simp[II]);simp only[LD,l1,l2,Option.bind_some]
    simpa using this
  refine vb (CZ s 59 (by decide) (by omega)) ?_;rw[Vd]
  cases e:tZ 59 0 s with
  |none=>
   simp only[LD];have:=key s [] false (by omega) (by simp)
   simpa [rest] using this
  |some x=>
   obtain⟨c,t⟩:=x;have hlen:=TQ e;simp only[LD];have:=key c t true (by omega) (by omega);rw[rest,if_pos rfl]at this
   simpa using this
theorem WA(ls:List Str)(x:Str)(hn:ls.length≤1000000000000000):∃i:Int,Ev (fun k=>bI.f k (ls.map bP) (bP x)) i∧(i= -1∨0≤i)∧(0≤i↔x∈ls):=by
 unfold bI.f;rw[List.length_map];refine⟨_,nN (xs:=ls) (F:=fun k (_:Nat) i=>bI.l0 k (ls.map bP) (bP x) (ls.length:Int) i) (st:=fun n c=>if x=c then .inl (n:Int)else .inr (n+1)) (fin:=fun _=>(-1:Int)) (s:=0) (fun p n=>n=p.length) rfl ?_ ?_,?_,?_⟩
 ·intro p c r n h hn;subst hn;have hz:=iC h;have e1:=nX h;have w1:wrap64 ((p.length:Int)+1)=(p.length:Int)+1:=b_ (by omega) (by omega);simp only[bI.l0,e1,w1,List.length_map,jL];clear w1 e1;by_cases e:x=c
  ·simp only[if_pos e];refine⟨(fun v hv=>?_),fun s' hs=>by cases hs⟩;cases hv;exact vp (by omega) (vp (by omega) (vp (by omega) (vs _)))
  ·simp only[if_neg e];refine⟨(fun v hv=>by cases hv),fun s' hs=>⟨?_,fun v hv=>?_⟩⟩
   ·cases hs;simp
   ·exact vp (by omega) (vp (by omega) (vp (by omega) hv))
 ·intro s _;simp only[bI.l0];exact vn (by omega) (vs _)
 ·have key:∀(r:List Str) (n:Nat),run (fun(n:Nat) c=>if x=c then .inl (n:Int)else .inr (n+1)) (fun _=>(-1:Int)) r n= -1∨0≤run (fun(n:Nat) c=>if x=c then .inl (n:Int)else .inr (n+1)) (fun _=>(-1:Int)) r n:=by
   intro r
   induction r with
   |nil=>intro n;exact Or.inl rfl
   |cons c r ih=>
    intro n;unfold run;by_cases e:x=c
    ·simp only[if_pos e];exact Or.inr (by omega)
    ·simp only[if_neg e];exact ih (n+1)
  exact key ls 0
 ·have key:∀(r:List Str) (n:Nat),0≤run (fun(n:Nat) c=>if x=c then .inl (n:Int)else .inr (n+1)) (fun _=>(-1:Int)) r n↔x∈r:=by
   intro r
   induction r with
   |nil=>intro n;simp[run]
   |cons c r ih=>
    intro n;unfold run;by_cases e:x=c
    ·simp only[if_pos e];simp[e]
    ·simp only[if_neg e];rw[ih];simp[e]
  exact key ls 0
theorem GK(ls:List Str)(x:Str)(hn:ls.length≤1000000000000000):Ev (fun k=>fV.f k (ls.map bP) (bP x)) (decide (x∈ls)):=by
 obtain⟨i,hi,h1,h2⟩:=WA ls x hn;unfold fV.f;refine vb hi (vq (vs _) ?_);by_cases h:x∈ls
 ·rw[decide_eq_true h];exact decide_eq_true (h2.mpr h)
 ·rw[decide_eq_false h];exact decide_eq_false (fun hh=>h (h2.mp hh))
def dash(b:Str):Str:=[45,45]++b
def fin2(b:Str):Str:=[45,45]++b++[45,45]
def dv(ls:List Str)(b:Str):Bool:=decide (dash b∈ls)||decide (fin2 b∈ls)
def lk(l b:Str):Bool:=decide (l=dash b)||decide (l=fin2 b)
theorem anM(ls:List Str)(b:Str):dv ls b=ls.any (fun l=>lk l b):=by
 unfold dv;rw[Bool.eq_iff_iff];simp only[lk,Bool.or_eq_true,decide_eq_true_iff,List.any_eq_true];constructor
 ·rintro(h|h)
  ·exact⟨_,h,Or.inl rfl⟩
  ·exact⟨_,h,Or.inr rfl⟩
 ·rintro⟨x,h,rfl|rfl⟩
  ·exact Or.inl h
  ·exact Or.inr h
theorem wB(b:Str):(⟨#[45,45]⟩:ByteArray)++bP b=bP (dash b):=by rw[afO,YO,oZ];rfl
theorem C9(b:Str):bP (dash b)++(⟨#[45,45]⟩:ByteArray)=bP (fin2 b):=by rw[afO,YO,oZ];rfl
theorem JJ(b:Str):(dash b).length=b.length+2:=by unfold dash;simp
theorem aiq(b:Str):(fin2 b).length=b.length+4:=by unfold fin2;simp
theorem WB(ls:List Str)(b:Str)(hb:b.length≤1000000000000000)(hn:ls.length≤1000000000000000):Ev (fun k=>vU.f k (ls.map bP) (bP b)) (dv ls b):=by
 unfold vU.f dv;have hd:=JJ b;simp only[wB,C9,aZ];refine vp (by omega) (vb (GK ls (dash b) hn) ?_)
 cases e:decide (dash b∈ls)with
 |true=>exact vp rfl (vs _)
 |false=>exact vn (by simp) (vp (by omega) (vb (GK ls (fin2 b) hn) (vs _)))
theorem Ld(l b:Str)(hb:b.length≤1000000000000000):qj.f (bP l) (bP b)=some (lk l b):=by
 unfold qj.f lk;have hd:=JJ b;simp only[wB,C9,aZ,jL];rw[if_pos (by omega)];by_cases h:l=dash b
 ·rw[if_pos h,decide_eq_true h];rfl
 ·rw[if_neg h,decide_eq_false h,if_pos (by omega)];simp only[Bool.false_or]
  congr 1
  rw[Bool.eq_iff_iff];simp
def jb(b:Str):List (List Str)→List Str
 |[]=>[]
 |c:: r=>dash b:: (c++jb b r)
def jR(b:Str)(ps:List (List Str)):Option (List Str):=if He b=true∧ps≠[]∧ps.any (fun c=>dv c b)=false then some (jb b ps++[fin2 b])else none
def Vj(o:Option (List Str)):List ByteArray×Bool:=match o with
 |none=>([],false)
 |some l=>(l.map bP,true)
theorem YP(b:Str)(ps:List (List Str)):(jb b ps).length=tl ps:=by
 induction ps with
 |nil=>rfl
 |cons c r ih=>simp only[jb,tl,List.length_cons,List.length_append,ih];omega
theorem Z7(b:Str)(a c:List (List Str)):jb b (a++c)=jb b a++jb b c:=by
 induction a with
 |nil=>rfl
 |cons d a ih=>simp[jb,ih]
theorem ar4{b:Str}(ps:List (List Str))(h:He b=false):jR b ps=none:=by
 unfold jR;rw[if_neg (by rw[h];simp)]
theorem ar5(b:Str):jR b []=none:=by
 unfold jR;rw[if_neg (by simp)]
theorem ayf{b:Str}{ps:List (List Str)}(h1:He b=true)(h2:ps≠[]):Vj (jR b ps)=if ps.any (fun c=>dv c b)=true then([],false)else((jb b ps++[fin2 b]).map bP,true):=by
 unfold jR
 cases e:ps.any (fun c=>dv c b)with
 |true=>rw[if_neg (by simp),if_pos rfl];rfl
 |false=>rw[if_pos ⟨h1,h2,rfl⟩,if_neg (by simp)];rfl
theorem OI(ls:List Str)(b:Str)(hb:b.length≤1000000000000)(hn:ls.length≤1000000000000):Ev (fun k=>pW.f k (ls.map bP) (bP b)) (dv ls b):=by
 unfold pW.f;exact vb (WB ls b (by omega) (by omega)) (vs _)
theorem LG(ps:List (List Str))(b:Str)(hb:b.length≤1000000000000)(hn:tl ps≤1000000000000):Ev (fun k=>fH.f k (ps.map (List.map bP)) (bP b)) (ps.any (fun c=>dv c b)):=by
 unfold fH.f bC.f;have hl:=YB ps
 have key:∀(r:List (List Str)) (n:Nat),decide (run (fun(n:Nat) c=>if dv c b=true then .inl (n:Int)else .inr (n+1)) (fun _=>(-1:Int)) r n≥0)=r.any (fun c=>dv c b):=by
  intro r
  induction r with
  |nil=>intro n;rfl
  |cons c r ih=>
   intro n;unfold run
   cases e:dv c b with
   |true=>simp[e]
   |false=>simp only[Bool.false_eq_true,if_false,ih,List.any_cons,e,Bool.false_or]
 rw[List.length_map];refine vb (nN (xs:=ps) (F:=fun k (_:Nat) i=>bC.l0 k (ps.map (List.map bP)) (ps.length:Int) i (bP b)) (st:=fun n c=>if dv c b=true then .inl (n:Int)else .inr (n+1)) (fin:=fun _=>(-1:Int)) (s:=0) (fun p n=>n=p.length) rfl ?_ ?_) (vq (vs _) (key ps 0))
 ·intro p c r n h hn';subst hn';have hz:=iC h;have hc:c.length≤tl ps:=anA (by rw[h];simp);have e1:=Gt h;have w1:wrap64 ((p.length:Int)+1)=(p.length:Int)+1:=b_ (by omega) (by omega);simp only[bC.l0,e1,w1,List.length_map];clear w1 e1;have hd:=OI c b hb (by omega)
  cases e:dv c b with
  |true=>
   simp only[if_true];rw[e]at hd;refine⟨(fun v hv=>?_),fun s' hs=>by cases hs⟩;cases hv;exact vp (by omega) (vp (by omega) (vp (by omega) (vb hd (vp rfl (vs _)))))
  |false=>
   rw[e]at hd;refine⟨(fun v hv=>by cases hv),fun s' hs=>⟨?_,fun v hv=>?_⟩⟩
   ·cases hs;simp
   ·exact vp (by omega) (vp (by omega) (vp (by omega) (vb hd (vn (by simp) hv))))
 ·intro s _;simp only[bC.l0];exact vn (by omega) (vs _)
theorem TS(ps:List (List Str))(b:Str)(hb:b.length≤1000000000000)(hn:tl ps≤1000000000000):Ev (fun k=>fE.f k (ps.map (List.map bP)) (bP b)) (Vj (jR b ps)):=by
 have hl:=YB ps;have hd:=JJ b
 have hbad:∀ps:List (List Str),Ev (fun k=>fE.j0 k (ps.map (List.map bP)) true (bP b)) (Vj none):=by
  intro ps;refine vc ?_;simp only[fE.j0];exact vp trivial (vs _)
 unfold fE.f;refine vb (zG b (by omega)) ?_;unfold jR
 cases e1:He b with
 |false=>
  rw[if_neg (by simp)];exact vn (by simp) (hbad ps)
 |true=>
  refine vp rfl ?_;rw[List.length_map];by_cases e2:ps=[]
  ·rw[if_neg (by simp[e2])];exact vp (by simp[e2]) (hbad ps)
  ·have h2:ps.length≠0:=by rw[ne_eq,List.length_eq_zero_iff];exact e2
   refine vn (by omega) (vb (LG ps b hb hn) ?_)
   cases e3:ps.any (fun c=>dv c b)with
   |true=>
    rw[if_neg (by simp)];exact hbad ps
   |false=>
    rw[if_pos ⟨rfl,e2,rfl⟩];refine vc ?_;simp only[fE.j0,Bool.false_eq_true,if_false,List.length_map];refine vq (nN (xs:=ps) (F:=fun k (out:List Str) i=>fE.l0 k (out.map bP) (ps.map (List.map bP)) (ps.length:Int) i (bP b)) (st:=fun out c=> .inr (out++(dash b:: c))) (fin:=fun out=>Vj (some (out++[fin2 b]))) (s:=[]) (fun p out=>out=jb b p) rfl ?_ ?_) ?_
    ·intro p c r out h ho;have hz:=iC h;have e1:=Gt h;have hlen:out.length=tl p:=by rw[ho,YP]
     have htl:tl ps=tl p+(c.length+1+tl r):=by rw[h,CQ];rfl
     have w1:wrap64 ((p.length:Int)+1)=(p.length:Int)+1:=b_ (by omega) (by omega);simp only[fE.l0,e1,w1,List.length_map,wB,aZ,Option.bind_some,List.length_append,List.length_cons,List.length_nil];clear w1 e1;refine⟨(fun v hv=>by cases hv),fun s' hs=>⟨?_,fun v hv=>?_⟩⟩
     ·cases hs;rw[ho,Z7];simp[jb]
     ·cases hs;refine vp (by omega) (vp (by omega) (vp (by omega) (vp (by omega) (vp (by omega) (vp (by omega) ?_)))));have e5:out.map bP++[bP (dash b)]++c.map bP=(out++(dash b:: c)).map bP:=by simp
      rw[e5];exact hv
    ·intro out ho;have hlen:out.length=tl ps:=by rw[ho,YP]
     have hd4:=aiq b;simp only[fE.l0,wB,C9,aZ,List.length_map];refine vn (by omega) (vp (by omega) (vp (by omega) (vp (by omega) (vq (vs _) ?_))));simp[Vj]
    ·have key:∀(r:List (List Str)) (out:List Str),run (fun out c=> .inr (out++(dash b:: c))) (fun out=>Vj (some (out++[fin2 b]))) r out=Vj (some (out++jb b r++[fin2 b])):=by
      intro r
      induction r with
      |nil=>intro out;simp[run,jb]
      |cons c r ih=>intro out;unfold run;simp only;rw[ih];simp[jb]
     exact key ps []
theorem TT(ps:List (List Str))(b:Str)(hb:b.length≤1000000000000)(hn:tl ps≤1000000000000)(p r:List (List Str))(c:List Str)(h:ps=p++c:: r)(out:List Str)(ho:out.length≤tl p+1)(V:List ByteArray×Bool)
  (hV:c.any (fun l=>lk l b)=false→Ev (fun k=>dL.l0 k (ps.map (List.map bP)) (bP b) ((out++c).map bP) ((p.length:Int)+1)) V):
  Ev (fun k=>dL.l1 k (ps.map (List.map bP)) (bP b) (out.map bP) (p.length:Int) 0) (if c.any (fun l=>lk l b)=true then([],false)else V):=by
 have hz:=iC h;have hl:=YB ps;have e1:=Gt h;have htl:tl ps=tl p+(c.length+1+tl r):=by rw[h,CQ];rfl
 have w0:wrap64 ((p.length:Int)+1)=(p.length:Int)+1:=b_ (by omega) (by omega);refine vq (nN (xs:=c) (F:=fun k (o:List Str) i=>dL.l1 k (ps.map (List.map bP)) (bP b) (o.map bP) (p.length:Int) i) (st:=fun o l=>if lk l b=true then .inl ([],false)else .inr (o++[l])) (fin:=fun _=>V) (s:=out) (fun q o=>o=out++q∧q.any (fun l=>lk l b)=false) ⟨by simp,rfl⟩ ?_ ?_) ?_
 ·rintro q l s o hc ⟨ho2,hq⟩;have hzc:=iC hc;have e2:=nX hc;have hlo:o.length=out.length+q.length:=by rw[ho2,List.length_append]
  have w1:wrap64 ((q.length:Int)+1)=(q.length:Int)+1:=b_ (by omega) (by omega);simp only[dL.l1,e1,e2,w1,List.length_map];clear w1 e2 w0;have hk:=Ld l b (by omega)
  cases e:lk l b with
  |true=>
   rw[e]at hk;simp only[if_true];refine⟨(fun v hv=>?_),fun s' hs=>by cases hs⟩;cases hv;exact vp (by omega) (vp (by omega) (vp (by omega) (vp (by omega) (kW hk (vp rfl (vs _))))))
  |false=>
   rw[e]at hk;refine⟨(fun v hv=>by cases hv),fun s' hs=>⟨?_,fun v hv=>?_⟩⟩
   ·cases hs;exact⟨by rw[ho2];simp,by simp[List.any_append,hq,e]⟩
   ·cases hs;refine vp (by omega) (vp (by omega) (vp (by omega) (vp (by omega) (kW hk (vn (by simp) (vp (by omega) ?_))))));have e5:o.map bP++[bP l]=(o++[l]).map bP:=by simp
    rw[e5];exact hv
 ·rintro o ⟨ho2,hq⟩;simp only[dL.l1,e1,w0,List.length_map];clear w0;rw[ho2];exact vp (by omega) (vp (by omega) (vn (by omega) (hV hq)))
 ·have key:∀(r:List Str) (o:List Str),run (fun o l=>if lk l b=true then .inl ([],false)else .inr (o++[l])) (fun _=>V) r o=if r.any (fun l=>lk l b)=true then([],false)else V:=by
   intro r
   induction r with
   |nil=>intro o;rfl
   |cons c r ih=>
    intro o;unfold run
    cases e:lk c b with
    |true=>simp[e]
    |false=>simp only[Bool.false_eq_true,if_false,ih,List.any_cons,e,Bool.false_or]
  exact key c out
theorem TU(ps:List (List Str))(b:Str)(hb:b.length≤1000000000000)(hn:tl ps≤1000000000000)(r:List (List Str)):∀(p:List (List Str)),ps=p++r→Ev (fun k=>dL.l0 k (ps.map (List.map bP)) (bP b) ((jb b p).map bP) (p.length:Int)) (if r.any (fun c=>dv c b)=true then([],false)else((jb b ps++[fin2 b]).map bP,true)):=by
 have hd:=JJ b;have hd4:=aiq b
 induction r with
 |nil=>
  intro p h;rw[List.append_nil]at h;subst h;have hlen:=YP b ps;refine vc ?_;simp only[dL.l0,wB,C9,aZ,List.length_map];refine vn (by omega) (vp (by omega) (vp (by omega) (vp (by omega) (vq (vs _) ?_))));simp
 |cons c r ih=>
  intro p h;have hz:=iC h;have hl:=YB ps;have hlen:=YP b p;have htl:tl ps=tl p+(c.length+1+tl r):=by rw[h,CQ];rfl
  have h1:=ih (p++[c]) (by rw[h];simp);rw[jF]at h1;have e5:jb b (p++[c])=jb b p++[dash b]++c:=by rw[Z7];simp[jb]
  rw[e5]at h1;have h2:=TT ps b hb hn p r c h (jb b p++[dash b]) (by rw[List.length_append,hlen];simp) _ (fun _=>h1);refine vc ?_;simp only[dL.l0,wB,aZ,List.length_map];have e6:(jb b p).map bP++[bP (dash b)]=(jb b p++[dash b]).map bP:=by simp
  rw[e6];refine vp (by omega) (vp (by omega) (vp (by omega) (vq h2 ?_)));rw[←anM,List.any_cons];cases dv c b<;>simp
theorem TV(ps:List (List Str))(b:Str)(hb:b.length≤1000000000000)(hn:tl ps≤1000000000000):Ev (fun k=>dL.f k (ps.map (List.map bP)) (bP b)) (Vj (jR b ps)):=by
 have hbad:Ev (fun k=>dL.j0 k (ps.map (List.map bP)) (bP b) [] true) (Vj none):=by
  refine vc ?_;simp only[dL.j0];exact vp trivial (vs _)
 unfold dL.f;simp only[Option.bind_some,List.length_map];refine vb (vV b (by omega)) ?_
 cases e1:He b with
 |false=>
  rw[ar4 ps e1];exact vn (by simp) hbad
 |true=>
  refine vp rfl ?_;by_cases e2:ps=[]
  ·subst e2;rw[ar5];exact hbad
  ·have h2:ps.length≠0:=by rw[ne_eq,List.length_eq_zero_iff];exact e2
   have:((ps.length:Int)==0)=false:=by rw[beq_eq_false_iff_ne];omega
   rw[this,ayf e1 e2];refine vc ?_;simp only[dL.j0];exact vn (by simp) (TU ps b hb hn ps [] rfl)
inductive Pt where
 |mk (f:List (Str×Str)) (b:List Str) (k:List Pt)
mutual
def e32:Pt→ku
 | .mk f b k=>⟨f.map vX,b.map bP,ar6 k⟩
def ar6:List Pt→List ku
 |[]=>[]
 |p:: r=>e32 p:: ar6 r
end
theorem anN(k:List Pt):ar6 k=k.map e32:=by
 induction k with
 |nil=>rfl
 |cons p r ih=>rw[ar6,ih];rfl
theorem Ji(f:List (Str×Str))(b:List Str)(k:List Pt):e32 (.mk f b k)=⟨f.map vX,b.map bP,k.map e32⟩:=by rw[e32,anN]
theorem Nv{ls p r:List Pt}{c:Pt}(h:ls=p++c:: r):aW (ls.map e32) (p.length:Int)=e32 c:=by
 unfold aW;rw[List.getD_eq_getElem?_getD,h];simp
mutual
def Oq:Pt→Nat
 | .mk f b k=>f.length+II f+b.length+xO b+k.length+Hg k
def Hg:List Pt→Nat
 |[]=>0
 |p:: r=>Oq p+Hg r
end
theorem Nw{k:List Pt}{p:Pt}(h:p∈k):Oq p≤Hg k:=by
 induction k with
 |nil=>cases h
 |cons d a ih=>
  rw[Hg];rcases List.mem_cons.mp h with rfl|h
  ·omega
  ·have:=ih h;omega
mutual
def smt:Pt→Pt→Bool
 | .mk f b k, .mk g c l=>decide (f=g)&&(decide (b=c)&&(decide (k.length=l.length)&&aDW k l))
def aDW:List Pt→List Pt→Bool
 |[],_=>true
 |_:: _,[]=>false
 |p:: r,q:: s=>smt p q&&aDW r s
end
theorem ab9{P:Pt→Prop}(h:∀f b k,(∀p∈k,P p)→P (.mk f b k))(p:Pt):P p:=by
 have key:∀(n:Nat) (p:Pt),SizeOf.sizeOf p<n→P p:=by
  intro n
  induction n with
  |zero=>intro p hp;omega
  |succ n ih=>
   intro p hp
   cases p with
   |mk f b k=>
    refine h f b k fun q hq=>ih q ?_
    have:=List.sizeOf_lt_of_mem hq;simp only[Pt.mk.sizeOf_spec]at hp;omega
 exact key _ p (Nat.lt_succ_self _)
inductive au_:Pt→Prop
 |mk (f:List (Str×Str)) (b:List Str) (k:List Pt) (h0:f.length≤9223372036854775807) (g0:sane f) (h1:b.length≤9223372036854775807) (g1:∀x∈b,x.length≤9223372036854775807) (h2:k.length≤9223372036854775807) (g2:∀p∈k,au_ p):au_ (.mk f b k)
theorem ajp(p:Pt):Oq p≤1048576→Ev (fun n=>lK.f n (e32 p).f0 (e32 p).f1 (e32 p).f2 (e32 p).f0 (e32 p).f1 (e32 p).f2) true:=by
 refine ab9 (P:=fun p=>Oq p≤1048576→Ev (fun n=>lK.f n (e32 p).f0 (e32 p).f1 (e32 p).f2 (e32 p).f0 (e32 p).f1 (e32 p).f2) true) (fun f b k ih hs=>?_) p;rw[Oq]at hs
 have key:∀(r p:List Pt),k=p++r→Ev (fun n=>iZ.l0 n (k.map e32) (k.map e32) (p.length:Int)) true:=by
  intro r
  induction r with
  |nil=>
   intro p h;have hz:k.length=p.length:=by rw[h,List.append_nil]
   refine vc ?_;simp only[iZ.l0,List.length_map];exact vn (by omega) (vs _)
  |cons c r ihr=>
   intro p h;have hz:=iC h;have e1:=Nv h;have w1:wrap64 ((p.length:Int)+1)=(p.length:Int)+1:=b_ (by omega) (by omega);have hm:c∈k:=by rw[h];simp
   have hc:=ih c hm (by have:=Nw hm;omega);have:=ihr (p++[c]) (by rw[h];simp);rw[jF]at this;refine vc ?_;simp only[iZ.l0,List.length_map,e1,w1];clear w1;exact vp (by omega) (vp (by omega) (vp (by omega) (vb hc (vp (by simp) this))))
 have hk:=key k [] rfl;simp only[Ji];refine vc ?_;simp only[lK.f];have hb:=IG b b (by omega);rw[decide_eq_true rfl]at hb;exact vb (adB f (by omega)) (vp (by simp) (vb hb (vp (by simp) (vb (vp (by simp) hk) (vp (by simp) (vs _))))))
def oO(l:Str)(i:Nat):Bool:=decide (bt (bP l) (i:Int)=32)&&(!decide (bt (bP l) ((i:Int)-1)=32)&& !decide (bt (bP l) ((i:Int)+1)=32))
def uG(l:Str)(i:Nat)(b:Int):Int:=if oO l i=true∧(b<0∨i≤40)then(i:Int)else b
def brk(l:Str):Nat→Nat→Int→Int
 |0,_,b=>b
 |n+1,i,b=>brk l n (i+1) (uG l i b)
def Vk(l:Str)(i:Nat):Int:=brk l (l.length-1-i) i (-1)
theorem Z8(l:Str):∀(n i:Nat) (b:Int),brk l n i b=b∨((i:Int)≤brk l n i b∧brk l n i b<i+n)
 |0,_,_=> .inl rfl
 |n+1,i,b=>by
  rw[brk];rcases Z8 l n (i+1) (uG l i b)with h|h
  ·rw[h];unfold uG;by_cases c:oO l i=true∧(b<0∨i≤40)
   ·rw[if_pos c];exact .inr ⟨by omega,by omega⟩
   ·rw[if_neg c];exact .inl rfl
  ·exact .inr ⟨by omega,by omega⟩
theorem Qk(l:Str)(i:Nat):Vk l i<0∨((i:Int)≤Vk l i∧Vk l i<l.length):=by
 unfold Vk;rcases Z8 l (l.length-1-i) i (-1)with h|h
 ·exact .inl (by omega)
 ·exact .inr ⟨h.1,by omega⟩
def fl:Nat→Str→Nat→List Str
 |0,l,_=>[l]
 |n+1,l,i=>if l.length>40 then(if Vk l i<0 then[l]else l.take (Vk l i).toNat:: fl n (l.drop (Vk l i).toNat) 2)else[l]
theorem anO:∀(n:Nat) (l:Str) (i:Nat),1≤i→(fl n l i).length≤l.length+1
 |0,l,i,_=>by simp[fl]
 |n+1,l,i,hi=>by
  rw[fl];by_cases c:l.length>40
  ·rw[if_pos c];by_cases d:Vk l i<0
   ·rw[if_pos d];simp
   ·rw[if_neg d];have:=Qk l i;have h2:=anO n (l.drop (Vk l i).toNat) 2 (by omega);rw[List.length_drop]at h2;rw[List.length_cons];omega
  ·rw[if_neg c];simp
def adL(f:Str×Str):Str:=(f.1++[58])++(if f.2=[]then[]else 32:: f.2)
def Le(f:Str×Str):List Str:=fl (adL f).length (adL f) (f.1.length+3)
theorem Dt(acc:List Str)(l:Str):acc.map bP++[bP l]=(acc++[l]).map bP:=by rw[List.map_append];rfl
theorem ab_(l:Str)(acc:List Str)(hl:l.length≤1048576)(V:List ByteArray):∀(n i:Nat) (b:Int),n=l.length-1-i→1≤i→i≤1048579→
  Ev (fun k=>if brk l n i b<0 then(if(acc.map bP).length<8796093022208 then(some ((acc.map bP)++[bP l]))else(none))else(if 0≤brk l n i b then(if brk l n i b≤((bP l).size:Int)then(if(acc.map bP).length<8796093022208 then(aY.l0 k ((bP l).extract (brk l n i b:Int).toNat (bP l).size) 2 ((acc.map bP)++[(bP l).extract 0 (brk l n i b:Int).toNat]))else(none))else(none))else(none))) V→
  Ev (fun k=>aY.l1 k (bP l) (acc.map bP) b (i:Int)) V:=by
 intro n
 induction n with
 |zero=>
  intro i b hn hi hi2 hE;have w1:wrap64 ((i:Int)+1)=(i:Int)+1:=b_ (by omega) (by omega);refine vc ?_;simp only[aY.l1,w1];clear w1;rw[brk]at hE;exact vn (by rw[aZ];omega) hE
 |succ n ih=>
  intro i b hn hi hi2 hE;have w1:wrap64 ((i:Int)+1)=(i:Int)+1:=b_ (by omega) (by omega);have w2:wrap64 ((i:Int)-1)=(i:Int)-1:=b_ (by omega) (by omega);have hs:=aZ l;rw[brk]at hE;have go:=ih (i+1) (uG l i b) (by omega) (by omega) (by omega) hE;rw[show((i+1:Nat):Int)=(i:Int)+1 by omega]at go;clear hE ih;refine vc ?_;simp only[aY.l1,w1,w2];clear w1 w2;refine vp (by omega) (vp (by omega) (vp (by omega) ?_));by_cases c1:bt (bP l) (i:Int)=32
  ·refine vp c1 (vp (by omega) (vp (by omega) ?_));by_cases c2:bt (bP l) ((i:Int)-1)=32
   ·refine vp c2 ?_;have e:uG l i b=b:=by unfold uG oO;rw[if_neg (by simp[c2])]
    rw[e]at go;exact go
   ·refine vn c2 (vp (by omega) ?_);by_cases c3:bt (bP l) ((i:Int)+1)=32
    ·refine vp c3 ?_;have e:uG l i b=b:=by unfold uG oO;rw[if_neg (by simp[c3])]
     rw[e]at go;exact go
    ·refine vn c3 ?_;by_cases c4:b<0
     ·refine vp c4 ?_;have e:uG l i b=(i:Int):=by unfold uG oO;rw[if_pos (by simp[c1,c2,c3,c4])]
      rw[e]at go;exact go
     ·refine vn c4 ?_;by_cases c5:(i:Int)≤40
      ·refine vp c5 ?_;have e:uG l i b=(i:Int):=by unfold uG oO;rw[if_pos (by simp[c1,c2,c3];omega)]
       rw[e]at go;exact go
      ·refine vn c5 ?_;have e:uG l i b=b:=by unfold uG;rw[if_neg (fun h=>by have:=h.2;omega)]
       rw[e]at go;exact go
  ·refine vn c1 ?_;have e:uG l i b=b:=by unfold uG oO;rw[if_neg (by simp[c1])]
   rw[e]at go;exact go
theorem acd:∀(n:Nat) (l:Str) (i:Nat) (acc:List Str),l.length≤n→l.length≤1048576→1≤i→i≤1048579→acc.length+l.length≤2000000→Ev (fun k=>aY.l0 k (bP l) (i:Int) (acc.map bP)) ((acc++fl n l i).map bP):=by
 intro n
 induction n with
 |zero=>
  intro l i acc hn hl hi hi2 ha;refine vc ?_;simp only[aY.l0,aZ,List.length_map,fl];exact vn (by omega) (vp (by omega) (vq (vs _) (Dt acc l)))
 |succ n ih=>
  intro l i acc hn hl hi hi2 ha;refine vc ?_;simp only[aY.l0,fl];by_cases c:l.length>40
  ·refine vp (by rw[aZ];omega) ?_;rw[if_pos c];have hr:=Qk l i;refine ab_ l acc hl _ (l.length-1-i) i (-1) rfl hi hi2 ?_;rw[show brk l (l.length-1-i) i (-1)=Vk l i from rfl]
   generalize Vk l i=t at hr
   by_cases d:t<0
   ·rw[if_pos d];exact vp d (vp (by rw[List.length_map];omega) (vq (vs _) (Dt acc l)))
   ·rw[if_neg d];obtain⟨m,rfl⟩:=Int.eq_ofNat_of_zero_le (a:=t) (by omega);have h2:=ih (l.drop m) 2 (acc++[l.take m]) (by rw[List.length_drop];omega) (by rw[List.length_drop];omega) (by omega) (by omega) (by rw[List.length_append,List.length_drop];simp;omega);refine vn d (vp (by omega) (vp (by rw[aZ];omega) (vp (by rw[List.length_map];omega) ?_)));rw[←Dt]at h2;simp only[lX,aZ,Int.toNat_natCast,List.drop_zero,Nat.sub_zero]at h2⊢;rw[List.take_of_length_le (l:=l.drop m) (by rw[List.length_drop];omega)];refine vq h2 ?_;simp
  ·refine vn (by rw[aZ];omega) ?_;rw[if_neg c];exact vp (by rw[List.length_map];omega) (vq (vs _) (Dt acc l))
theorem Z9:(⟨#[58]⟩:ByteArray)=bP [58]:=rfl
theorem Z_:(⟨#[32]⟩:ByteArray)=bP [32]:=rfl
theorem TW(f:Str×Str)(h1:f.1.length≤1000)(h2:f.2.length≤1000):Ev (fun k=>aY.f k (bP f.1) (bP f.2)) ((Le f).map bP):=by
 obtain⟨a,b⟩:=f;simp only at h1 h2;unfold aY.f Le adL;have w:wrap64 ((a.length:Int)+3)=((a.length+3:Nat):Int):=by rw[b_ (by omega) (by omega)];omega
 simp only[Z9,Z_,oZ,aZ,jL,w,List.length_append,List.length_cons,List.length_nil];clear w
 have key:∀l:Str,l.length≤3000→Ev (fun k=>aY.j0 k (bP l) ((a.length+3:Nat):Int)) ((fl l.length l (a.length+3)).map bP):=by
  intro l hl;refine vc ?_;simp only[aY.j0];have:=acd l.length l (a.length+3) [] (Nat.le_refl _) (by omega) (by omega) (by omega) (by simp;omega);exact this
 refine vp (by omega) ?_;by_cases c:b=[]
 ·subst c;refine vp rfl ?_;have:=key (a++[58]) (by simp;omega)
  simpa using this
 ·refine vn c (vp (by omega) (vp (by omega) ?_));have:=key ((a++[58])++([32]++b)) (by simp;omega);rw[if_neg c]
  simpa [Nat.add_assoc,Nat.add_comm,Nat.add_left_comm] using this
theorem afP(l:Str)(hl:l.length≤1048576):∀(n i:Nat) (b:Int),n=l.length-1-i→1≤i→i≤1048579→Ev (fun k=>fJ.l0 k (bP l) b (i:Int)) (brk l n i b):=by
 intro n
 induction n with
 |zero=>
  intro i b hn hi hi2;have w1:wrap64 ((i:Int)+1)=(i:Int)+1:=b_ (by omega) (by omega);refine vc ?_;simp only[fJ.l0,w1,brk];clear w1;exact vn (by rw[aZ];omega) (vs _)
 |succ n ih=>
  intro i b hn hi hi2;have w1:wrap64 ((i:Int)+1)=(i:Int)+1:=b_ (by omega) (by omega);have w2:wrap64 ((i:Int)-1)=(i:Int)-1:=b_ (by omega) (by omega);have hs:=aZ l;have go:=ih (i+1) (uG l i b) (by omega) (by omega) (by omega);rw[show((i+1:Nat):Int)=(i:Int)+1 by omega]at go;rw[brk];clear ih
  have jt:uG l i b=b→Ev (fun k=>fJ.j1 k (bP l) b (i:Int) true) (brk l n (i+1) (uG l i b)):=fun e=>by
   refine vc ?_;simp only[fJ.j1,w1];rw[e]at go⊢;exact vp (by simp) go
  refine vc ?_;simp only[fJ.l0,w1,w2];refine vp (by omega) (vp (by omega) (vp (by omega) ?_));by_cases c1:bt (bP l) (i:Int)=32
  ·refine vp c1 (vp (by omega) (vp (by omega) ?_));by_cases c2:bt (bP l) ((i:Int)-1)=32
   ·exact vp c2 (jt (by unfold uG oO;rw[if_neg (by simp[c2])]))
   ·refine vn c2 (vp (by omega) ?_);by_cases c3:bt (bP l) ((i:Int)+1)=32
    ·rw[show(bt (bP l) ((i:Int)+1)==32)=true by simp[c3]];exact jt (by unfold uG oO;rw[if_neg (by simp[c3])])
    ·rw[show(bt (bP l) ((i:Int)+1)==32)=false by simp[c3]];refine vc ?_;simp only[fJ.j1,w1];clear w1 w2;refine vn (by simp) ?_;by_cases c5:(i:Int)≤40
     ·refine vp c5 ?_;have e:uG l i b=(i:Int):=by unfold uG oO;rw[if_pos (by simp[c1,c2,c3];omega)]
      rw[e]at go⊢;exact go
     ·refine vn c5 ?_;by_cases c4:b<0
      ·refine vp c4 ?_;have e:uG l i b=(i:Int):=by unfold uG oO;rw[if_pos (by simp[c1,c2,c3,c4])]
       rw[e]at go⊢;exact go
      ·refine vn c4 ?_;have e:uG l i b=b:=by unfold uG;rw[if_neg (fun h=>by have:=h.2;omega)]
       rw[e]at go⊢;exact go
  ·exact vn c1 (jt (by unfold uG oO;rw[if_neg (by simp[c1])]))
theorem TY:∀(n:Nat) (l:Str) (i:Nat) (acc:List Str),l.length≤n→l.length≤1048576→1≤i→i≤1048578→acc.length+l.length≤2000000→Ev (fun k=>fU.l0 k (acc.map bP) (bP l) (i:Int)) ((acc++fl n l (i+1)).map bP):=by
 intro n
 induction n with
 |zero=>
  intro l i acc hn hl hi hi2 ha;refine vc ?_;simp only[fU.l0,aZ,List.length_map,fl];exact vn (by omega) (vp (by omega) (vq (vs _) (Dt acc l)))
 |succ n ih=>
  intro l i acc hn hl hi hi2 ha;refine vc ?_;simp only[fU.l0,fl];by_cases c:l.length>40
  ·refine vp (by rw[aZ];omega) ?_;rw[if_pos c];have hr:=Qk l (i+1)
   have hb:Ev (fun k=>fJ.f k (bP l) (i:Int)) (Vk l (i+1)):=by
    unfold fJ.f;rw[show wrap64 ((i:Int)+1)=((i+1:Nat):Int) by rw[b_ (by omega) (by omega)];omega];exact afP l hl (l.length-1-(i+1)) (i+1) (-1) rfl (by omega) (by omega)
   refine vb hb ?_
   generalize Vk l (i+1)=t at hr
   by_cases d:t<0
   ·rw[if_pos d];exact vp d (vp (by rw[List.length_map];omega) (vq (vs _) (Dt acc l)))
   ·rw[if_neg d];obtain⟨m,rfl⟩:=Int.eq_ofNat_of_zero_le (a:=t) (by omega);have h2:=ih (l.drop m) 1 (acc++[l.take m]) (by rw[List.length_drop];omega) (by rw[List.length_drop];omega) (by omega) (by omega) (by rw[List.length_append,List.length_drop];simp;omega);refine vn d (vp (by omega) (vp (by rw[aZ];omega) (vp (by rw[List.length_map];omega) ?_)));rw[←Dt]at h2;simp only[lX,aZ,Int.toNat_natCast,List.drop_zero,Nat.sub_zero]at h2⊢;rw[List.take_of_length_le (l:=l.drop m) (by rw[List.length_drop];omega)];refine vq h2 ?_;simp
  ·refine vn (by rw[aZ];omega) ?_;rw[if_neg c];exact vp (by rw[List.length_map];omega) (vq (vs _) (Dt acc l))
def fv(f:Str×Str):Bool:=Nc f.1&&(mZ f.2&&(decide (f.2.length≤150)&&decide (trim f.2=f.2)))
def fvs(fs:List (Str×Str)):Bool:=decide (fs.length≤20)&&fs.all fv
theorem afQ{f:Str×Str}(h:fv f=true):f.1.length≤30∧f.2.length≤150:=by
 unfold fv at h;simp only[Bool.and_eq_true,decide_eq_true_iff]at h;exact⟨adC h.1,h.2.2.1⟩
theorem Vl{f:Str×Str}(h:fv f=true):(Le f).length≤183:=by
 have:=afQ h;have h2:=anO (adL f).length (adL f) (f.1.length+3) (by omega)
 have h3:(adL f).length≤f.1.length+2+f.2.length:=by
  unfold adL;by_cases c:f.2=[]
  ·rw[if_pos c];simp;omega
  ·rw[if_neg c];simp;omega
 unfold Le;omega
theorem T_(l:Str)(hl:l.length≤1000000000):kC.f (bP l) (⟨#[32]⟩:ByteArray)=some (bP (trim l)):=by
 unfold kC.f;rw[if_pos rfl,if_pos (by rw[aZ];omega)];rfl
theorem Ql(f:Str×Str)(h1:f.1.length≤1048576)(h2:f.2.length≤1048576):Ev (fun k=>qQ.f k (bP f.1) (bP f.2)) (fv f):=by
 unfold qQ.f fv;refine vb (Nh f.1 (by omega)) ?_
 cases Nc f.1 with
 |false=>exact vn (by simp) (vs _)
 |true=>
  refine vp rfl (vb (qO f.2 (by omega)) ?_)
  cases mZ f.2 with
  |false=>exact vn (by simp) (vs _)
  |true=>
   refine vp rfl ?_;rw[aZ];by_cases c:f.2.length≤150
   ·refine vp (by omega) (kW (T_ f.2 (by omega)) (vq (vs _) ?_));rw[jL,jL,Ol,decide_eq_true c];simp
   ·refine vn (by omega) (vq (vs _) ?_);rw[decide_eq_false c];simp
theorem zH(f:Str×Str)(h1:f.1.length≤1048576)(h2:f.2.length≤1048576):Ev (fun k=>kL.f k (bP f.1) (bP f.2)) (fv f):=by
 unfold kL.f fv;refine vb (Nl f.1 (by omega)) ?_
 cases Nc f.1 with
 |false=>exact vn (by simp) (vs _)
 |true=>
  refine vp rfl (vb (tY f.2 (by omega)) ?_)
  cases mZ f.2 with
  |false=>exact vn (by simp) (vs _)
  |true=>
   refine vp rfl ?_;rw[aZ];by_cases c:f.2.length≤150
   ·refine vp (by omega) (vb (sF f.2 (by omega)) (vq (vs _) ?_));rw[jL,jL,Ol,decide_eq_true c];simp
   ·refine vn (by omega) (vq (vs _) ?_);rw[decide_eq_false c];simp
theorem LH(ls:List (Str×Str))(hs:small ls)(hn:ls.length≤1048576)(r:List (Str×Str)):∀p,ls=p++r→∃v:Int,Ev (fun k=>dJ.l0 k (ls.map vX) (ls.length:Int) (p.length:Int)) v∧decide (v≥0)= !(r.all fv):=by
 induction r with
 |nil=>
  intro p h;have hz:ls.length=p.length:=by rw[h,List.append_nil]
  refine⟨-1,vc ?_,rfl⟩;simp only[dJ.l0];exact vn (by omega) (vs _)
 |cons c r ih=>
  intro p h;have hz:=iC h;have e1:=y7 h;have hc:=hs c (by rw[h];simp);have w1:wrap64 ((p.length:Int)+1)=(p.length:Int)+1:=b_ (by omega) (by omega);obtain⟨v,hv,hv2⟩:=ih (p++[c]) (by rw[h];simp);rw[jF]at hv;have h1:Ev (fun k=>qc.f k (bP c.1) (bP c.2)) (!fv c):=vb (Ql c hc.1 hc.2) (vs _)
  cases e:fv c with
  |true=>
   rw[e]at h1;refine⟨v,vc ?_,by rw[hv2,List.all_cons,e];rfl⟩;simp only[dJ.l0,e1,w1,List.length_map];clear w1;exact vp (by omega) (vp (by omega) (vp (by omega) (vb h1 (vn (by simp) hv))))
  |false=>
   rw[e]at h1;refine⟨p.length,vc ?_,by rw[List.all_cons,e];simp⟩;simp only[dJ.l0,e1,w1,List.length_map];clear w1;exact vp (by omega) (vp (by omega) (vp (by omega) (vb h1 (vp (by simp) (vs _)))))
theorem D8(ls:List (Str×Str))(hs:small ls)(hn:ls.length≤1048576):Ev (fun k=>lV.f k (ls.map vX)) (fvs ls):=by
 unfold lV.f lg.f dJ.f fvs;rw[List.length_map];by_cases c:ls.length≤20
 ·obtain⟨v,hv,hv2⟩:=LH ls hs hn ls [] rfl;refine vp (by omega) (vb (vb hv (vs _)) (vq (vs _) ?_));rw[hv2,decide_eq_true c];simp
 ·refine vn (by omega) (vq (vs _) ?_);rw[decide_eq_false c];rfl
theorem Ua(ls:List (Str×Str))(hs:small ls)(hn:ls.length≤1048576)(r:List (Str×Str)):∀p,ls=p++r→Ev (fun k=>gJ.l0 k (ls.map vX) (p.length:Int)) (decide (ls.length≤20)&&r.all fv):=by
 have out:∀i:Int,Ev (fun k=>gJ.j1 k (ls.map vX) i false) (decide (ls.length≤20)):=fun i=>by
  refine vc ?_;simp only[gJ.j1,List.length_map];refine vn (by simp) (vq (vs _) ?_);exact decide_eq_decide.mpr (by omega)
 induction r with
 |nil=>
  intro p h;have hz:ls.length=p.length:=by rw[h,List.append_nil]
  refine vc ?_;simp only[gJ.l0,List.length_map];refine vn (by omega) (vq (out _) (by simp))
 |cons c r ih=>
  intro p h;have hz:=iC h;have e1:=y7 h;have hc:=hs c (by rw[h];simp);have w1:wrap64 ((p.length:Int)+1)=(p.length:Int)+1:=b_ (by omega) (by omega);have hv:=ih (p++[c]) (by rw[h];simp);rw[jF]at hv;have h1:=zH c hc.1 hc.2;refine vc ?_;simp only[gJ.l0,List.length_map];refine vp (by omega) ?_;by_cases c2:p.length≤20
  ·rw[show decide ((p.length:Int)≤20)=true from decide_eq_true (by omega)];refine vc ?_;simp only[gJ.j1,List.length_map,e1,w1];clear w1;refine vp trivial (vp (by omega) (vp (by omega) (vb h1 ?_)))
   cases e:fv c with
   |true=>exact vp rfl (vq hv (by rw[List.all_cons,e,Bool.true_and]))
   |false=>exact vn (by simp) (vq (vs _) (by rw[List.all_cons,e];simp))
  ·rw[show decide ((p.length:Int)≤20)=false from decide_eq_false (by omega)];exact vq (out _) (by rw[decide_eq_false (by omega)];rfl)
theorem DF(ls:List (Str×Str))(hs:small ls)(hn:ls.length≤1048576):Ev (fun k=>gJ.f k (ls.map vX)) (fvs ls):=Ua ls hs hn ls [] rfl
theorem Nz(ls:List (Str×Str))(hv:ls.all fv=true)(hn:ls.length≤20)(r:List (Str×Str)):∀(p:List (Str×Str)) (acc:List Str),ls=p++r→acc.length≤183*p.length→Ev (fun k=>jk.l0 k (acc.map bP) (ls.map vX) (ls.length:Int) (p.length:Int)) ((acc++r.flatMap Le).map bP,true):=by
 induction r with
 |nil=>
  intro p acc h ha;have hz:ls.length=p.length:=by rw[h,List.append_nil]
  refine vc ?_;simp only[jk.l0];exact vn (by omega) (vq (vs _) (by simp))
 |cons c r ih=>
  intro p acc h ha;have hz:=iC h;have e1:=y7 h;have hc:fv c=true:=List.all_eq_true.mp hv c (by rw[h];simp);have hl:=afQ hc;have hf:=Vl hc;have w1:wrap64 ((p.length:Int)+1)=(p.length:Int)+1:=b_ (by omega) (by omega);have hv:=ih (p++[c]) (acc++Le c) (by rw[h];simp) (by simp only[List.length_append,List.length_singleton];omega);rw[jF,List.map_append]at hv;refine vc ?_;simp only[jk.l0,List.length_map,e1,w1];clear w1;exact vp (by omega) (vp (by omega) (vp (by omega) (vb (TW c (by omega) (by omega)) (vp (by simp only[List.length_map];omega) (vq hv (by simp))))))
def folds(ls:List (Str×Str)):List Str:=ls.flatMap Le
theorem Vm(ls:List (Str×Str))(h:fvs ls=true):(folds ls).length≤3660:=by
 unfold fvs at h;simp only[Bool.and_eq_true,decide_eq_true_iff]at h
 have key:∀r:List (Str×Str),r.all fv=true→(r.flatMap Le).length≤183*r.length:=by
  intro r
  induction r with
  |nil=>intro _;simp
  |cons c r ih=>
   intro h;rw[List.all_cons,Bool.and_eq_true]at h;have:=ih h.2;have:=Vl h.1;rw[List.flatMap_cons,List.length_append,List.length_cons];omega
 have:=key ls h.2;unfold folds;omega
theorem zI(ls:List (Str×Str))(hs:small ls)(hn:ls.length≤1048576):Ev (fun k=>jk.f k (ls.map vX)) (if fvs ls=true then((folds ls).map bP,true)else([],false)):=by
 unfold jk.f;refine vb (D8 ls hs hn) ?_
 cases e:fvs ls with
 |false=>exact vn (by simp) (vs _)
 |true=>
  rw[List.length_map];unfold fvs at e;simp only[Bool.and_eq_true,decide_eq_true_iff]at e;exact vp rfl (Nz ls e.2 e.1 ls [] [] rfl (by simp))
theorem Ub(f:Str×Str)(hf:fv f=true):Ev (fun k=>fU.f k (bP f.1) (bP f.2)) ((Le f).map bP):=by
 have hl:=afQ hf;have hx:=zH f (by omega) (by omega);rw[hf]at hx;obtain⟨a,b⟩:=f;simp only at hl;unfold fU.f Le adL
 have key:∀l:Str,l.length≤3000→Ev (fun k=>fU.j0 k [] (bP l) ((a.length+2:Nat):Int)) ((fl l.length l (a.length+3)).map bP):=by
  intro l hl;refine vc ?_;simp only[fU.j0];have:=TY l.length l (a.length+2) [] (Nat.le_refl _) (by omega) (by omega) (by omega) (by simp;omega);exact this
 refine vb (vs _) (vb hx (vp rfl ?_));have w:wrap64 (((a.length+1:Nat):Int)+1)=((a.length+2:Nat):Int):=by rw[b_ (by omega) (by omega)];omega
 simp only[Z9,Z_,oZ,aZ,jL,List.length_append,List.length_cons,List.length_nil];refine vp (by omega) ?_;by_cases c:b=[]
 ·subst c;refine vp rfl ?_;refine vc ?_;simp only[fU.j0];have:=TY (a++[58]).length (a++[58]) (a.length+1) [] (Nat.le_refl _) (by simp;omega) (by omega) (by omega) (by simp;omega)
  have e:fl (a++[58]).length (a++[58]) (a.length+1+1)=fl (a++[58]).length (a++[58]) (a.length+3):=by
   have g:∀(n i j:Nat),fl n (a++[58]) i=fl n (a++[58]) j:=fun n i j=>by
    cases n with
    |zero=>rfl
    |succ n=>rw[fl,fl,if_neg (by simp;omega),if_neg (by simp;omega)]
   exact g _ _ _
  rw[e]at this
  simpa using this
 ·refine vn c (vp (by omega) (vp (by omega) ?_));have:=key ((a++[58])++[32]++b) (by simp;omega);rw[if_neg c,w]
  simpa [Nat.add_assoc,Nat.add_comm,Nat.add_left_comm] using this
theorem NC(ls:List (Str×Str))(hv:ls.all fv=true)(hn:ls.length≤20)(r:List (Str×Str)):∀(p:List (Str×Str)) (acc:List Str),ls=p++r→acc.length≤183*p.length→Ev (fun k=>je.l0 k (ls.map vX) (acc.map bP) (p.length:Int)) ((acc++r.flatMap Le).map bP,true):=by
 induction r with
 |nil=>
  intro p acc h ha;have hz:ls.length=p.length:=by rw[h,List.append_nil]
  refine vc ?_;simp only[je.l0,List.length_map];exact vn (by omega) (vq (vs _) (by simp))
 |cons c r ih=>
  intro p acc h ha;have hz:=iC h;have e1:=y7 h;have hc:fv c=true:=List.all_eq_true.mp hv c (by rw[h];simp);have hf:=Vl hc;have w1:wrap64 ((p.length:Int)+1)=(p.length:Int)+1:=b_ (by omega) (by omega);have hv:=ih (p++[c]) (acc++Le c) (by rw[h];simp) (by simp only[List.length_append,List.length_singleton];omega);rw[jF,List.map_append]at hv;refine vc ?_;simp only[je.l0,List.length_map,e1,w1];clear w1;exact vp (by omega) (vp (by omega) (vb (Ub c hc) (vp (by simp only[List.length_map];omega) (vq hv (by simp)))))
theorem Qm(ls:List (Str×Str))(hs:small ls)(hn:ls.length≤1048576):Ev (fun k=>je.f k (ls.map vX)) (if fvs ls=true then((folds ls).map bP,true)else([],false)):=by
 unfold je.f;refine vb (vs _) (vb (DF ls hs hn) ?_)
 cases e:fvs ls with
 |false=>exact vn (by simp) (vs _)
 |true=>
  unfold fvs at e;simp only[Bool.and_eq_true,decide_eq_true_iff]at e;exact vp rfl (NC ls e.2 e.1 ls [] [] rfl (by simp))
def ctype:Str:=[67,111,110,116,101,110,116,45,84,121,112,101]
def bF(fs:List (Str×Str)):Str×Bool:=match pk (CU fs ctype).1 with
 |none=>([],false)
 |some x=>Wu x.1 x.2.1 x.2.2
theorem aac:(⟨#[67,111,110,116,101,110,116,45,84,121,112,101]⟩:ByteArray)=bP ctype:=rfl
theorem Uc{fs:List (Str×Str)}(h:(bF fs).2=true):He (bF fs).1=true:=by
 unfold bF at h⊢
 cases e:pk (CU fs ctype).1 with
 |none=>rw[e]at h;cases h
 |some x=>
  rw[e]at h;simp only at h⊢;unfold Wu at h⊢;by_cases c:xP x.1 x.2.1 x.2.2=true∧x.1=multi∧He (CU x.2.2 bnd).1=true
  ·rw[if_pos c];exact c.2.2
  ·rw[if_neg c]at h;cases h
theorem ayg:pk []=none:=by decide
theorem ND{l:Str}(h:isSmall l=true):l.length≤30:=by
 unfold isSmall at h;rw[Bool.and_eq_true]at h;exact adC h.1
theorem adM{s:Str}{x:Str×Str×List (Str×Str)}(h:pk s=some x):x.1.length≤1048576∧x.2.1.length≤1048576∧II x.2.2≤1048576∧x.2.2.length≤1048576:=by
 obtain⟨a,b,ps⟩:=x;have hv:=anI h;have h1:=TN hv;have h2:=ail ps [] h1.2.2.2.1
 have key:∀q:List (Str×Str),(∀p∈q,isSmall p.1=true∧mZ p.2=true∧p.2.length≤40)→II q≤70*q.length:=by
  intro q
  induction q with
  |nil=>intro _;simp[II]
  |cons c q ih=>
   intro h;have h3:=h c (by simp);have h4:=ih fun p hp=>h p (by simp[hp])
   have h5:=ND h3.1;rw[II,List.length_cons];omega
 have h3:=key ps h2;have h4:=ND h1.1;have h5:=ND h1.2.1;refine⟨?_,?_,?_,?_⟩<;>(simp only;omega)
theorem BZ(fs:List (Str×Str))(hs:small fs)(hn:fs.length≤1048576)(bb:List ByteArray)(kk:List ku):Ev (fun k=>jB.f k (fs.map vX) bb kk) (bP (bF fs).1,(bF fs).2):=by
 unfold jB.f bF;rw[aac];refine vb (JG fs ctype hs (by decide) hn) (vb (TM _ (KJ fs ctype hs)) ?_)
 cases e:pk (CU fs ctype).1 with
 |none=>exact vn (by simp[Wv]) (vs _)
 |some x=>
  have hx:=adM e;exact vp rfl (vb (Qg x.1 x.2.1 x.2.2 hx.1 hx.2.1 hx.2.2.1 hx.2.2.2) (vs _))
theorem zJ(fs:List (Str×Str))(hs:small fs)(hn:fs.length≤1048576):Ev (fun k=>jS.f k (fs.map vX)) (bP (bF fs).1,(bF fs).2):=by
 unfold jS.f;rw[aac];refine vb (JH fs ctype hs (by decide) hn) (vb (TR _ (KJ fs ctype hs)) ?_);unfold bF
 cases e:pk (CU fs ctype).1 with
 |none=>
  refine vb (Gx [] [] [] (by simp) (by simp) (by simp[II]) (by simp)) ?_
  cases (CU fs ctype).2 with
  |true=>exact vp rfl (vn (by simp[Wv]) (vs _))
  |false=>exact vn (by simp) (vs _)
 |some x=>
  have hx:=adM e;refine vb (Gx x.1 x.2.1 x.2.2 hx.1 hx.2.1 hx.2.2.1 hx.2.2.2) ?_
  cases g:(CU fs ctype).2 with
  |true=>exact vp rfl (vp rfl (vs _))
  |false=>rw[ZU fs ctype g,ayg]at e;cases e
def kl(g:Pt→Option (List Str)):List Pt→Option (List (List Str))
 |[]=>some []
 |p:: r=>match g p with
  |none=>none
  |some a=>(kl g r).map (a:: ·)
def tbs(b:List Str):Bool:=decide (b.length≤30)&&b.all mZ
def head(f:List (Str×Str)):List Str:=folds f++[[]]
def lines:Nat→Pt→Option (List Str)
 |0,_=>none
 |d+1, .mk f b k=>if fvs f=true then(if(bF f).2=true then(if b=[]∧1≤k.length∧k.length≤4 then(match kl (lines d) k with
   |none=>none
   |some ls=>(jR (bF f).1 ls).map (head f++ ·))else none)else(if k=[]∧tbs b=true then some (head f++b)else none))else none
theorem afR{g:Pt→Option (List Str)}{N:Nat}:∀{k:List Pt} {ls:List (List Str)},kl g k=some ls→(∀p∈k,∀a,g p=some a→a.length≤N)→ls.length=k.length∧tl ls≤(N+1)*k.length
 |[],ls,h,_=>by
  rw[kl]at h;cases h;simp[tl]
 |p:: r,ls,h,hN=>by
  rw[kl]at h
  cases e:g p with
  |none=>rw[e]at h;cases h
  |some a=>
   rw[e]at h
   cases e2:kl g r with
   |none=>rw[e2]at h;cases h
   |some l=>
    rw[e2]at h;cases h;have h1:=afR e2 fun q hq=>hN q (by simp[hq])
    have h2:=hN p (by simp) a e;rw[List.length_cons,List.length_cons,tl,Nat.mul_succ];omega
def lN:Nat→Nat
 |0=>4000
 |d+1=>4*lN d+4000
theorem anP{d:Nat}(h:d≤3):lN d≤500000:=by
 rcases d with _|_|_|_|d
 ·decide
 ·decide
 ·decide
 ·decide
 ·omega
theorem afS{b:Str}{ps:List (List Str)}{s:List Str}(h:jR b ps=some s):s.length=tl ps+1:=by
 unfold jR at h;split at h
 ·cases h;rw[List.length_append,YP];rfl
 ·cases h
theorem YQ{f:List (Str×Str)}(h:fvs f=true):(head f).length≤3661:=by
 have:=Vm f h;unfold head;rw[List.length_append,List.length_singleton];omega
theorem JK:∀(d:Nat) (p:Pt) (ls:List Str),lines d p=some ls→ls.length≤lN d
 |0,p,ls,h=>by rw[lines]at h;cases h
 |d+1, .mk f b k,ls,h=>by
  rw[lines]at h;by_cases c:fvs f=true
  ·rw[if_pos c]at h;have h1:=YQ c;by_cases c1:(bF f).2=true
   ·rw[if_pos c1]at h;by_cases c2:b=[]∧1≤k.length∧k.length≤4
    ·rw[if_pos c2]at h
     cases e:kl (lines d) k with
     |none=>rw[e]at h;cases h
     |some l=>
      rw[e]at h;simp only at h;have h2:=afR e (N:=lN d) fun p _ a h=>JK d p a h
      cases e2:jR (bF f).1 l with
      |none=>rw[e2]at h;cases h
      |some s=>
       rw[e2]at h;cases h;have h3:=afS e2;have h4:(lN d+1)*k.length≤(lN d+1)*4:=Nat.mul_le_mul_left _ c2.2.2;rw[List.length_append,lN];omega
    ·rw[if_neg c2]at h;cases h
   ·rw[if_neg c1]at h;by_cases c2:k=[]∧tbs b=true
    ·rw[if_pos c2]at h;cases h;have h2:=c2.2;unfold tbs at h2;simp only[Bool.and_eq_true,decide_eq_true_iff]at h2;rw[List.length_append,lN];omega
    ·rw[if_neg c2]at h;cases h
  ·rw[if_neg c]at h;cases h
theorem Qn(ls:List Str)(hs:∀x∈ls,x.length≤1048576)(hn:ls.length≤1048576)(r:List Str):∀p,ls=p++r→∃v:Int,Ev (fun k=>bn.l0 k (ls.map bP) (ls.length:Int) (p.length:Int)) v∧decide (v≥0)= !(r.all mZ):=by
 induction r with
 |nil=>
  intro p h;have hz:ls.length=p.length:=by rw[h,List.append_nil]
  refine⟨-1,vc ?_,rfl⟩;simp only[bn.l0];exact vn (by omega) (vs _)
 |cons c r ih=>
  intro p h;have hz:=iC h;have e1:=nX h;have hc:=hs c (by rw[h];simp);have w1:wrap64 ((p.length:Int)+1)=(p.length:Int)+1:=b_ (by omega) (by omega);obtain⟨v,hv,hv2⟩:=ih (p++[c]) (by rw[h];simp);rw[jF]at hv;have h1:Ev (fun k=>tu.f k (bP c)) (!mZ c):=vb (qO c (by omega)) (vs _)
  cases e:mZ c with
  |true=>
   rw[e]at h1;refine⟨v,vc ?_,by rw[hv2,List.all_cons,e];rfl⟩;simp only[bn.l0,e1,w1,List.length_map];clear w1;exact vp (by omega) (vp (by omega) (vp (by omega) (vb h1 (vn (by simp) hv))))
  |false=>
   rw[e]at h1;refine⟨p.length,vc ?_,by rw[List.all_cons,e];simp⟩;simp only[bn.l0,e1,w1,List.length_map];clear w1;exact vp (by omega) (vp (by omega) (vp (by omega) (vb h1 (vp (by simp) (vs _)))))
theorem Vo(ls:List Str)(hs:∀x∈ls,x.length≤1048576)(hn:ls.length≤1048576):Ev (fun k=>uh.f k (ls.map bP) 30) (tbs ls):=by
 unfold uh.f gX.f bn.f tbs;rw[List.length_map];by_cases c:ls.length≤30
 ·obtain⟨v,hv,hv2⟩:=Qn ls hs hn ls [] rfl;refine vp (by omega) (vb (vb hv (vs _)) (vq (vs _) ?_));rw[hv2,decide_eq_true c];simp
 ·refine vn (by omega) (vq (vs _) ?_);rw[decide_eq_false c];rfl
def lr(o:Option (List Str))(v:List ByteArray×Bool):Prop:=match o with
 |some ls=>v=(ls.map bP,true)
 |none=>v.2=false
theorem JL{f:List (Str×Str)}{b:List Str}{k:List Pt}(h:Oq (.mk f b k)≤1048576):small f∧f.length≤1048576∧(∀x∈b,x.length≤1048576)∧b.length≤1048576∧k.length≤1048576∧∀p∈k,Oq p≤1048576:=by
 rw[Oq]at h;exact⟨JF (by omega),by omega,fun x hx=>by have:=arY hx;omega,by omega,by omega,fun p hp=>by have:=Nw hp;omega⟩
theorem adN(f:List (Str×Str)):(folds f).map bP++[(⟨#[]⟩:ByteArray)]=(head f).map bP:=by
 unfold head;rw[List.map_append];rfl
theorem adO(acc:List (List Str))(l:List Str):acc.map (List.map bP)++[l.map bP]=(acc++[l]).map (List.map bP):=by rw[List.map_append];rfl
theorem WC:∀(d:Nat) (p:Pt),d≤3→Oq p≤1048576→∃v,Ev (fun k=>aV.f k (e32 p).f0 (e32 p).f1 (e32 p).f2 (d:Int)) v∧lr (lines d p) v:=by
 have bad:∀(d:Int) (X:List ByteArray) (F:List gI) (B:List ByteArray) (K:List ku),Ev (fun k=>aV.j0 k d X true F B K) ([],false):=fun d X F B K=>by
  refine vc ?_;simp only[aV.j0];exact vp trivial (vs _)
 intro d
 induction d with
 |zero=>
  intro p hd hp;obtain⟨f,b,k⟩:=p;obtain⟨hf,hfn,-⟩:=JL hp;simp only[Ji];refine⟨([],false),vc ?_,rfl⟩;simp only[aV.f];refine vb (zI f hf hfn) ?_;by_cases c:fvs f=true
  ·rw[if_pos c];exact vp rfl (bad _ _ _ _ _)
  ·rw[if_neg c];exact vn (by simp) (bad _ _ _ _ _)
 |succ d ih=>
  intro p hd hp;obtain⟨f,b,k⟩:=p;obtain⟨hf,hfn,hb,hbn,hkn,hk⟩:=JL hp;simp only[Ji];rw[lines];by_cases c:fvs f=true
  case neg=>
   rw[if_neg c];refine⟨([],false),vc ?_,rfl⟩;simp only[aV.f];refine vb (zI f hf hfn) ?_;rw[if_neg c];exact vn (by simp) (bad _ _ _ _ _)
  rw[if_pos c];have hh:=YQ c;have hfo:=Vm f c
  have go:∀v,Ev (fun n=>if(bF f).2=true then(if(b.length:Int)>0 then aV.j1 n ((d+1:Nat):Int) ((head f).map bP) (bP (bF f).1) true (f.map vX) (b.map bP) (k.map e32)else(if(k.length:Int)<1 then aV.j1 n ((d+1:Nat):Int) ((head f).map bP) (bP (bF f).1) true (f.map vX) (b.map bP) (k.map e32)else aV.j1 n ((d+1:Nat):Int) ((head f).map bP) (bP (bF f).1) (decide ((k.length:Int)>4)) (f.map vX) (b.map bP) (k.map e32)))else(if((head f).map bP).length+(b.map bP).length<8796093022208 then(some ((head f).map bP++b.map bP:List ByteArray)).bind fun y=>(if(k.length:Int)=0 then((uh.f n (b.map bP) 30).bind fun t=>some (y,t))else some (y,false))else none)) v→Ev (fun n=>aV.f n (f.map vX) (b.map bP) (k.map e32) ((d+1:Nat):Int)) v:=by
   intro v hv;refine vc ?_;simp only[aV.f];refine vb (zI f hf hfn) ?_;rw[if_pos c];refine vp rfl ?_;rw[show(((d+1:Nat):Int)==0)=false by simp;omega];refine vc ?_;simp only[aV.j0];refine vn (by simp) (vp (by rw[List.length_map];omega) (vb (vs _) (vb (BZ f hf hfn _ _) ?_)));rw[adN];simp only[List.length_map]at hv⊢;exact hv
  have afT:∀(X:List ByteArray) (B:ByteArray),Ev (fun n=>aV.j1 n ((d+1:Nat):Int) X B true (f.map vX) (b.map bP) (k.map e32)) ([],false):=fun X B=>by
   refine vc ?_;simp only[aV.j1];exact vp trivial (vs _)
  by_cases c1:(bF f).2=true
  ·rw[if_pos c1];by_cases c2:b=[]∧1≤k.length∧k.length≤4
   ·rw[if_pos c2];obtain⟨rfl,hk1,hk4⟩:=c2;have hbd:=Nb (Uc c1);have hN:=anP (d:=d) (by omega)
    have key:∀(r p:List Pt) (acc:List (List Str)),k=p++r→acc.length=p.length→tl acc≤(lN d+1)*p.length→∃v,Ev (fun n=>aV.l0 n ((d+1:Nat):Int) ((head f).map bP) (bP (bF f).1) (acc.map (List.map bP)) (k.map e32) (k.length:Int) (p.length:Int)) v∧lr (match kl (lines d) r with
      |none=>none
      |some ls=>(jR (bF f).1 (acc++ls)).map (head f++ ·)) v:=by
     intro r
     induction r with
     |nil=>
      intro p acc h ha ht;have hz:k.length=p.length:=by rw[h,List.append_nil]
      have ht2:(lN d+1)*p.length≤(lN d+1)*4:=Nat.mul_le_mul_left _ (by omega);have hj:=TS acc (bF f).1 (by omega) (by omega);rw[kl];simp only[List.append_nil]
      cases e:jR (bF f).1 acc with
      |none=>
       rw[e]at hj;refine⟨((head f).map bP++[],false),vc ?_,rfl⟩;simp only[aV.l0];exact vn (by omega) (vb hj (vp (by rw[List.length_map];simp only[Vj,List.length_nil];omega) (vs _)))
      |some s=>
       rw[e]at hj;have hs:=afS e;refine⟨((head f).map bP++s.map bP,true),vc ?_,by simp[lr]⟩;simp only[aV.l0];exact vn (by omega) (vb hj (vp (by rw[List.length_map];simp only[Vj,List.length_map];omega) (vs _)))
     |cons q r ihr=>
      intro p acc h ha ht;have hz:=iC h;have e1:=Nv h;have w1:wrap64 ((p.length:Int)+1)=(p.length:Int)+1:=b_ (by omega) (by omega);have w2:wrap64 (((d+1:Nat):Int)-1)=(d:Int):=by rw[b_ (by omega) (by omega)];omega
      obtain⟨u,hu,hr⟩:=ih q (by omega) (hk q (by rw[h];simp));rw[kl]
      cases e:lines d q with
      |none=>
       rw[e]at hr;refine⟨([],false),vc ?_,rfl⟩;simp only[aV.l0,List.length_map,e1,w1,w2];clear w1 w2;exact vp (by omega) (vp (by omega) (vp (by omega) (vb hu (vn (by rw[show u.2=false from hr];simp) (vs _)))))
      |some a=>
       rw[e]at hr;have hr:u=(a.map bP,true):=hr;subst hr;have hla:=JK d q a e;obtain⟨v,hv,hv2⟩:=ihr (p++[q]) (acc++[a]) (by rw[h];simp) (by simp[ha]) (by rw[CQ,List.length_append,List.length_singleton,Nat.mul_add];simp only[tl];omega);rw[jF,←adO]at hv;refine⟨v,vc ?_,?_⟩
       ·simp only[aV.l0,List.length_map,e1,w1,w2];clear w1 w2;exact vp (by omega) (vp (by omega) (vp (by omega) (vb hu (vp rfl (vp (by omega) hv)))))
       ·simp only
        cases e2:kl (lines d) r with
        |none=>rw[e2]at hv2;exact hv2
        |some l=>
         rw[e2]at hv2
         simpa using hv2
    obtain⟨v,hv,hv2⟩:=key k [] [] rfl rfl (by simp[tl]);refine⟨v,go v (vp c1 (vn (by simp) (vn (by omega) ?_))),hv2⟩;rw[show decide ((k.length:Int)>4)=false from decide_eq_false (by omega)];refine vc ?_;simp only[aV.j1,List.length_map];exact vn (by simp) hv
   ·rw[if_neg c2];refine⟨([],false),go _ (vp c1 ?_),rfl⟩;by_cases c3:(b.length:Int)>0
    ·exact vp c3 (afT _ _)
    ·refine vn c3 ?_;have hb0:b=[]:=List.length_eq_zero_iff.mp (by omega);by_cases c4:(k.length:Int)<1
     ·exact vp c4 (afT _ _)
     ·refine vn c4 ?_
      rw[show decide ((k.length:Int)>4)=true from decide_eq_true (by
       apply Classical.byContradiction;intro h;exact c2 ⟨hb0,by omega,by omega⟩)]
      exact afT _ _
  ·rw[if_neg c1];have hlen:((head f).map bP).length+(b.map bP).length<8796093022208:=by simp only[List.length_map];omega
   by_cases c3:k=[]
   ·subst c3;refine⟨((head f).map bP++b.map bP,tbs b),go _ (vn c1 (vp hlen (vb (vs _) (vp rfl (vb (Vo b hb hbn) (vs _)))))),?_⟩
    cases e:tbs b with
    |true=>simp[lr]
    |false=>simp[lr]
   ·have hk0:¬(k.length:Int)=0:=fun h=>c3 (List.length_eq_zero_iff.mp (by omega))
    refine⟨((head f).map bP++b.map bP,false),go _ (vn c1 (vp hlen (vb (vs _) (vn hk0 (vs _))))),?_⟩;rw[if_neg (fun h=>c3 h.1)];rfl
theorem Ud(p:Pt)(hp:Oq p≤1048576):Ev (fun k=>qA.f k (e32 p).f0 (e32 p).f1 (e32 p).f2) (lines 3 p).isSome:=by
 unfold qA.f;obtain⟨v,hv,hr⟩:=WC 3 p (by omega) hp;refine vb hv (vq (vs _) ?_)
 cases e:lines 3 p with
 |none=>rw[e]at hr;exact hr
 |some ls=>
  rw[e]at hr;rw[show v=_ from hr];rfl
theorem Vp:∀(d:Nat) (p:Pt) (ls:List Str),d≤3→Oq p≤1048576→lines d p=some ls→Ev (fun k=>jH.f k (e32 p).f0 (e32 p).f1 (e32 p).f2) (ls.map bP):=by
 intro d
 induction d with
 |zero=>intro p ls hd hp h;rw[lines]at h;cases h
 |succ d ih=>
  intro p ls hd hp h;obtain⟨f,b,k⟩:=p;obtain⟨hf,hfn,hb,hbn,hkn,hk⟩:=JL hp;simp only[Ji];rw[lines]at h;by_cases c:fvs f=true
  case neg=>rw[if_neg c]at h;cases h
  rw[if_pos c]at h;have hh:=YQ c;have hfo:=Vm f c;refine vc ?_;simp only[jH.f];refine vb (Qm f hf hfn) ?_;rw[if_pos c];refine vp (by rw[List.length_map];omega) (vb (vs _) (vb (zJ f hf hfn) ?_));simp only[adN];by_cases c1:(bF f).2=true
  ·rw[if_pos c1]at h;by_cases c2:b=[]∧1≤k.length∧k.length≤4
   case neg=>rw[if_neg c2]at h;cases h
   rw[if_pos c2]at h;obtain⟨rfl,hk1,hk4⟩:=c2;have hbd:=Nb (Uc c1);have hN:=anP (d:=d) (by omega)
   cases e:kl (lines d) k with
   |none=>rw[e]at h;cases h
   |some l=>
   rw[e]at h;simp only at h
   cases e2:jR (bF f).1 l with
   |none=>rw[e2]at h;cases h
   |some s=>
   rw[e2]at h;cases h
   have key:∀(r p:List Pt) (acc m:List (List Str)),k=p++r→acc.length=p.length→tl acc≤(lN d+1)*p.length→kl (lines d) r=some m→l=acc++m→Ev (fun n=>jH.l0 n ((head f).map bP) (bP (bF f).1) (acc.map (List.map bP)) (p.length:Int) (f.map vX) (([]:List Str).map bP) (k.map e32)) ((head f++s).map bP):=by
    intro r
    induction r with
    |nil=>
     intro p acc m h ha ht hm hl;have hz:k.length=p.length:=by rw[h,List.append_nil]
     have ht2:(lN d+1)*p.length≤(lN d+1)*4:=Nat.mul_le_mul_left _ (by omega);rw[kl]at hm;cases hm;rw[List.append_nil]at hl;subst hl;have hj:=TV l (bF f).1 (by omega) (by omega);rw[e2]at hj;have hs:=afS e2;refine vc ?_;simp only[jH.l0,List.length_map];exact vn (by omega) (vb hj (vp (by simp only[Vj,List.length_map];omega) (vq (vs _) (by simp[Vj]))))
    |cons q r ihr=>
     intro p acc m h ha ht hm hl;have hz:=iC h;have e1:=Nv h;have w1:wrap64 ((p.length:Int)+1)=(p.length:Int)+1:=b_ (by omega) (by omega);rw[kl]at hm
     cases e3:lines d q with
     |none=>rw[e3]at hm;cases hm
     |some a=>
     rw[e3]at hm
     cases e4:kl (lines d) r with
     |none=>rw[e4]at hm;cases hm
     |some m2=>
     rw[e4]at hm;cases hm;have hu:=ih q a (by omega) (hk q (by rw[h];simp)) e3;have hla:=JK d q a e3;have hv:=ihr (p++[q]) (acc++[a]) m2 (by rw[h];simp) (by simp[ha]) (by rw[CQ,List.length_append,List.length_singleton,Nat.mul_add];simp only[tl];omega) e4 (by rw[hl];simp);rw[jF,←adO]at hv;refine vc ?_;simp only[jH.l0,List.length_map,e1,w1];clear w1;exact vp (by omega) (vp (by omega) (vb hu (vp (by omega) hv)))
   exact vp c1 (key k [] [] l rfl rfl (by simp[tl]) e rfl)
  ·rw[if_neg c1]at h;by_cases c2:k=[]∧tbs b=true
   case neg=>rw[if_neg c2]at h;cases h
   rw[if_pos c2]at h;cases h;refine vn c1 (vp (by simp only[List.length_map];omega) (vq (vs _) ?_));rw[List.map_append]
theorem Vq(ls:List Str)(hs:∀x∈ls,x.length≤1048576)(hn:ls.length≤1048576)(r:List Str):∀p,ls=p++r→Ev (fun k=>jv.l0 k (ls.map bP) (p.length:Int)) (decide (ls.length≤30)&&r.all mZ):=by
 have out:∀i:Int,Ev (fun k=>jv.j1 k (ls.map bP) i false) (decide (ls.length≤30)):=fun i=>by
  refine vc ?_;simp only[jv.j1,List.length_map];refine vn (by simp) (vq (vs _) ?_);exact decide_eq_decide.mpr (by omega)
 induction r with
 |nil=>
  intro p h;have hz:ls.length=p.length:=by rw[h,List.append_nil]
  refine vc ?_;simp only[jv.l0,List.length_map];refine vn (by omega) (vq (out _) (by simp))
 |cons c r ih=>
  intro p h;have hz:=iC h;have e1:=nX h;have hc:=hs c (by rw[h];simp);have w1:wrap64 ((p.length:Int)+1)=(p.length:Int)+1:=b_ (by omega) (by omega);have hv:=ih (p++[c]) (by rw[h];simp);rw[jF]at hv;have h1:=tY c (by omega);refine vc ?_;simp only[jv.l0,List.length_map];refine vp (by omega) ?_;by_cases c2:p.length≤30
  ·rw[show decide ((p.length:Int)≤30)=true from decide_eq_true (by omega)];refine vc ?_;simp only[jv.j1,List.length_map,e1,w1];clear w1;refine vp trivial (vp (by omega) (vp (by omega) (vb h1 ?_)))
   cases e:mZ c with
   |true=>exact vp rfl (vq hv (by rw[List.all_cons,e,Bool.true_and]))
   |false=>exact vn (by simp) (vq (vs _) (by rw[List.all_cons,e];simp))
  ·rw[show decide ((p.length:Int)≤30)=false from decide_eq_false (by omega)];exact vq (out _) (by rw[decide_eq_false (by omega)];rfl)
theorem YR(ls:List Str)(hs:∀x∈ls,x.length≤1048576)(hn:ls.length≤1048576):Ev (fun k=>jv.f k (ls.map bP)) (tbs ls):=Vq ls hs hn ls [] rfl
theorem afU(b:Str)(hb:b.length≤100)(d x7:Int)(F:List gI)(B:List ByteArray)(K:List ku)(ls:List Str)(hn:ls.length≤1048576)(V:Bool)(h1:dv ls b=true→V=false)(h2:dv ls b=false→Ev (fun n=>bZ.l0 n d (bP b) (wrap64 (x7+1)) F B K) V):Ev (fun n=>bZ.l1 n d (bP b) x7 (ls.map bP) 0 F B K) V:=by
 rw[anM]at h1 h2
 have key:∀(r p:List Str),ls=p++r→(r.any (fun l=>lk l b)=true→V=false)→(r.any (fun l=>lk l b)=false→Ev (fun n=>bZ.l0 n d (bP b) (wrap64 (x7+1)) F B K) V)→Ev (fun n=>bZ.l1 n d (bP b) x7 (ls.map bP) (p.length:Int) F B K) V:=by
  intro r
  induction r with
  |nil=>
   intro p h g1 g2;have hz:ls.length=p.length:=by rw[h,List.append_nil]
   refine vc ?_;simp only[bZ.l1,List.length_map];exact vn (by omega) (g2 rfl)
  |cons c r ih=>
   intro p h g1 g2;have hz:=iC h;have e1:=nX h;have w1:wrap64 ((p.length:Int)+1)=(p.length:Int)+1:=b_ (by omega) (by omega);refine vc ?_;simp only[bZ.l1,List.length_map,e1,w1];clear w1;refine vp (by omega) (vp (by omega) (kW (Ld c b (by omega)) ?_))
   cases e:lk c b with
   |true=>
    refine vp rfl (vq (vs _) (g1 ?_).symm);rw[List.any_cons,e];rfl
   |false=>
    have:=ih (p++[c]) (by rw[h];simp) (fun g=>g1 (by rw[List.any_cons,e];exact g)) (fun g=>g2 (by rw[List.any_cons,e];exact g));rw[jF]at this;exact vn (by simp) this
 exact key ls [] rfl h1 h2
theorem WE:∀(d:Nat) (p:Pt),d≤3→Oq p≤1048576→Ev (fun k=>bZ.f k (e32 p).f0 (e32 p).f1 (e32 p).f2 (d:Int)) (lines d p).isSome:=by
 have bad:∀(d:Int) (F:List gI) (B:List ByteArray) (K:List ku),Ev (fun k=>bZ.j0 k d true F B K) false:=fun d F B K=>by
  refine vc ?_;simp only[bZ.j0];exact vp trivial (vs _)
 intro d
 induction d with
 |zero=>
  intro p hd hp;obtain⟨f,b,k⟩:=p;obtain⟨hf,hfn,-⟩:=JL hp;simp only[Ji];refine vc ?_;simp only[bZ.f];refine vb (DF f hf hfn) ?_;by_cases c:fvs f=true
  ·exact vp c (bad _ _ _ _)
  ·exact vn c (bad _ _ _ _)
 |succ d ih=>
  intro p hd hp;obtain⟨f,b,k⟩:=p;obtain⟨hf,hfn,hb,hbn,hkn,hk⟩:=JL hp;simp only[Ji];rw[lines];refine vc ?_;simp only[bZ.f];refine vb (DF f hf hfn) ?_;by_cases c:fvs f=true
  case neg=>
   rw[if_neg c];exact vn c (bad _ _ _ _)
  rw[if_pos c];refine vp c ?_;rw[show decide (((d+1:Nat):Int)<1)=false from decide_eq_false (by omega)];refine vc ?_;simp only[bZ.j0,List.length_map];refine vn (by simp) (vb (zJ f hf hfn) ?_)
  have afT:∀(B:ByteArray),Ev (fun n=>bZ.j1 n ((d+1:Nat):Int) B true (f.map vX) (b.map bP) (k.map e32)) false:=fun B=>by
   refine vc ?_;simp only[bZ.j1];exact vp trivial (vs _)
  by_cases c1:(bF f).2=true
  ·rw[if_pos c1];refine vp c1 ?_;by_cases c2:b=[]∧1≤k.length∧k.length≤4
   ·rw[if_pos c2];obtain⟨rfl,hk1,hk4⟩:=c2;have hbs:=Uc c1;have hbd:=Nb hbs;have hN:=anP (d:=d) (by omega)
    have key:∀(r p:List Pt),k=p++r→Ev (fun n=>bZ.l0 n ((d+1:Nat):Int) (bP (bF f).1) (p.length:Int) (f.map vX) (([]:List Str).map bP) (k.map e32)) (match kl (lines d) r with
      |none=>false
      |some ls=>!ls.any (fun c=>dv c (bF f).1)):=by
     intro r
     induction r with
     |nil=>
      intro p h;have hz:k.length=p.length:=by rw[h,List.append_nil]
      refine vc ?_;simp only[bZ.l0,List.length_map];exact vn (by omega) (vs _)
     |cons q r ihr=>
      intro p h;have hz:=iC h;have e1:=Nv h;have w1:wrap64 ((p.length:Int)+1)=(p.length:Int)+1:=b_ (by omega) (by omega);have w2:wrap64 (((d+1:Nat):Int)-1)=(d:Int):=by rw[b_ (by omega) (by omega)];omega
      have hu:=ih q (by omega) (hk q (by rw[h];simp));have hv:=ihr (p++[q]) (by rw[h];simp);rw[jF,←w1]at hv;refine vc ?_;simp only[bZ.l0,List.length_map,e1,w2];clear w1 w2;refine vp (by omega) (vp (by omega) (vb hu ?_));rw[kl]
      cases e:lines d q with
      |none=>exact vn (by simp) (vs _)
      |some a=>
       have hg:=Vp d q a (by omega) (hk q (by rw[h];simp)) e;have hla:=JK d q a e;refine vp rfl (vb hg (afU _ (by omega) _ _ _ _ _ a (by omega) _ (fun g=>?_) (fun g=>vq hv ?_)))
       ·cases kl (lines d) r with
        |none=>rfl
        |some m=>simp[g]
       ·cases kl (lines d) r with
        |none=>rfl
        |some m=>simp[g]
    refine vn (by simp) (vn (by omega) ?_);rw[show decide ((k.length:Int)>4)=false from decide_eq_false (by omega)];refine vc ?_;simp only[bZ.j1];refine vn (by simp) (vq (key k [] rfl) ?_)
    cases e:kl (lines d) k with
    |none=>rfl
    |some ls=>
     have hl:=(afR e (N:=lN d) fun p _ a h=>JK d p a h).1;have h0:ls≠[]:=fun h=>by rw[h]at hl;simp at hl;omega
     show(!ls.any (fun c=>dv c (bF f).1))=((jR (bF f).1 ls).map (head f++ ·)).isSome
     unfold jR
     cases ls.any (fun c=>dv c (bF f).1)with
     |true=>rw[if_neg (fun h=>by have:=h.2.2;cases this)];rfl
     |false=>rw[if_pos ⟨hbs,h0,rfl⟩];rfl
   ·rw[if_neg c2];by_cases c3:(b.length:Int)>0
    ·exact vp c3 (afT _)
    ·refine vn c3 ?_;have hb0:b=[]:=List.length_eq_zero_iff.mp (by omega);by_cases c4:(k.length:Int)<1
     ·exact vp c4 (afT _)
     ·refine vn c4 ?_
      rw[show decide ((k.length:Int)>4)=true from decide_eq_true (by
       apply Classical.byContradiction;intro h;exact c2 ⟨hb0,by omega,by omega⟩)]
      exact afT _
  ·rw[if_neg c1];refine vn c1 ?_;by_cases c3:k=[]
   ·subst c3;refine vp rfl (vb (YR b hb hbn) (vq (vs _) ?_))
    cases e:tbs b with
    |true=>simp
    |false=>simp
   ·have hk0:¬(k.length:Int)=0:=fun h=>c3 (List.length_eq_zero_iff.mp (by omega))
    refine vn hk0 ?_;rw[if_neg (fun h=>c3 h.1)];exact vs _
theorem Ue(p:Pt)(hp:Oq p≤1048576):Ev (fun k=>qx.f k (e32 p).f0 (e32 p).f1 (e32 p).f2) (lines 3 p).isSome:=by
 unfold qx.f;exact vb (WE 3 p (by omega) hp) (vs _)
def fmt(p:Pt):List ByteArray×Bool:=match lines 3 p with
 |some ls=>(ls.map bP,true)
 |none=>([],false)
theorem Zl:∀(n:Nat) (a:Nat) (out:Str),a<n→out.length+a≤100000000000000000→∃s:Str,Ev (fun k=>eU.l0 k (a:Int) (bP out)) (bP s):=by
 intro n
 induction n with
 |zero=>intro a out h;omega
 |succ n ih=>
  intro a out h hb;by_cases h0:a=0
  ·subst h0;refine⟨109:: out,vc ?_⟩;simp only[eU.l0,aZ,afO,YO,oZ];exact vn (by simp) (vp (by omega) (vs _))
  ·have hd:a/10+1≤a:=by omega
   have e1:Int.tdiv (a:Int) 10=((a/10:Nat):Int):=by rw[Int.tdiv_eq_ediv_of_nonneg (by omega)];omega
   have e2:wrap64 (((a/10:Nat):Int))=((a/10:Nat):Int):=b_ (by omega) (by omega);obtain⟨x,hx⟩:∃x:Int,x=(wrap64 (48+(Int.tmod (a:Int) 10)))%256:=⟨_,rfl⟩
   obtain⟨c,hc⟩:∃c:Str,strOfNums [x]=bP c∧c.length=1:=⟨[UInt8.ofNat x.toNat],rfl,rfl⟩
   obtain⟨s,hs⟩:=ih (a/10) (c++out) (by omega) (by rw[List.length_append,hc.2];omega);refine⟨s,vc ?_⟩;simp only[eU.l0,←hx,Option.bind_some,hc.1,aZ,oZ,e1,e2];exact vp (by omega) (vp (by rw[hc.2];omega) hs)
theorem adP(a:Nat)(h:a≤10000000000000000):∃s:Str,Ev (fun k=>eU.f k (a:Int)) (bP s):=by
 unfold eU.f;by_cases h0:a=0
 ·exact⟨[109,48],vp (by omega) (vs _)⟩
 ·obtain⟨s,hs⟩:=Zl (a+1) a [] (by omega) (by simp;omega);exact⟨s,vn (by omega) hs⟩
def IsMark(T:Nat→Str):Prop:=∀a:Nat,a≤10000000000000000→Ev (fun k=>eU.f k (a:Int)) (bP (T a))
theorem ajq:∃T,IsMark T:=by
 have:∀a:Nat,∃s:Str,a≤10000000000000000→Ev (fun k=>eU.f k (a:Int)) (bP s):=by
  intro a;by_cases h:a≤10000000000000000
  ·obtain⟨s,hs⟩:=adP a h;exact⟨s,fun _=>hs⟩
  ·exact⟨[],fun h2=>absurd h2 h⟩
 obtain⟨T,hT⟩:=Classical.axiomOfChoice this;exact⟨T,hT⟩
def mks(T:Nat→Str):Nat→Nat→List ByteArray
 |_,0=>[]
 |m,n+1=>bP (T m):: mks T (m+1) n
theorem Vr(T:Nat→Str)(hT:IsMark T)(r:List ByteArray):∀(p:List ByteArray) (m:Nat),p.length+r.length≤1000000000000000→m+r.length≤10000000000000000→Ev (fun k=>fK.l0 k (p++r) (m:Int) (p.length:Int)) (((m+r.length:Nat):Int),p++mks T m r.length):=by
 induction r with
 |nil=>
  intro p m h h2;refine vc ?_;simp only[fK.l0];exact vn (by simp) (vs _)
 |cons c r ih=>
  intro p m h h2;simp only[List.length_cons]at h h2;have w1:wrap64 ((p.length:Int)+1)=(p.length:Int)+1∧wrap64 ((m:Int)+1)=((m+1:Nat):Int):=⟨b_ (by omega) (by omega),b_ (by omega) (by omega)⟩
  have e1:(p++c:: r).set ((p.length:Nat):Int).toNat (bP (T m))=(p++[bP (T m)])++r:=by
   rw[Int.toNat_natCast,List.set_append_right _ _ (Nat.le_refl _),Nat.sub_self,List.set_cons_zero];simp
  have:=ih (p++[bP (T m)]) (m+1) (by simp;omega) (by omega);rw[jF]at this;refine vc ?_;simp only[fK.l0,w1.1,w1.2];clear w1;refine vp (by simp;omega) (vb (hT m (by omega)) (vp (by omega) ?_));rw[e1];refine vq this ?_;simp only[mks,List.length_cons,List.append_assoc,List.singleton_append]
  congr 1
  omega
theorem GL(T:Nat→Str)(hT:IsMark T)(r:List ByteArray)(m:Nat)(h:r.length≤1000000000000000)(h2:m+r.length≤10000000000000000):Ev (fun k=>fK.f k r (m:Int)) (((m+r.length:Nat):Int),mks T m r.length):=by
 unfold fK.f;have:=Vr T hT r [] m (by simpa using h) h2
 simpa using this
theorem Vs(T:Nat→Str)(hT:IsMark T)(n:Nat):∀(p:List ByteArray) (m:Nat),p.length+n≤1000000000000000→m+n≤10000000000000000→Ev (fun k=>fM.l0 k (p++mks T m n) (m:Int) (p.length:Int)) (((m+n:Nat):Int)):=by
 induction n with
 |zero=>
  intro p m h h2;refine vc ?_;simp only[fM.l0,mks,List.append_nil];exact vn (by omega) (vs _)
 |succ n ih=>
  intro p m h h2;have w1:wrap64 ((p.length:Int)+1)=(p.length:Int)+1∧wrap64 ((m:Int)+1)=((m+1:Nat):Int):=⟨b_ (by omega) (by omega),b_ (by omega) (by omega)⟩
  have:=ih (p++[bP (T m)]) (m+1) (by simp;omega) (by omega);rw[jF]at this;have e1:f_ ByteArray.empty (p++mks T m (n+1)) (p.length:Int)=bP (T m):=adQ _ _ _ _;refine vc ?_;simp only[fM.l0,w1.1,w1.2,e1];clear w1;refine vp (by simp[mks];omega) (vp (by omega) (vb (hT m (by omega)) (vp rfl ?_)));refine vq ?_ (show(((m+1+n:Nat):Int))=((m+(n+1):Nat):Int) by omega);have e2:p++mks T m (n+1)=(p++[bP (T m)])++mks T (m+1) n:=by simp[mks]
  rw[e2];exact this
theorem NG(T:Nat→Str)(hT:IsMark T)(n m:Nat)(h:n≤1000000000000000)(h2:m+n≤10000000000000000):Ev (fun k=>fM.f k (mks T m n) (m:Int)) (((m+n:Nat):Int)):=by
 unfold fM.f;have:=Vs T hT n [] m (by simpa using h) h2
 simpa using this
def Evp(p:Nat→Prop):Prop:=∃K,∀k,K≤k→p k
theorem DI{α:Type}{g:Nat→Option α}{r:α}(h:Ev g r):Evp (fun k=>g k=some r):=h
theorem C_{p q:Nat→Prop}(h:Evp p)(h2:Evp q):Evp (fun k=>p k∧q k):=by
 obtain⟨K,h⟩:=h;obtain⟨M,h2⟩:=h2;exact⟨K+M,fun k hk=>⟨h k (by omega),h2 k (by omega)⟩⟩
theorem adR{p:Nat→Prop}(h:Evp p):∃k,p k:=by
 obtain⟨K,h⟩:=h;exact⟨K,h K (Nat.le_refl _)⟩
def sz3(f:List (Str×Str))(b:List Str)(k:List Pt):Nat:=f.length+II f+b.length+xO b+k.length+Hg k
theorem anQ(x:ku):(⟨x.f0,x.f1,x.f2⟩:ku)=x:=by cases x;rfl
def szR:List gI→Nat
 |[]=>0
 |x:: r=>x.f0.size+x.f1.size+szR r
theorem afV(p:Pt):Oq p≤1000000000→Ev (fun n=>jd.f n (e32 p).f0 (e32 p).f1 (e32 p).f2) ((e32 p).f0,(e32 p).f1,(e32 p).f2):=by
 refine ab9 (P:=fun p=>Oq p≤1000000000→Ev (fun n=>jd.f n (e32 p).f0 (e32 p).f1 (e32 p).f2) ((e32 p).f0,(e32 p).f1,(e32 p).f2)) ?_ p;intro f b k ih hs;rw[Oq]at hs;simp only[Ji]
 have key:∀(r q:List Pt),k=q++r→Ev (fun n=>gQ.l0 n (q.map e32) (k.map e32) (k.length:Int) (q.length:Int)) (k.map e32):=by
  intro r
  induction r with
  |nil=>
   intro q h;have hz:k.length=q.length:=by rw[h];simp
   refine vc ?_;simp only[gQ.l0];exact vn (by omega) (vq (vs _) (by rw[h,List.append_nil]))
  |cons c r ihr=>
   intro q h;have hz:k.length=q.length+(r.length+1):=by rw[h];simp
   have e1:=Nv h;have hm:c∈k:=by rw[h];simp
   have hc:=Nw hm;have g:=ih c hm (by omega);have w1:Unit→wrap64 ((q.length:Int)+1)=(((q++[c]).length:Nat):Int):=fun _=>by rw[b_ (by omega) (by omega)];simp
   have g2:=ihr (q++[c]) (by rw[h];simp);rw[List.map_append,List.map_singleton]at g2;refine vc ?_;simp only[gQ.l0,List.length_map,e1,w1 ()];refine vp (by omega) (vp (by omega) (vp (by omega) (vb g ?_)));simp only[anQ];exact vp (by omega) g2
 have k0:=key k [] rfl;refine vc ?_;simp only[jd.f,List.length_map];refine kW rfl (vp (by simp;omega) (kW rfl (vp (by simp;omega) (vb k0 (vq (vs _) (by simp))))))
theorem ava{g:Pt→Option (List Str)}:∀{k:List Pt} {ls:List (List Str)},kl g k=some ls→∀p∈k,(g p).isSome=true
 |[],_,_,_,hp=>by cases hp
 |p:: r,ls,h,q,hq=>by
  rw[kl]at h
  cases e:g p with
  |none=>rw[e]at h;cases h
  |some a=>
   rw[e]at h
   cases e2:kl g r with
   |none=>rw[e2]at h;cases h
   |some l=>
    rcases List.mem_cons.mp hq with rfl|hq
    ·rw[e];rfl
    ·exact ava e2 q hq
theorem afW{d:Nat}{f:List (Str×Str)}{b:List Str}{k:List Pt}(h:(lines (d+1) (.mk f b k)).isSome=true):k.length≤4∧∀p∈k,(lines d p).isSome=true:=by
 rw[lines]at h;by_cases c:fvs f=true
 ·rw[if_pos c]at h;by_cases c1:(bF f).2=true
  ·rw[if_pos c1]at h;by_cases c2:b=[]∧1≤k.length∧k.length≤4
   ·rw[if_pos c2]at h
    cases e:kl (lines d) k with
    |none=>rw[e]at h;cases h
    |some l=>exact⟨c2.2.2,ava e⟩
   ·rw[if_neg c2]at h;cases h
  ·rw[if_neg c1]at h;by_cases c2:k=[]∧tbs b=true
   ·rw[c2.1];exact⟨by simp,fun _ h=>by cases h⟩
   ·rw[if_neg c2]at h;cases h
 ·rw[if_neg c]at h;cases h
def mkF(T:Nat→Str):Nat→Nat→List gI
 |_,0=>[]
 |m,n+1=>⟨bP (T m),bP (T (m+1))⟩:: mkF T (m+2) n
theorem afX(T:Nat→Str)(n:Nat):∀m,(mkF T m n).length=n:=by
 induction n with
 |zero=>intro m;rfl
 |succ n ih=>intro m;rw[mkF,List.length_cons,ih]
theorem air(p r:List gI)(c:gI):aG (p++c:: r) (p.length:Int)=c:=by
 unfold aG;rw[List.getD_eq_getElem?_getD];simp
theorem anR(p r:List gI)(c d:gI):(p++c:: r).set ((p.length:Nat):Int).toNat d=p++d:: r:=by
 rw[Int.toNat_natCast,List.set_append_right _ _ (Nat.le_refl _),Nat.sub_self,List.set_cons_zero]
theorem WG(T:Nat→Str)(hT:IsMark T)(r:List gI):∀(p:List gI) (m:Nat),p.length+r.length≤1000000000000→m+2*r.length≤10000000000000→Ev (fun k=>ig.l0 k (p++r) (m:Int) (p.length:Int)) (((m+2*r.length:Nat):Int),p++mkF T m r.length):=by
 induction r with
 |nil=>
  intro p m h h2;refine vc ?_;simp only[ig.l0];exact vn (by simp) (vs _)
 |cons c r ih=>
  intro p m h h2;simp only[List.length_cons]at h h2;have w1:wrap64 ((p.length:Int)+1)=(p.length:Int)+1∧wrap64 ((m:Int)+1)=((m+1:Nat):Int)∧wrap64 (((m+1:Nat):Int)+1)=((m+2:Nat):Int):=⟨b_ (by omega) (by omega),(b_ (by omega) (by omega)).trans (by omega),(b_ (by omega) (by omega)).trans (by omega)⟩
  have:=ih (p++[⟨bP (T m),bP (T (m+1))⟩]) (m+2) (by simp;omega) (by omega);rw[jF]at this;refine vc ?_;simp only[ig.l0,w1.1,w1.2.1,w1.2.2];clear w1;refine vp (by simp;omega) (vb (hT m (by omega)) (vp (by omega) ?_));simp only[air,anR,Option.bind_some];refine vb (hT (m+1) (by omega)) ?_;refine vq (r:=(((m+2+2*r.length:Nat):Int),p++[⟨bP (T m),bP (T (m+1))⟩]++mkF T (m+2) r.length)) ?_ ?_
  ·simpa using this
  ·simp only[mkF,List.length_cons,List.append_assoc,List.singleton_append]
   congr 1
   omega
theorem OY(T:Nat→Str)(hT:IsMark T)(r:List gI)(m:Nat)(h:r.length≤1000000000000)(h2:m+2*r.length≤10000000000000):Ev (fun k=>ig.f k r (m:Int)) (((m+2*r.length:Nat):Int),mkF T m r.length):=by
 unfold ig.f;have:=WG T hT r [] m (by simpa using h) h2
 simpa using this
theorem WH(T:Nat→Str)(hT:IsMark T)(n:Nat):∀(p:List gI) (m:Nat),p.length+n≤1000000000000→m+2*n≤10000000000000→Ev (fun k=>dh.l0 k (p++mkF T m n) (m:Int) (p.length:Int)) (((m+2*n:Nat):Int)):=by
 induction n with
 |zero=>
  intro p m h h2;refine vc ?_;simp only[dh.l0,mkF,List.append_nil];exact vn (by omega) (vs _)
 |succ n ih=>
  intro p m h h2;have w1:wrap64 ((p.length:Int)+1)=(p.length:Int)+1∧wrap64 ((m:Int)+1)=((m+1:Nat):Int)∧wrap64 (((m+1:Nat):Int)+1)=((m+2:Nat):Int):=⟨b_ (by omega) (by omega),(b_ (by omega) (by omega)).trans (by omega),(b_ (by omega) (by omega)).trans (by omega)⟩
  have:=ih (p++[⟨bP (T m),bP (T (m+1))⟩]) (m+2) (by simp;omega) (by omega);rw[jF]at this;refine vc ?_;simp only[dh.l0,w1.1,w1.2.1,w1.2.2,mkF,air];clear w1;refine vp (by simp[afX];omega) (vp (by omega) (vb (hT m (by omega)) (vp rfl (vb (hT (m+1) (by omega)) (vp rfl ?_)))));refine vq ?_ (show(((m+2+2*n:Nat):Int))=((m+2*(n+1):Nat):Int) by omega)
  simpa using this
theorem OZ(T:Nat→Str)(hT:IsMark T)(n m:Nat)(h:n≤1000000000000)(h2:m+2*n≤10000000000000):Ev (fun k=>dh.f k (mkF T m n) (m:Int)) (((m+2*n:Nat):Int)):=by
 unfold dh.f;have:=WH T hT n [] m (by simpa using h) h2
 simpa using this
def sp(b:Str):List Str→Option (List (List Str)×List Str)→Option (List (List Str))
 |[],_=>none
 |l:: r,none=>if l=dash b then sp b r (some ([],[]))else sp b r none
 |l:: r,some (q,c)=>if l=dash b then sp b r (some (q++[c],[]))else if l=fin2 b then some (q++[c])else sp b r (some (q,c++[l]))
def spR(b:Str)(ls:List Str):Option (List (List Str)):=if He b=true then sp b ls none else none
def Lh(o:Option (List (List Str))):List (List ByteArray)×Bool:=match o with
 |none=>([],false)
 |some l=>(l.map (List.map bP),true)
def afY(b:Str)(s:Option (List (List Str)×List Str))(l:Str):(List (List ByteArray)×Bool) ⊕ Option (List (List Str)×List Str):=match s with
 |none=>if l=dash b then .inr (some ([],[]))else .inr none
 |some (q,c)=>if l=dash b then .inr (some (q++[c],[]))else if l=fin2 b then .inl (Lh (some (q++[c])))else .inr (some (q,c++[l]))
theorem anS(b:Str)(r:List Str):∀s,run (afY b) (fun _=>Lh none) r s=Lh (sp b r s):=by
 induction r with
 |nil=>intro s;rfl
 |cons l r ih=>
  intro s;unfold run
  cases s with
  |none=>
   simp only[afY,sp];by_cases h:l=dash b
   ·simp only[if_pos h,ih]
   ·simp only[if_neg h,ih]
  |some s=>
   obtain⟨q,c⟩:=s;simp only[afY,sp];by_cases h:l=dash b
   ·simp only[if_pos h,ih]
   ·by_cases h2:l=fin2 b
    ·simp only[if_neg h,if_pos h2]
    ·simp only[if_neg h,if_neg h2,ih]
def BN:Option (List (List Str)×List Str)→Nat
 |none=>0
 |some (q,c)=>q.length+1+c.length
theorem ais(b:Str)(r:List Str):∀(s:Option (List (List Str)×List Str)) (o:List (List Str)),sp b r s=some o→tl o+1≤r.length+(match s with
  |none=>0
  |some (q,c)=>tl q+1+c.length)∧o≠[]:=by
 induction r with
 |nil=>intro s o h;cases h
 |cons l r ih=>
  intro s o h;simp only[List.length_cons]
  cases s with
  |none=>
   simp only[sp]at h⊢;by_cases h1:l=dash b
   ·rw[if_pos h1]at h;obtain⟨h2,h3⟩:=ih _ _ h;simp only[tl,List.length_nil]at h2;exact⟨by omega,h3⟩
   ·rw[if_neg h1]at h;obtain⟨h2,h3⟩:=ih _ _ h;simp only at h2;exact⟨by omega,h3⟩
  |some s=>
   obtain⟨q,c⟩:=s;simp only[sp]at h⊢;by_cases h1:l=dash b
   ·rw[if_pos h1]at h;obtain⟨h2,h3⟩:=ih _ _ h;simp only[CQ,tl,List.length_nil]at h2;exact⟨by omega,h3⟩
   ·rw[if_neg h1]at h;by_cases h4:l=fin2 b
    ·rw[if_pos h4]at h;cases h;simp only[CQ,tl];exact⟨by omega,by simp⟩
    ·rw[if_neg h4]at h;obtain⟨h2,h3⟩:=ih _ _ h;simp only[List.length_append,List.length_cons,List.length_nil]at h2;exact⟨by omega,h3⟩
theorem anT(b:Str)(r:List Str):∀(s:Option (List (List Str)×List Str)) (o:List (List Str)),sp b r s=some o→(∀q c,s=some (q,c)→(q.any (fun x=>dv x b)=false∧dv c b=false))→o.any (fun x=>dv x b)=false:=by
 induction r with
 |nil=>intro s o h;cases h
 |cons l r ih=>
  intro s o h hs;have hnil:dv [] b=false:=by unfold dv;simp
  cases s with
  |none=>
   simp only[sp]at h;by_cases h1:l=dash b
   ·rw[if_pos h1]at h;exact ih _ _ h (fun q c e=>by cases e;exact⟨rfl,hnil⟩)
   ·rw[if_neg h1]at h;exact ih _ _ h (fun q c e=>by cases e)
  |some s=>
   obtain⟨q,c⟩:=s;obtain⟨hq,hc⟩:=hs q c rfl;simp only[sp]at h;have hqc:(q++[c]).any (fun x=>dv x b)=false:=by rw[List.any_append,hq];simp[hc]
   by_cases h1:l=dash b
   ·rw[if_pos h1]at h;exact ih _ _ h (fun q' c' e=>by cases e;exact⟨hqc,hnil⟩)
   ·rw[if_neg h1]at h;by_cases h4:l=fin2 b
    ·rw[if_pos h4]at h;cases h;exact hqc
    ·rw[if_neg h4]at h
     refine ih _ _ h (fun q' c' e=>by
      cases e;refine⟨hq,?_⟩;rw[anM]at hc⊢;rw[List.any_append,hc];simp[lk,h1,h4])
theorem YS{b:Str}{ls:List Str}{ps:List (List Str)}(h:spR b ls=some ps):He b=true∧sp b ls none=some ps∧tl ps+1≤ls.length∧ps≠[]∧ps.any (fun c=>dv c b)=false:=by
 unfold spR at h;split at h
 ·rename_i h1
  obtain⟨h2,h3⟩:=ais b ls none ps h;exact⟨h1,h,by simpa using h2,h3,anT b ls none ps h (fun q c e=>by cases e)⟩
 ·cases h
def anU:Option (List (List Str)×List Str)→List (List Str)
 |none=>[]
 |some (q,c)=>q++[c]
theorem ajr(q:List (List Str))(c:List Str):kM ((q++[c]).map (List.map bP)) (q.length:Int)=c.map bP:=Gt (p:=q) (r:=[]) rfl
theorem Qo(ls:List Str)(b:Str)(hb:b.length≤1000000000000)(hn:ls.length≤1000000000000):Ev (fun k=>iq.f k (ls.map bP) (bP b)) (Lh (spR b ls)):=by
 have hd:=JJ b;unfold iq.f spR;refine vb (zG b (by omega)) ?_
 cases e1:He b with
 |false=>exact vn (by simp) (vs _)
 |true=>
  refine vp rfl ?_;rw[if_pos rfl,←anS,List.length_map];refine nN (xs:=ls) (F:=fun k (s:Option (List (List Str)×List Str)) i=>iq.l0 k (bP b) ((anU s).map (List.map bP)) (ls.map bP) (ls.length:Int) i) (s:=none) (fun p s=>BN s≤p.length) (by simp[BN]) ?_ ?_
  ·intro p l r s h hs;have hz:=iC h;have e1:=nX h;have w1:wrap64 ((p.length:Int)+1)=(p.length:Int)+1:=b_ (by omega) (by omega);simp only[iq.l0,e1,w1,List.length_map,jL,wB,C9,aZ];clear w1 e1
   cases s with
   |none=>
    simp only[afY,anU,List.length_nil];by_cases h1:l=dash b
    ·simp only[if_pos h1];refine⟨(fun v hv=>by cases hv),fun s' hs'=>⟨?_,fun v hv=>?_⟩⟩
     ·cases hs';simp[BN]
     ·cases hs';exact vp (by omega) (vp (by omega) (vp (by omega) (vp (by omega) (vp (by omega) hv))))
    ·simp only[if_neg h1];refine⟨(fun v hv=>by cases hv),fun s' hs'=>⟨?_,fun v hv=>?_⟩⟩
     ·cases hs';simp[BN]
     ·cases hs';exact vp (by omega) (vp (by omega) (vp (by omega) (vp (by omega) (vp (by simp) hv))))
   |some s=>
    obtain⟨q,c⟩:=s;simp only[BN]at hs;have w2:wrap64 (((q.length+1:Nat):Int)-1)=(q.length:Int):=(b_ (by omega) (by omega)).trans (by omega);have hl2:(q++[c]).length=q.length+1:=by simp
    simp only[afY,anU,hl2,w2,ajr,List.length_map];clear w2 hl2;by_cases h1:l=dash b
    ·simp only[if_pos h1];refine⟨(fun v hv=>by cases hv),fun s' hs'=>⟨?_,fun v hv=>?_⟩⟩
     ·cases hs';simp[BN];omega
     ·cases hs';refine vp (by omega) (vp (by omega) (vp (by omega) (vp (by omega) (vp (by omega) ?_))));have e5:(q++[c]).map (List.map bP)++[[]]=(q++[c]++[[]]).map (List.map bP):=by simp
      rw[e5];exact hv
    ·simp only[if_neg h1];by_cases h2:l=fin2 b
     ·simp only[if_pos h2];refine⟨(fun v hv=>?_),fun s' hs'=>by cases hs'⟩;cases hv;exact vp (by omega) (vp (by omega) (vp (by omega) (vp (by omega) (vn (by omega) (vp (by omega) (vs _))))))
     ·simp only[if_neg h2];refine⟨(fun v hv=>by cases hv),fun s' hs'=>⟨?_,fun v hv=>?_⟩⟩
      ·cases hs';simp[BN];omega
      ·cases hs';refine vp (by omega) (vp (by omega) (vp (by omega) (vp (by omega) (vn (by omega) (vp (by omega) (vp (by omega) (vp (by omega) (vp (by omega) ?_))))))))
       have e5:((q++[c]).map (List.map bP)).set (q.length:Int).toNat (c.map bP++[bP l])=(q++[c++[l]]).map (List.map bP):=by
        rw[Int.toNat_natCast];simp
       rw[e5];exact hv
  ·intro s hs;simp only[iq.l0];exact vn (by omega) (vs _)
theorem DJ(ps:List (List Str))(hn:tl ps≤1000000000000):Ev (fun k=>dU.f k (ps.map (List.map bP))) (ps.map (List.map bP)):=by
 have hl:=YB ps;unfold dU.f;rw[List.length_map];refine vq (nN (xs:=ps) (F:=fun k (o:List (List Str)) i=>dU.l0 k (o.map (List.map bP)) (ps.map (List.map bP)) (ps.length:Int) i) (st:=fun o c=> .inr (o++[c])) (fin:=fun o=>o.map (List.map bP)) (s:=[]) (fun p o=>o=p) rfl ?_ ?_) ?_
 ·intro p c r o h ho;subst ho;have hz:=iC h;have hc:c.length≤tl ps:=anA (by rw[h];simp);have e1:=Gt h;have w1:wrap64 ((o.length:Int)+1)=(o.length:Int)+1:=b_ (by omega) (by omega);simp only[dU.l0,e1,w1,List.length_map,Option.bind_some,List.length_nil,List.nil_append];clear w1 e1;refine⟨(fun v hv=>by cases hv),fun s' hs=>⟨?_,fun v hv=>?_⟩⟩
  ·cases hs;rfl
  ·cases hs;refine vp (by omega) (vp (by omega) (vp (by omega) (vp (by omega) (vp (by omega) ?_))));have e5:o.map (List.map bP)++[c.map bP]=(o++[c]).map (List.map bP):=by simp
   rw[e5];exact hv
 ·intro s hs;simp only[dU.l0];exact vn (by omega) (vs _)
 ·have key:∀(r o:List (List Str)),run (fun o c=> .inr (o++[c])) (fun o:List (List Str)=>o.map (List.map bP)) r o=(o++r).map (List.map bP):=by
   intro r
   induction r with
   |nil=>intro o;simp[run]
   |cons c r ih=>intro o;unfold run;simp only;rw[ih];simp
  exact key ps []
def Jj:Option (List (List Str)×List Str)→Bool
 |none=>false
 |some _=>true
def spQ:Option (List (List Str)×List Str)→List (List Str)
 |none=>[]
 |some (q,_)=>q
def spC:Option (List (List Str)×List Str)→List Str
 |none=>[]
 |some (_,c)=>c
theorem adS(ls:List Str)(b:Str)(hb:b.length≤1000000000000)(hn:ls.length≤1000000000000):Ev (fun k=>aU.f k (ls.map bP) (bP b)) (Lh (spR b ls)):=by
 have hd:=JJ b
 have hbad:∀(s:Option (List (List Str)×List Str)) (i:Int),Ev (fun k=>aU.j1 k (ls.map bP) (bP b) ((spQ s).map (List.map bP)) ((spC s).map bP) (Jj s) i false) (Lh none):=by
  intro s i;refine vc ?_;simp only[aU.j1];exact vn (by simp) (vs _)
 unfold aU.f spR
 cases e1:He b with
 |false=>
  rw[if_neg (by simp)];refine vc ?_;simp only[aU.l0,List.length_map];by_cases hl:(0:Int)<(ls.length:Int)
  ·have:=vV b (by omega);rw[e1]at this;exact vp hl (vb this (hbad none 0))
  ·exact vn hl (hbad none 0)
 |true=>
  rw[if_pos rfl,←anS];have hbd:=vV b (by omega);rw[e1]at hbd;refine nN (xs:=ls) (F:=fun k (s:Option (List (List Str)×List Str)) i=>aU.l0 k (ls.map bP) (bP b) ((spQ s).map (List.map bP)) ((spC s).map bP) (Jj s) i) (s:=none) (fun p s=>BN s≤p.length) (by simp[BN]) ?_ ?_
  ·intro p l r s h hs;have hz:=iC h;have e1:=nX h;have w1:wrap64 ((p.length:Int)+1)=(p.length:Int)+1:=b_ (by omega) (by omega);simp only[aU.l0,List.length_map];have hgo:∀v,Ev (fun k=>aU.j1 k (ls.map bP) (bP b) ((spQ s).map (List.map bP)) ((spC s).map bP) (Jj s) (p.length:Int) true) v→Ev (fun k=>if(p.length:Int)<(ls.length:Int)then((dB.f k (bP b)).bind fun t182=>aU.j1 k (ls.map bP) (bP b) ((spQ s).map (List.map bP)) ((spC s).map bP) (Jj s) (p.length:Int) t182)else aU.j1 k (ls.map bP) (bP b) ((spQ s).map (List.map bP)) ((spC s).map bP) (Jj s) (p.length:Int) false) v:=fun v hv=>vp (by omega) (vb hbd hv)
   cases s with
   |none=>
    simp only[afY];refine⟨(fun v hv=>by split at hv<;>cases hv),fun s' hs'=>?_⟩;by_cases h1:l=dash b
    ·rw[if_pos h1]at hs';cases hs';refine⟨by simp[BN],fun v hv=>hgo v (vc ?_)⟩;simp only[aU.j1,e1,w1,List.length_map,jL,wB,C9,aZ,if_pos h1,Jj];clear w1 e1;exact vp trivial (vp (by omega) (vp (by omega) (vp (by omega) (vn (by simp) hv))))
    ·rw[if_neg h1]at hs';cases hs';refine⟨by simp[BN],fun v hv=>hgo v (vc ?_)⟩
     have hj2:Ev (fun k=>aU.j2 k (ls.map bP) (bP b) ((spQ none).map (List.map bP)) ((spC none).map bP) false (p.length:Int) false) v:=by
      refine vc ?_;simp only[aU.j2,w1];exact vn (by simp) (vn (by simp) hv)
     simp only[aU.j1,e1,w1,List.length_map,jL,wB,C9,aZ,if_neg h1,Jj];clear w1 e1;refine vp trivial (vp (by omega) (vp (by omega) (vp (by omega) (vp (by omega) ?_))));by_cases h2:l=fin2 b
     ·exact vp h2 hj2
     ·exact vn h2 hj2
   |some s=>
    obtain⟨q,c⟩:=s;simp only[BN]at hs;simp only[afY];by_cases h1:l=dash b
    ·simp only[if_pos h1];refine⟨(fun v hv=>by cases hv),fun s' hs'=>⟨?_,fun v hv=>hgo v (vc ?_)⟩⟩
     ·cases hs';simp[BN];omega
     ·cases hs';simp only[aU.j1,e1,w1,List.length_map,jL,wB,C9,aZ,if_pos h1,Jj,spQ,spC];clear w1 e1;refine vp trivial (vp (by omega) (vp (by omega) (vp (by omega) (vp trivial (vp (by omega) ?_)))));have e5:q.map (List.map bP)++[c.map bP]=(q++[c]).map (List.map bP):=by simp
      rw[e5];exact hv
    ·simp only[if_neg h1];by_cases h2:l=fin2 b
     ·simp only[if_pos h2];refine⟨(fun v hv=>?_),fun s' hs'=>by cases hs'⟩;cases hv;refine hgo _ (vc ?_);simp only[aU.j1,e1,List.length_map,jL,wB,C9,aZ,if_neg h1,if_pos h2,Jj,spQ,spC];clear w1 e1;refine vp trivial (vp (by omega) (vp (by omega) (vp (by omega) (vp (by omega) (vc ?_)))));simp only[aU.j2,List.length_map];refine vp trivial (vp (by omega) (vq (vs _) ?_));simp[Lh]
     ·simp only[if_neg h2];refine⟨(fun v hv=>by cases hv),fun s' hs'=>⟨?_,fun v hv=>hgo v (vc ?_)⟩⟩
      ·cases hs';simp[BN];omega
      ·cases hs';simp only[aU.j1,e1,List.length_map,jL,wB,C9,aZ,if_neg h1,if_neg h2,Jj,spQ,spC];refine vp trivial (vp (by omega) (vp (by omega) (vp (by omega) (vp (by omega) (vc ?_)))));simp only[aU.j2,e1,w1,List.length_map];clear w1 e1;refine vn (by simp) (vp trivial (vp (by omega) (vp (by omega) (vp (by omega) ?_))));have e5:c.map bP++[bP l]=(c++[l]).map bP:=by simp
       rw[e5];exact hv
  ·intro s hs;simp only[aU.l0,List.length_map];exact vn (by omega) (hbad s _)
theorem Qp(ls:List Str)(b:Str)(hb:b.length≤1000000000000)(hn:ls.length≤1000000000000):Ev (fun k=>qP.f k (ls.map bP) (bP b)) (Lh (spR b ls)):=by
 unfold qP.f;refine vb (adS ls b hb hn) ?_;unfold spR
 cases e1:He b with
 |false=>exact vb (DJ [] (by simp[tl])) (vs _)
 |true=>
  rw[if_pos rfl]
  cases e:sp b ls none with
  |none=>exact vb (DJ [] (by simp[tl])) (vs _)
  |some o=>
   have:=(ais b ls none o e).1;simp only at this;exact vb (DJ o (by omega)) (vs _)
theorem Jk(a b:Str):stringslite_HasPrefix.f (bP a) (bP b)=some (b.isPrefixOf a):=by
 unfold stringslite_HasPrefix.f;simp only[aZ,lX,jL];by_cases h:(a.length:Int)≥(b.length:Int)
 ·rw[if_pos h,if_pos (by omega),if_pos (by omega)]
  congr 1
  rw[Bool.eq_iff_iff,beq_iff_eq,List.isPrefixOf_iff_prefix,List.prefix_iff_eq_take];simp;exact eq_comm
 ·rw[if_neg h]
  congr 1
  rw[eq_comm,Bool.eq_false_iff,ne_eq,List.isPrefixOf_iff_prefix];intro hp;have:=hp.length_le;omega
theorem Du(a b:Str):strings_HasPrefix.f (bP a) (bP b)=some (b.isPrefixOf a):=by
 unfold strings_HasPrefix.f;rw[Jk];rfl
def sp1(l:Str):Bool:=decide (l.head? =some 32)
def gr:Str→List Str→List Str
 |c,[]=>[c]
 |c,l:: r=>if sp1 l=true then gr (c++l) r else c:: gr l r
def fld(l:Str):Option (Str×Str):=(wz 58 l).map fun x=>(x.1,trim x.2)
def KN:List Str→Option (List (Str×Str))
 |[]=>some []
 |l:: r=>match fld l with
  |none=>none
  |some f=>(KN r).map (f:: ·)
def rF(ls:List Str):Option (List (Str×Str)):=match ls with
 |[]=>some []
 |l:: r=>if sp1 l=true then none else(match KN (gr l r)with
  |none=>none
  |some fs=>if fvs fs=true then some fs else none)
def idx:List Str→Option (List Str×List Str)
 |[]=>none
 |l:: r=>if l=[]then some ([],r)else(idx r).map fun x=>(l:: x.1,x.2)
def Uf(g:List Str→Option Pt):List (List Str)→Option (List Pt)
 |[]=>some []
 |l:: r=>match g l with
  |none=>none
  |some p=>(Uf g r).map (p:: ·)
def LJ(m:Bool):Nat→List Str→Option Pt
 |0,_=>none
 |d+1,ls=>match idx ls with
  |none=>none
  |some (a,r)=>match rF a with
   |none=>none
   |some f=>if(bF f).2=true then(match spR (bF f).1 r with
    |none=>none
    |some qs=>if m=true∧4<qs.length then none else(Uf (LJ m d) qs).map fun k=> .mk f [] k)else some (.mk f r [])
def pV(o:Option Pt):Option Pt:=match o with
 |none=>none
 |some p=>if(lines 3 p).isSome=true then some p else none
def pR(ls:List Str):Option Pt:=pV (LJ true 3 ls)
theorem ait{g:List Str→Option Pt}:∀{qs:List (List Str)} {k:List Pt},Uf g qs=some k→k.length=qs.length∧∀p∈k,∃q∈qs,g q=some p
 |[],k,h=>by rw[Uf]at h;cases h;exact⟨rfl,fun _ h=>by cases h⟩
 |l:: r,k,h=>by
  rw[Uf]at h
  cases e:g l with
  |none=>rw[e]at h;cases h
  |some p=>
   rw[e]at h
   cases e2:Uf g r with
   |none=>rw[e2]at h;cases h
   |some k2=>
    rw[e2]at h;cases h;obtain⟨h1,h2⟩:=ait e2;refine⟨by simp[h1],fun q hq=>?_⟩;rcases List.mem_cons.mp hq with rfl|hq
    ·exact⟨l,by simp,e⟩
    ·obtain⟨x,hx,hy⟩:=h2 q hq;exact⟨x,by simp[hx],hy⟩
theorem ace{g g':List Str→Option Pt}:∀{qs:List (List Str)} {k:List Pt},Uf g qs=some k→(∀q p,g q=some p→p∈k→g' q=some p)→Uf g' qs=some k
 |[],k,h,_=>h
 |l:: r,k,h,hg=>by
  rw[Uf]at h⊢
  cases e:g l with
  |none=>rw[e]at h;cases h
  |some p=>
   rw[e]at h
   cases e2:Uf g r with
   |none=>rw[e2]at h;cases h
   |some k2=>
    rw[e2]at h;cases h;rw[hg l p e (by simp),ace e2 fun q p hq hp=>hg q p hq (by simp[hp])];rfl
theorem adT:∀(d:Nat) (ls:List Str) (p:Pt),LJ true d ls=some p→LJ false d ls=some p
 |0,ls,p,h=>by rw[LJ]at h;cases h
 |d+1,ls,p,h=>by
  rw[LJ]at h⊢
  cases e:idx ls with
  |none=>rw[e]at h;cases h
  |some x=>
   obtain⟨a,r⟩:=x;rw[e]at h;simp only at h⊢
   cases e2:rF a with
   |none=>rw[e2]at h;cases h
   |some f=>
    rw[e2]at h;simp only at h⊢;by_cases c:(bF f).2=true
    ·rw[if_pos c]at h⊢
     cases e3:spR (bF f).1 r with
     |none=>rw[e3]at h;cases h
     |some qs=>
      rw[e3]at h;simp only at h⊢;by_cases c2:True∧4<qs.length
      ·rw[if_pos (by simpa using c2)]at h;cases h
      ·rw[if_neg (by simpa using c2)]at h;rw[if_neg (by simp)]
       cases e4:Uf (LJ true d) qs with
       |none=>rw[e4]at h;cases h
       |some k=>rw[e4]at h;rw[ace e4 fun q p hq _=>adT d q p hq];exact h
    ·rw[if_neg c]at h⊢;exact h
theorem adU:∀(d:Nat) (ls:List Str) (p:Pt),LJ false d ls=some p→(lines d p).isSome=true→LJ true d ls=some p
 |0,ls,p,h,_=>by rw[LJ]at h;cases h
 |d+1,ls,p,h,hv=>by
  rw[LJ]at h⊢
  cases e:idx ls with
  |none=>rw[e]at h;cases h
  |some x=>
   obtain⟨a,r⟩:=x;rw[e]at h;simp only at h⊢
   cases e2:rF a with
   |none=>rw[e2]at h;cases h
   |some f=>
    rw[e2]at h;simp only at h⊢;by_cases c:(bF f).2=true
    ·rw[if_pos c]at h⊢
     cases e3:spR (bF f).1 r with
     |none=>rw[e3]at h;cases h
     |some qs=>
      rw[e3]at h;simp only at h⊢;rw[if_neg (by simp)]at h
      cases e4:Uf (LJ false d) qs with
      |none=>rw[e4]at h;cases h
      |some k=>
       rw[e4]at h;cases h;have hk:=afW hv;have hl:=(ait e4).1;rw[if_neg (by simp;omega),ace e4 fun q p hq hp=>adU d q p hq (hk.2 p hp)];rfl
    ·rw[if_neg c]at h⊢;exact h
theorem ar7(ls:List Str):pV (LJ false 3 ls)=pR ls:=by
 unfold pR
 cases e:LJ true 3 ls with
 |some p=>rw[adT 3 ls p e]
 |none=>
  cases e2:LJ false 3 ls with
  |none=>rfl
  |some p=>
   unfold pV;simp only;by_cases c:(lines 3 p).isSome=true
   ·rw[adU 3 ls p e2 c]at e;cases e
   ·rw[if_neg c]
theorem acf:∀(r:List Str) (c:Str),xO (gr c r)+(gr c r).length≤c.length+xO r+r.length+1
 |[],c=>by simp[gr,xO]
 |l:: r,c=>by
  rw[gr];split
  ·have:=acf r (c++l);rw[List.length_append]at this;rw[xO,List.length_cons];omega
  ·have:=acf r l;rw[xO,List.length_cons,xO,List.length_cons];omega
theorem aad:∀{ls:List Str} {fs:List (Str×Str)},KN ls=some fs→fs.length+II fs≤xO ls+ls.length
 |[],fs,h=>by rw[KN]at h;cases h;simp[II,xO]
 |l:: r,fs,h=>by
  rw[KN]at h
  cases e:fld l with
  |none=>rw[e]at h;cases h
  |some f=>
   rw[e]at h
   cases e2:KN r with
   |none=>rw[e2]at h;cases h
   |some g=>
    rw[e2]at h;cases h;have h1:=aad e2;unfold fld at e
    cases e3:wz 58 l with
    |none=>rw[e3]at e;cases e
    |some x=>
     rw[e3]at e;cases e;obtain⟨x,t⟩:=x;have h2:=TL e3;have h3:=BM t;rw[II,xO,List.length_cons,List.length_cons];simp only;omega
theorem acg{ls:List Str}{fs:List (Str×Str)}(h:rF ls=some fs):fs.length+II fs≤xO ls+ls.length∧fvs fs=true:=by
 unfold rF at h
 cases ls with
 |nil=>cases h;exact⟨by simp[II],rfl⟩
 |cons l r=>
  simp only at h;split at h
  ·cases h
  ·cases e:KN (gr l r)with
   |none=>rw[e]at h;cases h
   |some g=>
    rw[e]at h;simp only at h;by_cases c:fvs g=true
    ·rw[if_pos c]at h;cases h;have h1:=aad e;have h2:=acf r l;rw[xO,List.length_cons];exact⟨by omega,c⟩
    ·rw[if_neg c]at h;cases h
theorem idx_eq:∀{ls a r:List Str},idx ls=some (a,r)→ls=a++[]:: r∧∀x∈a,x≠[]
 |[],a,r,h=>by rw[idx]at h;cases h
 |l:: ls,a,r,h=>by
  rw[idx]at h;by_cases c:l=[]
  ·rw[if_pos c]at h;cases h;exact⟨by rw[c];rfl,fun _ h=>by cases h⟩
  ·rw[if_neg c]at h
   cases e:idx ls with
   |none=>rw[e]at h;cases h
   |some x=>
    obtain⟨y,z⟩:=x;rw[e]at h;cases h;obtain⟨h1,h2⟩:=idx_eq e;refine⟨by rw[h1];rfl,fun x hx=>?_⟩;rcases List.mem_cons.mp hx with rfl|hx
    ·exact c
    ·exact h2 x hx
def szq:List (List Str)→Nat
 |[]=>0
 |c:: r=>xO c+c.length+1+szq r
theorem YT(a b:List (List Str)):szq (a++b)=szq a+szq b:=by
 induction a with
 |nil=>simp[szq]
 |cons c a ih=>simp only[List.cons_append,szq,ih];omega
theorem afZ(b:Str)(r:List Str):∀(s:Option (List (List Str)×List Str)) (o:List (List Str)),sp b r s=some o→szq o≤xO r+r.length+(match s with
  |none=>0
  |some (q,c)=>szq q+xO c+c.length+1):=by
 induction r with
 |nil=>intro s o h;cases h
 |cons l r ih=>
  intro s o h;simp only[List.length_cons,xO]
  cases s with
  |none=>
   simp only[sp]at h⊢;by_cases h1:l=dash b
   ·rw[if_pos h1]at h;have h2:=ih _ _ h;simp only[szq,xO,List.length_nil]at h2;omega
   ·rw[if_neg h1]at h;have h2:=ih _ _ h;simp only at h2;omega
  |some s=>
   obtain⟨q,c⟩:=s;simp only[sp]at h⊢;by_cases h1:l=dash b
   ·rw[if_pos h1]at h;have h2:=ih _ _ h;simp only[YT,szq,xO,List.length_nil]at h2;omega
   ·rw[if_neg h1]at h;by_cases h4:l=fin2 b
    ·rw[if_pos h4]at h;cases h;simp only[YT,szq];omega
    ·rw[if_neg h4]at h;have h2:=ih _ _ h;simp only[Gs,xO,List.length_append,List.length_cons,List.length_nil]at h2;omega
theorem adV{g:List Str→Option Pt}(hg:∀q p,g q=some p→Oq p≤xO q+q.length):∀{qs:List (List Str)} {k:List Pt},Uf g qs=some k→k.length+Hg k≤szq qs
 |[],k,h=>by rw[Uf]at h;cases h;simp[Hg]
 |l:: r,k,h=>by
  rw[Uf]at h
  cases e:g l with
  |none=>rw[e]at h;cases h
  |some p=>
   rw[e]at h
   cases e2:Uf g r with
   |none=>rw[e2]at h;cases h
   |some k2=>
    rw[e2]at h;cases h;have h1:=adV hg e2;have h2:=hg l p e;rw[Hg,szq,List.length_cons];omega
theorem Ug(m:Bool):∀(d:Nat) (ls:List Str) (p:Pt),LJ m d ls=some p→Oq p≤xO ls+ls.length
 |0,ls,p,h=>by rw[LJ]at h;cases h
 |d+1,ls,p,h=>by
  rw[LJ]at h
  cases e:idx ls with
  |none=>rw[e]at h;cases h
  |some x=>
   obtain⟨a,r⟩:=x;rw[e]at h;have hi:=(idx_eq e).1;simp only at h
   cases e2:rF a with
   |none=>rw[e2]at h;cases h
   |some f=>
    rw[e2]at h;have hf:=(acg e2).1;have hz:xO ls+ls.length=xO a+a.length+1+xO r+r.length:=by rw[hi,Gs,xO,List.length_append,List.length_cons];simp;omega
    simp only at h;by_cases c:(bF f).2=true
    ·rw[if_pos c]at h
     cases e3:spR (bF f).1 r with
     |none=>rw[e3]at h;cases h
     |some qs=>
      rw[e3]at h;simp only at h;have hs:=afZ _ _ _ _ (YS e3).2.1;simp only at hs;split at h
      ·cases h
      ·cases e4:Uf (LJ m d) qs with
       |none=>rw[e4]at h;cases h
       |some k=>
        rw[e4]at h;cases h;have hk:=adV (fun q p hq=>Ug m d q p hq) e4;rw[Oq,hz];simp only[xO,List.length_nil];omega
    ·rw[if_neg c]at h;cases h;rw[Oq,hz];simp only[Hg,List.length_nil];omega
def cB:Nat→Nat
 |0=>0
 |d+1=>4*cB d+501
def WI(o:Option (List (Str×Str))):List gI×Bool:=match o with
 |none=>([],false)
 |some fs=>(fs.map vX,true)
def O1(o:Option (List (Str×Str)))(acc:List (Str×Str)):Option (List (Str×Str)):=match o with
 |none=>none
 |some fs=>if fvs (acc++fs)=true then some (acc++fs)else none
theorem anV{α:Type}(q:List α)(c x:α):(q++[c]).set q.length x=q++[x]:=by
 induction q with
 |nil=>rfl
 |cons a q ih=>rw[List.cons_append,List.length_cons,List.set_cons_succ,ih];rfl
theorem Uh(gs:List Str)(hs:∀x∈gs,x.length≤1048576)(hn:gs.length≤1048576):∀(r p:List Str) (acc:List (Str×Str)),gs=p++r→acc.length≤p.length→small acc→Ev (fun k=>dP.l1 k (acc.map vX) (gs.map bP) (gs.length:Int) (p.length:Int)) (WI (O1 (KN r) acc)):=by
 intro r
 induction r with
 |nil=>
  intro p acc h hl hsm;have hz:gs.length=p.length:=by rw[h,List.append_nil]
  refine vc ?_;simp only[dP.l1,KN,O1,List.append_nil];refine vn (by omega) (vb (D8 acc hsm (by omega)) ?_)
  cases fvs acc with
  |true=>exact vp rfl (vs _)
  |false=>exact vn (by simp) (vs _)
 |cons c r ih=>
  intro p acc h hl hsm;have hz:=iC h;have e1:=nX h;have hc:=hs c (by rw[h];simp);have aKG:=GH 58 c (by omega);have w1:wrap64 ((p.length:Int)+1)=(p.length:Int)+1:=b_ (by omega) (by omega);refine vc ?_;simp only[dP.l1,List.length_map,e1,w1];clear w1;refine vp (by omega) (vp (by omega) (vp (by omega) (kW aKG ?_)));rw[KN,fld]
  cases e2:wz 58 c with
  |none=>exact vn (by simp[LD]) (vs _)
  |some x=>
   obtain⟨a,t⟩:=x;have hlen:=TL e2;have ht:=T_ t (by omega);have htl:=BM t;refine vp rfl (kW ht (vp (by omega) ?_))
   have hv:=ih (p++[c]) (acc++[(a,trim t)]) (by rw[h];simp) (by simp only[List.length_append,List.length_singleton];omega) (by
    intro y hy;rcases List.mem_append.mp hy with hy|hy
    ·exact hsm y hy
    ·rw[List.mem_singleton]at hy;rw[hy];exact⟨by simp only;omega,by simp only;omega⟩)
   rw[jF,List.map_append]at hv;refine vq hv ?_;simp only[Option.map_some]
   cases e3:KN r with
   |none=>rfl
   |some fs=>
    unfold O1;simp only[Option.map_some,List.append_assoc,List.singleton_append]
theorem aiu(l:Str):([32]:Str).isPrefixOf l=sp1 l:=by
 unfold sp1
 cases l with
 |nil=>rfl
 |cons c r=>
  by_cases h:c=32
  ·subst h;rfl
  ·have h2:((32:UInt8)==c)=false:=by simpa using fun e=>h e.symm
   have h3:decide ((c:: r).head? =some (32:UInt8))=false:=by simpa using h
   rw[h3,List.isPrefixOf,h2];rfl
theorem ach(ls:List Str)(hs:xO ls+ls.length≤1048576):∀(r p done:List Str) (c:Str),ls=p++r→done.length+1≤p.length→c.length+xO r≤1048576→(∀x∈done,x.length≤1048576)→
  Ev (fun k=>dP.l0 k ((done++[c]).map bP) (ls.map bP) (ls.length:Int) (p.length:Int)) (WI (O1 (KN (done++gr c r)) [])):=by
 intro r
 induction r with
 |nil=>
  intro p done c h hd hc hm;have hz:ls.length=p.length:=by rw[h,List.append_nil]
  refine vc ?_;simp only[dP.l0,gr,List.length_map];refine vn (by omega) ?_
  exact Uh (done++[c]) (by
   intro x hx;rcases List.mem_append.mp hx with hx|hx
   ·exact hm x hx
   ·rw[List.mem_singleton]at hx;rw[hx];simp only[xO]at hc;omega) (by rw[List.length_append,List.length_singleton];omega) _ [] [] rfl (Nat.le_refl _) (fun _ h=>by cases h)
 |cons l r ih=>
  intro p done c h hd hc hm;have hz:=iC h;have e1:=nX h;rw[xO]at hc;have w1:wrap64 ((p.length:Int)+1)=(p.length:Int)+1:=b_ (by omega) (by omega);have hl2:(done++[c]).length=done.length+1:=by simp
  have w2:wrap64 (((done.length+1:Nat):Int)-1)=(done.length:Int):=(b_ (by omega) (by omega)).trans (by omega);have e2:f_ ByteArray.empty ((done++[c]).map bP) (done.length:Int)=bP c:=nX (p:=done) (r:=[]) rfl;have hp:=Du l [32];rw[aiu]at hp
  have e3:((done++[c]).map bP).set done.length (bP c++bP l)=(done++[c++l]).map bP:=by
   have:=anV (done.map bP) (bP c) (bP c++bP l);rw[List.length_map]at this;rw[List.map_append,List.map_singleton,this,List.map_append,List.map_singleton,oZ]
  refine vc ?_;simp only[dP.l0,List.length_map,e1,w1,hl2,w2,e2,Int.toNat_natCast,e3];clear w1 w2;refine vp (by omega) (vp (by omega) (vp (by omega) (kW hp ?_)));rw[gr];by_cases c1:sp1 l=true
  ·rw[if_pos c1];refine vp c1 (vn (by omega) (vp (by omega) (vp (by omega) (vp (by rw[aZ,aZ];omega) ?_))));have hv:=ih (p++[l]) done (c++l) (by rw[h];simp) (by rw[List.length_append];omega) (by rw[List.length_append];omega) hm;rw[jF]at hv;exact hv
  ·rw[if_neg c1];refine vn c1 (vp (by omega) ?_)
   have hv:=ih (p++[l]) (done++[c]) l (by rw[h];simp) (by rw[List.length_append,List.length_append];simp;omega) (by omega) (by
    intro x hx;rcases List.mem_append.mp hx with hx|hx
    ·exact hm x hx
    ·rw[List.mem_singleton]at hx;rw[hx];omega)
   rw[jF,List.map_append (l₂:=[l]),List.map_singleton,List.append_assoc,List.singleton_append]at hv;exact hv
theorem Qq(ls:List Str)(hs:xO ls+ls.length≤1048576):Ev (fun k=>dP.f k (ls.map bP)) (WI (rF ls)):=by
 unfold dP.f;rw[List.length_map]
 cases ls with
 |nil=>
  refine vc ?_;simp only[dP.l0];exact vn (by simp) (Uh [] (fun _ h=>by cases h) (by simp) [] [] [] rfl (Nat.le_refl _) (fun _ h=>by cases h))
 |cons l r=>
  have hp:=Du l [32];rw[aiu]at hp;rw[xO,List.length_cons]at hs;have e1:f_ ByteArray.empty ((l:: r).map bP) 0=bP l:=nX (p:=[]) (r:=r) rfl;have w1:wrap64 ((0:Int)+1)=((1:Nat):Int):=b_ (by omega) (by omega);have w2:wrap64 (((0:Nat):Int)-1)= -1:=b_ (by omega) (by omega);refine vc ?_;simp only[dP.l0,List.length_nil,e1,w1,w2];clear w1 w2;refine vp (by rw[List.length_cons];omega) (vp (by omega) (vp (by rw[List.length_map,List.length_cons];omega) (kW hp ?_)));unfold rF;simp only;by_cases c1:sp1 l=true
  ·rw[if_pos c1];exact vp c1 (vp (by omega) (vs _))
  ·rw[if_neg c1];refine vn c1 (vp (by simp) ?_);have hv:=ach (l:: r) (by rw[xO,List.length_cons];omega) r [l] [] l rfl (by simp) (by omega) (fun _ h=>by cases h);refine vq hv ?_;rw[List.nil_append]
   cases e:KN (gr l r)with
   |none=>rfl
   |some fs=>simp only[O1,List.nil_append]
def sg(acc:List (Str×Str)):List Str→Option (List (Str×Str))
 |[]=>some acc
 |g:: r=>match fld g with
  |none=>none
  |some f=>if fv f=true∧acc.length≠20 then sg (acc++[f]) r else none
theorem anW:∀(gs:List Str) (acc:List (Str×Str)),acc.all fv=true→acc.length≤20→sg acc gs=O1 (KN gs) acc
 |[],acc,h,hl=>by
  rw[sg,KN];simp only[O1,List.append_nil];rw[if_pos (by unfold fvs;rw[h,decide_eq_true hl];rfl)]
 |g:: r,acc,h,hl=>by
  rw[sg,KN]
  cases e:fld g with
  |none=>rfl
  |some f=>
   simp only;by_cases c:fv f=true∧acc.length≠20
   ·rw[if_pos c,anW r (acc++[f]) (by rw[List.all_append,h];simp[c.1]) (by rw[List.length_append,List.length_singleton];omega)]
    cases KN r with
    |none=>rfl
    |some fs=>simp only[O1,Option.map_some,List.append_assoc,List.singleton_append]
   ·rw[if_neg c]
    cases KN r with
    |none=>rfl
    |some fs=>
     simp only[O1,Option.map_some];rw[if_neg];intro hv;unfold fvs at hv;rw[Bool.and_eq_true,decide_eq_true_eq,List.length_append,List.length_cons,List.all_append,List.all_cons,Bool.and_eq_true,Bool.and_eq_true]at hv;exact c ⟨hv.2.2.1,by omega⟩
theorem aiv:∀(r:List Str) (c:Str),c≠[]→∃g q,gr c r=g:: q∧g.head? =c.head?
 |[],c,_=>⟨c,[],rfl,rfl⟩
 |l:: r,c,h=>by
  rw[gr];split
  ·obtain⟨g,q,e,h2⟩:=aiv r (c++l) (by simp[h]);refine⟨g,q,e,h2.trans ?_⟩
   cases c with
   |nil=>exact absurd rfl h
   |cons=>rfl
  ·exact⟨c,_,rfl,rfl⟩
theorem aDX{l:Str}(r:List Str)(h:sp1 l=true):sg [] (gr l r)=none:=by
 unfold sp1 at h;rw[decide_eq_true_eq]at h;obtain⟨g,q,e,h2⟩:=aiv r l (by intro e;rw[e]at h;cases h);rw[e,sg];rw[h]at h2
 cases g with
 |nil=>cases h2
 |cons c g=>
  have hc:c=32:=by simpa using h2
  subst hc;have hne:¬((32:UInt8)=58):=by decide
  unfold fld;rw[wz,if_neg hne]
  cases wz 58 g with
  |none=>rfl
  |some x=>
   simp only[Option.map_some];rw[if_neg];intro h3;have h4:=h3.1;unfold fv Nc at h4;simp only[Bool.and_eq_true]at h4;exact absurd h4.1.1.2 (by decide)
theorem WJ(g:Str)(hg:g.length≤1048576):∀(r p:Str),g=p++r→Ev (fun k=>gW.l0 k (bP g) (p.length:Int)) (match wz 58 r with
  |none=>((⟨#[]⟩:ByteArray),(⟨#[]⟩:ByteArray),false)
  |some x=>(bP (p++x.1),bP (trim x.2),fv (p++x.1,trim x.2))):=by
 intro r
 induction r with
 |nil=>
  intro p h;have hz:g.length=p.length:=by rw[h,List.append_nil]
  refine vc ?_;simp only[gW.l0,aZ,wz];exact vn (by omega) (vs _)
 |cons c r ih=>
  intro p h;have hz:=iC h;have e1:=kX h;have w1:wrap64 ((p.length:Int)+1)=((p.length+1:Nat):Int):=b_ (by omega) (by omega);refine vc ?_;simp only[gW.l0,aZ,e1,w1,Int.toNat_natCast];clear w1;refine vp (by omega) (vp (by omega) ?_);rw[wz];by_cases hc:c=58
  ·rw[if_pos hc]
   have ex1:(bP g).extract (p.length+1) g.length=bP r:=by
    rw[lX,hz,h,show p.length+1=(p++[c]).length by simp,show p++c:: r=(p++[c])++r by simp,List.drop_left]
    congr 1
    rw[List.take_of_length_le];simp
   have ex2:(bP g).extract 0 p.length=bP p:=by
    rw[lX,h]
    congr 1
    simp
   simp only[ex1,ex2];have htl:=BM r;refine vp (by rw[hc];rfl) (vp (by omega) (vp (by omega) (vp (by omega) (vb (sF r (by omega)) (vb (zH (p,trim r) (by simp only;omega) (by simp only;omega)) ?_)))));rw[List.append_nil];exact vs _
  ·rw[if_neg hc];have hv:=ih (p++[c]) (by rw[h];simp);rw[List.length_append,List.length_singleton]at hv;refine vn (by intro e;apply hc;exact(yK c 58 (by decide)).mp e) (vq hv ?_)
   cases wz 58 r with
   |none=>rfl
   |some x=>simp only[Option.map_some,List.append_assoc,List.singleton_append]
theorem Zm(g:Str)(hg:g.length≤1048576):Ev (fun k=>gW.f k (bP g)) (match fld g with
  |none=>((⟨#[]⟩:ByteArray),(⟨#[]⟩:ByteArray),false)
  |some f=>(bP f.1,bP f.2,fv f)):=by
 unfold gW.f;refine vq (WJ g hg g [] rfl) ?_;unfold fld
 cases wz 58 g with
 |none=>rfl
 |some x=>rfl
theorem aae(ls:List Str)(acc:List (Str×Str))(c:Str)(rest:List Str)(i:Int)(hc:c.length≤1048576)(ha:acc.length≤20)(h:∀f,fv f=true→acc.length≠20→Ev (fun k=>dW.l0 k (ls.map bP) ((acc++[f]).map vX) i) (WI (sg (acc++[f]) rest))):
  Ev (fun k=>(gW.f k (bP c)).bind fun bt=>(if bt.2.2=true then(if(((acc.map vX).length:Nat):Int)=20 then(some ((([]:List (gI))),false))else(if(acc.map vX).length<4398046511104 then(dW.l0 k (ls.map bP) ((acc.map vX)++[(⟨bt.1,bt.2.1⟩:gI)]) i)else(none)))else(some ((([]:List (gI))),false)))) (WI (sg acc (c:: rest))):=by
 refine vb (Zm c hc) ?_;rw[sg]
 cases e:fld c with
 |none=>exact vn (by simp) (vs _)
 |some f=>
  simp only[List.length_map];by_cases h1:fv f=true
  ·refine vp h1 ?_;by_cases h2:acc.length=20
   ·rw[if_neg (by simp[h2])];exact vp (by omega) (vs _)
   ·rw[if_pos ⟨h1,h2⟩];refine vn (by omega) (vp (by omega) ?_);have hv:=h f h1 h2;rw[List.map_append,List.map_singleton]at hv;exact hv
  ·rw[if_neg (by simp[h1])];exact vn h1 (vs _)
theorem aci(ls:List Str)(hs:xO ls+ls.length≤1048576):∀(r p:List Str) (c:Str) (acc:List (Str×Str)),ls=p++r→c.length+xO r≤1048576→acc.length≤20→Ev (fun k=>dW.l1 k (ls.map bP) (acc.map vX) (p.length:Int) (bP c)) (WI (sg acc (gr c r))):=by
 intro r
 induction r with
 |nil=>
  intro p c acc h hc ha;have hz:ls.length=p.length:=by rw[h,List.append_nil]
  simp only[xO]at hc;refine vc ?_;simp only[dW.l1,gr];refine vn (by rw[List.length_map];omega) (aae ls acc c [] _ (by omega) ha fun f _ _=>?_);refine vc ?_;simp only[dW.l0,sg];exact vn (by rw[List.length_map];omega) (vs _)
 |cons l r ih=>
  intro p c acc h hc ha;have hz:=iC h;have e1:=nX h;rw[xO]at hc;have w1:wrap64 ((p.length:Int)+1)=(p.length:Int)+1:=b_ (by omega) (by omega)
  have push:=aae ls acc c (gr l r) (p.length:Int) (by omega) ha fun f _ h20=>(by
   refine vc ?_;have hv:=ih (p++[l]) l (acc++[f]) (by rw[h];simp) (by omega) (by rw[List.length_append,List.length_singleton];omega);rw[jF]at hv;simp only[dW.l0,e1,w1];exact vp (by rw[List.length_map];omega) (vp (by omega) hv))
  refine vc ?_;simp only[dW.l1,e1,w1,aZ,oZ];clear w1;refine vp (by rw[List.length_map];omega) (vp (by omega) ?_);rw[gr]
  cases l with
  |nil=>
   rw[if_neg (by decide)];exact vn (by simp) push
  |cons b l=>
   refine vp (by simp) (vp (by simp) ?_);have eb:bt (bP (b:: l)) 0=(b.toNat:Int):=kX (p:=[]) (r:=l) rfl;rw[eb];by_cases hb:b=32
   ·rw[if_pos (by rw[hb];rfl)];have hv:=ih (p++[b:: l]) (c++b:: l) acc (by rw[h];simp) (by rw[List.length_append];omega) ha;rw[jF]at hv;refine vp (by rw[hb];rfl) (vp ?_ hv);rw[List.length_cons]at hc⊢;omega
   ·rw[if_neg (by unfold sp1;simpa using hb)];exact vn (by intro e;exact hb ((yK b 32 (by decide)).mp e)) push
theorem zK(ls:List Str)(hs:xO ls+ls.length≤1048576):Ev (fun k=>dW.f k (ls.map bP)) (WI (rF ls)):=by
 unfold dW.f;refine vc ?_
 cases ls with
 |nil=>
  simp only[dW.l0];exact vn (by simp) (vs _)
 |cons l r=>
  have hs':=hs;rw[xO,List.length_cons]at hs;have e1:f_ ByteArray.empty ((l:: r).map bP) 0=bP l:=nX (p:=[]) (r:=r) rfl;have w1:wrap64 ((0:Int)+1)=((1:Nat):Int):=b_ (by omega) (by omega);simp only[dW.l0,e1,w1];clear w1;refine vp (by rw[List.length_map,List.length_cons];omega) (vp (by omega) ?_);have hv:=aci (l:: r) hs' r [l] l [] rfl (by omega) (by simp);refine vq hv ?_;unfold rF;simp only;by_cases c1:sp1 l=true
  ·rw[if_pos c1,aDX r c1]
  ·rw[if_neg c1,anW _ [] rfl (by simp)]
   cases KN (gr l r)with
   |none=>rfl
   |some fs=>simp only[O1,List.nil_append]
def GN(o:Option Pt):List gI×List ByteArray×List ku×Bool:=match o with
 |none=>([],[],[],false)
 |some p=>((e32 p).f0,(e32 p).f1,(e32 p).f2,true)
theorem Xo(f:List (Str×Str))(b:List Str)(k:List Pt):GN (some (.mk f b k))=(f.map vX,b.map bP,k.map e32,true):=by
 unfold GN;simp only[Ji]
def aaf(f:List (Str×Str))(kk:List Pt)(o:Option (List Pt)):List gI×List ByteArray×List ku×Bool:=match o with
 |none=>([],[],[],false)
 |some k=>(f.map vX,[],(kk++k).map e32,true)
theorem anX{f:List (Str×Str)}{n:Nat}(h:II f≤n)(hn:n≤1048576):small f:=by
 intro x hx;have:=aib hx;exact⟨by omega,by omega⟩
theorem aiw{qs:List (List Str)}{q:List Str}(h:q∈qs):xO q+q.length+1≤szq qs:=by
 induction qs with
 |nil=>cases h
 |cons a r ih=>
  rw[szq];rcases List.mem_cons.mp h with rfl|h
  ·omega
  ·have:=ih h;omega
theorem aix(qs:List (List Str)):qs.length≤szq qs:=by
 induction qs with
 |nil=>simp
 |cons a r ih=>rw[szq,List.length_cons];omega
theorem aag(ls:List Str)(hn:ls.length≤1000000000000000):Ev (fun k=>bI.f k (ls.map bP) (⟨#[]⟩:ByteArray)) (match idx ls with
  |none=>(-1:Int)
  |some x=>(x.1.length:Int)):=by
 unfold bI.f;rw[List.length_map]
 have key:∀(r p:List Str),ls=p++r→Ev (fun k=>bI.l0 k (ls.map bP) (⟨#[]⟩:ByteArray) (ls.length:Int) (p.length:Int)) (match idx r with
  |none=>(-1:Int)
  |some x=>((p.length+x.1.length:Nat):Int)):=by
  intro r
  induction r with
  |nil=>
   intro p h;have hz:ls.length=p.length:=by rw[h,List.append_nil]
   refine vc ?_;simp only[bI.l0,idx];exact vn (by omega) (vs _)
  |cons l r ih=>
   intro p h;have hz:=iC h;have e1:=nX h;have w1:wrap64 ((p.length:Int)+1)=(p.length:Int)+1:=b_ (by omega) (by omega);have e2:(⟨#[]⟩:ByteArray).toList=([]:Str):=jL [];refine vc ?_;simp only[bI.l0,e1,w1,List.length_map,jL,e2];clear w1;rw[idx];refine vp (by omega) (vp (by omega) (vp (by omega) ?_));by_cases c:l=[]
   ·rw[if_pos c];exact vp c.symm (vq (vs _) (by simp))
   ·rw[if_neg c];have hv:=ih (p++[l]) (by rw[h];simp);rw[jF]at hv;refine vn (fun e=>c e.symm) (vq hv ?_)
    cases idx r with
    |none=>rfl
    |some x=>simp only[Option.map_some,List.length_append,List.length_cons,List.length_nil];omega
 refine vq (key ls [] rfl) ?_
 cases idx ls with
 |none=>rfl
 |some x=>simp
theorem Ui:∀(d:Nat),d≤3→∀(ls:List Str),xO ls+ls.length≤1048576→Ev (fun k=>dw.f k (ls.map bP) (d:Int)) (GN (LJ false d ls)):=by
 intro d
 induction d with
 |zero=>
  intro _ ls hs;refine vc ?_;simp only[dw.f];refine vb (aag ls (by omega)) ?_;rw[LJ]
  have key:Ev (fun k=>dw.j0 k (ls.map bP) ((0:Nat):Int) (match idx ls with
   |none=>(-1:Int)
   |some x=>(x.1.length:Int)) true) (GN none):=by
   refine vc ?_;simp only[dw.j0];exact vp trivial (vs _)
  cases e:idx ls with
  |none=>rw[e]at key;exact vp (by simp) key
  |some x=>rw[e]at key;exact vn (by simp) key
 |succ d ih=>
  intro hd ls hs;refine vc ?_;simp only[dw.f];refine vb (aag ls (by omega)) ?_;rw[LJ]
  cases e:idx ls with
  |none=>
   refine vp (by simp) (vc ?_);simp only[dw.j0];exact vp trivial (vs _)
  |some x=>
   obtain⟨a,r⟩:=x;have hi:=(idx_eq e).1;have hz:xO ls+ls.length=xO a+a.length+1+xO r+r.length:=by rw[hi,Gs,xO,List.length_append,List.length_cons];simp;omega
   have hlen:ls.length=a.length+1+r.length:=by rw[hi,List.length_append,List.length_cons];omega
   have et:(ls.map bP).take a.length=a.map bP:=by rw[←List.map_take,hi,List.take_left]
   have ed:(ls.map bP).drop (a.length+1)=r.map bP:=by
    rw[←List.map_drop,hi,show a.length+1=(a++[[]]).length by simp,show a++[]:: r=(a++[[]])++r by simp,List.drop_left]
   have hb0:(((d+1:Nat):Int)==0)=false:=by
    rw[beq_eq_false_iff_ne];omega
   have w1:wrap64 ((a.length:Int)+1)=((a.length+1:Nat):Int):=b_ (by omega) (by omega);refine vn (by simp) ?_;simp only[hb0];refine vc ?_;simp only[dw.j0,w1,Int.toNat_natCast,et,ed,List.length_map];clear w1;refine vn (by simp) (vp (by omega) (vp (by omega) (vb (Qq a (by omega)) ?_)))
   cases e2:rF a with
   |none=>exact vn (by simp[WI]) (vs _)
   |some f=>
    have hf:=(acg e2).1;refine vp rfl (vp (by omega) (vp (by omega) (vb (BZ f (anX (n:=1048576) (by omega) (by omega)) (by omega) [] []) ?_)));simp only;by_cases c:(bF f).2=true
    ·rw[if_pos c];refine vp c ?_;have hbl:=Nb (Uc c);refine vb (Qo r (bF f).1 (by omega) (by omega)) ?_
     cases e3:spR (bF f).1 r with
     |none=>exact vn (by simp[Lh]) (vs _)
     |some qs=>
      have hq:=afZ _ _ _ _ (YS e3).2.1;simp only at hq;refine vp rfl ?_;simp only[Lh,List.length_map];rw[if_neg (by simp)]
      have key:∀(r2 p:List (List Str)) (kk:List Pt),qs=p++r2→kk.length≤p.length→Ev (fun k=>dw.l0 k ((d+1:Nat):Int) (qs.map (List.map bP)) (qs.length:Int) (p.length:Int) (f.map vX) (kk.map e32)) (aaf f kk (Uf (LJ false d) r2)):=by
       have hql:=aix qs;intro r2
       induction r2 with
       |nil=>
        intro p kk h hk;have hz:qs.length=p.length:=by rw[h,List.append_nil]
        refine vc ?_;simp only[dw.l0,Uf,aaf,List.append_nil];exact vn (by omega) (vs _)
       |cons q r2 ih2=>
        intro p kk h hk;have hz:=iC h;have e1:=Gt h;have hm:=aiw (qs:=qs) (q:=q) (by rw[h];simp);have hc:=ih (by omega) q (by omega);have w1:wrap64 ((p.length:Int)+1)=(p.length:Int)+1:=b_ (by omega) (by omega);have w2:wrap64 (((d+1:Nat):Int)-1)=(d:Int):=(b_ (by omega) (by omega)).trans (by omega);refine vc ?_;simp only[dw.l0,e1,w1,w2,List.length_map];clear w1 w2;refine vp (by omega) (vp (by omega) (vp (by omega) (vb hc ?_)));rw[Uf]
        cases e4:LJ false d q with
        |none=>exact vn (by simp[GN]) (vs _)
        |some pt=>
         have hv:=ih2 (p++[q]) (kk++[pt]) (by rw[h];simp) (by simp only[List.length_append,List.length_singleton];omega);rw[jF,List.map_append,List.map_singleton]at hv;simp only[GN,anQ];refine vp trivial (vp (by omega) (vq hv ?_))
         cases Uf (LJ false d) r2 with
         |none=>rfl
         |some k2=>simp only[aaf,Option.map_some,List.append_assoc,List.singleton_append]
      refine vq (key qs [] [] rfl (Nat.le_refl _)) ?_
      cases Uf (LJ false d) qs with
      |none=>rfl
      |some k2=>rw[Option.map_some,Xo];rfl
    ·rw[if_neg c,Xo];refine vn c (kW (a:=r.map bP) ?_ (vs _));unfold kP.f;rw[if_pos (by rw[List.length_map];omega)]
theorem WL:∀(d:Nat),d≤3→∀(ls:List Str),xO ls+ls.length≤1048576→Ev (fun k=>bg.f k (ls.map bP) (d:Int)) (GN (LJ true d ls)):=by
 intro d
 induction d with
 |zero=>
  intro _ ls hs;refine vc ?_;simp only[bg.f];rw[LJ]
  have aDY:∀(n:Nat) (a:List Str),a.length=n→n≤ls.length→ls.take n=a→xO a+a.length≤1048576→Ev (fun k=>bg.j1 k (ls.map bP) ((0:Nat):Int) (n:Int)) (GN none):=by
   intro n a h1 h2 h3 h4;have et:(ls.map bP).take n=a.map bP:=by rw[←List.map_take,h3]
   have j2:∀(x7:List gI),Ev (fun k=>bg.j2 k (ls.map bP) ((0:Nat):Int) (n:Int) x7 true) (GN none):=by
    intro x7;refine vc ?_;simp only[bg.j2];exact vp trivial (vs _)
   refine vc ?_;simp only[bg.j1,Int.toNat_natCast,et,List.length_map];refine vp (by omega) (vp (by omega) (vb (zK a h4) ?_));have hd:decide (((0:Nat):Int)<1)=true:=decide_eq_true (by omega);simp only[hd];by_cases c:(WI (rF a)).2=true
   ·refine vp c ?_;by_cases c2:(n:Int)=(ls.length:Int)
    ·exact vp c2 (j2 _)
    ·exact vn c2 (j2 _)
   ·exact vn c (j2 _)
  have key:∀(r p:List Str),ls=p++r→Ev (fun k=>bg.l0 k (ls.map bP) ((0:Nat):Int) (p.length:Int)) (GN none):=by
   intro r
   induction r with
   |nil=>
    intro p h;have hz:ls.length=p.length:=by rw[h,List.append_nil]
    refine vc ?_;simp only[bg.l0];rw[List.append_nil]at h;subst h;exact vn (by rw[List.length_map];omega) (aDY _ _ rfl (Nat.le_refl _) (List.take_length) hs)
   |cons l r ih2=>
    intro p h;have hz:=iC h;have e1:=nX h;have w1:wrap64 ((p.length:Int)+1)=(p.length:Int)+1:=b_ (by omega) (by omega);refine vc ?_;simp only[bg.l0,e1,w1,jL];clear w1;refine vp (by rw[List.length_map];omega) (vp (by omega) ?_);by_cases c:l=[]
    ·refine vp c (aDY _ p rfl (by omega) (by rw[h,List.take_left]) ?_);have:xO ls=xO p+xO (l:: r):=by rw[h,Gs]
     omega
    ·have hv:=ih2 (p++[l]) (by rw[h];simp);rw[jF]at hv;exact vn c hv
  exact key ls [] rfl
 |succ d ih=>
  intro hd ls hs;refine vc ?_;simp only[bg.f]
  have anY:∀(n:Nat) (x7:List gI),Ev (fun k=>bg.j2 k (ls.map bP) ((d+1:Nat):Int) (n:Int) x7 true) (GN none):=by
   intro n x7;refine vc ?_;simp only[bg.j2];exact vp trivial (vs _)
  have aKH:Ev (fun k=>bg.j1 k (ls.map bP) ((d+1:Nat):Int) (ls.length:Int)) (GN none):=by
   refine vc ?_;have et:(ls.map bP).take ls.length=ls.map bP:=by rw[←List.map_take,List.take_length]
   simp only[bg.j1,Int.toNat_natCast,et,List.length_map];refine vp (by omega) (vp (by omega) (vb (zK ls hs) ?_));by_cases c:(WI (rF ls)).2=true
   ·exact vp c (vp trivial (anY _ _))
   ·exact vn c (anY _ _)
  have found:∀(a r:List Str),ls=a++[]:: r→Ev (fun k=>bg.j1 k (ls.map bP) ((d+1:Nat):Int) (a.length:Int)) (GN (match rF a with
   |none=>none
   |some f=>if(bF f).2=true then(match spR (bF f).1 r with
    |none=>none
    |some qs=>if true=true∧4<qs.length then none else(Uf (LJ true d) qs).map fun k=> .mk f [] k)else some (.mk f r []))):=by
   intro a r hi;have hz:xO ls+ls.length=xO a+a.length+1+xO r+r.length:=by rw[hi,Gs,xO,List.length_append,List.length_cons];simp;omega
   have hlen:ls.length=a.length+1+r.length:=by rw[hi,List.length_append,List.length_cons];omega
   have et:(ls.map bP).take a.length=a.map bP:=by rw[←List.map_take,hi,List.take_left]
   have ed:(ls.map bP).drop (a.length+1)=r.map bP:=by
    rw[←List.map_drop,hi,show a.length+1=(a++[[]]).length by simp,show a++[]:: r=(a++[[]])++r by simp,List.drop_left]
   have hb0:decide (((d+1:Nat):Int)<1)=false:=decide_eq_false (by omega);have w1:wrap64 ((a.length:Int)+1)=((a.length+1:Nat):Int):=b_ (by omega) (by omega);refine vc ?_;simp only[bg.j1,Int.toNat_natCast,et,List.length_map,hb0];refine vp (by omega) (vp (by omega) (vb (zK a (by omega)) ?_))
   cases e2:rF a with
   |none=>exact vn (by simp[WI]) (anY _ _)
   |some f=>
    have hf:=(acg e2).1;refine vp rfl (vn (by omega) (vc ?_));simp only[bg.j2,w1,Int.toNat_natCast,ed,List.length_map,WI];clear w1;refine vn (by simp) (vb (zJ f (anX (n:=1048576) (by omega) (by omega)) (by omega)) ?_);simp only;by_cases c:(bF f).2=true
    ·rw[if_pos c];have hbl:=Nb (Uc c);refine vp c (vp (by omega) (vp (by omega) (vb (Qp r (bF f).1 (by omega) (by omega)) ?_)))
     have j3t:∀(x12:List (List ByteArray)) (x:List gI),Ev (fun k=>bg.j3 k ((d+1:Nat):Int) x12 true x) (GN none):=by
      intro x12 x;refine vc ?_;simp only[bg.j3];exact vp trivial (vs _)
     cases e3:spR (bF f).1 r with
     |none=>exact vn (by simp[Lh]) (j3t _ _)
     |some qs=>
      have hq:=afZ _ _ _ _ (YS e3).2.1;simp only at hq;refine vp rfl ?_;simp only[Lh,List.length_map];by_cases c4:4<qs.length
      ·rw[if_pos ⟨trivial,c4⟩];have:decide ((qs.length:Int)>4)=true:=decide_eq_true (by omega);simp only[this];exact j3t _ _
      ·rw[if_neg (by simp[c4])];have:decide ((qs.length:Int)>4)=false:=decide_eq_false (by omega);simp only[this]
       have key:∀(r2 p:List (List Str)) (kk:List Pt),qs=p++r2→kk.length≤p.length→Ev (fun k=>bg.l1 k ((d+1:Nat):Int) (qs.map (List.map bP)) (p.length:Int) (f.map vX) (kk.map e32)) (aaf f kk (Uf (LJ true d) r2)):=by
        have hql:=aix qs;intro r2
        induction r2 with
        |nil=>
         intro p kk h hk;have hz:qs.length=p.length:=by rw[h,List.append_nil]
         refine vc ?_;simp only[bg.l1,Uf,aaf,List.append_nil,List.length_map];exact vn (by omega) (vs _)
        |cons q r2 ih2=>
         intro p kk h hk;have hz:=iC h;have e1:=Gt h;have hm:=aiw (qs:=qs) (q:=q) (by rw[h];simp);have hc:=ih (by omega) q (by omega);have w1:wrap64 ((p.length:Int)+1)=(p.length:Int)+1:=b_ (by omega) (by omega);have w2:wrap64 (((d+1:Nat):Int)-1)=(d:Int):=(b_ (by omega) (by omega)).trans (by omega);refine vc ?_;simp only[bg.l1,e1,w1,w2,List.length_map];clear w1 w2;refine vp (by omega) (vp (by omega) (vb hc ?_));rw[Uf]
         cases e4:LJ true d q with
         |none=>exact vn (by simp[GN]) (vs _)
         |some pt=>
          have hv:=ih2 (p++[q]) (kk++[pt]) (by rw[h];simp) (by simp only[List.length_append,List.length_singleton];omega);rw[jF,List.map_append,List.map_singleton]at hv;simp only[GN,anQ];refine vp trivial (vp (by omega) (vq hv ?_))
          cases Uf (LJ true d) r2 with
          |none=>rfl
          |some k2=>simp only[aaf,Option.map_some,List.append_assoc,List.singleton_append]
       refine vc ?_;simp only[bg.j3];refine vn (by simp) (vq (key qs [] [] rfl (Nat.le_refl _)) ?_)
       cases Uf (LJ true d) qs with
       |none=>rfl
       |some k2=>rw[Option.map_some,Xo];rfl
    ·rw[if_neg c,Xo];refine vn c (kW rfl (vp (by omega) (vp (by omega) (vp (by simp only[List.length_nil];omega) (vq (vs _) ?_)))));rw[List.nil_append];rfl
  have key:∀(r p:List Str),ls=p++r→Ev (fun k=>bg.l0 k (ls.map bP) ((d+1:Nat):Int) (p.length:Int)) (GN (match (idx r).map fun x=>(p++x.1,x.2)with
   |none=>none
   |some (a,r)=>match rF a with
    |none=>none
    |some f=>if(bF f).2=true then(match spR (bF f).1 r with
     |none=>none
     |some qs=>if true=true∧4<qs.length then none else(Uf (LJ true d) qs).map fun k=> .mk f [] k)else some (.mk f r []))):=by
   intro r
   induction r with
   |nil=>
    intro p h;have hz:ls.length=p.length:=by rw[h,List.append_nil]
    refine vc ?_;simp only[bg.l0,idx,Option.map_none];rw[←hz];exact vn (by rw[List.length_map];omega) aKH
   |cons l r ih2=>
    intro p h;have hz:=iC h;have e1:=nX h;have w1:wrap64 ((p.length:Int)+1)=(p.length:Int)+1:=b_ (by omega) (by omega);refine vc ?_;simp only[bg.l0,e1,w1,jL];clear w1;refine vp (by rw[List.length_map];omega) (vp (by omega) ?_);rw[idx];by_cases c:l=[]
    ·rw[if_pos c];subst c;refine vp rfl (vq (found p r h) ?_);simp only[Option.map_some,List.append_nil]
    ·rw[if_neg c];have hv:=ih2 (p++[l]) (by rw[h];simp);rw[jF]at hv;refine vn c (vq hv ?_)
     cases idx r with
     |none=>rfl
     |some x=>simp only[Option.map_some,List.append_assoc,List.singleton_append]
  refine vq (key ls [] rfl) ?_;rw[LJ]
  cases idx ls with
  |none=>rfl
  |some x=>rfl
def atQ(o:Option Pt):Pt:=match o with
 |none=> .mk [] [] []
 |some p=>p
theorem ar8{o:Option Pt}{n:Nat}(h:∀p,o=some p→Oq p≤n):Oq (atQ (pV o))≤n:=by
 cases o with
 |none=>exact Nat.zero_le _
 |some p=>
  unfold pV;simp only;split
  ·exact h p rfl
  ·exact Nat.zero_le _
theorem aiy{ls:List Str}:Oq (atQ (pR ls))≤xO ls+ls.length:=ar8 (fun p h=>Ug true 3 ls p h)
theorem aiz(o:Option Pt):GN o=((e32 (atQ o)).f0,(e32 (atQ o)).f1,(e32 (atQ o)).f2,o.isSome):=by
 cases o with
 |none=>rfl
 |some p=>rfl
theorem Uj(ls:List Str)(hs:xO ls+ls.length≤1048576):Ev (fun k=>sD.f k (ls.map bP)) (GN (pR ls)):=by
 unfold sD.f;rw[←ar7];refine vb (Ui 3 (Nat.le_refl _) ls hs) ?_
 cases e:LJ false 3 ls with
 |none=>exact vn (by simp[GN]) (vs _)
 |some p=>
  have hz:=Ug false 3 ls p e;refine vp rfl (vb (Ud p (by omega)) ?_);by_cases c:(lines 3 p).isSome=true
  ·have e1:pV (some p)=some p:=by unfold pV;simp only;rw[if_pos c]
   rw[e1];exact vp c (vs _)
  ·have e1:pV (some p)=none:=by unfold pV;simp only;rw[if_neg c]
   rw[e1];exact vn c (vs _)
theorem Uk(ls:List Str)(hs:xO ls+ls.length≤1048576):Ev (fun k=>vk.f k (ls.map bP)) (GN (pR ls)):=by
 have h1:Ev (fun k=>nC.f k (ls.map bP)) (GN (pR ls)):=by
  unfold nC.f pR;refine vb (WL 3 (Nat.le_refl _) ls hs) ?_
  cases e:LJ true 3 ls with
  |none=>exact vn (by simp[GN]) (vs _)
  |some p=>
   have hz:=Ug true 3 ls p e;refine vp rfl (vb (Ue p (by omega)) ?_);by_cases c:(lines 3 p).isSome=true
   ·have e1:pV (some p)=some p:=by unfold pV;simp only;rw[if_pos c]
    rw[e1];exact vp c (vs _)
   ·have e1:pV (some p)=none:=by unfold pV;simp only;rw[if_neg c]
    rw[e1];exact vn c (vs _)
 unfold vk.f;have hz:=aiy (ls:=ls);have h2:=afV (atQ (pR ls)) (by omega);rw[aiz]at h1⊢;exact vb h1 (vb h2 (vs _))
mutual
def Zn:Pt→Nat
 | .mk f b k=>2*f.length+b.length+GR k
def GR:List Pt→Nat
 |[]=>0
 |p:: r=>Zn p+GR r
end
mutual
def mkT(T:Nat→Str):Pt→Nat→ku
 | .mk f b k,m=>⟨mkF T m f.length,mks T (m+2*f.length) b.length,DK T k (m+2*f.length+b.length)⟩
def DK(T:Nat→Str):List Pt→Nat→List ku
 |[],_=>[]
 |p:: r,m=>mkT T p m:: DK T r (m+Zn p)
end
def GU:Pt→List Pt
 | .mk _ _ k=>k
theorem acj(f:List (Str×Str))(b:List Str)(k:List Pt):Oq (.mk f b k)=f.length+II f+b.length+xO b+k.length+Hg k:=by rw[Oq]
theorem adW(T:Nat→Str)(r:List Pt):∀m,(DK T r m).length=r.length:=by
 induction r with
 |nil=>intro m;rw[DK];rfl
 |cons p r ih=>intro m;rw[DK,List.length_cons,List.length_cons,ih]
theorem ar9{k:List Pt}(h:∀p∈k,Zn p≤2*Oq p):GR k≤2*Hg k:=by
 induction k with
 |nil=>simp[GR]
 |cons p r ih=>
  have h1:=h p (by simp);have h2:=ih fun q hq=>h q (by simp[hq])
  rw[GR,Hg];omega
theorem af0(p:Pt):Zn p≤2*Oq p:=by
 refine ab9 (P:=fun p=>Zn p≤2*Oq p) (fun f b k ih=>?_) p;have:=ar9 ih;rw[Zn,Oq];omega
theorem aiA(p r:List ku)(c:ku):aW (p++c:: r) (p.length:Int)=c:=by
 unfold aW;rw[List.getD_eq_getElem?_getD];simp
theorem anZ(p r:List ku)(c d:ku):(p++c:: r).set ((p.length:Nat):Int).toNat d=p++d:: r:=by
 rw[Int.toNat_natCast,List.set_append_right _ _ (Nat.le_refl _),Nat.sub_self,List.set_cons_zero]
theorem ajs(T:Nat→Str)(hT:IsMark T)(p:Pt):Oq p≤1048576→∀m:Nat,m+2*Hg (GU p)≤100000000→
  Ev (fun n=>jr.l0 n ((GU p).map e32) (m:Int) 0) (((m+GR (GU p):Nat):Int),DK T (GU p) m)∧Ev (fun n=>g_.f n (DK T (GU p) m) (m:Int)) (((m+GR (GU p):Nat):Int)):=by
 refine ab9 (P:=fun p=>Oq p≤1048576→∀m:Nat,m+2*Hg (GU p)≤100000000→
  Ev (fun n=>jr.l0 n ((GU p).map e32) (m:Int) 0) (((m+GR (GU p):Nat):Int),DK T (GU p) m)∧Ev (fun n=>g_.f n (DK T (GU p) m) (m:Int)) (((m+GR (GU p):Nat):Int))) (fun f b k ih hs m hm=>?_) p
 show Ev (fun n=>jr.l0 n (k.map e32) (m:Int) 0) (((m+GR k:Nat):Int),DK T k m)∧Ev (fun n=>g_.f n (DK T k m) (m:Int)) (((m+GR k:Nat):Int))
 rw[Oq]at hs;have hm:m+2*Hg k≤100000000:=hm
 have key1:∀(r:List Pt),(∀c∈r,c∈k)→∀(q:List ku) (m:Nat),q.length+r.length≤1048576→m+2*Hg r≤100000000→Ev (fun n=>jr.l0 n (q++r.map e32) (m:Int) (q.length:Int)) (((m+GR r:Nat):Int),q++DK T r m):=by
  intro r
  induction r with
  |nil=>
   intro _ q m h1 h2;refine vc ?_;simp only[jr.l0,GR,DK];exact vn (by simp) (vs _)
  |cons c r ihr=>
   intro hc q m h1 h2;simp only[List.length_cons]at h1;rw[Hg]at h2;have hmem:=hc c (by simp);have hsz:=Nw hmem;have hnu:=af0 c;obtain⟨q',hq'⟩:∃q',q'=q++[mkT T c m]:=⟨_,rfl⟩
   have hlen:q'.length=q.length+1:=by rw[hq'];simp
   have tail:=ihr (fun d hd=>hc d (by simp[hd])) q' (m+Zn c) (by omega) (by omega);rw[hlen]at tail;have kid:=(ih c hmem (by omega))
   cases c with
   |mk cf cb ck=>
    have e1:=acj cf cb ck;have e2:Zn (.mk cf cb ck)=2*cf.length+cb.length+GR ck:=by rw[Zn]
    rw[e1]at h2 hsz;have g0:=OY T hT (cf.map vX) m (by rw[List.length_map];omega) (by rw[List.length_map];omega);have g1:=GL T hT (cb.map bP) (m+2*cf.length) (by rw[List.length_map];omega) (by rw[List.length_map];omega);have g2:=(kid (m+2*cf.length+cb.length) (by show _+2*Hg ck≤_;omega)).1;simp only[List.length_map]at g0 g1;simp only[GU]at g2;have w1:wrap64 ((q.length:Int)+1)=((q.length+1:Nat):Int):=(b_ (by omega) (by omega)).trans (by omega);refine vc ?_;simp only[jr.l0,List.map_cons,aiA,w1,Ji,anZ];clear w1;refine vp (by simp;omega) (vb g0 ?_);dsimp only;refine vb g1 ?_;dsimp only;refine vb g2 ?_;dsimp only;have e3:m+2*cf.length+cb.length+GR ck=m+Zn (.mk cf cb ck):=by rw[e2];omega
    rw[e3]
    have e4:q++(⟨mkF T m cf.length,mks T (m+2*cf.length) cb.length,DK T ck (m+2*cf.length+cb.length)⟩:ku):: r.map e32=q'++r.map e32:=by
     rw[hq',mkT];simp
    rw[e4];refine vq tail ?_;rw[GR,DK,hq'];simp only[List.append_assoc,List.singleton_append]
    congr 1
    omega
 have key2:∀(r:List Pt),(∀c∈r,c∈k)→∀(q:List ku) (m:Nat),q.length+r.length≤1048576→m+2*Hg r≤100000000→Ev (fun n=>g_.l0 n (q++DK T r m) (m:Int) (q.length:Int)) (((m+GR r:Nat):Int)):=by
  intro r
  induction r with
  |nil=>
   intro _ q m h1 h2;refine vc ?_;simp only[g_.l0,GR,DK];exact vn (by simp) (vs _)
  |cons c r ihr=>
   intro hc q m h1 h2;simp only[List.length_cons]at h1;rw[Hg]at h2;have hmem:=hc c (by simp);have hsz:=Nw hmem;have hnu:=af0 c;obtain⟨q',hq'⟩:∃q',q'=q++[mkT T c m]:=⟨_,rfl⟩
   have hlen:q'.length=q.length+1:=by rw[hq'];simp
   have tail:=ihr (fun d hd=>hc d (by simp[hd])) q' (m+Zn c) (by omega) (by omega);rw[hlen]at tail;have kid:=(ih c hmem (by omega))
   cases c with
   |mk cf cb ck=>
    have e1:=acj cf cb ck;have e2:Zn (.mk cf cb ck)=2*cf.length+cb.length+GR ck:=by rw[Zn]
    rw[e1]at h2 hsz;have g0:=OZ T hT cf.length m (by omega) (by omega);have g1:=NG T hT cb.length (m+2*cf.length) (by omega) (by omega);have g2:=(kid (m+2*cf.length+cb.length) (by show _+2*Hg ck≤_;omega)).2;simp only[GU]at g2;have e5:DK T (Pt.mk cf cb ck:: r) m=mkT T (.mk cf cb ck) m:: DK T r (m+Zn (.mk cf cb ck)):=by rw[DK]
    have e6:mkT T (.mk cf cb ck) m=⟨mkF T m cf.length,mks T (m+2*cf.length) cb.length,DK T ck (m+2*cf.length+cb.length)⟩:=by rw[mkT]
    have e4:q++DK T (Pt.mk cf cb ck:: r) m=q'++DK T r (m+Zn (.mk cf cb ck)):=by rw[hq',e5];simp
    have e7:aW (q++DK T (Pt.mk cf cb ck:: r) m) (q.length:Int)=mkT T (.mk cf cb ck) m:=by rw[e5];exact aiA _ _ _
    have w1:wrap64 ((q.length:Int)+1)=((q.length+1:Nat):Int):=(b_ (by omega) (by omega)).trans (by omega);refine vc ?_;simp only[g_.l0,e7,w1,e6];clear w1;have e3:m+2*cf.length+cb.length+GR ck=m+Zn (.mk cf cb ck):=by rw[e2];omega
    rw[e3]at g2;refine vp (by rw[List.length_append,adW];simp;omega) (vp (by omega) (vb g0 (vn (by omega) (vb g1 (vn (by omega) (vb g2 (vn (by omega) ?_)))))));rw[e4];refine vq tail ?_;rw[GR];omega
 have hk:k.length≤1048576:=by omega
 constructor
 ·have:=key1 k (fun _ h=>h) [] m (by simpa using hk) (by omega)
  simpa using this
 ·refine vc ?_;simp only[g_.f];have:=key2 k (fun _ h=>h) [] m (by simpa using hk) (by omega)
  simpa using this
theorem an0(T:Nat→Str)(hT:IsMark T)(p:Pt)(hp:Oq p≤1048576):∃t1 t2:Int,Ev (fun n=>ig.f n (e32 p).f0 1) (t1,(mkT T p 1).f0)∧Ev (fun n=>fK.f n (e32 p).f1 t1) (t2,(mkT T p 1).f1)∧Ev (fun n=>jr.l0 n (e32 p).f2 t2 0) (((1+Zn p:Nat):Int),(mkT T p 1).f2)∧Ev (fun n=>uq.f n (mkT T p 1).f0 (mkT T p 1).f1 (mkT T p 1).f2 1) ((1+Zn p:Nat):Int):=by
 have kid:=ajs T hT p hp;have hnu:=af0 p
 cases p with
 |mk f b k=>
  have e1:=acj f b k;have e2:Zn (.mk f b k)=2*f.length+b.length+GR k:=by rw[Zn]
  have e6:mkT T (.mk f b k) 1=⟨mkF T 1 f.length,mks T (1+2*f.length) b.length,DK T k (1+2*f.length+b.length)⟩:=by rw[mkT]
  obtain⟨k1,k2⟩:=kid (1+2*f.length+b.length) (by show _+2*Hg k≤_;omega);simp only[GU]at k1 k2;have e3:1+2*f.length+b.length+GR k=1+Zn (.mk f b k):=by rw[e2];omega
  rw[e3]at k1 k2;rw[e1]at hp;have g0:=OY T hT (f.map vX) 1 (by rw[List.length_map];omega) (by rw[List.length_map];omega);have g1:=GL T hT (b.map bP) (1+2*f.length) (by rw[List.length_map];omega) (by rw[List.length_map];omega);have h0:=OZ T hT f.length 1 (by omega) (by omega);have h1:=NG T hT b.length (1+2*f.length) (by omega) (by omega);simp only[List.length_map]at g0 g1;rw[e6,Ji];refine⟨_,_,g0,g1,k1,?_⟩;unfold uq.f;exact vb h0 (vn (by omega) (vb h1 (vn (by omega) (vb k2 (vn (by omega) (vs _))))))
theorem FnExactParsePart:∀(l0:List ByteArray),l0.length≤maxLen→(∀x∈l0,x.size≤maxLen)→∃k,sJ.Ok k l0:=by
 intro l0 hlen hx;unfold maxLen at hlen hx;rw[←ajj l0]
 have hx2:∀x∈l0.map L,x.length≤9223372036854775807:=fun x hm=>by
  obtain⟨y,hy,rfl⟩:=List.mem_map.mp hm;have:=hx y hy;rw[YU]at this;omega
 have hl2:(l0.map L).length≤9223372036854775807:=by rw[List.length_map];omega
 generalize l0.map L=ls at hx2 hl2
 obtain⟨v,hv,hv1,hv2⟩:=Tn ls hx2 hl2 1048576 (by omega);by_cases h0:v<0
 ·obtain⟨k,h⟩:=adR (DI hv);exact⟨k,v,h,Or.inl h0⟩
 have hs:=hv2 (by omega);obtain⟨T,hT⟩:=ajq;have i1:=Uk ls (by omega);have i2:=Uj ls (by omega);have hz:=aiy (ls:=ls);rw[aiz]at i1 i2;have hsz:Oq (atQ (pR ls))≤1048576:=by omega
 have i3:=ajp (atQ (pR ls)) hsz;obtain⟨t1,t2,j1,j2,j3,j4⟩:=an0 T hT (atQ (pR ls)) hsz;have hm1:=GL T hT (ls.map bP) 1 (by rw[List.length_map];omega) (by rw[List.length_map];omega);have i4:=IG ls ls (by omega);rw[decide_eq_true rfl]at i4;obtain⟨k,h1,h2,h3,h4,h5,h6,h7,h8,h9,h10,h11⟩:=adR (C_ (DI hv) (C_ (DI (Tq ls (by omega))) (C_ (DI i1) (C_ (DI i2) (C_ (DI i3) (C_ (DI i4) (C_ (DI hm1) (C_ (DI j1) (C_ (DI j2) (C_ (DI j3) (DI j4)))))))))));exact⟨k,v,h1,Or.inr ⟨h0,e32 (atQ (pR ls)),mkT T (atQ (pR ls)) 1,_,_,t1,t2,_,_,h2,h3,h4,h5,h6,h7,by omega,h8,h9,h10,h11,by omega⟩⟩
end Go.Proofs.YtdimppdlfgnhgaaGreatDoor.Pure
