-- PRINTED BY print.sh 35421559b90ae4d0a3588c463048766b98c2df88dd9212a6774a882060cdf62d: not written by this session
import Derived.Test.YtdimppdlfgnhgaaGreatDoorVFnExactPartAtLast
import Derived.Test.YtdimppdlfgnhgaaGreatDoorVFnExactPartAtWords
namespace Go.Proofs.YtdimppdlfgnhgaaGreatDoorW.mZ
open Go.Proofs.YtdimppdlfgnhgaaGreatDoorW.fD (ah)
def MV(md:Region.Mode)(o:Oper):List Nat:=(o.after.toList.filter (fun e=>Region.binds md e)).map (fun e=>e.on)
def acB(md:Region.Mode)(ops:Array Oper)(i:Nat)(oi:Oper):List Nat:=(List.range ops.size).filter fun j=>!(j==i)&&match ops[j]? with
 |some oj=>!(oj.after.any (fun e=>Region.binds md e&&e.on==i)||oi.apart ops oj)
 |none=>false
def xu(md:Region.Mode)(ops:Array Oper):Bool×List (List Nat×List Nat):=(Region.noSelect ops,(List.range ops.size).map fun i=>match ops[i]? with
 |some o=>(MV md o,acB md ops i o)
 |none=>([],[]))
def G6(T:List (List Nat×List Nat))(l:List Bool)(i:Nat):Bool:=!l.getD i true&&match T[i]? with
 |some r=>r.1.all (fun j=>l.getD j false)
 |none=>false
def OL(T:List (List Nat×List Nat))(l:List Bool):List Nat:=(List.range T.length).filter (G6 T l)
def ad3(T:List (List Nat×List Nat))(l:List Bool)(i:Nat):Bool:=match T[i]? with
 |some r=>r.2.all (fun j=>l.getD j true)
 |none=>false
def WA(T:List (List Nat×List Nat))(l:List Bool):Bool:=(List.range T.length).all fun j=>!l.getD j false||match T[j]? with
 |some r=>r.1.all (fun k=>l.getD k false)
 |none=>true
def Ur(T:List (List Nat×List Nat))(i:Nat):Nat→Nat→Bool
 |0,_=>false
 |fuel+1,d=>match T[d]? with
  |some r=>r.1.any fun j=>j==i||Ur T i fuel j
  |none=>false
def lastT(T:List (List Nat×List Nat))(l:List Bool)(ds:List Nat)(i:Nat):Bool:=ds.all fun d=>l.getD d true||Ur T i T.length d
section
variable {md:Region.Mode} {ops:Array Oper} {T:Bool×List (List Nat×List Nat)} {l l' li lj lk:Array Bool} {ds:List Nat} {i j k:Nat}
theorem gd(l:Array Bool)(j:Nat)(b:Bool):l.getD j b=l.toList.getD j b:=by simp[Array.getD_eq_getD_getElem?,List.getD_eq_getElem?_getD]
theorem aag(o:Oper)(p:Nat→Bool):o.after.all (fun e=>!Region.binds md e||p e.on)=(MV md o).all p:=by
 unfold MV;rw[←Array.all_toList]
 induction o.after.toList with
 |nil=>rfl
 |cons e r ih=>
  rw[List.all_cons,ih,List.filter_cons];cases h:Region.binds md e<;>simp
theorem ajW(o:Oper)(p:Nat→Bool):o.after.any (fun e=>Region.binds md e&&p e.on)=(MV md o).any p:=by
 unfold MV;rw[←Array.any_toList]
 induction o.after.toList with
 |nil=>rfl
 |cons e r ih=>
  rw[List.any_cons,ih,List.filter_cons];cases h:Region.binds md e<;>simp
theorem G7:(xu md ops).2.length=ops.size:=by simp[xu]
theorem MW{o:Oper}(h:ops[i]? =some o):(xu md ops).2[i]? =some (MV md o,acB md ops i o):=by
 have hi:=(Array.getElem?_eq_some_iff.1 h).1;unfold xu;rw[List.getElem?_map,List.getElem?_range hi,Option.map_some,h]
theorem MX(h:ops[i]? =none):(xu md ops).2[i]? =none:=by
 have hi:ops.size≤i:=Array.getElem?_eq_none_iff.1 h;exact List.getElem?_eq_none (by rw[G7];exact hi)
theorem af2:G6 (xu md ops).2 l.toList i=(!l.getD i true&&((ops[i]?).map (·.after.all fun e=>!Region.binds md e||l.getD e.on false)).getD false):=by
 unfold G6;rw[gd]
 cases h:ops[i]? with
 |none=>rw[MX h];rfl
 |some o=>
  rw[MW h];simp only[Option.map_some,Option.getD_some];rw[←aag];simp only[gd]
theorem ready_eq:Region.ready md ops l=OL (xu md ops).2 l.toList:=by
 unfold Region.ready OL;rw[G7];refine List.filter_congr (fun i _=>?_);rw[af2]
theorem free_eq:Region.free md ops l i=ad3 (xu md ops).2 l.toList i:=by
 unfold Region.free ad3
 cases h:ops[i]? with
 |none=>rw[MX h]
 |some oi=>
  rw[MW h];simp only[acB];rw[List.all_filter]
  congr 1
  funext j
  rw[gd]
  cases hj:ops[j]? with
  |none=>cases (j==i)<;>cases (l.toList.getD j true)<;>simp
  |some oj=>
   cases (j==i)<;>cases (l.toList.getD j true)<;>cases (oj.after.any (fun e=>Region.binds md e&&e.on==i)||oi.apart ops oj)<;>simp_all
theorem ajX:Region.JL md ops l=WA (xu md ops).2 l.toList:=by
 unfold Region.JL WA;rw[G7]
 congr 1
 funext j
 rw[gd]
 cases h:ops[j]? with
 |none=>rw[MX h]
 |some o=>
  rw[MW h];simp only;rw[←aag];simp only[gd]
theorem reach_eq:∀(fuel d:Nat),Region.Cm md ops i fuel d=Ur (xu md ops).2 i fuel d
 |0,_=>rfl
 |fuel+1,d=>by
  unfold Region.Cm Ur
  cases h:ops[d]? with
  |none=>rw[MX h]
  |some o=>
   rw[MW h];simp only;rw[←ajW]
   congr 1
   funext e
   rw[reach_eq fuel]
theorem aro:Region.lastB md ops l ds i=lastT (xu md ops).2 l.toList ds i:=by
 unfold Region.lastB lastT;rw[G7]
 congr 1
 funext d
 rw[gd,reach_eq]
theorem UY(h:G6 T.2 l.toList i=true)(hT:xu md ops=T):(Region.ready md ops l).contains i=true:=by
 subst hT;rw[ready_eq];unfold OL;rw[List.contains_iff_mem,List.mem_filter,List.mem_range];refine⟨?_,h⟩;unfold G6 at h;rw[Bool.and_eq_true]at h
 cases hq:(xu md ops).2[i]? with
 |none=>rw[hq]at h;simp at h
 |some r=>exact(List.getElem?_eq_some_iff.1 hq).1
theorem LQ(h:(l.toList.set i true==l'.toList)=true):(l.setIfInBounds i true==l')=true:=by
 rw[beq_iff_eq]at h⊢;apply Array.ext';rw[Array.toList_setIfInBounds];exact h
def aB_(T:Bool×List (List Nat×List Nat))(l l':List Bool)(i:Nat):Bool:=T.1&&ad3 T.2 l i&&G6 T.2 l i&&(l.set i true==l')
theorem rZ(hT:xu md ops=T)(h:aB_ T l.toList l'.toList i=true):anU md ops l l' i=true:=by
 simp only[aB_,Bool.and_eq_true]at h;obtain⟨⟨⟨h1,h2⟩,h3⟩,h4⟩:=h;have h5:=UY h3 hT;have h6:=LQ h4;subst hT;simp only[anU,Bool.and_eq_true];exact⟨⟨⟨h1,by rw[free_eq];exact h2⟩,h5⟩,h6⟩
def an6(T:Bool×List (List Nat×List Nat))(ds:List Nat)(l l':List Bool)(i:Nat):Bool:=T.1&&ad3 T.2 l i&&G6 T.2 l i&&WA T.2 l&&lastT T.2 l ds i&&(l.set i true==l')
theorem aiN(hT:xu md ops=T)(h:an6 T ds l.toList l'.toList i=true):takeB md ops ds l l' i=true:=by
 simp only[an6,Bool.and_eq_true]at h;obtain⟨⟨⟨⟨⟨h1,h2⟩,h3⟩,h4⟩,h5⟩,h6⟩:=h;have h7:=UY h3 hT;have h8:=LQ h6;subst hT;simp only[takeB,Bool.and_eq_true];exact⟨⟨⟨⟨⟨h1,by rw[free_eq];exact h2⟩,h7⟩,by rw[ajX];exact h4⟩,by rw[aro];exact h5⟩,h8⟩
theorem qM(hT:xu md ops=T)(h:(OL T.2 l.toList==[i]&&l.toList.set i true==l'.toList)=true):OJ md ops l l' i=true:=by
 simp only[Bool.and_eq_true]at h;obtain⟨h1,h2⟩:=h;subst hT;simp only[OJ,Bool.and_eq_true];exact⟨by rw[ready_eq];exact h1,LQ h2⟩
theorem KF(hT:xu md ops=T)(h:(OL T.2 l.toList==[i,j]&&l.toList.set i true==li.toList&&l.toList.set j true==lj.toList)=true):(Region.ready md ops l==[i,j]&&l.setIfInBounds i true==li&&l.setIfInBounds j true==lj)=true:=by
 simp only[Bool.and_eq_true]at h⊢;obtain⟨⟨h1,h2⟩,h3⟩:=h;subst hT;exact⟨⟨by rw[ready_eq];exact h1,LQ h2⟩,LQ h3⟩
theorem ac1(hT:xu md ops=T)(h:(OL T.2 l.toList==[i,j,k]&&l.toList.set i true==li.toList&&l.toList.set j true==lj.toList&&l.toList.set k true==lk.toList)=true):
  (Region.ready md ops l==[i,j,k]&&l.setIfInBounds i true==li&&l.setIfInBounds j true==lj&&l.setIfInBounds k true==lk)=true:=by
 simp only[Bool.and_eq_true]at h⊢;obtain⟨⟨⟨h1,h2⟩,h3⟩,h4⟩:=h;subst hT;exact⟨⟨⟨by rw[ready_eq];exact h1,LQ h2⟩,LQ h3⟩,LQ h4⟩
theorem Jt(hT:xu md ops=T)(h:(OL T.2 l.toList==[])=true):(Region.ready md ops l==[])=true:=by
 subst hT;rw[ready_eq];exact h
def upM(B:List Nat)(d:Nat):List Nat→Nat
 |[]=>0
 |n:: r=>(2 ^ n |||(if n<d then B.getD n 0 else 0)) |||upM B d r
def uf(T:List (List Nat×List Nat))(B:List Nat):Bool:=(List.range T.length).all fun d=>match T[d]? with
 |some r=>(B.getD d 0 |||upM B d r.1)==upM B d r.1
 |none=>false
theorem aiQ{B:List Nat}{d i:Nat}:∀{ns:List Nat},(upM B d ns).testBit i=true→∃n∈ns,n=i∨(n<d∧(B.getD n 0).testBit i=true)
 |[],h=>by simp[upM]at h
 |n:: r,h=>by
  unfold upM at h;rw[Nat.testBit_or,Nat.testBit_or,Bool.or_eq_true,Bool.or_eq_true]at h;rcases h with(h|h)|h
  ·rw[Nat.testBit_two_pow]at h;exact⟨n,List.mem_cons_self, .inl (by simpa using h)⟩
  ·by_cases hn:n<d
   ·rw[if_pos hn]at h;exact⟨n,List.mem_cons_self, .inr ⟨hn,h⟩⟩
   ·rw[if_neg hn]at h;simp at h
  ·obtain⟨m,hm,h2⟩:=aiQ h;exact⟨m,List.mem_cons_of_mem _ hm,h2⟩
theorem aah{T:List (List Nat×List Nat)}{B:List Nat}(hB:uf T B=true):∀(fuel d:Nat),d<fuel→d<T.length→(B.getD d 0).testBit i=true→Ur T i fuel d=true
 |0,d,h,_,_=>by omega
 |fuel+1,d,h,hd,hb=>by
  have h1:=List.all_eq_true.1 hB d (List.mem_range.2 hd)
  cases hr:T[d]? with
  |none=>rw[hr]at h1;simp at h1
  |some r=>
   rw[hr]at h1;simp only[beq_iff_eq]at h1;have h2:(upM B d r.1).testBit i=true:=by rw[←h1,Nat.testBit_or,hb,Bool.true_or]
   obtain⟨n,hn,h3⟩:=aiQ h2;unfold Ur;rw[hr];simp only;rw[List.any_eq_true];refine⟨n,hn,?_⟩;rcases h3 with rfl|⟨h4,h5⟩
   ·simp
   ·rw[aah hB fuel n (by omega) (by omega) h5,Bool.or_true]
def aub(T:List (List Nat×List Nat))(B:List Nat)(l:List Bool)(ds:List Nat)(i:Nat):Bool:=ds.all fun d=>l.getD d true||(decide (d<T.length)&&(B.getD d 0).testBit i)
def auc(T:Bool×List (List Nat×List Nat))(B:List Nat)(ds:List Nat)(l l':List Bool)(i:Nat):Bool:=T.1&&ad3 T.2 l i&&G6 T.2 l i&&WA T.2 l&&aub T.2 B l ds i&&(l.set i true==l')
theorem uw{B:List Nat}(hT:xu md ops=T)(hB:uf T.2 B=true)(h:auc T B ds l.toList l'.toList i=true):takeB md ops ds l l' i=true:=by
 refine aiN hT ?_;simp only[auc,an6,Bool.and_eq_true]at h⊢;obtain⟨⟨⟨⟨⟨h1,h2⟩,h3⟩,h4⟩,h5⟩,h6⟩:=h;refine⟨⟨⟨⟨⟨h1,h2⟩,h3⟩,h4⟩,?_⟩,h6⟩;unfold aub at h5;unfold lastT;rw[List.all_eq_true]at h5⊢;intro d hd;have h7:=h5 d hd;rw[Bool.or_eq_true,Bool.and_eq_true,decide_eq_true_eq]at h7;rcases h7 with h7|⟨h8,h9⟩
 ·rw[h7,Bool.true_or]
 ·rw[aah hB _ d h8 h8 h9,Bool.or_true]
theorem AL{P:Program}{Q:Exit→Act→World→Prop}{S:World→Prop}{n:Nat}{a:Act}{w:World}{B:List Nat}(hT:xu md ops=T)(hB:uf T.2 B=true)(h:ah (xu md ops=T)→ah (uf T.2 B=true)→eH P md ops Q S ds n l a w):eH P md ops Q S ds n l a w:=h ⟨hT⟩ ⟨hB⟩
end
def NT:Code→Nat→Option (Array Oper)
 | .region id ops _,k=>if id==k then some ops else none
 | .seq a b,k=>match NT a k with
  |some o=>some o
  |none=>NT b k
 | .cond _ a b,k=>match NT a k with
  |some o=>some o
  |none=>NT b k
 | .block _ c,k=>NT c k
 | .loop c,k=>NT c k
 | .scope c,k=>NT c k
 | .rangeFunc _ _ a b,k=>match NT a k with
  |some o=>some o
  |none=>NT b k
 |_,_=>none
def opsOf(f:Func)(k:Nat):Array Oper:=((f.body.bind fun c=>NT c k)).getD #[]
end Go.Proofs.YtdimppdlfgnhgaaGreatDoorW.mZ
