-- PRINTED BY print.sh 35421559b90ae4d0a3588c463048766b98c2df88dd9212a6774a882060cdf62d: not written by this session
import Derived.Test.YtncdadcmghglkaaGreatDoorVFnPartAtLast
import Derived.Test.YtncdadcmghglkaaGreatDoorVFnPartAtWords
/-! ### 50. A region's order in a table, made once a region: each step asks the table (numbers alone), not the operations -/
-- dense
namespace Go.Proofs.YtncdadcmghglkaaGreatDoorW.jm
open Go.Proofs.YtncdadcmghglkaaGreatDoorW.bQ (ah)
def Kv (md:Region.Mode) (o:Oper):List Nat:=(o.after.toList.filter (fun e=>Region.binds md e)).map (fun e=>e.on)
def Z8 (md:Region.Mode) (ops:Array Oper) (i:Nat) (oi:Oper):List Nat:=(List.range ops.size).filter fun j=>!(j==i)&&match ops[j]? with
 |some oj=>!(oj.after.any (fun e=>Region.binds md e&&e.on==i)||oi.apart ops oj)
 |none=>false
/-- No select in it; for each operation: what must have come up before it, and what may not come up behind it if it is taken first. -/
def wM (md:Region.Mode) (ops:Array Oper):Bool×List (List Nat×List Nat):=(Region.noSelect ops,(List.range ops.size).map fun i=>match ops[i]? with
 |some o=>(Kv md o,Z8 md ops i o)
 |none=>([],[]))
def FT (T:List (List Nat×List Nat)) (l:List Bool) (i:Nat):Bool:=!l.getD i true&&match T[i]? with
 |some r=>r.1.all (fun j=>l.getD j false)
 |none=>false
def MS (T:List (List Nat×List Nat)) (l:List Bool):List Nat:=(List.range T.length).filter (FT T l)
def abP (T:List (List Nat×List Nat)) (l:List Bool) (i:Nat):Bool:=match T[i]? with
 |some r=>r.2.all (fun j=>l.getD j true)
 |none=>false
def T_ (T:List (List Nat×List Nat)) (l:List Bool):Bool:=(List.range T.length).all fun j=>!l.getD j false||match T[j]? with
 |some r=>r.1.all (fun k=>l.getD k false)
 |none=>true
def Ri (T:List (List Nat×List Nat)) (i:Nat):Nat→Nat→Bool
 |0,_=>false
 |fuel+1,d=>match T[d]? with
  |some r=>r.1.any fun j=>j==i||Ri T i fuel j
  |none=>false
def lastT (T:List (List Nat×List Nat)) (l:List Bool) (ds:List Nat) (i:Nat):Bool:=ds.all fun d=>l.getD d true||Ri T i T.length d
section
variable {md:Region.Mode} {ops:Array Oper} {T:Bool×List (List Nat×List Nat)} {l l' li lj lk:Array Bool} {ds:List Nat} {i j k:Nat}
theorem gd (l:Array Bool) (j:Nat) (b:Bool):l.getD j b=l.toList.getD j b:=by simp[Array.getD_eq_getD_getElem?,List.getD_eq_getElem?_getD]
theorem XQ (o:Oper) (p:Nat→Bool):o.after.all (fun e=>!Region.binds md e||p e.on)=(Kv md o).all p:=by
 unfold Kv
 rw[←Array.all_toList]
 induction o.after.toList with
 |nil=>rfl
 |cons e r ih=>
  rw[List.all_cons,ih,List.filter_cons]
  cases h:Region.binds md e<;>simp
theorem ah3 (o:Oper) (p:Nat→Bool):o.after.any (fun e=>Region.binds md e&&p e.on)=(Kv md o).any p:=by
 unfold Kv
 rw[←Array.any_toList]
 induction o.after.toList with
 |nil=>rfl
 |cons e r ih=>
  rw[List.any_cons,ih,List.filter_cons]
  cases h:Region.binds md e<;>simp
theorem FU:(wM md ops).2.length=ops.size:=by simp[wM]
theorem Kw {o:Oper} (h:ops[i]? =some o):(wM md ops).2[i]? =some (Kv md o,Z8 md ops i o):=by
 have hi:=(Array.getElem?_eq_some_iff.1 h).1
 unfold wM
 rw[List.getElem?_map,List.getElem?_range hi,Option.map_some,h]
theorem Ky (h:ops[i]? =none):(wM md ops).2[i]? =none:=by
 have hi:ops.size≤i:=Array.getElem?_eq_none_iff.1 h
 exact List.getElem?_eq_none (by rw[FU];exact hi)
theorem adP:FT (wM md ops).2 l.toList i=(!l.getD i true&&((ops[i]?).map (·.after.all fun e=>!Region.binds md e||l.getD e.on false)).getD false):=by
 unfold FT
 rw[gd]
 cases h:ops[i]? with
 |none=>rw[Ky h];rfl
 |some o=>
  rw[Kw h]
  simp only[Option.map_some,Option.getD_some]
  rw[←XQ]
  simp only[gd]
theorem ready_eq:Region.ready md ops l=MS (wM md ops).2 l.toList:=by
 unfold Region.ready MS
 rw[FU]
 refine List.filter_congr (fun i _=>?_)
 rw[adP]
theorem free_eq:Region.free md ops l i=abP (wM md ops).2 l.toList i:=by
 unfold Region.free abP
 cases h:ops[i]? with
 |none=>rw[Ky h]
 |some oi=>
  rw[Kw h]
  simp only[Z8]
  rw[List.all_filter]
  congr 1
  funext j
  rw[gd]
  cases hj:ops[j]? with
  |none=>cases (j==i)<;>cases (l.toList.getD j true)<;>simp
  |some oj=>
   cases (j==i)<;>cases (l.toList.getD j true)<;>cases (oj.after.any (fun e=>Region.binds md e&&e.on==i)||oi.apart ops oj)<;>simp_all
theorem ah4:Region.Ku md ops l=T_ (wM md ops).2 l.toList:=by
 unfold Region.Ku T_
 rw[FU]
 congr 1
 funext j
 rw[gd]
 cases h:ops[j]? with
 |none=>rw[Ky h]
 |some o=>
  rw[Kw h]
  simp only
  rw[←XQ]
  simp only[gd]
theorem reach_eq:∀(fuel d:Nat),Region.CX md ops i fuel d=Ri (wM md ops).2 i fuel d
 |0,_=>rfl
 |fuel+1,d=>by
  unfold Region.CX Ri
  cases h:ops[d]? with
  |none=>rw[Ky h]
  |some o=>
   rw[Kw h]
   simp only
   rw[←ah3]
   congr 1
   funext e
   rw[reach_eq fuel]
theorem aoE:Region.lastB md ops l ds i=lastT (wM md ops).2 l.toList ds i:=by
 unfold Region.lastB lastT
 rw[FU]
 congr 1
 funext d
 rw[gd,reach_eq]
theorem Sj (h:FT T.2 l.toList i=true) (hT:wM md ops=T):(Region.ready md ops l).contains i=true:=by
 subst hT
 rw[ready_eq]
 unfold MS
 rw[List.contains_iff_mem,List.mem_filter,List.mem_range]
 refine⟨?_,h⟩
 unfold FT at h
 rw[Bool.and_eq_true]at h
 cases hq:(wM md ops).2[i]? with
 |none=>rw[hq]at h;simp at h
 |some r=>exact(List.getElem?_eq_some_iff.1 hq).1
theorem JU (h:(l.toList.set i true==l'.toList)=true):(l.setIfInBounds i true==l')=true:=by
 rw[beq_iff_eq]at h⊢
 apply Array.ext'
 rw[Array.toList_setIfInBounds]
 exact h
def aCO (T:Bool×List (List Nat×List Nat)) (l l':List Bool) (i:Nat):Bool:=T.1&&abP T.2 l i&&FT T.2 l i&&(l.set i true==l')
/-- pure_'s condition out of the table. -/
theorem au4 (hT:wM md ops=T) (h:aCO T l.toList l'.toList i=true):al3 md ops l l' i=true:=by
 simp only[aCO,Bool.and_eq_true]at h
 obtain⟨⟨⟨h1,h2⟩,h3⟩,h4⟩:=h
 have h5:=Sj h3 hT
 have h6:=JU h4
 subst hT
 simp only[al3,Bool.and_eq_true]
 exact⟨⟨⟨h1,by rw[free_eq];exact h2⟩,h5⟩,h6⟩
def amb (T:Bool×List (List Nat×List Nat)) (ds:List Nat) (l l':List Bool) (i:Nat):Bool:=T.1&&abP T.2 l i&&FT T.2 l i&&T_ T.2 l&&lastT T.2 l ds i&&(l.set i true==l')
/-- take_'s. -/
theorem agP (hT:wM md ops=T) (h:amb T ds l.toList l'.toList i=true):takeB md ops ds l l' i=true:=by
 simp only[amb,Bool.and_eq_true]at h
 obtain⟨⟨⟨⟨⟨h1,h2⟩,h3⟩,h4⟩,h5⟩,h6⟩:=h
 have h7:=Sj h3 hT
 have h8:=JU h6
 subst hT
 simp only[takeB,Bool.and_eq_true]
 exact⟨⟨⟨⟨⟨h1,by rw[free_eq];exact h2⟩,h7⟩,by rw[ah4];exact h4⟩,by rw[aoE];exact h5⟩,h8⟩
/-- one_'s and last_'s. -/
theorem Bq (hT:wM md ops=T) (h:(MS T.2 l.toList==[i]&&l.toList.set i true==l'.toList)=true):MR md ops l l' i=true:=by
 simp only[Bool.and_eq_true]at h
 obtain⟨h1,h2⟩:=h
 subst hT
 simp only[MR,Bool.and_eq_true]
 exact⟨by rw[ready_eq];exact h1,JU h2⟩
theorem Qx (hT:wM md ops=T) (h:(MS T.2 l.toList==[i,j]&&l.toList.set i true==li.toList&&l.toList.set j true==lj.toList)=true):(Region.ready md ops l==[i,j]&&l.setIfInBounds i true==li&&l.setIfInBounds j true==lj)=true:=by
 simp only[Bool.and_eq_true]at h⊢
 obtain⟨⟨h1,h2⟩,h3⟩:=h
 subst hT
 exact⟨⟨by rw[ready_eq];exact h1,JU h2⟩,JU h3⟩
theorem al9 (hT:wM md ops=T) (h:(MS T.2 l.toList==[i,j,k]&&l.toList.set i true==li.toList&&l.toList.set j true==lj.toList&&l.toList.set k true==lk.toList)=true):
  (Region.ready md ops l==[i,j,k]&&l.setIfInBounds i true==li&&l.setIfInBounds j true==lj&&l.setIfInBounds k true==lk)=true:=by
 simp only[Bool.and_eq_true]at h⊢
 obtain⟨⟨⟨h1,h2⟩,h3⟩,h4⟩:=h
 subst hT
 exact⟨⟨⟨by rw[ready_eq];exact h1,JU h2⟩,JU h3⟩,JU h4⟩
/-- done_'s. -/
theorem xu (hT:wM md ops=T) (h:(MS T.2 l.toList==[])=true):(Region.ready md ops l==[])=true:=by
 subst hT
 rw[ready_eq]
 exact h
/-- What d waits for, as_ bits: told in the table (B), checked in one pass: each bit is a need of d, or a bit of an earlier need's. -/
def upM (B:List Nat) (d:Nat):List Nat→Nat
 |[]=>0
 |n:: r=>(2 ^ n |||(if n<d then B.getD n 0 else 0)) |||upM B d r
def sO (T:List (List Nat×List Nat)) (B:List Nat):Bool:=(List.range T.length).all fun d=>match T[d]? with
 |some r=>(B.getD d 0 |||upM B d r.1)==upM B d r.1
 |none=>false
theorem agR {B:List Nat} {d i:Nat}:∀{ns:List Nat},(upM B d ns).testBit i=true→∃n∈ns,n=i∨(n<d∧(B.getD n 0).testBit i=true)
 |[],h=>by simp[upM]at h
 |n:: r,h=>by
  unfold upM at h
  rw[Nat.testBit_or,Nat.testBit_or,Bool.or_eq_true,Bool.or_eq_true]at h
  rcases h with(h|h)|h
  ·rw[Nat.testBit_two_pow]at h
   exact⟨n,List.mem_cons_self, .inl (by simpa using h)⟩
  ·by_cases hn:n<d
   ·rw[if_pos hn]at h
    exact⟨n,List.mem_cons_self, .inr ⟨hn,h⟩⟩
   ·rw[if_neg hn]at h
    simp at h
  ·obtain⟨m,hm,h2⟩:=agR h
   exact⟨m,List.mem_cons_of_mem _ hm,h2⟩
theorem XR {T:List (List Nat×List Nat)} {B:List Nat} (hB:sO T B=true):∀(fuel d:Nat),d<fuel→d<T.length→(B.getD d 0).testBit i=true→Ri T i fuel d=true
 |0,d,h,_,_=>by omega
 |fuel+1,d,h,hd,hb=>by
  have h1:=List.all_eq_true.1 hB d (List.mem_range.2 hd)
  cases hr:T[d]? with
  |none=>rw[hr]at h1;simp at h1
  |some r=>
   rw[hr]at h1
   simp only[beq_iff_eq]at h1
   have h2:(upM B d r.1).testBit i=true:=by rw[←h1,Nat.testBit_or,hb,Bool.true_or]
   obtain⟨n,hn,h3⟩:=agR h2
   unfold Ri
   rw[hr]
   simp only
   rw[List.any_eq_true]
   refine⟨n,hn,?_⟩
   rcases h3 with rfl|⟨h4,h5⟩
   ·simp
   ·rw[XR hB fuel n (by omega) (by omega) h5,Bool.or_true]
def arH (T:List (List Nat×List Nat)) (B:List Nat) (l:List Bool) (ds:List Nat) (i:Nat):Bool:=ds.all fun d=>l.getD d true||(decide (d<T.length)&&(B.getD d 0).testBit i)
def arI (T:Bool×List (List Nat×List Nat)) (B:List Nat) (ds:List Nat) (l l':List Bool) (i:Nat):Bool:=T.1&&abP T.2 l i&&FT T.2 l i&&T_ T.2 l&&arH T.2 B l ds i&&(l.set i true==l')
/-- take_'s, by the bits. -/
theorem al8 {B:List Nat} (hT:wM md ops=T) (hB:sO T.2 B=true) (h:arI T B ds l.toList l'.toList i=true):takeB md ops ds l l' i=true:=by
 refine agP hT ?_
 simp only[arI,amb,Bool.and_eq_true]at h⊢
 obtain⟨⟨⟨⟨⟨h1,h2⟩,h3⟩,h4⟩,h5⟩,h6⟩:=h
 refine⟨⟨⟨⟨⟨h1,h2⟩,h3⟩,h4⟩,?_⟩,h6⟩
 unfold arH at h5
 unfold lastT
 rw[List.all_eq_true]at h5⊢
 intro d hd
 have h7:=h5 d hd
 rw[Bool.or_eq_true,Bool.and_eq_true,decide_eq_true_eq]at h7
 rcases h7 with h7|⟨h8,h9⟩
 ·rw[h7,Bool.true_or]
 ·rw[XR hB _ d h8 h8 h9,Bool.or_true]
theorem rM {P:Program} {Q:Exit→Act→World→Prop} {S:World→Prop} {n:Nat} {a:Act} {w:World} {B:List Nat} (hT:wM md ops=T) (hB:sO T.2 B=true) (h:ah (wM md ops=T)→ah (sO T.2 B=true)→dw P md ops Q S ds n l a w):dw P md ops Q S ds n l a w:=h ⟨hT⟩ ⟨hB⟩
end
/-- The operations of a region, by its number. -/
def Ll:Code→Nat→Option (Array Oper)
 | .region id ops _,k=>if id==k then some ops else none
 | .seq a b,k=>match Ll a k with
  |some o=>some o
  |none=>Ll b k
 | .cond _ a b,k=>match Ll a k with
  |some o=>some o
  |none=>Ll b k
 | .block _ c,k=>Ll c k
 | .loop c,k=>Ll c k
 | .scope c,k=>Ll c k
 | .rangeFunc _ _ a b,k=>match Ll a k with
  |some o=>some o
  |none=>Ll b k
 |_,_=>none
def opsOf (f:Func) (k:Nat):Array Oper:=((f.body.bind fun c=>Ll c k)).getD #[]
end Go.Proofs.YtncdadcmghglkaaGreatDoorW.jm
