-- PRINTED BY print.sh 35421559b90ae4d0a3588c463048766b98c2df88dd9212a6774a882060cdf62d: not written by this session
import Derived.Test.YtncdadcmghglkaaGreatDoorVFnPathEmptyLast
import Derived.Test.YtncdadcmghglkaaGreatDoorVFnPathEmptyWords
/-! ### 50. A region's order in a table, made once a region: each step asks the table (numbers alone), not the operations -/
-- dense
namespace Go.Proofs.YtncdadcmghglkaaGreatDoorW.kX
open Go.Proofs.YtncdadcmghglkaaGreatDoorW.dJ (ah)
def J8 (md:Region.Mode) (o:Oper):List Nat:=(o.after.toList.filter (fun e=>Region.binds md e)).map (fun e=>e.on)
def ZQ (md:Region.Mode) (ops:Array Oper) (i:Nat) (oi:Oper):List Nat:=(List.range ops.size).filter fun j=>!(j==i)&&match ops[j]? with
 |some oj=>!(oj.after.any (fun e=>Region.binds md e&&e.on==i)||oi.apart ops oj)
 |none=>false
/-- No select in it; for each operation: what must have come up before it, and what may not come up behind it if it is taken first. -/
def wV (md:Region.Mode) (ops:Array Oper):Bool×List (List Nat×List Nat):=(Region.noSelect ops,(List.range ops.size).map fun i=>match ops[i]? with
 |some o=>(J8 md o,ZQ md ops i o)
 |none=>([],[]))
def Fv (T:List (List Nat×List Nat)) (l:List Bool) (i:Nat):Bool:=!l.getD i true&&match T[i]? with
 |some r=>r.1.all (fun j=>l.getD j false)
 |none=>false
def MG (T:List (List Nat×List Nat)) (l:List Bool):List Nat:=(List.range T.length).filter (Fv T l)
def abD (T:List (List Nat×List Nat)) (l:List Bool) (i:Nat):Bool:=match T[i]? with
 |some r=>r.2.all (fun j=>l.getD j true)
 |none=>false
def TJ (T:List (List Nat×List Nat)) (l:List Bool):Bool:=(List.range T.length).all fun j=>!l.getD j false||match T[j]? with
 |some r=>r.1.all (fun k=>l.getD k false)
 |none=>true
def QW (T:List (List Nat×List Nat)) (i:Nat):Nat→Nat→Bool
 |0,_=>false
 |fuel+1,d=>match T[d]? with
  |some r=>r.1.any fun j=>j==i||QW T i fuel j
  |none=>false
def lastT (T:List (List Nat×List Nat)) (l:List Bool) (ds:List Nat) (i:Nat):Bool:=ds.all fun d=>l.getD d true||QW T i T.length d
section
variable {md:Region.Mode} {ops:Array Oper} {T:Bool×List (List Nat×List Nat)} {l l' li lj lk:Array Bool} {ds:List Nat} {i j k:Nat}
theorem gd (l:Array Bool) (j:Nat) (b:Bool):l.getD j b=l.toList.getD j b:=by simp[Array.getD_eq_getD_getElem?,List.getD_eq_getElem?_getD]
theorem Xv (o:Oper) (p:Nat→Bool):o.after.all (fun e=>!Region.binds md e||p e.on)=(J8 md o).all p:=by
 unfold J8
 rw[←Array.all_toList]
 induction o.after.toList with
 |nil=>rfl
 |cons e r ih=>
  rw[List.all_cons,ih,List.filter_cons]
  cases h:Region.binds md e<;>simp
theorem ahH (o:Oper) (p:Nat→Bool):o.after.any (fun e=>Region.binds md e&&p e.on)=(J8 md o).any p:=by
 unfold J8
 rw[←Array.any_toList]
 induction o.after.toList with
 |nil=>rfl
 |cons e r ih=>
  rw[List.any_cons,ih,List.filter_cons]
  cases h:Region.binds md e<;>simp
theorem Fz:(wV md ops).2.length=ops.size:=by simp[wV]
theorem J9 {o:Oper} (h:ops[i]? =some o):(wV md ops).2[i]? =some (J8 md o,ZQ md ops i o):=by
 have hi:=(Array.getElem?_eq_some_iff.1 h).1
 unfold wV
 rw[List.getElem?_map,List.getElem?_range hi,Option.map_some,h]
theorem J_ (h:ops[i]? =none):(wV md ops).2[i]? =none:=by
 have hi:ops.size≤i:=Array.getElem?_eq_none_iff.1 h
 exact List.getElem?_eq_none (by rw[Fz];exact hi)
theorem adE:Fv (wV md ops).2 l.toList i=(!l.getD i true&&((ops[i]?).map (·.after.all fun e=>!Region.binds md e||l.getD e.on false)).getD false):=by
 unfold Fv
 rw[gd]
 cases h:ops[i]? with
 |none=>rw[J_ h];rfl
 |some o=>
  rw[J9 h]
  simp only[Option.map_some,Option.getD_some]
  rw[←Xv]
  simp only[gd]
theorem ready_eq:Region.ready md ops l=MG (wV md ops).2 l.toList:=by
 unfold Region.ready MG
 rw[Fz]
 refine List.filter_congr (fun i _=>?_)
 rw[adE]
theorem free_eq:Region.free md ops l i=abD (wV md ops).2 l.toList i:=by
 unfold Region.free abD
 cases h:ops[i]? with
 |none=>rw[J_ h]
 |some oi=>
  rw[J9 h]
  simp only[ZQ]
  rw[List.all_filter]
  congr 1
  funext j
  rw[gd]
  cases hj:ops[j]? with
  |none=>cases (j==i)<;>cases (l.toList.getD j true)<;>simp
  |some oj=>
   cases (j==i)<;>cases (l.toList.getD j true)<;>cases (oj.after.any (fun e=>Region.binds md e&&e.on==i)||oi.apart ops oj)<;>simp_all
theorem ahI:Region.J7 md ops l=TJ (wV md ops).2 l.toList:=by
 unfold Region.J7 TJ
 rw[Fz]
 congr 1
 funext j
 rw[gd]
 cases h:ops[j]? with
 |none=>rw[J_ h]
 |some o=>
  rw[J9 h]
  simp only
  rw[←Xv]
  simp only[gd]
theorem reach_eq:∀(fuel d:Nat),Region.CB md ops i fuel d=QW (wV md ops).2 i fuel d
 |0,_=>rfl
 |fuel+1,d=>by
  unfold Region.CB QW
  cases h:ops[d]? with
  |none=>rw[J_ h]
  |some o=>
   rw[J9 h]
   simp only
   rw[←ahH]
   congr 1
   funext e
   rw[reach_eq fuel]
theorem an9:Region.lastB md ops l ds i=lastT (wV md ops).2 l.toList ds i:=by
 unfold Region.lastB lastT
 rw[Fz]
 congr 1
 funext d
 rw[gd,reach_eq]
theorem RI (h:Fv T.2 l.toList i=true) (hT:wV md ops=T):(Region.ready md ops l).contains i=true:=by
 subst hT
 rw[ready_eq]
 unfold MG
 rw[List.contains_iff_mem,List.mem_filter,List.mem_range]
 refine⟨?_,h⟩
 unfold Fv at h
 rw[Bool.and_eq_true]at h
 cases hq:(wV md ops).2[i]? with
 |none=>rw[hq]at h;simp at h
 |some r=>exact(List.getElem?_eq_some_iff.1 hq).1
theorem JI (h:(l.toList.set i true==l'.toList)=true):(l.setIfInBounds i true==l')=true:=by
 rw[beq_iff_eq]at h⊢
 apply Array.ext'
 rw[Array.toList_setIfInBounds]
 exact h
def aB9 (T:Bool×List (List Nat×List Nat)) (l l':List Bool) (i:Nat):Bool:=T.1&&abD T.2 l i&&Fv T.2 l i&&(l.set i true==l')
/-- pure_'s condition out of the table. -/
theorem auo (hT:wV md ops=T) (h:aB9 T l.toList l'.toList i=true):alE md ops l l' i=true:=by
 simp only[aB9,Bool.and_eq_true]at h
 obtain⟨⟨⟨h1,h2⟩,h3⟩,h4⟩:=h
 have h5:=RI h3 hT
 have h6:=JI h4
 subst hT
 simp only[alE,Bool.and_eq_true]
 exact⟨⟨⟨h1,by rw[free_eq];exact h2⟩,h5⟩,h6⟩
def alN (T:Bool×List (List Nat×List Nat)) (ds:List Nat) (l l':List Bool) (i:Nat):Bool:=T.1&&abD T.2 l i&&Fv T.2 l i&&TJ T.2 l&&lastT T.2 l ds i&&(l.set i true==l')
/-- take_'s. -/
theorem agv (hT:wV md ops=T) (h:alN T ds l.toList l'.toList i=true):takeB md ops ds l l' i=true:=by
 simp only[alN,Bool.and_eq_true]at h
 obtain⟨⟨⟨⟨⟨h1,h2⟩,h3⟩,h4⟩,h5⟩,h6⟩:=h
 have h7:=RI h3 hT
 have h8:=JI h6
 subst hT
 simp only[takeB,Bool.and_eq_true]
 exact⟨⟨⟨⟨⟨h1,by rw[free_eq];exact h2⟩,h7⟩,by rw[ahI];exact h4⟩,by rw[an9];exact h5⟩,h8⟩
/-- one_'s and last_'s. -/
theorem AV (hT:wV md ops=T) (h:(MG T.2 l.toList==[i]&&l.toList.set i true==l'.toList)=true):MF md ops l l' i=true:=by
 simp only[Bool.and_eq_true]at h
 obtain⟨h1,h2⟩:=h
 subst hT
 simp only[MF,Bool.and_eq_true]
 exact⟨by rw[ready_eq];exact h1,JI h2⟩
theorem Qm (hT:wV md ops=T) (h:(MG T.2 l.toList==[i,j]&&l.toList.set i true==li.toList&&l.toList.set j true==lj.toList)=true):(Region.ready md ops l==[i,j]&&l.setIfInBounds i true==li&&l.setIfInBounds j true==lj)=true:=by
 simp only[Bool.and_eq_true]at h⊢
 obtain⟨⟨h1,h2⟩,h3⟩:=h
 subst hT
 exact⟨⟨by rw[ready_eq];exact h1,JI h2⟩,JI h3⟩
theorem alK (hT:wV md ops=T) (h:(MG T.2 l.toList==[i,j,k]&&l.toList.set i true==li.toList&&l.toList.set j true==lj.toList&&l.toList.set k true==lk.toList)=true):
  (Region.ready md ops l==[i,j,k]&&l.setIfInBounds i true==li&&l.setIfInBounds j true==lj&&l.setIfInBounds k true==lk)=true:=by
 simp only[Bool.and_eq_true]at h⊢
 obtain⟨⟨⟨h1,h2⟩,h3⟩,h4⟩:=h
 subst hT
 exact⟨⟨⟨by rw[ready_eq];exact h1,JI h2⟩,JI h3⟩,JI h4⟩
/-- done_'s. -/
theorem xX (hT:wV md ops=T) (h:(MG T.2 l.toList==[])=true):(Region.ready md ops l==[])=true:=by
 subst hT
 rw[ready_eq]
 exact h
/-- What d waits for, as_ bits: told in the table (B), checked in one pass: each bit is a need of d, or a bit of an earlier need's. -/
def upM (B:List Nat) (d:Nat):List Nat→Nat
 |[]=>0
 |n:: r=>(2 ^ n |||(if n<d then B.getD n 0 else 0)) |||upM B d r
def sN (T:List (List Nat×List Nat)) (B:List Nat):Bool:=(List.range T.length).all fun d=>match T[d]? with
 |some r=>(B.getD d 0 |||upM B d r.1)==upM B d r.1
 |none=>false
theorem agx {B:List Nat} {d i:Nat}:∀{ns:List Nat},(upM B d ns).testBit i=true→∃n∈ns,n=i∨(n<d∧(B.getD n 0).testBit i=true)
 |[],h=>by simp[upM]at h
 |n:: r,h=>by
  unfold upM at h
  rw[Nat.testBit_or,Nat.testBit_or,Bool.or_eq_true,Bool.or_eq_true]at h
  rcases h with(h|h)|h
  ·rw[Nat.testBit_two_pow]at h
   exact⟨n,List.mem_cons_self, .inl (by simpa using h)⟩
  ·by_cases hn:n<d
   ·rw[if_pos hn]at h
    exact⟨n,List.mem_cons_self, .inr ⟨hn,h⟩⟩
   ·rw[if_neg hn]at h
    simp at h
  ·obtain⟨m,hm,h2⟩:=agx h
   exact⟨m,List.mem_cons_of_mem _ hm,h2⟩
theorem Xw {T:List (List Nat×List Nat)} {B:List Nat} (hB:sN T B=true):∀(fuel d:Nat),d<fuel→d<T.length→(B.getD d 0).testBit i=true→QW T i fuel d=true
 |0,d,h,_,_=>by omega
 |fuel+1,d,h,hd,hb=>by
  have h1:=List.all_eq_true.1 hB d (List.mem_range.2 hd)
  cases hr:T[d]? with
  |none=>rw[hr]at h1;simp at h1
  |some r=>
   rw[hr]at h1
   simp only[beq_iff_eq]at h1
   have h2:(upM B d r.1).testBit i=true:=by rw[←h1,Nat.testBit_or,hb,Bool.true_or]
   obtain⟨n,hn,h3⟩:=agx h2
   unfold QW
   rw[hr]
   simp only
   rw[List.any_eq_true]
   refine⟨n,hn,?_⟩
   rcases h3 with rfl|⟨h4,h5⟩
   ·simp
   ·rw[Xw hB fuel n (by omega) (by omega) h5,Bool.or_true]
def aq2 (T:List (List Nat×List Nat)) (B:List Nat) (l:List Bool) (ds:List Nat) (i:Nat):Bool:=ds.all fun d=>l.getD d true||(decide (d<T.length)&&(B.getD d 0).testBit i)
def aq3 (T:Bool×List (List Nat×List Nat)) (B:List Nat) (ds:List Nat) (l l':List Bool) (i:Nat):Bool:=T.1&&abD T.2 l i&&Fv T.2 l i&&TJ T.2 l&&aq2 T.2 B l ds i&&(l.set i true==l')
/-- take_'s, by the bits. -/
theorem alJ {B:List Nat} (hT:wV md ops=T) (hB:sN T.2 B=true) (h:aq3 T B ds l.toList l'.toList i=true):takeB md ops ds l l' i=true:=by
 refine agv hT ?_
 simp only[aq3,alN,Bool.and_eq_true]at h⊢
 obtain⟨⟨⟨⟨⟨h1,h2⟩,h3⟩,h4⟩,h5⟩,h6⟩:=h
 refine⟨⟨⟨⟨⟨h1,h2⟩,h3⟩,h4⟩,?_⟩,h6⟩
 unfold aq2 at h5
 unfold lastT
 rw[List.all_eq_true]at h5⊢
 intro d hd
 have h7:=h5 d hd
 rw[Bool.or_eq_true,Bool.and_eq_true,decide_eq_true_eq]at h7
 rcases h7 with h7|⟨h8,h9⟩
 ·rw[h7,Bool.true_or]
 ·rw[Xw hB _ d h8 h8 h9,Bool.or_true]
theorem su {P:Program} {Q:Exit→Act→World→Prop} {S:World→Prop} {n:Nat} {a:Act} {w:World} {B:List Nat} (hT:wV md ops=T) (hB:sN T.2 B=true) (h:ah (wV md ops=T)→ah (sN T.2 B=true)→dh P md ops Q S ds n l a w):dh P md ops Q S ds n l a w:=h ⟨hT⟩ ⟨hB⟩
end
/-- The operations of a region, by its number. -/
def KX:Code→Nat→Option (Array Oper)
 | .region id ops _,k=>if id==k then some ops else none
 | .seq a b,k=>match KX a k with
  |some o=>some o
  |none=>KX b k
 | .cond _ a b,k=>match KX a k with
  |some o=>some o
  |none=>KX b k
 | .block _ c,k=>KX c k
 | .loop c,k=>KX c k
 | .scope c,k=>KX c k
 | .rangeFunc _ _ a b,k=>match KX a k with
  |some o=>some o
  |none=>KX b k
 |_,_=>none
def opsOf (f:Func) (k:Nat):Array Oper:=((f.body.bind fun c=>KX c k)).getD #[]
end Go.Proofs.YtncdadcmghglkaaGreatDoorW.kX
