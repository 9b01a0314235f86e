-- PRINTED BY print.sh 35421559b90ae4d0a3588c463048766b98c2df88dd9212a6774a882060cdf62d: not written by this session
import Derived.Test.YtncdadcmghglkaaGreatDoorVFnKidLinesLast
import Derived.Test.YtncdadcmghglkaaGreatDoorVFnKidLinesWords
/-! ### 50. A region's order in a table, made once a region: each step asks the table (numbers alone), not the operations -/
-- dense
namespace Go.Proofs.YtncdadcmghglkaaGreatDoorW.kY
open Go.Proofs.YtncdadcmghglkaaGreatDoorW.dS (ah)
def Il (md:Region.Mode) (o:Oper):List Nat:=(o.after.toList.filter (fun e=>Region.binds md e)).map (fun e=>e.on)
def WC (md:Region.Mode) (ops:Array Oper) (i:Nat) (oi:Oper):List Nat:=(List.range ops.size).filter fun j=>!(j==i)&&match ops[j]? with
 |some oj=>!(oj.after.any (fun e=>Region.binds md e&&e.on==i)||oi.apart ops oj)
 |none=>false
/-- No select in it; for each operation: what must have come up before it, and what may not come up behind it if it is taken first. -/
def wG (md:Region.Mode) (ops:Array Oper):Bool×List (List Nat×List Nat):=(Region.noSelect ops,(List.range ops.size).map fun i=>match ops[i]? with
 |some o=>(Il md o,WC md ops i o)
 |none=>([],[]))
def DL (T:List (List Nat×List Nat)) (l:List Bool) (i:Nat):Bool:=!l.getD i true&&match T[i]? with
 |some r=>r.1.all (fun j=>l.getD j false)
 |none=>false
def JO (T:List (List Nat×List Nat)) (l:List Bool):List Nat:=(List.range T.length).filter (DL T l)
def Yf (T:List (List Nat×List Nat)) (l:List Bool) (i:Nat):Bool:=match T[i]? with
 |some r=>r.2.all (fun j=>l.getD j true)
 |none=>false
def Qg (T:List (List Nat×List Nat)) (l:List Bool):Bool:=(List.range T.length).all fun j=>!l.getD j false||match T[j]? with
 |some r=>r.1.all (fun k=>l.getD k false)
 |none=>true
def Oj (T:List (List Nat×List Nat)) (i:Nat):Nat→Nat→Bool
 |0,_=>false
 |fuel+1,d=>match T[d]? with
  |some r=>r.1.any fun j=>j==i||Oj T i fuel j
  |none=>false
def lastT (T:List (List Nat×List Nat)) (l:List Bool) (ds:List Nat) (i:Nat):Bool:=ds.all fun d=>l.getD d true||Oj T i T.length d
section
variable {md:Region.Mode} {ops:Array Oper} {T:Bool×List (List Nat×List Nat)} {l l' li lj lk:Array Bool} {ds:List Nat} {i j k:Nat}
theorem gd (l:Array Bool) (j:Nat) (b:Bool):l.getD j b=l.toList.getD j b:=by simp[Array.getD_eq_getD_getElem?,List.getD_eq_getElem?_getD]
theorem Uw (o:Oper) (p:Nat→Bool):o.after.all (fun e=>!Region.binds md e||p e.on)=(Il md o).all p:=by
 unfold Il
 rw[←Array.all_toList]
 induction o.after.toList with
 |nil=>rfl
 |cons e r ih=>
  rw[List.all_cons,ih,List.filter_cons]
  cases h:Region.binds md e<;>simp
theorem adK (o:Oper) (p:Nat→Bool):o.after.any (fun e=>Region.binds md e&&p e.on)=(Il md o).any p:=by
 unfold Il
 rw[←Array.any_toList]
 induction o.after.toList with
 |nil=>rfl
 |cons e r ih=>
  rw[List.any_cons,ih,List.filter_cons]
  cases h:Region.binds md e<;>simp
theorem DN:(wG md ops).2.length=ops.size:=by simp[wG]
theorem Io {o:Oper} (h:ops[i]? =some o):(wG md ops).2[i]? =some (Il md o,WC md ops i o):=by
 have hi:=(Array.getElem?_eq_some_iff.1 h).1
 unfold wG
 rw[List.getElem?_map,List.getElem?_range hi,Option.map_some,h]
theorem Ip (h:ops[i]? =none):(wG md ops).2[i]? =none:=by
 have hi:ops.size≤i:=Array.getElem?_eq_none_iff.1 h
 exact List.getElem?_eq_none (by rw[DN];exact hi)
theorem ZL:DL (wG md ops).2 l.toList i=(!l.getD i true&&((ops[i]?).map (·.after.all fun e=>!Region.binds md e||l.getD e.on false)).getD false):=by
 unfold DL
 rw[gd]
 cases h:ops[i]? with
 |none=>rw[Ip h];rfl
 |some o=>
  rw[Io h]
  simp only[Option.map_some,Option.getD_some]
  rw[←Uw]
  simp only[gd]
theorem ready_eq:Region.ready md ops l=JO (wG md ops).2 l.toList:=by
 unfold Region.ready JO
 rw[DN]
 refine List.filter_congr (fun i _=>?_)
 rw[ZL]
theorem free_eq:Region.free md ops l i=Yf (wG md ops).2 l.toList i:=by
 unfold Region.free Yf
 cases h:ops[i]? with
 |none=>rw[Ip h]
 |some oi=>
  rw[Io h]
  simp only[WC]
  rw[List.all_filter]
  congr 1
  funext j
  rw[gd]
  cases hj:ops[j]? with
  |none=>cases (j==i)<;>cases (l.toList.getD j true)<;>simp
  |some oj=>
   cases (j==i)<;>cases (l.toList.getD j true)<;>cases (oj.after.any (fun e=>Region.binds md e&&e.on==i)||oi.apart ops oj)<;>simp_all
theorem adL:Region.Ik md ops l=Qg (wG md ops).2 l.toList:=by
 unfold Region.Ik Qg
 rw[DN]
 congr 1
 funext j
 rw[gd]
 cases h:ops[j]? with
 |none=>rw[Ip h]
 |some o=>
  rw[Io h]
  simp only
  rw[←Uw]
  simp only[gd]
theorem reach_eq:∀(fuel d:Nat),Region.Ap md ops i fuel d=Oj (wG md ops).2 i fuel d
 |0,_=>rfl
 |fuel+1,d=>by
  unfold Region.Ap Oj
  cases h:ops[d]? with
  |none=>rw[Ip h]
  |some o=>
   rw[Io h]
   simp only
   rw[←adK]
   congr 1
   funext e
   rw[reach_eq fuel]
theorem ajP:Region.lastB md ops l ds i=lastT (wG md ops).2 l.toList ds i:=by
 unfold Region.lastB lastT
 rw[DN]
 congr 1
 funext d
 rw[gd,reach_eq]
theorem OY (h:DL T.2 l.toList i=true) (hT:wG md ops=T):(Region.ready md ops l).contains i=true:=by
 subst hT
 rw[ready_eq]
 unfold JO
 rw[List.contains_iff_mem,List.mem_filter,List.mem_range]
 refine⟨?_,h⟩
 unfold DL at h
 rw[Bool.and_eq_true]at h
 cases hq:(wG md ops).2[i]? with
 |none=>rw[hq]at h;simp at h
 |some r=>exact(List.getElem?_eq_some_iff.1 hq).1
theorem Hw (h:(l.toList.set i true==l'.toList)=true):(l.setIfInBounds i true==l')=true:=by
 rw[beq_iff_eq]at h⊢
 apply Array.ext'
 rw[Array.toList_setIfInBounds]
 exact h
def ax8 (T:Bool×List (List Nat×List Nat)) (l l':List Bool) (i:Nat):Bool:=T.1&&Yf T.2 l i&&DL T.2 l i&&(l.set i true==l')
/-- pure_'s condition out of the table. -/
theorem apV (hT:wG md ops=T) (h:ax8 T l.toList l'.toList i=true):ahv md ops l l' i=true:=by
 simp only[ax8,Bool.and_eq_true]at h
 obtain⟨⟨⟨h1,h2⟩,h3⟩,h4⟩:=h
 have h5:=OY h3 hT
 have h6:=Hw h4
 subst hT
 simp only[ahv,Bool.and_eq_true]
 exact⟨⟨⟨h1,by rw[free_eq];exact h2⟩,h5⟩,h6⟩
def ahC (T:Bool×List (List Nat×List Nat)) (ds:List Nat) (l l':List Bool) (i:Nat):Bool:=T.1&&Yf T.2 l i&&DL T.2 l i&&Qg T.2 l&&lastT T.2 l ds i&&(l.set i true==l')
/-- take_'s. -/
theorem acF (hT:wG md ops=T) (h:ahC T ds l.toList l'.toList i=true):takeB md ops ds l l' i=true:=by
 simp only[ahC,Bool.and_eq_true]at h
 obtain⟨⟨⟨⟨⟨h1,h2⟩,h3⟩,h4⟩,h5⟩,h6⟩:=h
 have h7:=OY h3 hT
 have h8:=Hw h6
 subst hT
 simp only[takeB,Bool.and_eq_true]
 exact⟨⟨⟨⟨⟨h1,by rw[free_eq];exact h2⟩,h7⟩,by rw[adL];exact h4⟩,by rw[ajP];exact h5⟩,h8⟩
/-- one_'s and last_'s. -/
theorem BG (hT:wG md ops=T) (h:(JO T.2 l.toList==[i]&&l.toList.set i true==l'.toList)=true):JM md ops l l' i=true:=by
 simp only[Bool.and_eq_true]at h
 obtain⟨h1,h2⟩:=h
 subst hT
 simp only[JM,Bool.and_eq_true]
 exact⟨by rw[ready_eq];exact h1,Hw h2⟩
theorem VF (hT:wG md ops=T) (h:(JO T.2 l.toList==[i,j]&&l.toList.set i true==li.toList&&l.toList.set j true==lj.toList)=true):(Region.ready md ops l==[i,j]&&l.setIfInBounds i true==li&&l.setIfInBounds j true==lj)=true:=by
 simp only[Bool.and_eq_true]at h⊢
 obtain⟨⟨h1,h2⟩,h3⟩:=h
 subst hT
 exact⟨⟨by rw[ready_eq];exact h1,Hw h2⟩,Hw h3⟩
theorem ahA (hT:wG md ops=T) (h:(JO T.2 l.toList==[i,j,k]&&l.toList.set i true==li.toList&&l.toList.set j true==lj.toList&&l.toList.set k true==lk.toList)=true):
  (Region.ready md ops l==[i,j,k]&&l.setIfInBounds i true==li&&l.setIfInBounds j true==lj&&l.setIfInBounds k true==lk)=true:=by
 simp only[Bool.and_eq_true]at h⊢
 obtain⟨⟨⟨h1,h2⟩,h3⟩,h4⟩:=h
 subst hT
 exact⟨⟨⟨by rw[ready_eq];exact h1,Hw h2⟩,Hw h3⟩,Hw h4⟩
/-- done_'s. -/
theorem y9 (hT:wG md ops=T) (h:(JO T.2 l.toList==[])=true):(Region.ready md ops l==[])=true:=by
 subst hT
 rw[ready_eq]
 exact h
/-- What d waits for, as_ bits: told in the table (B), checked in one pass: each bit is a need of d, or a bit of an earlier need's. -/
def upM (B:List Nat) (d:Nat):List Nat→Nat
 |[]=>0
 |n:: r=>(2 ^ n |||(if n<d then B.getD n 0 else 0)) |||upM B d r
def uy (T:List (List Nat×List Nat)) (B:List Nat):Bool:=(List.range T.length).all fun d=>match T[d]? with
 |some r=>(B.getD d 0 |||upM B d r.1)==upM B d r.1
 |none=>false
theorem acG {B:List Nat} {d i:Nat}:∀{ns:List Nat},(upM B d ns).testBit i=true→∃n∈ns,n=i∨(n<d∧(B.getD n 0).testBit i=true)
 |[],h=>by simp[upM]at h
 |n:: r,h=>by
  unfold upM at h
  rw[Nat.testBit_or,Nat.testBit_or,Bool.or_eq_true,Bool.or_eq_true]at h
  rcases h with(h|h)|h
  ·rw[Nat.testBit_two_pow]at h
   exact⟨n,List.mem_cons_self, .inl (by simpa using h)⟩
  ·by_cases hn:n<d
   ·rw[if_pos hn]at h
    exact⟨n,List.mem_cons_self, .inr ⟨hn,h⟩⟩
   ·rw[if_neg hn]at h
    simp at h
  ·obtain⟨m,hm,h2⟩:=acG h
   exact⟨m,List.mem_cons_of_mem _ hm,h2⟩
theorem Ux {T:List (List Nat×List Nat)} {B:List Nat} (hB:uy T B=true):∀(fuel d:Nat),d<fuel→d<T.length→(B.getD d 0).testBit i=true→Oj T i fuel d=true
 |0,d,h,_,_=>by omega
 |fuel+1,d,h,hd,hb=>by
  have h1:=List.all_eq_true.1 hB d (List.mem_range.2 hd)
  cases hr:T[d]? with
  |none=>rw[hr]at h1;simp at h1
  |some r=>
   rw[hr]at h1
   simp only[beq_iff_eq]at h1
   have h2:(upM B d r.1).testBit i=true:=by rw[←h1,Nat.testBit_or,hb,Bool.true_or]
   obtain⟨n,hn,h3⟩:=acG h2
   unfold Oj
   rw[hr]
   simp only
   rw[List.any_eq_true]
   refine⟨n,hn,?_⟩
   rcases h3 with rfl|⟨h4,h5⟩
   ·simp
   ·rw[Ux hB fuel n (by omega) (by omega) h5,Bool.or_true]
def amZ (T:List (List Nat×List Nat)) (B:List Nat) (l:List Bool) (ds:List Nat) (i:Nat):Bool:=ds.all fun d=>l.getD d true||(decide (d<T.length)&&(B.getD d 0).testBit i)
def am0 (T:Bool×List (List Nat×List Nat)) (B:List Nat) (ds:List Nat) (l l':List Bool) (i:Nat):Bool:=T.1&&Yf T.2 l i&&DL T.2 l i&&Qg T.2 l&&amZ T.2 B l ds i&&(l.set i true==l')
/-- take_'s, by the bits. -/
theorem ahz {B:List Nat} (hT:wG md ops=T) (hB:uy T.2 B=true) (h:am0 T B ds l.toList l'.toList i=true):takeB md ops ds l l' i=true:=by
 refine acF hT ?_
 simp only[am0,ahC,Bool.and_eq_true]at h⊢
 obtain⟨⟨⟨⟨⟨h1,h2⟩,h3⟩,h4⟩,h5⟩,h6⟩:=h
 refine⟨⟨⟨⟨⟨h1,h2⟩,h3⟩,h4⟩,?_⟩,h6⟩
 unfold amZ at h5
 unfold lastT
 rw[List.all_eq_true]at h5⊢
 intro d hd
 have h7:=h5 d hd
 rw[Bool.or_eq_true,Bool.and_eq_true,decide_eq_true_eq]at h7
 rcases h7 with h7|⟨h8,h9⟩
 ·rw[h7,Bool.true_or]
 ·rw[Ux hB _ d h8 h8 h9,Bool.or_true]
theorem t_ {P:Program} {Q:Exit→Act→World→Prop} {S:World→Prop} {n:Nat} {a:Act} {w:World} {B:List Nat} (hT:wG md ops=T) (hB:uy T.2 B=true) (h:ah (wG md ops=T)→ah (uy T.2 B=true)→bU P md ops Q S ds n l a w):bU P md ops Q S ds n l a w:=h ⟨hT⟩ ⟨hB⟩
end
/-- The operations of a region, by its number. -/
def Jb:Code→Nat→Option (Array Oper)
 | .region id ops _,k=>if id==k then some ops else none
 | .seq a b,k=>match Jb a k with
  |some o=>some o
  |none=>Jb b k
 | .cond _ a b,k=>match Jb a k with
  |some o=>some o
  |none=>Jb b k
 | .block _ c,k=>Jb c k
 | .loop c,k=>Jb c k
 | .scope c,k=>Jb c k
 | .rangeFunc _ _ a b,k=>match Jb a k with
  |some o=>some o
  |none=>Jb b k
 |_,_=>none
def opsOf (f:Func) (k:Nat):Array Oper:=((f.body.bind fun c=>Jb c k)).getD #[]
end Go.Proofs.YtncdadcmghglkaaGreatDoorW.kY
