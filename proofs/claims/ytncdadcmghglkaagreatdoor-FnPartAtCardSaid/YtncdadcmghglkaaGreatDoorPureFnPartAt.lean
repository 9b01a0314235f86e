/- Proved here: the pure form of the law FnPartAt (paths lead to parts) returns true for all arguments; conditions: none beyond those that the printed statement bears. -/
import Derived.Test.YtncdadcmghglkaaGreatDoorPFnPartAtx36
import Derived.Test.YtncdadcmghglkaaGreatDoorVFnPartAtZbt
import Derived.Test.YtncdadcmghglkaaGreatDoorVFnPartAtMore
import Derived.Lib.TrimByte
import Derived.Lib.CutLaws
import Derived.Lib.ReplaceLaws
import Derived.Lib.Join
import Derived.Lib.JoinLaws
import Derived.Lib.Split
import Derived.Lib.CountLaws
-- dense
namespace Go.Proofs.YtncdadcmghglkaaGreatDoor.Pure
open Go.Proofs.YtncdadcmghglkaaGreatDoorW.kD Go.RowKit Go.Proofs.YtncdadcmghglkaaGreatDoor.X Go.Proofs.YtncdadcmghglkaaGreatDoor.PFnPartAt Go.Proofs.YtncdadcmghglkaaGreatDoorW.bQ Go.Proofs.YtncdadcmghglkaaGreatDoorW.jm Go.Proofs.YtncdadcmghglkaaGreatDoor.Z
set_option linter.unusedVariables false
set_option linter.unusedSimpArgs false
/-! Several answers from one number of rounds on. -/
def Evp (p:Nat→Prop):Prop:=∃K,∀k,K≤k→p k
theorem BL {α:Type} {g:Nat→Option α} {r:α} (h:Ev g r):Evp (fun k=>g k=some r):=h
theorem AP {p q:Nat→Prop} (h:Evp p) (h2:Evp q):Evp (fun k=>p k∧q k):=by
 obtain⟨K,h⟩:=h
 obtain⟨M,h2⟩:=h2
 exact⟨K+M,fun k hk=>⟨h k (by omega),h2 k (by omega)⟩⟩
theorem abm {p:Nat→Prop} (h:Evp p):∃k,p k:=by
 obtain⟨K,h⟩:=h
 exact⟨K,h K (Nat.le_refl _)⟩
def stp {α:Type} [DecidableEq α] (r:List α) (c:α):Bool ⊕ List α:=match r with
 |[]=> .inl false
 |d:: r=>if c=d then .inr r else .inl false
theorem abn {α:Type} [DecidableEq α] (a b:List α) (hl:a.length=b.length):run stp (fun _=>true) a b=decide (a=b):=by
 induction a generalizing b with
 |nil=>cases b with
  |nil=>rfl
  |cons d b=>simp at hl
 |cons c a ih=>cases b with
  |nil=>simp at hl
  |cons d b=>
   unfold run
   by_cases e:c=d
   ·simp only[stp,if_pos e];rw[ih b (by simpa using hl)];simp[e]
   ·simp only[stp,if_neg e];simp[e]
/-! Texts that came in: their size, a copy, and the same again. -/
def ER:List Str→Nat
 |[]=>0
 |c:: r=>c.length+ER r
theorem Vk (a b:List Str):ER (a++b)=ER a+ER b:=by
 induction a with
 |nil=>simp[ER]
 |cons c a ih=>simp only[List.cons_append,ER,ih];omega
theorem ZI {a:List Str} {c:Str} (h:c∈a):c.length≤ER a:=by
 induction a with
 |nil=>cases h
 |cons d a ih=>
  simp only[ER]
  rcases List.mem_cons.mp h with rfl|h
  ·omega
  ·have:=ih h;omega
/-! Fields that came in: pairs of texts. -/
def uU (p:Str×Str):fP:=⟨aY p.1,aY p.2⟩
def Es:List (Str×Str)→Nat
 |[]=>0
 |c:: r=>c.1.length+c.2.length+Es r
theorem aoq {a:List (Str×Str)} {c:Str×Str} (h:c∈a):c.1.length+c.2.length≤Es a:=by
 induction a with
 |nil=>cases h
 |cons d a ih=>
  simp only[Es]
  rcases List.mem_cons.mp h with rfl|h
  ·omega
  ·have:=ih h;omega
theorem yt {ls p r:List (Str×Str)} {c:Str×Str} (h:ls=p++c:: r):dU (ls.map uU) (p.length:Int)=uU c:=by
 unfold dU
 rw[List.getD_eq_getElem?_getD,h]
 simp
def sane (ls:List (Str×Str)):Prop:=∀x∈ls,x.1.length≤9223372036854775807∧x.2.length≤9223372036854775807
/-! Parts: rows of texts, and parts within parts. -/
inductive Pt where
 |mk (f:List (Str×Str)) (b:List Str) (k:List Pt)
mutual
def e32:Pt→jV
 | .mk f b k=>⟨f.map uU,b.map aY,aor k⟩
def aor:List Pt→List jV
 |[]=>[]
 |p:: r=>e32 p:: aor r
end
theorem alC (k:List Pt):aor k=k.map e32:=by
 induction k with
 |nil=>rfl
 |cons p r ih=>rw[aor,ih];rfl
theorem vS (f:List (Str×Str)) (b:List Str) (k:List Pt):e32 (.mk f b k)=⟨f.map uU,b.map aY,k.map e32⟩:=by rw[e32,alC]
theorem AQ {ls p r:List Pt} {c:Pt} (h:ls=p++c:: r):au (ls.map e32) (p.length:Int)=e32 c:=by
 unfold au
 rw[List.getD_eq_getElem?_getD,h]
 simp
mutual
def Et:Pt→Nat
 | .mk f b k=>f.length+Es f+b.length+ER b+k.length+Ia k
def Ia:List Pt→Nat
 |[]=>0
 |p:: r=>Et p+Ia r
end
theorem Gx {k:List Pt} {p:Pt} (h:p∈k):Et p≤Ia k:=by
 induction k with
 |nil=>cases h
 |cons d a ih=>
  rw[Ia]
  rcases List.mem_cons.mp h with rfl|h
  ·omega
  ·have:=ih h;omega
mutual
def smt:Pt→Pt→Bool
 | .mk f b k, .mk g c l=>decide (f=g)&&(decide (b=c)&&(decide (k.length=l.length)&&abo k l))
def abo:List Pt→List Pt→Bool
 |[],_=>true
 |_:: _,[]=>false
 |p:: r,q:: s=>smt p q&&abo r s
end
/-- What holds of a part if it holds of it where it holds of all its parts. -/
theorem Me {P:Pt→Prop} (h:∀f b k,(∀p∈k,P p)→P (.mk f b k)) (p:Pt):P p:=by
 have key:∀(n:Nat) (p:Pt),SizeOf.sizeOf p<n→P p:=by
  intro n
  induction n with
  |zero=>intro p hp;omega
  |succ n ih=>
   intro p hp
   cases p with
   |mk f b k=>
    refine h f b k fun q hq=>ih q ?_
    have:=List.sizeOf_lt_of_mem hq
    simp only[Pt.mk.sizeOf_spec]at hp
    omega
 exact key _ p (Nat.lt_succ_self _)
/-! The reader of draws. -/
theorem adA (a b:Nat) (ha:a<9223372036854775808) (hb:b<9223372036854775808):Go.bits .xor .i64 (a:Int) (b:Int)=((a ^^^ b:Nat):Int):=by
 have hx:a ^^^ b<2 ^ 63:=Nat.xor_lt_two_pow (by omega) (by omega)
 have h1:(BitVec.ofInt 64 (a:Int)).toNat=a:=by
  rw[BitVec.ofInt_natCast,BitVec.toNat_ofNat];exact Nat.mod_eq_of_lt (by omega)
 have h2:(BitVec.ofInt 64 (b:Int)).toNat=b:=by
  rw[BitVec.ofInt_natCast,BitVec.toNat_ofNat];exact Nat.mod_eq_of_lt (by omega)
 show IntKind.i64.wrap ((BitVec.ofInt 64 (a:Int) ^^^ BitVec.ofInt 64 (b:Int)).toNat:Int)=_
 rw[BitVec.toNat_xor,h1,h2]
 rw[jo]
 exact aU (by omega) (by omega)
theorem tmod_in {a b:Int} (ha:0≤a) (hb:1≤b):0≤Int.tmod a b∧Int.tmod a b<b:=by
 rw[Int.tmod_eq_emod_of_nonneg ha]
 exact⟨Int.emod_nonneg _ (by omega),Int.emod_lt_of_pos _ (by omega)⟩
/-- What is known of the bytes that are drawn from. -/
def IsB (l:List Int):Prop:=l.length≤2000∧∀x∈l,0≤x∧x≤255
theorem agu {l:List Int} (h:IsB l) (i:Int):0≤rd l i∧rd l i≤255:=by
 unfold rd
 rw[List.getD_eq_getElem?_getD]
 cases e:l[i.toNat]? with
 |none=>simp
 |some x=>exact h.2 x (List.mem_of_getElem? e)
theorem Ko (l:List Int) (p n:Int) (hl:IsB l) (h0:0≤p) (h1:p≤1000000000) (hn:1≤n) (hn2:n≤1000000000):
  ∃v,Ev (fun k=>dA.f k l p n) (v,p+1)∧0≤v∧v<n:=by
 have hw:wrap64 (p+1)=p+1:=aU (by omega) (by omega)
 have hw2:wrap64 (p+1-1)=p:=by rw[aU (by omega) (by omega)];omega
 have hlen:=hl.1
 unfold dA.f
 rw[hw]
 by_cases he:(l.length:Int)=0
 ·refine⟨0,vn (by omega) (vc ?_),by omega,by omega⟩
  simp only[dA.j0]
  refine vp ?_ (vs _)
  rw[he];rfl
 have hb:((l.length:Int)==0)=false:=by simp at he⊢;exact he
 rw[hb]
 by_cases hlt:p<(l.length:Int)
 ·have hv:=tmod_in (agu hl p).1 hn
  have hr:wrap64 (rd l p)=rd l p:=by have:=agu hl p;exact aU (by omega) (by omega)
  refine⟨Int.tmod (rd l p) n,vn (by omega) (vc ?_),hv.1,hv.2⟩
  simp only[dA.j0,hw2,hr]
  exact vn (by simp) (vp hlt (vp h0 (vn (by omega) (vs _))))
 ·have hq:=tmod_in h0 (b:=(l.length:Int)) (by omega)
  have hm:wrap64 (wrap64 (p*7)+3)=p*7+3:=by rw[aU (x:=p*7) (by omega) (by omega),aU (by omega) (by omega)]
  have hq2:=tmod_in (a:=p*7+3) (by omega) (b:=(l.length:Int)) (by omega)
  have r1:=agu hl (Int.tmod p l.length)
  have r2:=agu hl (Int.tmod (p*7+3) l.length)
  generalize hA:rd l (Int.tmod p l.length)=A at r1
  generalize hB:rd l (Int.tmod (p*7+3) l.length)=B at r2
  have hd:0≤Int.tdiv p l.length∧Int.tdiv p l.length≤p:=by
   rw[Int.tdiv_eq_ediv_of_nonneg h0]
   refine⟨Int.ediv_nonneg h0 (by omega),Int.ediv_le_self _ h0⟩
  generalize hD:Int.tdiv p l.length=D at hd
  have w1:wrap64 A=A:=aU (by omega) (by omega)
  have w2:wrap64 B=B:=aU (by omega) (by omega)
  have w3:wrap64 (A*131)=A*131:=aU (by omega) (by omega)
  have w4:wrap64 (B*1117)=B*1117:=aU (by omega) (by omega)
  have w5:wrap64 (A*131+B*1117)=A*131+B*1117:=aU (by omega) (by omega)
  have w6:wrap64 (p*29)=p*29:=aU (by omega) (by omega)
  have w7:wrap64 (A*131+B*1117+p*29)=A*131+B*1117+p*29:=aU (by omega) (by omega)
  have w8:wrap64 D=D:=aU (by omega) (by omega)
  have w9:wrap64 (D*53)=D*53:=aU (by omega) (by omega)
  have w10:wrap64 (A*131+B*1117+p*29+D*53)=A*131+B*1117+p*29+D*53:=aU (by omega) (by omega)
  have hX:0≤A*131+B*1117+p*29+D*53∧A*131+B*1117+p*29+D*53<9223372036854775808:=by omega
  generalize hXX:A*131+B*1117+p*29+D*53=X at hX w10
  have hX2:0≤Int.tdiv X 64∧Int.tdiv X 64≤X:=by
   rw[Int.tdiv_eq_ediv_of_nonneg hX.1]
   refine⟨Int.ediv_nonneg hX.1 (by omega),Int.ediv_le_self _ hX.1⟩
  have V6:wrap64 (Int.tdiv X 64)=Int.tdiv X 64:=aU (by omega) (by omega)
  have aHu:0≤Go.bits .xor .i64 X (Int.tdiv X 64):=by
   obtain⟨a,ha⟩:=Int.eq_ofNat_of_zero_le hX.1
   obtain⟨b,hb⟩:=Int.eq_ofNat_of_zero_le hX2.1
   rw[hb,ha,adA _ _ (by omega) (by omega)]
   omega
  have hv:=tmod_in aHu hn
  refine⟨Int.tmod (Go.bits .xor .i64 X (Int.tdiv X 64)) n,vn (by omega) (vc ?_),hv.1,hv.2⟩
  simp only[dA.j0,hw2,hm,hA,hB,hD,w1,w2,w3,w4,w5,w6,w7,w8,w9,hXX,w10,V6]
  exact vn (by simp) (vn hlt (vn he (vp hq.1 (vp hq.2 (vp hq2.1 (vp hq2.2 (vn (by omega) (vs _))))))))
theorem abp {l:List Int} (h:∀x∈l,(Lit.int .u8 x).wf=true) (n:Nat) (hn:(l.take n).length≤2000):IsB (l.take n):=by
 refine⟨hn,fun x hx=>?_⟩
 have:=h x (List.mem_of_mem_take hx)
 simp[Lit.wf,IntKind.min,IntKind.max,IntKind.bits,IntKind.signed]at this
 omega
theorem aCu (l:List Int) (p:Int) (ws:List ByteArray) (hl:IsB l) (h0:0≤p) (h1:p≤1000000000) (hn:1≤ws.length) (hn2:ws.length≤1000000):
  ∃v,Ev (fun k=>fU.f k l p ws) (v,p+1)∧v∈ws:=by
 obtain⟨i,hi,i0,i1⟩:=Ko l p ws.length hl h0 h1 (by omega) (by omega)
 have hlt:i.toNat<ws.length:=by omega
 refine⟨qH ByteArray.empty ws i,?_,?_⟩
 ·unfold fU.f
  exact vb hi (vp i0 (vp i1 (vs _)))
 ·unfold qH
  rw[List.getD_eq_getElem?_getD,List.getElem?_eq_getElem hlt]
  exact List.getElem_mem hlt
theorem QI (l:List Int) (p:Int) (ws:List Int) (hl:IsB l) (h0:0≤p) (h1:p≤1000000000) (hn:1≤ws.length) (hn2:ws.length≤1000000):
  ∃v,Ev (fun k=>jr.f k l p ws) (v,p+1)∧v∈ws:=by
 obtain⟨i,hi,i0,i1⟩:=Ko l p ws.length hl h0 h1 (by omega) (by omega)
 have hlt:i.toNat<ws.length:=by omega
 refine⟨rd ws i,?_,?_⟩
 ·unfold jr.f
  exact vb hi (vp i0 (vp i1 (vs _)))
 ·unfold rd
  rw[List.getD_eq_getElem?_getD,List.getElem?_eq_getElem hlt]
  exact List.getElem_mem hlt
theorem agv (l:List Int) (h:∀x∈l,(Lit.int .u8 x).wf=true):∃l',sU.f l=some (l',0)∧IsB l':=by
 unfold sU.f
 by_cases hc:(l.length:Int)>2000
 ·refine⟨l.take 2000,?_,abp h 2000 (by rw[List.length_take];omega)⟩
  rw[if_pos hc,if_pos (by omega)]
 ·refine⟨l,by rw[if_neg hc],?_⟩
  have:=abp h l.length (by rw[List.take_length];omega)
  rwa [List.take_length]at this
theorem Gy {n:Int} {ws:List Int} (h:n∈ws) (m:Nat) (hm:∀x∈ws,0≤x∧x≤(m:Int)):∃k:Nat,n=(k:Int)∧k≤m:=by
 have:=hm n h
 exact⟨n.toNat,by omega,by omega⟩
theorem Vl {ps p r:List (List Str)} {c:List Str} (h:ps=p++c:: r):Ba (ps.map (List.map aY)) (p.length:Int)=c.map aY:=by
 unfold Ba
 rw[List.getD_eq_getElem?_getD,h]
 simp
/-- How many lines there are, one more counted for each part. -/
def tl:List (List Str)→Nat
 |[]=>0
 |c:: r=>c.length+1+tl r
theorem Gz (a b:List (List Str)):tl (a++b)=tl a+tl b:=by
 induction a with
 |nil=>simp[tl]
 |cons c a ih=>simp only[List.cons_append,tl,ih];omega
theorem ZJ (a:List (List Str)):a.length≤tl a:=by
 induction a with
 |nil=>simp[tl]
 |cons c a ih=>simp only[List.length_cons,tl];omega
theorem auJ {a:List (List Str)} {c:List Str} (h:c∈a):c.length≤tl a:=by
 induction a with
 |nil=>cases h
 |cons d a ih=>
  simp only[tl]
  rcases List.mem_cons.mp h with rfl|h
  ·omega
  ·have:=ih h;omega
/-! Letters and digits, boundaries: the model. -/
def MB (c:UInt8):Bool:=decide (97≤(c.toNat:Int)∧(c.toNat:Int)≤122)||decide (65≤(c.toNat:Int)∧(c.toNat:Int)≤90)
def ahH (c:UInt8):Bool:=decide (48≤(c.toNat:Int)∧(c.toNat:Int)≤57)
def ES (c:UInt8):Bool:=MB c||ahH c
def Jw (l:Str):Bool:=decide (1≤l.length)&&decide (l.length≤20)&&l.all ES
theorem Vm {l:Str} (h:Jw l=true):l.length≤20:=by
 unfold Jw at h;simp at h;exact h.1.2
theorem BM (c:UInt8):bG.f (c.toNat:Int)=some (MB c):=by
 unfold bG.f MB
 by_cases h1:97≤(c.toNat:Int)<;>by_cases h2:(c.toNat:Int)≤122<;>by_cases h3:65≤(c.toNat:Int)<;>by_cases h4:(c.toNat:Int)≤90<;>simp[h1,h2,h3,h4]
theorem Iu (c:UInt8):dK.f (c.toNat:Int)=some (ahH c):=by
 unfold dK.f ahH
 by_cases h1:48≤(c.toNat:Int)<;>by_cases h2:(c.toNat:Int)≤57<;>simp[h1,h2]
theorem vT (c:UInt8):iC.f (c.toNat:Int)=some (ES c):=by
 unfold iC.f ES MB ahH
 by_cases h1:97≤(c.toNat:Int)<;>by_cases h2:(c.toNat:Int)≤122<;>by_cases h3:65≤(c.toNat:Int)<;>by_cases h4:(c.toNat:Int)≤90<;>by_cases h5:48≤(c.toNat:Int)<;>by_cases h6:(c.toNat:Int)≤57<;>simp[h1,h2,h3,h4,h5,h6]
/-! Atoms: the model. -/
def Vo:Str:=[33,35,36,37,38,39,42,43,45,47,61,63,94,95,96,123,124,125,126]
def yO (c:UInt8):Bool:=ES c||decide (c∈Vo)
def Vp (l:Str):Bool:=decide (1≤l.length)&&decide (l.length≤40)&&l.all yO
theorem Vq {p:UInt8→Prop} (h:∀n:Nat,n<256→p (UInt8.ofNat n)) (c:UInt8):p c:=by
 have:=h c.toNat c.toNat_lt
 rwa [UInt8.ofNat_toNat]at this
theorem zB (c:UInt8):lU.f (c.toNat:Int)=some (yO c):=by
 revert c
 exact Vq (by decide+kernel)
theorem Dz (l:Str) (hl:l.length≤1000000000000000):Ev (fun k=>dP.f k (aY l)) (l.all yO):=by
 unfold dP.f
 rw[aC]
 refine vq (qK (xs:=l) (F:=fun k (_:Unit) i=>dP.l0 k (aY l) (l.length:Int) i) (st:=fun _ c=>if yO c=true then .inr ()else .inl false) (fin:=fun _=>true) (s:=()) (fun _ _=>True) trivial ?_ ?_) ?_
 ·intro p c r s h _
  have hz:=iV h
  have e1:=jU h
  have w1:wrap64 ((p.length:Int)+1)=(p.length:Int)+1:=aU (by omega) (by omega)
  simp only[dP.l0,e1,w1,aC]
  clear w1 e1
  cases e:yO c with
  |true=>
   simp only[if_true]
   refine⟨(fun v hv=>by cases hv),fun s' hs=>⟨trivial,fun v hv=>?_⟩⟩
   refine vp (by omega) (vp (by omega) (vp (by omega) (jI (zB c) (vp e hv))))
  |false=>
   refine⟨(fun v hv=>?_),fun s' hs=>by simp at hs⟩
   simp only[Bool.false_eq_true,if_false,Sum.inl.injEq]at hv
   subst hv
   refine vp (by omega) (vp (by omega) (vp (by omega) (jI (zB c) (vn (by rw[e];simp) (vs _)))))
 ·intro s _
  simp only[dP.l0]
  exact vn (by omega) (vs _)
 ·clear hl
  induction l with
  |nil=>rfl
  |cons c r ih=>
   unfold run
   cases e:yO c with
   |true=>simp[e,ih]
   |false=>simp[e]
theorem O9 (l:Str) (hl:l.length≤1000000000000000):Ev (fun k=>rG.f k (aY l)) (Vp l):=by
 unfold rG.f Vp
 rw[aC]
 by_cases h1:1≤l.length
 ·rw[decide_eq_true h1]
  refine vp (by omega) ?_
  by_cases h2:l.length≤40
  ·rw[decide_eq_true h2]
   exact vp (by omega) (vb (Dz l hl) (vs _))
  ·rw[decide_eq_false h2]
   exact vn (by omega) (vs _)
 ·rw[decide_eq_false h1]
  exact vn (by omega) (vs _)
theorem Eu (c:UInt8):Ev (fun k=>jO.f k (c.toNat:Int)) (yO c):=by
 unfold jO.f
 have lit:(⟨#[33,35,36,37,38,39,42,43,45,47,61,63,94,95,96,123,124,125,126]⟩:ByteArray)=aY Vo:=rfl
 have hlen:Vo.length=19:=rfl
 refine vq (qK (xs:=Vo) (F:=fun k (_:Unit) i=>jO.l0 k (c.toNat:Int) i) (st:=fun _ d=>if c=d then .inl true else .inr ()) (fin:=fun _=>ES c) (s:=()) (fun _ _=>True) trivial ?_ ?_) ?_
 ·intro p d r s h _
  have hz:=iV h
  have e1:=jU h
  have w1:wrap64 ((p.length:Int)+1)=(p.length:Int)+1:=aU (by omega) (by omega)
  simp only[jO.l0,lit,e1,w1]
  clear w1 e1
  by_cases e:c=d
  ·simp only[if_pos e]
   refine⟨(fun v hv=>?_),fun s' hs=>by cases hs⟩
   cases hv
   exact vp (by omega) (vp (by omega) (vp (by rw[e]) (vs _)))
  ·simp only[if_neg e]
   refine⟨(fun v hv=>by cases hv),fun s' hs=>⟨trivial,fun v hv=>?_⟩⟩
   exact vp (by omega) (vp (by omega) (vn (fun hh=>e (UInt8.toNat_inj.mp (by omega))) hv))
 ·intro s _
  simp only[jO.l0]
  exact vn (by omega) (jI (vT c) (vs _))
 ·have key:∀r:Str,run (fun(_:Unit) d=>if c=d then .inl true else .inr ()) (fun _=>ES c) r ()=(ES c||decide (c∈r)):=by
   intro r
   induction r with
   |nil=>simp[run]
   |cons d r ih=>
    unfold run
    by_cases e:c=d
    ·simp[e]
    ·simp[e,ih]
  exact key Vo
theorem O_ (l:Str) (hl:l.length≤1000000000000000):Ev (fun k=>eH.f k (aY l)) (Vp l):=by
 unfold eH.f
 have hj':∀i:Int,Ev (fun k=>eH.j1 k (aY l) i false) (decide (1≤l.length)&&decide (l.length≤40)):=by
  intro i
  refine vc ?_
  simp only[eH.j1,aC]
  by_cases h1:1≤l.length
  ·rw[decide_eq_true h1]
   refine vn (by simp) (vp (by omega) (vq (vs _) ?_))
   rw[Bool.true_and]
   by_cases h2:l.length≤40
   ·rw[decide_eq_true h2];exact decide_eq_true (by omega)
   ·rw[decide_eq_false h2];exact decide_eq_false (by omega)
  ·rw[decide_eq_false h1]
   exact vn (by simp) (vn (by omega) (vs _))
 refine vq (qK (xs:=l) (F:=fun k (_:Nat) i=>eH.l0 k (aY l) i) (st:=fun n c=>if n≤40 then(if yO c=true then .inr (n+1)else .inl false)else .inl (decide (1≤l.length)&&decide (l.length≤40))) (fin:=fun _=>decide (1≤l.length)&&decide (l.length≤40)) (s:=0) (fun p n=>n=p.length) rfl ?_ ?_) ?_
 ·intro p c r n h hn
  subst hn
  have hz:=iV h
  have e1:=jU h
  have w1:wrap64 ((p.length:Int)+1)=(p.length:Int)+1:=aU (by omega) (by omega)
  by_cases h20:p.length≤40
  ·simp only[if_pos h20]
   have hd:decide ((p.length:Int)≤40)=true:=decide_eq_true (by omega)
   simp only[eH.l0,hd,aC]
   cases e:yO c with
   |true=>
    simp only[if_true]
    refine⟨(fun v hv=>by cases hv),fun s' hs=>⟨?_,fun v hv=>?_⟩⟩
    ·cases hs;simp
    ·refine vp (by omega) (vc ?_)
     simp only[eH.j1,e1,w1,aC]
     clear w1 e1
     exact vp trivial (vp (by omega) (vp (by omega) (vb (Eu c) (vp e hv))))
   |false=>
    refine⟨(fun v hv=>?_),fun s' hs=>by simp at hs⟩
    simp only[Bool.false_eq_true,if_false,Sum.inl.injEq]at hv
    subst hv
    refine vp (by omega) (vc ?_)
    simp only[eH.j1,e1,w1,aC]
    clear w1 e1
    exact vp trivial (vp (by omega) (vp (by omega) (vb (Eu c) (vn (by rw[e];simp) (vs _)))))
  ·simp only[if_neg h20]
   have hd:decide ((p.length:Int)≤40)=false:=decide_eq_false (by omega)
   refine⟨(fun v hv=>?_),fun s' hs=>by cases hs⟩
   cases hv
   simp only[eH.l0,hd,aC]
   clear w1 e1
   exact vp (by omega) (hj' _)
 ·intro s hs
  subst hs
  simp only[eH.l0,aC]
  exact vn (by omega) (hj' _)
 ·unfold Vp
  have key:∀(r:Str) (n:Nat),n+r.length=l.length→run (fun n c=>if n≤40 then(if yO c=true then .inr (n+1)else .inl false)else .inl (decide (1≤l.length)&&decide (l.length≤40))) (fun _=>decide (1≤l.length)&&decide (l.length≤40)) r n=(decide (1≤l.length)&&decide (l.length≤40)&&r.all yO):=by
   intro r
   induction r with
   |nil=>intro n _;simp[run]
   |cons c r ih=>
    intro n hn
    simp only[List.length_cons]at hn
    unfold run
    by_cases h20:n≤40
    ·simp only[if_pos h20]
     cases e:yO c with
     |true=>simp[e,ih (n+1) (by omega)]
     |false=>simp[e]
    ·simp only[if_neg h20]
     have:decide (l.length≤40)=false:=decide_eq_false (by omega)
     simp[this]
  exact key l 0 (by omega)
/-! Names, small letters: the model. -/
def ZK (c:UInt8):Bool:=ES c||decide (c=45)
def KF (l:Str):Bool:=decide (l.length≤30)&&(match l with
 |[]=>false
 |c:: _=>MB c)&&l.all ZK
def aCv (c:UInt8):UInt8:=if 65≤c∧c≤90 then c+32 else c
def low (l:Str):Str:=l.map aCv
def isSmall (l:Str):Bool:=KF l&&decide (low l=l)
theorem abq {l:Str} (h:KF l=true):l.length≤30:=by
 unfold KF at h;simp at h;exact h.1.1
theorem Kq (a b:Str):(a==b)=decide (a=b):=by
 rw[Bool.eq_iff_iff];simp
theorem alD (c:UInt8):V9 (c.toNat:Int)=((aCv c).toNat:Int):=by
 revert c
 exact Vq (by decide+kernel)
theorem alE (l:Str):(zn l).map V9=zn (low l):=by
 unfold zn low
 rw[List.map_map,List.map_map]
 exact List.map_congr_left (fun c _=>alD c)
theorem FH (l:Str):(low l).length=l.length:=by unfold low;simp
theorem n_ (l:Str) (hl:l.length≤140737488355328):jv.f (aY l)=some (aY (low l)):=by
 unfold jv.f
 rw[aC,if_pos hl,RZ,alE,AU]
theorem og (l:Str) (hl:l.length≤140737488355328):iU.f (aY l)=some (aY (low l)):=by
 unfold iU.f
 rw[aC,if_pos hl,RZ,alE,AU]
theorem QJ (a b:Str) (ha:a.length≤140737488355328) (hb:b.length≤140737488355328):uN.f (aY a) (aY b)=some (decide (low a=low b)):=by
 unfold uN.f
 rw[n_ a ha,n_ b hb]
 simp only[Option.bind_some,nM,Kq]
theorem QK (a b:Str) (ha:a.length≤140737488355328) (hb:b.length≤140737488355328):tH.f (aY a) (aY b)=some (decide (low a=low b)):=by
 unfold tH.f
 rw[og a ha,og b hb]
 simp only[Option.bind_some,nM,Kq]
theorem GH (c:UInt8):tJ.f (c.toNat:Int)=some (ZK c):=by
 unfold tJ.f ZK ES
 rw[BM,Iu]
 have:=zU c 45 (by omega)
 by_cases e:c=45
 ·have h2:=this.mpr e
  cases MB c<;>cases ahH c<;>simp[e,h2]
 ·have h2:¬(c.toNat:Int)=45:=fun hh=>e (this.mp hh)
  cases MB c<;>cases ahH c<;>simp[e,h2]
theorem ET (l:Str) (hl:l.length≤1000000000000000):Ev (fun k=>fA.f k (aY l)) (l.all ZK):=by
 unfold fA.f
 rw[aC]
 refine vq (qK (xs:=l) (F:=fun k (_:Unit) i=>fA.l0 k (aY l) (l.length:Int) i) (st:=fun _ c=>if ZK c=true then .inr ()else .inl false) (fin:=fun _=>true) (s:=()) (fun _ _=>True) trivial ?_ ?_) ?_
 ·intro p c r s h _
  have hz:=iV h
  have e1:=jU h
  have w1:wrap64 ((p.length:Int)+1)=(p.length:Int)+1:=aU (by omega) (by omega)
  simp only[fA.l0,e1,w1,aC]
  clear w1 e1
  cases e:ZK c with
  |true=>
   simp only[if_true]
   refine⟨(fun v hv=>by cases hv),fun s' hs=>⟨trivial,fun v hv=>?_⟩⟩
   refine vp (by omega) (vp (by omega) (vp (by omega) (jI (GH c) (vp e hv))))
  |false=>
   refine⟨(fun v hv=>?_),fun s' hs=>by simp at hs⟩
   simp only[Bool.false_eq_true,if_false,Sum.inl.injEq]at hv
   subst hv
   refine vp (by omega) (vp (by omega) (vp (by omega) (jI (GH c) (vn (by rw[e];simp) (vs _)))))
 ·intro s _
  simp only[fA.l0]
  exact vn (by omega) (vs _)
 ·clear hl
  induction l with
  |nil=>rfl
  |cons c r ih=>
   unfold run
   cases e:ZK c with
   |true=>simp[e,ih]
   |false=>simp[e]
theorem Jy (l:Str) (hl:l.length≤1000000000000000):Ev (fun k=>jP.f k (aY l)) (KF l):=by
 unfold jP.f KF
 rw[aC]
 cases l with
 |nil=>exact vn (by simp) (vs _)
 |cons c r=>
  simp only[agw]
  refine vp (by simp only[List.length_cons];omega) ?_
  by_cases h2:(c:: r).length≤30
  ·rw[decide_eq_true h2]
   refine vp (by omega) (vp (by simp) (jI (BM c) ?_))
   cases e:MB c with
   |true=>exact vp rfl (vb (ET (c:: r) hl) (vs _))
   |false=>exact vn (by simp) (vs _)
  ·rw[decide_eq_false h2]
   exact vn (by omega) (vs _)
theorem yS (l:Str) (hl:l.length≤140737488355328):Ev (fun k=>iy.f k (aY l)) (isSmall l):=by
 unfold iy.f isSmall
 refine vb (Jy l (by omega)) ?_
 cases e:KF l with
 |true=>
  refine vp rfl (jI (n_ l hl) (vq (vs _) ?_))
  simp only[nM,Kq,Bool.true_and]
 |false=>exact vn (by simp) (vs _)
theorem Jz (l:Str) (hl:l.length≤1000000000000000):Ev (fun k=>bU.f k (aY l)) (KF l):=by
 unfold bU.f
 have hj':∀i:Int,Ev (fun k=>bU.j1 k (aY l) i false) (decide (1≤l.length)&&decide (l.length≤30)):=by
  intro i
  refine vc ?_
  simp only[bU.j1,aC]
  by_cases h1:1≤l.length
  ·rw[decide_eq_true h1]
   refine vn (by simp) (vp (by omega) (vq (vs _) ?_))
   rw[Bool.true_and]
   by_cases h2:l.length≤30
   ·rw[decide_eq_true h2];exact decide_eq_true (by omega)
   ·rw[decide_eq_false h2];exact decide_eq_false (by omega)
  ·rw[decide_eq_false h1]
   exact vn (by simp) (vn (by omega) (vs _))
 refine vq (qK (xs:=l) (F:=fun k (_:Nat) i=>bU.l0 k (aY l) i) (st:=fun n c=>if n≤30 then(if ZK c=true then(if n=0 then(if MB c=true then .inr (n+1)else .inl false)else .inr (n+1))else .inl false)else .inl (decide (1≤l.length)&&decide (l.length≤30))) (fin:=fun _=>decide (1≤l.length)&&decide (l.length≤30)) (s:=0) (fun p n=>n=p.length) rfl ?_ ?_) ?_
 ·intro p c r n h hn
  subst hn
  have hz:=iV h
  have e1:=jU h
  have w1:wrap64 ((p.length:Int)+1)=(p.length:Int)+1:=aU (by omega) (by omega)
  by_cases h20:p.length≤30
  ·simp only[if_pos h20]
   have hd:decide ((p.length:Int)≤30)=true:=decide_eq_true (by omega)
   simp only[bU.l0,hd,aC]
   have h45:=zU c 45 (by omega)
   have hlet:ZK c=true→(MB c=true↔¬(c.toNat:Int)≤57):=Vq (p:=fun c=>ZK c=true→(MB c=true↔¬(c.toNat:Int)≤57)) (by decide+kernel) c
   cases e:ZK c with
   |true=>
    have hlt:=hlet e
    have go:∀v,Ev (fun k=>if(p.length:Int)=0 then(if(c.toNat:Int)≤57 then some false else bU.l0 k (aY l) ((p.length:Int)+1))else bU.l0 k (aY l) ((p.length:Int)+1)) v→Ev (fun k=>if(p.length:Int)<(l.length:Int)then bU.j1 (k+0) (aY l) (p.length:Int) true else bU.j1 (k+0) (aY l) (p.length:Int) false) v:=by
     intro v hv
     refine vp (by omega) (vc ?_)
     simp only[bU.j1,e1,w1,aC]
     clear w1 e1
     refine vp trivial (vp (by omega) (vp (by omega) (jI (vT c) ?_)))
     cases ea:ES c with
     |true=>exact vp rfl hv
     |false=>
      have:c=45:=by
       unfold ZK at e
       rw[ea,Bool.false_or]at e
       exact of_decide_eq_true e
      exact vn (by simp) (vp (h45.mpr this) hv)
    simp only[if_true]
    by_cases h0:p.length=0
    ·simp only[if_pos h0]
     by_cases hL:MB c=true
     ·simp only[if_pos hL]
      refine⟨(fun v hv=>by cases hv),fun s' hs=>⟨?_,fun v hv=>?_⟩⟩
      ·cases hs;simp
      ·exact go v (vp (by omega) (vn (hlt.mp hL) hv))
     ·simp only[if_neg hL]
      refine⟨(fun v hv=>?_),fun s' hs=>by cases hs⟩
      cases hv
      exact go false (vp (by omega) (vp (Decidable.not_not.mp (fun hh=>hL (hlt.mpr hh))) (vs _)))
    ·simp only[if_neg h0]
     refine⟨(fun v hv=>by cases hv),fun s' hs=>⟨?_,fun v hv=>?_⟩⟩
     ·cases hs;simp
     ·exact go v (vn (by omega) hv)
   |false=>
    refine⟨(fun v hv=>?_),fun s' hs=>by simp at hs⟩
    simp only[Bool.false_eq_true,if_false,Sum.inl.injEq]at hv
    subst hv
    refine vp (by omega) (vc ?_)
    simp only[bU.j1,e1,w1,aC]
    clear w1 e1
    unfold ZK at e
    rw[Bool.or_eq_false_iff]at e
    exact vp trivial (vp (by omega) (vp (by omega) (jI (vT c) (vn (by rw[e.1];simp) (vn (fun hh=>(of_decide_eq_false e.2) (h45.mp hh)) (vs _))))))
  ·simp only[if_neg h20]
   have hd:decide ((p.length:Int)≤30)=false:=decide_eq_false (by omega)
   refine⟨(fun v hv=>?_),fun s' hs=>by cases hs⟩
   cases hv
   simp only[bU.l0,hd,aC]
   clear w1 e1
   exact vp (by omega) (hj' _)
 ·intro s hs
  subst hs
  simp only[bU.l0,aC]
  exact vn (by omega) (hj' _)
 ·have key:∀(r:Str) (n:Nat),1≤n→n+r.length=l.length→run (fun n c=>if n≤30 then(if ZK c=true then(if n=0 then(if MB c=true then .inr (n+1)else .inl false)else .inr (n+1))else .inl false)else .inl (decide (1≤l.length)&&decide (l.length≤30))) (fun _=>decide (1≤l.length)&&decide (l.length≤30)) r n=(decide (l.length≤30)&&r.all ZK):=by
   intro r
   induction r with
   |nil=>intro n h1 h2;have:decide (1≤l.length)=true:=decide_eq_true (by simp at h2;omega);simp only[run,this];simp
   |cons c r ih=>
    intro n h1 hn
    simp only[List.length_cons]at hn
    unfold run
    have h1l:decide (1≤l.length)=true:=decide_eq_true (by omega)
    by_cases h20:n≤30
    ·simp only[if_pos h20,if_neg (show¬n=0 by omega)]
     cases e:ZK c with
     |true=>simp[e,ih (n+1) (by omega) (by omega)]
     |false=>simp[e]
    ·simp only[if_neg h20]
     have:decide (l.length≤30)=false:=decide_eq_false (by omega)
     simp[this]
  cases l with
  |nil=>simp[run,KF]
  |cons c r=>
   unfold run KF
   have hc:=key r 1 (by omega) (by simp;omega)
   simp only[if_pos (show(0:Nat)≤30 by omega),if_true]
   cases e:ZK c with
   |true=>
    cases e2:MB c with
    |true=>simp only[if_true];rw[hc];simp[e]
    |false=>simp
   |false=>simp[e]
theorem Ew (l:Str) (hl:l.length≤140737488355328):Ev (fun k=>lq.f k (aY l)) (isSmall l):=by
 unfold lq.f isSmall
 refine vb (Jz l (by omega)) ?_
 cases e:KF l with
 |true=>
  refine vp rfl (jI (og l hl) (vq (vs _) ?_))
  simp only[nM,Kq,Bool.true_and]
 |false=>exact vn (by simp) (vs _)
/-! The place of a name. -/
def fidx (n:Str):List (Str×Str)→Nat→Int
 |[],_=>-1
 |c:: r,i=>if low c.1=low n then(i:Int)else fidx n r (i+1)
def small (ls:List (Str×Str)):Prop:=∀x∈ls,x.1.length≤1048576∧x.2.length≤1048576
theorem GI {ls:List (Str×Str)} (h:Es ls≤1048576):small ls:=fun x hx=>by
 have:=aoq hx
 exact⟨by omega,by omega⟩
theorem Vr (n:Str) (r:List (Str×Str)):∀i:Nat,fidx n r i= -1∨((i:Int)≤fidx n r i∧fidx n r i<i+r.length):=by
 induction r with
 |nil=>intro i;exact Or.inl rfl
 |cons c r ih=>
  intro i
  unfold fidx
  split
  ·right;simp only[List.length_cons];omega
  ·rcases ih (i+1)with h|⟨h1,h2⟩
   ·exact Or.inl h
   ·right;simp only[List.length_cons];omega
theorem abr (n:Str) (r:List (Str×Str)):∀i:Nat,run (fun(i:Nat) (c:Str×Str)=>if low c.1=low n then .inl (i:Int)else .inr (i+1)) (fun _=>(-1:Int)) r i=fidx n r i:=by
 induction r with
 |nil=>intro i;rfl
 |cons c r ih=>
  intro i
  unfold run fidx
  by_cases e:low c.1=low n
  ·simp only[if_pos e]
  ·simp only[if_neg e,ih]
theorem JA (ls:List (Str×Str)) (n:Str) (hs:small ls) (hn:n.length≤1048576) (hl:ls.length≤1048576):Ev (fun k=>kH.f k (ls.map uU) (aY n)) (fidx n ls 0):=by
 unfold kH.f
 refine vq (qK (xs:=ls) (F:=fun k (_:Nat) i=>kH.l0 k (ls.map uU) (aY n) i) (st:=fun i c=>if low c.1=low n then .inl (i:Int)else .inr (i+1)) (fin:=fun _=>(-1:Int)) (s:=0) (fun p i=>i=p.length) rfl ?_ ?_) (abr n ls 0)
 ·intro p c r i h hi
  subst hi
  have hz:=iV h
  have e1:=yt h
  have hc:=hs c (by rw[h];simp)
  have w1:wrap64 ((p.length:Int)+1)=(p.length:Int)+1:=aU (by omega) (by omega)
  have hq:=QK c.1 n (by omega) (by omega)
  simp only[kH.l0,e1,w1,List.length_map,uU,hq]
  clear w1 e1
  by_cases e:low c.1=low n
  ·simp only[if_pos e]
   refine⟨(fun v hv=>?_),fun s' hs=>by cases hs⟩
   cases hv
   exact vp (by omega) (vp (by omega) (jI rfl (vp (decide_eq_true e) (vs _))))
  ·simp only[if_neg e]
   refine⟨(fun v hv=>by cases hv),fun s' hs=>⟨?_,fun v hv=>?_⟩⟩
   ·cases hs;simp
   ·exact vp (by omega) (vp (by omega) (jI rfl (vn (by simp[e]) hv)))
 ·intro s _
  simp only[kH.l0,List.length_map]
  exact vn (by omega) (vs _)
theorem Ey (ls:List (Str×Str)) (n:Str) (hs:small ls) (hn:n.length≤1048576) (hl:ls.length≤1048576):Ev (fun k=>lT.f k (ls.map uU) (aY n)) (fidx n ls 0):=by
 unfold lT.f fG.f
 refine vb ?_ (vs _)
 rw[List.length_map]
 refine vq (qK (xs:=ls) (F:=fun k (_:Nat) i=>fG.l0 k (ls.map uU) (ls.length:Int) i (aY n)) (st:=fun i c=>if low c.1=low n then .inl (i:Int)else .inr (i+1)) (fin:=fun _=>(-1:Int)) (s:=0) (fun p i=>i=p.length) rfl ?_ ?_) (abr n ls 0)
 ·intro p c r i h hi
  subst hi
  have hz:=iV h
  have e1:=yt h
  have hc:=hs c (by rw[h];simp)
  have w1:wrap64 ((p.length:Int)+1)=(p.length:Int)+1:=aU (by omega) (by omega)
  have hq:=QJ c.1 n (by omega) (by omega)
  simp only[fG.l0,qh.f,e1,w1,List.length_map,uU,hq,Option.bind_some]
  clear w1 e1
  by_cases e:low c.1=low n
  ·simp only[if_pos e]
   refine⟨(fun v hv=>?_),fun s' hs=>by cases hs⟩
   cases hv
   exact vp (by omega) (vp (by omega) (vp (by omega) (vp (decide_eq_true e) (vs _))))
  ·simp only[if_neg e]
   refine⟨(fun v hv=>by cases hv),fun s' hs=>⟨?_,fun v hv=>?_⟩⟩
   ·cases hs;simp
   ·exact vp (by omega) (vp (by omega) (vp (by omega) (vn (by simp[e]) hv)))
 ·intro s _
  simp only[fG.l0]
  exact vn (by omega) (vs _)
/-! Texts: the model. -/
def okB (c:UInt8):Bool:=32≤c&&c≤126
def mF (l:Str):Bool:=l.all okB&&decide (l.length≤200)
theorem alF (c:UInt8) (h:(c.toNat:Int)<32):okB c=false:=by
 have:c<32:=(aCw c 32 (by omega)).mp h
 unfold okB
 simp[UInt8.le_iff_toNat_le,UInt8.lt_iff_toNat_lt]at this⊢
 omega
theorem alG (c:UInt8) (h:(c.toNat:Int)>126):okB c=false:=by
 unfold okB
 simp[UInt8.le_iff_toNat_le,UInt8.lt_iff_toNat_lt]
 omega
theorem agx (c:UInt8) (h:¬(c.toNat:Int)<32) (h2:¬(c.toNat:Int)>126):okB c=true:=by
 unfold okB
 simp[UInt8.le_iff_toNat_le,UInt8.lt_iff_toNat_lt]
 omega
theorem MC {l:Str} (h:mF l=true):l.length≤200:=by
 unfold mF at h;simp at h;exact h.2
theorem KG (l:Str) (hl:l.length≤1000000000000000) (r:Str):∀(p:Str),l=p++r→Ev (fun k=>bn.l0 k (aY l) (l.length:Int) (p.length:Int)) (r.all okB&&decide (l.length≤200)):=by
 induction r with
 |nil=>
  intro p h
  have hz:l.length=p.length:=by rw[h,List.append_nil]
  refine vc ?_
  simp only[bn.l0,aC]
  repeat(first|refine vp (by first|assumption|omega|decide) ?_|refine vn (by first|assumption|omega|decide) ?_)
  exact vq (vs _) (by simp;omega)
 |cons c r ih=>
  intro p h
  have hz:l.length=p.length+(r.length+1):=by rw[h];simp
  have e1:bt (aY l) (p.length:Int)=(c.toNat:Int):=by rw[h];exact adB p r c
  have:=ih (p++[c]) (by rw[h];simp)
  rw[l7]at this
  refine vc ?_
  simp(disch:=omega) only[bn.l0,aC,e1,aU]
  by_cases h1:(c.toNat:Int)<32
  ·repeat(first|refine vp (by first|assumption|omega|decide) ?_|refine vn (by first|assumption|omega|decide) ?_)
   exact vq (vs _) (by simp[alF c h1])
  ·by_cases h2:(c.toNat:Int)>126
   ·repeat(first|refine vp (by first|assumption|omega|decide) ?_|refine vn (by first|assumption|omega|decide) ?_)
    exact vq (vs _) (by simp[alG c h2])
   ·repeat(first|refine vp (by first|assumption|omega|decide) ?_|refine vn (by first|assumption|omega|decide) ?_)
    exact vq this (by simp[agx c h1 h2])
theorem rV (l:Str) (hl:l.length≤1000000000000000):Ev (fun k=>bn.f k (aY l)) (mF l):=by
 unfold bn.f
 rw[aC]
 exact KG l hl l [] rfl
theorem KH (l:Str) (hl:l.length≤1000000000000000) (r:Str):∀(p:Str),l=p++r→Ev (fun k=>aQ.l0 k (aY l) (p.length:Int)) (r.all okB&&decide (l.length≤200)):=by
 induction r with
 |nil=>
  intro p h
  have hz:l.length=p.length:=by rw[h,List.append_nil]
  refine vc ?_
  simp only[aQ.l0,aC]
  repeat(first|refine vp (by first|assumption|omega|decide) ?_|refine vn (by first|assumption|omega|decide) ?_)
  refine vc ?_
  simp only[aQ.j1,aC]
  repeat(first|refine vp (by first|assumption|omega|decide) ?_|refine vn (by first|assumption|omega|decide) ?_)
  exact vq (vs _) (by simp;omega)
 |cons c r ih=>
  intro p h
  have hz:l.length=p.length+(r.length+1):=by rw[h];simp
  have e1:bt (aY l) (p.length:Int)=(c.toNat:Int):=by rw[h];exact adB p r c
  have:=ih (p++[c]) (by rw[h];simp)
  rw[l7]at this
  by_cases h0:(p.length:Int)≤200
  ·refine vc ?_
   simp only[aQ.l0,aC]
   repeat(first|refine vp (by first|assumption|omega|decide) ?_|refine vn (by first|assumption|omega|decide) ?_)
   refine vc ?_
   simp(disch:=omega) only[aQ.j1,aC,e1,aU,decide_eq_true h0]
   by_cases h1:(c.toNat:Int)<32
   ·repeat(first|refine vp (by first|assumption|omega|decide) ?_|refine vn (by first|assumption|omega|decide) ?_)
    exact vq (vs _) (by simp[alF c h1])
   ·by_cases h2:(c.toNat:Int)>126
    ·repeat(first|refine vp (by first|assumption|omega|decide) ?_|refine vn (by first|assumption|omega|decide) ?_)
     exact vq (vs _) (by simp[alG c h2])
    ·repeat(first|refine vp (by first|assumption|omega|decide) ?_|refine vn (by first|assumption|omega|decide) ?_)
     exact vq this (by simp[agx c h1 h2])
  ·refine vc ?_
   simp only[aQ.l0,aC]
   repeat(first|refine vp (by first|assumption|omega|decide) ?_|refine vn (by first|assumption|omega|decide) ?_)
   refine vc ?_
   simp only[aQ.j1,aC,decide_eq_false h0]
   repeat(first|refine vp (by first|assumption|omega|decide) ?_|refine vn (by first|assumption|omega|decide) ?_)
   have d1:decide ((l.length:Int)≤200)=false:=decide_eq_false (by omega)
   have d2:decide (l.length≤200)=false:=decide_eq_false (by omega)
   exact vq (vs _) (by rw[d1,d2,Bool.and_false])
theorem l9 (l:Str) (hl:l.length≤1000000000000000):Ev (fun k=>aQ.f k (aY l)) (mF l):=by
 unfold aQ.f
 exact KH l hl l [] rfl
/-! Words quoted. -/
def QL (c:UInt8):Str:=if c=34∨c=92 then[92,c]else[c]
def esc:Str→Str
 |[]=>[]
 |c:: r=>QL c++esc r
def quote (l:Str):Str:=34:: (esc l++[34])
def qw (l:Str):Str:=if mF l=true then(if Vp l=true then l else quote l)else[]
theorem Vs (a b:Str):esc (a++b)=esc a++esc b:=by
 induction a with
 |nil=>rfl
 |cons c a ih=>simp only[List.cons_append,esc,ih,List.append_assoc]
theorem alH (c:UInt8):(QL c).length≤2:=by unfold QL;split<;>simp
theorem Pg (l:Str):(esc l).length≤2*l.length:=by
 induction l with
 |nil=>simp[esc]
 |cons c r ih=>have:=alH c;simp only[esc,List.length_append,List.length_cons];omega
theorem adC (l:Str):(qw l).length≤2*l.length+2:=by
 unfold qw quote
 have:=Pg l
 split
 ·split
  ·omega
  ·simp only[List.length_cons,List.length_append,List.length_nil];omega
 ·simp
theorem Ph (l:Str) (hl:l.length≤1048576):Ev (fun k=>jw.f k (aY l)) (aY (qw l)):=by
 have key:∀(r p:Str),l=p++r→Ev (fun k=>jw.l0 k (aY l) (zn (34:: esc p)) (l.length:Int) (p.length:Int)) (aY (quote l)):=by
  intro r
  induction r with
  |nil=>
   intro p h
   rw[List.append_nil]at h
   subst h
   have h1:=Pg l
   refine vc ?_
   simp only[jw.l0,QM]
   refine vn (by omega) (vp (by simp only[List.length_cons];omega) (vq (vs _) ?_))
   rw[show([34]:List Int)=zn [34]from rfl,←Kr,AU]
   rfl
  |cons c r ih=>
   intro p h
   have hz:=iV h
   have e1:=jU h
   have h1:=Pg p
   have hh:=ih (p++[c]) (by rw[h];simp)
   rw[l7,Vs]at hh
   have w1:wrap64 ((p.length:Int)+1)=(p.length:Int)+1:=aU (by omega) (by omega)
   have Vt:=zU c 34 (by omega)
   have h92:=zU c 92 (by omega)
   have b1:(34:: esc p:Str).length<140737488355328:=by simp only[List.length_cons];omega
   have b2:(34:: esc p++[92]:Str).length<140737488355328:=by simp only[List.length_cons,List.length_append,List.length_nil];omega
   refine vc ?_
   have e92:([92]:List Int)=zn [92]:=rfl
   have ec:([(c.toNat:Int)]:List Int)=zn [c]:=rfl
   simp only[jw.l0,e1,w1,aC,QM,Option.bind_some,e92,ec,←Kr]
   clear w1 e1
   refine vp (by omega) (vp (by omega) (vp (by omega) ?_))
   have two:QL c=[92,c]→(34:: esc p++[92])++[c]=34:: (esc p++(esc [c])):=fun h=>by simp[esc,h]
   have one:QL c=[c]→(34:: esc p)++[c]=34:: (esc p++(esc [c])):=fun h=>by simp[esc,h]
   by_cases c1:(c.toNat:Int)=34
   ·have hc:c=34:=Vt.mp c1
    refine vp c1 (vp b1 (vp b2 ?_))
    rw[two (by unfold QL;rw[if_pos (Or.inl hc)])]
    exact hh
   ·have hc:¬c=34:=fun h=>c1 (Vt.mpr h)
    by_cases c2:(c.toNat:Int)=92
    ·have hc2:c=92:=h92.mp c2
     refine vn c1 (vp c2 (vp b1 (vp b2 ?_)))
     rw[two (by unfold QL;rw[if_pos (Or.inr hc2)])]
     exact hh
    ·have hc2:¬c=92:=fun h=>c2 (h92.mpr h)
     refine vn c1 (vn c2 (vp b1 ?_))
     rw[one (by unfold QL;rw[if_neg (by simp[hc,hc2])])]
     exact hh
 unfold jw.f qw
 refine vb (rV l (by omega)) ?_
 cases e1:mF l with
 |false=>exact vn (by simp) (vq (vs _) rfl)
 |true=>
  refine vp rfl (vb (O9 l (by omega)) ?_)
  cases e2:Vp l with
  |true=>exact vp rfl (vs _)
  |false=>
   have:=key l [] rfl
   simp only[aC]
   exact vn (by simp) this
theorem Pj (l:Str) (hl:l.length≤1048576):Ev (fun k=>tN.f k (aY l)) (aY (qw l)):=by
 have key:∀(r p:Str),l=p++r→Ev (fun k=>kT.l0 k (aY l) (aY (34:: esc p)) (p.length:Int)) (aY (quote l)):=by
  intro r
  induction r with
  |nil=>
   intro p h
   rw[List.append_nil]at h
   subst h
   have h1:=Pg l
   refine vc ?_
   simp only[kT.l0,aC]
   refine vn (by omega) (vp (by simp only[List.length_cons];omega) (vq (vs _) ?_))
   rw[show(⟨#[34]⟩:ByteArray)=aY [34]from rfl,kX]
   rfl
  |cons c r ih=>
   intro p h
   have hz:=iV h
   have e1:=jU h
   have h1:=Pg p
   have hh:=ih (p++[c]) (by rw[h];simp)
   rw[l7,Vs]at hh
   have w1:wrap64 ((p.length:Int)+1)=((p.length+1:Nat):Int):=(aU (by omega) (by omega)).trans (by omega)
   have w2:((p.length+1:Nat):Int)=(p.length:Int)+1:=by omega
   have Vt:=zU c 34 (by omega)
   have h92:=zU c 92 (by omega)
   have e3:strOfNums ([92]:List Int)=aY [92]:=AU [92]
   have e4:(l.drop p.length).take (p.length+1-p.length)=[c]:=by
    rw[h,List.drop_left,show p.length+1-p.length=1 by omega];rfl
   refine vc ?_
   simp only[kT.l0,e1,w1,aC,Option.bind_some,e3,Int.toNat_natCast,jZ,e4,kX]
   clear w1 e1 e3 e4
   simp only[w2]
   refine vp (by omega) (vp (by omega) ?_)
   have two:QL c=[92,c]→(34:: esc p++[92])++[c]=34:: (esc p++(esc [c])):=fun h=>by simp[esc,h]
   have one:QL c=[c]→(34:: esc p)++[c]=34:: (esc p++(esc [c])):=fun h=>by simp[esc,h]
   have b1:(34:: esc p:Str).length+([92]:Str).length≤9223372036854775807:=by simp only[List.length_cons,List.length_nil];omega
   have b2:(34:: esc p++[92]:Str).length+([c]:Str).length≤9223372036854775807:=by simp only[List.length_cons,List.length_append,List.length_nil];omega
   have b3:(34:: esc p:Str).length+([c]:Str).length≤9223372036854775807:=by simp only[List.length_cons,List.length_nil];omega
   by_cases c1:(c.toNat:Int)=34
   ·have hc:c=34:=Vt.mp c1
    refine vp c1 (vp b1 (vp (by omega) (vp (by omega) (vp b2 ?_))))
    rw[two (by unfold QL;rw[if_pos (Or.inl hc)])]
    exact hh
   ·have hc:¬c=34:=fun h=>c1 (Vt.mpr h)
    by_cases c2:(c.toNat:Int)=92
    ·have hc2:c=92:=h92.mp c2
     refine vn c1 (vp c2 (vp b1 (vp (by omega) (vp (by omega) (vp b2 ?_)))))
     rw[two (by unfold QL;rw[if_pos (Or.inr hc2)])]
     exact hh
    ·have hc2:¬c=92:=fun h=>c2 (h92.mpr h)
     refine vn c1 (vn c2 (vp (by omega) (vp (by omega) (vp b3 ?_))))
     rw[one (by unfold QL;rw[if_neg (by simp[hc,hc2])])]
     exact hh
 unfold tN.f qw
 refine vb (l9 l (by omega)) ?_
 cases e1:mF l with
 |false=>exact vn (by simp) (vq (vs _) rfl)
 |true=>
  refine vp rfl (vb (O_ l (by omega)) ?_)
  cases e2:Vp l with
  |true=>exact vp rfl (vs _)
  |false=>
   have:=key l [] rfl
   unfold kT.f
   exact vn (by simp) (vb this (vs _))
/-! Kinds as texts, valid kinds. -/
def agy (p:Str×Str):Str:=[59,32]++p.1++[61]++qw p.2
def wB:List (Str×Str)→Str
 |[]=>[]
 |c:: r=>agy c++wB r
def Pm (a b:Str) (ps:List (Str×Str)):Str:=(a++[47]++b)++wB ps
def kfl (q:List (Str×Str)):List (Str×Str)→Bool
 |[]=>true
 |c:: r=>isSmall c.1&&(mF c.2&&decide (c.2.length≤40))&&decide (¬(fidx c.1 q 0≥0))&&kfl (q++[c]) r
def yu (a b:Str) (ps:List (Str×Str)):Bool:=isSmall a&&isSmall b&&decide (¬(ps.length>4))&&kfl [] ps&&decide ((Pm a b ps).length≤150)
theorem Xu (p:Str×Str):(agy p).length=3+p.1.length+(qw p.2).length:=by
 unfold agy;simp only[List.length_append,List.length_cons,List.length_nil]
 omega
theorem Pn (a b:List (Str×Str)):wB (a++b)=wB a++wB b:=by
 induction a with
 |nil=>rfl
 |cons c a ih=>simp only[List.cons_append,wB,ih,List.append_assoc]
theorem Xv (ps:List (Str×Str)):(wB ps).length≤2*Es ps+5*ps.length:=by
 induction ps with
 |nil=>simp[wB]
 |cons c r ih=>
  have h1:=Xu c
  have h2:=adC c.2
  simp only[wB,Es,List.length_append,List.length_cons]
  omega
theorem BN (a b:List (Str×Str)):Es (a++b)=Es a+Es b:=by
 induction a with
 |nil=>simp[Es]
 |cons c a ih=>simp only[List.cons_append,Es,ih];omega
theorem Vu {ls p r:List (Str×Str)} (h:ls=p++r) (hs:small ls):small p:=fun x hx=>hs x (by rw[h];exact List.mem_append_left _ hx)
theorem Po {ls p r:List (Str×Str)} (h:ls=p++r):(ls.map uU).take p.length=p.map uU:=by
 rw[h,List.map_append]
 exact List.take_left' (by simp)
theorem QN (a b:Str) (ps:List (Str×Str)) (ha:a.length≤1048576) (hb:b.length≤1048576) (hz:Es ps≤1048576) (hn:ps.length≤1048576):Ev (fun k=>kQ.f k (aY a) (aY b) (ps.map uU)) (aY (Pm a b ps)):=by
 have hs:=GI hz
 unfold kQ.f
 have e47:(⟨#[47]⟩:ByteArray)=aY [47]:=rfl
 simp only[e47,kX,aC,List.length_map]
 refine vp (by omega) (vp (by first|omega|(simp only[List.length_append,List.length_cons,List.length_nil];omega)) ?_)
 have key:∀(r p:List (Str×Str)),ps=p++r→Ev (fun k=>kQ.l0 k (aY (a++[47]++b++wB p)) (ps.map uU) (ps.length:Int) (p.length:Int)) (aY (Pm a b ps)):=by
  intro r
  induction r with
  |nil=>
   intro p h
   rw[List.append_nil]at h
   subst h
   refine vc ?_
   simp only[kQ.l0]
   exact vn (by omega) (vs _)
  |cons c r ih=>
   intro p h
   have hz2:=iV h
   have e1:=yt h
   have hc:=hs c (by rw[h];simp)
   have hh:=ih (p++[c]) (by rw[h];simp)
   rw[l7,Pn]at hh
   have hq:=adC c.2
   have hp:(wB p).length≤20000000:=by
    have h1:=Xv p
    have h2:Es p≤Es ps:=by rw[h,BN];omega
    omega
   have hi:=Ph c.2 (by omega)
   have w1:wrap64 ((p.length:Int)+1)=(p.length:Int)+1:=aU (by omega) (by omega)
   have e59:(⟨#[59,32]⟩:ByteArray)=aY [59,32]:=rfl
   have e61:(⟨#[61]⟩:ByteArray)=aY [61]:=rfl
   refine vc ?_
   simp only[kQ.l0,e1,w1,uU,e59,e61,aC,kX,List.length_map]
   clear w1 e1
   refine vp (by omega) (vp (by omega) (vp (by omega) (vp (by first|omega|(simp only[List.length_cons,List.length_nil];omega)) (vp (by first|omega|(simp only[List.length_append,List.length_cons,List.length_nil];omega)) (vb hi ?_)))))
   simp only[aC,kX]
   refine vp (by first|omega|(simp only[List.length_append,List.length_cons,List.length_nil];omega)) (vp (by first|omega|(simp only[List.length_append,List.length_cons,List.length_nil];omega)) ?_)
   have e:a++[47]++b++wB p++([59,32]++c.1++[61]++qw c.2)=a++[47]++b++(wB p++wB [c]):=by
    simp[wB,agy]
   rw[e]
   exact hh
 have:=key ps [] rfl
 simpa [wB] using this
theorem FI (a b:Str) (ps:List (Str×Str)) (ha:a.length≤1048576) (hb:b.length≤1048576) (hz:Es ps≤1048576) (hn:ps.length≤1048576):Ev (fun k=>dN.f k (aY a) (aY b) (ps.map uU)) (yu a b ps):=by
 have hs:=GI hz
 have ht:=QN a b ps ha hb hz hn
 have hbad:Ev (fun k=>dN.j0 k true (aY a) (aY b) (ps.map uU)) false:=by
  refine vc ?_
  simp only[dN.j0]
  exact vp trivial (vs _)
 have key:∀(r p:List (Str×Str)),ps=p++r→Ev (fun k=>dN.l0 k (ps.map uU) (ps.length:Int) (p.length:Int) (aY a) (aY b) (ps.map uU)) (kfl p r&&decide ((Pm a b ps).length≤150)):=by
  intro r
  induction r with
  |nil=>
   intro p h
   rw[List.append_nil]at h
   subst h
   refine vc ?_
   simp only[dN.l0,kfl,Bool.true_and]
   refine vn (by omega) (vb ht (vq (vs _) ?_))
   rw[aC]
   by_cases h1:(Pm a b ps).length≤150
   ·rw[decide_eq_true h1];exact decide_eq_true (by omega)
   ·rw[decide_eq_false h1];exact decide_eq_false (by omega)
  |cons c r ih=>
   intro p h
   have hz2:=iV h
   have e1:=yt h
   have hc:=hs c (by rw[h];simp)
   have hh:=ih (p++[c]) (by rw[h];simp)
   rw[l7]at hh
   have w1:wrap64 ((p.length:Int)+1)=(p.length:Int)+1:=aU (by omega) (by omega)
   have i1:=yS c.1 (by omega)
   have i2:=rV c.2 (by omega)
   have i3:=Ey p c.1 (Vu h hs) hc.1 (by omega)
   have e3:=Po h
   refine vc ?_
   simp only[dN.l0,kfl,e1,w1,uU,aC,List.length_map,Int.toNat_natCast]
   clear w1 e1
   refine vp (by omega) (vp (by omega) (vp (by omega) (vb i1 ?_)))
   cases q1:isSmall c.1 with
   |false=>exact vn (by simp) (vs _)
   |true=>
    refine vp rfl (vb i2 ?_)
    cases q2:mF c.2 with
    |false=>exact vn (by simp) (vs _)
    |true=>
     refine vp rfl ?_
     by_cases q3:c.2.length≤40
     ·rw[decide_eq_true q3]
      refine vn (by omega) (vp (by omega) ?_)
      rw[e3]
      refine vb i3 ?_
      by_cases q4:fidx c.1 p 0≥0
      ·refine vp q4 (vq (vs _) ?_)
       rw[decide_eq_false (fun hn=>hn q4)];rfl
      ·refine vn q4 ?_
       rw[decide_eq_true q4]
       simpa using hh
     ·rw[decide_eq_false q3]
      exact vp (by omega) (vs _)
 unfold dN.f yu
 refine vb (yS a (by omega)) ?_
 cases q1:isSmall a with
 |false=>exact vn (by simp) hbad
 |true=>
  refine vp rfl (vb (yS b (by omega)) ?_)
  cases q2:isSmall b with
  |false=>exact vn (by simp) hbad
  |true=>
   refine vp rfl (vc ?_)
   simp only[dN.j0,List.length_map]
   by_cases q3:ps.length>4
   ·refine vp (decide_eq_true (by omega)) (vq (vs _) ?_)
    rw[decide_eq_false (fun hn=>hn q3)];rfl
   ·refine vn (by simp;omega) ?_
    rw[decide_eq_true q3]
    have:=key ps [] rfl
    simpa using this
theorem Vw (l:Str) (hl:l.length≤1000000000):Ev (fun k=>uF.f k (aY l)) (mF l&&decide (l.length≤40)):=by
 unfold uF.f
 refine vb (l9 l (by omega)) ?_
 cases q2:mF l with
 |false=>exact vn (by simp) (vs _)
 |true=>
  refine vp rfl (vq (vs _) ?_)
  rw[aC,Bool.true_and]
  by_cases h1:l.length≤40
  ·rw[decide_eq_true h1];exact decide_eq_true (by omega)
  ·rw[decide_eq_false h1];exact decide_eq_false (by omega)
theorem FM (a b:Str) (ps:List (Str×Str)) (ha:a.length≤1048576) (hb:b.length≤1048576) (hz:Es ps≤1048576) (hn:ps.length≤1048576):Ev (fun k=>dD.f k (aY a) (aY b) (ps.map uU)) (yu a b ps):=by
 have hs:=GI hz
 have hbad:Ev (fun k=>dD.j0 k true (aY a) (aY b) (ps.map uU)) false:=by
  refine vc ?_
  simp only[dD.j0]
  exact vp trivial (vs _)
 have key:∀(r p:List (Str×Str)),ps=p++r→Ev (fun k=>dD.l0 k (((a++[47]++b++wB p:Str).length:Nat):Int) (p.length:Int) (aY a) (aY b) (ps.map uU)) (kfl p r&&decide ((Pm a b ps).length≤150)):=by
  intro r
  induction r with
  |nil=>
   intro p h
   rw[List.append_nil]at h
   subst h
   refine vc ?_
   simp only[dD.l0,kfl,Bool.true_and,List.length_map]
   refine vn (by omega) (vq (vs _) ?_)
   have e:a++[47]++b++wB ps=Pm a b ps:=rfl
   rw[e]
   by_cases h1:(Pm a b ps).length≤150
   ·rw[decide_eq_true h1];exact decide_eq_true (by omega)
   ·rw[decide_eq_false h1];exact decide_eq_false (by omega)
  |cons c r ih=>
   intro p h
   have hz2:=iV h
   have e1:=yt h
   have hc:=hs c (by rw[h];simp)
   have hh:=ih (p++[c]) (by rw[h];simp)
   rw[l7]at hh
   have hp:(wB p).length≤20000000:=by
    have h1:=Xv p
    have h2:Es p≤Es ps:=by rw[h,BN];omega
    omega
   have hq:=adC c.2
   have hk:=Xu c
   have i1:=Ew c.1 (by omega)
   have i2:=Vw c.2 (by omega)
   have i3:=JA p c.1 (Vu h hs) hc.1 (by omega)
   have i4:=Pj c.2 (by omega)
   have e3:=Po h
   have en:(a++[47]++b++wB (p++[c]):Str).length=(a++[47]++b++wB p:Str).length+3+c.1.length+(qw c.2).length:=by
    rw[Pn]
    simp only[List.length_append,wB,List.length_nil,hk]
    omega
   have hm:(a++[47]++b++wB p:Str).length≤30000000:=by
    simp only[List.length_append,List.length_cons,List.length_nil];omega
   rw[en]at hh
   generalize (a++[47]++b++wB p:Str).length=m at hh hm
   have w1:Unit→wrap64 ((p.length:Int)+1)=(p.length:Int)+1∧wrap64 (wrap64 (wrap64 ((m:Int)+3)+(c.1.length:Int))+((qw c.2).length:Int))=((m+3+c.1.length+(qw c.2).length:Nat):Int):=by
    intro _
    have x1:wrap64 ((m:Int)+3)=(m:Int)+3:=aU (by omega) (by omega)
    rw[x1]
    clear x1
    have x2:wrap64 ((m:Int)+3+(c.1.length:Int))=(m:Int)+3+(c.1.length:Int):=aU (by omega) (by omega)
    rw[x2]
    clear x2
    exact⟨aU (by omega) (by omega),(aU (by omega) (by omega)).trans (by omega)⟩
   refine vc ?_
   simp only[dD.l0,kfl,e1,(w1 ()).1,uU,aC,List.length_map,Int.toNat_natCast]
   refine vp (by omega) (vp (by omega) (vb i1 ?_))
   cases q1:isSmall c.1 with
   |false=>exact vn (by simp) (vs _)
   |true=>
    refine vp rfl (vb i2 ?_)
    cases q2:(mF c.2&&decide (c.2.length≤40))with
    |false=>exact vn (by simp) (vs _)
    |true=>
     refine vp rfl (vp (by omega) ?_)
     rw[e3]
     refine vb i3 ?_
     by_cases q4:fidx c.1 p 0≥0
     ·refine vp q4 (vq (vs _) ?_)
      rw[decide_eq_false (fun hn=>hn q4)];rfl
     ·refine vn q4 (vb i4 ?_)
      rw[decide_eq_true q4]
      simp only[aC,(w1 ()).2]
      simpa using hh
 unfold dD.f yu
 refine vb (Ew a (by omega)) ?_
 cases q1:isSmall a with
 |false=>exact vn (by simp) hbad
 |true=>
  refine vp rfl (vb (Ew b (by omega)) ?_)
  cases q2:isSmall b with
  |false=>exact vn (by simp) hbad
  |true=>
   refine vp rfl (vc ?_)
   simp only[dD.j0,List.length_map,aC]
   by_cases q3:ps.length>4
   ·refine vp (decide_eq_true (by omega)) (vq (vs _) ?_)
    rw[decide_eq_false (fun hn=>hn q3)];rfl
   ·refine vn (by simp;omega) ?_
    rw[decide_eq_true q3]
    have:=key ps [] rfl
    have x1:wrap64 ((a.length:Int)+(b.length:Int))=(a.length:Int)+(b.length:Int):=aU (by omega) (by omega)
    rw[x1]
    clear x1
    have x2:wrap64 ((a.length:Int)+(b.length:Int)+1)=(((a++[47]++b++wB []:Str).length:Nat):Int):=by
     refine(aU (by omega) (by omega)).trans ?_
     simp only[wB,List.length_append,List.length_cons,List.length_nil]
     omega
    rw[x2]
    simpa using this
theorem CG (c:UInt8):nZ.f (c.toNat:Int)=some (ES c):=by
 unfold nZ.f ES
 rw[BM,Iu]
 cases MB c<;>simp
theorem CJ (l:Str) (hl:l.length≤1000000000000000):Ev (fun k=>dH.f k (aY l)) (l.all ES):=by
 unfold dH.f
 rw[aC]
 refine vq (qK (xs:=l) (F:=fun k (_:Unit) i=>dH.l0 k (aY l) (l.length:Int) i) (st:=fun _ c=>if ES c=true then .inr ()else .inl false) (fin:=fun _=>true) (s:=()) (fun _ _=>True) trivial ?_ ?_) ?_
 ·intro p c r s h _
  have hz:=iV h
  have e1:=jU h
  have w1:wrap64 ((p.length:Int)+1)=(p.length:Int)+1:=aU (by omega) (by omega)
  simp only[dH.l0,e1,w1,aC]
  clear w1 e1
  cases e:ES c with
  |true=>
   simp only[if_true]
   refine⟨(fun v hv=>by cases hv),fun s' hs=>⟨trivial,fun v hv=>?_⟩⟩
   refine vp (by omega) (vp (by omega) (vp (by omega) (jI (CG c) (vp e hv))))
  |false=>
   refine⟨(fun v hv=>?_),fun s' hs=>by simp at hs⟩
   simp only[Bool.false_eq_true,if_false,Sum.inl.injEq]at hv
   subst hv
   refine vp (by omega) (vp (by omega) (vp (by omega) (jI (CG c) (vn (by rw[e];simp) (vs _)))))
 ·intro s _
  simp only[dH.l0]
  exact vn (by omega) (vs _)
 ·clear hl
  induction l with
  |nil=>rfl
  |cons c r ih=>
   unfold run
   cases e:ES c with
   |true=>simp[e,ih]
   |false=>simp[e]
theorem Ez (l:Str) (hl:l.length≤1000000000000000):Ev (fun k=>kV.f k (aY l)) (Jw l):=by
 unfold kV.f Jw
 rw[aC]
 by_cases h1:1≤l.length
 ·rw[decide_eq_true h1]
  refine vp (by omega) ?_
  by_cases h2:l.length≤20
  ·rw[decide_eq_true h2]
   exact vp (by omega) (vb (CJ l hl) (vs _))
  ·rw[decide_eq_false h2]
   exact vn (by omega) (vs _)
 ·rw[decide_eq_false h1]
  exact vn (by omega) (vs _)
theorem EC (l:Str) (hl:l.length≤1000000000000000):Ev (fun k=>b_.f k (aY l)) (Jw l):=by
 unfold b_.f
 have hj:Ev (fun k=>b_.j1 k (aY l) (0:Int) false) (decide (1≤l.length)&&decide (l.length≤20)):=by
  refine vc ?_
  simp only[b_.j1,aC]
  by_cases h1:1≤l.length
  ·rw[decide_eq_true h1]
   refine vn (by simp) (vp (by omega) (vq (vs _) ?_))
   rw[Bool.true_and]
   by_cases h2:l.length≤20
   ·rw[decide_eq_true h2];exact decide_eq_true (by omega)
   ·rw[decide_eq_false h2];exact decide_eq_false (by omega)
  ·rw[decide_eq_false h1]
   exact vn (by simp) (vn (by omega) (vs _))
 have hj':∀i:Int,Ev (fun k=>b_.j1 k (aY l) i false) (decide (1≤l.length)&&decide (l.length≤20)):=by
  intro i
  obtain⟨K,hK⟩:=hj
  refine⟨K+1,fun k hk=>?_⟩
  have:=hK k (by omega)
  obtain⟨m,rfl⟩:∃m,k=m+1:=⟨k-1,by omega⟩
  simp only[b_.j1]at this⊢
  exact this
 refine vq (qK (xs:=l) (F:=fun k (_:Nat) i=>b_.l0 k (aY l) i) (st:=fun n c=>if n≤20 then(if ES c=true then .inr (n+1)else .inl false)else .inl (decide (1≤l.length)&&decide (l.length≤20))) (fin:=fun _=>decide (1≤l.length)&&decide (l.length≤20)) (s:=0) (fun p n=>n=p.length) rfl ?_ ?_) ?_
 ·intro p c r n h hn
  subst hn
  have hz:=iV h
  have e1:=jU h
  have w1:wrap64 ((p.length:Int)+1)=(p.length:Int)+1:=aU (by omega) (by omega)
  by_cases h20:p.length≤20
  ·simp only[if_pos h20]
   have hd:decide ((p.length:Int)≤20)=true:=decide_eq_true (by omega)
   simp only[b_.l0,hd,aC]
   cases e:ES c with
   |true=>
    simp only[if_true]
    refine⟨(fun v hv=>by cases hv),fun s' hs=>⟨?_,fun v hv=>?_⟩⟩
    ·cases hs;simp
    ·refine vp (by omega) (vc ?_)
     simp only[b_.j1,e1,w1,aC]
     clear w1 e1
     exact vp trivial (vp (by omega) (vp (by omega) (jI (vT c) (vp e hv))))
   |false=>
    refine⟨(fun v hv=>?_),fun s' hs=>by simp at hs⟩
    simp only[Bool.false_eq_true,if_false,Sum.inl.injEq]at hv
    subst hv
    refine vp (by omega) (vc ?_)
    simp only[b_.j1,e1,w1,aC]
    clear w1 e1
    exact vp trivial (vp (by omega) (vp (by omega) (jI (vT c) (vn (by rw[e];simp) (vs _)))))
  ·simp only[if_neg h20]
   have hd:decide ((p.length:Int)≤20)=false:=decide_eq_false (by omega)
   refine⟨(fun v hv=>?_),fun s' hs=>by cases hs⟩
   cases hv
   simp only[b_.l0,hd,aC]
   clear w1 e1
   exact vp (by omega) (hj' _)
 ·intro s hs
  subst hs
  simp only[b_.l0,aC]
  exact vn (by omega) (hj' _)
 ·unfold Jw
  have key:∀(r:Str) (n:Nat),n+r.length=l.length→run (fun n c=>if n≤20 then(if ES c=true then .inr (n+1)else .inl false)else .inl (decide (1≤l.length)&&decide (l.length≤20))) (fun _=>decide (1≤l.length)&&decide (l.length≤20)) r n=(decide (1≤l.length)&&decide (l.length≤20)&&r.all ES):=by
   intro r
   induction r with
   |nil=>intro n _;simp[run]
   |cons c r ih=>
    intro n hn
    simp only[List.length_cons]at hn
    unfold run
    by_cases h20:n≤20
    ·simp only[if_pos h20]
     cases e:ES c with
     |true=>simp[e,ih (n+1) (by omega)]
     |false=>simp[e]
    ·simp only[if_neg h20]
     have:decide (l.length≤20)=false:=decide_eq_false (by omega)
     simp[this]
  exact key l 0 (by omega)
/-! The boundary of a kind. -/
def BO (ps:List (Str×Str)) (n:Str):Str×Bool:=if fidx n ps 0<0 then([],false)else((ps.getD (fidx n ps 0).toNat ([],[])).2,true)
def multi:Str:=[109,117,108,116,105,112,97,114,116]
def bnd:Str:=[98,111,117,110,100,97,114,121]
def SQ (a b:Str) (ps:List (Str×Str)):Str×Bool:=if yu a b ps=true∧a=multi∧Jw (BO ps bnd).1=true then((BO ps bnd).1,true)else([],false)
theorem Ib (ps:List (Str×Str)) (n:Str) (hs:small ps):(BO ps n).1.length≤1048576:=by
 unfold BO
 split
 ·simp
 ·rw[List.getD_eq_getElem?_getD]
  cases e:ps[(fidx n ps 0).toNat]? with
  |none=>simp
  |some x=>exact(hs x (List.mem_of_getElem? e)).2
theorem Xw (ps:List (Str×Str)) (i:Int):(dU (ps.map uU) i).f1=aY ((ps.getD i.toNat ([],[])).2):=by
 unfold dU
 rw[List.getD_eq_getElem?_getD,List.getD_eq_getElem?_getD,List.getElem?_map]
 cases ps[i.toNat]? with
 |none=>rfl
 |some x=>rfl
theorem GK (ps:List (Str×Str)) (n:Str) (hs:small ps) (hn:n.length≤1048576) (hl:ps.length≤1048576):Ev (fun k=>oG.f k (ps.map uU) (aY n)) (aY (BO ps n).1,(BO ps n).2):=by
 unfold oG.f BO
 refine vb (Ey ps n hs hn hl) ?_
 have hr:=Vr n ps 0
 by_cases h:fidx n ps 0<0
 ·simp only[if_pos h];exact vq (vs _) rfl
 ·simp only[if_neg h,List.length_map,Xw]
  exact vp (by omega) (vp (by omega) (vs _))
theorem GL (ps:List (Str×Str)) (n:Str) (hs:small ps) (hn:n.length≤1048576) (hl:ps.length≤1048576):Ev (fun k=>kP.f k (ps.map uU) (aY n)) (aY (BO ps n).1,(BO ps n).2):=by
 unfold kP.f BO
 refine vb (JA ps n hs hn hl) ?_
 have hr:=Vr n ps 0
 by_cases h:fidx n ps 0<0
 ·simp only[if_pos h];exact vq (vs _) rfl
 ·simp only[if_neg h,List.length_map,Xw]
  exact vp (by omega) (vp (by omega) (vs _))
theorem Xx (ps:List (Str×Str)) (n:Str) (h:(BO ps n).2=false):(BO ps n).1=[]:=by
 unfold BO at*
 split at h
 ·rename_i h1;rw[if_pos h1]
 ·cases h
theorem agz:(⟨#[98,111,117,110,100,97,114,121]⟩:ByteArray)=aY bnd:=rfl
theorem MF (a b:Str) (ps:List (Str×Str)) (ha:a.length≤1048576) (hb:b.length≤1048576) (hz:Es ps≤1048576) (hn:ps.length≤1048576):Ev (fun k=>jA.f k (aY a) (aY b) (ps.map uU)) (aY (SQ a b ps).1,(SQ a b ps).2):=by
 have hs:=GI hz
 have hg:=Ib ps bnd hs
 unfold jA.f
 refine vb (FI a b ps ha hb hz hn) ?_
 simp only[nM]
 have hbad:SQ a b ps=([],false)→Ev (fun k=>jA.j0 k true (aY a) (aY b) (ps.map uU)) (aY (SQ a b ps).1,(SQ a b ps).2):=by
  intro e
  rw[e]
  refine vc ?_
  simp only[jA.j0]
  exact vp trivial (vq (vs _) rfl)
 cases e:yu a b ps with
 |false=>exact vn (by simp) (hbad (by unfold SQ;rw[if_neg (by simp[e])]))
 |true=>
  refine vp rfl ?_
  by_cases hm:a=multi
  ·have e2:(a !=([109,117,108,116,105,112,97,114,116]:List UInt8))=false:=by rw[hm];decide
   rw[e2]
   refine vc ?_
   simp only[jA.j0,agz]
   refine vn (by simp) (vb (GK ps bnd hs (by decide) (by omega)) (vb (Ez (BO ps bnd).1 (by omega)) ?_))
   cases e3:Jw (BO ps bnd).1 with
   |true=>
    have hv:SQ a b ps=((BO ps bnd).1,true):=by unfold SQ;rw[if_pos ⟨e,hm,e3⟩]
    rw[hv];exact vp rfl (vs _)
   |false=>
    have hv:SQ a b ps=([],false):=by unfold SQ;rw[if_neg (by rw[e3];simp)]
    rw[hv];exact vn (by simp) (vq (vs _) rfl)
  ·have e2:(a !=([109,117,108,116,105,112,97,114,116]:List UInt8))=true:=by simpa [multi] using hm
   rw[e2]
   exact hbad (by unfold SQ;rw[if_neg (by simp[hm])])
theorem ED (a b:Str) (ps:List (Str×Str)) (ha:a.length≤1048576) (hb:b.length≤1048576) (hz:Es ps≤1048576) (hn:ps.length≤1048576):Ev (fun k=>oM.f k (aY a) (aY b) (ps.map uU)) (aY (SQ a b ps).1,(SQ a b ps).2):=by
 have hs:=GI hz
 have hg:=Ib ps bnd hs
 unfold oM.f
 simp only[agz,nM]
 refine vb (GL ps bnd hs (by decide) (by omega)) (vb (FM a b ps ha hb hz hn) ?_)
 cases e:yu a b ps with
 |false=>
  have hv:SQ a b ps=([],false):=by unfold SQ;rw[if_neg (by rw[e];simp)]
  rw[hv];exact vn (by simp) (vq (vs _) rfl)
 |true=>
  refine vp rfl ?_
  by_cases hm:a=multi
  ·refine vp hm ?_
   cases e4:(BO ps bnd).2 with
   |false=>
    have:=Xx ps bnd e4
    have hv:SQ a b ps=([],false):=by unfold SQ;rw[if_neg (by rw[this];simp[Jw])]
    rw[hv];exact vn (by simp) (vq (vs _) rfl)
   |true=>
    refine vp rfl (vb (EC (BO ps bnd).1 (by omega)) ?_)
    cases e3:Jw (BO ps bnd).1 with
    |true=>
     have hv:SQ a b ps=((BO ps bnd).1,true):=by unfold SQ;rw[if_pos ⟨e,hm,e3⟩]
     rw[hv];exact vp rfl (vs _)
    |false=>
     have hv:SQ a b ps=([],false):=by unfold SQ;rw[if_neg (by rw[e3];simp)]
     rw[hv];exact vn (by simp) (vq (vs _) rfl)
  ·have hv:SQ a b ps=([],false):=by unfold SQ;rw[if_neg (by simp[hm])]
   rw[hv];exact vn hm (vq (vs _) rfl)
/-! Kinds parsed: the model. -/
def Pq:Str→Option (Str×Str)
 |[]=>none
 |c:: r=>if c=34 then some ([],r)else if c=92 then(match r with
   |[]=>none
   |d:: t=>(Pq t).map fun q=>(d:: q.1,q.2))else(Pq r).map fun q=>(c:: q.1,q.2)
theorem GN (c:UInt8) (r:Str):Pq (c:: r)=if c=34 then some ([],r)else if c=92 then(match r with
   |[]=>none
   |d:: t=>(Pq t).map fun q=>(d:: q.1,q.2))else(Pq r).map fun q=>(c:: q.1,q.2):=by rw[Pq.eq_def];rfl
def nq (q:Nat) (c:UInt8):Nat:=if q=2 then 1 else if q=1 then(if c=34 then 0 else if c=92 then 2 else 1)else(if c=34 then 1 else 0)
def uJ (b:UInt8):Nat→Str→Option (Str×Str)
 |_,[]=>none
 |q,c:: r=>if q=0∧c=b then some ([],r)else(uJ b (nq q c) r).map fun x=>(c:: x.1,x.2)
def hd1 (c:UInt8):List Str→List Str
 |[]=>[[c]]
 |x:: r=>(c:: x):: r
def parts (b:UInt8):Nat→Str→List Str
 |_,[]=>[[]]
 |q,c:: r=>if q=0∧c=b then[]:: parts b 0 r else hd1 c (parts b (nq q c) r)
theorem Kt (b:UInt8):∀(n:Nat) (r w t:Str),r.length≤n→Pq r=some (w,t)→∃m,r=m++t∧w.length<m.length∧uJ b 1 r=(uJ b 0 t).map fun x=>(m++x.1,x.2):=by
 intro n
 induction n with
 |zero=>intro r w t h h2;cases r with
  |nil=>cases h2
  |cons c r=>simp at h
 |succ n ih=>
  intro r w t h h2
  cases r with
  |nil=>cases h2
  |cons c r=>
   simp only[List.length_cons]at h
   rw[GN]at h2
   by_cases c1:c=34
   ·rw[if_pos c1]at h2
    cases h2
    refine⟨[c],rfl,by simp,?_⟩
    rw[uJ,if_neg (by simp),c1]
    rfl
   ·rw[if_neg c1]at h2
    by_cases c2:c=92
    ·rw[if_pos c2]at h2
     cases r with
     |nil=>cases h2
     |cons d r=>
      simp only[List.length_cons]at h
      simp only[Option.map_eq_some_iff]at h2
      obtain⟨⟨w1,t1⟩,e1,e2⟩:=h2
      cases e2
      obtain⟨m,e3,e4,e5⟩:=ih r w1 t1 (by omega) e1
      refine⟨c:: d:: m,by rw[e3];rfl,by simp only[List.length_cons];omega,?_⟩
      rw[uJ,if_neg (by simp),c2,uJ,if_neg (by simp[nq])]
      have:nq (nq 1 92) d=1:=by simp[nq]
      rw[this,e5]
      cases uJ b 0 t1<;>rfl
    ·rw[if_neg c2]at h2
     simp only[Option.map_eq_some_iff]at h2
     obtain⟨⟨w1,t1⟩,e1,e2⟩:=h2
     cases e2
     obtain⟨m,e3,e4,e5⟩:=ih r w1 t1 (by omega) e1
     refine⟨c:: m,by rw[e3];rfl,by simp only[List.length_cons];omega,?_⟩
     have:nq 1 c=1:=by simp[nq,c1,c2]
     rw[uJ,if_neg (by simp),this,e5]
     cases uJ b 0 t1<;>rfl
theorem abt (b:UInt8):∀(n:Nat) (r:Str),r.length≤n→Pq r=none→uJ b 1 r=none:=by
 intro n
 induction n with
 |zero=>intro r h h2;cases r with
  |nil=>rfl
  |cons c r=>simp at h
 |succ n ih=>
  intro r h h2
  cases r with
  |nil=>rfl
  |cons c r=>
   simp only[List.length_cons]at h
   rw[GN]at h2
   by_cases c1:c=34
   ·rw[if_pos c1]at h2;cases h2
   ·rw[if_neg c1]at h2
    by_cases c2:c=92
    ·rw[if_pos c2]at h2
     cases r with
     |nil=>rw[uJ,if_neg (by simp)];rfl
     |cons d r=>
      simp only[List.length_cons]at h
      simp only[Option.map_eq_none_iff]at h2
      rw[uJ,if_neg (by simp),c2,uJ,if_neg (by simp[nq])]
      have:nq (nq 1 92) d=1:=by simp[nq]
      rw[this,ih r (by omega) h2];rfl
    ·rw[if_neg c2]at h2
     simp only[Option.map_eq_none_iff]at h2
     have:nq 1 c=1:=by simp[nq,c1,c2]
     rw[uJ,if_neg (by simp),this,ih r (by omega) h2];rfl
theorem agA (b:UInt8) (s:Str):∀(q:Nat) (x t:Str),uJ b q s=some (x,t)→s=x++b:: t:=by
 induction s with
 |nil=>intro q x t h;cases h
 |cons c r ih=>
  intro q x t h
  rw[uJ]at h
  split at h
  ·rename_i hc;cases h;rw[hc.2];rfl
  ·simp only[Option.map_eq_some_iff]at h
   obtain⟨⟨w1,t1⟩,e1,e2⟩:=h
   cases e2
   rw[ih _ _ _ e1];rfl
theorem QO (b:UInt8) (s:Str):∀q:Nat,parts b q s=match uJ b q s with
  |none=>[s]
  |some x=>x.1:: parts b 0 x.2:=by
 induction s with
 |nil=>intro q;rfl
 |cons c r ih=>
  intro q
  rw[parts,uJ]
  by_cases h:q=0∧c=b
  ·rw[if_pos h,if_pos h]
  ·rw[if_neg h,if_neg h,ih]
   cases uJ b (nq q c) r<;>rfl
theorem Xy (b:UInt8) (s:Str):∀q:Nat,1≤(parts b q s).length∧(parts b q s).length≤s.length+1:=by
 induction s with
 |nil=>intro q;exact⟨Nat.le_refl _,Nat.le_refl _⟩
 |cons c r ih=>
  intro q
  rw[parts]
  split
  ·have:=ih 0;simp only[List.length_cons];omega
  ·have:=ih (nq q c)
   cases e:parts b (nq q c) r with
   |nil=>rw[e]at this;simp at this
   |cons y l=>rw[e]at this;simp only[hd1,List.length_cons]at this⊢;omega
/-- Each part is a piece of the text. -/
theorem ahI (b:UInt8) (s:Str):∀(q:Nat) (x:Str),x∈parts b q s→x.length≤s.length∧∀c∈x,c∈s:=by
 induction s with
 |nil=>intro q x h;simp only[parts,List.mem_singleton]at h;subst h;simp
 |cons c r ih=>
  intro q x h
  rw[parts]at h
  split at h
  ·rcases List.mem_cons.mp h with rfl|h
   ·simp
   ·obtain⟨h1,h2⟩:=ih _ x h
    exact⟨by simp only[List.length_cons];omega,fun d hd=>List.mem_cons_of_mem _ (h2 d hd)⟩
  ·cases e:parts b (nq q c) r with
   |nil=>have:=Xy b r (nq q c);rw[e]at this;simp at this
   |cons y l=>
    rw[e,hd1]at h
    rcases List.mem_cons.mp h with rfl|h
    ·obtain⟨h1,h2⟩:=ih (nq q c) y (by rw[e];simp)
     refine⟨by simp only[List.length_cons];omega,fun d hd=>?_⟩
     rcases List.mem_cons.mp hd with rfl|hd
     ·simp
     ·exact List.mem_cons_of_mem _ (h2 d hd)
    ·obtain⟨h1,h2⟩:=ih (nq q c) x (by rw[e];exact List.mem_cons_of_mem _ h)
     exact⟨by simp only[List.length_cons];omega,fun d hd=>List.mem_cons_of_mem _ (h2 d hd)⟩
/-! Words. -/
def Pv:Nat→Bool→Str→Option (List Str)
 |0,_,_=>none
 |_+1,_,[]=>some []
 |n+1,a,c:: r=>if c=32 then Pv n true r else if a=false then none else if c=34 then(match Pq r with
   |none=>none
   |some q=>(Pv n false q.2).map (q.1:: ·))else if(c:: r).takeWhile yO=[]then none else(Pv n false ((c:: r).dropWhile yO)).map ((c:: r).takeWhile yO:: ·)
def words (s:Str):Option (List Str):=Pv (s.length+1) true s
/-! Cut at a byte. -/
def A_ (b:UInt8):Str→Option (Str×Str)
 |[]=>none
 |c:: r=>if c=b then some ([],r)else(A_ b r).map fun x=>(c:: x.1,x.2)
theorem ZL (b:UInt8) (s:Str):∀(x t:Str),A_ b s=some (x,t)→s=x++b:: t:=by
 induction s with
 |nil=>intro x t h;cases h
 |cons c r ih=>
  intro x t h
  rw[A_]at h
  split at h
  ·rename_i hc;cases h;rw[hc];rfl
  ·simp only[Option.map_eq_some_iff]at h
   obtain⟨⟨w1,t1⟩,e1,e2⟩:=h
   cases e2
   rw[ih _ _ e1];rfl
theorem aos (b:UInt8) (s:Str):Lib.index s [b]=match A_ b s with
  |none=>-1
  |some x=>(x.1.length:Int):=by
 induction s with
 |nil=>rfl
 |cons c r ih=>
  rw[Lib.index,A_]
  by_cases h:c=b
  ·rw[if_pos (by simp[List.isPrefixOf,h]),if_pos h];rfl
  ·rw[if_neg (by simp only[List.isPrefixOf,Bool.and_true,beq_iff_eq];exact fun e=>h e.symm),if_neg h,ih]
   cases e:A_ b r with
   |none=>rfl
   |some q=>
    simp only[Option.map_some,List.length_cons]
    rw[if_neg (by simp)]
    rfl
theorem aCx (b:UInt8) (s:Str):Lib.cut s [b]=match A_ b s with
  |none=>(s,[],false)
  |some x=>(x.1,x.2,true):=by
 unfold Lib.cut
 rw[aos]
 cases e:A_ b s with
 |none=>rfl
 |some q=>
  obtain⟨x,t⟩:=q
  have:=ZL b s x t e
  simp only
  rw[if_pos (by omega)]
  subst this
  simp
def trim (l:Str):Str:=Lib.trimB l 32
theorem F5 (p:UInt8→Bool) (l:Str):∃m,l=m++l.dropWhile p∧∀c∈m,p c=true:=by
 induction l with
 |nil=>exact⟨[],rfl,by simp⟩
 |cons c r ih=>
  cases e:p c with
  |true=>
   obtain⟨m,h1,h2⟩:=ih
   refine⟨c:: m,by simp[List.dropWhile,e];exact h1,fun d hd=>?_⟩
   rcases List.mem_cons.mp hd with rfl|hd
   ·exact e
   ·exact h2 d hd
  |false=>exact⟨[],by simp[List.dropWhile,e],by simp⟩
/-- What is trimmed: spaces ahead and behind. -/
theorem MG (l:Str):∃i j,l=List.replicate i 32++trim l++List.replicate j 32:=by
 unfold trim Lib.trimB Lib.trimLeftB Lib.trimRightB
 have rep:∀m:Str,(∀c∈m,(c==32)=true)→m=List.replicate m.length 32:=fun m h=>List.eq_replicate_iff.mpr ⟨rfl,fun c hc=>by simpa using h c hc⟩
 obtain⟨m,h1,h2⟩:=F5 (·==32) l.reverse
 obtain⟨m2,h3,h4⟩:=F5 (·==32) (l.reverse.dropWhile (·==32)).reverse
 refine⟨m2.length,m.length,?_⟩
 rw[←rep m2 h4,←h3]
 have e:m.reverse=List.replicate m.length 32:=by
  have:=rep m.reverse (fun c hc=>h2 c (List.mem_reverse.mp hc))
  rwa [List.length_reverse]at this
 rw[←e,←List.reverse_append,←h1,List.reverse_reverse]
theorem GR (l:Str):(trim l).length≤l.length:=by
 obtain⟨i,j,h⟩:=MG l
 have:=congrArg List.length h
 simp only[List.length_append]at this
 omega
theorem abu (l:Str) (c:UInt8) (hc:c∈l) (h32:c≠32):c∈trim l:=by
 obtain⟨i,j,h⟩:=MG l
 rw[h]at hc
 simp only[List.mem_append,List.mem_replicate]at hc
 rcases hc with(⟨_,h⟩|h)|⟨_,h⟩
 ·exact absurd h h32
 ·exact h
 ·exact absurd h h32
theorem Xz (l:Str):trim (32:: l)=trim l:=by
 unfold trim Lib.trimB Lib.trimLeftB Lib.trimRightB
 rw[List.reverse_cons,List.dropWhile_append]
 split
 ·rename_i h
  have:l.reverse.dropWhile (·==32)=[]:=by simpa using h
  rw[this];rfl
 ·rw[List.reverse_append];simp
/-- One parameter; all of them; a kind. -/
def MH (s:Str):Option (Str×Str):=match A_ 61 s with
 |none=>none
 |some x=>match words x.2 with
  |some [w]=>some (low (trim x.1),w)
  |_=>none
def Vx:List Str→Option (List (Str×Str))
 |[]=>some []
 |s:: r=>match MH s with
  |none=>none
  |some x=>(Vx r).map (x:: ·)
def pkO (o:Option (Str×Str)) (ps:Option (List (Str×Str))):Option (Str×Str×List (Str×Str)):=match o,ps with
 |some x,some ps=>if yu (low x.1) (low x.2) ps=true then some (low x.1,low x.2,ps)else none
 |_,_=>none
def pk (s:Str):Option (Str×Str×List (Str×Str)):=if mF s=true then pkO (A_ 47 (trim ((parts 59 0 s).headD []))) (Vx ((parts 59 0 s).drop 1))else none
/-! Kinds parsed: the program. -/
theorem alI (c b:UInt8):((c.toNat:Int)=(b.toNat:Int))↔c=b:=by
 constructor
 ·intro e;exact UInt8.toNat_inj.mp (by omega)
 ·intro e;rw[e]
def WA (L:Nat) (acc:Str):Option (Str×Str)→ByteArray×Int×Bool
 |none=>(aY [],0,false)
 |some q=>(aY (acc++q.1),((L-q.2.length:Nat):Int),true)
theorem QS (l:Str) (hl:l.length≤1048576):∀(n:Nat) (r p acc:Str),r.length≤n→l=p++r→acc.length≤p.length→Ev (fun k=>jS.l0 k (aY l) (zn acc) (p.length:Int)) (WA l.length acc (Pq r)):=by
 intro n
 induction n with
 |zero=>
  intro r p acc h h2 h3
  have:r=[]:=List.length_eq_zero_iff.mp (by omega)
  subst this
  rw[List.append_nil]at h2
  subst h2
  refine vc ?_
  simp only[jS.l0,aC]
  exact vn (by omega) (vq (vs _) rfl)
 |succ n ih=>
  intro r p acc h h2 h3
  cases r with
  |nil=>
   rw[List.append_nil]at h2
   subst h2
   refine vc ?_
   simp only[jS.l0,aC]
   exact vn (by omega) (vq (vs _) rfl)
  |cons c r=>
   simp only[List.length_cons]at h
   have hz:=iV h2
   have e1:=jU h2
   have w1:wrap64 ((p.length:Int)+1)=((p.length+1:Nat):Int):=(aU (by omega) (by omega)).trans (by omega)
   have Vt:(c.toNat:Int)=34↔c=34:=zU c 34 (by omega)
   have h92:(c.toNat:Int)=92↔c=92:=zU c 92 (by omega)
   refine vc ?_
   simp only[jS.l0,e1,w1,aC,QM]
   clear e1 w1
   rw[GN]
   refine vp (by omega) (vp (by omega) ?_)
   by_cases c1:(c.toNat:Int)=34
   ·refine vp c1 (vq (vs _) ?_)
    rw[if_pos (Vt.mp c1),WA,AU,show l.length-r.length=p.length+1 by omega]
    simp
   ·refine vn c1 ?_
    rw[if_neg (fun hh=>c1 (Vt.mpr hh))]
    by_cases c2:(c.toNat:Int)=92
    ·refine vp c2 ?_
     rw[if_pos (h92.mp c2)]
     cases r with
     |nil=>
      simp only[List.length_nil]at hz
      exact vp (by omega) (vq (vs _) rfl)
     |cons d r=>
      simp only[List.length_cons]at h hz
      have e2:bt (aY l) ((p.length+1:Nat):Int)=(d.toNat:Int):=by
       have:=jU (l:=l) (p:=p++[c]) (c:=d) (r:=r) (by rw[h2];simp)
       rwa [List.length_append]at this
      have w2:wrap64 (((p.length+1:Nat):Int)+1)=((p.length+2:Nat):Int):=(aU (by omega) (by omega)).trans (by omega)
      have:=ih r (p++[c,d]) (acc++[d]) (by omega) (by rw[h2];simp) (by simp;omega)
      rw[Kr,List.length_append]at this
      have e3:([(d.toNat:Int)]:List Int)=zn [d]:=rfl
      rw[e2,w2,e3]
      clear e2 w2
      refine vn (by omega) (vp (by omega) (vp (by omega) (vp (by omega) (vq this ?_))))
      show _=WA l.length acc ((Pq r).map fun q=>(d:: q.1,q.2))
      cases Pq r with
      |none=>rfl
      |some q=>simp[WA]
    ·refine vn c2 ?_
     rw[if_neg (fun hh=>c2 (h92.mpr hh))]
     have:=ih r (p++[c]) (acc++[c]) (by omega) (by rw[h2];simp) (by simp;omega)
     rw[Kr,List.length_append]at this
     have e3:([(c.toNat:Int)]:List Int)=zn [c]:=rfl
     rw[e3]
     refine vp (by omega) (vq this ?_)
     cases Pq r with
     |none=>rfl
     |some q=>simp[WA]
theorem JB (c:UInt8) (r:Str) (hl:r.length≤1048575):Ev (fun k=>jS.f k (aY (c:: r))) (WA (r.length+1) [] (Pq r)):=QS (c:: r) (by simp only[List.length_cons];omega) r.length r [c] [] (Nat.le_refl _) rfl (by simp)
def abv (p:Nat):Option (Str×Str)→Int
 |none=>-1
 |some q=>((p+q.1.length:Nat):Int)
theorem EF {l p r:Str} (h:l=p++r):l.drop p.length=r:=by rw[h,List.drop_left]
theorem Px (l:Str) (b:UInt8) (hb:b≠34) (hl:l.length≤1048576):∀(n:Nat) (r p:Str),r.length≤n→l=p++r→Ev (fun k=>kM.l0 k (aY l) (b.toNat:Int) (p.length:Int)) (abv p.length (uJ b 0 r)):=by
 intro n
 induction n with
 |zero=>
  intro r p h h2
  have:r=[]:=List.length_eq_zero_iff.mp (by omega)
  subst this
  rw[List.append_nil]at h2
  subst h2
  refine vc ?_
  simp only[kM.l0,aC]
  exact vn (by omega) (vq (vs _) rfl)
 |succ n ih=>
  intro r p h h2
  cases r with
  |nil=>
   rw[List.append_nil]at h2
   subst h2
   refine vc ?_
   simp only[kM.l0,aC]
   exact vn (by omega) (vq (vs _) rfl)
  |cons c r=>
   simp only[List.length_cons]at h
   have hz:=iV h2
   have e1:=jU h2
   have w1:wrap64 ((p.length:Int)+1)=((p.length+1:Nat):Int):=(aU (by omega) (by omega)).trans (by omega)
   have Vt:(c.toNat:Int)=34↔c=34:=zU c 34 (by omega)
   have hbb:=alI c b
   have ex:(aY l).extract (p.length:Int).toNat l.length=aY (c:: r):=by
    rw[Int.toNat_natCast,jZ,EF h2,List.take_of_length_le (by simp only[List.length_cons];omega)]
   refine vc ?_
   simp only[kM.l0,e1,w1,aC,ex]
   clear e1 w1 ex
   rw[uJ]
   refine vp (by omega) (vp (by omega) ?_)
   by_cases c1:(c.toNat:Int)=34
   ·have hc:=Vt.mp c1
    refine vp c1 (vp (by omega) (vb (JB c r (by omega)) ?_))
    rw[if_neg (by intro hh;exact hb (hh.2.symm.trans hc)),show nq 0 c=1 by rw[hc];rfl]
    cases e:Pq r with
    |none=>rw[abt b r.length r (Nat.le_refl _) e];exact vn (by simp[WA]) (vq (vs _) rfl)
    |some q=>
     obtain⟨w,t⟩:=q
     obtain⟨m,h3,h4,h5⟩:=Kt b r.length r w t (Nat.le_refl _) e
     have hm:r.length=m.length+t.length:=by rw[h3,List.length_append]
     have:=ih t (p++c:: m) (by omega) (by rw[h2,h3];simp)
     refine vp rfl ?_
     simp only[WA]
     have w2:wrap64 (((r.length+1-t.length:Nat):Int)-1)=(m.length:Int):=(aU (by omega) (by omega)).trans (by omega)
     rw[w2]
     clear w2
     have w3:wrap64 ((p.length:Int)+(m.length:Int))=((p.length+m.length:Nat):Int):=(aU (by omega) (by omega)).trans (by omega)
     rw[w3]
     clear w3
     have w4:wrap64 (((p.length+m.length:Nat):Int)+1)=((p++c:: m).length:Int):=(aU (by omega) (by omega)).trans (by simp only[List.length_append,List.length_cons];omega)
     rw[w4,h5]
     clear w4
     refine vq this ?_
     cases uJ b 0 t with
     |none=>rfl
     |some x=>simp only[Option.map_some,abv,List.length_append,List.length_cons];omega
   ·refine vn c1 ?_
    have hc:¬c=34:=fun hh=>c1 (Vt.mpr hh)
    by_cases c2:c=b
    ·rw[if_pos ⟨rfl,c2⟩]
     exact vp (hbb.mpr c2) (vq (vs _) (by simp[abv]))
    ·rw[if_neg (fun hh=>c2 hh.2),show nq 0 c=0 by simp[nq,hc]]
     have:=ih r (p++[c]) (by omega) (by rw[h2];simp)
     rw[List.length_append]at this
     refine vn (fun hh=>c2 (hbb.mp hh)) (vq this ?_)
     cases uJ b 0 r with
     |none=>rfl
     |some x=>simp only[Option.map_some,abv,List.length_append,List.length_cons,List.length_nil];omega
theorem Iw (l:Str) (b:UInt8) (hb:b≠34) (hl:l.length≤1048576):Ev (fun k=>kM.f k (aY l) (b.toNat:Int)) (abv 0 (uJ b 0 l)):=Px l b hb hl l.length l [] (Nat.le_refl _) rfl
theorem Ic (b:UInt8) (hb:b≠34):∀(n:Nat) (s:Str) (acc:List Str),s.length≤n→s.length+acc.length≤1048576→Ev (fun k=>iG.l0 k (aY s) (b.toNat:Int) (acc.map aY)) ((acc++parts b 0 s).map aY):=by
 intro n
 induction n with
 |zero=>
  intro s acc h h2
  have:s=[]:=List.length_eq_zero_iff.mp (by omega)
  subst this
  refine vc ?_
  simp only[iG.l0,List.length_map]
  refine vb (Iw [] b hb (by simp)) (vp (by simp[uJ,abv]) (vp (by simp at h2;omega) (vq (vs _) ?_)))
  simp[parts]
 |succ n ih=>
  intro s acc h h2
  refine vc ?_
  simp only[iG.l0,List.length_map,aC]
  refine vb (Iw s b hb (by omega)) ?_
  rw[QO]
  cases e:uJ b 0 s with
  |none=>exact vp (by simp[abv]) (vp (by omega) (vq (vs _) (by simp)))
  |some q=>
   obtain⟨x,t⟩:=q
   have hs:=agA b s 0 x t e
   have hz:s.length=x.length+(t.length+1):=by rw[hs];simp
   have:=ih t (acc++[x]) (by omega) (by simp;omega)
   have w1:wrap64 ((x.length:Int)+1)=((x.length+1:Nat):Int):=(aU (by omega) (by omega)).trans (by omega)
   simp only[abv,Nat.zero_add,w1,Int.toNat_natCast,jZ,List.drop_zero,Nat.sub_zero]
   have e1:s.take x.length=x:=by rw[hs,List.take_left]
   have e2:(s.drop (x.length+1)).take (s.length-(x.length+1))=t:=by
    rw[List.take_of_length_le (by simp),hs,←List.drop_drop,List.drop_left];rfl
   rw[e1,e2]
   clear w1
   refine vn (by omega) (vp (by omega) (vp (by omega) (vp (by omega) (vp (by omega) (vp (by omega) (vq (r:=((acc++[x]++parts b 0 t).map aY)) ?_ (by simp)))))))
   simpa using this
theorem JC (s:Str) (hs:s.length≤1048576):Ev (fun k=>iG.f k (aY s) 59) ((parts 59 0 s).map aY):=by
 have:=Ic 59 (by decide) s.length s [] (Nat.le_refl _) (by simpa using hs)
 unfold iG.f
 simpa using this
def KI (acc:List Str):Option (List Str)→List ByteArray×Bool
 |none=>([],false)
 |some ws=>((acc++ws).map aY,true)
/-- The run of an atom, from its begin. -/
theorem KJ (l:Str) (acc:List Str) (hl:l.length≤1048576) (ha:acc.length≤1048576) (p:Str) (v:List ByteArray×Bool):∀(r a:Str),l=p++(a++r)→a.all yO=true→
  (a++r.takeWhile yO=[]→v=([],false))→
  (a++r.takeWhile yO≠[]→Ev (fun k=>dM.l0 k (aY l) ((acc++[a++r.takeWhile yO]).map aY) (((p++(a++r.takeWhile yO)).length:Nat):Int) false) v)→
  Ev (fun k=>dM.l1 k (aY l) (acc.map aY) (p.length:Int) (((p++a).length:Nat):Int)) v:=by
 intro r
 induction r with
 |nil=>
  intro a h h2 h3 h4
  have hz:l.length=p.length+a.length:=by rw[h];simp
  have hpa:(p++a).length=p.length+a.length:=by simp
  simp only[List.takeWhile_nil,List.append_nil]at h3 h4
  refine vc ?_
  simp only[dM.l1,aC,List.length_map]
  refine vn (by omega) ?_
  by_cases e:a=[]
  ·rw[h3 e];subst e;exact vp (by simp) (vs _)
  ·have hne:0<a.length:=List.length_pos_iff.mpr e
   have ex:(aY l).extract (p.length:Int).toNat (((p++a).length:Nat):Int).toNat=aY a:=by
    rw[Int.toNat_natCast,Int.toNat_natCast,jZ,EF h,hpa,List.append_nil]
    rw[List.take_of_length_le (by omega)]
   rw[ex]
   have:=h4 e
   rw[List.map_append,List.map_singleton]at this
   exact vn (by omega) (vp (by omega) (vp (by omega) (vp (by omega) (vp (by omega) this))))
 |cons c r ih=>
  intro a h h2 h3 h4
  have hz:l.length=p.length+(a.length+(r.length+1)):=by rw[h];simp
  have hpa:(p++a).length=p.length+a.length:=by simp
  have e1:bt (aY l) (((p++a).length:Nat):Int)=(c.toNat:Int):=jU (l:=l) (p:=p++a) (c:=c) (r:=r) (by rw[h];simp)
  have w1:wrap64 ((((p++a).length:Nat):Int)+1)=((p++(a++[c])).length:Int):=(aU (by omega) (by omega)).trans (by simp only[List.length_append,List.length_cons,List.length_nil];omega)
  refine vc ?_
  simp only[dM.l1,aC,List.length_map,e1,w1]
  clear e1 w1
  refine vp (by omega) (vp (by omega) (jI (zB c) ?_))
  cases e:yO c with
  |true=>
   refine vp rfl ?_
   have ec:a++(c:: r).takeWhile yO=a++[c]++r.takeWhile yO:=by simp[List.takeWhile,e]
   refine ih (a++[c]) (by rw[h];simp) (by simp[h2,e]) (fun hh=>h3 (by rw[ec];exact hh)) (fun hh=>?_)
   have:=h4 (by rw[ec];exact hh)
   rwa [ec]at this
  |false=>
   have et:(c:: r).takeWhile yO=[]:=by simp[List.takeWhile,e]
   rw[et,List.append_nil]at h3 h4
   refine vn (by simp) ?_
   by_cases e:a=[]
   ·rw[h3 e];subst e;exact vp (by simp) (vs _)
   ·have hne:0<a.length:=List.length_pos_iff.mpr e
    have ex:(aY l).extract (p.length:Int).toNat (((p++a).length:Nat):Int).toNat=aY a:=by
     rw[Int.toNat_natCast,Int.toNat_natCast,jZ,EF h,hpa,show p.length+a.length-p.length=a.length by omega,List.take_left]
    rw[ex]
    have:=h4 e
    rw[List.map_append,List.map_singleton]at this
    exact vn (by omega) (vp (by omega) (vp (by omega) (vp (by omega) (vp (by omega) this))))
theorem FN (p:UInt8→Bool) (l:Str):l.takeWhile p++l.dropWhile p=l:=List.takeWhile_append_dropWhile
theorem JD (l:Str) (hl:l.length≤1048576):∀(n:Nat) (r p:Str) (acc:List Str) (a:Bool),r.length<n→l=p++r→acc.length≤p.length→Ev (fun k=>dM.l0 k (aY l) (acc.map aY) (p.length:Int) a) (KI acc (Pv n a r)):=by
 intro n
 induction n with
 |zero=>intro r p acc a h;omega
 |succ n ih=>
  intro r p acc a h h2 h3
  refine vc ?_
  cases r with
  |nil=>
   rw[List.append_nil]at h2
   subst h2
   simp only[dM.l0,aC]
   exact vn (by omega) (vq (vs _) (by simp[Pv,KI]))
  |cons c r=>
   simp only[List.length_cons]at h
   have hz:=iV h2
   have e1:=jU h2
   have w1:wrap64 ((p.length:Int)+1)=(((p++[c]).length:Nat):Int):=(aU (by omega) (by omega)).trans (by simp)
   have h32:(c.toNat:Int)=32↔c=32:=zU c 32 (by omega)
   have Vt:(c.toNat:Int)=34↔c=34:=zU c 34 (by omega)
   have ex:(aY l).extract (p.length:Int).toNat l.length=aY (c:: r):=by
    rw[Int.toNat_natCast,jZ,EF h2,List.take_of_length_le (by simp only[List.length_cons];omega)]
   simp only[dM.l0,e1,w1,aC,ex,List.length_map]
   clear e1 w1 ex
   rw[Pv]
   refine vp (by omega) (vp (by omega) ?_)
   by_cases c1:(c.toNat:Int)=32
   ·rw[if_pos (h32.mp c1)]
    exact vp c1 (ih r (p++[c]) acc true (by omega) (by rw[h2];simp) (by simp;omega))
   ·rw[if_neg (fun hh=>c1 (h32.mpr hh))]
    refine vn c1 ?_
    cases a with
    |false=>exact vn (by simp) (vq (vs _) rfl)
    |true=>
     refine vp rfl ?_
     rw[if_neg (by simp)]
     by_cases c2:(c.toNat:Int)=34
     ·rw[if_pos (Vt.mp c2)]
      refine vp c2 (vp (by omega) (vb (JB c r (by omega)) ?_))
      cases e:Pq r with
      |none=>exact vn (by simp[WA]) (vq (vs _) rfl)
      |some q=>
       obtain⟨w,t⟩:=q
       obtain⟨m,h4,h5,_⟩:=Kt 0 r.length r w t (Nat.le_refl _) e
       have hm:r.length=m.length+t.length:=by rw[h4,List.length_append]
       have:=ih t (p++c:: m) (acc++[w]) false (by omega) (by rw[h2,h4];simp) (by simp;omega)
       have w2:wrap64 ((p.length:Int)+((r.length+1-t.length:Nat):Int))=((p++c:: m).length:Int):=(aU (by omega) (by omega)).trans (by simp only[List.length_append,List.length_cons];omega)
       simp only[WA,List.nil_append,w2]
       rw[List.map_append,List.map_singleton]at this
       refine vp trivial (vp (by omega) (vq this ?_))
       cases Pv n false t with
       |none=>rfl
       |some ws=>simp[KI]
     ·rw[if_neg (fun hh=>c2 (Vt.mpr hh))]
      refine vn c2 ?_
      have hsw:=FN yO (c:: r)
      refine KJ l acc hl (by omega) p _ (c:: r) [] h2 rfl (fun hh=>?_) (fun hh=>?_) |>fun hq=>by simpa using hq
      ·rw[List.nil_append]at hh;rw[if_pos hh];rfl
      ·rw[List.nil_append]at hh⊢
       rw[if_neg hh]
       have hne:0<((c:: r).takeWhile yO).length:=List.length_pos_iff.mpr hh
       have hlen:((c:: r).takeWhile yO).length+((c:: r).dropWhile yO).length=r.length+1:=by
        have:=congrArg List.length hsw
        rwa [List.length_append,List.length_cons]at this
       have:=ih ((c:: r).dropWhile yO) (p++(c:: r).takeWhile yO) (acc++[(c:: r).takeWhile yO]) false (by omega) (by rw[List.append_assoc,hsw];exact h2) (by simp only[List.length_append,List.length_cons,List.length_nil];omega)
       refine vq this ?_
       cases Pv n false ((c:: r).dropWhile yO)with
       |none=>rfl
       |some ws=>simp[KI]
theorem EG (l:Str) (hl:l.length≤1048576) (ht:mF l=true):Ev (fun k=>dM.f k (aY l)) (KI [] (words l)):=by
 unfold dM.f
 refine vb (rV l (by omega)) (vp ht ?_)
 exact JD l hl (l.length+1) l [] [] true (by omega) rfl (by simp)
/-! The program's ParseKind. -/
def SS:Option (Str×Str×List (Str×Str))→ByteArray×ByteArray×List fP×Bool
 |none=>(aY [],aY [],[],false)
 |some x=>(aY x.1,aY x.2.1,x.2.2.map uU,true)
theorem Iy (l:Str) (hl:l.length≤1048576):lH.f (aY l) ⟨#[32]⟩=some (aY (trim l)):=by
 unfold lH.f
 rw[if_pos rfl,if_pos (by rw[aC];omega)]
 rfl
def JE (s:Str):Option (Str×Str)→ByteArray×ByteArray×Bool
 |none=>(aY s,aY [],false)
 |some x=>(aY x.1,aY x.2,true)
theorem JF (b:UInt8) (l:Str) (hl:l.length≤1048576):strings_Cut.f (aY l) ⟨#[b]⟩=some (JE l (A_ b l)):=by
 unfold strings_Cut.f
 rw[if_pos (by rw[aC];omega)]
 have e:Lib.cut (aY l).data.toList (⟨#[b]⟩:ByteArray).data.toList=Lib.cut l [b]:=rfl
 rw[e,aCx]
 cases A_ b l with
 |none=>rfl
 |some x=>rfl
theorem abw {b:UInt8} {s x t:Str} (h:A_ b s=some (x,t)):s.length=x.length+t.length+1:=by
 rw[ZL b s x t h];simp;omega
theorem Vy {s t:Str} (h:mF s=true) (hl:t.length≤s.length) (hm:∀c∈t,c∈s):mF t=true:=by
 unfold mF at*
 simp only[Bool.and_eq_true,List.all_eq_true,decide_eq_true_iff]at*
 exact⟨fun c hc=>h.1 c (hm c hc),by omega⟩
theorem aot:∀(n:Nat) (a:Bool) (s:Str) (ws:List Str),Pv n a s=some ws→∀w∈ws,w.length≤s.length:=by
 intro n
 induction n with
 |zero=>intro a s ws h;cases h
 |succ n ih=>
  intro a s ws h
  cases s with
  |nil=>simp only[Pv,Option.some.injEq]at h;subst h;simp
  |cons c r=>
   rw[Pv]at h
   split at h
   ·intro w hw;have:=ih _ _ _ h w hw;simp only[List.length_cons];omega
   ·split at h
    ·cases h
    ·split at h
     ·cases e:Pq r with
      |none=>rw[e]at h;cases h
      |some q=>
       obtain⟨w1,t⟩:=q
       obtain⟨m,h4,h5,_⟩:=Kt 0 r.length r w1 t (Nat.le_refl _) e
       have hm:r.length=m.length+t.length:=by rw[h4,List.length_append]
       rw[e]at h
       simp only[Option.map_eq_some_iff]at h
       obtain⟨v,e1,rfl⟩:=h
       intro w hw
       simp only[List.length_cons]
       rcases List.mem_cons.mp hw with rfl|hw
       ·omega
       ·have:=ih _ _ _ e1 w hw;omega
     ·split at h
      ·cases h
      ·simp only[Option.map_eq_some_iff]at h
       obtain⟨v,e1,rfl⟩:=h
       have hlen:=congrArg List.length (FN yO (c:: r))
       rw[List.length_append]at hlen
       intro w hw
       rcases List.mem_cons.mp hw with rfl|hw
       ·omega
       ·have:=ih _ _ _ e1 w hw;omega
theorem XA {s:Str} {ws:List Str} (h:words s=some ws):∀w∈ws,w.length≤s.length:=aot _ _ _ _ h
/-- What is lacking: the kind is read out of the head and the parameters that are read. -/
def fin1 (ok:Bool) (m u:Str) (ps:List (Str×Str)):Option (Str×Str×List (Str×Str)):=if ok=true∧yu m u ps=true then some (m,u,ps)else none
def SV (ok:Bool) (m u:Str) (q:List (Str×Str)):Option (List (Str×Str))→Option (Str×Str×List (Str×Str))
 |none=>none
 |some ps=>fin1 ok m u (q++ps)
theorem XB (ok:Bool) (m u:Str) (q:List (Str×Str)) (x:Str×Str) (o:Option (List (Str×Str))):SV ok m u q (o.map (x:: ·))=SV ok m u (q++[x]) o:=by
 cases o with
 |none=>rfl
 |some ps=>simp[SV]
theorem MI (ok:Bool) (m u:Str) (ps:List (Str×Str)) (hm:m.length≤1048576) (hu:u.length≤1048576) (hz:Es ps≤1048576) (hn:ps.length≤1048576):
  Ev (fun k=>if ok=true then((dN.f k (aY m) (aY u) (ps.map uU)).bind fun t=>(if t=true then(some (aY m,aY u,ps.map uU,true))else(some ((⟨#[]⟩:ByteArray),(⟨#[]⟩:ByteArray),([]:List fP),false))))else(some ((⟨#[]⟩:ByteArray),(⟨#[]⟩:ByteArray),([]:List fP),false))) (SS (fin1 ok m u ps)):=by
 cases ok with
 |false=>exact vn (by simp) (vq (vs _) (by unfold fin1;rw[if_neg (by simp)];rfl))
 |true=>
  refine vp rfl (vb (FI m u ps hm hu hz hn) ?_)
  cases e:yu m u ps with
  |true=>exact vp rfl (vq (vs _) (by unfold fin1;rw[if_pos ⟨rfl,e⟩];rfl))
  |false=>exact vn (by simp) (vq (vs _) (by unfold fin1;rw[if_neg (by simp[e])];rfl))
theorem Dn (ok:Bool) (xs:List Str) (m u:Str) (hx:xs.length≤1000) (ht:∀x∈xs,mF x=true) (hm:m.length≤1048576) (hu:u.length≤1048576):∀(r p:List Str) (q:List (Str×Str)),xs=p++r→q.length≤p.length→Es q≤400*q.length→
  Ev (fun k=>bW.l0 k ok (xs.map aY) (xs.length:Int) (p.length:Int) (aY m) (aY u) (q.map uU)) (SS (SV ok m u q (Vx r))):=by
 intro r
 induction r with
 |nil=>
  intro p q h hq hz
  rw[List.append_nil]at h
  subst h
  refine vc ?_
  simp only[bW.l0]
  refine vn (by omega) ?_
  have:=MI ok m u q hm hu (by omega) (by omega)
  simpa [Vx,SV] using this
 |cons c r ih=>
  intro p q h hq hz
  have hz2:=iV h
  have e1:=yY h
  have htc:=ht c (by rw[h];simp)
  have hcl:=MC htc
  have w1:wrap64 ((p.length:Int)+1)=((p++[c]).length:Int):=(aU (by omega) (by omega)).trans (by simp)
  have hcut:=JF 61 c (by omega)
  refine vc ?_
  simp only[bW.l0,e1,hcut,List.length_map,Option.bind_some]
  clear e1 hcut
  have hbad:∀(x11:ByteArray) (x14:List ByteArray),Ev (fun k=>bW.j1 k ok x11 x14 (xs.map aY) (xs.length:Int) (p.length:Int) true (aY m) (aY u) (q.map uU)) (SS none):=by
   intro x11 x14
   refine vc ?_
   simp only[bW.j1]
   exact vp trivial (vs _)
  refine vp (by omega) (vp (by omega) (vp (by omega) ?_))
  cases e:A_ 61 c with
  |none=>
   simp only[JE]
   refine vb (EG [] (by simp) (by decide)) (vn (by simp) (vq (hbad _ _) ?_))
   rw[Vx,MH,e];rfl
  |some x=>
   obtain⟨n,v⟩:=x
   have hlen:=abw e
   have hvs:mF v=true:=Vy htc (by omega) (fun d hd=>by rw[ZL 61 c n v e];simp[hd])
   simp only[JE]
   refine vb (EG v (by omega) hvs) (vp trivial ?_)
   cases e2:words v with
   |none=>
    refine vn (by simp[KI]) (vq (hbad _ _) ?_)
    rw[Vx,MH,e];simp only[e2];rfl
   |some ws=>
    simp only[KI,List.nil_append]
    refine vp trivial ?_
    by_cases h1:ws.length=1
    ·obtain⟨w,rfl⟩:=List.length_eq_one_iff.mp h1
     have hwl:=XA e2 w (by simp)
     have hnl:=GR n
     have e3:MH c=some (low (trim n),w):=by rw[MH,e];simp only[e2]
     have:=ih (p++[c]) (q++[(low (trim n),w)]) (by rw[h];simp) (by simp;omega) (by rw[BN];simp only[Es,List.length_append,List.length_cons,List.length_nil,FH];omega)
     have ht:=Iy n (by omega)
     have hl:=n_ (trim n) (by omega)
     refine vc ?_
     simp only[bW.j1,List.map_cons,List.map_nil,List.length_cons,List.length_nil,ht,hl,w1,Option.bind_some,List.length_map]
     clear w1 ht hl
     refine vn (by simp) (vp (by omega) (vp (by omega) ?_))
     rw[Vx,e3]
     simp only
     rw[XB]
     rw[List.map_append]at this
     exact this
    ·have e4:((((ws.map aY).length:Nat):Int) !=1)=true:=by
      rw[List.length_map];simp only[bne_iff_ne,ne_eq];omega
     rw[e4]
     refine vq (hbad _ _) ?_
     have e3:MH c=none:=by
      rw[MH,e]
      simp only[e2]
      match ws,h1 with
      |[],_=>rfl
      |[w],h1=>exact absurd rfl h1
      |_:: _:: _,_=>rfl
     rw[Vx,e3];rfl
theorem agB (o:Option (Str×Str)) (ps:Option (List (Str×Str))) (s:Str):pkO o ps=SV (JE s o).2.2 (match o with
  |none=>low s
  |some x=>low x.1) (match o with
  |none=>[]
  |some x=>low x.2) [] ps:=by
 cases o with
 |none=>cases ps with
  |none=>rfl
  |some p=>simp[pkO,SV,fin1,JE]
 |some x=>cases ps with
  |none=>rfl
  |some p=>simp[pkO,SV,fin1,JE]
theorem Py (s:Str) (hs:s.length≤1048576):Ev (fun k=>bW.f k (aY s)) (SS (pk s)):=by
 unfold bW.f pk
 refine vb (rV s (by omega)) ?_
 cases et:mF s with
 |false=>exact vn (by simp) (vq (vs _) rfl)
 |true=>
  refine vp rfl (vb (JC s hs) ?_)
  rw[if_pos rfl]
  have hpl:=Xy 59 s 0
  have hpm:=ahI 59 s 0
  have hsl:=MC et
  generalize parts 59 0 s=xs at hpl hpm⊢
  cases xs with
  |nil=>simp at hpl
  |cons h0 r=>
   have hh:=hpm h0 (by simp)
   have htl:=GR h0
   have e0:qH ByteArray.empty (aY h0:: r.map aY) 0=aY h0:=rfl
   have et:=Iy h0 (by omega)
   have ec:=JF 47 (trim h0) (by omega)
   have hr:r.length≤1000:=by simp only[List.length_cons]at hpl;omega
   simp only[e0,et,ec,List.length_map,List.length_cons,Option.bind_some,List.drop_one,List.map_cons,List.tail_cons,List.headD_cons]
   rw[agB _ _ (trim h0)]
   have htv:∀x∈r,mF x=true:=fun x hx=>by
    have:=hpm x (by simp[hx])
    exact Vy (by assumption) this.1 this.2
   cases e:A_ 47 (trim h0)with
   |none=>
    simp only[JE]
    have l1:=n_ (trim h0) (by omega)
    have l2:=n_ [] (by simp)
    have:=Dn false r (low (trim h0)) (low []) hr htv (by rw[FH];omega) (by simp[low]) r [] [] rfl (by simp) (by simp[Es])
    simp only[l1,l2,Option.bind_some]
    refine vp (by omega) (vp (by omega) ?_)
    simpa [low] using this
   |some x=>
    obtain⟨a,b⟩:=x
    have hlen:=abw e
    simp only[JE]
    have l1:=n_ a (by omega)
    have l2:=n_ b (by omega)
    have:=Dn true r (low a) (low b) hr htv (by rw[FH];omega) (by rw[FH];omega) r [] [] rfl (by simp) (by simp[Es])
    simp only[l1,l2,Option.bind_some]
    refine vp (by omega) (vp (by omega) ?_)
    simpa using this
/-! A valid kind is read back. -/
theorem aou (c:UInt8):ZK c=true→c≠34∧c≠59∧c≠47∧c≠61∧c≠32∧okB c=true:=by
 revert c
 exact Vq (by decide+kernel)
theorem alJ {l:Str} (h:KF l=true):∀c∈l,ZK c=true:=by
 unfold KF at h
 simp only[Bool.and_eq_true,List.all_eq_true]at h
 exact h.2
theorem adD {l:Str} (h:isSmall l=true):KF l=true∧low l=l:=by
 unfold isSmall at h
 simpa using h
def aHv (x:Str) (l:List Str):List Str:=x.foldr hd1 l
def Pass (b:UInt8) (x:Str):Prop:=∀t,parts b 0 (x++t)=aHv x (parts b 0 t)
def seg (p:Str×Str):Str:=32:: (p.1++[61]++qw p.2)
theorem agC:∀(ps q:List (Str×Str)),kfl q ps=true→∀p∈ps,isSmall p.1=true∧mF p.2=true∧p.2.length≤40:=by
 intro ps
 induction ps with
 |nil=>intro q h p hp;cases hp
 |cons c r ih=>
  intro q h p hp
  rw[kfl]at h
  simp only[Bool.and_eq_true,decide_eq_true_iff]at h
  rcases List.mem_cons.mp hp with rfl|hp
  ·exact⟨h.1.1.1,h.1.1.2.1,h.1.1.2.2⟩
  ·exact ih _ h.2 p hp
theorem Pz {a b:Str} {ps:List (Str×Str)} (h:yu a b ps=true):isSmall a=true∧isSmall b=true∧ps.length≤4∧kfl [] ps=true∧(Pm a b ps).length≤150:=by
 unfold yu at h
 simp only[Bool.and_eq_true,decide_eq_true_iff]at h
 obtain⟨⟨⟨⟨h1,h2⟩,h3⟩,h4⟩,h5⟩:=h
 exact⟨h1,h2,by omega,h4,h5⟩
/-- What is read is valid. -/
theorem alK {s a b:Str} {ps:List (Str×Str)} (h:pk s=some (a,b,ps)):yu a b ps=true:=by
 unfold pk at h
 split at h
 ·unfold pkO at h
  split at h
  ·split at h
   ·rename_i hk
    cases h;exact hk
   ·cases h
  ·cases h
 ·cases h
/-! The reference's ParseKind. -/
def WB (L:Nat) (acc:Str):Option (Str×Str)→ByteArray×Int
 |none=>(aY [],-1)
 |some q=>(aY (acc++q.1),((L-q.2.length:Nat):Int))
theorem XC {l p r:Str} {c:UInt8} (h:l=p++c:: r):(l.drop p.length).take (p.length+1-p.length)=[c]:=by
 rw[EF h,show p.length+1-p.length=1 by omega];rfl
theorem QT (l:Str) (hl:l.length≤1048576):∀(n:Nat) (r p acc:Str),r.length≤n→l=p++r→acc.length≤p.length→Ev (fun k=>iq.l0 k (aY l) (aY acc) (p.length:Int)) (WB l.length acc (Pq r)):=by
 intro n
 induction n with
 |zero=>
  intro r p acc h h2 h3
  have:r=[]:=List.length_eq_zero_iff.mp (by omega)
  subst this
  rw[List.append_nil]at h2
  subst h2
  refine vc ?_
  simp only[iq.l0,aC]
  exact vn (by omega) (vq (vs _) rfl)
 |succ n ih=>
  intro r p acc h h2 h3
  cases r with
  |nil=>
   rw[List.append_nil]at h2
   subst h2
   refine vc ?_
   simp only[iq.l0,aC]
   exact vn (by omega) (vq (vs _) rfl)
  |cons c r=>
   simp only[List.length_cons]at h
   have hz:=iV h2
   have e1:=jU h2
   have w1:wrap64 ((p.length:Int)+1)=((p.length+1:Nat):Int):=(aU (by omega) (by omega)).trans (by omega)
   have Vt:(c.toNat:Int)=34↔c=34:=zU c 34 (by omega)
   have h92:(c.toNat:Int)=92↔c=92:=zU c 92 (by omega)
   have e4:=XC h2
   refine vc ?_
   simp only[iq.l0,e1,w1,aC,Int.toNat_natCast,jZ,e4,kX]
   clear e1 w1 e4
   rw[GN]
   refine vp (by omega) (vp (by omega) ?_)
   by_cases c1:(c.toNat:Int)=34
   ·refine vp c1 (vq (vs _) ?_)
    rw[if_pos (Vt.mp c1),WB,show l.length-r.length=p.length+1 by omega]
    simp
   ·refine vn c1 ?_
    rw[if_neg (fun hh=>c1 (Vt.mpr hh))]
    by_cases c2:(c.toNat:Int)=92
    ·refine vp c2 ?_
     rw[if_pos (h92.mp c2)]
     cases r with
     |nil=>
      simp only[List.length_nil]at hz
      exact vp (by omega) (vq (vs _) rfl)
     |cons d r=>
      simp only[List.length_cons]at h hz
      have w2:wrap64 (((p.length+1:Nat):Int)+1)=((p.length+2:Nat):Int):=(aU (by omega) (by omega)).trans (by omega)
      have hd:l=(p++[c])++d:: r:=by rw[h2];simp
      have e5:(l.drop (p.length+1)).take (p.length+2-(p.length+1))=[d]:=by
       have:=XC hd
       rwa [List.length_append]at this
      have:=ih r (p++[c,d]) (acc++[d]) (by omega) (by rw[h2];simp) (by simp;omega)
      rw[List.length_append]at this
      rw[w2,Int.toNat_natCast,e5]
      clear w2 e5
      refine vn (by omega) (vp (by omega) (vp (by omega) (vp (by omega) (vp (by simp only[List.length_cons,List.length_nil];omega) (vq this ?_)))))
      show _=WB l.length acc ((Pq r).map fun q=>(d:: q.1,q.2))
      cases Pq r with
      |none=>rfl
      |some q=>simp[WB]
    ·refine vn c2 ?_
     rw[if_neg (fun hh=>c2 (h92.mpr hh))]
     have:=ih r (p++[c]) (acc++[c]) (by omega) (by rw[h2];simp) (by simp;omega)
     rw[List.length_append]at this
     refine vp (by omega) (vp (by omega) (vp (by simp only[List.length_cons,List.length_nil];omega) (vq this ?_)))
     cases Pq r with
     |none=>rfl
     |some q=>simp[WB]
theorem JG {l p r:Str} {c:UInt8} (h:l=p++c:: r) (hl:l.length≤1048576):Ev (fun k=>iq.f k (aY l) (p.length:Int)) (WB l.length [] (Pq r)):=by
 have hz:=iV h
 have:=QT l hl r.length r (p++[c]) [] (Nat.le_refl _) (by rw[h];simp) (by simp)
 have w1:wrap64 ((p.length:Int)+1)=((p++[c]).length:Int):=(aU (by omega) (by omega)).trans (by simp)
 unfold iq.f
 rw[w1]
 exact this
def agD (s p:Str):Option (Str×Str)→ByteArray×ByteArray×Bool
 |none=>(aY s,aY [],false)
 |some x=>(aY (p++x.1),aY x.2,true)
theorem SX (l:Str) (b:UInt8) (hb:b≠34) (hl:l.length≤1048576):∀(n:Nat) (r p:Str),r.length≤n→l=p++r→Ev (fun k=>jL.l0 k (aY l) (b.toNat:Int) (p.length:Int)) (agD l p (uJ b 0 r)):=by
 intro n
 induction n with
 |zero=>
  intro r p h h2
  have:r=[]:=List.length_eq_zero_iff.mp (by omega)
  subst this
  rw[List.append_nil]at h2
  subst h2
  refine vc ?_
  simp only[jL.l0,aC]
  exact vn (by omega) (vq (vs _) rfl)
 |succ n ih=>
  intro r p h h2
  cases r with
  |nil=>
   rw[List.append_nil]at h2
   subst h2
   refine vc ?_
   simp only[jL.l0,aC]
   exact vn (by omega) (vq (vs _) rfl)
  |cons c r=>
   simp only[List.length_cons]at h
   have hz:=iV h2
   have e1:=jU h2
   have w1:wrap64 ((p.length:Int)+1)=((p.length+1:Nat):Int):=(aU (by omega) (by omega)).trans (by omega)
   have Vt:(c.toNat:Int)=34↔c=34:=zU c 34 (by omega)
   have hbb:=alI c b
   have x1:(l.drop 0).take (p.length-0)=p:=by rw[List.drop_zero,Nat.sub_zero,h2,List.take_left]
   have x2:(l.drop (p.length+1)).take (l.length-(p.length+1))=r:=by
    rw[List.take_of_length_le (by simp),h2,←List.drop_drop,List.drop_left];rfl
   refine vc ?_
   simp only[jL.l0,e1,w1,aC,Int.toNat_natCast,jZ,x1,x2]
   clear e1 w1 x1 x2
   rw[uJ]
   refine vp (by omega) (vp (by omega) ?_)
   by_cases c1:(c.toNat:Int)=34
   ·have hc:=Vt.mp c1
    refine vp c1 (vb (JG h2 hl) ?_)
    rw[if_neg (show¬((0:Nat)=0∧c=b)from fun hh=>hb (hh.2.symm.trans hc)),show nq 0 c=1 by rw[hc];rfl]
    cases e:Pq r with
    |none=>rw[abt b r.length r (Nat.le_refl _) e];exact vp (by simp[WB]) (vq (vs _) rfl)
    |some q=>
     obtain⟨w,t⟩:=q
     obtain⟨m,h3,h4,h5⟩:=Kt b r.length r w t (Nat.le_refl _) e
     have hm:r.length=m.length+t.length:=by rw[h3,List.length_append]
     have:=ih t (p++c:: m) (by omega) (by rw[h2,h3];simp)
     have ei:l.length-t.length=(p++c:: m).length:=by simp only[List.length_append,List.length_cons];omega
     simp only[WB,ei]
     refine vn (by omega) ?_
     rw[h5]
     refine vq this ?_
     cases uJ b 0 t with
     |none=>rfl
     |some x=>simp[agD]
   ·refine vn c1 ?_
    have hc:¬c=34:=fun hh=>c1 (Vt.mpr hh)
    by_cases c2:c=b
    ·rw[if_pos (show(0:Nat)=0∧c=b from⟨rfl,c2⟩)]
     exact vp (hbb.mpr c2) (vp (by omega) (vp (by omega) (vp (by omega) (vq (vs _) (by simp[agD])))))
    ·rw[if_neg (show¬((0:Nat)=0∧c=b)from fun hh=>c2 hh.2),show nq 0 c=0 by simp[nq,hc]]
     have:=ih r (p++[c]) (by omega) (by rw[h2];simp)
     rw[List.length_append]at this
     refine vn (fun hh=>c2 (hbb.mp hh)) (vq this ?_)
     cases uJ b 0 r with
     |none=>rfl
     |some x=>simp[agD]
theorem Cc (l:Str) (b:UInt8) (hb:b≠34) (hl:l.length≤1048576):Ev (fun k=>jL.f k (aY l) (b.toNat:Int)) (JE l (uJ b 0 l)):=by
 refine vq (SX l b hb hl l.length l [] (Nat.le_refl _) rfl) ?_
 cases uJ b 0 l<;>rfl
def XD (l:Str):Str:=(l.reverse.dropWhile (·==32)).reverse
theorem adE (l:Str) (c:UInt8):XD (l++[c])=if c=32 then XD l else l++[c]:=by
 unfold XD
 rw[List.reverse_append,List.reverse_singleton,List.singleton_append,List.dropWhile]
 by_cases h:c=32
 ·simp[h]
 ·rw[show(c==32)=false by simp[h]];simp[h]
theorem FP:∀(n:Nat) (s:Str),s.length≤n→s.length≤1048576→Ev (fun k=>bM.l1 k (aY s)) (aY (XD s)):=by
 intro n
 induction n with
 |zero=>
  intro s h _
  have:s=[]:=List.length_eq_zero_iff.mp (by omega)
  subst this
  refine vc ?_
  simp only[bM.l1,aC]
  exact vn (by simp) (vq (vs _) rfl)
 |succ n ih=>
  intro s h hl
  rcases List.eq_nil_or_concat s with rfl|⟨p,c,rfl⟩
  ·refine vc ?_
   simp only[bM.l1,aC]
   exact vn (by simp) (vq (vs _) rfl)
  ·rw[List.concat_eq_append]at*
   simp only[List.length_append,List.length_cons,List.length_nil]at h hl
   have hz:(p++[c]).length=p.length+1:=by simp
   have e1:=jU (l:=p++[c]) (p:=p) (c:=c) (r:=[]) rfl
   have w1:wrap64 (((p++[c]).length:Int)-1)=((p.length:Nat):Int):=(aU (by omega) (by omega)).trans (by omega)
   have h32:(c.toNat:Int)=32↔c=32:=zU c 32 (by omega)
   have x1:((p++[c]).drop 0).take (p.length-0)=p:=by rw[List.drop_zero,Nat.sub_zero,List.take_left]
   refine vc ?_
   simp only[bM.l1,aC,w1,e1,Int.toNat_natCast,jZ,x1]
   clear e1 w1 x1
   rw[adE]
   refine vp (by omega) (vp (by omega) (vp (by omega) ?_))
   by_cases c1:(c.toNat:Int)=32
   ·rw[if_pos (h32.mp c1)]
    exact vp c1 (vp (by omega) (ih p (by omega) (by omega)))
   ·rw[if_neg (fun hh=>c1 (h32.mpr hh))]
    exact vn c1 (vs _)
theorem ZM (c:UInt8) (r:Str) (h:c≠32):trim (c:: r)=XD (c:: r):=by
 unfold trim Lib.trimB Lib.trimLeftB Lib.trimRightB XD
 obtain⟨m,h1,h2⟩:=F5 (·==32) (c:: r).reverse
 have h3:=congrArg List.reverse h1
 rw[List.reverse_reverse,List.reverse_append]at h3
 cases e:((c:: r).reverse.dropWhile (·==32)).reverse with
 |nil=>
  rw[e,List.nil_append]at h3
  have:c∈m:=by
   have:c∈m.reverse:=by rw[←h3];simp
   exact List.mem_reverse.mp this
  exact absurd (by simpa using h2 c this) h
 |cons d u=>
  rw[e]at h3
  injection h3 with h4 h5
  subst h4
  rw[List.dropWhile,show(c==32)=false by simp[h]]
theorem rH (s:Str) (hl:s.length≤1048576):Ev (fun k=>bM.f k (aY s)) (aY (trim s)):=by
 unfold bM.f
 induction s with
 |nil=>
  refine vc ?_
  simp only[bM.l0,aC]
  refine vn (by simp) (vc ?_)
  simp only[bM.j1]
  exact FP 0 [] (by simp) (by simp)
 |cons c r ih=>
  simp only[List.length_cons]at hl
  have hz:(c:: r).length=r.length+1:=rfl
  have h32:(c.toNat:Int)=32↔c=32:=zU c 32 (by omega)
  have x1:((c:: r).drop 1).take ((c:: r).length-1)=r:=by rw[List.drop_one,List.tail_cons,hz,List.take_of_length_le (by omega)]
  refine vc ?_
  simp only[bM.l0,aC,agw,jZ,x1]
  clear x1
  refine vp (by omega) (vp (by omega) ?_)
  by_cases c1:(c.toNat:Int)=32
  ·rw[h32.mp c1,Xz]
   exact vp (by decide) (vp (by simp;omega) (ih (by omega)))
  ·rw[ZM c r (fun hh=>c1 (h32.mpr hh))]
   refine vn c1 (vc ?_)
   simp only[bM.j1]
   exact FP (r.length+1) (c:: r) (by simp) (by simp;omega)
/-- Behind a word: a space or the end, else nothing. -/
theorem QU (n:Nat) (s:Str) (h:s.length<n):Pv n false s=if s=[]∨s.head? =some 32 then Pv n true s else none:=by
 obtain⟨n,rfl⟩:∃m,n=m+1:=⟨n-1,by omega⟩
 cases s with
 |nil=>rw[if_pos (Or.inl rfl)];rfl
 |cons c r=>
  by_cases c1:c=32
  ·rw[if_pos (Or.inr (by rw[c1];rfl)),Pv,Pv,if_pos c1,if_pos c1]
  ·rw[if_neg (by simp[c1]),Pv,if_neg c1,if_pos rfl]
theorem QV (l:Str) (acc:List Str) (hl:l.length≤1048576) (ha:acc.length≤1048576) (p:Str) (v:List ByteArray×Bool):∀(r a:Str),l=p++(a++r)→a.all yO=true→
  (a++r.takeWhile yO=[]→v=([],false))→
  (a++r.takeWhile yO≠[]→¬(r.dropWhile yO=[]∨(r.dropWhile yO).head? =some 32)→v=([],false))→
  (a++r.takeWhile yO≠[]→(r.dropWhile yO=[]∨(r.dropWhile yO).head? =some 32)→Ev (fun k=>fO.l0 k (aY l) ((acc++[a++r.takeWhile yO]).map aY) (((p++(a++r.takeWhile yO)).length:Nat):Int)) v)→
  Ev (fun k=>fO.l1 k (aY l) (acc.map aY) (((p++a).length:Nat):Int) (p.length:Int)) v:=by
 intro r
 induction r with
 |nil=>
  intro a h h2 h3 h4 h5
  have hz:l.length=p.length+a.length:=by rw[h];simp
  have hpa:(p++a).length=p.length+a.length:=by simp
  simp only[List.takeWhile_nil,List.append_nil,List.dropWhile_nil]at h3 h4 h5
  refine vc ?_
  simp only[fO.l1,aC,List.length_map]
  refine vn (by omega) (vp (by omega) (vp (by omega) (vp (by omega) ?_)))
  by_cases e:a=[]
  ·rw[h3 e];subst e;exact vp (by simp) (vs _)
  ·have hne:0<a.length:=List.length_pos_iff.mpr e
   have ex:(aY l).extract (p.length:Int).toNat (((p++a).length:Nat):Int).toNat=aY a:=by
    rw[Int.toNat_natCast,Int.toNat_natCast,jZ,EF h,hpa,List.append_nil]
    rw[List.take_of_length_le (by omega)]
   rw[ex]
   have:=h5 e (by simp)
   rw[List.map_append,List.map_singleton]at this
   exact vn (by omega) (vp (by omega) this)
 |cons c r ih=>
  intro a h h2 h3 h4 h5
  have hz:l.length=p.length+(a.length+(r.length+1)):=by rw[h];simp
  have hpa:(p++a).length=p.length+a.length:=by simp
  have e1:bt (aY l) (((p++a).length:Nat):Int)=(c.toNat:Int):=jU (l:=l) (p:=p++a) (c:=c) (r:=r) (by rw[h];simp)
  have w1:wrap64 ((((p++a).length:Nat):Int)+1)=((p++(a++[c])).length:Int):=(aU (by omega) (by omega)).trans (by simp only[List.length_append,List.length_cons,List.length_nil];omega)
  have h32:(c.toNat:Int)=32↔c=32:=zU c 32 (by omega)
  refine vc ?_
  simp only[fO.l1,aC,List.length_map,e1,w1]
  clear e1 w1
  refine vp (by omega) (vp (by omega) (vb (Eu c) ?_))
  cases e:yO c with
  |true=>
   refine vp rfl ?_
   have ec:a++(c:: r).takeWhile yO=a++[c]++r.takeWhile yO:=by simp[List.takeWhile,e]
   have ed:(c:: r).dropWhile yO=r.dropWhile yO:=by simp[List.dropWhile,e]
   rw[ec]at h3
   rw[ec,ed]at h4
   rw[ec,ed]at h5
   exact ih (a++[c]) (by rw[h];simp) (by simp[h2,e]) h3 h4 h5
  |false=>
   have et:(c:: r).takeWhile yO=[]:=by simp[List.takeWhile,e]
   have ed:(c:: r).dropWhile yO=c:: r:=by simp[List.dropWhile,e]
   rw[et,List.append_nil]at h3
   rw[et,ed,List.append_nil]at h4
   rw[et,ed,List.append_nil]at h5
   refine vn (by simp) (vp (by omega) (vp (by omega) (vp (by omega) ?_)))
   by_cases e:a=[]
   ·rw[h3 e];subst e;exact vp (by simp) (vs _)
   ·have hne:0<a.length:=List.length_pos_iff.mpr e
    have ex:(aY l).extract (p.length:Int).toNat (((p++a).length:Nat):Int).toNat=aY a:=by
     rw[Int.toNat_natCast,Int.toNat_natCast,jZ,EF h,hpa,show p.length+a.length-p.length=a.length by omega,List.take_left]
    rw[ex]
    refine vn (by omega) ?_
    by_cases c1:(c.toNat:Int)=32
    ·have:=h5 e (Or.inr (by rw[h32.mp c1];rfl))
     rw[List.map_append,List.map_singleton]at this
     exact vp c1 (vp (by omega) this)
    ·rw[h4 e (by simp only[List.head?_cons,Option.some.injEq,reduceCtorEq,false_or];exact fun hh=>c1 (h32.mpr hh))]
     exact vn c1 (vs _)
theorem PD (l:Str) (hl:l.length≤1048576):∀(n:Nat) (r p:Str) (acc:List Str),r.length<n→l=p++r→acc.length≤p.length→Ev (fun k=>fO.l0 k (aY l) (acc.map aY) (p.length:Int)) (KI acc (Pv n true r)):=by
 intro n
 induction n with
 |zero=>intro r p acc h;omega
 |succ n ih=>
  intro r p acc h h2 h3
  refine vc ?_
  cases r with
  |nil=>
   rw[List.append_nil]at h2
   subst h2
   simp only[fO.l0,aC]
   exact vn (by omega) (vq (vs _) (by simp[Pv,KI]))
  |cons c r=>
   simp only[List.length_cons]at h
   have hz:=iV h2
   have e1:=jU h2
   have w1:wrap64 ((p.length:Int)+1)=(((p++[c]).length:Nat):Int):=(aU (by omega) (by omega)).trans (by simp)
   have h32:(c.toNat:Int)=32↔c=32:=zU c 32 (by omega)
   have Vt:(c.toNat:Int)=34↔c=34:=zU c 34 (by omega)
   simp only[fO.l0,e1,w1,aC,List.length_map]
   clear e1 w1
   rw[Pv]
   refine vp (by omega) (vp (by omega) ?_)
   by_cases c1:(c.toNat:Int)=32
   ·rw[if_pos (h32.mp c1)]
    exact vp c1 (ih r (p++[c]) acc (by omega) (by rw[h2];simp) (by simp;omega))
   ·rw[if_neg (fun hh=>c1 (h32.mpr hh)),if_neg (by simp)]
    refine vn c1 ?_
    by_cases c2:(c.toNat:Int)=34
    ·rw[if_pos (Vt.mp c2)]
     refine vp c2 (vb (JG h2 hl) ?_)
     cases e:Pq r with
     |none=>exact vp (by simp[WB]) (vq (vs _) rfl)
     |some q=>
      obtain⟨w,t⟩:=q
      obtain⟨m,h4,h5,_⟩:=Kt 0 r.length r w t (Nat.le_refl _) e
      have hm:r.length=m.length+t.length:=by rw[h4,List.length_append]
      have hpm:(p++c:: m).length=p.length+m.length+1:=by simp only[List.length_append,List.length_cons];omega
      have ei:l.length-t.length=(p++c:: m).length:=by omega
      have:=ih t (p++c:: m) (acc++[w]) (by omega) (by rw[h2,h4];simp) (by simp;omega)
      rw[List.map_append,List.map_singleton]at this
      simp only[WB,ei,List.nil_append]
      rw[QU n t (by omega)]
      refine vn (by omega) (vn (by omega) ?_)
      cases t with
      |nil=>
       rw[if_pos (Or.inl rfl)]
       simp only[List.length_nil]at hm ei
       refine vn (by omega) (vp (by omega) (vq this ?_))
       cases Pv n true []with
       |none=>rfl
       |some ws=>simp[KI]
      |cons d t=>
       have e2:bt (aY l) ((p++c:: m).length:Int)=(d.toNat:Int):=jU (l:=l) (p:=p++c:: m) (c:=d) (r:=t) (by rw[h2,h4];simp)
       have h32:(d.toNat:Int)=32↔d=32:=zU d 32 (by omega)
       simp only[List.length_cons]at hm
       rw[e2]
       clear e2
       refine vp (by omega) (vp (by omega) ?_)
       by_cases c3:(d.toNat:Int)=32
       ·rw[if_pos (Or.inr (by rw[h32.mp c3];rfl))]
        refine vp c3 (vp (by omega) (vq this ?_))
        cases Pv n true (d:: t)with
        |none=>rfl
        |some ws=>simp[KI]
       ·rw[if_neg (by simp only[List.head?_cons,Option.some.injEq,reduceCtorEq,false_or];exact fun hh=>c3 (h32.mpr hh))]
        exact vn c3 (vq (vs _) rfl)
    ·rw[if_neg (fun hh=>c2 (Vt.mpr hh))]
     refine vn c2 ?_
     have hsw:=FN yO (c:: r)
     have hlen:=congrArg List.length hsw
     rw[List.length_append,List.length_cons]at hlen
     have key:=QV l acc hl (by omega) p (KI acc (if(c:: r).takeWhile yO=[]then none else(Pv n false ((c:: r).dropWhile yO)).map ((c:: r).takeWhile yO:: ·))) (c:: r) [] h2 rfl (fun hh=>by rw[List.nil_append]at hh;rw[if_pos hh];rfl)
     refine(key (fun hh hn=>?_) (fun hh hn=>?_)) |>fun hq=>by simpa using hq
     ·rw[List.nil_append]at hh
      have hne:0<((c:: r).takeWhile yO).length:=List.length_pos_iff.mpr hh
      rw[if_neg hh,QU _ _ (by omega),if_neg hn];rfl
     ·rw[List.nil_append]at hh⊢
      have hne:0<((c:: r).takeWhile yO).length:=List.length_pos_iff.mpr hh
      rw[if_neg hh,QU _ _ (by omega),if_pos hn]
      have:=ih ((c:: r).dropWhile yO) (p++(c:: r).takeWhile yO) (acc++[(c:: r).takeWhile yO]) (by omega) (by rw[List.append_assoc,hsw];exact h2) (by simp only[List.length_append,List.length_cons,List.length_nil];omega)
      refine vq this ?_
      cases Pv n true ((c:: r).dropWhile yO)with
      |none=>rfl
      |some ws=>simp[KI]
theorem Iz (l:Str) (hl:l.length≤1048576):Ev (fun k=>fO.f k (aY l)) (KI [] (words l)):=by
 unfold fO.f
 exact PD l hl (l.length+1) l [] [] (by omega) rfl (by simp)
/-! The reference's ParseKind answers as the program's. -/
theorem auK (s:Str):∀n:Nat,s.length≤n→Pq (s++[32])=(Pq s).map fun q=>(q.1,q.2++[32]):=by
 intro n
 induction n generalizing s with
 |zero=>
  intro h
  have:s=[]:=List.length_eq_zero_iff.mp (by omega)
  subst this;rfl
 |succ n ih=>
  intro h
  cases s with
  |nil=>rfl
  |cons c r=>
   simp only[List.length_cons]at h
   rw[List.cons_append,GN,GN]
   by_cases c1:c=34
   ·rw[if_pos c1,if_pos c1];rfl
   ·rw[if_neg c1,if_neg c1]
    by_cases c2:c=92
    ·rw[if_pos c2,if_pos c2]
     cases r with
     |nil=>rfl
     |cons d r=>
      simp only[List.length_cons]at h
      simp only[List.cons_append]
      rw[ih r (by omega)]
      cases Pq r<;>rfl
    ·rw[if_neg c2,if_neg c2,ih r (by omega)]
     cases Pq r<;>rfl
theorem alL (l:Str):(l++[32]).takeWhile yO=l.takeWhile yO∧(l++[32]).dropWhile yO=l.dropWhile yO++[32]:=by
 induction l with
 |nil=>exact⟨rfl,rfl⟩
 |cons c r ih=>
  rw[List.cons_append]
  cases e:yO c with
  |true=>simp only[List.takeWhile,List.dropWhile,e];exact⟨congrArg _ ih.1,ih.2⟩
  |false=>simp[List.takeWhile,List.dropWhile,e]
theorem auL:∀(n:Nat) (a:Bool) (s:Str),s.length<n→Pv (n+1) a (s++[32])=Pv n a s:=by
 intro n
 induction n with
 |zero=>intro a s h;omega
 |succ n ih=>
  intro a s h
  cases s with
  |nil=>rfl
  |cons c r=>
   simp only[List.length_cons]at h
   rw[List.cons_append,Pv,Pv,ih true r (by omega)]
   by_cases c1:c=32
   ·rw[if_pos c1,if_pos c1]
   ·rw[if_neg c1,if_neg c1]
    by_cases c2:a=false
    ·rw[if_pos c2,if_pos c2]
    ·rw[if_neg c2,if_neg c2]
     by_cases c3:c=34
     ·rw[if_pos c3,if_pos c3,auK r r.length (Nat.le_refl _)]
      cases e:Pq r with
      |none=>rfl
      |some q=>
       obtain⟨w,t⟩:=q
       obtain⟨m,h4,h5,_⟩:=Kt 0 r.length r w t (Nat.le_refl _) e
       have hm:r.length=m.length+t.length:=by rw[h4,List.length_append]
       simp only[Option.map_some]
       rw[ih false t (by omega)]
     ·rw[if_neg c3,if_neg c3]
      have hw:=alL (c:: r)
      rw[List.cons_append]at hw
      rw[hw.1,hw.2]
      by_cases c4:(c:: r).takeWhile yO=[]
      ·rw[if_pos c4,if_pos c4]
      ·have hne:0<((c:: r).takeWhile yO).length:=List.length_pos_iff.mpr c4
       have hlen:=congrArg List.length (FN yO (c:: r))
       rw[List.length_append,List.length_cons]at hlen
       rw[if_neg c4,if_neg c4,ih false _ (by omega)]
theorem Vz (s:Str):words (s++[32])=words s:=by
 unfold words
 rw[List.length_append]
 exact auL (s.length+1) true s (by omega)
theorem WC (s:Str):words (32:: s)=words s:=by
 unfold words
 rw[Pv,if_pos rfl];rfl
/-- What does not mind a space ahead or behind does not mind being trimmed. -/
theorem abx {α:Type} (f:Str→α) (h1:∀s,f (32:: s)=f s) (h2:∀s,f (s++[32])=f s) (s:Str):f (trim s)=f s:=by
 have r1:∀(i:Nat) (t:Str),f (List.replicate i 32++t)=f t:=by
  intro i
  induction i with
  |zero=>intro t;rfl
  |succ i ih=>intro t;rw[List.replicate_succ,List.cons_append,h1,ih]
 have r2:∀(j:Nat) (t:Str),f (t++List.replicate j 32)=f t:=by
  intro j
  induction j with
  |zero=>intro t;rw[List.replicate_zero,List.append_nil]
  |succ j ih=>intro t;rw[List.replicate_succ',←List.append_assoc,h2,ih]
 obtain⟨i,j,e⟩:=MG s
 have:f s=f (List.replicate i 32++trim s++List.replicate j 32):=congrArg f e
 rw[this,r2,r1]
theorem adF (s:Str):words (trim s)=words s:=abx words WC Vz s
theorem ahJ (b:UInt8) (hb:b≠32) (s:Str):A_ b (s++[32])=(A_ b s).map fun x=>(x.1,x.2++[32]):=by
 induction s with
 |nil=>
  have h:¬(32:UInt8)=b:=fun h=>hb h.symm
  simp[A_,h]
 |cons c r ih=>
  rw[List.cons_append,A_,A_]
  by_cases h:c=b
  ·rw[if_pos h,if_pos h];rfl
  ·rw[if_neg h,if_neg h,ih];cases A_ b r<;>rfl
theorem ahK (s:Str):MH (trim s)=MH s:=by
 refine abx MH (fun s=>?_) (fun s=>?_) s
 ·unfold MH
  rw[A_,if_neg (by decide)]
  cases A_ 61 s with
  |none=>rfl
  |some x=>simp only[Option.map_some,Xz]
 ·unfold MH
  rw[ahJ 61 (by decide)]
  cases A_ 61 s with
  |none=>rfl
  |some x=>simp only[Option.map_some,Vz]
/-- Cut outside of quotes, or plainly: the same, or a quote stands in what is ahead. -/
theorem alM (b:UInt8) (s:Str):uJ b 0 s=A_ b s∨((∀x,uJ b 0 s=some x→34∈x.1)∧(∀x,A_ b s=some x→34∈x.1)):=by
 induction s with
 |nil=>exact Or.inl rfl
 |cons c r ih=>
  rw[uJ,A_]
  by_cases h:c=b
  ·rw[if_pos ⟨rfl,h⟩,if_pos h];exact Or.inl rfl
  ·rw[if_neg (fun hh=>h hh.2),if_neg h]
   by_cases c1:c=34
   ·right
    rw[c1]
    refine⟨fun x hx=>?_,fun x hx=>?_⟩<;>
    ·simp only[Option.map_eq_some_iff]at hx
     obtain⟨y,_,rfl⟩:=hx
     simp
   ·rw[show nq 0 c=0 by simp[nq,c1]]
    rcases ih with h2|⟨h2,h3⟩
    ·left;rw[h2]
    ·right
     refine⟨fun x hx=>?_,fun x hx=>?_⟩
     ·simp only[Option.map_eq_some_iff]at hx
      obtain⟨y,hy,rfl⟩:=hx
      simp[h2 y hy]
     ·simp only[Option.map_eq_some_iff]at hx
      obtain⟨y,hy,rfl⟩:=hx
      simp[h3 y hy]
/-- The reference's parameter. -/
def WE (s:Str):Option (Str×Str):=match uJ 61 0 (trim s)with
 |none=>none
 |some x=>match words x.2 with
  |some [w]=>some (low (trim x.1),w)
  |_=>none
def Bad (o:Option (Str×Str)):Prop:=∀x,o=some x→34∈x.1
theorem ZN {l:Str} (h:(34:UInt8)∈l):(34:UInt8)∈low l:=List.mem_map.mpr ⟨34,h,by decide⟩
theorem auM (s:Str):WE s=MH s∨(Bad (WE s)∧Bad (MH s)):=by
 rw[←ahK s]
 unfold WE MH
 rcases alM 61 (trim s)with h|⟨h1,h2⟩
 ·left;rw[h]
 ·right
  refine⟨fun x hx=>?_,fun x hx=>?_⟩
  ·cases e:uJ 61 0 (trim s)with
   |none=>rw[e]at hx;cases hx
   |some y=>
    have h3:=h1 y e
    rw[e]at hx
    simp only at hx
    split at hx
    ·cases hx;exact ZN (abu _ _ h3 (by decide))
    ·cases hx
  ·cases e:A_ 61 (trim s)with
   |none=>rw[e]at hx;cases hx
   |some y=>
    have h3:=h2 y e
    rw[e]at hx
    simp only at hx
    split at hx
    ·cases hx;exact ZN (abu _ _ h3 (by decide))
    ·cases hx
def FQ:List Str→Option (List (Str×Str))
 |[]=>some []
 |s:: r=>match WE s with
  |none=>none
  |some x=>(FQ r).map (x:: ·)
def ahL (o:Option (List (Str×Str))):Prop:=∀l,o=some l→∃x∈l,(34:UInt8)∈x.1
theorem aov (r:List Str):FQ r=Vx r∨(ahL (FQ r)∧ahL (Vx r)):=by
 induction r with
 |nil=>exact Or.inl rfl
 |cons s r ih=>
  rw[FQ,Vx]
  have agE:∀(o:Option (Str×Str)) (p:Option (List (Str×Str))),Bad o→ahL (match o with
    |none=>none
    |some x=>p.map (x:: ·)):=by
   intro o p h l hl
   cases o with
   |none=>cases hl
   |some x=>
    simp only[Option.map_eq_some_iff]at hl
    obtain⟨y,_,rfl⟩:=hl
    exact⟨x,by simp,h x rfl⟩
  have agF:∀(o:Option (Str×Str)) (p:Option (List (Str×Str))),ahL p→ahL (match o with
    |none=>none
    |some x=>p.map (x:: ·)):=by
   intro o p h l hl
   cases o with
   |none=>cases hl
   |some x=>
    simp only[Option.map_eq_some_iff]at hl
    obtain⟨y,hy,rfl⟩:=hl
    obtain⟨z,hz,h3⟩:=h y hy
    exact⟨z,by simp[hz],h3⟩
  rcases auM s with h|⟨h1,h2⟩
  ·rcases ih with h2|⟨h2,h3⟩
   ·left;rw[h,h2]
   ·right;exact⟨agF _ _ h2,agF _ _ h3⟩
  ·right;exact⟨agE _ _ h1,agE _ _ h2⟩
theorem VA {l:Str} (h:(34:UInt8)∈l):isSmall l=false:=by
 cases e:isSmall l with
 |false=>rfl
 |true=>exact absurd rfl (aou 34 (alJ (adD e).1 34 h)).1
theorem VB (a b:Str) (ps:List (Str×Str)) (h:(34:UInt8)∈a∨∃x∈ps,(34:UInt8)∈x.1):yu a b ps=false:=by
 cases e:yu a b ps with
 |false=>rfl
 |true=>
  obtain⟨h1,_,_,h4,_⟩:=Pz e
  rcases h with h|⟨x,hx,h⟩
  ·rw[VA h]at h1;cases h1
  ·have:=(agC ps [] h4 x hx).1
   rw[VA h]at this;cases this
/-- The reference's kind. -/
def pkS (s:Str):Option (Str×Str×List (Str×Str)):=if mF s=true then pkO (uJ 47 0 (trim ((parts 59 0 s).headD []))) (FQ ((parts 59 0 s).drop 1))else none
theorem aby (o:Option (Str×Str)) (p:Option (List (Str×Str))) (h:Bad o):pkO o p=none:=by
 unfold pkO
 split
 ·rename_i x ps
  rw[VB _ _ _ (Or.inl (ZN (h x rfl)))];rfl
 ·rfl
theorem abz (o:Option (Str×Str)) (p:Option (List (Str×Str))) (h:ahL p):pkO o p=none:=by
 unfold pkO
 split
 ·rename_i x ps
  rw[VB _ _ _ (Or.inr (h ps rfl))];rfl
 ·rfl
theorem auN (s:Str):pkS s=pk s:=by
 unfold pkS pk
 split
 ·rcases alM 47 (trim ((parts 59 0 s).headD []))with h|⟨h1,h2⟩
  ·rw[h]
   rcases aov ((parts 59 0 s).drop 1)with h3|⟨h3,h4⟩
   ·rw[h3]
   ·rw[abz _ _ h3,abz _ _ h4]
  ·rw[aby _ _ h1,aby _ _ h2]
 ·rfl
theorem EH (ok:Bool) (m u:Str) (ps:List (Str×Str)) (hm:m.length≤1048576) (hu:u.length≤1048576) (hz:Es ps≤1048576) (hn:ps.length≤1048576):
  Ev (fun k=>if ok=true then((dD.f k (aY m) (aY u) (ps.map uU)).bind fun t=>(if t=true then(some (aY m,aY u,ps.map uU,true))else(some ((⟨#[]⟩:ByteArray),(⟨#[]⟩:ByteArray),([]:List fP),false))))else(some ((⟨#[]⟩:ByteArray),(⟨#[]⟩:ByteArray),([]:List fP),false))) (SS (fin1 ok m u ps)):=by
 cases ok with
 |false=>exact vn (by simp) (vq (vs _) (by unfold fin1;rw[if_neg (by simp)];rfl))
 |true=>
  refine vp rfl (vb (FM m u ps hm hu hz hn) ?_)
  cases e:yu m u ps with
  |true=>exact vp rfl (vq (vs _) (by unfold fin1;rw[if_pos ⟨rfl,e⟩];rfl))
  |false=>exact vn (by simp) (vq (vs _) (by unfold fin1;rw[if_neg (by simp[e])];rfl))
theorem PE {b:UInt8} {q:Nat} {s x t:Str} (h:uJ b q s=some (x,t)):s.length=x.length+t.length+1:=by
 rw[agA b s q x t h];simp;omega
/-- What is still to be read: nothing, or a rest. -/
def rest (more:Bool) (s:Str):List Str:=if more=true then parts 59 0 s else[]
theorem Dp (ok:Bool) (m u:Str) (hm:m.length≤1048576) (hu:u.length≤1048576):∀(n:Nat) (s:Str) (more:Bool) (q:List (Str×Str)),s.length+(if more=true then 1 else 0)≤n→s.length+q.length+(if more=true then 1 else 0)≤500→Es q≤1000*q.length→
  Ev (fun k=>bC.l0 k (aY s) more ok (aY m) (aY u) (q.map uU)) (SS (SV ok m u q (FQ (rest more s)))):=by
 intro n
 induction n with
 |zero=>
  intro s more q h h2 h3
  cases more with
  |true=>simp at h
  |false=>
   refine vc ?_
   simp only[bC.l0]
   refine vn (by simp) ?_
   have:=EH ok m u q hm hu (by omega) (by omega)
   simpa [rest,FQ,SV] using this
 |succ n ih=>
  intro s more q h h2 h3
  cases more with
  |false=>
   refine vc ?_
   simp only[bC.l0]
   refine vn (by simp) ?_
   have:=EH ok m u q hm hu (by omega) (by omega)
   simpa [rest,FQ,SV] using this
  |true=>
   simp only[if_true]at h h2
   have hbad:∀(x5:ByteArray) (x6:Bool) (x12:ByteArray) (x15:List ByteArray),Ev (fun k=>bC.j1 k x5 x6 ok x12 x15 true (aY m) (aY u) (q.map uU)) (SS none):=by
    intro x5 x6 x12 x15
    refine vc ?_
    simp only[bC.j1]
    exact vp trivial (vs _)
   /-one part -/
   have one:∀(c t:Str) (more:Bool),c.length≤500→t.length+(if more=true then 1 else 0)≤n→t.length+(q.length+1)+(if more=true then 1 else 0)≤500→
     Ev (fun k=>(bM.f k (aY c)).bind fun aHw=>((jL.f k aHw 61).bind fun abA=>((bM.f k abA.2.1).bind fun aHx=>((fO.f k aHx).bind fun abB=>(if abA.2.2=true then(if abB.2=true then(bC.j1 k (aY t) more ok abA.1 abB.1 ((abB.1.length:Int) !=1) (aY m) (aY u) (q.map uU))else(bC.j1 k (aY t) more ok abA.1 abB.1 true (aY m) (aY u) (q.map uU)))else(bC.j1 k (aY t) more ok abA.1 abB.1 true (aY m) (aY u) (q.map uU))))))) (SS (SV ok m u q (FQ (c:: rest more t)))):=by
    intro c t more hc ht hq
    have htl:=GR c
    refine vb (rH c (by omega)) (vb (Cc (trim c) 61 (by decide) (by omega)) ?_)
    cases e:uJ 61 0 (trim c)with
    |none=>
     simp only[JE]
     refine vb (rH [] (by simp)) (vb (Iz _ (by decide)) (vn (by simp) (vq (hbad _ _ _ _) ?_)))
     rw[FQ,WE,e];rfl
    |some x=>
     obtain⟨a,v⟩:=x
     have hlen:=PE e
     have hvl:=GR v
     have hal:=GR a
     simp only[JE]
     refine vb (rH v (by omega)) (vb (Iz _ (by omega)) (vp trivial ?_))
     rw[adF]
     cases e2:words v with
     |none=>
      refine vn (by simp[KI]) (vq (hbad _ _ _ _) ?_)
      rw[FQ,WE,e];simp only[e2];rfl
     |some ws=>
      simp only[KI,List.nil_append]
      refine vp trivial ?_
      by_cases h1:ws.length=1
      ·obtain⟨w,rfl⟩:=List.length_eq_one_iff.mp h1
       have hwl:=XA e2 w (by simp)
       have e3:WE c=some (low (trim a),w):=by rw[WE,e];simp only[e2]
       have:=ih t more (q++[(low (trim a),w)]) ht (by simp only[List.length_append,List.length_cons,List.length_nil];omega) (by rw[BN];simp only[Es,List.length_append,List.length_cons,List.length_nil,FH];omega)
       have hl:=og (trim a) (by omega)
       refine vc ?_
       simp only[bC.j1,List.map_cons,List.map_nil,List.length_cons,List.length_nil,List.length_map]
       refine vn (by simp) (vb (rH a (by omega)) ?_)
       simp only[hl,Option.bind_some]
       refine vp (by omega) (vp (by omega) ?_)
       rw[FQ,e3]
       simp only
       rw[XB]
       rw[List.map_append]at this
       exact this
      ·have e4:((((ws.map aY).length:Nat):Int) !=1)=true:=by
        rw[List.length_map];simp only[bne_iff_ne,ne_eq];omega
       rw[e4]
       refine vq (hbad _ _ _ _) ?_
       have e3:WE c=none:=by
        rw[WE,e]
        simp only[e2]
        match ws,h1 with
        |[],_=>rfl
        |[w],h1=>exact absurd rfl h1
        |_:: _:: _,_=>rfl
       rw[FQ,e3];rfl
   refine vc ?_
   simp only[bC.l0]
   refine vp trivial (vb (Cc s 59 (by decide) (by omega)) ?_)
   rw[rest,if_pos rfl,QO]
   cases e:uJ 59 0 s with
   |none=>
    simp only[JE]
    have:=one s [] false (by omega) (by simp) (by simp;omega)
    simpa [rest] using this
   |some x=>
    obtain⟨c,t⟩:=x
    have hlen:=PE e
    simp only[JE]
    have:=one c t true (by omega) (by simp;omega) (by simp only[if_true];omega)
    rw[rest,if_pos rfl]at this
    exact this
theorem PG (s:Str) (hs:s.length≤1048576):Ev (fun k=>bC.f k (aY s)) (SS (pk s)):=by
 rw[←auN]
 unfold bC.f pkS
 refine vb (l9 s (by omega)) ?_
 cases et:mF s with
 |false=>exact vn (by simp) (vq (vs _) rfl)
 |true=>
  have hsl:=MC et
  refine vp rfl ?_
  rw[if_pos rfl]
  /-the head,and what is behind it -/
  have key:∀(h0 t:Str) (more:Bool),h0.length≤200→t.length≤200→Ev (fun k=>(bM.f k (aY h0)).bind fun amS=>((jL.f k amS 47).bind fun alN=>((iU.f alN.1).bind fun amU=>((iU.f alN.2.1).bind fun amV=>(bC.l0 k (aY t) more alN.2.2 amU amV ([]:List fP)))))) (SS (pkO (uJ 47 0 (trim h0)) (FQ (rest more t)))):=by
   intro h0 t more hh ht
   have htl:=GR h0
   refine vb (rH h0 (by omega)) (vb (Cc (trim h0) 47 (by decide) (by omega)) ?_)
   rw[agB _ _ (trim h0)]
   cases e:uJ 47 0 (trim h0)with
   |none=>
    have l1:=og (trim h0) (by omega)
    have l2:=og [] (by simp)
    have:=Dp false (low (trim h0)) (low []) (by rw[FH];omega) (by simp[low]) (t.length+1) t more [] (by split<;>omega) (by simp only[List.length_nil];split<;>omega) (by simp[Es])
    simp only[JE,l1,l2,Option.bind_some]
    simpa [low] using this
   |some x=>
    obtain⟨a,b⟩:=x
    have hlen:=PE e
    have l1:=og a (by omega)
    have l2:=og b (by omega)
    have:=Dp true (low a) (low b) (by rw[FH];omega) (by rw[FH];omega) (t.length+1) t more [] (by split<;>omega) (by simp only[List.length_nil];split<;>omega) (by simp[Es])
    simp only[JE,l1,l2,Option.bind_some]
    simpa using this
  refine vb (Cc s 59 (by decide) (by omega)) ?_
  rw[QO]
  cases e:uJ 59 0 s with
  |none=>
   simp only[JE]
   have:=key s [] false (by omega) (by simp)
   simpa [rest] using this
  |some x=>
   obtain⟨c,t⟩:=x
   have hlen:=PE e
   simp only[JE]
   have:=key c t true (by omega) (by omega)
   rw[rest,if_pos rfl]at this
   simpa using this
theorem SY (ls:List Str) (x:Str) (hn:ls.length≤1000000000000000):∃i:Int,Ev (fun k=>dG.f k (ls.map aY) (aY x)) i∧(i= -1∨0≤i)∧(0≤i↔x∈ls):=by
 unfold dG.f
 rw[List.length_map]
 refine⟨_,qK (xs:=ls) (F:=fun k (_:Nat) i=>dG.l0 k (ls.map aY) (aY x) (ls.length:Int) i) (st:=fun n c=>if x=c then .inl (n:Int)else .inr (n+1)) (fin:=fun _=>(-1:Int)) (s:=0) (fun p n=>n=p.length) rfl ?_ ?_,?_,?_⟩
 ·intro p c r n h hn
  subst hn
  have hz:=iV h
  have e1:=yY h
  have w1:wrap64 ((p.length:Int)+1)=(p.length:Int)+1:=aU (by omega) (by omega)
  simp only[dG.l0,e1,w1,List.length_map,nM]
  clear w1 e1
  by_cases e:x=c
  ·simp only[if_pos e]
   refine⟨(fun v hv=>?_),fun s' hs=>by cases hs⟩
   cases hv
   exact vp (by omega) (vp (by omega) (vp (by omega) (vs _)))
  ·simp only[if_neg e]
   refine⟨(fun v hv=>by cases hv),fun s' hs=>⟨?_,fun v hv=>?_⟩⟩
   ·cases hs;simp
   ·exact vp (by omega) (vp (by omega) (vp (by omega) hv))
 ·intro s _
  simp only[dG.l0]
  exact vn (by omega) (vs _)
 ·have key:∀(r:List Str) (n:Nat),run (fun(n:Nat) c=>if x=c then .inl (n:Int)else .inr (n+1)) (fun _=>(-1:Int)) r n= -1∨0≤run (fun(n:Nat) c=>if x=c then .inl (n:Int)else .inr (n+1)) (fun _=>(-1:Int)) r n:=by
   intro r
   induction r with
   |nil=>intro n;exact Or.inl rfl
   |cons c r ih=>
    intro n
    unfold run
    by_cases e:x=c
    ·simp only[if_pos e];exact Or.inr (by omega)
    ·simp only[if_neg e];exact ih (n+1)
  exact key ls 0
 ·have key:∀(r:List Str) (n:Nat),0≤run (fun(n:Nat) c=>if x=c then .inl (n:Int)else .inr (n+1)) (fun _=>(-1:Int)) r n↔x∈r:=by
   intro r
   induction r with
   |nil=>intro n;simp[run]
   |cons c r ih=>
    intro n
    unfold run
    by_cases e:x=c
    ·simp only[if_pos e];simp[e]
    ·simp only[if_neg e];rw[ih];simp[e]
  exact key ls 0
theorem EI (ls:List Str) (x:Str) (hn:ls.length≤1000000000000000):Ev (fun k=>fQ.f k (ls.map aY) (aY x)) (decide (x∈ls)):=by
 obtain⟨i,hi,h1,h2⟩:=SY ls x hn
 unfold fQ.f
 refine vb hi (vq (vs _) ?_)
 by_cases h:x∈ls
 ·rw[decide_eq_true h];exact decide_eq_true (h2.mpr h)
 ·rw[decide_eq_false h];exact decide_eq_false (fun hh=>h (h2.mp hh))
/-! Lines that divide: the model. -/
def dash (b:Str):Str:=[45,45]++b
def fin2 (b:Str):Str:=[45,45]++b++[45,45]
def dv (ls:List Str) (b:Str):Bool:=decide (dash b∈ls)||decide (fin2 b∈ls)
def lk (l b:Str):Bool:=decide (l=dash b)||decide (l=fin2 b)
theorem arB (ls:List Str) (b:Str):dv ls b=ls.any (fun l=>lk l b):=by
 unfold dv
 rw[Bool.eq_iff_iff]
 simp only[lk,Bool.or_eq_true,decide_eq_true_iff,List.any_eq_true]
 constructor
 ·rintro(h|h)
  ·exact⟨_,h,Or.inl rfl⟩
  ·exact⟨_,h,Or.inr rfl⟩
 ·rintro⟨x,h,rfl|rfl⟩
  ·exact Or.inl h
  ·exact Or.inr h
theorem GU (b:Str):(⟨#[45,45]⟩:ByteArray)++aY b=aY (dash b):=by rw[alO,abC,kX];rfl
theorem TY (b:Str):aY (dash b)++(⟨#[45,45]⟩:ByteArray)=aY (fin2 b):=by rw[alO,abC,kX];rfl
theorem PI (b:Str):(dash b).length=b.length+2:=by unfold dash;simp
theorem agG (b:Str):(fin2 b).length=b.length+4:=by unfold fin2;simp
theorem S9 (ls:List Str) (b:Str) (hb:b.length≤1000000000000000) (hn:ls.length≤1000000000000000):Ev (fun k=>wC.f k (ls.map aY) (aY b)) (dv ls b):=by
 unfold wC.f dv
 have hd:=PI b
 simp only[GU,TY,aC]
 refine vp (by omega) (vb (EI ls (dash b) hn) ?_)
 cases e:decide (dash b∈ls)with
 |true=>exact vp rfl (vs _)
 |false=>exact vn (by simp) (vp (by omega) (vb (EI ls (fin2 b) hn) (vs _)))
theorem IB (l b:Str) (hb:b.length≤1000000000000000):qg.f (aY l) (aY b)=some (lk l b):=by
 unfold qg.f lk
 have hd:=PI b
 simp only[GU,TY,aC,nM]
 rw[if_pos (by omega)]
 by_cases h:l=dash b
 ·rw[if_pos h,decide_eq_true h];rfl
 ·rw[if_neg h,decide_eq_false h,if_pos (by omega)]
  simp only[Bool.false_or]
  congr 1
  rw[Bool.eq_iff_iff];simp
/-! Parts joined: the model. -/
def jb (b:Str):List (List Str)→List Str
 |[]=>[]
 |c:: r=>dash b:: (c++jb b r)
def jR (b:Str) (ps:List (List Str)):Option (List Str):=if Jw b=true∧ps≠[]∧ps.any (fun c=>dv c b)=false then some (jb b ps++[fin2 b])else none
def QW (o:Option (List Str)):List ByteArray×Bool:=match o with
 |none=>([],false)
 |some l=>(l.map aY,true)
theorem VD (b:Str) (ps:List (List Str)):(jb b ps).length=tl ps:=by
 induction ps with
 |nil=>rfl
 |cons c r ih=>simp only[jb,tl,List.length_cons,List.length_append,ih];omega
theorem XE (b:Str) (a c:List (List Str)):jb b (a++c)=jb b a++jb b c:=by
 induction a with
 |nil=>rfl
 |cons d a ih=>simp[jb,ih]
theorem aow {b:Str} (ps:List (List Str)) (h:Jw b=false):jR b ps=none:=by
 unfold jR;rw[if_neg (by rw[h];simp)]
theorem aox (b:Str):jR b []=none:=by
 unfold jR;rw[if_neg (by simp)]
theorem auO {b:Str} {ps:List (List Str)} (h1:Jw b=true) (h2:ps≠[]):QW (jR b ps)=if ps.any (fun c=>dv c b)=true then([],false)else((jb b ps++[fin2 b]).map aY,true):=by
 unfold jR
 cases e:ps.any (fun c=>dv c b)with
 |true=>rw[if_neg (by simp),if_pos rfl];rfl
 |false=>rw[if_pos ⟨h1,h2,rfl⟩,if_neg (by simp)];rfl
theorem KL (ls:List Str) (b:Str) (hb:b.length≤1000000000000) (hn:ls.length≤1000000000000):Ev (fun k=>oV.f k (ls.map aY) (aY b)) (dv ls b):=by
 unfold oV.f
 exact vb (S9 ls b (by omega) (by omega)) (vs _)
theorem IL (ps:List (List Str)) (b:Str) (hb:b.length≤1000000000000) (hn:tl ps≤1000000000000):Ev (fun k=>dW.f k (ps.map (List.map aY)) (aY b)) (ps.any (fun c=>dv c b)):=by
 unfold dW.f aX.f
 have hl:=ZJ ps
 have key:∀(r:List (List Str)) (n:Nat),decide (run (fun(n:Nat) c=>if dv c b=true then .inl (n:Int)else .inr (n+1)) (fun _=>(-1:Int)) r n≥0)=r.any (fun c=>dv c b):=by
  intro r
  induction r with
  |nil=>intro n;rfl
  |cons c r ih=>
   intro n
   unfold run
   cases e:dv c b with
   |true=>simp[e]
   |false=>simp only[Bool.false_eq_true,if_false,ih,List.any_cons,e,Bool.false_or]
 rw[List.length_map]
 refine vb (qK (xs:=ps) (F:=fun k (_:Nat) i=>aX.l0 k (ps.map (List.map aY)) (ps.length:Int) i (aY b)) (st:=fun n c=>if dv c b=true then .inl (n:Int)else .inr (n+1)) (fin:=fun _=>(-1:Int)) (s:=0) (fun p n=>n=p.length) rfl ?_ ?_) (vq (vs _) (key ps 0))
 ·intro p c r n h hn'
  subst hn'
  have hz:=iV h
  have hc:c.length≤tl ps:=auJ (by rw[h];simp)
  have e1:=Vl h
  have w1:wrap64 ((p.length:Int)+1)=(p.length:Int)+1:=aU (by omega) (by omega)
  simp only[aX.l0,e1,w1,List.length_map]
  clear w1 e1
  have hd:=KL c b hb (by omega)
  cases e:dv c b with
  |true=>
   simp only[if_true]
   rw[e]at hd
   refine⟨(fun v hv=>?_),fun s' hs=>by cases hs⟩
   cases hv
   exact vp (by omega) (vp (by omega) (vp (by omega) (vb hd (vp rfl (vs _)))))
  |false=>
   rw[e]at hd
   refine⟨(fun v hv=>by cases hv),fun s' hs=>⟨?_,fun v hv=>?_⟩⟩
   ·cases hs;simp
   ·exact vp (by omega) (vp (by omega) (vp (by omega) (vb hd (vn (by simp) hv))))
 ·intro s _
  simp only[aX.l0]
  exact vn (by omega) (vs _)
theorem PK (ps:List (List Str)) (b:Str) (hb:b.length≤1000000000000) (hn:tl ps≤1000000000000):Ev (fun k=>fM.f k (ps.map (List.map aY)) (aY b)) (QW (jR b ps)):=by
 have hl:=ZJ ps
 have hd:=PI b
 have hbad:∀ps:List (List Str),Ev (fun k=>fM.j0 k (ps.map (List.map aY)) true (aY b)) (QW none):=by
  intro ps
  refine vc ?_
  simp only[fM.j0]
  exact vp trivial (vs _)
 unfold fM.f
 refine vb (Ez b (by omega)) ?_
 unfold jR
 cases e1:Jw b with
 |false=>
  rw[if_neg (by simp)]
  exact vn (by simp) (hbad ps)
 |true=>
  refine vp rfl ?_
  rw[List.length_map]
  by_cases e2:ps=[]
  ·rw[if_neg (by simp[e2])]
   exact vp (by simp[e2]) (hbad ps)
  ·have h2:ps.length≠0:=by rw[ne_eq,List.length_eq_zero_iff];exact e2
   refine vn (by omega) (vb (IL ps b hb hn) ?_)
   cases e3:ps.any (fun c=>dv c b)with
   |true=>
    rw[if_neg (by simp)]
    exact hbad ps
   |false=>
    rw[if_pos ⟨rfl,e2,rfl⟩]
    refine vc ?_
    simp only[fM.j0,Bool.false_eq_true,if_false,List.length_map]
    refine vq (qK (xs:=ps) (F:=fun k (out:List Str) i=>fM.l0 k (out.map aY) (ps.map (List.map aY)) (ps.length:Int) i (aY b)) (st:=fun out c=> .inr (out++(dash b:: c))) (fin:=fun out=>QW (some (out++[fin2 b]))) (s:=[]) (fun p out=>out=jb b p) rfl ?_ ?_) ?_
    ·intro p c r out h ho
     have hz:=iV h
     have e1:=Vl h
     have hlen:out.length=tl p:=by rw[ho,VD]
     have htl:tl ps=tl p+(c.length+1+tl r):=by rw[h,Gz];rfl
     have w1:wrap64 ((p.length:Int)+1)=(p.length:Int)+1:=aU (by omega) (by omega)
     simp only[fM.l0,e1,w1,List.length_map,GU,aC,Option.bind_some,List.length_append,List.length_cons,List.length_nil]
     clear w1 e1
     refine⟨(fun v hv=>by cases hv),fun s' hs=>⟨?_,fun v hv=>?_⟩⟩
     ·cases hs;rw[ho,XE];simp[jb]
     ·cases hs
      refine vp (by omega) (vp (by omega) (vp (by omega) (vp (by omega) (vp (by omega) (vp (by omega) ?_)))))
      have e5:out.map aY++[aY (dash b)]++c.map aY=(out++(dash b:: c)).map aY:=by simp
      rw[e5]
      exact hv
    ·intro out ho
     have hlen:out.length=tl ps:=by rw[ho,VD]
     have hd4:=agG b
     simp only[fM.l0,GU,TY,aC,List.length_map]
     refine vn (by omega) (vp (by omega) (vp (by omega) (vp (by omega) (vq (vs _) ?_))))
     simp[QW]
    ·have key:∀(r:List (List Str)) (out:List Str),run (fun out c=> .inr (out++(dash b:: c))) (fun out=>QW (some (out++[fin2 b]))) r out=QW (some (out++jb b r++[fin2 b])):=by
      intro r
      induction r with
      |nil=>intro out;simp[run,jb]
      |cons c r ih=>intro out;unfold run;simp only;rw[ih];simp[jb]
     exact key ps []
theorem PL (ps:List (List Str)) (b:Str) (hb:b.length≤1000000000000) (hn:tl ps≤1000000000000) (p r:List (List Str)) (c:List Str) (h:ps=p++c:: r) (out:List Str) (ho:out.length≤tl p+1) (V:List ByteArray×Bool)
  (hV:c.any (fun l=>lk l b)=false→Ev (fun k=>cZ.l0 k (ps.map (List.map aY)) (aY b) ((out++c).map aY) ((p.length:Int)+1)) V):
  Ev (fun k=>cZ.l1 k (ps.map (List.map aY)) (aY b) (out.map aY) (p.length:Int) 0) (if c.any (fun l=>lk l b)=true then([],false)else V):=by
 have hz:=iV h
 have hl:=ZJ ps
 have e1:=Vl h
 have htl:tl ps=tl p+(c.length+1+tl r):=by rw[h,Gz];rfl
 have w0:wrap64 ((p.length:Int)+1)=(p.length:Int)+1:=aU (by omega) (by omega)
 refine vq (qK (xs:=c) (F:=fun k (o:List Str) i=>cZ.l1 k (ps.map (List.map aY)) (aY b) (o.map aY) (p.length:Int) i) (st:=fun o l=>if lk l b=true then .inl ([],false)else .inr (o++[l])) (fin:=fun _=>V) (s:=out) (fun q o=>o=out++q∧q.any (fun l=>lk l b)=false) ⟨by simp,rfl⟩ ?_ ?_) ?_
 ·rintro q l s o hc ⟨ho2,hq⟩
  have hzc:=iV hc
  have e2:=yY hc
  have hlo:o.length=out.length+q.length:=by rw[ho2,List.length_append]
  have w1:wrap64 ((q.length:Int)+1)=(q.length:Int)+1:=aU (by omega) (by omega)
  simp only[cZ.l1,e1,e2,w1,List.length_map]
  clear w1 e2 w0
  have hk:=IB l b (by omega)
  cases e:lk l b with
  |true=>
   rw[e]at hk
   simp only[if_true]
   refine⟨(fun v hv=>?_),fun s' hs=>by cases hs⟩
   cases hv
   exact vp (by omega) (vp (by omega) (vp (by omega) (vp (by omega) (jI hk (vp rfl (vs _))))))
  |false=>
   rw[e]at hk
   refine⟨(fun v hv=>by cases hv),fun s' hs=>⟨?_,fun v hv=>?_⟩⟩
   ·cases hs;exact⟨by rw[ho2];simp,by simp[List.any_append,hq,e]⟩
   ·cases hs
    refine vp (by omega) (vp (by omega) (vp (by omega) (vp (by omega) (jI hk (vn (by simp) (vp (by omega) ?_))))))
    have e5:o.map aY++[aY l]=(o++[l]).map aY:=by simp
    rw[e5]
    exact hv
 ·rintro o ⟨ho2,hq⟩
  simp only[cZ.l1,e1,w0,List.length_map]
  clear w0
  rw[ho2]
  exact vp (by omega) (vp (by omega) (vn (by omega) (hV hq)))
 ·have key:∀(r:List Str) (o:List Str),run (fun o l=>if lk l b=true then .inl ([],false)else .inr (o++[l])) (fun _=>V) r o=if r.any (fun l=>lk l b)=true then([],false)else V:=by
   intro r
   induction r with
   |nil=>intro o;rfl
   |cons c r ih=>
    intro o
    unfold run
    cases e:lk c b with
    |true=>simp[e]
    |false=>simp only[Bool.false_eq_true,if_false,ih,List.any_cons,e,Bool.false_or]
  exact key c out
theorem PN (ps:List (List Str)) (b:Str) (hb:b.length≤1000000000000) (hn:tl ps≤1000000000000) (r:List (List Str)):∀(p:List (List Str)),ps=p++r→Ev (fun k=>cZ.l0 k (ps.map (List.map aY)) (aY b) ((jb b p).map aY) (p.length:Int)) (if r.any (fun c=>dv c b)=true then([],false)else((jb b ps++[fin2 b]).map aY,true)):=by
 have hd:=PI b
 have hd4:=agG b
 induction r with
 |nil=>
  intro p h
  rw[List.append_nil]at h
  subst h
  have hlen:=VD b ps
  refine vc ?_
  simp only[cZ.l0,GU,TY,aC,List.length_map]
  refine vn (by omega) (vp (by omega) (vp (by omega) (vp (by omega) (vq (vs _) ?_))))
  simp
 |cons c r ih=>
  intro p h
  have hz:=iV h
  have hl:=ZJ ps
  have hlen:=VD b p
  have htl:tl ps=tl p+(c.length+1+tl r):=by rw[h,Gz];rfl
  have h1:=ih (p++[c]) (by rw[h];simp)
  rw[l7]at h1
  have e5:jb b (p++[c])=jb b p++[dash b]++c:=by rw[XE];simp[jb]
  rw[e5]at h1
  have h2:=PL ps b hb hn p r c h (jb b p++[dash b]) (by rw[List.length_append,hlen];simp) _ (fun _=>h1)
  refine vc ?_
  simp only[cZ.l0,GU,aC,List.length_map]
  have e6:(jb b p).map aY++[aY (dash b)]=(jb b p++[dash b]).map aY:=by simp
  rw[e6]
  refine vp (by omega) (vp (by omega) (vp (by omega) (vq h2 ?_)))
  rw[←arB,List.any_cons]
  cases dv c b<;>simp
theorem PO (ps:List (List Str)) (b:Str) (hb:b.length≤1000000000000) (hn:tl ps≤1000000000000):Ev (fun k=>cZ.f k (ps.map (List.map aY)) (aY b)) (QW (jR b ps)):=by
 have hbad:Ev (fun k=>cZ.j0 k (ps.map (List.map aY)) (aY b) [] true) (QW none):=by
  refine vc ?_
  simp only[cZ.j0]
  exact vp trivial (vs _)
 unfold cZ.f
 simp only[Option.bind_some,List.length_map]
 refine vb (EC b (by omega)) ?_
 cases e1:Jw b with
 |false=>
  rw[aow ps e1]
  exact vn (by simp) hbad
 |true=>
  refine vp rfl ?_
  by_cases e2:ps=[]
  ·subst e2
   rw[aox]
   exact hbad
  ·have h2:ps.length≠0:=by rw[ne_eq,List.length_eq_zero_iff];exact e2
   have:((ps.length:Int)==0)=false:=by rw[beq_eq_false_iff_ne];omega
   rw[this,auO e1 e2]
   refine vc ?_
   simp only[cZ.j0]
   exact vn (by simp) (PN ps b hb hn ps [] rfl)
/-! Fields folded to lines. -/
def yC (l:Str) (i:Nat):Bool:=decide (bt (aY l) (i:Int)=32)&&(!decide (bt (aY l) ((i:Int)-1)=32)&& !decide (bt (aY l) ((i:Int)+1)=32))
def vk (l:Str) (i:Nat) (b:Int):Int:=if yC l i=true∧(b<0∨i≤40)then(i:Int)else b
def brk (l:Str):Nat→Nat→Int→Int
 |0,_,b=>b
 |n+1,i,b=>brk l n (i+1) (vk l i b)
def QX (l:Str) (i:Nat):Int:=brk l (l.length-1-i) i (-1)
theorem XF (l:Str):∀(n i:Nat) (b:Int),brk l n i b=b∨((i:Int)≤brk l n i b∧brk l n i b<i+n)
 |0,_,_=> .inl rfl
 |n+1,i,b=>by
  rw[brk]
  rcases XF l n (i+1) (vk l i b)with h|h
  ·rw[h]
   unfold vk
   by_cases c:yC l i=true∧(b<0∨i≤40)
   ·rw[if_pos c];exact .inr ⟨by omega,by omega⟩
   ·rw[if_neg c];exact .inl rfl
  ·exact .inr ⟨by omega,by omega⟩
theorem MJ (l:Str) (i:Nat):QX l i<0∨((i:Int)≤QX l i∧QX l i<l.length):=by
 unfold QX
 rcases XF l (l.length-1-i) i (-1)with h|h
 ·exact .inl (by omega)
 ·exact .inr ⟨h.1,by omega⟩
def fl:Nat→Str→Nat→List Str
 |0,l,_=>[l]
 |n+1,l,i=>if l.length>40 then(if QX l i<0 then[l]else l.take (QX l i).toNat:: fl n (l.drop (QX l i).toNat) 2)else[l]
theorem alP:∀(n:Nat) (l:Str) (i:Nat),1≤i→(fl n l i).length≤l.length+1
 |0,l,i,_=>by simp[fl]
 |n+1,l,i,hi=>by
  rw[fl]
  by_cases c:l.length>40
  ·rw[if_pos c]
   by_cases d:QX l i<0
   ·rw[if_pos d];simp
   ·rw[if_neg d]
    have:=MJ l i
    have h2:=alP n (l.drop (QX l i).toNat) 2 (by omega)
    rw[List.length_drop]at h2
    rw[List.length_cons]
    omega
  ·rw[if_neg c];simp
/-- The lines of a field. -/
def abD (f:Str×Str):Str:=(f.1++[58])++(if f.2=[]then[]else 32:: f.2)
def IC (f:Str×Str):List Str:=fl (abD f).length (abD f) (f.1.length+3)
theorem CO (acc:List Str) (l:Str):acc.map aY++[aY l]=(acc++[l]).map aY:=by rw[List.map_append];rfl
theorem ZO (l:Str) (acc:List Str) (hl:l.length≤1048576) (V:List ByteArray):∀(n i:Nat) (b:Int),n=l.length-1-i→1≤i→i≤1048579→
  Ev (fun k=>if brk l n i b<0 then(if(acc.map aY).length<8796093022208 then(some ((acc.map aY)++[aY l]))else(none))else(if 0≤brk l n i b then(if brk l n i b≤((aY l).size:Int)then(if(acc.map aY).length<8796093022208 then(aZ.l0 k ((aY l).extract (brk l n i b:Int).toNat (aY l).size) 2 ((acc.map aY)++[(aY l).extract 0 (brk l n i b:Int).toNat]))else(none))else(none))else(none))) V→
  Ev (fun k=>aZ.l1 k (aY l) (acc.map aY) b (i:Int)) V:=by
 intro n
 induction n with
 |zero=>
  intro i b hn hi hi2 hE
  have w1:wrap64 ((i:Int)+1)=(i:Int)+1:=aU (by omega) (by omega)
  refine vc ?_
  simp only[aZ.l1,w1]
  clear w1
  rw[brk]at hE
  exact vn (by rw[aC];omega) hE
 |succ n ih=>
  intro i b hn hi hi2 hE
  have w1:wrap64 ((i:Int)+1)=(i:Int)+1:=aU (by omega) (by omega)
  have w2:wrap64 ((i:Int)-1)=(i:Int)-1:=aU (by omega) (by omega)
  have hs:=aC l
  rw[brk]at hE
  have go:=ih (i+1) (vk l i b) (by omega) (by omega) (by omega) hE
  rw[show((i+1:Nat):Int)=(i:Int)+1 by omega]at go
  clear hE ih
  refine vc ?_
  simp only[aZ.l1,w1,w2]
  clear w1 w2
  refine vp (by omega) (vp (by omega) (vp (by omega) ?_))
  by_cases c1:bt (aY l) (i:Int)=32
  ·refine vp c1 (vp (by omega) (vp (by omega) ?_))
   by_cases c2:bt (aY l) ((i:Int)-1)=32
   ·refine vp c2 ?_
    have e:vk l i b=b:=by unfold vk yC;rw[if_neg (by simp[c2])]
    rw[e]at go
    exact go
   ·refine vn c2 (vp (by omega) ?_)
    by_cases c3:bt (aY l) ((i:Int)+1)=32
    ·refine vp c3 ?_
     have e:vk l i b=b:=by unfold vk yC;rw[if_neg (by simp[c3])]
     rw[e]at go
     exact go
    ·refine vn c3 ?_
     by_cases c4:b<0
     ·refine vp c4 ?_
      have e:vk l i b=(i:Int):=by unfold vk yC;rw[if_pos (by simp[c1,c2,c3,c4])]
      rw[e]at go
      exact go
     ·refine vn c4 ?_
      by_cases c5:(i:Int)≤40
      ·refine vp c5 ?_
       have e:vk l i b=(i:Int):=by unfold vk yC;rw[if_pos (by simp[c1,c2,c3];omega)]
       rw[e]at go
       exact go
      ·refine vn c5 ?_
       have e:vk l i b=b:=by unfold vk;rw[if_neg (fun h=>by have:=h.2;omega)]
       rw[e]at go
       exact go
  ·refine vn c1 ?_
   have e:vk l i b=b:=by unfold vk yC;rw[if_neg (by simp[c1])]
   rw[e]at go
   exact go
theorem ZP:∀(n:Nat) (l:Str) (i:Nat) (acc:List Str),l.length≤n→l.length≤1048576→1≤i→i≤1048579→acc.length+l.length≤2000000→Ev (fun k=>aZ.l0 k (aY l) (i:Int) (acc.map aY)) ((acc++fl n l i).map aY):=by
 intro n
 induction n with
 |zero=>
  intro l i acc hn hl hi hi2 ha
  refine vc ?_
  simp only[aZ.l0,aC,List.length_map,fl]
  exact vn (by omega) (vp (by omega) (vq (vs _) (CO acc l)))
 |succ n ih=>
  intro l i acc hn hl hi hi2 ha
  refine vc ?_
  simp only[aZ.l0,fl]
  by_cases c:l.length>40
  ·refine vp (by rw[aC];omega) ?_
   rw[if_pos c]
   have hr:=MJ l i
   refine ZO l acc hl _ (l.length-1-i) i (-1) rfl hi hi2 ?_
   rw[show brk l (l.length-1-i) i (-1)=QX l i from rfl]
   generalize QX l i=t at hr
   by_cases d:t<0
   ·rw[if_pos d]
    exact vp d (vp (by rw[List.length_map];omega) (vq (vs _) (CO acc l)))
   ·rw[if_neg d]
    obtain⟨m,rfl⟩:=Int.eq_ofNat_of_zero_le (a:=t) (by omega)
    have h2:=ih (l.drop m) 2 (acc++[l.take m]) (by rw[List.length_drop];omega) (by rw[List.length_drop];omega) (by omega) (by omega) (by rw[List.length_append,List.length_drop];simp;omega)
    refine vn d (vp (by omega) (vp (by rw[aC];omega) (vp (by rw[List.length_map];omega) ?_)))
    rw[←CO]at h2
    simp only[jZ,aC,Int.toNat_natCast,List.drop_zero,Nat.sub_zero]at h2⊢
    rw[List.take_of_length_le (l:=l.drop m) (by rw[List.length_drop];omega)]
    refine vq h2 ?_
    simp
  ·refine vn (by rw[aC];omega) ?_
   rw[if_neg c]
   exact vp (by rw[List.length_map];omega) (vq (vs _) (CO acc l))
theorem XG:(⟨#[58]⟩:ByteArray)=aY [58]:=rfl
theorem XH:(⟨#[32]⟩:ByteArray)=aY [32]:=rfl
theorem PS (f:Str×Str) (h1:f.1.length≤1000) (h2:f.2.length≤1000):Ev (fun k=>aZ.f k (aY f.1) (aY f.2)) ((IC f).map aY):=by
 obtain⟨a,b⟩:=f
 simp only at h1 h2
 unfold aZ.f IC abD
 have w:wrap64 ((a.length:Int)+3)=((a.length+3:Nat):Int):=by rw[aU (by omega) (by omega)];omega
 simp only[XG,XH,kX,aC,nM,w,List.length_append,List.length_cons,List.length_nil]
 clear w
 have key:∀l:Str,l.length≤3000→Ev (fun k=>aZ.j0 k (aY l) ((a.length+3:Nat):Int)) ((fl l.length l (a.length+3)).map aY):=by
  intro l hl
  refine vc ?_
  simp only[aZ.j0]
  have:=ZP l.length l (a.length+3) [] (Nat.le_refl _) (by omega) (by omega) (by omega) (by simp;omega)
  exact this
 refine vp (by omega) ?_
 by_cases c:b=[]
 ·subst c
  refine vp rfl ?_
  have:=key (a++[58]) (by simp;omega)
  simpa using this
 ·refine vn c (vp (by omega) (vp (by omega) ?_))
  have:=key ((a++[58])++([32]++b)) (by simp;omega)
  rw[if_neg c]
  simpa [Nat.add_assoc,Nat.add_comm,Nat.add_left_comm] using this
theorem adG (l:Str) (hl:l.length≤1048576):∀(n i:Nat) (b:Int),n=l.length-1-i→1≤i→i≤1048579→Ev (fun k=>eY.l0 k (aY l) b (i:Int)) (brk l n i b):=by
 intro n
 induction n with
 |zero=>
  intro i b hn hi hi2
  have w1:wrap64 ((i:Int)+1)=(i:Int)+1:=aU (by omega) (by omega)
  refine vc ?_
  simp only[eY.l0,w1,brk]
  clear w1
  exact vn (by rw[aC];omega) (vs _)
 |succ n ih=>
  intro i b hn hi hi2
  have w1:wrap64 ((i:Int)+1)=(i:Int)+1:=aU (by omega) (by omega)
  have w2:wrap64 ((i:Int)-1)=(i:Int)-1:=aU (by omega) (by omega)
  have hs:=aC l
  have go:=ih (i+1) (vk l i b) (by omega) (by omega) (by omega)
  rw[show((i+1:Nat):Int)=(i:Int)+1 by omega]at go
  rw[brk]
  clear ih
  have jt:vk l i b=b→Ev (fun k=>eY.j1 k (aY l) b (i:Int) true) (brk l n (i+1) (vk l i b)):=fun e=>by
   refine vc ?_
   simp only[eY.j1,w1]
   rw[e]at go⊢
   exact vp (by simp) go
  refine vc ?_
  simp only[eY.l0,w1,w2]
  refine vp (by omega) (vp (by omega) (vp (by omega) ?_))
  by_cases c1:bt (aY l) (i:Int)=32
  ·refine vp c1 (vp (by omega) (vp (by omega) ?_))
   by_cases c2:bt (aY l) ((i:Int)-1)=32
   ·exact vp c2 (jt (by unfold vk yC;rw[if_neg (by simp[c2])]))
   ·refine vn c2 (vp (by omega) ?_)
    by_cases c3:bt (aY l) ((i:Int)+1)=32
    ·rw[show(bt (aY l) ((i:Int)+1)==32)=true by simp[c3]]
     exact jt (by unfold vk yC;rw[if_neg (by simp[c3])])
    ·rw[show(bt (aY l) ((i:Int)+1)==32)=false by simp[c3]]
     refine vc ?_
     simp only[eY.j1,w1]
     clear w1 w2
     refine vn (by simp) ?_
     by_cases c5:(i:Int)≤40
     ·refine vp c5 ?_
      have e:vk l i b=(i:Int):=by unfold vk yC;rw[if_pos (by simp[c1,c2,c3];omega)]
      rw[e]at go⊢
      exact go
     ·refine vn c5 ?_
      by_cases c4:b<0
      ·refine vp c4 ?_
       have e:vk l i b=(i:Int):=by unfold vk yC;rw[if_pos (by simp[c1,c2,c3,c4])]
       rw[e]at go⊢
       exact go
      ·refine vn c4 ?_
       have e:vk l i b=b:=by unfold vk;rw[if_neg (fun h=>by have:=h.2;omega)]
       rw[e]at go⊢
       exact go
  ·exact vn c1 (jt (by unfold vk yC;rw[if_neg (by simp[c1])]))
theorem PU:∀(n:Nat) (l:Str) (i:Nat) (acc:List Str),l.length≤n→l.length≤1048576→1≤i→i≤1048578→acc.length+l.length≤2000000→Ev (fun k=>gJ.l0 k (acc.map aY) (aY l) (i:Int)) ((acc++fl n l (i+1)).map aY):=by
 intro n
 induction n with
 |zero=>
  intro l i acc hn hl hi hi2 ha
  refine vc ?_
  simp only[gJ.l0,aC,List.length_map,fl]
  exact vn (by omega) (vp (by omega) (vq (vs _) (CO acc l)))
 |succ n ih=>
  intro l i acc hn hl hi hi2 ha
  refine vc ?_
  simp only[gJ.l0,fl]
  by_cases c:l.length>40
  ·refine vp (by rw[aC];omega) ?_
   rw[if_pos c]
   have hr:=MJ l (i+1)
   have hb:Ev (fun k=>eY.f k (aY l) (i:Int)) (QX l (i+1)):=by
    unfold eY.f
    rw[show wrap64 ((i:Int)+1)=((i+1:Nat):Int) by rw[aU (by omega) (by omega)];omega]
    exact adG l hl (l.length-1-(i+1)) (i+1) (-1) rfl (by omega) (by omega)
   refine vb hb ?_
   generalize QX l (i+1)=t at hr
   by_cases d:t<0
   ·rw[if_pos d]
    exact vp d (vp (by rw[List.length_map];omega) (vq (vs _) (CO acc l)))
   ·rw[if_neg d]
    obtain⟨m,rfl⟩:=Int.eq_ofNat_of_zero_le (a:=t) (by omega)
    have h2:=ih (l.drop m) 1 (acc++[l.take m]) (by rw[List.length_drop];omega) (by rw[List.length_drop];omega) (by omega) (by omega) (by rw[List.length_append,List.length_drop];simp;omega)
    refine vn d (vp (by omega) (vp (by rw[aC];omega) (vp (by rw[List.length_map];omega) ?_)))
    rw[←CO]at h2
    simp only[jZ,aC,Int.toNat_natCast,List.drop_zero,Nat.sub_zero]at h2⊢
    rw[List.take_of_length_le (l:=l.drop m) (by rw[List.length_drop];omega)]
    refine vq h2 ?_
    simp
  ·refine vn (by rw[aC];omega) ?_
   rw[if_neg c]
   exact vp (by rw[List.length_map];omega) (vq (vs _) (CO acc l))
/-! Fields that are valid. -/
def fv (f:Str×Str):Bool:=KF f.1&&(mF f.2&&(decide (f.2.length≤150)&&decide (trim f.2=f.2)))
def fvs (fs:List (Str×Str)):Bool:=decide (fs.length≤20)&&fs.all fv
theorem adH {f:Str×Str} (h:fv f=true):f.1.length≤30∧f.2.length≤150:=by
 unfold fv at h
 simp only[Bool.and_eq_true,decide_eq_true_iff]at h
 exact⟨abq h.1,h.2.2.1⟩
theorem QY {f:Str×Str} (h:fv f=true):(IC f).length≤183:=by
 have:=adH h
 have h2:=alP (abD f).length (abD f) (f.1.length+3) (by omega)
 have h3:(abD f).length≤f.1.length+2+f.2.length:=by
  unfold abD
  by_cases c:f.2=[]
  ·rw[if_pos c];simp;omega
  ·rw[if_neg c];simp;omega
 unfold IC
 omega
theorem ZQ (l:Str) (hl:l.length≤1000000000):lH.f (aY l) (⟨#[32]⟩:ByteArray)=some (aY (trim l)):=by
 unfold lH.f
 rw[if_pos rfl,if_pos (by rw[aC];omega)]
 rfl
theorem MK (f:Str×Str) (h1:f.1.length≤1048576) (h2:f.2.length≤1048576):Ev (fun k=>rZ.f k (aY f.1) (aY f.2)) (fv f):=by
 unfold rZ.f fv
 refine vb (Jy f.1 (by omega)) ?_
 cases KF f.1 with
 |false=>exact vn (by simp) (vs _)
 |true=>
  refine vp rfl (vb (rV f.2 (by omega)) ?_)
  cases mF f.2 with
  |false=>exact vn (by simp) (vs _)
  |true=>
   refine vp rfl ?_
   rw[aC]
   by_cases c:f.2.length≤150
   ·refine vp (by omega) (jI (ZQ f.2 (by omega)) (vq (vs _) ?_))
    rw[nM,nM,Kq,decide_eq_true c]
    simp
   ·refine vn (by omega) (vq (vs _) ?_)
    rw[decide_eq_false c]
    simp
theorem zC (f:Str×Str) (h1:f.1.length≤1048576) (h2:f.2.length≤1048576):Ev (fun k=>jC.f k (aY f.1) (aY f.2)) (fv f):=by
 unfold jC.f fv
 refine vb (Jz f.1 (by omega)) ?_
 cases KF f.1 with
 |false=>exact vn (by simp) (vs _)
 |true=>
  refine vp rfl (vb (l9 f.2 (by omega)) ?_)
  cases mF f.2 with
  |false=>exact vn (by simp) (vs _)
  |true=>
   refine vp rfl ?_
   rw[aC]
   by_cases c:f.2.length≤150
   ·refine vp (by omega) (vb (rH f.2 (by omega)) (vq (vs _) ?_))
    rw[nM,nM,Kq,decide_eq_true c]
    simp
   ·refine vn (by omega) (vq (vs _) ?_)
    rw[decide_eq_false c]
    simp
theorem IQ (ls:List (Str×Str)) (hs:small ls) (hn:ls.length≤1048576) (r:List (Str×Str)):∀p,ls=p++r→∃v:Int,Ev (fun k=>cO.l0 k (ls.map uU) (ls.length:Int) (p.length:Int)) v∧decide (v≥0)= !(r.all fv):=by
 induction r with
 |nil=>
  intro p h
  have hz:ls.length=p.length:=by rw[h,List.append_nil]
  refine⟨-1,vc ?_,rfl⟩
  simp only[cO.l0]
  exact vn (by omega) (vs _)
 |cons c r ih=>
  intro p h
  have hz:=iV h
  have e1:=yt h
  have hc:=hs c (by rw[h];simp)
  have w1:wrap64 ((p.length:Int)+1)=(p.length:Int)+1:=aU (by omega) (by omega)
  obtain⟨v,hv,hv2⟩:=ih (p++[c]) (by rw[h];simp)
  rw[l7]at hv
  have h1:Ev (fun k=>oQ.f k (aY c.1) (aY c.2)) (!fv c):=vb (MK c hc.1 hc.2) (vs _)
  cases e:fv c with
  |true=>
   rw[e]at h1
   refine⟨v,vc ?_,by rw[hv2,List.all_cons,e];rfl⟩
   simp only[cO.l0,e1,w1,List.length_map]
   clear w1
   exact vp (by omega) (vp (by omega) (vp (by omega) (vb h1 (vn (by simp) hv))))
  |false=>
   rw[e]at h1
   refine⟨p.length,vc ?_,by rw[List.all_cons,e];simp⟩
   simp only[cO.l0,e1,w1,List.length_map]
   clear w1
   exact vp (by omega) (vp (by omega) (vp (by omega) (vb h1 (vp (by simp) (vs _)))))
theorem KN (ls:List (Str×Str)) (hs:small ls) (hn:ls.length≤1048576):Ev (fun k=>o9.f k (ls.map uU)) (fvs ls):=by
 unfold o9.f kF.f cO.f fvs
 rw[List.length_map]
 by_cases c:ls.length≤20
 ·obtain⟨v,hv,hv2⟩:=IQ ls hs hn ls [] rfl
  refine vp (by omega) (vb (vb hv (vs _)) (vq (vs _) ?_))
  rw[hv2,decide_eq_true c]
  simp
 ·refine vn (by omega) (vq (vs _) ?_)
  rw[decide_eq_false c];rfl
theorem PV (ls:List (Str×Str)) (hs:small ls) (hn:ls.length≤1048576) (r:List (Str×Str)):∀p,ls=p++r→Ev (fun k=>ig.l0 k (ls.map uU) (p.length:Int)) (decide (ls.length≤20)&&r.all fv):=by
 have out:∀i:Int,Ev (fun k=>ig.j1 k (ls.map uU) i false) (decide (ls.length≤20)):=fun i=>by
  refine vc ?_
  simp only[ig.j1,List.length_map]
  refine vn (by simp) (vq (vs _) ?_)
  exact decide_eq_decide.mpr (by omega)
 induction r with
 |nil=>
  intro p h
  have hz:ls.length=p.length:=by rw[h,List.append_nil]
  refine vc ?_
  simp only[ig.l0,List.length_map]
  refine vn (by omega) (vq (out _) (by simp))
 |cons c r ih=>
  intro p h
  have hz:=iV h
  have e1:=yt h
  have hc:=hs c (by rw[h];simp)
  have w1:wrap64 ((p.length:Int)+1)=(p.length:Int)+1:=aU (by omega) (by omega)
  have hv:=ih (p++[c]) (by rw[h];simp)
  rw[l7]at hv
  have h1:=zC c hc.1 hc.2
  refine vc ?_
  simp only[ig.l0,List.length_map]
  refine vp (by omega) ?_
  by_cases c2:p.length≤20
  ·rw[show decide ((p.length:Int)≤20)=true from decide_eq_true (by omega)]
   refine vc ?_
   simp only[ig.j1,List.length_map,e1,w1]
   clear w1
   refine vp trivial (vp (by omega) (vp (by omega) (vb h1 ?_)))
   cases e:fv c with
   |true=>exact vp rfl (vq hv (by rw[List.all_cons,e,Bool.true_and]))
   |false=>exact vn (by simp) (vq (vs _) (by rw[List.all_cons,e];simp))
  ·rw[show decide ((p.length:Int)≤20)=false from decide_eq_false (by omega)]
   exact vq (out _) (by rw[decide_eq_false (by omega)];rfl)
theorem CW (ls:List (Str×Str)) (hs:small ls) (hn:ls.length≤1048576):Ev (fun k=>ig.f k (ls.map uU)) (fvs ls):=PV ls hs hn ls [] rfl
theorem JH (ls:List (Str×Str)) (hv:ls.all fv=true) (hn:ls.length≤20) (r:List (Str×Str)):∀(p:List (Str×Str)) (acc:List Str),ls=p++r→acc.length≤183*p.length→Ev (fun k=>jB.l0 k (acc.map aY) (ls.map uU) (ls.length:Int) (p.length:Int)) ((acc++r.flatMap IC).map aY,true):=by
 induction r with
 |nil=>
  intro p acc h ha
  have hz:ls.length=p.length:=by rw[h,List.append_nil]
  refine vc ?_
  simp only[jB.l0]
  exact vn (by omega) (vq (vs _) (by simp))
 |cons c r ih=>
  intro p acc h ha
  have hz:=iV h
  have e1:=yt h
  have hc:fv c=true:=List.all_eq_true.mp hv c (by rw[h];simp)
  have hl:=adH hc
  have hf:=QY hc
  have w1:wrap64 ((p.length:Int)+1)=(p.length:Int)+1:=aU (by omega) (by omega)
  have hv:=ih (p++[c]) (acc++IC c) (by rw[h];simp) (by simp only[List.length_append,List.length_singleton];omega)
  rw[l7,List.map_append]at hv
  refine vc ?_
  simp only[jB.l0,List.length_map,e1,w1]
  clear w1
  exact vp (by omega) (vp (by omega) (vp (by omega) (vb (PS c (by omega) (by omega)) (vp (by simp only[List.length_map];omega) (vq hv (by simp))))))
def folds (ls:List (Str×Str)):List Str:=ls.flatMap IC
theorem QZ (ls:List (Str×Str)) (h:fvs ls=true):(folds ls).length≤3660:=by
 unfold fvs at h
 simp only[Bool.and_eq_true,decide_eq_true_iff]at h
 have key:∀r:List (Str×Str),r.all fv=true→(r.flatMap IC).length≤183*r.length:=by
  intro r
  induction r with
  |nil=>intro _;simp
  |cons c r ih=>
   intro h
   rw[List.all_cons,Bool.and_eq_true]at h
   have:=ih h.2
   have:=QY h.1
   rw[List.flatMap_cons,List.length_append,List.length_cons]
   omega
 have:=key ls h.2
 unfold folds
 omega
theorem zD (ls:List (Str×Str)) (hs:small ls) (hn:ls.length≤1048576):Ev (fun k=>jB.f k (ls.map uU)) (if fvs ls=true then((folds ls).map aY,true)else([],false)):=by
 unfold jB.f
 refine vb (KN ls hs hn) ?_
 cases e:fvs ls with
 |false=>exact vn (by simp) (vs _)
 |true=>
  rw[List.length_map]
  unfold fvs at e
  simp only[Bool.and_eq_true,decide_eq_true_iff]at e
  exact vp rfl (JH ls e.2 e.1 ls [] [] rfl (by simp))
theorem PW (f:Str×Str) (hf:fv f=true):Ev (fun k=>gJ.f k (aY f.1) (aY f.2)) ((IC f).map aY):=by
 have hl:=adH hf
 have hx:=zC f (by omega) (by omega)
 rw[hf]at hx
 obtain⟨a,b⟩:=f
 simp only at hl
 unfold gJ.f IC abD
 have key:∀l:Str,l.length≤3000→Ev (fun k=>gJ.j0 k [] (aY l) ((a.length+2:Nat):Int)) ((fl l.length l (a.length+3)).map aY):=by
  intro l hl
  refine vc ?_
  simp only[gJ.j0]
  have:=PU l.length l (a.length+2) [] (Nat.le_refl _) (by omega) (by omega) (by omega) (by simp;omega)
  exact this
 refine vb (vs _) (vb hx (vp rfl ?_))
 have w:wrap64 (((a.length+1:Nat):Int)+1)=((a.length+2:Nat):Int):=by rw[aU (by omega) (by omega)];omega
 simp only[XG,XH,kX,aC,nM,List.length_append,List.length_cons,List.length_nil]
 refine vp (by omega) ?_
 by_cases c:b=[]
 ·subst c
  refine vp rfl ?_
  refine vc ?_
  simp only[gJ.j0]
  have:=PU (a++[58]).length (a++[58]) (a.length+1) [] (Nat.le_refl _) (by simp;omega) (by omega) (by omega) (by simp;omega)
  have e:fl (a++[58]).length (a++[58]) (a.length+1+1)=fl (a++[58]).length (a++[58]) (a.length+3):=by
   have g:∀(n i j:Nat),fl n (a++[58]) i=fl n (a++[58]) j:=fun n i j=>by
    cases n with
    |zero=>rfl
    |succ n=>rw[fl,fl,if_neg (by simp;omega),if_neg (by simp;omega)]
   exact g _ _ _
  rw[e]at this
  simpa using this
 ·refine vn c (vp (by omega) (vp (by omega) ?_))
  have:=key ((a++[58])++[32]++b) (by simp;omega)
  rw[if_neg c,w]
  simpa [Nat.add_assoc,Nat.add_comm,Nat.add_left_comm] using this
theorem JI (ls:List (Str×Str)) (hv:ls.all fv=true) (hn:ls.length≤20) (r:List (Str×Str)):∀(p:List (Str×Str)) (acc:List Str),ls=p++r→acc.length≤183*p.length→Ev (fun k=>ji.l0 k (ls.map uU) (acc.map aY) (p.length:Int)) ((acc++r.flatMap IC).map aY,true):=by
 induction r with
 |nil=>
  intro p acc h ha
  have hz:ls.length=p.length:=by rw[h,List.append_nil]
  refine vc ?_
  simp only[ji.l0,List.length_map]
  exact vn (by omega) (vq (vs _) (by simp))
 |cons c r ih=>
  intro p acc h ha
  have hz:=iV h
  have e1:=yt h
  have hc:fv c=true:=List.all_eq_true.mp hv c (by rw[h];simp)
  have hf:=QY hc
  have w1:wrap64 ((p.length:Int)+1)=(p.length:Int)+1:=aU (by omega) (by omega)
  have hv:=ih (p++[c]) (acc++IC c) (by rw[h];simp) (by simp only[List.length_append,List.length_singleton];omega)
  rw[l7,List.map_append]at hv
  refine vc ?_
  simp only[ji.l0,List.length_map,e1,w1]
  clear w1
  exact vp (by omega) (vp (by omega) (vb (PW c hc) (vp (by simp only[List.length_map];omega) (vq hv (by simp)))))
theorem ML (ls:List (Str×Str)) (hs:small ls) (hn:ls.length≤1048576):Ev (fun k=>ji.f k (ls.map uU)) (if fvs ls=true then((folds ls).map aY,true)else([],false)):=by
 unfold ji.f
 refine vb (vs _) (vb (CW ls hs hn) ?_)
 cases e:fvs ls with
 |false=>exact vn (by simp) (vs _)
 |true=>
  unfold fvs at e
  simp only[Bool.and_eq_true,decide_eq_true_iff]at e
  exact vp rfl (JI ls e.2 e.1 ls [] [] rfl (by simp))
/-! The boundary of a part. -/
def ctype:Str:=[67,111,110,116,101,110,116,45,84,121,112,101]
def bF (fs:List (Str×Str)):Str×Bool:=match pk (BO fs ctype).1 with
 |none=>([],false)
 |some x=>SQ x.1 x.2.1 x.2.2
theorem XI:(⟨#[67,111,110,116,101,110,116,45,84,121,112,101]⟩:ByteArray)=aY ctype:=rfl
theorem ZR {fs:List (Str×Str)} (h:(bF fs).2=true):Jw (bF fs).1=true:=by
 unfold bF at h⊢
 cases e:pk (BO fs ctype).1 with
 |none=>rw[e]at h;cases h
 |some x=>
  rw[e]at h
  simp only at h⊢
  unfold SQ at h⊢
  by_cases c:yu x.1 x.2.1 x.2.2=true∧x.1=multi∧Jw (BO x.2.2 bnd).1=true
  ·rw[if_pos c];exact c.2.2
  ·rw[if_neg c]at h;cases h
theorem auP:pk []=none:=by decide
theorem JJ {l:Str} (h:isSmall l=true):l.length≤30:=by
 unfold isSmall at h
 rw[Bool.and_eq_true]at h
 exact abq h.1
theorem abE {s:Str} {x:Str×Str×List (Str×Str)} (h:pk s=some x):x.1.length≤1048576∧x.2.1.length≤1048576∧Es x.2.2≤1048576∧x.2.2.length≤1048576:=by
 obtain⟨a,b,ps⟩:=x
 have hv:=alK h
 have h1:=Pz hv
 have h2:=agC ps [] h1.2.2.2.1
 have key:∀q:List (Str×Str),(∀p∈q,isSmall p.1=true∧mF p.2=true∧p.2.length≤40)→Es q≤70*q.length:=by
  intro q
  induction q with
  |nil=>intro _;simp[Es]
  |cons c q ih=>
   intro h
   have h3:=h c (by simp)
   have h4:=ih fun p hp=>h p (by simp[hp])
   have h5:=JJ h3.1
   rw[Es,List.length_cons]
   omega
 have h3:=key ps h2
 have h4:=JJ h1.1
 have h5:=JJ h1.2.1
 refine⟨?_,?_,?_,?_⟩<;>(simp only;omega)
theorem IU (fs:List (Str×Str)) (hs:small fs) (hn:fs.length≤1048576) (bb:List ByteArray) (kk:List jV):Ev (fun k=>lG.f k (fs.map uU) bb kk) (aY (bF fs).1,(bF fs).2):=by
 unfold lG.f bF
 rw[XI]
 refine vb (GK fs ctype hs (by decide) hn) (vb (Py _ (Ib fs ctype hs)) ?_)
 cases e:pk (BO fs ctype).1 with
 |none=>exact vn (by simp[SS]) (vs _)
 |some x=>
  have hx:=abE e
  exact vp rfl (vb (MF x.1 x.2.1 x.2.2 hx.1 hx.2.1 hx.2.2.1 hx.2.2.2) (vs _))
theorem EJ (fs:List (Str×Str)) (hs:small fs) (hn:fs.length≤1048576):Ev (fun k=>kW.f k (fs.map uU)) (aY (bF fs).1,(bF fs).2):=by
 unfold kW.f
 rw[XI]
 refine vb (GL fs ctype hs (by decide) hn) (vb (PG _ (Ib fs ctype hs)) ?_)
 unfold bF
 cases e:pk (BO fs ctype).1 with
 |none=>
  refine vb (ED [] [] [] (by simp) (by simp) (by simp[Es]) (by simp)) ?_
  cases (BO fs ctype).2 with
  |true=>exact vp rfl (vn (by simp[SS]) (vs _))
  |false=>exact vn (by simp) (vs _)
 |some x=>
  have hx:=abE e
  refine vb (ED x.1 x.2.1 x.2.2 hx.1 hx.2.1 hx.2.2.1 hx.2.2.2) ?_
  cases g:(BO fs ctype).2 with
  |true=>exact vp rfl (vp rfl (vs _))
  |false=>rw[Xx fs ctype g,auP]at e;cases e
/-! The lines of a part. -/
def kl (g:Pt→Option (List Str)):List Pt→Option (List (List Str))
 |[]=>some []
 |p:: r=>match g p with
  |none=>none
  |some a=>(kl g r).map (a:: ·)
def tbs (b:List Str):Bool:=decide (b.length≤30)&&b.all mF
def head (f:List (Str×Str)):List Str:=folds f++[[]]
def lines:Nat→Pt→Option (List Str)
 |0,_=>none
 |d+1, .mk f b k=>if fvs f=true then(if(bF f).2=true then(if b=[]∧1≤k.length∧k.length≤4 then(match kl (lines d) k with
   |none=>none
   |some ls=>(jR (bF f).1 ls).map (head f++ ·))else none)else(if k=[]∧tbs b=true then some (head f++b)else none))else none
theorem adI {g:Pt→Option (List Str)} {N:Nat}:∀{k:List Pt} {ls:List (List Str)},kl g k=some ls→(∀p∈k,∀a,g p=some a→a.length≤N)→ls.length=k.length∧tl ls≤(N+1)*k.length
 |[],ls,h,_=>by
  rw[kl]at h
  cases h
  simp[tl]
 |p:: r,ls,h,hN=>by
  rw[kl]at h
  cases e:g p with
  |none=>rw[e]at h;cases h
  |some a=>
   rw[e]at h
   cases e2:kl g r with
   |none=>rw[e2]at h;cases h
   |some l=>
    rw[e2]at h
    cases h
    have h1:=adI e2 fun q hq=>hN q (by simp[hq])
    have h2:=hN p (by simp) a e
    rw[List.length_cons,List.length_cons,tl,Nat.mul_succ]
    omega
def lN:Nat→Nat
 |0=>4000
 |d+1=>4*lN d+4000
theorem alQ {d:Nat} (h:d≤3):lN d≤500000:=by
 rcases d with _|_|_|_|d
 ·decide
 ·decide
 ·decide
 ·decide
 ·omega
theorem adJ {b:Str} {ps:List (List Str)} {s:List Str} (h:jR b ps=some s):s.length=tl ps+1:=by
 unfold jR at h
 split at h
 ·cases h
  rw[List.length_append,VD]
  rfl
 ·cases h
theorem VE {f:List (Str×Str)} (h:fvs f=true):(head f).length≤3661:=by
 have:=QZ f h
 unfold head
 rw[List.length_append,List.length_singleton]
 omega
theorem GV:∀(d:Nat) (p:Pt) (ls:List Str),lines d p=some ls→ls.length≤lN d
 |0,p,ls,h=>by rw[lines]at h;cases h
 |d+1, .mk f b k,ls,h=>by
  rw[lines]at h
  by_cases c:fvs f=true
  ·rw[if_pos c]at h
   have h1:=VE c
   by_cases c1:(bF f).2=true
   ·rw[if_pos c1]at h
    by_cases c2:b=[]∧1≤k.length∧k.length≤4
    ·rw[if_pos c2]at h
     cases e:kl (lines d) k with
     |none=>rw[e]at h;cases h
     |some l=>
      rw[e]at h
      simp only at h
      have h2:=adI e (N:=lN d) fun p _ a h=>GV d p a h
      cases e2:jR (bF f).1 l with
      |none=>rw[e2]at h;cases h
      |some s=>
       rw[e2]at h
       cases h
       have h3:=adJ e2
       have h4:(lN d+1)*k.length≤(lN d+1)*4:=Nat.mul_le_mul_left _ c2.2.2
       rw[List.length_append,lN]
       omega
    ·rw[if_neg c2]at h;cases h
   ·rw[if_neg c1]at h
    by_cases c2:k=[]∧tbs b=true
    ·rw[if_pos c2]at h
     cases h
     have h2:=c2.2
     unfold tbs at h2
     simp only[Bool.and_eq_true,decide_eq_true_iff]at h2
     rw[List.length_append,lN]
     omega
    ·rw[if_neg c2]at h;cases h
  ·rw[if_neg c]at h;cases h
theorem MN (ls:List Str) (hs:∀x∈ls,x.length≤1048576) (hn:ls.length≤1048576) (r:List Str):∀p,ls=p++r→∃v:Int,Ev (fun k=>aV.l0 k (ls.map aY) (ls.length:Int) (p.length:Int)) v∧decide (v≥0)= !(r.all mF):=by
 induction r with
 |nil=>
  intro p h
  have hz:ls.length=p.length:=by rw[h,List.append_nil]
  refine⟨-1,vc ?_,rfl⟩
  simp only[aV.l0]
  exact vn (by omega) (vs _)
 |cons c r ih=>
  intro p h
  have hz:=iV h
  have e1:=yY h
  have hc:=hs c (by rw[h];simp)
  have w1:wrap64 ((p.length:Int)+1)=(p.length:Int)+1:=aU (by omega) (by omega)
  obtain⟨v,hv,hv2⟩:=ih (p++[c]) (by rw[h];simp)
  rw[l7]at hv
  have h1:Ev (fun k=>rY.f k (aY c)) (!mF c):=vb (rV c (by omega)) (vs _)
  cases e:mF c with
  |true=>
   rw[e]at h1
   refine⟨v,vc ?_,by rw[hv2,List.all_cons,e];rfl⟩
   simp only[aV.l0,e1,w1,List.length_map]
   clear w1
   exact vp (by omega) (vp (by omega) (vp (by omega) (vb h1 (vn (by simp) hv))))
  |false=>
   rw[e]at h1
   refine⟨p.length,vc ?_,by rw[List.all_cons,e];simp⟩
   simp only[aV.l0,e1,w1,List.length_map]
   clear w1
   exact vp (by omega) (vp (by omega) (vp (by omega) (vb h1 (vp (by simp) (vs _)))))
theorem Q5 (ls:List Str) (hs:∀x∈ls,x.length≤1048576) (hn:ls.length≤1048576):Ev (fun k=>tu.f k (ls.map aY) 30) (tbs ls):=by
 unfold tu.f fV.f aV.f tbs
 rw[List.length_map]
 by_cases c:ls.length≤30
 ·obtain⟨v,hv,hv2⟩:=MN ls hs hn ls [] rfl
  refine vp (by omega) (vb (vb hv (vs _)) (vq (vs _) ?_))
  rw[hv2,decide_eq_true c]
  simp
 ·refine vn (by omega) (vq (vs _) ?_)
  rw[decide_eq_false c];rfl
def lr (o:Option (List Str)) (v:List ByteArray×Bool):Prop:=match o with
 |some ls=>v=(ls.map aY,true)
 |none=>v.2=false
theorem yJ {f:List (Str×Str)} {b:List Str} {k:List Pt} (h:Et (.mk f b k)≤1048576):small f∧f.length≤1048576∧(∀x∈b,x.length≤1048576)∧b.length≤1048576∧k.length≤1048576∧∀p∈k,Et p≤1048576:=by
 rw[Et]at h
 exact⟨GI (by omega),by omega,fun x hx=>by have:=ZI hx;omega,by omega,by omega,fun p hp=>by have:=Gx hp;omega⟩
theorem abG (f:List (Str×Str)):(folds f).map aY++[(⟨#[]⟩:ByteArray)]=(head f).map aY:=by
 unfold head
 rw[List.map_append]
 rfl
theorem abH (acc:List (List Str)) (l:List Str):acc.map (List.map aY)++[l.map aY]=(acc++[l]).map (List.map aY):=by rw[List.map_append];rfl
theorem S_:∀(d:Nat) (p:Pt),d≤3→Et p≤1048576→∃v,Ev (fun k=>aT.f k (e32 p).f0 (e32 p).f1 (e32 p).f2 (d:Int)) v∧lr (lines d p) v:=by
 have bad:∀(d:Int) (X:List ByteArray) (F:List fP) (B:List ByteArray) (K:List jV),Ev (fun k=>aT.j0 k d X true F B K) ([],false):=fun d X F B K=>by
  refine vc ?_
  simp only[aT.j0]
  exact vp trivial (vs _)
 intro d
 induction d with
 |zero=>
  intro p hd hp
  obtain⟨f,b,k⟩:=p
  obtain⟨hf,hfn,-⟩:=yJ hp
  simp only[vS]
  refine⟨([],false),vc ?_,rfl⟩
  simp only[aT.f]
  refine vb (zD f hf hfn) ?_
  by_cases c:fvs f=true
  ·rw[if_pos c]
   exact vp rfl (bad _ _ _ _ _)
  ·rw[if_neg c]
   exact vn (by simp) (bad _ _ _ _ _)
 |succ d ih=>
  intro p hd hp
  obtain⟨f,b,k⟩:=p
  obtain⟨hf,hfn,hb,hbn,hkn,hk⟩:=yJ hp
  simp only[vS]
  rw[lines]
  by_cases c:fvs f=true
  case neg=>
   rw[if_neg c]
   refine⟨([],false),vc ?_,rfl⟩
   simp only[aT.f]
   refine vb (zD f hf hfn) ?_
   rw[if_neg c]
   exact vn (by simp) (bad _ _ _ _ _)
  rw[if_pos c]
  have hh:=VE c
  have hfo:=QZ f c
  have go:∀v,Ev (fun n=>if(bF f).2=true then(if(b.length:Int)>0 then aT.j1 n ((d+1:Nat):Int) ((head f).map aY) (aY (bF f).1) true (f.map uU) (b.map aY) (k.map e32)else(if(k.length:Int)<1 then aT.j1 n ((d+1:Nat):Int) ((head f).map aY) (aY (bF f).1) true (f.map uU) (b.map aY) (k.map e32)else aT.j1 n ((d+1:Nat):Int) ((head f).map aY) (aY (bF f).1) (decide ((k.length:Int)>4)) (f.map uU) (b.map aY) (k.map e32)))else(if((head f).map aY).length+(b.map aY).length<8796093022208 then(some ((head f).map aY++b.map aY:List ByteArray)).bind fun y=>(if(k.length:Int)=0 then((tu.f n (b.map aY) 30).bind fun t=>some (y,t))else some (y,false))else none)) v→Ev (fun n=>aT.f n (f.map uU) (b.map aY) (k.map e32) ((d+1:Nat):Int)) v:=by
   intro v hv
   refine vc ?_
   simp only[aT.f]
   refine vb (zD f hf hfn) ?_
   rw[if_pos c]
   refine vp rfl ?_
   rw[show(((d+1:Nat):Int)==0)=false by simp;omega]
   refine vc ?_
   simp only[aT.j0]
   refine vn (by simp) (vp (by rw[List.length_map];omega) (vb (vs _) (vb (IU f hf hfn _ _) ?_)))
   rw[abG]
   simp only[List.length_map]at hv⊢
   exact hv
  have adK:∀(X:List ByteArray) (B:ByteArray),Ev (fun n=>aT.j1 n ((d+1:Nat):Int) X B true (f.map uU) (b.map aY) (k.map e32)) ([],false):=fun X B=>by
   refine vc ?_
   simp only[aT.j1]
   exact vp trivial (vs _)
  by_cases c1:(bF f).2=true
  ·rw[if_pos c1]
   by_cases c2:b=[]∧1≤k.length∧k.length≤4
   ·rw[if_pos c2]
    obtain⟨rfl,hk1,hk4⟩:=c2
    have hbd:=Vm (ZR c1)
    have hN:=alQ (d:=d) (by omega)
    have key:∀(r p:List Pt) (acc:List (List Str)),k=p++r→acc.length=p.length→tl acc≤(lN d+1)*p.length→∃v,Ev (fun n=>aT.l0 n ((d+1:Nat):Int) ((head f).map aY) (aY (bF f).1) (acc.map (List.map aY)) (k.map e32) (k.length:Int) (p.length:Int)) v∧lr (match kl (lines d) r with
      |none=>none
      |some ls=>(jR (bF f).1 (acc++ls)).map (head f++ ·)) v:=by
     intro r
     induction r with
     |nil=>
      intro p acc h ha ht
      have hz:k.length=p.length:=by rw[h,List.append_nil]
      have ht2:(lN d+1)*p.length≤(lN d+1)*4:=Nat.mul_le_mul_left _ (by omega)
      have hj:=PK acc (bF f).1 (by omega) (by omega)
      rw[kl]
      simp only[List.append_nil]
      cases e:jR (bF f).1 acc with
      |none=>
       rw[e]at hj
       refine⟨((head f).map aY++[],false),vc ?_,rfl⟩
       simp only[aT.l0]
       exact vn (by omega) (vb hj (vp (by rw[List.length_map];simp only[QW,List.length_nil];omega) (vs _)))
      |some s=>
       rw[e]at hj
       have hs:=adJ e
       refine⟨((head f).map aY++s.map aY,true),vc ?_,by simp[lr]⟩
       simp only[aT.l0]
       exact vn (by omega) (vb hj (vp (by rw[List.length_map];simp only[QW,List.length_map];omega) (vs _)))
     |cons q r ihr=>
      intro p acc h ha ht
      have hz:=iV h
      have e1:=AQ h
      have w1:wrap64 ((p.length:Int)+1)=(p.length:Int)+1:=aU (by omega) (by omega)
      have w2:wrap64 (((d+1:Nat):Int)-1)=(d:Int):=by rw[aU (by omega) (by omega)];omega
      obtain⟨u,hu,hr⟩:=ih q (by omega) (hk q (by rw[h];simp))
      rw[kl]
      cases e:lines d q with
      |none=>
       rw[e]at hr
       refine⟨([],false),vc ?_,rfl⟩
       simp only[aT.l0,List.length_map,e1,w1,w2]
       clear w1 w2
       exact vp (by omega) (vp (by omega) (vp (by omega) (vb hu (vn (by rw[show u.2=false from hr];simp) (vs _)))))
      |some a=>
       rw[e]at hr
       have hr:u=(a.map aY,true):=hr
       subst hr
       have hla:=GV d q a e
       obtain⟨v,hv,hv2⟩:=ihr (p++[q]) (acc++[a]) (by rw[h];simp) (by simp[ha]) (by rw[Gz,List.length_append,List.length_singleton,Nat.mul_add];simp only[tl];omega)
       rw[l7,←abH]at hv
       refine⟨v,vc ?_,?_⟩
       ·simp only[aT.l0,List.length_map,e1,w1,w2]
        clear w1 w2
        exact vp (by omega) (vp (by omega) (vp (by omega) (vb hu (vp rfl (vp (by omega) hv)))))
       ·simp only
        cases e2:kl (lines d) r with
        |none=>rw[e2]at hv2;exact hv2
        |some l=>
         rw[e2]at hv2
         simpa using hv2
    obtain⟨v,hv,hv2⟩:=key k [] [] rfl rfl (by simp[tl])
    refine⟨v,go v (vp c1 (vn (by simp) (vn (by omega) ?_))),hv2⟩
    rw[show decide ((k.length:Int)>4)=false from decide_eq_false (by omega)]
    refine vc ?_
    simp only[aT.j1,List.length_map]
    exact vn (by simp) hv
   ·rw[if_neg c2]
    refine⟨([],false),go _ (vp c1 ?_),rfl⟩
    by_cases c3:(b.length:Int)>0
    ·exact vp c3 (adK _ _)
    ·refine vn c3 ?_
     have hb0:b=[]:=List.length_eq_zero_iff.mp (by omega)
     by_cases c4:(k.length:Int)<1
     ·exact vp c4 (adK _ _)
     ·refine vn c4 ?_
      rw[show decide ((k.length:Int)>4)=true from decide_eq_true (by
       apply Classical.byContradiction
       intro h
       exact c2 ⟨hb0,by omega,by omega⟩)]
      exact adK _ _
  ·rw[if_neg c1]
   have hlen:((head f).map aY).length+(b.map aY).length<8796093022208:=by simp only[List.length_map];omega
   by_cases c3:k=[]
   ·subst c3
    refine⟨((head f).map aY++b.map aY,tbs b),go _ (vn c1 (vp hlen (vb (vs _) (vp rfl (vb (Q5 b hb hbn) (vs _)))))),?_⟩
    cases e:tbs b with
    |true=>simp[lr]
    |false=>simp[lr]
   ·have hk0:¬(k.length:Int)=0:=fun h=>c3 (List.length_eq_zero_iff.mp (by omega))
    refine⟨((head f).map aY++b.map aY,false),go _ (vn c1 (vp hlen (vb (vs _) (vn hk0 (vs _))))),?_⟩
    rw[if_neg (fun h=>c3 h.1)]
    rfl
theorem AV (p:Pt) (hp:Et p≤1048576):Ev (fun k=>kG.f k (e32 p).f0 (e32 p).f1 (e32 p).f2) (lines 3 p).isSome:=by
 unfold kG.f
 obtain⟨v,hv,hr⟩:=S_ 3 p (by omega) hp
 refine vb hv (vq (vs _) ?_)
 cases e:lines 3 p with
 |none=>rw[e]at hr;exact hr
 |some ls=>
  rw[e]at hr
  rw[show v=_ from hr]
  rfl
/-! The reference's lines of a part, and whether it is valid. -/
theorem Q7:∀(d:Nat) (p:Pt) (ls:List Str),d≤3→Et p≤1048576→lines d p=some ls→Ev (fun k=>jQ.f k (e32 p).f0 (e32 p).f1 (e32 p).f2) (ls.map aY):=by
 intro d
 induction d with
 |zero=>intro p ls hd hp h;rw[lines]at h;cases h
 |succ d ih=>
  intro p ls hd hp h
  obtain⟨f,b,k⟩:=p
  obtain⟨hf,hfn,hb,hbn,hkn,hk⟩:=yJ hp
  simp only[vS]
  rw[lines]at h
  by_cases c:fvs f=true
  case neg=>rw[if_neg c]at h;cases h
  rw[if_pos c]at h
  have hh:=VE c
  have hfo:=QZ f c
  refine vc ?_
  simp only[jQ.f]
  refine vb (ML f hf hfn) ?_
  rw[if_pos c]
  refine vp (by rw[List.length_map];omega) (vb (vs _) (vb (EJ f hf hfn) ?_))
  simp only[abG]
  by_cases c1:(bF f).2=true
  ·rw[if_pos c1]at h
   by_cases c2:b=[]∧1≤k.length∧k.length≤4
   case neg=>rw[if_neg c2]at h;cases h
   rw[if_pos c2]at h
   obtain⟨rfl,hk1,hk4⟩:=c2
   have hbd:=Vm (ZR c1)
   have hN:=alQ (d:=d) (by omega)
   cases e:kl (lines d) k with
   |none=>rw[e]at h;cases h
   |some l=>
   rw[e]at h
   simp only at h
   cases e2:jR (bF f).1 l with
   |none=>rw[e2]at h;cases h
   |some s=>
   rw[e2]at h
   cases h
   have key:∀(r p:List Pt) (acc m:List (List Str)),k=p++r→acc.length=p.length→tl acc≤(lN d+1)*p.length→kl (lines d) r=some m→l=acc++m→Ev (fun n=>jQ.l0 n ((head f).map aY) (aY (bF f).1) (acc.map (List.map aY)) (p.length:Int) (f.map uU) (([]:List Str).map aY) (k.map e32)) ((head f++s).map aY):=by
    intro r
    induction r with
    |nil=>
     intro p acc m h ha ht hm hl
     have hz:k.length=p.length:=by rw[h,List.append_nil]
     have ht2:(lN d+1)*p.length≤(lN d+1)*4:=Nat.mul_le_mul_left _ (by omega)
     rw[kl]at hm
     cases hm
     rw[List.append_nil]at hl
     subst hl
     have hj:=PO l (bF f).1 (by omega) (by omega)
     rw[e2]at hj
     have hs:=adJ e2
     refine vc ?_
     simp only[jQ.l0,List.length_map]
     exact vn (by omega) (vb hj (vp (by simp only[QW,List.length_map];omega) (vq (vs _) (by simp[QW]))))
    |cons q r ihr=>
     intro p acc m h ha ht hm hl
     have hz:=iV h
     have e1:=AQ h
     have w1:wrap64 ((p.length:Int)+1)=(p.length:Int)+1:=aU (by omega) (by omega)
     rw[kl]at hm
     cases e3:lines d q with
     |none=>rw[e3]at hm;cases hm
     |some a=>
     rw[e3]at hm
     cases e4:kl (lines d) r with
     |none=>rw[e4]at hm;cases hm
     |some m2=>
     rw[e4]at hm
     cases hm
     have hu:=ih q a (by omega) (hk q (by rw[h];simp)) e3
     have hla:=GV d q a e3
     have hv:=ihr (p++[q]) (acc++[a]) m2 (by rw[h];simp) (by simp[ha]) (by rw[Gz,List.length_append,List.length_singleton,Nat.mul_add];simp only[tl];omega) e4 (by rw[hl];simp)
     rw[l7,←abH]at hv
     refine vc ?_
     simp only[jQ.l0,List.length_map,e1,w1]
     clear w1
     exact vp (by omega) (vp (by omega) (vb hu (vp (by omega) hv)))
   exact vp c1 (key k [] [] l rfl rfl (by simp[tl]) e rfl)
  ·rw[if_neg c1]at h
   by_cases c2:k=[]∧tbs b=true
   case neg=>rw[if_neg c2]at h;cases h
   rw[if_pos c2]at h
   cases h
   refine vn c1 (vp (by simp only[List.length_map];omega) (vq (vs _) ?_))
   rw[List.map_append]
theorem Q8 (ls:List Str) (hs:∀x∈ls,x.length≤1048576) (hn:ls.length≤1048576) (r:List Str):∀p,ls=p++r→Ev (fun k=>iZ.l0 k (ls.map aY) (p.length:Int)) (decide (ls.length≤30)&&r.all mF):=by
 have out:∀i:Int,Ev (fun k=>iZ.j1 k (ls.map aY) i false) (decide (ls.length≤30)):=fun i=>by
  refine vc ?_
  simp only[iZ.j1,List.length_map]
  refine vn (by simp) (vq (vs _) ?_)
  exact decide_eq_decide.mpr (by omega)
 induction r with
 |nil=>
  intro p h
  have hz:ls.length=p.length:=by rw[h,List.append_nil]
  refine vc ?_
  simp only[iZ.l0,List.length_map]
  refine vn (by omega) (vq (out _) (by simp))
 |cons c r ih=>
  intro p h
  have hz:=iV h
  have e1:=yY h
  have hc:=hs c (by rw[h];simp)
  have w1:wrap64 ((p.length:Int)+1)=(p.length:Int)+1:=aU (by omega) (by omega)
  have hv:=ih (p++[c]) (by rw[h];simp)
  rw[l7]at hv
  have h1:=l9 c (by omega)
  refine vc ?_
  simp only[iZ.l0,List.length_map]
  refine vp (by omega) ?_
  by_cases c2:p.length≤30
  ·rw[show decide ((p.length:Int)≤30)=true from decide_eq_true (by omega)]
   refine vc ?_
   simp only[iZ.j1,List.length_map,e1,w1]
   clear w1
   refine vp trivial (vp (by omega) (vp (by omega) (vb h1 ?_)))
   cases e:mF c with
   |true=>exact vp rfl (vq hv (by rw[List.all_cons,e,Bool.true_and]))
   |false=>exact vn (by simp) (vq (vs _) (by rw[List.all_cons,e];simp))
  ·rw[show decide ((p.length:Int)≤30)=false from decide_eq_false (by omega)]
   exact vq (out _) (by rw[decide_eq_false (by omega)];rfl)
theorem JK (ls:List Str) (hs:∀x∈ls,x.length≤1048576) (hn:ls.length≤1048576):Ev (fun k=>iZ.f k (ls.map aY)) (tbs ls):=Q8 ls hs hn ls [] rfl
theorem adL (b:Str) (hb:b.length≤100) (d x7:Int) (F:List fP) (B:List ByteArray) (K:List jV) (ls:List Str) (hn:ls.length≤1048576) (V:Bool) (h1:dv ls b=true→V=false) (h2:dv ls b=false→Ev (fun n=>bH.l0 n d (aY b) (wrap64 (x7+1)) F B K) V):Ev (fun n=>bH.l1 n d (aY b) x7 (ls.map aY) 0 F B K) V:=by
 rw[arB]at h1 h2
 have key:∀(r p:List Str),ls=p++r→(r.any (fun l=>lk l b)=true→V=false)→(r.any (fun l=>lk l b)=false→Ev (fun n=>bH.l0 n d (aY b) (wrap64 (x7+1)) F B K) V)→Ev (fun n=>bH.l1 n d (aY b) x7 (ls.map aY) (p.length:Int) F B K) V:=by
  intro r
  induction r with
  |nil=>
   intro p h g1 g2
   have hz:ls.length=p.length:=by rw[h,List.append_nil]
   refine vc ?_
   simp only[bH.l1,List.length_map]
   exact vn (by omega) (g2 rfl)
  |cons c r ih=>
   intro p h g1 g2
   have hz:=iV h
   have e1:=yY h
   have w1:wrap64 ((p.length:Int)+1)=(p.length:Int)+1:=aU (by omega) (by omega)
   refine vc ?_
   simp only[bH.l1,List.length_map,e1,w1]
   clear w1
   refine vp (by omega) (vp (by omega) (jI (IB c b (by omega)) ?_))
   cases e:lk c b with
   |true=>
    refine vp rfl (vq (vs _) (g1 ?_).symm)
    rw[List.any_cons,e];rfl
   |false=>
    have:=ih (p++[c]) (by rw[h];simp) (fun g=>g1 (by rw[List.any_cons,e];exact g)) (fun g=>g2 (by rw[List.any_cons,e];exact g))
    rw[l7]at this
    exact vn (by simp) this
 exact key ls [] rfl h1 h2
theorem Tc:∀(d:Nat) (p:Pt),d≤3→Et p≤1048576→Ev (fun k=>bH.f k (e32 p).f0 (e32 p).f1 (e32 p).f2 (d:Int)) (lines d p).isSome:=by
 have bad:∀(d:Int) (F:List fP) (B:List ByteArray) (K:List jV),Ev (fun k=>bH.j0 k d true F B K) false:=fun d F B K=>by
  refine vc ?_
  simp only[bH.j0]
  exact vp trivial (vs _)
 intro d
 induction d with
 |zero=>
  intro p hd hp
  obtain⟨f,b,k⟩:=p
  obtain⟨hf,hfn,-⟩:=yJ hp
  simp only[vS]
  refine vc ?_
  simp only[bH.f]
  refine vb (CW f hf hfn) ?_
  by_cases c:fvs f=true
  ·exact vp c (bad _ _ _ _)
  ·exact vn c (bad _ _ _ _)
 |succ d ih=>
  intro p hd hp
  obtain⟨f,b,k⟩:=p
  obtain⟨hf,hfn,hb,hbn,hkn,hk⟩:=yJ hp
  simp only[vS]
  rw[lines]
  refine vc ?_
  simp only[bH.f]
  refine vb (CW f hf hfn) ?_
  by_cases c:fvs f=true
  case neg=>
   rw[if_neg c]
   exact vn c (bad _ _ _ _)
  rw[if_pos c]
  refine vp c ?_
  rw[show decide (((d+1:Nat):Int)<1)=false from decide_eq_false (by omega)]
  refine vc ?_
  simp only[bH.j0,List.length_map]
  refine vn (by simp) (vb (EJ f hf hfn) ?_)
  have adK:∀(B:ByteArray),Ev (fun n=>bH.j1 n ((d+1:Nat):Int) B true (f.map uU) (b.map aY) (k.map e32)) false:=fun B=>by
   refine vc ?_
   simp only[bH.j1]
   exact vp trivial (vs _)
  by_cases c1:(bF f).2=true
  ·rw[if_pos c1]
   refine vp c1 ?_
   by_cases c2:b=[]∧1≤k.length∧k.length≤4
   ·rw[if_pos c2]
    obtain⟨rfl,hk1,hk4⟩:=c2
    have hbs:=ZR c1
    have hbd:=Vm hbs
    have hN:=alQ (d:=d) (by omega)
    have key:∀(r p:List Pt),k=p++r→Ev (fun n=>bH.l0 n ((d+1:Nat):Int) (aY (bF f).1) (p.length:Int) (f.map uU) (([]:List Str).map aY) (k.map e32)) (match kl (lines d) r with
      |none=>false
      |some ls=>!ls.any (fun c=>dv c (bF f).1)):=by
     intro r
     induction r with
     |nil=>
      intro p h
      have hz:k.length=p.length:=by rw[h,List.append_nil]
      refine vc ?_
      simp only[bH.l0,List.length_map]
      exact vn (by omega) (vs _)
     |cons q r ihr=>
      intro p h
      have hz:=iV h
      have e1:=AQ h
      have w1:wrap64 ((p.length:Int)+1)=(p.length:Int)+1:=aU (by omega) (by omega)
      have w2:wrap64 (((d+1:Nat):Int)-1)=(d:Int):=by rw[aU (by omega) (by omega)];omega
      have hu:=ih q (by omega) (hk q (by rw[h];simp))
      have hv:=ihr (p++[q]) (by rw[h];simp)
      rw[l7,←w1]at hv
      refine vc ?_
      simp only[bH.l0,List.length_map,e1,w2]
      clear w1 w2
      refine vp (by omega) (vp (by omega) (vb hu ?_))
      rw[kl]
      cases e:lines d q with
      |none=>exact vn (by simp) (vs _)
      |some a=>
       have hg:=Q7 d q a (by omega) (hk q (by rw[h];simp)) e
       have hla:=GV d q a e
       refine vp rfl (vb hg (adL _ (by omega) _ _ _ _ _ a (by omega) _ (fun g=>?_) (fun g=>vq hv ?_)))
       ·cases kl (lines d) r with
        |none=>rfl
        |some m=>simp[g]
       ·cases kl (lines d) r with
        |none=>rfl
        |some m=>simp[g]
    refine vn (by simp) (vn (by omega) ?_)
    rw[show decide ((k.length:Int)>4)=false from decide_eq_false (by omega)]
    refine vc ?_
    simp only[bH.j1]
    refine vn (by simp) (vq (key k [] rfl) ?_)
    cases e:kl (lines d) k with
    |none=>rfl
    |some ls=>
     have hl:=(adI e (N:=lN d) fun p _ a h=>GV d p a h).1
     have h0:ls≠[]:=fun h=>by rw[h]at hl;simp at hl;omega
     show(!ls.any (fun c=>dv c (bF f).1))=((jR (bF f).1 ls).map (head f++ ·)).isSome
     unfold jR
     cases ls.any (fun c=>dv c (bF f).1)with
     |true=>rw[if_neg (fun h=>by have:=h.2.2;cases this)];rfl
     |false=>rw[if_pos ⟨hbs,h0,rfl⟩];rfl
   ·rw[if_neg c2]
    by_cases c3:(b.length:Int)>0
    ·exact vp c3 (adK _)
    ·refine vn c3 ?_
     have hb0:b=[]:=List.length_eq_zero_iff.mp (by omega)
     by_cases c4:(k.length:Int)<1
     ·exact vp c4 (adK _)
     ·refine vn c4 ?_
      rw[show decide ((k.length:Int)>4)=true from decide_eq_true (by
       apply Classical.byContradiction
       intro h
       exact c2 ⟨hb0,by omega,by omega⟩)]
      exact adK _
  ·rw[if_neg c1]
   refine vn c1 ?_
   by_cases c3:k=[]
   ·subst c3
    refine vp rfl (vb (JK b hb hbn) (vq (vs _) ?_))
    cases e:tbs b with
    |true=>simp
    |false=>simp
   ·have hk0:¬(k.length:Int)=0:=fun h=>c3 (List.length_eq_zero_iff.mp (by omega))
    refine vn hk0 ?_
    rw[if_neg (fun h=>c3 h.1)]
    exact vs _
theorem PX (p:Pt) (hp:Et p≤1048576):Ev (fun k=>qY.f k (e32 p).f0 (e32 p).f1 (e32 p).f2) (lines 3 p).isSome:=by
 unfold qY.f
 exact vb (Tc 3 p (by omega) hp) (vs _)
/-! Coded words: the model. -/
def hx (n:UInt8):UInt8:=if n<10 then 48+n else 55+n
def cdB (c:UInt8):Str:=if c=32 then[95]else if(ES c||decide (c=45)||decide (c=46))=true then[c]else[61,hx (c/16),hx (c%16)]
def cd:Str→Str
 |[]=>[]
 |c:: r=>cdB c++cd r
def cb:Str:=[61,63,117,116,102,45,56,63,113,63]
def ce:Str:=[63,61]
def cw (b:Str):Str:=cb++cd b++ce
def cwO (b:Str):Option Str:=if b=[]∨b.length>40∨(cw b).length>40 then none else some (cw b)
theorem ahM (a b:Str):cd (a++b)=cd a++cd b:=by
 induction a with
 |nil=>rfl
 |cons c a ih=>simp only[List.cons_append,cd,ih,List.append_assoc]
theorem agH (c:UInt8):1≤(cdB c).length∧(cdB c).length≤3:=by
 unfold cdB
 split
 ·exact⟨by simp,by simp⟩
 ·split<;>exact⟨by simp,by simp⟩
theorem alR (b:Str):b.length≤(cd b).length∧(cd b).length≤3*b.length:=by
 induction b with
 |nil=>exact⟨Nat.le_refl _,Nat.le_refl _⟩
 |cons c r ih=>have:=agH c;simp only[cd,List.length_append,List.length_cons];omega
theorem auQ (b:Str):(cw b).length=(cd b).length+12:=by
 unfold cw cb ce;simp
/-- Hexadecimal digits. -/
def vl (c:UInt8):Int:=if 48≤c∧c≤57 then((c-48).toNat:Int)else if 65≤c∧c≤70 then((c-55).toNat:Int)else-1
theorem alS {b s:Str} (h:cwO b=some s):s=cw b∧b≠[]∧b.length≤40∧s.length≤40:=by
 unfold cwO at h
 split at h
 ·cases h
 ·rename_i hn
  cases h
  refine⟨rfl,fun e=>hn (Or.inl e),?_,?_⟩<;>omega
open Classical in
noncomputable def rcw (s:Str):Option Str:=if h:∃b,cwO b=some s then some (Classical.choose h)else none
def alT:Option Str→ByteArray×Bool
 |none=>(aY [],false)
 |some s=>(aY s,true)
/-! Parts at spaces. -/
def spl:Str→List Str
 |[]=>[[]]
 |c:: r=>if c=32 then[]:: spl r else hd1 c (spl r)
/-! A name read. -/
noncomputable def dgo:List Str→Bool→Bool→Str→Str
 |[],_,_,out=>out
 |x:: r,later,coded,out=>dgo r true (rcw x).isSome (out++(if later=true∧¬(coded=true∧(rcw x).isSome=true)then[32]else[])++(rcw x).getD x)
noncomputable def dn (s:Str):Option Str:=if s.length>600 then none else(let o:=dgo (spl s) false false [];if o.length>120 then none else some o)
/-! Coded words: the program and the reference. -/
theorem VF (c:UInt8):zL.f (c.toNat:Int)=some (aY (cdB c)):=by
 revert c
 exact Vq (by decide+kernel)
theorem JL (b:Str) (hb:b.length≤1048576):Ev (fun k=>jX.f k (aY b)) (aY (cd b)):=by
 have key:∀(r p:Str),b=p++r→Ev (fun k=>jX.l0 k (aY b) (aY (cd p)) (p.length:Int)) (aY (cd b)):=by
  intro r
  induction r with
  |nil=>
   intro p h
   rw[List.append_nil]at h
   subst h
   refine vc ?_
   simp only[jX.l0,aC]
   exact vn (by omega) (vs _)
  |cons c r ih=>
   intro p h
   have hz:=iV h
   have e1:=jU h
   have w1:wrap64 ((p.length:Int)+1)=((p++[c]).length:Int):=(aU (by omega) (by omega)).trans (by simp)
   have:=ih (p++[c]) (by rw[h];simp)
   rw[ahM]at this
   have l1:=alR p
   have l2:=agH c
   refine vc ?_
   simp only[jX.l0,e1,w1,aC,VF,Option.bind_some,kX]
   clear e1 w1
   refine vp (by omega) (vp (by omega) (vp (by omega) ?_))
   simpa [cd] using this
 unfold jX.f
 exact key b [] rfl
theorem Q9 (b:Str) (hb:b.length≤1048576):Ev (fun k=>jd.f k (aY b)) (alT (cwO b)):=by
 have h:=JL b hb
 have bad:Ev (fun k=>jd.j0 k (aY b) true) (alT none):=by
  refine vc ?_
  simp only[jd.j0]
  exact vp trivial (vq (vs _) rfl)
 unfold jd.f cwO
 rw[aC]
 by_cases h1:b=[]
 ·rw[if_pos (show b=[]∨b.length>40∨(cw b).length>40 from Or.inl h1)]
  exact vp (by rw[h1];decide) bad
 ·have hn:0<b.length:=List.length_pos_iff.mpr h1
  refine vn (by omega) ?_
  by_cases h2:b.length>40
  ·rw[if_pos (show b=[]∨b.length>40∨(cw b).length>40 from Or.inr (Or.inl h2)),decide_eq_true (by omega:(b.length:Int)>40)]
   exact bad
  ·rw[decide_eq_false (by omega:¬(b.length:Int)>40)]
   have l1:=alR b
   have e61:(⟨#[61,63,117,116,102,45,56,63,113,63]⟩:ByteArray)=aY cb:=rfl
   have e63:(⟨#[63,61]⟩:ByteArray)=aY ce:=rfl
   have e4:cb++cd b++ce=cw b:=rfl
   have l2:=auQ b
   refine vc ?_
   simp only[jd.j0,e61,e63]
   refine vn (by simp) (vb h ?_)
   simp only[aC,kX,e4]
   refine vp (by omega) (vp (by rw[List.length_append,show cb.length=10 from rfl];omega) ?_)
   by_cases h3:(cw b).length>40
   ·rw[if_pos (show b=[]∨b.length>40∨(cw b).length>40 from Or.inr (Or.inr h3))]
    exact vp (by omega) (vq (vs _) rfl)
   ·rw[if_neg (show¬(b=[]∨b.length>40∨(cw b).length>40)from fun hh=>hh.elim h1 (fun hh=>hh.elim h2 h3))]
    exact vn (by omega) (vq (vs _) rfl)
/-! Coded words read. -/
/-! Names read. -/
def fit (o:Str):Option Str:=if o.length>120 then none else some o
/-! Spaces trimmed by the reference. -/
/-! Names that are drawn. -/
theorem PY (s:Str) (hs:s.length≤1048576):∃nc:Bool,Ev (fun k=>iD.f k (aY s)) nc:=by
 have key:∀(d i:Nat),s.length-i=d→i≤s.length→∃nc:Bool,Ev (fun k=>iD.l0 k (aY s) (i:Int)) nc:=by
  have fin:∃nc:Bool,Ev (fun k=>(aQ.f k (aY s)).bind fun aHy=>(if aHy=true then((bM.f k (aY s)).bind fun t105=>(if t105.toList=(aY s).toList then(some (decide (((aY s).size:Int)>120)))else(some true)))else(some true))) nc:=by
   cases h1:mF s with
   |false=>exact⟨true,vb (l9 s (by omega)) (vn (by simp[h1]) (vs _))⟩
   |true=>
    by_cases h2:(aY (trim s)).toList=(aY s).toList
    ·exact⟨_,vb (l9 s (by omega)) (vp h1 (vb (rH s hs) (vp h2 (vs _))))⟩
    ·exact⟨true,vb (l9 s (by omega)) (vp h1 (vb (rH s hs) (vn h2 (vs _))))⟩
  intro d
  induction d with
  |zero=>
   intro i hd hi
   obtain⟨nc,hn⟩:=fin
   refine⟨nc,vc ?_⟩
   simp only[iD.l0]
   have w1:wrap64 ((i:Int)+1)=(i:Int)+1:=aU (by omega) (by omega)
   rw[w1]
   exact vn (by rw[aC];omega) hn
  |succ d ih=>
   intro i hd hi
   have w1:wrap64 ((i:Int)+1)=((i+1:Nat):Int):=(aU (by omega) (by omega)).trans (by omega)
   by_cases h1:i+1<s.length
   ·obtain⟨nc,hn⟩:=ih (i+1) (by omega) (by omega)
    by_cases h2:(bt (aY s) (i:Int))=61
    ·by_cases h3:(bt (aY s) ((i+1:Nat):Int))=63
     ·refine⟨true,vc ?_⟩
      simp only[iD.l0,w1,aC]
      exact vp (by omega) (vp (by omega) (vp (by omega) (vp h2 (vp (by omega) (vp h3 (vs _))))))
     ·refine⟨nc,vc ?_⟩
      simp only[iD.l0,w1,aC]
      exact vp (by omega) (vp (by omega) (vp (by omega) (vp h2 (vp (by omega) (vn h3 hn)))))
    ·refine⟨nc,vc ?_⟩
     simp only[iD.l0,w1,aC]
     exact vp (by omega) (vp (by omega) (vp (by omega) (vn h2 hn)))
   ·obtain⟨nc,hn⟩:=fin
    refine⟨nc,vc ?_⟩
    simp only[iD.l0,w1]
    exact vn (by rw[aC];omega) hn
 unfold iD.f
 exact key s.length 0 rfl (by omega)
theorem ahN (b:Str):∃u:Str,(alT (cwO b)).1=aY u∧u.length≤40:=by
 cases e:cwO b with
 |none=>exact⟨[],rfl,by simp⟩
 |some s=>exact⟨s,rfl,(alS e).2.2.2⟩
theorem MO (b:Str) (hb:b.length≤1048576):∃(s:Str) (ok:Bool),Ev (fun k=>bI.f k (aY b)) (aY s,ok)∧s.length≤10000:=by
 unfold bI.f
 rw[aC]
 by_cases h:b.length>120
 ·exact⟨[],false,vp (by omega) (vq (vs _) rfl),by simp⟩
 ·obtain⟨nc,hn⟩:=PY b hb
  cases nc with
  |false=>exact⟨b,true,vn (by omega) (vb hn (vn (by simp) (vs _))),by omega⟩
  |true=>
   have ext:∀i j:Nat,(aY b).extract i j=aY ((b.drop i).take (j-i)):=fun i j=>jZ b i j
   have key:∀(m i:Nat) (out:Str),b.length-i≤m→i≤b.length→out.length≤50*i→∃s:Str,Ev (fun k=>bI.l0 k (aY b) (aY out) (i:Int)) (aY s,true)∧s.length≤10000:=by
    intro m
    induction m with
    |zero=>
     intro i out hm hi ho
     refine⟨out,vc ?_,by omega⟩
     simp only[bI.l0,aC]
     exact vn (by omega) (vs _)
    |succ m ih=>
     intro i out hm hi ho
     by_cases hlt:i<b.length
     ·have inner:∀(d j:Nat),b.length-j=d→i<j→j≤b.length→∃s:Str,Ev (fun k=>bI.l1 k (aY b) (aY out) (i:Int) (j:Int)) (aY s,true)∧s.length≤10000:=by
       have e32:(⟨#[32]⟩:ByteArray)=aY [32]:=rfl
       have put:∀j:Nat,i<j→j≤b.length→∃s:Str,Ev (fun k=>(jd.f k (aY ((b.drop i).take (j-i)))).bind fun bt=>(if(i:Int)>0 then(if(aY out).size+1≤9223372036854775807 then(if((aY out)++(⟨#[32]⟩:ByteArray)).size+bt.1.size≤9223372036854775807 then(bI.l0 k (aY b) (((aY out)++(⟨#[32]⟩:ByteArray))++bt.1) (j:Int))else(none))else(none))else(if(aY out).size+bt.1.size≤9223372036854775807 then(bI.l0 k (aY b) ((aY out)++bt.1) (j:Int))else(none)))) (aY s,true)∧s.length≤10000:=by
        intro j h1 h2
        have hcw:=Q9 ((b.drop i).take (j-i)) (by rw[List.length_take,List.length_drop];omega)
        obtain⟨u,hu,hul⟩:=ahN ((b.drop i).take (j-i))
        by_cases h0:0<i
        ·obtain⟨s,hs,hsl⟩:=ih j (out++[32]++u) (by omega) h2 (by simp only[List.length_append,List.length_cons,List.length_nil];omega)
         refine⟨s,vb hcw (vp (by omega) ?_),hsl⟩
         simp only[hu,e32,aC,kX]
         exact vp (by omega) (vp (by simp only[List.length_append,List.length_cons,List.length_nil];omega) hs)
        ·obtain⟨s,hs,hsl⟩:=ih j (out++u) (by omega) h2 (by simp only[List.length_append];omega)
         refine⟨s,vb hcw (vn (by omega) ?_),hsl⟩
         simp only[hu,aC,kX]
         exact vp (by omega) hs
       intro d
       induction d with
       |zero=>
        intro j hd h1 h2
        obtain⟨s,hs,hsl⟩:=put j h1 h2
        refine⟨s,vc ?_,hsl⟩
        simp only[bI.l1,Int.toNat_natCast,ext]
        exact vn (by rw[aC];omega) (vp (by omega) (vp (by omega) (vp (by rw[aC];omega) hs)))
       |succ d ihd=>
        intro j hd h1 h2
        have w1:wrap64 ((j:Int)+1)=((j+1:Nat):Int):=(aU (by omega) (by omega)).trans (by omega)
        have hcd:=JL ((b.drop i).take (j+1-i)) (by rw[List.length_take,List.length_drop];omega)
        by_cases h4:(cd ((b.drop i).take (j+1-i))).length≤28
        ·obtain⟨s,hs,hsl⟩:=ihd (j+1) (by omega) (by omega) (by omega)
         refine⟨s,vc ?_,hsl⟩
         simp only[bI.l1,Int.toNat_natCast,ext,w1]
         clear w1
         exact vp (by rw[aC];omega) (vp (by omega) (vp (by omega) (vp (by rw[aC];omega) (vb hcd (vp (by rw[aC];omega) hs)))))
        ·obtain⟨s,hs,hsl⟩:=put j h1 h2
         refine⟨s,vc ?_,hsl⟩
         simp only[bI.l1,Int.toNat_natCast,ext,w1]
         clear w1
         exact vp (by rw[aC];omega) (vp (by omega) (vp (by omega) (vp (by rw[aC];omega) (vb hcd (vn (by rw[aC];omega) (vp (by omega) (vp (by rw[aC];omega) hs)))))))
      have w1:wrap64 ((i:Int)+1)=((i+1:Nat):Int):=(aU (by omega) (by omega)).trans (by omega)
      obtain⟨s,hs,hsl⟩:=inner _ (i+1) rfl (by omega) (by omega)
      refine⟨s,vc ?_,hsl⟩
      simp only[bI.l0,aC,w1]
      clear w1
      exact vp (by omega) hs
     ·refine⟨out,vc ?_,by omega⟩
      simp only[bI.l0,aC]
      exact vn (by omega) (vs _)
   obtain⟨s,hs,hsl⟩:=key b.length 0 [] (by omega) (by omega) (by simp)
   exact⟨s,true,vn (by omega) (vb hn (vp rfl hs)),hsl⟩
/-! Codes of bytes: what they give is bounded. -/
theorem yw (a:List Str) (c:Str):ER (a++[c])=ER a+c.length:=by rw[Vk];simp[ER]
theorem aCy (s:Str) (hs:s.length≤1000000):∃ls:List Str,Ev (fun k=>kK.f k (aY s) 10) (ls.map aY)∧ls.length≤s.length+1∧ER ls≤s.length:=by
 have key:∀(r p:Str) (acc:List Str) (m:Nat),s=p++r→m≤p.length→ER acc≤m→acc.length≤p.length→∃ls:List Str,Ev (fun k=>kK.l0 k (aY s) 10 (acc.map aY) (m:Int) (p.length:Int)) (ls.map aY)∧ls.length≤s.length+1∧ER ls≤s.length:=by
  intro r
  induction r with
  |nil=>
   intro p acc m h h1 h2 h3
   have hz:s.length=p.length:=by rw[h];simp
   refine⟨acc++[(s.drop m).take (s.length-m)],vc ?_,by simp;omega,by rw[yw];simp;omega⟩
   simp only[kK.l0,aC,List.length_map,Int.toNat_natCast,jZ]
   exact vn (by omega) (vp (by omega) (vp (by omega) (vp (by omega) (vq (vs _) (by simp)))))
  |cons c r ih=>
   intro p acc m h h1 h2 h3
   have hz:s.length=p.length+(r.length+1):=by rw[h];simp
   have e1:bt (aY s) (p.length:Int)=(c.toNat:Int):=jU (l:=s) (p:=p) h
   have w1:Unit→wrap64 ((p.length:Int)+1)=(((p++[c]).length:Nat):Int):=fun _=>by rw[aU (by omega) (by omega)];simp
   by_cases c1:(c.toNat:Int)=10
   ·obtain⟨ls,g1,g2⟩:=ih (p++[c]) (acc++[(s.drop m).take (p.length-m)]) (p++[c]).length (by rw[h];simp) (Nat.le_refl _) (by rw[yw];simp;omega) (by simp;omega)
    refine⟨ls,vc ?_,g2⟩
    simp only[kK.l0,aC,List.length_map,e1,w1 (),Int.toNat_natCast,jZ]
    clear e1 w1
    rw[List.map_append,List.map_singleton]at g1
    exact vp (by omega) (vp (by omega) (vp c1 (vp (by omega) (vp (by omega) (vp (by omega) (vp (by omega) g1))))))
   ·obtain⟨ls,g1,g2⟩:=ih (p++[c]) acc m (by rw[h];simp) (by simp;omega) h2 (by simp;omega)
    refine⟨ls,vc ?_,g2⟩
    simp only[kK.l0,aC,List.length_map,e1,w1 ()]
    clear e1 w1
    exact vp (by omega) (vp (by omega) (vn c1 g1))
 unfold kK.f
 exact key s [] [] 0 rfl (Nat.le_refl _) (Nat.le_refl _) (Nat.le_refl _)
theorem VG (s:Str) (hs:s.length≤1000):∃(ls:List Str) (ok:Bool),Ev (fun k=>je.f k (aY s)) (ls.map aY,ok)∧ls.length+ER ls≤2001:=by
 obtain⟨xs,g1,g2,g3⟩:=aCy s (by omega)
 have key:∀(r p:List Str),xs=p++r→∃(ls:List Str) (ok:Bool),Ev (fun k=>je.l0 k (aY s) (xs.map aY) (p.length:Int)) (ls.map aY,ok)∧ls.length+ER ls≤2001:=by
  intro r
  induction r with
  |nil=>
   intro p h
   have hz:xs.length=p.length:=by rw[h];simp
   refine⟨xs,decide (((aY s).size:Int)≤300),vc ?_,by omega⟩
   simp only[je.l0,List.length_map]
   exact vn (by omega) (vs _)
  |cons c r ih=>
   intro p h
   have hz:xs.length=p.length+(r.length+1):=by rw[h];simp
   have e1:=yY h
   have hc:c.length≤ER xs:=ZI (by rw[h];simp)
   have w1:Unit→wrap64 ((p.length:Int)+1)=(((p++[c]).length:Nat):Int):=fun _=>by rw[aU (by omega) (by omega)];simp
   obtain⟨ls,ok,g4,g5⟩:=ih (p++[c]) (by rw[h];simp)
   have tv:=l9 c (by omega)
   by_cases c1:(c.length:Int)>40
   ·refine⟨[],false,vc ?_,by simp[ER]⟩
    simp only[je.l0,List.length_map,e1,aC]
    exact vp (by omega) (vp (by omega) (vp c1 (vs _)))
   by_cases c2:mF c=true
   ·refine⟨ls,ok,vc ?_,g5⟩
    simp only[je.l0,List.length_map,e1,aC,w1 ()]
    exact vp (by omega) (vp (by omega) (vn c1 (vb tv (vp c2 g4))))
   ·refine⟨[],false,vc ?_,by simp[ER]⟩
    simp only[je.l0,List.length_map,e1,aC]
    exact vp (by omega) (vp (by omega) (vn c1 (vb tv (vn c2 (vs _)))))
 obtain⟨ls,ok,g4,g5⟩:=key xs [] rfl
 refine⟨ls,ok,?_,g5⟩
 unfold je.f
 exact vb g1 g4
theorem ahO (c:UInt8) (b:Bool):∃t:Str,nX.f (c.toNat:Int) b=some (aY t)∧t.length≤3:=by
 have key:∀n:Nat,n<256→(match nX.f ((UInt8.ofNat n).toNat:Int) b with|some s=>decide (s.size≤3)|none=>false)=true:=by
  cases b<;>decide+kernel
 have:=key c.toNat c.toNat_lt
 rw[UInt8.ofNat_toNat]at this
 cases e:nX.f (c.toNat:Int) b with
 |none=>rw[e]at this;cases this
 |some s=>
  rw[e]at this
  exact⟨L s,by rw[alU],by rw[←MP];exact of_decide_eq_true this⟩
theorem IE (s:Str) (hs:s.length≤1000):∃(ls:List Str) (ok:Bool),Ev (fun k=>bP.f k (aY s)) (ls.map aY,ok)∧ls.length+ER ls≤5002:=by
 have key:∀(r p:Str) (acc:List Str) (cur:Str),s=p++r→acc.length≤p.length→cur.length≤39→ER acc+cur.length≤4*p.length→∃(ls:List Str) (ok:Bool),Ev (fun k=>bP.l0 k (aY s) (acc.map aY) (aY cur) (p.length:Int)) (ls.map aY,ok)∧ls.length+ER ls≤5002:=by
  intro r
  induction r with
  |nil=>
   intro p acc cur h h1 h2 h3
   have hz:s.length=p.length:=by rw[h];simp
   refine⟨acc++[cur],true,vc ?_,by rw[yw];simp;omega⟩
   simp only[bP.l0,aC,List.length_map]
   exact vn (by omega) (vp (by omega) (vq (vs _) (by simp)))
  |cons c r ih=>
   intro p acc cur h h1 h2 h3
   have hz:s.length=p.length+(r.length+1):=by rw[h];simp
   have hp:(p++[c]).length=p.length+1:=by simp
   have e1:bt (aY s) (p.length:Int)=(c.toNat:Int):=jU (l:=s) (p:=p) h
   have w1:Unit→wrap64 ((p.length:Int)+1)=(((p++[c]).length:Nat):Int):=fun _=>by rw[aU (by omega) (by omega)];simp
   by_cases c1:(c.toNat:Int)=10
   ·obtain⟨ls,ok,g1,g2⟩:=ih (p++[c]) (acc++[cur]) [] (by rw[h];simp) (by simp;omega) (by simp) (by rw[yw,hp];simp;omega)
    refine⟨ls,ok,vc ?_,g2⟩
    simp only[bP.l0,aC,List.length_map,e1,w1 ()]
    clear e1 w1
    rw[List.map_append,List.map_singleton]at g1
    exact vp (by omega) (vp (by omega) (vp c1 (vp (by omega) g1)))
   ·have fin:∀b:Bool,∃(ls:List Str) (ok:Bool) (t:Str),nX.f (c.toNat:Int) b=some (aY t)∧ls.length+ER ls≤5002∧Ev (fun k=>if(wrap64 (((aY cur).size:Int)+((aY t).size:Int)))>39 then(if(aY cur).size+1≤9223372036854775807 then(if(acc.map aY).length<8796093022208 then(if 0+(aY t).size≤9223372036854775807 then(bP.l0 k (aY s) (acc.map aY++[aY cur++(⟨#[61]⟩:ByteArray)]) ((⟨#[]⟩:ByteArray)++aY t) (((p++[c]).length:Nat):Int))else none)else none)else none)else(if(aY cur).size+(aY t).size≤9223372036854775807 then(bP.l0 k (aY s) (acc.map aY) (aY cur++aY t) (((p++[c]).length:Nat):Int))else none)) (ls.map aY,ok):=by
     intro b
     obtain⟨t,ht,hl⟩:=ahO c b
     have w2:Unit→wrap64 ((cur.length:Int)+(t.length:Int))=(cur.length:Int)+(t.length:Int):=fun _=>aU (by omega) (by omega)
     by_cases c2:(cur.length:Int)+(t.length:Int)>39
     ·obtain⟨ls,ok,g1,g2⟩:=ih (p++[c]) (acc++[cur++[61]]) t (by rw[h];simp) (by simp;omega) (by omega) (by rw[yw,hp];simp;omega)
      refine⟨ls,ok,t,ht,g2,?_⟩
      simp only[aC,List.length_map,w2 ()]
      clear w2 w1
      refine vp c2 (vp (by omega) (vp (by omega) (vp (by omega) ?_)))
      rw[List.map_append,List.map_singleton,←kX]at g1
      exact g1
     ·obtain⟨ls,ok,g1,g2⟩:=ih (p++[c]) acc (cur++t) (by rw[h];simp) (by simp;omega) (by simp;omega) (by rw[hp];simp;omega)
      refine⟨ls,ok,t,ht,g2,?_⟩
      simp only[aC,List.length_map,w2 ()]
      clear w2 w1
      refine vn c2 (vp (by omega) ?_)
      rw[←kX]at g1
      exact g1
    by_cases c3:(((p++[c]).length:Nat):Int)=(s.length:Int)
    ·obtain⟨ls,ok,t,ht,g2,g1⟩:=fin true
     refine⟨ls,ok,vc ?_,g2⟩
     simp only[bP.l0,aC s,e1,w1 ()]
     clear e1 w1
     exact vp (by omega) (vp (by omega) (vn c1 (vp c3 (jI ht g1))))
    ·obtain⟨ls,ok,t,ht,g2,g1⟩:=fin ((bt (aY s) (((p++[c]).length:Nat):Int))==10)
     refine⟨ls,ok,vc ?_,g2⟩
     simp only[bP.l0,aC s,e1,w1 ()]
     clear e1 w1
     exact vp (by omega) (vp (by omega) (vn c1 (vn c3 (vp (by omega) (vp (by omega) (jI ht g1))))))
 unfold bP.f
 rw[aC]
 by_cases c0:(s.length:Int)>300
 ·exact⟨[],false,vp c0 (vs _),by simp[ER]⟩
 ·obtain⟨ls,ok,g1,g2⟩:=key s [] [] [] rfl (Nat.le_refl _) (by simp) (by simp[ER])
  exact⟨ls,ok,vn c0 g1,g2⟩
theorem adM (s:Str) (hs:s.length≤100000):∃ls:List Str,Ev (fun k=>kU.f k (aY s) 40) (ls.map aY)∧ls.length≤s.length+1∧ER ls≤s.length:=by
 have key:∀(n:Nat) (x:Str) (acc:List Str),x.length≤n→acc.length+x.length≤s.length→ER acc+x.length≤s.length→∃ls:List Str,Ev (fun k=>kU.l0 k (aY x) 40 (acc.map aY)) (ls.map aY)∧ls.length≤s.length+1∧ER ls≤s.length:=by
  intro n
  induction n with
  |zero=>
   intro x acc h h1 h2
   refine⟨acc++[x],vc ?_,by simp;omega,by rw[yw];omega⟩
   simp only[kU.l0,aC,List.length_map]
   exact vn (by omega) (vp (by omega) (vq (vs _) (by simp)))
  |succ n ih=>
   intro x acc h h1 h2
   by_cases c:(x.length:Int)>40
   ·obtain⟨ls,g1,g2⟩:=ih (x.drop 40) (acc++[x.take 40]) (by simp;omega) (by simp;omega) (by rw[yw];simp;omega)
    refine⟨ls,vc ?_,g2⟩
    have e1:(aY x).extract (40:Int).toNat x.length=aY (x.drop 40):=by
     rw[jZ]
     exact congrArg aY (List.take_of_length_le (by simp))
    have e2:(aY x).extract 0 (40:Int).toNat=aY (x.take 40):=by rw[jZ];rfl
    simp only[kU.l0,aC,List.length_map,e1,e2]
    rw[List.map_append,List.map_singleton]at g1
    exact vp c (vp (by omega) (vp (by omega) (vp (by omega) g1)))
   ·refine⟨acc++[x],vc ?_,by simp;omega,by rw[yw];omega⟩
    simp only[kU.l0,aC,List.length_map]
    exact vn c (vp (by omega) (vq (vs _) (by simp)))
 unfold kU.f
 exact key s.length s [] (Nat.le_refl _) (by simp) (by simp[ER])
/-! Base 64: what it gives is bounded. -/
theorem aCz (x:Int) (h0:0≤x) (h1:x≤1000000000000):0≤Go.bits .and .i64 x 63∧Go.bits .and .i64 x 63≤63:=by
 obtain⟨a,rfl⟩:=Int.eq_ofNat_of_zero_le h0
 have h2:(BitVec.ofInt 64 (a:Int)).toNat=a:=by
  rw[BitVec.ofInt_natCast,BitVec.toNat_ofNat];exact Nat.mod_eq_of_lt (by omega)
 have e:Go.bits .and .i64 (a:Int) 63=((a &&&63:Nat):Int):=by
  show IntKind.i64.wrap ((BitVec.ofInt 64 (a:Int) &&&BitVec.ofInt 64 (63:Int)).toNat:Int)=_
  have h3:(BitVec.ofInt 64 (63:Int)).toNat=63:=by decide
  rw[BitVec.toNat_and,h2,h3,jo]
  have:a &&&63≤63:=Nat.and_le_right
  exact aU (by omega) (by omega)
 rw[e]
 have:a &&&63≤63:=Nat.and_le_right
 omega
theorem auR (x y:Int) (h0:0≤x):0≤shr .i64 x y∧shr .i64 x y≤x:=by
 unfold shr
 have hp:(0:Int)<2 ^ min y.toNat (IntKind.i64).bits:=Int.pow_pos (by omega)
 exact⟨Int.ediv_nonneg h0 (by omega),Int.ediv_le_self _ h0⟩
theorem ahP (s:Str) (hs:s.length≤1000) (i:Nat) (hi:i≤1000) (x5:Int) (h5:0≤x5) (h6:x5≤1000000000):∀(j:Nat),j≤4→∀acc:Str,acc.length+j≤1000000→
  ∃out:Str,out.length≤acc.length+j∧∀V,Ev (fun k=>bT.l0 k (aY s) (aY out) (wrap64 ((i:Int)+3))) V→Ev (fun k=>bT.l1 k (aY s) (aY acc) (i:Int) x5 ((4-j:Nat):Int)) V:=by
 intro j
 induction j with
 |zero=>
  intro _ acc ha
  refine⟨acc,by omega,fun V hV=>vc ?_⟩
  simp only[bT.l1]
  exact vn (by omega) hV
 |succ j ih=>
  intro hj acc ha
  have w1:Unit→wrap64 (((4-(j+1):Nat):Int)+1)=((4-j:Nat):Int):=fun _=>by rw[aU (by omega) (by omega)];omega
  have w2:Unit→wrap64 ((i:Int)+((4-(j+1):Nat):Int))=(i:Int)+((4-(j+1):Nat):Int):=fun _=>aU (by omega) (by omega)
  by_cases c:(i:Int)+((4-(j+1):Nat):Int)>(s.length:Int)
  ·obtain⟨out,ho,hV⟩:=ih (by omega) (acc++[61]) (by simp;omega)
   simp only[List.length_append,List.length_cons,List.length_nil]at ho
   refine⟨out,by omega,fun V h=>vc ?_⟩
   have:=hV V h
   rw[←kX]at this
   simp only[bT.l1,aC,w1 (),w2 ()]
   clear w1 w2
   exact vp (by omega) (vp c (vp (by omega) this))
  ·have hsh:=auR x5 (wrap64 (18-wrap64 (6*((4-(j+1):Nat):Int)))) h5
   have hq:=aCz _ hsh.1 (by omega)
   have hw:Unit→wrap64 (18-wrap64 (6*((4-(j+1):Nat):Int)))=18-6*((4-(j+1):Nat):Int):=fun _=>by
    rw[aU (x:=6*_) (by omega) (by omega),aU (by omega) (by omega)]
   generalize hX:Go.bits .and .i64 (shr .i64 x5 (wrap64 (18-wrap64 (6*((4-(j+1):Nat):Int))))) 63=X at hq
   have w3:Unit→wrap64 (X+1)=X+1:=fun _=>aU (by omega) (by omega)
   obtain⟨T,hT,hTs⟩:∃T:Str,rE.f=some (aY T)∧T.length=64:=⟨_,rfl,by decide⟩
   obtain⟨out,ho,hV⟩:=ih (by omega) (acc++(T.drop X.toNat).take ((X+1).toNat-X.toNat)) (by simp;omega)
   simp only[List.length_append,List.length_take]at ho
   refine⟨out,by omega,fun V h=>vc ?_⟩
   have:=hV V h
   rw[←kX]at this
   simp only[bT.l1,hX,aC,w1 (),w2 (),w3 ()]
   refine vp (by omega) (vn c (vp (by rw[hw ()];omega) (jI hT ?_)))
   simp only[aC,jZ]
   exact vp (by omega) (vp (by omega) (vp (by omega) (vp (by simp;omega) this)))
theorem alV (s:Str) (i:Nat):0≤bt (aY s) (i:Int)∧bt (aY s) (i:Int)≤255:=by
 unfold bt
 split
 ·rename_i h
  have:=((aY s)[(i:Int).toNat]).toNat_lt
  omega
 ·omega
theorem ahQ (s:Str) (hs:s.length≤1000):∃out:Str,Ev (fun k=>bT.f k (aY s)) (aY out)∧out.length≤4*s.length:=by
 have key:∀(n i:Nat) (acc:Str),s.length≤i+n→i≤s.length+3→acc.length+4*n≤4*s.length→∃out:Str,Ev (fun k=>bT.l0 k (aY s) (aY acc) (i:Int)) (aY out)∧out.length≤4*s.length:=by
  intro n
  induction n with
  |zero=>
   intro i acc h h1 h2
   refine⟨acc,vc ?_,by omega⟩
   simp only[bT.l0,aC]
   exact vn (by omega) (vs _)
  |succ n ih=>
   intro i acc h h1 h2
   by_cases c:(i:Int)<(s.length:Int)
   ·have w1:Unit→wrap64 ((i:Int)+1)=((i+1:Nat):Int):=fun _=>by rw[aU (by omega) (by omega)];omega
    have w2:Unit→wrap64 ((i:Int)+2)=((i+2:Nat):Int):=fun _=>by rw[aU (by omega) (by omega)];omega
    have w3:Unit→wrap64 ((i:Int)+3)=((i+3:Nat):Int):=fun _=>by rw[aU (by omega) (by omega)];omega
    have b0:=alV s i
    have b1:=alV s (i+1)
    have b2:=alV s (i+2)
    generalize hb0:bt (aY s) (i:Int)=B0 at b0
    generalize hb1:bt (aY s) ((i+1:Nat):Int)=B1 at b1
    generalize hb2:bt (aY s) ((i+2:Nat):Int)=B2 at b2
    have v0:Unit→wrap64 (wrap64 B0*65536)=B0*65536:=fun _=>by rw[aU (x:=B0) (by omega) (by omega),aU (by omega) (by omega)]
    have v1:Unit→wrap64 (B0*65536+wrap64 (wrap64 B1*256))=B0*65536+B1*256:=fun _=>by rw[aU (x:=B1) (by omega) (by omega),aU (x:=B1*256) (by omega) (by omega),aU (by omega) (by omega)]
    have v2:∀x:Int,0≤x→x≤100000000→wrap64 (x+wrap64 B2)=x+B2:=fun x _ _=>by rw[aU (x:=B2) (by omega) (by omega),aU (by omega) (by omega)]
    have step:∀x:Int,0≤x→x≤1000000000→∃out:Str,Ev (fun k=>bT.j2 k (aY s) (aY acc) (i:Int) x) (aY out)∧out.length≤4*s.length:=by
     intro x x0 x1
     obtain⟨o1,g1,g2⟩:=ahP s hs i (by omega) x x0 x1 4 (Nat.le_refl _) acc (by omega)
     obtain⟨out,g3,g4⟩:=ih (i+3) o1 (by omega) (by omega) (by omega)
     refine⟨out,vc ?_,g4⟩
     simp only[bT.j2]
     rw[w3 ()]at g2
     exact g2 _ g3
    have step1:∀x:Int,0≤x→x≤100000000→∃out:Str,Ev (fun k=>bT.j1 k (aY s) (aY acc) (i:Int) x) (aY out)∧out.length≤4*s.length:=by
     intro x x0 x1
     by_cases c2:((i+2:Nat):Int)<(s.length:Int)
     ·obtain⟨out,g3,g4⟩:=step (x+B2) (by omega) (by omega)
      refine⟨out,vc ?_,g4⟩
      simp only[bT.j1,aC,w2 (),hb2,v2 x x0 x1]
      clear w1 w2 w3 v0 v1 v2
      exact vp c2 (vp (by omega) g3)
     ·obtain⟨out,g3,g4⟩:=step x (by omega) (by omega)
      refine⟨out,vc ?_,g4⟩
      simp only[bT.j1,aC,w2 ()]
      exact vn c2 g3
    by_cases c1:((i+1:Nat):Int)<(s.length:Int)
    ·obtain⟨out,g3,g4⟩:=step1 (B0*65536+B1*256) (by omega) (by omega)
     refine⟨out,vc ?_,g4⟩
     simp only[bT.l0,aC,w1 (),hb0,hb1,v0 (),v1 ()]
     clear w1 w2 w3 v0 v1 v2
     exact vp c (vp (by omega) (vp c1 (vp (by omega) g3)))
    ·obtain⟨out,g3,g4⟩:=step1 (B0*65536) (by omega) (by omega)
     refine⟨out,vc ?_,g4⟩
     simp only[bT.l0,aC,w1 (),hb0,v0 ()]
     clear w1 w2 w3 v0 v1 v2
     exact vp c (vp (by omega) (vn c1 g3))
   ·refine⟨acc,vc ?_,by omega⟩
    simp only[bT.l0,aC]
    exact vn c (vs _)
 unfold bT.f
 exact key s.length 0 [] (by omega) (by omega) (by simp)
theorem Ld (s:Str) (hs:s.length≤1000):∃(ls:List Str) (ok:Bool),Ev (fun k=>ni.f k (aY s)) (ls.map aY,ok)∧ls.length+ER ls≤8001:=by
 unfold ni.f
 rw[aC]
 by_cases c:(s.length:Int)>300
 ·exact⟨[],false,vp c (vs _),by simp[ER]⟩
 ·obtain⟨o,g1,g2⟩:=ahQ s hs
  obtain⟨ls,g3,g4,g5⟩:=adM o (by omega)
  exact⟨ls,true,vn c (vb g1 (vb g3 (vs _))),by omega⟩
theorem XJ (ls:List Str) (h:ls.length+ER ls≤100000):∃n:Int,Ev (fun k=>kL.f k (ls.map aY)) n:=by
 have key:∀(r p:List Str) (acc:Nat),ls=p++r→acc=ER p+p.length→∃n:Int,Ev (fun k=>kL.l0 k (ls.map aY) (acc:Int) (p.length:Int)) n:=by
  intro r
  induction r with
  |nil=>
   intro p acc h1 _
   have hz:ls.length=p.length:=by rw[h1];simp
   refine⟨acc,vc ?_⟩
   simp only[kL.l0,List.length_map]
   exact vn (by omega) (vs _)
  |cons c r ih=>
   intro p acc h1 h2
   have hz:ls.length=p.length+(r.length+1):=by rw[h1];simp
   have hsz:ER ls=ER p+(c.length+ER r):=by rw[h1,Vk];rfl
   have e1:=yY h1
   have w1:Unit→wrap64 ((p.length:Int)+1)=(((p++[c]).length:Nat):Int):=fun _=>by rw[aU (by omega) (by omega)];simp
   have w2:Unit→wrap64 (wrap64 ((acc:Int)+(c.length:Int))+1)=((acc+c.length+1:Nat):Int):=fun _=>by rw[aU (x:=(acc:Int)+_) (by omega) (by omega),aU (by omega) (by omega)];omega
   obtain⟨n,g⟩:=ih (p++[c]) (acc+c.length+1) (by rw[h1];simp) (by rw[yw];simp;omega)
   refine⟨n,vc ?_⟩
   simp only[kL.l0,List.length_map,e1,aC,w1 (),w2 ()]
   clear w1 w2
   exact vp (by omega) (vp (by omega) g)
 unfold kL.f
 exact key ls [] 0 rfl rfl
theorem abI (s:Str) (hs:s.length≤1000):∃(n:Int) (ok:Bool),Ev (fun k=>nC.f k (aY s)) (n,ok)∧0≤n∧n≤2:=by
 unfold nC.f
 rw[aC]
 by_cases c:(s.length:Int)>300
 ·exact⟨0,false,vp c (vs _),by omega,by omega⟩
 obtain⟨l1,b1,g1,h1⟩:=VG s hs
 by_cases c1:b1=true
 ·exact⟨0,true,vn c (vb g1 (vp c1 (vs _))),by omega,by omega⟩
 obtain⟨l2,b2,g2,h2⟩:=IE s hs
 obtain⟨l3,b3,g3,h3⟩:=Ld s hs
 obtain⟨n,g4⟩:=XJ l2 (by omega)
 obtain⟨m,g5⟩:=XJ l3 (by omega)
 by_cases c2:n≤m
 ·exact⟨1,true,vn c (vb g1 (vn c1 (vb g2 (vb g3 (vb g4 (vb g5 (vp c2 (vs _)))))))),by omega,by omega⟩
 ·exact⟨2,true,vn c (vb g1 (vn c1 (vb g2 (vb g3 (vb g4 (vb g5 (vn c2 (vs _)))))))),by omega,by omega⟩
theorem VH (s:Str) (hs:s.length≤1000) (n:Int):∃(ls:List Str) (ok:Bool),Ev (fun k=>kE.f k (aY s) n) (ls.map aY,ok)∧ls.length+ER ls≤8001:=by
 obtain⟨l1,b1,g1,h1⟩:=VG s hs
 obtain⟨l2,b2,g2,h2⟩:=IE s hs
 obtain⟨l3,b3,g3,h3⟩:=Ld s hs
 unfold kE.f
 by_cases c0:n=0
 ·by_cases c1:b1=true
  ·exact⟨l1,true,vp c0 (vb g1 (vp c1 (vs _))),by omega⟩
  ·exact⟨[],false,vp c0 (vb g1 (vn c1 (vs _))),by simp[ER]⟩
 by_cases c1:n=1
 ·exact⟨l2,b2,vn c0 (vp c1 (vb g2 (vs _))),by omega⟩
 by_cases c2:n=2
 ·exact⟨l3,b3,vn c0 (vn c1 (vp c2 (vb g3 (vs _)))),by omega⟩
 ·exact⟨[],false,vn c0 (vn c1 (vn c2 (vs _))),by simp[ER]⟩
theorem abJ (a b c d:Str):(!(((aY a).toList)==((aY b).toList))||(!(((aY c).toList)==((aY d).toList))))=true↔¬((a,c)=(b,d)):=by
 simp only[nM,Prod.mk.injEq]
 by_cases h1:a=b<;>by_cases h2:c=d<;>simp[h1,h2]
theorem MQ (a b:List (Str×Str)) (hn:a.length≤1000000000000):Ev (fun k=>jk.f k (a.map uU) (b.map uU)) (decide (a=b)):=by
 unfold jk.f
 simp only[List.length_map]
 by_cases hl:a.length=b.length
 ·refine vp (by omega) ?_
  refine vq (qK (xs:=a) (F:=fun k (_:List (Str×Str)) i=>jk.l0 k (a.map uU) (b.map uU) (a.length:Int) i) (st:=stp) (fin:=fun _=>true) (s:=b) (fun p r=>∃q,b=q++r∧q.length=p.length) ⟨[],rfl,rfl⟩ ?_ ?_) (abn a b hl)
  ·rintro p c r s h ⟨q,hq,hql⟩
   have hz:=iV h
   have e1:=yt h
   have w1:wrap64 ((p.length:Int)+1)=(p.length:Int)+1:=aU (by omega) (by omega)
   cases s with
   |nil=>rw[hq]at hl;simp at hl;omega
   |cons d s=>
    have e2:=yt hq
    rw[hql]at e2
    have e3:=abJ c.1 d.1 c.2 d.2
    simp only[jk.l0,e1,e2,w1,List.length_map,uU,e3,stp]
    clear w1 e1 e2 e3
    by_cases e:c=d
    ·simp only[if_pos e]
     refine⟨(fun v hv=>by cases hv),fun s' hs=>⟨?_,fun v hv=>?_⟩⟩
     ·cases hs;exact⟨q++[d],by rw[hq];simp,by simp[hql]⟩
     ·exact vp (by omega) (vp (by omega) (vp (by omega) (vp (by omega) (vn (by simp[e]) hv))))
    ·simp only[if_neg e]
     refine⟨(fun v hv=>?_),fun s' hs=>by cases hs⟩
     cases hv
     exact vp (by omega) (vp (by omega) (vp (by omega) (vp (by omega) (vp e (vs _)))))
  ·intro s _
   simp only[jk.l0,List.length_map]
   exact vn (by omega) (vs _)
 ·refine vn (by omega) (vq (vs _) ?_)
  rw[eq_comm];exact decide_eq_false (fun h=>hl (by rw[h]))
theorem auS (a b:List Str) (hn:a.length≤1000000000000):Ev (fun k=>bJ.f k (a.map aY) (b.map aY)) (decide (a=b)):=by
 unfold bJ.f
 simp only[List.length_map]
 by_cases hl:a.length=b.length
 ·refine vp (by omega) ?_
  refine vq (qK (xs:=a) (F:=fun k (_:List Str) i=>bJ.l0 k (a.map aY) (b.map aY) (a.length:Int) i) (st:=stp) (fin:=fun _=>true) (s:=b) (fun p r=>∃q,b=q++r∧q.length=p.length) ⟨[],rfl,rfl⟩ ?_ ?_) (abn a b hl)
  ·rintro p c r s h ⟨q,hq,hql⟩
   have hz:=iV h
   have e1:=yY h
   have w1:wrap64 ((p.length:Int)+1)=(p.length:Int)+1:=aU (by omega) (by omega)
   cases s with
   |nil=>rw[hq]at hl;simp at hl;omega
   |cons d s=>
    have e2:=yY hq
    rw[hql]at e2
    simp only[bJ.l0,e1,e2,w1,List.length_map,nM,stp]
    clear w1 e1 e2
    by_cases e:c=d
    ·simp only[if_pos e]
     refine⟨(fun v hv=>by cases hv),fun s' hs=>⟨?_,fun v hv=>?_⟩⟩
     ·cases hs;exact⟨q++[d],by rw[hq];simp,by simp[hql]⟩
     ·exact vp (by omega) (vp (by omega) (vp (by omega) (vp (by omega) hv)))
    ·simp only[if_neg e]
     refine⟨(fun v hv=>?_),fun s' hs=>by cases hs⟩
     cases hv
     exact vp (by omega) (vp (by omega) (vp (by omega) (vp (by omega) (vs _))))
  ·intro s _
   simp only[bJ.l0,List.length_map]
   exact vn (by omega) (vs _)
 ·refine vn (by omega) (vq (vs _) ?_)
  rw[eq_comm];exact decide_eq_false (fun h=>hl (by rw[h]))
theorem ahR (k l:List Pt) (hn:k.length≤1000000000000) (ih:∀p∈k,∀q,Ev (fun n=>iT.f n (e32 p).f0 (e32 p).f1 (e32 p).f2 (e32 q).f0 (e32 q).f1 (e32 q).f2) (smt p q)):
  ∀(r s p q:List Pt),k=p++r→l=q++s→q.length=p.length→r.length=s.length→Ev (fun n=>gX.l0 n (l.map e32) (k.map e32) (k.length:Int) (p.length:Int)) (abo r s):=by
 intro r
 induction r with
 |nil=>
  intro s p q h1 h2 h3 h4
  have hz:k.length=p.length:=by rw[h1,List.append_nil]
  refine vc ?_
  simp only[gX.l0,abo]
  exact vn (by omega) (vs _)
 |cons c r ihr=>
  intro s p q h1 h2 h3 h4
  cases s with
  |nil=>simp at h4
  |cons d s=>
   have hz:=iV h1
   have hz2:=iV h2
   have e1:=AQ h1
   have e2:=AQ h2
   rw[h3]at e2
   have w1:wrap64 ((p.length:Int)+1)=(p.length:Int)+1:=aU (by omega) (by omega)
   have hk:=ih c (by rw[h1];simp) d
   have hr:=ihr s (p++[c]) (q++[d]) (by rw[h1];simp) (by rw[h2];simp) (by simp[h3]) (by simpa using h4)
   rw[l7]at hr
   refine vc ?_
   simp only[gX.l0,e1,e2,w1,List.length_map,abo]
   clear w1 e1 e2
   refine vp (by omega) (vp (by omega) (vp (by omega) (vp (by omega) (vb hk ?_))))
   cases smt c d with
   |true=>exact vp rfl hr
   |false=>exact vn (by simp) (vs _)
theorem GX (p:Pt):∀q,Et p≤1000000000000→Ev (fun n=>iT.f n (e32 p).f0 (e32 p).f1 (e32 p).f2 (e32 q).f0 (e32 q).f1 (e32 q).f2) (smt p q):=by
 refine Me (P:=fun p=>∀q,Et p≤1000000000000→Ev (fun n=>iT.f n (e32 p).f0 (e32 p).f1 (e32 p).f2 (e32 q).f0 (e32 q).f1 (e32 q).f2) (smt p q)) (fun f b k ih q hs=>?_) p
 cases q with
 |mk g c l=>
  rw[Et]at hs
  simp only[vS]
  refine vc ?_
  simp only[iT.f,List.length_map]
  rw[smt]
  refine vb (MQ f g (by omega)) ?_
  by_cases h1:f=g
  ·refine vp (by simp[h1]) (vb (auS b c (by omega)) ?_)
   by_cases h2:b=c
   ·refine vp (by simp[h2]) ?_
    by_cases h3:k.length=l.length
    ·refine vb (vp (by omega) (ahR k l (by omega) (fun p hp q=>ih p hp q (by have:=Gx hp;omega)) k l [] [] rfl rfl rfl h3)) (vq (vs _) ?_)
     simp[h1,h2,h3]
    ·refine vb (vn (by omega) (vs _)) (vq (vs _) ?_)
     simp[h3]
   ·exact vn (by simp[h2]) (vq (vs _) (by simp[h2]))
  ·exact vn (by simp[h1]) (vq (vs _) (by simp[h1]))
/-! Parts that are drawn: each is some part of a bounded size. -/
def ZT (f:List (Str×Str)) (b:List Str) (k:List Pt):Nat:=f.length+Es f+b.length+ER b+k.length+Ia k
theorem alW (x:jV):(⟨x.f0,x.f1,x.f2⟩:jV)=x:=by cases x;rfl
theorem R_ (a b:List Pt):Ia (a++b)=Ia a+Ia b:=by
 induction a with
 |nil=>simp[Ia]
 |cons c a ih=>simp only[List.cons_append,Ia,ih];omega
def szR:List fP→Nat
 |[]=>0
 |x:: r=>x.f0.size+x.f1.size+szR r
theorem fields_of (R:List fP):∃f:List (Str×Str),R=f.map uU∧Es f=szR R∧f.length=R.length:=by
 induction R with
 |nil=>exact⟨[],rfl,rfl,rfl⟩
 |cons x r ih=>
  obtain⟨f,h1,h2,h3⟩:=ih
  refine⟨(L x.f0,L x.f1):: f,by rw[List.map_cons,←h1];rfl,by simp only[Es,szR,h2,MP],by simp[h3]⟩
theorem ZU (l:List Int) (p:Int) (ws:List ByteArray) (M:Nat) (hl:IsB l) (h0:0≤p) (h1:p≤1000000000) (hn:1≤ws.length) (hn2:ws.length≤1000000) (hM:∀x∈ws,x.size≤M):
  ∃s:Str,Ev (fun k=>fU.f k l p ws) (aY s,p+1)∧s.length≤M:=by
 obtain⟨v,h,hm⟩:=aCu l p ws hl h0 h1 hn hn2
 exact⟨L v,h,by rw[←MP];exact hM v hm⟩
theorem VI (p:Pt):Et p≤1000000000→Ev (fun n=>iE.f n (e32 p).f0 (e32 p).f1 (e32 p).f2) ((e32 p).f0,(e32 p).f1,(e32 p).f2):=by
 refine Me (P:=fun p=>Et p≤1000000000→Ev (fun n=>iE.f n (e32 p).f0 (e32 p).f1 (e32 p).f2) ((e32 p).f0,(e32 p).f1,(e32 p).f2)) ?_ p
 intro f b k ih hs
 rw[Et]at hs
 simp only[vS]
 have key:∀(r q:List Pt),k=q++r→Ev (fun n=>gy.l0 n (q.map e32) (k.map e32) (k.length:Int) (q.length:Int)) (k.map e32):=by
  intro r
  induction r with
  |nil=>
   intro q h
   have hz:k.length=q.length:=by rw[h];simp
   refine vc ?_
   simp only[gy.l0]
   exact vn (by omega) (vq (vs _) (by rw[h,List.append_nil]))
  |cons c r ihr=>
   intro q h
   have hz:k.length=q.length+(r.length+1):=by rw[h];simp
   have e1:=AQ h
   have hm:c∈k:=by rw[h];simp
   have hc:=Gx hm
   have g:=ih c hm (by omega)
   have w1:Unit→wrap64 ((q.length:Int)+1)=(((q++[c]).length:Nat):Int):=fun _=>by rw[aU (by omega) (by omega)];simp
   have g2:=ihr (q++[c]) (by rw[h];simp)
   rw[List.map_append,List.map_singleton]at g2
   refine vc ?_
   simp only[gy.l0,List.length_map,e1,w1 ()]
   refine vp (by omega) (vp (by omega) (vp (by omega) (vb g ?_)))
   simp only[alW]
   exact vp (by omega) g2
 have k0:=key k [] rfl
 refine vc ?_
 simp only[iE.f,List.length_map]
 refine jI rfl (vp (by simp;omega) (jI rfl (vp (by simp;omega) (vb k0 (vq (vs _) (by simp))))))
theorem XK (p:Pt):Et p≤1000000000→Ev (fun n=>dJ.f n (e32 p).f0 (e32 p).f1 (e32 p).f2) ((e32 p).f0,(e32 p).f1,(e32 p).f2):=by
 refine Me (P:=fun p=>Et p≤1000000000→Ev (fun n=>dJ.f n (e32 p).f0 (e32 p).f1 (e32 p).f2) ((e32 p).f0,(e32 p).f1,(e32 p).f2)) ?_ p
 intro f b k ih hs
 rw[Et]at hs
 simp only[vS]
 have key:∀(r q:List Pt),k=q++r→Ev (fun n=>dJ.l0 n (q.length:Int) (f.map uU) (b.map aY) (k.map e32) (f.map uU) (b.map aY) (q.map e32)) (f.map uU,b.map aY,k.map e32):=by
  intro r
  induction r with
  |nil=>
   intro q h
   have hz:k.length=q.length:=by rw[h];simp
   refine vc ?_
   simp only[dJ.l0,List.length_map]
   exact vn (by omega) (vq (vs _) (by rw[h,List.append_nil]))
  |cons c r ihr=>
   intro q h
   have hz:k.length=q.length+(r.length+1):=by rw[h];simp
   have e1:=AQ h
   have hm:c∈k:=by rw[h];simp
   have hc:=Gx hm
   have g:=ih c hm (by omega)
   have w1:Unit→wrap64 ((q.length:Int)+1)=(((q++[c]).length:Nat):Int):=fun _=>by rw[aU (by omega) (by omega)];simp
   have g2:=ihr (q++[c]) (by rw[h];simp)
   rw[List.map_append,List.map_singleton]at g2
   refine vc ?_
   simp only[dJ.l0,List.length_map,e1,w1 ()]
   refine vp (by omega) (vp (by omega) (vb g ?_))
   simp only[alW]
   exact vp (by omega) g2
 have k0:=key k [] rfl
 refine vc ?_
 simp only[dJ.f,List.length_map]
 exact jI rfl (vp (by simp;omega) (jI rfl (vp (by simp;omega) k0)))
theorem VJ (n s:Str) (hn:n.length≤1000) (hs:s.length≤1000):∃(f:List (Str×Str)) (b:List Str) (ok:Bool),Ev (fun k=>gY.f k (aY n) (aY s)) (f.map uU,b.map aY,([]:List jV),ok)∧ZT f b []≤19000:=by
 obtain⟨u,o1,g1,h1⟩:=MO n (by omega)
 obtain⟨c,o2,g2,h2,h3⟩:=abI s hs
 obtain⟨ls,o3,g3,h4⟩:=VH s hs c
 have hv:=zC ([83,117,98,106,101,99,116],u) (by simp) (by show u.length≤_;omega)
 have hb:=JK ls (fun x hx=>by have:=ZI hx;omega) (by omega)
 have bad:ZT [] [] []≤19000:=by decide
 unfold gY.f
 by_cases c1:o1=true
 ·by_cases c2:o2=true
  ·by_cases c3:o3=true
   ·by_cases c4:fv ([83,117,98,106,101,99,116],u)=true
    ·by_cases c5:tbs ls=true
     ·have fin:∀v:ByteArray,v.size≤16→∃f:List (Str×Str),([(⟨(⟨#[83,117,98,106,101,99,116]⟩:ByteArray),aY u⟩:fP),(⟨(⟨#[67,111,110,116,101,110,116,45,84,121,112,101]⟩:ByteArray),(⟨#[116,101,120,116,47,112,108,97,105,110,59,32,99,104,97,114,115,101,116,61,117,116,102,45,56]⟩:ByteArray)⟩:fP),(⟨(⟨#[67,111,110,116,101,110,116,45,84,114,97,110,115,102,101,114,45,69,110,99,111,100,105,110,103]⟩:ByteArray),v⟩:fP)]:List fP)=f.map uU∧ZT f ls []≤19000:=by
       intro v hv
       obtain⟨f,k1,k2,k3⟩:=fields_of ([(⟨(⟨#[83,117,98,106,101,99,116]⟩:ByteArray),aY u⟩:fP),(⟨(⟨#[67,111,110,116,101,110,116,45,84,121,112,101]⟩:ByteArray),(⟨#[116,101,120,116,47,112,108,97,105,110,59,32,99,104,97,114,115,101,116,61,117,116,102,45,56]⟩:ByteArray)⟩:fP),(⟨(⟨#[67,111,110,116,101,110,116,45,84,114,97,110,115,102,101,114,45,69,110,99,111,100,105,110,103]⟩:ByteArray),v⟩:fP)])
       refine⟨f,k1,?_⟩
       have e:Es f=7+u.length+(12+25+(25+v.size+0)):=by rw[k2];simp only[szR,aC];rfl
       have e2:f.length=3:=k3
       unfold ZT
       simp only[Ia,List.length_nil]
       omega
      have hc:c=0∨c=1∨c=2:=by omega
      obtain⟨v,hv1,hv2⟩:∃v,qH ByteArray.empty ([(⟨#[55,98,105,116]⟩:ByteArray),(⟨#[113,117,111,116,101,100,45,112,114,105,110,116,97,98,108,101]⟩:ByteArray),(⟨#[98,97,115,101,54,52]⟩:ByteArray)]:List ByteArray) c=v∧v.size≤16:=by
       rcases hc with rfl|rfl|rfl
       ·exact⟨_,rfl,by decide⟩
       ·exact⟨_,rfl,by decide⟩
       ·exact⟨_,rfl,by decide⟩
      obtain⟨f,k1,k2⟩:=fin v hv2
      refine⟨f,ls,true,vb g1 (vb g2 (vb g3 (vp c1 (vp c2 (vp c3 (vb hv (vp c4 (vb hb (vp c5 (jI rfl (vp h2 (vp ?_ ?_)))))))))))),k2⟩
      ·show c<((3:Nat):Int)
       omega
      ·refine vq (vs _) ?_
       rw[←k1,hv1]
     ·exact⟨[],[],false,vb g1 (vb g2 (vb g3 (vp c1 (vp c2 (vp c3 (vb hv (vp c4 (vb hb (vn c5 (vs _)))))))))),bad⟩
    ·exact⟨[],[],false,vb g1 (vb g2 (vb g3 (vp c1 (vp c2 (vp c3 (vb hv (vn c4 (vs _)))))))),bad⟩
   ·exact⟨[],[],false,vb g1 (vb g2 (vb g3 (vp c1 (vp c2 (vn c3 (vs _)))))),bad⟩
  ·exact⟨[],[],false,vb g1 (vb g2 (vb g3 (vp c1 (vn c2 (vs _))))),bad⟩
 ·exact⟨[],[],false,vb g1 (vb g2 (vb g3 (vn c1 (vs _)))),bad⟩
theorem abK (n s:Str) (hn:n.length≤1000) (hs:s.length≤1000):∃(f:List (Str×Str)) (b:List Str) (ok:Bool),Ev (fun k=>uO.f k (aY n) (aY s)) (f.map uU,b.map aY,([]:List jV),ok)∧ZT f b []≤19000:=by
 obtain⟨f,b,ok,g1,h1⟩:=VJ n s hn hs
 have g2:=VI (.mk f b []) (by rw[Et];unfold ZT at h1;omega)
 rw[vS]at g2
 refine⟨f,b,ok,?_,h1⟩
 unfold uO.f
 exact vb g1 (vb g2 (vs _))
theorem ahS (l:List Int) (q:Int):∀(n:Nat) (s:Str),301≤s.length+10*n→s.length≤1000→∃t:Str,Ev (fun k=>jc.l1 k (aY s) l q) (aY t,q)∧t.length≤1000:=by
 intro n
 induction n with
 |zero=>
  intro s h h1
  refine⟨s,vc ?_,h1⟩
  simp only[jc.l1,aC]
  exact vn (by omega) (vs _)
 |succ n ih=>
  intro s h h1
  by_cases c:(s.length:Int)≤300
  ·obtain⟨t,g,g2⟩:=ih (s++[48,49,50,51,52,53,54,55,56,57]) (by simp;omega) (by simp;omega)
   rw[←kX]at g
   refine⟨t,vc ?_,g2⟩
   simp only[jc.l1,aC]
   exact vp c (vp (by omega) g)
  ·refine⟨s,vc ?_,h1⟩
   simp only[jc.l1,aC]
   exact vn c (vs _)
theorem ahT (l:List Int) (hl:IsB l) (p:Int) (h0:0≤p) (h1:p≤100000000):∃(s:Str) (q:Int),Ev (fun k=>jc.f k l p) (aY s,q)∧s.length≤1000∧p≤q∧q≤p+20:=by
 have key:∀(n:Nat) (s:Str) (p:Int),0≤p→p+n≤200000000→s.length+60*n≤600→∃(t:Str) (q:Int),Ev (fun k=>jc.l0 k (aY s) (n:Int) l p) (aY t,q)∧t.length≤1000∧p≤q∧q≤p+n+1:=by
  intro n
  induction n with
  |zero=>
   intro s p h0 h1 h2
   obtain⟨i,hi,i0,i1⟩:=Ko l p 40 hl h0 (by omega) (by omega) (by omega)
   by_cases c:i=0
   ·obtain⟨t,g,g2⟩:=ahS l (p+1) 31 s (by omega) (by omega)
    refine⟨t,p+1,vc ?_,g2,by omega,by omega⟩
    simp only[jc.l0]
    exact vn (by omega) (vb hi (vp c g))
   ·refine⟨s,p+1,vc ?_,by omega,by omega,by omega⟩
    simp only[jc.l0]
    exact vn (by omega) (vb hi (vn c (vs _)))
  |succ n ih=>
   intro s p h0 h1 h2
   obtain⟨v,hv,hm⟩:=ZU l p (([(⟨#[104,101,108,108,111]⟩:ByteArray),(⟨#[32]⟩:ByteArray),(⟨#[61]⟩:ByteArray),(⟨#[10]⟩:ByteArray),(⟨#[255,0]⟩:ByteArray),(⟨#[99,97,102,195,169]⟩:ByteArray),(⟨#[97,32,108,111,110,103,101,114,32,114,111,119,32,111,102,32,119,111,114,100,115,32,116,104,97,116,32,105,115,32,98,114,111,107,101,110,32,104,101,114,101]⟩:ByteArray),(⟨#[120]⟩:ByteArray),(⟨#[46]⟩:ByteArray),(⟨#[9]⟩:ByteArray)]:List ByteArray)) 60 hl h0 (by omega) (by simp) (by simp) (by decide)
   obtain⟨t,q,g1,g2,g3,g4⟩:=ih (s++v) (p+1) (by omega) (by omega) (by simp;omega)
   have w1:Unit→wrap64 (((n+1:Nat):Int)-1)=(n:Int):=fun _=>by rw[aU (by omega) (by omega)];omega
   rw[←kX]at g1
   refine⟨t,q,vc ?_,g2,by omega,by omega⟩
   simp only[jc.l0,w1 ()]
   refine vp (by omega) (vb hv ?_)
   simp only[aC]
   exact vp (by omega) g1
 obtain⟨n,hn,hm⟩:=QI l p [3,2,5,1,0,8] hl h0 (by omega) (by simp) (by simp)
 obtain⟨m,rfl,hm⟩:=Gy hm 8 (by decide)
 obtain⟨t,q,g1,g2,g3,g4⟩:=key m [] (p+1) (by omega) (by omega) (by simp;omega)
 refine⟨t,q,?_,g2,by omega,by omega⟩
 unfold jc.f
 exact vb hn g1
theorem ahU (l:List Int) (hl:IsB l) (p:Int) (h0:0≤p) (h1:p≤500000000):∃a b:Str,Ev (fun k=>yg.f k l p) (aY a,aY b,p+2)∧a.length≤100∧b.length≤100:=by
 obtain⟨a,g1,h2⟩:=ZU l p ([(⟨#[84,111]⟩:ByteArray),(⟨#[70,114,111,109]⟩:ByteArray),(⟨#[83,117,98,106,101,99,116]⟩:ByteArray),(⟨#[88,45,89]⟩:ByteArray),(⟨#[82,101,99,101,105,118,101,100]⟩:ByteArray),(⟨#[116,111]⟩:ByteArray),(⟨#[68,97,116,101]⟩:ByteArray)]:List ByteArray) 100 hl h0 (by omega) (by simp) (by simp) (by decide)
 obtain⟨b,g2,h3⟩:=ZU l (p+1) ([(⟨#[]⟩:ByteArray),(⟨#[120]⟩:ByteArray),(⟨#[97,32,98]⟩:ByteArray),(⟨#[104,101,108,108,111,32,116,104,101,114,101,44,32,116,104,105,115,32,105,115,32,97,32,108,111,110,103,101,114,32,118,97,108,117,101,32,116,104,97,116,32,105,115,32,98,114,111,107,101,110]⟩:ByteArray),(⟨#[97,97,97,97,97,97,97,97,97,97,97,97,97,97,97,97,97,97,97,97,97,97,97,97,97,97,97,97,97,97,97,97,97,97,97,97,97,97,97,97,97,97,97,97,97,97,97,97,97,97,97,32,98]⟩:ByteArray),(⟨#[116,119,111,32,32,115,112,97,99,101,115,32,115,116,97,121,32,32,116,111,103,101,116,104,101,114,32,105,110,32,104,101,114,101,44,32,97,110,100,32,115,111,32,100,111,32,116,104,101,115,101,32,32,111,110,101,115]⟩:ByteArray),(⟨#[97,58,98]⟩:ByteArray),(⟨#[111,110,101,32,116,119,111,32,116,104,114,101,101,32,102,111,117,114,32,102,105,118,101,32,115,105,120,32,115,101,118,101,110,32,101,105,103,104,116,32,110,105,110,101,32,116,101,110,32,101,108,101,118,101,110]⟩:ByteArray)]:List ByteArray) 100 hl (by omega) (by omega) (by simp) (by simp) (by decide)
 refine⟨a,b,?_,h2,h3⟩
 unfold yg.f
 have e:p+1+1=p+2:=by omega
 rw[e]at g2
 exact vb g1 (vb g2 (vs _))
theorem ahV (l:List Int) (hl:IsB l) (p:Int) (h0:0≤p) (h1:p≤100000000):∃(f:List (Str×Str)) (q:Int),Ev (fun k=>mZ.f k l p) (f.map uU,q)∧f.length+Es f≤1000∧p≤q∧q≤p+20:=by
 have key:∀(n:Nat) (f:List (Str×Str)) (p:Int),0≤p→p+2*n≤200000000→f.length+Es f+201*n≤1000→∃(f2:List (Str×Str)) (q:Int),Ev (fun k=>mZ.l0 k (f.map uU) (n:Int) l p) (f2.map uU,q)∧f2.length+Es f2≤1000∧p≤q∧q≤p+2*n:=by
  intro n
  induction n with
  |zero=>
   intro f p h0 h1 h2
   refine⟨f,p,vc ?_,by omega,by omega,by omega⟩
   simp only[mZ.l0]
   exact vn (by omega) (vs _)
  |succ n ih=>
   intro f p h0 h1 h2
   obtain⟨a,b,g1,h3,h4⟩:=ahU l hl p h0 (by omega)
   obtain⟨f2,q,g2,h5,h6,h7⟩:=ih (f++[(a,b)]) (p+2) (by omega) (by omega) (by rw[BN];simp[Es];omega)
   have w1:Unit→wrap64 (((n+1:Nat):Int)-1)=(n:Int):=fun _=>by rw[aU (by omega) (by omega)];omega
   rw[List.map_append,List.map_singleton]at g2
   refine⟨f2,q,vc ?_,h5,by omega,by omega⟩
   simp only[mZ.l0,w1 (),List.length_map]
   exact vp (by omega) (vb g1 (vp (by omega) g2))
 obtain⟨n,hn,hm⟩:=QI l p [2,3,1,0,4] hl h0 (by omega) (by simp) (by simp)
 obtain⟨m,rfl,hm⟩:=Gy hm 4 (by decide)
 obtain⟨f,q,g1,g2,g3,g4⟩:=key m [] (p+1) (by omega) (by omega) (by simp[Es];omega)
 refine⟨f,q,?_,g2,by omega,by omega⟩
 unfold mZ.f
 exact vb hn g1
theorem XL (l:List Int) (hl:IsB l) (p:Int) (h0:0≤p) (h1:p≤10000000):∃(f:List (Str×Str)) (b:List Str) (q:Int),Ev (fun k=>iR.f k l p) (f.map uU,b.map aY,([]:List jV),q)∧ZT f b []≤19000∧p≤q∧q≤p+60:=by
 have key:∀(f:List (Str×Str)) (n:Nat) (b:List Str) (p:Int),0≤p→p+n≤200000000→b.length+ER b+101*n≤1000→∃(b2:List Str) (q:Int),Ev (fun k=>iR.l0 k (n:Int) l p (f.map uU) (b.map aY)) (f.map uU,b2.map aY,([]:List jV),q)∧b2.length+ER b2≤1000∧p≤q∧q≤p+n:=by
  intro f n
  induction n with
  |zero=>
   intro b p h0 h1 h2
   refine⟨b,p,vc ?_,by omega,by omega,by omega⟩
   simp only[iR.l0]
   exact vn (by omega) (vs _)
  |succ n ih=>
   intro b p h0 h1 h2
   obtain⟨v,g1,h3⟩:=ZU l p ([(⟨#[97]⟩:ByteArray),(⟨#[]⟩:ByteArray),(⟨#[116,101,120,116,32,111,102,32,97,32,108,105,110,101]⟩:ByteArray),(⟨#[45,45,98,49]⟩:ByteArray),(⟨#[45,45,120]⟩:ByteArray)]:List ByteArray) 100 hl h0 (by omega) (by simp) (by simp) (by decide)
   obtain⟨b2,q,g2,h5,h6,h7⟩:=ih (b++[v]) (p+1) (by omega) (by omega) (by rw[yw];simp;omega)
   have w1:Unit→wrap64 (((n+1:Nat):Int)-1)=(n:Int):=fun _=>by rw[aU (by omega) (by omega)];omega
   rw[List.map_append,List.map_singleton]at g2
   refine⟨b2,q,vc ?_,h5,by omega,by omega⟩
   simp only[iR.l0,w1 (),List.length_map]
   exact vp (by omega) (vb g1 (vp (by omega) g2))
 obtain⟨i,hi,i0,i1⟩:=Ko l p 2 hl h0 (by omega) (by omega) (by omega)
 unfold iR.f
 by_cases c:i=0
 ·obtain⟨v,g1,h2⟩:=ZU l (p+1) ([(⟨#[104,101,108,108,111]⟩:ByteArray),(⟨#[90,111,195,171]⟩:ByteArray),(⟨#[]⟩:ByteArray)]:List ByteArray) 100 hl (by omega) (by omega) (by simp) (by simp) (by decide)
  obtain⟨s,q,g2,h3,h4,h5⟩:=ahT l hl (p+1+1) (by omega) (by omega)
  obtain⟨f,b,ok,g3,h6⟩:=abK v s (by omega) h3
  exact⟨f,b,q,vb hi (vp c (vb g1 (vb g2 (vb g3 (vs _))))),h6,by omega,by omega⟩
 ·obtain⟨f,q,g1,h2,h3,h4⟩:=ahV l hl (p+1) (by omega) (by omega)
  obtain⟨n,hn,hm⟩:=QI l q [1,2,0,3] hl (by omega) (by omega) (by simp) (by simp)
  obtain⟨m,rfl,hm⟩:=Gy hm 3 (by decide)
  obtain⟨b,q2,g2,h5,h6,h7⟩:=key f m [] (q+1) (by omega) (by omega) (by simp[ER];omega)
  exact⟨f,b,q2,vb hi (vn c (vb g1 (vb hn g2))),by unfold ZT;simp only[Ia,List.length_nil];omega,by omega,by omega⟩
def dB:Nat→Nat
 |0=>19000
 |d+1=>3*dB d+1000
def dQ:Nat→Nat
 |0=>64
 |d+1=>3*dQ d+10
theorem ZV (f:List (Str×Str)) (b:List Str) (k:List Pt):Et (.mk f b k)=ZT f b k:=by rw[Et];rfl
theorem aCA (d:Nat):19000≤dB d∧64≤dQ d:=by
 induction d with
 |zero=>exact⟨Nat.le_refl _,Nat.le_refl _⟩
 |succ d ih=>unfold dB dQ;omega
theorem ahW (l:List Int) (hl:IsB l):∀d:Nat,d≤2→∀p:Int,0≤p→p+dQ d≤1000000→∃(f:List (Str×Str)) (b:List Str) (k:List Pt) (q:Int),Ev (fun n=>eu.f n l p ((d+1:Nat):Int)) (f.map uU,b.map aY,k.map e32,q)∧ZT f b k≤dB d∧p≤q∧q≤p+dQ d:=by
 have leaf:∀(d:Nat) (x1 p p0:Int),0≤p→p≤2000000→p0≤p→p≤p0+1→∃(f:List (Str×Str)) (b:List Str) (k:List Pt) (q:Int),Ev (fun n=>eu.j0 n x1 true l p) (f.map uU,b.map aY,k.map e32,q)∧ZT f b k≤dB d∧p0≤q∧q≤p0+dQ d:=by
  intro d x1 p p0 h0 h1 h2 h3
  obtain⟨f,b,q,g1,h4,h5,h6⟩:=XL l hl p h0 (by omega)
  have hd:=aCA d
  refine⟨f,b,[],q,vc ?_,by omega,by omega,by omega⟩
  simp only[eu.j0]
  exact vp trivial (vb g1 (vs _))
 intro d
 induction d with
 |zero=>
  intro _ p h0 h1
  obtain⟨f,b,k,q,g1,h2,h3,h4⟩:=leaf 0 ((0+1:Nat):Int) p p h0 (by omega) (by omega) (by omega)
  refine⟨f,b,k,q,vc ?_,h2,h3,h4⟩
  simp only[eu.f]
  exact vp (by omega) g1
 |succ d ih=>
  intro hd2 p h0 h1
  have hdb:dB d≤100000∧dQ d≤1000:=by
   have:d=0∨d=1:=by omega
   rcases this with rfl|rfl<;>decide
  have eB:dB (d+1)=3*dB d+1000:=rfl
  have eQ:dQ (d+1)=3*dQ d+10:=rfl
  have w0:Unit→wrap64 (((d+1+1:Nat):Int)-1)=((d+1:Nat):Int):=fun _=>by rw[aU (by omega) (by omega)];omega
  have key:∀(F:List fP) (n:Nat),n≤3→∀(kk:List Pt) (p:Int),0≤p→p+n*dQ d≤1000000→kk.length+Ia kk+n*(dB d+1)≤3*dB d+3→∃(k:List Pt) (q:Int),Ev (fun m=>eu.l0 m ((d+1+1:Nat):Int) (n:Int) l p F (kk.map e32)) (F,([]:List ByteArray),k.map e32,q)∧k.length+Ia k≤3*dB d+3∧p≤q∧q≤p+n*dQ d:=by
   intro F n
   induction n with
   |zero=>
    intro _ kk p h0 h1 h2
    refine⟨kk,p,vc ?_,by omega,by omega,by omega⟩
    simp only[eu.l0]
    exact vn (by omega) (vs _)
   |succ n ihn=>
    intro hn3 kk p h0 h1 h2
    rw[Nat.succ_mul]at h2
    have m1:(((n+1:Nat):Int))*(dQ d:Int)=(n:Int)*(dQ d:Int)+(dQ d:Int):=by rw[Int.natCast_add,Int.add_mul];simp
    have m2:(0:Int)≤(n:Int)*(dQ d:Int):=Int.mul_nonneg (by omega) (by omega)
    rw[m1]at h1
    obtain⟨f,b,k,q,g1,h3,h4,h5⟩:=ih (by omega) p h0 (by omega)
    have hs:=ZV f b k
    obtain⟨k2,q2,g2,h6,h7,h8⟩:=ihn (by omega) (kk++[.mk f b k]) q (by omega) (by omega) (by rw[R_];simp only[List.length_append,List.length_cons,List.length_nil,Ia];omega)
    have w1:Unit→wrap64 (((n+1:Nat):Int)-1)=(n:Int):=fun _=>by rw[aU (by omega) (by omega)];omega
    have hkk:kk.length≤1000000:=by
     have:0≤n*(dB d+1):=Nat.zero_le _
     omega
    rw[List.map_append,List.map_singleton,vS]at g2
    refine⟨k2,q2,vc ?_,h6,by omega,by rw[m1];omega⟩
    simp only[eu.l0,w1 (),w0 (),List.length_map]
    clear w1 w0
    exact vp (by omega) (vb g1 (vp (by omega) g2))
  obtain⟨i,hi,i0,i1⟩:=Ko l p 2 hl h0 (by omega) (by omega) (by omega)
  by_cases c:i=0
  ·obtain⟨f,b,k,q,g1,h2,h3,h4⟩:=leaf (d+1) ((d+1+1:Nat):Int) (p+1) p (by omega) (by omega) (by omega) (by omega)
   refine⟨f,b,k,q,vc ?_,h2,h3,h4⟩
   simp only[eu.f]
   refine vn (by omega) (vb hi ?_)
   rw[c]
   exact g1
  ·obtain⟨v,g1,h2⟩:=ZU l (p+1) ([(⟨#[109,117,108,116,105,112,97,114,116,47,109,105,120,101,100,59,32,98,111,117,110,100,97,114,121,61,98,48]⟩:ByteArray),(⟨#[77,117,108,116,105,112,97,114,116,47,97,108,116,101,114,110,97,116,105,118,101,59,32,66,111,117,110,100,97,114,121,61,98,50]⟩:ByteArray),(⟨#[109,117,108,116,105,112,97,114,116,47,109,105,120,101,100,59,32,98,111,117,110,100,97,114,121,61,120,121,122]⟩:ByteArray)]:List ByteArray) 100 hl (by omega) (by omega) (by simp) (by simp) (by decide)
   obtain⟨n,hn,hm⟩:=QI l (p+1+1) [2,1,3] hl (by omega) (by omega) (by simp) (by simp)
   obtain⟨m,rfl,hm2⟩:=Gy hm 3 (by decide)
   obtain⟨f,k1,k2,k3⟩:=fields_of ([(⟨(⟨#[83,117,98,106,101,99,116]⟩:ByteArray),(⟨#[109,97,110,121]⟩:ByteArray)⟩:fP),(⟨(⟨#[67,111,110,116,101,110,116,45,84,121,112,101]⟩:ByteArray),aY v⟩:fP)]:List (fP))
   have e:Es f≤300:=by
    rw[k2]
    have:szR ([(⟨(⟨#[83,117,98,106,101,99,116]⟩:ByteArray),(⟨#[109,97,110,121]⟩:ByteArray)⟩:fP),(⟨(⟨#[67,111,110,116,101,110,116,45,84,121,112,101]⟩:ByteArray),aY v⟩:fP)]:List (fP))=_:=rfl
    simp only[szR,aC]
    have hA:∀a b c x:Nat,a+b≤100→c≤100→x≤100→a+b+(c+x+0)≤300:=by intros;omega
    exact hA _ _ _ _ (by decide) (by decide) h2
   have e2:f.length=2:=k3
   have hmq:(m:Int)*(dQ d:Int)≤3*(dQ d:Int):=Int.mul_le_mul_of_nonneg_right (by omega) (by omega)
   have hmb:m*(dB d+1)≤3*(dB d+1):=Nat.mul_le_mul_right _ hm2
   obtain⟨k,q,g2,h3,h4,h5⟩:=key ([(⟨(⟨#[83,117,98,106,101,99,116]⟩:ByteArray),(⟨#[109,97,110,121]⟩:ByteArray)⟩:fP),(⟨(⟨#[67,111,110,116,101,110,116,45,84,121,112,101]⟩:ByteArray),aY v⟩:fP)]:List (fP)) m hm2 [] (p+1+1+1) (by omega) (by omega) (by simp[Ia];omega)
   refine⟨f,[],k,q,vc ?_,by unfold ZT;simp only[ER,List.length_nil];omega,by omega,by omega⟩
   rw[←k1]
   simp only[eu.f]
   refine vn (by omega) (vb hi ?_)
   have hf:(i==0)=false:=by simp[c]
   simp only[hf]
   refine vc ?_
   simp only[eu.j0]
   exact vn (by simp) (vb g1 (vb hn g2))
theorem adN (l:List Int) (hl:IsB l) (p:Int) (h0:0≤p) (h1:p≤1000000) (f:List (Str×Str)) (b:List Str) (k:List Pt) (hs:ZT f b k≤500000):
  ∃(f2:List (Str×Str)) (b2:List Str) (k2:List Pt) (q:Int),Ev (fun n=>dS.f n l p (f.map uU) (b.map aY) (k.map e32)) (f2.map uU,b2.map aY,k2.map e32,q)∧ZT f2 b2 k2≤ZT f b k+20000∧p≤q∧q≤p+70:=by
 have cp:=XK (.mk f b k) (by rw[ZV];omega)
 rw[vS]at cp
 obtain⟨i,hi,i0,i1⟩:=Ko l p 20 hl h0 (by omega) (by omega) (by omega)
 have hs0:=hs
 unfold ZT at hs0
 unfold dS.f
 by_cases c0:i=0
 ·obtain⟨v,g1,h2⟩:=ZU l (p+1) ([(⟨#[10]⟩:ByteArray),(⟨#[120]⟩:ByteArray)]:List ByteArray) 100 hl (by omega) (by omega) (by simp) (by simp) (by decide)
  refine⟨f,b++[v],k,p+1+1,vb cp (vb hi (vp c0 (vb g1 (vp (by rw[List.length_map];omega) (vq (vs _) (by simp)))))),by unfold ZT;rw[yw];simp;omega,by omega,by omega⟩
 by_cases c1:i=1
 ·obtain⟨v,g1,h2⟩:=ZU l (p+1) ([(⟨#[97,32,98]⟩:ByteArray),(⟨#[79,107]⟩:ByteArray)]:List ByteArray) 100 hl (by omega) (by omega) (by simp) (by simp) (by decide)
  obtain⟨u,g2,h3⟩:=ZU l (p+1+1) ([(⟨#[32,120]⟩:ByteArray),(⟨#[120]⟩:ByteArray)]:List ByteArray) 100 hl (by omega) (by omega) (by simp) (by simp) (by decide)
  refine⟨f++[(v,u)],b,k,p+1+1+1,vb cp (vb hi (vn c0 (vp c1 (vb g1 (vb g2 (vp (by rw[List.length_map];omega) (vq (vs _) (by simp[uU])))))))),by unfold ZT;rw[BN];simp[Es];omega,by omega,by omega⟩
 by_cases c2:i=2
 ·obtain⟨g,c,q,g1,h2,h3,h4⟩:=XL l hl (p+1) (by omega) (by omega)
  have e:k.map e32++[(⟨g.map uU,c.map aY,([]:List jV)⟩:jV)]=(k++[Pt.mk g c []]).map e32:=by
   rw[List.map_append,List.map_singleton,vS];rfl
  refine⟨f,b,k++[Pt.mk g c []],q,vb cp (vb hi (vn c0 (vn c1 (vp c2 (vb g1 (vp (by rw[List.length_map];omega) (vq (vs _) (by rw[←e]))))))))
   ,by unfold ZT;rw[R_];simp only[Ia,ZV,List.length_append,List.length_cons,List.length_nil];omega,by omega,by omega⟩
 ·exact⟨f,b,k,p+1,vb cp (vb hi (vn c0 (vn c1 (vn c2 (vs _))))),by omega,by omega,by omega⟩
theorem ahX (l:List Int) (h:∀x∈l,(Lit.int .u8 x).wf=true):∃p:Pt,Ev (fun k=>yj.f k l) ((e32 p).f0,(e32 p).f1,(e32 p).f2)∧Et p≤500000:=by
 obtain⟨l2,ho,hl⟩:=agv l h
 have e1:dB 2=175000:=by decide
 have e2:dQ 2=616:=by decide
 obtain⟨f,b,k,q,g1,h1,h2,h3⟩:=ahW l2 hl 2 (by omega) 0 (by omega) (by omega)
 obtain⟨f2,b2,k2,q2,g2,h4,h5,h6⟩:=adN l2 hl q (by omega) (by omega) f b k (by omega)
 unfold yj.f
 refine⟨.mk f2 b2 k2,?_,by rw[ZV];omega⟩
 rw[vS]
 exact jI ho (vb g1 (vb g2 (vs _)))
/-! How many leaves a part has. -/
mutual
def lv:Pt→Nat
 | .mk _ _ k=>(if k.length=0 then 1 else 0)+Le k
def Le:List Pt→Nat
 |[]=>0
 |p:: r=>lv p+Le r
end
theorem alX {k:List Pt} (h:∀p∈k,lv p≤Et p+1):Le k≤Ia k+k.length:=by
 induction k with
 |nil=>simp[Le]
 |cons p r ih=>
  have h1:=h p (by simp)
  have h2:=ih fun q hq=>h q (by simp[hq])
  rw[Le,Ia,List.length_cons]
  omega
theorem arC (p:Pt):lv p≤Et p+1:=by
 refine Me (P:=fun p=>lv p≤Et p+1) (fun f b k ih=>?_) p
 have:=alX ih
 rw[lv,Et]
 split<;>omega
theorem Ie (a b:List Pt):Le (a++b)=Le a+Le b:=by
 induction a with
 |nil=>simp[Le]
 |cons p r ih=>rw[List.cons_append,Le,Le,ih];omega
theorem VK (p:Pt):Et p≤1048576→Ev (fun n=>iw.f n (e32 p).f0 (e32 p).f1 (e32 p).f2) (lv p:Int):=by
 refine Me (P:=fun p=>Et p≤1048576→Ev (fun n=>iw.f n (e32 p).f0 (e32 p).f1 (e32 p).f2) (lv p:Int)) (fun f b k ih hs=>?_) p
 obtain⟨-,-,-,-,hkn,hk⟩:=yJ hs
 have hb:=alX (k:=k) fun q _=>arC q
 rw[Et]at hs
 have key:∀(r p:List Pt),k=p++r→Ev (fun n=>iw.l0 n (Le p:Int) (k.map e32) (k.length:Int) (p.length:Int)) (Le k:Int):=by
  intro r
  induction r with
  |nil=>
   intro p h
   have hz:k.length=p.length:=by rw[h,List.append_nil]
   refine vc ?_
   simp only[iw.l0]
   refine vn (by omega) (vq (vs _) ?_)
   rw[h,List.append_nil]
  |cons c r ihr=>
   intro p h
   have hz:=iV h
   have e1:=AQ h
   have hc:=ih c (by rw[h];simp) (hk c (by rw[h];simp))
   have hl:Le k=Le p+(lv c+Le r):=by rw[h,Ie,Le]
   have ws:wrap64 ((p.length:Int)+1)=(p.length:Int)+1∧wrap64 ((Le p:Int)+(lv c:Int))=((Le (p++[c]):Nat):Int):=⟨aU (by omega) (by omega),by rw[aU (by omega) (by omega),Ie,Le,Le];omega⟩
   have hv:=ihr (p++[c]) (by rw[h];simp)
   rw[l7,←ws.1,←ws.2]at hv
   refine vc ?_
   simp only[iw.l0,List.length_map,e1]
   clear ws
   exact vp (by omega) (vp (by omega) (vp (by omega) (vb hc hv)))
 simp only[vS]
 refine vc ?_
 simp only[iw.f,List.length_map]
 by_cases h0:k.length=0
 ·refine vp (by omega) (vq (vs _) ?_)
  obtain rfl:=List.length_eq_zero_iff.mp h0
  rw[lv];simp[Le]
 ·refine vn (by omega) (vq (key k [] rfl) ?_)
  rw[lv,if_neg h0];omega
def cnt (p:Pt):Int:=if(lines 3 p).isSome=true then(lv p:Int)else 0
theorem EK (p:Pt) (hp:Et p≤1048576):Ev (fun k=>lS.f k (e32 p).f0 (e32 p).f1 (e32 p).f2) (cnt p):=by
 unfold lS.f cnt
 refine vb (AV p hp) ?_
 by_cases c:(lines 3 p).isSome=true
 ·rw[if_pos c]
  exact vp c (vb (VK p hp) (vs _))
 ·rw[if_neg c]
  exact vn c (vs _)
/-! The kids of a valid part. -/
theorem arD {g:Pt→Option (List Str)}:∀{k:List Pt} {ls:List (List Str)},kl g k=some ls→∀p∈k,(g p).isSome=true
 |[],_,_,_,hp=>by cases hp
 |p:: r,ls,h,q,hq=>by
  rw[kl]at h
  cases e:g p with
  |none=>rw[e]at h;cases h
  |some a=>
   rw[e]at h
   cases e2:kl g r with
   |none=>rw[e2]at h;cases h
   |some l=>
    rcases List.mem_cons.mp hq with rfl|hq
    ·rw[e];rfl
    ·exact arD e2 q hq
/-- What a valid part's kids are. -/
theorem VL {d:Nat} {f:List (Str×Str)} {b:List Str} {k:List Pt} (h:(lines (d+1) (.mk f b k)).isSome=true):k.length≤4∧∀p∈k,(lines d p).isSome=true:=by
 rw[lines]at h
 by_cases c:fvs f=true
 ·rw[if_pos c]at h
  by_cases c1:(bF f).2=true
  ·rw[if_pos c1]at h
   by_cases c2:b=[]∧1≤k.length∧k.length≤4
   ·rw[if_pos c2]at h
    cases e:kl (lines d) k with
    |none=>rw[e]at h;cases h
    |some l=>exact⟨c2.2.2,arD e⟩
   ·rw[if_neg c2]at h;cases h
  ·rw[if_neg c1]at h
   by_cases c2:k=[]∧tbs b=true
   ·rw[c2.1];exact⟨by simp,fun _ h=>by cases h⟩
   ·rw[if_neg c2]at h;cases h
 ·rw[if_neg c]at h;cases h
theorem agI {g g':Pt→Option (List Str)}:∀{k:List Pt} {ls:List (List Str)},kl g k=some ls→(∀p∈k,∀a,g p=some a→g' p=some a)→kl g' k=some ls
 |[],_,h,_=>h
 |p:: r,ls,h,hm=>by
  rw[kl]at h⊢
  cases e:g p with
  |none=>rw[e]at h;cases h
  |some a=>
   rw[e]at h
   rw[hm p (by simp) a e]
   cases e2:kl g r with
   |none=>rw[e2]at h;cases h
   |some l=>rw[agI e2 fun q hq=>hm q (by simp[hq])];rw[e2]at h;exact h
theorem VN:∀(d:Nat) (p:Pt) (ls:List Str),lines d p=some ls→lines (d+1) p=some ls
 |0,p,ls,h=>by rw[lines]at h;cases h
 |d+1, .mk f b k,ls,h=>by
  rw[lines]at h⊢
  by_cases c:fvs f=true
  ·rw[if_pos c]at h⊢
   by_cases c1:(bF f).2=true
   ·rw[if_pos c1]at h⊢
    by_cases c2:b=[]∧1≤k.length∧k.length≤4
    ·rw[if_pos c2]at h⊢
     cases e:kl (lines d) k with
     |none=>rw[e]at h;cases h
     |some l=>rw[agI e fun q _ a ha=>VN d q a ha];rw[e]at h;exact h
    ·rw[if_neg c2]at h;cases h
   ·rw[if_neg c1]at h⊢;exact h
  ·rw[if_neg c]at h;cases h
theorem abL (d:Nat) (p:Pt) (h:(lines d p).isSome=true):(lines (d+1) p).isSome=true:=by
 obtain⟨ls,e⟩:=Option.isSome_iff_exists.mp h
 rw[VN d p ls e];rfl
/-! Bounds on the leaves of a valid part. -/
theorem agJ:∀(k l:List Pt),(∀p∈k,∀q,smt p q=true↔p=q)→k.length=l.length→(abo k l=true↔k=l):=by
 intro k
 induction k with
 |nil=>
  intro l _ hl
  cases l with
  |nil=>simp[abo]
  |cons=>simp at hl
 |cons p k ih=>
  intro l h hl
  cases l with
  |nil=>simp at hl
  |cons q l=>
   have h1:=h p (by simp) q
   have h2:=ih l (fun x hx=>h x (by simp[hx])) (by simpa using hl)
   rw[abo,Bool.and_eq_true,h1,h2,List.cons.injEq]
theorem alY (p:Pt):∀q,smt p q=true↔p=q:=by
 refine Me (P:=fun p=>∀q,smt p q=true↔p=q) ?_ p
 intro f b k ih q
 cases q with
 |mk g c l=>
  rw[smt,Bool.and_eq_true,Bool.and_eq_true,Bool.and_eq_true,decide_eq_true_eq,decide_eq_true_eq,decide_eq_true_eq,Pt.mk.injEq]
  constructor
  ·rintro⟨h1,h2,h3,h4⟩
   exact⟨h1,h2,(agJ k l ih h3).mp h4⟩
  ·rintro⟨h1,h2,h3⟩
   have hl:k.length=l.length:=by rw[h3]
   exact⟨h1,h2,hl,(agJ k l ih hl).mpr h3⟩
/-! A part within a part. -/
def Si:List Int→Pt→Option Pt
 |[],p=>some p
 |i:: r, .mk _ _ k=>if i<0 then none else(match k[i.toNat]? with
  |none=>none
  |some q=>Si r q)
def atX (o:Option Pt):jV:=match o with
 |none=>⟨[],[],[]⟩
 |some p=>e32 p
theorem Q_ (p:Pt):Et p≤1000000000→Ev (fun n=>dh.f n (e32 p).f0 (e32 p).f1 (e32 p).f2) ((e32 p).f0,(e32 p).f1,(e32 p).f2):=by
 refine Me (P:=fun p=>Et p≤1000000000→Ev (fun n=>dh.f n (e32 p).f0 (e32 p).f1 (e32 p).f2) ((e32 p).f0,(e32 p).f1,(e32 p).f2)) ?_ p
 intro f b k ih hs
 rw[Et]at hs
 have key:∀(r p:List Pt),k=p++r→Ev (fun n=>dh.l0 n (k.map e32) (k.length:Int) (p.length:Int) (f.map uU) (b.map aY) (p.map e32)) (f.map uU,b.map aY,k.map e32):=by
  intro r
  induction r with
  |nil=>
   intro p h
   rw[List.append_nil]at h
   subst h
   refine vc ?_
   simp only[dh.l0]
   exact vn (by omega) (vs _)
  |cons c r ihr=>
   intro p h
   have hz:=iV h
   have e1:=AQ h
   have hc:=ih c (by rw[h];simp) (by have:=Gx (k:=k) (p:=c) (by rw[h];simp);omega)
   have ws:wrap64 ((p.length:Int)+1)=(p.length:Int)+1:=aU (by omega) (by omega)
   have hv:=ihr (p++[c]) (by rw[h];simp)
   rw[l7,←ws,List.map_append,List.map_singleton]at hv
   refine vc ?_
   simp only[dh.l0,List.length_map,e1]
   clear ws
   refine vp (by omega) (vp (by omega) (vp (by omega) (vb hc ?_)))
   simp only[alW]
   exact vp (by omega) hv
 simp only[vS]
 refine vc ?_
 simp only[dh.f,List.length_map]
 refine jI (by unfold tV.f;rw[if_pos (by rw[List.length_map];omega)]) (jI (by unfold jq.f;rw[if_pos (by rw[List.length_map];omega)]) ?_)
 exact key k [] rfl
theorem abM {l p r:List Int} {c:Int} (h:l=p++c:: r):rd l (p.length:Int)=c:=by rw[h];exact auT p r c
theorem ZW {k:List Pt} {i:Int} (h0:¬i<0) {q:Pt} (h:k[i.toNat]? =some q):i<(k.length:Int)∧au (k.map e32) i=e32 q∧q∈k:=by
 obtain⟨hl,hq⟩:=List.getElem?_eq_some_iff.mp h
 refine⟨by omega,?_,by rw[←hq];exact List.getElem_mem hl⟩
 unfold au
 rw[List.getD_eq_getElem?_getD,List.getElem?_map,h]
 rfl
theorem ZX (path:List Int) (hn:path.length≤1000000):∀(r q:List Int) (p:Pt),path=q++r→Et p≤1048576→Ev (fun n=>kJ.l0 n path (path.length:Int) (q.length:Int) (e32 p).f0 (e32 p).f1 (e32 p).f2) ((atX (Si r p)).f0,(atX (Si r p)).f1,(atX (Si r p)).f2,(Si r p).isSome):=by
 intro r
 induction r with
 |nil=>
  intro q p h hs
  rw[List.append_nil]at h
  subst h
  refine vc ?_
  simp only[kJ.l0]
  exact vn (by omega) (vb (Q_ p (by omega)) (vs _))
 |cons i r ih=>
  intro q p h hs
  obtain⟨f,b,k⟩:=p
  have hz:=iV h
  have e1:=abM h
  obtain⟨-,-,-,-,hkn,hk⟩:=yJ hs
  have ws:wrap64 ((q.length:Int)+1)=(q.length:Int)+1:=aU (by omega) (by omega)
  refine vc ?_
  simp only[kJ.l0,e1,vS,List.length_map,ws]
  clear ws
  refine vp (by omega) (vp (by omega) (vp (by omega) ?_))
  rw[Si]
  by_cases h0:i<0
  ·rw[if_pos h0]
   exact vp h0 (vs _)
  ·rw[if_neg h0]
   refine vn h0 ?_
   cases e:k[i.toNat]? with
   |none=>
    have:=List.getElem?_eq_none_iff.mp e
    exact vp (by omega) (vs _)
   |some c=>
    obtain⟨h1,h2,h3⟩:=ZW h0 e
    have hv:=ih (q++[i]) c (by rw[h];simp) (hk c h3)
    rw[l7]at hv
    simp only[h2]
    exact vn (by omega) (vp (by omega) (vp (by omega) hv))
theorem ZY (path:List Int) (hn:path.length≤1000000):∀(r q:List Int) (p:Pt),path=q++r→Et p≤1048576→Ev (fun n=>bK.l0 n path (q.length:Int) (e32 p).f0 (e32 p).f1 (e32 p).f2) ((atX (Si r p)).f0,(atX (Si r p)).f1,(atX (Si r p)).f2,(Si r p).isSome):=by
 intro r
 induction r with
 |nil=>
  intro q p h hs
  rw[List.append_nil]at h
  subst h
  refine vc ?_
  simp only[bK.l0]
  exact vn (by omega) (vb (XK p (by omega)) (vs _))
 |cons i r ih=>
  intro q p h hs
  obtain⟨f,b,k⟩:=p
  have hz:=iV h
  have e1:=abM h
  obtain⟨-,-,-,-,hkn,hk⟩:=yJ hs
  have ws:wrap64 ((q.length:Int)+1)=(q.length:Int)+1:=aU (by omega) (by omega)
  refine vc ?_
  simp only[bK.l0,e1,vS,List.length_map,ws]
  clear ws
  refine vp (by omega) (vp (by omega) ?_)
  rw[Si]
  by_cases h0:i<0
  ·rw[if_pos h0]
   exact vp h0 (vs _)
  ·rw[if_neg h0]
   refine vn h0 ?_
   cases e:k[i.toNat]? with
   |none=>
    have:=List.getElem?_eq_none_iff.mp e
    exact vp (by omega) (vs _)
   |some c=>
    obtain⟨h1,h2,h3⟩:=ZW h0 e
    have hv:=ih (q++[i]) c (by rw[h];simp) (hk c h3)
    rw[l7]at hv
    simp only[h2]
    exact vn (by omega) (vp (by omega) (vp (by omega) hv))
/-- What PartAt answers. -/
def pA (p:Pt) (path:List Int):Option Pt:=if(lines 3 p).isSome=true then Si path p else none
theorem JM (p:Pt) (path:List Int) (hp:Et p≤1048576) (hn:path.length≤1000000):Ev (fun n=>kJ.f n (e32 p).f0 (e32 p).f1 (e32 p).f2 path) ((atX (pA p path)).f0,(atX (pA p path)).f1,(atX (pA p path)).f2,(pA p path).isSome):=by
 unfold kJ.f pA
 refine vb (AV p hp) ?_
 by_cases c:(lines 3 p).isSome=true
 ·rw[if_pos c]
  exact vp c (ZX path hn path [] p rfl hp)
 ·rw[if_neg c]
  exact vn c (vs _)
theorem agK:∀(path:List Int) (p q:Pt),Si path p=some q→Et q≤Et p
 |[],p,q,h=>by rw[Si]at h;cases h;exact Nat.le_refl _
 |i:: r, .mk f b k,q,h=>by
  rw[Si]at h
  by_cases h0:i<0
  ·rw[if_pos h0]at h;cases h
  ·rw[if_neg h0]at h
   cases e:k[i.toNat]? with
   |none=>rw[e]at h;cases h
   |some c=>
    rw[e]at h
    have h1:=agK r c q h
    have h2:=Gx (ZW h0 e).2.2
    rw[Et]
    omega
def xz:Pt:= .mk [] [] []
def atP (o:Option Pt):Pt:=match o with
 |none=>xz
 |some p=>p
theorem arE (o:Option Pt):atX o=e32 (atP o):=by
 cases o with
 |none=>rfl
 |some p=>rfl
theorem adO (p:Pt) (path:List Int):Et (atP (pA p path))≤Et p:=by
 unfold pA
 split
 ·cases e:Si path p with
  |none=>exact Nat.zero_le _
  |some q=>exact agK path p q e
 ·exact Nat.zero_le _
theorem VO (p:Pt) (path:List Int) (hp:Et p≤1048576) (hn:path.length≤1000000):Ev (fun n=>wu.f n (e32 p).f0 (e32 p).f1 (e32 p).f2 path) ((atX (pA p path)).f0,(atX (pA p path)).f1,(atX (pA p path)).f2,(pA p path).isSome):=by
 unfold wu.f
 have h1:Ev (fun n=>bK.f n (e32 p).f0 (e32 p).f1 (e32 p).f2 path) ((atX (pA p path)).f0,(atX (pA p path)).f1,(atX (pA p path)).f2,(pA p path).isSome):=by
  unfold bK.f pA
  refine vb (PX p hp) ?_
  by_cases c:(lines 3 p).isSome=true
  ·rw[if_pos c]
   exact vp c (ZY path hn path [] p rfl hp)
  ·rw[if_neg c]
   exact vn c (vs _)
 have h2:=VI (atP (pA p path)) (by have:=adO p path;omega)
 rw[←arE]at h2
 exact vb h1 (vb h2 (vs _))
theorem WG (l:List Int) (h:∀x∈l,(Lit.int .u8 x).wf=true):∃(p:Pt) (path:List Int),Ev (fun k=>jD.f k l) ((e32 p).f0,(e32 p).f1,(e32 p).f2,path)∧Et p≤500000∧path.length≤3:=by
 obtain⟨p,g,hp⟩:=ahX l h
 obtain⟨l2,ho,hl⟩:=agv l h
 obtain⟨n,hn,hm⟩:=QI l2 0 [1,0,2,3] hl (by omega) (by omega) (by simp) (by simp)
 obtain⟨m,rfl,hm2⟩:=Gy hm 3 (by decide)
 have key:∀(m:Nat) (acc:List Int) (q:Int),m≤3→0≤q→q≤10-m→acc.length+m≤3→∃path:List Int,Ev (fun k=>jD.l0 k acc (m:Int) (e32 p).f0 (e32 p).f1 (e32 p).f2 l2 q) ((e32 p).f0,(e32 p).f1,(e32 p).f2,path)∧path.length≤3:=by
  intro m
  induction m with
  |zero=>
   intro acc q _ _ _ h3
   refine⟨acc,vc ?_,by omega⟩
   simp only[jD.l0]
   exact vn (by omega) (vs _)
  |succ m ih=>
   intro acc q h0 h1 h2 h3
   obtain⟨v,hv,_⟩:=QI l2 q [0,0,1,2,-1] hl h1 (by omega) (by simp) (by simp)
   obtain⟨path,hp,hpl⟩:=ih (acc++[v]) (q+1) (by omega) (by omega) (by omega) (by simp;omega)
   have w1:wrap64 (((m+1:Nat):Int)-1)=(m:Int):=by rw[aU (by omega) (by omega)];omega
   refine⟨path,vc ?_,hpl⟩
   simp only[jD.l0,w1]
   clear w1
   exact vp (by omega) (vb hv (vp (by omega) hp))
 obtain⟨path,h1,h2⟩:=key m [] (0+1) hm2 (by omega) (by omega) (by simp;omega)
 refine⟨p,path,?_,hp,h2⟩
 unfold jD.f
 exact vb g (jI ho (vb hn h1))
/-! Paths lead to parts. -/
theorem agL {P:Nat→Nat→Prop}:∀(n:Nat),(∀i,i<n→Evp (P i))→Evp (fun k=>∀i,i<n→P i k)
 |0,_=>⟨0,fun _ _ i hi=>absurd hi (Nat.not_lt_zero _)⟩
 |n+1,h=>by
  obtain⟨K,h1⟩:=agL n fun i hi=>h i (by omega)
  obtain⟨M,h2⟩:=h n (by omega)
  refine⟨K+M,fun k hk i hi=>?_⟩
  by_cases e:i=n
  ·subst e;exact h2 k (by omega)
  ·exact h1 k (by omega) i (by omega)
theorem abN:∀(path:List Int) (p:Pt) (f:List (Str×Str)) (b:List Str) (k:List Pt) (i:Nat),Si path p=some (.mk f b k)→Si (path++[(i:Int)]) p=k[i]?
 |[],p,f,b,k,i,h=>by
  rw[Si]at h
  cases h
  rw[List.nil_append,Si,if_neg (by omega),Int.toNat_natCast]
  cases k[i]? with
  |none=>rfl
  |some q=>rfl
 |j:: r, .mk f' b' k',f,b,k,i,h=>by
  rw[Si]at h
  rw[List.cons_append,Si]
  by_cases h0:j<0
  ·rw[if_pos h0]at h;cases h
  ·rw[if_neg h0]at h⊢
   cases e:k'[j.toNat]? with
   |none=>rw[e]at h;cases h
   |some c=>rw[e]at h;exact abN r c f b k i h
theorem XM:∀(path:List Int) (d:Nat) (p q:Pt),(lines d p).isSome=true→Si path p=some q→(lines d q).isSome=true
 |[],d,p,q,h,e=>by rw[Si]at e;cases e;exact h
 |j:: r,0,p,q,h,e=>by rw[lines]at h;cases h
 |j:: r,d+1, .mk f b k,q,h,e=>by
  rw[Si]at e
  by_cases h0:j<0
  ·rw[if_pos h0]at e;cases e
  ·rw[if_neg h0]at e
   cases e2:k[j.toNat]? with
   |none=>rw[e2]at e;cases e
   |some c=>
    rw[e2]at e
    exact abL d q (XM r d c q ((VL h).2 c (ZW h0 e2).2.2) e)
theorem alZ {k:List Pt} {i:Nat} (h:i<k.length):Le (k.take (i+1))=Le (k.take i)+lv k[i]:=by
 rw[List.take_add_one,List.getElem?_eq_getElem h,Option.toList_some,Ie,Le,Le]
 rfl
theorem abO (k:List Pt) (i:Nat):Le (k.take i)≤Le k:=by
 have h:=Ie (k.take i) (k.drop i)
 rw[List.take_append_drop]at h
 omega
theorem FnPartAt:jy.Pure:=by
 intro l0 _ _ h
 by_cases h0:(l0.length:Int)>1048576
 ·exact⟨0,Or.inl h0⟩
 obtain⟨p,path,hd,hp,hl⟩:=WG l0 h
 have a2:=JM p path (by omega) (by omega)
 have a3:=VO p path (by omega) (by omega)
 have a4:=GX (atP (pA p path)) (atP (pA p path)) (by have:=adO p path;omega)
 rw[(alY _ _).mpr rfl,←arE]at a4
 cases e:pA p path with
 |none=>
  rw[e]at a2 a3 a4
  obtain⟨k,b1,b2,b3,b4⟩:=abm (AP (BL hd) (AP (BL a2) (AP (BL a3) (BL a4))))
  exact⟨k,Or.inr ⟨h0,e32 p,atX none,path,false,b1,b2,b3,b4,Or.inl rfl⟩⟩
 |some q=>
  have hs:=adO p path
  rw[e]at a2 a3 a4 hs
  obtain⟨f,b,ks⟩:=q
  have hv0:(lines 3 p).isSome=true:=by
   unfold pA at e
   by_cases c:(lines 3 p).isSome=true
   ·exact c
   ·rw[if_neg c]at e;cases e
  have hq:Si path p=some (.mk f b ks):=by unfold pA at e;rw[if_pos hv0]at e;exact e
  have hv:=XM path 3 p _ hv0 hq
  have hk:=VL hv
  have hsz:Et (.mk f b ks)≤500000:=by have:Et (atP (some (.mk f b ks)))≤Et p:=hs;exact Nat.le_trans this (by omega)
  obtain⟨-,-,-,-,hkn,hks⟩:=yJ (f:=f) (b:=b) (k:=ks) (by omega)
  have hlb:=arC (.mk f b ks)
  have hlk:Le ks≤lv (.mk f b ks):=by rw[lv];omega
  have a5:=AV (.mk f b ks) (by omega)
  rw[hv]at a5
  have a6:=EK (.mk f b ks) (by omega)
  rw[cnt,if_pos hv]at a6
  have kids:∀i,i<ks.length→Evp (fun n=>kJ.f n (e32 p).f0 (e32 p).f1 (e32 p).f2 (path++[(i:Int)])=some ((au (ks.map e32) i).f0,(au (ks.map e32) i).f1,(au (ks.map e32) i).f2,true)∧iT.f n (au (ks.map e32) i).f0 (au (ks.map e32) i).f1 (au (ks.map e32) i).f2 (au (ks.map e32) i).f0 (au (ks.map e32) i).f1 (au (ks.map e32) i).f2=some true∧∃c:Int,lS.f n (au (ks.map e32) i).f0 (au (ks.map e32) i).f1 (au (ks.map e32) i).f2=some c∧(Le (ks.take (i+1)):Int)=wrap64 ((Le (ks.take i):Int)+c)):=by
   intro i hi
   have e1:au (ks.map e32) (i:Int)=e32 ks[i]:=by
    unfold au
    rw[List.getD_eq_getElem?_getD,List.getElem?_map,Int.toNat_natCast,List.getElem?_eq_getElem hi]
    rfl
   have hm:ks[i]∈ks:=List.getElem_mem hi
   have c1:=JM p (path++[(i:Int)]) (by omega) (by rw[List.length_append,List.length_singleton];omega)
   have d1:pA p (path++[(i:Int)])=some ks[i]:=by
    unfold pA
    rw[if_pos hv0,abN path p f b ks i hq,List.getElem?_eq_getElem hi]
   rw[d1]at c1
   have c2:=GX ks[i] ks[i] (by have:=hks _ hm;omega)
   rw[(alY _ _).mpr rfl]at c2
   have c3:=EK ks[i] (hks _ hm)
   rw[cnt,if_pos (abL 2 _ (hk.2 _ hm))]at c3
   have ht:=alZ hi
   have ht2:=abO ks (i+1)
   refine(AP (BL c1) (AP (BL c2) (BL c3))).imp fun K hK n hn=>?_
   obtain⟨x1,x2,x3⟩:=hK n hn
   rw[e1]
   exact⟨x1,x2,_,x3,by rw[aU (by omega) (by omega),ht];omega⟩
  obtain⟨k,b1,b2,b3,b4,b5,b6,b7⟩:=abm (AP (BL hd) (AP (BL a2) (AP (BL a3) (AP (BL a4) (AP (BL a5) (AP (BL a6) (agL _ kids)))))))
  refine⟨k,Or.inr ⟨h0,e32 p,e32 (.mk f b ks),path,true,b1,b2,b3,b4,Or.inr ⟨rfl,fun i=>(Le (ks.take i):Int),rfl,?_,by omega,?_,b5,?_⟩⟩⟩
  ·intro i hi
   rw[vS]at hi⊢
   exact b7 i (by simpa using hi)
  ·rw[vS,List.length_map]
   omega
  ·rw[vS]at b6⊢
   by_cases z:ks.length=0
   ·refine Or.inl ⟨by simpa using z,?_⟩
    rw[b6,lv,if_pos z,List.length_eq_zero_iff.mp z]
    rfl
   ·refine Or.inr ⟨by simpa using z,?_⟩
    rw[b6,lv,if_neg z]
    simp
/-! Paths lead to parts. -/
end Go.Proofs.YtncdadcmghglkaaGreatDoor.Pure
