/- Proved here: the pure form of the law FnPartText (messages are read back) returns true for all arguments; conditions: none beyond those that the printed statement bears. -/
import Derived.Test.YtdkipechiaploaaGreatDoorPFnPartTextx39
import Derived.Test.YtdkipechiaploaaGreatDoorVFnPartTextZbt
import Derived.Test.YtdkipechiaploaaGreatDoorVFnPartTextMore
import Derived.Lib.TrimByte
import Derived.Lib.CutLaws
import Derived.Lib.ReplaceLaws
import Derived.Lib.Join
import Derived.Lib.JoinLaws
import Derived.Lib.Split
import Derived.Lib.CountLaws
namespace Go.Proofs.YtdkipechiaploaaGreatDoor.Pure
open Go.Proofs.YtdkipechiaploaaGreatDoorW.rW Go.RowKit Go.Proofs.YtdkipechiaploaaGreatDoor.X Go.Proofs.YtdkipechiaploaaGreatDoor.PFnPartText Go.Proofs.YtdkipechiaploaaGreatDoorW.dZ Go.Proofs.YtdkipechiaploaaGreatDoorW.nK Go.Proofs.YtdkipechiaploaaGreatDoor.Z
set_option linter.unusedVariables false
set_option linter.unusedSimpArgs false
def Evp(p:Nat→Prop):Prop:=∃K,∀k,K≤k→p k
theorem yO{α:Type}{g:Nat→Option α}{r:α}(h:Ev g r):Evp (fun k=>g k=some r):=h
theorem uo{p q:Nat→Prop}(h:Evp p)(h2:Evp q):Evp (fun k=>p k∧q k):=by
 obtain⟨K,h⟩:=h;obtain⟨M,h2⟩:=h2;exact⟨K+M,fun k hk=>⟨h k (by omega),h2 k (by omega)⟩⟩
theorem SX{p:Nat→Prop}(h:Evp p):∃k,p k:=by
 obtain⟨K,h⟩:=h;exact⟨K,h K (Nat.le_refl _)⟩
def stp{α:Type} [DecidableEq α](r:List α)(c:α):Bool ⊕ List α:=match r with
 |[]=> .inl false
 |d:: r=>if c=d then .inr r else .inl false
theorem aef{α:Type} [DecidableEq α](a b:List α)(hl:a.length=b.length):run stp (fun _=>true) a b=decide (a=b):=by
 induction a generalizing b with
 |nil=>cases b with
  |nil=>rfl
  |cons d b=>simp at hl
 |cons c a ih=>cases b with
  |nil=>simp at hl
  |cons d b=>
   unfold run;by_cases e:c=d
   ·simp only[stp,if_pos e];rw[ih b (by simpa using hl)];simp[e]
   ·simp only[stp,if_neg e];simp[e]
def o8:List Str→Nat
 |[]=>0
 |c:: r=>c.length+o8 r
theorem nV(a b:List Str):o8 (a++b)=o8 a+o8 b:=by
 induction a with
 |nil=>simp[o8]
 |cons c a ih=>simp only[List.cons_append,o8,ih];omega
theorem acv{a:List Str}{c:Str}(h:c∈a):c.length≤o8 a:=by
 induction a with
 |nil=>cases h
 |cons d a ih=>
  simp only[o8];rcases List.mem_cons.mp h with rfl|h
  ·omega
  ·have:=ih h;omega
def vW(p:Str×Str):eG:=⟨aT p.1,aT p.2⟩
def C_:List (Str×Str)→Nat
 |[]=>0
 |c:: r=>c.1.length+c.2.length+C_ r
theorem aiK{a:List (Str×Str)}{c:Str×Str}(h:c∈a):c.1.length+c.2.length≤C_ a:=by
 induction a with
 |nil=>cases h
 |cons d a ih=>
  simp only[C_];rcases List.mem_cons.mp h with rfl|h
  ·omega
  ·have:=ih h;omega
theorem zI{ls p r:List (Str×Str)}{c:Str×Str}(h:ls=p++c:: r):eY (ls.map vW) (p.length:Int)=vW c:=by
 unfold eY;rw[List.getD_eq_getElem?_getD,h];simp
def sane(ls:List (Str×Str)):Prop:=∀x∈ls,x.1.length≤9223372036854775807∧x.2.length≤9223372036854775807
inductive Pt where
 |mk (f:List (Str×Str)) (b:List Str) (k:List Pt)
mutual
def e32:Pt→kE
 | .mk f b k=>⟨f.map vW,b.map aT,ar5 k⟩
def ar5:List Pt→List kE
 |[]=>[]
 |p:: r=>e32 p:: ar5 r
end
theorem ao3(k:List Pt):ar5 k=k.map e32:=by
 induction k with
 |nil=>rfl
 |cons p r ih=>rw[ar5,ih];rfl
theorem Gz(f:List (Str×Str))(b:List Str)(k:List Pt):e32 (.mk f b k)=⟨f.map vW,b.map aT,k.map e32⟩:=by rw[e32,ao3]
theorem JA{ls p r:List Pt}{c:Pt}(h:ls=p++c:: r):aV (ls.map e32) (p.length:Int)=e32 c:=by
 unfold aV;rw[List.getD_eq_getElem?_getD,h];simp
mutual
def OD:Pt→Nat
 | .mk f b k=>f.length+C_ f+b.length+o8 b+k.length+GH k
def GH:List Pt→Nat
 |[]=>0
 |p:: r=>OD p+GH r
end
theorem YX{k:List Pt}{p:Pt}(h:p∈k):OD p≤GH k:=by
 induction k with
 |nil=>cases h
 |cons d a ih=>
  rw[GH];rcases List.mem_cons.mp h with rfl|h
  ·omega
  ·have:=ih h;omega
mutual
def smt:Pt→Pt→Bool
 | .mk f b k, .mk g c l=>decide (f=g)&&(decide (b=c)&&(decide (k.length=l.length)&&aeg k l))
def aeg:List Pt→List Pt→Bool
 |[],_=>true
 |_:: _,[]=>false
 |p:: r,q:: s=>smt p q&&aeg r s
end
theorem agl{P:Pt→Prop}(h:∀f b k,(∀p∈k,P p)→P (.mk f b k))(p:Pt):P p:=by
 have key:∀(n:Nat) (p:Pt),SizeOf.sizeOf p<n→P p:=by
  intro n
  induction n with
  |zero=>intro p hp;omega
  |succ n ih=>
   intro p hp
   cases p with
   |mk f b k=>
    refine h f b k fun q hq=>ih q ?_
    have:=List.sizeOf_lt_of_mem hq;simp only[Pt.mk.sizeOf_spec]at hp;omega
 exact key _ p (Nat.lt_succ_self _)
theorem agm(a b:Nat)(ha:a<9223372036854775808)(hb:b<9223372036854775808):Go.bits .xor .i64 (a:Int) (b:Int)=((a ^^^ b:Nat):Int):=by
 have hx:a ^^^ b<2 ^ 63:=Nat.xor_lt_two_pow (by omega) (by omega)
 have h1:(BitVec.ofInt 64 (a:Int)).toNat=a:=by
  rw[BitVec.ofInt_natCast,BitVec.toNat_ofNat];exact Nat.mod_eq_of_lt (by omega)
 have h2:(BitVec.ofInt 64 (b:Int)).toNat=b:=by
  rw[BitVec.ofInt_natCast,BitVec.toNat_ofNat];exact Nat.mod_eq_of_lt (by omega)
 show IntKind.i64.wrap ((BitVec.ofInt 64 (a:Int) ^^^ BitVec.ofInt 64 (b:Int)).toNat:Int)=_
 rw[BitVec.toNat_xor,h1,h2];rw[ig];exact aQ (by omega) (by omega)
theorem tmod_in{a b:Int}(ha:0≤a)(hb:1≤b):0≤Int.tmod a b∧Int.tmod a b<b:=by
 rw[Int.tmod_eq_emod_of_nonneg ha];exact⟨Int.emod_nonneg _ (by omega),Int.emod_lt_of_pos _ (by omega)⟩
def IsB(l:List Int):Prop:=l.length≤2000∧∀x∈l,0≤x∧x≤255
theorem aiL{l:List Int}(h:IsB l)(i:Int):0≤rd l i∧rd l i≤255:=by
 unfold rd;rw[List.getD_eq_getElem?_getD]
 cases e:l[i.toNat]? with
 |none=>simp
 |some x=>exact h.2 x (List.mem_of_getElem? e)
theorem Ku(l:List Int)(p n:Int)(hl:IsB l)(h0:0≤p)(h1:p≤1000000000)(hn:1≤n)(hn2:n≤1000000000):
  ∃v,Ev (fun k=>bV.f k l p n) (v,p+1)∧0≤v∧v<n:=by
 have hw:wrap64 (p+1)=p+1:=aQ (by omega) (by omega);have hw2:wrap64 (p+1-1)=p:=by rw[aQ (by omega) (by omega)];omega
 have hlen:=hl.1;unfold bV.f;rw[hw];by_cases he:(l.length:Int)=0
 ·refine⟨0,vn (by omega) (vc ?_),by omega,by omega⟩;simp only[bV.j0];refine vp ?_ (vs _);rw[he];rfl
 have hb:((l.length:Int)==0)=false:=by simp at he⊢;exact he
 rw[hb];by_cases hlt:p<(l.length:Int)
 ·have hv:=tmod_in (aiL hl p).1 hn;have hr:wrap64 (rd l p)=rd l p:=by have:=aiL hl p;exact aQ (by omega) (by omega)
  refine⟨Int.tmod (rd l p) n,vn (by omega) (vc ?_),hv.1,hv.2⟩;simp only[bV.j0,hw2,hr];exact vn (by simp) (vp hlt (vp h0 (vn (by omega) (vs _))))
 ·have hq:=tmod_in h0 (b:=(l.length:Int)) (by omega);have hm:wrap64 (wrap64 (p*7)+3)=p*7+3:=by rw[aQ (x:=p*7) (by omega) (by omega),aQ (by omega) (by omega)]
  have hq2:=tmod_in (a:=p*7+3) (by omega) (b:=(l.length:Int)) (by omega);have r1:=aiL hl (Int.tmod p l.length);have r2:=aiL hl (Int.tmod (p*7+3) l.length)
  generalize hA:rd l (Int.tmod p l.length)=A at r1
  generalize hB:rd l (Int.tmod (p*7+3) l.length)=B at r2
  have hd:0≤Int.tdiv p l.length∧Int.tdiv p l.length≤p:=by
   rw[Int.tdiv_eq_ediv_of_nonneg h0];refine⟨Int.ediv_nonneg h0 (by omega),Int.ediv_le_self _ h0⟩
  generalize hD:Int.tdiv p l.length=D at hd
  have w1:wrap64 A=A:=aQ (by omega) (by omega);have w2:wrap64 B=B:=aQ (by omega) (by omega);have w3:wrap64 (A*131)=A*131:=aQ (by omega) (by omega);have w4:wrap64 (B*1117)=B*1117:=aQ (by omega) (by omega);have w5:wrap64 (A*131+B*1117)=A*131+B*1117:=aQ (by omega) (by omega);have w6:wrap64 (p*29)=p*29:=aQ (by omega) (by omega);have w7:wrap64 (A*131+B*1117+p*29)=A*131+B*1117+p*29:=aQ (by omega) (by omega);have w8:wrap64 D=D:=aQ (by omega) (by omega);have w9:wrap64 (D*53)=D*53:=aQ (by omega) (by omega);have w10:wrap64 (A*131+B*1117+p*29+D*53)=A*131+B*1117+p*29+D*53:=aQ (by omega) (by omega);have hX:0≤A*131+B*1117+p*29+D*53∧A*131+B*1117+p*29+D*53<9223372036854775808:=by omega
  generalize hXX:A*131+B*1117+p*29+D*53=X at hX w10
  have hX2:0≤Int.tdiv X 64∧Int.tdiv X 64≤X:=by
   rw[Int.tdiv_eq_ediv_of_nonneg hX.1];refine⟨Int.ediv_nonneg hX.1 (by omega),Int.ediv_le_self _ hX.1⟩
  have ZH:wrap64 (Int.tdiv X 64)=Int.tdiv X 64:=aQ (by omega) (by omega)
  have aOj:0≤Go.bits .xor .i64 X (Int.tdiv X 64):=by
   obtain⟨a,ha⟩:=Int.eq_ofNat_of_zero_le hX.1;obtain⟨b,hb⟩:=Int.eq_ofNat_of_zero_le hX2.1;rw[hb,ha,agm _ _ (by omega) (by omega)];omega
  have hv:=tmod_in aOj hn;refine⟨Int.tmod (Go.bits .xor .i64 X (Int.tdiv X 64)) n,vn (by omega) (vc ?_),hv.1,hv.2⟩;simp only[bV.j0,hw2,hm,hA,hB,hD,w1,w2,w3,w4,w5,w6,w7,w8,w9,hXX,w10,ZH];exact vn (by simp) (vn hlt (vn he (vp hq.1 (vp hq.2 (vp hq2.1 (vp hq2.2 (vn (by omega) (vs _))))))))
theorem aeh{l:List Int}(h:∀x∈l,(Lit.int .u8 x).wf=true)(n:Nat)(hn:(l.take n).length≤2000):IsB (l.take n):=by
 refine⟨hn,fun x hx=>?_⟩;have:=h x (List.mem_of_mem_take hx);simp[Lit.wf,IntKind.min,IntKind.max,IntKind.bits,IntKind.signed]at this;omega
theorem aIo(l:List Int)(p:Int)(ws:List ByteArray)(hl:IsB l)(h0:0≤p)(h1:p≤1000000000)(hn:1≤ws.length)(hn2:ws.length≤1000000):
  ∃v,Ev (fun k=>fJ.f k l p ws) (v,p+1)∧v∈ws:=by
 obtain⟨i,hi,i0,i1⟩:=Ku l p ws.length hl h0 h1 (by omega) (by omega);have hlt:i.toNat<ws.length:=by omega
 refine⟨iw ByteArray.empty ws i,?_,?_⟩
 ·unfold fJ.f;exact vb hi (vp i0 (vp i1 (vs _)))
 ·unfold iw;rw[List.getD_eq_getElem?_getD,List.getElem?_eq_getElem hlt];exact List.getElem_mem hlt
theorem acw(l:List Int)(p:Int)(ws:List Int)(hl:IsB l)(h0:0≤p)(h1:p≤1000000000)(hn:1≤ws.length)(hn2:ws.length≤1000000):
  ∃v,Ev (fun k=>lW.f k l p ws) (v,p+1)∧v∈ws:=by
 obtain⟨i,hi,i0,i1⟩:=Ku l p ws.length hl h0 h1 (by omega) (by omega);have hlt:i.toNat<ws.length:=by omega
 refine⟨rd ws i,?_,?_⟩
 ·unfold lW.f;exact vb hi (vp i0 (vp i1 (vs _)))
 ·unfold rd;rw[List.getD_eq_getElem?_getD,List.getElem?_eq_getElem hlt];exact List.getElem_mem hlt
theorem ar6(l:List Int)(h:∀x∈l,(Lit.int .u8 x).wf=true):∃l',uh.f l=some (l',0)∧IsB l':=by
 unfold uh.f;by_cases hc:(l.length:Int)>2000
 ·refine⟨l.take 2000,?_,aeh h 2000 (by rw[List.length_take];omega)⟩;rw[if_pos hc,if_pos (by omega)]
 ·refine⟨l,by rw[if_neg hc],?_⟩;have:=aeh h l.length (by rw[List.take_length];omega)
  rwa [List.take_length]at this
theorem OE{n:Int}{ws:List Int}(h:n∈ws)(m:Nat)(hm:∀x∈ws,0≤x∧x≤(m:Int)):∃k:Nat,n=(k:Int)∧k≤m:=by
 have:=hm n h;exact⟨n.toNat,by omega,by omega⟩
theorem GI{ps p r:List (List Str)}{c:List Str}(h:ps=p++c:: r):lV (ps.map (List.map aT)) (p.length:Int)=c.map aT:=by
 unfold lV;rw[List.getD_eq_getElem?_getD,h];simp
def tl:List (List Str)→Nat
 |[]=>0
 |c:: r=>c.length+1+tl r
theorem DJ(a b:List (List Str)):tl (a++b)=tl a+tl b:=by
 induction a with
 |nil=>simp[tl]
 |cons c a ih=>simp only[List.cons_append,tl,ih];omega
theorem YZ(a:List (List Str)):a.length≤tl a:=by
 induction a with
 |nil=>simp[tl]
 |cons c a ih=>simp only[List.length_cons,tl];omega
theorem ao4{a:List (List Str)}{c:List Str}(h:c∈a):c.length≤tl a:=by
 induction a with
 |nil=>cases h
 |cons d a ih=>
  simp only[tl];rcases List.mem_cons.mp h with rfl|h
  ·omega
  ·have:=ih h;omega
def NK(c:UInt8):Bool:=decide (97≤(c.toNat:Int)∧(c.toNat:Int)≤122)||decide (65≤(c.toNat:Int)∧(c.toNat:Int)≤90)
def ajO(c:UInt8):Bool:=decide (48≤(c.toNat:Int)∧(c.toNat:Int)≤57)
def Hw(c:UInt8):Bool:=NK c||ajO c
def FH(l:Str):Bool:=decide (1≤l.length)&&decide (l.length≤20)&&l.all Hw
theorem GK{l:Str}(h:FH l=true):l.length≤20:=by
 unfold FH at h;simp at h;exact h.1.2
theorem DK(c:UInt8):bH.f (c.toNat:Int)=some (NK c):=by
 unfold bH.f NK;by_cases h1:97≤(c.toNat:Int)<;>by_cases h2:(c.toNat:Int)≤122<;>by_cases h3:65≤(c.toNat:Int)<;>by_cases h4:(c.toNat:Int)≤90<;>simp[h1,h2,h3,h4]
theorem KU(c:UInt8):dU.f (c.toNat:Int)=some (ajO c):=by
 unfold dU.f ajO;by_cases h1:48≤(c.toNat:Int)<;>by_cases h2:(c.toNat:Int)≤57<;>simp[h1,h2]
theorem wS(c:UInt8):iI.f (c.toNat:Int)=some (Hw c):=by
 unfold iI.f Hw NK ajO;by_cases h1:97≤(c.toNat:Int)<;>by_cases h2:(c.toNat:Int)≤122<;>by_cases h3:65≤(c.toNat:Int)<;>by_cases h4:(c.toNat:Int)≤90<;>by_cases h5:48≤(c.toNat:Int)<;>by_cases h6:(c.toNat:Int)≤57<;>simp[h1,h2,h3,h4,h5,h6]
def Y6:Str:=[33,35,36,37,38,39,42,43,45,47,61,63,94,95,96,123,124,125,126]
def z_(c:UInt8):Bool:=Hw c||decide (c∈Y6)
def Y7(l:Str):Bool:=decide (1≤l.length)&&decide (l.length≤40)&&l.all z_
theorem Y8{p:UInt8→Prop}(h:∀n:Nat,n<256→p (UInt8.ofNat n))(c:UInt8):p c:=by
 have:=h c.toNat c.toNat_lt
 rwa [UInt8.ofNat_toNat]at this
theorem A_(c:UInt8):mX.f (c.toNat:Int)=some (z_ c):=by
 revert c
 exact Y8 (by decide+kernel)
theorem FI(l:Str)(hl:l.length≤1000000000000000):Ev (fun k=>eH.f k (aT l)) (l.all z_):=by
 unfold eH.f;rw[ay];refine vq (oD (xs:=l) (F:=fun k (_:Unit) i=>eH.l0 k (aT l) (l.length:Int) i) (st:=fun _ c=>if z_ c=true then .inr ()else .inl false) (fin:=fun _=>true) (s:=()) (fun _ _=>True) trivial ?_ ?_) ?_
 ·intro p c r s h _;have hz:=gZ h;have e1:=ku h;have w1:wrap64 ((p.length:Int)+1)=(p.length:Int)+1:=aQ (by omega) (by omega);simp only[eH.l0,e1,w1,ay];clear w1 e1
  cases e:z_ c with
  |true=>
   simp only[if_true];refine⟨(fun v hv=>by cases hv),fun s' hs=>⟨trivial,fun v hv=>?_⟩⟩;refine vp (by omega) (vp (by omega) (vp (by omega) (jD (A_ c) (vp e hv))))
  |false=>
   refine⟨(fun v hv=>?_),fun s' hs=>by simp at hs⟩;simp only[Bool.false_eq_true,if_false,Sum.inl.injEq]at hv;subst hv;refine vp (by omega) (vp (by omega) (vp (by omega) (jD (A_ c) (vn (by rw[e];simp) (vs _)))))
 ·intro s _;simp only[eH.l0];exact vn (by omega) (vs _)
 ·clear hl
  induction l with
  |nil=>rfl
  |cons c r ih=>
   unfold run
   cases e:z_ c with
   |true=>simp[e,ih]
   |false=>simp[e]
theorem SY(l:Str)(hl:l.length≤1000000000000000):Ev (fun k=>sF.f k (aT l)) (Y7 l):=by
 unfold sF.f Y7;rw[ay];by_cases h1:1≤l.length
 ·rw[decide_eq_true h1];refine vp (by omega) ?_;by_cases h2:l.length≤40
  ·rw[decide_eq_true h2];exact vp (by omega) (vb (FI l hl) (vs _))
  ·rw[decide_eq_false h2];exact vn (by omega) (vs _)
 ·rw[decide_eq_false h1];exact vn (by omega) (vs _)
theorem GL(c:UInt8):Ev (fun k=>kJ.f k (c.toNat:Int)) (z_ c):=by
 unfold kJ.f;have lit:(⟨#[33,35,36,37,38,39,42,43,45,47,61,63,94,95,96,123,124,125,126]⟩:ByteArray)=aT Y6:=rfl;have hlen:Y6.length=19:=rfl;refine vq (oD (xs:=Y6) (F:=fun k (_:Unit) i=>kJ.l0 k (c.toNat:Int) i) (st:=fun _ d=>if c=d then .inl true else .inr ()) (fin:=fun _=>Hw c) (s:=()) (fun _ _=>True) trivial ?_ ?_) ?_
 ·intro p d r s h _;have hz:=gZ h;have e1:=ku h;have w1:wrap64 ((p.length:Int)+1)=(p.length:Int)+1:=aQ (by omega) (by omega);simp only[kJ.l0,lit,e1,w1];clear w1 e1;by_cases e:c=d
  ·simp only[if_pos e];refine⟨(fun v hv=>?_),fun s' hs=>by cases hs⟩;cases hv;exact vp (by omega) (vp (by omega) (vp (by rw[e]) (vs _)))
  ·simp only[if_neg e];refine⟨(fun v hv=>by cases hv),fun s' hs=>⟨trivial,fun v hv=>?_⟩⟩;exact vp (by omega) (vp (by omega) (vn (fun hh=>e (UInt8.toNat_inj.mp (by omega))) hv))
 ·intro s _;simp only[kJ.l0];exact vn (by omega) (jD (wS c) (vs _))
 ·have key:∀r:Str,run (fun(_:Unit) d=>if c=d then .inl true else .inr ()) (fun _=>Hw c) r ()=(Hw c||decide (c∈r)):=by
   intro r
   induction r with
   |nil=>simp[run]
   |cons d r ih=>
    unfold run;by_cases e:c=d
    ·simp[e]
    ·simp[e,ih]
  exact key Y6
theorem S9(l:Str)(hl:l.length≤1000000000000000):Ev (fun k=>fE.f k (aT l)) (Y7 l):=by
 unfold fE.f
 have hj':∀i:Int,Ev (fun k=>fE.j1 k (aT l) i false) (decide (1≤l.length)&&decide (l.length≤40)):=by
  intro i;refine vc ?_;simp only[fE.j1,ay];by_cases h1:1≤l.length
  ·rw[decide_eq_true h1];refine vn (by simp) (vp (by omega) (vq (vs _) ?_));rw[Bool.true_and];by_cases h2:l.length≤40
   ·rw[decide_eq_true h2];exact decide_eq_true (by omega)
   ·rw[decide_eq_false h2];exact decide_eq_false (by omega)
  ·rw[decide_eq_false h1];exact vn (by simp) (vn (by omega) (vs _))
 refine vq (oD (xs:=l) (F:=fun k (_:Nat) i=>fE.l0 k (aT l) i) (st:=fun n c=>if n≤40 then(if z_ c=true then .inr (n+1)else .inl false)else .inl (decide (1≤l.length)&&decide (l.length≤40))) (fin:=fun _=>decide (1≤l.length)&&decide (l.length≤40)) (s:=0) (fun p n=>n=p.length) rfl ?_ ?_) ?_
 ·intro p c r n h hn;subst hn;have hz:=gZ h;have e1:=ku h;have w1:wrap64 ((p.length:Int)+1)=(p.length:Int)+1:=aQ (by omega) (by omega);by_cases h20:p.length≤40
  ·simp only[if_pos h20];have hd:decide ((p.length:Int)≤40)=true:=decide_eq_true (by omega);simp only[fE.l0,hd,ay]
   cases e:z_ c with
   |true=>
    simp only[if_true];refine⟨(fun v hv=>by cases hv),fun s' hs=>⟨?_,fun v hv=>?_⟩⟩
    ·cases hs;simp
    ·refine vp (by omega) (vc ?_);simp only[fE.j1,e1,w1,ay];clear w1 e1;exact vp trivial (vp (by omega) (vp (by omega) (vb (GL c) (vp e hv))))
   |false=>
    refine⟨(fun v hv=>?_),fun s' hs=>by simp at hs⟩;simp only[Bool.false_eq_true,if_false,Sum.inl.injEq]at hv;subst hv;refine vp (by omega) (vc ?_);simp only[fE.j1,e1,w1,ay];clear w1 e1;exact vp trivial (vp (by omega) (vp (by omega) (vb (GL c) (vn (by rw[e];simp) (vs _)))))
  ·simp only[if_neg h20];have hd:decide ((p.length:Int)≤40)=false:=decide_eq_false (by omega);refine⟨(fun v hv=>?_),fun s' hs=>by cases hs⟩;cases hv;simp only[fE.l0,hd,ay];clear w1 e1;exact vp (by omega) (hj' _)
 ·intro s hs;subst hs;simp only[fE.l0,ay];exact vn (by omega) (hj' _)
 ·unfold Y7
  have key:∀(r:Str) (n:Nat),n+r.length=l.length→run (fun n c=>if n≤40 then(if z_ c=true then .inr (n+1)else .inl false)else .inl (decide (1≤l.length)&&decide (l.length≤40))) (fun _=>decide (1≤l.length)&&decide (l.length≤40)) r n=(decide (1≤l.length)&&decide (l.length≤40)&&r.all z_):=by
   intro r
   induction r with
   |nil=>intro n _;simp[run]
   |cons c r ih=>
    intro n hn;simp only[List.length_cons]at hn;unfold run;by_cases h20:n≤40
    ·simp only[if_pos h20]
     cases e:z_ c with
     |true=>simp[e,ih (n+1) (by omega)]
     |false=>simp[e]
    ·simp only[if_neg h20];have:decide (l.length≤40)=false:=decide_eq_false (by omega);simp[this]
  exact key l 0 (by omega)
def nmB(c:UInt8):Bool:=Hw c||decide (c=45)
def Kv(l:Str):Bool:=decide (l.length≤30)&&(match l with
 |[]=>false
 |c:: _=>NK c)&&l.all nmB
def aIp(c:UInt8):UInt8:=if 65≤c∧c≤90 then c+32 else c
def low(l:Str):Str:=l.map aIp
def isSmall(l:Str):Bool:=Kv l&&decide (low l=l)
theorem aei{l:Str}(h:Kv l=true):l.length≤30:=by
 unfold Kv at h;simp at h;exact h.1.1
theorem OG(a b:Str):(a==b)=decide (a=b):=by
 rw[Bool.eq_iff_iff];simp
theorem ao5(c:UInt8):ZJ (c.toNat:Int)=((aIp c).toNat:Int):=by
 revert c
 exact Y8 (by decide+kernel)
theorem ao6(l:Str):(zn l).map ZJ=zn (low l):=by
 unfold zn low;rw[List.map_map,List.map_map];exact List.map_congr_left (fun c _=>ao5 c)
theorem Iz(l:Str):(low l).length=l.length:=by unfold low;simp
theorem oW(l:Str)(hl:l.length≤140737488355328):jJ.f (aT l)=some (aT (low l)):=by
 unfold jJ.f;rw[ay,if_pos hl,VL,ao6,CW]
theorem oZ(l:Str)(hl:l.length≤140737488355328):jg.f (aT l)=some (aT (low l)):=by
 unfold jg.f;rw[ay,if_pos hl,VL,ao6,CW]
theorem UQ(a b:Str)(ha:a.length≤140737488355328)(hb:b.length≤140737488355328):wo.f (aT a) (aT b)=some (decide (low a=low b)):=by
 unfold wo.f;rw[oW a ha,oW b hb];simp only[Option.bind_some,jv,OG]
theorem UR(a b:Str)(ha:a.length≤140737488355328)(hb:b.length≤140737488355328):uF.f (aT a) (aT b)=some (decide (low a=low b)):=by
 unfold uF.f;rw[oZ a ha,oZ b hb];simp only[Option.bind_some,jv,OG]
theorem JB(c:UInt8):uG.f (c.toNat:Int)=some (nmB c):=by
 unfold uG.f nmB Hw;rw[DK,KU];have:=Aa c 45 (by omega);by_cases e:c=45
 ·have h2:=this.mpr e;cases NK c<;>cases ajO c<;>simp[e,h2]
 ·have h2:¬(c.toNat:Int)=45:=fun hh=>e (this.mp hh)
  cases NK c<;>cases ajO c<;>simp[e,h2]
theorem Hy(l:Str)(hl:l.length≤1000000000000000):Ev (fun k=>fH.f k (aT l)) (l.all nmB):=by
 unfold fH.f;rw[ay];refine vq (oD (xs:=l) (F:=fun k (_:Unit) i=>fH.l0 k (aT l) (l.length:Int) i) (st:=fun _ c=>if nmB c=true then .inr ()else .inl false) (fin:=fun _=>true) (s:=()) (fun _ _=>True) trivial ?_ ?_) ?_
 ·intro p c r s h _;have hz:=gZ h;have e1:=ku h;have w1:wrap64 ((p.length:Int)+1)=(p.length:Int)+1:=aQ (by omega) (by omega);simp only[fH.l0,e1,w1,ay];clear w1 e1
  cases e:nmB c with
  |true=>
   simp only[if_true];refine⟨(fun v hv=>by cases hv),fun s' hs=>⟨trivial,fun v hv=>?_⟩⟩;refine vp (by omega) (vp (by omega) (vp (by omega) (jD (JB c) (vp e hv))))
  |false=>
   refine⟨(fun v hv=>?_),fun s' hs=>by simp at hs⟩;simp only[Bool.false_eq_true,if_false,Sum.inl.injEq]at hv;subst hv;refine vp (by omega) (vp (by omega) (vp (by omega) (jD (JB c) (vn (by rw[e];simp) (vs _)))))
 ·intro s _;simp only[fH.l0];exact vn (by omega) (vs _)
 ·clear hl
  induction l with
  |nil=>rfl
  |cons c r ih=>
   unfold run
   cases e:nmB c with
   |true=>simp[e,ih]
   |false=>simp[e]
theorem NM(l:Str)(hl:l.length≤1000000000000000):Ev (fun k=>kG.f k (aT l)) (Kv l):=by
 unfold kG.f Kv;rw[ay]
 cases l with
 |nil=>exact vn (by simp) (vs _)
 |cons c r=>
  simp only[aiM];refine vp (by simp only[List.length_cons];omega) ?_;by_cases h2:(c:: r).length≤30
  ·rw[decide_eq_true h2];refine vp (by omega) (vp (by simp) (jD (DK c) ?_))
   cases e:NK c with
   |true=>exact vp rfl (vb (Hy (c:: r) hl) (vs _))
   |false=>exact vn (by simp) (vs _)
  ·rw[decide_eq_false h2];exact vn (by omega) (vs _)
theorem Ai(l:Str)(hl:l.length≤140737488355328):Ev (fun k=>iH.f k (aT l)) (isSmall l):=by
 unfold iH.f isSmall;refine vb (NM l (by omega)) ?_
 cases e:Kv l with
 |true=>
  refine vp rfl (jD (oW l hl) (vq (vs _) ?_));simp only[jv,OG,Bool.true_and]
 |false=>exact vn (by simp) (vs _)
theorem NP(l:Str)(hl:l.length≤1000000000000000):Ev (fun k=>dw.f k (aT l)) (Kv l):=by
 unfold dw.f
 have hj':∀i:Int,Ev (fun k=>dw.j1 k (aT l) i false) (decide (1≤l.length)&&decide (l.length≤30)):=by
  intro i;refine vc ?_;simp only[dw.j1,ay];by_cases h1:1≤l.length
  ·rw[decide_eq_true h1];refine vn (by simp) (vp (by omega) (vq (vs _) ?_));rw[Bool.true_and];by_cases h2:l.length≤30
   ·rw[decide_eq_true h2];exact decide_eq_true (by omega)
   ·rw[decide_eq_false h2];exact decide_eq_false (by omega)
  ·rw[decide_eq_false h1];exact vn (by simp) (vn (by omega) (vs _))
 refine vq (oD (xs:=l) (F:=fun k (_:Nat) i=>dw.l0 k (aT l) i) (st:=fun n c=>if n≤30 then(if nmB c=true then(if n=0 then(if NK c=true then .inr (n+1)else .inl false)else .inr (n+1))else .inl false)else .inl (decide (1≤l.length)&&decide (l.length≤30))) (fin:=fun _=>decide (1≤l.length)&&decide (l.length≤30)) (s:=0) (fun p n=>n=p.length) rfl ?_ ?_) ?_
 ·intro p c r n h hn;subst hn;have hz:=gZ h;have e1:=ku h;have w1:wrap64 ((p.length:Int)+1)=(p.length:Int)+1:=aQ (by omega) (by omega);by_cases h20:p.length≤30
  ·simp only[if_pos h20];have hd:decide ((p.length:Int)≤30)=true:=decide_eq_true (by omega);simp only[dw.l0,hd,ay];have h45:=Aa c 45 (by omega);have hlet:nmB c=true→(NK c=true↔¬(c.toNat:Int)≤57):=Y8 (p:=fun c=>nmB c=true→(NK c=true↔¬(c.toNat:Int)≤57)) (by decide+kernel) c
   cases e:nmB c with
   |true=>
    have hlt:=hlet e
    have go:∀v,Ev (fun k=>if(p.length:Int)=0 then(if(c.toNat:Int)≤57 then some false else dw.l0 k (aT l) ((p.length:Int)+1))else dw.l0 k (aT l) ((p.length:Int)+1)) v→Ev (fun k=>if(p.length:Int)<(l.length:Int)then dw.j1 (k+0) (aT l) (p.length:Int) true else dw.j1 (k+0) (aT l) (p.length:Int) false) v:=by
     intro v hv;refine vp (by omega) (vc ?_);simp only[dw.j1,e1,w1,ay];clear w1 e1;refine vp trivial (vp (by omega) (vp (by omega) (jD (wS c) ?_)))
     cases ea:Hw c with
     |true=>exact vp rfl hv
     |false=>
      have:c=45:=by
       unfold nmB at e;rw[ea,Bool.false_or]at e;exact of_decide_eq_true e
      exact vn (by simp) (vp (h45.mpr this) hv)
    simp only[if_true];by_cases h0:p.length=0
    ·simp only[if_pos h0];by_cases hL:NK c=true
     ·simp only[if_pos hL];refine⟨(fun v hv=>by cases hv),fun s' hs=>⟨?_,fun v hv=>?_⟩⟩
      ·cases hs;simp
      ·exact go v (vp (by omega) (vn (hlt.mp hL) hv))
     ·simp only[if_neg hL];refine⟨(fun v hv=>?_),fun s' hs=>by cases hs⟩;cases hv;exact go false (vp (by omega) (vp (Decidable.not_not.mp (fun hh=>hL (hlt.mpr hh))) (vs _)))
    ·simp only[if_neg h0];refine⟨(fun v hv=>by cases hv),fun s' hs=>⟨?_,fun v hv=>?_⟩⟩
     ·cases hs;simp
     ·exact go v (vn (by omega) hv)
   |false=>
    refine⟨(fun v hv=>?_),fun s' hs=>by simp at hs⟩;simp only[Bool.false_eq_true,if_false,Sum.inl.injEq]at hv;subst hv;refine vp (by omega) (vc ?_);simp only[dw.j1,e1,w1,ay];clear w1 e1;unfold nmB at e;rw[Bool.or_eq_false_iff]at e;exact vp trivial (vp (by omega) (vp (by omega) (jD (wS c) (vn (by rw[e.1];simp) (vn (fun hh=>(of_decide_eq_false e.2) (h45.mp hh)) (vs _))))))
  ·simp only[if_neg h20];have hd:decide ((p.length:Int)≤30)=false:=decide_eq_false (by omega);refine⟨(fun v hv=>?_),fun s' hs=>by cases hs⟩;cases hv;simp only[dw.l0,hd,ay];clear w1 e1;exact vp (by omega) (hj' _)
 ·intro s hs;subst hs;simp only[dw.l0,ay];exact vn (by omega) (hj' _)
 ·have key:∀(r:Str) (n:Nat),1≤n→n+r.length=l.length→run (fun n c=>if n≤30 then(if nmB c=true then(if n=0 then(if NK c=true then .inr (n+1)else .inl false)else .inr (n+1))else .inl false)else .inl (decide (1≤l.length)&&decide (l.length≤30))) (fun _=>decide (1≤l.length)&&decide (l.length≤30)) r n=(decide (l.length≤30)&&r.all nmB):=by
   intro r
   induction r with
   |nil=>intro n h1 h2;have:decide (1≤l.length)=true:=decide_eq_true (by simp at h2;omega);simp only[run,this];simp
   |cons c r ih=>
    intro n h1 hn;simp only[List.length_cons]at hn;unfold run;have h1l:decide (1≤l.length)=true:=decide_eq_true (by omega);by_cases h20:n≤30
    ·simp only[if_pos h20,if_neg (show¬n=0 by omega)]
     cases e:nmB c with
     |true=>simp[e,ih (n+1) (by omega) (by omega)]
     |false=>simp[e]
    ·simp only[if_neg h20];have:decide (l.length≤30)=false:=decide_eq_false (by omega);simp[this]
  cases l with
  |nil=>simp[run,Kv]
  |cons c r=>
   unfold run Kv;have hc:=key r 1 (by omega) (by simp;omega);simp only[if_pos (show(0:Nat)≤30 by omega),if_true]
   cases e:nmB c with
   |true=>
    cases e2:NK c with
    |true=>simp only[if_true];rw[hc];simp[e]
    |false=>simp
   |false=>simp[e]
theorem GN(l:Str)(hl:l.length≤140737488355328):Ev (fun k=>mG.f k (aT l)) (isSmall l):=by
 unfold mG.f isSmall;refine vb (NP l (by omega)) ?_
 cases e:Kv l with
 |true=>
  refine vp rfl (jD (oZ l hl) (vq (vs _) ?_));simp only[jv,OG,Bool.true_and]
 |false=>exact vn (by simp) (vs _)
def fidx(n:Str):List (Str×Str)→Nat→Int
 |[],_=>-1
 |c:: r,i=>if low c.1=low n then(i:Int)else fidx n r (i+1)
def small(ls:List (Str×Str)):Prop:=∀x∈ls,x.1.length≤1048576∧x.2.length≤1048576
theorem JC{ls:List (Str×Str)}(h:C_ ls≤1048576):small ls:=fun x hx=>by
 have:=aiK hx;exact⟨by omega,by omega⟩
theorem Y9(n:Str)(r:List (Str×Str)):∀i:Nat,fidx n r i= -1∨((i:Int)≤fidx n r i∧fidx n r i<i+r.length):=by
 induction r with
 |nil=>intro i;exact Or.inl rfl
 |cons c r ih=>
  intro i;unfold fidx;split
  ·right;simp only[List.length_cons];omega
  ·rcases ih (i+1)with h|⟨h1,h2⟩
   ·exact Or.inl h
   ·right;simp only[List.length_cons];omega
theorem aej(n:Str)(r:List (Str×Str)):∀i:Nat,run (fun(i:Nat) (c:Str×Str)=>if low c.1=low n then .inl (i:Int)else .inr (i+1)) (fun _=>(-1:Int)) r i=fidx n r i:=by
 induction r with
 |nil=>intro i;rfl
 |cons c r ih=>
  intro i;unfold run fidx;by_cases e:low c.1=low n
  ·simp only[if_pos e]
  ·simp only[if_neg e,ih]
theorem NQ(ls:List (Str×Str))(n:Str)(hs:small ls)(hn:n.length≤1048576)(hl:ls.length≤1048576):Ev (fun k=>lC.f k (ls.map vW) (aT n)) (fidx n ls 0):=by
 unfold lC.f;refine vq (oD (xs:=ls) (F:=fun k (_:Nat) i=>lC.l0 k (ls.map vW) (aT n) i) (st:=fun i c=>if low c.1=low n then .inl (i:Int)else .inr (i+1)) (fin:=fun _=>(-1:Int)) (s:=0) (fun p i=>i=p.length) rfl ?_ ?_) (aej n ls 0)
 ·intro p c r i h hi;subst hi;have hz:=gZ h;have e1:=zI h;have hc:=hs c (by rw[h];simp);have w1:wrap64 ((p.length:Int)+1)=(p.length:Int)+1:=aQ (by omega) (by omega);have hq:=UR c.1 n (by omega) (by omega);simp only[lC.l0,e1,w1,List.length_map,vW,hq];clear w1 e1;by_cases e:low c.1=low n
  ·simp only[if_pos e];refine⟨(fun v hv=>?_),fun s' hs=>by cases hs⟩;cases hv;exact vp (by omega) (vp (by omega) (jD rfl (vp (decide_eq_true e) (vs _))))
  ·simp only[if_neg e];refine⟨(fun v hv=>by cases hv),fun s' hs=>⟨?_,fun v hv=>?_⟩⟩
   ·cases hs;simp
   ·exact vp (by omega) (vp (by omega) (jD rfl (vn (by simp[e]) hv)))
 ·intro s _;simp only[lC.l0,List.length_map];exact vn (by omega) (vs _)
theorem GR(ls:List (Str×Str))(n:Str)(hs:small ls)(hn:n.length≤1048576)(hl:ls.length≤1048576):Ev (fun k=>mW.f k (ls.map vW) (aT n)) (fidx n ls 0):=by
 unfold mW.f fM.f;refine vb ?_ (vs _);rw[List.length_map];refine vq (oD (xs:=ls) (F:=fun k (_:Nat) i=>fM.l0 k (ls.map vW) (ls.length:Int) i (aT n)) (st:=fun i c=>if low c.1=low n then .inl (i:Int)else .inr (i+1)) (fin:=fun _=>(-1:Int)) (s:=0) (fun p i=>i=p.length) rfl ?_ ?_) (aej n ls 0)
 ·intro p c r i h hi;subst hi;have hz:=gZ h;have e1:=zI h;have hc:=hs c (by rw[h];simp);have w1:wrap64 ((p.length:Int)+1)=(p.length:Int)+1:=aQ (by omega) (by omega);have hq:=UQ c.1 n (by omega) (by omega);simp only[fM.l0,qK.f,e1,w1,List.length_map,vW,hq,Option.bind_some];clear w1 e1;by_cases e:low c.1=low n
  ·simp only[if_pos e];refine⟨(fun v hv=>?_),fun s' hs=>by cases hs⟩;cases hv;exact vp (by omega) (vp (by omega) (vp (by omega) (vp (decide_eq_true e) (vs _))))
  ·simp only[if_neg e];refine⟨(fun v hv=>by cases hv),fun s' hs=>⟨?_,fun v hv=>?_⟩⟩
   ·cases hs;simp
   ·exact vp (by omega) (vp (by omega) (vp (by omega) (vn (by simp[e]) hv)))
 ·intro s _;simp only[fM.l0];exact vn (by omega) (vs _)
def okB(c:UInt8):Bool:=32≤c&&c≤126
def nG(l:Str):Bool:=l.all okB&&decide (l.length≤200)
theorem ao7(c:UInt8)(h:(c.toNat:Int)<32):okB c=false:=by
 have:c<32:=(aIq c 32 (by omega)).mp h;unfold okB;simp[UInt8.le_iff_toNat_le,UInt8.lt_iff_toNat_lt]at this⊢;omega
theorem ao8(c:UInt8)(h:(c.toNat:Int)>126):okB c=false:=by
 unfold okB;simp[UInt8.le_iff_toNat_le,UInt8.lt_iff_toNat_lt];omega
theorem aiN(c:UInt8)(h:¬(c.toNat:Int)<32)(h2:¬(c.toNat:Int)>126):okB c=true:=by
 unfold okB;simp[UInt8.le_iff_toNat_le,UInt8.lt_iff_toNat_lt];omega
theorem Kw{l:Str}(h:nG l=true):l.length≤200:=by
 unfold nG at h;simp at h;exact h.2
theorem OY(l:Str)(hl:l.length≤1000000000000000)(r:Str):∀(p:Str),l=p++r→Ev (fun k=>bC.l0 k (aT l) (l.length:Int) (p.length:Int)) (r.all okB&&decide (l.length≤200)):=by
 induction r with
 |nil=>
  intro p h;have hz:l.length=p.length:=by rw[h,List.append_nil]
  refine vc ?_;simp only[bC.l0,ay];repeat(first|refine vp (by first|assumption|omega|decide) ?_|refine vn (by first|assumption|omega|decide) ?_)
  exact vq (vs _) (by simp;omega)
 |cons c r ih=>
  intro p h;have hz:l.length=p.length+(r.length+1):=by rw[h];simp
  have e1:bt (aT l) (p.length:Int)=(c.toNat:Int):=by rw[h];exact agn p r c
  have:=ih (p++[c]) (by rw[h];simp);rw[kS]at this;refine vc ?_;simp(disch:=omega) only[bC.l0,ay,e1,aQ];by_cases h1:(c.toNat:Int)<32
  ·repeat(first|refine vp (by first|assumption|omega|decide) ?_|refine vn (by first|assumption|omega|decide) ?_)
   exact vq (vs _) (by simp[ao7 c h1])
  ·by_cases h2:(c.toNat:Int)>126
   ·repeat(first|refine vp (by first|assumption|omega|decide) ?_|refine vn (by first|assumption|omega|decide) ?_)
    exact vq (vs _) (by simp[ao8 c h2])
   ·repeat(first|refine vp (by first|assumption|omega|decide) ?_|refine vn (by first|assumption|omega|decide) ?_)
    exact vq this (by simp[aiN c h1 h2])
theorem tu(l:Str)(hl:l.length≤1000000000000000):Ev (fun k=>bC.f k (aT l)) (nG l):=by
 unfold bC.f;rw[ay];exact OY l hl l [] rfl
theorem OZ(l:Str)(hl:l.length≤1000000000000000)(r:Str):∀(p:Str),l=p++r→Ev (fun k=>aW.l0 k (aT l) (p.length:Int)) (r.all okB&&decide (l.length≤200)):=by
 induction r with
 |nil=>
  intro p h;have hz:l.length=p.length:=by rw[h,List.append_nil]
  refine vc ?_;simp only[aW.l0,ay];repeat(first|refine vp (by first|assumption|omega|decide) ?_|refine vn (by first|assumption|omega|decide) ?_)
  refine vc ?_;simp only[aW.j1,ay];repeat(first|refine vp (by first|assumption|omega|decide) ?_|refine vn (by first|assumption|omega|decide) ?_)
  exact vq (vs _) (by simp;omega)
 |cons c r ih=>
  intro p h;have hz:l.length=p.length+(r.length+1):=by rw[h];simp
  have e1:bt (aT l) (p.length:Int)=(c.toNat:Int):=by rw[h];exact agn p r c
  have:=ih (p++[c]) (by rw[h];simp);rw[kS]at this;by_cases h0:(p.length:Int)≤200
  ·refine vc ?_;simp only[aW.l0,ay];repeat(first|refine vp (by first|assumption|omega|decide) ?_|refine vn (by first|assumption|omega|decide) ?_)
   refine vc ?_;simp(disch:=omega) only[aW.j1,ay,e1,aQ,decide_eq_true h0];by_cases h1:(c.toNat:Int)<32
   ·repeat(first|refine vp (by first|assumption|omega|decide) ?_|refine vn (by first|assumption|omega|decide) ?_)
    exact vq (vs _) (by simp[ao7 c h1])
   ·by_cases h2:(c.toNat:Int)>126
    ·repeat(first|refine vp (by first|assumption|omega|decide) ?_|refine vn (by first|assumption|omega|decide) ?_)
     exact vq (vs _) (by simp[ao8 c h2])
    ·repeat(first|refine vp (by first|assumption|omega|decide) ?_|refine vn (by first|assumption|omega|decide) ?_)
     exact vq this (by simp[aiN c h1 h2])
  ·refine vc ?_;simp only[aW.l0,ay];repeat(first|refine vp (by first|assumption|omega|decide) ?_|refine vn (by first|assumption|omega|decide) ?_)
   refine vc ?_;simp only[aW.j1,ay,decide_eq_false h0];repeat(first|refine vp (by first|assumption|omega|decide) ?_|refine vn (by first|assumption|omega|decide) ?_)
   have d1:decide ((l.length:Int)≤200)=false:=decide_eq_false (by omega);have d2:decide (l.length≤200)=false:=decide_eq_false (by omega);exact vq (vs _) (by rw[d1,d2,Bool.and_false])
theorem nH(l:Str)(hl:l.length≤1000000000000000):Ev (fun k=>aW.f k (aT l)) (nG l):=by
 unfold aW.f;exact OZ l hl l [] rfl
def UU(c:UInt8):Str:=if c=34∨c=92 then[92,c]else[c]
def esc:Str→Str
 |[]=>[]
 |c:: r=>UU c++esc r
def quote(l:Str):Str:=34:: (esc l++[34])
def qw(l:Str):Str:=if nG l=true then(if Y7 l=true then l else quote l)else[]
theorem Y_(a b:Str):esc (a++b)=esc a++esc b:=by
 induction a with
 |nil=>rfl
 |cons c a ih=>simp only[List.cons_append,esc,ih,List.append_assoc]
theorem ao9(c:UInt8):(UU c).length≤2:=by unfold UU;split<;>simp
theorem S_(l:Str):(esc l).length≤2*l.length:=by
 induction l with
 |nil=>simp[esc]
 |cons c r ih=>have:=ao9 c;simp only[esc,List.length_append,List.length_cons];omega
theorem agp(l:Str):(qw l).length≤2*l.length+2:=by
 unfold qw quote;have:=S_ l;split
 ·split
  ·omega
  ·simp only[List.length_cons,List.length_append,List.length_nil];omega
 ·simp
theorem Tc(l:Str)(hl:l.length≤1048576):Ev (fun k=>jK.f k (aT l)) (aT (qw l)):=by
 have key:∀(r p:Str),l=p++r→Ev (fun k=>jK.l0 k (aT l) (zn (34:: esc p)) (l.length:Int) (p.length:Int)) (aT (quote l)):=by
  intro r
  induction r with
  |nil=>
   intro p h;rw[List.append_nil]at h;subst h;have h1:=S_ l;refine vc ?_;simp only[jK.l0,UW];refine vn (by omega) (vp (by simp only[List.length_cons];omega) (vq (vs _) ?_));rw[show([34]:List Int)=zn [34]from rfl,←OH,CW];rfl
  |cons c r ih=>
   intro p h;have hz:=gZ h;have e1:=ku h;have h1:=S_ p;have hh:=ih (p++[c]) (by rw[h];simp);rw[kS,Y_]at hh;have w1:wrap64 ((p.length:Int)+1)=(p.length:Int)+1:=aQ (by omega) (by omega);have Za:=Aa c 34 (by omega);have h92:=Aa c 92 (by omega);have b1:(34:: esc p:Str).length<140737488355328:=by simp only[List.length_cons];omega
   have b2:(34:: esc p++[92]:Str).length<140737488355328:=by simp only[List.length_cons,List.length_append,List.length_nil];omega
   refine vc ?_;have e92:([92]:List Int)=zn [92]:=rfl;have ec:([(c.toNat:Int)]:List Int)=zn [c]:=rfl;simp only[jK.l0,e1,w1,ay,UW,Option.bind_some,e92,ec,←OH];clear w1 e1;refine vp (by omega) (vp (by omega) (vp (by omega) ?_));have two:UU c=[92,c]→(34:: esc p++[92])++[c]=34:: (esc p++(esc [c])):=fun h=>by simp[esc,h]
   have one:UU c=[c]→(34:: esc p)++[c]=34:: (esc p++(esc [c])):=fun h=>by simp[esc,h]
   by_cases c1:(c.toNat:Int)=34
   ·have hc:c=34:=Za.mp c1;refine vp c1 (vp b1 (vp b2 ?_));rw[two (by unfold UU;rw[if_pos (Or.inl hc)])];exact hh
   ·have hc:¬c=34:=fun h=>c1 (Za.mpr h)
    by_cases c2:(c.toNat:Int)=92
    ·have hc2:c=92:=h92.mp c2;refine vn c1 (vp c2 (vp b1 (vp b2 ?_)));rw[two (by unfold UU;rw[if_pos (Or.inr hc2)])];exact hh
    ·have hc2:¬c=92:=fun h=>c2 (h92.mpr h)
     refine vn c1 (vn c2 (vp b1 ?_));rw[one (by unfold UU;rw[if_neg (by simp[hc,hc2])])];exact hh
 unfold jK.f qw;refine vb (tu l (by omega)) ?_
 cases e1:nG l with
 |false=>exact vn (by simp) (vq (vs _) rfl)
 |true=>
  refine vp rfl (vb (SY l (by omega)) ?_)
  cases e2:Y7 l with
  |true=>exact vp rfl (vs _)
  |false=>
   have:=key l [] rfl;simp only[ay];exact vn (by simp) this
theorem Td(l:Str)(hl:l.length≤1048576):Ev (fun k=>uP.f k (aT l)) (aT (qw l)):=by
 have key:∀(r p:Str),l=p++r→Ev (fun k=>lT.l0 k (aT l) (aT (34:: esc p)) (p.length:Int)) (aT (quote l)):=by
  intro r
  induction r with
  |nil=>
   intro p h;rw[List.append_nil]at h;subst h;have h1:=S_ l;refine vc ?_;simp only[lT.l0,ay];refine vn (by omega) (vp (by simp only[List.length_cons];omega) (vq (vs _) ?_));rw[show(⟨#[34]⟩:ByteArray)=aT [34]from rfl,kV];rfl
  |cons c r ih=>
   intro p h;have hz:=gZ h;have e1:=ku h;have h1:=S_ p;have hh:=ih (p++[c]) (by rw[h];simp);rw[kS,Y_]at hh;have w1:wrap64 ((p.length:Int)+1)=((p.length+1:Nat):Int):=(aQ (by omega) (by omega)).trans (by omega);have w2:((p.length+1:Nat):Int)=(p.length:Int)+1:=by omega
   have Za:=Aa c 34 (by omega);have h92:=Aa c 92 (by omega);have e3:strOfNums ([92]:List Int)=aT [92]:=CW [92]
   have e4:(l.drop p.length).take (p.length+1-p.length)=[c]:=by
    rw[h,List.drop_left,show p.length+1-p.length=1 by omega];rfl
   refine vc ?_;simp only[lT.l0,e1,w1,ay,Option.bind_some,e3,Int.toNat_natCast,jL,e4,kV];clear w1 e1 e3 e4;simp only[w2];refine vp (by omega) (vp (by omega) ?_);have two:UU c=[92,c]→(34:: esc p++[92])++[c]=34:: (esc p++(esc [c])):=fun h=>by simp[esc,h]
   have one:UU c=[c]→(34:: esc p)++[c]=34:: (esc p++(esc [c])):=fun h=>by simp[esc,h]
   have b1:(34:: esc p:Str).length+([92]:Str).length≤9223372036854775807:=by simp only[List.length_cons,List.length_nil];omega
   have b2:(34:: esc p++[92]:Str).length+([c]:Str).length≤9223372036854775807:=by simp only[List.length_cons,List.length_append,List.length_nil];omega
   have b3:(34:: esc p:Str).length+([c]:Str).length≤9223372036854775807:=by simp only[List.length_cons,List.length_nil];omega
   by_cases c1:(c.toNat:Int)=34
   ·have hc:c=34:=Za.mp c1;refine vp c1 (vp b1 (vp (by omega) (vp (by omega) (vp b2 ?_))));rw[two (by unfold UU;rw[if_pos (Or.inl hc)])];exact hh
   ·have hc:¬c=34:=fun h=>c1 (Za.mpr h)
    by_cases c2:(c.toNat:Int)=92
    ·have hc2:c=92:=h92.mp c2;refine vn c1 (vp c2 (vp b1 (vp (by omega) (vp (by omega) (vp b2 ?_)))));rw[two (by unfold UU;rw[if_pos (Or.inr hc2)])];exact hh
    ·have hc2:¬c=92:=fun h=>c2 (h92.mpr h)
     refine vn c1 (vn c2 (vp (by omega) (vp (by omega) (vp b3 ?_))));rw[one (by unfold UU;rw[if_neg (by simp[hc,hc2])])];exact hh
 unfold uP.f qw;refine vb (nH l (by omega)) ?_
 cases e1:nG l with
 |false=>exact vn (by simp) (vq (vs _) rfl)
 |true=>
  refine vp rfl (vb (S9 l (by omega)) ?_)
  cases e2:Y7 l with
  |true=>exact vp rfl (vs _)
  |false=>
   have:=key l [] rfl;unfold lT.f;exact vn (by simp) (vb this (vs _))
def aiO(p:Str×Str):Str:=[59,32]++p.1++[61]++qw p.2
def xg:List (Str×Str)→Str
 |[]=>[]
 |c:: r=>aiO c++xg r
def Tf(a b:Str)(ps:List (Str×Str)):Str:=(a++[47]++b)++xg ps
def kfl(q:List (Str×Str)):List (Str×Str)→Bool
 |[]=>true
 |c:: r=>isSmall c.1&&(nG c.2&&decide (c.2.length≤40))&&decide (¬(fidx c.1 q 0≥0))&&kfl (q++[c]) r
def zJ(a b:Str)(ps:List (Str×Str)):Bool:=isSmall a&&isSmall b&&decide (¬(ps.length>4))&&kfl [] ps&&decide ((Tf a b ps).length≤150)
theorem aaC(p:Str×Str):(aiO p).length=3+p.1.length+(qw p.2).length:=by
 unfold aiO;simp only[List.length_append,List.length_cons,List.length_nil];omega
theorem Ti(a b:List (Str×Str)):xg (a++b)=xg a++xg b:=by
 induction a with
 |nil=>rfl
 |cons c a ih=>simp only[List.cons_append,xg,ih,List.append_assoc]
theorem aaD(ps:List (Str×Str)):(xg ps).length≤2*C_ ps+5*ps.length:=by
 induction ps with
 |nil=>simp[xg]
 |cons c r ih=>
  have h1:=aaC c;have h2:=agp c.2;simp only[xg,C_,List.length_append,List.length_cons];omega
theorem GU(a b:List (Str×Str)):C_ (a++b)=C_ a+C_ b:=by
 induction a with
 |nil=>simp[C_]
 |cons c a ih=>simp only[List.cons_append,C_,ih];omega
theorem Zb{ls p r:List (Str×Str)}(h:ls=p++r)(hs:small ls):small p:=fun x hx=>hs x (by rw[h];exact List.mem_append_left _ hx)
theorem Tj{ls p r:List (Str×Str)}(h:ls=p++r):(ls.map vW).take p.length=p.map vW:=by
 rw[h,List.map_append];exact List.take_left' (by simp)
theorem UY(a b:Str)(ps:List (Str×Str))(ha:a.length≤1048576)(hb:b.length≤1048576)(hz:C_ ps≤1048576)(hn:ps.length≤1048576):Ev (fun k=>lI.f k (aT a) (aT b) (ps.map vW)) (aT (Tf a b ps)):=by
 have hs:=JC hz;unfold lI.f;have e47:(⟨#[47]⟩:ByteArray)=aT [47]:=rfl;simp only[e47,kV,ay,List.length_map];refine vp (by omega) (vp (by first|omega|(simp only[List.length_append,List.length_cons,List.length_nil];omega)) ?_)
 have key:∀(r p:List (Str×Str)),ps=p++r→Ev (fun k=>lI.l0 k (aT (a++[47]++b++xg p)) (ps.map vW) (ps.length:Int) (p.length:Int)) (aT (Tf a b ps)):=by
  intro r
  induction r with
  |nil=>
   intro p h;rw[List.append_nil]at h;subst h;refine vc ?_;simp only[lI.l0];exact vn (by omega) (vs _)
  |cons c r ih=>
   intro p h;have hz2:=gZ h;have e1:=zI h;have hc:=hs c (by rw[h];simp);have hh:=ih (p++[c]) (by rw[h];simp);rw[kS,Ti]at hh;have hq:=agp c.2
   have hp:(xg p).length≤20000000:=by
    have h1:=aaD p;have h2:C_ p≤C_ ps:=by rw[h,GU];omega
    omega
   have hi:=Tc c.2 (by omega);have w1:wrap64 ((p.length:Int)+1)=(p.length:Int)+1:=aQ (by omega) (by omega);have e59:(⟨#[59,32]⟩:ByteArray)=aT [59,32]:=rfl;have e61:(⟨#[61]⟩:ByteArray)=aT [61]:=rfl;refine vc ?_;simp only[lI.l0,e1,w1,vW,e59,e61,ay,kV,List.length_map];clear w1 e1;refine vp (by omega) (vp (by omega) (vp (by omega) (vp (by first|omega|(simp only[List.length_cons,List.length_nil];omega)) (vp (by first|omega|(simp only[List.length_append,List.length_cons,List.length_nil];omega)) (vb hi ?_)))));simp only[ay,kV];refine vp (by first|omega|(simp only[List.length_append,List.length_cons,List.length_nil];omega)) (vp (by first|omega|(simp only[List.length_append,List.length_cons,List.length_nil];omega)) ?_)
   have e:a++[47]++b++xg p++([59,32]++c.1++[61]++qw c.2)=a++[47]++b++(xg p++xg [c]):=by
    simp[xg,aiO]
   rw[e];exact hh
 have:=key ps [] rfl
 simpa [xg] using this
theorem IB(a b:Str)(ps:List (Str×Str))(ha:a.length≤1048576)(hb:b.length≤1048576)(hz:C_ ps≤1048576)(hn:ps.length≤1048576):Ev (fun k=>eF.f k (aT a) (aT b) (ps.map vW)) (zJ a b ps):=by
 have hs:=JC hz;have ht:=UY a b ps ha hb hz hn
 have hbad:Ev (fun k=>eF.j0 k true (aT a) (aT b) (ps.map vW)) false:=by
  refine vc ?_;simp only[eF.j0];exact vp trivial (vs _)
 have key:∀(r p:List (Str×Str)),ps=p++r→Ev (fun k=>eF.l0 k (ps.map vW) (ps.length:Int) (p.length:Int) (aT a) (aT b) (ps.map vW)) (kfl p r&&decide ((Tf a b ps).length≤150)):=by
  intro r
  induction r with
  |nil=>
   intro p h;rw[List.append_nil]at h;subst h;refine vc ?_;simp only[eF.l0,kfl,Bool.true_and];refine vn (by omega) (vb ht (vq (vs _) ?_));rw[ay];by_cases h1:(Tf a b ps).length≤150
   ·rw[decide_eq_true h1];exact decide_eq_true (by omega)
   ·rw[decide_eq_false h1];exact decide_eq_false (by omega)
  |cons c r ih=>
   intro p h;have hz2:=gZ h;have e1:=zI h;have hc:=hs c (by rw[h];simp);have hh:=ih (p++[c]) (by rw[h];simp);rw[kS]at hh;have w1:wrap64 ((p.length:Int)+1)=(p.length:Int)+1:=aQ (by omega) (by omega);have i1:=Ai c.1 (by omega);have i2:=tu c.2 (by omega);have i3:=GR p c.1 (Zb h hs) hc.1 (by omega);have e3:=Tj h;refine vc ?_;simp only[eF.l0,kfl,e1,w1,vW,ay,List.length_map,Int.toNat_natCast];clear w1 e1;refine vp (by omega) (vp (by omega) (vp (by omega) (vb i1 ?_)))
   cases q1:isSmall c.1 with
   |false=>exact vn (by simp) (vs _)
   |true=>
    refine vp rfl (vb i2 ?_)
    cases q2:nG c.2 with
    |false=>exact vn (by simp) (vs _)
    |true=>
     refine vp rfl ?_;by_cases q3:c.2.length≤40
     ·rw[decide_eq_true q3];refine vn (by omega) (vp (by omega) ?_);rw[e3];refine vb i3 ?_;by_cases q4:fidx c.1 p 0≥0
      ·refine vp q4 (vq (vs _) ?_);rw[decide_eq_false (fun hn=>hn q4)];rfl
      ·refine vn q4 ?_;rw[decide_eq_true q4]
       simpa using hh
     ·rw[decide_eq_false q3];exact vp (by omega) (vs _)
 unfold eF.f zJ;refine vb (Ai a (by omega)) ?_
 cases q1:isSmall a with
 |false=>exact vn (by simp) hbad
 |true=>
  refine vp rfl (vb (Ai b (by omega)) ?_)
  cases q2:isSmall b with
  |false=>exact vn (by simp) hbad
  |true=>
   refine vp rfl (vc ?_);simp only[eF.j0,List.length_map];by_cases q3:ps.length>4
   ·refine vp (decide_eq_true (by omega)) (vq (vs _) ?_);rw[decide_eq_false (fun hn=>hn q3)];rfl
   ·refine vn (by simp;omega) ?_;rw[decide_eq_true q3];have:=key ps [] rfl
    simpa using this
theorem Zc(l:Str)(hl:l.length≤1000000000):Ev (fun k=>vM.f k (aT l)) (nG l&&decide (l.length≤40)):=by
 unfold vM.f;refine vb (nH l (by omega)) ?_
 cases q2:nG l with
 |false=>exact vn (by simp) (vs _)
 |true=>
  refine vp rfl (vq (vs _) ?_);rw[ay,Bool.true_and];by_cases h1:l.length≤40
  ·rw[decide_eq_true h1];exact decide_eq_true (by omega)
  ·rw[decide_eq_false h1];exact decide_eq_false (by omega)
theorem IC(a b:Str)(ps:List (Str×Str))(ha:a.length≤1048576)(hb:b.length≤1048576)(hz:C_ ps≤1048576)(hn:ps.length≤1048576):Ev (fun k=>dN.f k (aT a) (aT b) (ps.map vW)) (zJ a b ps):=by
 have hs:=JC hz
 have hbad:Ev (fun k=>dN.j0 k true (aT a) (aT b) (ps.map vW)) false:=by
  refine vc ?_;simp only[dN.j0];exact vp trivial (vs _)
 have key:∀(r p:List (Str×Str)),ps=p++r→Ev (fun k=>dN.l0 k (((a++[47]++b++xg p:Str).length:Nat):Int) (p.length:Int) (aT a) (aT b) (ps.map vW)) (kfl p r&&decide ((Tf a b ps).length≤150)):=by
  intro r
  induction r with
  |nil=>
   intro p h;rw[List.append_nil]at h;subst h;refine vc ?_;simp only[dN.l0,kfl,Bool.true_and,List.length_map];refine vn (by omega) (vq (vs _) ?_);have e:a++[47]++b++xg ps=Tf a b ps:=rfl;rw[e];by_cases h1:(Tf a b ps).length≤150
   ·rw[decide_eq_true h1];exact decide_eq_true (by omega)
   ·rw[decide_eq_false h1];exact decide_eq_false (by omega)
  |cons c r ih=>
   intro p h;have hz2:=gZ h;have e1:=zI h;have hc:=hs c (by rw[h];simp);have hh:=ih (p++[c]) (by rw[h];simp);rw[kS]at hh
   have hp:(xg p).length≤20000000:=by
    have h1:=aaD p;have h2:C_ p≤C_ ps:=by rw[h,GU];omega
    omega
   have hq:=agp c.2;have hk:=aaC c;have i1:=GN c.1 (by omega);have i2:=Zc c.2 (by omega);have i3:=NQ p c.1 (Zb h hs) hc.1 (by omega);have i4:=Td c.2 (by omega);have e3:=Tj h
   have en:(a++[47]++b++xg (p++[c]):Str).length=(a++[47]++b++xg p:Str).length+3+c.1.length+(qw c.2).length:=by
    rw[Ti];simp only[List.length_append,xg,List.length_nil,hk];omega
   have hm:(a++[47]++b++xg p:Str).length≤30000000:=by
    simp only[List.length_append,List.length_cons,List.length_nil];omega
   rw[en]at hh
   generalize (a++[47]++b++xg p:Str).length=m at hh hm
   have w1:Unit→wrap64 ((p.length:Int)+1)=(p.length:Int)+1∧wrap64 (wrap64 (wrap64 ((m:Int)+3)+(c.1.length:Int))+((qw c.2).length:Int))=((m+3+c.1.length+(qw c.2).length:Nat):Int):=by
    intro _;have x1:wrap64 ((m:Int)+3)=(m:Int)+3:=aQ (by omega) (by omega);rw[x1];clear x1;have x2:wrap64 ((m:Int)+3+(c.1.length:Int))=(m:Int)+3+(c.1.length:Int):=aQ (by omega) (by omega);rw[x2];clear x2;exact⟨aQ (by omega) (by omega),(aQ (by omega) (by omega)).trans (by omega)⟩
   refine vc ?_;simp only[dN.l0,kfl,e1,(w1 ()).1,vW,ay,List.length_map,Int.toNat_natCast];refine vp (by omega) (vp (by omega) (vb i1 ?_))
   cases q1:isSmall c.1 with
   |false=>exact vn (by simp) (vs _)
   |true=>
    refine vp rfl (vb i2 ?_)
    cases q2:(nG c.2&&decide (c.2.length≤40))with
    |false=>exact vn (by simp) (vs _)
    |true=>
     refine vp rfl (vp (by omega) ?_);rw[e3];refine vb i3 ?_;by_cases q4:fidx c.1 p 0≥0
     ·refine vp q4 (vq (vs _) ?_);rw[decide_eq_false (fun hn=>hn q4)];rfl
     ·refine vn q4 (vb i4 ?_);rw[decide_eq_true q4];simp only[ay,(w1 ()).2]
      simpa using hh
 unfold dN.f zJ;refine vb (GN a (by omega)) ?_
 cases q1:isSmall a with
 |false=>exact vn (by simp) hbad
 |true=>
  refine vp rfl (vb (GN b (by omega)) ?_)
  cases q2:isSmall b with
  |false=>exact vn (by simp) hbad
  |true=>
   refine vp rfl (vc ?_);simp only[dN.j0,List.length_map,ay];by_cases q3:ps.length>4
   ·refine vp (decide_eq_true (by omega)) (vq (vs _) ?_);rw[decide_eq_false (fun hn=>hn q3)];rfl
   ·refine vn (by simp;omega) ?_;rw[decide_eq_true q3];have:=key ps [] rfl;have x1:wrap64 ((a.length:Int)+(b.length:Int))=(a.length:Int)+(b.length:Int):=aQ (by omega) (by omega);rw[x1];clear x1
    have x2:wrap64 ((a.length:Int)+(b.length:Int)+1)=(((a++[47]++b++xg []:Str).length:Nat):Int):=by
     refine(aQ (by omega) (by omega)).trans ?_;simp only[xg,List.length_append,List.length_cons,List.length_nil];omega
    rw[x2]
    simpa using this
theorem En(c:UInt8):oQ.f (c.toNat:Int)=some (Hw c):=by
 unfold oQ.f Hw;rw[DK,KU];cases NK c<;>simp
theorem Eo(l:Str)(hl:l.length≤1000000000000000):Ev (fun k=>dO.f k (aT l)) (l.all Hw):=by
 unfold dO.f;rw[ay];refine vq (oD (xs:=l) (F:=fun k (_:Unit) i=>dO.l0 k (aT l) (l.length:Int) i) (st:=fun _ c=>if Hw c=true then .inr ()else .inl false) (fin:=fun _=>true) (s:=()) (fun _ _=>True) trivial ?_ ?_) ?_
 ·intro p c r s h _;have hz:=gZ h;have e1:=ku h;have w1:wrap64 ((p.length:Int)+1)=(p.length:Int)+1:=aQ (by omega) (by omega);simp only[dO.l0,e1,w1,ay];clear w1 e1
  cases e:Hw c with
  |true=>
   simp only[if_true];refine⟨(fun v hv=>by cases hv),fun s' hs=>⟨trivial,fun v hv=>?_⟩⟩;refine vp (by omega) (vp (by omega) (vp (by omega) (jD (En c) (vp e hv))))
  |false=>
   refine⟨(fun v hv=>?_),fun s' hs=>by simp at hs⟩;simp only[Bool.false_eq_true,if_false,Sum.inl.injEq]at hv;subst hv;refine vp (by omega) (vp (by omega) (vp (by omega) (jD (En c) (vn (by rw[e];simp) (vs _)))))
 ·intro s _;simp only[dO.l0];exact vn (by omega) (vs _)
 ·clear hl
  induction l with
  |nil=>rfl
  |cons c r ih=>
   unfold run
   cases e:Hw c with
   |true=>simp[e,ih]
   |false=>simp[e]
theorem Ba(l:Str)(hl:l.length≤1000000000000000):Ev (fun k=>jV.f k (aT l)) (FH l):=by
 unfold jV.f FH;rw[ay];by_cases h1:1≤l.length
 ·rw[decide_eq_true h1];refine vp (by omega) ?_;by_cases h2:l.length≤20
  ·rw[decide_eq_true h2];exact vp (by omega) (vb (Eo l hl) (vs _))
  ·rw[decide_eq_false h2];exact vn (by omega) (vs _)
 ·rw[decide_eq_false h1];exact vn (by omega) (vs _)
theorem xP(l:Str)(hl:l.length≤1000000000000000):Ev (fun k=>bW.f k (aT l)) (FH l):=by
 unfold bW.f
 have hj:Ev (fun k=>bW.j1 k (aT l) (0:Int) false) (decide (1≤l.length)&&decide (l.length≤20)):=by
  refine vc ?_;simp only[bW.j1,ay];by_cases h1:1≤l.length
  ·rw[decide_eq_true h1];refine vn (by simp) (vp (by omega) (vq (vs _) ?_));rw[Bool.true_and];by_cases h2:l.length≤20
   ·rw[decide_eq_true h2];exact decide_eq_true (by omega)
   ·rw[decide_eq_false h2];exact decide_eq_false (by omega)
  ·rw[decide_eq_false h1];exact vn (by simp) (vn (by omega) (vs _))
 have hj':∀i:Int,Ev (fun k=>bW.j1 k (aT l) i false) (decide (1≤l.length)&&decide (l.length≤20)):=by
  intro i;obtain⟨K,hK⟩:=hj;refine⟨K+1,fun k hk=>?_⟩;have:=hK k (by omega);obtain⟨m,rfl⟩:∃m,k=m+1:=⟨k-1,by omega⟩
  simp only[bW.j1]at this⊢;exact this
 refine vq (oD (xs:=l) (F:=fun k (_:Nat) i=>bW.l0 k (aT l) i) (st:=fun n c=>if n≤20 then(if Hw c=true then .inr (n+1)else .inl false)else .inl (decide (1≤l.length)&&decide (l.length≤20))) (fin:=fun _=>decide (1≤l.length)&&decide (l.length≤20)) (s:=0) (fun p n=>n=p.length) rfl ?_ ?_) ?_
 ·intro p c r n h hn;subst hn;have hz:=gZ h;have e1:=ku h;have w1:wrap64 ((p.length:Int)+1)=(p.length:Int)+1:=aQ (by omega) (by omega);by_cases h20:p.length≤20
  ·simp only[if_pos h20];have hd:decide ((p.length:Int)≤20)=true:=decide_eq_true (by omega);simp only[bW.l0,hd,ay]
   cases e:Hw c with
   |true=>
    simp only[if_true];refine⟨(fun v hv=>by cases hv),fun s' hs=>⟨?_,fun v hv=>?_⟩⟩
    ·cases hs;simp
    ·refine vp (by omega) (vc ?_);simp only[bW.j1,e1,w1,ay];clear w1 e1;exact vp trivial (vp (by omega) (vp (by omega) (jD (wS c) (vp e hv))))
   |false=>
    refine⟨(fun v hv=>?_),fun s' hs=>by simp at hs⟩;simp only[Bool.false_eq_true,if_false,Sum.inl.injEq]at hv;subst hv;refine vp (by omega) (vc ?_);simp only[bW.j1,e1,w1,ay];clear w1 e1;exact vp trivial (vp (by omega) (vp (by omega) (jD (wS c) (vn (by rw[e];simp) (vs _)))))
  ·simp only[if_neg h20];have hd:decide ((p.length:Int)≤20)=false:=decide_eq_false (by omega);refine⟨(fun v hv=>?_),fun s' hs=>by cases hs⟩;cases hv;simp only[bW.l0,hd,ay];clear w1 e1;exact vp (by omega) (hj' _)
 ·intro s hs;subst hs;simp only[bW.l0,ay];exact vn (by omega) (hj' _)
 ·unfold FH
  have key:∀(r:Str) (n:Nat),n+r.length=l.length→run (fun n c=>if n≤20 then(if Hw c=true then .inr (n+1)else .inl false)else .inl (decide (1≤l.length)&&decide (l.length≤20))) (fun _=>decide (1≤l.length)&&decide (l.length≤20)) r n=(decide (1≤l.length)&&decide (l.length≤20)&&r.all Hw):=by
   intro r
   induction r with
   |nil=>intro n _;simp[run]
   |cons c r ih=>
    intro n hn;simp only[List.length_cons]at hn;unfold run;by_cases h20:n≤20
    ·simp only[if_pos h20]
     cases e:Hw c with
     |true=>simp[e,ih (n+1) (by omega)]
     |false=>simp[e]
    ·simp only[if_neg h20];have:decide (l.length≤20)=false:=decide_eq_false (by omega);simp[this]
  exact key l 0 (by omega)
def DL(ps:List (Str×Str))(n:Str):Str×Bool:=if fidx n ps 0<0 then([],false)else((ps.getD (fidx n ps 0).toNat ([],[])).2,true)
def multi:Str:=[109,117,108,116,105,112,97,114,116]
def bnd:Str:=[98,111,117,110,100,97,114,121]
def Wh(a b:Str)(ps:List (Str×Str)):Str×Bool:=if zJ a b ps=true∧a=multi∧FH (DL ps bnd).1=true then((DL ps bnd).1,true)else([],false)
theorem Ky(ps:List (Str×Str))(n:Str)(hs:small ps):(DL ps n).1.length≤1048576:=by
 unfold DL;split
 ·simp
 ·rw[List.getD_eq_getElem?_getD]
  cases e:ps[(fidx n ps 0).toNat]? with
  |none=>simp
  |some x=>exact(hs x (List.mem_of_getElem? e)).2
theorem aaE(ps:List (Str×Str))(i:Int):(eY (ps.map vW) i).f1=aT ((ps.getD i.toNat ([],[])).2):=by
 unfold eY;rw[List.getD_eq_getElem?_getD,List.getD_eq_getElem?_getD,List.getElem?_map]
 cases ps[i.toNat]? with
 |none=>rfl
 |some x=>rfl
theorem JD(ps:List (Str×Str))(n:Str)(hs:small ps)(hn:n.length≤1048576)(hl:ps.length≤1048576):Ev (fun k=>pz.f k (ps.map vW) (aT n)) (aT (DL ps n).1,(DL ps n).2):=by
 unfold pz.f DL;refine vb (GR ps n hs hn hl) ?_;have hr:=Y9 n ps 0;by_cases h:fidx n ps 0<0
 ·simp only[if_pos h];exact vq (vs _) rfl
 ·simp only[if_neg h,List.length_map,aaE];exact vp (by omega) (vp (by omega) (vs _))
theorem JE(ps:List (Str×Str))(n:Str)(hs:small ps)(hn:n.length≤1048576)(hl:ps.length≤1048576):Ev (fun k=>lJ.f k (ps.map vW) (aT n)) (aT (DL ps n).1,(DL ps n).2):=by
 unfold lJ.f DL;refine vb (NQ ps n hs hn hl) ?_;have hr:=Y9 n ps 0;by_cases h:fidx n ps 0<0
 ·simp only[if_pos h];exact vq (vs _) rfl
 ·simp only[if_neg h,List.length_map,aaE];exact vp (by omega) (vp (by omega) (vs _))
theorem aaF(ps:List (Str×Str))(n:Str)(h:(DL ps n).2=false):(DL ps n).1=[]:=by
 unfold DL at*;split at h
 ·rename_i h1;rw[if_pos h1]
 ·cases h
theorem aiP:(⟨#[98,111,117,110,100,97,114,121]⟩:ByteArray)=aT bnd:=rfl
theorem Qo(a b:Str)(ps:List (Str×Str))(ha:a.length≤1048576)(hb:b.length≤1048576)(hz:C_ ps≤1048576)(hn:ps.length≤1048576):Ev (fun k=>jW.f k (aT a) (aT b) (ps.map vW)) (aT (Wh a b ps).1,(Wh a b ps).2):=by
 have hs:=JC hz;have hg:=Ky ps bnd hs;unfold jW.f;refine vb (IB a b ps ha hb hz hn) ?_;simp only[jv]
 have hbad:Wh a b ps=([],false)→Ev (fun k=>jW.j0 k true (aT a) (aT b) (ps.map vW)) (aT (Wh a b ps).1,(Wh a b ps).2):=by
  intro e;rw[e];refine vc ?_;simp only[jW.j0];exact vp trivial (vq (vs _) rfl)
 cases e:zJ a b ps with
 |false=>exact vn (by simp) (hbad (by unfold Wh;rw[if_neg (by simp[e])]))
 |true=>
  refine vp rfl ?_;by_cases hm:a=multi
  ·have e2:(a !=([109,117,108,116,105,112,97,114,116]:List UInt8))=false:=by rw[hm];decide
   rw[e2];refine vc ?_;simp only[jW.j0,aiP];refine vn (by simp) (vb (JD ps bnd hs (by decide) (by omega)) (vb (Ba (DL ps bnd).1 (by omega)) ?_))
   cases e3:FH (DL ps bnd).1 with
   |true=>
    have hv:Wh a b ps=((DL ps bnd).1,true):=by unfold Wh;rw[if_pos ⟨e,hm,e3⟩]
    rw[hv];exact vp rfl (vs _)
   |false=>
    have hv:Wh a b ps=([],false):=by unfold Wh;rw[if_neg (by rw[e3];simp)]
    rw[hv];exact vn (by simp) (vq (vs _) rfl)
  ·have e2:(a !=([109,117,108,116,105,112,97,114,116]:List UInt8))=true:=by simpa [multi] using hm
   rw[e2];exact hbad (by unfold Wh;rw[if_neg (by simp[hm])])
theorem GV(a b:Str)(ps:List (Str×Str))(ha:a.length≤1048576)(hb:b.length≤1048576)(hz:C_ ps≤1048576)(hn:ps.length≤1048576):Ev (fun k=>pY.f k (aT a) (aT b) (ps.map vW)) (aT (Wh a b ps).1,(Wh a b ps).2):=by
 have hs:=JC hz;have hg:=Ky ps bnd hs;unfold pY.f;simp only[aiP,jv];refine vb (JE ps bnd hs (by decide) (by omega)) (vb (IC a b ps ha hb hz hn) ?_)
 cases e:zJ a b ps with
 |false=>
  have hv:Wh a b ps=([],false):=by unfold Wh;rw[if_neg (by rw[e];simp)]
  rw[hv];exact vn (by simp) (vq (vs _) rfl)
 |true=>
  refine vp rfl ?_;by_cases hm:a=multi
  ·refine vp hm ?_
   cases e4:(DL ps bnd).2 with
   |false=>
    have:=aaF ps bnd e4;have hv:Wh a b ps=([],false):=by unfold Wh;rw[if_neg (by rw[this];simp[FH])]
    rw[hv];exact vn (by simp) (vq (vs _) rfl)
   |true=>
    refine vp rfl (vb (xP (DL ps bnd).1 (by omega)) ?_)
    cases e3:FH (DL ps bnd).1 with
    |true=>
     have hv:Wh a b ps=((DL ps bnd).1,true):=by unfold Wh;rw[if_pos ⟨e,hm,e3⟩]
     rw[hv];exact vp rfl (vs _)
    |false=>
     have hv:Wh a b ps=([],false):=by unfold Wh;rw[if_neg (by rw[e3];simp)]
     rw[hv];exact vn (by simp) (vq (vs _) rfl)
  ·have hv:Wh a b ps=([],false):=by unfold Wh;rw[if_neg (by simp[hm])]
   rw[hv];exact vn hm (vq (vs _) rfl)
def Tm:Str→Option (Str×Str)
 |[]=>none
 |c:: r=>if c=34 then some ([],r)else if c=92 then(match r with
   |[]=>none
   |d:: t=>(Tm t).map fun q=>(d:: q.1,q.2))else(Tm r).map fun q=>(c:: q.1,q.2)
theorem JF(c:UInt8)(r:Str):Tm (c:: r)=if c=34 then some ([],r)else if c=92 then(match r with
   |[]=>none
   |d:: t=>(Tm t).map fun q=>(d:: q.1,q.2))else(Tm r).map fun q=>(c:: q.1,q.2):=by rw[Tm.eq_def];rfl
def nq(q:Nat)(c:UInt8):Nat:=if q=2 then 1 else if q=1 then(if c=34 then 0 else if c=92 then 2 else 1)else(if c=34 then 1 else 0)
def vX(b:UInt8):Nat→Str→Option (Str×Str)
 |_,[]=>none
 |q,c:: r=>if q=0∧c=b then some ([],r)else(vX b (nq q c) r).map fun x=>(c:: x.1,x.2)
def hd1(c:UInt8):List Str→List Str
 |[]=>[[c]]
 |x:: r=>(c:: x):: r
def parts(b:UInt8):Nat→Str→List Str
 |_,[]=>[[]]
 |q,c:: r=>if q=0∧c=b then[]:: parts b 0 r else hd1 c (parts b (nq q c) r)
theorem OI(b:UInt8):∀(n:Nat) (r w t:Str),r.length≤n→Tm r=some (w,t)→∃m,r=m++t∧w.length<m.length∧vX b 1 r=(vX b 0 t).map fun x=>(m++x.1,x.2):=by
 intro n
 induction n with
 |zero=>intro r w t h h2;cases r with
  |nil=>cases h2
  |cons c r=>simp at h
 |succ n ih=>
  intro r w t h h2
  cases r with
  |nil=>cases h2
  |cons c r=>
   simp only[List.length_cons]at h;rw[JF]at h2;by_cases c1:c=34
   ·rw[if_pos c1]at h2;cases h2;refine⟨[c],rfl,by simp,?_⟩;rw[vX,if_neg (by simp),c1];rfl
   ·rw[if_neg c1]at h2;by_cases c2:c=92
    ·rw[if_pos c2]at h2
     cases r with
     |nil=>cases h2
     |cons d r=>
      simp only[List.length_cons]at h;simp only[Option.map_eq_some_iff]at h2;obtain⟨⟨w1,t1⟩,e1,e2⟩:=h2;cases e2;obtain⟨m,e3,e4,e5⟩:=ih r w1 t1 (by omega) e1;refine⟨c:: d:: m,by rw[e3];rfl,by simp only[List.length_cons];omega,?_⟩;rw[vX,if_neg (by simp),c2,vX,if_neg (by simp[nq])];have:nq (nq 1 92) d=1:=by simp[nq]
      rw[this,e5];cases vX b 0 t1<;>rfl
    ·rw[if_neg c2]at h2;simp only[Option.map_eq_some_iff]at h2;obtain⟨⟨w1,t1⟩,e1,e2⟩:=h2;cases e2;obtain⟨m,e3,e4,e5⟩:=ih r w1 t1 (by omega) e1;refine⟨c:: m,by rw[e3];rfl,by simp only[List.length_cons];omega,?_⟩;have:nq 1 c=1:=by simp[nq,c1,c2]
     rw[vX,if_neg (by simp),this,e5];cases vX b 0 t1<;>rfl
theorem aek(b:UInt8):∀(n:Nat) (r:Str),r.length≤n→Tm r=none→vX b 1 r=none:=by
 intro n
 induction n with
 |zero=>intro r h h2;cases r with
  |nil=>rfl
  |cons c r=>simp at h
 |succ n ih=>
  intro r h h2
  cases r with
  |nil=>rfl
  |cons c r=>
   simp only[List.length_cons]at h;rw[JF]at h2;by_cases c1:c=34
   ·rw[if_pos c1]at h2;cases h2
   ·rw[if_neg c1]at h2;by_cases c2:c=92
    ·rw[if_pos c2]at h2
     cases r with
     |nil=>rw[vX,if_neg (by simp)];rfl
     |cons d r=>
      simp only[List.length_cons]at h;simp only[Option.map_eq_none_iff]at h2;rw[vX,if_neg (by simp),c2,vX,if_neg (by simp[nq])];have:nq (nq 1 92) d=1:=by simp[nq]
      rw[this,ih r (by omega) h2];rfl
    ·rw[if_neg c2]at h2;simp only[Option.map_eq_none_iff]at h2;have:nq 1 c=1:=by simp[nq,c1,c2]
     rw[vX,if_neg (by simp),this,ih r (by omega) h2];rfl
theorem aiQ(b:UInt8)(s:Str):∀(q:Nat) (x t:Str),vX b q s=some (x,t)→s=x++b:: t:=by
 induction s with
 |nil=>intro q x t h;cases h
 |cons c r ih=>
  intro q x t h;rw[vX]at h;split at h
  ·rename_i hc;cases h;rw[hc.2];rfl
  ·simp only[Option.map_eq_some_iff]at h;obtain⟨⟨w1,t1⟩,e1,e2⟩:=h;cases e2;rw[ih _ _ _ e1];rfl
theorem UZ(b:UInt8)(s:Str):∀q:Nat,parts b q s=match vX b q s with
  |none=>[s]
  |some x=>x.1:: parts b 0 x.2:=by
 induction s with
 |nil=>intro q;rfl
 |cons c r ih=>
  intro q;rw[parts,vX];by_cases h:q=0∧c=b
  ·rw[if_pos h,if_pos h]
  ·rw[if_neg h,if_neg h,ih];cases vX b (nq q c) r<;>rfl
theorem aaG(b:UInt8)(s:Str):∀q:Nat,1≤(parts b q s).length∧(parts b q s).length≤s.length+1:=by
 induction s with
 |nil=>intro q;exact⟨Nat.le_refl _,Nat.le_refl _⟩
 |cons c r ih=>
  intro q;rw[parts];split
  ·have:=ih 0;simp only[List.length_cons];omega
  ·have:=ih (nq q c)
   cases e:parts b (nq q c) r with
   |nil=>rw[e]at this;simp at this
   |cons y l=>rw[e]at this;simp only[hd1,List.length_cons]at this⊢;omega
theorem ajP(b:UInt8)(s:Str):∀(q:Nat) (x:Str),x∈parts b q s→x.length≤s.length∧∀c∈x,c∈s:=by
 induction s with
 |nil=>intro q x h;simp only[parts,List.mem_singleton]at h;subst h;simp
 |cons c r ih=>
  intro q x h;rw[parts]at h;split at h
  ·rcases List.mem_cons.mp h with rfl|h
   ·simp
   ·obtain⟨h1,h2⟩:=ih _ x h;exact⟨by simp only[List.length_cons];omega,fun d hd=>List.mem_cons_of_mem _ (h2 d hd)⟩
  ·cases e:parts b (nq q c) r with
   |nil=>have:=aaG b r (nq q c);rw[e]at this;simp at this
   |cons y l=>
    rw[e,hd1]at h;rcases List.mem_cons.mp h with rfl|h
    ·obtain⟨h1,h2⟩:=ih (nq q c) y (by rw[e];simp);refine⟨by simp only[List.length_cons];omega,fun d hd=>?_⟩;rcases List.mem_cons.mp hd with rfl|hd
     ·simp
     ·exact List.mem_cons_of_mem _ (h2 d hd)
    ·obtain⟨h1,h2⟩:=ih (nq q c) x (by rw[e];exact List.mem_cons_of_mem _ h);exact⟨by simp only[List.length_cons];omega,fun d hd=>List.mem_cons_of_mem _ (h2 d hd)⟩
def Tn:Nat→Bool→Str→Option (List Str)
 |0,_,_=>none
 |_+1,_,[]=>some []
 |n+1,a,c:: r=>if c=32 then Tn n true r else if a=false then none else if c=34 then(match Tm r with
   |none=>none
   |some q=>(Tn n false q.2).map (q.1:: ·))else if(c:: r).takeWhile z_=[]then none else(Tn n false ((c:: r).dropWhile z_)).map ((c:: r).takeWhile z_:: ·)
def words(s:Str):Option (List Str):=Tn (s.length+1) true s
def wU(b:UInt8):Str→Option (Str×Str)
 |[]=>none
 |c:: r=>if c=b then some ([],r)else(wU b r).map fun x=>(c:: x.1,x.2)
theorem acy(b:UInt8)(s:Str):∀(x t:Str),wU b s=some (x,t)→s=x++b:: t:=by
 induction s with
 |nil=>intro x t h;cases h
 |cons c r ih=>
  intro x t h;rw[wU]at h;split at h
  ·rename_i hc;cases h;rw[hc];rfl
  ·simp only[Option.map_eq_some_iff]at h;obtain⟨⟨w1,t1⟩,e1,e2⟩:=h;cases e2;rw[ih _ _ e1];rfl
theorem ar7(b:UInt8)(s:Str):Lib.index s [b]=match wU b s with
  |none=>-1
  |some x=>(x.1.length:Int):=by
 induction s with
 |nil=>rfl
 |cons c r ih=>
  rw[Lib.index,wU];by_cases h:c=b
  ·rw[if_pos (by simp[List.isPrefixOf,h]),if_pos h];rfl
  ·rw[if_neg (by simp only[List.isPrefixOf,Bool.and_true,beq_iff_eq];exact fun e=>h e.symm),if_neg h,ih]
   cases e:wU b r with
   |none=>rfl
   |some q=>
    simp only[Option.map_some,List.length_cons];rw[if_neg (by simp)];rfl
theorem aIr(b:UInt8)(s:Str):Lib.cut s [b]=match wU b s with
  |none=>(s,[],false)
  |some x=>(x.1,x.2,true):=by
 unfold Lib.cut;rw[ar7]
 cases e:wU b s with
 |none=>rfl
 |some q=>
  obtain⟨x,t⟩:=q;have:=acy b s x t e;simp only;rw[if_pos (by omega)];subst this;simp
def trim(l:Str):Str:=Lib.trimB l 32
theorem Jc(p:UInt8→Bool)(l:Str):∃m,l=m++l.dropWhile p∧∀c∈m,p c=true:=by
 induction l with
 |nil=>exact⟨[],rfl,by simp⟩
 |cons c r ih=>
  cases e:p c with
  |true=>
   obtain⟨m,h1,h2⟩:=ih;refine⟨c:: m,by simp[List.dropWhile,e];exact h1,fun d hd=>?_⟩;rcases List.mem_cons.mp hd with rfl|hd
   ·exact e
   ·exact h2 d hd
  |false=>exact⟨[],by simp[List.dropWhile,e],by simp⟩
theorem Kz(l:Str):∃i j,l=List.replicate i 32++trim l++List.replicate j 32:=by
 unfold trim Lib.trimB Lib.trimLeftB Lib.trimRightB;have rep:∀m:Str,(∀c∈m,(c==32)=true)→m=List.replicate m.length 32:=fun m h=>List.eq_replicate_iff.mpr ⟨rfl,fun c hc=>by simpa using h c hc⟩
 obtain⟨m,h1,h2⟩:=Jc (·==32) l.reverse;obtain⟨m2,h3,h4⟩:=Jc (·==32) (l.reverse.dropWhile (·==32)).reverse;refine⟨m2.length,m.length,?_⟩;rw[←rep m2 h4,←h3]
 have e:m.reverse=List.replicate m.length 32:=by
  have:=rep m.reverse (fun c hc=>h2 c (List.mem_reverse.mp hc))
  rwa [List.length_reverse]at this
 rw[←e,←List.reverse_append,←h1,List.reverse_reverse]
theorem CX(l:Str):(trim l).length≤l.length:=by
 obtain⟨i,j,h⟩:=Kz l;have:=congrArg List.length h;simp only[List.length_append]at this;omega
theorem ael(l:Str)(c:UInt8)(hc:c∈l)(h32:c≠32):c∈trim l:=by
 obtain⟨i,j,h⟩:=Kz l;rw[h]at hc;simp only[List.mem_append,List.mem_replicate]at hc;rcases hc with(⟨_,h⟩|h)|⟨_,h⟩
 ·exact absurd h h32
 ·exact h
 ·exact absurd h h32
theorem U0(l:Str):trim (32:: l)=trim l:=by
 unfold trim Lib.trimB Lib.trimLeftB Lib.trimRightB;rw[List.reverse_cons,List.dropWhile_append];split
 ·rename_i h
  have:l.reverse.dropWhile (·==32)=[]:=by simpa using h
  rw[this];rfl
 ·rw[List.reverse_append];simp
theorem ajQ(l:Str)(h:∀c∈l,c≠32):trim l=l:=by
 obtain⟨i,j,e⟩:=Kz l
 have h1:i=0:=by
  cases i with
  |zero=>rfl
  |succ i=>exact absurd rfl (h 32 (by rw[e];simp))
 have h2:j=0:=by
  cases j with
  |zero=>rfl
  |succ j=>exact absurd rfl (h 32 (by rw[e];simp))
 subst h1;subst h2
 simpa using e.symm
def Qp(s:Str):Option (Str×Str):=match wU 61 s with
 |none=>none
 |some x=>match words x.2 with
  |some [w]=>some (low (trim x.1),w)
  |_=>none
def Zd:List Str→Option (List (Str×Str))
 |[]=>some []
 |s:: r=>match Qp s with
  |none=>none
  |some x=>(Zd r).map (x:: ·)
def pkO(o:Option (Str×Str))(ps:Option (List (Str×Str))):Option (Str×Str×List (Str×Str)):=match o,ps with
 |some x,some ps=>if zJ (low x.1) (low x.2) ps=true then some (low x.1,low x.2,ps)else none
 |_,_=>none
def pk(s:Str):Option (Str×Str×List (Str×Str)):=if nG s=true then pkO (wU 47 (trim ((parts 59 0 s).headD []))) (Zd ((parts 59 0 s).drop 1))else none
theorem ao_(c b:UInt8):((c.toNat:Int)=(b.toNat:Int))↔c=b:=by
 constructor
 ·intro e;exact UInt8.toNat_inj.mp (by omega)
 ·intro e;rw[e]
def ZV(L:Nat)(acc:Str):Option (Str×Str)→ByteArray×Int×Bool
 |none=>(aT [],0,false)
 |some q=>(aT (acc++q.1),((L-q.2.length:Nat):Int),true)
theorem U1(l:Str)(hl:l.length≤1048576):∀(n:Nat) (r p acc:Str),r.length≤n→l=p++r→acc.length≤p.length→Ev (fun k=>kH.l0 k (aT l) (zn acc) (p.length:Int)) (ZV l.length acc (Tm r)):=by
 intro n
 induction n with
 |zero=>
  intro r p acc h h2 h3;have:r=[]:=List.length_eq_zero_iff.mp (by omega);subst this;rw[List.append_nil]at h2;subst h2;refine vc ?_;simp only[kH.l0,ay];exact vn (by omega) (vq (vs _) rfl)
 |succ n ih=>
  intro r p acc h h2 h3
  cases r with
  |nil=>
   rw[List.append_nil]at h2;subst h2;refine vc ?_;simp only[kH.l0,ay];exact vn (by omega) (vq (vs _) rfl)
  |cons c r=>
   simp only[List.length_cons]at h;have hz:=gZ h2;have e1:=ku h2;have w1:wrap64 ((p.length:Int)+1)=((p.length+1:Nat):Int):=(aQ (by omega) (by omega)).trans (by omega);have Za:(c.toNat:Int)=34↔c=34:=Aa c 34 (by omega);have h92:(c.toNat:Int)=92↔c=92:=Aa c 92 (by omega);refine vc ?_;simp only[kH.l0,e1,w1,ay,UW];clear e1 w1;rw[JF];refine vp (by omega) (vp (by omega) ?_);by_cases c1:(c.toNat:Int)=34
   ·refine vp c1 (vq (vs _) ?_);rw[if_pos (Za.mp c1),ZV,CW,show l.length-r.length=p.length+1 by omega];simp
   ·refine vn c1 ?_;rw[if_neg (fun hh=>c1 (Za.mpr hh))];by_cases c2:(c.toNat:Int)=92
    ·refine vp c2 ?_;rw[if_pos (h92.mp c2)]
     cases r with
     |nil=>
      simp only[List.length_nil]at hz;exact vp (by omega) (vq (vs _) rfl)
     |cons d r=>
      simp only[List.length_cons]at h hz
      have e2:bt (aT l) ((p.length+1:Nat):Int)=(d.toNat:Int):=by
       have:=ku (l:=l) (p:=p++[c]) (c:=d) (r:=r) (by rw[h2];simp)
       rwa [List.length_append]at this
      have w2:wrap64 (((p.length+1:Nat):Int)+1)=((p.length+2:Nat):Int):=(aQ (by omega) (by omega)).trans (by omega);have:=ih r (p++[c,d]) (acc++[d]) (by omega) (by rw[h2];simp) (by simp;omega);rw[OH,List.length_append]at this;have e3:([(d.toNat:Int)]:List Int)=zn [d]:=rfl;rw[e2,w2,e3];clear e2 w2;refine vn (by omega) (vp (by omega) (vp (by omega) (vp (by omega) (vq this ?_))))
      show _=ZV l.length acc ((Tm r).map fun q=>(d:: q.1,q.2))
      cases Tm r with
      |none=>rfl
      |some q=>simp[ZV]
    ·refine vn c2 ?_;rw[if_neg (fun hh=>c2 (h92.mpr hh))];have:=ih r (p++[c]) (acc++[c]) (by omega) (by rw[h2];simp) (by simp;omega);rw[OH,List.length_append]at this;have e3:([(c.toNat:Int)]:List Int)=zn [c]:=rfl;rw[e3];refine vp (by omega) (vq this ?_)
     cases Tm r with
     |none=>rfl
     |some q=>simp[ZV]
theorem NR(c:UInt8)(r:Str)(hl:r.length≤1048575):Ev (fun k=>kH.f k (aT (c:: r))) (ZV (r.length+1) [] (Tm r)):=U1 (c:: r) (by simp only[List.length_cons];omega) r.length r [c] [] (Nat.le_refl _) rfl (by simp)
def aem(p:Nat):Option (Str×Str)→Int
 |none=>-1
 |some q=>((p+q.1.length:Nat):Int)
theorem GX{l p r:Str}(h:l=p++r):l.drop p.length=r:=by rw[h,List.drop_left]
theorem Tq(l:Str)(b:UInt8)(hb:b≠34)(hl:l.length≤1048576):∀(n:Nat) (r p:Str),r.length≤n→l=p++r→Ev (fun k=>lu.l0 k (aT l) (b.toNat:Int) (p.length:Int)) (aem p.length (vX b 0 r)):=by
 intro n
 induction n with
 |zero=>
  intro r p h h2;have:r=[]:=List.length_eq_zero_iff.mp (by omega);subst this;rw[List.append_nil]at h2;subst h2;refine vc ?_;simp only[lu.l0,ay];exact vn (by omega) (vq (vs _) rfl)
 |succ n ih=>
  intro r p h h2
  cases r with
  |nil=>
   rw[List.append_nil]at h2;subst h2;refine vc ?_;simp only[lu.l0,ay];exact vn (by omega) (vq (vs _) rfl)
  |cons c r=>
   simp only[List.length_cons]at h;have hz:=gZ h2;have e1:=ku h2;have w1:wrap64 ((p.length:Int)+1)=((p.length+1:Nat):Int):=(aQ (by omega) (by omega)).trans (by omega);have Za:(c.toNat:Int)=34↔c=34:=Aa c 34 (by omega);have hbb:=ao_ c b
   have ex:(aT l).extract (p.length:Int).toNat l.length=aT (c:: r):=by
    rw[Int.toNat_natCast,jL,GX h2,List.take_of_length_le (by simp only[List.length_cons];omega)]
   refine vc ?_;simp only[lu.l0,e1,w1,ay,ex];clear e1 w1 ex;rw[vX];refine vp (by omega) (vp (by omega) ?_);by_cases c1:(c.toNat:Int)=34
   ·have hc:=Za.mp c1;refine vp c1 (vp (by omega) (vb (NR c r (by omega)) ?_));rw[if_neg (by intro hh;exact hb (hh.2.symm.trans hc)),show nq 0 c=1 by rw[hc];rfl]
    cases e:Tm r with
    |none=>rw[aek b r.length r (Nat.le_refl _) e];exact vn (by simp[ZV]) (vq (vs _) rfl)
    |some q=>
     obtain⟨w,t⟩:=q;obtain⟨m,h3,h4,h5⟩:=OI b r.length r w t (Nat.le_refl _) e;have hm:r.length=m.length+t.length:=by rw[h3,List.length_append]
     have:=ih t (p++c:: m) (by omega) (by rw[h2,h3];simp);refine vp rfl ?_;simp only[ZV];have w2:wrap64 (((r.length+1-t.length:Nat):Int)-1)=(m.length:Int):=(aQ (by omega) (by omega)).trans (by omega);rw[w2];clear w2;have w3:wrap64 ((p.length:Int)+(m.length:Int))=((p.length+m.length:Nat):Int):=(aQ (by omega) (by omega)).trans (by omega);rw[w3];clear w3;have w4:wrap64 (((p.length+m.length:Nat):Int)+1)=((p++c:: m).length:Int):=(aQ (by omega) (by omega)).trans (by simp only[List.length_append,List.length_cons];omega);rw[w4,h5];clear w4;refine vq this ?_
     cases vX b 0 t with
     |none=>rfl
     |some x=>simp only[Option.map_some,aem,List.length_append,List.length_cons];omega
   ·refine vn c1 ?_;have hc:¬c=34:=fun hh=>c1 (Za.mpr hh)
    by_cases c2:c=b
    ·rw[if_pos ⟨rfl,c2⟩];exact vp (hbb.mpr c2) (vq (vs _) (by simp[aem]))
    ·rw[if_neg (fun hh=>c2 hh.2),show nq 0 c=0 by simp[nq,hc]];have:=ih r (p++[c]) (by omega) (by rw[h2];simp);rw[List.length_append]at this;refine vn (fun hh=>c2 (hbb.mp hh)) (vq this ?_)
     cases vX b 0 r with
     |none=>rfl
     |some x=>simp only[Option.map_some,aem,List.length_append,List.length_cons,List.length_nil];omega
theorem KW(l:Str)(b:UInt8)(hb:b≠34)(hl:l.length≤1048576):Ev (fun k=>lu.f k (aT l) (b.toNat:Int)) (aem 0 (vX b 0 l)):=Tq l b hb hl l.length l [] (Nat.le_refl _) rfl
theorem KA(b:UInt8)(hb:b≠34):∀(n:Nat) (s:Str) (acc:List Str),s.length≤n→s.length+acc.length≤1048576→Ev (fun k=>iQ.l0 k (aT s) (b.toNat:Int) (acc.map aT)) ((acc++parts b 0 s).map aT):=by
 intro n
 induction n with
 |zero=>
  intro s acc h h2;have:s=[]:=List.length_eq_zero_iff.mp (by omega);subst this;refine vc ?_;simp only[iQ.l0,List.length_map];refine vb (KW [] b hb (by simp)) (vp (by simp[vX,aem]) (vp (by simp at h2;omega) (vq (vs _) ?_)));simp[parts]
 |succ n ih=>
  intro s acc h h2;refine vc ?_;simp only[iQ.l0,List.length_map,ay];refine vb (KW s b hb (by omega)) ?_;rw[UZ]
  cases e:vX b 0 s with
  |none=>exact vp (by simp[aem]) (vp (by omega) (vq (vs _) (by simp)))
  |some q=>
   obtain⟨x,t⟩:=q;have hs:=aiQ b s 0 x t e;have hz:s.length=x.length+(t.length+1):=by rw[hs];simp
   have:=ih t (acc++[x]) (by omega) (by simp;omega);have w1:wrap64 ((x.length:Int)+1)=((x.length+1:Nat):Int):=(aQ (by omega) (by omega)).trans (by omega);simp only[aem,Nat.zero_add,w1,Int.toNat_natCast,jL,List.drop_zero,Nat.sub_zero];have e1:s.take x.length=x:=by rw[hs,List.take_left]
   have e2:(s.drop (x.length+1)).take (s.length-(x.length+1))=t:=by
    rw[List.take_of_length_le (by simp),hs,←List.drop_drop,List.drop_left];rfl
   rw[e1,e2];clear w1;refine vn (by omega) (vp (by omega) (vp (by omega) (vp (by omega) (vp (by omega) (vp (by omega) (vq (r:=((acc++[x]++parts b 0 t).map aT)) ?_ (by simp)))))))
   simpa using this
theorem NS(s:Str)(hs:s.length≤1048576):Ev (fun k=>iQ.f k (aT s) 59) ((parts 59 0 s).map aT):=by
 have:=KA 59 (by decide) s.length s [] (Nat.le_refl _) (by simpa using hs);unfold iQ.f
 simpa using this
def O1(acc:List Str):Option (List Str)→List ByteArray×Bool
 |none=>([],false)
 |some ws=>((acc++ws).map aT,true)
theorem O4(l:Str)(acc:List Str)(hl:l.length≤1048576)(ha:acc.length≤1048576)(p:Str)(v:List ByteArray×Bool):∀(r a:Str),l=p++(a++r)→a.all z_=true→
  (a++r.takeWhile z_=[]→v=([],false))→
  (a++r.takeWhile z_≠[]→Ev (fun k=>dY.l0 k (aT l) ((acc++[a++r.takeWhile z_]).map aT) (((p++(a++r.takeWhile z_)).length:Nat):Int) false) v)→
  Ev (fun k=>dY.l1 k (aT l) (acc.map aT) (p.length:Int) (((p++a).length:Nat):Int)) v:=by
 intro r
 induction r with
 |nil=>
  intro a h h2 h3 h4;have hz:l.length=p.length+a.length:=by rw[h];simp
  have hpa:(p++a).length=p.length+a.length:=by simp
  simp only[List.takeWhile_nil,List.append_nil]at h3 h4;refine vc ?_;simp only[dY.l1,ay,List.length_map];refine vn (by omega) ?_;by_cases e:a=[]
  ·rw[h3 e];subst e;exact vp (by simp) (vs _)
  ·have hne:0<a.length:=List.length_pos_iff.mpr e
   have ex:(aT l).extract (p.length:Int).toNat (((p++a).length:Nat):Int).toNat=aT a:=by
    rw[Int.toNat_natCast,Int.toNat_natCast,jL,GX h,hpa,List.append_nil];rw[List.take_of_length_le (by omega)]
   rw[ex];have:=h4 e;rw[List.map_append,List.map_singleton]at this;exact vn (by omega) (vp (by omega) (vp (by omega) (vp (by omega) (vp (by omega) this))))
 |cons c r ih=>
  intro a h h2 h3 h4;have hz:l.length=p.length+(a.length+(r.length+1)):=by rw[h];simp
  have hpa:(p++a).length=p.length+a.length:=by simp
  have e1:bt (aT l) (((p++a).length:Nat):Int)=(c.toNat:Int):=ku (l:=l) (p:=p++a) (c:=c) (r:=r) (by rw[h];simp);have w1:wrap64 ((((p++a).length:Nat):Int)+1)=((p++(a++[c])).length:Int):=(aQ (by omega) (by omega)).trans (by simp only[List.length_append,List.length_cons,List.length_nil];omega);refine vc ?_;simp only[dY.l1,ay,List.length_map,e1,w1];clear e1 w1;refine vp (by omega) (vp (by omega) (jD (A_ c) ?_))
  cases e:z_ c with
  |true=>
   refine vp rfl ?_;have ec:a++(c:: r).takeWhile z_=a++[c]++r.takeWhile z_:=by simp[List.takeWhile,e]
   refine ih (a++[c]) (by rw[h];simp) (by simp[h2,e]) (fun hh=>h3 (by rw[ec];exact hh)) (fun hh=>?_);have:=h4 (by rw[ec];exact hh)
   rwa [ec]at this
  |false=>
   have et:(c:: r).takeWhile z_=[]:=by simp[List.takeWhile,e]
   rw[et,List.append_nil]at h3 h4;refine vn (by simp) ?_;by_cases e:a=[]
   ·rw[h3 e];subst e;exact vp (by simp) (vs _)
   ·have hne:0<a.length:=List.length_pos_iff.mpr e
    have ex:(aT l).extract (p.length:Int).toNat (((p++a).length:Nat):Int).toNat=aT a:=by
     rw[Int.toNat_natCast,Int.toNat_natCast,jL,GX h,hpa,show p.length+a.length-p.length=a.length by omega,List.take_left]
    rw[ex];have:=h4 e;rw[List.map_append,List.map_singleton]at this;exact vn (by omega) (vp (by omega) (vp (by omega) (vp (by omega) (vp (by omega) this))))
theorem IE(p:UInt8→Bool)(l:Str):l.takeWhile p++l.dropWhile p=l:=List.takeWhile_append_dropWhile
theorem NT(l:Str)(hl:l.length≤1048576):∀(n:Nat) (r p:Str) (acc:List Str) (a:Bool),r.length<n→l=p++r→acc.length≤p.length→Ev (fun k=>dY.l0 k (aT l) (acc.map aT) (p.length:Int) a) (O1 acc (Tn n a r)):=by
 intro n
 induction n with
 |zero=>intro r p acc a h;omega
 |succ n ih=>
  intro r p acc a h h2 h3;refine vc ?_
  cases r with
  |nil=>
   rw[List.append_nil]at h2;subst h2;simp only[dY.l0,ay];exact vn (by omega) (vq (vs _) (by simp[Tn,O1]))
  |cons c r=>
   simp only[List.length_cons]at h;have hz:=gZ h2;have e1:=ku h2;have w1:wrap64 ((p.length:Int)+1)=(((p++[c]).length:Nat):Int):=(aQ (by omega) (by omega)).trans (by simp);have h32:(c.toNat:Int)=32↔c=32:=Aa c 32 (by omega);have Za:(c.toNat:Int)=34↔c=34:=Aa c 34 (by omega)
   have ex:(aT l).extract (p.length:Int).toNat l.length=aT (c:: r):=by
    rw[Int.toNat_natCast,jL,GX h2,List.take_of_length_le (by simp only[List.length_cons];omega)]
   simp only[dY.l0,e1,w1,ay,ex,List.length_map];clear e1 w1 ex;rw[Tn];refine vp (by omega) (vp (by omega) ?_);by_cases c1:(c.toNat:Int)=32
   ·rw[if_pos (h32.mp c1)];exact vp c1 (ih r (p++[c]) acc true (by omega) (by rw[h2];simp) (by simp;omega))
   ·rw[if_neg (fun hh=>c1 (h32.mpr hh))];refine vn c1 ?_
    cases a with
    |false=>exact vn (by simp) (vq (vs _) rfl)
    |true=>
     refine vp rfl ?_;rw[if_neg (by simp)];by_cases c2:(c.toNat:Int)=34
     ·rw[if_pos (Za.mp c2)];refine vp c2 (vp (by omega) (vb (NR c r (by omega)) ?_))
      cases e:Tm r with
      |none=>exact vn (by simp[ZV]) (vq (vs _) rfl)
      |some q=>
       obtain⟨w,t⟩:=q;obtain⟨m,h4,h5,_⟩:=OI 0 r.length r w t (Nat.le_refl _) e;have hm:r.length=m.length+t.length:=by rw[h4,List.length_append]
       have:=ih t (p++c:: m) (acc++[w]) false (by omega) (by rw[h2,h4];simp) (by simp;omega);have w2:wrap64 ((p.length:Int)+((r.length+1-t.length:Nat):Int))=((p++c:: m).length:Int):=(aQ (by omega) (by omega)).trans (by simp only[List.length_append,List.length_cons];omega);simp only[ZV,List.nil_append,w2];rw[List.map_append,List.map_singleton]at this;refine vp trivial (vp (by omega) (vq this ?_))
       cases Tn n false t with
       |none=>rfl
       |some ws=>simp[O1]
     ·rw[if_neg (fun hh=>c2 (Za.mpr hh))];refine vn c2 ?_;have hsw:=IE z_ (c:: r);refine O4 l acc hl (by omega) p _ (c:: r) [] h2 rfl (fun hh=>?_) (fun hh=>?_) |>fun hq=>by simpa using hq
      ·rw[List.nil_append]at hh;rw[if_pos hh];rfl
      ·rw[List.nil_append]at hh⊢;rw[if_neg hh];have hne:0<((c:: r).takeWhile z_).length:=List.length_pos_iff.mpr hh
       have hlen:((c:: r).takeWhile z_).length+((c:: r).dropWhile z_).length=r.length+1:=by
        have:=congrArg List.length hsw
        rwa [List.length_append,List.length_cons]at this
       have:=ih ((c:: r).dropWhile z_) (p++(c:: r).takeWhile z_) (acc++[(c:: r).takeWhile z_]) false (by omega) (by rw[List.append_assoc,hsw];exact h2) (by simp only[List.length_append,List.length_cons,List.length_nil];omega);refine vq this ?_
       cases Tn n false ((c:: r).dropWhile z_)with
       |none=>rfl
       |some ws=>simp[O1]
theorem GY(l:Str)(hl:l.length≤1048576)(ht:nG l=true):Ev (fun k=>dY.f k (aT l)) (O1 [] (words l)):=by
 unfold dY.f;refine vb (tu l (by omega)) (vp ht ?_);exact NT l hl (l.length+1) l [] [] true (by omega) rfl (by simp)
def Wi:Option (Str×Str×List (Str×Str))→ByteArray×ByteArray×List eG×Bool
 |none=>(aT [],aT [],[],false)
 |some x=>(aT x.1,aT x.2.1,x.2.2.map vW,true)
theorem KX(l:Str)(hl:l.length≤1048576):lq.f (aT l) ⟨#[32]⟩=some (aT (trim l)):=by
 unfold lq.f;rw[if_pos rfl,if_pos (by rw[ay];omega)];rfl
def Lp(s:Str):Option (Str×Str)→ByteArray×ByteArray×Bool
 |none=>(aT s,aT [],false)
 |some x=>(aT x.1,aT x.2,true)
theorem GZ(b:UInt8)(l:Str)(hl:l.length≤1048576):strings_Cut.f (aT l) ⟨#[b]⟩=some (Lp l (wU b l)):=by
 unfold strings_Cut.f;rw[if_pos (by rw[ay];omega)];have e:Lib.cut (aT l).data.toList (⟨#[b]⟩:ByteArray).data.toList=Lib.cut l [b]:=rfl;rw[e,aIr]
 cases wU b l with
 |none=>rfl
 |some x=>rfl
theorem Tt{b:UInt8}{s x t:Str}(h:wU b s=some (x,t)):s.length=x.length+t.length+1:=by
 rw[acy b s x t h];simp;omega
theorem Ze{s t:Str}(h:nG s=true)(hl:t.length≤s.length)(hm:∀c∈t,c∈s):nG t=true:=by
 unfold nG at*;simp only[Bool.and_eq_true,List.all_eq_true,decide_eq_true_iff]at*;exact⟨fun c hc=>h.1 c (hm c hc),by omega⟩
theorem ar8:∀(n:Nat) (a:Bool) (s:Str) (ws:List Str),Tn n a s=some ws→∀w∈ws,w.length≤s.length:=by
 intro n
 induction n with
 |zero=>intro a s ws h;cases h
 |succ n ih=>
  intro a s ws h
  cases s with
  |nil=>simp only[Tn,Option.some.injEq]at h;subst h;simp
  |cons c r=>
   rw[Tn]at h;split at h
   ·intro w hw;have:=ih _ _ _ h w hw;simp only[List.length_cons];omega
   ·split at h
    ·cases h
    ·split at h
     ·cases e:Tm r with
      |none=>rw[e]at h;cases h
      |some q=>
       obtain⟨w1,t⟩:=q;obtain⟨m,h4,h5,_⟩:=OI 0 r.length r w1 t (Nat.le_refl _) e;have hm:r.length=m.length+t.length:=by rw[h4,List.length_append]
       rw[e]at h;simp only[Option.map_eq_some_iff]at h;obtain⟨v,e1,rfl⟩:=h;intro w hw;simp only[List.length_cons];rcases List.mem_cons.mp hw with rfl|hw
       ·omega
       ·have:=ih _ _ _ e1 w hw;omega
     ·split at h
      ·cases h
      ·simp only[Option.map_eq_some_iff]at h;obtain⟨v,e1,rfl⟩:=h;have hlen:=congrArg List.length (IE z_ (c:: r));rw[List.length_append]at hlen;intro w hw;rcases List.mem_cons.mp hw with rfl|hw
       ·omega
       ·have:=ih _ _ _ e1 w hw;omega
theorem aaH{s:Str}{ws:List Str}(h:words s=some ws):∀w∈ws,w.length≤s.length:=ar8 _ _ _ _ h
def fin1(ok:Bool)(m u:Str)(ps:List (Str×Str)):Option (Str×Str×List (Str×Str)):=if ok=true∧zJ m u ps=true then some (m,u,ps)else none
def Wj(ok:Bool)(m u:Str)(q:List (Str×Str)):Option (List (Str×Str))→Option (Str×Str×List (Str×Str))
 |none=>none
 |some ps=>fin1 ok m u (q++ps)
theorem aaI(ok:Bool)(m u:Str)(q:List (Str×Str))(x:Str×Str)(o:Option (List (Str×Str))):Wj ok m u q (o.map (x:: ·))=Wj ok m u (q++[x]) o:=by
 cases o with
 |none=>rfl
 |some ps=>simp[Wj]
theorem Qq(ok:Bool)(m u:Str)(ps:List (Str×Str))(hm:m.length≤1048576)(hu:u.length≤1048576)(hz:C_ ps≤1048576)(hn:ps.length≤1048576):
  Ev (fun k=>if ok=true then((eF.f k (aT m) (aT u) (ps.map vW)).bind fun t=>(if t=true then(some (aT m,aT u,ps.map vW,true))else(some ((⟨#[]⟩:ByteArray),(⟨#[]⟩:ByteArray),([]:List eG),false))))else(some ((⟨#[]⟩:ByteArray),(⟨#[]⟩:ByteArray),([]:List eG),false))) (Wi (fin1 ok m u ps)):=by
 cases ok with
 |false=>exact vn (by simp) (vq (vs _) (by unfold fin1;rw[if_neg (by simp)];rfl))
 |true=>
  refine vp rfl (vb (IB m u ps hm hu hz hn) ?_)
  cases e:zJ m u ps with
  |true=>exact vp rfl (vq (vs _) (by unfold fin1;rw[if_pos ⟨rfl,e⟩];rfl))
  |false=>exact vn (by simp) (vq (vs _) (by unfold fin1;rw[if_neg (by simp[e])];rfl))
theorem EZ(ok:Bool)(xs:List Str)(m u:Str)(hx:xs.length≤1000)(ht:∀x∈xs,nG x=true)(hm:m.length≤1048576)(hu:u.length≤1048576):∀(r p:List Str) (q:List (Str×Str)),xs=p++r→q.length≤p.length→C_ q≤400*q.length→
  Ev (fun k=>dD.l0 k ok (xs.map aT) (xs.length:Int) (p.length:Int) (aT m) (aT u) (q.map vW)) (Wi (Wj ok m u q (Zd r))):=by
 intro r
 induction r with
 |nil=>
  intro p q h hq hz;rw[List.append_nil]at h;subst h;refine vc ?_;simp only[dD.l0];refine vn (by omega) ?_;have:=Qq ok m u q hm hu (by omega) (by omega)
  simpa [Zd,Wj] using this
 |cons c r ih=>
  intro p q h hq hz;have hz2:=gZ h;have e1:=nX h;have htc:=ht c (by rw[h];simp);have hcl:=Kw htc;have w1:wrap64 ((p.length:Int)+1)=((p++[c]).length:Int):=(aQ (by omega) (by omega)).trans (by simp);have hcut:=GZ 61 c (by omega);refine vc ?_;simp only[dD.l0,e1,hcut,List.length_map,Option.bind_some];clear e1 hcut
  have hbad:∀(x11:ByteArray) (x14:List ByteArray),Ev (fun k=>dD.j1 k ok x11 x14 (xs.map aT) (xs.length:Int) (p.length:Int) true (aT m) (aT u) (q.map vW)) (Wi none):=by
   intro x11 x14;refine vc ?_;simp only[dD.j1];exact vp trivial (vs _)
  refine vp (by omega) (vp (by omega) (vp (by omega) ?_))
  cases e:wU 61 c with
  |none=>
   simp only[Lp];refine vb (GY [] (by simp) (by decide)) (vn (by simp) (vq (hbad _ _) ?_));rw[Zd,Qp,e];rfl
  |some x=>
   obtain⟨n,v⟩:=x;have hlen:=Tt e;have hvs:nG v=true:=Ze htc (by omega) (fun d hd=>by rw[acy 61 c n v e];simp[hd]);simp only[Lp];refine vb (GY v (by omega) hvs) (vp trivial ?_)
   cases e2:words v with
   |none=>
    refine vn (by simp[O1]) (vq (hbad _ _) ?_);rw[Zd,Qp,e];simp only[e2];rfl
   |some ws=>
    simp only[O1,List.nil_append];refine vp trivial ?_;by_cases h1:ws.length=1
    ·obtain⟨w,rfl⟩:=List.length_eq_one_iff.mp h1;have hwl:=aaH e2 w (by simp);have hnl:=CX n;have e3:Qp c=some (low (trim n),w):=by rw[Qp,e];simp only[e2]
     have:=ih (p++[c]) (q++[(low (trim n),w)]) (by rw[h];simp) (by simp;omega) (by rw[GU];simp only[C_,List.length_append,List.length_cons,List.length_nil,Iz];omega);have ht:=KX n (by omega);have hl:=oW (trim n) (by omega);refine vc ?_;simp only[dD.j1,List.map_cons,List.map_nil,List.length_cons,List.length_nil,ht,hl,w1,Option.bind_some,List.length_map];clear w1 ht hl;refine vn (by simp) (vp (by omega) (vp (by omega) ?_));rw[Zd,e3];simp only;rw[aaI];rw[List.map_append]at this;exact this
    ·have e4:((((ws.map aT).length:Nat):Int) !=1)=true:=by
      rw[List.length_map];simp only[bne_iff_ne,ne_eq];omega
     rw[e4];refine vq (hbad _ _) ?_
     have e3:Qp c=none:=by
      rw[Qp,e];simp only[e2]
      match ws,h1 with
      |[],_=>rfl
      |[w],h1=>exact absurd rfl h1
      |_:: _:: _,_=>rfl
     rw[Zd,e3];rfl
theorem aiR(o:Option (Str×Str))(ps:Option (List (Str×Str)))(s:Str):pkO o ps=Wj (Lp s o).2.2 (match o with
  |none=>low s
  |some x=>low x.1) (match o with
  |none=>[]
  |some x=>low x.2) [] ps:=by
 cases o with
 |none=>cases ps with
  |none=>rfl
  |some p=>simp[pkO,Wj,fin1,Lp]
 |some x=>cases ps with
  |none=>rfl
  |some p=>simp[pkO,Wj,fin1,Lp]
theorem Tv(s:Str)(hs:s.length≤1048576):Ev (fun k=>dD.f k (aT s)) (Wi (pk s)):=by
 unfold dD.f pk;refine vb (tu s (by omega)) ?_
 cases et:nG s with
 |false=>exact vn (by simp) (vq (vs _) rfl)
 |true=>
  refine vp rfl (vb (NS s hs) ?_);rw[if_pos rfl];have hpl:=aaG 59 s 0;have hpm:=ajP 59 s 0;have hsl:=Kw et
  generalize parts 59 0 s=xs at hpl hpm⊢
  cases xs with
  |nil=>simp at hpl
  |cons h0 r=>
   have hh:=hpm h0 (by simp);have htl:=CX h0;have e0:iw ByteArray.empty (aT h0:: r.map aT) 0=aT h0:=rfl;have et:=KX h0 (by omega);have ec:=GZ 47 (trim h0) (by omega);have hr:r.length≤1000:=by simp only[List.length_cons]at hpl;omega
   simp only[e0,et,ec,List.length_map,List.length_cons,Option.bind_some,List.drop_one,List.map_cons,List.tail_cons,List.headD_cons];rw[aiR _ _ (trim h0)]
   have htv:∀x∈r,nG x=true:=fun x hx=>by
    have:=hpm x (by simp[hx]);exact Ze (by assumption) this.1 this.2
   cases e:wU 47 (trim h0)with
   |none=>
    simp only[Lp];have l1:=oW (trim h0) (by omega);have l2:=oW [] (by simp);have:=EZ false r (low (trim h0)) (low []) hr htv (by rw[Iz];omega) (by simp[low]) r [] [] rfl (by simp) (by simp[C_]);simp only[l1,l2,Option.bind_some];refine vp (by omega) (vp (by omega) ?_)
    simpa [low] using this
   |some x=>
    obtain⟨a,b⟩:=x;have hlen:=Tt e;simp only[Lp];have l1:=oW a (by omega);have l2:=oW b (by omega);have:=EZ true r (low a) (low b) hr htv (by rw[Iz];omega) (by rw[Iz];omega) r [] [] rfl (by simp) (by simp[C_]);simp only[l1,l2,Option.bind_some];refine vp (by omega) (vp (by omega) ?_)
    simpa using this
theorem ar9(c:UInt8):nmB c=true→c≠34∧c≠59∧c≠47∧c≠61∧c≠32∧okB c=true:=by
 revert c
 exact Y8 (by decide+kernel)
theorem aen{l:Str}(h:Kv l=true):∀c∈l,nmB c=true:=by
 unfold Kv at h;simp only[Bool.and_eq_true,List.all_eq_true]at h;exact h.2
theorem agq{l:Str}(h:isSmall l=true):Kv l=true∧low l=l:=by
 unfold isSmall at h
 simpa using h
def aOk(x:Str)(l:List Str):List Str:=x.foldr hd1 l
def Pass(b:UInt8)(x:Str):Prop:=∀t,parts b 0 (x++t)=aOk x (parts b 0 t)
theorem ajR{b:UInt8}(x t:Str)(h:∀c∈x,c≠b):wU b (x++b:: t)=some (x,t):=by
 induction x with
 |nil=>rw[List.nil_append,wU,if_pos rfl]
 |cons c x ih=>rw[List.cons_append,wU,if_neg (h c (by simp)),ih (fun d hd=>h d (by simp[hd]))];rfl
def seg(p:Str×Str):Str:=32:: (p.1++[61]++qw p.2)
theorem aiS:∀(ps q:List (Str×Str)),kfl q ps=true→∀p∈ps,isSmall p.1=true∧nG p.2=true∧p.2.length≤40:=by
 intro ps
 induction ps with
 |nil=>intro q h p hp;cases hp
 |cons c r ih=>
  intro q h p hp;rw[kfl]at h;simp only[Bool.and_eq_true,decide_eq_true_iff]at h;rcases List.mem_cons.mp hp with rfl|hp
  ·exact⟨h.1.1.1,h.1.1.2.1,h.1.1.2.2⟩
  ·exact ih _ h.2 p hp
theorem Tz{a b:Str}{ps:List (Str×Str)}(h:zJ a b ps=true):isSmall a=true∧isSmall b=true∧ps.length≤4∧kfl [] ps=true∧(Tf a b ps).length≤150:=by
 unfold zJ at h;simp only[Bool.and_eq_true,decide_eq_true_iff]at h;obtain⟨⟨⟨⟨h1,h2⟩,h3⟩,h4⟩,h5⟩:=h;exact⟨h1,h2,by omega,h4,h5⟩
theorem apa{s a b:Str}{ps:List (Str×Str)}(h:pk s=some (a,b,ps)):zJ a b ps=true:=by
 unfold pk at h;split at h
 ·unfold pkO at h;split at h
  ·split at h
   ·rename_i hk
    cases h;exact hk
   ·cases h
  ·cases h
 ·cases h
def ZW(L:Nat)(acc:Str):Option (Str×Str)→ByteArray×Int
 |none=>(aT [],-1)
 |some q=>(aT (acc++q.1),((L-q.2.length:Nat):Int))
theorem aaJ{l p r:Str}{c:UInt8}(h:l=p++c:: r):(l.drop p.length).take (p.length+1-p.length)=[c]:=by
 rw[GX h,show p.length+1-p.length=1 by omega];rfl
theorem U2(l:Str)(hl:l.length≤1048576):∀(n:Nat) (r p acc:Str),r.length≤n→l=p++r→acc.length≤p.length→Ev (fun k=>iG.l0 k (aT l) (aT acc) (p.length:Int)) (ZW l.length acc (Tm r)):=by
 intro n
 induction n with
 |zero=>
  intro r p acc h h2 h3;have:r=[]:=List.length_eq_zero_iff.mp (by omega);subst this;rw[List.append_nil]at h2;subst h2;refine vc ?_;simp only[iG.l0,ay];exact vn (by omega) (vq (vs _) rfl)
 |succ n ih=>
  intro r p acc h h2 h3
  cases r with
  |nil=>
   rw[List.append_nil]at h2;subst h2;refine vc ?_;simp only[iG.l0,ay];exact vn (by omega) (vq (vs _) rfl)
  |cons c r=>
   simp only[List.length_cons]at h;have hz:=gZ h2;have e1:=ku h2;have w1:wrap64 ((p.length:Int)+1)=((p.length+1:Nat):Int):=(aQ (by omega) (by omega)).trans (by omega);have Za:(c.toNat:Int)=34↔c=34:=Aa c 34 (by omega);have h92:(c.toNat:Int)=92↔c=92:=Aa c 92 (by omega);have e4:=aaJ h2;refine vc ?_;simp only[iG.l0,e1,w1,ay,Int.toNat_natCast,jL,e4,kV];clear e1 w1 e4;rw[JF];refine vp (by omega) (vp (by omega) ?_);by_cases c1:(c.toNat:Int)=34
   ·refine vp c1 (vq (vs _) ?_);rw[if_pos (Za.mp c1),ZW,show l.length-r.length=p.length+1 by omega];simp
   ·refine vn c1 ?_;rw[if_neg (fun hh=>c1 (Za.mpr hh))];by_cases c2:(c.toNat:Int)=92
    ·refine vp c2 ?_;rw[if_pos (h92.mp c2)]
     cases r with
     |nil=>
      simp only[List.length_nil]at hz;exact vp (by omega) (vq (vs _) rfl)
     |cons d r=>
      simp only[List.length_cons]at h hz;have w2:wrap64 (((p.length+1:Nat):Int)+1)=((p.length+2:Nat):Int):=(aQ (by omega) (by omega)).trans (by omega);have hd:l=(p++[c])++d:: r:=by rw[h2];simp
      have e5:(l.drop (p.length+1)).take (p.length+2-(p.length+1))=[d]:=by
       have:=aaJ hd
       rwa [List.length_append]at this
      have:=ih r (p++[c,d]) (acc++[d]) (by omega) (by rw[h2];simp) (by simp;omega);rw[List.length_append]at this;rw[w2,Int.toNat_natCast,e5];clear w2 e5;refine vn (by omega) (vp (by omega) (vp (by omega) (vp (by omega) (vp (by simp only[List.length_cons,List.length_nil];omega) (vq this ?_)))))
      show _=ZW l.length acc ((Tm r).map fun q=>(d:: q.1,q.2))
      cases Tm r with
      |none=>rfl
      |some q=>simp[ZW]
    ·refine vn c2 ?_;rw[if_neg (fun hh=>c2 (h92.mpr hh))];have:=ih r (p++[c]) (acc++[c]) (by omega) (by rw[h2];simp) (by simp;omega);rw[List.length_append]at this;refine vp (by omega) (vp (by omega) (vp (by simp only[List.length_cons,List.length_nil];omega) (vq this ?_)))
     cases Tm r with
     |none=>rfl
     |some q=>simp[ZW]
theorem NU{l p r:Str}{c:UInt8}(h:l=p++c:: r)(hl:l.length≤1048576):Ev (fun k=>iG.f k (aT l) (p.length:Int)) (ZW l.length [] (Tm r)):=by
 have hz:=gZ h;have:=U2 l hl r.length r (p++[c]) [] (Nat.le_refl _) (by rw[h];simp) (by simp);have w1:wrap64 ((p.length:Int)+1)=((p++[c]).length:Int):=(aQ (by omega) (by omega)).trans (by simp);unfold iG.f;rw[w1];exact this
def aiT(s p:Str):Option (Str×Str)→ByteArray×ByteArray×Bool
 |none=>(aT s,aT [],false)
 |some x=>(aT (p++x.1),aT x.2,true)
theorem Wn(l:Str)(b:UInt8)(hb:b≠34)(hl:l.length≤1048576):∀(n:Nat) (r p:Str),r.length≤n→l=p++r→Ev (fun k=>kF.l0 k (aT l) (b.toNat:Int) (p.length:Int)) (aiT l p (vX b 0 r)):=by
 intro n
 induction n with
 |zero=>
  intro r p h h2;have:r=[]:=List.length_eq_zero_iff.mp (by omega);subst this;rw[List.append_nil]at h2;subst h2;refine vc ?_;simp only[kF.l0,ay];exact vn (by omega) (vq (vs _) rfl)
 |succ n ih=>
  intro r p h h2
  cases r with
  |nil=>
   rw[List.append_nil]at h2;subst h2;refine vc ?_;simp only[kF.l0,ay];exact vn (by omega) (vq (vs _) rfl)
  |cons c r=>
   simp only[List.length_cons]at h;have hz:=gZ h2;have e1:=ku h2;have w1:wrap64 ((p.length:Int)+1)=((p.length+1:Nat):Int):=(aQ (by omega) (by omega)).trans (by omega);have Za:(c.toNat:Int)=34↔c=34:=Aa c 34 (by omega);have hbb:=ao_ c b;have x1:(l.drop 0).take (p.length-0)=p:=by rw[List.drop_zero,Nat.sub_zero,h2,List.take_left]
   have x2:(l.drop (p.length+1)).take (l.length-(p.length+1))=r:=by
    rw[List.take_of_length_le (by simp),h2,←List.drop_drop,List.drop_left];rfl
   refine vc ?_;simp only[kF.l0,e1,w1,ay,Int.toNat_natCast,jL,x1,x2];clear e1 w1 x1 x2;rw[vX];refine vp (by omega) (vp (by omega) ?_);by_cases c1:(c.toNat:Int)=34
   ·have hc:=Za.mp c1;refine vp c1 (vb (NU h2 hl) ?_);rw[if_neg (show¬((0:Nat)=0∧c=b)from fun hh=>hb (hh.2.symm.trans hc)),show nq 0 c=1 by rw[hc];rfl]
    cases e:Tm r with
    |none=>rw[aek b r.length r (Nat.le_refl _) e];exact vp (by simp[ZW]) (vq (vs _) rfl)
    |some q=>
     obtain⟨w,t⟩:=q;obtain⟨m,h3,h4,h5⟩:=OI b r.length r w t (Nat.le_refl _) e;have hm:r.length=m.length+t.length:=by rw[h3,List.length_append]
     have:=ih t (p++c:: m) (by omega) (by rw[h2,h3];simp);have ei:l.length-t.length=(p++c:: m).length:=by simp only[List.length_append,List.length_cons];omega
     simp only[ZW,ei];refine vn (by omega) ?_;rw[h5];refine vq this ?_
     cases vX b 0 t with
     |none=>rfl
     |some x=>simp[aiT]
   ·refine vn c1 ?_;have hc:¬c=34:=fun hh=>c1 (Za.mpr hh)
    by_cases c2:c=b
    ·rw[if_pos (show(0:Nat)=0∧c=b from⟨rfl,c2⟩)];exact vp (hbb.mpr c2) (vp (by omega) (vp (by omega) (vp (by omega) (vq (vs _) (by simp[aiT])))))
    ·rw[if_neg (show¬((0:Nat)=0∧c=b)from fun hh=>c2 hh.2),show nq 0 c=0 by simp[nq,hc]];have:=ih r (p++[c]) (by omega) (by rw[h2];simp);rw[List.length_append]at this;refine vn (fun hh=>c2 (hbb.mp hh)) (vq this ?_)
     cases vX b 0 r with
     |none=>rfl
     |some x=>simp[aiT]
theorem DZ(l:Str)(b:UInt8)(hb:b≠34)(hl:l.length≤1048576):Ev (fun k=>kF.f k (aT l) (b.toNat:Int)) (Lp l (vX b 0 l)):=by
 refine vq (Wn l b hb hl l.length l [] (Nat.le_refl _) rfl) ?_;cases vX b 0 l<;>rfl
def aaK(l:Str):Str:=(l.reverse.dropWhile (·==32)).reverse
theorem agr(l:Str)(c:UInt8):aaK (l++[c])=if c=32 then aaK l else l++[c]:=by
 unfold aaK;rw[List.reverse_append,List.reverse_singleton,List.singleton_append,List.dropWhile];by_cases h:c=32
 ·simp[h]
 ·rw[show(c==32)=false by simp[h]];simp[h]
theorem IG:∀(n:Nat) (s:Str),s.length≤n→s.length≤1048576→Ev (fun k=>bG.l1 k (aT s)) (aT (aaK s)):=by
 intro n
 induction n with
 |zero=>
  intro s h _;have:s=[]:=List.length_eq_zero_iff.mp (by omega);subst this;refine vc ?_;simp only[bG.l1,ay];exact vn (by simp) (vq (vs _) rfl)
 |succ n ih=>
  intro s h hl;rcases List.eq_nil_or_concat s with rfl|⟨p,c,rfl⟩
  ·refine vc ?_;simp only[bG.l1,ay];exact vn (by simp) (vq (vs _) rfl)
  ·rw[List.concat_eq_append]at*;simp only[List.length_append,List.length_cons,List.length_nil]at h hl;have hz:(p++[c]).length=p.length+1:=by simp
   have e1:=ku (l:=p++[c]) (p:=p) (c:=c) (r:=[]) rfl;have w1:wrap64 (((p++[c]).length:Int)-1)=((p.length:Nat):Int):=(aQ (by omega) (by omega)).trans (by omega);have h32:(c.toNat:Int)=32↔c=32:=Aa c 32 (by omega);have x1:((p++[c]).drop 0).take (p.length-0)=p:=by rw[List.drop_zero,Nat.sub_zero,List.take_left]
   refine vc ?_;simp only[bG.l1,ay,w1,e1,Int.toNat_natCast,jL,x1];clear e1 w1 x1;rw[agr];refine vp (by omega) (vp (by omega) (vp (by omega) ?_));by_cases c1:(c.toNat:Int)=32
   ·rw[if_pos (h32.mp c1)];exact vp c1 (vp (by omega) (ih p (by omega) (by omega)))
   ·rw[if_neg (fun hh=>c1 (h32.mpr hh))];exact vn c1 (vs _)
theorem acz(c:UInt8)(r:Str)(h:c≠32):trim (c:: r)=aaK (c:: r):=by
 unfold trim Lib.trimB Lib.trimLeftB Lib.trimRightB aaK;obtain⟨m,h1,h2⟩:=Jc (·==32) (c:: r).reverse;have h3:=congrArg List.reverse h1;rw[List.reverse_reverse,List.reverse_append]at h3
 cases e:((c:: r).reverse.dropWhile (·==32)).reverse with
 |nil=>
  rw[e,List.nil_append]at h3
  have:c∈m:=by
   have:c∈m.reverse:=by rw[←h3];simp
   exact List.mem_reverse.mp this
  exact absurd (by simpa using h2 c this) h
 |cons d u=>
  rw[e]at h3;injection h3 with h4 h5;subst h4;rw[List.dropWhile,show(c==32)=false by simp[h]]
theorem qR(s:Str)(hl:s.length≤1048576):Ev (fun k=>bG.f k (aT s)) (aT (trim s)):=by
 unfold bG.f
 induction s with
 |nil=>
  refine vc ?_;simp only[bG.l0,ay];refine vn (by simp) (vc ?_);simp only[bG.j1];exact IG 0 [] (by simp) (by simp)
 |cons c r ih=>
  simp only[List.length_cons]at hl;have hz:(c:: r).length=r.length+1:=rfl;have h32:(c.toNat:Int)=32↔c=32:=Aa c 32 (by omega);have x1:((c:: r).drop 1).take ((c:: r).length-1)=r:=by rw[List.drop_one,List.tail_cons,hz,List.take_of_length_le (by omega)]
  refine vc ?_;simp only[bG.l0,ay,aiM,jL,x1];clear x1;refine vp (by omega) (vp (by omega) ?_);by_cases c1:(c.toNat:Int)=32
  ·rw[h32.mp c1,U0];exact vp (by decide) (vp (by simp;omega) (ih (by omega)))
  ·rw[acz c r (fun hh=>c1 (h32.mpr hh))];refine vn c1 (vc ?_);simp only[bG.j1];exact IG (r.length+1) (c:: r) (by simp) (by simp;omega)
theorem U3(n:Nat)(s:Str)(h:s.length<n):Tn n false s=if s=[]∨s.head? =some 32 then Tn n true s else none:=by
 obtain⟨n,rfl⟩:∃m,n=m+1:=⟨n-1,by omega⟩
 cases s with
 |nil=>rw[if_pos (Or.inl rfl)];rfl
 |cons c r=>
  by_cases c1:c=32
  ·rw[if_pos (Or.inr (by rw[c1];rfl)),Tn,Tn,if_pos c1,if_pos c1]
  ·rw[if_neg (by simp[c1]),Tn,if_neg c1,if_pos rfl]
theorem U4(l:Str)(acc:List Str)(hl:l.length≤1048576)(ha:acc.length≤1048576)(p:Str)(v:List ByteArray×Bool):∀(r a:Str),l=p++(a++r)→a.all z_=true→
  (a++r.takeWhile z_=[]→v=([],false))→
  (a++r.takeWhile z_≠[]→¬(r.dropWhile z_=[]∨(r.dropWhile z_).head? =some 32)→v=([],false))→
  (a++r.takeWhile z_≠[]→(r.dropWhile z_=[]∨(r.dropWhile z_).head? =some 32)→Ev (fun k=>f_.l0 k (aT l) ((acc++[a++r.takeWhile z_]).map aT) (((p++(a++r.takeWhile z_)).length:Nat):Int)) v)→
  Ev (fun k=>f_.l1 k (aT l) (acc.map aT) (((p++a).length:Nat):Int) (p.length:Int)) v:=by
 intro r
 induction r with
 |nil=>
  intro a h h2 h3 h4 h5;have hz:l.length=p.length+a.length:=by rw[h];simp
  have hpa:(p++a).length=p.length+a.length:=by simp
  simp only[List.takeWhile_nil,List.append_nil,List.dropWhile_nil]at h3 h4 h5;refine vc ?_;simp only[f_.l1,ay,List.length_map];refine vn (by omega) (vp (by omega) (vp (by omega) (vp (by omega) ?_)));by_cases e:a=[]
  ·rw[h3 e];subst e;exact vp (by simp) (vs _)
  ·have hne:0<a.length:=List.length_pos_iff.mpr e
   have ex:(aT l).extract (p.length:Int).toNat (((p++a).length:Nat):Int).toNat=aT a:=by
    rw[Int.toNat_natCast,Int.toNat_natCast,jL,GX h,hpa,List.append_nil];rw[List.take_of_length_le (by omega)]
   rw[ex];have:=h5 e (by simp);rw[List.map_append,List.map_singleton]at this;exact vn (by omega) (vp (by omega) this)
 |cons c r ih=>
  intro a h h2 h3 h4 h5;have hz:l.length=p.length+(a.length+(r.length+1)):=by rw[h];simp
  have hpa:(p++a).length=p.length+a.length:=by simp
  have e1:bt (aT l) (((p++a).length:Nat):Int)=(c.toNat:Int):=ku (l:=l) (p:=p++a) (c:=c) (r:=r) (by rw[h];simp);have w1:wrap64 ((((p++a).length:Nat):Int)+1)=((p++(a++[c])).length:Int):=(aQ (by omega) (by omega)).trans (by simp only[List.length_append,List.length_cons,List.length_nil];omega);have h32:(c.toNat:Int)=32↔c=32:=Aa c 32 (by omega);refine vc ?_;simp only[f_.l1,ay,List.length_map,e1,w1];clear e1 w1;refine vp (by omega) (vp (by omega) (vb (GL c) ?_))
  cases e:z_ c with
  |true=>
   refine vp rfl ?_;have ec:a++(c:: r).takeWhile z_=a++[c]++r.takeWhile z_:=by simp[List.takeWhile,e]
   have ed:(c:: r).dropWhile z_=r.dropWhile z_:=by simp[List.dropWhile,e]
   rw[ec]at h3;rw[ec,ed]at h4;rw[ec,ed]at h5;exact ih (a++[c]) (by rw[h];simp) (by simp[h2,e]) h3 h4 h5
  |false=>
   have et:(c:: r).takeWhile z_=[]:=by simp[List.takeWhile,e]
   have ed:(c:: r).dropWhile z_=c:: r:=by simp[List.dropWhile,e]
   rw[et,List.append_nil]at h3;rw[et,ed,List.append_nil]at h4;rw[et,ed,List.append_nil]at h5;refine vn (by simp) (vp (by omega) (vp (by omega) (vp (by omega) ?_)));by_cases e:a=[]
   ·rw[h3 e];subst e;exact vp (by simp) (vs _)
   ·have hne:0<a.length:=List.length_pos_iff.mpr e
    have ex:(aT l).extract (p.length:Int).toNat (((p++a).length:Nat):Int).toNat=aT a:=by
     rw[Int.toNat_natCast,Int.toNat_natCast,jL,GX h,hpa,show p.length+a.length-p.length=a.length by omega,List.take_left]
    rw[ex];refine vn (by omega) ?_;by_cases c1:(c.toNat:Int)=32
    ·have:=h5 e (Or.inr (by rw[h32.mp c1];rfl));rw[List.map_append,List.map_singleton]at this;exact vp c1 (vp (by omega) this)
    ·rw[h4 e (by simp only[List.head?_cons,Option.some.injEq,reduceCtorEq,false_or];exact fun hh=>c1 (h32.mpr hh))];exact vn c1 (vs _)
theorem TA(l:Str)(hl:l.length≤1048576):∀(n:Nat) (r p:Str) (acc:List Str),r.length<n→l=p++r→acc.length≤p.length→Ev (fun k=>f_.l0 k (aT l) (acc.map aT) (p.length:Int)) (O1 acc (Tn n true r)):=by
 intro n
 induction n with
 |zero=>intro r p acc h;omega
 |succ n ih=>
  intro r p acc h h2 h3;refine vc ?_
  cases r with
  |nil=>
   rw[List.append_nil]at h2;subst h2;simp only[f_.l0,ay];exact vn (by omega) (vq (vs _) (by simp[Tn,O1]))
  |cons c r=>
   simp only[List.length_cons]at h;have hz:=gZ h2;have e1:=ku h2;have w1:wrap64 ((p.length:Int)+1)=(((p++[c]).length:Nat):Int):=(aQ (by omega) (by omega)).trans (by simp);have h32:(c.toNat:Int)=32↔c=32:=Aa c 32 (by omega);have Za:(c.toNat:Int)=34↔c=34:=Aa c 34 (by omega);simp only[f_.l0,e1,w1,ay,List.length_map];clear e1 w1;rw[Tn];refine vp (by omega) (vp (by omega) ?_);by_cases c1:(c.toNat:Int)=32
   ·rw[if_pos (h32.mp c1)];exact vp c1 (ih r (p++[c]) acc (by omega) (by rw[h2];simp) (by simp;omega))
   ·rw[if_neg (fun hh=>c1 (h32.mpr hh)),if_neg (by simp)];refine vn c1 ?_;by_cases c2:(c.toNat:Int)=34
    ·rw[if_pos (Za.mp c2)];refine vp c2 (vb (NU h2 hl) ?_)
     cases e:Tm r with
     |none=>exact vp (by simp[ZW]) (vq (vs _) rfl)
     |some q=>
      obtain⟨w,t⟩:=q;obtain⟨m,h4,h5,_⟩:=OI 0 r.length r w t (Nat.le_refl _) e;have hm:r.length=m.length+t.length:=by rw[h4,List.length_append]
      have hpm:(p++c:: m).length=p.length+m.length+1:=by simp only[List.length_append,List.length_cons];omega
      have ei:l.length-t.length=(p++c:: m).length:=by omega
      have:=ih t (p++c:: m) (acc++[w]) (by omega) (by rw[h2,h4];simp) (by simp;omega);rw[List.map_append,List.map_singleton]at this;simp only[ZW,ei,List.nil_append];rw[U3 n t (by omega)];refine vn (by omega) (vn (by omega) ?_)
      cases t with
      |nil=>
       rw[if_pos (Or.inl rfl)];simp only[List.length_nil]at hm ei;refine vn (by omega) (vp (by omega) (vq this ?_))
       cases Tn n true []with
       |none=>rfl
       |some ws=>simp[O1]
      |cons d t=>
       have e2:bt (aT l) ((p++c:: m).length:Int)=(d.toNat:Int):=ku (l:=l) (p:=p++c:: m) (c:=d) (r:=t) (by rw[h2,h4];simp);have h32:(d.toNat:Int)=32↔d=32:=Aa d 32 (by omega);simp only[List.length_cons]at hm;rw[e2];clear e2;refine vp (by omega) (vp (by omega) ?_);by_cases c3:(d.toNat:Int)=32
       ·rw[if_pos (Or.inr (by rw[h32.mp c3];rfl))];refine vp c3 (vp (by omega) (vq this ?_))
        cases Tn n true (d:: t)with
        |none=>rfl
        |some ws=>simp[O1]
       ·rw[if_neg (by simp only[List.head?_cons,Option.some.injEq,reduceCtorEq,false_or];exact fun hh=>c3 (h32.mpr hh))];exact vn c3 (vq (vs _) rfl)
    ·rw[if_neg (fun hh=>c2 (Za.mpr hh))];refine vn c2 ?_;have hsw:=IE z_ (c:: r);have hlen:=congrArg List.length hsw;rw[List.length_append,List.length_cons]at hlen;have key:=U4 l acc hl (by omega) p (O1 acc (if(c:: r).takeWhile z_=[]then none else(Tn n false ((c:: r).dropWhile z_)).map ((c:: r).takeWhile z_:: ·))) (c:: r) [] h2 rfl (fun hh=>by rw[List.nil_append]at hh;rw[if_pos hh];rfl);refine(key (fun hh hn=>?_) (fun hh hn=>?_)) |>fun hq=>by simpa using hq
     ·rw[List.nil_append]at hh;have hne:0<((c:: r).takeWhile z_).length:=List.length_pos_iff.mpr hh;rw[if_neg hh,U3 _ _ (by omega),if_neg hn];rfl
     ·rw[List.nil_append]at hh⊢;have hne:0<((c:: r).takeWhile z_).length:=List.length_pos_iff.mpr hh;rw[if_neg hh,U3 _ _ (by omega),if_pos hn];have:=ih ((c:: r).dropWhile z_) (p++(c:: r).takeWhile z_) (acc++[(c:: r).takeWhile z_]) (by omega) (by rw[List.append_assoc,hsw];exact h2) (by simp only[List.length_append,List.length_cons,List.length_nil];omega);refine vq this ?_
      cases Tn n true ((c:: r).dropWhile z_)with
      |none=>rfl
      |some ws=>simp[O1]
theorem KY(l:Str)(hl:l.length≤1048576):Ev (fun k=>f_.f k (aT l)) (O1 [] (words l)):=by
 unfold f_.f;exact TA l hl (l.length+1) l [] [] (by omega) rfl (by simp)
theorem azI(s:Str):∀n:Nat,s.length≤n→Tm (s++[32])=(Tm s).map fun q=>(q.1,q.2++[32]):=by
 intro n
 induction n generalizing s with
 |zero=>
  intro h;have:s=[]:=List.length_eq_zero_iff.mp (by omega);subst this;rfl
 |succ n ih=>
  intro h
  cases s with
  |nil=>rfl
  |cons c r=>
   simp only[List.length_cons]at h;rw[List.cons_append,JF,JF];by_cases c1:c=34
   ·rw[if_pos c1,if_pos c1];rfl
   ·rw[if_neg c1,if_neg c1];by_cases c2:c=92
    ·rw[if_pos c2,if_pos c2]
     cases r with
     |nil=>rfl
     |cons d r=>
      simp only[List.length_cons]at h;simp only[List.cons_append];rw[ih r (by omega)];cases Tm r<;>rfl
    ·rw[if_neg c2,if_neg c2,ih r (by omega)];cases Tm r<;>rfl
theorem apb(l:Str):(l++[32]).takeWhile z_=l.takeWhile z_∧(l++[32]).dropWhile z_=l.dropWhile z_++[32]:=by
 induction l with
 |nil=>exact⟨rfl,rfl⟩
 |cons c r ih=>
  rw[List.cons_append]
  cases e:z_ c with
  |true=>simp only[List.takeWhile,List.dropWhile,e];exact⟨congrArg _ ih.1,ih.2⟩
  |false=>simp[List.takeWhile,List.dropWhile,e]
theorem azJ:∀(n:Nat) (a:Bool) (s:Str),s.length<n→Tn (n+1) a (s++[32])=Tn n a s:=by
 intro n
 induction n with
 |zero=>intro a s h;omega
 |succ n ih=>
  intro a s h
  cases s with
  |nil=>rfl
  |cons c r=>
   simp only[List.length_cons]at h;rw[List.cons_append,Tn,Tn,ih true r (by omega)];by_cases c1:c=32
   ·rw[if_pos c1,if_pos c1]
   ·rw[if_neg c1,if_neg c1];by_cases c2:a=false
    ·rw[if_pos c2,if_pos c2]
    ·rw[if_neg c2,if_neg c2];by_cases c3:c=34
     ·rw[if_pos c3,if_pos c3,azI r r.length (Nat.le_refl _)]
      cases e:Tm r with
      |none=>rfl
      |some q=>
       obtain⟨w,t⟩:=q;obtain⟨m,h4,h5,_⟩:=OI 0 r.length r w t (Nat.le_refl _) e;have hm:r.length=m.length+t.length:=by rw[h4,List.length_append]
       simp only[Option.map_some];rw[ih false t (by omega)]
     ·rw[if_neg c3,if_neg c3];have hw:=apb (c:: r);rw[List.cons_append]at hw;rw[hw.1,hw.2];by_cases c4:(c:: r).takeWhile z_=[]
      ·rw[if_pos c4,if_pos c4]
      ·have hne:0<((c:: r).takeWhile z_).length:=List.length_pos_iff.mpr c4;have hlen:=congrArg List.length (IE z_ (c:: r));rw[List.length_append,List.length_cons]at hlen;rw[if_neg c4,if_neg c4,ih false _ (by omega)]
theorem Zf(s:Str):words (s++[32])=words s:=by
 unfold words;rw[List.length_append];exact azJ (s.length+1) true s (by omega)
theorem ZX(s:Str):words (32:: s)=words s:=by
 unfold words;rw[Tn,if_pos rfl];rfl
theorem aeo{α:Type}(f:Str→α)(h1:∀s,f (32:: s)=f s)(h2:∀s,f (s++[32])=f s)(s:Str):f (trim s)=f s:=by
 have r1:∀(i:Nat) (t:Str),f (List.replicate i 32++t)=f t:=by
  intro i
  induction i with
  |zero=>intro t;rfl
  |succ i ih=>intro t;rw[List.replicate_succ,List.cons_append,h1,ih]
 have r2:∀(j:Nat) (t:Str),f (t++List.replicate j 32)=f t:=by
  intro j
  induction j with
  |zero=>intro t;rw[List.replicate_zero,List.append_nil]
  |succ j ih=>intro t;rw[List.replicate_succ',←List.append_assoc,h2,ih]
 obtain⟨i,j,e⟩:=Kz s;have:f s=f (List.replicate i 32++trim s++List.replicate j 32):=congrArg f e;rw[this,r2,r1]
theorem ags(s:Str):words (trim s)=words s:=aeo words ZX Zf s
theorem ajS(b:UInt8)(hb:b≠32)(s:Str):wU b (s++[32])=(wU b s).map fun x=>(x.1,x.2++[32]):=by
 induction s with
 |nil=>
  have h:¬(32:UInt8)=b:=fun h=>hb h.symm
  simp[wU,h]
 |cons c r ih=>
  rw[List.cons_append,wU,wU];by_cases h:c=b
  ·rw[if_pos h,if_pos h];rfl
  ·rw[if_neg h,if_neg h,ih];cases wU b r<;>rfl
theorem ajT(s:Str):Qp (trim s)=Qp s:=by
 refine aeo Qp (fun s=>?_) (fun s=>?_) s
 ·unfold Qp;rw[wU,if_neg (by decide)]
  cases wU 61 s with
  |none=>rfl
  |some x=>simp only[Option.map_some,U0]
 ·unfold Qp;rw[ajS 61 (by decide)]
  cases wU 61 s with
  |none=>rfl
  |some x=>simp only[Option.map_some,Zf]
theorem apc(b:UInt8)(s:Str):vX b 0 s=wU b s∨((∀x,vX b 0 s=some x→34∈x.1)∧(∀x,wU b s=some x→34∈x.1)):=by
 induction s with
 |nil=>exact Or.inl rfl
 |cons c r ih=>
  rw[vX,wU];by_cases h:c=b
  ·rw[if_pos ⟨rfl,h⟩,if_pos h];exact Or.inl rfl
  ·rw[if_neg (fun hh=>h hh.2),if_neg h];by_cases c1:c=34
   ·right
    rw[c1];refine⟨fun x hx=>?_,fun x hx=>?_⟩<;>
    ·simp only[Option.map_eq_some_iff]at hx;obtain⟨y,_,rfl⟩:=hx;simp
   ·rw[show nq 0 c=0 by simp[nq,c1]];rcases ih with h2|⟨h2,h3⟩
    ·left;rw[h2]
    ·right
     refine⟨fun x hx=>?_,fun x hx=>?_⟩
     ·simp only[Option.map_eq_some_iff]at hx;obtain⟨y,hy,rfl⟩:=hx;simp[h2 y hy]
     ·simp only[Option.map_eq_some_iff]at hx;obtain⟨y,hy,rfl⟩:=hx;simp[h3 y hy]
def ZY(s:Str):Option (Str×Str):=match vX 61 0 (trim s)with
 |none=>none
 |some x=>match words x.2 with
  |some [w]=>some (low (trim x.1),w)
  |_=>none
def Bad(o:Option (Str×Str)):Prop:=∀x,o=some x→34∈x.1
theorem acA{l:Str}(h:(34:UInt8)∈l):(34:UInt8)∈low l:=List.mem_map.mpr ⟨34,h,by decide⟩
theorem azK(s:Str):ZY s=Qp s∨(Bad (ZY s)∧Bad (Qp s)):=by
 rw[←ajT s];unfold ZY Qp;rcases apc 61 (trim s)with h|⟨h1,h2⟩
 ·left;rw[h]
 ·right
  refine⟨fun x hx=>?_,fun x hx=>?_⟩
  ·cases e:vX 61 0 (trim s)with
   |none=>rw[e]at hx;cases hx
   |some y=>
    have h3:=h1 y e;rw[e]at hx;simp only at hx;split at hx
    ·cases hx;exact acA (ael _ _ h3 (by decide))
    ·cases hx
  ·cases e:wU 61 (trim s)with
   |none=>rw[e]at hx;cases hx
   |some y=>
    have h3:=h2 y e;rw[e]at hx;simp only at hx;split at hx
    ·cases hx;exact acA (ael _ _ h3 (by decide))
    ·cases hx
def II:List Str→Option (List (Str×Str))
 |[]=>some []
 |s:: r=>match ZY s with
  |none=>none
  |some x=>(II r).map (x:: ·)
def ajU(o:Option (List (Str×Str))):Prop:=∀l,o=some l→∃x∈l,(34:UInt8)∈x.1
theorem ar_(r:List Str):II r=Zd r∨(ajU (II r)∧ajU (Zd r)):=by
 induction r with
 |nil=>exact Or.inl rfl
 |cons s r ih=>
  rw[II,Zd]
  have aiU:∀(o:Option (Str×Str)) (p:Option (List (Str×Str))),Bad o→ajU (match o with
    |none=>none
    |some x=>p.map (x:: ·)):=by
   intro o p h l hl
   cases o with
   |none=>cases hl
   |some x=>
    simp only[Option.map_eq_some_iff]at hl;obtain⟨y,_,rfl⟩:=hl;exact⟨x,by simp,h x rfl⟩
  have aiV:∀(o:Option (Str×Str)) (p:Option (List (Str×Str))),ajU p→ajU (match o with
    |none=>none
    |some x=>p.map (x:: ·)):=by
   intro o p h l hl
   cases o with
   |none=>cases hl
   |some x=>
    simp only[Option.map_eq_some_iff]at hl;obtain⟨y,hy,rfl⟩:=hl;obtain⟨z,hz,h3⟩:=h y hy;exact⟨z,by simp[hz],h3⟩
  rcases azK s with h|⟨h1,h2⟩
  ·rcases ih with h2|⟨h2,h3⟩
   ·left;rw[h,h2]
   ·right;exact⟨aiV _ _ h2,aiV _ _ h3⟩
  ·right;exact⟨aiU _ _ h1,aiU _ _ h2⟩
theorem Zg{l:Str}(h:(34:UInt8)∈l):isSmall l=false:=by
 cases e:isSmall l with
 |false=>rfl
 |true=>exact absurd rfl (ar9 34 (aen (agq e).1 34 h)).1
theorem Zh(a b:Str)(ps:List (Str×Str))(h:(34:UInt8)∈a∨∃x∈ps,(34:UInt8)∈x.1):zJ a b ps=false:=by
 cases e:zJ a b ps with
 |false=>rfl
 |true=>
  obtain⟨h1,_,_,h4,_⟩:=Tz e;rcases h with h|⟨x,hx,h⟩
  ·rw[Zg h]at h1;cases h1
  ·have:=(aiS ps [] h4 x hx).1;rw[Zg h]at this;cases this
def pkS(s:Str):Option (Str×Str×List (Str×Str)):=if nG s=true then pkO (vX 47 0 (trim ((parts 59 0 s).headD []))) (II ((parts 59 0 s).drop 1))else none
theorem aep(o:Option (Str×Str))(p:Option (List (Str×Str)))(h:Bad o):pkO o p=none:=by
 unfold pkO;split
 ·rename_i x ps
  rw[Zh _ _ _ (Or.inl (acA (h x rfl)))];rfl
 ·rfl
theorem aer(o:Option (Str×Str))(p:Option (List (Str×Str)))(h:ajU p):pkO o p=none:=by
 unfold pkO;split
 ·rename_i x ps
  rw[Zh _ _ _ (Or.inr (h ps rfl))];rfl
 ·rfl
theorem azL(s:Str):pkS s=pk s:=by
 unfold pkS pk;split
 ·rcases apc 47 (trim ((parts 59 0 s).headD []))with h|⟨h1,h2⟩
  ·rw[h];rcases ar_ ((parts 59 0 s).drop 1)with h3|⟨h3,h4⟩
   ·rw[h3]
   ·rw[aer _ _ h3,aer _ _ h4]
  ·rw[aep _ _ h1,aep _ _ h2]
 ·rfl
theorem G6(ok:Bool)(m u:Str)(ps:List (Str×Str))(hm:m.length≤1048576)(hu:u.length≤1048576)(hz:C_ ps≤1048576)(hn:ps.length≤1048576):
  Ev (fun k=>if ok=true then((dN.f k (aT m) (aT u) (ps.map vW)).bind fun t=>(if t=true then(some (aT m,aT u,ps.map vW,true))else(some ((⟨#[]⟩:ByteArray),(⟨#[]⟩:ByteArray),([]:List eG),false))))else(some ((⟨#[]⟩:ByteArray),(⟨#[]⟩:ByteArray),([]:List eG),false))) (Wi (fin1 ok m u ps)):=by
 cases ok with
 |false=>exact vn (by simp) (vq (vs _) (by unfold fin1;rw[if_neg (by simp)];rfl))
 |true=>
  refine vp rfl (vb (IC m u ps hm hu hz hn) ?_)
  cases e:zJ m u ps with
  |true=>exact vp rfl (vq (vs _) (by unfold fin1;rw[if_pos ⟨rfl,e⟩];rfl))
  |false=>exact vn (by simp) (vq (vs _) (by unfold fin1;rw[if_neg (by simp[e])];rfl))
theorem TB{b:UInt8}{q:Nat}{s x t:Str}(h:vX b q s=some (x,t)):s.length=x.length+t.length+1:=by
 rw[aiQ b s q x t h];simp;omega
def rest(more:Bool)(s:Str):List Str:=if more=true then parts 59 0 s else[]
theorem E_(ok:Bool)(m u:Str)(hm:m.length≤1048576)(hu:u.length≤1048576):∀(n:Nat) (s:Str) (more:Bool) (q:List (Str×Str)),s.length+(if more=true then 1 else 0)≤n→s.length+q.length+(if more=true then 1 else 0)≤500→C_ q≤1000*q.length→
  Ev (fun k=>bD.l0 k (aT s) more ok (aT m) (aT u) (q.map vW)) (Wi (Wj ok m u q (II (rest more s)))):=by
 intro n
 induction n with
 |zero=>
  intro s more q h h2 h3
  cases more with
  |true=>simp at h
  |false=>
   refine vc ?_;simp only[bD.l0];refine vn (by simp) ?_;have:=G6 ok m u q hm hu (by omega) (by omega)
   simpa [rest,II,Wj] using this
 |succ n ih=>
  intro s more q h h2 h3
  cases more with
  |false=>
   refine vc ?_;simp only[bD.l0];refine vn (by simp) ?_;have:=G6 ok m u q hm hu (by omega) (by omega)
   simpa [rest,II,Wj] using this
  |true=>
   simp only[if_true]at h h2
   have hbad:∀(x5:ByteArray) (x6:Bool) (x12:ByteArray) (x15:List ByteArray),Ev (fun k=>bD.j1 k x5 x6 ok x12 x15 true (aT m) (aT u) (q.map vW)) (Wi none):=by
    intro x5 x6 x12 x15;refine vc ?_;simp only[bD.j1];exact vp trivial (vs _)
   /-one part -/
   have one:∀(c t:Str) (more:Bool),c.length≤500→t.length+(if more=true then 1 else 0)≤n→t.length+(q.length+1)+(if more=true then 1 else 0)≤500→
     Ev (fun k=>(bG.f k (aT c)).bind fun aOl=>((kF.f k aOl 61).bind fun aes=>((bG.f k aes.2.1).bind fun aHR=>((f_.f k aHR).bind fun SS=>(if aes.2.2=true then(if SS.2=true then(bD.j1 k (aT t) more ok aes.1 SS.1 ((SS.1.length:Int) !=1) (aT m) (aT u) (q.map vW))else(bD.j1 k (aT t) more ok aes.1 SS.1 true (aT m) (aT u) (q.map vW)))else(bD.j1 k (aT t) more ok aes.1 SS.1 true (aT m) (aT u) (q.map vW))))))) (Wi (Wj ok m u q (II (c:: rest more t)))):=by
    intro c t more hc ht hq;have htl:=CX c;refine vb (qR c (by omega)) (vb (DZ (trim c) 61 (by decide) (by omega)) ?_)
    cases e:vX 61 0 (trim c)with
    |none=>
     simp only[Lp];refine vb (qR [] (by simp)) (vb (KY _ (by decide)) (vn (by simp) (vq (hbad _ _ _ _) ?_)));rw[II,ZY,e];rfl
    |some x=>
     obtain⟨a,v⟩:=x;have hlen:=TB e;have hvl:=CX v;have hal:=CX a;simp only[Lp];refine vb (qR v (by omega)) (vb (KY _ (by omega)) (vp trivial ?_));rw[ags]
     cases e2:words v with
     |none=>
      refine vn (by simp[O1]) (vq (hbad _ _ _ _) ?_);rw[II,ZY,e];simp only[e2];rfl
     |some ws=>
      simp only[O1,List.nil_append];refine vp trivial ?_;by_cases h1:ws.length=1
      ·obtain⟨w,rfl⟩:=List.length_eq_one_iff.mp h1;have hwl:=aaH e2 w (by simp);have e3:ZY c=some (low (trim a),w):=by rw[ZY,e];simp only[e2]
       have:=ih t more (q++[(low (trim a),w)]) ht (by simp only[List.length_append,List.length_cons,List.length_nil];omega) (by rw[GU];simp only[C_,List.length_append,List.length_cons,List.length_nil,Iz];omega);have hl:=oZ (trim a) (by omega);refine vc ?_;simp only[bD.j1,List.map_cons,List.map_nil,List.length_cons,List.length_nil,List.length_map];refine vn (by simp) (vb (qR a (by omega)) ?_);simp only[hl,Option.bind_some];refine vp (by omega) (vp (by omega) ?_);rw[II,e3];simp only;rw[aaI];rw[List.map_append]at this;exact this
      ·have e4:((((ws.map aT).length:Nat):Int) !=1)=true:=by
        rw[List.length_map];simp only[bne_iff_ne,ne_eq];omega
       rw[e4];refine vq (hbad _ _ _ _) ?_
       have e3:ZY c=none:=by
        rw[ZY,e];simp only[e2]
        match ws,h1 with
        |[],_=>rfl
        |[w],h1=>exact absurd rfl h1
        |_:: _:: _,_=>rfl
       rw[II,e3];rfl
   refine vc ?_;simp only[bD.l0];refine vp trivial (vb (DZ s 59 (by decide) (by omega)) ?_);rw[rest,if_pos rfl,UZ]
   cases e:vX 59 0 s with
   |none=>
    simp only[Lp];have:=one s [] false (by omega) (by simp) (by simp;omega)
    simpa [rest] using this
   |some x=>
    obtain⟨c,t⟩:=x;have hlen:=TB e;simp only[Lp];have:=one c t true (by omega) (by simp;omega) (by simp only[if_true];omega);rw[rest,if_pos rfl]at this;exact this
theorem TD(s:Str)(hs:s.length≤1048576):Ev (fun k=>bD.f k (aT s)) (Wi (pk s)):=by
 rw[←azL];unfold bD.f pkS;refine vb (nH s (by omega)) ?_
 cases et:nG s with
 |false=>exact vn (by simp) (vq (vs _) rfl)
 |true=>
  have hsl:=Kw et;refine vp rfl ?_;rw[if_pos rfl]
  /-the head,and what is behind it -/
  have key:∀(h0 t:Str) (more:Bool),h0.length≤200→t.length≤200→Ev (fun k=>(bG.f k (aT h0)).bind fun aOm=>((kF.f k aOm 47).bind fun aaw=>((jg.f aaw.1).bind fun aOn=>((jg.f aaw.2.1).bind fun aOo=>(bD.l0 k (aT t) more aaw.2.2 aOn aOo ([]:List eG)))))) (Wi (pkO (vX 47 0 (trim h0)) (II (rest more t)))):=by
   intro h0 t more hh ht;have htl:=CX h0;refine vb (qR h0 (by omega)) (vb (DZ (trim h0) 47 (by decide) (by omega)) ?_);rw[aiR _ _ (trim h0)]
   cases e:vX 47 0 (trim h0)with
   |none=>
    have l1:=oZ (trim h0) (by omega);have l2:=oZ [] (by simp);have:=E_ false (low (trim h0)) (low []) (by rw[Iz];omega) (by simp[low]) (t.length+1) t more [] (by split<;>omega) (by simp only[List.length_nil];split<;>omega) (by simp[C_]);simp only[Lp,l1,l2,Option.bind_some]
    simpa [low] using this
   |some x=>
    obtain⟨a,b⟩:=x;have hlen:=TB e;have l1:=oZ a (by omega);have l2:=oZ b (by omega);have:=E_ true (low a) (low b) (by rw[Iz];omega) (by rw[Iz];omega) (t.length+1) t more [] (by split<;>omega) (by simp only[List.length_nil];split<;>omega) (by simp[C_]);simp only[Lp,l1,l2,Option.bind_some]
    simpa using this
  refine vb (DZ s 59 (by decide) (by omega)) ?_;rw[UZ]
  cases e:vX 59 0 s with
  |none=>
   simp only[Lp];have:=key s [] false (by omega) (by simp)
   simpa [rest] using this
  |some x=>
   obtain⟨c,t⟩:=x;have hlen:=TB e;simp only[Lp];have:=key c t true (by omega) (by omega);rw[rest,if_pos rfl]at this
   simpa using this
theorem Wp(ls:List Str)(x:Str)(hn:ls.length≤1000000000000000):∃i:Int,Ev (fun k=>bg.f k (ls.map aT) (aT x)) i∧(i= -1∨0≤i)∧(0≤i↔x∈ls):=by
 unfold bg.f;rw[List.length_map];refine⟨_,oD (xs:=ls) (F:=fun k (_:Nat) i=>bg.l0 k (ls.map aT) (aT x) (ls.length:Int) i) (st:=fun n c=>if x=c then .inl (n:Int)else .inr (n+1)) (fin:=fun _=>(-1:Int)) (s:=0) (fun p n=>n=p.length) rfl ?_ ?_,?_,?_⟩
 ·intro p c r n h hn;subst hn;have hz:=gZ h;have e1:=nX h;have w1:wrap64 ((p.length:Int)+1)=(p.length:Int)+1:=aQ (by omega) (by omega);simp only[bg.l0,e1,w1,List.length_map,jv];clear w1 e1;by_cases e:x=c
  ·simp only[if_pos e];refine⟨(fun v hv=>?_),fun s' hs=>by cases hs⟩;cases hv;exact vp (by omega) (vp (by omega) (vp (by omega) (vs _)))
  ·simp only[if_neg e];refine⟨(fun v hv=>by cases hv),fun s' hs=>⟨?_,fun v hv=>?_⟩⟩
   ·cases hs;simp
   ·exact vp (by omega) (vp (by omega) (vp (by omega) hv))
 ·intro s _;simp only[bg.l0];exact vn (by omega) (vs _)
 ·have key:∀(r:List Str) (n:Nat),run (fun(n:Nat) c=>if x=c then .inl (n:Int)else .inr (n+1)) (fun _=>(-1:Int)) r n= -1∨0≤run (fun(n:Nat) c=>if x=c then .inl (n:Int)else .inr (n+1)) (fun _=>(-1:Int)) r n:=by
   intro r
   induction r with
   |nil=>intro n;exact Or.inl rfl
   |cons c r ih=>
    intro n;unfold run;by_cases e:x=c
    ·simp only[if_pos e];exact Or.inr (by omega)
    ·simp only[if_neg e];exact ih (n+1)
  exact key ls 0
 ·have key:∀(r:List Str) (n:Nat),0≤run (fun(n:Nat) c=>if x=c then .inl (n:Int)else .inr (n+1)) (fun _=>(-1:Int)) r n↔x∈r:=by
   intro r
   induction r with
   |nil=>intro n;simp[run]
   |cons c r ih=>
    intro n;unfold run;by_cases e:x=c
    ·simp only[if_pos e];simp[e]
    ·simp only[if_neg e];rw[ih];simp[e]
  exact key ls 0
theorem G7(ls:List Str)(x:Str)(hn:ls.length≤1000000000000000):Ev (fun k=>gq.f k (ls.map aT) (aT x)) (decide (x∈ls)):=by
 obtain⟨i,hi,h1,h2⟩:=Wp ls x hn;unfold gq.f;refine vb hi (vq (vs _) ?_);by_cases h:x∈ls
 ·rw[decide_eq_true h];exact decide_eq_true (h2.mpr h)
 ·rw[decide_eq_false h];exact decide_eq_false (fun hh=>h (h2.mp hh))
def dash(b:Str):Str:=[45,45]++b
def fin2(b:Str):Str:=[45,45]++b++[45,45]
def dv(ls:List Str)(b:Str):Bool:=decide (dash b∈ls)||decide (fin2 b∈ls)
def lk(l b:Str):Bool:=decide (l=dash b)||decide (l=fin2 b)
theorem aeu(ls:List Str)(b:Str):dv ls b=ls.any (fun l=>lk l b):=by
 unfold dv;rw[Bool.eq_iff_iff];simp only[lk,Bool.or_eq_true,decide_eq_true_iff,List.any_eq_true];constructor
 ·rintro(h|h)
  ·exact⟨_,h,Or.inl rfl⟩
  ·exact⟨_,h,Or.inr rfl⟩
 ·rintro⟨x,h,rfl|rfl⟩
  ·exact Or.inl h
  ·exact Or.inr h
theorem aev(b:Str):dash b≠fin2 b:=by
 unfold dash fin2;intro h;have:=congrArg List.length h;simp at this
theorem yw(b:Str):(⟨#[45,45]⟩:ByteArray)++aT b=aT (dash b):=by rw[apd,aew,kV];rfl
theorem D5(b:Str):aT (dash b)++(⟨#[45,45]⟩:ByteArray)=aT (fin2 b):=by rw[apd,aew,kV];rfl
theorem JG(b:Str):(dash b).length=b.length+2:=by unfold dash;simp
theorem aiW(b:Str):(fin2 b).length=b.length+4:=by unfold fin2;simp
theorem Wq(ls:List Str)(b:Str)(hb:b.length≤1000000000000000)(hn:ls.length≤1000000000000000):Ev (fun k=>xq.f k (ls.map aT) (aT b)) (dv ls b):=by
 unfold xq.f dv;have hd:=JG b;simp only[yw,D5,ay];refine vp (by omega) (vb (G7 ls (dash b) hn) ?_)
 cases e:decide (dash b∈ls)with
 |true=>exact vp rfl (vs _)
 |false=>exact vn (by simp) (vp (by omega) (vb (G7 ls (fin2 b) hn) (vs _)))
theorem KZ(l b:Str)(hb:b.length≤1000000000000000):qM.f (aT l) (aT b)=some (lk l b):=by
 unfold qM.f lk;have hd:=JG b;simp only[yw,D5,ay,jv];rw[if_pos (by omega)];by_cases h:l=dash b
 ·rw[if_pos h,decide_eq_true h];rfl
 ·rw[if_neg h,decide_eq_false h,if_pos (by omega)];simp only[Bool.false_or]
  congr 1
  rw[Bool.eq_iff_iff];simp
def jb(b:Str):List (List Str)→List Str
 |[]=>[]
 |c:: r=>dash b:: (c++jb b r)
def jR(b:Str)(ps:List (List Str)):Option (List Str):=if FH b=true∧ps≠[]∧ps.any (fun c=>dv c b)=false then some (jb b ps++[fin2 b])else none
def U5(o:Option (List Str)):List ByteArray×Bool:=match o with
 |none=>([],false)
 |some l=>(l.map aT,true)
theorem Zi(b:Str)(ps:List (List Str)):(jb b ps).length=tl ps:=by
 induction ps with
 |nil=>rfl
 |cons c r ih=>simp only[jb,tl,List.length_cons,List.length_append,ih];omega
theorem aaL(b:Str)(a c:List (List Str)):jb b (a++c)=jb b a++jb b c:=by
 induction a with
 |nil=>rfl
 |cons d a ih=>simp[jb,ih]
theorem asa{b:Str}(ps:List (List Str))(h:FH b=false):jR b ps=none:=by
 unfold jR;rw[if_neg (by rw[h];simp)]
theorem asb(b:Str):jR b []=none:=by
 unfold jR;rw[if_neg (by simp)]
theorem azM{b:Str}{ps:List (List Str)}(h1:FH b=true)(h2:ps≠[]):U5 (jR b ps)=if ps.any (fun c=>dv c b)=true then([],false)else((jb b ps++[fin2 b]).map aT,true):=by
 unfold jR
 cases e:ps.any (fun c=>dv c b)with
 |true=>rw[if_neg (by simp),if_pos rfl];rfl
 |false=>rw[if_pos ⟨h1,h2,rfl⟩,if_neg (by simp)];rfl
theorem O5(ls:List Str)(b:Str)(hb:b.length≤1000000000000)(hn:ls.length≤1000000000000):Ev (fun k=>qm.f k (ls.map aT) (aT b)) (dv ls b):=by
 unfold qm.f;exact vb (Wq ls b (by omega) (by omega)) (vs _)
theorem Lr(ps:List (List Str))(b:Str)(hb:b.length≤1000000000000)(hn:tl ps≤1000000000000):Ev (fun k=>fB.f k (ps.map (List.map aT)) (aT b)) (ps.any (fun c=>dv c b)):=by
 unfold fB.f aZ.f;have hl:=YZ ps
 have key:∀(r:List (List Str)) (n:Nat),decide (run (fun(n:Nat) c=>if dv c b=true then .inl (n:Int)else .inr (n+1)) (fun _=>(-1:Int)) r n≥0)=r.any (fun c=>dv c b):=by
  intro r
  induction r with
  |nil=>intro n;rfl
  |cons c r ih=>
   intro n;unfold run
   cases e:dv c b with
   |true=>simp[e]
   |false=>simp only[Bool.false_eq_true,if_false,ih,List.any_cons,e,Bool.false_or]
 rw[List.length_map];refine vb (oD (xs:=ps) (F:=fun k (_:Nat) i=>aZ.l0 k (ps.map (List.map aT)) (ps.length:Int) i (aT b)) (st:=fun n c=>if dv c b=true then .inl (n:Int)else .inr (n+1)) (fin:=fun _=>(-1:Int)) (s:=0) (fun p n=>n=p.length) rfl ?_ ?_) (vq (vs _) (key ps 0))
 ·intro p c r n h hn';subst hn';have hz:=gZ h;have hc:c.length≤tl ps:=ao4 (by rw[h];simp);have e1:=GI h;have w1:wrap64 ((p.length:Int)+1)=(p.length:Int)+1:=aQ (by omega) (by omega);simp only[aZ.l0,e1,w1,List.length_map];clear w1 e1;have hd:=O5 c b hb (by omega)
  cases e:dv c b with
  |true=>
   simp only[if_true];rw[e]at hd;refine⟨(fun v hv=>?_),fun s' hs=>by cases hs⟩;cases hv;exact vp (by omega) (vp (by omega) (vp (by omega) (vb hd (vp rfl (vs _)))))
  |false=>
   rw[e]at hd;refine⟨(fun v hv=>by cases hv),fun s' hs=>⟨?_,fun v hv=>?_⟩⟩
   ·cases hs;simp
   ·exact vp (by omega) (vp (by omega) (vp (by omega) (vb hd (vn (by simp) hv))))
 ·intro s _;simp only[aZ.l0];exact vn (by omega) (vs _)
theorem TF(ps:List (List Str))(b:Str)(hb:b.length≤1000000000000)(hn:tl ps≤1000000000000):Ev (fun k=>fZ.f k (ps.map (List.map aT)) (aT b)) (U5 (jR b ps)):=by
 have hl:=YZ ps;have hd:=JG b
 have hbad:∀ps:List (List Str),Ev (fun k=>fZ.j0 k (ps.map (List.map aT)) true (aT b)) (U5 none):=by
  intro ps;refine vc ?_;simp only[fZ.j0];exact vp trivial (vs _)
 unfold fZ.f;refine vb (Ba b (by omega)) ?_;unfold jR
 cases e1:FH b with
 |false=>
  rw[if_neg (by simp)];exact vn (by simp) (hbad ps)
 |true=>
  refine vp rfl ?_;rw[List.length_map];by_cases e2:ps=[]
  ·rw[if_neg (by simp[e2])];exact vp (by simp[e2]) (hbad ps)
  ·have h2:ps.length≠0:=by rw[ne_eq,List.length_eq_zero_iff];exact e2
   refine vn (by omega) (vb (Lr ps b hb hn) ?_)
   cases e3:ps.any (fun c=>dv c b)with
   |true=>
    rw[if_neg (by simp)];exact hbad ps
   |false=>
    rw[if_pos ⟨rfl,e2,rfl⟩];refine vc ?_;simp only[fZ.j0,Bool.false_eq_true,if_false,List.length_map];refine vq (oD (xs:=ps) (F:=fun k (out:List Str) i=>fZ.l0 k (out.map aT) (ps.map (List.map aT)) (ps.length:Int) i (aT b)) (st:=fun out c=> .inr (out++(dash b:: c))) (fin:=fun out=>U5 (some (out++[fin2 b]))) (s:=[]) (fun p out=>out=jb b p) rfl ?_ ?_) ?_
    ·intro p c r out h ho;have hz:=gZ h;have e1:=GI h;have hlen:out.length=tl p:=by rw[ho,Zi]
     have htl:tl ps=tl p+(c.length+1+tl r):=by rw[h,DJ];rfl
     have w1:wrap64 ((p.length:Int)+1)=(p.length:Int)+1:=aQ (by omega) (by omega);simp only[fZ.l0,e1,w1,List.length_map,yw,ay,Option.bind_some,List.length_append,List.length_cons,List.length_nil];clear w1 e1;refine⟨(fun v hv=>by cases hv),fun s' hs=>⟨?_,fun v hv=>?_⟩⟩
     ·cases hs;rw[ho,aaL];simp[jb]
     ·cases hs;refine vp (by omega) (vp (by omega) (vp (by omega) (vp (by omega) (vp (by omega) (vp (by omega) ?_)))));have e5:out.map aT++[aT (dash b)]++c.map aT=(out++(dash b:: c)).map aT:=by simp
      rw[e5];exact hv
    ·intro out ho;have hlen:out.length=tl ps:=by rw[ho,Zi]
     have hd4:=aiW b;simp only[fZ.l0,yw,D5,ay,List.length_map];refine vn (by omega) (vp (by omega) (vp (by omega) (vp (by omega) (vq (vs _) ?_))));simp[U5]
    ·have key:∀(r:List (List Str)) (out:List Str),run (fun out c=> .inr (out++(dash b:: c))) (fun out=>U5 (some (out++[fin2 b]))) r out=U5 (some (out++jb b r++[fin2 b])):=by
      intro r
      induction r with
      |nil=>intro out;simp[run,jb]
      |cons c r ih=>intro out;unfold run;simp only;rw[ih];simp[jb]
     exact key ps []
theorem TG(ps:List (List Str))(b:Str)(hb:b.length≤1000000000000)(hn:tl ps≤1000000000000)(p r:List (List Str))(c:List Str)(h:ps=p++c:: r)(out:List Str)(ho:out.length≤tl p+1)(V:List ByteArray×Bool)
  (hV:c.any (fun l=>lk l b)=false→Ev (fun k=>dI.l0 k (ps.map (List.map aT)) (aT b) ((out++c).map aT) ((p.length:Int)+1)) V):
  Ev (fun k=>dI.l1 k (ps.map (List.map aT)) (aT b) (out.map aT) (p.length:Int) 0) (if c.any (fun l=>lk l b)=true then([],false)else V):=by
 have hz:=gZ h;have hl:=YZ ps;have e1:=GI h;have htl:tl ps=tl p+(c.length+1+tl r):=by rw[h,DJ];rfl
 have w0:wrap64 ((p.length:Int)+1)=(p.length:Int)+1:=aQ (by omega) (by omega);refine vq (oD (xs:=c) (F:=fun k (o:List Str) i=>dI.l1 k (ps.map (List.map aT)) (aT b) (o.map aT) (p.length:Int) i) (st:=fun o l=>if lk l b=true then .inl ([],false)else .inr (o++[l])) (fin:=fun _=>V) (s:=out) (fun q o=>o=out++q∧q.any (fun l=>lk l b)=false) ⟨by simp,rfl⟩ ?_ ?_) ?_
 ·rintro q l s o hc ⟨ho2,hq⟩;have hzc:=gZ hc;have e2:=nX hc;have hlo:o.length=out.length+q.length:=by rw[ho2,List.length_append]
  have w1:wrap64 ((q.length:Int)+1)=(q.length:Int)+1:=aQ (by omega) (by omega);simp only[dI.l1,e1,e2,w1,List.length_map];clear w1 e2 w0;have hk:=KZ l b (by omega)
  cases e:lk l b with
  |true=>
   rw[e]at hk;simp only[if_true];refine⟨(fun v hv=>?_),fun s' hs=>by cases hs⟩;cases hv;exact vp (by omega) (vp (by omega) (vp (by omega) (vp (by omega) (jD hk (vp rfl (vs _))))))
  |false=>
   rw[e]at hk;refine⟨(fun v hv=>by cases hv),fun s' hs=>⟨?_,fun v hv=>?_⟩⟩
   ·cases hs;exact⟨by rw[ho2];simp,by simp[List.any_append,hq,e]⟩
   ·cases hs;refine vp (by omega) (vp (by omega) (vp (by omega) (vp (by omega) (jD hk (vn (by simp) (vp (by omega) ?_))))));have e5:o.map aT++[aT l]=(o++[l]).map aT:=by simp
    rw[e5];exact hv
 ·rintro o ⟨ho2,hq⟩;simp only[dI.l1,e1,w0,List.length_map];clear w0;rw[ho2];exact vp (by omega) (vp (by omega) (vn (by omega) (hV hq)))
 ·have key:∀(r:List Str) (o:List Str),run (fun o l=>if lk l b=true then .inl ([],false)else .inr (o++[l])) (fun _=>V) r o=if r.any (fun l=>lk l b)=true then([],false)else V:=by
   intro r
   induction r with
   |nil=>intro o;rfl
   |cons c r ih=>
    intro o;unfold run
    cases e:lk c b with
    |true=>simp[e]
    |false=>simp only[Bool.false_eq_true,if_false,ih,List.any_cons,e,Bool.false_or]
  exact key c out
theorem TI(ps:List (List Str))(b:Str)(hb:b.length≤1000000000000)(hn:tl ps≤1000000000000)(r:List (List Str)):∀(p:List (List Str)),ps=p++r→Ev (fun k=>dI.l0 k (ps.map (List.map aT)) (aT b) ((jb b p).map aT) (p.length:Int)) (if r.any (fun c=>dv c b)=true then([],false)else((jb b ps++[fin2 b]).map aT,true)):=by
 have hd:=JG b;have hd4:=aiW b
 induction r with
 |nil=>
  intro p h;rw[List.append_nil]at h;subst h;have hlen:=Zi b ps;refine vc ?_;simp only[dI.l0,yw,D5,ay,List.length_map];refine vn (by omega) (vp (by omega) (vp (by omega) (vp (by omega) (vq (vs _) ?_))));simp
 |cons c r ih=>
  intro p h;have hz:=gZ h;have hl:=YZ ps;have hlen:=Zi b p;have htl:tl ps=tl p+(c.length+1+tl r):=by rw[h,DJ];rfl
  have h1:=ih (p++[c]) (by rw[h];simp);rw[kS]at h1;have e5:jb b (p++[c])=jb b p++[dash b]++c:=by rw[aaL];simp[jb]
  rw[e5]at h1;have h2:=TG ps b hb hn p r c h (jb b p++[dash b]) (by rw[List.length_append,hlen];simp) _ (fun _=>h1);refine vc ?_;simp only[dI.l0,yw,ay,List.length_map];have e6:(jb b p).map aT++[aT (dash b)]=(jb b p++[dash b]).map aT:=by simp
  rw[e6];refine vp (by omega) (vp (by omega) (vp (by omega) (vq h2 ?_)));rw[←aeu,List.any_cons];cases dv c b<;>simp
theorem TJ(ps:List (List Str))(b:Str)(hb:b.length≤1000000000000)(hn:tl ps≤1000000000000):Ev (fun k=>dI.f k (ps.map (List.map aT)) (aT b)) (U5 (jR b ps)):=by
 have hbad:Ev (fun k=>dI.j0 k (ps.map (List.map aT)) (aT b) [] true) (U5 none):=by
  refine vc ?_;simp only[dI.j0];exact vp trivial (vs _)
 unfold dI.f;simp only[Option.bind_some,List.length_map];refine vb (xP b (by omega)) ?_
 cases e1:FH b with
 |false=>
  rw[asa ps e1];exact vn (by simp) hbad
 |true=>
  refine vp rfl ?_;by_cases e2:ps=[]
  ·subst e2;rw[asb];exact hbad
  ·have h2:ps.length≠0:=by rw[ne_eq,List.length_eq_zero_iff];exact e2
   have:((ps.length:Int)==0)=false:=by rw[beq_eq_false_iff_ne];omega
   rw[this,azM e1 e2];refine vc ?_;simp only[dI.j0];exact vn (by simp) (TI ps b hb hn ps [] rfl)
def wH(l:Str)(i:Nat):Bool:=decide (bt (aT l) (i:Int)=32)&&(!decide (bt (aT l) ((i:Int)-1)=32)&& !decide (bt (aT l) ((i:Int)+1)=32))
def uZ(l:Str)(i:Nat)(b:Int):Int:=if wH l i=true∧(b<0∨i≤40)then(i:Int)else b
def brk(l:Str):Nat→Nat→Int→Int
 |0,_,b=>b
 |n+1,i,b=>brk l n (i+1) (uZ l i b)
def Ls(l:Str)(i:Nat):Int:=brk l (l.length-1-i) i (-1)
theorem aaM(l:Str):∀(n i:Nat) (b:Int),brk l n i b=b∨((i:Int)≤brk l n i b∧brk l n i b<i+n)
 |0,_,_=> .inl rfl
 |n+1,i,b=>by
  rw[brk];rcases aaM l n (i+1) (uZ l i b)with h|h
  ·rw[h];unfold uZ;by_cases c:wH l i=true∧(b<0∨i≤40)
   ·rw[if_pos c];exact .inr ⟨by omega,by omega⟩
   ·rw[if_neg c];exact .inl rfl
  ·exact .inr ⟨by omega,by omega⟩
theorem KC(l:Str)(i:Nat):Ls l i<0∨((i:Int)≤Ls l i∧Ls l i<l.length):=by
 unfold Ls;rcases aaM l (l.length-1-i) i (-1)with h|h
 ·exact .inl (by omega)
 ·exact .inr ⟨h.1,by omega⟩
def fl:Nat→Str→Nat→List Str
 |0,l,_=>[l]
 |n+1,l,i=>if l.length>40 then(if Ls l i<0 then[l]else l.take (Ls l i).toNat:: fl n (l.drop (Ls l i).toNat) 2)else[l]
theorem agt:∀(n:Nat) (l:Str) (i:Nat),1≤i→(fl n l i).length≤l.length+1
 |0,l,i,_=>by simp[fl]
 |n+1,l,i,hi=>by
  rw[fl];by_cases c:l.length>40
  ·rw[if_pos c];by_cases d:Ls l i<0
   ·rw[if_pos d];simp
   ·rw[if_neg d];have:=KC l i;have h2:=agt n (l.drop (Ls l i).toNat) 2 (by omega);rw[List.length_drop]at h2;rw[List.length_cons];omega
  ·rw[if_neg c];simp
def Df(f:Str×Str):Str:=(f.1++[58])++(if f.2=[]then[]else 32:: f.2)
def CY(f:Str×Str):List Str:=fl (Df f).length (Df f) (f.1.length+3)
theorem Ep(acc:List Str)(l:Str):acc.map aT++[aT l]=(acc++[l]).map aT:=by rw[List.map_append];rfl
theorem acB(l:Str)(acc:List Str)(hl:l.length≤1048576)(V:List ByteArray):∀(n i:Nat) (b:Int),n=l.length-1-i→1≤i→i≤1048579→
  Ev (fun k=>if brk l n i b<0 then(if(acc.map aT).length<8796093022208 then(some ((acc.map aT)++[aT l]))else(none))else(if 0≤brk l n i b then(if brk l n i b≤((aT l).size:Int)then(if(acc.map aT).length<8796093022208 then(bf.l0 k ((aT l).extract (brk l n i b:Int).toNat (aT l).size) 2 ((acc.map aT)++[(aT l).extract 0 (brk l n i b:Int).toNat]))else(none))else(none))else(none))) V→
  Ev (fun k=>bf.l1 k (aT l) (acc.map aT) b (i:Int)) V:=by
 intro n
 induction n with
 |zero=>
  intro i b hn hi hi2 hE;have w1:wrap64 ((i:Int)+1)=(i:Int)+1:=aQ (by omega) (by omega);refine vc ?_;simp only[bf.l1,w1];clear w1;rw[brk]at hE;exact vn (by rw[ay];omega) hE
 |succ n ih=>
  intro i b hn hi hi2 hE;have w1:wrap64 ((i:Int)+1)=(i:Int)+1:=aQ (by omega) (by omega);have w2:wrap64 ((i:Int)-1)=(i:Int)-1:=aQ (by omega) (by omega);have hs:=ay l;rw[brk]at hE;have go:=ih (i+1) (uZ l i b) (by omega) (by omega) (by omega) hE;rw[show((i+1:Nat):Int)=(i:Int)+1 by omega]at go;clear hE ih;refine vc ?_;simp only[bf.l1,w1,w2];clear w1 w2;refine vp (by omega) (vp (by omega) (vp (by omega) ?_));by_cases c1:bt (aT l) (i:Int)=32
  ·refine vp c1 (vp (by omega) (vp (by omega) ?_));by_cases c2:bt (aT l) ((i:Int)-1)=32
   ·refine vp c2 ?_;have e:uZ l i b=b:=by unfold uZ wH;rw[if_neg (by simp[c2])]
    rw[e]at go;exact go
   ·refine vn c2 (vp (by omega) ?_);by_cases c3:bt (aT l) ((i:Int)+1)=32
    ·refine vp c3 ?_;have e:uZ l i b=b:=by unfold uZ wH;rw[if_neg (by simp[c3])]
     rw[e]at go;exact go
    ·refine vn c3 ?_;by_cases c4:b<0
     ·refine vp c4 ?_;have e:uZ l i b=(i:Int):=by unfold uZ wH;rw[if_pos (by simp[c1,c2,c3,c4])]
      rw[e]at go;exact go
     ·refine vn c4 ?_;by_cases c5:(i:Int)≤40
      ·refine vp c5 ?_;have e:uZ l i b=(i:Int):=by unfold uZ wH;rw[if_pos (by simp[c1,c2,c3];omega)]
       rw[e]at go;exact go
      ·refine vn c5 ?_;have e:uZ l i b=b:=by unfold uZ;rw[if_neg (fun h=>by have:=h.2;omega)]
       rw[e]at go;exact go
  ·refine vn c1 ?_;have e:uZ l i b=b:=by unfold uZ wH;rw[if_neg (by simp[c1])]
   rw[e]at go;exact go
theorem acC:∀(n:Nat) (l:Str) (i:Nat) (acc:List Str),l.length≤n→l.length≤1048576→1≤i→i≤1048579→acc.length+l.length≤2000000→Ev (fun k=>bf.l0 k (aT l) (i:Int) (acc.map aT)) ((acc++fl n l i).map aT):=by
 intro n
 induction n with
 |zero=>
  intro l i acc hn hl hi hi2 ha;refine vc ?_;simp only[bf.l0,ay,List.length_map,fl];exact vn (by omega) (vp (by omega) (vq (vs _) (Ep acc l)))
 |succ n ih=>
  intro l i acc hn hl hi hi2 ha;refine vc ?_;simp only[bf.l0,fl];by_cases c:l.length>40
  ·refine vp (by rw[ay];omega) ?_;rw[if_pos c];have hr:=KC l i;refine acB l acc hl _ (l.length-1-i) i (-1) rfl hi hi2 ?_;rw[show brk l (l.length-1-i) i (-1)=Ls l i from rfl]
   generalize Ls l i=t at hr
   by_cases d:t<0
   ·rw[if_pos d];exact vp d (vp (by rw[List.length_map];omega) (vq (vs _) (Ep acc l)))
   ·rw[if_neg d];obtain⟨m,rfl⟩:=Int.eq_ofNat_of_zero_le (a:=t) (by omega);have h2:=ih (l.drop m) 2 (acc++[l.take m]) (by rw[List.length_drop];omega) (by rw[List.length_drop];omega) (by omega) (by omega) (by rw[List.length_append,List.length_drop];simp;omega);refine vn d (vp (by omega) (vp (by rw[ay];omega) (vp (by rw[List.length_map];omega) ?_)));rw[←Ep]at h2;simp only[jL,ay,Int.toNat_natCast,List.drop_zero,Nat.sub_zero]at h2⊢;rw[List.take_of_length_le (l:=l.drop m) (by rw[List.length_drop];omega)];refine vq h2 ?_;simp
  ·refine vn (by rw[ay];omega) ?_;rw[if_neg c];exact vp (by rw[List.length_map];omega) (vq (vs _) (Ep acc l))
theorem aaN:(⟨#[58]⟩:ByteArray)=aT [58]:=rfl
theorem aaO:(⟨#[32]⟩:ByteArray)=aT [32]:=rfl
theorem TK(f:Str×Str)(h1:f.1.length≤1000)(h2:f.2.length≤1000):Ev (fun k=>bf.f k (aT f.1) (aT f.2)) ((CY f).map aT):=by
 obtain⟨a,b⟩:=f;simp only at h1 h2;unfold bf.f CY Df;have w:wrap64 ((a.length:Int)+3)=((a.length+3:Nat):Int):=by rw[aQ (by omega) (by omega)];omega
 simp only[aaN,aaO,kV,ay,jv,w,List.length_append,List.length_cons,List.length_nil];clear w
 have key:∀l:Str,l.length≤3000→Ev (fun k=>bf.j0 k (aT l) ((a.length+3:Nat):Int)) ((fl l.length l (a.length+3)).map aT):=by
  intro l hl;refine vc ?_;simp only[bf.j0];have:=acC l.length l (a.length+3) [] (Nat.le_refl _) (by omega) (by omega) (by omega) (by simp;omega);exact this
 refine vp (by omega) ?_;by_cases c:b=[]
 ·subst c;refine vp rfl ?_;have:=key (a++[58]) (by simp;omega)
  simpa using this
 ·refine vn c (vp (by omega) (vp (by omega) ?_));have:=key ((a++[58])++([32]++b)) (by simp;omega);rw[if_neg c]
  simpa [Nat.add_assoc,Nat.add_comm,Nat.add_left_comm] using this
theorem agu(l:Str)(hl:l.length≤1048576):∀(n i:Nat) (b:Int),n=l.length-1-i→1≤i→i≤1048579→Ev (fun k=>fG.l0 k (aT l) b (i:Int)) (brk l n i b):=by
 intro n
 induction n with
 |zero=>
  intro i b hn hi hi2;have w1:wrap64 ((i:Int)+1)=(i:Int)+1:=aQ (by omega) (by omega);refine vc ?_;simp only[fG.l0,w1,brk];clear w1;exact vn (by rw[ay];omega) (vs _)
 |succ n ih=>
  intro i b hn hi hi2;have w1:wrap64 ((i:Int)+1)=(i:Int)+1:=aQ (by omega) (by omega);have w2:wrap64 ((i:Int)-1)=(i:Int)-1:=aQ (by omega) (by omega);have hs:=ay l;have go:=ih (i+1) (uZ l i b) (by omega) (by omega) (by omega);rw[show((i+1:Nat):Int)=(i:Int)+1 by omega]at go;rw[brk];clear ih
  have jt:uZ l i b=b→Ev (fun k=>fG.j1 k (aT l) b (i:Int) true) (brk l n (i+1) (uZ l i b)):=fun e=>by
   refine vc ?_;simp only[fG.j1,w1];rw[e]at go⊢;exact vp (by simp) go
  refine vc ?_;simp only[fG.l0,w1,w2];refine vp (by omega) (vp (by omega) (vp (by omega) ?_));by_cases c1:bt (aT l) (i:Int)=32
  ·refine vp c1 (vp (by omega) (vp (by omega) ?_));by_cases c2:bt (aT l) ((i:Int)-1)=32
   ·exact vp c2 (jt (by unfold uZ wH;rw[if_neg (by simp[c2])]))
   ·refine vn c2 (vp (by omega) ?_);by_cases c3:bt (aT l) ((i:Int)+1)=32
    ·rw[show(bt (aT l) ((i:Int)+1)==32)=true by simp[c3]];exact jt (by unfold uZ wH;rw[if_neg (by simp[c3])])
    ·rw[show(bt (aT l) ((i:Int)+1)==32)=false by simp[c3]];refine vc ?_;simp only[fG.j1,w1];clear w1 w2;refine vn (by simp) ?_;by_cases c5:(i:Int)≤40
     ·refine vp c5 ?_;have e:uZ l i b=(i:Int):=by unfold uZ wH;rw[if_pos (by simp[c1,c2,c3];omega)]
      rw[e]at go⊢;exact go
     ·refine vn c5 ?_;by_cases c4:b<0
      ·refine vp c4 ?_;have e:uZ l i b=(i:Int):=by unfold uZ wH;rw[if_pos (by simp[c1,c2,c3,c4])]
       rw[e]at go⊢;exact go
      ·refine vn c4 ?_;have e:uZ l i b=b:=by unfold uZ;rw[if_neg (fun h=>by have:=h.2;omega)]
       rw[e]at go⊢;exact go
  ·exact vn c1 (jt (by unfold uZ wH;rw[if_neg (by simp[c1])]))
theorem TL:∀(n:Nat) (l:Str) (i:Nat) (acc:List Str),l.length≤n→l.length≤1048576→1≤i→i≤1048578→acc.length+l.length≤2000000→Ev (fun k=>gX.l0 k (acc.map aT) (aT l) (i:Int)) ((acc++fl n l (i+1)).map aT):=by
 intro n
 induction n with
 |zero=>
  intro l i acc hn hl hi hi2 ha;refine vc ?_;simp only[gX.l0,ay,List.length_map,fl];exact vn (by omega) (vp (by omega) (vq (vs _) (Ep acc l)))
 |succ n ih=>
  intro l i acc hn hl hi hi2 ha;refine vc ?_;simp only[gX.l0,fl];by_cases c:l.length>40
  ·refine vp (by rw[ay];omega) ?_;rw[if_pos c];have hr:=KC l (i+1)
   have hb:Ev (fun k=>fG.f k (aT l) (i:Int)) (Ls l (i+1)):=by
    unfold fG.f;rw[show wrap64 ((i:Int)+1)=((i+1:Nat):Int) by rw[aQ (by omega) (by omega)];omega];exact agu l hl (l.length-1-(i+1)) (i+1) (-1) rfl (by omega) (by omega)
   refine vb hb ?_
   generalize Ls l (i+1)=t at hr
   by_cases d:t<0
   ·rw[if_pos d];exact vp d (vp (by rw[List.length_map];omega) (vq (vs _) (Ep acc l)))
   ·rw[if_neg d];obtain⟨m,rfl⟩:=Int.eq_ofNat_of_zero_le (a:=t) (by omega);have h2:=ih (l.drop m) 1 (acc++[l.take m]) (by rw[List.length_drop];omega) (by rw[List.length_drop];omega) (by omega) (by omega) (by rw[List.length_append,List.length_drop];simp;omega);refine vn d (vp (by omega) (vp (by rw[ay];omega) (vp (by rw[List.length_map];omega) ?_)));rw[←Ep]at h2;simp only[jL,ay,Int.toNat_natCast,List.drop_zero,Nat.sub_zero]at h2⊢;rw[List.take_of_length_le (l:=l.drop m) (by rw[List.length_drop];omega)];refine vq h2 ?_;simp
  ·refine vn (by rw[ay];omega) ?_;rw[if_neg c];exact vp (by rw[List.length_map];omega) (vq (vs _) (Ep acc l))
def fv(f:Str×Str):Bool:=Kv f.1&&(nG f.2&&(decide (f.2.length≤150)&&decide (trim f.2=f.2)))
def fvs(fs:List (Str×Str)):Bool:=decide (fs.length≤20)&&fs.all fv
theorem acD{f:Str×Str}(h:fv f=true):f.1.length≤30∧f.2.length≤150:=by
 unfold fv at h;simp only[Bool.and_eq_true,decide_eq_true_iff]at h;exact⟨aei h.1,h.2.2.1⟩
theorem U6{f:Str×Str}(h:fv f=true):(CY f).length≤183:=by
 have:=acD h;have h2:=agt (Df f).length (Df f) (f.1.length+3) (by omega)
 have h3:(Df f).length≤f.1.length+2+f.2.length:=by
  unfold Df;by_cases c:f.2=[]
  ·rw[if_pos c];simp;omega
  ·rw[if_neg c];simp;omega
 unfold CY;omega
theorem TM(l:Str)(hl:l.length≤1000000000):lq.f (aT l) (⟨#[32]⟩:ByteArray)=some (aT (trim l)):=by
 unfold lq.f;rw[if_pos rfl,if_pos (by rw[ay];omega)];rfl
theorem Qr(f:Str×Str)(h1:f.1.length≤1048576)(h2:f.2.length≤1048576):Ev (fun k=>tC.f k (aT f.1) (aT f.2)) (fv f):=by
 unfold tC.f fv;refine vb (NM f.1 (by omega)) ?_
 cases Kv f.1 with
 |false=>exact vn (by simp) (vs _)
 |true=>
  refine vp rfl (vb (tu f.2 (by omega)) ?_)
  cases nG f.2 with
  |false=>exact vn (by simp) (vs _)
  |true=>
   refine vp rfl ?_;rw[ay];by_cases c:f.2.length≤150
   ·refine vp (by omega) (jD (TM f.2 (by omega)) (vq (vs _) ?_));rw[jv,jv,OG,decide_eq_true c];simp
   ·refine vn (by omega) (vq (vs _) ?_);rw[decide_eq_false c];simp
theorem xQ(f:Str×Str)(h1:f.1.length≤1048576)(h2:f.2.length≤1048576):Ev (fun k=>jc.f k (aT f.1) (aT f.2)) (fv f):=by
 unfold jc.f fv;refine vb (NP f.1 (by omega)) ?_
 cases Kv f.1 with
 |false=>exact vn (by simp) (vs _)
 |true=>
  refine vp rfl (vb (nH f.2 (by omega)) ?_)
  cases nG f.2 with
  |false=>exact vn (by simp) (vs _)
  |true=>
   refine vp rfl ?_;rw[ay];by_cases c:f.2.length≤150
   ·refine vp (by omega) (vb (qR f.2 (by omega)) (vq (vs _) ?_));rw[jv,jv,OG,decide_eq_true c];simp
   ·refine vn (by omega) (vq (vs _) ?_);rw[decide_eq_false c];simp
theorem Lu(ls:List (Str×Str))(hs:small ls)(hn:ls.length≤1048576)(r:List (Str×Str)):∀p,ls=p++r→∃v:Int,Ev (fun k=>dF.l0 k (ls.map vW) (ls.length:Int) (p.length:Int)) v∧decide (v≥0)= !(r.all fv):=by
 induction r with
 |nil=>
  intro p h;have hz:ls.length=p.length:=by rw[h,List.append_nil]
  refine⟨-1,vc ?_,rfl⟩;simp only[dF.l0];exact vn (by omega) (vs _)
 |cons c r ih=>
  intro p h;have hz:=gZ h;have e1:=zI h;have hc:=hs c (by rw[h];simp);have w1:wrap64 ((p.length:Int)+1)=(p.length:Int)+1:=aQ (by omega) (by omega);obtain⟨v,hv,hv2⟩:=ih (p++[c]) (by rw[h];simp);rw[kS]at hv;have h1:Ev (fun k=>qh.f k (aT c.1) (aT c.2)) (!fv c):=vb (Qr c hc.1 hc.2) (vs _)
  cases e:fv c with
  |true=>
   rw[e]at h1;refine⟨v,vc ?_,by rw[hv2,List.all_cons,e];rfl⟩;simp only[dF.l0,e1,w1,List.length_map];clear w1;exact vp (by omega) (vp (by omega) (vp (by omega) (vb h1 (vn (by simp) hv))))
  |false=>
   rw[e]at h1;refine⟨p.length,vc ?_,by rw[List.all_cons,e];simp⟩;simp only[dF.l0,e1,w1,List.length_map];clear w1;exact vp (by omega) (vp (by omega) (vp (by omega) (vb h1 (vp (by simp) (vs _)))))
theorem Fa(ls:List (Str×Str))(hs:small ls)(hn:ls.length≤1048576):Ev (fun k=>lY.f k (ls.map vW)) (fvs ls):=by
 unfold lY.f kX.f dF.f fvs;rw[List.length_map];by_cases c:ls.length≤20
 ·obtain⟨v,hv,hv2⟩:=Lu ls hs hn ls [] rfl;refine vp (by omega) (vb (vb hv (vs _)) (vq (vs _) ?_));rw[hv2,decide_eq_true c];simp
 ·refine vn (by omega) (vq (vs _) ?_);rw[decide_eq_false c];rfl
theorem TN(ls:List (Str×Str))(hs:small ls)(hn:ls.length≤1048576)(r:List (Str×Str)):∀p,ls=p++r→Ev (fun k=>iF.l0 k (ls.map vW) (p.length:Int)) (decide (ls.length≤20)&&r.all fv):=by
 have out:∀i:Int,Ev (fun k=>iF.j1 k (ls.map vW) i false) (decide (ls.length≤20)):=fun i=>by
  refine vc ?_;simp only[iF.j1,List.length_map];refine vn (by simp) (vq (vs _) ?_);exact decide_eq_decide.mpr (by omega)
 induction r with
 |nil=>
  intro p h;have hz:ls.length=p.length:=by rw[h,List.append_nil]
  refine vc ?_;simp only[iF.l0,List.length_map];refine vn (by omega) (vq (out _) (by simp))
 |cons c r ih=>
  intro p h;have hz:=gZ h;have e1:=zI h;have hc:=hs c (by rw[h];simp);have w1:wrap64 ((p.length:Int)+1)=(p.length:Int)+1:=aQ (by omega) (by omega);have hv:=ih (p++[c]) (by rw[h];simp);rw[kS]at hv;have h1:=xQ c hc.1 hc.2;refine vc ?_;simp only[iF.l0,List.length_map];refine vp (by omega) ?_;by_cases c2:p.length≤20
  ·rw[show decide ((p.length:Int)≤20)=true from decide_eq_true (by omega)];refine vc ?_;simp only[iF.j1,List.length_map,e1,w1];clear w1;refine vp trivial (vp (by omega) (vp (by omega) (vb h1 ?_)))
   cases e:fv c with
   |true=>exact vp rfl (vq hv (by rw[List.all_cons,e,Bool.true_and]))
   |false=>exact vn (by simp) (vq (vs _) (by rw[List.all_cons,e];simp))
  ·rw[show decide ((p.length:Int)≤20)=false from decide_eq_false (by omega)];exact vq (out _) (by rw[decide_eq_false (by omega)];rfl)
theorem EK(ls:List (Str×Str))(hs:small ls)(hn:ls.length≤1048576):Ev (fun k=>iF.f k (ls.map vW)) (fvs ls):=TN ls hs hn ls [] rfl
theorem NV(ls:List (Str×Str))(hv:ls.all fv=true)(hn:ls.length≤20)(r:List (Str×Str)):∀(p:List (Str×Str)) (acc:List Str),ls=p++r→acc.length≤183*p.length→Ev (fun k=>jU.l0 k (acc.map aT) (ls.map vW) (ls.length:Int) (p.length:Int)) ((acc++r.flatMap CY).map aT,true):=by
 induction r with
 |nil=>
  intro p acc h ha;have hz:ls.length=p.length:=by rw[h,List.append_nil]
  refine vc ?_;simp only[jU.l0];exact vn (by omega) (vq (vs _) (by simp))
 |cons c r ih=>
  intro p acc h ha;have hz:=gZ h;have e1:=zI h;have hc:fv c=true:=List.all_eq_true.mp hv c (by rw[h];simp);have hl:=acD hc;have hf:=U6 hc;have w1:wrap64 ((p.length:Int)+1)=(p.length:Int)+1:=aQ (by omega) (by omega);have hv:=ih (p++[c]) (acc++CY c) (by rw[h];simp) (by simp only[List.length_append,List.length_singleton];omega);rw[kS,List.map_append]at hv;refine vc ?_;simp only[jU.l0,List.length_map,e1,w1];clear w1;exact vp (by omega) (vp (by omega) (vp (by omega) (vb (TK c (by omega) (by omega)) (vp (by simp only[List.length_map];omega) (vq hv (by simp))))))
def folds(ls:List (Str×Str)):List Str:=ls.flatMap CY
theorem U7(ls:List (Str×Str))(h:fvs ls=true):(folds ls).length≤3660:=by
 unfold fvs at h;simp only[Bool.and_eq_true,decide_eq_true_iff]at h
 have key:∀r:List (Str×Str),r.all fv=true→(r.flatMap CY).length≤183*r.length:=by
  intro r
  induction r with
  |nil=>intro _;simp
  |cons c r ih=>
   intro h;rw[List.all_cons,Bool.and_eq_true]at h;have:=ih h.2;have:=U6 h.1;rw[List.flatMap_cons,List.length_append,List.length_cons];omega
 have:=key ls h.2;unfold folds;omega
theorem Bc(ls:List (Str×Str))(hs:small ls)(hn:ls.length≤1048576):Ev (fun k=>jU.f k (ls.map vW)) (if fvs ls=true then((folds ls).map aT,true)else([],false)):=by
 unfold jU.f;refine vb (Fa ls hs hn) ?_
 cases e:fvs ls with
 |false=>exact vn (by simp) (vs _)
 |true=>
  rw[List.length_map];unfold fvs at e;simp only[Bool.and_eq_true,decide_eq_true_iff]at e;exact vp rfl (NV ls e.2 e.1 ls [] [] rfl (by simp))
theorem TP(f:Str×Str)(hf:fv f=true):Ev (fun k=>gX.f k (aT f.1) (aT f.2)) ((CY f).map aT):=by
 have hl:=acD hf;have hx:=xQ f (by omega) (by omega);rw[hf]at hx;obtain⟨a,b⟩:=f;simp only at hl;unfold gX.f CY Df
 have key:∀l:Str,l.length≤3000→Ev (fun k=>gX.j0 k [] (aT l) ((a.length+2:Nat):Int)) ((fl l.length l (a.length+3)).map aT):=by
  intro l hl;refine vc ?_;simp only[gX.j0];have:=TL l.length l (a.length+2) [] (Nat.le_refl _) (by omega) (by omega) (by omega) (by simp;omega);exact this
 refine vb (vs _) (vb hx (vp rfl ?_));have w:wrap64 (((a.length+1:Nat):Int)+1)=((a.length+2:Nat):Int):=by rw[aQ (by omega) (by omega)];omega
 simp only[aaN,aaO,kV,ay,jv,List.length_append,List.length_cons,List.length_nil];refine vp (by omega) ?_;by_cases c:b=[]
 ·subst c;refine vp rfl ?_;refine vc ?_;simp only[gX.j0];have:=TL (a++[58]).length (a++[58]) (a.length+1) [] (Nat.le_refl _) (by simp;omega) (by omega) (by omega) (by simp;omega)
  have e:fl (a++[58]).length (a++[58]) (a.length+1+1)=fl (a++[58]).length (a++[58]) (a.length+3):=by
   have g:∀(n i j:Nat),fl n (a++[58]) i=fl n (a++[58]) j:=fun n i j=>by
    cases n with
    |zero=>rfl
    |succ n=>rw[fl,fl,if_neg (by simp;omega),if_neg (by simp;omega)]
   exact g _ _ _
  rw[e]at this
  simpa using this
 ·refine vn c (vp (by omega) (vp (by omega) ?_));have:=key ((a++[58])++[32]++b) (by simp;omega);rw[if_neg c,w]
  simpa [Nat.add_assoc,Nat.add_comm,Nat.add_left_comm] using this
theorem NW(ls:List (Str×Str))(hv:ls.all fv=true)(hn:ls.length≤20)(r:List (Str×Str)):∀(p:List (Str×Str)) (acc:List Str),ls=p++r→acc.length≤183*p.length→Ev (fun k=>jE.l0 k (ls.map vW) (acc.map aT) (p.length:Int)) ((acc++r.flatMap CY).map aT,true):=by
 induction r with
 |nil=>
  intro p acc h ha;have hz:ls.length=p.length:=by rw[h,List.append_nil]
  refine vc ?_;simp only[jE.l0,List.length_map];exact vn (by omega) (vq (vs _) (by simp))
 |cons c r ih=>
  intro p acc h ha;have hz:=gZ h;have e1:=zI h;have hc:fv c=true:=List.all_eq_true.mp hv c (by rw[h];simp);have hf:=U6 hc;have w1:wrap64 ((p.length:Int)+1)=(p.length:Int)+1:=aQ (by omega) (by omega);have hv:=ih (p++[c]) (acc++CY c) (by rw[h];simp) (by simp only[List.length_append,List.length_singleton];omega);rw[kS,List.map_append]at hv;refine vc ?_;simp only[jE.l0,List.length_map,e1,w1];clear w1;exact vp (by omega) (vp (by omega) (vb (TP c hc) (vp (by simp only[List.length_map];omega) (vq hv (by simp)))))
theorem Qs(ls:List (Str×Str))(hs:small ls)(hn:ls.length≤1048576):Ev (fun k=>jE.f k (ls.map vW)) (if fvs ls=true then((folds ls).map aT,true)else([],false)):=by
 unfold jE.f;refine vb (vs _) (vb (EK ls hs hn) ?_)
 cases e:fvs ls with
 |false=>exact vn (by simp) (vs _)
 |true=>
  unfold fvs at e;simp only[Bool.and_eq_true,decide_eq_true_iff]at e;exact vp rfl (NW ls e.2 e.1 ls [] [] rfl (by simp))
def ctype:Str:=[67,111,110,116,101,110,116,45,84,121,112,101]
def bF(fs:List (Str×Str)):Str×Bool:=match pk (DL fs ctype).1 with
 |none=>([],false)
 |some x=>Wh x.1 x.2.1 x.2.2
theorem aaP:(⟨#[67,111,110,116,101,110,116,45,84,121,112,101]⟩:ByteArray)=aT ctype:=rfl
theorem TQ{fs:List (Str×Str)}(h:(bF fs).2=true):FH (bF fs).1=true:=by
 unfold bF at h⊢
 cases e:pk (DL fs ctype).1 with
 |none=>rw[e]at h;cases h
 |some x=>
  rw[e]at h;simp only at h⊢;unfold Wh at h⊢;by_cases c:zJ x.1 x.2.1 x.2.2=true∧x.1=multi∧FH (DL x.2.2 bnd).1=true
  ·rw[if_pos c];exact c.2.2
  ·rw[if_neg c]at h;cases h
theorem azN:pk []=none:=by decide
theorem NY{l:Str}(h:isSmall l=true):l.length≤30:=by
 unfold isSmall at h;rw[Bool.and_eq_true]at h;exact aei h.1
end Go.Proofs.YtdkipechiaploaaGreatDoor.Pure
