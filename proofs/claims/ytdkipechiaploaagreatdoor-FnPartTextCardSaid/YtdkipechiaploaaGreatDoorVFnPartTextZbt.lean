/- Plain lemmas on strings as lists of bytes and on rounds, for the pure laws of this seat; no condition. -/
import Derived.Test.YtdkipechiaploaaGreatDoorVFnPartTextWords
import Derived.Test.YtdkipechiaploaaGreatDoorVFnPartTextLast
namespace Go.Proofs.YtdkipechiaploaaGreatDoor.Z
open Go.RowKit Go.Proofs.YtdkipechiaploaaGreatDoorW.dZ Go.Proofs.YtdkipechiaploaaGreatDoorW.nK
set_option linter.unusedVariables false
set_option linter.unusedSimpArgs false
abbrev Str:=List UInt8
def L(s:ByteArray):Str:=s.data.toList
def aT(l:Str):ByteArray:=⟨l.toArray⟩
def zn(l:Str):List Int:=l.map fun b=>(b.toNat:Int)
theorem aa5(l:Str):L (aT l)=l:=rfl
theorem apj(s:ByteArray):aT (L s)=s:=rfl
theorem Qw(s:ByteArray):s.size=(L s).length:=by
 unfold L;rw[Array.length_toList];rfl
theorem awe{s t:ByteArray}(h:L s=L t):s=t:=by
 rw[←apj s,←apj t,h]
theorem ap1(s t:ByteArray):L (s++t)=L s++L t:=by
 unfold L;rw[ByteArray.data_append,Array.toList_append]
theorem kV(a b:Str):aT a++aT b=aT (a++b):=awe (by rw[ap1,aa5,aa5,aa5])
theorem ay(l:Str):(aT l).size=l.length:=by rw[Qw,aa5]
theorem aeU(s:ByteArray)(n:Nat):∀(i:Nat) (r:Str),s.size-i=n→ByteArray.toList.loop s i r=r.reverse++(L s).drop i:=by
 induction n with
 |zero=>
  intro i r h;have hs:=Qw s;unfold ByteArray.toList.loop;rw[if_neg (by omega),List.drop_eq_nil_of_le (by omega),List.append_nil]
 |succ n ih=>
  intro i r h;have hs:=Qw s;unfold ByteArray.toList.loop;have hl:i<(L s).length:=by omega
  have h0:i<s.size:=by omega
  rw[if_pos (by omega),ih _ _ (by omega)]
  have:s.get! i=(L s)[i]:=by
   cases s with
   |mk d=>
    have hi:i<d.size:=h0
    show d[i]! =d.toList[i]
    rw[getElem!_pos d i hi];simp
  rw[this,List.reverse_cons,List.append_assoc,List.singleton_append];exact congrArg _ (List.drop_eq_getElem_cons hl).symm
theorem ap2(s:ByteArray):s.toList=L s:=by
 unfold ByteArray.toList;rw[aeU s (s.size) 0 [] (by omega)];rfl
theorem jv(l:Str):(aT l).toList=l:=by rw[ap2,aa5]
theorem VL(l:Str):bytesOf (aT l)=zn l:=rfl
theorem OH(a b:Str):zn (a++b)=zn a++zn b:=by unfold zn;rw[List.map_append]
theorem UW(a:Str):(zn a).length=a.length:=by unfold zn;rw[List.length_map]
theorem CW(l:Str):strOfNums (zn l)=aT l:=by
 unfold strOfNums zn aT;rw[List.map_map]
 congr 2
 have:∀l:Str,l.map ((fun n:Int=>UInt8.ofNat n.toNat)∘fun b:UInt8=>(b.toNat:Int))=l:=by
  intro l;induction l with
  |nil=>rfl
  |cons c r ih=>rw[List.map_cons,ih];simp
 exact this l
theorem ap3(s:ByteArray)(i:Nat)(h:i<(L s).length):bt s (i:Int)=(((L s)[i]).toNat:Int):=by
 have hs:=Qw s;have h':(i:Int).toNat<s.size:=by simpa [hs] using h
 rw[←wY s i h'];rfl
theorem ZA{s:ByteArray}{p r:Str}{c:UInt8}(h:L s=p++c:: r):bt s (p.length:Int)=(c.toNat:Int):=by
 rw[ap3 s p.length (by rw[h];simp)];simp[h]
theorem aQ{x:Int}(h0:-9223372036854775808≤x)(h1:x≤9223372036854775807):wrap64 x=x:=by
 unfold wrap64;omega
theorem Aa(c:UInt8)(n:Nat)(h:n<256):((c.toNat:Int)=(n:Int))↔c=UInt8.ofNat n:=by
 constructor
 ·intro e;apply UInt8.toNat_inj.mp;rw[UInt8.toNat_ofNat'];omega
 ·intro e;subst e;rw[UInt8.toNat_ofNat'];omega
theorem apd(a:Array UInt8):(⟨a⟩:ByteArray)=aT a.toList:=rfl
theorem aew(l:Str):l.toArray.toList=l:=rfl
theorem jL(l:Str)(i j:Nat):(aT l).extract i j=aT ((l.drop i).take (j-i)):=by
 apply awe;rw[aa5];unfold L aT;rw[ByteArray.data_extract];simp[List.extract_eq_take_drop]
theorem azR(l:Str)(i:Nat)(h:i<l.length):bt (aT l) (i:Int)=((l[i]).toNat:Int):=ap3 (aT l) i h
theorem aiM(c:UInt8)(r:Str):bt (aT (c:: r)) 0=(c.toNat:Int):=ZA (s:=aT (c:: r)) (p:=[]) rfl
theorem agn(p r:Str)(c:UInt8):bt (aT (p++c:: r)) (p.length:Int)=(c.toNat:Int):=ZA (s:=aT (p++c:: r)) rfl
theorem ap4{α:Type}(d:α)(p r:List α)(c:α):iw d (p++c:: r) (p.length:Int)=c:=by
 unfold iw;rw[List.getD_eq_getElem?_getD];simp
theorem aIq(c:UInt8)(n:Nat)(h:n<256):((c.toNat:Int)<(n:Int))↔c<UInt8.ofNat n:=by
 rw[UInt8.lt_iff_toNat_lt,UInt8.toNat_ofNat'];omega
theorem kS{α:Type}(p:List α)(c:α):(((p++[c]).length:Nat):Int)=(p.length:Int)+1:=by rw[List.length_append];rfl
theorem vs{α:Type}(r:α):Ev (fun _=>some r) r:=Ev.now r
theorem vb{α β:Type}{g:Nat→Option α}{f:Nat→α→Option β}{a:α}{r:β}(h:Ev g a)(k:Ev (fun n=>f n a) r):Ev (fun n=>(g n).bind (f n)) r:=Ev.bind h k
theorem jD{α β:Type}{g:Option α}{f:Nat→α→Option β}{a:α}{r:β}(h:g=some a)(k:Ev (fun n=>f n a) r):Ev (fun n=>g.bind (f n)) r:=by
 subst h;exact k
theorem vq{α:Type}{g:Nat→Option α}{r r':α}(h:Ev g r)(e:r=r'):Ev g r':=e▸h
theorem vp{α:Type}{c:Prop} [Decidable c]{g f:Nat→Option α}{r:α}(hc:c)(h:Ev g r):Ev (fun n=>if c then g n else f n) r:=by
 simp only[if_pos hc];exact h
theorem vn{α:Type}{c:Prop} [Decidable c]{g f:Nat→Option α}{r:α}(hc:¬c)(h:Ev f r):Ev (fun n=>if c then g n else f n) r:=by
 simp only[if_neg hc];exact h
theorem vc{α:Type}{g:Nat→Option α}{r:α}(k:Ev (fun k=>g (k+1)) r):Ev g r:=Ev.step (fun _=>rfl) k
def run{σ α R:Type}(st:σ→α→R ⊕ σ)(fin:σ→R):List α→σ→R
 |[],s=>fin s
 |c:: r,s=>match st s c with
  | .inl v=>v
  | .inr s'=>run st fin r s'
theorem aAc{σ α R:Type}{xs:List α}{F:Nat→σ→Int→Option R}{st:σ→α→R ⊕ σ}{fin:σ→R}(Inv:List α→σ→Prop)
  (hstep:∀p c r s,xs=p++c:: r→Inv p s→(∀v,st s c= .inl v→Ev (fun k=>F (k+1) s (p.length:Int)) v)∧(∀s',st s c= .inr s'→Inv (p++[c]) s'∧∀v,Ev (fun k=>F k s' ((p.length:Int)+1)) v→Ev (fun k=>F (k+1) s (p.length:Int)) v))
  (hend:∀s,Inv xs s→Ev (fun k=>F (k+1) s (xs.length:Int)) (fin s)):
  ∀(r p:List α) (s:σ),xs=p++r→Inv p s→Ev (fun k=>F k s (p.length:Int)) (run st fin r s):=by
 intro r
 induction r with
 |nil=>
  intro p s h hi;rw[List.append_nil]at h;subst h;exact vc (hend s hi)
 |cons c r ih=>
  intro p s h hi;obtain⟨h1,h2⟩:=hstep p c r s h hi;refine vc ?_;unfold run
  cases e:st s c with
  |inl v=>exact h1 v e
  |inr s'=>
   obtain⟨h3,h4⟩:=h2 s' e;refine h4 _ ?_;have:=ih (p++[c]) s' (by rw[h];simp) h3;rw[kS]at this;exact this
theorem oD{σ α R:Type}{xs:List α}{F:Nat→σ→Int→Option R}{st:σ→α→R ⊕ σ}{fin:σ→R}(Inv:List α→σ→Prop){s:σ}(h0:Inv [] s)
  (hstep:∀p c r s,xs=p++c:: r→Inv p s→(∀v,st s c= .inl v→Ev (fun k=>F (k+1) s (p.length:Int)) v)∧(∀s',st s c= .inr s'→Inv (p++[c]) s'∧∀v,Ev (fun k=>F k s' ((p.length:Int)+1)) v→Ev (fun k=>F (k+1) s (p.length:Int)) v))
  (hend:∀s,Inv xs s→Ev (fun k=>F (k+1) s (xs.length:Int)) (fin s)):Ev (fun k=>F k s 0) (run st fin xs s):=aAc Inv hstep hend xs [] s rfl h0
theorem nX{ls p r:List Str}{c:Str}(h:ls=p++c:: r):iw ByteArray.empty (ls.map aT) (p.length:Int)=aT c:=by
 have:=ap4 ByteArray.empty (p.map aT) (r.map aT) (aT c);rw[List.length_map]at this;rw[h,List.map_append,List.map_cons];exact this
theorem gZ{α:Type}{ls p r:List α}{c:α}(h:ls=p++c:: r):ls.length=p.length+r.length+1:=by
 rw[h,List.length_append,List.length_cons];omega
theorem ku{l p r:Str}{c:UInt8}(h:l=p++c:: r):bt (aT l) (p.length:Int)=(c.toNat:Int):=by rw[h];exact agn p r c
end Go.Proofs.YtdkipechiaploaaGreatDoor.Z
