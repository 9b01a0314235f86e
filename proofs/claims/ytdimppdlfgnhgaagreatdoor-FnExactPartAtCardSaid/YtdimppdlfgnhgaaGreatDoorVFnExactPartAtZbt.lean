/- Plain lemmas on strings as lists of bytes and on rounds, for the pure laws of this seat; no condition. -/
import Derived.Test.YtdimppdlfgnhgaaGreatDoorVFnExactPartAtWords
import Derived.Test.YtdimppdlfgnhgaaGreatDoorVFnExactPartAtLast
namespace Go.Proofs.YtdimppdlfgnhgaaGreatDoor.Z
open Go.RowKit Go.Proofs.YtdimppdlfgnhgaaGreatDoorW.fD Go.Proofs.YtdimppdlfgnhgaaGreatDoorW.mZ
set_option linter.unusedVariables false
set_option linter.unusedSimpArgs false
abbrev Str:=List UInt8
def L(s:ByteArray):Str:=s.data.toList
def dK(l:Str):ByteArray:=⟨l.toArray⟩
def zn(l:Str):List Int:=l.map fun b=>(b.toNat:Int)
theorem aal(l:Str):L (dK l)=l:=rfl
theorem anw(s:ByteArray):dK (L s)=s:=rfl
theorem OH(s:ByteArray):s.size=(L s).length:=by
 unfold L;rw[Array.length_toList];rfl
theorem aud{s t:ByteArray}(h:L s=L t):s=t:=by
 rw[←anw s,←anw t,h]
theorem aoh(s t:ByteArray):L (s++t)=L s++L t:=by
 unfold L;rw[ByteArray.data_append,Array.toList_append]
theorem qP(a b:Str):dK a++dK b=dK (a++b):=aud (by rw[aoh,aal,aal,aal])
theorem aZ(l:Str):(dK l).size=l.length:=by rw[OH,aal]
theorem ad8(s:ByteArray)(n:Nat):∀(i:Nat) (r:Str),s.size-i=n→ByteArray.toList.loop s i r=r.reverse++(L s).drop i:=by
 induction n with
 |zero=>
  intro i r h;have hs:=OH s;unfold ByteArray.toList.loop;rw[if_neg (by omega),List.drop_eq_nil_of_le (by omega),List.append_nil]
 |succ n ih=>
  intro i r h;have hs:=OH s;unfold ByteArray.toList.loop;have hl:i<(L s).length:=by omega
  have h0:i<s.size:=by omega
  rw[if_pos (by omega),ih _ _ (by omega)]
  have:s.get! i=(L s)[i]:=by
   cases s with
   |mk d=>
    have hi:i<d.size:=h0
    show d[i]! =d.toList[i]
    rw[getElem!_pos d i hi];simp
  rw[this,List.reverse_cons,List.append_assoc,List.singleton_append];exact congrArg _ (List.drop_eq_getElem_cons hl).symm
theorem aoi(s:ByteArray):s.toList=L s:=by
 unfold ByteArray.toList;rw[ad8 s (s.size) 0 [] (by omega)];rfl
theorem oD(l:Str):(dK l).toList=l:=by rw[aoi,aal]
theorem UU(l:Str):bytesOf (dK l)=zn l:=rfl
theorem MQ(a b:Str):zn (a++b)=zn a++zn b:=by unfold zn;rw[List.map_append]
theorem TU(a:Str):(zn a).length=a.length:=by unfold zn;rw[List.length_map]
theorem Af(l:Str):strOfNums (zn l)=dK l:=by
 unfold strOfNums zn dK;rw[List.map_map]
 congr 2
 have:∀l:Str,l.map ((fun n:Int=>UInt8.ofNat n.toNat)∘fun b:UInt8=>(b.toNat:Int))=l:=by
  intro l;induction l with
  |nil=>rfl
  |cons c r ih=>rw[List.map_cons,ih];simp
 exact this l
theorem axB(s:ByteArray)(i:Nat)(h:i<(L s).length):bt s (i:Int)=(((L s)[i]).toNat:Int):=by
 have hs:=OH s;have h':(i:Int).toNat<s.size:=by simpa [hs] using h
 rw[←xI s i h'];rfl
theorem YI{s:ByteArray}{p r:Str}{c:UInt8}(h:L s=p++c:: r):bt s (p.length:Int)=(c.toNat:Int):=by
 rw[axB s p.length (by rw[h];simp)];simp[h]
theorem bQ{x:Int}(h0:-9223372036854775808≤x)(h1:x≤9223372036854775807):wrap64 x=x:=by
 unfold wrap64;omega
theorem yP(c:UInt8)(n:Nat)(h:n<256):((c.toNat:Int)=(n:Int))↔c=UInt8.ofNat n:=by
 constructor
 ·intro e;apply UInt8.toNat_inj.mp;rw[UInt8.toNat_ofNat'];omega
 ·intro e;subst e;rw[UInt8.toNat_ofNat'];omega
theorem afP(a:Array UInt8):(⟨a⟩:ByteArray)=dK a.toList:=rfl
theorem Yr(l:Str):l.toArray.toList=l:=rfl
theorem nR(l:Str)(i j:Nat):(dK l).extract i j=dK ((l.drop i).take (j-i)):=by
 apply aud;rw[aal];unfold L dK;rw[ByteArray.data_extract];simp[List.extract_eq_take_drop]
theorem aiv(c:UInt8)(r:Str):bt (dK (c:: r)) 0=(c.toNat:Int):=YI (s:=dK (c:: r)) (p:=[]) rfl
theorem afK(p r:Str)(c:UInt8):bt (dK (p++c:: r)) (p.length:Int)=(c.toNat:Int):=YI (s:=dK (p++c:: r)) rfl
theorem adV{α:Type}(d:α)(p r:List α)(c:α):o8 d (p++c:: r) (p.length:Int)=c:=by
 unfold o8;rw[List.getD_eq_getElem?_getD];simp
theorem anR(p r:List Int)(c:Int):rd (p++c:: r) (p.length:Int)=c:=by
 unfold rd;rw[List.getD_eq_getElem?_getD];simp
theorem aBZ(c:UInt8)(n:Nat)(h:n<256):((c.toNat:Int)<(n:Int))↔c<UInt8.ofNat n:=by
 rw[UInt8.lt_iff_toNat_lt,UInt8.toNat_ofNat'];omega
theorem jD{α:Type}(p:List α)(c:α):(((p++[c]).length:Nat):Int)=(p.length:Int)+1:=by rw[List.length_append];rfl
theorem vs{α:Type}(r:α):Ev (fun _=>some r) r:=Ev.now r
theorem vb{α β:Type}{g:Nat→Option α}{f:Nat→α→Option β}{a:α}{r:β}(h:Ev g a)(k:Ev (fun n=>f n a) r):Ev (fun n=>(g n).bind (f n)) r:=Ev.bind h k
theorem kK{α β:Type}{g:Option α}{f:Nat→α→Option β}{a:α}{r:β}(h:g=some a)(k:Ev (fun n=>f n a) r):Ev (fun n=>g.bind (f n)) r:=by
 subst h;exact k
theorem vq{α:Type}{g:Nat→Option α}{r r':α}(h:Ev g r)(e:r=r'):Ev g r':=e▸h
theorem vp{α:Type}{c:Prop} [Decidable c]{g f:Nat→Option α}{r:α}(hc:c)(h:Ev g r):Ev (fun n=>if c then g n else f n) r:=by
 simp only[if_pos hc];exact h
theorem vn{α:Type}{c:Prop} [Decidable c]{g f:Nat→Option α}{r:α}(hc:¬c)(h:Ev f r):Ev (fun n=>if c then g n else f n) r:=by
 simp only[if_neg hc];exact h
theorem vc{α:Type}{g:Nat→Option α}{r:α}(k:Ev (fun k=>g (k+1)) r):Ev g r:=Ev.step (fun _=>rfl) k
def run{σ α R:Type}(st:σ→α→R ⊕ σ)(fin:σ→R):List α→σ→R
 |[],s=>fin s
 |c:: r,s=>match st s c with
  | .inl v=>v
  | .inr s'=>run st fin r s'
theorem axC{σ α R:Type}{xs:List α}{F:Nat→σ→Int→Option R}{st:σ→α→R ⊕ σ}{fin:σ→R}(Inv:List α→σ→Prop)
  (hstep:∀p c r s,xs=p++c:: r→Inv p s→(∀v,st s c= .inl v→Ev (fun k=>F (k+1) s (p.length:Int)) v)∧(∀s',st s c= .inr s'→Inv (p++[c]) s'∧∀v,Ev (fun k=>F k s' ((p.length:Int)+1)) v→Ev (fun k=>F (k+1) s (p.length:Int)) v))
  (hend:∀s,Inv xs s→Ev (fun k=>F (k+1) s (xs.length:Int)) (fin s)):
  ∀(r p:List α) (s:σ),xs=p++r→Inv p s→Ev (fun k=>F k s (p.length:Int)) (run st fin r s):=by
 intro r
 induction r with
 |nil=>
  intro p s h hi;rw[List.append_nil]at h;subst h;exact vc (hend s hi)
 |cons c r ih=>
  intro p s h hi;obtain⟨h1,h2⟩:=hstep p c r s h hi;refine vc ?_;unfold run
  cases e:st s c with
  |inl v=>exact h1 v e
  |inr s'=>
   obtain⟨h3,h4⟩:=h2 s' e;refine h4 _ ?_;have:=ih (p++[c]) s' (by rw[h];simp) h3;rw[jD]at this;exact this
theorem pU{σ α R:Type}{xs:List α}{F:Nat→σ→Int→Option R}{st:σ→α→R ⊕ σ}{fin:σ→R}(Inv:List α→σ→Prop){s:σ}(h0:Inv [] s)
  (hstep:∀p c r s,xs=p++c:: r→Inv p s→(∀v,st s c= .inl v→Ev (fun k=>F (k+1) s (p.length:Int)) v)∧(∀s',st s c= .inr s'→Inv (p++[c]) s'∧∀v,Ev (fun k=>F k s' ((p.length:Int)+1)) v→Ev (fun k=>F (k+1) s (p.length:Int)) v))
  (hend:∀s,Inv xs s→Ev (fun k=>F (k+1) s (xs.length:Int)) (fin s)):Ev (fun k=>F k s 0) (run st fin xs s):=axC Inv hstep hend xs [] s rfl h0
theorem yh{ls p r:List Str}{c:Str}(h:ls=p++c:: r):o8 ByteArray.empty (ls.map dK) (p.length:Int)=dK c:=by
 have:=adV ByteArray.empty (p.map dK) (r.map dK) (dK c);rw[List.length_map]at this;rw[h,List.map_append,List.map_cons];exact this
theorem iI{α:Type}{ls p r:List α}{c:α}(h:ls=p++c:: r):ls.length=p.length+r.length+1:=by
 rw[h,List.length_append,List.length_cons];omega
theorem lG{l p r:Str}{c:UInt8}(h:l=p++c:: r):bt (dK l) (p.length:Int)=(c.toNat:Int):=by rw[h];exact afK p r c
end Go.Proofs.YtdimppdlfgnhgaaGreatDoor.Z
