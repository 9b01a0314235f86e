/- Plain lemmas on strings as lists of bytes and on rounds, for the pure laws of this seat; no condition. -/
import Derived.Test.YtdimppdlfgnhgaaGreatDoorVFnExactParsePartWords
import Derived.Test.YtdimppdlfgnhgaaGreatDoorVFnExactParsePartLast
namespace Go.Proofs.YtdimppdlfgnhgaaGreatDoor.Z
open Go.RowKit Go.Proofs.YtdimppdlfgnhgaaGreatDoorW.eP Go.Proofs.YtdimppdlfgnhgaaGreatDoorW.lF
set_option linter.unusedVariables false
set_option linter.unusedSimpArgs false
abbrev Str:=List UInt8
def L(s:ByteArray):Str:=s.data.toList
def bP(l:Str):ByteArray:=⟨l.toArray⟩
def zn(l:Str):List Int:=l.map fun b=>(b.toNat:Int)
theorem aan(l:Str):L (bP l)=l:=rfl
theorem anz(s:ByteArray):bP (L s)=s:=rfl
theorem YU(s:ByteArray):s.size=(L s).length:=by
 unfold L;rw[Array.length_toList];rfl
theorem avf{s t:ByteArray}(h:L s=L t):s=t:=by
 rw[←anz s,←anz t,h]
theorem aok(s t:ByteArray):L (s++t)=L s++L t:=by
 unfold L;rw[ByteArray.data_append,Array.toList_append]
theorem oZ(a b:Str):bP a++bP b=bP (a++b):=avf (by rw[aok,aan,aan,aan])
theorem aZ(l:Str):(bP l).size=l.length:=by rw[YU,aan]
theorem ad4(s:ByteArray)(n:Nat):∀(i:Nat) (r:Str),s.size-i=n→ByteArray.toList.loop s i r=r.reverse++(L s).drop i:=by
 induction n with
 |zero=>
  intro i r h;have hs:=YU s;unfold ByteArray.toList.loop;rw[if_neg (by omega),List.drop_eq_nil_of_le (by omega),List.append_nil]
 |succ n ih=>
  intro i r h;have hs:=YU s;unfold ByteArray.toList.loop;have hl:i<(L s).length:=by omega
  have h0:i<s.size:=by omega
  rw[if_pos (by omega),ih _ _ (by omega)]
  have:s.get! i=(L s)[i]:=by
   cases s with
   |mk d=>
    have hi:i<d.size:=h0
    show d[i]! =d.toList[i]
    rw[getElem!_pos d i hi];simp
  rw[this,List.reverse_cons,List.append_assoc,List.singleton_append];exact congrArg _ (List.drop_eq_getElem_cons hl).symm
theorem aol(s:ByteArray):s.toList=L s:=by
 unfold ByteArray.toList;rw[ad4 s (s.size) 0 [] (by omega)];rfl
theorem jL(l:Str):(bP l).toList=l:=by rw[aol,aan]
theorem VO(l:Str):bytesOf (bP l)=zn l:=rfl
theorem Om(a b:Str):zn (a++b)=zn a++zn b:=by unfold zn;rw[List.map_append]
theorem Va(a:Str):(zn a).length=a.length:=by unfold zn;rw[List.length_map]
theorem BL(l:Str):strOfNums (zn l)=bP l:=by
 unfold strOfNums zn bP;rw[List.map_map]
 congr 2
 have:∀l:Str,l.map ((fun n:Int=>UInt8.ofNat n.toNat)∘fun b:UInt8=>(b.toNat:Int))=l:=by
  intro l;induction l with
  |nil=>rfl
  |cons c r ih=>rw[List.map_cons,ih];simp
 exact this l
theorem ayy(s:ByteArray)(i:Nat)(h:i<(L s).length):bt s (i:Int)=(((L s)[i]).toNat:Int):=by
 have hs:=YU s;have h':(i:Int).toNat<s.size:=by simpa [hs] using h
 rw[←vK s i h'];rfl
theorem Y3{s:ByteArray}{p r:Str}{c:UInt8}(h:L s=p++c:: r):bt s (p.length:Int)=(c.toNat:Int):=by
 rw[ayy s p.length (by rw[h];simp)];simp[h]
theorem b_{x:Int}(h0:-9223372036854775808≤x)(h1:x≤9223372036854775807):wrap64 x=x:=by
 unfold wrap64;omega
theorem yK(c:UInt8)(n:Nat)(h:n<256):((c.toNat:Int)=(n:Int))↔c=UInt8.ofNat n:=by
 constructor
 ·intro e;apply UInt8.toNat_inj.mp;rw[UInt8.toNat_ofNat'];omega
 ·intro e;subst e;rw[UInt8.toNat_ofNat'];omega
theorem afO(a:Array UInt8):(⟨a⟩:ByteArray)=bP a.toList:=rfl
theorem YO(l:Str):l.toArray.toList=l:=rfl
theorem lX(l:Str)(i j:Nat):(bP l).extract i j=bP ((l.drop i).take (j-i)):=by
 apply avf;rw[aan];unfold L bP;rw[ByteArray.data_extract];simp[List.extract_eq_take_drop]
theorem aic(c:UInt8)(r:Str):bt (bP (c:: r)) 0=(c.toNat:Int):=Y3 (s:=bP (c:: r)) (p:=[]) rfl
theorem afJ(p r:Str)(c:UInt8):bt (bP (p++c:: r)) (p.length:Int)=(c.toNat:Int):=Y3 (s:=bP (p++c:: r)) rfl
theorem adQ{α:Type}(d:α)(p r:List α)(c:α):f_ d (p++c:: r) (p.length:Int)=c:=by
 unfold f_;rw[List.getD_eq_getElem?_getD];simp
theorem aDU(c:UInt8)(n:Nat)(h:n<256):((c.toNat:Int)<(n:Int))↔c<UInt8.ofNat n:=by
 rw[UInt8.lt_iff_toNat_lt,UInt8.toNat_ofNat'];omega
theorem jF{α:Type}(p:List α)(c:α):(((p++[c]).length:Nat):Int)=(p.length:Int)+1:=by rw[List.length_append];rfl
theorem vs{α:Type}(r:α):Ev (fun _=>some r) r:=Ev.now r
theorem vb{α β:Type}{g:Nat→Option α}{f:Nat→α→Option β}{a:α}{r:β}(h:Ev g a)(k:Ev (fun n=>f n a) r):Ev (fun n=>(g n).bind (f n)) r:=Ev.bind h k
theorem kW{α β:Type}{g:Option α}{f:Nat→α→Option β}{a:α}{r:β}(h:g=some a)(k:Ev (fun n=>f n a) r):Ev (fun n=>g.bind (f n)) r:=by
 subst h;exact k
theorem vq{α:Type}{g:Nat→Option α}{r r':α}(h:Ev g r)(e:r=r'):Ev g r':=e▸h
theorem vp{α:Type}{c:Prop} [Decidable c]{g f:Nat→Option α}{r:α}(hc:c)(h:Ev g r):Ev (fun n=>if c then g n else f n) r:=by
 simp only[if_pos hc];exact h
theorem vn{α:Type}{c:Prop} [Decidable c]{g f:Nat→Option α}{r:α}(hc:¬c)(h:Ev f r):Ev (fun n=>if c then g n else f n) r:=by
 simp only[if_neg hc];exact h
theorem vc{α:Type}{g:Nat→Option α}{r:α}(k:Ev (fun k=>g (k+1)) r):Ev g r:=Ev.step (fun _=>rfl) k
def run{σ α R:Type}(st:σ→α→R ⊕ σ)(fin:σ→R):List α→σ→R
 |[],s=>fin s
 |c:: r,s=>match st s c with
  | .inl v=>v
  | .inr s'=>run st fin r s'
theorem ayz{σ α R:Type}{xs:List α}{F:Nat→σ→Int→Option R}{st:σ→α→R ⊕ σ}{fin:σ→R}(Inv:List α→σ→Prop)
  (hstep:∀p c r s,xs=p++c:: r→Inv p s→(∀v,st s c= .inl v→Ev (fun k=>F (k+1) s (p.length:Int)) v)∧(∀s',st s c= .inr s'→Inv (p++[c]) s'∧∀v,Ev (fun k=>F k s' ((p.length:Int)+1)) v→Ev (fun k=>F (k+1) s (p.length:Int)) v))
  (hend:∀s,Inv xs s→Ev (fun k=>F (k+1) s (xs.length:Int)) (fin s)):
  ∀(r p:List α) (s:σ),xs=p++r→Inv p s→Ev (fun k=>F k s (p.length:Int)) (run st fin r s):=by
 intro r
 induction r with
 |nil=>
  intro p s h hi;rw[List.append_nil]at h;subst h;exact vc (hend s hi)
 |cons c r ih=>
  intro p s h hi;obtain⟨h1,h2⟩:=hstep p c r s h hi;refine vc ?_;unfold run
  cases e:st s c with
  |inl v=>exact h1 v e
  |inr s'=>
   obtain⟨h3,h4⟩:=h2 s' e;refine h4 _ ?_;have:=ih (p++[c]) s' (by rw[h];simp) h3;rw[jF]at this;exact this
theorem nN{σ α R:Type}{xs:List α}{F:Nat→σ→Int→Option R}{st:σ→α→R ⊕ σ}{fin:σ→R}(Inv:List α→σ→Prop){s:σ}(h0:Inv [] s)
  (hstep:∀p c r s,xs=p++c:: r→Inv p s→(∀v,st s c= .inl v→Ev (fun k=>F (k+1) s (p.length:Int)) v)∧(∀s',st s c= .inr s'→Inv (p++[c]) s'∧∀v,Ev (fun k=>F k s' ((p.length:Int)+1)) v→Ev (fun k=>F (k+1) s (p.length:Int)) v))
  (hend:∀s,Inv xs s→Ev (fun k=>F (k+1) s (xs.length:Int)) (fin s)):Ev (fun k=>F k s 0) (run st fin xs s):=ayz Inv hstep hend xs [] s rfl h0
theorem nX{ls p r:List Str}{c:Str}(h:ls=p++c:: r):f_ ByteArray.empty (ls.map bP) (p.length:Int)=bP c:=by
 have:=adQ ByteArray.empty (p.map bP) (r.map bP) (bP c);rw[List.length_map]at this;rw[h,List.map_append,List.map_cons];exact this
theorem iC{α:Type}{ls p r:List α}{c:α}(h:ls=p++c:: r):ls.length=p.length+r.length+1:=by
 rw[h,List.length_append,List.length_cons];omega
theorem kX{l p r:Str}{c:UInt8}(h:l=p++c:: r):bt (bP l) (p.length:Int)=(c.toNat:Int):=by rw[h];exact afJ p r c
end Go.Proofs.YtdimppdlfgnhgaaGreatDoor.Z
