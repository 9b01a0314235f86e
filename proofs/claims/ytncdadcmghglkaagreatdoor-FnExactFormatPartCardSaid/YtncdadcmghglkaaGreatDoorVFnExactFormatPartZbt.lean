/- Plain lemmas on strings as lists of bytes and on rounds, for the pure laws of this seat; no condition. -/
import Derived.Test.YtncdadcmghglkaaGreatDoorVFnExactFormatPartWords
import Derived.Test.YtncdadcmghglkaaGreatDoorVFnExactFormatPartLast
namespace Go.Proofs.YtncdadcmghglkaaGreatDoor.Z
open Go.RowKit Go.Proofs.YtncdadcmghglkaaGreatDoorW.dB Go.Proofs.YtncdadcmghglkaaGreatDoorW.iy
set_option linter.unusedVariables false
set_option linter.unusedSimpArgs false
abbrev Str:=List UInt8
def L(s:ByteArray):Str:=s.data.toList
def b_(l:Str):ByteArray:=⟨l.toArray⟩
def zn(l:Str):List Int:=l.map fun b=>(b.toNat:Int)
theorem SN(l:Str):L (b_ l)=l:=rfl
theorem afh(s:ByteArray):b_ (L s)=s:=rfl
theorem Iq(s:ByteArray):s.size=(L s).length:=by
 unfold L;rw[Array.length_toList];rfl
theorem akx{s t:ByteArray}(h:L s=L t):s=t:=by
 rw[←afh s,←afh t,h]
theorem afW(s t:ByteArray):L (s++t)=L s++L t:=by
 unfold L;rw[ByteArray.data_append,Array.toList_append]
theorem nV(a b:Str):b_ a++b_ b=b_ (a++b):=akx (by rw[afW,SN,SN,SN])
theorem aV(l:Str):(b_ l).size=l.length:=by rw[Iq,SN]
theorem Xb(s:ByteArray)(n:Nat):∀(i:Nat) (r:Str),s.size-i=n→ByteArray.toList.loop s i r=r.reverse++(L s).drop i:=by
 induction n with
 |zero=>
  intro i r h;have hs:=Iq s;unfold ByteArray.toList.loop;rw[if_neg (by omega),List.drop_eq_nil_of_le (by omega),List.append_nil]
 |succ n ih=>
  intro i r h;have hs:=Iq s;unfold ByteArray.toList.loop;have hl:i<(L s).length:=by omega
  have h0:i<s.size:=by omega
  rw[if_pos (by omega),ih _ _ (by omega)]
  have:s.get! i=(L s)[i]:=by
   cases s with
   |mk d=>
    have hi:i<d.size:=h0
    show d[i]! =d.toList[i]
    rw[getElem!_pos d i hi];simp
  rw[this,List.reverse_cons,List.append_assoc,List.singleton_append];exact congrArg _ (List.drop_eq_getElem_cons hl).symm
theorem afX(s:ByteArray):s.toList=L s:=by
 unfold ByteArray.toList;rw[Xb s (s.size) 0 [] (by omega)];rfl
theorem lD(l:Str):(b_ l).toList=l:=by rw[afX,SN]
theorem MS(l:Str):bytesOf (b_ l)=zn l:=rfl
theorem Gq(a b:Str):zn (a++b)=zn a++zn b:=by unfold zn;rw[List.map_append]
theorem LP(a:Str):(zn a).length=a.length:=by unfold zn;rw[List.length_map]
theorem wG(l:Str):strOfNums (zn l)=b_ l:=by
 unfold strOfNums zn b_;rw[List.map_map]
 congr 2
 have:∀l:Str,l.map ((fun n:Int=>UInt8.ofNat n.toNat)∘fun b:UInt8=>(b.toNat:Int))=l:=by
  intro l;induction l with
  |nil=>rfl
  |cons c r ih=>rw[List.map_cons,ih];simp
 exact this l
theorem anE(s:ByteArray)(i:Nat)(h:i<(L s).length):bt s (i:Int)=(((L s)[i]).toNat:Int):=by
 have hs:=Iq s;have h':(i:Int).toNat<s.size:=by simpa [hs] using h
 rw[←tY s i h'];rfl
theorem Qu{s:ByteArray}{p r:Str}{c:UInt8}(h:L s=p++c:: r):bt s (p.length:Int)=(c.toNat:Int):=by
 rw[anE s p.length (by rw[h];simp)];simp[h]
theorem dA{x:Int}(h0:-9223372036854775808≤x)(h1:x≤9223372036854775807):wrap64 x=x:=by
 unfold wrap64;omega
theorem uT(c:UInt8)(n:Nat)(h:n<256):((c.toNat:Int)=(n:Int))↔c=UInt8.ofNat n:=by
 constructor
 ·intro e;apply UInt8.toNat_inj.mp;rw[UInt8.toNat_ofNat'];omega
 ·intro e;subst e;rw[UInt8.toNat_ofNat'];omega
theorem YQ(a:Array UInt8):(⟨a⟩:ByteArray)=b_ a.toList:=rfl
theorem Qg(l:Str):l.toArray.toList=l:=rfl
theorem kU(l:Str)(i j:Nat):(b_ l).extract i j=b_ ((l.drop i).take (j-i)):=by
 apply akx;rw[SN];unfold L b_;rw[ByteArray.data_extract];simp[List.extract_eq_take_drop]
theorem aa8(c:UInt8)(r:Str):bt (b_ (c:: r)) 0=(c.toNat:Int):=Qu (s:=b_ (c:: r)) (p:=[]) rfl
theorem YL(p r:Str)(c:UInt8):bt (b_ (p++c:: r)) (p.length:Int)=(c.toNat:Int):=Qu (s:=b_ (p++c:: r)) rfl
theorem WW{α:Type}(d:α)(p r:List α)(c:α):kV d (p++c:: r) (p.length:Int)=c:=by
 unfold kV;rw[List.getD_eq_getElem?_getD];simp
theorem arB(c:UInt8)(n:Nat)(h:n<256):((c.toNat:Int)<(n:Int))↔c<UInt8.ofNat n:=by
 rw[UInt8.lt_iff_toNat_lt,UInt8.toNat_ofNat'];omega
theorem jA{α:Type}(p:List α)(c:α):(((p++[c]).length:Nat):Int)=(p.length:Int)+1:=by rw[List.length_append];rfl
theorem vs{α:Type}(r:α):Ev (fun _=>some r) r:=Ev.now r
theorem vb{α β:Type}{g:Nat→Option α}{f:Nat→α→Option β}{a:α}{r:β}(h:Ev g a)(k:Ev (fun n=>f n a) r):Ev (fun n=>(g n).bind (f n)) r:=Ev.bind h k
theorem jZ{α β:Type}{g:Option α}{f:Nat→α→Option β}{a:α}{r:β}(h:g=some a)(k:Ev (fun n=>f n a) r):Ev (fun n=>g.bind (f n)) r:=by
 subst h;exact k
theorem vq{α:Type}{g:Nat→Option α}{r r':α}(h:Ev g r)(e:r=r'):Ev g r':=e▸h
theorem vp{α:Type}{c:Prop} [Decidable c]{g f:Nat→Option α}{r:α}(hc:c)(h:Ev g r):Ev (fun n=>if c then g n else f n) r:=by
 simp only[if_pos hc];exact h
theorem vn{α:Type}{c:Prop} [Decidable c]{g f:Nat→Option α}{r:α}(hc:¬c)(h:Ev f r):Ev (fun n=>if c then g n else f n) r:=by
 simp only[if_neg hc];exact h
theorem vc{α:Type}{g:Nat→Option α}{r:α}(k:Ev (fun k=>g (k+1)) r):Ev g r:=Ev.step (fun _=>rfl) k
def run{σ α R:Type}(st:σ→α→R ⊕ σ)(fin:σ→R):List α→σ→R
 |[],s=>fin s
 |c:: r,s=>match st s c with
  | .inl v=>v
  | .inr s'=>run st fin r s'
theorem anF{σ α R:Type}{xs:List α}{F:Nat→σ→Int→Option R}{st:σ→α→R ⊕ σ}{fin:σ→R}(Inv:List α→σ→Prop)
  (hstep:∀p c r s,xs=p++c:: r→Inv p s→(∀v,st s c= .inl v→Ev (fun k=>F (k+1) s (p.length:Int)) v)∧(∀s',st s c= .inr s'→Inv (p++[c]) s'∧∀v,Ev (fun k=>F k s' ((p.length:Int)+1)) v→Ev (fun k=>F (k+1) s (p.length:Int)) v))
  (hend:∀s,Inv xs s→Ev (fun k=>F (k+1) s (xs.length:Int)) (fin s)):
  ∀(r p:List α) (s:σ),xs=p++r→Inv p s→Ev (fun k=>F k s (p.length:Int)) (run st fin r s):=by
 intro r
 induction r with
 |nil=>
  intro p s h hi;rw[List.append_nil]at h;subst h;exact vc (hend s hi)
 |cons c r ih=>
  intro p s h hi;obtain⟨h1,h2⟩:=hstep p c r s h hi;refine vc ?_;unfold run
  cases e:st s c with
  |inl v=>exact h1 v e
  |inr s'=>
   obtain⟨h3,h4⟩:=h2 s' e;refine h4 _ ?_;have:=ih (p++[c]) s' (by rw[h];simp) h3;rw[jA]at this;exact this
theorem ng{σ α R:Type}{xs:List α}{F:Nat→σ→Int→Option R}{st:σ→α→R ⊕ σ}{fin:σ→R}(Inv:List α→σ→Prop){s:σ}(h0:Inv [] s)
  (hstep:∀p c r s,xs=p++c:: r→Inv p s→(∀v,st s c= .inl v→Ev (fun k=>F (k+1) s (p.length:Int)) v)∧(∀s',st s c= .inr s'→Inv (p++[c]) s'∧∀v,Ev (fun k=>F k s' ((p.length:Int)+1)) v→Ev (fun k=>F (k+1) s (p.length:Int)) v))
  (hend:∀s,Inv xs s→Ev (fun k=>F (k+1) s (xs.length:Int)) (fin s)):Ev (fun k=>F k s 0) (run st fin xs s):=anF Inv hstep hend xs [] s rfl h0
theorem uz{ls p r:List Str}{c:Str}(h:ls=p++c:: r):kV ByteArray.empty (ls.map b_) (p.length:Int)=b_ c:=by
 have:=WW ByteArray.empty (p.map b_) (r.map b_) (b_ c);rw[List.length_map]at this;rw[h,List.map_append,List.map_cons];exact this
theorem gJ{α:Type}{ls p r:List α}{c:α}(h:ls=p++c:: r):ls.length=p.length+r.length+1:=by
 rw[h,List.length_append,List.length_cons];omega
theorem jH{l p r:Str}{c:UInt8}(h:l=p++c:: r):bt (b_ l) (p.length:Int)=(c.toNat:Int):=by rw[h];exact YL p r c
end Go.Proofs.YtncdadcmghglkaaGreatDoor.Z
