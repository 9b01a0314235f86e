-- PRINTED BY print.sh 35421559b90ae4d0a3588c463048766b98c2df88dd9212a6774a882060cdf62d: not written by this session
-- PRINTED WORDS (module Derived/Print/More.lean): go-gate-2's additions: an AI agent of Go's test side, Tue Nov 17 2026; no person has read it. Lean checks it.
import Derived.Test.YtdimppdlfgnhgaaGreatDoorVFnExactParsePartWords
import Derived.Test.YtdimppdlfgnhgaaGreatDoorVFnExactParsePartLast
import Derived.Test.YtdimppdlfgnhgaaGreatDoorVFnExactParsePartApart
import Derived.Test.YtdimppdlfgnhgaaGreatDoorVFnExactParsePartFoot
import Derived.Test.YtdimppdlfgnhgaaGreatDoorVFnExactParsePartKept
import Derived.Test.YtdimppdlfgnhgaaGreatDoorVFnExactParsePartN
namespace Go.Proofs.YtdimppdlfgnhgaaGreatDoorW.mX
open Go.RowKit Go.Proofs.YtdimppdlfgnhgaaGreatDoorW.eP
namespace Kd
open Go.Proofs.YtdimppdlfgnhgaaGreatDoorW.eP.Kd
end Kd
namespace Kd
open Go.Proofs.YtdimppdlfgnhgaaGreatDoorW.eP.Kd
section
variable {α:Type} {d:Kd α} {e base g N:Nat} {ok:Nat→Prop} {W w1:World} {u v:Value} {xs:List α}
theorem agu(hu:d.R e W base ok u xs)(hb:Below W.heap.size W w1):d.R e w1 base (fun k=>ok k∧k<W.heap.size) u xs:=
 aK (iL (nY hu) hb) (fun _ h=>⟨h.1,h.2.2.1⟩)
theorem Dv(h:d.R e w1 base (fun k=>ok k∧k<N) u xs)(hbase:∀k,v.ownBlock=some k→N≤k):d.R e w1 base (fun k=>(ok k∧some k≠v.ownBlock)∧k<N) u xs:=
 aK h (fun k hk=>⟨⟨hk.1,fun e=>Nat.lt_irrefl _ (Nat.lt_of_lt_of_le hk.2 (hbase k e.symm))⟩,hk.2⟩)
end
end Kd
theorem uP(k k':IntKind)(x y:Int):Builtin.max2 (.int k x) (.int k' y)=pure (.int k (if x<y then y else x)):=by simp only[Builtin.max2,gt_iff_lt]
theorem uQ(k k':IntKind)(x y:Int):Builtin.min2 (.int k x) (.int k' y)=pure (.int k (if y<x then y else x)):=by simp only[Builtin.min2]
theorem xQ(ats:Array TypeId)(ty:TypeId)(a b:Value):Builtin.max_ ats ty #[a,b]=(Builtin.max2 a b >>=fun s=>pure s):=by simp only[Builtin.max_,List.foldlM_cons,List.foldlM_nil]
theorem xR(ats:Array TypeId)(ty:TypeId)(a b:Value):Builtin.min_ ats ty #[a,b]=(Builtin.min2 a b >>=fun s=>pure s):=by simp only[Builtin.min_,List.foldlM_cons,List.foldlM_nil]
theorem rE(ats:Array TypeId)(ty:TypeId)(a b c:Value):Builtin.max_ ats ty #[a,b,c]=(Builtin.max2 a b >>=fun s=>Builtin.max2 s c >>=fun s=>pure s):=by simp only[Builtin.max_,List.foldlM_cons,List.foldlM_nil]
theorem rG(ats:Array TypeId)(ty:TypeId)(a b c:Value):Builtin.min_ ats ty #[a,b,c]=(Builtin.min2 a b >>=fun s=>Builtin.min2 s c >>=fun s=>pure s):=by simp only[Builtin.min_,List.foldlM_cons,List.foldlM_nil]
theorem uS(ats:Array TypeId)(ty:TypeId)(a b c d:Value):Builtin.max_ ats ty #[a,b,c,d]=(Builtin.max2 a b >>=fun s=>Builtin.max2 s c >>=fun s=>Builtin.max2 s d >>=fun s=>pure s):=by simp only[Builtin.max_,List.foldlM_cons,List.foldlM_nil]
theorem uT(ats:Array TypeId)(ty:TypeId)(a b c d:Value):Builtin.min_ ats ty #[a,b,c,d]=(Builtin.min2 a b >>=fun s=>Builtin.min2 s c >>=fun s=>Builtin.min2 s d >>=fun s=>pure s):=by simp only[Builtin.min_,List.foldlM_cons,List.foldlM_nil]
end Go.Proofs.YtdimppdlfgnhgaaGreatDoorW.mX
namespace Go.Proofs.YtdimppdlfgnhgaaGreatDoorW.eP
open Go.RowKit
section
variable {P:Program} {ops:Array Oper} {rest:List Oper} {o:Oper} {a:Act} {Q:Exit→Act→World→Prop} {W:World}
theorem tN{f:FuncId}{as:Array Operand}{ts:Array TypeId}(_ho:o.op= .call {callee:= .value (.func f),args:=as,argTypes:=ts})(h:wpList P ops Q (o:: rest) a W):wpList P ops Q (o:: rest) a W:=h
theorem bM{b:Builtin}{xs:Array Operand}{ts:Array TypeId}(_ho:o.op= .call {callee:= .builtin b,args:=xs,argTypes:=ts})(h:wpList P ops Q (o:: rest) a W):wpList P ops Q (o:: rest) a W:=h
end
theorem uo(w:World)(n:Nat):w.drewN n=w.drewN n:=rfl
namespace Kd
section
variable {α:Type} {d:Kd α} {e base:Nat} {ok:Nat→Prop} {W w1:World} {v:Value} {xs:List α}
end
section
variable {α:Type} {d:Kd α} {e base g n cap:Nat} {ok yB oO:Nat→Prop} {W:World} {xs:List α} {i:Int} {c:List Value}
theorem aJ8(h:H d e W base ok (.slice (some ⟨g,0,none⟩) n cap) xs i yB c)(h0:0≤i)(h1:i<n):(∀j u,c[j]? =some u→W.cell? ⟨g,i.toNat*d.sz+j,none⟩=some u)∧∀j,W.frozen? ⟨g,i.toNat*d.sz+j,none⟩=false:=by
 obtain⟨rows,_,hraw,_,_,hcc,_⟩:=am2 h h0 h1;obtain⟨_,_,_,_,hfr⟩:=Pv hraw [] i h0 h1;exact⟨hcc,hfr⟩
theorem axZ(hH:H d e W base ok (.slice (some ⟨g,0,none⟩) n cap) xs i yB c)(h0:0≤i)(h1:i<n){seg:List Value}{j:Nat}(hj:j+seg.length≤d.sz)
  {x':α} (hM:d.M W base oO x' (c.take j++seg++c.drop (j+seg.length))) (Hl:∀k,oO k→yB k):
  S d e (W.setCells g (i.toNat*d.sz+j) seg) base ok (.slice (some ⟨g,0,none⟩) n cap) (xs.set i.toNat x')∧W.grownBy (W.setCells g (i.toNat*d.sz+j) seg) (some g):=
 aD1 (okg:=fun _=>False) (ayl hH (fun _ hk=>⟨hk,fun h=>h⟩)) h0 h1 hj hM (fun k hk=> .inl (Hl k hk)) (fun _ hk=>hk.elim)
end
section
variable {α:Type} {d:Kd α} {e base b b' g N:Nat} {ok ok1:Nat→Prop} {W W2 w1:World} {u v:Value} {xs ys:List α} {S:Nat→Prop}
theorem ab4(hE:d.E=[])(h:d.R e W base ok1 v xs)(hok:∀k,v.ownBlock=some k→ok k):d.R e W base ok v xs:=aK (y9 hE h) (fun k hk=>hok k hk.symm)
end
end Kd
end Go.Proofs.YtdimppdlfgnhgaaGreatDoorW.eP
namespace Go.Proofs.YtdimppdlfgnhgaaGreatDoorW.eP
open Go.RowKit
namespace Kd
def V{α:Type}(d:Kd α)(_e:Nat)(W:World)(_base:Nat)(ok:Nat→Prop)(v:Value)(xs:List α):Prop:=∃A c,v= .slice A xs.length c∧xs.length≤c∧F d W ok A xs.length xs
section
variable {α β:Type} {d:Kd α} {e base base' n m c g N' lo hi:Nat} {ok ok' S:Nat→Prop} {w W w1:World} {A:Option Addr} {ad:Addr} {u v v1:Value} {xs:List α}
theorem VP(h:V d e W base ok v xs)(hF:∀A,F d W ok A xs.length xs→F d w1 ok' A xs.length xs):V d e w1 base' ok' v xs:=by
 obtain⟨A,c,hv,hl,hf⟩:=h;exact⟨A,c,hv,hl,hF A hf⟩
theorem aJo(hl:xs.length≤c)(hf:F d W ok A xs.length xs):V d e W base ok (.slice A xs.length c) xs:=⟨A,c,rfl,hl,hf⟩
theorem aqK(h:V d e W base ok (.slice A n c) xs):n=xs.length∧n≤c∧F d W ok A xs.length xs:=by
 obtain⟨A',c',hv,hl,hf⟩:=h;injection hv with ha hn hc;subst ha;subst hc;exact⟨hn,by rw[hn];exact hl,hf⟩
theorem ama(h:V d e W base ok (.slice A n c) xs):n=xs.length∧n≤c∧d.C W A xs.length xs:=⟨(aqK h).1,(aqK h).2.1,aD2 (aqK h).2.2⟩
theorem MV(d:Kd α)(e:Nat)(W:World)(base:Nat)(ok:Nat→Prop):V d e W base ok (.slice none 0 0) []:=⟨none,0,rfl,Nat.le_refl _,aD3 d W ok⟩
theorem R_V(h:d.R e W base ok v xs):V d e W base' ok v xs:=by
 obtain⟨A,c,rfl⟩:=bW h;exact⟨A,c,rfl,(bH h).2.1,R_F h⟩
theorem PW(h:V d e W base ok v xs)(hok:∀k,ok k→ok' k):V d e W base ok' v xs:=VP h (fun _ hf=>af4 hf hok)
theorem Sz(h:V d e W base ok v xs)(hb:Below W.heap.size W w1):V d e w1 base ok v xs:=VP h (fun _ hf=>Xp hf hb)
theorem Gl(h:V d e W base ok v xs):V d e W.drew base ok v xs:=VP h (fun _ hf=>ayo hf)
theorem CY(h:V d e W base ok v xs)(m:Nat):V d e (W.drewN m) base ok v xs:=VP h (fun _ hf=>asa hf m)
theorem aB7(h:V d e W base ok v xs){p:Addr}(hok:∀k,ok k→k≠p.block)(u:Value):V d e (W.setCell p u) base ok v xs:=VP h (fun _ hf=>aD4 hf hok u)
theorem asb(h:V d e W base (fun k=>ok k∧some k≠u.ownBlock) v xs)(hg:W.grownBy w1 u.ownBlock)(hat:v1.ownBlock=u.ownBlock∨∃b,v1.ownBlock=some b∧W.heap.size≤b):V d e w1 base (fun k=>ok k∧some k≠v1.ownBlock) v xs:=VP h (fun _ hf=>asc hf hg hat)
theorem amc(h:V d e W base (fun k=>ok k∧some k≠v.ownBlock) u xs)(hg:W.grownBy w1 v.ownBlock)(hat:v1.ownBlock=v.ownBlock∨∃b,v1.ownBlock=some b∧W.heap.size≤b):V d e w1 base (fun k=>ok k∧some k≠v1.ownBlock) u xs:=asb h hg hat
theorem amb(h:V d e W base ok v xs)(hbase:∀k,u.ownBlock=some k→W.heap.size≤k)(hb:Below W.heap.size W w1):V d e w1 base (fun k=>ok k∧some k≠u.ownBlock) v xs:=VP h (fun _ hf=>an2 hf hbase hb)
theorem aB1(h:F d W ok A xs.length xs)(hm:m≤xs.length)(hc:xs.length≤c):F d W ok (if c=m then A else A.map (·.add (m*d.sz))) (xs.drop m).length (xs.drop m):=aD5 h (fun _ hC=>ayp hC hm hc)
end
end Kd
end Go.Proofs.YtdimppdlfgnhgaaGreatDoorW.eP
