-- PRINTED BY print.sh 35421559b90ae4d0a3588c463048766b98c2df88dd9212a6774a882060cdf62d: not written by this session
-- PRINTED WORDS (module Derived/Print/More.lean): go-gate-2's additions: an AI agent of Go's test side, Tue Nov 17 2026; no person has read it. Lean checks it.
import Derived.Test.YtdimppdlfgnhgaaGreatDoorVFnExactPartAtWords
import Derived.Test.YtdimppdlfgnhgaaGreatDoorVFnExactPartAtLast
import Derived.Test.YtdimppdlfgnhgaaGreatDoorVFnExactPartAtApart
import Derived.Test.YtdimppdlfgnhgaaGreatDoorVFnExactPartAtFoot
import Derived.Test.YtdimppdlfgnhgaaGreatDoorVFnExactPartAtKept
import Derived.Test.YtdimppdlfgnhgaaGreatDoorVFnExactPartAtN
namespace Go.Proofs.YtdimppdlfgnhgaaGreatDoorW.qy
open Go.RowKit Go.Proofs.YtdimppdlfgnhgaaGreatDoorW.fD
namespace Kd
open Go.Proofs.YtdimppdlfgnhgaaGreatDoorW.fD.Kd
theorem atE{α:Type}{d:Kd α}{e base n cap:Nat}{ok:Nat→Prop}{W:World}{ad:Addr}{xs:List α}(h:d.R e W base ok (.slice (some ad) n cap) xs)(z:α)(i:Int)(h0:0≤i)(h1:i<n):
  ∃c,c.length=d.sz∧d.M W base (fun k=>ok k∧some k≠(Value.slice (some ad) n cap).ownBlock) (xs.getD i.toNat z) c∧∀j u,c[j]? =some u→W.cell? (ad.add (i.toNat*d.sz+j))=some u:=by
 obtain⟨g,hg⟩:∃g,ad=⟨g,0,none⟩:=by
  obtain⟨_,inner,ho,_⟩:=h;rcases ho.2 with⟨hv,_⟩|⟨g,cap',cur,hv,_⟩
  ·cases hv
  ·injection hv with ha _ _;injection ha with ha;exact⟨g,ha⟩
 subst hg;obtain⟨c,hcl,hM,hcc,_⟩:=Ja h z i h0 h1;refine⟨c,hcl,d.jW (fun k hk=>⟨hk.1,fun he=>hk.2 ?_⟩) hM,fun j u hu=>?_⟩
 ·rw[axk,Nat.zero_add];exact hcc j u hu
 ·simpa [Value.ownBlock] using he
end Kd
namespace Kd
open Go.Proofs.YtdimppdlfgnhgaaGreatDoorW.fD.Kd
section
variable {α:Type} {d:Kd α} {e base g N:Nat} {ok:Nat→Prop} {W w1:World} {u v:Value} {xs:List α}
theorem agh(hu:d.R e W base ok u xs)(hb:Below W.heap.size W w1):d.R e w1 base (fun k=>ok k∧k<W.heap.size) u xs:=
 aY (lZ (lM hu) hb) (fun _ h=>⟨h.1,h.2.2.1⟩)
theorem Ce(h:d.R e w1 base (fun k=>ok k∧k<N) u xs)(hbase:∀k,v.ownBlock=some k→N≤k):d.R e w1 base (fun k=>(ok k∧some k≠v.ownBlock)∧k<N) u xs:=
 aY h (fun k hk=>⟨⟨hk.1,fun e=>Nat.lt_irrefl _ (Nat.lt_of_lt_of_le hk.2 (hbase k e.symm))⟩,hk.2⟩)
end
end Kd
theorem BD(k k':IntKind)(x y:Int):Builtin.max2 (.int k x) (.int k' y)=pure (.int k (if x<y then y else x)):=by simp only[Builtin.max2,gt_iff_lt]
theorem BF(k k':IntKind)(x y:Int):Builtin.min2 (.int k x) (.int k' y)=pure (.int k (if y<x then y else x)):=by simp only[Builtin.min2]
theorem F7(ats:Array TypeId)(ty:TypeId)(a b:Value):Builtin.max_ ats ty #[a,b]=(Builtin.max2 a b >>=fun s=>pure s):=by simp only[Builtin.max_,List.foldlM_cons,List.foldlM_nil]
theorem F8(ats:Array TypeId)(ty:TypeId)(a b:Value):Builtin.min_ ats ty #[a,b]=(Builtin.min2 a b >>=fun s=>pure s):=by simp only[Builtin.min_,List.foldlM_cons,List.foldlM_nil]
theorem yI(ats:Array TypeId)(ty:TypeId)(a b c:Value):Builtin.max_ ats ty #[a,b,c]=(Builtin.max2 a b >>=fun s=>Builtin.max2 s c >>=fun s=>pure s):=by simp only[Builtin.max_,List.foldlM_cons,List.foldlM_nil]
theorem yJ(ats:Array TypeId)(ty:TypeId)(a b c:Value):Builtin.min_ ats ty #[a,b,c]=(Builtin.min2 a b >>=fun s=>Builtin.min2 s c >>=fun s=>pure s):=by simp only[Builtin.min_,List.foldlM_cons,List.foldlM_nil]
theorem BG(ats:Array TypeId)(ty:TypeId)(a b c d:Value):Builtin.max_ ats ty #[a,b,c,d]=(Builtin.max2 a b >>=fun s=>Builtin.max2 s c >>=fun s=>Builtin.max2 s d >>=fun s=>pure s):=by simp only[Builtin.max_,List.foldlM_cons,List.foldlM_nil]
theorem BH(ats:Array TypeId)(ty:TypeId)(a b c d:Value):Builtin.min_ ats ty #[a,b,c,d]=(Builtin.min2 a b >>=fun s=>Builtin.min2 s c >>=fun s=>Builtin.min2 s d >>=fun s=>pure s):=by simp only[Builtin.min_,List.foldlM_cons,List.foldlM_nil]
end Go.Proofs.YtdimppdlfgnhgaaGreatDoorW.qy
namespace Go.Proofs.YtdimppdlfgnhgaaGreatDoorW.fD
open Go.RowKit
section
variable {P:Program} {ops:Array Oper} {rest:List Oper} {o:Oper} {a:Act} {Q:Exit→Act→World→Prop} {W:World}
theorem dS{b:Builtin}{xs:Array Operand}{ts:Array TypeId}(_ho:o.op= .call {callee:= .builtin b,args:=xs,argTypes:=ts})(h:wpList P ops Q (o:: rest) a W):wpList P ops Q (o:: rest) a W:=h
end
namespace Kd
section
variable {α:Type} {d:Kd α} {e base:Nat} {ok:Nat→Prop} {W w1:World} {v:Value} {xs:List α}
end
section
variable {α:Type} {d:Kd α} {e base g n cap:Nat} {ok Kq rE:Nat→Prop} {W:World} {xs:List α} {i:Int} {c:List Value}
end
section
variable {α:Type} {d:Kd α} {e base b b' g N:Nat} {ok ok1:Nat→Prop} {W W2 w1:World} {u v:Value} {xs ys:List α} {S:Nat→Prop}
theorem abN(hE:d.E=[])(h:d.R e W base ok1 v xs)(hok:∀k,v.ownBlock=some k→ok k):d.R e W base ok v xs:=aY (Gf hE h) (fun k hk=>hok k hk.symm)
end
end Kd
end Go.Proofs.YtdimppdlfgnhgaaGreatDoorW.fD
namespace Go.Proofs.YtdimppdlfgnhgaaGreatDoorW.fD
open Go.RowKit
namespace Kd
def V{α:Type}(d:Kd α)(_e:Nat)(W:World)(_base:Nat)(ok:Nat→Prop)(v:Value)(xs:List α):Prop:=∃A c,v= .slice A xs.length c∧xs.length≤c∧F d W ok A xs.length xs
section
variable {α β:Type} {d:Kd α} {e base base' n m c g N' lo hi:Nat} {ok ok' S:Nat→Prop} {w W w1:World} {A:Option Addr} {ad:Addr} {u v v1:Value} {xs:List α}
theorem NS(h:V d e W base ok v xs)(hF:∀A,F d W ok A xs.length xs→F d w1 ok' A xs.length xs):V d e w1 base' ok' v xs:=by
 obtain⟨A,c,hv,hl,hf⟩:=h;exact⟨A,c,hv,hl,hF A hf⟩
theorem YV(hl:xs.length≤c)(hf:F d W ok A xs.length xs):V d e W base ok (.slice A xs.length c) xs:=⟨A,c,rfl,hl,hf⟩
theorem Bv(h:V d e W base ok v xs):∃A c,v= .slice A xs.length c:=by
 obtain⟨A,c,hv,_⟩:=h;exact⟨A,c,hv⟩
theorem alT(h:V d e W base ok (.slice A n c) xs):n=xs.length∧n≤c∧F d W ok A xs.length xs:=by
 obtain⟨A',c',hv,hl,hf⟩:=h;injection hv with ha hn hc;subst ha;subst hc;exact⟨hn,by rw[hn];exact hl,hf⟩
theorem iM(h:V d e W base ok (.slice A n c) xs):n=xs.length∧n≤c∧d.C W A xs.length xs:=⟨(alT h).1,(alT h).2.1,aua (alT h).2.2⟩
theorem V_F(h:V d e W base ok (.slice A n c) xs):F d W ok A n xs:=by
 obtain⟨hn,_,hf⟩:=alT h;rw[hn];exact hf
theorem acW(d:Kd α)(e:Nat)(W:World)(base:Nat)(ok:Nat→Prop):V d e W base ok (.slice none 0 0) []:=⟨none,0,rfl,Nat.le_refl _,aB3 d W ok⟩
theorem R_V(h:d.R e W base ok v xs):V d e W base' ok v xs:=by
 obtain⟨A,c,rfl⟩:=bG h;exact⟨A,c,rfl,(dB h).2.1,R_F h⟩
theorem l9(h:V d e W base ok v xs)(hok:∀k,ok k→ok' k):V d e W base ok' v xs:=NS h (fun _ hf=>Yz hf hok)
theorem jV(h:V d e W base ok v xs)(hb:Below W.heap.size W w1):V d e w1 base ok v xs:=NS h (fun _ hf=>MO hf hb)
theorem gy(h:V d e W base ok v xs):V d e W.drew base ok v xs:=NS h (fun _ hf=>axl hf)
theorem fP(h:V d e W base ok v xs)(m:Nat):V d e (W.drewN m) base ok v xs:=NS h (fun _ hf=>arh hf m)
theorem zH(h:V d e W base ok v xs){p:Addr}(hok:∀k,ok k→k≠p.block)(u:Value):V d e (W.setCell p u) base ok v xs:=NS h (fun _ hf=>aB4 hf hok u)
theorem ari(h:V d e W base (fun k=>ok k∧some k≠u.ownBlock) v xs)(hg:W.grownBy w1 u.ownBlock)(hat:v1.ownBlock=u.ownBlock∨∃b,v1.ownBlock=some b∧W.heap.size≤b):V d e w1 base (fun k=>ok k∧some k≠v1.ownBlock) v xs:=NS h (fun _ hf=>arj hf hg hat)
theorem alZ(h:V d e W base (fun k=>ok k∧some k≠v.ownBlock) u xs)(hg:W.grownBy w1 v.ownBlock)(hat:v1.ownBlock=v.ownBlock∨∃b,v1.ownBlock=some b∧W.heap.size≤b):V d e w1 base (fun k=>ok k∧some k≠v1.ownBlock) u xs:=ari h hg hat
theorem alX(h:V d e W base ok v xs)(hbase:∀k,u.ownBlock=some k→W.heap.size≤k)(hb:Below W.heap.size W w1):V d e w1 base (fun k=>ok k∧some k≠u.ownBlock) v xs:=NS h (fun _ hf=>anV hf hbase hb)
theorem mF(h:V d e W base ok v xs)(a:Nat)(ha:W.heap.size≤a):V d e W base (fun k=>ok k∧k≠a) v xs:=NS h (fun _ hf=>anW hf a ha)
theorem ZI(h:V d e W base ok v xs)(hb:Below W.heap.size W w1):V d e w1 base (fun k=>ok k∧k<W.heap.size) v xs:=NS h (fun _ hf=>aB5 hf hb)
theorem vY(h:V d e w1 base (fun k=>ok k∧k<N') v xs)(hbase:∀k,u.ownBlock=some k→N'≤k):V d e w1 base (fun k=>(ok k∧some k≠u.ownBlock)∧k<N') v xs:=NS h (fun _ hf=>axn hf hbase)
theorem atr(h:V d e W base ok (.slice (some ad) n c) xs)(z:α)(i:Int)(h0:0≤i)(h1:i<n):
  ∃cs,cs.length=d.sz∧FK d W ok (xs.getD i.toNat z) cs∧∀j u,cs[j]? =some u→W.cell? (ad.add (i.toNat*d.sz+j))=some u:=by
 obtain⟨ad',cs,he,hcl,hK,hcc,_⟩:=aB6 (V_F h) z i h0 h1;injection he with he;subst he;exact⟨cs,hcl,hK,hcc⟩
theorem azm(h:F d W ok A xs.length xs)(hm:m≤xs.length)(hc:xs.length≤c):F d W ok (if c=m then A else A.map (·.add (m*d.sz))) (xs.drop m).length (xs.drop m):=aB7 h (fun _ hC=>axo hC hm hc)
theorem XM{M:Nat→Prop}(h:d.R e w1 W.heap.size ok v xs)(hle:w.heap.size≤W.heap.size)(hM:∀k,w.heap.size≤k→M k):d.R e w1 W.heap.size (fun k=>M k∧ok k) v xs:=aY (lM h) (fun k hk=>⟨hM k (Nat.le_trans hle hk.2.1),hk.1⟩)
theorem awn{M:Nat→Prop}(h:Kd.S d e w1 W.heap.size ok v xs)(hle:w.heap.size≤W.heap.size)(hM:∀k,w.heap.size≤k→M k):Kd.S d e w1 W.heap.size (fun k=>M k∧ok k) v xs:=oz (Bc h) (fun k hk=>⟨hM k (Nat.le_trans hle hk.2.1),hk.1⟩)
end
end Kd
end Go.Proofs.YtdimppdlfgnhgaaGreatDoorW.fD
