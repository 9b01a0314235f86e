-- PRINTED BY print.sh 35421559b90ae4d0a3588c463048766b98c2df88dd9212a6774a882060cdf62d: not written by this session
-- PRINTED WORDS (module Derived/Print/More.lean): go-gate-2's additions: an AI agent of Go's test side, Tue Nov 17 2026; no person has read it. Lean checks it.
import Derived.Test.YtncdadcmghglkaaGreatDoorVFnExactFormatPartWords
import Derived.Test.YtncdadcmghglkaaGreatDoorVFnExactFormatPartLast
import Derived.Test.YtncdadcmghglkaaGreatDoorVFnExactFormatPartApart
import Derived.Test.YtncdadcmghglkaaGreatDoorVFnExactFormatPartFoot
import Derived.Test.YtncdadcmghglkaaGreatDoorVFnExactFormatPartKept
import Derived.Test.YtncdadcmghglkaaGreatDoorVFnExactFormatPartN
namespace Go.Proofs.YtncdadcmghglkaaGreatDoorW.jo
open Go.RowKit Go.Proofs.YtncdadcmghglkaaGreatDoorW.dB
namespace Kd
open Go.Proofs.YtncdadcmghglkaaGreatDoorW.dB.Kd
theorem ajY{α:Type}{d:Kd α}{e base n cap:Nat}{ok:Nat→Prop}{W:World}{ad:Addr}{xs:List α}(h:d.R e W base ok (.slice (some ad) n cap) xs)(z:α)(i:Int)(h0:0≤i)(h1:i<n):
  ∃c,c.length=d.sz∧d.M W base (fun k=>ok k∧some k≠(Value.slice (some ad) n cap).ownBlock) (xs.getD i.toNat z) c∧∀j u,c[j]? =some u→W.cell? (ad.add (i.toNat*d.sz+j))=some u:=by
 obtain⟨g,hg⟩:∃g,ad=⟨g,0,none⟩:=by
  obtain⟨_,inner,ho,_⟩:=h;rcases ho.2 with⟨hv,_⟩|⟨g,cap',cur,hv,_⟩
  ·cases hv
  ·injection hv with ha _ _;injection ha with ha;exact⟨g,ha⟩
 subst hg;obtain⟨c,hcl,hM,hcc,_⟩:=Dn h z i h0 h1;refine⟨c,hcl,d.jV (fun k hk=>⟨hk.1,fun he=>hk.2 ?_⟩) hM,fun j u hu=>?_⟩
 ·rw[ano,Nat.zero_add];exact hcc j u hu
 ·simpa [Value.ownBlock] using he
end Kd
namespace Kd
open Go.Proofs.YtncdadcmghglkaaGreatDoorW.dB.Kd
section
variable {α:Type} {d:Kd α} {e base g N:Nat} {ok:Nat→Prop} {W w1:World} {u v:Value} {xs:List α}
theorem aqd(hu:d.R e W base ok u xs)(hb:Below W.heap.size W w1):d.R e w1 base (fun k=>ok k∧k<W.heap.size) u xs:=
 dM (mV (oD hu) hb) (fun _ h=>⟨h.1,h.2.2.1⟩)
theorem Yo(h:d.R e w1 base (fun k=>ok k∧k<N) u xs)(hbase:∀k,v.ownBlock=some k→N≤k):d.R e w1 base (fun k=>(ok k∧some k≠v.ownBlock)∧k<N) u xs:=
 dM h (fun k hk=>⟨⟨hk.1,fun e=>Nat.lt_irrefl _ (Nat.lt_of_lt_of_le hk.2 (hbase k e.symm))⟩,hk.2⟩)
end
end Kd
theorem lU(k k':IntKind)(x y:Int):Builtin.max2 (.int k x) (.int k' y)=pure (.int k (if x<y then y else x)):=by simp only[Builtin.max2,gt_iff_lt]
theorem lV(k k':IntKind)(x y:Int):Builtin.min2 (.int k x) (.int k' y)=pure (.int k (if y<x then y else x)):=by simp only[Builtin.min2]
theorem oh(ats:Array TypeId)(ty:TypeId)(a b:Value):Builtin.max_ ats ty #[a,b]=(Builtin.max2 a b >>=fun s=>pure s):=by simp only[Builtin.max_,List.foldlM_cons,List.foldlM_nil]
theorem oq(ats:Array TypeId)(ty:TypeId)(a b:Value):Builtin.min_ ats ty #[a,b]=(Builtin.min2 a b >>=fun s=>pure s):=by simp only[Builtin.min_,List.foldlM_cons,List.foldlM_nil]
theorem kJ(ats:Array TypeId)(ty:TypeId)(a b c:Value):Builtin.max_ ats ty #[a,b,c]=(Builtin.max2 a b >>=fun s=>Builtin.max2 s c >>=fun s=>pure s):=by simp only[Builtin.max_,List.foldlM_cons,List.foldlM_nil]
theorem kK(ats:Array TypeId)(ty:TypeId)(a b c:Value):Builtin.min_ ats ty #[a,b,c]=(Builtin.min2 a b >>=fun s=>Builtin.min2 s c >>=fun s=>pure s):=by simp only[Builtin.min_,List.foldlM_cons,List.foldlM_nil]
theorem lW(ats:Array TypeId)(ty:TypeId)(a b c d:Value):Builtin.max_ ats ty #[a,b,c,d]=(Builtin.max2 a b >>=fun s=>Builtin.max2 s c >>=fun s=>Builtin.max2 s d >>=fun s=>pure s):=by simp only[Builtin.max_,List.foldlM_cons,List.foldlM_nil]
theorem lX(ats:Array TypeId)(ty:TypeId)(a b c d:Value):Builtin.min_ ats ty #[a,b,c,d]=(Builtin.min2 a b >>=fun s=>Builtin.min2 s c >>=fun s=>Builtin.min2 s d >>=fun s=>pure s):=by simp only[Builtin.min_,List.foldlM_cons,List.foldlM_nil]
end Go.Proofs.YtncdadcmghglkaaGreatDoorW.jo
namespace Go.Proofs.YtncdadcmghglkaaGreatDoorW.dB
open Go.RowKit
section
variable {P:Program} {ops:Array Oper} {rest:List Oper} {o:Oper} {a:Act} {Q:Exit→Act→World→Prop} {W:World}
theorem dD{b:Builtin}{xs:Array Operand}{ts:Array TypeId}(_ho:o.op= .call {callee:= .builtin b,args:=xs,argTypes:=ts})(h:wpList P ops Q (o:: rest) a W):wpList P ops Q (o:: rest) a W:=h
end
theorem qO(w:World)(n:Nat):w.drewN n=w.drewN n:=rfl
namespace Kd
section
variable {α:Type} {d:Kd α} {e base:Nat} {ok:Nat→Prop} {W w1:World} {v:Value} {xs:List α}
end
section
variable {α:Type} {d:Kd α} {e base g n cap:Nat} {ok oki pz:Nat→Prop} {W:World} {xs:List α} {i:Int} {c:List Value}
end
section
variable {α:Type} {d:Kd α} {e base b b' g N:Nat} {ok ok1:Nat→Prop} {W W2 w1:World} {u v:Value} {xs ys:List α} {S:Nat→Prop}
end
end Kd
end Go.Proofs.YtncdadcmghglkaaGreatDoorW.dB
namespace Go.Proofs.YtncdadcmghglkaaGreatDoorW.dB
open Go.RowKit
namespace Kd
def V{α:Type}(d:Kd α)(_e:Nat)(W:World)(_base:Nat)(ok:Nat→Prop)(v:Value)(xs:List α):Prop:=∃A c,v= .slice A xs.length c∧xs.length≤c∧F d W ok A xs.length xs
section
variable {α β:Type} {d:Kd α} {e base base' n m c g N' lo hi:Nat} {ok ok' S:Nat→Prop} {w W w1:World} {A:Option Addr} {ad:Addr} {u v v1:Value} {xs:List α}
theorem MV(h:V d e W base ok v xs)(hF:∀A,F d W ok A xs.length xs→F d w1 ok' A xs.length xs):V d e w1 base' ok' v xs:=by
 obtain⟨A,c,hv,hl,hf⟩:=h;exact⟨A,c,hv,hl,hF A hf⟩
theorem avz(hl:xs.length≤c)(hf:F d W ok A xs.length xs):V d e W base ok (.slice A xs.length c) xs:=⟨A,c,rfl,hl,hf⟩
theorem aia(h:V d e W base ok (.slice A n c) xs):n=xs.length∧n≤c∧F d W ok A xs.length xs:=by
 obtain⟨A',c',hv,hl,hf⟩:=h;injection hv with ha hn hc;subst ha;subst hc;exact⟨hn,by rw[hn];exact hl,hf⟩
theorem aeX(h:V d e W base ok (.slice A n c) xs):n=xs.length∧n≤c∧d.C W A xs.length xs:=⟨(aia h).1,(aia h).2.1,arH (aia h).2.2⟩
theorem arI(d:Kd α)(e:Nat)(W:World)(base:Nat)(ok:Nat→Prop):V d e W base ok (.slice none 0 0) []:=⟨none,0,rfl,Nat.le_refl _,arJ d W ok⟩
theorem R_V(h:d.R e W base ok v xs):V d e W base' ok v xs:=by
 obtain⟨A,c,rfl⟩:=eU h;exact⟨A,c,rfl,(dK h).2.1,R_F h⟩
theorem Ib(h:V d e W base ok v xs)(hok:∀k,ok k→ok' k):V d e W base ok' v xs:=MV h (fun _ hf=>Y0 hf hok)
theorem JX(h:V d e W base ok v xs)(hb:Below W.heap.size W w1):V d e w1 base ok v xs:=MV h (fun _ hf=>Oy hf hb)
theorem xH(h:V d e W base ok v xs)(o:Obj):V d e (W.alloc o) base ok v xs:=MV h (fun _ hf=>aiF hf o)
theorem Ac(h:V d e W base ok v xs):V d e W.drew base ok v xs:=MV h (fun _ hf=>anp hf)
theorem xI(h:V d e W base ok v xs)(m:Nat):V d e (W.drewN m) base ok v xs:=MV h (fun _ hf=>aiG hf m)
theorem aq9(h:V d e W base ok v xs){p:Addr}(hok:∀k,ok k→k≠p.block)(u:Value):V d e (W.setCell p u) base ok v xs:=MV h (fun _ hf=>arK hf hok u)
theorem aiH(h:V d e W base (fun k=>ok k∧some k≠u.ownBlock) v xs)(hg:W.grownBy w1 u.ownBlock)(hat:v1.ownBlock=u.ownBlock∨∃b,v1.ownBlock=some b∧W.heap.size≤b):V d e w1 base (fun k=>ok k∧some k≠v1.ownBlock) v xs:=MV h (fun _ hf=>aiI hf hg hat)
theorem aeZ(h:V d e W base (fun k=>ok k∧some k≠v.ownBlock) u xs)(hg:W.grownBy w1 v.ownBlock)(hat:v1.ownBlock=v.ownBlock∨∃b,v1.ownBlock=some b∧W.heap.size≤b):V d e w1 base (fun k=>ok k∧some k≠v1.ownBlock) u xs:=aiH h hg hat
theorem aeY(h:V d e W base ok v xs)(hbase:∀k,u.ownBlock=some k→W.heap.size≤k)(hb:Below W.heap.size W w1):V d e w1 base (fun k=>ok k∧some k≠u.ownBlock) v xs:=MV h (fun _ hf=>afz hf hbase hb)
theorem aq1(h:F d W ok A xs.length xs)(hm:m≤xs.length)(hc:xs.length≤c):F d W ok (if c=m then A else A.map (·.add (m*d.sz))) (xs.drop m).length (xs.drop m):=arL h (fun _ hC=>anq hC hm hc)
end
end Kd
end Go.Proofs.YtncdadcmghglkaaGreatDoorW.dB
