-- PRINTED BY print.sh 35421559b90ae4d0a3588c463048766b98c2df88dd9212a6774a882060cdf62d: not written by this session
-- PRINTED WORDS (module Derived/Print/More.lean): go-gate-2's additions: an AI agent of Go's test side, Tue Nov 17 2026; no person has read it. Lean checks it.
import Derived.Test.YtdkipechiaploaaGreatDoorVFnPartTextWords
import Derived.Test.YtdkipechiaploaaGreatDoorVFnPartTextLast
import Derived.Test.YtdkipechiaploaaGreatDoorVFnPartTextApart
import Derived.Test.YtdkipechiaploaaGreatDoorVFnPartTextFoot
import Derived.Test.YtdkipechiaploaaGreatDoorVFnPartTextKept
import Derived.Test.YtdkipechiaploaaGreatDoorVFnPartTextN
namespace Go.Proofs.YtdkipechiaploaaGreatDoorW.rW
open Go.RowKit Go.Proofs.YtdkipechiaploaaGreatDoorW.dZ
namespace Kd
open Go.Proofs.YtdkipechiaploaaGreatDoorW.dZ.Kd
end Kd
namespace Kd
open Go.Proofs.YtdkipechiaploaaGreatDoorW.dZ.Kd
section
variable {α:Type} {d:Kd α} {e base g N:Nat} {ok:Nat→Prop} {W w1:World} {u v:Value} {xs:List α}
theorem Vj(hu:d.R e W base ok u xs)(hb:Below W.heap.size W w1):d.R e w1 base (fun k=>ok k∧k<W.heap.size) u xs:=
 aG (jM (xR hu) hb) (fun _ h=>⟨h.1,h.2.2.1⟩)
theorem abd(hu:d.R e W base (fun k=>ok k∧k≠g) u xs)(hk:aN W w1 g none):d.R e w1 base (fun k=>ok k∧k<W.heap.size) u xs:=
 aG (PU (xR hu) hk (fun _ h=>h.1.2)) (fun _ h=>⟨h.1.1,h.2.2.1⟩)
theorem oC(h:d.R e w1 base (fun k=>ok k∧k<N) u xs)(hbase:∀k,v.ownBlock=some k→N≤k):d.R e w1 base (fun k=>(ok k∧some k≠v.ownBlock)∧k<N) u xs:=
 aG h (fun k hk=>⟨⟨hk.1,fun e=>Nat.lt_irrefl _ (Nat.lt_of_lt_of_le hk.2 (hbase k e.symm))⟩,hk.2⟩)
end
end Kd
theorem BN(k k':IntKind)(x y:Int):Builtin.max2 (.int k x) (.int k' y)=pure (.int k (if x<y then y else x)):=by simp only[Builtin.max2,gt_iff_lt]
theorem BO(k k':IntKind)(x y:Int):Builtin.min2 (.int k x) (.int k' y)=pure (.int k (if y<x then y else x)):=by simp only[Builtin.min2]
theorem Fb(ats:Array TypeId)(ty:TypeId)(a b:Value):Builtin.max_ ats ty #[a,b]=(Builtin.max2 a b >>=fun s=>pure s):=by simp only[Builtin.max_,List.foldlM_cons,List.foldlM_nil]
theorem Fe(ats:Array TypeId)(ty:TypeId)(a b:Value):Builtin.min_ ats ty #[a,b]=(Builtin.min2 a b >>=fun s=>pure s):=by simp only[Builtin.min_,List.foldlM_cons,List.foldlM_nil]
theorem zK(ats:Array TypeId)(ty:TypeId)(a b c:Value):Builtin.max_ ats ty #[a,b,c]=(Builtin.max2 a b >>=fun s=>Builtin.max2 s c >>=fun s=>pure s):=by simp only[Builtin.max_,List.foldlM_cons,List.foldlM_nil]
theorem zL(ats:Array TypeId)(ty:TypeId)(a b c:Value):Builtin.min_ ats ty #[a,b,c]=(Builtin.min2 a b >>=fun s=>Builtin.min2 s c >>=fun s=>pure s):=by simp only[Builtin.min_,List.foldlM_cons,List.foldlM_nil]
theorem BP(ats:Array TypeId)(ty:TypeId)(a b c d:Value):Builtin.max_ ats ty #[a,b,c,d]=(Builtin.max2 a b >>=fun s=>Builtin.max2 s c >>=fun s=>Builtin.max2 s d >>=fun s=>pure s):=by simp only[Builtin.max_,List.foldlM_cons,List.foldlM_nil]
theorem BQ(ats:Array TypeId)(ty:TypeId)(a b c d:Value):Builtin.min_ ats ty #[a,b,c,d]=(Builtin.min2 a b >>=fun s=>Builtin.min2 s c >>=fun s=>Builtin.min2 s d >>=fun s=>pure s):=by simp only[Builtin.min_,List.foldlM_cons,List.foldlM_nil]
end Go.Proofs.YtdkipechiaploaaGreatDoorW.rW
namespace Go.Proofs.YtdkipechiaploaaGreatDoorW.dZ
open Go.RowKit
section
variable {P:Program} {ops:Array Oper} {rest:List Oper} {o:Oper} {a:Act} {Q:Exit→Act→World→Prop} {W:World}
theorem vN{f:FuncId}{as:Array Operand}{ts:Array TypeId}(_ho:o.op= .call {callee:= .value (.func f),args:=as,argTypes:=ts})(h:wpList P ops Q (o:: rest) a W):wpList P ops Q (o:: rest) a W:=h
theorem bP{b:Builtin}{xs:Array Operand}{ts:Array TypeId}(_ho:o.op= .call {callee:= .builtin b,args:=xs,argTypes:=ts})(h:wpList P ops Q (o:: rest) a W):wpList P ops Q (o:: rest) a W:=h
end
def shr(k:IntKind)(x y:Int):Int:=x/2 ^ min y.toNat k.bits
theorem ajJ{k:IntKind}{x y j:Int}(h:shr k x y=j)(hy:y≤k.bits):x/2 ^ y.toNat=j:=by rw[←h];unfold shr;rw[Nat.min_eq_left (by omega)]
theorem PY(w:World)(n:Nat):w.drewN n=w.drewN n:=rfl
namespace Kd
section
variable {α:Type} {d:Kd α} {e base:Nat} {ok:Nat→Prop} {W w1:World} {v:Value} {xs:List α}
end
section
variable {α:Type} {d:Kd α} {e base g n cap:Nat} {ok FM wH:Nat→Prop} {W:World} {xs:List α} {i:Int} {c:List Value}
theorem aLq(h:H d e W base ok (.slice (some ⟨g,0,none⟩) n cap) xs i FM c)(h0:0≤i)(h1:i<n):(∀j u,c[j]? =some u→W.cell? ⟨g,i.toNat*d.sz+j,none⟩=some u)∧∀j,W.frozen? ⟨g,i.toNat*d.sz+j,none⟩=false:=by
 obtain⟨rows,_,hraw,_,_,hcc,_⟩:=amc h h0 h1;obtain⟨_,_,_,_,hfr⟩:=agF hraw [] i h0 h1;exact⟨hcc,hfr⟩
theorem axu(hH:H d e W base ok (.slice (some ⟨g,0,none⟩) n cap) xs i FM c)(h0:0≤i)(h1:i<n){seg:List Value}{j:Nat}(hj:j+seg.length≤d.sz)
  {x':α} (hM:d.M W base wH x' (c.take j++seg++c.drop (j+seg.length))) (JL:∀k,wH k→FM k):
  S d e (W.setCells g (i.toNat*d.sz+j) seg) base ok (.slice (some ⟨g,0,none⟩) n cap) (xs.set i.toNat x')∧W.grownBy (W.setCells g (i.toNat*d.sz+j) seg) (some g):=
 aIC (okg:=fun _=>False) (azZ hH (fun _ hk=>⟨hk,fun h=>h⟩)) h0 h1 hj hM (fun k hk=> .inl (JL k hk)) (fun _ hk=>hk.elim)
end
section
variable {α:Type} {d:Kd α} {e base b b' g N:Nat} {ok ok1:Nat→Prop} {W W2 w1:World} {u v:Value} {xs ys:List α} {S:Nat→Prop}
end
end Kd
end Go.Proofs.YtdkipechiaploaaGreatDoorW.dZ
namespace Go.Proofs.YtdkipechiaploaaGreatDoorW.dZ
open Go.RowKit
namespace Kd
def V{α:Type}(d:Kd α)(_e:Nat)(W:World)(_base:Nat)(ok:Nat→Prop)(v:Value)(xs:List α):Prop:=∃A c,v= .slice A xs.length c∧xs.length≤c∧F d W ok A xs.length xs
section
variable {α β:Type} {d:Kd α} {e base base' n m c g N' lo hi:Nat} {ok ok' S:Nat→Prop} {w W w1:World} {A:Option Addr} {ad:Addr} {u v v1:Value} {xs:List α}
theorem Zu(h:V d e W base ok v xs)(hF:∀A,F d W ok A xs.length xs→F d w1 ok' A xs.length xs):V d e w1 base' ok' v xs:=by
 obtain⟨A,c,hv,hl,hf⟩:=h;exact⟨A,c,hv,hl,hF A hf⟩
theorem aK6(hl:xs.length≤c)(hf:F d W ok A xs.length xs):V d e W base ok (.slice A xs.length c) xs:=⟨A,c,rfl,hl,hf⟩
theorem aqJ(h:V d e W base ok (.slice A n c) xs):n=xs.length∧n≤c∧F d W ok A xs.length xs:=by
 obtain⟨A',c',hv,hl,hf⟩:=h;injection hv with ha hn hc;subst ha;subst hc;exact⟨hn,by rw[hn];exact hl,hf⟩
theorem alH(h:V d e W base ok (.slice A n c) xs):n=xs.length∧n≤c∧d.C W A xs.length xs:=⟨(aqJ h).1,(aqJ h).2.1,aID (aqJ h).2.2⟩
theorem amh(d:Kd α)(e:Nat)(W:World)(base:Nat)(ok:Nat→Prop):V d e W base ok (.slice none 0 0) []:=⟨none,0,rfl,Nat.le_refl _,aIE d W ok⟩
theorem R_V(h:d.R e W base ok v xs):V d e W base' ok v xs:=by
 obtain⟨A,c,rfl⟩:=aC h;exact⟨A,c,rfl,(aA h).2.1,R_F h⟩
theorem PX(h:V d e W base ok v xs)(hok:∀k,ok k→ok' k):V d e W base ok' v xs:=Zu h (fun _ hf=>agH hf hok)
theorem ajb(h:V d e W base ok v xs)(hb:Below W.heap.size W w1):V d e w1 base ok v xs:=Zu h (fun _ hf=>acP hf hb)
theorem L8(h:V d e W base ok v xs):V d e W.drew base ok v xs:=Zu h (fun _ hf=>az2 hf)
theorem JW(h:V d e W base ok v xs)(m:Nat):V d e (W.drewN m) base ok v xs:=Zu h (fun _ hf=>asi hf m)
theorem aCQ(h:V d e W base ok v xs){p:Addr}(hok:∀k,ok k→k≠p.block)(u:Value):V d e (W.setCell p u) base ok v xs:=Zu h (fun _ hf=>aIF hf hok u)
theorem asj(h:V d e W base (fun k=>ok k∧some k≠u.ownBlock) v xs)(hg:W.grownBy w1 u.ownBlock)(hat:v1.ownBlock=u.ownBlock∨∃b,v1.ownBlock=some b∧W.heap.size≤b):V d e w1 base (fun k=>ok k∧some k≠v1.ownBlock) v xs:=Zu h (fun _ hf=>asl hf hg hat)
theorem alK(h:V d e W base (fun k=>ok k∧some k≠v.ownBlock) u xs)(hg:W.grownBy w1 v.ownBlock)(hat:v1.ownBlock=v.ownBlock∨∃b,v1.ownBlock=some b∧W.heap.size≤b):V d e w1 base (fun k=>ok k∧some k≠v1.ownBlock) u xs:=asj h hg hat
theorem alI(h:V d e W base ok v xs)(hbase:∀k,u.ownBlock=some k→W.heap.size≤k)(hb:Below W.heap.size W w1):V d e w1 base (fun k=>ok k∧some k≠u.ownBlock) v xs:=Zu h (fun _ hf=>apI hf hbase hb)
theorem aCI(h:F d W ok A xs.length xs)(hm:m≤xs.length)(hc:xs.length≤c):F d W ok (if c=m then A else A.map (·.add (m*d.sz))) (xs.drop m).length (xs.drop m):=aIG h (fun _ hC=>az3 hC hm hc)
end
end Kd
end Go.Proofs.YtdkipechiaploaaGreatDoorW.dZ
