-- PRINTED BY print.sh 35421559b90ae4d0a3588c463048766b98c2df88dd9212a6774a882060cdf62d: not written by this session
-- PRINTED WORDS (module Derived/Print/More.lean): go-gate-2's additions: an AI agent of Go's test side, Tue Nov 17 2026; no person has read it. Lean checks it.
import Derived.Test.YtncdadcmghglkaaGreatDoorVFnKidLinesWords
import Derived.Test.YtncdadcmghglkaaGreatDoorVFnKidLinesLast
import Derived.Test.YtncdadcmghglkaaGreatDoorVFnKidLinesApart
import Derived.Test.YtncdadcmghglkaaGreatDoorVFnKidLinesFoot
import Derived.Test.YtncdadcmghglkaaGreatDoorVFnKidLinesKept
import Derived.Test.YtncdadcmghglkaaGreatDoorVFnKidLinesN
-- dense
namespace Go.Proofs.YtncdadcmghglkaaGreatDoorW.n_
open Go.RowKit Go.Proofs.YtncdadcmghglkaaGreatDoorW.dS
namespace Kd
open Go.Proofs.YtncdadcmghglkaaGreatDoorW.dS.Kd
/-- Element i of a row of one's own, lent: its cells and what it leads to, as the row has them. -/
theorem af_ {α:Type} {d:Kd α} {e base n cap:Nat} {ok:Nat→Prop} {W:World} {ad:Addr} {xs:List α} (h:d.R e W base ok (.slice (some ad) n cap) xs) (z:α) (i:Int) (h0:0≤i) (h1:i<n):
  ∃c,c.length=d.sz∧d.M W base (fun k=>ok k∧some k≠(Value.slice (some ad) n cap).ownBlock) (xs.getD i.toNat z) c∧∀j u,c[j]? =some u→W.cell? (ad.add (i.toNat*d.sz+j))=some u:=by
 obtain⟨g,hg⟩:∃g,ad=⟨g,0,none⟩:=by
  obtain⟨_,inner,ho,_⟩:=h
  rcases ho.2 with⟨hv,_⟩|⟨g,cap',cur,hv,_⟩
  ·cases hv
  ·injection hv with ha _ _
   injection ha with ha
   exact⟨g,ha⟩
 subst hg
 obtain⟨c,hcl,hM,hcc,_⟩:=Ws h z i h0 h1
 refine⟨c,hcl,d.jH (fun k hk=>⟨hk.1,fun he=>hk.2 ?_⟩) hM,fun j u hu=>?_⟩
 ·rw[ahr,Nat.zero_add]
  exact hcc j u hu
 ·simpa [Value.ownBlock] using he
end Kd

namespace Kd
open Go.Proofs.YtncdadcmghglkaaGreatDoorW.dS.Kd
section
variable {α:Type} {d:Kd α} {e base g N:Nat} {ok:Nat→Prop} {W w1:World} {u v:Value} {xs:List α}
/-- An elder row over an event that only makes: its blocks are elder than what was made. -/
theorem ad2 (hu:d.R e W base ok u xs) (hb:Below W.heap.size W w1):d.R e w1 base (fun k=>ok k∧k<W.heap.size) u xs:=
 aQ (sQ (tC hu) hb) (fun _ h=>⟨h.1,h.2.2.1⟩)
/-- The same over a state's call. -/
theorem UO (hu:d.R e W base (fun k=>ok k∧k≠g) u xs) (hk:aH W w1 g none):d.R e w1 base (fun k=>ok k∧k<W.heap.size) u xs:=
 aQ (Jm (tC hu) hk (fun _ h=>h.1.2)) (fun _ h=>⟨h.1.1,h.2.2.1⟩)
/-- It is none of the rows made since. -/
theorem sS (h:d.R e w1 base (fun k=>ok k∧k<N) u xs) (hbase:∀k,v.ownBlock=some k→N≤k):d.R e w1 base (fun k=>(ok k∧some k≠v.ownBlock)∧k<N) u xs:=
 aQ h (fun k hk=>⟨⟨hk.1,fun e=>Nat.lt_irrefl _ (Nat.lt_of_lt_of_le hk.2 (hbase k e.symm))⟩,hk.2⟩)
end
end Kd
/-- 'max' and 'min' of two whole numbers. -/
theorem xM (k k':IntKind) (x y:Int):Builtin.max2 (.int k x) (.int k' y)=pure (.int k (if x<y then y else x)):=by simp only[Builtin.max2,gt_iff_lt]
theorem xO (k k':IntKind) (x y:Int):Builtin.min2 (.int k x) (.int k' y)=pure (.int k (if y<x then y else x)):=by simp only[Builtin.min2]
theorem AV (ats:Array TypeId) (ty:TypeId) (a b:Value):Builtin.max_ ats ty #[a,b]=(Builtin.max2 a b >>=fun s=>pure s):=by simp only[Builtin.max_,List.foldlM_cons,List.foldlM_nil]
theorem AX (ats:Array TypeId) (ty:TypeId) (a b:Value):Builtin.min_ ats ty #[a,b]=(Builtin.min2 a b >>=fun s=>pure s):=by simp only[Builtin.min_,List.foldlM_cons,List.foldlM_nil]
theorem vK (ats:Array TypeId) (ty:TypeId) (a b c:Value):Builtin.max_ ats ty #[a,b,c]=(Builtin.max2 a b >>=fun s=>Builtin.max2 s c >>=fun s=>pure s):=by simp only[Builtin.max_,List.foldlM_cons,List.foldlM_nil]
theorem vM (ats:Array TypeId) (ty:TypeId) (a b c:Value):Builtin.min_ ats ty #[a,b,c]=(Builtin.min2 a b >>=fun s=>Builtin.min2 s c >>=fun s=>pure s):=by simp only[Builtin.min_,List.foldlM_cons,List.foldlM_nil]
theorem xP (ats:Array TypeId) (ty:TypeId) (a b c d:Value):Builtin.max_ ats ty #[a,b,c,d]=(Builtin.max2 a b >>=fun s=>Builtin.max2 s c >>=fun s=>Builtin.max2 s d >>=fun s=>pure s):=by simp only[Builtin.max_,List.foldlM_cons,List.foldlM_nil]
theorem xQ (ats:Array TypeId) (ty:TypeId) (a b c d:Value):Builtin.min_ ats ty #[a,b,c,d]=(Builtin.min2 a b >>=fun s=>Builtin.min2 s c >>=fun s=>Builtin.min2 s d >>=fun s=>pure s):=by simp only[Builtin.min_,List.foldlM_cons,List.foldlM_nil]
end Go.Proofs.YtncdadcmghglkaaGreatDoorW.n_
namespace Go.Proofs.YtncdadcmghglkaaGreatDoorW.dS
open Go.RowKit
section
variable {P:Program} {ops:Array Oper} {rest:List Oper} {o:Oper} {a:Act} {Q:Exit→Act→World→Prop} {W:World}
/-- The operation is a builtin over these places. -/
theorem dO {b:Builtin} {xs:Array Operand} {ts:Array TypeId} (_ho:o.op= .call {callee:= .builtin b,args:=xs,argTypes:=ts}) (h:wpList P ops Q (o:: rest) a W):wpList P ops Q (o:: rest) a W:=h
end
/-- A shift to the right: a count beyond the width leaves the sign. -/
def shr (k:IntKind) (x y:Int):Int:=x/2 ^ min y.toNat k.bits
theorem ade {k:IntKind} {x y j:Int} (h:shr k x y=j) (hy:y≤k.bits):x/2 ^ y.toNat=j:=by rw[←h];unfold shr;rw[Nat.min_eq_left (by omega)]
/-- It says x = x, and that is its use: 'rw [drewN_self w]' fails where the world was not drawn, and the row behind it is skipped. -/
theorem Rl (w:World) (n:Nat):w.drewN n=w.drewN n:=rfl
namespace Kd
section
variable {α:Type} {d:Kd α} {e base:Nat} {ok:Nat→Prop} {W w1:World} {v:Value} {xs:List α}
end
section
variable {α:Type} {d:Kd α} {e base g n cap:Nat} {ok Bg sH:Nat→Prop} {W:World} {xs:List α} {i:Int} {c:List Value}
/-- The place where an element's row comes back: its cells are there, and may be written. -/
theorem aAb (h:H d e W base ok (.slice (some ⟨g,0,none⟩) n cap) xs i Bg c) (h0:0≤i) (h1:i<n):(∀j u,c[j]? =some u→W.cell? ⟨g,i.toNat*d.sz+j,none⟩=some u)∧∀j,W.frozen? ⟨g,i.toNat*d.sz+j,none⟩=false:=by
 obtain⟨rows,_,hraw,_,_,hcc,_⟩:=afn h h0 h1
 obtain⟨_,_,_,_,hfr⟩:=Ws hraw [] i h0 h1
 exact⟨hcc,hfr⟩
theorem aoe (hH:H d e W base ok (.slice (some ⟨g,0,none⟩) n cap) xs i Bg c) (h0:0≤i) (h1:i<n) {seg:List Value} {j:Nat} (hj:j+seg.length≤d.sz)
  {x':α} (hM:d.M W base sH x' (c.take j++seg++c.drop (j+seg.length))) (Et:∀k,sH k→Bg k):
  S d e (W.setCells g (i.toNat*d.sz+j) seg) base ok (.slice (some ⟨g,0,none⟩) n cap) (xs.set i.toNat x')∧W.grownBy (W.setCells g (i.toNat*d.sz+j) seg) (some g):=
 ax0 (okg:=fun _=>False) (apO hH (fun _ hk=>⟨hk,fun h=>h⟩)) h0 h1 hj hM (fun k hk=> .inl (Et k hk)) (fun _ hk=>hk.elim)
end
section
variable {α:Type} {d:Kd α} {e base b b' g N:Nat} {ok ok1:Nat→Prop} {W W2 w1:World} {u v:Value} {xs ys:List α} {S:Nat→Prop}
end
end Kd
end Go.Proofs.YtncdadcmghglkaaGreatDoorW.dS
namespace Go.Proofs.YtncdadcmghglkaaGreatDoorW.dS
open Go.RowKit
namespace Kd
/-- A row that is only read, told by its value: its form, its length, what it leads to (in ok). e and base say nothing; they make it as the others are. -/
def V {α:Type} (d:Kd α) (_e:Nat) (W:World) (_base:Nat) (ok:Nat→Prop) (v:Value) (xs:List α):Prop:=∃A c,v= .slice A xs.length c∧xs.length≤c∧F d W ok A xs.length xs
section
variable {α β:Type} {d:Kd α} {e base base' n m c g N' lo hi:Nat} {ok ok' S:Nat→Prop} {w W w1:World} {A:Option Addr} {ad:Addr} {u v v1:Value} {xs:List α}
theorem Sv (h:V d e W base ok v xs) (hF:∀A,F d W ok A xs.length xs→F d w1 ok' A xs.length xs):V d e w1 base' ok' v xs:=by
 obtain⟨A,c,hv,hl,hf⟩:=h
 exact⟨A,c,hv,hl,hF A hf⟩
theorem azY (hl:xs.length≤c) (hf:F d W ok A xs.length xs):V d e W base ok (.slice A xs.length c) xs:=⟨A,c,rfl,hl,hf⟩
theorem ais (h:V d e W base ok (.slice A n c) xs):n=xs.length∧n≤c∧F d W ok A xs.length xs:=by
 obtain⟨A',c',hv,hl,hf⟩:=h
 injection hv with ha hn hc
 subst ha;subst hc
 exact⟨hn,by rw[hn];exact hl,hf⟩
theorem ae6 (h:V d e W base ok (.slice A n c) xs):n=xs.length∧n≤c∧d.C W A xs.length xs:=⟨(ais h).1,(ais h).2.1,ax2 (ais h).2.2⟩
theorem afs (d:Kd α) (e:Nat) (W:World) (base:Nat) (ok:Nat→Prop):V d e W base ok (.slice none 0 0) []:=⟨none,0,rfl,Nat.le_refl _,ax3 d W ok⟩
theorem R_V (h:d.R e W base ok v xs):V d e W base' ok v xs:=by
 obtain⟨A,c,rfl⟩:=aI h
 exact⟨A,c,rfl,(ay h).2.1,R_F h⟩
theorem Jr (h:V d e W base ok v xs) (hok:∀k,ok k→ok' k):V d e W base ok' v xs:=Sv h (fun _ hf=>ZK hf hok)
theorem acE (h:V d e W base ok v xs) (hb:Below W.heap.size W w1):V d e w1 base ok v xs:=Sv h (fun _ hf=>Wy hf hb)
theorem Gm (h:V d e W base ok v xs):V d e W.drew base ok v xs:=Sv h (fun _ hf=>apS hf)
theorem EJ (h:V d e W base ok v xs) (m:Nat):V d e (W.drewN m) base ok v xs:=Sv h (fun _ hf=>ajJ hf m)
theorem as1 (h:V d e W base ok v xs) {p:Addr} (hok:∀k,ok k→k≠p.block) (u:Value):V d e (W.setCell p u) base ok v xs:=Sv h (fun _ hf=>ax4 hf hok u)
theorem ajK (h:V d e W base (fun k=>ok k∧some k≠u.ownBlock) v xs) (hg:W.grownBy w1 u.ownBlock) (hat:v1.ownBlock=u.ownBlock∨∃b,v1.ownBlock=some b∧W.heap.size≤b):V d e w1 base (fun k=>ok k∧some k≠v1.ownBlock) v xs:=Sv h (fun _ hf=>ajL hf hg hat)
theorem ae_ (h:V d e W base (fun k=>ok k∧some k≠v.ownBlock) u xs) (hg:W.grownBy w1 v.ownBlock) (hat:v1.ownBlock=v.ownBlock∨∃b,v1.ownBlock=some b∧W.heap.size≤b):V d e w1 base (fun k=>ok k∧some k≠v1.ownBlock) u xs:=ajK h hg hat
theorem ae7 (h:V d e W base ok v xs) (hbase:∀k,u.ownBlock=some k→W.heap.size≤k) (hb:Below W.heap.size W w1):V d e w1 base (fun k=>ok k∧some k≠u.ownBlock) v xs:=Sv h (fun _ hf=>ahw hf hbase hb)
theorem asM (h:F d W ok A xs.length xs) (hm:m≤xs.length) (hc:xs.length≤c):F d W ok (if c=m then A else A.map (·.add (m*d.sz))) (xs.drop m).length (xs.drop m):=ax5 h (fun _ hC=>apT hC hm hc)
end
end Kd
end Go.Proofs.YtncdadcmghglkaaGreatDoorW.dS
