-- PRINTED BY print.sh 35421559b90ae4d0a3588c463048766b98c2df88dd9212a6774a882060cdf62d: not written by this session
import Derived.Test.YtdimppdlfgnhgaaGreatDoorVFnExactPartAtKept
namespace Go.Proofs.YtdimppdlfgnhgaaGreatDoorW.fD
open Go.RowKit
def Ea(P:World→Prop)(W:World)(ok:Nat→Prop):Prop:=∀W':World,(∀k,ok k→k<W.heap.size→W'.heap[k]? =W.heap[k]?)→P W'
theorem arn{W W1:World}{k:Nat}(h:W1.heap[k]? =W.heap[k]?)(hlt:k<W.heap.size):k<W1.heap.size:=by
 rw[Array.getElem?_eq_getElem hlt]at h;exact(Array.getElem?_eq_some_iff.1 h).1
namespace Ea
variable {P Q:World→Prop} {W W1:World} {ok ok':Nat→Prop}
theorem now(h:Ea P W ok):P W:=h W (fun _ _ _=>rfl)
theorem mono(h:Ea P W ok)(hok:∀k,ok k→ok' k):Ea P W ok':=fun W' hW=>h W' (fun k hk hlt=>hW k (hok k hk) hlt)
theorem bound(h:Ea P W ok):Ea P W (fun k=>ok k∧k<W.heap.size):=fun W' hW=>h W' (fun k hk hlt=>hW k ⟨hk,hlt⟩ hlt)
theorem step(h:Ea P W ok)(hm:∀k,ok k→k<W.heap.size→W1.heap[k]? =W.heap[k]?):Ea P W1 ok:=fun W' hW=>h W' (fun k hk hlt=>(hW k hk (arn (hm k hk hlt) hlt)).trans (hm k hk hlt))
theorem imp(h:Ea P W ok)(hi:∀W',P W'→Q W'):Ea Q W ok:=fun W' hW=>hi W' (h W' hW)
theorem old(h:Ea P W ok)(hb:Below W.heap.size W W1):Ea P W1 (fun k=>ok k∧k<W.heap.size):=(h.bound).step (fun k _ hlt=>hb.block k hlt)
end Ea
namespace Kd
def F{α:Type}(d:Kd α)(W:World)(ok:Nat→Prop)(A:Option Addr)(n:Nat)(xs:List α):Prop:=Ea (fun W=>d.C W A n xs) W ok
def FK{α:Type}(d:Kd α)(W:World)(ok:Nat→Prop)(x:α)(c:List Value):Prop:=Ea (fun W=>d.K W x c) W ok
section
variable {α β:Type} {d:Kd α} {e base n n' cc g N:Nat} {ok ok' rE S:Nat→Prop} {w w0 w1 W W1:World} {A A':Option Addr} {u v v1:Value} {xs:List α} {xs':List β} {d':Kd β} {x:α} {c:List Value}
theorem aua(h:F d W ok A n xs):d.C W A n xs:=Ea.now h
theorem Yz(h:F d W ok A n xs)(hok:∀k,ok k→ok' k):F d W ok' A n xs:=Ea.mono h hok
theorem aiP(h:F d W ok A n xs):F d W (fun k=>ok k∧k<W.heap.size) A n xs:=Ea.bound h
theorem an4(h:F d W ok A n xs)(hm:∀k,ok k→k<W.heap.size→W1.heap[k]? =W.heap[k]?):F d W1 ok A n xs:=Ea.step h hm
theorem aB7(h:F d W ok A n xs)(hi:∀W',d.C W' A n xs→d'.C W' A' n' xs'):F d' W ok A' n' xs':=Ea.imp h hi
theorem MO(h:F d W ok A n xs)(hb:Below W.heap.size W W1):F d W1 ok A n xs:=an4 h (fun k _ hlt=>hb.block k hlt)
theorem axl(h:F d W ok A n xs):F d W.drew ok A n xs:=MO h (OI (Below.refl _ _))
theorem arh(h:F d W ok A n xs)(m:Nat):F d (W.drewN m) ok A n xs:=MO h (qh (Below.refl _ _) m)
theorem aB4(h:F d W ok A n xs){p:Addr}(hok:∀k,ok k→k≠p.block)(u:Value):F d (W.setCell p u) ok A n xs:=an4 h (fun k hk _=>Below.heap_setCell W p u k (hok k hk))
theorem aB3(d:Kd α)(W:World)(ok:Nat→Prop):F d W ok none ([]:List α).length []:=fun W' _=>anZ d W'
theorem anV(h:F d W ok A n xs)(hbase:∀k,v.ownBlock=some k→W.heap.size≤k)(hb:Below W.heap.size W W1):F d W1 (fun k=>ok k∧some k≠v.ownBlock) A n xs:=
 Yz (Ea.old h hb) (fun k hk=>⟨hk.1,fun he=>by have:=hbase k he.symm;have:=hk.2;omega⟩)
theorem anW(h:F d W ok A n xs)(a:Nat)(ha:W.heap.size≤a):F d W (fun k=>ok k∧k≠a) A n xs:=Yz (aiP h) (fun k hk=>⟨hk.1,by have:=hk.2;omega⟩)
theorem arj(h:F d W (fun k=>ok k∧some k≠v.ownBlock) A n xs)(hg:W.grownBy W1 v.ownBlock)(hat:v1.ownBlock=v.ownBlock∨∃b,v1.ownBlock=some b∧W.heap.size≤b):F d W1 (fun k=>ok k∧some k≠v1.ownBlock) A n xs:=by
 refine Yz (Ea.step (aiP h) (fun k hk hlt=>hg.block k hlt hk.1.2)) (fun k hk=>⟨hk.1.1,?_⟩);rcases hat with hat|⟨b,hb,hle⟩
 ·rw[hat];exact hk.1.2
 ·rw[hb];intro he;injection he with he;have:=hk.2;omega
theorem aB5(h:F d W ok A n xs)(hb:Below W.heap.size W W1):F d W1 (fun k=>ok k∧k<W.heap.size) A n xs:=Ea.old h hb
theorem axn(h:F d W1 (fun k=>ok k∧k<N) A n xs)(hbase:∀k,v.ownBlock=some k→N≤k):F d W1 (fun k=>(ok k∧some k≠v.ownBlock)∧k<N) A n xs:=
 Yz h (fun k hk=>⟨⟨hk.1,fun he=>Nat.lt_irrefl _ (Nat.lt_of_lt_of_le hk.2 (hbase k he.symm))⟩,hk.2⟩)
theorem C_F(hd:Heap d)(h:d.C w A n xs):F d w (fun k=>k<w.heap.size) A n xs:=fun _ hW=>hd.C (fun k hlt=>hW k hlt hlt) h
theorem R_F(h:d.R e W base ok (.slice A n cc) xs):F d W ok A n xs:=fun W' hW=>by
 have h2:=dB (yD h hW);rw[h2.1];exact h2.2.2
theorem aj9(h:FK d W ok x c):d.K W x c:=Ea.now h
theorem ark(h:d.M W base ok x c):FK d W ok x c:=fun _ hW=>d.m_ (an5 h hW)
theorem emptied(W:World)(g:Nat):∃W':World,(∀k,k≠g→W'.heap[k]? =W.heap[k]?)∧∀a:Addr,a.block=g→W'.cell? a=none:=by
 refine⟨{W with heap:=W.heap.setIfInBounds g (.cells #[] 0)},fun k hk=>by simp[Ne.symm hk],fun a ha=>?_⟩;subst ha;by_cases hlt:a.block<W.heap.size
 ·simp[World.cell?,hlt]
 ·simp[World.cell?,hlt]
end
end Kd
end Go.Proofs.YtdimppdlfgnhgaaGreatDoorW.fD
