-- PRINTED BY print.sh 35421559b90ae4d0a3588c463048766b98c2df88dd9212a6774a882060cdf62d: not written by this session
import Derived.Test.YtdimppdlfgnhgaaGreatDoorVFnExactParsePartKept
namespace Go.Proofs.YtdimppdlfgnhgaaGreatDoorW.eP
open Go.RowKit
def Ho(P:World→Prop)(W:World)(ok:Nat→Prop):Prop:=∀W':World,(∀k,ok k→k<W.heap.size→W'.heap[k]? =W.heap[k]?)→P W'
theorem asg{W W1:World}{k:Nat}(h:W1.heap[k]? =W.heap[k]?)(hlt:k<W.heap.size):k<W1.heap.size:=by
 rw[Array.getElem?_eq_getElem hlt]at h;exact(Array.getElem?_eq_some_iff.1 h).1
namespace Ho
variable {P Q:World→Prop} {W W1:World} {ok ok':Nat→Prop}
theorem now(h:Ho P W ok):P W:=h W (fun _ _ _=>rfl)
theorem mono(h:Ho P W ok)(hok:∀k,ok k→ok' k):Ho P W ok':=fun W' hW=>h W' (fun k hk hlt=>hW k (hok k hk) hlt)
theorem bound(h:Ho P W ok):Ho P W (fun k=>ok k∧k<W.heap.size):=fun W' hW=>h W' (fun k hk hlt=>hW k ⟨hk,hlt⟩ hlt)
theorem step(h:Ho P W ok)(hm:∀k,ok k→k<W.heap.size→W1.heap[k]? =W.heap[k]?):Ho P W1 ok:=fun W' hW=>h W' (fun k hk hlt=>(hW k hk (asg (hm k hk hlt) hlt)).trans (hm k hk hlt))
theorem imp(h:Ho P W ok)(hi:∀W',P W'→Q W'):Ho Q W ok:=fun W' hW=>hi W' (h W' hW)
theorem old(h:Ho P W ok)(hb:Below W.heap.size W W1):Ho P W1 (fun k=>ok k∧k<W.heap.size):=(h.bound).step (fun k _ hlt=>hb.block k hlt)
end Ho
namespace Kd
def F{α:Type}(d:Kd α)(W:World)(ok:Nat→Prop)(A:Option Addr)(n:Nat)(xs:List α):Prop:=Ho (fun W=>d.C W A n xs) W ok
def FK{α:Type}(d:Kd α)(W:World)(ok:Nat→Prop)(x:α)(c:List Value):Prop:=Ho (fun W=>d.K W x c) W ok
section
variable {α β:Type} {d:Kd α} {e base n n' cc g N:Nat} {ok ok' oO S:Nat→Prop} {w w0 w1 W W1:World} {A A':Option Addr} {u v v1:Value} {xs:List α} {xs':List β} {d':Kd β} {x:α} {c:List Value}
theorem aD2(h:F d W ok A n xs):d.C W A n xs:=Ho.now h
theorem af4(h:F d W ok A n xs)(hok:∀k,ok k→ok' k):F d W ok' A n xs:=Ho.mono h hok
theorem ash(h:F d W ok A n xs):F d W (fun k=>ok k∧k<W.heap.size) A n xs:=Ho.bound h
theorem an8(h:F d W ok A n xs)(hm:∀k,ok k→k<W.heap.size→W1.heap[k]? =W.heap[k]?):F d W1 ok A n xs:=Ho.step h hm
theorem aD5(h:F d W ok A n xs)(hi:∀W',d.C W' A n xs→d'.C W' A' n' xs'):F d' W ok A' n' xs':=Ho.imp h hi
theorem Xp(h:F d W ok A n xs)(hb:Below W.heap.size W W1):F d W1 ok A n xs:=an8 h (fun k _ hlt=>hb.block k hlt)
theorem ayo(h:F d W ok A n xs):F d W.drew ok A n xs:=Xp h (GV (Below.refl _ _))
theorem asa(h:F d W ok A n xs)(m:Nat):F d (W.drewN m) ok A n xs:=Xp h (lS (Below.refl _ _) m)
theorem aD4(h:F d W ok A n xs){p:Addr}(hok:∀k,ok k→k≠p.block)(u:Value):F d (W.setCell p u) ok A n xs:=an8 h (fun k hk _=>Below.heap_setCell W p u k (hok k hk))
theorem aD3(d:Kd α)(W:World)(ok:Nat→Prop):F d W ok none ([]:List α).length []:=fun W' _=>VN d W'
theorem an2(h:F d W ok A n xs)(hbase:∀k,v.ownBlock=some k→W.heap.size≤k)(hb:Below W.heap.size W W1):F d W1 (fun k=>ok k∧some k≠v.ownBlock) A n xs:=
 af4 (Ho.old h hb) (fun k hk=>⟨hk.1,fun he=>by have:=hbase k he.symm;have:=hk.2;omega⟩)
theorem asc(h:F d W (fun k=>ok k∧some k≠v.ownBlock) A n xs)(hg:W.grownBy W1 v.ownBlock)(hat:v1.ownBlock=v.ownBlock∨∃b,v1.ownBlock=some b∧W.heap.size≤b):F d W1 (fun k=>ok k∧some k≠v1.ownBlock) A n xs:=by
 refine af4 (Ho.step (ash h) (fun k hk hlt=>hg.block k hlt hk.1.2)) (fun k hk=>⟨hk.1.1,?_⟩);rcases hat with hat|⟨b,hb,hle⟩
 ·rw[hat];exact hk.1.2
 ·rw[hb];intro he;injection he with he;have:=hk.2;omega
theorem R_F(h:d.R e W base ok (.slice A n cc) xs):F d W ok A n xs:=fun W' hW=>by
 have h2:=bH (BG h hW);rw[h2.1];exact h2.2.2
theorem ase(h:d.M W base ok x c):FK d W ok x c:=fun _ hW=>d.mM (af2 h hW)
end
end Kd
end Go.Proofs.YtdimppdlfgnhgaaGreatDoorW.eP
