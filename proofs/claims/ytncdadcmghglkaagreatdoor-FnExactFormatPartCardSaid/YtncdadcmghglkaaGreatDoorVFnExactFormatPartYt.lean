/- Short words of this session for what the printed walks close again and again: a fact on a world holds in the world that is drawn out of it; no condition beyond those of each statement. -/
import Derived.Test.YtncdadcmghglkaaGreatDoorVFnExactFormatPartXt
namespace Go.Proofs.YtncdadcmghglkaaGreatDoor.X
open Go.RowKit Go.Proofs.YtncdadcmghglkaaGreatDoorW.dB Go.Proofs.YtncdadcmghglkaaGreatDoorW.iy Go.Proofs.YtncdadcmghglkaaGreatDoorW.jo
class Up (a b:World):Prop where
 up:Below a.heap.size a b
instance atA {a:World}:Up a a:=⟨Below.refl _ _⟩
instance arT {a b:World} [h:Up a b] (o:Obj):Up a (b.alloc o):=⟨mF h.up o⟩
instance arU {a b:World} [h:Up a b] (n:Nat):Up a (b.drewN n):=⟨kW h.up n⟩
instance atC {a b:World} [h:Up a b]:Up a b.drew:=⟨eY h.up⟩
theorem ub{a b:World}{g:Nat}{o:Obj} [u:Up a b](h:a.heap[g]? =some o):b.heap[g]? =some o:=iD h u.up
theorem ur{α:Type}{d:Kd α}{e:Nat}{a b:World}{base:Nat}{ok:Nat→Prop}{v:Value}{xs:List α} [u:Up a b](h:Kd.R d e a base ok v xs):Kd.R d e b base ok v xs:=Kd.mV h u.up
theorem ul{w a b:World} [u:Up a b](h:Below w.heap.size w a):Below w.heap.size w b:=aG h u.up
theorem bb{p:Prop}(h:p:=by repeat(first|(with_reducible first|exact ah.out (by assumption)|apply mF|apply kW|apply eY|refine lF ?_ (ah.out (by assumption)))|exact ah.out (by assumption))):p:=h
theorem kk{p:Prop}(h:p:=by repeat(first|(with_reducible first|exact ah.out (by assumption)|apply jf.anx|apply Qr|apply SL|apply Qs|refine Xa ?_ (ah.out (by assumption)) _)|exact ah.out (by assumption))):p:=h
theorem ma{p:Prop}(h:p:=by(try simp only[List.map_toArray,List.map_cons,List.map_nil]);first|done|rfl|(simp only[List.length_drop,List.length_take];rfl)):p:=h
theorem jI{α:Type}(l:List α)(i:Nat)(a:α):l.toArray.setIfInBounds i a=(l.set i a).toArray:=List.setIfInBounds_toArray l i a
theorem jJ{α:Type}(a b:α)(l:List α):(a:: l).set 0 b=b:: l:=rfl
theorem l_c{α:Type}(a b:α)(l:List α)(n:Nat):(a:: l).set (n+1) b=a:: l.set n b:=rfl
theorem er{p:Prop}(h:p:=by first|rfl|(simp[QY,QZ]<;>rfl)|(simp[*,QY,QZ]<;>rfl)):p:=h
theorem rs{p:Prop}(h:p:=by first|rfl|(simp;done)|(simp[*];done)|(simp;rfl)):p:=h
theorem jP{w:World}{g t:Nat}{a b c:Value}(h:w.heap[g]? =some (.cells #[a,b,c] t (0,0))):w.cell? ⟨g,0,none⟩=some a∧w.cell? ⟨g,1,none⟩=some b∧w.cell? ⟨g,2,none⟩=some c∧w.frozen? ⟨g,0,none⟩=false∧w.frozen? ⟨g,1,none⟩=false∧w.frozen? ⟨g,2,none⟩=false:=
 ⟨(aI h 0).trans rfl,(aI h 1).trans rfl,(aI h 2).trans rfl,kE h 0,kE h 1,kE h 2⟩
theorem wO{w:World}{g t:Nat}{a b:Value}(h:w.heap[g]? =some (.cells #[a,b] t (0,0))):w.cell? ⟨g,0,none⟩=some a∧w.cell? ⟨g,1,none⟩=some b∧w.frozen? ⟨g,0,none⟩=false∧w.frozen? ⟨g,1,none⟩=false:=
 ⟨(aI h 0).trans rfl,(aI h 1).trans rfl,kE h 0,kE h 1⟩
theorem bh{w a b:World}(_h0:Below w.heap.size w a)(h:Below w.heap.size w b:=by repeat(first|(with_reducible first|exact ah.out (by assumption)|apply mF|apply kW|apply eY|refine lF ?_ (ah.out (by assumption)))|exact ah.out (by assumption))):Below w.heap.size w b:=h
theorem kh{w a b:World}{g:Nat}{row:Option Nat}(_h0:jf w a g row)(h:jf w b g row:=by repeat(first|(with_reducible first|exact ah.out (by assumption)|apply jf.anx|apply Qr|apply SL|apply Qs|refine Xa ?_ (ah.out (by assumption)) _)|exact ah.out (by assumption))):jf w b g row:=h
end Go.Proofs.YtncdadcmghglkaaGreatDoor.X
