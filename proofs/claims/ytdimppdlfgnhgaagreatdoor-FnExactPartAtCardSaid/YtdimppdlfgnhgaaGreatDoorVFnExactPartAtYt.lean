/- Short words of this session for what the printed walks close again and again: a fact on a world holds in the world that is drawn out of it; no condition beyond those of each statement. -/
import Derived.Test.YtdimppdlfgnhgaaGreatDoorVFnExactPartAtXt
namespace Go.Proofs.YtdimppdlfgnhgaaGreatDoor.X
open Go.RowKit Go.Proofs.YtdimppdlfgnhgaaGreatDoorW.fD Go.Proofs.YtdimppdlfgnhgaaGreatDoorW.mZ Go.Proofs.YtdimppdlfgnhgaaGreatDoorW.qy
class Up (a b:World):Prop where
 up:Below a.heap.size a b
instance aEH {a:World}:Up a a:=⟨Below.refl _ _⟩
instance aCc {a b:World} [h:Up a b] (o:Obj):Up a (b.alloc o):=⟨qg h.up o⟩
instance aCd {a b:World} [h:Up a b] (n:Nat):Up a (b.drewN n):=⟨qh h.up n⟩
instance aEI {a b:World} [h:Up a b]:Up a b.drew:=⟨fO h.up⟩
theorem ub{a b:World}{g:Nat}{o:Obj} [u:Up a b](h:a.heap[g]? =some o):b.heap[g]? =some o:=jy h u.up
theorem ur{α:Type}{d:Kd α}{e:Nat}{a b:World}{base:Nat}{ok:Nat→Prop}{v:Value}{xs:List α} [u:Up a b](h:Kd.R d e a base ok v xs):Kd.R d e b base ok v xs:=Kd.lZ h u.up
theorem ul{w a b:World} [u:Up a b](h:Below w.heap.size w a):Below w.heap.size w b:=aI h u.up
theorem bb{p:Prop}(h:p:=by repeat(first|(with_reducible first|exact ah.out (by assumption)|apply qg|apply qh|apply fO|refine nT ?_ (ah.out (by assumption)))|exact ah.out (by assumption))):p:=h
theorem kk{p:Prop}(h:p:=by repeat(first|(with_reducible first|exact ah.out (by assumption)|apply lS.axv|apply YF|apply aak|apply YG|refine ad7 ?_ (ah.out (by assumption)) _)|exact ah.out (by assumption))):p:=h
theorem ma{p:Prop}(h:p:=by(try simp only[List.map_toArray,List.map_cons,List.map_nil]);first|done|rfl|(simp only[List.length_drop,List.length_take];rfl)):p:=h
theorem jB{α:Type}(l:List α)(i:Nat)(a:α):l.toArray.setIfInBounds i a=(l.set i a).toArray:=List.setIfInBounds_toArray l i a
theorem jC{α:Type}(a b:α)(l:List α):(a:: l).set 0 b=b:: l:=rfl
theorem l_c{α:Type}(a b:α)(l:List α)(n:Nat):(a:: l).set (n+1) b=a:: l.set n b:=rfl
theorem er{p:Prop}(h:p:=by first|rfl|(simp[Zf,Zg]<;>rfl)|(simp[*,Zf,Zg]<;>rfl)):p:=h
theorem rs{p:Prop}(h:p:=by first|rfl|(simp;done)|(simp[*];done)|(simp;rfl)):p:=h
theorem iE{w:World}{g t:Nat}{a b c:Value}(h:w.heap[g]? =some (.cells #[a,b,c] t (0,0))):w.cell? ⟨g,0,none⟩=some a∧w.cell? ⟨g,1,none⟩=some b∧w.cell? ⟨g,2,none⟩=some c∧w.frozen? ⟨g,0,none⟩=false∧w.frozen? ⟨g,1,none⟩=false∧w.frozen? ⟨g,2,none⟩=false:=
 ⟨(aG h 0).trans rfl,(aG h 1).trans rfl,(aG h 2).trans rfl,jl h 0,jl h 1,jl h 2⟩
theorem AA{w:World}{g t:Nat}{a b:Value}(h:w.heap[g]? =some (.cells #[a,b] t (0,0))):w.cell? ⟨g,0,none⟩=some a∧w.cell? ⟨g,1,none⟩=some b∧w.frozen? ⟨g,0,none⟩=false∧w.frozen? ⟨g,1,none⟩=false:=
 ⟨(aG h 0).trans rfl,(aG h 1).trans rfl,jl h 0,jl h 1⟩
theorem kh{w a b:World}{g:Nat}{row:Option Nat}(_h0:lS w a g row)(h:lS w b g row:=by repeat(first|(with_reducible first|exact ah.out (by assumption)|apply lS.axv|apply YF|apply aak|apply YG|refine ad7 ?_ (ah.out (by assumption)) _)|exact ah.out (by assumption))):lS w b g row:=h
end Go.Proofs.YtdimppdlfgnhgaaGreatDoor.X
