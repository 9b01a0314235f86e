/- Short words of this session for what the printed walks close again and again: a fact on a world holds in the world that is drawn out of it; no condition beyond those of each statement. -/
import Derived.Test.YtdkipechiaploaaGreatDoorVFnPartTextXt
namespace Go.Proofs.YtdkipechiaploaaGreatDoor.X
open Go.RowKit Go.Proofs.YtdkipechiaploaaGreatDoorW.dZ Go.Proofs.YtdkipechiaploaaGreatDoorW.nK Go.Proofs.YtdkipechiaploaaGreatDoorW.rW
class Up (a b:World):Prop where
 up:Below a.heap.size a b
instance aKb {a:World}:Up a a:=⟨Below.refl _ _⟩
instance aIK {a b:World} [h:Up a b] (o:Obj):Up a (b.alloc o):=⟨qZ h.up o⟩
instance aIL {a b:World} [h:Up a b] (n:Nat):Up a (b.drewN n):=⟨sD h.up n⟩
instance aKc {a b:World} [h:Up a b]:Up a b.drew:=⟨iE h.up⟩
theorem ub{a b:World}{g:Nat}{o:Obj} [u:Up a b](h:a.heap[g]? =some o):b.heap[g]? =some o:=vG h u.up
theorem ur{α:Type}{d:Kd α}{e:Nat}{a b:World}{base:Nat}{ok:Nat→Prop}{v:Value}{xs:List α} [u:Up a b](h:Kd.R d e a base ok v xs):Kd.R d e b base ok v xs:=Kd.jM h u.up
theorem ul{w a b:World} [u:Up a b](h:Below w.heap.size w a):Below w.heap.size w b:=iM h u.up
theorem bb{p:Prop}(h:p:=by repeat(first|(with_reducible first|exact ah.out (by assumption)|apply qZ|apply sD|apply iE|refine vF ?_ (ah.out (by assumption)))|exact ah.out (by assumption))):p:=h
theorem kk{p:Prop}(h:p:=by repeat(first|(with_reducible first|exact ah.out (by assumption)|apply aN.az6|apply Zx|apply Dz|apply Zy|refine aeT ?_ (ah.out (by assumption)) _)|exact ah.out (by assumption))):p:=h
theorem ma{p:Prop}(h:p:=by(try simp only[List.map_toArray,List.map_cons,List.map_nil]);first|done|rfl|(simp only[List.length_drop,List.length_take];rfl)):p:=h
theorem yX{α:Type}(l:List α)(i:Nat)(a:α):l.toArray.setIfInBounds i a=(l.set i a).toArray:=List.setIfInBounds_toArray l i a
theorem yY{α:Type}(a b:α)(l:List α):(a:: l).set 0 b=b:: l:=rfl
theorem l_c{α:Type}(a b:α)(l:List α)(n:Nat):(a:: l).set (n+1) b=a:: l.set n b:=rfl
theorem er{p:Prop}(h:p:=by first|rfl|(simp[iT,iU]<;>rfl)|(simp[*,iT,iU]<;>rfl)):p:=h
theorem rs{p:Prop}(h:p:=by first|rfl|(simp;done)|(simp[*];done)|(simp;rfl)):p:=h
theorem iZ{w:World}{g t:Nat}{a b c:Value}(h:w.heap[g]? =some (.cells #[a,b,c] t (0,0))):w.cell? ⟨g,0,none⟩=some a∧w.cell? ⟨g,1,none⟩=some b∧w.cell? ⟨g,2,none⟩=some c∧w.frozen? ⟨g,0,none⟩=false∧w.frozen? ⟨g,1,none⟩=false∧w.frozen? ⟨g,2,none⟩=false:=
 ⟨(aH h 0).trans rfl,(aH h 1).trans rfl,(aH h 2).trans rfl,eu h 0,eu h 1,eu h 2⟩
theorem BM{w:World}{g t:Nat}{a b:Value}(h:w.heap[g]? =some (.cells #[a,b] t (0,0))):w.cell? ⟨g,0,none⟩=some a∧w.cell? ⟨g,1,none⟩=some b∧w.frozen? ⟨g,0,none⟩=false∧w.frozen? ⟨g,1,none⟩=false:=
 ⟨(aH h 0).trans rfl,(aH h 1).trans rfl,eu h 0,eu h 1⟩
theorem bh{w a b:World}(_h0:Below w.heap.size w a)(h:Below w.heap.size w b:=by repeat(first|(with_reducible first|exact ah.out (by assumption)|apply qZ|apply sD|apply iE|refine vF ?_ (ah.out (by assumption)))|exact ah.out (by assumption))):Below w.heap.size w b:=h
theorem kh{w a b:World}{g:Nat}{row:Option Nat}(_h0:aN w a g row)(h:aN w b g row:=by repeat(first|(with_reducible first|exact ah.out (by assumption)|apply aN.az6|apply Zx|apply Dz|apply Zy|refine aeT ?_ (ah.out (by assumption)) _)|exact ah.out (by assumption))):aN w b g row:=h
end Go.Proofs.YtdkipechiaploaaGreatDoor.X
