/- Words of this session for a region whose order is drawn: its operations one behind the other in an order that is told, each that only looks taken first, what looks stay true as long as all that stood at its start stands; no condition beyond those of each statement. -/
import Derived.Test.YtdimppdlfgnhgaaGreatDoorVFnExactPartAtXt
namespace Go.Proofs.YtdimppdlfgnhgaaGreatDoor.X
open Go.RowKit Go.Proofs.YtdimppdlfgnhgaaGreatDoorW.fD Go.Proofs.YtdimppdlfgnhgaaGreatDoorW.mZ Go.Proofs.YtdimppdlfgnhgaaGreatDoorW.qy
def an2:Op→Bool
 | .call {callee:= .builtin b, ..}=>match b with| .len| .cap| .min| .max=>false|_=>true
 | .alloc _| .box .. | .buildSlice .. | .makeSlice .. | .makeMap .. | .makeChan .. | .store .. | .convert .. | .call _| .go _| .defer _| .panic _| .send .. | .recv .. | .select .. | .mapUpdate .. | .insert .. | .mapEntry .. | .entryStore .. | .next ..=>true
 |_=>false
section
variable {P:Program} {ops:Array Oper} {Q:Exit→Act→World→Prop} {S:World→Prop}
def an3(ops:Array Oper):Array Bool→List Nat→Bool
 |l,[]=>Region.ready .any ops l==[]
 |l,i:: is=>(match ops[i]? with
  |some o=>if an2 o.op then Region.ready .any ops l==[i]else Region.free .any ops l i&&(Region.ready .any ops l).contains i&&Region.JL .any ops l
  |none=>false)&&an3 ops (l.setIfInBounds i true) is
def aiO(P:Program)(ops:Array Oper)(Q:Exit→Act→World→Prop)(S:World→Prop):List Nat→Act→World→Prop
 |[],a,w=>Q .normal a w
 |i:: is,a,w=>∃o,ops[i]? =some o∧((an2 o.op=false∧∃v,YieldsIf P ops S o v a∧aiO P ops Q S is (a.put o.dst v) w)∨
   (an2 o.op=true∧∀K:Act→World→Prop,Shut (∀a' w',S w'→aiO P ops Q S is a' w'→K a' w')→if Region.wanted o (yielded ops a.tmps)=true then Oper.wp P o a w K Q else K (a.put o.dst undef) w))
theorem Uo(hs:Region.noSelect ops=true)(hQ:∀c a d v w,Q (.panic c) (Act.put a d v) w→Q (.panic c) a w):∀(is:List Nat) (l:Array Bool) (a:Act) (w:World),an3 ops l is=true→S w→aiO P ops Q S is a w→eH P .any ops Q S [] is.length l a w
 |[],l,a,w,hc,_,h=>FQ (by simpa [an3] using hc) h 0
 |i:: is,l,a,w,hc,hS,h=>by
  obtain⟨o,ho,h⟩:=h;simp only[an3,ho,Bool.and_eq_true]at hc;obtain⟨hc,hr⟩:=hc;rcases h with⟨hq,v,hy,h⟩|⟨hq,h⟩
  ·rw[hq]at hc;simp only[Bool.false_eq_true,if_false,Bool.and_eq_true]at hc;obtain⟨⟨h1,h2⟩,h3⟩:=hc;exact FP ho hs h1 h2 h3 (by simp[Region.lastB]) (fun c a' w' h'=>hQ c a' _ _ w' h') hy hS (Uo hs hQ is _ _ _ hr hS h)
  ·rw[hq]at hc;simp only[if_true]at hc;exact sF (by simpa using hc) (by simp) (kW.cons ho (by simp) (fun K hK=>h K (fun a' w' hS' h'=>hK a' w' hS' (fun axt=>Uo hs hQ is _ _ _ hr axt h'))) kW.nil)
def aB9(ops:Array Oper)(is:List Nat):Bool:=Region.noSelect ops&&(is.length==ops.size)&&an3 ops (Array.replicate ops.size false) is
theorem aGH{id:Nat}{a:Act}{w:World}(is:List Nat)(hm:P.follows .mixedOrders=true)(hc:aB9 ops is=true)(hQ:∀c a d v w,Q (.panic c) (Act.put a d v) w→Q (.panic c) a w)
  (h:∀wd:World,Below w.heap.size w wd→ah (Below wd.heap.size wd wd)→aiO P ops Q (fun w'=>Below wd.heap.size wd w') is a wd):(Code.region id ops true).wp P Q a w:=by
 simp only[aB9,Bool.and_eq_true,beq_iff_eq]at hc;obtain⟨⟨h1,h2⟩,h3⟩:=hc;refine FT (S:=fun w'=>Below w.drew.heap.size w.drew w') (ds:=[]) hm ?_;have:=Uo h1 hQ is _ a w.drew h3 (Below.refl _ _) (h _ (fO (Below.refl _ _)) ⟨Below.refl _ _⟩)
 rwa [h2]at this
theorem aD8{a:Act}{w:World}(h:Q .normal a w):aiO P ops Q S [] a w:=h
theorem aBp{i:Nat}{is:List Nat}{o:Oper}{v:Value}{a:Act}{w:World}(ho:ops[i]? =some o)(hq:an2 o.op=false)(hw:Region.wanted o (yielded ops a.tmps)=true)(hy:∀w',S w'→(execOp a.eval o).run P w'= .ok (.value v) w'){a':Act}(ha:a.put o.dst v=a')(h:aiO P ops Q S is a' w):aiO P ops Q S (i:: is) a w:=by
 subst ha;exact⟨o,ho, .inl ⟨hq,v, .inl ⟨hw,hy⟩,h⟩⟩
theorem aBq{i:Nat}{is:List Nat}{o:Oper}{a:Act}{w:World}(ho:ops[i]? =some o)(hq:an2 o.op=true)(h:∀K:Act→World→Prop,Shut (∀a' w',S w'→aiO P ops Q S is a' w'→K a' w')→if Region.wanted o (yielded ops a.tmps)=true then Oper.wp P o a w K Q else K (a.put o.dst undef) w):aiO P ops Q S (i:: is) a w:=⟨o,ho, .inr ⟨hq,h⟩⟩
theorem aD9{w w':World}(h:Below w.heap.size w w')(a:Addr):(w.cell? a).isSome=true→w'.cell? a=w.cell? a:=fun hs=>by
 obtain⟨v,hv⟩:=Option.isSome_iff_exists.1 hs;exact h.cell (World.block_lt_of_cell? w _ hv)
end
end Go.Proofs.YtdimppdlfgnhgaaGreatDoor.X
