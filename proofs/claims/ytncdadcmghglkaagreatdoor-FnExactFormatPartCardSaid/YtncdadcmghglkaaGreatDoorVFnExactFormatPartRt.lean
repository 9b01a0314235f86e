/- Words of this session for a region whose order is drawn: its operations one behind the other in an order that is told, each that only looks taken first, what looks stay true as long as all that stood at its start stands; no condition beyond those of each statement. -/
import Derived.Test.YtncdadcmghglkaaGreatDoorVFnExactFormatPartXt
namespace Go.Proofs.YtncdadcmghglkaaGreatDoor.X
open Go.RowKit Go.Proofs.YtncdadcmghglkaaGreatDoorW.dB Go.Proofs.YtncdadcmghglkaaGreatDoorW.iy Go.Proofs.YtncdadcmghglkaaGreatDoorW.jo
def SB:Op→Bool
 | .call {callee:= .builtin b, ..}=>match b with| .len| .cap| .min| .max=>false|_=>true
 | .alloc _| .box .. | .buildSlice .. | .makeSlice .. | .makeMap .. | .makeChan .. | .store .. | .convert .. | .call _| .go _| .defer _| .panic _| .send .. | .recv .. | .select .. | .mapUpdate .. | .insert .. | .mapEntry .. | .entryStore .. | .next ..=>true
 |_=>false
section
variable {P:Program} {ops:Array Oper} {Q:Exit→Act→World→Prop} {S:World→Prop}
def afG(ops:Array Oper):Array Bool→List Nat→Bool
 |l,[]=>Region.ready .any ops l==[]
 |l,i:: is=>(match ops[i]? with
  |some o=>if SB o.op then Region.ready .any ops l==[i]else Region.free .any ops l i&&(Region.ready .any ops l).contains i&&Region.En .any ops l
  |none=>false)&&afG ops (l.setIfInBounds i true) is
def F9(P:Program)(ops:Array Oper)(Q:Exit→Act→World→Prop)(S:World→Prop):List Nat→Act→World→Prop
 |[],a,w=>Q .normal a w
 |i:: is,a,w=>∃o,ops[i]? =some o∧((SB o.op=false∧∃v,YieldsIf P ops S o v a∧F9 P ops Q S is (a.put o.dst v) w)∨
   (SB o.op=true∧∀K:Act→World→Prop,Shut (∀a' w',S w'→F9 P ops Q S is a' w'→K a' w')→if Region.wanted o (yielded ops a.tmps)=true then Oper.wp P o a w K Q else K (a.put o.dst undef) w))
theorem MG(hs:Region.noSelect ops=true)(hQ:∀c a d v w,Q (.panic c) (Act.put a d v) w→Q (.panic c) a w):∀(is:List Nat) (l:Array Bool) (a:Act) (w:World),afG ops l is=true→S w→F9 P ops Q S is a w→dJ P .any ops Q S [] is.length l a w
 |[],l,a,w,hc,_,h=>AA (by simpa [afG] using hc) h 0
 |i:: is,l,a,w,hc,hS,h=>by
  obtain⟨o,ho,h⟩:=h;simp only[afG,ho,Bool.and_eq_true]at hc;obtain⟨hc,hr⟩:=hc;rcases h with⟨hq,v,hy,h⟩|⟨hq,h⟩
  ·rw[hq]at hc;simp only[Bool.false_eq_true,if_false,Bool.and_eq_true]at hc;obtain⟨⟨h1,h2⟩,h3⟩:=hc;exact Az ho hs h1 h2 h3 (by simp[Region.lastB]) (fun c a' w' h'=>hQ c a' _ _ w' h') hy hS (MG hs hQ is _ _ _ hr hS h)
  ·rw[hq]at hc;simp only[if_true]at hc;exact oW (by simpa using hc) (by simp) (jv.cons ho (by simp) (fun K hK=>h K (fun a' w' hS' h'=>hK a' w' hS' (fun anu=>MG hs hQ is _ _ _ hr anu h'))) jv.nil)
def arP(ops:Array Oper)(is:List Nat):Bool:=Region.noSelect ops&&(is.length==ops.size)&&afG ops (Array.replicate ops.size false) is
theorem avi{id:Nat}{a:Act}{w:World}(is:List Nat)(hm:P.follows .mixedOrders=true)(hc:arP ops is=true)(hQ:∀c a d v w,Q (.panic c) (Act.put a d v) w→Q (.panic c) a w)
  (h:∀wd:World,Below w.heap.size w wd→ah (Below wd.heap.size wd wd)→F9 P ops Q (fun w'=>Below wd.heap.size wd w') is a wd):(Code.region id ops true).wp P Q a w:=by
 simp only[arP,Bool.and_eq_true,beq_iff_eq]at hc;obtain⟨⟨h1,h2⟩,h3⟩:=hc;refine AB (S:=fun w'=>Below w.drew.heap.size w.drew w') (ds:=[]) hm ?_;have:=MG h1 hQ is _ a w.drew h3 (Below.refl _ _) (h _ (eY (Below.refl _ _)) ⟨Below.refl _ _⟩)
 rwa [h2]at this
theorem ah2{a:Act}{w:World}(h:Q .normal a w):F9 P ops Q S [] a w:=h
theorem aew{i:Nat}{is:List Nat}{o:Oper}{v:Value}{a:Act}{w:World}(ho:ops[i]? =some o)(hq:SB o.op=false)(hw:Region.wanted o (yielded ops a.tmps)=true)(hy:∀w',S w'→(execOp a.eval o).run P w'= .ok (.value v) w'){a':Act}(ha:a.put o.dst v=a')(h:F9 P ops Q S is a' w):F9 P ops Q S (i:: is) a w:=by
 subst ha;exact⟨o,ho, .inl ⟨hq,v, .inl ⟨hw,hy⟩,h⟩⟩
theorem atz{i:Nat}{is:List Nat}{o:Oper}{a a':Act}{w:World}(ho:ops[i]? =some o)(hq:SB o.op=false)(hw:Region.wanted o (yielded ops a.tmps)=false)(ha:a.put o.dst undef=a')(h:F9 P ops Q S is a' w):F9 P ops Q S (i:: is) a w:=by
 subst ha;exact⟨o,ho, .inl ⟨hq,undef, .inr ⟨hw,rfl⟩,h⟩⟩
theorem aex{i:Nat}{is:List Nat}{o:Oper}{a:Act}{w:World}(ho:ops[i]? =some o)(hq:SB o.op=true)(h:∀K:Act→World→Prop,Shut (∀a' w',S w'→F9 P ops Q S is a' w'→K a' w')→if Region.wanted o (yielded ops a.tmps)=true then Oper.wp P o a w K Q else K (a.put o.dst undef) w):F9 P ops Q S (i:: is) a w:=⟨o,ho, .inr ⟨hq,h⟩⟩
theorem ah3{w w':World}(h:Below w.heap.size w w')(a:Addr):(w.cell? a).isSome=true→w'.cell? a=w.cell? a:=fun hs=>by
 obtain⟨v,hv⟩:=Option.isSome_iff_exists.1 hs;exact h.cell (World.block_lt_of_cell? w _ hv)
end
end Go.Proofs.YtncdadcmghglkaaGreatDoor.X
