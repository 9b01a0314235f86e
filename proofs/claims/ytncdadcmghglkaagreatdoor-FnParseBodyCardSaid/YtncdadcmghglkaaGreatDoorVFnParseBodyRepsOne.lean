-- PRINTED BY print.sh 35421559b90ae4d0a3588c463048766b98c2df88dd9212a6774a882060cdf62d: not written by this session
import Derived.Test.YtncdadcmghglkaaGreatDoorVFnParseBodyWords
namespace Go.Proofs.YtncdadcmghglkaaGreatDoorW.dK
theorem dP.one{α:Type}{R:α→List Value→Prop}{ps:List α}{cs:List Value}{p:α}{v:Value}(hp:R p [v])(h:dP R 1 ps cs):dP R 1 (p:: ps) (v:: cs):=by
 refine⟨by simp[h.1],fun j q hq=>?_⟩
 cases j with
 |zero=>
  simp only[List.getElem?_cons_zero,Option.some.injEq]at hq;subst hq
  simpa using hp
 |succ j=>
  simp only[List.getElem?_cons_succ]at hq;have h1:=h.2 j q hq
  simpa [Nat.mul_one] using h1
theorem dP.front{α:Type}{R:α→List Value→Prop}{size:Nat}{ps:List α}{cs c all:List Value}{p:α}(hp:R p c)(hc:c.length=size)(h:dP R size ps cs)(ha:c++cs=all):dP R size (p:: ps) all:=by
 subst ha;refine⟨by rw[List.length_append,hc,h.1,List.length_cons,Nat.succ_mul,Nat.add_comm],fun j q hq=>?_⟩
 cases j with
 |zero=>
  simp only[List.getElem?_cons_zero,Option.some.injEq]at hq;subst hq;rw[Nat.zero_mul,List.drop_zero,List.take_append_of_le_length (by omega),List.take_of_length_le (by omega)];exact hp
 |succ j=>
  simp only[List.getElem?_cons_succ]at hq;have h1:=h.2 j q hq;rw[Nat.succ_mul,List.drop_append,List.drop_of_length_le (by rw[hc];exact Nat.le_add_left _ _),List.nil_append,hc,Nat.add_sub_cancel];exact h1
theorem dP.c2{α:Type}{R:α→List Value→Prop}{ps:List α}{cs:List Value}{p:α}{va vb:Value}(hp:R p [va,vb])(h:dP R 2 ps cs):dP R 2 (p:: ps) (va:: vb:: cs):=dP.front hp rfl h rfl
theorem dP.c3{α:Type}{R:α→List Value→Prop}{ps:List α}{cs:List Value}{p:α}{va vb vc:Value}(hp:R p [va,vb,vc])(h:dP R 3 ps cs):dP R 3 (p:: ps) (va:: vb:: vc:: cs):=dP.front hp rfl h rfl
theorem dP.c4{α:Type}{R:α→List Value→Prop}{ps:List α}{cs:List Value}{p:α}{va vb vc vd:Value}(hp:R p [va,vb,vc,vd])(h:dP R 4 ps cs):dP R 4 (p:: ps) (va:: vb:: vc:: vd:: cs):=dP.front hp rfl h rfl
theorem dP.c5{α:Type}{R:α→List Value→Prop}{ps:List α}{cs:List Value}{p:α}{va vb vc vd ve:Value}(hp:R p [va,vb,vc,vd,ve])(h:dP R 5 ps cs):dP R 5 (p:: ps) (va:: vb:: vc:: vd:: ve:: cs):=dP.front hp rfl h rfl
theorem dP.c6{α:Type}{R:α→List Value→Prop}{ps:List α}{cs:List Value}{p:α}{va vb vc vd ve vf:Value}(hp:R p [va,vb,vc,vd,ve,vf])(h:dP R 6 ps cs):dP R 6 (p:: ps) (va:: vb:: vc:: vd:: ve:: vf:: cs):=dP.front hp rfl h rfl
theorem dP.c7{α:Type}{R:α→List Value→Prop}{ps:List α}{cs:List Value}{p:α}{va vb vc vd ve vf vg:Value}(hp:R p [va,vb,vc,vd,ve,vf,vg])(h:dP R 7 ps cs):dP R 7 (p:: ps) (va:: vb:: vc:: vd:: ve:: vf:: vg:: cs):=dP.front hp rfl h rfl
theorem dP.c8{α:Type}{R:α→List Value→Prop}{ps:List α}{cs:List Value}{p:α}{va vb vc vd ve vf vg vh:Value}(hp:R p [va,vb,vc,vd,ve,vf,vg,vh])(h:dP R 8 ps cs):dP R 8 (p:: ps) (va:: vb:: vc:: vd:: ve:: vf:: vg:: vh:: cs):=dP.front hp rfl h rfl
theorem dP.c9{α:Type}{R:α→List Value→Prop}{ps:List α}{cs:List Value}{p:α}{va vb vc vd ve vf vg vh vi:Value}(hp:R p [va,vb,vc,vd,ve,vf,vg,vh,vi])(h:dP R 9 ps cs):dP R 9 (p:: ps) (va:: vb:: vc:: vd:: ve:: vf:: vg:: vh:: vi:: cs):=dP.front hp rfl h rfl
theorem dP.c10{α:Type}{R:α→List Value→Prop}{ps:List α}{cs:List Value}{p:α}{va vb vc vd ve vf vg vh vi vj:Value}(hp:R p [va,vb,vc,vd,ve,vf,vg,vh,vi,vj])(h:dP R 10 ps cs):dP R 10 (p:: ps) (va:: vb:: vc:: vd:: ve:: vf:: vg:: vh:: vi:: vj:: cs):=dP.front hp rfl h rfl
end Go.Proofs.YtncdadcmghglkaaGreatDoorW.dK
