-- PRINTED BY print.sh 35421559b90ae4d0a3588c463048766b98c2df88dd9212a6774a882060cdf62d: not written by this session
import Derived.Test.YtdimppdlfgnhgaaGreatDoorVFnExactParsePartWords
namespace Go.Proofs.YtdimppdlfgnhgaaGreatDoorW.eP
theorem iW.one{α:Type}{R:α→List Value→Prop}{ps:List α}{cs:List Value}{p:α}{v:Value}(hp:R p [v])(h:iW R 1 ps cs):iW R 1 (p:: ps) (v:: cs):=by
 refine⟨by simp[h.1],fun j q hq=>?_⟩
 cases j with
 |zero=>
  simp only[List.getElem?_cons_zero,Option.some.injEq]at hq;subst hq
  simpa using hp
 |succ j=>
  simp only[List.getElem?_cons_succ]at hq;have h1:=h.2 j q hq
  simpa [Nat.mul_one] using h1
theorem iW.front{α:Type}{R:α→List Value→Prop}{size:Nat}{ps:List α}{cs c all:List Value}{p:α}(hp:R p c)(hc:c.length=size)(h:iW R size ps cs)(ha:c++cs=all):iW R size (p:: ps) all:=by
 subst ha;refine⟨by rw[List.length_append,hc,h.1,List.length_cons,Nat.succ_mul,Nat.add_comm],fun j q hq=>?_⟩
 cases j with
 |zero=>
  simp only[List.getElem?_cons_zero,Option.some.injEq]at hq;subst hq;rw[Nat.zero_mul,List.drop_zero,List.take_append_of_le_length (by omega),List.take_of_length_le (by omega)];exact hp
 |succ j=>
  simp only[List.getElem?_cons_succ]at hq;have h1:=h.2 j q hq;rw[Nat.succ_mul,List.drop_append,List.drop_of_length_le (by rw[hc];exact Nat.le_add_left _ _),List.nil_append,hc,Nat.add_sub_cancel];exact h1
theorem iW.c2{α:Type}{R:α→List Value→Prop}{ps:List α}{cs:List Value}{p:α}{va vb:Value}(hp:R p [va,vb])(h:iW R 2 ps cs):iW R 2 (p:: ps) (va:: vb:: cs):=iW.front hp rfl h rfl
theorem iW.c3{α:Type}{R:α→List Value→Prop}{ps:List α}{cs:List Value}{p:α}{va vb vc:Value}(hp:R p [va,vb,vc])(h:iW R 3 ps cs):iW R 3 (p:: ps) (va:: vb:: vc:: cs):=iW.front hp rfl h rfl
theorem iW.c4{α:Type}{R:α→List Value→Prop}{ps:List α}{cs:List Value}{p:α}{va vb vc vd:Value}(hp:R p [va,vb,vc,vd])(h:iW R 4 ps cs):iW R 4 (p:: ps) (va:: vb:: vc:: vd:: cs):=iW.front hp rfl h rfl
theorem iW.c5{α:Type}{R:α→List Value→Prop}{ps:List α}{cs:List Value}{p:α}{va vb vc vd ve:Value}(hp:R p [va,vb,vc,vd,ve])(h:iW R 5 ps cs):iW R 5 (p:: ps) (va:: vb:: vc:: vd:: ve:: cs):=iW.front hp rfl h rfl
theorem iW.c6{α:Type}{R:α→List Value→Prop}{ps:List α}{cs:List Value}{p:α}{va vb vc vd ve vf:Value}(hp:R p [va,vb,vc,vd,ve,vf])(h:iW R 6 ps cs):iW R 6 (p:: ps) (va:: vb:: vc:: vd:: ve:: vf:: cs):=iW.front hp rfl h rfl
theorem iW.c7{α:Type}{R:α→List Value→Prop}{ps:List α}{cs:List Value}{p:α}{va vb vc vd ve vf vg:Value}(hp:R p [va,vb,vc,vd,ve,vf,vg])(h:iW R 7 ps cs):iW R 7 (p:: ps) (va:: vb:: vc:: vd:: ve:: vf:: vg:: cs):=iW.front hp rfl h rfl
theorem iW.c8{α:Type}{R:α→List Value→Prop}{ps:List α}{cs:List Value}{p:α}{va vb vc vd ve vf vg vh:Value}(hp:R p [va,vb,vc,vd,ve,vf,vg,vh])(h:iW R 8 ps cs):iW R 8 (p:: ps) (va:: vb:: vc:: vd:: ve:: vf:: vg:: vh:: cs):=iW.front hp rfl h rfl
theorem iW.c9{α:Type}{R:α→List Value→Prop}{ps:List α}{cs:List Value}{p:α}{va vb vc vd ve vf vg vh vi:Value}(hp:R p [va,vb,vc,vd,ve,vf,vg,vh,vi])(h:iW R 9 ps cs):iW R 9 (p:: ps) (va:: vb:: vc:: vd:: ve:: vf:: vg:: vh:: vi:: cs):=iW.front hp rfl h rfl
theorem iW.c10{α:Type}{R:α→List Value→Prop}{ps:List α}{cs:List Value}{p:α}{va vb vc vd ve vf vg vh vi vj:Value}(hp:R p [va,vb,vc,vd,ve,vf,vg,vh,vi,vj])(h:iW R 10 ps cs):iW R 10 (p:: ps) (va:: vb:: vc:: vd:: ve:: vf:: vg:: vh:: vi:: vj:: cs):=iW.front hp rfl h rfl
end Go.Proofs.YtdimppdlfgnhgaaGreatDoorW.eP
