-- PRINTED BY print.sh 35421559b90ae4d0a3588c463048766b98c2df88dd9212a6774a882060cdf62d: not written by this session
import Derived.Test.YtdimppdlfgnhgaaGreatDoorVFnExactPartAtWords
namespace Go.Proofs.YtdimppdlfgnhgaaGreatDoorW.fD
theorem jJ.one{α:Type}{R:α→List Value→Prop}{ps:List α}{cs:List Value}{p:α}{v:Value}(hp:R p [v])(h:jJ R 1 ps cs):jJ R 1 (p:: ps) (v:: cs):=by
 refine⟨by simp[h.1],fun j q hq=>?_⟩
 cases j with
 |zero=>
  simp only[List.getElem?_cons_zero,Option.some.injEq]at hq;subst hq
  simpa using hp
 |succ j=>
  simp only[List.getElem?_cons_succ]at hq;have h1:=h.2 j q hq
  simpa [Nat.mul_one] using h1
theorem jJ.front{α:Type}{R:α→List Value→Prop}{size:Nat}{ps:List α}{cs c all:List Value}{p:α}(hp:R p c)(hc:c.length=size)(h:jJ R size ps cs)(ha:c++cs=all):jJ R size (p:: ps) all:=by
 subst ha;refine⟨by rw[List.length_append,hc,h.1,List.length_cons,Nat.succ_mul,Nat.add_comm],fun j q hq=>?_⟩
 cases j with
 |zero=>
  simp only[List.getElem?_cons_zero,Option.some.injEq]at hq;subst hq;rw[Nat.zero_mul,List.drop_zero,List.take_append_of_le_length (by omega),List.take_of_length_le (by omega)];exact hp
 |succ j=>
  simp only[List.getElem?_cons_succ]at hq;have h1:=h.2 j q hq;rw[Nat.succ_mul,List.drop_append,List.drop_of_length_le (by rw[hc];exact Nat.le_add_left _ _),List.nil_append,hc,Nat.add_sub_cancel];exact h1
theorem jJ.c2{α:Type}{R:α→List Value→Prop}{ps:List α}{cs:List Value}{p:α}{va vb:Value}(hp:R p [va,vb])(h:jJ R 2 ps cs):jJ R 2 (p:: ps) (va:: vb:: cs):=jJ.front hp rfl h rfl
theorem jJ.c3{α:Type}{R:α→List Value→Prop}{ps:List α}{cs:List Value}{p:α}{va vb vc:Value}(hp:R p [va,vb,vc])(h:jJ R 3 ps cs):jJ R 3 (p:: ps) (va:: vb:: vc:: cs):=jJ.front hp rfl h rfl
theorem jJ.c4{α:Type}{R:α→List Value→Prop}{ps:List α}{cs:List Value}{p:α}{va vb vc vd:Value}(hp:R p [va,vb,vc,vd])(h:jJ R 4 ps cs):jJ R 4 (p:: ps) (va:: vb:: vc:: vd:: cs):=jJ.front hp rfl h rfl
theorem jJ.c5{α:Type}{R:α→List Value→Prop}{ps:List α}{cs:List Value}{p:α}{va vb vc vd ve:Value}(hp:R p [va,vb,vc,vd,ve])(h:jJ R 5 ps cs):jJ R 5 (p:: ps) (va:: vb:: vc:: vd:: ve:: cs):=jJ.front hp rfl h rfl
theorem jJ.c6{α:Type}{R:α→List Value→Prop}{ps:List α}{cs:List Value}{p:α}{va vb vc vd ve vf:Value}(hp:R p [va,vb,vc,vd,ve,vf])(h:jJ R 6 ps cs):jJ R 6 (p:: ps) (va:: vb:: vc:: vd:: ve:: vf:: cs):=jJ.front hp rfl h rfl
theorem jJ.c7{α:Type}{R:α→List Value→Prop}{ps:List α}{cs:List Value}{p:α}{va vb vc vd ve vf vg:Value}(hp:R p [va,vb,vc,vd,ve,vf,vg])(h:jJ R 7 ps cs):jJ R 7 (p:: ps) (va:: vb:: vc:: vd:: ve:: vf:: vg:: cs):=jJ.front hp rfl h rfl
theorem jJ.c8{α:Type}{R:α→List Value→Prop}{ps:List α}{cs:List Value}{p:α}{va vb vc vd ve vf vg vh:Value}(hp:R p [va,vb,vc,vd,ve,vf,vg,vh])(h:jJ R 8 ps cs):jJ R 8 (p:: ps) (va:: vb:: vc:: vd:: ve:: vf:: vg:: vh:: cs):=jJ.front hp rfl h rfl
theorem jJ.c9{α:Type}{R:α→List Value→Prop}{ps:List α}{cs:List Value}{p:α}{va vb vc vd ve vf vg vh vi:Value}(hp:R p [va,vb,vc,vd,ve,vf,vg,vh,vi])(h:jJ R 9 ps cs):jJ R 9 (p:: ps) (va:: vb:: vc:: vd:: ve:: vf:: vg:: vh:: vi:: cs):=jJ.front hp rfl h rfl
theorem jJ.c10{α:Type}{R:α→List Value→Prop}{ps:List α}{cs:List Value}{p:α}{va vb vc vd ve vf vg vh vi vj:Value}(hp:R p [va,vb,vc,vd,ve,vf,vg,vh,vi,vj])(h:jJ R 10 ps cs):jJ R 10 (p:: ps) (va:: vb:: vc:: vd:: ve:: vf:: vg:: vh:: vi:: vj:: cs):=jJ.front hp rfl h rfl
end Go.Proofs.YtdimppdlfgnhgaaGreatDoorW.fD
