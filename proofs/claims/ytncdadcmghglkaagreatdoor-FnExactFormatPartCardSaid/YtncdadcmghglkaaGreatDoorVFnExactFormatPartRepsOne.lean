-- PRINTED BY print.sh 35421559b90ae4d0a3588c463048766b98c2df88dd9212a6774a882060cdf62d: not written by this session
import Derived.Test.YtncdadcmghglkaaGreatDoorVFnExactFormatPartWords
namespace Go.Proofs.YtncdadcmghglkaaGreatDoorW.dB
theorem iF.one{α:Type}{R:α→List Value→Prop}{ps:List α}{cs:List Value}{p:α}{v:Value}(hp:R p [v])(h:iF R 1 ps cs):iF R 1 (p:: ps) (v:: cs):=by
 refine⟨by simp[h.1],fun j q hq=>?_⟩
 cases j with
 |zero=>
  simp only[List.getElem?_cons_zero,Option.some.injEq]at hq;subst hq
  simpa using hp
 |succ j=>
  simp only[List.getElem?_cons_succ]at hq;have h1:=h.2 j q hq
  simpa [Nat.mul_one] using h1
theorem iF.front{α:Type}{R:α→List Value→Prop}{size:Nat}{ps:List α}{cs c all:List Value}{p:α}(hp:R p c)(hc:c.length=size)(h:iF R size ps cs)(ha:c++cs=all):iF R size (p:: ps) all:=by
 subst ha;refine⟨by rw[List.length_append,hc,h.1,List.length_cons,Nat.succ_mul,Nat.add_comm],fun j q hq=>?_⟩
 cases j with
 |zero=>
  simp only[List.getElem?_cons_zero,Option.some.injEq]at hq;subst hq;rw[Nat.zero_mul,List.drop_zero,List.take_append_of_le_length (by omega),List.take_of_length_le (by omega)];exact hp
 |succ j=>
  simp only[List.getElem?_cons_succ]at hq;have h1:=h.2 j q hq;rw[Nat.succ_mul,List.drop_append,List.drop_of_length_le (by rw[hc];exact Nat.le_add_left _ _),List.nil_append,hc,Nat.add_sub_cancel];exact h1
theorem iF.c2{α:Type}{R:α→List Value→Prop}{ps:List α}{cs:List Value}{p:α}{va vb:Value}(hp:R p [va,vb])(h:iF R 2 ps cs):iF R 2 (p:: ps) (va:: vb:: cs):=iF.front hp rfl h rfl
theorem iF.c3{α:Type}{R:α→List Value→Prop}{ps:List α}{cs:List Value}{p:α}{va vb vc:Value}(hp:R p [va,vb,vc])(h:iF R 3 ps cs):iF R 3 (p:: ps) (va:: vb:: vc:: cs):=iF.front hp rfl h rfl
theorem iF.c4{α:Type}{R:α→List Value→Prop}{ps:List α}{cs:List Value}{p:α}{va vb vc vd:Value}(hp:R p [va,vb,vc,vd])(h:iF R 4 ps cs):iF R 4 (p:: ps) (va:: vb:: vc:: vd:: cs):=iF.front hp rfl h rfl
theorem iF.c5{α:Type}{R:α→List Value→Prop}{ps:List α}{cs:List Value}{p:α}{va vb vc vd ve:Value}(hp:R p [va,vb,vc,vd,ve])(h:iF R 5 ps cs):iF R 5 (p:: ps) (va:: vb:: vc:: vd:: ve:: cs):=iF.front hp rfl h rfl
theorem iF.c6{α:Type}{R:α→List Value→Prop}{ps:List α}{cs:List Value}{p:α}{va vb vc vd ve vf:Value}(hp:R p [va,vb,vc,vd,ve,vf])(h:iF R 6 ps cs):iF R 6 (p:: ps) (va:: vb:: vc:: vd:: ve:: vf:: cs):=iF.front hp rfl h rfl
theorem iF.c7{α:Type}{R:α→List Value→Prop}{ps:List α}{cs:List Value}{p:α}{va vb vc vd ve vf vg:Value}(hp:R p [va,vb,vc,vd,ve,vf,vg])(h:iF R 7 ps cs):iF R 7 (p:: ps) (va:: vb:: vc:: vd:: ve:: vf:: vg:: cs):=iF.front hp rfl h rfl
theorem iF.c8{α:Type}{R:α→List Value→Prop}{ps:List α}{cs:List Value}{p:α}{va vb vc vd ve vf vg vh:Value}(hp:R p [va,vb,vc,vd,ve,vf,vg,vh])(h:iF R 8 ps cs):iF R 8 (p:: ps) (va:: vb:: vc:: vd:: ve:: vf:: vg:: vh:: cs):=iF.front hp rfl h rfl
theorem iF.c9{α:Type}{R:α→List Value→Prop}{ps:List α}{cs:List Value}{p:α}{va vb vc vd ve vf vg vh vi:Value}(hp:R p [va,vb,vc,vd,ve,vf,vg,vh,vi])(h:iF R 9 ps cs):iF R 9 (p:: ps) (va:: vb:: vc:: vd:: ve:: vf:: vg:: vh:: vi:: cs):=iF.front hp rfl h rfl
theorem iF.c10{α:Type}{R:α→List Value→Prop}{ps:List α}{cs:List Value}{p:α}{va vb vc vd ve vf vg vh vi vj:Value}(hp:R p [va,vb,vc,vd,ve,vf,vg,vh,vi,vj])(h:iF R 10 ps cs):iF R 10 (p:: ps) (va:: vb:: vc:: vd:: ve:: vf:: vg:: vh:: vi:: vj:: cs):=iF.front hp rfl h rfl
end Go.Proofs.YtncdadcmghglkaaGreatDoorW.dB
