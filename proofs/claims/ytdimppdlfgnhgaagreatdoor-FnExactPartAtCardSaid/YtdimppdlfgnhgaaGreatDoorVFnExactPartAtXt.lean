/- Plain words of this session for proofs by hand: small letters, the row that a conversion lays; no condition beyond those of each statement. -/
import Derived.Test.YtdimppdlfgnhgaaGreatDoorVFnExactPartAtWords
import Derived.Test.YtdimppdlfgnhgaaGreatDoorVFnExactPartAtLast
import Derived.Test.YtdimppdlfgnhgaaGreatDoorVFnExactPartAtMore
import Derived.LoopTactic
namespace Go.Proofs.YtdimppdlfgnhgaaGreatDoor.X
open Go.RowKit Go.Proofs.YtdimppdlfgnhgaaGreatDoorW.fD Go.Proofs.YtdimppdlfgnhgaaGreatDoorW.mZ Go.Proofs.YtdimppdlfgnhgaaGreatDoorW.qy
set_option linter.unusedVariables false
set_option linter.unusedSimpArgs false
def YQ(n:Int):Int:=if 65≤n∧n≤90 then n+32 else n
def J6(xs:List Int)(k:Nat):List Int:=(xs.take k).map YQ++xs.drop k
theorem nJ(xs:List Int)(k:Nat):(J6 xs k).length=xs.length:=by
 unfold J6;rw[List.length_append,List.length_map,List.length_take,List.length_drop];omega
theorem aaE(xs:List Int)(k:Nat)(h:k<xs.length):(J6 xs k).getD k 0=xs.getD k 0:=by
 unfold J6;simp only[List.getD_eq_getElem?_getD];rw[List.getElem?_append_right (by rw[List.length_map,List.length_take];omega),List.length_map,List.length_take,Nat.min_eq_left (by omega),List.getElem?_drop];simp
theorem SX(xs:List Int)(k:Nat)(h:k<xs.length):J6 xs (k+1)=(J6 xs k).set k (YQ (xs.getD k 0)):=by
 apply List.ext_getElem?;intro j;have hl:(J6 xs k).length=xs.length:=nJ xs k;unfold J6 at*;simp only[List.getD_eq_getElem?_getD,List.getElem?_eq_getElem h,Option.getD_some];rw[List.getElem?_set];by_cases hj:k=j
 ·subst hj;rw[if_pos rfl,if_pos (by omega),List.getElem?_append_left (by rw[List.length_map,List.length_take];omega)];simp[List.getElem?_take,h]
 ·rw[if_neg hj];by_cases hlt:j<k
  ·rw[List.getElem?_append_left (by rw[List.length_map,List.length_take];omega),List.getElem?_append_left (by rw[List.length_map,List.length_take];omega)];simp[List.getElem?_take,hlt,Nat.lt_succ_of_lt hlt]
  ·rw[List.getElem?_append_right (by rw[List.length_map,List.length_take];omega),List.getElem?_append_right (by rw[List.length_map,List.length_take];omega)];simp only[List.length_map,List.length_take,List.getElem?_drop]
   congr 1
   omega
theorem acK(xs:List Int)(n:Nat)(h:xs.length=n):J6 xs n=xs.map YQ:=by
 unfold J6;rw[List.take_of_length_le (by omega),List.drop_eq_nil_of_le (by omega),List.append_nil]
theorem aj1{n:Int}(h:¬(65≤n∧n≤90)):YQ n=n:=if_neg h
theorem Zn(xs:List Int)(k:Nat)(h:k<xs.length)(hn:¬(65≤xs.getD k 0∧xs.getD k 0≤90)):J6 xs (k+1)=J6 xs k:=by
 rw[SX xs k h,aj1 hn];apply List.ext_getElem?;intro j;rw[List.getElem?_set];by_cases hj:k=j
 ·subst hj;rw[if_pos rfl,if_pos (by rw[nJ];exact h)];have:=aaE xs k h;rw[List.getD_eq_getElem?_getD,List.getElem?_eq_getElem (by rw[nJ];exact h),Option.getD_some]at this;rw[List.getElem?_eq_getElem (by rw[nJ];exact h),this]
 ·rw[if_neg hj]
structure SV (w:World) (g:Nat) (xs:List Int) (W:World):Prop where
 cell:∀j,j<xs.length→W.cell? ⟨g,j,none⟩=some (.int .u8 (xs.getD j 0))
 free:∀j,j<xs.length→W.frozen? ⟨g,j,none⟩=false
 below:Below w.heap.size w W
theorem Pq(w:World)(e:TypeId)(s:ByteArray):SV w w.heap.size (bytesOf s) (Lib.bytesWorld w e s):=by
 refine⟨fun j hj=>?_,fun j hj=>?_,ad4 (Below.refl _ _) (Nat.le_refl _) e s⟩
 ·rw[bytesOf_length]at hj;rw[Lib.bytesWorld_cell w e s j hj];have h':j<s.data.toList.length:=by rw[G8];exact hj
  simp[bytesOf,List.getD_eq_getElem?_getD,List.getElem?_eq_getElem h']
 ·rw[bytesOf_length]at hj
  have hs:(Lib.bytesCells w e s).size=s.size+(grownCap w s.size 0 e-s.size):=by
   unfold Lib.bytesCells;rw[Array.size_append,Array.size_map,Array.size_replicate];rfl
  unfold World.frozen?;rw[Lib.bytesWorld_at_new];simp only;rw[decide_eq_false (by omega),Bool.false_and]
theorem SV.store{w W:World}{g:Nat}{xs:List Int}(h:SV w g xs W)(hg:w.heap.size≤g)(k:Nat)(hk:k<xs.length)(v:Int):SV w g (xs.set k v) (W.setCell ⟨g,k,none⟩ (.int .u8 v)):=by
 refine⟨fun j hj=>?_,fun j hj=>?_,h.below.setCell hg _⟩
 ·rw[List.length_set]at hj;by_cases e:k=j
  ·subst e;rw[World.cell?_setCell_same _ _ _ (h.cell k hk)];simp[List.getD_eq_getElem?_getD,hk]
  ·rw[World.cell?_setCell_other _ _ _ _ (by intro hh;injection hh with _ hh2 _;exact e hh2),h.cell j hj];simp[List.getD_eq_getElem?_getD,List.getElem?_set,e]
 ·rw[List.length_set]at hj;rw[World.frozen?_setCell];exact h.free j hj
theorem ND(s:ByteArray)(k:Nat):0≤(bytesOf s).getD k 0∧(bytesOf s).getD k 0≤255:=by
 have:=af5 s (k:Int);unfold rd at this;rw[Int.toNat_natCast]at this;rw[this];exact an7 s k
end Go.Proofs.YtdimppdlfgnhgaaGreatDoor.X
