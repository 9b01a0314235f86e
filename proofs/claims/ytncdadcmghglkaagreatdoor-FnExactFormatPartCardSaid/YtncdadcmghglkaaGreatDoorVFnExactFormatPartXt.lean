/- Plain words of this session for proofs by hand: small letters, the row that a conversion lays; no condition beyond those of each statement. -/
import Derived.Test.YtncdadcmghglkaaGreatDoorVFnExactFormatPartWords
import Derived.Test.YtncdadcmghglkaaGreatDoorVFnExactFormatPartLast
import Derived.Test.YtncdadcmghglkaaGreatDoorVFnExactFormatPartMore
import Derived.LoopTactic
namespace Go.Proofs.YtncdadcmghglkaaGreatDoor.X
open Go.RowKit Go.Proofs.YtncdadcmghglkaaGreatDoorW.dB Go.Proofs.YtncdadcmghglkaaGreatDoorW.iy Go.Proofs.YtncdadcmghglkaaGreatDoorW.jo
set_option linter.unusedVariables false
set_option linter.unusedSimpArgs false
def Qy(n:Int):Int:=if 65≤n∧n≤90 then n+32 else n
def EI(xs:List Int)(k:Nat):List Int:=(xs.take k).map Qy++xs.drop k
theorem kP(xs:List Int)(k:Nat):(EI xs k).length=xs.length:=by
 unfold EI;rw[List.length_append,List.length_map,List.length_take,List.length_drop];omega
theorem TD(xs:List Int)(k:Nat)(h:k<xs.length):(EI xs k).getD k 0=xs.getD k 0:=by
 unfold EI;simp only[List.getD_eq_getElem?_getD];rw[List.getElem?_append_right (by rw[List.length_map,List.length_take];omega),List.length_map,List.length_take,Nat.min_eq_left (by omega),List.getElem?_drop];simp
theorem Lm(xs:List Int)(k:Nat)(h:k<xs.length):EI xs (k+1)=(EI xs k).set k (Qy (xs.getD k 0)):=by
 apply List.ext_getElem?;intro j;have hl:(EI xs k).length=xs.length:=kP xs k;unfold EI at*;simp only[List.getD_eq_getElem?_getD,List.getElem?_eq_getElem h,Option.getD_some];rw[List.getElem?_set];by_cases hj:k=j
 ·subst hj;rw[if_pos rfl,if_pos (by omega),List.getElem?_append_left (by rw[List.length_map,List.length_take];omega)];simp[List.getElem?_take,h]
 ·rw[if_neg hj];by_cases hlt:j<k
  ·rw[List.getElem?_append_left (by rw[List.length_map,List.length_take];omega),List.getElem?_append_left (by rw[List.length_map,List.length_take];omega)];simp[List.getElem?_take,hlt,Nat.lt_succ_of_lt hlt]
  ·rw[List.getElem?_append_right (by rw[List.length_map,List.length_take];omega),List.getElem?_append_right (by rw[List.length_map,List.length_take];omega)];simp only[List.length_map,List.length_take,List.getElem?_drop]
   congr 1
   omega
theorem VE(xs:List Int)(n:Nat)(h:xs.length=n):EI xs n=xs.map Qy:=by
 unfold EI;rw[List.take_of_length_le (by omega),List.drop_eq_nil_of_le (by omega),List.append_nil]
theorem acr{n:Int}(h:¬(65≤n∧n≤90)):Qy n=n:=if_neg h
theorem Rl(xs:List Int)(k:Nat)(h:k<xs.length)(hn:¬(65≤xs.getD k 0∧xs.getD k 0≤90)):EI xs (k+1)=EI xs k:=by
 rw[Lm xs k h,acr hn];apply List.ext_getElem?;intro j;rw[List.getElem?_set];by_cases hj:k=j
 ·subst hj;rw[if_pos rfl,if_pos (by rw[kP];exact h)];have:=TD xs k h;rw[List.getD_eq_getElem?_getD,List.getElem?_eq_getElem (by rw[kP];exact h),Option.getD_some]at this;rw[List.getElem?_eq_getElem (by rw[kP];exact h),this]
 ·rw[if_neg hj]
structure Ll (w:World) (g:Nat) (xs:List Int) (W:World):Prop where
 cell:∀j,j<xs.length→W.cell? ⟨g,j,none⟩=some (.int .u8 (xs.getD j 0))
 free:∀j,j<xs.length→W.frozen? ⟨g,j,none⟩=false
 below:Below w.heap.size w W
theorem Jb(w:World)(e:TypeId)(s:ByteArray):Ll w w.heap.size (bytesOf s) (Lib.bytesWorld w e s):=by
 refine⟨fun j hj=>?_,fun j hj=>?_,WZ (Below.refl _ _) (Nat.le_refl _) e s⟩
 ·rw[bytesOf_length]at hj;rw[Lib.bytesWorld_cell w e s j hj];have h':j<s.data.toList.length:=by rw[BQ];exact hj
  simp[bytesOf,List.getD_eq_getElem?_getD,List.getElem?_eq_getElem h']
 ·rw[bytesOf_length]at hj
  have hs:(Lib.bytesCells w e s).size=s.size+(grownCap w s.size 0 e-s.size):=by
   unfold Lib.bytesCells;rw[Array.size_append,Array.size_map,Array.size_replicate];rfl
  unfold World.frozen?;rw[Lib.bytesWorld_at_new];simp only;rw[decide_eq_false (by omega),Bool.false_and]
theorem Ll.store{w W:World}{g:Nat}{xs:List Int}(h:Ll w g xs W)(hg:w.heap.size≤g)(k:Nat)(hk:k<xs.length)(v:Int):Ll w g (xs.set k v) (W.setCell ⟨g,k,none⟩ (.int .u8 v)):=by
 refine⟨fun j hj=>?_,fun j hj=>?_,h.below.setCell hg _⟩
 ·rw[List.length_set]at hj;by_cases e:k=j
  ·subst e;rw[World.cell?_setCell_same _ _ _ (h.cell k hk)];simp[List.getD_eq_getElem?_getD,hk]
  ·rw[World.cell?_setCell_other _ _ _ _ (by intro hh;injection hh with _ hh2 _;exact e hh2),h.cell j hj];simp[List.getD_eq_getElem?_getD,List.getElem?_set,e]
 ·rw[List.length_set]at hj;rw[World.frozen?_setCell];exact h.free j hj
theorem GZ(s:ByteArray)(k:Nat):0≤(bytesOf s).getD k 0∧(bytesOf s).getD k 0≤255:=by
 have:=Y3 s (k:Int);unfold rd at this;rw[Int.toNat_natCast]at this;rw[this];exact afK s k
end Go.Proofs.YtncdadcmghglkaaGreatDoor.X
