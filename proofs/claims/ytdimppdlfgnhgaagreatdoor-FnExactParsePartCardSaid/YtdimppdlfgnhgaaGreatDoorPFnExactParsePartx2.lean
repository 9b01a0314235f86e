/- Printed walks; conditions: those in each statement. -/
import Derived.Test.YtdimppdlfgnhgaaGreatDoorVFnExactParsePartQt
import Derived.Test.YtdimppdlfgnhgaaGreatDoorVFnExactParsePartYt
import Derived.Test.YtdimppdlfgnhgaaGreatDoorPFnExactParsePartx0
import Derived.Test.YtdimppdlfgnhgaaGreatDoorPFnExactParsePartx1
namespace Go.Proofs.YtdimppdlfgnhgaaGreatDoor.PFnExactParsePart
open Go.Proofs.YtdimppdlfgnhgaaGreatDoorW.eP.Kd Go.Proofs.YtdimppdlfgnhgaaGreatDoorW.mX.Kd Go.Proofs.Tryz Go.RowKit Go.Proofs.YtdimppdlfgnhgaaGreatDoor.X Go.Proofs.YtdimppdlfgnhgaaGreatDoorW.eP Go.Proofs.YtdimppdlfgnhgaaGreatDoorW.lF Go.Proofs.YtdimppdlfgnhgaaGreatDoorW.mX
attribute [local go_sem] uP uQ xQ xR rE rG uS uT   -- for this text's walks alone
set_option linter.unusedVariables false
set_option linter.unusedSimpArgs false
set_option maxHeartbeats 8000000
set_option maxRecDepth 100000
def dh.l0:Nat→List (gI)→Int→Int→Option (Int)
 |0,_,_,_=>none
 |k+1,x0,x1,x5=>if x5<(x0.length:Int)then(if 0≤x5 then((eU.f k x1).bind fun amf=>(if((aG x0 x5).f0).toList=amf.toList then((eU.f k (wrap64 (x1+1))).bind fun t131=>(if((aG x0 x5).f1).toList=t131.toList then(dh.l0 k x0 (wrap64 ((wrap64 (x1+1))+1)) (wrap64 (x5+1)))else(some (-1))))else(some (-1))))else(none))else(some x1)
def dh.f(k:Nat)(l0:List (gI))(a1:Int):Option (Int):=dh.l0 k l0 a1 0
def dh.T4:Bool×List (List Nat×List Nat):=(true,[([],[]),([],[]),([0,1],[0,1]),([2],[2]),([3],[3]),([],[]),([5],[5]),([4,6],[4,6])])
def dh.B4:List Nat:=[0,0,3,7,15,0,32,127]
theorem dh.aP9:wo .any (opsOf Tryz.f33 4)=dh.T4:=by kernel_rfl
theorem dh.aMz:qJ dh.T4.2 dh.B4=true:=by kernel_rfl
def dh.T7:Bool×List (List Nat×List Nat):=(true,[([],[]),([],[]),([0,1],[0,1]),([2],[2]),([3],[3]),([],[]),([5],[5]),([4,6],[4,6])])
def dh.B7:List Nat:=[0,0,3,7,15,0,32,127]
theorem dh.aAm:wo .any (opsOf Tryz.f33 7)=dh.T7:=by kernel_rfl
theorem dh.atn:qJ dh.T7.2 dh.B7=true:=by kernel_rfl
set_option maxHeartbeats 8000000 in
set_option maxRecDepth 100000 in
theorem dh.calls(k:Nat)(A0:Option Addr)(c0:Nat)(l0:List (gI))(a1:Int)(r:Int)(w:World)(hr0:Kd.C oN w A0 l0.length l0)(hc0:l0.length≤c0)(h:dh.f k l0 a1=some r):
  Calls Tryz.prog 33 #[.slice A0 l0.length c0, .int .i64 a1] w fun e w'=>e= .returned (.int .i64 r)∧Below w.heap.size w w':=by
 have HR0:=ak hr0;have sK:=ak hc0;clear hr0 hc0;have HB:=ak (Below.refl w.heap.size w);have H:(dh.l0 k l0 a1 0)=some r:=h;clear h;have H':=ak H;clear H;go_enter func33,ntmps33;go_wp2;go_loopg [1,5] k (fun kq v1 v5 w'=>∃(oD:Int) (aQ:Int),v1= .int .i64 oD∧v5= .int .i64 aQ∧ay (dh.l0 kq l0 oD aQ=some r)∧ay (kq≤k)∧ay (Below w.heap.size w w'))
 case atStart=>exact⟨(a1),(0),rs,rs,H',⟨Nat.le_refl _⟩,⟨ul HB.out⟩⟩
 case round=>
  clear H';try clear p2
  obtain⟨oD,aQ,rfl,rfl,HA,iM,HB⟩:=hrel
  cases gk with
  |zero=>exact absurd HA.out (by simp[dh.l0])
  |succ k1=>
   have H:=HA.out;clear HA;simp only[dh.l0]at H;replace H:=sd H;rcases H with⟨iK,H⟩|⟨iK,H⟩
   ·replace H:=oL H;obtain⟨oG,H⟩:=H;replace H:=bd H;obtain⟨amf,A5,H⟩:=H;replace H:=sq H;rcases H with⟨mG,B_,H⟩|⟨c6,mG,B_,H⟩
    ·replace H:=bd H;obtain⟨t131,A7,H⟩:=H;replace H:=sq H;rcases H with⟨rV,G7,H⟩|⟨c8,rV,G7,H⟩
     ·have H':=ak H;clear H;try go_wp2
      replace HB:=ak (eG HB.out);have Yk:=zi aQ;have Yl:=zj aQ l0.length;obtain⟨Ba,e128,wP,wQ⟩:=oC HR0.out aQ Yk Yl;have wR:=wQ;have wU:=wP;cases e128;replace wP:=cl HB.out wP;replace wQ:=cl HB.out wQ;replace Yk:=eq_true Yk;replace Yl:=eq_true Yl;refine ro [6] [0,1,2,3,5,4,6,7] (fun w'=>w'.cell? (Ba.add ((aQ).toNat*2))=some (.string ((aG l0 aQ).f0))∧w'.cell? ⟨(Ba.add ((aQ).toNat*2)).block,(Ba.add ((aQ).toNat*2)).off+1,none⟩=some (.string ((aG l0 aQ).f1))) ⟨((HB.out.cell (World.block_lt_of_cell? w _ wU)).trans wU),((HB.out.cell (World.block_lt_of_cell? w _ wR)).trans wR)⟩ ?_
      generalize wr.drew=w9 at HB wP wQ⊢
      repeat(refine lk (v:=?_) (a':=?_) (gk.trans rfl) rfl rfl ?_ ?_ ?_;rotate_left;(focus (rintro w' ⟨s0,s1⟩;go_simp;with_reducible rfl));rotate_left;(focus (simp only[Act.put,jI,jJ,l_c,bf,bD];rfl)))
      refine ld (N:=some 18) (gk.trans rfl) rfl rfl (fun K hK=>?_);refine nS func38 (by kernel_rfl) rfl #[.int .i64 oD] (by rfl) rfl rfl ma ?_
      with_reducible refine(eU.calls k1 oD amf _ A5.out).mono ?_
      rintro e w10 ⟨rfl,hb⟩;refine⟨_,rfl,?_⟩;replace HB:=bs HB hb
      (try clear hb);refine hK.out _ _ ⟨((HB.out.cell (World.block_lt_of_cell? w _ wU)).trans wU),((HB.out.cell (World.block_lt_of_cell? w _ wR)).trans wR)⟩ ?_;clear hK K;refine no (a':=?_) ?_ ?_
      rotate_left
      ·show Act.put _ (some 18) _=_
       simp only[Act.put,jI,jJ,l_c,bf,bD];rfl
      repeat(refine lk (v:=?_) (a':=?_) (gk.trans rfl) rfl rfl ?_ ?_ ?_;rotate_left;(focus (rintro w' ⟨s0,s1⟩;go_simp;with_reducible rfl));rotate_left;(focus (simp only[Act.put,jI,jJ,l_c,bf,bD];rfl)))
      refine on ?_;try go_wp2
      replace HB:=ak (eG HB.out);have ae9:=zi aQ;have ae_:=zj aQ l0.length;obtain⟨amg,axw,EU,EW⟩:=oC HR0.out aQ ae9 ae_;have EX:=EW;have EY:=EU;obtain rfl:Ba=amg:=(by injection axw)
      replace EU:=cl HB.out EU;replace EW:=cl HB.out EW;replace ae9:=eq_true ae9;replace ae_:=eq_true ae_;refine ro [6] [0,1,2,3,5,4,6,7] (fun w'=>w'.cell? (Ba.add ((aQ).toNat*2))=some (.string ((aG l0 aQ).f0))∧w'.cell? ⟨(Ba.add ((aQ).toNat*2)).block,(Ba.add ((aQ).toNat*2)).off+1,none⟩=some (.string ((aG l0 aQ).f1))) ⟨((HB.out.cell (World.block_lt_of_cell? w _ EY)).trans EY),((HB.out.cell (World.block_lt_of_cell? w _ EX)).trans EX)⟩ ?_
      generalize w10.drew=Uy at HB EU EW⊢
      repeat(refine lk (v:=?_) (a':=?_) (gk.trans rfl) rfl rfl ?_ ?_ ?_;rotate_left;(focus (rintro w' ⟨s0,s1⟩;go_simp;with_reducible rfl));rotate_left;(focus (simp only[Act.put,jI,jJ,l_c,bf,bD];rfl)))
      refine ld (N:=some 28) (gk.trans rfl) rfl rfl (fun K hK=>?_);refine nS func38 (by kernel_rfl) rfl #[.int .i64 (wrap64 (oD+1))] (by rfl) rfl rfl ma ?_
      with_reducible refine(eU.calls k1 (wrap64 (oD+1)) t131 _ A7.out).mono ?_
      rintro e w12 ⟨rfl,hb⟩;refine⟨_,rfl,?_⟩;replace HB:=bs HB hb
      (try clear hb);refine hK.out _ _ ⟨((HB.out.cell (World.block_lt_of_cell? w _ EY)).trans EY),((HB.out.cell (World.block_lt_of_cell? w _ EX)).trans EX)⟩ ?_;clear hK K;refine no (a':=?_) ?_ ?_
      rotate_left
      ·show Act.put _ (some 28) _=_
       simp only[Act.put,jI,jJ,l_c,bf,bD];rfl
      repeat(refine lk (v:=?_) (a':=?_) (gk.trans rfl) rfl rfl ?_ ?_ ?_;rotate_left;(focus (rintro w' ⟨s0,s1⟩;go_simp;with_reducible rfl));rotate_left;(focus (simp only[Act.put,jI,jJ,l_c,bf,bD];rfl)))
      refine on ?_;try go_wp2
      go_roundg k1
      case measure=>have:=iM.out;omega
      case rel=>exact⟨(wrap64 ((wrap64 (oD+1))+1)),(wrap64 (aQ+1)),rs,rs,H',⟨by have:=iM.out;omega⟩,⟨ul HB.out⟩⟩
     ·obtain rfl:=Option.some.inj H;try go_wp2
      replace HB:=ak (eG HB.out);have Yk:=zi aQ;have Yl:=zj aQ l0.length;obtain⟨Ba,e128,wP,wQ⟩:=oC HR0.out aQ Yk Yl;have wR:=wQ;have wU:=wP;cases e128;replace wP:=cl HB.out wP;replace wQ:=cl HB.out wQ;replace Yk:=eq_true Yk;replace Yl:=eq_true Yl;refine ro [6] [0,1,2,3,5,4,6,7] (fun w'=>w'.cell? (Ba.add ((aQ).toNat*2))=some (.string ((aG l0 aQ).f0))∧w'.cell? ⟨(Ba.add ((aQ).toNat*2)).block,(Ba.add ((aQ).toNat*2)).off+1,none⟩=some (.string ((aG l0 aQ).f1))) ⟨((HB.out.cell (World.block_lt_of_cell? w _ wU)).trans wU),((HB.out.cell (World.block_lt_of_cell? w _ wR)).trans wR)⟩ ?_
      generalize wr.drew=w13 at HB wP wQ⊢
      repeat(refine lk (v:=?_) (a':=?_) (gk.trans rfl) rfl rfl ?_ ?_ ?_;rotate_left;(focus (rintro w' ⟨s0,s1⟩;go_simp;with_reducible rfl));rotate_left;(focus (simp only[Act.put,jI,jJ,l_c,bf,bD];rfl)))
      refine ld (N:=some 18) (gk.trans rfl) rfl rfl (fun K hK=>?_);refine nS func38 (by kernel_rfl) rfl #[.int .i64 oD] (by rfl) rfl rfl ma ?_
      with_reducible refine(eU.calls k1 oD amf _ A5.out).mono ?_
      rintro e Us ⟨rfl,hb⟩;refine⟨_,rfl,?_⟩;replace HB:=bs HB hb
      (try clear hb);refine hK.out _ _ ⟨((HB.out.cell (World.block_lt_of_cell? w _ wU)).trans wU),((HB.out.cell (World.block_lt_of_cell? w _ wR)).trans wR)⟩ ?_;clear hK K;refine no (a':=?_) ?_ ?_
      rotate_left
      ·show Act.put _ (some 18) _=_
       simp only[Act.put,jI,jJ,l_c,bf,bD];rfl
      repeat(refine lk (v:=?_) (a':=?_) (gk.trans rfl) rfl rfl ?_ ?_ ?_;rotate_left;(focus (rintro w' ⟨s0,s1⟩;go_simp;with_reducible rfl));rotate_left;(focus (simp only[Act.put,jI,jJ,l_c,bf,bD];rfl)))
      refine on ?_;try go_wp2
      replace HB:=ak (eG HB.out);have ae9:=zi aQ;have ae_:=zj aQ l0.length;obtain⟨amg,axw,EU,EW⟩:=oC HR0.out aQ ae9 ae_;have EX:=EW;have EY:=EU;obtain rfl:Ba=amg:=(by injection axw)
      replace EU:=cl HB.out EU;replace EW:=cl HB.out EW;replace ae9:=eq_true ae9;replace ae_:=eq_true ae_;refine ro [6] [0,1,2,3,5,4,6,7] (fun w'=>w'.cell? (Ba.add ((aQ).toNat*2))=some (.string ((aG l0 aQ).f0))∧w'.cell? ⟨(Ba.add ((aQ).toNat*2)).block,(Ba.add ((aQ).toNat*2)).off+1,none⟩=some (.string ((aG l0 aQ).f1))) ⟨((HB.out.cell (World.block_lt_of_cell? w _ EY)).trans EY),((HB.out.cell (World.block_lt_of_cell? w _ EX)).trans EX)⟩ ?_
      generalize Us.drew=w15 at HB EU EW⊢
      repeat(refine lk (v:=?_) (a':=?_) (gk.trans rfl) rfl rfl ?_ ?_ ?_;rotate_left;(focus (rintro w' ⟨s0,s1⟩;go_simp;with_reducible rfl));rotate_left;(focus (simp only[Act.put,jI,jJ,l_c,bf,bD];rfl)))
      refine ld (N:=some 28) (gk.trans rfl) rfl rfl (fun K hK=>?_);refine nS func38 (by kernel_rfl) rfl #[.int .i64 (wrap64 (oD+1))] (by rfl) rfl rfl ma ?_
      with_reducible refine(eU.calls k1 (wrap64 (oD+1)) t131 _ A7.out).mono ?_
      rintro e w16 ⟨rfl,hb⟩;refine⟨_,rfl,?_⟩;replace HB:=bs HB hb
      (try clear hb);refine hK.out _ _ ⟨((HB.out.cell (World.block_lt_of_cell? w _ EY)).trans EY),((HB.out.cell (World.block_lt_of_cell? w _ EX)).trans EX)⟩ ?_;clear hK K;refine no (a':=?_) ?_ ?_
      rotate_left
      ·show Act.put _ (some 28) _=_
       simp only[Act.put,jI,jJ,l_c,bf,bD];rfl
      repeat(refine lk (v:=?_) (a':=?_) (gk.trans rfl) rfl rfl ?_ ?_ ?_;rotate_left;(focus (rintro w' ⟨s0,s1⟩;go_simp;with_reducible rfl));rotate_left;(focus (simp only[Act.put,jI,jJ,l_c,bf,bD];rfl)))
      refine on ?_;try go_wp2
      go_ret;exact⟨er,ul HB.out⟩
    ·obtain rfl:=Option.some.inj H;try go_wp2
     replace HB:=ak (eG HB.out);have Yk:=zi aQ;have Yl:=zj aQ l0.length;obtain⟨Ba,e128,wP,wQ⟩:=oC HR0.out aQ Yk Yl;have wR:=wQ;have wU:=wP;cases e128;replace wP:=cl HB.out wP;replace wQ:=cl HB.out wQ;replace Yk:=eq_true Yk;replace Yl:=eq_true Yl;refine ro [6] [0,1,2,3,5,4,6,7] (fun w'=>w'.cell? (Ba.add ((aQ).toNat*2))=some (.string ((aG l0 aQ).f0))∧w'.cell? ⟨(Ba.add ((aQ).toNat*2)).block,(Ba.add ((aQ).toNat*2)).off+1,none⟩=some (.string ((aG l0 aQ).f1))) ⟨((HB.out.cell (World.block_lt_of_cell? w _ wU)).trans wU),((HB.out.cell (World.block_lt_of_cell? w _ wR)).trans wR)⟩ ?_
     generalize wr.drew=w17 at HB wP wQ⊢
     repeat(refine lk (v:=?_) (a':=?_) (gk.trans rfl) rfl rfl ?_ ?_ ?_;rotate_left;(focus (rintro w' ⟨s0,s1⟩;go_simp;with_reducible rfl));rotate_left;(focus (simp only[Act.put,jI,jJ,l_c,bf,bD];rfl)))
     refine ld (N:=some 18) (gk.trans rfl) rfl rfl (fun K hK=>?_);refine nS func38 (by kernel_rfl) rfl #[.int .i64 oD] (by rfl) rfl rfl ma ?_
     with_reducible refine(eU.calls k1 oD amf _ A5.out).mono ?_
     rintro e w18 ⟨rfl,hb⟩;refine⟨_,rfl,?_⟩;replace HB:=bs HB hb
     (try clear hb);refine hK.out _ _ ⟨((HB.out.cell (World.block_lt_of_cell? w _ wU)).trans wU),((HB.out.cell (World.block_lt_of_cell? w _ wR)).trans wR)⟩ ?_;clear hK K;refine no (a':=?_) ?_ ?_
     rotate_left
     ·show Act.put _ (some 18) _=_
      simp only[Act.put,jI,jJ,l_c,bf,bD];rfl
     repeat(refine lk (v:=?_) (a':=?_) (gk.trans rfl) rfl rfl ?_ ?_ ?_;rotate_left;(focus (rintro w' ⟨s0,s1⟩;go_simp;with_reducible rfl));rotate_left;(focus (simp only[Act.put,jI,jJ,l_c,bf,bD];rfl)))
     refine on ?_;try go_wp2
     go_ret;exact⟨er,ul HB.out⟩
   ·obtain rfl:=Option.some.inj H;go_wp2;go_ret;exact⟨er,ul HB.out⟩
def fM.l0:Nat→List ByteArray→Int→Int→Option (Int)
 |0,_,_,_=>none
 |k+1,x0,x1,x5=>if x5<(x0.length:Int)then(if 0≤x5 then((eU.f k x1).bind fun aq4=>(if(f_ ByteArray.empty x0 x5).toList=aq4.toList then(fM.l0 k x0 (wrap64 (x1+1)) (wrap64 (x5+1)))else(some (-1))))else(none))else(some x1)
def fM.f(k:Nat)(l0:List ByteArray)(a1:Int):Option (Int):=fM.l0 k l0 a1 0
set_option maxHeartbeats 8000000 in
set_option maxRecDepth 100000 in
theorem fM.calls(k:Nat)(A0:Option Addr)(c0:Nat)(l0:List ByteArray)(a1:Int)(r:Int)(w:World)(hr0:Kd.C Kd.string w A0 l0.length l0)(hc0:l0.length≤c0)(h:fM.f k l0 a1=some r):
  Calls Tryz.prog 34 #[.slice A0 l0.length c0, .int .i64 a1] w fun e w'=>e= .returned (.int .i64 r)∧Below w.heap.size w w':=by
 have HR0:=ak hr0;have sK:=ak hc0;clear hr0 hc0;have HB:=ak (Below.refl w.heap.size w);have H:(fM.l0 k l0 a1 0)=some r:=h;clear h;have H':=ak H;clear H;go_enter func34,ntmps34;go_wp2;go_loopg [1,5] k (fun kq v1 v5 w'=>∃(oD:Int) (aQ:Int),v1= .int .i64 oD∧v5= .int .i64 aQ∧ay (fM.l0 kq l0 oD aQ=some r)∧ay (kq≤k)∧ay (Below w.heap.size w w'))
 case atStart=>exact⟨(a1),(0),rs,rs,H',⟨Nat.le_refl _⟩,⟨ul HB.out⟩⟩
 case round=>
  clear H';try clear p2
  obtain⟨oD,aQ,rfl,rfl,HA,iM,HB⟩:=hrel
  cases gk with
  |zero=>exact absurd HA.out (by simp[fM.l0])
  |succ k1=>
   have H:=HA.out;clear HA;simp only[fM.l0]at H;replace H:=sd H;rcases H with⟨iK,H⟩|⟨iK,H⟩
   ·replace H:=oL H;obtain⟨oG,H⟩:=H;replace H:=bd H;obtain⟨aq4,A5,H⟩:=H;replace H:=sq H;rcases H with⟨mG,B_,H⟩|⟨c6,mG,B_,H⟩
    ·have H':=ak H;clear H;try go_wp2
     replace HB:=ak (eG HB.out);have afa:=zi aQ;have afb:=zj aQ l0.length;obtain⟨amh,axx,EZ⟩:=dY HR0.out aQ afa afb;have E_:=EZ;cases axx;replace EZ:=cl HB.out EZ;replace afa:=eq_true afa;replace afb:=eq_true afb;refine UE (n:=7) (S:=fun w'=>w'.cell? (amh.add (aQ).toNat)=some (.string (f_ ByteArray.empty l0 aQ))) (ds:=[]) #[false,false,false,false,false,false,false] (by kernel_rfl) rfl rfl (((HB.out.cell (World.block_lt_of_cell? w _ E_)).trans E_)) (fun hHeld=>?_)
     generalize wr.drew=w7 at HB EZ hHeld⊢
     refine qW (i:=0) (N:=some 12) (v:=?_) (a':=?_) #[true,false,false,false,false,false,false] rfl rfl (by kernel_rfl) (fun _ _ _ h=>h) (Or.inl ⟨by rfl,?_⟩) ?_ ?_
     rotate_left
     ·intro w';go_simp
      with_reducible rfl
     rotate_left
     ·simp only[Act.put,jI,jJ,l_c,bf,bD];rfl
     refine qW (i:=1) (N:=some 13) (v:=?_) (a':=?_) #[true,true,false,false,false,false,false] rfl rfl (by kernel_rfl) (fun _ _ _ h=>h) (Or.inl ⟨by rfl,?_⟩) ?_ ?_
     rotate_left
     ·intro w';go_simp
      with_reducible rfl
     rotate_left
     ·simp only[Act.put,jI,jJ,l_c,bf,bD];rfl
     refine qW (i:=2) (N:=some 14) (v:=?_) (a':=?_) #[true,true,true,false,false,false,false] rfl rfl (by kernel_rfl) (fun _ _ _ h=>h) (Or.inl ⟨by rfl,?_⟩) ?_ ?_
     rotate_left
     ·intro w';go_simp
      with_reducible rfl
     rotate_left
     ·simp only[Act.put,jI,jJ,l_c,bf,bD];rfl
     refine qW (i:=4) (N:=some 16) (v:=?_) (a':=?_) #[true,true,true,false,true,false,false] rfl rfl (by kernel_rfl) (fun _ _ _ h=>h) (Or.inl ⟨by rfl,?_⟩) ?_ ?_
     rotate_left
     ·intro w';go_simp
      with_reducible rfl
     rotate_left
     ·simp only[Act.put,jI,jJ,l_c,bf,bD];rfl
     refine KQ (i:=3) (N:=some 15) (v:=?_) (a':=?_) #[true,true,true,true,true,false,false] rfl rfl (by kernel_rfl) (fun _ _ _ h=>h) (Or.inl ⟨by rfl,?_⟩) hHeld ?_ ?_
     rotate_left
     ·intro w' s0;go_simp
      with_reducible rfl
     rotate_left
     ·simp only[Act.put,jI,jJ,l_c,bf,bD];rfl
     refine Rz (i:=5) (N:=some 17) #[true,true,true,true,true,true,false] rfl rfl (by kernel_rfl) (by decide) (fun K hK=>?_);refine nS func38 (by kernel_rfl) rfl #[.int .i64 oD] (by rfl) rfl rfl ma ?_
     with_reducible refine(eU.calls k1 oD aq4 _ A5.out).mono ?_
     rintro e w8 ⟨rfl,hb⟩;refine⟨_,rfl,?_⟩;replace HB:=bs HB hb
     (try clear hb);refine hK.out _ _ (((HB.out.cell (World.block_lt_of_cell? w _ E_)).trans E_)) (fun hHeld=>?_);clear hK K;refine Az (a':=?_) ?_ ?_
     rotate_left
     ·show Act.put _ (some 17) _=_
      simp only[Act.put,jI,jJ,l_c,bf,bD];rfl
     refine qW (i:=6) (N:=some 18) (v:=?_) (a':=?_) #[true,true,true,true,true,true,true] rfl rfl (by kernel_rfl) (fun _ _ _ h=>h) (Or.inl ⟨by rfl,?_⟩) ?_ ?_
     rotate_left
     ·intro w';go_simp
      with_reducible rfl
     rotate_left
     ·simp only[Act.put,jI,jJ,l_c,bf,bD];rfl
     refine ZG (by kernel_rfl) ?_;try go_wp2
     go_roundg k1
     case measure=>have:=iM.out;omega
     case rel=>exact⟨(wrap64 (oD+1)),(wrap64 (aQ+1)),rs,rs,H',⟨by have:=iM.out;omega⟩,⟨ul HB.out⟩⟩
    ·obtain rfl:=Option.some.inj H;try go_wp2
     replace HB:=ak (eG HB.out);have afa:=zi aQ;have afb:=zj aQ l0.length;obtain⟨amh,axx,EZ⟩:=dY HR0.out aQ afa afb;have E_:=EZ;cases axx;replace EZ:=cl HB.out EZ;replace afa:=eq_true afa;replace afb:=eq_true afb;refine UE (n:=7) (S:=fun w'=>w'.cell? (amh.add (aQ).toNat)=some (.string (f_ ByteArray.empty l0 aQ))) (ds:=[]) #[false,false,false,false,false,false,false] (by kernel_rfl) rfl rfl (((HB.out.cell (World.block_lt_of_cell? w _ E_)).trans E_)) (fun hHeld=>?_)
     generalize wr.drew=w9 at HB EZ hHeld⊢
     refine qW (i:=0) (N:=some 12) (v:=?_) (a':=?_) #[true,false,false,false,false,false,false] rfl rfl (by kernel_rfl) (fun _ _ _ h=>h) (Or.inl ⟨by rfl,?_⟩) ?_ ?_
     rotate_left
     ·intro w';go_simp
      with_reducible rfl
     rotate_left
     ·simp only[Act.put,jI,jJ,l_c,bf,bD];rfl
     refine qW (i:=1) (N:=some 13) (v:=?_) (a':=?_) #[true,true,false,false,false,false,false] rfl rfl (by kernel_rfl) (fun _ _ _ h=>h) (Or.inl ⟨by rfl,?_⟩) ?_ ?_
     rotate_left
     ·intro w';go_simp
      with_reducible rfl
     rotate_left
     ·simp only[Act.put,jI,jJ,l_c,bf,bD];rfl
     refine qW (i:=2) (N:=some 14) (v:=?_) (a':=?_) #[true,true,true,false,false,false,false] rfl rfl (by kernel_rfl) (fun _ _ _ h=>h) (Or.inl ⟨by rfl,?_⟩) ?_ ?_
     rotate_left
     ·intro w';go_simp
      with_reducible rfl
     rotate_left
     ·simp only[Act.put,jI,jJ,l_c,bf,bD];rfl
     refine qW (i:=4) (N:=some 16) (v:=?_) (a':=?_) #[true,true,true,false,true,false,false] rfl rfl (by kernel_rfl) (fun _ _ _ h=>h) (Or.inl ⟨by rfl,?_⟩) ?_ ?_
     rotate_left
     ·intro w';go_simp
      with_reducible rfl
     rotate_left
     ·simp only[Act.put,jI,jJ,l_c,bf,bD];rfl
     refine KQ (i:=3) (N:=some 15) (v:=?_) (a':=?_) #[true,true,true,true,true,false,false] rfl rfl (by kernel_rfl) (fun _ _ _ h=>h) (Or.inl ⟨by rfl,?_⟩) hHeld ?_ ?_
     rotate_left
     ·intro w' s0;go_simp
      with_reducible rfl
     rotate_left
     ·simp only[Act.put,jI,jJ,l_c,bf,bD];rfl
     refine Rz (i:=5) (N:=some 17) #[true,true,true,true,true,true,false] rfl rfl (by kernel_rfl) (by decide) (fun K hK=>?_);refine nS func38 (by kernel_rfl) rfl #[.int .i64 oD] (by rfl) rfl rfl ma ?_
     with_reducible refine(eU.calls k1 oD aq4 _ A5.out).mono ?_
     rintro e w10 ⟨rfl,hb⟩;refine⟨_,rfl,?_⟩;replace HB:=bs HB hb
     (try clear hb);refine hK.out _ _ (((HB.out.cell (World.block_lt_of_cell? w _ E_)).trans E_)) (fun hHeld=>?_);clear hK K;refine Az (a':=?_) ?_ ?_
     rotate_left
     ·show Act.put _ (some 17) _=_
      simp only[Act.put,jI,jJ,l_c,bf,bD];rfl
     refine qW (i:=6) (N:=some 18) (v:=?_) (a':=?_) #[true,true,true,true,true,true,true] rfl rfl (by kernel_rfl) (fun _ _ _ h=>h) (Or.inl ⟨by rfl,?_⟩) ?_ ?_
     rotate_left
     ·intro w';go_simp
      with_reducible rfl
     rotate_left
     ·simp only[Act.put,jI,jJ,l_c,bf,bD];rfl
     refine ZG (by kernel_rfl) ?_;try go_wp2
     go_ret;exact⟨er,ul HB.out⟩
   ·obtain rfl:=Option.some.inj H;go_wp2;go_ret;exact⟨er,ul HB.out⟩
mutual
def g_.l0:Nat→List (ku)→Int→Int→Option (Int)
 |0,_,_,_=>none
 |k+1,x0,x1,x5=>if x5<(x0.length:Int)then(if 0≤x5 then((dh.f k ((aW x0 x5).f0) x1).bind fun UZ=>(if UZ<0 then(some (-1))else((fM.f k ((aW x0 x5).f1) UZ).bind fun Zc=>(if Zc<0 then(some (-1))else((g_.f k ((aW x0 x5).f2) Zc).bind fun t139=>(if t139<0 then(some (-1))else(g_.l0 k x0 t139 (wrap64 (x5+1)))))))))else(none))else(some x1)
def g_.f:Nat→List (ku)→Int→Option (Int)
 |0,_,_=>none
 |k+1,l0,a1=>g_.l0 k l0 a1 0
end
set_option maxHeartbeats 8000000 in
set_option maxRecDepth 100000 in
theorem g_.calls(k:Nat):∀(A0:Option Addr) (c0:Nat) (l0:List (ku)) (a1:Int) (r:Int) (w:World) (hr0:Kd.C k32 w A0 l0.length l0) (hc0:l0.length≤c0) (h:g_.f k l0 a1=some r),
  Calls Tryz.prog 35 #[.slice A0 l0.length c0, .int .i64 a1] w fun e w'=>e= .returned (.int .i64 r)∧Below w.heap.size w w':=by
 induction k using Nat.strongRecOn with
 |_ k ih=>
 intro A0 c0 l0 a1 r w hr0 hc0 h
 cases k with
 |zero=>exact absurd h (by simp[g_.f])
 |succ k=>
 simp only[g_.f]at h;have HR0:=ak hr0;have sK:=ak hc0;clear hr0 hc0;have HB:=ak (Below.refl w.heap.size w);have H:(g_.l0 k l0 a1 0)=some r:=h;clear h;have H':=ak H;clear H;go_enter func35,ntmps35;go_wp2;go_loopg [1,5] k (fun kq v1 v5 w'=>∃(oD:Int) (aQ:Int),v1= .int .i64 oD∧v5= .int .i64 aQ∧ay (g_.l0 kq l0 oD aQ=some r)∧ay (kq≤k)∧ay (Below w.heap.size w w'))
 case atStart=>exact⟨(a1),(0),rs,rs,H',⟨Nat.le_refl _⟩,⟨ul HB.out⟩⟩
 case round=>
  clear H';try clear p2
  obtain⟨oD,aQ,rfl,rfl,HA,iM,HB⟩:=hrel
  cases gk with
  |zero=>exact absurd HA.out (by simp[g_.l0])
  |succ k1=>
   have H:=HA.out;clear HA;simp only[g_.l0]at H;replace H:=sd H;rcases H with⟨iK,H⟩|⟨iK,H⟩
   ·replace H:=oL H;obtain⟨oG,H⟩:=H;replace H:=bd H;obtain⟨UZ,A5,H⟩:=H;replace H:=sd H;rcases H with⟨mG,H⟩|⟨mG,H⟩
    ·obtain rfl:=Option.some.inj H;have PX:=zi aQ;have PY:=zj aQ l0.length;obtain⟨VH,PZ,P5,afc,afd,afe,aff,afg,Bc,Bd,Bf,Bg,Bh,Bj,Bl,Bo,Bq⟩:=uU HR0.out aQ PX PY;cases afg;replace Bc:=cl HB.out Bc;replace Bd:=cl HB.out Bd;replace Bf:=cl HB.out Bf;have KC:=ak Bh;have KD:=ak Bg;clear Bh Bg;have abJ:=ak Bl;have abK:=ak Bj;clear Bl Bj;have abL:=ak Bq;have abM:=ak Bo;clear Bq Bo;replace PX:=eq_true PX;replace PY:=eq_true PY;go_wp2_with (first|(refine gL 33 18 func33 #[.slice PZ ((aW l0 aQ).f0).length P5, .int .i64 oD] ?_;(with_reducible refine(dh.calls k1 _ _ ((aW l0 aQ).f0) oD UZ _ (cu (aT KC.out HB.out)) KD.out A5.out).mono ?_);rintro e w7 ⟨rfl,hb⟩;refine⟨_,rfl,?_⟩;replace HB:=bs HB hb;(try clear hb)))
     go_ret;exact⟨er,ul HB.out⟩
    ·replace H:=bd H;obtain⟨Zc,A8,H⟩:=H;replace H:=sd H;rcases H with⟨vI,H⟩|⟨vI,H⟩
     ·obtain rfl:=Option.some.inj H;have PX:=zi aQ;have PY:=zj aQ l0.length;obtain⟨VH,PZ,P5,afc,afd,afe,aff,afg,Bc,Bd,Bf,Bg,Bh,Bj,Bl,Bo,Bq⟩:=uU HR0.out aQ PX PY;cases afg;replace Bc:=cl HB.out Bc;replace Bd:=cl HB.out Bd;replace Bf:=cl HB.out Bf;have KC:=ak Bh;have KD:=ak Bg;clear Bh Bg;have abJ:=ak Bl;have abK:=ak Bj;clear Bl Bj;have abL:=ak Bq;have abM:=ak Bo;clear Bq Bo;replace PX:=eq_true PX;replace PY:=eq_true PY;go_wp2_with (first|(refine gL 33 18 func33 #[.slice PZ ((aW l0 aQ).f0).length P5, .int .i64 oD] ?_;(with_reducible refine(dh.calls k1 _ _ ((aW l0 aQ).f0) oD UZ _ (cu (aT KC.out HB.out)) KD.out A5.out).mono ?_);rintro e w10 ⟨rfl,hb⟩;refine⟨_,rfl,?_⟩;replace HB:=bs HB hb;(try clear hb);have Ym:0≤(aQ:Int):=of_decide_eq_true (by assumption);have Yn:aQ<(l0.length:Int):=of_decide_eq_true (by assumption);obtain⟨ado,ami,amj,Yo,Yp,amk,aml,amm,Bv,Bz,BA,Ir,Iu,Iw,Iy,Iz,IB⟩:=uU HR0.out aQ Ym Yn;obtain rfl:VH=ado:=(by injection amm);replace Bv:=(HB.out.cell (World.block_lt_of_cell? w _ Bv)).trans Bv;replace Bz:=(HB.out.cell (World.block_lt_of_cell? w _ Bz)).trans Bz;replace BA:=(HB.out.cell (World.block_lt_of_cell? w _ BA)).trans BA;have ahW:=ak Iu;have ahX:=ak Ir;clear Iu Ir;have SA:=ak Iy;have SB:=ak Iw;clear Iy Iw;have ahY:=ak IB;have ahZ:=ak Iz;clear IB Iz;replace Ym:=eq_true Ym;replace Yn:=eq_true Yn)|(refine gL 34 27 func34 #[.slice Yo ((aW l0 aQ).f1).length Yp, .int .i64 UZ] ?_;(with_reducible refine(fM.calls k1 _ _ ((aW l0 aQ).f1) UZ Zc _ (cu (aT SA.out HB.out)) SB.out A8.out).mono ?_);rintro e Uy ⟨rfl,hb⟩;refine⟨_,rfl,?_⟩;replace HB:=bs HB hb;(try clear hb)))
      go_ret;exact⟨er,ul HB.out⟩
     ·replace H:=bd H;obtain⟨t139,A12,H⟩:=H;replace H:=sd H;rcases H with⟨vJ,H⟩|⟨vJ,H⟩
      ·obtain rfl:=Option.some.inj H;have PX:=zi aQ;have PY:=zj aQ l0.length;obtain⟨VH,PZ,P5,afc,afd,afe,aff,afg,Bc,Bd,Bf,Bg,Bh,Bj,Bl,Bo,Bq⟩:=uU HR0.out aQ PX PY;cases afg;replace Bc:=cl HB.out Bc;replace Bd:=cl HB.out Bd;replace Bf:=cl HB.out Bf;have KC:=ak Bh;have KD:=ak Bg;clear Bh Bg;have abJ:=ak Bl;have abK:=ak Bj;clear Bl Bj;have abL:=ak Bq;have abM:=ak Bo;clear Bq Bo;replace PX:=eq_true PX;replace PY:=eq_true PY;go_wp2_with (first|(refine gL 33 18 func33 #[.slice PZ ((aW l0 aQ).f0).length P5, .int .i64 oD] ?_;(with_reducible refine(dh.calls k1 _ _ ((aW l0 aQ).f0) oD UZ _ (cu (aT KC.out HB.out)) KD.out A5.out).mono ?_);rintro e Us ⟨rfl,hb⟩;refine⟨_,rfl,?_⟩;replace HB:=bs HB hb;(try clear hb);have Ym:0≤(aQ:Int):=of_decide_eq_true (by assumption);have Yn:aQ<(l0.length:Int):=of_decide_eq_true (by assumption);obtain⟨ado,ami,amj,Yo,Yp,amk,aml,amm,Bv,Bz,BA,Ir,Iu,Iw,Iy,Iz,IB⟩:=uU HR0.out aQ Ym Yn;obtain rfl:VH=ado:=(by injection amm);replace Bv:=(HB.out.cell (World.block_lt_of_cell? w _ Bv)).trans Bv;replace Bz:=(HB.out.cell (World.block_lt_of_cell? w _ Bz)).trans Bz;replace BA:=(HB.out.cell (World.block_lt_of_cell? w _ BA)).trans BA;have ahW:=ak Iu;have ahX:=ak Ir;clear Iu Ir;have SA:=ak Iy;have SB:=ak Iw;clear Iy Iw;have ahY:=ak IB;have ahZ:=ak Iz;clear IB Iz;replace Ym:=eq_true Ym;replace Yn:=eq_true Yn)|(refine gL 34 27 func34 #[.slice Yo ((aW l0 aQ).f1).length Yp, .int .i64 UZ] ?_;(with_reducible refine(fM.calls k1 _ _ ((aW l0 aQ).f1) UZ Zc _ (cu (aT SA.out HB.out)) SB.out A8.out).mono ?_);rintro e w15 ⟨rfl,hb⟩;refine⟨_,rfl,?_⟩;replace HB:=bs HB hb;(try clear hb);have afh:0≤(aQ:Int):=of_decide_eq_true (by assumption);have afi:aQ<(l0.length:Int):=of_decide_eq_true (by assumption);obtain⟨amn,axy,axz,axA,axB,afj,afk,e138,KE,KF,KG,SC,SE,SG,SH,SI,SK⟩:=uU HR0.out aQ afh afi;obtain rfl:VH=amn:=(by injection e138);replace KE:=(HB.out.cell (World.block_lt_of_cell? w _ KE)).trans KE;replace KF:=(HB.out.cell (World.block_lt_of_cell? w _ KF)).trans KF;replace KG:=(HB.out.cell (World.block_lt_of_cell? w _ KG)).trans KG;have aq5:=ak SE;have aq6:=ak SC;clear SE SC;have aq7:=ak SH;have aq8:=ak SG;clear SH SG;have abN:=ak SK;have abO:=ak SI;clear SK SI;replace afh:=eq_true afh;replace afi:=eq_true afi)|(refine gL 35 36 func35 #[.slice afj ((aW l0 aQ).f2).length afk, .int .i64 Zc] ?_;(with_reducible refine(ih k1 (by have:=iM.out;omega) _ _ ((aW l0 aQ).f2) Zc t139 _ (cu (aT abN.out HB.out)) abO.out A12.out).mono ?_);rintro e w16 ⟨rfl,hb⟩;refine⟨_,rfl,?_⟩;replace HB:=bs HB hb;(try clear hb)))
       go_ret;exact⟨er,ul HB.out⟩
      ·have H':=ak H;clear H;have PX:=zi aQ;have PY:=zj aQ l0.length;obtain⟨VH,PZ,P5,afc,afd,afe,aff,afg,Bc,Bd,Bf,Bg,Bh,Bj,Bl,Bo,Bq⟩:=uU HR0.out aQ PX PY;cases afg;replace Bc:=cl HB.out Bc;replace Bd:=cl HB.out Bd;replace Bf:=cl HB.out Bf;have KC:=ak Bh;have KD:=ak Bg;clear Bh Bg;have abJ:=ak Bl;have abK:=ak Bj;clear Bl Bj;have abL:=ak Bq;have abM:=ak Bo;clear Bq Bo;replace PX:=eq_true PX;replace PY:=eq_true PY;go_wp2_with (first|(refine gL 33 18 func33 #[.slice PZ ((aW l0 aQ).f0).length P5, .int .i64 oD] ?_;(with_reducible refine(dh.calls k1 _ _ ((aW l0 aQ).f0) oD UZ _ (cu (aT KC.out HB.out)) KD.out A5.out).mono ?_);rintro e w17 ⟨rfl,hb⟩;refine⟨_,rfl,?_⟩;replace HB:=bs HB hb;(try clear hb);have Ym:0≤(aQ:Int):=of_decide_eq_true (by assumption);have Yn:aQ<(l0.length:Int):=of_decide_eq_true (by assumption);obtain⟨ado,ami,amj,Yo,Yp,amk,aml,amm,Bv,Bz,BA,Ir,Iu,Iw,Iy,Iz,IB⟩:=uU HR0.out aQ Ym Yn;obtain rfl:VH=ado:=(by injection amm);replace Bv:=(HB.out.cell (World.block_lt_of_cell? w _ Bv)).trans Bv;replace Bz:=(HB.out.cell (World.block_lt_of_cell? w _ Bz)).trans Bz;replace BA:=(HB.out.cell (World.block_lt_of_cell? w _ BA)).trans BA;have ahW:=ak Iu;have ahX:=ak Ir;clear Iu Ir;have SA:=ak Iy;have SB:=ak Iw;clear Iy Iw;have ahY:=ak IB;have ahZ:=ak Iz;clear IB Iz;replace Ym:=eq_true Ym;replace Yn:=eq_true Yn)|(refine gL 34 27 func34 #[.slice Yo ((aW l0 aQ).f1).length Yp, .int .i64 UZ] ?_;(with_reducible refine(fM.calls k1 _ _ ((aW l0 aQ).f1) UZ Zc _ (cu (aT SA.out HB.out)) SB.out A8.out).mono ?_);rintro e w18 ⟨rfl,hb⟩;refine⟨_,rfl,?_⟩;replace HB:=bs HB hb;(try clear hb);have afh:0≤(aQ:Int):=of_decide_eq_true (by assumption);have afi:aQ<(l0.length:Int):=of_decide_eq_true (by assumption);obtain⟨amn,axy,axz,axA,axB,afj,afk,e138,KE,KF,KG,SC,SE,SG,SH,SI,SK⟩:=uU HR0.out aQ afh afi;obtain rfl:VH=amn:=(by injection e138);replace KE:=(HB.out.cell (World.block_lt_of_cell? w _ KE)).trans KE;replace KF:=(HB.out.cell (World.block_lt_of_cell? w _ KF)).trans KF;replace KG:=(HB.out.cell (World.block_lt_of_cell? w _ KG)).trans KG;have aq5:=ak SE;have aq6:=ak SC;clear SE SC;have aq7:=ak SH;have aq8:=ak SG;clear SH SG;have abN:=ak SK;have abO:=ak SI;clear SK SI;replace afh:=eq_true afh;replace afi:=eq_true afi)|(refine gL 35 36 func35 #[.slice afj ((aW l0 aQ).f2).length afk, .int .i64 Zc] ?_;(with_reducible refine(ih k1 (by have:=iM.out;omega) _ _ ((aW l0 aQ).f2) Zc t139 _ (cu (aT abN.out HB.out)) abO.out A12.out).mono ?_);rintro e w19 ⟨rfl,hb⟩;refine⟨_,rfl,?_⟩;replace HB:=bs HB hb;(try clear hb)))
       go_roundg k1
       case measure=>have:=iM.out;omega
       case rel=>exact⟨(t139),(wrap64 (aQ+1)),rs,rs,H',⟨by have:=iM.out;omega⟩,⟨ul HB.out⟩⟩
   ·obtain rfl:=Option.some.inj H;go_wp2;go_ret;exact⟨er,ul HB.out⟩
def uq.f(k:Nat)(dN:List (gI))(dQ:List ByteArray)(aH:List (ku))(a1:Int):Option (Int):=(dh.f k dN a1).bind fun t141=>(if t141<0 then(some (-1))else((fM.f k dQ t141).bind fun U0=>(if U0<0 then(some (-1))else((g_.f k aH U0).bind fun t143=>(if t143<0 then(some (-1))else(some t143))))))
set_option maxHeartbeats 8000000 in
set_option maxRecDepth 100000 in
theorem uq.calls(k:Nat)(jD:Option Addr)(jE:Nat)(dN:List (gI))(jW:Option Addr)(jX:Nat)(dQ:List ByteArray)(iw:Option Addr)(fC:Nat)(aH:List (ku))(a1:Int)(r:Int)(w:World)(pF:Kd.C oN w jD dN.length dN)(pG:dN.length≤jE)(pJ:Kd.C Kd.string w jW dQ.length dQ)(pK:dQ.length≤jX)(lZ:Kd.C k32 w iw aH.length aH)(l7:aH.length≤fC)(h:uq.f k dN dQ aH a1=some r):
  Calls Tryz.prog 14 #[.agg #[.slice jD dN.length jE, .slice jW dQ.length jX, .slice iw aH.length fC], .int .i64 a1] w fun e w'=>e= .returned (.int .i64 r)∧Below w.heap.size w w':=by
 have LU:=underlying32;have qG:=ak pF;have qR:=ak pG;clear pF pG;have vY:=ak pJ;have yS:=ak pK;clear pJ pK;have lC:=ak lZ;have oz:=ak l7;clear lZ l7;have HB:=ak (Below.refl w.heap.size w);have H:((dh.f k dN a1).bind fun t141=>(if t141<0 then(some (-1))else((fM.f k dQ t141).bind fun U0=>(if U0<0 then(some (-1))else((g_.f k aH U0).bind fun t143=>(if t143<0 then(some (-1))else(some t143)))))))=some r:=h;clear h;replace H:=bd H;obtain⟨t141,A3,H⟩:=H;replace H:=sd H;rcases H with⟨oG,H⟩|⟨oG,H⟩
 ·obtain rfl:=Option.some.inj H;go_enter func14,ntmps14;go_wp2_with (first|(refine bE 2 #[.slice jD dN.length jE, .slice jW dQ.length jX, .slice iw aH.length fC] 32 ?_;intro amo hg w5 hbox hb;have sS:=ak (hbox);have amq:=lq HB hg;have amr:=lq HB hg;replace HB:=bs HB hb;clear hb hbox hg;obtain⟨FP,FQ,UK,FT,FU,UL⟩:=jO sS.out)|(refine gL 33 8 func33 #[.slice jD dN.length jE, .int .i64 a1] ?_;(with_reducible refine(dh.calls k _ _ dN a1 t141 _ (cu (aT qG.out HB.out)) qR.out A3.out).mono ?_);rintro e w7 ⟨rfl,hb⟩;refine⟨_,rfl,?_⟩;replace sS:=kb sS hb;replace HB:=ak (aC bb hb);(try clear hb)))
  go_ret;exact⟨er,bb⟩
 ·replace H:=bd H;obtain⟨U0,A8,H⟩:=H;replace H:=sd H;rcases H with⟨vI,H⟩|⟨vI,H⟩
  ·obtain rfl:=Option.some.inj H;go_enter func14,ntmps14;go_wp2_with (first|(refine bE 2 #[.slice jD dN.length jE, .slice jW dQ.length jX, .slice iw aH.length fC] 32 ?_;intro amo hg w10 hbox hb;have sS:=ak (hbox);have amq:=lq HB hg;have amr:=lq HB hg;replace HB:=bs HB hb;clear hb hbox hg;obtain⟨AU,AV,ahv,AX,AY,ahw⟩:=jO sS.out)|(refine gL 33 8 func33 #[.slice jD dN.length jE, .int .i64 a1] ?_;(with_reducible refine(dh.calls k _ _ dN a1 t141 _ (cu (aT qG.out HB.out)) qR.out A3.out).mono ?_);rintro e w12 ⟨rfl,hb⟩;refine⟨_,rfl,?_⟩;replace sS:=kb sS hb;replace HB:=ak (aC bb hb);(try clear hb);obtain⟨uI,uJ,Ht,uK,uM,Hu⟩:=jO sS.out)|(refine gL 34 14 func34 #[.slice jW dQ.length jX, .int .i64 t141] ?_;(with_reducible refine(fM.calls k _ _ dQ t141 U0 _ (cu (aT vY.out HB.out)) yS.out A8.out).mono ?_);rintro e Us ⟨rfl,hb⟩;refine⟨_,rfl,?_⟩;replace sS:=kb sS hb;replace HB:=ak (aC bb hb);(try clear hb)))
   go_ret;exact⟨er,bb⟩
  ·replace H:=bd H;obtain⟨t143,A15,H⟩:=H;replace H:=sd H;rcases H with⟨L6,H⟩|⟨L6,H⟩
   ·obtain rfl:=Option.some.inj H;go_enter func14,ntmps14;go_wp2_with (first|(refine bE 2 #[.slice jD dN.length jE, .slice jW dQ.length jX, .slice iw aH.length fC] 32 ?_;intro amo hg w17 hbox hb;have sS:=ak (hbox);have amq:=lq HB hg;have amr:=lq HB hg;replace HB:=bs HB hb;clear hb hbox hg;obtain⟨wH,wI,zh,wJ,wK,zk⟩:=jO sS.out)|(refine gL 33 8 func33 #[.slice jD dN.length jE, .int .i64 a1] ?_;(with_reducible refine(dh.calls k _ _ dN a1 t141 _ (cu (aT qG.out HB.out)) qR.out A3.out).mono ?_);rintro e w19 ⟨rfl,hb⟩;refine⟨_,rfl,?_⟩;replace sS:=kb sS hb;replace HB:=ak (aC bb hb);(try clear hb);obtain⟨zo,zq,zu,zx,zy,zA⟩:=jO sS.out)|(refine gL 34 14 func34 #[.slice jW dQ.length jX, .int .i64 t141] ?_;(with_reducible refine(fM.calls k _ _ dQ t141 U0 _ (cu (aT vY.out HB.out)) yS.out A8.out).mono ?_);rintro e w21 ⟨rfl,hb⟩;refine⟨_,rfl,?_⟩;replace sS:=kb sS hb;replace HB:=ak (aC bb hb);(try clear hb);obtain⟨JW,NR,NS,JX,NT,NU⟩:=jO sS.out)|(refine gL 35 20 func35 #[.slice iw aH.length fC, .int .i64 U0] ?_;(with_reducible refine(g_.calls k _ _ aH U0 t143 _ (cu (aT lC.out HB.out)) oz.out A15.out).mono ?_);rintro e w23 ⟨rfl,hb⟩;refine⟨_,rfl,?_⟩;replace sS:=kb sS hb;replace HB:=ak (aC bb hb);(try clear hb)))
    go_ret;exact⟨er,bb⟩
   ·obtain rfl:=Option.some.inj H;go_enter func14,ntmps14;go_wp2_with (first|(refine bE 2 #[.slice jD dN.length jE, .slice jW dQ.length jX, .slice iw aH.length fC] 32 ?_;intro amo hg w24 hbox hb;have sS:=ak (hbox);have amq:=lq HB hg;have amr:=lq HB hg;replace HB:=bs HB hb;clear hb hbox hg;obtain⟨WS,WT,aax,WU,WV,aay⟩:=jO sS.out)|(refine gL 33 8 func33 #[.slice jD dN.length jE, .int .i64 a1] ?_;(with_reducible refine(dh.calls k _ _ dN a1 t141 _ (cu (aT qG.out HB.out)) qR.out A3.out).mono ?_);rintro e w26 ⟨rfl,hb⟩;refine⟨_,rfl,?_⟩;replace sS:=kb sS hb;replace HB:=ak (aC bb hb);(try clear hb);obtain⟨aFT,aFU,aFV,aFW,aFX,aFY⟩:=jO sS.out)|(refine gL 34 14 func34 #[.slice jW dQ.length jX, .int .i64 t141] ?_;(with_reducible refine(fM.calls k _ _ dQ t141 U0 _ (cu (aT vY.out HB.out)) yS.out A8.out).mono ?_);rintro e w28 ⟨rfl,hb⟩;refine⟨_,rfl,?_⟩;replace sS:=kb sS hb;replace HB:=ak (aC bb hb);(try clear hb);obtain⟨aFZ,aF0,aF1,aF2,aF3,aF4⟩:=jO sS.out)|(refine gL 35 20 func35 #[.slice iw aH.length fC, .int .i64 U0] ?_;(with_reducible refine(g_.calls k _ _ aH U0 t143 _ (cu (aT lC.out HB.out)) oz.out A15.out).mono ?_);rintro e w30 ⟨rfl,hb⟩;refine⟨_,rfl,?_⟩;replace sS:=kb sS hb;replace HB:=ak (aC bb hb);(try clear hb)))
    go_ret;exact⟨er,bb⟩
def jq.l0:Nat→List ByteArray→Int→Int→Option (Int)
 |0,_,_,_=>none
 |k+1,x0,x1,x5=>if x5<(x0.length:Int)then(if 0≤x5 then(if(wrap64 (x1-((f_ ByteArray.empty x0 x5).size:Int)))<0 then(some (-1))else(jq.l0 k x0 (wrap64 (x1-((f_ ByteArray.empty x0 x5).size:Int))) (wrap64 (x5+1))))else(none))else(some x1)
def jq.f(k:Nat)(l0:List ByteArray)(a1:Int):Option (Int):=if(wrap64 (a1-(l0.length:Int)))<0 then(some (-1))else(jq.l0 k l0 (wrap64 (a1-(l0.length:Int))) 0)
set_option maxHeartbeats 8000000 in
set_option maxRecDepth 100000 in
theorem jq.calls(k:Nat)(A0:Option Addr)(c0:Nat)(l0:List ByteArray)(a1:Int)(r:Int)(w:World)(hr0:Kd.C Kd.string w A0 l0.length l0)(hc0:l0.length≤c0)(h:jq.f k l0 a1=some r):
  Calls Tryz.prog 15 #[.slice A0 l0.length c0, .int .i64 a1] w fun e w'=>e= .returned (.int .i64 r)∧fZ w w':=by
 have HR0:=ak hr0;have sK:=ak hc0;clear hr0 hc0;have H:(if(wrap64 (a1-(l0.length:Int)))<0 then(some (-1))else(jq.l0 k l0 (wrap64 (a1-(l0.length:Int))) 0))=some r:=h;clear h;replace H:=sp H;rcases H with⟨c3,H⟩|⟨c3,H⟩
 ·have iK:=decide_eq_true c3
  (try(have xW:decide ((a1-(l0.length:Int))<0)=true:=decide_eq_true (by have h_:=c3;unfold wrap64 at h_;omega)));clear c3;obtain rfl:=Option.some.inj H;go_enter func15,ntmps15;go_wp2;go_ret;exact⟨rs,dn⟩
 ·have iK:=decide_eq_false c3
  (try(have xW:decide ((a1-(l0.length:Int))<0)=false:=decide_eq_false (by have h_:=c3;unfold wrap64 at h_;omega)));clear c3;have H':=ak H;clear H;go_enter func15,ntmps15;go_wp2;go_loopg [1,5] k (fun kq v1 v5 w'=>∃(oD:Int) (aQ:Int),v1= .int .i64 oD∧v5= .int .i64 aQ∧ay (jq.l0 kq l0 oD aQ=some r)∧ay (kq≤k)∧fZ w w')
  case atStart=>exact⟨(wrap64 (a1-(l0.length:Int))),(0),rs,rs,H',⟨Nat.le_refl _⟩,dn⟩
  case round=>
   clear H';try clear c1
   try clear p2
   try clear c3
   try clear iK
   try clear xW
   obtain⟨oD,aQ,rfl,rfl,HA,iM,⟨m1,rfl⟩⟩:=hrel
   cases gk with
   |zero=>exact absurd HA.out (by simp[jq.l0])
   |succ k1=>
    have H:=HA.out;clear HA;simp only[jq.l0]at H;replace H:=sd H;rcases H with⟨oG,H⟩|⟨oG,H⟩
    ·replace H:=oL H;obtain⟨o_,H⟩:=H;replace H:=sp H;rcases H with⟨c6,H⟩|⟨c6,H⟩
     ·have mG:=decide_eq_true c6
      (try(have B_:decide ((oD-((f_ ByteArray.empty l0 aQ).size:Int))<0)=true:=decide_eq_true (by have h_:=c6;unfold wrap64 at h_;omega)));clear c6;obtain rfl:=Option.some.inj H;have afl:=zi aQ;have afm:=zj aQ l0.length;obtain⟨aCa,axC,aq9⟩:=dY HR0.out aQ afl afm;cases axC;replace afl:=eq_true afl;replace afm:=eq_true afm;go_wp2;go_ret;exact⟨rs,dn⟩
     ·have mG:=decide_eq_false c6
      (try(have B_:decide ((oD-((f_ ByteArray.empty l0 aQ).size:Int))<0)=false:=decide_eq_false (by have h_:=c6;unfold wrap64 at h_;omega)));clear c6;have H':=ak H;clear H;have afl:=zi aQ;have afm:=zj aQ l0.length;obtain⟨aCa,axC,aq9⟩:=dY HR0.out aQ afl afm;cases axC;replace afl:=eq_true afl;replace afm:=eq_true afm;go_wp2;go_roundg k1
      case measure=>have:=iM.out;omega
      case rel=>exact⟨(wrap64 (oD-((f_ ByteArray.empty l0 aQ).size:Int))),(wrap64 (aQ+1)),rs,rs,H',⟨by have:=iM.out;omega⟩,dn⟩
    ·obtain rfl:=Option.some.inj H;go_wp2;go_ret;exact⟨rs,dn⟩
def gU.f(a0:ByteArray):Option (ByteArray):=if a0.size≤140737488355328 then some (strOfNums ((bytesOf a0).map Y8))else none
set_option maxHeartbeats 1000000 in
set_option maxRecDepth 100000 in
theorem gU.calls(a0:ByteArray)(r:ByteArray)(w:World)(h:gU.f a0=some r):
  Calls Tryz.prog 116 #[.string a0] w fun e w'=>e= .returned (.string r)∧Below w.heap.size w w':=by
 unfold gU.f at h;split at h
 ·rename_i hb
  injection h with h;subst h;have kb:=fun W=>Vy (P:=Tryz.prog) 9 77 5 underlying9 underlying77 underlying5 a0 W
  go_enter func116,ntmps116;go_wp2;go_loopw [4] (fun i W=>∃k:Nat,k≤a0.size∧i= .int .i64 k∧Uz w w.heap.size (Lj (bytesOf a0) k) W) (fun i _=>a0.size-(intOf i).toNat)
  case atStart=>exact⟨0,Nat.zero_le _,rfl,by simpa [Lj] using Qy w 5 a0⟩
  case round=>
   obtain⟨k,hk,rfl,hR⟩:=hrel;have HR:=ak hR;by_cases hlt:k<a0.size
   ·have hc:=hR.cell k (by rw[nG,bytesOf_length];exact hlt);have hf:=hR.free k (by rw[nG,bytesOf_length];exact hlt);rw[aao _ _ (by rw[bytesOf_length];exact hlt)]at hc;clear hR;have hr:=OL a0 k;have hs:=ak (Zt (bytesOf a0) k (by rw[bytesOf_length];exact hlt));have hu:=ak (UA (bytesOf a0) k (by rw[bytesOf_length];exact hlt))
    generalize (bytesOf a0).getD k 0=c at hc hr hs hu
    go_wp2
    ·go_roundw
     case rel=>exact⟨k+1,by omega,by go_num,by
      rw[hu.out,Y8,if_pos ⟨by omega,by omega⟩];exact HR.out.store (Nat.le_refl _) k (by rw[nG,bytesOf_length];exact hlt) _⟩
     case measure=>simp[intOf];omega
    ·go_roundw
     case rel=>exact⟨k+1,by omega,by go_num,by rw[hs.out (by omega)];exact HR.out⟩
     case measure=>simp[intOf];omega
    ·go_roundw
     case rel=>exact⟨k+1,by omega,by go_num,by rw[hs.out (by omega)];exact HR.out⟩
     case measure=>simp[intOf];omega
   ·clear hR
    have kd:=run_convert_bytes_arg (P:=Tryz.prog) wr 77 5 underlying77 underlying5 w.heap.size 0 a0.size (grownCap w a0.size 0 5) (Lj (bytesOf a0) k) (by rw[nG,bytesOf_length]) (fun i hi=>by
     rw[Nat.zero_add];exact HR.out.cell i (by rw[nG,bytesOf_length];exact hi)) 9 underlying9
    go_wp2;go_ret;have hk2:k=a0.size:=by omega
    exact⟨by rw[hk2,acD (bytesOf a0) a0.size (bytesOf_length a0)];rfl,HR.out.below⟩
 ·cases h
def uw.f(a0:ByteArray)(a1:ByteArray):Option (Bool):=(gU.f a0).bind fun t145=>((gU.f a1).bind fun t146=>(some (t145.toList==t146.toList)))
set_option maxHeartbeats 8000000 in
set_option maxRecDepth 100000 in
theorem uw.calls(a0:ByteArray)(a1:ByteArray)(r:Bool)(w:World)(h:uw.f a0 a1=some r):
  Calls Tryz.prog 136 #[.string a0, .string a1] w fun e w'=>e= .returned (.bool r)∧Below w.heap.size w w':=by
 have HB:=ak (Below.refl w.heap.size w);have H:((gU.f a0).bind fun t145=>((gU.f a1).bind fun t146=>(some (t145.toList==t146.toList))))=some r:=h;clear h;replace H:=bd H;obtain⟨t145,A3,H⟩:=H;replace H:=bd H;obtain⟨t146,A4,H⟩:=H;obtain rfl:=Option.some.inj H;go_enter func136,ntmps136;go_wp2_with (first|(refine gL 116 6 func116 #[.string a0] ?_;(with_reducible refine(gU.calls a0 t145 _ A3.out).mono ?_);rintro e w5 ⟨rfl,hb⟩;refine⟨_,rfl,?_⟩;replace HB:=bs HB hb;(try clear hb))|(refine gL 116 8 func116 #[.string a1] ?_;(with_reducible refine(gU.calls a1 t146 _ A4.out).mono ?_);rintro e w6 ⟨rfl,hb⟩;refine⟨_,rfl,?_⟩;replace HB:=bs HB hb;(try clear hb)))
 go_ret;exact⟨er,ul HB.out⟩
def kG.l0:Nat→List (gI)→ByteArray→Int→Option (Int)
 |0,_,_,_=>none
 |k+1,x0,x1,x5=>if x5<(x0.length:Int)then(if 0≤x5 then((uw.f ((aG x0 x5).f0) x1).bind fun t148=>(if t148=true then(some x5)else(kG.l0 k x0 x1 (wrap64 (x5+1)))))else(none))else(some (-1))
def kG.f(k:Nat)(l0:List (gI))(a1:ByteArray):Option (Int):=kG.l0 k l0 a1 0
set_option maxHeartbeats 8000000 in
set_option maxRecDepth 100000 in
theorem kG.calls(k:Nat)(A0:Option Addr)(c0:Nat)(l0:List (gI))(a1:ByteArray)(r:Int)(w:World)(hr0:Kd.C oN w A0 l0.length l0)(hc0:l0.length≤c0)(h:kG.f k l0 a1=some r):
  Calls Tryz.prog 114 #[.slice A0 l0.length c0, .string a1] w fun e w'=>e= .returned (.int .i64 r)∧Below w.heap.size w w':=by
 have HR0:=ak hr0;have sK:=ak hc0;clear hr0 hc0;have HB:=ak (Below.refl w.heap.size w);have H:(kG.l0 k l0 a1 0)=some r:=h;clear h;have H':=ak H;clear H;go_enter func114,ntmps114;go_wp2;go_loopg [5] k (fun kq v5 w'=>∃(aQ:Int),v5= .int .i64 aQ∧ay (kG.l0 kq l0 a1 aQ=some r)∧ay (kq≤k)∧ay (Below w.heap.size w w'))
 case atStart=>exact⟨(0),rs,H',⟨Nat.le_refl _⟩,⟨ul HB.out⟩⟩
 case round=>
  clear H';try clear c1
  try clear p2
  obtain⟨aQ,rfl,HA,iM,HB⟩:=hrel
  cases gk with
  |zero=>exact absurd HA.out (by simp[kG.l0])
  |succ k1=>
   have H:=HA.out;clear HA;simp only[kG.l0]at H;replace H:=sd H;rcases H with⟨iK,H⟩|⟨iK,H⟩
   ·replace H:=oL H;obtain⟨oG,H⟩:=H;replace H:=bd H;obtain⟨t148,A5,H⟩:=H;replace H:=sb H;rcases H with⟨rfl,H⟩|⟨rfl,H⟩
    ·obtain rfl:=Option.some.inj H;have afn:=zi aQ;have afo:=zj aQ l0.length;obtain⟨aCb,axD,SL,SN⟩:=oC HR0.out aQ afn afo;cases axD;replace SL:=cl HB.out SL;replace SN:=cl HB.out SN;replace afn:=eq_true afn;replace afo:=eq_true afo;go_wp2_with (first|(refine gL 136 18 func136 #[.string ((aG l0 aQ).f0), .string a1] ?_;(with_reducible refine(uw.calls ((aG l0 aQ).f0) a1 true _ A5.out).mono ?_);rintro e w7 ⟨rfl,hb⟩;refine⟨_,rfl,?_⟩;replace HB:=bs HB hb;(try clear hb)))
     go_ret;exact⟨er,ul HB.out⟩
    ·have H':=ak H;clear H;have afn:=zi aQ;have afo:=zj aQ l0.length;obtain⟨aCb,axD,SL,SN⟩:=oC HR0.out aQ afn afo;cases axD;replace SL:=cl HB.out SL;replace SN:=cl HB.out SN;replace afn:=eq_true afn;replace afo:=eq_true afo;go_wp2_with (first|(refine gL 136 18 func136 #[.string ((aG l0 aQ).f0), .string a1] ?_;(with_reducible refine(uw.calls ((aG l0 aQ).f0) a1 false _ A5.out).mono ?_);rintro e w8 ⟨rfl,hb⟩;refine⟨_,rfl,?_⟩;replace HB:=bs HB hb;(try clear hb)))
     go_roundg k1
     case measure=>have:=iM.out;omega
     case rel=>exact⟨(wrap64 (aQ+1)),rs,H',⟨by have:=iM.out;omega⟩,⟨ul HB.out⟩⟩
   ·obtain rfl:=Option.some.inj H;go_wp2;go_ret;exact⟨er,ul HB.out⟩
def kT.f(k:Nat)(l0:List (gI))(a1:ByteArray):Option (ByteArray×Bool):=(kG.f k l0 a1).bind fun P6=>(if P6<0 then(some ((⟨#[]⟩:ByteArray),false))else(if 0≤P6 then(if P6<(l0.length:Int)then(some ((aG l0 P6).f1,true))else(none))else(none)))
set_option maxHeartbeats 8000000 in
set_option maxRecDepth 100000 in
theorem kT.calls(k:Nat)(A0:Option Addr)(c0:Nat)(l0:List (gI))(a1:ByteArray)(r1:ByteArray)(r2:Bool)(w:World)(hr0:Kd.C oN w A0 l0.length l0)(hc0:l0.length≤c0)(h:kT.f k l0 a1=some (r1,r2)):
  Calls Tryz.prog 80 #[.slice A0 l0.length c0, .string a1] w fun e w'=>e= .returned (.tuple #[.string r1, .bool r2])∧Below w.heap.size w w':=by
 have HR0:=ak hr0;have sK:=ak hc0;clear hr0 hc0;have HB:=ak (Below.refl w.heap.size w);have H:((kG.f k l0 a1).bind fun P6=>(if P6<0 then(some ((⟨#[]⟩:ByteArray),false))else(if 0≤P6 then(if P6<(l0.length:Int)then(some ((aG l0 P6).f1,true))else(none))else(none))))=some (r1,r2):=h;clear h;replace H:=bd H;obtain⟨P6,A3,H⟩:=H;replace H:=sd H;rcases H with⟨oG,H⟩|⟨oG,H⟩
 ·simp only[Option.some.injEq,Prod.mk.injEq]at H;obtain⟨rfl,rfl⟩:=H;go_enter func80,ntmps80;go_wp2_with (first|(refine gL 114 9 func114 #[.slice A0 l0.length c0, .string a1] ?_;(with_reducible refine(kG.calls k _ _ l0 a1 P6 _ (cu HR0.out) sK.out A3.out).mono ?_);rintro e w5 ⟨rfl,hb⟩;refine⟨_,rfl,?_⟩;replace HB:=bs HB hb;(try clear hb)))
  go_ret2;exact⟨er,ul HB.out⟩
 ·replace H:=oL H;obtain⟨mG,H⟩:=H;replace H:=oL H;obtain⟨qp,H⟩:=H;simp only[Option.some.injEq,Prod.mk.injEq]at H;obtain⟨rfl,rfl⟩:=H;go_enter func80,ntmps80;go_wp2_with (first|(refine gL 114 9 func114 #[.slice A0 l0.length c0, .string a1] ?_;(with_reducible refine(kG.calls k _ _ l0 a1 P6 _ (cu HR0.out) sK.out A3.out).mono ?_);rintro e w8 ⟨rfl,hb⟩;refine⟨_,rfl,?_⟩;replace HB:=bs HB hb;(try clear hb);have axE:0≤(P6:Int):=of_decide_eq_true (by assumption);have axF:P6<(l0.length:Int):=of_decide_eq_true (by assumption);obtain⟨aMA,aJv,abP,abQ⟩:=oC HR0.out P6 axE axF;cases aJv;replace abP:=(HB.out.cell (World.block_lt_of_cell? w _ abP)).trans abP;replace abQ:=(HB.out.cell (World.block_lt_of_cell? w _ abQ)).trans abQ;replace axE:=eq_true axE;replace axF:=eq_true axF))
  go_ret2;exact⟨er,ul HB.out⟩
mutual
def bK.l0:Nat→ByteArray→Int→Option (Bool)
 |0,_,_=>none
 |k+1,x0,x3=>if x3<(x0.size:Int)then(bK.j1 k x0 x3 (decide (x3≤200)))else(bK.j1 k x0 x3 false)
def bK.j1:Nat→ByteArray→Int→Bool→Option (Bool)
 |0,_,_,_=>none
 |k+1,x0,x3,x11=>if x11=true then(if 0≤x3 then(if x3<(x0.size:Int)then(if(bt x0 x3)<32 then(some false)else(if(bt x0 x3)>126 then(some false)else(bK.l0 k x0 (wrap64 (x3+1)))))else(none))else(none))else(some (decide ((x0.size:Int)≤200)))
end
def bK.f(k:Nat)(a0:ByteArray):Option (Bool):=bK.l0 k a0 0
set_option maxHeartbeats 8000000 in
set_option maxRecDepth 100000 in
theorem bK.calls(k:Nat)(a0:ByteArray)(r:Bool)(w:World)(h:bK.f k a0=some r):
  Calls Tryz.prog 107 #[.string a0] w fun e w'=>e= .returned (.bool r)∧fZ w w':=by
 have H:(bK.l0 k a0 0)=some r:=h;clear h;have H':=ak H;clear H;go_enter func107,ntmps107;go_wp2;go_loopg [3] k (fun kq v3 w'=>∃(dS:Int),v3= .int .i64 dS∧ay (bK.l0 kq a0 dS=some r)∧ay (kq≤k)∧fZ w w')
 case atStart=>exact⟨(0),rs,H',⟨Nat.le_refl _⟩,dn⟩
 case round=>
  clear H';try clear c1
  obtain⟨dS,rfl,HA,iM,⟨m1,rfl⟩⟩:=hrel
  cases gk with
  |zero=>exact absurd HA.out (by simp[bK.l0])
  |succ k1=>
   have H:=HA.out;clear HA;simp only[bK.l0]at H;have HC2:=ak H;clear H;go_upto_region 2 with(fail)
   go_cut [11] (fun v11 wc=>∃(kq:Nat) (xG:Bool),v11= .bool xG∧ay (bK.j1 kq a0 dS xG=some r)∧ay (kq≤k1)∧fZ w wc)
   case first=>
    have H:=HC2.out;clear HC2;replace H:=sd H;rcases H with⟨iK,H⟩|⟨iK,H⟩
    ·(first|rw[iK]|(simp only[bf,bD];rw[iK])|skip);have H':=ak H;clear H;go_wp2;go_meet
     case rel=>exact⟨_,(decide (dS≤200)),rs,H',⟨by have:=iM.out;first|omega|exact Nat.le_refl _⟩,dn⟩
    ·(first|rw[iK]|(simp only[bf,bD];rw[iK])|skip);have H':=ak H;clear H;go_wp2;go_meet
     case rel=>exact⟨_,(false),rs,H',⟨by have:=iM.out;first|omega|exact Nat.le_refl _⟩,dn⟩
   case rest=>
    clear HC2;try clear c1
    try clear p2
    try clear c3
    try clear iK
    obtain⟨kq,xG,rfl,HA,Oi,⟨mc1,rfl⟩⟩:=hcut
    cases kq with
    |zero=>exact absurd HA.out (by simp[bK.j1])
    |succ Oj=>
     have H:=HA.out;clear HA;simp only[bK.j1]at H;replace H:=sb H;rcases H with⟨rfl,H⟩|⟨rfl,H⟩
     ·replace H:=oL H;obtain⟨o_,H⟩:=H;replace H:=oL H;obtain⟨mG,H⟩:=H;replace H:=sd H;rcases H with⟨rV,H⟩|⟨rV,H⟩
      ·obtain rfl:=Option.some.inj H;obtain⟨p7,q7,hx7⟩:=bx a0 dS;go_wp2;go_ret;exact⟨rs,dn⟩
      ·replace H:=sp H;rcases H with⟨c10,H⟩|⟨c10,H⟩
       ·have rW:decide (126<(bt a0 dS))=true:=decide_eq_true c10;clear c10;obtain rfl:=Option.some.inj H;obtain⟨p7,q7,hx7⟩:=bx a0 dS;obtain⟨p9,q9,hx9⟩:=bx a0 dS;go_wp2;go_ret;exact⟨rs,dn⟩
       ·have rW:decide (126<(bt a0 dS))=false:=decide_eq_false c10;clear c10;have H':=ak H;clear H;obtain⟨p7,q7,hx7⟩:=bx a0 dS;obtain⟨p9,q9,hx9⟩:=bx a0 dS;go_wp2;go_roundg Oj
        case measure=>have:=iM.out;have:=Oi.out;omega
        case rel=>exact⟨(wrap64 (dS+1)),rs,H',⟨by have:=iM.out;have:=Oi.out;omega⟩,dn⟩
     ·obtain rfl:=Option.some.inj H;go_wp2;go_ret;exact⟨rs,dn⟩
mutual
def gq.l0:Nat→ByteArray→List ByteArray→Int→Option (List ByteArray×Bool)
 |0,_,_,_=>none
 |k+1,x0,x4,x5=>if x5<(x0.size:Int)then(if 0≤x5 then(if(bt x0 x5)=32 then(gq.l0 k x0 x4 (wrap64 (x5+1)))else(if(bt x0 x5)=34 then((iD.f k x0 x5).bind fun Tm=>(if Tm.2<0 then(some ((([]:List ByteArray)),false))else(if Tm.2=x5 then(some ((([]:List ByteArray)),false))else(if Tm.2<(x0.size:Int)then(if 0≤Tm.2 then(if(bt x0 Tm.2)=32 then(if x4.length<8796093022208 then(gq.l0 k x0 (x4++[Tm.1]) Tm.2)else(none))else(some ((([]:List ByteArray)),false)))else(none))else(if x4.length<8796093022208 then(gq.l0 k x0 (x4++[Tm.1]) Tm.2)else(none))))))else(gq.l1 k x0 x4 x5 x5)))else(none))else(some (x4,true))
def gq.l1:Nat→ByteArray→List ByteArray→Int→Int→Option (List ByteArray×Bool)
 |0,_,_,_,_=>none
 |k+1,x0,x4,x5,x6=>if x5<(x0.size:Int)then(if 0≤x5 then((jV.f k (bt x0 x5)).bind fun aDv=>(if aDv=true then(gq.l1 k x0 x4 (wrap64 (x5+1)) x6)else(if 0≤x6 then(if x6≤x5 then(if x5≤(x0.size:Int)then(if x5=x6 then(some ((([]:List ByteArray)),false))else(if(bt x0 x5)=32 then(if x4.length<8796093022208 then(gq.l0 k x0 (x4++[x0.extract (x6:Int).toNat (x5:Int).toNat]) x5)else(none))else(some ((([]:List ByteArray)),false))))else(none))else(none))else(none))))else(none))else(if 0≤x6 then(if x6≤x5 then(if x5≤(x0.size:Int)then(if x5=x6 then(some ((([]:List ByteArray)),false))else(if x4.length<8796093022208 then(gq.l0 k x0 (x4++[x0.extract (x6:Int).toNat (x5:Int).toNat]) x5)else(none)))else(none))else(none))else(none))
end
def gq.f(k:Nat)(a0:ByteArray):Option (List ByteArray×Bool):=gq.l0 k a0 (([]:List ByteArray)) 0
theorem gq.calls(k:Nat)(a0:ByteArray)(r1:List ByteArray)(r2:Bool)(w:World)(h:gq.f k a0=some (r1,r2)):
  Calls Tryz.prog 117 #[.string a0] w fun e w'=>∃sZ:Value,e= .returned (.tuple #[sZ, .bool r2])∧Kd.R Kd.string 9 w' w.heap.size (fun _=>True) sZ r1∧Below w.heap.size w w':=by
 have HB:=ak (Below.refl w.heap.size w);have H:(gq.l0 k a0 (([]:List ByteArray)) 0)=some (r1,r2):=h;clear h;obtain⟨aKu,ani⟩:=nm ([]:List ByteArray);rw[←ani.out]at H;have H':=ak H;clear H;go_enter func117,ntmps117;go_wp2_with (refine gG 8 ?_;refine lRN 8 Kd.string 9 ani ?_;intro aRe w2 ho3 hb;have aDw:=ak (bQ ho3 (aA (ul HB.out)));replace HB:=bs HB hb;clear hb ho3)
 go_loopg [4,5] k (fun kq v4 v5 w'=>∃(fG:List ByteArray) (aQ:Int),v5= .int .i64 aQ∧ay (gq.l0 kq a0 fG aQ=some (r1,r2))∧ay (kq≤k)∧ay (Kd.R Kd.string 9 w' w.heap.size (fun _=>True) v4 fG)∧ay (Below w.heap.size w w'))
 case atStart=>exact⟨_,_,rs,H',⟨Nat.le_refl _⟩,⟨ur aDw.out⟩,⟨ul HB.out⟩⟩
 case round=>
  clear H';obtain⟨fG,aQ,rfl,HA,iM,gy,HB⟩:=hrel
  cases gk with
  |zero=>exact zz HA.out
  |succ k1=>
   obtain⟨H⟩:=HA;simp only[gq.l0]at H;replace H:=sd H;rcases H with⟨oG,H⟩|⟨oG,H⟩
   ·replace H:=oL H;obtain⟨o_,H⟩:=H;replace H:=sq H;rcases H with⟨qp,D_,H⟩|⟨c7,qp,D_,H⟩
    ·have H':=ak H;clear H;obtain⟨p6,q6,hx6⟩:=bx a0 aQ;go_wp2;go_roundg k1
     case measure=>exact kl
     case rel=>exact⟨_,_,rs,H',⟨kl⟩,⟨ur gy.out⟩,⟨ul HB.out⟩⟩
    ·replace H:=sq H;rcases H with⟨vI,Df,H⟩|⟨c9,vI,Df,H⟩
     ·replace H:=bd H;obtain⟨⟨t157,U7⟩,A10,H⟩:=H
      (try dsimp only at H);replace H:=sd H;rcases H with⟨yC,H⟩|⟨yC,H⟩
      ·obtain⟨y159,anj⟩:=nm ([]:List ByteArray);rw[←anj.out]at H;obtain⟨rfl,rfl⟩:=s2 H;obtain⟨p6,q6,hx6⟩:=bx a0 aQ;obtain⟨p8,q8,hx8⟩:=bx a0 aQ;go_wp2_with (first|(refine gA func137 (iD.calls k1 a0 aQ t157 U7 _ A10.out) ?_;intro nd)|(refine gG 32 ?_;refine lRN 32 Kd.string 9 anj ?_;intro v160 w12 V6 hb;have aDx:=ak (bQ (lu V6 (oK (ur gy.out))) (aA (ul HB.out)));replace gy:=ak (kE (ur gy.out) (iO V6) hb);replace HB:=bs HB hb;clear hb V6))
       go_ret2;exact⟨_,er,ur (aK aDx.out (fun _ hk=>trivial)),ul HB.out⟩
      ·replace H:=sq H;rcases H with⟨tH,xq,H⟩|⟨c14,tH,xq,H⟩
       ·obtain⟨aRf,ank⟩:=nm ([]:List ByteArray);rw[←ank.out]at H;obtain⟨rfl,rfl⟩:=s2 H;obtain⟨p6,q6,hx6⟩:=bx a0 aQ;obtain⟨p8,q8,hx8⟩:=bx a0 aQ;go_wp2_with (first|(refine gA func137 (iD.calls k1 a0 aQ t157 U7 _ A10.out) ?_;intro nd)|(refine gG 64 ?_;refine lRN 64 Kd.string 9 ank ?_;intro aRg w15 aje hb;have aDy:=ak (bQ (lu aje (oK (ur gy.out))) (aA (ul HB.out)));replace gy:=ak (kE (ur gy.out) (iO aje) hb);replace HB:=bs HB hb;clear hb aje))
        go_ret2;exact⟨_,er,ur (aK aDy.out (fun _ hk=>trivial)),ul HB.out⟩
       ·replace H:=sd H;rcases H with⟨uz,H⟩|⟨uz,H⟩
        ·replace H:=oL H;obtain⟨Hy,H⟩:=H;replace H:=sq H;rcases H with⟨VA,Xz,H⟩|⟨c20,VA,Xz,H⟩
         ·replace H:=nl H;obtain⟨acO,H⟩:=H;obtain⟨aKv,au4⟩:=nm (fG++[t157]);rw[←au4.out]at H;have H':=ak H;clear H;obtain⟨p6,q6,hx6⟩:=bx a0 aQ;obtain⟨p8,q8,hx8⟩:=bx a0 aQ;go_wp2_with (first|(refine gA func137 (iD.calls k1 a0 aQ t157 U7 _ A10.out) ?_;intro nd;have p19:0≤(U7:Int):=of_decide_eq_true (by assumption);have q19:U7<(a0.size:Int):=of_decide_eq_true (by assumption);have aDz:=vK a0 U7;replace p19:=eq_true p19;replace q19:=eq_true q19)|((with_reducible refine bM (b:= .append) (xs:=#[.tmp 65, .tmp 67]) rfl ?_);(try(refine aX (by rfl) ?_;dsimp only));at_builtin;refine aP 65 67 Kd.string 23 9 (.string ⟨#[]⟩) 16 underlying23 info9 HB (ur gy.out) au4 (by have:=acO.out;omega) ?_;intro aRh w22 ho hb hg hat;have aDA:=ak (ho);replace HB:=ak (hb);clear ho hb hg hat gy))
          go_roundg k1
          case measure=>exact kl
          case rel=>exact⟨_,_,rs,H',⟨kl⟩,⟨ur aDA.out⟩,⟨ul HB.out⟩⟩
         ·obtain⟨y168,anl⟩:=nm ([]:List ByteArray);rw[←anl.out]at H;obtain⟨rfl,rfl⟩:=s2 H;obtain⟨p6,q6,hx6⟩:=bx a0 aQ;obtain⟨p8,q8,hx8⟩:=bx a0 aQ;go_wp2_with (first|(refine gA func137 (iD.calls k1 a0 aQ t157 U7 _ A10.out) ?_;intro nd;have p19:0≤(U7:Int):=of_decide_eq_true (by assumption);have q19:U7<(a0.size:Int):=of_decide_eq_true (by assumption);have aDz:=vK a0 U7;replace p19:=eq_true p19;replace q19:=eq_true q19)|(refine gG 64 ?_;refine lRN 64 Kd.string 9 anl ?_;intro aRi w23 V_ hb;have aDB:=ak (bQ (lu V_ (oK (ur gy.out))) (aA (ul HB.out)));replace gy:=ak (kE (ur gy.out) (iO V_) hb);replace HB:=bs HB hb;clear hb V_))
          go_ret2;exact⟨_,er,ur (aK aDB.out (fun _ hk=>trivial)),ul HB.out⟩
        ·replace H:=nl H;obtain⟨acP,H⟩:=H;obtain⟨aKw,au5⟩:=nm (fG++[t157]);rw[←au5.out]at H;have H':=ak H;clear H;obtain⟨p6,q6,hx6⟩:=bx a0 aQ;obtain⟨p8,q8,hx8⟩:=bx a0 aQ;go_wp2_with (first|(refine gA func137 (iD.calls k1 a0 aQ t157 U7 _ A10.out) ?_;intro nd)|((with_reducible refine bM (b:= .append) (xs:=#[.tmp 65, .tmp 67]) rfl ?_);(try(refine aX (by rfl) ?_;dsimp only));at_builtin;refine aP 65 67 Kd.string 23 9 (.string ⟨#[]⟩) 16 underlying23 info9 HB (ur gy.out) au5 (by have:=acP.out;omega) ?_;intro aRj w26 ho hb hg hat;have aDC:=ak (ho);replace HB:=ak (hb);clear ho hb hg hat gy))
         go_roundg k1
         case measure=>exact kl
         case rel=>exact⟨_,_,rs,H',⟨kl⟩,⟨ur aDC.out⟩,⟨ul HB.out⟩⟩
     ·have H':=ak H;clear H;obtain⟨p6,q6,hx6⟩:=bx a0 aQ;obtain⟨p8,q8,hx8⟩:=bx a0 aQ;go_wp2;go_loopg [5] k1 (fun kq v5 w'=>∃(iI:Int),v5= .int .i64 iI∧ay (gq.l1 kq a0 fG iI aQ=some (r1,r2))∧ay (kq≤k1)∧ay (Kd.R Kd.string 9 w' w.heap.size (fun _=>True) u4 fG)∧ay (Below w.heap.size w w'))
      case atStart=>exact⟨_,rs,H',⟨Nat.le_refl _⟩,⟨ur gy.out⟩,⟨ul HB.out⟩⟩
      case round=>
       clear H';try clear oG
       try clear o_
       try clear p6
       try clear q6
       try clear hx6
       try clear c7
       try clear qp
       try clear D_
       try clear p8
       try clear q8
       try clear hx8
       try clear c9
       try clear vI
       try clear Df
       try clear p6
       try clear p8
       try clear q6
       try clear q8
       obtain⟨iI,rfl,HA,yR,gy,HB⟩:=hrel
       cases gk with
       |zero=>exact zz HA.out
       |succ k2=>
        obtain⟨H⟩:=HA;simp only[gq.l1]at H;replace H:=sd H;rcases H with⟨OO,H⟩|⟨OO,H⟩
        ·replace H:=oL H;obtain⟨OQ,H⟩:=H;replace H:=bd H;obtain⟨aDv,A30,H⟩:=H;replace H:=sb H;rcases H with⟨rfl,H⟩|⟨rfl,H⟩
         ·have H':=ak H;clear H;obtain⟨p29,q29,hx29⟩:=bx a0 iI;go_wp2_with (go_at_call 138;refine mA (jV.calls k2 (bt a0 iI) true _ A30.out) ?_;intro nd)
          go_roundg k2
          case measure=>exact kl
          case rel=>exact⟨_,rs,H',⟨kl⟩,⟨ur gy.out⟩,⟨ul HB.out⟩⟩
         ·replace H:=Fe H;obtain⟨acU,atV,H⟩:=H;replace H:=Fe H;obtain⟨akE,atW,H⟩:=H;replace H:=Fe H;obtain⟨ahH,atX,H⟩:=H;replace H:=sq H;rcases H with⟨ZH,ahd,H⟩|⟨c35,ZH,ahd,H⟩
          ·obtain⟨aRk,anm⟩:=nm ([]:List ByteArray);rw[←anm.out]at H;obtain⟨rfl,rfl⟩:=s2 H;obtain⟨p29,q29,hx29⟩:=bx a0 iI;go_wp2_with (first|(go_at_call 138;refine mA (jV.calls k2 (bt a0 iI) false _ A30.out) ?_;intro nd)|(refine gG 64 ?_;refine lRN 64 Kd.string 9 anm ?_;intro aRl w36 ajf hb;have aDD:=ak (bQ (lu ajf (oK (ur gy.out))) (aA (ul HB.out)));replace gy:=ak (kE (ur gy.out) (iO ajf) hb);replace HB:=bs HB hb;clear hb ajf))
           go_ret2;exact⟨_,er,ur (aK aDD.out (fun _ hk=>trivial)),ul HB.out⟩
          ·replace H:=sq H;rcases H with⟨aDE,aDF,H⟩|⟨c39,aDE,aDF,H⟩
           ·replace H:=nl H;obtain⟨amG,H⟩:=H;obtain⟨aKx,au6⟩:=nm (fG++[a0.extract (aQ:Int).toNat (iI:Int).toNat]);rw[←au6.out]at H;have H':=ak H;clear H;obtain⟨p29,q29,hx29⟩:=bx a0 iI;go_wp2_with (first|(go_at_call 138;refine mA (jV.calls k2 (bt a0 iI) false _ A30.out) ?_;intro nd;have p38:0≤(iI:Int):=of_decide_eq_true (by assumption);have q38:iI<(a0.size:Int):=of_decide_eq_true (by assumption);have hx38:=vK a0 iI;replace p38:=eq_true p38;replace q38:=eq_true q38)|((with_reducible refine bM (b:= .append) (xs:=#[.tmp 65, .tmp 67]) rfl ?_);(try(refine aX (by rfl) ?_;dsimp only));at_builtin;refine aP 65 67 Kd.string 23 9 (.string ⟨#[]⟩) 16 underlying23 info9 HB (ur gy.out) au6 (by have:=amG.out;omega) ?_;intro aRm w41 ho hb hg hat;have aDG:=ak (ho);replace HB:=ak (hb);clear ho hb hg hat gy))
            go_roundg k2
            case measure=>exact kl
            case rel=>exact⟨_,_,rs,H',⟨kl⟩,⟨ur aDG.out⟩,⟨ul HB.out⟩⟩
           ·obtain⟨aRn,ano⟩:=nm ([]:List ByteArray);rw[←ano.out]at H;obtain⟨rfl,rfl⟩:=s2 H;obtain⟨p29,q29,hx29⟩:=bx a0 iI;go_wp2_with (first|(go_at_call 138;refine mA (jV.calls k2 (bt a0 iI) false _ A30.out) ?_;intro nd;have p38:0≤(iI:Int):=of_decide_eq_true (by assumption);have q38:iI<(a0.size:Int):=of_decide_eq_true (by assumption);have hx38:=vK a0 iI;replace p38:=eq_true p38;replace q38:=eq_true q38)|(refine gG 64 ?_;refine lRN 64 Kd.string 9 ano ?_;intro v182 w42 ajg hb;have aDH:=ak (bQ (lu ajg (oK (ur gy.out))) (aA (ul HB.out)));replace gy:=ak (kE (ur gy.out) (iO ajg) hb);replace HB:=bs HB hb;clear hb ajg))
            go_ret2;exact⟨_,er,ur (aK aDH.out (fun _ hk=>trivial)),ul HB.out⟩
        ·replace H:=Fe H;obtain⟨aNv,aNw,H⟩:=H;replace H:=Fe H;obtain⟨aNx,aNy,H⟩:=H;replace H:=Fe H;obtain⟨aNz,aNA,H⟩:=H;replace H:=sq H;rcases H with⟨aDI,aDJ,H⟩|⟨c47,aDI,aDJ,H⟩
         ·obtain⟨aRo,anp⟩:=nm ([]:List ByteArray);rw[←anp.out]at H;obtain⟨rfl,rfl⟩:=s2 H;go_wp2_with (refine gG 64 ?_;refine lRN 64 Kd.string 9 anp ?_;intro aRp w48 ajh hb;have aDK:=ak (bQ (lu ajh (oK (ur gy.out))) (aA (ul HB.out)));replace gy:=ak (kE (ur gy.out) (iO ajh) hb);replace HB:=bs HB hb;clear hb ajh)
          go_ret2;exact⟨_,er,ur (aK aDK.out (fun _ hk=>trivial)),ul HB.out⟩
         ·replace H:=nl H;obtain⟨aDL,H⟩:=H;obtain⟨aKy,au7⟩:=nm (fG++[a0.extract (aQ:Int).toNat (iI:Int).toNat]);rw[←au7.out]at H;have H':=ak H;clear H;go_wp2_with ((with_reducible refine bM (b:= .append) (xs:=#[.tmp 65, .tmp 67]) rfl ?_);(try(refine aX (by rfl) ?_;dsimp only));at_builtin;refine aP 65 67 Kd.string 23 9 (.string ⟨#[]⟩) 16 underlying23 info9 HB (ur gy.out) au7 (by have:=aDL.out;omega) ?_;intro aRq w51 ho hb hg hat;have aDM:=ak (ho);replace HB:=ak (hb);clear ho hb hg hat gy)
          go_roundg k2
          case measure=>exact kl
          case rel=>exact⟨_,_,rs,H',⟨kl⟩,⟨ur aDM.out⟩,⟨ul HB.out⟩⟩
   ·obtain⟨rfl,rfl⟩:=s2 H;go_wp2;go_ret2;exact⟨_,er,ur gy.out,ul HB.out⟩
mutual
def dK.l0:Nat→ByteArray→Int→Option (Bool)
 |0,_,_=>none
 |k+1,x0,x3=>if x3<(x0.size:Int)then(dK.j1 k x0 x3 (decide (x3≤30)))else(dK.j1 k x0 x3 false)
def dK.j1:Nat→ByteArray→Int→Bool→Option (Bool)
 |0,_,_,_=>none
 |k+1,x0,x3,x11=>if x11=true then(if 0≤x3 then(if x3<(x0.size:Int)then((kF.f (bt x0 x3)).bind fun aDN=>(if aDN=true then(if x3=0 then(if(bt x0 x3)≤57 then(some false)else(dK.l0 k x0 (wrap64 (x3+1))))else(dK.l0 k x0 (wrap64 (x3+1))))else(if(bt x0 x3)=45 then(if x3=0 then(if(bt x0 x3)≤57 then(some false)else(dK.l0 k x0 (wrap64 (x3+1))))else(dK.l0 k x0 (wrap64 (x3+1))))else(some false))))else(none))else(none))else(if(x0.size:Int)≥1 then(some (decide ((x0.size:Int)≤30)))else(some false))
end
def dK.f(k:Nat)(a0:ByteArray):Option (Bool):=dK.l0 k a0 0
set_option maxHeartbeats 8000000 in
set_option maxRecDepth 100000 in
theorem dK.calls(k:Nat)(a0:ByteArray)(r:Bool)(w:World)(h:dK.f k a0=some r):
  Calls Tryz.prog 134 #[.string a0] w fun e w'=>e= .returned (.bool r)∧fZ w w':=by
 have H:(dK.l0 k a0 0)=some r:=h;clear h;have H':=ak H;clear H;go_enter func134,ntmps134;go_wp2;go_loopg [3] k (fun kq v3 w'=>∃(dS:Int),v3= .int .i64 dS∧ay (dK.l0 kq a0 dS=some r)∧ay (kq≤k)∧fZ w w')
 case atStart=>exact⟨(0),rs,H',⟨Nat.le_refl _⟩,dn⟩
 case round=>
  clear H';try clear c1
  obtain⟨dS,rfl,HA,iM,⟨m1,rfl⟩⟩:=hrel
  cases gk with
  |zero=>exact absurd HA.out (by simp[dK.l0])
  |succ k1=>
   have H:=HA.out;clear HA;simp only[dK.l0]at H;have HC2:=ak H;clear H;go_upto_region 2 with(fail)
   go_cut [11] (fun v11 wc=>∃(kq:Nat) (xG:Bool),v11= .bool xG∧ay (dK.j1 kq a0 dS xG=some r)∧ay (kq≤k1)∧fZ w wc)
   case first=>
    have H:=HC2.out;clear HC2;replace H:=sd H;rcases H with⟨iK,H⟩|⟨iK,H⟩
    ·(first|rw[iK]|(simp only[bf,bD];rw[iK])|skip);have H':=ak H;clear H;go_wp2;go_meet
     case rel=>exact⟨_,(decide (dS≤30)),rs,H',⟨by have:=iM.out;first|omega|exact Nat.le_refl _⟩,dn⟩
    ·(first|rw[iK]|(simp only[bf,bD];rw[iK])|skip);have H':=ak H;clear H;go_wp2;go_meet
     case rel=>exact⟨_,(false),rs,H',⟨by have:=iM.out;first|omega|exact Nat.le_refl _⟩,dn⟩
   case rest=>
    clear HC2;try clear c1
    try clear p2
    try clear c3
    try clear iK
    obtain⟨kq,xG,rfl,HA,Oi,⟨mc1,rfl⟩⟩:=hcut
    cases kq with
    |zero=>exact absurd HA.out (by simp[dK.j1])
    |succ Oj=>
     have H:=HA.out;clear HA;simp only[dK.j1]at H;replace H:=sb H;rcases H with⟨rfl,H⟩|⟨rfl,H⟩
     ·replace H:=oL H;obtain⟨o_,H⟩:=H;replace H:=oL H;obtain⟨mG,H⟩:=H;replace H:=bd H;obtain⟨aDN,A8,H⟩:=H;replace H:=sb H;rcases H with⟨rfl,H⟩|⟨rfl,H⟩
      ·replace H:=sq H;rcases H with⟨rW,xk,H⟩|⟨c10,rW,xk,H⟩
       ·replace H:=sd H;rcases H with⟨wG,H⟩|⟨wG,H⟩
        ·obtain rfl:=Option.some.inj H;obtain⟨p7,q7,hx7⟩:=bx a0 dS;go_wp2_with (first|(refine gL 142 17 func142 #[.int .u8 (bt a0 dS)] ?_;(with_reducible refine(kF.calls (bt a0 dS) true _ A8.out).mono ?_);rintro e w' ⟨rfl,⟨nd,rfl⟩⟩;refine⟨_,rfl,?_⟩;have p11:0≤(dS:Int):=of_decide_eq_true (by assumption);have q11:dS<(a0.size:Int):=of_decide_eq_true (by assumption);have ac_:=vK a0 dS;replace p11:=eq_true p11;replace q11:=eq_true q11))
         go_ret;exact⟨rs,dn⟩
        ·have H':=ak H;clear H;obtain⟨p7,q7,hx7⟩:=bx a0 dS;go_wp2_with (first|(refine gL 142 17 func142 #[.int .u8 (bt a0 dS)] ?_;(with_reducible refine(kF.calls (bt a0 dS) true _ A8.out).mono ?_);rintro e w' ⟨rfl,⟨nd,rfl⟩⟩;refine⟨_,rfl,?_⟩;have p11:0≤(dS:Int):=of_decide_eq_true (by assumption);have q11:dS<(a0.size:Int):=of_decide_eq_true (by assumption);have ac_:=vK a0 dS;replace p11:=eq_true p11;replace q11:=eq_true q11))
         go_roundg Oj
         case measure=>have:=iM.out;have:=Oi.out;omega
         case rel=>exact⟨(wrap64 (dS+1)),rs,H',⟨by have:=iM.out;have:=Oi.out;omega⟩,dn⟩
       ·have H':=ak H;clear H;obtain⟨p7,q7,hx7⟩:=bx a0 dS;go_wp2_with (first|(refine gL 142 17 func142 #[.int .u8 (bt a0 dS)] ?_;(with_reducible refine(kF.calls (bt a0 dS) true _ A8.out).mono ?_);rintro e w' ⟨rfl,⟨nd,rfl⟩⟩;refine⟨_,rfl,?_⟩))
        go_roundg Oj
        case measure=>have:=iM.out;have:=Oi.out;omega
        case rel=>exact⟨(wrap64 (dS+1)),rs,H',⟨by have:=iM.out;have:=Oi.out;omega⟩,dn⟩
      ·replace H:=sq H;rcases H with⟨tH,xq,H⟩|⟨c14,tH,xq,H⟩
       ·replace H:=sq H;rcases H with⟨uy,FX,H⟩|⟨c15,uy,FX,H⟩
        ·replace H:=sd H;rcases H with⟨uz,H⟩|⟨uz,H⟩
         ·obtain rfl:=Option.some.inj H;obtain⟨p7,q7,hx7⟩:=bx a0 dS;go_wp2_with (first|(refine gL 142 17 func142 #[.int .u8 (bt a0 dS)] ?_;(with_reducible refine(kF.calls (bt a0 dS) false _ A8.out).mono ?_);rintro e w' ⟨rfl,⟨nd,rfl⟩⟩;refine⟨_,rfl,?_⟩;have p13:0≤(dS:Int):=of_decide_eq_true (by assumption);have q13:dS<(a0.size:Int):=of_decide_eq_true (by assumption);have ax6:=vK a0 dS;replace p13:=eq_true p13;replace q13:=eq_true q13;have p16:0≤(dS:Int):=of_decide_eq_true (by assumption);have q16:dS<(a0.size:Int):=of_decide_eq_true (by assumption);have hx16:=vK a0 dS;replace p16:=eq_true p16;replace q16:=eq_true q16))
          go_ret;exact⟨rs,dn⟩
         ·have H':=ak H;clear H;obtain⟨p7,q7,hx7⟩:=bx a0 dS;go_wp2_with (first|(refine gL 142 17 func142 #[.int .u8 (bt a0 dS)] ?_;(with_reducible refine(kF.calls (bt a0 dS) false _ A8.out).mono ?_);rintro e w' ⟨rfl,⟨nd,rfl⟩⟩;refine⟨_,rfl,?_⟩;have p13:0≤(dS:Int):=of_decide_eq_true (by assumption);have q13:dS<(a0.size:Int):=of_decide_eq_true (by assumption);have ax6:=vK a0 dS;replace p13:=eq_true p13;replace q13:=eq_true q13;have p16:0≤(dS:Int):=of_decide_eq_true (by assumption);have q16:dS<(a0.size:Int):=of_decide_eq_true (by assumption);have hx16:=vK a0 dS;replace p16:=eq_true p16;replace q16:=eq_true q16))
          go_roundg Oj
          case measure=>have:=iM.out;have:=Oi.out;omega
          case rel=>exact⟨(wrap64 (dS+1)),rs,H',⟨by have:=iM.out;have:=Oi.out;omega⟩,dn⟩
        ·have H':=ak H;clear H;obtain⟨p7,q7,hx7⟩:=bx a0 dS;go_wp2_with (first|(refine gL 142 17 func142 #[.int .u8 (bt a0 dS)] ?_;(with_reducible refine(kF.calls (bt a0 dS) false _ A8.out).mono ?_);rintro e w' ⟨rfl,⟨nd,rfl⟩⟩;refine⟨_,rfl,?_⟩;have p13:0≤(dS:Int):=of_decide_eq_true (by assumption);have q13:dS<(a0.size:Int):=of_decide_eq_true (by assumption);have ax6:=vK a0 dS;replace p13:=eq_true p13;replace q13:=eq_true q13))
         go_roundg Oj
         case measure=>have:=iM.out;have:=Oi.out;omega
         case rel=>exact⟨(wrap64 (dS+1)),rs,H',⟨by have:=iM.out;have:=Oi.out;omega⟩,dn⟩
       ·obtain rfl:=Option.some.inj H;obtain⟨p7,q7,hx7⟩:=bx a0 dS;go_wp2_with (first|(refine gL 142 17 func142 #[.int .u8 (bt a0 dS)] ?_;(with_reducible refine(kF.calls (bt a0 dS) false _ A8.out).mono ?_);rintro e w' ⟨rfl,⟨nd,rfl⟩⟩;refine⟨_,rfl,?_⟩;have p13:0≤(dS:Int):=of_decide_eq_true (by assumption);have q13:dS<(a0.size:Int):=of_decide_eq_true (by assumption);have ax6:=vK a0 dS;replace p13:=eq_true p13;replace q13:=eq_true q13))
        go_ret;exact⟨rs,dn⟩
     ·replace H:=sp H;rcases H with⟨c18,H⟩|⟨c18,H⟩
      ·have Hy:decide (1≤(a0.size:Int))=true:=decide_eq_true c18;have adq:decide (1≤a0.size)=true:=decide_eq_true (by omega);clear c18;obtain rfl:=Option.some.inj H;go_wp2;go_ret;exact⟨rs,dn⟩
      ·have Hy:decide (1≤(a0.size:Int))=false:=decide_eq_false c18;have adq:decide (1≤a0.size)=false:=decide_eq_false (by omega);clear c18;obtain rfl:=Option.some.inj H;go_wp2;go_ret;exact⟨rs,dn⟩
def lQ.f(k:Nat)(a0:ByteArray):Option (Bool):=(dK.f k a0).bind fun arV=>(if arV=true then((gU.f a0).bind fun anq=>(some (anq.toList==a0.toList)))else(some false))
set_option maxHeartbeats 8000000 in
set_option maxRecDepth 100000 in
theorem lQ.calls(k:Nat)(a0:ByteArray)(r:Bool)(w:World)(h:lQ.f k a0=some r):
  Calls Tryz.prog 139 #[.string a0] w fun e w'=>e= .returned (.bool r)∧Below w.heap.size w w':=by
 have HB:=ak (Below.refl w.heap.size w);have H:((dK.f k a0).bind fun arV=>(if arV=true then((gU.f a0).bind fun anq=>(some (anq.toList==a0.toList)))else(some false)))=some r:=h;clear h;replace H:=bd H;obtain⟨arV,A2,H⟩:=H;replace H:=sb H;rcases H with⟨rfl,H⟩|⟨rfl,H⟩
 ·replace H:=bd H;obtain⟨anq,A4,H⟩:=H;obtain rfl:=Option.some.inj H;go_enter func139,ntmps139;go_wp2_with (first|(refine gL 134 4 func134 #[.string a0] ?_;(with_reducible refine(dK.calls k a0 true _ A2.out).mono ?_);rintro e w' ⟨rfl,⟨nd,rfl⟩⟩;refine⟨_,rfl,?_⟩)|(go_at_call 116;(with_reducible refine(gU.calls a0 anq _ A4.out).mono ?_);rintro e w5 ⟨rfl,hb⟩;replace HB:=bs HB hb;(try clear hb)))
  go_ret;exact⟨er,ul HB.out⟩
 ·obtain rfl:=Option.some.inj H;go_enter func139,ntmps139;go_wp2_with (first|(refine gL 134 4 func134 #[.string a0] ?_;(with_reducible refine(dK.calls k a0 false _ A2.out).mono ?_);rintro e w' ⟨rfl,⟨nd,rfl⟩⟩;refine⟨_,rfl,?_⟩))
  go_ret;exact⟨er,ul HB.out⟩
def vN.f(k:Nat)(a0:ByteArray):Option (Bool):=(bK.f k a0).bind fun t193=>(if t193=true then(some (decide ((a0.size:Int)≤40)))else(some false))
set_option maxHeartbeats 8000000 in
set_option maxRecDepth 100000 in
theorem vN.calls(k:Nat)(a0:ByteArray)(r:Bool)(w:World)(h:vN.f k a0=some r):
  Calls Tryz.prog 140 #[.string a0] w fun e w'=>e= .returned (.bool r)∧fZ w w':=by
 have H:((bK.f k a0).bind fun t193=>(if t193=true then(some (decide ((a0.size:Int)≤40)))else(some false)))=some r:=h;clear h;replace H:=bd H;obtain⟨t193,A2,H⟩:=H;replace H:=sb H;rcases H with⟨rfl,H⟩|⟨rfl,H⟩
 ·obtain rfl:=Option.some.inj H;go_enter func140,ntmps140;go_wp2_with (first|(refine gL 107 4 func107 #[.string a0] ?_;(with_reducible refine(bK.calls k a0 true _ A2.out).mono ?_);rintro e w' ⟨rfl,⟨nd,rfl⟩⟩;refine⟨_,rfl,?_⟩))
  go_ret;exact⟨rs,dn⟩
 ·obtain rfl:=Option.some.inj H;go_enter func140,ntmps140;go_wp2_with (first|(refine gL 107 4 func107 #[.string a0] ?_;(with_reducible refine(bK.calls k a0 false _ A2.out).mono ?_);rintro e w' ⟨rfl,⟨nd,rfl⟩⟩;refine⟨_,rfl,?_⟩))
  go_ret;exact⟨rs,dn⟩
mutual
def fA.l0:Nat→ByteArray→Int→Option (Bool)
 |0,_,_=>none
 |k+1,x0,x3=>if x3<(x0.size:Int)then(fA.j1 k x0 x3 (decide (x3≤40)))else(fA.j1 k x0 x3 false)
def fA.j1:Nat→ByteArray→Int→Bool→Option (Bool)
 |0,_,_,_=>none
 |k+1,x0,x3,x11=>if x11=true then(if 0≤x3 then(if x3<(x0.size:Int)then((jV.f k (bt x0 x3)).bind fun t194=>(if t194=true then(fA.l0 k x0 (wrap64 (x3+1)))else(some false)))else(none))else(none))else(if(x0.size:Int)≥1 then(some (decide ((x0.size:Int)≤40)))else(some false))
end
def fA.f(k:Nat)(a0:ByteArray):Option (Bool):=fA.l0 k a0 0
set_option maxHeartbeats 8000000 in
set_option maxRecDepth 100000 in
theorem fA.calls(k:Nat)(a0:ByteArray)(r:Bool)(w:World)(h:fA.f k a0=some r):
  Calls Tryz.prog 153 #[.string a0] w fun e w'=>e= .returned (.bool r)∧fZ w w':=by
 have H:(fA.l0 k a0 0)=some r:=h;clear h;have H':=ak H;clear H;go_enter func153,ntmps153;go_wp2;go_loopg [3] k (fun kq v3 w'=>∃(dS:Int),v3= .int .i64 dS∧ay (fA.l0 kq a0 dS=some r)∧ay (kq≤k)∧fZ w w')
 case atStart=>exact⟨(0),rs,H',⟨Nat.le_refl _⟩,dn⟩
 case round=>
  clear H';try clear c1
  obtain⟨dS,rfl,HA,iM,⟨m1,rfl⟩⟩:=hrel
  cases gk with
  |zero=>exact absurd HA.out (by simp[fA.l0])
  |succ k1=>
   have H:=HA.out;clear HA;simp only[fA.l0]at H;have HC2:=ak H;clear H;go_upto_region 2 with(fail)
   go_cut [11] (fun v11 wc=>∃(kq:Nat) (xG:Bool),v11= .bool xG∧ay (fA.j1 kq a0 dS xG=some r)∧ay (kq≤k1)∧fZ w wc)
   case first=>
    have H:=HC2.out;clear HC2;replace H:=sd H;rcases H with⟨iK,H⟩|⟨iK,H⟩
    ·(first|rw[iK]|(simp only[bf,bD];rw[iK])|skip);have H':=ak H;clear H;go_wp2;go_meet
     case rel=>exact⟨_,(decide (dS≤40)),rs,H',⟨by have:=iM.out;first|omega|exact Nat.le_refl _⟩,dn⟩
    ·(first|rw[iK]|(simp only[bf,bD];rw[iK])|skip);have H':=ak H;clear H;go_wp2;go_meet
     case rel=>exact⟨_,(false),rs,H',⟨by have:=iM.out;first|omega|exact Nat.le_refl _⟩,dn⟩
   case rest=>
    clear HC2;try clear c1
    try clear p2
    try clear c3
    try clear iK
    obtain⟨kq,xG,rfl,HA,Oi,⟨mc1,rfl⟩⟩:=hcut
    cases kq with
    |zero=>exact absurd HA.out (by simp[fA.j1])
    |succ Oj=>
     have H:=HA.out;clear HA;simp only[fA.j1]at H;replace H:=sb H;rcases H with⟨rfl,H⟩|⟨rfl,H⟩
     ·replace H:=oL H;obtain⟨o_,H⟩:=H;replace H:=oL H;obtain⟨mG,H⟩:=H;replace H:=bd H;obtain⟨t194,A8,H⟩:=H;replace H:=sb H;rcases H with⟨rfl,H⟩|⟨rfl,H⟩
      ·have H':=ak H;clear H;obtain⟨p7,q7,hx7⟩:=bx a0 dS;go_wp2_with (first|(refine gL 138 17 func138 #[.int .u8 (bt a0 dS)] ?_;(with_reducible refine(jV.calls Oj (bt a0 dS) true _ A8.out).mono ?_);rintro e w' ⟨rfl,⟨nd,rfl⟩⟩;refine⟨_,rfl,?_⟩))
       go_roundg Oj
       case measure=>have:=iM.out;have:=Oi.out;omega
       case rel=>exact⟨(wrap64 (dS+1)),rs,H',⟨by have:=iM.out;have:=Oi.out;omega⟩,dn⟩
      ·obtain rfl:=Option.some.inj H;obtain⟨p7,q7,hx7⟩:=bx a0 dS;go_wp2_with (first|(refine gL 138 17 func138 #[.int .u8 (bt a0 dS)] ?_;(with_reducible refine(jV.calls Oj (bt a0 dS) false _ A8.out).mono ?_);rintro e w' ⟨rfl,⟨nd,rfl⟩⟩;refine⟨_,rfl,?_⟩))
       go_ret;exact⟨rs,dn⟩
     ·replace H:=sp H;rcases H with⟨c10,H⟩|⟨c10,H⟩
      ·have rW:decide (1≤(a0.size:Int))=true:=decide_eq_true c10;have xk:decide (1≤a0.size)=true:=decide_eq_true (by omega);clear c10;obtain rfl:=Option.some.inj H;go_wp2;go_ret;exact⟨rs,dn⟩
      ·have rW:decide (1≤(a0.size:Int))=false:=decide_eq_false c10;have xk:decide (1≤a0.size)=false:=decide_eq_false (by omega);clear c10;obtain rfl:=Option.some.inj H;go_wp2;go_ret;exact⟨rs,dn⟩
def kR.l0:Nat→ByteArray→ByteArray→Int→Option (ByteArray)
 |0,_,_,_=>none
 |k+1,x0,x3,x4=>if x4<(x0.size:Int)then(if 0≤x4 then(if(bt x0 x4)=34 then((some (([92]:List Int):List Int)).bind fun Zd=>(if x3.size+(strOfNums Zd).size≤9223372036854775807 then(if x4≤(wrap64 (x4+1))then(if(wrap64 (x4+1))≤(x0.size:Int)then(if(x3++(strOfNums Zd)).size+(x0.extract (x4:Int).toNat ((wrap64 (x4+1)):Int).toNat).size≤9223372036854775807 then(kR.l0 k x0 ((x3++(strOfNums Zd))++(x0.extract (x4:Int).toNat ((wrap64 (x4+1)):Int).toNat)) (wrap64 (x4+1)))else(none))else(none))else(none))else(none)))else(if(bt x0 x4)=92 then((some (([92]:List Int):List Int)).bind fun Ze=>(if x3.size+(strOfNums Ze).size≤9223372036854775807 then(if x4≤(wrap64 (x4+1))then(if(wrap64 (x4+1))≤(x0.size:Int)then(if(x3++(strOfNums Ze)).size+(x0.extract (x4:Int).toNat ((wrap64 (x4+1)):Int).toNat).size≤9223372036854775807 then(kR.l0 k x0 ((x3++(strOfNums Ze))++(x0.extract (x4:Int).toNat ((wrap64 (x4+1)):Int).toNat)) (wrap64 (x4+1)))else(none))else(none))else(none))else(none)))else(if x4≤(wrap64 (x4+1))then(if(wrap64 (x4+1))≤(x0.size:Int)then(if x3.size+(x0.extract (x4:Int).toNat ((wrap64 (x4+1)):Int).toNat).size≤9223372036854775807 then(kR.l0 k x0 (x3++(x0.extract (x4:Int).toNat ((wrap64 (x4+1)):Int).toNat)) (wrap64 (x4+1)))else(none))else(none))else(none))))else(none))else(if x3.size+1≤9223372036854775807 then(some (x3++(⟨#[34]⟩:ByteArray)))else(none))
def kR.f(k:Nat)(a0:ByteArray):Option (ByteArray):=kR.l0 k a0 (⟨#[34]⟩:ByteArray) 0
set_option maxHeartbeats 8000000 in
set_option maxRecDepth 100000 in
theorem kR.calls(k:Nat)(a0:ByteArray)(r:ByteArray)(w:World)(h:kR.f k a0=some r):
  Calls Tryz.prog 154 #[.string a0] w fun e w'=>e= .returned (.string r)∧Below w.heap.size w w':=by
 have HB:=ak (Below.refl w.heap.size w);have H:(kR.l0 k a0 (⟨#[34]⟩:ByteArray) 0)=some r:=h;clear h;have H':=ak H;clear H;go_enter func154,ntmps154;go_wp2;go_loopg [3,4] k (fun kq v3 v4 w'=>∃(dS:ByteArray) (fG:Int),v3= .string dS∧v4= .int .i64 fG∧ay (kR.l0 kq a0 dS fG=some r)∧ay (kq≤k)∧ay (Below w.heap.size w w'))
 case atStart=>exact⟨((⟨#[34]⟩:ByteArray)),(0),rs,rs,H',⟨Nat.le_refl _⟩,⟨ul HB.out⟩⟩
 case round=>
  clear H';try clear c1
  obtain⟨dS,fG,rfl,rfl,HA,iM,HB⟩:=hrel
  cases gk with
  |zero=>exact absurd HA.out (by simp[kR.l0])
  |succ k1=>
   have H:=HA.out;clear HA;simp only[kR.l0]at H;replace H:=sd H;rcases H with⟨zY,H⟩|⟨zY,H⟩
   ·replace H:=oL H;obtain⟨iK,H⟩:=H;replace H:=sq H;rcases H with⟨o_,Y_,H⟩|⟨c5,o_,Y_,H⟩
    ·obtain⟨Zd,amu⟩:=nm ([92]:List Int);rw[←amu.out]at H
     (try rw[Option.bind_some]at H);replace H:=nn H;obtain⟨c6,H⟩:=H;have mG:=eq_true c6;have B_:=decide_eq_true c6;try have aIr:(9223372036854775807<dS.size+(strOfNums Zd).size)=False:=eq_false (Nat.not_lt.2 c6)
     have qp:=eq_true (of_decide_eq_true (by assumption):0≤fG);replace H:=nn H;obtain⟨c8,H⟩:=H;have rV:=eq_true c8;have G7:=decide_eq_true c8;replace H:=nn H;obtain⟨c9,H⟩:=H;have vI:=eq_true c9;have Df:=decide_eq_true c9;replace H:=nn H;obtain⟨c10,H⟩:=H;have rW:=eq_true c10;have xk:=decide_eq_true c10;try have aME:(9223372036854775807<dS.size+(strOfNums Zd).size+((a0.extract (fG:Int).toNat ((wrap64 (fG+1)):Int).toNat).size))=False:=by have h_:=c10;simp only[ByteArray.size_append,ByteArray.size_extract]at h_;refine eq_false ?_;simp only[decide_eq_true_eq]at*;omega
     try have aBz:(9223372036854775807<dS.size+(strOfNums Zd).size+((a0.extract (fG:Int).toNat ((wrap64 (fG+1)):Int).toNat).size))=False:=by have h_:=(eq_false (Nat.not_lt.2 c10):(9223372036854775807<(dS++(strOfNums Zd)).size+(a0.extract (fG:Int).toNat ((wrap64 (fG+1)):Int).toNat).size)=False);simp only[ByteArray.size_append]at h_;exact h_
     try have agG:(9223372036854775807<(dS++(strOfNums Zd)).size+(a0.extract (fG:Int).toNat ((wrap64 (fG+1)):Int).toNat).size)=False:=eq_false (Nat.not_lt.2 c10)
     have H':=ak H;clear H;obtain⟨p4,q4,hx4⟩:=bx a0 fG;go_wp2_with (first|((with_reducible refine bG (N:=22) rfl ?_);refine nD (Kd.int .u8) _ 5 ?hg (N:=22) ?hd (xs:=([92]:List Int)) (inner:=[.int .u8 92]) (ok:=fun _=>True) (oO:=fun _=>True) ?hr ?hp (fun _ hk=>hk) trivial (Below.refl _ _) (Nat.le_refl _) (by simp) ?_;(case hd=>rfl);(case hg=>rfl);(case hr=>first|(go_simp;done)|(go_simp;rfl));(case hp=>exact(iW.one (show Kd.M (Kd.int .u8) _ _ _ 92 [.int .u8 92]from rfl) (iW.none _ _)));intro v196 Uy Yr hb oP gY;clear oP gY;(first|rw[←amu.out]at Yr|(simp only[Int.reduceToNat]at Yr;rw[←amu.out]at Yr));have aCc:=ak (bQ Yr (aA (ul HB.out)));replace HB:=bs HB hb;clear hb Yr;have aMF:=FV (P:=Tryz.prog) underlying77 underlying5 underlying9 (FW aCc.out)))
     go_roundg k1
     case measure=>have:=iM.out;omega
     case rel=>exact⟨((dS++(strOfNums Zd))++(a0.extract (fG:Int).toNat ((wrap64 (fG+1)):Int).toNat)),(wrap64 (fG+1)),rs,rs,H',⟨by have:=iM.out;omega⟩,⟨ul HB.out⟩⟩
    ·replace H:=sq H;rcases H with⟨uy,FX,H⟩|⟨c15,uy,FX,H⟩
     ·obtain⟨Ze,amv⟩:=nm ([92]:List Int);rw[←amv.out]at H
      (try rw[Option.bind_some]at H);replace H:=nn H;obtain⟨c16,H⟩:=H;have L6:=eq_true c16;have ams:=decide_eq_true c16;try have aMG:(9223372036854775807<dS.size+(strOfNums Ze).size)=False:=eq_false (Nat.not_lt.2 c16)
      have uz:=eq_true (of_decide_eq_true (by assumption):0≤fG);replace H:=nn H;obtain⟨c18,H⟩:=H;have Hy:=eq_true c18;have adq:=decide_eq_true c18;replace H:=nn H;obtain⟨c19,H⟩:=H;have Dh:=eq_true c19;have FY:=decide_eq_true c19;replace H:=nn H;obtain⟨c20,H⟩:=H;have VA:=eq_true c20;have Xz:=decide_eq_true c20;try have aMH:(9223372036854775807<dS.size+(strOfNums Ze).size+((a0.extract (fG:Int).toNat ((wrap64 (fG+1)):Int).toNat).size))=False:=by have h_:=c20;simp only[ByteArray.size_append,ByteArray.size_extract]at h_;refine eq_false ?_;simp only[decide_eq_true_eq]at*;omega
      try have aMI:(9223372036854775807<dS.size+(strOfNums Ze).size+((a0.extract (fG:Int).toNat ((wrap64 (fG+1)):Int).toNat).size))=False:=by have h_:=(eq_false (Nat.not_lt.2 c20):(9223372036854775807<(dS++(strOfNums Ze)).size+(a0.extract (fG:Int).toNat ((wrap64 (fG+1)):Int).toNat).size)=False);simp only[ByteArray.size_append]at h_;exact h_
      try have aMJ:(9223372036854775807<(dS++(strOfNums Ze)).size+(a0.extract (fG:Int).toNat ((wrap64 (fG+1)):Int).toNat).size)=False:=eq_false (Nat.not_lt.2 c20)
      have H':=ak H;clear H;obtain⟨p4,q4,hx4⟩:=bx a0 fG;obtain⟨p14,q14,aBs⟩:=bx a0 fG;go_wp2_with (first|((with_reducible refine bG (N:=22) rfl ?_);refine nD (Kd.int .u8) _ 5 ?hg (N:=22) ?hd (xs:=([92]:List Int)) (inner:=[.int .u8 92]) (ok:=fun _=>True) (oO:=fun _=>True) ?hr ?hp (fun _ hk=>hk) trivial (Below.refl _ _) (Nat.le_refl _) (by simp) ?_;(case hd=>rfl);(case hg=>rfl);(case hr=>first|(go_simp;done)|(go_simp;rfl));(case hp=>exact(iW.one (show Kd.M (Kd.int .u8) _ _ _ 92 [.int .u8 92]from rfl) (iW.none _ _)));intro aP_ w21 UJ hb oP gY;clear oP gY;(first|rw[←amv.out]at UJ|(simp only[Int.reduceToNat]at UJ;rw[←amv.out]at UJ));have aCd:=ak (bQ UJ (aA (ul HB.out)));replace HB:=bs HB hb;clear hb UJ;have aMK:=FV (P:=Tryz.prog) underlying77 underlying5 underlying9 (FW aCd.out)))
      go_roundg k1
      case measure=>have:=iM.out;omega
      case rel=>exact⟨((dS++(strOfNums Ze))++(a0.extract (fG:Int).toNat ((wrap64 (fG+1)):Int).toNat)),(wrap64 (fG+1)),rs,rs,H',⟨by have:=iM.out;omega⟩,⟨ul HB.out⟩⟩
     ·have QB:=eq_true (of_decide_eq_true (by assumption):0≤fG);replace H:=nn H;obtain⟨c25,H⟩:=H;have Hz:=eq_true c25;have ahe:=decide_eq_true c25;replace H:=nn H;obtain⟨c26,H⟩:=H;have VB:=eq_true c26;have alk:=decide_eq_true c26;replace H:=nn H;obtain⟨c27,H⟩:=H;have OO:=eq_true c27;have alN:=decide_eq_true c27;try have aML:(9223372036854775807<dS.size+((a0.extract (fG:Int).toNat ((wrap64 (fG+1)):Int).toNat).size))=False:=by have h_:=c27;simp only[ByteArray.size_append,ByteArray.size_extract]at h_;refine eq_false ?_;simp only[decide_eq_true_eq]at*;omega
      try have aMM:(9223372036854775807<dS.size+(a0.extract (fG:Int).toNat ((wrap64 (fG+1)):Int).toNat).size)=False:=eq_false (Nat.not_lt.2 c27)
      have H':=ak H;clear H;obtain⟨p4,q4,hx4⟩:=bx a0 fG;obtain⟨p14,q14,aBs⟩:=bx a0 fG;go_wp2;go_roundg k1
      case measure=>have:=iM.out;omega
      case rel=>exact⟨(dS++(a0.extract (fG:Int).toNat ((wrap64 (fG+1)):Int).toNat)),(wrap64 (fG+1)),rs,rs,H',⟨by have:=iM.out;omega⟩,⟨ul HB.out⟩⟩
   ·replace H:=nn H;obtain⟨c28,H⟩:=H;have OQ:=eq_true c28;have ahG:=decide_eq_true c28;try have aMN:(9223372036854775807<dS.size+1)=False:=eq_false (Nat.not_lt.2 c28)
    obtain rfl:=Option.some.inj H;go_wp2;go_ret;exact⟨er,ul HB.out⟩
def vG.f(k:Nat)(a0:ByteArray):Option (ByteArray):=(bK.f k a0).bind fun t201=>(if t201=true then((fA.f k a0).bind fun ara=>(if ara=true then(some a0)else((kR.f k a0).bind fun t203=>(some t203))))else(some (⟨#[]⟩:ByteArray)))
set_option maxHeartbeats 8000000 in
set_option maxRecDepth 100000 in
theorem vG.calls(k:Nat)(a0:ByteArray)(r:ByteArray)(w:World)(h:vG.f k a0=some r):
  Calls Tryz.prog 141 #[.string a0] w fun e w'=>e= .returned (.string r)∧Below w.heap.size w w':=by
 have HB:=ak (Below.refl w.heap.size w);have H:((bK.f k a0).bind fun t201=>(if t201=true then((fA.f k a0).bind fun ara=>(if ara=true then(some a0)else((kR.f k a0).bind fun t203=>(some t203))))else(some (⟨#[]⟩:ByteArray))))=some r:=h;clear h;replace H:=bd H;obtain⟨t201,A2,H⟩:=H;replace H:=sb H;rcases H with⟨rfl,H⟩|⟨rfl,H⟩
 ·replace H:=bd H;obtain⟨ara,A4,H⟩:=H;replace H:=sb H;rcases H with⟨rfl,H⟩|⟨rfl,H⟩
  ·obtain rfl:=Option.some.inj H;go_enter func141,ntmps141;go_wp2_with (first|(refine gL 107 4 func107 #[.string a0] ?_;(with_reducible refine(bK.calls k a0 true _ A2.out).mono ?_);rintro e w' ⟨rfl,⟨nd,rfl⟩⟩;refine⟨_,rfl,?_⟩)|(refine gL 153 7 func153 #[.string a0] ?_;(with_reducible refine(fA.calls k a0 true _ A4.out).mono ?_);rintro e w' ⟨rfl,⟨nd,rfl⟩⟩;refine⟨_,rfl,?_⟩))
   go_ret;exact⟨er,ul HB.out⟩
  ·replace H:=bd H;obtain⟨t203,A6,H⟩:=H;obtain rfl:=Option.some.inj H;go_enter func141,ntmps141;go_wp2_with (first|(refine gL 107 4 func107 #[.string a0] ?_;(with_reducible refine(bK.calls k a0 true _ A2.out).mono ?_);rintro e w' ⟨rfl,⟨nd,rfl⟩⟩;refine⟨_,rfl,?_⟩)|(refine gL 153 7 func153 #[.string a0] ?_;(with_reducible refine(fA.calls k a0 false _ A4.out).mono ?_);rintro e w' ⟨rfl,⟨nd,rfl⟩⟩;refine⟨_,rfl,?_⟩)|(refine gL 154 10 func154 #[.string a0] ?_;(with_reducible refine(kR.calls k a0 t203 _ A6.out).mono ?_);rintro e w7 ⟨rfl,hb⟩;refine⟨_,rfl,?_⟩;replace HB:=bs HB hb;(try clear hb)))
   go_ret;exact⟨er,ul HB.out⟩
 ·obtain rfl:=Option.some.inj H;go_enter func141,ntmps141;go_wp2_with (first|(refine gL 107 4 func107 #[.string a0] ?_;(with_reducible refine(bK.calls k a0 false _ A2.out).mono ?_);rintro e w' ⟨rfl,⟨nd,rfl⟩⟩;refine⟨_,rfl,?_⟩))
  go_ret;exact⟨er,ul HB.out⟩
mutual
def bJ.j0:Nat→Bool→ByteArray→ByteArray→List (gI)→Option (Bool)
 |0,_,_,_,_=>none
 |k+1,x21,Xm,Xn,BH=>if x21=true then(some false)else(bJ.l0 k (wrap64 ((wrap64 ((Xm.size:Int)+(Xn.size:Int)))+1)) 0 Xm Xn BH)
def bJ.l0:Nat→Int→Int→ByteArray→ByteArray→List (gI)→Option (Bool)
 |0,_,_,_,_,_=>none
 |k+1,x3,x4,Xm,Xn,BH=>if x4<(BH.length:Int)then(if 0≤x4 then((lQ.f k ((aG BH x4).f0)).bind fun aDO=>(if aDO=true then((vN.f k ((aG BH x4).f1)).bind fun t210=>(if t210=true then(if x4≤(BH.length:Int)then((kG.f k (BH.take (x4:Int).toNat) ((aG BH x4).f0)).bind fun aji=>(if aji≥0 then(some false)else((vG.f k ((aG BH x4).f1)).bind fun arW=>(bJ.l0 k (wrap64 ((wrap64 ((wrap64 (x3+3))+(((aG BH x4).f0).size:Int)))+(arW.size:Int))) (wrap64 (x4+1)) Xm Xn BH))))else(none))else(some false)))else(some false)))else(none))else(some (decide (x3≤150)))
end
def bJ.f(k:Nat)(bT:ByteArray)(cZ:ByteArray)(aH:List (gI)):Option (Bool):=(lQ.f k bT).bind fun arX=>(if arX=true then((lQ.f k cZ).bind fun t206=>(if t206=true then(bJ.j0 k (decide ((aH.length:Int)>4)) bT cZ aH)else(bJ.j0 k true bT cZ aH)))else(bJ.j0 k true bT cZ aH))
theorem bJ.calls(k:Nat)(bT:ByteArray)(cZ:ByteArray)(iw:Option Addr)(fC:Nat)(aH:List (gI))(r:Bool)(w:World)(lZ:Kd.C oN w iw aH.length aH)(l7:aH.length≤fC)(h:bJ.f k bT cZ aH=some r):
  Calls Tryz.prog 118 #[.agg #[.string bT, .string cZ, .slice iw aH.length fC]] w fun e w'=>e= .returned (.bool r)∧Below w.heap.size w w':=by
 have ada:=underlying90;have Jo:=underlying63;have lC:=ak lZ;have oz:=ak l7;clear lZ l7;have HB:=ak (Below.refl w.heap.size w);have H:((lQ.f k bT).bind fun arX=>(if arX=true then((lQ.f k cZ).bind fun t206=>(if t206=true then(bJ.j0 k (decide ((aH.length:Int)>4)) bT cZ aH)else(bJ.j0 k true bT cZ aH)))else(bJ.j0 k true bT cZ aH)))=some r:=h;clear h;have HC2:=ak H;clear H;go_enter func118,ntmps118;go_upto_region 1 with(refine gG 1 ?_;refine bX HB 1 #[.string bT, .string cZ, .slice iw aH.length fC] 90 ?_;intro zX w3 fO aND hb;replace HB:=bs HB hb;clear hb)
 (try simp only[Act.put,jI,jJ,l_c]);go_cut [21] (fun v21 wc=>∃(kq:Nat) (anr:Bool),v21= .bool anr∧ay (bJ.j0 kq anr bT cZ aH=some r)∧ay (kq≤k)∧ay (wc.heap[zX]? =some (.cells #[.string bT, .string cZ,(.slice iw aH.length fC)] 90 (0,0)))∧ay (Below w.heap.size w wc))
 case first=>
  have H:=HC2.out;clear HC2;replace H:=bd H;obtain⟨arX,A4,H⟩:=H;replace H:=sb H;rcases H with⟨rfl,H⟩|⟨rfl,H⟩
  ·replace H:=bd H;obtain⟨t206,A6,H⟩:=H;replace H:=sb H;rcases H with⟨rfl,H⟩|⟨rfl,H⟩
   ·have H':=ak H;clear H;have z8:=jO fO.out;go_wp2_with (first|(refine gB func139 (lQ.calls k bT true _ A4.out) ?_;intro w9 hb;replace fO:=kb fO hb;replace HB:=bz HB hb;clear hb;have z10:=jO fO.out)|(go_at_call 139;refine mB (lQ.calls k cZ true _ A6.out) ?_;intro Uy hb;replace fO:=kb fO hb;replace HB:=bz HB hb;clear hb;have z12:=jO fO.out))
    go_meet
    case rel=>exact⟨_,_,rs,H',⟨XV⟩,⟨ub fO.out⟩,⟨bb⟩⟩
   ·have H':=ak H;clear H;have z13:=jO fO.out;go_wp2_with (first|(refine gB func139 (lQ.calls k bT true _ A4.out) ?_;intro Us hb;replace fO:=kb fO hb;replace HB:=bz HB hb;clear hb;have z15:=jO fO.out)|(go_at_call 139;refine mB (lQ.calls k cZ false _ A6.out) ?_;intro w16 hb;replace fO:=kb fO hb;replace HB:=bz HB hb;clear hb))
    go_meet
    case rel=>exact⟨_,_,rs,H',⟨XV⟩,⟨ub fO.out⟩,⟨bb⟩⟩
  ·have H':=ak H;clear H;have z17:=jO fO.out;go_wp2_with (refine gB func139 (lQ.calls k bT false _ A4.out) ?_;intro w18 hb;replace fO:=kb fO hb;replace HB:=bz HB hb;clear hb)
   go_meet
   case rel=>exact⟨_,_,rs,H',⟨XV⟩,⟨ub fO.out⟩,⟨bb⟩⟩
 case rest=>
  clear HC2;obtain⟨kq,anr,rfl,HA,Oi,fO,HB⟩:=hcut
  cases kq with
  |zero=>exact zz HA.out
  |succ Oj=>
   obtain⟨H⟩:=HA;simp only[bJ.j0]at H;replace H:=sb H;rcases H with⟨rfl,H⟩|⟨rfl,H⟩
   ·obtain rfl:=s1 H;go_wp2;go_ret;exact⟨er,bb⟩
   ·have H':=ak H;clear H;have z20:=jO fO.out;go_wp2;go_loopg [3,4] Oj (fun kq v3 v4 w'=>∃(mQ:Int) (iQ:Int),v3= .int .i64 mQ∧v4= .int .i64 iQ∧ay (bJ.l0 kq mQ iQ bT cZ aH=some r)∧ay (kq≤Oj)∧ay (w'.heap[zX]? =some (.cells #[.string bT, .string cZ,(.slice iw aH.length fC)] 90 (0,0)))∧ay (Below w.heap.size w w'))
    case atStart=>exact⟨_,_,rs,rs,H',⟨Nat.le_refl _⟩,⟨ub fO.out⟩,⟨bb⟩⟩
    case round=>
     clear H';obtain⟨mQ,iQ,rfl,rfl,HA,yR,fO,HB⟩:=hrel
     cases gk with
     |zero=>exact zz HA.out
     |succ k2=>
      obtain⟨H⟩:=HA;simp only[bJ.l0]at H;replace H:=sd H;rcases H with⟨FZ,H⟩|⟨FZ,H⟩
      ·replace H:=oL H;obtain⟨OM,H⟩:=H;replace H:=bd H;obtain⟨aDO,A23,H⟩:=H;replace H:=sb H;rcases H with⟨rfl,H⟩|⟨rfl,H⟩
       ·replace H:=bd H;obtain⟨t210,A25,H⟩:=H;replace H:=sb H;rcases H with⟨rfl,H⟩|⟨rfl,H⟩
        ·have OO:=eq_true (of_decide_eq_true (by assumption):0≤iQ);replace H:=Fe H;obtain⟨OQ,ahG,H⟩:=H;obtain⟨adz,adA⟩:=nm (aH.take (iQ:Int).toNat);rw[←adA.out]at H;replace H:=bd H;obtain⟨aji,A29,H⟩:=H;replace H:=sp H;rcases H with⟨c30,H⟩|⟨c30,H⟩
         ·have amF:decide (0≤aji)=true:=decide_eq_true c30;clear c30;obtain rfl:=s1 H;have z31:=jO fO.out;have Qb:=zi iQ;have Qc:=zj iQ aH.length;obtain⟨Gq,e207,BI,BJ⟩:=oC lC.out iQ Qb Qc;cases e207;replace BI:=cl HB.out BI;replace BJ:=cl HB.out BJ;replace Qb:=eq_true Qb;replace Qc:=eq_true Qc;try go_wp2_with (refine gG 5 ?_;refine bY HB 5 #[.string (⟨#[]⟩:ByteArray), .string (⟨#[]⟩:ByteArray)] 63 ?_;intro kH w32 ji ant hg hb;have qg:=nl_ fO hg;have CP:=ng_ fO hg;replace fO:=kb fO hb;replace HB:=bz HB hb;clear hb hg;have aAr:=CP.out;have aAs:=qg.out;have z34:=Ah ji.out)
          refine ab2 HB ji ant ?_;intro w35 abb hk HB;replace fO:=kf fO hk qg;clear hk ji;have ji:=abb;clear abb;refine rO [2,7,17] [0,1,2,3,4,5,6,7,8,9,10,11,13,15,12,14,16,17,18,19] (fun w'=>w'.cell? ⟨kH,0,none⟩=some (.string ((aG aH iQ).f0))∧w'.cell? ⟨kH,1,none⟩=some (.string ((aG aH iQ).f1))∧w'.cell? ⟨zX,0,none⟩=some (.string bT)∧w'.cell? ⟨zX,1,none⟩=some (.string cZ)∧w'.cell? ⟨zX,2,none⟩=some (.slice (some Gq) aH.length fC)) ?_;intro w36 hb;replace fO:=kb fO hb;replace ji:=kb ji hb;replace HB:=bs HB hb;refine⟨sx,?_⟩;repeat refine lo_ ?_
          refine rB func139 (lQ.calls k2 ((aG aH iQ).f0) true _ A23.out) ?_;intro w37 hb;replace fO:=kb fO hb;replace ji:=kb ji hb;replace HB:=bz HB hb;clear hb;refine⟨sx,?_⟩;repeat refine lo_ ?_
          refine rA func140 (vN.calls k2 ((aG aH iQ).f1) true _ A25.out) ?_;intro nd;have q38:(iQ:Int)≤((aH.length:Int):Int):=of_decide_eq_true (by assumption);obtain⟨aRs,au8,_,aDP,_⟩:=info_parts Fz;have ah_:aH.length≤fC:=oz.out;have aDQ:Kd.C oN _ (some Gq) aH.length aH:=lC.out;have ax7:=abH (P:=Tryz.prog) 29 63 .i64 underlying29 au8 (some Gq) aH.length fC iQ (of_decide_eq_true (by assumption)) q38 ah_;have ax8:=abI (m:=(iQ:Int).toNat) aDQ (by omega);have hy38:adz.length=(iQ:Int).toNat:=(by rw[adA.out,List.length_take];omega)
          rw[←adA.out]at ax8;rw[←hy38]at ax7;have anv:=ak ax8;have anw:=ak (show adz.length≤fC from by omega);clear ax8 aDQ ah_ au8 aDP;have aRt:=ak hy38;clear hy38;replace q38:=eq_true q38;refine⟨sx,?_⟩;repeat refine lo_ ?_
          refine rB func114 (kG.calls k2 _ _ adz ((aG aH iQ).f0) aji _ (cu (aT anv.out bb)) anw.out A29.out) ?_;intro w39 hb;replace fO:=kb fO hb;replace ji:=kb ji hb;replace HB:=bz HB hb;clear hb;refine⟨sx,?_⟩;repeat refine lo_ ?_
          refine on ?_;try go_wp2
          go_ret;exact⟨er,bb⟩
         ·have amF:decide (0≤aji)=false:=decide_eq_false c30;clear c30;replace H:=bd H;obtain⟨arW,A40,H⟩:=H;have H':=ak H;clear H;have z41:=jO fO.out;have Qb:=zi iQ;have Qc:=zj iQ aH.length;obtain⟨Gq,e207,BI,BJ⟩:=oC lC.out iQ Qb Qc;cases e207;replace BI:=cl HB.out BI;replace BJ:=cl HB.out BJ;replace Qb:=eq_true Qb;replace Qc:=eq_true Qc;try go_wp2_with (refine gG 5 ?_;refine bY HB 5 #[.string (⟨#[]⟩:ByteArray), .string (⟨#[]⟩:ByteArray)] 63 ?_;intro kH w42 ji ant hg hb;have qg:=nl_ fO hg;have CP:=ng_ fO hg;replace fO:=kb fO hb;replace HB:=bz HB hb;clear hb hg;have aC4:=CP.out;have aC5:=qg.out;have z44:=Ah ji.out)
          refine ab2 HB ji ant ?_;intro w45 abb hk HB;replace fO:=kf fO hk qg;clear hk ji;have ji:=abb;clear abb;refine rO [2,7,17] [0,1,2,3,4,5,6,7,8,9,10,11,13,15,12,14,16,17,18,19] (fun w'=>w'.cell? ⟨kH,0,none⟩=some (.string ((aG aH iQ).f0))∧w'.cell? ⟨kH,1,none⟩=some (.string ((aG aH iQ).f1))∧w'.cell? ⟨zX,0,none⟩=some (.string bT)∧w'.cell? ⟨zX,1,none⟩=some (.string cZ)∧w'.cell? ⟨zX,2,none⟩=some (.slice (some Gq) aH.length fC)) ?_;intro w46 hb;replace fO:=kb fO hb;replace ji:=kb ji hb;replace HB:=bs HB hb;refine⟨sx,?_⟩;repeat refine lo_ ?_
          refine rB func139 (lQ.calls k2 ((aG aH iQ).f0) true _ A23.out) ?_;intro w47 hb;replace fO:=kb fO hb;replace ji:=kb ji hb;replace HB:=bz HB hb;clear hb;refine⟨sx,?_⟩;repeat refine lo_ ?_
          refine rA func140 (vN.calls k2 ((aG aH iQ).f1) true _ A25.out) ?_;intro nd;have q48:(iQ:Int)≤((aH.length:Int):Int):=of_decide_eq_true (by assumption);obtain⟨aRu,au9,_,aDR,_⟩:=info_parts Fz;have aia:aH.length≤fC:=oz.out;have aDS:Kd.C oN _ (some Gq) aH.length aH:=lC.out;have ax9:=abH (P:=Tryz.prog) 29 63 .i64 underlying29 au9 (some Gq) aH.length fC iQ (of_decide_eq_true (by assumption)) q48 aia;have ax_:=abI (m:=(iQ:Int).toNat) aDS (by omega);have aya:adz.length=(iQ:Int).toNat:=(by rw[adA.out,List.length_take];omega)
          rw[←adA.out]at ax_;rw[←aya]at ax9;have anv:=ak ax_;have anw:=ak (show adz.length≤fC from by omega);clear ax_ aDS aia au9 aDR;have aRv:=ak aya;clear aya;replace q48:=eq_true q48;refine⟨sx,?_⟩;repeat refine lo_ ?_
          refine rB func114 (kG.calls k2 _ _ adz ((aG aH iQ).f0) aji _ (cu (aT anv.out bb)) anw.out A29.out) ?_;intro w49 hb;replace fO:=kb fO hb;replace ji:=kb ji hb;replace HB:=bz HB hb;clear hb;refine⟨sx,?_⟩;repeat refine lo_ ?_
          refine on ?_;try go_wp2
          refine rO [8] [0,1,2,6,3,4,5,7,8,9,10,11] (fun w'=>w'.cell? ⟨kH,0,none⟩=some (.string ((aG aH iQ).f0))∧w'.cell? ⟨kH,1,none⟩=some (.string ((aG aH iQ).f1))) ?_;intro w50 hb;replace fO:=kb fO hb;replace ji:=kb ji hb;replace HB:=bs HB hb;refine⟨sx,?_⟩;repeat refine lo_ ?_
          refine rB func141 (vG.calls k2 ((aG aH iQ).f1) arW _ A40.out) ?_;intro w51 hb;replace fO:=kb fO hb;replace ji:=kb ji hb;replace HB:=bz HB hb;clear hb;refine⟨sx,?_⟩;repeat refine lo_ ?_
          refine on ?_;try go_wp2
          go_roundg k2
          case measure=>exact kl
          case rel=>exact⟨_,_,rs,rs,H',⟨kl⟩,⟨ub fO.out⟩,⟨bb⟩⟩
        ·obtain rfl:=s1 H;have z52:=jO fO.out;have Qb:=zi iQ;have Qc:=zj iQ aH.length;obtain⟨Gq,e207,BI,BJ⟩:=oC lC.out iQ Qb Qc;cases e207;replace BI:=cl HB.out BI;replace BJ:=cl HB.out BJ;replace Qb:=eq_true Qb;replace Qc:=eq_true Qc;try go_wp2_with (refine gG 5 ?_;refine bY HB 5 #[.string (⟨#[]⟩:ByteArray), .string (⟨#[]⟩:ByteArray)] 63 ?_;intro kH w53 ji ant hg hb;have qg:=nl_ fO hg;have CP:=ng_ fO hg;replace fO:=kb fO hb;replace HB:=bz HB hb;clear hb hg;have aNF:=CP.out;have aNG:=qg.out;have z55:=Ah ji.out)
         refine ab2 HB ji ant ?_;intro w56 abb hk HB;replace fO:=kf fO hk qg;clear hk ji;have ji:=abb;clear abb;refine rO [2,7] [0,1,2,3,4,5,6,7,8,9,10,11,12,13,14,15,16,17,18,19] (fun w'=>w'.cell? ⟨kH,0,none⟩=some (.string ((aG aH iQ).f0))∧w'.cell? ⟨kH,1,none⟩=some (.string ((aG aH iQ).f1))) ?_;intro w57 hb;replace fO:=kb fO hb;replace ji:=kb ji hb;replace HB:=bs HB hb;refine⟨sx,?_⟩;repeat(first|refine lo_ ?_|refine lg_ ?_)
         refine rB func139 (lQ.calls k2 ((aG aH iQ).f0) true _ A23.out) ?_;intro w58 hb;replace fO:=kb fO hb;replace ji:=kb ji hb;replace HB:=bz HB hb;clear hb;refine⟨sx,?_⟩;repeat(first|refine lo_ ?_|refine lg_ ?_)
         refine rA func140 (vN.calls k2 ((aG aH iQ).f1) false _ A25.out) ?_;intro nd;refine⟨sx,?_⟩;repeat(first|refine lo_ ?_|refine lg_ ?_)
         refine on ?_;try go_wp2
         go_ret;exact⟨er,bb⟩
       ·obtain rfl:=s1 H;have z59:=jO fO.out;have Qb:=zi iQ;have Qc:=zj iQ aH.length;obtain⟨Gq,e207,BI,BJ⟩:=oC lC.out iQ Qb Qc;cases e207;replace BI:=cl HB.out BI;replace BJ:=cl HB.out BJ;replace Qb:=eq_true Qb;replace Qc:=eq_true Qc;try go_wp2_with (refine gG 5 ?_;refine bY HB 5 #[.string (⟨#[]⟩:ByteArray), .string (⟨#[]⟩:ByteArray)] 63 ?_;intro kH w60 ji ant hg hb;have qg:=nl_ fO hg;have CP:=ng_ fO hg;replace fO:=kb fO hb;replace HB:=bz HB hb;clear hb hg;have aNH:=CP.out;have aNI:=qg.out;have z62:=Ah ji.out)
        refine ab2 HB ji ant ?_;intro w63 abb hk HB;replace fO:=kf fO hk qg;clear hk ji;have ji:=abb;clear abb;refine rO [2] [0,1,2,3,4,5,6,7,8,9,10,11,12,13,14,15,16,17,18,19] (fun w'=>w'.cell? ⟨kH,0,none⟩=some (.string ((aG aH iQ).f0))∧w'.cell? ⟨kH,1,none⟩=some (.string ((aG aH iQ).f1))) ?_;intro w64 hb;replace fO:=kb fO hb;replace ji:=kb ji hb;replace HB:=bs HB hb;refine⟨sx,?_⟩;repeat(first|refine lo_ ?_|refine lg_ ?_)
        refine rB func139 (lQ.calls k2 ((aG aH iQ).f0) false _ A23.out) ?_;intro w65 hb;replace fO:=kb fO hb;replace ji:=kb ji hb;replace HB:=bz HB hb;clear hb;refine⟨sx,?_⟩;repeat(first|refine lo_ ?_|refine lg_ ?_)
        refine on ?_;try go_wp2
        go_ret;exact⟨er,bb⟩
      ·obtain rfl:=s1 H;have z66:=jO fO.out;go_wp2;go_ret;exact⟨er,bb⟩
mutual
def cO.l0:Nat→ByteArray→Bool→Bool→ByteArray→ByteArray→List (gI)→Option (ByteArray×ByteArray×(List (gI))×Bool)
 |0,_,_,_,_,_,_=>none
 |k+1,x5,x6,x9,Kr,Kt,Io=>if x6=true then((jC.f k x5 59).bind fun Ye=>((dG.f k Ye.1).bind fun t233=>((jC.f k t233 61).bind fun adb=>((dG.f k adb.2.1).bind fun alV=>((gq.f k alV).bind fun ade=>(if adb.2.2=true then(if ade.2=true then(cO.j1 k Ye.2.1 Ye.2.2 x9 adb.1 ade.1 ((ade.1.length:Int) !=1) Kr Kt Io)else(cO.j1 k Ye.2.1 Ye.2.2 x9 adb.1 ade.1 true Kr Kt Io))else(cO.j1 k Ye.2.1 Ye.2.2 x9 adb.1 ade.1 true Kr Kt Io)))))))else(if x9=true then((bJ.f k Kr Kt Io).bind fun t229=>(if t229=true then(some (Kr,Kt,Io,true))else(some ((⟨#[]⟩:ByteArray),(⟨#[]⟩:ByteArray),([]:List (gI)),false))))else(some ((⟨#[]⟩:ByteArray),(⟨#[]⟩:ByteArray),([]:List (gI)),false)))
def cO.j1:Nat→ByteArray→Bool→Bool→ByteArray→List ByteArray→Bool→ByteArray→ByteArray→List (gI)→Option (ByteArray×ByteArray×(List (gI))×Bool)
 |0,_,_,_,_,_,_,_,_,_=>none
 |k+1,x5,x6,x9,x12,x15,x69,Kr,Kt,Io=>if x69=true then(some ((⟨#[]⟩:ByteArray),(⟨#[]⟩:ByteArray),([]:List (gI)),false))else((dG.f k x12).bind fun alW=>((gU.f alW).bind fun ae3=>(if 0<(x15.length:Int)then(if Io.length<4398046511104 then(cO.l0 k x5 x6 x9 Kr Kt (Io++[(⟨ae3,f_ ByteArray.empty x15 0⟩:gI)]))else(none))else(none))))
end
def cO.f(k:Nat)(a0:ByteArray):Option (ByteArray×ByteArray×(List (gI))×Bool):=(bK.f k a0).bind fun t218=>(if t218=true then((jC.f k a0 59).bind fun Yf=>((dG.f k Yf.1).bind fun t222=>((jC.f k t222 47).bind fun Yg=>((gU.f Yg.1).bind fun t226=>((gU.f Yg.2.1).bind fun t227=>(cO.l0 k Yf.2.1 Yf.2.2 Yg.2.2 t226 t227 ([]:List (gI))))))))else(some ((⟨#[]⟩:ByteArray),(⟨#[]⟩:ByteArray),([]:List (gI)),false)))
def cO.T13:Bool×List (List Nat×List Nat):=(true,[([],[]),([0],[0]),([],[]),([2],[2]),([3,3],[3]),([],[]),([5],[5]),([6],[6]),([4,7],[4,7]),([8],[8]),([1,9,4],[1,9]),([0,1,2,3,4,5,6,7,8,9,10],[]),([11,10,10,0,1,2,3,4,5,6,7,8,9,10],[10,11])])
def cO.B13:List Nat:=[0,1,0,4,12,0,32,96,252,508,1023,2047,4095]
theorem cO.ahL:wo .any (opsOf Tryz.f81 13)=cO.T13:=by kernel_rfl
theorem cO.abD:qJ cO.T13.2 cO.B13=true:=by kernel_rfl
theorem cO.calls(k:Nat)(a0:ByteArray)(r1:ByteArray)(r2:ByteArray)(r3:List (gI))(r4:Bool)(w:World)(h:cO.f k a0=some (r1,r2,r3,r4)):
  Calls Tryz.prog 81 #[.string a0] w fun e w'=>∃Vx:Value,e= .returned (.tuple #[.agg #[.string r1, .string r2,Vx], .bool r4])∧Kd.R oN 63 w' w.heap.size (fun _=>True) Vx r3∧Below w.heap.size w w':=by
 have ada:=underlying90;have Jo:=underlying63;have HB:=ak (Below.refl w.heap.size w);have H:((bK.f k a0).bind fun t218=>(if t218=true then((jC.f k a0 59).bind fun Yf=>((dG.f k Yf.1).bind fun t222=>((jC.f k t222 47).bind fun Yg=>((gU.f Yg.1).bind fun t226=>((gU.f Yg.2.1).bind fun t227=>(cO.l0 k Yf.2.1 Yf.2.2 Yg.2.2 t226 t227 ([]:List (gI))))))))else(some ((⟨#[]⟩:ByteArray),(⟨#[]⟩:ByteArray),([]:List (gI)),false))))=some (r1,r2,r3,r4):=h;clear h;replace H:=bd H;obtain⟨t218,A2,H⟩:=H;replace H:=sb H;rcases H with⟨rfl,H⟩|⟨rfl,H⟩
 ·replace H:=bd H;obtain⟨⟨aw3,aBC,aBD⟩,A4,H⟩:=H
  (try dsimp only at H);replace H:=bd H;obtain⟨t222,A5,H⟩:=H;replace H:=bd H;obtain⟨⟨aw4,aw5,aw6⟩,A6,H⟩:=H
  (try dsimp only at H);replace H:=bd H;obtain⟨t226,A7,H⟩:=H;replace H:=bd H;obtain⟨t227,A8,H⟩:=H;have H':=ak H;clear H;go_enter func81,ntmps81;go_wp2_with (first|(refine gG 2 ?_;refine bX HB 2 #[.string (⟨#[]⟩:ByteArray), .string (⟨#[]⟩:ByteArray), .slice none 0 0] 90 ?_;intro AZ w9 lJ aBE hb;replace HB:=bs HB hb;clear hb)|(refine gD func107 (bK.calls k a0 true _ A2.out) ?_;intro w9 hb;replace lJ:=kb lJ hb;replace HB:=bz HB hb;clear hb)|(refine gD func115 (jC.calls k a0 59 aw3 aBC aBD _ A4.out) ?_;intro w9 hb;replace lJ:=kb lJ hb;replace HB:=bz HB hb;clear hb)|(refine gD func113 (dG.calls k aw3 t222 _ A5.out) ?_;intro w9 hb;replace lJ:=kb lJ hb;replace HB:=bz HB hb;clear hb)|(refine gD func115 (jC.calls k t222 47 aw4 aw5 aw6 _ A6.out) ?_;intro w9 hb;replace lJ:=kb lJ hb;replace HB:=bz HB hb;clear hb)|(refine gB func116 (gU.calls aw4 t226 _ A7.out) ?_;intro w10 hb;replace lJ:=kb lJ hb;replace HB:=bz HB hb;clear hb)|(refine gB func116 (gU.calls aw5 t227 _ A8.out) ?_;intro Uy hb;replace lJ:=kb lJ hb;replace HB:=bz HB hb;clear hb)|(refine gG 10 ?_;refine bY HB 10 #[.string (⟨#[]⟩:ByteArray), .string (⟨#[]⟩:ByteArray), .slice none 0 0] 90 ?_;intro KY w12 oH aMa hg hb;have wE:=nl_ lJ hg;have Fh:=ng_ lJ hg;replace lJ:=kb lJ hb;replace HB:=bz HB hb;clear hb hg;have aMc:=Fh.out;have aMd:=wE.out;have z14:=jO oH.out))
  go_loopg [5,6] k (fun kq v5 v6 w'=>∃(aQ:ByteArray) (iJ:Bool) (yj:ByteArray) (rJ:ByteArray) (vC:List (gI)) (CW:Value),v5= .string aQ∧v6= .bool iJ∧ay (cO.l0 kq aQ iJ aw6 t226 t227 vC=some (r1,r2,r3,r4))∧ay (kq≤k)∧ay (Kd.R oN 63 w' w.heap.size (fun _=>True) CW vC)∧ay (w'.heap[AZ]? =some (.cells #[.string yj, .string rJ,(.slice none 0 0)] 90 (0,0)))∧ay (w'.heap[KY]? =some (.cells #[.string t226, .string t227,CW] 90 (0,0)))∧ay (Below w.heap.size w w'))
  case atStart=>exact⟨_,_,_,_,_,_,rs,rs,H',⟨Nat.le_refl _⟩,⟨nx⟩,⟨bq⟩,⟨bq⟩,⟨bb⟩⟩
  case round=>
   clear H';obtain⟨aQ,iJ,yj,rJ,vC,CW,rfl,rfl,HA,iM,kJ,lJ,oH,HB⟩:=hrel
   cases gk with
   |zero=>exact zz HA.out
   |succ k1=>
    obtain⟨H⟩:=HA;simp only[cO.l0]at H;replace H:=sb H;rcases H with⟨rfl,H⟩|⟨rfl,H⟩
    ·replace H:=bd H;obtain⟨⟨aw7,aw8,t232⟩,A16,H⟩:=H
     (try dsimp only at H);replace H:=bd H;obtain⟨t233,A17,H⟩:=H;replace H:=bd H;obtain⟨⟨t234,aw9,t236⟩,A18,H⟩:=H
     (try dsimp only at H);replace H:=bd H;obtain⟨alV,A19,H⟩:=H;replace H:=bd H;obtain⟨⟨Wp,aJh⟩,A20,H⟩:=H
     (try dsimp only at H);have aw_:=ak H;clear H;go_upto_region 11 with(first|(refine gA func115 (jC.calls k1 aQ 59 aw7 aw8 t232 _ A16.out) ?_;intro nd)|(refine gA func113 (dG.calls k1 aw7 t233 _ A17.out) ?_;intro nd)|(refine gA func115 (jC.calls k1 t233 61 t234 aw9 t236 _ A18.out) ?_;intro nd)|(refine gA func113 (dG.calls k1 aw9 alV _ A19.out) ?_;intro nd)|(refine gV func117 (gq.calls k1 alV Wp aJh _ A20.out) ?_;rintro aJi w22 ⟨ho0,hb⟩;have ahM:=ak (bQ ho0 (aA bb));replace kJ:=rb kJ hb;replace lJ:=kb lJ hb;replace oH:=kb oH hb;replace HB:=bz HB hb;clear hb;(try clear ho0)))
     (try simp only[Act.put,jI,jJ,l_c]);go_cut [69] (fun v69 wc=>∃(kq:Nat) (ae4:Bool),v69= .bool ae4∧ay (cO.j1 kq aw8 t232 aw6 t234 Wp ae4 t226 t227 vC=some (r1,r2,r3,r4))∧ay (kq≤k1)∧ay (Kd.R Kd.string 9 wc w.heap.size (fun _=>True) aJi Wp)∧ay (Kd.R oN 63 wc w.heap.size (fun _=>True) CW vC)∧ay (wc.heap[AZ]? =some (.cells #[.string yj, .string rJ,(.slice none 0 0)] 90 (0,0)))∧ay (wc.heap[KY]? =some (.cells #[.string t226, .string t227,CW] 90 (0,0)))∧ay (Below w.heap.size w wc))
     case first=>
      have H:=aw_.out;clear aw_;replace H:=sb H;rcases H with⟨rfl,H⟩|⟨rfl,H⟩
      ·replace H:=sb H;rcases H with⟨rfl,H⟩|⟨rfl,H⟩
       ·have H':=ak H;clear H;obtain⟨zD,yV,akC⟩:=bW ahM.out;subst akC;go_wp2;go_meet
        case rel=>exact⟨_,_,rs,H',⟨kl⟩,⟨ur ahM.out⟩,⟨ur kJ.out⟩,⟨ub lJ.out⟩,⟨ub oH.out⟩,⟨bb⟩⟩
       ·have H':=ak H;clear H;go_wp2;go_meet
        case rel=>exact⟨_,_,rs,H',⟨kl⟩,⟨ur ahM.out⟩,⟨ur kJ.out⟩,⟨ub lJ.out⟩,⟨ub oH.out⟩,⟨bb⟩⟩
      ·have H':=ak H;clear H;go_wp2;go_meet
       case rel=>exact⟨_,_,rs,H',⟨kl⟩,⟨ur ahM.out⟩,⟨ur kJ.out⟩,⟨ub lJ.out⟩,⟨ub oH.out⟩,⟨bb⟩⟩
     case rest=>
      clear aw_;obtain⟨kq,ae4,rfl,HA,aBG,OU,kJ,lJ,oH,HB⟩:=hcut
      cases kq with
      |zero=>exact zz HA.out
      |succ aBH=>
       obtain⟨H⟩:=HA;simp only[cO.j1]at H;replace H:=sb H;rcases H with⟨rfl,H⟩|⟨rfl,H⟩
       ·obtain⟨rfl,rfl,rfl,rfl⟩:=s4 H;have aAF:=wE.out;have aAG:=Fh.out;have z28:=jO lJ.out;go_wp2;refine bodyPost_ret (jc rfl _ _ AZ 90 #[.string (⟨#[]⟩:ByteArray), .string (⟨#[]⟩:ByteArray), .slice none 0 0] (0,0) _ rfl bq underlying90 rfl (by kernel_rfl)) rfl ?_;exact⟨_,er,nx,bb⟩
       ·replace H:=bd H;obtain⟨alW,A29,H⟩:=H;replace H:=bd H;obtain⟨ae3,A30,H⟩:=H;replace H:=nn H;obtain⟨c31,H⟩:=H;have az5:=decide_eq_true c31;have aMe:decide (0<Wp.length)=true:=decide_eq_true (by omega);clear c31;replace H:=nl H;obtain⟨aBI,H⟩:=H;obtain⟨axa,aue⟩:=nm (vC++[(⟨ae3,f_ ByteArray.empty Wp 0⟩:gI)]);rw[←aue.out]at H;have H':=ak H;clear H;try go_wp2
        replace OU:=ak (Ai OU.out);replace kJ:=ak (Ai kJ.out);replace lJ:=ak (au lJ.out);replace oH:=ak (au oH.out);replace HB:=ak (eG HB.out);obtain⟨aBa,aBb,ai1⟩:=bW OU.out
        (first|subst ai1|(injection ai1 with ZK f2_ ZL;have f4_:=ZK.symm;have f5_:=ZL.symm;clear ZK f2_ ZL;subst f4_;subst f5_));have axb:0≤(0:Int):=(by omega)
        have axc:0<(Wp.length:Int):=of_decide_eq_true (by assumption);obtain⟨aBJ,e244,Xg⟩:=dY (bH OU.out).2.2 0 axb axc;cases e244;have aMf:(0<Wp.length)=True:=eq_true (by omega)
        (try rw[show((0:Int)).toNat=0 from rfl]at Xg)
        (try rw[Addr.add_zero']at Xg);replace axb:=eq_true axb;replace axc:=eq_true axc;refine UE (n:=13) (S:=fun w'=>w'.cell? ⟨KY,0,none⟩=some (.string t226)∧w'.cell? ⟨KY,1,none⟩=some (.string t227)∧w'.cell? ⟨KY,2,none⟩=some (CW)∧w'.cell? aBJ=some (.string (f_ ByteArray.empty Wp 0))) (ds:=[10,12]) #[false,false,false,false,false,false,false,false,false,false,false,false,false] (by kernel_rfl) rfl rfl ⟨(aJ oH.out 0).trans rfl,(aJ oH.out 1).trans rfl,(aJ oH.out 2).trans rfl,Xg⟩ (fun hHeld=>?_);refine UF cO.ahL cO.abD (fun DU HW_=>?_)
        generalize wc.drew=w33 at OU kJ lJ oH HB Xg hHeld⊢
        refine pl 0 ?_;refine pl 2 ?_;refine pl 5 ?_;refine pl 6 ?_;refine tk 1 ?_;refine tk 7 ?_;refine o1 3 (fun K hK=>?_);refine nS func113 (by kernel_rfl) rfl #[.string t234] (by rfl) rfl rfl ma ?_
        with_reducible refine(dG.calls aBH t234 alW _ A29.out).mono ?_
        rintro e w' ⟨rfl,⟨nd,rfl⟩⟩;refine⟨_,rfl,?_⟩;refine hK.out _ _ ⟨(aJ oH.out 0).trans rfl,(aJ oH.out 1).trans rfl,(aJ oH.out 2).trans rfl,hHeld.2.2.2⟩ (fun hHeld=>?_);clear hK K;refine nrm ?_;refine o1 4 (fun K hK=>?_);refine nS func116 (by kernel_rfl) rfl #[.string alW] (by rfl) rfl rfl ma ?_
        with_reducible refine(gU.calls alW ae3 _ A30.out).mono ?_
        rintro e w35 ⟨rfl,hb⟩;have axd:=(hb.cell (World.block_lt_of_cell? _ _ (hHeld.2.2.2))).trans (hHeld.2.2.2);refine⟨_,rfl,?_⟩;replace OU:=rb OU hb;replace kJ:=rb kJ hb;replace lJ:=kb lJ hb;replace oH:=kb oH hb;replace HB:=bz HB hb;try clear hb
        refine hK.out _ _ ⟨(aJ oH.out 0).trans rfl,(aJ oH.out 1).trans rfl,(aJ oH.out 2).trans rfl,axd⟩ (fun hHeld=>?_);clear hK K;refine nrm ?_;refine pl 8 ?_;refine o1 9 (fun K hK=>?_);refine aar (w1:=?_) (v:=?_) (by rfl) rfl ?_ ?_
        rotate_left 2
        ·go_simp;constructor
         ·rfl
         ·rfl
        refine hK.out _ _ ⟨(aJ (ah oH.out _) 0).trans rfl,(aJ (ah oH.out _) 1).trans rfl,(aJ (ah oH.out _) 2).trans rfl,(World.cell?_alloc_lt _ _ _ (World.block_lt_of_cell? _ _ (hHeld.2.2.2))).trans (hHeld.2.2.2)⟩ (fun hHeld=>?_);clear hK K;refine nrm ?_;refine ahN (i:=10) (N:=some 81) #[true,true,true,true,true,true,true,true,true,true,true,false,false] rfl rfl (AA DU.out (by kernel_rfl)) (by decide) (fun K hK=>?_);refine yT oN (w0:=w) w.heap.size (by rfl) (.tmp 72) (.tmp 80) 29 63 (.agg #[(.string ⟨#[]⟩),(.string ⟨#[]⟩)]) 32 rfl underlying29 Fz rfl (by decide) (by omega) CW vC (⟨ae3,f_ ByteArray.empty Wp 0⟩:gI) [.string ae3, .string (f_ ByteArray.empty Wp 0)] (fun _=>True) (fun _=>False) rfl rfl ?aP (fun _ hk=>hk.elim) ?aF ?aO ?aB ?aS ?aL ?_
        (case aP=>exact Hq _ _ _ (⟨ae3,f_ ByteArray.empty Wp 0⟩:gI))
        (case aB=>exact bb)
        (case aF=>exact(fun _ _=>trivial))
        (case aO=>exact(ur kJ.out))
        (case aS=>exact(aA bb))
        (case aL=>have:=aBI.out;omega);intro aPV w36 ho hb hg hat
        rw[←aue.out]at ho;have iE:=ak (zf (ur OU.out) (uH (ur kJ.out)) (by decide) hg);have iF:=ak (gK (g:=AZ) (o:= .cells #[.string yj, .string rJ, .slice none 0 0] 90 (0,0)) (ub lJ.out) hg (BO kJ.out lJ.out (by decide)));have lD:=ak (gK (g:=KY) (o:= .cells #[.string t226, .string t227,CW] 90 (0,0)) (ub oH.out) hg (BO kJ.out oH.out (by decide)));have FD:=ak (hb);have LW:=ak (ho);clear OU lJ oH HB kJ;have OU:=iE;have lJ:=iF;have oH:=lD;have HB:=FD;have auf:=LW;clear iE iF lD FD LW ho hb hg hat
        obtain⟨acV,acW,acX⟩:=bW auf.out
        (first|subst acX|(injection acX with ZK f2_ ZL;have f4_:=ZK.symm;have f5_:=ZL.symm;clear ZK f2_ ZL;subst f4_;subst f5_));refine hK.out _ _ ?_;clear hK K;refine Az (a':=?_) ?_ ?_
        rotate_left
        ·show Act.put _ (some 81) _=_
         simp only[Act.put,jI,jJ,l_c,bf,bD];rfl
        refine pl 11 ?_;refine ahN (i:=12) (N:=none) #[true,true,true,true,true,true,true,true,true,true,true,true,true] rfl rfl (AA DU.out (by kernel_rfl)) (by decide) (fun K hK=>?_);have aPW:w36.cell? ⟨KY,2,none⟩=some (CW):=(aJ oH.out 2).trans rfl;have aMg:=jl oH.out 2;have aFt:=wE.out;have aFu:=Fh.out;refine X6 (w1:=?_) (by rfl) rfl ?_ ?_
        rotate_left
        ·go_simp;rfl
        refine hK.out _ _ ?_;clear hK K;refine ZG (aa0 DU.out (by kernel_rfl)) ?_;try go_wp2
        go_roundg aBH
        case measure=>have:=iM.out;have:=aBG.out;omega
        case rel=>exact⟨_,_,_,_,_,_,rs,rs,H',⟨by have:=iM.out;have:=aBG.out;omega⟩,⟨rr⟩,⟨bq⟩,⟨bq⟩,⟨bb⟩⟩
    ·replace H:=sb H;rcases H with⟨rfl,H⟩|⟨rfl,H⟩
     ·replace H:=bd H;obtain⟨t229,A40,H⟩:=H;replace H:=sb H;rcases H with⟨rfl,H⟩|⟨rfl,H⟩
      ·obtain⟨rfl,rfl,rfl,rfl⟩:=s4 H;have aMh:=Fh.out;have aMi:=wE.out;have z43:=jO oH.out;obtain⟨apZ,ap0,awE⟩:=bW kJ.out;subst awE;go_wp2_with (go_at_call 118;refine mB (bJ.calls k1 t226 t227 _ _ vC true _ (cu ((bH kJ.out).2.2)) ((bH kJ.out).2.1) A40.out) ?_;intro w45 hb;replace kJ:=rb kJ hb;replace lJ:=kb lJ hb;replace oH:=kb oH hb;replace HB:=bz HB hb;clear hb;have z46:=jO oH.out;have z47:=jO lJ.out)
       refine bodyPost_ret (jc rfl _ _ AZ 90 #[.string t226, .string t227, .slice apZ vC.length ap0] (0,0) _ rfl bq underlying90 rfl (by kernel_rfl)) rfl ?_;exact⟨_,er,rr,bb⟩
      ·obtain⟨rfl,rfl,rfl,rfl⟩:=s4 H;have aBK:=Fh.out;have aBL:=wE.out;have z49:=jO oH.out;obtain⟨PS,PU,awL⟩:=bW kJ.out;subst awL;go_wp2_with (go_at_call 118;refine mB (bJ.calls k1 t226 t227 _ _ vC false _ (cu ((bH kJ.out).2.2)) ((bH kJ.out).2.1) A40.out) ?_;intro w51 hb;replace kJ:=rb kJ hb;replace lJ:=kb lJ hb;replace oH:=kb oH hb;replace HB:=bz HB hb;clear hb;have z52:=jO lJ.out)
       refine bodyPost_ret (jc rfl _ _ AZ 90 #[.string (⟨#[]⟩:ByteArray), .string (⟨#[]⟩:ByteArray), .slice none 0 0] (0,0) _ rfl bq underlying90 rfl (by kernel_rfl)) rfl ?_;exact⟨_,er,nx,bb⟩
     ·obtain⟨rfl,rfl,rfl,rfl⟩:=s4 H;have aBM:=wE.out;have aBN:=Fh.out;have z54:=jO lJ.out;go_wp2;refine bodyPost_ret (jc rfl _ _ AZ 90 #[.string (⟨#[]⟩:ByteArray), .string (⟨#[]⟩:ByteArray), .slice none 0 0] (0,0) _ rfl bq underlying90 rfl (by kernel_rfl)) rfl ?_;exact⟨_,er,nx,bb⟩
 ·obtain⟨rfl,rfl,rfl,rfl⟩:=s4 H;go_enter func81,ntmps81;go_wp2_with (first|(refine gG 2 ?_;refine bX HB 2 #[.string (⟨#[]⟩:ByteArray), .string (⟨#[]⟩:ByteArray), .slice none 0 0] 90 ?_;intro AZ w55 lJ aBE hb;replace HB:=bs HB hb;clear hb)|(refine gD func107 (bK.calls k a0 false _ A2.out) ?_;intro w55 hb;replace lJ:=kb lJ hb;replace HB:=bz HB hb;clear hb;have z56:=jO lJ.out))
  refine bodyPost_ret (jc rfl _ _ AZ 90 #[.string (⟨#[]⟩:ByteArray), .string (⟨#[]⟩:ByteArray), .slice none 0 0] (0,0) _ rfl bq underlying90 rfl (by kernel_rfl)) rfl ?_;exact⟨_,er,nx,bb⟩
mutual
def dB.l0:Nat→ByteArray→Int→Option (Bool)
 |0,_,_=>none
 |k+1,x0,x3=>if x3<(x0.size:Int)then(dB.j1 k x0 x3 (decide (x3≤20)))else(dB.j1 k x0 x3 false)
def dB.j1:Nat→ByteArray→Int→Bool→Option (Bool)
 |0,_,_,_=>none
 |k+1,x0,x3,x11=>if x11=true then(if 0≤x3 then(if x3<(x0.size:Int)then((kF.f (bt x0 x3)).bind fun aBO=>(if aBO=true then(dB.l0 k x0 (wrap64 (x3+1)))else(some false)))else(none))else(none))else(if(x0.size:Int)≥1 then(some (decide ((x0.size:Int)≤20)))else(some false))
end
def dB.f(k:Nat)(a0:ByteArray):Option (Bool):=dB.l0 k a0 0
set_option maxHeartbeats 8000000 in
set_option maxRecDepth 100000 in
theorem dB.calls(k:Nat)(a0:ByteArray)(r:Bool)(w:World)(h:dB.f k a0=some r):
  Calls Tryz.prog 119 #[.string a0] w fun e w'=>e= .returned (.bool r)∧fZ w w':=by
 have H:(dB.l0 k a0 0)=some r:=h;clear h;have H':=ak H;clear H;go_enter func119,ntmps119;go_wp2;go_loopg [3] k (fun kq v3 w'=>∃(dS:Int),v3= .int .i64 dS∧ay (dB.l0 kq a0 dS=some r)∧ay (kq≤k)∧fZ w w')
 case atStart=>exact⟨(0),rs,H',⟨Nat.le_refl _⟩,dn⟩
 case round=>
  clear H';try clear c1
  obtain⟨dS,rfl,HA,iM,⟨m1,rfl⟩⟩:=hrel
  cases gk with
  |zero=>exact absurd HA.out (by simp[dB.l0])
  |succ k1=>
   have H:=HA.out;clear HA;simp only[dB.l0]at H;have HC2:=ak H;clear H;go_upto_region 2 with(fail)
   go_cut [11] (fun v11 wc=>∃(kq:Nat) (xG:Bool),v11= .bool xG∧ay (dB.j1 kq a0 dS xG=some r)∧ay (kq≤k1)∧fZ w wc)
   case first=>
    have H:=HC2.out;clear HC2;replace H:=sd H;rcases H with⟨iK,H⟩|⟨iK,H⟩
    ·(first|rw[iK]|(simp only[bf,bD];rw[iK])|skip);have H':=ak H;clear H;go_wp2;go_meet
     case rel=>exact⟨_,(decide (dS≤20)),rs,H',⟨by have:=iM.out;first|omega|exact Nat.le_refl _⟩,dn⟩
    ·(first|rw[iK]|(simp only[bf,bD];rw[iK])|skip);have H':=ak H;clear H;go_wp2;go_meet
     case rel=>exact⟨_,(false),rs,H',⟨by have:=iM.out;first|omega|exact Nat.le_refl _⟩,dn⟩
   case rest=>
    clear HC2;try clear c1
    try clear p2
    try clear c3
    try clear iK
    obtain⟨kq,xG,rfl,HA,Oi,⟨mc1,rfl⟩⟩:=hcut
    cases kq with
    |zero=>exact absurd HA.out (by simp[dB.j1])
    |succ Oj=>
     have H:=HA.out;clear HA;simp only[dB.j1]at H;replace H:=sb H;rcases H with⟨rfl,H⟩|⟨rfl,H⟩
     ·replace H:=oL H;obtain⟨o_,H⟩:=H;replace H:=oL H;obtain⟨mG,H⟩:=H;replace H:=bd H;obtain⟨aBO,A8,H⟩:=H;replace H:=sb H;rcases H with⟨rfl,H⟩|⟨rfl,H⟩
      ·have H':=ak H;clear H;obtain⟨p7,q7,hx7⟩:=bx a0 dS;go_wp2_with (first|(refine gL 142 17 func142 #[.int .u8 (bt a0 dS)] ?_;(with_reducible refine(kF.calls (bt a0 dS) true _ A8.out).mono ?_);rintro e w' ⟨rfl,⟨nd,rfl⟩⟩;refine⟨_,rfl,?_⟩))
       go_roundg Oj
       case measure=>have:=iM.out;have:=Oi.out;omega
       case rel=>exact⟨(wrap64 (dS+1)),rs,H',⟨by have:=iM.out;have:=Oi.out;omega⟩,dn⟩
      ·obtain rfl:=Option.some.inj H;obtain⟨p7,q7,hx7⟩:=bx a0 dS;go_wp2_with (first|(refine gL 142 17 func142 #[.int .u8 (bt a0 dS)] ?_;(with_reducible refine(kF.calls (bt a0 dS) false _ A8.out).mono ?_);rintro e w' ⟨rfl,⟨nd,rfl⟩⟩;refine⟨_,rfl,?_⟩))
       go_ret;exact⟨rs,dn⟩
     ·replace H:=sp H;rcases H with⟨c10,H⟩|⟨c10,H⟩
      ·have rW:decide (1≤(a0.size:Int))=true:=decide_eq_true c10;have xk:decide (1≤a0.size)=true:=decide_eq_true (by omega);clear c10;obtain rfl:=Option.some.inj H;go_wp2;go_ret;exact⟨rs,dn⟩
      ·have rW:decide (1≤(a0.size:Int))=false:=decide_eq_false c10;have xk:decide (1≤a0.size)=false:=decide_eq_false (by omega);clear c10;obtain rfl:=Option.some.inj H;go_wp2;go_ret;exact⟨rs,dn⟩
def oq.f(k:Nat)(bT:ByteArray)(cZ:ByteArray)(aH:List (gI)):Option (ByteArray×Bool):=(kT.f k aH (⟨#[98,111,117,110,100,97,114,121]⟩:ByteArray)).bind fun Yh=>((bJ.f k bT cZ aH).bind fun aqE=>(if aqE=true then(if bT.toList=([109,117,108,116,105,112,97,114,116]:List UInt8)then(if Yh.2=true then((dB.f k Yh.1).bind fun aqF=>(if aqF=true then(some (Yh.1,true))else(some ((⟨#[]⟩:ByteArray),false))))else(some ((⟨#[]⟩:ByteArray),false)))else(some ((⟨#[]⟩:ByteArray),false)))else(some ((⟨#[]⟩:ByteArray),false))))
set_option maxHeartbeats 8000000 in
set_option maxRecDepth 100000 in
theorem oq.calls(k:Nat)(bT:ByteArray)(cZ:ByteArray)(iw:Option Addr)(fC:Nat)(aH:List (gI))(r1:ByteArray)(r2:Bool)(w:World)(lZ:Kd.C oN w iw aH.length aH)(l7:aH.length≤fC)(h:oq.f k bT cZ aH=some (r1,r2)):
  Calls Tryz.prog 82 #[.agg #[.string bT, .string cZ, .slice iw aH.length fC]] w fun e w'=>e= .returned (.tuple #[.string r1, .bool r2])∧Below w.heap.size w w':=by
 have ada:=underlying90;have lC:=ak lZ;have oz:=ak l7;clear lZ l7;have HB:=ak (Below.refl w.heap.size w);have H:((kT.f k aH (⟨#[98,111,117,110,100,97,114,121]⟩:ByteArray)).bind fun Yh=>((bJ.f k bT cZ aH).bind fun aqE=>(if aqE=true then(if bT.toList=([109,117,108,116,105,112,97,114,116]:List UInt8)then(if Yh.2=true then((dB.f k Yh.1).bind fun aqF=>(if aqF=true then(some (Yh.1,true))else(some ((⟨#[]⟩:ByteArray),false))))else(some ((⟨#[]⟩:ByteArray),false)))else(some ((⟨#[]⟩:ByteArray),false)))else(some ((⟨#[]⟩:ByteArray),false)))))=some (r1,r2):=h;clear h;replace H:=bd H;obtain⟨⟨ae5,aBP⟩,A2,H⟩:=H
 (try dsimp only at H);replace H:=bd H;obtain⟨aqE,A3,H⟩:=H;replace H:=sb H;rcases H with⟨rfl,H⟩|⟨rfl,H⟩
 ·replace H:=sq H;rcases H with⟨o_,Y_,H⟩|⟨c5,o_,Y_,H⟩
  ·replace H:=sb H;rcases H with⟨rfl,H⟩|⟨rfl,H⟩
   ·replace H:=bd H;obtain⟨aqF,A7,H⟩:=H;replace H:=sb H;rcases H with⟨rfl,H⟩|⟨rfl,H⟩
    ·simp only[Option.some.injEq,Prod.mk.injEq]at H;obtain⟨rfl,rfl⟩:=H;go_enter func82,ntmps82;go_wp2_with (first|(refine bE 1 #[.string bT, .string cZ, .slice iw aH.length fC] 90 ?_;intro ahO hg w9 hbox hb;have o8:=ak (hbox);have ahP:=lq HB hg;have ahQ:=lq HB hg;replace HB:=bs HB hb;clear hb hbox hg;obtain⟨sG,vP,Af,sH,vS,Ag⟩:=jO o8.out)|(refine gL 80 9 func80 #[.slice iw aH.length fC, .string (⟨#[98,111,117,110,100,97,114,121]⟩:ByteArray)] ?_;(with_reducible refine(kT.calls k _ _ aH (⟨#[98,111,117,110,100,97,114,121]⟩:ByteArray) ae5 true _ (cu (aT lC.out HB.out)) oz.out A2.out).mono ?_);rintro e Uy ⟨rfl,hb⟩;refine⟨_,rfl,?_⟩;replace o8:=kb o8 hb;replace HB:=ak (aC bb hb);(try clear hb);obtain⟨Aq,H7,H8,Ar,H9,H_⟩:=jO o8.out)|(refine gL 118 13 func118 #[.agg #[.string bT, .string cZ, .slice iw aH.length fC]] ?_;(with_reducible refine(bJ.calls k bT cZ _ _ aH true _ (cu (aT lC.out HB.out)) oz.out A3.out).mono ?_);rintro e w13 ⟨rfl,hb⟩;refine⟨_,rfl,?_⟩;replace o8:=kb o8 hb;replace HB:=ak (aC bb hb);(try clear hb);obtain⟨QC,QD,Xe,QE,QF,Xf⟩:=jO o8.out)|(go_at_call 119;(with_reducible refine(dB.calls k ae5 true _ A7.out).mono ?_);rintro e w' ⟨rfl,⟨nd,rfl⟩⟩))
     go_ret2;exact⟨er,bb⟩
    ·simp only[Option.some.injEq,Prod.mk.injEq]at H;obtain⟨rfl,rfl⟩:=H;go_enter func82,ntmps82;go_wp2_with (first|(refine bE 1 #[.string bT, .string cZ, .slice iw aH.length fC] 90 ?_;intro ahO hg w15 hbox hb;have o8:=ak (hbox);have ahP:=lq HB hg;have ahQ:=lq HB hg;replace HB:=bs HB hb;clear hb hbox hg;obtain⟨JQ,JR,NP,JU,JV,NQ⟩:=jO o8.out)|(refine gL 80 9 func80 #[.slice iw aH.length fC, .string (⟨#[98,111,117,110,100,97,114,121]⟩:ByteArray)] ?_;(with_reducible refine(kT.calls k _ _ aH (⟨#[98,111,117,110,100,97,114,121]⟩:ByteArray) ae5 true _ (cu (aT lC.out HB.out)) oz.out A2.out).mono ?_);rintro e w17 ⟨rfl,hb⟩;refine⟨_,rfl,?_⟩;replace o8:=kb o8 hb;replace HB:=ak (aC bb hb);(try clear hb);obtain⟨wH,wI,zh,wJ,wK,zk⟩:=jO o8.out)|(refine gL 118 13 func118 #[.agg #[.string bT, .string cZ, .slice iw aH.length fC]] ?_;(with_reducible refine(bJ.calls k bT cZ _ _ aH true _ (cu (aT lC.out HB.out)) oz.out A3.out).mono ?_);rintro e w19 ⟨rfl,hb⟩;refine⟨_,rfl,?_⟩;replace o8:=kb o8 hb;replace HB:=ak (aC bb hb);(try clear hb);obtain⟨zo,zq,zu,zx,zy,zA⟩:=jO o8.out)|(go_at_call 119;(with_reducible refine(dB.calls k ae5 false _ A7.out).mono ?_);rintro e w' ⟨rfl,⟨nd,rfl⟩⟩))
     go_ret2;exact⟨er,bb⟩
   ·simp only[Option.some.injEq,Prod.mk.injEq]at H;obtain⟨rfl,rfl⟩:=H;go_enter func82,ntmps82;go_wp2_with (first|(refine bE 1 #[.string bT, .string cZ, .slice iw aH.length fC] 90 ?_;intro ahO hg w21 hbox hb;have o8:=ak (hbox);have ahP:=lq HB hg;have ahQ:=lq HB hg;replace HB:=bs HB hb;clear hb hbox hg;obtain⟨JW,NR,NS,JX,NT,NU⟩:=jO o8.out)|(refine gL 80 9 func80 #[.slice iw aH.length fC, .string (⟨#[98,111,117,110,100,97,114,121]⟩:ByteArray)] ?_;(with_reducible refine(kT.calls k _ _ aH (⟨#[98,111,117,110,100,97,114,121]⟩:ByteArray) ae5 false _ (cu (aT lC.out HB.out)) oz.out A2.out).mono ?_);rintro e w23 ⟨rfl,hb⟩;refine⟨_,rfl,?_⟩;replace o8:=kb o8 hb;replace HB:=ak (aC bb hb);(try clear hb);obtain⟨aat,aau,agA,aav,aaw,agB⟩:=jO o8.out)|(refine gL 118 13 func118 #[.agg #[.string bT, .string cZ, .slice iw aH.length fC]] ?_;(with_reducible refine(bJ.calls k bT cZ _ _ aH true _ (cu (aT lC.out HB.out)) oz.out A3.out).mono ?_);rintro e w25 ⟨rfl,hb⟩;refine⟨_,rfl,?_⟩;replace o8:=kb o8 hb;replace HB:=ak (aC bb hb);(try clear hb);obtain⟨ahx,ahy,ahz,ahA,ahB,ahC⟩:=jO o8.out))
    go_ret2;exact⟨er,bb⟩
  ·simp only[Option.some.injEq,Prod.mk.injEq]at H;obtain⟨rfl,rfl⟩:=H;go_enter func82,ntmps82;go_wp2_with (first|(refine bE 1 #[.string bT, .string cZ, .slice iw aH.length fC] 90 ?_;intro ahO hg w27 hbox hb;have o8:=ak (hbox);have ahP:=lq HB hg;have ahQ:=lq HB hg;replace HB:=bs HB hb;clear hb hbox hg;obtain⟨J4,N8,N9,J5,N_,Oa⟩:=jO o8.out)|(refine gL 80 9 func80 #[.slice iw aH.length fC, .string (⟨#[98,111,117,110,100,97,114,121]⟩:ByteArray)] ?_;(with_reducible refine(kT.calls k _ _ aH (⟨#[98,111,117,110,100,97,114,121]⟩:ByteArray) ae5 aBP _ (cu (aT lC.out HB.out)) oz.out A2.out).mono ?_);rintro e w29 ⟨rfl,hb⟩;refine⟨_,rfl,?_⟩;replace o8:=kb o8 hb;replace HB:=ak (aC bb hb);(try clear hb);obtain⟨NW,NY,QJ,NZ,N7,QK⟩:=jO o8.out)|(refine gL 118 13 func118 #[.agg #[.string bT, .string cZ, .slice iw aH.length fC]] ?_;(with_reducible refine(bJ.calls k bT cZ _ _ aH true _ (cu (aT lC.out HB.out)) oz.out A3.out).mono ?_);rintro e w31 ⟨rfl,hb⟩;refine⟨_,rfl,?_⟩;replace o8:=kb o8 hb;replace HB:=ak (aC bb hb);(try clear hb);obtain⟨abz,abA,ahD,abB,abC,ahE⟩:=jO o8.out))
   go_ret2;exact⟨er,bb⟩
 ·simp only[Option.some.injEq,Prod.mk.injEq]at H;obtain⟨rfl,rfl⟩:=H;go_enter func82,ntmps82;go_wp2_with (first|(refine bE 1 #[.string bT, .string cZ, .slice iw aH.length fC] 90 ?_;intro ahO hg w33 hbox hb;have o8:=ak (hbox);have ahP:=lq HB hg;have ahQ:=lq HB hg;replace HB:=bs HB hb;clear hb hbox hg;obtain⟨WW,WX,aaD,WY,WZ,aaE⟩:=jO o8.out)|(refine gL 80 9 func80 #[.slice iw aH.length fC, .string (⟨#[98,111,117,110,100,97,114,121]⟩:ByteArray)] ?_;(with_reducible refine(kT.calls k _ _ aH (⟨#[98,111,117,110,100,97,114,121]⟩:ByteArray) ae5 aBP _ (cu (aT lC.out HB.out)) oz.out A2.out).mono ?_);rintro e w35 ⟨rfl,hb⟩;refine⟨_,rfl,?_⟩;replace o8:=kb o8 hb;replace HB:=ak (aC bb hb);(try clear hb);obtain⟨aaO,aaP,aaQ,aaR,aaS,aaT⟩:=jO o8.out)|(refine gL 118 13 func118 #[.agg #[.string bT, .string cZ, .slice iw aH.length fC]] ?_;(with_reducible refine(bJ.calls k bT cZ _ _ aH false _ (cu (aT lC.out HB.out)) oz.out A3.out).mono ?_);rintro e w37 ⟨rfl,hb⟩;refine⟨_,rfl,?_⟩;replace o8:=kb o8 hb;replace HB:=ak (aC bb hb);(try clear hb)))
  go_ret2;exact⟨er,bb⟩
def jS.f(k:Nat)(l0:List (gI)):Option (ByteArray×Bool):=(kT.f k l0 (⟨#[67,111,110,116,101,110,116,45,84,121,112,101]⟩:ByteArray)).bind fun adf=>((cO.f k adf.1).bind fun Sr=>((oq.f k Sr.1 Sr.2.1 Sr.2.2.1).bind fun Sv=>(if adf.2=true then(if Sr.2.2.2=true then(some (Sv.1,Sv.2))else(some (Sv.1,false)))else(some (Sv.1,false)))))
set_option maxHeartbeats 8000000 in
set_option maxRecDepth 100000 in
theorem jS.calls(k:Nat)(A0:Option Addr)(c0:Nat)(l0:List (gI))(r1:ByteArray)(r2:Bool)(w:World)(hr0:Kd.C oN w A0 l0.length l0)(hc0:l0.length≤c0)(h:jS.f k l0=some (r1,r2)):
  Calls Tryz.prog 58 #[.slice A0 l0.length c0] w fun e w'=>e= .returned (.tuple #[.string r1, .bool r2])∧Below w.heap.size w w':=by
 have ada:=underlying90;have HR0:=ak hr0;have sK:=ak hc0;clear hr0 hc0;have HB:=ak (Below.refl w.heap.size w);have H:((kT.f k l0 (⟨#[67,111,110,116,101,110,116,45,84,121,112,101]⟩:ByteArray)).bind fun adf=>((cO.f k adf.1).bind fun Sr=>((oq.f k Sr.1 Sr.2.1 Sr.2.2.1).bind fun Sv=>(if adf.2=true then(if Sr.2.2.2=true then(some (Sv.1,Sv.2))else(some (Sv.1,false)))else(some (Sv.1,false))))))=some (r1,r2):=h;clear h;replace H:=bd H;obtain⟨⟨abE,aPX⟩,A2,H⟩:=H
 (try dsimp only at H);replace H:=bd H;obtain⟨⟨ES,Ja,Jb,aJj⟩,A3,H⟩:=H
 (try dsimp only at H);replace H:=bd H;obtain⟨⟨axe,axf⟩,A4,H⟩:=H
 (try dsimp only at H);replace H:=sb H;rcases H with⟨rfl,H⟩|⟨rfl,H⟩
 ·replace H:=sb H;rcases H with⟨rfl,H⟩|⟨rfl,H⟩
  ·simp only[Option.some.injEq,Prod.mk.injEq]at H;obtain⟨rfl,rfl⟩:=H;go_enter func58,ntmps58;go_wp2_with (first|(refine gL 80 12 func80 #[.slice A0 l0.length c0, .string (⟨#[67,111,110,116,101,110,116,45,84,121,112,101]⟩:ByteArray)] ?_;(with_reducible refine(kT.calls k _ _ l0 (⟨#[67,111,110,116,101,110,116,45,84,121,112,101]⟩:ByteArray) abE true _ (cu HR0.out) sK.out A2.out).mono ?_);rintro e w7 ⟨rfl,hb⟩;refine⟨_,rfl,?_⟩;replace HB:=bs HB hb;(try clear hb))|(refine gL 81 17 func81 #[.string abE] ?_;(with_reducible refine(cO.calls k abE ES Ja Jb true _ A3.out).mono ?_);rintro e w8 ⟨aBQ,rfl,ho0,hb⟩;refine⟨_,rfl,?_⟩;have xH:=ak (bQ ho0 (aA (ul HB.out)));replace HB:=bs HB hb;(try clear hb);(try clear ho0))|(refine bE 6 #[.string (⟨#[]⟩:ByteArray), .string (⟨#[]⟩:ByteArray), .slice none 0 0] 90 ?_;intro xI hg w9 hbox hb;have Dl:=ak (hbox);have aug:=lq HB hg;have auh:=lq HB hg;replace xH:=rb xH hb;replace HB:=bs HB hb;clear hb hbox hg;obtain⟨sG,vP,Af,sH,vS,Ag⟩:=jO Dl.out;obtain⟨Jt,G8,akd⟩:=bW xH.out;subst akd)|(refine gL 82 22 func82 #[.agg #[.string ES, .string Ja, .slice Jt Jb.length G8]] ?_;(with_reducible refine(oq.calls k ES Ja _ _ Jb axe axf _ ?iY ?jK A4.out).mono ?_);(case iY=>refine(bH (e:=63) (base:=w.heap.size) (ok:=fun k_=>True) (n:=Jb.length) (c:=G8) ?_).2.2;exact(ur (aK (aN (p:=⟨xI,2,none⟩) (aN (p:=⟨xI,1,none⟩) (aN (p:=⟨xI,0,none⟩) (dA xH.out Dl.out (by decide)) (fun _ hk=>hk.2) (.string ES)) (fun _ hk=>hk.2) (.string Ja)) (fun _ hk=>hk.2) (.slice Jt Jb.length G8)) (fun _ h_=>h_.1))));(case jK=>exact(bH xH.out).2.1);rintro e w12 ⟨rfl,hb⟩;refine⟨_,rfl,?_⟩;replace xH:=ak (iL (ur (aK (aN (p:=⟨xI,2,none⟩) (aN (p:=⟨xI,1,none⟩) (aN (p:=⟨xI,0,none⟩) (dA xH.out Dl.out (by decide)) (fun _ hk=>hk.2) (.string ES)) (fun _ hk=>hk.2) (.string Ja)) (fun _ hk=>hk.2) (.slice Jt Jb.length G8)) (fun _ h_=>h_.1))) hb);replace Dl:=ak (fD (g:=xI) (o:= .cells #[.string ES, .string Ja, .slice Jt Jb.length G8] 90 (0,0)) (by(with_reducible repeat(first|refine aj ?_ _|refine au ?_|refine ah ?_ _));refine aI (cs:=#[.string ES, .string Ja, .slice none 0 0]) ?_ 2 _ rfl;(with_reducible repeat(first|refine aj ?_ _|refine au ?_|refine ah ?_ _));refine aI (cs:=#[.string ES, .string (⟨#[]⟩:ByteArray), .slice none 0 0]) ?_ 1 _ rfl;(with_reducible repeat(first|refine aj ?_ _|refine au ?_|refine ah ?_ _));refine aI (cs:=#[.string (⟨#[]⟩:ByteArray), .string (⟨#[]⟩:ByteArray), .slice none 0 0]) ?_ 0 _ rfl;(with_reducible repeat(first|refine aj ?_ _|refine au ?_|refine ah ?_ _));exact Dl.out) hb);replace HB:=ak (aC bb hb);(try clear hb)))
   go_ret2;exact⟨er,bb⟩
  ·simp only[Option.some.injEq,Prod.mk.injEq]at H;obtain⟨rfl,rfl⟩:=H;go_enter func58,ntmps58;go_wp2_with (first|(refine gL 80 12 func80 #[.slice A0 l0.length c0, .string (⟨#[67,111,110,116,101,110,116,45,84,121,112,101]⟩:ByteArray)] ?_;(with_reducible refine(kT.calls k _ _ l0 (⟨#[67,111,110,116,101,110,116,45,84,121,112,101]⟩:ByteArray) abE true _ (cu HR0.out) sK.out A2.out).mono ?_);rintro e w13 ⟨rfl,hb⟩;refine⟨_,rfl,?_⟩;replace HB:=bs HB hb;(try clear hb))|(refine gL 81 17 func81 #[.string abE] ?_;(with_reducible refine(cO.calls k abE ES Ja Jb false _ A3.out).mono ?_);rintro e Us ⟨aBQ,rfl,ho0,hb⟩;refine⟨_,rfl,?_⟩;have xH:=ak (bQ ho0 (aA (ul HB.out)));replace HB:=bs HB hb;(try clear hb);(try clear ho0))|(refine bE 6 #[.string (⟨#[]⟩:ByteArray), .string (⟨#[]⟩:ByteArray), .slice none 0 0] 90 ?_;intro xI hg w15 hbox hb;have Dl:=ak (hbox);have aug:=lq HB hg;have auh:=lq HB hg;replace xH:=rb xH hb;replace HB:=bs HB hb;clear hb hbox hg;obtain⟨JQ,JR,NP,JU,JV,NQ⟩:=jO Dl.out;obtain⟨aqG,alX,aJk⟩:=bW xH.out;subst aJk)|(refine gL 82 22 func82 #[.agg #[.string ES, .string Ja, .slice aqG Jb.length alX]] ?_;(with_reducible refine(oq.calls k ES Ja _ _ Jb axe axf _ ?iY ?jK A4.out).mono ?_);(case iY=>refine(bH (e:=63) (base:=w.heap.size) (ok:=fun k_=>True) (n:=Jb.length) (c:=alX) ?_).2.2;exact(ur (aK (aN (p:=⟨xI,2,none⟩) (aN (p:=⟨xI,1,none⟩) (aN (p:=⟨xI,0,none⟩) (dA xH.out Dl.out (by decide)) (fun _ hk=>hk.2) (.string ES)) (fun _ hk=>hk.2) (.string Ja)) (fun _ hk=>hk.2) (.slice aqG Jb.length alX)) (fun _ h_=>h_.1))));(case jK=>exact(bH xH.out).2.1);rintro e w18 ⟨rfl,hb⟩;refine⟨_,rfl,?_⟩;replace xH:=ak (iL (ur (aK (aN (p:=⟨xI,2,none⟩) (aN (p:=⟨xI,1,none⟩) (aN (p:=⟨xI,0,none⟩) (dA xH.out Dl.out (by decide)) (fun _ hk=>hk.2) (.string ES)) (fun _ hk=>hk.2) (.string Ja)) (fun _ hk=>hk.2) (.slice aqG Jb.length alX)) (fun _ h_=>h_.1))) hb);replace Dl:=ak (fD (g:=xI) (o:= .cells #[.string ES, .string Ja, .slice aqG Jb.length alX] 90 (0,0)) (by(with_reducible repeat(first|refine aj ?_ _|refine au ?_|refine ah ?_ _));refine aI (cs:=#[.string ES, .string Ja, .slice none 0 0]) ?_ 2 _ rfl;(with_reducible repeat(first|refine aj ?_ _|refine au ?_|refine ah ?_ _));refine aI (cs:=#[.string ES, .string (⟨#[]⟩:ByteArray), .slice none 0 0]) ?_ 1 _ rfl;(with_reducible repeat(first|refine aj ?_ _|refine au ?_|refine ah ?_ _));refine aI (cs:=#[.string (⟨#[]⟩:ByteArray), .string (⟨#[]⟩:ByteArray), .slice none 0 0]) ?_ 0 _ rfl;(with_reducible repeat(first|refine aj ?_ _|refine au ?_|refine ah ?_ _));exact Dl.out) hb);replace HB:=ak (aC bb hb);(try clear hb)))
   go_ret2;exact⟨er,bb⟩
 ·simp only[Option.some.injEq,Prod.mk.injEq]at H;obtain⟨rfl,rfl⟩:=H;go_enter func58,ntmps58;go_wp2_with (first|(refine gL 80 12 func80 #[.slice A0 l0.length c0, .string (⟨#[67,111,110,116,101,110,116,45,84,121,112,101]⟩:ByteArray)] ?_;(with_reducible refine(kT.calls k _ _ l0 (⟨#[67,111,110,116,101,110,116,45,84,121,112,101]⟩:ByteArray) abE false _ (cu HR0.out) sK.out A2.out).mono ?_);rintro e w19 ⟨rfl,hb⟩;refine⟨_,rfl,?_⟩;replace HB:=bs HB hb;(try clear hb))|(refine gL 81 17 func81 #[.string abE] ?_;(with_reducible refine(cO.calls k abE ES Ja Jb aJj _ A3.out).mono ?_);rintro e w20 ⟨aBQ,rfl,ho0,hb⟩;refine⟨_,rfl,?_⟩;have xH:=ak (bQ ho0 (aA (ul HB.out)));replace HB:=bs HB hb;(try clear hb);(try clear ho0))|(refine bE 6 #[.string (⟨#[]⟩:ByteArray), .string (⟨#[]⟩:ByteArray), .slice none 0 0] 90 ?_;intro xI hg w21 hbox hb;have Dl:=ak (hbox);have aug:=lq HB hg;have auh:=lq HB hg;replace xH:=rb xH hb;replace HB:=bs HB hb;clear hb hbox hg;obtain⟨JW,NR,NS,JX,NT,NU⟩:=jO Dl.out;obtain⟨qF,pU,ac9⟩:=bW xH.out;subst ac9)|(refine gL 82 22 func82 #[.agg #[.string ES, .string Ja, .slice qF Jb.length pU]] ?_;(with_reducible refine(oq.calls k ES Ja _ _ Jb axe axf _ ?iY ?jK A4.out).mono ?_);(case iY=>refine(bH (e:=63) (base:=w.heap.size) (ok:=fun k_=>True) (n:=Jb.length) (c:=pU) ?_).2.2;exact(ur (aK (aN (p:=⟨xI,2,none⟩) (aN (p:=⟨xI,1,none⟩) (aN (p:=⟨xI,0,none⟩) (dA xH.out Dl.out (by decide)) (fun _ hk=>hk.2) (.string ES)) (fun _ hk=>hk.2) (.string Ja)) (fun _ hk=>hk.2) (.slice qF Jb.length pU)) (fun _ h_=>h_.1))));(case jK=>exact(bH xH.out).2.1);rintro e w24 ⟨rfl,hb⟩;refine⟨_,rfl,?_⟩;replace xH:=ak (iL (ur (aK (aN (p:=⟨xI,2,none⟩) (aN (p:=⟨xI,1,none⟩) (aN (p:=⟨xI,0,none⟩) (dA xH.out Dl.out (by decide)) (fun _ hk=>hk.2) (.string ES)) (fun _ hk=>hk.2) (.string Ja)) (fun _ hk=>hk.2) (.slice qF Jb.length pU)) (fun _ h_=>h_.1))) hb);replace Dl:=ak (fD (g:=xI) (o:= .cells #[.string ES, .string Ja, .slice qF Jb.length pU] 90 (0,0)) (by(with_reducible repeat(first|refine aj ?_ _|refine au ?_|refine ah ?_ _));refine aI (cs:=#[.string ES, .string Ja, .slice none 0 0]) ?_ 2 _ rfl;(with_reducible repeat(first|refine aj ?_ _|refine au ?_|refine ah ?_ _));refine aI (cs:=#[.string ES, .string (⟨#[]⟩:ByteArray), .slice none 0 0]) ?_ 1 _ rfl;(with_reducible repeat(first|refine aj ?_ _|refine au ?_|refine ah ?_ _));refine aI (cs:=#[.string (⟨#[]⟩:ByteArray), .string (⟨#[]⟩:ByteArray), .slice none 0 0]) ?_ 0 _ rfl;(with_reducible repeat(first|refine aj ?_ _|refine au ?_|refine ah ?_ _));exact Dl.out) hb);replace HB:=ak (aC bb hb);(try clear hb)))
  go_ret2;exact⟨er,bb⟩
mutual
def aU.l0:Nat→List ByteArray→ByteArray→List (List ByteArray)→List ByteArray→Bool→Int→Option ((List (List ByteArray))×Bool)
 |0,_,_,_,_,_,_=>none
 |k+1,x0,x1,x6,x7,x8,x9=>if x9<(x0.length:Int)then((dB.f k x1).bind fun apP=>(aU.j1 k x0 x1 x6 x7 x8 x9 apP))else(aU.j1 k x0 x1 x6 x7 x8 x9 false)
def aU.j1:Nat→List ByteArray→ByteArray→List (List ByteArray)→List ByteArray→Bool→Int→Bool→Option ((List (List ByteArray))×Bool)
 |0,_,_,_,_,_,_,_=>none
 |k+1,x0,x1,x6,x7,x8,x9,x19=>if x19=true then(if 0≤x9 then(if x9<(x0.length:Int)then(if 2+x1.size≤9223372036854775807 then(if(f_ ByteArray.empty x0 x9).toList=((⟨#[45,45]⟩:ByteArray)++x1).toList then(if x8=true then(if x6.length<5864062014805 then(aU.l0 k x0 x1 (x6++[x7]) (([]:List ByteArray)) true (wrap64 (x9+1)))else(none))else(aU.l0 k x0 x1 x6 (([]:List ByteArray)) true (wrap64 (x9+1))))else(if((⟨#[45,45]⟩:ByteArray)++x1).size+2≤9223372036854775807 then(if(f_ ByteArray.empty x0 x9).toList=(((⟨#[45,45]⟩:ByteArray)++x1)++(⟨#[45,45]⟩:ByteArray)).toList then(aU.j2 k x0 x1 x6 x7 x8 x9 x8)else(aU.j2 k x0 x1 x6 x7 x8 x9 false))else(none)))else(none))else(none))else(none))else(some ((([]:List (List ByteArray))),false))
def aU.j2:Nat→List ByteArray→ByteArray→List (List ByteArray)→List ByteArray→Bool→Int→Bool→Option ((List (List ByteArray))×Bool)
 |0,_,_,_,_,_,_,_=>none
 |k+1,x0,x1,x6,x7,x8,x9,x36=>if x36=true then(if x6.length<5864062014805 then(some ((x6++[x7]),true))else(none))else(if x8=true then(if 0≤x9 then(if x9<(x0.length:Int)then(if x7.length<8796093022208 then(aU.l0 k x0 x1 x6 (x7++[f_ ByteArray.empty x0 x9]) x8 (wrap64 (x9+1)))else(none))else(none))else(none))else(aU.l0 k x0 x1 x6 x7 x8 (wrap64 (x9+1))))
end
def aU.f(k:Nat)(l0:List ByteArray)(a1:ByteArray):Option ((List (List ByteArray))×Bool):=aU.l0 k l0 a1 (([]:List (List ByteArray))) (([]:List ByteArray)) false 0
set_option maxHeartbeats 8000000 in
set_option maxRecDepth 100000 in
theorem aU.calls(k:Nat)(A0:Option Addr)(c0:Nat)(l0:List ByteArray)(a1:ByteArray)(r1:List (List ByteArray))(r2:Bool)(w:World)(hr0:Kd.C Kd.string w A0 l0.length l0)(hc0:l0.length≤c0)(h:aU.f k l0 a1=some (r1,r2)):
  Calls Tryz.prog 83 #[.slice A0 l0.length c0, .string a1] w fun e w'=>∃sZ:Value,e= .returned (.tuple #[sZ, .bool r2])∧Kd.S (Kd.slice 9 Kd.string) 23 w' w.heap.size (fun _=>True) sZ r1∧Below w.heap.size w w':=by
 have HR0:=ak hr0;have sK:=ak hc0;clear hr0 hc0;have HB:=ak (Below.refl w.heap.size w);have H:(aU.l0 k l0 a1 (([]:List (List ByteArray))) (([]:List ByteArray)) false 0)=some (r1,r2):=h;clear h;obtain⟨aIc,akW⟩:=nm ([]:List (List ByteArray));rw[←akW.out]at H
 (try rw[Option.bind_some]at H);obtain⟨aId,akX⟩:=nm ([]:List ByteArray);rw[←akX.out]at H
 (try rw[Option.bind_some]at H);have H':=ak H;clear H;go_enter func83,ntmps83;go_wp2_with (first|((with_reducible refine bG (N:=10) rfl ?_);refine ZE (Kd.slice 9 Kd.string) _ 23 ?hg (N:=10) ?hd (xs:=([]:List (List ByteArray))) (inner:=[]) (ok:=fun _=>True) (oO:=fun _=>True) ?hr ?hp (fun _ hk=>hk) trivial (Below.refl _ _) (Nat.le_refl _) (by simp) ?_;(case hd=>rfl);(case hg=>rfl);(case hr=>first|(go_simp;done)|(go_simp;rfl));(case hp=>exact(iW.none _ _));intro aOU w3 ho4 hb oP gY;clear oP gY;(first|rw[←akW.out]at ho4|(simp only[Int.reduceToNat]at ho4;rw[←akW.out]at ho4));have akY:=ak (qZ ho4 (aA (ul HB.out)));replace HB:=bs HB hb;clear hb ho4)|((with_reducible refine bG (N:=11) rfl ?_);refine nD Kd.string _ 9 ?hg (N:=11) ?hd (xs:=([]:List ByteArray)) (inner:=[]) (ok:=fun _=>True) (oO:=fun _=>True) ?hr ?hp (fun _ hk=>hk) trivial (Below.refl _ _) (Nat.le_refl _) (by simp) ?_;(case hd=>rfl);(case hg=>rfl);(case hr=>first|(go_simp;done)|(go_simp;rfl));(case hp=>exact(iW.none _ _));intro aOV w5 WQ hb oP gY;clear oP gY;(first|rw[←akX.out]at WQ|(simp only[Int.reduceToNat]at WQ;rw[←akX.out]at WQ));have azY:=ak (bQ WQ (aA (ul HB.out)));replace akY:=ak (qU (by(with_reducible repeat(first|apply Kd.dH|apply Kd.dI|apply Kd.eH));exact akY.out) (iO WQ) hb);replace HB:=bs HB hb;clear hb WQ))
 go_loopg [6,7,8,9] k (fun kq v6 v7 v8 v9 w'=>∃(iJ:List (List ByteArray)) (ng:List ByteArray) (jm:Bool) (l9:Int),v8= .bool jm∧v9= .int .i64 l9∧ay (aU.l0 kq l0 a1 iJ ng jm l9=some (r1,r2))∧ay (kq≤k)∧ay (Kd.S (Kd.slice 9 Kd.string) 23 w' w.heap.size (fun k_=>some k_≠(v7:Value).ownBlock) v6 iJ)∧ay (Kd.R Kd.string 9 w' w.heap.size (fun _=>True) v7 ng)∧ay (Below w.heap.size w w'))
 case atStart=>exact⟨(aIc),(aId),(false),(0),rs,rs,H',⟨Nat.le_refl _⟩,⟨by(with_reducible repeat(first|apply Kd.dH|apply Kd.dI|apply Kd.eH));exact jA akY.out (fun _ hk=>hk.2)⟩,⟨ur azY.out⟩,⟨ul HB.out⟩⟩
 case round=>
  clear H';try clear p2
  obtain⟨iJ,ng,jm,l9,rfl,rfl,HA,iM,jM,nT,HB⟩:=hrel
  cases gk with
  |zero=>exact absurd HA.out (by simp[aU.l0])
  |succ k1=>
   have H:=HA.out;clear HA;simp only[aU.l0]at H;have HC7:=ak H;clear H;go_upto_region 5 with(fail)
   go_cut [19] (fun v19 wc=>∃(kq:Nat) (akZ:Bool),v19= .bool akZ∧ay (aU.j1 kq l0 a1 iJ ng jm l9 akZ=some (r1,r2))∧ay (kq≤k1)∧ay (Kd.S (Kd.slice 9 Kd.string) 23 wc w.heap.size (fun k_=>some k_≠(u7:Value).ownBlock) u6 iJ)∧ay (Kd.R Kd.string 9 wc w.heap.size (fun _=>True) u7 ng)∧ay (Below w.heap.size w wc))
   case first=>
    have H:=HC7.out;clear HC7;replace H:=sd H;rcases H with⟨rV,H⟩|⟨rV,H⟩
    ·(first|rw[rV]|(simp only[bf,bD];rw[rV])|skip);replace H:=bd H;obtain⟨apP,A9,H⟩:=H;have H':=ak H;clear H;go_wp2_with (first|(go_at_call 119;(with_reducible refine(dB.calls k1 a1 apP _ A9.out).mono ?_);rintro e w' ⟨rfl,⟨nd,rfl⟩⟩))
     go_meet
     case rel=>exact⟨_,(apP),rs,H',⟨by have:=iM.out;first|omega|exact Nat.le_refl _⟩,⟨by(with_reducible repeat(first|apply Kd.dH|apply Kd.dI|apply Kd.eH));exact jM.out⟩,⟨ur nT.out⟩,⟨ul HB.out⟩⟩
    ·(first|rw[rV]|(simp only[bf,bD];rw[rV])|skip);have H':=ak H;clear H;go_wp2;go_meet
     case rel=>exact⟨_,(false),rs,H',⟨by have:=iM.out;first|omega|exact Nat.le_refl _⟩,⟨by(with_reducible repeat(first|apply Kd.dH|apply Kd.dI|apply Kd.eH));exact jM.out⟩,⟨ur nT.out⟩,⟨ul HB.out⟩⟩
   case rest=>
    clear HC7;try clear p2
    try clear c8
    try clear rV
    try clear p2
    obtain⟨kq,akZ,rfl,HA,HJ6,jM,nT,HB⟩:=hcut
    cases kq with
    |zero=>exact absurd HA.out (by simp[aU.j1])
    |succ kj6=>
     have H:=HA.out;clear HA;simp only[aU.j1]at H;replace H:=sb H;rcases H with⟨rfl,H⟩|⟨rfl,H⟩
     ·replace H:=oL H;obtain⟨yC,H⟩:=H;replace H:=oL H;obtain⟨wG,H⟩:=H;replace H:=nn H;obtain⟨c13,H⟩:=H;have vJ:=eq_true c13;have BP:=decide_eq_true c13;try have acY:(9223372036854775807<2+a1.size)=False:=eq_false (Nat.not_lt.2 c13)
      replace H:=sq H;rcases H with⟨tH,xq,H⟩|⟨c14,tH,xq,H⟩
      ·replace H:=sb H;rcases H with⟨rfl,H⟩|⟨rfl,H⟩
       ·replace H:=nl H;obtain⟨aj7,H⟩:=H;obtain⟨aIe,atc⟩:=nm (iJ++[ng]);rw[←atc.out]at H
        (try rw[Option.bind_some]at H);obtain⟨aIf,ak0⟩:=nm ([]:List ByteArray);rw[←ak0.out]at H
        (try rw[Option.bind_some]at H);have H':=ak H;clear H;have V7:=zi l9;have V8:=zj l9 l0.length;obtain⟨acZ,ak1,EF⟩:=dY HR0.out l9 V7 V8;cases ak1;replace EF:=cl HB.out EF;replace V7:=eq_true V7;replace V8:=eq_true V8;obtain⟨O7,O8,ajS⟩:=bW nT.out;subst ajS;go_wp2_with (first|((with_reducible refine bM (b:= .append) (xs:=#[.tmp 31, .tmp 33]) rfl ?_);at_builtin;refine FC (Kd.slice 9 Kd.string) (w0:=w) w.heap.size rfl (.tmp 31) (.tmp 33) 74 23 (.slice none 0 0) 24 rfl underlying74 info23 rfl (by decide) (by omega) u6 iJ ng [.slice O7 ng.length O8] (fun _=>True) (fun k_=>some k_=(.slice O7 ng.length O8:Value).ownBlock) rfl rfl ?aP (fun k_ hk_=>((aK (ok':=fun k_=>((fun _=>True)) k_∧some k_≠(u6:Value).ownBlock) (qo (nT.out) (tK jM.out) (by decide)) (fun k_ hk=>⟨trivial,hk.2⟩))).1 k_ hk_.symm) ?aF ?aO ?aB ?aS ?aL ?_;(case aP=>exact X4 (aK (y9 rfl (aK (ok':=fun k_=>((fun _=>True)) k_∧some k_≠(u6:Value).ownBlock) (qo (nT.out) (tK jM.out) (by decide)) (fun k_ hk=>⟨trivial,hk.2⟩))) (fun _ h_=>h_)));(case aB=>exact(ul HB.out));(case aF=>exact(fun _ _=>trivial));(case aO=>exact(by(with_reducible repeat(first|apply Kd.dH|apply Kd.dI|apply Kd.eH));exact jA jM.out (fun k_ hk=>⟨trivial,fun e_=>hk e_⟩)));(case aS=>exact(aA (ul HB.out)));(case aL=>have:=aj7.out;omega);intro aOW w17 ho hb hg hat;rw[←atc.out]at ho;have iE:=ak (hb);have iF:=ak (ho);clear HB;clear jM;clear nT;have HB:=iE;have ak2:=iF;clear iE iF;clear ho hb hg hat)|((with_reducible refine bG (N:=35) rfl ?_);refine nD Kd.string _ 9 ?hg (N:=35) ?hd (xs:=([]:List ByteArray)) (inner:=[]) (ok:=fun _=>True) (oO:=fun _=>True) ?hr ?hp (fun _ hk=>hk) trivial (Below.refl _ _) (Nat.le_refl _) (by simp) ?_;(case hd=>rfl);(case hg=>rfl);(case hr=>first|(go_simp;done)|(go_simp;rfl));(case hp=>exact(iW.none _ _));intro aOX w19 UD hb oP gY;clear oP gY;(first|rw[←ak0.out]at UD|(simp only[Int.reduceToNat]at UD;rw[←ak0.out]at UD));have azZ:=ak (bQ UD (aA (ul HB.out)));replace ak2:=ak (qU (by(with_reducible repeat(first|apply Kd.dH|apply Kd.dI|apply Kd.eH));exact ak2.out) (iO UD) hb);replace HB:=bs HB hb;clear hb UD))
        go_roundg kj6
        case measure=>have:=iM.out;have:=HJ6.out;omega
        case rel=>exact⟨(aIe),(aIf),(true),(wrap64 (l9+1)),rs,rs,H',⟨by have:=iM.out;have:=HJ6.out;omega⟩,⟨by(with_reducible repeat(first|apply Kd.dH|apply Kd.dI|apply Kd.eH));exact jA ak2.out (fun _ hk=>hk.2)⟩,⟨ur azZ.out⟩,⟨ul HB.out⟩⟩
       ·obtain⟨aIg,ak3⟩:=nm ([]:List ByteArray);rw[←ak3.out]at H
        (try rw[Option.bind_some]at H);have H':=ak H;clear H;have V7:=zi l9;have V8:=zj l9 l0.length;obtain⟨acZ,ak1,EF⟩:=dY HR0.out l9 V7 V8;cases ak1;replace EF:=cl HB.out EF;replace V7:=eq_true V7;replace V8:=eq_true V8;go_wp2_with (first|((with_reducible refine bG (N:=35) rfl ?_);refine nD Kd.string _ 9 ?hg (N:=35) ?hd (xs:=([]:List ByteArray)) (inner:=[]) (ok:=fun _=>True) (oO:=fun _=>True) ?hr ?hp (fun _ hk=>hk) trivial (Below.refl _ _) (Nat.le_refl _) (by simp) ?_;(case hd=>rfl);(case hg=>rfl);(case hr=>first|(go_simp;done)|(go_simp;rfl));(case hp=>exact(iW.none _ _));intro aOY w21 UJ hb oP gY;clear oP gY;(first|rw[←ak3.out]at UJ|(simp only[Int.reduceToNat]at UJ;rw[←ak3.out]at UJ));have az0:=ak (bQ (lu UJ (oK (ur nT.out))) (aA (ul HB.out)));replace jM:=ak (qU (by(with_reducible repeat(first|apply Kd.dH|apply Kd.dI|apply Kd.eH));exact jM.out) (iO UJ) hb);replace nT:=ak (kE (ur nT.out) (iO UJ) hb);replace HB:=bs HB hb;clear hb UJ))
        go_roundg kj6
        case measure=>have:=iM.out;have:=HJ6.out;omega
        case rel=>exact⟨(iJ),(aIg),(true),(wrap64 (l9+1)),rs,rs,H',⟨by have:=iM.out;have:=HJ6.out;omega⟩,⟨by(with_reducible repeat(first|apply Kd.dH|apply Kd.dI|apply Kd.eH));exact jA jM.out (fun _ hk=>hk.2)⟩,⟨ur (aK az0.out (fun _ hk=>trivial))⟩,⟨ul HB.out⟩⟩
      ·have awj:=ak H;clear H;have V7:=zi l9;have V8:=zj l9 l0.length;obtain⟨acZ,ak1,EF⟩:=dY HR0.out l9 V7 V8;cases ak1;replace EF:=cl HB.out EF;replace V7:=eq_true V7;replace V8:=eq_true V8;go_upto_region 12 with(fail)
       go_cut [36] (fun v36 wc=>∃(kq:Nat) (aeI:Bool),v36= .bool aeI∧ay (aU.j2 kq l0 a1 iJ ng jm l9 aeI=some (r1,r2))∧ay (kq≤kj6)∧ay (Kd.S (Kd.slice 9 Kd.string) 23 wc w.heap.size (fun k_=>some k_≠(u7:Value).ownBlock) u6 iJ)∧ay (Kd.R Kd.string 9 wc w.heap.size (fun _=>True) u7 ng)∧ay (Below w.heap.size w wc))
       case first=>
        have H:=awj.out;clear awj;replace H:=nn H;obtain⟨c24,H⟩:=H;have QB:=eq_true c24;have agx:=decide_eq_true c24;try have azj:(9223372036854775807<2+a1.size+2)=False:=by have h_:=(eq_false (Nat.not_lt.2 c24):(9223372036854775807<((⟨#[45,45]⟩:ByteArray)++a1).size+2)=False);simp only[ByteArray.size_append]at h_;exact h_
        try have asU:(9223372036854775807<((⟨#[45,45]⟩:ByteArray)++a1).size+2)=False:=eq_false (Nat.not_lt.2 c24)
        replace H:=sq H;rcases H with⟨Hz,ahe,H⟩|⟨c25,Hz,ahe,H⟩
        ·(first|rw[Hz]|(simp only[bf,bD];rw[Hz])|skip);have H':=ak H;clear H;have ac0:=zi l9;have ac1:=zj l9 l0.length;obtain⟨ak4,awk,Og⟩:=dY HR0.out l9 ac0 ac1;obtain rfl:acZ=ak4:=(by injection awk)
         replace Og:=cl HB.out Og;replace ac0:=eq_true ac0;replace ac1:=eq_true ac1;go_wp2;go_meet
         case rel=>exact⟨_,(jm),rs,H',⟨by have:=iM.out;have:=HJ6.out;first|omega|exact Nat.le_refl _⟩,⟨by(with_reducible repeat(first|apply Kd.dH|apply Kd.dI|apply Kd.eH));exact jM.out⟩,⟨ur nT.out⟩,⟨ul HB.out⟩⟩
        ·(first|rw[Hz]|(simp only[bf,bD];rw[Hz])|skip);have H':=ak H;clear H;have ac0:=zi l9;have ac1:=zj l9 l0.length;obtain⟨ak4,awk,Og⟩:=dY HR0.out l9 ac0 ac1;obtain rfl:acZ=ak4:=(by injection awk)
         replace Og:=cl HB.out Og;replace ac0:=eq_true ac0;replace ac1:=eq_true ac1;go_wp2;go_meet
         case rel=>exact⟨_,(false),rs,H',⟨by have:=iM.out;have:=HJ6.out;first|omega|exact Nat.le_refl _⟩,⟨by(with_reducible repeat(first|apply Kd.dH|apply Kd.dI|apply Kd.eH));exact jM.out⟩,⟨ur nT.out⟩,⟨ul HB.out⟩⟩
       case rest=>
        clear awj;try clear c1
        try clear c2
        try clear p2
        try clear p4
        try clear q4
        try clear hx4
        try clear p6
        try clear c8
        try clear rV
        try clear c10
        try clear c11
        try clear yC
        try clear c12
        try clear wG
        try clear c13
        try clear vJ
        try clear BP
        try clear acY
        try clear c14
        try clear tH
        try clear xq
        try clear c15
        try clear c16
        try clear c24
        try clear QB
        try clear agx
        try clear asU
        try clear c25
        try clear Hz
        try clear ahe
        try clear EF
        try clear Og
        try clear p2
        try clear V7
        try clear ac0
        try clear V8
        try clear ac1
        obtain⟨kq,aeI,rfl,HA,apQ,jM,nT,HB⟩:=hcut
        cases kq with
        |zero=>exact absurd HA.out (by simp[aU.j2])
        |succ az1=>
         have H:=HA.out;clear HA;simp only[aU.j2]at H;replace H:=sb H;rcases H with⟨rfl,H⟩|⟨rfl,H⟩
         ·replace H:=nl H;obtain⟨ac2,H⟩:=H;obtain⟨aOZ,atd⟩:=nm (iJ++[ng]);rw[←atd.out]at H
          (try rw[Option.bind_some]at H);simp only[Option.some.injEq,Prod.mk.injEq]at H;obtain⟨rfl,rfl⟩:=H;obtain⟨az2,az3,aIh⟩:=bW nT.out;subst aIh;go_wp2_with (first|((with_reducible refine bM (b:= .append) (xs:=#[.tmp 48, .tmp 50]) rfl ?_);at_builtin;refine FC (Kd.slice 9 Kd.string) (w0:=w) w.heap.size rfl (.tmp 48) (.tmp 50) 74 23 (.slice none 0 0) 24 rfl underlying74 info23 rfl (by decide) (by omega) u6 iJ ng [.slice az2 ng.length az3] (fun _=>True) (fun k_=>some k_=(.slice az2 ng.length az3:Value).ownBlock) rfl rfl ?aP (fun k_ hk_=>((aK (ok':=fun k_=>((fun _=>True)) k_∧some k_≠(u6:Value).ownBlock) (qo (nT.out) (tK jM.out) (by decide)) (fun k_ hk=>⟨trivial,hk.2⟩))).1 k_ hk_.symm) ?aF ?aO ?aB ?aS ?aL ?_;(case aP=>exact X4 (aK (y9 rfl (aK (ok':=fun k_=>((fun _=>True)) k_∧some k_≠(u6:Value).ownBlock) (qo (nT.out) (tK jM.out) (by decide)) (fun k_ hk=>⟨trivial,hk.2⟩))) (fun _ h_=>h_)));(case aB=>exact(ul HB.out));(case aF=>exact(fun _ _=>trivial));(case aO=>exact(by(with_reducible repeat(first|apply Kd.dH|apply Kd.dI|apply Kd.eH));exact jA jM.out (fun k_ hk=>⟨trivial,fun e_=>hk e_⟩)));(case aS=>exact(aA (ul HB.out)));(case aL=>have:=ac2.out;omega);intro aO0 w28 ho hb hg hat;rw[←atd.out]at ho;have iE:=ak (hb);have iF:=ak (ho);clear HB;clear jM;clear nT;have HB:=iE;have az4:=iF;clear iE iF;clear ho hb hg hat))
          go_ret2;exact⟨_,er,by(with_reducible repeat(first|apply Kd.dH|apply Kd.dI|apply Kd.eH));exact az4.out,ul HB.out⟩
         ·replace H:=sb H;rcases H with⟨rfl,H⟩|⟨rfl,H⟩
          ·replace H:=oL H;obtain⟨az5,H⟩:=H;replace H:=oL H;obtain⟨acU,H⟩:=H;replace H:=nl H;obtain⟨az6,H⟩:=H;obtain⟨aIi,ate⟩:=nm (ng++[f_ ByteArray.empty l0 l9]);rw[←ate.out]at H
           (try rw[Option.bind_some]at H);have H':=ak H;clear H;have awl:=zi l9;have awm:=zj l9 l0.length;obtain⟨az7,aIj,ahf⟩:=dY HR0.out l9 awl awm;obtain rfl:acZ=az7:=(by injection aIj)
           replace ahf:=cl HB.out ahf;replace awl:=eq_true awl;replace awm:=eq_true awm;go_wp2_with (first|((with_reducible refine bM (b:= .append) (xs:=#[.tmp 54, .tmp 59]) rfl ?_);at_builtin;refine iT Kd.string (w0:=w) w.heap.size rfl (.tmp 54) (.tmp 59) 23 9 (.string ⟨#[]⟩) 16 rfl underlying23 info9 rfl (by decide) (by omega) u7 ng (f_ ByteArray.empty l0 l9) [.string (f_ ByteArray.empty l0 l9)] (fun _=>True) (fun _=>False) rfl rfl ?aP (fun _ hk=>hk.elim) ?aF ?aO ?aB ?aS ?aL ?_;(case aP=>exact rfl);(case aB=>exact(ul HB.out));(case aF=>exact(fun _ _=>trivial));(case aO=>exact(ur nT.out));(case aS=>exact(aA (ul HB.out)));(case aL=>have:=az6.out;omega);intro aO1 w34 ho hb hg hat;rw[←ate.out]at ho;have iE:=ak (W_ (ok:=(fun _=>True)) (by(with_reducible repeat(first|apply Kd.dH|apply Kd.dI|apply Kd.eH));exact jA jM.out (fun _ hk=>⟨trivial,hk⟩)) hg hat);have iF:=ak (hb);have lD:=ak (ho);clear jM;clear HB;clear nT;have jM:=iE;have HB:=iF;have az8:=lD;clear iE iF lD;clear ho hb hg hat))
           go_roundg az1
           case measure=>have:=iM.out;have:=HJ6.out;have:=apQ.out;omega
           case rel=>exact⟨(iJ),(aIi),(true),(wrap64 (l9+1)),rs,rs,H',⟨by have:=iM.out;have:=HJ6.out;have:=apQ.out;omega⟩,⟨by(with_reducible repeat(first|apply Kd.dH|apply Kd.dI|apply Kd.eH));exact jA jM.out (fun _ hk=>hk.2)⟩,⟨ur az8.out⟩,⟨ul HB.out⟩⟩
          ·have H':=ak H;clear H;go_wp2;go_roundg az1
           case measure=>have:=iM.out;have:=HJ6.out;have:=apQ.out;omega
           case rel=>exact⟨(iJ),(ng),(false),(wrap64 (l9+1)),rs,rs,H',⟨by have:=iM.out;have:=HJ6.out;have:=apQ.out;omega⟩,⟨by(with_reducible repeat(first|apply Kd.dH|apply Kd.dI|apply Kd.eH));exact jM.out⟩,⟨ur nT.out⟩,⟨ul HB.out⟩⟩
     ·obtain⟨aO2,ak5⟩:=nm ([]:List (List ByteArray));rw[←ak5.out]at H
      (try rw[Option.bind_some]at H);simp only[Option.some.injEq,Prod.mk.injEq]at H;obtain⟨rfl,rfl⟩:=H;go_wp2_with (first|((with_reducible refine bG (N:=61) rfl ?_);refine ZE (Kd.slice 9 Kd.string) _ 23 ?hg (N:=61) ?hd (xs:=([]:List (List ByteArray))) (inner:=[]) (ok:=fun _=>True) (oO:=fun _=>True) ?hr ?hp (fun _ hk=>hk) trivial (Below.refl _ _) (Nat.le_refl _) (by simp) ?_;(case hd=>rfl);(case hg=>rfl);(case hr=>first|(go_simp;done)|(go_simp;rfl));(case hp=>exact(iW.none _ _));intro aO3 w35 aiU hb oP gY;clear oP gY;(first|rw[←ak5.out]at aiU|(simp only[Int.reduceToNat]at aiU;rw[←ak5.out]at aiU));have az9:=ak (qZ (F6 (F6 aiU (ajK (by(with_reducible repeat(first|apply Kd.dH|apply Kd.dI|apply Kd.eH));exact jM.out))) (oK (ur nT.out))) (aA (ul HB.out)));replace jM:=ak (qU (by(with_reducible repeat(first|apply Kd.dH|apply Kd.dI|apply Kd.eH));exact jM.out) (aa2 aiU) hb);replace nT:=rb nT hb;replace HB:=bs HB hb;clear hb aiU))
      go_ret2;exact⟨_,er,by(with_reducible repeat(first|apply Kd.dH|apply Kd.dI|apply Kd.eH));exact jA az9.out (fun _ hk=>trivial),ul HB.out⟩
def dU.l0:Nat→List (List ByteArray)→List (List ByteArray)→Int→Int→Option ((List (List ByteArray)))
 |0,_,_,_,_=>none
 |k+1,x3,x7,x8,x9=>if x9<x8 then(if 0≤x9 then(if x9<(x7.length:Int)then((some (([]:List ByteArray):List ByteArray)).bind fun ak6=>(if ak6.length+(kM x7 x9).length<8796093022208 then(if x3.length<5864062014805 then(dU.l0 k (x3++[(ak6++(kM x7 x9))]) x7 x8 (wrap64 (x9+1)))else(none))else(none)))else(none))else(none))else(some x3)
def dU.f(k:Nat)(l0:List (List ByteArray)):Option ((List (List ByteArray))):=dU.l0 k (([]:List (List ByteArray))) l0 (l0.length:Int) 0
set_option maxHeartbeats 8000000 in
set_option maxRecDepth 100000 in
theorem dU.calls(k:Nat)(A0:Option Addr)(c0:Nat)(l0:List (List ByteArray))(r:List (List ByteArray))(w:World)(hr0:Kd.C (Kd.slice 9 Kd.string) w A0 l0.length l0)(hc0:l0.length≤c0)(h:dU.f k l0=some r):
  Calls Tryz.prog 84 #[.slice A0 l0.length c0] w fun e w'=>∃sZ:Value,e= .returned (sZ)∧Kd.S (Kd.slice 9 Kd.string) 23 w' w.heap.size (fun _=>True) sZ r∧Below w.heap.size w w':=by
 have HR0:=ak hr0;have sK:=ak hc0;clear hr0 hc0;have HB:=ak (Below.refl w.heap.size w);have H:(dU.l0 k (([]:List (List ByteArray))) l0 (l0.length:Int) 0)=some r:=h;clear h;obtain⟨aIk,ak7⟩:=nm ([]:List (List ByteArray));rw[←ak7.out]at H
 (try rw[Option.bind_some]at H);have H':=ak H;clear H;go_enter func84,ntmps84;go_wp2_with (first|((with_reducible refine bG (N:=6) rfl ?_);refine ZE (Kd.slice 9 Kd.string) _ 23 ?hg (N:=6) ?hd (xs:=([]:List (List ByteArray))) (inner:=[]) (ok:=fun _=>True) (oO:=fun _=>True) ?hr ?hp (fun _ hk=>hk) trivial (Below.refl _ _) (Nat.le_refl _) (by simp) ?_;(case hd=>rfl);(case hg=>rfl);(case hr=>first|(go_simp;done)|(go_simp;rfl));(case hp=>exact(iW.none _ _));intro aO4 w2 ho3 hb oP gY;clear oP gY;(first|rw[←ak7.out]at ho3|(simp only[Int.reduceToNat]at ho3;rw[←ak7.out]at ho3));have az_:=ak (qZ ho3 (aA (ul HB.out)));replace HB:=bs HB hb;clear hb ho3))
 go_loopg [3,9] k (fun kq v3 v9 w'=>∃(dS:List (List ByteArray)) (l9:Int),v9= .int .i64 l9∧ay (dU.l0 kq dS l0 (l0.length:Int) l9=some r)∧ay (kq≤k)∧ay (Kd.S (Kd.slice 9 Kd.string) 23 w' w.heap.size (fun _=>True) v3 dS)∧ay (Below w.heap.size w w'))
 case atStart=>exact⟨(aIk),(0),rs,H',⟨Nat.le_refl _⟩,⟨by(with_reducible repeat(first|apply Kd.dH|apply Kd.dI|apply Kd.eH));exact az_.out⟩,⟨ul HB.out⟩⟩
 case round=>
  clear H';try clear p2
  obtain⟨dS,l9,rfl,HA,iM,nP,HB⟩:=hrel
  cases gk with
  |zero=>exact absurd HA.out (by simp[dU.l0])
  |succ k1=>
   have H:=HA.out;clear HA;simp only[dU.l0]at H;replace H:=sd H;rcases H with⟨oG,H⟩|⟨oG,H⟩
   ·replace H:=oL H;obtain⟨o_,H⟩:=H;replace H:=oL H;obtain⟨mG,H⟩:=H;obtain⟨ak6,ak8⟩:=nm ([]:List ByteArray);rw[←ak8.out]at H
    (try rw[Option.bind_some]at H);replace H:=nl H;obtain⟨avr,H⟩:=H;obtain⟨apR,atf⟩:=nm (ak6++(kM l0 l9));rw[←atf.out]at H
    (try rw[Option.bind_some]at H);replace H:=nl H;obtain⟨avj,H⟩:=H;obtain⟨aIl,atg⟩:=nm (dS++[apR]);rw[←atg.out]at H
    (try rw[Option.bind_some]at H);have H':=ak H;clear H;have awn:=zi l9;have awo:=zj l9 l0.length;obtain⟨aLm,aIm,aIn,aIo,ahg,ahh,ahi⟩:=FB HR0.out l9 awn awo;cases aIo;replace ahg:=cl HB.out ahg;have apS:=ak ahi;have aEL:=ak ahh;clear ahi ahh;replace awn:=eq_true awn;replace awo:=eq_true awo;go_wp2_with (first|((with_reducible refine bG (N:=14) rfl ?_);refine nD Kd.string _ 9 ?hg (N:=14) ?hd (xs:=([]:List ByteArray)) (inner:=[]) (ok:=fun _=>True) (oO:=fun _=>True) ?hr ?hp (fun _ hk=>hk) trivial (Below.refl _ _) (Nat.le_refl _) (by simp) ?_;(case hd=>rfl);(case hg=>rfl);(case hr=>first|(go_simp;done)|(go_simp;rfl));(case hp=>exact(iW.none _ _));intro aIp w9 aiV hb oP gY;clear oP gY;(first|rw[←ak8.out]at aiV|(simp only[Int.reduceToNat]at aiV;rw[←ak8.out]at aiV));have ath:=ak (bQ aiV (aA (ul HB.out)));replace nP:=ak (qU (by(with_reducible repeat(first|apply Kd.dH|apply Kd.dI|apply Kd.eH));exact nP.out) (iO aiV) hb);replace HB:=bs HB hb;clear hb aiV)|((with_reducible refine bM (b:= .append) (xs:=#[.tmp 14, .tmp 15]) rfl ?_);at_builtin;refine nO Kd.string (w0:=w) w.heap.size rfl (.tmp 14) (.tmp 15) 23 9 (.string ⟨#[]⟩) 16 rfl underlying23 info9 rfl (by decide) (by omega) aIp ak6 (kM l0 l9) _ _ _ (fun _=>True) (fun _=>False) rfl rfl ?aO ?aR (fun _ _ h=>h) (fun _ h=>h.elim) ?aF ?aB ?aS ?aL ?_;(case aR=>repeat(first|exact(aT apS.out HB.out)|(with_reducible refine Kd.fP ?_ _)|(with_reducible refine Kd.fQ ?_ _)|(with_reducible refine Kd.iR ?_)));(case aB=>exact(ul HB.out));(case aF=>exact(fun _ _=>trivial));(case aO=>exact(ur ath.out));(case aS=>exact(aA (ul HB.out)));(case aL=>have:=avr.out;omega);intro aO5 Uy ho hb hg hat;rw[←atf.out]at ho;have iE:=ak (W_ (ok:=(fun _=>True)) (by(with_reducible repeat(first|apply Kd.dH|apply Kd.dI|apply Kd.eH));exact nP.out) hg hat);have iF:=ak (hb);have lD:=ak (ho);clear nP;clear HB;clear ath;have nP:=iE;have HB:=iF;have ahj:=lD;clear iE iF lD;clear ho hb hg hat;obtain⟨uf,qh,Pg⟩:=bW ahj.out;subst Pg)|((with_reducible refine bM (b:= .append) (xs:=#[.tmp 13, .tmp 17]) rfl ?_);at_builtin;refine FC (Kd.slice 9 Kd.string) (w0:=w) w.heap.size rfl (.tmp 13) (.tmp 17) 74 23 (.slice none 0 0) 24 rfl underlying74 info23 rfl (by decide) (by omega) u3 dS apR [.slice uf apR.length qh] (fun _=>True) (fun k_=>some k_=(.slice uf apR.length qh:Value).ownBlock) rfl rfl ?aP (fun k_ hk_=>((aK (ok':=fun k_=>((fun _=>True)) k_∧some k_≠(u3:Value).ownBlock) (qo (ahj.out) (tK nP.out) (by decide)) (fun k_ hk=>⟨trivial,hk.2⟩))).1 k_ hk_.symm) ?aF ?aO ?aB ?aS ?aL ?_;(case aP=>exact X4 (aK (y9 rfl (aK (ok':=fun k_=>((fun _=>True)) k_∧some k_≠(u3:Value).ownBlock) (qo (ahj.out) (tK nP.out) (by decide)) (fun k_ hk=>⟨trivial,hk.2⟩))) (fun _ h_=>h_)));(case aB=>exact(ul HB.out));(case aF=>exact(fun _ _=>trivial));(case aO=>exact(by(with_reducible repeat(first|apply Kd.dH|apply Kd.dI|apply Kd.eH));exact jA nP.out (fun k_ hk=>⟨trivial,fun e_=>hk.2 e_⟩)));(case aS=>exact(aA (ul HB.out)));(case aL=>have:=avj.out;omega);intro aO6 w12 ho hb hg hat;rw[←atg.out]at ho;have iE:=ak (hb);have iF:=ak (ho);clear HB;clear nP;clear ahj;have HB:=iE;have aAa:=iF;clear iE iF;clear ho hb hg hat))
    go_roundg k1
    case measure=>have:=iM.out;omega
    case rel=>exact⟨(aIl),(wrap64 (l9+1)),rs,H',⟨by have:=iM.out;omega⟩,⟨by(with_reducible repeat(first|apply Kd.dH|apply Kd.dI|apply Kd.eH));exact aAa.out⟩,⟨ul HB.out⟩⟩
   ·obtain rfl:=Option.some.inj H;go_wp2;go_ret;exact⟨_,er,by(with_reducible repeat(first|apply Kd.dH|apply Kd.dI|apply Kd.eH));exact nP.out,ul HB.out⟩
def qP.f(k:Nat)(l0:List ByteArray)(a1:ByteArray):Option ((List (List ByteArray))×Bool):=(aU.f k l0 a1).bind fun ac3=>((dU.f k ac3.1).bind fun ak9=>(some (ak9,ac3.2)))
set_option maxHeartbeats 8000000 in
set_option maxRecDepth 100000 in
theorem qP.calls(k:Nat)(A0:Option Addr)(c0:Nat)(l0:List ByteArray)(a1:ByteArray)(r1:List (List ByteArray))(r2:Bool)(w:World)(hr0:Kd.C Kd.string w A0 l0.length l0)(hc0:l0.length≤c0)(h:qP.f k l0 a1=some (r1,r2)):
  Calls Tryz.prog 59 #[.slice A0 l0.length c0, .string a1] w fun e w'=>∃sZ:Value,e= .returned (.tuple #[sZ, .bool r2])∧Kd.S (Kd.slice 9 Kd.string) 23 w' w.heap.size (fun _=>True) sZ r1∧Below w.heap.size w w':=by
 have HR0:=ak hr0;have sK:=ak hc0;clear hr0 hc0;have HB:=ak (Below.refl w.heap.size w);have H:((aU.f k l0 a1).bind fun ac3=>((dU.f k ac3.1).bind fun ak9=>(some (ak9,ac3.2))))=some (r1,r2):=h;clear h;replace H:=bd H;obtain⟨⟨awp,aIq⟩,A3,H⟩:=H
 (try dsimp only at H);replace H:=bd H;obtain⟨ak9,A4,H⟩:=H;simp only[Option.some.injEq,Prod.mk.injEq]at H;obtain⟨rfl,rfl⟩:=H;go_enter func59,ntmps59;go_wp2_with (first|(refine gL 83 11 func83 #[.slice A0 l0.length c0, .string a1] ?_;(with_reducible refine(aU.calls k _ _ l0 a1 awp aIq _ (cu HR0.out) sK.out A3.out).mono ?_);rintro e w5 ⟨aO7,rfl,ho0,hb⟩;refine⟨_,rfl,?_⟩;have ZI:=ak (qZ ho0 (aA (ul HB.out)));replace HB:=bs HB hb;(try clear hb);(try clear ho0);obtain⟨Ao6,co6,eo6⟩:=qm ZI.out;subst eo6)|(refine gL 84 15 func84 #[.slice Ao6 awp.length co6] ?_;(with_reducible refine(dU.calls k _ _ awp ak9 _ (cu ((lT ZI.out).2.2)) ((lT ZI.out).2.1) A4.out).mono ?_);rintro e w7 ⟨aO8,rfl,ho0,hb⟩;refine⟨_,rfl,?_⟩;have aAb:=ak (qZ (F6 ho0 (ajK (by(with_reducible repeat(first|apply Kd.dH|apply Kd.dI|apply Kd.eH));exact ZI.out))) (aA (ul HB.out)));replace ZI:=ak (qU (by(with_reducible repeat(first|apply Kd.dH|apply Kd.dI|apply Kd.eH));exact ZI.out) (aa2 ho0) hb);replace HB:=bs HB hb;(try clear hb);(try clear ho0)))
 go_ret2;exact⟨_,er,by(with_reducible repeat(first|apply Kd.dH|apply Kd.dI|apply Kd.eH));exact jA aAb.out (fun _ hk=>trivial),ul HB.out⟩
end Go.Proofs.YtdimppdlfgnhgaaGreatDoor.PFnExactParsePart
