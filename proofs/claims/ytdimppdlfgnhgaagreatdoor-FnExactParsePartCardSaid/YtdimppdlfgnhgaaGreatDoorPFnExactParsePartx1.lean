/- Printed walks; conditions: those in each statement. -/
import Derived.Test.YtdimppdlfgnhgaaGreatDoorVFnExactParsePartQt
import Derived.Test.YtdimppdlfgnhgaaGreatDoorVFnExactParsePartYt
import Derived.Test.YtdimppdlfgnhgaaGreatDoorPFnExactParsePartx0
import Derived.Test.YtdimppdlfgnhgaaGreatDoorPFnExactParsePartx20
namespace Go.Proofs.YtdimppdlfgnhgaaGreatDoor.PFnExactParsePart
open Go.Proofs.YtdimppdlfgnhgaaGreatDoorW.eP.Kd Go.Proofs.YtdimppdlfgnhgaaGreatDoorW.mX.Kd Go.Proofs.Tryz Go.RowKit Go.Proofs.YtdimppdlfgnhgaaGreatDoor.X Go.Proofs.YtdimppdlfgnhgaaGreatDoorW.eP Go.Proofs.YtdimppdlfgnhgaaGreatDoorW.lF Go.Proofs.YtdimppdlfgnhgaaGreatDoorW.mX
attribute [local go_sem] uP uQ xQ xR rE rG uS uT   -- for this text's walks alone
set_option linter.unusedVariables false
set_option linter.unusedSimpArgs false
set_option maxHeartbeats 8000000
set_option maxRecDepth 100000
def gZ.l0:Nat→List ByteArray→List ByteArray→Int→Option (Bool)
 |0,_,_,_=>none
 |k+1,x0,x1,x5=>if x5<(x0.length:Int)then(if 0≤x5 then(if x5<(x1.length:Int)then(if(f_ ByteArray.empty x0 x5).toList=(f_ ByteArray.empty x1 x5).toList then(gZ.l0 k x0 x1 (wrap64 (x5+1)))else(some false))else(none))else(none))else(some true)
def gZ.f(k:Nat)(l0:List ByteArray)(l1:List ByteArray):Option (Bool):=if(l0.length:Int)=(l1.length:Int)then(gZ.l0 k l0 l1 0)else(some false)
set_option maxHeartbeats 8000000 in
set_option maxRecDepth 100000 in
theorem gZ.calls(k:Nat)(A0:Option Addr)(c0:Nat)(l0:List ByteArray)(A1:Option Addr)(c1:Nat)(l1:List ByteArray)(r:Bool)(w:World)(hr0:Kd.C Kd.string w A0 l0.length l0)(hc0:l0.length≤c0)(hr1:Kd.C Kd.string w A1 l1.length l1)(hc1:l1.length≤c1)(h:gZ.f k l0 l1=some r):
  Calls Tryz.prog 19 #[.slice A0 l0.length c0, .slice A1 l1.length c1] w fun e w'=>e= .returned (.bool r)∧fZ w w':=by
 have HR0:=ak hr0;have sK:=ak hc0;clear hr0 hc0;have HR1:=ak hr1;have HC1:=ak hc1;clear hr1 hc1;have H:(if(l0.length:Int)=(l1.length:Int)then(gZ.l0 k l0 l1 0)else(some false))=some r:=h;clear h;replace H:=sp H;rcases H with⟨c3,H⟩|⟨c3,H⟩
 ·have iK:=beq_iff_eq.mpr c3;have xW:=bne_eq_false_iff_eq.mpr c3;have VX:(l0.length==l1.length)=true:=by first|simpa using c3|(simp at c3⊢;omega)
  clear c3;have H':=ak H;clear H;go_enter func19,ntmps19;go_wp2;repeat(go_quiet (fail);try go_wp2)
  go_loopg [5] k (fun kq v5 w'=>∃(aQ:Int),v5= .int .i64 aQ∧ay (gZ.l0 kq l0 l1 aQ=some r)∧ay (kq≤k)∧fZ w w')
  case atStart=>exact⟨(0),rs,H',⟨Nat.le_refl _⟩,dn⟩
  case round=>
   clear H';try clear c1
   try clear p2
   try clear c3
   try clear iK
   try clear xW
   try clear VX
   obtain⟨aQ,rfl,HA,iM,⟨m1,rfl⟩⟩:=hrel
   cases gk with
   |zero=>exact absurd HA.out (by simp[gZ.l0])
   |succ k1=>
    have H:=HA.out;clear HA;simp only[gZ.l0]at H;replace H:=sd H;rcases H with⟨oG,H⟩|⟨oG,H⟩
    ·replace H:=oL H;obtain⟨o_,H⟩:=H;replace H:=oL H;obtain⟨mG,H⟩:=H;replace H:=sq H;rcases H with⟨qp,D_,H⟩|⟨c7,qp,D_,H⟩
     ·have H':=ak H;clear H;have Pm:=zi aQ;have Pn:=zj aQ l0.length;obtain⟨Jp,aed,Aj⟩:=dY HR0.out aQ Pm Pn;cases aed;replace Pm:=eq_true Pm;replace Pn:=eq_true Pn;have Po:=zi aQ;have Pq:=zj aQ l1.length;obtain⟨Jq,aee,Ak⟩:=dY HR1.out aQ Po Pq;cases aee;replace Po:=eq_true Po;replace Pq:=eq_true Pq;go_wp2;repeat(go_quiet (fail);try go_wp2)
      go_roundg k1
      case measure=>have:=iM.out;omega
      case rel=>exact⟨(wrap64 (aQ+1)),rs,H',⟨by have:=iM.out;omega⟩,dn⟩
     ·obtain rfl:=Option.some.inj H;have Pm:=zi aQ;have Pn:=zj aQ l0.length;obtain⟨Jp,aed,Aj⟩:=dY HR0.out aQ Pm Pn;cases aed;replace Pm:=eq_true Pm;replace Pn:=eq_true Pn;have Po:=zi aQ;have Pq:=zj aQ l1.length;obtain⟨Jq,aee,Ak⟩:=dY HR1.out aQ Po Pq;cases aee;replace Po:=eq_true Po;replace Pq:=eq_true Pq;go_wp2;repeat(go_quiet (fail);try go_wp2)
      go_ret;exact⟨rs,dn⟩
    ·obtain rfl:=Option.some.inj H;go_wp2;repeat(go_quiet (fail);try go_wp2)
     go_ret;exact⟨rs,dn⟩
 ·have iK:=beq_eq_false_iff_ne.mpr c3;have xW:=bne_iff_ne.mpr c3;have VX:(l0.length==l1.length)=false:=by first|simpa using c3|(simp at c3⊢;omega)
  obtain rfl:=Option.some.inj H;go_enter func19,ntmps19;go_wp2;repeat(go_quiet (fail);try go_wp2)
  go_ret;exact⟨rs,dn⟩
def xX.f(bT:ByteArray)(cZ:ByteArray)(xg:ByteArray)(acH:ByteArray):Option (Bool):=if bT.toList=xg.toList then(if cZ.toList=acH.toList then(some true)else(some false))else(some false)
set_option maxHeartbeats 8000000 in
set_option maxRecDepth 100000 in
theorem xX.calls(bT:ByteArray)(cZ:ByteArray)(xg:ByteArray)(acH:ByteArray)(r:Bool)(w:World)(h:xX.f bT cZ xg acH=some r):
  Calls Tryz.prog 47 #[.agg #[.string bT, .string cZ], .agg #[.string xg, .string acH]] w fun e w'=>e= .returned (.bool r)∧Below w.heap.size w w':=by
 have Jo:=underlying63;have HB:=ak (Below.refl w.heap.size w);have H:(if bT.toList=xg.toList then(if cZ.toList=acH.toList then(some true)else(some false))else(some false))=some r:=h;clear h;replace H:=sq H;rcases H with⟨iK,xW,H⟩|⟨c3,iK,xW,H⟩
 ·replace H:=sq H;rcases H with⟨oG,VY,H⟩|⟨c4,oG,VY,H⟩
  ·obtain rfl:=Option.some.inj H;go_enter func47,ntmps47;go_wp2_with (first|(refine bE 2 #[.string bT, .string cZ] 63 ?_;intro VD hg w5 hbox hb;have Di:=ak (hbox);have asB:=lq HB hg;have asC:=lq HB hg;replace HB:=bs HB hb;clear hb hbox hg)|(refine bE 3 #[.string xg, .string acH] 63 ?_;intro H6 hg w6 hbox hb;have acI:=ak (hbox);have asD:=ak ((by rw[hg];exact(aA bb):w.heap.size≤H6));have asE:=ak ((by rw[hg];exact(aA bb):w.heap.size≤H6));have Jr:=ak ((by rw[hg];exact Nat.ne_of_lt (dR (ub Di.out)):VD≠H6));have Js:=ak ((by rw[hg];exact Nat.ne_of_gt (dR (ub Di.out)):H6≠VD));replace Di:=kb Di hb;replace HB:=ak (aC bb hb);clear hb hbox hg;have aNY:=Jr.out;have aNZ:=Js.out;obtain⟨Cb,IZ,Cc,I4⟩:=Ah Di.out;obtain⟨xu,xw,xA,xB⟩:=Ah acI.out))
   go_ret;exact⟨er,bb⟩
  ·obtain rfl:=Option.some.inj H;go_enter func47,ntmps47;go_wp2_with (first|(refine bE 2 #[.string bT, .string cZ] 63 ?_;intro VD hg w10 hbox hb;have Di:=ak (hbox);have asB:=lq HB hg;have asC:=lq HB hg;replace HB:=bs HB hb;clear hb hbox hg)|(refine bE 3 #[.string xg, .string acH] 63 ?_;intro H6 hg Uy hbox hb;have acI:=ak (hbox);have asD:=ak ((by rw[hg];exact(aA bb):w.heap.size≤H6));have asE:=ak ((by rw[hg];exact(aA bb):w.heap.size≤H6));have Jr:=ak ((by rw[hg];exact Nat.ne_of_lt (dR (ub Di.out)):VD≠H6));have Js:=ak ((by rw[hg];exact Nat.ne_of_gt (dR (ub Di.out)):H6≠VD));replace Di:=kb Di hb;replace HB:=ak (aC bb hb);clear hb hbox hg;have aKX:=Jr.out;have aKY:=Js.out;obtain⟨uI,uJ,uK,uM⟩:=Ah Di.out;obtain⟨QC,QD,QE,QF⟩:=Ah acI.out))
   go_ret;exact⟨er,bb⟩
 ·obtain rfl:=Option.some.inj H;go_enter func47,ntmps47;go_wp2_with (first|(refine bE 2 #[.string bT, .string cZ] 63 ?_;intro VD hg w15 hbox hb;have Di:=ak (hbox);have asB:=lq HB hg;have asC:=lq HB hg;replace HB:=bs HB hb;clear hb hbox hg)|(refine bE 3 #[.string xg, .string acH] 63 ?_;intro H6 hg w16 hbox hb;have acI:=ak (hbox);have asD:=ak ((by rw[hg];exact(aA bb):w.heap.size≤H6));have asE:=ak ((by rw[hg];exact(aA bb):w.heap.size≤H6));have Jr:=ak ((by rw[hg];exact Nat.ne_of_lt (dR (ub Di.out)):VD≠H6));have Js:=ak ((by rw[hg];exact Nat.ne_of_gt (dR (ub Di.out)):H6≠VD));replace Di:=kb Di hb;replace HB:=ak (aC bb hb);clear hb hbox hg;have ayU:=Jr.out;have ayV:=Js.out;obtain⟨wH,wI,wJ,wK⟩:=Ah Di.out;obtain⟨aot,aou,aov,aow⟩:=Ah acI.out))
  go_ret;exact⟨er,bb⟩
def gu.l0:Nat→List (gI)→List (gI)→Int→Option (Bool)
 |0,_,_,_=>none
 |k+1,x0,x1,x5=>if x5<(x0.length:Int)then(if 0≤x5 then(if x5<(x1.length:Int)then((xX.f ((aG x0 x5).f0) ((aG x0 x5).f1) ((aG x1 x5).f0) ((aG x1 x5).f1)).bind fun t107=>(if t107=true then(gu.l0 k x0 x1 (wrap64 (x5+1)))else(some false)))else(none))else(none))else(some true)
def gu.f(k:Nat)(l0:List (gI))(l1:List (gI)):Option (Bool):=if(l0.length:Int)=(l1.length:Int)then(gu.l0 k l0 l1 0)else(some false)
def gu.T6:Bool×List (List Nat×List Nat):=(true,[([],[]),([],[]),([0,1],[0,1]),([2],[2]),([],[]),([],[]),([4,5],[4,5]),([6],[6]),([3,7],[3,7]),([8],[8])])
def gu.B6:List Nat:=[0,0,3,7,0,0,48,112,255,511]
theorem gu.tab6:wo .any (opsOf Tryz.f29 6)=gu.T6:=by kernel_rfl
theorem gu.asF:qJ gu.T6.2 gu.B6=true:=by kernel_rfl
set_option maxHeartbeats 8000000 in
set_option maxRecDepth 100000 in
theorem gu.calls(k:Nat)(A0:Option Addr)(c0:Nat)(l0:List (gI))(A1:Option Addr)(c1:Nat)(l1:List (gI))(r:Bool)(w:World)(hr0:Kd.C oN w A0 l0.length l0)(hc0:l0.length≤c0)(hr1:Kd.C oN w A1 l1.length l1)(hc1:l1.length≤c1)(h:gu.f k l0 l1=some r):
  Calls Tryz.prog 29 #[.slice A0 l0.length c0, .slice A1 l1.length c1] w fun e w'=>e= .returned (.bool r)∧Below w.heap.size w w':=by
 have Jo:=underlying63;have HR0:=ak hr0;have sK:=ak hc0;clear hr0 hc0;have HR1:=ak hr1;have HC1:=ak hc1;clear hr1 hc1;have HB:=ak (Below.refl w.heap.size w);have H:(if(l0.length:Int)=(l1.length:Int)then(gu.l0 k l0 l1 0)else(some false))=some r:=h;clear h;replace H:=sp H;rcases H with⟨c3,H⟩|⟨c3,H⟩
 ·have iK:=beq_iff_eq.mpr c3;have xW:=bne_eq_false_iff_eq.mpr c3;have VX:(l0.length==l1.length)=true:=by first|simpa using c3|(simp at c3⊢;omega)
  clear c3;have H':=ak H;clear H;go_enter func29,ntmps29;go_wp2;go_loopg [5] k (fun kq v5 w'=>∃(aQ:Int),v5= .int .i64 aQ∧ay (gu.l0 kq l0 l1 aQ=some r)∧ay (kq≤k)∧ay (Below w.heap.size w w'))
  case atStart=>exact⟨(0),rs,H',⟨Nat.le_refl _⟩,⟨ul HB.out⟩⟩
  case round=>
   clear H';try clear c1
   try clear c2
   try clear p2
   try clear c3
   try clear iK
   try clear xW
   try clear VX
   obtain⟨aQ,rfl,HA,iM,HB⟩:=hrel
   cases gk with
   |zero=>exact absurd HA.out (by simp[gu.l0])
   |succ k1=>
    have H:=HA.out;clear HA;simp only[gu.l0]at H;replace H:=sd H;rcases H with⟨oG,H⟩|⟨oG,H⟩
    ·replace H:=oL H;obtain⟨o_,H⟩:=H;replace H:=oL H;obtain⟨mG,H⟩:=H;replace H:=bd H;obtain⟨t107,A7,H⟩:=H;replace H:=sb H;rcases H with⟨rfl,H⟩|⟨rfl,H⟩
     ·have H':=ak H;clear H;try go_wp2
      replace HB:=ak (eG HB.out);have aef:=zi aQ;have aeg:=zj aQ l0.length;obtain⟨XA,avs,Ea,Eb⟩:=oC HR0.out aQ aef aeg;have Ec:=Eb;have Ed:=Ea;cases avs;replace Ea:=cl HB.out Ea;replace Eb:=cl HB.out Eb;replace aef:=eq_true aef;replace aeg:=eq_true aeg;have aeh:=zi aQ;have aei:=zj aQ l1.length;obtain⟨XB,avt,Ee,Ef⟩:=oC HR1.out aQ aeh aei;have Eh:=Ef;have Ei:=Ee;cases avt;replace Ee:=cl HB.out Ee;replace Ef:=cl HB.out Ef;replace aeh:=eq_true aeh;replace aei:=eq_true aei;refine ro [8] [0,1,2,4,5,6,3,7,8,9] (fun w'=>w'.cell? (XA.add ((aQ).toNat*2))=some (.string ((aG l0 aQ).f0))∧w'.cell? ⟨(XA.add ((aQ).toNat*2)).block,(XA.add ((aQ).toNat*2)).off+1,none⟩=some (.string ((aG l0 aQ).f1))∧w'.cell? (XB.add ((aQ).toNat*2))=some (.string ((aG l1 aQ).f0))∧w'.cell? ⟨(XB.add ((aQ).toNat*2)).block,(XB.add ((aQ).toNat*2)).off+1,none⟩=some (.string ((aG l1 aQ).f1))) ⟨((HB.out.cell (World.block_lt_of_cell? w _ Ed)).trans Ed),((HB.out.cell (World.block_lt_of_cell? w _ Ec)).trans Ec),((HB.out.cell (World.block_lt_of_cell? w _ Ei)).trans Ei),((HB.out.cell (World.block_lt_of_cell? w _ Eh)).trans Eh)⟩ ?_
      generalize wr.drew=w9 at HB Ea Eb Ee Ef⊢
      repeat(refine lk (v:=?_) (a':=?_) (gk.trans rfl) rfl rfl ?_ ?_ ?_;rotate_left;(focus (rintro w' ⟨s0,s1,s2,s3⟩;go_simp;with_reducible rfl));rotate_left;(focus (simp only[Act.put,jI,jJ,l_c,bf,bD];rfl)))
      refine ld (N:=some 25) (gk.trans rfl) rfl rfl (fun K hK=>?_);refine nS func47 (by kernel_rfl) rfl #[.agg #[.string ((aG l0 aQ).f0), .string ((aG l0 aQ).f1)], .agg #[.string ((aG l1 aQ).f0), .string ((aG l1 aQ).f1)]] (by rfl) rfl rfl ma ?_
      with_reducible refine(xX.calls ((aG l0 aQ).f0) ((aG l0 aQ).f1) ((aG l1 aQ).f0) ((aG l1 aQ).f1) true _ A7.out).mono ?_
      rintro e w10 ⟨rfl,hb⟩;refine⟨_,rfl,?_⟩;replace HB:=bs HB hb
      (try clear hb);refine hK.out _ _ ⟨((HB.out.cell (World.block_lt_of_cell? w _ Ed)).trans Ed),((HB.out.cell (World.block_lt_of_cell? w _ Ec)).trans Ec),((HB.out.cell (World.block_lt_of_cell? w _ Ei)).trans Ei),((HB.out.cell (World.block_lt_of_cell? w _ Eh)).trans Eh)⟩ ?_;clear hK K;refine no (a':=?_) ?_ ?_
      rotate_left
      ·show Act.put _ (some 25) _=_
       simp only[Act.put,jI,jJ,l_c,bf,bD];rfl
      repeat(refine lk (v:=?_) (a':=?_) (gk.trans rfl) rfl rfl ?_ ?_ ?_;rotate_left;(focus (rintro w' ⟨s0,s1,s2,s3⟩;go_simp;with_reducible rfl));rotate_left;(focus (simp only[Act.put,jI,jJ,l_c,bf,bD];rfl)))
      refine on ?_;try go_wp2
      go_roundg k1
      case measure=>have:=iM.out;omega
      case rel=>exact⟨(wrap64 (aQ+1)),rs,H',⟨by have:=iM.out;omega⟩,⟨ul HB.out⟩⟩
     ·obtain rfl:=Option.some.inj H;try go_wp2
      replace HB:=ak (eG HB.out);have aef:=zi aQ;have aeg:=zj aQ l0.length;obtain⟨XA,avs,Ea,Eb⟩:=oC HR0.out aQ aef aeg;have Ec:=Eb;have Ed:=Ea;cases avs;replace Ea:=cl HB.out Ea;replace Eb:=cl HB.out Eb;replace aef:=eq_true aef;replace aeg:=eq_true aeg;have aeh:=zi aQ;have aei:=zj aQ l1.length;obtain⟨XB,avt,Ee,Ef⟩:=oC HR1.out aQ aeh aei;have Eh:=Ef;have Ei:=Ee;cases avt;replace Ee:=cl HB.out Ee;replace Ef:=cl HB.out Ef;replace aeh:=eq_true aeh;replace aei:=eq_true aei;refine ro [8] [0,1,2,4,5,6,3,7,8,9] (fun w'=>w'.cell? (XA.add ((aQ).toNat*2))=some (.string ((aG l0 aQ).f0))∧w'.cell? ⟨(XA.add ((aQ).toNat*2)).block,(XA.add ((aQ).toNat*2)).off+1,none⟩=some (.string ((aG l0 aQ).f1))∧w'.cell? (XB.add ((aQ).toNat*2))=some (.string ((aG l1 aQ).f0))∧w'.cell? ⟨(XB.add ((aQ).toNat*2)).block,(XB.add ((aQ).toNat*2)).off+1,none⟩=some (.string ((aG l1 aQ).f1))) ⟨((HB.out.cell (World.block_lt_of_cell? w _ Ed)).trans Ed),((HB.out.cell (World.block_lt_of_cell? w _ Ec)).trans Ec),((HB.out.cell (World.block_lt_of_cell? w _ Ei)).trans Ei),((HB.out.cell (World.block_lt_of_cell? w _ Eh)).trans Eh)⟩ ?_
      generalize wr.drew=Uy at HB Ea Eb Ee Ef⊢
      repeat(refine lk (v:=?_) (a':=?_) (gk.trans rfl) rfl rfl ?_ ?_ ?_;rotate_left;(focus (rintro w' ⟨s0,s1,s2,s3⟩;go_simp;with_reducible rfl));rotate_left;(focus (simp only[Act.put,jI,jJ,l_c,bf,bD];rfl)))
      refine ld (N:=some 25) (gk.trans rfl) rfl rfl (fun K hK=>?_);refine nS func47 (by kernel_rfl) rfl #[.agg #[.string ((aG l0 aQ).f0), .string ((aG l0 aQ).f1)], .agg #[.string ((aG l1 aQ).f0), .string ((aG l1 aQ).f1)]] (by rfl) rfl rfl ma ?_
      with_reducible refine(xX.calls ((aG l0 aQ).f0) ((aG l0 aQ).f1) ((aG l1 aQ).f0) ((aG l1 aQ).f1) false _ A7.out).mono ?_
      rintro e w12 ⟨rfl,hb⟩;refine⟨_,rfl,?_⟩;replace HB:=bs HB hb
      (try clear hb);refine hK.out _ _ ⟨((HB.out.cell (World.block_lt_of_cell? w _ Ed)).trans Ed),((HB.out.cell (World.block_lt_of_cell? w _ Ec)).trans Ec),((HB.out.cell (World.block_lt_of_cell? w _ Ei)).trans Ei),((HB.out.cell (World.block_lt_of_cell? w _ Eh)).trans Eh)⟩ ?_;clear hK K;refine no (a':=?_) ?_ ?_
      rotate_left
      ·show Act.put _ (some 25) _=_
       simp only[Act.put,jI,jJ,l_c,bf,bD];rfl
      repeat(refine lk (v:=?_) (a':=?_) (gk.trans rfl) rfl rfl ?_ ?_ ?_;rotate_left;(focus (rintro w' ⟨s0,s1,s2,s3⟩;go_simp;with_reducible rfl));rotate_left;(focus (simp only[Act.put,jI,jJ,l_c,bf,bD];rfl)))
      refine on ?_;try go_wp2
      go_ret;exact⟨er,ul HB.out⟩
    ·obtain rfl:=Option.some.inj H;go_wp2;go_ret;exact⟨er,ul HB.out⟩
 ·have iK:=beq_eq_false_iff_ne.mpr c3;have xW:=bne_iff_ne.mpr c3;have VX:(l0.length==l1.length)=false:=by first|simpa using c3|(simp at c3⊢;omega)
  obtain rfl:=Option.some.inj H;go_enter func29,ntmps29;go_wp2;go_ret;exact⟨er,ul HB.out⟩
def eU.l0:Nat→Int→ByteArray→Option (ByteArray)
 |0,_,_=>none
 |k+1,x0,x3=>if x0>0 then((some (([(wrap64 (48+(Int.tmod x0 10)))%256]:List Int):List Int)).bind fun y113=>(if(strOfNums y113).size+x3.size≤9223372036854775807 then(eU.l0 k (wrap64 (Int.tdiv x0 10)) ((strOfNums y113)++x3))else(none)))else(if 1+x3.size≤9223372036854775807 then(some ((⟨#[109]⟩:ByteArray)++x3))else(none))
def eU.f(k:Nat)(a0:Int):Option (ByteArray):=if a0≤0 then(some (⟨#[109,48]⟩:ByteArray))else(eU.l0 k a0 (⟨#[]⟩:ByteArray))
set_option maxHeartbeats 8000000 in
set_option maxRecDepth 100000 in
theorem eU.calls(k:Nat)(a0:Int)(r:ByteArray)(w:World)(h:eU.f k a0=some r):
  Calls Tryz.prog 38 #[.int .i64 a0] w fun e w'=>e= .returned (.string r)∧Below w.heap.size w w':=by
 have HB:=ak (Below.refl w.heap.size w);have H:(if a0≤0 then(some (⟨#[109,48]⟩:ByteArray))else(eU.l0 k a0 (⟨#[]⟩:ByteArray)))=some r:=h;clear h;replace H:=sd H;rcases H with⟨zY,H⟩|⟨zY,H⟩
 ·obtain rfl:=Option.some.inj H;go_enter func38,ntmps38;go_wp2;go_ret;exact⟨er,ul HB.out⟩
 ·have H':=ak H;clear H;go_enter func38,ntmps38;go_wp2;go_loopg [0,3] k (fun kq v0 v3 w'=>∃(kD:Int) (dS:ByteArray),v0= .int .i64 kD∧v3= .string dS∧ay (eU.l0 kq kD dS=some r)∧ay (kq≤k)∧ay (Below w.heap.size w w'))
  case atStart=>exact⟨(a0),((⟨#[]⟩:ByteArray)),rs,rs,H',⟨Nat.le_refl _⟩,⟨ul HB.out⟩⟩
  case round=>
   clear H';try clear c2
   try clear zY
   try clear p2
   obtain⟨kD,dS,rfl,rfl,HA,iM,HB⟩:=hrel
   cases gk with
   |zero=>exact absurd HA.out (by simp[eU.l0])
   |succ k1=>
    have H:=HA.out;clear HA;simp only[eU.l0]at H;replace H:=sp H;rcases H with⟨c3,H⟩|⟨c3,H⟩
    ·have iK:decide (0<kD)=true:=decide_eq_true c3;clear c3;obtain⟨y113,akc⟩:=nm ([(wrap64 (48+(Int.tmod kD 10)))%256]:List Int);rw[←akc.out]at H
     (try rw[Option.bind_some]at H);replace H:=nn H;obtain⟨c4,H⟩:=H;have oG:=eq_true c4;have VY:=decide_eq_true c4;try have avu:(9223372036854775807<(strOfNums y113).size+dS.size)=False:=eq_false (Nat.not_lt.2 c4)
     have H':=ak H;clear H;go_wp2_with (first|((with_reducible refine bG (N:=12) rfl ?_);refine nD (Kd.int .u8) _ 5 ?hg (N:=12) ?hd (xs:=([(wrap64 (48+(Int.tmod kD 10)))%256]:List Int)) (inner:=[.int .u8 ((wrap64 (48+(Int.tmod kD 10)))%256)]) (ok:=fun _=>True) (oO:=fun _=>True) ?hr ?hp (fun _ hk=>hk) trivial (Below.refl _ _) (Nat.le_refl _) (by simp) ?_;(case hd=>rfl);(case hg=>rfl);(case hr=>first|(go_simp;done)|(go_simp;rfl));(case hp=>exact(iW.one (show Kd.M (Kd.int .u8) _ _ _ ((wrap64 (48+(Int.tmod kD 10)))%256) [.int .u8 ((wrap64 (48+(Int.tmod kD 10)))%256)]from rfl) (iW.none _ _)));intro aN0 w5 WQ hb oP gY;clear oP gY;(first|rw[←akc.out]at WQ|(simp only[Int.reduceToNat]at WQ;rw[←akc.out]at WQ));have ayW:=ak (bQ WQ (aA (ul HB.out)));replace HB:=bs HB hb;clear hb WQ;have aN1:=FV (P:=Tryz.prog) underlying77 underlying5 underlying9 (FW ayW.out)))
     go_roundg k1
     case measure=>have:=iM.out;omega
     case rel=>exact⟨(wrap64 (Int.tdiv kD 10)),((strOfNums y113)++dS),rs,rs,H',⟨by have:=iM.out;omega⟩,⟨ul HB.out⟩⟩
    ·have iK:decide (0<kD)=false:=decide_eq_false c3;clear c3;replace H:=nn H;obtain⟨c8,H⟩:=H;have rV:=eq_true c8;have G7:=decide_eq_true c8;try have aoF:(9223372036854775807<1+dS.size)=False:=eq_false (Nat.not_lt.2 c8)
     obtain rfl:=Option.some.inj H;go_wp2;go_ret;exact⟨er,ul HB.out⟩
def fK.l0:Nat→List ByteArray→Int→Int→Option (Int×List ByteArray)
 |0,_,_,_=>none
 |k+1,x0,x1,x5=>if x5<(x0.length:Int)then((eU.f k x1).bind fun t116=>(if 0≤x5 then(fK.l0 k (x0.set (x5:Int).toNat t116) (wrap64 (x1+1)) (wrap64 (x5+1)))else(none)))else(some (x1,x0))
def fK.f(k:Nat)(l0:List ByteArray)(a1:Int):Option (Int×List ByteArray):=fK.l0 k l0 a1 0
set_option maxHeartbeats 8000000 in
set_option maxRecDepth 100000 in
theorem fK.calls(k:Nat)(LK:Nat→Prop)(F5:Value)(l0:List ByteArray)(a1:Int)(r1:Int)(r2:List ByteArray)(w0 w:World)(hB:Below w0.heap.size w0 w)(ho0:Kd.R Kd.string 9 w w0.heap.size LK F5 l0)(h:fK.f k l0 a1=some (r1,r2)):
  Calls Tryz.prog 20 #[F5, .int .i64 a1] w fun e w'=>e= .returned (.int .i64 r1)∧Kd.R Kd.string 9 w' w0.heap.size (fun k_=>(LK k_∨w.heap.size≤k_)) F5 r2∧Below w0.heap.size w0 w'∧Kept w w' (fun k_=>LK k_):=by
 have HO0:=ak (show Kd.R Kd.string 9 w w0.heap.size (fun k_=>(LK k_∨w.heap.size≤k_)) F5 l0 from aK ho0 (fun k_ hk=>(.inl hk)));have HK:=ak (Kept.refl w (fun k_=>LK k_));have HW0:=ak hB.size;have HB:=ak hB;clear hB;have H:(fK.l0 k l0 a1 0)=some (r1,r2):=h;clear h;have H':=ak H;clear H;go_enter func20,ntmps20;go_wp2;go_loopg [1,5] k (fun kq v1 v5 w'=>∃(kD:List ByteArray) (oD:Int) (aQ:Int),v1= .int .i64 oD∧v5= .int .i64 aQ∧ay (fK.l0 kq kD oD aQ=some (r1,r2))∧ay (kq≤k)∧ay (Kd.R Kd.string 9 w' w0.heap.size (fun k_=>(LK k_∨w.heap.size≤k_)) F5 kD)∧ay (Kept w w' (fun k_=>LK k_))∧ay (Below w0.heap.size w0 w'))
 case atStart=>exact⟨(l0),(a1),(0),rs,rs,H',⟨Nat.le_refl _⟩,⟨ur HO0.out⟩,⟨by repeat(first|(with_reducible first|exact HK.out|apply Kept.alloc|apply Kept.drewN|apply Kept.drew)|exact HK.out)⟩,⟨ul HB.out⟩⟩
 case round=>
  clear H';try clear c2
  try clear p2
  obtain⟨kD,oD,aQ,rfl,rfl,HA,iM,wW,HK,HB⟩:=hrel
  cases gk with
  |zero=>exact absurd HA.out (by simp[fK.l0])
  |succ k1=>
   have H:=HA.out;clear HA;simp only[fK.l0]at H;replace H:=sd H;rcases H with⟨iK,H⟩|⟨iK,H⟩
   ·replace H:=bd H;obtain⟨t116,A4,H⟩:=H;replace H:=oL H;obtain⟨o_,H⟩:=H;obtain⟨ayX,asG⟩:=nm (kD.set (aQ:Int).toNat t116);rw[←asG.out]at H
    (try rw[Option.bind_some]at H);have H':=ak H;clear H;obtain⟨Zv,Y4,eo7⟩:=bW wW.out;subst eo7;go_wp2_with (first|(refine gL 38 15 func38 #[.int .i64 oD] ?_;(with_reducible refine(eU.calls k1 oD t116 _ A4.out).mono ?_);rintro e w8 ⟨rfl,hb⟩;refine⟨_,rfl,?_⟩;replace wW:=rb wW hb;replace HK:=ak (Kept.below (S:=(fun k_=>LK k_)) (by repeat(first|(with_reducible first|exact HK.out|apply Kept.alloc|apply Kept.drewN|apply Kept.drew)|exact HK.out)) hb);replace HB:=bs HB hb;(try clear hb);have p6:0≤(aQ:Int):=of_decide_eq_true (by assumption);have q6:(aQ:Int)<((kD.length:Int):Int):=of_decide_eq_true (by assumption);obtain⟨WR,co6,eo6,gb6,gl6,cl6,HG6⟩:=XC wW.out (by omega);(first|cases eo6|(injection eo6 with LP en_ ec_;(first|subst LP|(injection LP with LP;subst LP));subst ec_;clear en_));have GB6:=ak gb6;have GG6:=ak HG6;clear gb6 gl6 HG6;have ayY:=ak (show(LK WR∨w.heap.size≤WR)from(wW.out.1 _ rfl));obtain⟨ayZ,ay0⟩:=QG (⟨#[]⟩:ByteArray) wW.out (aQ:Int) p6 q6;replace p6:=eq_true p6;replace q6:=eq_true q6;obtain⟨aN2,aN3⟩:=QG (⟨#[]⟩:ByteArray) wW.out (aQ:Int) (of_decide_eq_true (by assumption)) (of_decide_eq_true (by assumption));have HP9:=aej wW.out (aQ:Int) t116)|((with_reducible refine vT (t:=9) (p:=16) rfl ?_);refine tJ (t:=9) (p:=16) (v:=?aHG) (w1:=(w8.setCell ⟨WR,(aQ:Int).toNat,none⟩ (.string t116))) ?hg ?ho ?hn ?hr ?_;(case ho=>rfl);(case hg=>rfl);(case hn=>rfl);(case hr=>first|(go_simp;done)|(go_simp;rfl));intro w10 hw;have hg:w8.grownBy w10 (some WR):=(by rw[hw];exact HP9.2);have Vu:Kd.R Kd.string 9 w10 w0.heap.size (fun k_=>(LK k_∨w.heap.size≤k_)) (.slice (some ⟨WR,0,none⟩) kD.length Y4) ayX:=(by rw[hw,asG.out];exact HP9.1);clear HP9;replace HB:=ak ((by rw[hw];exact rH (HB.out) GB6.out:Below w0.heap.size w0 w10));replace HK:=ak (Kept.L9 (S:=(fun k_=>LK k_)) hg (by repeat(first|(with_reducible first|exact HK.out|apply Kept.alloc|apply Kept.drewN|apply Kept.drew)|exact HK.out)) (fun k_ e_=>(wW.out.1 k_ e_)));replace wW:=ak (Vu);clear hg hw Vu))
    go_roundg k1
    case measure=>have:=iM.out;omega
    case rel=>exact⟨(ayX),(wrap64 (oD+1)),(wrap64 (aQ+1)),rs,rs,H',⟨by have:=iM.out;omega⟩,⟨ur wW.out⟩,⟨by repeat(first|(with_reducible first|exact HK.out|apply Kept.alloc|apply Kept.drewN|apply Kept.drew)|exact HK.out)⟩,⟨ul HB.out⟩⟩
   ·simp only[Option.some.injEq,Prod.mk.injEq]at H;obtain⟨rfl,rfl⟩:=H;obtain⟨Jt,G8,akd⟩:=bW wW.out;subst akd;go_wp2;go_ret;exact⟨er,ur wW.out,by repeat(first|(with_reducible first|exact HB.out|apply nH|apply lS|apply eG)|exact HB.out),by repeat(first|(with_reducible first|exact HK.out|apply Kept.alloc|apply Kept.drewN|apply Kept.drew)|exact HK.out)⟩
def ig.l0:Nat→List (gI)→Int→Int→Option (Int×(List (gI)))
 |0,_,_,_=>none
 |k+1,x0,x1,x5=>if x5<(x0.length:Int)then((eU.f k x1).bind fun acJ=>(if 0≤x5 then((some (x0.set (x5:Int).toNat (⟨acJ,(aG x0 x5).f1⟩:gI):List (gI))).bind fun XD=>((eU.f k (wrap64 (x1+1))).bind fun acK=>(ig.l0 k (XD.set (x5:Int).toNat (⟨(aG XD x5).f0,acK⟩:gI)) (wrap64 ((wrap64 (x1+1))+1)) (wrap64 (x5+1)))))else(none)))else(some (x1,x0))
def ig.f(k:Nat)(l0:List (gI))(a1:Int):Option (Int×(List (gI))):=ig.l0 k l0 a1 0
set_option maxHeartbeats 8000000 in
set_option maxRecDepth 100000 in
theorem ig.calls(k:Nat)(LK:Nat→Prop)(F5:Value)(l0:List (gI))(a1:Int)(r1:Int)(r2:List (gI))(w0 w:World)(hB:Below w0.heap.size w0 w)(ho0:Kd.R oN 63 w w0.heap.size LK F5 l0)(h:ig.f k l0 a1=some (r1,r2)):
  Calls Tryz.prog 31 #[F5, .int .i64 a1] w fun e w'=>e= .returned (.int .i64 r1)∧Kd.R oN 63 w' w0.heap.size (fun k_=>(LK k_∨w.heap.size≤k_)) F5 r2∧Below w0.heap.size w0 w'∧Kept w w' (fun k_=>LK k_):=by
 have HO0:=ak (show Kd.R oN 63 w w0.heap.size (fun k_=>(LK k_∨w.heap.size≤k_)) F5 l0 from aK ho0 (fun k_ hk=>(.inl hk)));have HK:=ak (Kept.refl w (fun k_=>LK k_));have HW0:=ak hB.size;have HB:=ak hB;clear hB;have H:(ig.l0 k l0 a1 0)=some (r1,r2):=h;clear h;have H':=ak H;clear H;go_enter func31,ntmps31;go_wp2;go_loopg [1,5] k (fun kq v1 v5 w'=>∃(kD:List (gI)) (oD:Int) (aQ:Int),v1= .int .i64 oD∧v5= .int .i64 aQ∧ay (ig.l0 kq kD oD aQ=some (r1,r2))∧ay (kq≤k)∧ay (Kd.R oN 63 w' w0.heap.size (fun k_=>(LK k_∨w.heap.size≤k_)) F5 kD)∧ay (Kept w w' (fun k_=>LK k_))∧ay (Below w0.heap.size w0 w'))
 case atStart=>exact⟨(l0),(a1),(0),rs,rs,H',⟨Nat.le_refl _⟩,⟨ur HO0.out⟩,⟨by repeat(first|(with_reducible first|exact HK.out|apply Kept.alloc|apply Kept.drewN|apply Kept.drew)|exact HK.out)⟩,⟨ul HB.out⟩⟩
 case round=>
  clear H';try clear p2
  obtain⟨kD,oD,aQ,rfl,rfl,HA,iM,wW,HK,HB⟩:=hrel
  cases gk with
  |zero=>exact absurd HA.out (by simp[ig.l0])
  |succ k1=>
   have H:=HA.out;clear HA;simp only[ig.l0]at H;replace H:=sd H;rcases H with⟨iK,H⟩|⟨iK,H⟩
   ·replace H:=bd H;obtain⟨acJ,A4,H⟩:=H;replace H:=oL H;obtain⟨o_,H⟩:=H;obtain⟨XD,asH⟩:=nm (kD.set (aQ:Int).toNat (⟨acJ,(aG kD aQ).f1⟩:gI));rw[←asH.out]at H
    (try rw[Option.bind_some]at H);replace H:=bd H;obtain⟨acK,A7,H⟩:=H;obtain⟨ay1,asI⟩:=nm (XD.set (aQ:Int).toNat (⟨(aG XD aQ).f0,acK⟩:gI));rw[←asI.out]at H
    (try rw[Option.bind_some]at H);have H':=ak H;clear H;obtain⟨NV,Jl,eo9⟩:=bW wW.out;subst eo9;go_wp2_with (first|(refine gL 38 15 func38 #[.int .i64 oD] ?_;(with_reducible refine(eU.calls k1 oD acJ _ A4.out).mono ?_);rintro e w10 ⟨rfl,hb⟩;refine⟨_,rfl,?_⟩;replace wW:=rb wW hb;replace HK:=ak (Kept.below (S:=(fun k_=>LK k_)) (by repeat(first|(with_reducible first|exact HK.out|apply Kept.alloc|apply Kept.drewN|apply Kept.drew)|exact HK.out)) hb);replace HB:=bs HB hb;(try clear hb);have p6:0≤(aQ:Int):=of_decide_eq_true (by assumption);have q6:(aQ:Int)<((kD.length:Int):Int):=of_decide_eq_true (by assumption);obtain⟨WR,co6,eo6,gb6,gl6,cl6,HG6⟩:=XC wW.out (by omega);(first|cases eo6|(injection eo6 with LP en_ ec_;(first|subst LP|(injection LP with LP;subst LP));subst ec_;clear en_));have GB6:=ak gb6;have GG6:=ak HG6;clear gb6 gl6 HG6;have ayY:=ak (show(LK WR∨w.heap.size≤WR)from(wW.out.1 _ rfl));obtain⟨ce6,aHH,hM6,avv,avw⟩:=Pv wW.out z63 (aQ:Int) p6 q6;obtain rfl:=NK hM6;have ayZ:w10.cell? ⟨WR,(aQ:Int).toNat*2,none⟩=some (.string ((aG kD aQ).f0)):=avv 0 _ rfl;have aKZ:w10.cell? ⟨WR,(aQ:Int).toNat*2+1,none⟩=some (.string ((aG kD aQ).f1)):=avv 1 _ rfl;have ay0:w10.frozen? ⟨WR,(aQ:Int).toNat*2,none⟩=false:=avw 0;have aK1:w10.frozen? ⟨WR,(aQ:Int).toNat*2+1,none⟩=false:=avw 1;(clear aHH avv avw;(try clear hM6));replace p6:=eq_true p6;replace q6:=eq_true q6;have ay2:=ak (show Kd.R oN 63 w10 w0.heap.size (fun k_=>(LK k_∨w.heap.size≤k_)) (.slice (some ⟨WR,0,none⟩) kD.length Jl) kD from(ur wW.out));obtain⟨aN4,asJ,ay3,ake,asK⟩:=Pv ay2.out z63 (aQ:Int) (of_decide_eq_true (by assumption)) (by have h_:(aQ:Int)<((kD.length:Int):Int):=of_decide_eq_true (by assumption);first|exact h_|(have e_:=(bH wW.out).1;omega)|simpa using h_);obtain rfl:=NK ay3;have avx:=akf ay2.out (aQ:Int) (of_decide_eq_true (by assumption)) (by have h_:(aQ:Int)<((kD.length:Int):Int):=of_decide_eq_true (by assumption);first|exact h_|(have e_:=(bH wW.out).1;omega)|simpa using h_) (seg:=[.string acJ]) (j:=0) asJ ake (show 1≤2 from by decide) (x':=(⟨acJ,(aG kD aQ).f1⟩:gI)) (Hq _ _ _ (⟨acJ,(aG kD aQ).f1⟩:gI)) (fun _ hk=>hk);have avy:=ake 0 _ rfl;(try simp only[show(oN).sz=2 from rfl,Nat.mul_one,Nat.add_zero]at avy);have avz:=asK 0;(try simp only[show(oN).sz=2 from rfl,Nat.mul_one,Nat.add_zero]at avz);(clear asJ ake asK;(try clear ay3)))|((with_reducible refine vT (t:=9) (p:=17) rfl ?_);refine tJ (t:=9) (p:=17) (v:=?aHI) (w1:=(w10.setCell ⟨WR,(aQ:Int).toNat*2,none⟩ (.string acJ))) ?hg ?ho ?hn ?hr ?_;(case ho=>rfl);(case hg=>rfl);(case hn=>rfl);(case hr=>first|(go_simp;done)|(go_simp;rfl));intro w12 hw;have hg:w10.grownBy w12 (some WR):=(by rw[hw];exact avx.2);have Vu:Kd.R oN 63 w12 w0.heap.size (fun k_=>(LK k_∨w.heap.size≤k_)) (.slice (some ⟨WR,0,none⟩) kD.length Jl) XD:=(by rw[hw,asH.out];exact avx.1);clear avx;replace HB:=ak ((by rw[hw];exact rH (HB.out) GB6.out:Below w0.heap.size w0 w12));replace HK:=ak (Kept.L9 (S:=(fun k_=>LK k_)) hg (by repeat(first|(with_reducible first|exact HK.out|apply Kept.alloc|apply Kept.drewN|apply Kept.drew)|exact HK.out)) (fun k_ e_=>(wW.out.1 k_ e_)));replace wW:=ak (Vu);clear hg hw Vu)|(refine gL 38 23 func38 #[.int .i64 (wrap64 (oD+1))] ?_;(with_reducible refine(eU.calls k1 (wrap64 (oD+1)) acK _ A7.out).mono ?_);rintro e w13 ⟨rfl,hb⟩;refine⟨_,rfl,?_⟩;replace wW:=rb wW hb;replace HK:=ak (Kept.below (S:=(fun k_=>LK k_)) (by repeat(first|(with_reducible first|exact HK.out|apply Kept.alloc|apply Kept.drewN|apply Kept.drew)|exact HK.out)) hb);replace HB:=bs HB hb;(try clear hb);have p8:0≤(aQ:Int):=of_decide_eq_true (by assumption);have q8:(aQ:Int)<((kD.length:Int):Int):=of_decide_eq_true (by assumption);obtain⟨ce8,aHJ,hM8,avA,avC⟩:=Pv wW.out z63 (aQ:Int) p8 q8;obtain rfl:=NK hM8;have aK2:w13.cell? ⟨WR,(aQ:Int).toNat*2,none⟩=some (.string ((aG XD aQ).f0)):=avA 0 _ rfl;have aK3:w13.cell? ⟨WR,(aQ:Int).toNat*2+1,none⟩=some (.string ((aG XD aQ).f1)):=avA 1 _ rfl;have aK4:w13.frozen? ⟨WR,(aQ:Int).toNat*2,none⟩=false:=avC 0;have aK5:w13.frozen? ⟨WR,(aQ:Int).toNat*2+1,none⟩=false:=avC 1;(clear aHJ avA avC;(try clear hM8));replace p8:=eq_true p8;replace q8:=eq_true q8;have ay4:=ak (show Kd.R oN 63 w13 w0.heap.size (fun k_=>(LK k_∨w.heap.size≤k_)) (.slice (some ⟨WR,0,none⟩) kD.length Jl) XD from(ur wW.out));obtain⟨aN5,asL,ay5,akg,asM⟩:=Pv ay4.out z63 (aQ:Int) (of_decide_eq_true (by assumption)) (by have h_:(aQ:Int)<((kD.length:Int):Int):=of_decide_eq_true (by assumption);first|exact h_|(have e_:=(bH wW.out).1;omega)|simpa using h_);obtain rfl:=NK ay5;have avD:=akf ay4.out (aQ:Int) (of_decide_eq_true (by assumption)) (by have h_:(aQ:Int)<((kD.length:Int):Int):=of_decide_eq_true (by assumption);first|exact h_|(have e_:=(bH wW.out).1;omega)|simpa using h_) (seg:=[.string acK]) (j:=1) asL akg (show 2≤2 from by decide) (x':=(⟨(aG XD aQ).f0,acK⟩:gI)) (Hq _ _ _ (⟨(aG XD aQ).f0,acK⟩:gI)) (fun _ hk=>hk);have avE:=akg 1 _ rfl;(try simp only[show(oN).sz=2 from rfl,Nat.mul_one,Nat.add_zero]at avE);have avF:=asM 1;(try simp only[show(oN).sz=2 from rfl,Nat.mul_one,Nat.add_zero]at avF);(clear asL akg asM;(try clear ay5)))|((with_reducible refine vT (t:=9) (p:=25) rfl ?_);refine tJ (t:=9) (p:=25) (v:=?aHK) (w1:=(w13.setCell ⟨WR,(aQ:Int).toNat*2+1,none⟩ (.string acK))) ?hg ?ho ?hn ?hr ?_;(case ho=>rfl);(case hg=>rfl);(case hn=>rfl);(case hr=>first|(go_simp;done)|(go_simp;rfl));intro w15 hw;have hg:w13.grownBy w15 (some WR):=(by rw[hw];exact avD.2);have Vu:Kd.R oN 63 w15 w0.heap.size (fun k_=>(LK k_∨w.heap.size≤k_)) (.slice (some ⟨WR,0,none⟩) kD.length Jl) ay1:=(by rw[hw,asI.out];exact avD.1);clear avD;replace HB:=ak ((by rw[hw];exact rH (HB.out) GB6.out:Below w0.heap.size w0 w15));replace HK:=ak (Kept.L9 (S:=(fun k_=>LK k_)) hg (by repeat(first|(with_reducible first|exact HK.out|apply Kept.alloc|apply Kept.drewN|apply Kept.drew)|exact HK.out)) (fun k_ e_=>(wW.out.1 k_ e_)));replace wW:=ak (Vu);clear hg hw Vu))
    go_roundg k1
    case measure=>have:=iM.out;omega
    case rel=>exact⟨(ay1),(wrap64 ((wrap64 (oD+1))+1)),(wrap64 (aQ+1)),rs,rs,H',⟨by have:=iM.out;omega⟩,⟨ur wW.out⟩,⟨by repeat(first|(with_reducible first|exact HK.out|apply Kept.alloc|apply Kept.drewN|apply Kept.drew)|exact HK.out)⟩,⟨ul HB.out⟩⟩
   ·simp only[Option.some.injEq,Prod.mk.injEq]at H;obtain⟨rfl,rfl⟩:=H;obtain⟨VZ,UC,aas⟩:=bW wW.out;subst aas;go_wp2;go_ret;exact⟨er,ur wW.out,by repeat(first|(with_reducible first|exact HB.out|apply nH|apply lS|apply eG)|exact HB.out),by repeat(first|(with_reducible first|exact HK.out|apply Kept.alloc|apply Kept.drewN|apply Kept.drew)|exact HK.out)⟩
mutual
def lK.f:Nat→List (gI)→List ByteArray→List (ku)→List (gI)→List ByteArray→List (ku)→Option (Bool)
 |0,_,_,_,_,_,_=>none
 |k+1,dN,dQ,aH,yU,zZ,Am=>(gu.f k dN yU).bind fun aiL=>(if aiL=true then((gZ.f k dQ zZ).bind fun aiM=>(if aiM=true then((if(aH.length:Int)=(Am.length:Int)then(iZ.l0 k aH Am 0)else(some false)).bind fun VW=>(if VW=true then(some true)else(some false)))else(some false)))else(some false))
def iZ.l0:Nat→List (ku)→List (ku)→Int→Option (Bool)
 |0,_,_,_=>none
 |k+1,x0,x1,x5=>if x5<(x0.length:Int)then(if 0≤x5 then(if x5<(x1.length:Int)then((lK.f k ((aW x0 x5).f0) ((aW x0 x5).f1) ((aW x0 x5).f2) ((aW x1 x5).f0) ((aW x1 x5).f1) ((aW x1 x5).f2)).bind fun ay6=>(if ay6=true then(iZ.l0 k x0 x1 (wrap64 (x5+1)))else(some false)))else(none))else(none))else(some true)
end
def iZ.f(k:Nat)(l0:List (ku))(l1:List (ku)):Option (Bool):=if(l0.length:Int)=(l1.length:Int)then(iZ.l0 k l0 l1 0)else(some false)
theorem lK.ad_(k:Nat)(dN:List (gI))(dQ:List ByteArray)(aH:List (ku))(yU:List (gI))(zZ:List ByteArray)(Am:List (ku)):lK.f (k+1) dN dQ aH yU zZ Am=((gu.f k dN yU).bind fun aiL=>(if aiL=true then((gZ.f k dQ zZ).bind fun aiM=>(if aiM=true then((iZ.f k aH Am).bind fun VW=>(if VW=true then(some true)else(some false)))else(some false)))else(some false))):=by simp only[lK.f,iZ.f]
def iZ.T6:Bool×List (List Nat×List Nat):=(true,[([],[]),([],[]),([0,1],[0,1]),([2],[2]),([],[]),([],[]),([4,5],[4,5]),([6],[6]),([3,7],[3,7]),([8],[8])])
def iZ.B6:List Nat:=[0,0,3,7,0,0,48,112,255,511]
theorem iZ.tab6:wo .any (opsOf Tryz.f30 6)=iZ.T6:=by kernel_rfl
theorem iZ.asF:qJ iZ.T6.2 iZ.B6=true:=by kernel_rfl
set_option maxHeartbeats 8000000 in
set_option maxRecDepth 100000 in
theorem lK.pair(k:Nat):(∀(jD:Option Addr) (jE:Nat) (dN:List (gI)) (jW:Option Addr) (jX:Nat) (dQ:List ByteArray) (iw:Option Addr) (fC:Nat) (aH:List (ku)) (Oy:Option Addr) (Oz:Nat) (yU:List (gI)) (Px:Option Addr) (Py:Nat) (zZ:List ByteArray) (QH:Option Addr) (QI:Nat) (Am:List (ku)) (r:Bool) (w:World) (pF:Kd.C oN w jD dN.length dN) (pG:dN.length≤jE) (pJ:Kd.C Kd.string w jW dQ.length dQ) (pK:dQ.length≤jX) (lZ:Kd.C k32 w iw aH.length aH) (l7:aH.length≤fC) (Zw:Kd.C oN w Oy yU.length yU) (Zx:yU.length≤Oz) (Zy:Kd.C Kd.string w Px zZ.length zZ) (Zz:zZ.length≤Py) (ZA:Kd.C k32 w QH Am.length Am) (ZB:Am.length≤QI) (h:lK.f k dN dQ aH yU zZ Am=some r),
  Calls Tryz.prog 10 #[.agg #[.slice jD dN.length jE, .slice jW dQ.length jX, .slice iw aH.length fC], .agg #[.slice Oy yU.length Oz, .slice Px zZ.length Py, .slice QH Am.length QI]] w fun e w'=>e= .returned (.bool r)∧Below w.heap.size w w')∧
  (∀(A0:Option Addr) (c0:Nat) (l0:List (ku)) (A1:Option Addr) (c1:Nat) (l1:List (ku)) (r:Bool) (w:World) (hr0:Kd.C k32 w A0 l0.length l0) (hc0:l0.length≤c0) (hr1:Kd.C k32 w A1 l1.length l1) (hc1:l1.length≤c1) (h:iZ.f k l0 l1=some r),
  Calls Tryz.prog 30 #[.slice A0 l0.length c0, .slice A1 l1.length c1] w fun e w'=>e= .returned (.bool r)∧Below w.heap.size w w'):=by
 induction k using Nat.strongRecOn with
 |_ k ih=>
 refine⟨?_,?_⟩
 ·cases k with
  |zero=>intro jD jE dN jW jX dQ iw fC aH Oy Oz yU Px Py zZ QH QI Am r w pF pG pJ pK lZ l7 Zw Zx Zy Zz ZA ZB h;exact absurd h (by simp[lK.f])
  |succ k=>
  have ihB:=(ih k (Nat.lt_succ_self k)).2;clear ih;intro jD jE dN jW jX dQ iw fC aH Oy Oz yU Px Py zZ QH QI Am r w pF pG pJ pK lZ l7 Zw Zx Zy Zz ZA ZB h;rw[lK.ad_]at h;have LU:=underlying32;have qG:=ak pF;have qR:=ak pG;clear pF pG;have vY:=ak pJ;have yS:=ak pK;clear pJ pK;have lC:=ak lZ;have oz:=ak l7;clear lZ l7;have agy:=ak Zw;have agz:=ak Zx;clear Zw Zx;have akh:=ak Zy;have aki:=ak Zz;clear Zy Zz;have asN:=ak ZA;have asO:=ak ZB;clear ZA ZB;have HB:=ak (Below.refl w.heap.size w);have H:((gu.f k dN yU).bind fun aiL=>(if aiL=true then((gZ.f k dQ zZ).bind fun aiM=>(if aiM=true then((iZ.f k aH Am).bind fun VW=>(if VW=true then(some true)else(some false)))else(some false)))else(some false)))=some r:=h;clear h;replace H:=bd H;obtain⟨aiL,A3,H⟩:=H;replace H:=sb H;rcases H with⟨rfl,H⟩|⟨rfl,H⟩
  ·replace H:=bd H;obtain⟨aiM,A5,H⟩:=H;replace H:=sb H;rcases H with⟨rfl,H⟩|⟨rfl,H⟩
   ·replace H:=bd H;obtain⟨VW,A7,H⟩:=H;replace H:=sb H;rcases H with⟨rfl,H⟩|⟨rfl,H⟩
    ·obtain rfl:=Option.some.inj H;go_enter func10,ntmps10;go_wp2_with (first|(refine bE 2 #[.slice jD dN.length jE, .slice jW dQ.length jX, .slice iw aH.length fC] 32 ?_;intro L_ hg w9 hbox hb;have o7:=ak (hbox);have akj:=lq HB hg;have akk:=lq HB hg;replace HB:=bs HB hb;clear hb hbox hg)|(refine bE 3 #[.slice Oy yU.length Oz, .slice Px zZ.length Py, .slice QH Am.length QI] 32 ?_;intro Ap hg w10 hbox hb;have yE:=ak (hbox);have akl:=ak ((by rw[hg];exact(aA bb):w.heap.size≤Ap));have akm:=ak ((by rw[hg];exact(aA bb):w.heap.size≤Ap));have Ce:=ak ((by rw[hg];exact Nat.ne_of_lt (dR (ub o7.out)):L_≠Ap));have Ci:=ak ((by rw[hg];exact Nat.ne_of_gt (dR (ub o7.out)):Ap≠L_));replace o7:=kb o7 hb;replace HB:=ak (aC bb hb);clear hb hbox hg;have ay7:=Ce.out;have ay8:=Ci.out;obtain⟨Aq,H7,H8,Ar,H9,H_⟩:=jO o7.out;obtain⟨uI,uJ,Ht,uK,uM,Hu⟩:=jO yE.out)|(refine gL 29 9 func29 #[.slice jD dN.length jE, .slice Oy yU.length Oz] ?_;(with_reducible refine(gu.calls k _ _ dN _ _ yU true _ (cu (aT qG.out HB.out)) qR.out (cu (aT agy.out HB.out)) agz.out A3.out).mono ?_);rintro e Us ⟨rfl,hb⟩;refine⟨_,rfl,?_⟩;replace o7:=kb o7 hb;replace yE:=kb yE hb;replace HB:=ak (aC bb hb);(try clear hb);obtain⟨nZ,n_,uN,og,oh,uO⟩:=jO o7.out;obtain⟨JQ,JR,NP,JU,JV,NQ⟩:=jO yE.out)|(refine gL 19 15 func19 #[.slice jW dQ.length jX, .slice Px zZ.length Py] ?_;(with_reducible refine(gZ.calls k _ _ dQ _ _ zZ true _ (cu (aT vY.out HB.out)) yS.out (cu (aT akh.out HB.out)) aki.out A5.out).mono ?_);rintro e w' ⟨rfl,⟨nd,rfl⟩⟩;refine⟨_,rfl,?_⟩)|(refine gL 30 21 func30 #[.slice iw aH.length fC, .slice QH Am.length QI] ?_;(with_reducible refine(ihB _ _ aH _ _ Am true _ (cu (aT lC.out bb)) oz.out (cu (aT asN.out bb)) asO.out A7.out).mono ?_);rintro e w17 ⟨rfl,hb⟩;refine⟨_,rfl,?_⟩;replace o7:=kb o7 hb;replace yE:=kb yE hb;replace HB:=ak (aC bb hb);(try clear hb)))
     go_ret;exact⟨er,bb⟩
    ·obtain rfl:=Option.some.inj H;go_enter func10,ntmps10;go_wp2_with (first|(refine bE 2 #[.slice jD dN.length jE, .slice jW dQ.length jX, .slice iw aH.length fC] 32 ?_;intro L_ hg w18 hbox hb;have o7:=ak (hbox);have akj:=lq HB hg;have akk:=lq HB hg;replace HB:=bs HB hb;clear hb hbox hg)|(refine bE 3 #[.slice Oy yU.length Oz, .slice Px zZ.length Py, .slice QH Am.length QI] 32 ?_;intro Ap hg w19 hbox hb;have yE:=ak (hbox);have akl:=ak ((by rw[hg];exact(aA bb):w.heap.size≤Ap));have akm:=ak ((by rw[hg];exact(aA bb):w.heap.size≤Ap));have Ce:=ak ((by rw[hg];exact Nat.ne_of_lt (dR (ub o7.out)):L_≠Ap));have Ci:=ak ((by rw[hg];exact Nat.ne_of_gt (dR (ub o7.out)):Ap≠L_));replace o7:=kb o7 hb;replace HB:=ak (aC bb hb);clear hb hbox hg;have ay9:=Ce.out;have ay_:=Ci.out;obtain⟨Ia,Ib,Ic,Ie,Ig,Ih⟩:=jO o7.out;obtain⟨JW,NR,NS,JX,NT,NU⟩:=jO yE.out)|(refine gL 29 9 func29 #[.slice jD dN.length jE, .slice Oy yU.length Oz] ?_;(with_reducible refine(gu.calls k _ _ dN _ _ yU true _ (cu (aT qG.out HB.out)) qR.out (cu (aT agy.out HB.out)) agz.out A3.out).mono ?_);rintro e w23 ⟨rfl,hb⟩;refine⟨_,rfl,?_⟩;replace o7:=kb o7 hb;replace yE:=kb yE hb;replace HB:=ak (aC bb hb);(try clear hb);obtain⟨aat,aau,agA,aav,aaw,agB⟩:=jO o7.out;obtain⟨WS,WT,aax,WU,WV,aay⟩:=jO yE.out)|(refine gL 19 15 func19 #[.slice jW dQ.length jX, .slice Px zZ.length Py] ?_;(with_reducible refine(gZ.calls k _ _ dQ _ _ zZ true _ (cu (aT vY.out HB.out)) yS.out (cu (aT akh.out HB.out)) aki.out A5.out).mono ?_);rintro e w' ⟨rfl,⟨nd,rfl⟩⟩;refine⟨_,rfl,?_⟩)|(refine gL 30 21 func30 #[.slice iw aH.length fC, .slice QH Am.length QI] ?_;(with_reducible refine(ihB _ _ aH _ _ Am false _ (cu (aT lC.out bb)) oz.out (cu (aT asN.out bb)) asO.out A7.out).mono ?_);rintro e w26 ⟨rfl,hb⟩;refine⟨_,rfl,?_⟩;replace o7:=kb o7 hb;replace yE:=kb yE hb;replace HB:=ak (aC bb hb);(try clear hb)))
     go_ret;exact⟨er,bb⟩
   ·obtain rfl:=Option.some.inj H;go_enter func10,ntmps10;go_wp2_with (first|(refine bE 2 #[.slice jD dN.length jE, .slice jW dQ.length jX, .slice iw aH.length fC] 32 ?_;intro L_ hg w27 hbox hb;have o7:=ak (hbox);have akj:=lq HB hg;have akk:=lq HB hg;replace HB:=bs HB hb;clear hb hbox hg)|(refine bE 3 #[.slice Oy yU.length Oz, .slice Px zZ.length Py, .slice QH Am.length QI] 32 ?_;intro Ap hg w28 hbox hb;have yE:=ak (hbox);have akl:=ak ((by rw[hg];exact(aA bb):w.heap.size≤Ap));have akm:=ak ((by rw[hg];exact(aA bb):w.heap.size≤Ap));have Ce:=ak ((by rw[hg];exact Nat.ne_of_lt (dR (ub o7.out)):L_≠Ap));have Ci:=ak ((by rw[hg];exact Nat.ne_of_gt (dR (ub o7.out)):Ap≠L_));replace o7:=kb o7 hb;replace HB:=ak (aC bb hb);clear hb hbox hg;have aza:=Ce.out;have azb:=Ci.out;obtain⟨NW,NY,QJ,NZ,N7,QK⟩:=jO o7.out;obtain⟨aaz,aaA,agC,aaB,aaC,agD⟩:=jO yE.out)|(refine gL 29 9 func29 #[.slice jD dN.length jE, .slice Oy yU.length Oz] ?_;(with_reducible refine(gu.calls k _ _ dN _ _ yU true _ (cu (aT qG.out HB.out)) qR.out (cu (aT agy.out HB.out)) agz.out A3.out).mono ?_);rintro e w32 ⟨rfl,hb⟩;refine⟨_,rfl,?_⟩;replace o7:=kb o7 hb;replace yE:=kb yE hb;replace HB:=ak (aC bb hb);(try clear hb);obtain⟨aoG,aoH,aoI,aoJ,aoK,aoL⟩:=jO o7.out;obtain⟨WW,WX,aaD,WY,WZ,aaE⟩:=jO yE.out)|(refine gL 19 15 func19 #[.slice jW dQ.length jX, .slice Px zZ.length Py] ?_;(with_reducible refine(gZ.calls k _ _ dQ _ _ zZ false _ (cu (aT vY.out HB.out)) yS.out (cu (aT akh.out HB.out)) aki.out A5.out).mono ?_);rintro e w' ⟨rfl,⟨nd,rfl⟩⟩;refine⟨_,rfl,?_⟩))
    go_ret;exact⟨er,bb⟩
  ·obtain rfl:=Option.some.inj H;go_enter func10,ntmps10;go_wp2_with (first|(refine bE 2 #[.slice jD dN.length jE, .slice jW dQ.length jX, .slice iw aH.length fC] 32 ?_;intro L_ hg w35 hbox hb;have o7:=ak (hbox);have akj:=lq HB hg;have akk:=lq HB hg;replace HB:=bs HB hb;clear hb hbox hg)|(refine bE 3 #[.slice Oy yU.length Oz, .slice Px zZ.length Py, .slice QH Am.length QI] 32 ?_;intro Ap hg w36 hbox hb;have yE:=ak (hbox);have akl:=ak ((by rw[hg];exact(aA bb):w.heap.size≤Ap));have akm:=ak ((by rw[hg];exact(aA bb):w.heap.size≤Ap));have Ce:=ak ((by rw[hg];exact Nat.ne_of_lt (dR (ub o7.out)):L_≠Ap));have Ci:=ak ((by rw[hg];exact Nat.ne_of_gt (dR (ub o7.out)):Ap≠L_));replace o7:=kb o7 hb;replace HB:=ak (aC bb hb);clear hb hbox hg;have aK6:=Ce.out;have aK7:=Ci.out;obtain⟨aoM,aoN,aEm,aoO,aoP,aEn⟩:=jO o7.out;obtain⟨aoQ,aoR,aoS,aoT,aoU,aoV⟩:=jO yE.out)|(refine gL 29 9 func29 #[.slice jD dN.length jE, .slice Oy yU.length Oz] ?_;(with_reducible refine(gu.calls k _ _ dN _ _ yU false _ (cu (aT qG.out HB.out)) qR.out (cu (aT agy.out HB.out)) agz.out A3.out).mono ?_);rintro e w40 ⟨rfl,hb⟩;refine⟨_,rfl,?_⟩;replace o7:=kb o7 hb;replace yE:=kb yE hb;replace HB:=ak (aC bb hb);(try clear hb)))
   go_ret;exact⟨er,bb⟩
 ·intro A0 c0 l0 A1 c1 l1 r w hr0 hc0 hr1 hc1 h;have LU:=underlying32;have HR0:=ak hr0;have sK:=ak hc0;clear hr0 hc0;have HR1:=ak hr1;have HC1:=ak hc1;clear hr1 hc1;have HB:=ak (Below.refl w.heap.size w);have H:(if(l0.length:Int)=(l1.length:Int)then(iZ.l0 k l0 l1 0)else(some false))=some r:=h;clear h;replace H:=sp H;rcases H with⟨c3,H⟩|⟨c3,H⟩
  ·have iK:=beq_iff_eq.mpr c3;have xW:=bne_eq_false_iff_eq.mpr c3;have VX:(l0.length==l1.length)=true:=by first|simpa using c3|(simp at c3⊢;omega)
   clear c3;have H':=ak H;clear H;go_enter func30,ntmps30;go_wp2;go_loopg [5] k (fun kq v5 w'=>∃(aQ:Int),v5= .int .i64 aQ∧ay (iZ.l0 kq l0 l1 aQ=some r)∧ay (kq≤k)∧ay (Below w.heap.size w w'))
   case atStart=>exact⟨(0),rs,H',⟨Nat.le_refl _⟩,⟨ul HB.out⟩⟩
   case round=>
    clear H';try clear c1
    try clear p2
    try clear c3
    try clear iK
    try clear xW
    try clear VX
    obtain⟨aQ,rfl,HA,iM,HB⟩:=hrel
    cases gk with
    |zero=>exact absurd HA.out (by simp[iZ.l0])
    |succ k1=>
     have H:=HA.out;clear HA;simp only[iZ.l0]at H;replace H:=sd H;rcases H with⟨oG,H⟩|⟨oG,H⟩
     ·replace H:=oL H;obtain⟨o_,H⟩:=H;replace H:=oL H;obtain⟨mG,H⟩:=H;replace H:=bd H;obtain⟨ay6,A7,H⟩:=H;replace H:=sb H;rcases H with⟨rfl,H⟩|⟨rfl,H⟩
      ·have H':=ak H;clear H;try go_wp2
       replace HB:=ak (eG HB.out);have Pm:=zi aQ;have Pn:=zj aQ l0.length;obtain⟨Jp,XE,XF,XG,XH,XI,XJ,aed,Aj,Ej,Em,QL,QM,QN,QO,QS,QT⟩:=uU HR0.out aQ Pm Pn;have En:=Em;have Eo:=Ej;have Ep:=Aj;cases aed;replace Aj:=cl HB.out Aj;replace Ej:=cl HB.out Ej;replace Em:=cl HB.out Em;have QU:=ak QM;have aaF:=ak QL;clear QM QL;have QV:=ak QO;have aaG:=ak QN;clear QO QN;have QW:=ak QT;have aaH:=ak QS;clear QT QS;replace Pm:=eq_true Pm;replace Pn:=eq_true Pn;have Po:=zi aQ;have Pq:=zj aQ l1.length;obtain⟨Jq,XK,XL,XM,XO,XP,XQ,aee,Ak,Es,Et,QX,QY,QZ,Q5,Q7,Q8⟩:=uU HR1.out aQ Po Pq;have Eu:=Et;have Ew:=Es;have Ey:=Ak;cases aee;replace Ak:=cl HB.out Ak;replace Es:=cl HB.out Es;replace Et:=cl HB.out Et;have Q9:=ak QY;have aaI:=ak QX;clear QY QX;have Q_:=ak Q5;have aaJ:=ak QZ;clear Q5 QZ;have Rf:=ak Q8;have aaK:=ak Q7;clear Q8 Q7;replace Po:=eq_true Po;replace Pq:=eq_true Pq;refine ro [8] [0,1,2,4,5,6,3,7,8,9] (fun w'=>w'.cell? (Jp.add ((aQ).toNat*3))=some (.slice XE ((aW l0 aQ).f0).length XF)∧w'.cell? ⟨(Jp.add ((aQ).toNat*3)).block,(Jp.add ((aQ).toNat*3)).off+1,none⟩=some (.slice XG ((aW l0 aQ).f1).length XH)∧w'.cell? ⟨(Jp.add ((aQ).toNat*3)).block,(Jp.add ((aQ).toNat*3)).off+2,none⟩=some (.slice XI ((aW l0 aQ).f2).length XJ)∧w'.cell? (Jq.add ((aQ).toNat*3))=some (.slice XK ((aW l1 aQ).f0).length XL)∧w'.cell? ⟨(Jq.add ((aQ).toNat*3)).block,(Jq.add ((aQ).toNat*3)).off+1,none⟩=some (.slice XM ((aW l1 aQ).f1).length XO)∧w'.cell? ⟨(Jq.add ((aQ).toNat*3)).block,(Jq.add ((aQ).toNat*3)).off+2,none⟩=some (.slice XP ((aW l1 aQ).f2).length XQ)) ⟨((HB.out.cell (World.block_lt_of_cell? w _ Ep)).trans Ep),((HB.out.cell (World.block_lt_of_cell? w _ Eo)).trans Eo),((HB.out.cell (World.block_lt_of_cell? w _ En)).trans En),((HB.out.cell (World.block_lt_of_cell? w _ Ey)).trans Ey),((HB.out.cell (World.block_lt_of_cell? w _ Ew)).trans Ew),((HB.out.cell (World.block_lt_of_cell? w _ Eu)).trans Eu)⟩ ?_
       generalize wr.drew=w9 at HB QU QV QW Q9 Q_ Rf Aj Ej Em Ak Es Et⊢
       repeat(refine lk (v:=?_) (a':=?_) (gk.trans rfl) rfl rfl ?_ ?_ ?_;rotate_left;(focus (rintro w' ⟨s0,s1,s2,s3,s4,s5⟩;go_simp;with_reducible rfl));rotate_left;(focus (simp only[Act.put,jI,jJ,l_c,bf,bD];rfl)))
       refine ld (N:=some 25) (gk.trans rfl) rfl rfl (fun K hK=>?_);refine nS func10 (by kernel_rfl) rfl #[.agg #[.slice XE ((aW l0 aQ).f0).length XF, .slice XG ((aW l0 aQ).f1).length XH, .slice XI ((aW l0 aQ).f2).length XJ], .agg #[.slice XK ((aW l1 aQ).f0).length XL, .slice XM ((aW l1 aQ).f1).length XO, .slice XP ((aW l1 aQ).f2).length XQ]] (by rfl) rfl rfl ma ?_
       with_reducible refine((ih k1 (by have:=iM.out;omega)).1 _ _ ((aW l0 aQ).f0) _ _ ((aW l0 aQ).f1) _ _ ((aW l0 aQ).f2) _ _ ((aW l1 aQ).f0) _ _ ((aW l1 aQ).f1) _ _ ((aW l1 aQ).f2) true _ ?iY ?jK ?mJ ?rX ?rY ?rZ ?wu ?akn ?ako ?aek ?ael ?aem A7.out).mono ?_
       (case iY=>repeat(first|exact(aT QU.out HB.out)|(with_reducible refine Kd.fP ?_ _)|(with_reducible refine Kd.fQ ?_ _)|(with_reducible refine Kd.iR ?_)))
       (case jK=>exact aaF.out)
       (case mJ=>repeat(first|exact(aT QV.out HB.out)|(with_reducible refine Kd.fP ?_ _)|(with_reducible refine Kd.fQ ?_ _)|(with_reducible refine Kd.iR ?_)))
       (case rX=>exact aaG.out)
       (case rY=>repeat(first|exact(aT QW.out HB.out)|(with_reducible refine Kd.fP ?_ _)|(with_reducible refine Kd.fQ ?_ _)|(with_reducible refine Kd.iR ?_)))
       (case rZ=>exact aaH.out)
       (case wu=>repeat(first|exact(aT Q9.out HB.out)|(with_reducible refine Kd.fP ?_ _)|(with_reducible refine Kd.fQ ?_ _)|(with_reducible refine Kd.iR ?_)))
       (case akn=>exact aaI.out)
       (case ako=>repeat(first|exact(aT Q_.out HB.out)|(with_reducible refine Kd.fP ?_ _)|(with_reducible refine Kd.fQ ?_ _)|(with_reducible refine Kd.iR ?_)))
       (case aek=>exact aaJ.out)
       (case ael=>repeat(first|exact(aT Rf.out HB.out)|(with_reducible refine Kd.fP ?_ _)|(with_reducible refine Kd.fQ ?_ _)|(with_reducible refine Kd.iR ?_)))
       (case aem=>exact aaK.out);rintro e w10 ⟨rfl,hb⟩;refine⟨_,rfl,?_⟩;replace HB:=bs HB hb
       (try clear hb);refine hK.out _ _ ⟨((HB.out.cell (World.block_lt_of_cell? w _ Ep)).trans Ep),((HB.out.cell (World.block_lt_of_cell? w _ Eo)).trans Eo),((HB.out.cell (World.block_lt_of_cell? w _ En)).trans En),((HB.out.cell (World.block_lt_of_cell? w _ Ey)).trans Ey),((HB.out.cell (World.block_lt_of_cell? w _ Ew)).trans Ew),((HB.out.cell (World.block_lt_of_cell? w _ Eu)).trans Eu)⟩ ?_;clear hK K;refine no (a':=?_) ?_ ?_
       rotate_left
       ·show Act.put _ (some 25) _=_
        simp only[Act.put,jI,jJ,l_c,bf,bD];rfl
       repeat(refine lk (v:=?_) (a':=?_) (gk.trans rfl) rfl rfl ?_ ?_ ?_;rotate_left;(focus (rintro w' ⟨s0,s1,s2,s3,s4,s5⟩;go_simp;with_reducible rfl));rotate_left;(focus (simp only[Act.put,jI,jJ,l_c,bf,bD];rfl)))
       refine on ?_;try go_wp2
       go_roundg k1
       case measure=>have:=iM.out;omega
       case rel=>exact⟨(wrap64 (aQ+1)),rs,H',⟨by have:=iM.out;omega⟩,⟨ul HB.out⟩⟩
      ·obtain rfl:=Option.some.inj H;try go_wp2
       replace HB:=ak (eG HB.out);have Pm:=zi aQ;have Pn:=zj aQ l0.length;obtain⟨Jp,XE,XF,XG,XH,XI,XJ,aed,Aj,Ej,Em,QL,QM,QN,QO,QS,QT⟩:=uU HR0.out aQ Pm Pn;have En:=Em;have Eo:=Ej;have Ep:=Aj;cases aed;replace Aj:=cl HB.out Aj;replace Ej:=cl HB.out Ej;replace Em:=cl HB.out Em;have QU:=ak QM;have aaF:=ak QL;clear QM QL;have QV:=ak QO;have aaG:=ak QN;clear QO QN;have QW:=ak QT;have aaH:=ak QS;clear QT QS;replace Pm:=eq_true Pm;replace Pn:=eq_true Pn;have Po:=zi aQ;have Pq:=zj aQ l1.length;obtain⟨Jq,XK,XL,XM,XO,XP,XQ,aee,Ak,Es,Et,QX,QY,QZ,Q5,Q7,Q8⟩:=uU HR1.out aQ Po Pq;have Eu:=Et;have Ew:=Es;have Ey:=Ak;cases aee;replace Ak:=cl HB.out Ak;replace Es:=cl HB.out Es;replace Et:=cl HB.out Et;have Q9:=ak QY;have aaI:=ak QX;clear QY QX;have Q_:=ak Q5;have aaJ:=ak QZ;clear Q5 QZ;have Rf:=ak Q8;have aaK:=ak Q7;clear Q8 Q7;replace Po:=eq_true Po;replace Pq:=eq_true Pq;refine ro [8] [0,1,2,4,5,6,3,7,8,9] (fun w'=>w'.cell? (Jp.add ((aQ).toNat*3))=some (.slice XE ((aW l0 aQ).f0).length XF)∧w'.cell? ⟨(Jp.add ((aQ).toNat*3)).block,(Jp.add ((aQ).toNat*3)).off+1,none⟩=some (.slice XG ((aW l0 aQ).f1).length XH)∧w'.cell? ⟨(Jp.add ((aQ).toNat*3)).block,(Jp.add ((aQ).toNat*3)).off+2,none⟩=some (.slice XI ((aW l0 aQ).f2).length XJ)∧w'.cell? (Jq.add ((aQ).toNat*3))=some (.slice XK ((aW l1 aQ).f0).length XL)∧w'.cell? ⟨(Jq.add ((aQ).toNat*3)).block,(Jq.add ((aQ).toNat*3)).off+1,none⟩=some (.slice XM ((aW l1 aQ).f1).length XO)∧w'.cell? ⟨(Jq.add ((aQ).toNat*3)).block,(Jq.add ((aQ).toNat*3)).off+2,none⟩=some (.slice XP ((aW l1 aQ).f2).length XQ)) ⟨((HB.out.cell (World.block_lt_of_cell? w _ Ep)).trans Ep),((HB.out.cell (World.block_lt_of_cell? w _ Eo)).trans Eo),((HB.out.cell (World.block_lt_of_cell? w _ En)).trans En),((HB.out.cell (World.block_lt_of_cell? w _ Ey)).trans Ey),((HB.out.cell (World.block_lt_of_cell? w _ Ew)).trans Ew),((HB.out.cell (World.block_lt_of_cell? w _ Eu)).trans Eu)⟩ ?_
       generalize wr.drew=Uy at HB QU QV QW Q9 Q_ Rf Aj Ej Em Ak Es Et⊢
       repeat(refine lk (v:=?_) (a':=?_) (gk.trans rfl) rfl rfl ?_ ?_ ?_;rotate_left;(focus (rintro w' ⟨s0,s1,s2,s3,s4,s5⟩;go_simp;with_reducible rfl));rotate_left;(focus (simp only[Act.put,jI,jJ,l_c,bf,bD];rfl)))
       refine ld (N:=some 25) (gk.trans rfl) rfl rfl (fun K hK=>?_);refine nS func10 (by kernel_rfl) rfl #[.agg #[.slice XE ((aW l0 aQ).f0).length XF, .slice XG ((aW l0 aQ).f1).length XH, .slice XI ((aW l0 aQ).f2).length XJ], .agg #[.slice XK ((aW l1 aQ).f0).length XL, .slice XM ((aW l1 aQ).f1).length XO, .slice XP ((aW l1 aQ).f2).length XQ]] (by rfl) rfl rfl ma ?_
       with_reducible refine((ih k1 (by have:=iM.out;omega)).1 _ _ ((aW l0 aQ).f0) _ _ ((aW l0 aQ).f1) _ _ ((aW l0 aQ).f2) _ _ ((aW l1 aQ).f0) _ _ ((aW l1 aQ).f1) _ _ ((aW l1 aQ).f2) false _ ?iY ?jK ?mJ ?rX ?rY ?rZ ?wu ?akn ?ako ?aek ?ael ?aem A7.out).mono ?_
       (case iY=>repeat(first|exact(aT QU.out HB.out)|(with_reducible refine Kd.fP ?_ _)|(with_reducible refine Kd.fQ ?_ _)|(with_reducible refine Kd.iR ?_)))
       (case jK=>exact aaF.out)
       (case mJ=>repeat(first|exact(aT QV.out HB.out)|(with_reducible refine Kd.fP ?_ _)|(with_reducible refine Kd.fQ ?_ _)|(with_reducible refine Kd.iR ?_)))
       (case rX=>exact aaG.out)
       (case rY=>repeat(first|exact(aT QW.out HB.out)|(with_reducible refine Kd.fP ?_ _)|(with_reducible refine Kd.fQ ?_ _)|(with_reducible refine Kd.iR ?_)))
       (case rZ=>exact aaH.out)
       (case wu=>repeat(first|exact(aT Q9.out HB.out)|(with_reducible refine Kd.fP ?_ _)|(with_reducible refine Kd.fQ ?_ _)|(with_reducible refine Kd.iR ?_)))
       (case akn=>exact aaI.out)
       (case ako=>repeat(first|exact(aT Q_.out HB.out)|(with_reducible refine Kd.fP ?_ _)|(with_reducible refine Kd.fQ ?_ _)|(with_reducible refine Kd.iR ?_)))
       (case aek=>exact aaJ.out)
       (case ael=>repeat(first|exact(aT Rf.out HB.out)|(with_reducible refine Kd.fP ?_ _)|(with_reducible refine Kd.fQ ?_ _)|(with_reducible refine Kd.iR ?_)))
       (case aem=>exact aaK.out);rintro e w12 ⟨rfl,hb⟩;refine⟨_,rfl,?_⟩;replace HB:=bs HB hb
       (try clear hb);refine hK.out _ _ ⟨((HB.out.cell (World.block_lt_of_cell? w _ Ep)).trans Ep),((HB.out.cell (World.block_lt_of_cell? w _ Eo)).trans Eo),((HB.out.cell (World.block_lt_of_cell? w _ En)).trans En),((HB.out.cell (World.block_lt_of_cell? w _ Ey)).trans Ey),((HB.out.cell (World.block_lt_of_cell? w _ Ew)).trans Ew),((HB.out.cell (World.block_lt_of_cell? w _ Eu)).trans Eu)⟩ ?_;clear hK K;refine no (a':=?_) ?_ ?_
       rotate_left
       ·show Act.put _ (some 25) _=_
        simp only[Act.put,jI,jJ,l_c,bf,bD];rfl
       repeat(refine lk (v:=?_) (a':=?_) (gk.trans rfl) rfl rfl ?_ ?_ ?_;rotate_left;(focus (rintro w' ⟨s0,s1,s2,s3,s4,s5⟩;go_simp;with_reducible rfl));rotate_left;(focus (simp only[Act.put,jI,jJ,l_c,bf,bD];rfl)))
       refine on ?_;try go_wp2
       go_ret;exact⟨er,ul HB.out⟩
     ·obtain rfl:=Option.some.inj H;go_wp2;go_ret;exact⟨er,ul HB.out⟩
  ·have iK:=beq_eq_false_iff_ne.mpr c3;have xW:=bne_iff_ne.mpr c3;have VX:(l0.length==l1.length)=false:=by first|simpa using c3|(simp at c3⊢;omega)
   obtain rfl:=Option.some.inj H;go_enter func30,ntmps30;go_wp2;go_ret;exact⟨er,ul HB.out⟩
theorem lK.calls(k:Nat)(jD:Option Addr)(jE:Nat)(dN:List (gI))(jW:Option Addr)(jX:Nat)(dQ:List ByteArray)(iw:Option Addr)(fC:Nat)(aH:List (ku))(Oy:Option Addr)(Oz:Nat)(yU:List (gI))(Px:Option Addr)(Py:Nat)(zZ:List ByteArray)(QH:Option Addr)(QI:Nat)(Am:List (ku))(r:Bool)(w:World)(pF:Kd.C oN w jD dN.length dN)(pG:dN.length≤jE)(pJ:Kd.C Kd.string w jW dQ.length dQ)(pK:dQ.length≤jX)(lZ:Kd.C k32 w iw aH.length aH)(l7:aH.length≤fC)(Zw:Kd.C oN w Oy yU.length yU)(Zx:yU.length≤Oz)(Zy:Kd.C Kd.string w Px zZ.length zZ)(Zz:zZ.length≤Py)(ZA:Kd.C k32 w QH Am.length Am)(ZB:Am.length≤QI)(h:lK.f k dN dQ aH yU zZ Am=some r):
  Calls Tryz.prog 10 #[.agg #[.slice jD dN.length jE, .slice jW dQ.length jX, .slice iw aH.length fC], .agg #[.slice Oy yU.length Oz, .slice Px zZ.length Py, .slice QH Am.length QI]] w fun e w'=>e= .returned (.bool r)∧Below w.heap.size w w':=(lK.pair k).1 jD jE dN jW jX dQ iw fC aH Oy Oz yU Px Py zZ QH QI Am r w pF pG pJ pK lZ l7 Zw Zx Zy Zz ZA ZB h
theorem iZ.calls(k:Nat)(A0:Option Addr)(c0:Nat)(l0:List (ku))(A1:Option Addr)(c1:Nat)(l1:List (ku))(r:Bool)(w:World)(hr0:Kd.C k32 w A0 l0.length l0)(hc0:l0.length≤c0)(hr1:Kd.C k32 w A1 l1.length l1)(hc1:l1.length≤c1)(h:iZ.f k l0 l1=some r):
  Calls Tryz.prog 30 #[.slice A0 l0.length c0, .slice A1 l1.length c1] w fun e w'=>e= .returned (.bool r)∧Below w.heap.size w w':=(lK.pair k).2 A0 c0 l0 A1 c1 l1 r w hr0 hc0 hr1 hc1 h
mutual
def aY.j0:Nat→ByteArray→Int→Option (List ByteArray)
 |0,_,_=>none
 |k+1,x3,x4=>aY.l0 k x3 x4 (([]:List ByteArray))
def aY.l0:Nat→ByteArray→Int→List ByteArray→Option (List ByteArray)
 |0,_,_,_=>none
 |k+1,x3,x4,x5=>if(x3.size:Int)>40 then(aY.l1 k x3 x5 (-1) x4)else(if x5.length<8796093022208 then(some (x5++[x3]))else(none))
def aY.l1:Nat→ByteArray→List ByteArray→Int→Int→Option (List ByteArray)
 |0,_,_,_,_=>none
 |k+1,x3,x5,x6,x7=>if(wrap64 (x7+1))<(x3.size:Int)then(if 0≤x7 then(if x7<(x3.size:Int)then(if(bt x3 x7)=32 then(if 0≤(wrap64 (x7-1))then(if(wrap64 (x7-1))<(x3.size:Int)then(if(bt x3 (wrap64 (x7-1)))=32 then(aY.l1 k x3 x5 x6 (wrap64 (x7+1)))else(if 0≤(wrap64 (x7+1))then(if(bt x3 (wrap64 (x7+1)))=32 then(aY.l1 k x3 x5 x6 (wrap64 (x7+1)))else(if x6<0 then(aY.l1 k x3 x5 x7 (wrap64 (x7+1)))else(if x7≤40 then(aY.l1 k x3 x5 x7 (wrap64 (x7+1)))else(aY.l1 k x3 x5 x6 (wrap64 (x7+1))))))else(none)))else(none))else(none))else(aY.l1 k x3 x5 x6 (wrap64 (x7+1))))else(none))else(none))else(if x6<0 then(if x5.length<8796093022208 then(some (x5++[x3]))else(none))else(if 0≤x6 then(if x6≤(x3.size:Int)then(if x5.length<8796093022208 then(aY.l0 k (x3.extract (x6:Int).toNat x3.size) 2 (x5++[x3.extract 0 (x6:Int).toNat]))else(none))else(none))else(none)))
end
def aY.f(k:Nat)(bT:ByteArray)(cZ:ByteArray):Option (List ByteArray):=if bT.size+1≤9223372036854775807 then(if cZ.toList=([]:List UInt8)then(aY.j0 k (bT++(⟨#[58]⟩:ByteArray)) (wrap64 ((bT.size:Int)+3)))else(if 1+cZ.size≤9223372036854775807 then(if(bT++(⟨#[58]⟩:ByteArray)).size+((⟨#[32]⟩:ByteArray)++cZ).size≤9223372036854775807 then(aY.j0 k ((bT++(⟨#[58]⟩:ByteArray))++((⟨#[32]⟩:ByteArray)++cZ)) (wrap64 ((bT.size:Int)+3)))else(none))else(none)))else(none)
theorem aY.calls(k:Nat)(bT:ByteArray)(cZ:ByteArray)(r:List ByteArray)(w:World)(h:aY.f k bT cZ=some r):
  Calls Tryz.prog 72 #[.agg #[.string bT, .string cZ]] w fun e w'=>∃sZ:Value,e= .returned (sZ)∧Kd.R Kd.string 9 w' w.heap.size (fun _=>True) sZ r∧Below w.heap.size w w':=by
 have Jo:=underlying63;have HB:=ak (Below.refl w.heap.size w);have H:(if bT.size+1≤9223372036854775807 then(if cZ.toList=([]:List UInt8)then(aY.j0 k (bT++(⟨#[58]⟩:ByteArray)) (wrap64 ((bT.size:Int)+3)))else(if 1+cZ.size≤9223372036854775807 then(if(bT++(⟨#[58]⟩:ByteArray)).size+((⟨#[32]⟩:ByteArray)++cZ).size≤9223372036854775807 then(aY.j0 k ((bT++(⟨#[58]⟩:ByteArray))++((⟨#[32]⟩:ByteArray)++cZ)) (wrap64 ((bT.size:Int)+3)))else(none))else(none)))else(none))=some r:=h;clear h;replace H:=nn H;obtain⟨c2,H⟩:=H;have zY:=eq_true c2;have PV:=decide_eq_true c2;try have alU:(9223372036854775807<bT.size+1)=False:=eq_false (Nat.not_lt.2 c2)
 have HC3:=ak H;clear H;go_enter func72,ntmps72;try go_wp2_with (refine bX HB 1 #[.string bT, .string cZ] 63 ?_;intro VI w4 o9 aMU hb;replace HB:=bs HB hb;clear hb)
 refine rO [] [0,3,1,2,7,4,5,6,8] (fun w'=>w'.cell? ⟨VI,0,none⟩=some (.string bT)∧w'.cell? ⟨VI,1,none⟩=some (.string cZ)) ?_;intro w5 hb;replace o9:=kb o9 hb;replace HB:=bs HB hb;refine⟨sx,?_⟩;repeat refine lo_ ?_
 refine on ?_;have z6:=Ah o9.out;go_upto_if 17 with(fail)
 go_cut [3] (fun v3 wc=>∃(kq:Nat) (mQ:ByteArray),v3= .string mQ∧ay (aY.j0 kq mQ (wrap64 ((bT.size:Int)+3))=some r)∧ay (kq≤k)∧ay (wc.heap[VI]? =some (.cells #[.string bT, .string cZ] 63 (0,0)))∧ay (Below w.heap.size w wc))
 case first=>
  have H:=HC3.out;clear HC3;replace H:=sp H;rcases H with⟨c7,H⟩|⟨c7,H⟩
  ·have qp:=beq_iff_eq.mpr c7;have c7e:(cZ.toList).isEmpty=true:=List.isEmpty_iff.mpr c7;have D_:=bne_eq_false_iff_eq.mpr c7;clear c7
   (first|rw[qp]|(simp only[bf,bD];rw[qp])|skip)
   (first|(rw[c7e];simp only[Bool.not_true,Bool.not_false])|skip);have H':=ak H;clear H;go_wp2;go_meet
   case rel=>exact⟨_,_,rs,H',⟨XV⟩,⟨ub o9.out⟩,⟨bb⟩⟩
  ·have qp:=beq_eq_false_iff_ne.mpr c7;have c7e:(cZ.toList).isEmpty=false:=List.isEmpty_eq_false_iff.mpr c7;have D_:=bne_iff_ne.mpr c7
   (first|rw[qp]|(simp only[bf,bD];rw[qp])|skip)
   (first|(rw[c7e];simp only[Bool.not_true,Bool.not_false])|skip);replace H:=nn H;obtain⟨c8,H⟩:=H;have rV:=eq_true c8;have G7:=decide_eq_true c8;try have aoF:(9223372036854775807<1+cZ.size)=False:=eq_false (Nat.not_lt.2 c8)
   replace H:=nn H;obtain⟨c9,H⟩:=H;have vI:=eq_true c9;have Df:=decide_eq_true c9;try have aQe:(9223372036854775807<bT.size+1+(1+cZ.size))=False:=by have h_:=(eq_false (Nat.not_lt.2 c9):(9223372036854775807<(bT++(⟨#[58]⟩:ByteArray)).size+((⟨#[32]⟩:ByteArray)++cZ).size)=False);simp only[ByteArray.size_append]at h_;exact h_
   try have aqD:(9223372036854775807<(bT++(⟨#[58]⟩:ByteArray)).size+((⟨#[32]⟩:ByteArray)++cZ).size)=False:=eq_false (Nat.not_lt.2 c9)
   have H':=ak H;clear H;have z10:=Ah o9.out;go_wp2;go_meet
   case rel=>exact⟨_,_,rs,H',⟨XV⟩,⟨ub o9.out⟩,⟨bb⟩⟩
 case rest=>
  clear HC3;try clear c2
  try clear zY
  try clear PV
  try clear alU
  obtain⟨kq,mQ,rfl,HA,HJ2,o9,HB⟩:=hcut
  cases kq with
  |zero=>exact zz HA.out
  |succ kj2=>
   obtain⟨H⟩:=HA;simp only[aY.j0]at H;obtain⟨aJB,amC⟩:=nm ([]:List ByteArray);rw[←amC.out]at H;have H':=ak H;clear H;go_wp2_with (refine lRN 23 Kd.string 9 amC ?_;intro aQf Uy Yr hb;have aCo:=ak (bQ Yr (aA bb));replace o9:=kb o9 hb;replace HB:=bz HB hb;clear hb Yr)
   go_loopg [3,4,5] kj2 (fun kq v3 v4 v5 w'=>∃(mQ:ByteArray) (iQ:Int) (iI:List ByteArray),v3= .string mQ∧v4= .int .i64 iQ∧ay (aY.l0 kq mQ iQ iI=some r)∧ay (kq≤kj2)∧ay (Kd.R Kd.string 9 w' w.heap.size (fun _=>True) v5 iI)∧ay (w'.heap[VI]? =some (.cells #[.string bT, .string cZ] 63 (0,0)))∧ay (Below w.heap.size w w'))
   case atStart=>exact⟨_,_,_,rs,rs,H',⟨Nat.le_refl _⟩,⟨ur aCo.out⟩,⟨ub o9.out⟩,⟨bb⟩⟩
   case round=>
    clear H';try clear c2
    try clear zY
    try clear PV
    try clear alU
    obtain⟨mQ,iQ,iI,rfl,rfl,HA,yR,vZ,o9,HB⟩:=hrel
    cases gk with
    |zero=>exact zz HA.out
    |succ k2=>
     obtain⟨H⟩:=HA;simp only[aY.l0]at H;replace H:=sp H;rcases H with⟨c13,H⟩|⟨c13,H⟩
     ·have vJ:decide (40<(mQ.size:Int))=true:=decide_eq_true c13;have BP:decide (40<mQ.size)=true:=decide_eq_true (by omega);clear c13;have H':=ak H;clear H;go_wp2;go_loopg [6,7] k2 (fun kq v6 v7 w'=>∃(Cj:Int) (nV:Int),v6= .int .i64 Cj∧v7= .int .i64 nV∧ay (aY.l1 kq mQ iI Cj nV=some r)∧ay (kq≤k2)∧ay (Kd.R Kd.string 9 w' w.heap.size (fun _=>True) u5 iI)∧ay (w'.heap[VI]? =some (.cells #[.string bT, .string cZ] 63 (0,0)))∧ay (Below w.heap.size w w'))
      case atStart=>exact⟨_,_,rs,rs,H',⟨Nat.le_refl _⟩,⟨ur vZ.out⟩,⟨ub o9.out⟩,⟨bb⟩⟩
      case round=>
       clear H';try clear c2
       try clear zY
       try clear PV
       try clear alU
       try clear c13
       try clear vJ
       try clear BP
       obtain⟨Cj,nV,rfl,rfl,HA,OT,vZ,o9,HB⟩:=hrel
       cases gk with
       |zero=>exact zz HA.out
       |succ k3=>
        obtain⟨H⟩:=HA;simp only[aY.l1]at H;replace H:=sp H;rcases H with⟨c14,H⟩|⟨c14,H⟩
        ·have tH:=decide_eq_true c14
         (try(have xq:decide ((nV+1)<(mQ.size:Int))=true:=decide_eq_true (by have h_:=c14;unfold wrap64 at h_;omega)));clear c14;replace H:=oL H;obtain⟨uy,H⟩:=H;replace H:=oL H;obtain⟨L6,H⟩:=H;replace H:=sq H;rcases H with⟨Hy,adq,H⟩|⟨c18,Hy,adq,H⟩
         ·obtain⟨abS,amD⟩:∃j_:Int,(wrap64 (nV-1))=j_:=⟨_,rfl⟩
          replace H:(if 0≤(abS)then(if(abS)<(mQ.size:Int)then(if(bt mQ (abS))=32 then(aY.l1 k3 mQ iI Cj (wrap64 (nV+1)))else(if 0≤(wrap64 (nV+1))then(if(bt mQ (wrap64 (nV+1)))=32 then(aY.l1 k3 mQ iI Cj (wrap64 (nV+1)))else(if Cj<0 then(aY.l1 k3 mQ iI nV (wrap64 (nV+1)))else(if nV≤40 then(aY.l1 k3 mQ iI nV (wrap64 (nV+1)))else(aY.l1 k3 mQ iI Cj (wrap64 (nV+1))))))else(none)))else(none))else(none))=some r:=by first|(rw[amD]at H;exact H)|(simp only[amD]at H⊢;exact H)
          have aJC:(IntKind.i64.wrap (nV-1))=abS:=(bf _).trans amD;replace H:=oL H;obtain⟨VA,H⟩:=H;replace H:=oL H;obtain⟨FZ,H⟩:=H;replace H:=sq H;rcases H with⟨L8,agw,H⟩|⟨c23,L8,agw,H⟩
          ·have H':=ak H;clear H;obtain⟨p17,q17,amE⟩:=bx mQ nV;obtain⟨p22,q22,ari⟩:=bx mQ (abS);go_wp2;go_roundg k3
           case measure=>exact kl
           case rel=>exact⟨_,_,rs,rs,H',⟨kl⟩,⟨ur vZ.out⟩,⟨ub o9.out⟩,⟨bb⟩⟩
          ·obtain⟨P7,VJ⟩:∃j_:Int,(wrap64 (nV+1))=j_:=⟨_,rfl⟩
           replace H:(if 0≤(P7)then(if(bt mQ (P7))=32 then(aY.l1 k3 mQ iI Cj P7)else(if Cj<0 then(aY.l1 k3 mQ iI nV P7)else(if nV≤40 then(aY.l1 k3 mQ iI nV P7)else(aY.l1 k3 mQ iI Cj P7))))else(none))=some r:=by first|(rw[VJ]at H;exact H)|(simp only[VJ]at H⊢;exact H)
           (try rw[VJ]at tH);have aJD:(IntKind.i64.wrap (nV+1))=P7:=(bf _).trans VJ;replace H:=oL H;obtain⟨Hz,H⟩:=H;replace H:=sq H;rcases H with⟨OO,alN,H⟩|⟨c27,OO,alN,H⟩
           ·have H':=ak H;clear H;obtain⟨p17,q17,amE⟩:=bx mQ nV;obtain⟨p22,q22,ari⟩:=bx mQ (abS);obtain⟨p26,q26,axI⟩:=bx mQ (P7);go_wp2;go_roundg k3
            case measure=>exact kl
            case rel=>exact⟨_,_,rs,(by first|rfl|(simp;done)|(simp only[←VJ]<;>(first|rfl|simp))|(simp[*];done)),H',⟨kl⟩,⟨ur vZ.out⟩,⟨ub o9.out⟩,⟨bb⟩⟩
           ·replace H:=sd H;rcases H with⟨OQ,H⟩|⟨OQ,H⟩
            ·have H':=ak H;clear H;obtain⟨p17,q17,amE⟩:=bx mQ nV;obtain⟨p22,q22,ari⟩:=bx mQ (abS);obtain⟨p26,q26,axI⟩:=bx mQ (P7);go_wp2;go_roundg k3
             case measure=>exact kl
             case rel=>exact⟨_,_,rs,(by first|rfl|(simp;done)|(simp only[←VJ]<;>(first|rfl|simp))|(simp[*];done)),H',⟨kl⟩,⟨ur vZ.out⟩,⟨ub o9.out⟩,⟨bb⟩⟩
            ·replace H:=sd H;rcases H with⟨atT,H⟩|⟨atT,H⟩
             ·have H':=ak H;clear H;obtain⟨p17,q17,amE⟩:=bx mQ nV;obtain⟨p22,q22,ari⟩:=bx mQ (abS);obtain⟨p26,q26,axI⟩:=bx mQ (P7);go_wp2;go_roundg k3
              case measure=>exact kl
              case rel=>exact⟨_,_,rs,(by first|rfl|(simp;done)|(simp only[←VJ]<;>(first|rfl|simp))|(simp[*];done)),H',⟨kl⟩,⟨ur vZ.out⟩,⟨ub o9.out⟩,⟨bb⟩⟩
             ·have H':=ak H;clear H;obtain⟨p17,q17,amE⟩:=bx mQ nV;obtain⟨p22,q22,ari⟩:=bx mQ (abS);obtain⟨p26,q26,axI⟩:=bx mQ (P7);go_wp2;go_roundg k3
              case measure=>exact kl
              case rel=>exact⟨_,_,rs,(by first|rfl|(simp;done)|(simp only[←VJ]<;>(first|rfl|simp))|(simp[*];done)),H',⟨kl⟩,⟨ur vZ.out⟩,⟨ub o9.out⟩,⟨bb⟩⟩
         ·have H':=ak H;clear H;obtain⟨p17,q17,amE⟩:=bx mQ nV;go_wp2;go_roundg k3
          case measure=>exact kl
          case rel=>exact⟨_,_,rs,rs,H',⟨kl⟩,⟨ur vZ.out⟩,⟨ub o9.out⟩,⟨bb⟩⟩
        ·have tH:=decide_eq_false c14
         (try(have xq:decide ((nV+1)<(mQ.size:Int))=false:=decide_eq_false (by have h_:=c14;unfold wrap64 at h_;omega)));clear c14;replace H:=sd H;rcases H with⟨amF,H⟩|⟨amF,H⟩
         ·replace H:=nl H;obtain⟨ac4,H⟩:=H;obtain⟨aQg,aup⟩:=nm (iI++[mQ]);rw[←aup.out]at H;obtain rfl:=s1 H;go_wp2_with ((with_reducible refine bM (b:= .append) (xs:=#[.tmp 73, .tmp 75]) rfl ?_);at_builtin;refine iT Kd.string (w0:=w) w.heap.size rfl (.tmp 73) (.tmp 75) 23 9 (.string ⟨#[]⟩) 16 rfl underlying23 info9 rfl (by decide) (by omega) u5 iI mQ [.string mQ] (fun _=>True) (fun _=>False) rfl rfl ?aP (fun _ hk=>hk.elim) ?aF ?aO ?aB ?aS ?aL ?_;(case aP=>exact rfl);(case aB=>exact bb);(case aF=>exact(fun _ _=>trivial));(case aO=>exact(ur vZ.out));(case aS=>exact(aA bb));(case aL=>have:=ac4.out;omega);intro aQh w32 ho hb hg hat;rw[←aup.out]at ho;have aCp:=ak (ho);replace o9:=ak (gK (g:=VI) (o:= .cells #[.string bT, .string cZ] 63 (0,0)) (ub o9.out) hg (BO vZ.out o9.out (by decide)));replace HB:=ak (hb);clear ho hb hg hat vZ)
          go_ret;exact⟨_,er,ur aCp.out,bb⟩
         ·replace H:=Fe H;obtain⟨akE,atW,H⟩:=H;replace H:=Fe H;obtain⟨ahH,atX,H⟩:=H;replace H:=nl H;obtain⟨aCq,H⟩:=H;obtain⟨aJE,auq⟩:=nm (iI++[mQ.extract 0 (Cj:Int).toNat]);rw[←auq.out]at H;have alZ:=eq_true (of_decide_eq_true (by assumption):0≤Cj);have aty:=eq_true (of_decide_eq_true (by assumption):Cj≤(mQ.size:Int));have H':=ak H;clear H;try go_wp2
          replace vZ:=ak (Ai vZ.out);replace o9:=ak (au o9.out);replace HB:=ak (eG HB.out);refine ro [4,5] [0,1,2,3,6,7,8,4,5,9,10,11] (fun w'=>True) trivial ?_
          generalize wr.drew=w38 at vZ o9 HB⊢
          repeat refine lo_ ?_
          refine ld (N:=some 68) (gk.trans rfl) rfl rfl (fun K hK=>?_);refine aar (w1:=?_) (v:=?_) (by rfl) rfl ?_ ?_
          rotate_left 2
          ·go_simp;constructor
           ·rfl
           ·rfl
          refine hK.out _ _ trivial ?_;clear hK K;refine no (a':=?_) ?_ ?_
          rotate_left
          ·show Act.put _ (some 68) _=_
           simp only[Act.put,jI,jJ,l_c,bf,bD];rfl
          refine ld (N:=some 69) (gk.trans rfl) rfl rfl (fun K hK=>?_);refine yT Kd.string (w0:=w) w.heap.size (by rfl) (.tmp 64) (.tmp 68) 23 9 (.string ⟨#[]⟩) 16 rfl underlying23 info9 rfl (by decide) (by omega) u5 iI (mQ.extract 0 (Cj:Int).toNat) [.string (mQ.extract 0 (Cj:Int).toNat)] (fun _=>True) (fun _=>False) rfl rfl ?aP (fun _ hk=>hk.elim) ?aF ?aO ?aB ?aS ?aL ?_
          (case aP=>exact rfl)
          (case aB=>exact bb)
          (case aF=>exact(fun _ _=>trivial))
          (case aO=>exact(ur vZ.out))
          (case aS=>exact(aA bb))
          (case aL=>have:=aCq.out;omega);intro aQi w39 ho hb hg hat
          rw[←auq.out]at ho;have iE:=ak (gK (g:=VI) (o:= .cells #[.string bT, .string cZ] 63 (0,0)) (ub o9.out) hg (BO vZ.out o9.out (by decide)));have iF:=ak (hb);have lD:=ak (ho);clear o9 HB vZ;have o9:=iE;have HB:=iF;have aCr:=lD;clear iE iF lD ho hb hg hat
          refine hK.out _ _ trivial ?_;clear hK K;refine no (a':=?_) ?_ ?_
          rotate_left
          ·show Act.put _ (some 69) _=_
           simp only[Act.put,jI,jJ,l_c,bf,bD];rfl
          repeat refine lo_ ?_
          refine on ?_;try go_wp2
          go_roundg k3
          case measure=>exact kl
          case rel=>exact⟨_,_,_,rs,rs,H',⟨kl⟩,⟨ur aCr.out⟩,⟨ub o9.out⟩,⟨bb⟩⟩
     ·have vJ:decide (40<(mQ.size:Int))=false:=decide_eq_false c13;have BP:decide (40<mQ.size)=false:=decide_eq_false (by omega);clear c13;replace H:=nl H;obtain⟨amG,H⟩:=H;obtain⟨aQj,aur⟩:=nm (iI++[mQ]);rw[←aur.out]at H;obtain rfl:=s1 H;go_wp2_with ((with_reducible refine bM (b:= .append) (xs:=#[.tmp 73, .tmp 75]) rfl ?_);at_builtin;refine iT Kd.string (w0:=w) w.heap.size rfl (.tmp 73) (.tmp 75) 23 9 (.string ⟨#[]⟩) 16 rfl underlying23 info9 rfl (by decide) (by omega) u5 iI mQ [.string mQ] (fun _=>True) (fun _=>False) rfl rfl ?aP (fun _ hk=>hk.elim) ?aF ?aO ?aB ?aS ?aL ?_;(case aP=>exact rfl);(case aB=>exact bb);(case aF=>exact(fun _ _=>trivial));(case aO=>exact(ur vZ.out));(case aS=>exact(aA bb));(case aL=>have:=amG.out;omega);intro aQk w41 ho hb hg hat;rw[←aur.out]at ho;have aCs:=ak (ho);replace o9:=ak (gK (g:=VI) (o:= .cells #[.string bT, .string cZ] 63 (0,0)) (ub o9.out) hg (BO vZ.out o9.out (by decide)));replace HB:=ak (hb);clear ho hb hg hat vZ)
      go_ret;exact⟨_,er,ur aCs.out,bb⟩
def jk.l0:Nat→List ByteArray→List (gI)→Int→Int→Option (List ByteArray×Bool)
 |0,_,_,_,_=>none
 |k+1,x4,x11,x12,Wj=>if Wj<x12 then(if 0≤Wj then(if Wj<(x11.length:Int)then((aY.f k ((aG x11 Wj).f0) ((aG x11 Wj).f1)).bind fun afs=>(if x4.length+afs.length<8796093022208 then(jk.l0 k (x4++afs) x11 x12 (wrap64 (Wj+1)))else(none)))else(none))else(none))else(some (x4,true))
def jk.f(k:Nat)(l0:List (gI)):Option (List ByteArray×Bool):=(lV.f k l0).bind fun arj=>(if arj=true then(jk.l0 k (([]:List ByteArray)) l0 (l0.length:Int) 0)else(some (([]:List ByteArray),false)))
set_option maxHeartbeats 8000000 in
set_option maxRecDepth 100000 in
theorem jk.calls(k:Nat)(A0:Option Addr)(c0:Nat)(l0:List (gI))(r1:List ByteArray)(r2:Bool)(w:World)(hr0:Kd.C oN w A0 l0.length l0)(hc0:l0.length≤c0)(h:jk.f k l0=some (r1,r2)):
  Calls Tryz.prog 54 #[.slice A0 l0.length c0] w fun e w'=>∃sZ:Value,e= .returned (.tuple #[sZ, .bool r2])∧Kd.R Kd.string 9 w' w.heap.size (fun _=>True) sZ r1∧Below w.heap.size w w':=by
 have Jo:=underlying63;have HR0:=ak hr0;have sK:=ak hc0;clear hr0 hc0;have HB:=ak (Below.refl w.heap.size w);have H:((lV.f k l0).bind fun arj=>(if arj=true then(jk.l0 k (([]:List ByteArray)) l0 (l0.length:Int) 0)else(some (([]:List ByteArray),false))))=some (r1,r2):=h;clear h;replace H:=bd H;obtain⟨arj,A2,H⟩:=H;replace H:=sb H;rcases H with⟨rfl,H⟩|⟨rfl,H⟩
 ·obtain⟨aJF,amH⟩:=nm ([]:List ByteArray);rw[←amH.out]at H
  (try rw[Option.bind_some]at H);have H':=ak H;clear H;go_enter func54,ntmps54;go_wp2_with (first|(refine gL 63 8 func63 #[.slice A0 l0.length c0] ?_;(with_reducible refine(lV.calls k _ _ l0 true _ (cu HR0.out) sK.out A2.out).mono ?_);rintro e w4 ⟨rfl,hb⟩;refine⟨_,rfl,?_⟩;replace HB:=bs HB hb;(try clear hb))|((with_reducible refine bG (N:=10) rfl ?_);refine nD Kd.string _ 9 ?hg (N:=10) ?hd (xs:=([]:List ByteArray)) (inner:=[]) (ok:=fun _=>True) (oO:=fun _=>True) ?hr ?hp (fun _ hk=>hk) trivial (Below.refl _ _) (Nat.le_refl _) (by simp) ?_;(case hd=>rfl);(case hg=>rfl);(case hr=>first|(go_simp;done)|(go_simp;rfl));(case hp=>exact(iW.none _ _));intro aQl w5 WQ hb oP gY;clear oP gY;(first|rw[←amH.out]at WQ|(simp only[Int.reduceToNat]at WQ;rw[←amH.out]at WQ));have aCt:=ak (bQ WQ (aA (ul HB.out)));replace HB:=bs HB hb;clear hb WQ))
  go_loopg [4,13] k (fun kq v4 v13 w'=>∃(fG:List ByteArray) (wV:Int),v13= .int .i64 wV∧ay (jk.l0 kq fG l0 (l0.length:Int) wV=some (r1,r2))∧ay (kq≤k)∧ay (Kd.R Kd.string 9 w' w.heap.size (fun _=>True) v4 fG)∧ay (Below w.heap.size w w'))
  case atStart=>exact⟨(aJF),(0),rs,H',⟨Nat.le_refl _⟩,⟨ur aCt.out⟩,⟨ul HB.out⟩⟩
  case round=>
   clear H';try clear p2
   try clear c3
   try clear c5
   try clear c6
   obtain⟨fG,wV,rfl,HA,iM,gy,HB⟩:=hrel
   cases gk with
   |zero=>exact absurd HA.out (by simp[jk.l0])
   |succ k1=>
    have H:=HA.out;clear HA;simp only[jk.l0]at H;replace H:=sd H;rcases H with⟨qp,H⟩|⟨qp,H⟩
    ·replace H:=oL H;obtain⟨rV,H⟩:=H;replace H:=oL H;obtain⟨vI,H⟩:=H;replace H:=bd H;obtain⟨afs,A10,H⟩:=H;replace H:=nl H;obtain⟨akq,H⟩:=H;obtain⟨aJG,aus⟩:=nm (fG++afs);rw[←aus.out]at H
     (try rw[Option.bind_some]at H);have H':=ak H;clear H;have axJ:=zi wV;have axK:=zj wV l0.length;obtain⟨aMW,aJH,ah0,ah1⟩:=oC HR0.out wV axJ axK;cases aJH;replace ah0:=cl HB.out ah0;replace ah1:=cl HB.out ah1;replace axJ:=eq_true axJ;replace axK:=eq_true axK;go_wp2_with (first|(refine bE 6 #[.string (⟨#[]⟩:ByteArray), .string (⟨#[]⟩:ByteArray)] 63 ?_;intro ZN hg w12 hbox hb;have SX:=ak (hbox);have aMX:=lq HB hg;have aMY:=lq HB hg;replace gy:=rb gy hb;replace HB:=bs HB hb;clear hb hbox hg;obtain⟨uI,uJ,uK,uM⟩:=Ah SX.out)|(refine gL 72 19 func72 #[.agg #[.string ((aG l0 wV).f0), .string ((aG l0 wV).f1)]] ?_;(with_reducible refine(aY.calls k1 ((aG l0 wV).f0) ((aG l0 wV).f1) afs _ A10.out).mono ?_);rintro e Us ⟨aQm,rfl,ho0,hb⟩;refine⟨_,rfl,?_⟩;have ZO:=ak (bQ (lu ho0 (oK (ur (aK (aN (p:=⟨ZN,1,none⟩) (aN (p:=⟨ZN,0,none⟩) (dA gy.out SX.out (by decide)) (fun _ hk=>hk.2) (.string ((aG l0 wV).f0))) (fun _ hk=>hk.2) (.string ((aG l0 wV).f1))) (fun _ h_=>h_.1))))) (aA bb));replace gy:=ak (kE (ur (aK (aN (p:=⟨ZN,1,none⟩) (aN (p:=⟨ZN,0,none⟩) (dA gy.out SX.out (by decide)) (fun _ hk=>hk.2) (.string ((aG l0 wV).f0))) (fun _ hk=>hk.2) (.string ((aG l0 wV).f1))) (fun _ h_=>h_.1))) (iO ho0) hb);replace SX:=ak (fD (g:=ZN) (o:= .cells #[.string ((aG l0 wV).f0), .string ((aG l0 wV).f1)] 63 (0,0)) (by(with_reducible repeat(first|refine aj ?_ _|refine au ?_|refine ah ?_ _));refine aI (cs:=#[.string ((aG l0 wV).f0), .string (⟨#[]⟩:ByteArray)]) ?_ 1 _ rfl;(with_reducible repeat(first|refine aj ?_ _|refine au ?_|refine ah ?_ _));refine aI (cs:=#[.string (⟨#[]⟩:ByteArray), .string (⟨#[]⟩:ByteArray)]) ?_ 0 _ rfl;(with_reducible repeat(first|refine aj ?_ _|refine au ?_|refine ah ?_ _));exact SX.out) hb);replace HB:=ak (aC bb hb);(try clear hb);(try clear ho0);obtain⟨VZ,UC,aas⟩:=bW ZO.out;subst aas)|((with_reducible refine bM (b:= .append) (xs:=#[.tmp 17, .tmp 19]) rfl ?_);at_builtin;refine nO Kd.string (w0:=w) w.heap.size rfl (.tmp 17) (.tmp 19) 23 9 (.string ⟨#[]⟩) 16 rfl underlying23 info9 rfl (by decide) (by omega) u4 fG afs _ _ _ (fun k_=>some k_≠(.slice VZ afs.length UC:Value).ownBlock) (fun _=>False) rfl rfl ?aO ?aR (fun _ _ h=>h) (fun _ h=>h.elim) ?aF ?aB ?aS ?aL ?_;(case aR=>repeat(first|exact(bH ZO.out).2.2|(with_reducible refine Kd.fP ?_ _)|(with_reducible refine Kd.fQ ?_ _)|(with_reducible refine Kd.iR ?_)));(case aB=>exact bb);(case aF=>exact(fun k_ hk=>Kd.fresh' (oK (ur ZO.out)) k_ hk));(case aO=>exact(ur (aK gy.out (fun _ hk=>hk.2))));(case aS=>exact(aA bb));(case aL=>have:=akq.out;omega);intro aQn w15 ho hb hg hat;rw[←aus.out]at ho;have iE:=ak (gK (g:=ZN) (o:= .cells #[.string ((aG l0 wV).f0), .string ((aG l0 wV).f1)] 63 (0,0)) (ub SX.out) hg (BO gy.out SX.out (by decide)));have iF:=ak (Rh (ok:=(fun _=>True)) (ur ZO.out) hg hat);have lD:=ak (hb);have FD:=ak (ho);clear SX;clear ZO;clear HB;clear gy;have SX:=iE;have ZO:=iF;have HB:=lD;have aCu:=FD;clear iE iF lD FD;clear ho hb hg hat))
     go_roundg k1
     case measure=>have:=iM.out;omega
     case rel=>exact⟨(aJG),(wrap64 (wV+1)),rs,H',⟨by have:=iM.out;omega⟩,⟨ur (aK aCu.out (fun _ hk=>trivial))⟩,⟨bb⟩⟩
    ·simp only[Option.some.injEq,Prod.mk.injEq]at H;obtain⟨rfl,rfl⟩:=H;go_wp2;go_ret2;exact⟨_,er,ur gy.out,ul HB.out⟩
 ·simp only[Option.some.injEq,Prod.mk.injEq]at H;obtain⟨rfl,rfl⟩:=H;go_enter func54,ntmps54;go_wp2_with (first|(refine gL 63 8 func63 #[.slice A0 l0.length c0] ?_;(with_reducible refine(lV.calls k _ _ l0 false _ (cu HR0.out) sK.out A2.out).mono ?_);rintro e w17 ⟨rfl,hb⟩;refine⟨_,rfl,?_⟩;replace HB:=bs HB hb;(try clear hb)))
  go_ret2;exact⟨_,er,nx,ul HB.out⟩
def tu.f(k:Nat)(a0:ByteArray):Option (Bool):=(bU.f k a0).bind fun amI=>(some (!amI))
set_option maxHeartbeats 8000000 in
set_option maxRecDepth 100000 in
theorem tu.calls(k:Nat)(a0:ByteArray)(r:Bool)(w:World)(h:tu.f k a0=some r):
  Calls Tryz.prog 74 #[.string a0] w fun e w'=>e= .returned (.bool r)∧fZ w w':=by
 have H:((bU.f k a0).bind fun amI=>(some (!amI)))=some r:=h;clear h;replace H:=bd H;obtain⟨amI,A2,H⟩:=H;obtain rfl:=Option.some.inj H;go_enter func74,ntmps74;go_wp2_with (first|(refine gL 75 4 func75 #[.string a0] ?_;(with_reducible refine(bU.calls k a0 amI _ A2.out).mono ?_);rintro e w' ⟨rfl,⟨nd,rfl⟩⟩;refine⟨_,rfl,?_⟩))
 go_ret;exact⟨rs,dn⟩
def bn.l0:Nat→List ByteArray→Int→Int→Option (Int)
 |0,_,_,_=>none
 |k+1,x0,x7,x8=>if x8<x7 then(if 0≤x8 then(if x8<(x0.length:Int)then((tu.f k (f_ ByteArray.empty x0 x8)).bind fun aAc=>(if aAc=true then(some x8)else(bn.l0 k x0 x7 (wrap64 (x8+1)))))else(none))else(none))else(some (-1))
def bn.f(k:Nat)(l0:List ByteArray):Option (Int):=bn.l0 k l0 (l0.length:Int) 0
set_option maxHeartbeats 8000000 in
set_option maxRecDepth 100000 in
theorem bn.calls(k:Nat)(A0:Option Addr)(c0:Nat)(l0:List ByteArray)(r:Int)(w:World)(hr0:Kd.C Kd.string w A0 l0.length l0)(hc0:l0.length≤c0)(h:bn.f k l0=some r):
  Calls Tryz.prog 110 #[.slice A0 l0.length c0, .func (.func 74) #[] #[]] w fun e w'=>e= .returned (.int .i64 r)∧fZ w w':=by
 have HR0:=ak hr0;have sK:=ak hc0;clear hr0 hc0;have H:(bn.l0 k l0 (l0.length:Int) 0)=some r:=h;clear h;have H':=ak H;clear H;go_enter func110,ntmps110;go_wp2;go_loopg [8] k (fun kq v8 w'=>∃(jm:Int),v8= .int .i64 jm∧ay (bn.l0 kq l0 (l0.length:Int) jm=some r)∧ay (kq≤k)∧fZ w w')
 case atStart=>exact⟨(0),rs,H',⟨Nat.le_refl _⟩,dn⟩
 case round=>
  clear H';try clear c1
  try clear p2
  obtain⟨jm,rfl,HA,iM,⟨m1,rfl⟩⟩:=hrel
  cases gk with
  |zero=>exact absurd HA.out (by simp[bn.l0])
  |succ k1=>
   have H:=HA.out;clear HA;simp only[bn.l0]at H;replace H:=sd H;rcases H with⟨iK,H⟩|⟨iK,H⟩
   ·replace H:=oL H;obtain⟨oG,H⟩:=H;replace H:=oL H;obtain⟨o_,H⟩:=H;replace H:=bd H;obtain⟨aAc,A6,H⟩:=H;replace H:=sb H;rcases H with⟨rfl,H⟩|⟨rfl,H⟩
    ·obtain rfl:=Option.some.inj H;have aeJ:=zi jm;have aeK:=zj jm l0.length;obtain⟨aAd,awq,apT⟩:=dY HR0.out jm aeJ aeK;cases awq;replace aeJ:=eq_true aeJ;replace aeK:=eq_true aeK;go_wp2_with (first|(go_at_call 74;(with_reducible refine(tu.calls k1 (f_ ByteArray.empty l0 jm) true _ A6.out).mono ?_);rintro e w' ⟨rfl,⟨nd,rfl⟩⟩))
     go_ret;exact⟨rs,dn⟩
    ·have H':=ak H;clear H;have aeJ:=zi jm;have aeK:=zj jm l0.length;obtain⟨aAd,awq,apT⟩:=dY HR0.out jm aeJ aeK;cases awq;replace aeJ:=eq_true aeJ;replace aeK:=eq_true aeK;go_wp2_with (first|(go_at_call 74;(with_reducible refine(tu.calls k1 (f_ ByteArray.empty l0 jm) false _ A6.out).mono ?_);rintro e w' ⟨rfl,⟨nd,rfl⟩⟩))
     go_roundg k1
     case measure=>have:=iM.out;omega
     case rel=>exact⟨(wrap64 (jm+1)),rs,H',⟨by have:=iM.out;omega⟩,dn⟩
   ·obtain rfl:=Option.some.inj H;go_wp2;go_ret;exact⟨rs,dn⟩
def gX.f(k:Nat)(l0:List ByteArray):Option (Bool):=(bn.f k l0).bind fun ak_=>(some (decide (ak_≥0)))
set_option maxHeartbeats 8000000 in
set_option maxRecDepth 100000 in
theorem gX.calls(k:Nat)(A0:Option Addr)(c0:Nat)(l0:List ByteArray)(r:Bool)(w:World)(hr0:Kd.C Kd.string w A0 l0.length l0)(hc0:l0.length≤c0)(h:gX.f k l0=some r):
  Calls Tryz.prog 73 #[.slice A0 l0.length c0, .func (.func 74) #[] #[]] w fun e w'=>e= .returned (.bool r)∧fZ w w':=by
 have HR0:=ak hr0;have sK:=ak hc0;clear hr0 hc0;have H:((bn.f k l0).bind fun ak_=>(some (decide (ak_≥0))))=some r:=h;clear h;replace H:=bd H;obtain⟨ak_,A3,H⟩:=H;obtain rfl:=Option.some.inj H;go_enter func73,ntmps73;go_wp2_with (first|(refine gL 110 7 func110 #[.slice A0 l0.length c0, .func (.func 74) #[] #[]] ?_;(with_reducible refine(bn.calls k _ _ l0 ak_ _ (cu HR0.out) sK.out A3.out).mono ?_);rintro e w' ⟨rfl,⟨nd,rfl⟩⟩;refine⟨_,rfl,?_⟩))
 go_ret;exact⟨rs,dn⟩
def uh.f(k:Nat)(l0:List ByteArray)(a1:Int):Option (Bool):=if(l0.length:Int)≤a1 then((gX.f k l0).bind fun ala=>(some (!ala)))else(some false)
set_option maxHeartbeats 8000000 in
set_option maxRecDepth 100000 in
theorem uh.calls(k:Nat)(A0:Option Addr)(c0:Nat)(l0:List ByteArray)(a1:Int)(r:Bool)(w:World)(hr0:Kd.C Kd.string w A0 l0.length l0)(hc0:l0.length≤c0)(h:uh.f k l0 a1=some r):
  Calls Tryz.prog 55 #[.slice A0 l0.length c0, .int .i64 a1] w fun e w'=>e= .returned (.bool r)∧fZ w w':=by
 have HR0:=ak hr0;have sK:=ak hc0;clear hr0 hc0;have H:(if(l0.length:Int)≤a1 then((gX.f k l0).bind fun ala=>(some (!ala)))else(some false))=some r:=h;clear h;replace H:=sd H;rcases H with⟨iK,H⟩|⟨iK,H⟩
 ·replace H:=bd H;obtain⟨ala,A4,H⟩:=H;obtain rfl:=Option.some.inj H;go_enter func55,ntmps55;go_wp2_with (first|(go_at_call 73;(with_reducible refine(gX.calls k _ _ l0 ala _ (cu HR0.out) sK.out A4.out).mono ?_);rintro e w' ⟨rfl,⟨nd,rfl⟩⟩))
  go_ret;exact⟨rs,dn⟩
 ·obtain rfl:=Option.some.inj H;go_enter func55,ntmps55;go_wp2;go_ret;exact⟨rs,dn⟩
def bI.l0:Nat→List ByteArray→ByteArray→Int→Int→Option (Int)
 |0,_,_,_,_=>none
 |k+1,x0,x1,x7,x8=>if x8<x7 then(if 0≤x8 then(if x8<(x0.length:Int)then(if x1.toList=(f_ ByteArray.empty x0 x8).toList then(some x8)else(bI.l0 k x0 x1 x7 (wrap64 (x8+1))))else(none))else(none))else(some (-1))
def bI.f(k:Nat)(l0:List ByteArray)(a1:ByteArray):Option (Int):=bI.l0 k l0 a1 (l0.length:Int) 0
set_option maxHeartbeats 8000000 in
set_option maxRecDepth 100000 in
theorem bI.calls(k:Nat)(A0:Option Addr)(c0:Nat)(l0:List ByteArray)(a1:ByteArray)(r:Int)(w:World)(hr0:Kd.C Kd.string w A0 l0.length l0)(hc0:l0.length≤c0)(h:bI.f k l0 a1=some r):
  Calls Tryz.prog 49 #[.slice A0 l0.length c0, .string a1] w fun e w'=>e= .returned (.int .i64 r)∧fZ w w':=by
 have HR0:=ak hr0;have sK:=ak hc0;clear hr0 hc0;have H:(bI.l0 k l0 a1 (l0.length:Int) 0)=some r:=h;clear h;have H':=ak H;clear H;go_enter func49,ntmps49;go_wp2;go_loopg [8] k (fun kq v8 w'=>∃(jm:Int),v8= .int .i64 jm∧ay (bI.l0 kq l0 a1 (l0.length:Int) jm=some r)∧ay (kq≤k)∧fZ w w')
 case atStart=>exact⟨(0),rs,H',⟨Nat.le_refl _⟩,dn⟩
 case round=>
  clear H';try clear p2
  obtain⟨jm,rfl,HA,iM,⟨m1,rfl⟩⟩:=hrel
  cases gk with
  |zero=>exact absurd HA.out (by simp[bI.l0])
  |succ k1=>
   have H:=HA.out;clear HA;simp only[bI.l0]at H;replace H:=sd H;rcases H with⟨iK,H⟩|⟨iK,H⟩
   ·replace H:=oL H;obtain⟨oG,H⟩:=H;replace H:=oL H;obtain⟨o_,H⟩:=H;replace H:=sq H;rcases H with⟨mG,B_,H⟩|⟨c6,mG,B_,H⟩
    ·obtain rfl:=Option.some.inj H;have aeL:=zi jm;have aeM:=zj jm l0.length;obtain⟨aAe,awr,apU⟩:=dY HR0.out jm aeL aeM;cases awr;replace aeL:=eq_true aeL;replace aeM:=eq_true aeM;go_wp2;go_ret;exact⟨rs,dn⟩
    ·have H':=ak H;clear H;have aeL:=zi jm;have aeM:=zj jm l0.length;obtain⟨aAe,awr,apU⟩:=dY HR0.out jm aeL aeM;cases awr;replace aeL:=eq_true aeL;replace aeM:=eq_true aeM;go_wp2;go_roundg k1
     case measure=>have:=iM.out;omega
     case rel=>exact⟨(wrap64 (jm+1)),rs,H',⟨by have:=iM.out;omega⟩,dn⟩
   ·obtain rfl:=Option.some.inj H;go_wp2;go_ret;exact⟨rs,dn⟩
def fV.f(k:Nat)(l0:List ByteArray)(a1:ByteArray):Option (Bool):=(bI.f k l0 a1).bind fun alb=>(some (decide (alb≥0)))
set_option maxHeartbeats 8000000 in
set_option maxRecDepth 100000 in
theorem fV.calls(k:Nat)(A0:Option Addr)(c0:Nat)(l0:List ByteArray)(a1:ByteArray)(r:Bool)(w:World)(hr0:Kd.C Kd.string w A0 l0.length l0)(hc0:l0.length≤c0)(h:fV.f k l0 a1=some r):
  Calls Tryz.prog 112 #[.slice A0 l0.length c0, .string a1] w fun e w'=>e= .returned (.bool r)∧fZ w w':=by
 have HR0:=ak hr0;have sK:=ak hc0;clear hr0 hc0;have H:((bI.f k l0 a1).bind fun alb=>(some (decide (alb≥0))))=some r:=h;clear h;replace H:=bd H;obtain⟨alb,A3,H⟩:=H;obtain rfl:=Option.some.inj H;go_enter func112,ntmps112;go_wp2_with (first|(refine gL 49 7 func49 #[.slice A0 l0.length c0, .string a1] ?_;(with_reducible refine(bI.calls k _ _ l0 a1 alb _ (cu HR0.out) sK.out A3.out).mono ?_);rintro e w' ⟨rfl,⟨nd,rfl⟩⟩;refine⟨_,rfl,?_⟩))
 go_ret;exact⟨rs,dn⟩
def vU.f(k:Nat)(l0:List ByteArray)(a1:ByteArray):Option (Bool):=if 2+a1.size≤9223372036854775807 then((fV.f k l0 ((⟨#[45,45]⟩:ByteArray)++a1)).bind fun apV=>(if apV=true then(some true)else(if((⟨#[45,45]⟩:ByteArray)++a1).size+2≤9223372036854775807 then((fV.f k l0 (((⟨#[45,45]⟩:ByteArray)++a1)++(⟨#[45,45]⟩:ByteArray))).bind fun alc=>(some alc))else(none))))else(none)
set_option maxHeartbeats 8000000 in
set_option maxRecDepth 100000 in
theorem vU.calls(k:Nat)(A0:Option Addr)(c0:Nat)(l0:List ByteArray)(a1:ByteArray)(r:Bool)(w:World)(hr0:Kd.C Kd.string w A0 l0.length l0)(hc0:l0.length≤c0)(h:vU.f k l0 a1=some r):
  Calls Tryz.prog 78 #[.slice A0 l0.length c0, .string a1] w fun e w'=>e= .returned (.bool r)∧fZ w w':=by
 have HR0:=ak hr0;have sK:=ak hc0;clear hr0 hc0;have H:(if 2+a1.size≤9223372036854775807 then((fV.f k l0 ((⟨#[45,45]⟩:ByteArray)++a1)).bind fun apV=>(if apV=true then(some true)else(if((⟨#[45,45]⟩:ByteArray)++a1).size+2≤9223372036854775807 then((fV.f k l0 (((⟨#[45,45]⟩:ByteArray)++a1)++(⟨#[45,45]⟩:ByteArray))).bind fun alc=>(some alc))else(none))))else(none))=some r:=h;clear h;replace H:=nn H;obtain⟨c3,H⟩:=H;have iK:=eq_true c3;have xW:=decide_eq_true c3;try have VX:(9223372036854775807<2+a1.size)=False:=eq_false (Nat.not_lt.2 c3)
 replace H:=bd H;obtain⟨apV,A4,H⟩:=H;replace H:=sb H;rcases H with⟨rfl,H⟩|⟨rfl,H⟩
 ·obtain rfl:=Option.some.inj H;go_enter func78,ntmps78;go_wp2_with (first|(refine gL 112 8 func112 #[.slice A0 l0.length c0, .string ((⟨#[45,45]⟩:ByteArray)++a1)] ?_;(with_reducible refine(fV.calls k _ _ l0 ((⟨#[45,45]⟩:ByteArray)++a1) true _ (cu HR0.out) sK.out A4.out).mono ?_);rintro e w' ⟨rfl,⟨nd,rfl⟩⟩;refine⟨_,rfl,?_⟩))
  go_ret;exact⟨rs,dn⟩
 ·replace H:=nn H;obtain⟨c6,H⟩:=H;have mG:=eq_true c6;have B_:=decide_eq_true c6;try have aO9:(9223372036854775807<2+a1.size+2)=False:=by have h_:=(eq_false (Nat.not_lt.2 c6):(9223372036854775807<((⟨#[45,45]⟩:ByteArray)++a1).size+2)=False);simp only[ByteArray.size_append]at h_;exact h_
  try have aIr:(9223372036854775807<((⟨#[45,45]⟩:ByteArray)++a1).size+2)=False:=eq_false (Nat.not_lt.2 c6)
  replace H:=bd H;obtain⟨alc,A7,H⟩:=H;obtain rfl:=Option.some.inj H;go_enter func78,ntmps78;go_wp2_with (first|(refine gL 112 8 func112 #[.slice A0 l0.length c0, .string ((⟨#[45,45]⟩:ByteArray)++a1)] ?_;(with_reducible refine(fV.calls k _ _ l0 ((⟨#[45,45]⟩:ByteArray)++a1) false _ (cu HR0.out) sK.out A4.out).mono ?_);rintro e w' ⟨rfl,⟨nd,rfl⟩⟩;refine⟨_,rfl,?_⟩)|(go_at_call 112;(with_reducible refine(fV.calls k _ _ l0 (((⟨#[45,45]⟩:ByteArray)++a1)++(⟨#[45,45]⟩:ByteArray)) alc _ (cu HR0.out) sK.out A7.out).mono ?_);rintro e w' ⟨rfl,⟨nd,rfl⟩⟩))
  go_ret;exact⟨rs,dn⟩
def pW.f(k:Nat)(l0:List ByteArray)(a1:ByteArray):Option (Bool):=(vU.f k l0 a1).bind fun ald=>(some ald)
set_option maxHeartbeats 8000000 in
set_option maxRecDepth 100000 in
theorem pW.calls(k:Nat)(A0:Option Addr)(c0:Nat)(l0:List ByteArray)(gq1:Nat)(a1:ByteArray)(r:Bool)(w:World)(hr0:Kd.C Kd.string w A0 l0.length l0)(hc0:l0.length≤c0)(hq1:w.heap[gq1]? =some (.cells #[.string a1] 9 (0,0)))(h:pW.f k l0 a1=some r):
  Calls Tryz.prog 77 #[.slice A0 l0.length c0, .pointer (some ⟨gq1,0,none⟩)] w fun e w'=>e= .returned (.bool r)∧Below w.heap.size w w':=by
 have HR0:=ak hr0;have sK:=ak hc0;clear hr0 hc0;have wZ:=ak hq1;clear hq1;have HB:=ak (Below.refl w.heap.size w);have H:((vU.f k l0 a1).bind fun ald=>(some ald))=some r:=h;clear h;replace H:=bd H;obtain⟨ald,A3,H⟩:=H;obtain rfl:=Option.some.inj H;have aeF:w.cell? ⟨gq1,0,none⟩=some (.string a1):=(aJ wZ.out 0).trans rfl;have aeG:=jl wZ.out 0;go_enter func77,ntmps77;go_wp2_with (first|(refine gL 78 6 func78 #[.slice A0 l0.length c0, .string a1] ?_;(with_reducible refine(vU.calls k _ _ l0 a1 ald _ (cu HR0.out) sK.out A3.out).mono ?_);rintro e w' ⟨rfl,⟨nd,rfl⟩⟩;refine⟨_,rfl,?_⟩))
 go_ret;exact⟨er,bb⟩
def bC.l0:Nat→List (List ByteArray)→Int→Int→ByteArray→Option (Int)
 |0,_,_,_,_=>none
 |k+1,x0,x7,x8,Xy=>if x8<x7 then(if 0≤x8 then(if x8<(x0.length:Int)then((pW.f k (kM x0 x8) Xy).bind fun aAf=>(if aAf=true then(some x8)else(bC.l0 k x0 x7 (wrap64 (x8+1)) Xy)))else(none))else(none))else(some (-1))
def bC.f(k:Nat)(l0:List (List ByteArray))(xg:ByteArray):Option (Int):=bC.l0 k l0 (l0.length:Int) 0 xg
set_option maxHeartbeats 8000000 in
set_option maxRecDepth 100000 in
theorem bC.calls(k:Nat)(A0:Option Addr)(c0:Nat)(l0:List (List ByteArray))(DT:Nat)(xg:ByteArray)(r:Int)(w:World)(hr0:Kd.C (Kd.slice 9 Kd.string) w A0 l0.length l0)(hc0:l0.length≤c0)(Vz:w.heap[DT]? =some (.cells #[.string xg] 9 (0,0)))(h:bC.f k l0 xg=some r):
  Calls Tryz.prog 111 #[.slice A0 l0.length c0, .func (.func 77) #[] #[.pointer (some ⟨DT,0,none⟩)]] w fun e w'=>e= .returned (.int .i64 r)∧Below w.heap.size w w':=by
 have HR0:=ak hr0;have sK:=ak hc0;clear hr0 hc0;have wZ:=ak Vz;clear Vz;have HB:=ak (Below.refl w.heap.size w);have H:(bC.l0 k l0 (l0.length:Int) 0 xg)=some r:=h;clear h;have H':=ak H;clear H;go_enter func111,ntmps111;go_wp2;go_loopg [8] k (fun kq v8 w'=>∃(jm:Int),v8= .int .i64 jm∧ay (bC.l0 kq l0 (l0.length:Int) jm xg=some r)∧ay (kq≤k)∧ay (w'.heap[DT]? =some (.cells #[.string xg] 9 (0,0)))∧ay (Below w.heap.size w w'))
 case atStart=>exact⟨(0),rs,H',⟨Nat.le_refl _⟩,⟨ub wZ.out⟩,⟨bb⟩⟩
 case round=>
  clear H';try clear c1
  try clear q1
  try clear p2
  obtain⟨jm,rfl,HA,iM,wZ,HB⟩:=hrel
  cases gk with
  |zero=>exact absurd HA.out (by simp[bC.l0])
  |succ k1=>
   have H:=HA.out;clear HA;simp only[bC.l0]at H;replace H:=sd H;rcases H with⟨iK,H⟩|⟨iK,H⟩
   ·replace H:=oL H;obtain⟨oG,H⟩:=H;replace H:=oL H;obtain⟨o_,H⟩:=H;replace H:=bd H;obtain⟨aAf,A6,H⟩:=H;replace H:=sb H;rcases H with⟨rfl,H⟩|⟨rfl,H⟩
    ·obtain rfl:=Option.some.inj H;have aeN:=zi jm;have aeO:=zj jm l0.length;obtain⟨aAg,awt,awu,awv,RD,RF,RG⟩:=FB HR0.out jm aeN aeO;cases awv;replace RD:=cl HB.out RD;have aa3:=ak RG;have aa4:=ak RF;clear RG RF;replace aeN:=eq_true aeN;replace aeO:=eq_true aeO;go_wp2_with (first|(go_at_call 77;(with_reducible refine(pW.calls k1 _ _ (kM l0 jm) DT xg true _ (cu (aT aa3.out HB.out)) aa4.out (ub wZ.out) A6.out).mono ?_);rintro e w8 ⟨rfl,hb⟩;replace wZ:=kb wZ hb;replace HB:=ak (aC bb hb);(try clear hb)))
     go_ret;exact⟨er,bb⟩
    ·have H':=ak H;clear H;have aeN:=zi jm;have aeO:=zj jm l0.length;obtain⟨aAg,awt,awu,awv,RD,RF,RG⟩:=FB HR0.out jm aeN aeO;cases awv;replace RD:=cl HB.out RD;have aa3:=ak RG;have aa4:=ak RF;clear RG RF;replace aeN:=eq_true aeN;replace aeO:=eq_true aeO;go_wp2_with (first|(go_at_call 77;(with_reducible refine(pW.calls k1 _ _ (kM l0 jm) DT xg false _ (cu (aT aa3.out HB.out)) aa4.out (ub wZ.out) A6.out).mono ?_);rintro e w9 ⟨rfl,hb⟩;replace wZ:=kb wZ hb;replace HB:=ak (aC bb hb);(try clear hb)))
     go_roundg k1
     case measure=>have:=iM.out;omega
     case rel=>exact⟨(wrap64 (jm+1)),rs,H',⟨by have:=iM.out;omega⟩,⟨ub wZ.out⟩,⟨bb⟩⟩
   ·obtain rfl:=Option.some.inj H;go_wp2;go_ret;exact⟨er,bb⟩
def fH.f(k:Nat)(l0:List (List ByteArray))(xg:ByteArray):Option (Bool):=(bC.f k l0 xg).bind fun ale=>(some (decide (ale≥0)))
set_option maxHeartbeats 8000000 in
set_option maxRecDepth 100000 in
theorem fH.calls(k:Nat)(A0:Option Addr)(c0:Nat)(l0:List (List ByteArray))(DT:Nat)(xg:ByteArray)(r:Bool)(w:World)(hr0:Kd.C (Kd.slice 9 Kd.string) w A0 l0.length l0)(hc0:l0.length≤c0)(Vz:w.heap[DT]? =some (.cells #[.string xg] 9 (0,0)))(h:fH.f k l0 xg=some r):
  Calls Tryz.prog 76 #[.slice A0 l0.length c0, .func (.func 77) #[] #[.pointer (some ⟨DT,0,none⟩)]] w fun e w'=>e= .returned (.bool r)∧Below w.heap.size w w':=by
 have HR0:=ak hr0;have sK:=ak hc0;clear hr0 hc0;have wZ:=ak Vz;clear Vz;have HB:=ak (Below.refl w.heap.size w);have H:((bC.f k l0 xg).bind fun ale=>(some (decide (ale≥0))))=some r:=h;clear h;replace H:=bd H;obtain⟨ale,A3,H⟩:=H;obtain rfl:=Option.some.inj H;go_enter func76,ntmps76;go_wp2_with (first|(refine gL 111 7 func111 #[.slice A0 l0.length c0, .func (.func 77) #[] #[.pointer (some ⟨DT,0,none⟩)]] ?_;(with_reducible refine(bC.calls k _ _ l0 DT xg ale _ (cu HR0.out) sK.out (ub wZ.out) A3.out).mono ?_);rintro e w4 ⟨rfl,hb⟩;refine⟨_,rfl,?_⟩;replace wZ:=kb wZ hb;replace HB:=ak (aC bb hb);(try clear hb)))
 go_ret;exact⟨er,bb⟩
mutual
def fE.j0:Nat→List (List ByteArray)→Bool→ByteArray→Option (List ByteArray×Bool)
 |0,_,_,_=>none
 |k+1,x0,x21,Ik=>if x21=true then(some (([]:List ByteArray),false))else(fE.l0 k (([]:List ByteArray)) x0 (x0.length:Int) 0 Ik)
def fE.l0:Nat→List ByteArray→List (List ByteArray)→Int→Int→ByteArray→Option (List ByteArray×Bool)
 |0,_,_,_,_,_=>none
 |k+1,x6,x23,x24,x25,Ik=>if x25<x24 then(if 0≤x25 then(if x25<(x23.length:Int)then(if 2+Ik.size≤9223372036854775807 then(if x6.length<8796093022208 then((some (x6++[(⟨#[45,45]⟩:ByteArray)++Ik]:List ByteArray)).bind fun alf=>(if alf.length+(kM x23 x25).length<8796093022208 then(fE.l0 k (alf++(kM x23 x25)) x23 x24 (wrap64 (x25+1)) Ik)else(none)))else(none))else(none))else(none))else(none))else(if 2+Ik.size≤9223372036854775807 then(if((⟨#[45,45]⟩:ByteArray)++Ik).size+2≤9223372036854775807 then(if x6.length<8796093022208 then(some ((x6++[((⟨#[45,45]⟩:ByteArray)++Ik)++(⟨#[45,45]⟩:ByteArray)]),true))else(none))else(none))else(none))
end
def fE.f(k:Nat)(l0:List (List ByteArray))(a1:ByteArray):Option (List ByteArray×Bool):=(jG.f k a1).bind fun apW=>(if apW=true then(if(l0.length:Int)=0 then(fE.j0 k l0 true a1)else((fH.f k l0 a1).bind fun aiW=>(fE.j0 k l0 aiW a1)))else(fE.j0 k l0 true a1))
theorem fE.calls(k:Nat)(A0:Option Addr)(c0:Nat)(l0:List (List ByteArray))(a1:ByteArray)(r1:List ByteArray)(r2:Bool)(w:World)(hr0:Kd.C (Kd.slice 9 Kd.string) w A0 l0.length l0)(hc0:l0.length≤c0)(h:fE.f k l0 a1=some (r1,r2)):
  Calls Tryz.prog 56 #[.slice A0 l0.length c0, .string a1] w fun e w'=>∃sZ:Value,e= .returned (.tuple #[sZ, .bool r2])∧Kd.R Kd.string 9 w' w.heap.size (fun _=>True) sZ r1∧Below w.heap.size w w':=by
 have HR0:=ak hr0;have sK:=ak hc0;clear hr0 hc0;have HB:=ak (Below.refl w.heap.size w);have H:((jG.f k a1).bind fun apW=>(if apW=true then(if(l0.length:Int)=0 then(fE.j0 k l0 true a1)else((fH.f k l0 a1).bind fun aiW=>(fE.j0 k l0 aiW a1)))else(fE.j0 k l0 true a1)))=some (r1,r2):=h;clear h;have HC3:=ak H;clear H;go_enter func56,ntmps56;go_upto_region 1 with(refine gG 3 ?_;refine bX HB 3 #[.string a1] 9 ?_;intro AL w4 qy aLn hb;replace HB:=bs HB hb;clear hb)
 (try simp only[Act.put,jI,jJ,l_c]);go_cut [21] (fun v21 wc=>∃(kq:Nat) (alg:Bool),v21= .bool alg∧ay (fE.j0 kq l0 alg a1=some (r1,r2))∧ay (kq≤k)∧ay (wc.heap[AL]? =some (.cells #[.string a1] 9 (0,0)))∧ay (Below w.heap.size w wc))
 case first=>
  have H:=HC3.out;clear HC3;replace H:=bd H;obtain⟨apW,A5,H⟩:=H;replace H:=sb H;rcases H with⟨rfl,H⟩|⟨rfl,H⟩
  ·replace H:=sp H;rcases H with⟨c7,H⟩|⟨c7,H⟩
   ·have qp:=beq_iff_eq.mpr c7;have D_:=bne_eq_false_iff_eq.mpr c7;clear c7
    (first|rw[qp]|(simp only[bf,bD];rw[qp])|skip);have H':=ak H;clear H;have Cb:w4.cell? ⟨AL,0,none⟩=some (.string a1):=(aJ qy.out 0).trans rfl;have Cc:=jl qy.out 0;go_wp2_with (refine gA func67 (jG.calls k a1 true _ A5.out) ?_;intro nd)
    go_meet
    case rel=>exact⟨_,_,rs,H',⟨XV⟩,⟨ub qy.out⟩,⟨bb⟩⟩
   ·have qp:=beq_eq_false_iff_ne.mpr c7;have D_:=bne_iff_ne.mpr c7;have aAh:¬(l0=[]):=fun h_=>c7 (by rw[h_];rfl)
    (first|rw[qp]|(simp only[bf,bD];rw[qp])|skip);replace H:=bd H;obtain⟨aiW,A9,H⟩:=H;have H':=ak H;clear H;have sG:w4.cell? ⟨AL,0,none⟩=some (.string a1):=(aJ qy.out 0).trans rfl;have sH:=jl qy.out 0;go_wp2_with (first|(refine gA func67 (jG.calls k a1 true _ A5.out) ?_;intro nd)|(go_at_call 76;refine mB (fH.calls k _ _ l0 AL a1 aiW _ (cu (aT HR0.out bb)) sK.out (ub qy.out) A9.out) ?_;intro Uy hb;replace qy:=kb qy hb;replace HB:=bz HB hb;clear hb))
    go_meet
    case rel=>exact⟨_,_,rs,H',⟨XV⟩,⟨ub qy.out⟩,⟨bb⟩⟩
  ·have H':=ak H;clear H;have Aq:w4.cell? ⟨AL,0,none⟩=some (.string a1):=(aJ qy.out 0).trans rfl;have Ar:=jl qy.out 0;go_wp2_with (refine gA func67 (jG.calls k a1 false _ A5.out) ?_;intro nd)
   go_meet
   case rel=>exact⟨_,_,rs,H',⟨XV⟩,⟨ub qy.out⟩,⟨bb⟩⟩
 case rest=>
  clear HC3;obtain⟨kq,alg,rfl,HA,HJ2,qy,HB⟩:=hcut
  cases kq with
  |zero=>exact zz HA.out
  |succ kj2=>
   obtain⟨H⟩:=HA;simp only[fE.j0]at H;replace H:=sb H;rcases H with⟨rfl,H⟩|⟨rfl,H⟩
   ·obtain⟨rfl,rfl⟩:=s2 H;go_wp2;go_ret2;exact⟨_,er,nx,bb⟩
   ·obtain⟨aIs,alh⟩:=nm ([]:List ByteArray);rw[←alh.out]at H;have H':=ak H;clear H;go_wp2_with (refine gG 22 ?_;refine lRN 22 Kd.string 9 alh ?_;intro aO_ Us LV hb;have aAi:=ak (bQ (uV LV (g:=AL) (o:= .cells #[.string a1] 9 (0,0)) (ub qy.out)) (aA bb));replace qy:=kb qy hb;replace HB:=bz HB hb;clear hb LV)
    go_loopg [6,25] kj2 (fun kq v6 v25 w'=>∃(ql:List ByteArray) (RH:Int),v25= .int .i64 RH∧ay (fE.l0 kq ql l0 (l0.length:Int) RH a1=some (r1,r2))∧ay (kq≤kj2)∧ay (Kd.R Kd.string 9 w' w.heap.size (fun k_=>k_≠AL) v6 ql)∧ay (w'.heap[AL]? =some (.cells #[.string a1] 9 (0,0)))∧ay (Below w.heap.size w w'))
    case atStart=>exact⟨_,_,rs,H',⟨Nat.le_refl _⟩,⟨ur (aK aAi.out (fun _ hk=>hk.2))⟩,⟨ub qy.out⟩,⟨bb⟩⟩
    case round=>
     clear H';obtain⟨ql,RH,rfl,HA,yR,jM,qy,HB⟩:=hrel
     cases gk with
     |zero=>exact zz HA.out
     |succ k2=>
      obtain⟨H⟩:=HA;simp only[fE.l0]at H;replace H:=sd H;rcases H with⟨L6,H⟩|⟨L6,H⟩
      ·replace H:=oL H;obtain⟨uz,H⟩:=H;replace H:=oL H;obtain⟨Hy,H⟩:=H;replace H:=nn H;obtain⟨c19,H⟩:=H;have Dh:=eq_true c19;have FY:=decide_eq_true c19;try have aAj:(9223372036854775807<2+a1.size)=False:=eq_false (Nat.not_lt.2 c19)
       replace H:=nl H;obtain⟨ali,H⟩:=H;replace H:=ny H;obtain⟨alf,ati,H⟩:=H;replace H:=nl H;obtain⟨acO,H⟩:=H;obtain⟨aIt,atj⟩:=nm (alf++(kM l0 RH));rw[←atj.out]at H;have H':=ak H;clear H;have aww:=zi RH;have awx:=zj RH l0.length;obtain⟨aLp,aIu,aIv,aIw,ahk,ahl,ahm⟩:=FB HR0.out RH aww awx;cases aIw;replace ahk:=cl HB.out ahk;have apX:=ak ahm;have aEM:=ak ahl;clear ahm ahl;replace aww:=eq_true aww;replace awx:=eq_true awx;have JW:wr.cell? ⟨AL,0,none⟩=some (.string a1):=(aJ qy.out 0).trans rfl;have JX:=jl qy.out 0;go_wp2_with (first|((with_reducible refine bM (b:= .append) (xs:=#[.tmp 29, .tmp 32]) rfl ?_);(try(refine aX (by rfl) ?_;dsimp only));at_builtin;refine iT Kd.string (w0:=w) w.heap.size rfl (.tmp 29) (.tmp 32) 23 9 (.string ⟨#[]⟩) 16 rfl underlying23 info9 rfl (by decide) (by omega) u6 ql ((⟨#[45,45]⟩:ByteArray)++a1) [.string ((⟨#[45,45]⟩:ByteArray)++a1)] (fun k_=>k_≠AL) (fun _=>False) rfl rfl ?aP (fun _ hk=>hk.elim) ?aF ?aO ?aB ?aS ?aL ?_;(case aP=>exact rfl);(case aB=>exact bb);(case aF=>exact(fun k_ hk=>zC (g:=AL) (o:= .cells #[.string a1] 9 (0,0)) (ub qy.out) k_ hk));(case aO=>exact(ur jM.out));(case aS=>exact(aA bb));(case aL=>have:=ali.out;omega);intro aIx w23 ho hb hg hat;rw[←ati.out]at ho;have alj:=ak (ho);replace qy:=ak (gK (g:=AL) (o:= .cells #[.string a1] 9 (0,0)) (ub qy.out) hg (FN jM.out (fun _ hk=>hk)));replace HB:=ak (hb);clear ho hb hg hat jM)|((with_reducible refine bM (b:= .append) (xs:=#[.tmp 34, .tmp 35]) rfl ?_);(try(refine aX (by rfl) ?_;dsimp only));at_builtin;refine nO Kd.string (w0:=w) w.heap.size rfl (.tmp 34) (.tmp 35) 23 9 (.string ⟨#[]⟩) 16 rfl underlying23 info9 rfl (by decide) (by omega) aIx alf (kM l0 RH) _ _ _ (fun k_=>k_≠AL) (fun _=>False) rfl rfl ?aO ?aR (fun _ _ h=>h) (fun _ h=>h.elim) ?aF ?aB ?aS ?aL ?_;(case aR=>repeat(first|exact(aT apX.out HB.out)|(with_reducible refine Kd.fP ?_ _)|(with_reducible refine Kd.fQ ?_ _)|(with_reducible refine Kd.iR ?_)));(case aB=>exact bb);(case aF=>exact(fun k_ hk=>zC (g:=AL) (o:= .cells #[.string a1] 9 (0,0)) (ub qy.out) k_ hk));(case aO=>exact(ur alj.out));(case aS=>exact(aA bb));(case aL=>have:=acO.out;omega);intro aPa w24 ho hb hg hat;rw[←atj.out]at ho;have aAk:=ak (ho);replace qy:=ak (gK (g:=AL) (o:= .cells #[.string a1] 9 (0,0)) (ub qy.out) hg (FN alj.out (fun _ hk=>hk)));replace HB:=ak (hb);clear ho hb hg hat alj))
       go_roundg k2
       case measure=>exact kl
       case rel=>exact⟨_,_,rs,H',⟨kl⟩,⟨ur aAk.out⟩,⟨ub qy.out⟩,⟨bb⟩⟩
      ·replace H:=nn H;obtain⟨c25,H⟩:=H;have Hz:=eq_true c25;have ahe:=decide_eq_true c25;try have aLq:(9223372036854775807<2+a1.size)=False:=eq_false (Nat.not_lt.2 c25)
       replace H:=nn H;obtain⟨c26,H⟩:=H;have VB:=eq_true c26;have alk:=decide_eq_true c26;try have aLr:(9223372036854775807<2+a1.size+2)=False:=by have h_:=(eq_false (Nat.not_lt.2 c26):(9223372036854775807<((⟨#[45,45]⟩:ByteArray)++a1).size+2)=False);simp only[ByteArray.size_append]at h_;exact h_
       try have aLs:(9223372036854775807<((⟨#[45,45]⟩:ByteArray)++a1).size+2)=False:=eq_false (Nat.not_lt.2 c26)
       replace H:=nl H;obtain⟨ac2,H⟩:=H;obtain⟨aPb,atl⟩:=nm (ql++[((⟨#[45,45]⟩:ByteArray)++a1)++(⟨#[45,45]⟩:ByteArray)]);rw[←atl.out]at H;obtain⟨rfl,rfl⟩:=s2 H;have J4:wr.cell? ⟨AL,0,none⟩=some (.string a1):=(aJ qy.out 0).trans rfl;have J5:=jl qy.out 0;go_wp2_with ((with_reducible refine bM (b:= .append) (xs:=#[.tmp 38, .tmp 42]) rfl ?_);(try(refine aX (by rfl) ?_;dsimp only));at_builtin;refine iT Kd.string (w0:=w) w.heap.size rfl (.tmp 38) (.tmp 42) 23 9 (.string ⟨#[]⟩) 16 rfl underlying23 info9 rfl (by decide) (by omega) u6 ql (((⟨#[45,45]⟩:ByteArray)++a1)++(⟨#[45,45]⟩:ByteArray)) [.string (((⟨#[45,45]⟩:ByteArray)++a1)++(⟨#[45,45]⟩:ByteArray))] (fun k_=>k_≠AL) (fun _=>False) rfl rfl ?aP (fun _ hk=>hk.elim) ?aF ?aO ?aB ?aS ?aL ?_;(case aP=>exact rfl);(case aB=>exact bb);(case aF=>exact(fun k_ hk=>zC (g:=AL) (o:= .cells #[.string a1] 9 (0,0)) (ub qy.out) k_ hk));(case aO=>exact(ur jM.out));(case aS=>exact(aA bb));(case aL=>have:=ac2.out;omega);intro aPc w29 ho hb hg hat;rw[←atl.out]at ho;have aAl:=ak (ho);replace qy:=ak (gK (g:=AL) (o:= .cells #[.string a1] 9 (0,0)) (ub qy.out) hg (FN jM.out (fun _ hk=>hk)));replace HB:=ak (hb);clear ho hb hg hat jM)
       go_ret2;exact⟨_,er,ur (aK aAl.out (fun _ hk=>trivial)),bb⟩
end Go.Proofs.YtdimppdlfgnhgaaGreatDoor.PFnExactParsePart
