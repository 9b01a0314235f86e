/- Printed walks; conditions: those in each statement. -/
import Derived.Test.YtncdadcmghglkaaGreatDoorVFnExactFormatPartQt
import Derived.Test.YtncdadcmghglkaaGreatDoorVFnExactFormatPartYt
import Derived.Test.YtncdadcmghglkaaGreatDoorPFnExactFormatPartx0
import Derived.Test.YtncdadcmghglkaaGreatDoorPFnExactFormatPartx1
import Derived.Test.YtncdadcmghglkaaGreatDoorPFnExactFormatPartx3
import Derived.Test.YtncdadcmghglkaaGreatDoorPFnExactFormatPartx4
namespace Go.Proofs.YtncdadcmghglkaaGreatDoor.PFnExactFormatPart
open Go.RowKit Go.Proofs.YtncdadcmghglkaaGreatDoor.X Go.Proofs.YtncdadcmghglkaaGreatDoorW.dB Go.Proofs.YtncdadcmghglkaaGreatDoorW.iy Go.Proofs.YtncdadcmghglkaaGreatDoorW.jo
attribute [local go_sem] lU lV oh oq kJ kK lW lX   -- for this text's walks alone
set_option linter.unusedVariables false
set_option linter.unusedSimpArgs false
mutual
def bJ.j0:Nat→Bool→ByteArray→ByteArray→List (jl)→Option (Bool)
 |0,_,_,_,_=>none
 |k+1,x20,Oo,Oq,BD=>if x20=true then(some false)else(bJ.l0 k BD (BD.length:Int) 0 Oo Oq BD)
def bJ.l0:Nat→List (jl)→Int→Int→ByteArray→ByteArray→List (jl)→Option (Bool)
 |0,_,_,_,_,_,_=>none
 |k+1,x22,x23,x24,Oo,Oq,BD=>if x24<x23 then(if 0≤x24 then(if x24<(x22.length:Int)then((fG.f k ((aH x22 x24).f0)).bind fun t229=>(if t229=true then((bg.f k ((aH x22 x24).f1)).bind fun aqQ=>(if aqQ=true then(if(((aH x22 x24).f1).size:Int)>40 then(some false)else(if x24≤(BD.length:Int)then((jU.f k (BD.take (x24:Int).toNat) ((aH x22 x24).f0)).bind fun abY=>(if abY≥0 then(some false)else(bJ.l0 k x22 x23 (wrap64 (x24+1)) Oo Oq BD)))else(none)))else(some false)))else(some false)))else(none))else(none))else((fP.f k Oo Oq BD).bind fun t226=>(some (decide ((t226.size:Int)≤150))))
end
def bJ.f(k:Nat)(aY:ByteArray)(bf:ByteArray)(aC:List (jl)):Option (Bool):=(fG.f k aY).bind fun ah8=>(if ah8=true then((fG.f k bf).bind fun ah9=>(if ah9=true then(bJ.j0 k (decide ((aC.length:Int)>4)) aY bf aC)else(bJ.j0 k true aY bf aC)))else(bJ.j0 k true aY bf aC))
def bJ.T6:Bool×List (List Nat×List Nat):=(true,[([],[]),([0],[0]),([1],[1]),([2],[2]),([3,2],[3]),([4],[4]),([5,4],[4,5]),([6,4,4],[4,6]),([7,4],[4,7]),([4,8],[4,8]),([9,7],[9]),([10],[10]),([11,10],[10,11]),([12,10],[10,12]),([13,10],[10,13]),([10,14],[10,14]),([15,10],[15]),([16],[16]),([17,16],[16,17]),([16],[16]),([18,19,16],[16,18,19]),([16],[16]),([21,16],[16,21]),([20,22,16,16],[16,20,22]),([23,16],[16,23]),([16,24],[16,24])])
def bJ.B6:List Nat:=[0,1,3,7,15,31,63,127,255,511,1023,2047,4095,8191,16383,32767,65535,131071,262143,131071,1048575,131071,2228223,8388607,16777215,33554431]
theorem bJ.tab6:sZ .any (opsOf Tryz.f95 6)=bJ.T6:=by kernel_rfl
theorem bJ.ajT:pW bJ.T6.2 bJ.B6=true:=by kernel_rfl
set_option maxHeartbeats 8000000 in
set_option maxRecDepth 100000 in
theorem bJ.calls(k:Nat)(aY:ByteArray)(bf:ByteArray)(fF:Option Addr)(dR:Nat)(aC:List (jl))(r:Bool)(w:World)(jL:Kd.C pV w fF aC.length aC)(jM:aC.length≤dR)(h:bJ.f k aY bf aC=some r):
  Calls Tryz.prog 95 #[.agg #[.string aY, .string bf, .slice fF aC.length dR]] w fun e w'=>e= .returned (.bool r)∧Below w.heap.size w w':=by
 have VH:=Tryz.underlying61;have Dq:=Tryz.underlying69;have jc:=ak jL;have kC:=ak jM;clear jL jM;have HB:=ak (Below.refl w.heap.size w);have H:((fG.f k aY).bind fun ah8=>(if ah8=true then((fG.f k bf).bind fun ah9=>(if ah9=true then(bJ.j0 k (decide ((aC.length:Int)>4)) aY bf aC)else(bJ.j0 k true aY bf aC)))else(bJ.j0 k true aY bf aC)))=some r:=h;clear h;have HC2:=ak H;clear H;go_enter Tryz.func95,Tryz.ntmps95;go_upto_region 1 with(first|(refine bU (N:=1) rfl ?_;(try(refine aZ (by rfl) ?_;dsimp only));refine bE 1 #[.string aY, .string bf, .slice fF aC.length dR] 61 ?_;intro sS hg w3 hbox hb;have dU:=ak (hbox);have axV:=jY HB hg;have axW:=jY HB hg;replace HB:=bs HB hb;clear hb hbox hg))
 (try simp only[Act.put,jI,jJ,l_c]);go_cut [20] (fun v20 wc=>∃(kq:Nat) (aeN:Bool),v20= .bool aeN∧ah (bJ.j0 kq aeN aY bf aC=some r)∧ah (kq≤k)∧ah (wc.heap[sS]? =some (.cells #[.string aY, .string bf,(.slice fF aC.length dR)] 61 (0,0)))∧ah (Below w.heap.size w wc))
 case first=>
  have H:=HC2.out;clear HC2;replace H:=bd H;obtain⟨ah8,A4,H⟩:=H;replace H:=sb H;rcases H with⟨rfl,H⟩|⟨rfl,H⟩
  ·replace H:=bd H;obtain⟨ah9,A6,H⟩:=H;replace H:=sb H;rcases H with⟨rfl,H⟩|⟨rfl,H⟩
   ·have H':=ak H;clear H;obtain⟨vG,zS,Du,vH,zT,Dv⟩:=jP dU.out;go_wp2_with (first|(refine gL 136 7 Tryz.func136 #[.string aY] ?_;(with_reducible refine(fG.calls k aY true _ A4.out).mono ?_);rintro e w9 ⟨rfl,hb⟩;refine⟨_,rfl,?_⟩;replace dU:=kb dU hb;replace HB:=ak (aG bb hb);(try clear hb);obtain⟨oz,pX,xB,oC,pY,xC⟩:=jP dU.out)|(go_at_call 136;(with_reducible refine(fG.calls k bf true _ A6.out).mono ?_);rintro e Cm ⟨rfl,hb⟩;replace dU:=kb dU hb;replace HB:=ak (aG bb hb);(try clear hb);obtain⟨vM,Bh,Bj,vN,Bl,Bo⟩:=jP dU.out))
    go_meet
    case rel=>exact⟨_,(decide ((aC.length:Int)>4)),rs,H',⟨Qw⟩,⟨ub dU.out⟩,⟨bb⟩⟩
   ·have H':=ak H;clear H;obtain⟨qH,qJ,Dw,qK,qL,Dx⟩:=jP dU.out;go_wp2_with (first|(refine gL 136 7 Tryz.func136 #[.string aY] ?_;(with_reducible refine(fG.calls k aY true _ A4.out).mono ?_);rintro e Q9 ⟨rfl,hb⟩;refine⟨_,rfl,?_⟩;replace dU:=kb dU hb;replace HB:=ak (aG bb hb);(try clear hb);obtain⟨lI,lJ,qM,lK,lM,qN⟩:=jP dU.out)|(go_at_call 136;(with_reducible refine(fG.calls k bf false _ A6.out).mono ?_);rintro e w16 ⟨rfl,hb⟩;replace dU:=kb dU hb;replace HB:=ak (aG bb hb);(try clear hb)))
    go_meet
    case rel=>exact⟨_,(true),rs,H',⟨Qw⟩,⟨ub dU.out⟩,⟨bb⟩⟩
  ·have H':=ak H;clear H;obtain⟨Dy,Dz,DC,DF,DI,DJ⟩:=jP dU.out;go_wp2_with (first|(refine gL 136 7 Tryz.func136 #[.string aY] ?_;(with_reducible refine(fG.calls k aY false _ A4.out).mono ?_);rintro e w18 ⟨rfl,hb⟩;refine⟨_,rfl,?_⟩;replace dU:=kb dU hb;replace HB:=ak (aG bb hb);(try clear hb)))
   go_meet
   case rel=>exact⟨_,(true),rs,H',⟨Qw⟩,⟨ub dU.out⟩,⟨bb⟩⟩
 case rest=>
  clear HC2;try clear c1
  try clear p2
  try clear c5
  try clear c7
  try clear c9
  try clear c13
  try clear oz
  try clear pX
  try clear xB
  try clear vM
  try clear Bh
  try clear Bj
  try clear qH
  try clear qJ
  try clear Dw
  try clear lI
  try clear lJ
  try clear qM
  try clear Dy
  try clear Dz
  try clear DC
  try clear vG
  try clear zS
  try clear Du
  try clear oC
  try clear pY
  try clear xC
  try clear vN
  try clear Bl
  try clear Bo
  try clear qK
  try clear qL
  try clear Dx
  try clear lK
  try clear lM
  try clear qN
  try clear DF
  try clear DI
  try clear DJ
  try clear vH
  try clear zT
  try clear Dv
  obtain⟨kq,aeN,rfl,HA,AO,dU,HB⟩:=hcut
  cases kq with
  |zero=>exact absurd HA.out (by simp[bJ.j0])
  |succ Gj=>
   have H:=HA.out;clear HA;simp only[bJ.j0]at H;replace H:=sb H;rcases H with⟨rfl,H⟩|⟨rfl,H⟩
   ·obtain rfl:=Option.some.inj H;go_wp2;go_ret;exact⟨er,bb⟩
   ·have H':=ak H;clear H;obtain⟨uX,uY,uZ,u_,vk,vw⟩:=jP dU.out;go_wp2;go_loopg [24] Gj (fun kq v24 w'=>∃(dL:Int),v24= .int .i64 dL∧ah (bJ.l0 kq aC (aC.length:Int) dL aY bf aC=some r)∧ah (kq≤Gj)∧ah (w'.heap[sS]? =some (.cells #[.string aY, .string bf,(.slice fF aC.length dR)] 61 (0,0)))∧ah (Below w.heap.size w w'))
    case atStart=>exact⟨(0),rs,H',⟨Nat.le_refl _⟩,⟨ub dU.out⟩,⟨bb⟩⟩
    case round=>
     clear H';try clear c1
     try clear p2
     try clear c5
     try clear c7
     try clear c9
     try clear c13
     try clear c19
     try clear oz
     try clear pX
     try clear xB
     try clear vM
     try clear Bh
     try clear Bj
     try clear qH
     try clear qJ
     try clear Dw
     try clear lI
     try clear lJ
     try clear qM
     try clear Dy
     try clear Dz
     try clear DC
     try clear uX
     try clear uY
     try clear uZ
     try clear vG
     try clear zS
     try clear Du
     try clear oC
     try clear pY
     try clear xC
     try clear vN
     try clear Bl
     try clear Bo
     try clear qK
     try clear qL
     try clear Dx
     try clear lK
     try clear lM
     try clear qN
     try clear DF
     try clear DI
     try clear DJ
     try clear u_
     try clear vk
     try clear vw
     try clear vH
     try clear zT
     try clear Dv
     try clear p2
     obtain⟨dL,rfl,HA,yT,dU,HB⟩:=hrel
     cases gk with
     |zero=>exact absurd HA.out (by simp[bJ.l0])
     |succ k2=>
      have H:=HA.out;clear HA;simp only[bJ.l0]at H;replace H:=sd H;rcases H with⟨Eo,H⟩|⟨Eo,H⟩
      ·replace H:=og H;obtain⟨OU,H⟩:=H;replace H:=og H;obtain⟨G7,H⟩:=H;replace H:=bd H;obtain⟨t229,A24,H⟩:=H;replace H:=sb H;rcases H with⟨rfl,H⟩|⟨rfl,H⟩
       ·replace H:=bd H;obtain⟨aqQ,A26,H⟩:=H;replace H:=sb H;rcases H with⟨rfl,H⟩|⟨rfl,H⟩
        ·replace H:=sp H;rcases H with⟨c28,H⟩|⟨c28,H⟩
         ·have GY:decide (40<(((aH aC dL).f1).size:Int))=true:=decide_eq_true c28;have ZB:decide (40<((aH aC dL).f1).size)=true:=decide_eq_true (by omega);clear c28;obtain rfl:=Option.some.inj H;have Ea:=zi dL;have Eb:=zj dL aC.length;obtain⟨yc,e227,rG,rH⟩:=nC jc.out dL Ea Eb;cases e227;replace rG:=cl HB.out rG;replace rH:=cl HB.out rH;replace Ea:=eq_true Ea;replace Eb:=eq_true Eb;try go_wp2_with (first|(refine bU (N:=4) rfl ?_;(try(refine aZ (by rfl) ?_;dsimp only));refine bE 4 #[.string (⟨#[]⟩:ByteArray), .string (⟨#[]⟩:ByteArray)] 69 ?_;intro gI hg w29 hbox hb;have fU:=ak (hbox);have aa0:=ak ((by rw[hg];exact(aA bb):w.heap.size≤gI));have aa1:=ak ((by rw[hg];exact(aA bb):w.heap.size≤gI));have kL:=ak ((by rw[hg];exact Nat.ne_of_lt (fC (ub dU.out)):sS≠gI));have tV:=ak ((by rw[hg];exact Nat.ne_of_gt (fC (ub dU.out)):gI≠sS));replace dU:=kb dU hb;replace HB:=ak (aG bb hb);clear hb hbox hg;have axX:=tV.out;have axY:=kL.out;obtain⟨TJ,TK,TL,TM⟩:=wO fU.out))
          have iH:ah (((w29.setCell ⟨gI,0,none⟩ (.string ((aH aC dL).f0))).setCell ⟨gI,1,none⟩ (.string ((aH aC dL).f1))).heap[sS]? =some (.cells #[.string aY, .string bf, .slice (some yc) aC.length dR] 61 (0,0))):=⟨by(with_reducible repeat(first|refine au ?_ _|refine ay ?_|refine aj ?_ _));refine f_ ?_ kL.out _;(with_reducible repeat(first|refine au ?_ _|refine ay ?_|refine aj ?_ _));refine f_ ?_ kL.out _;(with_reducible repeat(first|refine au ?_ _|refine ay ?_|refine aj ?_ _));exact dU.out⟩
          have iI:ah (((w29.setCell ⟨gI,0,none⟩ (.string ((aH aC dL).f0))).setCell ⟨gI,1,none⟩ (.string ((aH aC dL).f1))).heap[gI]? =some (.cells #[.string ((aH aC dL).f0), .string ((aH aC dL).f1)] 69 (0,0))):=⟨by(with_reducible repeat(first|refine au ?_ _|refine ay ?_|refine aj ?_ _));refine bK (cs:=#[.string ((aH aC dL).f0), .string (⟨#[]⟩:ByteArray)]) ?_ 1 _ rfl;(with_reducible repeat(first|refine au ?_ _|refine ay ?_|refine aj ?_ _));refine bK (cs:=#[.string (⟨#[]⟩:ByteArray), .string (⟨#[]⟩:ByteArray)]) ?_ 0 _ rfl;(with_reducible repeat(first|refine au ?_ _|refine ay ?_|refine aj ?_ _));exact fU.out⟩
          have lS:ah (Below w.heap.size w ((w29.setCell ⟨gI,0,none⟩ (.string ((aH aC dL).f0))).setCell ⟨gI,1,none⟩ (.string ((aH aC dL).f1)))):=⟨bb⟩
          (try clear dU)
          (try clear fU)
          (try clear HB)
          generalize ((w29.setCell ⟨gI,0,none⟩ (.string ((aH aC dL).f0))).setCell ⟨gI,1,none⟩ (.string ((aH aC dL).f1)))=w32 at iH iI lS⊢
          have dU:=iH;have fU:=iI;have HB:=lS;clear iH iI lS;replace dU:=ak (ay dU.out);replace fU:=ak (ay fU.out);replace HB:=ak (eY HB.out);refine ro [2,7] [0,1,2,3,4,5,6,7,8,9,10,11,12,13,14,15,16,17,18,19,20,21,22,23,24,25] (fun w'=>w'.cell? ⟨gI,0,none⟩=some (.string ((aH aC dL).f0))∧w'.cell? ⟨gI,1,none⟩=some (.string ((aH aC dL).f1))) ⟨(aI fU.out 0).trans rfl,(aI fU.out 1).trans rfl⟩ ?_
          generalize w32.drew=w33 at dU fU HB⊢
          repeat(first|(refine lk (v:=?_) (a':=?_) (gk.trans rfl) rfl rfl ?_ ?_ ?_;rotate_left;(focus (rintro w' ⟨s0,s1⟩;go_simp;with_reducible rfl));rotate_left;(focus (simp only[Act.put,jI,jJ,l_c,bC,bH];rfl)))|(refine lf (a':=?_) (gk.trans rfl) rfl rfl ?_ ?_;rotate_left;(focus (simp only[Act.put,jI,jJ,l_c,bC,bH];rfl))))
          refine ld (N:=some 31) (gk.trans rfl) rfl rfl (fun K hK=>?_);refine nD Tryz.func136 (by kernel_rfl) rfl #[.string ((aH aC dL).f0)] (by rfl) rfl rfl ma ?_
          with_reducible refine(fG.calls k2 ((aH aC dL).f0) true _ A24.out).mono ?_
          rintro e w34 ⟨rfl,hb⟩;refine⟨_,rfl,?_⟩;replace dU:=kb dU hb;replace fU:=kb fU hb;replace HB:=ak (aG bb hb)
          (try clear hb);refine hK.out _ _ ⟨(aI fU.out 0).trans rfl,(aI fU.out 1).trans rfl⟩ ?_;clear hK K;refine no (a':=?_) ?_ ?_
          rotate_left
          ·show Act.put _ (some 31) _=_
           simp only[Act.put,jI,jJ,l_c,bC,bH];rfl
          repeat(first|(refine lk (v:=?_) (a':=?_) (gk.trans rfl) rfl rfl ?_ ?_ ?_;rotate_left;(focus (rintro w' ⟨s0,s1⟩;go_simp;with_reducible rfl));rotate_left;(focus (simp only[Act.put,jI,jJ,l_c,bC,bH];rfl)))|(refine lf (a':=?_) (gk.trans rfl) rfl rfl ?_ ?_;rotate_left;(focus (simp only[Act.put,jI,jJ,l_c,bC,bH];rfl))))
          refine ld (N:=some 36) (gk.trans rfl) rfl rfl (fun K hK=>?_);refine nD Tryz.func89 (by kernel_rfl) rfl #[.string ((aH aC dL).f1)] (by rfl) rfl rfl ma ?_
          with_reducible refine(bg.calls k2 ((aH aC dL).f1) true _ A26.out).mono ?_
          rintro e w' ⟨rfl,⟨nd,rfl⟩⟩;refine⟨_,rfl,?_⟩;refine hK.out _ _ ⟨(aI fU.out 0).trans rfl,(aI fU.out 1).trans rfl⟩ ?_;clear hK K;refine no (a':=?_) ?_ ?_
          rotate_left
          ·show Act.put _ (some 36) _=_
           simp only[Act.put,jI,jJ,l_c,bC,bH];rfl
          repeat(first|(refine lk (v:=?_) (a':=?_) (gk.trans rfl) rfl rfl ?_ ?_ ?_;rotate_left;(focus (rintro w' ⟨s0,s1⟩;go_simp;with_reducible rfl));rotate_left;(focus (simp only[Act.put,jI,jJ,l_c,bC,bH];rfl)))|(refine lf (a':=?_) (gk.trans rfl) rfl rfl ?_ ?_;rotate_left;(focus (simp only[Act.put,jI,jJ,l_c,bC,bH];rfl))))
          refine on ?_;try go_wp2
          go_ret;exact⟨er,bb⟩
         ·have GY:decide (40<(((aH aC dL).f1).size:Int))=false:=decide_eq_false c28;have ZB:decide (40<((aH aC dL).f1).size)=false:=decide_eq_false (by omega);clear c28;have adf:=eq_true (of_decide_eq_true (by assumption):0≤dL);replace H:=EG H;obtain⟨ajJ,aqR,H⟩:=H;obtain⟨Wh,Wi⟩:=nm (aC.take (dL:Int).toNat);rw[←Wi.out]at H
          (try rw[Option.bind_some]at H);replace H:=bd H;obtain⟨abY,A37,H⟩:=H;replace H:=sp H;rcases H with⟨c38,H⟩|⟨c38,H⟩
          ·have aqS:decide (0≤abY)=true:=decide_eq_true c38;clear c38;obtain rfl:=Option.some.inj H;have Ea:=zi dL;have Eb:=zj dL aC.length;obtain⟨yc,e227,rG,rH⟩:=nC jc.out dL Ea Eb;cases e227;replace rG:=cl HB.out rG;replace rH:=cl HB.out rH;replace Ea:=eq_true Ea;replace Eb:=eq_true Eb;try go_wp2_with (first|(refine bU (N:=4) rfl ?_;(try(refine aZ (by rfl) ?_;dsimp only));refine bE 4 #[.string (⟨#[]⟩:ByteArray), .string (⟨#[]⟩:ByteArray)] 69 ?_;intro gI hg w39 hbox hb;have fU:=ak (hbox);have aa0:=ak ((by rw[hg];exact(aA bb):w.heap.size≤gI));have aa1:=ak ((by rw[hg];exact(aA bb):w.heap.size≤gI));have kL:=ak ((by rw[hg];exact Nat.ne_of_lt (fC (ub dU.out)):sS≠gI));have tV:=ak ((by rw[hg];exact Nat.ne_of_gt (fC (ub dU.out)):gI≠sS));replace dU:=kb dU hb;replace HB:=ak (aG bb hb);clear hb hbox hg;have axZ:=tV.out;have ax0:=kL.out;obtain⟨ZG,ZH,ZI,ZJ⟩:=wO fU.out))
           have iH:ah (((w39.setCell ⟨gI,0,none⟩ (.string ((aH aC dL).f0))).setCell ⟨gI,1,none⟩ (.string ((aH aC dL).f1))).heap[sS]? =some (.cells #[.string aY, .string bf, .slice (some yc) aC.length dR] 61 (0,0))):=⟨by(with_reducible repeat(first|refine au ?_ _|refine ay ?_|refine aj ?_ _));refine f_ ?_ kL.out _;(with_reducible repeat(first|refine au ?_ _|refine ay ?_|refine aj ?_ _));refine f_ ?_ kL.out _;(with_reducible repeat(first|refine au ?_ _|refine ay ?_|refine aj ?_ _));exact dU.out⟩
           have iI:ah (((w39.setCell ⟨gI,0,none⟩ (.string ((aH aC dL).f0))).setCell ⟨gI,1,none⟩ (.string ((aH aC dL).f1))).heap[gI]? =some (.cells #[.string ((aH aC dL).f0), .string ((aH aC dL).f1)] 69 (0,0))):=⟨by(with_reducible repeat(first|refine au ?_ _|refine ay ?_|refine aj ?_ _));refine bK (cs:=#[.string ((aH aC dL).f0), .string (⟨#[]⟩:ByteArray)]) ?_ 1 _ rfl;(with_reducible repeat(first|refine au ?_ _|refine ay ?_|refine aj ?_ _));refine bK (cs:=#[.string (⟨#[]⟩:ByteArray), .string (⟨#[]⟩:ByteArray)]) ?_ 0 _ rfl;(with_reducible repeat(first|refine au ?_ _|refine ay ?_|refine aj ?_ _));exact fU.out⟩
           have lS:ah (Below w.heap.size w ((w39.setCell ⟨gI,0,none⟩ (.string ((aH aC dL).f0))).setCell ⟨gI,1,none⟩ (.string ((aH aC dL).f1)))):=⟨bb⟩
           (try clear dU)
           (try clear fU)
           (try clear HB)
           generalize ((w39.setCell ⟨gI,0,none⟩ (.string ((aH aC dL).f0))).setCell ⟨gI,1,none⟩ (.string ((aH aC dL).f1)))=w42 at iH iI lS⊢
           have dU:=iH;have fU:=iI;have HB:=lS;clear iH iI lS;replace dU:=ak (ay dU.out);replace fU:=ak (ay fU.out);replace HB:=ak (eY HB.out);refine ro [2,7,23] [0,1,2,3,4,5,6,7,8,9,10,11,12,13,14,15,16,17,19,21,18,20,22,23,24,25] (fun w'=>w'.cell? ⟨gI,0,none⟩=some (.string ((aH aC dL).f0))∧w'.cell? ⟨gI,1,none⟩=some (.string ((aH aC dL).f1))∧w'.cell? ⟨sS,0,none⟩=some (.string aY)∧w'.cell? ⟨sS,1,none⟩=some (.string bf)∧w'.cell? ⟨sS,2,none⟩=some (.slice (some yc) aC.length dR)) ⟨(aI fU.out 0).trans rfl,(aI fU.out 1).trans rfl,(aI dU.out 0).trans rfl,(aI dU.out 1).trans rfl,(aI dU.out 2).trans rfl⟩ ?_
           generalize w42.drew=w43 at dU fU HB⊢
           repeat(refine lk (v:=?_) (a':=?_) (gk.trans rfl) rfl rfl ?_ ?_ ?_;rotate_left;(focus (rintro w' ⟨s0,s1,s2,s3,s4⟩;go_simp;with_reducible rfl));rotate_left;(focus (simp only[Act.put,jI,jJ,l_c,bC,bH];rfl)))
           refine ld (N:=some 31) (gk.trans rfl) rfl rfl (fun K hK=>?_);refine nD Tryz.func136 (by kernel_rfl) rfl #[.string ((aH aC dL).f0)] (by rfl) rfl rfl ma ?_
           with_reducible refine(fG.calls k2 ((aH aC dL).f0) true _ A24.out).mono ?_
           rintro e w44 ⟨rfl,hb⟩;refine⟨_,rfl,?_⟩;replace dU:=kb dU hb;replace fU:=kb fU hb;replace HB:=ak (aG bb hb)
           (try clear hb);refine hK.out _ _ ⟨(aI fU.out 0).trans rfl,(aI fU.out 1).trans rfl,(aI dU.out 0).trans rfl,(aI dU.out 1).trans rfl,(aI dU.out 2).trans rfl⟩ ?_;clear hK K;refine no (a':=?_) ?_ ?_
           rotate_left
           ·show Act.put _ (some 31) _=_
            simp only[Act.put,jI,jJ,l_c,bC,bH];rfl
           repeat(refine lk (v:=?_) (a':=?_) (gk.trans rfl) rfl rfl ?_ ?_ ?_;rotate_left;(focus (rintro w' ⟨s0,s1,s2,s3,s4⟩;go_simp;with_reducible rfl));rotate_left;(focus (simp only[Act.put,jI,jJ,l_c,bC,bH];rfl)))
           refine ld (N:=some 36) (gk.trans rfl) rfl rfl (fun K hK=>?_);refine nD Tryz.func89 (by kernel_rfl) rfl #[.string ((aH aC dL).f1)] (by rfl) rfl rfl ma ?_
           with_reducible refine(bg.calls k2 ((aH aC dL).f1) true _ A26.out).mono ?_
           rintro e w' ⟨rfl,⟨nd,rfl⟩⟩;refine⟨_,rfl,?_⟩;have q45:(dL:Int)≤((aC.length:Int):Int):=of_decide_eq_true (by assumption);obtain⟨aAb,akj,_,aqT,_⟩:=info_parts Hl;have aa2:aC.length≤dR:=kC.out;have aqU:Kd.C pV _ (some yc) aC.length aC:=jc.out;have amR:=TN (P:=Tryz.prog) 25 69 .i64 Tryz.underlying25 akj (some yc) aC.length dR dL (of_decide_eq_true (by assumption)) q45 aa2;have amS:=Kd.TP (m:=(dL:Int).toNat) aqU (by omega);have amT:Wh.length=(dL:Int).toNat:=(by rw[Wi.out,List.length_take];omega)
           rw[←Wi.out]at amS;rw[←amT]at amR;have aeO:=ak amS;have aeP:=ak (show Wh.length≤dR from by omega);clear amS aqU aa2 akj aqT;have aAc:=ak amT;clear amT;replace q45:=eq_true q45;refine hK.out _ _ ⟨(aI fU.out 0).trans rfl,(aI fU.out 1).trans rfl,(aI dU.out 0).trans rfl,(aI dU.out 1).trans rfl,(aI dU.out 2).trans rfl⟩ ?_;clear hK K;refine no (a':=?_) ?_ ?_
           rotate_left
           ·show Act.put _ (some 36) _=_
            simp only[Act.put,jI,jJ,l_c,bC,bH];rfl
           repeat(refine lk (v:=?_) (a':=?_) (gk.trans rfl) rfl rfl ?_ ?_ ?_;rotate_left;(focus (rintro w' ⟨s0,s1,s2,s3,s4⟩;go_simp;with_reducible rfl));rotate_left;(focus (simp only[Act.put,jI,jJ,l_c,bC,bH];rfl)))
           refine ld (N:=some 52) (gk.trans rfl) rfl rfl (fun K hK=>?_);refine nD Tryz.func88 (by kernel_rfl) rfl #[.slice (some yc) Wh.length dR, .string ((aH aC dL).f0)] (by rfl) rfl rfl ma ?_
           with_reducible refine(jU.calls k2 _ _ Wh ((aH aC dL).f0) abY _ ?kX ?nG A37.out).mono ?_
           (case kX=>repeat(first|exact(Kd.aN aeO.out bb)|(with_reducible refine Kd.iP ?_ _)|(with_reducible refine Kd.iQ ?_ _)|(with_reducible refine Kd.jK ?_)))
           (case nG=>exact aeP.out);rintro e w46 ⟨rfl,hb⟩;refine⟨_,rfl,?_⟩;replace dU:=kb dU hb;replace fU:=kb fU hb;replace HB:=ak (aG bb hb)
           (try clear hb);refine hK.out _ _ ⟨(aI fU.out 0).trans rfl,(aI fU.out 1).trans rfl,(aI dU.out 0).trans rfl,(aI dU.out 1).trans rfl,(aI dU.out 2).trans rfl⟩ ?_;clear hK K;refine no (a':=?_) ?_ ?_
           rotate_left
           ·show Act.put _ (some 52) _=_
            simp only[Act.put,jI,jJ,l_c,bC,bH];rfl
           repeat(refine lk (v:=?_) (a':=?_) (gk.trans rfl) rfl rfl ?_ ?_ ?_;rotate_left;(focus (rintro w' ⟨s0,s1,s2,s3,s4⟩;go_simp;with_reducible rfl));rotate_left;(focus (simp only[Act.put,jI,jJ,l_c,bC,bH];rfl)))
           refine on ?_;try go_wp2
           go_ret;exact⟨er,bb⟩
          ·have aqS:decide (0≤abY)=false:=decide_eq_false c38;clear c38;have H':=ak H;clear H;have Ea:=zi dL;have Eb:=zj dL aC.length;obtain⟨yc,e227,rG,rH⟩:=nC jc.out dL Ea Eb;cases e227;replace rG:=cl HB.out rG;replace rH:=cl HB.out rH;replace Ea:=eq_true Ea;replace Eb:=eq_true Eb;try go_wp2_with (first|(refine bU (N:=4) rfl ?_;(try(refine aZ (by rfl) ?_;dsimp only));refine bE 4 #[.string (⟨#[]⟩:ByteArray), .string (⟨#[]⟩:ByteArray)] 69 ?_;intro gI hg w47 hbox hb;have fU:=ak (hbox);have aa0:=ak ((by rw[hg];exact(aA bb):w.heap.size≤gI));have aa1:=ak ((by rw[hg];exact(aA bb):w.heap.size≤gI));have kL:=ak ((by rw[hg];exact Nat.ne_of_lt (fC (ub dU.out)):sS≠gI));have tV:=ak ((by rw[hg];exact Nat.ne_of_gt (fC (ub dU.out)):gI≠sS));replace dU:=kb dU hb;replace HB:=ak (aG bb hb);clear hb hbox hg;have apb:=tV.out;have apc:=kL.out;obtain⟨ZP,ZQ,ZR,ZT⟩:=wO fU.out))
           have iH:ah (((w47.setCell ⟨gI,0,none⟩ (.string ((aH aC dL).f0))).setCell ⟨gI,1,none⟩ (.string ((aH aC dL).f1))).heap[sS]? =some (.cells #[.string aY, .string bf, .slice (some yc) aC.length dR] 61 (0,0))):=⟨by(with_reducible repeat(first|refine au ?_ _|refine ay ?_|refine aj ?_ _));refine f_ ?_ kL.out _;(with_reducible repeat(first|refine au ?_ _|refine ay ?_|refine aj ?_ _));refine f_ ?_ kL.out _;(with_reducible repeat(first|refine au ?_ _|refine ay ?_|refine aj ?_ _));exact dU.out⟩
           have iI:ah (((w47.setCell ⟨gI,0,none⟩ (.string ((aH aC dL).f0))).setCell ⟨gI,1,none⟩ (.string ((aH aC dL).f1))).heap[gI]? =some (.cells #[.string ((aH aC dL).f0), .string ((aH aC dL).f1)] 69 (0,0))):=⟨by(with_reducible repeat(first|refine au ?_ _|refine ay ?_|refine aj ?_ _));refine bK (cs:=#[.string ((aH aC dL).f0), .string (⟨#[]⟩:ByteArray)]) ?_ 1 _ rfl;(with_reducible repeat(first|refine au ?_ _|refine ay ?_|refine aj ?_ _));refine bK (cs:=#[.string (⟨#[]⟩:ByteArray), .string (⟨#[]⟩:ByteArray)]) ?_ 0 _ rfl;(with_reducible repeat(first|refine au ?_ _|refine ay ?_|refine aj ?_ _));exact fU.out⟩
           have lS:ah (Below w.heap.size w ((w47.setCell ⟨gI,0,none⟩ (.string ((aH aC dL).f0))).setCell ⟨gI,1,none⟩ (.string ((aH aC dL).f1)))):=⟨bb⟩
           (try clear dU)
           (try clear fU)
           (try clear HB)
           generalize ((w47.setCell ⟨gI,0,none⟩ (.string ((aH aC dL).f0))).setCell ⟨gI,1,none⟩ (.string ((aH aC dL).f1)))=w50 at iH iI lS⊢
           have dU:=iH;have fU:=iI;have HB:=lS;clear iH iI lS;replace dU:=ak (ay dU.out);replace fU:=ak (ay fU.out);replace HB:=ak (eY HB.out);refine ro [2,7,23] [0,1,2,3,4,5,6,7,8,9,10,11,12,13,14,15,16,17,19,21,18,20,22,23,24,25] (fun w'=>w'.cell? ⟨gI,0,none⟩=some (.string ((aH aC dL).f0))∧w'.cell? ⟨gI,1,none⟩=some (.string ((aH aC dL).f1))∧w'.cell? ⟨sS,0,none⟩=some (.string aY)∧w'.cell? ⟨sS,1,none⟩=some (.string bf)∧w'.cell? ⟨sS,2,none⟩=some (.slice (some yc) aC.length dR)) ⟨(aI fU.out 0).trans rfl,(aI fU.out 1).trans rfl,(aI dU.out 0).trans rfl,(aI dU.out 1).trans rfl,(aI dU.out 2).trans rfl⟩ ?_
           generalize w50.drew=w51 at dU fU HB⊢
           repeat(refine lk (v:=?_) (a':=?_) (gk.trans rfl) rfl rfl ?_ ?_ ?_;rotate_left;(focus (rintro w' ⟨s0,s1,s2,s3,s4⟩;go_simp;with_reducible rfl));rotate_left;(focus (simp only[Act.put,jI,jJ,l_c,bC,bH];rfl)))
           refine ld (N:=some 31) (gk.trans rfl) rfl rfl (fun K hK=>?_);refine nD Tryz.func136 (by kernel_rfl) rfl #[.string ((aH aC dL).f0)] (by rfl) rfl rfl ma ?_
           with_reducible refine(fG.calls k2 ((aH aC dL).f0) true _ A24.out).mono ?_
           rintro e w52 ⟨rfl,hb⟩;refine⟨_,rfl,?_⟩;replace dU:=kb dU hb;replace fU:=kb fU hb;replace HB:=ak (aG bb hb)
           (try clear hb);refine hK.out _ _ ⟨(aI fU.out 0).trans rfl,(aI fU.out 1).trans rfl,(aI dU.out 0).trans rfl,(aI dU.out 1).trans rfl,(aI dU.out 2).trans rfl⟩ ?_;clear hK K;refine no (a':=?_) ?_ ?_
           rotate_left
           ·show Act.put _ (some 31) _=_
            simp only[Act.put,jI,jJ,l_c,bC,bH];rfl
           repeat(refine lk (v:=?_) (a':=?_) (gk.trans rfl) rfl rfl ?_ ?_ ?_;rotate_left;(focus (rintro w' ⟨s0,s1,s2,s3,s4⟩;go_simp;with_reducible rfl));rotate_left;(focus (simp only[Act.put,jI,jJ,l_c,bC,bH];rfl)))
           refine ld (N:=some 36) (gk.trans rfl) rfl rfl (fun K hK=>?_);refine nD Tryz.func89 (by kernel_rfl) rfl #[.string ((aH aC dL).f1)] (by rfl) rfl rfl ma ?_
           with_reducible refine(bg.calls k2 ((aH aC dL).f1) true _ A26.out).mono ?_
           rintro e w' ⟨rfl,⟨nd,rfl⟩⟩;refine⟨_,rfl,?_⟩;have q53:(dL:Int)≤((aC.length:Int):Int):=of_decide_eq_true (by assumption);obtain⟨aAd,akk,_,aqV,_⟩:=info_parts Hl;have aa3:aC.length≤dR:=kC.out;have aqW:Kd.C pV _ (some yc) aC.length aC:=jc.out;have amU:=TN (P:=Tryz.prog) 25 69 .i64 Tryz.underlying25 akk (some yc) aC.length dR dL (of_decide_eq_true (by assumption)) q53 aa3;have amV:=Kd.TP (m:=(dL:Int).toNat) aqW (by omega);have amW:Wh.length=(dL:Int).toNat:=(by rw[Wi.out,List.length_take];omega)
           rw[←Wi.out]at amV;rw[←amW]at amU;have aeO:=ak amV;have aeP:=ak (show Wh.length≤dR from by omega);clear amV aqW aa3 akk aqV;have aAe:=ak amW;clear amW;replace q53:=eq_true q53;refine hK.out _ _ ⟨(aI fU.out 0).trans rfl,(aI fU.out 1).trans rfl,(aI dU.out 0).trans rfl,(aI dU.out 1).trans rfl,(aI dU.out 2).trans rfl⟩ ?_;clear hK K;refine no (a':=?_) ?_ ?_
           rotate_left
           ·show Act.put _ (some 36) _=_
            simp only[Act.put,jI,jJ,l_c,bC,bH];rfl
           repeat(refine lk (v:=?_) (a':=?_) (gk.trans rfl) rfl rfl ?_ ?_ ?_;rotate_left;(focus (rintro w' ⟨s0,s1,s2,s3,s4⟩;go_simp;with_reducible rfl));rotate_left;(focus (simp only[Act.put,jI,jJ,l_c,bC,bH];rfl)))
           refine ld (N:=some 52) (gk.trans rfl) rfl rfl (fun K hK=>?_);refine nD Tryz.func88 (by kernel_rfl) rfl #[.slice (some yc) Wh.length dR, .string ((aH aC dL).f0)] (by rfl) rfl rfl ma ?_
           with_reducible refine(jU.calls k2 _ _ Wh ((aH aC dL).f0) abY _ ?kX ?nG A37.out).mono ?_
           (case kX=>repeat(first|exact(Kd.aN aeO.out bb)|(with_reducible refine Kd.iP ?_ _)|(with_reducible refine Kd.iQ ?_ _)|(with_reducible refine Kd.jK ?_)))
           (case nG=>exact aeP.out);rintro e w54 ⟨rfl,hb⟩;refine⟨_,rfl,?_⟩;replace dU:=kb dU hb;replace fU:=kb fU hb;replace HB:=ak (aG bb hb)
           (try clear hb);refine hK.out _ _ ⟨(aI fU.out 0).trans rfl,(aI fU.out 1).trans rfl,(aI dU.out 0).trans rfl,(aI dU.out 1).trans rfl,(aI dU.out 2).trans rfl⟩ ?_;clear hK K;refine no (a':=?_) ?_ ?_
           rotate_left
           ·show Act.put _ (some 52) _=_
            simp only[Act.put,jI,jJ,l_c,bC,bH];rfl
           repeat(refine lk (v:=?_) (a':=?_) (gk.trans rfl) rfl rfl ?_ ?_ ?_;rotate_left;(focus (rintro w' ⟨s0,s1,s2,s3,s4⟩;go_simp;with_reducible rfl));rotate_left;(focus (simp only[Act.put,jI,jJ,l_c,bC,bH];rfl)))
           refine on ?_;try go_wp2
           go_roundg k2
           case measure=>have:=AO.out;have:=yT.out;omega
           case rel=>exact⟨(wrap64 (dL+1)),rs,H',⟨by have:=AO.out;have:=yT.out;omega⟩,⟨ub dU.out⟩,⟨bb⟩⟩
        ·obtain rfl:=Option.some.inj H;have Ea:=zi dL;have Eb:=zj dL aC.length;obtain⟨yc,e227,rG,rH⟩:=nC jc.out dL Ea Eb;cases e227;replace rG:=cl HB.out rG;replace rH:=cl HB.out rH;replace Ea:=eq_true Ea;replace Eb:=eq_true Eb;try go_wp2_with (first|(refine bU (N:=4) rfl ?_;(try(refine aZ (by rfl) ?_;dsimp only));refine bE 4 #[.string (⟨#[]⟩:ByteArray), .string (⟨#[]⟩:ByteArray)] 69 ?_;intro gI hg w55 hbox hb;have fU:=ak (hbox);have aa0:=ak ((by rw[hg];exact(aA bb):w.heap.size≤gI));have aa1:=ak ((by rw[hg];exact(aA bb):w.heap.size≤gI));have kL:=ak ((by rw[hg];exact Nat.ne_of_lt (fC (ub dU.out)):sS≠gI));have tV:=ak ((by rw[hg];exact Nat.ne_of_gt (fC (ub dU.out)):gI≠sS));replace dU:=kb dU hb;replace HB:=ak (aG bb hb);clear hb hbox hg;have ax1:=tV.out;have ax2:=kL.out;obtain⟨Zu,Zv,Zw,Zx⟩:=wO fU.out))
         have iH:ah (((w55.setCell ⟨gI,0,none⟩ (.string ((aH aC dL).f0))).setCell ⟨gI,1,none⟩ (.string ((aH aC dL).f1))).heap[sS]? =some (.cells #[.string aY, .string bf, .slice (some yc) aC.length dR] 61 (0,0))):=⟨by(with_reducible repeat(first|refine au ?_ _|refine ay ?_|refine aj ?_ _));refine f_ ?_ kL.out _;(with_reducible repeat(first|refine au ?_ _|refine ay ?_|refine aj ?_ _));refine f_ ?_ kL.out _;(with_reducible repeat(first|refine au ?_ _|refine ay ?_|refine aj ?_ _));exact dU.out⟩
         have iI:ah (((w55.setCell ⟨gI,0,none⟩ (.string ((aH aC dL).f0))).setCell ⟨gI,1,none⟩ (.string ((aH aC dL).f1))).heap[gI]? =some (.cells #[.string ((aH aC dL).f0), .string ((aH aC dL).f1)] 69 (0,0))):=⟨by(with_reducible repeat(first|refine au ?_ _|refine ay ?_|refine aj ?_ _));refine bK (cs:=#[.string ((aH aC dL).f0), .string (⟨#[]⟩:ByteArray)]) ?_ 1 _ rfl;(with_reducible repeat(first|refine au ?_ _|refine ay ?_|refine aj ?_ _));refine bK (cs:=#[.string (⟨#[]⟩:ByteArray), .string (⟨#[]⟩:ByteArray)]) ?_ 0 _ rfl;(with_reducible repeat(first|refine au ?_ _|refine ay ?_|refine aj ?_ _));exact fU.out⟩
         have lS:ah (Below w.heap.size w ((w55.setCell ⟨gI,0,none⟩ (.string ((aH aC dL).f0))).setCell ⟨gI,1,none⟩ (.string ((aH aC dL).f1)))):=⟨bb⟩
         (try clear dU)
         (try clear fU)
         (try clear HB)
         generalize ((w55.setCell ⟨gI,0,none⟩ (.string ((aH aC dL).f0))).setCell ⟨gI,1,none⟩ (.string ((aH aC dL).f1)))=w58 at iH iI lS⊢
         have dU:=iH;have fU:=iI;have HB:=lS;clear iH iI lS;replace dU:=ak (ay dU.out);replace fU:=ak (ay fU.out);replace HB:=ak (eY HB.out);refine ro [2,7] [0,1,2,3,4,5,6,7,8,9,10,11,12,13,14,15,16,17,18,19,20,21,22,23,24,25] (fun w'=>w'.cell? ⟨gI,0,none⟩=some (.string ((aH aC dL).f0))∧w'.cell? ⟨gI,1,none⟩=some (.string ((aH aC dL).f1))) ⟨(aI fU.out 0).trans rfl,(aI fU.out 1).trans rfl⟩ ?_
         generalize w58.drew=w59 at dU fU HB⊢
         repeat(first|(refine lk (v:=?_) (a':=?_) (gk.trans rfl) rfl rfl ?_ ?_ ?_;rotate_left;(focus (rintro w' ⟨s0,s1⟩;go_simp;with_reducible rfl));rotate_left;(focus (simp only[Act.put,jI,jJ,l_c,bC,bH];rfl)))|(refine lf (a':=?_) (gk.trans rfl) rfl rfl ?_ ?_;rotate_left;(focus (simp only[Act.put,jI,jJ,l_c,bC,bH];rfl))))
         refine ld (N:=some 31) (gk.trans rfl) rfl rfl (fun K hK=>?_);refine nD Tryz.func136 (by kernel_rfl) rfl #[.string ((aH aC dL).f0)] (by rfl) rfl rfl ma ?_
         with_reducible refine(fG.calls k2 ((aH aC dL).f0) true _ A24.out).mono ?_
         rintro e w60 ⟨rfl,hb⟩;refine⟨_,rfl,?_⟩;replace dU:=kb dU hb;replace fU:=kb fU hb;replace HB:=ak (aG bb hb)
         (try clear hb);refine hK.out _ _ ⟨(aI fU.out 0).trans rfl,(aI fU.out 1).trans rfl⟩ ?_;clear hK K;refine no (a':=?_) ?_ ?_
         rotate_left
         ·show Act.put _ (some 31) _=_
          simp only[Act.put,jI,jJ,l_c,bC,bH];rfl
         repeat(first|(refine lk (v:=?_) (a':=?_) (gk.trans rfl) rfl rfl ?_ ?_ ?_;rotate_left;(focus (rintro w' ⟨s0,s1⟩;go_simp;with_reducible rfl));rotate_left;(focus (simp only[Act.put,jI,jJ,l_c,bC,bH];rfl)))|(refine lf (a':=?_) (gk.trans rfl) rfl rfl ?_ ?_;rotate_left;(focus (simp only[Act.put,jI,jJ,l_c,bC,bH];rfl))))
         refine ld (N:=some 36) (gk.trans rfl) rfl rfl (fun K hK=>?_);refine nD Tryz.func89 (by kernel_rfl) rfl #[.string ((aH aC dL).f1)] (by rfl) rfl rfl ma ?_
         with_reducible refine(bg.calls k2 ((aH aC dL).f1) false _ A26.out).mono ?_
         rintro e w' ⟨rfl,⟨nd,rfl⟩⟩;refine⟨_,rfl,?_⟩;refine hK.out _ _ ⟨(aI fU.out 0).trans rfl,(aI fU.out 1).trans rfl⟩ ?_;clear hK K;refine no (a':=?_) ?_ ?_
         rotate_left
         ·show Act.put _ (some 36) _=_
          simp only[Act.put,jI,jJ,l_c,bC,bH];rfl
         repeat(first|(refine lk (v:=?_) (a':=?_) (gk.trans rfl) rfl rfl ?_ ?_ ?_;rotate_left;(focus (rintro w' ⟨s0,s1⟩;go_simp;with_reducible rfl));rotate_left;(focus (simp only[Act.put,jI,jJ,l_c,bC,bH];rfl)))|(refine lf (a':=?_) (gk.trans rfl) rfl rfl ?_ ?_;rotate_left;(focus (simp only[Act.put,jI,jJ,l_c,bC,bH];rfl))))
         refine on ?_;try go_wp2
         go_ret;exact⟨er,bb⟩
       ·obtain rfl:=Option.some.inj H;have Ea:=zi dL;have Eb:=zj dL aC.length;obtain⟨yc,e227,rG,rH⟩:=nC jc.out dL Ea Eb;cases e227;replace rG:=cl HB.out rG;replace rH:=cl HB.out rH;replace Ea:=eq_true Ea;replace Eb:=eq_true Eb;try go_wp2_with (first|(refine bU (N:=4) rfl ?_;(try(refine aZ (by rfl) ?_;dsimp only));refine bE 4 #[.string (⟨#[]⟩:ByteArray), .string (⟨#[]⟩:ByteArray)] 69 ?_;intro gI hg w61 hbox hb;have fU:=ak (hbox);have aa0:=ak ((by rw[hg];exact(aA bb):w.heap.size≤gI));have aa1:=ak ((by rw[hg];exact(aA bb):w.heap.size≤gI));have kL:=ak ((by rw[hg];exact Nat.ne_of_lt (fC (ub dU.out)):sS≠gI));have tV:=ak ((by rw[hg];exact Nat.ne_of_gt (fC (ub dU.out)):gI≠sS));replace dU:=kb dU hb;replace HB:=ak (aG bb hb);clear hb hbox hg;have ax3:=tV.out;have ax4:=kL.out;obtain⟨asZ,as1,as2,as3⟩:=wO fU.out))
        have iH:ah (((w61.setCell ⟨gI,0,none⟩ (.string ((aH aC dL).f0))).setCell ⟨gI,1,none⟩ (.string ((aH aC dL).f1))).heap[sS]? =some (.cells #[.string aY, .string bf, .slice (some yc) aC.length dR] 61 (0,0))):=⟨by(with_reducible repeat(first|refine au ?_ _|refine ay ?_|refine aj ?_ _));refine f_ ?_ kL.out _;(with_reducible repeat(first|refine au ?_ _|refine ay ?_|refine aj ?_ _));refine f_ ?_ kL.out _;(with_reducible repeat(first|refine au ?_ _|refine ay ?_|refine aj ?_ _));exact dU.out⟩
        have iI:ah (((w61.setCell ⟨gI,0,none⟩ (.string ((aH aC dL).f0))).setCell ⟨gI,1,none⟩ (.string ((aH aC dL).f1))).heap[gI]? =some (.cells #[.string ((aH aC dL).f0), .string ((aH aC dL).f1)] 69 (0,0))):=⟨by(with_reducible repeat(first|refine au ?_ _|refine ay ?_|refine aj ?_ _));refine bK (cs:=#[.string ((aH aC dL).f0), .string (⟨#[]⟩:ByteArray)]) ?_ 1 _ rfl;(with_reducible repeat(first|refine au ?_ _|refine ay ?_|refine aj ?_ _));refine bK (cs:=#[.string (⟨#[]⟩:ByteArray), .string (⟨#[]⟩:ByteArray)]) ?_ 0 _ rfl;(with_reducible repeat(first|refine au ?_ _|refine ay ?_|refine aj ?_ _));exact fU.out⟩
        have lS:ah (Below w.heap.size w ((w61.setCell ⟨gI,0,none⟩ (.string ((aH aC dL).f0))).setCell ⟨gI,1,none⟩ (.string ((aH aC dL).f1)))):=⟨bb⟩
        (try clear dU)
        (try clear fU)
        (try clear HB)
        generalize ((w61.setCell ⟨gI,0,none⟩ (.string ((aH aC dL).f0))).setCell ⟨gI,1,none⟩ (.string ((aH aC dL).f1)))=w64 at iH iI lS⊢
        have dU:=iH;have fU:=iI;have HB:=lS;clear iH iI lS;replace dU:=ak (ay dU.out);replace fU:=ak (ay fU.out);replace HB:=ak (eY HB.out);refine ro [2] [0,1,2,3,4,5,6,7,8,9,10,11,12,13,14,15,16,17,18,19,20,21,22,23,24,25] (fun w'=>w'.cell? ⟨gI,0,none⟩=some (.string ((aH aC dL).f0))∧w'.cell? ⟨gI,1,none⟩=some (.string ((aH aC dL).f1))) ⟨(aI fU.out 0).trans rfl,(aI fU.out 1).trans rfl⟩ ?_
        generalize w64.drew=w65 at dU fU HB⊢
        repeat(first|(refine lk (v:=?_) (a':=?_) (gk.trans rfl) rfl rfl ?_ ?_ ?_;rotate_left;(focus (rintro w' ⟨s0,s1⟩;go_simp;with_reducible rfl));rotate_left;(focus (simp only[Act.put,jI,jJ,l_c,bC,bH];rfl)))|(refine lf (a':=?_) (gk.trans rfl) rfl rfl ?_ ?_;rotate_left;(focus (simp only[Act.put,jI,jJ,l_c,bC,bH];rfl))))
        refine ld (N:=some 31) (gk.trans rfl) rfl rfl (fun K hK=>?_);refine nD Tryz.func136 (by kernel_rfl) rfl #[.string ((aH aC dL).f0)] (by rfl) rfl rfl ma ?_
        with_reducible refine(fG.calls k2 ((aH aC dL).f0) false _ A24.out).mono ?_
        rintro e w66 ⟨rfl,hb⟩;refine⟨_,rfl,?_⟩;replace dU:=kb dU hb;replace fU:=kb fU hb;replace HB:=ak (aG bb hb)
        (try clear hb);refine hK.out _ _ ⟨(aI fU.out 0).trans rfl,(aI fU.out 1).trans rfl⟩ ?_;clear hK K;refine no (a':=?_) ?_ ?_
        rotate_left
        ·show Act.put _ (some 31) _=_
         simp only[Act.put,jI,jJ,l_c,bC,bH];rfl
        repeat(first|(refine lk (v:=?_) (a':=?_) (gk.trans rfl) rfl rfl ?_ ?_ ?_;rotate_left;(focus (rintro w' ⟨s0,s1⟩;go_simp;with_reducible rfl));rotate_left;(focus (simp only[Act.put,jI,jJ,l_c,bC,bH];rfl)))|(refine lf (a':=?_) (gk.trans rfl) rfl rfl ?_ ?_;rotate_left;(focus (simp only[Act.put,jI,jJ,l_c,bC,bH];rfl))))
        refine on ?_;try go_wp2
        go_ret;exact⟨er,bb⟩
      ·replace H:=bd H;obtain⟨t226,A67,H⟩:=H;obtain rfl:=Option.some.inj H;obtain⟨as4,as5,as6,as7,as8,as9⟩:=jP dU.out;go_wp2_with (first|(refine gL 137 57 Tryz.func137 #[.agg #[.string aY, .string bf, .slice fF aC.length dR]] ?_;(with_reducible refine(fP.calls k2 aY bf _ _ aC t226 _ (cu (Kd.aN jc.out HB.out)) kC.out A67.out).mono ?_);rintro e w69 ⟨rfl,hb⟩;refine⟨_,rfl,?_⟩;replace dU:=kb dU hb;replace HB:=ak (aG bb hb);(try clear hb)))
       go_ret;exact⟨er,bb⟩
end Go.Proofs.YtncdadcmghglkaaGreatDoor.PFnExactFormatPart
