/- Printed walks; conditions: those in each statement. -/
import Derived.Test.YtncdadcmghglkaaGreatDoorVFnExactFormatPartQt
import Derived.Test.YtncdadcmghglkaaGreatDoorVFnExactFormatPartYt
import Derived.Test.YtncdadcmghglkaaGreatDoorPFnExactFormatPartx0
import Derived.Test.YtncdadcmghglkaaGreatDoorPFnExactFormatPartx12
import Derived.Test.YtncdadcmghglkaaGreatDoorPFnExactFormatPartx14
namespace Go.Proofs.YtncdadcmghglkaaGreatDoor.PFnExactFormatPart
open Go.RowKit Go.Proofs.YtncdadcmghglkaaGreatDoor.X Go.Proofs.YtncdadcmghglkaaGreatDoorW.dB Go.Proofs.YtncdadcmghglkaaGreatDoorW.iy Go.Proofs.YtncdadcmghglkaaGreatDoorW.jo
attribute [local go_sem] lU lV oh oq kJ kK lW lX   -- for this text's walks alone
set_option linter.unusedVariables false
set_option linter.unusedSimpArgs false
mutual
def aX.j0:Nat→Bool→ByteArray→ByteArray→List (jl)→Option (Bool)
 |0,_,_,_,_=>none
 |k+1,x21,NU,NV,vK=>if x21=true then(some false)else(aX.l0 k (wrap64 ((wrap64 ((NU.size:Int)+(NV.size:Int)))+1)) 0 NU NV vK)
def aX.l0:Nat→Int→Int→ByteArray→ByteArray→List (jl)→Option (Bool)
 |0,_,_,_,_,_=>none
 |k+1,x3,x4,NU,NV,vK=>if x4<(vK.length:Int)then(if 0≤x4 then((jB.f k ((aH vK x4).f0)).bind fun aoS=>(if aoS=true then((qF.f k ((aH vK x4).f1)).bind fun aoT=>(if aoT=true then(if x4≤(vK.length:Int)then((iU.f k (vK.take (x4:Int).toNat) ((aH vK x4).f0)).bind fun abD=>(if abD≥0 then(some false)else((ql.f k ((aH vK x4).f1)).bind fun agq=>(aX.l0 k (wrap64 ((wrap64 ((wrap64 (x3+3))+(((aH vK x4).f0).size:Int)))+(agq.size:Int))) (wrap64 (x4+1)) NU NV vK))))else(none))else(some false)))else(some false)))else(none))else(some (decide (x3≤150)))
end
def aX.f(k:Nat)(aY:ByteArray)(bf:ByteArray)(aC:List (jl)):Option (Bool):=(jB.f k aY).bind fun agr=>(if agr=true then((jB.f k bf).bind fun ags=>(if ags=true then(aX.j0 k (decide ((aC.length:Int)>4)) aY bf aC)else(aX.j0 k true aY bf aC)))else(aX.j0 k true aY bf aC))
def aX.T8:Bool×List (List Nat×List Nat):=(true,[([],[]),([0],[0]),([1],[1]),([2],[2]),([3,2],[3]),([4],[4]),([5,4],[4,5]),([6,4,4],[4,6]),([7,4],[4,7]),([4,8],[4,8]),([9,7],[9]),([10],[10]),([11,10],[10,11]),([10],[10]),([12,13,10],[10,12,13]),([10],[10]),([15,10],[10,15]),([14,16,10,10],[10,14,16]),([17,10],[10,17]),([10,18],[10,18])])
def aX.B8:List Nat:=[0,1,3,7,15,31,63,127,255,511,1023,2047,4095,2047,16383,2047,34815,131071,262143,524287]
theorem aX.ay5:sZ .any (opsOf Tryz.f182 8)=aX.T8:=by kernel_rfl
theorem aX.awJ:pW aX.T8.2 aX.B8=true:=by kernel_rfl
def aX.T10:Bool×List (List Nat×List Nat):=(true,[([],[]),([0],[0]),([],[]),([2],[2]),([3],[3]),([1,4],[1,4]),([],[]),([6],[6]),([7],[7]),([8],[8]),([5,9],[5,9]),([10,8,0,1,2,3,4,5,6,7,8,9,10],[0,10])])
def aX.B10:List Nat:=[0,1,0,4,12,31,0,64,192,448,1023,2047]
theorem aX.awK:sZ .any (opsOf Tryz.f182 10)=aX.T10:=by kernel_rfl
theorem aX.auc:pW aX.T10.2 aX.B10=true:=by kernel_rfl
set_option maxHeartbeats 8000000 in
set_option maxRecDepth 100000 in
theorem aX.calls(k:Nat)(aY:ByteArray)(bf:ByteArray)(fF:Option Addr)(dR:Nat)(aC:List (jl))(r:Bool)(w:World)(jL:Kd.C pV w fF aC.length aC)(jM:aC.length≤dR)(h:aX.f k aY bf aC=some r):
  Calls Tryz.prog 182 #[.agg #[.string aY, .string bf, .slice fF aC.length dR]] w fun e w'=>e= .returned (.bool r)∧Below w.heap.size w w':=by
 have VH:=Tryz.underlying61;have Dq:=Tryz.underlying69;have jc:=ak jL;have kC:=ak jM;clear jL jM;have HB:=ak (Below.refl w.heap.size w);have H:((jB.f k aY).bind fun agr=>(if agr=true then((jB.f k bf).bind fun ags=>(if ags=true then(aX.j0 k (decide ((aC.length:Int)>4)) aY bf aC)else(aX.j0 k true aY bf aC)))else(aX.j0 k true aY bf aC)))=some r:=h;clear h;have HC2:=ak H;clear H;go_enter Tryz.func182,Tryz.ntmps182;go_upto_region 1 with(first|(refine bU (N:=1) rfl ?_;(try(refine aZ (by rfl) ?_;dsimp only));refine bE 1 #[.string aY, .string bf, .slice fF aC.length dR] 61 ?_;intro uP hg w3 hbox hb;have dX:=ak (hbox);have awL:=jY HB hg;have awM:=jY HB hg;replace HB:=bs HB hb;clear hb hbox hg))
 (try simp only[Act.put,jI,jJ,l_c]);go_cut [21] (fun v21 wc=>∃(kq:Nat) (adu:Bool),v21= .bool adu∧ah (aX.j0 kq adu aY bf aC=some r)∧ah (kq≤k)∧ah (wc.heap[uP]? =some (.cells #[.string aY, .string bf,(.slice fF aC.length dR)] 61 (0,0)))∧ah (Below w.heap.size w wc))
 case first=>
  have H:=HC2.out;clear HC2;replace H:=bd H;obtain⟨agr,A4,H⟩:=H;replace H:=sb H;rcases H with⟨rfl,H⟩|⟨rfl,H⟩
  ·replace H:=bd H;obtain⟨ags,A6,H⟩:=H;replace H:=sb H;rcases H with⟨rfl,H⟩|⟨rfl,H⟩
   ·have H':=ak H;clear H;obtain⟨vG,zS,Du,vH,zT,Dv⟩:=jP dX.out;go_wp2_with (first|(refine gL 200 8 Tryz.func200 #[.string aY] ?_;(with_reducible refine(jB.calls k aY true _ A4.out).mono ?_);rintro e w9 ⟨rfl,hb⟩;refine⟨_,rfl,?_⟩;replace dX:=kb dX hb;replace HB:=ak (aG bb hb);(try clear hb);obtain⟨oz,pX,xB,oC,pY,xC⟩:=jP dX.out)|(go_at_call 200;(with_reducible refine(jB.calls k bf true _ A6.out).mono ?_);rintro e Cm ⟨rfl,hb⟩;replace dX:=kb dX hb;replace HB:=ak (aG bb hb);(try clear hb);obtain⟨vM,Bh,Bj,vN,Bl,Bo⟩:=jP dX.out))
    go_meet
    case rel=>exact⟨_,(decide ((aC.length:Int)>4)),rs,H',⟨Qw⟩,⟨ub dX.out⟩,⟨bb⟩⟩
   ·have H':=ak H;clear H;obtain⟨qH,qJ,Dw,qK,qL,Dx⟩:=jP dX.out;go_wp2_with (first|(refine gL 200 8 Tryz.func200 #[.string aY] ?_;(with_reducible refine(jB.calls k aY true _ A4.out).mono ?_);rintro e Q9 ⟨rfl,hb⟩;refine⟨_,rfl,?_⟩;replace dX:=kb dX hb;replace HB:=ak (aG bb hb);(try clear hb);obtain⟨lI,lJ,qM,lK,lM,qN⟩:=jP dX.out)|(go_at_call 200;(with_reducible refine(jB.calls k bf false _ A6.out).mono ?_);rintro e w16 ⟨rfl,hb⟩;replace dX:=kb dX hb;replace HB:=ak (aG bb hb);(try clear hb)))
    go_meet
    case rel=>exact⟨_,(true),rs,H',⟨Qw⟩,⟨ub dX.out⟩,⟨bb⟩⟩
  ·have H':=ak H;clear H;obtain⟨Dy,Dz,DC,DF,DI,DJ⟩:=jP dX.out;go_wp2_with (first|(refine gL 200 8 Tryz.func200 #[.string aY] ?_;(with_reducible refine(jB.calls k aY false _ A4.out).mono ?_);rintro e w18 ⟨rfl,hb⟩;refine⟨_,rfl,?_⟩;replace dX:=kb dX hb;replace HB:=ak (aG bb hb);(try clear hb)))
   go_meet
   case rel=>exact⟨_,(true),rs,H',⟨Qw⟩,⟨ub dX.out⟩,⟨bb⟩⟩
 case rest=>
  clear HC2;try clear c1
  try clear c2
  try clear p2
  try clear c5
  try clear c7
  try clear c18
  try clear oz
  try clear pX
  try clear xB
  try clear vM
  try clear Bh
  try clear Bj
  try clear qH
  try clear qJ
  try clear Dw
  try clear lI
  try clear lJ
  try clear qM
  try clear Dy
  try clear Dz
  try clear DC
  try clear vG
  try clear zS
  try clear Du
  try clear oC
  try clear pY
  try clear xC
  try clear vN
  try clear Bl
  try clear Bo
  try clear qK
  try clear qL
  try clear Dx
  try clear lK
  try clear lM
  try clear qN
  try clear DF
  try clear DI
  try clear DJ
  try clear vH
  try clear zT
  try clear Dv
  obtain⟨kq,adu,rfl,HA,AO,dX,HB⟩:=hcut
  cases kq with
  |zero=>exact absurd HA.out (by simp[aX.j0])
  |succ Gj=>
   have H:=HA.out;clear HA;simp only[aX.j0]at H;replace H:=sb H;rcases H with⟨rfl,H⟩|⟨rfl,H⟩
   ·obtain rfl:=Option.some.inj H;go_wp2;go_ret;exact⟨er,bb⟩
   ·have H':=ak H;clear H;obtain⟨uX,uY,uZ,u_,vk,vw⟩:=jP dX.out;go_wp2;go_loopg [3,4] Gj (fun kq v3 v4 w'=>∃(kG:Int) (fQ:Int),v3= .int .i64 kG∧v4= .int .i64 fQ∧ah (aX.l0 kq kG fQ aY bf aC=some r)∧ah (kq≤Gj)∧ah (w'.heap[uP]? =some (.cells #[.string aY, .string bf,(.slice fF aC.length dR)] 61 (0,0)))∧ah (Below w.heap.size w w'))
    case atStart=>exact⟨(wrap64 ((wrap64 ((aY.size:Int)+(bf.size:Int)))+1)),(0),rs,rs,H',⟨Nat.le_refl _⟩,⟨ub dX.out⟩,⟨bb⟩⟩
    case round=>
     clear H';try clear c1
     try clear c2
     try clear p2
     try clear c5
     try clear p6
     try clear c7
     try clear c18
     try clear c19
     try clear c20
     try clear oz
     try clear pX
     try clear xB
     try clear vM
     try clear Bh
     try clear Bj
     try clear qH
     try clear qJ
     try clear Dw
     try clear lI
     try clear lJ
     try clear qM
     try clear Dy
     try clear Dz
     try clear DC
     try clear uX
     try clear uY
     try clear uZ
     try clear vG
     try clear zS
     try clear Du
     try clear oC
     try clear pY
     try clear xC
     try clear vN
     try clear Bl
     try clear Bo
     try clear qK
     try clear qL
     try clear Dx
     try clear lK
     try clear lM
     try clear qN
     try clear DF
     try clear DI
     try clear DJ
     try clear u_
     try clear vk
     try clear vw
     try clear vH
     try clear zT
     try clear Dv
     try clear p2
     obtain⟨kG,fQ,rfl,rfl,HA,yT,dX,HB⟩:=hrel
     cases gk with
     |zero=>exact absurd HA.out (by simp[aX.l0])
     |succ k2=>
      have H:=HA.out;clear HA;simp only[aX.l0]at H;replace H:=sd H;rcases H with⟨Eo,H⟩|⟨Eo,H⟩
      ·replace H:=og H;obtain⟨OU,H⟩:=H;replace H:=bd H;obtain⟨aoS,A23,H⟩:=H;replace H:=sb H;rcases H with⟨rfl,H⟩|⟨rfl,H⟩
       ·replace H:=bd H;obtain⟨aoT,A25,H⟩:=H;replace H:=sb H;rcases H with⟨rfl,H⟩|⟨rfl,H⟩
        ·have IJ:=eq_true (of_decide_eq_true (by assumption):0≤fQ);replace H:=EG H;obtain⟨GY,ZB,H⟩:=H;obtain⟨VI,VJ⟩:=nm (aC.take (fQ:Int).toNat);rw[←VJ.out]at H
         (try rw[Option.bind_some]at H);replace H:=bd H;obtain⟨abD,A29,H⟩:=H;replace H:=sp H;rcases H with⟨c30,H⟩|⟨c30,H⟩
         ·have adv:decide (0≤abD)=true:=decide_eq_true c30;clear c30;obtain rfl:=Option.some.inj H;obtain⟨TJ,TK,ZC,TL,TM,ZE⟩:=jP dX.out;have Hu:=zi fQ;have Hw:=zj fQ aC.length;obtain⟨zV,XE,vO,vP⟩:=nC jc.out fQ Hu Hw;cases XE;replace vO:=cl HB.out vO;replace vP:=cl HB.out vP;replace Hu:=eq_true Hu;replace Hw:=eq_true Hw;try go_wp2_with (first|(refine bU (N:=5) rfl ?_;(try(refine aZ (by rfl) ?_;dsimp only));refine bE 5 #[.string (⟨#[]⟩:ByteArray), .string (⟨#[]⟩:ByteArray)] 69 ?_;intro iV hg w32 hbox hb;have gQ:=ak (hbox);have adw:=ak ((by rw[hg];exact(aA bb):w.heap.size≤iV));have adx:=ak ((by rw[hg];exact(aA bb):w.heap.size≤iV));have mZ:=ak ((by rw[hg];exact Nat.ne_of_lt (fC (ub dX.out)):uP≠iV));have wR:=ak ((by rw[hg];exact Nat.ne_of_gt (fC (ub dX.out)):iV≠uP));replace dX:=kb dX hb;replace HB:=ak (aG bb hb);clear hb hbox hg;have an4:=wR.out;have an5:=mZ.out;obtain⟨NP,NQ,NR,NS⟩:=wO gQ.out))
          have iH:ah (((w32.setCell ⟨iV,0,none⟩ (.string ((aH aC fQ).f0))).setCell ⟨iV,1,none⟩ (.string ((aH aC fQ).f1))).heap[uP]? =some (.cells #[.string aY, .string bf, .slice (some zV) aC.length dR] 61 (0,0))):=⟨by(with_reducible repeat(first|refine au ?_ _|refine ay ?_|refine aj ?_ _));refine f_ ?_ mZ.out _;(with_reducible repeat(first|refine au ?_ _|refine ay ?_|refine aj ?_ _));refine f_ ?_ mZ.out _;(with_reducible repeat(first|refine au ?_ _|refine ay ?_|refine aj ?_ _));exact dX.out⟩
          have iI:ah (((w32.setCell ⟨iV,0,none⟩ (.string ((aH aC fQ).f0))).setCell ⟨iV,1,none⟩ (.string ((aH aC fQ).f1))).heap[iV]? =some (.cells #[.string ((aH aC fQ).f0), .string ((aH aC fQ).f1)] 69 (0,0))):=⟨by(with_reducible repeat(first|refine au ?_ _|refine ay ?_|refine aj ?_ _));refine bK (cs:=#[.string ((aH aC fQ).f0), .string (⟨#[]⟩:ByteArray)]) ?_ 1 _ rfl;(with_reducible repeat(first|refine au ?_ _|refine ay ?_|refine aj ?_ _));refine bK (cs:=#[.string (⟨#[]⟩:ByteArray), .string (⟨#[]⟩:ByteArray)]) ?_ 0 _ rfl;(with_reducible repeat(first|refine au ?_ _|refine ay ?_|refine aj ?_ _));exact gQ.out⟩
          have lS:ah (Below w.heap.size w ((w32.setCell ⟨iV,0,none⟩ (.string ((aH aC fQ).f0))).setCell ⟨iV,1,none⟩ (.string ((aH aC fQ).f1)))):=⟨bb⟩
          (try clear dX)
          (try clear gQ)
          (try clear HB)
          generalize ((w32.setCell ⟨iV,0,none⟩ (.string ((aH aC fQ).f0))).setCell ⟨iV,1,none⟩ (.string ((aH aC fQ).f1)))=w35 at iH iI lS⊢
          have dX:=iH;have gQ:=iI;have HB:=lS;clear iH iI lS;replace dX:=ak (ay dX.out);replace gQ:=ak (ay gQ.out);replace HB:=ak (eY HB.out);refine ro [2,7,17] [0,1,2,3,4,5,6,7,8,9,10,11,13,15,12,14,16,17,18,19] (fun w'=>w'.cell? ⟨iV,0,none⟩=some (.string ((aH aC fQ).f0))∧w'.cell? ⟨iV,1,none⟩=some (.string ((aH aC fQ).f1))∧w'.cell? ⟨uP,0,none⟩=some (.string aY)∧w'.cell? ⟨uP,1,none⟩=some (.string bf)∧w'.cell? ⟨uP,2,none⟩=some (.slice (some zV) aC.length dR)) ⟨(aI gQ.out 0).trans rfl,(aI gQ.out 1).trans rfl,(aI dX.out 0).trans rfl,(aI dX.out 1).trans rfl,(aI dX.out 2).trans rfl⟩ ?_
          generalize w35.drew=w36 at dX gQ HB⊢
          repeat(refine lk (v:=?_) (a':=?_) (gk.trans rfl) rfl rfl ?_ ?_ ?_;rotate_left;(focus (rintro w' ⟨s0,s1,s2,s3,s4⟩;go_simp;with_reducible rfl));rotate_left;(focus (simp only[Act.put,jI,jJ,l_c,bC,bH];rfl)))
          refine ld (N:=some 44) (gk.trans rfl) rfl rfl (fun K hK=>?_);refine nD Tryz.func200 (by kernel_rfl) rfl #[.string ((aH aC fQ).f0)] (by rfl) rfl rfl ma ?_
          with_reducible refine(jB.calls k2 ((aH aC fQ).f0) true _ A23.out).mono ?_
          rintro e w37 ⟨rfl,hb⟩;refine⟨_,rfl,?_⟩;replace dX:=kb dX hb;replace gQ:=kb gQ hb;replace HB:=ak (aG bb hb)
          (try clear hb);refine hK.out _ _ ⟨(aI gQ.out 0).trans rfl,(aI gQ.out 1).trans rfl,(aI dX.out 0).trans rfl,(aI dX.out 1).trans rfl,(aI dX.out 2).trans rfl⟩ ?_;clear hK K;refine no (a':=?_) ?_ ?_
          rotate_left
          ·show Act.put _ (some 44) _=_
           simp only[Act.put,jI,jJ,l_c,bC,bH];rfl
          repeat(refine lk (v:=?_) (a':=?_) (gk.trans rfl) rfl rfl ?_ ?_ ?_;rotate_left;(focus (rintro w' ⟨s0,s1,s2,s3,s4⟩;go_simp;with_reducible rfl));rotate_left;(focus (simp only[Act.put,jI,jJ,l_c,bC,bH];rfl)))
          refine ld (N:=some 49) (gk.trans rfl) rfl rfl (fun K hK=>?_);refine nD Tryz.func201 (by kernel_rfl) rfl #[.string ((aH aC fQ).f1)] (by rfl) rfl rfl ma ?_
          with_reducible refine(qF.calls k2 ((aH aC fQ).f1) true _ A25.out).mono ?_
          rintro e w' ⟨rfl,⟨nd,rfl⟩⟩;refine⟨_,rfl,?_⟩;have q38:(fQ:Int)≤((aC.length:Int):Int):=of_decide_eq_true (by assumption);obtain⟨ay6,ajn,_,aoU,_⟩:=info_parts Hl;have ZF:aC.length≤dR:=kC.out;have aoV:Kd.C pV _ (some zV) aC.length aC:=jc.out;have ak_:=TN (P:=Tryz.prog) 25 69 .i64 Tryz.underlying25 ajn (some zV) aC.length dR fQ (of_decide_eq_true (by assumption)) q38 ZF;have ala:=Kd.TP (m:=(fQ:Int).toNat) aoV (by omega);have hy38:VI.length=(fQ:Int).toNat:=(by rw[VJ.out,List.length_take];omega)
          rw[←VJ.out]at ala;rw[←hy38]at ak_;have ady:=ak ala;have adz:=ak (show VI.length≤dR from by omega);clear ala aoV ZF ajn aoU;have ay7:=ak hy38;clear hy38;replace q38:=eq_true q38;refine hK.out _ _ ⟨(aI gQ.out 0).trans rfl,(aI gQ.out 1).trans rfl,(aI dX.out 0).trans rfl,(aI dX.out 1).trans rfl,(aI dX.out 2).trans rfl⟩ ?_;clear hK K;refine no (a':=?_) ?_ ?_
          rotate_left
          ·show Act.put _ (some 49) _=_
           simp only[Act.put,jI,jJ,l_c,bC,bH];rfl
          repeat(refine lk (v:=?_) (a':=?_) (gk.trans rfl) rfl rfl ?_ ?_ ?_;rotate_left;(focus (rintro w' ⟨s0,s1,s2,s3,s4⟩;go_simp;with_reducible rfl));rotate_left;(focus (simp only[Act.put,jI,jJ,l_c,bC,bH];rfl)))
          refine ld (N:=some 59) (gk.trans rfl) rfl rfl (fun K hK=>?_);refine nD Tryz.func177 (by kernel_rfl) rfl #[.slice (some zV) VI.length dR, .string ((aH aC fQ).f0)] (by rfl) rfl rfl ma ?_
          with_reducible refine(iU.calls k2 _ _ VI ((aH aC fQ).f0) abD _ ?kX ?nG A29.out).mono ?_
          (case kX=>repeat(first|exact(Kd.aN ady.out bb)|(with_reducible refine Kd.iP ?_ _)|(with_reducible refine Kd.iQ ?_ _)|(with_reducible refine Kd.jK ?_)))
          (case nG=>exact adz.out);rintro e w39 ⟨rfl,hb⟩;refine⟨_,rfl,?_⟩;replace dX:=kb dX hb;replace gQ:=kb gQ hb;replace HB:=ak (aG bb hb)
          (try clear hb);refine hK.out _ _ ⟨(aI gQ.out 0).trans rfl,(aI gQ.out 1).trans rfl,(aI dX.out 0).trans rfl,(aI dX.out 1).trans rfl,(aI dX.out 2).trans rfl⟩ ?_;clear hK K;refine no (a':=?_) ?_ ?_
          rotate_left
          ·show Act.put _ (some 59) _=_
           simp only[Act.put,jI,jJ,l_c,bC,bH];rfl
          repeat(refine lk (v:=?_) (a':=?_) (gk.trans rfl) rfl rfl ?_ ?_ ?_;rotate_left;(focus (rintro w' ⟨s0,s1,s2,s3,s4⟩;go_simp;with_reducible rfl));rotate_left;(focus (simp only[Act.put,jI,jJ,l_c,bC,bH];rfl)))
          refine on ?_;try go_wp2
          go_ret;exact⟨er,bb⟩
         ·have adv:decide (0≤abD)=false:=decide_eq_false c30;clear c30;replace H:=bd H;obtain⟨agq,A40,H⟩:=H;have H':=ak H;clear H;obtain⟨ZG,ZH,agt,ZI,ZJ,agu⟩:=jP dX.out;have Hu:=zi fQ;have Hw:=zj fQ aC.length;obtain⟨zV,XE,vO,vP⟩:=nC jc.out fQ Hu Hw;cases XE;replace vO:=cl HB.out vO;replace vP:=cl HB.out vP;replace Hu:=eq_true Hu;replace Hw:=eq_true Hw;try go_wp2_with (first|(refine bU (N:=5) rfl ?_;(try(refine aZ (by rfl) ?_;dsimp only));refine bE 5 #[.string (⟨#[]⟩:ByteArray), .string (⟨#[]⟩:ByteArray)] 69 ?_;intro iV hg w42 hbox hb;have gQ:=ak (hbox);have adw:=ak ((by rw[hg];exact(aA bb):w.heap.size≤iV));have adx:=ak ((by rw[hg];exact(aA bb):w.heap.size≤iV));have mZ:=ak ((by rw[hg];exact Nat.ne_of_lt (fC (ub dX.out)):uP≠iV));have wR:=ak ((by rw[hg];exact Nat.ne_of_gt (fC (ub dX.out)):iV≠uP));replace dX:=kb dX hb;replace HB:=ak (aG bb hb);clear hb hbox hg;have awN:=wR.out;have awO:=mZ.out;obtain⟨agv,agw,agx,agy⟩:=wO gQ.out))
          have iH:ah (((w42.setCell ⟨iV,0,none⟩ (.string ((aH aC fQ).f0))).setCell ⟨iV,1,none⟩ (.string ((aH aC fQ).f1))).heap[uP]? =some (.cells #[.string aY, .string bf, .slice (some zV) aC.length dR] 61 (0,0))):=⟨by(with_reducible repeat(first|refine au ?_ _|refine ay ?_|refine aj ?_ _));refine f_ ?_ mZ.out _;(with_reducible repeat(first|refine au ?_ _|refine ay ?_|refine aj ?_ _));refine f_ ?_ mZ.out _;(with_reducible repeat(first|refine au ?_ _|refine ay ?_|refine aj ?_ _));exact dX.out⟩
          have iI:ah (((w42.setCell ⟨iV,0,none⟩ (.string ((aH aC fQ).f0))).setCell ⟨iV,1,none⟩ (.string ((aH aC fQ).f1))).heap[iV]? =some (.cells #[.string ((aH aC fQ).f0), .string ((aH aC fQ).f1)] 69 (0,0))):=⟨by(with_reducible repeat(first|refine au ?_ _|refine ay ?_|refine aj ?_ _));refine bK (cs:=#[.string ((aH aC fQ).f0), .string (⟨#[]⟩:ByteArray)]) ?_ 1 _ rfl;(with_reducible repeat(first|refine au ?_ _|refine ay ?_|refine aj ?_ _));refine bK (cs:=#[.string (⟨#[]⟩:ByteArray), .string (⟨#[]⟩:ByteArray)]) ?_ 0 _ rfl;(with_reducible repeat(first|refine au ?_ _|refine ay ?_|refine aj ?_ _));exact gQ.out⟩
          have lS:ah (Below w.heap.size w ((w42.setCell ⟨iV,0,none⟩ (.string ((aH aC fQ).f0))).setCell ⟨iV,1,none⟩ (.string ((aH aC fQ).f1)))):=⟨bb⟩
          (try clear dX)
          (try clear gQ)
          (try clear HB)
          generalize ((w42.setCell ⟨iV,0,none⟩ (.string ((aH aC fQ).f0))).setCell ⟨iV,1,none⟩ (.string ((aH aC fQ).f1)))=w45 at iH iI lS⊢
          have dX:=iH;have gQ:=iI;have HB:=lS;clear iH iI lS;replace dX:=ak (ay dX.out);replace gQ:=ak (ay gQ.out);replace HB:=ak (eY HB.out);refine ro [2,7,17] [0,1,2,3,4,5,6,7,8,9,10,11,13,15,12,14,16,17,18,19] (fun w'=>w'.cell? ⟨iV,0,none⟩=some (.string ((aH aC fQ).f0))∧w'.cell? ⟨iV,1,none⟩=some (.string ((aH aC fQ).f1))∧w'.cell? ⟨uP,0,none⟩=some (.string aY)∧w'.cell? ⟨uP,1,none⟩=some (.string bf)∧w'.cell? ⟨uP,2,none⟩=some (.slice (some zV) aC.length dR)) ⟨(aI gQ.out 0).trans rfl,(aI gQ.out 1).trans rfl,(aI dX.out 0).trans rfl,(aI dX.out 1).trans rfl,(aI dX.out 2).trans rfl⟩ ?_
          generalize w45.drew=w46 at dX gQ HB⊢
          repeat(refine lk (v:=?_) (a':=?_) (gk.trans rfl) rfl rfl ?_ ?_ ?_;rotate_left;(focus (rintro w' ⟨s0,s1,s2,s3,s4⟩;go_simp;with_reducible rfl));rotate_left;(focus (simp only[Act.put,jI,jJ,l_c,bC,bH];rfl)))
          refine ld (N:=some 44) (gk.trans rfl) rfl rfl (fun K hK=>?_);refine nD Tryz.func200 (by kernel_rfl) rfl #[.string ((aH aC fQ).f0)] (by rfl) rfl rfl ma ?_
          with_reducible refine(jB.calls k2 ((aH aC fQ).f0) true _ A23.out).mono ?_
          rintro e w47 ⟨rfl,hb⟩;refine⟨_,rfl,?_⟩;replace dX:=kb dX hb;replace gQ:=kb gQ hb;replace HB:=ak (aG bb hb)
          (try clear hb);refine hK.out _ _ ⟨(aI gQ.out 0).trans rfl,(aI gQ.out 1).trans rfl,(aI dX.out 0).trans rfl,(aI dX.out 1).trans rfl,(aI dX.out 2).trans rfl⟩ ?_;clear hK K;refine no (a':=?_) ?_ ?_
          rotate_left
          ·show Act.put _ (some 44) _=_
           simp only[Act.put,jI,jJ,l_c,bC,bH];rfl
          repeat(refine lk (v:=?_) (a':=?_) (gk.trans rfl) rfl rfl ?_ ?_ ?_;rotate_left;(focus (rintro w' ⟨s0,s1,s2,s3,s4⟩;go_simp;with_reducible rfl));rotate_left;(focus (simp only[Act.put,jI,jJ,l_c,bC,bH];rfl)))
          refine ld (N:=some 49) (gk.trans rfl) rfl rfl (fun K hK=>?_);refine nD Tryz.func201 (by kernel_rfl) rfl #[.string ((aH aC fQ).f1)] (by rfl) rfl rfl ma ?_
          with_reducible refine(qF.calls k2 ((aH aC fQ).f1) true _ A25.out).mono ?_
          rintro e w' ⟨rfl,⟨nd,rfl⟩⟩;refine⟨_,rfl,?_⟩;have q48:(fQ:Int)≤((aC.length:Int):Int):=of_decide_eq_true (by assumption);obtain⟨ay8,ajo,_,aoW,_⟩:=info_parts Hl;have ZK:aC.length≤dR:=kC.out;have aoX:Kd.C pV _ (some zV) aC.length aC:=jc.out;have alb:=TN (P:=Tryz.prog) 25 69 .i64 Tryz.underlying25 ajo (some zV) aC.length dR fQ (of_decide_eq_true (by assumption)) q48 ZK;have alc:=Kd.TP (m:=(fQ:Int).toNat) aoX (by omega);have ald:VI.length=(fQ:Int).toNat:=(by rw[VJ.out,List.length_take];omega)
          rw[←VJ.out]at alc;rw[←ald]at alb;have ady:=ak alc;have adz:=ak (show VI.length≤dR from by omega);clear alc aoX ZK ajo aoW;have ay9:=ak ald;clear ald;replace q48:=eq_true q48;refine hK.out _ _ ⟨(aI gQ.out 0).trans rfl,(aI gQ.out 1).trans rfl,(aI dX.out 0).trans rfl,(aI dX.out 1).trans rfl,(aI dX.out 2).trans rfl⟩ ?_;clear hK K;refine no (a':=?_) ?_ ?_
          rotate_left
          ·show Act.put _ (some 49) _=_
           simp only[Act.put,jI,jJ,l_c,bC,bH];rfl
          repeat(refine lk (v:=?_) (a':=?_) (gk.trans rfl) rfl rfl ?_ ?_ ?_;rotate_left;(focus (rintro w' ⟨s0,s1,s2,s3,s4⟩;go_simp;with_reducible rfl));rotate_left;(focus (simp only[Act.put,jI,jJ,l_c,bC,bH];rfl)))
          refine ld (N:=some 59) (gk.trans rfl) rfl rfl (fun K hK=>?_);refine nD Tryz.func177 (by kernel_rfl) rfl #[.slice (some zV) VI.length dR, .string ((aH aC fQ).f0)] (by rfl) rfl rfl ma ?_
          with_reducible refine(iU.calls k2 _ _ VI ((aH aC fQ).f0) abD _ ?kX ?nG A29.out).mono ?_
          (case kX=>repeat(first|exact(Kd.aN ady.out bb)|(with_reducible refine Kd.iP ?_ _)|(with_reducible refine Kd.iQ ?_ _)|(with_reducible refine Kd.jK ?_)))
          (case nG=>exact adz.out);rintro e w49 ⟨rfl,hb⟩;refine⟨_,rfl,?_⟩;replace dX:=kb dX hb;replace gQ:=kb gQ hb;replace HB:=ak (aG bb hb)
          (try clear hb);refine hK.out _ _ ⟨(aI gQ.out 0).trans rfl,(aI gQ.out 1).trans rfl,(aI dX.out 0).trans rfl,(aI dX.out 1).trans rfl,(aI dX.out 2).trans rfl⟩ ?_;clear hK K;refine no (a':=?_) ?_ ?_
          rotate_left
          ·show Act.put _ (some 59) _=_
           simp only[Act.put,jI,jJ,l_c,bC,bH];rfl
          repeat(refine lk (v:=?_) (a':=?_) (gk.trans rfl) rfl rfl ?_ ?_ ?_;rotate_left;(focus (rintro w' ⟨s0,s1,s2,s3,s4⟩;go_simp;with_reducible rfl));rotate_left;(focus (simp only[Act.put,jI,jJ,l_c,bC,bH];rfl)))
          refine on ?_;try go_wp2
          replace dX:=ak (ay dX.out);replace gQ:=ak (ay gQ.out);replace HB:=ak (eY HB.out);refine ro [8] [0,1,2,6,3,4,5,7,8,9,10,11] (fun w'=>w'.cell? ⟨iV,0,none⟩=some (.string ((aH aC fQ).f0))∧w'.cell? ⟨iV,1,none⟩=some (.string ((aH aC fQ).f1))) ⟨(aI gQ.out 0).trans rfl,(aI gQ.out 1).trans rfl⟩ ?_
          generalize w49.drew=w50 at dX gQ HB⊢
          repeat(refine lk (v:=?_) (a':=?_) (gk.trans rfl) rfl rfl ?_ ?_ ?_;rotate_left;(focus (rintro w' ⟨s0,s1⟩;go_simp;with_reducible rfl));rotate_left;(focus (simp only[Act.put,jI,jJ,l_c,bC,bH];rfl)))
          refine ld (N:=some 70) (gk.trans rfl) rfl rfl (fun K hK=>?_);refine nD Tryz.func202 (by kernel_rfl) rfl #[.string ((aH aC fQ).f1)] (by rfl) rfl rfl ma ?_
          with_reducible refine(ql.calls k2 ((aH aC fQ).f1) agq _ A40.out).mono ?_
          rintro e w51 ⟨rfl,hb⟩;refine⟨_,rfl,?_⟩;replace dX:=kb dX hb;replace gQ:=kb gQ hb;replace HB:=ak (aG bb hb)
          (try clear hb);refine hK.out _ _ ⟨(aI gQ.out 0).trans rfl,(aI gQ.out 1).trans rfl⟩ ?_;clear hK K;refine no (a':=?_) ?_ ?_
          rotate_left
          ·show Act.put _ (some 70) _=_
           simp only[Act.put,jI,jJ,l_c,bC,bH];rfl
          repeat(refine lk (v:=?_) (a':=?_) (gk.trans rfl) rfl rfl ?_ ?_ ?_;rotate_left;(focus (rintro w' ⟨s0,s1⟩;go_simp;with_reducible rfl));rotate_left;(focus (simp only[Act.put,jI,jJ,l_c,bC,bH];rfl)))
          refine on ?_;try go_wp2
          go_roundg k2
          case measure=>have:=AO.out;have:=yT.out;omega
          case rel=>exact⟨(wrap64 ((wrap64 ((wrap64 (kG+3))+(((aH aC fQ).f0).size:Int)))+(agq.size:Int))),(wrap64 (fQ+1)),rs,rs,H',⟨by have:=AO.out;have:=yT.out;omega⟩,⟨ub dX.out⟩,⟨bb⟩⟩
        ·obtain rfl:=Option.some.inj H;obtain⟨Tn,Tq,Tt,Tv,Tz,TA⟩:=jP dX.out;have Hu:=zi fQ;have Hw:=zj fQ aC.length;obtain⟨zV,XE,vO,vP⟩:=nC jc.out fQ Hu Hw;cases XE;replace vO:=cl HB.out vO;replace vP:=cl HB.out vP;replace Hu:=eq_true Hu;replace Hw:=eq_true Hw;try go_wp2_with (first|(refine bU (N:=5) rfl ?_;(try(refine aZ (by rfl) ?_;dsimp only));refine bE 5 #[.string (⟨#[]⟩:ByteArray), .string (⟨#[]⟩:ByteArray)] 69 ?_;intro iV hg w53 hbox hb;have gQ:=ak (hbox);have adw:=ak ((by rw[hg];exact(aA bb):w.heap.size≤iV));have adx:=ak ((by rw[hg];exact(aA bb):w.heap.size≤iV));have mZ:=ak ((by rw[hg];exact Nat.ne_of_lt (fC (ub dX.out)):uP≠iV));have wR:=ak ((by rw[hg];exact Nat.ne_of_gt (fC (ub dX.out)):iV≠uP));replace dX:=kb dX hb;replace HB:=ak (aG bb hb);clear hb hbox hg;have awP:=wR.out;have awQ:=mZ.out;obtain⟨ar4,ar5,ar6,ar7⟩:=wO gQ.out))
         have iH:ah (((w53.setCell ⟨iV,0,none⟩ (.string ((aH aC fQ).f0))).setCell ⟨iV,1,none⟩ (.string ((aH aC fQ).f1))).heap[uP]? =some (.cells #[.string aY, .string bf, .slice (some zV) aC.length dR] 61 (0,0))):=⟨by(with_reducible repeat(first|refine au ?_ _|refine ay ?_|refine aj ?_ _));refine f_ ?_ mZ.out _;(with_reducible repeat(first|refine au ?_ _|refine ay ?_|refine aj ?_ _));refine f_ ?_ mZ.out _;(with_reducible repeat(first|refine au ?_ _|refine ay ?_|refine aj ?_ _));exact dX.out⟩
         have iI:ah (((w53.setCell ⟨iV,0,none⟩ (.string ((aH aC fQ).f0))).setCell ⟨iV,1,none⟩ (.string ((aH aC fQ).f1))).heap[iV]? =some (.cells #[.string ((aH aC fQ).f0), .string ((aH aC fQ).f1)] 69 (0,0))):=⟨by(with_reducible repeat(first|refine au ?_ _|refine ay ?_|refine aj ?_ _));refine bK (cs:=#[.string ((aH aC fQ).f0), .string (⟨#[]⟩:ByteArray)]) ?_ 1 _ rfl;(with_reducible repeat(first|refine au ?_ _|refine ay ?_|refine aj ?_ _));refine bK (cs:=#[.string (⟨#[]⟩:ByteArray), .string (⟨#[]⟩:ByteArray)]) ?_ 0 _ rfl;(with_reducible repeat(first|refine au ?_ _|refine ay ?_|refine aj ?_ _));exact gQ.out⟩
         have lS:ah (Below w.heap.size w ((w53.setCell ⟨iV,0,none⟩ (.string ((aH aC fQ).f0))).setCell ⟨iV,1,none⟩ (.string ((aH aC fQ).f1)))):=⟨bb⟩
         (try clear dX)
         (try clear gQ)
         (try clear HB)
         generalize ((w53.setCell ⟨iV,0,none⟩ (.string ((aH aC fQ).f0))).setCell ⟨iV,1,none⟩ (.string ((aH aC fQ).f1)))=w56 at iH iI lS⊢
         have dX:=iH;have gQ:=iI;have HB:=lS;clear iH iI lS;replace dX:=ak (ay dX.out);replace gQ:=ak (ay gQ.out);replace HB:=ak (eY HB.out);refine ro [2,7] [0,1,2,3,4,5,6,7,8,9,10,11,12,13,14,15,16,17,18,19] (fun w'=>w'.cell? ⟨iV,0,none⟩=some (.string ((aH aC fQ).f0))∧w'.cell? ⟨iV,1,none⟩=some (.string ((aH aC fQ).f1))) ⟨(aI gQ.out 0).trans rfl,(aI gQ.out 1).trans rfl⟩ ?_
         generalize w56.drew=w57 at dX gQ HB⊢
         repeat(first|(refine lk (v:=?_) (a':=?_) (gk.trans rfl) rfl rfl ?_ ?_ ?_;rotate_left;(focus (rintro w' ⟨s0,s1⟩;go_simp;with_reducible rfl));rotate_left;(focus (simp only[Act.put,jI,jJ,l_c,bC,bH];rfl)))|(refine lf (a':=?_) (gk.trans rfl) rfl rfl ?_ ?_;rotate_left;(focus (simp only[Act.put,jI,jJ,l_c,bC,bH];rfl))))
         refine ld (N:=some 44) (gk.trans rfl) rfl rfl (fun K hK=>?_);refine nD Tryz.func200 (by kernel_rfl) rfl #[.string ((aH aC fQ).f0)] (by rfl) rfl rfl ma ?_
         with_reducible refine(jB.calls k2 ((aH aC fQ).f0) true _ A23.out).mono ?_
         rintro e w58 ⟨rfl,hb⟩;refine⟨_,rfl,?_⟩;replace dX:=kb dX hb;replace gQ:=kb gQ hb;replace HB:=ak (aG bb hb)
         (try clear hb);refine hK.out _ _ ⟨(aI gQ.out 0).trans rfl,(aI gQ.out 1).trans rfl⟩ ?_;clear hK K;refine no (a':=?_) ?_ ?_
         rotate_left
         ·show Act.put _ (some 44) _=_
          simp only[Act.put,jI,jJ,l_c,bC,bH];rfl
         repeat(first|(refine lk (v:=?_) (a':=?_) (gk.trans rfl) rfl rfl ?_ ?_ ?_;rotate_left;(focus (rintro w' ⟨s0,s1⟩;go_simp;with_reducible rfl));rotate_left;(focus (simp only[Act.put,jI,jJ,l_c,bC,bH];rfl)))|(refine lf (a':=?_) (gk.trans rfl) rfl rfl ?_ ?_;rotate_left;(focus (simp only[Act.put,jI,jJ,l_c,bC,bH];rfl))))
         refine ld (N:=some 49) (gk.trans rfl) rfl rfl (fun K hK=>?_);refine nD Tryz.func201 (by kernel_rfl) rfl #[.string ((aH aC fQ).f1)] (by rfl) rfl rfl ma ?_
         with_reducible refine(qF.calls k2 ((aH aC fQ).f1) false _ A25.out).mono ?_
         rintro e w' ⟨rfl,⟨nd,rfl⟩⟩;refine⟨_,rfl,?_⟩;refine hK.out _ _ ⟨(aI gQ.out 0).trans rfl,(aI gQ.out 1).trans rfl⟩ ?_;clear hK K;refine no (a':=?_) ?_ ?_
         rotate_left
         ·show Act.put _ (some 49) _=_
          simp only[Act.put,jI,jJ,l_c,bC,bH];rfl
         repeat(first|(refine lk (v:=?_) (a':=?_) (gk.trans rfl) rfl rfl ?_ ?_ ?_;rotate_left;(focus (rintro w' ⟨s0,s1⟩;go_simp;with_reducible rfl));rotate_left;(focus (simp only[Act.put,jI,jJ,l_c,bC,bH];rfl)))|(refine lf (a':=?_) (gk.trans rfl) rfl rfl ?_ ?_;rotate_left;(focus (simp only[Act.put,jI,jJ,l_c,bC,bH];rfl))))
         refine on ?_;try go_wp2
         go_ret;exact⟨er,bb⟩
       ·obtain rfl:=Option.some.inj H;obtain⟨agz,agA,agB,agC,agD,agE⟩:=jP dX.out;have Hu:=zi fQ;have Hw:=zj fQ aC.length;obtain⟨zV,XE,vO,vP⟩:=nC jc.out fQ Hu Hw;cases XE;replace vO:=cl HB.out vO;replace vP:=cl HB.out vP;replace Hu:=eq_true Hu;replace Hw:=eq_true Hw;try go_wp2_with (first|(refine bU (N:=5) rfl ?_;(try(refine aZ (by rfl) ?_;dsimp only));refine bE 5 #[.string (⟨#[]⟩:ByteArray), .string (⟨#[]⟩:ByteArray)] 69 ?_;intro iV hg w60 hbox hb;have gQ:=ak (hbox);have adw:=ak ((by rw[hg];exact(aA bb):w.heap.size≤iV));have adx:=ak ((by rw[hg];exact(aA bb):w.heap.size≤iV));have mZ:=ak ((by rw[hg];exact Nat.ne_of_lt (fC (ub dX.out)):uP≠iV));have wR:=ak ((by rw[hg];exact Nat.ne_of_gt (fC (ub dX.out)):iV≠uP));replace dX:=kb dX hb;replace HB:=ak (aG bb hb);clear hb hbox hg;have awR:=wR.out;have awS:=mZ.out;obtain⟨ar8,ar9,ar_,asa⟩:=wO gQ.out))
        have iH:ah (((w60.setCell ⟨iV,0,none⟩ (.string ((aH aC fQ).f0))).setCell ⟨iV,1,none⟩ (.string ((aH aC fQ).f1))).heap[uP]? =some (.cells #[.string aY, .string bf, .slice (some zV) aC.length dR] 61 (0,0))):=⟨by(with_reducible repeat(first|refine au ?_ _|refine ay ?_|refine aj ?_ _));refine f_ ?_ mZ.out _;(with_reducible repeat(first|refine au ?_ _|refine ay ?_|refine aj ?_ _));refine f_ ?_ mZ.out _;(with_reducible repeat(first|refine au ?_ _|refine ay ?_|refine aj ?_ _));exact dX.out⟩
        have iI:ah (((w60.setCell ⟨iV,0,none⟩ (.string ((aH aC fQ).f0))).setCell ⟨iV,1,none⟩ (.string ((aH aC fQ).f1))).heap[iV]? =some (.cells #[.string ((aH aC fQ).f0), .string ((aH aC fQ).f1)] 69 (0,0))):=⟨by(with_reducible repeat(first|refine au ?_ _|refine ay ?_|refine aj ?_ _));refine bK (cs:=#[.string ((aH aC fQ).f0), .string (⟨#[]⟩:ByteArray)]) ?_ 1 _ rfl;(with_reducible repeat(first|refine au ?_ _|refine ay ?_|refine aj ?_ _));refine bK (cs:=#[.string (⟨#[]⟩:ByteArray), .string (⟨#[]⟩:ByteArray)]) ?_ 0 _ rfl;(with_reducible repeat(first|refine au ?_ _|refine ay ?_|refine aj ?_ _));exact gQ.out⟩
        have lS:ah (Below w.heap.size w ((w60.setCell ⟨iV,0,none⟩ (.string ((aH aC fQ).f0))).setCell ⟨iV,1,none⟩ (.string ((aH aC fQ).f1)))):=⟨bb⟩
        (try clear dX)
        (try clear gQ)
        (try clear HB)
        generalize ((w60.setCell ⟨iV,0,none⟩ (.string ((aH aC fQ).f0))).setCell ⟨iV,1,none⟩ (.string ((aH aC fQ).f1)))=w63 at iH iI lS⊢
        have dX:=iH;have gQ:=iI;have HB:=lS;clear iH iI lS;replace dX:=ak (ay dX.out);replace gQ:=ak (ay gQ.out);replace HB:=ak (eY HB.out);refine ro [2] [0,1,2,3,4,5,6,7,8,9,10,11,12,13,14,15,16,17,18,19] (fun w'=>w'.cell? ⟨iV,0,none⟩=some (.string ((aH aC fQ).f0))∧w'.cell? ⟨iV,1,none⟩=some (.string ((aH aC fQ).f1))) ⟨(aI gQ.out 0).trans rfl,(aI gQ.out 1).trans rfl⟩ ?_
        generalize w63.drew=w64 at dX gQ HB⊢
        repeat(first|(refine lk (v:=?_) (a':=?_) (gk.trans rfl) rfl rfl ?_ ?_ ?_;rotate_left;(focus (rintro w' ⟨s0,s1⟩;go_simp;with_reducible rfl));rotate_left;(focus (simp only[Act.put,jI,jJ,l_c,bC,bH];rfl)))|(refine lf (a':=?_) (gk.trans rfl) rfl rfl ?_ ?_;rotate_left;(focus (simp only[Act.put,jI,jJ,l_c,bC,bH];rfl))))
        refine ld (N:=some 44) (gk.trans rfl) rfl rfl (fun K hK=>?_);refine nD Tryz.func200 (by kernel_rfl) rfl #[.string ((aH aC fQ).f0)] (by rfl) rfl rfl ma ?_
        with_reducible refine(jB.calls k2 ((aH aC fQ).f0) false _ A23.out).mono ?_
        rintro e w65 ⟨rfl,hb⟩;refine⟨_,rfl,?_⟩;replace dX:=kb dX hb;replace gQ:=kb gQ hb;replace HB:=ak (aG bb hb)
        (try clear hb);refine hK.out _ _ ⟨(aI gQ.out 0).trans rfl,(aI gQ.out 1).trans rfl⟩ ?_;clear hK K;refine no (a':=?_) ?_ ?_
        rotate_left
        ·show Act.put _ (some 44) _=_
         simp only[Act.put,jI,jJ,l_c,bC,bH];rfl
        repeat(first|(refine lk (v:=?_) (a':=?_) (gk.trans rfl) rfl rfl ?_ ?_ ?_;rotate_left;(focus (rintro w' ⟨s0,s1⟩;go_simp;with_reducible rfl));rotate_left;(focus (simp only[Act.put,jI,jJ,l_c,bC,bH];rfl)))|(refine lf (a':=?_) (gk.trans rfl) rfl rfl ?_ ?_;rotate_left;(focus (simp only[Act.put,jI,jJ,l_c,bC,bH];rfl))))
        refine on ?_;try go_wp2
        go_ret;exact⟨er,bb⟩
      ·obtain rfl:=Option.some.inj H;obtain⟨asb,asc,ase,asf,asg,ash⟩:=jP dX.out;go_wp2;go_ret;exact⟨er,bb⟩
end Go.Proofs.YtncdadcmghglkaaGreatDoor.PFnExactFormatPart
