/- Printed walks; conditions: those in each statement. -/
import Derived.Test.YtncdadcmghglkaaGreatDoorVFnKidLinesQt
import Derived.Test.YtncdadcmghglkaaGreatDoorVFnKidLinesYt
import Derived.Test.YtncdadcmghglkaaGreatDoorPFnKidLinesx0
import Derived.Test.YtncdadcmghglkaaGreatDoorPFnKidLinesx11
-- short
-- dense
-- sq
-- sq2
namespace Go.Proofs.YtncdadcmghglkaaGreatDoor.PFnKidLines
open Go.RowKit Go.Proofs.YtncdadcmghglkaaGreatDoor.X Go.Proofs.YtncdadcmghglkaaGreatDoorW.dS Go.Proofs.YtncdadcmghglkaaGreatDoorW.kY Go.Proofs.YtncdadcmghglkaaGreatDoorW.n_
attribute [local go_sem] xM xO AV AX vK vM xP xQ   -- for this text's walks alone
set_option linter.unusedVariables false
set_option maxHeartbeats 8000000
set_option maxRecDepth 100000
set_option linter.unusedSimpArgs false
def oJ.f (k:Nat) (a0:ByteArray):Option (Bool):=if(a0.size:Int)≥1 then(if(a0.size:Int)≤40 then((dJ.f k a0).bind fun ar8=>(some ar8))else(some false))else(some false)
theorem oJ.calls {k:Nat} {a0:ByteArray} {r:Bool} {w:World} (h:oJ.f k a0=some r):
  Calls Tryz.prog 193 #[.string a0] w fun e w'=>e= .returned (.bool r)∧dM w w':=by
 unfold oJ.f at h;have H:=h;clear h;replace H:=sp H;rcases H with⟨c2,H⟩|⟨c2,H⟩
 ·have nY:decide (1≤(a0.size:Int))=true:=decide_eq_true c2;have uJ:decide (1≤a0.size)=true:=decide_eq_true (by omega);clear c2;replace H:=sp H;rcases H with⟨c3,H⟩|⟨c3,H⟩
  ·have iH:=decide_eq_true c3;have zH:decide (a0.size≤40)=true:=decide_eq_true (by omega);clear c3;replace H:=bd H;obtain⟨ar8,A4,H⟩:=H;obtain rfl:=s1 H;go_enter Tryz.func193,Tryz.ntmps193;go_wp2_with (go_at_call 138;refine mA (dJ.calls A4.out) ?_;intro nd)
   go_ret;exact⟨rs,dn⟩
  ·have iH:=decide_eq_false c3;have zH:decide (a0.size≤40)=false:=decide_eq_false (by omega);clear c3;obtain rfl:=s1 H;go_enter Tryz.func193,Tryz.ntmps193;go_wp2;go_ret;exact⟨rs,dn⟩
 ·have nY:decide (1≤(a0.size:Int))=false:=decide_eq_false c2;have uJ:decide (1≤a0.size)=false:=decide_eq_false (by omega);clear c2;obtain rfl:=s1 H;go_enter Tryz.func193,Tryz.ntmps193;go_wp2;go_ret;exact⟨rs,dn⟩
def iR.l0:Nat→ByteArray→List Int→Int→Int→Option (ByteArray)
 |0,_,_,_,_=>none
 |k+1,x0,x3,x15,x16=>if x16<x15 then(if 0≤x16 then(if x16<(x0.size:Int)then(if(bt x0 x16)=34 then(if x3.length<140737488355328 then((some (x3++[92]:List Int)).bind fun aio=>(if aio.length<140737488355328 then(iR.l0 k x0 (aio++[bt x0 x16]) x15 (wrap64 (x16+1)))else(none)))else(none))else(if(bt x0 x16)=92 then(if x3.length<140737488355328 then((some (x3++[92]:List Int)).bind fun aip=>(if aip.length<140737488355328 then(iR.l0 k x0 (aip++[bt x0 x16]) x15 (wrap64 (x16+1)))else(none)))else(none))else(if x3.length<140737488355328 then(iR.l0 k x0 (x3++[bt x0 x16]) x15 (wrap64 (x16+1)))else(none))))else(none))else(none))else(if x3.length<140737488355328 then(some (strOfNums (x3++[34])))else(none))
def iR.f (k:Nat) (a0:ByteArray):Option (ByteArray):=(aZ.f k a0).bind fun ar9=>(if ar9=true then((oJ.f k a0).bind fun ar_=>(if ar_=true then(some a0)else(iR.l0 k a0 (([34]:List Int)) (a0.size:Int) 0)))else(some (⟨#[]⟩:ByteArray)))
theorem iR.calls {k:Nat} {a0 r:ByteArray} {w:World} (h:iR.f k a0=some r):
  Calls Tryz.prog 166 #[.string a0] w fun e w'=>e= .returned (.string r)∧Below w.heap.size w w':=by
 have HB:=ak (Below.refl w.heap.size w);unfold iR.f at h;have H:=h;clear h;replace H:=bd H;obtain⟨ar9,A2,H⟩:=H;replace H:=sb H;rcases H with⟨rfl,H⟩|⟨rfl,H⟩
 ·replace H:=bd H;obtain⟨ar_,A4,H⟩:=H;replace H:=sb H;rcases H with⟨rfl,H⟩|⟨rfl,H⟩
  ·obtain rfl:=s1 H;go_enter Tryz.func166,Tryz.ntmps166;go_wp2_with (first|(refine gA Tryz.func89 (aZ.calls A2.out) ?_;intro nd)|(refine gA Tryz.func193 (oJ.calls A4.out) ?_;intro nd))
   go_ret;exact⟨er,ul HB.out⟩
  ·obtain⟨aGz,akz⟩:=nm ([34]:List Int);rw[←akz.out]at H;have H':=ak H;clear H;go_enter Tryz.func166,Tryz.ntmps166;go_wp2_with (first|(refine gA Tryz.func89 (aZ.calls A2.out) ?_;intro nd)|(refine gA Tryz.func193 (oJ.calls A4.out) ?_;intro nd)|(refine SH 13 (Kd.int .u8) 5 [.int .u8 34] akz (cO.one (show Kd.M (Kd.int .u8) _ _ _ 34 [.int .u8 34]from rfl) (cO.none _ _)) ?_;intro aGA w6 ho7 hb;have asa:=ak (Kd.aA ho7 (aj (ul HB.out)));replace HB:=bs HB hb;clear hb ho7))
   go_loopg [3,16] k (fun kq v3 v16 w'=>∃(dR:List Int) (yL:Int),v16= .int .i64 yL∧ah (iR.l0 kq a0 dR (a0.size:Int) yL=some r)∧ah (kq≤k)∧ah (Kd.R (Kd.int .u8) 5 w' w.heap.size (fun _=>True) v3 dR)∧ah (Below w.heap.size w w'))
   case atStart=>exact⟨_,_,rs,H',⟨Nat.le_refl _⟩,⟨ur asa.out⟩,⟨ul HB.out⟩⟩
   case round=>
    clear H';obtain⟨dR,yL,rfl,HA,yH,oz,HB⟩:=hrel
    cases gk with
    |zero=>exact zz HA.out
    |succ k1=>
     obtain⟨H⟩:=HA;simp only[iR.l0]at H;replace H:=sd H;rcases H with⟨tK,H⟩|⟨tK,H⟩
     ·replace H:=nS H;obtain⟨yI,H⟩:=H;replace H:=nS H;obtain⟨nI,H⟩:=H;replace H:=sq H;rcases H with⟨xX,D9,H⟩|⟨c12,xX,D9,H⟩
      ·replace H:=nl H;obtain⟨asb,H⟩:=H;replace H:=ny H;obtain⟨aio,asc,H⟩:=H;replace H:=nl H;obtain⟨ase,H⟩:=H;obtain⟨aGB,akA⟩:=nm (aio++[bt a0 yL]);rw[←akA.out]at H;have H':=ak H;clear H;obtain⟨p11,q11,WS⟩:=bx a0 yL;go_wp2_with (first|(at_builtin;refine aP 29 30 (Kd.int .u8) 22 5 (.int .u8 0) 1 Tryz.underlying22 info5 HB (ur oz.out) asc (by have:=asb.out;omega) ?_;intro aGC w16 ho hb hg hat;have akB:=ak (ho);replace HB:=ak (hb);clear ho hb hg hat oz;have p14:0≤(yL:Int):=of_decide_eq_true (by assumption);have q14:yL<(a0.size:Int):=of_decide_eq_true (by assumption);have anP:=vZ a0 yL;replace p14:=eq_true p14;replace q14:=eq_true q14)|(at_builtin;refine aP 32 36 (Kd.int .u8) 22 5 (.int .u8 0) 1 Tryz.underlying22 info5 HB (ur akB.out) akA (by have:=ase.out;omega) ?_;intro aGD w17 ho hb hg hat;have asf:=ak (ho);replace HB:=ak (hb);clear ho hb hg hat akB))
       go_roundg k1
       case measure=>exact kl
       case rel=>exact⟨_,_,rs,H',⟨kl⟩,⟨ur asf.out⟩,⟨ul HB.out⟩⟩
      ·replace H:=sq H;rcases H with⟨AB,Ea,H⟩|⟨c19,AB,Ea,H⟩
       ·replace H:=nl H;obtain⟨aeU,H⟩:=H;replace H:=ny H;obtain⟨aip,asg,H⟩:=H;replace H:=nl H;obtain⟨ash,H⟩:=H;obtain⟨aGE,akC⟩:=nm (aip++[bt a0 yL]);rw[←akC.out]at H;have H':=ak H;clear H;obtain⟨p11,q11,WS⟩:=bx a0 yL;obtain⟨p18,q18,arO⟩:=bx a0 yL;go_wp2_with (first|(at_builtin;refine aP 29 30 (Kd.int .u8) 22 5 (.int .u8 0) 1 Tryz.underlying22 info5 HB (ur oz.out) asg (by have:=aeU.out;omega) ?_;intro aGF w23 ho hb hg hat;have akD:=ak (ho);replace HB:=ak (hb);clear ho hb hg hat oz;have p21:0≤(yL:Int):=of_decide_eq_true (by assumption);have q21:yL<(a0.size:Int):=of_decide_eq_true (by assumption);have aGG:=vZ a0 yL;replace p21:=eq_true p21;replace q21:=eq_true q21)|(at_builtin;refine aP 32 36 (Kd.int .u8) 22 5 (.int .u8 0) 1 Tryz.underlying22 info5 HB (ur akD.out) akC (by have:=ash.out;omega) ?_;intro aGH w24 ho hb hg hat;have asi:=ak (ho);replace HB:=ak (hb);clear ho hb hg hat akD))
        go_roundg k1
        case measure=>exact kl
        case rel=>exact⟨_,_,rs,H',⟨kl⟩,⟨ur asi.out⟩,⟨ul HB.out⟩⟩
       ·replace H:=nl H;obtain⟨asj,H⟩:=H;obtain⟨aGI,akE⟩:=nm (dR++[bt a0 yL]);rw[←akE.out]at H;have H':=ak H;clear H;obtain⟨p11,q11,WS⟩:=bx a0 yL;obtain⟨p18,q18,arO⟩:=bx a0 yL;obtain⟨p25,q25,hx25⟩:=bx a0 yL;go_wp2_with (at_builtin;refine aP 32 36 (Kd.int .u8) 22 5 (.int .u8 0) 1 Tryz.underlying22 info5 HB (ur oz.out) akE (by have:=asj.out;omega) ?_;intro aGJ w27 ho hb hg hat;have asl:=ak (ho);replace HB:=ak (hb);clear ho hb hg hat oz)
        go_roundg k1
        case measure=>exact kl
        case rel=>exact⟨_,_,rs,H',⟨kl⟩,⟨ur asl.out⟩,⟨ul HB.out⟩⟩
     ·replace H:=nl H;obtain⟨asn,H⟩:=H;obtain⟨aGK,akF⟩:=nm (dR++[34]);rw[←akF.out]at H;obtain rfl:=s1 H;go_wp2_with (at_builtin;refine aP 39 40 (Kd.int .u8) 22 5 (.int .u8 0) 1 Tryz.underlying22 info5 HB (ur oz.out) akF (by have:=asn.out;omega) ?_;intro aGL w29 ho hb hg hat;have aso:=ak (ho);replace HB:=ak (hb);clear ho hb hg hat oz;have aCX:=qE (P:=Tryz.prog) Tryz.underlying22 Tryz.underlying5 Tryz.underlying9 (Kd.uQ aso.out))
      go_ret;exact⟨er,ul HB.out⟩
 ·obtain rfl:=s1 H;go_enter Tryz.func166,Tryz.ntmps166;go_wp2_with (refine gA Tryz.func89 (aZ.calls A2.out) ?_;intro nd)
  go_ret;exact⟨er,ul HB.out⟩
def jK.l0:Nat→ByteArray→List (gK)→Int→Int→Option (ByteArray)
 |0,_,_,_,_=>none
 |k+1,x3,Nh,x14,x15=>if x15<x14 then(if 0≤x15 then(if x15<(Nh.length:Int)then(if 2+((eU Nh x15).f0).size≤9223372036854775807 then(if((⟨#[59,32]⟩:ByteArray)++((eU Nh x15).f0)).size+1≤9223372036854775807 then((iR.f k ((eU Nh x15).f1)).bind fun SS=>(if(((⟨#[59,32]⟩:ByteArray)++((eU Nh x15).f0))++(⟨#[61]⟩:ByteArray)).size+SS.size≤9223372036854775807 then(if x3.size+((((⟨#[59,32]⟩:ByteArray)++((eU Nh x15).f0))++(⟨#[61]⟩:ByteArray))++SS).size≤9223372036854775807 then(jK.l0 k (x3++((((⟨#[59,32]⟩:ByteArray)++((eU Nh x15).f0))++(⟨#[61]⟩:ByteArray))++SS)) Nh x14 (wrap64 (x15+1)))else(none))else(none)))else(none))else(none))else(none))else(none))else(some x3)
def jK.f (k:Nat) (dX:ByteArray) (eF:ByteArray) (aG:List (gK)):Option (ByteArray):=if dX.size+1≤9223372036854775807 then(if(dX++(⟨#[47]⟩:ByteArray)).size+eF.size≤9223372036854775807 then(jK.l0 k ((dX++(⟨#[47]⟩:ByteArray))++eF) aG (aG.length:Int) 0)else(none))else(none)
theorem jK.calls {k fK:Nat} {dX eF r:ByteArray} {iL:Option Addr} {aG:List (gK)} {w:World} (kT:Kd.C qy w iL aG.length aG) (kU:aG.length≤fK) (h:jK.f k dX eF aG=some r):
  Calls Tryz.prog 137 #[.agg #[.string dX, .string eF, .slice iL aG.length fK]] w fun e w'=>e= .returned (.string r)∧Below w.heap.size w w':=by
 have U1:=Tryz.underlying61;have EC:=Tryz.underlying69;have jB:=ak kT;have mM:=ak kU;clear kT kU;have HB:=ak (Below.refl w.heap.size w);unfold jK.f at h;have H:=h;clear h;replace H:=nn H;obtain⟨c2,H⟩:=H;have nY:=eq_true c2;have uJ:=decide_eq_true c2;try have aeD:(9223372036854775807<dX.size+1)=False:=eq_false (Nat.not_lt.2 c2)
 replace H:=nn H;obtain⟨c3,H⟩:=H;have iH:=eq_true c3;have zH:=decide_eq_true c3;try have aGM:(9223372036854775807<dX.size+1+eF.size)=False:=by have h_:=(eq_false (Nat.not_lt.2 c3):(9223372036854775807<(dX++(⟨#[47]⟩:ByteArray)).size+eF.size)=False);simp only[ByteArray.size_append]at h_;exact h_
 try have acS:(9223372036854775807<(dX++(⟨#[47]⟩:ByteArray)).size+eF.size)=False:=eq_false (Nat.not_lt.2 c3)
 have H':=ak H;clear H;go_enter Tryz.func137,Tryz.ntmps137;go_wp2_with (refine bX HB 1 #[.string dX, .string eF, .slice iL aG.length fK] 61 ?_;intro asq w4 C_ aCY hb;replace HB:=bs HB hb;clear hb;have z5:=kF C_.out)
 go_loopg [3,15] k (fun kq v3 v15 w'=>∃(dR:ByteArray) (nK:Int),v3= .string dR∧v15= .int .i64 nK∧ah (jK.l0 kq dR aG (aG.length:Int) nK=some r)∧ah (kq≤k)∧ah (w'.heap[asq]? =some (.cells #[.string dX, .string eF,(.slice iL aG.length fK)] 61 (0,0)))∧ah (Below w.heap.size w w'))
 case atStart=>exact⟨_,_,rs,rs,H',⟨Nat.le_refl _⟩,⟨ub C_.out⟩,⟨bb⟩⟩
 case round=>
  clear H';try clear c2
  try clear nY
  try clear uJ
  try clear aeD
  try clear c3
  try clear iH
  try clear zH
  try clear acS
  obtain⟨dR,nK,rfl,rfl,HA,yH,C_,HB⟩:=hrel
  cases gk with
  |zero=>exact zz HA.out
  |succ k1=>
   obtain⟨H⟩:=HA;simp only[jK.l0]at H;replace H:=sd H;rcases H with⟨nG,H⟩|⟨nG,H⟩
   ·replace H:=nS H;obtain⟨qO,H⟩:=H;replace H:=nS H;obtain⟨tK,H⟩:=H;replace H:=nn H;obtain⟨c9,H⟩:=H;have yI:=eq_true c9;have Gh:=decide_eq_true c9;try have arw:(9223372036854775807<2+((eU aG nK).f0).size)=False:=eq_false (Nat.not_lt.2 c9)
    replace H:=nn H;obtain⟨c10,H⟩:=H;have nI:=eq_true c10;have rP:=decide_eq_true c10;try have akG:(9223372036854775807<2+((eU aG nK).f0).size+1)=False:=by have h_:=(eq_false (Nat.not_lt.2 c10):(9223372036854775807<((⟨#[59,32]⟩:ByteArray)++((eU aG nK).f0)).size+1)=False);simp only[ByteArray.size_append]at h_;exact h_
    try have Xd:(9223372036854775807<((⟨#[59,32]⟩:ByteArray)++((eU aG nK).f0)).size+1)=False:=eq_false (Nat.not_lt.2 c10)
    replace H:=bd H;obtain⟨SS,A11,H⟩:=H;replace H:=nn H;obtain⟨c12,H⟩:=H;have xX:=eq_true c12;have D9:=decide_eq_true c12;try have aCZ:(9223372036854775807<2+((eU aG nK).f0).size+1+SS.size)=False:=by have h_:=(eq_false (Nat.not_lt.2 c12):(9223372036854775807<(((⟨#[59,32]⟩:ByteArray)++((eU aG nK).f0))++(⟨#[61]⟩:ByteArray)).size+SS.size)=False);simp only[ByteArray.size_append]at h_;exact h_
    try have aC0:(9223372036854775807<(((⟨#[59,32]⟩:ByteArray)++((eU aG nK).f0))++(⟨#[61]⟩:ByteArray)).size+SS.size)=False:=eq_false (Nat.not_lt.2 c12)
    replace H:=nn H;obtain⟨c13,H⟩:=H;have vW:=eq_true c13;have Az:=decide_eq_true c13;try have aqU:(9223372036854775807<dR.size+(2+((eU aG nK).f0).size+1+SS.size))=False:=by have h_:=(eq_false (Nat.not_lt.2 c13):(9223372036854775807<dR.size+((((⟨#[59,32]⟩:ByteArray)++((eU aG nK).f0))++(⟨#[61]⟩:ByteArray))++SS).size)=False);simp only[ByteArray.size_append]at h_;exact h_
    try have aj3:(9223372036854775807<dR.size+((((⟨#[59,32]⟩:ByteArray)++((eU aG nK).f0))++(⟨#[61]⟩:ByteArray))++SS).size)=False:=eq_false (Nat.not_lt.2 c13)
    have H':=ak H;clear H;have anQ:=zi nK;have anR:=zj nK aG.length;obtain⟨aC1,azV,aaJ,aaK⟩:=qN jB.out nK anQ anR;cases azV;replace aaJ:=cl HB.out aaJ;replace aaK:=cl HB.out aaK;replace anQ:=eq_true anQ;replace anR:=eq_true anR;try go_wp2_with (refine bY HB 5 #[.string (⟨#[]⟩:ByteArray), .string (⟨#[]⟩:ByteArray)] 69 ?_;intro akH UE OD asr hg hb;have TN:=CP C_ hg;have acY:=CQ C_ hg;replace C_:=kb C_ hb;replace HB:=bz HB hb;clear hb hg;have aC2:=acY.out;have aC3:=TN.out;have z16:=AL OD.out)
    refine ab2 HB OD asr ?_;intro w17 aeV hk HB;replace C_:=kf C_ hk TN;clear hk OD;have OD:=aeV;clear aeV;refine rO [7] [0,1,5,2,3,4,6,7,8,9,10] (fun w'=>w'.cell? ⟨akH,0,none⟩=some (.string ((eU aG nK).f0))∧w'.cell? ⟨akH,1,none⟩=some (.string ((eU aG nK).f1))) ?_;intro w18 hb;replace C_:=kb C_ hb;replace OD:=kb OD hb;replace HB:=bs HB hb;refine⟨sx,?_⟩;repeat refine Ad ?_
    refine rB Tryz.func166 (iR.calls A11.out) ?_;intro w19 hb;replace C_:=kb C_ hb;replace OD:=kb OD hb;replace HB:=bz HB hb;clear hb;refine⟨sx,?_⟩;repeat refine Ad ?_
    refine on ?_;try go_wp2
    go_roundg k1
    case measure=>exact kl
    case rel=>exact⟨_,_,rs,rs,H',⟨kl⟩,⟨ub C_.out⟩,⟨bb⟩⟩
   ·obtain rfl:=s1 H;go_wp2;go_ret;exact⟨er,bb⟩
mutual
def dH.j0:Nat→Bool→ByteArray→ByteArray→List (gK)→Option (Bool)
 |0,_,_,_,_=>none
 |k+1,x20,PV,PW,Dc=>if x20=true then(some false)else(dH.l0 k Dc (Dc.length:Int) 0 PV PW Dc)
def dH.l0:Nat→List (gK)→Int→Int→ByteArray→ByteArray→List (gK)→Option (Bool)
 |0,_,_,_,_,_,_=>none
 |k+1,x22,x23,x24,PV,PW,Dc=>if x24<x23 then(if 0≤x24 then(if x24<(x22.length:Int)then((fU.f k ((eU x22 x24).f0)).bind fun asu=>(if asu=true then((aZ.f k ((eU x22 x24).f1)).bind fun asv=>(if asv=true then(if(((eU x22 x24).f1).size:Int)>40 then(some false)else(if x24≤(Dc.length:Int)then((kP.f k (Dc.take (x24:Int).toNat) ((eU x22 x24).f0)).bind fun aiq=>(if aiq≥0 then(some false)else(dH.l0 k x22 x23 (wrap64 (x24+1)) PV PW Dc)))else(none)))else(some false)))else(some false)))else(none))else(none))else((jK.f k PV PW Dc).bind fun asw=>(some (decide ((asw.size:Int)≤150))))
end
def dH.f (k:Nat) (dX:ByteArray) (eF:ByteArray) (aG:List (gK)):Option (Bool):=(fU.f k dX).bind fun asx=>(if asx=true then((fU.f k eF).bind fun asy=>(if asy=true then(dH.j0 k (decide ((aG.length:Int)>4)) dX eF aG)else(dH.j0 k true dX eF aG)))else(dH.j0 k true dX eF aG))
theorem dH.calls {k fK:Nat} {dX eF:ByteArray} {iL:Option Addr} {aG:List (gK)} {r:Bool} {w:World} (kT:Kd.C qy w iL aG.length aG) (kU:aG.length≤fK) (h:dH.f k dX eF aG=some r):
  Calls Tryz.prog 95 #[.agg #[.string dX, .string eF, .slice iL aG.length fK]] w fun e w'=>e= .returned (.bool r)∧Below w.heap.size w w':=by
 have U1:=Tryz.underlying61;have EC:=Tryz.underlying69;have jB:=ak kT;have mM:=ak kU;clear kT kU;have HB:=ak (Below.refl w.heap.size w);unfold dH.f at h;have H:=h;clear h;have HC2:=ak H;clear H;go_enter Tryz.func95,Tryz.ntmps95;go_upto_region 1 with(refine gG 1 ?_;refine bX HB 1 #[.string dX, .string eF, .slice iL aG.length fK] 61 ?_;intro OE w3 gU aC4 hb;replace HB:=bs HB hb;clear hb)
 (try simp only[Act.put,Aq,Ar,l_c]);go_cut [20] (fun v20 wc=>∃(kq:Nat) (aeW:Bool),v20= .bool aeW∧ah (dH.j0 kq aeW dX eF aG=some r)∧ah (kq≤k)∧ah (wc.heap[OE]? =some (.cells #[.string dX, .string eF,(.slice iL aG.length fK)] 61 (0,0)))∧ah (Below w.heap.size w wc))
 case first=>
  have H:=HC2.out;clear HC2;replace H:=bd H;obtain⟨asx,A4,H⟩:=H;replace H:=sb H;rcases H with⟨rfl,H⟩|⟨rfl,H⟩
  ·replace H:=bd H;obtain⟨asy,A6,H⟩:=H;replace H:=sb H;rcases H with⟨rfl,H⟩|⟨rfl,H⟩
   ·have H':=ak H;clear H;have z8:=kF gU.out;go_wp2_with (first|(refine gB Tryz.func136 (fU.calls A4.out) ?_;intro w9 hb;replace gU:=kb gU hb;replace HB:=bz HB hb;clear hb;have z10:=kF gU.out)|(go_at_call 136;refine mB (fU.calls A6.out) ?_;intro WI hb;replace gU:=kb gU hb;replace HB:=bz HB hb;clear hb;have z12:=kF gU.out))
    go_meet
    case rel=>exact⟨_,_,rs,H',⟨Jp⟩,⟨ub gU.out⟩,⟨bb⟩⟩
   ·have H':=ak H;clear H;have z13:=kF gU.out;go_wp2_with (first|(refine gB Tryz.func136 (fU.calls A4.out) ?_;intro UE hb;replace gU:=kb gU hb;replace HB:=bz HB hb;clear hb;have z15:=kF gU.out)|(go_at_call 136;refine mB (fU.calls A6.out) ?_;intro w16 hb;replace gU:=kb gU hb;replace HB:=bz HB hb;clear hb))
    go_meet
    case rel=>exact⟨_,_,rs,H',⟨Jp⟩,⟨ub gU.out⟩,⟨bb⟩⟩
  ·have H':=ak H;clear H;have z17:=kF gU.out;go_wp2_with (refine gB Tryz.func136 (fU.calls A4.out) ?_;intro w18 hb;replace gU:=kb gU hb;replace HB:=bz HB hb;clear hb)
   go_meet
   case rel=>exact⟨_,_,rs,H',⟨Jp⟩,⟨ub gU.out⟩,⟨bb⟩⟩
 case rest=>
  clear HC2;obtain⟨kq,aeW,rfl,HA,HJ1,gU,HB⟩:=hcut
  cases kq with
  |zero=>exact zz HA.out
  |succ O5=>
   obtain⟨H⟩:=HA;simp only[dH.j0]at H;replace H:=sb H;rcases H with⟨rfl,H⟩|⟨rfl,H⟩
   ·obtain rfl:=s1 H;go_wp2;go_ret;exact⟨er,bb⟩
   ·have H':=ak H;clear H;have z20:=kF gU.out;go_wp2;go_loopg [24] O5 (fun kq v24 w'=>∃(lK:Int),v24= .int .i64 lK∧ah (dH.l0 kq aG (aG.length:Int) lK dX eF aG=some r)∧ah (kq≤O5)∧ah (w'.heap[OE]? =some (.cells #[.string dX, .string eF,(.slice iL aG.length fK)] 61 (0,0)))∧ah (Below w.heap.size w w'))
    case atStart=>exact⟨_,rs,H',⟨Nat.le_refl _⟩,⟨ub gU.out⟩,⟨bb⟩⟩
    case round=>
     clear H';obtain⟨lK,rfl,HA,HK2,gU,HB⟩:=hrel
     cases gk with
     |zero=>exact zz HA.out
     |succ k2=>
      obtain⟨H⟩:=HA;simp only[dH.l0]at H;replace H:=sd H;rcases H with⟨Fb,H⟩|⟨Fb,H⟩
      ·replace H:=nS H;obtain⟨FZ,H⟩:=H;replace H:=nS H;obtain⟨Aw,H⟩:=H;replace H:=bd H;obtain⟨asu,Yv,H⟩:=H;replace H:=sb H;rcases H with⟨rfl,H⟩|⟨rfl,H⟩
       ·replace H:=bd H;obtain⟨asv,A26,H⟩:=H;replace H:=sb H;rcases H with⟨rfl,H⟩|⟨rfl,H⟩
        ·replace H:=sp H;rcases H with⟨c28,H⟩|⟨c28,H⟩
         ·have Gj:decide (40<(((eU aG lK).f1).size:Int))=true:=decide_eq_true c28;have aaI:decide (40<((eU aG lK).f1).size)=true:=decide_eq_true (by omega);clear c28;obtain rfl:=s1 H;have ED:=zi lK;have EF:=zj lK aG.length;obtain⟨IZ,U2,uz,uD⟩:=qN jB.out lK ED EF;cases U2;replace uz:=cl HB.out uz;replace uD:=cl HB.out uD;replace ED:=eq_true ED;replace EF:=eq_true EF;try go_wp2_with (refine gG 4 ?_;refine bY HB 4 #[.string (⟨#[]⟩:ByteArray), .string (⟨#[]⟩:ByteArray)] 69 ?_;intro Df w29 kZ J_ hg hb;have pq:=CP gU hg;have vO:=CQ gU hg;replace gU:=kb gU hb;replace HB:=bz HB hb;clear hb hg;have aC5:=vO.out;have aC6:=pq.out;have z31:=AL kZ.out)
          refine ab2 HB kZ J_ ?_;intro w32 xZ hk HB;replace gU:=kf gU hk pq;clear hk kZ;have kZ:=xZ;clear xZ;refine rO [2,7] [0,1,2,3,4,5,6,7,8,9,10,11,12,13,14,15,16,17,18,19,20,21,22,23,24,25] (fun w'=>w'.cell? ⟨Df,0,none⟩=some (.string ((eU aG lK).f0))∧w'.cell? ⟨Df,1,none⟩=some (.string ((eU aG lK).f1))) ?_;intro w33 hb;replace gU:=kb gU hb;replace kZ:=kb kZ hb;replace HB:=bs HB hb;refine⟨sx,?_⟩;repeat(first|refine Ad ?_|refine U3 ?_)
          refine rB Tryz.func136 (fU.calls Yv.out) ?_;intro w34 hb;replace gU:=kb gU hb;replace kZ:=kb kZ hb;replace HB:=bz HB hb;clear hb;refine⟨sx,?_⟩;repeat(first|refine Ad ?_|refine U3 ?_)
          refine rA Tryz.func89 (aZ.calls A26.out) ?_;intro nd;refine⟨sx,?_⟩;repeat(first|refine Ad ?_|refine U3 ?_)
          refine on ?_;try go_wp2
          go_ret;exact⟨er,bb⟩
         ·have Gj:decide (40<(((eU aG lK).f1).size:Int))=false:=decide_eq_false c28;have aaI:decide (40<((eU aG lK).f1).size)=false:=decide_eq_false (by omega);clear c28;have aeT:=eq_true (of_decide_eq_true (by assumption):0≤lK);replace H:=AY H;obtain⟨akj,asz,H⟩:=H;obtain⟨air,Xe⟩:=nm (aG.take (lK:Int).toNat);rw[←Xe.out]at H;replace H:=bd H;obtain⟨aiq,A37,H⟩:=H;replace H:=sp H;rcases H with⟨Yn,H⟩|⟨Yn,H⟩
          ·have aaL:decide (0≤aiq)=true:=decide_eq_true Yn;clear Yn;obtain rfl:=s1 H;have ED:=zi lK;have EF:=zj lK aG.length;obtain⟨IZ,U2,uz,uD⟩:=qN jB.out lK ED EF;cases U2;replace uz:=cl HB.out uz;replace uD:=cl HB.out uD;replace ED:=eq_true ED;replace EF:=eq_true EF;try go_wp2_with (refine gG 4 ?_;refine bY HB 4 #[.string (⟨#[]⟩:ByteArray), .string (⟨#[]⟩:ByteArray)] 69 ?_;intro Df w39 kZ J_ hg hb;have pq:=CP gU hg;have vO:=CQ gU hg;replace gU:=kb gU hb;replace HB:=bz HB hb;clear hb hg;have aj0:=vO.out;have aj1:=pq.out;have ah_:=AL kZ.out)
           refine ab2 HB kZ J_ ?_;intro w42 xZ hk HB;replace gU:=kf gU hk pq;clear hk kZ;have kZ:=xZ;clear xZ;refine rO [2,7,23] [0,1,2,3,4,5,6,7,8,9,10,11,12,13,14,15,16,17,19,21,18,20,22,23,24,25] (fun w'=>w'.cell? ⟨Df,0,none⟩=some (.string ((eU aG lK).f0))∧w'.cell? ⟨Df,1,none⟩=some (.string ((eU aG lK).f1))∧w'.cell? ⟨OE,0,none⟩=some (.string dX)∧w'.cell? ⟨OE,1,none⟩=some (.string eF)∧w'.cell? ⟨OE,2,none⟩=some (.slice (some IZ) aG.length fK)) ?_;intro w43 hb;replace gU:=kb gU hb;replace kZ:=kb kZ hb;replace HB:=bs HB hb;refine⟨sx,?_⟩;repeat refine Ad ?_
           refine rB Tryz.func136 (fU.calls Yv.out) ?_;intro w44 hb;replace gU:=kb gU hb;replace kZ:=kb kZ hb;replace HB:=bz HB hb;clear hb;refine⟨sx,?_⟩;repeat refine Ad ?_
           refine rA Tryz.func89 (aZ.calls A26.out) ?_;intro nd;have q45:(lK:Int)≤((aG.length:Int):Int):=of_decide_eq_true (by assumption);obtain⟨aGN,akI,_,asA,_⟩:=info_parts DT;have aaM:aG.length≤fK:=mM.out;have asB:Kd.C qy _ (some IZ) aG.length aG:=jB.out;have anS:=U4 (P:=Tryz.prog) 25 69 .i64 Tryz.underlying25 akI (some IZ) aG.length fK lK (of_decide_eq_true (by assumption)) q45 aaM;have anT:=Kd.U5 (m:=(lK:Int).toNat) asB (by omega);have anU:air.length=(lK:Int).toNat:=(by rw[Xe.out,List.length_take];omega)
           rw[←Xe.out]at anT;rw[←anU]at anS;have aeX:=ak anT;have aeY:=ak (show air.length≤fK from by omega);clear anT asB aaM akI asA;have aGO:=ak anU;clear anU;replace q45:=eq_true q45;refine⟨sx,?_⟩;repeat refine Ad ?_
           refine rB Tryz.func88 (kP.calls (cu (Kd.aX aeX.out bb)) aeY.out A37.out) ?_;intro w46 hb;replace gU:=kb gU hb;replace kZ:=kb kZ hb;replace HB:=bz HB hb;clear hb;refine⟨sx,?_⟩;repeat refine Ad ?_
           refine on ?_;try go_wp2
           go_ret;exact⟨er,bb⟩
          ·have aaL:decide (0≤aiq)=false:=decide_eq_false Yn;clear Yn;have H':=ak H;clear H;have ED:=zi lK;have EF:=zj lK aG.length;obtain⟨IZ,U2,uz,uD⟩:=qN jB.out lK ED EF;cases U2;replace uz:=cl HB.out uz;replace uD:=cl HB.out uD;replace ED:=eq_true ED;replace EF:=eq_true EF;try go_wp2_with (refine gG 4 ?_;refine bY HB 4 #[.string (⟨#[]⟩:ByteArray), .string (⟨#[]⟩:ByteArray)] 69 ?_;intro Df w47 kZ J_ hg hb;have pq:=CP gU hg;have vO:=CQ gU hg;replace gU:=kb gU hb;replace HB:=bz HB hb;clear hb hg;have akJ:=vO.out;have akK:=pq.out;have z49:=AL kZ.out)
           refine ab2 HB kZ J_ ?_;intro w50 xZ hk HB;replace gU:=kf gU hk pq;clear hk kZ;have kZ:=xZ;clear xZ;refine rO [2,7,23] [0,1,2,3,4,5,6,7,8,9,10,11,12,13,14,15,16,17,19,21,18,20,22,23,24,25] (fun w'=>w'.cell? ⟨Df,0,none⟩=some (.string ((eU aG lK).f0))∧w'.cell? ⟨Df,1,none⟩=some (.string ((eU aG lK).f1))∧w'.cell? ⟨OE,0,none⟩=some (.string dX)∧w'.cell? ⟨OE,1,none⟩=some (.string eF)∧w'.cell? ⟨OE,2,none⟩=some (.slice (some IZ) aG.length fK)) ?_;intro w51 hb;replace gU:=kb gU hb;replace kZ:=kb kZ hb;replace HB:=bs HB hb;refine⟨sx,?_⟩;repeat refine Ad ?_
           refine rB Tryz.func136 (fU.calls Yv.out) ?_;intro w52 hb;replace gU:=kb gU hb;replace kZ:=kb kZ hb;replace HB:=bz HB hb;clear hb;refine⟨sx,?_⟩;repeat refine Ad ?_
           refine rA Tryz.func89 (aZ.calls A26.out) ?_;intro nd;have q53:(lK:Int)≤((aG.length:Int):Int):=of_decide_eq_true (by assumption);obtain⟨aGP,akL,_,asC,_⟩:=info_parts DT;have aaN:aG.length≤fK:=mM.out;have asD:Kd.C qy _ (some IZ) aG.length aG:=jB.out;have anV:=U4 (P:=Tryz.prog) 25 69 .i64 Tryz.underlying25 akL (some IZ) aG.length fK lK (of_decide_eq_true (by assumption)) q53 aaN;have anW:=Kd.U5 (m:=(lK:Int).toNat) asD (by omega);have anX:air.length=(lK:Int).toNat:=(by rw[Xe.out,List.length_take];omega)
           rw[←Xe.out]at anW;rw[←anX]at anV;have aeX:=ak anW;have aeY:=ak (show air.length≤fK from by omega);clear anW asD aaN akL asC;have aGQ:=ak anX;clear anX;replace q53:=eq_true q53;refine⟨sx,?_⟩;repeat refine Ad ?_
           refine rB Tryz.func88 (kP.calls (cu (Kd.aX aeX.out bb)) aeY.out A37.out) ?_;intro w54 hb;replace gU:=kb gU hb;replace kZ:=kb kZ hb;replace HB:=bz HB hb;clear hb;refine⟨sx,?_⟩;repeat refine Ad ?_
           refine on ?_;try go_wp2
           go_roundg k2
           case measure=>exact kl
           case rel=>exact⟨_,rs,H',⟨kl⟩,⟨ub gU.out⟩,⟨bb⟩⟩
        ·obtain rfl:=s1 H;have ED:=zi lK;have EF:=zj lK aG.length;obtain⟨IZ,U2,uz,uD⟩:=qN jB.out lK ED EF;cases U2;replace uz:=cl HB.out uz;replace uD:=cl HB.out uD;replace ED:=eq_true ED;replace EF:=eq_true EF;try go_wp2_with (refine gG 4 ?_;refine bY HB 4 #[.string (⟨#[]⟩:ByteArray), .string (⟨#[]⟩:ByteArray)] 69 ?_;intro Df w55 kZ J_ hg hb;have pq:=CP gU hg;have vO:=CQ gU hg;replace gU:=kb gU hb;replace HB:=bz HB hb;clear hb hg;have asE:=vO.out;have asF:=pq.out;have z57:=AL kZ.out)
         refine ab2 HB kZ J_ ?_;intro w58 xZ hk HB;replace gU:=kf gU hk pq;clear hk kZ;have kZ:=xZ;clear xZ;refine rO [2,7] [0,1,2,3,4,5,6,7,8,9,10,11,12,13,14,15,16,17,18,19,20,21,22,23,24,25] (fun w'=>w'.cell? ⟨Df,0,none⟩=some (.string ((eU aG lK).f0))∧w'.cell? ⟨Df,1,none⟩=some (.string ((eU aG lK).f1))) ?_;intro w59 hb;replace gU:=kb gU hb;replace kZ:=kb kZ hb;replace HB:=bs HB hb;refine⟨sx,?_⟩;repeat(first|refine Ad ?_|refine U3 ?_)
         refine rB Tryz.func136 (fU.calls Yv.out) ?_;intro TP hb;replace gU:=kb gU hb;replace kZ:=kb kZ hb;replace HB:=bz HB hb;clear hb;refine⟨sx,?_⟩;repeat(first|refine Ad ?_|refine U3 ?_)
         refine rA Tryz.func89 (aZ.calls A26.out) ?_;intro nd;refine⟨sx,?_⟩;repeat(first|refine Ad ?_|refine U3 ?_)
         refine on ?_;try go_wp2
         go_ret;exact⟨er,bb⟩
       ·obtain rfl:=s1 H;have ED:=zi lK;have EF:=zj lK aG.length;obtain⟨IZ,U2,uz,uD⟩:=qN jB.out lK ED EF;cases U2;replace uz:=cl HB.out uz;replace uD:=cl HB.out uD;replace ED:=eq_true ED;replace EF:=eq_true EF;try go_wp2_with (refine gG 4 ?_;refine bY HB 4 #[.string (⟨#[]⟩:ByteArray), .string (⟨#[]⟩:ByteArray)] 69 ?_;intro Df w61 kZ J_ hg hb;have pq:=CP gU hg;have vO:=CQ gU hg;replace gU:=kb gU hb;replace HB:=bz HB hb;clear hb hg;have aC7:=vO.out;have aC8:=pq.out;have z63:=AL kZ.out)
        refine ab2 HB kZ J_ ?_;intro w64 xZ hk HB;replace gU:=kf gU hk pq;clear hk kZ;have kZ:=xZ;clear xZ;refine rO [2] [0,1,2,3,4,5,6,7,8,9,10,11,12,13,14,15,16,17,18,19,20,21,22,23,24,25] (fun w'=>w'.cell? ⟨Df,0,none⟩=some (.string ((eU aG lK).f0))∧w'.cell? ⟨Df,1,none⟩=some (.string ((eU aG lK).f1))) ?_;intro w65 hb;replace gU:=kb gU hb;replace kZ:=kb kZ hb;replace HB:=bs HB hb;refine⟨sx,?_⟩;repeat(first|refine Ad ?_|refine U3 ?_)
        refine rB Tryz.func136 (fU.calls Yv.out) ?_;intro w66 hb;replace gU:=kb gU hb;replace kZ:=kb kZ hb;replace HB:=bz HB hb;clear hb;refine⟨sx,?_⟩;repeat(first|refine Ad ?_|refine U3 ?_)
        refine on ?_;try go_wp2
        go_ret;exact⟨er,bb⟩
      ·replace H:=bd H;obtain⟨asw,A67,H⟩:=H;obtain rfl:=s1 H;have z68:=kF gU.out;go_wp2_with (refine gB Tryz.func137 (jK.calls (cu (Kd.aX jB.out HB.out)) mM.out A67.out) ?_;intro w69 hb;replace gU:=kb gU hb;replace HB:=bz HB hb;clear hb)
       go_ret;exact⟨er,bb⟩
mutual
def bH.l0:Nat→Bool→List ByteArray→Int→Int→ByteArray→ByteArray→List (gK)→Option (ByteArray×ByteArray×(List (gK))×Bool)
 |0,_,_,_,_,_,_,_=>none
 |k+1,x7,x37,x38,x39,EG,EH,Dh=>if x39<x38 then(if 0≤x39 then(if x39<(x37.length:Int)then((strings_Cut.f (mW ByteArray.empty x37 x39) (⟨#[61]⟩:ByteArray)).bind fun Xf=>((dF.f k Xf.2.1).bind fun Xg=>(if Xf.2.2=true then(if Xg.2=true then(bH.j1 k x7 Xf.1 Xg.1 x37 x38 x39 ((Xg.1.length:Int) !=1) EG EH Dh)else(bH.j1 k x7 Xf.1 Xg.1 x37 x38 x39 true EG EH Dh))else(bH.j1 k x7 Xf.1 Xg.1 x37 x38 x39 true EG EH Dh))))else(none))else(none))else(if x7=true then((dH.f k EG EH Dh).bind fun asG=>(if asG=true then(some (EG,EH,Dh,true))else(some ((⟨#[]⟩:ByteArray),(⟨#[]⟩:ByteArray),([]:List (gK)),false))))else(some ((⟨#[]⟩:ByteArray),(⟨#[]⟩:ByteArray),([]:List (gK)),false)))
def bH.j1:Nat→Bool→ByteArray→List ByteArray→List ByteArray→Int→Int→Bool→ByteArray→ByteArray→List (gK)→Option (ByteArray×ByteArray×(List (gK))×Bool)
 |0,_,_,_,_,_,_,_,_,_,_=>none
 |k+1,x7,x11,x14,x37,x38,x39,x64,EG,EH,Dh=>if x64=true then(some ((⟨#[]⟩:ByteArray),(⟨#[]⟩:ByteArray),([]:List (gK)),false))else((kH.f x11 (⟨#[32]⟩:ByteArray)).bind fun anY=>((iQ.f anY).bind fun acZ=>(if 0<(x14.length:Int)then(if Dh.length<4398046511104 then(bH.l0 k x7 x37 x38 (wrap64 (x39+1)) EG EH (Dh++[(⟨acZ,mW ByteArray.empty x14 0⟩:gK)]))else(none))else(none))))
end
def bH.f (k:Nat) (a0:ByteArray):Option (ByteArray×ByteArray×(List (gK))×Bool):=(aZ.f k a0).bind fun asH=>(if asH=true then((gI.f k a0 59).bind fun Gl=>(if 0<(Gl.length:Int)then((kH.f (mW ByteArray.empty Gl 0) (⟨#[32]⟩:ByteArray)).bind fun asI=>((strings_Cut.f asI (⟨#[47]⟩:ByteArray)).bind fun aeZ=>((iQ.f aeZ.1).bind fun O8=>((iQ.f aeZ.2.1).bind fun O9=>(if 1≤(Gl.length:Int)then((some (Gl.drop 1:List ByteArray)).bind fun EI=>(bH.l0 k aeZ.2.2 EI (EI.length:Int) 0 O8 O9 ([]:List (gK))))else(none))))))else(none)))else(some ((⟨#[]⟩:ByteArray),(⟨#[]⟩:ByteArray),([]:List (gK)),false)))
def bH.T13:Bool×List (List Nat×List Nat):=(true,[([],[]),([0],[0]),([],[]),([2],[2]),([3,3],[3]),([],[]),([5],[5]),([6],[6]),([4,7],[4,7]),([8],[8]),([1,9,4],[1,9]),([0,1,2,3,4,5,6,7,8,9,10],[]),([11,10,10,0,1,2,3,4,5,6,7,8,9,10],[10,11])])
def bH.B13:List Nat:=[0,1,0,4,12,0,32,96,252,508,1023,2047,4095]
theorem bH.ae0:wG .any (opsOf Tryz.f48 13)=bH.T13:=by kernel_rfl
theorem bH.YN:uy bH.T13.2 bH.B13=true:=by kernel_rfl
theorem bH.calls {k:Nat} {a0 r1 r2:ByteArray} {r3:List (gK)} {r4:Bool} {w:World} (DW:MaxOk w) (h:bH.f k a0=some (r1,r2,r3,r4)):
  Calls Tryz.prog 48 #[.string a0] w fun e w'=>∃FU:Value,e= .returned (.tuple #[.agg #[.string r1, .string r2,FU], .bool r4])∧Kd.R qy 69 w' w.heap.size (fun _=>True) FU r3∧Below w.heap.size w w':=by
 have U1:=Tryz.underlying61;have EC:=Tryz.underlying69;have HG:=ak DW;clear DW;have HB:=ak (Below.refl w.heap.size w);unfold bH.f at h;have H:=h;clear h;replace H:=bd H;obtain⟨asH,A2,H⟩:=H;replace H:=sb H;rcases H with⟨rfl,H⟩|⟨rfl,H⟩
 ·replace H:=bd H;obtain⟨Gl,A4,H⟩:=H;replace H:=nn H;obtain⟨c5,H⟩:=H;have mQ:=decide_eq_true c5;have Ko:decide (0<Gl.length)=true:=decide_eq_true (by omega);clear c5;replace H:=bd H;obtain⟨asI,A6,H⟩:=H;replace H:=bd H;obtain⟨⟨aGR,aGS,asJ⟩,A7,H⟩:=H
  (try dsimp only at H);replace H:=bd H;obtain⟨O8,A8,H⟩:=H;replace H:=bd H;obtain⟨O9,A9,H⟩:=H;replace H:=AY H;obtain⟨nI,rP,H⟩:=H;replace H:=ny H;obtain⟨EI,akM,H⟩:=H;have H':=ak H;clear H;go_enter Tryz.func48,Tryz.ntmps48;go_wp2_with (first|(refine gG 2 ?_;refine bX HB 2 #[.string (⟨#[]⟩:ByteArray), .string (⟨#[]⟩:ByteArray), .slice none 0 0] 61 ?_;intro Eb WI lg asK hb;replace HB:=bs HB hb;clear hb)|(refine gD Tryz.func89 (aZ.calls A2.out) ?_;intro WI hb;replace lg:=kb lg hb;replace HB:=bz HB hb;clear hb)|(refine gV Tryz.func90 (gI.calls A4.out) ?_;rintro aGT w12 ⟨ho0,hb⟩;have zI:=ak (Kd.aA ho0 (aj bb));replace lg:=kb lg hb;replace HB:=bz HB hb;clear hb;(try clear ho0);obtain⟨Yr,JQ,UH⟩:=Kd.aI zI.out;subst UH;have ae1:0≤(0:Int):=(by omega);have ae2:0<(Gl.length:Int):=of_decide_eq_true (by assumption);obtain⟨Xh,azW,PX⟩:=Kd.iJ (Kd.ay zI.out).2.2 0 ae1 ae2;cases azW;have aC9:(0<Gl.length)=True:=eq_true (by omega);(try rw[show((0:Int)).toNat=0 from rfl]at PX);(try rw[Addr.add_zero']at PX);replace ae1:=eq_true ae1;replace ae2:=eq_true ae2)|(refine gD Tryz.func92 (kH.calls A6.out) ?_;intro w12 hb;replace zI:=rb zI hb;replace lg:=kb lg hb;replace HB:=bz HB hb;clear hb)|(refine gD Tryz.func91 (strings_Cut.calls ?fH A7.out) ?_;(case fH=>first|exact HG.out|exact MaxOk.below HG.out bb|(repeat(first|exact HG.out|apply MaxOk.drewN|apply MaxOk.drew)));intro w12 hb;replace zI:=rb zI hb;replace lg:=kb lg hb;replace HB:=bz HB hb;clear hb)|(refine gB Tryz.func93 (iQ.calls A8.out) ?_;intro UE hb;replace zI:=rb zI hb;replace lg:=kb lg hb;replace HB:=bz HB hb;clear hb)|(refine gB Tryz.func93 (iQ.calls A9.out) ?_;intro w15 hb;replace zI:=rb zI hb;replace lg:=kb lg hb;replace HB:=bz HB hb;clear hb)|(refine gG 8 ?_;refine bY HB 8 #[.string (⟨#[]⟩:ByteArray), .string (⟨#[]⟩:ByteArray), .slice none 0 0] 61 ?_;intro yc w16 mg aC_ hg hb;have Bj:=CP lg hg;have Bl:=CQ lg hg;replace zI:=rb zI hb;replace lg:=kb lg hb;replace HB:=bz HB hb;clear hb hg;have akN:=Bl.out;have akO:=Bj.out;have z18:=kF mg.out)|((with_reducible refine QE (t:=61) (p:=8) rfl ?_);refine OG (t:=61) (p:=8) (v:=?azX) (w1:=(((w16.setCell ⟨yc,0,none⟩ (.string O8)).setCell ⟨yc,1,none⟩ (.string O9)).setCell ⟨yc,2,none⟩ (.slice none 0 0))) ?hg ?ho ?hn ?hr ?_;(case ho=>rfl);(case hg=>rfl);(case hn=>rfl);(case hr=>first|(go_simp;done)|(go_simp;rfl));intro w19 hw;have zB:ah (Kd.R Kd.string 9 w19 w.heap.size (fun _=>True) (.slice (some Xh) Gl.length JQ) Gl):=⟨(by rw[hw];exact(ur (Kd.aQ (Kd.lI (p:=⟨yc,2,none⟩) (Kd.lI (p:=⟨yc,1,none⟩) (Kd.lI (p:=⟨yc,0,none⟩) (Kd.lU zI.out mg.out (by decide)) (fun _ hk=>hk.2) (.string O8)) (fun _ hk=>hk.2) (.string O9)) (fun _ hk=>hk.2) (.slice none 0 0)) (fun _ hk=>trivial))))⟩;have zC:ah (w19.heap[Eb]? =some (.cells #[.string (⟨#[]⟩:ByteArray), .string (⟨#[]⟩:ByteArray), .slice none 0 0] 61 (0,0))):=⟨(by rw[hw];exact bq)⟩;have Au:ah (w19.heap[yc]? =some (.cells #[.string O8, .string O9, .slice none 0 0] 61 (0,0))):=⟨(by rw[hw];exact bq)⟩;have D7:ah (Below w.heap.size w w19):=⟨(by rw[hw];exact bb)⟩;clear hw;clear zI;clear lg;clear mg;clear HB;have zI:=zB;have lg:=zC;have mg:=Au;have HB:=D7;clear zB zC Au D7;have q20:(1:Int)≤((Gl.length:Int):Int):=of_decide_eq_true (by assumption);obtain⟨aGU,akP,_,akQ,_⟩:=info_parts info9;have PY:Gl.length≤JQ:=(Kd.ay zI.out).2.1;have asL:Kd.F Kd.string _ _ (some Xh) Gl.length Gl:=(Kd.ais (base:=w.heap.size) (Kd.R_V (Kd.lU (Kd.lU (zI.out) lg.out (by decide)) mg.out (by decide)))).2.2;have anZ:=ae3 (P:=Tryz.prog) 23 9 .i64 Tryz.underlying23 akP 1 akQ (some Xh) Gl.length JQ 1 (by omega) q20;have ae4:=Kd.asM (m:=(1:Int).toNat) (c:=JQ) asL (by omega) PY;obtain⟨A20,hA20⟩:∃A1,A1=(if JQ=(1:Int).toNat then(some Xh)else((some Xh):Option Addr).map (·.add ((1:Int).toNat*1))):=⟨_,rfl⟩;obtain⟨c20,ait⟩:∃c1,c1=JQ-(1:Int).toNat:=⟨_,rfl⟩;have ae5:EI.length=Gl.length-(1:Int).toNat:=(by rw[akM.out,List.length_drop]<;>omega);rw[show(Gl).drop (1:Int).toNat=EI from akM.out.symm]at ae4;replace ae4:Kd.F Kd.string _ _ A20 EI.length EI:=(by rw[hA20];exact ae4);rw[←ae5,←hA20,←ait]at anZ;have asN:=ak (show Kd.V Kd.string 9 _ w.heap.size _ (.slice A20 EI.length c20) EI from Kd.azY (by rw[ae5,ait];exact Nat.sub_le_sub_right PY _) ae4);have aDa:=ak (show EI.length≤c20 from by rw[ae5,ait];exact Nat.sub_le_sub_right PY _);clear ae4 asL PY akP akQ ait;have aGV:=ak ae5;have aGW:=ak hA20;clear ae5 hA20;replace q20:=eq_true q20))
  go_loopg [39] k (fun kq v39 w'=>∃(QF:Int) (HY:ByteArray) (H6:ByteArray) (wZ:List (gK)) (yg:Value),v39= .int .i64 QF∧ah (bH.l0 kq asJ EI (EI.length:Int) QF O8 O9 wZ=some (r1,r2,r3,r4))∧ah (kq≤k)∧ah (Kd.V Kd.string 9 w' w.heap.size (fun k_=>some k_≠(yg:Value).ownBlock∧k_≠Eb∧k_≠yc) (.slice A20 EI.length c20) EI)∧ah (Kd.R qy 69 w' w.heap.size (fun _=>True) yg wZ)∧ah (w'.heap[Eb]? =some (.cells #[.string HY, .string H6,(.slice none 0 0)] 61 (0,0)))∧ah (w'.heap[yc]? =some (.cells #[.string O8, .string O9,yg] 61 (0,0)))∧ah (Below w.heap.size w w'))
  case atStart=>exact⟨_,_,_,_,_,rs,H',⟨Nat.le_refl _⟩,⟨by(with_reducible repeat(first|apply Kd.H7|apply Kd.EJ|apply Kd.Gm));exact Kd.Jr asN.out (fun _ hk=>⟨(by simp[Value.ownBlock]),⟨hk.1.2,hk.2⟩⟩)⟩,⟨nx⟩,⟨ub lg.out⟩,⟨ub mg.out⟩,⟨bb⟩⟩
  case round=>
   clear H';try clear c1
   try clear c5
   try clear mQ
   try clear Ko
   try clear nI
   try clear rP
   try clear c20
   try clear q20
   try clear PX
   try clear ae1
   try clear q20
   try clear ae2
   obtain⟨QF,HY,H6,wZ,yg,rfl,HA,yH,xg,jm,lg,mg,HB⟩:=hrel
   cases gk with
   |zero=>exact zz HA.out
   |succ k1=>
    obtain⟨H⟩:=HA;simp only[bH.l0]at H;replace H:=sd H;rcases H with⟨Fb,H⟩|⟨Fb,H⟩
    ·replace H:=nS H;obtain⟨FZ,H⟩:=H;replace H:=nS H;obtain⟨Aw,H⟩:=H;replace H:=bd H;obtain⟨⟨asO,aGX,aGY⟩,Yv,H⟩:=H
     (try dsimp only at H);replace H:=bd H;obtain⟨⟨QG,aGZ⟩,A25,H⟩:=H
     (try dsimp only at H);have an0:=ak H;clear H;have aiu:=zi QF;have aiv:=zj QF EI.length;obtain⟨asP,azZ,aiw⟩:=Kd.iJ (Kd.ae6 xg.out).2.2 QF aiu aiv;cases azZ;replace aiu:=eq_true aiu;replace aiv:=eq_true aiv;go_upto_region 11 with(first|(refine gA Tryz.func91 (strings_Cut.calls ?fH Yv.out) ?_;(case fH=>first|exact HG.out|exact MaxOk.below HG.out bb|(repeat(first|exact HG.out|apply MaxOk.drewN|apply MaxOk.drew)));intro nd)|(refine gV Tryz.func94 (dF.calls A25.out) ?_;rintro asQ w27 ⟨ho0,hb⟩;have aaO:=ak (Kd.aA ho0 (aj bb));replace xg:=ak (Kd.ae7 (by(with_reducible repeat(first|apply Kd.H7|apply Kd.EJ|apply Kd.Gm));exact xg.out) (Kd.dw ho0) hb);replace jm:=rb jm hb;replace lg:=kb lg hb;replace mg:=kb mg hb;replace HB:=bz HB hb;clear hb;(try clear ho0)))
     (try simp only[Act.put,Aq,Ar,l_c]);go_cut [64] (fun v64 wc=>∃(kq:Nat) (YO:Bool),v64= .bool YO∧ah (bH.j1 kq asJ asO QG EI (EI.length:Int) QF YO O8 O9 wZ=some (r1,r2,r3,r4))∧ah (kq≤k1)∧ah (Kd.R Kd.string 9 wc w.heap.size (fun _=>True) asQ QG)∧ah (Kd.V Kd.string 9 wc w.heap.size (fun k_=>some k_≠(asQ:Value).ownBlock∧some k_≠(yg:Value).ownBlock∧k_≠Eb∧k_≠yc) (.slice (some asP) EI.length c20) EI)∧ah (Kd.R qy 69 wc w.heap.size (fun _=>True) yg wZ)∧ah (wc.heap[Eb]? =some (.cells #[.string HY, .string H6,(.slice none 0 0)] 61 (0,0)))∧ah (wc.heap[yc]? =some (.cells #[.string O8, .string O9,yg] 61 (0,0)))∧ah (Below w.heap.size w wc))
     case first=>
      have H:=an0.out;clear an0;replace H:=sb H;rcases H with⟨rfl,H⟩|⟨rfl,H⟩
      ·replace H:=sb H;rcases H with⟨rfl,H⟩|⟨rfl,H⟩
       ·have H':=ak H;clear H;obtain⟨asR,asT,aix⟩:=Kd.aI aaO.out;subst aix;go_wp2;go_meet
        case rel=>exact⟨_,_,rs,H',⟨kl⟩,⟨ur aaO.out⟩,⟨by(with_reducible repeat(first|apply Kd.H7|apply Kd.EJ|apply Kd.Gm));exact Kd.Jr xg.out (fun _ hk=>⟨hk.2,⟨hk.1.1,⟨hk.1.2.1,hk.1.2.2⟩⟩⟩)⟩,⟨ur jm.out⟩,⟨ub lg.out⟩,⟨ub mg.out⟩,⟨bb⟩⟩
       ·have H':=ak H;clear H;go_wp2;go_meet
        case rel=>exact⟨_,_,rs,H',⟨kl⟩,⟨ur aaO.out⟩,⟨by(with_reducible repeat(first|apply Kd.H7|apply Kd.EJ|apply Kd.Gm));exact Kd.Jr xg.out (fun _ hk=>⟨hk.2,⟨hk.1.1,⟨hk.1.2.1,hk.1.2.2⟩⟩⟩)⟩,⟨ur jm.out⟩,⟨ub lg.out⟩,⟨ub mg.out⟩,⟨bb⟩⟩
      ·have H':=ak H;clear H;go_wp2;go_meet
       case rel=>exact⟨_,_,rs,H',⟨kl⟩,⟨ur aaO.out⟩,⟨by(with_reducible repeat(first|apply Kd.H7|apply Kd.EJ|apply Kd.Gm));exact Kd.Jr xg.out (fun _ hk=>⟨hk.2,⟨hk.1.1,⟨hk.1.2.1,hk.1.2.2⟩⟩⟩)⟩,⟨ur jm.out⟩,⟨ub lg.out⟩,⟨ub mg.out⟩,⟨bb⟩⟩
     case rest=>
      clear an0;try clear c1
      try clear c5
      try clear mQ
      try clear Ko
      try clear nI
      try clear rP
      try clear c20
      try clear q20
      try clear Fb
      try clear FZ
      try clear Aw
      try clear PX
      try clear aiw
      try clear ae1
      try clear aiu
      try clear q20
      try clear ae2
      try clear aiv
      obtain⟨kq,YO,rfl,HA,asU,qK,xg,jm,lg,mg,HB⟩:=hcut
      cases kq with
      |zero=>exact zz HA.out
      |succ az0=>
       obtain⟨H⟩:=HA;simp only[bH.j1]at H;replace H:=sb H;rcases H with⟨rfl,H⟩|⟨rfl,H⟩
       ·obtain⟨rfl,rfl,rfl,rfl⟩:=s4 H;have akR:=Bj.out;have akS:=Bl.out;have z33:=kF lg.out;go_wp2;refine bodyPost_ret (lq rfl _ _ Eb 61 #[.string (⟨#[]⟩:ByteArray), .string (⟨#[]⟩:ByteArray), .slice none 0 0] (0,0) _ rfl bq Tryz.underlying61 rfl (by kernel_rfl)) rfl ?_;exact⟨_,er,nx,bb⟩
       ·replace H:=bd H;obtain⟨anY,A34,H⟩:=H;replace H:=bd H;obtain⟨acZ,A35,H⟩:=H;replace H:=nn H;obtain⟨c36,H⟩:=H;have akj:=decide_eq_true c36;have asz:decide (0<QG.length)=true:=decide_eq_true (by omega);clear c36;replace H:=nl H;obtain⟨ae8,H⟩:=H;obtain⟨az1,akT⟩:=nm (wZ++[(⟨acZ,mW ByteArray.empty QG 0⟩:gK)]);rw[←akT.out]at H;have H':=ak H;clear H;try go_wp2
        replace qK:=ak (Kd.lM qK.out);replace xg:=ak (Kd.Gm xg.out);replace jm:=ak (Kd.lM jm.out);replace lg:=ak (jC lg.out);replace mg:=ak (jC mg.out);replace HB:=ak (iI HB.out);obtain⟨asV,an1,ae9⟩:=Kd.aI qK.out
        (first|subst ae9|(injection ae9 with qI xI qJ;have xJ:=qI.symm;have xK:=qJ.symm;clear qI xI qJ;subst xJ;subst xK));have an2:0≤(0:Int):=(by omega)
        have an3:0<(QG.length:Int):=of_decide_eq_true (by assumption);obtain⟨akU,az2,PZ⟩:=Kd.iJ (Kd.ay qK.out).2.2 0 an2 an3;cases az2;have aDb:(0<QG.length)=True:=eq_true (by omega)
        (try rw[show((0:Int)).toNat=0 from rfl]at PZ)
        (try rw[Addr.add_zero']at PZ);replace an2:=eq_true an2;replace an3:=eq_true an3;refine DU (n:=13) (S:=fun w'=>w'.cell? ⟨yc,0,none⟩=some (.string O8)∧w'.cell? ⟨yc,1,none⟩=some (.string O9)∧w'.cell? ⟨yc,2,none⟩=some (yg)∧w'.cell? akU=some (.string (mW ByteArray.empty QG 0))) (ds:=[10,12]) #[false,false,false,false,false,false,false,false,false,false,false,false,false] (by kernel_rfl) rfl rfl ⟨(aC mg.out 0).trans rfl,(aC mg.out 1).trans rfl,(aC mg.out 2).trans rfl,PZ⟩ (fun hHeld=>?_);refine t_ bH.ae0 bH.YN (fun E5 HW_=>?_)
        generalize wc.drew=w38 at qK xg jm lg mg HB PZ hHeld⊢
        refine pl 0 ?_;refine pl 2 ?_;refine pl 5 ?_;refine pl 6 ?_;refine tk 1 ?_;refine tk 7 ?_;refine o1 3 (fun K hK=>?_);refine zD Tryz.func92 (by kernel_rfl) rfl #[.string asO, .string (⟨#[32]⟩:ByteArray)] (by rfl) rfl rfl ma ?_
        with_reducible refine(kH.calls A34.out).mono ?_
        rintro e w' ⟨rfl,⟨nd,rfl⟩⟩;refine⟨_,rfl,?_⟩;refine hK.out _ _ ⟨(aC mg.out 0).trans rfl,(aC mg.out 1).trans rfl,(aC mg.out 2).trans rfl,hHeld.2.2.2⟩ (fun hHeld=>?_);clear hK K;refine nrm ?_;refine o1 4 (fun K hK=>?_);refine zD Tryz.func93 (by kernel_rfl) rfl #[.string anY] (by rfl) rfl rfl ma ?_
        with_reducible refine(iQ.calls A35.out).mono ?_
        rintro e w40 ⟨rfl,hb⟩;have an4:=(hb.cell (World.block_lt_of_cell? _ _ (hHeld.2.2.2))).trans (hHeld.2.2.2);refine⟨_,rfl,?_⟩;replace qK:=rb qK hb;replace xg:=vb xg hb;replace jm:=rb jm hb;replace lg:=kb lg hb;replace mg:=kb mg hb;replace HB:=bz HB hb;try clear hb
        refine hK.out _ _ ⟨(aC mg.out 0).trans rfl,(aC mg.out 1).trans rfl,(aC mg.out 2).trans rfl,an4⟩ (fun hHeld=>?_);clear hK K;refine nrm ?_;refine pl 8 ?_;refine o1 9 (fun K hK=>?_);refine DV (w1:=?_) (v:=?_) (by rfl) rfl ?_ ?_
        rotate_left 2
        ·go_simp;constructor
         ·rfl
         ·rfl
        refine hK.out _ _ ⟨(aC (iW mg.out _) 0).trans rfl,(aC (iW mg.out _) 1).trans rfl,(aC (iW mg.out _) 2).trans rfl,(World.cell?_alloc_lt _ _ _ (World.block_lt_of_cell? _ _ (hHeld.2.2.2))).trans (hHeld.2.2.2)⟩ (fun hHeld=>?_);clear hK K;refine nrm ?_;refine IV (i:=10) (N:=some 76) #[true,true,true,true,true,true,true,true,true,true,true,false,false] rfl rfl (BG E5.out (by kernel_rfl)) (by decide) (fun K hK=>?_);refine Kd.nD qy (w0:=w) w.heap.size (by rfl) (.tmp 67) (.tmp 75) 25 69 (.agg #[(.string ⟨#[]⟩),(.string ⟨#[]⟩)]) 32 rfl Tryz.underlying25 DT rfl (by decide) (by omega) yg wZ (⟨acZ,mW ByteArray.empty QG 0⟩:gK) [.string acZ, .string (mW ByteArray.empty QG 0)] (fun _=>True) (fun _=>False) rfl rfl ?aP (fun _ hk=>hk.elim) ?aF ?aO ?aB ?aS ?aL ?_
        (case aP=>exact wL _ _ _ (⟨acZ,mW ByteArray.empty QG 0⟩:gK))
        (case aB=>exact bb)
        (case aF=>exact(fun _ _=>trivial))
        (case aO=>exact(ur jm.out))
        (case aS=>exact(aj bb))
        (case aL=>have:=ae8.out;omega);intro aG0 w41 ho hb hg hat
        rw[←akT.out]at ho;have zB:=ak (Kd.pX (ur qK.out) (Kd.kG (ur jm.out)) (by decide) hg);have zC:=ak (Kd.ae_ (ok:=(fun k_=>some k_≠(.slice (some akU) QG.length an1:Value).ownBlock∧k_≠Eb∧k_≠yc)) (by(with_reducible repeat(first|apply Kd.H7|apply Kd.EJ|apply Kd.Gm));exact Kd.Jr xg.out (fun _ hk=>⟨⟨hk.1,⟨hk.2.2.1,hk.2.2.2⟩⟩,hk.2.1⟩)) hg hat);have Au:=ak (b_ (g:=Eb) (o:= .cells #[.string HY, .string H6, .slice none 0 0] 61 (0,0)) (ub lg.out) hg (Kd.oH jm.out lg.out (by decide)));have D7:=ak (b_ (g:=yc) (o:= .cells #[.string O8, .string O9,yg] 61 (0,0)) (ub mg.out) hg (Kd.oH jm.out mg.out (by decide)));have IL:=ak (hb);have JU:=ak (ho);clear qK xg lg mg HB jm;have qK:=zB;have xg:=zC;have lg:=Au;have mg:=D7;have HB:=IL;have asW:=JU;clear zB zC Au D7 IL JU ho hb hg hat
        obtain⟨asX,asY,afa⟩:=Kd.aI asW.out
        (first|subst afa|(injection afa with qI xI qJ;have xJ:=qI.symm;have xK:=qJ.symm;clear qI xI qJ;subst xJ;subst xK));refine hK.out _ _ ?_;clear hK K;refine Fa (a':=?_) ?_ ?_
        rotate_left
        ·show Act.put _ (some 76) _=_
         simp only[Act.put,Aq,Ar,l_c,iP,jZ];rfl
        refine pl 11 ?_;refine IV (i:=12) (N:=none) #[true,true,true,true,true,true,true,true,true,true,true,true,true] rfl rfl (BG E5.out (by kernel_rfl)) (by decide) (fun K hK=>?_);have az3:w41.cell? ⟨yc,2,none⟩=some (yg):=(aC mg.out 2).trans rfl;have asZ:=gy mg.out 2;have aiy:=Bj.out;have aiz:=Bl.out;refine IQ (w1:=?_) (by rfl) rfl ?_ ?_
        rotate_left
        ·go_simp;rfl
        refine hK.out _ _ ?_;clear hK K;refine IU (y9 E5.out (by kernel_rfl)) ?_;try go_wp2
        go_roundg az0
        case measure=>have:=yH.out;have:=asU.out;omega
        case rel=>exact⟨_,_,_,_,_,rs,H',⟨by have:=yH.out;have:=asU.out;omega⟩,⟨by(with_reducible repeat(first|apply Kd.H7|apply Kd.EJ|apply Kd.Gm));exact Kd.Jr (Kd.as1 (p:=⟨yc,2,none⟩) (Kd.Jr xg.out (fun k_ hk=>(⟨hk,hk.1.2.2⟩:_∧k_≠yc))) (fun _ hk=>hk.2) (.slice asX az1.length asY)) (fun _ hk=>⟨hk.1.2,⟨hk.1.1.2.1,hk.1.1.2.2⟩⟩)⟩,⟨rr⟩,⟨bq⟩,⟨bq⟩,⟨bb⟩⟩
    ·replace H:=sb H;rcases H with⟨rfl,H⟩|⟨rfl,H⟩
     ·replace H:=bd H;obtain⟨asG,A45,H⟩:=H;replace H:=sb H;rcases H with⟨rfl,H⟩|⟨rfl,H⟩
      ·obtain⟨rfl,rfl,rfl,rfl⟩:=s4 H;have akV:=Bl.out;have akW:=Bj.out;have z48:=kF mg.out;obtain⟨YP,YQ,YR⟩:=Kd.aI jm.out;subst YR;go_wp2_with (go_at_call 95;refine mB (dH.calls (cu ((Kd.ay jm.out).2.2)) ((Kd.ay jm.out).2.1) A45.out) ?_;intro w50 hb;replace xg:=vb xg hb;replace jm:=rb jm hb;replace lg:=kb lg hb;replace mg:=kb mg hb;replace HB:=bz HB hb;clear hb;have z51:=kF mg.out;have z52:=kF lg.out)
       refine bodyPost_ret (lq rfl _ _ Eb 61 #[.string O8, .string O9, .slice YP wZ.length YQ] (0,0) _ rfl bq Tryz.underlying61 rfl (by kernel_rfl)) rfl ?_;exact⟨_,er,rr,bb⟩
      ·obtain⟨rfl,rfl,rfl,rfl⟩:=s4 H;have as2:=Bl.out;have as3:=Bj.out;have z54:=kF mg.out;obtain⟨aG1,aG2,az4⟩:=Kd.aI jm.out;subst az4;go_wp2_with (go_at_call 95;refine mB (dH.calls (cu ((Kd.ay jm.out).2.2)) ((Kd.ay jm.out).2.1) A45.out) ?_;intro w56 hb;replace xg:=vb xg hb;replace jm:=rb jm hb;replace lg:=kb lg hb;replace mg:=kb mg hb;replace HB:=bz HB hb;clear hb;have z57:=kF lg.out)
       refine bodyPost_ret (lq rfl _ _ Eb 61 #[.string (⟨#[]⟩:ByteArray), .string (⟨#[]⟩:ByteArray), .slice none 0 0] (0,0) _ rfl bq Tryz.underlying61 rfl (by kernel_rfl)) rfl ?_;exact⟨_,er,nx,bb⟩
     ·obtain⟨rfl,rfl,rfl,rfl⟩:=s4 H;have aDc:=Bj.out;have aDd:=Bl.out;have z59:=kF lg.out;go_wp2;refine bodyPost_ret (lq rfl _ _ Eb 61 #[.string (⟨#[]⟩:ByteArray), .string (⟨#[]⟩:ByteArray), .slice none 0 0] (0,0) _ rfl bq Tryz.underlying61 rfl (by kernel_rfl)) rfl ?_;exact⟨_,er,nx,bb⟩
 ·obtain⟨rfl,rfl,rfl,rfl⟩:=s4 H;go_enter Tryz.func48,Tryz.ntmps48;go_wp2_with (first|(refine gG 2 ?_;refine bX HB 2 #[.string (⟨#[]⟩:ByteArray), .string (⟨#[]⟩:ByteArray), .slice none 0 0] 61 ?_;intro Eb TP lg asK hb;replace HB:=bs HB hb;clear hb)|(refine gD Tryz.func89 (aZ.calls A2.out) ?_;intro TP hb;replace lg:=kb lg hb;replace HB:=bz HB hb;clear hb;have aG3:=kF lg.out))
  refine bodyPost_ret (lq rfl _ _ Eb 61 #[.string (⟨#[]⟩:ByteArray), .string (⟨#[]⟩:ByteArray), .slice none 0 0] (0,0) _ rfl bq Tryz.underlying61 rfl (by kernel_rfl)) rfl ?_;exact⟨_,er,nx,bb⟩
def lW.f (a0:Int):Option (Bool):=(bg.f a0).bind fun as4=>(if as4=true then(some true)else((dA.f a0).bind fun as5=>(some as5)))
theorem lW.calls {a0:Int} {r:Bool} {w:World} (h:lW.f a0=some r):
  Calls Tryz.prog 139 #[.int .u8 a0] w fun e w'=>e= .returned (.bool r)∧dM w w':=by
 unfold lW.f at h;have H:=h;clear h;replace H:=bd H;obtain⟨as4,A2,H⟩:=H;replace H:=sb H;rcases H with⟨rfl,H⟩|⟨rfl,H⟩
 ·obtain rfl:=s1 H;go_enter Tryz.func139,Tryz.ntmps139;go_wp2_with (refine gA Tryz.func140 (bg.calls A2.out) ?_;intro nd)
  go_ret;exact⟨rs,dn⟩
 ·replace H:=bd H;obtain⟨as5,A4,H⟩:=H;obtain rfl:=s1 H;go_enter Tryz.func139,Tryz.ntmps139;go_wp2_with (first|(refine gA Tryz.func140 (bg.calls A2.out) ?_;intro nd)|(go_at_call 141;refine mA (dA.calls A4.out) ?_;intro nd))
  go_ret;exact⟨rs,dn⟩
def cZ.l0:Nat→ByteArray→Int→Int→Option (Bool)
 |0,_,_,_=>none
 |k+1,x0,x7,x8=>if x8<x7 then(if 0≤x8 then(if x8<(x0.size:Int)then((lW.f (bt x0 x8)).bind fun as6=>(if as6=true then(cZ.l0 k x0 x7 (wrap64 (x8+1)))else(some false)))else(none))else(none))else(some true)
def cZ.f (k:Nat) (a0:ByteArray):Option (Bool):=cZ.l0 k a0 (a0.size:Int) 0
theorem cZ.calls {k:Nat} {a0:ByteArray} {r:Bool} {w:World} (h:cZ.f k a0=some r):
  Calls Tryz.prog 138 #[.string a0, .func (.func 139) #[] #[]] w fun e w'=>e= .returned (.bool r)∧dM w w':=by
 unfold cZ.f at h;have H:=h;clear h;have H':=ak H;clear H;go_enter Tryz.func138,Tryz.ntmps138;go_wp2;go_loopg [8] k (fun kq v8 w'=>∃(kN:Int),v8= .int .i64 kN∧ah (cZ.l0 kq a0 (a0.size:Int) kN=some r)∧ah (kq≤k)∧dM w w')
 case atStart=>exact⟨_,rs,H',⟨Nat.le_refl _⟩,dn⟩
 case round=>
  clear H';obtain⟨kN,rfl,HA,yH,⟨m1,rfl⟩⟩:=hrel
  cases gk with
  |zero=>exact zz HA.out
  |succ k1=>
   obtain⟨H⟩:=HA;simp only[cZ.l0]at H;replace H:=sd H;rcases H with⟨iH,H⟩|⟨iH,H⟩
   ·replace H:=nS H;obtain⟨qW,H⟩:=H;replace H:=nS H;obtain⟨mQ,H⟩:=H;replace H:=bd H;obtain⟨as6,A7,H⟩:=H;replace H:=sb H;rcases H with⟨rfl,H⟩|⟨rfl,H⟩
    ·have H':=ak H;clear H;obtain⟨p6,q6,hx6⟩:=bx a0 kN;go_wp2_with (go_at_call 139;refine mA (lW.calls A7.out) ?_;intro nd)
     go_roundg k1
     case measure=>exact kl
     case rel=>exact⟨_,rs,H',⟨kl⟩,dn⟩
    ·obtain rfl:=s1 H;obtain⟨p6,q6,hx6⟩:=bx a0 kN;go_wp2_with (go_at_call 139;refine mA (lW.calls A7.out) ?_;intro nd)
     go_ret;exact⟨rs,dn⟩
   ·obtain rfl:=s1 H;go_wp2;go_ret;exact⟨rs,dn⟩
def jc.f (k:Nat) (a0:ByteArray):Option (Bool):=if(a0.size:Int)≥1 then(if(a0.size:Int)≤20 then((cZ.f k a0).bind fun as7=>(some as7))else(some false))else(some false)
theorem jc.calls {k:Nat} {a0:ByteArray} {r:Bool} {w:World} (h:jc.f k a0=some r):
  Calls Tryz.prog 96 #[.string a0] w fun e w'=>e= .returned (.bool r)∧dM w w':=by
 unfold jc.f at h;have H:=h;clear h;replace H:=sp H;rcases H with⟨c2,H⟩|⟨c2,H⟩
 ·have nY:decide (1≤(a0.size:Int))=true:=decide_eq_true c2;have uJ:decide (1≤a0.size)=true:=decide_eq_true (by omega);clear c2;replace H:=sp H;rcases H with⟨c3,H⟩|⟨c3,H⟩
  ·have iH:=decide_eq_true c3;have zH:decide (a0.size≤20)=true:=decide_eq_true (by omega);clear c3;replace H:=bd H;obtain⟨as7,A4,H⟩:=H;obtain rfl:=s1 H;go_enter Tryz.func96,Tryz.ntmps96;go_wp2_with (go_at_call 138;refine mA (cZ.calls A4.out) ?_;intro nd)
   go_ret;exact⟨rs,dn⟩
  ·have iH:=decide_eq_false c3;have zH:decide (a0.size≤20)=false:=decide_eq_false (by omega);clear c3;obtain rfl:=s1 H;go_enter Tryz.func96,Tryz.ntmps96;go_wp2;go_ret;exact⟨rs,dn⟩
 ·have nY:decide (1≤(a0.size:Int))=false:=decide_eq_false c2;have uJ:decide (1≤a0.size)=false:=decide_eq_false (by omega);clear c2;obtain rfl:=s1 H;go_enter Tryz.func96,Tryz.ntmps96;go_wp2;go_ret;exact⟨rs,dn⟩
def gQ.l0:Nat→ByteArray→List (List ByteArray)→List ByteArray→Int→Int→Option ((List (List ByteArray))×Bool)
 |0,_,_,_,_,_=>none
 |k+1,x1,x6,Nh,x14,x15=>if x15<x14 then(if 0≤x15 then(if x15<(Nh.length:Int)then(if 2+x1.size≤9223372036854775807 then(if(mW ByteArray.empty Nh x15).toList=((⟨#[45,45]⟩:ByteArray)++x1).toList then(if x6.length<5864062014805 then(gQ.l0 k x1 (x6++[(([]:List ByteArray))]) Nh x14 (wrap64 (x15+1)))else(none))else(if(x6.length:Int)=0 then(gQ.l0 k x1 x6 Nh x14 (wrap64 (x15+1)))else(if((⟨#[45,45]⟩:ByteArray)++x1).size+2≤9223372036854775807 then(if(mW ByteArray.empty Nh x15).toList=(((⟨#[45,45]⟩:ByteArray)++x1)++(⟨#[45,45]⟩:ByteArray)).toList then(some (x6,true))else(if 0≤(wrap64 ((x6.length:Int)-1))then(if(wrap64 ((x6.length:Int)-1))<(x6.length:Int)then(if(qh x6 (wrap64 ((x6.length:Int)-1))).length<8796093022208 then(gQ.l0 k x1 (x6.set ((wrap64 ((x6.length:Int)-1)):Int).toNat ((qh x6 (wrap64 ((x6.length:Int)-1)))++[mW ByteArray.empty Nh x15])) Nh x14 (wrap64 (x15+1)))else(none))else(none))else(none)))else(none))))else(none))else(none))else(none))else(some (([]:List (List ByteArray)),false))
def gQ.f (k:Nat) (l0:List ByteArray) (a1:ByteArray):Option ((List (List ByteArray))×Bool):=(jc.f k a1).bind fun as8=>(if as8=true then(gQ.l0 k a1 (([]:List (List ByteArray))) l0 (l0.length:Int) 0)else(some (([]:List (List ByteArray)),false)))
theorem gQ.calls {k c0:Nat} {A0:Option Addr} {l0:List ByteArray} {a1:ByteArray} {r1:List (List ByteArray)} {r2:Bool} {w:World} (hr0:Kd.C Kd.string w A0 l0.length l0) (hc0:l0.length≤c0) (h:gQ.f k l0 a1=some (r1,r2)):
  Calls Tryz.prog 50 #[.slice A0 l0.length c0, .string a1] w fun e w'=>∃oD:Value,e= .returned (.tuple #[oD, .bool r2])∧Kd.S (Kd.slice 9 Kd.string) 23 w' w.heap.size (fun _=>True) oD r1∧Below w.heap.size w w':=by
 have HR0:=ak hr0;have yF:=ak hc0;clear hr0 hc0;have HB:=ak (Below.refl w.heap.size w);unfold gQ.f at h;have H:=h;clear h;replace H:=bd H;obtain⟨as8,A3,H⟩:=H;replace H:=sb H;rcases H with⟨rfl,H⟩|⟨rfl,H⟩
 ·obtain⟨aG4,afb⟩:=nm ([]:List (List ByteArray));rw[←afb.out]at H;have H':=ak H;clear H;go_enter Tryz.func50,Tryz.ntmps50;go_wp2_with (first|(refine gA Tryz.func96 (jc.calls A3.out) ?_;intro nd)|((with_reducible refine QH (N:=12) rfl ?_);refine Kd.afc (Kd.slice 9 Kd.string) _ 23 ?hg (N:=12) ?hd (xs:=([]:List (List ByteArray))) (inner:=[]) (ok:=fun _=>True) (sH:=fun _=>True) ?hr ?hp (fun _ hk=>hk) trivial (Below.refl _ _) (Nat.le_refl _) (by simp) ?_;(case hd=>rfl);(case hg=>rfl);(case hr=>first|(go_simp;done)|(go_simp;rfl));(case hp=>exact(cO.none _ _));intro aG5 w5 TK hb DW uS;clear DW uS;(first|rw[←afb.out]at TK|(simp only[Int.reduceToNat]at TK;rw[←afb.out]at TK));have an5:=ak (Kd.P5 TK (aj (ul HB.out)));replace HB:=bs HB hb;clear hb TK))
  go_loopg [6,15] k (fun kq v6 v15 w'=>∃(gY:List (List ByteArray)) (nK:Int),v15= .int .i64 nK∧ah (gQ.l0 kq a1 gY l0 (l0.length:Int) nK=some (r1,r2))∧ah (kq≤k)∧ah (Kd.S (Kd.slice 9 Kd.string) 23 w' w.heap.size (fun _=>True) v6 gY)∧ah (Below w.heap.size w w'))
  case atStart=>exact⟨_,_,rs,H',⟨Nat.le_refl _⟩,⟨by(with_reducible repeat(first|apply Kd.kJ|apply Kd.kK|apply Kd.mP));exact an5.out⟩,⟨ul HB.out⟩⟩
  case round=>
   clear H';obtain⟨gY,nK,rfl,HA,yH,jh,HB⟩:=hrel
   cases gk with
   |zero=>exact zz HA.out
   |succ k1=>
    obtain⟨H⟩:=HA;simp only[gQ.l0]at H;replace H:=sd H;rcases H with⟨qO,H⟩|⟨qO,H⟩
    ·replace H:=nS H;obtain⟨tK,H⟩:=H;replace H:=nS H;obtain⟨yI,H⟩:=H;replace H:=nn H;obtain⟨c10,H⟩:=H;have nI:=eq_true c10;have rP:=decide_eq_true c10;try have Xd:(9223372036854775807<2+a1.size)=False:=eq_false (Nat.not_lt.2 c10)
     replace H:=sq H;rcases H with⟨sJ,CZ,H⟩|⟨c11,sJ,CZ,H⟩
     ·obtain⟨aaP,afd⟩:=nm ([]:List ByteArray);rw[←afd.out]at H;replace H:=nl H;obtain⟨QD,H⟩:=H;obtain⟨aDe,afe⟩:=nm (gY++[aaP]);rw[←afe.out]at H;have H':=ak H;clear H;have BH:=zi nK;have BI:=zj nK l0.length;obtain⟨YS,QI,uT⟩:=Kd.iJ HR0.out nK BH BI;cases QI;replace uT:=cl HB.out uT;replace BH:=eq_true BH;replace BI:=eq_true BI;go_wp2_with (first|(refine Hy 39 Kd.string 9 afd ?_;intro aDf w13 O_ hb;have U6:=ak (Kd.aA O_ (aj (ul HB.out)));replace jh:=ak (Kd.yh (by(with_reducible repeat(first|apply Kd.kJ|apply Kd.kK|apply Kd.mP));exact jh.out) (Kd.dw O_) hb);replace HB:=bs HB hb;clear hb O_;obtain⟨Qx,Qy,Qz⟩:=Kd.aI U6.out;subst Qz)|((with_reducible refine dO (b:= .append) (xs:=#[.tmp 38, .tmp 40]) rfl ?_);at_builtin;refine Kd.QJ (Kd.slice 9 Kd.string) (w0:=w) w.heap.size rfl (.tmp 38) (.tmp 40) 65 23 (.slice none 0 0) 24 rfl Tryz.underlying65 info23 rfl (by decide) (by omega) u6 gY aaP [.slice Qx aaP.length Qy] (fun _=>True) (fun k_=>some k_=(.slice Qx aaP.length Qy:Value).ownBlock) rfl rfl ?aP (fun k_ hk_=>((Kd.aQ (ok':=fun k_=>((fun _=>True)) k_∧some k_≠(u6:Value).ownBlock) (Kd.nH (U6.out) (Kd.Di jh.out) (by decide)) (fun k_ hk=>⟨trivial,hk.2⟩))).1 k_ hk_.symm) ?aF ?aO ?aB ?aS ?aL ?_;(case aP=>exact Kd.aaQ (Kd.aQ (Kd.U7 rfl (Kd.aQ (ok':=fun k_=>((fun _=>True)) k_∧some k_≠(u6:Value).ownBlock) (Kd.nH (U6.out) (Kd.Di jh.out) (by decide)) (fun k_ hk=>⟨trivial,hk.2⟩))) (fun _ h_=>h_)));(case aB=>exact(ul HB.out));(case aF=>exact(fun _ _=>trivial));(case aO=>exact(by(with_reducible repeat(first|apply Kd.kJ|apply Kd.kK|apply Kd.mP));exact Kd.yj jh.out (fun k_ hk=>⟨trivial,fun e_=>hk.2 e_⟩)));(case aS=>exact(aj (ul HB.out)));(case aL=>have:=QD.out;omega);intro aDg w15 ho hb hg hat;rw[←afe.out]at ho;have an6:=ak (ho);replace HB:=ak (hb);clear ho hb hg hat jh U6))
      go_roundg k1
      case measure=>exact kl
      case rel=>exact⟨_,_,rs,H',⟨kl⟩,⟨by(with_reducible repeat(first|apply Kd.kJ|apply Kd.kK|apply Kd.mP));exact an6.out⟩,⟨ul HB.out⟩⟩
     ·replace H:=sp H;rcases H with⟨c17,H⟩|⟨c17,H⟩
      ·have rQ:=beq_iff_eq.mpr c17;have I4:=bne_eq_false_iff_eq.mpr c17;clear c17;have H':=ak H;clear H;have BH:=zi nK;have BI:=zj nK l0.length;obtain⟨YS,QI,uT⟩:=Kd.iJ HR0.out nK BH BI;cases QI;replace uT:=cl HB.out uT;replace BH:=eq_true BH;replace BI:=eq_true BI;obtain⟨FW,FX,WO⟩:=Kd.zo jh.out;subst WO;go_wp2;go_roundg k1
       case measure=>exact kl
       case rel=>exact⟨_,_,rs,H',⟨kl⟩,⟨by(with_reducible repeat(first|apply Kd.kJ|apply Kd.kK|apply Kd.mP));exact jh.out⟩,⟨ul HB.out⟩⟩
      ·have rQ:=beq_eq_false_iff_ne.mpr c17;have I4:=bne_iff_ne.mpr c17;have akX:¬(gY=[]):=fun h_=>c17 (by rw[h_];rfl)
       replace H:=nn H;obtain⟨c19,H⟩:=H;have AB:=eq_true c19;have Ea:=decide_eq_true c19;try have as9:(9223372036854775807<2+a1.size+2)=False:=by have h_:=(eq_false (Nat.not_lt.2 c19):(9223372036854775807<((⟨#[45,45]⟩:ByteArray)++a1).size+2)=False);simp only[ByteArray.size_append]at h_;exact h_
       try have aff:(9223372036854775807<((⟨#[45,45]⟩:ByteArray)++a1).size+2)=False:=eq_false (Nat.not_lt.2 c19)
       replace H:=sq H;rcases H with⟨Oo,Qq,H⟩|⟨c20,Oo,Qq,H⟩
       ·obtain⟨rfl,rfl⟩:=s2 H;have BH:=zi nK;have BI:=zj nK l0.length;obtain⟨YS,QI,uT⟩:=Kd.iJ HR0.out nK BH BI;cases QI;replace uT:=cl HB.out uT;replace BH:=eq_true BH;replace BI:=eq_true BI;obtain⟨MW,MX,UF⟩:=Kd.zo jh.out;subst UF;go_wp2;go_ret2;exact⟨_,er,by(with_reducible repeat(first|apply Kd.kJ|apply Kd.kK|apply Kd.mP));exact jh.out,ul HB.out⟩
       ·obtain⟨yS,afg⟩:∃j_:Int,(wrap64 ((gY.length:Int)-1))=j_:=⟨_,rfl⟩
        replace H:(if 0≤(yS)then(if(yS)<(gY.length:Int)then(if(qh gY (yS)).length<8796093022208 then(gQ.l0 k1 a1 (gY.set ((yS):Int).toNat ((qh gY (yS))++[mW ByteArray.empty l0 nK])) l0 (l0.length:Int) (wrap64 (nK+1)))else(none))else(none))else(none))=some (r1,r2):=by first|(rw[afg]at H;exact H)|(simp only[afg]at H⊢;exact H)
        have az5:(IntKind.i64.wrap ((gY.length:Int)-1))=yS:=(iP _).trans afg;replace H:=nS H;obtain⟨Aw,H⟩:=H;replace H:=nS H;obtain⟨Ot,H⟩:=H;replace H:=nl H;obtain⟨Qn,H⟩:=H;obtain⟨aaR,afh⟩:=nm ((qh gY (yS))++[mW ByteArray.empty l0 nK]);rw[←afh.out]at H;obtain⟨ata,afi⟩:=nm (gY.set ((yS):Int).toNat aaR);rw[←afi.out]at H;have H':=ak H;clear H;have BH:=zi nK;have BI:=zj nK l0.length;obtain⟨YS,QI,uT⟩:=Kd.iJ HR0.out nK BH BI;cases QI;replace uT:=cl HB.out uT;replace BH:=eq_true BH;replace BI:=eq_true BI;obtain⟨atb,YT,ac0⟩:=Kd.zo jh.out;subst ac0;have aaS:=zi (yS);have aaT:=zj (yS) gY.length;obtain⟨az6,aaU,aaV,atc,QK,Xi,Xj⟩:=EZ (Kd.tN jh.out).2.2 (yS) aaS aaT;cases atc;obtain⟨az7,aiA,aiB,aaW⟩:=Kd.afj jh.out [] (yS) aaS (by first|exact aaT|exact of_decide_eq_true (by assumption)|(have e_:=(Kd.tN jh.out).1;omega));obtain⟨atd,rfl,QL⟩:=aiB;have Gn:=aaW 0 _ rfl;rw[Nat.add_zero,show((Kd.slice 9 Kd.string)).sz=1 from rfl,Nat.mul_one]at Gn;replace Gn:=Option.some.inj (Gn.symm.trans QK);rw[Gn]at QL;have afk:=ak (show Kd.R Kd.string 9 _ _ _ _ (qh gY (yS))from QL);clear Gn QL;have afl:=ak QK;clear aaW aiA;have ate:=ak Xj;have atf:=ak Xi;clear Xj Xi;replace aaS:=eq_true aaS;replace aaT:=eq_true aaT;obtain⟨an7,aiC,ac1,atg,az8,aG6,ath⟩:=Kd.an8 jh.out (by have h_:((yS):Int)<((gY.length:Int):Int):=of_decide_eq_true (by assumption);have Yu:0≤((yS):Int):=(of_decide_eq_true (by assumption));omega)
        (first|cases ac1|(injection ac1 with Yo en_ ec_;(first|subst Yo|(injection Yo with Yo;subst Yo));subst ec_;clear en_));have az9:=ak atg;have aG7:=ak ath;clear atg az8 ath
        (first|simp only[add_plain]at QK|skip);obtain⟨akY,aG8,ati,az_,akZ,_,_,atj⟩:=Kd.an9 jh.out [] ((yS):Int) (of_decide_eq_true (by assumption)) (by have h_:((yS):Int)<((gY.length:Int):Int):=of_decide_eq_true (by assumption);first|exact h_|(have e_:=(Kd.tN jh.out).1;omega)|simpa using h_);obtain⟨aAa,rfl,afm⟩:=az_;have hv28:=akZ 0 _ rfl;have an_:=afl.out
        (try simp only[add_plain]at an_)
        (try simp only[Nat.add_zero]at hv28)
        (try rw[show((Kd.slice 9 Kd.string)).sz=1 from rfl,Nat.mul_one]at hv28);replace hv28:=Option.some.inj (hv28.symm.trans an_);subst hv28;clear an_ akZ ati;have aoa:=ak (show Kd.R Kd.string 9 _ w.heap.size akY (.slice aaU (qh gY (yS)).length aaV) (qh gY (yS))from afm);have ac2:=ak atj;have aob:=ak (Kd.tN jh.out).1;clear atj afm;go_wp2_with (first|((with_reducible refine dO (b:= .append) (xs:=#[.tmp 28, .tmp 30]) rfl ?_);at_builtin;refine Kd.oI Kd.string (w0:=w) w.heap.size rfl (.tmp 28) (.tmp 30) 23 9 (.string ⟨#[]⟩) 16 rfl Tryz.underlying23 info9 rfl (by decide) (by omega) (.slice aaU (qh gY (yS)).length aaV) (qh gY (yS)) (mW ByteArray.empty l0 nK) [.string (mW ByteArray.empty l0 nK)] (fun k_=>akY k_∨((fun _=>True)) k_∧wr.heap.size≤k_) (fun _=>False) rfl rfl ?aP (fun _ hk=>hk.elim) ?aF ?aO ?aB ?aS ?aL ?_;(case aP=>exact rfl);(case aB=>exact(ul HB.out));(case aF=>exact(fun k_ hk=> .inr ⟨trivial,hk⟩));(case aO=>exact(ur (Kd.aQ aoa.out (fun _ hk=> .inl hk))));(case aS=>exact(aj (ul HB.out)));(case aL=>have:=Qn.out;omega);intro aDh w29 ho hb hg hat;rw[←afh.out]at ho;have YU:=ak (ho);replace HB:=ak (hb);replace ac2:=ak (Kd.aiD (Kd.aiE (by repeat(first|exact ac2.out|refine Kd.aiF ?_ _|refine Kd.aiG ?_ _|refine Kd.aoc ?_))) hg (fun k_ e_=> .inl (aoa.out.1 k_ e_)));clear ho hb hg hat jh aoa afk;have p26:0≤((yS):Int):=of_decide_eq_true (by assumption);have q26:((yS):Int)<((gY.length:Int):Int):=of_decide_eq_true (by assumption);replace p26:=eq_true p26;replace q26:=eq_true q26;obtain⟨aek,ael,acR⟩:=Kd.aI YU.out;subst acR;obtain⟨_,_,aod,_,_,ak0,_⟩:=Kd.afn ac2.out (of_decide_eq_true (by assumption)) (by have h_:((yS):Int)<((gY.length:Int):Int):=of_decide_eq_true (by assumption);first|exact h_|(have e_:=(aob.out);omega)|simpa using h_);obtain⟨_,ak1⟩:=Kd.aAb ac2.out (of_decide_eq_true (by assumption)) (by have h_:((yS):Int)<((gY.length:Int):Int):=of_decide_eq_true (by assumption);first|exact h_|(have e_:=(aob.out);omega)|simpa using h_);have afo:=ak0 0 _ rfl;have afp:=ak1 0;(try simp only[Nat.add_zero]at afo afp);(try rw[show((Kd.slice 9 Kd.string)).sz=1 from rfl,Nat.mul_one]at afo);(try rw[show((Kd.slice 9 Kd.string)).sz=1 from rfl,Nat.mul_one]at afp);have aiH:=Kd.aoe ac2.out (of_decide_eq_true (by assumption)) (by have h_:((yS):Int)<((gY.length:Int):Int):=of_decide_eq_true (by assumption);first|exact h_|(have e_:=(aob.out);omega)|simpa using h_) (seg:=[.slice aek aaR.length ael]) (j:=0) (show 1≤1 from by decide) (x':=aaR) (Kd.aaQ YU.out) (fun _ hk=>hk);(try simp only[show((Kd.slice 9 Kd.string)).sz=1 from rfl,Nat.mul_one,Nat.add_zero]at aiH);clear ak0 ak1)|((with_reducible refine QE (t:=23) (p:=32) rfl ?_);refine OG (t:=23) (p:=32) (v:=?aAc) (w1:=(w29.setCell ⟨an7,((yS):Int).toNat,none⟩ (.slice aek aaR.length ael))) ?hg ?ho ?hn ?hr ?_;(case ho=>rfl);(case hg=>rfl);(case hn=>rfl);(case hr=>first|(go_simp;done)|(go_simp;rfl));intro w31 hw;have hg:w29.grownBy w31 (some an7):=(by rw[hw];exact aiH.2);have hp_:Kd.S (Kd.slice 9 Kd.string) 23 w31 w.heap.size (fun _=>True) (.slice (some ⟨an7,0,none⟩) gY.length YT) ata:=(by rw[hw,afi.out];exact aiH.1);clear aiH;have jh:=ak (hp_);replace HB:=ak ((by rw[hw];exact yR HB.out az9.out:Below w.heap.size w w31));clear hg hw hp_ aod YU ac2))
        go_roundg k1
        case measure=>exact kl
        case rel=>exact⟨_,_,rs,H',⟨kl⟩,⟨by(with_reducible repeat(first|apply Kd.kJ|apply Kd.kK|apply Kd.mP));exact jh.out⟩,⟨ul HB.out⟩⟩
    ·obtain⟨rfl,rfl⟩:=s2 H;go_wp2;go_ret2;exact⟨_,er,by first|exact Kd.afq _ _ _ _ _|exact Kd.afr _ _ _ _ _|exact Kd.afs _ _ _ _ _|exact Kd.aft _ _ _ _ _|exact Kd.TQ _ _ _ _ _,ul HB.out⟩
 ·obtain⟨rfl,rfl⟩:=s2 H;go_enter Tryz.func50,Tryz.ntmps50;go_wp2_with (refine gA Tryz.func96 (jc.calls A3.out) ?_;intro nd)
  go_ret2;exact⟨_,er,by first|exact Kd.afq _ _ _ _ _|exact Kd.afr _ _ _ _ _|exact Kd.afs _ _ _ _ _|exact Kd.aft _ _ _ _ _|exact Kd.TQ _ _ _ _ _,ul HB.out⟩
end Go.Proofs.YtncdadcmghglkaaGreatDoor.PFnKidLines
