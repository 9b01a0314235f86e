/- Printed walks; conditions: those in each statement. -/
import Derived.Test.YtdimppdlfgnhgaaGreatDoorVFnExactParsePartQt
import Derived.Test.YtdimppdlfgnhgaaGreatDoorVFnExactParsePartYt
import Derived.Test.YtdimppdlfgnhgaaGreatDoorPFnExactParsePartx0
namespace Go.Proofs.YtdimppdlfgnhgaaGreatDoor.PFnExactParsePart
open Go.Proofs.YtdimppdlfgnhgaaGreatDoorW.eP.Kd Go.Proofs.YtdimppdlfgnhgaaGreatDoorW.mX.Kd Go.Proofs.Tryz Go.RowKit Go.Proofs.YtdimppdlfgnhgaaGreatDoor.X Go.Proofs.YtdimppdlfgnhgaaGreatDoorW.eP Go.Proofs.YtdimppdlfgnhgaaGreatDoorW.lF Go.Proofs.YtdimppdlfgnhgaaGreatDoorW.mX
attribute [local go_sem] uP uQ xQ xR rE rG uS uT   -- for this text's walks alone
set_option linter.unusedVariables false
set_option linter.unusedSimpArgs false
set_option maxHeartbeats 8000000
set_option maxRecDepth 100000
mutual
def dM.l0:Nat→Bool→List ByteArray→Int→Int→ByteArray→ByteArray→List (gI)→Option (ByteArray×ByteArray×(List (gI))×Bool)
 |0,_,_,_,_,_,_,_=>none
 |k+1,x7,x37,x38,x39,Kz,KA,Iq=>if x39<x38 then(if 0≤x39 then(if x39<(x37.length:Int)then((strings_Cut.f (f_ ByteArray.empty x37 x39) (⟨#[61]⟩:ByteArray)).bind fun adi=>((eF.f k adi.2.1).bind fun adk=>(if adi.2.2=true then(if adk.2=true then(dM.j1 k x7 adi.1 adk.1 x37 x38 x39 ((adk.1.length:Int) !=1) Kz KA Iq)else(dM.j1 k x7 adi.1 adk.1 x37 x38 x39 true Kz KA Iq))else(dM.j1 k x7 adi.1 adk.1 x37 x38 x39 true Kz KA Iq))))else(none))else(none))else(if x7=true then((dF.f k Kz KA Iq).bind fun aBY=>(if aBY=true then(some (Kz,KA,Iq,true))else(some ((⟨#[]⟩:ByteArray),(⟨#[]⟩:ByteArray),([]:List (gI)),false))))else(some ((⟨#[]⟩:ByteArray),(⟨#[]⟩:ByteArray),([]:List (gI)),false)))
def dM.j1:Nat→Bool→ByteArray→List ByteArray→List ByteArray→Int→Int→Bool→ByteArray→ByteArray→List (gI)→Option (ByteArray×ByteArray×(List (gI))×Bool)
 |0,_,_,_,_,_,_,_,_,_,_=>none
 |k+1,x7,x11,x14,x37,x38,x39,x64,Kz,KA,Iq=>if x64=true then(some ((⟨#[]⟩:ByteArray),(⟨#[]⟩:ByteArray),([]:List (gI)),false))else((kC.f x11 (⟨#[32]⟩:ByteArray)).bind fun al2=>((iG.f al2).bind fun ae6=>(if 0<(x14.length:Int)then(if Iq.length<4398046511104 then(dM.l0 k x7 x37 x38 (wrap64 (x39+1)) Kz KA (Iq++[(⟨ae6,f_ ByteArray.empty x14 0⟩:gI)]))else(none))else(none))))
end
def dM.f(k:Nat)(a0:ByteArray):Option (ByteArray×ByteArray×(List (gI))×Bool):=(bU.f k a0).bind fun aqJ=>(if aqJ=true then((dZ.f k a0 59).bind fun Aa=>(if 0<(Aa.length:Int)then((kC.f (f_ ByteArray.empty Aa 0) (⟨#[32]⟩:ByteArray)).bind fun ae7=>((strings_Cut.f ae7 (⟨#[47]⟩:ByteArray)).bind fun Yi=>((iG.f Yi.1).bind fun Gj=>((iG.f Yi.2.1).bind fun Jc=>(if 1≤(Aa.length:Int)then((some (Aa.drop 1:List ByteArray)).bind fun ET=>(dM.l0 k Yi.2.2 ET (ET.length:Int) 0 Gj Jc ([]:List (gI))))else(none))))))else(none)))else(some ((⟨#[]⟩:ByteArray),(⟨#[]⟩:ByteArray),([]:List (gI)),false)))
def dM.T13:Bool×List (List Nat×List Nat):=(true,[([],[]),([0],[0]),([],[]),([2],[2]),([3,3],[3]),([],[]),([5],[5]),([6],[6]),([4,7],[4,7]),([8],[8]),([1,9,4],[1,9]),([0,1,2,3,4,5,6,7,8,9,10],[]),([11,10,10,0,1,2,3,4,5,6,7,8,9,10],[10,11])])
def dM.B13:List Nat:=[0,1,0,4,12,0,32,96,252,508,1023,2047,4095]
theorem dM.ahL:wo .any (opsOf Tryz.f65 13)=dM.T13:=by kernel_rfl
theorem dM.abD:qJ dM.T13.2 dM.B13=true:=by kernel_rfl
theorem dM.calls(k:Nat)(a0:ByteArray)(r1:ByteArray)(r2:ByteArray)(r3:List (gI))(r4:Bool)(w:World)(oP:MaxOk w)(h:dM.f k a0=some (r1,r2,r3,r4)):
  Calls Tryz.prog 65 #[.string a0] w fun e w'=>∃Vx:Value,e= .returned (.tuple #[.agg #[.string r1, .string r2,Vx], .bool r4])∧Kd.R oN 63 w' w.heap.size (fun _=>True) Vx r3∧Below w.heap.size w w':=by
 have ada:=underlying90;have Jo:=underlying63;have HG:=ak oP;clear oP;have HB:=ak (Below.refl w.heap.size w);have H:((bU.f k a0).bind fun aqJ=>(if aqJ=true then((dZ.f k a0 59).bind fun Aa=>(if 0<(Aa.length:Int)then((kC.f (f_ ByteArray.empty Aa 0) (⟨#[32]⟩:ByteArray)).bind fun ae7=>((strings_Cut.f ae7 (⟨#[47]⟩:ByteArray)).bind fun Yi=>((iG.f Yi.1).bind fun Gj=>((iG.f Yi.2.1).bind fun Jc=>(if 1≤(Aa.length:Int)then((some (Aa.drop 1:List ByteArray)).bind fun ET=>(dM.l0 k Yi.2.2 ET (ET.length:Int) 0 Gj Jc ([]:List (gI))))else(none))))))else(none)))else(some ((⟨#[]⟩:ByteArray),(⟨#[]⟩:ByteArray),([]:List (gI)),false))))=some (r1,r2,r3,r4):=h;clear h;replace H:=bd H;obtain⟨aqJ,A2,H⟩:=H;replace H:=sb H;rcases H with⟨rfl,H⟩|⟨rfl,H⟩
 ·replace H:=bd H;obtain⟨Aa,A4,H⟩:=H;replace H:=nn H;obtain⟨c5,H⟩:=H;have o_:=decide_eq_true c5;have Y_:decide (0<Aa.length)=true:=decide_eq_true (by omega);clear c5;replace H:=bd H;obtain⟨ae7,A6,H⟩:=H;replace H:=bd H;obtain⟨⟨axo,axp,axq⟩,A7,H⟩:=H
  (try dsimp only at H);replace H:=bd H;obtain⟨Gj,A8,H⟩:=H;replace H:=bd H;obtain⟨Jc,A9,H⟩:=H;replace H:=Fe H;obtain⟨rW,xk,H⟩:=H;replace H:=ny H;obtain⟨ET,al3,H⟩:=H;have H':=ak H;clear H;go_enter func65,ntmps65;go_wp2_with (first|(refine gG 2 ?_;refine bX HB 2 #[.string (⟨#[]⟩:ByteArray), .string (⟨#[]⟩:ByteArray), .slice none 0 0] 90 ?_;intro yH Uy kY aBZ hb;replace HB:=bs HB hb;clear hb)|(refine gD func75 (bU.calls k a0 true _ A2.out) ?_;intro Uy hb;replace kY:=kb kY hb;replace HB:=bz HB hb;clear hb)|(refine gV func98 (dZ.calls k a0 59 Aa _ A4.out) ?_;rintro aP2 w12 ⟨ho0,hb⟩;have A_:=ak (bQ ho0 (aA bb));replace kY:=kb kY hb;replace HB:=bz HB hb;clear hb;(try clear ho0);obtain⟨uf,qh,Pg⟩:=bW A_.out;subst Pg;have al4:0≤(0:Int):=(by omega);have al5:0<(Aa.length:Int):=of_decide_eq_true (by assumption);obtain⟨Yj,aJl,Xj⟩:=dY (bH A_.out).2.2 0 al4 al5;cases aJl;have aMr:(0<Aa.length)=True:=eq_true (by omega);(try rw[show((0:Int)).toNat=0 from rfl]at Xj);(try rw[Addr.add_zero']at Xj);replace al4:=eq_true al4;replace al5:=eq_true al5)|(refine gD func62 (kC.calls (f_ ByteArray.empty Aa 0) (⟨#[32]⟩:ByteArray) ae7 _ A6.out) ?_;intro w12 hb;replace A_:=rb A_ hb;replace kY:=kb kY hb;replace HB:=bz HB hb;clear hb)|(refine gD func61 (strings_Cut.calls ae7 (⟨#[47]⟩:ByteArray) axo axp axq _ ?iY A7.out) ?_;(case iY=>first|exact HG.out|exact MaxOk.below HG.out bb|(repeat(first|exact HG.out|apply MaxOk.drewN|apply MaxOk.drew)));intro w12 hb;replace A_:=rb A_ hb;replace kY:=kb kY hb;replace HB:=bz HB hb;clear hb)|(refine gB func99 (iG.calls axo Gj _ A8.out) ?_;intro Us hb;replace A_:=rb A_ hb;replace kY:=kb kY hb;replace HB:=bz HB hb;clear hb)|(refine gB func99 (iG.calls axp Jc _ A9.out) ?_;intro w15 hb;replace A_:=rb A_ hb;replace kY:=kb kY hb;replace HB:=bz HB hb;clear hb)|(refine gG 8 ?_;refine bY HB 8 #[.string (⟨#[]⟩:ByteArray), .string (⟨#[]⟩:ByteArray), .slice none 0 0] 90 ?_;intro wO w16 mW aMs hg hb;have wF:=nl_ kY hg;have Fj:=ng_ kY hg;replace A_:=rb A_ hb;replace kY:=kb kY hb;replace HB:=bz HB hb;clear hb hg;have ayU:=Fj.out;have ayV:=wF.out;have z18:=jO mW.out)|((with_reducible refine vT (t:=90) (p:=8) rfl ?_);refine tJ (t:=90) (p:=8) (v:=?aJm) (w1:=(((w16.setCell ⟨wO,0,none⟩ (.string Gj)).setCell ⟨wO,1,none⟩ (.string Jc)).setCell ⟨wO,2,none⟩ (.slice none 0 0))) ?hg ?ho ?hn ?hr ?_;(case ho=>rfl);(case hg=>rfl);(case hn=>rfl);(case hr=>first|(go_simp;done)|(go_simp;rfl));intro w19 hw;have iE:ay (Kd.R Kd.string 9 w19 w.heap.size (fun _=>True) (.slice (some Yj) Aa.length qh) Aa):=⟨(by rw[hw];exact(ur (aK (aN (p:=⟨wO,2,none⟩) (aN (p:=⟨wO,1,none⟩) (aN (p:=⟨wO,0,none⟩) (dA A_.out mW.out (by decide)) (fun _ hk=>hk.2) (.string Gj)) (fun _ hk=>hk.2) (.string Jc)) (fun _ hk=>hk.2) (.slice none 0 0)) (fun _ hk=>trivial))))⟩;have iF:ay (w19.heap[yH]? =some (.cells #[.string (⟨#[]⟩:ByteArray), .string (⟨#[]⟩:ByteArray), .slice none 0 0] 90 (0,0))):=⟨(by rw[hw];exact bq)⟩;have lD:ay (w19.heap[wO]? =some (.cells #[.string Gj, .string Jc, .slice none 0 0] 90 (0,0))):=⟨(by rw[hw];exact bq)⟩;have FD:ay (Below w.heap.size w w19):=⟨(by rw[hw];exact bb)⟩;clear hw;clear A_;clear kY;clear mW;clear HB;have A_:=iE;have kY:=iF;have mW:=lD;have HB:=FD;clear iE iF lD FD;have q20:(1:Int)≤((Aa.length:Int):Int):=of_decide_eq_true (by assumption);obtain⟨aJn,adl,_,adn,_⟩:=info_parts info9;have Xk:Aa.length≤qh:=(bH A_.out).2.1;have al6:Kd.F Kd.string _ _ (some Yj) Aa.length Aa:=(aqK (base:=w.heap.size) (Kd.R_V (dA (dA (A_.out) kY.out (by decide)) mW.out (by decide)))).2.2;have al7:=al8 (P:=Tryz.prog) 23 9 .i64 underlying23 adl 1 adn (some Yj) Aa.length qh 1 (by omega) q20;have al9:=aB1 (m:=(1:Int).toNat) (c:=qh) al6 (by omega) Xk;obtain⟨A20,hA20⟩:∃A1,A1=(if qh=(1:Int).toNat then(some Yj)else((some Yj):Option Addr).map (·.add ((1:Int).toNat*1))):=⟨_,rfl⟩;obtain⟨c20,aqL⟩:∃c1,c1=qh-(1:Int).toNat:=⟨_,rfl⟩;have al_:ET.length=Aa.length-(1:Int).toNat:=(by rw[al3.out,List.length_drop]<;>omega);rw[show(Aa).drop (1:Int).toNat=ET from al3.out.symm]at al9;replace al9:Kd.F Kd.string _ _ A20 ET.length ET:=(by rw[hA20];exact al9);rw[←al_,←hA20,←aqL]at al7;have aB2:=ak (show Kd.V Kd.string 9 _ w.heap.size _ (.slice A20 ET.length c20) ET from aJo (by rw[al_,aqL];exact Nat.sub_le_sub_right Xk _) al9);have aMu:=ak (show ET.length≤c20 from by rw[al_,aqL];exact Nat.sub_le_sub_right Xk _);clear al9 al6 Xk adl adn aqL;have aP3:=ak al_;have aP4:=ak hA20;clear al_ hA20;replace q20:=eq_true q20))
  go_loopg [39] k (fun kq v39 w'=>∃(OV:Int) (yu:ByteArray) (rM:ByteArray) (vF:List (gI)) (zB:Value),v39= .int .i64 OV∧ay (dM.l0 kq axq ET (ET.length:Int) OV Gj Jc vF=some (r1,r2,r3,r4))∧ay (kq≤k)∧ay (Kd.V Kd.string 9 w' w.heap.size (fun k_=>some k_≠(zB:Value).ownBlock∧k_≠yH∧k_≠wO) (.slice A20 ET.length c20) ET)∧ay (Kd.R oN 63 w' w.heap.size (fun _=>True) zB vF)∧ay (w'.heap[yH]? =some (.cells #[.string yu, .string rM,(.slice none 0 0)] 90 (0,0)))∧ay (w'.heap[wO]? =some (.cells #[.string Gj, .string Jc,zB] 90 (0,0)))∧ay (Below w.heap.size w w'))
  case atStart=>exact⟨_,_,_,_,_,rs,H',⟨Nat.le_refl _⟩,⟨by(with_reducible repeat(first|apply Kd.CX|apply CY|apply Gl));exact PW aB2.out (fun _ hk=>⟨(by simp[Value.ownBlock]),⟨hk.1.2,hk.2⟩⟩)⟩,⟨nx⟩,⟨ub kY.out⟩,⟨ub mW.out⟩,⟨bb⟩⟩
  case round=>
   clear H';try clear c1
   try clear c5
   try clear o_
   try clear Y_
   try clear rW
   try clear xk
   try clear c20
   try clear q20
   try clear Xj
   try clear al4
   try clear q20
   try clear al5
   obtain⟨OV,yu,rM,vF,zB,rfl,HA,iM,zT,kK,kY,mW,HB⟩:=hrel
   cases gk with
   |zero=>exact zz HA.out
   |succ k1=>
    obtain⟨H⟩:=HA;simp only[dM.l0]at H;replace H:=sd H;rcases H with⟨FZ,H⟩|⟨FZ,H⟩
    ·replace H:=oL H;obtain⟨OM,H⟩:=H;replace H:=oL H;obtain⟨L8,H⟩:=H;replace H:=bd H;obtain⟨⟨aqM,axr,aJp⟩,A24,H⟩:=H
     (try dsimp only at H);replace H:=bd H;obtain⟨⟨UY,aJq⟩,A25,H⟩:=H
     (try dsimp only at H);have axt:=ak H;clear H;have aqN:=zi OV;have aqO:=zj OV ET.length;obtain⟨aB3,aJr,aqP⟩:=dY (ama zT.out).2.2 OV aqN aqO;cases aJr;replace aqN:=eq_true aqN;replace aqO:=eq_true aqO;go_upto_region 11 with(first|(refine gA func61 (strings_Cut.calls (f_ ByteArray.empty ET OV) (⟨#[61]⟩:ByteArray) aqM axr aJp _ ?iY A24.out) ?_;(case iY=>first|exact HG.out|exact MaxOk.below HG.out bb|(repeat(first|exact HG.out|apply MaxOk.drewN|apply MaxOk.drew)));intro nd)|(refine gV func100 (eF.calls k1 axr UY aJq _ A25.out) ?_;rintro aB4 w27 ⟨ho0,hb⟩;have ahV:=ak (bQ ho0 (aA bb));replace zT:=ak (amb (by(with_reducible repeat(first|apply Kd.CX|apply CY|apply Gl));exact zT.out) (iO ho0) hb);replace kK:=rb kK hb;replace kY:=kb kY hb;replace mW:=kb mW hb;replace HB:=bz HB hb;clear hb;(try clear ho0)))
     (try simp only[Act.put,jI,jJ,l_c]);go_cut [64] (fun v64 wc=>∃(kq:Nat) (ae8:Bool),v64= .bool ae8∧ay (dM.j1 kq axq aqM UY ET (ET.length:Int) OV ae8 Gj Jc vF=some (r1,r2,r3,r4))∧ay (kq≤k1)∧ay (Kd.R Kd.string 9 wc w.heap.size (fun _=>True) aB4 UY)∧ay (Kd.V Kd.string 9 wc w.heap.size (fun k_=>some k_≠(aB4:Value).ownBlock∧some k_≠(zB:Value).ownBlock∧k_≠yH∧k_≠wO) (.slice (some aB3) ET.length c20) ET)∧ay (Kd.R oN 63 wc w.heap.size (fun _=>True) zB vF)∧ay (wc.heap[yH]? =some (.cells #[.string yu, .string rM,(.slice none 0 0)] 90 (0,0)))∧ay (wc.heap[wO]? =some (.cells #[.string Gj, .string Jc,zB] 90 (0,0)))∧ay (Below w.heap.size w wc))
     case first=>
      have H:=axt.out;clear axt;replace H:=sb H;rcases H with⟨rfl,H⟩|⟨rfl,H⟩
      ·replace H:=sb H;rcases H with⟨rfl,H⟩|⟨rfl,H⟩
       ·have H':=ak H;clear H;obtain⟨aA7,aA8,alH⟩:=bW ahV.out;subst alH;go_wp2;go_meet
        case rel=>exact⟨_,_,rs,H',⟨kl⟩,⟨ur ahV.out⟩,⟨by(with_reducible repeat(first|apply Kd.CX|apply CY|apply Gl));exact PW zT.out (fun _ hk=>⟨hk.2,⟨hk.1.1,⟨hk.1.2.1,hk.1.2.2⟩⟩⟩)⟩,⟨ur kK.out⟩,⟨ub kY.out⟩,⟨ub mW.out⟩,⟨bb⟩⟩
       ·have H':=ak H;clear H;go_wp2;go_meet
        case rel=>exact⟨_,_,rs,H',⟨kl⟩,⟨ur ahV.out⟩,⟨by(with_reducible repeat(first|apply Kd.CX|apply CY|apply Gl));exact PW zT.out (fun _ hk=>⟨hk.2,⟨hk.1.1,⟨hk.1.2.1,hk.1.2.2⟩⟩⟩)⟩,⟨ur kK.out⟩,⟨ub kY.out⟩,⟨ub mW.out⟩,⟨bb⟩⟩
      ·have H':=ak H;clear H;go_wp2;go_meet
       case rel=>exact⟨_,_,rs,H',⟨kl⟩,⟨ur ahV.out⟩,⟨by(with_reducible repeat(first|apply Kd.CX|apply CY|apply Gl));exact PW zT.out (fun _ hk=>⟨hk.2,⟨hk.1.1,⟨hk.1.2.1,hk.1.2.2⟩⟩⟩)⟩,⟨ur kK.out⟩,⟨ub kY.out⟩,⟨ub mW.out⟩,⟨bb⟩⟩
     case rest=>
      clear axt;try clear c1
      try clear c5
      try clear o_
      try clear Y_
      try clear rW
      try clear xk
      try clear c20
      try clear q20
      try clear FZ
      try clear OM
      try clear L8
      try clear Xj
      try clear aqP
      try clear al4
      try clear aqN
      try clear q20
      try clear al5
      try clear aqO
      obtain⟨kq,ae8,rfl,HA,aB5,OW,zT,kK,kY,mW,HB⟩:=hcut
      cases kq with
      |zero=>exact zz HA.out
      |succ aJs=>
       obtain⟨H⟩:=HA;simp only[dM.j1]at H;replace H:=sb H;rcases H with⟨rfl,H⟩|⟨rfl,H⟩
       ·obtain⟨rfl,rfl,rfl,rfl⟩:=s4 H;have aMv:=wF.out;have aMw:=Fj.out;have z33:=jO kY.out;go_wp2;refine bodyPost_ret (jc rfl _ _ yH 90 #[.string (⟨#[]⟩:ByteArray), .string (⟨#[]⟩:ByteArray), .slice none 0 0] (0,0) _ rfl bq underlying90 rfl (by kernel_rfl)) rfl ?_;exact⟨_,er,nx,bb⟩
       ·replace H:=bd H;obtain⟨al2,A34,H⟩:=H;replace H:=bd H;obtain⟨ae6,A35,H⟩:=H;replace H:=nn H;obtain⟨c36,H⟩:=H;have alZ:=decide_eq_true c36;have aBT:decide (0<UY.length)=true:=decide_eq_true (by omega);clear c36;replace H:=nl H;obtain⟨aB6,H⟩:=H;obtain⟨aqQ,auk⟩:=nm (vF++[(⟨ae6,f_ ByteArray.empty UY 0⟩:gI)]);rw[←auk.out]at H;have H':=ak H;clear H;try go_wp2
        replace OW:=ak (Ai OW.out);replace zT:=ak (Gl zT.out);replace kK:=ak (Ai kK.out);replace kY:=ak (au kY.out);replace mW:=ak (au mW.out);replace HB:=ak (eG HB.out);obtain⟨aH9,azL,apG⟩:=bW OW.out
        (first|subst apG|(injection apG with ZK f2_ ZL;have f4_:=ZK.symm;have f5_:=ZL.symm;clear ZK f2_ ZL;subst f4_;subst f5_));have axu:0≤(0:Int):=(by omega)
        have axv:0<(UY.length:Int):=of_decide_eq_true (by assumption);obtain⟨aul,aJt,Xl⟩:=dY (bH OW.out).2.2 0 axu axv;cases aJt;have aMx:(0<UY.length)=True:=eq_true (by omega)
        (try rw[show((0:Int)).toNat=0 from rfl]at Xl)
        (try rw[Addr.add_zero']at Xl);replace axu:=eq_true axu;replace axv:=eq_true axv;refine UE (n:=13) (S:=fun w'=>w'.cell? ⟨wO,0,none⟩=some (.string Gj)∧w'.cell? ⟨wO,1,none⟩=some (.string Jc)∧w'.cell? ⟨wO,2,none⟩=some (zB)∧w'.cell? aul=some (.string (f_ ByteArray.empty UY 0))) (ds:=[10,12]) #[false,false,false,false,false,false,false,false,false,false,false,false,false] (by kernel_rfl) rfl rfl ⟨(aJ mW.out 0).trans rfl,(aJ mW.out 1).trans rfl,(aJ mW.out 2).trans rfl,Xl⟩ (fun hHeld=>?_);refine UF dM.ahL dM.abD (fun DU HW_=>?_)
        generalize wc.drew=w38 at OW zT kK kY mW HB Xl hHeld⊢
        refine pl 0 ?_;refine pl 2 ?_;refine pl 5 ?_;refine pl 6 ?_;refine tk 1 ?_;refine tk 7 ?_;refine o1 3 (fun K hK=>?_);refine nS func62 (by kernel_rfl) rfl #[.string aqM, .string (⟨#[32]⟩:ByteArray)] (by rfl) rfl rfl ma ?_
        with_reducible refine(kC.calls aqM (⟨#[32]⟩:ByteArray) al2 _ A34.out).mono ?_
        rintro e w' ⟨rfl,⟨nd,rfl⟩⟩;refine⟨_,rfl,?_⟩;refine hK.out _ _ ⟨(aJ mW.out 0).trans rfl,(aJ mW.out 1).trans rfl,(aJ mW.out 2).trans rfl,hHeld.2.2.2⟩ (fun hHeld=>?_);clear hK K;refine nrm ?_;refine o1 4 (fun K hK=>?_);refine nS func99 (by kernel_rfl) rfl #[.string al2] (by rfl) rfl rfl ma ?_
        with_reducible refine(iG.calls al2 ae6 _ A35.out).mono ?_
        rintro e w40 ⟨rfl,hb⟩;have axd:=(hb.cell (World.block_lt_of_cell? _ _ (hHeld.2.2.2))).trans (hHeld.2.2.2);refine⟨_,rfl,?_⟩;replace OW:=rb OW hb;replace zT:=vb zT hb;replace kK:=rb kK hb;replace kY:=kb kY hb;replace mW:=kb mW hb;replace HB:=bz HB hb;try clear hb
        refine hK.out _ _ ⟨(aJ mW.out 0).trans rfl,(aJ mW.out 1).trans rfl,(aJ mW.out 2).trans rfl,axd⟩ (fun hHeld=>?_);clear hK K;refine nrm ?_;refine pl 8 ?_;refine o1 9 (fun K hK=>?_);refine aar (w1:=?_) (v:=?_) (by rfl) rfl ?_ ?_
        rotate_left 2
        ·go_simp;constructor
         ·rfl
         ·rfl
        refine hK.out _ _ ⟨(aJ (ah mW.out _) 0).trans rfl,(aJ (ah mW.out _) 1).trans rfl,(aJ (ah mW.out _) 2).trans rfl,(World.cell?_alloc_lt _ _ _ (World.block_lt_of_cell? _ _ (hHeld.2.2.2))).trans (hHeld.2.2.2)⟩ (fun hHeld=>?_);clear hK K;refine nrm ?_;refine ahN (i:=10) (N:=some 76) #[true,true,true,true,true,true,true,true,true,true,true,false,false] rfl rfl (AA DU.out (by kernel_rfl)) (by decide) (fun K hK=>?_);refine yT oN (w0:=w) w.heap.size (by rfl) (.tmp 67) (.tmp 75) 29 63 (.agg #[(.string ⟨#[]⟩),(.string ⟨#[]⟩)]) 32 rfl underlying29 Fz rfl (by decide) (by omega) zB vF (⟨ae6,f_ ByteArray.empty UY 0⟩:gI) [.string ae6, .string (f_ ByteArray.empty UY 0)] (fun _=>True) (fun _=>False) rfl rfl ?aP (fun _ hk=>hk.elim) ?aF ?aO ?aB ?aS ?aL ?_
        (case aP=>exact Hq _ _ _ (⟨ae6,f_ ByteArray.empty UY 0⟩:gI))
        (case aB=>exact bb)
        (case aF=>exact(fun _ _=>trivial))
        (case aO=>exact(ur kK.out))
        (case aS=>exact(aA bb))
        (case aL=>have:=aB6.out;omega);intro aP5 w41 ho hb hg hat
        rw[←auk.out]at ho;have iE:=ak (zf (ur OW.out) (uH (ur kK.out)) (by decide) hg);have iF:=ak (amc (ok:=(fun k_=>some k_≠(.slice (some aul) UY.length azL:Value).ownBlock∧k_≠yH∧k_≠wO)) (by(with_reducible repeat(first|apply Kd.CX|apply CY|apply Gl));exact PW zT.out (fun _ hk=>⟨⟨hk.1,⟨hk.2.2.1,hk.2.2.2⟩⟩,hk.2.1⟩)) hg hat);have lD:=ak (gK (g:=yH) (o:= .cells #[.string yu, .string rM, .slice none 0 0] 90 (0,0)) (ub kY.out) hg (BO kK.out kY.out (by decide)));have FD:=ak (gK (g:=wO) (o:= .cells #[.string Gj, .string Jc,zB] 90 (0,0)) (ub mW.out) hg (BO kK.out mW.out (by decide)));have LW:=ak (hb);have n5_:=ak (ho);clear OW zT kY mW HB kK;have OW:=iE;have zT:=iF;have kY:=lD;have mW:=FD;have HB:=LW;have aum:=n5_;clear iE iF lD FD LW n5_ ho hb hg hat
        obtain⟨G9,ER,aiZ⟩:=bW aum.out
        (first|subst aiZ|(injection aiZ with ZK f2_ ZL;have f4_:=ZK.symm;have f5_:=ZL.symm;clear ZK f2_ ZL;subst f4_;subst f5_));refine hK.out _ _ ?_;clear hK K;refine Az (a':=?_) ?_ ?_
        rotate_left
        ·show Act.put _ (some 76) _=_
         simp only[Act.put,jI,jJ,l_c,bf,bD];rfl
        refine pl 11 ?_;refine ahN (i:=12) (N:=none) #[true,true,true,true,true,true,true,true,true,true,true,true,true] rfl rfl (AA DU.out (by kernel_rfl)) (by decide) (fun K hK=>?_);have aP6:w41.cell? ⟨wO,2,none⟩=some (zB):=(aJ mW.out 2).trans rfl;have aMy:=jl mW.out 2;have aFL:=wF.out;have aFM:=Fj.out;refine X6 (w1:=?_) (by rfl) rfl ?_ ?_
        rotate_left
        ·go_simp;rfl
        refine hK.out _ _ ?_;clear hK K;refine ZG (aa0 DU.out (by kernel_rfl)) ?_;try go_wp2
        go_roundg aJs
        case measure=>have:=iM.out;have:=aB5.out;omega
        case rel=>exact⟨_,_,_,_,_,rs,H',⟨by have:=iM.out;have:=aB5.out;omega⟩,⟨by(with_reducible repeat(first|apply Kd.CX|apply CY|apply Gl));exact PW (aB7 (p:=⟨wO,2,none⟩) (PW zT.out (fun k_ hk=>(⟨hk,hk.1.2.2⟩:_∧k_≠wO))) (fun _ hk=>hk.2) (.slice G9 aqQ.length ER)) (fun _ hk=>⟨hk.1.2,⟨hk.1.1.2.1,hk.1.1.2.2⟩⟩)⟩,⟨rr⟩,⟨bq⟩,⟨bq⟩,⟨bb⟩⟩
    ·replace H:=sb H;rcases H with⟨rfl,H⟩|⟨rfl,H⟩
     ·replace H:=bd H;obtain⟨aBY,A45,H⟩:=H;replace H:=sb H;rcases H with⟨rfl,H⟩|⟨rfl,H⟩
      ·obtain⟨rfl,rfl,rfl,rfl⟩:=s4 H;have aAR:=Fj.out;have aAS:=wF.out;have z48:=jO mW.out;obtain⟨I9,I_,awK⟩:=bW kK.out;subst awK;go_wp2_with (go_at_call 101;refine mB (dF.calls k1 Gj Jc _ _ vF true _ (cu ((bH kK.out).2.2)) ((bH kK.out).2.1) A45.out) ?_;intro w50 hb;replace zT:=vb zT hb;replace kK:=rb kK hb;replace kY:=kb kY hb;replace mW:=kb mW hb;replace HB:=bz HB hb;clear hb;have z51:=jO mW.out;have z52:=jO kY.out)
       refine bodyPost_ret (jc rfl _ _ yH 90 #[.string Gj, .string Jc, .slice I9 vF.length I_] (0,0) _ rfl bq underlying90 rfl (by kernel_rfl)) rfl ?_;exact⟨_,er,rr,bb⟩
      ·obtain⟨rfl,rfl,rfl,rfl⟩:=s4 H;have aBM:=Fj.out;have aBN:=wF.out;have z54:=jO mW.out;obtain⟨aP7,aP8,aJu⟩:=bW kK.out;subst aJu;go_wp2_with (go_at_call 101;refine mB (dF.calls k1 Gj Jc _ _ vF false _ (cu ((bH kK.out).2.2)) ((bH kK.out).2.1) A45.out) ?_;intro w56 hb;replace zT:=vb zT hb;replace kK:=rb kK hb;replace kY:=kb kY hb;replace mW:=kb mW hb;replace HB:=bz HB hb;clear hb;have z57:=jO kY.out)
       refine bodyPost_ret (jc rfl _ _ yH 90 #[.string (⟨#[]⟩:ByteArray), .string (⟨#[]⟩:ByteArray), .slice none 0 0] (0,0) _ rfl bq underlying90 rfl (by kernel_rfl)) rfl ?_;exact⟨_,er,nx,bb⟩
     ·obtain⟨rfl,rfl,rfl,rfl⟩:=s4 H;have aB8:=wF.out;have aB9:=Fj.out;have z59:=jO kY.out;go_wp2;refine bodyPost_ret (jc rfl _ _ yH 90 #[.string (⟨#[]⟩:ByteArray), .string (⟨#[]⟩:ByteArray), .slice none 0 0] (0,0) _ rfl bq underlying90 rfl (by kernel_rfl)) rfl ?_;exact⟨_,er,nx,bb⟩
 ·obtain⟨rfl,rfl,rfl,rfl⟩:=s4 H;go_enter func65,ntmps65;go_wp2_with (first|(refine gG 2 ?_;refine bX HB 2 #[.string (⟨#[]⟩:ByteArray), .string (⟨#[]⟩:ByteArray), .slice none 0 0] 90 ?_;intro yH w60 kY aBZ hb;replace HB:=bs HB hb;clear hb)|(refine gD func75 (bU.calls k a0 false _ A2.out) ?_;intro w60 hb;replace kY:=kb kY hb;replace HB:=bz HB hb;clear hb;have z61:=jO kY.out))
  refine bodyPost_ret (jc rfl _ _ yH 90 #[.string (⟨#[]⟩:ByteArray), .string (⟨#[]⟩:ByteArray), .slice none 0 0] (0,0) _ rfl bq underlying90 rfl (by kernel_rfl)) rfl ?_;exact⟨_,er,nx,bb⟩
def oW.f(a0:Int):Option (Bool):=(dD.f a0).bind fun aq3=>(if aq3=true then(some true)else((eu.f a0).bind fun amd=>(some amd)))
set_option maxHeartbeats 8000000 in
set_option maxRecDepth 100000 in
theorem oW.calls(a0:Int)(r:Bool)(w:World)(h:oW.f a0=some r):
  Calls Tryz.prog 103 #[.int .u8 a0] w fun e w'=>e= .returned (.bool r)∧fZ w w':=by
 have H:((dD.f a0).bind fun aq3=>(if aq3=true then(some true)else((eu.f a0).bind fun amd=>(some amd))))=some r:=h;clear h;replace H:=bd H;obtain⟨aq3,A2,H⟩:=H;replace H:=sb H;rcases H with⟨rfl,H⟩|⟨rfl,H⟩
 ·obtain rfl:=Option.some.inj H;go_enter func103,ntmps103;go_wp2_with (first|(refine gL 104 4 func104 #[.int .u8 a0] ?_;(with_reducible refine(dD.calls a0 true _ A2.out).mono ?_);rintro e w' ⟨rfl,⟨nd,rfl⟩⟩;refine⟨_,rfl,?_⟩))
  go_ret;exact⟨rs,dn⟩
 ·replace H:=bd H;obtain⟨amd,A4,H⟩:=H;obtain rfl:=Option.some.inj H;go_enter func103,ntmps103;go_wp2_with (first|(refine gL 104 4 func104 #[.int .u8 a0] ?_;(with_reducible refine(dD.calls a0 false _ A2.out).mono ?_);rintro e w' ⟨rfl,⟨nd,rfl⟩⟩;refine⟨_,rfl,?_⟩)|(go_at_call 105;(with_reducible refine(eu.calls a0 amd _ A4.out).mono ?_);rintro e w' ⟨rfl,⟨nd,rfl⟩⟩))
  go_ret;exact⟨rs,dn⟩
def dO.l0:Nat→ByteArray→Int→Int→Option (Bool)
 |0,_,_,_=>none
 |k+1,x0,x7,x8=>if x8<x7 then(if 0≤x8 then(if x8<(x0.size:Int)then((oW.f (bt x0 x8)).bind fun aB_=>(if aB_=true then(dO.l0 k x0 x7 (wrap64 (x8+1)))else(some false)))else(none))else(none))else(some true)
def dO.f(k:Nat)(a0:ByteArray):Option (Bool):=dO.l0 k a0 (a0.size:Int) 0
set_option maxHeartbeats 8000000 in
set_option maxRecDepth 100000 in
theorem dO.calls(k:Nat)(a0:ByteArray)(r:Bool)(w:World)(h:dO.f k a0=some r):
  Calls Tryz.prog 102 #[.string a0, .func (.func 103) #[] #[]] w fun e w'=>e= .returned (.bool r)∧fZ w w':=by
 have H:(dO.l0 k a0 (a0.size:Int) 0)=some r:=h;clear h;have H':=ak H;clear H;go_enter func102,ntmps102;go_wp2;go_loopg [8] k (fun kq v8 w'=>∃(jm:Int),v8= .int .i64 jm∧ay (dO.l0 kq a0 (a0.size:Int) jm=some r)∧ay (kq≤k)∧fZ w w')
 case atStart=>exact⟨(0),rs,H',⟨Nat.le_refl _⟩,dn⟩
 case round=>
  clear H';try clear c1
  try clear p2
  obtain⟨jm,rfl,HA,iM,⟨m1,rfl⟩⟩:=hrel
  cases gk with
  |zero=>exact absurd HA.out (by simp[dO.l0])
  |succ k1=>
   have H:=HA.out;clear HA;simp only[dO.l0]at H;replace H:=sd H;rcases H with⟨iK,H⟩|⟨iK,H⟩
   ·replace H:=oL H;obtain⟨oG,H⟩:=H;replace H:=oL H;obtain⟨o_,H⟩:=H;replace H:=bd H;obtain⟨aB_,A7,H⟩:=H;replace H:=sb H;rcases H with⟨rfl,H⟩|⟨rfl,H⟩
    ·have H':=ak H;clear H;obtain⟨p6,q6,hx6⟩:=bx a0 jm;go_wp2_with (first|(go_at_call 103;(with_reducible refine(oW.calls (bt a0 jm) true _ A7.out).mono ?_);rintro e w' ⟨rfl,⟨nd,rfl⟩⟩))
     go_roundg k1
     case measure=>have:=iM.out;omega
     case rel=>exact⟨(wrap64 (jm+1)),rs,H',⟨by have:=iM.out;omega⟩,dn⟩
    ·obtain rfl:=Option.some.inj H;obtain⟨p6,q6,hx6⟩:=bx a0 jm;go_wp2_with (first|(go_at_call 103;(with_reducible refine(oW.calls (bt a0 jm) false _ A7.out).mono ?_);rintro e w' ⟨rfl,⟨nd,rfl⟩⟩))
     go_ret;exact⟨rs,dn⟩
   ·obtain rfl:=Option.some.inj H;go_wp2;go_ret;exact⟨rs,dn⟩
def jG.f(k:Nat)(a0:ByteArray):Option (Bool):=if(a0.size:Int)≥1 then(if(a0.size:Int)≤20 then((dO.f k a0).bind fun ame=>(some ame))else(some false))else(some false)
set_option maxHeartbeats 8000000 in
set_option maxRecDepth 100000 in
theorem jG.calls(k:Nat)(a0:ByteArray)(r:Bool)(w:World)(h:jG.f k a0=some r):
  Calls Tryz.prog 67 #[.string a0] w fun e w'=>e= .returned (.bool r)∧fZ w w':=by
 have H:(if(a0.size:Int)≥1 then(if(a0.size:Int)≤20 then((dO.f k a0).bind fun ame=>(some ame))else(some false))else(some false))=some r:=h;clear h;replace H:=sp H;rcases H with⟨c2,H⟩|⟨c2,H⟩
 ·have zY:decide (1≤(a0.size:Int))=true:=decide_eq_true c2;have PV:decide (1≤a0.size)=true:=decide_eq_true (by omega);clear c2;replace H:=sp H;rcases H with⟨c3,H⟩|⟨c3,H⟩
  ·have iK:=decide_eq_true c3;have xW:decide (a0.size≤20)=true:=decide_eq_true (by omega);clear c3;replace H:=bd H;obtain⟨ame,A4,H⟩:=H;obtain rfl:=Option.some.inj H;go_enter func67,ntmps67;go_wp2_with (first|(go_at_call 102;(with_reducible refine(dO.calls k a0 ame _ A4.out).mono ?_);rintro e w' ⟨rfl,⟨nd,rfl⟩⟩))
   go_ret;exact⟨rs,dn⟩
  ·have iK:=decide_eq_false c3;have xW:decide (a0.size≤20)=false:=decide_eq_false (by omega);clear c3;obtain rfl:=Option.some.inj H;go_enter func67,ntmps67;go_wp2;go_ret;exact⟨rs,dn⟩
 ·have zY:decide (1≤(a0.size:Int))=false:=decide_eq_false c2;have PV:decide (1≤a0.size)=false:=decide_eq_false (by omega);clear c2;obtain rfl:=Option.some.inj H;go_enter func67,ntmps67;go_wp2;go_ret;exact⟨rs,dn⟩
def jf.j0:Nat→Bool→ByteArray→ByteArray→List (gI)→Option (ByteArray×Bool)
 |0,_,_,_,_=>none
 |k+1,Wj,aF5,aF6,arb=>if Wj=true then(some ((⟨#[]⟩:ByteArray),false))else((nR.f k arb (⟨#[98,111,117,110,100,97,114,121]⟩:ByteArray)).bind fun auo=>((jG.f k auo.1).bind fun aCe=>(if aCe=true then(some (auo.1,true))else(some ((⟨#[]⟩:ByteArray),false)))))
def jf.f(k:Nat)(bT:ByteArray)(cZ:ByteArray)(aH:List (gI)):Option (ByteArray×Bool):=(dF.f k bT cZ aH).bind fun ard=>(if ard=true then(jf.j0 k (bT.toList !=([109,117,108,116,105,112,97,114,116]:List UInt8)) bT cZ aH)else(jf.j0 k true bT cZ aH))
set_option maxHeartbeats 8000000 in
set_option maxRecDepth 100000 in
theorem jf.calls(k:Nat)(bT:ByteArray)(cZ:ByteArray)(iw:Option Addr)(fC:Nat)(aH:List (gI))(r1:ByteArray)(r2:Bool)(w:World)(lZ:Kd.C oN w iw aH.length aH)(l7:aH.length≤fC)(h:jf.f k bT cZ aH=some (r1,r2)):
  Calls Tryz.prog 66 #[.agg #[.string bT, .string cZ, .slice iw aH.length fC]] w fun e w'=>e= .returned (.tuple #[.string r1, .bool r2])∧Below w.heap.size w w':=by
 have ada:=underlying90;have lC:=ak lZ;have oz:=ak l7;clear lZ l7;have HB:=ak (Below.refl w.heap.size w);have H:((dF.f k bT cZ aH).bind fun ard=>(if ard=true then(jf.j0 k (bT.toList !=([109,117,108,116,105,112,97,114,116]:List UInt8)) bT cZ aH)else(jf.j0 k true bT cZ aH)))=some (r1,r2):=h;clear h;have HC2:=ak H;clear H;go_enter func66,ntmps66;go_upto_region 1 with(first|(refine bE 1 #[.string bT, .string cZ, .slice iw aH.length fC] 90 ?_;intro aCf hg w3 hbox hb;have DW:=ak (hbox);have aMO:=lq HB hg;have aMP:=lq HB hg;replace HB:=bs HB hb;clear hb hbox hg))
 (try simp only[Act.put,jI,jJ,l_c]);go_cut [13] (fun v13 wc=>∃(kq:Nat) (wV:Bool),v13= .bool wV∧ay (jf.j0 kq wV bT cZ aH=some (r1,r2))∧ay (kq≤k)∧ay (wc.heap[aCf]? =some (.cells #[.string bT, .string cZ,(.slice iw aH.length fC)] 90 (0,0)))∧ay (Below w.heap.size w wc))
 case first=>
  have H:=HC2.out;clear HC2;replace H:=bd H;obtain⟨ard,A4,H⟩:=H;replace H:=sb H;rcases H with⟨rfl,H⟩|⟨rfl,H⟩
  ·have H':=ak H;clear H;obtain⟨FP,FQ,UK,FT,FU,UL⟩:=jO DW.out;go_wp2_with (first|(refine gL 101 7 func101 #[.agg #[.string bT, .string cZ, .slice iw aH.length fC]] ?_;(with_reducible refine(dF.calls k bT cZ _ _ aH true _ (cu (aT lC.out HB.out)) oz.out A4.out).mono ?_);rintro e w7 ⟨rfl,hb⟩;refine⟨_,rfl,?_⟩;replace DW:=kb DW hb;replace HB:=ak (aC bb hb);(try clear hb);obtain⟨Cb,IZ,Ku,Cc,I4,Kv⟩:=jO DW.out))
   go_meet
   case rel=>exact⟨_,((bT.toList !=([109,117,108,116,105,112,97,114,116]:List UInt8))),rs,H',⟨XV⟩,⟨ub DW.out⟩,⟨bb⟩⟩
  ·have H':=ak H;clear H;obtain⟨xu,xw,PI,xA,xB,PK⟩:=jO DW.out;go_wp2_with (first|(refine gL 101 7 func101 #[.agg #[.string bT, .string cZ, .slice iw aH.length fC]] ?_;(with_reducible refine(dF.calls k bT cZ _ _ aH false _ (cu (aT lC.out HB.out)) oz.out A4.out).mono ?_);rintro e w10 ⟨rfl,hb⟩;refine⟨_,rfl,?_⟩;replace DW:=kb DW hb;replace HB:=ak (aC bb hb);(try clear hb)))
   go_meet
   case rel=>exact⟨_,(true),rs,H',⟨XV⟩,⟨ub DW.out⟩,⟨bb⟩⟩
 case rest=>
  clear HC2;try clear c1
  try clear p2
  try clear c5
  try clear c6
  try clear c10
  try clear FP
  try clear FQ
  try clear UK
  try clear Cb
  try clear IZ
  try clear Ku
  try clear xu
  try clear xw
  try clear PI
  try clear FT
  try clear FU
  try clear UL
  try clear Cc
  try clear I4
  try clear Kv
  try clear xA
  try clear xB
  try clear PK
  obtain⟨kq,wV,rfl,HA,Oi,DW,HB⟩:=hcut
  cases kq with
  |zero=>exact absurd HA.out (by simp[jf.j0])
  |succ Oj=>
   have H:=HA.out;clear HA;simp only[jf.j0]at H;replace H:=sb H;rcases H with⟨rfl,H⟩|⟨rfl,H⟩
   ·simp only[Option.some.injEq,Prod.mk.injEq]at H;obtain⟨rfl,rfl⟩:=H;go_wp2;go_ret2;exact⟨er,bb⟩
   ·replace H:=bd H;obtain⟨⟨ai7,aCg⟩,A12,H⟩:=H
    (try dsimp only at H);replace H:=bd H;obtain⟨aCe,A13,H⟩:=H;replace H:=sb H;rcases H with⟨rfl,H⟩|⟨rfl,H⟩
    ·simp only[Option.some.injEq,Prod.mk.injEq]at H;obtain⟨rfl,rfl⟩:=H;obtain⟨nZ,n_,uN,og,oh,uO⟩:=jO DW.out;go_wp2_with (first|(refine gL 64 17 func64 #[.slice iw aH.length fC, .string (⟨#[98,111,117,110,100,97,114,121]⟩:ByteArray)] ?_;(with_reducible refine(nR.calls Oj _ _ aH (⟨#[98,111,117,110,100,97,114,121]⟩:ByteArray) ai7 aCg _ (cu (aT lC.out HB.out)) oz.out A12.out).mono ?_);rintro e w16 ⟨rfl,hb⟩;refine⟨_,rfl,?_⟩;replace DW:=kb DW hb;replace HB:=ak (aC bb hb);(try clear hb))|(refine gL 67 21 func67 #[.string ai7] ?_;(with_reducible refine(jG.calls Oj ai7 true _ A13.out).mono ?_);rintro e w' ⟨rfl,⟨nd,rfl⟩⟩;refine⟨_,rfl,?_⟩))
     go_ret2;exact⟨er,bb⟩
    ·simp only[Option.some.injEq,Prod.mk.injEq]at H;obtain⟨rfl,rfl⟩:=H;obtain⟨EI,EJ,EK,EL,EM,EN⟩:=jO DW.out;go_wp2_with (first|(refine gL 64 17 func64 #[.slice iw aH.length fC, .string (⟨#[98,111,117,110,100,97,114,121]⟩:ByteArray)] ?_;(with_reducible refine(nR.calls Oj _ _ aH (⟨#[98,111,117,110,100,97,114,121]⟩:ByteArray) ai7 aCg _ (cu (aT lC.out HB.out)) oz.out A12.out).mono ?_);rintro e w18 ⟨rfl,hb⟩;refine⟨_,rfl,?_⟩;replace DW:=kb DW hb;replace HB:=ak (aC bb hb);(try clear hb))|(refine gL 67 21 func67 #[.string ai7] ?_;(with_reducible refine(jG.calls Oj ai7 false _ A13.out).mono ?_);rintro e w' ⟨rfl,⟨nd,rfl⟩⟩;refine⟨_,rfl,?_⟩))
     go_ret2;exact⟨er,bb⟩
def jB.f(k:Nat)(dN:List (gI))(dQ:List ByteArray)(aH:List (ku)):Option (ByteArray×Bool):=(nR.f k dN (⟨#[67,111,110,116,101,110,116,45,84,121,112,101]⟩:ByteArray)).bind fun amw=>((dM.f k amw.1).bind fun SQ=>(if SQ.2.2.2=true then((jf.f k SQ.1 SQ.2.1 SQ.2.2.1).bind fun adr=>(some (adr.1,adr.2)))else(some ((⟨#[]⟩:ByteArray),false))))
set_option maxHeartbeats 8000000 in
set_option maxRecDepth 100000 in
theorem jB.calls(k:Nat)(jD:Option Addr)(jE:Nat)(dN:List (gI))(jW:Option Addr)(jX:Nat)(dQ:List ByteArray)(iw:Option Addr)(fC:Nat)(aH:List (ku))(r1:ByteArray)(r2:Bool)(w:World)(pF:Kd.C oN w jD dN.length dN)(pG:dN.length≤jE)(pJ:Kd.C Kd.string w jW dQ.length dQ)(pK:dQ.length≤jX)(lZ:Kd.C k32 w iw aH.length aH)(l7:aH.length≤fC)(oP:MaxOk w)(h:jB.f k dN dQ aH=some (r1,r2)):
  Calls Tryz.prog 51 #[.agg #[.slice jD dN.length jE, .slice jW dQ.length jX, .slice iw aH.length fC]] w fun e w'=>e= .returned (.tuple #[.string r1, .bool r2])∧Below w.heap.size w w':=by
 have LU:=underlying32;have ada:=underlying90;have qG:=ak pF;have qR:=ak pG;clear pF pG;have vY:=ak pJ;have yS:=ak pK;clear pJ pK;have lC:=ak lZ;have oz:=ak l7;clear lZ l7;have HG:=ak oP;clear oP;have HB:=ak (Below.refl w.heap.size w);have H:((nR.f k dN (⟨#[67,111,110,116,101,110,116,45,84,121,112,101]⟩:ByteArray)).bind fun amw=>((dM.f k amw.1).bind fun SQ=>(if SQ.2.2.2=true then((jf.f k SQ.1 SQ.2.1 SQ.2.2.1).bind fun adr=>(some (adr.1,adr.2)))else(some ((⟨#[]⟩:ByteArray),false)))))=some (r1,r2):=h;clear h;replace H:=bd H;obtain⟨⟨ai8,aCh⟩,A2,H⟩:=H
 (try dsimp only at H);replace H:=bd H;obtain⟨⟨abR,ads,adt,aQa⟩,A3,H⟩:=H
 (try dsimp only at H);replace H:=sb H;rcases H with⟨rfl,H⟩|⟨rfl,H⟩
 ·replace H:=bd H;obtain⟨⟨aJx,aJy⟩,A5,H⟩:=H
  (try dsimp only at H);simp only[Option.some.injEq,Prod.mk.injEq]at H;obtain⟨rfl,rfl⟩:=H;go_enter func51,ntmps51;go_wp2_with (first|(refine bE 1 #[.slice jD dN.length jE, .slice jW dQ.length jX, .slice iw aH.length fC] 32 ?_;intro ZM hg w6 hbox hb;have yZ:=ak (hbox);have aCi:=lq HB hg;have aCj:=lq HB hg;replace HB:=bs HB hb;clear hb hbox hg;obtain⟨LX,Pz,PD,LY,PE,PG⟩:=jO yZ.out)|(refine gL 64 11 func64 #[.slice jD dN.length jE, .string (⟨#[67,111,110,116,101,110,116,45,84,121,112,101]⟩:ByteArray)] ?_;(with_reducible refine(nR.calls k _ _ dN (⟨#[67,111,110,116,101,110,116,45,84,121,112,101]⟩:ByteArray) ai8 aCh _ (cu (aT qG.out HB.out)) qR.out A2.out).mono ?_);rintro e w8 ⟨rfl,hb⟩;refine⟨_,rfl,?_⟩;replace yZ:=kb yZ hb;replace HB:=ak (aC bb hb);(try clear hb))|(refine gL 65 16 func65 #[.string ai8] ?_;(with_reducible refine(dM.calls k ai8 abR ads adt true _ ?iY A3.out).mono ?_);(case iY=>first|exact HG.out|exact MaxOk.below HG.out bb|(repeat(first|exact HG.out|apply MaxOk.drewN|apply MaxOk.drew)));rintro e w9 ⟨aJz,rfl,ho0,hb⟩;refine⟨_,rfl,?_⟩;have MI:=ak (bQ ho0 (aA bb));replace yZ:=kb yZ hb;replace HB:=ak (aC bb hb);(try clear hb);(try clear ho0))|(refine bE 6 #[.string (⟨#[]⟩:ByteArray), .string (⟨#[]⟩:ByteArray), .slice none 0 0] 90 ?_;intro DX hg w10 hbox hb;have Yt:=ak (hbox);have aCk:=ak ((by rw[hg];exact(aA bb):w.heap.size≤DX));have aCl:=ak ((by rw[hg];exact(aA bb):w.heap.size≤DX));have Fp:=ak ((by rw[hg];exact Nat.ne_of_lt (dR (ub yZ.out)):ZM≠DX));have U1:=ak ((by rw[hg];exact Nat.ne_of_gt (dR (ub yZ.out)):DX≠ZM));replace MI:=rb MI hb;replace yZ:=kb yZ hb;replace HB:=ak (aC bb hb);clear hb hbox hg;have ay7:=U1.out;have ay8:=Fp.out;obtain⟨Aq,H7,H8,Ar,H9,H_⟩:=jO Yt.out;obtain⟨uf,qh,Pg⟩:=bW MI.out;subst Pg)|(refine gL 66 22 func66 #[.agg #[.string abR, .string ads, .slice uf adt.length qh]] ?_;(with_reducible refine(jf.calls k abR ads _ _ adt aJx aJy _ ?iY ?jK A5.out).mono ?_);(case iY=>refine(bH (e:=63) (base:=w.heap.size) (ok:=fun k_=>True) (n:=adt.length) (c:=qh) ?_).2.2;exact(ur (aK (aN (p:=⟨DX,2,none⟩) (aN (p:=⟨DX,1,none⟩) (aN (p:=⟨DX,0,none⟩) (dA MI.out Yt.out (by decide)) (fun _ hk=>hk.2) (.string abR)) (fun _ hk=>hk.2) (.string ads)) (fun _ hk=>hk.2) (.slice uf adt.length qh)) (fun _ h_=>h_.1))));(case jK=>exact(bH MI.out).2.1);rintro e Us ⟨rfl,hb⟩;refine⟨_,rfl,?_⟩;replace MI:=ak (iL (ur (aK (aN (p:=⟨DX,2,none⟩) (aN (p:=⟨DX,1,none⟩) (aN (p:=⟨DX,0,none⟩) (dA MI.out Yt.out (by decide)) (fun _ hk=>hk.2) (.string abR)) (fun _ hk=>hk.2) (.string ads)) (fun _ hk=>hk.2) (.slice uf adt.length qh)) (fun _ h_=>h_.1))) hb);replace yZ:=ak (fD (g:=ZM) (o:= .cells #[.slice jD dN.length jE, .slice jW dQ.length jX, .slice iw aH.length fC] 32 (0,0)) (by(with_reducible repeat(first|refine aj ?_ _|refine au ?_|refine ah ?_ _));refine bV ?_ Fp.out _;(with_reducible repeat(first|refine aj ?_ _|refine au ?_|refine ah ?_ _));refine bV ?_ Fp.out _;(with_reducible repeat(first|refine aj ?_ _|refine au ?_|refine ah ?_ _));refine bV ?_ Fp.out _;(with_reducible repeat(first|refine aj ?_ _|refine au ?_|refine ah ?_ _));exact yZ.out) hb);replace Yt:=ak (fD (g:=DX) (o:= .cells #[.string abR, .string ads, .slice uf adt.length qh] 90 (0,0)) (by(with_reducible repeat(first|refine aj ?_ _|refine au ?_|refine ah ?_ _));refine aI (cs:=#[.string abR, .string ads, .slice none 0 0]) ?_ 2 _ rfl;(with_reducible repeat(first|refine aj ?_ _|refine au ?_|refine ah ?_ _));refine aI (cs:=#[.string abR, .string (⟨#[]⟩:ByteArray), .slice none 0 0]) ?_ 1 _ rfl;(with_reducible repeat(first|refine aj ?_ _|refine au ?_|refine ah ?_ _));refine aI (cs:=#[.string (⟨#[]⟩:ByteArray), .string (⟨#[]⟩:ByteArray), .slice none 0 0]) ?_ 0 _ rfl;(with_reducible repeat(first|refine aj ?_ _|refine au ?_|refine ah ?_ _));exact Yt.out) hb);replace HB:=ak (aC bb hb);(try clear hb)))
  go_ret2;exact⟨er,bb⟩
 ·simp only[Option.some.injEq,Prod.mk.injEq]at H;obtain⟨rfl,rfl⟩:=H;go_enter func51,ntmps51;go_wp2_with (first|(refine bE 1 #[.slice jD dN.length jE, .slice jW dQ.length jX, .slice iw aH.length fC] 32 ?_;intro ZM hg w15 hbox hb;have yZ:=ak (hbox);have aCi:=lq HB hg;have aCj:=lq HB hg;replace HB:=bs HB hb;clear hb hbox hg;obtain⟨JQ,JR,NP,JU,JV,NQ⟩:=jO yZ.out)|(refine gL 64 11 func64 #[.slice jD dN.length jE, .string (⟨#[67,111,110,116,101,110,116,45,84,121,112,101]⟩:ByteArray)] ?_;(with_reducible refine(nR.calls k _ _ dN (⟨#[67,111,110,116,101,110,116,45,84,121,112,101]⟩:ByteArray) ai8 aCh _ (cu (aT qG.out HB.out)) qR.out A2.out).mono ?_);rintro e w17 ⟨rfl,hb⟩;refine⟨_,rfl,?_⟩;replace yZ:=kb yZ hb;replace HB:=ak (aC bb hb);(try clear hb))|(refine gL 65 16 func65 #[.string ai8] ?_;(with_reducible refine(dM.calls k ai8 abR ads adt false _ ?iY A3.out).mono ?_);(case iY=>first|exact HG.out|exact MaxOk.below HG.out bb|(repeat(first|exact HG.out|apply MaxOk.drewN|apply MaxOk.drew)));rintro e w18 ⟨aJz,rfl,ho0,hb⟩;refine⟨_,rfl,?_⟩;have MI:=ak (bQ ho0 (aA bb));replace yZ:=kb yZ hb;replace HB:=ak (aC bb hb);(try clear hb);(try clear ho0))|(refine bE 6 #[.string (⟨#[]⟩:ByteArray), .string (⟨#[]⟩:ByteArray), .slice none 0 0] 90 ?_;intro DX hg w19 hbox hb;have Yt:=ak (hbox);have aCk:=ak ((by rw[hg];exact(aA bb):w.heap.size≤DX));have aCl:=ak ((by rw[hg];exact(aA bb):w.heap.size≤DX));have Fp:=ak ((by rw[hg];exact Nat.ne_of_lt (dR (ub yZ.out)):ZM≠DX));have U1:=ak ((by rw[hg];exact Nat.ne_of_gt (dR (ub yZ.out)):DX≠ZM));replace MI:=rb MI hb;replace yZ:=kb yZ hb;replace HB:=ak (aC bb hb);clear hb hbox hg;have ay9:=U1.out;have ay_:=Fp.out;obtain⟨Ia,Ib,Ic,Ie,Ig,Ih⟩:=jO Yt.out;obtain⟨aQb,aQc,aJA⟩:=bW MI.out;subst aJA))
  go_ret2;exact⟨er,bb⟩
def qQ.f(k:Nat)(bT:ByteArray)(cZ:ByteArray):Option (Bool):=(jU.f k bT).bind fun arf=>(if arf=true then((bU.f k cZ).bind fun arh=>(if arh=true then(if(cZ.size:Int)≤150 then((kC.f cZ (⟨#[32]⟩:ByteArray)).bind fun afp=>(some (afp.toList==cZ.toList)))else(some false))else(some false)))else(some false))
set_option maxHeartbeats 8000000 in
set_option maxRecDepth 100000 in
theorem qQ.calls(k:Nat)(bT:ByteArray)(cZ:ByteArray)(r:Bool)(w:World)(h:qQ.f k bT cZ=some r):
  Calls Tryz.prog 96 #[.agg #[.string bT, .string cZ]] w fun e w'=>e= .returned (.bool r)∧Below w.heap.size w w':=by
 have Jo:=underlying63;have HB:=ak (Below.refl w.heap.size w);have H:((jU.f k bT).bind fun arf=>(if arf=true then((bU.f k cZ).bind fun arh=>(if arh=true then(if(cZ.size:Int)≤150 then((kC.f cZ (⟨#[32]⟩:ByteArray)).bind fun afp=>(some (afp.toList==cZ.toList)))else(some false))else(some false)))else(some false)))=some r:=h;clear h;replace H:=bd H;obtain⟨arf,A2,H⟩:=H;replace H:=sb H;rcases H with⟨rfl,H⟩|⟨rfl,H⟩
 ·replace H:=bd H;obtain⟨arh,A4,H⟩:=H;replace H:=sb H;rcases H with⟨rfl,H⟩|⟨rfl,H⟩
  ·replace H:=sp H;rcases H with⟨c6,H⟩|⟨c6,H⟩
   ·have mG:=decide_eq_true c6;have B_:decide (cZ.size≤150)=true:=decide_eq_true (by omega);clear c6;replace H:=bd H;obtain⟨afp,A7,H⟩:=H;obtain rfl:=Option.some.inj H;go_enter func96,ntmps96;go_wp2_with (first|(refine bG (N:=1) rfl ?_;(try(refine aX (by rfl) ?_;dsimp only));refine bE 1 #[.string bT, .string cZ] 63 ?_;intro MJ hg w8 hbox hb;have xK:=ak (hbox);have MK:=lq HB hg;have ML:=lq HB hg;replace HB:=bs HB hb;clear hb hbox hg;obtain⟨xu,xw,xA,xB⟩:=Ah xK.out)|(go_at_call 126;(with_reducible refine(jU.calls k bT true _ A2.out).mono ?_);rintro e w' ⟨rfl,⟨nd,rfl⟩⟩;(try exact dq))|(go_at_call 75;(with_reducible refine(bU.calls k cZ true _ A4.out).mono ?_);rintro e w' ⟨rfl,⟨nd,rfl⟩⟩;(try exact dq))|(go_at_call 62;(with_reducible refine(kC.calls cZ (⟨#[32]⟩:ByteArray) afp _ A7.out).mono ?_);rintro e w' ⟨rfl,⟨nd,rfl⟩⟩;(try exact dq)))
    repeat(go_quiet (first|(refine bG (N:=1) rfl ?_;(try(refine aX (by rfl) ?_;dsimp only));refine bE 1 #[.string bT, .string cZ] 63 ?_;intro MJ hg w8 hbox hb;have xK:=ak (hbox);have MK:=lq HB hg;have ML:=lq HB hg;replace HB:=bs HB hb;clear hb hbox hg;obtain⟨xu,xw,xA,xB⟩:=Ah xK.out)|(go_at_call 126;(with_reducible refine(jU.calls k bT true _ A2.out).mono ?_);rintro e w' ⟨rfl,⟨nd,rfl⟩⟩;(try exact dq))|(go_at_call 75;(with_reducible refine(bU.calls k cZ true _ A4.out).mono ?_);rintro e w' ⟨rfl,⟨nd,rfl⟩⟩;(try exact dq))|(go_at_call 62;(with_reducible refine(kC.calls cZ (⟨#[32]⟩:ByteArray) afp _ A7.out).mono ?_);rintro e w' ⟨rfl,⟨nd,rfl⟩⟩;(try exact dq)));try go_wp2_with (first|(refine bG (N:=1) rfl ?_;(try(refine aX (by rfl) ?_;dsimp only));refine bE 1 #[.string bT, .string cZ] 63 ?_;intro MJ hg w8 hbox hb;have xK:=ak (hbox);have MK:=lq HB hg;have ML:=lq HB hg;replace HB:=bs HB hb;clear hb hbox hg;obtain⟨xu,xw,xA,xB⟩:=Ah xK.out)|(go_at_call 126;(with_reducible refine(jU.calls k bT true _ A2.out).mono ?_);rintro e w' ⟨rfl,⟨nd,rfl⟩⟩;(try exact dq))|(go_at_call 75;(with_reducible refine(bU.calls k cZ true _ A4.out).mono ?_);rintro e w' ⟨rfl,⟨nd,rfl⟩⟩;(try exact dq))|(go_at_call 62;(with_reducible refine(kC.calls cZ (⟨#[32]⟩:ByteArray) afp _ A7.out).mono ?_);rintro e w' ⟨rfl,⟨nd,rfl⟩⟩;(try exact dq))))
    go_ret;exact⟨er,bb⟩
   ·have mG:=decide_eq_false c6;have B_:decide (cZ.size≤150)=false:=decide_eq_false (by omega);clear c6;obtain rfl:=Option.some.inj H;go_enter func96,ntmps96;go_wp2_with (first|(refine bG (N:=1) rfl ?_;(try(refine aX (by rfl) ?_;dsimp only));refine bE 1 #[.string bT, .string cZ] 63 ?_;intro MJ hg w10 hbox hb;have xK:=ak (hbox);have MK:=lq HB hg;have ML:=lq HB hg;replace HB:=bs HB hb;clear hb hbox hg;obtain⟨AU,AV,AX,AY⟩:=Ah xK.out)|(go_at_call 126;(with_reducible refine(jU.calls k bT true _ A2.out).mono ?_);rintro e w' ⟨rfl,⟨nd,rfl⟩⟩;(try exact dq))|(go_at_call 75;(with_reducible refine(bU.calls k cZ true _ A4.out).mono ?_);rintro e w' ⟨rfl,⟨nd,rfl⟩⟩;(try exact dq)))
    repeat(go_quiet (first|(refine bG (N:=1) rfl ?_;(try(refine aX (by rfl) ?_;dsimp only));refine bE 1 #[.string bT, .string cZ] 63 ?_;intro MJ hg w10 hbox hb;have xK:=ak (hbox);have MK:=lq HB hg;have ML:=lq HB hg;replace HB:=bs HB hb;clear hb hbox hg;obtain⟨AU,AV,AX,AY⟩:=Ah xK.out)|(go_at_call 126;(with_reducible refine(jU.calls k bT true _ A2.out).mono ?_);rintro e w' ⟨rfl,⟨nd,rfl⟩⟩;(try exact dq))|(go_at_call 75;(with_reducible refine(bU.calls k cZ true _ A4.out).mono ?_);rintro e w' ⟨rfl,⟨nd,rfl⟩⟩;(try exact dq)));try go_wp2_with (first|(refine bG (N:=1) rfl ?_;(try(refine aX (by rfl) ?_;dsimp only));refine bE 1 #[.string bT, .string cZ] 63 ?_;intro MJ hg w10 hbox hb;have xK:=ak (hbox);have MK:=lq HB hg;have ML:=lq HB hg;replace HB:=bs HB hb;clear hb hbox hg;obtain⟨AU,AV,AX,AY⟩:=Ah xK.out)|(go_at_call 126;(with_reducible refine(jU.calls k bT true _ A2.out).mono ?_);rintro e w' ⟨rfl,⟨nd,rfl⟩⟩;(try exact dq))|(go_at_call 75;(with_reducible refine(bU.calls k cZ true _ A4.out).mono ?_);rintro e w' ⟨rfl,⟨nd,rfl⟩⟩;(try exact dq))))
    go_ret;exact⟨er,bb⟩
  ·obtain rfl:=Option.some.inj H;go_enter func96,ntmps96;go_wp2_with (first|(refine bG (N:=1) rfl ?_;(try(refine aX (by rfl) ?_;dsimp only));refine bE 1 #[.string bT, .string cZ] 63 ?_;intro MJ hg w12 hbox hb;have xK:=ak (hbox);have MK:=lq HB hg;have ML:=lq HB hg;replace HB:=bs HB hb;clear hb hbox hg;obtain⟨uI,uJ,uK,uM⟩:=Ah xK.out)|(go_at_call 126;(with_reducible refine(jU.calls k bT true _ A2.out).mono ?_);rintro e w' ⟨rfl,⟨nd,rfl⟩⟩;(try exact dq))|(go_at_call 75;(with_reducible refine(bU.calls k cZ false _ A4.out).mono ?_);rintro e w' ⟨rfl,⟨nd,rfl⟩⟩;(try exact dq)))
   repeat(go_quiet (first|(refine bG (N:=1) rfl ?_;(try(refine aX (by rfl) ?_;dsimp only));refine bE 1 #[.string bT, .string cZ] 63 ?_;intro MJ hg w12 hbox hb;have xK:=ak (hbox);have MK:=lq HB hg;have ML:=lq HB hg;replace HB:=bs HB hb;clear hb hbox hg;obtain⟨uI,uJ,uK,uM⟩:=Ah xK.out)|(go_at_call 126;(with_reducible refine(jU.calls k bT true _ A2.out).mono ?_);rintro e w' ⟨rfl,⟨nd,rfl⟩⟩;(try exact dq))|(go_at_call 75;(with_reducible refine(bU.calls k cZ false _ A4.out).mono ?_);rintro e w' ⟨rfl,⟨nd,rfl⟩⟩;(try exact dq)));try go_wp2_with (first|(refine bG (N:=1) rfl ?_;(try(refine aX (by rfl) ?_;dsimp only));refine bE 1 #[.string bT, .string cZ] 63 ?_;intro MJ hg w12 hbox hb;have xK:=ak (hbox);have MK:=lq HB hg;have ML:=lq HB hg;replace HB:=bs HB hb;clear hb hbox hg;obtain⟨uI,uJ,uK,uM⟩:=Ah xK.out)|(go_at_call 126;(with_reducible refine(jU.calls k bT true _ A2.out).mono ?_);rintro e w' ⟨rfl,⟨nd,rfl⟩⟩;(try exact dq))|(go_at_call 75;(with_reducible refine(bU.calls k cZ false _ A4.out).mono ?_);rintro e w' ⟨rfl,⟨nd,rfl⟩⟩;(try exact dq))))
   go_ret;exact⟨er,bb⟩
 ·obtain rfl:=Option.some.inj H;go_enter func96,ntmps96;go_wp2_with (first|(refine bG (N:=1) rfl ?_;(try(refine aX (by rfl) ?_;dsimp only));refine bE 1 #[.string bT, .string cZ] 63 ?_;intro MJ hg Us hbox hb;have xK:=ak (hbox);have MK:=lq HB hg;have ML:=lq HB hg;replace HB:=bs HB hb;clear hb hbox hg;obtain⟨nZ,n_,og,oh⟩:=Ah xK.out)|(go_at_call 126;(with_reducible refine(jU.calls k bT false _ A2.out).mono ?_);rintro e w' ⟨rfl,⟨nd,rfl⟩⟩;(try exact dq)))
  repeat(go_quiet (first|(refine bG (N:=1) rfl ?_;(try(refine aX (by rfl) ?_;dsimp only));refine bE 1 #[.string bT, .string cZ] 63 ?_;intro MJ hg Us hbox hb;have xK:=ak (hbox);have MK:=lq HB hg;have ML:=lq HB hg;replace HB:=bs HB hb;clear hb hbox hg;obtain⟨nZ,n_,og,oh⟩:=Ah xK.out)|(go_at_call 126;(with_reducible refine(jU.calls k bT false _ A2.out).mono ?_);rintro e w' ⟨rfl,⟨nd,rfl⟩⟩;(try exact dq)));try go_wp2_with (first|(refine bG (N:=1) rfl ?_;(try(refine aX (by rfl) ?_;dsimp only));refine bE 1 #[.string bT, .string cZ] 63 ?_;intro MJ hg Us hbox hb;have xK:=ak (hbox);have MK:=lq HB hg;have ML:=lq HB hg;replace HB:=bs HB hb;clear hb hbox hg;obtain⟨nZ,n_,og,oh⟩:=Ah xK.out)|(go_at_call 126;(with_reducible refine(jU.calls k bT false _ A2.out).mono ?_);rintro e w' ⟨rfl,⟨nd,rfl⟩⟩;(try exact dq))))
  go_ret;exact⟨er,bb⟩
def qc.f(k:Nat)(bT:ByteArray)(cZ:ByteArray):Option (Bool):=(qQ.f k bT cZ).bind fun amx=>(some (!amx))
set_option maxHeartbeats 8000000 in
set_option maxRecDepth 100000 in
theorem qc.calls(k:Nat)(bT:ByteArray)(cZ:ByteArray)(r:Bool)(w:World)(h:qc.f k bT cZ=some r):
  Calls Tryz.prog 95 #[.agg #[.string bT, .string cZ]] w fun e w'=>e= .returned (.bool r)∧Below w.heap.size w w':=by
 have Jo:=underlying63;have HB:=ak (Below.refl w.heap.size w);have H:((qQ.f k bT cZ).bind fun amx=>(some (!amx)))=some r:=h;clear h;replace H:=bd H;obtain⟨amx,A2,H⟩:=H;obtain rfl:=Option.some.inj H;go_enter func95,ntmps95;go_wp2_with (first|(refine bE 1 #[.string bT, .string cZ] 63 ?_;intro aMQ hg w3 hbox hb;have amy:=ak (hbox);have aMR:=lq HB hg;have aMS:=lq HB hg;replace HB:=bs HB hb;clear hb hbox hg;obtain⟨aeF,akH,aeG,akI⟩:=Ah amy.out)|(refine gL 96 4 func96 #[.agg #[.string bT, .string cZ]] ?_;(with_reducible refine(qQ.calls k bT cZ amx _ A2.out).mono ?_);rintro e w5 ⟨rfl,hb⟩;refine⟨_,rfl,?_⟩;replace amy:=kb amy hb;replace HB:=ak (aC bb hb);(try clear hb)))
 go_ret;exact⟨er,bb⟩
def dJ.l0:Nat→List (gI)→Int→Int→Option (Int)
 |0,_,_,_=>none
 |k+1,x0,x7,x8=>if x8<x7 then(if 0≤x8 then(if x8<(x0.length:Int)then((qc.f k ((aG x0 x8).f0) ((aG x0 x8).f1)).bind fun aCm=>(if aCm=true then(some x8)else(dJ.l0 k x0 x7 (wrap64 (x8+1)))))else(none))else(none))else(some (-1))
def dJ.f(k:Nat)(l0:List (gI)):Option (Int):=dJ.l0 k l0 (l0.length:Int) 0
set_option maxHeartbeats 8000000 in
set_option maxRecDepth 100000 in
theorem dJ.calls(k:Nat)(A0:Option Addr)(c0:Nat)(l0:List (gI))(r:Int)(w:World)(hr0:Kd.C oN w A0 l0.length l0)(hc0:l0.length≤c0)(h:dJ.f k l0=some r):
  Calls Tryz.prog 125 #[.slice A0 l0.length c0, .func (.func 95) #[] #[]] w fun e w'=>e= .returned (.int .i64 r)∧Below w.heap.size w w':=by
 have Jo:=underlying63;have HR0:=ak hr0;have sK:=ak hc0;clear hr0 hc0;have HB:=ak (Below.refl w.heap.size w);have H:(dJ.l0 k l0 (l0.length:Int) 0)=some r:=h;clear h;have H':=ak H;clear H;go_enter func125,ntmps125;go_wp2;go_loopg [8] k (fun kq v8 w'=>∃(jm:Int),v8= .int .i64 jm∧ay (dJ.l0 kq l0 (l0.length:Int) jm=some r)∧ay (kq≤k)∧ay (Below w.heap.size w w'))
 case atStart=>exact⟨(0),rs,H',⟨Nat.le_refl _⟩,⟨ul HB.out⟩⟩
 case round=>
  clear H';try clear c1
  try clear p2
  obtain⟨jm,rfl,HA,iM,HB⟩:=hrel
  cases gk with
  |zero=>exact absurd HA.out (by simp[dJ.l0])
  |succ k1=>
   have H:=HA.out;clear HA;simp only[dJ.l0]at H;replace H:=sd H;rcases H with⟨iK,H⟩|⟨iK,H⟩
   ·replace H:=oL H;obtain⟨oG,H⟩:=H;replace H:=oL H;obtain⟨o_,H⟩:=H;replace H:=bd H;obtain⟨aCm,A6,H⟩:=H;replace H:=sb H;rcases H with⟨rfl,H⟩|⟨rfl,H⟩
    ·obtain rfl:=Option.some.inj H;have afq:=zi jm;have afr:=zj jm l0.length;obtain⟨aCn,axH,SS,SV⟩:=oC HR0.out jm afq afr;cases axH;replace SS:=cl HB.out SS;replace SV:=cl HB.out SV;replace afq:=eq_true afq;replace afr:=eq_true afr;go_wp2_with (first|(go_at_call 95;(with_reducible refine(qc.calls k1 ((aG l0 jm).f0) ((aG l0 jm).f1) true _ A6.out).mono ?_);rintro e w8 ⟨rfl,hb⟩;replace HB:=bs HB hb;(try clear hb)))
     go_ret;exact⟨er,ul HB.out⟩
    ·have H':=ak H;clear H;have afq:=zi jm;have afr:=zj jm l0.length;obtain⟨aCn,axH,SS,SV⟩:=oC HR0.out jm afq afr;cases axH;replace SS:=cl HB.out SS;replace SV:=cl HB.out SV;replace afq:=eq_true afq;replace afr:=eq_true afr;go_wp2_with (first|(go_at_call 95;(with_reducible refine(qc.calls k1 ((aG l0 jm).f0) ((aG l0 jm).f1) false _ A6.out).mono ?_);rintro e w9 ⟨rfl,hb⟩;replace HB:=bs HB hb;(try clear hb)))
     go_roundg k1
     case measure=>have:=iM.out;omega
     case rel=>exact⟨(wrap64 (jm+1)),rs,H',⟨by have:=iM.out;omega⟩,⟨ul HB.out⟩⟩
   ·obtain rfl:=Option.some.inj H;go_wp2;go_ret;exact⟨er,ul HB.out⟩
def lg.f(k:Nat)(l0:List (gI)):Option (Bool):=(dJ.f k l0).bind fun amA=>(some (decide (amA≥0)))
set_option maxHeartbeats 8000000 in
set_option maxRecDepth 100000 in
theorem lg.calls(k:Nat)(A0:Option Addr)(c0:Nat)(l0:List (gI))(r:Bool)(w:World)(hr0:Kd.C oN w A0 l0.length l0)(hc0:l0.length≤c0)(h:lg.f k l0=some r):
  Calls Tryz.prog 94 #[.slice A0 l0.length c0, .func (.func 95) #[] #[]] w fun e w'=>e= .returned (.bool r)∧Below w.heap.size w w':=by
 have HR0:=ak hr0;have sK:=ak hc0;clear hr0 hc0;have HB:=ak (Below.refl w.heap.size w);have H:((dJ.f k l0).bind fun amA=>(some (decide (amA≥0))))=some r:=h;clear h;replace H:=bd H;obtain⟨amA,A3,H⟩:=H;obtain rfl:=Option.some.inj H;go_enter func94,ntmps94;go_wp2_with (first|(refine gL 125 7 func125 #[.slice A0 l0.length c0, .func (.func 95) #[] #[]] ?_;(with_reducible refine(dJ.calls k _ _ l0 amA _ (cu HR0.out) sK.out A3.out).mono ?_);rintro e w4 ⟨rfl,hb⟩;refine⟨_,rfl,?_⟩;replace HB:=bs HB hb;(try clear hb)))
 go_ret;exact⟨er,ul HB.out⟩
def lV.f(k:Nat)(l0:List (gI)):Option (Bool):=if(l0.length:Int)≤20 then((lg.f k l0).bind fun amB=>(some (!amB)))else(some false)
set_option maxHeartbeats 8000000 in
set_option maxRecDepth 100000 in
theorem lV.calls(k:Nat)(A0:Option Addr)(c0:Nat)(l0:List (gI))(r:Bool)(w:World)(hr0:Kd.C oN w A0 l0.length l0)(hc0:l0.length≤c0)(h:lV.f k l0=some r):
  Calls Tryz.prog 63 #[.slice A0 l0.length c0] w fun e w'=>e= .returned (.bool r)∧Below w.heap.size w w':=by
 have HR0:=ak hr0;have sK:=ak hc0;clear hr0 hc0;have HB:=ak (Below.refl w.heap.size w);have H:(if(l0.length:Int)≤20 then((lg.f k l0).bind fun amB=>(some (!amB)))else(some false))=some r:=h;clear h;replace H:=sp H;rcases H with⟨c2,H⟩|⟨c2,H⟩
 ·have zY:=decide_eq_true c2;have PV:decide (l0.length≤20)=true:=decide_eq_true (by omega);clear c2;replace H:=bd H;obtain⟨amB,A3,H⟩:=H;obtain rfl:=Option.some.inj H;go_enter func63,ntmps63;go_wp2_with (first|(go_at_call 94;(with_reducible refine(lg.calls k _ _ l0 amB _ (cu HR0.out) sK.out A3.out).mono ?_);rintro e w4 ⟨rfl,hb⟩;replace HB:=bs HB hb;(try clear hb)))
  go_ret;exact⟨er,ul HB.out⟩
 ·have zY:=decide_eq_false c2;have PV:decide (l0.length≤20)=false:=decide_eq_false (by omega);clear c2;obtain rfl:=Option.some.inj H;go_enter func63,ntmps63;go_wp2;go_ret;exact⟨er,ul HB.out⟩
def stringslite_HasPrefix.f(a0:ByteArray)(a1:ByteArray):Option (Bool):=if(a0.size:Int)≥(a1.size:Int)then(if 0≤(a1.size:Int)then(if(a1.size:Int)≤(a0.size:Int)then(some ((a0.extract 0 ((a1.size:Int):Int).toNat).toList==a1.toList))else(none))else(none))else(some false)
set_option maxHeartbeats 8000000 in
set_option maxRecDepth 100000 in
theorem stringslite_HasPrefix.calls(a0:ByteArray)(a1:ByteArray)(r:Bool)(w:World)(h:stringslite_HasPrefix.f a0 a1=some r):
  Calls Tryz.prog 85 #[.string a0, .string a1] w fun e w'=>e= .returned (.bool r)∧fZ w w':=by
 have H:(if(a0.size:Int)≥(a1.size:Int)then(if 0≤(a1.size:Int)then(if(a1.size:Int)≤(a0.size:Int)then(some ((a0.extract 0 ((a1.size:Int):Int).toNat).toList==a1.toList))else(none))else(none))else(some false))=some r:=h;clear h;replace H:=sp H;rcases H with⟨c3,H⟩|⟨c3,H⟩
 ·have iK:decide ((a1.size:Int)≤(a0.size:Int))=true:=decide_eq_true c3;have xW:decide (a1.size≤a0.size)=true:=decide_eq_true (Int.ofNat_le.mp c3);clear c3;replace H:=Fe H;obtain⟨oG,VY,H⟩:=H;replace H:=Fe H;obtain⟨o_,Y_,H⟩:=H;obtain rfl:=Option.some.inj H;go_enter func85,ntmps85;go_wp2;go_ret;exact⟨rs,dn⟩
 ·have iK:decide ((a1.size:Int)≤(a0.size:Int))=false:=decide_eq_false c3;have xW:decide (a1.size≤a0.size)=false:=decide_eq_false (fun h=>c3 (Int.ofNat_le.mpr h));clear c3;obtain rfl:=Option.some.inj H;go_enter func85,ntmps85;go_wp2;go_ret;exact⟨rs,dn⟩
def strings_HasPrefix.f(a0:ByteArray)(a1:ByteArray):Option (Bool):=(stringslite_HasPrefix.f a0 a1).bind fun amM=>(some amM)
set_option maxHeartbeats 8000000 in
set_option maxRecDepth 100000 in
theorem strings_HasPrefix.calls(a0:ByteArray)(a1:ByteArray)(r:Bool)(w:World)(h:strings_HasPrefix.f a0 a1=some r):
  Calls Tryz.prog 60 #[.string a0, .string a1] w fun e w'=>e= .returned (.bool r)∧fZ w w':=by
 have H:((stringslite_HasPrefix.f a0 a1).bind fun amM=>(some amM))=some r:=h;clear h;replace H:=bd H;obtain⟨amM,A3,H⟩:=H;obtain rfl:=Option.some.inj H;go_enter func60,ntmps60;go_wp2_with (first|(refine gL 85 7 func85 #[.string a0, .string a1] ?_;(with_reducible refine(stringslite_HasPrefix.calls a0 a1 amM _ A3.out).mono ?_);rintro e w' ⟨rfl,⟨nd,rfl⟩⟩;refine⟨_,rfl,?_⟩))
 go_ret;exact⟨rs,dn⟩
mutual
def dP.l0:Nat→List ByteArray→List ByteArray→Int→Int→Option ((List (gI))×Bool)
 |0,_,_,_,_=>none
 |k+1,x4,x15,x16,x17=>if x17<x16 then(if 0≤x17 then(if x17<(x15.length:Int)then((strings_HasPrefix.f (f_ ByteArray.empty x15 x17) (⟨#[32]⟩:ByteArray)).bind fun aCF=>(if aCF=true then(if(wrap64 ((x4.length:Int)-1))<0 then(some (([]:List (gI)),false))else(if 0≤(wrap64 ((x4.length:Int)-1))then(if(wrap64 ((x4.length:Int)-1))<(x4.length:Int)then(if(f_ ByteArray.empty x4 (wrap64 ((x4.length:Int)-1))).size+(f_ ByteArray.empty x15 x17).size≤9223372036854775807 then(dP.l0 k (x4.set ((wrap64 ((x4.length:Int)-1)):Int).toNat ((f_ ByteArray.empty x4 (wrap64 ((x4.length:Int)-1)))++(f_ ByteArray.empty x15 x17))) x15 x16 (wrap64 (x17+1)))else(none))else(none))else(none)))else(if x4.length<8796093022208 then(dP.l0 k (x4++[f_ ByteArray.empty x15 x17]) x15 x16 (wrap64 (x17+1)))else(none))))else(none))else(none))else(dP.l1 k (([]:List (gI))) x4 (x4.length:Int) 0)
def dP.l1:Nat→List (gI)→List ByteArray→Int→Int→Option ((List (gI))×Bool)
 |0,_,_,_,_=>none
 |k+1,x8,x44,x45,x46=>if x46<x45 then(if 0≤x46 then(if x46<(x44.length:Int)then((strings_Cut.f (f_ ByteArray.empty x44 x46) (⟨#[58]⟩:ByteArray)).bind fun amN=>(if amN.2.2=true then((kC.f amN.2.1 (⟨#[32]⟩:ByteArray)).bind fun afy=>(if x8.length<4398046511104 then(dP.l1 k (x8++[(⟨amN.1,afy⟩:gI)]) x44 x45 (wrap64 (x46+1)))else(none)))else(some (([]:List (gI)),false))))else(none))else(none))else((lV.f k x8).bind fun aCG=>(if aCG=true then(some (x8,true))else(some (([]:List (gI)),false))))
end
def dP.f(k:Nat)(l0:List ByteArray):Option ((List (gI))×Bool):=dP.l0 k (([]:List ByteArray)) l0 (l0.length:Int) 0
set_option maxHeartbeats 8000000 in
set_option maxRecDepth 100000 in
theorem dP.calls(k:Nat)(A0:Option Addr)(c0:Nat)(l0:List ByteArray)(r1:List (gI))(r2:Bool)(w:World)(hr0:Kd.C Kd.string w A0 l0.length l0)(hc0:l0.length≤c0)(oP:MaxOk w)(h:dP.f k l0=some (r1,r2)):
  Calls Tryz.prog 50 #[.slice A0 l0.length c0] w fun e w'=>∃sZ:Value,e= .returned (.tuple #[sZ, .bool r2])∧Kd.R oN 63 w' w.heap.size (fun _=>True) sZ r1∧Below w.heap.size w w':=by
 have Jo:=underlying63;have HR0:=ak hr0;have sK:=ak hc0;clear hr0 hc0;have HG:=ak oP;clear oP;have HB:=ak (Below.refl w.heap.size w);have H:(dP.l0 k (([]:List ByteArray)) l0 (l0.length:Int) 0)=some (r1,r2):=h;clear h;obtain⟨aJK,amO⟩:=nm ([]:List ByteArray);rw[←amO.out]at H
 (try rw[Option.bind_some]at H);have H':=ak H;clear H;go_enter func50,ntmps50;go_wp2_with (first|((with_reducible refine bG (N:=14) rfl ?_);refine nD Kd.string _ 9 ?hg (N:=14) ?hd (xs:=([]:List ByteArray)) (inner:=[]) (ok:=fun _=>True) (oO:=fun _=>True) ?hr ?hp (fun _ hk=>hk) trivial (Below.refl _ _) (Nat.le_refl _) (by simp) ?_;(case hd=>rfl);(case hg=>rfl);(case hr=>first|(go_simp;done)|(go_simp;rfl));(case hp=>exact(iW.none _ _));intro aQt w2 ho3 hb oP gY;clear oP gY;(first|rw[←amO.out]at ho3|(simp only[Int.reduceToNat]at ho3;rw[←amO.out]at ho3));have aCH:=ak (bQ ho3 (aA (ul HB.out)));replace HB:=bs HB hb;clear hb ho3))
 go_loopg [4,17] k (fun kq v4 v17 w'=>∃(fG:List ByteArray) (sU:Int),v17= .int .i64 sU∧ay (dP.l0 kq fG l0 (l0.length:Int) sU=some (r1,r2))∧ay (kq≤k)∧ay (Kd.R Kd.string 9 w' w.heap.size (fun _=>True) v4 fG)∧ay (Below w.heap.size w w'))
 case atStart=>exact⟨(aJK),(0),rs,H',⟨Nat.le_refl _⟩,⟨ur aCH.out⟩,⟨ul HB.out⟩⟩
 case round=>
  clear H';try clear p2
  obtain⟨fG,sU,rfl,HA,iM,gy,HB⟩:=hrel
  cases gk with
  |zero=>exact absurd HA.out (by simp[dP.l0])
  |succ k1=>
   have H:=HA.out;clear HA;simp only[dP.l0]at H;replace H:=sd H;rcases H with⟨oG,H⟩|⟨oG,H⟩
   ·replace H:=oL H;obtain⟨o_,H⟩:=H;replace H:=oL H;obtain⟨mG,H⟩:=H;replace H:=bd H;obtain⟨aCF,A7,H⟩:=H;replace H:=sb H;rcases H with⟨rfl,H⟩|⟨rfl,H⟩
    ·replace H:=sp H;rcases H with⟨c9,H⟩|⟨c9,H⟩
     ·have vI:=decide_eq_true c9
      (try(have Df:decide (((fG.length:Int)-1)<0)=true:=decide_eq_true (by have h_:=c9;unfold wrap64 at h_;omega)));clear c9;simp only[Option.some.injEq,Prod.mk.injEq]at H;obtain⟨rfl,rfl⟩:=H;have Wq:=zi sU;have Ws:=zj sU l0.length;obtain⟨auw,amP,Fa⟩:=dY HR0.out sU Wq Ws;cases amP;replace Fa:=cl HB.out Fa;replace Wq:=eq_true Wq;replace Ws:=eq_true Ws;obtain⟨LC,Kq,awP⟩:=bW gy.out;subst awP;go_wp2_with (first|(refine gL 60 33 func60 #[.string (f_ ByteArray.empty l0 sU), .string (⟨#[32]⟩:ByteArray)] ?_;(with_reducible refine(strings_HasPrefix.calls (f_ ByteArray.empty l0 sU) (⟨#[32]⟩:ByteArray) true _ A7.out).mono ?_);rintro e w' ⟨rfl,⟨nd,rfl⟩⟩;refine⟨_,rfl,?_⟩))
      go_ret2;exact⟨_,er,nx,ul HB.out⟩
     ·have vI:=decide_eq_false c9
      (try(have Df:decide (((fG.length:Int)-1)<0)=false:=decide_eq_false (by have h_:=c9;unfold wrap64 at h_;omega)));clear c9;obtain⟨JC,adw⟩:∃j_:Int,(wrap64 ((fG.length:Int)-1))=j_:=⟨_,rfl⟩
      replace H:(if 0≤(JC)then(if(JC)<(fG.length:Int)then(if(f_ ByteArray.empty fG (JC)).size+(f_ ByteArray.empty l0 sU).size≤9223372036854775807 then(dP.l0 k1 (fG.set ((JC):Int).toNat ((f_ ByteArray.empty fG (JC))++(f_ ByteArray.empty l0 sU))) l0 (l0.length:Int) (wrap64 (sU+1)))else(none))else(none))else(none))=some (r1,r2):=by first|(rw[adw]at H;exact H)|(simp only[adw]at H⊢;exact H)
      (try rw[adw]at vI)
      (try rw[adw]at A7);have aJL:(IntKind.i64.wrap ((fG.length:Int)-1))=JC:=(bf _).trans adw;replace H:=oL H;obtain⟨wG,H⟩:=H;replace H:=oL H;obtain⟨vJ,H⟩:=H;replace H:=nn H;obtain⟨c14,H⟩:=H;have tH:=eq_true c14;have xq:=decide_eq_true c14;try have adp:(9223372036854775807<(f_ ByteArray.empty fG (JC)).size+(f_ ByteArray.empty l0 sU).size)=False:=eq_false (Nat.not_lt.2 c14)
      obtain⟨aCI,auy⟩:=nm (fG.set ((JC):Int).toNat ((f_ ByteArray.empty fG (JC))++(f_ ByteArray.empty l0 sU)));rw[←auy.out]at H
      (try rw[Option.bind_some]at H);have H':=ak H;clear H;have Wq:=zi sU;have Ws:=zj sU l0.length;obtain⟨auw,amP,Fa⟩:=dY HR0.out sU Wq Ws;cases amP;replace Fa:=cl HB.out Fa;replace Wq:=eq_true Wq;replace Ws:=eq_true Ws;obtain⟨VZ,UC,aas⟩:=bW gy.out;subst aas;go_wp2_with (first|(refine gL 60 33 func60 #[.string (f_ ByteArray.empty l0 sU), .string (⟨#[32]⟩:ByteArray)] ?_;(with_reducible refine(strings_HasPrefix.calls (f_ ByteArray.empty l0 sU) (⟨#[32]⟩:ByteArray) true _ A7.out).mono ?_);rintro e w' ⟨rfl,⟨nd,rfl⟩⟩;refine⟨_,rfl,?_⟩;(try(rw[uo wr];generalize JB:World.drewN wr _=wr;have iE:ay (Kd.R Kd.string 9 wr w.heap.size (fun _=>True) (.slice VZ fG.length UC) fG):=⟨by rw[←JB];exact(ur gy.out)⟩;have iF:ay (Below w.heap.size w wr):=⟨by rw[←JB];exact(ul HB.out)⟩;clear gy HB JB;have gy:=iE;have HB:=iF;clear iE iF));have ars:0≤((JC):Int):=of_decide_eq_true (by assumption);have aru:(JC)<(fG.length:Int):=of_decide_eq_true (by assumption);obtain⟨aM0,aJM,ah2⟩:=dY (bH gy.out).2.2 (JC) ars aru;cases aJM;replace ars:=eq_true ars;replace aru:=eq_true aru;have p15:0≤((JC):Int):=of_decide_eq_true (by assumption);have q15:((JC):Int)<((fG.length:Int):Int):=of_decide_eq_true (by assumption);obtain⟨axM,acC,aiK,aCJ,aJN,aQu,aCK⟩:=XC gy.out (by omega);(first|cases aiK|(injection aiK with LP en_ ec_;(first|subst LP|(injection LP with LP;subst LP));subst ec_;clear en_));have aJO:=ak aCJ;have aQv:=ak aCK;clear aCJ aJN aCK;(first|simp only[add_plain]at ah2|skip);obtain⟨axN,aJP⟩:=QG (⟨#[]⟩:ByteArray) gy.out ((JC):Int) p15 q15;replace p15:=eq_true p15;replace q15:=eq_true q15;obtain⟨aM1,aM2⟩:=QG (⟨#[]⟩:ByteArray) gy.out ((JC):Int) (of_decide_eq_true (by assumption)) (of_decide_eq_true (by assumption));have axO:=aej gy.out ((JC):Int) ((f_ ByteArray.empty fG (JC))++(f_ ByteArray.empty l0 sU)))|((with_reducible refine vT (t:=9) (p:=30) rfl ?_);refine tJ (t:=9) (p:=30) (v:=?aJQ) (w1:=(wr.setCell ⟨axM,((JC):Int).toNat,none⟩ (.string ((f_ ByteArray.empty fG (JC))++(f_ ByteArray.empty l0 sU))))) ?hg ?ho ?hn ?hr ?_;(case ho=>rfl);(case hg=>rfl);(case hn=>rfl);(case hr=>first|(go_simp;done)|(go_simp;rfl));intro w18 hw;have hg:wr.grownBy w18 (some axM):=(by rw[hw];exact axO.2);have Vu:Kd.R Kd.string 9 w18 w.heap.size (fun _=>True) (.slice (some ⟨axM,0,none⟩) fG.length UC) aCI:=(by rw[hw,auy.out];exact axO.1);clear axO;replace gy:=ak (Vu);replace HB:=ak ((by rw[hw];exact rH (HB.out) aJO.out:Below w.heap.size w w18));clear hg hw Vu))
      go_roundg k1
      case measure=>have:=iM.out;omega
      case rel=>exact⟨(aCI),(wrap64 (sU+1)),rs,H',⟨by have:=iM.out;omega⟩,⟨ur gy.out⟩,⟨ul HB.out⟩⟩
    ·replace H:=nl H;obtain⟨acE,H⟩:=H;obtain⟨aJR,auz⟩:=nm (fG++[f_ ByteArray.empty l0 sU]);rw[←auz.out]at H
     (try rw[Option.bind_some]at H);have H':=ak H;clear H;have Wq:=zi sU;have Ws:=zj sU l0.length;obtain⟨auw,amP,Fa⟩:=dY HR0.out sU Wq Ws;cases amP;replace Fa:=cl HB.out Fa;replace Wq:=eq_true Wq;replace Ws:=eq_true Ws;obtain⟨Gh,Dz,alF⟩:=bW gy.out;subst alF;go_wp2_with (first|(refine gL 60 33 func60 #[.string (f_ ByteArray.empty l0 sU), .string (⟨#[32]⟩:ByteArray)] ?_;(with_reducible refine(strings_HasPrefix.calls (f_ ByteArray.empty l0 sU) (⟨#[32]⟩:ByteArray) false _ A7.out).mono ?_);rintro e w' ⟨rfl,⟨nd,rfl⟩⟩;refine⟨_,rfl,?_⟩)|((with_reducible refine bM (b:= .append) (xs:=#[.tmp 35, .tmp 37]) rfl ?_);at_builtin;refine iT Kd.string (w0:=w) w.heap.size rfl (.tmp 35) (.tmp 37) 23 9 (.string ⟨#[]⟩) 16 rfl underlying23 info9 rfl (by decide) (by omega) (.slice Gh fG.length Dz) fG (f_ ByteArray.empty l0 sU) [.string (f_ ByteArray.empty l0 sU)] (fun _=>True) (fun _=>False) rfl rfl ?aP (fun _ hk=>hk.elim) ?aF ?aO ?aB ?aS ?aL ?_;(case aP=>exact rfl);(case aB=>exact(ul HB.out));(case aF=>exact(fun _ _=>trivial));(case aO=>exact(ur gy.out));(case aS=>exact(aA (ul HB.out)));(case aL=>have:=acE.out;omega);intro aQw w21 ho hb hg hat;rw[←auz.out]at ho;have iE:=ak (hb);have iF:=ak (ho);clear HB;clear gy;have HB:=iE;have aCL:=iF;clear iE iF;clear ho hb hg hat))
     go_roundg k1
     case measure=>have:=iM.out;omega
     case rel=>exact⟨(aJR),(wrap64 (sU+1)),rs,H',⟨by have:=iM.out;omega⟩,⟨ur aCL.out⟩,⟨ul HB.out⟩⟩
   ·obtain⟨aJS,amQ⟩:=nm ([]:List (gI));rw[←amQ.out]at H
    (try rw[Option.bind_some]at H);have H':=ak H;clear H;go_wp2_with (first|((with_reducible refine bG (N:=43) rfl ?_);refine nD oN _ 63 ?hg (N:=43) ?hd (xs:=([]:List (gI))) (inner:=[]) (ok:=fun _=>True) (oO:=fun _=>True) ?hr ?hp (fun _ hk=>hk) trivial (Below.refl _ _) (Nat.le_refl _) (by simp) ?_;(case hd=>rfl);(case hg=>rfl);(case hr=>first|(go_simp;done)|(go_simp;rfl));(case hp=>exact(iW.none _ _));intro aQx w22 amR hb oP gY;clear oP gY;(first|rw[←amQ.out]at amR|(simp only[Int.reduceToNat]at amR;rw[←amQ.out]at amR));have aCM:=ak (bQ amR (aA (ul HB.out)));replace gy:=rb gy hb;replace HB:=bs HB hb;clear hb amR;obtain⟨MB,Ko,alG⟩:=bW gy.out;subst alG))
    go_loopg [8,46] k1 (fun kq v8 v46 w'=>∃(abT:List (gI)) (IC:Int),v46= .int .i64 IC∧ay (dP.l1 kq abT fG (fG.length:Int) IC=some (r1,r2))∧ay (kq≤k1)∧ay (Kd.R oN 63 w' w.heap.size (fun _=>True) v8 abT)∧ay (Kd.R Kd.string 9 w' w.heap.size (fun _=>True) (.slice MB fG.length Ko) fG)∧ay (Below w.heap.size w w'))
    case atStart=>exact⟨(aJS),(0),rs,H',⟨Nat.le_refl _⟩,⟨ur aCM.out⟩,⟨ur gy.out⟩,⟨ul HB.out⟩⟩
    case round=>
     clear H';try clear c1
     try clear p1
     try clear q1
     try clear hx1
     try clear hf1
     try clear p2
     try clear c4
     try clear oG
     try clear c5
     try clear o_
     try clear c6
     try clear mG
     try clear p6
     try clear c8
     try clear p8
     try clear q8
     try clear hx8
     try clear c9
     try clear vI
     try clear Df
     try clear c12
     try clear wG
     try clear c13
     try clear vJ
     try clear c14
     try clear tH
     try clear xq
     try clear adp
     try clear p15
     try clear q15
     try clear aHD
     try clear aQy
     try clear c19
     try clear axN
     try clear Fa
     try clear ah2
     try clear p15
     try clear p2
     try clear Wq
     try clear ars
     try clear q15
     try clear Ws
     try clear aru
     obtain⟨abT,IC,rfl,HA,yR,I5,OX,HB⟩:=hrel
     cases gk with
     |zero=>exact absurd HA.out (by simp[dP.l1])
     |succ k2=>
      have H:=HA.out;clear HA;simp only[dP.l1]at H;replace H:=sd H;rcases H with⟨Hz,H⟩|⟨Hz,H⟩
      ·replace H:=oL H;obtain⟨VB,H⟩:=H;replace H:=oL H;obtain⟨OO,H⟩:=H;replace H:=bd H;obtain⟨⟨ai9,arv,aQz⟩,A28,H⟩:=H
       (try dsimp only at H);replace H:=sb H;rcases H with⟨rfl,H⟩|⟨rfl,H⟩
       ·replace H:=bd H;obtain⟨afy,A30,H⟩:=H;replace H:=nl H;obtain⟨ac4,H⟩:=H;obtain⟨aJT,auA⟩:=nm (abT++[(⟨ai9,afy⟩:gI)]);rw[←auA.out]at H
        (try rw[Option.bind_some]at H);have H':=ak H;clear H;have afz:=zi IC;have afA:=zj IC fG.length;obtain⟨aCN,axP,arw⟩:=dY (bH OX.out).2.2 IC afz afA;cases axP;replace afz:=eq_true afz;replace afA:=eq_true afA;go_wp2_with (first|(refine gL 61 52 func61 #[.string (f_ ByteArray.empty fG IC), .string (⟨#[58]⟩:ByteArray)] ?_;(with_reducible refine(strings_Cut.calls (f_ ByteArray.empty fG IC) (⟨#[58]⟩:ByteArray) ai9 arv true _ ?iY A28.out).mono ?_);(case iY=>first|exact HG.out|exact MaxOk.below HG.out (ul HB.out)|(repeat(first|exact HG.out|apply MaxOk.drewN|apply MaxOk.drew)));rintro e w' ⟨rfl,⟨nd,rfl⟩⟩;refine⟨_,rfl,?_⟩)|(refine gL 62 61 func62 #[.string arv, .string (⟨#[32]⟩:ByteArray)] ?_;(with_reducible refine(kC.calls arv (⟨#[32]⟩:ByteArray) afy _ A30.out).mono ?_);rintro e w' ⟨rfl,⟨nd,rfl⟩⟩;refine⟨_,rfl,?_⟩)|((with_reducible refine bM (b:= .append) (xs:=#[.tmp 58, .tmp 63]) rfl ?_);at_builtin;refine iT oN (w0:=w) w.heap.size rfl (.tmp 58) (.tmp 63) 29 63 (.agg #[(.string ⟨#[]⟩),(.string ⟨#[]⟩)]) 32 rfl underlying29 Fz rfl (by decide) (by omega) u8 abT (⟨ai9,afy⟩:gI) [.string ai9, .string afy] (fun _=>True) (fun _=>False) rfl rfl ?aP (fun _ hk=>hk.elim) ?aF ?aO ?aB ?aS ?aL ?_;(case aP=>exact Hq _ _ _ (⟨ai9,afy⟩:gI));(case aB=>exact(ul HB.out));(case aF=>exact(fun _ _=>trivial));(case aO=>exact(ur I5.out));(case aS=>exact(aA (ul HB.out)));(case aL=>have:=ac4.out;omega);intro aQA w32 ho hb hg hat;rw[←auA.out]at ho;have iE:=ak (zf (ur OX.out) (uH (ur I5.out)) (by decide) hg);have iF:=ak (hb);have lD:=ak (ho);clear OX;clear HB;clear I5;have OX:=iE;have HB:=iF;have aCO:=lD;clear iE iF lD;clear ho hb hg hat))
        go_roundg k2
        case measure=>have:=iM.out;have:=yR.out;omega
        case rel=>exact⟨(aJT),(wrap64 (IC+1)),rs,H',⟨by have:=iM.out;have:=yR.out;omega⟩,⟨ur aCO.out⟩,⟨ur OX.out⟩,⟨ul HB.out⟩⟩
       ·simp only[Option.some.injEq,Prod.mk.injEq]at H;obtain⟨rfl,rfl⟩:=H;have afz:=zi IC;have afA:=zj IC fG.length;obtain⟨aCN,axP,arw⟩:=dY (bH OX.out).2.2 IC afz afA;cases axP;replace afz:=eq_true afz;replace afA:=eq_true afA;go_wp2_with (first|(refine gL 61 52 func61 #[.string (f_ ByteArray.empty fG IC), .string (⟨#[58]⟩:ByteArray)] ?_;(with_reducible refine(strings_Cut.calls (f_ ByteArray.empty fG IC) (⟨#[58]⟩:ByteArray) ai9 arv false _ ?iY A28.out).mono ?_);(case iY=>first|exact HG.out|exact MaxOk.below HG.out (ul HB.out)|(repeat(first|exact HG.out|apply MaxOk.drewN|apply MaxOk.drew)));rintro e w' ⟨rfl,⟨nd,rfl⟩⟩;refine⟨_,rfl,?_⟩))
        go_ret2;exact⟨_,er,nx,ul HB.out⟩
      ·replace H:=bd H;obtain⟨aCG,A33,H⟩:=H;replace H:=sb H;rcases H with⟨rfl,H⟩|⟨rfl,H⟩
       ·simp only[Option.some.injEq,Prod.mk.injEq]at H;obtain⟨rfl,rfl⟩:=H;obtain⟨aJU,aJV,aJW⟩:=bW I5.out;subst aJW;go_wp2_with (first|(refine gL 63 67 func63 #[.slice aJU abT.length aJV] ?_;(with_reducible refine(lV.calls k2 _ _ abT true _ (cu ((bH I5.out).2.2)) ((bH I5.out).2.1) A33.out).mono ?_);rintro e w36 ⟨rfl,hb⟩;refine⟨_,rfl,?_⟩;replace I5:=rb I5 hb;replace OX:=rb OX hb;replace HB:=bs HB hb;(try clear hb)))
        go_ret2;exact⟨_,er,ur I5.out,ul HB.out⟩
       ·simp only[Option.some.injEq,Prod.mk.injEq]at H;obtain⟨rfl,rfl⟩:=H;obtain⟨acV,acW,acX⟩:=bW I5.out;subst acX;go_wp2_with (first|(refine gL 63 67 func63 #[.slice acV abT.length acW] ?_;(with_reducible refine(lV.calls k2 _ _ abT false _ (cu ((bH I5.out).2.2)) ((bH I5.out).2.1) A33.out).mono ?_);rintro e w38 ⟨rfl,hb⟩;refine⟨_,rfl,?_⟩;replace I5:=rb I5 hb;replace OX:=rb OX hb;replace HB:=bs HB hb;(try clear hb)))
        go_ret2;exact⟨_,er,nx,ul HB.out⟩
def iq.l0:Nat→ByteArray→List (List ByteArray)→List ByteArray→Int→Int→Option ((List (List ByteArray))×Bool)
 |0,_,_,_,_,_=>none
 |k+1,x1,x6,Wj,x14,x15=>if x15<x14 then(if 0≤x15 then(if x15<(Wj.length:Int)then(if 2+x1.size≤9223372036854775807 then(if(f_ ByteArray.empty Wj x15).toList=((⟨#[45,45]⟩:ByteArray)++x1).toList then(if x6.length<5864062014805 then(iq.l0 k x1 (x6++[(([]:List ByteArray))]) Wj x14 (wrap64 (x15+1)))else(none))else(if(x6.length:Int)=0 then(iq.l0 k x1 x6 Wj x14 (wrap64 (x15+1)))else(if((⟨#[45,45]⟩:ByteArray)++x1).size+2≤9223372036854775807 then(if(f_ ByteArray.empty Wj x15).toList=(((⟨#[45,45]⟩:ByteArray)++x1)++(⟨#[45,45]⟩:ByteArray)).toList then(some (x6,true))else(if 0≤(wrap64 ((x6.length:Int)-1))then(if(wrap64 ((x6.length:Int)-1))<(x6.length:Int)then(if(kM x6 (wrap64 ((x6.length:Int)-1))).length<8796093022208 then(iq.l0 k x1 (x6.set ((wrap64 ((x6.length:Int)-1)):Int).toNat ((kM x6 (wrap64 ((x6.length:Int)-1)))++[f_ ByteArray.empty Wj x15])) Wj x14 (wrap64 (x15+1)))else(none))else(none))else(none)))else(none))))else(none))else(none))else(none))else(some (([]:List (List ByteArray)),false))
def iq.f(k:Nat)(l0:List ByteArray)(a1:ByteArray):Option ((List (List ByteArray))×Bool):=(jG.f k a1).bind fun arx=>(if arx=true then(iq.l0 k a1 (([]:List (List ByteArray))) l0 (l0.length:Int) 0)else(some (([]:List (List ByteArray)),false)))
set_option maxHeartbeats 8000000 in
set_option maxRecDepth 100000 in
theorem iq.calls(k:Nat)(A0:Option Addr)(c0:Nat)(l0:List ByteArray)(a1:ByteArray)(r1:List (List ByteArray))(r2:Bool)(w:World)(hr0:Kd.C Kd.string w A0 l0.length l0)(hc0:l0.length≤c0)(h:iq.f k l0 a1=some (r1,r2)):
  Calls Tryz.prog 52 #[.slice A0 l0.length c0, .string a1] w fun e w'=>∃sZ:Value,e= .returned (.tuple #[sZ, .bool r2])∧Kd.S (Kd.slice 9 Kd.string) 23 w' w.heap.size (fun _=>True) sZ r1∧Below w.heap.size w w':=by
 have HR0:=ak hr0;have sK:=ak hc0;clear hr0 hc0;have HB:=ak (Below.refl w.heap.size w);have H:((jG.f k a1).bind fun arx=>(if arx=true then(iq.l0 k a1 (([]:List (List ByteArray))) l0 (l0.length:Int) 0)else(some (([]:List (List ByteArray)),false))))=some (r1,r2):=h;clear h;replace H:=bd H;obtain⟨arx,A3,H⟩:=H;replace H:=sb H;rcases H with⟨rfl,H⟩|⟨rfl,H⟩
 ·obtain⟨aJX,amS⟩:=nm ([]:List (List ByteArray));rw[←amS.out]at H
  (try rw[Option.bind_some]at H);have H':=ak H;clear H;go_enter func52,ntmps52;go_wp2_with (first|(refine gL 67 10 func67 #[.string a1] ?_;(with_reducible refine(jG.calls k a1 true _ A3.out).mono ?_);rintro e w' ⟨rfl,⟨nd,rfl⟩⟩;refine⟨_,rfl,?_⟩)|((with_reducible refine bG (N:=12) rfl ?_);refine ZE (Kd.slice 9 Kd.string) _ 23 ?hg (N:=12) ?hd (xs:=([]:List (List ByteArray))) (inner:=[]) (ok:=fun _=>True) (oO:=fun _=>True) ?hr ?hp (fun _ hk=>hk) trivial (Below.refl _ _) (Nat.le_refl _) (by simp) ?_;(case hd=>rfl);(case hg=>rfl);(case hr=>first|(go_simp;done)|(go_simp;rfl));(case hp=>exact(iW.none _ _));intro aQB w5 WQ hb oP gY;clear oP gY;(first|rw[←amS.out]at WQ|(simp only[Int.reduceToNat]at WQ;rw[←amS.out]at WQ));have aCP:=ak (qZ WQ (aA (ul HB.out)));replace HB:=bs HB hb;clear hb WQ))
  go_loopg [6,15] k (fun kq v6 v15 w'=>∃(iJ:List (List ByteArray)) (lI:Int),v15= .int .i64 lI∧ay (iq.l0 kq a1 iJ l0 (l0.length:Int) lI=some (r1,r2))∧ay (kq≤k)∧ay (Kd.S (Kd.slice 9 Kd.string) 23 w' w.heap.size (fun _=>True) v6 iJ)∧ay (Below w.heap.size w w'))
  case atStart=>exact⟨(aJX),(0),rs,H',⟨Nat.le_refl _⟩,⟨by(with_reducible repeat(first|apply Kd.dH|apply Kd.dI|apply Kd.eH));exact aCP.out⟩,⟨ul HB.out⟩⟩
  case round=>
   clear H';try clear p2
   try clear c4
   try clear c5
   try clear c6
   obtain⟨iJ,lI,rfl,HA,iM,jM,HB⟩:=hrel
   cases gk with
   |zero=>exact absurd HA.out (by simp[iq.l0])
   |succ k1=>
    have H:=HA.out;clear HA;simp only[iq.l0]at H;replace H:=sd H;rcases H with⟨qp,H⟩|⟨qp,H⟩
    ·replace H:=oL H;obtain⟨rV,H⟩:=H;replace H:=oL H;obtain⟨vI,H⟩:=H;replace H:=nn H;obtain⟨c10,H⟩:=H;have rW:=eq_true c10;have xk:=decide_eq_true c10;try have agG:(9223372036854775807<2+a1.size)=False:=eq_false (Nat.not_lt.2 c10)
     replace H:=sq H;rcases H with⟨yC,LZ,H⟩|⟨c11,yC,LZ,H⟩
     ·obtain⟨arz,amT⟩:=nm ([]:List ByteArray);rw[←amT.out]at H
      (try rw[Option.bind_some]at H);replace H:=nl H;obtain⟨aj_,H⟩:=H;obtain⟨aJY,auB⟩:=nm (iJ++[arz]);rw[←auB.out]at H
      (try rw[Option.bind_some]at H);have H':=ak H;clear H;have P8:=zi lI;have P9:=zj lI l0.length;obtain⟨amU,afB,BD⟩:=dY HR0.out lI P8 P9;cases afB;replace BD:=cl HB.out BD;replace P8:=eq_true P8;replace P9:=eq_true P9;go_wp2_with (first|((with_reducible refine bG (N:=39) rfl ?_);refine nD Kd.string _ 9 ?hg (N:=39) ?hd (xs:=([]:List ByteArray)) (inner:=[]) (ok:=fun _=>True) (oO:=fun _=>True) ?hr ?hp (fun _ hk=>hk) trivial (Below.refl _ _) (Nat.le_refl _) (by simp) ?_;(case hd=>rfl);(case hg=>rfl);(case hr=>first|(go_simp;done)|(go_simp;rfl));(case hp=>exact(iW.none _ _));intro aQC w13 ai_ hb oP gY;clear oP gY;(first|rw[←amT.out]at ai_|(simp only[Int.reduceToNat]at ai_;rw[←amT.out]at ai_));have ah3:=ak (bQ ai_ (aA (ul HB.out)));replace jM:=ak (qU (by(with_reducible repeat(first|apply Kd.dH|apply Kd.dI|apply Kd.eH));exact jM.out) (iO ai_) hb);replace HB:=bs HB hb;clear hb ai_;obtain⟨VZ,UC,aas⟩:=bW ah3.out;subst aas)|((with_reducible refine bM (b:= .append) (xs:=#[.tmp 38, .tmp 40]) rfl ?_);at_builtin;refine FC (Kd.slice 9 Kd.string) (w0:=w) w.heap.size rfl (.tmp 38) (.tmp 40) 74 23 (.slice none 0 0) 24 rfl underlying74 info23 rfl (by decide) (by omega) u6 iJ arz [.slice VZ arz.length UC] (fun _=>True) (fun k_=>some k_=(.slice VZ arz.length UC:Value).ownBlock) rfl rfl ?aP (fun k_ hk_=>((aK (ok':=fun k_=>((fun _=>True)) k_∧some k_≠(u6:Value).ownBlock) (qo (ah3.out) (tK jM.out) (by decide)) (fun k_ hk=>⟨trivial,hk.2⟩))).1 k_ hk_.symm) ?aF ?aO ?aB ?aS ?aL ?_;(case aP=>exact X4 (aK (y9 rfl (aK (ok':=fun k_=>((fun _=>True)) k_∧some k_≠(u6:Value).ownBlock) (qo (ah3.out) (tK jM.out) (by decide)) (fun k_ hk=>⟨trivial,hk.2⟩))) (fun _ h_=>h_)));(case aB=>exact(ul HB.out));(case aF=>exact(fun _ _=>trivial));(case aO=>exact(by(with_reducible repeat(first|apply Kd.dH|apply Kd.dI|apply Kd.eH));exact jA jM.out (fun k_ hk=>⟨trivial,fun e_=>hk.2 e_⟩)));(case aS=>exact(aA (ul HB.out)));(case aL=>have:=aj_.out;omega);intro aQD w15 ho hb hg hat;rw[←auB.out]at ho;have iE:=ak (hb);have iF:=ak (ho);clear HB;clear jM;clear ah3;have HB:=iE;have aCQ:=iF;clear iE iF;clear ho hb hg hat))
      go_roundg k1
      case measure=>have:=iM.out;omega
      case rel=>exact⟨(aJY),(wrap64 (lI+1)),rs,H',⟨by have:=iM.out;omega⟩,⟨by(with_reducible repeat(first|apply Kd.dH|apply Kd.dI|apply Kd.eH));exact aCQ.out⟩,⟨ul HB.out⟩⟩
     ·replace H:=sp H;rcases H with⟨c17,H⟩|⟨c17,H⟩
      ·have uz:=beq_iff_eq.mpr c17;have Md:=bne_eq_false_iff_eq.mpr c17;clear c17;have H':=ak H;clear H;have P8:=zi lI;have P9:=zj lI l0.length;obtain⟨amU,afB,BD⟩:=dY HR0.out lI P8 P9;cases afB;replace BD:=cl HB.out BD;replace P8:=eq_true P8;replace P9:=eq_true P9;obtain⟨O7,O8,ajS⟩:=qm jM.out;subst ajS;go_wp2;go_roundg k1
       case measure=>have:=iM.out;omega
       case rel=>exact⟨(iJ),(wrap64 (lI+1)),rs,H',⟨by have:=iM.out;omega⟩,⟨by(with_reducible repeat(first|apply Kd.dH|apply Kd.dI|apply Kd.eH));exact jM.out⟩,⟨ul HB.out⟩⟩
      ·have uz:=beq_eq_false_iff_ne.mpr c17;have Md:=bne_iff_ne.mpr c17;have aM3:¬(iJ=[]):=fun h_=>c17 (by rw[h_];rfl)
       replace H:=nn H;obtain⟨c19,H⟩:=H;have Dh:=eq_true c19;have FY:=decide_eq_true c19;try have aM4:(9223372036854775807<2+a1.size+2)=False:=by have h_:=(eq_false (Nat.not_lt.2 c19):(9223372036854775807<((⟨#[45,45]⟩:ByteArray)++a1).size+2)=False);simp only[ByteArray.size_append]at h_;exact h_
       try have aAj:(9223372036854775807<((⟨#[45,45]⟩:ByteArray)++a1).size+2)=False:=eq_false (Nat.not_lt.2 c19)
       replace H:=sq H;rcases H with⟨VA,Xz,H⟩|⟨c20,VA,Xz,H⟩
       ·simp only[Option.some.injEq,Prod.mk.injEq]at H;obtain⟨rfl,rfl⟩:=H;have P8:=zi lI;have P9:=zj lI l0.length;obtain⟨amU,afB,BD⟩:=dY HR0.out lI P8 P9;cases afB;replace BD:=cl HB.out BD;replace P8:=eq_true P8;replace P9:=eq_true P9;obtain⟨Xw,Xx,ajT⟩:=qm jM.out;subst ajT;go_wp2;go_ret2;exact⟨_,er,by(with_reducible repeat(first|apply Kd.dH|apply Kd.dI|apply Kd.eH));exact jM.out,ul HB.out⟩
       ·obtain⟨CO,amV⟩:∃j_:Int,(wrap64 ((iJ.length:Int)-1))=j_:=⟨_,rfl⟩
        replace H:(if 0≤(CO)then(if(CO)<(iJ.length:Int)then(if(kM iJ (CO)).length<8796093022208 then(iq.l0 k1 a1 (iJ.set ((CO):Int).toNat ((kM iJ (CO))++[f_ ByteArray.empty l0 lI])) l0 (l0.length:Int) (wrap64 (lI+1)))else(none))else(none))else(none))=some (r1,r2):=by first|(rw[amV]at H;exact H)|(simp only[amV]at H⊢;exact H)
        have aJZ:(IntKind.i64.wrap ((iJ.length:Int)-1))=CO:=(bf _).trans amV;replace H:=oL H;obtain⟨L8,H⟩:=H;replace H:=oL H;obtain⟨QB,H⟩:=H;replace H:=nl H;obtain⟨acP,H⟩:=H;obtain⟨arA,auC⟩:=nm ((kM iJ (CO))++[f_ ByteArray.empty l0 lI]);rw[←auC.out]at H
        (try rw[Option.bind_some]at H);obtain⟨aCR,auD⟩:=nm (iJ.set ((CO):Int).toNat arA);rw[←auD.out]at H
        (try rw[Option.bind_some]at H);have H':=ak H;clear H;have P8:=zi lI;have P9:=zj lI l0.length;obtain⟨amU,afB,BD⟩:=dY HR0.out lI P8 P9;cases afB;replace BD:=cl HB.out BD;replace P8:=eq_true P8;replace P9:=eq_true P9;obtain⟨aQE,aJ0,aJ1⟩:=qm jM.out;subst aJ1;have arB:=zi (CO);have arC:=zj (CO) iJ.length;obtain⟨aM5,amW,amX,aJ2,abU,ah4,ah5⟩:=FB (lT jM.out).2.2 (CO) arB arC;cases aJ2;obtain⟨aM6,axQ,axR,amY⟩:=ac6 jM.out [] (CO) arB (by first|exact arC|exact of_decide_eq_true (by assumption)|(have e_:=(lT jM.out).1;omega));obtain⟨aF7,rfl,abV⟩:=axR;have Tc:=amY 0 _ rfl;rw[Nat.add_zero,show((Kd.slice 9 Kd.string)).sz=1 from rfl,Nat.mul_one]at Tc;replace Tc:=Option.some.inj (Tc.symm.trans abU);rw[Tc]at abV;have arD:=ak (show Kd.R Kd.string 9 _ _ _ _ (kM iJ (CO))from abV);clear Tc abV;have arE:=ak abU;clear amY axQ;have aF8:=ak ah5;have aF9:=ak ah4;clear ah5 ah4;replace arB:=eq_true arB;replace arC:=eq_true arC;obtain⟨axS,avY,ao8,aCS,aJ3,aQF,aCT⟩:=amZ jM.out (by have h_:((CO):Int)<((iJ.length:Int):Int):=of_decide_eq_true (by assumption);have h2_:0≤((CO):Int):=(of_decide_eq_true (by assumption));omega)
        (first|cases ao8|(injection ao8 with LP en_ ec_;(first|subst LP|(injection LP with LP;subst LP));subst ec_;clear en_));have aJ4:=ak aCS;have aQG:=ak aCT;clear aCS aJ3 aCT
        (first|simp only[add_plain]at abU|skip);obtain⟨auE,aQH,aCU,aJ5,auF,_,_,aCV⟩:=axT jM.out [] ((CO):Int) (of_decide_eq_true (by assumption)) (by have h_:((CO):Int)<((iJ.length:Int):Int):=of_decide_eq_true (by assumption);first|exact h_|(have e_:=(lT jM.out).1;omega)|simpa using h_);obtain⟨aJ6,rfl,am0⟩:=aJ5;have hv28:=auF 0 _ rfl;have axU:=arE.out
        (try simp only[add_plain]at axU)
        (try simp only[Nat.add_zero]at hv28)
        (try rw[show((Kd.slice 9 Kd.string)).sz=1 from rfl,Nat.mul_one]at hv28);replace hv28:=Option.some.inj (hv28.symm.trans axU);subst hv28;clear axU auF aCU;have axV:=ak (show Kd.R Kd.string 9 _ w.heap.size auE (.slice amW (kM iJ (CO)).length amX) (kM iJ (CO))from am0);have afC:=ak aCV;have axW:=ak (lT jM.out).1;clear aCV am0;go_wp2_with (first|((with_reducible refine bM (b:= .append) (xs:=#[.tmp 28, .tmp 30]) rfl ?_);at_builtin;refine iT Kd.string (w0:=w) w.heap.size rfl (.tmp 28) (.tmp 30) 23 9 (.string ⟨#[]⟩) 16 rfl underlying23 info9 rfl (by decide) (by omega) (.slice amW (kM iJ (CO)).length amX) (kM iJ (CO)) (f_ ByteArray.empty l0 lI) [.string (f_ ByteArray.empty l0 lI)] (fun k_=>auE k_∨((fun _=>True)) k_∧wr.heap.size≤k_) (fun _=>False) rfl rfl ?aP (fun _ hk=>hk.elim) ?aF ?aO ?aB ?aS ?aL ?_;(case aP=>exact rfl);(case aB=>exact(ul HB.out));(case aF=>exact(fun k_ hk=> .inr ⟨trivial,hk⟩));(case aO=>exact(ur (aK axV.out (fun _ hk=> .inl hk))));(case aS=>exact(aA (ul HB.out)));(case aL=>have:=acP.out;omega);intro aQI w29 ho hb hg hat;rw[←auC.out]at ho;have iE:=ak (hb);have iF:=ak (arF (arG (by repeat(first|exact afC.out|refine arH ?_ _|refine arI ?_ _|refine axX ?_))) hg (fun k_ e_=> .inl (axV.out.1 k_ e_)));have lD:=ak (ho);clear HB;clear afC;clear jM;clear axV;clear arD;have HB:=iE;have afC:=iF;have am1:=lD;clear iE iF lD;clear ho hb hg hat;have p26:0≤((CO):Int):=of_decide_eq_true (by assumption);have q26:((CO):Int)<((iJ.length:Int):Int):=of_decide_eq_true (by assumption);replace p26:=eq_true p26;replace q26:=eq_true q26;obtain⟨aCW,aCX,aJ7⟩:=bW am1.out;subst aJ7;obtain⟨_,_,axY,_,_,auG,_⟩:=am2 afC.out (of_decide_eq_true (by assumption)) (by have h_:((CO):Int)<((iJ.length:Int):Int):=of_decide_eq_true (by assumption);first|exact h_|(have e_:=(axW.out);omega)|simpa using h_);obtain⟨_,auH⟩:=aJ8 afC.out (of_decide_eq_true (by assumption)) (by have h_:((CO):Int)<((iJ.length:Int):Int):=of_decide_eq_true (by assumption);first|exact h_|(have e_:=(axW.out);omega)|simpa using h_);have am3:=auG 0 _ rfl;have am4:=auH 0;(try simp only[Nat.add_zero]at am3 am4);(try rw[show((Kd.slice 9 Kd.string)).sz=1 from rfl,Nat.mul_one]at am3);(try rw[show((Kd.slice 9 Kd.string)).sz=1 from rfl,Nat.mul_one]at am4);have arJ:=axZ afC.out (of_decide_eq_true (by assumption)) (by have h_:((CO):Int)<((iJ.length:Int):Int):=of_decide_eq_true (by assumption);first|exact h_|(have e_:=(axW.out);omega)|simpa using h_) (seg:=[.slice aCW arA.length aCX]) (j:=0) (show 1≤1 from by decide) (x':=arA) (X4 am1.out) (fun _ hk=>hk);(try simp only[show((Kd.slice 9 Kd.string)).sz=1 from rfl,Nat.mul_one,Nat.add_zero]at arJ);clear auG auH)|((with_reducible refine vT (t:=23) (p:=32) rfl ?_);refine tJ (t:=23) (p:=32) (v:=?aJ9) (w1:=(w29.setCell ⟨axS,((CO):Int).toNat,none⟩ (.slice aCW arA.length aCX))) ?hg ?ho ?hn ?hr ?_;(case ho=>rfl);(case hg=>rfl);(case hn=>rfl);(case hr=>first|(go_simp;done)|(go_simp;rfl));intro w31 hw;have hg:w29.grownBy w31 (some axS):=(by rw[hw];exact arJ.2);have Vu:Kd.S (Kd.slice 9 Kd.string) 23 w31 w.heap.size (fun _=>True) (.slice (some ⟨axS,0,none⟩) iJ.length aJ0) aCR:=(by rw[hw,auD.out];exact arJ.1);clear arJ;have iE:=ak ((by rw[hw];exact rH HB.out aJ4.out:Below w.heap.size w w31));have iF:=ak (Vu);clear HB;clear am1;clear afC;have HB:=iE;have jM:=iF;clear iE iF;clear hg hw Vu axY))
        go_roundg k1
        case measure=>have:=iM.out;omega
        case rel=>exact⟨(aCR),(wrap64 (lI+1)),rs,H',⟨by have:=iM.out;omega⟩,⟨by(with_reducible repeat(first|apply Kd.dH|apply Kd.dI|apply Kd.eH));exact jM.out⟩,⟨ul HB.out⟩⟩
    ·simp only[Option.some.injEq,Prod.mk.injEq]at H;obtain⟨rfl,rfl⟩:=H;go_wp2;go_ret2;exact⟨_,er,by first|exact MQ _ _ _ _ _|exact MS _ _ _ _ _|exact MV _ _ _ _ _|exact MW _ _ _ _ _|exact IE _ _ _ _ _,ul HB.out⟩
 ·simp only[Option.some.injEq,Prod.mk.injEq]at H;obtain⟨rfl,rfl⟩:=H;go_enter func52,ntmps52;go_wp2_with (first|(refine gL 67 10 func67 #[.string a1] ?_;(with_reducible refine(jG.calls k a1 false _ A3.out).mono ?_);rintro e w' ⟨rfl,⟨nd,rfl⟩⟩;refine⟨_,rfl,?_⟩))
  go_ret2;exact⟨_,er,by first|exact MQ _ _ _ _ _|exact MS _ _ _ _ _|exact MV _ _ _ _ _|exact MW _ _ _ _ _|exact IE _ _ _ _ _,ul HB.out⟩
end Go.Proofs.YtdimppdlfgnhgaaGreatDoor.PFnExactParsePart
