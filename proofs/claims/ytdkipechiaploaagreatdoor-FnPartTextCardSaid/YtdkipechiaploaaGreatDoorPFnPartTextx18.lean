/- Printed walks; conditions: those in each statement. -/
import Derived.Test.YtdkipechiaploaaGreatDoorVFnPartTextQt
import Derived.Test.YtdkipechiaploaaGreatDoorVFnPartTextYt
import Derived.Test.YtdkipechiaploaaGreatDoorPFnPartTextx0
import Derived.Test.YtdkipechiaploaaGreatDoorPFnPartTextx12
namespace Go.Proofs.YtdkipechiaploaaGreatDoor.PFnPartText
open Go.Proofs.YtdkipechiaploaaGreatDoorW.dZ.Kd Go.Proofs.YtdkipechiaploaaGreatDoorW.rW.Kd Go.Proofs.Tryz Go.RowKit Go.Proofs.YtdkipechiaploaaGreatDoor.X Go.Proofs.YtdkipechiaploaaGreatDoorW.dZ Go.Proofs.YtdkipechiaploaaGreatDoorW.nK Go.Proofs.YtdkipechiaploaaGreatDoorW.rW
attribute [local go_sem] BN BO Fb Fe zK zL BP BQ   -- for this text's walks alone
set_option linter.unusedVariables false
set_option maxHeartbeats 8000000
set_option maxRecDepth 100000
set_option linter.unusedSimpArgs false
mutual
def dD.l0:Nat→Bool→List ByteArray→Int→Int→ByteArray→ByteArray→List (eG)→Option (ByteArray×ByteArray×(List (eG))×Bool)
 |0,_,_,_,_,_,_,_=>none
 |k+1,x7,x37,x38,x39,JR,JU,Ic=>if x39<x38 then(if 0≤x39 then(if x39<(x37.length:Int)then((strings_Cut.f (iw ByteArray.empty x37 x39) (⟨#[61]⟩:ByteArray)).bind fun adn=>((dY.f k adn.2.1).bind fun ado=>(if adn.2.2=true then(if ado.2=true then(dD.j1 k x7 adn.1 ado.1 x37 x38 x39 ((ado.1.length:Int) !=1) JR JU Ic)else(dD.j1 k x7 adn.1 ado.1 x37 x38 x39 true JR JU Ic))else(dD.j1 k x7 adn.1 ado.1 x37 x38 x39 true JR JU Ic))))else(none))else(none))else(if x7=true then((eF.f k JR JU Ic).bind fun aCD=>(if aCD=true then(some (JR,JU,Ic,true))else(some ((⟨#[]⟩:ByteArray),(⟨#[]⟩:ByteArray),([]:List (eG)),false))))else(some ((⟨#[]⟩:ByteArray),(⟨#[]⟩:ByteArray),([]:List (eG)),false)))
def dD.j1:Nat→Bool→ByteArray→List ByteArray→List ByteArray→Int→Int→Bool→ByteArray→ByteArray→List (eG)→Option (ByteArray×ByteArray×(List (eG))×Bool)
 |0,_,_,_,_,_,_,_,_,_,_=>none
 |k+1,x7,x11,x14,x37,x38,x39,x64,JR,JU,Ic=>if x64=true then(some ((⟨#[]⟩:ByteArray),(⟨#[]⟩:ByteArray),([]:List (eG)),false))else((lq.f x11 (⟨#[32]⟩:ByteArray)).bind fun aw5=>((jJ.f aw5).bind fun ajt=>(if 0<(x14.length:Int)then(if Ic.length<4398046511104 then(dD.l0 k x7 x37 x38 (wrap64 (x39+1)) JR JU (Ic++[(⟨ajt,iw ByteArray.empty x14 0⟩:eG)]))else(none))else(none))))
end
def dD.f(k:Nat)(a0:ByteArray):Option (ByteArray×ByteArray×(List (eG))×Bool):=(bC.f k a0).bind fun aCE=>(if aCE=true then((iQ.f k a0 59).bind fun L6=>(if 0<(L6.length:Int)then((lq.f (iw ByteArray.empty L6 0) (⟨#[32]⟩:ByteArray)).bind fun aCF=>((strings_Cut.f aCF (⟨#[47]⟩:ByteArray)).bind fun aly=>((jJ.f aly.1).bind fun V3=>((jJ.f aly.2.1).bind fun V4=>(if 1≤(L6.length:Int)then((some (L6.drop 1:List ByteArray)).bind fun JV=>(dD.l0 k aly.2.2 JV (JV.length:Int) 0 V3 V4 ([]:List (eG))))else(none))))))else(none)))else(some ((⟨#[]⟩:ByteArray),(⟨#[]⟩:ByteArray),([]:List (eG)),false)))
def dD.T13:Bool×List (List Nat×List Nat):=(true,[([],[]),([0],[0]),([],[]),([2],[2]),([3,3],[3]),([],[]),([5],[5]),([6],[6]),([4,7],[4,7]),([8],[8]),([1,9,4],[1,9]),([0,1,2,3,4,5,6,7,8,9,10],[]),([11,10,10,0,1,2,3,4,5,6,7,8,9,10],[10,11])])
def dD.B13:List Nat:=[0,1,0,4,12,0,32,96,252,508,1023,2047,4095]
theorem dD.alz:zM .any (opsOf Tryz.f48 13)=dD.T13:=by kernel_rfl
theorem dD.afd:wF dD.T13.2 dD.B13=true:=by kernel_rfl
theorem dD.calls{k:Nat}{a0 r1 r2:ByteArray}{r3:List (eG)}{r4:Bool}{w:World}(Bj:MaxOk w)(h:dD.f k a0=some (r1,r2,r3,r4)):
  Calls Tryz.prog 48 #[.string a0] w fun e w'=>∃EN:Value,e= .returned (.tuple #[.agg #[.string r1, .string r2,EN], .bool r4])∧Kd.R o9 43 w' w.heap.size (fun _=>True) EN r3∧Below w.heap.size w w':=by
 have adh:=underlying76;have F7:=underlying43;have HG:=ak Bj;clear Bj;have HB:=ak (Below.refl w.heap.size w);unfold dD.f at h;have H:=h;clear h;replace H:=bd H;obtain⟨aCE,A2,H⟩:=H;replace H:=sb H;rcases H with⟨rfl,H⟩|⟨rfl,H⟩
 ·replace H:=bd H;obtain⟨L6,A4,H⟩:=H;replace H:=nn H;obtain⟨c5,H⟩:=H;have mV:=decide_eq_true c5;have PW:decide (0<L6.length)=true:=decide_eq_true (by omega);clear c5;replace H:=bd H;obtain⟨aCF,A6,H⟩:=H;replace H:=bd H;obtain⟨⟨aUd,aUe,aCG⟩,A7,H⟩:=H
  (try dsimp only at H);replace H:=bd H;obtain⟨V3,A8,H⟩:=H;replace H:=bd H;obtain⟨V4,A9,H⟩:=H;replace H:=AL H;obtain⟨qg,uN,H⟩:=H;replace H:=ny H;obtain⟨JV,atn,H⟩:=H;have H':=ak H;clear H;go_enter func48,ntmps48;go_wp2_with (first|(refine gG 2 ?_;refine bX HB 2 #[.string (⟨#[]⟩:ByteArray), .string (⟨#[]⟩:ByteArray), .slice none 0 0] 76 ?_;intro Jq ZH nN aCH hb;replace HB:=bs HB hb;clear hb)|(refine gD func52 (bC.calls A2.out) ?_;intro ZH hb;replace nN:=kb nN hb;replace HB:=bz HB hb;clear hb)|(refine gV func77 (iQ.calls A4.out) ?_;rintro aUf w12 ⟨ho0,hb⟩;have Ea:=ak (au ho0 (aj bb));replace nN:=kb nN hb;replace HB:=bz HB hb;clear hb;(try clear ho0);obtain⟨Hg,AP,LC⟩:=aC Ea.out;subst LC;have alA:0≤(0:Int):=(by omega);have alB:0<(L6.length:Int):=of_decide_eq_true (by assumption);obtain⟨adp,aK3,WM⟩:=bZ (aA Ea.out).2.2 0 alA alB;cases aK3;have aO8:(0<L6.length)=True:=eq_true (by omega);(try rw[show((0:Int)).toNat=0 from rfl]at WM);(try rw[Addr.add_zero']at WM);replace alA:=eq_true alA;replace alB:=eq_true alB)|(refine gD func67 (lq.calls A6.out) ?_;intro w12 hb;replace Ea:=rb Ea hb;replace nN:=kb nN hb;replace HB:=bz HB hb;clear hb)|(refine gD func66 (strings_Cut.calls ?dR A7.out) ?_;(case dR=>first|exact HG.out|exact MaxOk.below HG.out bb|(repeat(first|exact HG.out|apply MaxOk.drewN|apply MaxOk.drew)));intro w12 hb;replace Ea:=rb Ea hb;replace nN:=kb nN hb;replace HB:=bz HB hb;clear hb)|(refine gB func78 (jJ.calls A8.out) ?_;intro Xg hb;replace Ea:=rb Ea hb;replace nN:=kb nN hb;replace HB:=bz HB hb;clear hb)|(refine gB func78 (jJ.calls A9.out) ?_;intro w15 hb;replace Ea:=rb Ea hb;replace nN:=kb nN hb;replace HB:=bz HB hb;clear hb)|(refine gG 8 ?_;refine bY HB 8 #[.string (⟨#[]⟩:ByteArray), .string (⟨#[]⟩:ByteArray), .slice none 0 0] 76 ?_;intro Cb w16 pF aO9 hg hb;have FP:=yQ nN hg;have FQ:=yR nN hg;replace Ea:=rb Ea hb;replace nN:=kb nN hb;replace HB:=bz HB hb;clear hb hg;have ato:=FQ.out;have atp:=FP.out;have z18:=iZ pF.out)|((with_reducible refine Du (t:=76) (p:=8) rfl ?_);refine Bl (t:=76) (p:=8) (v:=?aK4) (w1:=(((w16.setCell ⟨Cb,0,none⟩ (.string V3)).setCell ⟨Cb,1,none⟩ (.string V4)).setCell ⟨Cb,2,none⟩ (.slice none 0 0))) ?hg ?ho ?hn ?hr ?_;(case ho=>rfl);(case hg=>rfl);(case hn=>rfl);(case hr=>first|(go_simp;done)|(go_simp;rfl));intro w19 hw;have Am:ah (Kd.R Kd.string 9 w19 w.heap.size (fun _=>True) (.slice (some adp) L6.length AP) L6):=⟨(by rw[hw];exact(ur (aG (b_ (p:=⟨Cb,2,none⟩) (b_ (p:=⟨Cb,1,none⟩) (b_ (p:=⟨Cb,0,none⟩) (jk Ea.out pF.out (by decide)) (fun _ hk=>hk.2) (.string V3)) (fun _ hk=>hk.2) (.string V4)) (fun _ hk=>hk.2) (.slice none 0 0)) (fun _ hk=>trivial))))⟩;have Ap:ah (w19.heap[Jq]? =some (.cells #[.string (⟨#[]⟩:ByteArray), .string (⟨#[]⟩:ByteArray), .slice none 0 0] 76 (0,0))):=⟨(by rw[hw];exact bq)⟩;have BX:ah (w19.heap[Cb]? =some (.cells #[.string V3, .string V4, .slice none 0 0] 76 (0,0))):=⟨(by rw[hw];exact bq)⟩;have EO:ah (Below w.heap.size w w19):=⟨(by rw[hw];exact bb)⟩;clear hw;clear Ea;clear nN;clear pF;clear HB;have Ea:=Am;have nN:=Ap;have pF:=BX;have HB:=EO;clear Am Ap BX EO;have q20:(1:Int)≤((L6.length:Int):Int):=of_decide_eq_true (by assumption);obtain⟨aK5,adq,_,adr,_⟩:=info_parts info9;have WO:L6.length≤AP:=(aA Ea.out).2.1;have alC:Kd.F Kd.string _ _ (some adp) L6.length L6:=(aqJ (base:=w.heap.size) (Kd.R_V (jk (jk (Ea.out) nN.out (by decide)) pF.out (by decide)))).2.2;have alD:=alE (P:=Tryz.prog) 24 9 .i64 underlying24 adq 1 adr (some adp) L6.length AP 1 (by omega) q20;have alF:=aCI (m:=(1:Int).toNat) (c:=AP) alC (by omega) WO;obtain⟨A20,hA20⟩:∃A1,A1=(if AP=(1:Int).toNat then(some adp)else((some adp):Option Addr).map (·.add ((1:Int).toNat*1))):=⟨_,rfl⟩;obtain⟨c20,aqK⟩:∃c1,c1=AP-(1:Int).toNat:=⟨_,rfl⟩;have alG:JV.length=L6.length-(1:Int).toNat:=(by rw[atn.out,List.length_drop]<;>omega);rw[show(L6).drop (1:Int).toNat=JV from atn.out.symm]at alF;replace alF:Kd.F Kd.string _ _ A20 JV.length JV:=(by rw[hA20];exact alF);rw[←alG,←hA20,←aqK]at alD;have aCJ:=ak (show Kd.V Kd.string 9 _ w.heap.size _ (.slice A20 JV.length c20) JV from aK6 (by rw[alG,aqK];exact Nat.sub_le_sub_right WO _) alF);have aO_:=ak (show JV.length≤c20 from by rw[alG,aqK];exact Nat.sub_le_sub_right WO _);clear alF alC WO adq adr aqK;have aUg:=ak alG;have aUh:=ak hA20;clear alG hA20;replace q20:=eq_true q20))
  go_loopg [39] k (fun kq v39 w'=>∃(Xy:Int) (Oi:ByteArray) (Oj:ByteArray) (Bo:List (eG)) (Cc:Value),v39= .int .i64 Xy∧ah (dD.l0 kq aCG JV (JV.length:Int) Xy V3 V4 Bo=some (r1,r2,r3,r4))∧ah (kq≤k)∧ah (Kd.V Kd.string 9 w' w.heap.size (fun k_=>some k_≠(Cc:Value).ownBlock∧k_≠Jq∧k_≠Cb) (.slice A20 JV.length c20) JV)∧ah (Kd.R o9 43 w' w.heap.size (fun _=>True) Cc Bo)∧ah (w'.heap[Jq]? =some (.cells #[.string Oi, .string Oj,(.slice none 0 0)] 76 (0,0)))∧ah (w'.heap[Cb]? =some (.cells #[.string V3, .string V4,Cc] 76 (0,0)))∧ah (Below w.heap.size w w'))
  case atStart=>exact⟨_,_,_,_,_,rs,H',⟨Nat.le_refl _⟩,⟨by(with_reducible repeat(first|apply Kd.Ol|apply JW|apply L8));exact PX aCJ.out (fun _ hk=>⟨(by simp[Value.ownBlock]),⟨hk.1.2,hk.2⟩⟩)⟩,⟨nx⟩,⟨ub nN.out⟩,⟨ub pF.out⟩,⟨bb⟩⟩
  case round=>
   clear H';try clear c1
   try clear c5
   try clear mV
   try clear PW
   try clear qg
   try clear uN
   try clear c20
   try clear q20
   try clear WM
   try clear alA
   try clear q20
   try clear alB
   obtain⟨Xy,Oi,Oj,Bo,Cc,rfl,HA,y5,Bq,kP,nN,pF,HB⟩:=hrel
   cases gk with
   |zero=>exact zz HA.out
   |succ k1=>
    obtain⟨H⟩:=HA;simp only[dD.l0]at H;replace H:=sd H;rcases H with⟨EW,H⟩|⟨EW,H⟩
    ·replace H:=nO H;obtain⟨H9,H⟩:=H;replace H:=nO H;obtain⟨EP,H⟩:=H;replace H:=bd H;obtain⟨⟨aCK,aUi,aUj⟩,A24,H⟩:=H
     (try dsimp only at H);replace H:=bd H;obtain⟨⟨Xz,aUk⟩,A25,H⟩:=H
     (try dsimp only at H);have aw6:=ak H;clear H;have aqL:=zi Xy;have aqM:=zj Xy JV.length;obtain⟨aCL,aK7,aqN⟩:=bZ (alH Bq.out).2.2 Xy aqL aqM;cases aK7;replace aqL:=eq_true aqL;replace aqM:=eq_true aqM;go_upto_region 11 with(first|(refine gA func66 (strings_Cut.calls ?dR A24.out) ?_;(case dR=>first|exact HG.out|exact MaxOk.below HG.out bb|(repeat(first|exact HG.out|apply MaxOk.drewN|apply MaxOk.drew)));intro nd)|(refine gV func79 (dY.calls A25.out) ?_;rintro aCM w27 ⟨ho0,hb⟩;have ahB:=ak (au ho0 (aj bb));replace Bq:=ak (alI (by(with_reducible repeat(first|apply Kd.Ol|apply JW|apply L8));exact Bq.out) (bK ho0) hb);replace kP:=rb kP hb;replace nN:=kb nN hb;replace pF:=kb pF hb;replace HB:=bz HB hb;clear hb;(try clear ho0)))
     (try simp only[Act.put,yX,yY,l_c]);go_cut [64] (fun v64 wc=>∃(kq:Nat) (afe:Bool),v64= .bool afe∧ah (dD.j1 kq aCG aCK Xz JV (JV.length:Int) Xy afe V3 V4 Bo=some (r1,r2,r3,r4))∧ah (kq≤k1)∧ah (Kd.R Kd.string 9 wc w.heap.size (fun _=>True) aCM Xz)∧ah (Kd.V Kd.string 9 wc w.heap.size (fun k_=>some k_≠(aCM:Value).ownBlock∧some k_≠(Cc:Value).ownBlock∧k_≠Jq∧k_≠Cb) (.slice (some aCL) JV.length c20) JV)∧ah (Kd.R o9 43 wc w.heap.size (fun _=>True) Cc Bo)∧ah (wc.heap[Jq]? =some (.cells #[.string Oi, .string Oj,(.slice none 0 0)] 76 (0,0)))∧ah (wc.heap[Cb]? =some (.cells #[.string V3, .string V4,Cc] 76 (0,0)))∧ah (Below w.heap.size w wc))
     case first=>
      have H:=aw6.out;clear aw6;replace H:=sb H;rcases H with⟨rfl,H⟩|⟨rfl,H⟩
      ·replace H:=sb H;rcases H with⟨rfl,H⟩|⟨rfl,H⟩
       ·have H':=ak H;clear H;obtain⟨aqO,aqP,ads⟩:=aC ahB.out;subst ads;go_wp2;go_meet
        case rel=>exact⟨_,_,rs,H',⟨kl⟩,⟨ur ahB.out⟩,⟨by(with_reducible repeat(first|apply Kd.Ol|apply JW|apply L8));exact PX Bq.out (fun _ hk=>⟨hk.2,⟨hk.1.1,⟨hk.1.2.1,hk.1.2.2⟩⟩⟩)⟩,⟨ur kP.out⟩,⟨ub nN.out⟩,⟨ub pF.out⟩,⟨bb⟩⟩
       ·have H':=ak H;clear H;go_wp2;go_meet
        case rel=>exact⟨_,_,rs,H',⟨kl⟩,⟨ur ahB.out⟩,⟨by(with_reducible repeat(first|apply Kd.Ol|apply JW|apply L8));exact PX Bq.out (fun _ hk=>⟨hk.2,⟨hk.1.1,⟨hk.1.2.1,hk.1.2.2⟩⟩⟩)⟩,⟨ur kP.out⟩,⟨ub nN.out⟩,⟨ub pF.out⟩,⟨bb⟩⟩
      ·have H':=ak H;clear H;go_wp2;go_meet
       case rel=>exact⟨_,_,rs,H',⟨kl⟩,⟨ur ahB.out⟩,⟨by(with_reducible repeat(first|apply Kd.Ol|apply JW|apply L8));exact PX Bq.out (fun _ hk=>⟨hk.2,⟨hk.1.1,⟨hk.1.2.1,hk.1.2.2⟩⟩⟩)⟩,⟨ur kP.out⟩,⟨ub nN.out⟩,⟨ub pF.out⟩,⟨bb⟩⟩
     case rest=>
      clear aw6;try clear c1
      try clear c5
      try clear mV
      try clear PW
      try clear qg
      try clear uN
      try clear c20
      try clear q20
      try clear EW
      try clear H9
      try clear EP
      try clear WM
      try clear aqN
      try clear alA
      try clear aqL
      try clear q20
      try clear alB
      try clear aqM
      obtain⟨kq,afe,rfl,HA,aCN,O_,Bq,kP,nN,pF,HB⟩:=hcut
      cases kq with
      |zero=>exact zz HA.out
      |succ aK8=>
       obtain⟨H⟩:=HA;simp only[dD.j1]at H;replace H:=sb H;rcases H with⟨rfl,H⟩|⟨rfl,H⟩
       ·obtain⟨rfl,rfl,rfl,rfl⟩:=s4 H;have atq:=FP.out;have atr:=FQ.out;have z33:=iZ nN.out;go_wp2;refine bodyPost_ret (fV rfl _ _ Jq 76 #[.string (⟨#[]⟩:ByteArray), .string (⟨#[]⟩:ByteArray), .slice none 0 0] (0,0) _ rfl bq underlying76 rfl (by kernel_rfl)) rfl ?_;exact⟨_,er,nx,bb⟩
       ·replace H:=bd H;obtain⟨aw5,A34,H⟩:=H;replace H:=bd H;obtain⟨ajt,A35,H⟩:=H;replace H:=nn H;obtain⟨c36,H⟩:=H;have alf:=decide_eq_true c36;have aCu:decide (0<Xz.length)=true:=decide_eq_true (by omega);clear c36;replace H:=nl H;obtain⟨alJ,H⟩:=H;obtain⟨aK9,att⟩:=nm (Bo++[(⟨ajt,iw ByteArray.empty Xz 0⟩:eG)]);rw[←att.out]at H;have H':=ak H;clear H;try go_wp2
        replace O_:=ak (nI O_.out);replace Bq:=ak (L8 Bq.out);replace kP:=ak (nI kP.out);replace nN:=ak (jI nN.out);replace pF:=ak (jI pF.out);replace HB:=ak (iE HB.out);obtain⟨aw7,aqQ,aff⟩:=aC O_.out
        (first|subst aff|(injection aff with tY Ad tZ;have Ae:=tY.symm;have Af:=tZ.symm;clear tY Ad tZ;subst Ae;subst Af));have aw8:0≤(0:Int):=(by omega)
        have aw9:0<(Xz.length:Int):=of_decide_eq_true (by assumption);obtain⟨atu,aK_,WQ⟩:=bZ (aA O_.out).2.2 0 aw8 aw9;cases aK_;have aPa:(0<Xz.length)=True:=eq_true (by omega)
        (try rw[show((0:Int)).toNat=0 from rfl]at WQ)
        (try rw[Addr.add_zero']at WQ);replace aw8:=eq_true aw8;replace aw9:=eq_true aw9;refine Eu (n:=13) (S:=fun w'=>w'.cell? ⟨Cb,0,none⟩=some (.string V3)∧w'.cell? ⟨Cb,1,none⟩=some (.string V4)∧w'.cell? ⟨Cb,2,none⟩=some (Cc)∧w'.cell? atu=some (.string (iw ByteArray.empty Xz 0))) (ds:=[10,12]) #[false,false,false,false,false,false,false,false,false,false,false,false,false] (by kernel_rfl) rfl rfl ⟨(aH pF.out 0).trans rfl,(aH pF.out 1).trans rfl,(aH pF.out 2).trans rfl,WQ⟩ (fun hHeld=>?_);refine wG dD.alz dD.afd (fun Jk HW_=>?_)
        generalize wc.drew=w38 at O_ Bq kP nN pF HB WQ hHeld⊢
        refine pl 0 ?_;refine pl 2 ?_;refine pl 5 ?_;refine pl 6 ?_;refine tk 1 ?_;refine tk 7 ?_;refine o1 3 (fun K hK=>?_);refine Bh func67 (by kernel_rfl) rfl #[.string aCK, .string (⟨#[32]⟩:ByteArray)] (by rfl) rfl rfl ma ?_
        with_reducible refine(lq.calls A34.out).mono ?_
        rintro e w' ⟨rfl,⟨nd,rfl⟩⟩;refine⟨_,rfl,?_⟩;refine hK.out _ _ ⟨(aH pF.out 0).trans rfl,(aH pF.out 1).trans rfl,(aH pF.out 2).trans rfl,hHeld.2.2.2⟩ (fun hHeld=>?_);clear hK K;refine nrm ?_;refine o1 4 (fun K hK=>?_);refine Bh func78 (by kernel_rfl) rfl #[.string aw5] (by rfl) rfl rfl ma ?_
        with_reducible refine(jJ.calls A35.out).mono ?_
        rintro e w40 ⟨rfl,hb⟩;have aw_:=(hb.cell (World.block_lt_of_cell? _ _ (hHeld.2.2.2))).trans (hHeld.2.2.2);refine⟨_,rfl,?_⟩;replace O_:=rb O_ hb;replace Bq:=vb Bq hb;replace kP:=rb kP hb;replace nN:=kb nN hb;replace pF:=kb pF hb;replace HB:=bz HB hb;try clear hb
        refine hK.out _ _ ⟨(aH pF.out 0).trans rfl,(aH pF.out 1).trans rfl,(aH pF.out 2).trans rfl,aw_⟩ (fun hHeld=>?_);clear hK K;refine nrm ?_;refine pl 8 ?_;refine o1 9 (fun K hK=>?_);refine IV (w1:=?_) (v:=?_) (by rfl) rfl ?_ ?_
        rotate_left 2
        ·go_simp;constructor
         ·rfl
         ·rfl
        refine hK.out _ _ ⟨(aH (jP pF.out _) 0).trans rfl,(aH (jP pF.out _) 1).trans rfl,(aH (jP pF.out _) 2).trans rfl,(World.cell?_alloc_lt _ _ _ (World.block_lt_of_cell? _ _ (hHeld.2.2.2))).trans (hHeld.2.2.2)⟩ (fun hHeld=>?_);clear hK K;refine nrm ?_;refine O6 (i:=10) (N:=some 76) #[true,true,true,true,true,true,true,true,true,true,true,false,false] rfl rfl (F6 Jk.out (by kernel_rfl)) (by decide) (fun K hK=>?_);refine qH o9 (w0:=w) w.heap.size (by rfl) (.tmp 67) (.tmp 75) 23 43 (.agg #[(.string ⟨#[]⟩),(.string ⟨#[]⟩)]) 32 rfl underlying23 Dn rfl (by decide) (by omega) Cc Bo (⟨ajt,iw ByteArray.empty Xz 0⟩:eG) [.string ajt, .string (iw ByteArray.empty Xz 0)] (fun _=>True) (fun _=>False) rfl rfl ?aP (fun _ hk=>hk.elim) ?aF ?aO ?aB ?aS ?aL ?_
        (case aP=>exact wE _ _ _ (⟨ajt,iw ByteArray.empty Xz 0⟩:eG))
        (case aB=>exact bb)
        (case aF=>exact(fun _ _=>trivial))
        (case aO=>exact(ur kP.out))
        (case aS=>exact(aj bb))
        (case aL=>have:=alJ.out;omega);intro aUl w41 ho hb hg hat
        rw[←att.out]at ho;have Am:=ak (oO (ur O_.out) (jA (ur kP.out)) (by decide) hg);have Ap:=ak (alK (ok:=(fun k_=>some k_≠(.slice (some atu) Xz.length aqQ:Value).ownBlock∧k_≠Jq∧k_≠Cb)) (by(with_reducible repeat(first|apply Kd.Ol|apply JW|apply L8));exact PX Bq.out (fun _ hk=>⟨⟨hk.1,⟨hk.2.2.1,hk.2.2.2⟩⟩,hk.2.1⟩)) hg hat);have BX:=ak (bJ (g:=Jq) (o:= .cells #[.string Oi, .string Oj, .slice none 0 0] 76 (0,0)) (ub nN.out) hg (rM kP.out nN.out (by decide)));have EO:=ak (bJ (g:=Cb) (o:= .cells #[.string V3, .string V4,Cc] 76 (0,0)) (ub pF.out) hg (rM kP.out pF.out (by decide)));have Jl:=ak (hb);have KF:=ak (ho);clear O_ Bq nN pF HB kP;have O_:=Am;have Bq:=Ap;have nN:=BX;have pF:=EO;have HB:=Jl;have aCO:=KF;clear Am Ap BX EO Jl KF ho hb hg hat
        obtain⟨Jr,Hq,abn⟩:=aC aCO.out
        (first|subst abn|(injection abn with tY Ad tZ;have Ae:=tY.symm;have Af:=tZ.symm;clear tY Ad tZ;subst Ae;subst Af));refine hK.out _ _ ?_;clear hK K;refine FX (a':=?_) ?_ ?_
        rotate_left
        ·show Act.put _ (some 76) _=_
         simp only[Act.put,yX,yY,l_c,ig,jO];rfl
        refine pl 11 ?_;refine O6 (i:=12) (N:=none) #[true,true,true,true,true,true,true,true,true,true,true,true,true] rfl rfl (F6 Jk.out (by kernel_rfl)) (by decide) (fun K hK=>?_);have aLa:w41.cell? ⟨Cb,2,none⟩=some (Cc):=(aH pF.out 2).trans rfl;have aCP:=eu pF.out 2;have aqR:=FP.out;have aqS:=FQ.out;refine F5 (w1:=?_) (by rfl) rfl ?_ ?_
        rotate_left
        ·go_simp;rfl
        refine hK.out _ _ ?_;clear hK K;refine KG (BZ Jk.out (by kernel_rfl)) ?_;try go_wp2
        go_roundg aK8
        case measure=>have:=y5.out;have:=aCN.out;omega
        case rel=>exact⟨_,_,_,_,_,rs,H',⟨by have:=y5.out;have:=aCN.out;omega⟩,⟨by(with_reducible repeat(first|apply Kd.Ol|apply JW|apply L8));exact PX (aCQ (p:=⟨Cb,2,none⟩) (PX Bq.out (fun k_ hk=>(⟨hk,hk.1.2.2⟩:_∧k_≠Cb))) (fun _ hk=>hk.2) (.slice Jr aK9.length Hq)) (fun _ hk=>⟨hk.1.2,⟨hk.1.1.2.1,hk.1.1.2.2⟩⟩)⟩,⟨rr⟩,⟨bq⟩,⟨bq⟩,⟨bb⟩⟩
    ·replace H:=sb H;rcases H with⟨rfl,H⟩|⟨rfl,H⟩
     ·replace H:=bd H;obtain⟨aCD,A45,H⟩:=H;replace H:=sb H;rcases H with⟨rfl,H⟩|⟨rfl,H⟩
      ·obtain⟨rfl,rfl,rfl,rfl⟩:=s4 H;have alL:=FQ.out;have alM:=FP.out;have z48:=iZ pF.out;obtain⟨Fj,Fp,afg⟩:=aC kP.out;subst afg;go_wp2_with (go_at_call 80;refine mB (eF.calls (cu ((aA kP.out).2.2)) ((aA kP.out).2.1) A45.out) ?_;intro w50 hb;replace Bq:=vb Bq hb;replace kP:=rb kP hb;replace nN:=kb nN hb;replace pF:=kb pF hb;replace HB:=bz HB hb;clear hb;have z51:=iZ pF.out;have z52:=iZ nN.out)
       refine bodyPost_ret (fV rfl _ _ Jq 76 #[.string V3, .string V4, .slice Fj Bo.length Fp] (0,0) _ rfl bq underlying76 rfl (by kernel_rfl)) rfl ?_;exact⟨_,er,rr,bb⟩
      ·obtain⟨rfl,rfl,rfl,rfl⟩:=s4 H;have aCR:=FQ.out;have aCS:=FP.out;have z54:=iZ pF.out;obtain⟨aUm,aUn,aLb⟩:=aC kP.out;subst aLb;go_wp2_with (go_at_call 80;refine mB (eF.calls (cu ((aA kP.out).2.2)) ((aA kP.out).2.1) A45.out) ?_;intro w56 hb;replace Bq:=vb Bq hb;replace kP:=rb kP hb;replace nN:=kb nN hb;replace pF:=kb pF hb;replace HB:=bz HB hb;clear hb;have z57:=iZ nN.out)
       refine bodyPost_ret (fV rfl _ _ Jq 76 #[.string (⟨#[]⟩:ByteArray), .string (⟨#[]⟩:ByteArray), .slice none 0 0] (0,0) _ rfl bq underlying76 rfl (by kernel_rfl)) rfl ?_;exact⟨_,er,nx,bb⟩
     ·obtain⟨rfl,rfl,rfl,rfl⟩:=s4 H;have aCT:=FP.out;have aCU:=FQ.out;have z59:=iZ nN.out;go_wp2;refine bodyPost_ret (fV rfl _ _ Jq 76 #[.string (⟨#[]⟩:ByteArray), .string (⟨#[]⟩:ByteArray), .slice none 0 0] (0,0) _ rfl bq underlying76 rfl (by kernel_rfl)) rfl ?_;exact⟨_,er,nx,bb⟩
 ·obtain⟨rfl,rfl,rfl,rfl⟩:=s4 H;go_enter func48,ntmps48;go_wp2_with (first|(refine gG 2 ?_;refine bX HB 2 #[.string (⟨#[]⟩:ByteArray), .string (⟨#[]⟩:ByteArray), .slice none 0 0] 76 ?_;intro Jq ZB nN aCH hb;replace HB:=bs HB hb;clear hb)|(refine gD func52 (bC.calls A2.out) ?_;intro ZB hb;replace nN:=kb nN hb;replace HB:=bz HB hb;clear hb;have aUo:=iZ nN.out))
  refine bodyPost_ret (fV rfl _ _ Jq 76 #[.string (⟨#[]⟩:ByteArray), .string (⟨#[]⟩:ByteArray), .slice none 0 0] (0,0) _ rfl bq underlying76 rfl (by kernel_rfl)) rfl ?_;exact⟨_,er,nx,bb⟩
def oQ.f(a0:Int):Option (Bool):=(bH.f a0).bind fun aCV=>(if aCV=true then(some true)else((dU.f a0).bind fun aCW=>(some aCW)))
theorem oQ.calls{a0:Int}{r:Bool}{w:World}(h:oQ.f a0=some r):
  Calls Tryz.prog 83 #[.int .u8 a0] w fun e w'=>e= .returned (.bool r)∧dS w w':=by
 unfold oQ.f at h;have H:=h;clear h;replace H:=bd H;obtain⟨aCV,A2,H⟩:=H;replace H:=sb H;rcases H with⟨rfl,H⟩|⟨rfl,H⟩
 ·obtain rfl:=s1 H;go_enter func83,ntmps83;go_wp2_with (refine gA func84 (bH.calls A2.out) ?_;intro nd)
  go_ret;exact⟨rs,dn⟩
 ·replace H:=bd H;obtain⟨aCW,A4,H⟩:=H;obtain rfl:=s1 H;go_enter func83,ntmps83;go_wp2_with (first|(refine gA func84 (bH.calls A2.out) ?_;intro nd)|(go_at_call 85;refine mA (dU.calls A4.out) ?_;intro nd))
  go_ret;exact⟨rs,dn⟩
def dO.l0:Nat→ByteArray→Int→Int→Option (Bool)
 |0,_,_,_=>none
 |k+1,x0,x7,x8=>if x8<x7 then(if 0≤x8 then(if x8<(x0.size:Int)then((oQ.f (bt x0 x8)).bind fun aCX=>(if aCX=true then(dO.l0 k x0 x7 (wrap64 (x8+1)))else(some false)))else(none))else(none))else(some true)
def dO.f(k:Nat)(a0:ByteArray):Option (Bool):=dO.l0 k a0 (a0.size:Int) 0
theorem dO.calls{k:Nat}{a0:ByteArray}{r:Bool}{w:World}(h:dO.f k a0=some r):
  Calls Tryz.prog 82 #[.string a0, .func (.func 83) #[] #[]] w fun e w'=>e= .returned (.bool r)∧dS w w':=by
 unfold dO.f at h;have H:=h;clear h;have H':=ak H;clear H;go_enter func82,ntmps82;go_wp2;go_loopg [8] k (fun kq v8 w'=>∃(lX:Int),v8= .int .i64 lX∧ah (dO.l0 kq a0 (a0.size:Int) lX=some r)∧ah (kq≤k)∧dS w w')
 case atStart=>exact⟨_,rs,H',⟨Nat.le_refl _⟩,dn⟩
 case round=>
  clear H';obtain⟨lX,rfl,HA,y5,⟨m1,rfl⟩⟩:=hrel
  cases gk with
  |zero=>exact zz HA.out
  |succ k1=>
   obtain⟨H⟩:=HA;simp only[dO.l0]at H;replace H:=sd H;rcases H with⟨iY,H⟩|⟨iY,H⟩
   ·replace H:=nO H;obtain⟨o7,H⟩:=H;replace H:=nO H;obtain⟨mV,H⟩:=H;replace H:=bd H;obtain⟨aCX,A7,H⟩:=H;replace H:=sb H;rcases H with⟨rfl,H⟩|⟨rfl,H⟩
    ·have H':=ak H;clear H;obtain⟨p6,q6,hx6⟩:=bx a0 lX;go_wp2_with (go_at_call 83;refine mA (oQ.calls A7.out) ?_;intro nd)
     go_roundg k1
     case measure=>exact kl
     case rel=>exact⟨_,rs,H',⟨kl⟩,dn⟩
    ·obtain rfl:=s1 H;obtain⟨p6,q6,hx6⟩:=bx a0 lX;go_wp2_with (go_at_call 83;refine mA (oQ.calls A7.out) ?_;intro nd)
     go_ret;exact⟨rs,dn⟩
   ·obtain rfl:=s1 H;go_wp2;go_ret;exact⟨rs,dn⟩
def jV.f(k:Nat)(a0:ByteArray):Option (Bool):=if(a0.size:Int)≥1 then(if(a0.size:Int)≤20 then((dO.f k a0).bind fun aCY=>(some aCY))else(some false))else(some false)
theorem jV.calls{k:Nat}{a0:ByteArray}{r:Bool}{w:World}(h:jV.f k a0=some r):
  Calls Tryz.prog 53 #[.string a0] w fun e w'=>e= .returned (.bool r)∧dS w w':=by
 unfold jV.f at h;have H:=h;clear h;replace H:=sp H;rcases H with⟨c2,H⟩|⟨c2,H⟩
 ·have sO:decide (1≤(a0.size:Int))=true:=decide_eq_true c2;have BK:decide (1≤a0.size)=true:=decide_eq_true (by omega);clear c2;replace H:=sp H;rcases H with⟨c3,H⟩|⟨c3,H⟩
  ·have iY:=decide_eq_true c3;have zN:decide (a0.size≤20)=true:=decide_eq_true (by omega);clear c3;replace H:=bd H;obtain⟨aCY,A4,H⟩:=H;obtain rfl:=s1 H;go_enter func53,ntmps53;go_wp2_with (go_at_call 82;refine mA (dO.calls A4.out) ?_;intro nd)
   go_ret;exact⟨rs,dn⟩
  ·have iY:=decide_eq_false c3;have zN:decide (a0.size≤20)=false:=decide_eq_false (by omega);clear c3;obtain rfl:=s1 H;go_enter func53,ntmps53;go_wp2;go_ret;exact⟨rs,dn⟩
 ·have sO:decide (1≤(a0.size:Int))=false:=decide_eq_false c2;have BK:decide (1≤a0.size)=false:=decide_eq_false (by omega);clear c2;obtain rfl:=s1 H;go_enter func53,ntmps53;go_wp2;go_ret;exact⟨rs,dn⟩
def stringslite_HasPrefix.f(a0:ByteArray)(a1:ByteArray):Option (Bool):=if(a0.size:Int)≥(a1.size:Int)then(if 0≤(a1.size:Int)then(if(a1.size:Int)≤(a0.size:Int)then(some ((a0.extract 0 ((a1.size:Int):Int).toNat).toList==a1.toList))else(none))else(none))else(some false)
theorem stringslite_HasPrefix.calls{a0 a1:ByteArray}{r:Bool}{w:World}(h:stringslite_HasPrefix.f a0 a1=some r):
  Calls Tryz.prog 98 #[.string a0, .string a1] w fun e w'=>e= .returned (.bool r)∧dS w w':=by
 unfold stringslite_HasPrefix.f at h;have H:=h;clear h;replace H:=sp H;rcases H with⟨c3,H⟩|⟨c3,H⟩
 ·have iY:decide ((a1.size:Int)≤(a0.size:Int))=true:=decide_eq_true c3;have zN:decide (a1.size≤a0.size)=true:=decide_eq_true (Int.ofNat_le.mp c3);clear c3;replace H:=AL H;obtain⟨o7,Ul,H⟩:=H;replace H:=AL H;obtain⟨mV,PW,H⟩:=H;obtain rfl:=s1 H;go_enter func98,ntmps98;go_wp2;go_ret;exact⟨rs,dn⟩
 ·have iY:decide ((a1.size:Int)≤(a0.size:Int))=false:=decide_eq_false c3;have zN:decide (a1.size≤a0.size)=false:=decide_eq_false (fun h=>c3 (Int.ofNat_le.mpr h));clear c3;obtain rfl:=s1 H;go_enter func98,ntmps98;go_wp2;go_ret;exact⟨rs,dn⟩
def strings_HasPrefix.f(a0:ByteArray)(a1:ByteArray):Option (Bool):=(stringslite_HasPrefix.f a0 a1).bind fun atv=>(some atv)
theorem strings_HasPrefix.calls{a0 a1:ByteArray}{r:Bool}{w:World}(h:strings_HasPrefix.f a0 a1=some r):
  Calls Tryz.prog 65 #[.string a0, .string a1] w fun e w'=>e= .returned (.bool r)∧dS w w':=by
 unfold strings_HasPrefix.f at h;have H:=h;clear h;replace H:=bd H;obtain⟨atv,A3,H⟩:=H;obtain rfl:=s1 H;go_enter func65,ntmps65;go_wp2_with (refine gA func98 (stringslite_HasPrefix.calls A3.out) ?_;intro nd)
 go_ret;exact⟨rs,dn⟩
mutual
def dK.l0:Nat→List ByteArray→List ByteArray→Int→Int→Option ((List (eG))×Bool)
 |0,_,_,_,_=>none
 |k+1,x4,x15,x16,x17=>if x17<x16 then(if 0≤x17 then(if x17<(x15.length:Int)then((strings_HasPrefix.f (iw ByteArray.empty x15 x17) (⟨#[32]⟩:ByteArray)).bind fun atw=>(if atw=true then(if(wrap64 ((x4.length:Int)-1))<0 then(some (([]:List (eG)),false))else(if 0≤(wrap64 ((x4.length:Int)-1))then(if(wrap64 ((x4.length:Int)-1))<(x4.length:Int)then(if(iw ByteArray.empty x4 (wrap64 ((x4.length:Int)-1))).size+(iw ByteArray.empty x15 x17).size≤9223372036854775807 then(dK.l0 k (x4.set ((wrap64 ((x4.length:Int)-1)):Int).toNat ((iw ByteArray.empty x4 (wrap64 ((x4.length:Int)-1)))++(iw ByteArray.empty x15 x17))) x15 x16 (wrap64 (x17+1)))else(none))else(none))else(none)))else(if x4.length<8796093022208 then(dK.l0 k (x4++[iw ByteArray.empty x15 x17]) x15 x16 (wrap64 (x17+1)))else(none))))else(none))else(none))else(dK.l1 k (([]:List (eG))) x4 (x4.length:Int) 0)
def dK.l1:Nat→List (eG)→List ByteArray→Int→Int→Option ((List (eG))×Bool)
 |0,_,_,_,_=>none
 |k+1,x8,x44,x45,x46=>if x46<x45 then(if 0≤x46 then(if x46<(x44.length:Int)then((strings_Cut.f (iw ByteArray.empty x44 x46) (⟨#[58]⟩:ByteArray)).bind fun afh=>(if afh.2.2=true then((lq.f afh.2.1 (⟨#[32]⟩:ByteArray)).bind fun aam=>(if x8.length<4398046511104 then(dK.l1 k (x8++[(⟨afh.1,aam⟩:eG)]) x44 x45 (wrap64 (x46+1)))else(none)))else(some (([]:List (eG)),false))))else(none))else(none))else((lY.f k x8).bind fun atx=>(if atx=true then(some (x8,true))else(some (([]:List (eG)),false))))
end
def dK.f(k:Nat)(l0:List ByteArray):Option ((List (eG))×Bool):=dK.l0 k (([]:List ByteArray)) l0 (l0.length:Int) 0
theorem dK.calls{k c0:Nat}{A0:Option Addr}{l0:List ByteArray}{r1:List (eG)}{r2:Bool}{w:World}(hr0:Kd.C Kd.string w A0 l0.length l0)(hc0:l0.length≤c0)(Bj:MaxOk w)(h:dK.f k l0=some (r1,r2)):
  Calls Tryz.prog 37 #[.slice A0 l0.length c0] w fun e w'=>∃nC:Value,e= .returned (.tuple #[nC, .bool r2])∧Kd.R o9 43 w' w.heap.size (fun _=>True) nC r1∧Below w.heap.size w w':=by
 have F7:=underlying43;have HR0:=ak hr0;have uV:=ak hc0;clear hr0 hc0;have HG:=ak Bj;clear Bj;have HB:=ak (Below.refl w.heap.size w);unfold dK.f at h;have H:=h;clear h;obtain⟨aPb,alN⟩:=nm ([]:List ByteArray);rw[←alN.out]at H;have H':=ak H;clear H;go_enter func37,ntmps37;go_wp2_with (refine Fh 14 Kd.string 9 alN ?_;intro aPc w2 ho3 hb;have axa:=ak (au ho3 (aj (ul HB.out)));replace HB:=bs HB hb;clear hb ho3)
 go_loopg [4,17] k (fun kq v4 v17 w'=>∃(cO:List ByteArray) (gJ:Int),v17= .int .i64 gJ∧ah (dK.l0 kq cO l0 (l0.length:Int) gJ=some (r1,r2))∧ah (kq≤k)∧ah (Kd.R Kd.string 9 w' w.heap.size (fun _=>True) v4 cO)∧ah (Below w.heap.size w w'))
 case atStart=>exact⟨_,_,rs,H',⟨Nat.le_refl _⟩,⟨ur axa.out⟩,⟨ul HB.out⟩⟩
 case round=>
  clear H';obtain⟨cO,gJ,rfl,HA,y5,bQ,HB⟩:=hrel
  cases gk with
  |zero=>exact zz HA.out
  |succ k1=>
   obtain⟨H⟩:=HA;simp only[dK.l0]at H;replace H:=sd H;rcases H with⟨o7,H⟩|⟨o7,H⟩
   ·replace H:=nO H;obtain⟨mV,H⟩:=H;replace H:=nO H;obtain⟨nD,H⟩:=H;replace H:=bd H;obtain⟨atw,A7,H⟩:=H;replace H:=sb H;rcases H with⟨rfl,H⟩|⟨rfl,H⟩
    ·replace H:=sp H;rcases H with⟨c9,H⟩|⟨c9,H⟩
     ·have xZ:=decide_eq_true c9
      (try(have D_:decide (((cO.length:Int)-1)<0)=true:=decide_eq_true (by have h_:=c9;unfold wrap64 at h_;omega)));clear c9;obtain⟨rfl,rfl⟩:=s2 H;have L9:=zi gJ;have L_:=zj gJ l0.length;obtain⟨alO,adt,Eb⟩:=bZ HR0.out gJ L9 L_;cases adt;replace Eb:=cl HB.out Eb;replace L9:=eq_true L9;replace L_:=eq_true L_;obtain⟨Xp,VX,ae9⟩:=aC bQ.out;subst ae9;go_wp2_with (refine gA func65 (strings_HasPrefix.calls A7.out) ?_;intro nd)
      go_ret2;exact⟨_,er,nx,ul HB.out⟩
     ·have xZ:=decide_eq_false c9
      (try(have D_:decide (((cO.length:Int)-1)<0)=false:=decide_eq_false (by have h_:=c9;unfold wrap64 at h_;omega)));clear c9;obtain⟨Js,adu⟩:∃j_:Int,(wrap64 ((cO.length:Int)-1))=j_:=⟨_,rfl⟩
      replace H:(if 0≤(Js)then(if(Js)<(cO.length:Int)then(if(iw ByteArray.empty cO (Js)).size+(iw ByteArray.empty l0 gJ).size≤9223372036854775807 then(dK.l0 k1 (cO.set ((Js):Int).toNat ((iw ByteArray.empty cO (Js))++(iw ByteArray.empty l0 gJ))) l0 (l0.length:Int) (wrap64 (gJ+1)))else(none))else(none))else(none))=some (r1,r2):=by first|(rw[adu]at H;exact H)|(simp only[adu]at H⊢;exact H)
      (try rw[adu]at xZ)
      (try rw[adu]at A7);have aLc:(IntKind.i64.wrap ((cO.length:Int)-1))=Js:=(ig _).trans adu;replace H:=nO H;obtain⟨vJ,H⟩:=H;replace H:=nO H;obtain⟨xY,H⟩:=H;replace H:=nn H;obtain⟨c14,H⟩:=H;have uD:=eq_true c14;have yc:=decide_eq_true c14;try have asG:(9223372036854775807<(iw ByteArray.empty cO (Js)).size+(iw ByteArray.empty l0 gJ).size)=False:=eq_false (Nat.not_lt.2 c14)
      obtain⟨aCZ,alP⟩:=nm (cO.set ((Js):Int).toNat ((iw ByteArray.empty cO (Js))++(iw ByteArray.empty l0 gJ)));rw[←alP.out]at H;have H':=ak H;clear H;have L9:=zi gJ;have L_:=zj gJ l0.length;obtain⟨alO,adt,Eb⟩:=bZ HR0.out gJ L9 L_;cases adt;replace Eb:=cl HB.out Eb;replace L9:=eq_true L9;replace L_:=eq_true L_;obtain⟨OW,LV,LW⟩:=aC bQ.out;subst LW;go_wp2_with (first|(refine gA func65 (strings_HasPrefix.calls A7.out) ?_;intro nd;(try(rw[PY wr];generalize hq_:World.drewN wr _=wr;have Am:ah (Kd.R Kd.string 9 wr w.heap.size (fun _=>True) (.slice OW cO.length LV) cO):=⟨by rw[←hq_];exact(ur bQ.out)⟩;have Ap:ah (Below w.heap.size w wr):=⟨by rw[←hq_];exact(ul HB.out)⟩;clear bQ HB hq_;have bQ:=Am;have HB:=Ap;clear Am Ap));have alQ:0≤((Js):Int):=of_decide_eq_true (by assumption);have alR:(Js)<(cO.length:Int):=of_decide_eq_true (by assumption);obtain⟨aLd,aC0,alS⟩:=bZ (aA bQ.out).2.2 (Js) alQ alR;cases aC0;replace alQ:=eq_true alQ;replace alR:=eq_true alR;have p15:0≤((Js):Int):=of_decide_eq_true (by assumption);have q15:((Js):Int)<((cO.length:Int):Int):=of_decide_eq_true (by assumption);obtain⟨axb,OT,QI,aC1,aLe,aUp,aC2⟩:=afi bQ.out (by omega);(first|cases QI|(injection QI with Vy en_ ec_;(first|subst Vy|(injection Vy with Vy;subst Vy));subst ec_;clear en_));have aLf:=ak aC1;have aUq:=ak aC2;clear aC1 aLe aC2;(first|simp only[add_plain]at alS|skip);obtain⟨aLg,aLh⟩:=WR (⟨#[]⟩:ByteArray) bQ.out ((Js):Int) p15 q15;replace p15:=eq_true p15;replace q15:=eq_true q15;obtain⟨aPd,aPe⟩:=WR (⟨#[]⟩:ByteArray) bQ.out ((Js):Int) (of_decide_eq_true (by assumption)) (of_decide_eq_true (by assumption));have axc:=alT bQ.out ((Js):Int) ((iw ByteArray.empty cO (Js))++(iw ByteArray.empty l0 gJ)))|((with_reducible refine Du (t:=9) (p:=30) rfl ?_);refine Bl (t:=9) (p:=30) (v:=?aLi) (w1:=(wr.setCell ⟨axb,((Js):Int).toNat,none⟩ (.string ((iw ByteArray.empty cO (Js))++(iw ByteArray.empty l0 gJ))))) ?hg ?ho ?hn ?hr ?_;(case ho=>rfl);(case hg=>rfl);(case hn=>rfl);(case hr=>first|(go_simp;done)|(go_simp;rfl));intro w18 hw;have hg:wr.grownBy w18 (some axb):=(by rw[hw];exact axc.2);have hp_:Kd.R Kd.string 9 w18 w.heap.size (fun _=>True) (.slice (some ⟨axb,0,none⟩) cO.length LV) aCZ:=(by rw[hw,alP.out];exact axc.1);clear axc;replace bQ:=ak (hp_);replace HB:=ak ((by rw[hw];exact vF (HB.out) aLf.out:Below w.heap.size w w18));clear hg hw hp_))
      go_roundg k1
      case measure=>exact kl
      case rel=>exact⟨_,_,rs,H',⟨kl⟩,⟨ur bQ.out⟩,⟨ul HB.out⟩⟩
    ·replace H:=nl H;obtain⟨ac4,H⟩:=H;obtain⟨aPf,alU⟩:=nm (cO++[iw ByteArray.empty l0 gJ]);rw[←alU.out]at H;have H':=ak H;clear H;have L9:=zi gJ;have L_:=zj gJ l0.length;obtain⟨alO,adt,Eb⟩:=bZ HR0.out gJ L9 L_;cases adt;replace Eb:=cl HB.out Eb;replace L9:=eq_true L9;replace L_:=eq_true L_;obtain⟨Hr,Fq,Us⟩:=aC bQ.out;subst Us;go_wp2_with (first|(refine gA func65 (strings_HasPrefix.calls A7.out) ?_;intro nd)|(at_builtin;refine aP 35 37 Kd.string 24 9 (.string ⟨#[]⟩) 16 underlying24 info9 HB (ur bQ.out) alU (by have:=ac4.out;omega) ?_;intro aPg w21 ho hb hg hat;have axd:=ak (ho);replace HB:=ak (hb);clear ho hb hg hat bQ))
     go_roundg k1
     case measure=>exact kl
     case rel=>exact⟨_,_,rs,H',⟨kl⟩,⟨ur axd.out⟩,⟨ul HB.out⟩⟩
   ·obtain⟨aPh,alV⟩:=nm ([]:List (eG));rw[←alV.out]at H;have H':=ak H;clear H;go_wp2_with (refine Fh 43 o9 43 alV ?_;intro aPi w22 alW hb;have axe:=ak (au alW (aj (ul HB.out)));replace bQ:=rb bQ hb;replace HB:=bs HB hb;clear hb alW;obtain⟨F9,Ew,afj⟩:=aC bQ.out;subst afj)
    go_loopg [8,46] k1 (fun kq v8 v46 w'=>∃(alX:List (eG)) (Q8:Int),v46= .int .i64 Q8∧ah (dK.l1 kq alX cO (cO.length:Int) Q8=some (r1,r2))∧ah (kq≤k1)∧ah (Kd.R o9 43 w' w.heap.size (fun _=>True) v8 alX)∧ah (Kd.R Kd.string 9 w' w.heap.size (fun _=>True) (.slice F9 cO.length Ew) cO)∧ah (Below w.heap.size w w'))
    case atStart=>exact⟨_,_,rs,H',⟨Nat.le_refl _⟩,⟨ur axe.out⟩,⟨ur bQ.out⟩,⟨ul HB.out⟩⟩
    case round=>
     clear H';try clear o7
     obtain⟨alX,Q8,rfl,HA,HK2,IW,Q9,HB⟩:=hrel
     cases gk with
     |zero=>exact zz HA.out
     |succ k2=>
      obtain⟨H⟩:=HA;simp only[dK.l1]at H;replace H:=sd H;rcases H with⟨F8,H⟩|⟨F8,H⟩
      ·replace H:=nO H;obtain⟨Q5,H⟩:=H;replace H:=nO H;obtain⟨KH,H⟩:=H;replace H:=bd H;obtain⟨⟨ahC,aPj,aPk⟩,A28,H⟩:=H
       (try dsimp only at H);replace H:=sb H;rcases H with⟨rfl,H⟩|⟨rfl,H⟩
       ·replace H:=bd H;obtain⟨aam,A30,H⟩:=H;replace H:=nl H;obtain⟨ac_,H⟩:=H;obtain⟨aPl,alY⟩:=nm (alX++[(⟨ahC,aam⟩:eG)]);rw[←alY.out]at H;have H':=ak H;clear H;have XA:=zi Q8;have XB:=zj Q8 cO.length;obtain⟨axf,alZ,al0⟩:=bZ (aA Q9.out).2.2 Q8 XA XB;cases alZ;replace XA:=eq_true XA;replace XB:=eq_true XB;go_wp2_with (first|(refine gA func66 (strings_Cut.calls ?dR A28.out) ?_;(case dR=>first|exact HG.out|exact MaxOk.below HG.out (ul HB.out)|(repeat(first|exact HG.out|apply MaxOk.drewN|apply MaxOk.drew)));intro nd)|(refine gA func67 (lq.calls A30.out) ?_;intro nd)|((with_reducible refine bP (b:= .append) (xs:=#[.tmp 58, .tmp 63]) rfl ?_);at_builtin;refine nP o9 (w0:=w) w.heap.size rfl (.tmp 58) (.tmp 63) 23 43 (.agg #[(.string ⟨#[]⟩),(.string ⟨#[]⟩)]) 32 rfl underlying23 Dn rfl (by decide) (by omega) u8 alX (⟨ahC,aam⟩:eG) [.string ahC, .string aam] (fun _=>True) (fun _=>False) rfl rfl ?aP (fun _ hk=>hk.elim) ?aF ?aO ?aB ?aS ?aL ?_;(case aP=>exact wE _ _ _ (⟨ahC,aam⟩:eG));(case aB=>exact(ul HB.out));(case aF=>exact(fun _ _=>trivial));(case aO=>exact(ur IW.out));(case aS=>exact(aj (ul HB.out)));(case aL=>have:=ac_.out;omega);intro aPm w32 ho hb hg hat;rw[←alY.out]at ho;have axg:=ak (ho);replace Q9:=ak (oO (ur Q9.out) (jA (ur IW.out)) (by decide) hg);replace HB:=ak (hb);clear ho hb hg hat IW))
        go_roundg k2
        case measure=>exact kl
        case rel=>exact⟨_,_,rs,H',⟨kl⟩,⟨ur axg.out⟩,⟨ur Q9.out⟩,⟨ul HB.out⟩⟩
       ·obtain⟨rfl,rfl⟩:=s2 H;have XA:=zi Q8;have XB:=zj Q8 cO.length;obtain⟨axf,alZ,al0⟩:=bZ (aA Q9.out).2.2 Q8 XA XB;cases alZ;replace XA:=eq_true XA;replace XB:=eq_true XB;go_wp2_with (refine gA func66 (strings_Cut.calls ?dR A28.out) ?_;(case dR=>first|exact HG.out|exact MaxOk.below HG.out (ul HB.out)|(repeat(first|exact HG.out|apply MaxOk.drewN|apply MaxOk.drew)));intro nd)
        go_ret2;exact⟨_,er,nx,ul HB.out⟩
      ·replace H:=bd H;obtain⟨atx,A33,H⟩:=H;replace H:=sb H;rcases H with⟨rfl,H⟩|⟨rfl,H⟩
       ·obtain⟨rfl,rfl⟩:=s2 H;obtain⟨aKl,aKm,aqp⟩:=aC IW.out;subst aqp;go_wp2_with (refine gB func45 (lY.calls (cu ((aA IW.out).2.2)) ((aA IW.out).2.1) A33.out) ?_;intro w36 hb;replace IW:=rb IW hb;replace Q9:=rb Q9 hb;replace HB:=bs HB hb;clear hb)
        go_ret2;exact⟨_,er,ur IW.out,ul HB.out⟩
       ·obtain⟨rfl,rfl⟩:=s2 H;obtain⟨al1,al2,adv⟩:=aC IW.out;subst adv;go_wp2_with (refine gB func45 (lY.calls (cu ((aA IW.out).2.2)) ((aA IW.out).2.1) A33.out) ?_;intro w38 hb;replace IW:=rb IW hb;replace Q9:=rb Q9 hb;replace HB:=bs HB hb;clear hb)
        go_ret2;exact⟨_,er,nx,ul HB.out⟩
def kN.f(l0:List ByteArray):Option (List ByteArray):=if l0.length<8796093022208 then some l0 else none
theorem kN.calls{A0:Option Addr}{c0:Nat}{l0 r:List ByteArray}{w:World}(hr0:Kd.C Kd.string w A0 l0.length l0)(hc0:l0.length≤c0)(h:kN.f l0=some r):
  Calls Tryz.prog 38 #[.slice A0 l0.length c0] w fun e w'=>∃nC:Value,e= .returned (nC)∧Kd.R Kd.string 9 w' w.heap.size (fun _=>True) nC r∧Below w.heap.size w w':=by
 unfold kN.f at h;split at h
 ·rename_i hlen
  cases h;have q_:∀(w:World) (a:Option Addr) (n c n' c':Nat),(binOp .eql 24 (.slice a n c) (.slice none n' c')).run Tryz.prog w= .ok (.bool a.isNone) w:=fun w a n c n' c'=>Lib.run_eql_slice_nil w _ _ a n c n' c' underlying24
  cases A0 with
  |none=>
   obtain rfl:l0=[]:=by
    cases l0 with
    |nil=>rfl
    |cons x l=>
     obtain⟨_,_,hC⟩:=hr0;obtain⟨ad,h,_⟩:=hC (by simp);cases h
   go_enter func38,ntmps38;go_wp2;go_ret;exact⟨_,rfl,nx,Below.refl _ _⟩
  |some ad=>
   have HR0:=ak hr0;have uV:=ak hc0;have LM:=ak hlen;clear hr0 hc0 hlen;have HB:=ak (Below.refl w.heap.size w);obtain⟨y1,Ny1⟩:=nm ([]:List ByteArray);obtain⟨y2,Ny2⟩:=nm (y1++l0);have hy:y2=l0:=by rw[Ny2.out,Ny1.out,List.nil_append]
   have hn:y1.length=0:=by rw[Ny1.out];rfl
   go_enter func38,ntmps38;go_wp2_with (first|(refine Fh 5 Kd.string 9 Ny1 ?_;intro v3 w7 ho8 hb;have HO1:=ak (au ho8 (aj bb));replace HB:=bz HB hb;clear hb ho8)|((with_reducible refine bP (b:= .append) (xs:=#[.tmp 5, .tmp 6]) rfl ?_);at_builtin;refine o_ Kd.string (w0:=w) w.heap.size rfl (.tmp 5) (.tmp 6) 24 9 (.string ⟨#[]⟩) 16 rfl underlying24 info9 rfl (by decide) (by omega) v3 y1 l0 _ _ _ (fun _=>True) (fun _=>False) rfl rfl ?hO ?hR (fun _ _ h=>h) (fun _ h=>h.elim) ?hF ?hB ?hS ?hL ?_;(case hR=>repeat(first|exact(aI HR0.out HB.out)|(with_reducible refine Kd.lM ?_ _)|(with_reducible refine Kd.lQ ?_ _)|(with_reducible refine Kd.oz ?_)));(case hB=>exact bb);(case hF=>exact(fun _ _=>trivial));(case hO=>exact(ur HO1.out));(case hS=>exact(aj bb));(case hL=>have:=LM.out;omega);intro v6 w12 ho hb hg hat;rw[←Ny2.out,hy]at ho;have HO2:=ak (ho);replace HB:=ak (hb);clear ho hb hg hat HO1))
   go_ret;exact⟨_,rfl,HO2.out,bb⟩
 ·cases h
def iy.l0:Nat→ByteArray→List (List ByteArray)→List ByteArray→Int→Int→Option ((List (List ByteArray))×Bool)
 |0,_,_,_,_,_=>none
 |k+1,x1,x6,Ho,x14,x15=>if x15<x14 then(if 0≤x15 then(if x15<(Ho.length:Int)then(if 2+x1.size≤9223372036854775807 then(if(iw ByteArray.empty Ho x15).toList=((⟨#[45,45]⟩:ByteArray)++x1).toList then(if x6.length<5864062014805 then(iy.l0 k x1 (x6++[(([]:List ByteArray))]) Ho x14 (wrap64 (x15+1)))else(none))else(if(x6.length:Int)=0 then(iy.l0 k x1 x6 Ho x14 (wrap64 (x15+1)))else(if((⟨#[45,45]⟩:ByteArray)++x1).size+2≤9223372036854775807 then(if(iw ByteArray.empty Ho x15).toList=(((⟨#[45,45]⟩:ByteArray)++x1)++(⟨#[45,45]⟩:ByteArray)).toList then(some (x6,true))else(if 0≤(wrap64 ((x6.length:Int)-1))then(if(wrap64 ((x6.length:Int)-1))<(x6.length:Int)then(if(lV x6 (wrap64 ((x6.length:Int)-1))).length<8796093022208 then(iy.l0 k x1 (x6.set ((wrap64 ((x6.length:Int)-1)):Int).toNat ((lV x6 (wrap64 ((x6.length:Int)-1)))++[iw ByteArray.empty Ho x15])) Ho x14 (wrap64 (x15+1)))else(none))else(none))else(none)))else(none))))else(none))else(none))else(none))else(some (([]:List (List ByteArray)),false))
def iy.f(k:Nat)(l0:List ByteArray)(a1:ByteArray):Option ((List (List ByteArray))×Bool):=(jV.f k a1).bind fun aty=>(if aty=true then(iy.l0 k a1 (([]:List (List ByteArray))) l0 (l0.length:Int) 0)else(some (([]:List (List ByteArray)),false)))
theorem iy.calls{k c0:Nat}{A0:Option Addr}{l0:List ByteArray}{a1:ByteArray}{r1:List (List ByteArray)}{r2:Bool}{w:World}(hr0:Kd.C Kd.string w A0 l0.length l0)(hc0:l0.length≤c0)(h:iy.f k l0 a1=some (r1,r2)):
  Calls Tryz.prog 39 #[.slice A0 l0.length c0, .string a1] w fun e w'=>∃nC:Value,e= .returned (.tuple #[nC, .bool r2])∧Kd.S (Kd.slice 9 Kd.string) 24 w' w.heap.size (fun _=>True) nC r1∧Below w.heap.size w w':=by
 have HR0:=ak hr0;have uV:=ak hc0;clear hr0 hc0;have HB:=ak (Below.refl w.heap.size w);unfold iy.f at h;have H:=h;clear h;replace H:=bd H;obtain⟨aty,A3,H⟩:=H;replace H:=sb H;rcases H with⟨rfl,H⟩|⟨rfl,H⟩
 ·obtain⟨aPn,afk⟩:=nm ([]:List (List ByteArray));rw[←afk.out]at H;have H':=ak H;clear H;go_enter func39,ntmps39;go_wp2_with (first|(refine gA func53 (jV.calls A3.out) ?_;intro nd)|((with_reducible refine Jt (N:=12) rfl ?_);refine aan (Kd.slice 9 Kd.string) _ 24 ?hg (N:=12) ?hd (xs:=([]:List (List ByteArray))) (inner:=[]) (ok:=fun _=>True) (wH:=fun _=>True) ?hr ?hp (fun _ hk=>hk) trivial (Below.refl _ _) (Nat.le_refl _) (by simp) ?_;(case hd=>rfl);(case hg=>rfl);(case hr=>first|(go_simp;done)|(go_simp;rfl));(case hp=>exact(dG.none _ _));intro aPo w5 WI hb Bj vK;clear Bj vK;(first|rw[←afk.out]at WI|(simp only[Int.reduceToNat]at WI;rw[←afk.out]at WI));have axh:=ak (Ce WI (aj (ul HB.out)));replace HB:=bs HB hb;clear hb WI))
  go_loopg [6,15] k (fun kq v6 v15 w'=>∃(gU:List (List ByteArray)) (qL:Int),v15= .int .i64 qL∧ah (iy.l0 kq a1 gU l0 (l0.length:Int) qL=some (r1,r2))∧ah (kq≤k)∧ah (Kd.S (Kd.slice 9 Kd.string) 24 w' w.heap.size (fun _=>True) v6 gU)∧ah (Below w.heap.size w w'))
  case atStart=>exact⟨_,_,rs,H',⟨Nat.le_refl _⟩,⟨by(with_reducible repeat(first|apply Kd.eU|apply Kd.eX|apply Kd.iq));exact axh.out⟩,⟨ul HB.out⟩⟩
  case round=>
   clear H';obtain⟨gU,qL,rfl,HA,y5,jQ,HB⟩:=hrel
   cases gk with
   |zero=>exact zz HA.out
   |succ k1=>
    obtain⟨H⟩:=HA;simp only[iy.l0]at H;replace H:=sd H;rcases H with⟨sQ,H⟩|⟨sQ,H⟩
    ·replace H:=nO H;obtain⟨rP,H⟩:=H;replace H:=nO H;obtain⟨xZ,H⟩:=H;replace H:=nn H;obtain⟨c10,H⟩:=H;have qg:=eq_true c10;have uN:=decide_eq_true c10;try have adi:(9223372036854775807<2+a1.size)=False:=eq_false (Nat.not_lt.2 c10)
     replace H:=sq H;rcases H with⟨uM,D7,H⟩|⟨c11,uM,D7,H⟩
     ·obtain⟨ahD,al3⟩:=nm ([]:List ByteArray);rw[←al3.out]at H;replace H:=nl H;obtain⟨Xw,H⟩:=H;obtain⟨aPp,al4⟩:=nm (gU++[ahD]);rw[←al4.out]at H;have H':=ak H;clear H;have Gf:=zi qL;have Gg:=zj qL l0.length;obtain⟨afl,XC,zh⟩:=bZ HR0.out qL Gf Gg;cases XC;replace zh:=cl HB.out zh;replace Gf:=eq_true Gf;replace Gg:=eq_true Gg;go_wp2_with (first|(refine Fh 39 Kd.string 9 al3 ?_;intro aPq w13 V5 hb;have abo:=ak (au V5 (aj (ul HB.out)));replace jQ:=ak (uf (by(with_reducible repeat(first|apply Kd.eU|apply Kd.eX|apply Kd.iq));exact jQ.out) (bK V5) hb);replace HB:=bs HB hb;clear hb V5;obtain⟨OW,LV,LW⟩:=aC abo.out;subst LW)|((with_reducible refine bP (b:= .append) (xs:=#[.tmp 38, .tmp 40]) rfl ?_);at_builtin;refine Ju (Kd.slice 9 Kd.string) (w0:=w) w.heap.size rfl (.tmp 38) (.tmp 40) 56 24 (.slice none 0 0) 24 rfl underlying56 info24 rfl (by decide) (by omega) u6 gU ahD [.slice OW ahD.length LV] (fun _=>True) (fun k_=>some k_=(.slice OW ahD.length LV:Value).ownBlock) rfl rfl ?aP (fun k_ hk_=>((aG (ok':=fun k_=>((fun _=>True)) k_∧some k_≠(u6:Value).ownBlock) (kM (abo.out) (yU jQ.out) (by decide)) (fun k_ hk=>⟨trivial,hk.2⟩))).1 k_ hk_.symm) ?aF ?aO ?aB ?aS ?aL ?_;(case aP=>exact XD (aG (Om rfl (aG (ok':=fun k_=>((fun _=>True)) k_∧some k_≠(u6:Value).ownBlock) (kM (abo.out) (yU jQ.out) (by decide)) (fun k_ hk=>⟨trivial,hk.2⟩))) (fun _ h_=>h_)));(case aB=>exact(ul HB.out));(case aF=>exact(fun _ _=>trivial));(case aO=>exact(by(with_reducible repeat(first|apply Kd.eU|apply Kd.eX|apply Kd.iq));exact um jQ.out (fun k_ hk=>⟨trivial,fun e_=>hk.2 e_⟩)));(case aS=>exact(aj (ul HB.out)));(case aL=>have:=Xw.out;omega);intro aPr w15 ho hb hg hat;rw[←al4.out]at ho;have axi:=ak (ho);replace HB:=ak (hb);clear ho hb hg hat jQ abo))
      go_roundg k1
      case measure=>exact kl
      case rel=>exact⟨_,_,rs,H',⟨kl⟩,⟨by(with_reducible repeat(first|apply Kd.eU|apply Kd.eX|apply Kd.iq));exact axi.out⟩,⟨ul HB.out⟩⟩
     ·replace H:=sp H;rcases H with⟨c17,H⟩|⟨c17,H⟩
      ·have wz:=beq_iff_eq.mpr c17;have Pg:=bne_eq_false_iff_eq.mpr c17;clear c17;have H':=ak H;clear H;have Gf:=zi qL;have Gg:=zj qL l0.length;obtain⟨afl,XC,zh⟩:=bZ HR0.out qL Gf Gg;cases XC;replace zh:=cl HB.out zh;replace Gf:=eq_true Gf;replace Gg:=eq_true Gg;obtain⟨Ji,Jj,ZI⟩:=Ci jQ.out;subst ZI;go_wp2;go_roundg k1
       case measure=>exact kl
       case rel=>exact⟨_,_,rs,H',⟨kl⟩,⟨by(with_reducible repeat(first|apply Kd.eU|apply Kd.eX|apply Kd.iq));exact jQ.out⟩,⟨ul HB.out⟩⟩
      ·have wz:=beq_eq_false_iff_ne.mpr c17;have Pg:=bne_iff_ne.mpr c17;have atz:¬(gU=[]):=fun h_=>c17 (by rw[h_];rfl)
       replace H:=nn H;obtain⟨c19,H⟩:=H;have ET:=eq_true c19;have Jp:=decide_eq_true c19;try have aC3:(9223372036854775807<2+a1.size+2)=False:=by have h_:=(eq_false (Nat.not_lt.2 c19):(9223372036854775807<((⟨#[45,45]⟩:ByteArray)++a1).size+2)=False);simp only[ByteArray.size_append]at h_;exact h_
       try have al5:(9223372036854775807<((⟨#[45,45]⟩:ByteArray)++a1).size+2)=False:=eq_false (Nat.not_lt.2 c19)
       replace H:=sq H;rcases H with⟨QN,Xj,H⟩|⟨c20,QN,Xj,H⟩
       ·obtain⟨rfl,rfl⟩:=s2 H;have Gf:=zi qL;have Gg:=zj qL l0.length;obtain⟨afl,XC,zh⟩:=bZ HR0.out qL Gf Gg;cases XC;replace zh:=cl HB.out zh;replace Gf:=eq_true Gf;replace Gg:=eq_true Gg;obtain⟨Ug,Uh,aa7⟩:=Ci jQ.out;subst aa7;go_wp2;go_ret2;exact⟨_,er,by(with_reducible repeat(first|apply Kd.eU|apply Kd.eX|apply Kd.iq));exact jQ.out,ul HB.out⟩
       ·obtain⟨Dv,al6⟩:∃j_:Int,(wrap64 ((gU.length:Int)-1))=j_:=⟨_,rfl⟩
        replace H:(if 0≤(Dv)then(if(Dv)<(gU.length:Int)then(if(lV gU (Dv)).length<8796093022208 then(iy.l0 k1 a1 (gU.set ((Dv):Int).toNat ((lV gU (Dv))++[iw ByteArray.empty l0 qL])) l0 (l0.length:Int) (wrap64 (qL+1)))else(none))else(none))else(none))=some (r1,r2):=by first|(rw[al6]at H;exact H)|(simp only[al6]at H⊢;exact H)
        have aLj:(IntKind.i64.wrap ((gU.length:Int)-1))=Dv:=(ig _).trans al6;replace H:=nO H;obtain⟨EP,H⟩:=H;replace H:=nO H;obtain⟨QU,H⟩:=H;replace H:=nl H;obtain⟨Xi,H⟩:=H;obtain⟨ahE,al7⟩:=nm ((lV gU (Dv))++[iw ByteArray.empty l0 qL]);rw[←al7.out]at H;obtain⟨aC4,al8⟩:=nm (gU.set ((Dv):Int).toNat ahE);rw[←al8.out]at H;have H':=ak H;clear H;have Gf:=zi qL;have Gg:=zj qL l0.length;obtain⟨afl,XC,zh⟩:=bZ HR0.out qL Gf Gg;cases XC;replace zh:=cl HB.out zh;replace Gf:=eq_true Gf;replace Gg:=eq_true Gg;obtain⟨al9,ZL,aju⟩:=Ci jQ.out;subst aju;have ahF:=zi (Dv);have ahG:=zj (Dv) gU.length;obtain⟨aLk,ahH,ahI,aC5,XE,adw,adx⟩:=FW (rQ jQ.out).2.2 (Dv) ahF ahG;cases aC5;obtain⟨aLl,aqT,aqU,ahJ⟩:=ady jQ.out [] (Dv) ahF (by first|exact ahG|exact of_decide_eq_true (by assumption)|(have e_:=(rQ jQ.out).1;omega));obtain⟨aC6,rfl,XF⟩:=aqU;have Mc:=ahJ 0 _ rfl;rw[Nat.add_zero,show((Kd.slice 9 Kd.string)).sz=1 from rfl,Nat.mul_one]at Mc;replace Mc:=Option.some.inj (Mc.symm.trans XE);rw[Mc]at XF;have al_:=ak (show Kd.R Kd.string 9 _ _ _ _ (lV gU (Dv))from XF);clear Mc XF;have ama:=ak XE;clear ahJ aqT;have aC7:=ak adx;have aC8:=ak adw;clear adx adw;replace ahF:=eq_true ahF;replace ahG:=eq_true ahG;obtain⟨axj,axk,aqV,aC9,aLm,aUr,aC_⟩:=axl jQ.out (by have h_:((Dv):Int)<((gU.length:Int):Int):=of_decide_eq_true (by assumption);have h2_:0≤((Dv):Int):=(of_decide_eq_true (by assumption));omega)
        (first|cases aqV|(injection aqV with Vy en_ ec_;(first|subst Vy|(injection Vy with Vy;subst Vy));subst ec_;clear en_));have aLn:=ak aC9;have aUs:=ak aC_;clear aC9 aLm aC_
        (first|simp only[add_plain]at XE|skip);obtain⟨atA,aUt,aDa,aLo,atC,_,_,aDb⟩:=axn jQ.out [] ((Dv):Int) (of_decide_eq_true (by assumption)) (by have h_:((Dv):Int)<((gU.length:Int):Int):=of_decide_eq_true (by assumption);first|exact h_|(have e_:=(rQ jQ.out).1;omega)|simpa using h_);obtain⟨aLp,rfl,amb⟩:=aLo;have hv28:=atC 0 _ rfl;have axo:=ama.out
        (try simp only[add_plain]at axo)
        (try simp only[Nat.add_zero]at hv28)
        (try rw[show((Kd.slice 9 Kd.string)).sz=1 from rfl,Nat.mul_one]at hv28);replace hv28:=Option.some.inj (hv28.symm.trans axo);subst hv28;clear axo atC aDa;have axp:=ak (show Kd.R Kd.string 9 _ w.heap.size atA (.slice ahH (lV gU (Dv)).length ahI) (lV gU (Dv))from amb);have ajv:=ak aDb;have axq:=ak (rQ jQ.out).1;clear aDb amb;go_wp2_with (first|((with_reducible refine bP (b:= .append) (xs:=#[.tmp 28, .tmp 30]) rfl ?_);at_builtin;refine nP Kd.string (w0:=w) w.heap.size rfl (.tmp 28) (.tmp 30) 24 9 (.string ⟨#[]⟩) 16 rfl underlying24 info9 rfl (by decide) (by omega) (.slice ahH (lV gU (Dv)).length ahI) (lV gU (Dv)) (iw ByteArray.empty l0 qL) [.string (iw ByteArray.empty l0 qL)] (fun k_=>atA k_∨((fun _=>True)) k_∧wr.heap.size≤k_) (fun _=>False) rfl rfl ?aP (fun _ hk=>hk.elim) ?aF ?aO ?aB ?aS ?aL ?_;(case aP=>exact rfl);(case aB=>exact(ul HB.out));(case aF=>exact(fun k_ hk=> .inr ⟨trivial,hk⟩));(case aO=>exact(ur (aG axp.out (fun _ hk=> .inl hk))));(case aS=>exact(aj (ul HB.out)));(case aL=>have:=Xi.out;omega);intro aPs w29 ho hb hg hat;rw[←al7.out]at ho;have afm:=ak (ho);replace HB:=ak (hb);replace ajv:=ak (aqW (aqX (by repeat(first|exact ajv.out|refine aqY ?_ _|refine aqZ ?_ _|refine axr ?_))) hg (fun k_ e_=> .inl (axp.out.1 k_ e_)));clear ho hb hg hat jQ axp al_;have p26:0≤((Dv):Int):=of_decide_eq_true (by assumption);have q26:((Dv):Int)<((gU.length:Int):Int):=of_decide_eq_true (by assumption);replace p26:=eq_true p26;replace q26:=eq_true q26;obtain⟨aqk,aql,aqm⟩:=aC afm.out;subst aqm;obtain⟨_,_,axt,_,_,atD,_⟩:=amc ajv.out (of_decide_eq_true (by assumption)) (by have h_:((Dv):Int)<((gU.length:Int):Int):=of_decide_eq_true (by assumption);first|exact h_|(have e_:=(axq.out);omega)|simpa using h_);obtain⟨_,atE⟩:=aLq ajv.out (of_decide_eq_true (by assumption)) (by have h_:((Dv):Int)<((gU.length:Int):Int):=of_decide_eq_true (by assumption);first|exact h_|(have e_:=(axq.out);omega)|simpa using h_);have amd:=atD 0 _ rfl;have ame:=atE 0;(try simp only[Nat.add_zero]at amd ame);(try rw[show((Kd.slice 9 Kd.string)).sz=1 from rfl,Nat.mul_one]at amd);(try rw[show((Kd.slice 9 Kd.string)).sz=1 from rfl,Nat.mul_one]at ame);have aq0:=axu ajv.out (of_decide_eq_true (by assumption)) (by have h_:((Dv):Int)<((gU.length:Int):Int):=of_decide_eq_true (by assumption);first|exact h_|(have e_:=(axq.out);omega)|simpa using h_) (seg:=[.slice aqk ahE.length aql]) (j:=0) (show 1≤1 from by decide) (x':=ahE) (XD afm.out) (fun _ hk=>hk);(try simp only[show((Kd.slice 9 Kd.string)).sz=1 from rfl,Nat.mul_one,Nat.add_zero]at aq0);clear atD atE)|((with_reducible refine Du (t:=24) (p:=32) rfl ?_);refine Bl (t:=24) (p:=32) (v:=?aLr) (w1:=(w29.setCell ⟨axj,((Dv):Int).toNat,none⟩ (.slice aqk ahE.length aql))) ?hg ?ho ?hn ?hr ?_;(case ho=>rfl);(case hg=>rfl);(case hn=>rfl);(case hr=>first|(go_simp;done)|(go_simp;rfl));intro w31 hw;have hg:w29.grownBy w31 (some axj):=(by rw[hw];exact aq0.2);have hp_:Kd.S (Kd.slice 9 Kd.string) 24 w31 w.heap.size (fun _=>True) (.slice (some ⟨axj,0,none⟩) gU.length ZL) aC4:=(by rw[hw,al8.out];exact aq0.1);clear aq0;have jQ:=ak (hp_);replace HB:=ak ((by rw[hw];exact vF HB.out aLn.out:Below w.heap.size w w31));clear hg hw hp_ axt afm ajv))
        go_roundg k1
        case measure=>exact kl
        case rel=>exact⟨_,_,rs,H',⟨kl⟩,⟨by(with_reducible repeat(first|apply Kd.eU|apply Kd.eX|apply Kd.iq));exact jQ.out⟩,⟨ul HB.out⟩⟩
    ·obtain⟨rfl,rfl⟩:=s2 H;go_wp2;go_ret2;exact⟨_,er,by first|exact amf _ _ _ _ _|exact amg _ _ _ _ _|exact amh _ _ _ _ _|exact ami _ _ _ _ _|exact aao _ _ _ _ _,ul HB.out⟩
 ·obtain⟨rfl,rfl⟩:=s2 H;go_enter func39,ntmps39;go_wp2_with (refine gA func53 (jV.calls A3.out) ?_;intro nd)
  go_ret2;exact⟨_,er,by first|exact amf _ _ _ _ _|exact amg _ _ _ _ _|exact amh _ _ _ _ _|exact ami _ _ _ _ _|exact aao _ _ _ _ _,ul HB.out⟩
def jW.j0:Nat→Bool→ByteArray→ByteArray→List (eG)→Option (ByteArray×Bool)
 |0,_,_,_,_=>none
 |k+1,Ho,aI_,aJa,aq1=>if Ho=true then(some ((⟨#[]⟩:ByteArray),false))else((pz.f k aq1 (⟨#[98,111,117,110,100,97,114,121]⟩:ByteArray)).bind fun atF=>((jV.f k atF.1).bind fun aDc=>(if aDc=true then(some (atF.1,true))else(some ((⟨#[]⟩:ByteArray),false)))))
def jW.f(k:Nat)(fF:ByteArray)(fK:ByteArray)(aJ:List (eG)):Option (ByteArray×Bool):=(eF.f k fF fK aJ).bind fun aDd=>(if aDd=true then(jW.j0 k (fF.toList !=([109,117,108,116,105,112,97,114,116]:List UInt8)) fF fK aJ)else(jW.j0 k true fF fK aJ))
theorem jW.calls{k fU:Nat}{fF fK r1:ByteArray}{iR:Option Addr}{aJ:List (eG)}{r2:Bool}{w:World}(kZ:Kd.C o9 w iR aJ.length aJ)(lg:aJ.length≤fU)(h:jW.f k fF fK aJ=some (r1,r2)):
  Calls Tryz.prog 49 #[.agg #[.string fF, .string fK, .slice iR aJ.length fU]] w fun e w'=>e= .returned (.tuple #[.string r1, .bool r2])∧Below w.heap.size w w':=by
 have adh:=underlying76;have kK:=ak kZ;have oh:=ak lg;clear kZ lg;have HB:=ak (Below.refl w.heap.size w);unfold jW.f at h;have H:=h;clear h;have HC2:=ak H;clear H;go_enter func49,ntmps49;go_upto_region 1 with(refine bX HB 1 #[.string fF, .string fK, .slice iR aJ.length fU] 76 ?_;intro aDe w3 EX aPt hb;replace HB:=bs HB hb;clear hb)
 (try simp only[Act.put,yX,yY,l_c]);go_cut [13] (fun v13 wc=>∃(kq:Nat) (mg:Bool),v13= .bool mg∧ah (jW.j0 kq mg fF fK aJ=some (r1,r2))∧ah (kq≤k)∧ah (wc.heap[aDe]? =some (.cells #[.string fF, .string fK,(.slice iR aJ.length fU)] 76 (0,0)))∧ah (Below w.heap.size w wc))
 case first=>
  have H:=HC2.out;clear HC2;replace H:=bd H;obtain⟨aDd,A4,H⟩:=H;replace H:=sb H;rcases H with⟨rfl,H⟩|⟨rfl,H⟩
  ·have H':=ak H;clear H;have z6:=iZ EX.out;go_wp2_with (refine gB func80 (eF.calls (cu (aI kK.out HB.out)) oh.out A4.out) ?_;intro w7 hb;replace EX:=kb EX hb;replace HB:=bz HB hb;clear hb;have z8:=iZ EX.out)
   go_meet
   case rel=>exact⟨_,_,rs,H',⟨PV⟩,⟨ub EX.out⟩,⟨bb⟩⟩
  ·have H':=ak H;clear H;have z9:=iZ EX.out;go_wp2_with (refine gB func80 (eF.calls (cu (aI kK.out HB.out)) oh.out A4.out) ?_;intro w10 hb;replace EX:=kb EX hb;replace HB:=bz HB hb;clear hb)
   go_meet
   case rel=>exact⟨_,_,rs,H',⟨PV⟩,⟨ub EX.out⟩,⟨bb⟩⟩
 case rest=>
  clear HC2;obtain⟨kq,mg,rfl,HA,HJ1,EX,HB⟩:=hcut
  cases kq with
  |zero=>exact zz HA.out
  |succ VU=>
   obtain⟨H⟩:=HA;simp only[jW.j0]at H;replace H:=sb H;rcases H with⟨rfl,H⟩|⟨rfl,H⟩
   ·obtain⟨rfl,rfl⟩:=s2 H;go_wp2;go_ret2;exact⟨er,bb⟩
   ·replace H:=bd H;obtain⟨⟨aUu,aUv⟩,A12,H⟩:=H
    (try dsimp only at H);replace H:=bd H;obtain⟨aDc,A13,H⟩:=H;replace H:=sb H;rcases H with⟨rfl,H⟩|⟨rfl,H⟩
    ·obtain⟨rfl,rfl⟩:=s2 H;have z15:=iZ EX.out;go_wp2_with (first|(refine gB func47 (pz.calls (cu (aI kK.out HB.out)) oh.out A12.out) ?_;intro w16 hb;replace EX:=kb EX hb;replace HB:=bz HB hb;clear hb)|(refine gA func53 (jV.calls A13.out) ?_;intro nd))
     go_ret2;exact⟨er,bb⟩
    ·obtain⟨rfl,rfl⟩:=s2 H;have z17:=iZ EX.out;go_wp2_with (first|(refine gB func47 (pz.calls (cu (aI kK.out HB.out)) oh.out A12.out) ?_;intro w18 hb;replace EX:=kb EX hb;replace HB:=bz HB hb;clear hb)|(refine gA func53 (jV.calls A13.out) ?_;intro nd))
     go_ret2;exact⟨er,bb⟩
def jh.f(k:Nat)(dL:List (eG))(dA:List ByteArray)(aJ:List (kE)):Option (ByteArray×Bool):=(pz.f k dL (⟨#[67,111,110,116,101,110,116,45,84,121,112,101]⟩:ByteArray)).bind fun aDf=>((dD.f k aDf.1).bind fun ahK=>(if ahK.2.2.2=true then((jW.f k ahK.1 ahK.2.1 ahK.2.2.1).bind fun atG=>(some (atG.1,atG.2)))else(some ((⟨#[]⟩:ByteArray),false))))
theorem jh.calls{k kD jT fU:Nat}{kC jS iR:Option Addr}{dL:List (eG)}{dA:List ByteArray}{aJ:List (kE)}{r1:ByteArray}{r2:Bool}{w:World}(oK:Kd.C o9 w kC dL.length dL)(oL:dL.length≤kD)(oM:Kd.C Kd.string w jS dA.length dA)(oN:dA.length≤jT)(kZ:Kd.C k27 w iR aJ.length aJ)(lg:aJ.length≤fU)(Bj:MaxOk w)(h:jh.f k dL dA aJ=some (r1,r2)):
  Calls Tryz.prog 29 #[.agg #[.slice kC dL.length kD, .slice jS dA.length jT, .slice iR aJ.length fU]] w fun e w'=>e= .returned (.tuple #[.string r1, .bool r2])∧Below w.heap.size w w':=by
 have Fg:=underlying27;have adh:=underlying76;have rJ:=ak oK;have su:=ak oL;clear oK oL;have vI:=ak oM;have yP:=ak oN;clear oM oN;have kK:=ak kZ;have oh:=ak lg;clear kZ lg;have HG:=ak Bj;clear Bj;have HB:=ak (Below.refl w.heap.size w);unfold jh.f at h;have H:=h;clear h;replace H:=bd H;obtain⟨⟨aUw,aUx⟩,A2,H⟩:=H
 (try dsimp only at H);replace H:=bd H;obtain⟨⟨aLs,aLt,aDg,aUy⟩,A3,H⟩:=H
 (try dsimp only at H);replace H:=sb H;rcases H with⟨rfl,H⟩|⟨rfl,H⟩
 ·replace H:=bd H;obtain⟨⟨aUz,aUA⟩,A5,H⟩:=H
  (try dsimp only at H);obtain⟨rfl,rfl⟩:=s2 H;go_enter func29,ntmps29;go_wp2_with (first|(refine bX HB 1 #[.slice kC dL.length kD, .slice jS dA.length jT, .slice iR aJ.length fU] 27 ?_;intro aDh w6 Aq aDi hb;replace HB:=bs HB hb;clear hb;have z7:=iZ Aq.out)|(refine gB func47 (pz.calls (cu (aI rJ.out HB.out)) su.out A2.out) ?_;intro w8 hb;replace Aq:=kb Aq hb;replace HB:=bz HB hb;clear hb)|(refine gV func48 (dD.calls ?dR A3.out) ?_;(case dR=>first|exact HG.out|exact MaxOk.below HG.out bb|(repeat(first|exact HG.out|apply MaxOk.drewN|apply MaxOk.drew)));rintro aLu w9 ⟨ho0,hb⟩;have Md:=ak (au ho0 (aj bb));replace Aq:=kb Aq hb;replace HB:=bz HB hb;clear hb;(try clear ho0))|(refine bY HB 6 #[.string (⟨#[]⟩:ByteArray), .string (⟨#[]⟩:ByteArray), .slice none 0 0] 76 ?_;intro aDj w10 adz aDk hg hb;have Ut:=yQ Aq hg;have Uu:=yR Aq hg;replace Md:=rb Md hb;replace Aq:=kb Aq hb;replace HB:=bz HB hb;clear hb hg;have aDl:=Uu.out;have aDm:=Ut.out;have z12:=iZ adz.out;obtain⟨Hg,AP,LC⟩:=aC Md.out;subst LC)|(refine gB func49 (jW.calls ?dR ((aA Md.out).2.1) A5.out) ?_;(case dR=>refine(aA (e:=43) (base:=w.heap.size) (ok:=fun k_=>True) (n:=aDg.length) (c:=AP) ?_).2.2;exact(rh Md));intro Xg hb;replace Md:=rg Md hb;replace Aq:=kp Aq #[.slice kC dL.length kD, .slice jS dA.length jT, .slice iR aJ.length fU] hb;replace adz:=kp adz #[.string aLs, .string aLt, .slice Hg aDg.length AP] hb;replace HB:=bz HB hb;clear hb))
  go_ret2;exact⟨er,bb⟩
 ·obtain⟨rfl,rfl⟩:=s2 H;go_enter func29,ntmps29;go_wp2_with (first|(refine bX HB 1 #[.slice kC dL.length kD, .slice jS dA.length jT, .slice iR aJ.length fU] 27 ?_;intro aDh w15 Aq aDi hb;replace HB:=bs HB hb;clear hb;have z16:=iZ Aq.out)|(refine gB func47 (pz.calls (cu (aI rJ.out HB.out)) su.out A2.out) ?_;intro w17 hb;replace Aq:=kb Aq hb;replace HB:=bz HB hb;clear hb)|(refine gV func48 (dD.calls ?dR A3.out) ?_;(case dR=>first|exact HG.out|exact MaxOk.below HG.out bb|(repeat(first|exact HG.out|apply MaxOk.drewN|apply MaxOk.drew)));rintro aLu w18 ⟨ho0,hb⟩;have Md:=ak (au ho0 (aj bb));replace Aq:=kb Aq hb;replace HB:=bz HB hb;clear hb;(try clear ho0))|(refine bY HB 6 #[.string (⟨#[]⟩:ByteArray), .string (⟨#[]⟩:ByteArray), .slice none 0 0] 76 ?_;intro aDj w19 adz aDk hg hb;have Ut:=yQ Aq hg;have Uu:=yR Aq hg;replace Md:=rb Md hb;replace Aq:=kb Aq hb;replace HB:=bz HB hb;clear hb hg;have aDn:=Uu.out;have aDo:=Ut.out;have z21:=iZ adz.out;obtain⟨aUB,aLv,aq2⟩:=aC Md.out;subst aq2))
  go_ret2;exact⟨er,bb⟩
def tJ.f(k:Nat)(a0:ByteArray):Option (Bool):=(bC.f k a0).bind fun aDp=>(some (!aDp))
theorem tJ.calls{k:Nat}{a0:ByteArray}{r:Bool}{w:World}(h:tJ.f k a0=some r):
  Calls Tryz.prog 51 #[.string a0] w fun e w'=>e= .returned (.bool r)∧dS w w':=by
 unfold tJ.f at h;have H:=h;clear h;replace H:=bd H;obtain⟨aDp,A2,H⟩:=H;obtain rfl:=s1 H;go_enter func51,ntmps51;go_wp2_with (refine gA func52 (bC.calls A2.out) ?_;intro nd)
 go_ret;exact⟨rs,dn⟩
def aY.l0:Nat→List ByteArray→Int→Int→Option (Int)
 |0,_,_,_=>none
 |k+1,x0,x7,x8=>if x8<x7 then(if 0≤x8 then(if x8<(x0.length:Int)then((tJ.f k (iw ByteArray.empty x0 x8)).bind fun aDq=>(if aDq=true then(some x8)else(aY.l0 k x0 x7 (wrap64 (x8+1)))))else(none))else(none))else(some (-1))
def aY.f(k:Nat)(l0:List ByteArray):Option (Int):=aY.l0 k l0 (l0.length:Int) 0
theorem aY.calls{k c0:Nat}{A0:Option Addr}{l0:List ByteArray}{r:Int}{w:World}(hr0:Kd.C Kd.string w A0 l0.length l0)(hc0:l0.length≤c0)(h:aY.f k l0=some r):
  Calls Tryz.prog 81 #[.slice A0 l0.length c0, .func (.func 51) #[] #[]] w fun e w'=>e= .returned (.int .i64 r)∧dS w w':=by
 have HR0:=ak hr0;have uV:=ak hc0;clear hr0 hc0;unfold aY.f at h;have H:=h;clear h;have H':=ak H;clear H;go_enter func81,ntmps81;go_wp2;go_loopg [8] k (fun kq v8 w'=>∃(lX:Int),v8= .int .i64 lX∧ah (aY.l0 kq l0 (l0.length:Int) lX=some r)∧ah (kq≤k)∧dS w w')
 case atStart=>exact⟨_,rs,H',⟨Nat.le_refl _⟩,dn⟩
 case round=>
  clear H';obtain⟨lX,rfl,HA,y5,⟨m1,rfl⟩⟩:=hrel
  cases gk with
  |zero=>exact zz HA.out
  |succ k1=>
   obtain⟨H⟩:=HA;simp only[aY.l0]at H;replace H:=sd H;rcases H with⟨iY,H⟩|⟨iY,H⟩
   ·replace H:=nO H;obtain⟨o7,H⟩:=H;replace H:=nO H;obtain⟨mV,H⟩:=H;replace H:=bd H;obtain⟨aDq,A6,H⟩:=H;replace H:=sb H;rcases H with⟨rfl,H⟩|⟨rfl,H⟩
    ·obtain rfl:=s1 H;have afn:=zi lX;have afo:=zj lX l0.length;obtain⟨aDr,axv,aq3⟩:=bZ HR0.out lX afn afo;cases axv;replace afn:=eq_true afn;replace afo:=eq_true afo;go_wp2_with (go_at_call 51;refine mA (tJ.calls A6.out) ?_;intro nd)
     go_ret;exact⟨rs,dn⟩
    ·have H':=ak H;clear H;have afn:=zi lX;have afo:=zj lX l0.length;obtain⟨aDr,axv,aq3⟩:=bZ HR0.out lX afn afo;cases axv;replace afn:=eq_true afn;replace afo:=eq_true afo;go_wp2_with (go_at_call 51;refine mA (tJ.calls A6.out) ?_;intro nd)
     go_roundg k1
     case measure=>exact kl
     case rel=>exact⟨_,rs,H',⟨kl⟩,dn⟩
   ·obtain rfl:=s1 H;go_wp2;go_ret;exact⟨rs,dn⟩
def gI.f(k:Nat)(l0:List ByteArray):Option (Bool):=(aY.f k l0).bind fun aDs=>(some (decide (aDs≥0)))
theorem gI.calls{k c0:Nat}{A0:Option Addr}{l0:List ByteArray}{r:Bool}{w:World}(hr0:Kd.C Kd.string w A0 l0.length l0)(hc0:l0.length≤c0)(h:gI.f k l0=some r):
  Calls Tryz.prog 50 #[.slice A0 l0.length c0, .func (.func 51) #[] #[]] w fun e w'=>e= .returned (.bool r)∧dS w w':=by
 have HR0:=ak hr0;have uV:=ak hc0;clear hr0 hc0;unfold gI.f at h;have H:=h;clear h;replace H:=bd H;obtain⟨aDs,A3,H⟩:=H;obtain rfl:=s1 H;go_enter func50,ntmps50;go_wp2_with (refine gA func81 (aY.calls (cu HR0.out) uV.out A3.out) ?_;intro nd)
 go_ret;exact⟨rs,dn⟩
def uH.f(k:Nat)(l0:List ByteArray)(a1:Int):Option (Bool):=if(l0.length:Int)≤a1 then((gI.f k l0).bind fun aDt=>(some (!aDt)))else(some false)
theorem uH.calls{k c0:Nat}{A0:Option Addr}{l0:List ByteArray}{a1:Int}{r:Bool}{w:World}(hr0:Kd.C Kd.string w A0 l0.length l0)(hc0:l0.length≤c0)(h:uH.f k l0 a1=some r):
  Calls Tryz.prog 30 #[.slice A0 l0.length c0, .int .i64 a1] w fun e w'=>e= .returned (.bool r)∧dS w w':=by
 have HR0:=ak hr0;have uV:=ak hc0;clear hr0 hc0;unfold uH.f at h;have H:=h;clear h;replace H:=sd H;rcases H with⟨iY,H⟩|⟨iY,H⟩
 ·replace H:=bd H;obtain⟨aDt,A4,H⟩:=H;obtain rfl:=s1 H;go_enter func30,ntmps30;go_wp2_with (go_at_call 50;refine mA (gI.calls (cu HR0.out) uV.out A4.out) ?_;intro nd)
  go_ret;exact⟨rs,dn⟩
 ·obtain rfl:=s1 H;go_enter func30,ntmps30;go_wp2;go_ret;exact⟨rs,dn⟩
def bg.l0:Nat→List ByteArray→ByteArray→Int→Int→Option (Int)
 |0,_,_,_,_=>none
 |k+1,x0,x1,x7,x8=>if x8<x7 then(if 0≤x8 then(if x8<(x0.length:Int)then(if x1.toList=(iw ByteArray.empty x0 x8).toList then(some x8)else(bg.l0 k x0 x1 x7 (wrap64 (x8+1))))else(none))else(none))else(some (-1))
def bg.f(k:Nat)(l0:List ByteArray)(a1:ByteArray):Option (Int):=bg.l0 k l0 a1 (l0.length:Int) 0
theorem bg.calls{k c0:Nat}{A0:Option Addr}{l0:List ByteArray}{a1:ByteArray}{r:Int}{w:World}(hr0:Kd.C Kd.string w A0 l0.length l0)(hc0:l0.length≤c0)(h:bg.f k l0 a1=some r):
  Calls Tryz.prog 36 #[.slice A0 l0.length c0, .string a1] w fun e w'=>e= .returned (.int .i64 r)∧dS w w':=by
 have HR0:=ak hr0;have uV:=ak hc0;clear hr0 hc0;unfold bg.f at h;have H:=h;clear h;have H':=ak H;clear H;go_enter func36,ntmps36;go_wp2;go_loopg [8] k (fun kq v8 w'=>∃(lX:Int),v8= .int .i64 lX∧ah (bg.l0 kq l0 a1 (l0.length:Int) lX=some r)∧ah (kq≤k)∧dS w w')
 case atStart=>exact⟨_,rs,H',⟨Nat.le_refl _⟩,dn⟩
 case round=>
  clear H';obtain⟨lX,rfl,HA,y5,⟨m1,rfl⟩⟩:=hrel
  cases gk with
  |zero=>exact zz HA.out
  |succ k1=>
   obtain⟨H⟩:=HA;simp only[bg.l0]at H;replace H:=sd H;rcases H with⟨iY,H⟩|⟨iY,H⟩
   ·replace H:=nO H;obtain⟨o7,H⟩:=H;replace H:=nO H;obtain⟨mV,H⟩:=H;replace H:=sq H;rcases H with⟨nD,AQ,H⟩|⟨c6,nD,AQ,H⟩
    ·obtain rfl:=s1 H;have afp:=zi lX;have afq:=zj lX l0.length;obtain⟨aDu,axw,aq4⟩:=bZ HR0.out lX afp afq;cases axw;replace afp:=eq_true afp;replace afq:=eq_true afq;go_wp2;go_ret;exact⟨rs,dn⟩
    ·have H':=ak H;clear H;have afp:=zi lX;have afq:=zj lX l0.length;obtain⟨aDu,axw,aq4⟩:=bZ HR0.out lX afp afq;cases axw;replace afp:=eq_true afp;replace afq:=eq_true afq;go_wp2;go_roundg k1
     case measure=>exact kl
     case rel=>exact⟨_,rs,H',⟨kl⟩,dn⟩
   ·obtain rfl:=s1 H;go_wp2;go_ret;exact⟨rs,dn⟩
def gq.f(k:Nat)(l0:List ByteArray)(a1:ByteArray):Option (Bool):=(bg.f k l0 a1).bind fun aDv=>(some (decide (aDv≥0)))
theorem gq.calls{k c0:Nat}{A0:Option Addr}{l0:List ByteArray}{a1:ByteArray}{r:Bool}{w:World}(hr0:Kd.C Kd.string w A0 l0.length l0)(hc0:l0.length≤c0)(h:gq.f k l0 a1=some r):
  Calls Tryz.prog 87 #[.slice A0 l0.length c0, .string a1] w fun e w'=>e= .returned (.bool r)∧dS w w':=by
 have HR0:=ak hr0;have uV:=ak hc0;clear hr0 hc0;unfold gq.f at h;have H:=h;clear h;replace H:=bd H;obtain⟨aDv,A3,H⟩:=H;obtain rfl:=s1 H;go_enter func87,ntmps87;go_wp2_with (refine gA func36 (bg.calls (cu HR0.out) uV.out A3.out) ?_;intro nd)
 go_ret;exact⟨rs,dn⟩
def xq.f(k:Nat)(l0:List ByteArray)(a1:ByteArray):Option (Bool):=if 2+a1.size≤9223372036854775807 then((gq.f k l0 ((⟨#[45,45]⟩:ByteArray)++a1)).bind fun aDw=>(if aDw=true then(some true)else(if((⟨#[45,45]⟩:ByteArray)++a1).size+2≤9223372036854775807 then((gq.f k l0 (((⟨#[45,45]⟩:ByteArray)++a1)++(⟨#[45,45]⟩:ByteArray))).bind fun aDx=>(some aDx))else(none))))else(none)
theorem xq.calls{k c0:Nat}{A0:Option Addr}{l0:List ByteArray}{a1:ByteArray}{r:Bool}{w:World}(hr0:Kd.C Kd.string w A0 l0.length l0)(hc0:l0.length≤c0)(h:xq.f k l0 a1=some r):
  Calls Tryz.prog 56 #[.slice A0 l0.length c0, .string a1] w fun e w'=>e= .returned (.bool r)∧dS w w':=by
 have HR0:=ak hr0;have uV:=ak hc0;clear hr0 hc0;unfold xq.f at h;have H:=h;clear h;replace H:=nn H;obtain⟨c3,H⟩:=H;have iY:=eq_true c3;have zN:=decide_eq_true c3;try have VZ:(9223372036854775807<2+a1.size)=False:=eq_false (Nat.not_lt.2 c3)
 replace H:=bd H;obtain⟨aDw,A4,H⟩:=H;replace H:=sb H;rcases H with⟨rfl,H⟩|⟨rfl,H⟩
 ·obtain rfl:=s1 H;go_enter func56,ntmps56;go_wp2_with (refine gA func87 (gq.calls (cu HR0.out) uV.out A4.out) ?_;intro nd)
  go_ret;exact⟨rs,dn⟩
 ·replace H:=nn H;obtain⟨c6,H⟩:=H;have nD:=eq_true c6;have AQ:=decide_eq_true c6;try have aUC:(9223372036854775807<2+a1.size+2)=False:=by have h_:=(eq_false (Nat.not_lt.2 c6):(9223372036854775807<((⟨#[45,45]⟩:ByteArray)++a1).size+2)=False);simp only[ByteArray.size_append]at h_;exact h_
  try have aq5:(9223372036854775807<((⟨#[45,45]⟩:ByteArray)++a1).size+2)=False:=eq_false (Nat.not_lt.2 c6)
  replace H:=bd H;obtain⟨aDx,A7,H⟩:=H;obtain rfl:=s1 H;go_enter func56,ntmps56;go_wp2_with (first|(refine gA func87 (gq.calls (cu HR0.out) uV.out A4.out) ?_;intro nd)|(go_at_call 87;refine mA (gq.calls (cu HR0.out) uV.out A7.out) ?_;intro nd))
  go_ret;exact⟨rs,dn⟩
def qm.f(k:Nat)(l0:List ByteArray)(a1:ByteArray):Option (Bool):=(xq.f k l0 a1).bind fun aDy=>(some aDy)
theorem qm.calls{k c0 gq1:Nat}{A0:Option Addr}{l0:List ByteArray}{a1:ByteArray}{r:Bool}{w:World}(hr0:Kd.C Kd.string w A0 l0.length l0)(hc0:l0.length≤c0)(hq1:w.heap[gq1]? =some (.cells #[.string a1] 9 (0,0)))(h:qm.f k l0 a1=some r):
  Calls Tryz.prog 55 #[.slice A0 l0.length c0, .pointer (some ⟨gq1,0,none⟩)] w fun e w'=>e= .returned (.bool r)∧Below w.heap.size w w':=by
 have HR0:=ak hr0;have uV:=ak hc0;clear hr0 hc0;have zf:=ak hq1;clear hq1;have HB:=ak (Below.refl w.heap.size w);unfold qm.f at h;have H:=h;clear h;replace H:=bd H;obtain⟨aDy,A3,H⟩:=H;obtain rfl:=s1 H;have akY:w.cell? ⟨gq1,0,none⟩=some (.string a1):=(aH zf.out 0).trans rfl;have aLw:=eu zf.out 0;go_enter func55,ntmps55;go_wp2_with (refine gA func56 (xq.calls (cu HR0.out) uV.out A3.out) ?_;intro nd)
 go_ret;exact⟨er,bb⟩
def aZ.l0:Nat→List (List ByteArray)→Int→Int→ByteArray→Option (Int)
 |0,_,_,_,_=>none
 |k+1,x0,x7,x8,Xv=>if x8<x7 then(if 0≤x8 then(if x8<(x0.length:Int)then((qm.f k (lV x0 x8) Xv).bind fun aDz=>(if aDz=true then(some x8)else(aZ.l0 k x0 x7 (wrap64 (x8+1)) Xv)))else(none))else(none))else(some (-1))
def aZ.f(k:Nat)(l0:List (List ByteArray))(Lj:ByteArray):Option (Int):=aZ.l0 k l0 (l0.length:Int) 0 Lj
theorem aZ.calls{k c0 O8:Nat}{A0:Option Addr}{l0:List (List ByteArray)}{Lj:ByteArray}{r:Int}{w:World}(hr0:Kd.C (Kd.slice 9 Kd.string) w A0 l0.length l0)(hc0:l0.length≤c0)(Vs:w.heap[O8]? =some (.cells #[.string Lj] 9 (0,0)))(h:aZ.f k l0 Lj=some r):
  Calls Tryz.prog 86 #[.slice A0 l0.length c0, .func (.func 55) #[] #[.pointer (some ⟨O8,0,none⟩)]] w fun e w'=>e= .returned (.int .i64 r)∧Below w.heap.size w w':=by
 have HR0:=ak hr0;have uV:=ak hc0;clear hr0 hc0;have zf:=ak Vs;clear Vs;have HB:=ak (Below.refl w.heap.size w);unfold aZ.f at h;have H:=h;clear h;have H':=ak H;clear H;go_enter func86,ntmps86;go_wp2;go_loopg [8] k (fun kq v8 w'=>∃(lX:Int),v8= .int .i64 lX∧ah (aZ.l0 kq l0 (l0.length:Int) lX Lj=some r)∧ah (kq≤k)∧ah (w'.heap[O8]? =some (.cells #[.string Lj] 9 (0,0)))∧ah (Below w.heap.size w w'))
 case atStart=>exact⟨_,rs,H',⟨Nat.le_refl _⟩,⟨ub zf.out⟩,⟨bb⟩⟩
 case round=>
  clear H';obtain⟨lX,rfl,HA,y5,zf,HB⟩:=hrel
  cases gk with
  |zero=>exact zz HA.out
  |succ k1=>
   obtain⟨H⟩:=HA;simp only[aZ.l0]at H;replace H:=sd H;rcases H with⟨iY,H⟩|⟨iY,H⟩
   ·replace H:=nO H;obtain⟨o7,H⟩:=H;replace H:=nO H;obtain⟨mV,H⟩:=H;replace H:=bd H;obtain⟨aDz,A6,H⟩:=H;replace H:=sb H;rcases H with⟨rfl,H⟩|⟨rfl,H⟩
    ·obtain rfl:=s1 H;have afr:=zi lX;have afs:=zj lX l0.length;obtain⟨aDA,axx,axy,axz,Q_,Rf,Rh⟩:=FW HR0.out lX afr afs;cases axz;replace Q_:=cl HB.out Q_;have abp:=ak Rh;have abq:=ak Rf;clear Rh Rf;replace afr:=eq_true afr;replace afs:=eq_true afs;go_wp2_with (go_at_call 55;refine mB (qm.calls (cu (aI abp.out HB.out)) abq.out (ub zf.out) A6.out) ?_;intro w8 hb;replace zf:=kb zf hb;replace HB:=bz HB hb;clear hb)
     go_ret;exact⟨er,bb⟩
    ·have H':=ak H;clear H;have afr:=zi lX;have afs:=zj lX l0.length;obtain⟨aDA,axx,axy,axz,Q_,Rf,Rh⟩:=FW HR0.out lX afr afs;cases axz;replace Q_:=cl HB.out Q_;have abp:=ak Rh;have abq:=ak Rf;clear Rh Rf;replace afr:=eq_true afr;replace afs:=eq_true afs;go_wp2_with (go_at_call 55;refine mB (qm.calls (cu (aI abp.out HB.out)) abq.out (ub zf.out) A6.out) ?_;intro w9 hb;replace zf:=kb zf hb;replace HB:=bz HB hb;clear hb)
     go_roundg k1
     case measure=>exact kl
     case rel=>exact⟨_,rs,H',⟨kl⟩,⟨ub zf.out⟩,⟨bb⟩⟩
   ·obtain rfl:=s1 H;go_wp2;go_ret;exact⟨er,bb⟩
def fB.f(k:Nat)(l0:List (List ByteArray))(Lj:ByteArray):Option (Bool):=(aZ.f k l0 Lj).bind fun aDB=>(some (decide (aDB≥0)))
theorem fB.calls{k c0 O8:Nat}{A0:Option Addr}{l0:List (List ByteArray)}{Lj:ByteArray}{r:Bool}{w:World}(hr0:Kd.C (Kd.slice 9 Kd.string) w A0 l0.length l0)(hc0:l0.length≤c0)(Vs:w.heap[O8]? =some (.cells #[.string Lj] 9 (0,0)))(h:fB.f k l0 Lj=some r):
  Calls Tryz.prog 54 #[.slice A0 l0.length c0, .func (.func 55) #[] #[.pointer (some ⟨O8,0,none⟩)]] w fun e w'=>e= .returned (.bool r)∧Below w.heap.size w w':=by
 have HR0:=ak hr0;have uV:=ak hc0;clear hr0 hc0;have zf:=ak Vs;clear Vs;have HB:=ak (Below.refl w.heap.size w);unfold fB.f at h;have H:=h;clear h;replace H:=bd H;obtain⟨aDB,A3,H⟩:=H;obtain rfl:=s1 H;go_enter func54,ntmps54;go_wp2_with (refine gB func86 (aZ.calls (cu HR0.out) uV.out (ub zf.out) A3.out) ?_;intro w4 hb;replace zf:=kb zf hb;replace HB:=bz HB hb;clear hb)
 go_ret;exact⟨er,bb⟩
mutual
def fZ.j0:Nat→List (List ByteArray)→Bool→ByteArray→Option (List ByteArray×Bool)
 |0,_,_,_=>none
 |k+1,x0,x21,Ie=>if x21=true then(some (([]:List ByteArray),false))else(fZ.l0 k (([]:List ByteArray)) x0 (x0.length:Int) 0 Ie)
def fZ.l0:Nat→List ByteArray→List (List ByteArray)→Int→Int→ByteArray→Option (List ByteArray×Bool)
 |0,_,_,_,_,_=>none
 |k+1,x6,x23,x24,x25,Ie=>if x25<x24 then(if 0≤x25 then(if x25<(x23.length:Int)then(if 2+Ie.size≤9223372036854775807 then(if x6.length<8796093022208 then((some (x6++[(⟨#[45,45]⟩:ByteArray)++Ie]:List ByteArray)).bind fun amj=>(if amj.length+(lV x23 x25).length<8796093022208 then(fZ.l0 k (amj++(lV x23 x25)) x23 x24 (wrap64 (x25+1)) Ie)else(none)))else(none))else(none))else(none))else(none))else(if 2+Ie.size≤9223372036854775807 then(if((⟨#[45,45]⟩:ByteArray)++Ie).size+2≤9223372036854775807 then(if x6.length<8796093022208 then(some ((x6++[((⟨#[45,45]⟩:ByteArray)++Ie)++(⟨#[45,45]⟩:ByteArray)]),true))else(none))else(none))else(none))
end
def fZ.f(k:Nat)(l0:List (List ByteArray))(a1:ByteArray):Option (List ByteArray×Bool):=(jV.f k a1).bind fun aDC=>(if aDC=true then(if(l0.length:Int)=0 then(fZ.j0 k l0 true a1)else((fB.f k l0 a1).bind fun aDD=>(fZ.j0 k l0 aDD a1)))else(fZ.j0 k l0 true a1))
theorem fZ.calls{k c0:Nat}{A0:Option Addr}{l0:List (List ByteArray)}{a1:ByteArray}{r1:List ByteArray}{r2:Bool}{w:World}(hr0:Kd.C (Kd.slice 9 Kd.string) w A0 l0.length l0)(hc0:l0.length≤c0)(h:fZ.f k l0 a1=some (r1,r2)):
  Calls Tryz.prog 31 #[.slice A0 l0.length c0, .string a1] w fun e w'=>∃nC:Value,e= .returned (.tuple #[nC, .bool r2])∧Kd.R Kd.string 9 w' w.heap.size (fun _=>True) nC r1∧Below w.heap.size w w':=by
 have HR0:=ak hr0;have uV:=ak hc0;clear hr0 hc0;have HB:=ak (Below.refl w.heap.size w);unfold fZ.f at h;have H:=h;clear h;have Uk:=ak H;clear H;go_enter func31,ntmps31;go_upto_region 1 with(refine gG 3 ?_;refine bX HB 3 #[.string a1] 9 ?_;intro Dj w4 uI aPu hb;replace HB:=bs HB hb;clear hb)
 (try simp only[Act.put,yX,yY,l_c]);go_cut [21] (fun v21 wc=>∃(kq:Nat) (amk:Bool),v21= .bool amk∧ah (fZ.j0 kq l0 amk a1=some (r1,r2))∧ah (kq≤k)∧ah (wc.heap[Dj]? =some (.cells #[.string a1] 9 (0,0)))∧ah (Below w.heap.size w wc))
 case first=>
  have H:=Uk.out;clear Uk;replace H:=bd H;obtain⟨aDC,A5,H⟩:=H;replace H:=sb H;rcases H with⟨rfl,H⟩|⟨rfl,H⟩
  ·replace H:=sp H;rcases H with⟨c7,H⟩|⟨c7,H⟩
   ·have sQ:=beq_iff_eq.mpr c7;have LK:=bne_eq_false_iff_eq.mpr c7;clear c7
    (first|rw[sQ]|(simp only[ig,jO];rw[sQ])|skip);have H':=ak H;clear H;have aLx:w4.cell? ⟨Dj,0,none⟩=some (.string a1):=(aH uI.out 0).trans rfl;have aLy:=eu uI.out 0;go_wp2_with (refine gA func53 (jV.calls A5.out) ?_;intro nd)
    go_meet
    case rel=>exact⟨_,_,rs,H',⟨PV⟩,⟨ub uI.out⟩,⟨bb⟩⟩
   ·have sQ:=beq_eq_false_iff_ne.mpr c7;have LK:=bne_iff_ne.mpr c7;have aLz:¬(l0=[]):=fun h_=>c7 (by rw[h_];rfl)
    (first|rw[sQ]|(simp only[ig,jO];rw[sQ])|skip);replace H:=bd H;obtain⟨aDD,A9,H⟩:=H;have H':=ak H;clear H;have aJb:w4.cell? ⟨Dj,0,none⟩=some (.string a1):=(aH uI.out 0).trans rfl;have aJc:=eu uI.out 0;go_wp2_with (first|(refine gA func53 (jV.calls A5.out) ?_;intro nd)|(go_at_call 54;refine mB (fB.calls (cu (aI HR0.out bb)) uV.out (ub uI.out) A9.out) ?_;intro ZH hb;replace uI:=kb uI hb;replace HB:=bz HB hb;clear hb))
    go_meet
    case rel=>exact⟨_,_,rs,H',⟨PV⟩,⟨ub uI.out⟩,⟨bb⟩⟩
  ·have H':=ak H;clear H;have aqA:w4.cell? ⟨Dj,0,none⟩=some (.string a1):=(aH uI.out 0).trans rfl;have aJd:=eu uI.out 0;go_wp2_with (refine gA func53 (jV.calls A5.out) ?_;intro nd)
   go_meet
   case rel=>exact⟨_,_,rs,H',⟨PV⟩,⟨ub uI.out⟩,⟨bb⟩⟩
 case rest=>
  clear Uk;obtain⟨kq,amk,rfl,HA,HJ2,uI,HB⟩:=hcut
  cases kq with
  |zero=>exact zz HA.out
  |succ kj2=>
   obtain⟨H⟩:=HA;simp only[fZ.j0]at H;replace H:=sb H;rcases H with⟨rfl,H⟩|⟨rfl,H⟩
   ·obtain⟨rfl,rfl⟩:=s2 H;go_wp2;go_ret2;exact⟨_,er,nx,bb⟩
   ·obtain⟨aUD,atH⟩:=nm ([]:List ByteArray);rw[←atH.out]at H;have H':=ak H;clear H;go_wp2_with (refine gG 22 ?_;refine Fh 22 Kd.string 9 atH ?_;intro aUE Xg VT hb;have aDE:=ak (au (jH VT (g:=Dj) (o:= .cells #[.string a1] 9 (0,0)) (ub uI.out)) (aj bb));replace uI:=kb uI hb;replace HB:=bz HB hb;clear hb VT)
    go_loopg [6,25] kj2 (fun kq v6 v25 w'=>∃(wJ:List ByteArray) (Vz:Int),v25= .int .i64 Vz∧ah (fZ.l0 kq wJ l0 (l0.length:Int) Vz a1=some (r1,r2))∧ah (kq≤kj2)∧ah (Kd.R Kd.string 9 w' w.heap.size (fun k_=>k_≠Dj) v6 wJ)∧ah (w'.heap[Dj]? =some (.cells #[.string a1] 9 (0,0)))∧ah (Below w.heap.size w w'))
    case atStart=>exact⟨_,_,rs,H',⟨Nat.le_refl _⟩,⟨ur (aG aDE.out (fun _ hk=>hk.2))⟩,⟨ub uI.out⟩,⟨bb⟩⟩
    case round=>
     clear H';obtain⟨wJ,Vz,rfl,HA,HK2,jQ,uI,HB⟩:=hrel
     cases gk with
     |zero=>exact zz HA.out
     |succ k2=>
      obtain⟨H⟩:=HA;simp only[fZ.l0]at H;replace H:=sd H;rcases H with⟨ER,H⟩|⟨ER,H⟩
      ·replace H:=nO H;obtain⟨wz,H⟩:=H;replace H:=nO H;obtain⟨ES,H⟩:=H;replace H:=nn H;obtain⟨c19,H⟩:=H;have ET:=eq_true c19;have Jp:=decide_eq_true c19;try have al5:(9223372036854775807<2+a1.size)=False:=eq_false (Nat.not_lt.2 c19)
       replace H:=nl H;obtain⟨alq,H⟩:=H;replace H:=ny H;obtain⟨amj,aDF,H⟩:=H;replace H:=nl H;obtain⟨adA,H⟩:=H;obtain⟨aUF,atI⟩:=nm (amj++(lV l0 Vz));rw[←atI.out]at H;have H':=ak H;clear H;have axA:=zi Vz;have axB:=zj Vz l0.length;obtain⟨aPv,aLA,aLB,aLC,ahL,ahM,ahN⟩:=FW HR0.out Vz axA axB;cases aLC;replace ahL:=cl HB.out ahL;have aq6:=ak ahN;have aJe:=ak ahM;clear ahN ahM;replace axA:=eq_true axA;replace axB:=eq_true axB;have aJf:wr.cell? ⟨Dj,0,none⟩=some (.string a1):=(aH uI.out 0).trans rfl;have aJg:=eu uI.out 0;go_wp2_with (first|((with_reducible refine bP (b:= .append) (xs:=#[.tmp 29, .tmp 32]) rfl ?_);(try(refine kT (by rfl) ?_;dsimp only));at_builtin;refine nP Kd.string (w0:=w) w.heap.size rfl (.tmp 29) (.tmp 32) 24 9 (.string ⟨#[]⟩) 16 rfl underlying24 info9 rfl (by decide) (by omega) u6 wJ ((⟨#[45,45]⟩:ByteArray)++a1) [.string ((⟨#[45,45]⟩:ByteArray)++a1)] (fun k_=>k_≠Dj) (fun _=>False) rfl rfl ?aP (fun _ hk=>hk.elim) ?aF ?aO ?aB ?aS ?aL ?_;(case aP=>exact rfl);(case aB=>exact bb);(case aF=>exact(fun k_ hk=>u_ (g:=Dj) (o:= .cells #[.string a1] 9 (0,0)) (ub uI.out) k_ hk));(case aO=>exact(ur jQ.out));(case aS=>exact(aj bb));(case aL=>have:=alq.out;omega);intro aLD w23 ho hb hg hat;rw[←aDF.out]at ho;have aml:=ak (ho);replace uI:=ak (bJ (g:=Dj) (o:= .cells #[.string a1] 9 (0,0)) (ub uI.out) hg (vY jQ.out (fun _ hk=>hk)));replace HB:=ak (hb);clear ho hb hg hat jQ)|((with_reducible refine bP (b:= .append) (xs:=#[.tmp 34, .tmp 35]) rfl ?_);(try(refine kT (by rfl) ?_;dsimp only));at_builtin;refine o_ Kd.string (w0:=w) w.heap.size rfl (.tmp 34) (.tmp 35) 24 9 (.string ⟨#[]⟩) 16 rfl underlying24 info9 rfl (by decide) (by omega) aLD amj (lV l0 Vz) _ _ _ (fun k_=>k_≠Dj) (fun _=>False) rfl rfl ?aO ?aR (fun _ _ h=>h) (fun _ h=>h.elim) ?aF ?aB ?aS ?aL ?_;(case aR=>repeat(first|exact(aI aq6.out HB.out)|(with_reducible refine Kd.lM ?_ _)|(with_reducible refine Kd.lQ ?_ _)|(with_reducible refine Kd.oz ?_)));(case aB=>exact bb);(case aF=>exact(fun k_ hk=>u_ (g:=Dj) (o:= .cells #[.string a1] 9 (0,0)) (ub uI.out) k_ hk));(case aO=>exact(ur aml.out));(case aS=>exact(aj bb));(case aL=>have:=adA.out;omega);intro aUG w24 ho hb hg hat;rw[←atI.out]at ho;have aDG:=ak (ho);replace uI:=ak (bJ (g:=Dj) (o:= .cells #[.string a1] 9 (0,0)) (ub uI.out) hg (vY aml.out (fun _ hk=>hk)));replace HB:=ak (hb);clear ho hb hg hat aml))
       go_roundg k2
       case measure=>exact kl
       case rel=>exact⟨_,_,rs,H',⟨kl⟩,⟨ur aDG.out⟩,⟨ub uI.out⟩,⟨bb⟩⟩
      ·replace H:=nn H;obtain⟨c25,H⟩:=H;have F8:=eq_true c25;have adB:=decide_eq_true c25;try have aDH:(9223372036854775807<2+a1.size)=False:=eq_false (Nat.not_lt.2 c25)
       replace H:=nn H;obtain⟨c26,H⟩:=H;have Q5:=eq_true c26;have ahu:=decide_eq_true c26;try have aPw:(9223372036854775807<2+a1.size+2)=False:=by have h_:=(eq_false (Nat.not_lt.2 c26):(9223372036854775807<((⟨#[45,45]⟩:ByteArray)++a1).size+2)=False);simp only[ByteArray.size_append]at h_;exact h_
       try have aPx:(9223372036854775807<((⟨#[45,45]⟩:ByteArray)++a1).size+2)=False:=eq_false (Nat.not_lt.2 c26)
       replace H:=nl H;obtain⟨ac6,H⟩:=H;obtain⟨aUH,atJ⟩:=nm (wJ++[((⟨#[45,45]⟩:ByteArray)++a1)++(⟨#[45,45]⟩:ByteArray)]);rw[←atJ.out]at H;obtain⟨rfl,rfl⟩:=s2 H;have aJh:wr.cell? ⟨Dj,0,none⟩=some (.string a1):=(aH uI.out 0).trans rfl;have aJi:=eu uI.out 0;go_wp2_with ((with_reducible refine bP (b:= .append) (xs:=#[.tmp 38, .tmp 42]) rfl ?_);(try(refine kT (by rfl) ?_;dsimp only));at_builtin;refine nP Kd.string (w0:=w) w.heap.size rfl (.tmp 38) (.tmp 42) 24 9 (.string ⟨#[]⟩) 16 rfl underlying24 info9 rfl (by decide) (by omega) u6 wJ (((⟨#[45,45]⟩:ByteArray)++a1)++(⟨#[45,45]⟩:ByteArray)) [.string (((⟨#[45,45]⟩:ByteArray)++a1)++(⟨#[45,45]⟩:ByteArray))] (fun k_=>k_≠Dj) (fun _=>False) rfl rfl ?aP (fun _ hk=>hk.elim) ?aF ?aO ?aB ?aS ?aL ?_;(case aP=>exact rfl);(case aB=>exact bb);(case aF=>exact(fun k_ hk=>u_ (g:=Dj) (o:= .cells #[.string a1] 9 (0,0)) (ub uI.out) k_ hk));(case aO=>exact(ur jQ.out));(case aS=>exact(aj bb));(case aL=>have:=ac6.out;omega);intro aUI w29 ho hb hg hat;rw[←atJ.out]at ho;have aDI:=ak (ho);replace uI:=ak (bJ (g:=Dj) (o:= .cells #[.string a1] 9 (0,0)) (ub uI.out) hg (vY jQ.out (fun _ hk=>hk)));replace HB:=ak (hb);clear ho hb hg hat jQ)
       go_ret2;exact⟨_,er,ur (aG aDI.out (fun _ hk=>trivial)),bb⟩
mutual
def aU.j0:Nat→Int→List ByteArray→Bool→List (eG)→List ByteArray→List (kE)→Option (List ByteArray×Bool)
 |0,_,_,_,_,_,_=>none
 |k+1,x1,x6,x27,Ri,Fv,DW=>if x27=true then(some (([]:List ByteArray),false))else(if x6.length<8796093022208 then((some (x6++[(⟨#[]⟩:ByteArray)]:List ByteArray)).bind fun Rj=>((jh.f k Ri Fv DW).bind fun ahO=>(if ahO.2=true then(if(Fv.length:Int)>0 then(aU.j1 k x1 Rj ahO.1 true Ri Fv DW)else(if(DW.length:Int)<1 then(aU.j1 k x1 Rj ahO.1 true Ri Fv DW)else(aU.j1 k x1 Rj ahO.1 (decide ((DW.length:Int)>4)) Ri Fv DW)))else(if Rj.length+Fv.length<8796093022208 then((some (Rj++Fv:List ByteArray)).bind fun axC=>(if(DW.length:Int)=0 then((uH.f k Fv 30).bind fun aDJ=>(some (axC,aDJ)))else(some (axC,false))))else(none)))))else(none))
def aU.j1:Nat→Int→List ByteArray→ByteArray→Bool→List (eG)→List ByteArray→List (kE)→Option (List ByteArray×Bool)
 |0,_,_,_,_,_,_,_=>none
 |k+1,x1,x6,x8,x66,Ri,Fv,DW=>if x66=true then(some (([]:List ByteArray),false))else(aU.l0 k x1 x6 x8 (([]:List (List ByteArray))) DW (DW.length:Int) 0)
def aU.l0:Nat→Int→List ByteArray→ByteArray→List (List ByteArray)→List (kE)→Int→Int→Option (List ByteArray×Bool)
 |0,_,_,_,_,_,_,_=>none
 |k+1,x1,x6,x8,x10,x69,x70,x71=>if x71<x70 then(if 0≤x71 then(if x71<(x69.length:Int)then((aU.f k ((aV x69 x71).f0) ((aV x69 x71).f1) ((aV x69 x71).f2) (wrap64 (x1-1))).bind fun atK=>(if atK.2=true then(if x10.length<5864062014805 then(aU.l0 k x1 x6 x8 (x10++[atK.1]) x69 x70 (wrap64 (x71+1)))else(none))else(some (([]:List ByteArray),false))))else(none))else(none))else((fZ.f k x10 x8).bind fun amm=>(if x6.length+amm.1.length<8796093022208 then(some ((x6++amm.1),amm.2))else(none)))
def aU.f:Nat→List (eG)→List ByteArray→List (kE)→Int→Option (List ByteArray×Bool)
 |0,_,_,_,_=>none
 |k+1,dL,dA,aJ,a1=>(jU.f k dL).bind fun amn=>(if amn.2=true then(aU.j0 k a1 amn.1 (a1==0) dL dA aJ)else(aU.j0 k a1 amn.1 true dL dA aJ))
end
theorem aU.calls(k:Nat):∀(kC:Option Addr) (kD:Nat) (dL:List (eG)) (jS:Option Addr) (jT:Nat) (dA:List ByteArray) (iR:Option Addr) (fU:Nat) (aJ:List (kE)) (a1:Int) (r1:List ByteArray) (r2:Bool) (w:World) (oK:Kd.C o9 w kC dL.length dL) (oL:dL.length≤kD) (oM:Kd.C Kd.string w jS dA.length dA) (oN:dA.length≤jT) (kZ:Kd.C k27 w iR aJ.length aJ) (lg:aJ.length≤fU) (Bj:MaxOk w) (h:aU.f k dL dA aJ a1=some (r1,r2)),
  Calls Tryz.prog 14 #[.agg #[.slice kC dL.length kD, .slice jS dA.length jT, .slice iR aJ.length fU], .int .i64 a1] w fun e w'=>∃nC:Value,e= .returned (.tuple #[nC, .bool r2])∧Kd.R Kd.string 9 w' w.heap.size (fun _=>True) nC r1∧Below w.heap.size w w':=by
 induction k using Nat.strongRecOn with
 |_ k ih=>
 intro kC kD dL jS jT dA iR fU aJ a1 r1 r2 w oK oL oM oN kZ lg Bj h
 cases k with
 |zero=>exact absurd h (by simp[aU.f])
 |succ k=>
 simp only[aU.f]at h;have Fg:=underlying27;have rJ:=ak oK;have su:=ak oL;clear oK oL;have vI:=ak oM;have yP:=ak oN;clear oM oN;have kK:=ak kZ;have oh:=ak lg;clear kZ lg;have HG:=ak Bj;clear Bj;have HB:=ak (Below.refl w.heap.size w);have H:=h;clear h;replace H:=bd H;obtain⟨⟨amo,aUJ⟩,A3,H⟩:=H
 (try dsimp only at H);have HC4:=ak H;clear H;go_enter func14,ntmps14;go_upto_region 2 with(first|(refine gG 2 ?_;refine bX HB 2 #[.slice kC dL.length kD, .slice jS dA.length jT, .slice iR aJ.length fU] 27 ?_;intro EY w5 iV aPy hb;replace HB:=bs HB hb;clear hb;have z6:=iZ iV.out)|(refine gV func28 (jU.calls (cu (aI rJ.out HB.out)) su.out A3.out) ?_;rintro aq7 w7 ⟨ho0,hb⟩;have atL:=ak (au ho0 (aj bb));replace iV:=kb iV hb;replace HB:=bz HB hb;clear hb;(try clear ho0)))
 (try simp only[Act.put,yX,yY,l_c]);go_cut [27] (fun v27 wc=>∃(kq:Nat) (amq:Bool),v27= .bool amq∧ah (aU.j0 kq a1 amo amq dL dA aJ=some (r1,r2))∧ah (kq≤k)∧ah (Kd.R Kd.string 9 wc w.heap.size (fun _=>True) aq7 amo)∧ah (wc.heap[EY]? =some (.cells #[(.slice kC dL.length kD),(.slice jS dA.length jT),(.slice iR aJ.length fU)] 27 (0,0)))∧ah (Below w.heap.size w wc))
 case first=>
  have H:=HC4.out;clear HC4;replace H:=sb H;rcases H with⟨rfl,H⟩|⟨rfl,H⟩
  ·have H':=ak H;clear H;go_wp2;go_meet
   case rel=>exact⟨_,_,rs,H',⟨PV⟩,⟨ur atL.out⟩,⟨ub iV.out⟩,⟨bb⟩⟩
  ·have H':=ak H;clear H;go_wp2;go_meet
   case rel=>exact⟨_,_,rs,H',⟨PV⟩,⟨ur atL.out⟩,⟨ub iV.out⟩,⟨bb⟩⟩
 case rest=>
  clear HC4;obtain⟨kq,amq,rfl,HA,HJ3,jQ,iV,HB⟩:=hcut
  cases kq with
  |zero=>exact zz HA.out
  |succ kj3=>
   obtain⟨H⟩:=HA;simp only[aU.j0]at H;replace H:=sb H;rcases H with⟨rfl,H⟩|⟨rfl,H⟩
   ·obtain⟨rfl,rfl⟩:=s2 H;go_wp2;go_ret2;exact⟨_,er,nx,bb⟩
   ·replace H:=nl H;obtain⟨ac7,H⟩:=H;replace H:=ny H;obtain⟨Rj,amr,H⟩:=H;replace H:=bd H;obtain⟨⟨aDK,aUK⟩,A11,H⟩:=H
    (try dsimp only at H);replace H:=sb H;rcases H with⟨rfl,H⟩|⟨rfl,H⟩
    ·have axD:=ak H;clear H;go_upto_region 8 with(first|((with_reducible refine bP (b:= .append) (xs:=#[.tmp 28, .tmp 29]) rfl ?_);(try(refine kT (by rfl) ?_;dsimp only));at_builtin;refine nP Kd.string (w0:=w) w.heap.size rfl (.tmp 28) (.tmp 29) 24 9 (.string ⟨#[]⟩) 16 rfl underlying24 info9 rfl (by decide) (by omega) aq7 amo (⟨#[]⟩:ByteArray) [.string (⟨#[]⟩:ByteArray)] (fun _=>True) (fun _=>False) rfl rfl ?aP (fun _ hk=>hk.elim) ?aF ?aO ?aB ?aS ?aL ?_;(case aP=>exact rfl);(case aB=>exact bb);(case aF=>exact(fun _ _=>trivial));(case aO=>exact(ur jQ.out));(case aS=>exact(aj bb));(case aL=>have:=ac7.out;omega);intro XG Xg ho hb hg hat;rw[←amr.out]at ho;have zk:=ak (ho);replace iV:=ak (bJ (g:=EY) (o:= .cells #[.slice kC dL.length kD, .slice jS dA.length jT, .slice iR aJ.length fU] 27 (0,0)) (ub iV.out) hg (rM jQ.out iV.out (by decide)));replace HB:=ak (hb);clear ho hb hg hat jQ;have z15:=iZ iV.out)|(refine gB func29 (jh.calls (cu (aI rJ.out HB.out)) su.out (cu (aI vI.out HB.out)) yP.out (cu (aI kK.out HB.out)) oh.out ?yg A11.out) ?_;(case yg=>first|exact HG.out|exact MaxOk.below HG.out bb|(repeat(first|exact HG.out|apply MaxOk.drewN|apply MaxOk.drew)));intro w16 hb;replace zk:=rb zk hb;replace iV:=kb iV hb;replace HB:=bz HB hb;clear hb))
     (try simp only[Act.put,yX,yY,l_c]);go_cut [66] (fun v66 wc=>∃(kq:Nat) (aft:Bool),v66= .bool aft∧ah (aU.j1 kq a1 Rj aDK aft dL dA aJ=some (r1,r2))∧ah (kq≤kj3)∧ah (Kd.R Kd.string 9 wc w.heap.size (fun _=>True) XG Rj)∧ah (wc.heap[EY]? =some (.cells #[(.slice kC dL.length kD),(.slice jS dA.length jT),(.slice iR aJ.length fU)] 27 (0,0)))∧ah (Below w.heap.size w wc))
     case first=>
      have H:=axD.out;clear axD;replace H:=sp H;rcases H with⟨c17,H⟩|⟨c17,H⟩
      ·have wz:decide (0<(dA.length:Int))=true:=decide_eq_true c17;have Pg:decide (0<dA.length)=true:=decide_eq_true (by omega);clear c17
       (first|rw[wz]|(simp only[ig,jO];rw[wz])|skip);have H':=ak H;clear H;have z18:=iZ iV.out;go_wp2;go_meet
       case rel=>exact⟨_,_,rs,H',⟨kl⟩,⟨ur zk.out⟩,⟨ub iV.out⟩,⟨bb⟩⟩
      ·have wz:decide (0<(dA.length:Int))=false:=decide_eq_false c17;have Pg:decide (0<dA.length)=false:=decide_eq_false (by omega);clear c17
       (first|rw[wz]|(simp only[ig,jO];rw[wz])|skip);replace H:=sp H;rcases H with⟨c19,H⟩|⟨c19,H⟩
       ·have ET:=decide_eq_true c19;have Jp:decide (aJ.length<1)=true:=decide_eq_true (by omega);clear c19;have H':=ak H;clear H;have z20:=iZ iV.out;go_wp2;go_meet
        case rel=>exact⟨_,_,rs,H',⟨kl⟩,⟨ur zk.out⟩,⟨ub iV.out⟩,⟨bb⟩⟩
       ·have ET:=decide_eq_false c19;have Jp:decide (aJ.length<1)=false:=decide_eq_false (by omega);clear c19;have H':=ak H;clear H;have z21:=iZ iV.out;go_wp2;go_meet
        case rel=>exact⟨_,_,rs,H',⟨kl⟩,⟨ur zk.out⟩,⟨ub iV.out⟩,⟨bb⟩⟩
     case rest=>
      clear axD;obtain⟨kq,aft,rfl,HA,ams,jQ,iV,HB⟩:=hcut
      cases kq with
      |zero=>exact zz HA.out
      |succ aDL=>
       obtain⟨H⟩:=HA;simp only[aU.j1]at H;replace H:=sb H;rcases H with⟨rfl,H⟩|⟨rfl,H⟩
       ·obtain⟨rfl,rfl⟩:=s2 H;go_wp2;go_ret2;exact⟨_,er,nx,bb⟩
       ·obtain⟨aUL,amu⟩:=nm ([]:List (List ByteArray));rw[←amu.out]at H;have H':=ak H;clear H;go_wp2_with ((with_reducible refine Jt (N:=67) rfl ?_);(try(refine kT (by rfl) ?_;dsimp only));refine aan (Kd.slice 9 Kd.string) _ 24 ?hg (N:=67) ?hd (xs:=([]:List (List ByteArray))) (inner:=[]) (ok:=fun _=>True) (wH:=fun _=>True) ?hr ?hp (fun _ hk=>hk) trivial (Below.refl _ _) (Nat.le_refl _) (by simp) ?_;(case hd=>rfl);(case hg=>rfl);(case hr=>first|(go_simp;done)|(go_simp;rfl));(case hp=>exact(dG.none _ _));intro aUM w23 abr hb Bj vK;clear Bj vK;(first|rw[←amu.out]at abr|(simp only[Int.reduceToNat]at abr;rw[←amu.out]at abr));have aDM:=ak (Ce (XH abr (jl (ur jQ.out))) (aj bb));replace jQ:=rb jQ hb;replace iV:=kb iV hb;replace HB:=bz HB hb;clear hb abr;have z25:=iZ iV.out)
        go_loopg [10,71] aDL (fun kq v10 v71 w'=>∃(adC:List (List ByteArray)) (uY:Int),v71= .int .i64 uY∧ah (aU.l0 kq a1 Rj aDK adC aJ (aJ.length:Int) uY=some (r1,r2))∧ah (kq≤aDL)∧ah (Kd.R Kd.string 9 w' w.heap.size (fun _=>True) XG Rj)∧ah (Kd.S (Kd.slice 9 Kd.string) 24 w' w.heap.size (fun k_=>some k_≠(XG:Value).ownBlock) v10 adC)∧ah (w'.heap[EY]? =some (.cells #[(.slice kC dL.length kD),(.slice jS dA.length jT),(.slice iR aJ.length fU)] 27 (0,0)))∧ah (Below w.heap.size w w'))
        case atStart=>exact⟨_,_,rs,H',⟨Nat.le_refl _⟩,⟨ur jQ.out⟩,⟨by(with_reducible repeat(first|apply Kd.eU|apply Kd.eX|apply Kd.iq));exact um aDM.out (fun _ hk=>hk.2)⟩,⟨ub iV.out⟩,⟨bb⟩⟩
        case round=>
         clear H';obtain⟨adC,uY,rfl,HA,HK3,jQ,zW,iV,HB⟩:=hrel
         cases gk with
         |zero=>exact zz HA.out
         |succ k3=>
          obtain⟨H⟩:=HA;simp only[aU.l0]at H;replace H:=sd H;rcases H with⟨Q5,H⟩|⟨Q5,H⟩
          ·replace H:=nO H;obtain⟨KH,H⟩:=H;replace H:=nO H;obtain⟨LZ,H⟩:=H;replace H:=bd H;obtain⟨⟨ajw,aUN⟩,A29,H⟩:=H
           (try dsimp only at H);replace H:=sb H;rcases H with⟨rfl,H⟩|⟨rfl,H⟩
           ·replace H:=nl H;obtain⟨ac_,H⟩:=H;obtain⟨aUO,atM⟩:=nm (adC++[ajw]);rw[←atM.out]at H;have H':=ak H;clear H;have afu:=zi uY;have afv:=zj uY aJ.length;obtain⟨ahP,Uw,Ux,Uy,Uz,UA,UC,axE,Rk,Rl,Rn,Ro,Rq,Rt,Ru,Rw,Rx⟩:=Et kK.out uY afu afv;cases axE;replace Rk:=cl HB.out Rk;replace Rl:=cl HB.out Rl;replace Rn:=cl HB.out Rn;have abt:=ak Rq;have abu:=ak Ro;clear Rq Ro;have abv:=ak Ru;have abw:=ak Rt;clear Ru Rt;have abx:=ak Rx;have aby:=ak Rw;clear Rx Rw;replace afu:=eq_true afu;replace afv:=eq_true afv;go_wp2_with (first|(refine gG 12 ?_;refine bY HB 12 #[.slice none 0 0, .slice none 0 0, .slice none 0 0] 27 ?_;intro VA w32 KJ aDN hg hb;have UD:=yQ iV hg;have UE:=yR iV hg;replace jQ:=rb jQ hb;replace zW:=ak (Oo (by(with_reducible repeat(first|apply Kd.eU|apply Kd.eX|apply Kd.iq));exact zW.out) hb);replace iV:=kb iV hb;replace HB:=bz HB hb;clear hb hg;have aDO:=UE.out;have aDP:=UD.out;have z34:=iZ KJ.out)|(refine gV func14 (ih k3 (by have:=HJ3.out;have:=ams.out;have:=HK3.out;omega) _ _ ((aV aJ uY).f0) _ _ ((aV aJ uY).f1) _ _ ((aV aJ uY).f2) (wrap64 (a1-1)) ajw true _ (aI abt.out bb) abu.out (aI abv.out bb) abw.out (aI abx.out bb) aby.out ?yg A29.out) ?_;(case yg=>first|exact HG.out|exact MaxOk.below HG.out bb|(repeat(first|exact HG.out|apply MaxOk.drewN|apply MaxOk.drew)));rintro aLE w35 ⟨ho0,hb⟩;have adD:=ak (au (dM ho0 (jl (rh jQ))) (aj bb));replace jQ:=ak (dH (rh jQ) (bK ho0) hb);replace zW:=ak (uf (by(with_reducible repeat(first|apply Kd.eU|apply Kd.eX|apply Kd.iq));exact(um (Ig (p:=⟨VA,2,none⟩) (Ig (p:=⟨VA,1,none⟩) (Ig (p:=⟨VA,0,none⟩) (JM zW.out KJ.out (by decide)) (fun _ hk=>hk.2) (.slice Uw ((aV aJ uY).f0).length Ux)) (fun _ hk=>hk.2) (.slice Uy ((aV aJ uY).f1).length Uz)) (fun _ hk=>hk.2) (.slice UA ((aV aJ uY).f2).length UC)) (fun _ h_=>h_.1))) (bK ho0) hb);replace iV:=kp iV #[.slice kC dL.length kD, .slice jS dA.length jT, .slice (some ahP) aJ.length fU] hb;replace KJ:=kp KJ #[.slice Uw ((aV aJ uY).f0).length Ux, .slice Uy ((aV aJ uY).f1).length Uz, .slice UA ((aV aJ uY).f2).length UC] hb;replace HB:=bz HB hb;clear hb;(try clear ho0);obtain⟨al1,al2,adv⟩:=aC adD.out;subst adv)|((with_reducible refine bP (b:= .append) (xs:=#[.tmp 84, .tmp 86]) rfl ?_);(try(refine kT (by rfl) ?_;dsimp only));at_builtin;refine Ju (Kd.slice 9 Kd.string) (w0:=w) w.heap.size rfl (.tmp 84) (.tmp 86) 56 24 (.slice none 0 0) 24 rfl underlying56 info24 rfl (by decide) (by omega) u10 adC ajw [.slice al1 ajw.length al2] (fun k_=>some k_≠(XG:Value).ownBlock) (fun k_=>some k_=(.slice al1 ajw.length al2:Value).ownBlock) rfl rfl ?aP (fun k_ hk_=>((aG (ok':=fun k_=>((fun k_=>some k_≠(XG:Value).ownBlock)) k_∧some k_≠(u10:Value).ownBlock) (kM (adD.out) (yU zW.out) (by decide)) (fun k_ hk=>⟨hk.1.2,hk.2⟩))).1 k_ hk_.symm) ?aF ?aO ?aB ?aS ?aL ?_;(case aP=>exact XD (aG (Om rfl (aG (ok':=fun k_=>((fun k_=>some k_≠(XG:Value).ownBlock)) k_∧some k_≠(u10:Value).ownBlock) (kM (adD.out) (yU zW.out) (by decide)) (fun k_ hk=>⟨hk.1.2,hk.2⟩))) (fun _ h_=>h_)));(case aB=>exact bb);(case aF=>exact(fun k_ hk=>Kd.fresh' (jl (ur jQ.out)) k_ hk));(case aO=>exact(by(with_reducible repeat(first|apply Kd.eU|apply Kd.eX|apply Kd.iq));exact um zW.out (fun k_ hk=>⟨hk.1,fun e_=>hk.2 e_⟩)));(case aS=>exact(aj bb));(case aL=>have:=ac_.out;omega);intro aUP w36 ho hb hg hat;rw[←atM.out]at ho;have aDQ:=ak (ho);replace jQ:=ak (oO (ur jQ.out) (yU (by(with_reducible repeat(first|apply Kd.eU|apply Kd.eX|apply Kd.iq));exact zW.out)) (by decide) hg);replace iV:=ak (bJ (g:=EY) (o:= .cells #[.slice kC dL.length kD, .slice jS dA.length jT, .slice (some ahP) aJ.length fU] 27 (0,0)) (ub iV.out) hg (aqw zW.out iV.out (by decide)));replace KJ:=ak (bJ (g:=VA) (o:= .cells #[.slice Uw ((aV aJ uY).f0).length Ux, .slice Uy ((aV aJ uY).f1).length Uz, .slice UA ((aV aJ uY).f2).length UC] 27 (0,0)) (ub KJ.out) hg (aqw zW.out KJ.out (by decide)));replace HB:=ak (hb);clear ho hb hg hat zW adD))
            go_roundg k3
            case measure=>have:=HJ3.out;have:=ams.out;have:=HK3.out;omega
            case rel=>exact⟨_,_,rs,H',⟨by have:=HJ3.out;have:=ams.out;have:=HK3.out;omega⟩,⟨ur (aG jQ.out (fun _ hk=>trivial))⟩,⟨by(with_reducible repeat(first|apply Kd.eU|apply Kd.eX|apply Kd.iq));exact aDQ.out⟩,⟨ub iV.out⟩,⟨bb⟩⟩
           ·obtain⟨rfl,rfl⟩:=s2 H;have afu:=zi uY;have afv:=zj uY aJ.length;obtain⟨ahP,Uw,Ux,Uy,Uz,UA,UC,axE,Rk,Rl,Rn,Ro,Rq,Rt,Ru,Rw,Rx⟩:=Et kK.out uY afu afv;cases axE;replace Rk:=cl HB.out Rk;replace Rl:=cl HB.out Rl;replace Rn:=cl HB.out Rn;have abt:=ak Rq;have abu:=ak Ro;clear Rq Ro;have abv:=ak Ru;have abw:=ak Rt;clear Ru Rt;have abx:=ak Rx;have aby:=ak Rw;clear Rx Rw;replace afu:=eq_true afu;replace afv:=eq_true afv;go_wp2_with (first|(refine gG 12 ?_;refine bY HB 12 #[.slice none 0 0, .slice none 0 0, .slice none 0 0] 27 ?_;intro VA w38 KJ aDN hg hb;have UD:=yQ iV hg;have UE:=yR iV hg;replace jQ:=rb jQ hb;replace zW:=ak (Oo (by(with_reducible repeat(first|apply Kd.eU|apply Kd.eX|apply Kd.iq));exact zW.out) hb);replace iV:=kb iV hb;replace HB:=bz HB hb;clear hb hg;have aPz:=UE.out;have aPA:=UD.out;have z40:=iZ KJ.out)|(refine gV func14 (ih k3 (by have:=HJ3.out;have:=ams.out;have:=HK3.out;omega) _ _ ((aV aJ uY).f0) _ _ ((aV aJ uY).f1) _ _ ((aV aJ uY).f2) (wrap64 (a1-1)) ajw false _ (aI abt.out bb) abu.out (aI abv.out bb) abw.out (aI abx.out bb) aby.out ?yg A29.out) ?_;(case yg=>first|exact HG.out|exact MaxOk.below HG.out bb|(repeat(first|exact HG.out|apply MaxOk.drewN|apply MaxOk.drew)));rintro aLE w41 ⟨ho0,hb⟩;have adD:=ak (au (dM ho0 (jl (rh jQ))) (aj bb));replace jQ:=ak (dH (rh jQ) (bK ho0) hb);replace zW:=ak (uf (by(with_reducible repeat(first|apply Kd.eU|apply Kd.eX|apply Kd.iq));exact(um (Ig (p:=⟨VA,2,none⟩) (Ig (p:=⟨VA,1,none⟩) (Ig (p:=⟨VA,0,none⟩) (JM zW.out KJ.out (by decide)) (fun _ hk=>hk.2) (.slice Uw ((aV aJ uY).f0).length Ux)) (fun _ hk=>hk.2) (.slice Uy ((aV aJ uY).f1).length Uz)) (fun _ hk=>hk.2) (.slice UA ((aV aJ uY).f2).length UC)) (fun _ h_=>h_.1))) (bK ho0) hb);replace iV:=kp iV #[.slice kC dL.length kD, .slice jS dA.length jT, .slice (some ahP) aJ.length fU] hb;replace KJ:=kp KJ #[.slice Uw ((aV aJ uY).f0).length Ux, .slice Uy ((aV aJ uY).f1).length Uz, .slice UA ((aV aJ uY).f2).length UC] hb;replace HB:=bz HB hb;clear hb;(try clear ho0)))
            go_ret2;exact⟨_,er,nx,bb⟩
          ·replace H:=bd H;obtain⟨⟨aq8,aUQ⟩,A42,H⟩:=H
           (try dsimp only at H);replace H:=nl H;obtain⟨aDR,H⟩:=H;obtain⟨aUR,atN⟩:=nm (Rj++aq8);rw[←atN.out]at H;obtain⟨rfl,rfl⟩:=s2 H;obtain⟨amv,amw,ajx⟩:=Ci zW.out;subst ajx;go_wp2_with (first|(refine gV func31 (fZ.calls (cu ((rQ zW.out).2.2)) ((rQ zW.out).2.1) A42.out) ?_;rintro aUS w45 ⟨ho0,hb⟩;have adE:=ak (au (dM ho0 (jl (ur jQ.out))) (aj bb));replace jQ:=ak (dH (ur jQ.out) (bK ho0) hb);replace zW:=ak (uf (by(with_reducible repeat(first|apply Kd.eU|apply Kd.eX|apply Kd.iq));exact zW.out) (bK ho0) hb);replace iV:=kb iV hb;replace HB:=bz HB hb;clear hb;(try clear ho0);obtain⟨Ll,Lm,ajy⟩:=aC adE.out;subst ajy)|((with_reducible refine bP (b:= .append) (xs:=#[.tmp 95, .tmp 96]) rfl ?_);(try(refine kT (by rfl) ?_;dsimp only));at_builtin;refine o_ Kd.string (w0:=w) w.heap.size rfl (.tmp 95) (.tmp 96) 24 9 (.string ⟨#[]⟩) 16 rfl underlying24 info9 rfl (by decide) (by omega) XG Rj aq8 _ _ _ (fun k_=>some k_≠(.slice Ll aq8.length Lm:Value).ownBlock) (fun _=>False) rfl rfl ?aO ?aR (fun _ _ h=>h) (fun _ h=>h.elim) ?aF ?aB ?aS ?aL ?_;(case aR=>repeat(first|exact(aA adE.out).2.2|(with_reducible refine Kd.lM ?_ _)|(with_reducible refine Kd.lQ ?_ _)|(with_reducible refine Kd.oz ?_)));(case aB=>exact bb);(case aF=>exact(fun k_ hk=>Kd.fresh' (jl (ur adE.out)) k_ hk));(case aO=>exact(ur (aG jQ.out (fun _ hk=>hk.2))));(case aS=>exact(aj bb));(case aL=>have:=aDR.out;omega);intro aUT w46 ho hb hg hat;rw[←atN.out]at ho;have aDS:=ak (ho);replace zW:=ak (WS (ok:=(fun k_=>some k_≠(.slice Ll aq8.length Lm:Value).ownBlock)) (by(with_reducible repeat(first|apply Kd.eU|apply Kd.eX|apply Kd.iq));exact um zW.out (fun _ hk=>⟨hk.2,hk.1⟩)) hg hat);replace iV:=ak (bJ (g:=EY) (o:= .cells #[.slice kC dL.length kD, .slice jS dA.length jT, .slice iR aJ.length fU] 27 (0,0)) (ub iV.out) hg (rM jQ.out iV.out (by decide)));replace adE:=ak (DV (ok:=(fun _=>True)) (ur adE.out) hg hat);replace HB:=ak (hb);clear ho hb hg hat jQ))
           go_ret2;exact⟨_,er,ur (aG aDS.out (fun _ hk=>trivial)),bb⟩
    ·replace H:=nl H;obtain⟨atO,H⟩:=H;replace H:=ny H;obtain⟨axC,atP,H⟩:=H;replace H:=sp H;rcases H with⟨c49,H⟩|⟨c49,H⟩
     ·have aDT:=beq_iff_eq.mpr c49;have aDU:=bne_eq_false_iff_eq.mpr c49;clear c49;replace H:=bd H;obtain⟨aDJ,A50,H⟩:=H;obtain⟨rfl,rfl⟩:=s2 H;try go_wp2_with (first|((with_reducible refine bP (b:= .append) (xs:=#[.tmp 28, .tmp 29]) rfl ?_);(try(refine kT (by rfl) ?_;dsimp only));at_builtin;refine nP Kd.string (w0:=w) w.heap.size rfl (.tmp 28) (.tmp 29) 24 9 (.string ⟨#[]⟩) 16 rfl underlying24 info9 rfl (by decide) (by omega) aq7 amo (⟨#[]⟩:ByteArray) [.string (⟨#[]⟩:ByteArray)] (fun _=>True) (fun _=>False) rfl rfl ?aP (fun _ hk=>hk.elim) ?aF ?aO ?aB ?aS ?aL ?_;(case aP=>exact rfl);(case aB=>exact bb);(case aF=>exact(fun _ _=>trivial));(case aO=>exact(ur jQ.out));(case aS=>exact(aj bb));(case aL=>have:=ac7.out;omega);intro XG w51 ho hb hg hat;rw[←amr.out]at ho;have zk:=ak (ho);replace iV:=ak (bJ (g:=EY) (o:= .cells #[.slice kC dL.length kD, .slice jS dA.length jT, .slice iR aJ.length fU] 27 (0,0)) (ub iV.out) hg (rM jQ.out iV.out (by decide)));replace HB:=ak (hb);clear ho hb hg hat jQ;have z52:=iZ iV.out)|(refine gB func29 (jh.calls (cu (aI rJ.out HB.out)) su.out (cu (aI vI.out HB.out)) yP.out (cu (aI kK.out HB.out)) oh.out ?yg A11.out) ?_;(case yg=>first|exact HG.out|exact MaxOk.below HG.out bb|(repeat(first|exact HG.out|apply MaxOk.drewN|apply MaxOk.drew)));intro w53 hb;replace zk:=rb zk hb;replace iV:=kb iV hb;replace HB:=bz HB hb;clear hb))
      replace zk:=ak (nI zk.out);replace iV:=ak (jI iV.out);replace HB:=ak (iE HB.out);refine ro [3,11] [0,1,4,2,5,6,7,3,8,9,10,11,12,13,14] (fun w'=>w'.cell? ⟨EY,0,none⟩=some (.slice kC dL.length kD)∧w'.cell? ⟨EY,1,none⟩=some (.slice jS dA.length jT)∧w'.cell? ⟨EY,2,none⟩=some (.slice iR aJ.length fU)) ⟨(aH iV.out 0).trans rfl,(aH iV.out 1).trans rfl,(aH iV.out 2).trans rfl⟩ ?_
      generalize w53.drew=w54 at zk iV HB⊢
      repeat refine Dc ?_
      refine ld (N:=some 41) (gk.trans rfl) rfl rfl (fun K hK=>?_);refine xk Kd.string (w0:=w) w.heap.size (by rfl) (.tmp 38) (.tmp 40) 24 9 (.string ⟨#[]⟩) 16 rfl underlying24 info9 rfl (by decide) (by omega) XG Rj dA _ _ _ (fun _=>True) (fun _=>False) rfl rfl ?aO ?aR (fun _ _ h=>h) (fun _ h=>h.elim) ?aF ?aB ?aS ?aL ?_
      (case aR=>repeat(first|exact(aI vI.out HB.out)|(with_reducible refine Kd.lM ?_ _)|(with_reducible refine Kd.lQ ?_ _)|(with_reducible refine Kd.oz ?_)))
      (case aB=>exact bb)
      (case aF=>exact(fun _ _=>trivial))
      (case aO=>exact(ur zk.out))
      (case aS=>exact(aj bb))
      (case aL=>have:=atO.out;omega);intro aLF w55 ho hb hg hat
      rw[←atP.out]at ho;have Am:=ak (bJ (g:=EY) (o:= .cells #[.slice kC dL.length kD, .slice jS dA.length jT, .slice iR aJ.length fU] 27 (0,0)) (ub iV.out) hg (rM zk.out iV.out (by decide)));have Ap:=ak (hb);have BX:=ak (ho);clear iV HB zk;have iV:=Am;have HB:=Ap;have amx:=BX;clear Am Ap BX ho hb hg hat
      refine hK.out _ _ ⟨(aH iV.out 0).trans rfl,(aH iV.out 1).trans rfl,(aH iV.out 2).trans rfl⟩ ?_;clear hK K;refine no (a':=?_) ?_ ?_
      rotate_left
      ·show Act.put _ (some 41) _=_
       simp only[Act.put,yX,yY,l_c,ig,jO];rfl
      repeat refine Dc ?_
      refine rA func30 (uH.calls (cu (aI vI.out HB.out)) yP.out A50.out) ?_;intro nd;refine⟨sx,?_⟩;repeat refine Dc ?_
      refine on ?_;try go_wp2
      go_ret2;exact⟨_,er,ur amx.out,bb⟩
     ·have aDT:=beq_eq_false_iff_ne.mpr c49;have aDU:=bne_iff_ne.mpr c49;have aPB:¬(aJ=[]):=fun h_=>c49 (by rw[h_];rfl)
      obtain⟨rfl,rfl⟩:=s2 H;try go_wp2_with (first|((with_reducible refine bP (b:= .append) (xs:=#[.tmp 28, .tmp 29]) rfl ?_);(try(refine kT (by rfl) ?_;dsimp only));at_builtin;refine nP Kd.string (w0:=w) w.heap.size rfl (.tmp 28) (.tmp 29) 24 9 (.string ⟨#[]⟩) 16 rfl underlying24 info9 rfl (by decide) (by omega) aq7 amo (⟨#[]⟩:ByteArray) [.string (⟨#[]⟩:ByteArray)] (fun _=>True) (fun _=>False) rfl rfl ?aP (fun _ hk=>hk.elim) ?aF ?aO ?aB ?aS ?aL ?_;(case aP=>exact rfl);(case aB=>exact bb);(case aF=>exact(fun _ _=>trivial));(case aO=>exact(ur jQ.out));(case aS=>exact(aj bb));(case aL=>have:=ac7.out;omega);intro XG w56 ho hb hg hat;rw[←amr.out]at ho;have zk:=ak (ho);replace iV:=ak (bJ (g:=EY) (o:= .cells #[.slice kC dL.length kD, .slice jS dA.length jT, .slice iR aJ.length fU] 27 (0,0)) (ub iV.out) hg (rM jQ.out iV.out (by decide)));replace HB:=ak (hb);clear ho hb hg hat jQ;have z57:=iZ iV.out)|(refine gB func29 (jh.calls (cu (aI rJ.out HB.out)) su.out (cu (aI vI.out HB.out)) yP.out (cu (aI kK.out HB.out)) oh.out ?yg A11.out) ?_;(case yg=>first|exact HG.out|exact MaxOk.below HG.out bb|(repeat(first|exact HG.out|apply MaxOk.drewN|apply MaxOk.drew)));intro w58 hb;replace zk:=rb zk hb;replace iV:=kb iV hb;replace HB:=bz HB hb;clear hb))
      replace zk:=ak (nI zk.out);replace iV:=ak (jI iV.out);replace HB:=ak (iE HB.out);refine ro [3] [0,1,4,2,5,6,7,3,8,9,10,11,12,13,14] (fun w'=>w'.cell? ⟨EY,0,none⟩=some (.slice kC dL.length kD)∧w'.cell? ⟨EY,1,none⟩=some (.slice jS dA.length jT)∧w'.cell? ⟨EY,2,none⟩=some (.slice iR aJ.length fU)) ⟨(aH iV.out 0).trans rfl,(aH iV.out 1).trans rfl,(aH iV.out 2).trans rfl⟩ ?_
      generalize w58.drew=w59 at zk iV HB⊢
      repeat(first|refine Dc ?_|refine lg_ ?_)
      refine ld (N:=some 41) (gk.trans rfl) rfl rfl (fun K hK=>?_);refine xk Kd.string (w0:=w) w.heap.size (by rfl) (.tmp 38) (.tmp 40) 24 9 (.string ⟨#[]⟩) 16 rfl underlying24 info9 rfl (by decide) (by omega) XG Rj dA _ _ _ (fun _=>True) (fun _=>False) rfl rfl ?aO ?aR (fun _ _ h=>h) (fun _ h=>h.elim) ?aF ?aB ?aS ?aL ?_
      (case aR=>repeat(first|exact(aI vI.out HB.out)|(with_reducible refine Kd.lM ?_ _)|(with_reducible refine Kd.lQ ?_ _)|(with_reducible refine Kd.oz ?_)))
      (case aB=>exact bb)
      (case aF=>exact(fun _ _=>trivial))
      (case aO=>exact(ur zk.out))
      (case aS=>exact(aj bb))
      (case aL=>have:=atO.out;omega);intro aLF ZB ho hb hg hat
      rw[←atP.out]at ho;have Am:=ak (bJ (g:=EY) (o:= .cells #[.slice kC dL.length kD, .slice jS dA.length jT, .slice iR aJ.length fU] 27 (0,0)) (ub iV.out) hg (rM zk.out iV.out (by decide)));have Ap:=ak (hb);have BX:=ak (ho);clear iV HB zk;have iV:=Am;have HB:=Ap;have amx:=BX;clear Am Ap BX ho hb hg hat
      refine hK.out _ _ ⟨(aH iV.out 0).trans rfl,(aH iV.out 1).trans rfl,(aH iV.out 2).trans rfl⟩ ?_;clear hK K;refine no (a':=?_) ?_ ?_
      rotate_left
      ·show Act.put _ (some 41) _=_
       simp only[Act.put,yX,yY,l_c,ig,jO];rfl
      repeat(first|refine Dc ?_|refine lg_ ?_)
      refine on ?_;try go_wp2
      go_ret2;exact⟨_,er,ur amx.out,bb⟩
def mY.f(k:Nat)(dL:List (eG))(dA:List ByteArray)(aJ:List (kE)):Option (List ByteArray×Bool):=(aU.f k dL dA aJ 3).bind fun atS=>(if atS.2=true then(some (atS.1,true))else(some (([]:List ByteArray),false)))
theorem mY.calls{k kD jT fU:Nat}{kC jS iR:Option Addr}{dL:List (eG)}{dA r1:List ByteArray}{aJ:List (kE)}{r2:Bool}{w:World}(oK:Kd.C o9 w kC dL.length dL)(oL:dL.length≤kD)(oM:Kd.C Kd.string w jS dA.length dA)(oN:dA.length≤jT)(kZ:Kd.C k27 w iR aJ.length aJ)(lg:aJ.length≤fU)(Bj:MaxOk w)(h:mY.f k dL dA aJ=some (r1,r2)):
  Calls Tryz.prog 5 #[.agg #[.slice kC dL.length kD, .slice jS dA.length jT, .slice iR aJ.length fU]] w fun e w'=>∃nC:Value,e= .returned (.tuple #[nC, .bool r2])∧Kd.R Kd.string 9 w' w.heap.size (fun _=>True) nC r1∧Below w.heap.size w w':=by
 have Fg:=underlying27;have rJ:=ak oK;have su:=ak oL;clear oK oL;have vI:=ak oM;have yP:=ak oN;clear oM oN;have kK:=ak kZ;have oh:=ak lg;clear kZ lg;have HG:=ak Bj;clear Bj;have HB:=ak (Below.refl w.heap.size w);unfold mY.f at h;have H:=h;clear h;replace H:=bd H;obtain⟨⟨aDV,aUU⟩,A2,H⟩:=H
 (try dsimp only at H);replace H:=sb H;rcases H with⟨rfl,H⟩|⟨rfl,H⟩
 ·obtain⟨rfl,rfl⟩:=s2 H;go_enter func5,ntmps5;go_wp2_with (first|(refine bX HB 1 #[.slice kC dL.length kD, .slice jS dA.length jT, .slice iR aJ.length fU] 27 ?_;intro aDW w4 XI aDX hb;replace HB:=bs HB hb;clear hb;have z5:=iZ XI.out)|(refine gV func14 (aU.calls k _ _ dL _ _ dA _ _ aJ 3 aDV true _ (cu (aI rJ.out HB.out)) su.out (cu (aI vI.out HB.out)) yP.out (cu (aI kK.out HB.out)) oh.out ?yg A2.out) ?_;(case yg=>first|exact HG.out|exact MaxOk.below HG.out bb|(repeat(first|exact HG.out|apply MaxOk.drewN|apply MaxOk.drew)));rintro aLG w6 ⟨ho0,hb⟩;have atT:=ak (au ho0 (aj bb));replace XI:=kb XI hb;replace HB:=bz HB hb;clear hb;(try clear ho0)))
  go_ret2;exact⟨_,er,ur atT.out,bb⟩
 ·obtain⟨rfl,rfl⟩:=s2 H;go_enter func5,ntmps5;go_wp2_with (first|(refine bX HB 1 #[.slice kC dL.length kD, .slice jS dA.length jT, .slice iR aJ.length fU] 27 ?_;intro aDW w7 XI aDX hb;replace HB:=bs HB hb;clear hb;have z8:=iZ XI.out)|(refine gV func14 (aU.calls k _ _ dL _ _ dA _ _ aJ 3 aDV false _ (cu (aI rJ.out HB.out)) su.out (cu (aI vI.out HB.out)) yP.out (cu (aI kK.out HB.out)) oh.out ?yg A2.out) ?_;(case yg=>first|exact HG.out|exact MaxOk.below HG.out bb|(repeat(first|exact HG.out|apply MaxOk.drewN|apply MaxOk.drew)));rintro aLG w9 ⟨ho0,hb⟩;have atT:=ak (au ho0 (aj bb));replace XI:=kb XI hb;replace HB:=bz HB hb;clear hb;(try clear ho0)))
  go_ret2;exact⟨_,er,nx,bb⟩
end Go.Proofs.YtdkipechiaploaaGreatDoor.PFnPartText
