/- Printed walks; conditions: those in each statement. -/
import Derived.Test.YtncdadcmghglkaaGreatDoorVFnKidLinesQt
import Derived.Test.YtncdadcmghglkaaGreatDoorVFnKidLinesYt
import Derived.Test.YtncdadcmghglkaaGreatDoorPFnKidLinesx0
import Derived.Test.YtncdadcmghglkaaGreatDoorPFnKidLinesx11
import Derived.Test.YtncdadcmghglkaaGreatDoorPFnKidLinesx15
-- short
-- dense
-- sq
-- sq2
namespace Go.Proofs.YtncdadcmghglkaaGreatDoor.PFnKidLines
open Go.RowKit Go.Proofs.YtncdadcmghglkaaGreatDoor.X Go.Proofs.YtncdadcmghglkaaGreatDoorW.dS Go.Proofs.YtncdadcmghglkaaGreatDoorW.kY Go.Proofs.YtncdadcmghglkaaGreatDoorW.n_
attribute [local go_sem] xM xO AV AX vK vM xP xQ   -- for this text's walks alone
set_option linter.unusedVariables false
set_option maxHeartbeats 8000000
set_option maxRecDepth 100000
set_option linter.unusedSimpArgs false
def iC.j0:Nat→Bool→ByteArray→ByteArray→List (gK)→Option (ByteArray×Bool)
 |0,_,_,_,_=>none
 |k+1,Nh,ayw,ayx,aiI=>if Nh=true then(some ((⟨#[]⟩:ByteArray),false))else((kS.f k aiI (⟨#[98,111,117,110,100,97,114,121]⟩:ByteArray)).bind fun ak2=>((jc.f k ak2.1).bind fun atl=>(if atl=true then(some (ak2.1,true))else(some ((⟨#[]⟩:ByteArray),false)))))
def iC.f (k:Nat) (dX:ByteArray) (eF:ByteArray) (aG:List (gK)):Option (ByteArray×Bool):=(dH.f k dX eF aG).bind fun atm=>(if atm=true then(iC.j0 k (dX.toList !=([109,117,108,116,105,112,97,114,116]:List UInt8)) dX eF aG)else(iC.j0 k true dX eF aG))
theorem iC.calls {k fK:Nat} {dX eF r1:ByteArray} {iL:Option Addr} {aG:List (gK)} {r2:Bool} {w:World} (kT:Kd.C qy w iL aG.length aG) (kU:aG.length≤fK) (h:iC.f k dX eF aG=some (r1,r2)):
  Calls Tryz.prog 49 #[.agg #[.string dX, .string eF, .slice iL aG.length fK]] w fun e w'=>e= .returned (.tuple #[.string r1, .bool r2])∧Below w.heap.size w w':=by
 have U1:=Tryz.underlying61;have jB:=ak kT;have mM:=ak kU;clear kT kU;have HB:=ak (Below.refl w.heap.size w);unfold iC.f at h;have H:=h;clear h;have HC2:=ak H;clear H;go_enter Tryz.func49,Tryz.ntmps49;go_upto_region 1 with(refine bX HB 1 #[.string dX, .string eF, .slice iL aG.length fK] 61 ?_;intro atn w3 AO aDi hb;replace HB:=bs HB hb;clear hb)
 (try simp only[Act.put,Aq,Ar,l_c]);go_cut [13] (fun v13 wc=>∃(kq:Nat) (C9:Bool),v13= .bool C9∧ah (iC.j0 kq C9 dX eF aG=some (r1,r2))∧ah (kq≤k)∧ah (wc.heap[atn]? =some (.cells #[.string dX, .string eF,(.slice iL aG.length fK)] 61 (0,0)))∧ah (Below w.heap.size w wc))
 case first=>
  have H:=HC2.out;clear HC2;replace H:=bd H;obtain⟨atm,A4,H⟩:=H;replace H:=sb H;rcases H with⟨rfl,H⟩|⟨rfl,H⟩
  ·have H':=ak H;clear H;have z6:=kF AO.out;go_wp2_with (refine gB Tryz.func95 (dH.calls (cu (Kd.aX jB.out HB.out)) mM.out A4.out) ?_;intro w7 hb;replace AO:=kb AO hb;replace HB:=bz HB hb;clear hb;have z8:=kF AO.out)
   go_meet
   case rel=>exact⟨_,_,rs,H',⟨Jp⟩,⟨ub AO.out⟩,⟨bb⟩⟩
  ·have H':=ak H;clear H;have z9:=kF AO.out;go_wp2_with (refine gB Tryz.func95 (dH.calls (cu (Kd.aX jB.out HB.out)) mM.out A4.out) ?_;intro w10 hb;replace AO:=kb AO hb;replace HB:=bz HB hb;clear hb)
   go_meet
   case rel=>exact⟨_,_,rs,H',⟨Jp⟩,⟨ub AO.out⟩,⟨bb⟩⟩
 case rest=>
  clear HC2;obtain⟨kq,C9,rfl,HA,HJ1,AO,HB⟩:=hcut
  cases kq with
  |zero=>exact zz HA.out
  |succ O5=>
   obtain⟨H⟩:=HA;simp only[iC.j0]at H;replace H:=sb H;rcases H with⟨rfl,H⟩|⟨rfl,H⟩
   ·obtain⟨rfl,rfl⟩:=s2 H;go_wp2;go_ret2;exact⟨er,bb⟩
   ·replace H:=bd H;obtain⟨⟨aG9,aG_⟩,A12,H⟩:=H
    (try dsimp only at H);replace H:=bd H;obtain⟨atl,A13,H⟩:=H;replace H:=sb H;rcases H with⟨rfl,H⟩|⟨rfl,H⟩
    ·obtain⟨rfl,rfl⟩:=s2 H;have z15:=kF AO.out;go_wp2_with (first|(refine gB Tryz.func47 (kS.calls (cu (Kd.aX jB.out HB.out)) mM.out A12.out) ?_;intro w16 hb;replace AO:=kb AO hb;replace HB:=bz HB hb;clear hb)|(refine gA Tryz.func96 (jc.calls A13.out) ?_;intro nd))
     go_ret2;exact⟨er,bb⟩
    ·obtain⟨rfl,rfl⟩:=s2 H;have z17:=kF AO.out;go_wp2_with (first|(refine gB Tryz.func47 (kS.calls (cu (Kd.aX jB.out HB.out)) mM.out A12.out) ?_;intro w18 hb;replace AO:=kb AO hb;replace HB:=bz HB hb;clear hb)|(refine gA Tryz.func96 (jc.calls A13.out) ?_;intro nd))
     go_ret2;exact⟨er,bb⟩
def kL.f (k:Nat) (dV:List (gK)) (dI:List ByteArray) (aG:List (ng)):Option (ByteArray×Bool):=(kS.f k dV (⟨#[67,111,110,116,101,110,116,45,84,121,112,101]⟩:ByteArray)).bind fun ato=>((bH.f k ato.1).bind fun aaX=>(if aaX.2.2.2=true then((iC.f k aaX.1 aaX.2.1 aaX.2.2.1).bind fun ak3=>(some (ak3.1,ak3.2)))else(some ((⟨#[]⟩:ByteArray),false))))
theorem kL.calls {k jO jJ fK:Nat} {jM jI iL:Option Addr} {dV:List (gK)} {dI:List ByteArray} {aG:List (ng)} {r1:ByteArray} {r2:Bool} {w:World} (oZ:Kd.C qy w jM dV.length dV) (o7:dV.length≤jO) (o8:Kd.C Kd.string w jI dI.length dI) (o9:dI.length≤jJ) (kT:Kd.C k28 w iL aG.length aG) (kU:aG.length≤fK) (DW:MaxOk w) (h:kL.f k dV dI aG=some (r1,r2)):
  Calls Tryz.prog 101 #[.agg #[.slice jM dV.length jO, .slice jI dI.length jJ, .slice iL aG.length fK]] w fun e w'=>e= .returned (.tuple #[.string r1, .bool r2])∧Below w.heap.size w w':=by
 have FV:=Tryz.underlying28;have U1:=Tryz.underlying61;have qA:=ak oZ;have qV:=ak o7;clear oZ o7;have uw:=ak o8;have xR:=ak o9;clear o8 o9;have jB:=ak kT;have mM:=ak kU;clear kT kU;have HG:=ak DW;clear DW;have HB:=ak (Below.refl w.heap.size w);unfold kL.f at h;have H:=h;clear h;replace H:=bd H;obtain⟨⟨aHa,aHb⟩,A2,H⟩:=H
 (try dsimp only at H);replace H:=bd H;obtain⟨⟨aAd,aAe,atp,aHc⟩,A3,H⟩:=H
 (try dsimp only at H);replace H:=sb H;rcases H with⟨rfl,H⟩|⟨rfl,H⟩
 ·replace H:=bd H;obtain⟨⟨aHd,aHe⟩,A5,H⟩:=H
  (try dsimp only at H);obtain⟨rfl,rfl⟩:=s2 H;go_enter Tryz.func101,Tryz.ntmps101;go_wp2_with (first|(refine bX HB 1 #[.slice jM dV.length jO, .slice jI dI.length jJ, .slice iL aG.length fK] 28 ?_;intro atq w6 wH atr hb;replace HB:=bs HB hb;clear hb;have z7:=kF wH.out)|(refine gB Tryz.func47 (kS.calls (cu (Kd.aX qA.out HB.out)) qV.out A2.out) ?_;intro w8 hb;replace wH:=kb wH hb;replace HB:=bz HB hb;clear hb)|(refine gV Tryz.func48 (bH.calls ?fH A3.out) ?_;(case fH=>first|exact HG.out|exact MaxOk.below HG.out bb|(repeat(first|exact HG.out|apply MaxOk.drewN|apply MaxOk.drew)));rintro aAf w9 ⟨ho0,hb⟩;have Gp:=ak (Kd.aA ho0 (aj bb));replace wH:=kb wH hb;replace HB:=bz HB hb;clear hb;(try clear ho0))|(refine bY HB 6 #[.string (⟨#[]⟩:ByteArray), .string (⟨#[]⟩:ByteArray), .slice none 0 0] 61 ?_;intro att w10 Xk atu hg hb;have Np:=CP wH hg;have Nq:=CQ wH hg;replace Gp:=rb Gp hb;replace wH:=kb wH hb;replace HB:=bz HB hb;clear hb hg;have atv:=Nq.out;have atw:=Np.out;have z12:=kF Xk.out;obtain⟨Yr,JQ,UH⟩:=Kd.aI Gp.out;subst UH)|(refine gB Tryz.func49 (iC.calls ?fH ((Kd.ay Gp.out).2.1) A5.out) ?_;(case fH=>refine(Kd.ay (e:=69) (base:=w.heap.size) (ok:=fun k_=>True) (n:=atp.length) (c:=JQ) ?_).2.2;exact(rh Gp));intro UE hb;replace Gp:=rg Gp hb;replace wH:=kp wH #[.slice jM dV.length jO, .slice jI dI.length jJ, .slice iL aG.length fK] hb;replace Xk:=kp Xk #[.string aAd, .string aAe, .slice Yr atp.length JQ] hb;replace HB:=bz HB hb;clear hb))
  go_ret2;exact⟨er,bb⟩
 ·obtain⟨rfl,rfl⟩:=s2 H;go_enter Tryz.func101,Tryz.ntmps101;go_wp2_with (first|(refine bX HB 1 #[.slice jM dV.length jO, .slice jI dI.length jJ, .slice iL aG.length fK] 28 ?_;intro atq w15 wH atr hb;replace HB:=bs HB hb;clear hb;have z16:=kF wH.out)|(refine gB Tryz.func47 (kS.calls (cu (Kd.aX qA.out HB.out)) qV.out A2.out) ?_;intro w17 hb;replace wH:=kb wH hb;replace HB:=bz HB hb;clear hb)|(refine gV Tryz.func48 (bH.calls ?fH A3.out) ?_;(case fH=>first|exact HG.out|exact MaxOk.below HG.out bb|(repeat(first|exact HG.out|apply MaxOk.drewN|apply MaxOk.drew)));rintro aAf w18 ⟨ho0,hb⟩;have Gp:=ak (Kd.aA ho0 (aj bb));replace wH:=kb wH hb;replace HB:=bz HB hb;clear hb;(try clear ho0))|(refine bY HB 6 #[.string (⟨#[]⟩:ByteArray), .string (⟨#[]⟩:ByteArray), .slice none 0 0] 61 ?_;intro att w19 Xk atu hg hb;have Np:=CP wH hg;have Nq:=CQ wH hg;replace Gp:=rb Gp hb;replace wH:=kb wH hb;replace HB:=bz HB hb;clear hb hg;have atx:=Nq.out;have aty:=Np.out;have z21:=kF Xk.out;obtain⟨aAg,aAh,aof⟩:=Kd.aI Gp.out;subst aof))
  go_ret2;exact⟨er,bb⟩
def pR.f (k:Nat) (a0:ByteArray):Option (Bool):=(aZ.f k a0).bind fun atz=>(some (!atz))
theorem pR.calls {k:Nat} {a0:ByteArray} {r:Bool} {w:World} (h:pR.f k a0=some r):
  Calls Tryz.prog 149 #[.string a0] w fun e w'=>e= .returned (.bool r)∧dM w w':=by
 unfold pR.f at h;have H:=h;clear h;replace H:=bd H;obtain⟨atz,A2,H⟩:=H;obtain rfl:=s1 H;go_enter Tryz.func149,Tryz.ntmps149;go_wp2_with (refine gA Tryz.func89 (aZ.calls A2.out) ?_;intro nd)
 go_ret;exact⟨rs,dn⟩
def aT.l0:Nat→List ByteArray→Int→Int→Option (Int)
 |0,_,_,_=>none
 |k+1,x0,x7,x8=>if x8<x7 then(if 0≤x8 then(if x8<(x0.length:Int)then((pR.f k (mW ByteArray.empty x0 x8)).bind fun atA=>(if atA=true then(some x8)else(aT.l0 k x0 x7 (wrap64 (x8+1)))))else(none))else(none))else(some (-1))
def aT.f (k:Nat) (l0:List ByteArray):Option (Int):=aT.l0 k l0 (l0.length:Int) 0
theorem aT.calls {k c0:Nat} {A0:Option Addr} {l0:List ByteArray} {r:Int} {w:World} (hr0:Kd.C Kd.string w A0 l0.length l0) (hc0:l0.length≤c0) (h:aT.f k l0=some r):
  Calls Tryz.prog 173 #[.slice A0 l0.length c0, .func (.func 149) #[] #[]] w fun e w'=>e= .returned (.int .i64 r)∧dM w w':=by
 have HR0:=ak hr0;have yF:=ak hc0;clear hr0 hc0;unfold aT.f at h;have H:=h;clear h;have H':=ak H;clear H;go_enter Tryz.func173,Tryz.ntmps173;go_wp2;go_loopg [8] k (fun kq v8 w'=>∃(kN:Int),v8= .int .i64 kN∧ah (aT.l0 kq l0 (l0.length:Int) kN=some r)∧ah (kq≤k)∧dM w w')
 case atStart=>exact⟨_,rs,H',⟨Nat.le_refl _⟩,dn⟩
 case round=>
  clear H';obtain⟨kN,rfl,HA,yH,⟨m1,rfl⟩⟩:=hrel
  cases gk with
  |zero=>exact zz HA.out
  |succ k1=>
   obtain⟨H⟩:=HA;simp only[aT.l0]at H;replace H:=sd H;rcases H with⟨iH,H⟩|⟨iH,H⟩
   ·replace H:=nS H;obtain⟨qW,H⟩:=H;replace H:=nS H;obtain⟨mQ,H⟩:=H;replace H:=bd H;obtain⟨atA,A6,H⟩:=H;replace H:=sb H;rcases H with⟨rfl,H⟩|⟨rfl,H⟩
    ·obtain rfl:=s1 H;have YV:=zi kN;have YW:=zj kN l0.length;obtain⟨atC,aog,aiJ⟩:=Kd.iJ HR0.out kN YV YW;cases aog;replace YV:=eq_true YV;replace YW:=eq_true YW;go_wp2_with (go_at_call 149;refine mA (pR.calls A6.out) ?_;intro nd)
     go_ret;exact⟨rs,dn⟩
    ·have H':=ak H;clear H;have YV:=zi kN;have YW:=zj kN l0.length;obtain⟨atC,aog,aiJ⟩:=Kd.iJ HR0.out kN YV YW;cases aog;replace YV:=eq_true YV;replace YW:=eq_true YW;go_wp2_with (go_at_call 149;refine mA (pR.calls A6.out) ?_;intro nd)
     go_roundg k1
     case measure=>exact kl
     case rel=>exact⟨_,rs,H',⟨kl⟩,dn⟩
   ·obtain rfl:=s1 H;go_wp2;go_ret;exact⟨rs,dn⟩
def fD.f (k:Nat) (l0:List ByteArray):Option (Bool):=(aT.f k l0).bind fun atD=>(some (decide (atD≥0)))
theorem fD.calls {k c0:Nat} {A0:Option Addr} {l0:List ByteArray} {r:Bool} {w:World} (hr0:Kd.C Kd.string w A0 l0.length l0) (hc0:l0.length≤c0) (h:fD.f k l0=some r):
  Calls Tryz.prog 148 #[.slice A0 l0.length c0, .func (.func 149) #[] #[]] w fun e w'=>e= .returned (.bool r)∧dM w w':=by
 have HR0:=ak hr0;have yF:=ak hc0;clear hr0 hc0;unfold fD.f at h;have H:=h;clear h;replace H:=bd H;obtain⟨atD,A3,H⟩:=H;obtain rfl:=s1 H;go_enter Tryz.func148,Tryz.ntmps148;go_wp2_with (refine gA Tryz.func173 (aT.calls (cu HR0.out) yF.out A3.out) ?_;intro nd)
 go_ret;exact⟨rs,dn⟩
def qp.f (k:Nat) (l0:List ByteArray) (a1:Int):Option (Bool):=if(l0.length:Int)≤a1 then((fD.f k l0).bind fun atE=>(some (!atE)))else(some false)
theorem qp.calls {k c0:Nat} {A0:Option Addr} {l0:List ByteArray} {a1:Int} {r:Bool} {w:World} (hr0:Kd.C Kd.string w A0 l0.length l0) (hc0:l0.length≤c0) (h:qp.f k l0 a1=some r):
  Calls Tryz.prog 105 #[.slice A0 l0.length c0, .int .i64 a1] w fun e w'=>e= .returned (.bool r)∧dM w w':=by
 have HR0:=ak hr0;have yF:=ak hc0;clear hr0 hc0;unfold qp.f at h;have H:=h;clear h;replace H:=sd H;rcases H with⟨iH,H⟩|⟨iH,H⟩
 ·replace H:=bd H;obtain⟨atE,A4,H⟩:=H;obtain rfl:=s1 H;go_enter Tryz.func105,Tryz.ntmps105;go_wp2_with (go_at_call 148;refine mA (fD.calls (cu HR0.out) yF.out A4.out) ?_;intro nd)
  go_ret;exact⟨rs,dn⟩
 ·obtain rfl:=s1 H;go_enter Tryz.func105,Tryz.ntmps105;go_wp2;go_ret;exact⟨rs,dn⟩
def dh.l0:Nat→List ByteArray→ByteArray→Int→Int→Option (Int)
 |0,_,_,_,_=>none
 |k+1,x0,x1,x7,x8=>if x8<x7 then(if 0≤x8 then(if x8<(x0.length:Int)then(if x1.toList=(mW ByteArray.empty x0 x8).toList then(some x8)else(dh.l0 k x0 x1 x7 (wrap64 (x8+1))))else(none))else(none))else(some (-1))
def dh.f (k:Nat) (l0:List ByteArray) (a1:ByteArray):Option (Int):=dh.l0 k l0 a1 (l0.length:Int) 0
theorem dh.calls {k c0:Nat} {A0:Option Addr} {l0:List ByteArray} {a1:ByteArray} {r:Int} {w:World} (hr0:Kd.C Kd.string w A0 l0.length l0) (hc0:l0.length≤c0) (h:dh.f k l0 a1=some r):
  Calls Tryz.prog 99 #[.slice A0 l0.length c0, .string a1] w fun e w'=>e= .returned (.int .i64 r)∧dM w w':=by
 have HR0:=ak hr0;have yF:=ak hc0;clear hr0 hc0;unfold dh.f at h;have H:=h;clear h;have H':=ak H;clear H;go_enter Tryz.func99,Tryz.ntmps99;go_wp2;go_loopg [8] k (fun kq v8 w'=>∃(kN:Int),v8= .int .i64 kN∧ah (dh.l0 kq l0 a1 (l0.length:Int) kN=some r)∧ah (kq≤k)∧dM w w')
 case atStart=>exact⟨_,rs,H',⟨Nat.le_refl _⟩,dn⟩
 case round=>
  clear H';obtain⟨kN,rfl,HA,yH,⟨m1,rfl⟩⟩:=hrel
  cases gk with
  |zero=>exact zz HA.out
  |succ k1=>
   obtain⟨H⟩:=HA;simp only[dh.l0]at H;replace H:=sd H;rcases H with⟨iH,H⟩|⟨iH,H⟩
   ·replace H:=nS H;obtain⟨qW,H⟩:=H;replace H:=nS H;obtain⟨mQ,H⟩:=H;replace H:=sq H;rcases H with⟨nG,xW,H⟩|⟨c6,nG,xW,H⟩
    ·obtain rfl:=s1 H;have YX:=zi kN;have YZ:=zj kN l0.length;obtain⟨atF,aoh,aiK⟩:=Kd.iJ HR0.out kN YX YZ;cases aoh;replace YX:=eq_true YX;replace YZ:=eq_true YZ;go_wp2;go_ret;exact⟨rs,dn⟩
    ·have H':=ak H;clear H;have YX:=zi kN;have YZ:=zj kN l0.length;obtain⟨atF,aoh,aiK⟩:=Kd.iJ HR0.out kN YX YZ;cases aoh;replace YX:=eq_true YX;replace YZ:=eq_true YZ;go_wp2;go_roundg k1
     case measure=>exact kl
     case rel=>exact⟨_,rs,H',⟨kl⟩,dn⟩
   ·obtain rfl:=s1 H;go_wp2;go_ret;exact⟨rs,dn⟩
def fC.f (k:Nat) (l0:List ByteArray) (a1:ByteArray):Option (Bool):=(dh.f k l0 a1).bind fun atG=>(some (decide (atG≥0)))
theorem fC.calls {k c0:Nat} {A0:Option Addr} {l0:List ByteArray} {a1:ByteArray} {r:Bool} {w:World} (hr0:Kd.C Kd.string w A0 l0.length l0) (hc0:l0.length≤c0) (h:fC.f k l0 a1=some r):
  Calls Tryz.prog 175 #[.slice A0 l0.length c0, .string a1] w fun e w'=>e= .returned (.bool r)∧dM w w':=by
 have HR0:=ak hr0;have yF:=ak hc0;clear hr0 hc0;unfold fC.f at h;have H:=h;clear h;replace H:=bd H;obtain⟨atG,A3,H⟩:=H;obtain rfl:=s1 H;go_enter Tryz.func175,Tryz.ntmps175;go_wp2_with (refine gA Tryz.func99 (dh.calls (cu HR0.out) yF.out A3.out) ?_;intro nd)
 go_ret;exact⟨rs,dn⟩
def sW.f (k:Nat) (l0:List ByteArray) (a1:ByteArray):Option (Bool):=if 2+a1.size≤9223372036854775807 then((fC.f k l0 ((⟨#[45,45]⟩:ByteArray)++a1)).bind fun atH=>(if atH=true then(some true)else(if((⟨#[45,45]⟩:ByteArray)++a1).size+2≤9223372036854775807 then((fC.f k l0 (((⟨#[45,45]⟩:ByteArray)++a1)++(⟨#[45,45]⟩:ByteArray))).bind fun atI=>(some atI))else(none))))else(none)
theorem sW.calls {k c0:Nat} {A0:Option Addr} {l0:List ByteArray} {a1:ByteArray} {r:Bool} {w:World} (hr0:Kd.C Kd.string w A0 l0.length l0) (hc0:l0.length≤c0) (h:sW.f k l0 a1=some r):
  Calls Tryz.prog 152 #[.slice A0 l0.length c0, .string a1] w fun e w'=>e= .returned (.bool r)∧dM w w':=by
 have HR0:=ak hr0;have yF:=ak hc0;clear hr0 hc0;unfold sW.f at h;have H:=h;clear h;replace H:=nn H;obtain⟨c3,H⟩:=H;have iH:=eq_true c3;have zH:=decide_eq_true c3;try have acS:(9223372036854775807<2+a1.size)=False:=eq_false (Nat.not_lt.2 c3)
 replace H:=bd H;obtain⟨atH,A4,H⟩:=H;replace H:=sb H;rcases H with⟨rfl,H⟩|⟨rfl,H⟩
 ·obtain rfl:=s1 H;go_enter Tryz.func152,Tryz.ntmps152;go_wp2_with (refine gA Tryz.func175 (fC.calls (cu HR0.out) yF.out A4.out) ?_;intro nd)
  go_ret;exact⟨rs,dn⟩
 ·replace H:=nn H;obtain⟨c6,H⟩:=H;have nG:=eq_true c6;have xW:=decide_eq_true c6;try have aHf:(9223372036854775807<2+a1.size+2)=False:=by have h_:=(eq_false (Nat.not_lt.2 c6):(9223372036854775807<((⟨#[45,45]⟩:ByteArray)++a1).size+2)=False);simp only[ByteArray.size_append]at h_;exact h_
  try have aiL:(9223372036854775807<((⟨#[45,45]⟩:ByteArray)++a1).size+2)=False:=eq_false (Nat.not_lt.2 c6)
  replace H:=bd H;obtain⟨atI,A7,H⟩:=H;obtain rfl:=s1 H;go_enter Tryz.func152,Tryz.ntmps152;go_wp2_with (first|(refine gA Tryz.func175 (fC.calls (cu HR0.out) yF.out A4.out) ?_;intro nd)|(go_at_call 175;refine mA (fC.calls (cu HR0.out) yF.out A7.out) ?_;intro nd))
  go_ret;exact⟨rs,dn⟩
def mY.f (k:Nat) (l0:List ByteArray) (a1:ByteArray):Option (Bool):=(sW.f k l0 a1).bind fun atJ=>(some atJ)
theorem mY.calls {k c0 gq1:Nat} {A0:Option Addr} {l0:List ByteArray} {a1:ByteArray} {r:Bool} {w:World} (hr0:Kd.C Kd.string w A0 l0.length l0) (hc0:l0.length≤c0) (hq1:w.heap[gq1]? =some (.cells #[.string a1] 9 (0,0))) (h:mY.f k l0 a1=some r):
  Calls Tryz.prog 151 #[.slice A0 l0.length c0, .pointer (some ⟨gq1,0,none⟩)] w fun e w'=>e= .returned (.bool r)∧Below w.heap.size w w':=by
 have HR0:=ak hr0;have yF:=ak hc0;clear hr0 hc0;have uP:=ak hq1;clear hq1;have HB:=ak (Below.refl w.heap.size w);unfold mY.f at h;have H:=h;clear h;replace H:=bd H;obtain⟨atJ,A3,H⟩:=H;obtain rfl:=s1 H;have aep:w.cell? ⟨gq1,0,none⟩=some (.string a1):=(aC uP.out 0).trans rfl;have aAi:=gy uP.out 0;go_enter Tryz.func151,Tryz.ntmps151;go_wp2_with (refine gA Tryz.func152 (sW.calls (cu HR0.out) yF.out A3.out) ?_;intro nd)
 go_ret;exact⟨er,bb⟩
def aV.l0:Nat→List (List ByteArray)→Int→Int→ByteArray→Option (Int)
 |0,_,_,_,_=>none
 |k+1,x0,x7,x8,QC=>if x8<x7 then(if 0≤x8 then(if x8<(x0.length:Int)then((mY.f k (qh x0 x8) QC).bind fun atK=>(if atK=true then(some x8)else(aV.l0 k x0 x7 (wrap64 (x8+1)) QC)))else(none))else(none))else(some (-1))
def aV.f (k:Nat) (l0:List (List ByteArray)) (FM:ByteArray):Option (Int):=aV.l0 k l0 (l0.length:Int) 0 FM
theorem aV.calls {k c0 IX:Nat} {A0:Option Addr} {l0:List (List ByteArray)} {FM:ByteArray} {r:Int} {w:World} (hr0:Kd.C (Kd.slice 9 Kd.string) w A0 l0.length l0) (hc0:l0.length≤c0) (OA:w.heap[IX]? =some (.cells #[.string FM] 9 (0,0))) (h:aV.f k l0 FM=some r):
  Calls Tryz.prog 174 #[.slice A0 l0.length c0, .func (.func 151) #[] #[.pointer (some ⟨IX,0,none⟩)]] w fun e w'=>e= .returned (.int .i64 r)∧Below w.heap.size w w':=by
 have HR0:=ak hr0;have yF:=ak hc0;clear hr0 hc0;have uP:=ak OA;clear OA;have HB:=ak (Below.refl w.heap.size w);unfold aV.f at h;have H:=h;clear h;have H':=ak H;clear H;go_enter Tryz.func174,Tryz.ntmps174;go_wp2;go_loopg [8] k (fun kq v8 w'=>∃(kN:Int),v8= .int .i64 kN∧ah (aV.l0 kq l0 (l0.length:Int) kN FM=some r)∧ah (kq≤k)∧ah (w'.heap[IX]? =some (.cells #[.string FM] 9 (0,0)))∧ah (Below w.heap.size w w'))
 case atStart=>exact⟨_,rs,H',⟨Nat.le_refl _⟩,⟨ub uP.out⟩,⟨bb⟩⟩
 case round=>
  clear H';obtain⟨kN,rfl,HA,yH,uP,HB⟩:=hrel
  cases gk with
  |zero=>exact zz HA.out
  |succ k1=>
   obtain⟨H⟩:=HA;simp only[aV.l0]at H;replace H:=sd H;rcases H with⟨iH,H⟩|⟨iH,H⟩
   ·replace H:=nS H;obtain⟨qW,H⟩:=H;replace H:=nS H;obtain⟨mQ,H⟩:=H;replace H:=bd H;obtain⟨atK,A6,H⟩:=H;replace H:=sb H;rcases H with⟨rfl,H⟩|⟨rfl,H⟩
    ·obtain rfl:=s1 H;have Y0:=zi kN;have Y1:=zj kN l0.length;obtain⟨atL,aoi,aoj,aok,Kq,Kr,Kt⟩:=EZ HR0.out kN Y0 Y1;cases aok;replace Kq:=cl HB.out Kq;have U8:=ak Kt;have U9:=ak Kr;clear Kt Kr;replace Y0:=eq_true Y0;replace Y1:=eq_true Y1;go_wp2_with (go_at_call 151;refine mB (mY.calls (cu (Kd.aX U8.out HB.out)) U9.out (ub uP.out) A6.out) ?_;intro w8 hb;replace uP:=kb uP hb;replace HB:=bz HB hb;clear hb)
     go_ret;exact⟨er,bb⟩
    ·have H':=ak H;clear H;have Y0:=zi kN;have Y1:=zj kN l0.length;obtain⟨atL,aoi,aoj,aok,Kq,Kr,Kt⟩:=EZ HR0.out kN Y0 Y1;cases aok;replace Kq:=cl HB.out Kq;have U8:=ak Kt;have U9:=ak Kr;clear Kt Kr;replace Y0:=eq_true Y0;replace Y1:=eq_true Y1;go_wp2_with (go_at_call 151;refine mB (mY.calls (cu (Kd.aX U8.out HB.out)) U9.out (ub uP.out) A6.out) ?_;intro w9 hb;replace uP:=kb uP hb;replace HB:=bz HB hb;clear hb)
     go_roundg k1
     case measure=>exact kl
     case rel=>exact⟨_,rs,H',⟨kl⟩,⟨ub uP.out⟩,⟨bb⟩⟩
   ·obtain rfl:=s1 H;go_wp2;go_ret;exact⟨er,bb⟩
def dN.f (k:Nat) (l0:List (List ByteArray)) (FM:ByteArray):Option (Bool):=(aV.f k l0 FM).bind fun atM=>(some (decide (atM≥0)))
theorem dN.calls {k c0 IX:Nat} {A0:Option Addr} {l0:List (List ByteArray)} {FM:ByteArray} {r:Bool} {w:World} (hr0:Kd.C (Kd.slice 9 Kd.string) w A0 l0.length l0) (hc0:l0.length≤c0) (OA:w.heap[IX]? =some (.cells #[.string FM] 9 (0,0))) (h:dN.f k l0 FM=some r):
  Calls Tryz.prog 150 #[.slice A0 l0.length c0, .func (.func 151) #[] #[.pointer (some ⟨IX,0,none⟩)]] w fun e w'=>e= .returned (.bool r)∧Below w.heap.size w w':=by
 have HR0:=ak hr0;have yF:=ak hc0;clear hr0 hc0;have uP:=ak OA;clear OA;have HB:=ak (Below.refl w.heap.size w);unfold dN.f at h;have H:=h;clear h;replace H:=bd H;obtain⟨atM,A3,H⟩:=H;obtain rfl:=s1 H;go_enter Tryz.func150,Tryz.ntmps150;go_wp2_with (refine gB Tryz.func174 (aV.calls (cu HR0.out) yF.out (ub uP.out) A3.out) ?_;intro w4 hb;replace uP:=kb uP hb;replace HB:=bz HB hb;clear hb)
 go_ret;exact⟨er,bb⟩
mutual
def eY.j0:Nat→List (List ByteArray)→Bool→ByteArray→Option (List ByteArray×Bool)
 |0,_,_,_=>none
 |k+1,x0,x21,Dj=>if x21=true then(some (([]:List ByteArray),false))else(eY.l0 k (([]:List ByteArray)) x0 (x0.length:Int) 0 Dj)
def eY.l0:Nat→List ByteArray→List (List ByteArray)→Int→Int→ByteArray→Option (List ByteArray×Bool)
 |0,_,_,_,_,_=>none
 |k+1,x6,x23,x24,x25,Dj=>if x25<x24 then(if 0≤x25 then(if x25<(x23.length:Int)then(if 2+Dj.size≤9223372036854775807 then(if x6.length<8796093022208 then((some (x6++[(⟨#[45,45]⟩:ByteArray)++Dj]:List ByteArray)).bind fun afu=>(if afu.length+(qh x23 x25).length<8796093022208 then(eY.l0 k (afu++(qh x23 x25)) x23 x24 (wrap64 (x25+1)) Dj)else(none)))else(none))else(none))else(none))else(none))else(if 2+Dj.size≤9223372036854775807 then(if((⟨#[45,45]⟩:ByteArray)++Dj).size+2≤9223372036854775807 then(if x6.length<8796093022208 then(some ((x6++[((⟨#[45,45]⟩:ByteArray)++Dj)++(⟨#[45,45]⟩:ByteArray)]),true))else(none))else(none))else(none))
end
def eY.f (k:Nat) (l0:List (List ByteArray)) (a1:ByteArray):Option (List ByteArray×Bool):=(jc.f k a1).bind fun atN=>(if atN=true then(if(l0.length:Int)=0 then(eY.j0 k l0 true a1)else((dN.f k l0 a1).bind fun atO=>(eY.j0 k l0 atO a1)))else(eY.j0 k l0 true a1))
theorem eY.calls {k c0:Nat} {A0:Option Addr} {l0:List (List ByteArray)} {a1:ByteArray} {r1:List ByteArray} {r2:Bool} {w:World} (hr0:Kd.C (Kd.slice 9 Kd.string) w A0 l0.length l0) (hc0:l0.length≤c0) (h:eY.f k l0 a1=some (r1,r2)):
  Calls Tryz.prog 106 #[.slice A0 l0.length c0, .string a1] w fun e w'=>∃oD:Value,e= .returned (.tuple #[oD, .bool r2])∧Kd.R Kd.string 9 w' w.heap.size (fun _=>True) oD r1∧Below w.heap.size w w':=by
 have HR0:=ak hr0;have yF:=ak hc0;clear hr0 hc0;have HB:=ak (Below.refl w.heap.size w);unfold eY.f at h;have H:=h;clear h;have Qo:=ak H;clear H;go_enter Tryz.func106,Tryz.ntmps106;go_upto_region 1 with(refine gG 3 ?_;refine bX HB 3 #[.string a1] 9 ?_;intro yM w4 qx aDj hb;replace HB:=bs HB hb;clear hb)
 (try simp only[Act.put,Aq,Ar,l_c]);go_cut [21] (fun v21 wc=>∃(kq:Nat) (afv:Bool),v21= .bool afv∧ah (eY.j0 kq l0 afv a1=some (r1,r2))∧ah (kq≤k)∧ah (wc.heap[yM]? =some (.cells #[.string a1] 9 (0,0)))∧ah (Below w.heap.size w wc))
 case first=>
  have H:=Qo.out;clear Qo;replace H:=bd H;obtain⟨atN,A5,H⟩:=H;replace H:=sb H;rcases H with⟨rfl,H⟩|⟨rfl,H⟩
  ·replace H:=sp H;rcases H with⟨c7,H⟩|⟨c7,H⟩
   ·have qO:=beq_iff_eq.mpr c7;have Jl:=bne_eq_false_iff_eq.mpr c7;clear c7
    (first|rw[qO]|(simp only[iP,jZ];rw[qO])|skip);have H':=ak H;clear H;have aAj:w4.cell? ⟨yM,0,none⟩=some (.string a1):=(aC qx.out 0).trans rfl;have aAk:=gy qx.out 0;go_wp2_with (refine gA Tryz.func96 (jc.calls A5.out) ?_;intro nd)
    go_meet
    case rel=>exact⟨_,_,rs,H',⟨Jp⟩,⟨ub qx.out⟩,⟨bb⟩⟩
   ·have qO:=beq_eq_false_iff_ne.mpr c7;have Jl:=bne_iff_ne.mpr c7;have aAl:¬(l0=[]):=fun h_=>c7 (by rw[h_];rfl)
    (first|rw[qO]|(simp only[iP,jZ];rw[qO])|skip);replace H:=bd H;obtain⟨atO,A9,H⟩:=H;have H':=ak H;clear H;have ayy:w4.cell? ⟨yM,0,none⟩=some (.string a1):=(aC qx.out 0).trans rfl;have ayz:=gy qx.out 0;go_wp2_with (first|(refine gA Tryz.func96 (jc.calls A5.out) ?_;intro nd)|(go_at_call 150;refine mB (dN.calls (cu (Kd.aX HR0.out bb)) yF.out (ub qx.out) A9.out) ?_;intro WI hb;replace qx:=kb qx hb;replace HB:=bz HB hb;clear hb))
    go_meet
    case rel=>exact⟨_,_,rs,H',⟨Jp⟩,⟨ub qx.out⟩,⟨bb⟩⟩
  ·have H':=ak H;clear H;have aii:w4.cell? ⟨yM,0,none⟩=some (.string a1):=(aC qx.out 0).trans rfl;have ayA:=gy qx.out 0;go_wp2_with (refine gA Tryz.func96 (jc.calls A5.out) ?_;intro nd)
   go_meet
   case rel=>exact⟨_,_,rs,H',⟨Jp⟩,⟨ub qx.out⟩,⟨bb⟩⟩
 case rest=>
  clear Qo;obtain⟨kq,afv,rfl,HA,HJ2,qx,HB⟩:=hcut
  cases kq with
  |zero=>exact zz HA.out
  |succ kj2=>
   obtain⟨H⟩:=HA;simp only[eY.j0]at H;replace H:=sb H;rcases H with⟨rfl,H⟩|⟨rfl,H⟩
   ·obtain⟨rfl,rfl⟩:=s2 H;go_wp2;go_ret2;exact⟨_,er,nx,bb⟩
   ·obtain⟨aHg,ak4⟩:=nm ([]:List ByteArray);rw[←ak4.out]at H;have H':=ak H;clear H;go_wp2_with (refine gG 22 ?_;refine Hy 22 Kd.string 9 ak4 ?_;intro aHh UE O4 hb;have atP:=ak (Kd.aA (Kd.ni O4 (g:=yM) (o:= .cells #[.string a1] 9 (0,0)) (ub qx.out)) (aj bb));replace qx:=kb qx hb;replace HB:=bz HB hb;clear hb O4)
    go_loopg [6,25] kj2 (fun kq v6 v25 w'=>∃(CS:List ByteArray) (OH:Int),v25= .int .i64 OH∧ah (eY.l0 kq CS l0 (l0.length:Int) OH a1=some (r1,r2))∧ah (kq≤kj2)∧ah (Kd.R Kd.string 9 w' w.heap.size (fun k_=>k_≠yM) v6 CS)∧ah (w'.heap[yM]? =some (.cells #[.string a1] 9 (0,0)))∧ah (Below w.heap.size w w'))
    case atStart=>exact⟨_,_,rs,H',⟨Nat.le_refl _⟩,⟨ur (Kd.aQ atP.out (fun _ hk=>hk.2))⟩,⟨ub qx.out⟩,⟨bb⟩⟩
    case round=>
     clear H';obtain⟨CS,OH,rfl,HA,HK2,jh,qx,HB⟩:=hrel
     cases gk with
     |zero=>exact zz HA.out
     |succ k2=>
      obtain⟨H⟩:=HA;simp only[eY.l0]at H;replace H:=sd H;rcases H with⟨AA,H⟩|⟨AA,H⟩
      ·replace H:=nS H;obtain⟨rQ,H⟩:=H;replace H:=nS H;obtain⟨vY,H⟩:=H;replace H:=nn H;obtain⟨c19,H⟩:=H;have AB:=eq_true c19;have Ea:=decide_eq_true c19;try have aff:(9223372036854775807<2+a1.size)=False:=eq_false (Nat.not_lt.2 c19)
       replace H:=nl H;obtain⟨aeU,H⟩:=H;replace H:=ny H;obtain⟨afu,atQ,H⟩:=H;replace H:=nl H;obtain⟨Xl,H⟩:=H;obtain⟨aHi,ak5⟩:=nm (afu++(qh l0 OH));rw[←ak5.out]at H;have H':=ak H;clear H;have aol:=zi OH;have aom:=zj OH l0.length;obtain⟨aDk,aAm,aAn,aAo,aaY,aaZ,aa0⟩:=EZ HR0.out OH aol aom;cases aAo;replace aaY:=cl HB.out aaY;have aiM:=ak aa0;have ayB:=ak aaZ;clear aa0 aaZ;replace aol:=eq_true aol;replace aom:=eq_true aom;have ayC:wr.cell? ⟨yM,0,none⟩=some (.string a1):=(aC qx.out 0).trans rfl;have ayD:=gy qx.out 0;go_wp2_with (first|((with_reducible refine dO (b:= .append) (xs:=#[.tmp 29, .tmp 32]) rfl ?_);(try(refine lu (by rfl) ?_;dsimp only));at_builtin;refine Kd.oI Kd.string (w0:=w) w.heap.size rfl (.tmp 29) (.tmp 32) 23 9 (.string ⟨#[]⟩) 16 rfl Tryz.underlying23 info9 rfl (by decide) (by omega) u6 CS ((⟨#[45,45]⟩:ByteArray)++a1) [.string ((⟨#[45,45]⟩:ByteArray)++a1)] (fun k_=>k_≠yM) (fun _=>False) rfl rfl ?aP (fun _ hk=>hk.elim) ?aF ?aO ?aB ?aS ?aL ?_;(case aP=>exact rfl);(case aB=>exact bb);(case aF=>exact(fun k_ hk=>Kd.yN (g:=yM) (o:= .cells #[.string a1] 9 (0,0)) (ub qx.out) k_ hk));(case aO=>exact(ur jh.out));(case aS=>exact(aj bb));(case aL=>have:=aeU.out;omega);intro aAp w23 ho hb hg hat;rw[←atQ.out]at ho;have afw:=ak (ho);replace qx:=ak (b_ (g:=yM) (o:= .cells #[.string a1] 9 (0,0)) (ub qx.out) hg (Kd.Ac jh.out (fun _ hk=>hk)));replace HB:=ak (hb);clear ho hb hg hat jh)|((with_reducible refine dO (b:= .append) (xs:=#[.tmp 34, .tmp 35]) rfl ?_);(try(refine lu (by rfl) ?_;dsimp only));at_builtin;refine Kd.qj Kd.string (w0:=w) w.heap.size rfl (.tmp 34) (.tmp 35) 23 9 (.string ⟨#[]⟩) 16 rfl Tryz.underlying23 info9 rfl (by decide) (by omega) aAp afu (qh l0 OH) _ _ _ (fun k_=>k_≠yM) (fun _=>False) rfl rfl ?aO ?aR (fun _ _ h=>h) (fun _ h=>h.elim) ?aF ?aB ?aS ?aL ?_;(case aR=>repeat(first|exact(Kd.aX aiM.out HB.out)|(with_reducible refine Kd.ji ?_ _)|(with_reducible refine Kd.jk ?_ _)|(with_reducible refine Kd.kM ?_)));(case aB=>exact bb);(case aF=>exact(fun k_ hk=>Kd.yN (g:=yM) (o:= .cells #[.string a1] 9 (0,0)) (ub qx.out) k_ hk));(case aO=>exact(ur afw.out));(case aS=>exact(aj bb));(case aL=>have:=Xl.out;omega);intro aHj w24 ho hb hg hat;rw[←ak5.out]at ho;have atS:=ak (ho);replace qx:=ak (b_ (g:=yM) (o:= .cells #[.string a1] 9 (0,0)) (ub qx.out) hg (Kd.Ac afw.out (fun _ hk=>hk)));replace HB:=ak (hb);clear ho hb hg hat afw))
       go_roundg k2
       case measure=>exact kl
       case rel=>exact⟨_,_,rs,H',⟨kl⟩,⟨ur atS.out⟩,⟨ub qx.out⟩,⟨bb⟩⟩
      ·replace H:=nn H;obtain⟨c25,H⟩:=H;have Qs:=eq_true c25;have afx:=decide_eq_true c25;try have atT:(9223372036854775807<2+a1.size)=False:=eq_false (Nat.not_lt.2 c25)
       replace H:=nn H;obtain⟨c26,H⟩:=H;have OB:=eq_true c26;have aaH:=decide_eq_true c26;try have aDl:(9223372036854775807<2+a1.size+2)=False:=by have h_:=(eq_false (Nat.not_lt.2 c26):(9223372036854775807<((⟨#[45,45]⟩:ByteArray)++a1).size+2)=False);simp only[ByteArray.size_append]at h_;exact h_
       try have aDm:(9223372036854775807<((⟨#[45,45]⟩:ByteArray)++a1).size+2)=False:=eq_false (Nat.not_lt.2 c26)
       replace H:=nl H;obtain⟨aew,H⟩:=H;obtain⟨aHk,ak6⟩:=nm (CS++[((⟨#[45,45]⟩:ByteArray)++a1)++(⟨#[45,45]⟩:ByteArray)]);rw[←ak6.out]at H;obtain⟨rfl,rfl⟩:=s2 H;have ayE:wr.cell? ⟨yM,0,none⟩=some (.string a1):=(aC qx.out 0).trans rfl;have ayF:=gy qx.out 0;go_wp2_with ((with_reducible refine dO (b:= .append) (xs:=#[.tmp 38, .tmp 42]) rfl ?_);(try(refine lu (by rfl) ?_;dsimp only));at_builtin;refine Kd.oI Kd.string (w0:=w) w.heap.size rfl (.tmp 38) (.tmp 42) 23 9 (.string ⟨#[]⟩) 16 rfl Tryz.underlying23 info9 rfl (by decide) (by omega) u6 CS (((⟨#[45,45]⟩:ByteArray)++a1)++(⟨#[45,45]⟩:ByteArray)) [.string (((⟨#[45,45]⟩:ByteArray)++a1)++(⟨#[45,45]⟩:ByteArray))] (fun k_=>k_≠yM) (fun _=>False) rfl rfl ?aP (fun _ hk=>hk.elim) ?aF ?aO ?aB ?aS ?aL ?_;(case aP=>exact rfl);(case aB=>exact bb);(case aF=>exact(fun k_ hk=>Kd.yN (g:=yM) (o:= .cells #[.string a1] 9 (0,0)) (ub qx.out) k_ hk));(case aO=>exact(ur jh.out));(case aS=>exact(aj bb));(case aL=>have:=aew.out;omega);intro aHl w29 ho hb hg hat;rw[←ak6.out]at ho;have atU:=ak (ho);replace qx:=ak (b_ (g:=yM) (o:= .cells #[.string a1] 9 (0,0)) (ub qx.out) hg (Kd.Ac jh.out (fun _ hk=>hk)));replace HB:=ak (hb);clear ho hb hg hat jh)
       go_ret2;exact⟨_,er,ur (Kd.aQ atU.out (fun _ hk=>trivial)),bb⟩
mutual
def aJ.j0:Nat→Int→List ByteArray→Bool→List (gK)→List ByteArray→List (ng)→Option (List ByteArray×Bool)
 |0,_,_,_,_,_,_=>none
 |k+1,x1,x6,x27,Ku,A_,zq=>if x27=true then(some (([]:List ByteArray),false))else(if x6.length<8796093022208 then((some (x6++[(⟨#[]⟩:ByteArray)]:List ByteArray)).bind fun Kv=>((kL.f k Ku A_ zq).bind fun aa1=>(if aa1.2=true then(if(A_.length:Int)>0 then(aJ.j1 k x1 Kv aa1.1 true Ku A_ zq)else(if(zq.length:Int)<1 then(aJ.j1 k x1 Kv aa1.1 true Ku A_ zq)else(aJ.j1 k x1 Kv aa1.1 (decide ((zq.length:Int)>4)) Ku A_ zq)))else(if Kv.length+A_.length<8796093022208 then((some (Kv++A_:List ByteArray)).bind fun aon=>(if(zq.length:Int)=0 then((qp.f k A_ 30).bind fun atV=>(some (aon,atV)))else(some (aon,false))))else(none)))))else(none))
def aJ.j1:Nat→Int→List ByteArray→ByteArray→Bool→List (gK)→List ByteArray→List (ng)→Option (List ByteArray×Bool)
 |0,_,_,_,_,_,_,_=>none
 |k+1,x1,x6,x8,x66,Ku,A_,zq=>if x66=true then(some (([]:List ByteArray),false))else(aJ.l0 k x1 x6 x8 (([]:List (List ByteArray))) zq (zq.length:Int) 0)
def aJ.l0:Nat→Int→List ByteArray→ByteArray→List (List ByteArray)→List (ng)→Int→Int→Option (List ByteArray×Bool)
 |0,_,_,_,_,_,_,_=>none
 |k+1,x1,x6,x8,x10,x69,x70,x71=>if x71<x70 then(if 0≤x71 then(if x71<(x69.length:Int)then((aJ.f k ((bG x69 x71).f0) ((bG x69 x71).f1) ((bG x69 x71).f2) (wrap64 (x1-1))).bind fun ak7=>(if ak7.2=true then(if x10.length<5864062014805 then(aJ.l0 k x1 x6 x8 (x10++[ak7.1]) x69 x70 (wrap64 (x71+1)))else(none))else(some (([]:List ByteArray),false))))else(none))else(none))else((eY.f k x10 x8).bind fun afy=>(if x6.length+afy.1.length<8796093022208 then(some ((x6++afy.1),afy.2))else(none)))
def aJ.f:Nat→List (gK)→List ByteArray→List (ng)→Int→Option (List ByteArray×Bool)
 |0,_,_,_,_=>none
 |k+1,dV,dI,aG,a1=>(iZ.f k dV).bind fun afz=>(if afz.2=true then(aJ.j0 k a1 afz.1 (a1==0) dV dI aG)else(aJ.j0 k a1 afz.1 true dV dI aG))
end
theorem aJ.calls (k:Nat):∀(jM:Option Addr) (jO:Nat) (dV:List (gK)) (jI:Option Addr) (jJ:Nat) (dI:List ByteArray) (iL:Option Addr) (fK:Nat) (aG:List (ng)) (a1:Int) (r1:List ByteArray) (r2:Bool) (w:World) (oZ:Kd.C qy w jM dV.length dV) (o7:dV.length≤jO) (o8:Kd.C Kd.string w jI dI.length dI) (o9:dI.length≤jJ) (kT:Kd.C k28 w iL aG.length aG) (kU:aG.length≤fK) (DW:MaxOk w) (h:aJ.f k dV dI aG a1=some (r1,r2)),
  Calls Tryz.prog 66 #[.agg #[.slice jM dV.length jO, .slice jI dI.length jJ, .slice iL aG.length fK], .int .i64 a1] w fun e w'=>∃oD:Value,e= .returned (.tuple #[oD, .bool r2])∧Kd.R Kd.string 9 w' w.heap.size (fun _=>True) oD r1∧Below w.heap.size w w':=by
 induction k using Nat.strongRecOn with
 |_ k ih=>
 intro jM jO dV jI jJ dI iL fK aG a1 r1 r2 w oZ o7 o8 o9 kT kU DW h
 cases k with
 |zero=>exact absurd h (by simp[aJ.f])
 |succ k=>
 simp only[aJ.f]at h;have FV:=Tryz.underlying28;have qA:=ak oZ;have qV:=ak o7;clear oZ o7;have uw:=ak o8;have xR:=ak o9;clear o8 o9;have jB:=ak kT;have mM:=ak kU;clear kT kU;have HG:=ak DW;clear DW;have HB:=ak (Below.refl w.heap.size w);have H:=h;clear h;replace H:=bd H;obtain⟨⟨afA,aHm⟩,A3,H⟩:=H
 (try dsimp only at H);have HC4:=ak H;clear H;go_enter Tryz.func66,Tryz.ntmps66;go_upto_region 2 with(first|(refine gG 2 ?_;refine bX HB 2 #[.slice jM dV.length jO, .slice jI dI.length jJ, .slice iL aG.length fK] 28 ?_;intro AP w5 gJ aDn hb;replace HB:=bs HB hb;clear hb;have z6:=kF gJ.out)|(refine gV Tryz.func39 (iZ.calls (cu (Kd.aX qA.out HB.out)) qV.out A3.out) ?_;rintro aiN w7 ⟨ho0,hb⟩;have ak8:=ak (Kd.aA ho0 (aj bb));replace gJ:=kb gJ hb;replace HB:=bz HB hb;clear hb;(try clear ho0)))
 (try simp only[Act.put,Aq,Ar,l_c]);go_cut [27] (fun v27 wc=>∃(kq:Nat) (afB:Bool),v27= .bool afB∧ah (aJ.j0 kq a1 afA afB dV dI aG=some (r1,r2))∧ah (kq≤k)∧ah (Kd.R Kd.string 9 wc w.heap.size (fun _=>True) aiN afA)∧ah (wc.heap[AP]? =some (.cells #[(.slice jM dV.length jO),(.slice jI dI.length jJ),(.slice iL aG.length fK)] 28 (0,0)))∧ah (Below w.heap.size w wc))
 case first=>
  have H:=HC4.out;clear HC4;replace H:=sb H;rcases H with⟨rfl,H⟩|⟨rfl,H⟩
  ·have H':=ak H;clear H;go_wp2;go_meet
   case rel=>exact⟨_,_,rs,H',⟨Jp⟩,⟨ur ak8.out⟩,⟨ub gJ.out⟩,⟨bb⟩⟩
  ·have H':=ak H;clear H;go_wp2;go_meet
   case rel=>exact⟨_,_,rs,H',⟨Jp⟩,⟨ur ak8.out⟩,⟨ub gJ.out⟩,⟨bb⟩⟩
 case rest=>
  clear HC4;obtain⟨kq,afB,rfl,HA,HJ3,jh,gJ,HB⟩:=hcut
  cases kq with
  |zero=>exact zz HA.out
  |succ kj3=>
   obtain⟨H⟩:=HA;simp only[aJ.j0]at H;replace H:=sb H;rcases H with⟨rfl,H⟩|⟨rfl,H⟩
   ·obtain⟨rfl,rfl⟩:=s2 H;go_wp2;go_ret2;exact⟨_,er,nx,bb⟩
   ·replace H:=nl H;obtain⟨WU,H⟩:=H;replace H:=ny H;obtain⟨Kv,afC,H⟩:=H;replace H:=bd H;obtain⟨⟨atW,aHn⟩,A11,H⟩:=H
    (try dsimp only at H);replace H:=sb H;rcases H with⟨rfl,H⟩|⟨rfl,H⟩
    ·have aoo:=ak H;clear H;go_upto_region 8 with(first|((with_reducible refine dO (b:= .append) (xs:=#[.tmp 28, .tmp 29]) rfl ?_);(try(refine lu (by rfl) ?_;dsimp only));at_builtin;refine Kd.oI Kd.string (w0:=w) w.heap.size rfl (.tmp 28) (.tmp 29) 23 9 (.string ⟨#[]⟩) 16 rfl Tryz.underlying23 info9 rfl (by decide) (by omega) aiN afA (⟨#[]⟩:ByteArray) [.string (⟨#[]⟩:ByteArray)] (fun _=>True) (fun _=>False) rfl rfl ?aP (fun _ hk=>hk.elim) ?aF ?aO ?aB ?aS ?aL ?_;(case aP=>exact rfl);(case aB=>exact bb);(case aF=>exact(fun _ _=>trivial));(case aO=>exact(ur jh.out));(case aS=>exact(aj bb));(case aL=>have:=WU.out;omega);intro QM UE ho hb hg hat;rw[←afC.out]at ho;have uU:=ak (ho);replace gJ:=ak (b_ (g:=AP) (o:= .cells #[.slice jM dV.length jO, .slice jI dI.length jJ, .slice iL aG.length fK] 28 (0,0)) (ub gJ.out) hg (Kd.oH jh.out gJ.out (by decide)));replace HB:=ak (hb);clear ho hb hg hat jh;have z15:=kF gJ.out)|(refine gB Tryz.func101 (kL.calls (cu (Kd.aX qA.out HB.out)) qV.out (cu (Kd.aX uw.out HB.out)) xR.out (cu (Kd.aX jB.out HB.out)) mM.out ?wI A11.out) ?_;(case wI=>first|exact HG.out|exact MaxOk.below HG.out bb|(repeat(first|exact HG.out|apply MaxOk.drewN|apply MaxOk.drew)));intro w16 hb;replace uU:=rb uU hb;replace gJ:=kb gJ hb;replace HB:=bz HB hb;clear hb))
     (try simp only[Act.put,Aq,Ar,l_c]);go_cut [66] (fun v66 wc=>∃(kq:Nat) (Y2:Bool),v66= .bool Y2∧ah (aJ.j1 kq a1 Kv atW Y2 dV dI aG=some (r1,r2))∧ah (kq≤kj3)∧ah (Kd.R Kd.string 9 wc w.heap.size (fun _=>True) QM Kv)∧ah (wc.heap[AP]? =some (.cells #[(.slice jM dV.length jO),(.slice jI dI.length jJ),(.slice iL aG.length fK)] 28 (0,0)))∧ah (Below w.heap.size w wc))
     case first=>
      have H:=aoo.out;clear aoo;replace H:=sp H;rcases H with⟨c17,H⟩|⟨c17,H⟩
      ·have rQ:decide (0<(dI.length:Int))=true:=decide_eq_true c17;have I4:decide (0<dI.length)=true:=decide_eq_true (by omega);clear c17
       (first|rw[rQ]|(simp only[iP,jZ];rw[rQ])|skip);have H':=ak H;clear H;have z18:=kF gJ.out;go_wp2;go_meet
       case rel=>exact⟨_,_,rs,H',⟨kl⟩,⟨ur uU.out⟩,⟨ub gJ.out⟩,⟨bb⟩⟩
      ·have rQ:decide (0<(dI.length:Int))=false:=decide_eq_false c17;have I4:decide (0<dI.length)=false:=decide_eq_false (by omega);clear c17
       (first|rw[rQ]|(simp only[iP,jZ];rw[rQ])|skip);replace H:=sp H;rcases H with⟨c19,H⟩|⟨c19,H⟩
       ·have AB:=decide_eq_true c19;have Ea:decide (aG.length<1)=true:=decide_eq_true (by omega);clear c19;have H':=ak H;clear H;have z20:=kF gJ.out;go_wp2;go_meet
        case rel=>exact⟨_,_,rs,H',⟨kl⟩,⟨ur uU.out⟩,⟨ub gJ.out⟩,⟨bb⟩⟩
       ·have AB:=decide_eq_false c19;have Ea:decide (aG.length<1)=false:=decide_eq_false (by omega);clear c19;have H':=ak H;clear H;have z21:=kF gJ.out;go_wp2;go_meet
        case rel=>exact⟨_,_,rs,H',⟨kl⟩,⟨ur uU.out⟩,⟨ub gJ.out⟩,⟨bb⟩⟩
     case rest=>
      clear aoo;obtain⟨kq,Y2,rfl,HA,afD,jh,gJ,HB⟩:=hcut
      cases kq with
      |zero=>exact zz HA.out
      |succ atX=>
       obtain⟨H⟩:=HA;simp only[aJ.j1]at H;replace H:=sb H;rcases H with⟨rfl,H⟩|⟨rfl,H⟩
       ·obtain⟨rfl,rfl⟩:=s2 H;go_wp2;go_ret2;exact⟨_,er,nx,bb⟩
       ·obtain⟨aHo,afE⟩:=nm ([]:List (List ByteArray));rw[←afE.out]at H;have H':=ak H;clear H;go_wp2_with ((with_reducible refine QH (N:=67) rfl ?_);(try(refine lu (by rfl) ?_;dsimp only));refine Kd.afc (Kd.slice 9 Kd.string) _ 23 ?hg (N:=67) ?hd (xs:=([]:List (List ByteArray))) (inner:=[]) (ok:=fun _=>True) (sH:=fun _=>True) ?hr ?hp (fun _ hk=>hk) trivial (Below.refl _ _) (Nat.le_refl _) (by simp) ?_;(case hd=>rfl);(case hg=>rfl);(case hr=>first|(go_simp;done)|(go_simp;rfl));(case hp=>exact(cO.none _ _));intro aHp w23 U_ hb DW uS;clear DW uS;(first|rw[←afE.out]at U_|(simp only[Int.reduceToNat]at U_;rw[←afE.out]at U_));have atY:=ak (Kd.P5 (Kd.QN U_ (Kd.jw (ur jh.out))) (aj bb));replace jh:=rb jh hb;replace gJ:=kb gJ hb;replace HB:=bz HB hb;clear hb U_;have z25:=kF gJ.out)
        go_loopg [10,71] atX (fun kq v10 v71 w'=>∃(Xm:List (List ByteArray)) (qL:Int),v71= .int .i64 qL∧ah (aJ.l0 kq a1 Kv atW Xm aG (aG.length:Int) qL=some (r1,r2))∧ah (kq≤atX)∧ah (Kd.R Kd.string 9 w' w.heap.size (fun _=>True) QM Kv)∧ah (Kd.S (Kd.slice 9 Kd.string) 23 w' w.heap.size (fun k_=>some k_≠(QM:Value).ownBlock) v10 Xm)∧ah (w'.heap[AP]? =some (.cells #[(.slice jM dV.length jO),(.slice jI dI.length jJ),(.slice iL aG.length fK)] 28 (0,0)))∧ah (Below w.heap.size w w'))
        case atStart=>exact⟨_,_,rs,H',⟨Nat.le_refl _⟩,⟨ur jh.out⟩,⟨by(with_reducible repeat(first|apply Kd.kJ|apply Kd.kK|apply Kd.mP));exact Kd.yj atY.out (fun _ hk=>hk.2)⟩,⟨ub gJ.out⟩,⟨bb⟩⟩
        case round=>
         clear H';obtain⟨Xm,qL,rfl,HA,WX,jh,wo,gJ,HB⟩:=hrel
         cases gk with
         |zero=>exact zz HA.out
         |succ k3=>
          obtain⟨H⟩:=HA;simp only[aJ.l0]at H;replace H:=sd H;rcases H with⟨OB,H⟩|⟨OB,H⟩
          ·replace H:=nS H;obtain⟨Gi,H⟩:=H;replace H:=nS H;obtain⟨Gj,H⟩:=H;replace H:=bd H;obtain⟨⟨ac3,aHq⟩,A29,H⟩:=H
           (try dsimp only at H);replace H:=sb H;rcases H with⟨rfl,H⟩|⟨rfl,H⟩
           ·replace H:=nl H;obtain⟨aeH,H⟩:=H;obtain⟨aHr,ak9⟩:=nm (Xm++[ac3]);rw[←ak9.out]at H;have H':=ak H;clear H;have Y3:=zi qL;have Y4:=zj qL aG.length;obtain⟨aa2,Nr,Ns,Nu,Nv,Nw,Nz,aop,Kw,Ky,Kz,KA,KC,KD,KE,KF,KG⟩:=BA jB.out qL Y3 Y4;cases aop;replace Kw:=cl HB.out Kw;replace Ky:=cl HB.out Ky;replace Kz:=cl HB.out Kz;have Va:=ak KC;have Vb:=ak KA;clear KC KA;have Vd:=ak KE;have Ve:=ak KD;clear KE KD;have Vf:=ak KG;have Vg:=ak KF;clear KG KF;replace Y3:=eq_true Y3;replace Y4:=eq_true Y4;go_wp2_with (first|(refine gG 12 ?_;refine bY HB 12 #[.slice none 0 0, .slice none 0 0, .slice none 0 0] 28 ?_;intro OI w32 Fg atZ hg hb;have NC:=CP gJ hg;have ND:=CQ gJ hg;replace jh:=rb jh hb;replace wo:=ak (Kd.aa3 (by(with_reducible repeat(first|apply Kd.kJ|apply Kd.kK|apply Kd.mP));exact wo.out) hb);replace gJ:=kb gJ hb;replace HB:=bz HB hb;clear hb hg;have at1:=ND.out;have at6:=NC.out;have z34:=kF Fg.out)|(refine gV Tryz.func66 (ih k3 (by have:=HJ3.out;have:=afD.out;have:=WX.out;omega) _ _ ((bG aG qL).f0) _ _ ((bG aG qL).f1) _ _ ((bG aG qL).f2) (wrap64 (a1-1)) ac3 true _ (Kd.aX Va.out bb) Vb.out (Kd.aX Vd.out bb) Ve.out (Kd.aX Vf.out bb) Vg.out ?wI A29.out) ?_;(case wI=>first|exact HG.out|exact MaxOk.below HG.out bb|(repeat(first|exact HG.out|apply MaxOk.drewN|apply MaxOk.drew)));rintro aAq w35 ⟨ho0,hb⟩;have Xn:=ak (Kd.aA (Kd.eX ho0 (Kd.jw (rh jh))) (aj bb));replace jh:=ak (Kd.bW (rh jh) (Kd.dw ho0) hb);replace wo:=ak (Kd.yh (by(with_reducible repeat(first|apply Kd.kJ|apply Kd.kK|apply Kd.mP));exact(Kd.yj (Kd.TR (p:=⟨OI,2,none⟩) (Kd.TR (p:=⟨OI,1,none⟩) (Kd.TR (p:=⟨OI,0,none⟩) (Kd.aa4 wo.out Fg.out (by decide)) (fun _ hk=>hk.2) (.slice Nr ((bG aG qL).f0).length Ns)) (fun _ hk=>hk.2) (.slice Nu ((bG aG qL).f1).length Nv)) (fun _ hk=>hk.2) (.slice Nw ((bG aG qL).f2).length Nz)) (fun _ h_=>h_.1))) (Kd.dw ho0) hb);replace gJ:=kp gJ #[.slice jM dV.length jO, .slice jI dI.length jJ, .slice (some aa2) aG.length fK] hb;replace Fg:=kp Fg #[.slice Nr ((bG aG qL).f0).length Ns, .slice Nu ((bG aG qL).f1).length Nv, .slice Nw ((bG aG qL).f2).length Nz] hb;replace HB:=bz HB hb;clear hb;(try clear ho0);obtain⟨aiO,aiP,ac4⟩:=Kd.aI Xn.out;subst ac4)|((with_reducible refine dO (b:= .append) (xs:=#[.tmp 84, .tmp 86]) rfl ?_);(try(refine lu (by rfl) ?_;dsimp only));at_builtin;refine Kd.QJ (Kd.slice 9 Kd.string) (w0:=w) w.heap.size rfl (.tmp 84) (.tmp 86) 65 23 (.slice none 0 0) 24 rfl Tryz.underlying65 info23 rfl (by decide) (by omega) u10 Xm ac3 [.slice aiO ac3.length aiP] (fun k_=>some k_≠(QM:Value).ownBlock) (fun k_=>some k_=(.slice aiO ac3.length aiP:Value).ownBlock) rfl rfl ?aP (fun k_ hk_=>((Kd.aQ (ok':=fun k_=>((fun k_=>some k_≠(QM:Value).ownBlock)) k_∧some k_≠(u10:Value).ownBlock) (Kd.nH (Xn.out) (Kd.Di wo.out) (by decide)) (fun k_ hk=>⟨hk.1.2,hk.2⟩))).1 k_ hk_.symm) ?aF ?aO ?aB ?aS ?aL ?_;(case aP=>exact Kd.aaQ (Kd.aQ (Kd.U7 rfl (Kd.aQ (ok':=fun k_=>((fun k_=>some k_≠(QM:Value).ownBlock)) k_∧some k_≠(u10:Value).ownBlock) (Kd.nH (Xn.out) (Kd.Di wo.out) (by decide)) (fun k_ hk=>⟨hk.1.2,hk.2⟩))) (fun _ h_=>h_)));(case aB=>exact bb);(case aF=>exact(fun k_ hk=>Kd.fresh' (Kd.jw (ur jh.out)) k_ hk));(case aO=>exact(by(with_reducible repeat(first|apply Kd.kJ|apply Kd.kK|apply Kd.mP));exact Kd.yj wo.out (fun k_ hk=>⟨hk.1,fun e_=>hk.2 e_⟩)));(case aS=>exact(aj bb));(case aL=>have:=aeH.out;omega);intro aHs w36 ho hb hg hat;rw[←ak9.out]at ho;have at7:=ak (ho);replace jh:=ak (Kd.pX (ur jh.out) (Kd.Di (by(with_reducible repeat(first|apply Kd.kJ|apply Kd.kK|apply Kd.mP));exact wo.out)) (by decide) hg);replace gJ:=ak (b_ (g:=AP) (o:= .cells #[.slice jM dV.length jO, .slice jI dI.length jJ, .slice (some aa2) aG.length fK] 28 (0,0)) (ub gJ.out) hg (Kd.aoq wo.out gJ.out (by decide)));replace Fg:=ak (b_ (g:=OI) (o:= .cells #[.slice Nr ((bG aG qL).f0).length Ns, .slice Nu ((bG aG qL).f1).length Nv, .slice Nw ((bG aG qL).f2).length Nz] 28 (0,0)) (ub Fg.out) hg (Kd.aoq wo.out Fg.out (by decide)));replace HB:=ak (hb);clear ho hb hg hat wo Xn))
            go_roundg k3
            case measure=>have:=HJ3.out;have:=afD.out;have:=WX.out;omega
            case rel=>exact⟨_,_,rs,H',⟨by have:=HJ3.out;have:=afD.out;have:=WX.out;omega⟩,⟨ur (Kd.aQ jh.out (fun _ hk=>trivial))⟩,⟨by(with_reducible repeat(first|apply Kd.kJ|apply Kd.kK|apply Kd.mP));exact at7.out⟩,⟨ub gJ.out⟩,⟨bb⟩⟩
           ·obtain⟨rfl,rfl⟩:=s2 H;have Y3:=zi qL;have Y4:=zj qL aG.length;obtain⟨aa2,Nr,Ns,Nu,Nv,Nw,Nz,aop,Kw,Ky,Kz,KA,KC,KD,KE,KF,KG⟩:=BA jB.out qL Y3 Y4;cases aop;replace Kw:=cl HB.out Kw;replace Ky:=cl HB.out Ky;replace Kz:=cl HB.out Kz;have Va:=ak KC;have Vb:=ak KA;clear KC KA;have Vd:=ak KE;have Ve:=ak KD;clear KE KD;have Vf:=ak KG;have Vg:=ak KF;clear KG KF;replace Y3:=eq_true Y3;replace Y4:=eq_true Y4;go_wp2_with (first|(refine gG 12 ?_;refine bY HB 12 #[.slice none 0 0, .slice none 0 0, .slice none 0 0] 28 ?_;intro OI w38 Fg atZ hg hb;have NC:=CP gJ hg;have ND:=CQ gJ hg;replace jh:=rb jh hb;replace wo:=ak (Kd.aa3 (by(with_reducible repeat(first|apply Kd.kJ|apply Kd.kK|apply Kd.mP));exact wo.out) hb);replace gJ:=kb gJ hb;replace HB:=bz HB hb;clear hb hg;have aDo:=ND.out;have aDp:=NC.out;have z40:=kF Fg.out)|(refine gV Tryz.func66 (ih k3 (by have:=HJ3.out;have:=afD.out;have:=WX.out;omega) _ _ ((bG aG qL).f0) _ _ ((bG aG qL).f1) _ _ ((bG aG qL).f2) (wrap64 (a1-1)) ac3 false _ (Kd.aX Va.out bb) Vb.out (Kd.aX Vd.out bb) Ve.out (Kd.aX Vf.out bb) Vg.out ?wI A29.out) ?_;(case wI=>first|exact HG.out|exact MaxOk.below HG.out bb|(repeat(first|exact HG.out|apply MaxOk.drewN|apply MaxOk.drew)));rintro aAq w41 ⟨ho0,hb⟩;have Xn:=ak (Kd.aA (Kd.eX ho0 (Kd.jw (rh jh))) (aj bb));replace jh:=ak (Kd.bW (rh jh) (Kd.dw ho0) hb);replace wo:=ak (Kd.yh (by(with_reducible repeat(first|apply Kd.kJ|apply Kd.kK|apply Kd.mP));exact(Kd.yj (Kd.TR (p:=⟨OI,2,none⟩) (Kd.TR (p:=⟨OI,1,none⟩) (Kd.TR (p:=⟨OI,0,none⟩) (Kd.aa4 wo.out Fg.out (by decide)) (fun _ hk=>hk.2) (.slice Nr ((bG aG qL).f0).length Ns)) (fun _ hk=>hk.2) (.slice Nu ((bG aG qL).f1).length Nv)) (fun _ hk=>hk.2) (.slice Nw ((bG aG qL).f2).length Nz)) (fun _ h_=>h_.1))) (Kd.dw ho0) hb);replace gJ:=kp gJ #[.slice jM dV.length jO, .slice jI dI.length jJ, .slice (some aa2) aG.length fK] hb;replace Fg:=kp Fg #[.slice Nr ((bG aG qL).f0).length Ns, .slice Nu ((bG aG qL).f1).length Nv, .slice Nw ((bG aG qL).f2).length Nz] hb;replace HB:=bz HB hb;clear hb;(try clear ho0)))
            go_ret2;exact⟨_,er,nx,bb⟩
          ·replace H:=bd H;obtain⟨⟨aiQ,aHt⟩,A42,H⟩:=H
           (try dsimp only at H);replace H:=nl H;obtain⟨aua,H⟩:=H;obtain⟨aHu,ak_⟩:=nm (Kv++aiQ);rw[←ak_.out]at H;obtain⟨rfl,rfl⟩:=s2 H;obtain⟨afF,afG,ac5⟩:=Kd.zo wo.out;subst ac5;go_wp2_with (first|(refine gV Tryz.func106 (eY.calls (cu ((Kd.tN wo.out).2.2)) ((Kd.tN wo.out).2.1) A42.out) ?_;rintro aHv w45 ⟨ho0,hb⟩;have Xo:=ak (Kd.aA (Kd.eX ho0 (Kd.jw (ur jh.out))) (aj bb));replace jh:=ak (Kd.bW (ur jh.out) (Kd.dw ho0) hb);replace wo:=ak (Kd.yh (by(with_reducible repeat(first|apply Kd.kJ|apply Kd.kK|apply Kd.mP));exact wo.out) (Kd.dw ho0) hb);replace gJ:=kb gJ hb;replace HB:=bz HB hb;clear hb;(try clear ho0);obtain⟨NG,KH,ac6⟩:=Kd.aI Xo.out;subst ac6)|((with_reducible refine dO (b:= .append) (xs:=#[.tmp 95, .tmp 96]) rfl ?_);(try(refine lu (by rfl) ?_;dsimp only));at_builtin;refine Kd.qj Kd.string (w0:=w) w.heap.size rfl (.tmp 95) (.tmp 96) 23 9 (.string ⟨#[]⟩) 16 rfl Tryz.underlying23 info9 rfl (by decide) (by omega) QM Kv aiQ _ _ _ (fun k_=>some k_≠(.slice NG aiQ.length KH:Value).ownBlock) (fun _=>False) rfl rfl ?aO ?aR (fun _ _ h=>h) (fun _ h=>h.elim) ?aF ?aB ?aS ?aL ?_;(case aR=>repeat(first|exact(Kd.ay Xo.out).2.2|(with_reducible refine Kd.ji ?_ _)|(with_reducible refine Kd.jk ?_ _)|(with_reducible refine Kd.kM ?_)));(case aB=>exact bb);(case aF=>exact(fun k_ hk=>Kd.fresh' (Kd.jw (ur Xo.out)) k_ hk));(case aO=>exact(ur (Kd.aQ jh.out (fun _ hk=>hk.2))));(case aS=>exact(aj bb));(case aL=>have:=aua.out;omega);intro aHw w46 ho hb hg hat;rw[←ak_.out]at ho;have aub:=ak (ho);replace wo:=ak (Kd.aa5 (ok:=(fun k_=>some k_≠(.slice NG aiQ.length KH:Value).ownBlock)) (by(with_reducible repeat(first|apply Kd.kJ|apply Kd.kK|apply Kd.mP));exact Kd.yj wo.out (fun _ hk=>⟨hk.2,hk.1⟩)) hg hat);replace gJ:=ak (b_ (g:=AP) (o:= .cells #[.slice jM dV.length jO, .slice jI dI.length jJ, .slice iL aG.length fK] 28 (0,0)) (ub gJ.out) hg (Kd.oH jh.out gJ.out (by decide)));replace Xo:=ak (Kd.AZ (ok:=(fun _=>True)) (ur Xo.out) hg hat);replace HB:=ak (hb);clear ho hb hg hat jh))
           go_ret2;exact⟨_,er,ur (Kd.aQ aub.out (fun _ hk=>trivial)),bb⟩
    ·replace H:=nl H;obtain⟨ala,H⟩:=H;replace H:=ny H;obtain⟨aon,alb,H⟩:=H;replace H:=sp H;rcases H with⟨c49,H⟩|⟨c49,H⟩
     ·have auc:=beq_iff_eq.mpr c49;have aud:=bne_eq_false_iff_eq.mpr c49;clear c49;replace H:=bd H;obtain⟨atV,A50,H⟩:=H;obtain⟨rfl,rfl⟩:=s2 H;try go_wp2_with (first|((with_reducible refine dO (b:= .append) (xs:=#[.tmp 28, .tmp 29]) rfl ?_);(try(refine lu (by rfl) ?_;dsimp only));at_builtin;refine Kd.oI Kd.string (w0:=w) w.heap.size rfl (.tmp 28) (.tmp 29) 23 9 (.string ⟨#[]⟩) 16 rfl Tryz.underlying23 info9 rfl (by decide) (by omega) aiN afA (⟨#[]⟩:ByteArray) [.string (⟨#[]⟩:ByteArray)] (fun _=>True) (fun _=>False) rfl rfl ?aP (fun _ hk=>hk.elim) ?aF ?aO ?aB ?aS ?aL ?_;(case aP=>exact rfl);(case aB=>exact bb);(case aF=>exact(fun _ _=>trivial));(case aO=>exact(ur jh.out));(case aS=>exact(aj bb));(case aL=>have:=WU.out;omega);intro QM w51 ho hb hg hat;rw[←afC.out]at ho;have uU:=ak (ho);replace gJ:=ak (b_ (g:=AP) (o:= .cells #[.slice jM dV.length jO, .slice jI dI.length jJ, .slice iL aG.length fK] 28 (0,0)) (ub gJ.out) hg (Kd.oH jh.out gJ.out (by decide)));replace HB:=ak (hb);clear ho hb hg hat jh;have z52:=kF gJ.out)|(refine gB Tryz.func101 (kL.calls (cu (Kd.aX qA.out HB.out)) qV.out (cu (Kd.aX uw.out HB.out)) xR.out (cu (Kd.aX jB.out HB.out)) mM.out ?wI A11.out) ?_;(case wI=>first|exact HG.out|exact MaxOk.below HG.out bb|(repeat(first|exact HG.out|apply MaxOk.drewN|apply MaxOk.drew)));intro w53 hb;replace uU:=rb uU hb;replace gJ:=kb gJ hb;replace HB:=bz HB hb;clear hb))
      replace uU:=ak (Kd.lM uU.out);replace gJ:=ak (jC gJ.out);replace HB:=ak (iI HB.out);refine ro [3,11] [0,1,4,2,5,6,7,3,8,9,10,11,12,13,14] (fun w'=>w'.cell? ⟨AP,0,none⟩=some (.slice jM dV.length jO)∧w'.cell? ⟨AP,1,none⟩=some (.slice jI dI.length jJ)∧w'.cell? ⟨AP,2,none⟩=some (.slice iL aG.length fK)) ⟨(aC gJ.out 0).trans rfl,(aC gJ.out 1).trans rfl,(aC gJ.out 2).trans rfl⟩ ?_
      generalize w53.drew=w54 at uU gJ HB⊢
      repeat refine Ad ?_
      refine ld (N:=some 41) (gk.trans rfl) rfl rfl (fun K hK=>?_);refine Kd.sU Kd.string (w0:=w) w.heap.size (by rfl) (.tmp 38) (.tmp 40) 23 9 (.string ⟨#[]⟩) 16 rfl Tryz.underlying23 info9 rfl (by decide) (by omega) QM Kv dI _ _ _ (fun _=>True) (fun _=>False) rfl rfl ?aO ?aR (fun _ _ h=>h) (fun _ h=>h.elim) ?aF ?aB ?aS ?aL ?_
      (case aR=>repeat(first|exact(Kd.aX uw.out HB.out)|(with_reducible refine Kd.ji ?_ _)|(with_reducible refine Kd.jk ?_ _)|(with_reducible refine Kd.kM ?_)))
      (case aB=>exact bb)
      (case aF=>exact(fun _ _=>trivial))
      (case aO=>exact(ur uU.out))
      (case aS=>exact(aj bb))
      (case aL=>have:=ala.out;omega);intro aAr w55 ho hb hg hat
      rw[←alb.out]at ho;have zB:=ak (b_ (g:=AP) (o:= .cells #[.slice jM dV.length jO, .slice jI dI.length jJ, .slice iL aG.length fK] 28 (0,0)) (ub gJ.out) hg (Kd.oH uU.out gJ.out (by decide)));have zC:=ak (hb);have Au:=ak (ho);clear gJ HB uU;have gJ:=zB;have HB:=zC;have afH:=Au;clear zB zC Au ho hb hg hat
      refine hK.out _ _ ⟨(aC gJ.out 0).trans rfl,(aC gJ.out 1).trans rfl,(aC gJ.out 2).trans rfl⟩ ?_;clear hK K;refine no (a':=?_) ?_ ?_
      rotate_left
      ·show Act.put _ (some 41) _=_
       simp only[Act.put,Aq,Ar,l_c,iP,jZ];rfl
      repeat refine Ad ?_
      refine rA Tryz.func105 (qp.calls (cu (Kd.aX uw.out HB.out)) xR.out A50.out) ?_;intro nd;refine⟨sx,?_⟩;repeat refine Ad ?_
      refine on ?_;try go_wp2
      go_ret2;exact⟨_,er,ur afH.out,bb⟩
     ·have auc:=beq_eq_false_iff_ne.mpr c49;have aud:=bne_iff_ne.mpr c49;have aDq:¬(aG=[]):=fun h_=>c49 (by rw[h_];rfl)
      obtain⟨rfl,rfl⟩:=s2 H;try go_wp2_with (first|((with_reducible refine dO (b:= .append) (xs:=#[.tmp 28, .tmp 29]) rfl ?_);(try(refine lu (by rfl) ?_;dsimp only));at_builtin;refine Kd.oI Kd.string (w0:=w) w.heap.size rfl (.tmp 28) (.tmp 29) 23 9 (.string ⟨#[]⟩) 16 rfl Tryz.underlying23 info9 rfl (by decide) (by omega) aiN afA (⟨#[]⟩:ByteArray) [.string (⟨#[]⟩:ByteArray)] (fun _=>True) (fun _=>False) rfl rfl ?aP (fun _ hk=>hk.elim) ?aF ?aO ?aB ?aS ?aL ?_;(case aP=>exact rfl);(case aB=>exact bb);(case aF=>exact(fun _ _=>trivial));(case aO=>exact(ur jh.out));(case aS=>exact(aj bb));(case aL=>have:=WU.out;omega);intro QM w56 ho hb hg hat;rw[←afC.out]at ho;have uU:=ak (ho);replace gJ:=ak (b_ (g:=AP) (o:= .cells #[.slice jM dV.length jO, .slice jI dI.length jJ, .slice iL aG.length fK] 28 (0,0)) (ub gJ.out) hg (Kd.oH jh.out gJ.out (by decide)));replace HB:=ak (hb);clear ho hb hg hat jh;have z57:=kF gJ.out)|(refine gB Tryz.func101 (kL.calls (cu (Kd.aX qA.out HB.out)) qV.out (cu (Kd.aX uw.out HB.out)) xR.out (cu (Kd.aX jB.out HB.out)) mM.out ?wI A11.out) ?_;(case wI=>first|exact HG.out|exact MaxOk.below HG.out bb|(repeat(first|exact HG.out|apply MaxOk.drewN|apply MaxOk.drew)));intro w58 hb;replace uU:=rb uU hb;replace gJ:=kb gJ hb;replace HB:=bz HB hb;clear hb))
      replace uU:=ak (Kd.lM uU.out);replace gJ:=ak (jC gJ.out);replace HB:=ak (iI HB.out);refine ro [3] [0,1,4,2,5,6,7,3,8,9,10,11,12,13,14] (fun w'=>w'.cell? ⟨AP,0,none⟩=some (.slice jM dV.length jO)∧w'.cell? ⟨AP,1,none⟩=some (.slice jI dI.length jJ)∧w'.cell? ⟨AP,2,none⟩=some (.slice iL aG.length fK)) ⟨(aC gJ.out 0).trans rfl,(aC gJ.out 1).trans rfl,(aC gJ.out 2).trans rfl⟩ ?_
      generalize w58.drew=w59 at uU gJ HB⊢
      repeat(first|refine Ad ?_|refine U3 ?_)
      refine ld (N:=some 41) (gk.trans rfl) rfl rfl (fun K hK=>?_);refine Kd.sU Kd.string (w0:=w) w.heap.size (by rfl) (.tmp 38) (.tmp 40) 23 9 (.string ⟨#[]⟩) 16 rfl Tryz.underlying23 info9 rfl (by decide) (by omega) QM Kv dI _ _ _ (fun _=>True) (fun _=>False) rfl rfl ?aO ?aR (fun _ _ h=>h) (fun _ h=>h.elim) ?aF ?aB ?aS ?aL ?_
      (case aR=>repeat(first|exact(Kd.aX uw.out HB.out)|(with_reducible refine Kd.ji ?_ _)|(with_reducible refine Kd.jk ?_ _)|(with_reducible refine Kd.kM ?_)))
      (case aB=>exact bb)
      (case aF=>exact(fun _ _=>trivial))
      (case aO=>exact(ur uU.out))
      (case aS=>exact(aj bb))
      (case aL=>have:=ala.out;omega);intro aAr TP ho hb hg hat
      rw[←alb.out]at ho;have zB:=ak (b_ (g:=AP) (o:= .cells #[.slice jM dV.length jO, .slice jI dI.length jJ, .slice iL aG.length fK] 28 (0,0)) (ub gJ.out) hg (Kd.oH uU.out gJ.out (by decide)));have zC:=ak (hb);have Au:=ak (ho);clear gJ HB uU;have gJ:=zB;have HB:=zC;have afH:=Au;clear zB zC Au ho hb hg hat
      refine hK.out _ _ ⟨(aC gJ.out 0).trans rfl,(aC gJ.out 1).trans rfl,(aC gJ.out 2).trans rfl⟩ ?_;clear hK K;refine no (a':=?_) ?_ ?_
      rotate_left
      ·show Act.put _ (some 41) _=_
       simp only[Act.put,Aq,Ar,l_c,iP,jZ];rfl
      repeat(first|refine Ad ?_|refine U3 ?_)
      refine on ?_;try go_wp2
      go_ret2;exact⟨_,er,ur afH.out,bb⟩
def kR.f (k:Nat) (dV:List (gK)) (dI:List ByteArray) (aG:List (ng)):Option (List ByteArray×Bool):=(aJ.f k dV dI aG 3).bind fun alc=>(if alc.2=true then(some (alc.1,true))else(some (([]:List ByteArray),false)))
theorem kR.calls {k jO jJ fK:Nat} {jM jI iL:Option Addr} {dV:List (gK)} {dI r1:List ByteArray} {aG:List (ng)} {r2:Bool} {w:World} (oZ:Kd.C qy w jM dV.length dV) (o7:dV.length≤jO) (o8:Kd.C Kd.string w jI dI.length dI) (o9:dI.length≤jJ) (kT:Kd.C k28 w iL aG.length aG) (kU:aG.length≤fK) (DW:MaxOk w) (h:kR.f k dV dI aG=some (r1,r2)):
  Calls Tryz.prog 24 #[.agg #[.slice jM dV.length jO, .slice jI dI.length jJ, .slice iL aG.length fK]] w fun e w'=>∃oD:Value,e= .returned (.tuple #[oD, .bool r2])∧Kd.R Kd.string 9 w' w.heap.size (fun _=>True) oD r1∧Below w.heap.size w w':=by
 have FV:=Tryz.underlying28;have qA:=ak oZ;have qV:=ak o7;clear oZ o7;have uw:=ak o8;have xR:=ak o9;clear o8 o9;have jB:=ak kT;have mM:=ak kU;clear kT kU;have HG:=ak DW;clear DW;have HB:=ak (Below.refl w.heap.size w);unfold kR.f at h;have H:=h;clear h;replace H:=bd H;obtain⟨⟨aue,aHx⟩,A2,H⟩:=H
 (try dsimp only at H);replace H:=sb H;rcases H with⟨rfl,H⟩|⟨rfl,H⟩
 ·obtain⟨rfl,rfl⟩:=s2 H;go_enter Tryz.func24,Tryz.ntmps24;go_wp2_with (first|(refine bX HB 1 #[.slice jM dV.length jO, .slice jI dI.length jJ, .slice iL aG.length fK] 28 ?_;intro auf w4 QO aug hb;replace HB:=bs HB hb;clear hb;have z5:=kF QO.out)|(refine gV Tryz.func66 (aJ.calls k _ _ dV _ _ dI _ _ aG 3 aue true _ (cu (Kd.aX qA.out HB.out)) qV.out (cu (Kd.aX uw.out HB.out)) xR.out (cu (Kd.aX jB.out HB.out)) mM.out ?wI A2.out) ?_;(case wI=>first|exact HG.out|exact MaxOk.below HG.out bb|(repeat(first|exact HG.out|apply MaxOk.drewN|apply MaxOk.drew)));rintro aAs w6 ⟨ho0,hb⟩;have ald:=ak (Kd.aA ho0 (aj bb));replace QO:=kb QO hb;replace HB:=bz HB hb;clear hb;(try clear ho0)))
  go_ret2;exact⟨_,er,ur ald.out,bb⟩
 ·obtain⟨rfl,rfl⟩:=s2 H;go_enter Tryz.func24,Tryz.ntmps24;go_wp2_with (first|(refine bX HB 1 #[.slice jM dV.length jO, .slice jI dI.length jJ, .slice iL aG.length fK] 28 ?_;intro auf w7 QO aug hb;replace HB:=bs HB hb;clear hb;have z8:=kF QO.out)|(refine gV Tryz.func66 (aJ.calls k _ _ dV _ _ dI _ _ aG 3 aue false _ (cu (Kd.aX qA.out HB.out)) qV.out (cu (Kd.aX uw.out HB.out)) xR.out (cu (Kd.aX jB.out HB.out)) mM.out ?wI A2.out) ?_;(case wI=>first|exact HG.out|exact MaxOk.below HG.out bb|(repeat(first|exact HG.out|apply MaxOk.drewN|apply MaxOk.drew)));rintro aAs w9 ⟨ho0,hb⟩;have ald:=ak (Kd.aA ho0 (aj bb));replace QO:=kb QO hb;replace HB:=bz HB hb;clear hb;(try clear ho0)))
  go_ret2;exact⟨_,er,nx,bb⟩
end Go.Proofs.YtncdadcmghglkaaGreatDoor.PFnKidLines
