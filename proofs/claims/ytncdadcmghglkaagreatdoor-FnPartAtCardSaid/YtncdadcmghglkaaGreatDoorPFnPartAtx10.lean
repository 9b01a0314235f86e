/- Printed walks; conditions: those in each statement. -/
import Derived.Test.YtncdadcmghglkaaGreatDoorVFnPartAtQt
import Derived.Test.YtncdadcmghglkaaGreatDoorVFnPartAtYt
import Derived.Test.YtncdadcmghglkaaGreatDoorPFnPartAtx0
import Derived.Test.YtncdadcmghglkaaGreatDoorPFnPartAtx2
import Derived.Test.YtncdadcmghglkaaGreatDoorPFnPartAtx3
import Derived.Test.YtncdadcmghglkaaGreatDoorPFnPartAtx7
-- short
-- dense
-- sq
-- sq2
namespace Go.Proofs.YtncdadcmghglkaaGreatDoor.PFnPartAt
open Go.RowKit Go.Proofs.YtncdadcmghglkaaGreatDoor.X Go.Proofs.YtncdadcmghglkaaGreatDoorW.bQ Go.Proofs.YtncdadcmghglkaaGreatDoorW.jm Go.Proofs.YtncdadcmghglkaaGreatDoorW.kD
attribute [local go_sem] pV pW sK sN nI nJ pX pY   -- for this text's walks alone
set_option linter.unusedVariables false
set_option maxHeartbeats 8000000
set_option maxRecDepth 100000
set_option linter.unusedSimpArgs false
def jA.j0:Nat→Bool→ByteArray→ByteArray→List (fP)→Option (ByteArray×Bool)
 |0,_,_,_,_=>none
 |k+1,DI,aC6,aC7,amP=>if DI=true then(some ((⟨#[]⟩:ByteArray),false))else((oG.f k amP (⟨#[98,111,117,110,100,97,114,121]⟩:ByteArray)).bind fun aoN=>((kV.f k aoN.1).bind fun avw=>(if avw=true then(some (aoN.1,true))else(some ((⟨#[]⟩:ByteArray),false)))))
def jA.f (k:Nat) (eX:ByteArray) (fF:ByteArray) (aA:List (fP)):Option (ByteArray×Bool):=(dN.f k eX fF aA).bind fun avx=>(if avx=true then(jA.j0 k (eX.toList !=([109,117,108,116,105,112,97,114,116]:List UInt8)) eX fF aA)else(jA.j0 k true eX fF aA))
theorem jA.calls {k dI:Nat} {eX fF r1:ByteArray} {eP:Option Addr} {aA:List (fP)} {r2:Bool} {w:World} (jF:Kd.C ou w eP aA.length aA) (jG:aA.length≤dI) (h:jA.f k eX fF aA=some (r1,r2)):
  Calls Tryz.prog 49 #[.agg #[.string eX, .string fF, .slice eP aA.length dI]] w fun e w'=>e= .returned (.tuple #[.string r1, .bool r2])∧Below w.heap.size w w':=by
 have aan:=Tryz.underlying61;have jK:=ak jF;have mV:=ak jG;clear jF jG;have HB:=ak (Below.refl w.heap.size w);unfold jA.f at h;have H:=h;clear h;have HC2:=ak H;clear H;go_enter Tryz.func49,Tryz.ntmps49;go_upto_region 1 with(refine bX HB 1 #[.string eX, .string fF, .slice eP aA.length dI] 61 ?_;intro avy w3 C9 aHM hb;replace HB:=bs HB hb;clear hb)
 (try simp only[Act.put,zW,zX,l_c]);go_cut [13] (fun v13 wc=>∃(kq:Nat) (jH:Bool),v13= .bool jH∧ah (jA.j0 kq jH eX fF aA=some (r1,r2))∧ah (kq≤k)∧ah (wc.heap[avy]? =some (.cells #[.string eX, .string fF,(.slice eP aA.length dI)] 61 (0,0)))∧ah (Below w.heap.size w wc))
 case first=>
  have H:=HC2.out;clear HC2;replace H:=bd H;obtain⟨avx,A4,H⟩:=H;replace H:=sb H;rcases H with⟨rfl,H⟩|⟨rfl,H⟩
  ·have H':=ak H;clear H;have z6:=iQ C9.out;go_wp2_with (refine gB Tryz.func95 (dN.calls (cu (Kd.aI jK.out HB.out)) mV.out A4.out) ?_;intro w7 hb;replace C9:=kb C9 hb;replace HB:=bz HB hb;clear hb;have z8:=iQ C9.out)
   go_meet
   case rel=>exact⟨_,_,rs,H',⟨Qa⟩,⟨ub C9.out⟩,⟨bb⟩⟩
  ·have H':=ak H;clear H;have z9:=iQ C9.out;go_wp2_with (refine gB Tryz.func95 (dN.calls (cu (Kd.aI jK.out HB.out)) mV.out A4.out) ?_;intro w10 hb;replace C9:=kb C9 hb;replace HB:=bz HB hb;clear hb)
   go_meet
   case rel=>exact⟨_,_,rs,H',⟨Qa⟩,⟨ub C9.out⟩,⟨bb⟩⟩
 case rest=>
  clear HC2;obtain⟨kq,jH,rfl,HA,HJ1,C9,HB⟩:=hcut
  cases kq with
  |zero=>exact zz HA.out
  |succ SA=>
   obtain⟨H⟩:=HA;simp only[jA.j0]at H;replace H:=sb H;rcases H with⟨rfl,H⟩|⟨rfl,H⟩
   ·obtain⟨rfl,rfl⟩:=s2 H;go_wp2;go_ret2;exact⟨er,bb⟩
   ·replace H:=bd H;obtain⟨⟨aK2,aK3⟩,A12,H⟩:=H
    (try dsimp only at H);replace H:=bd H;obtain⟨avw,A13,H⟩:=H;replace H:=sb H;rcases H with⟨rfl,H⟩|⟨rfl,H⟩
    ·obtain⟨rfl,rfl⟩:=s2 H;have z15:=iQ C9.out;go_wp2_with (first|(refine gB Tryz.func47 (oG.calls (cu (Kd.aI jK.out HB.out)) mV.out A12.out) ?_;intro w16 hb;replace C9:=kb C9 hb;replace HB:=bz HB hb;clear hb)|(refine gA Tryz.func96 (kV.calls A13.out) ?_;intro nd))
     go_ret2;exact⟨er,bb⟩
    ·obtain⟨rfl,rfl⟩:=s2 H;have z17:=iQ C9.out;go_wp2_with (first|(refine gB Tryz.func47 (oG.calls (cu (Kd.aI jK.out HB.out)) mV.out A12.out) ?_;intro w18 hb;replace C9:=kb C9 hb;replace HB:=bz HB hb;clear hb)|(refine gA Tryz.func96 (kV.calls A13.out) ?_;intro nd))
     go_ret2;exact⟨er,bb⟩
def lG.f (k:Nat) (bg:List (fP)) (bf:List ByteArray) (aA:List (jV)):Option (ByteArray×Bool):=(oG.f k bg (⟨#[67,111,110,116,101,110,116,45,84,121,112,101]⟩:ByteArray)).bind fun avz=>((bW.f k avz.1).bind fun aei=>(if aei.2.2.2=true then((jA.f k aei.1 aei.2.1 aei.2.2.1).bind fun aoO=>(some (aoO.1,aoO.2)))else(some ((⟨#[]⟩:ByteArray),false))))
theorem lG.calls {k gU gu dI:Nat} {gQ f_ eP:Option Addr} {bg:List (fP)} {bf:List ByteArray} {aA:List (jV)} {r1:ByteArray} {r2:Bool} {w:World} (lI:Kd.C ou w gQ bg.length bg) (lJ:bg.length≤gU) (lK:Kd.C Kd.string w f_ bf.length bf) (lM:bf.length≤gu) (jF:Kd.C k28 w eP aA.length aA) (jG:aA.length≤dI) (D9:MaxOk w) (h:lG.f k bg bf aA=some (r1,r2)):
  Calls Tryz.prog 101 #[.agg #[.slice gQ bg.length gU, .slice f_ bf.length gu, .slice eP aA.length dI]] w fun e w'=>e= .returned (.tuple #[.string r1, .bool r2])∧Below w.heap.size w w':=by
 have Dq:=Tryz.underlying28;have aan:=Tryz.underlying61;have pG:=ak lI;have qy:=ak lJ;clear lI lJ;have sD:=ak lK;have uV:=ak lM;clear lK lM;have jK:=ak jF;have mV:=ak jG;clear jF jG;have HG:=ak D9;clear D9;have HB:=ak (Below.refl w.heap.size w);unfold lG.f at h;have H:=h;clear h;replace H:=bd H;obtain⟨⟨aK4,aK5⟩,A2,H⟩:=H
 (try dsimp only at H);replace H:=bd H;obtain⟨⟨aEF,aEG,avA,aK6⟩,A3,H⟩:=H
 (try dsimp only at H);replace H:=sb H;rcases H with⟨rfl,H⟩|⟨rfl,H⟩
 ·replace H:=bd H;obtain⟨⟨aK7,aK8⟩,A5,H⟩:=H
  (try dsimp only at H);obtain⟨rfl,rfl⟩:=s2 H;go_enter Tryz.func101,Tryz.ntmps101;go_wp2_with (first|(refine bX HB 1 #[.slice gQ bg.length gU, .slice f_ bf.length gu, .slice eP aA.length dI] 28 ?_;intro avC w6 yU avD hb;replace HB:=bs HB hb;clear hb;have z7:=iQ yU.out)|(refine gB Tryz.func47 (oG.calls (cu (Kd.aI pG.out HB.out)) qy.out A2.out) ?_;intro w8 hb;replace yU:=kb yU hb;replace HB:=bz HB hb;clear hb)|(refine gV Tryz.func48 (bW.calls ?eF A3.out) ?_;(case eF=>first|exact HG.out|exact MaxOk.below HG.out bb|(repeat(first|exact HG.out|apply MaxOk.drewN|apply MaxOk.drew)));rintro aEH w9 ⟨ho0,hb⟩;have I4:=ak (Kd.aG ho0 (aj bb));replace yU:=kb yU hb;replace HB:=bz HB hb;clear hb;(try clear ho0))|(refine bY HB 6 #[.string (⟨#[]⟩:ByteArray), .string (⟨#[]⟩:ByteArray), .slice none 0 0] 61 ?_;intro avE w10 aao avF hg hb;have Qb:=yA yU hg;have Qc:=yB yU hg;replace I4:=rb I4 hb;replace yU:=kb yU hb;replace HB:=bz HB hb;clear hb hg;have avG:=Qc.out;have avH:=Qb.out;have z12:=iQ aao.out;obtain⟨FW,AY,Sv⟩:=Kd.aH I4.out;subst Sv)|(refine gB Tryz.func49 (jA.calls ?eF ((Kd.aK I4.out).2.1) A5.out) ?_;(case eF=>refine(Kd.aK (e:=69) (base:=w.heap.size) (ok:=fun k_=>True) (n:=avA.length) (c:=AY) ?_).2.2;exact(rh I4));intro V3 hb;replace I4:=rg I4 hb;replace yU:=kp yU #[.slice gQ bg.length gU, .slice f_ bf.length gu, .slice eP aA.length dI] hb;replace aao:=kp aao #[.string aEF, .string aEG, .slice FW avA.length AY] hb;replace HB:=bz HB hb;clear hb))
  go_ret2;exact⟨er,bb⟩
 ·obtain⟨rfl,rfl⟩:=s2 H;go_enter Tryz.func101,Tryz.ntmps101;go_wp2_with (first|(refine bX HB 1 #[.slice gQ bg.length gU, .slice f_ bf.length gu, .slice eP aA.length dI] 28 ?_;intro avC w15 yU avD hb;replace HB:=bs HB hb;clear hb;have z16:=iQ yU.out)|(refine gB Tryz.func47 (oG.calls (cu (Kd.aI pG.out HB.out)) qy.out A2.out) ?_;intro w17 hb;replace yU:=kb yU hb;replace HB:=bz HB hb;clear hb)|(refine gV Tryz.func48 (bW.calls ?eF A3.out) ?_;(case eF=>first|exact HG.out|exact MaxOk.below HG.out bb|(repeat(first|exact HG.out|apply MaxOk.drewN|apply MaxOk.drew)));rintro aEH w18 ⟨ho0,hb⟩;have I4:=ak (Kd.aG ho0 (aj bb));replace yU:=kb yU hb;replace HB:=bz HB hb;clear hb;(try clear ho0))|(refine bY HB 6 #[.string (⟨#[]⟩:ByteArray), .string (⟨#[]⟩:ByteArray), .slice none 0 0] 61 ?_;intro avE w19 aao avF hg hb;have Qb:=yA yU hg;have Qc:=yB yU hg;replace I4:=rb I4 hb;replace yU:=kb yU hb;replace HB:=bz HB hb;clear hb hg;have avI:=Qc.out;have avJ:=Qb.out;have z21:=iQ aao.out;obtain⟨aK9,aK_,aEI⟩:=Kd.aH I4.out;subst aEI))
  go_ret2;exact⟨er,bb⟩
def rY.f (k:Nat) (a0:ByteArray):Option (Bool):=(bn.f k a0).bind fun avK=>(some (!avK))
theorem rY.calls {k:Nat} {a0:ByteArray} {r:Bool} {w:World} (h:rY.f k a0=some r):
  Calls Tryz.prog 149 #[.string a0] w fun e w'=>e= .returned (.bool r)∧dO w w':=by
 unfold rY.f at h;have H:=h;clear h;replace H:=bd H;obtain⟨avK,A2,H⟩:=H;obtain rfl:=s1 H;go_enter Tryz.func149,Tryz.ntmps149;go_wp2_with (refine gA Tryz.func89 (bn.calls A2.out) ?_;intro nd)
 go_ret;exact⟨rs,dn⟩
def aV.l0:Nat→List ByteArray→Int→Int→Option (Int)
 |0,_,_,_=>none
 |k+1,x0,x7,x8=>if x8<x7 then(if 0≤x8 then(if x8<(x0.length:Int)then((rY.f k (qH ByteArray.empty x0 x8)).bind fun avL=>(if avL=true then(some x8)else(aV.l0 k x0 x7 (wrap64 (x8+1)))))else(none))else(none))else(some (-1))
def aV.f (k:Nat) (l0:List ByteArray):Option (Int):=aV.l0 k l0 (l0.length:Int) 0
theorem aV.calls {k c0:Nat} {A0:Option Addr} {l0:List ByteArray} {r:Int} {w:World} (hr0:Kd.C Kd.string w A0 l0.length l0) (hc0:l0.length≤c0) (h:aV.f k l0=some r):
  Calls Tryz.prog 173 #[.slice A0 l0.length c0, .func (.func 149) #[] #[]] w fun e w'=>e= .returned (.int .i64 r)∧dO w w':=by
 have HR0:=ak hr0;have zH:=ak hc0;clear hr0 hc0;unfold aV.f at h;have H:=h;clear h;have H':=ak H;clear H;go_enter Tryz.func173,Tryz.ntmps173;go_wp2;go_loopg [8] k (fun kq v8 w'=>∃(lQ:Int),v8= .int .i64 lQ∧ah (aV.l0 kq l0 (l0.length:Int) lQ=some r)∧ah (kq≤k)∧dO w w')
 case atStart=>exact⟨_,rs,H',⟨Nat.le_refl _⟩,dn⟩
 case round=>
  clear H';obtain⟨lQ,rfl,HA,xK,⟨m1,rfl⟩⟩:=hrel
  cases gk with
  |zero=>exact zz HA.out
  |succ k1=>
   obtain⟨H⟩:=HA;simp only[aV.l0]at H;replace H:=sd H;rcases H with⟨iW,H⟩|⟨iW,H⟩
   ·replace H:=oL H;obtain⟨rW,H⟩:=H;replace H:=oL H;obtain⟨oz,H⟩:=H;replace H:=bd H;obtain⟨avL,A6,H⟩:=H;replace H:=sb H;rcases H with⟨rfl,H⟩|⟨rfl,H⟩
    ·obtain rfl:=s1 H;have ab4:=zi lQ;have ab5:=zj lQ l0.length;obtain⟨avM,e300,amQ⟩:=Kd.jT HR0.out lQ ab4 ab5;cases e300;replace ab4:=eq_true ab4;replace ab5:=eq_true ab5;go_wp2_with (go_at_call 149;refine mA (rY.calls A6.out) ?_;intro nd)
     go_ret;exact⟨rs,dn⟩
    ·have H':=ak H;clear H;have ab4:=zi lQ;have ab5:=zj lQ l0.length;obtain⟨avM,e300,amQ⟩:=Kd.jT HR0.out lQ ab4 ab5;cases e300;replace ab4:=eq_true ab4;replace ab5:=eq_true ab5;go_wp2_with (go_at_call 149;refine mA (rY.calls A6.out) ?_;intro nd)
     go_roundg k1
     case measure=>exact kl
     case rel=>exact⟨_,rs,H',⟨kl⟩,dn⟩
   ·obtain rfl:=s1 H;go_wp2;go_ret;exact⟨rs,dn⟩
def fV.f (k:Nat) (l0:List ByteArray):Option (Bool):=(aV.f k l0).bind fun avN=>(some (decide (avN≥0)))
theorem fV.calls {k c0:Nat} {A0:Option Addr} {l0:List ByteArray} {r:Bool} {w:World} (hr0:Kd.C Kd.string w A0 l0.length l0) (hc0:l0.length≤c0) (h:fV.f k l0=some r):
  Calls Tryz.prog 148 #[.slice A0 l0.length c0, .func (.func 149) #[] #[]] w fun e w'=>e= .returned (.bool r)∧dO w w':=by
 have HR0:=ak hr0;have zH:=ak hc0;clear hr0 hc0;unfold fV.f at h;have H:=h;clear h;replace H:=bd H;obtain⟨avN,A3,H⟩:=H;obtain rfl:=s1 H;go_enter Tryz.func148,Tryz.ntmps148;go_wp2_with (refine gA Tryz.func173 (aV.calls (cu HR0.out) zH.out A3.out) ?_;intro nd)
 go_ret;exact⟨rs,dn⟩
def tu.f (k:Nat) (l0:List ByteArray) (a1:Int):Option (Bool):=if(l0.length:Int)≤a1 then((fV.f k l0).bind fun avO=>(some (!avO)))else(some false)
theorem tu.calls {k c0:Nat} {A0:Option Addr} {l0:List ByteArray} {a1:Int} {r:Bool} {w:World} (hr0:Kd.C Kd.string w A0 l0.length l0) (hc0:l0.length≤c0) (h:tu.f k l0 a1=some r):
  Calls Tryz.prog 105 #[.slice A0 l0.length c0, .int .i64 a1] w fun e w'=>e= .returned (.bool r)∧dO w w':=by
 have HR0:=ak hr0;have zH:=ak hc0;clear hr0 hc0;unfold tu.f at h;have H:=h;clear h;replace H:=sd H;rcases H with⟨iW,H⟩|⟨iW,H⟩
 ·replace H:=bd H;obtain⟨avO,A4,H⟩:=H;obtain rfl:=s1 H;go_enter Tryz.func105,Tryz.ntmps105;go_wp2_with (go_at_call 148;refine mA (fV.calls (cu HR0.out) zH.out A4.out) ?_;intro nd)
  go_ret;exact⟨rs,dn⟩
 ·obtain rfl:=s1 H;go_enter Tryz.func105,Tryz.ntmps105;go_wp2;go_ret;exact⟨rs,dn⟩
def dG.l0:Nat→List ByteArray→ByteArray→Int→Int→Option (Int)
 |0,_,_,_,_=>none
 |k+1,x0,x1,x7,x8=>if x8<x7 then(if 0≤x8 then(if x8<(x0.length:Int)then(if x1.toList=(qH ByteArray.empty x0 x8).toList then(some x8)else(dG.l0 k x0 x1 x7 (wrap64 (x8+1))))else(none))else(none))else(some (-1))
def dG.f (k:Nat) (l0:List ByteArray) (a1:ByteArray):Option (Int):=dG.l0 k l0 a1 (l0.length:Int) 0
theorem dG.calls {k c0:Nat} {A0:Option Addr} {l0:List ByteArray} {a1:ByteArray} {r:Int} {w:World} (hr0:Kd.C Kd.string w A0 l0.length l0) (hc0:l0.length≤c0) (h:dG.f k l0 a1=some r):
  Calls Tryz.prog 99 #[.slice A0 l0.length c0, .string a1] w fun e w'=>e= .returned (.int .i64 r)∧dO w w':=by
 have HR0:=ak hr0;have zH:=ak hc0;clear hr0 hc0;unfold dG.f at h;have H:=h;clear h;have H':=ak H;clear H;go_enter Tryz.func99,Tryz.ntmps99;go_wp2;go_loopg [8] k (fun kq v8 w'=>∃(lQ:Int),v8= .int .i64 lQ∧ah (dG.l0 kq l0 a1 (l0.length:Int) lQ=some r)∧ah (kq≤k)∧dO w w')
 case atStart=>exact⟨_,rs,H',⟨Nat.le_refl _⟩,dn⟩
 case round=>
  clear H';obtain⟨lQ,rfl,HA,xK,⟨m1,rfl⟩⟩:=hrel
  cases gk with
  |zero=>exact zz HA.out
  |succ k1=>
   obtain⟨H⟩:=HA;simp only[dG.l0]at H;replace H:=sd H;rcases H with⟨iW,H⟩|⟨iW,H⟩
   ·replace H:=oL H;obtain⟨rW,H⟩:=H;replace H:=oL H;obtain⟨oz,H⟩:=H;replace H:=sq H;rcases H with⟨pF,Ad,H⟩|⟨c6,pF,Ad,H⟩
    ·obtain rfl:=s1 H;have ab6:=zi lQ;have ab7:=zj lQ l0.length;obtain⟨avP,e304,amR⟩:=Kd.jT HR0.out lQ ab6 ab7;cases e304;replace ab6:=eq_true ab6;replace ab7:=eq_true ab7;go_wp2;go_ret;exact⟨rs,dn⟩
    ·have H':=ak H;clear H;have ab6:=zi lQ;have ab7:=zj lQ l0.length;obtain⟨avP,e304,amR⟩:=Kd.jT HR0.out lQ ab6 ab7;cases e304;replace ab6:=eq_true ab6;replace ab7:=eq_true ab7;go_wp2;go_roundg k1
     case measure=>exact kl
     case rel=>exact⟨_,rs,H',⟨kl⟩,dn⟩
   ·obtain rfl:=s1 H;go_wp2;go_ret;exact⟨rs,dn⟩
def fQ.f (k:Nat) (l0:List ByteArray) (a1:ByteArray):Option (Bool):=(dG.f k l0 a1).bind fun avQ=>(some (decide (avQ≥0)))
theorem fQ.calls {k c0:Nat} {A0:Option Addr} {l0:List ByteArray} {a1:ByteArray} {r:Bool} {w:World} (hr0:Kd.C Kd.string w A0 l0.length l0) (hc0:l0.length≤c0) (h:fQ.f k l0 a1=some r):
  Calls Tryz.prog 175 #[.slice A0 l0.length c0, .string a1] w fun e w'=>e= .returned (.bool r)∧dO w w':=by
 have HR0:=ak hr0;have zH:=ak hc0;clear hr0 hc0;unfold fQ.f at h;have H:=h;clear h;replace H:=bd H;obtain⟨avQ,A3,H⟩:=H;obtain rfl:=s1 H;go_enter Tryz.func175,Tryz.ntmps175;go_wp2_with (refine gA Tryz.func99 (dG.calls (cu HR0.out) zH.out A3.out) ?_;intro nd)
 go_ret;exact⟨rs,dn⟩
def wC.f (k:Nat) (l0:List ByteArray) (a1:ByteArray):Option (Bool):=if 2+a1.size≤9223372036854775807 then((fQ.f k l0 ((⟨#[45,45]⟩:ByteArray)++a1)).bind fun amS=>(if amS=true then(some true)else(if((⟨#[45,45]⟩:ByteArray)++a1).size+2≤9223372036854775807 then((fQ.f k l0 (((⟨#[45,45]⟩:ByteArray)++a1)++(⟨#[45,45]⟩:ByteArray))).bind fun avR=>(some avR))else(none))))else(none)
theorem wC.calls {k c0:Nat} {A0:Option Addr} {l0:List ByteArray} {a1:ByteArray} {r:Bool} {w:World} (hr0:Kd.C Kd.string w A0 l0.length l0) (hc0:l0.length≤c0) (h:wC.f k l0 a1=some r):
  Calls Tryz.prog 152 #[.slice A0 l0.length c0, .string a1] w fun e w'=>e= .returned (.bool r)∧dO w w':=by
 have HR0:=ak hr0;have zH:=ak hc0;clear hr0 hc0;unfold wC.f at h;have H:=h;clear h;replace H:=nn H;obtain⟨c3,H⟩:=H;have iW:=eq_true c3;have Ae:=decide_eq_true c3;try have Ya:(9223372036854775807<2+a1.size)=False:=eq_false (Nat.not_lt.2 c3)
 replace H:=bd H;obtain⟨amS,A4,H⟩:=H;replace H:=sb H;rcases H with⟨rfl,H⟩|⟨rfl,H⟩
 ·obtain rfl:=s1 H;go_enter Tryz.func152,Tryz.ntmps152;go_wp2_with (refine gA Tryz.func175 (fQ.calls (cu HR0.out) zH.out A4.out) ?_;intro nd)
  go_ret;exact⟨rs,dn⟩
 ·replace H:=nn H;obtain⟨c6,H⟩:=H;have pF:=eq_true c6;have Ad:=decide_eq_true c6;try have aLa:(9223372036854775807<2+a1.size+2)=False:=by have h_:=(eq_false (Nat.not_lt.2 c6):(9223372036854775807<((⟨#[45,45]⟩:ByteArray)++a1).size+2)=False);simp only[ByteArray.size_append]at h_;exact h_
  try have amT:(9223372036854775807<((⟨#[45,45]⟩:ByteArray)++a1).size+2)=False:=eq_false (Nat.not_lt.2 c6)
  replace H:=bd H;obtain⟨avR,A7,H⟩:=H;obtain rfl:=s1 H;go_enter Tryz.func152,Tryz.ntmps152;go_wp2_with (first|(refine gA Tryz.func175 (fQ.calls (cu HR0.out) zH.out A4.out) ?_;intro nd)|(go_at_call 175;refine mA (fQ.calls (cu HR0.out) zH.out A7.out) ?_;intro nd))
  go_ret;exact⟨rs,dn⟩
def oV.f (k:Nat) (l0:List ByteArray) (a1:ByteArray):Option (Bool):=(wC.f k l0 a1).bind fun avS=>(some avS)
theorem oV.calls {k c0 gq1:Nat} {A0:Option Addr} {l0:List ByteArray} {a1:ByteArray} {r:Bool} {w:World} (hr0:Kd.C Kd.string w A0 l0.length l0) (hc0:l0.length≤c0) (hq1:w.heap[gq1]? =some (.cells #[.string a1] 9 (0,0))) (h:oV.f k l0 a1=some r):
  Calls Tryz.prog 151 #[.slice A0 l0.length c0, .pointer (some ⟨gq1,0,none⟩)] w fun e w'=>e= .returned (.bool r)∧Below w.heap.size w w':=by
 have HR0:=ak hr0;have zH:=ak hc0;clear hr0 hc0;have xP:=ak hq1;clear hq1;have HB:=ak (Below.refl w.heap.size w);unfold oV.f at h;have H:=h;clear h;replace H:=bd H;obtain⟨avS,A3,H⟩:=H;obtain rfl:=s1 H;have aiQ:w.cell? ⟨gq1,0,none⟩=some (.string a1):=(ay xP.out 0).trans rfl;have aEJ:=fK xP.out 0;go_enter Tryz.func151,Tryz.ntmps151;go_wp2_with (refine gA Tryz.func152 (wC.calls (cu HR0.out) zH.out A3.out) ?_;intro nd)
 go_ret;exact⟨er,bb⟩
def aX.l0:Nat→List (List ByteArray)→Int→Int→ByteArray→Option (Int)
 |0,_,_,_,_=>none
 |k+1,x0,x7,x8,Uj=>if x8<x7 then(if 0≤x8 then(if x8<(x0.length:Int)then((oV.f k (Ba x0 x8) Uj).bind fun amU=>(if amU=true then(some x8)else(aX.l0 k x0 x7 (wrap64 (x8+1)) Uj)))else(none))else(none))else(some (-1))
def aX.f (k:Nat) (l0:List (List ByteArray)) (II:ByteArray):Option (Int):=aX.l0 k l0 (l0.length:Int) 0 II
theorem aX.calls {k c0 KO:Nat} {A0:Option Addr} {l0:List (List ByteArray)} {II:ByteArray} {r:Int} {w:World} (hr0:Kd.C (Kd.slice 9 Kd.string) w A0 l0.length l0) (hc0:l0.length≤c0) (Rk:w.heap[KO]? =some (.cells #[.string II] 9 (0,0))) (h:aX.f k l0 II=some r):
  Calls Tryz.prog 174 #[.slice A0 l0.length c0, .func (.func 151) #[] #[.pointer (some ⟨KO,0,none⟩)]] w fun e w'=>e= .returned (.int .i64 r)∧Below w.heap.size w w':=by
 have HR0:=ak hr0;have zH:=ak hc0;clear hr0 hc0;have xP:=ak Rk;clear Rk;have HB:=ak (Below.refl w.heap.size w);unfold aX.f at h;have H:=h;clear h;have H':=ak H;clear H;go_enter Tryz.func174,Tryz.ntmps174;go_wp2;go_loopg [8] k (fun kq v8 w'=>∃(lQ:Int),v8= .int .i64 lQ∧ah (aX.l0 kq l0 (l0.length:Int) lQ II=some r)∧ah (kq≤k)∧ah (w'.heap[KO]? =some (.cells #[.string II] 9 (0,0)))∧ah (Below w.heap.size w w'))
 case atStart=>exact⟨_,rs,H',⟨Nat.le_refl _⟩,⟨ub xP.out⟩,⟨bb⟩⟩
 case round=>
  clear H';obtain⟨lQ,rfl,HA,xK,xP,HB⟩:=hrel
  cases gk with
  |zero=>exact zz HA.out
  |succ k1=>
   obtain⟨H⟩:=HA;simp only[aX.l0]at H;replace H:=sd H;rcases H with⟨iW,H⟩|⟨iW,H⟩
   ·replace H:=oL H;obtain⟨rW,H⟩:=H;replace H:=oL H;obtain⟨oz,H⟩:=H;replace H:=bd H;obtain⟨amU,A6,H⟩:=H;replace H:=sb H;rcases H with⟨rfl,H⟩|⟨rfl,H⟩
    ·obtain rfl:=s1 H;have ab8:=zi lQ;have ab9:=zj lQ l0.length;obtain⟨avT,ar1,ar2,e309,Nh,Nl,Np⟩:=MW HR0.out lQ ab8 ab9;cases e309;replace Nh:=cl HB.out Nh;have Yb:=ak Np;have Yc:=ak Nl;clear Np Nl;replace ab8:=eq_true ab8;replace ab9:=eq_true ab9;go_wp2_with (go_at_call 151;refine mB (oV.calls (cu (Kd.aI Yb.out HB.out)) Yc.out (ub xP.out) A6.out) ?_;intro w8 hb;replace xP:=kb xP hb;replace HB:=bz HB hb;clear hb)
     go_ret;exact⟨er,bb⟩
    ·have H':=ak H;clear H;have ab8:=zi lQ;have ab9:=zj lQ l0.length;obtain⟨avT,ar1,ar2,e309,Nh,Nl,Np⟩:=MW HR0.out lQ ab8 ab9;cases e309;replace Nh:=cl HB.out Nh;have Yb:=ak Np;have Yc:=ak Nl;clear Np Nl;replace ab8:=eq_true ab8;replace ab9:=eq_true ab9;go_wp2_with (go_at_call 151;refine mB (oV.calls (cu (Kd.aI Yb.out HB.out)) Yc.out (ub xP.out) A6.out) ?_;intro w9 hb;replace xP:=kb xP hb;replace HB:=bz HB hb;clear hb)
     go_roundg k1
     case measure=>exact kl
     case rel=>exact⟨_,rs,H',⟨kl⟩,⟨ub xP.out⟩,⟨bb⟩⟩
   ·obtain rfl:=s1 H;go_wp2;go_ret;exact⟨er,bb⟩
def dW.f (k:Nat) (l0:List (List ByteArray)) (II:ByteArray):Option (Bool):=(aX.f k l0 II).bind fun amV=>(some (decide (amV≥0)))
theorem dW.calls {k c0 KO:Nat} {A0:Option Addr} {l0:List (List ByteArray)} {II:ByteArray} {r:Bool} {w:World} (hr0:Kd.C (Kd.slice 9 Kd.string) w A0 l0.length l0) (hc0:l0.length≤c0) (Rk:w.heap[KO]? =some (.cells #[.string II] 9 (0,0))) (h:dW.f k l0 II=some r):
  Calls Tryz.prog 150 #[.slice A0 l0.length c0, .func (.func 151) #[] #[.pointer (some ⟨KO,0,none⟩)]] w fun e w'=>e= .returned (.bool r)∧Below w.heap.size w w':=by
 have HR0:=ak hr0;have zH:=ak hc0;clear hr0 hc0;have xP:=ak Rk;clear Rk;have HB:=ak (Below.refl w.heap.size w);unfold dW.f at h;have H:=h;clear h;replace H:=bd H;obtain⟨amV,A3,H⟩:=H;obtain rfl:=s1 H;go_enter Tryz.func150,Tryz.ntmps150;go_wp2_with (refine gB Tryz.func174 (aX.calls (cu HR0.out) zH.out (ub xP.out) A3.out) ?_;intro w4 hb;replace xP:=kb xP hb;replace HB:=bz HB hb;clear hb)
 go_ret;exact⟨er,bb⟩
mutual
def fM.j0:Nat→List (List ByteArray)→Bool→ByteArray→Option (List ByteArray×Bool)
 |0,_,_,_=>none
 |k+1,x0,x21,E5=>if x21=true then(some (([]:List ByteArray),false))else(fM.l0 k (([]:List ByteArray)) x0 (x0.length:Int) 0 E5)
def fM.l0:Nat→List ByteArray→List (List ByteArray)→Int→Int→ByteArray→Option (List ByteArray×Bool)
 |0,_,_,_,_,_=>none
 |k+1,x6,x23,x24,x25,E5=>if x25<x24 then(if 0≤x25 then(if x25<(x23.length:Int)then(if 2+E5.size≤9223372036854775807 then(if x6.length<8796093022208 then((some (x6++[(⟨#[45,45]⟩:ByteArray)++E5]:List ByteArray)).bind fun aiR=>(if aiR.length+(Ba x23 x25).length<8796093022208 then(fM.l0 k (aiR++(Ba x23 x25)) x23 x24 (wrap64 (x25+1)) E5)else(none)))else(none))else(none))else(none))else(none))else(if 2+E5.size≤9223372036854775807 then(if((⟨#[45,45]⟩:ByteArray)++E5).size+2≤9223372036854775807 then(if x6.length<8796093022208 then(some ((x6++[((⟨#[45,45]⟩:ByteArray)++E5)++(⟨#[45,45]⟩:ByteArray)]),true))else(none))else(none))else(none))
end
def fM.f (k:Nat) (l0:List (List ByteArray)) (a1:ByteArray):Option (List ByteArray×Bool):=(kV.f k a1).bind fun avU=>(if avU=true then(if(l0.length:Int)=0 then(fM.j0 k l0 true a1)else((dW.f k l0 a1).bind fun avV=>(fM.j0 k l0 avV a1)))else(fM.j0 k l0 true a1))
theorem fM.calls {k c0:Nat} {A0:Option Addr} {l0:List (List ByteArray)} {a1:ByteArray} {r1:List ByteArray} {r2:Bool} {w:World} (hr0:Kd.C (Kd.slice 9 Kd.string) w A0 l0.length l0) (hc0:l0.length≤c0) (h:fM.f k l0 a1=some (r1,r2)):
  Calls Tryz.prog 106 #[.slice A0 l0.length c0, .string a1] w fun e w'=>∃pO:Value,e= .returned (.tuple #[pO, .bool r2])∧Kd.R Kd.string 9 w' w.heap.size (fun _=>True) pO r1∧Below w.heap.size w w':=by
 have HR0:=ak hr0;have zH:=ak hc0;clear hr0 hc0;have HB:=ak (Below.refl w.heap.size w);unfold fM.f at h;have H:=h;clear h;have Uk:=ak H;clear H;go_enter Tryz.func106,Tryz.ntmps106;go_upto_region 1 with(refine gG 3 ?_;refine bX HB 3 #[.string a1] 9 ?_;intro Bd w4 tC aHN hb;replace HB:=bs HB hb;clear hb)
 (try simp only[Act.put,zW,zX,l_c]);go_cut [21] (fun v21 wc=>∃(kq:Nat) (aiS:Bool),v21= .bool aiS∧ah (fM.j0 kq l0 aiS a1=some (r1,r2))∧ah (kq≤k)∧ah (wc.heap[Bd]? =some (.cells #[.string a1] 9 (0,0)))∧ah (Below w.heap.size w wc))
 case first=>
  have H:=Uk.out;clear Uk;replace H:=bd H;obtain⟨avU,A5,H⟩:=H;replace H:=sb H;rcases H with⟨rfl,H⟩|⟨rfl,H⟩
  ·replace H:=sp H;rcases H with⟨c7,H⟩|⟨c7,H⟩
   ·have tZ:=beq_iff_eq.mpr c7;have Qd:=bne_eq_false_iff_eq.mpr c7;clear c7
    (first|rw[tZ]|(simp only[jo,lg];rw[tZ])|skip);have H':=ak H;clear H;have aEK:w4.cell? ⟨Bd,0,none⟩=some (.string a1):=(ay tC.out 0).trans rfl;have aEL:=fK tC.out 0;go_wp2_with (refine gA Tryz.func96 (kV.calls A5.out) ?_;intro nd)
    go_meet
    case rel=>exact⟨_,_,rs,H',⟨Qa⟩,⟨ub tC.out⟩,⟨bb⟩⟩
   ·have tZ:=beq_eq_false_iff_ne.mpr c7;have Qd:=bne_iff_ne.mpr c7;have aEM:¬(l0=[]):=fun h_=>c7 (by rw[h_];rfl)
    (first|rw[tZ]|(simp only[jo,lg];rw[tZ])|skip);replace H:=bd H;obtain⟨avV,A9,H⟩:=H;have H':=ak H;clear H;have aC8:w4.cell? ⟨Bd,0,none⟩=some (.string a1):=(ay tC.out 0).trans rfl;have aC9:=fK tC.out 0;go_wp2_with (first|(refine gA Tryz.func96 (kV.calls A5.out) ?_;intro nd)|(go_at_call 150;refine mB (dW.calls (cu (Kd.aI HR0.out bb)) zH.out (ub tC.out) A9.out) ?_;intro V6 hb;replace tC:=kb tC hb;replace HB:=bz HB hb;clear hb))
    go_meet
    case rel=>exact⟨_,_,rs,H',⟨Qa⟩,⟨ub tC.out⟩,⟨bb⟩⟩
  ·have H':=ak H;clear H;have amW:w4.cell? ⟨Bd,0,none⟩=some (.string a1):=(ay tC.out 0).trans rfl;have aC_:=fK tC.out 0;go_wp2_with (refine gA Tryz.func96 (kV.calls A5.out) ?_;intro nd)
   go_meet
   case rel=>exact⟨_,_,rs,H',⟨Qa⟩,⟨ub tC.out⟩,⟨bb⟩⟩
 case rest=>
  clear Uk;obtain⟨kq,aiS,rfl,HA,HJ2,tC,HB⟩:=hcut
  cases kq with
  |zero=>exact zz HA.out
  |succ kj2=>
   obtain⟨H⟩:=HA;simp only[fM.j0]at H;replace H:=sb H;rcases H with⟨rfl,H⟩|⟨rfl,H⟩
   ·obtain⟨rfl,rfl⟩:=s2 H;go_wp2;go_ret2;exact⟨_,er,nx,bb⟩
   ·obtain⟨aLb,aoP⟩:=nm ([]:List ByteArray);rw[←aoP.out]at H;have H':=ak H;clear H;go_wp2_with (refine gG 22 ?_;refine IY 22 Kd.string 9 aoP ?_;intro aLc V3 Lp hb;have avW:=ak (Kd.aG (Kd.kN Lp (g:=Bd) (o:= .cells #[.string a1] 9 (0,0)) (ub tC.out)) (aj bb));replace tC:=kb tC hb;replace HB:=bz HB hb;clear hb Lp)
    go_loopg [6,25] kj2 (fun kq v6 v25 w'=>∃(EP:List ByteArray) (Rl:Int),v25= .int .i64 Rl∧ah (fM.l0 kq EP l0 (l0.length:Int) Rl a1=some (r1,r2))∧ah (kq≤kj2)∧ah (Kd.R Kd.string 9 w' w.heap.size (fun k_=>k_≠Bd) v6 EP)∧ah (w'.heap[Bd]? =some (.cells #[.string a1] 9 (0,0)))∧ah (Below w.heap.size w w'))
    case atStart=>exact⟨_,_,rs,H',⟨Nat.le_refl _⟩,⟨ur (Kd.aW avW.out (fun _ hk=>hk.2))⟩,⟨ub tC.out⟩,⟨bb⟩⟩
    case round=>
     clear H';obtain⟨EP,Rl,rfl,HA,HK2,mW,tC,HB⟩:=hrel
     cases gk with
     |zero=>exact zz HA.out
     |succ k2=>
      obtain⟨H⟩:=HA;simp only[fM.l0]at H;replace H:=sd H;rcases H with⟨zJ,H⟩|⟨zJ,H⟩
      ·replace H:=oL H;obtain⟨vX,H⟩:=H;replace H:=oL H;obtain⟨C_,H⟩:=H;replace H:=nn H;obtain⟨c19,H⟩:=H;have D_:=eq_true c19;have Ij:=decide_eq_true c19;try have aoQ:(9223372036854775807<2+a1.size)=False:=eq_false (Nat.not_lt.2 c19)
       replace H:=nl H;obtain⟨aiT,H⟩:=H;replace H:=ny H;obtain⟨aiR,avX,H⟩:=H;replace H:=nl H;obtain⟨aap,H⟩:=H;obtain⟨aLd,aoR⟩:=nm (aiR++(Ba l0 Rl));rw[←aoR.out]at H;have H':=ak H;clear H;have ar4:=zi Rl;have ar5:=zj Rl l0.length;obtain⟨aHO,aEN,aEO,e318,aej,aek,ael⟩:=MW HR0.out Rl ar4 ar5;cases e318;replace aej:=cl HB.out aej;have amX:=ak ael;have aDa:=ak aek;clear ael aek;replace ar4:=eq_true ar4;replace ar5:=eq_true ar5;have aDb:wr.cell? ⟨Bd,0,none⟩=some (.string a1):=(ay tC.out 0).trans rfl;have aDc:=fK tC.out 0;go_wp2_with (first|((with_reducible refine dR (b:= .append) (xs:=#[.tmp 29, .tmp 32]) rfl ?_);(try(refine mX (by rfl) ?_;dsimp only));at_builtin;refine Kd.qX Kd.string (w0:=w) w.heap.size rfl (.tmp 29) (.tmp 32) 23 9 (.string ⟨#[]⟩) 16 rfl Tryz.underlying23 info9 rfl (by decide) (by omega) u6 EP ((⟨#[45,45]⟩:ByteArray)++a1) [.string ((⟨#[45,45]⟩:ByteArray)++a1)] (fun k_=>k_≠Bd) (fun _=>False) rfl rfl ?aP (fun _ hk=>hk.elim) ?aF ?aO ?aB ?aS ?aL ?_;(case aP=>exact rfl);(case aB=>exact bb);(case aF=>exact(fun k_ hk=>Kd.xO (g:=Bd) (o:= .cells #[.string a1] 9 (0,0)) (ub tC.out) k_ hk));(case aO=>exact(ur mW.out));(case aS=>exact(aj bb));(case aL=>have:=aiT.out;omega);intro aEP w23 ho hb hg hat;rw[←avX.out]at ho;have aiU:=ak (ho);replace tC:=ak (bD (g:=Bd) (o:= .cells #[.string a1] 9 (0,0)) (ub tC.out) hg (Kd.yP mW.out (fun _ hk=>hk)));replace HB:=ak (hb);clear ho hb hg hat mW)|((with_reducible refine dR (b:= .append) (xs:=#[.tmp 34, .tmp 35]) rfl ?_);(try(refine mX (by rfl) ?_;dsimp only));at_builtin;refine Kd.pU Kd.string (w0:=w) w.heap.size rfl (.tmp 34) (.tmp 35) 23 9 (.string ⟨#[]⟩) 16 rfl Tryz.underlying23 info9 rfl (by decide) (by omega) aEP aiR (Ba l0 Rl) _ _ _ (fun k_=>k_≠Bd) (fun _=>False) rfl rfl ?aO ?aR (fun _ _ h=>h) (fun _ h=>h.elim) ?aF ?aB ?aS ?aL ?_;(case aR=>repeat(first|exact(Kd.aI amX.out HB.out)|(with_reducible refine Kd.mP ?_ _)|(with_reducible refine Kd.mQ ?_ _)|(with_reducible refine Kd.qE ?_)));(case aB=>exact bb);(case aF=>exact(fun k_ hk=>Kd.xO (g:=Bd) (o:= .cells #[.string a1] 9 (0,0)) (ub tC.out) k_ hk));(case aO=>exact(ur aiU.out));(case aS=>exact(aj bb));(case aL=>have:=aap.out;omega);intro aLe w24 ho hb hg hat;rw[←aoR.out]at ho;have avY:=ak (ho);replace tC:=ak (bD (g:=Bd) (o:= .cells #[.string a1] 9 (0,0)) (ub tC.out) hg (Kd.yP aiU.out (fun _ hk=>hk)));replace HB:=ak (hb);clear ho hb hg hat aiU))
       go_roundg k2
       case measure=>exact kl
       case rel=>exact⟨_,_,rs,H',⟨kl⟩,⟨ur avY.out⟩,⟨ub tC.out⟩,⟨bb⟩⟩
      ·replace H:=nn H;obtain⟨c25,H⟩:=H;have Ul:=eq_true c25;have aiV:=decide_eq_true c25;try have avZ:(9223372036854775807<2+a1.size)=False:=eq_false (Nat.not_lt.2 c25)
       replace H:=nn H;obtain⟨c26,H⟩:=H;have Rn:=eq_true c26;have aem:=decide_eq_true c26;try have aHP:(9223372036854775807<2+a1.size+2)=False:=by have h_:=(eq_false (Nat.not_lt.2 c26):(9223372036854775807<((⟨#[45,45]⟩:ByteArray)++a1).size+2)=False);simp only[ByteArray.size_append]at h_;exact h_
       try have aHQ:(9223372036854775807<((⟨#[45,45]⟩:ByteArray)++a1).size+2)=False:=eq_false (Nat.not_lt.2 c26)
       replace H:=nl H;obtain⟨aiW,H⟩:=H;obtain⟨aLf,aoS⟩:=nm (EP++[((⟨#[45,45]⟩:ByteArray)++a1)++(⟨#[45,45]⟩:ByteArray)]);rw[←aoS.out]at H;obtain⟨rfl,rfl⟩:=s2 H;have aDd:wr.cell? ⟨Bd,0,none⟩=some (.string a1):=(ay tC.out 0).trans rfl;have aDe:=fK tC.out 0;go_wp2_with ((with_reducible refine dR (b:= .append) (xs:=#[.tmp 38, .tmp 42]) rfl ?_);(try(refine mX (by rfl) ?_;dsimp only));at_builtin;refine Kd.qX Kd.string (w0:=w) w.heap.size rfl (.tmp 38) (.tmp 42) 23 9 (.string ⟨#[]⟩) 16 rfl Tryz.underlying23 info9 rfl (by decide) (by omega) u6 EP (((⟨#[45,45]⟩:ByteArray)++a1)++(⟨#[45,45]⟩:ByteArray)) [.string (((⟨#[45,45]⟩:ByteArray)++a1)++(⟨#[45,45]⟩:ByteArray))] (fun k_=>k_≠Bd) (fun _=>False) rfl rfl ?aP (fun _ hk=>hk.elim) ?aF ?aO ?aB ?aS ?aL ?_;(case aP=>exact rfl);(case aB=>exact bb);(case aF=>exact(fun k_ hk=>Kd.xO (g:=Bd) (o:= .cells #[.string a1] 9 (0,0)) (ub tC.out) k_ hk));(case aO=>exact(ur mW.out));(case aS=>exact(aj bb));(case aL=>have:=aiW.out;omega);intro aLg w29 ho hb hg hat;rw[←aoS.out]at ho;have av1:=ak (ho);replace tC:=ak (bD (g:=Bd) (o:= .cells #[.string a1] 9 (0,0)) (ub tC.out) hg (Kd.yP mW.out (fun _ hk=>hk)));replace HB:=ak (hb);clear ho hb hg hat mW)
       go_ret2;exact⟨_,er,ur (Kd.aW av1.out (fun _ hk=>trivial)),bb⟩
mutual
def aT.j0:Nat→Int→List ByteArray→Bool→List (fP)→List ByteArray→List (jV)→Option (List ByteArray×Bool)
 |0,_,_,_,_,_,_=>none
 |k+1,x1,x6,x27,Nq,Dt,BX=>if x27=true then(some (([]:List ByteArray),false))else(if x6.length<8796093022208 then((some (x6++[(⟨#[]⟩:ByteArray)]:List ByteArray)).bind fun Nr=>((lG.f k Nq Dt BX).bind fun aen=>(if aen.2=true then(if(Dt.length:Int)>0 then(aT.j1 k x1 Nr aen.1 true Nq Dt BX)else(if(BX.length:Int)<1 then(aT.j1 k x1 Nr aen.1 true Nq Dt BX)else(aT.j1 k x1 Nr aen.1 (decide ((BX.length:Int)>4)) Nq Dt BX)))else(if Nr.length+Dt.length<8796093022208 then((some (Nr++Dt:List ByteArray)).bind fun ar6=>(if(BX.length:Int)=0 then((tu.f k Dt 30).bind fun av2=>(some (ar6,av2)))else(some (ar6,false))))else(none)))))else(none))
def aT.j1:Nat→Int→List ByteArray→ByteArray→Bool→List (fP)→List ByteArray→List (jV)→Option (List ByteArray×Bool)
 |0,_,_,_,_,_,_,_=>none
 |k+1,x1,x6,x8,x66,Nq,Dt,BX=>if x66=true then(some (([]:List ByteArray),false))else(aT.l0 k x1 x6 x8 (([]:List (List ByteArray))) BX (BX.length:Int) 0)
def aT.l0:Nat→Int→List ByteArray→ByteArray→List (List ByteArray)→List (jV)→Int→Int→Option (List ByteArray×Bool)
 |0,_,_,_,_,_,_,_=>none
 |k+1,x1,x6,x8,x10,x69,x70,x71=>if x71<x70 then(if 0≤x71 then(if x71<(x69.length:Int)then((aT.f k ((au x69 x71).f0) ((au x69 x71).f1) ((au x69 x71).f2) (wrap64 (x1-1))).bind fun aoT=>(if aoT.2=true then(if x10.length<5864062014805 then(aT.l0 k x1 x6 x8 (x10++[aoT.1]) x69 x70 (wrap64 (x71+1)))else(none))else(some (([]:List ByteArray),false))))else(none))else(none))else((fM.f k x10 x8).bind fun aiX=>(if x6.length+aiX.1.length<8796093022208 then(some ((x6++aiX.1),aiX.2))else(none)))
def aT.f:Nat→List (fP)→List ByteArray→List (jV)→Int→Option (List ByteArray×Bool)
 |0,_,_,_,_=>none
 |k+1,bg,bf,aA,a1=>(jB.f k bg).bind fun aiY=>(if aiY.2=true then(aT.j0 k a1 aiY.1 (a1==0) bg bf aA)else(aT.j0 k a1 aiY.1 true bg bf aA))
end
theorem aT.calls (k:Nat):∀(gQ:Option Addr) (gU:Nat) (bg:List (fP)) (f_:Option Addr) (gu:Nat) (bf:List ByteArray) (eP:Option Addr) (dI:Nat) (aA:List (jV)) (a1:Int) (r1:List ByteArray) (r2:Bool) (w:World) (lI:Kd.C ou w gQ bg.length bg) (lJ:bg.length≤gU) (lK:Kd.C Kd.string w f_ bf.length bf) (lM:bf.length≤gu) (jF:Kd.C k28 w eP aA.length aA) (jG:aA.length≤dI) (D9:MaxOk w) (h:aT.f k bg bf aA a1=some (r1,r2)),
  Calls Tryz.prog 66 #[.agg #[.slice gQ bg.length gU, .slice f_ bf.length gu, .slice eP aA.length dI], .int .i64 a1] w fun e w'=>∃pO:Value,e= .returned (.tuple #[pO, .bool r2])∧Kd.R Kd.string 9 w' w.heap.size (fun _=>True) pO r1∧Below w.heap.size w w':=by
 induction k using Nat.strongRecOn with
 |_ k ih=>
 intro gQ gU bg f_ gu bf eP dI aA a1 r1 r2 w lI lJ lK lM jF jG D9 h
 cases k with
 |zero=>exact absurd h (by simp[aT.f])
 |succ k=>
 simp only[aT.f]at h;have Dq:=Tryz.underlying28;have pG:=ak lI;have qy:=ak lJ;clear lI lJ;have sD:=ak lK;have uV:=ak lM;clear lK lM;have jK:=ak jF;have mV:=ak jG;clear jF jG;have HG:=ak D9;clear D9;have HB:=ak (Below.refl w.heap.size w);have H:=h;clear h;replace H:=bd H;obtain⟨⟨aiZ,aLh⟩,A3,H⟩:=H
 (try dsimp only at H);have HC4:=ak H;clear H;go_enter Tryz.func66,Tryz.ntmps66;go_upto_region 2 with(first|(refine gG 2 ?_;refine bX HB 2 #[.slice gQ bg.length gU, .slice f_ bf.length gu, .slice eP aA.length dI] 28 ?_;intro Dc w5 iI aHR hb;replace HB:=bs HB hb;clear hb;have z6:=iQ iI.out)|(refine gV Tryz.func39 (jB.calls (cu (Kd.aI pG.out HB.out)) qy.out A3.out) ?_;rintro amY w7 ⟨ho0,hb⟩;have aoU:=ak (Kd.aG ho0 (aj bb));replace iI:=kb iI hb;replace HB:=bz HB hb;clear hb;(try clear ho0)))
 (try simp only[Act.put,zW,zX,l_c]);go_cut [27] (fun v27 wc=>∃(kq:Nat) (ai0:Bool),v27= .bool ai0∧ah (aT.j0 kq a1 aiZ ai0 bg bf aA=some (r1,r2))∧ah (kq≤k)∧ah (Kd.R Kd.string 9 wc w.heap.size (fun _=>True) amY aiZ)∧ah (wc.heap[Dc]? =some (.cells #[(.slice gQ bg.length gU),(.slice f_ bf.length gu),(.slice eP aA.length dI)] 28 (0,0)))∧ah (Below w.heap.size w wc))
 case first=>
  have H:=HC4.out;clear HC4;replace H:=sb H;rcases H with⟨rfl,H⟩|⟨rfl,H⟩
  ·have H':=ak H;clear H;go_wp2;go_meet
   case rel=>exact⟨_,_,rs,H',⟨Qa⟩,⟨ur aoU.out⟩,⟨ub iI.out⟩,⟨bb⟩⟩
  ·have H':=ak H;clear H;go_wp2;go_meet
   case rel=>exact⟨_,_,rs,H',⟨Qa⟩,⟨ur aoU.out⟩,⟨ub iI.out⟩,⟨bb⟩⟩
 case rest=>
  clear HC4;obtain⟨kq,ai0,rfl,HA,HJ3,mW,iI,HB⟩:=hcut
  cases kq with
  |zero=>exact zz HA.out
  |succ kj3=>
   obtain⟨H⟩:=HA;simp only[aT.j0]at H;replace H:=sb H;rcases H with⟨rfl,H⟩|⟨rfl,H⟩
   ·obtain⟨rfl,rfl⟩:=s2 H;go_wp2;go_ret2;exact⟨_,er,nx,bb⟩
   ·replace H:=nl H;obtain⟨aaq,H⟩:=H;replace H:=ny H;obtain⟨Nr,ai1,H⟩:=H;replace H:=bd H;obtain⟨⟨av3,aLi⟩,A11,H⟩:=H
    (try dsimp only at H);replace H:=sb H;rcases H with⟨rfl,H⟩|⟨rfl,H⟩
    ·have ar7:=ak H;clear H;go_upto_region 8 with(first|((with_reducible refine dR (b:= .append) (xs:=#[.tmp 28, .tmp 29]) rfl ?_);(try(refine mX (by rfl) ?_;dsimp only));at_builtin;refine Kd.qX Kd.string (w0:=w) w.heap.size rfl (.tmp 28) (.tmp 29) 23 9 (.string ⟨#[]⟩) 16 rfl Tryz.underlying23 info9 rfl (by decide) (by omega) amY aiZ (⟨#[]⟩:ByteArray) [.string (⟨#[]⟩:ByteArray)] (fun _=>True) (fun _=>False) rfl rfl ?aP (fun _ hk=>hk.elim) ?aF ?aO ?aB ?aS ?aL ?_;(case aP=>exact rfl);(case aB=>exact bb);(case aF=>exact(fun _ _=>trivial));(case aO=>exact(ur mW.out));(case aS=>exact(aj bb));(case aL=>have:=aaq.out;omega);intro Um V3 ho hb hg hat;rw[←ai1.out]at ho;have xQ:=ak (ho);replace iI:=ak (bD (g:=Dc) (o:= .cells #[.slice gQ bg.length gU, .slice f_ bf.length gu, .slice eP aA.length dI] 28 (0,0)) (ub iI.out) hg (Kd.pz mW.out iI.out (by decide)));replace HB:=ak (hb);clear ho hb hg hat mW;have z15:=iQ iI.out)|(refine gB Tryz.func101 (lG.calls (cu (Kd.aI pG.out HB.out)) qy.out (cu (Kd.aI sD.out HB.out)) uV.out (cu (Kd.aI jK.out HB.out)) mV.out ?Af A11.out) ?_;(case Af=>first|exact HG.out|exact MaxOk.below HG.out bb|(repeat(first|exact HG.out|apply MaxOk.drewN|apply MaxOk.drew)));intro w16 hb;replace xQ:=rb xQ hb;replace iI:=kb iI hb;replace HB:=bz HB hb;clear hb))
     (try simp only[Act.put,zW,zX,l_c]);go_cut [66] (fun v66 wc=>∃(kq:Nat) (ab_:Bool),v66= .bool ab_∧ah (aT.j1 kq a1 Nr av3 ab_ bg bf aA=some (r1,r2))∧ah (kq≤kj3)∧ah (Kd.R Kd.string 9 wc w.heap.size (fun _=>True) Um Nr)∧ah (wc.heap[Dc]? =some (.cells #[(.slice gQ bg.length gU),(.slice f_ bf.length gu),(.slice eP aA.length dI)] 28 (0,0)))∧ah (Below w.heap.size w wc))
     case first=>
      have H:=ar7.out;clear ar7;replace H:=sp H;rcases H with⟨c17,H⟩|⟨c17,H⟩
      ·have vX:decide (0<(bf.length:Int))=true:=decide_eq_true c17;have Ro:decide (0<bf.length)=true:=decide_eq_true (by omega);clear c17
       (first|rw[vX]|(simp only[jo,lg];rw[vX])|skip);have H':=ak H;clear H;have z18:=iQ iI.out;go_wp2;go_meet
       case rel=>exact⟨_,_,rs,H',⟨kl⟩,⟨ur xQ.out⟩,⟨ub iI.out⟩,⟨bb⟩⟩
      ·have vX:decide (0<(bf.length:Int))=false:=decide_eq_false c17;have Ro:decide (0<bf.length)=false:=decide_eq_false (by omega);clear c17
       (first|rw[vX]|(simp only[jo,lg];rw[vX])|skip);replace H:=sp H;rcases H with⟨c19,H⟩|⟨c19,H⟩
       ·have D_:=decide_eq_true c19;have Ij:decide (aA.length<1)=true:=decide_eq_true (by omega);clear c19;have H':=ak H;clear H;have z20:=iQ iI.out;go_wp2;go_meet
        case rel=>exact⟨_,_,rs,H',⟨kl⟩,⟨ur xQ.out⟩,⟨ub iI.out⟩,⟨bb⟩⟩
       ·have D_:=decide_eq_false c19;have Ij:decide (aA.length<1)=false:=decide_eq_false (by omega);clear c19;have H':=ak H;clear H;have z21:=iQ iI.out;go_wp2;go_meet
        case rel=>exact⟨_,_,rs,H',⟨kl⟩,⟨ur xQ.out⟩,⟨ub iI.out⟩,⟨bb⟩⟩
     case rest=>
      clear ar7;obtain⟨kq,ab_,rfl,HA,ai2,mW,iI,HB⟩:=hcut
      cases kq with
      |zero=>exact zz HA.out
      |succ av4=>
       obtain⟨H⟩:=HA;simp only[aT.j1]at H;replace H:=sb H;rcases H with⟨rfl,H⟩|⟨rfl,H⟩
       ·obtain⟨rfl,rfl⟩:=s2 H;go_wp2;go_ret2;exact⟨_,er,nx,bb⟩
       ·obtain⟨aLj,ai3⟩:=nm ([]:List (List ByteArray));rw[←ai3.out]at H;have H':=ak H;clear H;go_wp2_with ((with_reducible refine aar (N:=67) rfl ?_);(try(refine mX (by rfl) ?_;dsimp only));refine Kd.aoV (Kd.slice 9 Kd.string) _ 23 ?hg (N:=67) ?hd (xs:=([]:List (List ByteArray))) (inner:=[]) (ok:=fun _=>True) (yC:=fun _=>True) ?hr ?hp (fun _ hk=>hk) trivial (Below.refl _ _) (Nat.le_refl _) (by simp) ?_;(case hd=>rfl);(case hg=>rfl);(case hr=>first|(go_simp;done)|(go_simp;rfl));(case hp=>exact(bZ.none _ _));intro aLk w23 Qe hb D9 yV;clear D9 yV;(first|rw[←ai3.out]at Qe|(simp only[Int.reduceToNat]at Qe;rw[←ai3.out]at Qe));have av5:=ak (Kd.aeo (Kd.ai4 Qe (Kd.jM (ur mW.out))) (aj bb));replace mW:=rb mW hb;replace iI:=kb iI hb;replace HB:=bz HB hb;clear hb Qe;have z25:=iQ iI.out)
        go_loopg [10,71] av4 (fun kq v10 v71 w'=>∃(aas:List (List ByteArray)) (uf:Int),v71= .int .i64 uf∧ah (aT.l0 kq a1 Nr av3 aas aA (aA.length:Int) uf=some (r1,r2))∧ah (kq≤av4)∧ah (Kd.R Kd.string 9 w' w.heap.size (fun _=>True) Um Nr)∧ah (Kd.S (Kd.slice 9 Kd.string) 23 w' w.heap.size (fun k_=>some k_≠(Um:Value).ownBlock) v10 aas)∧ah (w'.heap[Dc]? =some (.cells #[(.slice gQ bg.length gU),(.slice f_ bf.length gu),(.slice eP aA.length dI)] 28 (0,0)))∧ah (Below w.heap.size w w'))
        case atStart=>exact⟨_,_,rs,H',⟨Nat.le_refl _⟩,⟨ur mW.out⟩,⟨by(with_reducible repeat(first|apply Kd.vw|apply Kd.vC|apply Kd.yQ));exact Kd.G5 av5.out (fun _ hk=>hk.2)⟩,⟨ub iI.out⟩,⟨bb⟩⟩
        case round=>
         clear H';obtain⟨aas,uf,rfl,HA,HK3,mW,yK,iI,HB⟩:=hrel
         cases gk with
         |zero=>exact zz HA.out
         |succ k3=>
          obtain⟨H⟩:=HA;simp only[aT.l0]at H;replace H:=sd H;rcases H with⟨Rn,H⟩|⟨Rn,H⟩
          ·replace H:=oL H;obtain⟨I5,H⟩:=H;replace H:=oL H;obtain⟨I7,H⟩:=H;replace H:=bd H;obtain⟨⟨ag1,aLl⟩,A29,H⟩:=H
           (try dsimp only at H);replace H:=sb H;rcases H with⟨rfl,H⟩|⟨rfl,H⟩
           ·replace H:=nl H;obtain⟨ai5,H⟩:=H;obtain⟨aLm,aoW⟩:=nm (aas++[ag1]);rw[←aoW.out]at H;have H':=ak H;clear H;have acd:=zi uf;have ace:=zj uf aA.length;obtain⟨aep,Qg,Qh,Qi,Qj,Qk,Ql,e345,Ns,Nu,Nv,Nw,Nz,NC,ND,NG,NH⟩:=xM jK.out uf acd ace;cases e345;replace Ns:=cl HB.out Ns;replace Nu:=cl HB.out Nu;replace Nv:=cl HB.out Nv;have Yd:=ak Nz;have Ye:=ak Nw;clear Nz Nw;have Yf:=ak ND;have Yg:=ak NC;clear ND NC;have Yh:=ak NH;have Yi:=ak NG;clear NH NG;replace acd:=eq_true acd;replace ace:=eq_true ace;go_wp2_with (first|(refine gG 12 ?_;refine bY HB 12 #[.slice none 0 0, .slice none 0 0, .slice none 0 0] 28 ?_;intro Rq w32 Ik av6 hg hb;have Qm:=yA iI hg;have Qn:=yB iI hg;replace mW:=rb mW hb;replace yK:=ak (Kd.aer (by(with_reducible repeat(first|apply Kd.vw|apply Kd.vC|apply Kd.yQ));exact yK.out) hb);replace iI:=kb iI hb;replace HB:=bz HB hb;clear hb hg;have av7:=Qn.out;have av8:=Qm.out;have z34:=iQ Ik.out)|(refine gV Tryz.func66 (ih k3 (by have:=HJ3.out;have:=ai2.out;have:=HK3.out;omega) _ _ ((au aA uf).f0) _ _ ((au aA uf).f1) _ _ ((au aA uf).f2) (wrap64 (a1-1)) ag1 true _ (Kd.aI Yd.out bb) Ye.out (Kd.aI Yf.out bb) Yg.out (Kd.aI Yh.out bb) Yi.out ?Af A29.out) ?_;(case Af=>first|exact HG.out|exact MaxOk.below HG.out bb|(repeat(first|exact HG.out|apply MaxOk.drewN|apply MaxOk.drew)));rintro aEQ w35 ⟨ho0,hb⟩;have aat:=ak (Kd.aG (Kd.eU ho0 (Kd.jM (rh mW))) (aj bb));replace mW:=ak (Kd.dY (rh mW) (Kd.bV ho0) hb);replace yK:=ak (Kd.I8 (by(with_reducible repeat(first|apply Kd.vw|apply Kd.vC|apply Kd.yQ));exact(Kd.G5 (Kd.WU (p:=⟨Rq,2,none⟩) (Kd.WU (p:=⟨Rq,1,none⟩) (Kd.WU (p:=⟨Rq,0,none⟩) (Kd.aes yK.out Ik.out (by decide)) (fun _ hk=>hk.2) (.slice Qg ((au aA uf).f0).length Qh)) (fun _ hk=>hk.2) (.slice Qi ((au aA uf).f1).length Qj)) (fun _ hk=>hk.2) (.slice Qk ((au aA uf).f2).length Ql)) (fun _ h_=>h_.1))) (Kd.bV ho0) hb);replace iI:=kp iI #[.slice gQ bg.length gU, .slice f_ bf.length gu, .slice (some aep) aA.length dI] hb;replace Ik:=kp Ik #[.slice Qg ((au aA uf).f0).length Qh, .slice Qi ((au aA uf).f1).length Qj, .slice Qk ((au aA uf).f2).length Ql] hb;replace HB:=bz HB hb;clear hb;(try clear ho0);obtain⟨ag2,ag3,Yj⟩:=Kd.aH aat.out;subst Yj)|((with_reducible refine dR (b:= .append) (xs:=#[.tmp 84, .tmp 86]) rfl ?_);(try(refine mX (by rfl) ?_;dsimp only));at_builtin;refine Kd.aau (Kd.slice 9 Kd.string) (w0:=w) w.heap.size rfl (.tmp 84) (.tmp 86) 65 23 (.slice none 0 0) 24 rfl Tryz.underlying65 info23 rfl (by decide) (by omega) u10 aas ag1 [.slice ag2 ag1.length ag3] (fun k_=>some k_≠(Um:Value).ownBlock) (fun k_=>some k_=(.slice ag2 ag1.length ag3:Value).ownBlock) rfl rfl ?aP (fun k_ hk_=>((Kd.aW (ok':=fun k_=>((fun k_=>some k_≠(Um:Value).ownBlock)) k_∧some k_≠(u10:Value).ownBlock) (Kd.oC (aat.out) (Kd.JV yK.out) (by decide)) (fun k_ hk=>⟨hk.1.2,hk.2⟩))).1 k_ hk_.symm) ?aF ?aO ?aB ?aS ?aL ?_;(case aP=>exact Kd.aoX (Kd.aW (Kd.aeu rfl (Kd.aW (ok':=fun k_=>((fun k_=>some k_≠(Um:Value).ownBlock)) k_∧some k_≠(u10:Value).ownBlock) (Kd.oC (aat.out) (Kd.JV yK.out) (by decide)) (fun k_ hk=>⟨hk.1.2,hk.2⟩))) (fun _ h_=>h_)));(case aB=>exact bb);(case aF=>exact(fun k_ hk=>Kd.fresh' (Kd.jM (ur mW.out)) k_ hk));(case aO=>exact(by(with_reducible repeat(first|apply Kd.vw|apply Kd.vC|apply Kd.yQ));exact Kd.G5 yK.out (fun k_ hk=>⟨hk.1,fun e_=>hk.2 e_⟩)));(case aS=>exact(aj bb));(case aL=>have:=ai5.out;omega);intro aLn w36 ho hb hg hat;rw[←aoW.out]at ho;have av9:=ak (ho);replace mW:=ak (Kd.pq (ur mW.out) (Kd.JV (by(with_reducible repeat(first|apply Kd.vw|apply Kd.vC|apply Kd.yQ));exact yK.out)) (by decide) hg);replace iI:=ak (bD (g:=Dc) (o:= .cells #[.slice gQ bg.length gU, .slice f_ bf.length gu, .slice (some aep) aA.length dI] 28 (0,0)) (ub iI.out) hg (Kd.ar8 yK.out iI.out (by decide)));replace Ik:=ak (bD (g:=Rq) (o:= .cells #[.slice Qg ((au aA uf).f0).length Qh, .slice Qi ((au aA uf).f1).length Qj, .slice Qk ((au aA uf).f2).length Ql] 28 (0,0)) (ub Ik.out) hg (Kd.ar8 yK.out Ik.out (by decide)));replace HB:=ak (hb);clear ho hb hg hat yK aat))
            go_roundg k3
            case measure=>have:=HJ3.out;have:=ai2.out;have:=HK3.out;omega
            case rel=>exact⟨_,_,rs,H',⟨by have:=HJ3.out;have:=ai2.out;have:=HK3.out;omega⟩,⟨ur (Kd.aW mW.out (fun _ hk=>trivial))⟩,⟨by(with_reducible repeat(first|apply Kd.vw|apply Kd.vC|apply Kd.yQ));exact av9.out⟩,⟨ub iI.out⟩,⟨bb⟩⟩
           ·obtain⟨rfl,rfl⟩:=s2 H;have acd:=zi uf;have ace:=zj uf aA.length;obtain⟨aep,Qg,Qh,Qi,Qj,Qk,Ql,e345,Ns,Nu,Nv,Nw,Nz,NC,ND,NG,NH⟩:=xM jK.out uf acd ace;cases e345;replace Ns:=cl HB.out Ns;replace Nu:=cl HB.out Nu;replace Nv:=cl HB.out Nv;have Yd:=ak Nz;have Ye:=ak Nw;clear Nz Nw;have Yf:=ak ND;have Yg:=ak NC;clear ND NC;have Yh:=ak NH;have Yi:=ak NG;clear NH NG;replace acd:=eq_true acd;replace ace:=eq_true ace;go_wp2_with (first|(refine gG 12 ?_;refine bY HB 12 #[.slice none 0 0, .slice none 0 0, .slice none 0 0] 28 ?_;intro Rq w38 Ik av6 hg hb;have Qm:=yA iI hg;have Qn:=yB iI hg;replace mW:=rb mW hb;replace yK:=ak (Kd.aer (by(with_reducible repeat(first|apply Kd.vw|apply Kd.vC|apply Kd.yQ));exact yK.out) hb);replace iI:=kb iI hb;replace HB:=bz HB hb;clear hb hg;have av_:=Qn.out;have awc:=Qm.out;have z40:=iQ Ik.out)|(refine gV Tryz.func66 (ih k3 (by have:=HJ3.out;have:=ai2.out;have:=HK3.out;omega) _ _ ((au aA uf).f0) _ _ ((au aA uf).f1) _ _ ((au aA uf).f2) (wrap64 (a1-1)) ag1 false _ (Kd.aI Yd.out bb) Ye.out (Kd.aI Yf.out bb) Yg.out (Kd.aI Yh.out bb) Yi.out ?Af A29.out) ?_;(case Af=>first|exact HG.out|exact MaxOk.below HG.out bb|(repeat(first|exact HG.out|apply MaxOk.drewN|apply MaxOk.drew)));rintro aEQ w41 ⟨ho0,hb⟩;have aat:=ak (Kd.aG (Kd.eU ho0 (Kd.jM (rh mW))) (aj bb));replace mW:=ak (Kd.dY (rh mW) (Kd.bV ho0) hb);replace yK:=ak (Kd.I8 (by(with_reducible repeat(first|apply Kd.vw|apply Kd.vC|apply Kd.yQ));exact(Kd.G5 (Kd.WU (p:=⟨Rq,2,none⟩) (Kd.WU (p:=⟨Rq,1,none⟩) (Kd.WU (p:=⟨Rq,0,none⟩) (Kd.aes yK.out Ik.out (by decide)) (fun _ hk=>hk.2) (.slice Qg ((au aA uf).f0).length Qh)) (fun _ hk=>hk.2) (.slice Qi ((au aA uf).f1).length Qj)) (fun _ hk=>hk.2) (.slice Qk ((au aA uf).f2).length Ql)) (fun _ h_=>h_.1))) (Kd.bV ho0) hb);replace iI:=kp iI #[.slice gQ bg.length gU, .slice f_ bf.length gu, .slice (some aep) aA.length dI] hb;replace Ik:=kp Ik #[.slice Qg ((au aA uf).f0).length Qh, .slice Qi ((au aA uf).f1).length Qj, .slice Qk ((au aA uf).f2).length Ql] hb;replace HB:=bz HB hb;clear hb;(try clear ho0)))
            go_ret2;exact⟨_,er,nx,bb⟩
          ·replace H:=bd H;obtain⟨⟨amZ,aLo⟩,A42,H⟩:=H
           (try dsimp only at H);replace H:=nl H;obtain⟨awd,H⟩:=H;obtain⟨aLp,aoY⟩:=nm (Nr++amZ);rw[←aoY.out]at H;obtain⟨rfl,rfl⟩:=s2 H;obtain⟨ai6,ai7,ag4⟩:=Kd.aev yK.out;subst ag4;go_wp2_with (first|(refine gV Tryz.func106 (fM.calls (cu ((Kd.NI yK.out).2.2)) ((Kd.NI yK.out).2.1) A42.out) ?_;rintro aLq w45 ⟨ho0,hb⟩;have aav:=ak (Kd.aG (Kd.eU ho0 (Kd.jM (ur mW.out))) (aj bb));replace mW:=ak (Kd.dY (ur mW.out) (Kd.bV ho0) hb);replace yK:=ak (Kd.I8 (by(with_reducible repeat(first|apply Kd.vw|apply Kd.vC|apply Kd.yQ));exact yK.out) (Kd.bV ho0) hb);replace iI:=kb iI hb;replace HB:=bz HB hb;clear hb;(try clear ho0);obtain⟨ar9,ar_,am0⟩:=Kd.aH aav.out;subst am0)|((with_reducible refine dR (b:= .append) (xs:=#[.tmp 95, .tmp 96]) rfl ?_);(try(refine mX (by rfl) ?_;dsimp only));at_builtin;refine Kd.pU Kd.string (w0:=w) w.heap.size rfl (.tmp 95) (.tmp 96) 23 9 (.string ⟨#[]⟩) 16 rfl Tryz.underlying23 info9 rfl (by decide) (by omega) Um Nr amZ _ _ _ (fun k_=>some k_≠(.slice ar9 amZ.length ar_:Value).ownBlock) (fun _=>False) rfl rfl ?aO ?aR (fun _ _ h=>h) (fun _ h=>h.elim) ?aF ?aB ?aS ?aL ?_;(case aR=>repeat(first|exact(Kd.aK aav.out).2.2|(with_reducible refine Kd.mP ?_ _)|(with_reducible refine Kd.mQ ?_ _)|(with_reducible refine Kd.qE ?_)));(case aB=>exact bb);(case aF=>exact(fun k_ hk=>Kd.fresh' (Kd.jM (ur aav.out)) k_ hk));(case aO=>exact(ur (Kd.aW mW.out (fun _ hk=>hk.2))));(case aS=>exact(aj bb));(case aL=>have:=awd.out;omega);intro aLr w46 ho hb hg hat;rw[←aoY.out]at ho;have awe:=ak (ho);replace yK:=ak (Kd.aew (ok:=(fun k_=>some k_≠(.slice ar9 amZ.length ar_:Value).ownBlock)) (by(with_reducible repeat(first|apply Kd.vw|apply Kd.vC|apply Kd.yQ));exact Kd.G5 yK.out (fun _ hk=>⟨hk.2,hk.1⟩)) hg hat);replace iI:=ak (bD (g:=Dc) (o:= .cells #[.slice gQ bg.length gU, .slice f_ bf.length gu, .slice eP aA.length dI] 28 (0,0)) (ub iI.out) hg (Kd.pz mW.out iI.out (by decide)));replace aav:=ak (Kd.Ag (ok:=(fun _=>True)) (ur aav.out) hg hat);replace HB:=ak (hb);clear ho hb hg hat mW))
           go_ret2;exact⟨_,er,ur (Kd.aW awe.out (fun _ hk=>trivial)),bb⟩
    ·replace H:=nl H;obtain⟨aoZ,H⟩:=H;replace H:=ny H;obtain⟨ar6,ao0,H⟩:=H;replace H:=sp H;rcases H with⟨c49,H⟩|⟨c49,H⟩
     ·have awf:=beq_iff_eq.mpr c49;have awg:=bne_eq_false_iff_eq.mpr c49;clear c49;replace H:=bd H;obtain⟨av2,A50,H⟩:=H;obtain⟨rfl,rfl⟩:=s2 H;try go_wp2_with (first|((with_reducible refine dR (b:= .append) (xs:=#[.tmp 28, .tmp 29]) rfl ?_);(try(refine mX (by rfl) ?_;dsimp only));at_builtin;refine Kd.qX Kd.string (w0:=w) w.heap.size rfl (.tmp 28) (.tmp 29) 23 9 (.string ⟨#[]⟩) 16 rfl Tryz.underlying23 info9 rfl (by decide) (by omega) amY aiZ (⟨#[]⟩:ByteArray) [.string (⟨#[]⟩:ByteArray)] (fun _=>True) (fun _=>False) rfl rfl ?aP (fun _ hk=>hk.elim) ?aF ?aO ?aB ?aS ?aL ?_;(case aP=>exact rfl);(case aB=>exact bb);(case aF=>exact(fun _ _=>trivial));(case aO=>exact(ur mW.out));(case aS=>exact(aj bb));(case aL=>have:=aaq.out;omega);intro Um w51 ho hb hg hat;rw[←ai1.out]at ho;have xQ:=ak (ho);replace iI:=ak (bD (g:=Dc) (o:= .cells #[.slice gQ bg.length gU, .slice f_ bf.length gu, .slice eP aA.length dI] 28 (0,0)) (ub iI.out) hg (Kd.pz mW.out iI.out (by decide)));replace HB:=ak (hb);clear ho hb hg hat mW;have z52:=iQ iI.out)|(refine gB Tryz.func101 (lG.calls (cu (Kd.aI pG.out HB.out)) qy.out (cu (Kd.aI sD.out HB.out)) uV.out (cu (Kd.aI jK.out HB.out)) mV.out ?Af A11.out) ?_;(case Af=>first|exact HG.out|exact MaxOk.below HG.out bb|(repeat(first|exact HG.out|apply MaxOk.drewN|apply MaxOk.drew)));intro w53 hb;replace xQ:=rb xQ hb;replace iI:=kb iI hb;replace HB:=bz HB hb;clear hb))
      replace xQ:=ak (Kd.mg xQ.out);replace iI:=ak (gZ iI.out);replace HB:=ak (gI HB.out);refine ro [3,11] [0,1,4,2,5,6,7,3,8,9,10,11,12,13,14] (fun w'=>w'.cell? ⟨Dc,0,none⟩=some (.slice gQ bg.length gU)∧w'.cell? ⟨Dc,1,none⟩=some (.slice f_ bf.length gu)∧w'.cell? ⟨Dc,2,none⟩=some (.slice eP aA.length dI)) ⟨(ay iI.out 0).trans rfl,(ay iI.out 1).trans rfl,(ay iI.out 2).trans rfl⟩ ?_
      generalize w53.drew=w54 at xQ iI HB⊢
      repeat refine Bv ?_
      refine ld (N:=some 41) (gk.trans rfl) rfl rfl (fun K hK=>?_);refine Kd.oP Kd.string (w0:=w) w.heap.size (by rfl) (.tmp 38) (.tmp 40) 23 9 (.string ⟨#[]⟩) 16 rfl Tryz.underlying23 info9 rfl (by decide) (by omega) Um Nr bf _ _ _ (fun _=>True) (fun _=>False) rfl rfl ?aO ?aR (fun _ _ h=>h) (fun _ h=>h.elim) ?aF ?aB ?aS ?aL ?_
      (case aR=>repeat(first|exact(Kd.aI sD.out HB.out)|(with_reducible refine Kd.mP ?_ _)|(with_reducible refine Kd.mQ ?_ _)|(with_reducible refine Kd.qE ?_)))
      (case aB=>exact bb)
      (case aF=>exact(fun _ _=>trivial))
      (case aO=>exact(ur xQ.out))
      (case aS=>exact(aj bb))
      (case aL=>have:=aoZ.out;omega);intro aER w55 ho hb hg hat
      rw[←ao0.out]at ho;have y9:=ak (bD (g:=Dc) (o:= .cells #[.slice gQ bg.length gU, .slice f_ bf.length gu, .slice eP aA.length dI] 28 (0,0)) (ub iI.out) hg (Kd.pz xQ.out iI.out (by decide)));have zf:=ak (hb);have zY:=ak (ho);clear iI HB xQ;have iI:=y9;have HB:=zf;have ai8:=zY;clear y9 zf zY ho hb hg hat
      refine hK.out _ _ ⟨(ay iI.out 0).trans rfl,(ay iI.out 1).trans rfl,(ay iI.out 2).trans rfl⟩ ?_;clear hK K;refine no (a':=?_) ?_ ?_
      rotate_left
      ·show Act.put _ (some 41) _=_
       simp only[Act.put,zW,zX,l_c,jo,lg];rfl
      repeat refine Bv ?_
      refine rA Tryz.func105 (tu.calls (cu (Kd.aI sD.out HB.out)) uV.out A50.out) ?_;intro nd;refine⟨sx,?_⟩;repeat refine Bv ?_
      refine on ?_;try go_wp2
      go_ret2;exact⟨_,er,ur ai8.out,bb⟩
     ·have awf:=beq_eq_false_iff_ne.mpr c49;have awg:=bne_iff_ne.mpr c49;have aHS:¬(aA=[]):=fun h_=>c49 (by rw[h_];rfl)
      obtain⟨rfl,rfl⟩:=s2 H;try go_wp2_with (first|((with_reducible refine dR (b:= .append) (xs:=#[.tmp 28, .tmp 29]) rfl ?_);(try(refine mX (by rfl) ?_;dsimp only));at_builtin;refine Kd.qX Kd.string (w0:=w) w.heap.size rfl (.tmp 28) (.tmp 29) 23 9 (.string ⟨#[]⟩) 16 rfl Tryz.underlying23 info9 rfl (by decide) (by omega) amY aiZ (⟨#[]⟩:ByteArray) [.string (⟨#[]⟩:ByteArray)] (fun _=>True) (fun _=>False) rfl rfl ?aP (fun _ hk=>hk.elim) ?aF ?aO ?aB ?aS ?aL ?_;(case aP=>exact rfl);(case aB=>exact bb);(case aF=>exact(fun _ _=>trivial));(case aO=>exact(ur mW.out));(case aS=>exact(aj bb));(case aL=>have:=aaq.out;omega);intro Um w56 ho hb hg hat;rw[←ai1.out]at ho;have xQ:=ak (ho);replace iI:=ak (bD (g:=Dc) (o:= .cells #[.slice gQ bg.length gU, .slice f_ bf.length gu, .slice eP aA.length dI] 28 (0,0)) (ub iI.out) hg (Kd.pz mW.out iI.out (by decide)));replace HB:=ak (hb);clear ho hb hg hat mW;have z57:=iQ iI.out)|(refine gB Tryz.func101 (lG.calls (cu (Kd.aI pG.out HB.out)) qy.out (cu (Kd.aI sD.out HB.out)) uV.out (cu (Kd.aI jK.out HB.out)) mV.out ?Af A11.out) ?_;(case Af=>first|exact HG.out|exact MaxOk.below HG.out bb|(repeat(first|exact HG.out|apply MaxOk.drewN|apply MaxOk.drew)));intro w58 hb;replace xQ:=rb xQ hb;replace iI:=kb iI hb;replace HB:=bz HB hb;clear hb))
      replace xQ:=ak (Kd.mg xQ.out);replace iI:=ak (gZ iI.out);replace HB:=ak (gI HB.out);refine ro [3] [0,1,4,2,5,6,7,3,8,9,10,11,12,13,14] (fun w'=>w'.cell? ⟨Dc,0,none⟩=some (.slice gQ bg.length gU)∧w'.cell? ⟨Dc,1,none⟩=some (.slice f_ bf.length gu)∧w'.cell? ⟨Dc,2,none⟩=some (.slice eP aA.length dI)) ⟨(ay iI.out 0).trans rfl,(ay iI.out 1).trans rfl,(ay iI.out 2).trans rfl⟩ ?_
      generalize w58.drew=w59 at xQ iI HB⊢
      repeat(first|refine Bv ?_|refine V8 ?_)
      refine ld (N:=some 41) (gk.trans rfl) rfl rfl (fun K hK=>?_);refine Kd.oP Kd.string (w0:=w) w.heap.size (by rfl) (.tmp 38) (.tmp 40) 23 9 (.string ⟨#[]⟩) 16 rfl Tryz.underlying23 info9 rfl (by decide) (by omega) Um Nr bf _ _ _ (fun _=>True) (fun _=>False) rfl rfl ?aO ?aR (fun _ _ h=>h) (fun _ h=>h.elim) ?aF ?aB ?aS ?aL ?_
      (case aR=>repeat(first|exact(Kd.aI sD.out HB.out)|(with_reducible refine Kd.mP ?_ _)|(with_reducible refine Kd.mQ ?_ _)|(with_reducible refine Kd.qE ?_)))
      (case aB=>exact bb)
      (case aF=>exact(fun _ _=>trivial))
      (case aO=>exact(ur xQ.out))
      (case aS=>exact(aj bb))
      (case aL=>have:=aoZ.out;omega);intro aER WV ho hb hg hat
      rw[←ao0.out]at ho;have y9:=ak (bD (g:=Dc) (o:= .cells #[.slice gQ bg.length gU, .slice f_ bf.length gu, .slice eP aA.length dI] 28 (0,0)) (ub iI.out) hg (Kd.pz xQ.out iI.out (by decide)));have zf:=ak (hb);have zY:=ak (ho);clear iI HB xQ;have iI:=y9;have HB:=zf;have ai8:=zY;clear y9 zf zY ho hb hg hat
      refine hK.out _ _ ⟨(ay iI.out 0).trans rfl,(ay iI.out 1).trans rfl,(ay iI.out 2).trans rfl⟩ ?_;clear hK K;refine no (a':=?_) ?_ ?_
      rotate_left
      ·show Act.put _ (some 41) _=_
       simp only[Act.put,zW,zX,l_c,jo,lg];rfl
      repeat(first|refine Bv ?_|refine V8 ?_)
      refine on ?_;try go_wp2
      go_ret2;exact⟨_,er,ur ai8.out,bb⟩
def kG.f (k:Nat) (bg:List (fP)) (bf:List ByteArray) (aA:List (jV)):Option (Bool):=(aT.f k bg bf aA 3).bind fun awh=>(some awh.2)
theorem kG.calls {k gU gu dI:Nat} {gQ f_ eP:Option Addr} {bg:List (fP)} {bf:List ByteArray} {aA:List (jV)} {r:Bool} {w:World} (lI:Kd.C ou w gQ bg.length bg) (lJ:bg.length≤gU) (lK:Kd.C Kd.string w f_ bf.length bf) (lM:bf.length≤gu) (jF:Kd.C k28 w eP aA.length aA) (jG:aA.length≤dI) (D9:MaxOk w) (h:kG.f k bg bf aA=some r):
  Calls Tryz.prog 26 #[.agg #[.slice gQ bg.length gU, .slice f_ bf.length gu, .slice eP aA.length dI]] w fun e w'=>e= .returned (.bool r)∧Below w.heap.size w w':=by
 have Dq:=Tryz.underlying28;have pG:=ak lI;have qy:=ak lJ;clear lI lJ;have sD:=ak lK;have uV:=ak lM;clear lK lM;have jK:=ak jF;have mV:=ak jG;clear jF jG;have HG:=ak D9;clear D9;have HB:=ak (Below.refl w.heap.size w);unfold kG.f at h;have H:=h;clear h;replace H:=bd H;obtain⟨⟨aES,aET⟩,A2,H⟩:=H
 (try dsimp only at H);obtain rfl:=s1 H;go_enter Tryz.func26,Tryz.ntmps26;go_wp2_with (first|(refine bX HB 1 #[.slice gQ bg.length gU, .slice f_ bf.length gu, .slice eP aA.length dI] 28 ?_;intro aHT w3 ai9 aHU hb;replace HB:=bs HB hb;clear hb;have z4:=iQ ai9.out)|(refine gV Tryz.func66 (aT.calls k _ _ bg _ _ bf _ _ aA 3 aES aET _ (cu (Kd.aI pG.out HB.out)) qy.out (cu (Kd.aI sD.out HB.out)) uV.out (cu (Kd.aI jK.out HB.out)) mV.out ?Af A2.out) ?_;(case Af=>first|exact HG.out|exact MaxOk.below HG.out bb|(repeat(first|exact HG.out|apply MaxOk.drewN|apply MaxOk.drew)));rintro aLs w5 ⟨ho0,hb⟩;have aHV:=ak (Kd.aG ho0 (aj bb));replace ai9:=kb ai9 hb;replace HB:=bz HB hb;clear hb;(try clear ho0)))
 go_ret;exact⟨er,bb⟩
end Go.Proofs.YtncdadcmghglkaaGreatDoor.PFnPartAt
