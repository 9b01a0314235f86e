/- Printed walks; conditions: those in each statement. -/
import Derived.Test.YtncdadcmghglkaaGreatDoorVFnPathEmptyQt
import Derived.Test.YtncdadcmghglkaaGreatDoorVFnPathEmptyYt
import Derived.Test.YtncdadcmghglkaaGreatDoorPFnPathEmptyx0
import Derived.Test.YtncdadcmghglkaaGreatDoorPFnPathEmptyx3
import Derived.Test.YtncdadcmghglkaaGreatDoorPFnPathEmptyx7
import Derived.Test.YtncdadcmghglkaaGreatDoorPFnPathEmptyx13
import Derived.Test.YtncdadcmghglkaaGreatDoorPFnPathEmptyx23
-- short
-- dense
-- sq
-- sq2
namespace Go.Proofs.YtncdadcmghglkaaGreatDoor.PFnPathEmpty
open Go.RowKit Go.Proofs.YtncdadcmghglkaaGreatDoor.X Go.Proofs.YtncdadcmghglkaaGreatDoorW.dJ Go.Proofs.YtncdadcmghglkaaGreatDoorW.kX Go.Proofs.YtncdadcmghglkaaGreatDoorW.oI
attribute [local go_sem] wX wY zS zT uJ uK wZ xg   -- for this text's walks alone
set_option linter.unusedVariables false
set_option maxHeartbeats 8000000
set_option maxRecDepth 100000
set_option linter.unusedSimpArgs false
def jr.j0:Nat→Bool→ByteArray→ByteArray→List (fO)→Option (ByteArray×Bool)
 |0,_,_,_,_=>none
 |k+1,GI,aCq,aCr,ams=>if GI=true then(some ((⟨#[]⟩:ByteArray),false))else((nX.f k ams (⟨#[98,111,117,110,100,97,114,121]⟩:ByteArray)).bind fun aom=>((kN.f k aom.1).bind fun au9=>(if au9=true then(some (aom.1,true))else(some ((⟨#[]⟩:ByteArray),false)))))
def jr.f (k:Nat) (eH:ByteArray) (fA:ByteArray) (ay:List (fO)):Option (ByteArray×Bool):=(dM.f k eH fA ay).bind fun au_=>(if au_=true then(jr.j0 k (eH.toList !=([109,117,108,116,105,112,97,114,116]:List UInt8)) eH fA ay)else(jr.j0 k true eH fA ay))
theorem jr.calls {k dO:Nat} {eH fA r1:ByteArray} {fM:Option Addr} {ay:List (fO)} {r2:Bool} {w:World} (jU:Kd.C oz w fM ay.length ay) (jV:ay.length≤dO) (h:jr.f k eH fA ay=some (r1,r2)):
  Calls Tryz.prog 49 #[.agg #[.string eH, .string fA, .slice fM ay.length dO]] w fun e w'=>e= .returned (.tuple #[.string r1, .bool r2])∧Below w.heap.size w w':=by
 have aag:=Tryz.underlying61;have jW:=ak jU;have oC:=ak jV;clear jU jV;have HB:=ak (Below.refl w.heap.size w);unfold jr.f at h;have H:=h;clear h;have HC2:=ak H;clear H;go_enter Tryz.func49,Tryz.ntmps49;go_upto_region 1 with(refine bX HB 1 #[.string eH, .string fA, .slice fM ay.length dO] 61 ?_;intro ava w3 CP aHf hb;replace HB:=bs HB hb;clear hb)
 (try simp only[Act.put,zN,zO,l_c]);go_cut [13] (fun v13 wc=>∃(kq:Nat) (kT:Bool),v13= .bool kT∧ah (jr.j0 kq kT eH fA ay=some (r1,r2))∧ah (kq≤k)∧ah (wc.heap[ava]? =some (.cells #[.string eH, .string fA,(.slice fM ay.length dO)] 61 (0,0)))∧ah (Below w.heap.size w wc))
 case first=>
  have H:=HC2.out;clear HC2;replace H:=bd H;obtain⟨au_,A4,H⟩:=H;replace H:=sb H;rcases H with⟨rfl,H⟩|⟨rfl,H⟩
  ·have H':=ak H;clear H;have z6:=iJ CP.out;go_wp2_with (refine gB Tryz.func95 (dM.calls (cu (Kd.aN jW.out HB.out)) oC.out A4.out) ?_;intro w7 hb;replace CP:=kb CP hb;replace HB:=bz HB hb;clear hb;have z8:=iJ CP.out)
   go_meet
   case rel=>exact⟨_,_,rs,H',⟨PW⟩,⟨ub CP.out⟩,⟨bb⟩⟩
  ·have H':=ak H;clear H;have z9:=iJ CP.out;go_wp2_with (refine gB Tryz.func95 (dM.calls (cu (Kd.aN jW.out HB.out)) oC.out A4.out) ?_;intro w10 hb;replace CP:=kb CP hb;replace HB:=bz HB hb;clear hb)
   go_meet
   case rel=>exact⟨_,_,rs,H',⟨PW⟩,⟨ub CP.out⟩,⟨bb⟩⟩
 case rest=>
  clear HC2;obtain⟨kq,kT,rfl,HA,HJ1,CP,HB⟩:=hcut
  cases kq with
  |zero=>exact zz HA.out
  |succ RU=>
   obtain⟨H⟩:=HA;simp only[jr.j0]at H;replace H:=sb H;rcases H with⟨rfl,H⟩|⟨rfl,H⟩
   ·obtain⟨rfl,rfl⟩:=s2 H;go_wp2;go_ret2;exact⟨er,bb⟩
   ·replace H:=bd H;obtain⟨⟨aKv,aKw⟩,A12,H⟩:=H
    (try dsimp only at H);replace H:=bd H;obtain⟨au9,A13,H⟩:=H;replace H:=sb H;rcases H with⟨rfl,H⟩|⟨rfl,H⟩
    ·obtain⟨rfl,rfl⟩:=s2 H;have z15:=iJ CP.out;go_wp2_with (first|(refine gB Tryz.func47 (nX.calls (cu (Kd.aN jW.out HB.out)) oC.out A12.out) ?_;intro w16 hb;replace CP:=kb CP hb;replace HB:=bz HB hb;clear hb)|(refine gA Tryz.func96 (kN.calls A13.out) ?_;intro nd))
     go_ret2;exact⟨er,bb⟩
    ·obtain⟨rfl,rfl⟩:=s2 H;have z17:=iJ CP.out;go_wp2_with (first|(refine gB Tryz.func47 (nX.calls (cu (Kd.aN jW.out HB.out)) oC.out A12.out) ?_;intro w18 hb;replace CP:=kb CP hb;replace HB:=bz HB hb;clear hb)|(refine gA Tryz.func96 (kN.calls A13.out) ?_;intro nd))
     go_ret2;exact⟨er,bb⟩
def lu.f (k:Nat) (bD:List (fO)) (bf:List ByteArray) (ay:List (jT)):Option (ByteArray×Bool):=(nX.f k bD (⟨#[67,111,110,116,101,110,116,45,84,121,112,101]⟩:ByteArray)).bind fun avb=>((bV.f k avb.1).bind fun ad9=>(if ad9.2.2.2=true then((jr.f k ad9.1 ad9.2.1 ad9.2.2.1).bind fun aon=>(some (aon.1,aon.2)))else(some ((⟨#[]⟩:ByteArray),false))))
theorem lu.calls {k iq gQ dO:Nat} {ig gK fM:Option Addr} {bD:List (fO)} {bf:List ByteArray} {ay:List (jT)} {r1:ByteArray} {r2:Bool} {w:World} (mZ:Kd.C oz w ig bD.length bD) (m_:bD.length≤iq) (ng:Kd.C Kd.string w gK bf.length bf) (ni:bf.length≤gQ) (jU:Kd.C k28 w fM ay.length ay) (jV:ay.length≤dO) (EK:MaxOk w) (h:lu.f k bD bf ay=some (r1,r2)):
  Calls Tryz.prog 101 #[.agg #[.slice ig bD.length iq, .slice gK bf.length gQ, .slice fM ay.length dO]] w fun e w'=>e= .returned (.tuple #[.string r1, .bool r2])∧Below w.heap.size w w':=by
 have Eu:=Tryz.underlying28;have aag:=Tryz.underlying61;have qC:=ak mZ;have rD:=ak m_;clear mZ m_;have uw:=ak ng;have xk:=ak ni;clear ng ni;have jW:=ak jU;have oC:=ak jV;clear jU jV;have HG:=ak EK;clear EK;have HB:=ak (Below.refl w.heap.size w);unfold lu.f at h;have H:=h;clear h;replace H:=bd H;obtain⟨⟨aKx,aKy⟩,A2,H⟩:=H
 (try dsimp only at H);replace H:=bd H;obtain⟨⟨aD0,aD1,avc,aKz⟩,A3,H⟩:=H
 (try dsimp only at H);replace H:=sb H;rcases H with⟨rfl,H⟩|⟨rfl,H⟩
 ·replace H:=bd H;obtain⟨⟨aKA,aKB⟩,A5,H⟩:=H
  (try dsimp only at H);obtain⟨rfl,rfl⟩:=s2 H;go_enter Tryz.func101,Tryz.ntmps101;go_wp2_with (first|(refine bX HB 1 #[.slice ig bD.length iq, .slice gK bf.length gQ, .slice fM ay.length dO] 28 ?_;intro avd w6 yK ave hb;replace HB:=bs HB hb;clear hb;have z7:=iJ yK.out)|(refine gB Tryz.func47 (nX.calls (cu (Kd.aN qC.out HB.out)) rD.out A2.out) ?_;intro w8 hb;replace yK:=kb yK hb;replace HB:=bz HB hb;clear hb)|(refine gV Tryz.func48 (bV.calls ?dZ A3.out) ?_;(case dZ=>first|exact HG.out|exact MaxOk.below HG.out bb|(repeat(first|exact HG.out|apply MaxOk.drewN|apply MaxOk.drew)));rintro aD2 w9 ⟨ho0,hb⟩;have IQ:=ak (Kd.aG ho0 (aj bb));replace yK:=kb yK hb;replace HB:=bz HB hb;clear hb;(try clear ho0))|(refine bY HB 6 #[.string (⟨#[]⟩:ByteArray), .string (⟨#[]⟩:ByteArray), .slice none 0 0] 61 ?_;intro avf w10 aah avg hg hb;have PX:=vT yK hg;have PY:=vU yK hg;replace IQ:=rb IQ hb;replace yK:=kb yK hb;replace HB:=bz HB hb;clear hb hg;have avh:=PY.out;have avi:=PX.out;have z12:=iJ aah.out;obtain⟨FC,Ar,RP⟩:=Kd.aH IQ.out;subst RP)|(refine gB Tryz.func49 (jr.calls ?dZ ((Kd.aK IQ.out).2.1) A5.out) ?_;(case dZ=>refine(Kd.aK (e:=69) (base:=w.heap.size) (ok:=fun k_=>True) (n:=avc.length) (c:=Ar) ?_).2.2;exact(rh IQ));intro VH hb;replace IQ:=rg IQ hb;replace yK:=kp yK #[.slice ig bD.length iq, .slice gK bf.length gQ, .slice fM ay.length dO] hb;replace aah:=kp aah #[.string aD0, .string aD1, .slice FC avc.length Ar] hb;replace HB:=bz HB hb;clear hb))
  go_ret2;exact⟨er,bb⟩
 ·obtain⟨rfl,rfl⟩:=s2 H;go_enter Tryz.func101,Tryz.ntmps101;go_wp2_with (first|(refine bX HB 1 #[.slice ig bD.length iq, .slice gK bf.length gQ, .slice fM ay.length dO] 28 ?_;intro avd w15 yK ave hb;replace HB:=bs HB hb;clear hb;have z16:=iJ yK.out)|(refine gB Tryz.func47 (nX.calls (cu (Kd.aN qC.out HB.out)) rD.out A2.out) ?_;intro w17 hb;replace yK:=kb yK hb;replace HB:=bz HB hb;clear hb)|(refine gV Tryz.func48 (bV.calls ?dZ A3.out) ?_;(case dZ=>first|exact HG.out|exact MaxOk.below HG.out bb|(repeat(first|exact HG.out|apply MaxOk.drewN|apply MaxOk.drew)));rintro aD2 w18 ⟨ho0,hb⟩;have IQ:=ak (Kd.aG ho0 (aj bb));replace yK:=kb yK hb;replace HB:=bz HB hb;clear hb;(try clear ho0))|(refine bY HB 6 #[.string (⟨#[]⟩:ByteArray), .string (⟨#[]⟩:ByteArray), .slice none 0 0] 61 ?_;intro avf w19 aah avg hg hb;have PX:=vT yK hg;have PY:=vU yK hg;replace IQ:=rb IQ hb;replace yK:=kb yK hb;replace HB:=bz HB hb;clear hb hg;have avj:=PY.out;have avk:=PX.out;have z21:=iJ aah.out;obtain⟨aKC,aKD,aD3⟩:=Kd.aH IQ.out;subst aD3))
  go_ret2;exact⟨er,bb⟩
def qZ.f (k:Nat) (a0:ByteArray):Option (Bool):=(bg.f k a0).bind fun avl=>(some (!avl))
theorem qZ.calls {k:Nat} {a0:ByteArray} {r:Bool} {w:World} (h:qZ.f k a0=some r):
  Calls Tryz.prog 149 #[.string a0] w fun e w'=>e= .returned (.bool r)∧dN w w':=by
 unfold qZ.f at h;have H:=h;clear h;replace H:=bd H;obtain⟨avl,A2,H⟩:=H;obtain rfl:=s1 H;go_enter Tryz.func149,Tryz.ntmps149;go_wp2_with (refine gA Tryz.func89 (bg.calls A2.out) ?_;intro nd)
 go_ret;exact⟨rs,dn⟩
def aV.l0:Nat→List ByteArray→Int→Int→Option (Int)
 |0,_,_,_=>none
 |k+1,x0,x7,x8=>if x8<x7 then(if 0≤x8 then(if x8<(x0.length:Int)then((qZ.f k (qg ByteArray.empty x0 x8)).bind fun avm=>(if avm=true then(some x8)else(aV.l0 k x0 x7 (wrap64 (x8+1)))))else(none))else(none))else(some (-1))
def aV.f (k:Nat) (l0:List ByteArray):Option (Int):=aV.l0 k l0 (l0.length:Int) 0
theorem aV.calls {k c0:Nat} {A0:Option Addr} {l0:List ByteArray} {r:Int} {w:World} (hr0:Kd.C Kd.string w A0 l0.length l0) (hc0:l0.length≤c0) (h:aV.f k l0=some r):
  Calls Tryz.prog 173 #[.slice A0 l0.length c0, .func (.func 149) #[] #[]] w fun e w'=>e= .returned (.int .i64 r)∧dN w w':=by
 have HR0:=ak hr0;have zx:=ak hc0;clear hr0 hc0;unfold aV.f at h;have H:=h;clear h;have H':=ak H;clear H;go_enter Tryz.func173,Tryz.ntmps173;go_wp2;go_loopg [8] k (fun kq v8 w'=>∃(lC:Int),v8= .int .i64 lC∧ah (aV.l0 kq l0 (l0.length:Int) lC=some r)∧ah (kq≤k)∧dN w w')
 case atStart=>exact⟨_,rs,H',⟨Nat.le_refl _⟩,dn⟩
 case round=>
  clear H';obtain⟨lC,rfl,HA,yH,⟨m1,rfl⟩⟩:=hrel
  cases gk with
  |zero=>exact zz HA.out
  |succ k1=>
   obtain⟨H⟩:=HA;simp only[aV.l0]at H;replace H:=sd H;rcases H with⟨iT,H⟩|⟨iT,H⟩
   ·replace H:=oG H;obtain⟨qW,H⟩:=H;replace H:=oG H;obtain⟨nT,H⟩:=H;replace H:=bd H;obtain⟨avm,A6,H⟩:=H;replace H:=sb H;rcases H with⟨rfl,H⟩|⟨rfl,H⟩
    ·obtain rfl:=s1 H;have ab9:=zi lC;have ab_:=zj lC l0.length;obtain⟨avn,e300,amu⟩:=Kd.jI HR0.out lC ab9 ab_;cases e300;replace ab9:=eq_true ab9;replace ab_:=eq_true ab_;go_wp2_with (go_at_call 149;refine mA (qZ.calls A6.out) ?_;intro nd)
     go_ret;exact⟨rs,dn⟩
    ·have H':=ak H;clear H;have ab9:=zi lC;have ab_:=zj lC l0.length;obtain⟨avn,e300,amu⟩:=Kd.jI HR0.out lC ab9 ab_;cases e300;replace ab9:=eq_true ab9;replace ab_:=eq_true ab_;go_wp2_with (go_at_call 149;refine mA (qZ.calls A6.out) ?_;intro nd)
     go_roundg k1
     case measure=>exact kl
     case rel=>exact⟨_,rs,H',⟨kl⟩,dn⟩
   ·obtain rfl:=s1 H;go_wp2;go_ret;exact⟨rs,dn⟩
def fP.f (k:Nat) (l0:List ByteArray):Option (Bool):=(aV.f k l0).bind fun avo=>(some (decide (avo≥0)))
theorem fP.calls {k c0:Nat} {A0:Option Addr} {l0:List ByteArray} {r:Bool} {w:World} (hr0:Kd.C Kd.string w A0 l0.length l0) (hc0:l0.length≤c0) (h:fP.f k l0=some r):
  Calls Tryz.prog 148 #[.slice A0 l0.length c0, .func (.func 149) #[] #[]] w fun e w'=>e= .returned (.bool r)∧dN w w':=by
 have HR0:=ak hr0;have zx:=ak hc0;clear hr0 hc0;unfold fP.f at h;have H:=h;clear h;replace H:=bd H;obtain⟨avo,A3,H⟩:=H;obtain rfl:=s1 H;go_enter Tryz.func148,Tryz.ntmps148;go_wp2_with (refine gA Tryz.func173 (aV.calls (cu HR0.out) zx.out A3.out) ?_;intro nd)
 go_ret;exact⟨rs,dn⟩
def rY.f (k:Nat) (l0:List ByteArray) (a1:Int):Option (Bool):=if(l0.length:Int)≤a1 then((fP.f k l0).bind fun avp=>(some (!avp)))else(some false)
theorem rY.calls {k c0:Nat} {A0:Option Addr} {l0:List ByteArray} {a1:Int} {r:Bool} {w:World} (hr0:Kd.C Kd.string w A0 l0.length l0) (hc0:l0.length≤c0) (h:rY.f k l0 a1=some r):
  Calls Tryz.prog 105 #[.slice A0 l0.length c0, .int .i64 a1] w fun e w'=>e= .returned (.bool r)∧dN w w':=by
 have HR0:=ak hr0;have zx:=ak hc0;clear hr0 hc0;unfold rY.f at h;have H:=h;clear h;replace H:=sd H;rcases H with⟨iT,H⟩|⟨iT,H⟩
 ·replace H:=bd H;obtain⟨avp,A4,H⟩:=H;obtain rfl:=s1 H;go_enter Tryz.func105,Tryz.ntmps105;go_wp2_with (go_at_call 148;refine mA (fP.calls (cu HR0.out) zx.out A4.out) ?_;intro nd)
  go_ret;exact⟨rs,dn⟩
 ·obtain rfl:=s1 H;go_enter Tryz.func105,Tryz.ntmps105;go_wp2;go_ret;exact⟨rs,dn⟩
def dF.l0:Nat→List ByteArray→ByteArray→Int→Int→Option (Int)
 |0,_,_,_,_=>none
 |k+1,x0,x1,x7,x8=>if x8<x7 then(if 0≤x8 then(if x8<(x0.length:Int)then(if x1.toList=(qg ByteArray.empty x0 x8).toList then(some x8)else(dF.l0 k x0 x1 x7 (wrap64 (x8+1))))else(none))else(none))else(some (-1))
def dF.f (k:Nat) (l0:List ByteArray) (a1:ByteArray):Option (Int):=dF.l0 k l0 a1 (l0.length:Int) 0
theorem dF.calls {k c0:Nat} {A0:Option Addr} {l0:List ByteArray} {a1:ByteArray} {r:Int} {w:World} (hr0:Kd.C Kd.string w A0 l0.length l0) (hc0:l0.length≤c0) (h:dF.f k l0 a1=some r):
  Calls Tryz.prog 99 #[.slice A0 l0.length c0, .string a1] w fun e w'=>e= .returned (.int .i64 r)∧dN w w':=by
 have HR0:=ak hr0;have zx:=ak hc0;clear hr0 hc0;unfold dF.f at h;have H:=h;clear h;have H':=ak H;clear H;go_enter Tryz.func99,Tryz.ntmps99;go_wp2;go_loopg [8] k (fun kq v8 w'=>∃(lC:Int),v8= .int .i64 lC∧ah (dF.l0 kq l0 a1 (l0.length:Int) lC=some r)∧ah (kq≤k)∧dN w w')
 case atStart=>exact⟨_,rs,H',⟨Nat.le_refl _⟩,dn⟩
 case round=>
  clear H';obtain⟨lC,rfl,HA,yH,⟨m1,rfl⟩⟩:=hrel
  cases gk with
  |zero=>exact zz HA.out
  |succ k1=>
   obtain⟨H⟩:=HA;simp only[dF.l0]at H;replace H:=sd H;rcases H with⟨iT,H⟩|⟨iT,H⟩
   ·replace H:=oG H;obtain⟨qW,H⟩:=H;replace H:=oG H;obtain⟨nT,H⟩:=H;replace H:=sq H;rcases H with⟨oV,zX,H⟩|⟨c6,oV,zX,H⟩
    ·obtain rfl:=s1 H;have acd:=zi lC;have ace:=zj lC l0.length;obtain⟨avq,e304,amv⟩:=Kd.jI HR0.out lC acd ace;cases e304;replace acd:=eq_true acd;replace ace:=eq_true ace;go_wp2;go_ret;exact⟨rs,dn⟩
    ·have H':=ak H;clear H;have acd:=zi lC;have ace:=zj lC l0.length;obtain⟨avq,e304,amv⟩:=Kd.jI HR0.out lC acd ace;cases e304;replace acd:=eq_true acd;replace ace:=eq_true ace;go_wp2;go_roundg k1
     case measure=>exact kl
     case rel=>exact⟨_,rs,H',⟨kl⟩,dn⟩
   ·obtain rfl:=s1 H;go_wp2;go_ret;exact⟨rs,dn⟩
def fJ.f (k:Nat) (l0:List ByteArray) (a1:ByteArray):Option (Bool):=(dF.f k l0 a1).bind fun avr=>(some (decide (avr≥0)))
theorem fJ.calls {k c0:Nat} {A0:Option Addr} {l0:List ByteArray} {a1:ByteArray} {r:Bool} {w:World} (hr0:Kd.C Kd.string w A0 l0.length l0) (hc0:l0.length≤c0) (h:fJ.f k l0 a1=some r):
  Calls Tryz.prog 175 #[.slice A0 l0.length c0, .string a1] w fun e w'=>e= .returned (.bool r)∧dN w w':=by
 have HR0:=ak hr0;have zx:=ak hc0;clear hr0 hc0;unfold fJ.f at h;have H:=h;clear h;replace H:=bd H;obtain⟨avr,A3,H⟩:=H;obtain rfl:=s1 H;go_enter Tryz.func175,Tryz.ntmps175;go_wp2_with (refine gA Tryz.func99 (dF.calls (cu HR0.out) zx.out A3.out) ?_;intro nd)
 go_ret;exact⟨rs,dn⟩
def vJ.f (k:Nat) (l0:List ByteArray) (a1:ByteArray):Option (Bool):=if 2+a1.size≤9223372036854775807 then((fJ.f k l0 ((⟨#[45,45]⟩:ByteArray)++a1)).bind fun amw=>(if amw=true then(some true)else(if((⟨#[45,45]⟩:ByteArray)++a1).size+2≤9223372036854775807 then((fJ.f k l0 (((⟨#[45,45]⟩:ByteArray)++a1)++(⟨#[45,45]⟩:ByteArray))).bind fun avs=>(some avs))else(none))))else(none)
theorem vJ.calls {k c0:Nat} {A0:Option Addr} {l0:List ByteArray} {a1:ByteArray} {r:Bool} {w:World} (hr0:Kd.C Kd.string w A0 l0.length l0) (hc0:l0.length≤c0) (h:vJ.f k l0 a1=some r):
  Calls Tryz.prog 152 #[.slice A0 l0.length c0, .string a1] w fun e w'=>e= .returned (.bool r)∧dN w w':=by
 have HR0:=ak hr0;have zx:=ak hc0;clear hr0 hc0;unfold vJ.f at h;have H:=h;clear h;replace H:=nn H;obtain⟨c3,H⟩:=H;have iT:=eq_true c3;have zW:=decide_eq_true c3;try have XJ:(9223372036854775807<2+a1.size)=False:=eq_false (Nat.not_lt.2 c3)
 replace H:=bd H;obtain⟨amw,A4,H⟩:=H;replace H:=sb H;rcases H with⟨rfl,H⟩|⟨rfl,H⟩
 ·obtain rfl:=s1 H;go_enter Tryz.func152,Tryz.ntmps152;go_wp2_with (refine gA Tryz.func175 (fJ.calls (cu HR0.out) zx.out A4.out) ?_;intro nd)
  go_ret;exact⟨rs,dn⟩
 ·replace H:=nn H;obtain⟨c6,H⟩:=H;have oV:=eq_true c6;have zX:=decide_eq_true c6;try have aKE:(9223372036854775807<2+a1.size+2)=False:=by have h_:=(eq_false (Nat.not_lt.2 c6):(9223372036854775807<((⟨#[45,45]⟩:ByteArray)++a1).size+2)=False);simp only[ByteArray.size_append]at h_;exact h_
  try have amx:(9223372036854775807<((⟨#[45,45]⟩:ByteArray)++a1).size+2)=False:=eq_false (Nat.not_lt.2 c6)
  replace H:=bd H;obtain⟨avs,A7,H⟩:=H;obtain rfl:=s1 H;go_enter Tryz.func152,Tryz.ntmps152;go_wp2_with (first|(refine gA Tryz.func175 (fJ.calls (cu HR0.out) zx.out A4.out) ?_;intro nd)|(go_at_call 175;refine mA (fJ.calls (cu HR0.out) zx.out A7.out) ?_;intro nd))
  go_ret;exact⟨rs,dn⟩
def oK.f (k:Nat) (l0:List ByteArray) (a1:ByteArray):Option (Bool):=(vJ.f k l0 a1).bind fun avt=>(some avt)
theorem oK.calls {k c0 gq1:Nat} {A0:Option Addr} {l0:List ByteArray} {a1:ByteArray} {r:Bool} {w:World} (hr0:Kd.C Kd.string w A0 l0.length l0) (hc0:l0.length≤c0) (hq1:w.heap[gq1]? =some (.cells #[.string a1] 9 (0,0))) (h:oK.f k l0 a1=some r):
  Calls Tryz.prog 151 #[.slice A0 l0.length c0, .pointer (some ⟨gq1,0,none⟩)] w fun e w'=>e= .returned (.bool r)∧Below w.heap.size w w':=by
 have HR0:=ak hr0;have zx:=ak hc0;clear hr0 hc0;have xB:=ak hq1;clear hq1;have HB:=ak (Below.refl w.heap.size w);unfold oK.f at h;have H:=h;clear h;replace H:=bd H;obtain⟨avt,A3,H⟩:=H;obtain rfl:=s1 H;have aiu:w.cell? ⟨gq1,0,none⟩=some (.string a1):=(aA xB.out 0).trans rfl;have aD4:=fF xB.out 0;go_enter Tryz.func151,Tryz.ntmps151;go_wp2_with (refine gA Tryz.func152 (vJ.calls (cu HR0.out) zx.out A3.out) ?_;intro nd)
 go_ret;exact⟨er,bb⟩
def aW.l0:Nat→List (List ByteArray)→Int→Int→ByteArray→Option (Int)
 |0,_,_,_,_=>none
 |k+1,x0,x7,x8,Ub=>if x8<x7 then(if 0≤x8 then(if x8<(x0.length:Int)then((oK.f k (Aw x0 x8) Ub).bind fun amy=>(if amy=true then(some x8)else(aW.l0 k x0 x7 (wrap64 (x8+1)) Ub)))else(none))else(none))else(some (-1))
def aW.f (k:Nat) (l0:List (List ByteArray)) (Ir:ByteArray):Option (Int):=aW.l0 k l0 (l0.length:Int) 0 Ir
theorem aW.calls {k c0 KE:Nat} {A0:Option Addr} {l0:List (List ByteArray)} {Ir:ByteArray} {r:Int} {w:World} (hr0:Kd.C (Kd.slice 9 Kd.string) w A0 l0.length l0) (hc0:l0.length≤c0) (Q5:w.heap[KE]? =some (.cells #[.string Ir] 9 (0,0))) (h:aW.f k l0 Ir=some r):
  Calls Tryz.prog 174 #[.slice A0 l0.length c0, .func (.func 151) #[] #[.pointer (some ⟨KE,0,none⟩)]] w fun e w'=>e= .returned (.int .i64 r)∧Below w.heap.size w w':=by
 have HR0:=ak hr0;have zx:=ak hc0;clear hr0 hc0;have xB:=ak Q5;clear Q5;have HB:=ak (Below.refl w.heap.size w);unfold aW.f at h;have H:=h;clear h;have H':=ak H;clear H;go_enter Tryz.func174,Tryz.ntmps174;go_wp2;go_loopg [8] k (fun kq v8 w'=>∃(lC:Int),v8= .int .i64 lC∧ah (aW.l0 kq l0 (l0.length:Int) lC Ir=some r)∧ah (kq≤k)∧ah (w'.heap[KE]? =some (.cells #[.string Ir] 9 (0,0)))∧ah (Below w.heap.size w w'))
 case atStart=>exact⟨_,rs,H',⟨Nat.le_refl _⟩,⟨ub xB.out⟩,⟨bb⟩⟩
 case round=>
  clear H';obtain⟨lC,rfl,HA,yH,xB,HB⟩:=hrel
  cases gk with
  |zero=>exact zz HA.out
  |succ k1=>
   obtain⟨H⟩:=HA;simp only[aW.l0]at H;replace H:=sd H;rcases H with⟨iT,H⟩|⟨iT,H⟩
   ·replace H:=oG H;obtain⟨qW,H⟩:=H;replace H:=oG H;obtain⟨nT,H⟩:=H;replace H:=bd H;obtain⟨amy,A6,H⟩:=H;replace H:=sb H;rcases H with⟨rfl,H⟩|⟨rfl,H⟩
    ·obtain rfl:=s1 H;have acf:=zi lC;have acg:=zj lC l0.length;obtain⟨avu,arz,arA,e309,NC,ND,NG⟩:=MI HR0.out lC acf acg;cases e309;replace NC:=cl HB.out NC;have XZ:=ak NG;have X6:=ak ND;clear NG ND;replace acf:=eq_true acf;replace acg:=eq_true acg;go_wp2_with (go_at_call 151;refine mB (oK.calls (cu (Kd.aN XZ.out HB.out)) X6.out (ub xB.out) A6.out) ?_;intro w8 hb;replace xB:=kb xB hb;replace HB:=bz HB hb;clear hb)
     go_ret;exact⟨er,bb⟩
    ·have H':=ak H;clear H;have acf:=zi lC;have acg:=zj lC l0.length;obtain⟨avu,arz,arA,e309,NC,ND,NG⟩:=MI HR0.out lC acf acg;cases e309;replace NC:=cl HB.out NC;have XZ:=ak NG;have X6:=ak ND;clear NG ND;replace acf:=eq_true acf;replace acg:=eq_true acg;go_wp2_with (go_at_call 151;refine mB (oK.calls (cu (Kd.aN XZ.out HB.out)) X6.out (ub xB.out) A6.out) ?_;intro w9 hb;replace xB:=kb xB hb;replace HB:=bz HB hb;clear hb)
     go_roundg k1
     case measure=>exact kl
     case rel=>exact⟨_,rs,H',⟨kl⟩,⟨ub xB.out⟩,⟨bb⟩⟩
   ·obtain rfl:=s1 H;go_wp2;go_ret;exact⟨er,bb⟩
def dV.f (k:Nat) (l0:List (List ByteArray)) (Ir:ByteArray):Option (Bool):=(aW.f k l0 Ir).bind fun amA=>(some (decide (amA≥0)))
theorem dV.calls {k c0 KE:Nat} {A0:Option Addr} {l0:List (List ByteArray)} {Ir:ByteArray} {r:Bool} {w:World} (hr0:Kd.C (Kd.slice 9 Kd.string) w A0 l0.length l0) (hc0:l0.length≤c0) (Q5:w.heap[KE]? =some (.cells #[.string Ir] 9 (0,0))) (h:dV.f k l0 Ir=some r):
  Calls Tryz.prog 150 #[.slice A0 l0.length c0, .func (.func 151) #[] #[.pointer (some ⟨KE,0,none⟩)]] w fun e w'=>e= .returned (.bool r)∧Below w.heap.size w w':=by
 have HR0:=ak hr0;have zx:=ak hc0;clear hr0 hc0;have xB:=ak Q5;clear Q5;have HB:=ak (Below.refl w.heap.size w);unfold dV.f at h;have H:=h;clear h;replace H:=bd H;obtain⟨amA,A3,H⟩:=H;obtain rfl:=s1 H;go_enter Tryz.func150,Tryz.ntmps150;go_wp2_with (refine gB Tryz.func174 (aW.calls (cu HR0.out) zx.out (ub xB.out) A3.out) ?_;intro w4 hb;replace xB:=kb xB hb;replace HB:=bz HB hb;clear hb)
 go_ret;exact⟨er,bb⟩
mutual
def fG.j0:Nat→List (List ByteArray)→Bool→ByteArray→Option (List ByteArray×Bool)
 |0,_,_,_=>none
 |k+1,x0,x21,EL=>if x21=true then(some (([]:List ByteArray),false))else(fG.l0 k (([]:List ByteArray)) x0 (x0.length:Int) 0 EL)
def fG.l0:Nat→List ByteArray→List (List ByteArray)→Int→Int→ByteArray→Option (List ByteArray×Bool)
 |0,_,_,_,_,_=>none
 |k+1,x6,x23,x24,x25,EL=>if x25<x24 then(if 0≤x25 then(if x25<(x23.length:Int)then(if 2+EL.size≤9223372036854775807 then(if x6.length<8796093022208 then((some (x6++[(⟨#[45,45]⟩:ByteArray)++EL]:List ByteArray)).bind fun aiv=>(if aiv.length+(Aw x23 x25).length<8796093022208 then(fG.l0 k (aiv++(Aw x23 x25)) x23 x24 (wrap64 (x25+1)) EL)else(none)))else(none))else(none))else(none))else(none))else(if 2+EL.size≤9223372036854775807 then(if((⟨#[45,45]⟩:ByteArray)++EL).size+2≤9223372036854775807 then(if x6.length<8796093022208 then(some ((x6++[((⟨#[45,45]⟩:ByteArray)++EL)++(⟨#[45,45]⟩:ByteArray)]),true))else(none))else(none))else(none))
end
def fG.f (k:Nat) (l0:List (List ByteArray)) (a1:ByteArray):Option (List ByteArray×Bool):=(kN.f k a1).bind fun avv=>(if avv=true then(if(l0.length:Int)=0 then(fG.j0 k l0 true a1)else((dV.f k l0 a1).bind fun avw=>(fG.j0 k l0 avw a1)))else(fG.j0 k l0 true a1))
theorem fG.calls {k c0:Nat} {A0:Option Addr} {l0:List (List ByteArray)} {a1:ByteArray} {r1:List ByteArray} {r2:Bool} {w:World} (hr0:Kd.C (Kd.slice 9 Kd.string) w A0 l0.length l0) (hc0:l0.length≤c0) (h:fG.f k l0 a1=some (r1,r2)):
  Calls Tryz.prog 106 #[.slice A0 l0.length c0, .string a1] w fun e w'=>∃o7:Value,e= .returned (.tuple #[o7, .bool r2])∧Kd.R Kd.string 9 w' w.heap.size (fun _=>True) o7 r1∧Below w.heap.size w w':=by
 have HR0:=ak hr0;have zx:=ak hc0;clear hr0 hc0;have HB:=ak (Below.refl w.heap.size w);unfold fG.f at h;have H:=h;clear h;have Uc:=ak H;clear H;go_enter Tryz.func106,Tryz.ntmps106;go_upto_region 1 with(refine gG 3 ?_;refine bX HB 3 #[.string a1] 9 ?_;intro Az w4 rZ aHg hb;replace HB:=bs HB hb;clear hb)
 (try simp only[Act.put,zN,zO,l_c]);go_cut [21] (fun v21 wc=>∃(kq:Nat) (aiw:Bool),v21= .bool aiw∧ah (fG.j0 kq l0 aiw a1=some (r1,r2))∧ah (kq≤k)∧ah (wc.heap[Az]? =some (.cells #[.string a1] 9 (0,0)))∧ah (Below w.heap.size w wc))
 case first=>
  have H:=Uc.out;clear Uc;replace H:=bd H;obtain⟨avv,A5,H⟩:=H;replace H:=sb H;rcases H with⟨rfl,H⟩|⟨rfl,H⟩
  ·replace H:=sp H;rcases H with⟨c7,H⟩|⟨c7,H⟩
   ·have tJ:=beq_iff_eq.mpr c7;have PZ:=bne_eq_false_iff_eq.mpr c7;clear c7
    (first|rw[tJ]|(simp only[jk,kU];rw[tJ])|skip);have H':=ak H;clear H;have aD5:w4.cell? ⟨Az,0,none⟩=some (.string a1):=(aA rZ.out 0).trans rfl;have aD6:=fF rZ.out 0;go_wp2_with (refine gA Tryz.func96 (kN.calls A5.out) ?_;intro nd)
    go_meet
    case rel=>exact⟨_,_,rs,H',⟨PW⟩,⟨ub rZ.out⟩,⟨bb⟩⟩
   ·have tJ:=beq_eq_false_iff_ne.mpr c7;have PZ:=bne_iff_ne.mpr c7;have aD7:¬(l0=[]):=fun h_=>c7 (by rw[h_];rfl)
    (first|rw[tJ]|(simp only[jk,kU];rw[tJ])|skip);replace H:=bd H;obtain⟨avw,A9,H⟩:=H;have H':=ak H;clear H;have aCs:w4.cell? ⟨Az,0,none⟩=some (.string a1):=(aA rZ.out 0).trans rfl;have aCt:=fF rZ.out 0;go_wp2_with (first|(refine gA Tryz.func96 (kN.calls A5.out) ?_;intro nd)|(go_at_call 150;refine mB (dV.calls (cu (Kd.aN HR0.out bb)) zx.out (ub rZ.out) A9.out) ?_;intro Wn hb;replace rZ:=kb rZ hb;replace HB:=bz HB hb;clear hb))
    go_meet
    case rel=>exact⟨_,_,rs,H',⟨PW⟩,⟨ub rZ.out⟩,⟨bb⟩⟩
  ·have H':=ak H;clear H;have amB:w4.cell? ⟨Az,0,none⟩=some (.string a1):=(aA rZ.out 0).trans rfl;have aCu:=fF rZ.out 0;go_wp2_with (refine gA Tryz.func96 (kN.calls A5.out) ?_;intro nd)
   go_meet
   case rel=>exact⟨_,_,rs,H',⟨PW⟩,⟨ub rZ.out⟩,⟨bb⟩⟩
 case rest=>
  clear Uc;obtain⟨kq,aiw,rfl,HA,HJ2,rZ,HB⟩:=hcut
  cases kq with
  |zero=>exact zz HA.out
  |succ kj2=>
   obtain⟨H⟩:=HA;simp only[fG.j0]at H;replace H:=sb H;rcases H with⟨rfl,H⟩|⟨rfl,H⟩
   ·obtain⟨rfl,rfl⟩:=s2 H;go_wp2;go_ret2;exact⟨_,er,nx,bb⟩
   ·obtain⟨aKF,aoo⟩:=nm ([]:List ByteArray);rw[←aoo.out]at H;have H':=ak H;clear H;go_wp2_with (refine gG 22 ?_;refine II 22 Kd.string 9 aoo ?_;intro aKG VH KZ hb;have avx:=ak (Kd.aG (Kd.kF KZ (g:=Az) (o:= .cells #[.string a1] 9 (0,0)) (ub rZ.out)) (aj bb));replace rZ:=kb rZ hb;replace HB:=bz HB hb;clear hb KZ)
    go_loopg [6,25] kj2 (fun kq v6 v25 w'=>∃(EC:List ByteArray) (Q7:Int),v25= .int .i64 Q7∧ah (fG.l0 kq EC l0 (l0.length:Int) Q7 a1=some (r1,r2))∧ah (kq≤kj2)∧ah (Kd.R Kd.string 9 w' w.heap.size (fun k_=>k_≠Az) v6 EC)∧ah (w'.heap[Az]? =some (.cells #[.string a1] 9 (0,0)))∧ah (Below w.heap.size w w'))
    case atStart=>exact⟨_,_,rs,H',⟨Nat.le_refl _⟩,⟨ur (Kd.aX avx.out (fun _ hk=>hk.2))⟩,⟨ub rZ.out⟩,⟨bb⟩⟩
    case round=>
     clear H';obtain⟨EC,Q7,rfl,HA,HK2,l7,rZ,HB⟩:=hrel
     cases gk with
     |zero=>exact zz HA.out
     |succ k2=>
      obtain⟨H⟩:=HA;simp only[fG.l0]at H;replace H:=sd H;rcases H with⟨zA,H⟩|⟨zA,H⟩
      ·replace H:=oG H;obtain⟨u_,H⟩:=H;replace H:=oG H;obtain⟨CQ,H⟩:=H;replace H:=nn H;obtain⟨c19,H⟩:=H;have DR:=eq_true c19;have H_:=decide_eq_true c19;try have aop:(9223372036854775807<2+a1.size)=False:=eq_false (Nat.not_lt.2 c19)
       replace H:=nl H;obtain⟨aix,H⟩:=H;replace H:=ny H;obtain⟨aiv,avy,H⟩:=H;replace H:=nl H;obtain⟨aai,H⟩:=H;obtain⟨aKH,aoq⟩:=nm (aiv++(Aw l0 Q7));rw[←aoq.out]at H;have H':=ak H;clear H;have arB:=zi Q7;have arC:=zj Q7 l0.length;obtain⟨aHh,aD8,aD9,e318,ad_,aea,aeb⟩:=MI HR0.out Q7 arB arC;cases e318;replace ad_:=cl HB.out ad_;have amC:=ak aeb;have aCv:=ak aea;clear aeb aea;replace arB:=eq_true arB;replace arC:=eq_true arC;have aCw:wr.cell? ⟨Az,0,none⟩=some (.string a1):=(aA rZ.out 0).trans rfl;have aCx:=fF rZ.out 0;go_wp2_with (first|((with_reducible refine dR (b:= .append) (xs:=#[.tmp 29, .tmp 32]) rfl ?_);(try(refine l9 (by rfl) ?_;dsimp only));at_builtin;refine Kd.qE Kd.string (w0:=w) w.heap.size rfl (.tmp 29) (.tmp 32) 23 9 (.string ⟨#[]⟩) 16 rfl Tryz.underlying23 info9 rfl (by decide) (by omega) u6 EC ((⟨#[45,45]⟩:ByteArray)++a1) [.string ((⟨#[45,45]⟩:ByteArray)++a1)] (fun k_=>k_≠Az) (fun _=>False) rfl rfl ?aP (fun _ hk=>hk.elim) ?aF ?aO ?aB ?aS ?aL ?_;(case aP=>exact rfl);(case aB=>exact bb);(case aF=>exact(fun k_ hk=>Kd.xq (g:=Az) (o:= .cells #[.string a1] 9 (0,0)) (ub rZ.out) k_ hk));(case aO=>exact(ur l7.out));(case aS=>exact(aj bb));(case aL=>have:=aix.out;omega);intro aD_ w23 ho hb hg hat;rw[←avy.out]at ho;have aiy:=ak (ho);replace rZ:=ak (bP (g:=Az) (o:= .cells #[.string a1] 9 (0,0)) (ub rZ.out) hg (Kd.yB l7.out (fun _ hk=>hk)));replace HB:=ak (hb);clear ho hb hg hat l7)|((with_reducible refine dR (b:= .append) (xs:=#[.tmp 34, .tmp 35]) rfl ?_);(try(refine l9 (by rfl) ?_;dsimp only));at_builtin;refine Kd.o9 Kd.string (w0:=w) w.heap.size rfl (.tmp 34) (.tmp 35) 23 9 (.string ⟨#[]⟩) 16 rfl Tryz.underlying23 info9 rfl (by decide) (by omega) aD_ aiv (Aw l0 Q7) _ _ _ (fun k_=>k_≠Az) (fun _=>False) rfl rfl ?aO ?aR (fun _ _ h=>h) (fun _ h=>h.elim) ?aF ?aB ?aS ?aL ?_;(case aR=>repeat(first|exact(Kd.aN amC.out HB.out)|(with_reducible refine Kd.lY ?_ _)|(with_reducible refine Kd.lZ ?_ _)|(with_reducible refine Kd.pX ?_)));(case aB=>exact bb);(case aF=>exact(fun k_ hk=>Kd.xq (g:=Az) (o:= .cells #[.string a1] 9 (0,0)) (ub rZ.out) k_ hk));(case aO=>exact(ur aiy.out));(case aS=>exact(aj bb));(case aL=>have:=aai.out;omega);intro aKI w24 ho hb hg hat;rw[←aoq.out]at ho;have avz:=ak (ho);replace rZ:=ak (bP (g:=Az) (o:= .cells #[.string a1] 9 (0,0)) (ub rZ.out) hg (Kd.yB aiy.out (fun _ hk=>hk)));replace HB:=ak (hb);clear ho hb hg hat aiy))
       go_roundg k2
       case measure=>exact kl
       case rel=>exact⟨_,_,rs,H',⟨kl⟩,⟨ur avz.out⟩,⟨ub rZ.out⟩,⟨bb⟩⟩
      ·replace H:=nn H;obtain⟨c25,H⟩:=H;have Ud:=eq_true c25;have aiz:=decide_eq_true c25;try have avA:(9223372036854775807<2+a1.size)=False:=eq_false (Nat.not_lt.2 c25)
       replace H:=nn H;obtain⟨c26,H⟩:=H;have Q8:=eq_true c26;have aec:=decide_eq_true c26;try have aHi:(9223372036854775807<2+a1.size+2)=False:=by have h_:=(eq_false (Nat.not_lt.2 c26):(9223372036854775807<((⟨#[45,45]⟩:ByteArray)++a1).size+2)=False);simp only[ByteArray.size_append]at h_;exact h_
       try have aHj:(9223372036854775807<((⟨#[45,45]⟩:ByteArray)++a1).size+2)=False:=eq_false (Nat.not_lt.2 c26)
       replace H:=nl H;obtain⟨aiA,H⟩:=H;obtain⟨aKJ,aor⟩:=nm (EC++[((⟨#[45,45]⟩:ByteArray)++a1)++(⟨#[45,45]⟩:ByteArray)]);rw[←aor.out]at H;obtain⟨rfl,rfl⟩:=s2 H;have aCy:wr.cell? ⟨Az,0,none⟩=some (.string a1):=(aA rZ.out 0).trans rfl;have aCz:=fF rZ.out 0;go_wp2_with ((with_reducible refine dR (b:= .append) (xs:=#[.tmp 38, .tmp 42]) rfl ?_);(try(refine l9 (by rfl) ?_;dsimp only));at_builtin;refine Kd.qE Kd.string (w0:=w) w.heap.size rfl (.tmp 38) (.tmp 42) 23 9 (.string ⟨#[]⟩) 16 rfl Tryz.underlying23 info9 rfl (by decide) (by omega) u6 EC (((⟨#[45,45]⟩:ByteArray)++a1)++(⟨#[45,45]⟩:ByteArray)) [.string (((⟨#[45,45]⟩:ByteArray)++a1)++(⟨#[45,45]⟩:ByteArray))] (fun k_=>k_≠Az) (fun _=>False) rfl rfl ?aP (fun _ hk=>hk.elim) ?aF ?aO ?aB ?aS ?aL ?_;(case aP=>exact rfl);(case aB=>exact bb);(case aF=>exact(fun k_ hk=>Kd.xq (g:=Az) (o:= .cells #[.string a1] 9 (0,0)) (ub rZ.out) k_ hk));(case aO=>exact(ur l7.out));(case aS=>exact(aj bb));(case aL=>have:=aiA.out;omega);intro aKK w29 ho hb hg hat;rw[←aor.out]at ho;have avC:=ak (ho);replace rZ:=ak (bP (g:=Az) (o:= .cells #[.string a1] 9 (0,0)) (ub rZ.out) hg (Kd.yB l7.out (fun _ hk=>hk)));replace HB:=ak (hb);clear ho hb hg hat l7)
       go_ret2;exact⟨_,er,ur (Kd.aX avC.out (fun _ hk=>trivial)),bb⟩
mutual
def aT.j0:Nat→Int→List ByteArray→Bool→List (fO)→List ByteArray→List (jT)→Option (List ByteArray×Bool)
 |0,_,_,_,_,_,_=>none
 |k+1,x1,x6,x27,NH,C_,BF=>if x27=true then(some (([]:List ByteArray),false))else(if x6.length<8796093022208 then((some (x6++[(⟨#[]⟩:ByteArray)]:List ByteArray)).bind fun NI=>((lu.f k NH C_ BF).bind fun aed=>(if aed.2=true then(if(C_.length:Int)>0 then(aT.j1 k x1 NI aed.1 true NH C_ BF)else(if(BF.length:Int)<1 then(aT.j1 k x1 NI aed.1 true NH C_ BF)else(aT.j1 k x1 NI aed.1 (decide ((BF.length:Int)>4)) NH C_ BF)))else(if NI.length+C_.length<8796093022208 then((some (NI++C_:List ByteArray)).bind fun arD=>(if(BF.length:Int)=0 then((rY.f k C_ 30).bind fun avD=>(some (arD,avD)))else(some (arD,false))))else(none)))))else(none))
def aT.j1:Nat→Int→List ByteArray→ByteArray→Bool→List (fO)→List ByteArray→List (jT)→Option (List ByteArray×Bool)
 |0,_,_,_,_,_,_,_=>none
 |k+1,x1,x6,x8,x66,NH,C_,BF=>if x66=true then(some (([]:List ByteArray),false))else(aT.l0 k x1 x6 x8 (([]:List (List ByteArray))) BF (BF.length:Int) 0)
def aT.l0:Nat→Int→List ByteArray→ByteArray→List (List ByteArray)→List (jT)→Int→Int→Option (List ByteArray×Bool)
 |0,_,_,_,_,_,_,_=>none
 |k+1,x1,x6,x8,x10,x69,x70,x71=>if x71<x70 then(if 0≤x71 then(if x71<(x69.length:Int)then((aT.f k ((au x69 x71).f0) ((au x69 x71).f1) ((au x69 x71).f2) (wrap64 (x1-1))).bind fun aos=>(if aos.2=true then(if x10.length<5864062014805 then(aT.l0 k x1 x6 x8 (x10++[aos.1]) x69 x70 (wrap64 (x71+1)))else(none))else(some (([]:List ByteArray),false))))else(none))else(none))else((fG.f k x10 x8).bind fun aiB=>(if x6.length+aiB.1.length<8796093022208 then(some ((x6++aiB.1),aiB.2))else(none)))
def aT.f:Nat→List (fO)→List ByteArray→List (jT)→Int→Option (List ByteArray×Bool)
 |0,_,_,_,_=>none
 |k+1,bD,bf,ay,a1=>(jv.f k bD).bind fun aiC=>(if aiC.2=true then(aT.j0 k a1 aiC.1 (a1==0) bD bf ay)else(aT.j0 k a1 aiC.1 true bD bf ay))
end
theorem aT.calls (k:Nat):∀(ig:Option Addr) (iq:Nat) (bD:List (fO)) (gK:Option Addr) (gQ:Nat) (bf:List ByteArray) (fM:Option Addr) (dO:Nat) (ay:List (jT)) (a1:Int) (r1:List ByteArray) (r2:Bool) (w:World) (mZ:Kd.C oz w ig bD.length bD) (m_:bD.length≤iq) (ng:Kd.C Kd.string w gK bf.length bf) (ni:bf.length≤gQ) (jU:Kd.C k28 w fM ay.length ay) (jV:ay.length≤dO) (EK:MaxOk w) (h:aT.f k bD bf ay a1=some (r1,r2)),
  Calls Tryz.prog 66 #[.agg #[.slice ig bD.length iq, .slice gK bf.length gQ, .slice fM ay.length dO], .int .i64 a1] w fun e w'=>∃o7:Value,e= .returned (.tuple #[o7, .bool r2])∧Kd.R Kd.string 9 w' w.heap.size (fun _=>True) o7 r1∧Below w.heap.size w w':=by
 induction k using Nat.strongRecOn with
 |_ k ih=>
 intro ig iq bD gK gQ bf fM dO ay a1 r1 r2 w mZ m_ ng ni jU jV EK h
 cases k with
 |zero=>exact absurd h (by simp[aT.f])
 |succ k=>
 simp only[aT.f]at h;have Eu:=Tryz.underlying28;have qC:=ak mZ;have rD:=ak m_;clear mZ m_;have uw:=ak ng;have xk:=ak ni;clear ng ni;have jW:=ak jU;have oC:=ak jV;clear jU jV;have HG:=ak EK;clear EK;have HB:=ak (Below.refl w.heap.size w);have H:=h;clear h;replace H:=bd H;obtain⟨⟨aiD,aKL⟩,A3,H⟩:=H
 (try dsimp only at H);have HC4:=ak H;clear H;go_enter Tryz.func66,Tryz.ntmps66;go_upto_region 2 with(first|(refine gG 2 ?_;refine bX HB 2 #[.slice ig bD.length iq, .slice gK bf.length gQ, .slice fM ay.length dO] 28 ?_;intro CS w5 iE aHk hb;replace HB:=bs HB hb;clear hb;have z6:=iJ iE.out)|(refine gV Tryz.func39 (jv.calls (cu (Kd.aN qC.out HB.out)) rD.out A3.out) ?_;rintro amD w7 ⟨ho0,hb⟩;have aot:=ak (Kd.aG ho0 (aj bb));replace iE:=kb iE hb;replace HB:=bz HB hb;clear hb;(try clear ho0)))
 (try simp only[Act.put,zN,zO,l_c]);go_cut [27] (fun v27 wc=>∃(kq:Nat) (aiE:Bool),v27= .bool aiE∧ah (aT.j0 kq a1 aiD aiE bD bf ay=some (r1,r2))∧ah (kq≤k)∧ah (Kd.R Kd.string 9 wc w.heap.size (fun _=>True) amD aiD)∧ah (wc.heap[CS]? =some (.cells #[(.slice ig bD.length iq),(.slice gK bf.length gQ),(.slice fM ay.length dO)] 28 (0,0)))∧ah (Below w.heap.size w wc))
 case first=>
  have H:=HC4.out;clear HC4;replace H:=sb H;rcases H with⟨rfl,H⟩|⟨rfl,H⟩
  ·have H':=ak H;clear H;go_wp2;go_meet
   case rel=>exact⟨_,_,rs,H',⟨PW⟩,⟨ur aot.out⟩,⟨ub iE.out⟩,⟨bb⟩⟩
  ·have H':=ak H;clear H;go_wp2;go_meet
   case rel=>exact⟨_,_,rs,H',⟨PW⟩,⟨ur aot.out⟩,⟨ub iE.out⟩,⟨bb⟩⟩
 case rest=>
  clear HC4;obtain⟨kq,aiE,rfl,HA,HJ3,l7,iE,HB⟩:=hcut
  cases kq with
  |zero=>exact zz HA.out
  |succ kj3=>
   obtain⟨H⟩:=HA;simp only[aT.j0]at H;replace H:=sb H;rcases H with⟨rfl,H⟩|⟨rfl,H⟩
   ·obtain⟨rfl,rfl⟩:=s2 H;go_wp2;go_ret2;exact⟨_,er,nx,bb⟩
   ·replace H:=nl H;obtain⟨aaj,H⟩:=H;replace H:=ny H;obtain⟨NI,aiF,H⟩:=H;replace H:=bd H;obtain⟨⟨avE,aKM⟩,A11,H⟩:=H
    (try dsimp only at H);replace H:=sb H;rcases H with⟨rfl,H⟩|⟨rfl,H⟩
    ·have arE:=ak H;clear H;go_upto_region 8 with(first|((with_reducible refine dR (b:= .append) (xs:=#[.tmp 28, .tmp 29]) rfl ?_);(try(refine l9 (by rfl) ?_;dsimp only));at_builtin;refine Kd.qE Kd.string (w0:=w) w.heap.size rfl (.tmp 28) (.tmp 29) 23 9 (.string ⟨#[]⟩) 16 rfl Tryz.underlying23 info9 rfl (by decide) (by omega) amD aiD (⟨#[]⟩:ByteArray) [.string (⟨#[]⟩:ByteArray)] (fun _=>True) (fun _=>False) rfl rfl ?aP (fun _ hk=>hk.elim) ?aF ?aO ?aB ?aS ?aL ?_;(case aP=>exact rfl);(case aB=>exact bb);(case aF=>exact(fun _ _=>trivial));(case aO=>exact(ur l7.out));(case aS=>exact(aj bb));(case aL=>have:=aaj.out;omega);intro Ue VH ho hb hg hat;rw[←aiF.out]at ho;have xC:=ak (ho);replace iE:=ak (bP (g:=CS) (o:= .cells #[.slice ig bD.length iq, .slice gK bf.length gQ, .slice fM ay.length dO] 28 (0,0)) (ub iE.out) hg (Kd.qc l7.out iE.out (by decide)));replace HB:=ak (hb);clear ho hb hg hat l7;have z15:=iJ iE.out)|(refine gB Tryz.func101 (lu.calls (cu (Kd.aN qC.out HB.out)) rD.out (cu (Kd.aN uw.out HB.out)) xk.out (cu (Kd.aN jW.out HB.out)) oC.out ?DT A11.out) ?_;(case DT=>first|exact HG.out|exact MaxOk.below HG.out bb|(repeat(first|exact HG.out|apply MaxOk.drewN|apply MaxOk.drew)));intro w16 hb;replace xC:=rb xC hb;replace iE:=kb iE hb;replace HB:=bz HB hb;clear hb))
     (try simp only[Act.put,zN,zO,l_c]);go_cut [66] (fun v66 wc=>∃(kq:Nat) (ach:Bool),v66= .bool ach∧ah (aT.j1 kq a1 NI avE ach bD bf ay=some (r1,r2))∧ah (kq≤kj3)∧ah (Kd.R Kd.string 9 wc w.heap.size (fun _=>True) Ue NI)∧ah (wc.heap[CS]? =some (.cells #[(.slice ig bD.length iq),(.slice gK bf.length gQ),(.slice fM ay.length dO)] 28 (0,0)))∧ah (Below w.heap.size w wc))
     case first=>
      have H:=arE.out;clear arE;replace H:=sp H;rcases H with⟨c17,H⟩|⟨c17,H⟩
      ·have u_:decide (0<(bf.length:Int))=true:=decide_eq_true c17;have Q9:decide (0<bf.length)=true:=decide_eq_true (by omega);clear c17
       (first|rw[u_]|(simp only[jk,kU];rw[u_])|skip);have H':=ak H;clear H;have z18:=iJ iE.out;go_wp2;go_meet
       case rel=>exact⟨_,_,rs,H',⟨kl⟩,⟨ur xC.out⟩,⟨ub iE.out⟩,⟨bb⟩⟩
      ·have u_:decide (0<(bf.length:Int))=false:=decide_eq_false c17;have Q9:decide (0<bf.length)=false:=decide_eq_false (by omega);clear c17
       (first|rw[u_]|(simp only[jk,kU];rw[u_])|skip);replace H:=sp H;rcases H with⟨c19,H⟩|⟨c19,H⟩
       ·have DR:=decide_eq_true c19;have H_:decide (ay.length<1)=true:=decide_eq_true (by omega);clear c19;have H':=ak H;clear H;have z20:=iJ iE.out;go_wp2;go_meet
        case rel=>exact⟨_,_,rs,H',⟨kl⟩,⟨ur xC.out⟩,⟨ub iE.out⟩,⟨bb⟩⟩
       ·have DR:=decide_eq_false c19;have H_:decide (ay.length<1)=false:=decide_eq_false (by omega);clear c19;have H':=ak H;clear H;have z21:=iJ iE.out;go_wp2;go_meet
        case rel=>exact⟨_,_,rs,H',⟨kl⟩,⟨ur xC.out⟩,⟨ub iE.out⟩,⟨bb⟩⟩
     case rest=>
      clear arE;obtain⟨kq,ach,rfl,HA,aiG,l7,iE,HB⟩:=hcut
      cases kq with
      |zero=>exact zz HA.out
      |succ avF=>
       obtain⟨H⟩:=HA;simp only[aT.j1]at H;replace H:=sb H;rcases H with⟨rfl,H⟩|⟨rfl,H⟩
       ·obtain⟨rfl,rfl⟩:=s2 H;go_wp2;go_ret2;exact⟨_,er,nx,bb⟩
       ·obtain⟨aKN,aiH⟩:=nm ([]:List (List ByteArray));rw[←aiH.out]at H;have H':=ak H;clear H;go_wp2_with ((with_reducible refine aak (N:=67) rfl ?_);(try(refine l9 (by rfl) ?_;dsimp only));refine Kd.aou (Kd.slice 9 Kd.string) _ 23 ?hg (N:=67) ?hd (xs:=([]:List (List ByteArray))) (inner:=[]) (ok:=fun _=>True) (yC:=fun _=>True) ?hr ?hp (fun _ hk=>hk) trivial (Below.refl _ _) (Nat.le_refl _) (by simp) ?_;(case hd=>rfl);(case hg=>rfl);(case hr=>first|(go_simp;done)|(go_simp;rfl));(case hp=>exact(bU.none _ _));intro aKO w23 P6 hb EK yL;clear EK yL;(first|rw[←aiH.out]at P6|(simp only[Int.reduceToNat]at P6;rw[←aiH.out]at P6));have avG:=ak (Kd.aee (Kd.aiI P6 (Kd.jP (ur l7.out))) (aj bb));replace l7:=rb l7 hb;replace iE:=kb iE hb;replace HB:=bz HB hb;clear hb P6;have z25:=iJ iE.out)
        go_loopg [10,71] avF (fun kq v10 v71 w'=>∃(aal:List (List ByteArray)) (sQ:Int),v71= .int .i64 sQ∧ah (aT.l0 kq a1 NI avE aal ay (ay.length:Int) sQ=some (r1,r2))∧ah (kq≤avF)∧ah (Kd.R Kd.string 9 w' w.heap.size (fun _=>True) Ue NI)∧ah (Kd.S (Kd.slice 9 Kd.string) 23 w' w.heap.size (fun k_=>some k_≠(Ue:Value).ownBlock) v10 aal)∧ah (w'.heap[CS]? =some (.cells #[(.slice ig bD.length iq),(.slice gK bf.length gQ),(.slice fM ay.length dO)] 28 (0,0)))∧ah (Below w.heap.size w w'))
        case atStart=>exact⟨_,_,rs,H',⟨Nat.le_refl _⟩,⟨ur l7.out⟩,⟨by(with_reducible repeat(first|apply Kd.uH|apply Kd.uI|apply Kd.yD));exact Kd.GL avG.out (fun _ hk=>hk.2)⟩,⟨ub iE.out⟩,⟨bb⟩⟩
        case round=>
         clear H';obtain⟨aal,sQ,rfl,HA,HK3,l7,yu,iE,HB⟩:=hrel
         cases gk with
         |zero=>exact zz HA.out
         |succ k3=>
          obtain⟨H⟩:=HA;simp only[aT.l0]at H;replace H:=sd H;rcases H with⟨Q8,H⟩|⟨Q8,H⟩
          ·replace H:=oG H;obtain⟨IU,H⟩:=H;replace H:=oG H;obtain⟨IV,H⟩:=H;replace H:=bd H;obtain⟨⟨agI,aKP⟩,A29,H⟩:=H
           (try dsimp only at H);replace H:=sb H;rcases H with⟨rfl,H⟩|⟨rfl,H⟩
           ·replace H:=nl H;obtain⟨aiJ,H⟩:=H;obtain⟨aKQ,aov⟩:=nm (aal++[agI]);rw[←aov.out]at H;have H':=ak H;clear H;have aci:=zi sQ;have acj:=zj sQ ay.length;obtain⟨aef,P7,P8,P9,P_,Qa,Qb,e345,NJ,NK,NM,NP,NQ,NR,NS,NT,NU⟩:=yT jW.out sQ aci acj;cases e345;replace NJ:=cl HB.out NJ;replace NK:=cl HB.out NK;replace NM:=cl HB.out NM;have X7:=ak NQ;have X8:=ak NP;clear NQ NP;have X9:=ak NS;have X_:=ak NR;clear NS NR;have Ya:=ak NU;have Yb:=ak NT;clear NU NT;replace aci:=eq_true aci;replace acj:=eq_true acj;go_wp2_with (first|(refine gG 12 ?_;refine bY HB 12 #[.slice none 0 0, .slice none 0 0, .slice none 0 0] 28 ?_;intro Q_ w32 Ia avH hg hb;have Qc:=vT iE hg;have Qd:=vU iE hg;replace l7:=rb l7 hb;replace yu:=ak (Kd.aeg (by(with_reducible repeat(first|apply Kd.uH|apply Kd.uI|apply Kd.yD));exact yu.out) hb);replace iE:=kb iE hb;replace HB:=bz HB hb;clear hb hg;have avI:=Qd.out;have avJ:=Qc.out;have z34:=iJ Ia.out)|(refine gV Tryz.func66 (ih k3 (by have:=HJ3.out;have:=aiG.out;have:=HK3.out;omega) _ _ ((au ay sQ).f0) _ _ ((au ay sQ).f1) _ _ ((au ay sQ).f2) (wrap64 (a1-1)) agI true _ (Kd.aN X7.out bb) X8.out (Kd.aN X9.out bb) X_.out (Kd.aN Ya.out bb) Yb.out ?DT A29.out) ?_;(case DT=>first|exact HG.out|exact MaxOk.below HG.out bb|(repeat(first|exact HG.out|apply MaxOk.drewN|apply MaxOk.drew)));rintro aEa w35 ⟨ho0,hb⟩;have aam:=ak (Kd.aG (Kd.fE ho0 (Kd.jP (rh l7))) (aj bb));replace l7:=ak (Kd.eu (rh l7) (Kd.b_ ho0) hb);replace yu:=ak (Kd.IW (by(with_reducible repeat(first|apply Kd.uH|apply Kd.uI|apply Kd.yD));exact(Kd.GL (Kd.Wx (p:=⟨Q_,2,none⟩) (Kd.Wx (p:=⟨Q_,1,none⟩) (Kd.Wx (p:=⟨Q_,0,none⟩) (Kd.aeh yu.out Ia.out (by decide)) (fun _ hk=>hk.2) (.slice P7 ((au ay sQ).f0).length P8)) (fun _ hk=>hk.2) (.slice P9 ((au ay sQ).f1).length P_)) (fun _ hk=>hk.2) (.slice Qa ((au ay sQ).f2).length Qb)) (fun _ h_=>h_.1))) (Kd.b_ ho0) hb);replace iE:=kp iE #[.slice ig bD.length iq, .slice gK bf.length gQ, .slice (some aef) ay.length dO] hb;replace Ia:=kp Ia #[.slice P7 ((au ay sQ).f0).length P8, .slice P9 ((au ay sQ).f1).length P_, .slice Qa ((au ay sQ).f2).length Qb] hb;replace HB:=bz HB hb;clear hb;(try clear ho0);obtain⟨agJ,agK,Yc⟩:=Kd.aH aam.out;subst Yc)|((with_reducible refine dR (b:= .append) (xs:=#[.tmp 84, .tmp 86]) rfl ?_);(try(refine l9 (by rfl) ?_;dsimp only));at_builtin;refine Kd.aan (Kd.slice 9 Kd.string) (w0:=w) w.heap.size rfl (.tmp 84) (.tmp 86) 65 23 (.slice none 0 0) 24 rfl Tryz.underlying65 info23 rfl (by decide) (by omega) u10 aal agI [.slice agJ agI.length agK] (fun k_=>some k_≠(Ue:Value).ownBlock) (fun k_=>some k_=(.slice agJ agI.length agK:Value).ownBlock) rfl rfl ?aP (fun k_ hk_=>((Kd.aX (ok':=fun k_=>((fun k_=>some k_≠(Ue:Value).ownBlock)) k_∧some k_≠(u10:Value).ownBlock) (Kd.nU (aam.out) (Kd.JJ yu.out) (by decide)) (fun k_ hk=>⟨hk.1.2,hk.2⟩))).1 k_ hk_.symm) ?aF ?aO ?aB ?aS ?aL ?_;(case aP=>exact Kd.aow (Kd.aX (Kd.aei rfl (Kd.aX (ok':=fun k_=>((fun k_=>some k_≠(Ue:Value).ownBlock)) k_∧some k_≠(u10:Value).ownBlock) (Kd.nU (aam.out) (Kd.JJ yu.out) (by decide)) (fun k_ hk=>⟨hk.1.2,hk.2⟩))) (fun _ h_=>h_)));(case aB=>exact bb);(case aF=>exact(fun k_ hk=>Kd.fresh' (Kd.jP (ur l7.out)) k_ hk));(case aO=>exact(by(with_reducible repeat(first|apply Kd.uH|apply Kd.uI|apply Kd.yD));exact Kd.GL yu.out (fun k_ hk=>⟨hk.1,fun e_=>hk.2 e_⟩)));(case aS=>exact(aj bb));(case aL=>have:=aiJ.out;omega);intro aKR w36 ho hb hg hat;rw[←aov.out]at ho;have avK:=ak (ho);replace l7:=ak (Kd.oU (ur l7.out) (Kd.JJ (by(with_reducible repeat(first|apply Kd.uH|apply Kd.uI|apply Kd.yD));exact yu.out)) (by decide) hg);replace iE:=ak (bP (g:=CS) (o:= .cells #[.slice ig bD.length iq, .slice gK bf.length gQ, .slice (some aef) ay.length dO] 28 (0,0)) (ub iE.out) hg (Kd.arF yu.out iE.out (by decide)));replace Ia:=ak (bP (g:=Q_) (o:= .cells #[.slice P7 ((au ay sQ).f0).length P8, .slice P9 ((au ay sQ).f1).length P_, .slice Qa ((au ay sQ).f2).length Qb] 28 (0,0)) (ub Ia.out) hg (Kd.arF yu.out Ia.out (by decide)));replace HB:=ak (hb);clear ho hb hg hat yu aam))
            go_roundg k3
            case measure=>have:=HJ3.out;have:=aiG.out;have:=HK3.out;omega
            case rel=>exact⟨_,_,rs,H',⟨by have:=HJ3.out;have:=aiG.out;have:=HK3.out;omega⟩,⟨ur (Kd.aX l7.out (fun _ hk=>trivial))⟩,⟨by(with_reducible repeat(first|apply Kd.uH|apply Kd.uI|apply Kd.yD));exact avK.out⟩,⟨ub iE.out⟩,⟨bb⟩⟩
           ·obtain⟨rfl,rfl⟩:=s2 H;have aci:=zi sQ;have acj:=zj sQ ay.length;obtain⟨aef,P7,P8,P9,P_,Qa,Qb,e345,NJ,NK,NM,NP,NQ,NR,NS,NT,NU⟩:=yT jW.out sQ aci acj;cases e345;replace NJ:=cl HB.out NJ;replace NK:=cl HB.out NK;replace NM:=cl HB.out NM;have X7:=ak NQ;have X8:=ak NP;clear NQ NP;have X9:=ak NS;have X_:=ak NR;clear NS NR;have Ya:=ak NU;have Yb:=ak NT;clear NU NT;replace aci:=eq_true aci;replace acj:=eq_true acj;go_wp2_with (first|(refine gG 12 ?_;refine bY HB 12 #[.slice none 0 0, .slice none 0 0, .slice none 0 0] 28 ?_;intro Q_ w38 Ia avH hg hb;have Qc:=vT iE hg;have Qd:=vU iE hg;replace l7:=rb l7 hb;replace yu:=ak (Kd.aeg (by(with_reducible repeat(first|apply Kd.uH|apply Kd.uI|apply Kd.yD));exact yu.out) hb);replace iE:=kb iE hb;replace HB:=bz HB hb;clear hb hg;have avL:=Qd.out;have avM:=Qc.out;have z40:=iJ Ia.out)|(refine gV Tryz.func66 (ih k3 (by have:=HJ3.out;have:=aiG.out;have:=HK3.out;omega) _ _ ((au ay sQ).f0) _ _ ((au ay sQ).f1) _ _ ((au ay sQ).f2) (wrap64 (a1-1)) agI false _ (Kd.aN X7.out bb) X8.out (Kd.aN X9.out bb) X_.out (Kd.aN Ya.out bb) Yb.out ?DT A29.out) ?_;(case DT=>first|exact HG.out|exact MaxOk.below HG.out bb|(repeat(first|exact HG.out|apply MaxOk.drewN|apply MaxOk.drew)));rintro aEa w41 ⟨ho0,hb⟩;have aam:=ak (Kd.aG (Kd.fE ho0 (Kd.jP (rh l7))) (aj bb));replace l7:=ak (Kd.eu (rh l7) (Kd.b_ ho0) hb);replace yu:=ak (Kd.IW (by(with_reducible repeat(first|apply Kd.uH|apply Kd.uI|apply Kd.yD));exact(Kd.GL (Kd.Wx (p:=⟨Q_,2,none⟩) (Kd.Wx (p:=⟨Q_,1,none⟩) (Kd.Wx (p:=⟨Q_,0,none⟩) (Kd.aeh yu.out Ia.out (by decide)) (fun _ hk=>hk.2) (.slice P7 ((au ay sQ).f0).length P8)) (fun _ hk=>hk.2) (.slice P9 ((au ay sQ).f1).length P_)) (fun _ hk=>hk.2) (.slice Qa ((au ay sQ).f2).length Qb)) (fun _ h_=>h_.1))) (Kd.b_ ho0) hb);replace iE:=kp iE #[.slice ig bD.length iq, .slice gK bf.length gQ, .slice (some aef) ay.length dO] hb;replace Ia:=kp Ia #[.slice P7 ((au ay sQ).f0).length P8, .slice P9 ((au ay sQ).f1).length P_, .slice Qa ((au ay sQ).f2).length Qb] hb;replace HB:=bz HB hb;clear hb;(try clear ho0)))
            go_ret2;exact⟨_,er,nx,bb⟩
          ·replace H:=bd H;obtain⟨⟨amE,aKS⟩,A42,H⟩:=H
           (try dsimp only at H);replace H:=nl H;obtain⟨avN,H⟩:=H;obtain⟨aKT,aox⟩:=nm (NI++amE);rw[←aox.out]at H;obtain⟨rfl,rfl⟩:=s2 H;obtain⟨aiK,aiL,agL⟩:=Kd.aej yu.out;subst agL;go_wp2_with (first|(refine gV Tryz.func106 (fG.calls (cu ((Kd.NV yu.out).2.2)) ((Kd.NV yu.out).2.1) A42.out) ?_;rintro aKU w45 ⟨ho0,hb⟩;have aao:=ak (Kd.aG (Kd.fE ho0 (Kd.jP (ur l7.out))) (aj bb));replace l7:=ak (Kd.eu (ur l7.out) (Kd.b_ ho0) hb);replace yu:=ak (Kd.IW (by(with_reducible repeat(first|apply Kd.uH|apply Kd.uI|apply Kd.yD));exact yu.out) (Kd.b_ ho0) hb);replace iE:=kb iE hb;replace HB:=bz HB hb;clear hb;(try clear ho0);obtain⟨arG,arH,amF⟩:=Kd.aH aao.out;subst amF)|((with_reducible refine dR (b:= .append) (xs:=#[.tmp 95, .tmp 96]) rfl ?_);(try(refine l9 (by rfl) ?_;dsimp only));at_builtin;refine Kd.o9 Kd.string (w0:=w) w.heap.size rfl (.tmp 95) (.tmp 96) 23 9 (.string ⟨#[]⟩) 16 rfl Tryz.underlying23 info9 rfl (by decide) (by omega) Ue NI amE _ _ _ (fun k_=>some k_≠(.slice arG amE.length arH:Value).ownBlock) (fun _=>False) rfl rfl ?aO ?aR (fun _ _ h=>h) (fun _ h=>h.elim) ?aF ?aB ?aS ?aL ?_;(case aR=>repeat(first|exact(Kd.aK aao.out).2.2|(with_reducible refine Kd.lY ?_ _)|(with_reducible refine Kd.lZ ?_ _)|(with_reducible refine Kd.pX ?_)));(case aB=>exact bb);(case aF=>exact(fun k_ hk=>Kd.fresh' (Kd.jP (ur aao.out)) k_ hk));(case aO=>exact(ur (Kd.aX l7.out (fun _ hk=>hk.2))));(case aS=>exact(aj bb));(case aL=>have:=avN.out;omega);intro aKV w46 ho hb hg hat;rw[←aox.out]at ho;have avO:=ak (ho);replace yu:=ak (Kd.aek (ok:=(fun k_=>some k_≠(.slice arG amE.length arH:Value).ownBlock)) (by(with_reducible repeat(first|apply Kd.uH|apply Kd.uI|apply Kd.yD));exact Kd.GL yu.out (fun _ hk=>⟨hk.2,hk.1⟩)) hg hat);replace iE:=ak (bP (g:=CS) (o:= .cells #[.slice ig bD.length iq, .slice gK bf.length gQ, .slice fM ay.length dO] 28 (0,0)) (ub iE.out) hg (Kd.qc l7.out iE.out (by decide)));replace aao:=ak (Kd.BG (ok:=(fun _=>True)) (ur aao.out) hg hat);replace HB:=ak (hb);clear ho hb hg hat l7))
           go_ret2;exact⟨_,er,ur (Kd.aX avO.out (fun _ hk=>trivial)),bb⟩
    ·replace H:=nl H;obtain⟨aoy,H⟩:=H;replace H:=ny H;obtain⟨arD,aoz,H⟩:=H;replace H:=sp H;rcases H with⟨c49,H⟩|⟨c49,H⟩
     ·have avP:=beq_iff_eq.mpr c49;have avQ:=bne_eq_false_iff_eq.mpr c49;clear c49;replace H:=bd H;obtain⟨avD,A50,H⟩:=H;obtain⟨rfl,rfl⟩:=s2 H;try go_wp2_with (first|((with_reducible refine dR (b:= .append) (xs:=#[.tmp 28, .tmp 29]) rfl ?_);(try(refine l9 (by rfl) ?_;dsimp only));at_builtin;refine Kd.qE Kd.string (w0:=w) w.heap.size rfl (.tmp 28) (.tmp 29) 23 9 (.string ⟨#[]⟩) 16 rfl Tryz.underlying23 info9 rfl (by decide) (by omega) amD aiD (⟨#[]⟩:ByteArray) [.string (⟨#[]⟩:ByteArray)] (fun _=>True) (fun _=>False) rfl rfl ?aP (fun _ hk=>hk.elim) ?aF ?aO ?aB ?aS ?aL ?_;(case aP=>exact rfl);(case aB=>exact bb);(case aF=>exact(fun _ _=>trivial));(case aO=>exact(ur l7.out));(case aS=>exact(aj bb));(case aL=>have:=aaj.out;omega);intro Ue w51 ho hb hg hat;rw[←aiF.out]at ho;have xC:=ak (ho);replace iE:=ak (bP (g:=CS) (o:= .cells #[.slice ig bD.length iq, .slice gK bf.length gQ, .slice fM ay.length dO] 28 (0,0)) (ub iE.out) hg (Kd.qc l7.out iE.out (by decide)));replace HB:=ak (hb);clear ho hb hg hat l7;have z52:=iJ iE.out)|(refine gB Tryz.func101 (lu.calls (cu (Kd.aN qC.out HB.out)) rD.out (cu (Kd.aN uw.out HB.out)) xk.out (cu (Kd.aN jW.out HB.out)) oC.out ?DT A11.out) ?_;(case DT=>first|exact HG.out|exact MaxOk.below HG.out bb|(repeat(first|exact HG.out|apply MaxOk.drewN|apply MaxOk.drew)));intro w53 hb;replace xC:=rb xC hb;replace iE:=kb iE hb;replace HB:=bz HB hb;clear hb))
      replace xC:=ak (Kd.lQ xC.out);replace iE:=ak (gU iE.out);replace HB:=ak (fZ HB.out);refine ro [3,11] [0,1,4,2,5,6,7,3,8,9,10,11,12,13,14] (fun w'=>w'.cell? ⟨CS,0,none⟩=some (.slice ig bD.length iq)∧w'.cell? ⟨CS,1,none⟩=some (.slice gK bf.length gQ)∧w'.cell? ⟨CS,2,none⟩=some (.slice fM ay.length dO)) ⟨(aA iE.out 0).trans rfl,(aA iE.out 1).trans rfl,(aA iE.out 2).trans rfl⟩ ?_
      generalize w53.drew=w54 at xC iE HB⊢
      repeat refine BN ?_
      refine ld (N:=some 41) (gk.trans rfl) rfl rfl (fun K hK=>?_);refine Kd.vI Kd.string (w0:=w) w.heap.size (by rfl) (.tmp 38) (.tmp 40) 23 9 (.string ⟨#[]⟩) 16 rfl Tryz.underlying23 info9 rfl (by decide) (by omega) Ue NI bf _ _ _ (fun _=>True) (fun _=>False) rfl rfl ?aO ?aR (fun _ _ h=>h) (fun _ h=>h.elim) ?aF ?aB ?aS ?aL ?_
      (case aR=>repeat(first|exact(Kd.aN uw.out HB.out)|(with_reducible refine Kd.lY ?_ _)|(with_reducible refine Kd.lZ ?_ _)|(with_reducible refine Kd.pX ?_)))
      (case aB=>exact bb)
      (case aF=>exact(fun _ _=>trivial))
      (case aO=>exact(ur xC.out))
      (case aS=>exact(aj bb))
      (case aL=>have:=aoy.out;omega);intro aEb w55 ho hb hg hat
      rw[←aoz.out]at ho;have yU:=ak (bP (g:=CS) (o:= .cells #[.slice ig bD.length iq, .slice gK bf.length gQ, .slice fM ay.length dO] 28 (0,0)) (ub iE.out) hg (Kd.qc xC.out iE.out (by decide)));have yV:=ak (hb);have zQ:=ak (ho);clear iE HB xC;have iE:=yU;have HB:=yV;have aiM:=zQ;clear yU yV zQ ho hb hg hat
      refine hK.out _ _ ⟨(aA iE.out 0).trans rfl,(aA iE.out 1).trans rfl,(aA iE.out 2).trans rfl⟩ ?_;clear hK K;refine no (a':=?_) ?_ ?_
      rotate_left
      ·show Act.put _ (some 41) _=_
       simp only[Act.put,zN,zO,l_c,jk,kU];rfl
      repeat refine BN ?_
      refine rA Tryz.func105 (rY.calls (cu (Kd.aN uw.out HB.out)) xk.out A50.out) ?_;intro nd;refine⟨sx,?_⟩;repeat refine BN ?_
      refine on ?_;try go_wp2
      go_ret2;exact⟨_,er,ur aiM.out,bb⟩
     ·have avP:=beq_eq_false_iff_ne.mpr c49;have avQ:=bne_iff_ne.mpr c49;have aHl:¬(ay=[]):=fun h_=>c49 (by rw[h_];rfl)
      obtain⟨rfl,rfl⟩:=s2 H;try go_wp2_with (first|((with_reducible refine dR (b:= .append) (xs:=#[.tmp 28, .tmp 29]) rfl ?_);(try(refine l9 (by rfl) ?_;dsimp only));at_builtin;refine Kd.qE Kd.string (w0:=w) w.heap.size rfl (.tmp 28) (.tmp 29) 23 9 (.string ⟨#[]⟩) 16 rfl Tryz.underlying23 info9 rfl (by decide) (by omega) amD aiD (⟨#[]⟩:ByteArray) [.string (⟨#[]⟩:ByteArray)] (fun _=>True) (fun _=>False) rfl rfl ?aP (fun _ hk=>hk.elim) ?aF ?aO ?aB ?aS ?aL ?_;(case aP=>exact rfl);(case aB=>exact bb);(case aF=>exact(fun _ _=>trivial));(case aO=>exact(ur l7.out));(case aS=>exact(aj bb));(case aL=>have:=aaj.out;omega);intro Ue w56 ho hb hg hat;rw[←aiF.out]at ho;have xC:=ak (ho);replace iE:=ak (bP (g:=CS) (o:= .cells #[.slice ig bD.length iq, .slice gK bf.length gQ, .slice fM ay.length dO] 28 (0,0)) (ub iE.out) hg (Kd.qc l7.out iE.out (by decide)));replace HB:=ak (hb);clear ho hb hg hat l7;have z57:=iJ iE.out)|(refine gB Tryz.func101 (lu.calls (cu (Kd.aN qC.out HB.out)) rD.out (cu (Kd.aN uw.out HB.out)) xk.out (cu (Kd.aN jW.out HB.out)) oC.out ?DT A11.out) ?_;(case DT=>first|exact HG.out|exact MaxOk.below HG.out bb|(repeat(first|exact HG.out|apply MaxOk.drewN|apply MaxOk.drew)));intro w58 hb;replace xC:=rb xC hb;replace iE:=kb iE hb;replace HB:=bz HB hb;clear hb))
      replace xC:=ak (Kd.lQ xC.out);replace iE:=ak (gU iE.out);replace HB:=ak (fZ HB.out);refine ro [3] [0,1,4,2,5,6,7,3,8,9,10,11,12,13,14] (fun w'=>w'.cell? ⟨CS,0,none⟩=some (.slice ig bD.length iq)∧w'.cell? ⟨CS,1,none⟩=some (.slice gK bf.length gQ)∧w'.cell? ⟨CS,2,none⟩=some (.slice fM ay.length dO)) ⟨(aA iE.out 0).trans rfl,(aA iE.out 1).trans rfl,(aA iE.out 2).trans rfl⟩ ?_
      generalize w58.drew=w59 at xC iE HB⊢
      repeat(first|refine BN ?_|refine Yd ?_)
      refine ld (N:=some 41) (gk.trans rfl) rfl rfl (fun K hK=>?_);refine Kd.vI Kd.string (w0:=w) w.heap.size (by rfl) (.tmp 38) (.tmp 40) 23 9 (.string ⟨#[]⟩) 16 rfl Tryz.underlying23 info9 rfl (by decide) (by omega) Ue NI bf _ _ _ (fun _=>True) (fun _=>False) rfl rfl ?aO ?aR (fun _ _ h=>h) (fun _ h=>h.elim) ?aF ?aB ?aS ?aL ?_
      (case aR=>repeat(first|exact(Kd.aN uw.out HB.out)|(with_reducible refine Kd.lY ?_ _)|(with_reducible refine Kd.lZ ?_ _)|(with_reducible refine Kd.pX ?_)))
      (case aB=>exact bb)
      (case aF=>exact(fun _ _=>trivial))
      (case aO=>exact(ur xC.out))
      (case aS=>exact(aj bb))
      (case aL=>have:=aoy.out;omega);intro aEb Wy ho hb hg hat
      rw[←aoz.out]at ho;have yU:=ak (bP (g:=CS) (o:= .cells #[.slice ig bD.length iq, .slice gK bf.length gQ, .slice fM ay.length dO] 28 (0,0)) (ub iE.out) hg (Kd.qc xC.out iE.out (by decide)));have yV:=ak (hb);have zQ:=ak (ho);clear iE HB xC;have iE:=yU;have HB:=yV;have aiM:=zQ;clear yU yV zQ ho hb hg hat
      refine hK.out _ _ ⟨(aA iE.out 0).trans rfl,(aA iE.out 1).trans rfl,(aA iE.out 2).trans rfl⟩ ?_;clear hK K;refine no (a':=?_) ?_ ?_
      rotate_left
      ·show Act.put _ (some 41) _=_
       simp only[Act.put,zN,zO,l_c,jk,kU];rfl
      repeat(first|refine BN ?_|refine Yd ?_)
      refine on ?_;try go_wp2
      go_ret2;exact⟨_,er,ur aiM.out,bb⟩
def mg.f (k:Nat) (bD:List (fO)) (bf:List ByteArray) (ay:List (jT)):Option (Bool):=(aT.f k bD bf ay 3).bind fun avR=>(some avR.2)
theorem mg.calls {k iq gQ dO:Nat} {ig gK fM:Option Addr} {bD:List (fO)} {bf:List ByteArray} {ay:List (jT)} {r:Bool} {w:World} (mZ:Kd.C oz w ig bD.length bD) (m_:bD.length≤iq) (ng:Kd.C Kd.string w gK bf.length bf) (ni:bf.length≤gQ) (jU:Kd.C k28 w fM ay.length ay) (jV:ay.length≤dO) (EK:MaxOk w) (h:mg.f k bD bf ay=some r):
  Calls Tryz.prog 26 #[.agg #[.slice ig bD.length iq, .slice gK bf.length gQ, .slice fM ay.length dO]] w fun e w'=>e= .returned (.bool r)∧Below w.heap.size w w':=by
 have Eu:=Tryz.underlying28;have qC:=ak mZ;have rD:=ak m_;clear mZ m_;have uw:=ak ng;have xk:=ak ni;clear ng ni;have jW:=ak jU;have oC:=ak jV;clear jU jV;have HG:=ak EK;clear EK;have HB:=ak (Below.refl w.heap.size w);unfold mg.f at h;have H:=h;clear h;replace H:=bd H;obtain⟨⟨aEc,aEd⟩,A2,H⟩:=H
 (try dsimp only at H);obtain rfl:=s1 H;go_enter Tryz.func26,Tryz.ntmps26;go_wp2_with (first|(refine bX HB 1 #[.slice ig bD.length iq, .slice gK bf.length gQ, .slice fM ay.length dO] 28 ?_;intro aHm w3 aiN aHn hb;replace HB:=bs HB hb;clear hb;have z4:=iJ aiN.out)|(refine gV Tryz.func66 (aT.calls k _ _ bD _ _ bf _ _ ay 3 aEc aEd _ (cu (Kd.aN qC.out HB.out)) rD.out (cu (Kd.aN uw.out HB.out)) xk.out (cu (Kd.aN jW.out HB.out)) oC.out ?DT A2.out) ?_;(case DT=>first|exact HG.out|exact MaxOk.below HG.out bb|(repeat(first|exact HG.out|apply MaxOk.drewN|apply MaxOk.drew)));rintro aKW w5 ⟨ho0,hb⟩;have aHo:=ak (Kd.aG ho0 (aj bb));replace aiN:=kb aiN hb;replace HB:=bz HB hb;clear hb;(try clear ho0)))
 go_ret;exact⟨er,bb⟩
def jZ.l0:Nat→List Int→Int→Int→List (fO)→List ByteArray→List (jT)→Option ((List (fO))×List ByteArray×(List (jT))×Bool)
 |0,_,_,_,_,_,_=>none
 |k+1,x12,GI,x14,amG,amH,JK=>if x14<GI then(if 0≤x14 then(if x14<(x12.length:Int)then(if(rd x12 x14)<0 then(some (([]:List (fO)),([]:List ByteArray),([]:List (jT)),false))else(if(rd x12 x14)≥(JK.length:Int)then(some (([]:List (fO)),([]:List ByteArray),([]:List (jT)),false))else(if 0≤(rd x12 x14)then(if(rd x12 x14)<(JK.length:Int)then(jZ.l0 k x12 GI (wrap64 (x14+1)) ((au JK (rd x12 x14)).f0) ((au JK (rd x12 x14)).f1) ((au JK (rd x12 x14)).f2))else(none))else(none))))else(none))else(none))else((cZ.f k amG amH JK).bind fun aiO=>(some (aiO.1,aiO.2.1,aiO.2.2,true)))
def jZ.f (k:Nat) (bD:List (fO)) (bf:List ByteArray) (ay:List (jT)) (l1:List Int):Option ((List (fO))×List ByteArray×(List (jT))×Bool):=(mg.f k bD bf ay).bind fun avS=>(if avS=true then(jZ.l0 k l1 (l1.length:Int) 0 bD bf ay)else(some (([]:List (fO)),([]:List ByteArray),([]:List (jT)),false)))
theorem jZ.calls {k iq gQ dO c1:Nat} {ig gK fM A1:Option Addr} {bD r1:List (fO)} {bf r2:List ByteArray} {ay r3:List (jT)} {l1:List Int} {r4:Bool} {w:World} (DU:Nat→Prop) (DV:Nat→Prop) (DW:Nat→Prop) (aiP:Kd.V oz 69 w w.heap.size (fun k_=>DU k_) (.slice ig bD.length iq) bD) (aiQ:Kd.V Kd.string 9 w w.heap.size (fun k_=>DV k_) (.slice gK bf.length gQ) bf) (aiR:Kd.V k28 28 w w.heap.size (fun k_=>DW k_) (.slice fM ay.length dO) ay) (hr1:Kd.C (Kd.int .i64) w A1 l1.length l1) (hc1:l1.length≤c1) (EK:MaxOk w) (h:jZ.f k bD bf ay l1=some (r1,r2,r3,r4)):
  Calls Tryz.prog 43 #[.agg #[.slice ig bD.length iq, .slice gK bf.length gQ, .slice fM ay.length dO], .slice A1 l1.length c1] w fun e w'=>∃o7 AL DI:Value,e= .returned (.tuple #[.agg #[o7,AL,DI], .bool r4])∧Kd.R oz 69 w' w.heap.size (fun k_=>(w.heap.size≤k_)) o7 r1∧Kd.R Kd.string 9 w' w.heap.size (fun k_=>(w.heap.size≤k_)) AL r2∧Kd.R k28 28 w' w.heap.size (fun k_=>(w.heap.size≤k_)∧some k_≠(o7:Value).ownBlock∧some k_≠(AL:Value).ownBlock) DI r3∧Below w.heap.size w w':=by
 have Eu:=Tryz.underlying28;have qF:=ak (show Kd.V oz 69 w w.heap.size (fun k_=>((DU k_∨DV k_∨DW k_)∨w.heap.size≤k_)) (.slice ig bD.length iq) bD from Kd.lJ aiP (fun k_ hk=> .inl (.inl hk)));have qG:=ak (show Kd.V Kd.string 9 w w.heap.size (fun k_=>((DU k_∨DV k_∨DW k_)∨w.heap.size≤k_)) (.slice gK bf.length gQ) bf from Kd.lJ aiQ (fun k_ hk=> .inl (.inr (.inl hk))));have qH:=ak (show Kd.V k28 28 w w.heap.size (fun k_=>((DU k_∨DV k_∨DW k_)∨w.heap.size≤k_)) (.slice fM ay.length dO) ay from Kd.lJ aiR (fun k_ hk=> .inl (.inr (.inr hk))));have HR1:=ak hr1;have HC1:=ak hc1;clear hr1 hc1;have HG:=ak EK;clear EK;have HB:=ak (Below.refl w.heap.size w);unfold jZ.f at h;have H:=h;clear h;replace H:=bd H;obtain⟨avS,A3,H⟩:=H;replace H:=sb H;rcases H with⟨rfl,H⟩|⟨rfl,H⟩
 ·have H':=ak H;clear H;go_enter Tryz.func43,Tryz.ntmps43;go_wp2_with (first|(refine gG 2 ?_;refine bY HB 2 #[.slice ig bD.length iq, .slice gK bf.length gQ, .slice fM ay.length dO] 28 ?_;intro wL w5 xE avT hg hb;replace qF:=ak (Kd.nH (Kd.lK (by(with_reducible repeat(first|apply Kd.iM|apply Kd.iH|apply Kd.iF));exact qF.out) wL (Nat.le_of_eq hg.symm)) hb);replace qG:=ak (Kd.nH (Kd.lK (by(with_reducible repeat(first|apply Kd.iM|apply Kd.iH|apply Kd.iF));exact qG.out) wL (Nat.le_of_eq hg.symm)) hb);replace qH:=ak (Kd.nH (Kd.lK (by(with_reducible repeat(first|apply Kd.iM|apply Kd.iH|apply Kd.iF));exact qH.out) wL (Nat.le_of_eq hg.symm)) hb);replace HB:=bs HB hb;clear hb hg)|(refine gG 4 ?_;refine bY HB 4 #[.slice none 0 0, .slice none 0 0, .slice none 0 0] 28 ?_;intro CU w6 EM avU hg hb;have AX:=vT xE hg;have AY:=vU xE hg;replace qF:=ak (Kd.nH (Kd.lK (by(with_reducible repeat(first|apply Kd.iM|apply Kd.iH|apply Kd.iF));exact qF.out) CU (Nat.le_of_eq hg.symm)) hb);replace qG:=ak (Kd.nH (Kd.lK (by(with_reducible repeat(first|apply Kd.iM|apply Kd.iH|apply Kd.iF));exact qG.out) CU (Nat.le_of_eq hg.symm)) hb);replace qH:=ak (Kd.nH (Kd.lK (by(with_reducible repeat(first|apply Kd.iM|apply Kd.iH|apply Kd.iF));exact qH.out) CU (Nat.le_of_eq hg.symm)) hb);replace xE:=kb xE hb;replace HB:=bz HB hb;clear hb hg;have avV:=AX.out;have avW:=AY.out;have z8:=iJ xE.out)|(refine gB Tryz.func26 (mg.calls (cu ((Kd.iG qF.out).2.2)) ((Kd.iG qF.out).2.1) (cu ((Kd.iG qG.out).2.2)) ((Kd.iG qG.out).2.1) (cu ((Kd.iG qH.out).2.2)) ((Kd.iG qH.out).2.1) ?DT A3.out) ?_;(case DT=>first|exact HG.out|exact MaxOk.below HG.out bb|(repeat(first|exact HG.out|apply MaxOk.drewN|apply MaxOk.drew)));intro w9 hb;replace qF:=vb qF hb;replace qG:=vb qG hb;replace qH:=vb qH hb;replace xE:=kb xE hb;replace EM:=kb EM hb;replace HB:=bz HB hb;clear hb))
  go_loopg [14] k (fun kq v14 w'=>∃(sS:Int) (Dq:List (fO)) (Dt:List ByteArray) (lG:List (jT)) (Ye:Value) (Yf:Value) (Yg:Value),v14= .int .i64 sS∧ah (jZ.l0 kq l1 (l1.length:Int) sS Dq Dt lG=some (r1,r2,r3,r4))∧ah (kq≤k)∧ah (Kd.V oz 69 w' w.heap.size (fun k_=>((DU k_∨DV k_∨DW k_)∨w.heap.size≤k_)∧k_≠wL∧k_≠CU) Ye Dq)∧ah (Kd.V Kd.string 9 w' w.heap.size (fun k_=>((DU k_∨DV k_∨DW k_)∨w.heap.size≤k_)∧k_≠wL∧k_≠CU) Yf Dt)∧ah (Kd.V k28 28 w' w.heap.size (fun k_=>((DU k_∨DV k_∨DW k_)∨w.heap.size≤k_)∧k_≠wL∧k_≠CU) Yg lG)∧ah (w'.heap[wL]? =some (.cells #[Ye,Yf,Yg] 28 (0,0)))∧ah (w'.heap[CU]? =some (.cells #[(.slice none 0 0),(.slice none 0 0),(.slice none 0 0)] 28 (0,0)))∧ah (Below w.heap.size w w'))
  case atStart=>exact⟨_,_,_,_,_,_,_,rs,H',⟨Nat.le_refl _⟩,⟨by(with_reducible repeat(first|apply Kd.iM|apply Kd.iH|apply Kd.iF));exact Kd.lJ qF.out (fun _ hk=>⟨hk.1.1,⟨hk.1.2,hk.2⟩⟩)⟩,⟨by(with_reducible repeat(first|apply Kd.iM|apply Kd.iH|apply Kd.iF));exact Kd.lJ qG.out (fun _ hk=>⟨hk.1.1,⟨hk.1.2,hk.2⟩⟩)⟩,⟨by(with_reducible repeat(first|apply Kd.iM|apply Kd.iH|apply Kd.iF));exact Kd.lJ qH.out (fun _ hk=>⟨hk.1.1,⟨hk.1.2,hk.2⟩⟩)⟩,⟨ub xE.out⟩,⟨ub EM.out⟩,⟨bb⟩⟩
  case round=>
   clear H';obtain⟨sS,Dq,Dt,lG,Ye,Yf,Yg,rfl,HA,yH,F9,Gf,vV,xE,EM,HB⟩:=hrel
   cases gk with
   |zero=>exact zz HA.out
   |succ k1=>
    obtain⟨H⟩:=HA;simp only[jZ.l0]at H;replace H:=sd H;rcases H with⟨oD,H⟩|⟨oD,H⟩
    ·replace H:=oG H;obtain⟨vk,H⟩:=H;replace H:=oG H;obtain⟨yw,H⟩:=H;replace H:=sd H;rcases H with⟨wM,H⟩|⟨wM,H⟩
     ·obtain⟨rfl,rfl,rfl,rfl⟩:=s4 H;have Uf:=zi sS;have Ug:=zj sS l1.length;obtain⟨aoA,aiS,EN⟩:=Kd.AZ HR1.out sS Uf Ug;cases aiS;replace EN:=cl HB.out EN;replace Uf:=eq_true Uf;replace Ug:=eq_true Ug;have aok:=AY.out;have aol:=AX.out;have z15:=iJ EM.out;go_wp2;refine bodyPost_ret (jf rfl _ _ CU 28 #[.slice none 0 0, .slice none 0 0, .slice none 0 0] (0,0) _ rfl bq Tryz.underlying28 rfl (by kernel_rfl)) rfl ?_;exact⟨_,_,_,er,nx,nx,nx,bb⟩
     ·replace H:=sp H;rcases H with⟨c16,H⟩|⟨c16,H⟩
      ·have zA:decide ((lG.length:Int)≤(rd l1 sS))=true:=decide_eq_true c16;clear c16;obtain⟨rfl,rfl,rfl,rfl⟩:=s4 H;have Uf:=zi sS;have Ug:=zj sS l1.length;obtain⟨aoA,aiS,EN⟩:=Kd.AZ HR1.out sS Uf Ug;cases aiS;replace EN:=cl HB.out EN;replace Uf:=eq_true Uf;replace Ug:=eq_true Ug;have aiT:=AX.out;have aiU:=AY.out;have z18:=iJ xE.out;obtain⟨aEe,aEf,arI⟩:=Kd.BH vV.out;subst arI;have z20:=iJ EM.out;go_wp2;refine bodyPost_ret (jf rfl _ _ CU 28 #[.slice none 0 0, .slice none 0 0, .slice none 0 0] (0,0) _ rfl bq Tryz.underlying28 rfl (by kernel_rfl)) rfl ?_;exact⟨_,_,_,er,nx,nx,nx,bb⟩
      ·have zA:decide ((lG.length:Int)≤(rd l1 sS))=false:=decide_eq_false c16;clear c16;replace H:=oG H;obtain⟨CV,H⟩:=H;replace H:=oG H;obtain⟨EJ,H⟩:=H;have H':=ak H;clear H;have Uf:=zi sS;have Ug:=zj sS l1.length;obtain⟨aoA,aiS,EN⟩:=Kd.AZ HR1.out sS Uf Ug;cases aiS;replace EN:=cl HB.out EN;replace Uf:=eq_true Uf;replace Ug:=eq_true Ug;have aHp:=AX.out;have aHq:=AY.out;have z24:=iJ xE.out;obtain⟨aiV,aiW,acn⟩:=Kd.BH vV.out;subst acn;have amI:=zi (rd l1 sS);have amJ:=zj (rd l1 sS) lG.length;obtain⟨aHr,aco,acp,acr,acs,acu,acv,aEg,amK,amL,amM,ael,aem,aen,aeo,aep,aer⟩:=yT (Kd.iG vV.out).2.2 (rd l1 sS) amI amJ;cases aEg;obtain⟨aHs,arJ,arK,Yh⟩:=Kd.aoB vV.out z28 (rd l1 sS) amI (by first|exact amJ|exact of_decide_eq_true (by assumption)|(have e_:=(Kd.iG vV.out).1;omega));obtain⟨aCA,aCB,aCC,aCD,aCE,aCF,rfl,Yi,Yj,Yk,Yl,Ym,Yn⟩:=Wj arK;have SS:=Yh 0 _ rfl;rw[Nat.add_zero]at SS;replace SS:=Option.some.inj (SS.symm.trans amK);injection SS with IX Uh IY;rw[IX]at Yj;rw[IY]at Yi;have amN:=ak (show Kd.V oz 69 _ w.heap.size _ _ ((au lG (rd l1 sS)).f0)from Kd.VJ Yi Yj);clear IX Uh IY Yj Yi;have SV:=Yh 1 _ rfl;rw[AB _ _ 1 (by omega)]at SV;replace SV:=Option.some.inj (SV.symm.trans amL);injection SV with IX Uh IY;rw[IX]at Yl;rw[IY]at Yk;have amO:=ak (show Kd.V Kd.string 9 _ w.heap.size _ _ ((au lG (rd l1 sS)).f1)from Kd.VJ Yk Yl);clear IX Uh IY Yl Yk;have SX:=Yh 2 _ rfl;rw[AB _ _ 2 (by omega)]at SX;replace SX:=Option.some.inj (SX.symm.trans amM);injection SX with IX Uh IY;rw[IX]at Yn;rw[IY]at Ym;have amP:=ak (show Kd.V k28 28 _ w.heap.size _ _ ((au lG (rd l1 sS)).f2)from Kd.VJ Ym Yn);clear IX Uh IY Yn Ym Yh arJ;have aCG:=ak aem;have aCH:=ak ael;clear aem ael;have aCI:=ak aeo;have aCJ:=ak aen;clear aeo aen;have aCK:=ak aer;have aCL:=ak aep;clear aer aep;replace amI:=eq_true amI;replace amJ:=eq_true amJ;go_wp2;go_roundg k1
       case measure=>exact kl
       case rel=>exact⟨_,_,_,_,_,_,_,rs,H',⟨kl⟩,⟨by(with_reducible repeat(first|apply Kd.iM|apply Kd.iH|apply Kd.iF));exact Kd.lJ (Kd.zY (p:=⟨wL,2,none⟩) (Kd.zY (p:=⟨wL,1,none⟩) (Kd.zY (p:=⟨wL,0,none⟩) (Kd.lJ amN.out (fun k_ hk=>(⟨hk,hk.2.1⟩:_∧k_≠wL))) (fun _ hk=>hk.2) (.slice aco ((au lG (rd l1 sS)).f0).length acp)) (fun _ hk=>hk.2) (.slice acr ((au lG (rd l1 sS)).f1).length acs)) (fun _ hk=>hk.2) (.slice acu ((au lG (rd l1 sS)).f2).length acv)) (fun _ hk=>⟨hk.1.1,⟨hk.1.2.1,hk.1.2.2⟩⟩)⟩,⟨by(with_reducible repeat(first|apply Kd.iM|apply Kd.iH|apply Kd.iF));exact Kd.lJ (Kd.zY (p:=⟨wL,2,none⟩) (Kd.zY (p:=⟨wL,1,none⟩) (Kd.zY (p:=⟨wL,0,none⟩) (Kd.lJ amO.out (fun k_ hk=>(⟨hk,hk.2.1⟩:_∧k_≠wL))) (fun _ hk=>hk.2) (.slice aco ((au lG (rd l1 sS)).f0).length acp)) (fun _ hk=>hk.2) (.slice acr ((au lG (rd l1 sS)).f1).length acs)) (fun _ hk=>hk.2) (.slice acu ((au lG (rd l1 sS)).f2).length acv)) (fun _ hk=>⟨hk.1.1,⟨hk.1.2.1,hk.1.2.2⟩⟩)⟩,⟨by(with_reducible repeat(first|apply Kd.iM|apply Kd.iH|apply Kd.iF));exact Kd.lJ (Kd.zY (p:=⟨wL,2,none⟩) (Kd.zY (p:=⟨wL,1,none⟩) (Kd.zY (p:=⟨wL,0,none⟩) (Kd.lJ amP.out (fun k_ hk=>(⟨hk,hk.2.1⟩:_∧k_≠wL))) (fun _ hk=>hk.2) (.slice aco ((au lG (rd l1 sS)).f0).length acp)) (fun _ hk=>hk.2) (.slice acr ((au lG (rd l1 sS)).f1).length acs)) (fun _ hk=>hk.2) (.slice acu ((au lG (rd l1 sS)).f2).length acv)) (fun _ hk=>⟨hk.1.1,⟨hk.1.2.1,hk.1.2.2⟩⟩)⟩,⟨bq⟩,⟨bq⟩,⟨bb⟩⟩
    ·replace H:=bd H;obtain⟨⟨avX,avY,avZ⟩,A26,H⟩:=H
     (try dsimp only at H);obtain⟨rfl,rfl,rfl,rfl⟩:=s4 H;have adX:=AX.out;have adY:=AY.out;have aia:=iJ xE.out;obtain⟨RV,RX,agM⟩:=Kd.BH F9.out;subst agM;obtain⟨aiX,aiY,agN⟩:=Kd.BH Gf.out;subst agN;obtain⟨agO,agP,agQ⟩:=Kd.BH vV.out;subst agQ;go_wp2_with (refine gL 85 35 Tryz.func85 #[.agg #[.slice RV Dq.length RX, .slice aiX Dt.length aiY, .slice agO lG.length agP]] ?_;(with_reducible refine(cZ.calls k1 _ _ Dq _ _ Dt _ _ lG avX avY avZ _ (cu ((Kd.iG F9.out).2.2)) ((Kd.iG F9.out).2.1) (cu ((Kd.iG Gf.out).2.2)) ((Kd.iG Gf.out).2.1) (cu ((Kd.iG vV.out).2.2)) ((Kd.iG vV.out).2.1) A26.out).mono ?_);rintro e w32 ⟨aKX,aKY,aKZ,rfl,ho0,ho1,ho2,hb⟩;refine⟨_,rfl,?_⟩;have av1:=ak (Kd.aG (Kd.Qe (M:=fun k_=>(w.heap.size≤k_)) ho0 (aj bb) (fun k_ h_=>h_)) (aj bb));have av2:=ak (Kd.aG (Kd.Qe (M:=fun k_=>(w.heap.size≤k_)) ho1 (aj bb) (fun k_ h_=>h_)) (aj bb));have av3:=ak (Kd.aG (Kd.kF (Kd.kF (Kd.Qe (M:=fun k_=>(w.heap.size≤k_)) ho2 (aj bb) (fun k_ h_=>h_)) (g:=wL) (o:= .cells #[.slice RV Dq.length RX, .slice aiX Dt.length aiY, .slice agO lG.length agP] 28 (0,0)) (ub xE.out)) (g:=CU) (o:= .cells #[.slice none 0 0, .slice none 0 0, .slice none 0 0] 28 (0,0)) (ub EM.out)) (aj bb));replace F9:=ak (Kd.lJ (Kd.wB (Kd.wB (Kd.wB (Kd.WA (by(with_reducible repeat(first|apply Kd.iM|apply Kd.iH|apply Kd.iF));exact F9.out) hb) (Kd.b_ ho0)) (Kd.b_ ho1)) (Kd.b_ ho2)) (fun _ h_=>h_.1));replace Gf:=ak (Kd.lJ (Kd.wB (Kd.wB (Kd.wB (Kd.WA (by(with_reducible repeat(first|apply Kd.iM|apply Kd.iH|apply Kd.iF));exact Gf.out) hb) (Kd.b_ ho0)) (Kd.b_ ho1)) (Kd.b_ ho2)) (fun _ h_=>h_.1));replace vV:=ak (Kd.lJ (Kd.wB (Kd.wB (Kd.wB (Kd.WA (by(with_reducible repeat(first|apply Kd.iM|apply Kd.iH|apply Kd.iF));exact vV.out) hb) (Kd.b_ ho0)) (Kd.b_ ho1)) (Kd.b_ ho2)) (fun _ h_=>h_.1));replace xE:=kb xE hb;replace EM:=kb EM hb;replace HB:=bz HB hb;clear hb;(try clear ho0);(try clear ho1);(try clear ho2);obtain⟨PO,PS,XI⟩:=Kd.aH av1.out;subst XI;have z34:=iJ EM.out;obtain⟨amg,amh,abP⟩:=Kd.aH av2.out;subst abP;obtain⟨aap,aaq,VK⟩:=Kd.aH av3.out;subst VK)
     refine bodyPost_ret (jf rfl _ _ CU 28 #[.slice PO avX.length PS, .slice amg avY.length amh, .slice aap avZ.length aaq] (0,0) _ rfl bq Tryz.underlying28 rfl (by kernel_rfl)) rfl ?_;exact⟨_,_,_,er,rr,rr,rr,bb⟩
 ·obtain⟨rfl,rfl,rfl,rfl⟩:=s4 H;go_enter Tryz.func43,Tryz.ntmps43;go_wp2_with (first|(refine gG 2 ?_;refine bY HB 2 #[.slice ig bD.length iq, .slice gK bf.length gQ, .slice fM ay.length dO] 28 ?_;intro wL w37 xE avT hg hb;replace qF:=ak (Kd.nH (Kd.lK (by(with_reducible repeat(first|apply Kd.iM|apply Kd.iH|apply Kd.iF));exact qF.out) wL (Nat.le_of_eq hg.symm)) hb);replace qG:=ak (Kd.nH (Kd.lK (by(with_reducible repeat(first|apply Kd.iM|apply Kd.iH|apply Kd.iF));exact qG.out) wL (Nat.le_of_eq hg.symm)) hb);replace qH:=ak (Kd.nH (Kd.lK (by(with_reducible repeat(first|apply Kd.iM|apply Kd.iH|apply Kd.iF));exact qH.out) wL (Nat.le_of_eq hg.symm)) hb);replace HB:=bs HB hb;clear hb hg)|(refine gG 4 ?_;refine bY HB 4 #[.slice none 0 0, .slice none 0 0, .slice none 0 0] 28 ?_;intro CU w38 EM avU hg hb;have AX:=vT xE hg;have AY:=vU xE hg;replace qF:=ak (Kd.nH (Kd.lK (by(with_reducible repeat(first|apply Kd.iM|apply Kd.iH|apply Kd.iF));exact qF.out) CU (Nat.le_of_eq hg.symm)) hb);replace qG:=ak (Kd.nH (Kd.lK (by(with_reducible repeat(first|apply Kd.iM|apply Kd.iH|apply Kd.iF));exact qG.out) CU (Nat.le_of_eq hg.symm)) hb);replace qH:=ak (Kd.nH (Kd.lK (by(with_reducible repeat(first|apply Kd.iM|apply Kd.iH|apply Kd.iF));exact qH.out) CU (Nat.le_of_eq hg.symm)) hb);replace xE:=kb xE hb;replace HB:=bz HB hb;clear hb hg;have avL:=AX.out;have avM:=AY.out;have z40:=iJ xE.out)|(refine gB Tryz.func26 (mg.calls (cu ((Kd.iG qF.out).2.2)) ((Kd.iG qF.out).2.1) (cu ((Kd.iG qG.out).2.2)) ((Kd.iG qG.out).2.1) (cu ((Kd.iG qH.out).2.2)) ((Kd.iG qH.out).2.1) ?DT A3.out) ?_;(case DT=>first|exact HG.out|exact MaxOk.below HG.out bb|(repeat(first|exact HG.out|apply MaxOk.drewN|apply MaxOk.drew)));intro w41 hb;replace qF:=vb qF hb;replace qG:=vb qG hb;replace qH:=vb qH hb;replace xE:=kb xE hb;replace EM:=kb EM hb;replace HB:=bz HB hb;clear hb;have z42:=iJ EM.out))
  refine bodyPost_ret (jf rfl _ _ CU 28 #[.slice none 0 0, .slice none 0 0, .slice none 0 0] (0,0) _ rfl bq Tryz.underlying28 rfl (by kernel_rfl)) rfl ?_;exact⟨_,_,_,er,nx,nx,nx,bb⟩
/-- A state of type 109 at block g of W; what its slices lead to came in by w0. -/
def aJ (w0 W:World) (g:Nat) (f0:List Int) (f1:Int):Prop:=∃A0 c0,W.heap[g]? =some (.cells #[.slice A0 f0.length c0, .int .i64 f1] 109 (0,0))∧w0.heap.size≤g∧Kd.C (Kd.int .u8) w0 A0 f0.length f0
theorem aJ.grown {w0 W:World} {g:Nat} {f0:List Int} {f1:Int} {W1:World} {row:Option Nat} (h:aJ w0 W g f0 f1) (hw:W.grownBy W1 row) (hne:some g≠row):aJ w0 W1 g f0 f1:=by
 obtain⟨A0,c0,hb,hg,hr0⟩:=h;exact⟨A0,c0,bP hb hw hne,hg,hr0⟩
theorem aJ.fresh {w0 W:World} {g:Nat} {f0:List Int} {f1:Int} (h:aJ w0 W g f0 f1):∀k,W.heap.size≤k→k≠g:=by
 obtain⟨A0,c0,hb,hg,hr0⟩:=h;exact Kd.xq hb
theorem aJ.kept {w0 W:World} {g:Nat} {f0:List Int} {f1:Int} {W1:World} {S:Nat→Prop} (h:aJ w0 W g f0 f1) (hk:Kept W W1 S) (hne:¬S g):aJ w0 W1 g f0 f1:=by
 obtain⟨A0,c0,hb,hg,hr0⟩:=h;exact⟨A0,c0,aiZ hb hk hne,hg,hr0⟩
theorem aJ.below {w0 W:World} {g:Nat} {f0:List Int} {f1:Int} {W1:World} (h:aJ w0 W g f0 f1) (hw:Below W.heap.size W W1):aJ w0 W1 g f0 f1:=h.grown (IZ hw none) (by simp)
theorem aJ.alloc {w0 W:World} {g:Nat} {f0:List Int} {f1:Int} (h:aJ w0 W g f0 f1) (o:Obj):aJ w0 (W.alloc o) g f0 f1:=h.below (qI (Below.refl _ _) o)
theorem aJ.drewN {w0 W:World} {g:Nat} {f0:List Int} {f1:Int} (h:aJ w0 W g f0 f1) (m:Nat):aJ w0 (W.drewN m) g f0 f1:=h
theorem aJ.drew {w0 W:World} {g:Nat} {f0:List Int} {f1:Int} (h:aJ w0 W g f0 f1):aJ w0 W.drew g f0 f1:=h
theorem aJ.at_ {w0 W:World} {g:Nat} {f0:List Int} {f1:Int} {w':World} {m:Nat} (hq:W.drewN m=w') (h:aJ w0 W g f0 f1):aJ w0 w' g f0 f1:=by subst hq;exact aJ.drewN h m
theorem aJ.apart {w0 W:World} {g:Nat} {f0:List Int} {f1:Int} {α:Type} {d:Kd α} {e:Nat} {base:Nat} {ok:Nat→Prop} {v:Value} {xs:List α} (h:aJ w0 W g f0 f1) (ho:d.R e W base ok v xs) (ht:∀q,q∈e:: d.E→q≠109):d.R e W base (fun k=>ok k∧k≠g) v xs:=by
 obtain⟨A0,c0,hb,hg,hr0⟩:=h;exact Kd.jS ho hb ht
theorem aJ.own_ne {w0 W:World} {g:Nat} {f0:List Int} {f1:Int} {α:Type} {d:Kd α} {e:Nat} {base:Nat} {ok:Nat→Prop} {v:Value} {xs:List α} (h:aJ w0 W g f0 f1) (ho:d.R e W base ok v xs) (ht:e≠109):some g≠v.ownBlock:=by
 obtain⟨A0,c0,hb,hg,hr0⟩:=h;exact Kd.qc ho hb ht
theorem aJ.lt {w0 W:World} {g:Nat} {f0:List Int} {f1:Int} (h:aJ w0 W g f0 f1):g<W.heap.size:=by
 obtain⟨A0,c0,hb,hg,hr0⟩:=h;exact wz hb
theorem aJ.ge {w0 W:World} {g:Nat} {f0:List Int} {f1:Int} (h:aJ w0 W g f0 f1):w0.heap.size≤g:=by
 obtain⟨A0,c0,hb,hg,hr0⟩:=h;exact hg
theorem aJ.Qg {w0 W:World} {g:Nat} {f0:List Int} {f1:Int} {a:Nat} {cs:Array Value} {t:TypeId} {fr:Nat×Nat} (h:aJ w0 W g f0 f1) (hb2:W.heap[a]? =some (.cells cs t fr)) (ht:t≠109):g≠a:=by
 obtain⟨A0,c0,hb,hg,hr0⟩:=h;rintro rfl;rw[hb]at hb2;injection hb2 with hb2;injection hb2 with _ ht2;exact ht ht2.symm
theorem aJ.far {w0 W:World} {g:Nat} {f0:List Int} {f1:Int} {p:Addr} (h:aJ w0 W g f0 f1) (hne:g≠p.block) (u:Value):aJ w0 (W.setCell p u) g f0 f1:=by
 obtain⟨A0,c0,hb,hg,hr0⟩:=h;exact⟨A0,c0,SY hb hne u,hg,hr0⟩
theorem GN {W:World} {g:Nat} {A0:Option Addr} {c0:Nat} {f0:List Int} {f1:Int} (h:W.heap[g]? =some (.cells #[.slice A0 f0.length c0, .int .i64 f1] 109 (0,0))):W.cell? ⟨g,0,none⟩=some (.slice A0 f0.length c0):=(aA h 0).trans rfl
theorem GR {W:World} {g:Nat} {A0:Option Addr} {c0:Nat} {f0:List Int} {f1:Int} (h:W.heap[g]? =some (.cells #[.slice A0 f0.length c0, .int .i64 f1] 109 (0,0))):W.cell? ⟨g,1,none⟩=some (.int .i64 f1):=(aA h 1).trans rfl
theorem aJ.av4 {w0 W:World} {g:Nat} {f0:List Int} {f1:Int} (h:aJ w0 W g f0 f1) (x:Int):aJ w0 (W.setCell ⟨g,1,none⟩ (.int .i64 x)) g f0 x:=by
 obtain⟨A0,c0,hb,hg,hr0⟩:=h;exact⟨A0,c0,by simpa using Yo hb 1 (.int .i64 x),hg,hr0⟩
theorem aJ.new (w0 W:World) (A0:Option Addr) (c0:Nat) (f0:List Int) (f1:Int) (hB:Below w0.heap.size w0 W) (hr0:Kd.C (Kd.int .u8) w0 A0 f0.length f0):aJ w0 (W.alloc (.cells #[.slice A0 f0.length c0, .int .i64 f1] 109)) W.heap.size f0 f1:=⟨A0,c0,by simpa using heap_alloc_new W _,hB.size,hr0⟩
/-! words on the state -/
theorem pR {p:Prop} (h:p:=by repeat(first|(with_reducible first|exact ah.out (by assumption)|apply aJ.alloc|apply aJ.drewN|apply aJ.drew|apply aJ.av4|refine aJ.far ?_ (ah.out (by assumption)) _)|exact ah.out (by assumption))):p:=h
theorem oW {p:Prop} (h:p:=by repeat(first|(with_reducible first|exact ah.out (by assumption)|apply qI|apply uM|apply fZ|refine xY ?_ (aJ.ge (ah.out (by assumption)))|refine xY ?_ (ah.out (by assumption)))|exact ah.out (by assumption))):p:=h
theorem bS {P:Program} {ops:Array Oper} {o:Oper} {rest:List Oper} {a:Act} {Q:Exit→Act→World→Prop} {w0 w W c1 c2 c3:World} {g:Nat} {f0:List Int} {f1 f2:Int} (_HI:ah (aJ w0 c1 g f0 f1)) (_HK:ah (aI w c2 g none)) (_HB:ah (Below w0.heap.size w0 c3)) (HW:ah (w0.heap.size≤w.heap.size)) (N:Nat) (cs:Array Value) (t:TypeId)
  (h:∀b w1,ah (w1.heap[b]? =some (.cells cs t (0,0)))→ah (w.heap.size≤b)→ah (w0.heap.size≤b)→ah (g≠b)→ah (b≠g)→b=W.heap.size→Below W.heap.size W w1→ah (aJ w0 w1 g f0 f2)→ah (aI w w1 g none)→ah (Below w0.heap.size w0 w1)→wpList P ops Q rest (a.put o.dst (.pointer (some ⟨b,0,none⟩))) w1)
  (hd:o.dst=some N:=by with_reducible rfl) (hg:o.guard=none:=by with_reducible rfl) (hr:(execOp a.eval o).run P W= .ok (.value (.pointer (some ⟨W.heap.size,0,none⟩))) (W.alloc (.cells cs t (0,0))):=by first|(go_simp;done)|(go_simp;rfl)) (hI:aJ w0 W g f0 f2:=by exact pR) (hK:aI w W g none:=by exact kk) (hB:Below w0.heap.size w0 W:=by exact oW):wpList P ops Q (o:: rest) a W:=
 bE N cs t (fun b hb w1 h1 hw=>h b w1 ⟨h1⟩ ⟨by rw[hb];exact dK hK⟩ ⟨Nat.le_trans HW.out (by rw[hb];exact dK hK)⟩ ⟨by rw[hb];exact Nat.ne_of_lt hI.lt⟩ ⟨by rw[hb];exact Nat.ne_of_gt hI.lt⟩ hb hw ⟨hI.below hw⟩ ⟨hK.trans (aI.of_below hw g none) (.inl rfl)⟩ ⟨gW hB hw⟩) hd hg hr
theorem ki {α:Type} {d:Kd α} {e base:Nat} {ok:Nat→Prop} {v:Value} {xs:List α} {w0 a b c:World} {g:Nat} {f0:List Int} {f1:Int} (_old:ah (Kd.R d e a base ok v xs)) (hk:aI b c g none) (hI:aJ w0 b g f0 f1:=by exact pR) (h:Kd.R d e b base ok v xs:=by exact rr) (ht:∀q,q∈e:: d.E→q≠109:=by decide):ah (Kd.R d e c base ok v xs):=⟨Kd.aX (Kd.Lm (hI.apart h ht) hk (fun _ h=>h.2)) (fun _ h=>h.1)⟩
theorem kj {α β:Type} {d:Kd α} {e base:Nat} {ok:Nat→Prop} {v:Value} {xs:List α} {w0 a b c:World} {g:Nat} {f0:List Int} {f1:Int} {d':Kd β} {e':Nat} {ok':Nat→Prop} {v':Value} {ys:List β} (_old:ah (Kd.R d e a base ok v xs)) (hk:aI b c g none) (ho:Kd.R d' e' c b.heap.size ok' v' ys) (hI:aJ w0 b g f0 f1:=by exact pR) (h:Kd.R d e b base ok v xs:=by exact rr) (ht:∀q,q∈e:: d.E→q≠109:=by decide):ah (Kd.R d e c base (fun k=>ok k∧some k≠v'.ownBlock) v xs):=⟨Kd.aX (Kd.qX (Kd.Yp (hI.apart h ht) hk) (Kd.b_ ho)) (fun _ h=>h.1)⟩
def rP.f (l0:List Int):Option (List Int×Int):=if(l0.length:Int)>2000 then(if 2000≤(l0.length:Int)then(some (l0.take 2000,0))else(none))else(some (l0,0))
theorem rP.calls {A0:Option Addr} {c0:Nat} {l0 r1:List Int} {r2:Int} {w:World} (w0:World) (hB:Below w0.heap.size w0 w) (hr0:Kd.C (Kd.int .u8) w0 A0 l0.length l0) (hc0:l0.length≤c0) (h:rP.f l0=some (r1,r2)):
  Calls Tryz.prog 55 #[.slice A0 l0.length c0] w fun e w'=>∃g_:Nat,e= .returned (.pointer (some ⟨g_,0,none⟩))∧aJ w0 w' g_ r1 r2∧Below w0.heap.size w0 w'∧Below w.heap.size w w':=by
 have aHt:=Tryz.underlying109;have HR0:=ak hr0;have zx:=ak hc0;clear hr0 hc0;have HBW:=ak (Below.refl w.heap.size w);have HW0:=ak hB.size;have HB:=ak hB;clear hB;unfold rP.f at h;have H:=h;clear h;replace H:=sp H;rcases H with⟨c2,H⟩|⟨c2,H⟩
 ·have qO:decide (2000<(l0.length:Int))=true:=decide_eq_true c2;have zM:decide (2000<l0.length)=true:=decide_eq_true (by omega);clear c2;replace H:=Dc H;obtain⟨iT,zW,H⟩:=H;obtain⟨rfl,rfl⟩:=s2 H;obtain⟨i04,av5,_,av6,_⟩:=info_parts info5;obtain⟨aHu,hA4,hC4⟩:=VL (P:=Tryz.prog) (Value.int .u8) 0 22 5 .i64 Tryz.underlying22 av5 av6 A0 c0 l0 2000 (by omega) (of_decide_eq_true (by assumption)) zx.out;have av7:=ak (Kd.Lp (h1:=fun _=>rfl) (hA4 _ (Kd.GU HR0.out)));have aHv:=ak hC4;clear hA4 hC4 av5 av6;go_enter Tryz.func55,Tryz.ntmps55;go_wp2_with (refine bE 10 #[.slice A0 (l0.take 2000).length c0, .int .i64 0] 109 ?_;intro ai0 hg w5 hbox hb;have av8:=ak (hbox);have aHw:=XG HBW hg;have av9:=ak ((Nat.le_trans HW0.out (by rw[hg];exact(aj (ul HBW.out)):w.heap.size≤ai0):w0.heap.size≤ai0));replace HBW:=ak (gW HBW.out hb);replace HB:=bs HB hb;clear hb hbox hg)
  go_ret;exact⟨_,rfl,(show aJ w0 _ ai0 (l0.take 2000) 0 from⟨_,_,ub av8.out,av9.out,av7.out⟩),oW,bh HBW.out⟩
 ·have qO:decide (2000<(l0.length:Int))=false:=decide_eq_false c2;have zM:decide (2000<l0.length)=false:=decide_eq_false (by omega);clear c2;obtain⟨rfl,rfl⟩:=s2 H;go_enter Tryz.func55,Tryz.ntmps55;go_wp2_with (refine bE 10 #[.slice A0 l0.length c0, .int .i64 0] 109 ?_;intro ai1 hg w6 hbox hb;have av_:=ak (hbox);have aHx:=XG HBW hg;have awc:=ak ((Nat.le_trans HW0.out (by rw[hg];exact(aj (ul HBW.out)):w.heap.size≤ai1):w0.heap.size≤ai1));replace HBW:=ak (gW HBW.out hb);replace HB:=bs HB hb;clear hb hbox hg)
  go_ret;exact⟨_,rfl,(show aJ w0 _ ai1 l0 0 from⟨_,_,ub av_.out,awc.out,HR0.out⟩),oW,bh HBW.out⟩
def dw.j0:Nat→Int→Bool→List Int→Int→Option (Int×Int)
 |0,_,_,_,_=>none
 |k+1,x1,x24,x1000,ql=>if x24=true then(some (0,ql))else(if(wrap64 (ql-1))<(x1000.length:Int)then(if 0≤(wrap64 (ql-1))then(if x1=0 then(none)else(some (Int.tmod (wrap64 (rd x1000 (wrap64 (ql-1)))) x1,ql)))else(none))else(if(x1000.length:Int)=0 then(none)else(if 0≤(Int.tmod (wrap64 (ql-1)) (x1000.length:Int))then(if(Int.tmod (wrap64 (ql-1)) (x1000.length:Int))<(x1000.length:Int)then(if 0≤(Int.tmod (wrap64 ((wrap64 ((wrap64 (ql-1))*7))+3)) (x1000.length:Int))then(if(Int.tmod (wrap64 ((wrap64 ((wrap64 (ql-1))*7))+3)) (x1000.length:Int))<(x1000.length:Int)then(if x1=0 then(none)else(some (Int.tmod (Go.bits .xor .i64 (wrap64 ((wrap64 ((wrap64 ((wrap64 ((wrap64 (rd x1000 (Int.tmod (wrap64 (ql-1)) (x1000.length:Int))))*131))+(wrap64 ((wrap64 (rd x1000 (Int.tmod (wrap64 ((wrap64 ((wrap64 (ql-1))*7))+3)) (x1000.length:Int))))*1117))))+(wrap64 ((wrap64 (ql-1))*29))))+(wrap64 ((wrap64 (Int.tdiv (wrap64 (ql-1)) (x1000.length:Int)))*53)))) (wrap64 (Int.tdiv (wrap64 ((wrap64 ((wrap64 ((wrap64 ((wrap64 (rd x1000 (Int.tmod (wrap64 (ql-1)) (x1000.length:Int))))*131))+(wrap64 ((wrap64 (rd x1000 (Int.tmod (wrap64 ((wrap64 ((wrap64 (ql-1))*7))+3)) (x1000.length:Int))))*1117))))+(wrap64 ((wrap64 (ql-1))*29))))+(wrap64 ((wrap64 (Int.tdiv (wrap64 (ql-1)) (x1000.length:Int)))*53)))) 64))) x1,ql)))else(none))else(none))else(none))else(none))))
def dw.f (k:Nat) (fD:List Int) (kR:Int) (a1:Int):Option (Int×Int):=if a1<1 then(dw.j0 k a1 true fD (wrap64 (kR+1)))else(dw.j0 k a1 ((fD.length:Int)==0) fD (wrap64 (kR+1)))
theorem dw.calls {k g:Nat} {fD:List Int} {kR a1 r1 r2:Int} {w:World} (w0:World) (hI:aJ w0 w g fD kR) (hB:Below w0.heap.size w0 w) (h:dw.f k fD kR a1=some (r1,r2)):
  Calls Tryz.prog 57 #[.pointer (some ⟨g,0,none⟩), .int .i64 a1] w fun e w'=>e= .returned (.int .i64 r1)∧aJ w0 w' g fD r2∧Below w0.heap.size w0 w'∧aI w w' g none:=by
 have HI0:=ak hI;have HK:=ak (aI.refl w g none);have HL:=ak hB.size;clear hI;have HW0:=ak hB.size;have HB:=ak hB;clear hB;unfold dw.f at h;have H:=h;clear h;have Uc:=ak H;clear H;obtain⟨aEh,aEi,amQ,aEj,aEk⟩:=HI0.out;have aiu:=GN amQ;have arL:=GR amQ;have arM:=fF amQ 1;clear amQ aEj;go_enter Tryz.func57,Tryz.ntmps57;go_upto_region 2 with(fail)
 repeat(go_quiet (fail);go_upto_region 2 with(fail))
 go_cut [24] (fun v24 wc=>∃(kq:Nat) (mV:Bool),v24= .bool mV∧ah (dw.j0 kq a1 mV fD (wrap64 (kR+1))=some (r1,r2))∧ah (kq≤k)∧ah (aJ w0 wc g fD (wrap64 (kR+1)))∧ah (aI w wc g none)∧ah (Below w0.heap.size w0 wc))
 case first=>
  have H:=Uc.out;clear Uc;replace H:=sd H;rcases H with⟨nT,H⟩|⟨nT,H⟩
  ·(first|rw[nT]|(simp only[jk,kU];rw[nT])|skip);have H':=ak H;clear H;go_wp2;repeat(go_quiet (fail);try go_wp2)
   go_meet
   case rel=>exact⟨_,_,rs,H',⟨PW⟩,⟨pR⟩,⟨kh HK.out⟩,⟨oW⟩⟩
  ·(first|rw[nT]|(simp only[jk,kU];rw[nT])|skip);have H':=ak H;clear H;obtain⟨aEl,aEm,amR,aEn,aEo⟩:=HI0.out;have aEp:=GN amR;have aEq:=GR amR;have aEr:=fF amR 1;clear amR aEn;go_wp2;repeat(go_quiet (fail);try go_wp2)
   go_meet
   case rel=>exact⟨_,_,rs,H',⟨PW⟩,⟨pR⟩,⟨kh HK.out⟩,⟨oW⟩⟩
 case rest=>
  clear Uc;try clear aiu
  try clear arL
  try clear arM
  obtain⟨kq,mV,rfl,HA,HJ2,HI0,HK,HB⟩:=hcut
  cases kq with
  |zero=>exact zz HA.out
  |succ kj2=>
   obtain⟨H⟩:=HA;simp only[dw.j0]at H;replace H:=sb H;rcases H with⟨rfl,H⟩|⟨rfl,H⟩
   ·obtain⟨rfl,rfl⟩:=s2 H;go_wp2;repeat(go_quiet (fail);try go_wp2)
    go_ret;exact⟨er,pR,oW,kh HK.out⟩
   ·replace H:=sp H;rcases H with⟨c8,H⟩|⟨c8,H⟩
    ·have uG:=decide_eq_true c8
     (try(have F5:decide (((wrap64 (kR+1))-1)<(fD.length:Int))=true:=decide_eq_true (by have h_:=c8;unfold wrap64 at h_;omega)));clear c8;obtain⟨Ui,Lr⟩:∃j_:Int,(wrap64 ((wrap64 (kR+1))-1))=j_:=⟨_,rfl⟩
     replace H:(if 0≤(Ui)then(if a1=0 then(none)else(some (Int.tmod (wrap64 (rd fD (Ui))) a1,(wrap64 (kR+1)))))else(none))=some (r1,r2):=by first|(rw[Lr]at H;exact H)|(simp only[Lr]at H⊢;exact H)
     (try rw[Lr]at uG);have aoC:(IntKind.i64.wrap ((wrap64 (kR+1))-1))=Ui:=(jk _).trans Lr;replace H:=oG H;obtain⟨oD,H⟩:=H;replace H:=sp H;rcases H with⟨c11,H⟩|⟨c11,H⟩
     ·exact absurd H (by simp)
     ·have vk:=beq_eq_false_iff_ne.mpr c11;have Ib:=bne_iff_ne.mpr c11;obtain⟨rfl,rfl⟩:=s2 H;obtain⟨aCM,aCN,aes,awd,amS⟩:=HI0.out;have amB:=GN aes;have aCO:=GR aes;have aCP:=fF aes 1;clear aes awd;have arN:=zi (Ui);have arO:=zj (Ui) fD.length;obtain⟨aHy,aEs,aeu⟩:=Kd.AZ amS (Ui) arN arO;cases aEs;replace aeu:=t_ HB.out aeu;replace arN:=eq_true arN;replace arO:=eq_true arO;go_wp2;repeat(go_quiet (fail);try go_wp2)
      go_ret;exact⟨by first|rfl|(simp[zq,zu]<;>rfl)|(simp only[←Lr];first|rfl|(simp[zq,zu]<;>rfl))|(simp[*,zq,zu]<;>rfl),pR,oW,kh HK.out⟩
    ·have uG:=decide_eq_false c8
     (try(have F5:decide (((wrap64 (kR+1))-1)<(fD.length:Int))=false:=decide_eq_false (by have h_:=c8;unfold wrap64 at h_;omega)));clear c8;replace H:=sp H;rcases H with⟨c13,H⟩|⟨c13,H⟩
     ·exact absurd H (by simp)
     ·have wM:=beq_eq_false_iff_ne.mpr c13;have CW:=bne_iff_ne.mpr c13;have aoD:¬(fD=[]):=fun h_=>c13 (by rw[h_];rfl)
      obtain⟨NW,NY⟩:∃j_:Int,(Int.tmod (wrap64 ((wrap64 (kR+1))-1)) (fD.length:Int))=j_:=⟨_,rfl⟩
      replace H:(if 0≤(NW)then(if(NW)<(fD.length:Int)then(if 0≤(Int.tmod (wrap64 ((wrap64 ((wrap64 ((wrap64 (kR+1))-1))*7))+3)) (fD.length:Int))then(if(Int.tmod (wrap64 ((wrap64 ((wrap64 ((wrap64 (kR+1))-1))*7))+3)) (fD.length:Int))<(fD.length:Int)then(if a1=0 then(none)else(some (Int.tmod (Go.bits .xor .i64 (wrap64 ((wrap64 ((wrap64 ((wrap64 ((wrap64 (rd fD (NW)))*131))+(wrap64 ((wrap64 (rd fD (Int.tmod (wrap64 ((wrap64 ((wrap64 ((wrap64 (kR+1))-1))*7))+3)) (fD.length:Int))))*1117))))+(wrap64 ((wrap64 ((wrap64 (kR+1))-1))*29))))+(wrap64 ((wrap64 (Int.tdiv (wrap64 ((wrap64 (kR+1))-1)) (fD.length:Int)))*53)))) (wrap64 (Int.tdiv (wrap64 ((wrap64 ((wrap64 ((wrap64 ((wrap64 (rd fD (NW)))*131))+(wrap64 ((wrap64 (rd fD (Int.tmod (wrap64 ((wrap64 ((wrap64 ((wrap64 (kR+1))-1))*7))+3)) (fD.length:Int))))*1117))))+(wrap64 ((wrap64 ((wrap64 (kR+1))-1))*29))))+(wrap64 ((wrap64 (Int.tdiv (wrap64 ((wrap64 (kR+1))-1)) (fD.length:Int)))*53)))) 64))) a1,(wrap64 (kR+1)))))else(none))else(none))else(none))else(none))=some (r1,r2):=by first|(rw[NY]at H;exact H)|(simp only[NY]at H⊢;exact H)
      replace H:=oG H;obtain⟨yx,H⟩:=H;replace H:=oG H;obtain⟨zA,H⟩:=H;obtain⟨acw,ai2⟩:∃j_:Int,(Int.tmod (wrap64 ((wrap64 ((wrap64 ((wrap64 (kR+1))-1))*7))+3)) (fD.length:Int))=j_:=⟨_,rfl⟩
      replace H:(if 0≤(acw)then(if(acw)<(fD.length:Int)then(if a1=0 then(none)else(some (Int.tmod (Go.bits .xor .i64 (wrap64 ((wrap64 ((wrap64 ((wrap64 ((wrap64 (rd fD (NW)))*131))+(wrap64 ((wrap64 (rd fD (acw)))*1117))))+(wrap64 ((wrap64 ((wrap64 (kR+1))-1))*29))))+(wrap64 ((wrap64 (Int.tdiv (wrap64 ((wrap64 (kR+1))-1)) (fD.length:Int)))*53)))) (wrap64 (Int.tdiv (wrap64 ((wrap64 ((wrap64 ((wrap64 ((wrap64 (rd fD (NW)))*131))+(wrap64 ((wrap64 (rd fD (acw)))*1117))))+(wrap64 ((wrap64 ((wrap64 (kR+1))-1))*29))))+(wrap64 ((wrap64 (Int.tdiv (wrap64 ((wrap64 (kR+1))-1)) (fD.length:Int)))*53)))) 64))) a1,(wrap64 (kR+1)))))else(none))else(none))=some (r1,r2):=by first|(rw[ai2]at H;exact H)|(simp only[ai2]at H⊢;exact H)
      replace H:=oG H;obtain⟨CQ,H⟩:=H;replace H:=oG H;obtain⟨DR,H⟩:=H;replace H:=sp H;rcases H with⟨c20,H⟩|⟨c20,H⟩
      ·exact absurd H (by simp)
      ·have Rf:=beq_eq_false_iff_ne.mpr c20;have aar:=bne_iff_ne.mpr c20;obtain⟨rfl,rfl⟩:=s2 H;obtain⟨aCQ,aCR,aev,awe,aew⟩:=HI0.out;have aCS:=GN aev;have aCT:=GR aev;have aCU:=fF aev 1;clear aev awe;have arP:=zi (NW);have arQ:=zj (NW) fD.length;obtain⟨awf,aEt,aex⟩:=Kd.AZ aew (NW) arP arQ;cases aEt;replace aex:=t_ HB.out aex;replace arP:=eq_true arP;replace arQ:=eq_true arQ;have arR:=zi (acw);have arS:=zj (acw) fD.length;obtain⟨awg,aEu,aey⟩:=Kd.AZ aew (acw) arR arS;obtain rfl:awf=awg:=(by injection aEu)
       replace aey:=t_ HB.out aey;replace arR:=eq_true arR;replace arS:=eq_true arS;go_wp2;repeat(go_quiet (fail);try go_wp2)
       go_ret;exact⟨by first|rfl|(simp[zq,zu]<;>rfl)|(simp only[←NY,←ai2];first|rfl|(simp[zq,zu]<;>rfl))|(simp[*,zq,zu]<;>rfl),pR,oW,kh HK.out⟩
def fK.f (k:Nat) (fD:List Int) (kR:Int) (l1:List ByteArray):Option (ByteArray×Int):=(dw.f k fD kR (l1.length:Int)).bind fun aez=>(if 0≤aez.1 then(if aez.1<(l1.length:Int)then(some (qg ByteArray.empty l1 aez.1,aez.2))else(none))else(none))
theorem fK.calls {k g c1:Nat} {fD:List Int} {kR r2:Int} {A1:Option Addr} {l1:List ByteArray} {r1:ByteArray} {w:World} (w0:World) (hI:aJ w0 w g fD kR) (hB:Below w0.heap.size w0 w) (hr1:Kd.C Kd.string w A1 l1.length l1) (hc1:l1.length≤c1) (hf1:∀ad,A1=some ad→0<l1.length→ad.block≠g) (h:fK.f k fD kR l1=some (r1,r2)):
  Calls Tryz.prog 58 #[.pointer (some ⟨g,0,none⟩), .slice A1 l1.length c1] w fun e w'=>e= .returned (.string r1)∧aJ w0 w' g fD r2∧Below w0.heap.size w0 w'∧aI w w' g none:=by
 have HR1:=ak hr1;have HC1:=ak hc1;clear hr1 hc1;have HI0:=ak hI;have HK:=ak (aI.refl w g none);have HL:=ak hB.size;clear hI;have HW0:=ak hB.size;have HB:=ak hB;clear hB;unfold fK.f at h;have H:=h;clear h;replace H:=bd H;obtain⟨⟨arT,aK1⟩,A3,H⟩:=H
 (try dsimp only at H);replace H:=oG H;obtain⟨qW,H⟩:=H;replace H:=oG H;obtain⟨nT,H⟩:=H;obtain⟨rfl,rfl⟩:=s2 H;go_enter Tryz.func58,Tryz.ntmps58;go_wp2_with (refine gL 57 9 Tryz.func57 #[.pointer (some ⟨g,0,none⟩), .int .i64 (l1.length:Int)] ?_;(with_reducible refine(dw.calls w0 ?dZ ?iw A3.out).mono ?_);(case dZ=>exact pR);(case iw=>exact oW);rintro e w6 ⟨rfl,hi,hb,hk⟩;refine⟨_,rfl,?_⟩;replace HK:=kt HK hk;replace HB:=ak (hb);replace HI0:=ak (hi);clear hb;(try clear hk);(try clear hi);have arU:0≤(arT:Int):=of_decide_eq_true (by assumption);have arV:arT<(l1.length:Int):=of_decide_eq_true (by assumption);obtain⟨awh,aEv,aeA⟩:=Kd.jI HR1.out arT arU arV;cases aEv;replace aeA:=JL HK.out aeA (by first|(rw[add_block];exact hf1 _ rfl (by omega))|exact hf1 _ rfl (by omega)|exact hf1 awh rfl (by omega));replace arU:=eq_true arU;replace arV:=eq_true arV)
 go_ret;exact⟨er,pR,oW,kh HK.out⟩
def jl.f (k:Nat) (fD:List Int) (kR:Int) (l1:List Int):Option (Int×Int):=(dw.f k fD kR (l1.length:Int)).bind fun aeB=>(if 0≤aeB.1 then(if aeB.1<(l1.length:Int)then(some (rd l1 aeB.1,aeB.2))else(none))else(none))
theorem jl.calls {k g c1:Nat} {fD l1:List Int} {kR r1 r2:Int} {A1:Option Addr} {w:World} (w0:World) (hI:aJ w0 w g fD kR) (hB:Below w0.heap.size w0 w) (hr1:Kd.C (Kd.int .i64) w A1 l1.length l1) (hc1:l1.length≤c1) (hf1:∀ad,A1=some ad→0<l1.length→ad.block≠g) (h:jl.f k fD kR l1=some (r1,r2)):
  Calls Tryz.prog 97 #[.pointer (some ⟨g,0,none⟩), .slice A1 l1.length c1] w fun e w'=>e= .returned (.int .i64 r1)∧aJ w0 w' g fD r2∧Below w0.heap.size w0 w'∧aI w w' g none:=by
 have HR1:=ak hr1;have HC1:=ak hc1;clear hr1 hc1;have HI0:=ak hI;have HK:=ak (aI.refl w g none);have HL:=ak hB.size;clear hI;have HW0:=ak hB.size;have HB:=ak hB;clear hB;unfold jl.f at h;have H:=h;clear h;replace H:=bd H;obtain⟨⟨arW,aK2⟩,A3,H⟩:=H
 (try dsimp only at H);replace H:=oG H;obtain⟨qW,H⟩:=H;replace H:=oG H;obtain⟨nT,H⟩:=H;obtain⟨rfl,rfl⟩:=s2 H;go_enter Tryz.func97,Tryz.ntmps97;go_wp2_with (refine gL 57 9 Tryz.func57 #[.pointer (some ⟨g,0,none⟩), .int .i64 (l1.length:Int)] ?_;(with_reducible refine(dw.calls w0 ?dZ ?iw A3.out).mono ?_);(case dZ=>exact pR);(case iw=>exact oW);rintro e w6 ⟨rfl,hi,hb,hk⟩;refine⟨_,rfl,?_⟩;replace HK:=kt HK hk;replace HB:=ak (hb);replace HI0:=ak (hi);clear hb;(try clear hk);(try clear hi);have arX:0≤(arW:Int):=of_decide_eq_true (by assumption);have arY:arW<(l1.length:Int):=of_decide_eq_true (by assumption);obtain⟨awi,aEw,aeC⟩:=Kd.AZ HR1.out arW arX arY;cases aEw;replace aeC:=JL HK.out aeC (by first|(rw[add_block];exact hf1 _ rfl (by omega))|exact hf1 _ rfl (by omega)|exact hf1 awi rfl (by omega));replace arX:=eq_true arX;replace arY:=eq_true arY)
 go_ret;exact⟨er,pR,oW,kh HK.out⟩
def gX.l0:Nat→ByteArray→Int→Option (Bool)
 |0,_,_=>none
 |k+1,x0,x3=>if(wrap64 (x3+1))<(x0.size:Int)then(if 0≤x3 then(if x3<(x0.size:Int)then(if(bt x0 x3)=61 then(if 0≤(wrap64 (x3+1))then(if(bt x0 (wrap64 (x3+1)))=63 then(some true)else(gX.l0 k x0 (wrap64 (x3+1))))else(none))else(gX.l0 k x0 (wrap64 (x3+1))))else(none))else(none))else((aQ.f k x0).bind fun awj=>(if awj=true then((bK.f k x0).bind fun awk=>(if awk.toList=x0.toList then(some (decide ((x0.size:Int)>120)))else(some true)))else(some true)))
def gX.f (k:Nat) (a0:ByteArray):Option (Bool):=gX.l0 k a0 0
theorem gX.calls {k:Nat} {a0:ByteArray} {r:Bool} {w:World} (h:gX.f k a0=some r):
  Calls Tryz.prog 207 #[.string a0] w fun e w'=>e= .returned (.bool r)∧dN w w':=by
 unfold gX.f at h;have H:=h;clear h;have H':=ak H;clear H;go_enter Tryz.func207,Tryz.ntmps207;go_wp2;go_loopg [3] k (fun kq v3 w'=>∃(dX:Int),v3= .int .i64 dX∧ah (gX.l0 kq a0 dX=some r)∧ah (kq≤k)∧dN w w')
 case atStart=>exact⟨_,rs,H',⟨Nat.le_refl _⟩,dn⟩
 case round=>
  clear H';obtain⟨dX,rfl,HA,yH,⟨m1,rfl⟩⟩:=hrel
  cases gk with
  |zero=>exact zz HA.out
  |succ k1=>
   obtain⟨H⟩:=HA;simp only[gX.l0]at H;replace H:=sp H;rcases H with⟨c2,H⟩|⟨c2,H⟩
   ·have qO:=decide_eq_true c2
    (try(have zM:decide ((dX+1)<(a0.size:Int))=true:=decide_eq_true (by have h_:=c2;unfold wrap64 at h_;omega)));clear c2;replace H:=oG H;obtain⟨iT,H⟩:=H;replace H:=oG H;obtain⟨qW,H⟩:=H;replace H:=sq H;rcases H with⟨oV,zX,H⟩|⟨c6,oV,zX,H⟩
    ·obtain⟨ji7,RY⟩:∃j_:Int,(wrap64 (dX+1))=j_:=⟨_,rfl⟩
     replace H:(if 0≤(ji7)then(if(bt a0 (ji7))=63 then(some true)else(gX.l0 k1 a0 ji7))else(none))=some r:=by first|(rw[RY]at H;exact H)|(simp only[RY]at H⊢;exact H)
     (try rw[RY]at qO);have awl:(IntKind.i64.wrap (dX+1))=ji7:=(jk _).trans RY;replace H:=oG H;obtain⟨uG,H⟩:=H;replace H:=sq H;rcases H with⟨oD,uN,H⟩|⟨c10,oD,uN,H⟩
     ·obtain rfl:=s1 H;obtain⟨p5,q5,hx5⟩:=bx a0 dX;obtain⟨p9,q9,hx9⟩:=bx a0 (ji7);go_wp2;go_ret;exact⟨by first|rfl|(simp;done)|(simp only[←RY]<;>(first|rfl|simp))|(simp[*];done),dn⟩
     ·have H':=ak H;clear H;obtain⟨p5,q5,hx5⟩:=bx a0 dX;obtain⟨p9,q9,hx9⟩:=bx a0 (ji7);go_wp2;go_roundg k1
      case measure=>exact kl
      case rel=>exact⟨_,(by first|rfl|(simp;done)|(simp only[←RY]<;>(first|rfl|simp))|(simp[*];done)),H',⟨kl⟩,dn⟩
    ·have H':=ak H;clear H;obtain⟨p5,q5,hx5⟩:=bx a0 dX;go_wp2;go_roundg k1
     case measure=>exact kl
     case rel=>exact⟨_,rs,H',⟨kl⟩,dn⟩
   ·have qO:=decide_eq_false c2
    (try(have zM:decide ((dX+1)<(a0.size:Int))=false:=decide_eq_false (by have h_:=c2;unfold wrap64 at h_;omega)));clear c2;replace H:=bd H;obtain⟨awj,A11,H⟩:=H;replace H:=sb H;rcases H with⟨rfl,H⟩|⟨rfl,H⟩
    ·replace H:=bd H;obtain⟨awk,A13,H⟩:=H;replace H:=sq H;rcases H with⟨vw,zZ,H⟩|⟨c14,vw,zZ,H⟩
     ·obtain rfl:=s1 H;go_wp2_with (first|(refine gA Tryz.func159 (aQ.calls A11.out) ?_;intro nd)|(go_at_call 179;refine mA (bK.calls A13.out) ?_;intro nd))
      go_ret;exact⟨rs,dn⟩
     ·obtain rfl:=s1 H;go_wp2_with (first|(refine gA Tryz.func159 (aQ.calls A11.out) ?_;intro nd)|(go_at_call 179;refine mA (bK.calls A13.out) ?_;intro nd))
      go_ret;exact⟨rs,dn⟩
    ·obtain rfl:=s1 H;go_wp2_with (refine gA Tryz.func159 (aQ.calls A11.out) ?_;intro nd)
     go_ret;exact⟨rs,dn⟩
def mD.f (a0:Int):Option (ByteArray):=if 0≤(a0/16)then(if(a0/16)≤(((a0/16)+1)%256)then(if(((a0/16)+1)%256)≤16 then(if 1+((⟨#[48,49,50,51,52,53,54,55,56,57,65,66,67,68,69,70]⟩:ByteArray).extract ((a0/16):Int).toNat ((((a0/16)+1)%256):Int).toNat).size≤9223372036854775807 then(if 0≤(Go.bits .and .u8 a0 15)then(if(Go.bits .and .u8 a0 15)≤(((Go.bits .and .u8 a0 15)+1)%256)then(if(((Go.bits .and .u8 a0 15)+1)%256)≤16 then(if((⟨#[61]⟩:ByteArray)++((⟨#[48,49,50,51,52,53,54,55,56,57,65,66,67,68,69,70]⟩:ByteArray).extract ((a0/16):Int).toNat ((((a0/16)+1)%256):Int).toNat)).size+((⟨#[48,49,50,51,52,53,54,55,56,57,65,66,67,68,69,70]⟩:ByteArray).extract ((Go.bits .and .u8 a0 15):Int).toNat ((((Go.bits .and .u8 a0 15)+1)%256):Int).toNat).size≤9223372036854775807 then(some (((⟨#[61]⟩:ByteArray)++((⟨#[48,49,50,51,52,53,54,55,56,57,65,66,67,68,69,70]⟩:ByteArray).extract ((a0/16):Int).toNat ((((a0/16)+1)%256):Int).toNat))++((⟨#[48,49,50,51,52,53,54,55,56,57,65,66,67,68,69,70]⟩:ByteArray).extract ((Go.bits .and .u8 a0 15):Int).toNat ((((Go.bits .and .u8 a0 15)+1)%256):Int).toNat)))else(none))else(none))else(none))else(none))else(none))else(none))else(none))else(none)
theorem mD.calls {a0:Int} {r:ByteArray} {w:World} (h:mD.f a0=some r):
  Calls Tryz.prog 221 #[.int .u8 a0] w fun e w'=>e= .returned (.string r)∧dN w w':=by
 unfold mD.f at h;have H:=h;clear h;obtain⟨VF,arZ⟩:∃j_:Int,(a0/16)=j_:=⟨_,rfl⟩
 replace H:(if 0≤(VF)then(if(VF)≤(((VF)+1)%256)then(if(((VF)+1)%256)≤16 then(if 1+((⟨#[48,49,50,51,52,53,54,55,56,57,65,66,67,68,69,70]⟩:ByteArray).extract ((VF):Int).toNat ((((VF)+1)%256):Int).toNat).size≤9223372036854775807 then(if 0≤(Go.bits .and .u8 a0 15)then(if(Go.bits .and .u8 a0 15)≤(((Go.bits .and .u8 a0 15)+1)%256)then(if(((Go.bits .and .u8 a0 15)+1)%256)≤16 then(if((⟨#[61]⟩:ByteArray)++((⟨#[48,49,50,51,52,53,54,55,56,57,65,66,67,68,69,70]⟩:ByteArray).extract ((VF):Int).toNat ((((VF)+1)%256):Int).toNat)).size+((⟨#[48,49,50,51,52,53,54,55,56,57,65,66,67,68,69,70]⟩:ByteArray).extract ((Go.bits .and .u8 a0 15):Int).toNat ((((Go.bits .and .u8 a0 15)+1)%256):Int).toNat).size≤9223372036854775807 then(some (((⟨#[61]⟩:ByteArray)++((⟨#[48,49,50,51,52,53,54,55,56,57,65,66,67,68,69,70]⟩:ByteArray).extract ((VF):Int).toNat ((((VF)+1)%256):Int).toNat))++((⟨#[48,49,50,51,52,53,54,55,56,57,65,66,67,68,69,70]⟩:ByteArray).extract ((Go.bits .and .u8 a0 15):Int).toNat ((((Go.bits .and .u8 a0 15)+1)%256):Int).toNat)))else(none))else(none))else(none))else(none))else(none))else(none))else(none))else(none))=some r:=by first|(rw[arZ]at H;exact H)|(simp only[arZ]at H⊢;exact H)
 replace H:=Dc H;obtain⟨iT,zW,H⟩:=H;replace H:=nn H;obtain⟨c4,H⟩:=H;have qW:=eq_true c4;have RS:=decide_eq_true c4;replace H:=nn H;obtain⟨c5,H⟩:=H;have nT:=eq_true c5;have NZ:=decide_eq_true c5;replace H:=nn H;obtain⟨c6,H⟩:=H;have oV:=eq_true c6;have zX:=decide_eq_true c6;try have aK3:(9223372036854775807<1+(((⟨#[48,49,50,51,52,53,54,55,56,57,65,66,67,68,69,70]⟩:ByteArray).extract ((VF):Int).toNat ((((VF)+1)%256):Int).toNat).size))=False:=by have h_:=c6;simp only[ByteArray.size_append,ByteArray.size_extract]at h_;refine eq_false ?_;simp only[decide_eq_true_eq]at*;omega
 try have amx:(9223372036854775807<1+((⟨#[48,49,50,51,52,53,54,55,56,57,65,66,67,68,69,70]⟩:ByteArray).extract ((VF):Int).toNat ((((VF)+1)%256):Int).toNat).size)=False:=eq_false (Nat.not_lt.2 c6)
 replace H:=Dc H;obtain⟨tJ,PZ,H⟩:=H;replace H:=nn H;obtain⟨c8,H⟩:=H;have uG:=eq_true c8;have F5:=decide_eq_true c8;replace H:=nn H;obtain⟨c9,H⟩:=H;have A_:=eq_true c9;have I4:=decide_eq_true c9;replace H:=nn H;obtain⟨c10,H⟩:=H;have oD:=eq_true c10;have uN:=decide_eq_true c10;try have awm:(9223372036854775807<(⟨#[61]⟩:ByteArray).size+(((⟨#[48,49,50,51,52,53,54,55,56,57,65,66,67,68,69,70]⟩:ByteArray).extract ((VF):Int).toNat ((((VF)+1)%256):Int).toNat).size)+(((⟨#[48,49,50,51,52,53,54,55,56,57,65,66,67,68,69,70]⟩:ByteArray).extract ((Go.bits .and .u8 a0 15):Int).toNat ((((Go.bits .and .u8 a0 15)+1)%256):Int).toNat).size))=False:=by have h_:=c10;simp only[ByteArray.size_append,ByteArray.size_extract]at h_;refine eq_false ?_;simp only[decide_eq_true_eq]at*;omega
 try have aoE:(9223372036854775807<1+(((⟨#[48,49,50,51,52,53,54,55,56,57,65,66,67,68,69,70]⟩:ByteArray).extract ((VF):Int).toNat ((((VF)+1)%256):Int).toNat).size)+(((⟨#[48,49,50,51,52,53,54,55,56,57,65,66,67,68,69,70]⟩:ByteArray).extract ((Go.bits .and .u8 a0 15):Int).toNat ((((Go.bits .and .u8 a0 15)+1)%256):Int).toNat).size))=False:=by have h_:=(eq_false (Nat.not_lt.2 c10):(9223372036854775807<((⟨#[61]⟩:ByteArray)++((⟨#[48,49,50,51,52,53,54,55,56,57,65,66,67,68,69,70]⟩:ByteArray).extract ((VF):Int).toNat ((((VF)+1)%256):Int).toNat)).size+((⟨#[48,49,50,51,52,53,54,55,56,57,65,66,67,68,69,70]⟩:ByteArray).extract ((Go.bits .and .u8 a0 15):Int).toNat ((((Go.bits .and .u8 a0 15)+1)%256):Int).toNat).size)=False);simp only[ByteArray.size_append]at h_;exact h_
 try have aeD:(9223372036854775807<((⟨#[61]⟩:ByteArray)++((⟨#[48,49,50,51,52,53,54,55,56,57,65,66,67,68,69,70]⟩:ByteArray).extract ((VF):Int).toNat ((((VF)+1)%256):Int).toNat)).size+((⟨#[48,49,50,51,52,53,54,55,56,57,65,66,67,68,69,70]⟩:ByteArray).extract ((Go.bits .and .u8 a0 15):Int).toNat ((((Go.bits .and .u8 a0 15)+1)%256):Int).toNat).size)=False:=eq_false (Nat.not_lt.2 c10)
 obtain rfl:=s1 H;go_enter Tryz.func221,Tryz.ntmps221;go_wp2;repeat(go_quiet (fail);try go_wp2)
 go_ret;exact⟨by first|rfl|(simp;done)|(simp only[←arZ]<;>(first|rfl|simp))|(simp[*];done),dn⟩
end Go.Proofs.YtncdadcmghglkaaGreatDoor.PFnPathEmpty
