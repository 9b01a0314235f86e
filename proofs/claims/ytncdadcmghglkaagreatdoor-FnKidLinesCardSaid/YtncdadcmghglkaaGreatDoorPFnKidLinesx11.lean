/- Printed walks; conditions: those in each statement. -/
import Derived.Test.YtncdadcmghglkaaGreatDoorVFnKidLinesQt
import Derived.Test.YtncdadcmghglkaaGreatDoorVFnKidLinesYt
import Derived.Test.YtncdadcmghglkaaGreatDoorPFnKidLinesx0
import Derived.Test.YtncdadcmghglkaaGreatDoorPFnKidLinesx8
-- short
-- dense
-- sq
-- sq2
-- fixed
namespace Go.Proofs.YtncdadcmghglkaaGreatDoor.PFnKidLines
open Go.RowKit Go.Proofs.YtncdadcmghglkaaGreatDoor.X Go.Proofs.YtncdadcmghglkaaGreatDoorW.dS Go.Proofs.YtncdadcmghglkaaGreatDoorW.kY Go.Proofs.YtncdadcmghglkaaGreatDoorW.n_
attribute [local go_sem] xM xO AV AX vK vM xP xQ   -- for this text's walks alone
set_option linter.unusedVariables false
set_option maxHeartbeats 8000000
set_option maxRecDepth 100000
set_option linter.unusedSimpArgs false
def uN.f (k:Nat) (l0:List Int):Option ((List (gK))×List ByteArray×(List (ng))):=(sV.f l0).bind fun aex=>((dU.f k aex.1 aex.2 3).bind fun aaA=>((dL.f k aex.1 aaA.2.2.2 aaA.1 aaA.2.1 aaA.2.2.1).bind fun aey=>(some (aey.1,aey.2.1,aey.2.2.1))))
theorem uN.calls {k c0:Nat} {A0:Option Addr} {l0:List Int} {r1:List (gK)} {r2:List ByteArray} {r3:List (ng)} {w:World} (hr0:Kd.C (Kd.int .u8) w A0 l0.length l0) (hc0:l0.length≤c0) (h:uN.f k l0=some (r1,r2,r3)):
  Calls Tryz.prog 65 #[.slice A0 l0.length c0] w fun e w'=>∃oD Eu FU:Value,e= .returned (.agg #[oD,Eu,FU])∧Kd.R qy 69 w' w.heap.size (fun _=>True) oD r1∧Kd.R Kd.string 9 w' w.heap.size (fun _=>True) Eu r2∧Kd.R k28 28 w' w.heap.size (fun k_=>some k_≠(oD:Value).ownBlock∧some k_≠(Eu:Value).ownBlock) FU r3∧Below w.heap.size w w':=by
 have FV:=Tryz.underlying28;have HR0:=ak hr0;have yF:=ak hc0;clear hr0 hc0;have HB:=ak (Below.refl w.heap.size w);unfold uN.f at h;have H:=h;clear h;replace H:=bd H;obtain⟨⟨aik,azD⟩,A2,H⟩:=H
 (try dsimp only at H);replace H:=bd H;obtain⟨⟨aq4,aq5,aq6,ail⟩,A3,H⟩:=H
 (try dsimp only at H);replace H:=bd H;obtain⟨⟨azE,azF,azG,aFK⟩,A4,H⟩:=H
 (try dsimp only at H);obtain⟨rfl,rfl,rfl⟩:=s3 H;go_enter Tryz.func65,Tryz.ntmps65;go_wp2_with (first|(refine bX HB 2 #[.slice none 0 0, .slice none 0 0, .slice none 0 0] 28 ?_;intro aez w5 F9 aCJ hb;replace HB:=bs HB hb;clear hb)|(refine gL 55 5 Tryz.func55 #[.slice A0 l0.length c0] ?_;(with_reducible refine(sV.calls w ?fH HR0.out yF.out A2.out).mono ?_);(case fH=>exact oG);rintro e w6 ⟨acV,rfl,hi,hb,hb2⟩;refine⟨_,rfl,?_⟩;have aeA:=ak (hi);have acW:=ak (aK.aen hi (qR (ub F9.out) hb2) (by decide));have Nc:=ak (Ne.symm (aK.aen hi (qR (ub F9.out) hb2) (by decide)));replace F9:=kb F9 hb2;replace HB:=ak (hb);clear hb;(try clear hb2);(try clear hi))|(refine gL 56 8 Tryz.func56 #[.pointer (some ⟨acV,0,none⟩), .int .i64 3] ?_;(with_reducible refine(dU.calls k acV aik azD 3 aq4 aq5 aq6 ail w _ ?fH ?iV A3.out).mono ?_);(case fH=>exact oC);(case iV=>exact oG);rintro e w7 ⟨aFL,aFM,aFN,rfl,ho0,ho1,ho2,hi,hb,hk⟩;refine⟨_,rfl,?_⟩;have Qv:=ak (Kd.aA ho0 (aj oG));have Ov:=ak (Kd.aA ho1 (aj oG));have TG:=ak (Kd.aA (Kd.ni ho2 (g:=aez) (o:= .cells #[.slice none 0 0, .slice none 0 0, .slice none 0 0] 28 (0,0)) (ub F9.out)) (aj oG));replace F9:=kc F9 hk Nc;replace HB:=ak (hb);replace aeA:=ak (hi);clear hb;(try clear hk);(try clear hi);(try clear ho0);(try clear ho1);(try clear ho2);obtain⟨Ao8,co8,eo8⟩:=Kd.aI Qv.out;subst eo8;obtain⟨UU,TI,eo9⟩:=Kd.aI Ov.out;subst eo9;obtain⟨azH,azI,azJ⟩:=Kd.aI TG.out;subst azJ)|(refine gL 68 9 Tryz.func68 #[.pointer (some ⟨acV,0,none⟩), .agg #[.slice Ao8 aq4.length co8, .slice UU aq5.length TI, .slice azH aq6.length azI]] ?_;(with_reducible refine(dL.calls w ?fH ?iV (Kd.Qw (aK.apart (show aK w _ acV aik ail from oC) (ur Qv.out) (by decide)) (fun _ h_=>h_.2)) ((Kd.ay Qv.out).2.1) (cu ((Kd.ay Ov.out).2.2)) ((Kd.ay Ov.out).2.1) (nP (aK.own_ne aeA.out Ov.out (by decide))) (Kd.Qw (aK.apart (show aK w _ acV aik ail from oC) (ur TG.out) (by decide)) (fun _ h_=>h_.2)) ((Kd.ay TG.out).2.1) A4.out).mono ?_);(case fH=>exact oC);(case iV=>exact oG);rintro e WI ⟨aFO,aFP,aFQ,rfl,ho0,ho1,ho2,hi,hb,hk⟩;refine⟨_,rfl,?_⟩;have aq7:=ak (Kd.aA (Kd.eX ho0 (Kd.jw (ur Qv.out))) (aj oG));have aq8:=ak (Kd.aA (Kd.eX ho1 (Kd.jw (ur Ov.out))) (aj oG));have aq9:=ak (Kd.aA (Kd.ni (Kd.eX (Kd.eX (Kd.eX ho2 (Kd.jw (ur Qv.out))) (Kd.jw (ur Ov.out))) (Kd.jw (ur TG.out))) (g:=aez) (o:= .cells #[.slice none 0 0, .slice none 0 0, .slice none 0 0] 28 (0,0)) (ub F9.out)) (aj oG));replace F9:=kc F9 hk Nc;replace Qv:=kj Qv hk ho0;replace Ov:=kj Ov hk ho1;replace TG:=ak (Kd.aQ (Kd.sS (Kd.sS (Kd.sS (Kd.UO (aK.apart (show aK w _ acV aik ail from oC) (ur TG.out) (by decide)) hk) (Kd.dw ho0)) (Kd.dw ho1)) (Kd.dw ho2)) (fun _ h_=>h_.1));replace HB:=ak (hb);replace aeA:=ak (hi);clear hb;(try clear hk);(try clear hi);(try clear ho0);(try clear ho1);(try clear ho2);obtain⟨yG,xG,Qk⟩:=Kd.aI aq7.out;subst Qk;have akd:=Nc.out;have ake:=acW.out;have z14:=kF F9.out;obtain⟨MZ,M_,UJ⟩:=Kd.aI aq8.out;subst UJ;obtain⟨Qx,Qy,Qz⟩:=Kd.aI aq9.out;subst Qz))
 refine bodyPost_ret (results_cell_row rfl _ _ aez 28 #[.slice yG azE.length xG, .slice MZ azF.length M_, .slice Qx azG.length Qy] (0,0) _ rfl bq Tryz.underlying28 rfl (by kernel_rfl)) rfl ?_;exact⟨_,_,_,er,rr,rr,rr,oG⟩
def lQ.f (k:Nat) (l0:List Int):Option ((List (gK))×List ByteArray×(List (ng))):=(uN.f k l0).bind fun aeB=>(some (aeB.1,aeB.2.1,aeB.2.2))
theorem lQ.calls {k c0:Nat} {A0:Option Addr} {l0:List Int} {r1:List (gK)} {r2:List ByteArray} {r3:List (ng)} {w:World} (hr0:Kd.C (Kd.int .u8) w A0 l0.length l0) (hc0:l0.length≤c0) (h:lQ.f k l0=some (r1,r2,r3)):
  Calls Tryz.prog 23 #[.slice A0 l0.length c0] w fun e w'=>∃oD Eu FU:Value,e= .returned (.agg #[oD,Eu,FU])∧Kd.R qy 69 w' w.heap.size (fun _=>True) oD r1∧Kd.R Kd.string 9 w' w.heap.size (fun _=>True) Eu r2∧Kd.R k28 28 w' w.heap.size (fun k_=>some k_≠(oD:Value).ownBlock∧some k_≠(Eu:Value).ownBlock) FU r3∧Below w.heap.size w w':=by
 have FV:=Tryz.underlying28;have HR0:=ak hr0;have yF:=ak hc0;clear hr0 hc0;have HB:=ak (Below.refl w.heap.size w);unfold lQ.f at h;have H:=h;clear h;replace H:=bd H;obtain⟨⟨azK,azL,azM⟩,A2,H⟩:=H
 (try dsimp only at H);obtain⟨rfl,rfl,rfl⟩:=s3 H;go_enter Tryz.func23,Tryz.ntmps23;go_wp2_with (first|(refine bX HB 2 #[.slice none 0 0, .slice none 0 0, .slice none 0 0] 28 ?_;intro akf w3 aaB aCK hb;replace HB:=bs HB hb;clear hb)|(refine gL 65 4 Tryz.func65 #[.slice A0 l0.length c0] ?_;(with_reducible refine(uN.calls (cu (Kd.aX HR0.out HB.out)) yF.out A2.out).mono ?_);rintro e w4 ⟨aFR,aFS,aFT,rfl,ho0,ho1,ho2,hb⟩;refine⟨_,rfl,?_⟩;have aq_:=ak (Kd.aA ho0 (aj bb));have ara:=ak (Kd.aA ho1 (aj bb));have arb:=ak (Kd.aA (Kd.ni ho2 (g:=akf) (o:= .cells #[.slice none 0 0, .slice none 0 0, .slice none 0 0] 28 (0,0)) (ub aaB.out)) (aj bb));replace aaB:=kb aaB hb;replace HB:=bz HB hb;clear hb;(try clear ho0);(try clear ho1);(try clear ho2);obtain⟨Ao5,co5,eo5⟩:=Kd.aI aq_.out;subst eo5;have z6:=kF aaB.out;obtain⟨Ao7,co7,eo7⟩:=Kd.aI ara.out;subst eo7;obtain⟨Ao8,co8,eo8⟩:=Kd.aI arb.out;subst eo8))
 refine bodyPost_ret (results_cell_row rfl _ _ akf 28 #[.slice Ao5 azK.length co5, .slice Ao7 azL.length co7, .slice Ao8 azM.length co8] (0,0) _ rfl bq Tryz.underlying28 rfl (by kernel_rfl)) rfl ?_;exact⟨_,_,_,er,rr,rr,rr,bb⟩
def aZ.l0:Nat→ByteArray→Int→Int→Option (Bool)
 |0,_,_,_=>none
 |k+1,x0,x5,x6=>if x6<x5 then(if 0≤x6 then(if x6<(x0.size:Int)then(if(bt x0 x6)<32 then(some false)else(if(bt x0 x6)>126 then(some false)else(aZ.l0 k x0 x5 (wrap64 (x6+1)))))else(none))else(none))else(some (decide ((x0.size:Int)≤200)))
def aZ.f (k:Nat) (a0:ByteArray):Option (Bool):=aZ.l0 k a0 (a0.size:Int) 0
theorem aZ.calls {k:Nat} {a0:ByteArray} {r:Bool} {w:World} (h:aZ.f k a0=some r):
  Calls Tryz.prog 89 #[.string a0] w fun e w'=>e= .returned (.bool r)∧dM w w':=by
 unfold aZ.f at h;have H:=h;clear h;have H':=ak H;clear H;go_enter Tryz.func89,Tryz.ntmps89;go_wp2;go_loopg [6] k (fun kq v6 w'=>∃(gY:Int),v6= .int .i64 gY∧ah (aZ.l0 kq a0 (a0.size:Int) gY=some r)∧ah (kq≤k)∧dM w w')
 case atStart=>exact⟨_,rs,H',⟨Nat.le_refl _⟩,dn⟩
 case round=>
  clear H';obtain⟨gY,rfl,HA,yH,⟨m1,rfl⟩⟩:=hrel
  cases gk with
  |zero=>exact zz HA.out
  |succ k1=>
   obtain⟨H⟩:=HA;simp only[aZ.l0]at H;replace H:=sd H;rcases H with⟨nY,H⟩|⟨nY,H⟩
   ·replace H:=nS H;obtain⟨iH,H⟩:=H;replace H:=nS H;obtain⟨qW,H⟩:=H;replace H:=sd H;rcases H with⟨nG,H⟩|⟨nG,H⟩
    ·obtain rfl:=s1 H;obtain⟨p5,q5,hx5⟩:=bx a0 gY;go_wp2;go_ret;exact⟨rs,dn⟩
    ·replace H:=sp H;rcases H with⟨c8,H⟩|⟨c8,H⟩
     ·have tK:decide (126<(bt a0 gY))=true:=decide_eq_true c8;clear c8;obtain rfl:=s1 H;obtain⟨p5,q5,hx5⟩:=bx a0 gY;obtain⟨p7,q7,hx7⟩:=bx a0 gY;go_wp2;go_ret;exact⟨rs,dn⟩
     ·have tK:decide (126<(bt a0 gY))=false:=decide_eq_false c8;clear c8;have H':=ak H;clear H;obtain⟨p5,q5,hx5⟩:=bx a0 gY;obtain⟨p7,q7,hx7⟩:=bx a0 gY;go_wp2;go_roundg k1
      case measure=>exact kl
      case rel=>exact⟨_,rs,H',⟨kl⟩,dn⟩
   ·obtain rfl:=s1 H;go_wp2;go_ret;exact⟨rs,dn⟩
def kH.f (a0:ByteArray) (a1:ByteArray):Option (ByteArray):=if a1.data.toList=[32]then(if a0.size≤9223372036854775807 then some ⟨(Lib.trimB a0.data.toList 32).toArray⟩else none)else none
theorem kH.calls {a0 a1 r:ByteArray} {w:World} (h:kH.f a0 a1=some r):
  Calls Tryz.prog 92 #[.string a0, .string a1] w fun e w'=>e= .returned (.string r)∧dM w w':=by
 unfold kH.f at h;split at h
 ·rename_i h1
  split at h
  ·rename_i hs
   injection h with h;subst h
   have e1:a1=⟨#[32]⟩:=by
    cases a1 with
    |mk d=>exact congrArg ByteArray.mk (Array.toList_inj.mp h1)
   subst e1;refine(Tryz.strings_Trim_one a0 32 (by decide) w hs).mono ?_;rintro e w' ⟨he,hw⟩;refine⟨he,?_⟩;rcases hw with rfl|rfl
   ·exact⟨⟨0,rfl⟩⟩
   ·exact⟨⟨1,rfl⟩⟩
  ·cases h
 ·cases h
def bg.f (a0:Int):Option (Bool):=if a0≥97 then(if a0≤122 then(some true)else(if a0≥65 then(some (decide (a0≤90)))else(some false)))else(if a0≥65 then(some (decide (a0≤90)))else(some false))
theorem bg.calls {a0:Int} {r:Bool} {w:World} (h:bg.f a0=some r):
  Calls Tryz.prog 140 #[.int .u8 a0] w fun e w'=>e= .returned (.bool r)∧dM w w':=by
 unfold bg.f at h;have H:=h;clear h;replace H:=sp H;rcases H with⟨c2,H⟩|⟨c2,H⟩
 ·have nY:decide (97≤a0)=true:=decide_eq_true c2;clear c2;replace H:=sd H;rcases H with⟨iH,H⟩|⟨iH,H⟩
  ·obtain rfl:=s1 H;go_enter Tryz.func140,Tryz.ntmps140;go_wp2;go_ret;exact⟨rs,dn⟩
  ·replace H:=sp H;rcases H with⟨c4,H⟩|⟨c4,H⟩
   ·have qW:decide (65≤a0)=true:=decide_eq_true c4;clear c4;obtain rfl:=s1 H;go_enter Tryz.func140,Tryz.ntmps140;go_wp2;go_ret;exact⟨rs,dn⟩
   ·have qW:decide (65≤a0)=false:=decide_eq_false c4;clear c4;obtain rfl:=s1 H;go_enter Tryz.func140,Tryz.ntmps140;go_wp2;go_ret;exact⟨rs,dn⟩
 ·have nY:decide (97≤a0)=false:=decide_eq_false c2;clear c2;replace H:=sp H;rcases H with⟨c5,H⟩|⟨c5,H⟩
  ·have mQ:decide (65≤a0)=true:=decide_eq_true c5;clear c5;obtain rfl:=s1 H;go_enter Tryz.func140,Tryz.ntmps140;go_wp2;go_ret;exact⟨rs,dn⟩
  ·have mQ:decide (65≤a0)=false:=decide_eq_false c5;clear c5;obtain rfl:=s1 H;go_enter Tryz.func140,Tryz.ntmps140;go_wp2;go_ret;exact⟨rs,dn⟩
def dA.f (a0:Int):Option (Bool):=if a0≥48 then(some (decide (a0≤57)))else(some false)
theorem dA.calls {a0:Int} {r:Bool} {w:World} (h:dA.f a0=some r):
  Calls Tryz.prog 141 #[.int .u8 a0] w fun e w'=>e= .returned (.bool r)∧dM w w':=by
 unfold dA.f at h;have H:=h;clear h;replace H:=sp H;rcases H with⟨c2,H⟩|⟨c2,H⟩
 ·have nY:decide (48≤a0)=true:=decide_eq_true c2;clear c2;obtain rfl:=s1 H;go_enter Tryz.func141,Tryz.ntmps141;go_wp2;go_ret;exact⟨rs,dn⟩
 ·have nY:decide (48≤a0)=false:=decide_eq_false c2;clear c2;obtain rfl:=s1 H;go_enter Tryz.func141,Tryz.ntmps141;go_wp2;go_ret;exact⟨rs,dn⟩
def qo.f (a0:Int):Option (Bool):=(bg.f a0).bind fun ard=>(if ard=true then(some true)else((dA.f a0).bind fun arf=>(if arf=true then(some true)else(some (a0==45)))))
theorem qo.calls {a0:Int} {r:Bool} {w:World} (h:qo.f a0=some r):
  Calls Tryz.prog 185 #[.int .u8 a0] w fun e w'=>e= .returned (.bool r)∧dM w w':=by
 unfold qo.f at h;have H:=h;clear h;replace H:=bd H;obtain⟨ard,A2,H⟩:=H;replace H:=sb H;rcases H with⟨rfl,H⟩|⟨rfl,H⟩
 ·obtain rfl:=s1 H;go_enter Tryz.func185,Tryz.ntmps185;go_wp2_with (refine gA Tryz.func140 (bg.calls A2.out) ?_;intro nd)
  go_ret;exact⟨rs,dn⟩
 ·replace H:=bd H;obtain⟨arf,A4,H⟩:=H;replace H:=sb H;rcases H with⟨rfl,H⟩|⟨rfl,H⟩
  ·obtain rfl:=s1 H;go_enter Tryz.func185,Tryz.ntmps185;go_wp2_with (first|(refine gA Tryz.func140 (bg.calls A2.out) ?_;intro nd)|(go_at_call 141;refine mA (dA.calls A4.out) ?_;intro nd))
   go_ret;exact⟨rs,dn⟩
  ·obtain rfl:=s1 H;go_enter Tryz.func185,Tryz.ntmps185;go_wp2_with (first|(refine gA Tryz.func140 (bg.calls A2.out) ?_;intro nd)|(go_at_call 141;refine mA (dA.calls A4.out) ?_;intro nd))
   go_ret;exact⟨rs,dn⟩
def dZ.l0:Nat→ByteArray→Int→Int→Option (Bool)
 |0,_,_,_=>none
 |k+1,x0,x7,x8=>if x8<x7 then(if 0≤x8 then(if x8<(x0.size:Int)then((qo.f (bt x0 x8)).bind fun arh=>(if arh=true then(dZ.l0 k x0 x7 (wrap64 (x8+1)))else(some false)))else(none))else(none))else(some true)
def dZ.f (k:Nat) (a0:ByteArray):Option (Bool):=dZ.l0 k a0 (a0.size:Int) 0
theorem dZ.calls {k:Nat} {a0:ByteArray} {r:Bool} {w:World} (h:dZ.f k a0=some r):
  Calls Tryz.prog 138 #[.string a0, .func (.func 185) #[] #[]] w fun e w'=>e= .returned (.bool r)∧dM w w':=by
 unfold dZ.f at h;have H:=h;clear h;have H':=ak H;clear H;go_enter Tryz.func138,Tryz.ntmps138;go_wp2;go_loopg [8] k (fun kq v8 w'=>∃(kN:Int),v8= .int .i64 kN∧ah (dZ.l0 kq a0 (a0.size:Int) kN=some r)∧ah (kq≤k)∧dM w w')
 case atStart=>exact⟨_,rs,H',⟨Nat.le_refl _⟩,dn⟩
 case round=>
  clear H';obtain⟨kN,rfl,HA,yH,⟨m1,rfl⟩⟩:=hrel
  cases gk with
  |zero=>exact zz HA.out
  |succ k1=>
   obtain⟨H⟩:=HA;simp only[dZ.l0]at H;replace H:=sd H;rcases H with⟨iH,H⟩|⟨iH,H⟩
   ·replace H:=nS H;obtain⟨qW,H⟩:=H;replace H:=nS H;obtain⟨mQ,H⟩:=H;replace H:=bd H;obtain⟨arh,A7,H⟩:=H;replace H:=sb H;rcases H with⟨rfl,H⟩|⟨rfl,H⟩
    ·have H':=ak H;clear H;obtain⟨p6,q6,hx6⟩:=bx a0 kN;go_wp2_with (go_at_call 185;refine mA (qo.calls A7.out) ?_;intro nd)
     go_roundg k1
     case measure=>exact kl
     case rel=>exact⟨_,rs,H',⟨kl⟩,dn⟩
    ·obtain rfl:=s1 H;obtain⟨p6,q6,hx6⟩:=bx a0 kN;go_wp2_with (go_at_call 185;refine mA (qo.calls A7.out) ?_;intro nd)
     go_ret;exact⟨rs,dn⟩
   ·obtain rfl:=s1 H;go_wp2;go_ret;exact⟨rs,dn⟩
def je.f (k:Nat) (a0:ByteArray):Option (Bool):=if(a0.size:Int)≥1 then(if(a0.size:Int)≤30 then(if 0<(a0.size:Int)then((bg.f (bt a0 0)).bind fun ari=>(if ari=true then((dZ.f k a0).bind fun arj=>(some arj))else(some false)))else(none))else(some false))else(some false)
theorem je.calls {k:Nat} {a0:ByteArray} {r:Bool} {w:World} (h:je.f k a0=some r):
  Calls Tryz.prog 160 #[.string a0] w fun e w'=>e= .returned (.bool r)∧dM w w':=by
 unfold je.f at h;have H:=h;clear h;replace H:=sp H;rcases H with⟨c2,H⟩|⟨c2,H⟩
 ·have nY:decide (1≤(a0.size:Int))=true:=decide_eq_true c2;have uJ:decide (1≤a0.size)=true:=decide_eq_true (by omega);clear c2;replace H:=sp H;rcases H with⟨c3,H⟩|⟨c3,H⟩
  ·have iH:=decide_eq_true c3;have zH:decide (a0.size≤30)=true:=decide_eq_true (by omega);clear c3;replace H:=nn H;obtain⟨c4,H⟩:=H;have qW:=decide_eq_true c4;have YF:decide (0<a0.size)=true:=decide_eq_true (by omega);clear c4;replace H:=bd H;obtain⟨ari,A6,H⟩:=H;replace H:=sb H;rcases H with⟨rfl,H⟩|⟨rfl,H⟩
   ·replace H:=bd H;obtain⟨arj,A8,H⟩:=H;obtain rfl:=s1 H;have p5:0≤(0:Int):=(by omega)
    have q5:0<a0.size:=(by have:(0:Int)<(a0.size:Int):=of_decide_eq_true (by assumption);omega)
    have hx5:∀h:0<a0.size,((a0[0]'h).toNat:Int)=bt a0 0:=vZ a0 0;clear p5;have qi5:(0<(a0.size:Int))=True:=eq_true (of_decide_eq_true (by assumption));replace q5:=eq_true q5;go_enter Tryz.func160,Tryz.ntmps160;go_wp2_with (first|(go_at_call 140;refine mA (bg.calls A6.out) ?_;intro nd)|(go_at_call 138;refine mA (dZ.calls A8.out) ?_;intro nd))
    go_ret;exact⟨rs,dn⟩
   ·obtain rfl:=s1 H;have p5:0≤(0:Int):=(by omega)
    have q5:0<a0.size:=(by have:(0:Int)<(a0.size:Int):=of_decide_eq_true (by assumption);omega)
    have hx5:∀h:0<a0.size,((a0[0]'h).toNat:Int)=bt a0 0:=vZ a0 0;clear p5;have qi5:(0<(a0.size:Int))=True:=eq_true (of_decide_eq_true (by assumption));replace q5:=eq_true q5;go_enter Tryz.func160,Tryz.ntmps160;go_wp2_with (go_at_call 140;refine mA (bg.calls A6.out) ?_;intro nd)
    go_ret;exact⟨rs,dn⟩
  ·have iH:=decide_eq_false c3;have zH:decide (a0.size≤30)=false:=decide_eq_false (by omega);clear c3;obtain rfl:=s1 H;go_enter Tryz.func160,Tryz.ntmps160;go_wp2;go_ret;exact⟨rs,dn⟩
 ·have nY:decide (1≤(a0.size:Int))=false:=decide_eq_false c2;have uJ:decide (1≤a0.size)=false:=decide_eq_false (by omega);clear c2;obtain rfl:=s1 H;go_enter Tryz.func160,Tryz.ntmps160;go_wp2;go_ret;exact⟨rs,dn⟩
def pK.f (k:Nat) (dX:ByteArray) (eF:ByteArray):Option (Bool):=(je.f k dX).bind fun ark=>(if ark=true then((aZ.f k eF).bind fun arl=>(if arl=true then(if(eF.size:Int)≤150 then((kH.f eF (⟨#[32]⟩:ByteArray)).bind fun arn=>(some (arn.toList==eF.toList)))else(some false))else(some false)))else(some false))
theorem pK.calls {k:Nat} {dX eF:ByteArray} {r:Bool} {w:World} (h:pK.f k dX eF=some r):
  Calls Tryz.prog 120 #[.agg #[.string dX, .string eF]] w fun e w'=>e= .returned (.bool r)∧Below w.heap.size w w':=by
 have EC:=Tryz.underlying69;have HB:=ak (Below.refl w.heap.size w);unfold pK.f at h;have H:=h;clear h;replace H:=bd H;obtain⟨ark,A2,H⟩:=H;replace H:=sb H;rcases H with⟨rfl,H⟩|⟨rfl,H⟩
 ·replace H:=bd H;obtain⟨arl,A4,H⟩:=H;replace H:=sb H;rcases H with⟨rfl,H⟩|⟨rfl,H⟩
  ·replace H:=sp H;rcases H with⟨c6,H⟩|⟨c6,H⟩
   ·have nG:=decide_eq_true c6;have xW:decide (eF.size≤150)=true:=decide_eq_true (by omega);clear c6;replace H:=bd H;obtain⟨arn,A7,H⟩:=H;obtain rfl:=s1 H;go_enter Tryz.func120,Tryz.ntmps120;go_wp2_with (first|(refine gG 1 ?_;refine bX HB 1 #[.string dX, .string eF] 69 ?_;intro Gf w8 uO Gg hb;replace HB:=bs HB hb;clear hb;have z9:=AL uO.out)|(go_at_call 160;refine mA (je.calls A2.out) ?_;intro nd;(try exact dq))|(go_at_call 89;refine mA (aZ.calls A4.out) ?_;intro nd;(try exact dq))|(go_at_call 92;refine mA (kH.calls A7.out) ?_;intro nd;(try exact dq)))
    repeat(go_quiet (first|(refine gG 1 ?_;refine bX HB 1 #[.string dX, .string eF] 69 ?_;intro Gf w8 uO Gg hb;replace HB:=bs HB hb;clear hb;have z9:=AL uO.out)|(go_at_call 160;refine mA (je.calls A2.out) ?_;intro nd;(try exact dq))|(go_at_call 89;refine mA (aZ.calls A4.out) ?_;intro nd;(try exact dq))|(go_at_call 92;refine mA (kH.calls A7.out) ?_;intro nd;(try exact dq)));try go_wp2_with (first|(refine gG 1 ?_;refine bX HB 1 #[.string dX, .string eF] 69 ?_;intro Gf w8 uO Gg hb;replace HB:=bs HB hb;clear hb;have z9:=AL uO.out)|(go_at_call 160;refine mA (je.calls A2.out) ?_;intro nd;(try exact dq))|(go_at_call 89;refine mA (aZ.calls A4.out) ?_;intro nd;(try exact dq))|(go_at_call 92;refine mA (kH.calls A7.out) ?_;intro nd;(try exact dq))))
    go_ret;exact⟨er,bb⟩
   ·have nG:=decide_eq_false c6;have xW:decide (eF.size≤150)=false:=decide_eq_false (by omega);clear c6;obtain rfl:=s1 H;go_enter Tryz.func120,Tryz.ntmps120;go_wp2_with (first|(refine gG 1 ?_;refine bX HB 1 #[.string dX, .string eF] 69 ?_;intro Gf w10 uO Gg hb;replace HB:=bs HB hb;clear hb;have z11:=AL uO.out)|(go_at_call 160;refine mA (je.calls A2.out) ?_;intro nd;(try exact dq))|(go_at_call 89;refine mA (aZ.calls A4.out) ?_;intro nd;(try exact dq)))
    repeat(go_quiet (first|(refine gG 1 ?_;refine bX HB 1 #[.string dX, .string eF] 69 ?_;intro Gf w10 uO Gg hb;replace HB:=bs HB hb;clear hb;have z11:=AL uO.out)|(go_at_call 160;refine mA (je.calls A2.out) ?_;intro nd;(try exact dq))|(go_at_call 89;refine mA (aZ.calls A4.out) ?_;intro nd;(try exact dq)));try go_wp2_with (first|(refine gG 1 ?_;refine bX HB 1 #[.string dX, .string eF] 69 ?_;intro Gf w10 uO Gg hb;replace HB:=bs HB hb;clear hb;have z11:=AL uO.out)|(go_at_call 160;refine mA (je.calls A2.out) ?_;intro nd;(try exact dq))|(go_at_call 89;refine mA (aZ.calls A4.out) ?_;intro nd;(try exact dq))))
    go_ret;exact⟨er,bb⟩
  ·obtain rfl:=s1 H;go_enter Tryz.func120,Tryz.ntmps120;go_wp2_with (first|(refine gG 1 ?_;refine bX HB 1 #[.string dX, .string eF] 69 ?_;intro Gf w12 uO Gg hb;replace HB:=bs HB hb;clear hb;have z13:=AL uO.out)|(go_at_call 160;refine mA (je.calls A2.out) ?_;intro nd;(try exact dq))|(go_at_call 89;refine mA (aZ.calls A4.out) ?_;intro nd;(try exact dq)))
   repeat(go_quiet (first|(refine gG 1 ?_;refine bX HB 1 #[.string dX, .string eF] 69 ?_;intro Gf w12 uO Gg hb;replace HB:=bs HB hb;clear hb;have z13:=AL uO.out)|(go_at_call 160;refine mA (je.calls A2.out) ?_;intro nd;(try exact dq))|(go_at_call 89;refine mA (aZ.calls A4.out) ?_;intro nd;(try exact dq)));try go_wp2_with (first|(refine gG 1 ?_;refine bX HB 1 #[.string dX, .string eF] 69 ?_;intro Gf w12 uO Gg hb;replace HB:=bs HB hb;clear hb;have z13:=AL uO.out)|(go_at_call 160;refine mA (je.calls A2.out) ?_;intro nd;(try exact dq))|(go_at_call 89;refine mA (aZ.calls A4.out) ?_;intro nd;(try exact dq))))
   go_ret;exact⟨er,bb⟩
 ·obtain rfl:=s1 H;go_enter Tryz.func120,Tryz.ntmps120;go_wp2_with (first|(refine gG 1 ?_;refine bX HB 1 #[.string dX, .string eF] 69 ?_;intro Gf UE uO Gg hb;replace HB:=bs HB hb;clear hb;have z15:=AL uO.out)|(go_at_call 160;refine mA (je.calls A2.out) ?_;intro nd;(try exact dq)))
  repeat(go_quiet (first|(refine gG 1 ?_;refine bX HB 1 #[.string dX, .string eF] 69 ?_;intro Gf UE uO Gg hb;replace HB:=bs HB hb;clear hb;have z15:=AL uO.out)|(go_at_call 160;refine mA (je.calls A2.out) ?_;intro nd;(try exact dq)));try go_wp2_with (first|(refine gG 1 ?_;refine bX HB 1 #[.string dX, .string eF] 69 ?_;intro Gf UE uO Gg hb;replace HB:=bs HB hb;clear hb;have z15:=AL uO.out)|(go_at_call 160;refine mA (je.calls A2.out) ?_;intro nd;(try exact dq))))
  go_ret;exact⟨er,bb⟩
def mO.f (k:Nat) (dX:ByteArray) (eF:ByteArray):Option (Bool):=(pK.f k dX eF).bind fun aro=>(some (!aro))
theorem mO.calls {k:Nat} {dX eF:ByteArray} {r:Bool} {w:World} (h:mO.f k dX eF=some r):
  Calls Tryz.prog 119 #[.agg #[.string dX, .string eF]] w fun e w'=>e= .returned (.bool r)∧Below w.heap.size w w':=by
 have EC:=Tryz.underlying69;have HB:=ak (Below.refl w.heap.size w);unfold mO.f at h;have H:=h;clear h;replace H:=bd H;obtain⟨aro,A2,H⟩:=H;obtain rfl:=s1 H;go_enter Tryz.func119,Tryz.ntmps119;go_wp2_with (first|(refine bX HB 1 #[.string dX, .string eF] 69 ?_;intro aCL w3 aeC aCM hb;replace HB:=bs HB hb;clear hb;have z4:=AL aeC.out)|(refine gB Tryz.func120 (pK.calls A2.out) ?_;intro w5 hb;replace aeC:=kb aeC hb;replace HB:=bz HB hb;clear hb))
 go_ret;exact⟨er,bb⟩
def bP.l0:Nat→List (gK)→Int→Int→Option (Int)
 |0,_,_,_=>none
 |k+1,x0,x7,x8=>if x8<x7 then(if 0≤x8 then(if x8<(x0.length:Int)then((mO.f k ((eU x0 x8).f0) ((eU x0 x8).f1)).bind fun arp=>(if arp=true then(some x8)else(bP.l0 k x0 x7 (wrap64 (x8+1)))))else(none))else(none))else(some (-1))
def bP.f (k:Nat) (l0:List (gK)):Option (Int):=bP.l0 k l0 (l0.length:Int) 0
theorem bP.calls {k c0:Nat} {A0:Option Addr} {l0:List (gK)} {r:Int} {w:World} (hr0:Kd.C qy w A0 l0.length l0) (hc0:l0.length≤c0) (h:bP.f k l0=some r):
  Calls Tryz.prog 122 #[.slice A0 l0.length c0, .func (.func 119) #[] #[]] w fun e w'=>e= .returned (.int .i64 r)∧Below w.heap.size w w':=by
 have EC:=Tryz.underlying69;have HR0:=ak hr0;have yF:=ak hc0;clear hr0 hc0;have HB:=ak (Below.refl w.heap.size w);unfold bP.f at h;have H:=h;clear h;have H':=ak H;clear H;go_enter Tryz.func122,Tryz.ntmps122;go_wp2;go_loopg [8] k (fun kq v8 w'=>∃(kN:Int),v8= .int .i64 kN∧ah (bP.l0 kq l0 (l0.length:Int) kN=some r)∧ah (kq≤k)∧ah (Below w.heap.size w w'))
 case atStart=>exact⟨_,rs,H',⟨Nat.le_refl _⟩,⟨ul HB.out⟩⟩
 case round=>
  clear H';obtain⟨kN,rfl,HA,yH,HB⟩:=hrel
  cases gk with
  |zero=>exact zz HA.out
  |succ k1=>
   obtain⟨H⟩:=HA;simp only[bP.l0]at H;replace H:=sd H;rcases H with⟨iH,H⟩|⟨iH,H⟩
   ·replace H:=nS H;obtain⟨qW,H⟩:=H;replace H:=nS H;obtain⟨mQ,H⟩:=H;replace H:=bd H;obtain⟨arp,A6,H⟩:=H;replace H:=sb H;rcases H with⟨rfl,H⟩|⟨rfl,H⟩
    ·obtain rfl:=s1 H;have YJ:=zi kN;have YK:=zj kN l0.length;obtain⟨arq,anF,J6,J7⟩:=qN HR0.out kN YJ YK;cases anF;replace J6:=cl HB.out J6;replace J7:=cl HB.out J7;replace YJ:=eq_true YJ;replace YK:=eq_true YK;go_wp2_with (go_at_call 119;refine mB (mO.calls A6.out) ?_;intro w8 hb;replace HB:=bs HB hb;clear hb)
     go_ret;exact⟨er,ul HB.out⟩
    ·have H':=ak H;clear H;have YJ:=zi kN;have YK:=zj kN l0.length;obtain⟨arq,anF,J6,J7⟩:=qN HR0.out kN YJ YK;cases anF;replace J6:=cl HB.out J6;replace J7:=cl HB.out J7;replace YJ:=eq_true YJ;replace YK:=eq_true YK;go_wp2_with (go_at_call 119;refine mB (mO.calls A6.out) ?_;intro w9 hb;replace HB:=bs HB hb;clear hb)
     go_roundg k1
     case measure=>exact kl
     case rel=>exact⟨_,rs,H',⟨kl⟩,⟨ul HB.out⟩⟩
   ·obtain rfl:=s1 H;go_wp2;go_ret;exact⟨er,ul HB.out⟩
def jy.f (k:Nat) (l0:List (gK)):Option (Bool):=(bP.f k l0).bind fun ars=>(some (decide (ars≥0)))
theorem jy.calls {k c0:Nat} {A0:Option Addr} {l0:List (gK)} {r:Bool} {w:World} (hr0:Kd.C qy w A0 l0.length l0) (hc0:l0.length≤c0) (h:jy.f k l0=some r):
  Calls Tryz.prog 118 #[.slice A0 l0.length c0, .func (.func 119) #[] #[]] w fun e w'=>e= .returned (.bool r)∧Below w.heap.size w w':=by
 have HR0:=ak hr0;have yF:=ak hc0;clear hr0 hc0;have HB:=ak (Below.refl w.heap.size w);unfold jy.f at h;have H:=h;clear h;replace H:=bd H;obtain⟨ars,A3,H⟩:=H;obtain rfl:=s1 H;go_enter Tryz.func118,Tryz.ntmps118;go_wp2_with (refine gB Tryz.func122 (bP.calls (cu HR0.out) yF.out A3.out) ?_;intro w4 hb;replace HB:=bs HB hb;clear hb)
 go_ret;exact⟨er,ul HB.out⟩
def mX.f (k:Nat) (l0:List (gK)):Option (Bool):=if(l0.length:Int)≤20 then((jy.f k l0).bind fun aru=>(some (!aru)))else(some false)
theorem mX.calls {k c0:Nat} {A0:Option Addr} {l0:List (gK)} {r:Bool} {w:World} (hr0:Kd.C qy w A0 l0.length l0) (hc0:l0.length≤c0) (h:mX.f k l0=some r):
  Calls Tryz.prog 82 #[.slice A0 l0.length c0] w fun e w'=>e= .returned (.bool r)∧Below w.heap.size w w':=by
 have HR0:=ak hr0;have yF:=ak hc0;clear hr0 hc0;have HB:=ak (Below.refl w.heap.size w);unfold mX.f at h;have H:=h;clear h;replace H:=sp H;rcases H with⟨c2,H⟩|⟨c2,H⟩
 ·have nY:=decide_eq_true c2;have uJ:decide (l0.length≤20)=true:=decide_eq_true (by omega);clear c2;replace H:=bd H;obtain⟨aru,A3,H⟩:=H;obtain rfl:=s1 H;go_enter Tryz.func82,Tryz.ntmps82;go_wp2_with (go_at_call 118;refine mB (jy.calls (cu HR0.out) yF.out A3.out) ?_;intro w4 hb;replace HB:=bs HB hb;clear hb)
  go_ret;exact⟨er,ul HB.out⟩
 ·have nY:=decide_eq_false c2;have uJ:decide (l0.length≤20)=false:=decide_eq_false (by omega);clear c2;obtain rfl:=s1 H;go_enter Tryz.func82,Tryz.ntmps82;go_wp2;go_ret;exact⟨er,ul HB.out⟩
mutual
def aY.j0:Nat→ByteArray→Int→Option (List ByteArray)
 |0,_,_=>none
 |k+1,x3,x4=>aY.l0 k x3 x4 (([]:List ByteArray))
def aY.l0:Nat→ByteArray→Int→List ByteArray→Option (List ByteArray)
 |0,_,_,_=>none
 |k+1,x3,x4,x5=>if(x3.size:Int)>40 then(aY.l1 k x3 x5 (-1) x4)else(if x5.length<8796093022208 then(some (x5++[x3]))else(none))
def aY.l1:Nat→ByteArray→List ByteArray→Int→Int→Option (List ByteArray)
 |0,_,_,_,_=>none
 |k+1,x3,x5,x6,x7=>if(wrap64 (x7+1))<(x3.size:Int)then(if 0≤x7 then(if x7<(x3.size:Int)then(if(bt x3 x7)=32 then(if 0≤(wrap64 (x7-1))then(if(wrap64 (x7-1))<(x3.size:Int)then(if(bt x3 (wrap64 (x7-1)))=32 then(aY.l1 k x3 x5 x6 (wrap64 (x7+1)))else(if 0≤(wrap64 (x7+1))then(if(bt x3 (wrap64 (x7+1)))=32 then(aY.l1 k x3 x5 x6 (wrap64 (x7+1)))else(if x6<0 then(aY.l1 k x3 x5 x7 (wrap64 (x7+1)))else(if x7≤40 then(aY.l1 k x3 x5 x7 (wrap64 (x7+1)))else(aY.l1 k x3 x5 x6 (wrap64 (x7+1))))))else(none)))else(none))else(none))else(aY.l1 k x3 x5 x6 (wrap64 (x7+1))))else(none))else(none))else(if x6<0 then(if x5.length<8796093022208 then(some (x5++[x3]))else(none))else(if 0≤x6 then(if x6≤(x3.size:Int)then(if x5.length<8796093022208 then(aY.l0 k (x3.extract (x6:Int).toNat x3.size) 2 (x5++[x3.extract 0 (x6:Int).toNat]))else(none))else(none))else(none)))
end
def aY.f (k:Nat) (dX:ByteArray) (eF:ByteArray):Option (List ByteArray):=if dX.size+1≤9223372036854775807 then(if eF.toList=([]:List UInt8)then(aY.j0 k (dX++(⟨#[58]⟩:ByteArray)) (wrap64 ((dX.size:Int)+3)))else(if 1+eF.size≤9223372036854775807 then(if(dX++(⟨#[58]⟩:ByteArray)).size+((⟨#[32]⟩:ByteArray)++eF).size≤9223372036854775807 then(aY.j0 k ((dX++(⟨#[58]⟩:ByteArray))++((⟨#[32]⟩:ByteArray)++eF)) (wrap64 ((dX.size:Int)+3)))else(none))else(none)))else(none)
theorem aY.calls {k:Nat} {dX eF:ByteArray} {r:List ByteArray} {w:World} (h:aY.f k dX eF=some r):
  Calls Tryz.prog 83 #[.agg #[.string dX, .string eF]] w fun e w'=>∃oD:Value,e= .returned (oD)∧Kd.R Kd.string 9 w' w.heap.size (fun _=>True) oD r∧Below w.heap.size w w':=by
 have EC:=Tryz.underlying69;have HB:=ak (Below.refl w.heap.size w);unfold aY.f at h;have H:=h;clear h;replace H:=nn H;obtain⟨c2,H⟩:=H;have nY:=eq_true c2;have uJ:=decide_eq_true c2;try have aeD:(9223372036854775807<dX.size+1)=False:=eq_false (Nat.not_lt.2 c2)
 have Qo:=ak H;clear H;go_enter Tryz.func83,Tryz.ntmps83;try go_wp2_with (refine bX HB 1 #[.string dX, .string eF] 69 ?_;intro Ox w4 pV aCN hb;replace HB:=bs HB hb;clear hb)
 refine rO [] [0,3,1,2,7,4,5,6,8] (fun w'=>w'.cell? ⟨Ox,0,none⟩=some (.string dX)∧w'.cell? ⟨Ox,1,none⟩=some (.string eF)) ?_;intro w5 hb;replace pV:=kb pV hb;replace HB:=bs HB hb;refine⟨sx,?_⟩;repeat refine Ad ?_
 refine on ?_;have z6:=AL pV.out;go_upto_if 17 with(fail)
 go_cut [3] (fun v3 wc=>∃(kq:Nat) (kW:ByteArray),v3= .string kW∧ah (aY.j0 kq kW (wrap64 ((dX.size:Int)+3))=some r)∧ah (kq≤k)∧ah (wc.heap[Ox]? =some (.cells #[.string dX, .string eF] 69 (0,0)))∧ah (Below w.heap.size w wc))
 case first=>
  have H:=Qo.out;clear Qo;replace H:=sp H;rcases H with⟨c7,H⟩|⟨c7,H⟩
  ·have qO:=beq_iff_eq.mpr c7;have c7e:(eF.toList).isEmpty=true:=List.isEmpty_iff.mpr c7;have Jl:=bne_eq_false_iff_eq.mpr c7;clear c7
   (first|rw[qO]|(simp only[iP,jZ];rw[qO])|skip)
   (first|(rw[c7e];simp only[Bool.not_true,Bool.not_false])|skip);have H':=ak H;clear H;go_wp2;go_meet
   case rel=>exact⟨_,_,rs,H',⟨Jp⟩,⟨ub pV.out⟩,⟨bb⟩⟩
  ·have qO:=beq_eq_false_iff_ne.mpr c7;have c7e:(eF.toList).isEmpty=false:=List.isEmpty_eq_false_iff.mpr c7;have Jl:=bne_iff_ne.mpr c7
   (first|rw[qO]|(simp only[iP,jZ];rw[qO])|skip)
   (first|(rw[c7e];simp only[Bool.not_true,Bool.not_false])|skip);replace H:=nn H;obtain⟨c8,H⟩:=H;have tK:=eq_true c8;have FH:=decide_eq_true c8;try have arv:(9223372036854775807<1+eF.size)=False:=eq_false (Nat.not_lt.2 c8)
   replace H:=nn H;obtain⟨c9,H⟩:=H;have yI:=eq_true c9;have Gh:=decide_eq_true c9;try have aFU:(9223372036854775807<dX.size+1+(1+eF.size))=False:=by have h_:=(eq_false (Nat.not_lt.2 c9):(9223372036854775807<(dX++(⟨#[58]⟩:ByteArray)).size+((⟨#[32]⟩:ByteArray)++eF).size)=False);simp only[ByteArray.size_append]at h_;exact h_
   try have arw:(9223372036854775807<(dX++(⟨#[58]⟩:ByteArray)).size+((⟨#[32]⟩:ByteArray)++eF).size)=False:=eq_false (Nat.not_lt.2 c9)
   have H':=ak H;clear H;have z10:=AL pV.out;go_wp2;go_meet
   case rel=>exact⟨_,_,rs,H',⟨Jp⟩,⟨ub pV.out⟩,⟨bb⟩⟩
 case rest=>
  clear Qo;try clear c2
  try clear nY
  try clear uJ
  try clear aeD
  obtain⟨kq,kW,rfl,HA,HJ2,pV,HB⟩:=hcut
  cases kq with
  |zero=>exact zz HA.out
  |succ kj2=>
   obtain⟨H⟩:=HA;simp only[aY.j0]at H;obtain⟨aFV,akg⟩:=nm ([]:List ByteArray);rw[←akg.out]at H;have H':=ak H;clear H;go_wp2_with (refine Hy 23 Kd.string 9 akg ?_;intro aFW WI aeE hb;have arx:=ak (Kd.aA aeE (aj bb));replace pV:=kb pV hb;replace HB:=bz HB hb;clear hb aeE)
   go_loopg [3,4,5] kj2 (fun kq v3 v4 v5 w'=>∃(kW:ByteArray) (nZ:Int) (sD:List ByteArray),v3= .string kW∧v4= .int .i64 nZ∧ah (aY.l0 kq kW nZ sD=some r)∧ah (kq≤kj2)∧ah (Kd.R Kd.string 9 w' w.heap.size (fun _=>True) v5 sD)∧ah (w'.heap[Ox]? =some (.cells #[.string dX, .string eF] 69 (0,0)))∧ah (Below w.heap.size w w'))
   case atStart=>exact⟨_,_,_,rs,rs,H',⟨Nat.le_refl _⟩,⟨ur arx.out⟩,⟨ub pV.out⟩,⟨bb⟩⟩
   case round=>
    clear H';try clear c2
    try clear nY
    try clear uJ
    try clear aeD
    obtain⟨kW,nZ,sD,rfl,rfl,HA,HK2,pY,pV,HB⟩:=hrel
    cases gk with
    |zero=>exact zz HA.out
    |succ k2=>
     obtain⟨H⟩:=HA;simp only[aY.l0]at H;replace H:=sp H;rcases H with⟨c13,H⟩|⟨c13,H⟩
     ·have vW:decide (40<(kW.size:Int))=true:=decide_eq_true c13;have Az:decide (40<kW.size)=true:=decide_eq_true (by omega);clear c13;have H':=ak H;clear H;go_wp2;go_loopg [6,7] k2 (fun kq v6 v7 w'=>∃(D_:Int) (pO:Int),v6= .int .i64 D_∧v7= .int .i64 pO∧ah (aY.l1 kq kW sD D_ pO=some r)∧ah (kq≤k2)∧ah (Kd.R Kd.string 9 w' w.heap.size (fun _=>True) u5 sD)∧ah (w'.heap[Ox]? =some (.cells #[.string dX, .string eF] 69 (0,0)))∧ah (Below w.heap.size w w'))
      case atStart=>exact⟨_,_,rs,rs,H',⟨Nat.le_refl _⟩,⟨ur pY.out⟩,⟨ub pV.out⟩,⟨bb⟩⟩
      case round=>
       clear H';try clear c2
       try clear nY
       try clear uJ
       try clear aeD
       try clear c13
       try clear vW
       try clear Az
       obtain⟨D_,pO,rfl,rfl,HA,WX,pY,pV,HB⟩:=hrel
       cases gk with
       |zero=>exact zz HA.out
       |succ k3=>
        obtain⟨H⟩:=HA;simp only[aY.l1]at H;replace H:=sp H;rcases H with⟨c14,H⟩|⟨c14,H⟩
        ·have sK:=decide_eq_true c14
         (try(have xY:decide ((pO+1)<(kW.size:Int))=true:=decide_eq_true (by have h_:=c14;unfold wrap64 at h_;omega)));clear c14;replace H:=nS H;obtain⟨vX,H⟩:=H;replace H:=nS H;obtain⟨AA,H⟩:=H;replace H:=sq H;rcases H with⟨vY,JY,H⟩|⟨c18,vY,JY,H⟩
         ·obtain⟨UW,aeF⟩:∃j_:Int,(wrap64 (pO-1))=j_:=⟨_,rfl⟩
          replace H:(if 0≤(UW)then(if(UW)<(kW.size:Int)then(if(bt kW (UW))=32 then(aY.l1 k3 kW sD D_ (wrap64 (pO+1)))else(if 0≤(wrap64 (pO+1))then(if(bt kW (wrap64 (pO+1)))=32 then(aY.l1 k3 kW sD D_ (wrap64 (pO+1)))else(if D_<0 then(aY.l1 k3 kW sD pO (wrap64 (pO+1)))else(if pO≤40 then(aY.l1 k3 kW sD pO (wrap64 (pO+1)))else(aY.l1 k3 kW sD D_ (wrap64 (pO+1))))))else(none)))else(none))else(none))=some r:=by first|(rw[aeF]at H;exact H)|(simp only[aeF]at H⊢;exact H)
          have azN:(IntKind.i64.wrap (pO-1))=UW:=(iP _).trans aeF;replace H:=nS H;obtain⟨Oo,H⟩:=H;replace H:=nS H;obtain⟨Fb,H⟩:=H;replace H:=sq H;rcases H with⟨Aw,Oy,H⟩|⟨c23,Aw,Oy,H⟩
          ·have H':=ak H;clear H;obtain⟨p17,q17,aeG⟩:=bx kW pO;obtain⟨p22,q22,ain⟩:=bx kW (UW);go_wp2;go_roundg k3
           case measure=>exact kl
           case rel=>exact⟨_,_,rs,rs,H',⟨kl⟩,⟨ur pY.out⟩,⟨ub pV.out⟩,⟨bb⟩⟩
          ·obtain⟨QA,Oz⟩:∃j_:Int,(wrap64 (pO+1))=j_:=⟨_,rfl⟩
           replace H:(if 0≤(QA)then(if(bt kW (QA))=32 then(aY.l1 k3 kW sD D_ QA)else(if D_<0 then(aY.l1 k3 kW sD pO QA)else(if pO≤40 then(aY.l1 k3 kW sD pO QA)else(aY.l1 k3 kW sD D_ QA))))else(none))=some r:=by first|(rw[Oz]at H;exact H)|(simp only[Oz]at H⊢;exact H)
           (try rw[Oz]at sK);have azO:(IntKind.i64.wrap (pO+1))=QA:=(iP _).trans Oz;replace H:=nS H;obtain⟨Qs,H⟩:=H;replace H:=sq H;rcases H with⟨Gi,aaC,H⟩|⟨c27,Gi,aaC,H⟩
           ·have H':=ak H;clear H;obtain⟨p17,q17,aeG⟩:=bx kW pO;obtain⟨p22,q22,ain⟩:=bx kW (UW);obtain⟨p26,q26,anG⟩:=bx kW (QA);go_wp2;go_roundg k3
            case measure=>exact kl
            case rel=>exact⟨_,_,rs,(by first|rfl|(simp;done)|(simp only[←Oz]<;>(first|rfl|simp))|(simp[*];done)),H',⟨kl⟩,⟨ur pY.out⟩,⟨ub pV.out⟩,⟨bb⟩⟩
           ·replace H:=sd H;rcases H with⟨Gj,H⟩|⟨Gj,H⟩
            ·have H':=ak H;clear H;obtain⟨p17,q17,aeG⟩:=bx kW pO;obtain⟨p22,q22,ain⟩:=bx kW (UW);obtain⟨p26,q26,anG⟩:=bx kW (QA);go_wp2;go_roundg k3
             case measure=>exact kl
             case rel=>exact⟨_,_,rs,(by first|rfl|(simp;done)|(simp only[←Oz]<;>(first|rfl|simp))|(simp[*];done)),H',⟨kl⟩,⟨ur pY.out⟩,⟨ub pV.out⟩,⟨bb⟩⟩
            ·replace H:=sd H;rcases H with⟨aaD,H⟩|⟨aaD,H⟩
             ·have H':=ak H;clear H;obtain⟨p17,q17,aeG⟩:=bx kW pO;obtain⟨p22,q22,ain⟩:=bx kW (UW);obtain⟨p26,q26,anG⟩:=bx kW (QA);go_wp2;go_roundg k3
              case measure=>exact kl
              case rel=>exact⟨_,_,rs,(by first|rfl|(simp;done)|(simp only[←Oz]<;>(first|rfl|simp))|(simp[*];done)),H',⟨kl⟩,⟨ur pY.out⟩,⟨ub pV.out⟩,⟨bb⟩⟩
             ·have H':=ak H;clear H;obtain⟨p17,q17,aeG⟩:=bx kW pO;obtain⟨p22,q22,ain⟩:=bx kW (UW);obtain⟨p26,q26,anG⟩:=bx kW (QA);go_wp2;go_roundg k3
              case measure=>exact kl
              case rel=>exact⟨_,_,rs,(by first|rfl|(simp;done)|(simp only[←Oz]<;>(first|rfl|simp))|(simp[*];done)),H',⟨kl⟩,⟨ur pY.out⟩,⟨ub pV.out⟩,⟨bb⟩⟩
         ·have H':=ak H;clear H;obtain⟨p17,q17,aeG⟩:=bx kW pO;go_wp2;go_roundg k3
          case measure=>exact kl
          case rel=>exact⟨_,_,rs,rs,H',⟨kl⟩,⟨ur pY.out⟩,⟨ub pV.out⟩,⟨bb⟩⟩
        ·have sK:=decide_eq_false c14
         (try(have xY:decide ((pO+1)<(kW.size:Int))=false:=decide_eq_false (by have h_:=c14;unfold wrap64 at h_;omega)));clear c14;replace H:=sd H;rcases H with⟨aaE,H⟩|⟨aaE,H⟩
         ·replace H:=nl H;obtain⟨aeH,H⟩:=H;obtain⟨aFX,akh⟩:=nm (sD++[kW]);rw[←akh.out]at H;obtain rfl:=s1 H;go_wp2_with ((with_reducible refine dO (b:= .append) (xs:=#[.tmp 73, .tmp 75]) rfl ?_);at_builtin;refine Kd.oI Kd.string (w0:=w) w.heap.size rfl (.tmp 73) (.tmp 75) 23 9 (.string ⟨#[]⟩) 16 rfl Tryz.underlying23 info9 rfl (by decide) (by omega) u5 sD kW [.string kW] (fun _=>True) (fun _=>False) rfl rfl ?aP (fun _ hk=>hk.elim) ?aF ?aO ?aB ?aS ?aL ?_;(case aP=>exact rfl);(case aB=>exact bb);(case aF=>exact(fun _ _=>trivial));(case aO=>exact(ur pY.out));(case aS=>exact(aj bb));(case aL=>have:=aeH.out;omega);intro aFY w32 ho hb hg hat;rw[←akh.out]at ho;have arz:=ak (ho);replace pV:=ak (b_ (g:=Ox) (o:= .cells #[.string dX, .string eF] 69 (0,0)) (ub pV.out) hg (Kd.oH pY.out pV.out (by decide)));replace HB:=ak (hb);clear ho hb hg hat pY)
          go_ret;exact⟨_,er,ur arz.out,bb⟩
         ·replace H:=AY H;obtain⟨TJ,aeI,H⟩:=H;replace H:=AY H;obtain⟨WY,WZ,H⟩:=H;replace H:=nl H;obtain⟨aeJ,H⟩:=H;obtain⟨aFZ,aki⟩:=nm (sD++[kW.extract 0 (D_:Int).toNat]);rw[←aki.out]at H;have akj:=eq_true (of_decide_eq_true (by assumption):0≤D_);have aCO:=eq_true (of_decide_eq_true (by assumption):D_≤(kW.size:Int));have H':=ak H;clear H;try go_wp2
          replace pY:=ak (Kd.lM pY.out);replace pV:=ak (jC pV.out);replace HB:=ak (iI HB.out);refine ro [4,5] [0,1,2,3,6,7,8,4,5,9,10,11] (fun w'=>True) trivial ?_
          generalize wr.drew=w38 at pY pV HB⊢
          repeat refine Ad ?_
          refine ld (N:=some 68) (gk.trans rfl) rfl rfl (fun K hK=>?_);refine DV (w1:=?_) (v:=?_) (by rfl) rfl ?_ ?_
          rotate_left 2
          ·go_simp;constructor
           ·rfl
           ·rfl
          refine hK.out _ _ trivial ?_;clear hK K;refine no (a':=?_) ?_ ?_
          rotate_left
          ·show Act.put _ (some 68) _=_
           simp only[Act.put,Aq,Ar,l_c,iP,jZ];rfl
          refine ld (N:=some 69) (gk.trans rfl) rfl rfl (fun K hK=>?_);refine Kd.nD Kd.string (w0:=w) w.heap.size (by rfl) (.tmp 64) (.tmp 68) 23 9 (.string ⟨#[]⟩) 16 rfl Tryz.underlying23 info9 rfl (by decide) (by omega) u5 sD (kW.extract 0 (D_:Int).toNat) [.string (kW.extract 0 (D_:Int).toNat)] (fun _=>True) (fun _=>False) rfl rfl ?aP (fun _ hk=>hk.elim) ?aF ?aO ?aB ?aS ?aL ?_
          (case aP=>exact rfl)
          (case aB=>exact bb)
          (case aF=>exact(fun _ _=>trivial))
          (case aO=>exact(ur pY.out))
          (case aS=>exact(aj bb))
          (case aL=>have:=aeJ.out;omega);intro aF0 w39 ho hb hg hat
          rw[←aki.out]at ho;have zB:=ak (b_ (g:=Ox) (o:= .cells #[.string dX, .string eF] 69 (0,0)) (ub pV.out) hg (Kd.oH pY.out pV.out (by decide)));have zC:=ak (hb);have Au:=ak (ho);clear pV HB pY;have pV:=zB;have HB:=zC;have arA:=Au;clear zB zC Au ho hb hg hat
          refine hK.out _ _ trivial ?_;clear hK K;refine no (a':=?_) ?_ ?_
          rotate_left
          ·show Act.put _ (some 69) _=_
           simp only[Act.put,Aq,Ar,l_c,iP,jZ];rfl
          repeat refine Ad ?_
          refine on ?_;try go_wp2
          go_roundg k3
          case measure=>exact kl
          case rel=>exact⟨_,_,_,rs,rs,H',⟨kl⟩,⟨ur arA.out⟩,⟨ub pV.out⟩,⟨bb⟩⟩
     ·have vW:decide (40<(kW.size:Int))=false:=decide_eq_false c13;have Az:decide (40<kW.size)=false:=decide_eq_false (by omega);clear c13;replace H:=nl H;obtain⟨W9,H⟩:=H;obtain⟨aF1,akk⟩:=nm (sD++[kW]);rw[←akk.out]at H;obtain rfl:=s1 H;go_wp2_with ((with_reducible refine dO (b:= .append) (xs:=#[.tmp 73, .tmp 75]) rfl ?_);at_builtin;refine Kd.oI Kd.string (w0:=w) w.heap.size rfl (.tmp 73) (.tmp 75) 23 9 (.string ⟨#[]⟩) 16 rfl Tryz.underlying23 info9 rfl (by decide) (by omega) u5 sD kW [.string kW] (fun _=>True) (fun _=>False) rfl rfl ?aP (fun _ hk=>hk.elim) ?aF ?aO ?aB ?aS ?aL ?_;(case aP=>exact rfl);(case aB=>exact bb);(case aF=>exact(fun _ _=>trivial));(case aO=>exact(ur pY.out));(case aS=>exact(aj bb));(case aL=>have:=W9.out;omega);intro aF2 w41 ho hb hg hat;rw[←akk.out]at ho;have arB:=ak (ho);replace pV:=ak (b_ (g:=Ox) (o:= .cells #[.string dX, .string eF] 69 (0,0)) (ub pV.out) hg (Kd.oH pY.out pV.out (by decide)));replace HB:=ak (hb);clear ho hb hg hat pY)
      go_ret;exact⟨_,er,ur arB.out,bb⟩
def iZ.l0:Nat→List ByteArray→List (gK)→Int→Int→Option (List ByteArray×Bool)
 |0,_,_,_,_=>none
 |k+1,x4,x11,x12,Nh=>if Nh<x12 then(if 0≤Nh then(if Nh<(x11.length:Int)then((aY.f k ((eU x11 Nh).f0) ((eU x11 Nh).f1)).bind fun acX=>(if x4.length+acX.length<8796093022208 then(iZ.l0 k (x4++acX) x11 x12 (wrap64 (Nh+1)))else(none)))else(none))else(none))else(some (x4,true))
def iZ.f (k:Nat) (l0:List (gK)):Option (List ByteArray×Bool):=(mX.f k l0).bind fun arC=>(if arC=true then(iZ.l0 k (([]:List ByteArray)) l0 (l0.length:Int) 0)else(some (([]:List ByteArray),false)))
theorem iZ.calls {k c0:Nat} {A0:Option Addr} {l0:List (gK)} {r1:List ByteArray} {r2:Bool} {w:World} (hr0:Kd.C qy w A0 l0.length l0) (hc0:l0.length≤c0) (h:iZ.f k l0=some (r1,r2)):
  Calls Tryz.prog 39 #[.slice A0 l0.length c0] w fun e w'=>∃oD:Value,e= .returned (.tuple #[oD, .bool r2])∧Kd.R Kd.string 9 w' w.heap.size (fun _=>True) oD r1∧Below w.heap.size w w':=by
 have EC:=Tryz.underlying69;have HR0:=ak hr0;have yF:=ak hc0;clear hr0 hc0;have HB:=ak (Below.refl w.heap.size w);unfold iZ.f at h;have H:=h;clear h;replace H:=bd H;obtain⟨arC,A2,H⟩:=H;replace H:=sb H;rcases H with⟨rfl,H⟩|⟨rfl,H⟩
 ·obtain⟨aF3,akl⟩:=nm ([]:List ByteArray);rw[←akl.out]at H;have H':=ak H;clear H;go_enter Tryz.func39,Tryz.ntmps39;go_wp2_with (first|(refine gB Tryz.func82 (mX.calls (cu HR0.out) yF.out A2.out) ?_;intro w4 hb;replace HB:=bs HB hb;clear hb)|(refine Hy 10 Kd.string 9 akl ?_;intro aF4 w5 TK hb;have arD:=ak (Kd.aA TK (aj (ul HB.out)));replace HB:=bs HB hb;clear hb TK))
  go_loopg [4,13] k (fun kq v4 v13 w'=>∃(eu:List ByteArray) (C9:Int),v13= .int .i64 C9∧ah (iZ.l0 kq eu l0 (l0.length:Int) C9=some (r1,r2))∧ah (kq≤k)∧ah (Kd.R Kd.string 9 w' w.heap.size (fun _=>True) v4 eu)∧ah (Below w.heap.size w w'))
  case atStart=>exact⟨_,_,rs,H',⟨Nat.le_refl _⟩,⟨ur arD.out⟩,⟨ul HB.out⟩⟩
  case round=>
   clear H';obtain⟨eu,C9,rfl,HA,yH,fP,HB⟩:=hrel
   cases gk with
   |zero=>exact zz HA.out
   |succ k1=>
    obtain⟨H⟩:=HA;simp only[iZ.l0]at H;replace H:=sd H;rcases H with⟨qO,H⟩|⟨qO,H⟩
    ·replace H:=nS H;obtain⟨tK,H⟩:=H;replace H:=nS H;obtain⟨yI,H⟩:=H;replace H:=bd H;obtain⟨acX,Ym,H⟩:=H;replace H:=nl H;obtain⟨QB,H⟩:=H;obtain⟨aF5,akm⟩:=nm (eu++acX);rw[←akm.out]at H;have H':=ak H;clear H;have anH:=zi C9;have anI:=zj C9 l0.length;obtain⟨aCP,azP,aaF,aaG⟩:=qN HR0.out C9 anH anI;cases azP;replace aaF:=cl HB.out aaF;replace aaG:=cl HB.out aaG;replace anH:=eq_true anH;replace anI:=eq_true anI;go_wp2_with (first|(refine bX HB 6 #[.string (⟨#[]⟩:ByteArray), .string (⟨#[]⟩:ByteArray)] 69 ?_;intro arE w12 TL aCQ hb;replace fP:=rb fP hb;replace HB:=bs HB hb;clear hb;have z13:=AL TL.out)|(refine gV Tryz.func83 (aY.calls Ym.out) ?_;rintro aF6 UE ⟨ho0,hb⟩;have Xa:=ak (Kd.aA (Kd.eX ho0 (Kd.jw (rh fP))) (aj bb));replace fP:=ak (Kd.bW (rh fP) (Kd.dw ho0) hb);replace TL:=kp TL #[.string ((eU l0 C9).f0), .string ((eU l0 C9).f1)] hb;replace HB:=bz HB hb;clear hb;(try clear ho0);obtain⟨Qx,Qy,Qz⟩:=Kd.aI Xa.out;subst Qz)|((with_reducible refine dO (b:= .append) (xs:=#[.tmp 17, .tmp 19]) rfl ?_);at_builtin;refine Kd.qj Kd.string (w0:=w) w.heap.size rfl (.tmp 17) (.tmp 19) 23 9 (.string ⟨#[]⟩) 16 rfl Tryz.underlying23 info9 rfl (by decide) (by omega) u4 eu acX _ _ _ (fun k_=>some k_≠(.slice Qx acX.length Qy:Value).ownBlock) (fun _=>False) rfl rfl ?aO ?aR (fun _ _ h=>h) (fun _ h=>h.elim) ?aF ?aB ?aS ?aL ?_;(case aR=>repeat(first|exact(Kd.ay Xa.out).2.2|(with_reducible refine Kd.ji ?_ _)|(with_reducible refine Kd.jk ?_ _)|(with_reducible refine Kd.kM ?_)));(case aB=>exact bb);(case aF=>exact(fun k_ hk=>Kd.fresh' (Kd.jw (ur Xa.out)) k_ hk));(case aO=>exact(ur (Kd.aQ fP.out (fun _ hk=>hk.2))));(case aS=>exact(aj bb));(case aL=>have:=QB.out;omega);intro aF7 w15 ho hb hg hat;rw[←akm.out]at ho;have arF:=ak (ho);replace TL:=ak (b_ (g:=arE) (o:= .cells #[.string ((eU l0 C9).f0), .string ((eU l0 C9).f1)] 69 (0,0)) (ub TL.out) hg (Kd.oH fP.out TL.out (by decide)));replace Xa:=ak (Kd.AZ (ok:=(fun _=>True)) (ur Xa.out) hg hat);replace HB:=ak (hb);clear ho hb hg hat fP))
     go_roundg k1
     case measure=>exact kl
     case rel=>exact⟨_,_,rs,H',⟨kl⟩,⟨ur (Kd.aQ arF.out (fun _ hk=>trivial))⟩,⟨bb⟩⟩
    ·obtain⟨rfl,rfl⟩:=s2 H;go_wp2;go_ret2;exact⟨_,er,ur fP.out,ul HB.out⟩
 ·obtain⟨rfl,rfl⟩:=s2 H;go_enter Tryz.func39,Tryz.ntmps39;go_wp2_with (refine gB Tryz.func82 (mX.calls (cu HR0.out) yF.out A2.out) ?_;intro w17 hb;replace HB:=bs HB hb;clear hb)
  go_ret2;exact⟨_,er,nx,ul HB.out⟩
def iQ.f (a0:ByteArray):Option (ByteArray):=if a0.size≤140737488355328 then some (strOfNums ((bytesOf a0).map SQ))else none
set_option maxHeartbeats 1000000 in
set_option maxRecDepth 100000 in
theorem iQ.calls {a0 r:ByteArray} {w:World} (h:iQ.f a0=some r):
  Calls Tryz.prog 93 #[.string a0] w fun e w'=>e= .returned (.string r)∧Below w.heap.size w w':=by
 unfold iQ.f at h;split at h
 ·rename_i hb
  injection h with h;subst h;have kb:=fun W=>Ou (P:=Tryz.prog) 9 22 5 Tryz.underlying9 Tryz.underlying22 Tryz.underlying5 a0 W
  go_enter Tryz.func93,Tryz.ntmps93;go_wp2;go_loopw [10] (fun i W=>∃k:Nat,k≤a0.size∧i= .int .i64 k∧Na w w.heap.size (FI (bytesOf a0) k) W) (fun i _=>a0.size-(intOf i).toNat)
  case atStart=>exact⟨0,Nat.zero_le _,rfl,by simpa [FI] using J5 w 5 a0⟩
  case round=>
   obtain⟨k,hk,rfl,hR⟩:=hrel;have HR:=ak hR;by_cases hlt:k<a0.size
   ·have hc:=hR.cell k (by rw[lV,bytesOf_length];exact hlt);have hf:=hR.free k (by rw[lV,bytesOf_length];exact hlt);rw[UR _ _ (by rw[bytesOf_length];exact hlt)]at hc;clear hR;have hr:=IW a0 k;have hs:=ak (TF (bytesOf a0) k (by rw[bytesOf_length];exact hlt));have hu:=ak (Nb (bytesOf a0) k (by rw[bytesOf_length];exact hlt))
    generalize (bytesOf a0).getD k 0=c at hc hr hs hu
    go_wp2
    ·go_roundw
     case rel=>exact⟨k+1,by omega,by go_num,by
      rw[hu.out,SQ,if_pos ⟨by omega,by omega⟩];exact HR.out.store (Nat.le_refl _) k (by rw[lV,bytesOf_length];exact hlt) _⟩
     case measure=>simp[intOf];omega
    ·go_roundw
     case rel=>exact⟨k+1,by omega,by go_num,by rw[hs.out (by omega)];exact HR.out⟩
     case measure=>simp[intOf];omega
    ·go_roundw
     case rel=>exact⟨k+1,by omega,by go_num,by rw[hs.out (by omega)];exact HR.out⟩
     case measure=>simp[intOf];omega
   ·clear hR
    have kd:=run_convert_bytes_arg (P:=Tryz.prog) wr 22 5 Tryz.underlying22 Tryz.underlying5 w.heap.size 0 a0.size (grownCap w a0.size 0 5) (FI (bytesOf a0) k) (by rw[lV,bytesOf_length]) (fun i hi=>by
     rw[Nat.zero_add];exact HR.out.cell i (by rw[lV,bytesOf_length];exact hi)) 9 Tryz.underlying9
    go_wp2;go_ret;have hk2:k=a0.size:=by omega
    exact⟨by rw[hk2,WW (bytesOf a0) a0.size (bytesOf_length a0)];rfl,HR.out.below⟩
 ·cases h
def rJ.f (a0:ByteArray) (a1:ByteArray):Option (Bool):=(iQ.f a0).bind fun arG=>((iQ.f a1).bind fun arH=>(some (arG.toList==arH.toList)))
theorem rJ.calls {a0 a1:ByteArray} {r:Bool} {w:World} (h:rJ.f a0 a1=some r):
  Calls Tryz.prog 124 #[.string a0, .string a1] w fun e w'=>e= .returned (.bool r)∧Below w.heap.size w w':=by
 have HB:=ak (Below.refl w.heap.size w);unfold rJ.f at h;have H:=h;clear h;replace H:=bd H;obtain⟨arG,A3,H⟩:=H;replace H:=bd H;obtain⟨arH,A4,H⟩:=H;obtain rfl:=s1 H;go_enter Tryz.func124,Tryz.ntmps124;go_wp2_with (first|(refine gB Tryz.func93 (iQ.calls A3.out) ?_;intro w5 hb;replace HB:=bs HB hb;clear hb)|(refine gB Tryz.func93 (iQ.calls A4.out) ?_;intro w6 hb;replace HB:=bs HB hb;clear hb))
 go_ret;exact⟨er,ul HB.out⟩
def nJ.f (dX:ByteArray) (eF:ByteArray) (a1:ByteArray):Option (Bool):=(rJ.f dX a1).bind fun arI=>(some arI)
theorem nJ.calls {dX eF a1:ByteArray} {gq1:Nat} {r:Bool} {w:World} (hq1:w.heap[gq1]? =some (.cells #[.string a1] 9 (0,0))) (h:nJ.f dX eF a1=some r):
  Calls Tryz.prog 123 #[.agg #[.string dX, .string eF], .pointer (some ⟨gq1,0,none⟩)] w fun e w'=>e= .returned (.bool r)∧Below w.heap.size w w':=by
 have EC:=Tryz.underlying69;have uP:=ak hq1;clear hq1;have HB:=ak (Below.refl w.heap.size w);unfold nJ.f at h;have H:=h;clear h;replace H:=bd H;obtain⟨arI,A3,H⟩:=H;obtain rfl:=s1 H;go_enter Tryz.func123,Tryz.ntmps123;go_wp2_with (first|(refine bY HB 2 #[.string dX, .string eF] 69 ?_;intro aCR w4 aeK aCS hg hb;have aeL:=CP uP hg;have aeM:=CQ uP hg;replace uP:=kb uP hb;replace HB:=bz HB hb;clear hb hg;have aF8:=aeM.out;have aF9:=aeL.out;have z6:=AL aeK.out;have azQ:w4.cell? ⟨gq1,0,none⟩=some (.string a1):=(aC uP.out 0).trans rfl;have azR:=gy uP.out 0)|(refine gB Tryz.func124 (rJ.calls A3.out) ?_;intro w8 hb;replace uP:=kb uP hb;replace aeK:=kb aeK hb;replace HB:=bz HB hb;clear hb))
 go_ret;exact⟨er,bb⟩
def eG.l0:Nat→List (gK)→Int→Int→ByteArray→Option (Int)
 |0,_,_,_,_=>none
 |k+1,x0,x7,x8,QC=>if x8<x7 then(if 0≤x8 then(if x8<(x0.length:Int)then((nJ.f ((eU x0 x8).f0) ((eU x0 x8).f1) QC).bind fun arJ=>(if arJ=true then(some x8)else(eG.l0 k x0 x7 (wrap64 (x8+1)) QC)))else(none))else(none))else(some (-1))
def eG.f (k:Nat) (l0:List (gK)) (FM:ByteArray):Option (Int):=eG.l0 k l0 (l0.length:Int) 0 FM
theorem eG.calls {k c0 IX:Nat} {A0:Option Addr} {l0:List (gK)} {FM:ByteArray} {r:Int} {w:World} (hr0:Kd.C qy w A0 l0.length l0) (hc0:l0.length≤c0) (OA:w.heap[IX]? =some (.cells #[.string FM] 9 (0,0))) (h:eG.f k l0 FM=some r):
  Calls Tryz.prog 122 #[.slice A0 l0.length c0, .func (.func 123) #[] #[.pointer (some ⟨IX,0,none⟩)]] w fun e w'=>e= .returned (.int .i64 r)∧Below w.heap.size w w':=by
 have EC:=Tryz.underlying69;have HR0:=ak hr0;have yF:=ak hc0;clear hr0 hc0;have uP:=ak OA;clear OA;have HB:=ak (Below.refl w.heap.size w);unfold eG.f at h;have H:=h;clear h;have H':=ak H;clear H;go_enter Tryz.func122,Tryz.ntmps122;go_wp2;go_loopg [8] k (fun kq v8 w'=>∃(kN:Int),v8= .int .i64 kN∧ah (eG.l0 kq l0 (l0.length:Int) kN FM=some r)∧ah (kq≤k)∧ah (w'.heap[IX]? =some (.cells #[.string FM] 9 (0,0)))∧ah (Below w.heap.size w w'))
 case atStart=>exact⟨_,rs,H',⟨Nat.le_refl _⟩,⟨ub uP.out⟩,⟨bb⟩⟩
 case round=>
  clear H';obtain⟨kN,rfl,HA,yH,uP,HB⟩:=hrel
  cases gk with
  |zero=>exact zz HA.out
  |succ k1=>
   obtain⟨H⟩:=HA;simp only[eG.l0]at H;replace H:=sd H;rcases H with⟨iH,H⟩|⟨iH,H⟩
   ·replace H:=nS H;obtain⟨qW,H⟩:=H;replace H:=nS H;obtain⟨mQ,H⟩:=H;replace H:=bd H;obtain⟨arJ,A6,H⟩:=H;replace H:=sb H;rcases H with⟨rfl,H⟩|⟨rfl,H⟩
    ·obtain rfl:=s1 H;have YL:=zi kN;have YM:=zj kN l0.length;obtain⟨arK,anJ,J8,J9⟩:=qN HR0.out kN YL YM;cases anJ;replace J8:=cl HB.out J8;replace J9:=cl HB.out J9;replace YL:=eq_true YL;replace YM:=eq_true YM;go_wp2_with (go_at_call 123;refine mB (nJ.calls (ub uP.out) A6.out) ?_;intro w8 hb;replace uP:=kb uP hb;replace HB:=bz HB hb;clear hb)
     go_ret;exact⟨er,bb⟩
    ·have H':=ak H;clear H;have YL:=zi kN;have YM:=zj kN l0.length;obtain⟨arK,anJ,J8,J9⟩:=qN HR0.out kN YL YM;cases anJ;replace J8:=cl HB.out J8;replace J9:=cl HB.out J9;replace YL:=eq_true YL;replace YM:=eq_true YM;go_wp2_with (go_at_call 123;refine mB (nJ.calls (ub uP.out) A6.out) ?_;intro w9 hb;replace uP:=kb uP hb;replace HB:=bz HB hb;clear hb)
     go_roundg k1
     case measure=>exact kl
     case rel=>exact⟨_,rs,H',⟨kl⟩,⟨ub uP.out⟩,⟨bb⟩⟩
   ·obtain rfl:=s1 H;go_wp2;go_ret;exact⟨er,bb⟩
def kP.f (k:Nat) (l0:List (gK)) (a1:ByteArray):Option (Int):=(eG.f k l0 a1).bind fun arL=>(some arL)
theorem kP.calls {k c0:Nat} {A0:Option Addr} {l0:List (gK)} {a1:ByteArray} {r:Int} {w:World} (hr0:Kd.C qy w A0 l0.length l0) (hc0:l0.length≤c0) (h:kP.f k l0 a1=some r):
  Calls Tryz.prog 88 #[.slice A0 l0.length c0, .string a1] w fun e w'=>e= .returned (.int .i64 r)∧Below w.heap.size w w':=by
 have HR0:=ak hr0;have yF:=ak hc0;clear hr0 hc0;have HB:=ak (Below.refl w.heap.size w);unfold kP.f at h;have H:=h;clear h;replace H:=bd H;obtain⟨arL,A3,H⟩:=H;obtain rfl:=s1 H;go_enter Tryz.func88,Tryz.ntmps88;go_wp2_with (first|(refine bX HB 3 #[.string a1] 9 ?_;intro aCT w4 aeN aCU hb;replace HB:=bs HB hb;clear hb)|(refine gB Tryz.func122 (eG.calls (cu (Kd.aX HR0.out HB.out)) yF.out (ub aeN.out) A3.out) ?_;intro w5 hb;replace aeN:=kb aeN hb;replace HB:=bz HB hb;clear hb))
 go_ret;exact⟨er,bb⟩
def kS.f (k:Nat) (l0:List (gK)) (a1:ByteArray):Option (ByteArray×Bool):=(kP.f k l0 a1).bind fun Xb=>(if Xb<0 then(some ((⟨#[]⟩:ByteArray),false))else(if 0≤Xb then(if Xb<(l0.length:Int)then(some ((eU l0 Xb).f1,true))else(none))else(none)))
theorem kS.calls {k c0:Nat} {A0:Option Addr} {l0:List (gK)} {a1 r1:ByteArray} {r2:Bool} {w:World} (hr0:Kd.C qy w A0 l0.length l0) (hc0:l0.length≤c0) (h:kS.f k l0 a1=some (r1,r2)):
  Calls Tryz.prog 47 #[.slice A0 l0.length c0, .string a1] w fun e w'=>e= .returned (.tuple #[.string r1, .bool r2])∧Below w.heap.size w w':=by
 have HR0:=ak hr0;have yF:=ak hc0;clear hr0 hc0;have HB:=ak (Below.refl w.heap.size w);unfold kS.f at h;have H:=h;clear h;replace H:=bd H;obtain⟨Xb,A3,H⟩:=H;replace H:=sd H;rcases H with⟨qW,H⟩|⟨qW,H⟩
 ·obtain⟨rfl,rfl⟩:=s2 H;go_enter Tryz.func47,Tryz.ntmps47;go_wp2_with (refine gB Tryz.func88 (kP.calls (cu HR0.out) yF.out A3.out) ?_;intro w5 hb;replace HB:=bs HB hb;clear hb)
  go_ret2;exact⟨er,ul HB.out⟩
 ·replace H:=nS H;obtain⟨nG,H⟩:=H;replace H:=nS H;obtain⟨qO,H⟩:=H;obtain⟨rfl,rfl⟩:=s2 H;go_enter Tryz.func47,Tryz.ntmps47;go_wp2_with (refine gB Tryz.func88 (kP.calls (cu HR0.out) yF.out A3.out) ?_;intro w8 hb;replace HB:=bs HB hb;clear hb;have anK:0≤(Xb:Int):=of_decide_eq_true (by assumption);have anL:Xb<(l0.length:Int):=of_decide_eq_true (by assumption);obtain⟨aCV,azS,UY,UZ⟩:=qN HR0.out Xb anK anL;cases azS;replace UY:=(HB.out.cell (World.block_lt_of_cell? w _ UY)).trans UY;replace UZ:=(HB.out.cell (World.block_lt_of_cell? w _ UZ)).trans UZ;replace anK:=eq_true anK;replace anL:=eq_true anL)
  go_ret2;exact⟨er,ul HB.out⟩
def jf.l0:Nat→ByteArray→List Int→Int→Option (ByteArray×Int×Bool)
 |0,_,_,_=>none
 |k+1,x0,x5,x6=>if x6<(x0.size:Int)then(if 0≤x6 then(if(bt x0 x6)=34 then(some (strOfNums x5,wrap64 (x6+1),true))else(if(bt x0 x6)=92 then(if(wrap64 (x6+1))=(x0.size:Int)then(some ((⟨#[]⟩:ByteArray),0,false))else(if 0≤(wrap64 (x6+1))then(if(wrap64 (x6+1))<(x0.size:Int)then(if x5.length<140737488355328 then(jf.l0 k x0 (x5++[bt x0 (wrap64 (x6+1))]) (wrap64 ((wrap64 (x6+1))+1)))else(none))else(none))else(none)))else(if x5.length<140737488355328 then(jf.l0 k x0 (x5++[bt x0 x6]) (wrap64 (x6+1)))else(none))))else(none))else(some ((⟨#[]⟩:ByteArray),0,false))
def jf.f (k:Nat) (a0:ByteArray):Option (ByteArray×Int×Bool):=jf.l0 k a0 (([]:List Int)) 1
theorem jf.calls {k:Nat} {a0 r1:ByteArray} {r2:Int} {r3:Bool} {w:World} (h:jf.f k a0=some (r1,r2,r3)):
  Calls Tryz.prog 134 #[.string a0] w fun e w'=>e= .returned (.tuple #[.string r1, .int .i64 r2, .bool r3])∧Below w.heap.size w w':=by
 have HB:=ak (Below.refl w.heap.size w);unfold jf.f at h;have H:=h;clear h;obtain⟨aF_,akn⟩:=nm ([]:List Int);rw[←akn.out]at H;have H':=ak H;clear H;go_enter Tryz.func134,Tryz.ntmps134;go_wp2_with (refine Hy 7 (Kd.int .u8) 5 akn ?_;intro aGa w2 ho3 hb;have arM:=ak (Kd.aA ho3 (aj (ul HB.out)));replace HB:=bs HB hb;clear hb ho3)
 go_loopg [5,6] k (fun kq v5 v6 w'=>∃(dK:List Int) (gY:Int),v6= .int .i64 gY∧ah (jf.l0 kq a0 dK gY=some (r1,r2,r3))∧ah (kq≤k)∧ah (Kd.R (Kd.int .u8) 5 w' w.heap.size (fun _=>True) v5 dK)∧ah (Below w.heap.size w w'))
 case atStart=>exact⟨_,_,rs,H',⟨Nat.le_refl _⟩,⟨ur arM.out⟩,⟨ul HB.out⟩⟩
 case round=>
  clear H';obtain⟨dK,gY,rfl,HA,yH,pY,HB⟩:=hrel
  cases gk with
  |zero=>exact zz HA.out
  |succ k1=>
   obtain⟨H⟩:=HA;simp only[jf.l0]at H;replace H:=sd H;rcases H with⟨qW,H⟩|⟨qW,H⟩
   ·replace H:=nS H;obtain⟨mQ,H⟩:=H;replace H:=sq H;rcases H with⟨qO,Jl,H⟩|⟨c7,qO,Jl,H⟩
    ·obtain⟨rfl,rfl,rfl⟩:=s3 H;obtain⟨p6,q6,hx6⟩:=bx a0 gY;have aGb:=qE (P:=Tryz.prog) Tryz.underlying22 Tryz.underlying5 Tryz.underlying9 (Kd.uQ pY.out);go_wp2;go_ret3;exact⟨er,ul HB.out⟩
    ·replace H:=sq H;rcases H with⟨nI,rP,H⟩|⟨c10,nI,rP,H⟩
     ·replace H:=sq H;rcases H with⟨sJ,CZ,H⟩|⟨c11,sJ,CZ,H⟩
      ·obtain⟨rfl,rfl,rfl⟩:=s3 H;obtain⟨p6,q6,hx6⟩:=bx a0 gY;obtain⟨p9,q9,hx9⟩:=bx a0 gY;go_wp2;go_ret3;exact⟨er,ul HB.out⟩
      ·obtain⟨O7,Fe⟩:∃j_:Int,(wrap64 (gY+1))=j_:=⟨_,rfl⟩
       replace H:(if 0≤(O7)then(if(O7)<(a0.size:Int)then(if dK.length<140737488355328 then(jf.l0 k1 a0 (dK++[bt a0 (O7)]) (wrap64 ((O7)+1)))else(none))else(none))else(none))=some (r1,r2,r3):=by first|(rw[Fe]at H;exact H)|(simp only[Fe]at H⊢;exact H)
       (try rw[Fe]at sJ)
       (try rw[Fe]at CZ);have anM:(IntKind.i64.wrap (gY+1))=O7:=(iP _).trans Fe;replace H:=nS H;obtain⟨vW,H⟩:=H;replace H:=nS H;obtain⟨sK,H⟩:=H;replace H:=nl H;obtain⟨aeO,H⟩:=H;obtain⟨aGc,ako⟩:=nm (dK++[bt a0 (O7)]);rw[←ako.out]at H;have H':=ak H;clear H;obtain⟨p6,q6,hx6⟩:=bx a0 gY;obtain⟨p9,q9,hx9⟩:=bx a0 gY;obtain⟨p15,q15,aGd⟩:=bx a0 (O7);go_wp2_with (at_builtin;refine aP 34 38 (Kd.int .u8) 22 5 (.int .u8 0) 1 Tryz.underlying22 info5 HB (ur pY.out) ako (by have:=aeO.out;omega) ?_;intro aGe w17 ho hb hg hat;have arN:=ak (ho);replace HB:=ak (hb);clear ho hb hg hat pY)
       go_roundg k1
       case measure=>exact kl
       case rel=>exact⟨_,_,(by first|rfl|(simp;done)|(simp only[←Fe]<;>(first|rfl|simp))|(simp[*];done)),H',⟨kl⟩,⟨ur arN.out⟩,⟨ul HB.out⟩⟩
     ·replace H:=nl H;obtain⟨aeu,H⟩:=H;obtain⟨aGf,akp⟩:=nm (dK++[bt a0 gY]);rw[←akp.out]at H;have H':=ak H;clear H;obtain⟨p6,q6,hx6⟩:=bx a0 gY;obtain⟨p9,q9,hx9⟩:=bx a0 gY;obtain⟨p18,q18,arO⟩:=bx a0 gY;go_wp2_with (at_builtin;refine aP 34 38 (Kd.int .u8) 22 5 (.int .u8 0) 1 Tryz.underlying22 info5 HB (ur pY.out) akp (by have:=aeu.out;omega) ?_;intro aGg w20 ho hb hg hat;have arP:=ak (ho);replace HB:=ak (hb);clear ho hb hg hat pY)
      go_roundg k1
      case measure=>exact kl
      case rel=>exact⟨_,_,rs,H',⟨kl⟩,⟨ur arP.out⟩,⟨ul HB.out⟩⟩
   ·obtain⟨rfl,rfl,rfl⟩:=s3 H;go_wp2;go_ret3;exact⟨er,ul HB.out⟩
def jD.l0:Nat→ByteArray→Int→Int→Option (Int)
 |0,_,_,_=>none
 |k+1,x0,x1,x5=>if x5<(x0.size:Int)then(if 0≤x5 then(if(bt x0 x5)=34 then(if x5≤(x0.size:Int)then((jf.f k (x0.extract (x5:Int).toNat x0.size)).bind fun akq=>(if akq.2.2=true then(jD.l0 k x0 x1 (wrap64 ((wrap64 (x5+(wrap64 (akq.2.1-1))))+1)))else(some (-1))))else(none))else(if(bt x0 x5)=x1 then(some x5)else(jD.l0 k x0 x1 (wrap64 (x5+1)))))else(none))else(some (-1))
def jD.f (k:Nat) (a0:ByteArray) (a1:Int):Option (Int):=jD.l0 k a0 a1 0
theorem jD.calls {k:Nat} {a0:ByteArray} {a1 r:Int} {w:World} (h:jD.f k a0 a1=some r):
  Calls Tryz.prog 125 #[.string a0, .int .u8 a1] w fun e w'=>e= .returned (.int .i64 r)∧Below w.heap.size w w':=by
 have HB:=ak (Below.refl w.heap.size w);unfold jD.f at h;have H:=h;clear h;have H':=ak H;clear H;go_enter Tryz.func125,Tryz.ntmps125;go_wp2;go_loopg [5] k (fun kq v5 w'=>∃(dK:Int),v5= .int .i64 dK∧ah (jD.l0 kq a0 a1 dK=some r)∧ah (kq≤k)∧ah (Below w.heap.size w w'))
 case atStart=>exact⟨_,rs,H',⟨Nat.le_refl _⟩,⟨ul HB.out⟩⟩
 case round=>
  clear H';obtain⟨dK,rfl,HA,yH,HB⟩:=hrel
  cases gk with
  |zero=>exact zz HA.out
  |succ k1=>
   obtain⟨H⟩:=HA;simp only[jD.l0]at H;replace H:=sd H;rcases H with⟨iH,H⟩|⟨iH,H⟩
   ·replace H:=nS H;obtain⟨qW,H⟩:=H;replace H:=sq H;rcases H with⟨nG,xW,H⟩|⟨c6,nG,xW,H⟩
    ·have qO:=eq_true (of_decide_eq_true (by assumption):0≤dK);replace H:=AY H;obtain⟨tK,FH,H⟩:=H;replace H:=bd H;obtain⟨⟨aGh,aGi,aGj⟩,A9,H⟩:=H
     (try dsimp only at H);replace H:=sb H;rcases H with⟨rfl,H⟩|⟨rfl,H⟩
     ·have H':=ak H;clear H;obtain⟨p5,q5,hx5⟩:=bx a0 dK;go_wp2_with (refine gB Tryz.func134 (jf.calls A9.out) ?_;intro WI hb;replace HB:=bs HB hb;clear hb)
      go_roundg k1
      case measure=>exact kl
      case rel=>exact⟨_,rs,H',⟨kl⟩,⟨ul HB.out⟩⟩
     ·obtain rfl:=s1 H;obtain⟨p5,q5,hx5⟩:=bx a0 dK;go_wp2_with (refine gB Tryz.func134 (jf.calls A9.out) ?_;intro w12 hb;replace HB:=bs HB hb;clear hb)
      go_ret;exact⟨er,ul HB.out⟩
    ·replace H:=sq H;rcases H with⟨vW,Az,H⟩|⟨c13,vW,Az,H⟩
     ·obtain rfl:=s1 H;obtain⟨p5,q5,hx5⟩:=bx a0 dK;go_wp2;go_ret;exact⟨er,ul HB.out⟩
     ·have H':=ak H;clear H;obtain⟨p5,q5,hx5⟩:=bx a0 dK;go_wp2;go_roundg k1
      case measure=>exact kl
      case rel=>exact⟨_,rs,H',⟨kl⟩,⟨ul HB.out⟩⟩
   ·obtain rfl:=s1 H;go_wp2;go_ret;exact⟨er,ul HB.out⟩
def gI.l0:Nat→ByteArray→Int→List ByteArray→Option (List ByteArray)
 |0,_,_,_=>none
 |k+1,x0,x1,x5=>(jD.f k x0 x1).bind fun Nl=>(if Nl<0 then(if x5.length<8796093022208 then(some (x5++[x0]))else(none))else(if 0≤Nl then(if Nl≤(x0.size:Int)then(if x5.length<8796093022208 then(if 0≤(wrap64 (Nl+1))then(if(wrap64 (Nl+1))≤(x0.size:Int)then(gI.l0 k (x0.extract ((wrap64 (Nl+1)):Int).toNat x0.size) x1 (x5++[x0.extract 0 (Nl:Int).toNat]))else(none))else(none))else(none))else(none))else(none)))
def gI.f (k:Nat) (a0:ByteArray) (a1:Int):Option (List ByteArray):=gI.l0 k a0 a1 (([]:List ByteArray))
theorem gI.calls {k:Nat} {a0:ByteArray} {a1:Int} {r:List ByteArray} {w:World} (h:gI.f k a0 a1=some r):
  Calls Tryz.prog 90 #[.string a0, .int .u8 a1] w fun e w'=>∃oD:Value,e= .returned (oD)∧Kd.R Kd.string 9 w' w.heap.size (fun _=>True) oD r∧Below w.heap.size w w':=by
 have HB:=ak (Below.refl w.heap.size w);unfold gI.f at h;have H:=h;clear h;obtain⟨aGk,akr⟩:=nm ([]:List ByteArray);rw[←akr.out]at H;have H':=ak H;clear H;go_enter Tryz.func90,Tryz.ntmps90;go_wp2_with (refine Hy 7 Kd.string 9 akr ?_;intro aGl w3 TM hb;have arQ:=ak (Kd.aA TM (aj (ul HB.out)));replace HB:=bs HB hb;clear hb TM)
 go_loopg [0,5] k (fun kq v0 v5 w'=>∃(qH:ByteArray) (dK:List ByteArray),v0= .string qH∧ah (gI.l0 kq qH a1 dK=some r)∧ah (kq≤k)∧ah (Kd.R Kd.string 9 w' w.heap.size (fun _=>True) v5 dK)∧ah (Below w.heap.size w w'))
 case atStart=>exact⟨_,_,rs,H',⟨Nat.le_refl _⟩,⟨ur arQ.out⟩,⟨ul HB.out⟩⟩
 case round=>
  clear H';obtain⟨qH,dK,rfl,HA,yH,pY,HB⟩:=hrel
  cases gk with
  |zero=>exact zz HA.out
  |succ k1=>
   obtain⟨H⟩:=HA;simp only[gI.l0]at H;replace H:=bd H;obtain⟨Nl,A5,H⟩:=H;replace H:=sd H;rcases H with⟨nG,H⟩|⟨nG,H⟩
   ·replace H:=nl H;obtain⟨anN,H⟩:=H;obtain⟨aGm,aks⟩:=nm (dK++[qH]);rw[←aks.out]at H;obtain rfl:=s1 H;go_wp2_with (first|(refine gB Tryz.func125 (jD.calls A5.out) ?_;intro w8 hb;replace pY:=rb pY hb;replace HB:=bs HB hb;clear hb)|(at_builtin;refine aP 13 15 Kd.string 23 9 (.string ⟨#[]⟩) 16 Tryz.underlying23 info9 HB (ur pY.out) aks (by have:=anN.out;omega) ?_;intro aGn w9 ho hb hg hat;have arR:=ak (ho);replace HB:=ak (hb);clear ho hb hg hat pY))
    go_ret;exact⟨_,er,ur arR.out,ul HB.out⟩
   ·replace H:=AY H;obtain⟨nI,rP,H⟩:=H;replace H:=AY H;obtain⟨sJ,CZ,H⟩:=H;replace H:=nl H;obtain⟨QD,H⟩:=H;obtain⟨azT,akt⟩:=nm (dK++[qH.extract 0 (Nl:Int).toNat]);rw[←akt.out]at H;obtain⟨U0,IY⟩:∃j_:Int,(wrap64 (Nl+1))=j_:=⟨_,rfl⟩
    replace H:(if 0≤(U0)then(if(U0)≤(qH.size:Int)then(gI.l0 k1 (qH.extract ((U0):Int).toNat qH.size) a1 azT)else(none))else(none))=some r:=by first|(rw[IY]at H;exact H)|(simp only[IY]at H⊢;exact H)
    (try rw[IY]at A5);have anO:(IntKind.i64.wrap (Nl+1))=U0:=(iP _).trans IY;replace H:=AY H;obtain⟨sK,xY,H⟩:=H;replace H:=AY H;obtain⟨vX,F6,H⟩:=H;have H':=ak H;clear H;try go_wp2_with (refine gB Tryz.func125 (jD.calls A5.out) ?_;intro w16 hb;replace pY:=rb pY hb;replace HB:=bs HB hb;clear hb)
    replace pY:=ak (Kd.lM pY.out);replace HB:=ak (iI HB.out);refine ro [4,5] [0,1,2,3,6,7,8,9,4,5,10,11] (fun w'=>True) trivial ?_
    generalize w16.drew=w17 at pY HB⊢
    repeat refine Ad ?_
    refine ld (N:=some 21) (gk.trans rfl) rfl rfl (fun K hK=>?_);refine DV (w1:=?_) (v:=?_) (by rfl) rfl ?_ ?_
    rotate_left 2
    ·go_simp;constructor
     ·rfl
     ·rfl
    refine hK.out _ _ trivial ?_;clear hK K;refine no (a':=?_) ?_ ?_
    rotate_left
    ·show Act.put _ (some 21) _=_
     simp only[Act.put,Aq,Ar,l_c,iP,jZ];rfl
    refine ld (N:=some 22) (gk.trans rfl) rfl rfl (fun K hK=>?_);refine Kd.nD Kd.string (w0:=w) w.heap.size (by rfl) (.tmp 17) (.tmp 21) 23 9 (.string ⟨#[]⟩) 16 rfl Tryz.underlying23 info9 rfl (by decide) (by omega) u5 dK (qH.extract 0 (Nl:Int).toNat) [.string (qH.extract 0 (Nl:Int).toNat)] (fun _=>True) (fun _=>False) rfl rfl ?aP (fun _ hk=>hk.elim) ?aF ?aO ?aB ?aS ?aL ?_
    (case aP=>exact rfl)
    (case aB=>exact(ul HB.out))
    (case aF=>exact(fun _ _=>trivial))
    (case aO=>exact(ur pY.out))
    (case aS=>exact(aj (ul HB.out)))
    (case aL=>have:=QD.out;omega);intro aGo w18 ho hb hg hat
    rw[←akt.out]at ho;have zB:=ak (hb);have zC:=ak (ho);clear HB pY;have HB:=zB;have arS:=zC;clear zB zC ho hb hg hat
    refine hK.out _ _ trivial ?_;clear hK K;refine no (a':=?_) ?_ ?_
    rotate_left
    ·show Act.put _ (some 22) _=_
     simp only[Act.put,Aq,Ar,l_c,iP,jZ];rfl
    repeat refine Ad ?_
    refine on ?_;try go_wp2
    go_roundg k1
    case measure=>exact kl
    case rel=>exact⟨_,_,(by first|rfl|(simp;done)|(simp only[←IY]<;>(first|rfl|simp))|(simp[*];done)),H',⟨kl⟩,⟨ur arS.out⟩,⟨ul HB.out⟩⟩
def strings_Cut.f (a0:ByteArray) (a1:ByteArray):Option (ByteArray×ByteArray×Bool):=if a0.size<4294967281 then some (⟨(Lib.cut a0.data.toList a1.data.toList).1.toArray⟩,⟨(Lib.cut a0.data.toList a1.data.toList).2.1.toArray⟩,(Lib.cut a0.data.toList a1.data.toList).2.2)else none
theorem strings_Cut.calls {a0 a1 r1 r2:ByteArray} {r3:Bool} {w:World} (DW:MaxOk w) (h:strings_Cut.f a0 a1=some (r1,r2,r3)):
  Calls Tryz.prog 91 #[.string a0, .string a1] w fun e w'=>e= .returned (.tuple #[.string r1, .string r2, .bool r3])∧dM w w':=by
 unfold strings_Cut.f at h;split at h
 ·rename_i hs
  injection h with h;injection h with h1 h;injection h with h2 h3;subst h1;subst h2;subst h3;obtain⟨m,hm⟩:=DW;exact(Tryz.strings_Cut a0 a1 m w hs hm).mono fun e w' ⟨he,n,hn⟩=>⟨he,⟨⟨n,hn⟩⟩⟩
 ·cases h
def kQ.f (a0:Int):Option (Bool):=(bg.f a0).bind fun arT=>(if arT=true then(some true)else((dA.f a0).bind fun arU=>(if arU=true then(some true)else(if a0=33 then(some true)else(if a0≥35 then(if a0≤39 then(some true)else(if a0=42 then(some true)else(if a0=43 then(some true)else(if a0=45 then(some true)else(if a0=47 then(some true)else(if a0=61 then(some true)else(if a0=63 then(some true)else(if a0≥94 then(if a0≤96 then(some true)else(if a0≥123 then(some (decide (a0≤126)))else(some false)))else(if a0≥123 then(some (decide (a0≤126)))else(some false))))))))))else(if a0=42 then(some true)else(if a0=43 then(some true)else(if a0=45 then(some true)else(if a0=47 then(some true)else(if a0=61 then(some true)else(if a0=63 then(some true)else(if a0≥94 then(if a0≤96 then(some true)else(if a0≥123 then(some (decide (a0≤126)))else(some false)))else(if a0≥123 then(some (decide (a0≤126)))else(some false))))))))))))))
theorem kQ.calls {a0:Int} {r:Bool} {w:World} (h:kQ.f a0=some r):
  Calls Tryz.prog 135 #[.int .u8 a0] w fun e w'=>e= .returned (.bool r)∧dM w w':=by
 unfold kQ.f at h;have H:=h;clear h;replace H:=bd H;obtain⟨arT,A2,H⟩:=H;replace H:=sb H;rcases H with⟨rfl,H⟩|⟨rfl,H⟩
 ·obtain rfl:=s1 H;go_enter Tryz.func135,Tryz.ntmps135;go_wp2_with (refine gA Tryz.func140 (bg.calls A2.out) ?_;intro nd)
  go_ret;exact⟨rs,dn⟩
 ·replace H:=bd H;obtain⟨arU,A4,H⟩:=H;replace H:=sb H;rcases H with⟨rfl,H⟩|⟨rfl,H⟩
  ·obtain rfl:=s1 H;go_enter Tryz.func135,Tryz.ntmps135;go_wp2_with (first|(refine gA Tryz.func140 (bg.calls A2.out) ?_;intro nd)|(go_at_call 141;refine mA (dA.calls A4.out) ?_;intro nd))
   go_ret;exact⟨rs,dn⟩
  ·replace H:=sq H;rcases H with⟨nG,xW,H⟩|⟨c6,nG,xW,H⟩
   ·obtain rfl:=s1 H;go_enter Tryz.func135,Tryz.ntmps135;go_wp2_with (first|(refine gA Tryz.func140 (bg.calls A2.out) ?_;intro nd)|(go_at_call 141;refine mA (dA.calls A4.out) ?_;intro nd))
    go_ret;exact⟨rs,dn⟩
   ·replace H:=sp H;rcases H with⟨c7,H⟩|⟨c7,H⟩
    ·have qO:decide (35≤a0)=true:=decide_eq_true c7;clear c7;replace H:=sd H;rcases H with⟨tK,H⟩|⟨tK,H⟩
     ·obtain rfl:=s1 H;go_enter Tryz.func135,Tryz.ntmps135;go_wp2_with (first|(refine gA Tryz.func140 (bg.calls A2.out) ?_;intro nd)|(go_at_call 141;refine mA (dA.calls A4.out) ?_;intro nd))
      go_ret;exact⟨rs,dn⟩
     ·replace H:=sq H;rcases H with⟨yI,Gh,H⟩|⟨c9,yI,Gh,H⟩
      ·obtain rfl:=s1 H;go_enter Tryz.func135,Tryz.ntmps135;go_wp2_with (first|(refine gA Tryz.func140 (bg.calls A2.out) ?_;intro nd)|(go_at_call 141;refine mA (dA.calls A4.out) ?_;intro nd))
       go_ret;exact⟨rs,dn⟩
      ·replace H:=sq H;rcases H with⟨nI,rP,H⟩|⟨c10,nI,rP,H⟩
       ·obtain rfl:=s1 H;go_enter Tryz.func135,Tryz.ntmps135;go_wp2_with (first|(refine gA Tryz.func140 (bg.calls A2.out) ?_;intro nd)|(go_at_call 141;refine mA (dA.calls A4.out) ?_;intro nd))
        go_ret;exact⟨rs,dn⟩
       ·replace H:=sq H;rcases H with⟨sJ,CZ,H⟩|⟨c11,sJ,CZ,H⟩
        ·obtain rfl:=s1 H;go_enter Tryz.func135,Tryz.ntmps135;go_wp2_with (first|(refine gA Tryz.func140 (bg.calls A2.out) ?_;intro nd)|(go_at_call 141;refine mA (dA.calls A4.out) ?_;intro nd))
         go_ret;exact⟨rs,dn⟩
        ·replace H:=sq H;rcases H with⟨xX,D9,H⟩|⟨c12,xX,D9,H⟩
         ·obtain rfl:=s1 H;go_enter Tryz.func135,Tryz.ntmps135;go_wp2_with (first|(refine gA Tryz.func140 (bg.calls A2.out) ?_;intro nd)|(go_at_call 141;refine mA (dA.calls A4.out) ?_;intro nd))
          go_ret;exact⟨rs,dn⟩
         ·replace H:=sq H;rcases H with⟨vW,Az,H⟩|⟨c13,vW,Az,H⟩
          ·obtain rfl:=s1 H;go_enter Tryz.func135,Tryz.ntmps135;go_wp2_with (first|(refine gA Tryz.func140 (bg.calls A2.out) ?_;intro nd)|(go_at_call 141;refine mA (dA.calls A4.out) ?_;intro nd))
           go_ret;exact⟨rs,dn⟩
          ·replace H:=sq H;rcases H with⟨sK,xY,H⟩|⟨c14,sK,xY,H⟩
           ·obtain rfl:=s1 H;go_enter Tryz.func135,Tryz.ntmps135;go_wp2_with (first|(refine gA Tryz.func140 (bg.calls A2.out) ?_;intro nd)|(go_at_call 141;refine mA (dA.calls A4.out) ?_;intro nd))
            go_ret;exact⟨rs,dn⟩
           ·replace H:=sp H;rcases H with⟨c15,H⟩|⟨c15,H⟩
            ·have vX:decide (94≤a0)=true:=decide_eq_true c15;clear c15;replace H:=sd H;rcases H with⟨AA,H⟩|⟨AA,H⟩
             ·obtain rfl:=s1 H;go_enter Tryz.func135,Tryz.ntmps135;go_wp2_with (first|(refine gA Tryz.func140 (bg.calls A2.out) ?_;intro nd)|(go_at_call 141;refine mA (dA.calls A4.out) ?_;intro nd))
              go_ret;exact⟨rs,dn⟩
             ·replace H:=sp H;rcases H with⟨c17,H⟩|⟨c17,H⟩
              ·have rQ:decide (123≤a0)=true:=decide_eq_true c17;clear c17;obtain rfl:=s1 H;go_enter Tryz.func135,Tryz.ntmps135;go_wp2_with (first|(refine gA Tryz.func140 (bg.calls A2.out) ?_;intro nd)|(go_at_call 141;refine mA (dA.calls A4.out) ?_;intro nd))
               go_ret;exact⟨rs,dn⟩
              ·have rQ:decide (123≤a0)=false:=decide_eq_false c17;clear c17;obtain rfl:=s1 H;go_enter Tryz.func135,Tryz.ntmps135;go_wp2_with (first|(refine gA Tryz.func140 (bg.calls A2.out) ?_;intro nd)|(go_at_call 141;refine mA (dA.calls A4.out) ?_;intro nd))
               go_ret;exact⟨rs,dn⟩
            ·have vX:decide (94≤a0)=false:=decide_eq_false c15;clear c15;replace H:=sp H;rcases H with⟨c18,H⟩|⟨c18,H⟩
             ·have vY:decide (123≤a0)=true:=decide_eq_true c18;clear c18;obtain rfl:=s1 H;go_enter Tryz.func135,Tryz.ntmps135;go_wp2_with (first|(refine gA Tryz.func140 (bg.calls A2.out) ?_;intro nd)|(go_at_call 141;refine mA (dA.calls A4.out) ?_;intro nd))
              go_ret;exact⟨rs,dn⟩
             ·have vY:decide (123≤a0)=false:=decide_eq_false c18;clear c18;obtain rfl:=s1 H;go_enter Tryz.func135,Tryz.ntmps135;go_wp2_with (first|(refine gA Tryz.func140 (bg.calls A2.out) ?_;intro nd)|(go_at_call 141;refine mA (dA.calls A4.out) ?_;intro nd))
              go_ret;exact⟨rs,dn⟩
    ·have qO:decide (35≤a0)=false:=decide_eq_false c7;clear c7;replace H:=sq H;rcases H with⟨AB,Ea,H⟩|⟨c19,AB,Ea,H⟩
     ·obtain rfl:=s1 H;go_enter Tryz.func135,Tryz.ntmps135;go_wp2_with (first|(refine gA Tryz.func140 (bg.calls A2.out) ?_;intro nd)|(go_at_call 141;refine mA (dA.calls A4.out) ?_;intro nd))
      go_ret;exact⟨rs,dn⟩
     ·replace H:=sq H;rcases H with⟨Oo,Qq,H⟩|⟨c20,Oo,Qq,H⟩
      ·obtain rfl:=s1 H;go_enter Tryz.func135,Tryz.ntmps135;go_wp2_with (first|(refine gA Tryz.func140 (bg.calls A2.out) ?_;intro nd)|(go_at_call 141;refine mA (dA.calls A4.out) ?_;intro nd))
       go_ret;exact⟨rs,dn⟩
      ·replace H:=sq H;rcases H with⟨Fb,aj8,H⟩|⟨c21,Fb,aj8,H⟩
       ·obtain rfl:=s1 H;go_enter Tryz.func135,Tryz.ntmps135;go_wp2_with (first|(refine gA Tryz.func140 (bg.calls A2.out) ?_;intro nd)|(go_at_call 141;refine mA (dA.calls A4.out) ?_;intro nd))
        go_ret;exact⟨rs,dn⟩
       ·replace H:=sq H;rcases H with⟨FZ,aax,H⟩|⟨c22,FZ,aax,H⟩
        ·obtain rfl:=s1 H;go_enter Tryz.func135,Tryz.ntmps135;go_wp2_with (first|(refine gA Tryz.func140 (bg.calls A2.out) ?_;intro nd)|(go_at_call 141;refine mA (dA.calls A4.out) ?_;intro nd))
         go_ret;exact⟨rs,dn⟩
        ·replace H:=sq H;rcases H with⟨Aw,Oy,H⟩|⟨c23,Aw,Oy,H⟩
         ·obtain rfl:=s1 H;go_enter Tryz.func135,Tryz.ntmps135;go_wp2_with (first|(refine gA Tryz.func140 (bg.calls A2.out) ?_;intro nd)|(go_at_call 141;refine mA (dA.calls A4.out) ?_;intro nd))
          go_ret;exact⟨rs,dn⟩
         ·replace H:=sq H;rcases H with⟨Ot,aeP,H⟩|⟨c24,Ot,aeP,H⟩
          ·obtain rfl:=s1 H;go_enter Tryz.func135,Tryz.ntmps135;go_wp2_with (first|(refine gA Tryz.func140 (bg.calls A2.out) ?_;intro nd)|(go_at_call 141;refine mA (dA.calls A4.out) ?_;intro nd))
           go_ret;exact⟨rs,dn⟩
          ·replace H:=sp H;rcases H with⟨c25,H⟩|⟨c25,H⟩
           ·have Qs:decide (94≤a0)=true:=decide_eq_true c25;clear c25;replace H:=sd H;rcases H with⟨OB,H⟩|⟨OB,H⟩
            ·obtain rfl:=s1 H;go_enter Tryz.func135,Tryz.ntmps135;go_wp2_with (first|(refine gA Tryz.func140 (bg.calls A2.out) ?_;intro nd)|(go_at_call 141;refine mA (dA.calls A4.out) ?_;intro nd))
             go_ret;exact⟨rs,dn⟩
            ·replace H:=sp H;rcases H with⟨c27,H⟩|⟨c27,H⟩
             ·have Gi:decide (123≤a0)=true:=decide_eq_true c27;clear c27;obtain rfl:=s1 H;go_enter Tryz.func135,Tryz.ntmps135;go_wp2_with (first|(refine gA Tryz.func140 (bg.calls A2.out) ?_;intro nd)|(go_at_call 141;refine mA (dA.calls A4.out) ?_;intro nd))
              go_ret;exact⟨rs,dn⟩
             ·have Gi:decide (123≤a0)=false:=decide_eq_false c27;clear c27;obtain rfl:=s1 H;go_enter Tryz.func135,Tryz.ntmps135;go_wp2_with (first|(refine gA Tryz.func140 (bg.calls A2.out) ?_;intro nd)|(go_at_call 141;refine mA (dA.calls A4.out) ?_;intro nd))
              go_ret;exact⟨rs,dn⟩
           ·have Qs:decide (94≤a0)=false:=decide_eq_false c25;clear c25;replace H:=sp H;rcases H with⟨c28,H⟩|⟨c28,H⟩
            ·have Gj:decide (123≤a0)=true:=decide_eq_true c28;clear c28;obtain rfl:=s1 H;go_enter Tryz.func135,Tryz.ntmps135;go_wp2_with (first|(refine gA Tryz.func140 (bg.calls A2.out) ?_;intro nd)|(go_at_call 141;refine mA (dA.calls A4.out) ?_;intro nd))
             go_ret;exact⟨rs,dn⟩
            ·have Gj:decide (123≤a0)=false:=decide_eq_false c28;clear c28;obtain rfl:=s1 H;go_enter Tryz.func135,Tryz.ntmps135;go_wp2_with (first|(refine gA Tryz.func140 (bg.calls A2.out) ?_;intro nd)|(go_at_call 141;refine mA (dA.calls A4.out) ?_;intro nd))
             go_ret;exact⟨rs,dn⟩
mutual
def dF.l0:Nat→ByteArray→List ByteArray→Int→Bool→Option (List ByteArray×Bool)
 |0,_,_,_,_=>none
 |k+1,x0,x4,x5,x6=>if x5<(x0.size:Int)then(if 0≤x5 then(if(bt x0 x5)=32 then(dF.l0 k x0 x4 (wrap64 (x5+1)) true)else(if x6=true then(if(bt x0 x5)=34 then(if x5≤(x0.size:Int)then((jf.f k (x0.extract (x5:Int).toNat x0.size)).bind fun aeQ=>(if aeQ.2.2=true then(if x4.length<8796093022208 then(dF.l0 k x0 (x4++[aeQ.1]) (wrap64 (x5+aeQ.2.1)) false)else(none))else(some (([]:List ByteArray),false))))else(none))else(dF.l1 k x0 x4 x5 x5))else(some (([]:List ByteArray),false))))else(none))else(some (x4,true))
def dF.l1:Nat→ByteArray→List ByteArray→Int→Int→Option (List ByteArray×Bool)
 |0,_,_,_,_=>none
 |k+1,x0,x4,x5,x10=>if x10<(x0.size:Int)then(if 0≤x10 then((kQ.f (bt x0 x10)).bind fun arV=>(if arV=true then(dF.l1 k x0 x4 x5 (wrap64 (x10+1)))else(if x10=x5 then(some (([]:List ByteArray),false))else(if 0≤x5 then(if x5≤x10 then(if x10≤(x0.size:Int)then(if x4.length<8796093022208 then(dF.l0 k x0 (x4++[x0.extract (x5:Int).toNat (x10:Int).toNat]) x10 false)else(none))else(none))else(none))else(none)))))else(none))else(if x10=x5 then(some (([]:List ByteArray),false))else(if 0≤x5 then(if x5≤x10 then(if x10≤(x0.size:Int)then(if x4.length<8796093022208 then(dF.l0 k x0 (x4++[x0.extract (x5:Int).toNat (x10:Int).toNat]) x10 false)else(none))else(none))else(none))else(none)))
end
def dF.f (k:Nat) (a0:ByteArray):Option (List ByteArray×Bool):=(aZ.f k a0).bind fun arW=>(if arW=true then(dF.l0 k a0 (([]:List ByteArray)) 0 true)else(some (([]:List ByteArray),false)))
theorem dF.calls {k:Nat} {a0:ByteArray} {r1:List ByteArray} {r2:Bool} {w:World} (h:dF.f k a0=some (r1,r2)):
  Calls Tryz.prog 94 #[.string a0] w fun e w'=>∃oD:Value,e= .returned (.tuple #[oD, .bool r2])∧Kd.R Kd.string 9 w' w.heap.size (fun _=>True) oD r1∧Below w.heap.size w w':=by
 have HB:=ak (Below.refl w.heap.size w);unfold dF.f at h;have H:=h;clear h;replace H:=bd H;obtain⟨arW,A2,H⟩:=H;replace H:=sb H;rcases H with⟨rfl,H⟩|⟨rfl,H⟩
 ·obtain⟨aGp,aku⟩:=nm ([]:List ByteArray);rw[←aku.out]at H;have H':=ak H;clear H;go_enter Tryz.func94,Tryz.ntmps94;go_wp2_with (first|(refine gA Tryz.func89 (aZ.calls A2.out) ?_;intro nd)|(refine Hy 14 Kd.string 9 aku ?_;intro aGq w4 ho5 hb;have arX:=ak (Kd.aA ho5 (aj (ul HB.out)));replace HB:=bs HB hb;clear hb ho5))
  go_loopg [4,5,6] k (fun kq v4 v5 v6 w'=>∃(eu:List ByteArray) (dK:Int) (gY:Bool),v5= .int .i64 dK∧v6= .bool gY∧ah (dF.l0 kq a0 eu dK gY=some (r1,r2))∧ah (kq≤k)∧ah (Kd.R Kd.string 9 w' w.heap.size (fun _=>True) v4 eu)∧ah (Below w.heap.size w w'))
  case atStart=>exact⟨_,_,_,rs,rs,H',⟨Nat.le_refl _⟩,⟨ur arX.out⟩,⟨ul HB.out⟩⟩
  case round=>
   clear H';obtain⟨eu,dK,gY,rfl,rfl,HA,yH,fP,HB⟩:=hrel
   cases gk with
   |zero=>exact zz HA.out
   |succ k1=>
    obtain⟨H⟩:=HA;simp only[dF.l0]at H;replace H:=sd H;rcases H with⟨nG,H⟩|⟨nG,H⟩
    ·replace H:=nS H;obtain⟨qO,H⟩:=H;replace H:=sq H;rcases H with⟨yI,Gh,H⟩|⟨c9,yI,Gh,H⟩
     ·have H':=ak H;clear H;obtain⟨p8,q8,hx8⟩:=bx a0 dK;go_wp2;go_roundg k1
      case measure=>exact kl
      case rel=>exact⟨_,_,_,rs,rs,H',⟨kl⟩,⟨ur fP.out⟩,⟨ul HB.out⟩⟩
     ·replace H:=sb H;rcases H with⟨rfl,H⟩|⟨rfl,H⟩
      ·replace H:=sq H;rcases H with⟨xX,D9,H⟩|⟨c12,xX,D9,H⟩
       ·have vW:=eq_true (of_decide_eq_true (by assumption):0≤dK);replace H:=AY H;obtain⟨sK,xY,H⟩:=H;replace H:=bd H;obtain⟨⟨azU,aGr,aGs⟩,A15,H⟩:=H
        (try dsimp only at H);replace H:=sb H;rcases H with⟨rfl,H⟩|⟨rfl,H⟩
        ·replace H:=nl H;obtain⟨aeR,H⟩:=H;obtain⟨aGt,akv⟩:=nm (eu++[azU]);rw[←akv.out]at H;have H':=ak H;clear H;obtain⟨p8,q8,hx8⟩:=bx a0 dK;obtain⟨p11,q11,WS⟩:=bx a0 dK;go_wp2_with (first|(refine gB Tryz.func134 (jf.calls A15.out) ?_;intro w18 hb;replace fP:=rb fP hb;replace HB:=bs HB hb;clear hb)|(at_builtin;refine aP 68 70 Kd.string 23 9 (.string ⟨#[]⟩) 16 Tryz.underlying23 info9 HB (ur fP.out) akv (by have:=aeR.out;omega) ?_;intro aGu w19 ho hb hg hat;have arY:=ak (ho);replace HB:=ak (hb);clear ho hb hg hat fP))
         go_roundg k1
         case measure=>exact kl
         case rel=>exact⟨_,_,_,rs,rs,H',⟨kl⟩,⟨ur arY.out⟩,⟨ul HB.out⟩⟩
        ·obtain⟨rfl,rfl⟩:=s2 H;obtain⟨p8,q8,hx8⟩:=bx a0 dK;obtain⟨p11,q11,WS⟩:=bx a0 dK;go_wp2_with (refine gB Tryz.func134 (jf.calls A15.out) ?_;intro w20 hb;replace fP:=rb fP hb;replace HB:=bs HB hb;clear hb)
         go_ret2;exact⟨_,er,nx,ul HB.out⟩
       ·have H':=ak H;clear H;obtain⟨p8,q8,hx8⟩:=bx a0 dK;obtain⟨p11,q11,WS⟩:=bx a0 dK;go_wp2;go_loopg [10] k1 (fun kq v10 w'=>∃(OC:Int),v10= .int .i64 OC∧ah (dF.l1 kq a0 eu dK OC=some (r1,r2))∧ah (kq≤k1)∧ah (Kd.R Kd.string 9 w' w.heap.size (fun _=>True) u4 eu)∧ah (Below w.heap.size w w'))
        case atStart=>exact⟨_,rs,H',⟨Nat.le_refl _⟩,⟨ur fP.out⟩,⟨ul HB.out⟩⟩
        case round=>
         clear H';try clear nG
         try clear qO
         try clear p8
         try clear q8
         try clear hx8
         try clear c9
         try clear yI
         try clear Gh
         try clear p11
         try clear q11
         try clear WS
         try clear c12
         try clear xX
         try clear D9
         try clear p11
         try clear p8
         try clear q11
         try clear q8
         obtain⟨OC,rfl,HA,HK2,fP,HB⟩:=hrel
         cases gk with
         |zero=>exact zz HA.out
         |succ k2=>
          obtain⟨H⟩:=HA;simp only[dF.l1]at H;replace H:=sd H;rcases H with⟨Fb,H⟩|⟨Fb,H⟩
          ·replace H:=nS H;obtain⟨FZ,H⟩:=H;replace H:=bd H;obtain⟨arV,Yv,H⟩:=H;replace H:=sb H;rcases H with⟨rfl,H⟩|⟨rfl,H⟩
           ·have H':=ak H;clear H;obtain⟨p23,q23,arZ⟩:=bx a0 OC;go_wp2_with (go_at_call 135;refine mA (kQ.calls Yv.out) ?_;intro nd)
            go_roundg k2
            case measure=>exact kl
            case rel=>exact⟨_,rs,H',⟨kl⟩,⟨ur fP.out⟩,⟨ul HB.out⟩⟩
           ·replace H:=sq H;rcases H with⟨OB,aaH,H⟩|⟨c26,OB,aaH,H⟩
            ·obtain⟨rfl,rfl⟩:=s2 H;obtain⟨p23,q23,arZ⟩:=bx a0 OC;go_wp2_with (go_at_call 135;refine mA (kQ.calls Yv.out) ?_;intro nd)
             go_ret2;exact⟨_,er,nx,ul HB.out⟩
            ·replace H:=AY H;obtain⟨Gi,aaC,H⟩:=H;replace H:=AY H;obtain⟨Gj,aaI,H⟩:=H;replace H:=AY H;obtain⟨aaD,aCW,H⟩:=H;replace H:=nl H;obtain⟨ar0,H⟩:=H;obtain⟨aGv,akw⟩:=nm (eu++[a0.extract (dK:Int).toNat (OC:Int).toNat]);rw[←akw.out]at H;have H':=ak H;clear H;obtain⟨p23,q23,arZ⟩:=bx a0 OC;go_wp2_with (first|(go_at_call 135;refine mA (kQ.calls Yv.out) ?_;intro nd)|(at_builtin;refine aP 35 40 Kd.string 23 9 (.string ⟨#[]⟩) 16 Tryz.underlying23 info9 HB (ur fP.out) akw (by have:=ar0.out;omega) ?_;intro aGw w31 ho hb hg hat;have ar1:=ak (ho);replace HB:=ak (hb);clear ho hb hg hat fP))
             go_roundg k2
             case measure=>exact kl
             case rel=>exact⟨_,_,_,rs,rs,H',⟨kl⟩,⟨ur ar1.out⟩,⟨ul HB.out⟩⟩
          ·replace H:=sq H;rcases H with⟨Xc,aeS,H⟩|⟨c32,Xc,aeS,H⟩
           ·obtain⟨rfl,rfl⟩:=s2 H;go_wp2;go_ret2;exact⟨_,er,nx,ul HB.out⟩
           ·replace H:=AY H;obtain⟨TJ,aeI,H⟩:=H;replace H:=AY H;obtain⟨WY,WZ,H⟩:=H;replace H:=AY H;obtain⟨aeT,akx,H⟩:=H;replace H:=nl H;obtain⟨ar2,H⟩:=H;obtain⟨aGx,aky⟩:=nm (eu++[a0.extract (dK:Int).toNat (OC:Int).toNat]);rw[←aky.out]at H;have H':=ak H;clear H;go_wp2_with (at_builtin;refine aP 35 40 Kd.string 23 9 (.string ⟨#[]⟩) 16 Tryz.underlying23 info9 HB (ur fP.out) aky (by have:=ar2.out;omega) ?_;intro aGy w37 ho hb hg hat;have ar4:=ak (ho);replace HB:=ak (hb);clear ho hb hg hat fP)
            go_roundg k2
            case measure=>exact kl
            case rel=>exact⟨_,_,_,rs,rs,H',⟨kl⟩,⟨ur ar4.out⟩,⟨ul HB.out⟩⟩
      ·obtain⟨rfl,rfl⟩:=s2 H;obtain⟨p8,q8,hx8⟩:=bx a0 dK;go_wp2;go_ret2;exact⟨_,er,nx,ul HB.out⟩
    ·obtain⟨rfl,rfl⟩:=s2 H;go_wp2;go_ret2;exact⟨_,er,ur fP.out,ul HB.out⟩
 ·obtain⟨rfl,rfl⟩:=s2 H;go_enter Tryz.func94,Tryz.ntmps94;go_wp2_with (refine gA Tryz.func89 (aZ.calls A2.out) ?_;intro nd)
  go_ret2;exact⟨_,er,nx,ul HB.out⟩
def fU.f (k:Nat) (a0:ByteArray):Option (Bool):=(je.f k a0).bind fun ar5=>(if ar5=true then((iQ.f a0).bind fun ar6=>(some (ar6.toList==a0.toList)))else(some false))
theorem fU.calls {k:Nat} {a0:ByteArray} {r:Bool} {w:World} (h:fU.f k a0=some r):
  Calls Tryz.prog 136 #[.string a0] w fun e w'=>e= .returned (.bool r)∧Below w.heap.size w w':=by
 have HB:=ak (Below.refl w.heap.size w);unfold fU.f at h;have H:=h;clear h;replace H:=bd H;obtain⟨ar5,A2,H⟩:=H;replace H:=sb H;rcases H with⟨rfl,H⟩|⟨rfl,H⟩
 ·replace H:=bd H;obtain⟨ar6,A4,H⟩:=H;obtain rfl:=s1 H;go_enter Tryz.func136,Tryz.ntmps136;go_wp2_with (first|(refine gA Tryz.func160 (je.calls A2.out) ?_;intro nd)|(go_at_call 93;refine mB (iQ.calls A4.out) ?_;intro w5 hb;replace HB:=bs HB hb;clear hb))
  go_ret;exact⟨er,ul HB.out⟩
 ·obtain rfl:=s1 H;go_enter Tryz.func136,Tryz.ntmps136;go_wp2_with (refine gA Tryz.func160 (je.calls A2.out) ?_;intro nd)
  go_ret;exact⟨er,ul HB.out⟩
def dJ.l0:Nat→ByteArray→Int→Int→Option (Bool)
 |0,_,_,_=>none
 |k+1,x0,x7,x8=>if x8<x7 then(if 0≤x8 then(if x8<(x0.size:Int)then((kQ.f (bt x0 x8)).bind fun ar7=>(if ar7=true then(dJ.l0 k x0 x7 (wrap64 (x8+1)))else(some false)))else(none))else(none))else(some true)
def dJ.f (k:Nat) (a0:ByteArray):Option (Bool):=dJ.l0 k a0 (a0.size:Int) 0
theorem dJ.calls {k:Nat} {a0:ByteArray} {r:Bool} {w:World} (h:dJ.f k a0=some r):
  Calls Tryz.prog 138 #[.string a0, .func (.func 135) #[] #[]] w fun e w'=>e= .returned (.bool r)∧dM w w':=by
 unfold dJ.f at h;have H:=h;clear h;have H':=ak H;clear H;go_enter Tryz.func138,Tryz.ntmps138;go_wp2;go_loopg [8] k (fun kq v8 w'=>∃(kN:Int),v8= .int .i64 kN∧ah (dJ.l0 kq a0 (a0.size:Int) kN=some r)∧ah (kq≤k)∧dM w w')
 case atStart=>exact⟨_,rs,H',⟨Nat.le_refl _⟩,dn⟩
 case round=>
  clear H';obtain⟨kN,rfl,HA,yH,⟨m1,rfl⟩⟩:=hrel
  cases gk with
  |zero=>exact zz HA.out
  |succ k1=>
   obtain⟨H⟩:=HA;simp only[dJ.l0]at H;replace H:=sd H;rcases H with⟨iH,H⟩|⟨iH,H⟩
   ·replace H:=nS H;obtain⟨qW,H⟩:=H;replace H:=nS H;obtain⟨mQ,H⟩:=H;replace H:=bd H;obtain⟨ar7,A7,H⟩:=H;replace H:=sb H;rcases H with⟨rfl,H⟩|⟨rfl,H⟩
    ·have H':=ak H;clear H;obtain⟨p6,q6,hx6⟩:=bx a0 kN;go_wp2_with (go_at_call 135;refine mA (kQ.calls A7.out) ?_;intro nd)
     go_roundg k1
     case measure=>exact kl
     case rel=>exact⟨_,rs,H',⟨kl⟩,dn⟩
    ·obtain rfl:=s1 H;obtain⟨p6,q6,hx6⟩:=bx a0 kN;go_wp2_with (go_at_call 135;refine mA (kQ.calls A7.out) ?_;intro nd)
     go_ret;exact⟨rs,dn⟩
   ·obtain rfl:=s1 H;go_wp2;go_ret;exact⟨rs,dn⟩
end Go.Proofs.YtncdadcmghglkaaGreatDoor.PFnKidLines
