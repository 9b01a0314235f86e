/- Printed walks; conditions: those in each statement. -/
import Derived.Test.YtdkipechiaploaaGreatDoorVFnPartTextQt
import Derived.Test.YtdkipechiaploaaGreatDoorVFnPartTextYt
import Derived.Test.YtdkipechiaploaaGreatDoorPFnPartTextx0
import Derived.Test.YtdkipechiaploaaGreatDoorPFnPartTextx9
namespace Go.Proofs.YtdkipechiaploaaGreatDoor.PFnPartText
open Go.Proofs.YtdkipechiaploaaGreatDoorW.dZ.Kd Go.Proofs.YtdkipechiaploaaGreatDoorW.rW.Kd Go.Proofs.Tryz Go.RowKit Go.Proofs.YtdkipechiaploaaGreatDoor.X Go.Proofs.YtdkipechiaploaaGreatDoorW.dZ Go.Proofs.YtdkipechiaploaaGreatDoorW.nK Go.Proofs.YtdkipechiaploaaGreatDoorW.rW
attribute [local go_sem] BN BO Fb Fe zK zL BP BQ   -- for this text's walks alone
set_option linter.unusedVariables false
set_option maxHeartbeats 8000000
set_option maxRecDepth 100000
set_option linter.unusedSimpArgs false
def D9.f(k:Nat)(l0:List Int):Option ((List (eG))×List ByteArray×(List (kE))):=(uh.f l0).bind fun ak4=>((eP.f k ak4.1 ak4.2 3).bind fun ahm=>((fD.f k ak4.1 ahm.2.2.2 ahm.1 ahm.2.1 ahm.2.2.1).bind fun ak5=>(some (ak5.1,ak5.2.1,ak5.2.2.1))))
theorem D9.calls{k c0:Nat}{A0:Option Addr}{l0:List Int}{r1:List (eG)}{r2:List ByteArray}{r3:List (kE)}{w:World}(hr0:Kd.C (Kd.int .u8) w A0 l0.length l0)(hc0:l0.length≤c0)(h:D9.f k l0=some (r1,r2,r3)):
  Calls Tryz.prog 13 #[.slice A0 l0.length c0] w fun e w'=>∃nC BR EN:Value,e= .returned (.agg #[nC,BR,EN])∧Kd.R o9 43 w' w.heap.size (fun _=>True) nC r1∧Kd.R Kd.string 9 w' w.heap.size (fun _=>True) BR r2∧Kd.R k27 27 w' w.heap.size (fun k_=>some k_≠(nC:Value).ownBlock∧some k_≠(BR:Value).ownBlock) EN r3∧Below w.heap.size w w':=by
 have Fg:=underlying27;have HR0:=ak hr0;have uV:=ak hc0;clear hr0 hc0;have HB:=ak (Below.refl w.heap.size w);unfold D9.f at h;have H:=h;clear h;replace H:=bd H;obtain⟨⟨aqC,aKM⟩,A2,H⟩:=H
 (try dsimp only at H);replace H:=bd H;obtain⟨⟨aBb,aBd,aBe,aqD⟩,A3,H⟩:=H
 (try dsimp only at H);replace H:=bd H;obtain⟨⟨aKN,aKO,aKP,aS7⟩,A4,H⟩:=H
 (try dsimp only at H);obtain⟨rfl,rfl,rfl⟩:=s3 H;go_enter func13,ntmps13;go_wp2_with (first|(refine bX HB 2 #[.slice none 0 0, .slice none 0 0, .slice none 0 0] 27 ?_;intro ak6 w5 LU aOM hb;replace HB:=bs HB hb;clear hb)|(refine gL 21 5 func21 #[.slice A0 l0.length c0] ?_;(with_reducible refine(uh.calls w ?dR HR0.out uV.out A2.out).mono ?_);(case dR=>exact qy);rintro e w6 ⟨ajp,rfl,hi,hb,hb2⟩;refine⟨_,rfl,?_⟩;have ak7:=ak (hi);have ajq:=ak (bn.akV hi (vG (ub LU.out) hb2) (by decide));have Uo:=ak (Ne.symm (bn.akV hi (vG (ub LU.out) hb2) (by decide)));replace LU:=kb LU hb2;replace HB:=ak (hb);clear hb;(try clear hb2);(try clear hi))|(refine gL 22 8 func22 #[.pointer (some ⟨ajp,0,none⟩), .int .i64 3] ?_;(with_reducible refine(eP.calls k ajp aqC aKM 3 aBb aBd aBe aqD w _ ?dR ?jm A3.out).mono ?_);(case dR=>exact qV);(case jm=>exact qy);rintro e w7 ⟨aS8,aS9,aS_,rfl,ho0,ho1,ho2,hi,hb,hk⟩;refine⟨_,rfl,?_⟩;have Xo:=ak (au ho0 (aj qy));have Vo:=ak (au ho1 (aj qy));have aag:=ak (au (jH ho2 (g:=ak6) (o:= .cells #[.slice none 0 0, .slice none 0 0, .slice none 0 0] 27 (0,0)) (ub LU.out)) (aj qy));replace LU:=kc LU hk Uo;replace HB:=ak (hb);replace ak7:=ak (hi);clear hb;(try clear hk);(try clear hi);(try clear ho0);(try clear ho1);(try clear ho2);obtain⟨Ao8,co8,eo8⟩:=aC Xo.out;subst eo8;obtain⟨Ao9,co9,eo9⟩:=aC Vo.out;subst eo9;obtain⟨Xp,VX,ae9⟩:=aC aag.out;subst ae9)|(refine gL 27 9 func27 #[.pointer (some ⟨ajp,0,none⟩), .agg #[.slice Ao8 aBb.length co8, .slice Ao9 aBd.length co9, .slice Xp aBe.length VX]] ?_;(with_reducible refine(fD.calls w ?dR ?jm (Xq (bn.apart (show bn w _ ajp aqC aqD from qV) (ur Xo.out) (by decide)) (fun _ h_=>h_.2)) ((aA Xo.out).2.1) (cu ((aA Vo.out).2.2)) ((aA Vo.out).2.1) (ql (bn.own_ne ak7.out Vo.out (by decide))) (Xq (bn.apart (show bn w _ ajp aqC aqD from qV) (ur aag.out) (by decide)) (fun _ h_=>h_.2)) ((aA aag.out).2.1) A4.out).mono ?_);(case dR=>exact qV);(case jm=>exact qy);rintro e ZH ⟨aTa,aTb,aTc,rfl,ho0,ho1,ho2,hi,hb,hk⟩;refine⟨_,rfl,?_⟩;have aBf:=ak (au (dM ho0 (jl (ur Xo.out))) (aj qy));have aBg:=ak (au (dM ho1 (jl (ur Vo.out))) (aj qy));have aBh:=ak (au (jH (dM (dM (dM ho2 (jl (ur Xo.out))) (jl (ur Vo.out))) (jl (ur aag.out))) (g:=ak6) (o:= .cells #[.slice none 0 0, .slice none 0 0, .slice none 0 0] 27 (0,0)) (ub LU.out)) (aj qy));replace LU:=kc LU hk Uo;replace Xo:=kj Xo hk ho0;replace Vo:=kj Vo hk ho1;replace aag:=ak (aG (oC (oC (oC (abd (bn.apart (show bn w _ ajp aqC aqD from qV) (ur aag.out) (by decide)) hk) (bK ho0)) (bK ho1)) (bK ho2)) (fun _ h_=>h_.1));replace HB:=ak (hb);replace ak7:=ak (hi);clear hb;(try clear hk);(try clear hi);(try clear ho0);(try clear ho1);(try clear ho2);obtain⟨BU,Ak,Uf⟩:=aC aBf.out;subst Uf;have asM:=Uo.out;have asN:=ajq.out;have z14:=iZ LU.out;obtain⟨PL,OT,QI⟩:=aC aBg.out;subst QI;obtain⟨OW,LV,LW⟩:=aC aBh.out;subst LW))
 refine bodyPost_ret (results_cell_row rfl _ _ ak6 27 #[.slice BU aKN.length Ak, .slice PL aKO.length OT, .slice OW aKP.length LV] (0,0) _ rfl bq underlying27 rfl (by kernel_rfl)) rfl ?_;exact⟨_,_,_,er,rr,rr,rr,qy⟩
def qW.f(k:Nat)(l0:List Int):Option ((List (eG))×List ByteArray×(List (kE))):=(D9.f k l0).bind fun ak8=>(some (ak8.1,ak8.2.1,ak8.2.2))
theorem qW.calls{k c0:Nat}{A0:Option Addr}{l0:List Int}{r1:List (eG)}{r2:List ByteArray}{r3:List (kE)}{w:World}(hr0:Kd.C (Kd.int .u8) w A0 l0.length l0)(hc0:l0.length≤c0)(h:qW.f k l0=some (r1,r2,r3)):
  Calls Tryz.prog 4 #[.slice A0 l0.length c0] w fun e w'=>∃nC BR EN:Value,e= .returned (.agg #[nC,BR,EN])∧Kd.R o9 43 w' w.heap.size (fun _=>True) nC r1∧Kd.R Kd.string 9 w' w.heap.size (fun _=>True) BR r2∧Kd.R k27 27 w' w.heap.size (fun k_=>some k_≠(nC:Value).ownBlock∧some k_≠(BR:Value).ownBlock) EN r3∧Below w.heap.size w w':=by
 have Fg:=underlying27;have HR0:=ak hr0;have uV:=ak hc0;clear hr0 hc0;have HB:=ak (Below.refl w.heap.size w);unfold qW.f at h;have H:=h;clear h;replace H:=bd H;obtain⟨⟨aKQ,aKR,aKS⟩,A2,H⟩:=H
 (try dsimp only at H);obtain⟨rfl,rfl,rfl⟩:=s3 H;go_enter func4,ntmps4;go_wp2_with (first|(refine bX HB 2 #[.slice none 0 0, .slice none 0 0, .slice none 0 0] 27 ?_;intro asO w3 ahn aON hb;replace HB:=bs HB hb;clear hb)|(refine gL 13 4 func13 #[.slice A0 l0.length c0] ?_;(with_reducible refine(D9.calls (cu (aI HR0.out HB.out)) uV.out A2.out).mono ?_);rintro e w4 ⟨aTd,aTe,aTf,rfl,ho0,ho1,ho2,hb⟩;refine⟨_,rfl,?_⟩;have aBi:=ak (au ho0 (aj bb));have aBj:=ak (au ho1 (aj bb));have aBk:=ak (au (jH ho2 (g:=asO) (o:= .cells #[.slice none 0 0, .slice none 0 0, .slice none 0 0] 27 (0,0)) (ub ahn.out)) (aj bb));replace ahn:=kb ahn hb;replace HB:=bz HB hb;clear hb;(try clear ho0);(try clear ho1);(try clear ho2);obtain⟨Ao5,co5,eo5⟩:=aC aBi.out;subst eo5;have z6:=iZ ahn.out;obtain⟨Ao7,co7,eo7⟩:=aC aBj.out;subst eo7;obtain⟨Ao8,co8,eo8⟩:=aC aBk.out;subst eo8))
 refine bodyPost_ret (results_cell_row rfl _ _ asO 27 #[.slice Ao5 aKQ.length co5, .slice Ao7 aKR.length co7, .slice Ao8 aKS.length co8] (0,0) _ rfl bq underlying27 rfl (by kernel_rfl)) rfl ?_;exact⟨_,_,_,er,rr,rr,rr,bb⟩
def bC.l0:Nat→ByteArray→Int→Int→Option (Bool)
 |0,_,_,_=>none
 |k+1,x0,x5,x6=>if x6<x5 then(if 0≤x6 then(if x6<(x0.size:Int)then(if(bt x0 x6)<32 then(some false)else(if(bt x0 x6)>126 then(some false)else(bC.l0 k x0 x5 (wrap64 (x6+1)))))else(none))else(none))else(some (decide ((x0.size:Int)≤200)))
def bC.f(k:Nat)(a0:ByteArray):Option (Bool):=bC.l0 k a0 (a0.size:Int) 0
theorem bC.calls{k:Nat}{a0:ByteArray}{r:Bool}{w:World}(h:bC.f k a0=some r):
  Calls Tryz.prog 52 #[.string a0] w fun e w'=>e= .returned (.bool r)∧dS w w':=by
 unfold bC.f at h;have H:=h;clear h;have H':=ak H;clear H;go_enter func52,ntmps52;go_wp2;go_loopg [6] k (fun kq v6 w'=>∃(gU:Int),v6= .int .i64 gU∧ah (bC.l0 kq a0 (a0.size:Int) gU=some r)∧ah (kq≤k)∧dS w w')
 case atStart=>exact⟨_,rs,H',⟨Nat.le_refl _⟩,dn⟩
 case round=>
  clear H';obtain⟨gU,rfl,HA,y5,⟨m1,rfl⟩⟩:=hrel
  cases gk with
  |zero=>exact zz HA.out
  |succ k1=>
   obtain⟨H⟩:=HA;simp only[bC.l0]at H;replace H:=sd H;rcases H with⟨sO,H⟩|⟨sO,H⟩
   ·replace H:=nO H;obtain⟨iY,H⟩:=H;replace H:=nO H;obtain⟨o7,H⟩:=H;replace H:=sd H;rcases H with⟨nD,H⟩|⟨nD,H⟩
    ·obtain rfl:=s1 H;obtain⟨p5,q5,hx5⟩:=bx a0 gU;go_wp2;go_ret;exact⟨rs,dn⟩
    ·replace H:=sp H;rcases H with⟨c8,H⟩|⟨c8,H⟩
     ·have rP:decide (126<(bt a0 gU))=true:=decide_eq_true c8;clear c8;obtain rfl:=s1 H;obtain⟨p5,q5,hx5⟩:=bx a0 gU;obtain⟨p7,q7,hx7⟩:=bx a0 gU;go_wp2;go_ret;exact⟨rs,dn⟩
     ·have rP:decide (126<(bt a0 gU))=false:=decide_eq_false c8;clear c8;have H':=ak H;clear H;obtain⟨p5,q5,hx5⟩:=bx a0 gU;obtain⟨p7,q7,hx7⟩:=bx a0 gU;go_wp2;go_roundg k1
      case measure=>exact kl
      case rel=>exact⟨_,rs,H',⟨kl⟩,dn⟩
   ·obtain rfl:=s1 H;go_wp2;go_ret;exact⟨rs,dn⟩
def lq.f(a0:ByteArray)(a1:ByteArray):Option (ByteArray):=if a1.data.toList=[32]then(if a0.size≤9223372036854775807 then some ⟨(Lib.trimB a0.data.toList 32).toArray⟩else none)else none
theorem lq.calls{a0 a1 r:ByteArray}{w:World}(h:lq.f a0 a1=some r):
  Calls Tryz.prog 67 #[.string a0, .string a1] w fun e w'=>e= .returned (.string r)∧dS w w':=by
 unfold lq.f at h;split at h
 ·rename_i h1
  split at h
  ·rename_i hs
   injection h with h;subst h
   have e1:a1=⟨#[32]⟩:=by
    cases a1 with
    |mk d=>exact congrArg ByteArray.mk (Array.toList_inj.mp h1)
   subst e1;refine(Tryz.strings_Trim_one a0 32 (by decide) w hs).mono ?_;rintro e w' ⟨he,hw⟩;refine⟨he,?_⟩;rcases hw with rfl|rfl
   ·exact⟨⟨0,rfl⟩⟩
   ·exact⟨⟨1,rfl⟩⟩
  ·cases h
 ·cases h
def bH.f(a0:Int):Option (Bool):=if a0≥97 then(if a0≤122 then(some true)else(if a0≥65 then(some (decide (a0≤90)))else(some false)))else(if a0≥65 then(some (decide (a0≤90)))else(some false))
theorem bH.calls{a0:Int}{r:Bool}{w:World}(h:bH.f a0=some r):
  Calls Tryz.prog 84 #[.int .u8 a0] w fun e w'=>e= .returned (.bool r)∧dS w w':=by
 unfold bH.f at h;have H:=h;clear h;replace H:=sp H;rcases H with⟨c2,H⟩|⟨c2,H⟩
 ·have sO:decide (97≤a0)=true:=decide_eq_true c2;clear c2;replace H:=sd H;rcases H with⟨iY,H⟩|⟨iY,H⟩
  ·obtain rfl:=s1 H;go_enter func84,ntmps84;go_wp2;go_ret;exact⟨rs,dn⟩
  ·replace H:=sp H;rcases H with⟨c4,H⟩|⟨c4,H⟩
   ·have o7:decide (65≤a0)=true:=decide_eq_true c4;clear c4;obtain rfl:=s1 H;go_enter func84,ntmps84;go_wp2;go_ret;exact⟨rs,dn⟩
   ·have o7:decide (65≤a0)=false:=decide_eq_false c4;clear c4;obtain rfl:=s1 H;go_enter func84,ntmps84;go_wp2;go_ret;exact⟨rs,dn⟩
 ·have sO:decide (97≤a0)=false:=decide_eq_false c2;clear c2;replace H:=sp H;rcases H with⟨c5,H⟩|⟨c5,H⟩
  ·have mV:decide (65≤a0)=true:=decide_eq_true c5;clear c5;obtain rfl:=s1 H;go_enter func84,ntmps84;go_wp2;go_ret;exact⟨rs,dn⟩
  ·have mV:decide (65≤a0)=false:=decide_eq_false c5;clear c5;obtain rfl:=s1 H;go_enter func84,ntmps84;go_wp2;go_ret;exact⟨rs,dn⟩
def dU.f(a0:Int):Option (Bool):=if a0≥48 then(some (decide (a0≤57)))else(some false)
theorem dU.calls{a0:Int}{r:Bool}{w:World}(h:dU.f a0=some r):
  Calls Tryz.prog 85 #[.int .u8 a0] w fun e w'=>e= .returned (.bool r)∧dS w w':=by
 unfold dU.f at h;have H:=h;clear h;replace H:=sp H;rcases H with⟨c2,H⟩|⟨c2,H⟩
 ·have sO:decide (48≤a0)=true:=decide_eq_true c2;clear c2;obtain rfl:=s1 H;go_enter func85,ntmps85;go_wp2;go_ret;exact⟨rs,dn⟩
 ·have sO:decide (48≤a0)=false:=decide_eq_false c2;clear c2;obtain rfl:=s1 H;go_enter func85,ntmps85;go_wp2;go_ret;exact⟨rs,dn⟩
def uG.f(a0:Int):Option (Bool):=(bH.f a0).bind fun aBl=>(if aBl=true then(some true)else((dU.f a0).bind fun aBm=>(if aBm=true then(some true)else(some (a0==45)))))
theorem uG.calls{a0:Int}{r:Bool}{w:World}(h:uG.f a0=some r):
  Calls Tryz.prog 136 #[.int .u8 a0] w fun e w'=>e= .returned (.bool r)∧dS w w':=by
 unfold uG.f at h;have H:=h;clear h;replace H:=bd H;obtain⟨aBl,A2,H⟩:=H;replace H:=sb H;rcases H with⟨rfl,H⟩|⟨rfl,H⟩
 ·obtain rfl:=s1 H;go_enter func136,ntmps136;go_wp2_with (refine gA func84 (bH.calls A2.out) ?_;intro nd)
  go_ret;exact⟨rs,dn⟩
 ·replace H:=bd H;obtain⟨aBm,A4,H⟩:=H;replace H:=sb H;rcases H with⟨rfl,H⟩|⟨rfl,H⟩
  ·obtain rfl:=s1 H;go_enter func136,ntmps136;go_wp2_with (first|(refine gA func84 (bH.calls A2.out) ?_;intro nd)|(go_at_call 85;refine mA (dU.calls A4.out) ?_;intro nd))
   go_ret;exact⟨rs,dn⟩
  ·obtain rfl:=s1 H;go_enter func136,ntmps136;go_wp2_with (first|(refine gA func84 (bH.calls A2.out) ?_;intro nd)|(go_at_call 85;refine mA (dU.calls A4.out) ?_;intro nd))
   go_ret;exact⟨rs,dn⟩
def fH.l0:Nat→ByteArray→Int→Int→Option (Bool)
 |0,_,_,_=>none
 |k+1,x0,x7,x8=>if x8<x7 then(if 0≤x8 then(if x8<(x0.size:Int)then((uG.f (bt x0 x8)).bind fun aBn=>(if aBn=true then(fH.l0 k x0 x7 (wrap64 (x8+1)))else(some false)))else(none))else(none))else(some true)
def fH.f(k:Nat)(a0:ByteArray):Option (Bool):=fH.l0 k a0 (a0.size:Int) 0
theorem fH.calls{k:Nat}{a0:ByteArray}{r:Bool}{w:World}(h:fH.f k a0=some r):
  Calls Tryz.prog 82 #[.string a0, .func (.func 136) #[] #[]] w fun e w'=>e= .returned (.bool r)∧dS w w':=by
 unfold fH.f at h;have H:=h;clear h;have H':=ak H;clear H;go_enter func82,ntmps82;go_wp2;go_loopg [8] k (fun kq v8 w'=>∃(lX:Int),v8= .int .i64 lX∧ah (fH.l0 kq a0 (a0.size:Int) lX=some r)∧ah (kq≤k)∧dS w w')
 case atStart=>exact⟨_,rs,H',⟨Nat.le_refl _⟩,dn⟩
 case round=>
  clear H';obtain⟨lX,rfl,HA,y5,⟨m1,rfl⟩⟩:=hrel
  cases gk with
  |zero=>exact zz HA.out
  |succ k1=>
   obtain⟨H⟩:=HA;simp only[fH.l0]at H;replace H:=sd H;rcases H with⟨iY,H⟩|⟨iY,H⟩
   ·replace H:=nO H;obtain⟨o7,H⟩:=H;replace H:=nO H;obtain⟨mV,H⟩:=H;replace H:=bd H;obtain⟨aBn,A7,H⟩:=H;replace H:=sb H;rcases H with⟨rfl,H⟩|⟨rfl,H⟩
    ·have H':=ak H;clear H;obtain⟨p6,q6,hx6⟩:=bx a0 lX;go_wp2_with (go_at_call 136;refine mA (uG.calls A7.out) ?_;intro nd)
     go_roundg k1
     case measure=>exact kl
     case rel=>exact⟨_,rs,H',⟨kl⟩,dn⟩
    ·obtain rfl:=s1 H;obtain⟨p6,q6,hx6⟩:=bx a0 lX;go_wp2_with (go_at_call 136;refine mA (uG.calls A7.out) ?_;intro nd)
     go_ret;exact⟨rs,dn⟩
   ·obtain rfl:=s1 H;go_wp2;go_ret;exact⟨rs,dn⟩
def kG.f(k:Nat)(a0:ByteArray):Option (Bool):=if(a0.size:Int)≥1 then(if(a0.size:Int)≤30 then(if 0<(a0.size:Int)then((bH.f (bt a0 0)).bind fun aBo=>(if aBo=true then((fH.f k a0).bind fun aBp=>(some aBp))else(some false)))else(none))else(some false))else(some false)
theorem kG.calls{k:Nat}{a0:ByteArray}{r:Bool}{w:World}(h:kG.f k a0=some r):
  Calls Tryz.prog 113 #[.string a0] w fun e w'=>e= .returned (.bool r)∧dS w w':=by
 unfold kG.f at h;have H:=h;clear h;replace H:=sp H;rcases H with⟨c2,H⟩|⟨c2,H⟩
 ·have sO:decide (1≤(a0.size:Int))=true:=decide_eq_true c2;have BK:decide (1≤a0.size)=true:=decide_eq_true (by omega);clear c2;replace H:=sp H;rcases H with⟨c3,H⟩|⟨c3,H⟩
  ·have iY:=decide_eq_true c3;have zN:decide (a0.size≤30)=true:=decide_eq_true (by omega);clear c3;replace H:=nn H;obtain⟨c4,H⟩:=H;have o7:=decide_eq_true c4;have Ul:decide (0<a0.size)=true:=decide_eq_true (by omega);clear c4;replace H:=bd H;obtain⟨aBo,A6,H⟩:=H;replace H:=sb H;rcases H with⟨rfl,H⟩|⟨rfl,H⟩
   ·replace H:=bd H;obtain⟨aBp,A8,H⟩:=H;obtain rfl:=s1 H;have p5:0≤(0:Int):=(by omega)
    have q5:0<a0.size:=(by have:(0:Int)<(a0.size:Int):=of_decide_eq_true (by assumption);omega)
    have hx5:∀h:0<a0.size,((a0[0]'h).toNat:Int)=bt a0 0:=wY a0 0;clear p5;have qi5:(0<(a0.size:Int))=True:=eq_true (of_decide_eq_true (by assumption));replace q5:=eq_true q5;go_enter func113,ntmps113;go_wp2_with (first|(go_at_call 84;refine mA (bH.calls A6.out) ?_;intro nd)|(go_at_call 82;refine mA (fH.calls A8.out) ?_;intro nd))
    go_ret;exact⟨rs,dn⟩
   ·obtain rfl:=s1 H;have p5:0≤(0:Int):=(by omega)
    have q5:0<a0.size:=(by have:(0:Int)<(a0.size:Int):=of_decide_eq_true (by assumption);omega)
    have hx5:∀h:0<a0.size,((a0[0]'h).toNat:Int)=bt a0 0:=wY a0 0;clear p5;have qi5:(0<(a0.size:Int))=True:=eq_true (of_decide_eq_true (by assumption));replace q5:=eq_true q5;go_enter func113,ntmps113;go_wp2_with (go_at_call 84;refine mA (bH.calls A6.out) ?_;intro nd)
    go_ret;exact⟨rs,dn⟩
  ·have iY:=decide_eq_false c3;have zN:decide (a0.size≤30)=false:=decide_eq_false (by omega);clear c3;obtain rfl:=s1 H;go_enter func113,ntmps113;go_wp2;go_ret;exact⟨rs,dn⟩
 ·have sO:decide (1≤(a0.size:Int))=false:=decide_eq_false c2;have BK:decide (1≤a0.size)=false:=decide_eq_false (by omega);clear c2;obtain rfl:=s1 H;go_enter func113,ntmps113;go_wp2;go_ret;exact⟨rs,dn⟩
def tC.f(k:Nat)(fF:ByteArray)(fK:ByteArray):Option (Bool):=(kG.f k fF).bind fun aBq=>(if aBq=true then((bC.f k fK).bind fun aBr=>(if aBr=true then(if(fK.size:Int)≤150 then((lq.f fK (⟨#[32]⟩:ByteArray)).bind fun aBs=>(some (aBs.toList==fK.toList)))else(some false))else(some false)))else(some false))
theorem tC.calls{k:Nat}{fF fK:ByteArray}{r:Bool}{w:World}(h:tC.f k fF fK=some r):
  Calls Tryz.prog 75 #[.agg #[.string fF, .string fK]] w fun e w'=>e= .returned (.bool r)∧Below w.heap.size w w':=by
 have F7:=underlying43;have HB:=ak (Below.refl w.heap.size w);unfold tC.f at h;have H:=h;clear h;replace H:=bd H;obtain⟨aBq,A2,H⟩:=H;replace H:=sb H;rcases H with⟨rfl,H⟩|⟨rfl,H⟩
 ·replace H:=bd H;obtain⟨aBr,A4,H⟩:=H;replace H:=sb H;rcases H with⟨rfl,H⟩|⟨rfl,H⟩
  ·replace H:=sp H;rcases H with⟨c6,H⟩|⟨c6,H⟩
   ·have nD:=decide_eq_true c6;have AQ:decide (fK.size≤150)=true:=decide_eq_true (by omega);clear c6;replace H:=bd H;obtain⟨aBs,A7,H⟩:=H;obtain rfl:=s1 H;go_enter func75,ntmps75;go_wp2_with (first|(refine gG 1 ?_;refine bX HB 1 #[.string fF, .string fK] 43 ?_;intro LX w8 y9 LY hb;replace HB:=bs HB hb;clear hb;have z9:=BM y9.out)|(go_at_call 113;refine mA (kG.calls A2.out) ?_;intro nd;(try exact dq))|(go_at_call 52;refine mA (bC.calls A4.out) ?_;intro nd;(try exact dq))|(go_at_call 67;refine mA (lq.calls A7.out) ?_;intro nd;(try exact dq)))
    repeat(go_quiet (first|(refine gG 1 ?_;refine bX HB 1 #[.string fF, .string fK] 43 ?_;intro LX w8 y9 LY hb;replace HB:=bs HB hb;clear hb;have z9:=BM y9.out)|(go_at_call 113;refine mA (kG.calls A2.out) ?_;intro nd;(try exact dq))|(go_at_call 52;refine mA (bC.calls A4.out) ?_;intro nd;(try exact dq))|(go_at_call 67;refine mA (lq.calls A7.out) ?_;intro nd;(try exact dq)));try go_wp2_with (first|(refine gG 1 ?_;refine bX HB 1 #[.string fF, .string fK] 43 ?_;intro LX w8 y9 LY hb;replace HB:=bs HB hb;clear hb;have z9:=BM y9.out)|(go_at_call 113;refine mA (kG.calls A2.out) ?_;intro nd;(try exact dq))|(go_at_call 52;refine mA (bC.calls A4.out) ?_;intro nd;(try exact dq))|(go_at_call 67;refine mA (lq.calls A7.out) ?_;intro nd;(try exact dq))))
    go_ret;exact⟨er,bb⟩
   ·have nD:=decide_eq_false c6;have AQ:decide (fK.size≤150)=false:=decide_eq_false (by omega);clear c6;obtain rfl:=s1 H;go_enter func75,ntmps75;go_wp2_with (first|(refine gG 1 ?_;refine bX HB 1 #[.string fF, .string fK] 43 ?_;intro LX w10 y9 LY hb;replace HB:=bs HB hb;clear hb;have z11:=BM y9.out)|(go_at_call 113;refine mA (kG.calls A2.out) ?_;intro nd;(try exact dq))|(go_at_call 52;refine mA (bC.calls A4.out) ?_;intro nd;(try exact dq)))
    repeat(go_quiet (first|(refine gG 1 ?_;refine bX HB 1 #[.string fF, .string fK] 43 ?_;intro LX w10 y9 LY hb;replace HB:=bs HB hb;clear hb;have z11:=BM y9.out)|(go_at_call 113;refine mA (kG.calls A2.out) ?_;intro nd;(try exact dq))|(go_at_call 52;refine mA (bC.calls A4.out) ?_;intro nd;(try exact dq)));try go_wp2_with (first|(refine gG 1 ?_;refine bX HB 1 #[.string fF, .string fK] 43 ?_;intro LX w10 y9 LY hb;replace HB:=bs HB hb;clear hb;have z11:=BM y9.out)|(go_at_call 113;refine mA (kG.calls A2.out) ?_;intro nd;(try exact dq))|(go_at_call 52;refine mA (bC.calls A4.out) ?_;intro nd;(try exact dq))))
    go_ret;exact⟨er,bb⟩
  ·obtain rfl:=s1 H;go_enter func75,ntmps75;go_wp2_with (first|(refine gG 1 ?_;refine bX HB 1 #[.string fF, .string fK] 43 ?_;intro LX w12 y9 LY hb;replace HB:=bs HB hb;clear hb;have z13:=BM y9.out)|(go_at_call 113;refine mA (kG.calls A2.out) ?_;intro nd;(try exact dq))|(go_at_call 52;refine mA (bC.calls A4.out) ?_;intro nd;(try exact dq)))
   repeat(go_quiet (first|(refine gG 1 ?_;refine bX HB 1 #[.string fF, .string fK] 43 ?_;intro LX w12 y9 LY hb;replace HB:=bs HB hb;clear hb;have z13:=BM y9.out)|(go_at_call 113;refine mA (kG.calls A2.out) ?_;intro nd;(try exact dq))|(go_at_call 52;refine mA (bC.calls A4.out) ?_;intro nd;(try exact dq)));try go_wp2_with (first|(refine gG 1 ?_;refine bX HB 1 #[.string fF, .string fK] 43 ?_;intro LX w12 y9 LY hb;replace HB:=bs HB hb;clear hb;have z13:=BM y9.out)|(go_at_call 113;refine mA (kG.calls A2.out) ?_;intro nd;(try exact dq))|(go_at_call 52;refine mA (bC.calls A4.out) ?_;intro nd;(try exact dq))))
   go_ret;exact⟨er,bb⟩
 ·obtain rfl:=s1 H;go_enter func75,ntmps75;go_wp2_with (first|(refine gG 1 ?_;refine bX HB 1 #[.string fF, .string fK] 43 ?_;intro LX Xg y9 LY hb;replace HB:=bs HB hb;clear hb;have z15:=BM y9.out)|(go_at_call 113;refine mA (kG.calls A2.out) ?_;intro nd;(try exact dq)))
  repeat(go_quiet (first|(refine gG 1 ?_;refine bX HB 1 #[.string fF, .string fK] 43 ?_;intro LX Xg y9 LY hb;replace HB:=bs HB hb;clear hb;have z15:=BM y9.out)|(go_at_call 113;refine mA (kG.calls A2.out) ?_;intro nd;(try exact dq)));try go_wp2_with (first|(refine gG 1 ?_;refine bX HB 1 #[.string fF, .string fK] 43 ?_;intro LX Xg y9 LY hb;replace HB:=bs HB hb;clear hb;have z15:=BM y9.out)|(go_at_call 113;refine mA (kG.calls A2.out) ?_;intro nd;(try exact dq))))
  go_ret;exact⟨er,bb⟩
def qh.f(k:Nat)(fF:ByteArray)(fK:ByteArray):Option (Bool):=(tC.f k fF fK).bind fun aBt=>(some (!aBt))
theorem qh.calls{k:Nat}{fF fK:ByteArray}{r:Bool}{w:World}(h:qh.f k fF fK=some r):
  Calls Tryz.prog 74 #[.agg #[.string fF, .string fK]] w fun e w'=>e= .returned (.bool r)∧Below w.heap.size w w':=by
 have F7:=underlying43;have HB:=ak (Below.refl w.heap.size w);unfold qh.f at h;have H:=h;clear h;replace H:=bd H;obtain⟨aBt,A2,H⟩:=H;obtain rfl:=s1 H;go_enter func74,ntmps74;go_wp2_with (first|(refine bX HB 1 #[.string fF, .string fK] 43 ?_;intro aOO w3 ak9 aOP hb;replace HB:=bs HB hb;clear hb;have z4:=BM ak9.out)|(refine gB func75 (tC.calls A2.out) ?_;intro w5 hb;replace ak9:=kb ak9 hb;replace HB:=bz HB hb;clear hb))
 go_ret;exact⟨er,bb⟩
def dF.l0:Nat→List (eG)→Int→Int→Option (Int)
 |0,_,_,_=>none
 |k+1,x0,x7,x8=>if x8<x7 then(if 0≤x8 then(if x8<(x0.length:Int)then((qh.f k ((eY x0 x8).f0) ((eY x0 x8).f1)).bind fun aBu=>(if aBu=true then(some x8)else(dF.l0 k x0 x7 (wrap64 (x8+1)))))else(none))else(none))else(some (-1))
def dF.f(k:Nat)(l0:List (eG)):Option (Int):=dF.l0 k l0 (l0.length:Int) 0
theorem dF.calls{k c0:Nat}{A0:Option Addr}{l0:List (eG)}{r:Int}{w:World}(hr0:Kd.C o9 w A0 l0.length l0)(hc0:l0.length≤c0)(h:dF.f k l0=some r):
  Calls Tryz.prog 112 #[.slice A0 l0.length c0, .func (.func 74) #[] #[]] w fun e w'=>e= .returned (.int .i64 r)∧Below w.heap.size w w':=by
 have F7:=underlying43;have HR0:=ak hr0;have uV:=ak hc0;clear hr0 hc0;have HB:=ak (Below.refl w.heap.size w);unfold dF.f at h;have H:=h;clear h;have H':=ak H;clear H;go_enter func112,ntmps112;go_wp2;go_loopg [8] k (fun kq v8 w'=>∃(lX:Int),v8= .int .i64 lX∧ah (dF.l0 kq l0 (l0.length:Int) lX=some r)∧ah (kq≤k)∧ah (Below w.heap.size w w'))
 case atStart=>exact⟨_,rs,H',⟨Nat.le_refl _⟩,⟨ul HB.out⟩⟩
 case round=>
  clear H';obtain⟨lX,rfl,HA,y5,HB⟩:=hrel
  cases gk with
  |zero=>exact zz HA.out
  |succ k1=>
   obtain⟨H⟩:=HA;simp only[dF.l0]at H;replace H:=sd H;rcases H with⟨iY,H⟩|⟨iY,H⟩
   ·replace H:=nO H;obtain⟨o7,H⟩:=H;replace H:=nO H;obtain⟨mV,H⟩:=H;replace H:=bd H;obtain⟨aBu,A6,H⟩:=H;replace H:=sb H;rcases H with⟨rfl,H⟩|⟨rfl,H⟩
    ·obtain rfl:=s1 H;have ae_:=zi lX;have afa:=zj lX l0.length;obtain⟨aBv,awO,QW,QX⟩:=r_ HR0.out lX ae_ afa;cases awO;replace QW:=cl HB.out QW;replace QX:=cl HB.out QX;replace ae_:=eq_true ae_;replace afa:=eq_true afa;go_wp2_with (go_at_call 74;refine mB (qh.calls A6.out) ?_;intro w8 hb;replace HB:=bs HB hb;clear hb)
     go_ret;exact⟨er,ul HB.out⟩
    ·have H':=ak H;clear H;have ae_:=zi lX;have afa:=zj lX l0.length;obtain⟨aBv,awO,QW,QX⟩:=r_ HR0.out lX ae_ afa;cases awO;replace QW:=cl HB.out QW;replace QX:=cl HB.out QX;replace ae_:=eq_true ae_;replace afa:=eq_true afa;go_wp2_with (go_at_call 74;refine mB (qh.calls A6.out) ?_;intro w9 hb;replace HB:=bs HB hb;clear hb)
     go_roundg k1
     case measure=>exact kl
     case rel=>exact⟨_,rs,H',⟨kl⟩,⟨ul HB.out⟩⟩
   ·obtain rfl:=s1 H;go_wp2;go_ret;exact⟨er,ul HB.out⟩
def kX.f(k:Nat)(l0:List (eG)):Option (Bool):=(dF.f k l0).bind fun aBw=>(some (decide (aBw≥0)))
theorem kX.calls{k c0:Nat}{A0:Option Addr}{l0:List (eG)}{r:Bool}{w:World}(hr0:Kd.C o9 w A0 l0.length l0)(hc0:l0.length≤c0)(h:kX.f k l0=some r):
  Calls Tryz.prog 73 #[.slice A0 l0.length c0, .func (.func 74) #[] #[]] w fun e w'=>e= .returned (.bool r)∧Below w.heap.size w w':=by
 have HR0:=ak hr0;have uV:=ak hc0;clear hr0 hc0;have HB:=ak (Below.refl w.heap.size w);unfold kX.f at h;have H:=h;clear h;replace H:=bd H;obtain⟨aBw,A3,H⟩:=H;obtain rfl:=s1 H;go_enter func73,ntmps73;go_wp2_with (refine gB func112 (dF.calls (cu HR0.out) uV.out A3.out) ?_;intro w4 hb;replace HB:=bs HB hb;clear hb)
 go_ret;exact⟨er,ul HB.out⟩
def lY.f(k:Nat)(l0:List (eG)):Option (Bool):=if(l0.length:Int)≤20 then((kX.f k l0).bind fun aBx=>(some (!aBx)))else(some false)
theorem lY.calls{k c0:Nat}{A0:Option Addr}{l0:List (eG)}{r:Bool}{w:World}(hr0:Kd.C o9 w A0 l0.length l0)(hc0:l0.length≤c0)(h:lY.f k l0=some r):
  Calls Tryz.prog 45 #[.slice A0 l0.length c0] w fun e w'=>e= .returned (.bool r)∧Below w.heap.size w w':=by
 have HR0:=ak hr0;have uV:=ak hc0;clear hr0 hc0;have HB:=ak (Below.refl w.heap.size w);unfold lY.f at h;have H:=h;clear h;replace H:=sp H;rcases H with⟨c2,H⟩|⟨c2,H⟩
 ·have sO:=decide_eq_true c2;have BK:decide (l0.length≤20)=true:=decide_eq_true (by omega);clear c2;replace H:=bd H;obtain⟨aBx,A3,H⟩:=H;obtain rfl:=s1 H;go_enter func45,ntmps45;go_wp2_with (go_at_call 73;refine mB (kX.calls (cu HR0.out) uV.out A3.out) ?_;intro w4 hb;replace HB:=bs HB hb;clear hb)
  go_ret;exact⟨er,ul HB.out⟩
 ·have sO:=decide_eq_false c2;have BK:decide (l0.length≤20)=false:=decide_eq_false (by omega);clear c2;obtain rfl:=s1 H;go_enter func45,ntmps45;go_wp2;go_ret;exact⟨er,ul HB.out⟩
mutual
def bf.j0:Nat→ByteArray→Int→Option (List ByteArray)
 |0,_,_=>none
 |k+1,x3,x4=>bf.l0 k x3 x4 (([]:List ByteArray))
def bf.l0:Nat→ByteArray→Int→List ByteArray→Option (List ByteArray)
 |0,_,_,_=>none
 |k+1,x3,x4,x5=>if(x3.size:Int)>40 then(bf.l1 k x3 x5 (-1) x4)else(if x5.length<8796093022208 then(some (x5++[x3]))else(none))
def bf.l1:Nat→ByteArray→List ByteArray→Int→Int→Option (List ByteArray)
 |0,_,_,_,_=>none
 |k+1,x3,x5,x6,x7=>if(wrap64 (x7+1))<(x3.size:Int)then(if 0≤x7 then(if x7<(x3.size:Int)then(if(bt x3 x7)=32 then(if 0≤(wrap64 (x7-1))then(if(wrap64 (x7-1))<(x3.size:Int)then(if(bt x3 (wrap64 (x7-1)))=32 then(bf.l1 k x3 x5 x6 (wrap64 (x7+1)))else(if 0≤(wrap64 (x7+1))then(if(bt x3 (wrap64 (x7+1)))=32 then(bf.l1 k x3 x5 x6 (wrap64 (x7+1)))else(if x6<0 then(bf.l1 k x3 x5 x7 (wrap64 (x7+1)))else(if x7≤40 then(bf.l1 k x3 x5 x7 (wrap64 (x7+1)))else(bf.l1 k x3 x5 x6 (wrap64 (x7+1))))))else(none)))else(none))else(none))else(bf.l1 k x3 x5 x6 (wrap64 (x7+1))))else(none))else(none))else(if x6<0 then(if x5.length<8796093022208 then(some (x5++[x3]))else(none))else(if 0≤x6 then(if x6≤(x3.size:Int)then(if x5.length<8796093022208 then(bf.l0 k (x3.extract (x6:Int).toNat x3.size) 2 (x5++[x3.extract 0 (x6:Int).toNat]))else(none))else(none))else(none)))
end
def bf.f(k:Nat)(fF:ByteArray)(fK:ByteArray):Option (List ByteArray):=if fF.size+1≤9223372036854775807 then(if fK.toList=([]:List UInt8)then(bf.j0 k (fF++(⟨#[58]⟩:ByteArray)) (wrap64 ((fF.size:Int)+3)))else(if 1+fK.size≤9223372036854775807 then(if(fF++(⟨#[58]⟩:ByteArray)).size+((⟨#[32]⟩:ByteArray)++fK).size≤9223372036854775807 then(bf.j0 k ((fF++(⟨#[58]⟩:ByteArray))++((⟨#[32]⟩:ByteArray)++fK)) (wrap64 ((fF.size:Int)+3)))else(none))else(none)))else(none)
theorem bf.calls{k:Nat}{fF fK:ByteArray}{r:List ByteArray}{w:World}(h:bf.f k fF fK=some r):
  Calls Tryz.prog 46 #[.agg #[.string fF, .string fK]] w fun e w'=>∃nC:Value,e= .returned (nC)∧Kd.R Kd.string 9 w' w.heap.size (fun _=>True) nC r∧Below w.heap.size w w':=by
 have F7:=underlying43;have HB:=ak (Below.refl w.heap.size w);unfold bf.f at h;have H:=h;clear h;replace H:=nn H;obtain⟨c2,H⟩:=H;have sO:=eq_true c2;have BK:=decide_eq_true c2;try have ak_:(9223372036854775807<fF.size+1)=False:=eq_false (Nat.not_lt.2 c2)
 have Uk:=ak H;clear H;go_enter func46,ntmps46;try go_wp2_with (refine bX HB 1 #[.string fF, .string fK] 43 ?_;intro Vp w4 t_ aOQ hb;replace HB:=bs HB hb;clear hb)
 refine rO [] [0,3,1,2,7,4,5,6,8] (fun w'=>w'.cell? ⟨Vp,0,none⟩=some (.string fF)∧w'.cell? ⟨Vp,1,none⟩=some (.string fK)) ?_;intro w5 hb;replace t_:=kb t_ hb;replace HB:=bs HB hb;refine⟨sx,?_⟩;repeat refine Dc ?_
 refine on ?_;have z6:=BM t_.out;go_upto_if 17 with(fail)
 go_cut [3] (fun v3 wc=>∃(kq:Nat) (nJ:ByteArray),v3= .string nJ∧ah (bf.j0 kq nJ (wrap64 ((fF.size:Int)+3))=some r)∧ah (kq≤k)∧ah (wc.heap[Vp]? =some (.cells #[.string fF, .string fK] 43 (0,0)))∧ah (Below w.heap.size w wc))
 case first=>
  have H:=Uk.out;clear Uk;replace H:=sp H;rcases H with⟨c7,H⟩|⟨c7,H⟩
  ·have sQ:=beq_iff_eq.mpr c7;have c7e:(fK.toList).isEmpty=true:=List.isEmpty_iff.mpr c7;have LK:=bne_eq_false_iff_eq.mpr c7;clear c7
   (first|rw[sQ]|(simp only[ig,jO];rw[sQ])|skip)
   (first|(rw[c7e];simp only[Bool.not_true,Bool.not_false])|skip);have H':=ak H;clear H;go_wp2;go_meet
   case rel=>exact⟨_,_,rs,H',⟨PV⟩,⟨ub t_.out⟩,⟨bb⟩⟩
  ·have sQ:=beq_eq_false_iff_ne.mpr c7;have c7e:(fK.toList).isEmpty=false:=List.isEmpty_eq_false_iff.mpr c7;have LK:=bne_iff_ne.mpr c7
   (first|rw[sQ]|(simp only[ig,jO];rw[sQ])|skip)
   (first|(rw[c7e];simp only[Bool.not_true,Bool.not_false])|skip);replace H:=nn H;obtain⟨c8,H⟩:=H;have rP:=eq_true c8;have Dt:=decide_eq_true c8;try have aBy:(9223372036854775807<1+fK.size)=False:=eq_false (Nat.not_lt.2 c8)
   replace H:=nn H;obtain⟨c9,H⟩:=H;have xZ:=eq_true c9;have D_:=decide_eq_true c9;try have aTg:(9223372036854775807<fF.size+1+(1+fK.size))=False:=by have h_:=(eq_false (Nat.not_lt.2 c9):(9223372036854775807<(fF++(⟨#[58]⟩:ByteArray)).size+((⟨#[32]⟩:ByteArray)++fK).size)=False);simp only[ByteArray.size_append]at h_;exact h_
   try have aBz:(9223372036854775807<(fF++(⟨#[58]⟩:ByteArray)).size+((⟨#[32]⟩:ByteArray)++fK).size)=False:=eq_false (Nat.not_lt.2 c9)
   have H':=ak H;clear H;have z10:=BM t_.out;go_wp2;go_meet
   case rel=>exact⟨_,_,rs,H',⟨PV⟩,⟨ub t_.out⟩,⟨bb⟩⟩
 case rest=>
  clear Uk;try clear c2
  try clear sO
  try clear BK
  try clear ak_
  obtain⟨kq,nJ,rfl,HA,HJ2,t_,HB⟩:=hcut
  cases kq with
  |zero=>exact zz HA.out
  |succ kj2=>
   obtain⟨H⟩:=HA;simp only[bf.j0]at H;obtain⟨aTh,asP⟩:=nm ([]:List ByteArray);rw[←asP.out]at H;have H':=ak H;clear H;go_wp2_with (refine Fh 23 Kd.string 9 asP ?_;intro aTi ZH ala hb;have aBA:=ak (au ala (aj bb));replace t_:=kb t_ hb;replace HB:=bz HB hb;clear hb ala)
   go_loopg [3,4,5] kj2 (fun kq v3 v4 v5 w'=>∃(nJ:ByteArray) (rH:Int) (jB:List ByteArray),v3= .string nJ∧v4= .int .i64 rH∧ah (bf.l0 kq nJ rH jB=some r)∧ah (kq≤kj2)∧ah (Kd.R Kd.string 9 w' w.heap.size (fun _=>True) v5 jB)∧ah (w'.heap[Vp]? =some (.cells #[.string fF, .string fK] 43 (0,0)))∧ah (Below w.heap.size w w'))
   case atStart=>exact⟨_,_,_,rs,rs,H',⟨Nat.le_refl _⟩,⟨ur aBA.out⟩,⟨ub t_.out⟩,⟨bb⟩⟩
   case round=>
    clear H';try clear c2
    try clear sO
    try clear BK
    try clear ak_
    obtain⟨nJ,rH,jB,rfl,rfl,HA,HK2,uj,t_,HB⟩:=hrel
    cases gk with
    |zero=>exact zz HA.out
    |succ k2=>
     obtain⟨H⟩:=HA;simp only[bf.l0]at H;replace H:=sp H;rcases H with⟨c13,H⟩|⟨c13,H⟩
     ·have xY:decide (40<(nJ.size:Int))=true:=decide_eq_true c13;have Dh:decide (40<nJ.size)=true:=decide_eq_true (by omega);clear c13;have H':=ak H;clear H;go_wp2;go_loopg [6,7] k2 (fun kq v6 v7 w'=>∃(Jo:Int) (tH:Int),v6= .int .i64 Jo∧v7= .int .i64 tH∧ah (bf.l1 kq nJ jB Jo tH=some r)∧ah (kq≤k2)∧ah (Kd.R Kd.string 9 w' w.heap.size (fun _=>True) u5 jB)∧ah (w'.heap[Vp]? =some (.cells #[.string fF, .string fK] 43 (0,0)))∧ah (Below w.heap.size w w'))
      case atStart=>exact⟨_,_,rs,rs,H',⟨Nat.le_refl _⟩,⟨ur uj.out⟩,⟨ub t_.out⟩,⟨bb⟩⟩
      case round=>
       clear H';try clear c2
       try clear sO
       try clear BK
       try clear ak_
       try clear c13
       try clear xY
       try clear Dh
       obtain⟨Jo,tH,rfl,rfl,HA,HK3,uj,t_,HB⟩:=hrel
       cases gk with
       |zero=>exact zz HA.out
       |succ k3=>
        obtain⟨H⟩:=HA;simp only[bf.l1]at H;replace H:=sp H;rcases H with⟨c14,H⟩|⟨c14,H⟩
        ·have uD:=decide_eq_true c14
         (try(have yc:decide ((tH+1)<(nJ.size:Int))=true:=decide_eq_true (by have h_:=c14;unfold wrap64 at h_;omega)));clear c14;replace H:=nO H;obtain⟨uz,H⟩:=H;replace H:=nO H;obtain⟨ER,H⟩:=H;replace H:=sq H;rcases H with⟨ES,Xk,H⟩|⟨c18,ES,Xk,H⟩
         ·obtain⟨abg,alb⟩:∃j_:Int,(wrap64 (tH-1))=j_:=⟨_,rfl⟩
          replace H:(if 0≤(abg)then(if(abg)<(nJ.size:Int)then(if(bt nJ (abg))=32 then(bf.l1 k3 nJ jB Jo (wrap64 (tH+1)))else(if 0≤(wrap64 (tH+1))then(if(bt nJ (wrap64 (tH+1)))=32 then(bf.l1 k3 nJ jB Jo (wrap64 (tH+1)))else(if Jo<0 then(bf.l1 k3 nJ jB tH (wrap64 (tH+1)))else(if tH≤40 then(bf.l1 k3 nJ jB tH (wrap64 (tH+1)))else(bf.l1 k3 nJ jB Jo (wrap64 (tH+1))))))else(none)))else(none))else(none))=some r:=by first|(rw[alb]at H;exact H)|(simp only[alb]at H⊢;exact H)
          have aKT:(IntKind.i64.wrap (tH-1))=abg:=(ig _).trans alb;replace H:=nO H;obtain⟨QN,H⟩:=H;replace H:=nO H;obtain⟨EW,H⟩:=H;replace H:=sq H;rcases H with⟨EP,Vq,H⟩|⟨c23,EP,Vq,H⟩
          ·have H':=ak H;clear H;obtain⟨p17,q17,alc⟩:=bx nJ tH;obtain⟨p22,q22,aqE⟩:=bx nJ (abg);go_wp2;go_roundg k3
           case measure=>exact kl
           case rel=>exact⟨_,_,rs,rs,H',⟨kl⟩,⟨ur uj.out⟩,⟨ub t_.out⟩,⟨bb⟩⟩
          ·obtain⟨Xr,Vr⟩:∃j_:Int,(wrap64 (tH+1))=j_:=⟨_,rfl⟩
           replace H:(if 0≤(Xr)then(if(bt nJ (Xr))=32 then(bf.l1 k3 nJ jB Jo Xr)else(if Jo<0 then(bf.l1 k3 nJ jB tH Xr)else(if tH≤40 then(bf.l1 k3 nJ jB tH Xr)else(bf.l1 k3 nJ jB Jo Xr))))else(none))=some r:=by first|(rw[Vr]at H;exact H)|(simp only[Vr]at H⊢;exact H)
           (try rw[Vr]at uD);have aKU:(IntKind.i64.wrap (tH+1))=Xr:=(ig _).trans Vr;replace H:=nO H;obtain⟨F8,H⟩:=H;replace H:=sq H;rcases H with⟨KH,aho,H⟩|⟨c27,KH,aho,H⟩
           ·have H':=ak H;clear H;obtain⟨p17,q17,alc⟩:=bx nJ tH;obtain⟨p22,q22,aqE⟩:=bx nJ (abg);obtain⟨p26,q26,awP⟩:=bx nJ (Xr);go_wp2;go_roundg k3
            case measure=>exact kl
            case rel=>exact⟨_,_,rs,(by first|rfl|(simp;done)|(simp only[←Vr]<;>(first|rfl|simp))|(simp[*];done)),H',⟨kl⟩,⟨ur uj.out⟩,⟨ub t_.out⟩,⟨bb⟩⟩
           ·replace H:=sd H;rcases H with⟨LZ,H⟩|⟨LZ,H⟩
            ·have H':=ak H;clear H;obtain⟨p17,q17,alc⟩:=bx nJ tH;obtain⟨p22,q22,aqE⟩:=bx nJ (abg);obtain⟨p26,q26,awP⟩:=bx nJ (Xr);go_wp2;go_roundg k3
             case measure=>exact kl
             case rel=>exact⟨_,_,rs,(by first|rfl|(simp;done)|(simp only[←Vr]<;>(first|rfl|simp))|(simp[*];done)),H',⟨kl⟩,⟨ur uj.out⟩,⟨ub t_.out⟩,⟨bb⟩⟩
            ·replace H:=sd H;rcases H with⟨ahp,H⟩|⟨ahp,H⟩
             ·have H':=ak H;clear H;obtain⟨p17,q17,alc⟩:=bx nJ tH;obtain⟨p22,q22,aqE⟩:=bx nJ (abg);obtain⟨p26,q26,awP⟩:=bx nJ (Xr);go_wp2;go_roundg k3
              case measure=>exact kl
              case rel=>exact⟨_,_,rs,(by first|rfl|(simp;done)|(simp only[←Vr]<;>(first|rfl|simp))|(simp[*];done)),H',⟨kl⟩,⟨ur uj.out⟩,⟨ub t_.out⟩,⟨bb⟩⟩
             ·have H':=ak H;clear H;obtain⟨p17,q17,alc⟩:=bx nJ tH;obtain⟨p22,q22,aqE⟩:=bx nJ (abg);obtain⟨p26,q26,awP⟩:=bx nJ (Xr);go_wp2;go_roundg k3
              case measure=>exact kl
              case rel=>exact⟨_,_,rs,(by first|rfl|(simp;done)|(simp only[←Vr]<;>(first|rfl|simp))|(simp[*];done)),H',⟨kl⟩,⟨ur uj.out⟩,⟨ub t_.out⟩,⟨bb⟩⟩
         ·have H':=ak H;clear H;obtain⟨p17,q17,alc⟩:=bx nJ tH;go_wp2;go_roundg k3
          case measure=>exact kl
          case rel=>exact⟨_,_,rs,rs,H',⟨kl⟩,⟨ur uj.out⟩,⟨ub t_.out⟩,⟨bb⟩⟩
        ·have uD:=decide_eq_false c14
         (try(have yc:decide ((tH+1)<(nJ.size:Int))=false:=decide_eq_false (by have h_:=c14;unfold wrap64 at h_;omega)));clear c14;replace H:=sd H;rcases H with⟨ahq,H⟩|⟨ahq,H⟩
         ·replace H:=nl H;obtain⟨ac_,H⟩:=H;obtain⟨aTj,asQ⟩:=nm (jB++[nJ]);rw[←asQ.out]at H;obtain rfl:=s1 H;go_wp2_with ((with_reducible refine bP (b:= .append) (xs:=#[.tmp 73, .tmp 75]) rfl ?_);at_builtin;refine nP Kd.string (w0:=w) w.heap.size rfl (.tmp 73) (.tmp 75) 24 9 (.string ⟨#[]⟩) 16 rfl underlying24 info9 rfl (by decide) (by omega) u5 jB nJ [.string nJ] (fun _=>True) (fun _=>False) rfl rfl ?aP (fun _ hk=>hk.elim) ?aF ?aO ?aB ?aS ?aL ?_;(case aP=>exact rfl);(case aB=>exact bb);(case aF=>exact(fun _ _=>trivial));(case aO=>exact(ur uj.out));(case aS=>exact(aj bb));(case aL=>have:=ac_.out;omega);intro aTk w32 ho hb hg hat;rw[←asQ.out]at ho;have aBB:=ak (ho);replace t_:=ak (bJ (g:=Vp) (o:= .cells #[.string fF, .string fK] 43 (0,0)) (ub t_.out) hg (rM uj.out t_.out (by decide)));replace HB:=ak (hb);clear ho hb hg hat uj)
          go_ret;exact⟨_,er,ur aBB.out,bb⟩
         ·replace H:=AL H;obtain⟨aah,ald,H⟩:=H;replace H:=AL H;obtain⟨Xt,ada,H⟩:=H;replace H:=nl H;obtain⟨ale,H⟩:=H;obtain⟨aTl,asR⟩:=nm (jB++[nJ.extract 0 (Jo:Int).toNat]);rw[←asR.out]at H;have alf:=eq_true (of_decide_eq_true (by assumption):0≤Jo);have asT:=eq_true (of_decide_eq_true (by assumption):Jo≤(nJ.size:Int));have H':=ak H;clear H;try go_wp2
          replace uj:=ak (nI uj.out);replace t_:=ak (jI t_.out);replace HB:=ak (iE HB.out);refine ro [4,5] [0,1,2,3,6,7,8,4,5,9,10,11] (fun w'=>True) trivial ?_
          generalize wr.drew=w38 at uj t_ HB⊢
          repeat refine Dc ?_
          refine ld (N:=some 68) (gk.trans rfl) rfl rfl (fun K hK=>?_);refine IV (w1:=?_) (v:=?_) (by rfl) rfl ?_ ?_
          rotate_left 2
          ·go_simp;constructor
           ·rfl
           ·rfl
          refine hK.out _ _ trivial ?_;clear hK K;refine no (a':=?_) ?_ ?_
          rotate_left
          ·show Act.put _ (some 68) _=_
           simp only[Act.put,yX,yY,l_c,ig,jO];rfl
          refine ld (N:=some 69) (gk.trans rfl) rfl rfl (fun K hK=>?_);refine qH Kd.string (w0:=w) w.heap.size (by rfl) (.tmp 64) (.tmp 68) 24 9 (.string ⟨#[]⟩) 16 rfl underlying24 info9 rfl (by decide) (by omega) u5 jB (nJ.extract 0 (Jo:Int).toNat) [.string (nJ.extract 0 (Jo:Int).toNat)] (fun _=>True) (fun _=>False) rfl rfl ?aP (fun _ hk=>hk.elim) ?aF ?aO ?aB ?aS ?aL ?_
          (case aP=>exact rfl)
          (case aB=>exact bb)
          (case aF=>exact(fun _ _=>trivial))
          (case aO=>exact(ur uj.out))
          (case aS=>exact(aj bb))
          (case aL=>have:=ale.out;omega);intro aTm w39 ho hb hg hat
          rw[←asR.out]at ho;have Am:=ak (bJ (g:=Vp) (o:= .cells #[.string fF, .string fK] 43 (0,0)) (ub t_.out) hg (rM uj.out t_.out (by decide)));have Ap:=ak (hb);have BX:=ak (ho);clear t_ HB uj;have t_:=Am;have HB:=Ap;have aBC:=BX;clear Am Ap BX ho hb hg hat
          refine hK.out _ _ trivial ?_;clear hK K;refine no (a':=?_) ?_ ?_
          rotate_left
          ·show Act.put _ (some 69) _=_
           simp only[Act.put,yX,yY,l_c,ig,jO];rfl
          repeat refine Dc ?_
          refine on ?_;try go_wp2
          go_roundg k3
          case measure=>exact kl
          case rel=>exact⟨_,_,_,rs,rs,H',⟨kl⟩,⟨ur aBC.out⟩,⟨ub t_.out⟩,⟨bb⟩⟩
     ·have xY:decide (40<(nJ.size:Int))=false:=decide_eq_false c13;have Dh:decide (40<nJ.size)=false:=decide_eq_false (by omega);clear c13;replace H:=nl H;obtain⟨adb,H⟩:=H;obtain⟨aTn,asU⟩:=nm (jB++[nJ]);rw[←asU.out]at H;obtain rfl:=s1 H;go_wp2_with ((with_reducible refine bP (b:= .append) (xs:=#[.tmp 73, .tmp 75]) rfl ?_);at_builtin;refine nP Kd.string (w0:=w) w.heap.size rfl (.tmp 73) (.tmp 75) 24 9 (.string ⟨#[]⟩) 16 rfl underlying24 info9 rfl (by decide) (by omega) u5 jB nJ [.string nJ] (fun _=>True) (fun _=>False) rfl rfl ?aP (fun _ hk=>hk.elim) ?aF ?aO ?aB ?aS ?aL ?_;(case aP=>exact rfl);(case aB=>exact bb);(case aF=>exact(fun _ _=>trivial));(case aO=>exact(ur uj.out));(case aS=>exact(aj bb));(case aL=>have:=adb.out;omega);intro aTo w41 ho hb hg hat;rw[←asU.out]at ho;have aBD:=ak (ho);replace t_:=ak (bJ (g:=Vp) (o:= .cells #[.string fF, .string fK] 43 (0,0)) (ub t_.out) hg (rM uj.out t_.out (by decide)));replace HB:=ak (hb);clear ho hb hg hat uj)
      go_ret;exact⟨_,er,ur aBD.out,bb⟩
def jU.l0:Nat→List ByteArray→List (eG)→Int→Int→Option (List ByteArray×Bool)
 |0,_,_,_,_=>none
 |k+1,x4,x11,x12,Ho=>if Ho<x12 then(if 0≤Ho then(if Ho<(x11.length:Int)then((bf.f k ((eY x11 Ho).f0) ((eY x11 Ho).f1)).bind fun ajr=>(if x4.length+ajr.length<8796093022208 then(jU.l0 k (x4++ajr) x11 x12 (wrap64 (Ho+1)))else(none)))else(none))else(none))else(some (x4,true))
def jU.f(k:Nat)(l0:List (eG)):Option (List ByteArray×Bool):=(lY.f k l0).bind fun aBE=>(if aBE=true then(jU.l0 k (([]:List ByteArray)) l0 (l0.length:Int) 0)else(some (([]:List ByteArray),false)))
theorem jU.calls{k c0:Nat}{A0:Option Addr}{l0:List (eG)}{r1:List ByteArray}{r2:Bool}{w:World}(hr0:Kd.C o9 w A0 l0.length l0)(hc0:l0.length≤c0)(h:jU.f k l0=some (r1,r2)):
  Calls Tryz.prog 28 #[.slice A0 l0.length c0] w fun e w'=>∃nC:Value,e= .returned (.tuple #[nC, .bool r2])∧Kd.R Kd.string 9 w' w.heap.size (fun _=>True) nC r1∧Below w.heap.size w w':=by
 have F7:=underlying43;have HR0:=ak hr0;have uV:=ak hc0;clear hr0 hc0;have HB:=ak (Below.refl w.heap.size w);unfold jU.f at h;have H:=h;clear h;replace H:=bd H;obtain⟨aBE,A2,H⟩:=H;replace H:=sb H;rcases H with⟨rfl,H⟩|⟨rfl,H⟩
 ·obtain⟨aTp,asV⟩:=nm ([]:List ByteArray);rw[←asV.out]at H;have H':=ak H;clear H;go_enter func28,ntmps28;go_wp2_with (first|(refine gB func45 (lY.calls (cu HR0.out) uV.out A2.out) ?_;intro w4 hb;replace HB:=bs HB hb;clear hb)|(refine Fh 10 Kd.string 9 asV ?_;intro aTq w5 WI hb;have aBF:=ak (au WI (aj (ul HB.out)));replace HB:=bs HB hb;clear hb WI))
  go_loopg [4,13] k (fun kq v4 v13 w'=>∃(cO:List ByteArray) (mg:Int),v13= .int .i64 mg∧ah (jU.l0 kq cO l0 (l0.length:Int) mg=some (r1,r2))∧ah (kq≤k)∧ah (Kd.R Kd.string 9 w' w.heap.size (fun _=>True) v4 cO)∧ah (Below w.heap.size w w'))
  case atStart=>exact⟨_,_,rs,H',⟨Nat.le_refl _⟩,⟨ur aBF.out⟩,⟨ul HB.out⟩⟩
  case round=>
   clear H';obtain⟨cO,mg,rfl,HA,y5,bQ,HB⟩:=hrel
   cases gk with
   |zero=>exact zz HA.out
   |succ k1=>
    obtain⟨H⟩:=HA;simp only[jU.l0]at H;replace H:=sd H;rcases H with⟨sQ,H⟩|⟨sQ,H⟩
    ·replace H:=nO H;obtain⟨rP,H⟩:=H;replace H:=nO H;obtain⟨xZ,H⟩:=H;replace H:=bd H;obtain⟨ajr,A10,H⟩:=H;replace H:=nl H;obtain⟨Xu,H⟩:=H;obtain⟨aTr,asW⟩:=nm (cO++ajr);rw[←asW.out]at H;have H':=ak H;clear H;have awQ:=zi mg;have awR:=zj mg l0.length;obtain⟨aOR,aKV,ahr,ahs⟩:=r_ HR0.out mg awQ awR;cases aKV;replace ahr:=cl HB.out ahr;replace ahs:=cl HB.out ahs;replace awQ:=eq_true awQ;replace awR:=eq_true awR;go_wp2_with (first|(refine bX HB 6 #[.string (⟨#[]⟩:ByteArray), .string (⟨#[]⟩:ByteArray)] 43 ?_;intro aBG w12 aai aOS hb;replace bQ:=rb bQ hb;replace HB:=bs HB hb;clear hb;have z13:=BM aai.out)|(refine gV func46 (bf.calls A10.out) ?_;rintro aTs Xg ⟨ho0,hb⟩;have ade:=ak (au (dM ho0 (jl (rh bQ))) (aj bb));replace bQ:=ak (dH (rh bQ) (bK ho0) hb);replace aai:=kp aai #[.string ((eY l0 mg).f0), .string ((eY l0 mg).f1)] hb;replace HB:=bz HB hb;clear hb;(try clear ho0);obtain⟨OW,LV,LW⟩:=aC ade.out;subst LW)|((with_reducible refine bP (b:= .append) (xs:=#[.tmp 17, .tmp 19]) rfl ?_);at_builtin;refine o_ Kd.string (w0:=w) w.heap.size rfl (.tmp 17) (.tmp 19) 24 9 (.string ⟨#[]⟩) 16 rfl underlying24 info9 rfl (by decide) (by omega) u4 cO ajr _ _ _ (fun k_=>some k_≠(.slice OW ajr.length LV:Value).ownBlock) (fun _=>False) rfl rfl ?aO ?aR (fun _ _ h=>h) (fun _ h=>h.elim) ?aF ?aB ?aS ?aL ?_;(case aR=>repeat(first|exact(aA ade.out).2.2|(with_reducible refine Kd.lM ?_ _)|(with_reducible refine Kd.lQ ?_ _)|(with_reducible refine Kd.oz ?_)));(case aB=>exact bb);(case aF=>exact(fun k_ hk=>Kd.fresh' (jl (ur ade.out)) k_ hk));(case aO=>exact(ur (aG bQ.out (fun _ hk=>hk.2))));(case aS=>exact(aj bb));(case aL=>have:=Xu.out;omega);intro aTt w15 ho hb hg hat;rw[←asW.out]at ho;have aBH:=ak (ho);replace aai:=ak (bJ (g:=aBG) (o:= .cells #[.string ((eY l0 mg).f0), .string ((eY l0 mg).f1)] 43 (0,0)) (ub aai.out) hg (rM bQ.out aai.out (by decide)));replace ade:=ak (DV (ok:=(fun _=>True)) (ur ade.out) hg hat);replace HB:=ak (hb);clear ho hb hg hat bQ))
     go_roundg k1
     case measure=>exact kl
     case rel=>exact⟨_,_,rs,H',⟨kl⟩,⟨ur (aG aBH.out (fun _ hk=>trivial))⟩,⟨bb⟩⟩
    ·obtain⟨rfl,rfl⟩:=s2 H;go_wp2;go_ret2;exact⟨_,er,ur bQ.out,ul HB.out⟩
 ·obtain⟨rfl,rfl⟩:=s2 H;go_enter func28,ntmps28;go_wp2_with (refine gB func45 (lY.calls (cu HR0.out) uV.out A2.out) ?_;intro w17 hb;replace HB:=bs HB hb;clear hb)
  go_ret2;exact⟨_,er,nx,ul HB.out⟩
def jJ.f(a0:ByteArray):Option (ByteArray):=if a0.size≤140737488355328 then some (strOfNums ((bytesOf a0).map ZJ))else none
set_option maxHeartbeats 1000000 in
set_option maxRecDepth 100000 in
theorem jJ.calls{a0 r:ByteArray}{w:World}(h:jJ.f a0=some r):
  Calls Tryz.prog 78 #[.string a0] w fun e w'=>e= .returned (.string r)∧Below w.heap.size w w':=by
 unfold jJ.f at h;split at h
 ·rename_i hb
  injection h with h;subst h;have kb:=fun W=>Vm (P:=Tryz.prog) 9 22 5 underlying9 underlying22 underlying5 a0 W
  go_enter func78,ntmps78;go_wp2;go_loopw [10] (fun i W=>∃k:Nat,k≤a0.size∧i= .int .i64 k∧Um w w.heap.size (Lh (bytesOf a0) k) W) (fun i _=>a0.size-(intOf i).toNat)
  case atStart=>exact⟨0,Nat.zero_le _,rfl,by simpa [Lh] using QV w 5 a0⟩
  case round=>
   obtain⟨k,hk,rfl,hR⟩:=hrel;have HR:=ak hR;by_cases hlt:k<a0.size
   ·have hc:=hR.cell k (by rw[oP,bytesOf_length];exact hlt);have hf:=hR.free k (by rw[oP,bytesOf_length];exact hlt);rw[abf _ _ (by rw[bytesOf_length];exact hlt)]at hc;clear hR;have hr:=O7 a0 k;have hs:=ak (aaf (bytesOf a0) k (by rw[bytesOf_length];exact hlt));have hu:=ak (Un (bytesOf a0) k (by rw[bytesOf_length];exact hlt))
    generalize (bytesOf a0).getD k 0=c at hc hr hs hu
    go_wp2
    ·go_roundw
     case rel=>exact⟨k+1,by omega,by go_num,by
      rw[hu.out,ZJ,if_pos ⟨by omega,by omega⟩];exact HR.out.store (Nat.le_refl _) k (by rw[oP,bytesOf_length];exact hlt) _⟩
     case measure=>simp[intOf];omega
    ·go_roundw
     case rel=>exact⟨k+1,by omega,by go_num,by rw[hs.out (by omega)];exact HR.out⟩
     case measure=>simp[intOf];omega
    ·go_roundw
     case rel=>exact⟨k+1,by omega,by go_num,by rw[hs.out (by omega)];exact HR.out⟩
     case measure=>simp[intOf];omega
   ·clear hR
    have kd:=run_convert_bytes_arg (P:=Tryz.prog) wr 22 5 underlying22 underlying5 w.heap.size 0 a0.size (grownCap w a0.size 0 5) (Lh (bytesOf a0) k) (by rw[oP,bytesOf_length]) (fun i hi=>by
     rw[Nat.zero_add];exact HR.out.cell i (by rw[oP,bytesOf_length];exact hi)) 9 underlying9
    go_wp2;go_ret;have hk2:k=a0.size:=by omega
    exact⟨by rw[hk2,ac9 (bytesOf a0) a0.size (bytesOf_length a0)];rfl,HR.out.below⟩
 ·cases h
def wo.f(a0:ByteArray)(a1:ByteArray):Option (Bool):=(jJ.f a0).bind fun aBI=>((jJ.f a1).bind fun aBJ=>(some (aBI.toList==aBJ.toList)))
theorem wo.calls{a0 a1:ByteArray}{r:Bool}{w:World}(h:wo.f a0 a1=some r):
  Calls Tryz.prog 115 #[.string a0, .string a1] w fun e w'=>e= .returned (.bool r)∧Below w.heap.size w w':=by
 have HB:=ak (Below.refl w.heap.size w);unfold wo.f at h;have H:=h;clear h;replace H:=bd H;obtain⟨aBI,A3,H⟩:=H;replace H:=bd H;obtain⟨aBJ,A4,H⟩:=H;obtain rfl:=s1 H;go_enter func115,ntmps115;go_wp2_with (first|(refine gB func78 (jJ.calls A3.out) ?_;intro w5 hb;replace HB:=bs HB hb;clear hb)|(refine gB func78 (jJ.calls A4.out) ?_;intro w6 hb;replace HB:=bs HB hb;clear hb))
 go_ret;exact⟨er,ul HB.out⟩
def qK.f(fF:ByteArray)(fK:ByteArray)(a1:ByteArray):Option (Bool):=(wo.f fF a1).bind fun aBK=>(some aBK)
theorem qK.calls{fF fK a1:ByteArray}{gq1:Nat}{r:Bool}{w:World}(hq1:w.heap[gq1]? =some (.cells #[.string a1] 9 (0,0)))(h:qK.f fF fK a1=some r):
  Calls Tryz.prog 114 #[.agg #[.string fF, .string fK], .pointer (some ⟨gq1,0,none⟩)] w fun e w'=>e= .returned (.bool r)∧Below w.heap.size w w':=by
 have F7:=underlying43;have zf:=ak hq1;clear hq1;have HB:=ak (Below.refl w.heap.size w);unfold qK.f at h;have H:=h;clear h;replace H:=bd H;obtain⟨aBK,A3,H⟩:=H;obtain rfl:=s1 H;go_enter func114,ntmps114;go_wp2_with (first|(refine bY HB 2 #[.string fF, .string fK] 43 ?_;intro aOT w4 alg aOU hg hb;have alh:=yQ zf hg;have ali:=yR zf hg;replace zf:=kb zf hb;replace HB:=bz HB hb;clear hb hg;have aTu:=ali.out;have aTv:=alh.out;have z6:=BM alg.out;have aKW:w4.cell? ⟨gq1,0,none⟩=some (.string a1):=(aH zf.out 0).trans rfl;have aKX:=eu zf.out 0)|(refine gB func115 (wo.calls A3.out) ?_;intro w8 hb;replace zf:=kb zf hb;replace alg:=kb alg hb;replace HB:=bz HB hb;clear hb))
 go_ret;exact⟨er,bb⟩
def fM.l0:Nat→List (eG)→Int→Int→ByteArray→Option (Int)
 |0,_,_,_,_=>none
 |k+1,x0,x7,x8,Xv=>if x8<x7 then(if 0≤x8 then(if x8<(x0.length:Int)then((qK.f ((eY x0 x8).f0) ((eY x0 x8).f1) Xv).bind fun aBL=>(if aBL=true then(some x8)else(fM.l0 k x0 x7 (wrap64 (x8+1)) Xv)))else(none))else(none))else(some (-1))
def fM.f(k:Nat)(l0:List (eG))(Lj:ByteArray):Option (Int):=fM.l0 k l0 (l0.length:Int) 0 Lj
theorem fM.calls{k c0 O8:Nat}{A0:Option Addr}{l0:List (eG)}{Lj:ByteArray}{r:Int}{w:World}(hr0:Kd.C o9 w A0 l0.length l0)(hc0:l0.length≤c0)(Vs:w.heap[O8]? =some (.cells #[.string Lj] 9 (0,0)))(h:fM.f k l0 Lj=some r):
  Calls Tryz.prog 112 #[.slice A0 l0.length c0, .func (.func 114) #[] #[.pointer (some ⟨O8,0,none⟩)]] w fun e w'=>e= .returned (.int .i64 r)∧Below w.heap.size w w':=by
 have F7:=underlying43;have HR0:=ak hr0;have uV:=ak hc0;clear hr0 hc0;have zf:=ak Vs;clear Vs;have HB:=ak (Below.refl w.heap.size w);unfold fM.f at h;have H:=h;clear h;have H':=ak H;clear H;go_enter func112,ntmps112;go_wp2;go_loopg [8] k (fun kq v8 w'=>∃(lX:Int),v8= .int .i64 lX∧ah (fM.l0 kq l0 (l0.length:Int) lX Lj=some r)∧ah (kq≤k)∧ah (w'.heap[O8]? =some (.cells #[.string Lj] 9 (0,0)))∧ah (Below w.heap.size w w'))
 case atStart=>exact⟨_,rs,H',⟨Nat.le_refl _⟩,⟨ub zf.out⟩,⟨bb⟩⟩
 case round=>
  clear H';obtain⟨lX,rfl,HA,y5,zf,HB⟩:=hrel
  cases gk with
  |zero=>exact zz HA.out
  |succ k1=>
   obtain⟨H⟩:=HA;simp only[fM.l0]at H;replace H:=sd H;rcases H with⟨iY,H⟩|⟨iY,H⟩
   ·replace H:=nO H;obtain⟨o7,H⟩:=H;replace H:=nO H;obtain⟨mV,H⟩:=H;replace H:=bd H;obtain⟨aBL,A6,H⟩:=H;replace H:=sb H;rcases H with⟨rfl,H⟩|⟨rfl,H⟩
    ·obtain rfl:=s1 H;have afb:=zi lX;have afc:=zj lX l0.length;obtain⟨aBM,awS,QY,QZ⟩:=r_ HR0.out lX afb afc;cases awS;replace QY:=cl HB.out QY;replace QZ:=cl HB.out QZ;replace afb:=eq_true afb;replace afc:=eq_true afc;go_wp2_with (go_at_call 114;refine mB (qK.calls (ub zf.out) A6.out) ?_;intro w8 hb;replace zf:=kb zf hb;replace HB:=bz HB hb;clear hb)
     go_ret;exact⟨er,bb⟩
    ·have H':=ak H;clear H;have afb:=zi lX;have afc:=zj lX l0.length;obtain⟨aBM,awS,QY,QZ⟩:=r_ HR0.out lX afb afc;cases awS;replace QY:=cl HB.out QY;replace QZ:=cl HB.out QZ;replace afb:=eq_true afb;replace afc:=eq_true afc;go_wp2_with (go_at_call 114;refine mB (qK.calls (ub zf.out) A6.out) ?_;intro w9 hb;replace zf:=kb zf hb;replace HB:=bz HB hb;clear hb)
     go_roundg k1
     case measure=>exact kl
     case rel=>exact⟨_,rs,H',⟨kl⟩,⟨ub zf.out⟩,⟨bb⟩⟩
   ·obtain rfl:=s1 H;go_wp2;go_ret;exact⟨er,bb⟩
def mW.f(k:Nat)(l0:List (eG))(a1:ByteArray):Option (Int):=(fM.f k l0 a1).bind fun aBN=>(some aBN)
theorem mW.calls{k c0:Nat}{A0:Option Addr}{l0:List (eG)}{a1:ByteArray}{r:Int}{w:World}(hr0:Kd.C o9 w A0 l0.length l0)(hc0:l0.length≤c0)(h:mW.f k l0 a1=some r):
  Calls Tryz.prog 76 #[.slice A0 l0.length c0, .string a1] w fun e w'=>e= .returned (.int .i64 r)∧Below w.heap.size w w':=by
 have HR0:=ak hr0;have uV:=ak hc0;clear hr0 hc0;have HB:=ak (Below.refl w.heap.size w);unfold mW.f at h;have H:=h;clear h;replace H:=bd H;obtain⟨aBN,A3,H⟩:=H;obtain rfl:=s1 H;go_enter func76,ntmps76;go_wp2_with (first|(refine bX HB 3 #[.string a1] 9 ?_;intro aOV w4 alj aOW hb;replace HB:=bs HB hb;clear hb)|(refine gB func112 (fM.calls (cu (aI HR0.out HB.out)) uV.out (ub alj.out) A3.out) ?_;intro w5 hb;replace alj:=kb alj hb;replace HB:=bz HB hb;clear hb))
 go_ret;exact⟨er,bb⟩
def pz.f(k:Nat)(l0:List (eG))(a1:ByteArray):Option (ByteArray×Bool):=(mW.f k l0 a1).bind fun adf=>(if adf<0 then(some ((⟨#[]⟩:ByteArray),false))else(if 0≤adf then(if adf<(l0.length:Int)then(some ((eY l0 adf).f1,true))else(none))else(none)))
theorem pz.calls{k c0:Nat}{A0:Option Addr}{l0:List (eG)}{a1 r1:ByteArray}{r2:Bool}{w:World}(hr0:Kd.C o9 w A0 l0.length l0)(hc0:l0.length≤c0)(h:pz.f k l0 a1=some (r1,r2)):
  Calls Tryz.prog 47 #[.slice A0 l0.length c0, .string a1] w fun e w'=>e= .returned (.tuple #[.string r1, .bool r2])∧Below w.heap.size w w':=by
 have HR0:=ak hr0;have uV:=ak hc0;clear hr0 hc0;have HB:=ak (Below.refl w.heap.size w);unfold pz.f at h;have H:=h;clear h;replace H:=bd H;obtain⟨adf,A3,H⟩:=H;replace H:=sd H;rcases H with⟨o7,H⟩|⟨o7,H⟩
 ·obtain⟨rfl,rfl⟩:=s2 H;go_enter func47,ntmps47;go_wp2_with (refine gB func76 (mW.calls (cu HR0.out) uV.out A3.out) ?_;intro w5 hb;replace HB:=bs HB hb;clear hb)
  go_ret2;exact⟨er,ul HB.out⟩
 ·replace H:=nO H;obtain⟨nD,H⟩:=H;replace H:=nO H;obtain⟨sQ,H⟩:=H;obtain⟨rfl,rfl⟩:=s2 H;go_enter func47,ntmps47;go_wp2_with (refine gB func76 (mW.calls (cu HR0.out) uV.out A3.out) ?_;intro w8 hb;replace HB:=bs HB hb;clear hb;have awT:0≤(adf:Int):=of_decide_eq_true (by assumption);have awU:adf<(l0.length:Int):=of_decide_eq_true (by assumption);obtain⟨aOX,aKY,abh,abj⟩:=r_ HR0.out adf awT awU;cases aKY;replace abh:=(HB.out.cell (World.block_lt_of_cell? w _ abh)).trans abh;replace abj:=(HB.out.cell (World.block_lt_of_cell? w _ abj)).trans abj;replace awT:=eq_true awT;replace awU:=eq_true awU)
  go_ret2;exact⟨er,ul HB.out⟩
def strings_Cut.f(a0:ByteArray)(a1:ByteArray):Option (ByteArray×ByteArray×Bool):=if a0.size<4294967281 then some (⟨(Lib.cut a0.data.toList a1.data.toList).1.toArray⟩,⟨(Lib.cut a0.data.toList a1.data.toList).2.1.toArray⟩,(Lib.cut a0.data.toList a1.data.toList).2.2)else none
theorem strings_Cut.calls{a0 a1 r1 r2:ByteArray}{r3:Bool}{w:World}(Bj:MaxOk w)(h:strings_Cut.f a0 a1=some (r1,r2,r3)):
  Calls Tryz.prog 66 #[.string a0, .string a1] w fun e w'=>e= .returned (.tuple #[.string r1, .string r2, .bool r3])∧dS w w':=by
 unfold strings_Cut.f at h;split at h
 ·rename_i hs
  injection h with h;injection h with h1 h;injection h with h2 h3;subst h1;subst h2;subst h3;obtain⟨m,hm⟩:=Bj;exact(Tryz.strings_Cut a0 a1 m w hs hm).mono fun e w' ⟨he,n,hn⟩=>⟨he,⟨⟨n,hn⟩⟩⟩
 ·cases h
def kH.l0:Nat→ByteArray→List Int→Int→Option (ByteArray×Int×Bool)
 |0,_,_,_=>none
 |k+1,x0,x5,x6=>if x6<(x0.size:Int)then(if 0≤x6 then(if(bt x0 x6)=34 then(some (strOfNums x5,wrap64 (x6+1),true))else(if(bt x0 x6)=92 then(if(wrap64 (x6+1))=(x0.size:Int)then(some ((⟨#[]⟩:ByteArray),0,false))else(if 0≤(wrap64 (x6+1))then(if(wrap64 (x6+1))<(x0.size:Int)then(if x5.length<140737488355328 then(kH.l0 k x0 (x5++[bt x0 (wrap64 (x6+1))]) (wrap64 ((wrap64 (x6+1))+1)))else(none))else(none))else(none)))else(if x5.length<140737488355328 then(kH.l0 k x0 (x5++[bt x0 x6]) (wrap64 (x6+1)))else(none))))else(none))else(some ((⟨#[]⟩:ByteArray),0,false))
def kH.f(k:Nat)(a0:ByteArray):Option (ByteArray×Int×Bool):=kH.l0 k a0 (([]:List Int)) 1
theorem kH.calls{k:Nat}{a0 r1:ByteArray}{r2:Int}{r3:Bool}{w:World}(h:kH.f k a0=some (r1,r2,r3)):
  Calls Tryz.prog 117 #[.string a0] w fun e w'=>e= .returned (.tuple #[.string r1, .int .i64 r2, .bool r3])∧Below w.heap.size w w':=by
 have HB:=ak (Below.refl w.heap.size w);unfold kH.f at h;have H:=h;clear h;obtain⟨aTw,asX⟩:=nm ([]:List Int);rw[←asX.out]at H;have H':=ak H;clear H;go_enter func117,ntmps117;go_wp2_with (refine Fh 7 (Kd.int .u8) 5 asX ?_;intro aTx w2 ho3 hb;have aBO:=ak (au ho3 (aj (ul HB.out)));replace HB:=bs HB hb;clear hb ho3)
 go_loopg [5,6] k (fun kq v5 v6 w'=>∃(dX:List Int) (gU:Int),v6= .int .i64 gU∧ah (kH.l0 kq a0 dX gU=some (r1,r2,r3))∧ah (kq≤k)∧ah (Kd.R (Kd.int .u8) 5 w' w.heap.size (fun _=>True) v5 dX)∧ah (Below w.heap.size w w'))
 case atStart=>exact⟨_,_,rs,H',⟨Nat.le_refl _⟩,⟨ur aBO.out⟩,⟨ul HB.out⟩⟩
 case round=>
  clear H';obtain⟨dX,gU,rfl,HA,y5,uj,HB⟩:=hrel
  cases gk with
  |zero=>exact zz HA.out
  |succ k1=>
   obtain⟨H⟩:=HA;simp only[kH.l0]at H;replace H:=sd H;rcases H with⟨o7,H⟩|⟨o7,H⟩
   ·replace H:=nO H;obtain⟨mV,H⟩:=H;replace H:=sq H;rcases H with⟨sQ,LK,H⟩|⟨c7,sQ,LK,H⟩
    ·obtain⟨rfl,rfl,rfl⟩:=s3 H;obtain⟨p6,q6,hx6⟩:=bx a0 gU;have aTy:=uO (P:=Tryz.prog) underlying22 underlying5 underlying9 (wI uj.out);go_wp2;go_ret3;exact⟨er,ul HB.out⟩
    ·replace H:=sq H;rcases H with⟨qg,uN,H⟩|⟨c10,qg,uN,H⟩
     ·replace H:=sq H;rcases H with⟨uM,D7,H⟩|⟨c11,uM,D7,H⟩
      ·obtain⟨rfl,rfl,rfl⟩:=s3 H;obtain⟨p6,q6,hx6⟩:=bx a0 gU;obtain⟨p9,q9,hx9⟩:=bx a0 gU;go_wp2;go_ret3;exact⟨er,ul HB.out⟩
      ·obtain⟨VY,KI⟩:∃j_:Int,(wrap64 (gU+1))=j_:=⟨_,rfl⟩
       replace H:(if 0≤(VY)then(if(VY)<(a0.size:Int)then(if dX.length<140737488355328 then(kH.l0 k1 a0 (dX++[bt a0 (VY)]) (wrap64 ((VY)+1)))else(none))else(none))else(none))=some (r1,r2,r3):=by first|(rw[KI]at H;exact H)|(simp only[KI]at H⊢;exact H)
       (try rw[KI]at uM)
       (try rw[KI]at D7);have awV:(IntKind.i64.wrap (gU+1))=VY:=(ig _).trans KI;replace H:=nO H;obtain⟨xY,H⟩:=H;replace H:=nO H;obtain⟨uD,H⟩:=H;replace H:=nl H;obtain⟨adg,H⟩:=H;obtain⟨aTz,asY⟩:=nm (dX++[bt a0 (VY)]);rw[←asY.out]at H;have H':=ak H;clear H;obtain⟨p6,q6,hx6⟩:=bx a0 gU;obtain⟨p9,q9,hx9⟩:=bx a0 gU;obtain⟨p15,q15,aTA⟩:=bx a0 (VY);go_wp2_with (at_builtin;refine aP 34 38 (Kd.int .u8) 22 5 (.int .u8 0) 1 underlying22 info5 HB (ur uj.out) asY (by have:=adg.out;omega) ?_;intro aTB w17 ho hb hg hat;have aBP:=ak (ho);replace HB:=ak (hb);clear ho hb hg hat uj)
       go_roundg k1
       case measure=>exact kl
       case rel=>exact⟨_,_,(by first|rfl|(simp;done)|(simp only[←KI]<;>(first|rfl|simp))|(simp[*];done)),H',⟨kl⟩,⟨ur aBP.out⟩,⟨ul HB.out⟩⟩
     ·replace H:=nl H;obtain⟨ac4,H⟩:=H;obtain⟨aTC,asZ⟩:=nm (dX++[bt a0 gU]);rw[←asZ.out]at H;have H':=ak H;clear H;obtain⟨p6,q6,hx6⟩:=bx a0 gU;obtain⟨p9,q9,hx9⟩:=bx a0 gU;obtain⟨p18,q18,aBQ⟩:=bx a0 gU;go_wp2_with (at_builtin;refine aP 34 38 (Kd.int .u8) 22 5 (.int .u8 0) 1 underlying22 info5 HB (ur uj.out) asZ (by have:=ac4.out;omega) ?_;intro aTD w20 ho hb hg hat;have aBR:=ak (ho);replace HB:=ak (hb);clear ho hb hg hat uj)
      go_roundg k1
      case measure=>exact kl
      case rel=>exact⟨_,_,rs,H',⟨kl⟩,⟨ur aBR.out⟩,⟨ul HB.out⟩⟩
   ·obtain⟨rfl,rfl,rfl⟩:=s3 H;go_wp2;go_ret3;exact⟨er,ul HB.out⟩
def lu.l0:Nat→ByteArray→Int→Int→Option (Int)
 |0,_,_,_=>none
 |k+1,x0,x1,x5=>if x5<(x0.size:Int)then(if 0≤x5 then(if(bt x0 x5)=34 then(if x5≤(x0.size:Int)then((kH.f k (x0.extract (x5:Int).toNat x0.size)).bind fun as1=>(if as1.2.2=true then(lu.l0 k x0 x1 (wrap64 ((wrap64 (x5+(wrap64 (as1.2.1-1))))+1)))else(some (-1))))else(none))else(if(bt x0 x5)=x1 then(some x5)else(lu.l0 k x0 x1 (wrap64 (x5+1)))))else(none))else(some (-1))
def lu.f(k:Nat)(a0:ByteArray)(a1:Int):Option (Int):=lu.l0 k a0 a1 0
theorem lu.calls{k:Nat}{a0:ByteArray}{a1 r:Int}{w:World}(h:lu.f k a0 a1=some r):
  Calls Tryz.prog 116 #[.string a0, .int .u8 a1] w fun e w'=>e= .returned (.int .i64 r)∧Below w.heap.size w w':=by
 have HB:=ak (Below.refl w.heap.size w);unfold lu.f at h;have H:=h;clear h;have H':=ak H;clear H;go_enter func116,ntmps116;go_wp2;go_loopg [5] k (fun kq v5 w'=>∃(dX:Int),v5= .int .i64 dX∧ah (lu.l0 kq a0 a1 dX=some r)∧ah (kq≤k)∧ah (Below w.heap.size w w'))
 case atStart=>exact⟨_,rs,H',⟨Nat.le_refl _⟩,⟨ul HB.out⟩⟩
 case round=>
  clear H';obtain⟨dX,rfl,HA,y5,HB⟩:=hrel
  cases gk with
  |zero=>exact zz HA.out
  |succ k1=>
   obtain⟨H⟩:=HA;simp only[lu.l0]at H;replace H:=sd H;rcases H with⟨iY,H⟩|⟨iY,H⟩
   ·replace H:=nO H;obtain⟨o7,H⟩:=H;replace H:=sq H;rcases H with⟨nD,AQ,H⟩|⟨c6,nD,AQ,H⟩
    ·have sQ:=eq_true (of_decide_eq_true (by assumption):0≤dX);replace H:=AL H;obtain⟨rP,Dt,H⟩:=H;replace H:=bd H;obtain⟨⟨aTE,aTF,aTG⟩,A9,H⟩:=H
     (try dsimp only at H);replace H:=sb H;rcases H with⟨rfl,H⟩|⟨rfl,H⟩
     ·have H':=ak H;clear H;obtain⟨p5,q5,hx5⟩:=bx a0 dX;go_wp2_with (refine gB func117 (kH.calls A9.out) ?_;intro ZH hb;replace HB:=bs HB hb;clear hb)
      go_roundg k1
      case measure=>exact kl
      case rel=>exact⟨_,rs,H',⟨kl⟩,⟨ul HB.out⟩⟩
     ·obtain rfl:=s1 H;obtain⟨p5,q5,hx5⟩:=bx a0 dX;go_wp2_with (refine gB func117 (kH.calls A9.out) ?_;intro w12 hb;replace HB:=bs HB hb;clear hb)
      go_ret;exact⟨er,ul HB.out⟩
    ·replace H:=sq H;rcases H with⟨xY,Dh,H⟩|⟨c13,xY,Dh,H⟩
     ·obtain rfl:=s1 H;obtain⟨p5,q5,hx5⟩:=bx a0 dX;go_wp2;go_ret;exact⟨er,ul HB.out⟩
     ·have H':=ak H;clear H;obtain⟨p5,q5,hx5⟩:=bx a0 dX;go_wp2;go_roundg k1
      case measure=>exact kl
      case rel=>exact⟨_,rs,H',⟨kl⟩,⟨ul HB.out⟩⟩
   ·obtain rfl:=s1 H;go_wp2;go_ret;exact⟨er,ul HB.out⟩
def iQ.l0:Nat→ByteArray→Int→List ByteArray→Option (List ByteArray)
 |0,_,_,_=>none
 |k+1,x0,x1,x5=>(lu.f k x0 x1).bind fun Ur=>(if Ur<0 then(if x5.length<8796093022208 then(some (x5++[x0]))else(none))else(if 0≤Ur then(if Ur≤(x0.size:Int)then(if x5.length<8796093022208 then(if 0≤(wrap64 (Ur+1))then(if(wrap64 (Ur+1))≤(x0.size:Int)then(iQ.l0 k (x0.extract ((wrap64 (Ur+1)):Int).toNat x0.size) x1 (x5++[x0.extract 0 (Ur:Int).toNat]))else(none))else(none))else(none))else(none))else(none)))
def iQ.f(k:Nat)(a0:ByteArray)(a1:Int):Option (List ByteArray):=iQ.l0 k a0 a1 (([]:List ByteArray))
theorem iQ.calls{k:Nat}{a0:ByteArray}{a1:Int}{r:List ByteArray}{w:World}(h:iQ.f k a0 a1=some r):
  Calls Tryz.prog 77 #[.string a0, .int .u8 a1] w fun e w'=>∃nC:Value,e= .returned (nC)∧Kd.R Kd.string 9 w' w.heap.size (fun _=>True) nC r∧Below w.heap.size w w':=by
 have HB:=ak (Below.refl w.heap.size w);unfold iQ.f at h;have H:=h;clear h;obtain⟨aTH,as2⟩:=nm ([]:List ByteArray);rw[←as2.out]at H;have H':=ak H;clear H;go_enter func77,ntmps77;go_wp2_with (refine Fh 7 Kd.string 9 as2 ?_;intro aTI w3 Vt hb;have aBS:=ak (au Vt (aj (ul HB.out)));replace HB:=bs HB hb;clear hb Vt)
 go_loopg [0,5] k (fun kq v0 v5 w'=>∃(uX:ByteArray) (dX:List ByteArray),v0= .string uX∧ah (iQ.l0 kq uX a1 dX=some r)∧ah (kq≤k)∧ah (Kd.R Kd.string 9 w' w.heap.size (fun _=>True) v5 dX)∧ah (Below w.heap.size w w'))
 case atStart=>exact⟨_,_,rs,H',⟨Nat.le_refl _⟩,⟨ur aBS.out⟩,⟨ul HB.out⟩⟩
 case round=>
  clear H';obtain⟨uX,dX,rfl,HA,y5,uj,HB⟩:=hrel
  cases gk with
  |zero=>exact zz HA.out
  |succ k1=>
   obtain⟨H⟩:=HA;simp only[iQ.l0]at H;replace H:=bd H;obtain⟨Ur,A5,H⟩:=H;replace H:=sd H;rcases H with⟨nD,H⟩|⟨nD,H⟩
   ·replace H:=nl H;obtain⟨alk,H⟩:=H;obtain⟨aTJ,as3⟩:=nm (dX++[uX]);rw[←as3.out]at H;obtain rfl:=s1 H;go_wp2_with (first|(refine gB func116 (lu.calls A5.out) ?_;intro w8 hb;replace uj:=rb uj hb;replace HB:=bs HB hb;clear hb)|(at_builtin;refine aP 13 15 Kd.string 24 9 (.string ⟨#[]⟩) 16 underlying24 info9 HB (ur uj.out) as3 (by have:=alk.out;omega) ?_;intro aTK w9 ho hb hg hat;have aBT:=ak (ho);replace HB:=ak (hb);clear ho hb hg hat uj))
    go_ret;exact⟨_,er,ur aBT.out,ul HB.out⟩
   ·replace H:=AL H;obtain⟨qg,uN,H⟩:=H;replace H:=AL H;obtain⟨uM,D7,H⟩:=H;replace H:=nl H;obtain⟨Xw,H⟩:=H;obtain⟨aKZ,as4⟩:=nm (dX++[uX.extract 0 (Ur:Int).toNat]);rw[←as4.out]at H;obtain⟨BL,zV⟩:∃j_:Int,(wrap64 (Ur+1))=j_:=⟨_,rfl⟩
    replace H:(if 0≤(BL)then(if(BL)≤(uX.size:Int)then(iQ.l0 k1 (uX.extract ((BL):Int).toNat uX.size) a1 aKZ)else(none))else(none))=some r:=by first|(rw[zV]at H;exact H)|(simp only[zV]at H⊢;exact H)
    (try rw[zV]at A5);have alm:(IntKind.i64.wrap (Ur+1))=BL:=(ig _).trans zV;replace H:=AL H;obtain⟨uD,yc,H⟩:=H;replace H:=AL H;obtain⟨uz,D8,H⟩:=H;have H':=ak H;clear H;try go_wp2_with (refine gB func116 (lu.calls A5.out) ?_;intro w16 hb;replace uj:=rb uj hb;replace HB:=bs HB hb;clear hb)
    replace uj:=ak (nI uj.out);replace HB:=ak (iE HB.out);refine ro [4,5] [0,1,2,3,6,7,8,9,4,5,10,11] (fun w'=>True) trivial ?_
    generalize w16.drew=w17 at uj HB⊢
    repeat refine Dc ?_
    refine ld (N:=some 21) (gk.trans rfl) rfl rfl (fun K hK=>?_);refine IV (w1:=?_) (v:=?_) (by rfl) rfl ?_ ?_
    rotate_left 2
    ·go_simp;constructor
     ·rfl
     ·rfl
    refine hK.out _ _ trivial ?_;clear hK K;refine no (a':=?_) ?_ ?_
    rotate_left
    ·show Act.put _ (some 21) _=_
     simp only[Act.put,yX,yY,l_c,ig,jO];rfl
    refine ld (N:=some 22) (gk.trans rfl) rfl rfl (fun K hK=>?_);refine qH Kd.string (w0:=w) w.heap.size (by rfl) (.tmp 17) (.tmp 21) 24 9 (.string ⟨#[]⟩) 16 rfl underlying24 info9 rfl (by decide) (by omega) u5 dX (uX.extract 0 (Ur:Int).toNat) [.string (uX.extract 0 (Ur:Int).toNat)] (fun _=>True) (fun _=>False) rfl rfl ?aP (fun _ hk=>hk.elim) ?aF ?aO ?aB ?aS ?aL ?_
    (case aP=>exact rfl)
    (case aB=>exact(ul HB.out))
    (case aF=>exact(fun _ _=>trivial))
    (case aO=>exact(ur uj.out))
    (case aS=>exact(aj (ul HB.out)))
    (case aL=>have:=Xw.out;omega);intro aTL w18 ho hb hg hat
    rw[←as4.out]at ho;have Am:=ak (hb);have Ap:=ak (ho);clear HB uj;have HB:=Am;have aBU:=Ap;clear Am Ap ho hb hg hat
    refine hK.out _ _ trivial ?_;clear hK K;refine no (a':=?_) ?_ ?_
    rotate_left
    ·show Act.put _ (some 22) _=_
     simp only[Act.put,yX,yY,l_c,ig,jO];rfl
    repeat refine Dc ?_
    refine on ?_;try go_wp2
    go_roundg k1
    case measure=>exact kl
    case rel=>exact⟨_,_,(by first|rfl|(simp;done)|(simp only[←zV]<;>(first|rfl|simp))|(simp[*];done)),H',⟨kl⟩,⟨ur aBU.out⟩,⟨ul HB.out⟩⟩
def mX.f(a0:Int):Option (Bool):=(bH.f a0).bind fun aBV=>(if aBV=true then(some true)else((dU.f a0).bind fun aBW=>(if aBW=true then(some true)else(if a0=33 then(some true)else(if a0≥35 then(if a0≤39 then(some true)else(if a0=42 then(some true)else(if a0=43 then(some true)else(if a0=45 then(some true)else(if a0=47 then(some true)else(if a0=61 then(some true)else(if a0=63 then(some true)else(if a0≥94 then(if a0≤96 then(some true)else(if a0≥123 then(some (decide (a0≤126)))else(some false)))else(if a0≥123 then(some (decide (a0≤126)))else(some false))))))))))else(if a0=42 then(some true)else(if a0=43 then(some true)else(if a0=45 then(some true)else(if a0=47 then(some true)else(if a0=61 then(some true)else(if a0=63 then(some true)else(if a0≥94 then(if a0≤96 then(some true)else(if a0≥123 then(some (decide (a0≤126)))else(some false)))else(if a0≥123 then(some (decide (a0≤126)))else(some false))))))))))))))
theorem mX.calls{a0:Int}{r:Bool}{w:World}(h:mX.f a0=some r):
  Calls Tryz.prog 118 #[.int .u8 a0] w fun e w'=>e= .returned (.bool r)∧dS w w':=by
 unfold mX.f at h;have H:=h;clear h;replace H:=bd H;obtain⟨aBV,A2,H⟩:=H;replace H:=sb H;rcases H with⟨rfl,H⟩|⟨rfl,H⟩
 ·obtain rfl:=s1 H;go_enter func118,ntmps118;go_wp2_with (refine gA func84 (bH.calls A2.out) ?_;intro nd)
  go_ret;exact⟨rs,dn⟩
 ·replace H:=bd H;obtain⟨aBW,A4,H⟩:=H;replace H:=sb H;rcases H with⟨rfl,H⟩|⟨rfl,H⟩
  ·obtain rfl:=s1 H;go_enter func118,ntmps118;go_wp2_with (first|(refine gA func84 (bH.calls A2.out) ?_;intro nd)|(go_at_call 85;refine mA (dU.calls A4.out) ?_;intro nd))
   go_ret;exact⟨rs,dn⟩
  ·replace H:=sq H;rcases H with⟨nD,AQ,H⟩|⟨c6,nD,AQ,H⟩
   ·obtain rfl:=s1 H;go_enter func118,ntmps118;go_wp2_with (first|(refine gA func84 (bH.calls A2.out) ?_;intro nd)|(go_at_call 85;refine mA (dU.calls A4.out) ?_;intro nd))
    go_ret;exact⟨rs,dn⟩
   ·replace H:=sp H;rcases H with⟨c7,H⟩|⟨c7,H⟩
    ·have sQ:decide (35≤a0)=true:=decide_eq_true c7;clear c7;replace H:=sd H;rcases H with⟨rP,H⟩|⟨rP,H⟩
     ·obtain rfl:=s1 H;go_enter func118,ntmps118;go_wp2_with (first|(refine gA func84 (bH.calls A2.out) ?_;intro nd)|(go_at_call 85;refine mA (dU.calls A4.out) ?_;intro nd))
      go_ret;exact⟨rs,dn⟩
     ·replace H:=sq H;rcases H with⟨xZ,D_,H⟩|⟨c9,xZ,D_,H⟩
      ·obtain rfl:=s1 H;go_enter func118,ntmps118;go_wp2_with (first|(refine gA func84 (bH.calls A2.out) ?_;intro nd)|(go_at_call 85;refine mA (dU.calls A4.out) ?_;intro nd))
       go_ret;exact⟨rs,dn⟩
      ·replace H:=sq H;rcases H with⟨qg,uN,H⟩|⟨c10,qg,uN,H⟩
       ·obtain rfl:=s1 H;go_enter func118,ntmps118;go_wp2_with (first|(refine gA func84 (bH.calls A2.out) ?_;intro nd)|(go_at_call 85;refine mA (dU.calls A4.out) ?_;intro nd))
        go_ret;exact⟨rs,dn⟩
       ·replace H:=sq H;rcases H with⟨uM,D7,H⟩|⟨c11,uM,D7,H⟩
        ·obtain rfl:=s1 H;go_enter func118,ntmps118;go_wp2_with (first|(refine gA func84 (bH.calls A2.out) ?_;intro nd)|(go_at_call 85;refine mA (dU.calls A4.out) ?_;intro nd))
         go_ret;exact⟨rs,dn⟩
        ·replace H:=sq H;rcases H with⟨vJ,EU,H⟩|⟨c12,vJ,EU,H⟩
         ·obtain rfl:=s1 H;go_enter func118,ntmps118;go_wp2_with (first|(refine gA func84 (bH.calls A2.out) ?_;intro nd)|(go_at_call 85;refine mA (dU.calls A4.out) ?_;intro nd))
          go_ret;exact⟨rs,dn⟩
         ·replace H:=sq H;rcases H with⟨xY,Dh,H⟩|⟨c13,xY,Dh,H⟩
          ·obtain rfl:=s1 H;go_enter func118,ntmps118;go_wp2_with (first|(refine gA func84 (bH.calls A2.out) ?_;intro nd)|(go_at_call 85;refine mA (dU.calls A4.out) ?_;intro nd))
           go_ret;exact⟨rs,dn⟩
          ·replace H:=sq H;rcases H with⟨uD,yc,H⟩|⟨c14,uD,yc,H⟩
           ·obtain rfl:=s1 H;go_enter func118,ntmps118;go_wp2_with (first|(refine gA func84 (bH.calls A2.out) ?_;intro nd)|(go_at_call 85;refine mA (dU.calls A4.out) ?_;intro nd))
            go_ret;exact⟨rs,dn⟩
           ·replace H:=sp H;rcases H with⟨c15,H⟩|⟨c15,H⟩
            ·have uz:decide (94≤a0)=true:=decide_eq_true c15;clear c15;replace H:=sd H;rcases H with⟨ER,H⟩|⟨ER,H⟩
             ·obtain rfl:=s1 H;go_enter func118,ntmps118;go_wp2_with (first|(refine gA func84 (bH.calls A2.out) ?_;intro nd)|(go_at_call 85;refine mA (dU.calls A4.out) ?_;intro nd))
              go_ret;exact⟨rs,dn⟩
             ·replace H:=sp H;rcases H with⟨c17,H⟩|⟨c17,H⟩
              ·have wz:decide (123≤a0)=true:=decide_eq_true c17;clear c17;obtain rfl:=s1 H;go_enter func118,ntmps118;go_wp2_with (first|(refine gA func84 (bH.calls A2.out) ?_;intro nd)|(go_at_call 85;refine mA (dU.calls A4.out) ?_;intro nd))
               go_ret;exact⟨rs,dn⟩
              ·have wz:decide (123≤a0)=false:=decide_eq_false c17;clear c17;obtain rfl:=s1 H;go_enter func118,ntmps118;go_wp2_with (first|(refine gA func84 (bH.calls A2.out) ?_;intro nd)|(go_at_call 85;refine mA (dU.calls A4.out) ?_;intro nd))
               go_ret;exact⟨rs,dn⟩
            ·have uz:decide (94≤a0)=false:=decide_eq_false c15;clear c15;replace H:=sp H;rcases H with⟨c18,H⟩|⟨c18,H⟩
             ·have ES:decide (123≤a0)=true:=decide_eq_true c18;clear c18;obtain rfl:=s1 H;go_enter func118,ntmps118;go_wp2_with (first|(refine gA func84 (bH.calls A2.out) ?_;intro nd)|(go_at_call 85;refine mA (dU.calls A4.out) ?_;intro nd))
              go_ret;exact⟨rs,dn⟩
             ·have ES:decide (123≤a0)=false:=decide_eq_false c18;clear c18;obtain rfl:=s1 H;go_enter func118,ntmps118;go_wp2_with (first|(refine gA func84 (bH.calls A2.out) ?_;intro nd)|(go_at_call 85;refine mA (dU.calls A4.out) ?_;intro nd))
              go_ret;exact⟨rs,dn⟩
    ·have sQ:decide (35≤a0)=false:=decide_eq_false c7;clear c7;replace H:=sq H;rcases H with⟨ET,Jp,H⟩|⟨c19,ET,Jp,H⟩
     ·obtain rfl:=s1 H;go_enter func118,ntmps118;go_wp2_with (first|(refine gA func84 (bH.calls A2.out) ?_;intro nd)|(go_at_call 85;refine mA (dU.calls A4.out) ?_;intro nd))
      go_ret;exact⟨rs,dn⟩
     ·replace H:=sq H;rcases H with⟨QN,Xj,H⟩|⟨c20,QN,Xj,H⟩
      ·obtain rfl:=s1 H;go_enter func118,ntmps118;go_wp2_with (first|(refine gA func84 (bH.calls A2.out) ?_;intro nd)|(go_at_call 85;refine mA (dU.calls A4.out) ?_;intro nd))
       go_ret;exact⟨rs,dn⟩
      ·replace H:=sq H;rcases H with⟨EW,ac5,H⟩|⟨c21,EW,ac5,H⟩
       ·obtain rfl:=s1 H;go_enter func118,ntmps118;go_wp2_with (first|(refine gA func84 (bH.calls A2.out) ?_;intro nd)|(go_at_call 85;refine mA (dU.calls A4.out) ?_;intro nd))
        go_ret;exact⟨rs,dn⟩
       ·replace H:=sq H;rcases H with⟨H9,Xm,H⟩|⟨c22,H9,Xm,H⟩
        ·obtain rfl:=s1 H;go_enter func118,ntmps118;go_wp2_with (first|(refine gA func84 (bH.calls A2.out) ?_;intro nd)|(go_at_call 85;refine mA (dU.calls A4.out) ?_;intro nd))
         go_ret;exact⟨rs,dn⟩
        ·replace H:=sq H;rcases H with⟨EP,Vq,H⟩|⟨c23,EP,Vq,H⟩
         ·obtain rfl:=s1 H;go_enter func118,ntmps118;go_wp2_with (first|(refine gA func84 (bH.calls A2.out) ?_;intro nd)|(go_at_call 85;refine mA (dU.calls A4.out) ?_;intro nd))
          go_ret;exact⟨rs,dn⟩
         ·replace H:=sq H;rcases H with⟨QU,aht,H⟩|⟨c24,QU,aht,H⟩
          ·obtain rfl:=s1 H;go_enter func118,ntmps118;go_wp2_with (first|(refine gA func84 (bH.calls A2.out) ?_;intro nd)|(go_at_call 85;refine mA (dU.calls A4.out) ?_;intro nd))
           go_ret;exact⟨rs,dn⟩
          ·replace H:=sp H;rcases H with⟨c25,H⟩|⟨c25,H⟩
           ·have F8:decide (94≤a0)=true:=decide_eq_true c25;clear c25;replace H:=sd H;rcases H with⟨Q5,H⟩|⟨Q5,H⟩
            ·obtain rfl:=s1 H;go_enter func118,ntmps118;go_wp2_with (first|(refine gA func84 (bH.calls A2.out) ?_;intro nd)|(go_at_call 85;refine mA (dU.calls A4.out) ?_;intro nd))
             go_ret;exact⟨rs,dn⟩
            ·replace H:=sp H;rcases H with⟨c27,H⟩|⟨c27,H⟩
             ·have KH:decide (123≤a0)=true:=decide_eq_true c27;clear c27;obtain rfl:=s1 H;go_enter func118,ntmps118;go_wp2_with (first|(refine gA func84 (bH.calls A2.out) ?_;intro nd)|(go_at_call 85;refine mA (dU.calls A4.out) ?_;intro nd))
              go_ret;exact⟨rs,dn⟩
             ·have KH:decide (123≤a0)=false:=decide_eq_false c27;clear c27;obtain rfl:=s1 H;go_enter func118,ntmps118;go_wp2_with (first|(refine gA func84 (bH.calls A2.out) ?_;intro nd)|(go_at_call 85;refine mA (dU.calls A4.out) ?_;intro nd))
              go_ret;exact⟨rs,dn⟩
           ·have F8:decide (94≤a0)=false:=decide_eq_false c25;clear c25;replace H:=sp H;rcases H with⟨c28,H⟩|⟨c28,H⟩
            ·have LZ:decide (123≤a0)=true:=decide_eq_true c28;clear c28;obtain rfl:=s1 H;go_enter func118,ntmps118;go_wp2_with (first|(refine gA func84 (bH.calls A2.out) ?_;intro nd)|(go_at_call 85;refine mA (dU.calls A4.out) ?_;intro nd))
             go_ret;exact⟨rs,dn⟩
            ·have LZ:decide (123≤a0)=false:=decide_eq_false c28;clear c28;obtain rfl:=s1 H;go_enter func118,ntmps118;go_wp2_with (first|(refine gA func84 (bH.calls A2.out) ?_;intro nd)|(go_at_call 85;refine mA (dU.calls A4.out) ?_;intro nd))
             go_ret;exact⟨rs,dn⟩
mutual
def dY.l0:Nat→ByteArray→List ByteArray→Int→Bool→Option (List ByteArray×Bool)
 |0,_,_,_,_=>none
 |k+1,x0,x4,x5,x6=>if x5<(x0.size:Int)then(if 0≤x5 then(if(bt x0 x5)=32 then(dY.l0 k x0 x4 (wrap64 (x5+1)) true)else(if x6=true then(if(bt x0 x5)=34 then(if x5≤(x0.size:Int)then((kH.f k (x0.extract (x5:Int).toNat x0.size)).bind fun aln=>(if aln.2.2=true then(if x4.length<8796093022208 then(dY.l0 k x0 (x4++[aln.1]) (wrap64 (x5+aln.2.1)) false)else(none))else(some (([]:List ByteArray),false))))else(none))else(dY.l1 k x0 x4 x5 x5))else(some (([]:List ByteArray),false))))else(none))else(some (x4,true))
def dY.l1:Nat→ByteArray→List ByteArray→Int→Int→Option (List ByteArray×Bool)
 |0,_,_,_,_=>none
 |k+1,x0,x4,x5,x10=>if x10<(x0.size:Int)then(if 0≤x10 then((mX.f (bt x0 x10)).bind fun aBX=>(if aBX=true then(dY.l1 k x0 x4 x5 (wrap64 (x10+1)))else(if x10=x5 then(some (([]:List ByteArray),false))else(if 0≤x5 then(if x5≤x10 then(if x10≤(x0.size:Int)then(if x4.length<8796093022208 then(dY.l0 k x0 (x4++[x0.extract (x5:Int).toNat (x10:Int).toNat]) x10 false)else(none))else(none))else(none))else(none)))))else(none))else(if x10=x5 then(some (([]:List ByteArray),false))else(if 0≤x5 then(if x5≤x10 then(if x10≤(x0.size:Int)then(if x4.length<8796093022208 then(dY.l0 k x0 (x4++[x0.extract (x5:Int).toNat (x10:Int).toNat]) x10 false)else(none))else(none))else(none))else(none)))
end
def dY.f(k:Nat)(a0:ByteArray):Option (List ByteArray×Bool):=(bC.f k a0).bind fun aBY=>(if aBY=true then(dY.l0 k a0 (([]:List ByteArray)) 0 true)else(some (([]:List ByteArray),false)))
theorem dY.calls{k:Nat}{a0:ByteArray}{r1:List ByteArray}{r2:Bool}{w:World}(h:dY.f k a0=some (r1,r2)):
  Calls Tryz.prog 79 #[.string a0] w fun e w'=>∃nC:Value,e= .returned (.tuple #[nC, .bool r2])∧Kd.R Kd.string 9 w' w.heap.size (fun _=>True) nC r1∧Below w.heap.size w w':=by
 have HB:=ak (Below.refl w.heap.size w);unfold dY.f at h;have H:=h;clear h;replace H:=bd H;obtain⟨aBY,A2,H⟩:=H;replace H:=sb H;rcases H with⟨rfl,H⟩|⟨rfl,H⟩
 ·obtain⟨aTM,as5⟩:=nm ([]:List ByteArray);rw[←as5.out]at H;have H':=ak H;clear H;go_enter func79,ntmps79;go_wp2_with (first|(refine gA func52 (bC.calls A2.out) ?_;intro nd)|(refine Fh 14 Kd.string 9 as5 ?_;intro aTN w4 ho5 hb;have aBZ:=ak (au ho5 (aj (ul HB.out)));replace HB:=bs HB hb;clear hb ho5))
  go_loopg [4,5,6] k (fun kq v4 v5 v6 w'=>∃(cO:List ByteArray) (dX:Int) (gU:Bool),v5= .int .i64 dX∧v6= .bool gU∧ah (dY.l0 kq a0 cO dX gU=some (r1,r2))∧ah (kq≤k)∧ah (Kd.R Kd.string 9 w' w.heap.size (fun _=>True) v4 cO)∧ah (Below w.heap.size w w'))
  case atStart=>exact⟨_,_,_,rs,rs,H',⟨Nat.le_refl _⟩,⟨ur aBZ.out⟩,⟨ul HB.out⟩⟩
  case round=>
   clear H';obtain⟨cO,dX,gU,rfl,rfl,HA,y5,bQ,HB⟩:=hrel
   cases gk with
   |zero=>exact zz HA.out
   |succ k1=>
    obtain⟨H⟩:=HA;simp only[dY.l0]at H;replace H:=sd H;rcases H with⟨nD,H⟩|⟨nD,H⟩
    ·replace H:=nO H;obtain⟨sQ,H⟩:=H;replace H:=sq H;rcases H with⟨xZ,D_,H⟩|⟨c9,xZ,D_,H⟩
     ·have H':=ak H;clear H;obtain⟨p8,q8,hx8⟩:=bx a0 dX;go_wp2;go_roundg k1
      case measure=>exact kl
      case rel=>exact⟨_,_,_,rs,rs,H',⟨kl⟩,⟨ur bQ.out⟩,⟨ul HB.out⟩⟩
     ·replace H:=sb H;rcases H with⟨rfl,H⟩|⟨rfl,H⟩
      ·replace H:=sq H;rcases H with⟨vJ,EU,H⟩|⟨c12,vJ,EU,H⟩
       ·have xY:=eq_true (of_decide_eq_true (by assumption):0≤dX);replace H:=AL H;obtain⟨uD,yc,H⟩:=H;replace H:=bd H;obtain⟨⟨aK1,aTO,aTP⟩,A15,H⟩:=H
        (try dsimp only at H);replace H:=sb H;rcases H with⟨rfl,H⟩|⟨rfl,H⟩
        ·replace H:=nl H;obtain⟨alo,H⟩:=H;obtain⟨aTQ,as6⟩:=nm (cO++[aK1]);rw[←as6.out]at H;have H':=ak H;clear H;obtain⟨p8,q8,hx8⟩:=bx a0 dX;obtain⟨p11,q11,ac2⟩:=bx a0 dX;go_wp2_with (first|(refine gB func117 (kH.calls A15.out) ?_;intro w18 hb;replace bQ:=rb bQ hb;replace HB:=bs HB hb;clear hb)|(at_builtin;refine aP 68 70 Kd.string 24 9 (.string ⟨#[]⟩) 16 underlying24 info9 HB (ur bQ.out) as6 (by have:=alo.out;omega) ?_;intro aTR w19 ho hb hg hat;have aB0:=ak (ho);replace HB:=ak (hb);clear ho hb hg hat bQ))
         go_roundg k1
         case measure=>exact kl
         case rel=>exact⟨_,_,_,rs,rs,H',⟨kl⟩,⟨ur aB0.out⟩,⟨ul HB.out⟩⟩
        ·obtain⟨rfl,rfl⟩:=s2 H;obtain⟨p8,q8,hx8⟩:=bx a0 dX;obtain⟨p11,q11,ac2⟩:=bx a0 dX;go_wp2_with (refine gB func117 (kH.calls A15.out) ?_;intro w20 hb;replace bQ:=rb bQ hb;replace HB:=bs HB hb;clear hb)
         go_ret2;exact⟨_,er,nx,ul HB.out⟩
       ·have H':=ak H;clear H;obtain⟨p8,q8,hx8⟩:=bx a0 dX;obtain⟨p11,q11,ac2⟩:=bx a0 dX;go_wp2;go_loopg [10] k1 (fun kq v10 w'=>∃(Vu:Int),v10= .int .i64 Vu∧ah (dY.l1 kq a0 cO dX Vu=some (r1,r2))∧ah (kq≤k1)∧ah (Kd.R Kd.string 9 w' w.heap.size (fun _=>True) u4 cO)∧ah (Below w.heap.size w w'))
        case atStart=>exact⟨_,rs,H',⟨Nat.le_refl _⟩,⟨ur bQ.out⟩,⟨ul HB.out⟩⟩
        case round=>
         clear H';try clear nD
         try clear sQ
         try clear p8
         try clear q8
         try clear hx8
         try clear c9
         try clear xZ
         try clear D_
         try clear p11
         try clear q11
         try clear ac2
         try clear c12
         try clear vJ
         try clear EU
         try clear p11
         try clear p8
         try clear q11
         try clear q8
         obtain⟨Vu,rfl,HA,HK2,bQ,HB⟩:=hrel
         cases gk with
         |zero=>exact zz HA.out
         |succ k2=>
          obtain⟨H⟩:=HA;simp only[dY.l1]at H;replace H:=sd H;rcases H with⟨EW,H⟩|⟨EW,H⟩
          ·replace H:=nO H;obtain⟨H9,H⟩:=H;replace H:=bd H;obtain⟨aBX,A24,H⟩:=H;replace H:=sb H;rcases H with⟨rfl,H⟩|⟨rfl,H⟩
           ·have H':=ak H;clear H;obtain⟨p23,q23,aB1⟩:=bx a0 Vu;go_wp2_with (go_at_call 118;refine mA (mX.calls A24.out) ?_;intro nd)
            go_roundg k2
            case measure=>exact kl
            case rel=>exact⟨_,rs,H',⟨kl⟩,⟨ur bQ.out⟩,⟨ul HB.out⟩⟩
           ·replace H:=sq H;rcases H with⟨Q5,ahu,H⟩|⟨c26,Q5,ahu,H⟩
            ·obtain⟨rfl,rfl⟩:=s2 H;obtain⟨p23,q23,aB1⟩:=bx a0 Vu;go_wp2_with (go_at_call 118;refine mA (mX.calls A24.out) ?_;intro nd)
             go_ret2;exact⟨_,er,nx,ul HB.out⟩
            ·replace H:=AL H;obtain⟨KH,aho,H⟩:=H;replace H:=AL H;obtain⟨LZ,ahv,H⟩:=H;replace H:=AL H;obtain⟨ahp,aOY,H⟩:=H;replace H:=nl H;obtain⟨aB2,H⟩:=H;obtain⟨aTS,as7⟩:=nm (cO++[a0.extract (dX:Int).toNat (Vu:Int).toNat]);rw[←as7.out]at H;have H':=ak H;clear H;obtain⟨p23,q23,aB1⟩:=bx a0 Vu;go_wp2_with (first|(go_at_call 118;refine mA (mX.calls A24.out) ?_;intro nd)|(at_builtin;refine aP 35 40 Kd.string 24 9 (.string ⟨#[]⟩) 16 underlying24 info9 HB (ur bQ.out) as7 (by have:=aB2.out;omega) ?_;intro aTT w31 ho hb hg hat;have aB3:=ak (ho);replace HB:=ak (hb);clear ho hb hg hat bQ))
             go_roundg k2
             case measure=>exact kl
             case rel=>exact⟨_,_,_,rs,rs,H',⟨kl⟩,⟨ur aB3.out⟩,⟨ul HB.out⟩⟩
          ·replace H:=sq H;rcases H with⟨aaj,alp,H⟩|⟨c32,aaj,alp,H⟩
           ·obtain⟨rfl,rfl⟩:=s2 H;go_wp2;go_ret2;exact⟨_,er,nx,ul HB.out⟩
           ·replace H:=AL H;obtain⟨aah,ald,H⟩:=H;replace H:=AL H;obtain⟨Xt,ada,H⟩:=H;replace H:=AL H;obtain⟨aak,ahw,H⟩:=H;replace H:=nl H;obtain⟨aB4,H⟩:=H;obtain⟨aTU,as8⟩:=nm (cO++[a0.extract (dX:Int).toNat (Vu:Int).toNat]);rw[←as8.out]at H;have H':=ak H;clear H;go_wp2_with (at_builtin;refine aP 35 40 Kd.string 24 9 (.string ⟨#[]⟩) 16 underlying24 info9 HB (ur bQ.out) as8 (by have:=aB4.out;omega) ?_;intro aTV w37 ho hb hg hat;have aB5:=ak (ho);replace HB:=ak (hb);clear ho hb hg hat bQ)
            go_roundg k2
            case measure=>exact kl
            case rel=>exact⟨_,_,_,rs,rs,H',⟨kl⟩,⟨ur aB5.out⟩,⟨ul HB.out⟩⟩
      ·obtain⟨rfl,rfl⟩:=s2 H;obtain⟨p8,q8,hx8⟩:=bx a0 dX;go_wp2;go_ret2;exact⟨_,er,nx,ul HB.out⟩
    ·obtain⟨rfl,rfl⟩:=s2 H;go_wp2;go_ret2;exact⟨_,er,ur bQ.out,ul HB.out⟩
 ·obtain⟨rfl,rfl⟩:=s2 H;go_enter func79,ntmps79;go_wp2_with (refine gA func52 (bC.calls A2.out) ?_;intro nd)
  go_ret2;exact⟨_,er,nx,ul HB.out⟩
def iH.f(k:Nat)(a0:ByteArray):Option (Bool):=(kG.f k a0).bind fun aB6=>(if aB6=true then((jJ.f a0).bind fun aB7=>(some (aB7.toList==a0.toList)))else(some false))
theorem iH.calls{k:Nat}{a0:ByteArray}{r:Bool}{w:World}(h:iH.f k a0=some r):
  Calls Tryz.prog 119 #[.string a0] w fun e w'=>e= .returned (.bool r)∧Below w.heap.size w w':=by
 have HB:=ak (Below.refl w.heap.size w);unfold iH.f at h;have H:=h;clear h;replace H:=bd H;obtain⟨aB6,A2,H⟩:=H;replace H:=sb H;rcases H with⟨rfl,H⟩|⟨rfl,H⟩
 ·replace H:=bd H;obtain⟨aB7,A4,H⟩:=H;obtain rfl:=s1 H;go_enter func119,ntmps119;go_wp2_with (first|(refine gA func113 (kG.calls A2.out) ?_;intro nd)|(go_at_call 78;refine mB (jJ.calls A4.out) ?_;intro w5 hb;replace HB:=bs HB hb;clear hb))
  go_ret;exact⟨er,ul HB.out⟩
 ·obtain rfl:=s1 H;go_enter func119,ntmps119;go_wp2_with (refine gA func113 (kG.calls A2.out) ?_;intro nd)
  go_ret;exact⟨er,ul HB.out⟩
def eH.l0:Nat→ByteArray→Int→Int→Option (Bool)
 |0,_,_,_=>none
 |k+1,x0,x7,x8=>if x8<x7 then(if 0≤x8 then(if x8<(x0.size:Int)then((mX.f (bt x0 x8)).bind fun aB8=>(if aB8=true then(eH.l0 k x0 x7 (wrap64 (x8+1)))else(some false)))else(none))else(none))else(some true)
def eH.f(k:Nat)(a0:ByteArray):Option (Bool):=eH.l0 k a0 (a0.size:Int) 0
theorem eH.calls{k:Nat}{a0:ByteArray}{r:Bool}{w:World}(h:eH.f k a0=some r):
  Calls Tryz.prog 82 #[.string a0, .func (.func 118) #[] #[]] w fun e w'=>e= .returned (.bool r)∧dS w w':=by
 unfold eH.f at h;have H:=h;clear h;have H':=ak H;clear H;go_enter func82,ntmps82;go_wp2;go_loopg [8] k (fun kq v8 w'=>∃(lX:Int),v8= .int .i64 lX∧ah (eH.l0 kq a0 (a0.size:Int) lX=some r)∧ah (kq≤k)∧dS w w')
 case atStart=>exact⟨_,rs,H',⟨Nat.le_refl _⟩,dn⟩
 case round=>
  clear H';obtain⟨lX,rfl,HA,y5,⟨m1,rfl⟩⟩:=hrel
  cases gk with
  |zero=>exact zz HA.out
  |succ k1=>
   obtain⟨H⟩:=HA;simp only[eH.l0]at H;replace H:=sd H;rcases H with⟨iY,H⟩|⟨iY,H⟩
   ·replace H:=nO H;obtain⟨o7,H⟩:=H;replace H:=nO H;obtain⟨mV,H⟩:=H;replace H:=bd H;obtain⟨aB8,A7,H⟩:=H;replace H:=sb H;rcases H with⟨rfl,H⟩|⟨rfl,H⟩
    ·have H':=ak H;clear H;obtain⟨p6,q6,hx6⟩:=bx a0 lX;go_wp2_with (go_at_call 118;refine mA (mX.calls A7.out) ?_;intro nd)
     go_roundg k1
     case measure=>exact kl
     case rel=>exact⟨_,rs,H',⟨kl⟩,dn⟩
    ·obtain rfl:=s1 H;obtain⟨p6,q6,hx6⟩:=bx a0 lX;go_wp2_with (go_at_call 118;refine mA (mX.calls A7.out) ?_;intro nd)
     go_ret;exact⟨rs,dn⟩
   ·obtain rfl:=s1 H;go_wp2;go_ret;exact⟨rs,dn⟩
def sF.f(k:Nat)(a0:ByteArray):Option (Bool):=if(a0.size:Int)≥1 then(if(a0.size:Int)≤40 then((eH.f k a0).bind fun aB9=>(some aB9))else(some false))else(some false)
theorem sF.calls{k:Nat}{a0:ByteArray}{r:Bool}{w:World}(h:sF.f k a0=some r):
  Calls Tryz.prog 154 #[.string a0] w fun e w'=>e= .returned (.bool r)∧dS w w':=by
 unfold sF.f at h;have H:=h;clear h;replace H:=sp H;rcases H with⟨c2,H⟩|⟨c2,H⟩
 ·have sO:decide (1≤(a0.size:Int))=true:=decide_eq_true c2;have BK:decide (1≤a0.size)=true:=decide_eq_true (by omega);clear c2;replace H:=sp H;rcases H with⟨c3,H⟩|⟨c3,H⟩
  ·have iY:=decide_eq_true c3;have zN:decide (a0.size≤40)=true:=decide_eq_true (by omega);clear c3;replace H:=bd H;obtain⟨aB9,A4,H⟩:=H;obtain rfl:=s1 H;go_enter func154,ntmps154;go_wp2_with (go_at_call 82;refine mA (eH.calls A4.out) ?_;intro nd)
   go_ret;exact⟨rs,dn⟩
  ·have iY:=decide_eq_false c3;have zN:decide (a0.size≤40)=false:=decide_eq_false (by omega);clear c3;obtain rfl:=s1 H;go_enter func154,ntmps154;go_wp2;go_ret;exact⟨rs,dn⟩
 ·have sO:decide (1≤(a0.size:Int))=false:=decide_eq_false c2;have BK:decide (1≤a0.size)=false:=decide_eq_false (by omega);clear c2;obtain rfl:=s1 H;go_enter func154,ntmps154;go_wp2;go_ret;exact⟨rs,dn⟩
def jK.l0:Nat→ByteArray→List Int→Int→Int→Option (ByteArray)
 |0,_,_,_,_=>none
 |k+1,x0,x3,x15,x16=>if x16<x15 then(if 0≤x16 then(if x16<(x0.size:Int)then(if(bt x0 x16)=34 then(if x3.length<140737488355328 then((some (x3++[92]:List Int)).bind fun aqF=>(if aqF.length<140737488355328 then(jK.l0 k x0 (aqF++[bt x0 x16]) x15 (wrap64 (x16+1)))else(none)))else(none))else(if(bt x0 x16)=92 then(if x3.length<140737488355328 then((some (x3++[92]:List Int)).bind fun aqG=>(if aqG.length<140737488355328 then(jK.l0 k x0 (aqG++[bt x0 x16]) x15 (wrap64 (x16+1)))else(none)))else(none))else(if x3.length<140737488355328 then(jK.l0 k x0 (x3++[bt x0 x16]) x15 (wrap64 (x16+1)))else(none))))else(none))else(none))else(if x3.length<140737488355328 then(some (strOfNums (x3++[34])))else(none))
def jK.f(k:Nat)(a0:ByteArray):Option (ByteArray):=(bC.f k a0).bind fun aB_=>(if aB_=true then((sF.f k a0).bind fun aCa=>(if aCa=true then(some a0)else(jK.l0 k a0 (([34]:List Int)) (a0.size:Int) 0)))else(some (⟨#[]⟩:ByteArray)))
theorem jK.calls{k:Nat}{a0 r:ByteArray}{w:World}(h:jK.f k a0=some r):
  Calls Tryz.prog 137 #[.string a0] w fun e w'=>e= .returned (.string r)∧Below w.heap.size w w':=by
 have HB:=ak (Below.refl w.heap.size w);unfold jK.f at h;have H:=h;clear h;replace H:=bd H;obtain⟨aB_,A2,H⟩:=H;replace H:=sb H;rcases H with⟨rfl,H⟩|⟨rfl,H⟩
 ·replace H:=bd H;obtain⟨aCa,A4,H⟩:=H;replace H:=sb H;rcases H with⟨rfl,H⟩|⟨rfl,H⟩
  ·obtain rfl:=s1 H;go_enter func137,ntmps137;go_wp2_with (first|(refine gA func52 (bC.calls A2.out) ?_;intro nd)|(refine gA func154 (sF.calls A4.out) ?_;intro nd))
   go_ret;exact⟨er,ul HB.out⟩
  ·obtain⟨aTW,as9⟩:=nm ([34]:List Int);rw[←as9.out]at H;have H':=ak H;clear H;go_enter func137,ntmps137;go_wp2_with (first|(refine gA func52 (bC.calls A2.out) ?_;intro nd)|(refine gA func154 (sF.calls A4.out) ?_;intro nd)|(refine Xx 13 (Kd.int .u8) 5 [.int .u8 34] as9 (dG.one (show Kd.M (Kd.int .u8) _ _ _ 34 [.int .u8 34]from rfl) (dG.none _ _)) ?_;intro aTX w6 ho7 hb;have aCb:=ak (au ho7 (aj (ul HB.out)));replace HB:=bs HB hb;clear hb ho7))
   go_loopg [3,16] k (fun kq v3 v16 w'=>∃(fA:List Int) (Di:Int),v16= .int .i64 Di∧ah (jK.l0 kq a0 fA (a0.size:Int) Di=some r)∧ah (kq≤k)∧ah (Kd.R (Kd.int .u8) 5 w' w.heap.size (fun _=>True) v3 fA)∧ah (Below w.heap.size w w'))
   case atStart=>exact⟨_,_,rs,H',⟨Nat.le_refl _⟩,⟨ur aCb.out⟩,⟨ul HB.out⟩⟩
   case round=>
    clear H';obtain⟨fA,Di,rfl,HA,y5,pX,HB⟩:=hrel
    cases gk with
    |zero=>exact zz HA.out
    |succ k1=>
     obtain⟨H⟩:=HA;simp only[jK.l0]at H;replace H:=sd H;rcases H with⟨rP,H⟩|⟨rP,H⟩
     ·replace H:=nO H;obtain⟨xZ,H⟩:=H;replace H:=nO H;obtain⟨qg,H⟩:=H;replace H:=sq H;rcases H with⟨vJ,EU,H⟩|⟨c12,vJ,EU,H⟩
      ·replace H:=nl H;obtain⟨aCc,H⟩:=H;replace H:=ny H;obtain⟨aqF,aCd,H⟩:=H;replace H:=nl H;obtain⟨aCe,H⟩:=H;obtain⟨aTY,ata⟩:=nm (aqF++[bt a0 Di]);rw[←ata.out]at H;have H':=ak H;clear H;obtain⟨p11,q11,ac2⟩:=bx a0 Di;go_wp2_with (first|(at_builtin;refine aP 29 30 (Kd.int .u8) 22 5 (.int .u8 0) 1 underlying22 info5 HB (ur pX.out) aCd (by have:=aCc.out;omega) ?_;intro aTZ w16 ho hb hg hat;have atb:=ak (ho);replace HB:=ak (hb);clear ho hb hg hat pX;have p14:0≤(Di:Int):=of_decide_eq_true (by assumption);have q14:Di<(a0.size:Int):=of_decide_eq_true (by assumption);have awW:=wY a0 Di;replace p14:=eq_true p14;replace q14:=eq_true q14)|(at_builtin;refine aP 32 36 (Kd.int .u8) 22 5 (.int .u8 0) 1 underlying22 info5 HB (ur atb.out) ata (by have:=aCe.out;omega) ?_;intro aT0 w17 ho hb hg hat;have aCf:=ak (ho);replace HB:=ak (hb);clear ho hb hg hat atb))
       go_roundg k1
       case measure=>exact kl
       case rel=>exact⟨_,_,rs,H',⟨kl⟩,⟨ur aCf.out⟩,⟨ul HB.out⟩⟩
      ·replace H:=sq H;rcases H with⟨ET,Jp,H⟩|⟨c19,ET,Jp,H⟩
       ·replace H:=nl H;obtain⟨alq,H⟩:=H;replace H:=ny H;obtain⟨aqG,aCg,H⟩:=H;replace H:=nl H;obtain⟨alr,H⟩:=H;obtain⟨aT1,atc⟩:=nm (aqG++[bt a0 Di]);rw[←atc.out]at H;have H':=ak H;clear H;obtain⟨p11,q11,ac2⟩:=bx a0 Di;obtain⟨p18,q18,aBQ⟩:=bx a0 Di;go_wp2_with (first|(at_builtin;refine aP 29 30 (Kd.int .u8) 22 5 (.int .u8 0) 1 underlying22 info5 HB (ur pX.out) aCg (by have:=alq.out;omega) ?_;intro aT2 w23 ho hb hg hat;have atd:=ak (ho);replace HB:=ak (hb);clear ho hb hg hat pX;have p21:0≤(Di:Int):=of_decide_eq_true (by assumption);have q21:Di<(a0.size:Int):=of_decide_eq_true (by assumption);have aT3:=wY a0 Di;replace p21:=eq_true p21;replace q21:=eq_true q21)|(at_builtin;refine aP 32 36 (Kd.int .u8) 22 5 (.int .u8 0) 1 underlying22 info5 HB (ur atd.out) atc (by have:=alr.out;omega) ?_;intro aT4 w24 ho hb hg hat;have aCh:=ak (ho);replace HB:=ak (hb);clear ho hb hg hat atd))
        go_roundg k1
        case measure=>exact kl
        case rel=>exact⟨_,_,rs,H',⟨kl⟩,⟨ur aCh.out⟩,⟨ul HB.out⟩⟩
       ·replace H:=nl H;obtain⟨aCi,H⟩:=H;obtain⟨aT5,ate⟩:=nm (fA++[bt a0 Di]);rw[←ate.out]at H;have H':=ak H;clear H;obtain⟨p11,q11,ac2⟩:=bx a0 Di;obtain⟨p18,q18,aBQ⟩:=bx a0 Di;obtain⟨p25,q25,hx25⟩:=bx a0 Di;go_wp2_with (at_builtin;refine aP 32 36 (Kd.int .u8) 22 5 (.int .u8 0) 1 underlying22 info5 HB (ur pX.out) ate (by have:=aCi.out;omega) ?_;intro aT6 w27 ho hb hg hat;have aCj:=ak (ho);replace HB:=ak (hb);clear ho hb hg hat pX)
        go_roundg k1
        case measure=>exact kl
        case rel=>exact⟨_,_,rs,H',⟨kl⟩,⟨ur aCj.out⟩,⟨ul HB.out⟩⟩
     ·replace H:=nl H;obtain⟨aCk,H⟩:=H;obtain⟨aT7,atf⟩:=nm (fA++[34]);rw[←atf.out]at H;obtain rfl:=s1 H;go_wp2_with (at_builtin;refine aP 39 40 (Kd.int .u8) 22 5 (.int .u8 0) 1 underlying22 info5 HB (ur pX.out) atf (by have:=aCk.out;omega) ?_;intro aT8 w29 ho hb hg hat;have aCl:=ak (ho);replace HB:=ak (hb);clear ho hb hg hat pX;have aOZ:=uO (P:=Tryz.prog) underlying22 underlying5 underlying9 (wI aCl.out))
      go_ret;exact⟨er,ul HB.out⟩
 ·obtain rfl:=s1 H;go_enter func137,ntmps137;go_wp2_with (refine gA func52 (bC.calls A2.out) ?_;intro nd)
  go_ret;exact⟨er,ul HB.out⟩
def lI.l0:Nat→ByteArray→List (eG)→Int→Int→Option (ByteArray)
 |0,_,_,_,_=>none
 |k+1,x3,Ho,x14,x15=>if x15<x14 then(if 0≤x15 then(if x15<(Ho.length:Int)then(if 2+((eY Ho x15).f0).size≤9223372036854775807 then(if((⟨#[59,32]⟩:ByteArray)++((eY Ho x15).f0)).size+1≤9223372036854775807 then((jK.f k ((eY Ho x15).f1)).bind fun ZK=>(if(((⟨#[59,32]⟩:ByteArray)++((eY Ho x15).f0))++(⟨#[61]⟩:ByteArray)).size+ZK.size≤9223372036854775807 then(if x3.size+((((⟨#[59,32]⟩:ByteArray)++((eY Ho x15).f0))++(⟨#[61]⟩:ByteArray))++ZK).size≤9223372036854775807 then(lI.l0 k (x3++((((⟨#[59,32]⟩:ByteArray)++((eY Ho x15).f0))++(⟨#[61]⟩:ByteArray))++ZK)) Ho x14 (wrap64 (x15+1)))else(none))else(none)))else(none))else(none))else(none))else(none))else(some x3)
def lI.f(k:Nat)(fF:ByteArray)(fK:ByteArray)(aJ:List (eG)):Option (ByteArray):=if fF.size+1≤9223372036854775807 then(if(fF++(⟨#[47]⟩:ByteArray)).size+fK.size≤9223372036854775807 then(lI.l0 k ((fF++(⟨#[47]⟩:ByteArray))++fK) aJ (aJ.length:Int) 0)else(none))else(none)
theorem lI.calls{k fU:Nat}{fF fK r:ByteArray}{iR:Option Addr}{aJ:List (eG)}{w:World}(kZ:Kd.C o9 w iR aJ.length aJ)(lg:aJ.length≤fU)(h:lI.f k fF fK aJ=some r):
  Calls Tryz.prog 120 #[.agg #[.string fF, .string fK, .slice iR aJ.length fU]] w fun e w'=>e= .returned (.string r)∧Below w.heap.size w w':=by
 have adh:=underlying76;have F7:=underlying43;have kK:=ak kZ;have oh:=ak lg;clear kZ lg;have HB:=ak (Below.refl w.heap.size w);unfold lI.f at h;have H:=h;clear h;replace H:=nn H;obtain⟨c2,H⟩:=H;have sO:=eq_true c2;have BK:=decide_eq_true c2;try have ak_:(9223372036854775807<fF.size+1)=False:=eq_false (Nat.not_lt.2 c2)
 replace H:=nn H;obtain⟨c3,H⟩:=H;have iY:=eq_true c3;have zN:=decide_eq_true c3;try have aT9:(9223372036854775807<fF.size+1+fK.size)=False:=by have h_:=(eq_false (Nat.not_lt.2 c3):(9223372036854775807<(fF++(⟨#[47]⟩:ByteArray)).size+fK.size)=False);simp only[ByteArray.size_append]at h_;exact h_
 try have VZ:(9223372036854775807<(fF++(⟨#[47]⟩:ByteArray)).size+fK.size)=False:=eq_false (Nat.not_lt.2 c3)
 have H':=ak H;clear H;go_enter func120,ntmps120;go_wp2_with (refine bX HB 1 #[.string fF, .string fK, .slice iR aJ.length fU] 76 ?_;intro aCm w4 H_ aO0 hb;replace HB:=bs HB hb;clear hb;have z5:=iZ H_.out)
 go_loopg [3,15] k (fun kq v3 v15 w'=>∃(fA:ByteArray) (qL:Int),v3= .string fA∧v15= .int .i64 qL∧ah (lI.l0 kq fA aJ (aJ.length:Int) qL=some r)∧ah (kq≤k)∧ah (w'.heap[aCm]? =some (.cells #[.string fF, .string fK,(.slice iR aJ.length fU)] 76 (0,0)))∧ah (Below w.heap.size w w'))
 case atStart=>exact⟨_,_,rs,rs,H',⟨Nat.le_refl _⟩,⟨ub H_.out⟩,⟨bb⟩⟩
 case round=>
  clear H';try clear c2
  try clear sO
  try clear BK
  try clear ak_
  try clear c3
  try clear iY
  try clear zN
  try clear VZ
  obtain⟨fA,qL,rfl,rfl,HA,y5,H_,HB⟩:=hrel
  cases gk with
  |zero=>exact zz HA.out
  |succ k1=>
   obtain⟨H⟩:=HA;simp only[lI.l0]at H;replace H:=sd H;rcases H with⟨nD,H⟩|⟨nD,H⟩
   ·replace H:=nO H;obtain⟨sQ,H⟩:=H;replace H:=nO H;obtain⟨rP,H⟩:=H;replace H:=nn H;obtain⟨c9,H⟩:=H;have xZ:=eq_true c9;have D_:=decide_eq_true c9;try have aBz:(9223372036854775807<2+((eY aJ qL).f0).size)=False:=eq_false (Nat.not_lt.2 c9)
    replace H:=nn H;obtain⟨c10,H⟩:=H;have qg:=eq_true c10;have uN:=decide_eq_true c10;try have atg:(9223372036854775807<2+((eY aJ qL).f0).size+1)=False:=by have h_:=(eq_false (Nat.not_lt.2 c10):(9223372036854775807<((⟨#[59,32]⟩:ByteArray)++((eY aJ qL).f0)).size+1)=False);simp only[ByteArray.size_append]at h_;exact h_
    try have adi:(9223372036854775807<((⟨#[59,32]⟩:ByteArray)++((eY aJ qL).f0)).size+1)=False:=eq_false (Nat.not_lt.2 c10)
    replace H:=bd H;obtain⟨ZK,A11,H⟩:=H;replace H:=nn H;obtain⟨c12,H⟩:=H;have vJ:=eq_true c12;have EU:=decide_eq_true c12;try have aO1:(9223372036854775807<2+((eY aJ qL).f0).size+1+ZK.size)=False:=by have h_:=(eq_false (Nat.not_lt.2 c12):(9223372036854775807<(((⟨#[59,32]⟩:ByteArray)++((eY aJ qL).f0))++(⟨#[61]⟩:ByteArray)).size+ZK.size)=False);simp only[ByteArray.size_append]at h_;exact h_
    try have aCn:(9223372036854775807<(((⟨#[59,32]⟩:ByteArray)++((eY aJ qL).f0))++(⟨#[61]⟩:ByteArray)).size+ZK.size)=False:=eq_false (Nat.not_lt.2 c12)
    replace H:=nn H;obtain⟨c13,H⟩:=H;have xY:=eq_true c13;have Dh:=decide_eq_true c13;try have aA3:(9223372036854775807<fA.size+(2+((eY aJ qL).f0).size+1+ZK.size))=False:=by have h_:=(eq_false (Nat.not_lt.2 c13):(9223372036854775807<fA.size+((((⟨#[59,32]⟩:ByteArray)++((eY aJ qL).f0))++(⟨#[61]⟩:ByteArray))++ZK).size)=False);simp only[ByteArray.size_append]at h_;exact h_
    try have ahb:(9223372036854775807<fA.size+((((⟨#[59,32]⟩:ByteArray)++((eY aJ qL).f0))++(⟨#[61]⟩:ByteArray))++ZK).size)=False:=eq_false (Nat.not_lt.2 c13)
    have H':=ak H;clear H;have awX:=zi qL;have awY:=zj qL aJ.length;obtain⟨aO2,aK2,ahx,ahy⟩:=r_ kK.out qL awX awY;cases aK2;replace ahx:=cl HB.out ahx;replace ahy:=cl HB.out ahy;replace awX:=eq_true awX;replace awY:=eq_true awY;try go_wp2_with (refine bY HB 5 #[.string (⟨#[]⟩:ByteArray), .string (⟨#[]⟩:ByteArray)] 43 ?_;intro ath Xg Vw aCo hg hb;have aal:=yQ H_ hg;have ajs:=yR H_ hg;replace H_:=kb H_ hb;replace HB:=bz HB hb;clear hb hg;have aO3:=ajs.out;have aO4:=aal.out;have z16:=BM Vw.out)
    refine ab2 HB Vw aCo ?_;intro w17 als hk HB;replace H_:=kf H_ hk aal;clear hk Vw;have Vw:=als;clear als;refine rO [7] [0,1,5,2,3,4,6,7,8,9,10] (fun w'=>w'.cell? ⟨ath,0,none⟩=some (.string ((eY aJ qL).f0))∧w'.cell? ⟨ath,1,none⟩=some (.string ((eY aJ qL).f1))) ?_;intro w18 hb;replace H_:=kb H_ hb;replace Vw:=kb Vw hb;replace HB:=bs HB hb;refine⟨sx,?_⟩;repeat refine Dc ?_
    refine rB func137 (jK.calls A11.out) ?_;intro w19 hb;replace H_:=kb H_ hb;replace Vw:=kb Vw hb;replace HB:=bz HB hb;clear hb;refine⟨sx,?_⟩;repeat refine Dc ?_
    refine on ?_;try go_wp2
    go_roundg k1
    case measure=>exact kl
    case rel=>exact⟨_,_,rs,rs,H',⟨kl⟩,⟨ub H_.out⟩,⟨bb⟩⟩
   ·obtain rfl:=s1 H;go_wp2;go_ret;exact⟨er,bb⟩
mutual
def eF.j0:Nat→Bool→ByteArray→ByteArray→List (eG)→Option (Bool)
 |0,_,_,_,_=>none
 |k+1,x20,WJ,WL,Ia=>if x20=true then(some false)else(eF.l0 k Ia (Ia.length:Int) 0 WJ WL Ia)
def eF.l0:Nat→List (eG)→Int→Int→ByteArray→ByteArray→List (eG)→Option (Bool)
 |0,_,_,_,_,_,_=>none
 |k+1,x22,x23,x24,WJ,WL,Ia=>if x24<x23 then(if 0≤x24 then(if x24<(x22.length:Int)then((iH.f k ((eY x22 x24).f0)).bind fun aCp=>(if aCp=true then((bC.f k ((eY x22 x24).f1)).bind fun aCq=>(if aCq=true then(if(((eY x22 x24).f1).size:Int)>40 then(some false)else(if x24≤(Ia.length:Int)then((mW.f k (Ia.take (x24:Int).toNat) ((eY x22 x24).f0)).bind fun aqH=>(if aqH≥0 then(some false)else(eF.l0 k x22 x23 (wrap64 (x24+1)) WJ WL Ia)))else(none)))else(some false)))else(some false)))else(none))else(none))else((lI.f k WJ WL Ia).bind fun aCr=>(some (decide ((aCr.size:Int)≤150))))
end
def eF.f(k:Nat)(fF:ByteArray)(fK:ByteArray)(aJ:List (eG)):Option (Bool):=(iH.f k fF).bind fun aCs=>(if aCs=true then((iH.f k fK).bind fun aCt=>(if aCt=true then(eF.j0 k (decide ((aJ.length:Int)>4)) fF fK aJ)else(eF.j0 k true fF fK aJ)))else(eF.j0 k true fF fK aJ))
theorem eF.calls{k fU:Nat}{fF fK:ByteArray}{iR:Option Addr}{aJ:List (eG)}{r:Bool}{w:World}(kZ:Kd.C o9 w iR aJ.length aJ)(lg:aJ.length≤fU)(h:eF.f k fF fK aJ=some r):
  Calls Tryz.prog 80 #[.agg #[.string fF, .string fK, .slice iR aJ.length fU]] w fun e w'=>e= .returned (.bool r)∧Below w.heap.size w w':=by
 have adh:=underlying76;have F7:=underlying43;have kK:=ak kZ;have oh:=ak lg;clear kZ lg;have HB:=ak (Below.refl w.heap.size w);unfold eF.f at h;have H:=h;clear h;have HC2:=ak H;clear H;go_enter func80,ntmps80;go_upto_region 1 with(refine gG 1 ?_;refine bX HB 1 #[.string fF, .string fK, .slice iR aJ.length fU] 76 ?_;intro Vx w3 jd aO5 hb;replace HB:=bs HB hb;clear hb)
 (try simp only[Act.put,yX,yY,l_c]);go_cut [20] (fun v20 wc=>∃(kq:Nat) (alu:Bool),v20= .bool alu∧ah (eF.j0 kq alu fF fK aJ=some r)∧ah (kq≤k)∧ah (wc.heap[Vx]? =some (.cells #[.string fF, .string fK,(.slice iR aJ.length fU)] 76 (0,0)))∧ah (Below w.heap.size w wc))
 case first=>
  have H:=HC2.out;clear HC2;replace H:=bd H;obtain⟨aCs,A4,H⟩:=H;replace H:=sb H;rcases H with⟨rfl,H⟩|⟨rfl,H⟩
  ·replace H:=bd H;obtain⟨aCt,A6,H⟩:=H;replace H:=sb H;rcases H with⟨rfl,H⟩|⟨rfl,H⟩
   ·have H':=ak H;clear H;have z8:=iZ jd.out;go_wp2_with (first|(refine gB func119 (iH.calls A4.out) ?_;intro w9 hb;replace jd:=kb jd hb;replace HB:=bz HB hb;clear hb;have z10:=iZ jd.out)|(go_at_call 119;refine mB (iH.calls A6.out) ?_;intro ZH hb;replace jd:=kb jd hb;replace HB:=bz HB hb;clear hb;have z12:=iZ jd.out))
    go_meet
    case rel=>exact⟨_,_,rs,H',⟨PV⟩,⟨ub jd.out⟩,⟨bb⟩⟩
   ·have H':=ak H;clear H;have z13:=iZ jd.out;go_wp2_with (first|(refine gB func119 (iH.calls A4.out) ?_;intro Xg hb;replace jd:=kb jd hb;replace HB:=bz HB hb;clear hb;have z15:=iZ jd.out)|(go_at_call 119;refine mB (iH.calls A6.out) ?_;intro w16 hb;replace jd:=kb jd hb;replace HB:=bz HB hb;clear hb))
    go_meet
    case rel=>exact⟨_,_,rs,H',⟨PV⟩,⟨ub jd.out⟩,⟨bb⟩⟩
  ·have H':=ak H;clear H;have z17:=iZ jd.out;go_wp2_with (refine gB func119 (iH.calls A4.out) ?_;intro w18 hb;replace jd:=kb jd hb;replace HB:=bz HB hb;clear hb)
   go_meet
   case rel=>exact⟨_,_,rs,H',⟨PV⟩,⟨ub jd.out⟩,⟨bb⟩⟩
 case rest=>
  clear HC2;obtain⟨kq,alu,rfl,HA,HJ1,jd,HB⟩:=hcut
  cases kq with
  |zero=>exact zz HA.out
  |succ VU=>
   obtain⟨H⟩:=HA;simp only[eF.j0]at H;replace H:=sb H;rcases H with⟨rfl,H⟩|⟨rfl,H⟩
   ·obtain rfl:=s1 H;go_wp2;go_ret;exact⟨er,bb⟩
   ·have H':=ak H;clear H;have z20:=iZ jd.out;go_wp2;go_loopg [24] VU (fun kq v24 w'=>∃(ou:Int),v24= .int .i64 ou∧ah (eF.l0 kq aJ (aJ.length:Int) ou fF fK aJ=some r)∧ah (kq≤VU)∧ah (w'.heap[Vx]? =some (.cells #[.string fF, .string fK,(.slice iR aJ.length fU)] 76 (0,0)))∧ah (Below w.heap.size w w'))
    case atStart=>exact⟨_,rs,H',⟨Nat.le_refl _⟩,⟨ub jd.out⟩,⟨bb⟩⟩
    case round=>
     clear H';obtain⟨ou,rfl,HA,HK2,jd,HB⟩:=hrel
     cases gk with
     |zero=>exact zz HA.out
     |succ k2=>
      obtain⟨H⟩:=HA;simp only[eF.l0]at H;replace H:=sd H;rcases H with⟨EW,H⟩|⟨EW,H⟩
      ·replace H:=nO H;obtain⟨H9,H⟩:=H;replace H:=nO H;obtain⟨EP,H⟩:=H;replace H:=bd H;obtain⟨aCp,A24,H⟩:=H;replace H:=sb H;rcases H with⟨rfl,H⟩|⟨rfl,H⟩
       ·replace H:=bd H;obtain⟨aCq,A26,H⟩:=H;replace H:=sb H;rcases H with⟨rfl,H⟩|⟨rfl,H⟩
        ·replace H:=sp H;rcases H with⟨c28,H⟩|⟨c28,H⟩
         ·have LZ:decide (40<(((eY aJ ou).f1).size:Int))=true:=decide_eq_true c28;have ahv:decide (40<((eY aJ ou).f1).size)=true:=decide_eq_true (by omega);clear c28;obtain rfl:=s1 H;have JO:=zi ou;have JQ:=zj ou aJ.length;obtain⟨O9,abk,yS,yT⟩:=r_ kK.out ou JO JQ;cases abk;replace yS:=cl HB.out yS;replace yT:=cl HB.out yT;replace JO:=eq_true JO;replace JQ:=eq_true JQ;try go_wp2_with (refine gG 4 ?_;refine bY HB 4 #[.string (⟨#[]⟩:ByteArray), .string (⟨#[]⟩:ByteArray)] 43 ?_;intro Ib w29 nM Q7 hg hb;have sU:=yQ jd hg;have zO:=yR jd hg;replace jd:=kb jd hb;replace HB:=bz HB hb;clear hb hg;have aO6:=zO.out;have aO7:=sU.out;have z31:=BM nM.out)
          refine ab2 HB nM Q7 ?_;intro w32 B_ hk HB;replace jd:=kf jd hk sU;clear hk nM;have nM:=B_;clear B_;refine rO [2,7] [0,1,2,3,4,5,6,7,8,9,10,11,12,13,14,15,16,17,18,19,20,21,22,23,24,25] (fun w'=>w'.cell? ⟨Ib,0,none⟩=some (.string ((eY aJ ou).f0))∧w'.cell? ⟨Ib,1,none⟩=some (.string ((eY aJ ou).f1))) ?_;intro w33 hb;replace jd:=kb jd hb;replace nM:=kb nM hb;replace HB:=bs HB hb;refine⟨sx,?_⟩;repeat(first|refine Dc ?_|refine lg_ ?_)
          refine rB func119 (iH.calls A24.out) ?_;intro w34 hb;replace jd:=kb jd hb;replace nM:=kb nM hb;replace HB:=bz HB hb;clear hb;refine⟨sx,?_⟩;repeat(first|refine Dc ?_|refine lg_ ?_)
          refine rA func52 (bC.calls A26.out) ?_;intro nd;refine⟨sx,?_⟩;repeat(first|refine Dc ?_|refine lg_ ?_)
          refine on ?_;try go_wp2
          go_ret;exact⟨er,bb⟩
         ·have LZ:decide (40<(((eY aJ ou).f1).size:Int))=false:=decide_eq_false c28;have ahv:decide (40<((eY aJ ou).f1).size)=false:=decide_eq_false (by omega);clear c28;have aak:=eq_true (of_decide_eq_true (by assumption):0≤ou);replace H:=AL H;obtain⟨alf,aCu,H⟩:=H;obtain⟨aqI,adk⟩:=nm (aJ.take (ou:Int).toNat);rw[←adk.out]at H;replace H:=bd H;obtain⟨aqH,A37,H⟩:=H;replace H:=sp H;rcases H with⟨c38,H⟩|⟨c38,H⟩
          ·have adl:decide (0≤aqH)=true:=decide_eq_true c38;clear c38;obtain rfl:=s1 H;have JO:=zi ou;have JQ:=zj ou aJ.length;obtain⟨O9,abk,yS,yT⟩:=r_ kK.out ou JO JQ;cases abk;replace yS:=cl HB.out yS;replace yT:=cl HB.out yT;replace JO:=eq_true JO;replace JQ:=eq_true JQ;try go_wp2_with (refine gG 4 ?_;refine bY HB 4 #[.string (⟨#[]⟩:ByteArray), .string (⟨#[]⟩:ByteArray)] 43 ?_;intro Ib w39 nM Q7 hg hb;have sU:=yQ jd hg;have zO:=yR jd hg;replace jd:=kb jd hb;replace HB:=bz HB hb;clear hb hg;have asD:=zO.out;have asE:=sU.out;have awr:=BM nM.out)
           refine ab2 HB nM Q7 ?_;intro w42 B_ hk HB;replace jd:=kf jd hk sU;clear hk nM;have nM:=B_;clear B_;refine rO [2,7,23] [0,1,2,3,4,5,6,7,8,9,10,11,12,13,14,15,16,17,19,21,18,20,22,23,24,25] (fun w'=>w'.cell? ⟨Ib,0,none⟩=some (.string ((eY aJ ou).f0))∧w'.cell? ⟨Ib,1,none⟩=some (.string ((eY aJ ou).f1))∧w'.cell? ⟨Vx,0,none⟩=some (.string fF)∧w'.cell? ⟨Vx,1,none⟩=some (.string fK)∧w'.cell? ⟨Vx,2,none⟩=some (.slice (some O9) aJ.length fU)) ?_;intro w43 hb;replace jd:=kb jd hb;replace nM:=kb nM hb;replace HB:=bs HB hb;refine⟨sx,?_⟩;repeat refine Dc ?_
           refine rB func119 (iH.calls A24.out) ?_;intro w44 hb;replace jd:=kb jd hb;replace nM:=kb nM hb;replace HB:=bz HB hb;clear hb;refine⟨sx,?_⟩;repeat refine Dc ?_
           refine rA func52 (bC.calls A26.out) ?_;intro nd;have q45:(ou:Int)≤((aJ.length:Int):Int):=of_decide_eq_true (by assumption);obtain⟨aT_,ati,_,aCv,_⟩:=info_parts Dn;have ahz:aJ.length≤fU:=oh.out;have aCw:Kd.C o9 _ (some O9) aJ.length aJ:=kK.out;have awZ:=abl (P:=Tryz.prog) 23 43 .i64 underlying23 ati (some O9) aJ.length fU ou (of_decide_eq_true (by assumption)) q45 ahz;have aw0:=abm (m:=(ou:Int).toNat) aCw (by omega);have aw1:aqI.length=(ou:Int).toNat:=(by rw[adk.out,List.length_take];omega)
           rw[←adk.out]at aw0;rw[←aw1]at awZ;have alv:=ak aw0;have alx:=ak (show aqI.length≤fU from by omega);clear aw0 aCw ahz ati aCv;have aUa:=ak aw1;clear aw1;replace q45:=eq_true q45;refine⟨sx,?_⟩;repeat refine Dc ?_
           refine rB func76 (mW.calls (cu (aI alv.out bb)) alx.out A37.out) ?_;intro w46 hb;replace jd:=kb jd hb;replace nM:=kb nM hb;replace HB:=bz HB hb;clear hb;refine⟨sx,?_⟩;repeat refine Dc ?_
           refine on ?_;try go_wp2
           go_ret;exact⟨er,bb⟩
          ·have adl:decide (0≤aqH)=false:=decide_eq_false c38;clear c38;have H':=ak H;clear H;have JO:=zi ou;have JQ:=zj ou aJ.length;obtain⟨O9,abk,yS,yT⟩:=r_ kK.out ou JO JQ;cases abk;replace yS:=cl HB.out yS;replace yT:=cl HB.out yT;replace JO:=eq_true JO;replace JQ:=eq_true JQ;try go_wp2_with (refine gG 4 ?_;refine bY HB 4 #[.string (⟨#[]⟩:ByteArray), .string (⟨#[]⟩:ByteArray)] 43 ?_;intro Ib w47 nM Q7 hg hb;have sU:=yQ jd hg;have zO:=yR jd hg;replace jd:=kb jd hb;replace HB:=bz HB hb;clear hb hg;have atj:=zO.out;have atl:=sU.out;have z49:=BM nM.out)
           refine ab2 HB nM Q7 ?_;intro w50 B_ hk HB;replace jd:=kf jd hk sU;clear hk nM;have nM:=B_;clear B_;refine rO [2,7,23] [0,1,2,3,4,5,6,7,8,9,10,11,12,13,14,15,16,17,19,21,18,20,22,23,24,25] (fun w'=>w'.cell? ⟨Ib,0,none⟩=some (.string ((eY aJ ou).f0))∧w'.cell? ⟨Ib,1,none⟩=some (.string ((eY aJ ou).f1))∧w'.cell? ⟨Vx,0,none⟩=some (.string fF)∧w'.cell? ⟨Vx,1,none⟩=some (.string fK)∧w'.cell? ⟨Vx,2,none⟩=some (.slice (some O9) aJ.length fU)) ?_;intro w51 hb;replace jd:=kb jd hb;replace nM:=kb nM hb;replace HB:=bs HB hb;refine⟨sx,?_⟩;repeat refine Dc ?_
           refine rB func119 (iH.calls A24.out) ?_;intro w52 hb;replace jd:=kb jd hb;replace nM:=kb nM hb;replace HB:=bz HB hb;clear hb;refine⟨sx,?_⟩;repeat refine Dc ?_
           refine rA func52 (bC.calls A26.out) ?_;intro nd;have q53:(ou:Int)≤((aJ.length:Int):Int):=of_decide_eq_true (by assumption);obtain⟨aUb,atm,_,aCx,_⟩:=info_parts Dn;have ahA:aJ.length≤fU:=oh.out;have aCy:Kd.C o9 _ (some O9) aJ.length aJ:=kK.out;have aw2:=abl (P:=Tryz.prog) 23 43 .i64 underlying23 atm (some O9) aJ.length fU ou (of_decide_eq_true (by assumption)) q53 ahA;have aw3:=abm (m:=(ou:Int).toNat) aCy (by omega);have aw4:aqI.length=(ou:Int).toNat:=(by rw[adk.out,List.length_take];omega)
           rw[←adk.out]at aw3;rw[←aw4]at aw2;have alv:=ak aw3;have alx:=ak (show aqI.length≤fU from by omega);clear aw3 aCy ahA atm aCx;have aUc:=ak aw4;clear aw4;replace q53:=eq_true q53;refine⟨sx,?_⟩;repeat refine Dc ?_
           refine rB func76 (mW.calls (cu (aI alv.out bb)) alx.out A37.out) ?_;intro w54 hb;replace jd:=kb jd hb;replace nM:=kb nM hb;replace HB:=bz HB hb;clear hb;refine⟨sx,?_⟩;repeat refine Dc ?_
           refine on ?_;try go_wp2
           go_roundg k2
           case measure=>exact kl
           case rel=>exact⟨_,rs,H',⟨kl⟩,⟨ub jd.out⟩,⟨bb⟩⟩
        ·obtain rfl:=s1 H;have JO:=zi ou;have JQ:=zj ou aJ.length;obtain⟨O9,abk,yS,yT⟩:=r_ kK.out ou JO JQ;cases abk;replace yS:=cl HB.out yS;replace yT:=cl HB.out yT;replace JO:=eq_true JO;replace JQ:=eq_true JQ;try go_wp2_with (refine gG 4 ?_;refine bY HB 4 #[.string (⟨#[]⟩:ByteArray), .string (⟨#[]⟩:ByteArray)] 43 ?_;intro Ib w55 nM Q7 hg hb;have sU:=yQ jd hg;have zO:=yR jd hg;replace jd:=kb jd hb;replace HB:=bz HB hb;clear hb hg;have aCz:=zO.out;have aCA:=sU.out;have z57:=BM nM.out)
         refine ab2 HB nM Q7 ?_;intro w58 B_ hk HB;replace jd:=kf jd hk sU;clear hk nM;have nM:=B_;clear B_;refine rO [2,7] [0,1,2,3,4,5,6,7,8,9,10,11,12,13,14,15,16,17,18,19,20,21,22,23,24,25] (fun w'=>w'.cell? ⟨Ib,0,none⟩=some (.string ((eY aJ ou).f0))∧w'.cell? ⟨Ib,1,none⟩=some (.string ((eY aJ ou).f1))) ?_;intro w59 hb;replace jd:=kb jd hb;replace nM:=kb nM hb;replace HB:=bs HB hb;refine⟨sx,?_⟩;repeat(first|refine Dc ?_|refine lg_ ?_)
         refine rB func119 (iH.calls A24.out) ?_;intro ZB hb;replace jd:=kb jd hb;replace nM:=kb nM hb;replace HB:=bz HB hb;clear hb;refine⟨sx,?_⟩;repeat(first|refine Dc ?_|refine lg_ ?_)
         refine rA func52 (bC.calls A26.out) ?_;intro nd;refine⟨sx,?_⟩;repeat(first|refine Dc ?_|refine lg_ ?_)
         refine on ?_;try go_wp2
         go_ret;exact⟨er,bb⟩
       ·obtain rfl:=s1 H;have JO:=zi ou;have JQ:=zj ou aJ.length;obtain⟨O9,abk,yS,yT⟩:=r_ kK.out ou JO JQ;cases abk;replace yS:=cl HB.out yS;replace yT:=cl HB.out yT;replace JO:=eq_true JO;replace JQ:=eq_true JQ;try go_wp2_with (refine gG 4 ?_;refine bY HB 4 #[.string (⟨#[]⟩:ByteArray), .string (⟨#[]⟩:ByteArray)] 43 ?_;intro Ib w61 nM Q7 hg hb;have sU:=yQ jd hg;have zO:=yR jd hg;replace jd:=kb jd hb;replace HB:=bz HB hb;clear hb hg;have aCB:=zO.out;have aCC:=sU.out;have z63:=BM nM.out)
        refine ab2 HB nM Q7 ?_;intro w64 B_ hk HB;replace jd:=kf jd hk sU;clear hk nM;have nM:=B_;clear B_;refine rO [2] [0,1,2,3,4,5,6,7,8,9,10,11,12,13,14,15,16,17,18,19,20,21,22,23,24,25] (fun w'=>w'.cell? ⟨Ib,0,none⟩=some (.string ((eY aJ ou).f0))∧w'.cell? ⟨Ib,1,none⟩=some (.string ((eY aJ ou).f1))) ?_;intro w65 hb;replace jd:=kb jd hb;replace nM:=kb nM hb;replace HB:=bs HB hb;refine⟨sx,?_⟩;repeat(first|refine Dc ?_|refine lg_ ?_)
        refine rB func119 (iH.calls A24.out) ?_;intro w66 hb;replace jd:=kb jd hb;replace nM:=kb nM hb;replace HB:=bz HB hb;clear hb;refine⟨sx,?_⟩;repeat(first|refine Dc ?_|refine lg_ ?_)
        refine on ?_;try go_wp2
        go_ret;exact⟨er,bb⟩
      ·replace H:=bd H;obtain⟨aCr,A67,H⟩:=H;obtain rfl:=s1 H;have z68:=iZ jd.out;go_wp2_with (refine gB func120 (lI.calls (cu (aI kK.out HB.out)) oh.out A67.out) ?_;intro w69 hb;replace jd:=kb jd hb;replace HB:=bz HB hb;clear hb)
       go_ret;exact⟨er,bb⟩
end Go.Proofs.YtdkipechiaploaaGreatDoor.PFnPartText
