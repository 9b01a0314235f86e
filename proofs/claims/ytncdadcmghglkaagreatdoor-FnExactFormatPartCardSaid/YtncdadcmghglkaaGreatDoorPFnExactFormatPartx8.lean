/- Printed walks; conditions: those in each statement. -/
import Derived.Test.YtncdadcmghglkaaGreatDoorVFnExactFormatPartQt
import Derived.Test.YtncdadcmghglkaaGreatDoorVFnExactFormatPartYt
import Derived.Test.YtncdadcmghglkaaGreatDoorPFnExactFormatPartx0
import Derived.Test.YtncdadcmghglkaaGreatDoorPFnExactFormatPartx1
import Derived.Test.YtncdadcmghglkaaGreatDoorPFnExactFormatPartx3
import Derived.Test.YtncdadcmghglkaaGreatDoorPFnExactFormatPartx6
import Derived.Test.YtncdadcmghglkaaGreatDoorPFnExactFormatPartx7
import Derived.Test.YtncdadcmghglkaaGreatDoorPFnExactFormatPartx19
import Derived.Test.YtncdadcmghglkaaGreatDoorPFnExactFormatPartx20
namespace Go.Proofs.YtncdadcmghglkaaGreatDoor.PFnExactFormatPart
open Go.RowKit Go.Proofs.YtncdadcmghglkaaGreatDoor.X Go.Proofs.YtncdadcmghglkaaGreatDoorW.dB Go.Proofs.YtncdadcmghglkaaGreatDoorW.iy Go.Proofs.YtncdadcmghglkaaGreatDoorW.jo
attribute [local go_sem] lU lV oh oq kJ kK lW lX   -- for this text's walks alone
set_option linter.unusedVariables false
set_option linter.unusedSimpArgs false
def gy.j0:Nat→Bool→ByteArray→ByteArray→List (jl)→Option (ByteArray×Bool)
 |0,_,_,_,_=>none
 |k+1,VX,atw,atx,ail=>if VX=true then(some ((⟨#[]⟩:ByteArray),false))else((lg.f k ail (⟨#[98,111,117,110,100,97,114,121]⟩:ByteArray)).bind fun akq=>((jF.f k akq.1).bind fun ard=>(if ard=true then(some (akq.1,true))else(some ((⟨#[]⟩:ByteArray),false)))))
def gy.f(k:Nat)(aY:ByteArray)(bf:ByteArray)(aC:List (jl)):Option (ByteArray×Bool):=(bJ.f k aY bf aC).bind fun ain=>(if ain=true then(gy.j0 k (aY.toList !=([109,117,108,116,105,112,97,114,116]:List UInt8)) aY bf aC)else(gy.j0 k true aY bf aC))
set_option maxHeartbeats 8000000 in
set_option maxRecDepth 100000 in
theorem gy.calls(k:Nat)(aY:ByteArray)(bf:ByteArray)(fF:Option Addr)(dR:Nat)(aC:List (jl))(r1:ByteArray)(r2:Bool)(w:World)(jL:Kd.C pV w fF aC.length aC)(jM:aC.length≤dR)(h:gy.f k aY bf aC=some (r1,r2)):
  Calls Tryz.prog 49 #[.agg #[.string aY, .string bf, .slice fF aC.length dR]] w fun e w'=>e= .returned (.tuple #[.string r1, .bool r2])∧Below w.heap.size w w':=by
 have VH:=Tryz.underlying61;have jc:=ak jL;have kC:=ak jM;clear jL jM;have HB:=ak (Below.refl w.heap.size w);have H:((bJ.f k aY bf aC).bind fun ain=>(if ain=true then(gy.j0 k (aY.toList !=([109,117,108,116,105,112,97,114,116]:List UInt8)) aY bf aC)else(gy.j0 k true aY bf aC)))=some (r1,r2):=h;clear h;have HC2:=ak H;clear H;go_enter Tryz.func49,Tryz.ntmps49;go_upto_region 1 with(first|(refine bE 1 #[.string aY, .string bf, .slice fF aC.length dR] 61 ?_;intro arf hg w3 hbox hb;have yM:=ak (hbox);have ayg:=jY HB hg;have ayh:=jY HB hg;replace HB:=bs HB hb;clear hb hbox hg))
 (try simp only[Act.put,jI,jJ,l_c]);go_cut [13] (fun v13 wc=>∃(kq:Nat) (rF:Bool),v13= .bool rF∧ah (gy.j0 kq rF aY bf aC=some (r1,r2))∧ah (kq≤k)∧ah (wc.heap[arf]? =some (.cells #[.string aY, .string bf,(.slice fF aC.length dR)] 61 (0,0)))∧ah (Below w.heap.size w wc))
 case first=>
  have H:=HC2.out;clear HC2;replace H:=bd H;obtain⟨ain,A4,H⟩:=H;replace H:=sb H;rcases H with⟨rfl,H⟩|⟨rfl,H⟩
  ·have H':=ak H;clear H;obtain⟨yu,yw,Hq,yx,yA,Hr⟩:=jP yM.out;go_wp2_with (first|(refine gL 95 7 Tryz.func95 #[.agg #[.string aY, .string bf, .slice fF aC.length dR]] ?_;(with_reducible refine(bJ.calls k aY bf _ _ aC true _ (cu (Kd.aN jc.out HB.out)) kC.out A4.out).mono ?_);rintro e w7 ⟨rfl,hb⟩;refine⟨_,rfl,?_⟩;replace yM:=kb yM hb;replace HB:=ak (aG bb hb);(try clear hb);obtain⟨vG,zS,Du,vH,zT,Dv⟩:=jP yM.out))
   go_meet
   case rel=>exact⟨_,((aY.toList !=([109,117,108,116,105,112,97,114,116]:List UInt8))),rs,H',⟨Qw⟩,⟨ub yM.out⟩,⟨bb⟩⟩
  ·have H':=ak H;clear H;obtain⟨rY,rZ,Lr,r_,su,Ls⟩:=jP yM.out;go_wp2_with (first|(refine gL 95 7 Tryz.func95 #[.agg #[.string aY, .string bf, .slice fF aC.length dR]] ?_;(with_reducible refine(bJ.calls k aY bf _ _ aC false _ (cu (Kd.aN jc.out HB.out)) kC.out A4.out).mono ?_);rintro e w10 ⟨rfl,hb⟩;refine⟨_,rfl,?_⟩;replace yM:=kb yM hb;replace HB:=ak (aG bb hb);(try clear hb)))
   go_meet
   case rel=>exact⟨_,(true),rs,H',⟨Qw⟩,⟨ub yM.out⟩,⟨bb⟩⟩
 case rest=>
  clear HC2;try clear p2
  try clear c4
  try clear c5
  try clear c9
  try clear yu
  try clear yw
  try clear Hq
  try clear vG
  try clear zS
  try clear Du
  try clear rY
  try clear rZ
  try clear Lr
  try clear yx
  try clear yA
  try clear Hr
  try clear vH
  try clear zT
  try clear Dv
  try clear r_
  try clear su
  try clear Ls
  obtain⟨kq,rF,rfl,HA,AO,yM,HB⟩:=hcut
  cases kq with
  |zero=>exact absurd HA.out (by simp[gy.j0])
  |succ Gj=>
   have H:=HA.out;clear HA;simp only[gy.j0]at H;replace H:=sb H;rcases H with⟨rfl,H⟩|⟨rfl,H⟩
   ·simp only[Option.some.injEq,Prod.mk.injEq]at H;obtain⟨rfl,rfl⟩:=H;go_wp2;go_ret2;exact⟨er,bb⟩
   ·replace H:=bd H;obtain⟨⟨abZ,arh⟩,A12,H⟩:=H
    (try dsimp only at H);replace H:=bd H;obtain⟨ard,A13,H⟩:=H;replace H:=sb H;rcases H with⟨rfl,H⟩|⟨rfl,H⟩
    ·simp only[Option.some.injEq,Prod.mk.injEq]at H;obtain⟨rfl,rfl⟩:=H;obtain⟨lI,lJ,qM,lK,lM,qN⟩:=jP yM.out;go_wp2_with (first|(refine gL 47 17 Tryz.func47 #[.slice fF aC.length dR, .string (⟨#[98,111,117,110,100,97,114,121]⟩:ByteArray)] ?_;(with_reducible refine(lg.calls Gj _ _ aC (⟨#[98,111,117,110,100,97,114,121]⟩:ByteArray) abZ arh _ (cu (Kd.aN jc.out HB.out)) kC.out A12.out).mono ?_);rintro e w16 ⟨rfl,hb⟩;refine⟨_,rfl,?_⟩;replace yM:=kb yM hb;replace HB:=ak (aG bb hb);(try clear hb))|(refine gL 96 21 Tryz.func96 #[.string abZ] ?_;(with_reducible refine(jF.calls Gj abZ true _ A13.out).mono ?_);rintro e w' ⟨rfl,⟨nd,rfl⟩⟩;refine⟨_,rfl,?_⟩))
     go_ret2;exact⟨er,bb⟩
    ·simp only[Option.some.injEq,Prod.mk.injEq]at H;obtain⟨rfl,rfl⟩:=H;obtain⟨Dy,Dz,DC,DF,DI,DJ⟩:=jP yM.out;go_wp2_with (first|(refine gL 47 17 Tryz.func47 #[.slice fF aC.length dR, .string (⟨#[98,111,117,110,100,97,114,121]⟩:ByteArray)] ?_;(with_reducible refine(lg.calls Gj _ _ aC (⟨#[98,111,117,110,100,97,114,121]⟩:ByteArray) abZ arh _ (cu (Kd.aN jc.out HB.out)) kC.out A12.out).mono ?_);rintro e w18 ⟨rfl,hb⟩;refine⟨_,rfl,?_⟩;replace yM:=kb yM hb;replace HB:=ak (aG bb hb);(try clear hb))|(refine gL 96 21 Tryz.func96 #[.string abZ] ?_;(with_reducible refine(jF.calls Gj abZ false _ A13.out).mono ?_);rintro e w' ⟨rfl,⟨nd,rfl⟩⟩;refine⟨_,rfl,?_⟩))
     go_ret2;exact⟨er,bb⟩
def ku.f(k:Nat)(bM:List (jl))(cZ:List ByteArray)(aC:List (pq)):Option (ByteArray×Bool):=(lg.f k bM (⟨#[67,111,110,116,101,110,116,45,84,121,112,101]⟩:ByteArray)).bind fun ae2=>((bW.f k ae2.1).bind fun JY=>(if JY.2.2.2=true then((gy.f k JY.1 JY.2.1 JY.2.2.1).bind fun Wp=>(some (Wp.1,Wp.2)))else(some ((⟨#[]⟩:ByteArray),false))))
set_option maxHeartbeats 8000000 in
set_option maxRecDepth 100000 in
theorem ku.calls(k:Nat)(gW:Option Addr)(gX:Nat)(bM:List (jl))(iM:Option Addr)(iO:Nat)(cZ:List ByteArray)(fF:Option Addr)(dR:Nat)(aC:List (pq))(r1:ByteArray)(r2:Bool)(w:World)(mG:Kd.C pV w gW bM.length bM)(mJ:bM.length≤gX)(mM:Kd.C Kd.string w iM cZ.length cZ)(mO:cZ.length≤iO)(jL:Kd.C k28 w fF aC.length aC)(jM:aC.length≤dR)(rQ:MaxOk w)(h:ku.f k bM cZ aC=some (r1,r2)):
  Calls Tryz.prog 101 #[.agg #[.slice gW bM.length gX, .slice iM cZ.length iO, .slice fF aC.length dR]] w fun e w'=>e= .returned (.tuple #[.string r1, .bool r2])∧Below w.heap.size w w':=by
 have Na:=Tryz.underlying28;have VH:=Tryz.underlying61;have lY:=ak mG;have lZ:=ak mJ;clear mG mJ;have oQ:=ak mM;have qh:=ak mO;clear mM mO;have jc:=ak jL;have kC:=ak jM;clear jL jM;have HG:=ak rQ;clear rQ;have HB:=ak (Below.refl w.heap.size w);have H:((lg.f k bM (⟨#[67,111,110,116,101,110,116,45,84,121,112,101]⟩:ByteArray)).bind fun ae2=>((bW.f k ae2.1).bind fun JY=>(if JY.2.2.2=true then((gy.f k JY.1 JY.2.1 JY.2.2.1).bind fun Wp=>(some (Wp.1,Wp.2)))else(some ((⟨#[]⟩:ByteArray),false)))))=some (r1,r2):=h;clear h;replace H:=bd H;obtain⟨⟨ab1,ari⟩,A2,H⟩:=H
 (try dsimp only at H);replace H:=bd H;obtain⟨⟨UG,Wq,Ws,aAr⟩,A3,H⟩:=H
 (try dsimp only at H);replace H:=sb H;rcases H with⟨rfl,H⟩|⟨rfl,H⟩
 ·replace H:=bd H;obtain⟨⟨avK,avL⟩,A5,H⟩:=H
  (try dsimp only at H);simp only[Option.some.injEq,Prod.mk.injEq]at H;obtain⟨rfl,rfl⟩:=H;go_enter Tryz.func101,Tryz.ntmps101;go_wp2_with (first|(refine bE 1 #[.slice gW bM.length gX, .slice iM cZ.length iO, .slice fF aC.length dR] 28 ?_;intro RF hg w6 hbox hb;have uy:=ak (hbox);have arj:=jY HB hg;have ark:=jY HB hg;replace HB:=bs HB hb;clear hb hbox hg;obtain⟨DT,Fv,Hz,DW,Fz,HY⟩:=jP uy.out)|(refine gL 47 11 Tryz.func47 #[.slice gW bM.length gX, .string (⟨#[67,111,110,116,101,110,116,45,84,121,112,101]⟩:ByteArray)] ?_;(with_reducible refine(lg.calls k _ _ bM (⟨#[67,111,110,116,101,110,116,45,84,121,112,101]⟩:ByteArray) ab1 ari _ (cu (Kd.aN lY.out HB.out)) lZ.out A2.out).mono ?_);rintro e w8 ⟨rfl,hb⟩;refine⟨_,rfl,?_⟩;replace uy:=kb uy hb;replace HB:=ak (aG bb hb);(try clear hb))|(refine gL 48 16 Tryz.func48 #[.string ab1] ?_;(with_reducible refine(bW.calls k ab1 UG Wq Ws true _ ?kX A3.out).mono ?_);(case kX=>first|exact HG.out|exact MaxOk.below HG.out bb|(repeat(first|exact HG.out|apply MaxOk.drewN|apply MaxOk.drew)));rintro e w9 ⟨avM,rfl,ho0,hb⟩;refine⟨_,rfl,?_⟩;have FH:=ak (Kd.fA ho0 (aA bb));replace uy:=kb uy hb;replace HB:=ak (aG bb hb);(try clear hb);(try clear ho0))|(refine bE 6 #[.string (⟨#[]⟩:ByteArray), .string (⟨#[]⟩:ByteArray), .slice none 0 0] 61 ?_;intro yN hg w10 hbox hb;have PV:=ak (hbox);have arl:=ak ((by rw[hg];exact(aA bb):w.heap.size≤yN));have arn:=ak ((by rw[hg];exact(aA bb):w.heap.size≤yN));have zK:=ak ((by rw[hg];exact Nat.ne_of_lt (fC (ub uy.out)):RF≠yN));have LH:=ak ((by rw[hg];exact Nat.ne_of_gt (fC (ub uy.out)):yN≠RF));replace FH:=rb FH hb;replace uy:=kb uy hb;replace HB:=ak (aG bb hb);clear hb hbox hg;have aqe:=LH.out;have aqf:=zK.out;obtain⟨vM,Bh,Bj,vN,Bl,Bo⟩:=jP PV.out;obtain⟨XA,Gx,ac5⟩:=Kd.eU FH.out;subst ac5)|(refine gL 49 22 Tryz.func49 #[.agg #[.string UG, .string Wq, .slice XA Ws.length Gx]] ?_;(with_reducible refine(gy.calls k UG Wq _ _ Ws avK avL _ ?kX ?nG A5.out).mono ?_);(case kX=>refine(Kd.dK (e:=69) (base:=w.heap.size) (ok:=fun k_=>True) (n:=Ws.length) (c:=Gx) ?_).2.2;exact(ur (Kd.dM (Kd.gZ (p:=⟨yN,2,none⟩) (Kd.gZ (p:=⟨yN,1,none⟩) (Kd.gZ (p:=⟨yN,0,none⟩) (Kd.jr FH.out PV.out (by decide)) (fun _ hk=>hk.2) (.string UG)) (fun _ hk=>hk.2) (.string Wq)) (fun _ hk=>hk.2) (.slice XA Ws.length Gx)) (fun _ h_=>h_.1))));(case nG=>exact(Kd.dK FH.out).2.1);rintro e Q9 ⟨rfl,hb⟩;refine⟨_,rfl,?_⟩;replace FH:=ak (Kd.mV (ur (Kd.dM (Kd.gZ (p:=⟨yN,2,none⟩) (Kd.gZ (p:=⟨yN,1,none⟩) (Kd.gZ (p:=⟨yN,0,none⟩) (Kd.jr FH.out PV.out (by decide)) (fun _ hk=>hk.2) (.string UG)) (fun _ hk=>hk.2) (.string Wq)) (fun _ hk=>hk.2) (.slice XA Ws.length Gx)) (fun _ h_=>h_.1))) hb);replace uy:=ak (iD (g:=RF) (o:= .cells #[.slice gW bM.length gX, .slice iM cZ.length iO, .slice fF aC.length dR] 28 (0,0)) (by(with_reducible repeat(first|refine au ?_ _|refine ay ?_|refine aj ?_ _));refine f_ ?_ zK.out _;(with_reducible repeat(first|refine au ?_ _|refine ay ?_|refine aj ?_ _));refine f_ ?_ zK.out _;(with_reducible repeat(first|refine au ?_ _|refine ay ?_|refine aj ?_ _));refine f_ ?_ zK.out _;(with_reducible repeat(first|refine au ?_ _|refine ay ?_|refine aj ?_ _));exact uy.out) hb);replace PV:=ak (iD (g:=yN) (o:= .cells #[.string UG, .string Wq, .slice XA Ws.length Gx] 61 (0,0)) (by(with_reducible repeat(first|refine au ?_ _|refine ay ?_|refine aj ?_ _));refine bK (cs:=#[.string UG, .string Wq, .slice none 0 0]) ?_ 2 _ rfl;(with_reducible repeat(first|refine au ?_ _|refine ay ?_|refine aj ?_ _));refine bK (cs:=#[.string UG, .string (⟨#[]⟩:ByteArray), .slice none 0 0]) ?_ 1 _ rfl;(with_reducible repeat(first|refine au ?_ _|refine ay ?_|refine aj ?_ _));refine bK (cs:=#[.string (⟨#[]⟩:ByteArray), .string (⟨#[]⟩:ByteArray), .slice none 0 0]) ?_ 0 _ rfl;(with_reducible repeat(first|refine au ?_ _|refine ay ?_|refine aj ?_ _));exact PV.out) hb);replace HB:=ak (aG bb hb);(try clear hb)))
  go_ret2;exact⟨er,bb⟩
 ·simp only[Option.some.injEq,Prod.mk.injEq]at H;obtain⟨rfl,rfl⟩:=H;go_enter Tryz.func101,Tryz.ntmps101;go_wp2_with (first|(refine bE 1 #[.slice gW bM.length gX, .slice iM cZ.length iO, .slice fF aC.length dR] 28 ?_;intro RF hg w15 hbox hb;have uy:=ak (hbox);have arj:=jY HB hg;have ark:=jY HB hg;replace HB:=bs HB hb;clear hb hbox hg;obtain⟨N9,N_,TW,Oa,Ob,TY⟩:=jP uy.out)|(refine gL 47 11 Tryz.func47 #[.slice gW bM.length gX, .string (⟨#[67,111,110,116,101,110,116,45,84,121,112,101]⟩:ByteArray)] ?_;(with_reducible refine(lg.calls k _ _ bM (⟨#[67,111,110,116,101,110,116,45,84,121,112,101]⟩:ByteArray) ab1 ari _ (cu (Kd.aN lY.out HB.out)) lZ.out A2.out).mono ?_);rintro e w17 ⟨rfl,hb⟩;refine⟨_,rfl,?_⟩;replace uy:=kb uy hb;replace HB:=ak (aG bb hb);(try clear hb))|(refine gL 48 16 Tryz.func48 #[.string ab1] ?_;(with_reducible refine(bW.calls k ab1 UG Wq Ws false _ ?kX A3.out).mono ?_);(case kX=>first|exact HG.out|exact MaxOk.below HG.out bb|(repeat(first|exact HG.out|apply MaxOk.drewN|apply MaxOk.drew)));rintro e w18 ⟨avM,rfl,ho0,hb⟩;refine⟨_,rfl,?_⟩;have FH:=ak (Kd.fA ho0 (aA bb));replace uy:=kb uy hb;replace HB:=ak (aG bb hb);(try clear hb);(try clear ho0))|(refine bE 6 #[.string (⟨#[]⟩:ByteArray), .string (⟨#[]⟩:ByteArray), .slice none 0 0] 61 ?_;intro yN hg w19 hbox hb;have PV:=ak (hbox);have arl:=ak ((by rw[hg];exact(aA bb):w.heap.size≤yN));have arn:=ak ((by rw[hg];exact(aA bb):w.heap.size≤yN));have zK:=ak ((by rw[hg];exact Nat.ne_of_lt (fC (ub uy.out)):RF≠yN));have LH:=ak ((by rw[hg];exact Nat.ne_of_gt (fC (ub uy.out)):yN≠RF));replace FH:=rb FH hb;replace uy:=kb uy hb;replace HB:=ak (aG bb hb);clear hb hbox hg;have aqg:=LH.out;have aqh:=zK.out;obtain⟨AZ,A_,Ba,Bc,Bd,Bf⟩:=jP PV.out;obtain⟨aAs,aAt,avN⟩:=Kd.eU FH.out;subst avN))
  go_ret2;exact⟨er,bb⟩
def oV.f(k:Nat)(a0:ByteArray):Option (Bool):=(bg.f k a0).bind fun ae3=>(some (!ae3))
set_option maxHeartbeats 8000000 in
set_option maxRecDepth 100000 in
theorem oV.calls(k:Nat)(a0:ByteArray)(r:Bool)(w:World)(h:oV.f k a0=some r):
  Calls Tryz.prog 149 #[.string a0] w fun e w'=>e= .returned (.bool r)∧eH w w':=by
 have H:((bg.f k a0).bind fun ae3=>(some (!ae3)))=some r:=h;clear h;replace H:=bd H;obtain⟨ae3,A2,H⟩:=H;obtain rfl:=Option.some.inj H;go_enter Tryz.func149,Tryz.ntmps149;go_wp2_with (first|(refine gL 89 4 Tryz.func89 #[.string a0] ?_;(with_reducible refine(bg.calls k a0 ae3 _ A2.out).mono ?_);rintro e w' ⟨rfl,⟨nd,rfl⟩⟩;refine⟨_,rfl,?_⟩))
 go_ret;exact⟨rs,dn⟩
def aT.l0:Nat→List ByteArray→Int→Int→Option (Int)
 |0,_,_,_=>none
 |k+1,x0,x7,x8=>if x8<x7 then(if 0≤x8 then(if x8<(x0.length:Int)then((oV.f k (kV ByteArray.empty x0 x8)).bind fun aro=>(if aro=true then(some x8)else(aT.l0 k x0 x7 (wrap64 (x8+1)))))else(none))else(none))else(some (-1))
def aT.f(k:Nat)(l0:List ByteArray):Option (Int):=aT.l0 k l0 (l0.length:Int) 0
set_option maxHeartbeats 8000000 in
set_option maxRecDepth 100000 in
theorem aT.calls(k:Nat)(A0:Option Addr)(c0:Nat)(l0:List ByteArray)(r:Int)(w:World)(hr0:Kd.C Kd.string w A0 l0.length l0)(hc0:l0.length≤c0)(h:aT.f k l0=some r):
  Calls Tryz.prog 173 #[.slice A0 l0.length c0, .func (.func 149) #[] #[]] w fun e w'=>e= .returned (.int .i64 r)∧eH w w':=by
 have HR0:=ak hr0;have wJ:=ak hc0;clear hr0 hc0;have H:(aT.l0 k l0 (l0.length:Int) 0)=some r:=h;clear h;have H':=ak H;clear H;go_enter Tryz.func173,Tryz.ntmps173;go_wp2;go_loopg [8] k (fun kq v8 w'=>∃(iE:Int),v8= .int .i64 iE∧ah (aT.l0 kq l0 (l0.length:Int) iE=some r)∧ah (kq≤k)∧eH w w')
 case atStart=>exact⟨(0),rs,H',⟨Nat.le_refl _⟩,dn⟩
 case round=>
  clear H';try clear c2
  try clear p2
  obtain⟨iE,rfl,HA,iC,⟨m1,rfl⟩⟩:=hrel
  cases gk with
  |zero=>exact absurd HA.out (by simp[aT.l0])
  |succ k1=>
   have H:=HA.out;clear HA;simp only[aT.l0]at H;replace H:=sd H;rcases H with⟨fM,H⟩|⟨fM,H⟩
   ·replace H:=og H;obtain⟨nM,H⟩:=H;replace H:=og H;obtain⟨pU,H⟩:=H;replace H:=bd H;obtain⟨aro,A6,H⟩:=H;replace H:=sb H;rcases H with⟨rfl,H⟩|⟨rfl,H⟩
    ·obtain rfl:=Option.some.inj H;have YC:=zi iE;have YD:=zj iE l0.length;obtain⟨arp,e291,aio⟩:=Kd.jq HR0.out iE YC YD;cases e291;replace YC:=eq_true YC;replace YD:=eq_true YD;go_wp2_with (first|(go_at_call 149;(with_reducible refine(oV.calls k1 (kV ByteArray.empty l0 iE) true _ A6.out).mono ?_);rintro e w' ⟨rfl,⟨nd,rfl⟩⟩))
     go_ret;exact⟨rs,dn⟩
    ·have H':=ak H;clear H;have YC:=zi iE;have YD:=zj iE l0.length;obtain⟨arp,e291,aio⟩:=Kd.jq HR0.out iE YC YD;cases e291;replace YC:=eq_true YC;replace YD:=eq_true YD;go_wp2_with (first|(go_at_call 149;(with_reducible refine(oV.calls k1 (kV ByteArray.empty l0 iE) false _ A6.out).mono ?_);rintro e w' ⟨rfl,⟨nd,rfl⟩⟩))
     go_roundg k1
     case measure=>have:=iC.out;omega
     case rel=>exact⟨(wrap64 (iE+1)),rs,H',⟨by have:=iC.out;omega⟩,dn⟩
   ·obtain rfl:=Option.some.inj H;go_wp2;go_ret;exact⟨rs,dn⟩
def fB.f(k:Nat)(l0:List ByteArray):Option (Bool):=(aT.f k l0).bind fun ae4=>(some (decide (ae4≥0)))
set_option maxHeartbeats 8000000 in
set_option maxRecDepth 100000 in
theorem fB.calls(k:Nat)(A0:Option Addr)(c0:Nat)(l0:List ByteArray)(r:Bool)(w:World)(hr0:Kd.C Kd.string w A0 l0.length l0)(hc0:l0.length≤c0)(h:fB.f k l0=some r):
  Calls Tryz.prog 148 #[.slice A0 l0.length c0, .func (.func 149) #[] #[]] w fun e w'=>e= .returned (.bool r)∧eH w w':=by
 have HR0:=ak hr0;have wJ:=ak hc0;clear hr0 hc0;have H:((aT.f k l0).bind fun ae4=>(some (decide (ae4≥0))))=some r:=h;clear h;replace H:=bd H;obtain⟨ae4,A3,H⟩:=H;obtain rfl:=Option.some.inj H;go_enter Tryz.func148,Tryz.ntmps148;go_wp2_with (first|(refine gL 173 7 Tryz.func173 #[.slice A0 l0.length c0, .func (.func 149) #[] #[]] ?_;(with_reducible refine(aT.calls k _ _ l0 ae4 _ (cu HR0.out) wJ.out A3.out).mono ?_);rintro e w' ⟨rfl,⟨nd,rfl⟩⟩;refine⟨_,rfl,?_⟩))
 go_ret;exact⟨rs,dn⟩
def pG.f(k:Nat)(l0:List ByteArray)(a1:Int):Option (Bool):=if(l0.length:Int)≤a1 then((fB.f k l0).bind fun ae5=>(some (!ae5)))else(some false)
set_option maxHeartbeats 8000000 in
set_option maxRecDepth 100000 in
theorem pG.calls(k:Nat)(A0:Option Addr)(c0:Nat)(l0:List ByteArray)(a1:Int)(r:Bool)(w:World)(hr0:Kd.C Kd.string w A0 l0.length l0)(hc0:l0.length≤c0)(h:pG.f k l0 a1=some r):
  Calls Tryz.prog 105 #[.slice A0 l0.length c0, .int .i64 a1] w fun e w'=>e= .returned (.bool r)∧eH w w':=by
 have HR0:=ak hr0;have wJ:=ak hc0;clear hr0 hc0;have H:(if(l0.length:Int)≤a1 then((fB.f k l0).bind fun ae5=>(some (!ae5)))else(some false))=some r:=h;clear h;replace H:=sd H;rcases H with⟨fM,H⟩|⟨fM,H⟩
 ·replace H:=bd H;obtain⟨ae5,A4,H⟩:=H;obtain rfl:=Option.some.inj H;go_enter Tryz.func105,Tryz.ntmps105;go_wp2_with (first|(go_at_call 148;(with_reducible refine(fB.calls k _ _ l0 ae5 _ (cu HR0.out) wJ.out A4.out).mono ?_);rintro e w' ⟨rfl,⟨nd,rfl⟩⟩))
  go_ret;exact⟨rs,dn⟩
 ·obtain rfl:=Option.some.inj H;go_enter Tryz.func105,Tryz.ntmps105;go_wp2;go_ret;exact⟨rs,dn⟩
def dw.l0:Nat→List ByteArray→ByteArray→Int→Int→Option (Int)
 |0,_,_,_,_=>none
 |k+1,x0,x1,x7,x8=>if x8<x7 then(if 0≤x8 then(if x8<(x0.length:Int)then(if x1.toList=(kV ByteArray.empty x0 x8).toList then(some x8)else(dw.l0 k x0 x1 x7 (wrap64 (x8+1))))else(none))else(none))else(some (-1))
def dw.f(k:Nat)(l0:List ByteArray)(a1:ByteArray):Option (Int):=dw.l0 k l0 a1 (l0.length:Int) 0
set_option maxHeartbeats 8000000 in
set_option maxRecDepth 100000 in
theorem dw.calls(k:Nat)(A0:Option Addr)(c0:Nat)(l0:List ByteArray)(a1:ByteArray)(r:Int)(w:World)(hr0:Kd.C Kd.string w A0 l0.length l0)(hc0:l0.length≤c0)(h:dw.f k l0 a1=some r):
  Calls Tryz.prog 99 #[.slice A0 l0.length c0, .string a1] w fun e w'=>e= .returned (.int .i64 r)∧eH w w':=by
 have HR0:=ak hr0;have wJ:=ak hc0;clear hr0 hc0;have H:(dw.l0 k l0 a1 (l0.length:Int) 0)=some r:=h;clear h;have H':=ak H;clear H;go_enter Tryz.func99,Tryz.ntmps99;go_wp2;go_loopg [8] k (fun kq v8 w'=>∃(iE:Int),v8= .int .i64 iE∧ah (dw.l0 kq l0 a1 (l0.length:Int) iE=some r)∧ah (kq≤k)∧eH w w')
 case atStart=>exact⟨(0),rs,H',⟨Nat.le_refl _⟩,dn⟩
 case round=>
  clear H';try clear p2
  obtain⟨iE,rfl,HA,iC,⟨m1,rfl⟩⟩:=hrel
  cases gk with
  |zero=>exact absurd HA.out (by simp[dw.l0])
  |succ k1=>
   have H:=HA.out;clear HA;simp only[dw.l0]at H;replace H:=sd H;rcases H with⟨fM,H⟩|⟨fM,H⟩
   ·replace H:=og H;obtain⟨nM,H⟩:=H;replace H:=og H;obtain⟨pU,H⟩:=H;replace H:=sq H;rcases H with⟨mW,yt,H⟩|⟨c6,mW,yt,H⟩
    ·obtain rfl:=Option.some.inj H;have YE:=zi iE;have YF:=zj iE l0.length;obtain⟨arq,e295,aip⟩:=Kd.jq HR0.out iE YE YF;cases e295;replace YE:=eq_true YE;replace YF:=eq_true YF;go_wp2;go_ret;exact⟨rs,dn⟩
    ·have H':=ak H;clear H;have YE:=zi iE;have YF:=zj iE l0.length;obtain⟨arq,e295,aip⟩:=Kd.jq HR0.out iE YE YF;cases e295;replace YE:=eq_true YE;replace YF:=eq_true YF;go_wp2;go_roundg k1
     case measure=>have:=iC.out;omega
     case rel=>exact⟨(wrap64 (iE+1)),rs,H',⟨by have:=iC.out;omega⟩,dn⟩
   ·obtain rfl:=Option.some.inj H;go_wp2;go_ret;exact⟨rs,dn⟩
def dZ.f(k:Nat)(l0:List ByteArray)(a1:ByteArray):Option (Bool):=(dw.f k l0 a1).bind fun ae6=>(some (decide (ae6≥0)))
set_option maxHeartbeats 8000000 in
set_option maxRecDepth 100000 in
theorem dZ.calls(k:Nat)(A0:Option Addr)(c0:Nat)(l0:List ByteArray)(a1:ByteArray)(r:Bool)(w:World)(hr0:Kd.C Kd.string w A0 l0.length l0)(hc0:l0.length≤c0)(h:dZ.f k l0 a1=some r):
  Calls Tryz.prog 175 #[.slice A0 l0.length c0, .string a1] w fun e w'=>e= .returned (.bool r)∧eH w w':=by
 have HR0:=ak hr0;have wJ:=ak hc0;clear hr0 hc0;have H:((dw.f k l0 a1).bind fun ae6=>(some (decide (ae6≥0))))=some r:=h;clear h;replace H:=bd H;obtain⟨ae6,A3,H⟩:=H;obtain rfl:=Option.some.inj H;go_enter Tryz.func175,Tryz.ntmps175;go_wp2_with (first|(refine gL 99 7 Tryz.func99 #[.slice A0 l0.length c0, .string a1] ?_;(with_reducible refine(dw.calls k _ _ l0 a1 ae6 _ (cu HR0.out) wJ.out A3.out).mono ?_);rintro e w' ⟨rfl,⟨nd,rfl⟩⟩;refine⟨_,rfl,?_⟩))
 go_ret;exact⟨rs,dn⟩
def qV.f(k:Nat)(l0:List ByteArray)(a1:ByteArray):Option (Bool):=if 2+a1.size≤9223372036854775807 then((dZ.f k l0 ((⟨#[45,45]⟩:ByteArray)++a1)).bind fun aiq=>(if aiq=true then(some true)else(if((⟨#[45,45]⟩:ByteArray)++a1).size+2≤9223372036854775807 then((dZ.f k l0 (((⟨#[45,45]⟩:ByteArray)++a1)++(⟨#[45,45]⟩:ByteArray))).bind fun ae7=>(some ae7))else(none))))else(none)
set_option maxHeartbeats 8000000 in
set_option maxRecDepth 100000 in
theorem qV.calls(k:Nat)(A0:Option Addr)(c0:Nat)(l0:List ByteArray)(a1:ByteArray)(r:Bool)(w:World)(hr0:Kd.C Kd.string w A0 l0.length l0)(hc0:l0.length≤c0)(h:qV.f k l0 a1=some r):
  Calls Tryz.prog 152 #[.slice A0 l0.length c0, .string a1] w fun e w'=>e= .returned (.bool r)∧eH w w':=by
 have HR0:=ak hr0;have wJ:=ak hc0;clear hr0 hc0;have H:(if 2+a1.size≤9223372036854775807 then((dZ.f k l0 ((⟨#[45,45]⟩:ByteArray)++a1)).bind fun aiq=>(if aiq=true then(some true)else(if((⟨#[45,45]⟩:ByteArray)++a1).size+2≤9223372036854775807 then((dZ.f k l0 (((⟨#[45,45]⟩:ByteArray)++a1)++(⟨#[45,45]⟩:ByteArray))).bind fun ae7=>(some ae7))else(none))))else(none))=some r:=h;clear h;replace H:=nn H;obtain⟨c3,H⟩:=H;have fM:=eq_true c3;have oZ:=decide_eq_true c3;try have Nl:(9223372036854775807<2+a1.size)=False:=eq_false (Nat.not_lt.2 c3)
 replace H:=bd H;obtain⟨aiq,A4,H⟩:=H;replace H:=sb H;rcases H with⟨rfl,H⟩|⟨rfl,H⟩
 ·obtain rfl:=Option.some.inj H;go_enter Tryz.func152,Tryz.ntmps152;go_wp2_with (first|(refine gL 175 8 Tryz.func175 #[.slice A0 l0.length c0, .string ((⟨#[45,45]⟩:ByteArray)++a1)] ?_;(with_reducible refine(dZ.calls k _ _ l0 ((⟨#[45,45]⟩:ByteArray)++a1) true _ (cu HR0.out) wJ.out A4.out).mono ?_);rintro e w' ⟨rfl,⟨nd,rfl⟩⟩;refine⟨_,rfl,?_⟩))
  go_ret;exact⟨rs,dn⟩
 ·replace H:=nn H;obtain⟨c6,H⟩:=H;have mW:=eq_true c6;have yt:=decide_eq_true c6;try have aAu:(9223372036854775807<2+a1.size+2)=False:=by have h_:=(eq_false (Nat.not_lt.2 c6):(9223372036854775807<((⟨#[45,45]⟩:ByteArray)++a1).size+2)=False);simp only[ByteArray.size_append]at h_;exact h_
  try have aub:(9223372036854775807<((⟨#[45,45]⟩:ByteArray)++a1).size+2)=False:=eq_false (Nat.not_lt.2 c6)
  replace H:=bd H;obtain⟨ae7,A7,H⟩:=H;obtain rfl:=Option.some.inj H;go_enter Tryz.func152,Tryz.ntmps152;go_wp2_with (first|(refine gL 175 8 Tryz.func175 #[.slice A0 l0.length c0, .string ((⟨#[45,45]⟩:ByteArray)++a1)] ?_;(with_reducible refine(dZ.calls k _ _ l0 ((⟨#[45,45]⟩:ByteArray)++a1) false _ (cu HR0.out) wJ.out A4.out).mono ?_);rintro e w' ⟨rfl,⟨nd,rfl⟩⟩;refine⟨_,rfl,?_⟩)|(go_at_call 175;(with_reducible refine(dZ.calls k _ _ l0 (((⟨#[45,45]⟩:ByteArray)++a1)++(⟨#[45,45]⟩:ByteArray)) ae7 _ (cu HR0.out) wJ.out A7.out).mono ?_);rintro e w' ⟨rfl,⟨nd,rfl⟩⟩))
  go_ret;exact⟨rs,dn⟩
def m_.f(k:Nat)(l0:List ByteArray)(a1:ByteArray):Option (Bool):=(qV.f k l0 a1).bind fun ae8=>(some ae8)
set_option maxHeartbeats 8000000 in
set_option maxRecDepth 100000 in
theorem m_.calls(k:Nat)(A0:Option Addr)(c0:Nat)(l0:List ByteArray)(gq1:Nat)(a1:ByteArray)(r:Bool)(w:World)(hr0:Kd.C Kd.string w A0 l0.length l0)(hc0:l0.length≤c0)(hq1:w.heap[gq1]? =some (.cells #[.string a1] 9 (0,0)))(h:m_.f k l0 a1=some r):
  Calls Tryz.prog 151 #[.slice A0 l0.length c0, .pointer (some ⟨gq1,0,none⟩)] w fun e w'=>e= .returned (.bool r)∧Below w.heap.size w w':=by
 have HR0:=ak hr0;have wJ:=ak hc0;clear hr0 hc0;have sQ:=ak hq1;clear hq1;have HB:=ak (Below.refl w.heap.size w);have H:((qV.f k l0 a1).bind fun ae8=>(some ae8))=some r:=h;clear h;replace H:=bd H;obtain⟨ae8,A3,H⟩:=H;obtain rfl:=Option.some.inj H;have acH:w.cell? ⟨gq1,0,none⟩=some (.string a1):=(aI sQ.out 0).trans rfl;have acI:=kE sQ.out 0;go_enter Tryz.func151,Tryz.ntmps151;go_wp2_with (first|(refine gL 152 6 Tryz.func152 #[.slice A0 l0.length c0, .string a1] ?_;(with_reducible refine(qV.calls k _ _ l0 a1 ae8 _ (cu HR0.out) wJ.out A3.out).mono ?_);rintro e w' ⟨rfl,⟨nd,rfl⟩⟩;refine⟨_,rfl,?_⟩))
 go_ret;exact⟨er,bb⟩
def aU.l0:Nat→List (List ByteArray)→Int→Int→ByteArray→Option (Int)
 |0,_,_,_,_=>none
 |k+1,x0,x7,x8,PO=>if x8<x7 then(if 0≤x8 then(if x8<(x0.length:Int)then((m_.f k (qC x0 x8) PO).bind fun ars=>(if ars=true then(some x8)else(aU.l0 k x0 x7 (wrap64 (x8+1)) PO)))else(none))else(none))else(some (-1))
def aU.f(k:Nat)(l0:List (List ByteArray))(sO:ByteArray):Option (Int):=aU.l0 k l0 (l0.length:Int) 0 sO
set_option maxHeartbeats 8000000 in
set_option maxRecDepth 100000 in
theorem aU.calls(k:Nat)(A0:Option Addr)(c0:Nat)(l0:List (List ByteArray))(yK:Nat)(sO:ByteArray)(r:Int)(w:World)(hr0:Kd.C (Kd.slice 9 Kd.string) w A0 l0.length l0)(hc0:l0.length≤c0)(MR:w.heap[yK]? =some (.cells #[.string sO] 9 (0,0)))(h:aU.f k l0 sO=some r):
  Calls Tryz.prog 174 #[.slice A0 l0.length c0, .func (.func 151) #[] #[.pointer (some ⟨yK,0,none⟩)]] w fun e w'=>e= .returned (.int .i64 r)∧Below w.heap.size w w':=by
 have HR0:=ak hr0;have wJ:=ak hc0;clear hr0 hc0;have sQ:=ak MR;clear MR;have HB:=ak (Below.refl w.heap.size w);have H:(aU.l0 k l0 (l0.length:Int) 0 sO)=some r:=h;clear h;have H':=ak H;clear H;go_enter Tryz.func174,Tryz.ntmps174;go_wp2;go_loopg [8] k (fun kq v8 w'=>∃(iE:Int),v8= .int .i64 iE∧ah (aU.l0 kq l0 (l0.length:Int) iE sO=some r)∧ah (kq≤k)∧ah (w'.heap[yK]? =some (.cells #[.string sO] 9 (0,0)))∧ah (Below w.heap.size w w'))
 case atStart=>exact⟨(0),rs,H',⟨Nat.le_refl _⟩,⟨ub sQ.out⟩,⟨bb⟩⟩
 case round=>
  clear H';try clear q1
  try clear c2
  try clear p2
  obtain⟨iE,rfl,HA,iC,sQ,HB⟩:=hrel
  cases gk with
  |zero=>exact absurd HA.out (by simp[aU.l0])
  |succ k1=>
   have H:=HA.out;clear HA;simp only[aU.l0]at H;replace H:=sd H;rcases H with⟨fM,H⟩|⟨fM,H⟩
   ·replace H:=og H;obtain⟨nM,H⟩:=H;replace H:=og H;obtain⟨pU,H⟩:=H;replace H:=bd H;obtain⟨ars,A6,H⟩:=H;replace H:=sb H;rcases H with⟨rfl,H⟩|⟨rfl,H⟩
    ·obtain rfl:=Option.some.inj H;have YG:=zi iE;have YH:=zj iE l0.length;obtain⟨aru,am7,am8,e300,JZ,J3,J4⟩:=Iy HR0.out iE YG YH;cases e300;replace JZ:=cl HB.out JZ;have UH:=ak J4;have UJ:=ak J3;clear J4 J3;replace YG:=eq_true YG;replace YH:=eq_true YH;go_wp2_with (first|(go_at_call 151;(with_reducible refine(m_.calls k1 _ _ (qC l0 iE) yK sO true _ (cu (Kd.aN UH.out HB.out)) UJ.out (ub sQ.out) A6.out).mono ?_);rintro e w8 ⟨rfl,hb⟩;replace sQ:=kb sQ hb;replace HB:=ak (aG bb hb);(try clear hb)))
     go_ret;exact⟨er,bb⟩
    ·have H':=ak H;clear H;have YG:=zi iE;have YH:=zj iE l0.length;obtain⟨aru,am7,am8,e300,JZ,J3,J4⟩:=Iy HR0.out iE YG YH;cases e300;replace JZ:=cl HB.out JZ;have UH:=ak J4;have UJ:=ak J3;clear J4 J3;replace YG:=eq_true YG;replace YH:=eq_true YH;go_wp2_with (first|(go_at_call 151;(with_reducible refine(m_.calls k1 _ _ (qC l0 iE) yK sO false _ (cu (Kd.aN UH.out HB.out)) UJ.out (ub sQ.out) A6.out).mono ?_);rintro e w9 ⟨rfl,hb⟩;replace sQ:=kb sQ hb;replace HB:=ak (aG bb hb);(try clear hb)))
     go_roundg k1
     case measure=>have:=iC.out;omega
     case rel=>exact⟨(wrap64 (iE+1)),rs,H',⟨by have:=iC.out;omega⟩,⟨ub sQ.out⟩,⟨bb⟩⟩
   ·obtain rfl:=Option.some.inj H;go_wp2;go_ret;exact⟨er,bb⟩
def dV.f(k:Nat)(l0:List (List ByteArray))(sO:ByteArray):Option (Bool):=(aU.f k l0 sO).bind fun ae9=>(some (decide (ae9≥0)))
set_option maxHeartbeats 8000000 in
set_option maxRecDepth 100000 in
theorem dV.calls(k:Nat)(A0:Option Addr)(c0:Nat)(l0:List (List ByteArray))(yK:Nat)(sO:ByteArray)(r:Bool)(w:World)(hr0:Kd.C (Kd.slice 9 Kd.string) w A0 l0.length l0)(hc0:l0.length≤c0)(MR:w.heap[yK]? =some (.cells #[.string sO] 9 (0,0)))(h:dV.f k l0 sO=some r):
  Calls Tryz.prog 150 #[.slice A0 l0.length c0, .func (.func 151) #[] #[.pointer (some ⟨yK,0,none⟩)]] w fun e w'=>e= .returned (.bool r)∧Below w.heap.size w w':=by
 have HR0:=ak hr0;have wJ:=ak hc0;clear hr0 hc0;have sQ:=ak MR;clear MR;have HB:=ak (Below.refl w.heap.size w);have H:((aU.f k l0 sO).bind fun ae9=>(some (decide (ae9≥0))))=some r:=h;clear h;replace H:=bd H;obtain⟨ae9,A3,H⟩:=H;obtain rfl:=Option.some.inj H;go_enter Tryz.func150,Tryz.ntmps150;go_wp2_with (first|(refine gL 174 7 Tryz.func174 #[.slice A0 l0.length c0, .func (.func 151) #[] #[.pointer (some ⟨yK,0,none⟩)]] ?_;(with_reducible refine(aU.calls k _ _ l0 yK sO ae9 _ (cu HR0.out) wJ.out (ub sQ.out) A3.out).mono ?_);rintro e w4 ⟨rfl,hb⟩;refine⟨_,rfl,?_⟩;replace sQ:=kb sQ hb;replace HB:=ak (aG bb hb);(try clear hb)))
 go_ret;exact⟨er,bb⟩
mutual
def jO.f:Nat→List (rU)→List ByteArray→List (Di)→Int→Option (Int)
 |0,_,_,_,_=>none
 |k+1,bM,cZ,aC,a1=>(fZ.f k bM a1).bind fun Ee=>(if Ee<0 then(some (-1))else((fO.f k cZ Ee).bind fun t107=>(if t107<0 then(some (-1))else((if(wrap64 (t107-(aC.length:Int)))<0 then(some (-1))else(jD.l0 k aC (wrap64 (t107-(aC.length:Int))) 0)).bind fun BU=>(if BU<0 then(some (-1))else(some BU))))))
def jD.l0:Nat→List (Di)→Int→Int→Option (Int)
 |0,_,_,_=>none
 |k+1,x0,x1,x5=>if x5<(x0.length:Int)then(if 0≤x5 then((jO.f k ((jS x0 x5).f0) ((jS x0 x5).f1) ((jS x0 x5).f2) x1).bind fun OH=>(if OH<0 then(some (-1))else(jD.l0 k x0 OH (wrap64 (x5+1)))))else(none))else(some x1)
end
def jD.f(k:Nat)(l0:List (Di))(a1:Int):Option (Int):=if(wrap64 (a1-(l0.length:Int)))<0 then(some (-1))else(jD.l0 k l0 (wrap64 (a1-(l0.length:Int))) 0)
theorem jO.Po(k:Nat)(bM:List (rU))(cZ:List ByteArray)(aC:List (Di))(a1:Int):jO.f (k+1) bM cZ aC a1=((fZ.f k bM a1).bind fun Ee=>(if Ee<0 then(some (-1))else((fO.f k cZ Ee).bind fun t107=>(if t107<0 then(some (-1))else((jD.f k aC t107).bind fun BU=>(if BU<0 then(some (-1))else(some BU))))))):=by simp only[jO.f,jD.f]
set_option maxHeartbeats 8000000 in
set_option maxRecDepth 100000 in
theorem jO.pair(k:Nat):(∀(gW:Option Addr) (gX:Nat) (bM:List (rU)) (iM:Option Addr) (iO:Nat) (cZ:List ByteArray) (fF:Option Addr) (dR:Nat) (aC:List (Di)) (a1:Int) (r:Int) (w:World) (mG:Kd.C EF w gW bM.length bM) (mJ:bM.length≤gX) (mM:Kd.C Kd.string w iM cZ.length cZ) (mO:cZ.length≤iO) (jL:Kd.C Vl w fF aC.length aC) (jM:aC.length≤dR) (h:jO.f k bM cZ aC a1=some r),
  Calls Tryz.prog 29 #[.agg #[.slice gW bM.length gX, .slice iM cZ.length iO, .slice fF aC.length dR], .int .i64 a1] w fun e w'=>e= .returned (.int .i64 r)∧Below w.heap.size w w')∧
  (∀(A0:Option Addr) (c0:Nat) (l0:List (Di)) (a1:Int) (r:Int) (w:World) (hr0:Kd.C Vl w A0 l0.length l0) (hc0:l0.length≤c0) (h:jD.f k l0 a1=some r),
  Calls Tryz.prog 71 #[.slice A0 l0.length c0, .int .i64 a1] w fun e w'=>e= .returned (.int .i64 r)∧Below w.heap.size w w'):=by
 induction k using Nat.strongRecOn with
 |_ k ih=>
 refine⟨?_,?_⟩
 ·cases k with
  |zero=>intro gW gX bM iM iO cZ fF dR aC a1 r w mG mJ mM mO jL jM h;exact absurd h (by simp[jO.f])
  |succ k=>
  have ihB:=(ih k (Nat.lt_succ_self k)).2;clear ih;intro gW gX bM iM iO cZ fF dR aC a1 r w mG mJ mM mO jL jM h;rw[jO.Po]at h;have aml:=Tryz.underlying44;have lY:=ak mG;have lZ:=ak mJ;clear mG mJ;have oQ:=ak mM;have qh:=ak mO;clear mM mO;have jc:=ak jL;have kC:=ak jM;clear jL jM;have HB:=ak (Below.refl w.heap.size w);have H:((fZ.f k bM a1).bind fun Ee=>(if Ee<0 then(some (-1))else((fO.f k cZ Ee).bind fun t107=>(if t107<0 then(some (-1))else((jD.f k aC t107).bind fun BU=>(if BU<0 then(some (-1))else(some BU)))))))=some r:=h;clear h;replace H:=bd H;obtain⟨Ee,A3,H⟩:=H;replace H:=sd H;rcases H with⟨nM,H⟩|⟨nM,H⟩
  ·obtain rfl:=Option.some.inj H;go_enter Tryz.func29,Tryz.ntmps29;go_wp2_with (first|(refine bE 2 #[.slice gW bM.length gX, .slice iM cZ.length iO, .slice fF aC.length dR] 44 ?_;intro ae_ hg w5 hbox hb;have uh:=ak (hbox);have afa:=jY HB hg;have afb:=jY HB hg;replace HB:=bs HB hb;clear hb hbox hg;obtain⟨yu,yw,Hq,yx,yA,Hr⟩:=jP uh.out)|(refine gL 70 8 Tryz.func70 #[.slice gW bM.length gX, .int .i64 a1] ?_;(with_reducible refine(fZ.calls k _ _ bM a1 Ee _ (cu (Kd.aN lY.out HB.out)) lZ.out A3.out).mono ?_);rintro e w7 ⟨rfl,hb⟩;refine⟨_,rfl,?_⟩;replace uh:=kb uh hb;replace HB:=ak (aG bb hb);(try clear hb)))
   go_ret;exact⟨er,bb⟩
  ·replace H:=bd H;obtain⟨t107,A8,H⟩:=H;replace H:=sd H;rcases H with⟨wQ,H⟩|⟨wQ,H⟩
   ·obtain rfl:=Option.some.inj H;go_enter Tryz.func29,Tryz.ntmps29;go_wp2_with (first|(refine bE 2 #[.slice gW bM.length gX, .slice iM cZ.length iO, .slice fF aC.length dR] 44 ?_;intro ae_ hg w10 hbox hb;have uh:=ak (hbox);have afa:=jY HB hg;have afb:=jY HB hg;replace HB:=bs HB hb;clear hb hbox hg;obtain⟨xk,xq,ahC,xu,xw,ahD⟩:=jP uh.out)|(refine gL 70 8 Tryz.func70 #[.slice gW bM.length gX, .int .i64 a1] ?_;(with_reducible refine(fZ.calls k _ _ bM a1 Ee _ (cu (Kd.aN lY.out HB.out)) lZ.out A3.out).mono ?_);rintro e w12 ⟨rfl,hb⟩;refine⟨_,rfl,?_⟩;replace uh:=kb uh hb;replace HB:=ak (aG bb hb);(try clear hb);obtain⟨qH,qJ,Dw,qK,qL,Dx⟩:=jP uh.out)|(refine gL 52 14 Tryz.func52 #[.slice iM cZ.length iO, .int .i64 Ee] ?_;(with_reducible refine(fO.calls k _ _ cZ Ee t107 _ (cu (Kd.aN oQ.out HB.out)) qh.out A8.out).mono ?_);rintro e w' ⟨rfl,⟨nd,rfl⟩⟩;refine⟨_,rfl,?_⟩))
    go_ret;exact⟨er,bb⟩
   ·replace H:=bd H;obtain⟨BU,A14,H⟩:=H;replace H:=sd H;rcases H with⟨xW,H⟩|⟨xW,H⟩
    ·obtain rfl:=Option.some.inj H;go_enter Tryz.func29,Tryz.ntmps29;go_wp2_with (first|(refine bE 2 #[.slice gW bM.length gX, .slice iM cZ.length iO, .slice fF aC.length dR] 44 ?_;intro ae_ hg w16 hbox hb;have uh:=ak (hbox);have afa:=jY HB hg;have afb:=jY HB hg;replace HB:=bs HB hb;clear hb hbox hg;obtain⟨Dy,Dz,DC,DF,DI,DJ⟩:=jP uh.out)|(refine gL 70 8 Tryz.func70 #[.slice gW bM.length gX, .int .i64 a1] ?_;(with_reducible refine(fZ.calls k _ _ bM a1 Ee _ (cu (Kd.aN lY.out HB.out)) lZ.out A3.out).mono ?_);rintro e w18 ⟨rfl,hb⟩;refine⟨_,rfl,?_⟩;replace uh:=kb uh hb;replace HB:=ak (aG bb hb);(try clear hb);obtain⟨aay,aaz,ahK,aaA,aaB,ahL⟩:=jP uh.out)|(refine gL 52 14 Tryz.func52 #[.slice iM cZ.length iO, .int .i64 Ee] ?_;(with_reducible refine(fO.calls k _ _ cZ Ee t107 _ (cu (Kd.aN oQ.out HB.out)) qh.out A8.out).mono ?_);rintro e w' ⟨rfl,⟨nd,rfl⟩⟩;refine⟨_,rfl,?_⟩)|(refine gL 71 20 Tryz.func71 #[.slice fF aC.length dR, .int .i64 t107] ?_;(with_reducible refine(ihB _ _ aC t107 BU _ (cu (Kd.aN jc.out bb)) kC.out A14.out).mono ?_);rintro e w20 ⟨rfl,hb⟩;refine⟨_,rfl,?_⟩;replace uh:=kb uh hb;replace HB:=ak (aG bb hb);(try clear hb)))
     go_ret;exact⟨er,bb⟩
    ·obtain rfl:=Option.some.inj H;go_enter Tryz.func29,Tryz.ntmps29;go_wp2_with (first|(refine bE 2 #[.slice gW bM.length gX, .slice iM cZ.length iO, .slice fF aC.length dR] 44 ?_;intro ae_ hg w21 hbox hb;have uh:=ak (hbox);have afa:=jY HB hg;have afb:=jY HB hg;replace HB:=bs HB hb;clear hb hbox hg;obtain⟨Jk,Oc,Oe,Jl,Og,Oh⟩:=jP uh.out)|(refine gL 70 8 Tryz.func70 #[.slice gW bM.length gX, .int .i64 a1] ?_;(with_reducible refine(fZ.calls k _ _ bM a1 Ee _ (cu (Kd.aN lY.out HB.out)) lZ.out A3.out).mono ?_);rintro e w23 ⟨rfl,hb⟩;refine⟨_,rfl,?_⟩;replace uh:=kb uh hb;replace HB:=ak (aG bb hb);(try clear hb);obtain⟨T_,Ua,Ub,Uc,Ud,Ue⟩:=jP uh.out)|(refine gL 52 14 Tryz.func52 #[.slice iM cZ.length iO, .int .i64 Ee] ?_;(with_reducible refine(fO.calls k _ _ cZ Ee t107 _ (cu (Kd.aN oQ.out HB.out)) qh.out A8.out).mono ?_);rintro e w' ⟨rfl,⟨nd,rfl⟩⟩;refine⟨_,rfl,?_⟩)|(refine gL 71 20 Tryz.func71 #[.slice fF aC.length dR, .int .i64 t107] ?_;(with_reducible refine(ihB _ _ aC t107 BU _ (cu (Kd.aN jc.out bb)) kC.out A14.out).mono ?_);rintro e w25 ⟨rfl,hb⟩;refine⟨_,rfl,?_⟩;replace uh:=kb uh hb;replace HB:=ak (aG bb hb);(try clear hb)))
     go_ret;exact⟨er,bb⟩
 ·intro A0 c0 l0 a1 r w hr0 hc0 h;have aml:=Tryz.underlying44;have HR0:=ak hr0;have wJ:=ak hc0;clear hr0 hc0;have HB:=ak (Below.refl w.heap.size w);have H:(if(wrap64 (a1-(l0.length:Int)))<0 then(some (-1))else(jD.l0 k l0 (wrap64 (a1-(l0.length:Int))) 0))=some r:=h;clear h;replace H:=sp H;rcases H with⟨c3,H⟩|⟨c3,H⟩
  ·have fM:=decide_eq_true c3
   (try(have oZ:decide ((a1-(l0.length:Int))<0)=true:=decide_eq_true (by have h_:=c3;unfold wrap64 at h_;omega)));clear c3;obtain rfl:=Option.some.inj H;go_enter Tryz.func71,Tryz.ntmps71;go_wp2;go_ret;exact⟨er,ul HB.out⟩
  ·have fM:=decide_eq_false c3
   (try(have oZ:decide ((a1-(l0.length:Int))<0)=false:=decide_eq_false (by have h_:=c3;unfold wrap64 at h_;omega)));clear c3;have H':=ak H;clear H;go_enter Tryz.func71,Tryz.ntmps71;go_wp2;go_loopg [1,5] k (fun kq v1 v5 w'=>∃(oM:Int) (aK:Int),v1= .int .i64 oM∧v5= .int .i64 aK∧ah (jD.l0 kq l0 oM aK=some r)∧ah (kq≤k)∧ah (Below w.heap.size w w'))
   case atStart=>exact⟨(wrap64 (a1-(l0.length:Int))),(0),rs,rs,H',⟨Nat.le_refl _⟩,⟨ul HB.out⟩⟩
   case round=>
    clear H';try clear p2
    try clear c3
    try clear fM
    try clear oZ
    obtain⟨oM,aK,rfl,rfl,HA,iC,HB⟩:=hrel
    cases gk with
    |zero=>exact absurd HA.out (by simp[jD.l0])
    |succ k1=>
     have H:=HA.out;clear HA;simp only[jD.l0]at H;replace H:=sd H;rcases H with⟨nM,H⟩|⟨nM,H⟩
     ·replace H:=og H;obtain⟨pU,H⟩:=H;replace H:=bd H;obtain⟨OH,A6,H⟩:=H;replace H:=sd H;rcases H with⟨oJ,H⟩|⟨oJ,H⟩
      ·obtain rfl:=Option.some.inj H;have H7:=zi aK;have H8:=zj aK l0.length;obtain⟨CQ,DX,DY,DZ,D5,D6,D7,Yp,qQ,qR,qU,vX,vY,vZ,wo,wu,wz⟩:=Xe HR0.out aK H7 H8;cases Yp;replace qQ:=cl HB.out qQ;replace qR:=cl HB.out qR;replace qU:=cl HB.out qU;have zl:=ak vY;have D8:=ak vX;clear vY vX;have zo:=ak wo;have D9:=ak vZ;clear wo vZ;have zq:=ak wz;have D_:=ak wu;clear wz wu;replace H7:=eq_true H7;replace H8:=eq_true H8;go_wp2_with (first|(refine gL 29 23 Tryz.func29 #[.agg #[.slice DX ((jS l0 aK).f0).length DY, .slice DZ ((jS l0 aK).f1).length D5, .slice D6 ((jS l0 aK).f2).length D7], .int .i64 oM] ?_;(with_reducible refine((ih k1 (by have:=iC.out;omega)).1 _ _ ((jS l0 aK).f0) _ _ ((jS l0 aK).f1) _ _ ((jS l0 aK).f2) oM OH _ (cu (Kd.aN zl.out HB.out)) D8.out (cu (Kd.aN zo.out HB.out)) D9.out (cu (Kd.aN zq.out HB.out)) D_.out A6.out).mono ?_);rintro e w8 ⟨rfl,hb⟩;refine⟨_,rfl,?_⟩;replace HB:=bs HB hb;(try clear hb)))
       go_ret;exact⟨er,ul HB.out⟩
      ·have H':=ak H;clear H;have H7:=zi aK;have H8:=zj aK l0.length;obtain⟨CQ,DX,DY,DZ,D5,D6,D7,Yp,qQ,qR,qU,vX,vY,vZ,wo,wu,wz⟩:=Xe HR0.out aK H7 H8;cases Yp;replace qQ:=cl HB.out qQ;replace qR:=cl HB.out qR;replace qU:=cl HB.out qU;have zl:=ak vY;have D8:=ak vX;clear vY vX;have zo:=ak wo;have D9:=ak vZ;clear wo vZ;have zq:=ak wz;have D_:=ak wu;clear wz wu;replace H7:=eq_true H7;replace H8:=eq_true H8;go_wp2_with (first|(refine gL 29 23 Tryz.func29 #[.agg #[.slice DX ((jS l0 aK).f0).length DY, .slice DZ ((jS l0 aK).f1).length D5, .slice D6 ((jS l0 aK).f2).length D7], .int .i64 oM] ?_;(with_reducible refine((ih k1 (by have:=iC.out;omega)).1 _ _ ((jS l0 aK).f0) _ _ ((jS l0 aK).f1) _ _ ((jS l0 aK).f2) oM OH _ (cu (Kd.aN zl.out HB.out)) D8.out (cu (Kd.aN zo.out HB.out)) D9.out (cu (Kd.aN zq.out HB.out)) D_.out A6.out).mono ?_);rintro e w9 ⟨rfl,hb⟩;refine⟨_,rfl,?_⟩;replace HB:=bs HB hb;(try clear hb)))
       go_roundg k1
       case measure=>have:=iC.out;omega
       case rel=>exact⟨(OH),(wrap64 (aK+1)),rs,rs,H',⟨by have:=iC.out;omega⟩,⟨ul HB.out⟩⟩
     ·obtain rfl:=Option.some.inj H;go_wp2;go_ret;exact⟨er,ul HB.out⟩
mutual
def dS.j0:Nat→List (List ByteArray)→Bool→ByteArray→Option (List ByteArray×Bool)
 |0,_,_,_=>none
 |k+1,x0,x21,BG=>if x21=true then(some (([]:List ByteArray),false))else(dS.l0 k (([]:List ByteArray)) x0 (x0.length:Int) 0 BG)
def dS.l0:Nat→List ByteArray→List (List ByteArray)→Int→Int→ByteArray→Option (List ByteArray×Bool)
 |0,_,_,_,_,_=>none
 |k+1,x6,x23,x24,x25,BG=>if x25<x24 then(if 0≤x25 then(if x25<(x23.length:Int)then(if 2+BG.size≤9223372036854775807 then(if x6.length<8796093022208 then((some (x6++[(⟨#[45,45]⟩:ByteArray)++BG]:List ByteArray)).bind fun afc=>(if afc.length+(qC x23 x25).length<8796093022208 then(dS.l0 k (afc++(qC x23 x25)) x23 x24 (wrap64 (x25+1)) BG)else(none)))else(none))else(none))else(none))else(none))else(if 2+BG.size≤9223372036854775807 then(if((⟨#[45,45]⟩:ByteArray)++BG).size+2≤9223372036854775807 then(if x6.length<8796093022208 then(some ((x6++[((⟨#[45,45]⟩:ByteArray)++BG)++(⟨#[45,45]⟩:ByteArray)]),true))else(none))else(none))else(none))
end
def dS.f(k:Nat)(l0:List (List ByteArray))(a1:ByteArray):Option (List ByteArray×Bool):=(jF.f k a1).bind fun air=>(if air=true then(if(l0.length:Int)=0 then(dS.j0 k l0 true a1)else((dV.f k l0 a1).bind fun ab4=>(dS.j0 k l0 ab4 a1)))else(dS.j0 k l0 true a1))
set_option maxHeartbeats 8000000 in
set_option maxRecDepth 100000 in
theorem dS.calls(k:Nat)(A0:Option Addr)(c0:Nat)(l0:List (List ByteArray))(a1:ByteArray)(r1:List ByteArray)(r2:Bool)(w:World)(hr0:Kd.C (Kd.slice 9 Kd.string) w A0 l0.length l0)(hc0:l0.length≤c0)(h:dS.f k l0 a1=some (r1,r2)):
  Calls Tryz.prog 106 #[.slice A0 l0.length c0, .string a1] w fun e w'=>∃wH:Value,e= .returned (.tuple #[wH, .bool r2])∧Kd.R Kd.string 9 w' w.heap.size (fun _=>True) wH r1∧Below w.heap.size w w':=by
 have HR0:=ak hr0;have wJ:=ak hc0;clear hr0 hc0;have HB:=ak (Below.refl w.heap.size w);have H:((jF.f k a1).bind fun air=>(if air=true then(if(l0.length:Int)=0 then(dS.j0 k l0 true a1)else((dV.f k l0 a1).bind fun ab4=>(dS.j0 k l0 ab4 a1)))else(dS.j0 k l0 true a1)))=some (r1,r2):=h;clear h;have XJ:=ak H;clear H;go_enter Tryz.func106,Tryz.ntmps106;go_upto_region 1 with(first|(refine bU (N:=3) rfl ?_;(try(refine aZ (by rfl) ?_;dsimp only));refine bE 3 #[.string a1] 9 ?_;intro wE hg w4 hbox hb;have nK:=ak (hbox);have ayi:=jY HB hg;have ayj:=jY HB hg;replace HB:=bs HB hb;clear hb hbox hg))
 (try simp only[Act.put,jI,jJ,l_c]);go_cut [21] (fun v21 wc=>∃(kq:Nat) (afd:Bool),v21= .bool afd∧ah (dS.j0 kq l0 afd a1=some (r1,r2))∧ah (kq≤k)∧ah (wc.heap[wE]? =some (.cells #[.string a1] 9 (0,0)))∧ah (Below w.heap.size w wc))
 case first=>
  have H:=XJ.out;clear XJ;replace H:=bd H;obtain⟨air,A5,H⟩:=H;replace H:=sb H;rcases H with⟨rfl,H⟩|⟨rfl,H⟩
  ·replace H:=sp H;rcases H with⟨c7,H⟩|⟨c7,H⟩
   ·have oJ:=beq_iff_eq.mpr c7;have EH:=bne_eq_false_iff_eq.mpr c7;clear c7
    (first|rw[oJ]|(simp only[bC,bH];rw[oJ])|skip);have H':=ak H;clear H;have vG:w4.cell? ⟨wE,0,none⟩=some (.string a1):=(aI nK.out 0).trans rfl;have vH:=kE nK.out 0;go_wp2_with (first|(refine gL 96 10 Tryz.func96 #[.string a1] ?_;(with_reducible refine(jF.calls k a1 true _ A5.out).mono ?_);rintro e w' ⟨rfl,⟨nd,rfl⟩⟩;refine⟨_,rfl,?_⟩))
    go_meet
    case rel=>exact⟨_,(true),rs,H',⟨Qw⟩,⟨ub nK.out⟩,⟨bb⟩⟩
   ·have oJ:=beq_eq_false_iff_ne.mpr c7;have EH:=bne_iff_ne.mpr c7;have arv:¬(l0=[]):=fun h_=>c7 (by rw[h_];rfl)
    (first|rw[oJ]|(simp only[bC,bH];rw[oJ])|skip);replace H:=bd H;obtain⟨ab4,A9,H⟩:=H;have H':=ak H;clear H;have oz:w4.cell? ⟨wE,0,none⟩=some (.string a1):=(aI nK.out 0).trans rfl;have oC:=kE nK.out 0;go_wp2_with (first|(refine gL 96 10 Tryz.func96 #[.string a1] ?_;(with_reducible refine(jF.calls k a1 true _ A5.out).mono ?_);rintro e w' ⟨rfl,⟨nd,rfl⟩⟩;refine⟨_,rfl,?_⟩)|(go_at_call 150;(with_reducible refine(dV.calls k _ _ l0 wE a1 ab4 _ (cu (Kd.aN HR0.out bb)) wJ.out (ub nK.out) A9.out).mono ?_);rintro e Cm ⟨rfl,hb⟩;replace nK:=kb nK hb;replace HB:=ak (aG bb hb);(try clear hb)))
    go_meet
    case rel=>exact⟨_,(ab4),rs,H',⟨Qw⟩,⟨ub nK.out⟩,⟨bb⟩⟩
  ·have H':=ak H;clear H;have vM:w4.cell? ⟨wE,0,none⟩=some (.string a1):=(aI nK.out 0).trans rfl;have vN:=kE nK.out 0;go_wp2_with (first|(refine gL 96 10 Tryz.func96 #[.string a1] ?_;(with_reducible refine(jF.calls k a1 false _ A5.out).mono ?_);rintro e w' ⟨rfl,⟨nd,rfl⟩⟩;refine⟨_,rfl,?_⟩))
   go_meet
   case rel=>exact⟨_,(true),rs,H',⟨Qw⟩,⟨ub nK.out⟩,⟨bb⟩⟩
 case rest=>
  clear XJ;try clear c1
  try clear p2
  try clear c6
  try clear c7
  try clear oJ
  try clear EH
  try clear arv
  try clear c9
  try clear c10
  try clear oz
  try clear vM
  try clear vG
  try clear oC
  try clear vN
  try clear vH
  obtain⟨kq,afd,rfl,HA,HJ2,nK,HB⟩:=hcut
  cases kq with
  |zero=>exact absurd HA.out (by simp[dS.j0])
  |succ ZX=>
   have H:=HA.out;clear HA;simp only[dS.j0]at H;replace H:=sb H;rcases H with⟨rfl,H⟩|⟨rfl,H⟩
   ·simp only[Option.some.injEq,Prod.mk.injEq]at H;obtain⟨rfl,rfl⟩:=H;go_wp2;go_ret2;exact⟨_,er,nx,bb⟩
   ·obtain⟨avO,afe⟩:=nm ([]:List ByteArray);rw[←afe.out]at H
    (try rw[Option.bind_some]at H);have H':=ak H;clear H;go_wp2_with (first|((with_reducible refine bU (N:=22) rfl ?_);(try(refine aZ (by rfl) ?_;dsimp only));refine Kd.qg Kd.string _ 9 ?hg (N:=22) ?hd (xs:=([]:List ByteArray)) (inner:=[]) (ok:=fun _=>True) (pz:=fun _=>True) ?hr ?hp (fun _ hk=>hk) trivial (Below.refl _ _) (Nat.le_refl _) (by simp) ?_;(case hd=>rfl);(case hg=>rfl);(case hr=>first|(go_simp;done)|(go_simp;rfl));(case hp=>exact(iF.none _ _));intro aAv Q9 OW hb rQ jw;clear rQ jw;(first|rw[←afe.out]at OW|(simp only[Int.reduceToNat]at OW;rw[←afe.out]at OW));have arw:=ak (Kd.fA (Kd.Yn OW (g:=wE) (o:= .cells #[.string a1] 9 (0,0)) (ub nK.out)) (aA bb));replace nK:=kb nK hb;replace HB:=ak (aG bb hb);clear hb OW))
    go_loopg [6,25] ZX (fun kq v6 v25 w'=>∃(Hy:List ByteArray) (J5:Int),v25= .int .i64 J5∧ah (dS.l0 kq Hy l0 (l0.length:Int) J5 a1=some (r1,r2))∧ah (kq≤ZX)∧ah (Kd.R Kd.string 9 w' w.heap.size (fun k_=>k_≠wE) v6 Hy)∧ah (w'.heap[wE]? =some (.cells #[.string a1] 9 (0,0)))∧ah (Below w.heap.size w w'))
    case atStart=>exact⟨(avO),(0),rs,H',⟨Nat.le_refl _⟩,⟨ur (Kd.dM arw.out (fun _ hk=>hk.2))⟩,⟨ub nK.out⟩,⟨bb⟩⟩
    case round=>
     clear H';try clear c1
     try clear p2
     try clear c6
     try clear c7
     try clear oJ
     try clear EH
     try clear arv
     try clear c9
     try clear c10
     try clear c13
     try clear oz
     try clear vM
     try clear vG
     try clear oC
     try clear vN
     try clear vH
     try clear p2
     obtain⟨Hy,J5,rfl,HA,yT,mD,nK,HB⟩:=hrel
     cases gk with
     |zero=>exact absurd HA.out (by simp[dS.l0])
     |succ k2=>
      have H:=HA.out;clear HA;simp only[dS.l0]at H;replace H:=sd H;rcases H with⟨Ja,H⟩|⟨Ja,H⟩
      ·replace H:=og H;obtain⟨qE,H⟩:=H;replace H:=og H;obtain⟨Bg,H⟩:=H;replace H:=nn H;obtain⟨c19,H⟩:=H;have yH:=eq_true c19;have AY:=decide_eq_true c19;try have ayk:(9223372036854775807<2+a1.size)=False:=eq_false (Nat.not_lt.2 c19)
       replace H:=nl H;obtain⟨aeM,H⟩:=H;obtain⟨afc,akr⟩:=nm (Hy++[(⟨#[45,45]⟩:ByteArray)++a1]);rw[←akr.out]at H
       (try rw[Option.bind_some]at H);replace H:=nl H;obtain⟨VG,H⟩:=H;obtain⟨avP,aks⟩:=nm (afc++(qC l0 J5));rw[←aks.out]at H
       (try rw[Option.bind_some]at H);have H':=ak H;clear H;have am9:=zi J5;have am_:=zj J5 l0.length;obtain⟨ayl,avQ,avR,e309,aa5,aa6,aa7⟩:=Iy HR0.out J5 am9 am_;cases e309;replace aa5:=cl HB.out aa5;have ais:=ak aa7;have aty:=ak aa6;clear aa7 aa6;replace am9:=eq_true am9;replace am_:=eq_true am_;have Jk:wr.cell? ⟨wE,0,none⟩=some (.string a1):=(aI nK.out 0).trans rfl;have Jl:=kE nK.out 0;go_wp2_with (first|((with_reducible refine dD (b:= .append) (xs:=#[.tmp 29, .tmp 32]) rfl ?_);(try(refine aZ (by rfl) ?_;dsimp only));at_builtin;refine Kd.iR Kd.string (w0:=w) w.heap.size rfl (.tmp 29) (.tmp 32) 23 9 (.string ⟨#[]⟩) 16 rfl Tryz.underlying23 info9 rfl (by decide) (by omega) u6 Hy ((⟨#[45,45]⟩:ByteArray)++a1) [.string ((⟨#[45,45]⟩:ByteArray)++a1)] (fun k_=>k_≠wE) (fun _=>False) rfl rfl ?aP (fun _ hk=>hk.elim) ?aF ?aO ?aB ?aS ?aL ?_;(case aP=>exact rfl);(case aB=>exact bb);(case aF=>exact(fun k_ hk=>Kd.YI (g:=wE) (o:= .cells #[.string a1] 9 (0,0)) (ub nK.out) k_ hk));(case aO=>exact(ur mD.out));(case aS=>exact(aA bb));(case aL=>have:=aeM.out;omega);intro avS w23 ho hb hg hat;rw[←akr.out]at ho;have iH:=ak (iW (g:=wE) (o:= .cells #[.string a1] 9 (0,0)) (ub nK.out) hg (Kd.YJ mD.out (fun _ hk=>hk)));have iI:=ak (hb);have lS:=ak (ho);clear nK;clear HB;clear mD;have nK:=iH;have HB:=iI;have aff:=lS;clear iH iI lS;clear ho hb hg hat)|((with_reducible refine dD (b:= .append) (xs:=#[.tmp 34, .tmp 35]) rfl ?_);(try(refine aZ (by rfl) ?_;dsimp only));at_builtin;refine Kd.ru Kd.string (w0:=w) w.heap.size rfl (.tmp 34) (.tmp 35) 23 9 (.string ⟨#[]⟩) 16 rfl Tryz.underlying23 info9 rfl (by decide) (by omega) avS afc (qC l0 J5) _ _ _ (fun k_=>k_≠wE) (fun _=>False) rfl rfl ?aO ?aR (fun _ _ h=>h) (fun _ h=>h.elim) ?aF ?aB ?aS ?aL ?_;(case aR=>repeat(first|exact(Kd.aN ais.out HB.out)|(with_reducible refine Kd.iP ?_ _)|(with_reducible refine Kd.iQ ?_ _)|(with_reducible refine Kd.jK ?_)));(case aB=>exact bb);(case aF=>exact(fun k_ hk=>Kd.YI (g:=wE) (o:= .cells #[.string a1] 9 (0,0)) (ub nK.out) k_ hk));(case aO=>exact(ur aff.out));(case aS=>exact(aA bb));(case aL=>have:=VG.out;omega);intro aAw w24 ho hb hg hat;rw[←aks.out]at ho;have iH:=ak (iW (g:=wE) (o:= .cells #[.string a1] 9 (0,0)) (ub nK.out) hg (Kd.YJ aff.out (fun _ hk=>hk)));have iI:=ak (hb);have lS:=ak (ho);clear nK;clear HB;clear aff;have nK:=iH;have HB:=iI;have arx:=lS;clear iH iI lS;clear ho hb hg hat))
       go_roundg k2
       case measure=>have:=HJ2.out;have:=yT.out;omega
       case rel=>exact⟨(avP),(wrap64 (J5+1)),rs,H',⟨by have:=HJ2.out;have:=yT.out;omega⟩,⟨ur arx.out⟩,⟨ub nK.out⟩,⟨bb⟩⟩
      ·replace H:=nn H;obtain⟨c25,H⟩:=H;have VB:=eq_true c25;have aoR:=decide_eq_true c25;try have aym:(9223372036854775807<2+a1.size)=False:=eq_false (Nat.not_lt.2 c25)
       replace H:=nn H;obtain⟨c26,H⟩:=H;have OM:=eq_true c26;have adr:=decide_eq_true c26;try have ayn:(9223372036854775807<2+a1.size+2)=False:=by have h_:=(eq_false (Nat.not_lt.2 c26):(9223372036854775807<((⟨#[45,45]⟩:ByteArray)++a1).size+2)=False);simp only[ByteArray.size_append]at h_;exact h_
       try have ayo:(9223372036854775807<((⟨#[45,45]⟩:ByteArray)++a1).size+2)=False:=eq_false (Nat.not_lt.2 c26)
       replace H:=nl H;obtain⟨ac3,H⟩:=H;obtain⟨aAx,akt⟩:=nm (Hy++[((⟨#[45,45]⟩:ByteArray)++a1)++(⟨#[45,45]⟩:ByteArray)]);rw[←akt.out]at H
       (try rw[Option.bind_some]at H);simp only[Option.some.injEq,Prod.mk.injEq]at H;obtain⟨rfl,rfl⟩:=H;have NZ:wr.cell? ⟨wE,0,none⟩=some (.string a1):=(aI nK.out 0).trans rfl;have N7:=kE nK.out 0;go_wp2_with (first|((with_reducible refine dD (b:= .append) (xs:=#[.tmp 38, .tmp 42]) rfl ?_);(try(refine aZ (by rfl) ?_;dsimp only));at_builtin;refine Kd.iR Kd.string (w0:=w) w.heap.size rfl (.tmp 38) (.tmp 42) 23 9 (.string ⟨#[]⟩) 16 rfl Tryz.underlying23 info9 rfl (by decide) (by omega) u6 Hy (((⟨#[45,45]⟩:ByteArray)++a1)++(⟨#[45,45]⟩:ByteArray)) [.string (((⟨#[45,45]⟩:ByteArray)++a1)++(⟨#[45,45]⟩:ByteArray))] (fun k_=>k_≠wE) (fun _=>False) rfl rfl ?aP (fun _ hk=>hk.elim) ?aF ?aO ?aB ?aS ?aL ?_;(case aP=>exact rfl);(case aB=>exact bb);(case aF=>exact(fun k_ hk=>Kd.YI (g:=wE) (o:= .cells #[.string a1] 9 (0,0)) (ub nK.out) k_ hk));(case aO=>exact(ur mD.out));(case aS=>exact(aA bb));(case aL=>have:=ac3.out;omega);intro aAy w29 ho hb hg hat;rw[←akt.out]at ho;have iH:=ak (iW (g:=wE) (o:= .cells #[.string a1] 9 (0,0)) (ub nK.out) hg (Kd.YJ mD.out (fun _ hk=>hk)));have iI:=ak (hb);have lS:=ak (ho);clear nK;clear HB;clear mD;have nK:=iH;have HB:=iI;have arz:=lS;clear iH iI lS;clear ho hb hg hat))
       go_ret2;exact⟨_,er,ur (Kd.dM arz.out (fun _ hk=>trivial)),bb⟩
end Go.Proofs.YtncdadcmghglkaaGreatDoor.PFnExactFormatPart
