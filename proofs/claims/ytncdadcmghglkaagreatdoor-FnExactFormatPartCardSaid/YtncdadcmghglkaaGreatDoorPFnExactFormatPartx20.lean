/- Printed walks; conditions: those in each statement. -/
import Derived.Test.YtncdadcmghglkaaGreatDoorVFnExactFormatPartQt
import Derived.Test.YtncdadcmghglkaaGreatDoorVFnExactFormatPartYt
import Derived.Test.YtncdadcmghglkaaGreatDoorPFnExactFormatPartx0
import Derived.Test.YtncdadcmghglkaaGreatDoorPFnExactFormatPartx19
namespace Go.Proofs.YtncdadcmghglkaaGreatDoor.PFnExactFormatPart
open Go.RowKit Go.Proofs.YtncdadcmghglkaaGreatDoor.X Go.Proofs.YtncdadcmghglkaaGreatDoorW.dB Go.Proofs.YtncdadcmghglkaaGreatDoorW.iy Go.Proofs.YtncdadcmghglkaaGreatDoorW.jo
attribute [local go_sem] lU lV oh oq kJ kK lW lX   -- for this text's walks alone
set_option linter.unusedVariables false
set_option linter.unusedSimpArgs false
def fZ.l0:Nat→List (rU)→Int→Int→Option (Int)
 |0,_,_,_=>none
 |k+1,x0,x1,x5=>if x5<(x0.length:Int)then(if 0≤x5 then((qP.f ((nN x0 x5).f0) ((nN x0 x5).f1) x1).bind fun abI=>(if abI<0 then(some (-1))else(fZ.l0 k x0 abI (wrap64 (x5+1)))))else(none))else(some x1)
def fZ.f(k:Nat)(l0:List (rU))(a1:Int):Option (Int):=if(wrap64 (a1-(l0.length:Int)))<0 then(some (-1))else(fZ.l0 k l0 (wrap64 (a1-(l0.length:Int))) 0)
set_option maxHeartbeats 8000000 in
set_option maxRecDepth 100000 in
theorem fZ.calls(k:Nat)(A0:Option Addr)(c0:Nat)(l0:List (rU))(a1:Int)(r:Int)(w:World)(hr0:Kd.C EF w A0 l0.length l0)(hc0:l0.length≤c0)(h:fZ.f k l0 a1=some r):
  Calls Tryz.prog 70 #[.slice A0 l0.length c0, .int .i64 a1] w fun e w'=>e= .returned (.int .i64 r)∧Below w.heap.size w w':=by
 have adX:=Tryz.underlying120;have HR0:=ak hr0;have wJ:=ak hc0;clear hr0 hc0;have HB:=ak (Below.refl w.heap.size w);have H:(if(wrap64 (a1-(l0.length:Int)))<0 then(some (-1))else(fZ.l0 k l0 (wrap64 (a1-(l0.length:Int))) 0))=some r:=h;clear h;replace H:=sp H;rcases H with⟨c3,H⟩|⟨c3,H⟩
 ·have fM:=decide_eq_true c3
  (try(have oZ:decide ((a1-(l0.length:Int))<0)=true:=decide_eq_true (by have h_:=c3;unfold wrap64 at h_;omega)));clear c3;obtain rfl:=Option.some.inj H;go_enter Tryz.func70,Tryz.ntmps70;go_wp2;go_ret;exact⟨er,ul HB.out⟩
 ·have fM:=decide_eq_false c3
  (try(have oZ:decide ((a1-(l0.length:Int))<0)=false:=decide_eq_false (by have h_:=c3;unfold wrap64 at h_;omega)));clear c3;have H':=ak H;clear H;go_enter Tryz.func70,Tryz.ntmps70;go_wp2;go_loopg [1,5] k (fun kq v1 v5 w'=>∃(oM:Int) (aK:Int),v1= .int .i64 oM∧v5= .int .i64 aK∧ah (fZ.l0 kq l0 oM aK=some r)∧ah (kq≤k)∧ah (Below w.heap.size w w'))
  case atStart=>exact⟨(wrap64 (a1-(l0.length:Int))),(0),rs,rs,H',⟨Nat.le_refl _⟩,⟨ul HB.out⟩⟩
  case round=>
   clear H';try clear p2
   try clear c3
   try clear fM
   try clear oZ
   obtain⟨oM,aK,rfl,rfl,HA,iC,HB⟩:=hrel
   cases gk with
   |zero=>exact absurd HA.out (by simp[fZ.l0])
   |succ k1=>
    have H:=HA.out;clear HA;simp only[fZ.l0]at H;replace H:=sd H;rcases H with⟨nM,H⟩|⟨nM,H⟩
    ·replace H:=og H;obtain⟨pU,H⟩:=H;replace H:=bd H;obtain⟨abI,A6,H⟩:=H;replace H:=sd H;rcases H with⟨oJ,H⟩|⟨oJ,H⟩
     ·obtain rfl:=Option.some.inj H;have X8:=zi aK;have X9:=zj aK l0.length;obtain⟨ap2,al5,JD,JE⟩:=SS HR0.out aK X8 X9;cases al5;replace JD:=cl HB.out JD;replace JE:=cl HB.out JE;replace X8:=eq_true X8;replace X9:=eq_true X9;go_wp2_with (first|(refine gL 112 23 Tryz.func112 #[.agg #[.string ((nN l0 aK).f0), .string ((nN l0 aK).f1)], .int .i64 oM] ?_;(with_reducible refine(qP.calls ((nN l0 aK).f0) ((nN l0 aK).f1) oM abI _ A6.out).mono ?_);rintro e w8 ⟨rfl,hb⟩;refine⟨_,rfl,?_⟩;replace HB:=bs HB hb;(try clear hb)))
      go_ret;exact⟨er,ul HB.out⟩
     ·have H':=ak H;clear H;have X8:=zi aK;have X9:=zj aK l0.length;obtain⟨ap2,al5,JD,JE⟩:=SS HR0.out aK X8 X9;cases al5;replace JD:=cl HB.out JD;replace JE:=cl HB.out JE;replace X8:=eq_true X8;replace X9:=eq_true X9;go_wp2_with (first|(refine gL 112 23 Tryz.func112 #[.agg #[.string ((nN l0 aK).f0), .string ((nN l0 aK).f1)], .int .i64 oM] ?_;(with_reducible refine(qP.calls ((nN l0 aK).f0) ((nN l0 aK).f1) oM abI _ A6.out).mono ?_);rintro e w9 ⟨rfl,hb⟩;refine⟨_,rfl,?_⟩;replace HB:=bs HB hb;(try clear hb)))
      go_roundg k1
      case measure=>have:=iC.out;omega
      case rel=>exact⟨(abI),(wrap64 (aK+1)),rs,rs,H',⟨by have:=iC.out;omega⟩,⟨ul HB.out⟩⟩
    ·obtain rfl:=Option.some.inj H;go_wp2;go_ret;exact⟨er,ul HB.out⟩
def g_.l0:Nat→List ByteArray→List ByteArray→Int→Option (List ByteArray)
 |0,_,_,_=>none
 |k+1,x0,x3,x4=>if x4<(x0.length:Int)then(if 0≤x4 then(if x4<(x3.length:Int)then(g_.l0 k x0 (x3.set (x4:Int).toNat (kV ByteArray.empty x0 x4)) (wrap64 (x4+1)))else(none))else(none))else(some x3)
def g_.f(k:Nat)(l0:List ByteArray):Option (List ByteArray):=if 0≤(l0.length:Int)then(if((l0.length:Int):Int).toNat≤17592186044416 then(g_.l0 k l0 (List.replicate ((l0.length:Int):Int).toNat (⟨#[]⟩:ByteArray)) 0)else(none))else(none)
set_option maxHeartbeats 8000000 in
set_option maxRecDepth 100000 in
theorem g_.calls(k:Nat)(A0:Option Addr)(c0:Nat)(l0:List ByteArray)(r:List ByteArray)(w:World)(hr0:Kd.C Kd.string w A0 l0.length l0)(hc0:l0.length≤c0)(h:g_.f k l0=some r):
  Calls Tryz.prog 53 #[.slice A0 l0.length c0] w fun e w'=>∃wH:Value,e= .returned (wH)∧Kd.R Kd.string 9 w' w.heap.size (fun _=>True) wH r∧Below w.heap.size w w':=by
 have HR0:=ak hr0;have wJ:=ak hc0;clear hr0 hc0;have HB:=ak (Below.refl w.heap.size w);have H:(if 0≤(l0.length:Int)then(if((l0.length:Int):Int).toNat≤17592186044416 then(g_.l0 k l0 (List.replicate ((l0.length:Int):Int).toNat (⟨#[]⟩:ByteArray)) 0)else(none))else(none))=some r:=h;clear h;replace H:=EG H;obtain⟨sW,Dp,H⟩:=H;replace H:=EG H;obtain⟨fM,oZ,H⟩:=H;obtain⟨auK,ad5⟩:=nm (List.replicate ((l0.length:Int):Int).toNat (⟨#[]⟩:ByteArray));rw[←ad5.out]at H
 (try rw[Option.bind_some]at H);have H':=ak H;clear H;go_enter Tryz.func53,Tryz.ntmps53;go_wp2_with (first|((with_reducible refine bU (N:=7) rfl ?_);refine Kd.X_ Kd.string _ 9 rfl (N:=7) rfl 23 _ _ rfl (l0.length:Int) rfl rfl Tryz.underlying23 (.string ⟨#[]⟩) 16 info9 rfl (by decide) (by omega) (⟨#[]⟩:ByteArray) (ok:=fun _=>True) (pz:=fun _=>True) rfl (fun _ hk=>hk) trivial (of_decide_eq_true (by assumption)) (Nat.le_trans (Nat.mul_le_mul_right _ (of_decide_eq_true (by assumption):(l0.length:Int).toNat≤17592186044416)) (by omega)) (Below.refl _ _) (Nat.le_refl _) ?_;intro auL w4 Fg hb rQ jw;clear rQ jw;(first|rw[←ad5.out]at Fg|(simp only[Int.reduceToNat]at Fg;rw[←ad5.out]at Fg));have ap3:=ak (Kd.fA Fg (aA (ul HB.out)));replace HB:=bs HB hb;clear hb Fg))
 go_loopg [4] k (fun kq v4 w'=>∃(cO:List ByteArray) (eG:Int),v4= .int .i64 eG∧ah (g_.l0 kq l0 cO eG=some r)∧ah (kq≤k)∧ah (Kd.R Kd.string 9 w' w.heap.size (fun _=>True) auL cO)∧ah (Below w.heap.size w w'))
 case atStart=>exact⟨(auK),(0),rs,H',⟨Nat.le_refl _⟩,⟨ur ap3.out⟩,⟨ul HB.out⟩⟩
 case round=>
  clear H';try clear c2
  try clear sW
  try clear Dp
  try clear p2
  try clear c3
  try clear fM
  try clear oZ
  try clear c5
  obtain⟨cO,eG,rfl,HA,iC,kD,HB⟩:=hrel
  cases gk with
  |zero=>exact absurd HA.out (by simp[g_.l0])
  |succ k1=>
   have H:=HA.out;clear HA;simp only[g_.l0]at H;replace H:=sd H;rcases H with⟨mW,H⟩|⟨mW,H⟩
   ·replace H:=og H;obtain⟨oJ,H⟩:=H;replace H:=og H;obtain⟨uV,H⟩:=H;obtain⟨ap4,ajM⟩:=nm (cO.set (eG:Int).toNat (kV ByteArray.empty l0 eG));rw[←ajM.out]at H
    (try rw[Option.bind_some]at H);have H':=ak H;clear H;have al6:=zi eG;have al7:=zj eG l0.length;obtain⟨axh,auM,aau⟩:=Kd.jq HR0.out eG al6 al7;cases auM;replace aau:=cl HB.out aau;replace al6:=eq_true al6;replace al7:=eq_true al7;have p9:=zi eG;have q9:=zj eG (cO.length:Int);obtain⟨go9,co9,eo9,gb9,gl9,cl9,HG9⟩:=Kd.ER kD.out (by omega)
    (first|cases eo9|(injection eo9 with EP Xf Xg;(first|subst EP|(injection EP with EP;subst EP));subst Xg;clear Xf));have GB9:=ak gb9;have GG9:=ak HG9;clear gb9 gl9 HG9;obtain⟨axi,axj⟩:=Kd.NM (⟨#[]⟩:ByteArray) kD.out (eG:Int) p9 q9;replace p9:=eq_true p9;replace q9:=eq_true q9;have al8:=Kd.acA kD.out (eG:Int) (kV ByteArray.empty l0 eG);go_wp2_with (first|((with_reducible refine uK (t:=9) (p:=20) rfl ?_);refine rV (t:=9) (p:=20) (v:=?auN) (w1:=(wr.setCell ⟨go9,(eG:Int).toNat,none⟩ (.string (kV ByteArray.empty l0 eG)))) ?hg ?ho ?hn ?hr ?_;(case ho=>rfl);(case hg=>rfl);(case hn=>rfl);(case hr=>first|(go_simp;done)|(go_simp;rfl));intro Cm hw;have hg:wr.grownBy Cm (some go9):=(by rw[hw];exact al8.2);have Vo:Kd.R Kd.string 9 Cm w.heap.size (fun _=>True) (.slice (some ⟨go9,0,none⟩) cO.length co9) ap4:=(by rw[hw,ajM.out];exact al8.1);clear al8;replace kD:=ak (Vo);replace HB:=ak ((by rw[hw];exact lF (HB.out) GB9.out:Below w.heap.size w Cm));clear hg hw Vo))
    go_roundg k1
    case measure=>have:=iC.out;omega
    case rel=>exact⟨(ap4),(wrap64 (eG+1)),rs,H',⟨by have:=iC.out;omega⟩,⟨ur kD.out⟩,⟨ul HB.out⟩⟩
   ·obtain rfl:=Option.some.inj H;go_wp2;go_ret;exact⟨_,er,ur kD.out,ul HB.out⟩
def vV.f(aY:ByteArray)(bf:ByteArray):Option (ByteArray×ByteArray):=some (aY,bf)
set_option maxHeartbeats 8000000 in
set_option maxRecDepth 100000 in
theorem vV.calls(aY:ByteArray)(bf:ByteArray)(r1:ByteArray)(r2:ByteArray)(w:World)(h:vV.f aY bf=some (r1,r2)):
  Calls Tryz.prog 116 #[.agg #[.string aY, .string bf]] w fun e w'=>e= .returned (.agg #[.string r1, .string r2])∧Below w.heap.size w w':=by
 have adX:=Tryz.underlying120;have Dq:=Tryz.underlying69;have HB:=ak (Below.refl w.heap.size w);have H:(some (aY,bf))=some (r1,r2):=h;clear h;simp only[Option.some.injEq,Prod.mk.injEq]at H;obtain⟨rfl,rfl⟩:=H;go_enter Tryz.func116,Tryz.ntmps116;go_wp2_with (first|(refine bE 1 #[.string aY, .string bf] 120 ?_;intro aav hg w2 hbox hb;have JF:=ak (hbox);have axk:=jY HB hg;have axl:=jY HB hg;replace HB:=bs HB hb;clear hb hbox hg)|(refine bE 2 #[.string (⟨#[]⟩:ByteArray), .string (⟨#[]⟩:ByteArray)] 69 ?_;intro Pj hg w3 hbox hb;have Rx:=ak (hbox);have axn:=ak ((by rw[hg];exact(aA bb):w.heap.size≤Pj));have axo:=ak ((by rw[hg];exact(aA bb):w.heap.size≤Pj));have abJ:=ak ((by rw[hg];exact Nat.ne_of_lt (fC (ub JF.out)):aav≠Pj));have abK:=ak ((by rw[hg];exact Nat.ne_of_gt (fC (ub JF.out)):Pj≠aav));replace JF:=kb JF hb;replace HB:=ak (aG bb hb);clear hb hbox hg)|(refine bE 3 #[.string (⟨#[]⟩:ByteArray), .string (⟨#[]⟩:ByteArray)] 69 ?_;intro Ry hg w4 hbox hb;have ap5:=ak (hbox);have axp:=ak ((by rw[hg];exact(aA bb):w.heap.size≤Ry));have axq:=ak ((by rw[hg];exact(aA bb):w.heap.size≤Ry));have abL:=ak ((by rw[hg];exact Nat.ne_of_lt (fC (ub JF.out)):aav≠Ry));have abM:=ak ((by rw[hg];exact Nat.ne_of_gt (fC (ub JF.out)):Ry≠aav));have Lu:=ak ((by rw[hg];exact Nat.ne_of_lt (fC (ub Rx.out)):Pj≠Ry));have abN:=ak ((by rw[hg];exact Nat.ne_of_gt (fC (ub Rx.out)):Ry≠Pj));replace JF:=kb JF hb;replace Rx:=kb Rx hb;replace HB:=ak (aG bb hb);clear hb hbox hg;have auO:=abJ.out;have auP:=abK.out;have azM:=abL.out;have azN:=abM.out;obtain⟨DT,Fv,DW,Fz⟩:=wO JF.out;have auQ:=abN.out;have auR:=Lu.out;obtain⟨rY,rZ,r_,su⟩:=wO ap5.out;obtain⟨oz,pX,oC,pY⟩:=wO Rx.out))
 refine bodyPost_ret (results_cell_row rfl _ _ Pj 69 #[.string aY, .string bf] (0,0) _ rfl (by(with_reducible repeat(first|refine au ?_ _|refine ay ?_|refine aj ?_ _));refine bK (cs:=#[.string aY, .string (⟨#[]⟩:ByteArray)]) ?_ 1 _ rfl;(with_reducible repeat(first|refine au ?_ _|refine ay ?_|refine aj ?_ _));refine bK (cs:=#[.string (⟨#[]⟩:ByteArray), .string (⟨#[]⟩:ByteArray)]) ?_ 0 _ rfl;(with_reducible repeat(first|refine au ?_ _|refine ay ?_|refine aj ?_ _));refine f_ ?_ Lu.out _;(with_reducible repeat(first|refine au ?_ _|refine ay ?_|refine aj ?_ _));refine f_ ?_ Lu.out _;(with_reducible repeat(first|refine au ?_ _|refine ay ?_|refine aj ?_ _));exact Rx.out) Tryz.underlying69 rfl (by kernel_rfl)) rfl ?_;exact⟨er,bb⟩
def iG.l0:Nat→List (rU)→List (jl)→Int→Option ((List (jl)))
 |0,_,_,_=>none
 |k+1,x0,x3,x4=>if x4<(x0.length:Int)then(if 0≤x4 then((vV.f ((nN x0 x4).f0) ((nN x0 x4).f1)).bind fun ajN=>(if x4<(x3.length:Int)then(iG.l0 k x0 (x3.set (x4:Int).toNat (⟨ajN.1,ajN.2⟩:jl)) (wrap64 (x4+1)))else(none)))else(none))else(some x3)
def iG.f(k:Nat)(l0:List (rU)):Option ((List (jl))):=if 0≤(l0.length:Int)then(if((l0.length:Int):Int).toNat≤8796093022208 then(iG.l0 k l0 (List.replicate ((l0.length:Int):Int).toNat z69) 0)else(none))else(none)
set_option maxHeartbeats 8000000 in
set_option maxRecDepth 100000 in
theorem iG.calls(k:Nat)(A0:Option Addr)(c0:Nat)(l0:List (rU))(r:List (jl))(w:World)(hr0:Kd.C EF w A0 l0.length l0)(hc0:l0.length≤c0)(h:iG.f k l0=some r):
  Calls Tryz.prog 73 #[.slice A0 l0.length c0] w fun e w'=>∃wH:Value,e= .returned (wH)∧Kd.R pV 69 w' w.heap.size (fun _=>True) wH r∧Below w.heap.size w w':=by
 have adX:=Tryz.underlying120;have Dq:=Tryz.underlying69;have HR0:=ak hr0;have wJ:=ak hc0;clear hr0 hc0;have HB:=ak (Below.refl w.heap.size w);have H:(if 0≤(l0.length:Int)then(if((l0.length:Int):Int).toNat≤8796093022208 then(iG.l0 k l0 (List.replicate ((l0.length:Int):Int).toNat z69) 0)else(none))else(none))=some r:=h;clear h;replace H:=EG H;obtain⟨sW,Dp,H⟩:=H;replace H:=EG H;obtain⟨fM,oZ,H⟩:=H;obtain⟨auS,ad6⟩:=nm (List.replicate ((l0.length:Int):Int).toNat z69);rw[←ad6.out]at H
 (try rw[Option.bind_some]at H);have H':=ak H;clear H;go_enter Tryz.func73,Tryz.ntmps73;go_wp2_with (first|((with_reducible refine bU (N:=7) rfl ?_);refine Kd.X_ pV _ 69 rfl (N:=7) rfl 25 _ _ rfl (l0.length:Int) rfl rfl Tryz.underlying25 (.agg #[(.string ⟨#[]⟩),(.string ⟨#[]⟩)]) 32 Hl rfl (by decide) (by omega) z69 (ok:=fun _=>True) (pz:=fun _=>True) (Gg _ _ _ z69) (fun _ hk=>hk) trivial (of_decide_eq_true (by assumption)) (Nat.le_trans (Nat.mul_le_mul_right _ (of_decide_eq_true (by assumption):(l0.length:Int).toNat≤8796093022208)) (by omega)) (Below.refl _ _) (Nat.le_refl _) ?_;intro auT w4 Fg hb rQ jw;clear rQ jw;(first|rw[←ad6.out]at Fg|(simp only[Int.reduceToNat]at Fg;rw[←ad6.out]at Fg));have ap6:=ak (Kd.fA Fg (aA (ul HB.out)));replace HB:=bs HB hb;clear hb Fg))
 go_loopg [4] k (fun kq v4 w'=>∃(cO:List (jl)) (eG:Int),v4= .int .i64 eG∧ah (iG.l0 kq l0 cO eG=some r)∧ah (kq≤k)∧ah (Kd.R pV 69 w' w.heap.size (fun _=>True) auT cO)∧ah (Below w.heap.size w w'))
 case atStart=>exact⟨(auS),(0),rs,H',⟨Nat.le_refl _⟩,⟨ur ap6.out⟩,⟨ul HB.out⟩⟩
 case round=>
  clear H';try clear c2
  try clear sW
  try clear Dp
  try clear p2
  try clear c3
  try clear fM
  try clear oZ
  obtain⟨cO,eG,rfl,HA,iC,kD,HB⟩:=hrel
  cases gk with
  |zero=>exact absurd HA.out (by simp[iG.l0])
  |succ k1=>
   have H:=HA.out;clear HA;simp only[iG.l0]at H;replace H:=sd H;rcases H with⟨mW,H⟩|⟨mW,H⟩
   ·replace H:=og H;obtain⟨oJ,H⟩:=H;replace H:=bd H;obtain⟨⟨abO,abP⟩,A8,H⟩:=H
    (try dsimp only at H);replace H:=og H;obtain⟨wQ,H⟩:=H;obtain⟨ap7,ajO⟩:=nm (cO.set (eG:Int).toNat (⟨abO,abP⟩:jl));rw[←ajO.out]at H
    (try rw[Option.bind_some]at H);have H':=ak H;clear H;have al9:=zi eG;have al_:=zj eG l0.length;obtain⟨axr,auU,aaw,aax⟩:=SS HR0.out eG al9 al_;cases auU;replace aaw:=cl HB.out aaw;replace aax:=cl HB.out aax;replace al9:=eq_true al9;replace al_:=eq_true al_;go_wp2_with (first|(refine gL 116 20 Tryz.func116 #[.agg #[.string ((nN l0 eG).f0), .string ((nN l0 eG).f1)]] ?_;(with_reducible refine(vV.calls ((nN l0 eG).f0) ((nN l0 eG).f1) abO abP _ A8.out).mono ?_);rintro e Cm ⟨rfl,hb⟩;refine⟨_,rfl,?_⟩;replace kD:=rb kD hb;replace HB:=bs HB hb;(try clear hb);have p10:0≤(eG:Int):=of_decide_eq_true (by assumption);have q10:(eG:Int)<((cO.length:Int):Int):=of_decide_eq_true (by assumption);obtain⟨AQ,ad7,ad8,ad9,ama,auV,ad_⟩:=Kd.ER kD.out (by omega);(first|cases ad8|(injection ad8 with EP Xf Xg;(first|subst EP|(injection EP with EP;subst EP));subst Xg;clear Xf));have abQ:=ak ad9;have auW:=ak ad_;clear ad9 ama ad_;obtain⟨auX,aea,aeb,ML,MN⟩:=Kd.Dn kD.out z69 (eG:Int) p10 q10;obtain rfl:=wM aeb;have amb:Cm.cell? ⟨AQ,(eG:Int).toNat*2,none⟩=some (.string ((aH cO eG).f0)):=ML 0 _ rfl;have amc:Cm.cell? ⟨AQ,(eG:Int).toNat*2+1,none⟩=some (.string ((aH cO eG).f1)):=ML 1 _ rfl;have amd:Cm.frozen? ⟨AQ,(eG:Int).toNat*2,none⟩=false:=MN 0;have ame:Cm.frozen? ⟨AQ,(eG:Int).toNat*2+1,none⟩=false:=MN 1;(clear aea ML MN;(try clear aeb));replace p10:=eq_true p10;replace q10:=eq_true q10;have aec:=ak (show Kd.R pV 69 Cm w.heap.size (fun _=>True) (.slice (some ⟨AQ,0,none⟩) cO.length ad7) cO from(ur kD.out));obtain⟨auY,VY,aed,G8,MO⟩:=Kd.Dn aec.out z69 (eG:Int) (of_decide_eq_true (by assumption)) (by have h_:(eG:Int)<((cO.length:Int):Int):=of_decide_eq_true (by assumption);first|exact h_|(have e_:=(Kd.dK kD.out).1;omega)|simpa using h_);obtain rfl:=wM aed;have Ya:=Kd.Zc aec.out (eG:Int) (of_decide_eq_true (by assumption)) (by have h_:(eG:Int)<((cO.length:Int):Int):=of_decide_eq_true (by assumption);first|exact h_|(have e_:=(Kd.dK kD.out).1;omega)|simpa using h_) (seg:=[.string abO, .string abP]) (j:=0) VY G8 (show 2≤2 from by decide) (x':=(⟨abO,abP⟩:jl)) (Gg _ _ _ (⟨abO,abP⟩:jl)) (fun _ hk=>hk);have Yb:=G8 0 _ rfl;(try simp only[show(pV).sz=2 from rfl,Nat.mul_one,Nat.add_zero]at Yb);have Yc:=MO 0;(try simp only[show(pV).sz=2 from rfl,Nat.mul_one,Nat.add_zero]at Yc);have Yd:=G8 1 _ rfl;(try simp only[show(pV).sz=2 from rfl,Nat.mul_one,Nat.add_zero]at Yd);have Ye:=MO 1;(try simp only[show(pV).sz=2 from rfl,Nat.mul_one,Nat.add_zero]at Ye);(clear VY G8 MO;(try clear aed)))|((with_reducible refine uK (t:=69) (p:=21) rfl ?_);refine rV (t:=69) (p:=21) (v:=?amf) (w1:=((Cm.setCell ⟨AQ,(eG:Int).toNat*2,none⟩ (.string abO)).setCell ⟨AQ,(eG:Int).toNat*2+1,none⟩ (.string abP))) ?hg ?ho ?hn ?hr ?_;(case ho=>rfl);(case hg=>rfl);(case hn=>rfl);(case hr=>first|(go_simp;done)|(go_simp;rfl));intro Vj hw;have hg:Cm.grownBy Vj (some AQ):=(by rw[hw];exact Ya.2);have Vo:Kd.R pV 69 Vj w.heap.size (fun _=>True) (.slice (some ⟨AQ,0,none⟩) cO.length ad7) ap7:=(by rw[hw,ajO.out];exact Ya.1);clear Ya;replace kD:=ak (Vo);replace HB:=ak ((by rw[hw];exact lF (lF (HB.out) abQ.out) abQ.out:Below w.heap.size w Vj));clear hg hw Vo))
    go_roundg k1
    case measure=>have:=iC.out;omega
    case rel=>exact⟨(ap7),(wrap64 (eG+1)),rs,H',⟨by have:=iC.out;omega⟩,⟨ur kD.out⟩,⟨ul HB.out⟩⟩
   ·obtain rfl:=Option.some.inj H;go_wp2;go_ret;exact⟨_,er,ur kD.out,ul HB.out⟩
def fD.l0:Nat→List ByteArray→List ByteArray→Int→Option (Bool)
 |0,_,_,_=>none
 |k+1,x0,x1,x5=>if x5<(x0.length:Int)then(if 0≤x5 then(if x5<(x1.length:Int)then(if(kV ByteArray.empty x0 x5).toList=(kV ByteArray.empty x1 x5).toList then(fD.l0 k x0 x1 (wrap64 (x5+1)))else(some false))else(none))else(none))else(some true)
def fD.f(k:Nat)(l0:List ByteArray)(l1:List ByteArray):Option (Bool):=if(l0.length:Int)=(l1.length:Int)then(fD.l0 k l0 l1 0)else(some false)
set_option maxHeartbeats 8000000 in
set_option maxRecDepth 100000 in
theorem fD.calls(k:Nat)(A0:Option Addr)(c0:Nat)(l0:List ByteArray)(A1:Option Addr)(c1:Nat)(l1:List ByteArray)(r:Bool)(w:World)(hr0:Kd.C Kd.string w A0 l0.length l0)(hc0:l0.length≤c0)(hr1:Kd.C Kd.string w A1 l1.length l1)(hc1:l1.length≤c1)(h:fD.f k l0 l1=some r):
  Calls Tryz.prog 35 #[.slice A0 l0.length c0, .slice A1 l1.length c1] w fun e w'=>e= .returned (.bool r)∧eH w w':=by
 have HR0:=ak hr0;have wJ:=ak hc0;clear hr0 hc0;have HR1:=ak hr1;have HC1:=ak hc1;clear hr1 hc1;have H:(if(l0.length:Int)=(l1.length:Int)then(fD.l0 k l0 l1 0)else(some false))=some r:=h;clear h;replace H:=sp H;rcases H with⟨c3,H⟩|⟨c3,H⟩
 ·have fM:=beq_iff_eq.mpr c3;have oZ:=bne_eq_false_iff_eq.mpr c3;have Nl:(l0.length==l1.length)=true:=by first|simpa using c3|(simp at c3⊢;omega)
  clear c3;have H':=ak H;clear H;go_enter Tryz.func35,Tryz.ntmps35;go_wp2;repeat(go_quiet (fail);try go_wp2)
  go_loopg [5] k (fun kq v5 w'=>∃(aK:Int),v5= .int .i64 aK∧ah (fD.l0 kq l0 l1 aK=some r)∧ah (kq≤k)∧eH w w')
  case atStart=>exact⟨(0),rs,H',⟨Nat.le_refl _⟩,dn⟩
  case round=>
   clear H';try clear c1
   try clear p2
   try clear c3
   try clear fM
   try clear oZ
   try clear Nl
   obtain⟨aK,rfl,HA,iC,⟨m1,rfl⟩⟩:=hrel
   cases gk with
   |zero=>exact absurd HA.out (by simp[fD.l0])
   |succ k1=>
    have H:=HA.out;clear HA;simp only[fD.l0]at H;replace H:=sd H;rcases H with⟨nM,H⟩|⟨nM,H⟩
    ·replace H:=og H;obtain⟨pU,H⟩:=H;replace H:=og H;obtain⟨mW,H⟩:=H;replace H:=sq H;rcases H with⟨oJ,EH,H⟩|⟨c7,oJ,EH,H⟩
     ·have H':=ak H;clear H;have Yf:=zi aK;have Yg:=zj aK l0.length;obtain⟨ap8,amg,ahI⟩:=Kd.jq HR0.out aK Yf Yg;cases amg;replace Yf:=eq_true Yf;replace Yg:=eq_true Yg;have Yh:=zi aK;have Yi:=zj aK l1.length;obtain⟨ap9,amh,ahJ⟩:=Kd.jq HR1.out aK Yh Yi;cases amh;replace Yh:=eq_true Yh;replace Yi:=eq_true Yi;go_wp2;repeat(go_quiet (fail);try go_wp2)
      go_roundg k1
      case measure=>have:=iC.out;omega
      case rel=>exact⟨(wrap64 (aK+1)),rs,H',⟨by have:=iC.out;omega⟩,dn⟩
     ·obtain rfl:=Option.some.inj H;have Yf:=zi aK;have Yg:=zj aK l0.length;obtain⟨ap8,amg,ahI⟩:=Kd.jq HR0.out aK Yf Yg;cases amg;replace Yf:=eq_true Yf;replace Yg:=eq_true Yg;have Yh:=zi aK;have Yi:=zj aK l1.length;obtain⟨ap9,amh,ahJ⟩:=Kd.jq HR1.out aK Yh Yi;cases amh;replace Yh:=eq_true Yh;replace Yi:=eq_true Yi;go_wp2;repeat(go_quiet (fail);try go_wp2)
      go_ret;exact⟨rs,dn⟩
    ·obtain rfl:=Option.some.inj H;go_wp2;repeat(go_quiet (fail);try go_wp2)
     go_ret;exact⟨rs,dn⟩
 ·have fM:=beq_eq_false_iff_ne.mpr c3;have oZ:=bne_iff_ne.mpr c3;have Nl:(l0.length==l1.length)=false:=by first|simpa using c3|(simp at c3⊢;omega)
  obtain rfl:=Option.some.inj H;go_enter Tryz.func35,Tryz.ntmps35;go_wp2;repeat(go_quiet (fail);try go_wp2)
  go_ret;exact⟨rs,dn⟩
def tN.f(aY:ByteArray)(bf:ByteArray)(sO:ByteArray)(VZ:ByteArray):Option (Bool):=if aY.toList=sO.toList then(if bf.toList=VZ.toList then(some true)else(some false))else(some false)
set_option maxHeartbeats 8000000 in
set_option maxRecDepth 100000 in
theorem tN.calls(aY:ByteArray)(bf:ByteArray)(sO:ByteArray)(VZ:ByteArray)(r:Bool)(w:World)(h:tN.f aY bf sO VZ=some r):
  Calls Tryz.prog 117 #[.agg #[.string aY, .string bf], .agg #[.string sO, .string VZ]] w fun e w'=>e= .returned (.bool r)∧Below w.heap.size w w':=by
 have Dq:=Tryz.underlying69;have HB:=ak (Below.refl w.heap.size w);have H:(if aY.toList=sO.toList then(if bf.toList=VZ.toList then(some true)else(some false))else(some false))=some r:=h;clear h;replace H:=sq H;rcases H with⟨fM,oZ,H⟩|⟨c3,fM,oZ,H⟩
 ·replace H:=sq H;rcases H with⟨nM,OE,H⟩|⟨c4,nM,OE,H⟩
  ·obtain rfl:=Option.some.inj H;go_enter Tryz.func117,Tryz.ntmps117;go_wp2_with (first|(refine bE 2 #[.string aY, .string bf] 69 ?_;intro MP hg w5 hbox hb;have xY:=ak (hbox);have ajP:=jY HB hg;have ajQ:=jY HB hg;replace HB:=bs HB hb;clear hb hbox hg)|(refine bE 3 #[.string sO, .string VZ] 69 ?_;intro BA hg w6 hbox hb;have V6:=ak (hbox);have ajR:=ak ((by rw[hg];exact(aA bb):w.heap.size≤BA));have ajS:=ak ((by rw[hg];exact(aA bb):w.heap.size≤BA));have CJ:=ak ((by rw[hg];exact Nat.ne_of_lt (fC (ub xY.out)):MP≠BA));have CO:=ak ((by rw[hg];exact Nat.ne_of_gt (fC (ub xY.out)):BA≠MP));replace xY:=kb xY hb;replace HB:=ak (aG bb hb);clear hb hbox hg;have azO:=CJ.out;have azP:=CO.out;obtain⟨vG,zS,vH,zT⟩:=wO xY.out;obtain⟨rY,rZ,r_,su⟩:=wO V6.out))
   go_ret;exact⟨er,bb⟩
  ·obtain rfl:=Option.some.inj H;go_enter Tryz.func117,Tryz.ntmps117;go_wp2_with (first|(refine bE 2 #[.string aY, .string bf] 69 ?_;intro MP hg w10 hbox hb;have xY:=ak (hbox);have ajP:=jY HB hg;have ajQ:=jY HB hg;replace HB:=bs HB hb;clear hb hbox hg)|(refine bE 3 #[.string sO, .string VZ] 69 ?_;intro BA hg Cm hbox hb;have V6:=ak (hbox);have ajR:=ak ((by rw[hg];exact(aA bb):w.heap.size≤BA));have ajS:=ak ((by rw[hg];exact(aA bb):w.heap.size≤BA));have CJ:=ak ((by rw[hg];exact Nat.ne_of_lt (fC (ub xY.out)):MP≠BA));have CO:=ak ((by rw[hg];exact Nat.ne_of_gt (fC (ub xY.out)):BA≠MP));replace xY:=kb xY hb;replace HB:=ak (aG bb hb);clear hb hbox hg;have axt:=CJ.out;have axu:=CO.out;obtain⟨qH,qJ,qK,qL⟩:=wO xY.out;obtain⟨Jf,Jg,Jh,Ji⟩:=wO V6.out))
   go_ret;exact⟨er,bb⟩
 ·obtain rfl:=Option.some.inj H;go_enter Tryz.func117,Tryz.ntmps117;go_wp2_with (first|(refine bE 2 #[.string aY, .string bf] 69 ?_;intro MP hg w15 hbox hb;have xY:=ak (hbox);have ajP:=jY HB hg;have ajQ:=jY HB hg;replace HB:=bs HB hb;clear hb hbox hg)|(refine bE 3 #[.string sO, .string VZ] 69 ?_;intro BA hg w16 hbox hb;have V6:=ak (hbox);have ajR:=ak ((by rw[hg];exact(aA bb):w.heap.size≤BA));have ajS:=ak ((by rw[hg];exact(aA bb):w.heap.size≤BA));have CJ:=ak ((by rw[hg];exact Nat.ne_of_lt (fC (ub xY.out)):MP≠BA));have CO:=ak ((by rw[hg];exact Nat.ne_of_gt (fC (ub xY.out)):BA≠MP));replace xY:=kb xY hb;replace HB:=ak (aG bb hb);clear hb hbox hg;have ap_:=CJ.out;have aqa:=CO.out;obtain⟨tq,tu,tC,tH⟩:=wO xY.out;obtain⟨aay,aaz,aaA,aaB⟩:=wO V6.out))
  go_ret;exact⟨er,bb⟩
def eF.l0:Nat→List (jl)→List (jl)→Int→Option (Bool)
 |0,_,_,_=>none
 |k+1,x0,x1,x5=>if x5<(x0.length:Int)then(if 0≤x5 then(if x5<(x1.length:Int)then((tN.f ((aH x0 x5).f0) ((aH x0 x5).f1) ((aH x1 x5).f0) ((aH x1 x5).f1)).bind fun aqb=>(if aqb=true then(eF.l0 k x0 x1 (wrap64 (x5+1)))else(some false)))else(none))else(none))else(some true)
def eF.f(k:Nat)(l0:List (jl))(l1:List (jl)):Option (Bool):=if(l0.length:Int)=(l1.length:Int)then(eF.l0 k l0 l1 0)else(some false)
def eF.T6:Bool×List (List Nat×List Nat):=(true,[([],[]),([],[]),([0,1],[0,1]),([2],[2]),([],[]),([],[]),([4,5],[4,5]),([6],[6]),([3,7],[3,7]),([8],[8])])
def eF.B6:List Nat:=[0,0,3,7,0,0,48,112,255,511]
theorem eF.tab6:sZ .any (opsOf Tryz.f75 6)=eF.T6:=by kernel_rfl
theorem eF.ajT:pW eF.T6.2 eF.B6=true:=by kernel_rfl
set_option maxHeartbeats 8000000 in
set_option maxRecDepth 100000 in
theorem eF.calls(k:Nat)(A0:Option Addr)(c0:Nat)(l0:List (jl))(A1:Option Addr)(c1:Nat)(l1:List (jl))(r:Bool)(w:World)(hr0:Kd.C pV w A0 l0.length l0)(hc0:l0.length≤c0)(hr1:Kd.C pV w A1 l1.length l1)(hc1:l1.length≤c1)(h:eF.f k l0 l1=some r):
  Calls Tryz.prog 75 #[.slice A0 l0.length c0, .slice A1 l1.length c1] w fun e w'=>e= .returned (.bool r)∧Below w.heap.size w w':=by
 have Dq:=Tryz.underlying69;have HR0:=ak hr0;have wJ:=ak hc0;clear hr0 hc0;have HR1:=ak hr1;have HC1:=ak hc1;clear hr1 hc1;have HB:=ak (Below.refl w.heap.size w);have H:(if(l0.length:Int)=(l1.length:Int)then(eF.l0 k l0 l1 0)else(some false))=some r:=h;clear h;replace H:=sp H;rcases H with⟨c3,H⟩|⟨c3,H⟩
 ·have fM:=beq_iff_eq.mpr c3;have oZ:=bne_eq_false_iff_eq.mpr c3;have Nl:(l0.length==l1.length)=true:=by first|simpa using c3|(simp at c3⊢;omega)
  clear c3;have H':=ak H;clear H;go_enter Tryz.func75,Tryz.ntmps75;go_wp2;go_loopg [5] k (fun kq v5 w'=>∃(aK:Int),v5= .int .i64 aK∧ah (eF.l0 kq l0 l1 aK=some r)∧ah (kq≤k)∧ah (Below w.heap.size w w'))
  case atStart=>exact⟨(0),rs,H',⟨Nat.le_refl _⟩,⟨ul HB.out⟩⟩
  case round=>
   clear H';try clear c1
   try clear p2
   try clear c3
   try clear fM
   try clear oZ
   try clear Nl
   obtain⟨aK,rfl,HA,iC,HB⟩:=hrel
   cases gk with
   |zero=>exact absurd HA.out (by simp[eF.l0])
   |succ k1=>
    have H:=HA.out;clear HA;simp only[eF.l0]at H;replace H:=sd H;rcases H with⟨nM,H⟩|⟨nM,H⟩
    ·replace H:=og H;obtain⟨pU,H⟩:=H;replace H:=og H;obtain⟨mW,H⟩:=H;replace H:=bd H;obtain⟨aqb,A7,H⟩:=H;replace H:=sb H;rcases H with⟨rfl,H⟩|⟨rfl,H⟩
     ·have H':=ak H;clear H;try go_wp2
      replace HB:=ak (eY HB.out);have Yj:=zi aK;have Yk:=zj aK l0.length;obtain⟨Pm,ami,yV,yX⟩:=nC HR0.out aK Yj Yk;have yY:=yX;have yZ:=yV;cases ami;replace yV:=cl HB.out yV;replace yX:=cl HB.out yX;replace Yj:=eq_true Yj;replace Yk:=eq_true Yk;have Yl:=zi aK;have Ym:=zj aK l1.length;obtain⟨Pn,amj,y5,y7⟩:=nC HR1.out aK Yl Ym;have y8:=y7;have y9:=y5;cases amj;replace y5:=cl HB.out y5;replace y7:=cl HB.out y7;replace Yl:=eq_true Yl;replace Ym:=eq_true Ym;refine ro [8] [0,1,2,4,5,6,3,7,8,9] (fun w'=>w'.cell? (Pm.add ((aK).toNat*2))=some (.string ((aH l0 aK).f0))∧w'.cell? ⟨(Pm.add ((aK).toNat*2)).block,(Pm.add ((aK).toNat*2)).off+1,none⟩=some (.string ((aH l0 aK).f1))∧w'.cell? (Pn.add ((aK).toNat*2))=some (.string ((aH l1 aK).f0))∧w'.cell? ⟨(Pn.add ((aK).toNat*2)).block,(Pn.add ((aK).toNat*2)).off+1,none⟩=some (.string ((aH l1 aK).f1))) ⟨((HB.out.cell (World.block_lt_of_cell? w _ yZ)).trans yZ),((HB.out.cell (World.block_lt_of_cell? w _ yY)).trans yY),((HB.out.cell (World.block_lt_of_cell? w _ y9)).trans y9),((HB.out.cell (World.block_lt_of_cell? w _ y8)).trans y8)⟩ ?_
      generalize wr.drew=w9 at HB yV yX y5 y7⊢
      repeat(refine lk (v:=?_) (a':=?_) (gk.trans rfl) rfl rfl ?_ ?_ ?_;rotate_left;(focus (rintro w' ⟨s0,s1,s2,s3⟩;go_simp;with_reducible rfl));rotate_left;(focus (simp only[Act.put,jI,jJ,l_c,bC,bH];rfl)))
      refine ld (N:=some 25) (gk.trans rfl) rfl rfl (fun K hK=>?_);refine nD Tryz.func117 (by kernel_rfl) rfl #[.agg #[.string ((aH l0 aK).f0), .string ((aH l0 aK).f1)], .agg #[.string ((aH l1 aK).f0), .string ((aH l1 aK).f1)]] (by rfl) rfl rfl ma ?_
      with_reducible refine(tN.calls ((aH l0 aK).f0) ((aH l0 aK).f1) ((aH l1 aK).f0) ((aH l1 aK).f1) true _ A7.out).mono ?_
      rintro e w10 ⟨rfl,hb⟩;refine⟨_,rfl,?_⟩;replace HB:=bs HB hb
      (try clear hb);refine hK.out _ _ ⟨((HB.out.cell (World.block_lt_of_cell? w _ yZ)).trans yZ),((HB.out.cell (World.block_lt_of_cell? w _ yY)).trans yY),((HB.out.cell (World.block_lt_of_cell? w _ y9)).trans y9),((HB.out.cell (World.block_lt_of_cell? w _ y8)).trans y8)⟩ ?_;clear hK K;refine no (a':=?_) ?_ ?_
      rotate_left
      ·show Act.put _ (some 25) _=_
       simp only[Act.put,jI,jJ,l_c,bC,bH];rfl
      repeat(refine lk (v:=?_) (a':=?_) (gk.trans rfl) rfl rfl ?_ ?_ ?_;rotate_left;(focus (rintro w' ⟨s0,s1,s2,s3⟩;go_simp;with_reducible rfl));rotate_left;(focus (simp only[Act.put,jI,jJ,l_c,bC,bH];rfl)))
      refine on ?_;try go_wp2
      go_roundg k1
      case measure=>have:=iC.out;omega
      case rel=>exact⟨(wrap64 (aK+1)),rs,H',⟨by have:=iC.out;omega⟩,⟨ul HB.out⟩⟩
     ·obtain rfl:=Option.some.inj H;try go_wp2
      replace HB:=ak (eY HB.out);have Yj:=zi aK;have Yk:=zj aK l0.length;obtain⟨Pm,ami,yV,yX⟩:=nC HR0.out aK Yj Yk;have yY:=yX;have yZ:=yV;cases ami;replace yV:=cl HB.out yV;replace yX:=cl HB.out yX;replace Yj:=eq_true Yj;replace Yk:=eq_true Yk;have Yl:=zi aK;have Ym:=zj aK l1.length;obtain⟨Pn,amj,y5,y7⟩:=nC HR1.out aK Yl Ym;have y8:=y7;have y9:=y5;cases amj;replace y5:=cl HB.out y5;replace y7:=cl HB.out y7;replace Yl:=eq_true Yl;replace Ym:=eq_true Ym;refine ro [8] [0,1,2,4,5,6,3,7,8,9] (fun w'=>w'.cell? (Pm.add ((aK).toNat*2))=some (.string ((aH l0 aK).f0))∧w'.cell? ⟨(Pm.add ((aK).toNat*2)).block,(Pm.add ((aK).toNat*2)).off+1,none⟩=some (.string ((aH l0 aK).f1))∧w'.cell? (Pn.add ((aK).toNat*2))=some (.string ((aH l1 aK).f0))∧w'.cell? ⟨(Pn.add ((aK).toNat*2)).block,(Pn.add ((aK).toNat*2)).off+1,none⟩=some (.string ((aH l1 aK).f1))) ⟨((HB.out.cell (World.block_lt_of_cell? w _ yZ)).trans yZ),((HB.out.cell (World.block_lt_of_cell? w _ yY)).trans yY),((HB.out.cell (World.block_lt_of_cell? w _ y9)).trans y9),((HB.out.cell (World.block_lt_of_cell? w _ y8)).trans y8)⟩ ?_
      generalize wr.drew=Cm at HB yV yX y5 y7⊢
      repeat(refine lk (v:=?_) (a':=?_) (gk.trans rfl) rfl rfl ?_ ?_ ?_;rotate_left;(focus (rintro w' ⟨s0,s1,s2,s3⟩;go_simp;with_reducible rfl));rotate_left;(focus (simp only[Act.put,jI,jJ,l_c,bC,bH];rfl)))
      refine ld (N:=some 25) (gk.trans rfl) rfl rfl (fun K hK=>?_);refine nD Tryz.func117 (by kernel_rfl) rfl #[.agg #[.string ((aH l0 aK).f0), .string ((aH l0 aK).f1)], .agg #[.string ((aH l1 aK).f0), .string ((aH l1 aK).f1)]] (by rfl) rfl rfl ma ?_
      with_reducible refine(tN.calls ((aH l0 aK).f0) ((aH l0 aK).f1) ((aH l1 aK).f0) ((aH l1 aK).f1) false _ A7.out).mono ?_
      rintro e w12 ⟨rfl,hb⟩;refine⟨_,rfl,?_⟩;replace HB:=bs HB hb
      (try clear hb);refine hK.out _ _ ⟨((HB.out.cell (World.block_lt_of_cell? w _ yZ)).trans yZ),((HB.out.cell (World.block_lt_of_cell? w _ yY)).trans yY),((HB.out.cell (World.block_lt_of_cell? w _ y9)).trans y9),((HB.out.cell (World.block_lt_of_cell? w _ y8)).trans y8)⟩ ?_;clear hK K;refine no (a':=?_) ?_ ?_
      rotate_left
      ·show Act.put _ (some 25) _=_
       simp only[Act.put,jI,jJ,l_c,bC,bH];rfl
      repeat(refine lk (v:=?_) (a':=?_) (gk.trans rfl) rfl rfl ?_ ?_ ?_;rotate_left;(focus (rintro w' ⟨s0,s1,s2,s3⟩;go_simp;with_reducible rfl));rotate_left;(focus (simp only[Act.put,jI,jJ,l_c,bC,bH];rfl)))
      refine on ?_;try go_wp2
      go_ret;exact⟨er,ul HB.out⟩
    ·obtain rfl:=Option.some.inj H;go_wp2;go_ret;exact⟨er,ul HB.out⟩
 ·have fM:=beq_eq_false_iff_ne.mpr c3;have oZ:=bne_iff_ne.mpr c3;have Nl:(l0.length==l1.length)=false:=by first|simpa using c3|(simp at c3⊢;omega)
  obtain rfl:=Option.some.inj H;go_enter Tryz.func75,Tryz.ntmps75;go_wp2;go_ret;exact⟨er,ul HB.out⟩
theorem amk:(Tryz.prog.info? 28).map (fun i=>(i.zero,i.size,i.bytes))=some (some (.agg #[(.slice none 0 0),(.slice none 0 0),(.slice none 0 0)]),3,72):=by kernel_rfl
mutual
def kQ.f:Nat→List (rU)→List ByteArray→List (Di)→Option ((List (jl))×List ByteArray×(List (pq)))
 |0,_,_,_=>none
 |k+1,bM,cZ,aC=>(iG.f k bM).bind fun t119=>((g_.f k cZ).bind fun EL=>((if 0≤(aC.length:Int)then(if((aC.length:Int):Int).toNat≤3909374676536 then(jQ.l0 k aC (List.replicate ((aC.length:Int):Int).toNat z28) 0)else(none))else(none)).bind fun JG=>(some (t119,EL,JG))))
def jQ.l0:Nat→List (Di)→List (pq)→Int→Option ((List (pq)))
 |0,_,_,_=>none
 |k+1,x0,x3,x4=>if x4<(x0.length:Int)then(if 0≤x4 then((kQ.f k ((jS x0 x4).f0) ((jS x0 x4).f1) ((jS x0 x4).f2)).bind fun aee=>(if x4<(x3.length:Int)then(jQ.l0 k x0 (x3.set (x4:Int).toNat (⟨aee.1,aee.2.1,aee.2.2⟩:pq)) (wrap64 (x4+1)))else(none)))else(none))else(some x3)
end
def jQ.f(k:Nat)(l0:List (Di)):Option ((List (pq))):=if 0≤(l0.length:Int)then(if((l0.length:Int):Int).toNat≤3909374676536 then(jQ.l0 k l0 (List.replicate ((l0.length:Int):Int).toNat z28) 0)else(none))else(none)
theorem kQ.Po(k:Nat)(bM:List (rU))(cZ:List ByteArray)(aC:List (Di)):kQ.f (k+1) bM cZ aC=((iG.f k bM).bind fun t119=>((g_.f k cZ).bind fun EL=>((jQ.f k aC).bind fun JG=>(some (t119,EL,JG))))):=by simp only[kQ.f,jQ.f]
set_option maxHeartbeats 8000000 in
set_option maxRecDepth 100000 in
theorem kQ.pair(k:Nat):(∀(gW:Option Addr) (gX:Nat) (bM:List (rU)) (iM:Option Addr) (iO:Nat) (cZ:List ByteArray) (fF:Option Addr) (dR:Nat) (aC:List (Di)) (r1:List (jl)) (r2:List ByteArray) (r3:List (pq)) (w:World) (mG:Kd.C EF w gW bM.length bM) (mJ:bM.length≤gX) (mM:Kd.C Kd.string w iM cZ.length cZ) (mO:cZ.length≤iO) (jL:Kd.C Vl w fF aC.length aC) (jM:aC.length≤dR) (h:kQ.f k bM cZ aC=some (r1,r2,r3)),
  Calls Tryz.prog 31 #[.agg #[.slice gW bM.length gX, .slice iM cZ.length iO, .slice fF aC.length dR]] w fun e w'=>∃wH v1_ v2_:Value,e= .returned (.agg #[wH,v1_,v2_])∧Kd.R pV 69 w' w.heap.size (fun _=>True) wH r1∧Kd.R Kd.string 9 w' w.heap.size (fun _=>True) v1_ r2∧Kd.R k28 28 w' w.heap.size (fun k_=>some k_≠(wH:Value).ownBlock∧some k_≠(v1_:Value).ownBlock) v2_ r3∧Below w.heap.size w w')∧
  (∀(A0:Option Addr) (c0:Nat) (l0:List (Di)) (r:List (pq)) (w:World) (hr0:Kd.C Vl w A0 l0.length l0) (hc0:l0.length≤c0) (h:jQ.f k l0=some r),
  Calls Tryz.prog 74 #[.slice A0 l0.length c0] w fun e w'=>∃wH:Value,e= .returned (wH)∧Kd.R k28 28 w' w.heap.size (fun _=>True) wH r∧Below w.heap.size w w'):=by
 induction k using Nat.strongRecOn with
 |_ k ih=>
 refine⟨?_,?_⟩
 ·cases k with
  |zero=>intro gW gX bM iM iO cZ fF dR aC r1 r2 r3 w mG mJ mM mO jL jM h;exact absurd h (by simp[kQ.f])
  |succ k=>
  have ihB:=(ih k (Nat.lt_succ_self k)).2;clear ih;intro gW gX bM iM iO cZ fF dR aC r1 r2 r3 w mG mJ mM mO jL jM h;rw[kQ.Po]at h;have aml:=Tryz.underlying44;have Na:=Tryz.underlying28;have lY:=ak mG;have lZ:=ak mJ;clear mG mJ;have oQ:=ak mM;have qh:=ak mO;clear mM mO;have jc:=ak jL;have kC:=ak jM;clear jL jM;have HB:=ak (Below.refl w.heap.size w);have H:((iG.f k bM).bind fun t119=>((g_.f k cZ).bind fun EL=>((jQ.f k aC).bind fun JG=>(some (t119,EL,JG)))))=some (r1,r2,r3):=h;clear h;replace H:=bd H;obtain⟨t119,A2,H⟩:=H;replace H:=bd H;obtain⟨EL,A3,H⟩:=H;replace H:=bd H;obtain⟨JG,A4,H⟩:=H;simp only[Option.some.injEq,Prod.mk.injEq]at H;obtain⟨rfl,rfl,rfl⟩:=H;go_enter Tryz.func31,Tryz.ntmps31;go_wp2_with (first|(refine bE 1 #[.slice gW bM.length gX, .slice iM cZ.length iO, .slice fF aC.length dR] 44 ?_;intro zX hg w5 hbox hb;have jC:=ak (hbox);have apT:=jY HB hg;have apU:=jY HB hg;replace HB:=bs HB hb;clear hb hbox hg)|(refine bE 2 #[.slice none 0 0, .slice none 0 0, .slice none 0 0] 28 ?_;intro uQ hg w6 hbox hb;have zY:=ak (hbox);have axv:=ak ((by rw[hg];exact(aA bb):w.heap.size≤uQ));have axw:=ak ((by rw[hg];exact(aA bb):w.heap.size≤uQ));have abR:=ak ((by rw[hg];exact Nat.ne_of_lt (fC (ub jC.out)):zX≠uQ));have abS:=ak ((by rw[hg];exact Nat.ne_of_gt (fC (ub jC.out)):uQ≠zX));replace jC:=kb jC hb;replace HB:=ak (aG bb hb);clear hb hbox hg)|(refine bE 3 #[.slice none 0 0, .slice none 0 0, .slice none 0 0] 28 ?_;intro wK hg w7 hbox hb;have xZ:=ak (hbox);have axx:=ak ((by rw[hg];exact(aA bb):w.heap.size≤wK));have axy:=ak ((by rw[hg];exact(aA bb):w.heap.size≤wK));have LC:=ak ((by rw[hg];exact Nat.ne_of_lt (fC (ub jC.out)):zX≠wK));have abT:=ak ((by rw[hg];exact Nat.ne_of_gt (fC (ub jC.out)):wK≠zX));have CP:=ak ((by rw[hg];exact Nat.ne_of_lt (fC (ub zY.out)):uQ≠wK));have abU:=ak ((by rw[hg];exact Nat.ne_of_gt (fC (ub zY.out)):wK≠uQ));replace jC:=kb jC hb;replace zY:=kb zY hb;replace HB:=ak (aG bb hb);clear hb hbox hg;have auQ:=abR.out;have auR:=abS.out;have azQ:=LC.out;have azR:=abT.out;obtain⟨oz,pX,xB,oC,pY,xC⟩:=jP jC.out)|(refine gL 73 6 Tryz.func73 #[.slice gW bM.length gX] ?_;(with_reducible refine(iG.calls k _ _ bM t119 _ (cu (Kd.aN lY.out HB.out)) lZ.out A2.out).mono ?_);rintro e Cm ⟨azS,rfl,ho0,hb⟩;refine⟨_,rfl,?_⟩;have Pq:=ak (Kd.fA ho0 (aA bb));replace jC:=kb jC hb;replace zY:=kb zY hb;replace xZ:=kb xZ hb;replace HB:=ak (aG bb hb);(try clear hb);(try clear ho0);obtain⟨Np,Nq,auZ⟩:=Kd.eU Pq.out;subst auZ;have ao3:=abU.out;have ao4:=CP.out;obtain⟨Jf,Jg,NW,Jh,Ji,NY⟩:=jP xZ.out;obtain⟨lI,lJ,qM,lK,lM,qN⟩:=jP jC.out)|(refine gL 53 10 Tryz.func53 #[.slice iM cZ.length iO] ?_;(with_reducible refine(g_.calls k _ _ cZ EL _ (Kd.aN oQ.out bb) qh.out A3.out).mono ?_);rintro e w16 ⟨azT,rfl,ho0,hb⟩;refine⟨_,rfl,?_⟩;have V7:=ak (Kd.fA ho0 (aA bb));replace Pq:=ak (Kd.mV (ur (Kd.dM (Kd.gZ (p:=⟨wK,0,none⟩) (Kd.jr Pq.out xZ.out (by decide)) (fun _ hk=>hk.2) (.slice Np t119.length Nq)) (fun _ h_=>h_.1))) hb);replace jC:=ak (iD (g:=zX) (o:= .cells #[.slice gW bM.length gX, .slice iM cZ.length iO, .slice fF aC.length dR] 44 (0,0)) (by(with_reducible repeat(first|refine au ?_ _|refine ay ?_|refine aj ?_ _));refine f_ ?_ LC.out _;(with_reducible repeat(first|refine au ?_ _|refine ay ?_|refine aj ?_ _));exact jC.out) hb);replace zY:=ak (iD (g:=uQ) (o:= .cells #[.slice none 0 0, .slice none 0 0, .slice none 0 0] 28 (0,0)) (by(with_reducible repeat(first|refine au ?_ _|refine ay ?_|refine aj ?_ _));refine f_ ?_ CP.out _;(with_reducible repeat(first|refine au ?_ _|refine ay ?_|refine aj ?_ _));exact zY.out) hb);replace xZ:=ak (iD (g:=wK) (o:= .cells #[.slice Np t119.length Nq, .slice none 0 0, .slice none 0 0] 28 (0,0)) (by(with_reducible repeat(first|refine au ?_ _|refine ay ?_|refine aj ?_ _));refine bK (cs:=#[.slice none 0 0, .slice none 0 0, .slice none 0 0]) ?_ 0 _ rfl;(with_reducible repeat(first|refine au ?_ _|refine ay ?_|refine aj ?_ _));exact xZ.out) hb);replace HB:=ak (aG bb hb);(try clear hb);(try clear ho0);obtain⟨Gz,Fq,alx⟩:=Kd.eU V7.out;subst alx;obtain⟨tq,tu,uG,tC,tH,uH⟩:=jP xZ.out;obtain⟨aay,aaz,ahK,aaA,aaB,ahL⟩:=jP jC.out)|(refine gL 74 14 Tryz.func74 #[.slice fF aC.length dR] ?_;(with_reducible refine(ihB _ _ aC JG _ (Kd.aN jc.out bb) kC.out A4.out).mono ?_);rintro e w20 ⟨azU,rfl,ho0,hb⟩;refine⟨_,rfl,?_⟩;have ajU:=ak (Kd.fA (Kd.Yn (Kd.Yn (Kd.rE (Kd.rE ho0 (Kd.yB (ur (Kd.dM (Kd.gZ (p:=⟨wK,1,none⟩) (Kd.jr Pq.out xZ.out (by decide)) (fun _ hk=>hk.2) (.slice Gz EL.length Fq)) (fun _ h_=>h_.1))))) (Kd.yB (ur (Kd.dM (Kd.gZ (p:=⟨wK,1,none⟩) (Kd.jr V7.out xZ.out (by decide)) (fun _ hk=>hk.2) (.slice Gz EL.length Fq)) (fun _ h_=>h_.1))))) (g:=uQ) (o:= .cells #[.slice none 0 0, .slice none 0 0, .slice none 0 0] 28 (0,0)) (by(with_reducible repeat(first|refine au ?_ _|refine ay ?_|refine aj ?_ _));refine f_ ?_ CP.out _;(with_reducible repeat(first|refine au ?_ _|refine ay ?_|refine aj ?_ _));exact zY.out)) (g:=wK) (o:= .cells #[.slice Np t119.length Nq, .slice Gz EL.length Fq, .slice none 0 0] 28 (0,0)) (by(with_reducible repeat(first|refine au ?_ _|refine ay ?_|refine aj ?_ _));refine bK (cs:=#[.slice Np t119.length Nq, .slice none 0 0, .slice none 0 0]) ?_ 1 _ rfl;(with_reducible repeat(first|refine au ?_ _|refine ay ?_|refine aj ?_ _));exact xZ.out)) (aA bb));replace Pq:=ak (Kd.mV (ur (Kd.dM (Kd.gZ (p:=⟨wK,1,none⟩) (Kd.jr Pq.out xZ.out (by decide)) (fun _ hk=>hk.2) (.slice Gz EL.length Fq)) (fun _ h_=>h_.1))) hb);replace V7:=ak (Kd.mV (ur (Kd.dM (Kd.gZ (p:=⟨wK,1,none⟩) (Kd.jr V7.out xZ.out (by decide)) (fun _ hk=>hk.2) (.slice Gz EL.length Fq)) (fun _ h_=>h_.1))) hb);replace jC:=ak (iD (g:=zX) (o:= .cells #[.slice gW bM.length gX, .slice iM cZ.length iO, .slice fF aC.length dR] 44 (0,0)) (by(with_reducible repeat(first|refine au ?_ _|refine ay ?_|refine aj ?_ _));refine f_ ?_ LC.out _;(with_reducible repeat(first|refine au ?_ _|refine ay ?_|refine aj ?_ _));exact jC.out) hb);replace zY:=ak (iD (g:=uQ) (o:= .cells #[.slice none 0 0, .slice none 0 0, .slice none 0 0] 28 (0,0)) (by(with_reducible repeat(first|refine au ?_ _|refine ay ?_|refine aj ?_ _));refine f_ ?_ CP.out _;(with_reducible repeat(first|refine au ?_ _|refine ay ?_|refine aj ?_ _));exact zY.out) hb);replace xZ:=ak (iD (g:=wK) (o:= .cells #[.slice Np t119.length Nq, .slice Gz EL.length Fq, .slice none 0 0] 28 (0,0)) (by(with_reducible repeat(first|refine au ?_ _|refine ay ?_|refine aj ?_ _));refine bK (cs:=#[.slice Np t119.length Nq, .slice none 0 0, .slice none 0 0]) ?_ 1 _ rfl;(with_reducible repeat(first|refine au ?_ _|refine ay ?_|refine aj ?_ _));exact xZ.out) hb);replace HB:=ak (aG bb hb);(try clear hb);(try clear ho0);obtain⟨QD,QE,alP⟩:=Kd.eU ajU.out;subst alP;obtain⟨Jk,Oc,Oe,Jl,Og,Oh⟩:=jP xZ.out;obtain⟨asM,asN,asO,asP,asQ,asR⟩:=jP zY.out))
  refine bodyPost_ret (results_cell_row rfl _ _ uQ 28 #[.slice Np t119.length Nq, .slice Gz EL.length Fq, .slice QD JG.length QE] (0,0) _ rfl (by(with_reducible repeat(first|refine au ?_ _|refine ay ?_|refine aj ?_ _));refine bK (cs:=#[.slice Np t119.length Nq, .slice Gz EL.length Fq, .slice none 0 0]) ?_ 2 _ rfl;(with_reducible repeat(first|refine au ?_ _|refine ay ?_|refine aj ?_ _));refine bK (cs:=#[.slice Np t119.length Nq, .slice none 0 0, .slice none 0 0]) ?_ 1 _ rfl;(with_reducible repeat(first|refine au ?_ _|refine ay ?_|refine aj ?_ _));refine bK (cs:=#[.slice none 0 0, .slice none 0 0, .slice none 0 0]) ?_ 0 _ rfl;(with_reducible repeat(first|refine au ?_ _|refine ay ?_|refine aj ?_ _));refine f_ ?_ CP.out _;(with_reducible repeat(first|refine au ?_ _|refine ay ?_|refine aj ?_ _));exact zY.out) Tryz.underlying28 rfl (by kernel_rfl)) rfl ?_;exact⟨_,_,_,er,ur (Kd.dM (Kd.gZ (p:=⟨uQ,2,none⟩) (Kd.gZ (p:=⟨uQ,1,none⟩) (Kd.gZ (p:=⟨uQ,0,none⟩) (Kd.gZ (p:=⟨wK,2,none⟩) (Kd.jr (Kd.jr Pq.out xZ.out (by decide)) zY.out (by decide)) (fun _ hk=>hk.1.2) (.slice QD JG.length QE)) (fun _ hk=>hk.2) (.slice Np t119.length Nq)) (fun _ hk=>hk.2) (.slice Gz EL.length Fq)) (fun _ hk=>hk.2) (.slice QD JG.length QE)) (fun _ hk=>trivial)),ur (Kd.dM (Kd.gZ (p:=⟨uQ,2,none⟩) (Kd.gZ (p:=⟨uQ,1,none⟩) (Kd.gZ (p:=⟨uQ,0,none⟩) (Kd.gZ (p:=⟨wK,2,none⟩) (Kd.jr (Kd.jr V7.out xZ.out (by decide)) zY.out (by decide)) (fun _ hk=>hk.1.2) (.slice QD JG.length QE)) (fun _ hk=>hk.2) (.slice Np t119.length Nq)) (fun _ hk=>hk.2) (.slice Gz EL.length Fq)) (fun _ hk=>hk.2) (.slice QD JG.length QE)) (fun _ hk=>trivial)),ur (Kd.dM (Kd.gZ (p:=⟨uQ,2,none⟩) (Kd.gZ (p:=⟨uQ,1,none⟩) (Kd.gZ (p:=⟨uQ,0,none⟩) (Kd.gZ (p:=⟨wK,2,none⟩) (Kd.dM (Kd.dM ajU.out (fun k_ hk=>(⟨hk,hk.2⟩:_∧k_≠wK))) (fun k_ hk=>(⟨hk,hk.1.1.2⟩:_∧k_≠uQ))) (fun _ hk=>hk.1.2) (.slice QD JG.length QE)) (fun _ hk=>hk.2) (.slice Np t119.length Nq)) (fun _ hk=>hk.2) (.slice Gz EL.length Fq)) (fun _ hk=>hk.2) (.slice QD JG.length QE)) (fun _ hk=>⟨hk.1.1.1.1.1.2,hk.1.1.1.1.2⟩)),bb⟩
 ·intro A0 c0 l0 r w hr0 hc0 h;have aml:=Tryz.underlying44;have Na:=Tryz.underlying28;have HR0:=ak hr0;have wJ:=ak hc0;clear hr0 hc0;have HB:=ak (Below.refl w.heap.size w);have H:(if 0≤(l0.length:Int)then(if((l0.length:Int):Int).toNat≤3909374676536 then(jQ.l0 k l0 (List.replicate ((l0.length:Int):Int).toNat z28) 0)else(none))else(none))=some r:=h;clear h;replace H:=EG H;obtain⟨sW,Dp,H⟩:=H;replace H:=EG H;obtain⟨fM,oZ,H⟩:=H;obtain⟨y101,aef⟩:=nm (List.replicate ((l0.length:Int):Int).toNat z28);rw[←aef.out]at H
  (try rw[Option.bind_some]at H);have H':=ak H;clear H;go_enter Tryz.func74,Tryz.ntmps74;go_wp2_with (first|((with_reducible refine bU (N:=7) rfl ?_);refine Kd.X_ k28 _ 28 rfl (N:=7) rfl 26 _ _ rfl (l0.length:Int) rfl rfl Tryz.underlying26 (.agg #[(.slice none 0 0),(.slice none 0 0),(.slice none 0 0)]) 72 amk rfl (by decide) (by omega) z28 (ok:=fun _=>True) (pz:=fun _=>True) (Za _ _ _ z28 (Kd.Pv _ _ _ _ _) (Kd.Pv _ _ _ _ _) (Kd.Pv _ _ _ _ _)) (fun _ hk=>hk) trivial (of_decide_eq_true (by assumption)) (Nat.le_trans (Nat.mul_le_mul_right _ (of_decide_eq_true (by assumption):(l0.length:Int).toNat≤3909374676536)) (by omega)) (Below.refl _ _) (Nat.le_refl _) ?_;intro au0 w4 Fg hb rQ jw;clear rQ jw;(first|rw[←aef.out]at Fg|(simp only[Int.reduceToNat]at Fg;rw[←aef.out]at Fg));have aqc:=ak (Kd.fA Fg (aA (ul HB.out)));replace HB:=bs HB hb;clear hb Fg))
  go_loopg [4] k (fun kq v4 w'=>∃(cO:List (pq)) (eG:Int),v4= .int .i64 eG∧ah (jQ.l0 kq l0 cO eG=some r)∧ah (kq≤k)∧ah (Kd.R k28 28 w' w.heap.size (fun _=>True) au0 cO)∧ah (Below w.heap.size w w'))
  case atStart=>exact⟨(y101),(0),rs,H',⟨Nat.le_refl _⟩,⟨ur aqc.out⟩,⟨ul HB.out⟩⟩
  case round=>
   clear H';try clear c2
   try clear sW
   try clear Dp
   try clear p2
   try clear c3
   try clear fM
   try clear oZ
   obtain⟨cO,eG,rfl,HA,iC,kD,HB⟩:=hrel
   cases gk with
   |zero=>exact absurd HA.out (by simp[jQ.l0])
   |succ k1=>
    have H:=HA.out;clear HA;simp only[jQ.l0]at H;replace H:=sd H;rcases H with⟨mW,H⟩|⟨mW,H⟩
    ·replace H:=og H;obtain⟨oJ,H⟩:=H;replace H:=bd H;obtain⟨⟨t105,BU,EY⟩,A8,H⟩:=H
     (try dsimp only at H);replace H:=og H;obtain⟨wQ,H⟩:=H;obtain⟨y114,ajV⟩:=nm (cO.set (eG:Int).toNat (⟨t105,BU,EY⟩:pq));rw[←ajV.out]at H
     (try rw[Option.bind_some]at H);have H':=ak H;clear H;have amm:=zi eG;have amn:=zj eG l0.length;obtain⟨axz,amo,amq,amr,ams,amu,amv,au1,aaC,aaD,aaE,aaF,aaG,aaH,aaI,aaJ,aaK⟩:=Xe HR0.out eG amm amn;cases au1;replace aaC:=cl HB.out aaC;replace aaD:=cl HB.out aaD;replace aaE:=cl HB.out aaE;have ahM:=ak aaG;have ahN:=ak aaF;clear aaG aaF;have ahO:=ak aaI;have ahP:=ak aaH;clear aaI aaH;have ahQ:=ak aaK;have ahR:=ak aaJ;clear aaK aaJ;replace amm:=eq_true amm;replace amn:=eq_true amn;go_wp2_with (first|(refine gL 31 20 Tryz.func31 #[.agg #[.slice amo ((jS l0 eG).f0).length amq, .slice amr ((jS l0 eG).f1).length ams, .slice amu ((jS l0 eG).f2).length amv]] ?_;(with_reducible refine((ih k1 (by have:=iC.out;omega)).1 _ _ ((jS l0 eG).f0) _ _ ((jS l0 eG).f1) _ _ ((jS l0 eG).f2) t105 BU EY _ (cu (Kd.aN ahM.out HB.out)) ahN.out (cu (Kd.aN ahO.out HB.out)) ahP.out (cu (Kd.aN ahQ.out HB.out)) ahR.out A8.out).mono ?_);rintro e Cm ⟨ahS,v109,ahT,rfl,ho0,ho1,ho2,hb⟩;refine⟨_,rfl,?_⟩;have aeg:=ak (Kd.fA ho0 (aA (ul HB.out)));have aeh:=ak (Kd.fA ho1 (aA (ul HB.out)));have aei:=ak (Kd.fA (Kd.rE ho2 (Kd.yB (ur kD.out))) (aA (ul HB.out)));replace kD:=ak (Kd.dM (Kd.Yo (Kd.Yo (Kd.Yo (Kd.aqd (ur kD.out) hb) (Kd.oO ho0)) (Kd.oO ho1)) (Kd.oO ho2)) (fun _ h_=>h_.1));replace HB:=bs HB hb;(try clear hb);(try clear ho0);(try clear ho1);(try clear ho2);have p10:0≤(eG:Int):=of_decide_eq_true (by assumption);have q10:(eG:Int)<((cO.length:Int):Int):=of_decide_eq_true (by assumption);obtain⟨AQ,ad7,ad8,ad9,ama,auV,ad_⟩:=Kd.ER kD.out (by omega);(first|cases ad8|(injection ad8 with EP Xf Xg;(first|subst EP|(injection EP with EP;subst EP));subst Xg;clear Xf));have abQ:=ak ad9;have auW:=ak ad_;clear ad9 ama ad_;obtain⟨auX,aea,aeb,ML,MN⟩:=Kd.Dn kD.out z28 (eG:Int) p10 q10;obtain⟨amw,amx,amy,rfl,au2,au3,au4⟩:=Le aeb;have amb:Cm.cell? ⟨AQ,(eG:Int).toNat*3,none⟩=some (amw):=ML 0 _ rfl;have amc:Cm.cell? ⟨AQ,(eG:Int).toNat*3+1,none⟩=some (amx):=ML 1 _ rfl;have au5:Cm.cell? ⟨AQ,(eG:Int).toNat*3+2,none⟩=some (amy):=ML 2 _ rfl;have amd:Cm.frozen? ⟨AQ,(eG:Int).toNat*3,none⟩=false:=MN 0;have ame:Cm.frozen? ⟨AQ,(eG:Int).toNat*3+1,none⟩=false:=MN 1;have au6:Cm.frozen? ⟨AQ,(eG:Int).toNat*3+2,none⟩=false:=MN 2;(clear aea ML MN;(try clear aeb));replace p10:=eq_true p10;replace q10:=eq_true q10;have n_:=ak (Kd.dM (ok':=(fun k_=>some k_≠(ahS:Value).ownBlock∧some k_≠(v109:Value).ownBlock∧some k_≠(ahT:Value).ownBlock)) kD.out (fun k_ hk=>⟨hk.1.1.2,⟨hk.1.2,hk.2⟩⟩));clear kD;have kD:=n_;clear n_;have aec:=ak (show Kd.R k28 28 Cm w.heap.size (fun _=>True) (.slice (some ⟨AQ,0,none⟩) cO.length ad7) cO from(ur (Kd.dM kD.out (fun _ hk=>trivial))));obtain⟨auY,VY,aed,G8,MO⟩:=Kd.Dn aec.out z28 (eG:Int) (of_decide_eq_true (by assumption)) (by have h_:(eG:Int)<((cO.length:Int):Int):=of_decide_eq_true (by assumption);first|exact h_|(have e_:=(Kd.dK kD.out).1;omega)|simpa using h_);obtain⟨au7,au8,au9,rfl,au_,ava,avb⟩:=Le aed;have Ya:=Kd.Zc aec.out (eG:Int) (of_decide_eq_true (by assumption)) (by have h_:(eG:Int)<((cO.length:Int):Int):=of_decide_eq_true (by assumption);first|exact h_|(have e_:=(Kd.dK kD.out).1;omega)|simpa using h_) (seg:=[ahS,v109,ahT]) (j:=0) VY G8 (show 3≤3 from by decide) (x':=(⟨t105,BU,EY⟩:pq)) (Za _ _ _ (⟨t105,BU,EY⟩:pq) (Kd.dM (Kd.Ci (aeg.out) (Kd.Jj kD.out) (by decide)) (fun k_ hk=>⟨trivial,fun e_=>(hk.2) (by rw[e_];rfl)⟩)) (Kd.dM (Kd.Ci (aeh.out) (Kd.Jj kD.out) (by decide)) (fun k_ hk=>⟨trivial,fun e_=>(hk.2) (by rw[e_];rfl)⟩)) (Kd.dM (aei.out) (fun k_ hk=>⟨trivial,fun e_=>(hk.2) (by rw[e_];rfl)⟩))) (fun _ hk=>hk);have Yb:=G8 0 _ rfl;(try simp only[show(k28).sz=3 from rfl,Nat.mul_one,Nat.add_zero]at Yb);have Yc:=MO 0;(try simp only[show(k28).sz=3 from rfl,Nat.mul_one,Nat.add_zero]at Yc);have Yd:=G8 1 _ rfl;(try simp only[show(k28).sz=3 from rfl,Nat.mul_one,Nat.add_zero]at Yd);have Ye:=MO 1;(try simp only[show(k28).sz=3 from rfl,Nat.mul_one,Nat.add_zero]at Ye);have amA:=G8 2 _ rfl;(try simp only[show(k28).sz=3 from rfl,Nat.mul_one,Nat.add_zero]at amA);have amB:=MO 2;(try simp only[show(k28).sz=3 from rfl,Nat.mul_one,Nat.add_zero]at amB);(clear VY G8 MO;(try clear aed)))|((with_reducible refine uK (t:=28) (p:=21) rfl ?_);have avc:=fun(a:Addr) (m:Mode) (w:World)=>run_store Tryz.prog w a ahS m (by obtain⟨_,_,e_⟩:=Kd.eU aeg.out;rw[e_];rfl);have avd:=fun(a:Addr) (m:Mode) (w:World)=>run_store Tryz.prog w a v109 m (by obtain⟨_,_,e_⟩:=Kd.eU aeh.out;rw[e_];rfl);have ave:=fun(a:Addr) (m:Mode) (w:World)=>run_store Tryz.prog w a ahT m (by obtain⟨_,_,e_⟩:=Kd.eU aei.out;rw[e_];rfl);refine rV (t:=28) (p:=21) (v:=?amf) (w1:=(((Cm.setCell ⟨AQ,(eG:Int).toNat*3,none⟩ (ahS)).setCell ⟨AQ,(eG:Int).toNat*3+1,none⟩ (v109)).setCell ⟨AQ,(eG:Int).toNat*3+2,none⟩ (ahT))) ?hg ?ho ?hn ?hr ?_;(case ho=>rfl);(case hg=>rfl);(case hn=>rfl);(case hr=>first|(go_simp;done)|(go_simp;rfl));intro Vj hw;have hg:Cm.grownBy Vj (some AQ):=(by rw[hw];exact Ya.2);have Vo:Kd.R k28 28 Vj w.heap.size (fun _=>True) (.slice (some ⟨AQ,0,none⟩) cO.length ad7) y114:=(by rw[hw,ajV.out];exact Ya.1);clear Ya;have iH:=ak (Vo);have iI:=ak ((by rw[hw];exact lF (lF (lF (HB.out) abQ.out) abQ.out) abQ.out:Below w.heap.size w Vj));clear kD;clear HB;clear aeg;clear aeh;clear aei;have kD:=iH;have HB:=iI;clear iH iI;clear hg hw Vo))
     go_roundg k1
     case measure=>have:=iC.out;omega
     case rel=>exact⟨(y114),(wrap64 (eG+1)),rs,H',⟨by have:=iC.out;omega⟩,⟨ur kD.out⟩,⟨ul HB.out⟩⟩
    ·obtain rfl:=Option.some.inj H;go_wp2;go_ret;exact⟨_,er,ur kD.out,ul HB.out⟩
end Go.Proofs.YtncdadcmghglkaaGreatDoor.PFnExactFormatPart
