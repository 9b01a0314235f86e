/- Printed walks; conditions: those in each statement. -/
import Derived.Test.YtncdadcmghglkaaGreatDoorVFnKidLinesQt
import Derived.Test.YtncdadcmghglkaaGreatDoorVFnKidLinesYt
import Derived.Test.YtncdadcmghglkaaGreatDoorPFnKidLinesx0
import Derived.Test.YtncdadcmghglkaaGreatDoorPFnKidLinesx22
import Derived.Test.YtncdadcmghglkaaGreatDoorPFnKidLinesx11
import Derived.Test.YtncdadcmghglkaaGreatDoorPFnKidLinesx15
import Derived.Test.YtncdadcmghglkaaGreatDoorPFnKidLinesx18
-- short
-- dense
-- sq
-- sq2
namespace Go.Proofs.YtncdadcmghglkaaGreatDoor.PFnKidLines
open Go.RowKit Go.Proofs.YtncdadcmghglkaaGreatDoor.X Go.Proofs.YtncdadcmghglkaaGreatDoorW.dS Go.Proofs.YtncdadcmghglkaaGreatDoorW.kY Go.Proofs.YtncdadcmghglkaaGreatDoorW.n_
attribute [local go_sem] xM xO AV AX vK vM xP xQ   -- for this text's walks alone
set_option linter.unusedVariables false
set_option maxHeartbeats 8000000
set_option maxRecDepth 100000
set_option linter.unusedSimpArgs false
def nM.f (a0:ByteArray) (a1:ByteArray):Option (Bool):=if 2+a1.size≤9223372036854775807 then(if a0.toList=((⟨#[45,45]⟩:ByteArray)++a1).toList then(some true)else(if((⟨#[45,45]⟩:ByteArray)++a1).size+2≤9223372036854775807 then(some (a0.toList==(((⟨#[45,45]⟩:ByteArray)++a1)++(⟨#[45,45]⟩:ByteArray)).toList))else(none)))else(none)
theorem nM.calls {a0 a1:ByteArray} {r:Bool} {w:World} (h:nM.f a0 a1=some r):
  Calls Tryz.prog 115 #[.string a0, .string a1] w fun e w'=>e= .returned (.bool r)∧dM w w':=by
 unfold nM.f at h;have H:=h;clear h;replace H:=nn H;obtain⟨c3,H⟩:=H;have iH:=eq_true c3;have zH:=decide_eq_true c3;try have acS:(9223372036854775807<2+a1.size)=False:=eq_false (Nat.not_lt.2 c3)
 replace H:=sq H;rcases H with⟨qW,YF,H⟩|⟨c4,qW,YF,H⟩
 ·obtain rfl:=s1 H;go_enter Tryz.func115,Tryz.ntmps115;go_wp2;go_ret;exact⟨rs,dn⟩
 ·replace H:=nn H;obtain⟨c5,H⟩:=H;have mQ:=eq_true c5;have Ko:=decide_eq_true c5;try have aIk:(9223372036854775807<2+a1.size+2)=False:=by have h_:=(eq_false (Nat.not_lt.2 c5):(9223372036854775807<((⟨#[45,45]⟩:ByteArray)++a1).size+2)=False);simp only[ByteArray.size_append]at h_;exact h_
  try have aIl:(9223372036854775807<((⟨#[45,45]⟩:ByteArray)++a1).size+2)=False:=eq_false (Nat.not_lt.2 c5)
  obtain rfl:=s1 H;go_enter Tryz.func115,Tryz.ntmps115;go_wp2;go_ret;exact⟨rs,dn⟩
mutual
def bT.j0:Nat→List (List ByteArray)→ByteArray→List ByteArray→Bool→Option (List ByteArray×Bool)
 |0,_,_,_,_=>none
 |k+1,x0,x1,x6,x17=>if x17=true then(some (x6,false))else(bT.l0 k x0 x1 x6 0)
def bT.l0:Nat→List (List ByteArray)→ByteArray→List ByteArray→Int→Option (List ByteArray×Bool)
 |0,_,_,_,_=>none
 |k+1,x0,x1,x6,x7=>if x7<(x0.length:Int)then(if 2+x1.size≤9223372036854775807 then(if x6.length<8796093022208 then(bT.l1 k x0 x1 (x6++[(⟨#[45,45]⟩:ByteArray)++x1]) x7 0)else(none))else(none))else(if 2+x1.size≤9223372036854775807 then(if((⟨#[45,45]⟩:ByteArray)++x1).size+2≤9223372036854775807 then(if x6.length<8796093022208 then(some ((x6++[((⟨#[45,45]⟩:ByteArray)++x1)++(⟨#[45,45]⟩:ByteArray)]),true))else(none))else(none))else(none))
def bT.l1:Nat→List (List ByteArray)→ByteArray→List ByteArray→Int→Int→Option (List ByteArray×Bool)
 |0,_,_,_,_,_=>none
 |k+1,x0,x1,x6,x7,x8=>if 0≤x7 then(if x7<(x0.length:Int)then(if x8<((qh x0 x7).length:Int)then(if 0≤x8 then((nM.f (mW ByteArray.empty (qh x0 x7) x8) x1).bind fun avi=>(if avi=true then(some ((([]:List ByteArray)),false))else(if x6.length<8796093022208 then(bT.l1 k x0 x1 (x6++[mW ByteArray.empty (qh x0 x7) x8]) x7 (wrap64 (x8+1)))else(none))))else(none))else(bT.l0 k x0 x1 x6 (wrap64 (x7+1))))else(none))else(none)
end
def bT.f (k:Nat) (l0:List (List ByteArray)) (a1:ByteArray):Option (List ByteArray×Bool):=(some (([]:List ByteArray):List ByteArray)).bind fun afS=>((bQ.f k a1).bind fun avj=>(if avj=true then(bT.j0 k l0 a1 afS ((l0.length:Int)==0))else(bT.j0 k l0 a1 afS true)))
theorem bT.calls {k c0:Nat} {A0:Option Addr} {l0:List (List ByteArray)} {a1:ByteArray} {r1:List ByteArray} {r2:Bool} {w:World} (hr0:Kd.C (Kd.slice 9 Kd.string) w A0 l0.length l0) (hc0:l0.length≤c0) (h:bT.f k l0 a1=some (r1,r2)):
  Calls Tryz.prog 109 #[.slice A0 l0.length c0, .string a1] w fun e w'=>∃oD:Value,e= .returned (.tuple #[oD, .bool r2])∧Kd.R Kd.string 9 w' w.heap.size (fun _=>True) oD r1∧Below w.heap.size w w':=by
 have HR0:=ak hr0;have yF:=ak hc0;clear hr0 hc0;have HB:=ak (Below.refl w.heap.size w);unfold bT.f at h;have H:=h;clear h;replace H:=ny H;obtain⟨afS,avk,H⟩:=H;have Qo:=ak H;clear H;go_enter Tryz.func109,Tryz.ntmps109;go_upto_region 2 with(refine gG 9 ?_;refine Hy 9 Kd.string 9 avk ?_;intro aAC w4 ho5 hb;have alz:=ak (Kd.aA ho5 (aj (ul HB.out)));replace HB:=bs HB hb;clear hb ho5)
 (try simp only[Act.put,Aq,Ar,l_c]);go_cut [17] (fun v17 wc=>∃(kq:Nat) (QY:Bool),v17= .bool QY∧ah (bT.j0 kq l0 a1 afS QY=some (r1,r2))∧ah (kq≤k)∧ah (Kd.R Kd.string 9 wc w.heap.size (fun _=>True) aAC afS)∧ah (Below w.heap.size w wc))
 case first=>
  have H:=Qo.out;clear Qo;replace H:=bd H;obtain⟨avj,A6,H⟩:=H;replace H:=sb H;rcases H with⟨rfl,H⟩|⟨rfl,H⟩
  ·have H':=ak H;clear H;go_wp2_with (refine gA Tryz.func157 (bQ.calls A6.out) ?_;intro nd)
   go_meet
   case rel=>exact⟨_,_,rs,H',⟨Jp⟩,⟨ur alz.out⟩,⟨ul HB.out⟩⟩
  ·have H':=ak H;clear H;go_wp2_with (refine gA Tryz.func157 (bQ.calls A6.out) ?_;intro nd)
   go_meet
   case rel=>exact⟨_,_,rs,H',⟨Jp⟩,⟨ur alz.out⟩,⟨ul HB.out⟩⟩
 case rest=>
  clear Qo;obtain⟨kq,QY,rfl,HA,HJ2,jh,HB⟩:=hcut
  cases kq with
  |zero=>exact zz HA.out
  |succ kj2=>
   obtain⟨H⟩:=HA;simp only[bT.j0]at H;replace H:=sb H;rcases H with⟨rfl,H⟩|⟨rfl,H⟩
   ·obtain⟨rfl,rfl⟩:=s2 H;go_wp2;go_ret2;exact⟨_,er,ur jh.out,ul HB.out⟩
   ·have H':=ak H;clear H;go_wp2;go_loopg [6,7] kj2 (fun kq v6 v7 w'=>∃(CS:List ByteArray) (zJ:Int),v7= .int .i64 zJ∧ah (bT.l0 kq l0 a1 CS zJ=some (r1,r2))∧ah (kq≤kj2)∧ah (Kd.R Kd.string 9 w' w.heap.size (fun _=>True) v6 CS)∧ah (Below w.heap.size w w'))
    case atStart=>exact⟨_,_,rs,H',⟨Nat.le_refl _⟩,⟨ur jh.out⟩,⟨ul HB.out⟩⟩
    case round=>
     clear H';obtain⟨CS,zJ,rfl,HA,HK2,jh,HB⟩:=hrel
     cases gk with
     |zero=>exact zz HA.out
     |succ k2=>
      obtain⟨H⟩:=HA;simp only[bT.l0]at H;replace H:=sd H;rcases H with⟨yI,H⟩|⟨yI,H⟩
      ·replace H:=nn H;obtain⟨c10,H⟩:=H;have nI:=eq_true c10;have rP:=decide_eq_true c10;try have Xd:(9223372036854775807<2+a1.size)=False:=eq_false (Nat.not_lt.2 c10)
       replace H:=nl H;obtain⟨QB,H⟩:=H;obtain⟨aIm,alA⟩:=nm (CS++[(⟨#[45,45]⟩:ByteArray)++a1]);rw[←alA.out]at H;have H':=ak H;clear H;go_wp2_with ((with_reducible refine dO (b:= .append) (xs:=#[.tmp 25, .tmp 28]) rfl ?_);(try(refine lu (by rfl) ?_;dsimp only));at_builtin;refine aP 25 28 Kd.string 23 9 (.string ⟨#[]⟩) 16 Tryz.underlying23 info9 HB (ur jh.out) alA (by have:=QB.out;omega) ?_;intro aIn w12 ho hb hg hat;have avl:=ak (ho);replace HB:=ak (hb);clear ho hb hg hat jh)
       go_loopg [6,8] k2 (fun kq v6 v8 w'=>∃(D_:List ByteArray) (NH:Int),v8= .int .i64 NH∧ah (bT.l1 kq l0 a1 D_ zJ NH=some (r1,r2))∧ah (kq≤k2)∧ah (Kd.R Kd.string 9 w' w.heap.size (fun _=>True) v6 D_)∧ah (Below w.heap.size w w'))
       case atStart=>exact⟨_,_,rs,H',⟨Nat.le_refl _⟩,⟨ur avl.out⟩,⟨ul HB.out⟩⟩
       case round=>
        clear H';try clear yI
        try clear c10
        try clear nI
        try clear rP
        try clear Xd
        obtain⟨D_,NH,rfl,HA,WX,jh,HB⟩:=hrel
        cases gk with
        |zero=>exact zz HA.out
        |succ k3=>
         obtain⟨H⟩:=HA;simp only[bT.l1]at H;replace H:=nS H;obtain⟨vW,H⟩:=H;replace H:=nS H;obtain⟨sK,H⟩:=H;replace H:=sd H;rcases H with⟨vX,H⟩|⟨vX,H⟩
         ·replace H:=nS H;obtain⟨AA,H⟩:=H;replace H:=bd H;obtain⟨avi,A17,H⟩:=H;replace H:=sb H;rcases H with⟨rfl,H⟩|⟨rfl,H⟩
          ·obtain⟨aIo,alB⟩:=nm ([]:List ByteArray);rw[←alB.out]at H;obtain⟨rfl,rfl⟩:=s2 H;have QZ:=zi zJ;have Q5:=zj zJ l0.length;obtain⟨Xu,afT,afU,afV,yx,Dl,Dn⟩:=EZ HR0.out zJ QZ Q5;cases afV;replace yx:=cl HB.out yx;have abf:=ak Dn;have abg:=ak Dl;clear Dn Dl;replace QZ:=eq_true QZ;replace Q5:=eq_true Q5;have Y_:=zi zJ;have Za:=zj zJ l0.length;obtain⟨afW,aoJ,aoK,aoL,EO,KQ,KR⟩:=EZ HR0.out zJ Y_ Za;obtain rfl:Xu=afW:=(by injection aoL)
           replace EO:=cl HB.out EO;have Vq:=ak KR;have aiT:=ak KQ;clear KR KQ;replace Y_:=eq_true Y_;replace Za:=eq_true Za;have Yo:=Option.some.inj (yx.symm.trans EO);injection Yo with Yo en_ ec_;subst Yo;subst ec_;clear en_;have Zb:=zi NH;have Zc:=zj NH ((qh l0 zJ).length);obtain⟨avm,aoM,KT⟩:=Kd.iJ Vq.out NH Zb Zc;cases aoM;replace KT:=cl HB.out KT;replace Zb:=eq_true Zb;replace Zc:=eq_true Zc;go_wp2_with (first|(refine gA Tryz.func115 (nM.calls A17.out) ?_;intro nd)|(refine gG 48 ?_;refine Hy 48 Kd.string 9 alB ?_;intro aIp w19 ac_ hb;have avn:=ak (Kd.aA (Kd.eX ac_ (Kd.jw (ur jh.out))) (aj (ul HB.out)));replace jh:=ak (Kd.bW (ur jh.out) (Kd.dw ac_) hb);replace HB:=bs HB hb;clear hb ac_))
           go_ret2;exact⟨_,er,ur (Kd.aQ avn.out (fun _ hk=>trivial)),ul HB.out⟩
          ·replace H:=nl H;obtain⟨Xl,H⟩:=H;obtain⟨aIq,alC⟩:=nm (D_++[mW ByteArray.empty (qh l0 zJ) NH]);rw[←alC.out]at H;have H':=ak H;clear H;have QZ:=zi zJ;have Q5:=zj zJ l0.length;obtain⟨Xu,afT,afU,afV,yx,Dl,Dn⟩:=EZ HR0.out zJ QZ Q5;cases afV;replace yx:=cl HB.out yx;have abf:=ak Dn;have abg:=ak Dl;clear Dn Dl;replace QZ:=eq_true QZ;replace Q5:=eq_true Q5;have Y_:=zi zJ;have Za:=zj zJ l0.length;obtain⟨afW,aoJ,aoK,aoL,EO,KQ,KR⟩:=EZ HR0.out zJ Y_ Za;obtain rfl:Xu=afW:=(by injection aoL)
           replace EO:=cl HB.out EO;have Vq:=ak KR;have aiT:=ak KQ;clear KR KQ;replace Y_:=eq_true Y_;replace Za:=eq_true Za;have Yo:=Option.some.inj (yx.symm.trans EO);injection Yo with Yo en_ ec_;subst Yo;subst ec_;clear en_;have Zb:=zi NH;have Zc:=zj NH ((qh l0 zJ).length);obtain⟨avm,aoM,KT⟩:=Kd.iJ Vq.out NH Zb Zc;cases aoM;replace KT:=cl HB.out KT;replace Zb:=eq_true Zb;replace Zc:=eq_true Zc;go_wp2_with (first|(refine gA Tryz.func115 (nM.calls A17.out) ?_;intro nd;have aoN:0≤(zJ:Int):=of_decide_eq_true (by assumption);have aoO:zJ<(l0.length:Int):=of_decide_eq_true (by assumption);obtain⟨avo,aAD,aAE,aAF,P9,abh,abj⟩:=EZ HR0.out zJ aoN aoO;obtain rfl:Xu=avo:=(by injection aAF);replace P9:=(HB.out.cell (World.block_lt_of_cell? w _ P9)).trans P9;have aiU:=ak abj;have ayI:=ak abh;clear abj abh;replace aoN:=eq_true aoN;replace aoO:=eq_true aoO;have Yo:=Option.some.inj (yx.symm.trans P9);injection Yo with Yo en_ ec_;subst Yo;subst ec_;clear en_;have aoP:0≤(NH:Int):=of_decide_eq_true (by assumption);have aoQ:NH<((qh l0 zJ).length:Int):=of_decide_eq_true (by assumption);obtain⟨aDT,aAG,Vr⟩:=Kd.iJ aiU.out NH aoP aoQ;cases aAG;replace Vr:=(HB.out.cell (World.block_lt_of_cell? w _ Vr)).trans Vr;replace aoP:=eq_true aoP;replace aoQ:=eq_true aoQ)|((with_reducible refine dO (b:= .append) (xs:=#[.tmp 49, .tmp 57]) rfl ?_);(try(refine lu (by rfl) ?_;dsimp only));at_builtin;refine aP 49 57 Kd.string 23 9 (.string ⟨#[]⟩) 16 Tryz.underlying23 info9 HB (ur jh.out) alC (by have:=Xl.out;omega) ?_;intro aIr w22 ho hb hg hat;have avp:=ak (ho);replace HB:=ak (hb);clear ho hb hg hat jh))
           go_roundg k3
           case measure=>exact kl
           case rel=>exact⟨_,_,rs,H',⟨kl⟩,⟨ur avp.out⟩,⟨ul HB.out⟩⟩
         ·have H':=ak H;clear H;have QZ:=zi zJ;have Q5:=zj zJ l0.length;obtain⟨Xu,afT,afU,afV,yx,Dl,Dn⟩:=EZ HR0.out zJ QZ Q5;cases afV;replace yx:=cl HB.out yx;have abf:=ak Dn;have abg:=ak Dl;clear Dn Dl;replace QZ:=eq_true QZ;replace Q5:=eq_true Q5;go_wp2;go_roundg k3
          case measure=>exact kl
          case rel=>exact⟨_,_,rs,H',⟨kl⟩,⟨ur jh.out⟩,⟨ul HB.out⟩⟩
      ·replace H:=nn H;obtain⟨c23,H⟩:=H;have Aw:=eq_true c23;have Oy:=decide_eq_true c23;try have avq:(9223372036854775807<2+a1.size)=False:=eq_false (Nat.not_lt.2 c23)
       replace H:=nn H;obtain⟨c24,H⟩:=H;have Ot:=eq_true c24;have aeP:=decide_eq_true c24;try have aDU:(9223372036854775807<2+a1.size+2)=False:=by have h_:=(eq_false (Nat.not_lt.2 c24):(9223372036854775807<((⟨#[45,45]⟩:ByteArray)++a1).size+2)=False);simp only[ByteArray.size_append]at h_;exact h_
       try have aDV:(9223372036854775807<((⟨#[45,45]⟩:ByteArray)++a1).size+2)=False:=eq_false (Nat.not_lt.2 c24)
       replace H:=nl H;obtain⟨Qn,H⟩:=H;obtain⟨aIs,alD⟩:=nm (CS++[((⟨#[45,45]⟩:ByteArray)++a1)++(⟨#[45,45]⟩:ByteArray)]);rw[←alD.out]at H;obtain⟨rfl,rfl⟩:=s2 H;go_wp2_with ((with_reducible refine dO (b:= .append) (xs:=#[.tmp 59, .tmp 63]) rfl ?_);(try(refine lu (by rfl) ?_;dsimp only));at_builtin;refine aP 59 63 Kd.string 23 9 (.string ⟨#[]⟩) 16 Tryz.underlying23 info9 HB (ur jh.out) alD (by have:=Qn.out;omega) ?_;intro aIt w26 ho hb hg hat;have avr:=ak (ho);replace HB:=ak (hb);clear ho hb hg hat jh)
       go_ret2;exact⟨_,er,ur avr.out,ul HB.out⟩
mutual
def iO.l0:Nat→List ByteArray→ByteArray→List (List ByteArray)→Int→List (gK)→List ByteArray→List (ng)→Option (List ByteArray)
 |0,_,_,_,_,_,_,_=>none
 |k+1,x3,x5,x7,x8,aiV,aiW,KU=>if x8<(KU.length:Int)then(if 0≤x8 then((iO.f k ((bG KU x8).f0) ((bG KU x8).f1) ((bG KU x8).f2)).bind fun Zd=>(if x7.length<5864062014805 then(iO.l0 k x3 x5 (x7++[Zd]) (wrap64 (x8+1)) aiV aiW KU)else(none)))else(none))else((bT.f k x7 x5).bind fun alE=>(if x3.length+alE.1.length<8796093022208 then(some (x3++alE.1))else(none)))
def iO.f:Nat→List (gK)→List ByteArray→List (ng)→Option (List ByteArray)
 |0,_,_,_=>none
 |k+1,dV,dI,aG=>(iM.f k dV).bind fun alF=>(if alF.1.length<8796093022208 then((some (alF.1++[(⟨#[]⟩:ByteArray)]:List ByteArray)).bind fun SY=>((jU.f k dV).bind fun alG=>(if alG.2=true then(iO.l0 k SY alG.1 (([]:List (List ByteArray))) 0 dV dI aG)else(if SY.length+dI.length<8796093022208 then(some (SY++dI))else(none)))))else(none))
end
theorem iO.calls (k:Nat):∀(jM:Option Addr) (jO:Nat) (dV:List (gK)) (jI:Option Addr) (jJ:Nat) (dI:List ByteArray) (iL:Option Addr) (fK:Nat) (aG:List (ng)) (r:List ByteArray) (w:World) (oZ:Kd.C qy w jM dV.length dV) (o7:dV.length≤jO) (o8:Kd.C Kd.string w jI dI.length dI) (o9:dI.length≤jJ) (kT:Kd.C k28 w iL aG.length aG) (kU:aG.length≤fK) (h:iO.f k dV dI aG=some r),
  Calls Tryz.prog 67 #[.agg #[.slice jM dV.length jO, .slice jI dI.length jJ, .slice iL aG.length fK]] w fun e w'=>∃oD:Value,e= .returned (oD)∧Kd.R Kd.string 9 w' w.heap.size (fun _=>True) oD r∧Below w.heap.size w w':=by
 induction k using Nat.strongRecOn with
 |_ k ih=>
 intro jM jO dV jI jJ dI iL fK aG r w oZ o7 o8 o9 kT kU h
 cases k with
 |zero=>exact absurd h (by simp[iO.f])
 |succ k=>
 simp only[iO.f]at h;have FV:=Tryz.underlying28;have qA:=ak oZ;have qV:=ak o7;clear oZ o7;have uw:=ak o8;have xR:=ak o9;clear o8 o9;have jB:=ak kT;have mM:=ak kU;clear kT kU;have HB:=ak (Below.refl w.heap.size w);have H:=h;clear h;replace H:=bd H;obtain⟨⟨avs,aIu⟩,A2,H⟩:=H
 (try dsimp only at H);replace H:=nl H;obtain⟨acL,H⟩:=H;replace H:=ny H;obtain⟨SY,alH,H⟩:=H;replace H:=bd H;obtain⟨⟨aAH,aIv⟩,A4,H⟩:=H
 (try dsimp only at H);replace H:=sb H;rcases H with⟨rfl,H⟩|⟨rfl,H⟩
 ·obtain⟨aIw,afX⟩:=nm ([]:List (List ByteArray));rw[←afX.out]at H;have H':=ak H;clear H;go_enter Tryz.func67,Tryz.ntmps67;go_wp2_with (first|(refine bX HB 1 #[.slice jM dV.length jO, .slice jI dI.length jJ, .slice iL aG.length fK] 28 ?_;intro Q7 w6 nC avt hb;replace HB:=bs HB hb;clear hb;have z7:=kF nC.out)|(refine gV Tryz.func107 (iM.calls (cu (Kd.aX qA.out HB.out)) qV.out A2.out) ?_;rintro aoR w8 ⟨ho0,hb⟩;have Q8:=ak (Kd.aA ho0 (aj bb));replace nC:=kb nC hb;replace HB:=bz HB hb;clear hb;(try clear ho0))|((with_reducible refine dO (b:= .append) (xs:=#[.tmp 17, .tmp 18]) rfl ?_);at_builtin;refine Kd.oI Kd.string (w0:=w) w.heap.size rfl (.tmp 17) (.tmp 18) 23 9 (.string ⟨#[]⟩) 16 rfl Tryz.underlying23 info9 rfl (by decide) (by omega) aoR avs (⟨#[]⟩:ByteArray) [.string (⟨#[]⟩:ByteArray)] (fun _=>True) (fun _=>False) rfl rfl ?aP (fun _ hk=>hk.elim) ?aF ?aO ?aB ?aS ?aL ?_;(case aP=>exact rfl);(case aB=>exact bb);(case aF=>exact(fun _ _=>trivial));(case aO=>exact(ur Q8.out));(case aS=>exact(aj bb));(case aL=>have:=acL.out;omega);intro Xv w9 ho hb hg hat;rw[←alH.out]at ho;have Fh:=ak (ho);replace nC:=ak (b_ (g:=Q7) (o:= .cells #[.slice jM dV.length jO, .slice jI dI.length jJ, .slice iL aG.length fK] 28 (0,0)) (ub nC.out) hg (Kd.oH Q8.out nC.out (by decide)));replace HB:=ak (hb);clear ho hb hg hat Q8;have z10:=kF nC.out)|(refine gB Tryz.func108 (jU.calls (cu (Kd.aX qA.out HB.out)) qV.out A4.out) ?_;intro WI hb;replace Fh:=rb Fh hb;replace nC:=kb nC hb;replace HB:=bz HB hb;clear hb)|((with_reducible refine QH (N:=32) rfl ?_);refine Kd.afc (Kd.slice 9 Kd.string) _ 23 ?hg (N:=32) ?hd (xs:=([]:List (List ByteArray))) (inner:=[]) (ok:=fun _=>True) (sH:=fun _=>True) ?hr ?hp (fun _ hk=>hk) trivial (Below.refl _ _) (Nat.le_refl _) (by simp) ?_;(case hd=>rfl);(case hg=>rfl);(case hr=>first|(go_simp;done)|(go_simp;rfl));(case hp=>exact(cO.none _ _));intro aIx w12 Vk hb DW uS;clear DW uS;(first|rw[←afX.out]at Vk|(simp only[Int.reduceToNat]at Vk;rw[←afX.out]at Vk));have avu:=ak (Kd.P5 (Kd.QN Vk (Kd.jw (ur Fh.out))) (aj bb));replace Fh:=rb Fh hb;replace nC:=kb nC hb;replace HB:=bz HB hb;clear hb Vk))
  go_loopg [7,8] k (fun kq v7 v8 w'=>∃(qX:List (List ByteArray)) (kN:Int),v8= .int .i64 kN∧ah (iO.l0 kq SY aAH qX kN dV dI aG=some r)∧ah (kq≤k)∧ah (Kd.R Kd.string 9 w' w.heap.size (fun _=>True) Xv SY)∧ah (Kd.S (Kd.slice 9 Kd.string) 23 w' w.heap.size (fun k_=>some k_≠(Xv:Value).ownBlock) v7 qX)∧ah (w'.heap[Q7]? =some (.cells #[(.slice jM dV.length jO),(.slice jI dI.length jJ),(.slice iL aG.length fK)] 28 (0,0)))∧ah (Below w.heap.size w w'))
  case atStart=>exact⟨_,_,rs,H',⟨Nat.le_refl _⟩,⟨ur Fh.out⟩,⟨by(with_reducible repeat(first|apply Kd.kJ|apply Kd.kK|apply Kd.mP));exact Kd.yj avu.out (fun _ hk=>hk.2)⟩,⟨ub nC.out⟩,⟨bb⟩⟩
  case round=>
   clear H';obtain⟨qX,kN,rfl,HA,yH,oz,Ju,nC,HB⟩:=hrel
   cases gk with
   |zero=>exact zz HA.out
   |succ k1=>
    obtain⟨H⟩:=HA;simp only[iO.l0]at H;replace H:=sd H;rcases H with⟨sK,H⟩|⟨sK,H⟩
    ·replace H:=nS H;obtain⟨vX,H⟩:=H;replace H:=bd H;obtain⟨Zd,Y8,H⟩:=H;replace H:=nl H;obtain⟨aeR,H⟩:=H;obtain⟨aIy,alI⟩:=nm (qX++[Zd]);rw[←alI.out]at H;have H':=ak H;clear H;have z18:=kF nC.out;have aoS:=zi kN;have aoT:=zj kN aG.length;obtain⟨avv,aAI,aAJ,aAK,aAL,aAM,aAN,aAO,abk,abl,abm,abn,abo,abp,abq,abr,abt⟩:=BA jB.out kN aoS aoT;cases aAO;replace abk:=cl HB.out abk;replace abl:=cl HB.out abl;replace abm:=cl HB.out abm;have aiX:=ak abo;have aiY:=ak abn;clear abo abn;have aiZ:=ak abq;have ai0:=ak abp;clear abq abp;have ai1:=ak abt;have ai2:=ak abr;clear abt abr;replace aoS:=eq_true aoS;replace aoT:=eq_true aoT;go_wp2_with (first|(refine gV Tryz.func67 (ih k1 (by have:=yH.out;omega) _ _ ((bG aG kN).f0) _ _ ((bG aG kN).f1) _ _ ((bG aG kN).f2) Zd _ (cu (Kd.aX aiX.out HB.out)) aiY.out (cu (Kd.aX aiZ.out HB.out)) ai0.out (cu (Kd.aX ai1.out HB.out)) ai2.out Y8.out) ?_;rintro aIz w19 ⟨ho0,hb⟩;have abu:=ak (Kd.aA (Kd.eX ho0 (Kd.jw (ur oz.out))) (aj bb));replace oz:=ak (Kd.bW (ur oz.out) (Kd.dw ho0) hb);replace Ju:=ak (Kd.yh (by(with_reducible repeat(first|apply Kd.kJ|apply Kd.kK|apply Kd.mP));exact Ju.out) (Kd.dw ho0) hb);replace nC:=kb nC hb;replace HB:=bz HB hb;clear hb;(try clear ho0);obtain⟨MW,MX,UF⟩:=Kd.aI abu.out;subst UF)|((with_reducible refine dO (b:= .append) (xs:=#[.tmp 40, .tmp 47]) rfl ?_);at_builtin;refine Kd.QJ (Kd.slice 9 Kd.string) (w0:=w) w.heap.size rfl (.tmp 40) (.tmp 47) 65 23 (.slice none 0 0) 24 rfl Tryz.underlying65 info23 rfl (by decide) (by omega) u7 qX Zd [.slice MW Zd.length MX] (fun k_=>some k_≠(Xv:Value).ownBlock) (fun k_=>some k_=(.slice MW Zd.length MX:Value).ownBlock) rfl rfl ?aP (fun k_ hk_=>((Kd.aQ (ok':=fun k_=>((fun k_=>some k_≠(Xv:Value).ownBlock)) k_∧some k_≠(u7:Value).ownBlock) (Kd.nH (abu.out) (Kd.Di Ju.out) (by decide)) (fun k_ hk=>⟨hk.1.2,hk.2⟩))).1 k_ hk_.symm) ?aF ?aO ?aB ?aS ?aL ?_;(case aP=>exact Kd.aaQ (Kd.aQ (Kd.U7 rfl (Kd.aQ (ok':=fun k_=>((fun k_=>some k_≠(Xv:Value).ownBlock)) k_∧some k_≠(u7:Value).ownBlock) (Kd.nH (abu.out) (Kd.Di Ju.out) (by decide)) (fun k_ hk=>⟨hk.1.2,hk.2⟩))) (fun _ h_=>h_)));(case aB=>exact bb);(case aF=>exact(fun k_ hk=>Kd.fresh' (Kd.jw (ur oz.out)) k_ hk));(case aO=>exact(by(with_reducible repeat(first|apply Kd.kJ|apply Kd.kK|apply Kd.mP));exact Kd.yj Ju.out (fun k_ hk=>⟨hk.1,fun e_=>hk.2 e_⟩)));(case aS=>exact(aj bb));(case aL=>have:=aeR.out;omega);intro aIA w20 ho hb hg hat;rw[←alI.out]at ho;have avw:=ak (ho);replace oz:=ak (Kd.pX (ur oz.out) (Kd.Di (by(with_reducible repeat(first|apply Kd.kJ|apply Kd.kK|apply Kd.mP));exact Ju.out)) (by decide) hg);replace nC:=ak (b_ (g:=Q7) (o:= .cells #[.slice jM dV.length jO, .slice jI dI.length jJ, .slice (some avv) aG.length fK] 28 (0,0)) (ub nC.out) hg (Kd.aoq Ju.out nC.out (by decide)));replace HB:=ak (hb);clear ho hb hg hat Ju abu))
     go_roundg k1
     case measure=>exact kl
     case rel=>exact⟨_,_,rs,H',⟨kl⟩,⟨ur (Kd.aQ oz.out (fun _ hk=>trivial))⟩,⟨by(with_reducible repeat(first|apply Kd.kJ|apply Kd.kK|apply Kd.mP));exact avw.out⟩,⟨ub nC.out⟩,⟨bb⟩⟩
    ·replace H:=bd H;obtain⟨⟨ai3,aIB⟩,A22,H⟩:=H
     (try dsimp only at H);replace H:=nl H;obtain⟨aev,H⟩:=H;obtain⟨aIC,alJ⟩:=nm (SY++ai3);rw[←alJ.out]at H;obtain rfl:=s1 H;have z24:=kF nC.out;obtain⟨au9,au_,afN⟩:=Kd.zo Ju.out;subst afN;go_wp2_with (first|(refine gV Tryz.func109 (bT.calls (cu ((Kd.tN Ju.out).2.2)) ((Kd.tN Ju.out).2.1) A22.out) ?_;rintro aID w26 ⟨ho0,hb⟩;have Xw:=ak (Kd.aA (Kd.eX ho0 (Kd.jw (ur oz.out))) (aj bb));replace oz:=ak (Kd.bW (ur oz.out) (Kd.dw ho0) hb);replace Ju:=ak (Kd.yh (by(with_reducible repeat(first|apply Kd.kJ|apply Kd.kK|apply Kd.mP));exact Ju.out) (Kd.dw ho0) hb);replace nC:=kb nC hb;replace HB:=bz HB hb;clear hb;(try clear ho0);obtain⟨aoU,aiC,ac1⟩:=Kd.aI Xw.out;subst ac1)|((with_reducible refine dO (b:= .append) (xs:=#[.tmp 55, .tmp 56]) rfl ?_);at_builtin;refine Kd.qj Kd.string (w0:=w) w.heap.size rfl (.tmp 55) (.tmp 56) 23 9 (.string ⟨#[]⟩) 16 rfl Tryz.underlying23 info9 rfl (by decide) (by omega) Xv SY ai3 _ _ _ (fun k_=>some k_≠(.slice aoU ai3.length aiC:Value).ownBlock) (fun _=>False) rfl rfl ?aO ?aR (fun _ _ h=>h) (fun _ h=>h.elim) ?aF ?aB ?aS ?aL ?_;(case aR=>repeat(first|exact(Kd.ay Xw.out).2.2|(with_reducible refine Kd.ji ?_ _)|(with_reducible refine Kd.jk ?_ _)|(with_reducible refine Kd.kM ?_)));(case aB=>exact bb);(case aF=>exact(fun k_ hk=>Kd.fresh' (Kd.jw (ur Xw.out)) k_ hk));(case aO=>exact(ur (Kd.aQ oz.out (fun _ hk=>hk.2))));(case aS=>exact(aj bb));(case aL=>have:=aev.out;omega);intro aIE w27 ho hb hg hat;rw[←alJ.out]at ho;have avx:=ak (ho);replace Ju:=ak (Kd.aa5 (ok:=(fun k_=>some k_≠(.slice aoU ai3.length aiC:Value).ownBlock)) (by(with_reducible repeat(first|apply Kd.kJ|apply Kd.kK|apply Kd.mP));exact Kd.yj Ju.out (fun _ hk=>⟨hk.2,hk.1⟩)) hg hat);replace nC:=ak (b_ (g:=Q7) (o:= .cells #[.slice jM dV.length jO, .slice jI dI.length jJ, .slice iL aG.length fK] 28 (0,0)) (ub nC.out) hg (Kd.oH oz.out nC.out (by decide)));replace Xw:=ak (Kd.AZ (ok:=(fun _=>True)) (ur Xw.out) hg hat);replace HB:=ak (hb);clear ho hb hg hat oz))
     go_ret;exact⟨_,er,ur (Kd.aQ avx.out (fun _ hk=>trivial)),bb⟩
 ·replace H:=nl H;obtain⟨avy,H⟩:=H;obtain⟨aIF,alK⟩:=nm (SY++dI);rw[←alK.out]at H;obtain rfl:=s1 H;go_enter Tryz.func67,Tryz.ntmps67;go_wp2_with (first|(refine bX HB 1 #[.slice jM dV.length jO, .slice jI dI.length jJ, .slice iL aG.length fK] 28 ?_;intro Q7 w30 nC avt hb;replace HB:=bs HB hb;clear hb;have z31:=kF nC.out)|(refine gV Tryz.func107 (iM.calls (cu (Kd.aX qA.out HB.out)) qV.out A2.out) ?_;rintro aoR w32 ⟨ho0,hb⟩;have Q8:=ak (Kd.aA ho0 (aj bb));replace nC:=kb nC hb;replace HB:=bz HB hb;clear hb;(try clear ho0))|((with_reducible refine dO (b:= .append) (xs:=#[.tmp 17, .tmp 18]) rfl ?_);at_builtin;refine Kd.oI Kd.string (w0:=w) w.heap.size rfl (.tmp 17) (.tmp 18) 23 9 (.string ⟨#[]⟩) 16 rfl Tryz.underlying23 info9 rfl (by decide) (by omega) aoR avs (⟨#[]⟩:ByteArray) [.string (⟨#[]⟩:ByteArray)] (fun _=>True) (fun _=>False) rfl rfl ?aP (fun _ hk=>hk.elim) ?aF ?aO ?aB ?aS ?aL ?_;(case aP=>exact rfl);(case aB=>exact bb);(case aF=>exact(fun _ _=>trivial));(case aO=>exact(ur Q8.out));(case aS=>exact(aj bb));(case aL=>have:=acL.out;omega);intro Xv w33 ho hb hg hat;rw[←alH.out]at ho;have Fh:=ak (ho);replace nC:=ak (b_ (g:=Q7) (o:= .cells #[.slice jM dV.length jO, .slice jI dI.length jJ, .slice iL aG.length fK] 28 (0,0)) (ub nC.out) hg (Kd.oH Q8.out nC.out (by decide)));replace HB:=ak (hb);clear ho hb hg hat Q8;have z34:=kF nC.out)|(refine gB Tryz.func108 (jU.calls (cu (Kd.aX qA.out HB.out)) qV.out A4.out) ?_;intro w35 hb;replace Fh:=rb Fh hb;replace nC:=kb nC hb;replace HB:=bz HB hb;clear hb;have z36:=kF nC.out)|((with_reducible refine dO (b:= .append) (xs:=#[.tmp 28, .tmp 30]) rfl ?_);at_builtin;refine Kd.qj Kd.string (w0:=w) w.heap.size rfl (.tmp 28) (.tmp 30) 23 9 (.string ⟨#[]⟩) 16 rfl Tryz.underlying23 info9 rfl (by decide) (by omega) Xv SY dI _ _ _ (fun _=>True) (fun _=>False) rfl rfl ?aO ?aR (fun _ _ h=>h) (fun _ h=>h.elim) ?aF ?aB ?aS ?aL ?_;(case aR=>repeat(first|exact(Kd.aX uw.out HB.out)|(with_reducible refine Kd.ji ?_ _)|(with_reducible refine Kd.jk ?_ _)|(with_reducible refine Kd.kM ?_)));(case aB=>exact bb);(case aF=>exact(fun _ _=>trivial));(case aO=>exact(ur Fh.out));(case aS=>exact(aj bb));(case aL=>have:=avy.out;omega);intro aIG w37 ho hb hg hat;rw[←alK.out]at ho;have avz:=ak (ho);replace nC:=ak (b_ (g:=Q7) (o:= .cells #[.slice jM dV.length jO, .slice jI dI.length jJ, .slice iL aG.length fK] 28 (0,0)) (ub nC.out) hg (Kd.oH Fh.out nC.out (by decide)));replace HB:=ak (hb);clear ho hb hg hat Fh))
  go_ret;exact⟨_,er,ur avz.out,bb⟩
mutual
def bn.j0:Nat→Int→Bool→List (gK)→List ByteArray→List (ng)→Option (Bool)
 |0,_,_,_,_,_=>none
 |k+1,x1,x17,yA,wM,pz=>if x17=true then(some false)else((jU.f k yA).bind fun abv=>(if abv.2=true then(if(wM.length:Int)>0 then(bn.j1 k x1 abv.1 true yA wM pz)else(if(pz.length:Int)<1 then(bn.j1 k x1 abv.1 true yA wM pz)else(bn.j1 k x1 abv.1 (decide ((pz.length:Int)>4)) yA wM pz)))else(if(pz.length:Int)=0 then((iy.f k wM).bind fun avA=>(some avA))else(some false))))
def bn.j1:Nat→Int→ByteArray→Bool→List (gK)→List ByteArray→List (ng)→Option (Bool)
 |0,_,_,_,_,_,_=>none
 |k+1,x1,x5,x50,yA,wM,pz=>if x50=true then(some false)else(bn.l0 k x1 x5 0 yA wM pz)
def bn.l0:Nat→Int→ByteArray→Int→List (gK)→List ByteArray→List (ng)→Option (Bool)
 |0,_,_,_,_,_,_=>none
 |k+1,x1,x5,x7,yA,wM,pz=>if x7<(pz.length:Int)then(if 0≤x7 then((bn.f k ((bG pz x7).f0) ((bG pz x7).f1) ((bG pz x7).f2) (wrap64 (x1-1))).bind fun avC=>(if avC=true then((iO.f k ((bG pz x7).f0) ((bG pz x7).f1) ((bG pz x7).f2)).bind fun Ze=>(bn.l1 k x1 x5 x7 Ze 0 yA wM pz))else(some false)))else(none))else(some true)
def bn.l1:Nat→Int→ByteArray→Int→List ByteArray→Int→List (gK)→List ByteArray→List (ng)→Option (Bool)
 |0,_,_,_,_,_,_,_,_=>none
 |k+1,x1,x5,x7,x8,x9,yA,wM,pz=>if x9<(x8.length:Int)then(if 0≤x9 then((nM.f (mW ByteArray.empty x8 x9) x5).bind fun avD=>(if avD=true then(some false)else(bn.l1 k x1 x5 x7 x8 (wrap64 (x9+1)) yA wM pz)))else(none))else(bn.l0 k x1 x5 (wrap64 (x7+1)) yA wM pz)
def bn.f:Nat→List (gK)→List ByteArray→List (ng)→Int→Option (Bool)
 |0,_,_,_,_=>none
 |k+1,dV,dI,aG,a1=>(fO.f k dV).bind fun avE=>(if avE=true then(bn.j0 k a1 (decide (a1<1)) dV dI aG)else(bn.j0 k a1 true dV dI aG))
end
theorem bn.calls (k:Nat):∀(jM:Option Addr) (jO:Nat) (dV:List (gK)) (jI:Option Addr) (jJ:Nat) (dI:List ByteArray) (iL:Option Addr) (fK:Nat) (aG:List (ng)) (a1:Int) (r:Bool) (w:World) (oZ:Kd.C qy w jM dV.length dV) (o7:dV.length≤jO) (o8:Kd.C Kd.string w jI dI.length dI) (o9:dI.length≤jJ) (kT:Kd.C k28 w iL aG.length aG) (kU:aG.length≤fK) (h:bn.f k dV dI aG a1=some r),
  Calls Tryz.prog 72 #[.agg #[.slice jM dV.length jO, .slice jI dI.length jJ, .slice iL aG.length fK], .int .i64 a1] w fun e w'=>e= .returned (.bool r)∧Below w.heap.size w w':=by
 induction k using Nat.strongRecOn with
 |_ k ih=>
 intro jM jO dV jI jJ dI iL fK aG a1 r w oZ o7 o8 o9 kT kU h
 cases k with
 |zero=>exact absurd h (by simp[bn.f])
 |succ k=>
 simp only[bn.f]at h;have FV:=Tryz.underlying28;have qA:=ak oZ;have qV:=ak o7;clear oZ o7;have uw:=ak o8;have xR:=ak o9;clear o8 o9;have jB:=ak kT;have mM:=ak kU;clear kT kU;have HB:=ak (Below.refl w.heap.size w);have H:=h;clear h;have Qo:=ak H;clear H;go_enter Tryz.func72,Tryz.ntmps72;go_upto_region 1 with(refine gG 2 ?_;refine bX HB 2 #[.slice jM dV.length jO, .slice jI dI.length jJ, .slice iL aG.length fK] 28 ?_;intro abw w4 mF aDW hb;replace HB:=bs HB hb;clear hb)
 (try simp only[Act.put,Aq,Ar,l_c]);go_cut [17] (fun v17 wc=>∃(kq:Nat) (QY:Bool),v17= .bool QY∧ah (bn.j0 kq a1 QY dV dI aG=some r)∧ah (kq≤k)∧ah (wc.heap[abw]? =some (.cells #[(.slice jM dV.length jO),(.slice jI dI.length jJ),(.slice iL aG.length fK)] 28 (0,0)))∧ah (Below w.heap.size w wc))
 case first=>
  have H:=Qo.out;clear Qo;replace H:=bd H;obtain⟨avE,A5,H⟩:=H;replace H:=sb H;rcases H with⟨rfl,H⟩|⟨rfl,H⟩
  ·have H':=ak H;clear H;have z7:=kF mF.out;go_wp2_with (refine gB Tryz.func113 (fO.calls (cu (Kd.aX qA.out HB.out)) qV.out A5.out) ?_;intro w8 hb;replace mF:=kb mF hb;replace HB:=bz HB hb;clear hb)
   go_meet
   case rel=>exact⟨_,_,rs,H',⟨Jp⟩,⟨ub mF.out⟩,⟨bb⟩⟩
  ·have H':=ak H;clear H;have z9:=kF mF.out;go_wp2_with (refine gB Tryz.func113 (fO.calls (cu (Kd.aX qA.out HB.out)) qV.out A5.out) ?_;intro w10 hb;replace mF:=kb mF hb;replace HB:=bz HB hb;clear hb)
   go_meet
   case rel=>exact⟨_,_,rs,H',⟨Jp⟩,⟨ub mF.out⟩,⟨bb⟩⟩
 case rest=>
  clear Qo;obtain⟨kq,QY,rfl,HA,HJ2,mF,HB⟩:=hcut
  cases kq with
  |zero=>exact zz HA.out
  |succ kj2=>
   obtain⟨H⟩:=HA;simp only[bn.j0]at H;replace H:=sb H;rcases H with⟨rfl,H⟩|⟨rfl,H⟩
   ·obtain rfl:=s1 H;go_wp2;go_ret;exact⟨er,bb⟩
   ·replace H:=bd H;obtain⟨⟨aoV,aIH⟩,A12,H⟩:=H
    (try dsimp only at H);replace H:=sb H;rcases H with⟨rfl,H⟩|⟨rfl,H⟩
    ·have aoW:=ak H;clear H;have z15:=kF mF.out;go_upto_region 6 with(refine gB Tryz.func108 (jU.calls (cu (Kd.aX qA.out HB.out)) qV.out A12.out) ?_;intro w16 hb;replace mF:=kb mF hb;replace HB:=bz HB hb;clear hb)
     (try simp only[Act.put,Aq,Ar,l_c]);go_cut [50] (fun v50 wc=>∃(kq:Nat) (Zf:Bool),v50= .bool Zf∧ah (bn.j1 kq a1 aoV Zf dV dI aG=some r)∧ah (kq≤kj2)∧ah (wc.heap[abw]? =some (.cells #[(.slice jM dV.length jO),(.slice jI dI.length jJ),(.slice iL aG.length fK)] 28 (0,0)))∧ah (Below w.heap.size w wc))
     case first=>
      have H:=aoW.out;clear aoW;replace H:=sp H;rcases H with⟨c17,H⟩|⟨c17,H⟩
      ·have rQ:decide (0<(dI.length:Int))=true:=decide_eq_true c17;have I4:decide (0<dI.length)=true:=decide_eq_true (by omega);clear c17
       (first|rw[rQ]|(simp only[iP,jZ];rw[rQ])|skip);have H':=ak H;clear H;have z18:=kF mF.out;go_wp2;go_meet
       case rel=>exact⟨_,_,rs,H',⟨kl⟩,⟨ub mF.out⟩,⟨bb⟩⟩
      ·have rQ:decide (0<(dI.length:Int))=false:=decide_eq_false c17;have I4:decide (0<dI.length)=false:=decide_eq_false (by omega);clear c17
       (first|rw[rQ]|(simp only[iP,jZ];rw[rQ])|skip);replace H:=sp H;rcases H with⟨c19,H⟩|⟨c19,H⟩
       ·have AB:=decide_eq_true c19;have Ea:decide (aG.length<1)=true:=decide_eq_true (by omega);clear c19;have H':=ak H;clear H;have z20:=kF mF.out;go_wp2;go_meet
        case rel=>exact⟨_,_,rs,H',⟨kl⟩,⟨ub mF.out⟩,⟨bb⟩⟩
       ·have AB:=decide_eq_false c19;have Ea:decide (aG.length<1)=false:=decide_eq_false (by omega);clear c19;have H':=ak H;clear H;have z21:=kF mF.out;go_wp2;go_meet
        case rel=>exact⟨_,_,rs,H',⟨kl⟩,⟨ub mF.out⟩,⟨bb⟩⟩
     case rest=>
      clear aoW;obtain⟨kq,Zf,rfl,HA,ada,mF,HB⟩:=hcut
      cases kq with
      |zero=>exact zz HA.out
      |succ avF=>
       obtain⟨H⟩:=HA;simp only[bn.j1]at H;replace H:=sb H;rcases H with⟨rfl,H⟩|⟨rfl,H⟩
       ·obtain rfl:=s1 H;go_wp2;go_ret;exact⟨er,bb⟩
       ·have H':=ak H;clear H;go_wp2;go_loopg [7] avF (fun kq v7 w'=>∃(pO:Int),v7= .int .i64 pO∧ah (bn.l0 kq a1 aoV pO dV dI aG=some r)∧ah (kq≤avF)∧ah (w'.heap[abw]? =some (.cells #[(.slice jM dV.length jO),(.slice jI dI.length jJ),(.slice iL aG.length fK)] 28 (0,0)))∧ah (Below w.heap.size w w'))
        case atStart=>exact⟨_,rs,H',⟨Nat.le_refl _⟩,⟨ub mF.out⟩,⟨bb⟩⟩
        case round=>
         clear H';obtain⟨pO,rfl,HA,WX,mF,HB⟩:=hrel
         cases gk with
         |zero=>exact zz HA.out
         |succ k3=>
          obtain⟨H⟩:=HA;simp only[bn.l0]at H;replace H:=sd H;rcases H with⟨Aw,H⟩|⟨Aw,H⟩
          ·replace H:=nS H;obtain⟨Ot,H⟩:=H;replace H:=bd H;obtain⟨avC,A25,H⟩:=H;replace H:=sb H;rcases H with⟨rfl,H⟩|⟨rfl,H⟩
           ·replace H:=bd H;obtain⟨Ze,A27,H⟩:=H;have H':=ak H;clear H;have ah1:=kF mF.out;have Xx:=zi pO;have Xy:=zj pO aG.length;obtain⟨afY,aoX,aoY,aoZ,ao0,ao1,ao2,ao3,H_,Ia,Ib,KW,KX,KY,KZ,K_,La⟩:=BA jB.out pO Xx Xy;cases ao3;replace H_:=cl HB.out H_;replace Ia:=cl HB.out Ia;replace Ib:=cl HB.out Ib;have Vs:=ak KX;have Vt:=ak KW;clear KX KW;have Vu:=ak KZ;have Vw:=ak KY;clear KZ KY;have Vx:=ak La;have Vy:=ak K_;clear La K_;replace Xx:=eq_true Xx;replace Xy:=eq_true Xy;go_wp2_with (first|(refine gB Tryz.func72 (ih k3 (by have:=HJ2.out;have:=ada.out;have:=WX.out;omega) _ _ ((bG aG pO).f0) _ _ ((bG aG pO).f1) _ _ ((bG aG pO).f2) (wrap64 (a1-1)) true _ (cu (Kd.aX Vs.out HB.out)) Vt.out (cu (Kd.aX Vu.out HB.out)) Vw.out (cu (Kd.aX Vx.out HB.out)) Vy.out A25.out) ?_;intro w29 hb;replace mF:=kb mF hb;replace HB:=bz HB hb;clear hb;have z30:=kF mF.out;have ai4:0≤(pO:Int):=of_decide_eq_true (by assumption);have ai5:pO<(aG.length:Int):=of_decide_eq_true (by assumption);obtain⟨avG,aAP,aAQ,aAR,aAS,aAT,aAU,aAV,P_,Qa,Qb,abx,aby,abz,abA,abB,abC⟩:=BA jB.out pO ai4 ai5;obtain rfl:afY=avG:=(by injection aAV);replace P_:=(HB.out.cell (World.block_lt_of_cell? w _ P_)).trans P_;replace Qa:=(HB.out.cell (World.block_lt_of_cell? w _ Qa)).trans Qa;replace Qb:=(HB.out.cell (World.block_lt_of_cell? w _ Qb)).trans Qb;have ai6:=ak aby;have ai7:=ak abx;clear aby abx;have ai8:=ak abA;have ai9:=ak abz;clear abA abz;have ai_:=ak abC;have aja:=ak abB;clear abC abB;replace ai4:=eq_true ai4;replace ai5:=eq_true ai5)|(refine gV Tryz.func67 (iO.calls k3 _ _ ((bG aG pO).f0) _ _ ((bG aG pO).f1) _ _ ((bG aG pO).f2) Ze _ (cu (Kd.aX ai6.out HB.out)) ai7.out (cu (Kd.aX ai8.out HB.out)) ai9.out (cu (Kd.aX ai_.out HB.out)) aja.out A27.out) ?_;rintro aAW w31 ⟨ho0,hb⟩;have avH:=ak (Kd.aA ho0 (aj bb));replace mF:=kb mF hb;replace HB:=bz HB hb;clear hb;(try clear ho0)))
            go_loopg [9] k3 (fun kq v9 w'=>∃(Vz:Int),v9= .int .i64 Vz∧ah (bn.l1 kq a1 aoV pO Ze Vz dV dI aG=some r)∧ah (kq≤k3)∧ah (Kd.R Kd.string 9 w' w.heap.size (fun _=>True) aAW Ze)∧ah (w'.heap[abw]? =some (.cells #[(.slice jM dV.length jO),(.slice jI dI.length jJ),(.slice (some afY) aG.length fK)] 28 (0,0)))∧ah (Below w.heap.size w w'))
            case atStart=>exact⟨_,rs,H',⟨Nat.le_refl _⟩,⟨ur avH.out⟩,⟨ub mF.out⟩,⟨bb⟩⟩
            case round=>
             clear H';try clear Aw
             try clear Ot
             try clear H_
             try clear Ia
             try clear Ib
             try clear P_
             try clear Qa
             try clear Qb
             try clear Xx
             try clear ai4
             try clear Xy
             try clear ai5
             obtain⟨Vz,rfl,HA,HK4,adb,mF,HB⟩:=hrel
             cases gk with
             |zero=>exact zz HA.out
             |succ k4=>
              obtain⟨H⟩:=HA;simp only[bn.l1]at H;replace H:=sd H;rcases H with⟨Xc,H⟩|⟨Xc,H⟩
              ·replace H:=nS H;obtain⟨TJ,H⟩:=H;replace H:=bd H;obtain⟨avD,A34,H⟩:=H;replace H:=sb H;rcases H with⟨rfl,H⟩|⟨rfl,H⟩
               ·obtain rfl:=s1 H;obtain⟨avI,avJ,ao4⟩:=Kd.aI adb.out;subst ao4;have Zg:=zi Vz;have Zh:=zj Vz Ze.length;obtain⟨avK,ao5,ajb⟩:=Kd.iJ (Kd.ay adb.out).2.2 Vz Zg Zh;cases ao5;replace Zg:=eq_true Zg;replace Zh:=eq_true Zh;go_wp2_with (refine gA Tryz.func115 (nM.calls A34.out) ?_;intro nd)
                go_ret;exact⟨er,bb⟩
               ·have H':=ak H;clear H;obtain⟨aiO,aiP,ac4⟩:=Kd.aI adb.out;subst ac4;have Zg:=zi Vz;have Zh:=zj Vz Ze.length;obtain⟨avK,ao5,ajb⟩:=Kd.iJ (Kd.ay adb.out).2.2 Vz Zg Zh;cases ao5;replace Zg:=eq_true Zg;replace Zh:=eq_true Zh;go_wp2_with (refine gA Tryz.func115 (nM.calls A34.out) ?_;intro nd)
                go_roundg k4
                case measure=>have:=HJ2.out;have:=ada.out;have:=WX.out;have:=HK4.out;omega
                case rel=>exact⟨_,rs,H',⟨by have:=HJ2.out;have:=ada.out;have:=WX.out;have:=HK4.out;omega⟩,⟨ur adb.out⟩,⟨ub mF.out⟩,⟨bb⟩⟩
              ·have H':=ak H;clear H;obtain⟨aII,aIJ,aAX⟩:=Kd.aI adb.out;subst aAX;go_wp2;go_roundg k4
               case measure=>have:=HJ2.out;have:=ada.out;have:=WX.out;have:=HK4.out;omega
               case rel=>exact⟨_,rs,H',⟨by have:=HJ2.out;have:=ada.out;have:=WX.out;have:=HK4.out;omega⟩,⟨ub mF.out⟩,⟨bb⟩⟩
           ·obtain rfl:=s1 H;have z39:=kF mF.out;have Xx:=zi pO;have Xy:=zj pO aG.length;obtain⟨afY,aoX,aoY,aoZ,ao0,ao1,ao2,ao3,H_,Ia,Ib,KW,KX,KY,KZ,K_,La⟩:=BA jB.out pO Xx Xy;cases ao3;replace H_:=cl HB.out H_;replace Ia:=cl HB.out Ia;replace Ib:=cl HB.out Ib;have Vs:=ak KX;have Vt:=ak KW;clear KX KW;have Vu:=ak KZ;have Vw:=ak KY;clear KZ KY;have Vx:=ak La;have Vy:=ak K_;clear La K_;replace Xx:=eq_true Xx;replace Xy:=eq_true Xy;go_wp2_with (refine gB Tryz.func72 (ih k3 (by have:=HJ2.out;have:=ada.out;have:=WX.out;omega) _ _ ((bG aG pO).f0) _ _ ((bG aG pO).f1) _ _ ((bG aG pO).f2) (wrap64 (a1-1)) false _ (cu (Kd.aX Vs.out HB.out)) Vt.out (cu (Kd.aX Vu.out HB.out)) Vw.out (cu (Kd.aX Vx.out HB.out)) Vy.out A25.out) ?_;intro w40 hb;replace mF:=kb mF hb;replace HB:=bz HB hb;clear hb)
            go_ret;exact⟨er,bb⟩
          ·obtain rfl:=s1 H;have ah_:=kF mF.out;go_wp2;go_ret;exact⟨er,bb⟩
    ·replace H:=sp H;rcases H with⟨c42,H⟩|⟨c42,H⟩
     ·have avL:=beq_iff_eq.mpr c42;have avM:=bne_eq_false_iff_eq.mpr c42;clear c42;replace H:=bd H;obtain⟨avA,A43,H⟩:=H;obtain rfl:=s1 H;have aAw:=kF mF.out;go_wp2_with (first|(refine gB Tryz.func108 (jU.calls (cu (Kd.aX qA.out HB.out)) qV.out A12.out) ?_;intro w45 hb;replace mF:=kb mF hb;replace HB:=bz HB hb;clear hb;have z46:=kF mF.out)|(go_at_call 114;refine mA (iy.calls (cu (Kd.aX uw.out HB.out)) xR.out A43.out) ?_;intro nd))
      go_ret;exact⟨er,bb⟩
     ·have avL:=beq_eq_false_iff_ne.mpr c42;have avM:=bne_iff_ne.mpr c42;have aDX:¬(aG=[]):=fun h_=>c42 (by rw[h_];rfl)
      obtain rfl:=s1 H;have z47:=kF mF.out;go_wp2_with (refine gB Tryz.func108 (jU.calls (cu (Kd.aX qA.out HB.out)) qV.out A12.out) ?_;intro w48 hb;replace mF:=kb mF hb;replace HB:=bz HB hb;clear hb;have z49:=kF mF.out)
      go_ret;exact⟨er,bb⟩
def oK.f (k:Nat) (dV:List (gK)) (dI:List ByteArray) (aG:List (ng)):Option (Bool):=(bn.f k dV dI aG 3).bind fun ao6=>(some ao6)
theorem oK.calls {k jO jJ fK:Nat} {jM jI iL:Option Addr} {dV:List (gK)} {dI:List ByteArray} {aG:List (ng)} {r:Bool} {w:World} (oZ:Kd.C qy w jM dV.length dV) (o7:dV.length≤jO) (o8:Kd.C Kd.string w jI dI.length dI) (o9:dI.length≤jJ) (kT:Kd.C k28 w iL aG.length aG) (kU:aG.length≤fK) (h:oK.f k dV dI aG=some r):
  Calls Tryz.prog 30 #[.agg #[.slice jM dV.length jO, .slice jI dI.length jJ, .slice iL aG.length fK]] w fun e w'=>e= .returned (.bool r)∧Below w.heap.size w w':=by
 have FV:=Tryz.underlying28;have qA:=ak oZ;have qV:=ak o7;clear oZ o7;have uw:=ak o8;have xR:=ak o9;clear o8 o9;have jB:=ak kT;have mM:=ak kU;clear kT kU;have HB:=ak (Below.refl w.heap.size w);unfold oK.f at h;have H:=h;clear h;replace H:=bd H;obtain⟨ao6,A2,H⟩:=H;obtain rfl:=s1 H;go_enter Tryz.func30,Tryz.ntmps30;go_wp2_with (first|(refine bX HB 1 #[.slice jM dV.length jO, .slice jI dI.length jJ, .slice iL aG.length fK] 28 ?_;intro aDY w3 afZ aDZ hb;replace HB:=bs HB hb;clear hb;have z4:=kF afZ.out)|(refine gB Tryz.func72 (bn.calls k _ _ dV _ _ dI _ _ aG 3 ao6 _ (cu (Kd.aX qA.out HB.out)) qV.out (cu (Kd.aX uw.out HB.out)) xR.out (cu (Kd.aX jB.out HB.out)) mM.out A2.out) ?_;intro w5 hb;replace afZ:=kb afZ hb;replace HB:=bz HB hb;clear hb))
 go_ret;exact⟨er,bb⟩
def pU.f (k:Nat) (dV:List (gK)) (dI:List ByteArray) (aG:List (ng)):Option (List ByteArray×Bool):=(oK.f k dV dI aG).bind fun avN=>(if avN=true then((iO.f k dV dI aG).bind fun ao7=>(some (ao7,true)))else(some ((([]:List ByteArray)),false)))
theorem pU.calls {k jO jJ fK:Nat} {jM jI iL:Option Addr} {dV:List (gK)} {dI r1:List ByteArray} {aG:List (ng)} {r2:Bool} {w:World} (oZ:Kd.C qy w jM dV.length dV) (o7:dV.length≤jO) (o8:Kd.C Kd.string w jI dI.length dI) (o9:dI.length≤jJ) (kT:Kd.C k28 w iL aG.length aG) (kU:aG.length≤fK) (h:pU.f k dV dI aG=some (r1,r2)):
  Calls Tryz.prog 25 #[.agg #[.slice jM dV.length jO, .slice jI dI.length jJ, .slice iL aG.length fK]] w fun e w'=>∃oD:Value,e= .returned (.tuple #[oD, .bool r2])∧Kd.R Kd.string 9 w' w.heap.size (fun _=>True) oD r1∧Below w.heap.size w w':=by
 have FV:=Tryz.underlying28;have qA:=ak oZ;have qV:=ak o7;clear oZ o7;have uw:=ak o8;have xR:=ak o9;clear o8 o9;have jB:=ak kT;have mM:=ak kU;clear kT kU;have HB:=ak (Below.refl w.heap.size w);unfold pU.f at h;have H:=h;clear h;replace H:=bd H;obtain⟨avN,A2,H⟩:=H;replace H:=sb H;rcases H with⟨rfl,H⟩|⟨rfl,H⟩
 ·replace H:=bd H;obtain⟨ao7,A4,H⟩:=H;obtain⟨rfl,rfl⟩:=s2 H;go_enter Tryz.func25,Tryz.ntmps25;go_wp2_with (first|(refine bX HB 1 #[.slice jM dV.length jO, .slice jI dI.length jJ, .slice iL aG.length fK] 28 ?_;intro avO w5 Fj avP hb;replace HB:=bs HB hb;clear hb;have z6:=kF Fj.out)|(refine gB Tryz.func30 (oK.calls (cu (Kd.aX qA.out HB.out)) qV.out (cu (Kd.aX uw.out HB.out)) xR.out (cu (Kd.aX jB.out HB.out)) mM.out A2.out) ?_;intro w7 hb;replace Fj:=kb Fj hb;replace HB:=bz HB hb;clear hb;have z8:=kF Fj.out)|(refine gV Tryz.func67 (iO.calls k _ _ dV _ _ dI _ _ aG ao7 _ (cu (Kd.aX qA.out HB.out)) qV.out (cu (Kd.aX uw.out HB.out)) xR.out (cu (Kd.aX jB.out HB.out)) mM.out A4.out) ?_;rintro aIK w9 ⟨ho0,hb⟩;have avQ:=ak (Kd.aA ho0 (aj bb));replace Fj:=kb Fj hb;replace HB:=bz HB hb;clear hb;(try clear ho0)))
  go_ret2;exact⟨_,er,ur avQ.out,bb⟩
 ·obtain⟨aIL,alL⟩:=nm ([]:List ByteArray);rw[←alL.out]at H;obtain⟨rfl,rfl⟩:=s2 H;go_enter Tryz.func25,Tryz.ntmps25;go_wp2_with (first|(refine bX HB 1 #[.slice jM dV.length jO, .slice jI dI.length jJ, .slice iL aG.length fK] 28 ?_;intro avO w10 Fj avP hb;replace HB:=bs HB hb;clear hb;have z11:=kF Fj.out)|(refine gB Tryz.func30 (oK.calls (cu (Kd.aX qA.out HB.out)) qV.out (cu (Kd.aX uw.out HB.out)) xR.out (cu (Kd.aX jB.out HB.out)) mM.out A2.out) ?_;intro w12 hb;replace Fj:=kb Fj hb;replace HB:=bz HB hb;clear hb)|(refine Hy 7 Kd.string 9 alL ?_;intro aIM w13 O_ hb;have avR:=ak (Kd.aA O_ (aj bb));replace Fj:=kb Fj hb;replace HB:=bz HB hb;clear hb O_))
  go_ret2;exact⟨_,er,ur avR.out,bb⟩
mutual
def bC.j0:Nat→List ByteArray→Bool→List ByteArray→Bool→Bool→List (gK)→List ByteArray→List (ng)→Option (Bool)
 |0,_,_,_,_,_,_,_,_=>none
 |k+1,x4,x5,x6,x7,x52,zK,BK,tV=>if x52=true then((gq.f k x4 x6).bind fun alM=>(if alM=true then(some (x5==x7))else(some false)))else((kS.f k zK (⟨#[99,111,110,116,101,110,116,45,116,121,112,101]⟩:ByteArray)).bind fun ao8=>((bH.f k ao8.1).bind fun Zi=>((iC.f k Zi.1 Zi.2.1 Zi.2.2.1).bind fun af0=>((gQ.f k x4 af0.1).bind fun Q9=>(if af0.2=true then(if Q9.2=true then(bC.j1 k Q9.1 ((Q9.1.length:Int) !=(tV.length:Int)) zK BK tV)else(bC.j1 k Q9.1 true zK BK tV))else(bC.j1 k Q9.1 true zK BK tV))))))
def bC.j1:Nat→List (List ByteArray)→Bool→List (gK)→List ByteArray→List (ng)→Option (Bool)
 |0,_,_,_,_,_=>none
 |k+1,x14,x96,zK,BK,tV=>if x96=true then(some false)else(bC.l0 k x14 0 zK BK tV)
def bC.l0:Nat→List (List ByteArray)→Int→List (gK)→List ByteArray→List (ng)→Option (Bool)
 |0,_,_,_,_,_=>none
 |k+1,x14,x16,zK,BK,tV=>if x16<(x14.length:Int)then(if 0≤x16 then(if x16<(tV.length:Int)then((kR.f k ((bG tV x16).f0) ((bG tV x16).f1) ((bG tV x16).f2)).bind fun af2=>(if af2.2=true then((gq.f k af2.1 (qh x14 x16)).bind fun alN=>(if alN=true then(bC.l0 k x14 (wrap64 (x16+1)) zK BK tV)else(some false)))else(some false)))else(none))else(none))else(some true)
end
def bC.f (k:Nat) (l0:List Int):Option (Bool):=if(l0.length:Int)>1048576 then(some true)else((lQ.f k l0).bind fun sZ=>((kR.f k sZ.1 sZ.2.1 sZ.2.2).bind fun BL=>((pU.f k sZ.1 sZ.2.1 sZ.2.2).bind fun DX=>((gq.f k BL.1 DX.1).bind fun alO=>(if alO=true then(if(BL.2 !=DX.2)=true then(bC.j0 k BL.1 BL.2 DX.1 DX.2 true sZ.1 sZ.2.1 sZ.2.2)else(if BL.2=true then(bC.j0 k BL.1 BL.2 DX.1 DX.2 ((sZ.2.2.length:Int)==0) sZ.1 sZ.2.1 sZ.2.2)else(bC.j0 k BL.1 BL.2 DX.1 DX.2 true sZ.1 sZ.2.1 sZ.2.2)))else(bC.j0 k BL.1 BL.2 DX.1 DX.2 true sZ.1 sZ.2.1 sZ.2.2))))))
theorem bC.calls {k c0:Nat} {A0:Option Addr} {l0:List Int} {r:Bool} {w:World} (hr0:Kd.C (Kd.int .u8) w A0 l0.length l0) (hc0:l0.length≤c0) (DW:MaxOk w) (h:bC.f k l0=some r):
  Calls Tryz.prog 13 #[.slice A0 l0.length c0] w fun e w'=>e= .returned (.bool r)∧Below w.heap.size w w':=by
 have FV:=Tryz.underlying28;have U1:=Tryz.underlying61;have HR0:=ak hr0;have yF:=ak hc0;clear hr0 hc0;have HG:=ak DW;clear DW;have HB:=ak (Below.refl w.heap.size w);unfold bC.f at h;have H:=h;clear h;replace H:=sp H;rcases H with⟨c2,H⟩|⟨c2,H⟩
 ·have nY:decide (1048576<(l0.length:Int))=true:=decide_eq_true c2;have uJ:decide (1048576<l0.length)=true:=decide_eq_true (by omega);clear c2;obtain rfl:=s1 H;go_enter Tryz.func13,Tryz.ntmps13;go_wp2;go_ret;exact⟨er,ul HB.out⟩
 ·have nY:decide (1048576<(l0.length:Int))=false:=decide_eq_false c2;have uJ:decide (1048576<l0.length)=false:=decide_eq_false (by omega);clear c2;replace H:=bd H;obtain⟨⟨uF,tX,qZ⟩,A3,H⟩:=H
  (try dsimp only at H);replace H:=bd H;obtain⟨⟨alP,OL⟩,A4,H⟩:=H
  (try dsimp only at H);replace H:=bd H;obtain⟨⟨alQ,OM⟩,A5,H⟩:=H
  (try dsimp only at H);have HC6:=ak H;clear H;go_enter Tryz.func13,Tryz.ntmps13;go_upto_region 6 with(first|(refine gL 23 23 Tryz.func23 #[.slice A0 l0.length c0] ?_;(with_reducible refine(lQ.calls (cu HR0.out) yF.out A3.out).mono ?_);rintro e w7 ⟨aD0,aD1,aD2,rfl,ho0,ho1,ho2,hb⟩;refine⟨_,rfl,?_⟩;have wO:=ak (Kd.aA ho0 (aj (ul HB.out)));have uX:=ak (Kd.aA ho1 (aj (ul HB.out)));have wP:=ak (Kd.aA ho2 (aj (ul HB.out)));replace HB:=bs HB hb;clear hb;(try clear ho0);(try clear ho1);(try clear ho2))|(refine gG 3 ?_;refine bY HB 3 #[.slice none 0 0, .slice none 0 0, .slice none 0 0] 28 ?_;intro wB w8 jP aAY hg hb;replace wO:=rb wO hb;replace uX:=rb uX hb;replace wP:=ak (Kd.sQ (Kd.zA (ur wP.out) wB (Nat.le_of_eq hg.symm)) hb);replace HB:=bs HB hb;clear hb hg;obtain⟨UU,TI,eo9⟩:=Kd.aI wO.out;subst eo9;have z10:=kF jP.out;obtain⟨vP,uo,QW⟩:=Kd.aI uX.out;subst QW;obtain⟨yG,xG,Qk⟩:=Kd.aI wP.out;subst Qk)|(refine gV Tryz.func24 (kR.calls ?fH ((Kd.ay wO.out).2.1) ?zF ((Kd.ay uX.out).2.1) ?zG ((Kd.ay wP.out).2.1) ?wI A4.out) ?_;(case fH=>refine(Kd.ay (e:=69) (base:=w.heap.size) (ok:=fun k_=>True) (n:=uF.length) (c:=TI) ?_).2.2;exact(rh wO));(case zF=>refine(Kd.ay (e:=9) (base:=w.heap.size) (ok:=fun k_=>True) (n:=tX.length) (c:=uo) ?_).2.2;exact(rh uX));(case zG=>refine(Kd.ay (e:=28) (base:=w.heap.size) (ok:=fun k_=>((some k_≠(.slice UU uF.length TI:Value).ownBlock∧some k_≠(.slice vP tX.length uo:Value).ownBlock)∧k_≠wB)) (n:=qZ.length) (c:=xG) ?_).2.2;exact(ur (Kd.aQ (Kd.lI (p:=⟨wB,2,none⟩) (Kd.lI (p:=⟨wB,1,none⟩) (Kd.lI (p:=⟨wB,0,none⟩) (Kd.aQ wP.out (fun k_ hk=>(⟨hk,hk.2⟩:_∧k_≠wB))) (fun _ hk=>hk.2) (.slice UU uF.length TI)) (fun _ hk=>hk.2) (.slice vP tX.length uo)) (fun _ hk=>hk.2) (.slice yG qZ.length xG)) (fun _ h_=>h_.1))));(case wI=>first|exact HG.out|exact MaxOk.below HG.out bb|(repeat(first|exact HG.out|apply MaxOk.drewN|apply MaxOk.drew)));rintro abD w13 ⟨ho0,hb⟩;have tq:=ak (Kd.aA (Kd.eX ho0 (Kd.jw (rh uX))) (aj bb));replace wO:=rg wO hb;replace uX:=ak (Kd.bW (rh uX) (Kd.dw ho0) hb);replace wP:=ak (Kd.bW (ur (Kd.aQ (Kd.lI (p:=⟨wB,2,none⟩) (Kd.lI (p:=⟨wB,1,none⟩) (Kd.lI (p:=⟨wB,0,none⟩) (Kd.aQ wP.out (fun k_ hk=>(⟨hk,hk.2⟩:_∧k_≠wB))) (fun _ hk=>hk.2) (.slice UU uF.length TI)) (fun _ hk=>hk.2) (.slice vP tX.length uo)) (fun _ hk=>hk.2) (.slice yG qZ.length xG)) (fun _ h_=>h_.1))) (Kd.dw ho0) hb);replace jP:=kp jP #[.slice UU uF.length TI, .slice vP tX.length uo, .slice yG qZ.length xG] hb;replace HB:=bz HB hb;clear hb;(try clear ho0);have z14:=kF jP.out)|(refine gV Tryz.func25 (pU.calls (cu ((Kd.ay wO.out).2.2)) ((Kd.ay wO.out).2.1) (cu ((Kd.ay uX.out).2.2)) ((Kd.ay uX.out).2.1) (cu ((Kd.ay wP.out).2.2)) ((Kd.ay wP.out).2.1) A5.out) ?_;rintro abE w15 ⟨ho0,hb⟩;have wC:=ak (Kd.aA (Kd.eX (Kd.eX ho0 (Kd.jw (ur uX.out))) (Kd.jw (ur tq.out))) (aj bb));replace wO:=rb wO hb;replace uX:=ak (Kd.bW (ur uX.out) (Kd.dw ho0) hb);replace wP:=ak (Kd.bW (ur wP.out) (Kd.dw ho0) hb);replace tq:=ak (Kd.bW (ur tq.out) (Kd.dw ho0) hb);replace jP:=kb jP hb;replace HB:=bz HB hb;clear hb;(try clear ho0)))
  (try simp only[Act.put,Aq,Ar,l_c]);go_cut [52] (fun v52 wc=>∃(kq:Nat) (af4:Bool),v52= .bool af4∧ah (bC.j0 kq alP OL alQ OM af4 uF tX qZ=some r)∧ah (kq≤k)∧ah (Kd.R Kd.string 9 wc w.heap.size (fun k_=>some k_≠(abE:Value).ownBlock∧some k_≠((.slice vP tX.length uo):Value).ownBlock) abD alP)∧ah (Kd.R Kd.string 9 wc w.heap.size (fun k_=>some k_≠(abD:Value).ownBlock∧some k_≠((.slice vP tX.length uo):Value).ownBlock) abE alQ)∧ah (Kd.R qy 69 wc w.heap.size (fun _=>True) (.slice UU uF.length TI) uF)∧ah (Kd.R Kd.string 9 wc w.heap.size (fun k_=>some k_≠(abD:Value).ownBlock∧some k_≠(abE:Value).ownBlock) (.slice vP tX.length uo) tX)∧ah (Kd.R k28 28 wc w.heap.size (fun k_=>some k_≠(abD:Value).ownBlock∧some k_≠(abE:Value).ownBlock∧some k_≠((.slice UU uF.length TI):Value).ownBlock∧some k_≠((.slice vP tX.length uo):Value).ownBlock∧k_≠wB) (.slice yG qZ.length xG) qZ)∧ah (wc.heap[wB]? =some (.cells #[(.slice UU uF.length TI),(.slice vP tX.length uo),(.slice yG qZ.length xG)] 28 (0,0)))∧ah (Below w.heap.size w wc))
  case first=>
   have H:=HC6.out;clear HC6;replace H:=bd H;obtain⟨alO,Y8,H⟩:=H;replace H:=sb H;rcases H with⟨rfl,H⟩|⟨rfl,H⟩
   ·replace H:=sp H;rcases H with⟨c18,H⟩|⟨c18,H⟩
    ·have vY:(OL !=OM)=true:=c18
     (try(have JY:decide (OL=OM)=false:=by simpa using c18))
     (try(have aa6:(OL==OM)=false:=by simpa using c18))
     (try(have aD3:¬(OL=OM):=by simpa using c18));clear c18
     (first|rw[vY]|(simp only[iP,jZ];rw[vY])|skip);have H':=ak H;clear H;obtain⟨aAZ,aA0,ao9⟩:=Kd.aI tq.out;subst ao9;obtain⟨Ph,Pj,VA⟩:=Kd.aI wC.out;subst VA;go_wp2_with (refine gA Tryz.func22 (gq.calls (cu ((Kd.ay tq.out).2.2)) ((Kd.ay tq.out).2.1) (cu ((Kd.ay wC.out).2.2)) ((Kd.ay wC.out).2.1) Y8.out) ?_;intro nd)
     go_meet
     case rel=>exact⟨_,_,rs,H',⟨Jp⟩,⟨ur (Kd.aQ tq.out (fun _ hk=>⟨hk.2,hk.1.2⟩))⟩,⟨ur (Kd.aQ wC.out (fun _ hk=>⟨hk.2,hk.1.2⟩))⟩,⟨ur wO.out⟩,⟨ur (Kd.aQ uX.out (fun _ hk=>⟨hk.1.2,hk.2⟩))⟩,⟨ur (Kd.aQ wP.out (fun _ hk=>⟨hk.1.2,⟨hk.2,⟨hk.1.1.1.1,⟨hk.1.1.1.2,hk.1.1.2⟩⟩⟩⟩))⟩,⟨ub jP.out⟩,⟨bb⟩⟩
    ·have vY:(OL !=OM)=false:=by simpa using c18
     (try(have JY:decide (OL=OM)=true:=by simpa using c18))
     (try(have aa6:(OL==OM)=true:=by simpa using c18));clear c18
     (first|rw[vY]|(simp only[iP,jZ];rw[vY])|skip);replace H:=sb H;rcases H with⟨rfl,H⟩|⟨rfl,H⟩
     ·have H':=ak H;clear H;obtain⟨aAg,aAh,aof⟩:=Kd.aI tq.out;subst aof;obtain⟨QX,Pg,afR⟩:=Kd.aI wC.out;subst afR;go_wp2_with (refine gA Tryz.func22 (gq.calls (cu ((Kd.ay tq.out).2.2)) ((Kd.ay tq.out).2.1) (cu ((Kd.ay wC.out).2.2)) ((Kd.ay wC.out).2.1) Y8.out) ?_;intro nd;have z24:=kF jP.out)
      go_meet
      case rel=>exact⟨_,_,rs,H',⟨Jp⟩,⟨ur (Kd.aQ tq.out (fun _ hk=>⟨hk.2,hk.1.2⟩))⟩,⟨ur (Kd.aQ wC.out (fun _ hk=>⟨hk.2,hk.1.2⟩))⟩,⟨ur wO.out⟩,⟨ur (Kd.aQ uX.out (fun _ hk=>⟨hk.1.2,hk.2⟩))⟩,⟨ur (Kd.aQ wP.out (fun _ hk=>⟨hk.1.2,⟨hk.2,⟨hk.1.1.1.1,⟨hk.1.1.1.2,hk.1.1.2⟩⟩⟩⟩))⟩,⟨ub jP.out⟩,⟨bb⟩⟩
     ·have H':=ak H;clear H;obtain⟨au9,au_,afN⟩:=Kd.aI tq.out;subst afN;obtain⟨ajc,ajd,aje⟩:=Kd.aI wC.out;subst aje;go_wp2_with (refine gA Tryz.func22 (gq.calls (cu ((Kd.ay tq.out).2.2)) ((Kd.ay tq.out).2.1) (cu ((Kd.ay wC.out).2.2)) ((Kd.ay wC.out).2.1) Y8.out) ?_;intro nd)
      go_meet
      case rel=>exact⟨_,_,rs,H',⟨Jp⟩,⟨ur (Kd.aQ tq.out (fun _ hk=>⟨hk.2,hk.1.2⟩))⟩,⟨ur (Kd.aQ wC.out (fun _ hk=>⟨hk.2,hk.1.2⟩))⟩,⟨ur wO.out⟩,⟨ur (Kd.aQ uX.out (fun _ hk=>⟨hk.1.2,hk.2⟩))⟩,⟨ur (Kd.aQ wP.out (fun _ hk=>⟨hk.1.2,⟨hk.2,⟨hk.1.1.1.1,⟨hk.1.1.1.2,hk.1.1.2⟩⟩⟩⟩))⟩,⟨ub jP.out⟩,⟨bb⟩⟩
   ·have H':=ak H;clear H;obtain⟨atb,YT,ac0⟩:=Kd.aI tq.out;subst ac0;obtain⟨aoU,aiC,ac1⟩:=Kd.aI wC.out;subst ac1;go_wp2_with (refine gA Tryz.func22 (gq.calls (cu ((Kd.ay tq.out).2.2)) ((Kd.ay tq.out).2.1) (cu ((Kd.ay wC.out).2.2)) ((Kd.ay wC.out).2.1) Y8.out) ?_;intro nd)
    go_meet
    case rel=>exact⟨_,_,rs,H',⟨Jp⟩,⟨ur (Kd.aQ tq.out (fun _ hk=>⟨hk.2,hk.1.2⟩))⟩,⟨ur (Kd.aQ wC.out (fun _ hk=>⟨hk.2,hk.1.2⟩))⟩,⟨ur wO.out⟩,⟨ur (Kd.aQ uX.out (fun _ hk=>⟨hk.1.2,hk.2⟩))⟩,⟨ur (Kd.aQ wP.out (fun _ hk=>⟨hk.1.2,⟨hk.2,⟨hk.1.1.1.1,⟨hk.1.1.1.2,hk.1.1.2⟩⟩⟩⟩))⟩,⟨ub jP.out⟩,⟨bb⟩⟩
  case rest=>
   clear HC6;try clear c2
   try clear nY
   try clear uJ
   obtain⟨kq,af4,rfl,HA,HJ5,fP,jh,iT,iK,f_,jP,HB⟩:=hcut
   cases kq with
   |zero=>exact zz HA.out
   |succ kj5=>
    obtain⟨H⟩:=HA;simp only[bC.j0]at H;replace H:=sb H;rcases H with⟨rfl,H⟩|⟨rfl,H⟩
    ·replace H:=bd H;obtain⟨alM,A30,H⟩:=H;replace H:=sb H;rcases H with⟨rfl,H⟩|⟨rfl,H⟩
     ·obtain rfl:=s1 H;obtain⟨aek,ael,acR⟩:=Kd.aI fP.out;subst acR;obtain⟨UM,UN,Yw⟩:=Kd.aI jh.out;subst Yw;go_wp2_with (refine gA Tryz.func22 (gq.calls (cu ((Kd.ay fP.out).2.2)) ((Kd.ay fP.out).2.1) (cu ((Kd.ay jh.out).2.2)) ((Kd.ay jh.out).2.1) A30.out) ?_;intro nd)
      go_ret;exact⟨er,bb⟩
     ·obtain rfl:=s1 H;obtain⟨anf,ang,Yx⟩:=Kd.aI fP.out;subst Yx;obtain⟨azf,azg,ah5⟩:=Kd.aI jh.out;subst ah5;go_wp2_with (refine gA Tryz.func22 (gq.calls (cu ((Kd.ay fP.out).2.2)) ((Kd.ay fP.out).2.1) (cu ((Kd.ay jh.out).2.2)) ((Kd.ay jh.out).2.1) A30.out) ?_;intro nd)
      go_ret;exact⟨er,bb⟩
    ·replace H:=bd H;obtain⟨⟨aD4,aD5⟩,A36,H⟩:=H
     (try dsimp only at H);replace H:=bd H;obtain⟨⟨af5,af6,Fp,aD6⟩,A37,H⟩:=H
     (try dsimp only at H);replace H:=bd H;obtain⟨⟨aD7,aD8⟩,A38,H⟩:=H
     (try dsimp only at H);replace H:=bd H;obtain⟨⟨OO,aD9⟩,A39,H⟩:=H
     (try dsimp only at H);have ao_:=ak H;clear H;have ah_:=kF jP.out;go_upto_region 12 with(first|(refine gB Tryz.func47 (kS.calls (cu ((Kd.ay iT.out).2.2)) ((Kd.ay iT.out).2.1) A36.out) ?_;intro w42 hb;replace fP:=rb fP hb;replace jh:=rb jh hb;replace iT:=rb iT hb;replace iK:=rb iK hb;replace f_:=rb f_ hb;replace jP:=kb jP hb;replace HB:=bz HB hb;clear hb)|(refine gV Tryz.func48 (bH.calls ?fH A37.out) ?_;(case fH=>first|exact HG.out|exact MaxOk.below HG.out bb|(repeat(first|exact HG.out|apply MaxOk.drewN|apply MaxOk.drew)));rintro aD_ w43 ⟨ho0,hb⟩;have Ae:=ak (Kd.aA (Kd.eX ho0 (Kd.jw (ur iT.out))) (aj bb));replace fP:=rb fP hb;replace jh:=rb jh hb;replace iT:=ak (Kd.bW (ur iT.out) (Kd.dw ho0) hb);replace iK:=rb iK hb;replace f_:=ak (Kd.bW (ur f_.out) (Kd.dw ho0) hb);replace jP:=kb jP hb;replace HB:=bz HB hb;clear hb;(try clear ho0))|(refine gG 10 ?_;refine bY HB 10 #[.string (⟨#[]⟩:ByteArray), .string (⟨#[]⟩:ByteArray), .slice none 0 0] 61 ?_;intro af7 w44 uq aA1 hg hb;have zL:=CP jP hg;have zM:=CQ jP hg;replace fP:=rb fP hb;replace jh:=rb jh hb;replace iT:=rb iT hb;replace iK:=rb iK hb;replace f_:=rb f_ hb;replace Ae:=rb Ae hb;replace jP:=kb jP hb;replace HB:=bz HB hb;clear hb hg;have avS:=zM.out;have avT:=zL.out;have z46:=kF uq.out;obtain⟨NG,KH,ac6⟩:=Kd.aI Ae.out;subst ac6)|(refine gB Tryz.func49 (iC.calls ?fH ((Kd.ay Ae.out).2.1) A38.out) ?_;(case fH=>refine(Kd.ay (e:=69) (base:=w.heap.size) (ok:=fun k_=>(True∧some k_≠(.slice UU uF.length TI:Value).ownBlock)) (n:=Fp.length) (c:=KH) ?_).2.2;exact(rh Ae));intro w48 hb;replace fP:=rg fP hb;replace jh:=rg jh hb;replace iT:=rg iT hb;replace iK:=rg iK hb;replace f_:=rg f_ hb;replace Ae:=rg Ae hb;replace jP:=kp jP #[.slice UU uF.length TI, .slice vP tX.length uo, .slice yG qZ.length xG] hb;replace uq:=kp uq #[.string af5, .string af6, .slice NG Fp.length KH] hb;replace HB:=bz HB hb;clear hb;obtain⟨YP,YQ,YR⟩:=Kd.aI fP.out;subst YR)|(refine gV Tryz.func50 (gQ.calls (cu ((Kd.ay fP.out).2.2)) ((Kd.ay fP.out).2.1) A39.out) ?_;rintro alR w50 ⟨ho0,hb⟩;have VB:=ak (Kd.P5 (Kd.QN (Kd.QN (Kd.QN ho0 (Kd.jw (ur fP.out))) (Kd.jw (ur jh.out))) (Kd.jw (ur iK.out))) (aj bb));replace fP:=rb fP hb;replace jh:=rb jh hb;replace iT:=rb iT hb;replace iK:=rb iK hb;replace f_:=rb f_ hb;replace Ae:=rb Ae hb;replace jP:=kb jP hb;replace uq:=kb uq hb;replace HB:=bz HB hb;clear hb;(try clear ho0)))
     (try simp only[Act.put,Aq,Ar,l_c]);go_cut [96] (fun v96 wc=>∃(kq:Nat) (Zj:Bool),v96= .bool Zj∧ah (bC.j1 kq OO Zj uF tX qZ=some r)∧ah (kq≤kj5)∧ah (Kd.S (Kd.slice 9 Kd.string) 23 wc w.heap.size (fun k_=>some k_≠((.slice vP tX.length uo):Value).ownBlock) alR OO)∧ah (Kd.R qy 69 wc w.heap.size (fun k_=>some k_≠((.slice NG Fp.length KH):Value).ownBlock) (.slice UU uF.length TI) uF)∧ah (Kd.R Kd.string 9 wc w.heap.size (fun _=>True) (.slice vP tX.length uo) tX)∧ah (Kd.R k28 28 wc w.heap.size (fun k_=>some k_≠((.slice UU uF.length TI):Value).ownBlock∧some k_≠((.slice vP tX.length uo):Value).ownBlock∧some k_≠((.slice NG Fp.length KH):Value).ownBlock∧k_≠wB) (.slice yG qZ.length xG) qZ)∧ah (Kd.R qy 69 wc w.heap.size (fun k_=>some k_≠((.slice UU uF.length TI):Value).ownBlock) (.slice NG Fp.length KH) Fp)∧ah (wc.heap[wB]? =some (.cells #[(.slice UU uF.length TI),(.slice vP tX.length uo),(.slice yG qZ.length xG)] 28 (0,0)))∧ah (wc.heap[af7]? =some (.cells #[.string af5, .string af6,(.slice NG Fp.length KH)] 61 (0,0)))∧ah (Below w.heap.size w wc))
     case first=>
      have H:=ao_.out;clear ao_;replace H:=sb H;rcases H with⟨rfl,H⟩|⟨rfl,H⟩
      ·replace H:=sb H;rcases H with⟨rfl,H⟩|⟨rfl,H⟩
       ·have H':=ak H;clear H;obtain⟨aIN,aIO,aA2⟩:=Kd.zo VB.out;subst aA2;have auZ:=zL.out;have au0:=zM.out;have z55:=kF jP.out;go_wp2;go_meet
        case rel=>exact⟨_,_,rs,H',⟨kl⟩,⟨by(with_reducible repeat(first|apply Kd.kJ|apply Kd.kK|apply Kd.mP));exact Kd.yj VB.out (fun _ hk=>hk.2)⟩,⟨ur (Kd.aQ iT.out (fun _ hk=>hk.2))⟩,⟨ur (Kd.aQ iK.out (fun _ hk=>trivial))⟩,⟨ur (Kd.aQ f_.out (fun _ hk=>⟨hk.1.2.2.1,⟨hk.1.2.2.2.1,⟨hk.2,hk.1.2.2.2.2⟩⟩⟩))⟩,⟨ur (Kd.aQ Ae.out (fun _ hk=>hk.2))⟩,⟨ub jP.out⟩,⟨ub uq.out⟩,⟨bb⟩⟩
       ·have H':=ak H;clear H;go_wp2;go_meet
        case rel=>exact⟨_,_,rs,H',⟨kl⟩,⟨by(with_reducible repeat(first|apply Kd.kJ|apply Kd.kK|apply Kd.mP));exact Kd.yj VB.out (fun _ hk=>hk.2)⟩,⟨ur (Kd.aQ iT.out (fun _ hk=>hk.2))⟩,⟨ur (Kd.aQ iK.out (fun _ hk=>trivial))⟩,⟨ur (Kd.aQ f_.out (fun _ hk=>⟨hk.1.2.2.1,⟨hk.1.2.2.2.1,⟨hk.2,hk.1.2.2.2.2⟩⟩⟩))⟩,⟨ur (Kd.aQ Ae.out (fun _ hk=>hk.2))⟩,⟨ub jP.out⟩,⟨ub uq.out⟩,⟨bb⟩⟩
      ·have H':=ak H;clear H;go_wp2;go_meet
       case rel=>exact⟨_,_,rs,H',⟨kl⟩,⟨by(with_reducible repeat(first|apply Kd.kJ|apply Kd.kK|apply Kd.mP));exact Kd.yj VB.out (fun _ hk=>hk.2)⟩,⟨ur (Kd.aQ iT.out (fun _ hk=>hk.2))⟩,⟨ur (Kd.aQ iK.out (fun _ hk=>trivial))⟩,⟨ur (Kd.aQ f_.out (fun _ hk=>⟨hk.1.2.2.1,⟨hk.1.2.2.2.1,⟨hk.2,hk.1.2.2.2.2⟩⟩⟩))⟩,⟨ur (Kd.aQ Ae.out (fun _ hk=>hk.2))⟩,⟨ub jP.out⟩,⟨ub uq.out⟩,⟨bb⟩⟩
     case rest=>
      clear ao_;try clear c2
      try clear nY
      try clear uJ
      obtain⟨kq,Zj,rfl,HA,avU,qK,iT,iK,f_,tu,jP,uq,HB⟩:=hcut
      cases kq with
      |zero=>exact zz HA.out
      |succ avV=>
       obtain⟨H⟩:=HA;simp only[bC.j1]at H;replace H:=sb H;rcases H with⟨rfl,H⟩|⟨rfl,H⟩
       ·obtain rfl:=s1 H;go_wp2;go_ret;exact⟨er,bb⟩
       ·have H':=ak H;clear H;go_wp2;go_loopg [16] avV (fun kq v16 w'=>∃(pF:Int),v16= .int .i64 pF∧ah (bC.l0 kq OO pF uF tX qZ=some r)∧ah (kq≤avV)∧ah (Kd.S (Kd.slice 9 Kd.string) 23 w' w.heap.size (fun k_=>some k_≠((.slice vP tX.length uo):Value).ownBlock) alR OO)∧ah (Kd.R qy 69 w' w.heap.size (fun k_=>some k_≠((.slice NG Fp.length KH):Value).ownBlock) (.slice UU uF.length TI) uF)∧ah (Kd.R Kd.string 9 w' w.heap.size (fun _=>True) (.slice vP tX.length uo) tX)∧ah (Kd.R k28 28 w' w.heap.size (fun k_=>some k_≠((.slice UU uF.length TI):Value).ownBlock∧some k_≠((.slice vP tX.length uo):Value).ownBlock∧some k_≠((.slice NG Fp.length KH):Value).ownBlock∧k_≠wB) (.slice yG qZ.length xG) qZ)∧ah (Kd.R qy 69 w' w.heap.size (fun k_=>some k_≠((.slice UU uF.length TI):Value).ownBlock) (.slice NG Fp.length KH) Fp)∧ah (w'.heap[wB]? =some (.cells #[(.slice UU uF.length TI),(.slice vP tX.length uo),(.slice yG qZ.length xG)] 28 (0,0)))∧ah (w'.heap[af7]? =some (.cells #[.string af5, .string af6,(.slice NG Fp.length KH)] 61 (0,0)))∧ah (Below w.heap.size w w'))
        case atStart=>exact⟨_,rs,H',⟨Nat.le_refl _⟩,⟨by(with_reducible repeat(first|apply Kd.kJ|apply Kd.kK|apply Kd.mP));exact qK.out⟩,⟨ur iT.out⟩,⟨ur iK.out⟩,⟨ur f_.out⟩,⟨ur tu.out⟩,⟨ub jP.out⟩,⟨ub uq.out⟩,⟨bb⟩⟩
        case round=>
         clear H';try clear c2
         try clear nY
         try clear uJ
         obtain⟨pF,rfl,HA,WX,qK,iT,iK,f_,tu,jP,uq,HB⟩:=hrel
         cases gk with
         |zero=>exact zz HA.out
         |succ k3=>
          obtain⟨H⟩:=HA;simp only[bC.l0]at H;replace H:=sd H;rcases H with⟨avW,H⟩|⟨avW,H⟩
          ·replace H:=nS H;obtain⟨aEa,H⟩:=H;replace H:=nS H;obtain⟨aEb,H⟩:=H;replace H:=bd H;obtain⟨⟨aEc,aEd⟩,A60,H⟩:=H
           (try dsimp only at H);replace H:=sb H;rcases H with⟨rfl,H⟩|⟨rfl,H⟩
           ·replace H:=bd H;obtain⟨alN,A62,H⟩:=H;replace H:=sb H;rcases H with⟨rfl,H⟩|⟨rfl,H⟩
            ·have H':=ak H;clear H;obtain⟨avX,avY,ajf⟩:=Kd.zo qK.out;subst ajf;have avZ:=zL.out;have av1:=zM.out;have z66:=kF jP.out;have Dp:=zi pF;have Dq:=zj pF qZ.length;obtain⟨af8,abG,abH,abI,abJ,abK,abL,Xz,Gs,Gt,Gu,zN,zO,zQ,zS,zT,zU⟩:=BA (Kd.ay f_.out).2.2 pF Dp Dq;cases Xz;obtain⟨af9,Lc,Ld,uG⟩:=Kd.af_ f_.out z28 pF Dp (by first|exact Dq|exact of_decide_eq_true (by assumption)|(have e_:=(Kd.ay f_.out).1;omega));obtain⟨XA,XB,XC,rfl,uY,uZ,u_⟩:=MV Ld;have oL:=uG 0 _ rfl;rw[Nat.add_zero]at oL;replace oL:=Option.some.inj (oL.symm.trans Gs);rw[oL]at uY;have zV:=ak (show Kd.R qy 69 _ _ _ _ ((bG qZ pF).f0)from uY);clear oL uY;have oM:=uG 1 _ rfl;rw[vN _ _ 1 (by omega)]at oM;replace oM:=Option.some.inj (oM.symm.trans Gt);rw[oM]at uZ;have vk:=ak (show Kd.R Kd.string 9 _ _ _ _ ((bG qZ pF).f1)from uZ);clear oM uZ;have oN:=uG 2 _ rfl;rw[vN _ _ 2 (by omega)]at oN;replace oN:=Option.some.inj (oN.symm.trans Gu);rw[oN]at u_;have zW:=ak (show Kd.R k28 28 _ _ _ _ ((bG qZ pF).f2)from u_);clear oN u_ uG Lc;have oO:=ak zO;have Gv:=ak zN;clear zO zN;have oP:=ak zS;have Gw:=ak zQ;clear zS zQ;have oQ:=ak zU;have Gx:=ak zT;clear zU zT;replace Dp:=eq_true Dp;replace Dq:=eq_true Dq;go_wp2_with (first|(refine gV Tryz.func24 (kR.calls (cu (by repeat(first|(with_reducible exact oO.out)|(with_reducible refine Kd.ji ?_ _)|(with_reducible refine Kd.jk ?_ _)|(with_reducible refine Kd.kM ?_)|exact oO.out))) Gv.out (cu (by repeat(first|(with_reducible exact oP.out)|(with_reducible refine Kd.ji ?_ _)|(with_reducible refine Kd.jk ?_ _)|(with_reducible refine Kd.kM ?_)|exact oP.out))) Gw.out (cu (by repeat(first|(with_reducible exact oQ.out)|(with_reducible refine Kd.ji ?_ _)|(with_reducible refine Kd.jk ?_ _)|(with_reducible refine Kd.kM ?_)|exact oQ.out))) Gx.out ?wI A60.out) ?_;(case wI=>first|exact HG.out|exact MaxOk.below HG.out bb|(repeat(first|exact HG.out|apply MaxOk.drewN|apply MaxOk.drew)));rintro alS w67 ⟨ho0,hb⟩;have Gy:=ak (Kd.aA (Kd.eX (Kd.eX ho0 (Kd.jw (ur iK.out))) (Kd.jw (ur vk.out))) (aj bb));replace qK:=ak (Kd.yh (by(with_reducible repeat(first|apply Kd.kJ|apply Kd.kK|apply Kd.mP));exact qK.out) (Kd.dw ho0) hb);replace iT:=rb iT hb;replace iK:=ak (Kd.bW (ur iK.out) (Kd.dw ho0) hb);replace f_:=ak (Kd.bW (ur f_.out) (Kd.dw ho0) hb);replace tu:=rb tu hb;replace zV:=rb zV hb;replace vk:=ak (Kd.bW (ur vk.out) (Kd.dw ho0) hb);replace zW:=ak (Kd.bW (ur zW.out) (Kd.dw ho0) hb);replace jP:=kb jP hb;replace uq:=kb uq hb;replace oO:=ak (Kd.aX (by repeat(first|(with_reducible exact oO.out)|(with_reducible refine Kd.ji ?_ _)|(with_reducible refine Kd.jk ?_ _)|(with_reducible refine Kd.kM ?_)|exact oO.out)) hb);replace oP:=ak (Kd.aX (by repeat(first|(with_reducible exact oP.out)|(with_reducible refine Kd.ji ?_ _)|(with_reducible refine Kd.jk ?_ _)|(with_reducible refine Kd.kM ?_)|exact oP.out)) hb);replace oQ:=ak (Kd.aX (by repeat(first|(with_reducible exact oQ.out)|(with_reducible refine Kd.ji ?_ _)|(with_reducible refine Kd.jk ?_ _)|(with_reducible refine Kd.kM ?_)|exact oQ.out)) hb);replace HB:=bz HB hb;clear hb;(try clear ho0);have Le:0≤(pF:Int):=of_decide_eq_true (by assumption);have Lh:pF<(OO.length:Int):=of_decide_eq_true (by assumption);obtain⟨apa,ajg,ajh,aga,Q_,Gz,GH⟩:=EZ (Kd.tN qK.out).2.2 pF Le Lh;cases aga;obtain⟨apb,VD,VE,Lj⟩:=Kd.afj qK.out [] pF Le (by first|exact Lh|exact of_decide_eq_true (by assumption)|(have e_:=(Kd.tN qK.out).1;omega));obtain⟨agb,rfl,BM⟩:=VE;have vw:=Lj 0 _ rfl;rw[Nat.add_zero,show((Kd.slice 9 Kd.string)).sz=1 from rfl,Nat.mul_one]at vw;replace vw:=Option.some.inj (vw.symm.trans Q_);rw[vw]at BM;have agc:=ak (show Kd.R Kd.string 9 _ _ _ _ (qh OO pF)from BM);clear vw BM;clear Lj VD;have GI:=ak GH;have Rf:=ak Gz;clear GH Gz;replace Le:=eq_true Le;replace Lh:=eq_true Lh;obtain⟨aIP,aIQ,aA3⟩:=Kd.aI Gy.out;subst aA3)|(go_at_call 22;refine mA (gq.calls (cu ((Kd.ay Gy.out).2.2)) ((Kd.ay Gy.out).2.1) (cu (by repeat(first|(with_reducible exact GI.out)|(with_reducible refine Kd.ji ?_ _)|(with_reducible refine Kd.jk ?_ _)|(with_reducible refine Kd.kM ?_)|exact GI.out))) Rf.out A62.out) ?_;intro nd))
             go_roundg k3
             case measure=>have:=HJ5.out;have:=avU.out;have:=WX.out;omega
             case rel=>exact⟨_,rs,H',⟨by have:=HJ5.out;have:=avU.out;have:=WX.out;omega⟩,⟨by(with_reducible repeat(first|apply Kd.kJ|apply Kd.kK|apply Kd.mP));exact Kd.yj qK.out (fun _ hk=>hk.1)⟩,⟨ur iT.out⟩,⟨ur (Kd.aQ iK.out (fun _ hk=>trivial))⟩,⟨ur (Kd.aQ f_.out (fun _ hk=>⟨hk.1.1,⟨hk.1.2.1,⟨hk.1.2.2.1,hk.1.2.2.2⟩⟩⟩))⟩,⟨ur tu.out⟩,⟨ub jP.out⟩,⟨ub uq.out⟩,⟨bb⟩⟩
            ·obtain rfl:=s1 H;obtain⟨aIR,aIS,aA4⟩:=Kd.zo qK.out;subst aA4;have aEe:=zL.out;have aEf:=zM.out;have z71:=kF jP.out;have Dp:=zi pF;have Dq:=zj pF qZ.length;obtain⟨af8,abG,abH,abI,abJ,abK,abL,Xz,Gs,Gt,Gu,zN,zO,zQ,zS,zT,zU⟩:=BA (Kd.ay f_.out).2.2 pF Dp Dq;cases Xz;obtain⟨af9,Lc,Ld,uG⟩:=Kd.af_ f_.out z28 pF Dp (by first|exact Dq|exact of_decide_eq_true (by assumption)|(have e_:=(Kd.ay f_.out).1;omega));obtain⟨XA,XB,XC,rfl,uY,uZ,u_⟩:=MV Ld;have oL:=uG 0 _ rfl;rw[Nat.add_zero]at oL;replace oL:=Option.some.inj (oL.symm.trans Gs);rw[oL]at uY;have zV:=ak (show Kd.R qy 69 _ _ _ _ ((bG qZ pF).f0)from uY);clear oL uY;have oM:=uG 1 _ rfl;rw[vN _ _ 1 (by omega)]at oM;replace oM:=Option.some.inj (oM.symm.trans Gt);rw[oM]at uZ;have vk:=ak (show Kd.R Kd.string 9 _ _ _ _ ((bG qZ pF).f1)from uZ);clear oM uZ;have oN:=uG 2 _ rfl;rw[vN _ _ 2 (by omega)]at oN;replace oN:=Option.some.inj (oN.symm.trans Gu);rw[oN]at u_;have zW:=ak (show Kd.R k28 28 _ _ _ _ ((bG qZ pF).f2)from u_);clear oN u_ uG Lc;have oO:=ak zO;have Gv:=ak zN;clear zO zN;have oP:=ak zS;have Gw:=ak zQ;clear zS zQ;have oQ:=ak zU;have Gx:=ak zT;clear zU zT;replace Dp:=eq_true Dp;replace Dq:=eq_true Dq;go_wp2_with (first|(refine gV Tryz.func24 (kR.calls (cu (by repeat(first|(with_reducible exact oO.out)|(with_reducible refine Kd.ji ?_ _)|(with_reducible refine Kd.jk ?_ _)|(with_reducible refine Kd.kM ?_)|exact oO.out))) Gv.out (cu (by repeat(first|(with_reducible exact oP.out)|(with_reducible refine Kd.ji ?_ _)|(with_reducible refine Kd.jk ?_ _)|(with_reducible refine Kd.kM ?_)|exact oP.out))) Gw.out (cu (by repeat(first|(with_reducible exact oQ.out)|(with_reducible refine Kd.ji ?_ _)|(with_reducible refine Kd.jk ?_ _)|(with_reducible refine Kd.kM ?_)|exact oQ.out))) Gx.out ?wI A60.out) ?_;(case wI=>first|exact HG.out|exact MaxOk.below HG.out bb|(repeat(first|exact HG.out|apply MaxOk.drewN|apply MaxOk.drew)));rintro alS w72 ⟨ho0,hb⟩;have Gy:=ak (Kd.aA (Kd.eX (Kd.eX ho0 (Kd.jw (ur iK.out))) (Kd.jw (ur vk.out))) (aj bb));replace qK:=ak (Kd.yh (by(with_reducible repeat(first|apply Kd.kJ|apply Kd.kK|apply Kd.mP));exact qK.out) (Kd.dw ho0) hb);replace iT:=rb iT hb;replace iK:=ak (Kd.bW (ur iK.out) (Kd.dw ho0) hb);replace f_:=ak (Kd.bW (ur f_.out) (Kd.dw ho0) hb);replace tu:=rb tu hb;replace zV:=rb zV hb;replace vk:=ak (Kd.bW (ur vk.out) (Kd.dw ho0) hb);replace zW:=ak (Kd.bW (ur zW.out) (Kd.dw ho0) hb);replace jP:=kb jP hb;replace uq:=kb uq hb;replace oO:=ak (Kd.aX (by repeat(first|(with_reducible exact oO.out)|(with_reducible refine Kd.ji ?_ _)|(with_reducible refine Kd.jk ?_ _)|(with_reducible refine Kd.kM ?_)|exact oO.out)) hb);replace oP:=ak (Kd.aX (by repeat(first|(with_reducible exact oP.out)|(with_reducible refine Kd.ji ?_ _)|(with_reducible refine Kd.jk ?_ _)|(with_reducible refine Kd.kM ?_)|exact oP.out)) hb);replace oQ:=ak (Kd.aX (by repeat(first|(with_reducible exact oQ.out)|(with_reducible refine Kd.ji ?_ _)|(with_reducible refine Kd.jk ?_ _)|(with_reducible refine Kd.kM ?_)|exact oQ.out)) hb);replace HB:=bz HB hb;clear hb;(try clear ho0);have Le:0≤(pF:Int):=of_decide_eq_true (by assumption);have Lh:pF<(OO.length:Int):=of_decide_eq_true (by assumption);obtain⟨apa,ajg,ajh,aga,Q_,Gz,GH⟩:=EZ (Kd.tN qK.out).2.2 pF Le Lh;cases aga;obtain⟨apb,VD,VE,Lj⟩:=Kd.afj qK.out [] pF Le (by first|exact Lh|exact of_decide_eq_true (by assumption)|(have e_:=(Kd.tN qK.out).1;omega));obtain⟨agb,rfl,BM⟩:=VE;have vw:=Lj 0 _ rfl;rw[Nat.add_zero,show((Kd.slice 9 Kd.string)).sz=1 from rfl,Nat.mul_one]at vw;replace vw:=Option.some.inj (vw.symm.trans Q_);rw[vw]at BM;have agc:=ak (show Kd.R Kd.string 9 _ _ _ _ (qh OO pF)from BM);clear vw BM;clear Lj VD;have GI:=ak GH;have Rf:=ak Gz;clear GH Gz;replace Le:=eq_true Le;replace Lh:=eq_true Lh;obtain⟨aIT,aIU,aA5⟩:=Kd.aI Gy.out;subst aA5)|(go_at_call 22;refine mA (gq.calls (cu ((Kd.ay Gy.out).2.2)) ((Kd.ay Gy.out).2.1) (cu (by repeat(first|(with_reducible exact GI.out)|(with_reducible refine Kd.ji ?_ _)|(with_reducible refine Kd.jk ?_ _)|(with_reducible refine Kd.kM ?_)|exact GI.out))) Rf.out A62.out) ?_;intro nd))
             go_ret;exact⟨er,bb⟩
           ·obtain rfl:=s1 H;obtain⟨aIV,aIW,aA6⟩:=Kd.zo qK.out;subst aA6;have av2:=zL.out;have av3:=zM.out;have z76:=kF jP.out;have Dp:=zi pF;have Dq:=zj pF qZ.length;obtain⟨af8,abG,abH,abI,abJ,abK,abL,Xz,Gs,Gt,Gu,zN,zO,zQ,zS,zT,zU⟩:=BA (Kd.ay f_.out).2.2 pF Dp Dq;cases Xz;obtain⟨af9,Lc,Ld,uG⟩:=Kd.af_ f_.out z28 pF Dp (by first|exact Dq|exact of_decide_eq_true (by assumption)|(have e_:=(Kd.ay f_.out).1;omega));obtain⟨XA,XB,XC,rfl,uY,uZ,u_⟩:=MV Ld;have oL:=uG 0 _ rfl;rw[Nat.add_zero]at oL;replace oL:=Option.some.inj (oL.symm.trans Gs);rw[oL]at uY;have zV:=ak (show Kd.R qy 69 _ _ _ _ ((bG qZ pF).f0)from uY);clear oL uY;have oM:=uG 1 _ rfl;rw[vN _ _ 1 (by omega)]at oM;replace oM:=Option.some.inj (oM.symm.trans Gt);rw[oM]at uZ;have vk:=ak (show Kd.R Kd.string 9 _ _ _ _ ((bG qZ pF).f1)from uZ);clear oM uZ;have oN:=uG 2 _ rfl;rw[vN _ _ 2 (by omega)]at oN;replace oN:=Option.some.inj (oN.symm.trans Gu);rw[oN]at u_;have zW:=ak (show Kd.R k28 28 _ _ _ _ ((bG qZ pF).f2)from u_);clear oN u_ uG Lc;have oO:=ak zO;have Gv:=ak zN;clear zO zN;have oP:=ak zS;have Gw:=ak zQ;clear zS zQ;have oQ:=ak zU;have Gx:=ak zT;clear zU zT;replace Dp:=eq_true Dp;replace Dq:=eq_true Dq;go_wp2_with (refine gV Tryz.func24 (kR.calls (cu (by repeat(first|(with_reducible exact oO.out)|(with_reducible refine Kd.ji ?_ _)|(with_reducible refine Kd.jk ?_ _)|(with_reducible refine Kd.kM ?_)|exact oO.out))) Gv.out (cu (by repeat(first|(with_reducible exact oP.out)|(with_reducible refine Kd.ji ?_ _)|(with_reducible refine Kd.jk ?_ _)|(with_reducible refine Kd.kM ?_)|exact oP.out))) Gw.out (cu (by repeat(first|(with_reducible exact oQ.out)|(with_reducible refine Kd.ji ?_ _)|(with_reducible refine Kd.jk ?_ _)|(with_reducible refine Kd.kM ?_)|exact oQ.out))) Gx.out ?wI A60.out) ?_;(case wI=>first|exact HG.out|exact MaxOk.below HG.out bb|(repeat(first|exact HG.out|apply MaxOk.drewN|apply MaxOk.drew)));rintro alS w77 ⟨ho0,hb⟩;have Gy:=ak (Kd.aA (Kd.eX (Kd.eX ho0 (Kd.jw (ur iK.out))) (Kd.jw (ur vk.out))) (aj bb));replace qK:=ak (Kd.yh (by(with_reducible repeat(first|apply Kd.kJ|apply Kd.kK|apply Kd.mP));exact qK.out) (Kd.dw ho0) hb);replace iT:=rb iT hb;replace iK:=ak (Kd.bW (ur iK.out) (Kd.dw ho0) hb);replace f_:=ak (Kd.bW (ur f_.out) (Kd.dw ho0) hb);replace tu:=rb tu hb;replace zV:=rb zV hb;replace vk:=ak (Kd.bW (ur vk.out) (Kd.dw ho0) hb);replace zW:=ak (Kd.bW (ur zW.out) (Kd.dw ho0) hb);replace jP:=kb jP hb;replace uq:=kb uq hb;replace oO:=ak (Kd.aX (by repeat(first|(with_reducible exact oO.out)|(with_reducible refine Kd.ji ?_ _)|(with_reducible refine Kd.jk ?_ _)|(with_reducible refine Kd.kM ?_)|exact oO.out)) hb);replace oP:=ak (Kd.aX (by repeat(first|(with_reducible exact oP.out)|(with_reducible refine Kd.ji ?_ _)|(with_reducible refine Kd.jk ?_ _)|(with_reducible refine Kd.kM ?_)|exact oP.out)) hb);replace oQ:=ak (Kd.aX (by repeat(first|(with_reducible exact oQ.out)|(with_reducible refine Kd.ji ?_ _)|(with_reducible refine Kd.jk ?_ _)|(with_reducible refine Kd.kM ?_)|exact oQ.out)) hb);replace HB:=bz HB hb;clear hb;(try clear ho0))
            go_ret;exact⟨er,bb⟩
          ·obtain rfl:=s1 H;obtain⟨aIX,aIY,aA7⟩:=Kd.zo qK.out;subst aA7;go_wp2;go_ret;exact⟨er,bb⟩
/-- THE ONE PURE STATEMENT of laws_FnKidLines: yours. -/
def bC.Pure:Prop:=∀(l0:List Int),l0.length≤maxLen→l0.length*1≤140737488351232→(∀x∈l0,(Lit.int .u8 x).wf=true)→∃k,bC.f k l0=some true
theorem bC.walk (P:bC.Pure) (a0:Option Addr) (len0 cap0:Nat) (z0:List Int) (w:World) (w0:(a0=none∧len0=0∧cap0=0∧z0=[])∨∃x,a0=some x∧len0≤cap0∧cap0≤maxLen∧z0.length=cap0∧(∀i,i<z0.length→w.cell? (x.add i)=some (.int .u8 (z0.getD i 0)))∧∀n∈z0,(Lit.int .u8 n).wf=true) (y0:len0*1≤140737488351232) (DW:MaxOk w):
  Calls Tryz.prog 13 #[.slice a0 len0 cap0] w fun e w'=>e= .returned (.bool true)∧Below w.heap.size w w':=by
 obtain⟨l0,rfl,hr0,hm0,hw0,hc0⟩:=lC.apc w0;obtain⟨k,h⟩:=P l0 hm0 y0 hw0;refine(bC.calls (Kd.Jo (d:=(0:Int)) (h1:=fun _=>rfl) hr0) hc0 DW h).mono ?_;rintro e w' ⟨rfl,hd⟩;exact⟨rfl,hd⟩
end Go.Proofs.YtncdadcmghglkaaGreatDoor.PFnKidLines
