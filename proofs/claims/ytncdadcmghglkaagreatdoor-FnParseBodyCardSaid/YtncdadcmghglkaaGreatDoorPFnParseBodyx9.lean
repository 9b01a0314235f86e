/- Printed walks; conditions: those in each statement. -/
import Derived.Test.YtncdadcmghglkaaGreatDoorVFnParseBodyQt
import Derived.Test.YtncdadcmghglkaaGreatDoorVFnParseBodyYt
import Derived.Test.YtncdadcmghglkaaGreatDoorPFnParseBodyx0
import Derived.Test.YtncdadcmghglkaaGreatDoorPFnParseBodyx4
namespace Go.Proofs.YtncdadcmghglkaaGreatDoor.PFnParseBody
open Go.Proofs.YtncdadcmghglkaaGreatDoorW.dK.Kd Go.Proofs.YtncdadcmghglkaaGreatDoorW.oJ.Kd Go.Proofs.Tryz Go.RowKit Go.Proofs.YtncdadcmghglkaaGreatDoor.X Go.Proofs.YtncdadcmghglkaaGreatDoorW.dK Go.Proofs.YtncdadcmghglkaaGreatDoorW.lZ Go.Proofs.YtncdadcmghglkaaGreatDoorW.oJ
attribute [local go_sem] wB wC yO yP uI uJ wE wF   -- for this text's walks alone
set_option linter.unusedVariables false
set_option maxHeartbeats 8000000
set_option maxRecDepth 100000
set_option linter.unusedSimpArgs false
def qO.f(a0:ByteArray)(a1:ByteArray):Option (Bool):=if 2+a1.size≤9223372036854775807 then(if a0.toList=((⟨#[45,45]⟩:ByteArray)++a1).toList then(some true)else(if((⟨#[45,45]⟩:ByteArray)++a1).size+2≤9223372036854775807 then(some (a0.toList==(((⟨#[45,45]⟩:ByteArray)++a1)++(⟨#[45,45]⟩:ByteArray)).toList))else(none)))else(none)
theorem qO.calls{a0 a1:ByteArray}{r:Bool}{w:World}(h:qO.f a0 a1=some r):
  Calls Tryz.prog 115 #[.string a0, .string a1] w fun e w'=>e= .returned (.bool r)∧dR w w':=by
 unfold qO.f at h;have H:=h;clear h;replace H:=nn H;obtain⟨c3,H⟩:=H;have jd:=eq_true c3;have yQ:=decide_eq_true c3;try have TK:(9223372036854775807<2+a1.size)=False:=eq_false (Nat.not_lt.2 c3)
 replace H:=sq H;rcases H with⟨qB,Vj,H⟩|⟨c4,qB,Vj,H⟩
 ·obtain rfl:=s1 H;go_enter func115,ntmps115;go_wp2;go_ret;exact⟨rs,dn⟩
 ·replace H:=nn H;obtain⟨c5,H⟩:=H;have nO:=eq_true c5;have QY:=decide_eq_true c5;try have aSU:(9223372036854775807<2+a1.size+2)=False:=by have h_:=(eq_false (Nat.not_lt.2 c5):(9223372036854775807<((⟨#[45,45]⟩:ByteArray)++a1).size+2)=False);simp only[ByteArray.size_append]at h_;exact h_
  try have aSV:(9223372036854775807<((⟨#[45,45]⟩:ByteArray)++a1).size+2)=False:=eq_false (Nat.not_lt.2 c5)
  obtain rfl:=s1 H;go_enter func115,ntmps115;go_wp2;go_ret;exact⟨rs,dn⟩
mutual
def dD.j0:Nat→List (List ByteArray)→ByteArray→List ByteArray→Bool→Option (List ByteArray×Bool)
 |0,_,_,_,_=>none
 |k+1,x0,x1,x6,x17=>if x17=true then(some (x6,false))else(dD.l0 k x0 x1 x6 0)
def dD.l0:Nat→List (List ByteArray)→ByteArray→List ByteArray→Int→Option (List ByteArray×Bool)
 |0,_,_,_,_=>none
 |k+1,x0,x1,x6,x7=>if x7<(x0.length:Int)then(if 2+x1.size≤9223372036854775807 then(if x6.length<8796093022208 then(dD.l1 k x0 x1 (x6++[(⟨#[45,45]⟩:ByteArray)++x1]) x7 0)else(none))else(none))else(if 2+x1.size≤9223372036854775807 then(if((⟨#[45,45]⟩:ByteArray)++x1).size+2≤9223372036854775807 then(if x6.length<8796093022208 then(some ((x6++[((⟨#[45,45]⟩:ByteArray)++x1)++(⟨#[45,45]⟩:ByteArray)]),true))else(none))else(none))else(none))
def dD.l1:Nat→List (List ByteArray)→ByteArray→List ByteArray→Int→Int→Option (List ByteArray×Bool)
 |0,_,_,_,_,_=>none
 |k+1,x0,x1,x6,x7,x8=>if 0≤x7 then(if x7<(x0.length:Int)then(if x8<((mJ x0 x7).length:Int)then(if 0≤x8 then((qO.f (iD ByteArray.empty (mJ x0 x7) x8) x1).bind fun aDn=>(if aDn=true then(some ((([]:List ByteArray)),false))else(if x6.length<8796093022208 then(dD.l1 k x0 x1 (x6++[iD ByteArray.empty (mJ x0 x7) x8]) x7 (wrap64 (x8+1)))else(none))))else(none))else(dD.l0 k x0 x1 x6 (wrap64 (x7+1))))else(none))else(none)
end
def dD.f(k:Nat)(l0:List (List ByteArray))(a1:ByteArray):Option (List ByteArray×Bool):=(some (([]:List ByteArray):List ByteArray)).bind fun alq=>((bW.f k a1).bind fun aDo=>(if aDo=true then(dD.j0 k l0 a1 alq ((l0.length:Int)==0))else(dD.j0 k l0 a1 alq true)))
theorem dD.calls{k c0:Nat}{A0:Option Addr}{l0:List (List ByteArray)}{a1:ByteArray}{r1:List ByteArray}{r2:Bool}{w:World}(hr0:Kd.C (Kd.slice 9 Kd.string) w A0 l0.length l0)(hc0:l0.length≤c0)(h:dD.f k l0 a1=some (r1,r2)):
  Calls Tryz.prog 109 #[.slice A0 l0.length c0, .string a1] w fun e w'=>∃pW:Value,e= .returned (.tuple #[pW, .bool r2])∧Kd.R Kd.string 9 w' w.heap.size (fun _=>True) pW r1∧Below w.heap.size w w':=by
 have HR0:=ak hr0;have vw:=ak hc0;clear hr0 hc0;have HB:=ak (Below.refl w.heap.size w);unfold dD.f at h;have H:=h;clear h;replace H:=ny H;obtain⟨alq,aDp,H⟩:=H;have QX:=ak H;clear H;go_enter func109,ntmps109;go_upto_region 2 with(refine gG 9 ?_;refine DR 9 Kd.string 9 aDp ?_;intro aIG w4 ho5 hb;have arY:=ak (aC ho5 (au (ul HB.out)));replace HB:=bs HB hb;clear hb ho5)
 (try simp only[Act.put,C_,Dc,l_c]);go_cut [17] (fun v17 wc=>∃(kq:Nat) (WE:Bool),v17= .bool WE∧ah (dD.j0 kq l0 a1 alq WE=some (r1,r2))∧ah (kq≤k)∧ah (Kd.R Kd.string 9 wc w.heap.size (fun _=>True) aIG alq)∧ah (Below w.heap.size w wc))
 case first=>
  have H:=QX.out;clear QX;replace H:=bd H;obtain⟨aDo,A6,H⟩:=H;replace H:=sb H;rcases H with⟨rfl,H⟩|⟨rfl,H⟩
  ·have H':=ak H;clear H;go_wp2_with (refine gA func157 (bW.calls A6.out) ?_;intro nd)
   go_meet
   case rel=>exact⟨_,_,rs,H',⟨JB⟩,⟨ur arY.out⟩,⟨ul HB.out⟩⟩
  ·have H':=ak H;clear H;go_wp2_with (refine gA func157 (bW.calls A6.out) ?_;intro nd)
   go_meet
   case rel=>exact⟨_,_,rs,H',⟨JB⟩,⟨ur arY.out⟩,⟨ul HB.out⟩⟩
 case rest=>
  clear QX;obtain⟨kq,WE,rfl,HA,HJ2,jZ,HB⟩:=hcut
  cases kq with
  |zero=>exact zz HA.out
  |succ kj2=>
   obtain⟨H⟩:=HA;simp only[dD.j0]at H;replace H:=sb H;rcases H with⟨rfl,H⟩|⟨rfl,H⟩
   ·obtain⟨rfl,rfl⟩:=s2 H;go_wp2;go_ret2;exact⟨_,er,ur jZ.out,ul HB.out⟩
   ·have H':=ak H;clear H;go_wp2;go_loopg [6,7] kj2 (fun kq v6 v7 w'=>∃(wH:List ByteArray) (CU:Int),v7= .int .i64 CU∧ah (dD.l0 kq l0 a1 wH CU=some (r1,r2))∧ah (kq≤kj2)∧ah (Kd.R Kd.string 9 w' w.heap.size (fun _=>True) v6 wH)∧ah (Below w.heap.size w w'))
    case atStart=>exact⟨_,_,rs,H',⟨Nat.le_refl _⟩,⟨ur jZ.out⟩,⟨ul HB.out⟩⟩
    case round=>
     clear H';obtain⟨wH,CU,rfl,HA,HK2,jZ,HB⟩:=hrel
     cases gk with
     |zero=>exact zz HA.out
     |succ k2=>
      obtain⟨H⟩:=HA;simp only[dD.l0]at H;replace H:=sd H;rcases H with⟨xG,H⟩|⟨xG,H⟩
      ·replace H:=nn H;obtain⟨c10,H⟩:=H;have qj:=eq_true c10;have uN:=decide_eq_true c10;try have aaU:(9223372036854775807<2+a1.size)=False:=eq_false (Nat.not_lt.2 c10)
       replace H:=nl H;obtain⟨VF,H⟩:=H;obtain⟨aSW,arZ⟩:=nm (wH++[(⟨#[45,45]⟩:ByteArray)++a1]);rw[←arZ.out]at H;have H':=ak H;clear H;go_wp2_with ((with_reducible refine bP (b:= .append) (xs:=#[.tmp 25, .tmp 28]) rfl ?_);(try(refine lC (by rfl) ?_;dsimp only));at_builtin;refine aP 25 28 Kd.string 23 9 (.string ⟨#[]⟩) 16 underlying23 info9 HB (ur jZ.out) arZ (by have:=VF.out;omega) ?_;intro aSX w12 ho hb hg hat;have aDq:=ak (ho);replace HB:=ak (hb);clear ho hb hg hat jZ)
       go_loopg [6,8] k2 (fun kq v6 v8 w'=>∃(Hf:List ByteArray) (RP:Int),v8= .int .i64 RP∧ah (dD.l1 kq l0 a1 Hf CU RP=some (r1,r2))∧ah (kq≤k2)∧ah (Kd.R Kd.string 9 w' w.heap.size (fun _=>True) v6 Hf)∧ah (Below w.heap.size w w'))
       case atStart=>exact⟨_,_,rs,H',⟨Nat.le_refl _⟩,⟨ur aDq.out⟩,⟨ul HB.out⟩⟩
       case round=>
        clear H';try clear xG
        try clear c10
        try clear qj
        try clear uN
        try clear aaU
        obtain⟨Hf,RP,rfl,HA,HK3,jZ,HB⟩:=hrel
        cases gk with
        |zero=>exact zz HA.out
        |succ k3=>
         obtain⟨H⟩:=HA;simp only[dD.l1]at H;replace H:=nY H;obtain⟨xE,H⟩:=H;replace H:=nY H;obtain⟨uy,H⟩:=H;replace H:=sd H;rcases H with⟨uz,H⟩|⟨uz,H⟩
         ·replace H:=nY H;obtain⟨Dw,H⟩:=H;replace H:=bd H;obtain⟨aDn,A17,H⟩:=H;replace H:=sb H;rcases H with⟨rfl,H⟩|⟨rfl,H⟩
          ·obtain⟨aSY,ar0⟩:=nm ([]:List ByteArray);rw[←ar0.out]at H;obtain⟨rfl,rfl⟩:=s2 H;have WG:=zi CU;have WH:=zj CU l0.length;obtain⟨abU,alr,als,alu,Bd,F5,F6⟩:=Ec HR0.out CU WG WH;cases alu;replace Bd:=cl HB.out Bd;have afU:=ak F6;have afV:=ak F5;clear F6 F5;replace WG:=eq_true WG;replace WH:=eq_true WH;have adV:=zi CU;have adW:=zj CU l0.length;obtain⟨alv,avG,avH,e264,IU,PS,PU⟩:=Ec HR0.out CU adV adW;obtain rfl:abU=alv:=(by injection e264)
           replace IU:=cl HB.out IU;have Z9:=ak PU;have anR:=ak PS;clear PU PS;replace adV:=eq_true adV;replace adW:=eq_true adW;have S9:=Option.some.inj (Bd.symm.trans IU);injection S9 with S9 en_ ec_;subst S9;subst ec_;clear en_;have adX:=zi RP;have adY:=zj RP ((mJ l0 CU).length);obtain⟨aDr,avI,PV⟩:=bV Z9.out RP adX adY;cases avI;replace PV:=cl HB.out PV;replace adX:=eq_true adX;replace adY:=eq_true adY;go_wp2_with (first|(refine gA func115 (qO.calls A17.out) ?_;intro nd)|(refine gG 48 ?_;refine DR 48 Kd.string 9 ar0 ?_;intro aSZ X_ XC hb;have aDs:=ak (aC (dA XC (jC (ur jZ.out))) (au (ul HB.out)));replace jZ:=ak (dM (ur jZ.out) (bZ XC) hb);replace HB:=bs HB hb;clear hb XC))
           go_ret2;exact⟨_,er,ur (ay aDs.out (fun _ hk=>trivial)),ul HB.out⟩
          ·replace H:=nl H;obtain⟨abz,H⟩:=H;obtain⟨aS0,ar1⟩:=nm (Hf++[iD ByteArray.empty (mJ l0 CU) RP]);rw[←ar1.out]at H;have H':=ak H;clear H;have WG:=zi CU;have WH:=zj CU l0.length;obtain⟨abU,alr,als,alu,Bd,F5,F6⟩:=Ec HR0.out CU WG WH;cases alu;replace Bd:=cl HB.out Bd;have afU:=ak F6;have afV:=ak F5;clear F6 F5;replace WG:=eq_true WG;replace WH:=eq_true WH;have adV:=zi CU;have adW:=zj CU l0.length;obtain⟨alv,avG,avH,e264,IU,PS,PU⟩:=Ec HR0.out CU adV adW;obtain rfl:abU=alv:=(by injection e264)
           replace IU:=cl HB.out IU;have Z9:=ak PU;have anR:=ak PS;clear PU PS;replace adV:=eq_true adV;replace adW:=eq_true adW;have S9:=Option.some.inj (Bd.symm.trans IU);injection S9 with S9 en_ ec_;subst S9;subst ec_;clear en_;have adX:=zi RP;have adY:=zj RP ((mJ l0 CU).length);obtain⟨aDr,avI,PV⟩:=bV Z9.out RP adX adY;cases avI;replace PV:=cl HB.out PV;replace adX:=eq_true adX;replace adY:=eq_true adY;go_wp2_with (first|(refine gA func115 (qO.calls A17.out) ?_;intro nd;have avJ:0≤(CU:Int):=of_decide_eq_true (by assumption);have avK:CU<(l0.length:Int):=of_decide_eq_true (by assumption);obtain⟨aDt,aIH,aII,e270,UG,afW,afX⟩:=Ec HR0.out CU avJ avK;obtain rfl:abU=aDt:=(by injection e270);replace UG:=(HB.out.cell (World.block_lt_of_cell? w _ UG)).trans UG;have anS:=ak afX;have aFx:=ak afW;clear afX afW;replace avJ:=eq_true avJ;replace avK:=eq_true avK;have S9:=Option.some.inj (Bd.symm.trans UG);injection S9 with S9 en_ ec_;subst S9;subst ec_;clear en_;have avL:0≤(RP:Int):=of_decide_eq_true (by assumption);have avM:RP<((mJ l0 CU).length:Int):=of_decide_eq_true (by assumption);obtain⟨aMV,e271,Z_⟩:=bV anS.out RP avL avM;cases e271;replace Z_:=(HB.out.cell (World.block_lt_of_cell? w _ Z_)).trans Z_;replace avL:=eq_true avL;replace avM:=eq_true avM)|((with_reducible refine bP (b:= .append) (xs:=#[.tmp 49, .tmp 57]) rfl ?_);(try(refine lC (by rfl) ?_;dsimp only));at_builtin;refine aP 49 57 Kd.string 23 9 (.string ⟨#[]⟩) 16 underlying23 info9 HB (ur jZ.out) ar1 (by have:=abz.out;omega) ?_;intro aS1 w22 ho hb hg hat;have aDu:=ak (ho);replace HB:=ak (hb);clear ho hb hg hat jZ))
           go_roundg k3
           case measure=>exact kl
           case rel=>exact⟨_,_,rs,H',⟨kl⟩,⟨ur aDu.out⟩,⟨ul HB.out⟩⟩
         ·have H':=ak H;clear H;have WG:=zi CU;have WH:=zj CU l0.length;obtain⟨abU,alr,als,alu,Bd,F5,F6⟩:=Ec HR0.out CU WG WH;cases alu;replace Bd:=cl HB.out Bd;have afU:=ak F6;have afV:=ak F5;clear F6 F5;replace WG:=eq_true WG;replace WH:=eq_true WH;go_wp2;go_roundg k3
          case measure=>exact kl
          case rel=>exact⟨_,_,rs,H',⟨kl⟩,⟨ur jZ.out⟩,⟨ul HB.out⟩⟩
      ·replace H:=nn H;obtain⟨c23,H⟩:=H;have EF:=eq_true c23;have SN:=decide_eq_true c23;try have axS:(9223372036854775807<2+a1.size)=False:=eq_false (Nat.not_lt.2 c23)
       replace H:=nn H;obtain⟨c24,H⟩:=H;have Ei:=eq_true c24;have Yj:=decide_eq_true c24;try have arA:(9223372036854775807<2+a1.size+2)=False:=by have h_:=(eq_false (Nat.not_lt.2 c24):(9223372036854775807<((⟨#[45,45]⟩:ByteArray)++a1).size+2)=False);simp only[ByteArray.size_append]at h_;exact h_
       try have akX:(9223372036854775807<((⟨#[45,45]⟩:ByteArray)++a1).size+2)=False:=eq_false (Nat.not_lt.2 c24)
       replace H:=nl H;obtain⟨abu,H⟩:=H;obtain⟨aS2,ar2⟩:=nm (wH++[((⟨#[45,45]⟩:ByteArray)++a1)++(⟨#[45,45]⟩:ByteArray)]);rw[←ar2.out]at H;obtain⟨rfl,rfl⟩:=s2 H;go_wp2_with ((with_reducible refine bP (b:= .append) (xs:=#[.tmp 59, .tmp 63]) rfl ?_);(try(refine lC (by rfl) ?_;dsimp only));at_builtin;refine aP 59 63 Kd.string 23 9 (.string ⟨#[]⟩) 16 underlying23 info9 HB (ur jZ.out) ar2 (by have:=abu.out;omega) ?_;intro aS3 w26 ho hb hg hat;have aDv:=ak (ho);replace HB:=ak (hb);clear ho hb hg hat jZ)
       go_ret2;exact⟨_,er,ur aDv.out,ul HB.out⟩
mutual
def jO.l0:Nat→List ByteArray→ByteArray→List (List ByteArray)→Int→List (fD)→List ByteArray→List (m_)→Option (List ByteArray)
 |0,_,_,_,_,_,_,_=>none
 |k+1,x3,x5,x7,x8,anT,anU,PW=>if x8<(PW.length:Int)then(if 0≤x8 then((jO.f k ((aY PW x8).f0) ((aY PW x8).f1) ((aY PW x8).f2)).bind fun adZ=>(if x7.length<5864062014805 then(jO.l0 k x3 x5 (x7++[adZ]) (wrap64 (x8+1)) anT anU PW)else(none)))else(none))else((dD.f k x7 x5).bind fun ar4=>(if x3.length+ar4.1.length<8796093022208 then(some (x3++ar4.1))else(none)))
def jO.f:Nat→List (fD)→List ByteArray→List (m_)→Option (List ByteArray)
 |0,_,_,_=>none
 |k+1,fH,eX,aQ=>(jL.f k fH).bind fun ar5=>(if ar5.1.length<8796093022208 then((some (ar5.1++[(⟨#[]⟩:ByteArray)]:List ByteArray)).bind fun XO=>((kE.f k fH).bind fun ar6=>(if ar6.2=true then(jO.l0 k XO ar6.1 (([]:List (List ByteArray))) 0 fH eX aQ)else(if XO.length+eX.length<8796093022208 then(some (XO++eX))else(none)))))else(none))
end
theorem jO.calls(k:Nat):∀(mX:Option Addr) (mY:Nat) (fH:List (fD)) (mM:Option Addr) (mO:Nat) (eX:List ByteArray) (jI:Option Addr) (iP:Nat) (aQ:List (m_)) (r:List ByteArray) (w:World) (rC:Kd.C rP w mX fH.length fH) (rD:fH.length≤mY) (rE:Kd.C Kd.string w mM eX.length eX) (rG:eX.length≤mO) (nH:Kd.C k28 w jI aQ.length aQ) (nI:aQ.length≤iP) (h:jO.f k fH eX aQ=some r),
  Calls Tryz.prog 67 #[.agg #[.slice mX fH.length mY, .slice mM eX.length mO, .slice jI aQ.length iP]] w fun e w'=>∃pW:Value,e= .returned (pW)∧Kd.R Kd.string 9 w' w.heap.size (fun _=>True) pW r∧Below w.heap.size w w':=by
 induction k using Nat.strongRecOn with
 |_ k ih=>
 intro mX mY fH mM mO eX jI iP aQ r w rC rD rE rG nH nI h
 cases k with
 |zero=>exact absurd h (by simp[jO.f])
 |succ k=>
 simp only[jO.f]at h;have GN:=underlying28;have uw:=ak rC;have uK:=ak rD;clear rC rD;have xY:=ak rE;have zY:=ak rG;clear rE rG;have lT:=ak nH;have qh:=ak nI;clear nH nI;have HB:=ak (Below.refl w.heap.size w);have H:=h;clear h;replace H:=bd H;obtain⟨⟨aDw,aS4⟩,A2,H⟩:=H
 (try dsimp only at H);replace H:=nl H;obtain⟨amD,H⟩:=H;replace H:=ny H;obtain⟨XO,ar7,H⟩:=H;replace H:=bd H;obtain⟨⟨aIJ,aS5⟩,A4,H⟩:=H
 (try dsimp only at H);replace H:=sb H;rcases H with⟨rfl,H⟩|⟨rfl,H⟩
 ·obtain⟨aS6,alx⟩:=nm ([]:List (List ByteArray));rw[←alx.out]at H;have H':=ak H;clear H;go_enter func67,ntmps67;go_wp2_with (first|(refine bX HB 1 #[.slice mX fH.length mY, .slice mM eX.length mO, .slice jI aQ.length iP] 28 ?_;intro WI w6 qI aDx hb;replace HB:=bs HB hb;clear hb;have z7:=jY qI.out)|(refine gV func107 (jL.calls (cu (aK uw.out HB.out)) uK.out A2.out) ?_;rintro avN w8 ⟨ho0,hb⟩;have WJ:=ak (aC ho0 (au bb));replace qI:=kb qI hb;replace HB:=bz HB hb;clear hb;(try clear ho0))|((with_reducible refine bP (b:= .append) (xs:=#[.tmp 17, .tmp 18]) rfl ?_);at_builtin;refine oh Kd.string (w0:=w) w.heap.size rfl (.tmp 17) (.tmp 18) 23 9 (.string ⟨#[]⟩) 16 rfl underlying23 info9 rfl (by decide) (by omega) avN aDw (⟨#[]⟩:ByteArray) [.string (⟨#[]⟩:ByteArray)] (fun _=>True) (fun _=>False) rfl rfl ?aP (fun _ hk=>hk.elim) ?aF ?aO ?aB ?aS ?aL ?_;(case aP=>exact rfl);(case aB=>exact bb);(case aF=>exact(fun _ _=>trivial));(case aO=>exact(ur WJ.out));(case aS=>exact(au bb));(case aL=>have:=amD.out;omega);intro abV w9 ho hb hg hat;rw[←ar7.out]at ho;have Jf:=ak (ho);replace qI:=ak (fB (g:=WI) (o:= .cells #[.slice mX fH.length mY, .slice mM eX.length mO, .slice jI aQ.length iP] 28 (0,0)) (ub qI.out) hg (vS WJ.out qI.out (by decide)));replace HB:=ak (hb);clear ho hb hg hat WJ;have z10:=jY qI.out)|(refine gB func108 (kE.calls (cu (aK uw.out HB.out)) uK.out A4.out) ?_;intro X0 hb;replace Jf:=rb Jf hb;replace qI:=kb qI hb;replace HB:=bz HB hb;clear hb)|((with_reducible refine Hl (N:=32) rfl ?_);refine Yw (Kd.slice 9 Kd.string) _ 23 ?hg (N:=32) ?hd (xs:=([]:List (List ByteArray))) (inner:=[]) (ok:=fun _=>True) (yt:=fun _=>True) ?hr ?hp (fun _ hk=>hk) trivial (Below.refl _ _) (Nat.le_refl _) (by simp) ?_;(case hd=>rfl);(case hg=>rfl);(case hr=>first|(go_simp;done)|(go_simp;rfl));(case hp=>exact(dP.none _ _));intro aS7 w12 ZX hb EG CO;clear EG CO;(first|rw[←alx.out]at ZX|(simp only[Int.reduceToNat]at ZX;rw[←alx.out]at ZX));have aDy:=ak (AB (VX ZX (jC (ur Jf.out))) (au bb));replace Jf:=rb Jf hb;replace qI:=kb qI hb;replace HB:=bz HB hb;clear hb ZX))
  go_loopg [7,8] k (fun kq v7 v8 w'=>∃(qE:List (List ByteArray)) (mQ:Int),v8= .int .i64 mQ∧ah (jO.l0 kq XO aIJ qE mQ fH eX aQ=some r)∧ah (kq≤k)∧ah (Kd.R Kd.string 9 w' w.heap.size (fun _=>True) abV XO)∧ah (Kd.S (Kd.slice 9 Kd.string) 23 w' w.heap.size (fun k_=>some k_≠(abV:Value).ownBlock) v7 qE)∧ah (w'.heap[WI]? =some (.cells #[(.slice mX fH.length mY),(.slice mM eX.length mO),(.slice jI aQ.length iP)] 28 (0,0)))∧ah (Below w.heap.size w w'))
  case atStart=>exact⟨_,_,rs,H',⟨Nat.le_refl _⟩,⟨ur Jf.out⟩,⟨by(with_reducible repeat(first|apply Kd.eH|apply Kd.eP|apply Kd.iF));exact uj aDy.out (fun _ hk=>hk.2)⟩,⟨ub qI.out⟩,⟨bb⟩⟩
  case round=>
   clear H';obtain⟨qE,mQ,rfl,HA,yN,mZ,qA,qI,HB⟩:=hrel
   cases gk with
   |zero=>exact zz HA.out
   |succ k1=>
    obtain⟨H⟩:=HA;simp only[jO.l0]at H;replace H:=sd H;rcases H with⟨uy,H⟩|⟨uy,H⟩
    ·replace H:=nY H;obtain⟨uz,H⟩:=H;replace H:=bd H;obtain⟨adZ,A16,H⟩:=H;replace H:=nl H;obtain⟨ajJ,H⟩:=H;obtain⟨aS8,ar8⟩:=nm (qE++[adZ]);rw[←ar8.out]at H;have H':=ak H;clear H;have z18:=jY qI.out;have avO:=zi mQ;have avP:=zj mQ aQ.length;obtain⟨aDz,aIK,aIL,aIM,aIN,aIO,aIP,e291,afY,afZ,af0,af2,af4,af5,af6,af7,af8⟩:=Ed lT.out mQ avO avP;cases e291;replace afY:=cl HB.out afY;replace afZ:=cl HB.out afZ;replace af0:=cl HB.out af0;have anV:=ak af4;have anW:=ak af2;clear af4 af2;have anX:=ak af6;have anY:=ak af5;clear af6 af5;have anZ:=ak af8;have an0:=ak af7;clear af8 af7;replace avO:=eq_true avO;replace avP:=eq_true avP;go_wp2_with (first|(refine gV func67 (ih k1 (by have:=yN.out;omega) _ _ ((aY aQ mQ).f0) _ _ ((aY aQ mQ).f1) _ _ ((aY aQ mQ).f2) adZ _ (cu (aK anV.out HB.out)) anW.out (cu (aK anX.out HB.out)) anY.out (cu (aK anZ.out HB.out)) an0.out A16.out) ?_;rintro aS9 X_ ⟨ho0,hb⟩;have af9:=ak (aC (dA ho0 (jC (ur mZ.out))) (au bb));replace mZ:=ak (dM (ur mZ.out) (bZ ho0) hb);replace qA:=ak (tV (by(with_reducible repeat(first|apply Kd.eH|apply Kd.eP|apply Kd.iF));exact qA.out) (bZ ho0) hb);replace qI:=kb qI hb;replace HB:=bz HB hb;clear hb;(try clear ho0);obtain⟨mg,kT,QS⟩:=aI af9.out;subst QS)|((with_reducible refine bP (b:= .append) (xs:=#[.tmp 40, .tmp 47]) rfl ?_);at_builtin;refine Ho (Kd.slice 9 Kd.string) (w0:=w) w.heap.size rfl (.tmp 40) (.tmp 47) 65 23 (.slice none 0 0) 24 rfl underlying65 info23 rfl (by decide) (by omega) u7 qE adZ [.slice mg adZ.length kT] (fun k_=>some k_≠(abV:Value).ownBlock) (fun k_=>some k_=(.slice mg adZ.length kT:Value).ownBlock) rfl rfl ?aP (fun k_ hk_=>((ay (ok':=fun k_=>((fun k_=>some k_≠(abV:Value).ownBlock)) k_∧some k_≠(u7:Value).ownBlock) (oq (af9.out) (yh qA.out) (by decide)) (fun k_ hk=>⟨hk.1.2,hk.2⟩))).1 k_ hk_.symm) ?aF ?aO ?aB ?aS ?aL ?_;(case aP=>exact VR (ay (KJ rfl (ay (ok':=fun k_=>((fun k_=>some k_≠(abV:Value).ownBlock)) k_∧some k_≠(u7:Value).ownBlock) (oq (af9.out) (yh qA.out) (by decide)) (fun k_ hk=>⟨hk.1.2,hk.2⟩))) (fun _ h_=>h_)));(case aB=>exact bb);(case aF=>exact(fun k_ hk=>Kd.fresh' (jC (ur mZ.out)) k_ hk));(case aO=>exact(by(with_reducible repeat(first|apply Kd.eH|apply Kd.eP|apply Kd.iF));exact uj qA.out (fun k_ hk=>⟨hk.1,fun e_=>hk.2 e_⟩)));(case aS=>exact(au bb));(case aL=>have:=ajJ.out;omega);intro aS_ w20 ho hb hg hat;rw[←ar8.out]at ho;have aDA:=ak (ho);replace mZ:=ak (xZ (ur mZ.out) (yh (by(with_reducible repeat(first|apply Kd.eH|apply Kd.eP|apply Kd.iF));exact qA.out)) (by decide) hg);replace qI:=ak (fB (g:=WI) (o:= .cells #[.slice mX fH.length mY, .slice mM eX.length mO, .slice (some aDz) aQ.length iP] 28 (0,0)) (ub qI.out) hg (auN qA.out qI.out (by decide)));replace HB:=ak (hb);clear ho hb hg hat qA af9))
     go_roundg k1
     case measure=>exact kl
     case rel=>exact⟨_,_,rs,H',⟨kl⟩,⟨ur (ay mZ.out (fun _ hk=>trivial))⟩,⟨by(with_reducible repeat(first|apply Kd.eH|apply Kd.eP|apply Kd.iF));exact aDA.out⟩,⟨ub qI.out⟩,⟨bb⟩⟩
    ·replace H:=bd H;obtain⟨⟨an1,aTa⟩,A22,H⟩:=H
     (try dsimp only at H);replace H:=nl H;obtain⟨aiq,H⟩:=H;obtain⟨aTb,ar9⟩:=nm (XO++an1);rw[←ar9.out]at H;obtain rfl:=s1 H;have z24:=jY qI.out;obtain⟨Hw,Gv,akH⟩:=AO qA.out;subst akH;go_wp2_with (first|(refine gV func109 (dD.calls (cu ((rJ qA.out).2.2)) ((rJ qA.out).2.1) A22.out) ?_;rintro aTc w26 ⟨ho0,hb⟩;have abW:=ak (aC (dA ho0 (jC (ur mZ.out))) (au bb));replace mZ:=ak (dM (ur mZ.out) (bZ ho0) hb);replace qA:=ak (tV (by(with_reducible repeat(first|apply Kd.eH|apply Kd.eP|apply Kd.iF));exact qA.out) (bZ ho0) hb);replace qI:=kb qI hb;replace HB:=bz HB hb;clear hb;(try clear ho0);obtain⟨aDB,auo,anr⟩:=aI abW.out;subst anr)|((with_reducible refine bP (b:= .append) (xs:=#[.tmp 55, .tmp 56]) rfl ?_);at_builtin;refine pz Kd.string (w0:=w) w.heap.size rfl (.tmp 55) (.tmp 56) 23 9 (.string ⟨#[]⟩) 16 rfl underlying23 info9 rfl (by decide) (by omega) abV XO an1 _ _ _ (fun k_=>some k_≠(.slice aDB an1.length auo:Value).ownBlock) (fun _=>False) rfl rfl ?aO ?aR (fun _ _ h=>h) (fun _ h=>h.elim) ?aF ?aB ?aS ?aL ?_;(case aR=>repeat(first|exact(aj abW.out).2.2|(with_reducible refine Kd.nR ?_ _)|(with_reducible refine Kd.nS ?_ _)|(with_reducible refine Kd.qJ ?_)));(case aB=>exact bb);(case aF=>exact(fun k_ hk=>Kd.fresh' (jC (ur abW.out)) k_ hk));(case aO=>exact(ur (ay mZ.out (fun _ hk=>hk.2))));(case aS=>exact(au bb));(case aL=>have:=aiq.out;omega);intro aTd w27 ho hb hg hat;rw[←ar9.out]at ho;have aDC:=ak (ho);replace qA:=ak (UC (ok:=(fun k_=>some k_≠(.slice aDB an1.length auo:Value).ownBlock)) (by(with_reducible repeat(first|apply Kd.eH|apply Kd.eP|apply Kd.iF));exact uj qA.out (fun _ hk=>⟨hk.2,hk.1⟩)) hg hat);replace qI:=ak (fB (g:=WI) (o:= .cells #[.slice mX fH.length mY, .slice mM eX.length mO, .slice jI aQ.length iP] 28 (0,0)) (ub qI.out) hg (vS mZ.out qI.out (by decide)));replace abW:=ak (Ih (ok:=(fun _=>True)) (ur abW.out) hg hat);replace HB:=ak (hb);clear ho hb hg hat mZ))
     go_ret;exact⟨_,er,ur (ay aDC.out (fun _ hk=>trivial)),bb⟩
 ·replace H:=nl H;obtain⟨aDD,H⟩:=H;obtain⟨aTe,ar_⟩:=nm (XO++eX);rw[←ar_.out]at H;obtain rfl:=s1 H;go_enter func67,ntmps67;go_wp2_with (first|(refine bX HB 1 #[.slice mX fH.length mY, .slice mM eX.length mO, .slice jI aQ.length iP] 28 ?_;intro WI w30 qI aDx hb;replace HB:=bs HB hb;clear hb;have z31:=jY qI.out)|(refine gV func107 (jL.calls (cu (aK uw.out HB.out)) uK.out A2.out) ?_;rintro avN w32 ⟨ho0,hb⟩;have WJ:=ak (aC ho0 (au bb));replace qI:=kb qI hb;replace HB:=bz HB hb;clear hb;(try clear ho0))|((with_reducible refine bP (b:= .append) (xs:=#[.tmp 17, .tmp 18]) rfl ?_);at_builtin;refine oh Kd.string (w0:=w) w.heap.size rfl (.tmp 17) (.tmp 18) 23 9 (.string ⟨#[]⟩) 16 rfl underlying23 info9 rfl (by decide) (by omega) avN aDw (⟨#[]⟩:ByteArray) [.string (⟨#[]⟩:ByteArray)] (fun _=>True) (fun _=>False) rfl rfl ?aP (fun _ hk=>hk.elim) ?aF ?aO ?aB ?aS ?aL ?_;(case aP=>exact rfl);(case aB=>exact bb);(case aF=>exact(fun _ _=>trivial));(case aO=>exact(ur WJ.out));(case aS=>exact(au bb));(case aL=>have:=amD.out;omega);intro abV w33 ho hb hg hat;rw[←ar7.out]at ho;have Jf:=ak (ho);replace qI:=ak (fB (g:=WI) (o:= .cells #[.slice mX fH.length mY, .slice mM eX.length mO, .slice jI aQ.length iP] 28 (0,0)) (ub qI.out) hg (vS WJ.out qI.out (by decide)));replace HB:=ak (hb);clear ho hb hg hat WJ;have z34:=jY qI.out)|(refine gB func108 (kE.calls (cu (aK uw.out HB.out)) uK.out A4.out) ?_;intro w35 hb;replace Jf:=rb Jf hb;replace qI:=kb qI hb;replace HB:=bz HB hb;clear hb;have z36:=jY qI.out)|((with_reducible refine bP (b:= .append) (xs:=#[.tmp 28, .tmp 30]) rfl ?_);at_builtin;refine pz Kd.string (w0:=w) w.heap.size rfl (.tmp 28) (.tmp 30) 23 9 (.string ⟨#[]⟩) 16 rfl underlying23 info9 rfl (by decide) (by omega) abV XO eX _ _ _ (fun _=>True) (fun _=>False) rfl rfl ?aO ?aR (fun _ _ h=>h) (fun _ h=>h.elim) ?aF ?aB ?aS ?aL ?_;(case aR=>repeat(first|exact(aK xY.out HB.out)|(with_reducible refine Kd.nR ?_ _)|(with_reducible refine Kd.nS ?_ _)|(with_reducible refine Kd.qJ ?_)));(case aB=>exact bb);(case aF=>exact(fun _ _=>trivial));(case aO=>exact(ur Jf.out));(case aS=>exact(au bb));(case aL=>have:=aDD.out;omega);intro aTf w37 ho hb hg hat;rw[←ar_.out]at ho;have aDE:=ak (ho);replace qI:=ak (fB (g:=WI) (o:= .cells #[.slice mX fH.length mY, .slice mM eX.length mO, .slice jI aQ.length iP] 28 (0,0)) (ub qI.out) hg (vS Jf.out qI.out (by decide)));replace HB:=ak (hb);clear ho hb hg hat Jf))
  go_ret;exact⟨_,er,ur aDE.out,bb⟩
mutual
def jr.l0:Nat→List ByteArray→Int→Option (Bool)
 |0,_,_=>none
 |k+1,x0,x3=>if x3<(x0.length:Int)then(jr.j1 k x0 x3 (decide (x3≤30)))else(jr.j1 k x0 x3 false)
def jr.j1:Nat→List ByteArray→Int→Bool→Option (Bool)
 |0,_,_,_=>none
 |k+1,x0,x3,x11=>if x11=true then(if 0≤x3 then(if x3<(x0.length:Int)then((aU.f k (iD ByteArray.empty x0 x3)).bind fun an2=>(if an2=true then(jr.l0 k x0 (wrap64 (x3+1)))else(some false)))else(none))else(none))else(some (decide ((x0.length:Int)≤30)))
end
def jr.f(k:Nat)(l0:List ByteArray):Option (Bool):=jr.l0 k l0 0
theorem jr.calls{k c0:Nat}{A0:Option Addr}{l0:List ByteArray}{r:Bool}{w:World}(hr0:Kd.C Kd.string w A0 l0.length l0)(hc0:l0.length≤c0)(h:jr.f k l0=some r):
  Calls Tryz.prog 114 #[.slice A0 l0.length c0] w fun e w'=>e= .returned (.bool r)∧dR w w':=by
 have HR0:=ak hr0;have vw:=ak hc0;clear hr0 hc0;unfold jr.f at h;have H:=h;clear h;have H':=ak H;clear H;go_enter func114,ntmps114;go_wp2;go_loopg [3] k (fun kq v3 w'=>∃(eG:Int),v3= .int .i64 eG∧ah (jr.l0 kq l0 eG=some r)∧ah (kq≤k)∧dR w w')
 case atStart=>exact⟨_,rs,H',⟨Nat.le_refl _⟩,dn⟩
 case round=>
  clear H';obtain⟨eG,rfl,HA,yN,⟨m1,rfl⟩⟩:=hrel
  cases gk with
  |zero=>exact zz HA.out
  |succ k1=>
   obtain⟨H⟩:=HA;simp only[jr.l0]at H;have HC2:=ak H;clear H;go_upto_region 2 with(fail)
   go_cut [11] (fun v11 wc=>∃(kq:Nat) (yu:Bool),v11= .bool yu∧ah (jr.j1 kq l0 eG yu=some r)∧ah (kq≤k1)∧dR w wc)
   case first=>
    have H:=HC2.out;clear HC2;replace H:=sd H;rcases H with⟨jd,H⟩|⟨jd,H⟩
    ·(first|rw[jd]|(simp only[gU,jP];rw[jd])|skip);have H':=ak H;clear H;go_wp2;go_meet
     case rel=>exact⟨_,_,rs,H',⟨kl⟩,dn⟩
    ·(first|rw[jd]|(simp only[gU,jP];rw[jd])|skip);have H':=ak H;clear H;go_wp2;go_meet
     case rel=>exact⟨_,_,rs,H',⟨kl⟩,dn⟩
   case rest=>
    clear HC2;obtain⟨kq,yu,rfl,HA,HJ1,⟨mc1,rfl⟩⟩:=hcut
    cases kq with
    |zero=>exact zz HA.out
    |succ TM=>
     obtain⟨H⟩:=HA;simp only[jr.j1]at H;replace H:=sb H;rcases H with⟨rfl,H⟩|⟨rfl,H⟩
     ·replace H:=nY H;obtain⟨nO,H⟩:=H;replace H:=nY H;obtain⟨nP,H⟩:=H;replace H:=bd H;obtain⟨an2,A7,H⟩:=H;replace H:=sb H;rcases H with⟨rfl,H⟩|⟨rfl,H⟩
      ·have H':=ak H;clear H;have ad1:=zi eG;have ad2:=zj eG l0.length;obtain⟨aDF,e305,an3⟩:=bV HR0.out eG ad1 ad2;cases e305;replace ad1:=eq_true ad1;replace ad2:=eq_true ad2;go_wp2_with (refine gA func159 (aU.calls A7.out) ?_;intro nd)
       go_roundg TM
       case measure=>exact kl
       case rel=>exact⟨_,rs,H',⟨kl⟩,dn⟩
      ·obtain rfl:=s1 H;have ad1:=zi eG;have ad2:=zj eG l0.length;obtain⟨aDF,e305,an3⟩:=bV HR0.out eG ad1 ad2;cases e305;replace ad1:=eq_true ad1;replace ad2:=eq_true ad2;go_wp2_with (refine gA func159 (aU.calls A7.out) ?_;intro nd)
       go_ret;exact⟨rs,dn⟩
     ·obtain rfl:=s1 H;go_wp2;go_ret;exact⟨rs,dn⟩
mutual
def bK.j0:Nat→Int→Bool→List (fD)→List ByteArray→List (m_)→Option (Bool)
 |0,_,_,_,_,_=>none
 |k+1,x1,x17,Bf,zD,sS=>if x17=true then(some false)else((kE.f k Bf).bind fun af_=>(if af_.2=true then(if(zD.length:Int)>0 then(bK.j1 k x1 af_.1 true Bf zD sS)else(if(sS.length:Int)<1 then(bK.j1 k x1 af_.1 true Bf zD sS)else(bK.j1 k x1 af_.1 (decide ((sS.length:Int)>4)) Bf zD sS)))else(if(sS.length:Int)=0 then((jr.f k zD).bind fun an4=>(some an4))else(some false))))
def bK.j1:Nat→Int→ByteArray→Bool→List (fD)→List ByteArray→List (m_)→Option (Bool)
 |0,_,_,_,_,_,_=>none
 |k+1,x1,x5,x50,Bf,zD,sS=>if x50=true then(some false)else(bK.l0 k x1 x5 0 Bf zD sS)
def bK.l0:Nat→Int→ByteArray→Int→List (fD)→List ByteArray→List (m_)→Option (Bool)
 |0,_,_,_,_,_,_=>none
 |k+1,x1,x5,x7,Bf,zD,sS=>if x7<(sS.length:Int)then(if 0≤x7 then((bK.f k ((aY sS x7).f0) ((aY sS x7).f1) ((aY sS x7).f2) (wrap64 (x1-1))).bind fun aDG=>(if aDG=true then((jO.f k ((aY sS x7).f0) ((aY sS x7).f1) ((aY sS x7).f2)).bind fun ad3=>(bK.l1 k x1 x5 x7 ad3 0 Bf zD sS))else(some false)))else(none))else(some true)
def bK.l1:Nat→Int→ByteArray→Int→List ByteArray→Int→List (fD)→List ByteArray→List (m_)→Option (Bool)
 |0,_,_,_,_,_,_,_,_=>none
 |k+1,x1,x5,x7,x8,x9,Bf,zD,sS=>if x9<(x8.length:Int)then(if 0≤x9 then((qO.f (iD ByteArray.empty x8 x9) x5).bind fun aDH=>(if aDH=true then(some false)else(bK.l1 k x1 x5 x7 x8 (wrap64 (x9+1)) Bf zD sS)))else(none))else(bK.l0 k x1 x5 (wrap64 (x7+1)) Bf zD sS)
def bK.f:Nat→List (fD)→List ByteArray→List (m_)→Int→Option (Bool)
 |0,_,_,_,_=>none
 |k+1,fH,eX,aQ,a1=>(iJ.f k fH).bind fun aDI=>(if aDI=true then(bK.j0 k a1 (decide (a1<1)) fH eX aQ)else(bK.j0 k a1 true fH eX aQ))
end
theorem bK.calls(k:Nat):∀(mX:Option Addr) (mY:Nat) (fH:List (fD)) (mM:Option Addr) (mO:Nat) (eX:List ByteArray) (jI:Option Addr) (iP:Nat) (aQ:List (m_)) (a1:Int) (r:Bool) (w:World) (rC:Kd.C rP w mX fH.length fH) (rD:fH.length≤mY) (rE:Kd.C Kd.string w mM eX.length eX) (rG:eX.length≤mO) (nH:Kd.C k28 w jI aQ.length aQ) (nI:aQ.length≤iP) (h:bK.f k fH eX aQ a1=some r),
  Calls Tryz.prog 72 #[.agg #[.slice mX fH.length mY, .slice mM eX.length mO, .slice jI aQ.length iP], .int .i64 a1] w fun e w'=>e= .returned (.bool r)∧Below w.heap.size w w':=by
 induction k using Nat.strongRecOn with
 |_ k ih=>
 intro mX mY fH mM mO eX jI iP aQ a1 r w rC rD rE rG nH nI h
 cases k with
 |zero=>exact absurd h (by simp[bK.f])
 |succ k=>
 simp only[bK.f]at h;have GN:=underlying28;have uw:=ak rC;have uK:=ak rD;clear rC rD;have xY:=ak rE;have zY:=ak rG;clear rE rG;have lT:=ak nH;have qh:=ak nI;clear nH nI;have HB:=ak (Below.refl w.heap.size w);have H:=h;clear h;have QX:=ak H;clear H;go_enter func72,ntmps72;go_upto_region 1 with(refine gG 2 ?_;refine bX HB 2 #[.slice mX fH.length mY, .slice mM eX.length mO, .slice jI aQ.length iP] 28 ?_;intro aga w4 pU aMW hb;replace HB:=bs HB hb;clear hb)
 (try simp only[Act.put,C_,Dc,l_c]);go_cut [17] (fun v17 wc=>∃(kq:Nat) (WE:Bool),v17= .bool WE∧ah (bK.j0 kq a1 WE fH eX aQ=some r)∧ah (kq≤k)∧ah (wc.heap[aga]? =some (.cells #[(.slice mX fH.length mY),(.slice mM eX.length mO),(.slice jI aQ.length iP)] 28 (0,0)))∧ah (Below w.heap.size w wc))
 case first=>
  have H:=QX.out;clear QX;replace H:=bd H;obtain⟨aDI,A5,H⟩:=H;replace H:=sb H;rcases H with⟨rfl,H⟩|⟨rfl,H⟩
  ·have H':=ak H;clear H;have z7:=jY pU.out;go_wp2_with (refine gB func113 (iJ.calls (cu (aK uw.out HB.out)) uK.out A5.out) ?_;intro w8 hb;replace pU:=kb pU hb;replace HB:=bz HB hb;clear hb)
   go_meet
   case rel=>exact⟨_,_,rs,H',⟨JB⟩,⟨ub pU.out⟩,⟨bb⟩⟩
  ·have H':=ak H;clear H;have z9:=jY pU.out;go_wp2_with (refine gB func113 (iJ.calls (cu (aK uw.out HB.out)) uK.out A5.out) ?_;intro w10 hb;replace pU:=kb pU hb;replace HB:=bz HB hb;clear hb)
   go_meet
   case rel=>exact⟨_,_,rs,H',⟨JB⟩,⟨ub pU.out⟩,⟨bb⟩⟩
 case rest=>
  clear QX;obtain⟨kq,WE,rfl,HA,HJ2,pU,HB⟩:=hcut
  cases kq with
  |zero=>exact zz HA.out
  |succ kj2=>
   obtain⟨H⟩:=HA;simp only[bK.j0]at H;replace H:=sb H;rcases H with⟨rfl,H⟩|⟨rfl,H⟩
   ·obtain rfl:=s1 H;go_wp2;go_ret;exact⟨er,bb⟩
   ·replace H:=bd H;obtain⟨⟨avQ,aDJ⟩,A12,H⟩:=H
    (try dsimp only at H);replace H:=sb H;rcases H with⟨rfl,H⟩|⟨rfl,H⟩
    ·have avR:=ak H;clear H;have z15:=jY pU.out;go_upto_region 6 with(refine gB func108 (kE.calls (cu (aK uw.out HB.out)) uK.out A12.out) ?_;intro w16 hb;replace pU:=kb pU hb;replace HB:=bz HB hb;clear hb)
     (try simp only[Act.put,C_,Dc,l_c]);go_cut [50] (fun v50 wc=>∃(kq:Nat) (ad4:Bool),v50= .bool ad4∧ah (bK.j1 kq a1 avQ ad4 fH eX aQ=some r)∧ah (kq≤kj2)∧ah (wc.heap[aga]? =some (.cells #[(.slice mX fH.length mY),(.slice mM eX.length mO),(.slice jI aQ.length iP)] 28 (0,0)))∧ah (Below w.heap.size w wc))
     case first=>
      have H:=avR.out;clear avR;replace H:=sp H;rcases H with⟨c17,H⟩|⟨c17,H⟩
      ·have vY:decide (0<(eX.length:Int))=true:=decide_eq_true c17;have LW:decide (0<eX.length)=true:=decide_eq_true (by omega);clear c17
       (first|rw[vY]|(simp only[gU,jP];rw[vY])|skip);have H':=ak H;clear H;have z18:=jY pU.out;go_wp2;go_meet
       case rel=>exact⟨_,_,rs,H',⟨kl⟩,⟨ub pU.out⟩,⟨bb⟩⟩
      ·have vY:decide (0<(eX.length:Int))=false:=decide_eq_false c17;have LW:decide (0<eX.length)=false:=decide_eq_false (by omega);clear c17
       (first|rw[vY]|(simp only[gU,jP];rw[vY])|skip);replace H:=sp H;rcases H with⟨c19,H⟩|⟨c19,H⟩
       ·have Du:=decide_eq_true c19;have G8:decide (aQ.length<1)=true:=decide_eq_true (by omega);clear c19;have H':=ak H;clear H;have z20:=jY pU.out;go_wp2;go_meet
        case rel=>exact⟨_,_,rs,H',⟨kl⟩,⟨ub pU.out⟩,⟨bb⟩⟩
       ·have Du:=decide_eq_false c19;have G8:decide (aQ.length<1)=false:=decide_eq_false (by omega);clear c19;have H':=ak H;clear H;have z21:=jY pU.out;go_wp2;go_meet
        case rel=>exact⟨_,_,rs,H',⟨kl⟩,⟨ub pU.out⟩,⟨bb⟩⟩
     case rest=>
      clear avR;obtain⟨kq,ad4,rfl,HA,ahh,pU,HB⟩:=hcut
      cases kq with
      |zero=>exact zz HA.out
      |succ aDK=>
       obtain⟨H⟩:=HA;simp only[bK.j1]at H;replace H:=sb H;rcases H with⟨rfl,H⟩|⟨rfl,H⟩
       ·obtain rfl:=s1 H;go_wp2;go_ret;exact⟨er,bb⟩
       ·have H':=ak H;clear H;go_wp2;go_loopg [7] aDK (fun kq v7 w'=>∃(tC:Int),v7= .int .i64 tC∧ah (bK.l0 kq a1 avQ tC fH eX aQ=some r)∧ah (kq≤aDK)∧ah (w'.heap[aga]? =some (.cells #[(.slice mX fH.length mY),(.slice mM eX.length mO),(.slice jI aQ.length iP)] 28 (0,0)))∧ah (Below w.heap.size w w'))
        case atStart=>exact⟨_,rs,H',⟨Nat.le_refl _⟩,⟨ub pU.out⟩,⟨bb⟩⟩
        case round=>
         clear H';obtain⟨tC,rfl,HA,HK3,pU,HB⟩:=hrel
         cases gk with
         |zero=>exact zz HA.out
         |succ k3=>
          obtain⟨H⟩:=HA;simp only[bK.l0]at H;replace H:=sd H;rcases H with⟨EF,H⟩|⟨EF,H⟩
          ·replace H:=nY H;obtain⟨Ei,H⟩:=H;replace H:=bd H;obtain⟨aDG,A25,H⟩:=H;replace H:=sb H;rcases H with⟨rfl,H⟩|⟨rfl,H⟩
           ·replace H:=bd H;obtain⟨ad3,A27,H⟩:=H;have H':=ak H;clear H;have am5:=jY pU.out;have abX:=zi tC;have abY:=zj tC aQ.length;obtain⟨aly,avS,avT,avU,avV,avW,avX,e312,KT,KU,KW,PX,PY,PZ,P5,P6,P7⟩:=Ed lT.out tC abX abY;cases e312;replace KT:=cl HB.out KT;replace KU:=cl HB.out KU;replace KW:=cl HB.out KW;have aac:=ak PY;have aad:=ak PX;clear PY PX;have aae:=ak P5;have aaf:=ak PZ;clear P5 PZ;have aag:=ak P7;have aah:=ak P6;clear P7 P6;replace abX:=eq_true abX;replace abY:=eq_true abY;go_wp2_with (first|(refine gB func72 (ih k3 (by have:=HJ2.out;have:=ahh.out;have:=HK3.out;omega) _ _ ((aY aQ tC).f0) _ _ ((aY aQ tC).f1) _ _ ((aY aQ tC).f2) (wrap64 (a1-1)) true _ (cu (aK aac.out HB.out)) aad.out (cu (aK aae.out HB.out)) aaf.out (cu (aK aag.out HB.out)) aah.out A25.out) ?_;intro w29 hb;replace pU:=kb pU hb;replace HB:=bz HB hb;clear hb;have z30:=jY pU.out;have an5:0≤(tC:Int):=of_decide_eq_true (by assumption);have an6:tC<(aQ.length:Int):=of_decide_eq_true (by assumption);obtain⟨aDL,aIQ,aIR,aIS,aIT,aIU,aIV,e314,UH,UJ,UK,agb,agc,agd,agf,agh,agi⟩:=Ed lT.out tC an5 an6;obtain rfl:aly=aDL:=(by injection e314);replace UH:=(HB.out.cell (World.block_lt_of_cell? w _ UH)).trans UH;replace UJ:=(HB.out.cell (World.block_lt_of_cell? w _ UJ)).trans UJ;replace UK:=(HB.out.cell (World.block_lt_of_cell? w _ UK)).trans UK;have an7:=ak agc;have an8:=ak agb;clear agc agb;have an9:=ak agf;have an_:=ak agd;clear agf agd;have aoa:=ak agi;have aob:=ak agh;clear agi agh;replace an5:=eq_true an5;replace an6:=eq_true an6)|(refine gV func67 (jO.calls k3 _ _ ((aY aQ tC).f0) _ _ ((aY aQ tC).f1) _ _ ((aY aQ tC).f2) ad3 _ (cu (aK an7.out HB.out)) an8.out (cu (aK an9.out HB.out)) an_.out (cu (aK aoa.out HB.out)) aob.out A27.out) ?_;rintro aIW w31 ⟨ho0,hb⟩;have aDM:=ak (aC ho0 (au bb));replace pU:=kb pU hb;replace HB:=bz HB hb;clear hb;(try clear ho0)))
            go_loopg [9] k3 (fun kq v9 w'=>∃(aai:Int),v9= .int .i64 aai∧ah (bK.l1 kq a1 avQ tC ad3 aai fH eX aQ=some r)∧ah (kq≤k3)∧ah (Kd.R Kd.string 9 w' w.heap.size (fun _=>True) aIW ad3)∧ah (w'.heap[aga]? =some (.cells #[(.slice mX fH.length mY),(.slice mM eX.length mO),(.slice (some aly) aQ.length iP)] 28 (0,0)))∧ah (Below w.heap.size w w'))
            case atStart=>exact⟨_,rs,H',⟨Nat.le_refl _⟩,⟨ur aDM.out⟩,⟨ub pU.out⟩,⟨bb⟩⟩
            case round=>
             clear H';try clear EF
             try clear Ei
             try clear KT
             try clear KU
             try clear KW
             try clear UH
             try clear UJ
             try clear UK
             try clear abX
             try clear an5
             try clear abY
             try clear an6
             obtain⟨aai,rfl,HA,HK4,Gt,pU,HB⟩:=hrel
             cases gk with
             |zero=>exact zz HA.out
             |succ k4=>
              obtain⟨H⟩:=HA;simp only[bK.l1]at H;replace H:=sd H;rcases H with⟨Yi,H⟩|⟨Yi,H⟩
              ·replace H:=nY H;obtain⟨Yh,H⟩:=H;replace H:=bd H;obtain⟨aDH,A34,H⟩:=H;replace H:=sb H;rcases H with⟨rfl,H⟩|⟨rfl,H⟩
               ·obtain rfl:=s1 H;obtain⟨ayH,ayI,atJ⟩:=aI Gt.out;subst atJ;have ad5:=zi aai;have ad6:=zj aai ad3.length;obtain⟨aDN,e318,aoc⟩:=bV (aj Gt.out).2.2 aai ad5 ad6;cases e318;replace ad5:=eq_true ad5;replace ad6:=eq_true ad6;go_wp2_with (refine gA func115 (qO.calls A34.out) ?_;intro nd)
                go_ret;exact⟨er,bb⟩
               ·have H':=ak H;clear H;obtain⟨akk,akl,abx⟩:=aI Gt.out;subst abx;have ad5:=zi aai;have ad6:=zj aai ad3.length;obtain⟨aDN,e318,aoc⟩:=bV (aj Gt.out).2.2 aai ad5 ad6;cases e318;replace ad5:=eq_true ad5;replace ad6:=eq_true ad6;go_wp2_with (refine gA func115 (qO.calls A34.out) ?_;intro nd)
                go_roundg k4
                case measure=>have:=HJ2.out;have:=ahh.out;have:=HK3.out;have:=HK4.out;omega
                case rel=>exact⟨_,rs,H',⟨by have:=HJ2.out;have:=ahh.out;have:=HK3.out;have:=HK4.out;omega⟩,⟨ur Gt.out⟩,⟨ub pU.out⟩,⟨bb⟩⟩
              ·have H':=ak H;clear H;obtain⟨aTg,aTh,aIX⟩:=aI Gt.out;subst aIX;go_wp2;go_roundg k4
               case measure=>have:=HJ2.out;have:=ahh.out;have:=HK3.out;have:=HK4.out;omega
               case rel=>exact⟨_,rs,H',⟨by have:=HJ2.out;have:=ahh.out;have:=HK3.out;have:=HK4.out;omega⟩,⟨ub pU.out⟩,⟨bb⟩⟩
           ·obtain rfl:=s1 H;have z39:=jY pU.out;have abX:=zi tC;have abY:=zj tC aQ.length;obtain⟨aly,avS,avT,avU,avV,avW,avX,e312,KT,KU,KW,PX,PY,PZ,P5,P6,P7⟩:=Ed lT.out tC abX abY;cases e312;replace KT:=cl HB.out KT;replace KU:=cl HB.out KU;replace KW:=cl HB.out KW;have aac:=ak PY;have aad:=ak PX;clear PY PX;have aae:=ak P5;have aaf:=ak PZ;clear P5 PZ;have aag:=ak P7;have aah:=ak P6;clear P7 P6;replace abX:=eq_true abX;replace abY:=eq_true abY;go_wp2_with (refine gB func72 (ih k3 (by have:=HJ2.out;have:=ahh.out;have:=HK3.out;omega) _ _ ((aY aQ tC).f0) _ _ ((aY aQ tC).f1) _ _ ((aY aQ tC).f2) (wrap64 (a1-1)) false _ (cu (aK aac.out HB.out)) aad.out (cu (aK aae.out HB.out)) aaf.out (cu (aK aag.out HB.out)) aah.out A25.out) ?_;intro w40 hb;replace pU:=kb pU hb;replace HB:=bz HB hb;clear hb)
            go_ret;exact⟨er,bb⟩
          ·obtain rfl:=s1 H;have at7:=jY pU.out;go_wp2;go_ret;exact⟨er,bb⟩
    ·replace H:=sp H;rcases H with⟨c42,H⟩|⟨c42,H⟩
     ·have aDO:=beq_iff_eq.mpr c42;have aDP:=bne_eq_false_iff_eq.mpr c42;clear c42;replace H:=bd H;obtain⟨an4,A43,H⟩:=H;obtain rfl:=s1 H;have aIB:=jY pU.out;go_wp2_with (first|(refine gB func108 (kE.calls (cu (aK uw.out HB.out)) uK.out A12.out) ?_;intro w45 hb;replace pU:=kb pU hb;replace HB:=bz HB hb;clear hb;have z46:=jY pU.out)|(go_at_call 114;refine mA (jr.calls (cu (aK xY.out HB.out)) zY.out A43.out) ?_;intro nd))
      go_ret;exact⟨er,bb⟩
     ·have aDO:=beq_eq_false_iff_ne.mpr c42;have aDP:=bne_iff_ne.mpr c42;have aMX:¬(aQ=[]):=fun h_=>c42 (by rw[h_];rfl)
      obtain rfl:=s1 H;have z47:=jY pU.out;go_wp2_with (refine gB func108 (kE.calls (cu (aK uw.out HB.out)) uK.out A12.out) ?_;intro Xx hb;replace pU:=kb pU hb;replace HB:=bz HB hb;clear hb;have z49:=jY pU.out)
      go_ret;exact⟨er,bb⟩
def oC.f(k:Nat)(fH:List (fD))(eX:List ByteArray)(aQ:List (m_)):Option (Bool):=(bK.f k fH eX aQ 3).bind fun alz=>(some alz)
theorem oC.calls{k mY mO iP:Nat}{mX mM jI:Option Addr}{fH:List (fD)}{eX:List ByteArray}{aQ:List (m_)}{r:Bool}{w:World}(rC:Kd.C rP w mX fH.length fH)(rD:fH.length≤mY)(rE:Kd.C Kd.string w mM eX.length eX)(rG:eX.length≤mO)(nH:Kd.C k28 w jI aQ.length aQ)(nI:aQ.length≤iP)(h:oC.f k fH eX aQ=some r):
  Calls Tryz.prog 30 #[.agg #[.slice mX fH.length mY, .slice mM eX.length mO, .slice jI aQ.length iP]] w fun e w'=>e= .returned (.bool r)∧Below w.heap.size w w':=by
 have GN:=underlying28;have uw:=ak rC;have uK:=ak rD;clear rC rD;have xY:=ak rE;have zY:=ak rG;clear rE rG;have lT:=ak nH;have qh:=ak nI;clear nH nI;have HB:=ak (Below.refl w.heap.size w);unfold oC.f at h;have H:=h;clear h;replace H:=bd H;obtain⟨alz,A2,H⟩:=H;obtain rfl:=s1 H;go_enter func30,ntmps30;go_wp2_with (first|(refine bX HB 1 #[.slice mX fH.length mY, .slice mM eX.length mO, .slice jI aQ.length iP] 28 ?_;intro aMY w3 alA aMZ hb;replace HB:=bs HB hb;clear hb;have z4:=jY alA.out)|(refine gB func72 (bK.calls k _ _ fH _ _ eX _ _ aQ 3 alz _ (cu (aK uw.out HB.out)) uK.out (cu (aK xY.out HB.out)) zY.out (cu (aK lT.out HB.out)) qh.out A2.out) ?_;intro w5 hb;replace alA:=kb alA hb;replace HB:=bz HB hb;clear hb))
 go_ret;exact⟨er,bb⟩
def tq.f(k:Nat)(fH:List (fD))(eX:List ByteArray)(aQ:List (m_)):Option (List ByteArray×Bool):=(oC.f k fH eX aQ).bind fun aDQ=>(if aDQ=true then((jO.f k fH eX aQ).bind fun avY=>(some (avY,true)))else(some ((([]:List ByteArray)),false)))
theorem tq.calls{k mY mO iP:Nat}{mX mM jI:Option Addr}{fH:List (fD)}{eX r1:List ByteArray}{aQ:List (m_)}{r2:Bool}{w:World}(rC:Kd.C rP w mX fH.length fH)(rD:fH.length≤mY)(rE:Kd.C Kd.string w mM eX.length eX)(rG:eX.length≤mO)(nH:Kd.C k28 w jI aQ.length aQ)(nI:aQ.length≤iP)(h:tq.f k fH eX aQ=some (r1,r2)):
  Calls Tryz.prog 25 #[.agg #[.slice mX fH.length mY, .slice mM eX.length mO, .slice jI aQ.length iP]] w fun e w'=>∃pW:Value,e= .returned (.tuple #[pW, .bool r2])∧Kd.R Kd.string 9 w' w.heap.size (fun _=>True) pW r1∧Below w.heap.size w w':=by
 have GN:=underlying28;have uw:=ak rC;have uK:=ak rD;clear rC rD;have xY:=ak rE;have zY:=ak rG;clear rE rG;have lT:=ak nH;have qh:=ak nI;clear nH nI;have HB:=ak (Below.refl w.heap.size w);unfold tq.f at h;have H:=h;clear h;replace H:=bd H;obtain⟨aDQ,A2,H⟩:=H;replace H:=sb H;rcases H with⟨rfl,H⟩|⟨rfl,H⟩
 ·replace H:=bd H;obtain⟨avY,A4,H⟩:=H;obtain⟨rfl,rfl⟩:=s2 H;go_enter func25,ntmps25;go_wp2_with (first|(refine bX HB 1 #[.slice mX fH.length mY, .slice mM eX.length mO, .slice jI aQ.length iP] 28 ?_;intro aDR w5 Jg aDS hb;replace HB:=bs HB hb;clear hb;have z6:=jY Jg.out)|(refine gB func30 (oC.calls (cu (aK uw.out HB.out)) uK.out (cu (aK xY.out HB.out)) zY.out (cu (aK lT.out HB.out)) qh.out A2.out) ?_;intro w7 hb;replace Jg:=kb Jg hb;replace HB:=bz HB hb;clear hb;have z8:=jY Jg.out)|(refine gV func67 (jO.calls k _ _ fH _ _ eX _ _ aQ avY _ (cu (aK uw.out HB.out)) uK.out (cu (aK xY.out HB.out)) zY.out (cu (aK lT.out HB.out)) qh.out A4.out) ?_;rintro aTi w9 ⟨ho0,hb⟩;have aDT:=ak (aC ho0 (au bb));replace Jg:=kb Jg hb;replace HB:=bz HB hb;clear hb;(try clear ho0)))
  go_ret2;exact⟨_,er,ur aDT.out,bb⟩
 ·obtain⟨aTj,asa⟩:=nm ([]:List ByteArray);rw[←asa.out]at H;obtain⟨rfl,rfl⟩:=s2 H;go_enter func25,ntmps25;go_wp2_with (first|(refine bX HB 1 #[.slice mX fH.length mY, .slice mM eX.length mO, .slice jI aQ.length iP] 28 ?_;intro aDR w10 Jg aDS hb;replace HB:=bs HB hb;clear hb;have z11:=jY Jg.out)|(refine gB func30 (oC.calls (cu (aK uw.out HB.out)) uK.out (cu (aK xY.out HB.out)) zY.out (cu (aK lT.out HB.out)) qh.out A2.out) ?_;intro w12 hb;replace Jg:=kb Jg hb;replace HB:=bz HB hb;clear hb)|(refine DR 7 Kd.string 9 asa ?_;intro aTk w13 TP hb;have aDU:=ak (aC TP (au bb));replace Jg:=kb Jg hb;replace HB:=bz HB hb;clear hb TP))
  go_ret2;exact⟨_,er,ur aDU.out,bb⟩
def bH(w0 W:World)(g:Nat)(f0:List Int)(f1:Int):Prop:=∃A0 c0,W.heap[g]? =some (.cells #[.slice A0 f0.length c0, .int .i64 f1] 109 (0,0))∧w0.heap.size≤g∧Kd.C (Kd.int .u8) w0 A0 f0.length f0
theorem bH.grown{w0 W:World}{g:Nat}{f0:List Int}{f1:Int}{W1:World}{row:Option Nat}(h:bH w0 W g f0 f1)(hw:W.grownBy W1 row)(hne:some g≠row):bH w0 W1 g f0 f1:=by
 obtain⟨A0,c0,hb,hg,hr0⟩:=h;exact⟨A0,c0,fB hb hw hne,hg,hr0⟩
theorem bH.fresh{w0 W:World}{g:Nat}{f0:List Int}{f1:Int}(h:bH w0 W g f0 f1):∀k,W.heap.size≤k→k≠g:=by
 obtain⟨A0,c0,hb,hg,hr0⟩:=h;exact y7 hb
theorem bH.kept{w0 W:World}{g:Nat}{f0:List Int}{f1:Int}{W1:World}{S:Nat→Prop}(h:bH w0 W g f0 f1)(hk:Kept W W1 S)(hne:¬S g):bH w0 W1 g f0 f1:=by
 obtain⟨A0,c0,hb,hg,hr0⟩:=h;exact⟨A0,c0,alB hb hk hne,hg,hr0⟩
theorem bH.below{w0 W:World}{g:Nat}{f0:List Int}{f1:Int}{W1:World}(h:bH w0 W g f0 f1)(hw:Below W.heap.size W W1):bH w0 W1 g f0 f1:=h.grown (J4 hw none) (by simp)
theorem bH.alloc{w0 W:World}{g:Nat}{f0:List Int}{f1:Int}(h:bH w0 W g f0 f1)(o:Obj):bH w0 (W.alloc o) g f0 f1:=h.below (qY (Below.refl _ _) o)
theorem bH.drewN{w0 W:World}{g:Nat}{f0:List Int}{f1:Int}(h:bH w0 W g f0 f1)(m:Nat):bH w0 (W.drewN m) g f0 f1:=h
theorem bH.drew{w0 W:World}{g:Nat}{f0:List Int}{f1:Int}(h:bH w0 W g f0 f1):bH w0 W.drew g f0 f1:=h
theorem bH.at_{w0 W:World}{g:Nat}{f0:List Int}{f1:Int}{w':World}{m:Nat}(hq:W.drewN m=w')(h:bH w0 W g f0 f1):bH w0 w' g f0 f1:=by subst hq;exact bH.drewN h m
theorem bH.apart{w0 W:World}{g:Nat}{f0:List Int}{f1:Int}{α:Type}{d:Kd α}{e:Nat}{base:Nat}{ok:Nat→Prop}{v:Value}{xs:List α}(h:bH w0 W g f0 f1)(ho:d.R e W base ok v xs)(ht:∀q,q∈e:: d.E→q≠109):d.R e W base (fun k=>ok k∧k≠g) v xs:=by
 obtain⟨A0,c0,hb,hg,hr0⟩:=h;exact l7 ho hb ht
theorem bH.own_ne{w0 W:World}{g:Nat}{f0:List Int}{f1:Int}{α:Type}{d:Kd α}{e:Nat}{base:Nat}{ok:Nat→Prop}{v:Value}{xs:List α}(h:bH w0 W g f0 f1)(ho:d.R e W base ok v xs)(ht:e≠109):some g≠v.ownBlock:=by
 obtain⟨A0,c0,hb,hg,hr0⟩:=h;exact vS ho hb ht
theorem bH.lt{w0 W:World}{g:Nat}{f0:List Int}{f1:Int}(h:bH w0 W g f0 f1):g<W.heap.size:=by
 obtain⟨A0,c0,hb,hg,hr0⟩:=h;exact xX hb
theorem bH.ge{w0 W:World}{g:Nat}{f0:List Int}{f1:Int}(h:bH w0 W g f0 f1):w0.heap.size≤g:=by
 obtain⟨A0,c0,hb,hg,hr0⟩:=h;exact hg
theorem bH.aIY{w0 W:World}{g:Nat}{f0:List Int}{f1:Int}{a:Nat}{cs:Array Value}{t:TypeId}{fr:Nat×Nat}(h:bH w0 W g f0 f1)(hb2:W.heap[a]? =some (.cells cs t fr))(ht:t≠109):g≠a:=by
 obtain⟨A0,c0,hb,hg,hr0⟩:=h;rintro rfl;rw[hb]at hb2;injection hb2 with hb2;injection hb2 with _ ht2;exact ht ht2.symm
theorem bH.far{w0 W:World}{g:Nat}{f0:List Int}{f1:Int}{p:Addr}(h:bH w0 W g f0 f1)(hne:g≠p.block)(u:Value):bH w0 (W.setCell p u) g f0 f1:=by
 obtain⟨A0,c0,hb,hg,hr0⟩:=h;exact⟨A0,c0,UL hb hne u,hg,hr0⟩
theorem Ii{W:World}{g:Nat}{A0:Option Addr}{c0:Nat}{f0:List Int}{f1:Int}(h:W.heap[g]? =some (.cells #[.slice A0 f0.length c0, .int .i64 f1] 109 (0,0))):W.cell? ⟨g,0,none⟩=some (.slice A0 f0.length c0):=(bf h 0).trans rfl
theorem Ij{W:World}{g:Nat}{A0:Option Addr}{c0:Nat}{f0:List Int}{f1:Int}(h:W.heap[g]? =some (.cells #[.slice A0 f0.length c0, .int .i64 f1] 109 (0,0))):W.cell? ⟨g,1,none⟩=some (.int .i64 f1):=(bf h 1).trans rfl
theorem bH.aDV{w0 W:World}{g:Nat}{f0:List Int}{f1:Int}(h:bH w0 W g f0 f1)(x:Int):bH w0 (W.setCell ⟨g,1,none⟩ (.int .i64 x)) g f0 x:=by
 obtain⟨A0,c0,hb,hg,hr0⟩:=h;exact⟨A0,c0,by simpa using UM hb 1 (.int .i64 x),hg,hr0⟩
theorem bH.new(w0 W:World)(A0:Option Addr)(c0:Nat)(f0:List Int)(f1:Int)(hB:Below w0.heap.size w0 W)(hr0:Kd.C (Kd.int .u8) w0 A0 f0.length f0):bH w0 (W.alloc (.cells #[.slice A0 f0.length c0, .int .i64 f1] 109)) W.heap.size f0 f1:=⟨A0,c0,by simpa using heap_alloc_new W _,hB.size,hr0⟩
theorem xC{p:Prop}(h:p:=by repeat(first|(with_reducible first|exact ah.out (by assumption)|apply bH.alloc|apply bH.drewN|apply bH.drew|apply bH.aDV|refine bH.far ?_ (ah.out (by assumption)) _)|exact ah.out (by assumption))):p:=h
theorem wz{p:Prop}(h:p:=by repeat(first|(with_reducible first|exact ah.out (by assumption)|apply qY|apply uU|apply jG|refine yT ?_ (bH.ge (ah.out (by assumption)))|refine yT ?_ (ah.out (by assumption)))|exact ah.out (by assumption))):p:=h
theorem bS{P:Program}{ops:Array Oper}{o:Oper}{rest:List Oper}{a:Act}{Q:Exit→Act→World→Prop}{w0 w W c1 c2 c3:World}{g:Nat}{f0:List Int}{f1 f2:Int}(_HI:ah (bH w0 c1 g f0 f1))(_HK:ah (bC w c2 g none))(_HB:ah (Below w0.heap.size w0 c3))(HW:ah (w0.heap.size≤w.heap.size))(N:Nat)(cs:Array Value)(t:TypeId)
  (h:∀b w1,ah (w1.heap[b]? =some (.cells cs t (0,0)))→ah (w.heap.size≤b)→ah (w0.heap.size≤b)→ah (g≠b)→ah (b≠g)→b=W.heap.size→Below W.heap.size W w1→ah (bH w0 w1 g f0 f2)→ah (bC w w1 g none)→ah (Below w0.heap.size w0 w1)→wpList P ops Q rest (a.put o.dst (.pointer (some ⟨b,0,none⟩))) w1)
  (hd:o.dst=some N:=by with_reducible rfl) (hg:o.guard=none:=by with_reducible rfl) (hr:(execOp a.eval o).run P W= .ok (.value (.pointer (some ⟨W.heap.size,0,none⟩))) (W.alloc (.cells cs t (0,0))):=by first|(go_simp;done)|(go_simp;rfl)) (hI:bH w0 W g f0 f2:=by exact xC) (hK:bC w W g none:=by exact kk) (hB:Below w0.heap.size w0 W:=by exact wz):wpList P ops Q (o:: rest) a W:=
 bE N cs t (fun b hb w1 h1 hw=>h b w1 ⟨h1⟩ ⟨by rw[hb];exact kU hK⟩ ⟨Nat.le_trans HW.out (by rw[hb];exact kU hK)⟩ ⟨by rw[hb];exact Nat.ne_of_lt hI.lt⟩ ⟨by rw[hb];exact Nat.ne_of_gt hI.lt⟩ hb hw ⟨hI.below hw⟩ ⟨hK.trans (bC.of_below hw g none) (.inl rfl)⟩ ⟨lU hB hw⟩) hd hg hr
theorem ki{α:Type}{d:Kd α}{e base:Nat}{ok:Nat→Prop}{v:Value}{xs:List α}{w0 a b c:World}{g:Nat}{f0:List Int}{f1:Int}(_old:ah (Kd.R d e a base ok v xs))(hk:bC b c g none)(hI:bH w0 b g f0 f1:=by exact xC)(h:Kd.R d e b base ok v xs:=by exact rr)(ht:∀q,q∈e:: d.E→q≠109:=by decide):ah (Kd.R d e c base ok v xs):=⟨ay (alC (hI.apart h ht) hk (fun _ h=>h.2)) (fun _ h=>h.1)⟩
theorem kj{α β:Type}{d:Kd α}{e base:Nat}{ok:Nat→Prop}{v:Value}{xs:List α}{w0 a b c:World}{g:Nat}{f0:List Int}{f1:Int}{d':Kd β}{e':Nat}{ok':Nat→Prop}{v':Value}{ys:List β}(_old:ah (Kd.R d e a base ok v xs))(hk:bC b c g none)(ho:Kd.R d' e' c b.heap.size ok' v' ys)(hI:bH w0 b g f0 f1:=by exact xC)(h:Kd.R d e b base ok v xs:=by exact rr)(ht:∀q,q∈e:: d.E→q≠109:=by decide):ah (Kd.R d e c base (fun k=>ok k∧some k≠v'.ownBlock) v xs):=⟨ay (oK (ajq (hI.apart h ht) hk) (bZ ho)) (fun _ h=>h.1)⟩
def wZ.f(l0:List Int):Option (List Int×Int):=if(l0.length:Int)>2000 then(if 2000≤(l0.length:Int)then(some (l0.take 2000,0))else(none))else(some (l0,0))
theorem wZ.calls{A0:Option Addr}{c0:Nat}{l0 r1:List Int}{r2:Int}{w:World}(w0:World)(hB:Below w0.heap.size w0 w)(hr0:Kd.C (Kd.int .u8) w0 A0 l0.length l0)(hc0:l0.length≤c0)(h:wZ.f l0=some (r1,r2)):
  Calls Tryz.prog 55 #[.slice A0 l0.length c0] w fun e w'=>∃g_:Nat,e= .returned (.pointer (some ⟨g_,0,none⟩))∧bH w0 w' g_ r1 r2∧Below w0.heap.size w0 w'∧Below w.heap.size w w':=by
 have aM0:=underlying109;have HR0:=ak hr0;have vw:=ak hc0;clear hr0 hc0;have HBW:=ak (Below.refl w.heap.size w);have HW0:=ak hB.size;have HB:=ak hB;clear hB;unfold wZ.f at h;have H:=h;clear h;replace H:=sp H;rcases H with⟨c2,H⟩|⟨c2,H⟩
 ·have rQ:decide (2000<(l0.length:Int))=true:=decide_eq_true c2;have y8:decide (2000<l0.length)=true:=decide_eq_true (by omega);clear c2;replace H:=zh H;obtain⟨jd,yQ,H⟩:=H;obtain⟨rfl,rfl⟩:=s2 H;obtain⟨i04,aDW,_,aDX,_⟩:=info_parts info5;obtain⟨aM1,hA4,hC4⟩:=xW (P:=Tryz.prog) (Value.int .u8) 0 22 5 .i64 underlying22 aDW aDX A0 c0 l0 2000 (by omega) (of_decide_eq_true (by assumption)) vw.out;have aDY:=ak (tJ (h1:=fun _=>rfl) (hA4 _ (rU HR0.out)));have aM2:=ak hC4;clear hA4 hC4 aDW aDX;go_enter func55,ntmps55;go_wp2_with (refine bE 10 #[.slice A0 (l0.take 2000).length c0, .int .i64 0] 109 ?_;intro alD hg w5 hbox hb;have aDZ:=ak (hbox);have aM3:=ge_ HBW hg;have aD0:=ak ((Nat.le_trans HW0.out (by rw[hg];exact(au (ul HBW.out)):w.heap.size≤alD):w0.heap.size≤alD));replace HBW:=ak (lU HBW.out hb);replace HB:=bs HB hb;clear hb hbox hg)
  go_ret;exact⟨_,rfl,(show bH w0 _ alD (l0.take 2000) 0 from⟨_,_,ub aDZ.out,aD0.out,aDY.out⟩),wz,bh HBW.out⟩
 ·have rQ:decide (2000<(l0.length:Int))=false:=decide_eq_false c2;have y8:decide (2000<l0.length)=false:=decide_eq_false (by omega);clear c2;obtain⟨rfl,rfl⟩:=s2 H;go_enter func55,ntmps55;go_wp2_with (refine bE 10 #[.slice A0 l0.length c0, .int .i64 0] 109 ?_;intro alE hg w6 hbox hb;have aD1:=ak (hbox);have aM4:=ge_ HBW hg;have aD2:=ak ((Nat.le_trans HW0.out (by rw[hg];exact(au (ul HBW.out)):w.heap.size≤alE):w0.heap.size≤alE));replace HBW:=ak (lU HBW.out hb);replace HB:=bs HB hb;clear hb hbox hg)
  go_ret;exact⟨_,rfl,(show bH w0 _ alE l0 0 from⟨_,_,ub aD1.out,aD2.out,HR0.out⟩),wz,bh HBW.out⟩
end Go.Proofs.YtncdadcmghglkaaGreatDoor.PFnParseBody
