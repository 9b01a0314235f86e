/- Printed walks; conditions: those in each statement. -/
import Derived.Test.YtncdadcmghglkaaGreatDoorVFnPartAtQt
import Derived.Test.YtncdadcmghglkaaGreatDoorVFnPartAtYt
import Derived.Test.YtncdadcmghglkaaGreatDoorPFnPartAtx0
import Derived.Test.YtncdadcmghglkaaGreatDoorPFnPartAtx13
import Derived.Test.YtncdadcmghglkaaGreatDoorPFnPartAtx15
import Derived.Test.YtncdadcmghglkaaGreatDoorPFnPartAtx17
-- short
-- dense
-- sq
-- sq2
namespace Go.Proofs.YtncdadcmghglkaaGreatDoor.PFnPartAt
open Go.RowKit Go.Proofs.YtncdadcmghglkaaGreatDoor.X Go.Proofs.YtncdadcmghglkaaGreatDoorW.bQ Go.Proofs.YtncdadcmghglkaaGreatDoorW.jm Go.Proofs.YtncdadcmghglkaaGreatDoorW.kD
attribute [local go_sem] pV pW sK sN nI nJ pX pY   -- for this text's walks alone
set_option linter.unusedVariables false
set_option maxHeartbeats 8000000
set_option maxRecDepth 100000
set_option linter.unusedSimpArgs false
def qg.f (a0:ByteArray) (a1:ByteArray):Option (Bool):=if 2+a1.size≤9223372036854775807 then(if a0.toList=((⟨#[45,45]⟩:ByteArray)++a1).toList then(some true)else(if((⟨#[45,45]⟩:ByteArray)++a1).size+2≤9223372036854775807 then(some (a0.toList==(((⟨#[45,45]⟩:ByteArray)++a1)++(⟨#[45,45]⟩:ByteArray)).toList))else(none)))else(none)
theorem qg.calls {a0 a1:ByteArray} {r:Bool} {w:World} (h:qg.f a0 a1=some r):
  Calls Tryz.prog 115 #[.string a0, .string a1] w fun e w'=>e= .returned (.bool r)∧dO w w':=by
 unfold qg.f at h;have H:=h;clear h;replace H:=nn H;obtain⟨c3,H⟩:=H;have iW:=eq_true c3;have Ae:=decide_eq_true c3;try have Ya:(9223372036854775807<2+a1.size)=False:=eq_false (Nat.not_lt.2 c3)
 replace H:=sq H;rcases H with⟨rW,SB,H⟩|⟨c4,rW,SB,H⟩
 ·obtain rfl:=s1 H;go_enter Tryz.func115,Tryz.ntmps115;go_wp2;go_ret;exact⟨rs,dn⟩
 ·replace H:=nn H;obtain⟨c5,H⟩:=H;have oz:=eq_true c5;have NV:=decide_eq_true c5;try have aMj:(9223372036854775807<2+a1.size+2)=False:=by have h_:=(eq_false (Nat.not_lt.2 c5):(9223372036854775807<((⟨#[45,45]⟩:ByteArray)++a1).size+2)=False);simp only[ByteArray.size_append]at h_;exact h_
  try have aMk:(9223372036854775807<((⟨#[45,45]⟩:ByteArray)++a1).size+2)=False:=eq_false (Nat.not_lt.2 c5)
  obtain rfl:=s1 H;go_enter Tryz.func115,Tryz.ntmps115;go_wp2;go_ret;exact⟨rs,dn⟩
mutual
def cZ.j0:Nat→List (List ByteArray)→ByteArray→List ByteArray→Bool→Option (List ByteArray×Bool)
 |0,_,_,_,_=>none
 |k+1,x0,x1,x6,x17=>if x17=true then(some (x6,false))else(cZ.l0 k x0 x1 x6 0)
def cZ.l0:Nat→List (List ByteArray)→ByteArray→List ByteArray→Int→Option (List ByteArray×Bool)
 |0,_,_,_,_=>none
 |k+1,x0,x1,x6,x7=>if x7<(x0.length:Int)then(if 2+x1.size≤9223372036854775807 then(if x6.length<8796093022208 then(cZ.l1 k x0 x1 (x6++[(⟨#[45,45]⟩:ByteArray)++x1]) x7 0)else(none))else(none))else(if 2+x1.size≤9223372036854775807 then(if((⟨#[45,45]⟩:ByteArray)++x1).size+2≤9223372036854775807 then(if x6.length<8796093022208 then(some ((x6++[((⟨#[45,45]⟩:ByteArray)++x1)++(⟨#[45,45]⟩:ByteArray)]),true))else(none))else(none))else(none))
def cZ.l1:Nat→List (List ByteArray)→ByteArray→List ByteArray→Int→Int→Option (List ByteArray×Bool)
 |0,_,_,_,_,_=>none
 |k+1,x0,x1,x6,x7,x8=>if 0≤x7 then(if x7<(x0.length:Int)then(if x8<((Ba x0 x7).length:Int)then(if 0≤x8 then((qg.f (qH ByteArray.empty (Ba x0 x7) x8) x1).bind fun ax1=>(if ax1=true then(some ((([]:List ByteArray)),false))else(if x6.length<8796093022208 then(cZ.l1 k x0 x1 (x6++[qH ByteArray.empty (Ba x0 x7) x8]) x7 (wrap64 (x8+1)))else(none))))else(none))else(cZ.l0 k x0 x1 x6 (wrap64 (x7+1))))else(none))else(none)
end
def cZ.f (k:Nat) (l0:List (List ByteArray)) (a1:ByteArray):Option (List ByteArray×Bool):=(some (([]:List ByteArray):List ByteArray)).bind fun ajw=>((b_.f k a1).bind fun ax2=>(if ax2=true then(cZ.j0 k l0 a1 ajw ((l0.length:Int)==0))else(cZ.j0 k l0 a1 ajw true)))
theorem cZ.calls {k c0:Nat} {A0:Option Addr} {l0:List (List ByteArray)} {a1:ByteArray} {r1:List ByteArray} {r2:Bool} {w:World} (hr0:Kd.C (Kd.slice 9 Kd.string) w A0 l0.length l0) (hc0:l0.length≤c0) (h:cZ.f k l0 a1=some (r1,r2)):
  Calls Tryz.prog 109 #[.slice A0 l0.length c0, .string a1] w fun e w'=>∃pO:Value,e= .returned (.tuple #[pO, .bool r2])∧Kd.R Kd.string 9 w' w.heap.size (fun _=>True) pO r1∧Below w.heap.size w w':=by
 have HR0:=ak hr0;have zH:=ak hc0;clear hr0 hc0;have HB:=ak (Below.refl w.heap.size w);unfold cZ.f at h;have H:=h;clear h;replace H:=ny H;obtain⟨ajw,ax3,H⟩:=H;have Uk:=ak H;clear H;go_enter Tryz.func109,Tryz.ntmps109;go_upto_region 2 with(refine gG 9 ?_;refine IY 9 Kd.string 9 ax3 ?_;intro aE6 w4 ho5 hb;have apD:=ak (Kd.aG ho5 (aj (ul HB.out)));replace HB:=bs HB hb;clear hb ho5)
 (try simp only[Act.put,zW,zX,l_c]);go_cut [17] (fun v17 wc=>∃(kq:Nat) (UJ:Bool),v17= .bool UJ∧ah (cZ.j0 kq l0 a1 ajw UJ=some (r1,r2))∧ah (kq≤k)∧ah (Kd.R Kd.string 9 wc w.heap.size (fun _=>True) aE6 ajw)∧ah (Below w.heap.size w wc))
 case first=>
  have H:=Uk.out;clear Uk;replace H:=bd H;obtain⟨ax2,A6,H⟩:=H;replace H:=sb H;rcases H with⟨rfl,H⟩|⟨rfl,H⟩
  ·have H':=ak H;clear H;go_wp2_with (refine gA Tryz.func157 (b_.calls A6.out) ?_;intro nd)
   go_meet
   case rel=>exact⟨_,_,rs,H',⟨Qa⟩,⟨ur apD.out⟩,⟨ul HB.out⟩⟩
  ·have H':=ak H;clear H;go_wp2_with (refine gA Tryz.func157 (b_.calls A6.out) ?_;intro nd)
   go_meet
   case rel=>exact⟨_,_,rs,H',⟨Qa⟩,⟨ur apD.out⟩,⟨ul HB.out⟩⟩
 case rest=>
  clear Uk;obtain⟨kq,UJ,rfl,HA,HJ2,mW,HB⟩:=hcut
  cases kq with
  |zero=>exact zz HA.out
  |succ kj2=>
   obtain⟨H⟩:=HA;simp only[cZ.j0]at H;replace H:=sb H;rcases H with⟨rfl,H⟩|⟨rfl,H⟩
   ·obtain⟨rfl,rfl⟩:=s2 H;go_wp2;go_ret2;exact⟨_,er,ur mW.out,ul HB.out⟩
   ·have H':=ak H;clear H;go_wp2;go_loopg [6,7] kj2 (fun kq v6 v7 w'=>∃(EP:List ByteArray) (Cj:Int),v7= .int .i64 Cj∧ah (cZ.l0 kq l0 a1 EP Cj=some (r1,r2))∧ah (kq≤kj2)∧ah (Kd.R Kd.string 9 w' w.heap.size (fun _=>True) v6 EP)∧ah (Below w.heap.size w w'))
    case atStart=>exact⟨_,_,rs,H',⟨Nat.le_refl _⟩,⟨ur mW.out⟩,⟨ul HB.out⟩⟩
    case round=>
     clear H';obtain⟨EP,Cj,rfl,HA,HK2,mW,HB⟩:=hrel
     cases gk with
     |zero=>exact zz HA.out
     |succ k2=>
      obtain⟨H⟩:=HA;simp only[cZ.l0]at H;replace H:=sd H;rcases H with⟨AZ,H⟩|⟨AZ,H⟩
      ·replace H:=nn H;obtain⟨c10,H⟩:=H;have oO:=eq_true c10;have vH:=decide_eq_true c10;try have aeJ:(9223372036854775807<2+a1.size)=False:=eq_false (Nat.not_lt.2 c10)
       replace H:=nl H;obtain⟨UK,H⟩:=H;obtain⟨aMl,apE⟩:=nm (EP++[(⟨#[45,45]⟩:ByteArray)++a1]);rw[←apE.out]at H;have H':=ak H;clear H;go_wp2_with ((with_reducible refine dR (b:= .append) (xs:=#[.tmp 25, .tmp 28]) rfl ?_);(try(refine mX (by rfl) ?_;dsimp only));at_builtin;refine aP 25 28 Kd.string 23 9 (.string ⟨#[]⟩) 16 Tryz.underlying23 info9 HB (ur mW.out) apE (by have:=UK.out;omega) ?_;intro aMm w12 ho hb hg hat;have ax4:=ak (ho);replace HB:=ak (hb);clear ho hb hg hat mW)
       go_loopg [6,8] k2 (fun kq v6 v8 w'=>∃(Gp:List ByteArray) (Qs:Int),v8= .int .i64 Qs∧ah (cZ.l1 kq l0 a1 Gp Cj Qs=some (r1,r2))∧ah (kq≤k2)∧ah (Kd.R Kd.string 9 w' w.heap.size (fun _=>True) v6 Gp)∧ah (Below w.heap.size w w'))
       case atStart=>exact⟨_,_,rs,H',⟨Nat.le_refl _⟩,⟨ur ax4.out⟩,⟨ul HB.out⟩⟩
       case round=>
        clear H';try clear AZ
        try clear c10
        try clear oO
        try clear vH
        try clear aeJ
        obtain⟨Gp,Qs,rfl,HA,HK3,mW,HB⟩:=hrel
        cases gk with
        |zero=>exact zz HA.out
        |succ k3=>
         obtain⟨H⟩:=HA;simp only[cZ.l1]at H;replace H:=oL H;obtain⟨xA,H⟩:=H;replace H:=oL H;obtain⟨vZ,H⟩:=H;replace H:=sd H;rcases H with⟨yM,H⟩|⟨yM,H⟩
         ·replace H:=oL H;obtain⟨zJ,H⟩:=H;replace H:=bd H;obtain⟨ax1,A17,H⟩:=H;replace H:=sb H;rcases H with⟨rfl,H⟩|⟨rfl,H⟩
          ·obtain⟨aMn,apF⟩:=nm ([]:List ByteArray);rw[←apF.out]at H;obtain⟨rfl,rfl⟩:=s2 H;have UL:=zi Cj;have UM:=zj Cj l0.length;obtain⟨aaK,ajx,ajy,ajz,Am,E_,Fa⟩:=MW HR0.out Cj UL UM;cases ajz;replace Am:=cl HB.out Am;have aeU:=ak Fa;have aeV:=ak E_;clear Fa E_;replace UL:=eq_true UL;replace UM:=eq_true UM;have acJ:=zi Cj;have acK:=zj Cj l0.length;obtain⟨ajA,asZ,as1,as2,He,Oz,OA⟩:=MW HR0.out Cj acJ acK;obtain rfl:aaK=ajA:=(by injection as2)
           replace He:=cl HB.out He;have YI:=ak OA;have ane:=ak Oz;clear OA Oz;replace acJ:=eq_true acJ;replace acK:=eq_true acK;have ea_:=Option.some.inj (Am.symm.trans He);injection ea_ with ea_ en_ ec_;subst ea_;subst ec_;clear en_;have acL:=zi Qs;have acM:=zj Qs ((Ba l0 Cj).length);obtain⟨ax5,as3,OB⟩:=Kd.jT YI.out Qs acL acM;cases as3;replace OB:=cl HB.out OB;replace acL:=eq_true acL;replace acM:=eq_true acM;go_wp2_with (first|(refine gA Tryz.func115 (qg.calls A17.out) ?_;intro nd)|(refine gG 48 ?_;refine IY 48 Kd.string 9 apF ?_;intro aMo w19 ahc hb;have ax6:=ak (Kd.aG (Kd.eU ahc (Kd.jM (ur mW.out))) (aj (ul HB.out)));replace mW:=ak (Kd.dY (ur mW.out) (Kd.bV ahc) hb);replace HB:=bs HB hb;clear hb ahc))
           go_ret2;exact⟨_,er,ur (Kd.aW ax6.out (fun _ hk=>trivial)),ul HB.out⟩
          ·replace H:=nl H;obtain⟨aap,H⟩:=H;obtain⟨aMp,apG⟩:=nm (Gp++[qH ByteArray.empty (Ba l0 Cj) Qs]);rw[←apG.out]at H;have H':=ak H;clear H;have UL:=zi Cj;have UM:=zj Cj l0.length;obtain⟨aaK,ajx,ajy,ajz,Am,E_,Fa⟩:=MW HR0.out Cj UL UM;cases ajz;replace Am:=cl HB.out Am;have aeU:=ak Fa;have aeV:=ak E_;clear Fa E_;replace UL:=eq_true UL;replace UM:=eq_true UM;have acJ:=zi Cj;have acK:=zj Cj l0.length;obtain⟨ajA,asZ,as1,as2,He,Oz,OA⟩:=MW HR0.out Cj acJ acK;obtain rfl:aaK=ajA:=(by injection as2)
           replace He:=cl HB.out He;have YI:=ak OA;have ane:=ak Oz;clear OA Oz;replace acJ:=eq_true acJ;replace acK:=eq_true acK;have ea_:=Option.some.inj (Am.symm.trans He);injection ea_ with ea_ en_ ec_;subst ea_;subst ec_;clear en_;have acL:=zi Qs;have acM:=zj Qs ((Ba l0 Cj).length);obtain⟨ax5,as3,OB⟩:=Kd.jT YI.out Qs acL acM;cases as3;replace OB:=cl HB.out OB;replace acL:=eq_true acL;replace acM:=eq_true acM;go_wp2_with (first|(refine gA Tryz.func115 (qg.calls A17.out) ?_;intro nd;have as4:0≤(Cj:Int):=of_decide_eq_true (by assumption);have as5:Cj<(l0.length:Int):=of_decide_eq_true (by assumption);obtain⟨ax7,aE7,aE8,aE9,TA,aeW,aeX⟩:=MW HR0.out Cj as4 as5;obtain rfl:aaK=ax7:=(by injection aE9);replace TA:=(HB.out.cell (World.block_lt_of_cell? w _ TA)).trans TA;have anf:=ak aeX;have aDh:=ak aeW;clear aeX aeW;replace as4:=eq_true as4;replace as5:=eq_true as5;have ea_:=Option.some.inj (Am.symm.trans TA);injection ea_ with ea_ en_ ec_;subst ea_;subst ec_;clear en_;have as6:0≤(Qs:Int):=of_decide_eq_true (by assumption);have as7:Qs<((Ba l0 Cj).length:Int):=of_decide_eq_true (by assumption);obtain⟨aIp,aE_,YJ⟩:=Kd.jT anf.out Qs as6 as7;cases aE_;replace YJ:=(HB.out.cell (World.block_lt_of_cell? w _ YJ)).trans YJ;replace as6:=eq_true as6;replace as7:=eq_true as7)|((with_reducible refine dR (b:= .append) (xs:=#[.tmp 49, .tmp 57]) rfl ?_);(try(refine mX (by rfl) ?_;dsimp only));at_builtin;refine aP 49 57 Kd.string 23 9 (.string ⟨#[]⟩) 16 Tryz.underlying23 info9 HB (ur mW.out) apG (by have:=aap.out;omega) ?_;intro aMq w22 ho hb hg hat;have ax8:=ak (ho);replace HB:=ak (hb);clear ho hb hg hat mW))
           go_roundg k3
           case measure=>exact kl
           case rel=>exact⟨_,_,rs,H',⟨kl⟩,⟨ur ax8.out⟩,⟨ul HB.out⟩⟩
         ·have H':=ak H;clear H;have UL:=zi Cj;have UM:=zj Cj l0.length;obtain⟨aaK,ajx,ajy,ajz,Am,E_,Fa⟩:=MW HR0.out Cj UL UM;cases ajz;replace Am:=cl HB.out Am;have aeU:=ak Fa;have aeV:=ak E_;clear Fa E_;replace UL:=eq_true UL;replace UM:=eq_true UM;go_wp2;go_roundg k3
          case measure=>exact kl
          case rel=>exact⟨_,_,rs,H',⟨kl⟩,⟨ur mW.out⟩,⟨ul HB.out⟩⟩
      ·replace H:=nn H;obtain⟨c23,H⟩:=H;have CZ:=eq_true c23;have RF:=decide_eq_true c23;try have ax9:(9223372036854775807<2+a1.size)=False:=eq_false (Nat.not_lt.2 c23)
       replace H:=nn H;obtain⟨c24,H⟩:=H;have Us:=eq_true c24;have ajB:=decide_eq_true c24;try have aIq:(9223372036854775807<2+a1.size+2)=False:=by have h_:=(eq_false (Nat.not_lt.2 c24):(9223372036854775807<((⟨#[45,45]⟩:ByteArray)++a1).size+2)=False);simp only[ByteArray.size_append]at h_;exact h_
       try have aIr:(9223372036854775807<((⟨#[45,45]⟩:ByteArray)++a1).size+2)=False:=eq_false (Nat.not_lt.2 c24)
       replace H:=nl H;obtain⟨Ui,H⟩:=H;obtain⟨aMr,apH⟩:=nm (EP++[((⟨#[45,45]⟩:ByteArray)++a1)++(⟨#[45,45]⟩:ByteArray)]);rw[←apH.out]at H;obtain⟨rfl,rfl⟩:=s2 H;go_wp2_with ((with_reducible refine dR (b:= .append) (xs:=#[.tmp 59, .tmp 63]) rfl ?_);(try(refine mX (by rfl) ?_;dsimp only));at_builtin;refine aP 59 63 Kd.string 23 9 (.string ⟨#[]⟩) 16 Tryz.underlying23 info9 HB (ur mW.out) apH (by have:=Ui.out;omega) ?_;intro aMs w26 ho hb hg hat;have ax_:=ak (ho);replace HB:=ak (hb);clear ho hb hg hat mW)
       go_ret2;exact⟨_,er,ur ax_.out,ul HB.out⟩
mutual
def jQ.l0:Nat→List ByteArray→ByteArray→List (List ByteArray)→Int→List (fP)→List ByteArray→List (jV)→Option (List ByteArray)
 |0,_,_,_,_,_,_,_=>none
 |k+1,x3,x5,x7,x8,ang,anh,OC=>if x8<(OC.length:Int)then(if 0≤x8 then((jQ.f k ((au OC x8).f0) ((au OC x8).f1) ((au OC x8).f2)).bind fun acN=>(if x7.length<5864062014805 then(jQ.l0 k x3 x5 (x7++[acN]) (wrap64 (x8+1)) ang anh OC)else(none)))else(none))else((cZ.f k x7 x5).bind fun apI=>(if x3.length+apI.1.length<8796093022208 then(some (x3++apI.1))else(none)))
def jQ.f:Nat→List (fP)→List ByteArray→List (jV)→Option (List ByteArray)
 |0,_,_,_=>none
 |k+1,bg,bf,aA=>(ji.f k bg).bind fun apJ=>(if apJ.1.length<8796093022208 then((some (apJ.1++[(⟨#[]⟩:ByteArray)]:List ByteArray)).bind fun Wj=>((kW.f k bg).bind fun apK=>(if apK.2=true then(jQ.l0 k Wj apK.1 (([]:List (List ByteArray))) 0 bg bf aA)else(if Wj.length+bf.length<8796093022208 then(some (Wj++bf))else(none)))))else(none))
end
theorem jQ.calls (k:Nat):∀(gQ:Option Addr) (gU:Nat) (bg:List (fP)) (f_:Option Addr) (gu:Nat) (bf:List ByteArray) (eP:Option Addr) (dI:Nat) (aA:List (jV)) (r:List ByteArray) (w:World) (lI:Kd.C ou w gQ bg.length bg) (lJ:bg.length≤gU) (lK:Kd.C Kd.string w f_ bf.length bf) (lM:bf.length≤gu) (jF:Kd.C k28 w eP aA.length aA) (jG:aA.length≤dI) (h:jQ.f k bg bf aA=some r),
  Calls Tryz.prog 67 #[.agg #[.slice gQ bg.length gU, .slice f_ bf.length gu, .slice eP aA.length dI]] w fun e w'=>∃pO:Value,e= .returned (pO)∧Kd.R Kd.string 9 w' w.heap.size (fun _=>True) pO r∧Below w.heap.size w w':=by
 induction k using Nat.strongRecOn with
 |_ k ih=>
 intro gQ gU bg f_ gu bf eP dI aA r w lI lJ lK lM jF jG h
 cases k with
 |zero=>exact absurd h (by simp[jQ.f])
 |succ k=>
 simp only[jQ.f]at h;have Dq:=Tryz.underlying28;have pG:=ak lI;have qy:=ak lJ;clear lI lJ;have sD:=ak lK;have uV:=ak lM;clear lK lM;have jK:=ak jF;have mV:=ak jG;clear jF jG;have HB:=ak (Below.refl w.heap.size w);have H:=h;clear h;replace H:=bd H;obtain⟨⟨aya,aMt⟩,A2,H⟩:=H
 (try dsimp only at H);replace H:=nl H;obtain⟨agY,H⟩:=H;replace H:=ny H;obtain⟨Wj,apL,H⟩:=H;replace H:=bd H;obtain⟨⟨aFa,aMu⟩,A4,H⟩:=H
 (try dsimp only at H);replace H:=sb H;rcases H with⟨rfl,H⟩|⟨rfl,H⟩
 ·obtain⟨aMv,ajC⟩:=nm ([]:List (List ByteArray));rw[←ajC.out]at H;have H':=ak H;clear H;go_enter Tryz.func67,Tryz.ntmps67;go_wp2_with (first|(refine bX HB 1 #[.slice gQ bg.length gU, .slice f_ bf.length gu, .slice eP aA.length dI] 28 ?_;intro UN w6 pJ ayb hb;replace HB:=bs HB hb;clear hb;have z7:=iQ pJ.out)|(refine gV Tryz.func107 (ji.calls (cu (Kd.aI pG.out HB.out)) qy.out A2.out) ?_;rintro as8 w8 ⟨ho0,hb⟩;have UO:=ak (Kd.aG ho0 (aj bb));replace pJ:=kb pJ hb;replace HB:=bz HB hb;clear hb;(try clear ho0))|((with_reducible refine dR (b:= .append) (xs:=#[.tmp 17, .tmp 18]) rfl ?_);at_builtin;refine Kd.qX Kd.string (w0:=w) w.heap.size rfl (.tmp 17) (.tmp 18) 23 9 (.string ⟨#[]⟩) 16 rfl Tryz.underlying23 info9 rfl (by decide) (by omega) as8 aya (⟨#[]⟩:ByteArray) [.string (⟨#[]⟩:ByteArray)] (fun _=>True) (fun _=>False) rfl rfl ?aP (fun _ hk=>hk.elim) ?aF ?aO ?aB ?aS ?aL ?_;(case aP=>exact rfl);(case aB=>exact bb);(case aF=>exact(fun _ _=>trivial));(case aO=>exact(ur UO.out));(case aS=>exact(aj bb));(case aL=>have:=agY.out;omega);intro aaL w9 ho hb hg hat;rw[←apL.out]at ho;have Ip:=ak (ho);replace pJ:=ak (bD (g:=UN) (o:= .cells #[.slice gQ bg.length gU, .slice f_ bf.length gu, .slice eP aA.length dI] 28 (0,0)) (ub pJ.out) hg (Kd.pz UO.out pJ.out (by decide)));replace HB:=ak (hb);clear ho hb hg hat UO;have z10:=iQ pJ.out)|(refine gB Tryz.func108 (kW.calls (cu (Kd.aI pG.out HB.out)) qy.out A4.out) ?_;intro V6 hb;replace Ip:=rb Ip hb;replace pJ:=kb pJ hb;replace HB:=bz HB hb;clear hb)|((with_reducible refine aar (N:=32) rfl ?_);refine Kd.aoV (Kd.slice 9 Kd.string) _ 23 ?hg (N:=32) ?hd (xs:=([]:List (List ByteArray))) (inner:=[]) (ok:=fun _=>True) (yC:=fun _=>True) ?hr ?hp (fun _ hk=>hk) trivial (Below.refl _ _) (Nat.le_refl _) (by simp) ?_;(case hd=>rfl);(case hg=>rfl);(case hr=>first|(go_simp;done)|(go_simp;rfl));(case hp=>exact(bZ.none _ _));intro aMw w12 Yo hb D9 yV;clear D9 yV;(first|rw[←ajC.out]at Yo|(simp only[Int.reduceToNat]at Yo;rw[←ajC.out]at Yo));have ayc:=ak (Kd.aeo (Kd.ai4 Yo (Kd.jM (ur Ip.out))) (aj bb));replace Ip:=rb Ip hb;replace pJ:=kb pJ hb;replace HB:=bz HB hb;clear hb Yo))
  go_loopg [7,8] k (fun kq v7 v8 w'=>∃(sF:List (List ByteArray)) (lQ:Int),v8= .int .i64 lQ∧ah (jQ.l0 kq Wj aFa sF lQ bg bf aA=some r)∧ah (kq≤k)∧ah (Kd.R Kd.string 9 w' w.heap.size (fun _=>True) aaL Wj)∧ah (Kd.S (Kd.slice 9 Kd.string) 23 w' w.heap.size (fun k_=>some k_≠(aaL:Value).ownBlock) v7 sF)∧ah (w'.heap[UN]? =some (.cells #[(.slice gQ bg.length gU),(.slice f_ bf.length gu),(.slice eP aA.length dI)] 28 (0,0)))∧ah (Below w.heap.size w w'))
  case atStart=>exact⟨_,_,rs,H',⟨Nat.le_refl _⟩,⟨ur Ip.out⟩,⟨by(with_reducible repeat(first|apply Kd.vw|apply Kd.vC|apply Kd.yQ));exact Kd.G5 ayc.out (fun _ hk=>hk.2)⟩,⟨ub pJ.out⟩,⟨bb⟩⟩
  case round=>
   clear H';obtain⟨sF,lQ,rfl,HA,xK,qQ,LU,pJ,HB⟩:=hrel
   cases gk with
   |zero=>exact zz HA.out
   |succ k1=>
    obtain⟨H⟩:=HA;simp only[jQ.l0]at H;replace H:=sd H;rcases H with⟨vZ,H⟩|⟨vZ,H⟩
    ·replace H:=oL H;obtain⟨yM,H⟩:=H;replace H:=bd H;obtain⟨acN,A16,H⟩:=H;replace H:=nl H;obtain⟨ajD,H⟩:=H;obtain⟨aMx,apM⟩:=nm (sF++[acN]);rw[←apM.out]at H;have H':=ak H;clear H;have z18:=iQ pJ.out;have as9:=zi lQ;have ata:=zj lQ aA.length;obtain⟨ayd,aFb,aFc,aFd,aFe,aFf,aFg,aFh,aeY,aeZ,ae0,ae1,ae2,ae3,ae4,ae5,ae6⟩:=xM jK.out lQ as9 ata;cases aFh;replace aeY:=cl HB.out aeY;replace aeZ:=cl HB.out aeZ;replace ae0:=cl HB.out ae0;have ani:=ak ae2;have anj:=ak ae1;clear ae2 ae1;have ank:=ak ae4;have anl:=ak ae3;clear ae4 ae3;have anm:=ak ae6;have ano:=ak ae5;clear ae6 ae5;replace as9:=eq_true as9;replace ata:=eq_true ata;go_wp2_with (first|(refine gV Tryz.func67 (ih k1 (by have:=xK.out;omega) _ _ ((au aA lQ).f0) _ _ ((au aA lQ).f1) _ _ ((au aA lQ).f2) acN _ (cu (Kd.aI ani.out HB.out)) anj.out (cu (Kd.aI ank.out HB.out)) anl.out (cu (Kd.aI anm.out HB.out)) ano.out A16.out) ?_;rintro aMy w19 ⟨ho0,hb⟩;have ae7:=ak (Kd.aG (Kd.eU ho0 (Kd.jM (ur qQ.out))) (aj bb));replace qQ:=ak (Kd.dY (ur qQ.out) (Kd.bV ho0) hb);replace LU:=ak (Kd.I8 (by(with_reducible repeat(first|apply Kd.vw|apply Kd.vC|apply Kd.yQ));exact LU.out) (Kd.bV ho0) hb);replace pJ:=kb pJ hb;replace HB:=bz HB hb;clear hb;(try clear ho0);obtain⟨MZ,M_,X7⟩:=Kd.aH ae7.out;subst X7)|((with_reducible refine dR (b:= .append) (xs:=#[.tmp 40, .tmp 47]) rfl ?_);at_builtin;refine Kd.aau (Kd.slice 9 Kd.string) (w0:=w) w.heap.size rfl (.tmp 40) (.tmp 47) 65 23 (.slice none 0 0) 24 rfl Tryz.underlying65 info23 rfl (by decide) (by omega) u7 sF acN [.slice MZ acN.length M_] (fun k_=>some k_≠(aaL:Value).ownBlock) (fun k_=>some k_=(.slice MZ acN.length M_:Value).ownBlock) rfl rfl ?aP (fun k_ hk_=>((Kd.aW (ok':=fun k_=>((fun k_=>some k_≠(aaL:Value).ownBlock)) k_∧some k_≠(u7:Value).ownBlock) (Kd.oC (ae7.out) (Kd.JV LU.out) (by decide)) (fun k_ hk=>⟨hk.1.2,hk.2⟩))).1 k_ hk_.symm) ?aF ?aO ?aB ?aS ?aL ?_;(case aP=>exact Kd.aoX (Kd.aW (Kd.aeu rfl (Kd.aW (ok':=fun k_=>((fun k_=>some k_≠(aaL:Value).ownBlock)) k_∧some k_≠(u7:Value).ownBlock) (Kd.oC (ae7.out) (Kd.JV LU.out) (by decide)) (fun k_ hk=>⟨hk.1.2,hk.2⟩))) (fun _ h_=>h_)));(case aB=>exact bb);(case aF=>exact(fun k_ hk=>Kd.fresh' (Kd.jM (ur qQ.out)) k_ hk));(case aO=>exact(by(with_reducible repeat(first|apply Kd.vw|apply Kd.vC|apply Kd.yQ));exact Kd.G5 LU.out (fun k_ hk=>⟨hk.1,fun e_=>hk.2 e_⟩)));(case aS=>exact(aj bb));(case aL=>have:=ajD.out;omega);intro aMz w20 ho hb hg hat;rw[←apM.out]at ho;have aye:=ak (ho);replace qQ:=ak (Kd.pq (ur qQ.out) (Kd.JV (by(with_reducible repeat(first|apply Kd.vw|apply Kd.vC|apply Kd.yQ));exact LU.out)) (by decide) hg);replace pJ:=ak (bD (g:=UN) (o:= .cells #[.slice gQ bg.length gU, .slice f_ bf.length gu, .slice (some ayd) aA.length dI] 28 (0,0)) (ub pJ.out) hg (Kd.ar8 LU.out pJ.out (by decide)));replace HB:=ak (hb);clear ho hb hg hat LU ae7))
     go_roundg k1
     case measure=>exact kl
     case rel=>exact⟨_,_,rs,H',⟨kl⟩,⟨ur (Kd.aW qQ.out (fun _ hk=>trivial))⟩,⟨by(with_reducible repeat(first|apply Kd.vw|apply Kd.vC|apply Kd.yQ));exact aye.out⟩,⟨ub pJ.out⟩,⟨bb⟩⟩
    ·replace H:=bd H;obtain⟨⟨anp,aMA⟩,A22,H⟩:=H
     (try dsimp only at H);replace H:=nl H;obtain⟨ajd,H⟩:=H;obtain⟨aMB,apN⟩:=nm (Wj++anp);rw[←apN.out]at H;obtain rfl:=s1 H;have z24:=iQ pJ.out;obtain⟨ajq,ajr,acs⟩:=Kd.aev LU.out;subst acs;go_wp2_with (first|(refine gV Tryz.func109 (cZ.calls (cu ((Kd.NI LU.out).2.2)) ((Kd.NI LU.out).2.1) A22.out) ?_;rintro aMC w26 ⟨ho0,hb⟩;have aaM:=ak (Kd.aG (Kd.eU ho0 (Kd.jM (ur qQ.out))) (aj bb));replace qQ:=ak (Kd.dY (ur qQ.out) (Kd.bV ho0) hb);replace LU:=ak (Kd.I8 (by(with_reducible repeat(first|apply Kd.vw|apply Kd.vC|apply Kd.yQ));exact LU.out) (Kd.bV ho0) hb);replace pJ:=kb pJ hb;replace HB:=bz HB hb;clear hb;(try clear ho0);obtain⟨ayf,ayg,aFi⟩:=Kd.aH aaM.out;subst aFi)|((with_reducible refine dR (b:= .append) (xs:=#[.tmp 55, .tmp 56]) rfl ?_);at_builtin;refine Kd.pU Kd.string (w0:=w) w.heap.size rfl (.tmp 55) (.tmp 56) 23 9 (.string ⟨#[]⟩) 16 rfl Tryz.underlying23 info9 rfl (by decide) (by omega) aaL Wj anp _ _ _ (fun k_=>some k_≠(.slice ayf anp.length ayg:Value).ownBlock) (fun _=>False) rfl rfl ?aO ?aR (fun _ _ h=>h) (fun _ h=>h.elim) ?aF ?aB ?aS ?aL ?_;(case aR=>repeat(first|exact(Kd.aK aaM.out).2.2|(with_reducible refine Kd.mP ?_ _)|(with_reducible refine Kd.mQ ?_ _)|(with_reducible refine Kd.qE ?_)));(case aB=>exact bb);(case aF=>exact(fun k_ hk=>Kd.fresh' (Kd.jM (ur aaM.out)) k_ hk));(case aO=>exact(ur (Kd.aW qQ.out (fun _ hk=>hk.2))));(case aS=>exact(aj bb));(case aL=>have:=ajd.out;omega);intro aMD w27 ho hb hg hat;rw[←apN.out]at ho;have ayh:=ak (ho);replace LU:=ak (Kd.aew (ok:=(fun k_=>some k_≠(.slice ayf anp.length ayg:Value).ownBlock)) (by(with_reducible repeat(first|apply Kd.vw|apply Kd.vC|apply Kd.yQ));exact Kd.G5 LU.out (fun _ hk=>⟨hk.2,hk.1⟩)) hg hat);replace pJ:=ak (bD (g:=UN) (o:= .cells #[.slice gQ bg.length gU, .slice f_ bf.length gu, .slice eP aA.length dI] 28 (0,0)) (ub pJ.out) hg (Kd.pz qQ.out pJ.out (by decide)));replace aaM:=ak (Kd.Ag (ok:=(fun _=>True)) (ur aaM.out) hg hat);replace HB:=ak (hb);clear ho hb hg hat qQ))
     go_ret;exact⟨_,er,ur (Kd.aW ayh.out (fun _ hk=>trivial)),bb⟩
 ·replace H:=nl H;obtain⟨ayi,H⟩:=H;obtain⟨aME,apO⟩:=nm (Wj++bf);rw[←apO.out]at H;obtain rfl:=s1 H;go_enter Tryz.func67,Tryz.ntmps67;go_wp2_with (first|(refine bX HB 1 #[.slice gQ bg.length gU, .slice f_ bf.length gu, .slice eP aA.length dI] 28 ?_;intro UN w30 pJ ayb hb;replace HB:=bs HB hb;clear hb;have z31:=iQ pJ.out)|(refine gV Tryz.func107 (ji.calls (cu (Kd.aI pG.out HB.out)) qy.out A2.out) ?_;rintro as8 w32 ⟨ho0,hb⟩;have UO:=ak (Kd.aG ho0 (aj bb));replace pJ:=kb pJ hb;replace HB:=bz HB hb;clear hb;(try clear ho0))|((with_reducible refine dR (b:= .append) (xs:=#[.tmp 17, .tmp 18]) rfl ?_);at_builtin;refine Kd.qX Kd.string (w0:=w) w.heap.size rfl (.tmp 17) (.tmp 18) 23 9 (.string ⟨#[]⟩) 16 rfl Tryz.underlying23 info9 rfl (by decide) (by omega) as8 aya (⟨#[]⟩:ByteArray) [.string (⟨#[]⟩:ByteArray)] (fun _=>True) (fun _=>False) rfl rfl ?aP (fun _ hk=>hk.elim) ?aF ?aO ?aB ?aS ?aL ?_;(case aP=>exact rfl);(case aB=>exact bb);(case aF=>exact(fun _ _=>trivial));(case aO=>exact(ur UO.out));(case aS=>exact(aj bb));(case aL=>have:=agY.out;omega);intro aaL w33 ho hb hg hat;rw[←apL.out]at ho;have Ip:=ak (ho);replace pJ:=ak (bD (g:=UN) (o:= .cells #[.slice gQ bg.length gU, .slice f_ bf.length gu, .slice eP aA.length dI] 28 (0,0)) (ub pJ.out) hg (Kd.pz UO.out pJ.out (by decide)));replace HB:=ak (hb);clear ho hb hg hat UO;have z34:=iQ pJ.out)|(refine gB Tryz.func108 (kW.calls (cu (Kd.aI pG.out HB.out)) qy.out A4.out) ?_;intro w35 hb;replace Ip:=rb Ip hb;replace pJ:=kb pJ hb;replace HB:=bz HB hb;clear hb;have z36:=iQ pJ.out)|((with_reducible refine dR (b:= .append) (xs:=#[.tmp 28, .tmp 30]) rfl ?_);at_builtin;refine Kd.pU Kd.string (w0:=w) w.heap.size rfl (.tmp 28) (.tmp 30) 23 9 (.string ⟨#[]⟩) 16 rfl Tryz.underlying23 info9 rfl (by decide) (by omega) aaL Wj bf _ _ _ (fun _=>True) (fun _=>False) rfl rfl ?aO ?aR (fun _ _ h=>h) (fun _ h=>h.elim) ?aF ?aB ?aS ?aL ?_;(case aR=>repeat(first|exact(Kd.aI sD.out HB.out)|(with_reducible refine Kd.mP ?_ _)|(with_reducible refine Kd.mQ ?_ _)|(with_reducible refine Kd.qE ?_)));(case aB=>exact bb);(case aF=>exact(fun _ _=>trivial));(case aO=>exact(ur Ip.out));(case aS=>exact(aj bb));(case aL=>have:=ayi.out;omega);intro aMF w37 ho hb hg hat;rw[←apO.out]at ho;have ayj:=ak (ho);replace pJ:=ak (bD (g:=UN) (o:= .cells #[.slice gQ bg.length gU, .slice f_ bf.length gu, .slice eP aA.length dI] 28 (0,0)) (ub pJ.out) hg (Kd.pz Ip.out pJ.out (by decide)));replace HB:=ak (hb);clear ho hb hg hat Ip))
  go_ret;exact⟨_,er,ur ayj.out,bb⟩
mutual
def iZ.l0:Nat→List ByteArray→Int→Option (Bool)
 |0,_,_=>none
 |k+1,x0,x3=>if x3<(x0.length:Int)then(iZ.j1 k x0 x3 (decide (x3≤30)))else(iZ.j1 k x0 x3 false)
def iZ.j1:Nat→List ByteArray→Int→Bool→Option (Bool)
 |0,_,_,_=>none
 |k+1,x0,x3,x11=>if x11=true then(if 0≤x3 then(if x3<(x0.length:Int)then((aQ.f k (qH ByteArray.empty x0 x3)).bind fun ayk=>(if ayk=true then(iZ.l0 k x0 (wrap64 (x3+1)))else(some false)))else(none))else(none))else(some (decide ((x0.length:Int)≤30)))
end
def iZ.f (k:Nat) (l0:List ByteArray):Option (Bool):=iZ.l0 k l0 0
theorem iZ.calls {k c0:Nat} {A0:Option Addr} {l0:List ByteArray} {r:Bool} {w:World} (hr0:Kd.C Kd.string w A0 l0.length l0) (hc0:l0.length≤c0) (h:iZ.f k l0=some r):
  Calls Tryz.prog 114 #[.slice A0 l0.length c0] w fun e w'=>e= .returned (.bool r)∧dO w w':=by
 have HR0:=ak hr0;have zH:=ak hc0;clear hr0 hc0;unfold iZ.f at h;have H:=h;clear h;have H':=ak H;clear H;go_enter Tryz.func114,Tryz.ntmps114;go_wp2;go_loopg [3] k (fun kq v3 w'=>∃(dV:Int),v3= .int .i64 dV∧ah (iZ.l0 kq l0 dV=some r)∧ah (kq≤k)∧dO w w')
 case atStart=>exact⟨_,rs,H',⟨Nat.le_refl _⟩,dn⟩
 case round=>
  clear H';obtain⟨dV,rfl,HA,xK,⟨m1,rfl⟩⟩:=hrel
  cases gk with
  |zero=>exact zz HA.out
  |succ k1=>
   obtain⟨H⟩:=HA;simp only[iZ.l0]at H;have HC2:=ak H;clear H;go_upto_region 2 with(fail)
   go_cut [11] (fun v11 wc=>∃(kq:Nat) (xR:Bool),v11= .bool xR∧ah (iZ.j1 kq l0 dV xR=some r)∧ah (kq≤k1)∧dO w wc)
   case first=>
    have H:=HC2.out;clear HC2;replace H:=sd H;rcases H with⟨iW,H⟩|⟨iW,H⟩
    ·(first|rw[iW]|(simp only[jo,lg];rw[iW])|skip);have H':=ak H;clear H;go_wp2;go_meet
     case rel=>exact⟨_,_,rs,H',⟨kl⟩,dn⟩
    ·(first|rw[iW]|(simp only[jo,lg];rw[iW])|skip);have H':=ak H;clear H;go_wp2;go_meet
     case rel=>exact⟨_,_,rs,H',⟨kl⟩,dn⟩
   case rest=>
    clear HC2;obtain⟨kq,xR,rfl,HA,HJ1,⟨mc1,rfl⟩⟩:=hcut
    cases kq with
    |zero=>exact zz HA.out
    |succ SA=>
     obtain⟨H⟩:=HA;simp only[iZ.j1]at H;replace H:=sb H;rcases H with⟨rfl,H⟩|⟨rfl,H⟩
     ·replace H:=oL H;obtain⟨oz,H⟩:=H;replace H:=oL H;obtain⟨pF,H⟩:=H;replace H:=bd H;obtain⟨ayk,A7,H⟩:=H;replace H:=sb H;rcases H with⟨rfl,H⟩|⟨rfl,H⟩
      ·have H':=ak H;clear H;have acO:=zi dV;have acP:=zj dV l0.length;obtain⟨ayl,atb,anq⟩:=Kd.jT HR0.out dV acO acP;cases atb;replace acO:=eq_true acO;replace acP:=eq_true acP;go_wp2_with (refine gA Tryz.func159 (aQ.calls A7.out) ?_;intro nd)
       go_roundg SA
       case measure=>exact kl
       case rel=>exact⟨_,rs,H',⟨kl⟩,dn⟩
      ·obtain rfl:=s1 H;have acO:=zi dV;have acP:=zj dV l0.length;obtain⟨ayl,atb,anq⟩:=Kd.jT HR0.out dV acO acP;cases atb;replace acO:=eq_true acO;replace acP:=eq_true acP;go_wp2_with (refine gA Tryz.func159 (aQ.calls A7.out) ?_;intro nd)
       go_ret;exact⟨rs,dn⟩
     ·obtain rfl:=s1 H;go_wp2;go_ret;exact⟨rs,dn⟩
mutual
def bH.j0:Nat→Int→Bool→List (fP)→List ByteArray→List (jV)→Option (Bool)
 |0,_,_,_,_,_=>none
 |k+1,x1,x17,Ap,y7,rP=>if x17=true then(some false)else((kW.f k Ap).bind fun ae8=>(if ae8.2=true then(if(y7.length:Int)>0 then(bH.j1 k x1 ae8.1 true Ap y7 rP)else(if(rP.length:Int)<1 then(bH.j1 k x1 ae8.1 true Ap y7 rP)else(bH.j1 k x1 ae8.1 (decide ((rP.length:Int)>4)) Ap y7 rP)))else(if(rP.length:Int)=0 then((iZ.f k y7).bind fun aym=>(some aym))else(some false))))
def bH.j1:Nat→Int→ByteArray→Bool→List (fP)→List ByteArray→List (jV)→Option (Bool)
 |0,_,_,_,_,_,_=>none
 |k+1,x1,x5,x50,Ap,y7,rP=>if x50=true then(some false)else(bH.l0 k x1 x5 0 Ap y7 rP)
def bH.l0:Nat→Int→ByteArray→Int→List (fP)→List ByteArray→List (jV)→Option (Bool)
 |0,_,_,_,_,_,_=>none
 |k+1,x1,x5,x7,Ap,y7,rP=>if x7<(rP.length:Int)then(if 0≤x7 then((bH.f k ((au rP x7).f0) ((au rP x7).f1) ((au rP x7).f2) (wrap64 (x1-1))).bind fun ayn=>(if ayn=true then((jQ.f k ((au rP x7).f0) ((au rP x7).f1) ((au rP x7).f2)).bind fun acQ=>(bH.l1 k x1 x5 x7 acQ 0 Ap y7 rP))else(some false)))else(none))else(some true)
def bH.l1:Nat→Int→ByteArray→Int→List ByteArray→Int→List (fP)→List ByteArray→List (jV)→Option (Bool)
 |0,_,_,_,_,_,_,_,_=>none
 |k+1,x1,x5,x7,x8,x9,Ap,y7,rP=>if x9<(x8.length:Int)then(if 0≤x9 then((qg.f (qH ByteArray.empty x8 x9) x5).bind fun ayo=>(if ayo=true then(some false)else(bH.l1 k x1 x5 x7 x8 (wrap64 (x9+1)) Ap y7 rP)))else(none))else(bH.l0 k x1 x5 (wrap64 (x7+1)) Ap y7 rP)
def bH.f:Nat→List (fP)→List ByteArray→List (jV)→Int→Option (Bool)
 |0,_,_,_,_=>none
 |k+1,bg,bf,aA,a1=>(ig.f k bg).bind fun ayp=>(if ayp=true then(bH.j0 k a1 (decide (a1<1)) bg bf aA)else(bH.j0 k a1 true bg bf aA))
end
theorem bH.calls (k:Nat):∀(gQ:Option Addr) (gU:Nat) (bg:List (fP)) (f_:Option Addr) (gu:Nat) (bf:List ByteArray) (eP:Option Addr) (dI:Nat) (aA:List (jV)) (a1:Int) (r:Bool) (w:World) (lI:Kd.C ou w gQ bg.length bg) (lJ:bg.length≤gU) (lK:Kd.C Kd.string w f_ bf.length bf) (lM:bf.length≤gu) (jF:Kd.C k28 w eP aA.length aA) (jG:aA.length≤dI) (h:bH.f k bg bf aA a1=some r),
  Calls Tryz.prog 72 #[.agg #[.slice gQ bg.length gU, .slice f_ bf.length gu, .slice eP aA.length dI], .int .i64 a1] w fun e w'=>e= .returned (.bool r)∧Below w.heap.size w w':=by
 induction k using Nat.strongRecOn with
 |_ k ih=>
 intro gQ gU bg f_ gu bf eP dI aA a1 r w lI lJ lK lM jF jG h
 cases k with
 |zero=>exact absurd h (by simp[bH.f])
 |succ k=>
 simp only[bH.f]at h;have Dq:=Tryz.underlying28;have pG:=ak lI;have qy:=ak lJ;clear lI lJ;have sD:=ak lK;have uV:=ak lM;clear lK lM;have jK:=ak jF;have mV:=ak jG;clear jF jG;have HB:=ak (Below.refl w.heap.size w);have H:=h;clear h;have Uk:=ak H;clear H;go_enter Tryz.func72,Tryz.ntmps72;go_upto_region 1 with(refine gG 2 ?_;refine bX HB 2 #[.slice gQ bg.length gU, .slice f_ bf.length gu, .slice eP aA.length dI] 28 ?_;intro ae9 w4 oI aIs hb;replace HB:=bs HB hb;clear hb)
 (try simp only[Act.put,zW,zX,l_c]);go_cut [17] (fun v17 wc=>∃(kq:Nat) (UJ:Bool),v17= .bool UJ∧ah (bH.j0 kq a1 UJ bg bf aA=some r)∧ah (kq≤k)∧ah (wc.heap[ae9]? =some (.cells #[(.slice gQ bg.length gU),(.slice f_ bf.length gu),(.slice eP aA.length dI)] 28 (0,0)))∧ah (Below w.heap.size w wc))
 case first=>
  have H:=Uk.out;clear Uk;replace H:=bd H;obtain⟨ayp,A5,H⟩:=H;replace H:=sb H;rcases H with⟨rfl,H⟩|⟨rfl,H⟩
  ·have H':=ak H;clear H;have z7:=iQ oI.out;go_wp2_with (refine gB Tryz.func113 (ig.calls (cu (Kd.aI pG.out HB.out)) qy.out A5.out) ?_;intro w8 hb;replace oI:=kb oI hb;replace HB:=bz HB hb;clear hb)
   go_meet
   case rel=>exact⟨_,_,rs,H',⟨Qa⟩,⟨ub oI.out⟩,⟨bb⟩⟩
  ·have H':=ak H;clear H;have z9:=iQ oI.out;go_wp2_with (refine gB Tryz.func113 (ig.calls (cu (Kd.aI pG.out HB.out)) qy.out A5.out) ?_;intro w10 hb;replace oI:=kb oI hb;replace HB:=bz HB hb;clear hb)
   go_meet
   case rel=>exact⟨_,_,rs,H',⟨Qa⟩,⟨ub oI.out⟩,⟨bb⟩⟩
 case rest=>
  clear Uk;obtain⟨kq,UJ,rfl,HA,HJ2,oI,HB⟩:=hcut
  cases kq with
  |zero=>exact zz HA.out
  |succ kj2=>
   obtain⟨H⟩:=HA;simp only[bH.j0]at H;replace H:=sb H;rcases H with⟨rfl,H⟩|⟨rfl,H⟩
   ·obtain rfl:=s1 H;go_wp2;go_ret;exact⟨er,bb⟩
   ·replace H:=bd H;obtain⟨⟨atc,aMG⟩,A12,H⟩:=H
    (try dsimp only at H);replace H:=sb H;rcases H with⟨rfl,H⟩|⟨rfl,H⟩
    ·have atd:=ak H;clear H;have z15:=iQ oI.out;go_upto_region 6 with(refine gB Tryz.func108 (kW.calls (cu (Kd.aI pG.out HB.out)) qy.out A12.out) ?_;intro w16 hb;replace oI:=kb oI hb;replace HB:=bz HB hb;clear hb)
     (try simp only[Act.put,zW,zX,l_c]);go_cut [50] (fun v50 wc=>∃(kq:Nat) (acR:Bool),v50= .bool acR∧ah (bH.j1 kq a1 atc acR bg bf aA=some r)∧ah (kq≤kj2)∧ah (wc.heap[ae9]? =some (.cells #[(.slice gQ bg.length gU),(.slice f_ bf.length gu),(.slice eP aA.length dI)] 28 (0,0)))∧ah (Below w.heap.size w wc))
     case first=>
      have H:=atd.out;clear atd;replace H:=sp H;rcases H with⟨c17,H⟩|⟨c17,H⟩
      ·have vX:decide (0<(bf.length:Int))=true:=decide_eq_true c17;have Ro:decide (0<bf.length)=true:=decide_eq_true (by omega);clear c17
       (first|rw[vX]|(simp only[jo,lg];rw[vX])|skip);have H':=ak H;clear H;have z18:=iQ oI.out;go_wp2;go_meet
       case rel=>exact⟨_,_,rs,H',⟨kl⟩,⟨ub oI.out⟩,⟨bb⟩⟩
      ·have vX:decide (0<(bf.length:Int))=false:=decide_eq_false c17;have Ro:decide (0<bf.length)=false:=decide_eq_false (by omega);clear c17
       (first|rw[vX]|(simp only[jo,lg];rw[vX])|skip);replace H:=sp H;rcases H with⟨c19,H⟩|⟨c19,H⟩
       ·have D_:=decide_eq_true c19;have Ij:decide (aA.length<1)=true:=decide_eq_true (by omega);clear c19;have H':=ak H;clear H;have z20:=iQ oI.out;go_wp2;go_meet
        case rel=>exact⟨_,_,rs,H',⟨kl⟩,⟨ub oI.out⟩,⟨bb⟩⟩
       ·have D_:=decide_eq_false c19;have Ij:decide (aA.length<1)=false:=decide_eq_false (by omega);clear c19;have H':=ak H;clear H;have z21:=iQ oI.out;go_wp2;go_meet
        case rel=>exact⟨_,_,rs,H',⟨kl⟩,⟨ub oI.out⟩,⟨bb⟩⟩
     case rest=>
      clear atd;obtain⟨kq,acR,rfl,HA,ahd,oI,HB⟩:=hcut
      cases kq with
      |zero=>exact zz HA.out
      |succ ayq=>
       obtain⟨H⟩:=HA;simp only[bH.j1]at H;replace H:=sb H;rcases H with⟨rfl,H⟩|⟨rfl,H⟩
       ·obtain rfl:=s1 H;go_wp2;go_ret;exact⟨er,bb⟩
       ·have H':=ak H;clear H;go_wp2;go_loopg [7] ayq (fun kq v7 w'=>∃(r_:Int),v7= .int .i64 r_∧ah (bH.l0 kq a1 atc r_ bg bf aA=some r)∧ah (kq≤ayq)∧ah (w'.heap[ae9]? =some (.cells #[(.slice gQ bg.length gU),(.slice f_ bf.length gu),(.slice eP aA.length dI)] 28 (0,0)))∧ah (Below w.heap.size w w'))
        case atStart=>exact⟨_,rs,H',⟨Nat.le_refl _⟩,⟨ub oI.out⟩,⟨bb⟩⟩
        case round=>
         clear H';obtain⟨r_,rfl,HA,HK3,oI,HB⟩:=hrel
         cases gk with
         |zero=>exact zz HA.out
         |succ k3=>
          obtain⟨H⟩:=HA;simp only[bH.l0]at H;replace H:=sd H;rcases H with⟨CZ,H⟩|⟨CZ,H⟩
          ·replace H:=oL H;obtain⟨Us,H⟩:=H;replace H:=bd H;obtain⟨ayn,A25,H⟩:=H;replace H:=sb H;rcases H with⟨rfl,H⟩|⟨rfl,H⟩
           ·replace H:=bd H;obtain⟨acQ,A27,H⟩:=H;have H':=ak H;clear H;have aiB:=iQ oI.out;have aaN:=zi r_;have aaO:=zj r_ aA.length;obtain⟨ajE,ate,atf,atg,ath,ati,atj,atl,JY,JZ,J3,OD,OE,OG,OH,OI,OJ⟩:=xM jK.out r_ aaN aaO;cases atl;replace JY:=cl HB.out JY;replace JZ:=cl HB.out JZ;replace J3:=cl HB.out J3;have YK:=ak OE;have YL:=ak OD;clear OE OD;have YM:=ak OH;have YN:=ak OG;clear OH OG;have YO:=ak OJ;have YP:=ak OI;clear OJ OI;replace aaN:=eq_true aaN;replace aaO:=eq_true aaO;go_wp2_with (first|(refine gB Tryz.func72 (ih k3 (by have:=HJ2.out;have:=ahd.out;have:=HK3.out;omega) _ _ ((au aA r_).f0) _ _ ((au aA r_).f1) _ _ ((au aA r_).f2) (wrap64 (a1-1)) true _ (cu (Kd.aI YK.out HB.out)) YL.out (cu (Kd.aI YM.out HB.out)) YN.out (cu (Kd.aI YO.out HB.out)) YP.out A25.out) ?_;intro w29 hb;replace oI:=kb oI hb;replace HB:=bz HB hb;clear hb;have z30:=iQ oI.out;have anr:0≤(r_:Int):=of_decide_eq_true (by assumption);have ant:r_<(aA.length:Int):=of_decide_eq_true (by assumption);obtain⟨ayr,aFj,aFk,aFl,aFm,aFo,aFp,aFq,TB,TD,TF,ae_,afa,afb,afc,afd,afe⟩:=xM jK.out r_ anr ant;obtain rfl:ajE=ayr:=(by injection aFq);replace TB:=(HB.out.cell (World.block_lt_of_cell? w _ TB)).trans TB;replace TD:=(HB.out.cell (World.block_lt_of_cell? w _ TD)).trans TD;replace TF:=(HB.out.cell (World.block_lt_of_cell? w _ TF)).trans TF;have anu:=ak afa;have anv:=ak ae_;clear afa ae_;have anw:=ak afc;have anx:=ak afb;clear afc afb;have anz:=ak afe;have anA:=ak afd;clear afe afd;replace anr:=eq_true anr;replace ant:=eq_true ant)|(refine gV Tryz.func67 (jQ.calls k3 _ _ ((au aA r_).f0) _ _ ((au aA r_).f1) _ _ ((au aA r_).f2) acQ _ (cu (Kd.aI anu.out HB.out)) anv.out (cu (Kd.aI anw.out HB.out)) anx.out (cu (Kd.aI anz.out HB.out)) anA.out A27.out) ?_;rintro aFr w31 ⟨ho0,hb⟩;have ays:=ak (Kd.aG ho0 (aj bb));replace oI:=kb oI hb;replace HB:=bz HB hb;clear hb;(try clear ho0)))
            go_loopg [9] k3 (fun kq v9 w'=>∃(YQ:Int),v9= .int .i64 YQ∧ah (bH.l1 kq a1 atc r_ acQ YQ bg bf aA=some r)∧ah (kq≤k3)∧ah (Kd.R Kd.string 9 w' w.heap.size (fun _=>True) aFr acQ)∧ah (w'.heap[ae9]? =some (.cells #[(.slice gQ bg.length gU),(.slice f_ bf.length gu),(.slice (some ajE) aA.length dI)] 28 (0,0)))∧ah (Below w.heap.size w w'))
            case atStart=>exact⟨_,rs,H',⟨Nat.le_refl _⟩,⟨ur ays.out⟩,⟨ub oI.out⟩,⟨bb⟩⟩
            case round=>
             clear H';try clear CZ
             try clear Us
             try clear JY
             try clear JZ
             try clear J3
             try clear TB
             try clear TD
             try clear TF
             try clear aaN
             try clear anr
             try clear aaO
             try clear ant
             obtain⟨YQ,rfl,HA,HK4,ahe,oI,HB⟩:=hrel
             cases gk with
             |zero=>exact zz HA.out
             |succ k4=>
              obtain⟨H⟩:=HA;simp only[bH.l1]at H;replace H:=sd H;rcases H with⟨aaC,H⟩|⟨aaC,H⟩
              ·replace H:=oL H;obtain⟨WY,H⟩:=H;replace H:=bd H;obtain⟨ayo,A34,H⟩:=H;replace H:=sb H;rcases H with⟨rfl,H⟩|⟨rfl,H⟩
               ·obtain rfl:=s1 H;obtain⟨aaP,aaQ,Wn⟩:=Kd.aH ahe.out;subst Wn;have acS:=zi YQ;have acT:=zj YQ acQ.length;obtain⟨ayt,atm,anB⟩:=Kd.jT (Kd.aK ahe.out).2.2 YQ acS acT;cases atm;replace acS:=eq_true acS;replace acT:=eq_true acT;go_wp2_with (refine gA Tryz.func115 (qg.calls A34.out) ?_;intro nd)
                go_ret;exact⟨er,bb⟩
               ·have H':=ak H;clear H;obtain⟨ag2,ag3,Yj⟩:=Kd.aH ahe.out;subst Yj;have acS:=zi YQ;have acT:=zj YQ acQ.length;obtain⟨ayt,atm,anB⟩:=Kd.jT (Kd.aK ahe.out).2.2 YQ acS acT;cases atm;replace acS:=eq_true acS;replace acT:=eq_true acT;go_wp2_with (refine gA Tryz.func115 (qg.calls A34.out) ?_;intro nd)
                go_roundg k4
                case measure=>have:=HJ2.out;have:=ahd.out;have:=HK3.out;have:=HK4.out;omega
                case rel=>exact⟨_,rs,H',⟨by have:=HJ2.out;have:=ahd.out;have:=HK3.out;have:=HK4.out;omega⟩,⟨ur ahe.out⟩,⟨ub oI.out⟩,⟨bb⟩⟩
              ·have H':=ak H;clear H;obtain⟨atn,ato,ahf⟩:=Kd.aH ahe.out;subst ahf;go_wp2;go_roundg k4
               case measure=>have:=HJ2.out;have:=ahd.out;have:=HK3.out;have:=HK4.out;omega
               case rel=>exact⟨_,rs,H',⟨by have:=HJ2.out;have:=ahd.out;have:=HK3.out;have:=HK4.out;omega⟩,⟨ub oI.out⟩,⟨bb⟩⟩
           ·obtain rfl:=s1 H;have z39:=iQ oI.out;have aaN:=zi r_;have aaO:=zj r_ aA.length;obtain⟨ajE,ate,atf,atg,ath,ati,atj,atl,JY,JZ,J3,OD,OE,OG,OH,OI,OJ⟩:=xM jK.out r_ aaN aaO;cases atl;replace JY:=cl HB.out JY;replace JZ:=cl HB.out JZ;replace J3:=cl HB.out J3;have YK:=ak OE;have YL:=ak OD;clear OE OD;have YM:=ak OH;have YN:=ak OG;clear OH OG;have YO:=ak OJ;have YP:=ak OI;clear OJ OI;replace aaN:=eq_true aaN;replace aaO:=eq_true aaO;go_wp2_with (refine gB Tryz.func72 (ih k3 (by have:=HJ2.out;have:=ahd.out;have:=HK3.out;omega) _ _ ((au aA r_).f0) _ _ ((au aA r_).f1) _ _ ((au aA r_).f2) (wrap64 (a1-1)) false _ (cu (Kd.aI YK.out HB.out)) YL.out (cu (Kd.aI YM.out HB.out)) YN.out (cu (Kd.aI YO.out HB.out)) YP.out A25.out) ?_;intro w40 hb;replace oI:=kb oI hb;replace HB:=bz HB hb;clear hb)
            go_ret;exact⟨er,bb⟩
          ·obtain rfl:=s1 H;have ar0:=iQ oI.out;go_wp2;go_ret;exact⟨er,bb⟩
    ·replace H:=sp H;rcases H with⟨c42,H⟩|⟨c42,H⟩
     ·have ayu:=beq_iff_eq.mpr c42;have ayv:=bne_eq_false_iff_eq.mpr c42;clear c42;replace H:=bd H;obtain⟨aym,A43,H⟩:=H;obtain rfl:=s1 H;have axn:=iQ oI.out;go_wp2_with (first|(refine gB Tryz.func108 (kW.calls (cu (Kd.aI pG.out HB.out)) qy.out A12.out) ?_;intro w45 hb;replace oI:=kb oI hb;replace HB:=bz HB hb;clear hb;have z46:=iQ oI.out)|(go_at_call 114;refine mA (iZ.calls (cu (Kd.aI sD.out HB.out)) uV.out A43.out) ?_;intro nd))
      go_ret;exact⟨er,bb⟩
     ·have ayu:=beq_eq_false_iff_ne.mpr c42;have ayv:=bne_iff_ne.mpr c42;have aIt:¬(aA=[]):=fun h_=>c42 (by rw[h_];rfl)
      obtain rfl:=s1 H;have z47:=iQ oI.out;go_wp2_with (refine gB Tryz.func108 (kW.calls (cu (Kd.aI pG.out HB.out)) qy.out A12.out) ?_;intro w48 hb;replace oI:=kb oI hb;replace HB:=bz HB hb;clear hb;have z49:=iQ oI.out)
      go_ret;exact⟨er,bb⟩
def qY.f (k:Nat) (bg:List (fP)) (bf:List ByteArray) (aA:List (jV)):Option (Bool):=(bH.f k bg bf aA 3).bind fun atp=>(some atp)
theorem qY.calls {k gU gu dI:Nat} {gQ f_ eP:Option Addr} {bg:List (fP)} {bf:List ByteArray} {aA:List (jV)} {r:Bool} {w:World} (lI:Kd.C ou w gQ bg.length bg) (lJ:bg.length≤gU) (lK:Kd.C Kd.string w f_ bf.length bf) (lM:bf.length≤gu) (jF:Kd.C k28 w eP aA.length aA) (jG:aA.length≤dI) (h:qY.f k bg bf aA=some r):
  Calls Tryz.prog 30 #[.agg #[.slice gQ bg.length gU, .slice f_ bf.length gu, .slice eP aA.length dI]] w fun e w'=>e= .returned (.bool r)∧Below w.heap.size w w':=by
 have Dq:=Tryz.underlying28;have pG:=ak lI;have qy:=ak lJ;clear lI lJ;have sD:=ak lK;have uV:=ak lM;clear lK lM;have jK:=ak jF;have mV:=ak jG;clear jF jG;have HB:=ak (Below.refl w.heap.size w);unfold qY.f at h;have H:=h;clear h;replace H:=bd H;obtain⟨atp,A2,H⟩:=H;obtain rfl:=s1 H;go_enter Tryz.func30,Tryz.ntmps30;go_wp2_with (first|(refine bX HB 1 #[.slice gQ bg.length gU, .slice f_ bf.length gu, .slice eP aA.length dI] 28 ?_;intro aIu w3 ajF aIv hb;replace HB:=bs HB hb;clear hb;have z4:=iQ ajF.out)|(refine gB Tryz.func72 (bH.calls k _ _ bg _ _ bf _ _ aA 3 atp _ (cu (Kd.aI pG.out HB.out)) qy.out (cu (Kd.aI sD.out HB.out)) uV.out (cu (Kd.aI jK.out HB.out)) mV.out A2.out) ?_;intro w5 hb;replace ajF:=kb ajF hb;replace HB:=bz HB hb;clear hb))
 go_ret;exact⟨er,bb⟩
end Go.Proofs.YtncdadcmghglkaaGreatDoor.PFnPartAt
