/- Printed walks; conditions: those in each statement. -/
import Derived.Test.YtncdadcmghglkaaGreatDoorVFnExactFormatPartQt
import Derived.Test.YtncdadcmghglkaaGreatDoorVFnExactFormatPartYt
import Derived.Test.YtncdadcmghglkaaGreatDoorPFnExactFormatPartx0
import Derived.Test.YtncdadcmghglkaaGreatDoorPFnExactFormatPartx12
import Derived.Test.YtncdadcmghglkaaGreatDoorPFnExactFormatPartx17
import Derived.Test.YtncdadcmghglkaaGreatDoorPFnExactFormatPartx18
namespace Go.Proofs.YtncdadcmghglkaaGreatDoor.PFnExactFormatPart
open Go.RowKit Go.Proofs.YtncdadcmghglkaaGreatDoor.X Go.Proofs.YtncdadcmghglkaaGreatDoorW.dB Go.Proofs.YtncdadcmghglkaaGreatDoorW.iy Go.Proofs.YtncdadcmghglkaaGreatDoorW.jo
attribute [local go_sem] lU lV oh oq kJ kK lW lX   -- for this text's walks alone
set_option linter.unusedVariables false
set_option linter.unusedSimpArgs false
mutual
def bD.j0:Nat→Int→Bool→List (jl)→List ByteArray→List (pq)→Option (Bool)
 |0,_,_,_,_,_=>none
 |k+1,x1,x17,vU,uI,nO=>if x17=true then(some false)else((jE.f k vU).bind fun aak=>(if aak.2=true then(if(uI.length:Int)>0 then(bD.j1 k x1 aak.1 true vU uI nO)else(if(nO.length:Int)<1 then(bD.j1 k x1 aak.1 true vU uI nO)else(bD.j1 k x1 aak.1 (decide ((nO.length:Int)>4)) vU uI nO)))else(if(nO.length:Int)=0 then((iq.f k uI).bind fun alR=>(some alR))else(some false))))
def bD.j1:Nat→Int→ByteArray→Bool→List (jl)→List ByteArray→List (pq)→Option (Bool)
 |0,_,_,_,_,_,_=>none
 |k+1,x1,x5,x50,vU,uI,nO=>if x50=true then(some false)else(bD.l0 k x1 x5 0 vU uI nO)
def bD.l0:Nat→Int→ByteArray→Int→List (jl)→List ByteArray→List (pq)→Option (Bool)
 |0,_,_,_,_,_,_=>none
 |k+1,x1,x5,x7,vU,uI,nO=>if x7<(nO.length:Int)then(if 0≤x7 then((bD.f k ((bn nO x7).f0) ((bn nO x7).f1) ((bn nO x7).f2) (wrap64 (x1-1))).bind fun apF=>(if apF=true then((fV.f k ((bn nO x7).f0) ((bn nO x7).f1) ((bn nO x7).f2)).bind fun Ph=>(bD.l1 k x1 x5 x7 Ph 0 vU uI nO))else(some false)))else(none))else(some true)
def bD.l1:Nat→Int→ByteArray→Int→List ByteArray→Int→List (jl)→List ByteArray→List (pq)→Option (Bool)
 |0,_,_,_,_,_,_,_,_=>none
 |k+1,x1,x5,x7,x8,x9,vU,uI,nO=>if x9<(x8.length:Int)then(if 0≤x9 then((ni.f (kV ByteArray.empty x8 x9) x5).bind fun apG=>(if apG=true then(some false)else(bD.l1 k x1 x5 x7 x8 (wrap64 (x9+1)) vU uI nO)))else(none))else(bD.l0 k x1 x5 (wrap64 (x7+1)) vU uI nO)
def bD.f:Nat→List (jl)→List ByteArray→List (pq)→Int→Option (Bool)
 |0,_,_,_,_=>none
 |k+1,bM,cZ,aC,a1=>(eP.f k bM).bind fun ahl=>(if ahl=true then(bD.j0 k a1 (decide (a1<1)) bM cZ aC)else(bD.j0 k a1 true bM cZ aC))
end
set_option maxHeartbeats 8000000 in
set_option maxRecDepth 100000 in
theorem bD.calls(k:Nat):∀(gW:Option Addr) (gX:Nat) (bM:List (jl)) (iM:Option Addr) (iO:Nat) (cZ:List ByteArray) (fF:Option Addr) (dR:Nat) (aC:List (pq)) (a1:Int) (r:Bool) (w:World) (mG:Kd.C pV w gW bM.length bM) (mJ:bM.length≤gX) (mM:Kd.C Kd.string w iM cZ.length cZ) (mO:cZ.length≤iO) (jL:Kd.C k28 w fF aC.length aC) (jM:aC.length≤dR) (h:bD.f k bM cZ aC a1=some r),
  Calls Tryz.prog 72 #[.agg #[.slice gW bM.length gX, .slice iM cZ.length iO, .slice fF aC.length dR], .int .i64 a1] w fun e w'=>e= .returned (.bool r)∧Below w.heap.size w w':=by
 induction k using Nat.strongRecOn with
 |_ k ih=>
 intro gW gX bM iM iO cZ fF dR aC a1 r w mG mJ mM mO jL jM h
 cases k with
 |zero=>exact absurd h (by simp[bD.f])
 |succ k=>
 simp only[bD.f]at h;have Na:=Tryz.underlying28;have lY:=ak mG;have lZ:=ak mJ;clear mG mJ;have oQ:=ak mM;have qh:=ak mO;clear mM mO;have jc:=ak jL;have kC:=ak jM;clear jL jM;have HB:=ak (Below.refl w.heap.size w);have H:((eP.f k bM).bind fun ahl=>(if ahl=true then(bD.j0 k a1 (decide (a1<1)) bM cZ aC)else(bD.j0 k a1 true bM cZ aC)))=some r:=h;clear h;have XJ:=ak H;clear H;go_enter Tryz.func72,Tryz.ntmps72;go_upto_region 1 with(first|(refine bU (N:=2) rfl ?_;(try(refine aZ (by rfl) ?_;dsimp only));refine bE 2 #[.slice gW bM.length gX, .slice iM cZ.length iO, .slice fF aC.length dR] 28 ?_;intro aal hg w4 hbox hb;have kY:=ak (hbox);have aw7:=jY HB hg;have aw8:=jY HB hg;replace HB:=bs HB hb;clear hb hbox hg))
 (try simp only[Act.put,jI,jJ,l_c]);go_cut [17] (fun v17 wc=>∃(kq:Nat) (O7:Bool),v17= .bool O7∧ah (bD.j0 kq a1 O7 bM cZ aC=some r)∧ah (kq≤k)∧ah (wc.heap[aal]? =some (.cells #[(.slice gW bM.length gX),(.slice iM cZ.length iO),(.slice fF aC.length dR)] 28 (0,0)))∧ah (Below w.heap.size w wc))
 case first=>
  have H:=XJ.out;clear XJ;replace H:=bd H;obtain⟨ahl,A5,H⟩:=H;replace H:=sb H;rcases H with⟨rfl,H⟩|⟨rfl,H⟩
  ·have H':=ak H;clear H;obtain⟨DT,Fv,Hz,DW,Fz,HY⟩:=jP kY.out;go_wp2_with (first|(refine gL 113 12 Tryz.func113 #[.slice gW bM.length gX] ?_;(with_reducible refine(eP.calls k _ _ bM true _ (cu (Kd.aN lY.out HB.out)) lZ.out A5.out).mono ?_);rintro e w8 ⟨rfl,hb⟩;refine⟨_,rfl,?_⟩;replace kY:=kb kY hb;replace HB:=ak (aG bb hb);(try clear hb)))
   go_meet
   case rel=>exact⟨_,(decide (a1<1)),rs,H',⟨Qw⟩,⟨ub kY.out⟩,⟨bb⟩⟩
  ·have H':=ak H;clear H;obtain⟨rY,rZ,Lr,r_,su,Ls⟩:=jP kY.out;go_wp2_with (first|(refine gL 113 12 Tryz.func113 #[.slice gW bM.length gX] ?_;(with_reducible refine(eP.calls k _ _ bM false _ (cu (Kd.aN lY.out HB.out)) lZ.out A5.out).mono ?_);rintro e w10 ⟨rfl,hb⟩;refine⟨_,rfl,?_⟩;replace kY:=kb kY hb;replace HB:=ak (aG bb hb);(try clear hb)))
   go_meet
   case rel=>exact⟨_,(true),rs,H',⟨Qw⟩,⟨ub kY.out⟩,⟨bb⟩⟩
 case rest=>
  clear XJ;try clear c1
  try clear p2
  try clear c6
  try clear c7
  try clear DT
  try clear Fv
  try clear Hz
  try clear rY
  try clear rZ
  try clear Lr
  try clear DW
  try clear Fz
  try clear HY
  try clear r_
  try clear su
  try clear Ls
  obtain⟨kq,O7,rfl,HA,HJ2,kY,HB⟩:=hcut
  cases kq with
  |zero=>exact absurd HA.out (by simp[bD.j0])
  |succ ZX=>
   have H:=HA.out;clear HA;simp only[bD.j0]at H;replace H:=sb H;rcases H with⟨rfl,H⟩|⟨rfl,H⟩
   ·obtain rfl:=Option.some.inj H;go_wp2;go_ret;exact⟨er,bb⟩
   ·replace H:=bd H;obtain⟨⟨QF,azx⟩,A12,H⟩:=H
    (try dsimp only at H);replace H:=sb H;rcases H with⟨rfl,H⟩|⟨rfl,H⟩
    ·have alS:=ak H;clear H;obtain⟨lI,lJ,qM,lK,lM,qN⟩:=jP kY.out;go_upto_region 6 with(first|(refine gL 108 21 Tryz.func108 #[.slice gW bM.length gX] ?_;(with_reducible refine(jE.calls ZX _ _ bM QF true _ (cu (Kd.aN lY.out HB.out)) lZ.out A12.out).mono ?_);rintro e w16 ⟨rfl,hb⟩;refine⟨_,rfl,?_⟩;replace kY:=kb kY hb;replace HB:=ak (aG bb hb);(try clear hb)))
     (try simp only[Act.put,jI,jJ,l_c]);go_cut [50] (fun v50 wc=>∃(kq:Nat) (XT:Bool),v50= .bool XT∧ah (bD.j1 kq a1 QF XT bM cZ aC=some r)∧ah (kq≤ZX)∧ah (wc.heap[aal]? =some (.cells #[(.slice gW bM.length gX),(.slice iM cZ.length iO),(.slice fF aC.length dR)] 28 (0,0)))∧ah (Below w.heap.size w wc))
     case first=>
      have H:=alS.out;clear alS;replace H:=sp H;rcases H with⟨c17,H⟩|⟨c17,H⟩
      ·have qE:decide (0<(cZ.length:Int))=true:=decide_eq_true c17;have II:decide (0<cZ.length)=true:=decide_eq_true (by omega);clear c17
       (first|rw[qE]|(simp only[bC,bH];rw[qE])|skip);have H':=ak H;clear H;obtain⟨tq,tu,uG,tC,tH,uH⟩:=jP kY.out;go_wp2;go_meet
       case rel=>exact⟨_,(true),rs,H',⟨by have:=HJ2.out;first|omega|exact Nat.le_refl _⟩,⟨ub kY.out⟩,⟨bb⟩⟩
      ·have qE:decide (0<(cZ.length:Int))=false:=decide_eq_false c17;have II:decide (0<cZ.length)=false:=decide_eq_false (by omega);clear c17
       (first|rw[qE]|(simp only[bC,bH];rw[qE])|skip);replace H:=sp H;rcases H with⟨c19,H⟩|⟨c19,H⟩
       ·have yH:=decide_eq_true c19;have AY:decide (aC.length<1)=true:=decide_eq_true (by omega);clear c19;have H':=ak H;clear H;obtain⟨uX,uY,uZ,u_,vk,vw⟩:=jP kY.out;go_wp2;go_meet
        case rel=>exact⟨_,(true),rs,H',⟨by have:=HJ2.out;first|omega|exact Nat.le_refl _⟩,⟨ub kY.out⟩,⟨bb⟩⟩
       ·have yH:=decide_eq_false c19;have AY:decide (aC.length<1)=false:=decide_eq_false (by omega);clear c19;have H':=ak H;clear H;obtain⟨AZ,A_,Ba,Bc,Bd,Bf⟩:=jP kY.out;go_wp2;go_meet
        case rel=>exact⟨_,(decide ((aC.length:Int)>4)),rs,H',⟨by have:=HJ2.out;first|omega|exact Nat.le_refl _⟩,⟨ub kY.out⟩,⟨bb⟩⟩
     case rest=>
      clear alS;try clear c1
      try clear p2
      try clear c6
      try clear c7
      try clear c10
      try clear c11
      try clear c13
      try clear c17
      try clear qE
      try clear II
      try clear c19
      try clear yH
      try clear AY
      try clear lI
      try clear lJ
      try clear qM
      try clear tq
      try clear tu
      try clear uG
      try clear uX
      try clear uY
      try clear uZ
      try clear AZ
      try clear A_
      try clear Ba
      try clear DT
      try clear Fv
      try clear Hz
      try clear rY
      try clear rZ
      try clear Lr
      try clear lK
      try clear lM
      try clear qN
      try clear tC
      try clear tH
      try clear uH
      try clear u_
      try clear vk
      try clear vw
      try clear Bc
      try clear Bd
      try clear Bf
      try clear DW
      try clear Fz
      try clear HY
      try clear r_
      try clear su
      try clear Ls
      try clear p2
      obtain⟨kq,XT,rfl,HA,abG,kY,HB⟩:=hcut
      cases kq with
      |zero=>exact absurd HA.out (by simp[bD.j1])
      |succ apH=>
       have H:=HA.out;clear HA;simp only[bD.j1]at H;replace H:=sb H;rcases H with⟨rfl,H⟩|⟨rfl,H⟩
       ·obtain rfl:=Option.some.inj H;go_wp2;go_ret;exact⟨er,bb⟩
       ·have H':=ak H;clear H;go_wp2;go_loopg [7] apH (fun kq v7 w'=>∃(kZ:Int),v7= .int .i64 kZ∧ah (bD.l0 kq a1 QF kZ bM cZ aC=some r)∧ah (kq≤apH)∧ah (w'.heap[aal]? =some (.cells #[(.slice gW bM.length gX),(.slice iM cZ.length iO),(.slice fF aC.length dR)] 28 (0,0)))∧ah (Below w.heap.size w w'))
        case atStart=>exact⟨(0),rs,H',⟨Nat.le_refl _⟩,⟨ub kY.out⟩,⟨bb⟩⟩
        case round=>
         clear H';try clear c1
         try clear c2
         try clear p2
         try clear c6
         try clear c7
         try clear c10
         try clear c11
         try clear c13
         try clear c17
         try clear qE
         try clear II
         try clear c19
         try clear yH
         try clear AY
         try clear c22
         try clear lI
         try clear lJ
         try clear qM
         try clear tq
         try clear tu
         try clear uG
         try clear uX
         try clear uY
         try clear uZ
         try clear AZ
         try clear A_
         try clear Ba
         try clear DT
         try clear Fv
         try clear Hz
         try clear rY
         try clear rZ
         try clear Lr
         try clear lK
         try clear lM
         try clear qN
         try clear tC
         try clear tH
         try clear uH
         try clear u_
         try clear vk
         try clear vw
         try clear Bc
         try clear Bd
         try clear Bf
         try clear DW
         try clear Fz
         try clear HY
         try clear r_
         try clear su
         try clear Ls
         try clear p2
         obtain⟨kZ,rfl,HA,GX,kY,HB⟩:=hrel
         cases gk with
         |zero=>exact absurd HA.out (by simp[bD.l0])
         |succ k3=>
          have H:=HA.out;clear HA;simp only[bD.l0]at H;replace H:=sd H;rcases H with⟨G7,H⟩|⟨G7,H⟩
          ·replace H:=og H;obtain⟨Rj,H⟩:=H;replace H:=bd H;obtain⟨apF,A25,H⟩:=H;replace H:=sb H;rcases H with⟨rfl,H⟩|⟨rfl,H⟩
           ·replace H:=bd H;obtain⟨Ph,A27,H⟩:=H;have H':=ak H;clear H;obtain⟨NZ,TR,TS,N7,TT,TU⟩:=jP kY.out;have VT:=zi kZ;have VU:=zj kZ aC.length;obtain⟨adR,XU,XV,XW,XY,XZ,X0,alT,Gl,Gm,Gn,Ju,Jv,Jw,Jy,Jz,JA⟩:=BR jc.out kZ VT VU;cases alT;replace Gl:=cl HB.out Gl;replace Gm:=cl HB.out Gm;replace Gn:=cl HB.out Gn;have Ur:=ak Jv;have Us:=ak Ju;clear Jv Ju;have Ut:=ak Jy;have Uu:=ak Jw;clear Jy Jw;have Uw:=ak JA;have Ux:=ak Jz;clear JA Jz;replace VT:=eq_true VT;replace VU:=eq_true VU;go_wp2_with (first|(refine gL 72 65 Tryz.func72 #[.agg #[.slice XU ((bn aC kZ).f0).length XV, .slice XW ((bn aC kZ).f1).length XY, .slice XZ ((bn aC kZ).f2).length X0], .int .i64 (wrap64 (a1-1))] ?_;(with_reducible refine(ih k3 (by have:=HJ2.out;have:=abG.out;have:=GX.out;omega) _ _ ((bn aC kZ).f0) _ _ ((bn aC kZ).f1) _ _ ((bn aC kZ).f2) (wrap64 (a1-1)) true _ (cu (Kd.aN Ur.out HB.out)) Us.out (cu (Kd.aN Ut.out HB.out)) Uu.out (cu (Kd.aN Uw.out HB.out)) Ux.out A25.out).mono ?_);rintro e w29 ⟨rfl,hb⟩;refine⟨_,rfl,?_⟩;replace kY:=kb kY hb;replace HB:=ak (aG bb hb);(try clear hb);obtain⟨Uf,Ug,Uh,Ui,Uj,Uk⟩:=jP kY.out;have ahm:0≤(kZ:Int):=of_decide_eq_true (by assumption);have ahn:kZ<(aC.length:Int):=of_decide_eq_true (by assumption);obtain⟨apI,alU,alV,alW,alX,alY,alZ,auw,Oj,Ol,Om,aam,aan,aao,aap,aaq,aar⟩:=BR jc.out kZ ahm ahn;obtain rfl:adR=apI:=(by injection auw);replace Oj:=(HB.out.cell (World.block_lt_of_cell? w _ Oj)).trans Oj;replace Ol:=(HB.out.cell (World.block_lt_of_cell? w _ Ol)).trans Ol;replace Om:=(HB.out.cell (World.block_lt_of_cell? w _ Om)).trans Om;have aho:=ak aan;have ahp:=ak aam;clear aan aam;have ahq:=ak aap;have ahr:=ak aao;clear aap aao;have ahs:=ak aar;have aht:=ak aaq;clear aar aaq;replace ahm:=eq_true ahm;replace ahn:=eq_true ahn)|(refine gL 67 72 Tryz.func67 #[.agg #[.slice alU ((bn aC kZ).f0).length alV, .slice alW ((bn aC kZ).f1).length alX, .slice alY ((bn aC kZ).f2).length alZ]] ?_;(with_reducible refine(fV.calls k3 _ _ ((bn aC kZ).f0) _ _ ((bn aC kZ).f1) _ _ ((bn aC kZ).f2) Ph _ (cu (Kd.aN aho.out HB.out)) ahp.out (cu (Kd.aN ahq.out HB.out)) ahr.out (cu (Kd.aN ahs.out HB.out)) aht.out A27.out).mono ?_);rintro e w31 ⟨auy,rfl,ho0,hb⟩;refine⟨_,rfl,?_⟩;have apJ:=ak (Kd.fA ho0 (aA bb));replace kY:=kb kY hb;replace HB:=ak (aG bb hb);(try clear hb);(try clear ho0)))
            go_loopg [9] k3 (fun kq v9 w'=>∃(JB:Int),v9= .int .i64 JB∧ah (bD.l1 kq a1 QF kZ Ph JB bM cZ aC=some r)∧ah (kq≤k3)∧ah (Kd.R Kd.string 9 w' w.heap.size (fun _=>True) auy Ph)∧ah (w'.heap[aal]? =some (.cells #[(.slice gW bM.length gX),(.slice iM cZ.length iO),(.slice (some adR) aC.length dR)] 28 (0,0)))∧ah (Below w.heap.size w w'))
            case atStart=>exact⟨(0),rs,H',⟨Nat.le_refl _⟩,⟨ur apJ.out⟩,⟨ub kY.out⟩,⟨bb⟩⟩
            case round=>
             clear H';try clear c1
             try clear c2
             try clear p2
             try clear c5
             try clear p5
             try clear q5
             try clear hx5
             try clear c6
             try clear p6
             try clear c7
             try clear c10
             try clear c11
             try clear c13
             try clear c17
             try clear qE
             try clear II
             try clear c19
             try clear yH
             try clear AY
             try clear c22
             try clear c23
             try clear G7
             try clear c24
             try clear Rj
             try clear c26
             try clear lI
             try clear lJ
             try clear qM
             try clear tq
             try clear tu
             try clear uG
             try clear uX
             try clear uY
             try clear uZ
             try clear AZ
             try clear A_
             try clear Ba
             try clear NZ
             try clear TR
             try clear TS
             try clear Uf
             try clear Ug
             try clear Uh
             try clear DT
             try clear Fv
             try clear Hz
             try clear rY
             try clear rZ
             try clear Lr
             try clear lK
             try clear lM
             try clear qN
             try clear tC
             try clear tH
             try clear uH
             try clear u_
             try clear vk
             try clear vw
             try clear Bc
             try clear Bd
             try clear Bf
             try clear N7
             try clear TT
             try clear TU
             try clear Ui
             try clear Uj
             try clear Uk
             try clear DW
             try clear Fz
             try clear HY
             try clear r_
             try clear su
             try clear Ls
             try clear Gl
             try clear Gm
             try clear Gn
             try clear Oj
             try clear Ol
             try clear Om
             try clear p2
             try clear VT
             try clear ahm
             try clear VU
             try clear ahn
             obtain⟨JB,rfl,HA,HK4,abH,kY,HB⟩:=hrel
             cases gk with
             |zero=>exact absurd HA.out (by simp[bD.l1])
             |succ k4=>
              have H:=HA.out;clear HA;simp only[bD.l1]at H;replace H:=sd H;rcases H with⟨ZA,H⟩|⟨ZA,H⟩
              ·replace H:=og H;obtain⟨ade,H⟩:=H;replace H:=bd H;obtain⟨apG,A34,H⟩:=H;replace H:=sb H;rcases H with⟨rfl,H⟩|⟨rfl,H⟩
               ·obtain rfl:=Option.some.inj H;obtain⟨azy,azz,auz⟩:=Kd.eU abH.out;subst auz;have X3:=zi JB;have X4:=zj JB Ph.length;obtain⟨apK,al0,ahu⟩:=Kd.jq (Kd.dK abH.out).2.2 JB X3 X4;cases al0;replace X3:=eq_true X3;replace X4:=eq_true X4;go_wp2_with (first|(refine gL 115 84 Tryz.func115 #[.string (kV ByteArray.empty Ph JB), .string QF] ?_;(with_reducible refine(ni.calls (kV ByteArray.empty Ph JB) QF true _ A34.out).mono ?_);rintro e w' ⟨rfl,⟨nd,rfl⟩⟩;refine⟨_,rfl,?_⟩))
                go_ret;exact⟨er,bb⟩
               ·have H':=ak H;clear H;obtain⟨abv,abw,abx⟩:=Kd.eU abH.out;subst abx;have X3:=zi JB;have X4:=zj JB Ph.length;obtain⟨apK,al0,ahu⟩:=Kd.jq (Kd.dK abH.out).2.2 JB X3 X4;cases al0;replace X3:=eq_true X3;replace X4:=eq_true X4;go_wp2_with (first|(refine gL 115 84 Tryz.func115 #[.string (kV ByteArray.empty Ph JB), .string QF] ?_;(with_reducible refine(ni.calls (kV ByteArray.empty Ph JB) QF false _ A34.out).mono ?_);rintro e w' ⟨rfl,⟨nd,rfl⟩⟩;refine⟨_,rfl,?_⟩))
                go_roundg k4
                case measure=>have:=HJ2.out;have:=abG.out;have:=GX.out;have:=HK4.out;omega
                case rel=>exact⟨(wrap64 (JB+1)),rs,H',⟨by have:=HJ2.out;have:=abG.out;have:=GX.out;have:=HK4.out;omega⟩,⟨ur abH.out⟩,⟨ub kY.out⟩,⟨bb⟩⟩
              ·have H':=ak H;clear H;obtain⟨azA,azB,auA⟩:=Kd.eU abH.out;subst auA;go_wp2;go_roundg k4
               case measure=>have:=HJ2.out;have:=abG.out;have:=GX.out;have:=HK4.out;omega
               case rel=>exact⟨(wrap64 (kZ+1)),rs,H',⟨by have:=HJ2.out;have:=abG.out;have:=GX.out;have:=HK4.out;omega⟩,⟨ub kY.out⟩,⟨bb⟩⟩
           ·obtain rfl:=Option.some.inj H;obtain⟨ahv,ahw,ahx,ahy,ahz,ahA⟩:=jP kY.out;have VT:=zi kZ;have VU:=zj kZ aC.length;obtain⟨adR,XU,XV,XW,XY,XZ,X0,alT,Gl,Gm,Gn,Ju,Jv,Jw,Jy,Jz,JA⟩:=BR jc.out kZ VT VU;cases alT;replace Gl:=cl HB.out Gl;replace Gm:=cl HB.out Gm;replace Gn:=cl HB.out Gn;have Ur:=ak Jv;have Us:=ak Ju;clear Jv Ju;have Ut:=ak Jy;have Uu:=ak Jw;clear Jy Jw;have Uw:=ak JA;have Ux:=ak Jz;clear JA Jz;replace VT:=eq_true VT;replace VU:=eq_true VU;go_wp2_with (first|(refine gL 72 65 Tryz.func72 #[.agg #[.slice XU ((bn aC kZ).f0).length XV, .slice XW ((bn aC kZ).f1).length XY, .slice XZ ((bn aC kZ).f2).length X0], .int .i64 (wrap64 (a1-1))] ?_;(with_reducible refine(ih k3 (by have:=HJ2.out;have:=abG.out;have:=GX.out;omega) _ _ ((bn aC kZ).f0) _ _ ((bn aC kZ).f1) _ _ ((bn aC kZ).f2) (wrap64 (a1-1)) false _ (cu (Kd.aN Ur.out HB.out)) Us.out (cu (Kd.aN Ut.out HB.out)) Uu.out (cu (Kd.aN Uw.out HB.out)) Ux.out A25.out).mono ?_);rintro e w40 ⟨rfl,hb⟩;refine⟨_,rfl,?_⟩;replace kY:=kb kY hb;replace HB:=ak (aG bb hb);(try clear hb)))
            go_ret;exact⟨er,bb⟩
          ·obtain rfl:=Option.some.inj H;obtain⟨ZG,ZH,agt,ZI,ZJ,agu⟩:=jP kY.out;go_wp2;go_ret;exact⟨er,bb⟩
    ·replace H:=sp H;rcases H with⟨c42,H⟩|⟨c42,H⟩
     ·have apL:=beq_iff_eq.mpr c42;have apM:=bne_eq_false_iff_eq.mpr c42;clear c42;replace H:=bd H;obtain⟨alR,A43,H⟩:=H;obtain rfl:=Option.some.inj H;obtain⟨agv,agw,asK,agx,agy,asL⟩:=jP kY.out;go_wp2_with (first|(refine gL 108 21 Tryz.func108 #[.slice gW bM.length gX] ?_;(with_reducible refine(jE.calls ZX _ _ bM QF false _ (cu (Kd.aN lY.out HB.out)) lZ.out A12.out).mono ?_);rintro e w45 ⟨rfl,hb⟩;refine⟨_,rfl,?_⟩;replace kY:=kb kY hb;replace HB:=ak (aG bb hb);(try clear hb);obtain⟨agH,agI,agJ,agK,agL,agM⟩:=jP kY.out)|(go_at_call 114;(with_reducible refine(iq.calls ZX _ _ cZ alR _ (cu (Kd.aN oQ.out HB.out)) qh.out A43.out).mono ?_);rintro e w' ⟨rfl,⟨nd,rfl⟩⟩))
      go_ret;exact⟨er,bb⟩
     ·have apL:=beq_eq_false_iff_ne.mpr c42;have apM:=bne_iff_ne.mpr c42;have aw9:¬(aC=[]):=fun h_=>c42 (by rw[h_];rfl)
      obtain rfl:=Option.some.inj H;obtain⟨agN,agO,agP,agQ,agR,agS⟩:=jP kY.out;go_wp2_with (first|(refine gL 108 21 Tryz.func108 #[.slice gW bM.length gX] ?_;(with_reducible refine(jE.calls ZX _ _ bM QF false _ (cu (Kd.aN lY.out HB.out)) lZ.out A12.out).mono ?_);rintro e w48 ⟨rfl,hb⟩;refine⟨_,rfl,?_⟩;replace kY:=kb kY hb;replace HB:=ak (aG bb hb);(try clear hb);obtain⟨ZP,ZQ,agT,ZR,ZT,agU⟩:=jP kY.out))
      go_ret;exact⟨er,bb⟩
def nH.f(k:Nat)(bM:List (jl))(cZ:List ByteArray)(aC:List (pq)):Option (Bool):=(bD.f k bM cZ aC 3).bind fun adS=>(some adS)
set_option maxHeartbeats 8000000 in
set_option maxRecDepth 100000 in
theorem nH.calls(k:Nat)(gW:Option Addr)(gX:Nat)(bM:List (jl))(iM:Option Addr)(iO:Nat)(cZ:List ByteArray)(fF:Option Addr)(dR:Nat)(aC:List (pq))(r:Bool)(w:World)(mG:Kd.C pV w gW bM.length bM)(mJ:bM.length≤gX)(mM:Kd.C Kd.string w iM cZ.length cZ)(mO:cZ.length≤iO)(jL:Kd.C k28 w fF aC.length aC)(jM:aC.length≤dR)(h:nH.f k bM cZ aC=some r):
  Calls Tryz.prog 30 #[.agg #[.slice gW bM.length gX, .slice iM cZ.length iO, .slice fF aC.length dR]] w fun e w'=>e= .returned (.bool r)∧Below w.heap.size w w':=by
 have Na:=Tryz.underlying28;have lY:=ak mG;have lZ:=ak mJ;clear mG mJ;have oQ:=ak mM;have qh:=ak mO;clear mM mO;have jc:=ak jL;have kC:=ak jM;clear jL jM;have HB:=ak (Below.refl w.heap.size w);have H:((bD.f k bM cZ aC 3).bind fun adS=>(some adS))=some r:=h;clear h;replace H:=bd H;obtain⟨adS,A2,H⟩:=H;obtain rfl:=Option.some.inj H;go_enter Tryz.func30,Tryz.ntmps30;go_wp2_with (first|(refine bE 1 #[.slice gW bM.length gX, .slice iM cZ.length iO, .slice fF aC.length dR] 28 ?_;intro aw_ hg w3 hbox hb;have adT:=ak (hbox);have axa:=jY HB hg;have axb:=jY HB hg;replace HB:=bs HB hb;clear hb hbox hg;obtain⟨acH,akR,auB,acI,akS,auC⟩:=jP adT.out)|(refine gL 72 4 Tryz.func72 #[.agg #[.slice gW bM.length gX, .slice iM cZ.length iO, .slice fF aC.length dR], .int .i64 3] ?_;(with_reducible refine(bD.calls k _ _ bM _ _ cZ _ _ aC 3 adS _ (cu (Kd.aN lY.out HB.out)) lZ.out (cu (Kd.aN oQ.out HB.out)) qh.out (cu (Kd.aN jc.out HB.out)) kC.out A2.out).mono ?_);rintro e w5 ⟨rfl,hb⟩;refine⟨_,rfl,?_⟩;replace adT:=kb adT hb;replace HB:=ak (aG bb hb);(try clear hb)))
 go_ret;exact⟨er,bb⟩
def nU.f(k:Nat)(bM:List (jl))(cZ:List ByteArray)(aC:List (pq)):Option (List ByteArray×Bool):=(nH.f k bM cZ aC).bind fun ahB=>(if ahB=true then((fV.f k bM cZ aC).bind fun adU=>(some (adU,true)))else(some ((([]:List ByteArray)),false)))
set_option maxHeartbeats 8000000 in
set_option maxRecDepth 100000 in
theorem nU.calls(k:Nat)(gW:Option Addr)(gX:Nat)(bM:List (jl))(iM:Option Addr)(iO:Nat)(cZ:List ByteArray)(fF:Option Addr)(dR:Nat)(aC:List (pq))(r1:List ByteArray)(r2:Bool)(w:World)(mG:Kd.C pV w gW bM.length bM)(mJ:bM.length≤gX)(mM:Kd.C Kd.string w iM cZ.length cZ)(mO:cZ.length≤iO)(jL:Kd.C k28 w fF aC.length aC)(jM:aC.length≤dR)(h:nU.f k bM cZ aC=some (r1,r2)):
  Calls Tryz.prog 25 #[.agg #[.slice gW bM.length gX, .slice iM cZ.length iO, .slice fF aC.length dR]] w fun e w'=>∃wH:Value,e= .returned (.tuple #[wH, .bool r2])∧Kd.R Kd.string 9 w' w.heap.size (fun _=>True) wH r1∧Below w.heap.size w w':=by
 have Na:=Tryz.underlying28;have lY:=ak mG;have lZ:=ak mJ;clear mG mJ;have oQ:=ak mM;have qh:=ak mO;clear mM mO;have jc:=ak jL;have kC:=ak jM;clear jL jM;have HB:=ak (Below.refl w.heap.size w);have H:((nH.f k bM cZ aC).bind fun ahB=>(if ahB=true then((fV.f k bM cZ aC).bind fun adU=>(some (adU,true)))else(some ((([]:List ByteArray)),false))))=some (r1,r2):=h;clear h;replace H:=bd H;obtain⟨ahB,A2,H⟩:=H;replace H:=sb H;rcases H with⟨rfl,H⟩|⟨rfl,H⟩
 ·replace H:=bd H;obtain⟨adU,A4,H⟩:=H;simp only[Option.some.injEq,Prod.mk.injEq]at H;obtain⟨rfl,rfl⟩:=H;go_enter Tryz.func25,Tryz.ntmps25;go_wp2_with (first|(refine bE 1 #[.slice gW bM.length gX, .slice iM cZ.length iO, .slice fF aC.length dR] 28 ?_;intro apN hg w5 hbox hb;have Et:=ak (hbox);have apO:=jY HB hg;have apP:=jY HB hg;replace HB:=bs HB hb;clear hb hbox hg;obtain⟨yu,yw,Hq,yx,yA,Hr⟩:=jP Et.out)|(refine gL 30 5 Tryz.func30 #[.agg #[.slice gW bM.length gX, .slice iM cZ.length iO, .slice fF aC.length dR]] ?_;(with_reducible refine(nH.calls k _ _ bM _ _ cZ _ _ aC true _ (cu (Kd.aN lY.out HB.out)) lZ.out (cu (Kd.aN oQ.out HB.out)) qh.out (cu (Kd.aN jc.out HB.out)) kC.out A2.out).mono ?_);rintro e w7 ⟨rfl,hb⟩;refine⟨_,rfl,?_⟩;replace Et:=kb Et hb;replace HB:=ak (aG bb hb);(try clear hb);obtain⟨vG,zS,Du,vH,zT,Dv⟩:=jP Et.out)|(refine gL 67 9 Tryz.func67 #[.agg #[.slice gW bM.length gX, .slice iM cZ.length iO, .slice fF aC.length dR]] ?_;(with_reducible refine(fV.calls k _ _ bM _ _ cZ _ _ aC adU _ (cu (Kd.aN lY.out HB.out)) lZ.out (cu (Kd.aN oQ.out HB.out)) qh.out (cu (Kd.aN jc.out HB.out)) kC.out A4.out).mono ?_);rintro e w9 ⟨azC,rfl,ho0,hb⟩;refine⟨_,rfl,?_⟩;have apQ:=ak (Kd.fA ho0 (aA bb));replace Et:=kb Et hb;replace HB:=ak (aG bb hb);(try clear hb);(try clear ho0)))
  go_ret2;exact⟨_,er,ur apQ.out,bb⟩
 ·obtain⟨azD,adV⟩:=nm ([]:List ByteArray);rw[←adV.out]at H
  (try rw[Option.bind_some]at H);simp only[Option.some.injEq,Prod.mk.injEq]at H;obtain⟨rfl,rfl⟩:=H;go_enter Tryz.func25,Tryz.ntmps25;go_wp2_with (first|(refine bE 1 #[.slice gW bM.length gX, .slice iM cZ.length iO, .slice fF aC.length dR] 28 ?_;intro apN hg w10 hbox hb;have Et:=ak (hbox);have apO:=jY HB hg;have apP:=jY HB hg;replace HB:=bs HB hb;clear hb hbox hg;obtain⟨xk,xq,ahC,xu,xw,ahD⟩:=jP Et.out)|(refine gL 30 5 Tryz.func30 #[.agg #[.slice gW bM.length gX, .slice iM cZ.length iO, .slice fF aC.length dR]] ?_;(with_reducible refine(nH.calls k _ _ bM _ _ cZ _ _ aC false _ (cu (Kd.aN lY.out HB.out)) lZ.out (cu (Kd.aN oQ.out HB.out)) qh.out (cu (Kd.aN jc.out HB.out)) kC.out A2.out).mono ?_);rintro e w12 ⟨rfl,hb⟩;refine⟨_,rfl,?_⟩;replace Et:=kb Et hb;replace HB:=ak (aG bb hb);(try clear hb))|((with_reducible refine bU (N:=7) rfl ?_);refine Kd.qg Kd.string _ 9 ?hg (N:=7) ?hd (xs:=([]:List ByteArray)) (inner:=[]) (ok:=fun _=>True) (pz:=fun _=>True) ?hr ?hp (fun _ hk=>hk) trivial (Below.refl _ _) (Nat.le_refl _) (by simp) ?_;(case hd=>rfl);(case hg=>rfl);(case hr=>first|(go_simp;done)|(go_simp;rfl));(case hp=>exact(iF.none _ _));intro azE Vj adW hb rQ jw;clear rQ jw;(first|rw[←adV.out]at adW|(simp only[Int.reduceToNat]at adW;rw[←adV.out]at adW));have apR:=ak (Kd.fA adW (aA bb));replace Et:=kb Et hb;replace HB:=ak (aG bb hb);clear hb adW))
  go_ret2;exact⟨_,er,ur apR.out,bb⟩
def fO.l0:Nat→List ByteArray→Int→Int→Option (Int)
 |0,_,_,_=>none
 |k+1,x0,x1,x5=>if x5<(x0.length:Int)then(if 0≤x5 then(if(wrap64 (x1-((kV ByteArray.empty x0 x5).size:Int)))<0 then(some (-1))else(fO.l0 k x0 (wrap64 (x1-((kV ByteArray.empty x0 x5).size:Int))) (wrap64 (x5+1))))else(none))else(some x1)
def fO.f(k:Nat)(l0:List ByteArray)(a1:Int):Option (Int):=if(wrap64 (a1-(l0.length:Int)))<0 then(some (-1))else(fO.l0 k l0 (wrap64 (a1-(l0.length:Int))) 0)
set_option maxHeartbeats 8000000 in
set_option maxRecDepth 100000 in
theorem fO.calls(k:Nat)(A0:Option Addr)(c0:Nat)(l0:List ByteArray)(a1:Int)(r:Int)(w:World)(hr0:Kd.C Kd.string w A0 l0.length l0)(hc0:l0.length≤c0)(h:fO.f k l0 a1=some r):
  Calls Tryz.prog 52 #[.slice A0 l0.length c0, .int .i64 a1] w fun e w'=>e= .returned (.int .i64 r)∧eH w w':=by
 have HR0:=ak hr0;have wJ:=ak hc0;clear hr0 hc0;have H:(if(wrap64 (a1-(l0.length:Int)))<0 then(some (-1))else(fO.l0 k l0 (wrap64 (a1-(l0.length:Int))) 0))=some r:=h;clear h;replace H:=sp H;rcases H with⟨c3,H⟩|⟨c3,H⟩
 ·have fM:=decide_eq_true c3
  (try(have oZ:decide ((a1-(l0.length:Int))<0)=true:=decide_eq_true (by have h_:=c3;unfold wrap64 at h_;omega)));clear c3;obtain rfl:=Option.some.inj H;go_enter Tryz.func52,Tryz.ntmps52;go_wp2;go_ret;exact⟨rs,dn⟩
 ·have fM:=decide_eq_false c3
  (try(have oZ:decide ((a1-(l0.length:Int))<0)=false:=decide_eq_false (by have h_:=c3;unfold wrap64 at h_;omega)));clear c3;have H':=ak H;clear H;go_enter Tryz.func52,Tryz.ntmps52;go_wp2;go_loopg [1,5] k (fun kq v1 v5 w'=>∃(oM:Int) (aK:Int),v1= .int .i64 oM∧v5= .int .i64 aK∧ah (fO.l0 kq l0 oM aK=some r)∧ah (kq≤k)∧eH w w')
  case atStart=>exact⟨(wrap64 (a1-(l0.length:Int))),(0),rs,rs,H',⟨Nat.le_refl _⟩,dn⟩
  case round=>
   clear H';try clear p2
   try clear c3
   try clear fM
   try clear oZ
   obtain⟨oM,aK,rfl,rfl,HA,iC,⟨m1,rfl⟩⟩:=hrel
   cases gk with
   |zero=>exact absurd HA.out (by simp[fO.l0])
   |succ k1=>
    have H:=HA.out;clear HA;simp only[fO.l0]at H;replace H:=sd H;rcases H with⟨nM,H⟩|⟨nM,H⟩
    ·replace H:=og H;obtain⟨pU,H⟩:=H;replace H:=sp H;rcases H with⟨c6,H⟩|⟨c6,H⟩
     ·have mW:=decide_eq_true c6
      (try(have yt:decide ((oM-((kV ByteArray.empty l0 aK).size:Int))<0)=true:=decide_eq_true (by have h_:=c6;unfold wrap64 at h_;omega)));clear c6;obtain rfl:=Option.some.inj H;have X5:=zi aK;have X6:=zj aK l0.length;obtain⟨apS,al1,ahE⟩:=Kd.jq HR0.out aK X5 X6;cases al1;replace X5:=eq_true X5;replace X6:=eq_true X6;go_wp2;go_ret;exact⟨rs,dn⟩
     ·have mW:=decide_eq_false c6
      (try(have yt:decide ((oM-((kV ByteArray.empty l0 aK).size:Int))<0)=false:=decide_eq_false (by have h_:=c6;unfold wrap64 at h_;omega)));clear c6;have H':=ak H;clear H;have X5:=zi aK;have X6:=zj aK l0.length;obtain⟨apS,al1,ahE⟩:=Kd.jq HR0.out aK X5 X6;cases al1;replace X5:=eq_true X5;replace X6:=eq_true X6;go_wp2;go_roundg k1
      case measure=>have:=iC.out;omega
      case rel=>exact⟨(wrap64 (oM-((kV ByteArray.empty l0 aK).size:Int))),(wrap64 (aK+1)),rs,rs,H',⟨by have:=iC.out;omega⟩,dn⟩
    ·obtain rfl:=Option.some.inj H;go_wp2;go_ret;exact⟨rs,dn⟩
def qP.f(aY:ByteArray)(bf:ByteArray)(a1:Int):Option (Int):=if(wrap64 (a1-(aY.size:Int)))<0 then(some (-1))else(if(wrap64 ((wrap64 (a1-(aY.size:Int)))-(bf.size:Int)))<0 then(some (-1))else(some (wrap64 ((wrap64 (a1-(aY.size:Int)))-(bf.size:Int)))))
set_option maxHeartbeats 8000000 in
set_option maxRecDepth 100000 in
theorem qP.calls(aY:ByteArray)(bf:ByteArray)(a1:Int)(r:Int)(w:World)(h:qP.f aY bf a1=some r):
  Calls Tryz.prog 112 #[.agg #[.string aY, .string bf], .int .i64 a1] w fun e w'=>e= .returned (.int .i64 r)∧Below w.heap.size w w':=by
 have adX:=Tryz.underlying120;have HB:=ak (Below.refl w.heap.size w);have H:(if(wrap64 (a1-(aY.size:Int)))<0 then(some (-1))else(if(wrap64 ((wrap64 (a1-(aY.size:Int)))-(bf.size:Int)))<0 then(some (-1))else(some (wrap64 ((wrap64 (a1-(aY.size:Int)))-(bf.size:Int))))))=some r:=h;clear h;replace H:=sp H;rcases H with⟨c3,H⟩|⟨c3,H⟩
 ·have fM:=decide_eq_true c3
  (try(have oZ:decide ((a1-(aY.size:Int))<0)=true:=decide_eq_true (by have h_:=c3;unfold wrap64 at h_;omega)));clear c3;obtain rfl:=Option.some.inj H;go_enter Tryz.func112,Tryz.ntmps112;go_wp2_with (first|(refine bE 2 #[.string aY, .string bf] 120 ?_;intro ajD hg w4 hbox hb;have VW:=ak (hbox);have ajE:=jY HB hg;have ajF:=jY HB hg;replace HB:=bs HB hb;clear hb hbox hg;obtain⟨Xq,Xr,Xt,Xu⟩:=wO VW.out))
  go_ret;exact⟨er,bb⟩
 ·have fM:=decide_eq_false c3
  (try(have oZ:decide ((a1-(aY.size:Int))<0)=false:=decide_eq_false (by have h_:=c3;unfold wrap64 at h_;omega)));clear c3;replace H:=sp H;rcases H with⟨c6,H⟩|⟨c6,H⟩
  ·have mW:=decide_eq_true c6
   (try(have yt:decide (((wrap64 (a1-(aY.size:Int)))-(bf.size:Int))<0)=true:=decide_eq_true (by have h_:=c6;unfold wrap64 at h_;omega)));clear c6;obtain rfl:=Option.some.inj H;go_enter Tryz.func112,Tryz.ntmps112;go_wp2_with (first|(refine bE 2 #[.string aY, .string bf] 120 ?_;intro ajD hg w7 hbox hb;have VW:=ak (hbox);have ajE:=jY HB hg;have ajF:=jY HB hg;replace HB:=bs HB hb;clear hb hbox hg;obtain⟨vG,zS,vH,zT⟩:=wO VW.out))
   go_ret;exact⟨er,bb⟩
  ·have mW:=decide_eq_false c6
   (try(have yt:decide (((wrap64 (a1-(aY.size:Int)))-(bf.size:Int))<0)=false:=decide_eq_false (by have h_:=c6;unfold wrap64 at h_;omega)));clear c6;obtain rfl:=Option.some.inj H;go_enter Tryz.func112,Tryz.ntmps112;go_wp2_with (first|(refine bE 2 #[.string aY, .string bf] 120 ?_;intro ajD hg w9 hbox hb;have VW:=ak (hbox);have ajE:=jY HB hg;have ajF:=jY HB hg;replace HB:=bs HB hb;clear hb hbox hg;obtain⟨oz,pX,oC,pY⟩:=wO VW.out))
   go_ret;exact⟨er,bb⟩
end Go.Proofs.YtncdadcmghglkaaGreatDoor.PFnExactFormatPart
