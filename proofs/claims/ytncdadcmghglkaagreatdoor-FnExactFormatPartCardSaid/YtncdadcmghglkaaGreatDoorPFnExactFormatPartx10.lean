/- Printed walks; conditions: those in each statement. -/
import Derived.Test.YtncdadcmghglkaaGreatDoorVFnExactFormatPartQt
import Derived.Test.YtncdadcmghglkaaGreatDoorVFnExactFormatPartYt
import Derived.Test.YtncdadcmghglkaaGreatDoorPFnExactFormatPartx0
import Derived.Test.YtncdadcmghglkaaGreatDoorPFnExactFormatPartx2
import Derived.Test.YtncdadcmghglkaaGreatDoorPFnExactFormatPartx8
namespace Go.Proofs.YtncdadcmghglkaaGreatDoor.PFnExactFormatPart
open Go.RowKit Go.Proofs.YtncdadcmghglkaaGreatDoor.X Go.Proofs.YtncdadcmghglkaaGreatDoorW.dB Go.Proofs.YtncdadcmghglkaaGreatDoorW.iy Go.Proofs.YtncdadcmghglkaaGreatDoorW.jo
attribute [local go_sem] lU lV oh oq kJ kK lW lX   -- for this text's walks alone
set_option linter.unusedVariables false
set_option linter.unusedSimpArgs false
mutual
def aJ.j0:Nat→Int→List ByteArray→Bool→List (jl)→List ByteArray→List (pq)→Option (List ByteArray×Bool)
 |0,_,_,_,_,_,_=>none
 |k+1,x1,x6,x27,IG,yS,xA=>if x27=true then(some (([]:List ByteArray),false))else(if x6.length<8796093022208 then((some (x6++[(⟨#[]⟩:ByteArray)]:List ByteArray)).bind fun Ho=>((ku.f k IG yS xA).bind fun Ze=>(if Ze.2=true then(if(yS.length:Int)>0 then(aJ.j1 k x1 Ho Ze.1 true IG yS xA)else(if(xA.length:Int)<1 then(aJ.j1 k x1 Ho Ze.1 true IG yS xA)else(aJ.j1 k x1 Ho Ze.1 (decide ((xA.length:Int)>4)) IG yS xA)))else(if Ho.length+yS.length<8796093022208 then((some (Ho++yS:List ByteArray)).bind fun akU=>(if(xA.length:Int)=0 then((pG.f k yS 30).bind fun akV=>(some (akU,akV)))else(some (akU,false))))else(none)))))else(none))
def aJ.j1:Nat→Int→List ByteArray→ByteArray→Bool→List (jl)→List ByteArray→List (pq)→Option (List ByteArray×Bool)
 |0,_,_,_,_,_,_,_=>none
 |k+1,x1,x6,x8,x66,IG,yS,xA=>if x66=true then(some (([]:List ByteArray),false))else(aJ.l0 k x1 x6 x8 (([]:List (List ByteArray))) xA (xA.length:Int) 0)
def aJ.l0:Nat→Int→List ByteArray→ByteArray→List (List ByteArray)→List (pq)→Int→Int→Option (List ByteArray×Bool)
 |0,_,_,_,_,_,_,_=>none
 |k+1,x1,x6,x8,x10,x69,x70,x71=>if x71<x70 then(if 0≤x71 then(if x71<(x69.length:Int)then((aJ.f k ((bn x69 x71).f0) ((bn x69 x71).f1) ((bn x69 x71).f2) (wrap64 (x1-1))).bind fun ai0=>(if ai0.2=true then(if x10.length<5864062014805 then(aJ.l0 k x1 x6 x8 (x10++[ai0.1]) x69 x70 (wrap64 (x71+1)))else(none))else(some (([]:List ByteArray),false))))else(none))else(none))else((dS.f k x10 x8).bind fun acL=>(if x6.length+acL.1.length<8796093022208 then(some ((x6++acL.1),acL.2))else(none)))
def aJ.f:Nat→List (jl)→List ByteArray→List (pq)→Int→Option (List ByteArray×Bool)
 |0,_,_,_,_=>none
 |k+1,bM,cZ,aC,a1=>(gU.f k bM).bind fun OI=>(if OI.2=true then(aJ.j0 k a1 OI.1 (a1==0) bM cZ aC)else(aJ.j0 k a1 OI.1 true bM cZ aC))
end
def aJ.T7:Bool×List (List Nat×List Nat):=(true,[([],[]),([],[]),([1],[1]),([0,2],[0,2]),([],[]),([4],[4]),([5],[5]),([6],[6]),([7,3],[7]),([8],[8]),([9,8],[8,9]),([10,8,8],[8,10]),([8,11],[8,11]),([3,11,0,1,2,3],[3]),([12,13,0,1,2,3,4,5,6,7,8,9,10,11,12,13],[12])])
def aJ.B7:List Nat:=[0,0,2,7,0,16,48,112,255,511,1023,2047,4095,4095,16383]
theorem aJ.ayw:sZ .any (opsOf Tryz.f66 7)=aJ.T7:=by kernel_rfl
theorem aJ.awe:pW aJ.T7.2 aJ.B7=true:=by kernel_rfl
set_option maxHeartbeats 8000000 in
set_option maxRecDepth 100000 in
theorem aJ.calls(k:Nat):∀(gW:Option Addr) (gX:Nat) (bM:List (jl)) (iM:Option Addr) (iO:Nat) (cZ:List ByteArray) (fF:Option Addr) (dR:Nat) (aC:List (pq)) (a1:Int) (r1:List ByteArray) (r2:Bool) (w:World) (mG:Kd.C pV w gW bM.length bM) (mJ:bM.length≤gX) (mM:Kd.C Kd.string w iM cZ.length cZ) (mO:cZ.length≤iO) (jL:Kd.C k28 w fF aC.length aC) (jM:aC.length≤dR) (rQ:MaxOk w) (h:aJ.f k bM cZ aC a1=some (r1,r2)),
  Calls Tryz.prog 66 #[.agg #[.slice gW bM.length gX, .slice iM cZ.length iO, .slice fF aC.length dR], .int .i64 a1] w fun e w'=>∃wH:Value,e= .returned (.tuple #[wH, .bool r2])∧Kd.R Kd.string 9 w' w.heap.size (fun _=>True) wH r1∧Below w.heap.size w w':=by
 induction k using Nat.strongRecOn with
 |_ k ih=>
 intro gW gX bM iM iO cZ fF dR aC a1 r1 r2 w mG mJ mM mO jL jM rQ h
 cases k with
 |zero=>exact absurd h (by simp[aJ.f])
 |succ k=>
 simp only[aJ.f]at h;have Na:=Tryz.underlying28;have lY:=ak mG;have lZ:=ak mJ;clear mG mJ;have oQ:=ak mM;have qh:=ak mO;clear mM mO;have jc:=ak jL;have kC:=ak jM;clear jL jM;have HG:=ak rQ;clear rQ;have HB:=ak (Below.refl w.heap.size w);have H:((gU.f k bM).bind fun OI=>(if OI.2=true then(aJ.j0 k a1 OI.1 (a1==0) bM cZ aC)else(aJ.j0 k a1 OI.1 true bM cZ aC)))=some (r1,r2):=h;clear h;replace H:=bd H;obtain⟨⟨Xl,akW⟩,A3,H⟩:=H
 (try dsimp only at H);have HC4:=ak H;clear H;go_enter Tryz.func66,Tryz.ntmps66;go_upto_region 2 with(first|(refine bU (N:=2) rfl ?_;(try(refine aZ (by rfl) ?_;dsimp only));refine bE 2 #[.slice gW bM.length gX, .slice iM cZ.length iO, .slice fF aC.length dR] 28 ?_;intro tZ hg w5 hbox hb;have fJ:=ak (hbox);have awf:=jY HB hg;have awg:=jY HB hg;replace HB:=bs HB hb;clear hb hbox hg;obtain⟨yu,yw,Hq,yx,yA,Hr⟩:=jP fJ.out)|(refine gL 39 19 Tryz.func39 #[.slice gW bM.length gX] ?_;(with_reducible refine(gU.calls k _ _ bM Xl akW _ (cu (Kd.aN lY.out HB.out)) lZ.out A3.out).mono ?_);rintro e w7 ⟨af4,rfl,ho0,hb⟩;refine⟨_,rfl,?_⟩;have ai1:=ak (Kd.fA ho0 (aA bb));replace fJ:=kb fJ hb;replace HB:=ak (aG bb hb);(try clear hb);(try clear ho0)))
 (try simp only[Act.put,jI,jJ,l_c]);go_cut [27] (fun v27 wc=>∃(kq:Nat) (acM:Bool),v27= .bool acM∧ah (aJ.j0 kq a1 Xl acM bM cZ aC=some (r1,r2))∧ah (kq≤k)∧ah (Kd.R Kd.string 9 wc w.heap.size (fun _=>True) af4 Xl)∧ah (wc.heap[tZ]? =some (.cells #[(.slice gW bM.length gX),(.slice iM cZ.length iO),(.slice fF aC.length dR)] 28 (0,0)))∧ah (Below w.heap.size w wc))
 case first=>
  have H:=HC4.out;clear HC4;replace H:=sb H;rcases H with⟨rfl,H⟩|⟨rfl,H⟩
  ·have H':=ak H;clear H;go_wp2;go_meet
   case rel=>exact⟨_,((a1==0)),rs,H',⟨Qw⟩,⟨ur ai1.out⟩,⟨ub fJ.out⟩,⟨bb⟩⟩
  ·have H':=ak H;clear H;go_wp2;go_meet
   case rel=>exact⟨_,(true),rs,H',⟨Qw⟩,⟨ur ai1.out⟩,⟨ub fJ.out⟩,⟨bb⟩⟩
 case rest=>
  clear HC4;try clear p2
  try clear c3
  try clear c6
  try clear c8
  try clear yu
  try clear yw
  try clear Hq
  try clear yx
  try clear yA
  try clear Hr
  obtain⟨kq,acM,rfl,HA,Qx,mD,fJ,HB⟩:=hcut
  cases kq with
  |zero=>exact absurd HA.out (by simp[aJ.j0])
  |succ kj3=>
   have H:=HA.out;clear HA;simp only[aJ.j0]at H;replace H:=sb H;rcases H with⟨rfl,H⟩|⟨rfl,H⟩
   ·simp only[Option.some.injEq,Prod.mk.injEq]at H;obtain⟨rfl,rfl⟩:=H;go_wp2;go_ret2;exact⟨_,er,nx,bb⟩
   ·replace H:=nl H;obtain⟨Vr,H⟩:=H;obtain⟨Ho,Zf⟩:=nm (Xl++[(⟨#[]⟩:ByteArray)]);rw[←Zf.out]at H
    (try rw[Option.bind_some]at H);replace H:=bd H;obtain⟨⟨Xm,ayx⟩,A11,H⟩:=H
    (try dsimp only at H);replace H:=sb H;rcases H with⟨rfl,H⟩|⟨rfl,H⟩
    ·have akX:=ak H;clear H;go_upto_region 8 with(first|((with_reducible refine dD (b:= .append) (xs:=#[.tmp 28, .tmp 29]) rfl ?_);(try(refine aZ (by rfl) ?_;dsimp only));at_builtin;refine Kd.iR Kd.string (w0:=w) w.heap.size rfl (.tmp 28) (.tmp 29) 23 9 (.string ⟨#[]⟩) 16 rfl Tryz.underlying23 info9 rfl (by decide) (by omega) af4 Xl (⟨#[]⟩:ByteArray) [.string (⟨#[]⟩:ByteArray)] (fun _=>True) (fun _=>False) rfl rfl ?aP (fun _ hk=>hk.elim) ?aF ?aO ?aB ?aS ?aL ?_;(case aP=>exact rfl);(case aB=>exact bb);(case aF=>exact(fun _ _=>trivial));(case aO=>exact(ur mD.out));(case aS=>exact(aA bb));(case aL=>have:=Vr.out;omega);intro OJ Q9 ho hb hg hat;rw[←Zf.out]at ho;have iH:=ak (iW (g:=tZ) (o:= .cells #[.slice gW bM.length gX, .slice iM cZ.length iO, .slice fF aC.length dR] 28 (0,0)) (ub fJ.out) hg (Kd.AP mD.out fJ.out (by decide)));have iI:=ak (hb);have lS:=ak (ho);clear fJ;clear HB;clear mD;have fJ:=iH;have HB:=iI;have sD:=lS;clear iH iI lS;clear ho hb hg hat;obtain⟨lI,lJ,qM,lK,lM,qN⟩:=jP fJ.out)|(refine gL 101 33 Tryz.func101 #[.agg #[.slice gW bM.length gX, .slice iM cZ.length iO, .slice fF aC.length dR]] ?_;(with_reducible refine(ku.calls kj3 _ _ bM _ _ cZ _ _ aC Xm true _ ?kX ?nG ?xM ?xO ?xP ?xQ ?xR A11.out).mono ?_);(case kX=>repeat(first|exact(Kd.aN lY.out HB.out)|(with_reducible refine Kd.iP ?_ _)|(with_reducible refine Kd.iQ ?_ _)|(with_reducible refine Kd.jK ?_)));(case nG=>exact lZ.out);(case xM=>repeat(first|exact(Kd.aN oQ.out HB.out)|(with_reducible refine Kd.iP ?_ _)|(with_reducible refine Kd.iQ ?_ _)|(with_reducible refine Kd.jK ?_)));(case xO=>exact qh.out);(case xP=>repeat(first|exact(Kd.aN jc.out HB.out)|(with_reducible refine Kd.iP ?_ _)|(with_reducible refine Kd.iQ ?_ _)|(with_reducible refine Kd.jK ?_)));(case xQ=>exact kC.out);(case xR=>first|exact HG.out|exact MaxOk.below HG.out bb|(repeat(first|exact HG.out|apply MaxOk.drewN|apply MaxOk.drew)));rintro e w16 ⟨rfl,hb⟩;refine⟨_,rfl,?_⟩;replace sD:=rb sD hb;replace fJ:=kb fJ hb;replace HB:=ak (aG bb hb);(try clear hb)))
     (try simp only[Act.put,jI,jJ,l_c]);go_cut [66] (fun v66 wc=>∃(kq:Nat) (Xn:Bool),v66= .bool Xn∧ah (aJ.j1 kq a1 Ho Xm Xn bM cZ aC=some (r1,r2))∧ah (kq≤kj3)∧ah (Kd.R Kd.string 9 wc w.heap.size (fun _=>True) OJ Ho)∧ah (wc.heap[tZ]? =some (.cells #[(.slice gW bM.length gX),(.slice iM cZ.length iO),(.slice fF aC.length dR)] 28 (0,0)))∧ah (Below w.heap.size w wc))
     case first=>
      have H:=akX.out;clear akX;replace H:=sp H;rcases H with⟨c17,H⟩|⟨c17,H⟩
      ·have qE:decide (0<(cZ.length:Int))=true:=decide_eq_true c17;have II:decide (0<cZ.length)=true:=decide_eq_true (by omega);clear c17
       (first|rw[qE]|(simp only[bC,bH];rw[qE])|skip);have H':=ak H;clear H;obtain⟨tq,tu,uG,tC,tH,uH⟩:=jP fJ.out;go_wp2;go_meet
       case rel=>exact⟨_,(true),rs,H',⟨by have:=Qx.out;first|omega|exact Nat.le_refl _⟩,⟨ur sD.out⟩,⟨ub fJ.out⟩,⟨bb⟩⟩
      ·have qE:decide (0<(cZ.length:Int))=false:=decide_eq_false c17;have II:decide (0<cZ.length)=false:=decide_eq_false (by omega);clear c17
       (first|rw[qE]|(simp only[bC,bH];rw[qE])|skip);replace H:=sp H;rcases H with⟨c19,H⟩|⟨c19,H⟩
       ·have yH:=decide_eq_true c19;have AY:decide (aC.length<1)=true:=decide_eq_true (by omega);clear c19;have H':=ak H;clear H;obtain⟨uX,uY,uZ,u_,vk,vw⟩:=jP fJ.out;go_wp2;go_meet
        case rel=>exact⟨_,(true),rs,H',⟨by have:=Qx.out;first|omega|exact Nat.le_refl _⟩,⟨ur sD.out⟩,⟨ub fJ.out⟩,⟨bb⟩⟩
       ·have yH:=decide_eq_false c19;have AY:decide (aC.length<1)=false:=decide_eq_false (by omega);clear c19;have H':=ak H;clear H;obtain⟨AZ,A_,Ba,Bc,Bd,Bf⟩:=jP fJ.out;go_wp2;go_meet
        case rel=>exact⟨_,(decide ((aC.length:Int)>4)),rs,H',⟨by have:=Qx.out;first|omega|exact Nat.le_refl _⟩,⟨ur sD.out⟩,⟨ub fJ.out⟩,⟨bb⟩⟩
     case rest=>
      clear akX;try clear c1
      try clear p2
      try clear c3
      try clear c6
      try clear c8
      try clear c9
      try clear c10
      try clear c12
      try clear c17
      try clear qE
      try clear II
      try clear c19
      try clear yH
      try clear AY
      try clear lI
      try clear lJ
      try clear qM
      try clear tq
      try clear tu
      try clear uG
      try clear uX
      try clear uY
      try clear uZ
      try clear AZ
      try clear A_
      try clear Ba
      try clear yu
      try clear yw
      try clear Hq
      try clear lK
      try clear lM
      try clear qN
      try clear tC
      try clear tH
      try clear uH
      try clear u_
      try clear vk
      try clear vw
      try clear Bc
      try clear Bd
      try clear Bf
      try clear yx
      try clear yA
      try clear Hr
      try clear p2
      obtain⟨kq,Xn,rfl,HA,acN,mD,fJ,HB⟩:=hcut
      cases kq with
      |zero=>exact absurd HA.out (by simp[aJ.j1])
      |succ an0=>
       have H:=HA.out;clear HA;simp only[aJ.j1]at H;replace H:=sb H;rcases H with⟨rfl,H⟩|⟨rfl,H⟩
       ·simp only[Option.some.injEq,Prod.mk.injEq]at H;obtain⟨rfl,rfl⟩:=H;go_wp2;go_ret2;exact⟨_,er,nx,bb⟩
       ·obtain⟨atK,acO⟩:=nm ([]:List (List ByteArray));rw[←acO.out]at H
        (try rw[Option.bind_some]at H);have H':=ak H;clear H;go_wp2_with (first|((with_reducible refine bU (N:=67) rfl ?_);(try(refine aZ (by rfl) ?_;dsimp only));refine Kd.ai2 (Kd.slice 9 Kd.string) _ 23 ?hg (N:=67) ?hd (xs:=([]:List (List ByteArray))) (inner:=[]) (ok:=fun _=>True) (pz:=fun _=>True) ?hr ?hp (fun _ hk=>hk) trivial (Below.refl _ _) (Nat.le_refl _) (by simp) ?_;(case hd=>rfl);(case hg=>rfl);(case hr=>first|(go_simp;done)|(go_simp;rfl));(case hp=>exact(iF.none _ _));intro ayy w23 Nb hb rQ jw;clear rQ jw;(first|rw[←acO.out]at Nb|(simp only[Int.reduceToNat]at Nb;rw[←acO.out]at Nb));have an1:=ak (Kd.Zg (Kd.acP Nb (Kd.yB (ur mD.out))) (aA bb));replace mD:=rb mD hb;replace fJ:=kb fJ hb;replace HB:=ak (aG bb hb);clear hb Nb;obtain⟨Zh,Zi,Zj,Zk,Zl,Zm⟩:=jP fJ.out))
        go_loopg [10,71] an0 (fun kq v10 v71 w'=>∃(OL:List (List ByteArray)) (jG:Int),v71= .int .i64 jG∧ah (aJ.l0 kq a1 Ho Xm OL aC (aC.length:Int) jG=some (r1,r2))∧ah (kq≤an0)∧ah (Kd.R Kd.string 9 w' w.heap.size (fun _=>True) OJ Ho)∧ah (Kd.S (Kd.slice 9 Kd.string) 23 w' w.heap.size (fun k_=>some k_≠(OJ:Value).ownBlock) v10 OL)∧ah (w'.heap[tZ]? =some (.cells #[(.slice gW bM.length gX),(.slice iM cZ.length iO),(.slice fF aC.length dR)] 28 (0,0)))∧ah (Below w.heap.size w w'))
        case atStart=>exact⟨(atK),(0),rs,H',⟨Nat.le_refl _⟩,⟨ur mD.out⟩,⟨by(with_reducible repeat(first|apply Kd.o7|apply Kd.o8|apply Kd.sF));exact Kd.Dt an1.out (fun _ hk=>hk.2)⟩,⟨ub fJ.out⟩,⟨bb⟩⟩
        case round=>
         clear H';try clear c1
         try clear c2
         try clear p2
         try clear c3
         try clear c6
         try clear c8
         try clear c9
         try clear c10
         try clear c12
         try clear c17
         try clear qE
         try clear II
         try clear c19
         try clear yH
         try clear AY
         try clear c22
         try clear lI
         try clear lJ
         try clear qM
         try clear tq
         try clear tu
         try clear uG
         try clear uX
         try clear uY
         try clear uZ
         try clear AZ
         try clear A_
         try clear Ba
         try clear Zh
         try clear Zi
         try clear Zj
         try clear yu
         try clear yw
         try clear Hq
         try clear lK
         try clear lM
         try clear qN
         try clear tC
         try clear tH
         try clear uH
         try clear u_
         try clear vk
         try clear vw
         try clear Bc
         try clear Bd
         try clear Bf
         try clear Zk
         try clear Zl
         try clear Zm
         try clear yx
         try clear yA
         try clear Hr
         try clear p2
         obtain⟨OL,jG,rfl,HA,GX,mD,sG,fJ,HB⟩:=hrel
         cases gk with
         |zero=>exact absurd HA.out (by simp[aJ.l0])
         |succ k3=>
          have H:=HA.out;clear HA;simp only[aJ.l0]at H;replace H:=sd H;rcases H with⟨OM,H⟩|⟨OM,H⟩
          ·replace H:=og H;obtain⟨IJ,H⟩:=H;replace H:=og H;obtain⟨GY,H⟩:=H;replace H:=bd H;obtain⟨⟨abu,ayz⟩,A29,H⟩:=H
           (try dsimp only at H);replace H:=sb H;rcases H with⟨rfl,H⟩|⟨rfl,H⟩
           ·replace H:=nl H;obtain⟨acQ,H⟩:=H;obtain⟨atL,ai3⟩:=nm (OL++[abu]);rw[←ai3.out]at H
            (try rw[Option.bind_some]at H);have H':=ak H;clear H;have Xo:=zi jG;have Xp:=zj jG aC.length;obtain⟨Zn,um,uo,vC,vF,yC,yD,e336,IK,IL,IQ,IU,IV,IW,IX,IY,IZ⟩:=BR jc.out jG Xo Xp;cases e336;replace IK:=cl HB.out IK;replace IL:=cl HB.out IL;replace IQ:=cl HB.out IQ;have S9:=ak IV;have S_:=ak IU;clear IV IU;have Tc:=ak IX;have Td:=ak IW;clear IX IW;have Tf:=ak IZ;have Ti:=ak IY;clear IZ IY;replace Xo:=eq_true Xo;replace Xp:=eq_true Xp;go_wp2_with (first|(refine bU (N:=12) rfl ?_;(try(refine aZ (by rfl) ?_;dsimp only));refine bE 12 #[.slice none 0 0, .slice none 0 0, .slice none 0 0] 28 ?_;intro oU hg w32 hbox hb;have xU:=ak (hbox);have an2:=ak ((by rw[hg];exact(aA bb):w.heap.size≤oU));have an3:=ak ((by rw[hg];exact(aA bb):w.heap.size≤oU));have tJ:=ak ((by rw[hg];exact Nat.ne_of_lt (fC (ub fJ.out)):tZ≠oU));have Lj:=ak ((by rw[hg];exact Nat.ne_of_gt (fC (ub fJ.out)):oU≠tZ));replace mD:=rb mD hb;replace sG:=ak (Kd.I4 (by(with_reducible repeat(first|apply Kd.o7|apply Kd.o8|apply Kd.sF));exact sG.out) hb);replace fJ:=kb fJ hb;replace HB:=ak (aG bb hb);clear hb hbox hg;have an4:=Lj.out;have an5:=tJ.out;obtain⟨NP,NQ,Tj,NR,NS,Tm⟩:=jP xU.out)|(refine gL 66 79 Tryz.func66 #[.agg #[.slice um ((bn aC jG).f0).length uo, .slice vC ((bn aC jG).f1).length vF, .slice yC ((bn aC jG).f2).length yD], .int .i64 (wrap64 (a1-1))] ?_;(with_reducible refine(ih k3 (by have:=Qx.out;have:=acN.out;have:=GX.out;omega) _ _ ((bn aC jG).f0) _ _ ((bn aC jG).f1) _ _ ((bn aC jG).f2) (wrap64 (a1-1)) abu true _ ?kX ?nG ?xM ?xO ?xP ?xQ ?xR A29.out).mono ?_);(case kX=>exact Kd.aN S9.out bb);(case nG=>exact S_.out);(case xM=>exact Kd.aN Tc.out bb);(case xO=>exact Td.out);(case xP=>exact Kd.aN Tf.out bb);(case xQ=>exact Ti.out);(case xR=>first|exact HG.out|exact MaxOk.below HG.out bb|(repeat(first|exact HG.out|apply MaxOk.drewN|apply MaxOk.drew)));rintro e w35 ⟨atM,rfl,ho0,hb⟩;refine⟨_,rfl,?_⟩;have Vs:=ak (Kd.fA (Kd.rE ho0 (Kd.yB (ur (Kd.dM (Kd.gZ (p:=⟨oU,2,none⟩) (Kd.gZ (p:=⟨oU,1,none⟩) (Kd.gZ (p:=⟨oU,0,none⟩) (Kd.jr mD.out xU.out (by decide)) (fun _ hk=>hk.2) (.slice um ((bn aC jG).f0).length uo)) (fun _ hk=>hk.2) (.slice vC ((bn aC jG).f1).length vF)) (fun _ hk=>hk.2) (.slice yC ((bn aC jG).f2).length yD)) (fun _ h_=>h_.1))))) (aA bb));replace mD:=ak (Kd.oN (ur (Kd.dM (Kd.gZ (p:=⟨oU,2,none⟩) (Kd.gZ (p:=⟨oU,1,none⟩) (Kd.gZ (p:=⟨oU,0,none⟩) (Kd.jr mD.out xU.out (by decide)) (fun _ hk=>hk.2) (.slice um ((bn aC jG).f0).length uo)) (fun _ hk=>hk.2) (.slice vC ((bn aC jG).f1).length vF)) (fun _ hk=>hk.2) (.slice yC ((bn aC jG).f2).length yD)) (fun _ h_=>h_.1))) (Kd.oO ho0) hb);replace sG:=ak (Kd.EZ (by(with_reducible repeat(first|apply Kd.o7|apply Kd.o8|apply Kd.sF));exact(Kd.Dt (Kd.Q_ (p:=⟨oU,2,none⟩) (Kd.Q_ (p:=⟨oU,1,none⟩) (Kd.Q_ (p:=⟨oU,0,none⟩) (Kd.Zo sG.out xU.out (by decide)) (fun _ hk=>hk.2) (.slice um ((bn aC jG).f0).length uo)) (fun _ hk=>hk.2) (.slice vC ((bn aC jG).f1).length vF)) (fun _ hk=>hk.2) (.slice yC ((bn aC jG).f2).length yD)) (fun _ h_=>h_.1))) (Kd.oO ho0) hb);replace fJ:=ak (iD (g:=tZ) (o:= .cells #[.slice gW bM.length gX, .slice iM cZ.length iO, .slice (some Zn) aC.length dR] 28 (0,0)) (by(with_reducible repeat(first|refine au ?_ _|refine ay ?_|refine aj ?_ _));refine f_ ?_ tJ.out _;(with_reducible repeat(first|refine au ?_ _|refine ay ?_|refine aj ?_ _));refine f_ ?_ tJ.out _;(with_reducible repeat(first|refine au ?_ _|refine ay ?_|refine aj ?_ _));refine f_ ?_ tJ.out _;(with_reducible repeat(first|refine au ?_ _|refine ay ?_|refine aj ?_ _));exact fJ.out) hb);replace xU:=ak (iD (g:=oU) (o:= .cells #[.slice um ((bn aC jG).f0).length uo, .slice vC ((bn aC jG).f1).length vF, .slice yC ((bn aC jG).f2).length yD] 28 (0,0)) (by(with_reducible repeat(first|refine au ?_ _|refine ay ?_|refine aj ?_ _));refine bK (cs:=#[.slice um ((bn aC jG).f0).length uo, .slice vC ((bn aC jG).f1).length vF, .slice none 0 0]) ?_ 2 _ rfl;(with_reducible repeat(first|refine au ?_ _|refine ay ?_|refine aj ?_ _));refine bK (cs:=#[.slice um ((bn aC jG).f0).length uo, .slice none 0 0, .slice none 0 0]) ?_ 1 _ rfl;(with_reducible repeat(first|refine au ?_ _|refine ay ?_|refine aj ?_ _));refine bK (cs:=#[.slice none 0 0, .slice none 0 0, .slice none 0 0]) ?_ 0 _ rfl;(with_reducible repeat(first|refine au ?_ _|refine ay ?_|refine aj ?_ _));exact xU.out) hb);replace HB:=ak (aG bb hb);(try clear hb);(try clear ho0);obtain⟨abv,abw,abx⟩:=Kd.eU Vs.out;subst abx)|((with_reducible refine dD (b:= .append) (xs:=#[.tmp 84, .tmp 86]) rfl ?_);(try(refine aZ (by rfl) ?_;dsimp only));at_builtin;refine Kd.Vt (Kd.slice 9 Kd.string) (w0:=w) w.heap.size rfl (.tmp 84) (.tmp 86) 65 23 (.slice none 0 0) 24 rfl Tryz.underlying65 info23 rfl (by decide) (by omega) u10 OL abu [.slice abv abu.length abw] (fun k_=>some k_≠(OJ:Value).ownBlock) (fun k_=>some k_=(.slice abv abu.length abw:Value).ownBlock) rfl rfl ?aP (fun k_ hk_=>((Kd.dM (ok':=fun k_=>((fun k_=>some k_≠(OJ:Value).ownBlock)) k_∧some k_≠(u10:Value).ownBlock) (Kd.Ci (Vs.out) (Kd.Gi sG.out) (by decide)) (fun k_ hk=>⟨hk.1.2,hk.2⟩))).1 k_ hk_.symm) ?aF ?aO ?aB ?aS ?aL ?_;(case aP=>exact Kd.ai4 (Kd.dM (Kd.Zp rfl (Kd.dM (ok':=fun k_=>((fun k_=>some k_≠(OJ:Value).ownBlock)) k_∧some k_≠(u10:Value).ownBlock) (Kd.Ci (Vs.out) (Kd.Gi sG.out) (by decide)) (fun k_ hk=>⟨hk.1.2,hk.2⟩))) (fun _ h_=>h_)));(case aB=>exact bb);(case aF=>exact(fun k_ hk=>Kd.fresh' (Kd.yB (ur mD.out)) k_ hk));(case aO=>exact(by(with_reducible repeat(first|apply Kd.o7|apply Kd.o8|apply Kd.sF));exact Kd.Dt sG.out (fun k_ hk=>⟨hk.1,fun e_=>hk.2 e_⟩)));(case aS=>exact(aA bb));(case aL=>have:=acQ.out;omega);intro ayA w36 ho hb hg hat;rw[←ai3.out]at ho;have iH:=ak (Kd.NT (ur mD.out) (Kd.Gi (by(with_reducible repeat(first|apply Kd.o7|apply Kd.o8|apply Kd.sF));exact sG.out)) (by decide) hg);have iI:=ak (iW (g:=tZ) (o:= .cells #[.slice gW bM.length gX, .slice iM cZ.length iO, .slice (some Zn) aC.length dR] 28 (0,0)) (ub fJ.out) hg (Kd.akY sG.out fJ.out (by decide)));have lS:=ak (iW (g:=oU) (o:= .cells #[.slice um ((bn aC jG).f0).length uo, .slice vC ((bn aC jG).f1).length vF, .slice yC ((bn aC jG).f2).length yD] 28 (0,0)) (ub xU.out) hg (Kd.akY sG.out xU.out (by decide)));have OO:=ak (hb);have Zq:=ak (ho);clear mD;clear fJ;clear xU;clear HB;clear sG;clear Vs;have mD:=iH;have fJ:=iI;have xU:=lS;have HB:=OO;have an6:=Zq;clear iH iI lS OO Zq;clear ho hb hg hat))
            go_roundg k3
            case measure=>have:=Qx.out;have:=acN.out;have:=GX.out;omega
            case rel=>exact⟨(atL),(wrap64 (jG+1)),rs,H',⟨by have:=Qx.out;have:=acN.out;have:=GX.out;omega⟩,⟨ur (Kd.dM mD.out (fun _ hk=>trivial))⟩,⟨by(with_reducible repeat(first|apply Kd.o7|apply Kd.o8|apply Kd.sF));exact an6.out⟩,⟨ub fJ.out⟩,⟨bb⟩⟩
           ·simp only[Option.some.injEq,Prod.mk.injEq]at H;obtain⟨rfl,rfl⟩:=H;have Xo:=zi jG;have Xp:=zj jG aC.length;obtain⟨Zn,um,uo,vC,vF,yC,yD,e336,IK,IL,IQ,IU,IV,IW,IX,IY,IZ⟩:=BR jc.out jG Xo Xp;cases e336;replace IK:=cl HB.out IK;replace IL:=cl HB.out IL;replace IQ:=cl HB.out IQ;have S9:=ak IV;have S_:=ak IU;clear IV IU;have Tc:=ak IX;have Td:=ak IW;clear IX IW;have Tf:=ak IZ;have Ti:=ak IY;clear IZ IY;replace Xo:=eq_true Xo;replace Xp:=eq_true Xp;go_wp2_with (first|(refine bU (N:=12) rfl ?_;(try(refine aZ (by rfl) ?_;dsimp only));refine bE 12 #[.slice none 0 0, .slice none 0 0, .slice none 0 0] 28 ?_;intro oU hg w38 hbox hb;have xU:=ak (hbox);have an2:=ak ((by rw[hg];exact(aA bb):w.heap.size≤oU));have an3:=ak ((by rw[hg];exact(aA bb):w.heap.size≤oU));have tJ:=ak ((by rw[hg];exact Nat.ne_of_lt (fC (ub fJ.out)):tZ≠oU));have Lj:=ak ((by rw[hg];exact Nat.ne_of_gt (fC (ub fJ.out)):oU≠tZ));replace mD:=rb mD hb;replace sG:=ak (Kd.I4 (by(with_reducible repeat(first|apply Kd.o7|apply Kd.o8|apply Kd.sF));exact sG.out) hb);replace fJ:=kb fJ hb;replace HB:=ak (aG bb hb);clear hb hbox hg;have awh:=Lj.out;have awi:=tJ.out;obtain⟨arX,arY,arZ,ar0,ar1,ar2⟩:=jP xU.out)|(refine gL 66 79 Tryz.func66 #[.agg #[.slice um ((bn aC jG).f0).length uo, .slice vC ((bn aC jG).f1).length vF, .slice yC ((bn aC jG).f2).length yD], .int .i64 (wrap64 (a1-1))] ?_;(with_reducible refine(ih k3 (by have:=Qx.out;have:=acN.out;have:=GX.out;omega) _ _ ((bn aC jG).f0) _ _ ((bn aC jG).f1) _ _ ((bn aC jG).f2) (wrap64 (a1-1)) abu false _ ?kX ?nG ?xM ?xO ?xP ?xQ ?xR A29.out).mono ?_);(case kX=>exact Kd.aN S9.out bb);(case nG=>exact S_.out);(case xM=>exact Kd.aN Tc.out bb);(case xO=>exact Td.out);(case xP=>exact Kd.aN Tf.out bb);(case xQ=>exact Ti.out);(case xR=>first|exact HG.out|exact MaxOk.below HG.out bb|(repeat(first|exact HG.out|apply MaxOk.drewN|apply MaxOk.drew)));rintro e w41 ⟨atM,rfl,ho0,hb⟩;refine⟨_,rfl,?_⟩;have Vs:=ak (Kd.fA (Kd.rE ho0 (Kd.yB (ur (Kd.dM (Kd.gZ (p:=⟨oU,2,none⟩) (Kd.gZ (p:=⟨oU,1,none⟩) (Kd.gZ (p:=⟨oU,0,none⟩) (Kd.jr mD.out xU.out (by decide)) (fun _ hk=>hk.2) (.slice um ((bn aC jG).f0).length uo)) (fun _ hk=>hk.2) (.slice vC ((bn aC jG).f1).length vF)) (fun _ hk=>hk.2) (.slice yC ((bn aC jG).f2).length yD)) (fun _ h_=>h_.1))))) (aA bb));replace mD:=ak (Kd.oN (ur (Kd.dM (Kd.gZ (p:=⟨oU,2,none⟩) (Kd.gZ (p:=⟨oU,1,none⟩) (Kd.gZ (p:=⟨oU,0,none⟩) (Kd.jr mD.out xU.out (by decide)) (fun _ hk=>hk.2) (.slice um ((bn aC jG).f0).length uo)) (fun _ hk=>hk.2) (.slice vC ((bn aC jG).f1).length vF)) (fun _ hk=>hk.2) (.slice yC ((bn aC jG).f2).length yD)) (fun _ h_=>h_.1))) (Kd.oO ho0) hb);replace sG:=ak (Kd.EZ (by(with_reducible repeat(first|apply Kd.o7|apply Kd.o8|apply Kd.sF));exact(Kd.Dt (Kd.Q_ (p:=⟨oU,2,none⟩) (Kd.Q_ (p:=⟨oU,1,none⟩) (Kd.Q_ (p:=⟨oU,0,none⟩) (Kd.Zo sG.out xU.out (by decide)) (fun _ hk=>hk.2) (.slice um ((bn aC jG).f0).length uo)) (fun _ hk=>hk.2) (.slice vC ((bn aC jG).f1).length vF)) (fun _ hk=>hk.2) (.slice yC ((bn aC jG).f2).length yD)) (fun _ h_=>h_.1))) (Kd.oO ho0) hb);replace fJ:=ak (iD (g:=tZ) (o:= .cells #[.slice gW bM.length gX, .slice iM cZ.length iO, .slice (some Zn) aC.length dR] 28 (0,0)) (by(with_reducible repeat(first|refine au ?_ _|refine ay ?_|refine aj ?_ _));refine f_ ?_ tJ.out _;(with_reducible repeat(first|refine au ?_ _|refine ay ?_|refine aj ?_ _));refine f_ ?_ tJ.out _;(with_reducible repeat(first|refine au ?_ _|refine ay ?_|refine aj ?_ _));refine f_ ?_ tJ.out _;(with_reducible repeat(first|refine au ?_ _|refine ay ?_|refine aj ?_ _));exact fJ.out) hb);replace xU:=ak (iD (g:=oU) (o:= .cells #[.slice um ((bn aC jG).f0).length uo, .slice vC ((bn aC jG).f1).length vF, .slice yC ((bn aC jG).f2).length yD] 28 (0,0)) (by(with_reducible repeat(first|refine au ?_ _|refine ay ?_|refine aj ?_ _));refine bK (cs:=#[.slice um ((bn aC jG).f0).length uo, .slice vC ((bn aC jG).f1).length vF, .slice none 0 0]) ?_ 2 _ rfl;(with_reducible repeat(first|refine au ?_ _|refine ay ?_|refine aj ?_ _));refine bK (cs:=#[.slice um ((bn aC jG).f0).length uo, .slice none 0 0, .slice none 0 0]) ?_ 1 _ rfl;(with_reducible repeat(first|refine au ?_ _|refine ay ?_|refine aj ?_ _));refine bK (cs:=#[.slice none 0 0, .slice none 0 0, .slice none 0 0]) ?_ 0 _ rfl;(with_reducible repeat(first|refine au ?_ _|refine ay ?_|refine aj ?_ _));exact xU.out) hb);replace HB:=ak (aG bb hb);(try clear hb);(try clear ho0)))
            go_ret2;exact⟨_,er,nx,bb⟩
          ·replace H:=bd H;obtain⟨⟨acR,atN⟩,A42,H⟩:=H
           (try dsimp only at H);replace H:=nl H;obtain⟨an7,H⟩:=H;obtain⟨ayB,ai5⟩:=nm (Ho++acR);rw[←ai5.out]at H
           (try rw[Option.bind_some]at H);simp only[Option.some.injEq,Prod.mk.injEq]at H;obtain⟨rfl,rfl⟩:=H;obtain⟨af5,af6,akZ⟩:=Kd.Zr sG.out;subst akZ;go_wp2_with (first|(refine gL 106 92 Tryz.func106 #[.slice af5 OL.length af6, .string Xm] ?_;(with_reducible refine(dS.calls k3 _ _ OL Xm acR atN _ (cu ((Kd.I5 sG.out).2.2)) ((Kd.I5 sG.out).2.1) A42.out).mono ?_);rintro e w45 ⟨ayC,rfl,ho0,hb⟩;refine⟨_,rfl,?_⟩;have Rf:=ak (Kd.fA (Kd.rE ho0 (Kd.yB (ur mD.out))) (aA bb));replace mD:=ak (Kd.oN (ur mD.out) (Kd.oO ho0) hb);replace sG:=ak (Kd.EZ (by(with_reducible repeat(first|apply Kd.o7|apply Kd.o8|apply Kd.sF));exact sG.out) (Kd.oO ho0) hb);replace fJ:=kb fJ hb;replace HB:=ak (aG bb hb);(try clear hb);(try clear ho0);obtain⟨an8,an9,atO⟩:=Kd.eU Rf.out;subst atO)|((with_reducible refine dD (b:= .append) (xs:=#[.tmp 95, .tmp 96]) rfl ?_);(try(refine aZ (by rfl) ?_;dsimp only));at_builtin;refine Kd.ru Kd.string (w0:=w) w.heap.size rfl (.tmp 95) (.tmp 96) 23 9 (.string ⟨#[]⟩) 16 rfl Tryz.underlying23 info9 rfl (by decide) (by omega) OJ Ho acR _ _ _ (fun k_=>some k_≠(.slice an8 acR.length an9:Value).ownBlock) (fun _=>False) rfl rfl ?aO ?aR (fun _ _ h=>h) (fun _ h=>h.elim) ?aF ?aB ?aS ?aL ?_;(case aR=>repeat(first|exact(Kd.dK Rf.out).2.2|(with_reducible refine Kd.iP ?_ _)|(with_reducible refine Kd.iQ ?_ _)|(with_reducible refine Kd.jK ?_)));(case aB=>exact bb);(case aF=>exact(fun k_ hk=>Kd.fresh' (Kd.yB (ur Rf.out)) k_ hk));(case aO=>exact(ur (Kd.dM mD.out (fun _ hk=>hk.2))));(case aS=>exact(aA bb));(case aL=>have:=an7.out;omega);intro ayD w46 ho hb hg hat;rw[←ai5.out]at ho;have iH:=ak (Kd.Zt (ok:=(fun k_=>some k_≠(.slice an8 acR.length an9:Value).ownBlock)) (by(with_reducible repeat(first|apply Kd.o7|apply Kd.o8|apply Kd.sF));exact Kd.Dt sG.out (fun _ hk=>⟨hk.2,hk.1⟩)) hg hat);have iI:=ak (iW (g:=tZ) (o:= .cells #[.slice gW bM.length gX, .slice iM cZ.length iO, .slice fF aC.length dR] 28 (0,0)) (ub fJ.out) hg (Kd.AP mD.out fJ.out (by decide)));have lS:=ak (Kd.I7 (ok:=(fun _=>True)) (ur Rf.out) hg hat);have OO:=ak (hb);have Zq:=ak (ho);clear sG;clear fJ;clear Rf;clear HB;clear mD;have sG:=iH;have fJ:=iI;have Rf:=lS;have HB:=OO;have an_:=Zq;clear iH iI lS OO Zq;clear ho hb hg hat))
           go_ret2;exact⟨_,er,ur (Kd.dM an_.out (fun _ hk=>trivial)),bb⟩
    ·replace H:=nl H;obtain⟨ai6,H⟩:=H;obtain⟨akU,acS⟩:=nm (Ho++cZ);rw[←acS.out]at H
     (try rw[Option.bind_some]at H);replace H:=sp H;rcases H with⟨c49,H⟩|⟨c49,H⟩
     ·have aoa:=beq_iff_eq.mpr c49;have aob:=bne_eq_false_iff_eq.mpr c49;clear c49;replace H:=bd H;obtain⟨akV,A50,H⟩:=H;simp only[Option.some.injEq,Prod.mk.injEq]at H;obtain⟨rfl,rfl⟩:=H;try go_wp2_with (first|((with_reducible refine dD (b:= .append) (xs:=#[.tmp 28, .tmp 29]) rfl ?_);(try(refine aZ (by rfl) ?_;dsimp only));at_builtin;refine Kd.iR Kd.string (w0:=w) w.heap.size rfl (.tmp 28) (.tmp 29) 23 9 (.string ⟨#[]⟩) 16 rfl Tryz.underlying23 info9 rfl (by decide) (by omega) af4 Xl (⟨#[]⟩:ByteArray) [.string (⟨#[]⟩:ByteArray)] (fun _=>True) (fun _=>False) rfl rfl ?aP (fun _ hk=>hk.elim) ?aF ?aO ?aB ?aS ?aL ?_;(case aP=>exact rfl);(case aB=>exact bb);(case aF=>exact(fun _ _=>trivial));(case aO=>exact(ur mD.out));(case aS=>exact(aA bb));(case aL=>have:=Vr.out;omega);intro OJ w51 ho hb hg hat;rw[←Zf.out]at ho;have iH:=ak (iW (g:=tZ) (o:= .cells #[.slice gW bM.length gX, .slice iM cZ.length iO, .slice fF aC.length dR] 28 (0,0)) (ub fJ.out) hg (Kd.AP mD.out fJ.out (by decide)));have iI:=ak (hb);have lS:=ak (ho);clear fJ;clear HB;clear mD;have fJ:=iH;have HB:=iI;have sD:=lS;clear iH iI lS;clear ho hb hg hat;obtain⟨Tn,Tq,Tt,Tv,Tz,TA⟩:=jP fJ.out)|(refine gL 101 33 Tryz.func101 #[.agg #[.slice gW bM.length gX, .slice iM cZ.length iO, .slice fF aC.length dR]] ?_;(with_reducible refine(ku.calls kj3 _ _ bM _ _ cZ _ _ aC Xm false _ ?kX ?nG ?xM ?xO ?xP ?xQ ?xR A11.out).mono ?_);(case kX=>repeat(first|exact(Kd.aN lY.out HB.out)|(with_reducible refine Kd.iP ?_ _)|(with_reducible refine Kd.iQ ?_ _)|(with_reducible refine Kd.jK ?_)));(case nG=>exact lZ.out);(case xM=>repeat(first|exact(Kd.aN oQ.out HB.out)|(with_reducible refine Kd.iP ?_ _)|(with_reducible refine Kd.iQ ?_ _)|(with_reducible refine Kd.jK ?_)));(case xO=>exact qh.out);(case xP=>repeat(first|exact(Kd.aN jc.out HB.out)|(with_reducible refine Kd.iP ?_ _)|(with_reducible refine Kd.iQ ?_ _)|(with_reducible refine Kd.jK ?_)));(case xQ=>exact kC.out);(case xR=>first|exact HG.out|exact MaxOk.below HG.out bb|(repeat(first|exact HG.out|apply MaxOk.drewN|apply MaxOk.drew)));rintro e w53 ⟨rfl,hb⟩;refine⟨_,rfl,?_⟩;replace sD:=rb sD hb;replace fJ:=kb fJ hb;replace HB:=ak (aG bb hb);(try clear hb)))
      replace sD:=ak (Kd.zO sD.out);replace fJ:=ak (ay fJ.out);replace HB:=ak (eY HB.out);refine ro [3,11] [0,1,4,2,5,6,7,3,8,9,10,11,12,13,14] (fun w'=>w'.cell? ⟨tZ,0,none⟩=some (.slice gW bM.length gX)∧w'.cell? ⟨tZ,1,none⟩=some (.slice iM cZ.length iO)∧w'.cell? ⟨tZ,2,none⟩=some (.slice fF aC.length dR)) ⟨(aI fJ.out 0).trans rfl,(aI fJ.out 1).trans rfl,(aI fJ.out 2).trans rfl⟩ ?_
      generalize w53.drew=w54 at sD fJ HB⊢
      repeat(refine lk (v:=?_) (a':=?_) (gk.trans rfl) rfl rfl ?_ ?_ ?_;rotate_left;(focus (rintro w' ⟨s0,s1,s2⟩;go_simp;with_reducible rfl));rotate_left;(focus (simp only[Act.put,jI,jJ,l_c,bC,bH];rfl)))
      refine ld (N:=some 41) (gk.trans rfl) rfl rfl (fun K hK=>?_);refine Kd.zQ Kd.string (w0:=w) w.heap.size (by rfl) (.tmp 38) (.tmp 40) 23 9 (.string ⟨#[]⟩) 16 rfl Tryz.underlying23 info9 rfl (by decide) (by omega) OJ Ho cZ _ _ _ (fun _=>True) (fun _=>False) rfl rfl ?aO ?aR (fun _ _ h=>h) (fun _ h=>h.elim) ?aF ?aB ?aS ?aL ?_
      (case aR=>repeat(first|exact(Kd.aN oQ.out HB.out)|(with_reducible refine Kd.iP ?_ _)|(with_reducible refine Kd.iQ ?_ _)|(with_reducible refine Kd.jK ?_)))
      (case aB=>exact bb)
      (case aF=>exact(fun _ _=>trivial))
      (case aO=>exact(ur sD.out))
      (case aS=>exact(aA bb))
      (case aL=>have:=ai6.out;omega);intro atP w55 ho hb hg hat
      rw[←acS.out]at ho;have iH:=ak (iW (g:=tZ) (o:= .cells #[.slice gW bM.length gX, .slice iM cZ.length iO, .slice fF aC.length dR] 28 (0,0)) (ub fJ.out) hg (Kd.AP sD.out fJ.out (by decide)));have iI:=ak (hb);have lS:=ak (ho);clear fJ HB sD;have fJ:=iH;have HB:=iI;have acT:=lS;clear iH iI lS ho hb hg hat
      refine hK.out _ _ ⟨(aI fJ.out 0).trans rfl,(aI fJ.out 1).trans rfl,(aI fJ.out 2).trans rfl⟩ ?_;clear hK K;refine no (a':=?_) ?_ ?_
      rotate_left
      ·show Act.put _ (some 41) _=_
       simp only[Act.put,jI,jJ,l_c,bC,bH];rfl
      repeat(refine lk (v:=?_) (a':=?_) (gk.trans rfl) rfl rfl ?_ ?_ ?_;rotate_left;(focus (rintro w' ⟨s0,s1,s2⟩;go_simp;with_reducible rfl));rotate_left;(focus (simp only[Act.put,jI,jJ,l_c,bC,bH];rfl)))
      refine ld (N:=some 49) (gk.trans rfl) rfl rfl (fun K hK=>?_);refine nD Tryz.func105 (by kernel_rfl) rfl #[.slice iM cZ.length iO, .int .i64 30] (by rfl) rfl rfl ma ?_
      with_reducible refine(pG.calls kj3 _ _ cZ 30 akV _ ?kX ?nG A50.out).mono ?_
      (case kX=>repeat(first|exact(Kd.aN oQ.out HB.out)|(with_reducible refine Kd.iP ?_ _)|(with_reducible refine Kd.iQ ?_ _)|(with_reducible refine Kd.jK ?_)))
      (case nG=>exact qh.out);rintro e w' ⟨rfl,⟨nd,rfl⟩⟩;refine⟨_,rfl,?_⟩;refine hK.out _ _ ⟨(aI fJ.out 0).trans rfl,(aI fJ.out 1).trans rfl,(aI fJ.out 2).trans rfl⟩ ?_;clear hK K;refine no (a':=?_) ?_ ?_
      rotate_left
      ·show Act.put _ (some 49) _=_
       simp only[Act.put,jI,jJ,l_c,bC,bH];rfl
      repeat(refine lk (v:=?_) (a':=?_) (gk.trans rfl) rfl rfl ?_ ?_ ?_;rotate_left;(focus (rintro w' ⟨s0,s1,s2⟩;go_simp;with_reducible rfl));rotate_left;(focus (simp only[Act.put,jI,jJ,l_c,bC,bH];rfl)))
      refine on ?_;try go_wp2
      go_ret2;exact⟨_,er,ur acT.out,bb⟩
     ·have aoa:=beq_eq_false_iff_ne.mpr c49;have aob:=bne_iff_ne.mpr c49;have awj:¬(aC=[]):=fun h_=>c49 (by rw[h_];rfl)
      simp only[Option.some.injEq,Prod.mk.injEq]at H;obtain⟨rfl,rfl⟩:=H;try go_wp2_with (first|((with_reducible refine dD (b:= .append) (xs:=#[.tmp 28, .tmp 29]) rfl ?_);(try(refine aZ (by rfl) ?_;dsimp only));at_builtin;refine Kd.iR Kd.string (w0:=w) w.heap.size rfl (.tmp 28) (.tmp 29) 23 9 (.string ⟨#[]⟩) 16 rfl Tryz.underlying23 info9 rfl (by decide) (by omega) af4 Xl (⟨#[]⟩:ByteArray) [.string (⟨#[]⟩:ByteArray)] (fun _=>True) (fun _=>False) rfl rfl ?aP (fun _ hk=>hk.elim) ?aF ?aO ?aB ?aS ?aL ?_;(case aP=>exact rfl);(case aB=>exact bb);(case aF=>exact(fun _ _=>trivial));(case aO=>exact(ur mD.out));(case aS=>exact(aA bb));(case aL=>have:=Vr.out;omega);intro OJ w56 ho hb hg hat;rw[←Zf.out]at ho;have iH:=ak (iW (g:=tZ) (o:= .cells #[.slice gW bM.length gX, .slice iM cZ.length iO, .slice fF aC.length dR] 28 (0,0)) (ub fJ.out) hg (Kd.AP mD.out fJ.out (by decide)));have iI:=ak (hb);have lS:=ak (ho);clear fJ;clear HB;clear mD;have fJ:=iH;have HB:=iI;have sD:=lS;clear iH iI lS;clear ho hb hg hat;obtain⟨Zu,Zv,af7,Zw,Zx,af8⟩:=jP fJ.out)|(refine gL 101 33 Tryz.func101 #[.agg #[.slice gW bM.length gX, .slice iM cZ.length iO, .slice fF aC.length dR]] ?_;(with_reducible refine(ku.calls kj3 _ _ bM _ _ cZ _ _ aC Xm false _ ?kX ?nG ?xM ?xO ?xP ?xQ ?xR A11.out).mono ?_);(case kX=>repeat(first|exact(Kd.aN lY.out HB.out)|(with_reducible refine Kd.iP ?_ _)|(with_reducible refine Kd.iQ ?_ _)|(with_reducible refine Kd.jK ?_)));(case nG=>exact lZ.out);(case xM=>repeat(first|exact(Kd.aN oQ.out HB.out)|(with_reducible refine Kd.iP ?_ _)|(with_reducible refine Kd.iQ ?_ _)|(with_reducible refine Kd.jK ?_)));(case xO=>exact qh.out);(case xP=>repeat(first|exact(Kd.aN jc.out HB.out)|(with_reducible refine Kd.iP ?_ _)|(with_reducible refine Kd.iQ ?_ _)|(with_reducible refine Kd.jK ?_)));(case xQ=>exact kC.out);(case xR=>first|exact HG.out|exact MaxOk.below HG.out bb|(repeat(first|exact HG.out|apply MaxOk.drewN|apply MaxOk.drew)));rintro e w58 ⟨rfl,hb⟩;refine⟨_,rfl,?_⟩;replace sD:=rb sD hb;replace fJ:=kb fJ hb;replace HB:=ak (aG bb hb);(try clear hb)))
      replace sD:=ak (Kd.zO sD.out);replace fJ:=ak (ay fJ.out);replace HB:=ak (eY HB.out);refine ro [3] [0,1,4,2,5,6,7,3,8,9,10,11,12,13,14] (fun w'=>w'.cell? ⟨tZ,0,none⟩=some (.slice gW bM.length gX)∧w'.cell? ⟨tZ,1,none⟩=some (.slice iM cZ.length iO)∧w'.cell? ⟨tZ,2,none⟩=some (.slice fF aC.length dR)) ⟨(aI fJ.out 0).trans rfl,(aI fJ.out 1).trans rfl,(aI fJ.out 2).trans rfl⟩ ?_
      generalize w58.drew=w59 at sD fJ HB⊢
      repeat(first|(refine lk (v:=?_) (a':=?_) (gk.trans rfl) rfl rfl ?_ ?_ ?_;rotate_left;(focus (rintro w' ⟨s0,s1,s2⟩;go_simp;with_reducible rfl));rotate_left;(focus (simp only[Act.put,jI,jJ,l_c,bC,bH];rfl)))|(refine lf (a':=?_) (gk.trans rfl) rfl rfl ?_ ?_;rotate_left;(focus (simp only[Act.put,jI,jJ,l_c,bC,bH];rfl))))
      refine ld (N:=some 41) (gk.trans rfl) rfl rfl (fun K hK=>?_);refine Kd.zQ Kd.string (w0:=w) w.heap.size (by rfl) (.tmp 38) (.tmp 40) 23 9 (.string ⟨#[]⟩) 16 rfl Tryz.underlying23 info9 rfl (by decide) (by omega) OJ Ho cZ _ _ _ (fun _=>True) (fun _=>False) rfl rfl ?aO ?aR (fun _ _ h=>h) (fun _ h=>h.elim) ?aF ?aB ?aS ?aL ?_
      (case aR=>repeat(first|exact(Kd.aN oQ.out HB.out)|(with_reducible refine Kd.iP ?_ _)|(with_reducible refine Kd.iQ ?_ _)|(with_reducible refine Kd.jK ?_)))
      (case aB=>exact bb)
      (case aF=>exact(fun _ _=>trivial))
      (case aO=>exact(ur sD.out))
      (case aS=>exact(aA bb))
      (case aL=>have:=ai6.out;omega);intro atP w60 ho hb hg hat
      rw[←acS.out]at ho;have iH:=ak (iW (g:=tZ) (o:= .cells #[.slice gW bM.length gX, .slice iM cZ.length iO, .slice fF aC.length dR] 28 (0,0)) (ub fJ.out) hg (Kd.AP sD.out fJ.out (by decide)));have iI:=ak (hb);have lS:=ak (ho);clear fJ HB sD;have fJ:=iH;have HB:=iI;have acT:=lS;clear iH iI lS ho hb hg hat
      refine hK.out _ _ ⟨(aI fJ.out 0).trans rfl,(aI fJ.out 1).trans rfl,(aI fJ.out 2).trans rfl⟩ ?_;clear hK K;refine no (a':=?_) ?_ ?_
      rotate_left
      ·show Act.put _ (some 41) _=_
       simp only[Act.put,jI,jJ,l_c,bC,bH];rfl
      repeat(first|(refine lk (v:=?_) (a':=?_) (gk.trans rfl) rfl rfl ?_ ?_ ?_;rotate_left;(focus (rintro w' ⟨s0,s1,s2⟩;go_simp;with_reducible rfl));rotate_left;(focus (simp only[Act.put,jI,jJ,l_c,bC,bH];rfl)))|(refine lf (a':=?_) (gk.trans rfl) rfl rfl ?_ ?_;rotate_left;(focus (simp only[Act.put,jI,jJ,l_c,bC,bH];rfl))))
      refine on ?_;try go_wp2
      go_ret2;exact⟨_,er,ur acT.out,bb⟩
def nT.f(k:Nat)(bM:List (jl))(cZ:List ByteArray)(aC:List (pq)):Option (List ByteArray×Bool):=(aJ.f k bM cZ aC 3).bind fun Vu=>(if Vu.2=true then(some (Vu.1,true))else(some (([]:List ByteArray),false)))
set_option maxHeartbeats 8000000 in
set_option maxRecDepth 100000 in
theorem nT.calls(k:Nat)(gW:Option Addr)(gX:Nat)(bM:List (jl))(iM:Option Addr)(iO:Nat)(cZ:List ByteArray)(fF:Option Addr)(dR:Nat)(aC:List (pq))(r1:List ByteArray)(r2:Bool)(w:World)(mG:Kd.C pV w gW bM.length bM)(mJ:bM.length≤gX)(mM:Kd.C Kd.string w iM cZ.length cZ)(mO:cZ.length≤iO)(jL:Kd.C k28 w fF aC.length aC)(jM:aC.length≤dR)(rQ:MaxOk w)(h:nT.f k bM cZ aC=some (r1,r2)):
  Calls Tryz.prog 24 #[.agg #[.slice gW bM.length gX, .slice iM cZ.length iO, .slice fF aC.length dR]] w fun e w'=>∃wH:Value,e= .returned (.tuple #[wH, .bool r2])∧Kd.R Kd.string 9 w' w.heap.size (fun _=>True) wH r1∧Below w.heap.size w w':=by
 have Na:=Tryz.underlying28;have lY:=ak mG;have lZ:=ak mJ;clear mG mJ;have oQ:=ak mM;have qh:=ak mO;clear mM mO;have jc:=ak jL;have kC:=ak jM;clear jL jM;have HG:=ak rQ;clear rQ;have HB:=ak (Below.refl w.heap.size w);have H:((aJ.f k bM cZ aC 3).bind fun Vu=>(if Vu.2=true then(some (Vu.1,true))else(some (([]:List ByteArray),false))))=some (r1,r2):=h;clear h;replace H:=bd H;obtain⟨⟨aoc,ayE⟩,A2,H⟩:=H
 (try dsimp only at H);replace H:=sb H;rcases H with⟨rfl,H⟩|⟨rfl,H⟩
 ·simp only[Option.some.injEq,Prod.mk.injEq]at H;obtain⟨rfl,rfl⟩:=H;go_enter Tryz.func24,Tryz.ntmps24;go_wp2_with (first|(refine bE 1 #[.slice gW bM.length gX, .slice iM cZ.length iO, .slice fF aC.length dR] 28 ?_;intro aod hg w4 hbox hb;have OQ:=ak (hbox);have aoe:=jY HB hg;have aof:=jY HB hg;replace HB:=bs HB hb;clear hb hbox hg;obtain⟨Xq,Xr,acU,Xt,Xu,acV⟩:=jP OQ.out)|(refine gL 66 8 Tryz.func66 #[.agg #[.slice gW bM.length gX, .slice iM cZ.length iO, .slice fF aC.length dR], .int .i64 3] ?_;(with_reducible refine(aJ.calls k _ _ bM _ _ cZ _ _ aC 3 aoc true _ ?kX ?nG ?xM ?xO ?xP ?xQ ?xR A2.out).mono ?_);(case kX=>repeat(first|exact(Kd.aN lY.out HB.out)|(with_reducible refine Kd.iP ?_ _)|(with_reducible refine Kd.iQ ?_ _)|(with_reducible refine Kd.jK ?_)));(case nG=>exact lZ.out);(case xM=>repeat(first|exact(Kd.aN oQ.out HB.out)|(with_reducible refine Kd.iP ?_ _)|(with_reducible refine Kd.iQ ?_ _)|(with_reducible refine Kd.jK ?_)));(case xO=>exact qh.out);(case xP=>repeat(first|exact(Kd.aN jc.out HB.out)|(with_reducible refine Kd.iP ?_ _)|(with_reducible refine Kd.iQ ?_ _)|(with_reducible refine Kd.jK ?_)));(case xQ=>exact kC.out);(case xR=>first|exact HG.out|exact MaxOk.below HG.out bb|(repeat(first|exact HG.out|apply MaxOk.drewN|apply MaxOk.drew)));rintro e w6 ⟨atQ,rfl,ho0,hb⟩;refine⟨_,rfl,?_⟩;have ai7:=ak (Kd.fA ho0 (aA bb));replace OQ:=kb OQ hb;replace HB:=ak (aG bb hb);(try clear hb);(try clear ho0)))
  go_ret2;exact⟨_,er,ur ai7.out,bb⟩
 ·simp only[Option.some.injEq,Prod.mk.injEq]at H;obtain⟨rfl,rfl⟩:=H;go_enter Tryz.func24,Tryz.ntmps24;go_wp2_with (first|(refine bE 1 #[.slice gW bM.length gX, .slice iM cZ.length iO, .slice fF aC.length dR] 28 ?_;intro aod hg w7 hbox hb;have OQ:=ak (hbox);have aoe:=jY HB hg;have aof:=jY HB hg;replace HB:=bs HB hb;clear hb hbox hg;obtain⟨vG,zS,Du,vH,zT,Dv⟩:=jP OQ.out)|(refine gL 66 8 Tryz.func66 #[.agg #[.slice gW bM.length gX, .slice iM cZ.length iO, .slice fF aC.length dR], .int .i64 3] ?_;(with_reducible refine(aJ.calls k _ _ bM _ _ cZ _ _ aC 3 aoc false _ ?kX ?nG ?xM ?xO ?xP ?xQ ?xR A2.out).mono ?_);(case kX=>repeat(first|exact(Kd.aN lY.out HB.out)|(with_reducible refine Kd.iP ?_ _)|(with_reducible refine Kd.iQ ?_ _)|(with_reducible refine Kd.jK ?_)));(case nG=>exact lZ.out);(case xM=>repeat(first|exact(Kd.aN oQ.out HB.out)|(with_reducible refine Kd.iP ?_ _)|(with_reducible refine Kd.iQ ?_ _)|(with_reducible refine Kd.jK ?_)));(case xO=>exact qh.out);(case xP=>repeat(first|exact(Kd.aN jc.out HB.out)|(with_reducible refine Kd.iP ?_ _)|(with_reducible refine Kd.iQ ?_ _)|(with_reducible refine Kd.jK ?_)));(case xQ=>exact kC.out);(case xR=>first|exact HG.out|exact MaxOk.below HG.out bb|(repeat(first|exact HG.out|apply MaxOk.drewN|apply MaxOk.drew)));rintro e w9 ⟨atQ,rfl,ho0,hb⟩;refine⟨_,rfl,?_⟩;have ai7:=ak (Kd.fA ho0 (aA bb));replace OQ:=kb OQ hb;replace HB:=ak (aG bb hb);(try clear hb);(try clear ho0)))
  go_ret2;exact⟨_,er,nx,bb⟩
end Go.Proofs.YtncdadcmghglkaaGreatDoor.PFnExactFormatPart
