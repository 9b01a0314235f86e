/- Printed walks; conditions: those in each statement. -/
import Derived.Test.YtncdadcmghglkaaGreatDoorVFnExactFormatPartQt
import Derived.Test.YtncdadcmghglkaaGreatDoorVFnExactFormatPartYt
import Derived.Test.YtncdadcmghglkaaGreatDoorPFnExactFormatPartx0
import Derived.Test.YtncdadcmghglkaaGreatDoorPFnExactFormatPartx11
import Derived.Test.YtncdadcmghglkaaGreatDoorPFnExactFormatPartx12
import Derived.Test.YtncdadcmghglkaaGreatDoorPFnExactFormatPartx14
import Derived.Test.YtncdadcmghglkaaGreatDoorPFnExactFormatPartx16
namespace Go.Proofs.YtncdadcmghglkaaGreatDoor.PFnExactFormatPart
open Go.RowKit Go.Proofs.YtncdadcmghglkaaGreatDoor.X Go.Proofs.YtncdadcmghglkaaGreatDoorW.dB Go.Proofs.YtncdadcmghglkaaGreatDoorW.iy Go.Proofs.YtncdadcmghglkaaGreatDoorW.jo
attribute [local go_sem] lU lV oh oq kJ kK lW lX   -- for this text's walks alone
set_option linter.unusedVariables false
set_option linter.unusedSimpArgs false
mutual
def bG.l0:Nat→ByteArray→Bool→Bool→ByteArray→ByteArray→List (jl)→Option (ByteArray×ByteArray×(List (jl))×Bool)
 |0,_,_,_,_,_,_=>none
 |k+1,x5,x6,x9,DK,DL,Bq=>if x6=true then((iw.f k x5 59).bind fun O1=>((bZ.f k O1.1).bind fun adA=>((iw.f k adA 61).bind fun VK=>((bZ.f k VK.2.1).bind fun adB=>((eu.f k adB).bind fun VL=>(if VK.2.2=true then(if VL.2=true then(bG.j1 k O1.2.1 O1.2.2 x9 VK.1 VL.1 ((VL.1.length:Int) !=1) DK DL Bq)else(bG.j1 k O1.2.1 O1.2.2 x9 VK.1 VL.1 true DK DL Bq))else(bG.j1 k O1.2.1 O1.2.2 x9 VK.1 VL.1 true DK DL Bq)))))))else(if x9=true then((aX.f k DK DL Bq).bind fun aoY=>(if aoY=true then(some (DK,DL,Bq,true))else(some ((⟨#[]⟩:ByteArray),(⟨#[]⟩:ByteArray),([]:List (jl)),false))))else(some ((⟨#[]⟩:ByteArray),(⟨#[]⟩:ByteArray),([]:List (jl)),false)))
def bG.j1:Nat→ByteArray→Bool→Bool→ByteArray→List ByteArray→Bool→ByteArray→ByteArray→List (jl)→Option (ByteArray×ByteArray×(List (jl))×Bool)
 |0,_,_,_,_,_,_,_,_,_=>none
 |k+1,x5,x6,x9,x12,x15,x69,DK,DL,Bq=>if x69=true then(some ((⟨#[]⟩:ByteArray),(⟨#[]⟩:ByteArray),([]:List (jl)),false))else((bZ.f k x12).bind fun adC=>((eX.f adC).bind fun XF=>(if 0<(x15.length:Int)then(if Bq.length<4398046511104 then(bG.l0 k x5 x6 x9 DK DL (Bq++[(⟨XF,kV ByteArray.empty x15 0⟩:jl)]))else(none))else(none))))
end
def bG.f(k:Nat)(a0:ByteArray):Option (ByteArray×ByteArray×(List (jl))×Bool):=(aW.f k a0).bind fun agF=>(if agF=true then((iw.f k a0 59).bind fun O4=>((bZ.f k O4.1).bind fun XG=>((iw.f k XG 47).bind fun O5=>((eX.f O5.1).bind fun CB=>((eX.f O5.2.1).bind fun EJ=>(bG.l0 k O4.2.1 O4.2.2 O5.2.2 CB EJ ([]:List (jl))))))))else(some ((⟨#[]⟩:ByteArray),(⟨#[]⟩:ByteArray),([]:List (jl)),false)))
def bG.T13:Bool×List (List Nat×List Nat):=(true,[([],[]),([0],[0]),([],[]),([2],[2]),([3,3],[3]),([],[]),([5],[5]),([6],[6]),([4,7],[4,7]),([8],[8]),([1,9,4],[1,9]),([0,1,2,3,4,5,6,7,8,9,10],[]),([11,10,10,0,1,2,3,4,5,6,7,8,9,10],[10,11])])
def bG.B13:List Nat:=[0,1,0,4,12,0,32,96,252,508,1023,2047,4095]
theorem bG.ZL:sZ .any (opsOf Tryz.f155 13)=bG.T13:=by kernel_rfl
theorem bG.TQ:pW bG.T13.2 bG.B13=true:=by kernel_rfl
set_option maxHeartbeats 8000000 in
set_option maxRecDepth 100000 in
theorem bG.calls(k:Nat)(a0:ByteArray)(r1:ByteArray)(r2:ByteArray)(r3:List (jl))(r4:Bool)(w:World)(h:bG.f k a0=some (r1,r2,r3,r4)):
  Calls Tryz.prog 155 #[.string a0] w fun e w'=>∃v2_:Value,e= .returned (.tuple #[.agg #[.string r1, .string r2,v2_], .bool r4])∧Kd.R pV 69 w' w.heap.size (fun _=>True) v2_ r3∧Below w.heap.size w w':=by
 have VH:=Tryz.underlying61;have Dq:=Tryz.underlying69;have HB:=ak (Below.refl w.heap.size w);have H:((aW.f k a0).bind fun agF=>(if agF=true then((iw.f k a0 59).bind fun O4=>((bZ.f k O4.1).bind fun XG=>((iw.f k XG 47).bind fun O5=>((eX.f O5.1).bind fun CB=>((eX.f O5.2.1).bind fun EJ=>(bG.l0 k O4.2.1 O4.2.2 O5.2.2 CB EJ ([]:List (jl))))))))else(some ((⟨#[]⟩:ByteArray),(⟨#[]⟩:ByteArray),([]:List (jl)),false))))=some (r1,r2,r3,r4):=h;clear h;replace H:=bd H;obtain⟨agF,A2,H⟩:=H;replace H:=sb H;rcases H with⟨rfl,H⟩|⟨rfl,H⟩
 ·replace H:=bd H;obtain⟨⟨ale,aoZ,ao0⟩,A4,H⟩:=H
  (try dsimp only at H);replace H:=bd H;obtain⟨XG,A5,H⟩:=H;replace H:=bd H;obtain⟨⟨alf,alg,alh⟩,A6,H⟩:=H
  (try dsimp only at H);replace H:=bd H;obtain⟨CB,A7,H⟩:=H;replace H:=bd H;obtain⟨EJ,A8,H⟩:=H;have H':=ak H;clear H;go_enter Tryz.func155,Tryz.ntmps155;go_wp2_with (first|(refine bU (N:=2) rfl ?_;(try(refine aZ (by rfl) ?_;dsimp only));refine bE 2 #[.string (⟨#[]⟩:ByteArray), .string (⟨#[]⟩:ByteArray), .slice none 0 0] 61 ?_;intro vS hg w9 hbox hb;have jy:=ak (hbox);have ao1:=jY HB hg;have ao2:=jY HB hg;replace HB:=bs HB hb;clear hb hbox hg)|(refine gL 159 18 Tryz.func159 #[.string a0] ?_;(with_reducible refine(aW.calls k a0 true _ A2.out).mono ?_);rintro e w' ⟨rfl,⟨nd,rfl⟩⟩;refine⟨_,rfl,?_⟩;(try(rw[qO w9];generalize EK:World.drewN w9 _=w9;have iH:ah (w9.heap[vS]? =some (.cells #[.string (⟨#[]⟩:ByteArray), .string (⟨#[]⟩:ByteArray), .slice none 0 0] 61 (0,0))):=⟨by rw[←EK];exact(ub jy.out)⟩;have iI:ah (Below w.heap.size w w9):=⟨by rw[←EK];exact bb⟩;clear jy HB EK;have jy:=iH;have HB:=iI;clear iH iI)))|(refine gL 178 23 Tryz.func178 #[.string a0, .int .u8 59] ?_;(with_reducible refine(iw.calls k a0 59 ale aoZ ao0 _ A4.out).mono ?_);rintro e w' ⟨rfl,⟨nd,rfl⟩⟩;refine⟨_,rfl,?_⟩;(try(rw[qO w9];generalize EK:World.drewN w9 _=w9;have iH:ah (w9.heap[vS]? =some (.cells #[.string (⟨#[]⟩:ByteArray), .string (⟨#[]⟩:ByteArray), .slice none 0 0] 61 (0,0))):=⟨by rw[←EK];exact(ub jy.out)⟩;have iI:ah (Below w.heap.size w w9):=⟨by rw[←EK];exact bb⟩;clear jy HB EK;have jy:=iH;have HB:=iI;clear iH iI)))|(refine gL 179 29 Tryz.func179 #[.string ale] ?_;(with_reducible refine(bZ.calls k ale XG _ A5.out).mono ?_);rintro e w' ⟨rfl,⟨nd,rfl⟩⟩;refine⟨_,rfl,?_⟩;(try(rw[qO w9];generalize EK:World.drewN w9 _=w9;have iH:ah (w9.heap[vS]? =some (.cells #[.string (⟨#[]⟩:ByteArray), .string (⟨#[]⟩:ByteArray), .slice none 0 0] 61 (0,0))):=⟨by rw[←EK];exact(ub jy.out)⟩;have iI:ah (Below w.heap.size w w9):=⟨by rw[←EK];exact bb⟩;clear jy HB EK;have jy:=iH;have HB:=iI;clear iH iI)))|(refine gL 178 30 Tryz.func178 #[.string XG, .int .u8 47] ?_;(with_reducible refine(iw.calls k XG 47 alf alg alh _ A6.out).mono ?_);rintro e w' ⟨rfl,⟨nd,rfl⟩⟩;refine⟨_,rfl,?_⟩;(try(rw[qO w9];generalize EK:World.drewN w9 _=w9;have iH:ah (w9.heap[vS]? =some (.cells #[.string (⟨#[]⟩:ByteArray), .string (⟨#[]⟩:ByteArray), .slice none 0 0] 61 (0,0))):=⟨by rw[←EK];exact(ub jy.out)⟩;have iI:ah (Below w.heap.size w w9):=⟨by rw[←EK];exact bb⟩;clear jy HB EK;have jy:=iH;have HB:=iI;clear iH iI)))|(refine gL 180 35 Tryz.func180 #[.string alf] ?_;(with_reducible refine(eX.calls alf CB _ A7.out).mono ?_);rintro e w10 ⟨rfl,hb⟩;refine⟨_,rfl,?_⟩;replace jy:=kb jy hb;replace HB:=ak (aG bb hb);(try clear hb))|(refine gL 180 37 Tryz.func180 #[.string alg] ?_;(with_reducible refine(eX.calls alg EJ _ A8.out).mono ?_);rintro e Cm ⟨rfl,hb⟩;refine⟨_,rfl,?_⟩;replace jy:=kb jy hb;replace HB:=ak (aG bb hb);(try clear hb))|(refine bU (N:=10) rfl ?_;(try(refine aZ (by rfl) ?_;dsimp only));refine bE 10 #[.string (⟨#[]⟩:ByteArray), .string (⟨#[]⟩:ByteArray), .slice none 0 0] 61 ?_;intro Ep hg w12 hbox hb;have lH:=ak (hbox);have awT:=ak ((by rw[hg];exact(aA bb):w.heap.size≤Ep));have awU:=ak ((by rw[hg];exact(aA bb):w.heap.size≤Ep));have rC:=ak ((by rw[hg];exact Nat.ne_of_lt (fC (ub jy.out)):vS≠Ep));have zI:=ak ((by rw[hg];exact Nat.ne_of_gt (fC (ub jy.out)):Ep≠vS));replace jy:=kb jy hb;replace HB:=ak (aG bb hb);clear hb hbox hg;have ao3:=zI.out;have ao4:=rC.out;obtain⟨Jf,Jg,NW,Jh,Ji,NY⟩:=jP lH.out))
  go_loopg [5,6] k (fun kq v5 v6 w'=>∃(aK:ByteArray) (jX:Bool) (tK:ByteArray) (oK:ByteArray) (qm:List (jl)) (xE:Value),v5= .string aK∧v6= .bool jX∧ah (bG.l0 kq aK jX alh CB EJ qm=some (r1,r2,r3,r4))∧ah (kq≤k)∧ah (Kd.R pV 69 w' w.heap.size (fun _=>True) xE qm)∧ah (w'.heap[vS]? =some (.cells #[.string tK, .string oK,(.slice none 0 0)] 61 (0,0)))∧ah (w'.heap[Ep]? =some (.cells #[.string CB, .string EJ,xE] 61 (0,0)))∧ah (Below w.heap.size w w'))
  case atStart=>exact⟨(aoZ),(ao0),((⟨#[]⟩:ByteArray)),((⟨#[]⟩:ByteArray)),(([]:List (jl))),(.slice none 0 0),rs,rs,H',⟨Nat.le_refl _⟩,⟨nx⟩,⟨by(with_reducible repeat(first|refine au ?_ _|refine ay ?_|refine aj ?_ _));refine f_ ?_ rC.out _;(with_reducible repeat(first|refine au ?_ _|refine ay ?_|refine aj ?_ _));refine f_ ?_ rC.out _;(with_reducible repeat(first|refine au ?_ _|refine ay ?_|refine aj ?_ _));refine f_ ?_ rC.out _;(with_reducible repeat(first|refine au ?_ _|refine ay ?_|refine aj ?_ _));exact jy.out⟩,⟨by(with_reducible repeat(first|refine au ?_ _|refine ay ?_|refine aj ?_ _));refine bK (cs:=#[.string CB, .string EJ, .slice none 0 0]) ?_ 2 _ rfl;(with_reducible repeat(first|refine au ?_ _|refine ay ?_|refine aj ?_ _));refine bK (cs:=#[.string CB, .string (⟨#[]⟩:ByteArray), .slice none 0 0]) ?_ 1 _ rfl;(with_reducible repeat(first|refine au ?_ _|refine ay ?_|refine aj ?_ _));refine bK (cs:=#[.string (⟨#[]⟩:ByteArray), .string (⟨#[]⟩:ByteArray), .slice none 0 0]) ?_ 0 _ rfl;(with_reducible repeat(first|refine au ?_ _|refine ay ?_|refine aj ?_ _));exact lH.out⟩,⟨bb⟩⟩
  case round=>
   clear H';try clear c1
   try clear p2
   try clear c3
   try clear c13
   try clear Jf
   try clear Jg
   try clear NW
   try clear Jh
   try clear Ji
   try clear NY
   obtain⟨aK,jX,tK,oK,qm,xE,rfl,rfl,HA,iC,iY,jy,lH,HB⟩:=hrel
   cases gk with
   |zero=>exact absurd HA.out (by simp[bG.l0])
   |succ k1=>
    have H:=HA.out;clear HA;simp only[bG.l0]at H;replace H:=sb H;rcases H with⟨rfl,H⟩|⟨rfl,H⟩
    ·replace H:=bd H;obtain⟨⟨ali,alj,alk⟩,A16,H⟩:=H
     (try dsimp only at H);replace H:=bd H;obtain⟨adA,A17,H⟩:=H;replace H:=bd H;obtain⟨⟨agG,alm,aud⟩,A18,H⟩:=H
     (try dsimp only at H);replace H:=bd H;obtain⟨adB,A19,H⟩:=H;replace H:=bd H;obtain⟨⟨Nh,aue⟩,A20,H⟩:=H
     (try dsimp only at H);have aln:=ak H;clear H;go_upto_region 11 with(first|(refine gL 178 42 Tryz.func178 #[.string aK, .int .u8 59] ?_;(with_reducible refine(iw.calls k1 aK 59 ali alj alk _ A16.out).mono ?_);rintro e w' ⟨rfl,⟨nd,rfl⟩⟩;refine⟨_,rfl,?_⟩)|(refine gL 179 48 Tryz.func179 #[.string ali] ?_;(with_reducible refine(bZ.calls k1 ali adA _ A17.out).mono ?_);rintro e w' ⟨rfl,⟨nd,rfl⟩⟩;refine⟨_,rfl,?_⟩)|(refine gL 178 49 Tryz.func178 #[.string adA, .int .u8 61] ?_;(with_reducible refine(iw.calls k1 adA 61 agG alm aud _ A18.out).mono ?_);rintro e w' ⟨rfl,⟨nd,rfl⟩⟩;refine⟨_,rfl,?_⟩)|(refine gL 179 55 Tryz.func179 #[.string alm] ?_;(with_reducible refine(bZ.calls k1 alm adB _ A19.out).mono ?_);rintro e w' ⟨rfl,⟨nd,rfl⟩⟩;refine⟨_,rfl,?_⟩)|(refine gL 181 56 Tryz.func181 #[.string adB] ?_;(with_reducible refine(eu.calls k1 adB Nh aue _ A20.out).mono ?_);rintro e w22 ⟨auf,rfl,ho0,hb⟩;refine⟨_,rfl,?_⟩;have ZM:=ak (Kd.fA ho0 (aA bb));replace iY:=rb iY hb;replace jy:=kb jy hb;replace lH:=kb lH hb;replace HB:=ak (aG bb hb);(try clear hb);(try clear ho0)))
     (try simp only[Act.put,jI,jJ,l_c]);go_cut [69] (fun v69 wc=>∃(kq:Nat) (XH:Bool),v69= .bool XH∧ah (bG.j1 kq alj alk alh agG Nh XH CB EJ qm=some (r1,r2,r3,r4))∧ah (kq≤k1)∧ah (Kd.R Kd.string 9 wc w.heap.size (fun _=>True) auf Nh)∧ah (Kd.R pV 69 wc w.heap.size (fun _=>True) xE qm)∧ah (wc.heap[vS]? =some (.cells #[.string tK, .string oK,(.slice none 0 0)] 61 (0,0)))∧ah (wc.heap[Ep]? =some (.cells #[.string CB, .string EJ,xE] 61 (0,0)))∧ah (Below w.heap.size w wc))
     case first=>
      have H:=aln.out;clear aln;replace H:=sb H;rcases H with⟨rfl,H⟩|⟨rfl,H⟩
      ·replace H:=sb H;rcases H with⟨rfl,H⟩|⟨rfl,H⟩
       ·have H':=ak H;clear H;obtain⟨ao5,ao6,alo⟩:=Kd.eU ZM.out;subst alo;go_wp2;go_meet
        case rel=>exact⟨_,(((Nh.length:Int) !=1)),rs,H',⟨by have:=iC.out;first|omega|exact Nat.le_refl _⟩,⟨ur ZM.out⟩,⟨ur iY.out⟩,⟨ub jy.out⟩,⟨ub lH.out⟩,⟨bb⟩⟩
       ·have H':=ak H;clear H;go_wp2;go_meet
        case rel=>exact⟨_,(true),rs,H',⟨by have:=iC.out;first|omega|exact Nat.le_refl _⟩,⟨ur ZM.out⟩,⟨ur iY.out⟩,⟨ub jy.out⟩,⟨ub lH.out⟩,⟨bb⟩⟩
      ·have H':=ak H;clear H;go_wp2;go_meet
       case rel=>exact⟨_,(true),rs,H',⟨by have:=iC.out;first|omega|exact Nat.le_refl _⟩,⟨ur ZM.out⟩,⟨ur iY.out⟩,⟨ub jy.out⟩,⟨ub lH.out⟩,⟨bb⟩⟩
     case rest=>
      clear aln;try clear c1
      try clear c2
      try clear p2
      try clear c3
      try clear c13
      try clear c15
      try clear c17
      try clear c18
      try clear c23
      try clear c24
      try clear Jf
      try clear Jg
      try clear NW
      try clear Jh
      try clear Ji
      try clear NY
      try clear p2
      obtain⟨kq,XH,rfl,HA,ao7,G6,iY,jy,lH,HB⟩:=hcut
      cases kq with
      |zero=>exact absurd HA.out (by simp[bG.j1])
      |succ ao8=>
       have H:=HA.out;clear HA;simp only[bG.j1]at H;replace H:=sb H;rcases H with⟨rfl,H⟩|⟨rfl,H⟩
       ·simp only[Option.some.injEq,Prod.mk.injEq]at H;obtain⟨rfl,rfl,rfl,rfl⟩:=H;have awV:=rC.out;have awW:=zI.out;obtain⟨NZ,TR,TS,N7,TT,TU⟩:=jP jy.out;go_wp2;refine bodyPost_ret (pK rfl _ _ vS 61 #[.string (⟨#[]⟩:ByteArray), .string (⟨#[]⟩:ByteArray), .slice none 0 0] (0,0) _ rfl (by(with_reducible repeat(first|refine au ?_ _|refine ay ?_|refine aj ?_ _));refine bK (cs:=#[.string (⟨#[]⟩:ByteArray), .string (⟨#[]⟩:ByteArray), .slice none 0 0]) ?_ 2 _ rfl;(with_reducible repeat(first|refine au ?_ _|refine ay ?_|refine aj ?_ _));refine bK (cs:=#[.string (⟨#[]⟩:ByteArray), .string oK, .slice none 0 0]) ?_ 1 _ rfl;(with_reducible repeat(first|refine au ?_ _|refine ay ?_|refine aj ?_ _));refine bK (cs:=#[.string tK, .string oK, .slice none 0 0]) ?_ 0 _ rfl;(with_reducible repeat(first|refine au ?_ _|refine ay ?_|refine aj ?_ _));exact jy.out) Tryz.underlying61 rfl (by kernel_rfl)) rfl ?_;exact⟨_,er,nx,bb⟩
       ·replace H:=bd H;obtain⟨adC,A29,H⟩:=H;replace H:=bd H;obtain⟨XF,A30,H⟩:=H;replace H:=nn H;obtain⟨c31,H⟩:=H;have awX:=decide_eq_true c31;have awY:decide (0<Nh.length)=true:=decide_eq_true (by omega);clear c31;replace H:=nl H;obtain⟨ao9,H⟩:=H;obtain⟨alp,ajp⟩:=nm (qm++[(⟨XF,kV ByteArray.empty Nh 0⟩:jl)]);rw[←ajp.out]at H
        (try rw[Option.bind_some]at H);have H':=ak H;clear H;try go_wp2
        replace G6:=ak (Kd.zO G6.out);replace iY:=ak (Kd.zO iY.out);replace jy:=ak (ay jy.out);replace lH:=ak (ay lH.out);replace HB:=ak (eY HB.out);obtain⟨ay_,aza,ao_⟩:=Kd.eU G6.out
        (first|subst ao_|(injection ao_ with f1_ f2_ f3_;have f4_:=f1_.symm;have f5_:=f3_.symm;clear f1_ f2_ f3_;subst f4_;subst f5_));have alq:0≤(0:Int):=(by omega)
        have alr:0<(Nh.length:Int):=of_decide_eq_true (by assumption);obtain⟨apa,aug,N8⟩:=Kd.jq (Kd.dK G6.out).2.2 0 alq alr;cases aug;have awZ:(0<Nh.length)=True:=eq_true (by omega)
        (try rw[show((0:Int)).toNat=0 from rfl]at N8)
        (try rw[Addr.add_zero']at N8);replace alq:=eq_true alq;replace alr:=eq_true alr;refine SX (n:=13) (S:=fun w'=>w'.cell? ⟨Ep,0,none⟩=some (.string CB)∧w'.cell? ⟨Ep,1,none⟩=some (.string EJ)∧w'.cell? ⟨Ep,2,none⟩=some (xE)∧w'.cell? apa=some (.string (kV ByteArray.empty Nh 0))) (ds:=[10,12]) #[false,false,false,false,false,false,false,false,false,false,false,false,false] (by kernel_rfl) rfl rfl ⟨(aI lH.out 0).trans rfl,(aI lH.out 1).trans rfl,(aI lH.out 2).trans rfl,N8⟩ (fun hHeld=>?_);refine Rq bG.ZL bG.TQ (fun Fj HW_=>?_)
        generalize wc.drew=w33 at G6 iY jy lH HB N8 hHeld⊢
        refine rW (i:=0) (N:=some 71) (v:=?_) (a':=?_) #[true,false,false,false,false,false,false,false,false,false,false,false,false] rfl rfl (wU Fj.out (by kernel_rfl)) (fun _ _ _ h=>h) (Or.inl ⟨by rfl,?_⟩) ?_ ?_
        rotate_left
        ·intro w';go_simp
         with_reducible rfl
        rotate_left
        ·simp only[Act.put,jI,jJ,l_c,bC,bH];rfl
        refine rW (i:=2) (N:=some 73) (v:=?_) (a':=?_) #[true,false,true,false,false,false,false,false,false,false,false,false,false] rfl rfl (wU Fj.out (by kernel_rfl)) (fun _ _ _ h=>h) (Or.inl ⟨by rfl,?_⟩) ?_ ?_
        rotate_left
        ·intro w';go_simp
         with_reducible rfl
        rotate_left
        ·simp only[Act.put,jI,jJ,l_c,bC,bH];rfl
        refine rW (i:=5) (N:=some 76) (v:=?_) (a':=?_) #[true,false,true,false,false,true,false,false,false,false,false,false,false] rfl rfl (wU Fj.out (by kernel_rfl)) (fun _ _ _ h=>h) (Or.inl ⟨by rfl,?_⟩) ?_ ?_
        rotate_left
        ·intro w';go_simp
         with_reducible rfl
        rotate_left
        ·simp only[Act.put,jI,jJ,l_c,bC,bH];rfl
        refine rW (i:=6) (N:=some 77) (v:=?_) (a':=?_) #[true,false,true,false,false,true,true,false,false,false,false,false,false] rfl rfl (wU Fj.out (by kernel_rfl)) (fun _ _ _ h=>h) (Or.inl ⟨by rfl,?_⟩) ?_ ?_
        rotate_left
        ·intro w';go_simp
         with_reducible rfl
        rotate_left
        ·simp only[Act.put,jI,jJ,l_c,bC,bH];rfl
        refine IB (i:=1) (N:=some 72) (v:=?_) (a':=?_) #[true,true,true,false,false,true,true,false,false,false,false,false,false] rfl rfl (Fp Fj.out HW_.out (by kernel_rfl)) (fun _ _ _ h=>h) (Or.inl ⟨by rfl,?_⟩) hHeld ?_ ?_
        rotate_left
        ·rintro w' ⟨s0,s1,s2,s3⟩;go_simp
         with_reducible rfl
        rotate_left
        ·simp only[Act.put,jI,jJ,l_c,bC,bH];rfl
        refine IB (i:=7) (N:=some 78) (v:=?_) (a':=?_) #[true,true,true,false,false,true,true,true,false,false,false,false,false] rfl rfl (Fp Fj.out HW_.out (by kernel_rfl)) (fun _ _ _ h=>h) (Or.inl ⟨by rfl,?_⟩) hHeld ?_ ?_
        rotate_left
        ·rintro w' ⟨s0,s1,s2,s3⟩;go_simp
         with_reducible rfl
        rotate_left
        ·simp only[Act.put,jI,jJ,l_c,bC,bH];rfl
        refine SY (i:=3) (N:=some 74) #[true,true,true,true,false,true,true,true,false,false,false,false,false] rfl rfl (zW Fj.out (by kernel_rfl)) (by decide) (fun K hK=>?_);refine nD Tryz.func179 (by kernel_rfl) rfl #[.string agG] (by rfl) rfl rfl ma ?_
        with_reducible refine(bZ.calls ao8 agG adC _ A29.out).mono ?_
        rintro e w' ⟨rfl,⟨nd,rfl⟩⟩;refine⟨_,rfl,?_⟩;refine hK.out _ _ ⟨(aI lH.out 0).trans rfl,(aI lH.out 1).trans rfl,(aI lH.out 2).trans rfl,hHeld.2.2.2⟩ (fun hHeld=>?_);clear hK K;refine ET (a':=?_) ?_ ?_
        rotate_left
        ·show Act.put _ (some 74) _=_
         simp only[Act.put,jI,jJ,l_c,bC,bH];rfl
        refine SY (i:=4) (N:=some 75) #[true,true,true,true,true,true,true,true,false,false,false,false,false] rfl rfl (zW Fj.out (by kernel_rfl)) (by decide) (fun K hK=>?_);refine nD Tryz.func180 (by kernel_rfl) rfl #[.string adC] (by rfl) rfl rfl ma ?_
        with_reducible refine(eX.calls adC XF _ A30.out).mono ?_
        rintro e w35 ⟨rfl,hb⟩;have als:=(hb.cell (World.block_lt_of_cell? _ _ (hHeld.2.2.2))).trans (hHeld.2.2.2);refine⟨_,rfl,?_⟩;replace G6:=rb G6 hb;replace iY:=rb iY hb;replace jy:=kb jy hb;replace lH:=kb lH hb;replace HB:=ak (aG bb hb)
        (try clear hb);refine hK.out _ _ ⟨(aI lH.out 0).trans rfl,(aI lH.out 1).trans rfl,(aI lH.out 2).trans rfl,als⟩ (fun hHeld=>?_);clear hK K;refine ET (a':=?_) ?_ ?_
        rotate_left
        ·show Act.put _ (some 75) _=_
         simp only[Act.put,jI,jJ,l_c,bC,bH];rfl
        refine rW (i:=8) (N:=some 79) (v:=?_) (a':=?_) #[true,true,true,true,true,true,true,true,true,false,false,false,false] rfl rfl (wU Fj.out (by kernel_rfl)) (fun _ _ _ h=>h) (Or.inl ⟨by rfl,?_⟩) ?_ ?_
        rotate_left
        ·intro w';go_simp
         with_reducible rfl
        rotate_left
        ·simp only[Act.put,jI,jJ,l_c,bC,bH];rfl
        refine SY (i:=9) (N:=some 80) #[true,true,true,true,true,true,true,true,true,true,false,false,false] rfl rfl (zW Fj.out (by kernel_rfl)) (by decide) (fun K hK=>?_);refine TV (w1:=?_) (v:=?_) (by rfl) rfl ?_ ?_
        rotate_left 2
        ·go_simp;constructor
         ·rfl
         ·rfl
        refine hK.out _ _ ⟨(aI (aj lH.out _) 0).trans rfl,(aI (aj lH.out _) 1).trans rfl,(aI (aj lH.out _) 2).trans rfl,(World.cell?_alloc_lt _ _ _ (World.block_lt_of_cell? _ _ (hHeld.2.2.2))).trans (hHeld.2.2.2)⟩ (fun hHeld=>?_);clear hK K;refine ET (a':=?_) ?_ ?_
        rotate_left
        ·show Act.put _ (some 80) _=_
         simp only[Act.put,jI,jJ,l_c,bC,bH];rfl
        refine ZN (i:=10) (N:=some 81) #[true,true,true,true,true,true,true,true,true,true,true,false,false] rfl rfl (zW Fj.out (by kernel_rfl)) (by decide) (fun K hK=>?_);refine Kd.xG pV (w0:=w) w.heap.size (by rfl) (.tmp 72) (.tmp 80) 25 69 (.agg #[(.string ⟨#[]⟩),(.string ⟨#[]⟩)]) 32 rfl Tryz.underlying25 Hl rfl (by decide) (by omega) xE qm (⟨XF,kV ByteArray.empty Nh 0⟩:jl) [.string XF, .string (kV ByteArray.empty Nh 0)] (fun _=>True) (fun _=>False) rfl rfl ?aP (fun _ hk=>hk.elim) ?aF ?aO ?aB ?aS ?aL ?_
        (case aP=>exact Gg _ _ _ (⟨XF,kV ByteArray.empty Nh 0⟩:jl))
        (case aB=>exact bb)
        (case aF=>exact(fun _ _=>trivial))
        (case aO=>exact(ur iY.out))
        (case aS=>exact(aA bb))
        (case aL=>have:=ao9.out;omega);intro azb w36 ho hb hg hat
        rw[←ajp.out]at ho;have iH:=ak (Kd.NT (ur G6.out) (Kd.Jj (ur iY.out)) (by decide) hg);have iI:=ak (iW (g:=vS) (o:= .cells #[.string tK, .string oK, .slice none 0 0] 61 (0,0)) (ub jy.out) hg (Kd.AP iY.out jy.out (by decide)));have lS:=ak (iW (g:=Ep) (o:= .cells #[.string CB, .string EJ,xE] 61 (0,0)) (ub lH.out) hg (Kd.AP iY.out lH.out (by decide)));have OO:=ak (hb);have Zq:=ak (ho);clear G6 jy lH HB iY;have G6:=iH;have jy:=iI;have lH:=lS;have HB:=OO;have ajq:=Zq;clear iH iI lS OO Zq ho hb hg hat
        obtain⟨abv,abw,abx⟩:=Kd.eU ajq.out
        (first|subst abx|(injection abx with f1_ f2_ f3_;have f4_:=f1_.symm;have f5_:=f3_.symm;clear f1_ f2_ f3_;subst f4_;subst f5_));refine hK.out _ _ ?_;clear hK K;refine ET (a':=?_) ?_ ?_
        rotate_left
        ·show Act.put _ (some 81) _=_
         simp only[Act.put,jI,jJ,l_c,bC,bH];rfl
        refine rW (i:=11) (N:=some 82) (v:=?_) (a':=?_) #[true,true,true,true,true,true,true,true,true,true,true,true,false] rfl rfl (wU Fj.out (by kernel_rfl)) (fun _ _ _ h=>h) (Or.inl ⟨by rfl,?_⟩) ?_ ?_
        rotate_left
        ·intro w';go_simp
         with_reducible rfl
        rotate_left
        ·simp only[Act.put,jI,jJ,l_c,bC,bH];rfl
        refine ZN (i:=12) (N:=none) #[true,true,true,true,true,true,true,true,true,true,true,true,true] rfl rfl (zW Fj.out (by kernel_rfl)) (by decide) (fun K hK=>?_);have azc:w36.cell? ⟨Ep,2,none⟩=some (xE):=(aI lH.out 2).trans rfl;have aw0:=kE lH.out 2;have asi:=rC.out;have asj:=zI.out;refine ajr (w1:=?_) (by rfl) rfl ?_ ?_
        rotate_left
        ·go_simp;rfl
        refine hK.out _ _ ?_;clear hK K;refine Zd (ZO Fj.out (by kernel_rfl)) ?_;try go_wp2
        go_roundg ao8
        case measure=>have:=iC.out;have:=ao7.out;omega
        case rel=>exact⟨(alj),(alk),(tK),(oK),(alp),(.slice abv alp.length abw),rs,rs,H',⟨by have:=iC.out;have:=ao7.out;omega⟩,⟨ur (Kd.dM (Kd.gZ (p:=⟨Ep,2,none⟩) (Kd.jr ajq.out lH.out (by decide)) (fun _ hk=>hk.2) (.slice abv alp.length abw)) (fun _ hk=>trivial))⟩,⟨by(with_reducible repeat(first|refine au ?_ _|refine ay ?_|refine aj ?_ _));refine f_ ?_ rC.out _;(with_reducible repeat(first|refine au ?_ _|refine ay ?_|refine aj ?_ _));exact jy.out⟩,⟨by(with_reducible repeat(first|refine au ?_ _|refine ay ?_|refine aj ?_ _));refine bK (cs:=#[.string CB, .string EJ,xE]) ?_ 2 _ rfl;(with_reducible repeat(first|refine au ?_ _|refine ay ?_|refine aj ?_ _));exact lH.out⟩,⟨bb⟩⟩
    ·replace H:=sb H;rcases H with⟨rfl,H⟩|⟨rfl,H⟩
     ·replace H:=bd H;obtain⟨aoY,A40,H⟩:=H;replace H:=sb H;rcases H with⟨rfl,H⟩|⟨rfl,H⟩
      ·simp only[Option.some.injEq,Prod.mk.injEq]at H;obtain⟨rfl,rfl,rfl,rfl⟩:=H;have aw1:=zI.out;have aw2:=rC.out;obtain⟨asl,asn,aso,asq,asr,asu⟩:=jP lH.out;obtain⟨af5,af6,akZ⟩:=Kd.eU iY.out;subst akZ;go_wp2_with (first|(go_at_call 182;(with_reducible refine(aX.calls k1 CB EJ _ _ qm true _ (cu ((Kd.dK iY.out).2.2)) ((Kd.dK iY.out).2.1) A40.out).mono ?_);rintro e w45 ⟨rfl,hb⟩;replace iY:=rb iY hb;replace jy:=kb jy hb;replace lH:=kb lH hb;replace HB:=ak (aG bb hb);(try clear hb);obtain⟨agH,agI,agJ,agK,agL,agM⟩:=jP lH.out;obtain⟨agN,agO,agP,agQ,agR,agS⟩:=jP jy.out))
       refine bodyPost_ret (pK rfl _ _ vS 61 #[.string CB, .string EJ, .slice af5 qm.length af6] (0,0) _ rfl (by(with_reducible repeat(first|refine au ?_ _|refine ay ?_|refine aj ?_ _));refine bK (cs:=#[.string CB, .string EJ, .slice none 0 0]) ?_ 2 _ rfl;(with_reducible repeat(first|refine au ?_ _|refine ay ?_|refine aj ?_ _));refine bK (cs:=#[.string CB, .string oK, .slice none 0 0]) ?_ 1 _ rfl;(with_reducible repeat(first|refine au ?_ _|refine ay ?_|refine aj ?_ _));refine bK (cs:=#[.string tK, .string oK, .slice none 0 0]) ?_ 0 _ rfl;(with_reducible repeat(first|refine au ?_ _|refine ay ?_|refine aj ?_ _));exact jy.out) Tryz.underlying61 rfl (by kernel_rfl)) rfl ?_;exact⟨_,er,ur (Kd.dM (Kd.gZ (p:=⟨vS,2,none⟩) (Kd.gZ (p:=⟨vS,1,none⟩) (Kd.gZ (p:=⟨vS,0,none⟩) (Kd.jr iY.out jy.out (by decide)) (fun _ hk=>hk.2) (.string CB)) (fun _ hk=>hk.2) (.string EJ)) (fun _ hk=>hk.2) (.slice af5 qm.length af6)) (fun _ hk=>trivial)),bb⟩
      ·simp only[Option.some.injEq,Prod.mk.injEq]at H;obtain⟨rfl,rfl,rfl,rfl⟩:=H;have apb:=zI.out;have apc:=rC.out;obtain⟨ZP,ZQ,agT,ZR,ZT,agU⟩:=jP lH.out;obtain⟨azd,aze,auh⟩:=Kd.eU iY.out;subst auh;go_wp2_with (first|(go_at_call 182;(with_reducible refine(aX.calls k1 CB EJ _ _ qm false _ (cu ((Kd.dK iY.out).2.2)) ((Kd.dK iY.out).2.1) A40.out).mono ?_);rintro e w51 ⟨rfl,hb⟩;replace iY:=rb iY hb;replace jy:=kb jy hb;replace lH:=kb lH hb;replace HB:=ak (aG bb hb);(try clear hb);obtain⟨Tn,Tq,Tt,Tv,Tz,TA⟩:=jP jy.out))
       refine bodyPost_ret (pK rfl _ _ vS 61 #[.string (⟨#[]⟩:ByteArray), .string (⟨#[]⟩:ByteArray), .slice none 0 0] (0,0) _ rfl (by(with_reducible repeat(first|refine au ?_ _|refine ay ?_|refine aj ?_ _));refine bK (cs:=#[.string (⟨#[]⟩:ByteArray), .string (⟨#[]⟩:ByteArray), .slice none 0 0]) ?_ 2 _ rfl;(with_reducible repeat(first|refine au ?_ _|refine ay ?_|refine aj ?_ _));refine bK (cs:=#[.string (⟨#[]⟩:ByteArray), .string oK, .slice none 0 0]) ?_ 1 _ rfl;(with_reducible repeat(first|refine au ?_ _|refine ay ?_|refine aj ?_ _));refine bK (cs:=#[.string tK, .string oK, .slice none 0 0]) ?_ 0 _ rfl;(with_reducible repeat(first|refine au ?_ _|refine ay ?_|refine aj ?_ _));exact jy.out) Tryz.underlying61 rfl (by kernel_rfl)) rfl ?_;exact⟨_,er,nx,bb⟩
     ·simp only[Option.some.injEq,Prod.mk.injEq]at H;obtain⟨rfl,rfl,rfl,rfl⟩:=H;have apd:=rC.out;have ape:=zI.out;obtain⟨agV,agW,agX,agY,agZ,ag0⟩:=jP jy.out;go_wp2;refine bodyPost_ret (pK rfl _ _ vS 61 #[.string (⟨#[]⟩:ByteArray), .string (⟨#[]⟩:ByteArray), .slice none 0 0] (0,0) _ rfl (by(with_reducible repeat(first|refine au ?_ _|refine ay ?_|refine aj ?_ _));refine bK (cs:=#[.string (⟨#[]⟩:ByteArray), .string (⟨#[]⟩:ByteArray), .slice none 0 0]) ?_ 2 _ rfl;(with_reducible repeat(first|refine au ?_ _|refine ay ?_|refine aj ?_ _));refine bK (cs:=#[.string (⟨#[]⟩:ByteArray), .string oK, .slice none 0 0]) ?_ 1 _ rfl;(with_reducible repeat(first|refine au ?_ _|refine ay ?_|refine aj ?_ _));refine bK (cs:=#[.string tK, .string oK, .slice none 0 0]) ?_ 0 _ rfl;(with_reducible repeat(first|refine au ?_ _|refine ay ?_|refine aj ?_ _));exact jy.out) Tryz.underlying61 rfl (by kernel_rfl)) rfl ?_;exact⟨_,er,nx,bb⟩
 ·simp only[Option.some.injEq,Prod.mk.injEq]at H;obtain⟨rfl,rfl,rfl,rfl⟩:=H;go_enter Tryz.func155,Tryz.ntmps155;go_wp2_with (first|(refine bU (N:=2) rfl ?_;(try(refine aZ (by rfl) ?_;dsimp only));refine bE 2 #[.string (⟨#[]⟩:ByteArray), .string (⟨#[]⟩:ByteArray), .slice none 0 0] 61 ?_;intro vS hg w55 hbox hb;have jy:=ak (hbox);have ao1:=jY HB hg;have ao2:=jY HB hg;replace HB:=bs HB hb;clear hb hbox hg)|(refine gL 159 18 Tryz.func159 #[.string a0] ?_;(with_reducible refine(aW.calls k a0 false _ A2.out).mono ?_);rintro e w' ⟨rfl,⟨nd,rfl⟩⟩;refine⟨_,rfl,?_⟩;(try(rw[qO w55];generalize EK:World.drewN w55 _=w55;have iH:ah (w55.heap[vS]? =some (.cells #[.string (⟨#[]⟩:ByteArray), .string (⟨#[]⟩:ByteArray), .slice none 0 0] 61 (0,0))):=⟨by rw[←EK];exact(ub jy.out)⟩;have iI:ah (Below w.heap.size w w55):=⟨by rw[←EK];exact bb⟩;clear jy HB EK;have jy:=iH;have HB:=iI;clear iH iI));obtain⟨asv,asw,asx,asy,asz,asA⟩:=jP jy.out))
  refine bodyPost_ret (pK rfl _ _ vS 61 #[.string (⟨#[]⟩:ByteArray), .string (⟨#[]⟩:ByteArray), .slice none 0 0] (0,0) _ rfl (by(with_reducible repeat(first|refine au ?_ _|refine ay ?_|refine aj ?_ _));refine bK (cs:=#[.string (⟨#[]⟩:ByteArray), .string (⟨#[]⟩:ByteArray), .slice none 0 0]) ?_ 2 _ rfl;(with_reducible repeat(first|refine au ?_ _|refine ay ?_|refine aj ?_ _));refine bK (cs:=#[.string (⟨#[]⟩:ByteArray), .string (⟨#[]⟩:ByteArray), .slice none 0 0]) ?_ 1 _ rfl;(with_reducible repeat(first|refine au ?_ _|refine ay ?_|refine aj ?_ _));refine bK (cs:=#[.string (⟨#[]⟩:ByteArray), .string (⟨#[]⟩:ByteArray), .slice none 0 0]) ?_ 0 _ rfl;(with_reducible repeat(first|refine au ?_ _|refine ay ?_|refine aj ?_ _));exact jy.out) Tryz.underlying61 rfl (by kernel_rfl)) rfl ?_;exact⟨_,er,nx,bb⟩
mutual
def bQ.l0:Nat→ByteArray→Int→Option (Bool)
 |0,_,_=>none
 |k+1,x0,x3=>if x3<(x0.size:Int)then(bQ.j1 k x0 x3 (decide (x3≤20)))else(bQ.j1 k x0 x3 false)
def bQ.j1:Nat→ByteArray→Int→Bool→Option (Bool)
 |0,_,_,_=>none
 |k+1,x0,x3,x11=>if x11=true then(if 0≤x3 then(if x3<(x0.size:Int)then((iT.f (bt x0 x3)).bind fun apf=>(if apf=true then(bQ.l0 k x0 (wrap64 (x3+1)))else(some false)))else(none))else(none))else(if(x0.size:Int)≥1 then(some (decide ((x0.size:Int)≤20)))else(some false))
end
def bQ.f(k:Nat)(a0:ByteArray):Option (Bool):=bQ.l0 k a0 0
set_option maxHeartbeats 8000000 in
set_option maxRecDepth 100000 in
theorem bQ.calls(k:Nat)(a0:ByteArray)(r:Bool)(w:World)(h:bQ.f k a0=some r):
  Calls Tryz.prog 157 #[.string a0] w fun e w'=>e= .returned (.bool r)∧eH w w':=by
 have H:(bQ.l0 k a0 0)=some r:=h;clear h;have H':=ak H;clear H;go_enter Tryz.func157,Tryz.ntmps157;go_wp2;go_loopg [3] k (fun kq v3 w'=>∃(cO:Int),v3= .int .i64 cO∧ah (bQ.l0 kq a0 cO=some r)∧ah (kq≤k)∧eH w w')
 case atStart=>exact⟨(0),rs,H',⟨Nat.le_refl _⟩,dn⟩
 case round=>
  clear H';try clear c1
  obtain⟨cO,rfl,HA,iC,⟨m1,rfl⟩⟩:=hrel
  cases gk with
  |zero=>exact absurd HA.out (by simp[bQ.l0])
  |succ k1=>
   have H:=HA.out;clear HA;simp only[bQ.l0]at H;have HC2:=ak H;clear H;go_upto_region 2 with(fail)
   go_cut [11] (fun v11 wc=>∃(kq:Nat) (sH:Bool),v11= .bool sH∧ah (bQ.j1 kq a0 cO sH=some r)∧ah (kq≤k1)∧eH w wc)
   case first=>
    have H:=HC2.out;clear HC2;replace H:=sd H;rcases H with⟨fM,H⟩|⟨fM,H⟩
    ·(first|rw[fM]|(simp only[bC,bH];rw[fM])|skip);have H':=ak H;clear H;go_wp2;go_meet
     case rel=>exact⟨_,(decide (cO≤20)),rs,H',⟨by have:=iC.out;first|omega|exact Nat.le_refl _⟩,dn⟩
    ·(first|rw[fM]|(simp only[bC,bH];rw[fM])|skip);have H':=ak H;clear H;go_wp2;go_meet
     case rel=>exact⟨_,(false),rs,H',⟨by have:=iC.out;first|omega|exact Nat.le_refl _⟩,dn⟩
   case rest=>
    clear HC2;try clear c1
    try clear p2
    try clear c3
    try clear fM
    obtain⟨kq,sH,rfl,HA,AO,⟨mc1,rfl⟩⟩:=hcut
    cases kq with
    |zero=>exact absurd HA.out (by simp[bQ.j1])
    |succ Gj=>
     have H:=HA.out;clear HA;simp only[bQ.j1]at H;replace H:=sb H;rcases H with⟨rfl,H⟩|⟨rfl,H⟩
     ·replace H:=og H;obtain⟨pU,H⟩:=H;replace H:=og H;obtain⟨mW,H⟩:=H;replace H:=bd H;obtain⟨apf,A8,H⟩:=H;replace H:=sb H;rcases H with⟨rfl,H⟩|⟨rfl,H⟩
      ·have H':=ak H;clear H;obtain⟨p7,q7,hx7⟩:=bx a0 cO;go_wp2_with (first|(refine gL 183 17 Tryz.func183 #[.int .u8 (bt a0 cO)] ?_;(with_reducible refine(iT.calls (bt a0 cO) true _ A8.out).mono ?_);rintro e w' ⟨rfl,⟨nd,rfl⟩⟩;refine⟨_,rfl,?_⟩))
       go_roundg Gj
       case measure=>have:=iC.out;have:=AO.out;omega
       case rel=>exact⟨(wrap64 (cO+1)),rs,H',⟨by have:=iC.out;have:=AO.out;omega⟩,dn⟩
      ·obtain rfl:=Option.some.inj H;obtain⟨p7,q7,hx7⟩:=bx a0 cO;go_wp2_with (first|(refine gL 183 17 Tryz.func183 #[.int .u8 (bt a0 cO)] ?_;(with_reducible refine(iT.calls (bt a0 cO) false _ A8.out).mono ?_);rintro e w' ⟨rfl,⟨nd,rfl⟩⟩;refine⟨_,rfl,?_⟩))
       go_ret;exact⟨rs,dn⟩
     ·replace H:=sp H;rcases H with⟨c10,H⟩|⟨c10,H⟩
      ·have qj:decide (1≤(a0.size:Int))=true:=decide_eq_true c10;have vI:decide (1≤a0.size)=true:=decide_eq_true (by omega);clear c10;obtain rfl:=Option.some.inj H;go_wp2;go_ret;exact⟨rs,dn⟩
      ·have qj:decide (1≤(a0.size:Int))=false:=decide_eq_false c10;have vI:decide (1≤a0.size)=false:=decide_eq_false (by omega);clear c10;obtain rfl:=Option.some.inj H;go_wp2;go_ret;exact⟨rs,dn⟩
def lC.f(k:Nat)(aY:ByteArray)(bf:ByteArray)(aC:List (jl)):Option (ByteArray×Bool):=(jg.f k aC (⟨#[98,111,117,110,100,97,114,121]⟩:ByteArray)).bind fun O6=>((aX.f k aY bf aC).bind fun ag1=>(if ag1=true then(if aY.toList=([109,117,108,116,105,112,97,114,116]:List UInt8)then(if O6.2=true then((bQ.f k O6.1).bind fun ag2=>(if ag2=true then(some (O6.1,true))else(some ((⟨#[]⟩:ByteArray),false))))else(some ((⟨#[]⟩:ByteArray),false)))else(some ((⟨#[]⟩:ByteArray),false)))else(some ((⟨#[]⟩:ByteArray),false))))
set_option maxHeartbeats 8000000 in
set_option maxRecDepth 100000 in
theorem lC.calls(k:Nat)(aY:ByteArray)(bf:ByteArray)(fF:Option Addr)(dR:Nat)(aC:List (jl))(r1:ByteArray)(r2:Bool)(w:World)(jL:Kd.C pV w fF aC.length aC)(jM:aC.length≤dR)(h:lC.f k aY bf aC=some (r1,r2)):
  Calls Tryz.prog 156 #[.agg #[.string aY, .string bf, .slice fF aC.length dR]] w fun e w'=>e= .returned (.tuple #[.string r1, .bool r2])∧Below w.heap.size w w':=by
 have VH:=Tryz.underlying61;have jc:=ak jL;have kC:=ak jM;clear jL jM;have HB:=ak (Below.refl w.heap.size w);have H:((jg.f k aC (⟨#[98,111,117,110,100,97,114,121]⟩:ByteArray)).bind fun O6=>((aX.f k aY bf aC).bind fun ag1=>(if ag1=true then(if aY.toList=([109,117,108,116,105,112,97,114,116]:List UInt8)then(if O6.2=true then((bQ.f k O6.1).bind fun ag2=>(if ag2=true then(some (O6.1,true))else(some ((⟨#[]⟩:ByteArray),false))))else(some ((⟨#[]⟩:ByteArray),false)))else(some ((⟨#[]⟩:ByteArray),false)))else(some ((⟨#[]⟩:ByteArray),false)))))=some (r1,r2):=h;clear h;replace H:=bd H;obtain⟨⟨XI,apg⟩,A2,H⟩:=H
 (try dsimp only at H);replace H:=bd H;obtain⟨ag1,A3,H⟩:=H;replace H:=sb H;rcases H with⟨rfl,H⟩|⟨rfl,H⟩
 ·replace H:=sq H;rcases H with⟨pU,TI,H⟩|⟨c5,pU,TI,H⟩
  ·replace H:=sb H;rcases H with⟨rfl,H⟩|⟨rfl,H⟩
   ·replace H:=bd H;obtain⟨ag2,A7,H⟩:=H;replace H:=sb H;rcases H with⟨rfl,H⟩|⟨rfl,H⟩
    ·simp only[Option.some.injEq,Prod.mk.injEq]at H;obtain⟨rfl,rfl⟩:=H;go_enter Tryz.func156,Tryz.ntmps156;go_wp2_with (first|(refine bE 1 #[.string aY, .string bf, .slice fF aC.length dR] 61 ?_;intro ZU hg w9 hbox hb;have mP:=ak (hbox);have ZV:=jY HB hg;have ZW:=jY HB hg;replace HB:=bs HB hb;clear hb hbox hg;obtain⟨oz,pX,xB,oC,pY,xC⟩:=jP mP.out)|(refine gL 154 9 Tryz.func154 #[.slice fF aC.length dR, .string (⟨#[98,111,117,110,100,97,114,121]⟩:ByteArray)] ?_;(with_reducible refine(jg.calls k _ _ aC (⟨#[98,111,117,110,100,97,114,121]⟩:ByteArray) XI true _ (cu (Kd.aN jc.out HB.out)) kC.out A2.out).mono ?_);rintro e Cm ⟨rfl,hb⟩;refine⟨_,rfl,?_⟩;replace mP:=kb mP hb;replace HB:=ak (aG bb hb);(try clear hb);obtain⟨vM,Bh,Bj,vN,Bl,Bo⟩:=jP mP.out)|(refine gL 182 13 Tryz.func182 #[.agg #[.string aY, .string bf, .slice fF aC.length dR]] ?_;(with_reducible refine(aX.calls k aY bf _ _ aC true _ (cu (Kd.aN jc.out HB.out)) kC.out A3.out).mono ?_);rintro e Vj ⟨rfl,hb⟩;refine⟨_,rfl,?_⟩;replace mP:=kb mP hb;replace HB:=ak (aG bb hb);(try clear hb);obtain⟨Jf,Jg,NW,Jh,Ji,NY⟩:=jP mP.out)|(go_at_call 157;(with_reducible refine(bQ.calls k XI true _ A7.out).mono ?_);rintro e w' ⟨rfl,⟨nd,rfl⟩⟩))
     go_ret2;exact⟨er,bb⟩
    ·simp only[Option.some.injEq,Prod.mk.injEq]at H;obtain⟨rfl,rfl⟩:=H;go_enter Tryz.func156,Tryz.ntmps156;go_wp2_with (first|(refine bE 1 #[.string aY, .string bf, .slice fF aC.length dR] 61 ?_;intro ZU hg w15 hbox hb;have mP:=ak (hbox);have ZV:=jY HB hg;have ZW:=jY HB hg;replace HB:=bs HB hb;clear hb hbox hg;obtain⟨N9,N_,TW,Oa,Ob,TY⟩:=jP mP.out)|(refine gL 154 9 Tryz.func154 #[.slice fF aC.length dR, .string (⟨#[98,111,117,110,100,97,114,121]⟩:ByteArray)] ?_;(with_reducible refine(jg.calls k _ _ aC (⟨#[98,111,117,110,100,97,114,121]⟩:ByteArray) XI true _ (cu (Kd.aN jc.out HB.out)) kC.out A2.out).mono ?_);rintro e w17 ⟨rfl,hb⟩;refine⟨_,rfl,?_⟩;replace mP:=kb mP hb;replace HB:=ak (aG bb hb);(try clear hb);obtain⟨tq,tu,uG,tC,tH,uH⟩:=jP mP.out)|(refine gL 182 13 Tryz.func182 #[.agg #[.string aY, .string bf, .slice fF aC.length dR]] ?_;(with_reducible refine(aX.calls k aY bf _ _ aC true _ (cu (Kd.aN jc.out HB.out)) kC.out A3.out).mono ?_);rintro e w19 ⟨rfl,hb⟩;refine⟨_,rfl,?_⟩;replace mP:=kb mP hb;replace HB:=ak (aG bb hb);(try clear hb);obtain⟨uX,uY,uZ,u_,vk,vw⟩:=jP mP.out)|(go_at_call 157;(with_reducible refine(bQ.calls k XI false _ A7.out).mono ?_);rintro e w' ⟨rfl,⟨nd,rfl⟩⟩))
     go_ret2;exact⟨er,bb⟩
   ·simp only[Option.some.injEq,Prod.mk.injEq]at H;obtain⟨rfl,rfl⟩:=H;go_enter Tryz.func156,Tryz.ntmps156;go_wp2_with (first|(refine bE 1 #[.string aY, .string bf, .slice fF aC.length dR] 61 ?_;intro ZU hg w21 hbox hb;have mP:=ak (hbox);have ZV:=jY HB hg;have ZW:=jY HB hg;replace HB:=bs HB hb;clear hb hbox hg;obtain⟨Jk,Oc,Oe,Jl,Og,Oh⟩:=jP mP.out)|(refine gL 154 9 Tryz.func154 #[.slice fF aC.length dR, .string (⟨#[98,111,117,110,100,97,114,121]⟩:ByteArray)] ?_;(with_reducible refine(jg.calls k _ _ aC (⟨#[98,111,117,110,100,97,114,121]⟩:ByteArray) XI false _ (cu (Kd.aN jc.out HB.out)) kC.out A2.out).mono ?_);rintro e w23 ⟨rfl,hb⟩;refine⟨_,rfl,?_⟩;replace mP:=kb mP hb;replace HB:=ak (aG bb hb);(try clear hb);obtain⟨T_,Ua,Ub,Uc,Ud,Ue⟩:=jP mP.out)|(refine gL 182 13 Tryz.func182 #[.agg #[.string aY, .string bf, .slice fF aC.length dR]] ?_;(with_reducible refine(aX.calls k aY bf _ _ aC true _ (cu (Kd.aN jc.out HB.out)) kC.out A3.out).mono ?_);rintro e w25 ⟨rfl,hb⟩;refine⟨_,rfl,?_⟩;replace mP:=kb mP hb;replace HB:=ak (aG bb hb);(try clear hb);obtain⟨asB,asC,asD,asE,asF,asG⟩:=jP mP.out))
    go_ret2;exact⟨er,bb⟩
  ·simp only[Option.some.injEq,Prod.mk.injEq]at H;obtain⟨rfl,rfl⟩:=H;go_enter Tryz.func156,Tryz.ntmps156;go_wp2_with (first|(refine bE 1 #[.string aY, .string bf, .slice fF aC.length dR] 61 ?_;intro ZU hg w27 hbox hb;have mP:=ak (hbox);have ZV:=jY HB hg;have ZW:=jY HB hg;replace HB:=bs HB hb;clear hb hbox hg;obtain⟨NZ,TR,TS,N7,TT,TU⟩:=jP mP.out)|(refine gL 154 9 Tryz.func154 #[.slice fF aC.length dR, .string (⟨#[98,111,117,110,100,97,114,121]⟩:ByteArray)] ?_;(with_reducible refine(jg.calls k _ _ aC (⟨#[98,111,117,110,100,97,114,121]⟩:ByteArray) XI apg _ (cu (Kd.aN jc.out HB.out)) kC.out A2.out).mono ?_);rintro e w29 ⟨rfl,hb⟩;refine⟨_,rfl,?_⟩;replace mP:=kb mP hb;replace HB:=ak (aG bb hb);(try clear hb);obtain⟨Uf,Ug,Uh,Ui,Uj,Uk⟩:=jP mP.out)|(refine gL 182 13 Tryz.func182 #[.agg #[.string aY, .string bf, .slice fF aC.length dR]] ?_;(with_reducible refine(aX.calls k aY bf _ _ aC true _ (cu (Kd.aN jc.out HB.out)) kC.out A3.out).mono ?_);rintro e w31 ⟨rfl,hb⟩;refine⟨_,rfl,?_⟩;replace mP:=kb mP hb;replace HB:=ak (aG bb hb);(try clear hb);obtain⟨agf,agh,asH,agi,agj,asI⟩:=jP mP.out))
   go_ret2;exact⟨er,bb⟩
 ·simp only[Option.some.injEq,Prod.mk.injEq]at H;obtain⟨rfl,rfl⟩:=H;go_enter Tryz.func156,Tryz.ntmps156;go_wp2_with (first|(refine bE 1 #[.string aY, .string bf, .slice fF aC.length dR] 61 ?_;intro ZU hg w33 hbox hb;have mP:=ak (hbox);have ZV:=jY HB hg;have ZW:=jY HB hg;replace HB:=bs HB hb;clear hb hbox hg;obtain⟨NP,NQ,Tj,NR,NS,Tm⟩:=jP mP.out)|(refine gL 154 9 Tryz.func154 #[.slice fF aC.length dR, .string (⟨#[98,111,117,110,100,97,114,121]⟩:ByteArray)] ?_;(with_reducible refine(jg.calls k _ _ aC (⟨#[98,111,117,110,100,97,114,121]⟩:ByteArray) XI apg _ (cu (Kd.aN jc.out HB.out)) kC.out A2.out).mono ?_);rintro e w35 ⟨rfl,hb⟩;refine⟨_,rfl,?_⟩;replace mP:=kb mP hb;replace HB:=ak (aG bb hb);(try clear hb);obtain⟨ag3,ag4,ag5,ag6,ag7,ag8⟩:=jP mP.out)|(refine gL 182 13 Tryz.func182 #[.agg #[.string aY, .string bf, .slice fF aC.length dR]] ?_;(with_reducible refine(aX.calls k aY bf _ _ aC false _ (cu (Kd.aN jc.out HB.out)) kC.out A3.out).mono ?_);rintro e w37 ⟨rfl,hb⟩;refine⟨_,rfl,?_⟩;replace mP:=kb mP hb;replace HB:=ak (aG bb hb);(try clear hb)))
  go_ret2;exact⟨er,bb⟩
def jE.f(k:Nat)(l0:List (jl)):Option (ByteArray×Bool):=(jg.f k l0 (⟨#[67,111,110,116,101,110,116,45,84,121,112,101]⟩:ByteArray)).bind fun VN=>((bG.f k VN.1).bind fun Jm=>((lC.f k Jm.1 Jm.2.1 Jm.2.2.1).bind fun Jo=>(if VN.2=true then(if Jm.2.2.2=true then(some (Jo.1,Jo.2))else(some (Jo.1,false)))else(some (Jo.1,false)))))
set_option maxHeartbeats 8000000 in
set_option maxRecDepth 100000 in
theorem jE.calls(k:Nat)(A0:Option Addr)(c0:Nat)(l0:List (jl))(r1:ByteArray)(r2:Bool)(w:World)(hr0:Kd.C pV w A0 l0.length l0)(hc0:l0.length≤c0)(h:jE.f k l0=some (r1,r2)):
  Calls Tryz.prog 108 #[.slice A0 l0.length c0] w fun e w'=>e= .returned (.tuple #[.string r1, .bool r2])∧Below w.heap.size w w':=by
 have VH:=Tryz.underlying61;have HR0:=ak hr0;have wJ:=ak hc0;clear hr0 hc0;have HB:=ak (Below.refl w.heap.size w);have H:((jg.f k l0 (⟨#[67,111,110,116,101,110,116,45,84,121,112,101]⟩:ByteArray)).bind fun VN=>((bG.f k VN.1).bind fun Jm=>((lC.f k Jm.1 Jm.2.1 Jm.2.2.1).bind fun Jo=>(if VN.2=true then(if Jm.2.2.2=true then(some (Jo.1,Jo.2))else(some (Jo.1,false)))else(some (Jo.1,false))))))=some (r1,r2):=h;clear h;replace H:=bd H;obtain⟨⟨Ul,azf⟩,A2,H⟩:=H
 (try dsimp only at H);replace H:=bd H;obtain⟨⟨yU,BX,BZ,aui⟩,A3,H⟩:=H
 (try dsimp only at H);replace H:=bd H;obtain⟨⟨alu,alv⟩,A4,H⟩:=H
 (try dsimp only at H);replace H:=sb H;rcases H with⟨rfl,H⟩|⟨rfl,H⟩
 ·replace H:=sb H;rcases H with⟨rfl,H⟩|⟨rfl,H⟩
  ·simp only[Option.some.injEq,Prod.mk.injEq]at H;obtain⟨rfl,rfl⟩:=H;go_enter Tryz.func108,Tryz.ntmps108;go_wp2_with (first|(refine gL 154 12 Tryz.func154 #[.slice A0 l0.length c0, .string (⟨#[67,111,110,116,101,110,116,45,84,121,112,101]⟩:ByteArray)] ?_;(with_reducible refine(jg.calls k _ _ l0 (⟨#[67,111,110,116,101,110,116,45,84,121,112,101]⟩:ByteArray) Ul true _ (cu HR0.out) wJ.out A2.out).mono ?_);rintro e w7 ⟨rfl,hb⟩;refine⟨_,rfl,?_⟩;replace HB:=bs HB hb;(try clear hb))|(refine gL 155 17 Tryz.func155 #[.string Ul] ?_;(with_reducible refine(bG.calls k Ul yU BX BZ true _ A3.out).mono ?_);rintro e w8 ⟨aph,rfl,ho0,hb⟩;refine⟨_,rfl,?_⟩;have sK:=ak (Kd.fA ho0 (aA (ul HB.out)));replace HB:=bs HB hb;(try clear hb);(try clear ho0))|(refine bE 6 #[.string (⟨#[]⟩:ByteArray), .string (⟨#[]⟩:ByteArray), .slice none 0 0] 61 ?_;intro sN hg w9 hbox hb;have xX:=ak (hbox);have ajs:=jY HB hg;have ajt:=jY HB hg;replace sK:=rb sK hb;replace HB:=bs HB hb;clear hb hbox hg;obtain⟨oz,pX,xB,oC,pY,xC⟩:=jP xX.out;obtain⟨acB,abt,akE⟩:=Kd.eU sK.out;subst akE)|(refine gL 156 22 Tryz.func156 #[.agg #[.string yU, .string BX, .slice acB BZ.length abt]] ?_;(with_reducible refine(lC.calls k yU BX _ _ BZ alu alv _ ?kX ?nG A4.out).mono ?_);(case kX=>refine(Kd.dK (e:=69) (base:=w.heap.size) (ok:=fun k_=>True) (n:=BZ.length) (c:=abt) ?_).2.2;exact(ur (Kd.dM (Kd.gZ (p:=⟨sN,2,none⟩) (Kd.gZ (p:=⟨sN,1,none⟩) (Kd.gZ (p:=⟨sN,0,none⟩) (Kd.jr sK.out xX.out (by decide)) (fun _ hk=>hk.2) (.string yU)) (fun _ hk=>hk.2) (.string BX)) (fun _ hk=>hk.2) (.slice acB BZ.length abt)) (fun _ h_=>h_.1))));(case nG=>exact(Kd.dK sK.out).2.1);rintro e w12 ⟨rfl,hb⟩;refine⟨_,rfl,?_⟩;replace sK:=ak (Kd.mV (ur (Kd.dM (Kd.gZ (p:=⟨sN,2,none⟩) (Kd.gZ (p:=⟨sN,1,none⟩) (Kd.gZ (p:=⟨sN,0,none⟩) (Kd.jr sK.out xX.out (by decide)) (fun _ hk=>hk.2) (.string yU)) (fun _ hk=>hk.2) (.string BX)) (fun _ hk=>hk.2) (.slice acB BZ.length abt)) (fun _ h_=>h_.1))) hb);replace xX:=ak (iD (g:=sN) (o:= .cells #[.string yU, .string BX, .slice acB BZ.length abt] 61 (0,0)) (by(with_reducible repeat(first|refine au ?_ _|refine ay ?_|refine aj ?_ _));refine bK (cs:=#[.string yU, .string BX, .slice none 0 0]) ?_ 2 _ rfl;(with_reducible repeat(first|refine au ?_ _|refine ay ?_|refine aj ?_ _));refine bK (cs:=#[.string yU, .string (⟨#[]⟩:ByteArray), .slice none 0 0]) ?_ 1 _ rfl;(with_reducible repeat(first|refine au ?_ _|refine ay ?_|refine aj ?_ _));refine bK (cs:=#[.string (⟨#[]⟩:ByteArray), .string (⟨#[]⟩:ByteArray), .slice none 0 0]) ?_ 0 _ rfl;(with_reducible repeat(first|refine au ?_ _|refine ay ?_|refine aj ?_ _));exact xX.out) hb);replace HB:=ak (aG bb hb);(try clear hb)))
   go_ret2;exact⟨er,bb⟩
  ·simp only[Option.some.injEq,Prod.mk.injEq]at H;obtain⟨rfl,rfl⟩:=H;go_enter Tryz.func108,Tryz.ntmps108;go_wp2_with (first|(refine gL 154 12 Tryz.func154 #[.slice A0 l0.length c0, .string (⟨#[67,111,110,116,101,110,116,45,84,121,112,101]⟩:ByteArray)] ?_;(with_reducible refine(jg.calls k _ _ l0 (⟨#[67,111,110,116,101,110,116,45,84,121,112,101]⟩:ByteArray) Ul true _ (cu HR0.out) wJ.out A2.out).mono ?_);rintro e Vj ⟨rfl,hb⟩;refine⟨_,rfl,?_⟩;replace HB:=bs HB hb;(try clear hb))|(refine gL 155 17 Tryz.func155 #[.string Ul] ?_;(with_reducible refine(bG.calls k Ul yU BX BZ false _ A3.out).mono ?_);rintro e Q9 ⟨aph,rfl,ho0,hb⟩;refine⟨_,rfl,?_⟩;have sK:=ak (Kd.fA ho0 (aA (ul HB.out)));replace HB:=bs HB hb;(try clear hb);(try clear ho0))|(refine bE 6 #[.string (⟨#[]⟩:ByteArray), .string (⟨#[]⟩:ByteArray), .slice none 0 0] 61 ?_;intro sN hg w15 hbox hb;have xX:=ak (hbox);have ajs:=jY HB hg;have ajt:=jY HB hg;replace sK:=rb sK hb;replace HB:=bs HB hb;clear hb hbox hg;obtain⟨N9,N_,TW,Oa,Ob,TY⟩:=jP xX.out;obtain⟨Gz,Fq,alx⟩:=Kd.eU sK.out;subst alx)|(refine gL 156 22 Tryz.func156 #[.agg #[.string yU, .string BX, .slice Gz BZ.length Fq]] ?_;(with_reducible refine(lC.calls k yU BX _ _ BZ alu alv _ ?kX ?nG A4.out).mono ?_);(case kX=>refine(Kd.dK (e:=69) (base:=w.heap.size) (ok:=fun k_=>True) (n:=BZ.length) (c:=Fq) ?_).2.2;exact(ur (Kd.dM (Kd.gZ (p:=⟨sN,2,none⟩) (Kd.gZ (p:=⟨sN,1,none⟩) (Kd.gZ (p:=⟨sN,0,none⟩) (Kd.jr sK.out xX.out (by decide)) (fun _ hk=>hk.2) (.string yU)) (fun _ hk=>hk.2) (.string BX)) (fun _ hk=>hk.2) (.slice Gz BZ.length Fq)) (fun _ h_=>h_.1))));(case nG=>exact(Kd.dK sK.out).2.1);rintro e w18 ⟨rfl,hb⟩;refine⟨_,rfl,?_⟩;replace sK:=ak (Kd.mV (ur (Kd.dM (Kd.gZ (p:=⟨sN,2,none⟩) (Kd.gZ (p:=⟨sN,1,none⟩) (Kd.gZ (p:=⟨sN,0,none⟩) (Kd.jr sK.out xX.out (by decide)) (fun _ hk=>hk.2) (.string yU)) (fun _ hk=>hk.2) (.string BX)) (fun _ hk=>hk.2) (.slice Gz BZ.length Fq)) (fun _ h_=>h_.1))) hb);replace xX:=ak (iD (g:=sN) (o:= .cells #[.string yU, .string BX, .slice Gz BZ.length Fq] 61 (0,0)) (by(with_reducible repeat(first|refine au ?_ _|refine ay ?_|refine aj ?_ _));refine bK (cs:=#[.string yU, .string BX, .slice none 0 0]) ?_ 2 _ rfl;(with_reducible repeat(first|refine au ?_ _|refine ay ?_|refine aj ?_ _));refine bK (cs:=#[.string yU, .string (⟨#[]⟩:ByteArray), .slice none 0 0]) ?_ 1 _ rfl;(with_reducible repeat(first|refine au ?_ _|refine ay ?_|refine aj ?_ _));refine bK (cs:=#[.string (⟨#[]⟩:ByteArray), .string (⟨#[]⟩:ByteArray), .slice none 0 0]) ?_ 0 _ rfl;(with_reducible repeat(first|refine au ?_ _|refine ay ?_|refine aj ?_ _));exact xX.out) hb);replace HB:=ak (aG bb hb);(try clear hb)))
   go_ret2;exact⟨er,bb⟩
 ·simp only[Option.some.injEq,Prod.mk.injEq]at H;obtain⟨rfl,rfl⟩:=H;go_enter Tryz.func108,Tryz.ntmps108;go_wp2_with (first|(refine gL 154 12 Tryz.func154 #[.slice A0 l0.length c0, .string (⟨#[67,111,110,116,101,110,116,45,84,121,112,101]⟩:ByteArray)] ?_;(with_reducible refine(jg.calls k _ _ l0 (⟨#[67,111,110,116,101,110,116,45,84,121,112,101]⟩:ByteArray) Ul false _ (cu HR0.out) wJ.out A2.out).mono ?_);rintro e w19 ⟨rfl,hb⟩;refine⟨_,rfl,?_⟩;replace HB:=bs HB hb;(try clear hb))|(refine gL 155 17 Tryz.func155 #[.string Ul] ?_;(with_reducible refine(bG.calls k Ul yU BX BZ aui _ A3.out).mono ?_);rintro e w20 ⟨aph,rfl,ho0,hb⟩;refine⟨_,rfl,?_⟩;have sK:=ak (Kd.fA ho0 (aA (ul HB.out)));replace HB:=bs HB hb;(try clear hb);(try clear ho0))|(refine bE 6 #[.string (⟨#[]⟩:ByteArray), .string (⟨#[]⟩:ByteArray), .slice none 0 0] 61 ?_;intro sN hg w21 hbox hb;have xX:=ak (hbox);have ajs:=jY HB hg;have ajt:=jY HB hg;replace sK:=rb sK hb;replace HB:=bs HB hb;clear hb hbox hg;obtain⟨Jk,Oc,Oe,Jl,Og,Oh⟩:=jP xX.out;obtain⟨ag9,adD,auj⟩:=Kd.eU sK.out;subst auj)|(refine gL 156 22 Tryz.func156 #[.agg #[.string yU, .string BX, .slice ag9 BZ.length adD]] ?_;(with_reducible refine(lC.calls k yU BX _ _ BZ alu alv _ ?kX ?nG A4.out).mono ?_);(case kX=>refine(Kd.dK (e:=69) (base:=w.heap.size) (ok:=fun k_=>True) (n:=BZ.length) (c:=adD) ?_).2.2;exact(ur (Kd.dM (Kd.gZ (p:=⟨sN,2,none⟩) (Kd.gZ (p:=⟨sN,1,none⟩) (Kd.gZ (p:=⟨sN,0,none⟩) (Kd.jr sK.out xX.out (by decide)) (fun _ hk=>hk.2) (.string yU)) (fun _ hk=>hk.2) (.string BX)) (fun _ hk=>hk.2) (.slice ag9 BZ.length adD)) (fun _ h_=>h_.1))));(case nG=>exact(Kd.dK sK.out).2.1);rintro e w24 ⟨rfl,hb⟩;refine⟨_,rfl,?_⟩;replace sK:=ak (Kd.mV (ur (Kd.dM (Kd.gZ (p:=⟨sN,2,none⟩) (Kd.gZ (p:=⟨sN,1,none⟩) (Kd.gZ (p:=⟨sN,0,none⟩) (Kd.jr sK.out xX.out (by decide)) (fun _ hk=>hk.2) (.string yU)) (fun _ hk=>hk.2) (.string BX)) (fun _ hk=>hk.2) (.slice ag9 BZ.length adD)) (fun _ h_=>h_.1))) hb);replace xX:=ak (iD (g:=sN) (o:= .cells #[.string yU, .string BX, .slice ag9 BZ.length adD] 61 (0,0)) (by(with_reducible repeat(first|refine au ?_ _|refine ay ?_|refine aj ?_ _));refine bK (cs:=#[.string yU, .string BX, .slice none 0 0]) ?_ 2 _ rfl;(with_reducible repeat(first|refine au ?_ _|refine ay ?_|refine aj ?_ _));refine bK (cs:=#[.string yU, .string (⟨#[]⟩:ByteArray), .slice none 0 0]) ?_ 1 _ rfl;(with_reducible repeat(first|refine au ?_ _|refine ay ?_|refine aj ?_ _));refine bK (cs:=#[.string (⟨#[]⟩:ByteArray), .string (⟨#[]⟩:ByteArray), .slice none 0 0]) ?_ 0 _ rfl;(with_reducible repeat(first|refine au ?_ _|refine ay ?_|refine aj ?_ _));exact xX.out) hb);replace HB:=ak (aG bb hb);(try clear hb)))
  go_ret2;exact⟨er,bb⟩
end Go.Proofs.YtncdadcmghglkaaGreatDoor.PFnExactFormatPart
