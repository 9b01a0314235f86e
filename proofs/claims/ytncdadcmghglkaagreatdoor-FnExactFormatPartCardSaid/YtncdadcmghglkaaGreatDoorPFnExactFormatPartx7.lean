/- Printed walks; conditions: those in each statement. -/
import Derived.Test.YtncdadcmghglkaaGreatDoorVFnExactFormatPartQt
import Derived.Test.YtncdadcmghglkaaGreatDoorVFnExactFormatPartYt
import Derived.Test.YtncdadcmghglkaaGreatDoorPFnExactFormatPartx0
import Derived.Test.YtncdadcmghglkaaGreatDoorPFnExactFormatPartx1
import Derived.Test.YtncdadcmghglkaaGreatDoorPFnExactFormatPartx2
import Derived.Test.YtncdadcmghglkaaGreatDoorPFnExactFormatPartx3
import Derived.Test.YtncdadcmghglkaaGreatDoorPFnExactFormatPartx4
import Derived.Test.YtncdadcmghglkaaGreatDoorPFnExactFormatPartx6
namespace Go.Proofs.YtncdadcmghglkaaGreatDoor.PFnExactFormatPart
open Go.RowKit Go.Proofs.YtncdadcmghglkaaGreatDoor.X Go.Proofs.YtncdadcmghglkaaGreatDoorW.dB Go.Proofs.YtncdadcmghglkaaGreatDoorW.iy Go.Proofs.YtncdadcmghglkaaGreatDoorW.jo
attribute [local go_sem] lU lV oh oq kJ kK lW lX   -- for this text's walks alone
set_option linter.unusedVariables false
set_option linter.unusedSimpArgs false
mutual
def bW.l0:Nat→Bool→List ByteArray→Int→Int→ByteArray→ByteArray→List (jl)→Option (ByteArray×ByteArray×(List (jl))×Bool)
 |0,_,_,_,_,_,_,_=>none
 |k+1,x7,x37,x38,x39,Ec,Ed,BF=>if x39<x38 then(if 0≤x39 then(if x39<(x37.length:Int)then((strings_Cut.f (kV ByteArray.empty x37 x39) (⟨#[61]⟩:ByteArray)).bind fun Wj=>((dI.f k Wj.2.1).bind fun Wn=>(if Wj.2.2=true then(if Wn.2=true then(bW.j1 k x7 Wj.1 Wn.1 x37 x38 x39 ((Wn.1.length:Int) !=1) Ec Ed BF)else(bW.j1 k x7 Wj.1 Wn.1 x37 x38 x39 true Ec Ed BF))else(bW.j1 k x7 Wj.1 Wn.1 x37 x38 x39 true Ec Ed BF))))else(none))else(none))else(if x7=true then((bJ.f k Ec Ed BF).bind fun aqX=>(if aqX=true then(some (Ec,Ed,BF,true))else(some ((⟨#[]⟩:ByteArray),(⟨#[]⟩:ByteArray),([]:List (jl)),false))))else(some ((⟨#[]⟩:ByteArray),(⟨#[]⟩:ByteArray),([]:List (jl)),false)))
def bW.j1:Nat→Bool→ByteArray→List ByteArray→List ByteArray→Int→Int→Bool→ByteArray→ByteArray→List (jl)→Option (ByteArray×ByteArray×(List (jl))×Bool)
 |0,_,_,_,_,_,_,_,_,_,_=>none
 |k+1,x7,x11,x14,x37,x38,x39,x64,Ec,Ed,BF=>if x64=true then(some ((⟨#[]⟩:ByteArray),(⟨#[]⟩:ByteArray),([]:List (jl)),false))else((jm.f x11 (⟨#[32]⟩:ByteArray)).bind fun aeQ=>((fK.f aeQ).bind fun Yz=>(if 0<(x14.length:Int)then(if BF.length<4398046511104 then(bW.l0 k x7 x37 x38 (wrap64 (x39+1)) Ec Ed (BF++[(⟨Yz,kV ByteArray.empty x14 0⟩:jl)]))else(none))else(none))))
end
def bW.f(k:Nat)(a0:ByteArray):Option (ByteArray×ByteArray×(List (jl))×Bool):=(bg.f k a0).bind fun ah_=>(if ah_=true then((dH.f k a0 59).bind fun uU=>(if 0<(uU.length:Int)then((jm.f (kV ByteArray.empty uU 0) (⟨#[32]⟩:ByteArray)).bind fun YA=>((strings_Cut.f YA (⟨#[47]⟩:ByteArray)).bind fun PS=>((fK.f PS.1).bind fun Aa=>((fK.f PS.2.1).bind fun Cb=>(if 1≤(uU.length:Int)then((some (uU.drop 1:List ByteArray)).bind fun zF=>(bW.l0 k PS.2.2 zF (zF.length:Int) 0 Aa Cb ([]:List (jl))))else(none))))))else(none)))else(some ((⟨#[]⟩:ByteArray),(⟨#[]⟩:ByteArray),([]:List (jl)),false)))
def bW.T13:Bool×List (List Nat×List Nat):=(true,[([],[]),([0],[0]),([],[]),([2],[2]),([3,3],[3]),([],[]),([5],[5]),([6],[6]),([4,7],[4,7]),([8],[8]),([1,9,4],[1,9]),([0,1,2,3,4,5,6,7,8,9,10],[]),([11,10,10,0,1,2,3,4,5,6,7,8,9,10],[10,11])])
def bW.B13:List Nat:=[0,1,0,4,12,0,32,96,252,508,1023,2047,4095]
theorem bW.ZL:sZ .any (opsOf Tryz.f48 13)=bW.T13:=by kernel_rfl
theorem bW.TQ:pW bW.T13.2 bW.B13=true:=by kernel_rfl
set_option maxHeartbeats 8000000 in
set_option maxRecDepth 100000 in
theorem bW.calls(k:Nat)(a0:ByteArray)(r1:ByteArray)(r2:ByteArray)(r3:List (jl))(r4:Bool)(w:World)(rQ:MaxOk w)(h:bW.f k a0=some (r1,r2,r3,r4)):
  Calls Tryz.prog 48 #[.string a0] w fun e w'=>∃v2_:Value,e= .returned (.tuple #[.agg #[.string r1, .string r2,v2_], .bool r4])∧Kd.R pV 69 w' w.heap.size (fun _=>True) v2_ r3∧Below w.heap.size w w':=by
 have VH:=Tryz.underlying61;have Dq:=Tryz.underlying69;have HG:=ak rQ;clear rQ;have HB:=ak (Below.refl w.heap.size w);have H:((bg.f k a0).bind fun ah_=>(if ah_=true then((dH.f k a0 59).bind fun uU=>(if 0<(uU.length:Int)then((jm.f (kV ByteArray.empty uU 0) (⟨#[32]⟩:ByteArray)).bind fun YA=>((strings_Cut.f YA (⟨#[47]⟩:ByteArray)).bind fun PS=>((fK.f PS.1).bind fun Aa=>((fK.f PS.2.1).bind fun Cb=>(if 1≤(uU.length:Int)then((some (uU.drop 1:List ByteArray)).bind fun zF=>(bW.l0 k PS.2.2 zF (zF.length:Int) 0 Aa Cb ([]:List (jl))))else(none))))))else(none)))else(some ((⟨#[]⟩:ByteArray),(⟨#[]⟩:ByteArray),([]:List (jl)),false))))=some (r1,r2,r3,r4):=h;clear h;replace H:=bd H;obtain⟨ah_,A2,H⟩:=H;replace H:=sb H;rcases H with⟨rfl,H⟩|⟨rfl,H⟩
 ·replace H:=bd H;obtain⟨uU,A4,H⟩:=H;replace H:=nn H;obtain⟨c5,H⟩:=H;have pU:=decide_eq_true c5;have TI:decide (0<uU.length)=true:=decide_eq_true (by omega);clear c5;replace H:=bd H;obtain⟨YA,A6,H⟩:=H;replace H:=bd H;obtain⟨⟨amX,amY,amZ⟩,A7,H⟩:=H
  (try dsimp only at H);replace H:=bd H;obtain⟨Aa,A8,H⟩:=H;replace H:=bd H;obtain⟨Cb,A9,H⟩:=H;replace H:=EG H;obtain⟨qj,vI,H⟩:=H;obtain⟨zF,aeR⟩:=nm (uU.drop 1);rw[←aeR.out]at H
  (try rw[Option.bind_some]at H);have H':=ak H;clear H;go_enter Tryz.func48,Tryz.ntmps48;go_wp2_with (first|(refine bU (N:=2) rfl ?_;(try(refine aZ (by rfl) ?_;dsimp only));refine bE 2 #[.string (⟨#[]⟩:ByteArray), .string (⟨#[]⟩:ByteArray), .slice none 0 0] 61 ?_;intro ug hg Cm hbox hb;have jh:=ak (hbox);have aqY:=jY HB hg;have aqZ:=jY HB hg;replace HB:=bs HB hb;clear hb hbox hg)|(refine gL 89 17 Tryz.func89 #[.string a0] ?_;(with_reducible refine(bg.calls k a0 true _ A2.out).mono ?_);rintro e w' ⟨rfl,⟨nd,rfl⟩⟩;refine⟨_,rfl,?_⟩;(try(rw[qO Cm];generalize EK:World.drewN Cm _=Cm;have iH:ah (Cm.heap[ug]? =some (.cells #[.string (⟨#[]⟩:ByteArray), .string (⟨#[]⟩:ByteArray), .slice none 0 0] 61 (0,0))):=⟨by rw[←EK];exact(ub jh.out)⟩;have iI:ah (Below w.heap.size w Cm):=⟨by rw[←EK];exact bb⟩;clear jh HB EK;have jh:=iH;have HB:=iI;clear iH iI)))|(refine gL 90 21 Tryz.func90 #[.string a0, .int .u8 59] ?_;(with_reducible refine(dH.calls k a0 59 uU _ A4.out).mono ?_);rintro e w12 ⟨aAf,rfl,ho0,hb⟩;refine⟨_,rfl,?_⟩;have wC:=ak (Kd.fA ho0 (aA bb));replace jh:=kb jh hb;replace HB:=ak (aG bb hb);(try clear hb);(try clear ho0);obtain⟨XA,Gx,ac5⟩:=Kd.eU wC.out;subst ac5;have aeS:0≤(0:Int):=(by omega);have aeT:0<(uU.length:Int):=of_decide_eq_true (by assumption);obtain⟨PU,e241,Ot⟩:=Kd.jq (Kd.dK wC.out).2.2 0 aeS aeT;cases e241;have ax5:(0<uU.length)=True:=eq_true (by omega);(try rw[show((0:Int)).toNat=0 from rfl]at Ot);(try rw[Addr.add_zero']at Ot);replace aeS:=eq_true aeS;replace aeT:=eq_true aeT)|(refine gL 92 26 Tryz.func92 #[.string (kV ByteArray.empty uU 0), .string (⟨#[32]⟩:ByteArray)] ?_;(with_reducible refine(jm.calls (kV ByteArray.empty uU 0) (⟨#[32]⟩:ByteArray) YA _ A6.out).mono ?_);rintro e w' ⟨rfl,⟨nd,rfl⟩⟩;refine⟨_,rfl,?_⟩;(try(rw[qO w12];generalize EK:World.drewN w12 _=w12;have iH:ah (Kd.R Kd.string 9 w12 w.heap.size (fun _=>True) (.slice (some PU) uU.length Gx) uU):=⟨by rw[←EK];exact(ur wC.out)⟩;have iI:ah (w12.heap[ug]? =some (.cells #[.string (⟨#[]⟩:ByteArray), .string (⟨#[]⟩:ByteArray), .slice none 0 0] 61 (0,0))):=⟨by rw[←EK];exact(ub jh.out)⟩;have lS:ah (Below w.heap.size w w12):=⟨by rw[←EK];exact bb⟩;clear wC jh HB EK;have wC:=iH;have jh:=iI;have HB:=lS;clear iH iI lS)))|(refine gL 91 27 Tryz.func91 #[.string YA, .string (⟨#[47]⟩:ByteArray)] ?_;(with_reducible refine(strings_Cut.calls YA (⟨#[47]⟩:ByteArray) amX amY amZ _ ?kX A7.out).mono ?_);(case kX=>first|exact HG.out|exact MaxOk.below HG.out bb|(repeat(first|exact HG.out|apply MaxOk.drewN|apply MaxOk.drew)));rintro e w' ⟨rfl,⟨nd,rfl⟩⟩;refine⟨_,rfl,?_⟩;(try(rw[qO w12];generalize EK:World.drewN w12 _=w12;have iH:ah (Kd.R Kd.string 9 w12 w.heap.size (fun _=>True) (.slice (some PU) uU.length Gx) uU):=⟨by rw[←EK];exact(ur wC.out)⟩;have iI:ah (w12.heap[ug]? =some (.cells #[.string (⟨#[]⟩:ByteArray), .string (⟨#[]⟩:ByteArray), .slice none 0 0] 61 (0,0))):=⟨by rw[←EK];exact(ub jh.out)⟩;have lS:ah (Below w.heap.size w w12):=⟨by rw[←EK];exact bb⟩;clear wC jh HB EK;have wC:=iH;have jh:=iI;have HB:=lS;clear iH iI lS)))|(refine gL 93 32 Tryz.func93 #[.string amX] ?_;(with_reducible refine(fK.calls amX Aa _ A8.out).mono ?_);rintro e Q9 ⟨rfl,hb⟩;refine⟨_,rfl,?_⟩;replace wC:=rb wC hb;replace jh:=kb jh hb;replace HB:=ak (aG bb hb);(try clear hb))|(refine gL 93 34 Tryz.func93 #[.string amY] ?_;(with_reducible refine(fK.calls amY Cb _ A9.out).mono ?_);rintro e w15 ⟨rfl,hb⟩;refine⟨_,rfl,?_⟩;replace wC:=rb wC hb;replace jh:=kb jh hb;replace HB:=ak (aG bb hb);(try clear hb))|(refine bU (N:=8) rfl ?_;(try(refine aZ (by rfl) ?_;dsimp only));refine bE 8 #[.string (⟨#[]⟩:ByteArray), .string (⟨#[]⟩:ByteArray), .slice none 0 0] 61 ?_;intro rJ hg w16 hbox hb;have kH:=ak (hbox);have ax6:=ak ((by rw[hg];exact(aA bb):w.heap.size≤rJ));have ax7:=ak ((by rw[hg];exact(aA bb):w.heap.size≤rJ));have rD:=ak ((by rw[hg];exact Nat.ne_of_lt (fC (ub jh.out)):ug≠rJ));have zJ:=ak ((by rw[hg];exact Nat.ne_of_gt (fC (ub jh.out)):rJ≠ug));replace wC:=rb wC hb;replace jh:=kb jh hb;replace HB:=ak (aG bb hb);clear hb hbox hg;have ap_:=zJ.out;have aqa:=rD.out;obtain⟨tq,tu,uG,tC,tH,uH⟩:=jP kH.out)|((with_reducible refine uK (t:=61) (p:=8) rfl ?_);refine rV (t:=61) (p:=8) (v:=?avy) (w1:=(((w16.setCell ⟨rJ,0,none⟩ (.string Aa)).setCell ⟨rJ,1,none⟩ (.string Cb)).setCell ⟨rJ,2,none⟩ (.slice none 0 0))) ?hg ?ho ?hn ?hr ?_;(case ho=>rfl);(case hg=>rfl);(case hn=>rfl);(case hr=>first|(go_simp;done)|(go_simp;rfl));intro w19 hw;have iH:ah (Kd.R Kd.string 9 w19 w.heap.size (fun _=>True) (.slice (some PU) uU.length Gx) uU):=⟨(by rw[hw];exact(ur (Kd.dM (Kd.gZ (p:=⟨rJ,2,none⟩) (Kd.gZ (p:=⟨rJ,1,none⟩) (Kd.gZ (p:=⟨rJ,0,none⟩) (Kd.jr wC.out kH.out (by decide)) (fun _ hk=>hk.2) (.string Aa)) (fun _ hk=>hk.2) (.string Cb)) (fun _ hk=>hk.2) (.slice none 0 0)) (fun _ hk=>trivial))))⟩;have iI:ah (w19.heap[ug]? =some (.cells #[.string (⟨#[]⟩:ByteArray), .string (⟨#[]⟩:ByteArray), .slice none 0 0] 61 (0,0))):=⟨(by rw[hw];exact(by(with_reducible repeat(first|refine au ?_ _|refine ay ?_|refine aj ?_ _));refine f_ ?_ rD.out _;(with_reducible repeat(first|refine au ?_ _|refine ay ?_|refine aj ?_ _));refine f_ ?_ rD.out _;(with_reducible repeat(first|refine au ?_ _|refine ay ?_|refine aj ?_ _));refine f_ ?_ rD.out _;(with_reducible repeat(first|refine au ?_ _|refine ay ?_|refine aj ?_ _));exact jh.out))⟩;have lS:ah (w19.heap[rJ]? =some (.cells #[.string Aa, .string Cb, .slice none 0 0] 61 (0,0))):=⟨(by rw[hw];exact(by(with_reducible repeat(first|refine au ?_ _|refine ay ?_|refine aj ?_ _));refine bK (cs:=#[.string Aa, .string Cb, .slice none 0 0]) ?_ 2 _ rfl;(with_reducible repeat(first|refine au ?_ _|refine ay ?_|refine aj ?_ _));refine bK (cs:=#[.string Aa, .string (⟨#[]⟩:ByteArray), .slice none 0 0]) ?_ 1 _ rfl;(with_reducible repeat(first|refine au ?_ _|refine ay ?_|refine aj ?_ _));refine bK (cs:=#[.string (⟨#[]⟩:ByteArray), .string (⟨#[]⟩:ByteArray), .slice none 0 0]) ?_ 0 _ rfl;(with_reducible repeat(first|refine au ?_ _|refine ay ?_|refine aj ?_ _));exact kH.out))⟩;have OO:ah (Below w.heap.size w w19):=⟨(by rw[hw];exact bb)⟩;clear hw;clear wC;clear jh;clear kH;clear HB;have wC:=iH;have jh:=iI;have kH:=lS;have HB:=OO;clear iH iI lS OO;have q20:(1:Int)≤((uU.length:Int):Int):=of_decide_eq_true (by assumption);obtain⟨aAg,akl,_,akm,_⟩:=info_parts info9;have Ou:uU.length≤Gx:=(Kd.dK wC.out).2.1;have aq0:Kd.F Kd.string _ _ (some PU) uU.length uU:=(Kd.aia (base:=w.heap.size) (Kd.R_V (Kd.jr (Kd.jr (wC.out) jh.out (by decide)) kH.out (by decide)))).2.2;have am0:=aeU (P:=Tryz.prog) 23 9 .i64 Tryz.underlying23 akl 1 akm (some PU) uU.length Gx 1 (by omega) q20;have aeV:=Kd.aq1 (m:=(1:Int).toNat) (c:=Gx) aq0 (by omega) Ou;obtain⟨A20,hA20⟩:∃A1,A1=(if Gx=(1:Int).toNat then(some PU)else((some PU):Option Addr).map (·.add ((1:Int).toNat*1))):=⟨_,rfl⟩;obtain⟨c20,aib⟩:∃c1,c1=Gx-(1:Int).toNat:=⟨_,rfl⟩;have aeW:zF.length=uU.length-(1:Int).toNat:=(by rw[aeR.out,List.length_drop]<;>omega);rw[show(uU).drop (1:Int).toNat=zF from aeR.out.symm]at aeV;replace aeV:Kd.F Kd.string _ _ A20 zF.length zF:=(by rw[hA20];exact aeV);rw[←aeW,←hA20,←aib]at am0;have aq2:=ak (show Kd.V Kd.string 9 _ w.heap.size _ (.slice A20 zF.length c20) zF from Kd.avz (by rw[aeW,aib];exact Nat.sub_le_sub_right Ou _) aeV);have ax8:=ak (show zF.length≤c20 from by rw[aeW,aib];exact Nat.sub_le_sub_right Ou _);clear aeV aq0 Ou akl akm aib;have aAh:=ak aeW;have aAi:=ak hA20;clear aeW hA20;replace q20:=eq_true q20))
  go_loopg [39] k (fun kq v39 w'=>∃(G9:Int) (tX:ByteArray) (oL:ByteArray) (qp:List (jl)) (uJ:Value),v39= .int .i64 G9∧ah (bW.l0 kq amZ zF (zF.length:Int) G9 Aa Cb qp=some (r1,r2,r3,r4))∧ah (kq≤k)∧ah (Kd.V Kd.string 9 w' w.heap.size (fun k_=>some k_≠(uJ:Value).ownBlock∧k_≠ug∧k_≠rJ) (.slice A20 zF.length c20) zF)∧ah (Kd.R pV 69 w' w.heap.size (fun _=>True) uJ qp)∧ah (w'.heap[ug]? =some (.cells #[.string tX, .string oL,(.slice none 0 0)] 61 (0,0)))∧ah (w'.heap[rJ]? =some (.cells #[.string Aa, .string Cb,uJ] 61 (0,0)))∧ah (Below w.heap.size w w'))
  case atStart=>exact⟨(0),((⟨#[]⟩:ByteArray)),((⟨#[]⟩:ByteArray)),(([]:List (jl))),(.slice none 0 0),rs,H',⟨Nat.le_refl _⟩,⟨by(with_reducible repeat(first|apply Kd.xH|apply Kd.xI|apply Kd.Ac));exact Kd.Ib aq2.out (fun _ hk=>⟨(by simp[Value.ownBlock]),⟨hk.1.2,hk.2⟩⟩)⟩,⟨nx⟩,⟨ub jh.out⟩,⟨ub kH.out⟩,⟨bb⟩⟩
  case round=>
   clear H';try clear c1
   try clear c2
   try clear p2
   try clear q2
   try clear hx2
   try clear qi2
   try clear c3
   try clear c4
   try clear c5
   try clear pU
   try clear TI
   try clear c8
   try clear c9
   try clear c10
   try clear qj
   try clear vI
   try clear c17
   try clear c20
   try clear q20
   try clear tq
   try clear tu
   try clear uG
   try clear tC
   try clear tH
   try clear uH
   try clear Ot
   try clear aeS
   try clear q20
   try clear aeT
   obtain⟨G9,tX,oL,qp,uJ,rfl,HA,iC,uS,iZ,jh,kH,HB⟩:=hrel
   cases gk with
   |zero=>exact absurd HA.out (by simp[bW.l0])
   |succ k1=>
    have H:=HA.out;clear HA;simp only[bW.l0]at H;replace H:=sd H;rcases H with⟨Eo,H⟩|⟨Eo,H⟩
    ·replace H:=og H;obtain⟨OU,H⟩:=H;replace H:=og H;obtain⟨G7,H⟩:=H;replace H:=bd H;obtain⟨⟨aic,am1,avA⟩,A24,H⟩:=H
     (try dsimp only at H);replace H:=bd H;obtain⟨⟨LG,avC⟩,A25,H⟩:=H
     (try dsimp only at H);have am2:=ak H;clear H;have aie:=zi G9;have aif:=zj G9 zF.length;obtain⟨aq3,avD,aii⟩:=Kd.jq (Kd.aeX uS.out).2.2 G9 aie aif;cases avD;replace aie:=eq_true aie;replace aif:=eq_true aif;go_upto_region 11 with(first|(refine gL 91 45 Tryz.func91 #[.string (kV ByteArray.empty zF G9), .string (⟨#[61]⟩:ByteArray)] ?_;(with_reducible refine(strings_Cut.calls (kV ByteArray.empty zF G9) (⟨#[61]⟩:ByteArray) aic am1 avA _ ?kX A24.out).mono ?_);(case kX=>first|exact HG.out|exact MaxOk.below HG.out bb|(repeat(first|exact HG.out|apply MaxOk.drewN|apply MaxOk.drew)));rintro e w' ⟨rfl,⟨nd,rfl⟩⟩;refine⟨_,rfl,?_⟩)|(refine gL 94 51 Tryz.func94 #[.string am1] ?_;(with_reducible refine(dI.calls k1 am1 LG avC _ A25.out).mono ?_);rintro e w27 ⟨aq4,rfl,ho0,hb⟩;refine⟨_,rfl,?_⟩;have aa4:=ak (Kd.fA ho0 (aA bb));replace uS:=ak (Kd.aeY (by(with_reducible repeat(first|apply Kd.xH|apply Kd.xI|apply Kd.Ac));exact uS.out) (Kd.oO ho0) hb);replace iZ:=rb iZ hb;replace jh:=kb jh hb;replace kH:=kb kH hb;replace HB:=ak (aG bb hb);(try clear hb);(try clear ho0)))
     (try simp only[Act.put,jI,jJ,l_c]);go_cut [64] (fun v64 wc=>∃(kq:Nat) (YB:Bool),v64= .bool YB∧ah (bW.j1 kq amZ aic LG zF (zF.length:Int) G9 YB Aa Cb qp=some (r1,r2,r3,r4))∧ah (kq≤k1)∧ah (Kd.R Kd.string 9 wc w.heap.size (fun _=>True) aq4 LG)∧ah (Kd.V Kd.string 9 wc w.heap.size (fun k_=>some k_≠(aq4:Value).ownBlock∧some k_≠(uJ:Value).ownBlock∧k_≠ug∧k_≠rJ) (.slice (some aq3) zF.length c20) zF)∧ah (Kd.R pV 69 wc w.heap.size (fun _=>True) uJ qp)∧ah (wc.heap[ug]? =some (.cells #[.string tX, .string oL,(.slice none 0 0)] 61 (0,0)))∧ah (wc.heap[rJ]? =some (.cells #[.string Aa, .string Cb,uJ] 61 (0,0)))∧ah (Below w.heap.size w wc))
     case first=>
      have H:=am2.out;clear am2;replace H:=sb H;rcases H with⟨rfl,H⟩|⟨rfl,H⟩
      ·replace H:=sb H;rcases H with⟨rfl,H⟩|⟨rfl,H⟩
       ·have H':=ak H;clear H;obtain⟨aAj,aAk,avE⟩:=Kd.eU aa4.out;subst avE;go_wp2;go_meet
        case rel=>exact⟨_,(((LG.length:Int) !=1)),rs,H',⟨by have:=iC.out;first|omega|exact Nat.le_refl _⟩,⟨ur aa4.out⟩,⟨by(with_reducible repeat(first|apply Kd.xH|apply Kd.xI|apply Kd.Ac));exact Kd.Ib uS.out (fun _ hk=>⟨hk.2,⟨hk.1.1,⟨hk.1.2.1,hk.1.2.2⟩⟩⟩)⟩,⟨ur iZ.out⟩,⟨ub jh.out⟩,⟨ub kH.out⟩,⟨bb⟩⟩
       ·have H':=ak H;clear H;go_wp2;go_meet
        case rel=>exact⟨_,(true),rs,H',⟨by have:=iC.out;first|omega|exact Nat.le_refl _⟩,⟨ur aa4.out⟩,⟨by(with_reducible repeat(first|apply Kd.xH|apply Kd.xI|apply Kd.Ac));exact Kd.Ib uS.out (fun _ hk=>⟨hk.2,⟨hk.1.1,⟨hk.1.2.1,hk.1.2.2⟩⟩⟩)⟩,⟨ur iZ.out⟩,⟨ub jh.out⟩,⟨ub kH.out⟩,⟨bb⟩⟩
      ·have H':=ak H;clear H;go_wp2;go_meet
       case rel=>exact⟨_,(true),rs,H',⟨by have:=iC.out;first|omega|exact Nat.le_refl _⟩,⟨ur aa4.out⟩,⟨by(with_reducible repeat(first|apply Kd.xH|apply Kd.xI|apply Kd.Ac));exact Kd.Ib uS.out (fun _ hk=>⟨hk.2,⟨hk.1.1,⟨hk.1.2.1,hk.1.2.2⟩⟩⟩)⟩,⟨ur iZ.out⟩,⟨ub jh.out⟩,⟨ub kH.out⟩,⟨bb⟩⟩
     case rest=>
      clear am2;try clear c1
      try clear c2
      try clear p2
      try clear q2
      try clear hx2
      try clear qi2
      try clear c3
      try clear c4
      try clear c5
      try clear pU
      try clear TI
      try clear c8
      try clear c9
      try clear c10
      try clear qj
      try clear vI
      try clear c17
      try clear c20
      try clear q20
      try clear c21
      try clear Eo
      try clear c22
      try clear OU
      try clear c23
      try clear G7
      try clear p24
      try clear q24
      try clear hx24
      try clear aAl
      try clear p25
      try clear q25
      try clear hx25
      try clear c28
      try clear c29
      try clear tq
      try clear tu
      try clear uG
      try clear tC
      try clear tH
      try clear uH
      try clear Ot
      try clear aii
      try clear p2
      try clear aeS
      try clear aie
      try clear q2
      try clear q20
      try clear aeT
      try clear aif
      obtain⟨kq,YB,rfl,HA,aq5,G_,uS,iZ,jh,kH,HB⟩:=hcut
      cases kq with
      |zero=>exact absurd HA.out (by simp[bW.j1])
      |succ avF=>
       have H:=HA.out;clear HA;simp only[bW.j1]at H;replace H:=sb H;rcases H with⟨rfl,H⟩|⟨rfl,H⟩
       ·simp only[Option.some.injEq,Prod.mk.injEq]at H;obtain⟨rfl,rfl,rfl,rfl⟩:=H;have ax9:=rD.out;have ax_:=zJ.out;obtain⟨ahU,ahV,ahW,ahX,ahY,ahZ⟩:=jP jh.out;go_wp2;refine bodyPost_ret (pK rfl _ _ ug 61 #[.string (⟨#[]⟩:ByteArray), .string (⟨#[]⟩:ByteArray), .slice none 0 0] (0,0) _ rfl (by(with_reducible repeat(first|refine au ?_ _|refine ay ?_|refine aj ?_ _));refine bK (cs:=#[.string (⟨#[]⟩:ByteArray), .string (⟨#[]⟩:ByteArray), .slice none 0 0]) ?_ 2 _ rfl;(with_reducible repeat(first|refine au ?_ _|refine ay ?_|refine aj ?_ _));refine bK (cs:=#[.string (⟨#[]⟩:ByteArray), .string oL, .slice none 0 0]) ?_ 1 _ rfl;(with_reducible repeat(first|refine au ?_ _|refine ay ?_|refine aj ?_ _));refine bK (cs:=#[.string tX, .string oL, .slice none 0 0]) ?_ 0 _ rfl;(with_reducible repeat(first|refine au ?_ _|refine ay ?_|refine aj ?_ _));exact jh.out) Tryz.underlying61 rfl (by kernel_rfl)) rfl ?_;exact⟨_,er,nx,bb⟩
       ·replace H:=bd H;obtain⟨aeQ,A34,H⟩:=H;replace H:=bd H;obtain⟨Yz,A35,H⟩:=H;replace H:=nn H;obtain⟨c36,H⟩:=H;have ajJ:=decide_eq_true c36;have aqR:decide (0<LG.length)=true:=decide_eq_true (by omega);clear c36;replace H:=nl H;obtain⟨aq6,H⟩:=H;obtain⟨aij,akn⟩:=nm (qp++[(⟨Yz,kV ByteArray.empty LG 0⟩:jl)]);rw[←akn.out]at H
        (try rw[Option.bind_some]at H);have H':=ak H;clear H;try go_wp2
        replace G_:=ak (Kd.zO G_.out);replace uS:=ak (Kd.Ac uS.out);replace iZ:=ak (Kd.zO iZ.out);replace jh:=ak (ay jh.out);replace kH:=ak (ay kH.out);replace HB:=ak (eY HB.out);obtain⟨aAm,avG,aq7⟩:=Kd.eU G_.out
        (first|subst aq7|(injection aq7 with f1_ f2_ f3_;have f4_:=f1_.symm;have f5_:=f3_.symm;clear f1_ f2_ f3_;subst f4_;subst f5_));have am3:0≤(0:Int):=(by omega)
        have am4:0<(LG.length:Int):=of_decide_eq_true (by assumption);obtain⟨ako,avH,Ov⟩:=Kd.jq (Kd.dK G_.out).2.2 0 am3 am4;cases avH;have aya:(0<LG.length)=True:=eq_true (by omega)
        (try rw[show((0:Int)).toNat=0 from rfl]at Ov)
        (try rw[Addr.add_zero']at Ov);replace am3:=eq_true am3;replace am4:=eq_true am4;refine SX (n:=13) (S:=fun w'=>w'.cell? ⟨rJ,0,none⟩=some (.string Aa)∧w'.cell? ⟨rJ,1,none⟩=some (.string Cb)∧w'.cell? ⟨rJ,2,none⟩=some (uJ)∧w'.cell? ako=some (.string (kV ByteArray.empty LG 0))) (ds:=[10,12]) #[false,false,false,false,false,false,false,false,false,false,false,false,false] (by kernel_rfl) rfl rfl ⟨(aI kH.out 0).trans rfl,(aI kH.out 1).trans rfl,(aI kH.out 2).trans rfl,Ov⟩ (fun hHeld=>?_);refine Rq bW.ZL bW.TQ (fun Fj HW_=>?_)
        generalize wc.drew=w38 at G_ uS iZ jh kH HB Ov hHeld⊢
        refine rW (i:=0) (N:=some 66) (v:=?_) (a':=?_) #[true,false,false,false,false,false,false,false,false,false,false,false,false] rfl rfl (wU Fj.out (by kernel_rfl)) (fun _ _ _ h=>h) (Or.inl ⟨by rfl,?_⟩) ?_ ?_
        rotate_left
        ·intro w';go_simp
         with_reducible rfl
        rotate_left
        ·simp only[Act.put,jI,jJ,l_c,bC,bH];rfl
        refine rW (i:=2) (N:=some 68) (v:=?_) (a':=?_) #[true,false,true,false,false,false,false,false,false,false,false,false,false] rfl rfl (wU Fj.out (by kernel_rfl)) (fun _ _ _ h=>h) (Or.inl ⟨by rfl,?_⟩) ?_ ?_
        rotate_left
        ·intro w';go_simp
         with_reducible rfl
        rotate_left
        ·simp only[Act.put,jI,jJ,l_c,bC,bH];rfl
        refine rW (i:=5) (N:=some 71) (v:=?_) (a':=?_) #[true,false,true,false,false,true,false,false,false,false,false,false,false] rfl rfl (wU Fj.out (by kernel_rfl)) (fun _ _ _ h=>h) (Or.inl ⟨by rfl,?_⟩) ?_ ?_
        rotate_left
        ·intro w';go_simp
         with_reducible rfl
        rotate_left
        ·simp only[Act.put,jI,jJ,l_c,bC,bH];rfl
        refine rW (i:=6) (N:=some 72) (v:=?_) (a':=?_) #[true,false,true,false,false,true,true,false,false,false,false,false,false] rfl rfl (wU Fj.out (by kernel_rfl)) (fun _ _ _ h=>h) (Or.inl ⟨by rfl,?_⟩) ?_ ?_
        rotate_left
        ·intro w';go_simp
         with_reducible rfl
        rotate_left
        ·simp only[Act.put,jI,jJ,l_c,bC,bH];rfl
        refine IB (i:=1) (N:=some 67) (v:=?_) (a':=?_) #[true,true,true,false,false,true,true,false,false,false,false,false,false] rfl rfl (Fp Fj.out HW_.out (by kernel_rfl)) (fun _ _ _ h=>h) (Or.inl ⟨by rfl,?_⟩) hHeld ?_ ?_
        rotate_left
        ·rintro w' ⟨s0,s1,s2,s3⟩;go_simp
         with_reducible rfl
        rotate_left
        ·simp only[Act.put,jI,jJ,l_c,bC,bH];rfl
        refine IB (i:=7) (N:=some 73) (v:=?_) (a':=?_) #[true,true,true,false,false,true,true,true,false,false,false,false,false] rfl rfl (Fp Fj.out HW_.out (by kernel_rfl)) (fun _ _ _ h=>h) (Or.inl ⟨by rfl,?_⟩) hHeld ?_ ?_
        rotate_left
        ·rintro w' ⟨s0,s1,s2,s3⟩;go_simp
         with_reducible rfl
        rotate_left
        ·simp only[Act.put,jI,jJ,l_c,bC,bH];rfl
        refine SY (i:=3) (N:=some 69) #[true,true,true,true,false,true,true,true,false,false,false,false,false] rfl rfl (zW Fj.out (by kernel_rfl)) (by decide) (fun K hK=>?_);refine nD Tryz.func92 (by kernel_rfl) rfl #[.string aic, .string (⟨#[32]⟩:ByteArray)] (by rfl) rfl rfl ma ?_
        with_reducible refine(jm.calls aic (⟨#[32]⟩:ByteArray) aeQ _ A34.out).mono ?_
        rintro e w' ⟨rfl,⟨nd,rfl⟩⟩;refine⟨_,rfl,?_⟩;refine hK.out _ _ ⟨(aI kH.out 0).trans rfl,(aI kH.out 1).trans rfl,(aI kH.out 2).trans rfl,hHeld.2.2.2⟩ (fun hHeld=>?_);clear hK K;refine ET (a':=?_) ?_ ?_
        rotate_left
        ·show Act.put _ (some 69) _=_
         simp only[Act.put,jI,jJ,l_c,bC,bH];rfl
        refine SY (i:=4) (N:=some 70) #[true,true,true,true,true,true,true,true,false,false,false,false,false] rfl rfl (zW Fj.out (by kernel_rfl)) (by decide) (fun K hK=>?_);refine nD Tryz.func93 (by kernel_rfl) rfl #[.string aeQ] (by rfl) rfl rfl ma ?_
        with_reducible refine(fK.calls aeQ Yz _ A35.out).mono ?_
        rintro e w40 ⟨rfl,hb⟩;have als:=(hb.cell (World.block_lt_of_cell? _ _ (hHeld.2.2.2))).trans (hHeld.2.2.2);refine⟨_,rfl,?_⟩;replace G_:=rb G_ hb;replace uS:=ak (Kd.JX (by(with_reducible repeat(first|apply Kd.xH|apply Kd.xI|apply Kd.Ac));exact uS.out) hb);replace iZ:=rb iZ hb;replace jh:=kb jh hb;replace kH:=kb kH hb;replace HB:=ak (aG bb hb)
        (try clear hb);refine hK.out _ _ ⟨(aI kH.out 0).trans rfl,(aI kH.out 1).trans rfl,(aI kH.out 2).trans rfl,als⟩ (fun hHeld=>?_);clear hK K;refine ET (a':=?_) ?_ ?_
        rotate_left
        ·show Act.put _ (some 70) _=_
         simp only[Act.put,jI,jJ,l_c,bC,bH];rfl
        refine rW (i:=8) (N:=some 74) (v:=?_) (a':=?_) #[true,true,true,true,true,true,true,true,true,false,false,false,false] rfl rfl (wU Fj.out (by kernel_rfl)) (fun _ _ _ h=>h) (Or.inl ⟨by rfl,?_⟩) ?_ ?_
        rotate_left
        ·intro w';go_simp
         with_reducible rfl
        rotate_left
        ·simp only[Act.put,jI,jJ,l_c,bC,bH];rfl
        refine SY (i:=9) (N:=some 75) #[true,true,true,true,true,true,true,true,true,true,false,false,false] rfl rfl (zW Fj.out (by kernel_rfl)) (by decide) (fun K hK=>?_);refine TV (w1:=?_) (v:=?_) (by rfl) rfl ?_ ?_
        rotate_left 2
        ·go_simp;constructor
         ·rfl
         ·rfl
        refine hK.out _ _ ⟨(aI (aj kH.out _) 0).trans rfl,(aI (aj kH.out _) 1).trans rfl,(aI (aj kH.out _) 2).trans rfl,(World.cell?_alloc_lt _ _ _ (World.block_lt_of_cell? _ _ (hHeld.2.2.2))).trans (hHeld.2.2.2)⟩ (fun hHeld=>?_);clear hK K;refine ET (a':=?_) ?_ ?_
        rotate_left
        ·show Act.put _ (some 75) _=_
         simp only[Act.put,jI,jJ,l_c,bC,bH];rfl
        refine ZN (i:=10) (N:=some 76) #[true,true,true,true,true,true,true,true,true,true,true,false,false] rfl rfl (zW Fj.out (by kernel_rfl)) (by decide) (fun K hK=>?_);refine Kd.xG pV (w0:=w) w.heap.size (by rfl) (.tmp 67) (.tmp 75) 25 69 (.agg #[(.string ⟨#[]⟩),(.string ⟨#[]⟩)]) 32 rfl Tryz.underlying25 Hl rfl (by decide) (by omega) uJ qp (⟨Yz,kV ByteArray.empty LG 0⟩:jl) [.string Yz, .string (kV ByteArray.empty LG 0)] (fun _=>True) (fun _=>False) rfl rfl ?aP (fun _ hk=>hk.elim) ?aF ?aO ?aB ?aS ?aL ?_
        (case aP=>exact Gg _ _ _ (⟨Yz,kV ByteArray.empty LG 0⟩:jl))
        (case aB=>exact bb)
        (case aF=>exact(fun _ _=>trivial))
        (case aO=>exact(ur iZ.out))
        (case aS=>exact(aA bb))
        (case aL=>have:=aq6.out;omega);intro aAn w41 ho hb hg hat
        rw[←akn.out]at ho;have iH:=ak (Kd.NT (ur G_.out) (Kd.Jj (ur iZ.out)) (by decide) hg);have iI:=ak (Kd.aeZ (ok:=(fun k_=>some k_≠(.slice (some ako) LG.length avG:Value).ownBlock∧k_≠ug∧k_≠rJ)) (by(with_reducible repeat(first|apply Kd.xH|apply Kd.xI|apply Kd.Ac));exact Kd.Ib uS.out (fun _ hk=>⟨⟨hk.1,⟨hk.2.2.1,hk.2.2.2⟩⟩,hk.2.1⟩)) hg hat);have lS:=ak (iW (g:=ug) (o:= .cells #[.string tX, .string oL, .slice none 0 0] 61 (0,0)) (ub jh.out) hg (Kd.AP iZ.out jh.out (by decide)));have OO:=ak (iW (g:=rJ) (o:= .cells #[.string Aa, .string Cb,uJ] 61 (0,0)) (ub kH.out) hg (Kd.AP iZ.out kH.out (by decide)));have Zq:=ak (hb);have n5_:=ak (ho);clear G_ uS jh kH HB iZ;have G_:=iH;have uS:=iI;have jh:=lS;have kH:=OO;have HB:=Zq;have akp:=n5_;clear iH iI lS OO Zq n5_ ho hb hg hat
        obtain⟨am5,am6,aq8⟩:=Kd.eU akp.out
        (first|subst aq8|(injection aq8 with f1_ f2_ f3_;have f4_:=f1_.symm;have f5_:=f3_.symm;clear f1_ f2_ f3_;subst f4_;subst f5_));refine hK.out _ _ ?_;clear hK K;refine ET (a':=?_) ?_ ?_
        rotate_left
        ·show Act.put _ (some 76) _=_
         simp only[Act.put,jI,jJ,l_c,bC,bH];rfl
        refine rW (i:=11) (N:=some 77) (v:=?_) (a':=?_) #[true,true,true,true,true,true,true,true,true,true,true,true,false] rfl rfl (wU Fj.out (by kernel_rfl)) (fun _ _ _ h=>h) (Or.inl ⟨by rfl,?_⟩) ?_ ?_
        rotate_left
        ·intro w';go_simp
         with_reducible rfl
        rotate_left
        ·simp only[Act.put,jI,jJ,l_c,bC,bH];rfl
        refine ZN (i:=12) (N:=none) #[true,true,true,true,true,true,true,true,true,true,true,true,true] rfl rfl (zW Fj.out (by kernel_rfl)) (by decide) (fun K hK=>?_);have aAo:w41.cell? ⟨rJ,2,none⟩=some (uJ):=(aI kH.out 2).trans rfl;have ayb:=kE kH.out 2;have ata:=rD.out;have atb:=zJ.out;refine ajr (w1:=?_) (by rfl) rfl ?_ ?_
        rotate_left
        ·go_simp;rfl
        refine hK.out _ _ ?_;clear hK K;refine Zd (ZO Fj.out (by kernel_rfl)) ?_;try go_wp2
        go_roundg avF
        case measure=>have:=iC.out;have:=aq5.out;omega
        case rel=>exact⟨(wrap64 (G9+1)),(tX),(oL),(aij),(.slice am5 aij.length am6),rs,H',⟨by have:=iC.out;have:=aq5.out;omega⟩,⟨by(with_reducible repeat(first|apply Kd.xH|apply Kd.xI|apply Kd.Ac));exact Kd.Ib (Kd.aq9 (p:=⟨rJ,2,none⟩) (Kd.Ib uS.out (fun k_ hk=>(⟨hk,hk.1.2.2⟩:_∧k_≠rJ))) (fun _ hk=>hk.2) (.slice am5 aij.length am6)) (fun _ hk=>⟨hk.1.2,⟨hk.1.1.2.1,hk.1.1.2.2⟩⟩)⟩,⟨ur (Kd.dM (Kd.gZ (p:=⟨rJ,2,none⟩) (Kd.jr akp.out kH.out (by decide)) (fun _ hk=>hk.2) (.slice am5 aij.length am6)) (fun _ hk=>trivial))⟩,⟨by(with_reducible repeat(first|refine au ?_ _|refine ay ?_|refine aj ?_ _));refine f_ ?_ rD.out _;(with_reducible repeat(first|refine au ?_ _|refine ay ?_|refine aj ?_ _));exact jh.out⟩,⟨by(with_reducible repeat(first|refine au ?_ _|refine ay ?_|refine aj ?_ _));refine bK (cs:=#[.string Aa, .string Cb,uJ]) ?_ 2 _ rfl;(with_reducible repeat(first|refine au ?_ _|refine ay ?_|refine aj ?_ _));exact kH.out⟩,⟨bb⟩⟩
    ·replace H:=sb H;rcases H with⟨rfl,H⟩|⟨rfl,H⟩
     ·replace H:=bd H;obtain⟨aqX,A45,H⟩:=H;replace H:=sb H;rcases H with⟨rfl,H⟩|⟨rfl,H⟩
      ·simp only[Option.some.injEq,Prod.mk.injEq]at H;obtain⟨rfl,rfl,rfl,rfl⟩:=H;have ayc:=zJ.out;have ayd:=rD.out;obtain⟨atc,atd,ate,atf,atg,ath⟩:=jP kH.out;obtain⟨aq_,ara,avI⟩:=Kd.eU iZ.out;subst avI;go_wp2_with (first|(go_at_call 95;(with_reducible refine(bJ.calls k1 Aa Cb _ _ qp true _ (cu ((Kd.dK iZ.out).2.2)) ((Kd.dK iZ.out).2.1) A45.out).mono ?_);rintro e w50 ⟨rfl,hb⟩;replace uS:=ak (Kd.JX (by(with_reducible repeat(first|apply Kd.xH|apply Kd.xI|apply Kd.Ac));exact uS.out) hb);replace iZ:=rb iZ hb;replace jh:=kb jh hb;replace kH:=kb kH hb;replace HB:=ak (aG bb hb);(try clear hb);obtain⟨ati,atj,atl,atm,atn,ato⟩:=jP kH.out;obtain⟨Tn,Tq,Tt,Tv,Tz,TA⟩:=jP jh.out))
       refine bodyPost_ret (pK rfl _ _ ug 61 #[.string Aa, .string Cb, .slice aq_ qp.length ara] (0,0) _ rfl (by(with_reducible repeat(first|refine au ?_ _|refine ay ?_|refine aj ?_ _));refine bK (cs:=#[.string Aa, .string Cb, .slice none 0 0]) ?_ 2 _ rfl;(with_reducible repeat(first|refine au ?_ _|refine ay ?_|refine aj ?_ _));refine bK (cs:=#[.string Aa, .string oL, .slice none 0 0]) ?_ 1 _ rfl;(with_reducible repeat(first|refine au ?_ _|refine ay ?_|refine aj ?_ _));refine bK (cs:=#[.string tX, .string oL, .slice none 0 0]) ?_ 0 _ rfl;(with_reducible repeat(first|refine au ?_ _|refine ay ?_|refine aj ?_ _));exact jh.out) Tryz.underlying61 rfl (by kernel_rfl)) rfl ?_;exact⟨_,er,ur (Kd.dM (Kd.gZ (p:=⟨ug,2,none⟩) (Kd.gZ (p:=⟨ug,1,none⟩) (Kd.gZ (p:=⟨ug,0,none⟩) (Kd.jr iZ.out jh.out (by decide)) (fun _ hk=>hk.2) (.string Aa)) (fun _ hk=>hk.2) (.string Cb)) (fun _ hk=>hk.2) (.slice aq_ qp.length ara)) (fun _ hk=>trivial)),bb⟩
      ·simp only[Option.some.injEq,Prod.mk.injEq]at H;obtain⟨rfl,rfl,rfl,rfl⟩:=H;have apd:=zJ.out;have ape:=rD.out;obtain⟨agV,agW,agX,agY,agZ,ag0⟩:=jP kH.out;obtain⟨aAp,aAq,avJ⟩:=Kd.eU iZ.out;subst avJ;go_wp2_with (first|(go_at_call 95;(with_reducible refine(bJ.calls k1 Aa Cb _ _ qp false _ (cu ((Kd.dK iZ.out).2.2)) ((Kd.dK iZ.out).2.1) A45.out).mono ?_);rintro e w56 ⟨rfl,hb⟩;replace uS:=ak (Kd.JX (by(with_reducible repeat(first|apply Kd.xH|apply Kd.xI|apply Kd.Ac));exact uS.out) hb);replace iZ:=rb iZ hb;replace jh:=kb jh hb;replace kH:=kb kH hb;replace HB:=ak (aG bb hb);(try clear hb);obtain⟨Zu,Zv,af7,Zw,Zx,af8⟩:=jP jh.out))
       refine bodyPost_ret (pK rfl _ _ ug 61 #[.string (⟨#[]⟩:ByteArray), .string (⟨#[]⟩:ByteArray), .slice none 0 0] (0,0) _ rfl (by(with_reducible repeat(first|refine au ?_ _|refine ay ?_|refine aj ?_ _));refine bK (cs:=#[.string (⟨#[]⟩:ByteArray), .string (⟨#[]⟩:ByteArray), .slice none 0 0]) ?_ 2 _ rfl;(with_reducible repeat(first|refine au ?_ _|refine ay ?_|refine aj ?_ _));refine bK (cs:=#[.string (⟨#[]⟩:ByteArray), .string oL, .slice none 0 0]) ?_ 1 _ rfl;(with_reducible repeat(first|refine au ?_ _|refine ay ?_|refine aj ?_ _));refine bK (cs:=#[.string tX, .string oL, .slice none 0 0]) ?_ 0 _ rfl;(with_reducible repeat(first|refine au ?_ _|refine ay ?_|refine aj ?_ _));exact jh.out) Tryz.underlying61 rfl (by kernel_rfl)) rfl ?_;exact⟨_,er,nx,bb⟩
     ·simp only[Option.some.injEq,Prod.mk.injEq]at H;obtain⟨rfl,rfl,rfl,rfl⟩:=H;have aye:=rD.out;have ayf:=zJ.out;obtain⟨agz,agA,agB,agC,agD,agE⟩:=jP jh.out;go_wp2;refine bodyPost_ret (pK rfl _ _ ug 61 #[.string (⟨#[]⟩:ByteArray), .string (⟨#[]⟩:ByteArray), .slice none 0 0] (0,0) _ rfl (by(with_reducible repeat(first|refine au ?_ _|refine ay ?_|refine aj ?_ _));refine bK (cs:=#[.string (⟨#[]⟩:ByteArray), .string (⟨#[]⟩:ByteArray), .slice none 0 0]) ?_ 2 _ rfl;(with_reducible repeat(first|refine au ?_ _|refine ay ?_|refine aj ?_ _));refine bK (cs:=#[.string (⟨#[]⟩:ByteArray), .string oL, .slice none 0 0]) ?_ 1 _ rfl;(with_reducible repeat(first|refine au ?_ _|refine ay ?_|refine aj ?_ _));refine bK (cs:=#[.string tX, .string oL, .slice none 0 0]) ?_ 0 _ rfl;(with_reducible repeat(first|refine au ?_ _|refine ay ?_|refine aj ?_ _));exact jh.out) Tryz.underlying61 rfl (by kernel_rfl)) rfl ?_;exact⟨_,er,nx,bb⟩
 ·simp only[Option.some.injEq,Prod.mk.injEq]at H;obtain⟨rfl,rfl,rfl,rfl⟩:=H;go_enter Tryz.func48,Tryz.ntmps48;go_wp2_with (first|(refine bU (N:=2) rfl ?_;(try(refine aZ (by rfl) ?_;dsimp only));refine bE 2 #[.string (⟨#[]⟩:ByteArray), .string (⟨#[]⟩:ByteArray), .slice none 0 0] 61 ?_;intro ug hg w60 hbox hb;have jh:=ak (hbox);have aqY:=jY HB hg;have aqZ:=jY HB hg;replace HB:=bs HB hb;clear hb hbox hg)|(refine gL 89 17 Tryz.func89 #[.string a0] ?_;(with_reducible refine(bg.calls k a0 false _ A2.out).mono ?_);rintro e w' ⟨rfl,⟨nd,rfl⟩⟩;refine⟨_,rfl,?_⟩;(try(rw[qO w60];generalize EK:World.drewN w60 _=w60;have iH:ah (w60.heap[ug]? =some (.cells #[.string (⟨#[]⟩:ByteArray), .string (⟨#[]⟩:ByteArray), .slice none 0 0] 61 (0,0))):=⟨by rw[←EK];exact(ub jh.out)⟩;have iI:ah (Below w.heap.size w w60):=⟨by rw[←EK];exact bb⟩;clear jh HB EK;have jh:=iH;have HB:=iI;clear iH iI));obtain⟨atp,atq,atr,att,atu,atv⟩:=jP jh.out))
  refine bodyPost_ret (pK rfl _ _ ug 61 #[.string (⟨#[]⟩:ByteArray), .string (⟨#[]⟩:ByteArray), .slice none 0 0] (0,0) _ rfl (by(with_reducible repeat(first|refine au ?_ _|refine ay ?_|refine aj ?_ _));refine bK (cs:=#[.string (⟨#[]⟩:ByteArray), .string (⟨#[]⟩:ByteArray), .slice none 0 0]) ?_ 2 _ rfl;(with_reducible repeat(first|refine au ?_ _|refine ay ?_|refine aj ?_ _));refine bK (cs:=#[.string (⟨#[]⟩:ByteArray), .string (⟨#[]⟩:ByteArray), .slice none 0 0]) ?_ 1 _ rfl;(with_reducible repeat(first|refine au ?_ _|refine ay ?_|refine aj ?_ _));refine bK (cs:=#[.string (⟨#[]⟩:ByteArray), .string (⟨#[]⟩:ByteArray), .slice none 0 0]) ?_ 0 _ rfl;(with_reducible repeat(first|refine au ?_ _|refine ay ?_|refine aj ?_ _));exact jh.out) Tryz.underlying61 rfl (by kernel_rfl)) rfl ?_;exact⟨_,er,nx,bb⟩
def l9.f(a0:Int):Option (Bool):=(bI.f a0).bind fun aik=>(if aik=true then(some true)else((dG.f a0).bind fun ae0=>(some ae0)))
set_option maxHeartbeats 8000000 in
set_option maxRecDepth 100000 in
theorem l9.calls(a0:Int)(r:Bool)(w:World)(h:l9.f a0=some r):
  Calls Tryz.prog 139 #[.int .u8 a0] w fun e w'=>e= .returned (.bool r)∧eH w w':=by
 have H:((bI.f a0).bind fun aik=>(if aik=true then(some true)else((dG.f a0).bind fun ae0=>(some ae0))))=some r:=h;clear h;replace H:=bd H;obtain⟨aik,A2,H⟩:=H;replace H:=sb H;rcases H with⟨rfl,H⟩|⟨rfl,H⟩
 ·obtain rfl:=Option.some.inj H;go_enter Tryz.func139,Tryz.ntmps139;go_wp2_with (first|(refine gL 140 4 Tryz.func140 #[.int .u8 a0] ?_;(with_reducible refine(bI.calls a0 true _ A2.out).mono ?_);rintro e w' ⟨rfl,⟨nd,rfl⟩⟩;refine⟨_,rfl,?_⟩))
  go_ret;exact⟨rs,dn⟩
 ·replace H:=bd H;obtain⟨ae0,A4,H⟩:=H;obtain rfl:=Option.some.inj H;go_enter Tryz.func139,Tryz.ntmps139;go_wp2_with (first|(refine gL 140 4 Tryz.func140 #[.int .u8 a0] ?_;(with_reducible refine(bI.calls a0 false _ A2.out).mono ?_);rintro e w' ⟨rfl,⟨nd,rfl⟩⟩;refine⟨_,rfl,?_⟩)|(go_at_call 141;(with_reducible refine(dG.calls a0 ae0 _ A4.out).mono ?_);rintro e w' ⟨rfl,⟨nd,rfl⟩⟩))
  go_ret;exact⟨rs,dn⟩
def dh.l0:Nat→ByteArray→Int→Int→Option (Bool)
 |0,_,_,_=>none
 |k+1,x0,x7,x8=>if x8<x7 then(if 0≤x8 then(if x8<(x0.size:Int)then((l9.f (bt x0 x8)).bind fun arb=>(if arb=true then(dh.l0 k x0 x7 (wrap64 (x8+1)))else(some false)))else(none))else(none))else(some true)
def dh.f(k:Nat)(a0:ByteArray):Option (Bool):=dh.l0 k a0 (a0.size:Int) 0
set_option maxHeartbeats 8000000 in
set_option maxRecDepth 100000 in
theorem dh.calls(k:Nat)(a0:ByteArray)(r:Bool)(w:World)(h:dh.f k a0=some r):
  Calls Tryz.prog 138 #[.string a0, .func (.func 139) #[] #[]] w fun e w'=>e= .returned (.bool r)∧eH w w':=by
 have H:(dh.l0 k a0 (a0.size:Int) 0)=some r:=h;clear h;have H':=ak H;clear H;go_enter Tryz.func138,Tryz.ntmps138;go_wp2;go_loopg [8] k (fun kq v8 w'=>∃(iE:Int),v8= .int .i64 iE∧ah (dh.l0 kq a0 (a0.size:Int) iE=some r)∧ah (kq≤k)∧eH w w')
 case atStart=>exact⟨(0),rs,H',⟨Nat.le_refl _⟩,dn⟩
 case round=>
  clear H';try clear c2
  try clear p2
  obtain⟨iE,rfl,HA,iC,⟨m1,rfl⟩⟩:=hrel
  cases gk with
  |zero=>exact absurd HA.out (by simp[dh.l0])
  |succ k1=>
   have H:=HA.out;clear HA;simp only[dh.l0]at H;replace H:=sd H;rcases H with⟨fM,H⟩|⟨fM,H⟩
   ·replace H:=og H;obtain⟨nM,H⟩:=H;replace H:=og H;obtain⟨pU,H⟩:=H;replace H:=bd H;obtain⟨arb,A7,H⟩:=H;replace H:=sb H;rcases H with⟨rfl,H⟩|⟨rfl,H⟩
    ·have H':=ak H;clear H;obtain⟨p6,q6,hx6⟩:=bx a0 iE;go_wp2_with (first|(go_at_call 139;(with_reducible refine(l9.calls (bt a0 iE) true _ A7.out).mono ?_);rintro e w' ⟨rfl,⟨nd,rfl⟩⟩))
     go_roundg k1
     case measure=>have:=iC.out;omega
     case rel=>exact⟨(wrap64 (iE+1)),rs,H',⟨by have:=iC.out;omega⟩,dn⟩
    ·obtain rfl:=Option.some.inj H;obtain⟨p6,q6,hx6⟩:=bx a0 iE;go_wp2_with (first|(go_at_call 139;(with_reducible refine(l9.calls (bt a0 iE) false _ A7.out).mono ?_);rintro e w' ⟨rfl,⟨nd,rfl⟩⟩))
     go_ret;exact⟨rs,dn⟩
   ·obtain rfl:=Option.some.inj H;go_wp2;go_ret;exact⟨rs,dn⟩
def jF.f(k:Nat)(a0:ByteArray):Option (Bool):=if(a0.size:Int)≥1 then(if(a0.size:Int)≤20 then((dh.f k a0).bind fun ae1=>(some ae1))else(some false))else(some false)
set_option maxHeartbeats 8000000 in
set_option maxRecDepth 100000 in
theorem jF.calls(k:Nat)(a0:ByteArray)(r:Bool)(w:World)(h:jF.f k a0=some r):
  Calls Tryz.prog 96 #[.string a0] w fun e w'=>e= .returned (.bool r)∧eH w w':=by
 have H:(if(a0.size:Int)≥1 then(if(a0.size:Int)≤20 then((dh.f k a0).bind fun ae1=>(some ae1))else(some false))else(some false))=some r:=h;clear h;replace H:=sp H;rcases H with⟨c2,H⟩|⟨c2,H⟩
 ·have sW:decide (1≤(a0.size:Int))=true:=decide_eq_true c2;have Dp:decide (1≤a0.size)=true:=decide_eq_true (by omega);clear c2;replace H:=sp H;rcases H with⟨c3,H⟩|⟨c3,H⟩
  ·have fM:=decide_eq_true c3;have oZ:decide (a0.size≤20)=true:=decide_eq_true (by omega);clear c3;replace H:=bd H;obtain⟨ae1,A4,H⟩:=H;obtain rfl:=Option.some.inj H;go_enter Tryz.func96,Tryz.ntmps96;go_wp2_with (first|(go_at_call 138;(with_reducible refine(dh.calls k a0 ae1 _ A4.out).mono ?_);rintro e w' ⟨rfl,⟨nd,rfl⟩⟩))
   go_ret;exact⟨rs,dn⟩
  ·have fM:=decide_eq_false c3;have oZ:decide (a0.size≤20)=false:=decide_eq_false (by omega);clear c3;obtain rfl:=Option.some.inj H;go_enter Tryz.func96,Tryz.ntmps96;go_wp2;go_ret;exact⟨rs,dn⟩
 ·have sW:decide (1≤(a0.size:Int))=false:=decide_eq_false c2;have Dp:decide (1≤a0.size)=false:=decide_eq_false (by omega);clear c2;obtain rfl:=Option.some.inj H;go_enter Tryz.func96,Tryz.ntmps96;go_wp2;go_ret;exact⟨rs,dn⟩
end Go.Proofs.YtncdadcmghglkaaGreatDoor.PFnExactFormatPart
