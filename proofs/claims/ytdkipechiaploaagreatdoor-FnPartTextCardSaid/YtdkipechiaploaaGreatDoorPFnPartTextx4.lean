/- Printed walks; conditions: those in each statement. -/
import Derived.Test.YtdkipechiaploaaGreatDoorVFnPartTextQt
import Derived.Test.YtdkipechiaploaaGreatDoorVFnPartTextYt
import Derived.Test.YtdkipechiaploaaGreatDoorPFnPartTextx0
namespace Go.Proofs.YtdkipechiaploaaGreatDoor.PFnPartText
open Go.Proofs.YtdkipechiaploaaGreatDoorW.dZ.Kd Go.Proofs.YtdkipechiaploaaGreatDoorW.rW.Kd Go.Proofs.Tryz Go.RowKit Go.Proofs.YtdkipechiaploaaGreatDoor.X Go.Proofs.YtdkipechiaploaaGreatDoorW.dZ Go.Proofs.YtdkipechiaploaaGreatDoorW.nK Go.Proofs.YtdkipechiaploaaGreatDoorW.rW
attribute [local go_sem] BN BO Fb Fe zK zL BP BQ   -- for this text's walks alone
set_option linter.unusedVariables false
set_option maxHeartbeats 8000000
set_option maxRecDepth 100000
set_option linter.unusedSimpArgs false
def nT.f(a0:Int):Option (ByteArray):=if 0≤(a0/16)then(if(a0/16)≤(((a0/16)+1)%256)then(if(((a0/16)+1)%256)≤16 then(if 1+((⟨#[48,49,50,51,52,53,54,55,56,57,65,66,67,68,69,70]⟩:ByteArray).extract ((a0/16):Int).toNat ((((a0/16)+1)%256):Int).toNat).size≤9223372036854775807 then(if 0≤(Go.bits .and .u8 a0 15)then(if(Go.bits .and .u8 a0 15)≤(((Go.bits .and .u8 a0 15)+1)%256)then(if(((Go.bits .and .u8 a0 15)+1)%256)≤16 then(if((⟨#[61]⟩:ByteArray)++((⟨#[48,49,50,51,52,53,54,55,56,57,65,66,67,68,69,70]⟩:ByteArray).extract ((a0/16):Int).toNat ((((a0/16)+1)%256):Int).toNat)).size+((⟨#[48,49,50,51,52,53,54,55,56,57,65,66,67,68,69,70]⟩:ByteArray).extract ((Go.bits .and .u8 a0 15):Int).toNat ((((Go.bits .and .u8 a0 15)+1)%256):Int).toNat).size≤9223372036854775807 then(some (((⟨#[61]⟩:ByteArray)++((⟨#[48,49,50,51,52,53,54,55,56,57,65,66,67,68,69,70]⟩:ByteArray).extract ((a0/16):Int).toNat ((((a0/16)+1)%256):Int).toNat))++((⟨#[48,49,50,51,52,53,54,55,56,57,65,66,67,68,69,70]⟩:ByteArray).extract ((Go.bits .and .u8 a0 15):Int).toNat ((((Go.bits .and .u8 a0 15)+1)%256):Int).toNat)))else(none))else(none))else(none))else(none))else(none))else(none))else(none))else(none)
theorem nT.calls{a0:Int}{r:ByteArray}{w:World}(h:nT.f a0=some r):
  Calls Tryz.prog 164 #[.int .u8 a0] w fun e w'=>e= .returned (.string r)∧dS w w':=by
 unfold nT.f at h;have H:=h;clear h;obtain⟨ZE,azr⟩:∃j_:Int,(a0/16)=j_:=⟨_,rfl⟩
 replace H:(if 0≤(ZE)then(if(ZE)≤(((ZE)+1)%256)then(if(((ZE)+1)%256)≤16 then(if 1+((⟨#[48,49,50,51,52,53,54,55,56,57,65,66,67,68,69,70]⟩:ByteArray).extract ((ZE):Int).toNat ((((ZE)+1)%256):Int).toNat).size≤9223372036854775807 then(if 0≤(Go.bits .and .u8 a0 15)then(if(Go.bits .and .u8 a0 15)≤(((Go.bits .and .u8 a0 15)+1)%256)then(if(((Go.bits .and .u8 a0 15)+1)%256)≤16 then(if((⟨#[61]⟩:ByteArray)++((⟨#[48,49,50,51,52,53,54,55,56,57,65,66,67,68,69,70]⟩:ByteArray).extract ((ZE):Int).toNat ((((ZE)+1)%256):Int).toNat)).size+((⟨#[48,49,50,51,52,53,54,55,56,57,65,66,67,68,69,70]⟩:ByteArray).extract ((Go.bits .and .u8 a0 15):Int).toNat ((((Go.bits .and .u8 a0 15)+1)%256):Int).toNat).size≤9223372036854775807 then(some (((⟨#[61]⟩:ByteArray)++((⟨#[48,49,50,51,52,53,54,55,56,57,65,66,67,68,69,70]⟩:ByteArray).extract ((ZE):Int).toNat ((((ZE)+1)%256):Int).toNat))++((⟨#[48,49,50,51,52,53,54,55,56,57,65,66,67,68,69,70]⟩:ByteArray).extract ((Go.bits .and .u8 a0 15):Int).toNat ((((Go.bits .and .u8 a0 15)+1)%256):Int).toNat)))else(none))else(none))else(none))else(none))else(none))else(none))else(none))else(none))=some r:=by first|(rw[azr]at H;exact H)|(simp only[azr]at H⊢;exact H)
 replace H:=AL H;obtain⟨iY,zN,H⟩:=H;replace H:=nn H;obtain⟨c4,H⟩:=H;have o7:=eq_true c4;have Ul:=decide_eq_true c4;replace H:=nn H;obtain⟨c5,H⟩:=H;have mV:=eq_true c5;have PW:=decide_eq_true c5;replace H:=nn H;obtain⟨c6,H⟩:=H;have nD:=eq_true c6;have AQ:=decide_eq_true c6;try have aWV:(9223372036854775807<1+(((⟨#[48,49,50,51,52,53,54,55,56,57,65,66,67,68,69,70]⟩:ByteArray).extract ((ZE):Int).toNat ((((ZE)+1)%256):Int).toNat).size))=False:=by have h_:=c6;simp only[ByteArray.size_append,ByteArray.size_extract]at h_;refine eq_false ?_;simp only[decide_eq_true_eq]at*;omega
 try have aq5:(9223372036854775807<1+((⟨#[48,49,50,51,52,53,54,55,56,57,65,66,67,68,69,70]⟩:ByteArray).extract ((ZE):Int).toNat ((((ZE)+1)%256):Int).toNat).size)=False:=eq_false (Nat.not_lt.2 c6)
 replace H:=AL H;obtain⟨sQ,LK,H⟩:=H;replace H:=nn H;obtain⟨c8,H⟩:=H;have rP:=eq_true c8;have Dt:=decide_eq_true c8;replace H:=nn H;obtain⟨c9,H⟩:=H;have xZ:=eq_true c9;have D_:=decide_eq_true c9;replace H:=nn H;obtain⟨c10,H⟩:=H;have qg:=eq_true c10;have uN:=decide_eq_true c10;try have aEn:(9223372036854775807<(⟨#[61]⟩:ByteArray).size+(((⟨#[48,49,50,51,52,53,54,55,56,57,65,66,67,68,69,70]⟩:ByteArray).extract ((ZE):Int).toNat ((((ZE)+1)%256):Int).toNat).size)+(((⟨#[48,49,50,51,52,53,54,55,56,57,65,66,67,68,69,70]⟩:ByteArray).extract ((Go.bits .and .u8 a0 15):Int).toNat ((((Go.bits .and .u8 a0 15)+1)%256):Int).toNat).size))=False:=by have h_:=c10;simp only[ByteArray.size_append,ByteArray.size_extract]at h_;refine eq_false ?_;simp only[decide_eq_true_eq]at*;omega
 try have atg:(9223372036854775807<1+(((⟨#[48,49,50,51,52,53,54,55,56,57,65,66,67,68,69,70]⟩:ByteArray).extract ((ZE):Int).toNat ((((ZE)+1)%256):Int).toNat).size)+(((⟨#[48,49,50,51,52,53,54,55,56,57,65,66,67,68,69,70]⟩:ByteArray).extract ((Go.bits .and .u8 a0 15):Int).toNat ((((Go.bits .and .u8 a0 15)+1)%256):Int).toNat).size))=False:=by have h_:=(eq_false (Nat.not_lt.2 c10):(9223372036854775807<((⟨#[61]⟩:ByteArray)++((⟨#[48,49,50,51,52,53,54,55,56,57,65,66,67,68,69,70]⟩:ByteArray).extract ((ZE):Int).toNat ((((ZE)+1)%256):Int).toNat)).size+((⟨#[48,49,50,51,52,53,54,55,56,57,65,66,67,68,69,70]⟩:ByteArray).extract ((Go.bits .and .u8 a0 15):Int).toNat ((((Go.bits .and .u8 a0 15)+1)%256):Int).toNat).size)=False);simp only[ByteArray.size_append]at h_;exact h_
 try have adi:(9223372036854775807<((⟨#[61]⟩:ByteArray)++((⟨#[48,49,50,51,52,53,54,55,56,57,65,66,67,68,69,70]⟩:ByteArray).extract ((ZE):Int).toNat ((((ZE)+1)%256):Int).toNat)).size+((⟨#[48,49,50,51,52,53,54,55,56,57,65,66,67,68,69,70]⟩:ByteArray).extract ((Go.bits .and .u8 a0 15):Int).toNat ((((Go.bits .and .u8 a0 15)+1)%256):Int).toNat).size)=False:=eq_false (Nat.not_lt.2 c10)
 obtain rfl:=s1 H;go_enter func164,ntmps164;go_wp2;repeat(go_quiet (fail);try go_wp2)
 go_ret;exact⟨by first|rfl|(simp;done)|(simp only[←azr]<;>(first|rfl|simp))|(simp[*];done),dn⟩
def BF.f(a0:Int):Option (ByteArray):=if a0=32 then(some (⟨#[95]⟩:ByteArray))else((iI.f a0).bind fun aGU=>(if aGU=true then(some (strOfNums (([a0]:List Int))))else(if a0=45 then(some (strOfNums (([a0]:List Int))))else(if a0=46 then(some (strOfNums (([a0]:List Int))))else((nT.f a0).bind fun aGV=>(some aGV))))))
theorem BF.calls{a0:Int}{r:ByteArray}{w:World}(h:BF.f a0=some r):
  Calls Tryz.prog 159 #[.int .u8 a0] w fun e w'=>e= .returned (.string r)∧Below w.heap.size w w':=by
 have HB:=ak (Below.refl w.heap.size w);unfold BF.f at h;have H:=h;clear h;replace H:=sq H;rcases H with⟨sO,BK,H⟩|⟨c2,sO,BK,H⟩
 ·obtain rfl:=s1 H;go_enter func159,ntmps159;go_wp2;go_ret;exact⟨er,ul HB.out⟩
 ·replace H:=bd H;obtain⟨aGU,A3,H⟩:=H;replace H:=sb H;rcases H with⟨rfl,H⟩|⟨rfl,H⟩
  ·obtain⟨aWW,au9⟩:=nm ([a0]:List Int);rw[←au9.out]at H;obtain rfl:=s1 H;go_enter func159,ntmps159;go_wp2_with (first|(refine gA func97 (iI.calls A3.out) ?_;intro nd)|(refine Xx 16 (Kd.int .u8) 5 [.int .u8 a0] au9 (dG.one (show Kd.M (Kd.int .u8) _ _ _ a0 [.int .u8 a0]from rfl) (dG.none _ _)) ?_;intro v124 w5 WI hb;have aGW:=ak (au WI (aj (ul HB.out)));replace HB:=bs HB hb;clear hb WI;have aWX:=uO (P:=Tryz.prog) underlying22 underlying5 underlying9 (wI aGW.out)))
   go_ret;exact⟨er,ul HB.out⟩
  ·replace H:=sq H;rcases H with⟨rP,Dt,H⟩|⟨c8,rP,Dt,H⟩
   ·obtain⟨aWY,au_⟩:=nm ([a0]:List Int);rw[←au_.out]at H;obtain rfl:=s1 H;go_enter func159,ntmps159;go_wp2_with (first|(refine gA func97 (iI.calls A3.out) ?_;intro nd)|(refine Xx 16 (Kd.int .u8) 5 [.int .u8 a0] au_ (dG.one (show Kd.M (Kd.int .u8) _ _ _ a0 [.int .u8 a0]from rfl) (dG.none _ _)) ?_;intro v127 w9 OX hb;have aGX:=ak (au OX (aj (ul HB.out)));replace HB:=bs HB hb;clear hb OX;have aGY:=uO (P:=Tryz.prog) underlying22 underlying5 underlying9 (wI aGX.out)))
    go_ret;exact⟨er,ul HB.out⟩
   ·replace H:=sq H;rcases H with⟨vJ,EU,H⟩|⟨c12,vJ,EU,H⟩
    ·obtain⟨aWZ,ava⟩:=nm ([a0]:List Int);rw[←ava.out]at H;obtain rfl:=s1 H;go_enter func159,ntmps159;go_wp2_with (first|(refine gA func97 (iI.calls A3.out) ?_;intro nd)|(refine Xx 16 (Kd.int .u8) 5 [.int .u8 a0] ava (dG.one (show Kd.M (Kd.int .u8) _ _ _ a0 [.int .u8 a0]from rfl) (dG.none _ _)) ?_;intro v130 w13 V5 hb;have aGZ:=ak (au V5 (aj (ul HB.out)));replace HB:=bs HB hb;clear hb V5;have aG0:=uO (P:=Tryz.prog) underlying22 underlying5 underlying9 (wI aGZ.out)))
     go_ret;exact⟨er,ul HB.out⟩
    ·replace H:=bd H;obtain⟨aGV,A16,H⟩:=H;obtain rfl:=s1 H;go_enter func159,ntmps159;go_wp2_with (first|(refine gA func97 (iI.calls A3.out) ?_;intro nd)|(refine gA func164 (nT.calls A16.out) ?_;intro nd))
     go_ret;exact⟨er,ul HB.out⟩
def kR.l0:Nat→ByteArray→ByteArray→Int→Option (ByteArray)
 |0,_,_,_=>none
 |k+1,x0,x3,x4=>if x4<(x0.size:Int)then(if 0≤x4 then((BF.f (bt x0 x4)).bind fun arP=>(if x3.size+arP.size≤9223372036854775807 then(kR.l0 k x0 (x3++arP) (wrap64 (x4+1)))else(none)))else(none))else(some x3)
def kR.f(k:Nat)(a0:ByteArray):Option (ByteArray):=kR.l0 k a0 (⟨#[]⟩:ByteArray) 0
theorem kR.calls{k:Nat}{a0 r:ByteArray}{w:World}(h:kR.f k a0=some r):
  Calls Tryz.prog 148 #[.string a0] w fun e w'=>e= .returned (.string r)∧Below w.heap.size w w':=by
 have HB:=ak (Below.refl w.heap.size w);unfold kR.f at h;have H:=h;clear h;have H':=ak H;clear H;go_enter func148,ntmps148;go_wp2;go_loopg [3,4] k (fun kq v3 v4 w'=>∃(fA:ByteArray) (cO:Int),v3= .string fA∧v4= .int .i64 cO∧ah (kR.l0 kq a0 fA cO=some r)∧ah (kq≤k)∧ah (Below w.heap.size w w'))
 case atStart=>exact⟨_,_,rs,rs,H',⟨Nat.le_refl _⟩,⟨ul HB.out⟩⟩
 case round=>
  clear H';obtain⟨fA,cO,rfl,rfl,HA,y5,HB⟩:=hrel
  cases gk with
  |zero=>exact zz HA.out
  |succ k1=>
   obtain⟨H⟩:=HA;simp only[kR.l0]at H;replace H:=sd H;rcases H with⟨sO,H⟩|⟨sO,H⟩
   ·replace H:=nO H;obtain⟨iY,H⟩:=H;replace H:=bd H;obtain⟨arP,A5,H⟩:=H;replace H:=nn H;obtain⟨c6,H⟩:=H;have nD:=eq_true c6;have AQ:=decide_eq_true c6;try have aq5:(9223372036854775807<fA.size+arP.size)=False:=eq_false (Nat.not_lt.2 c6)
    have H':=ak H;clear H;obtain⟨p4,q4,hx4⟩:=bx a0 cO;go_wp2_with (refine gB func159 (BF.calls A5.out) ?_;intro w7 hb;replace HB:=bs HB hb;clear hb)
    go_roundg k1
    case measure=>exact kl
    case rel=>exact⟨_,_,rs,rs,H',⟨kl⟩,⟨ul HB.out⟩⟩
   ·obtain rfl:=s1 H;go_wp2;go_ret;exact⟨er,ul HB.out⟩
def jy.j0:Nat→ByteArray→Bool→Option (ByteArray×Bool)
 |0,_,_=>none
 |k+1,x0,x12=>if x12=true then(some ((⟨#[]⟩:ByteArray),false))else((kR.f k x0).bind fun EJ=>(if 10+EJ.size≤9223372036854775807 then(if((⟨#[61,63,117,116,102,45,56,63,113,63]⟩:ByteArray)++EJ).size+2≤9223372036854775807 then(if((((⟨#[61,63,117,116,102,45,56,63,113,63]⟩:ByteArray)++EJ)++(⟨#[63,61]⟩:ByteArray)).size:Int)>40 then(some ((⟨#[]⟩:ByteArray),false))else(some (((⟨#[61,63,117,116,102,45,56,63,113,63]⟩:ByteArray)++EJ)++(⟨#[63,61]⟩:ByteArray),true)))else(none))else(none)))
def jy.f(k:Nat)(a0:ByteArray):Option (ByteArray×Bool):=if(a0.size:Int)<1 then(jy.j0 k a0 true)else(jy.j0 k a0 (decide ((a0.size:Int)>40)))
theorem jy.calls{k:Nat}{a0 r1:ByteArray}{r2:Bool}{w:World}(h:jy.f k a0=some (r1,r2)):
  Calls Tryz.prog 149 #[.string a0] w fun e w'=>e= .returned (.tuple #[.string r1, .bool r2])∧Below w.heap.size w w':=by
 have HB:=ak (Below.refl w.heap.size w);unfold jy.f at h;have H:=h;clear h;have HC2:=ak H;clear H;go_enter func149,ntmps149;go_upto_region 1 with(fail)
 go_cut [12] (fun v12 wc=>∃(kq:Nat) (aom:Bool),v12= .bool aom∧ah (jy.j0 kq a0 aom=some (r1,r2))∧ah (kq≤k)∧ah (Below w.heap.size w wc))
 case first=>
  have H:=HC2.out;clear HC2;replace H:=sp H;rcases H with⟨c3,H⟩|⟨c3,H⟩
  ·have iY:=decide_eq_true c3;have zN:decide (a0.size<1)=true:=decide_eq_true (by omega);clear c3
   (first|rw[iY]|(simp only[ig,jO];rw[iY])|skip);have H':=ak H;clear H;go_wp2;go_meet
   case rel=>exact⟨_,_,rs,H',⟨PV⟩,⟨ul HB.out⟩⟩
  ·have iY:=decide_eq_false c3;have zN:decide (a0.size<1)=false:=decide_eq_false (by omega);clear c3
   (first|rw[iY]|(simp only[ig,jO];rw[iY])|skip);have H':=ak H;clear H;go_wp2;go_meet
   case rel=>exact⟨_,_,rs,H',⟨PV⟩,⟨ul HB.out⟩⟩
 case rest=>
  clear HC2;obtain⟨kq,aom,rfl,HA,HJ1,HB⟩:=hcut
  cases kq with
  |zero=>exact zz HA.out
  |succ VU=>
   obtain⟨H⟩:=HA;simp only[jy.j0]at H;replace H:=sb H;rcases H with⟨rfl,H⟩|⟨rfl,H⟩
   ·obtain⟨rfl,rfl⟩:=s2 H;go_wp2;go_ret2;exact⟨er,ul HB.out⟩
   ·replace H:=bd H;obtain⟨EJ,A5,H⟩:=H;replace H:=nn H;obtain⟨c6,H⟩:=H;have nD:=eq_true c6;have AQ:=decide_eq_true c6;try have aq5:(9223372036854775807<10+EJ.size)=False:=eq_false (Nat.not_lt.2 c6)
    replace H:=nn H;obtain⟨c7,H⟩:=H;have sQ:=eq_true c7;have LK:=decide_eq_true c7;try have aW0:(9223372036854775807<10+EJ.size+2)=False:=by have h_:=(eq_false (Nat.not_lt.2 c7):(9223372036854775807<((⟨#[61,63,117,116,102,45,56,63,113,63]⟩:ByteArray)++EJ).size+2)=False);simp only[ByteArray.size_append]at h_;exact h_
    try have aLz:(9223372036854775807<((⟨#[61,63,117,116,102,45,56,63,113,63]⟩:ByteArray)++EJ).size+2)=False:=eq_false (Nat.not_lt.2 c7)
    replace H:=sp H;rcases H with⟨c8,H⟩|⟨c8,H⟩
    ·have rP:decide (40<((((⟨#[61,63,117,116,102,45,56,63,113,63]⟩:ByteArray)++EJ)++(⟨#[63,61]⟩:ByteArray)).size:Int))=true:=decide_eq_true c8;have Dt:decide (40<(((⟨#[61,63,117,116,102,45,56,63,113,63]⟩:ByteArray)++EJ)++(⟨#[63,61]⟩:ByteArray)).size)=true:=decide_eq_true (by omega)
     (try(have aBy:decide (40<10+(EJ.size:Int)+2)=true:=decide_eq_true (by have e0_:(((⟨#[61,63,117,116,102,45,56,63,113,63]⟩:ByteArray)++EJ)++(⟨#[63,61]⟩:ByteArray)).size=10+EJ.size+2:=(by first|(simp only[ByteArray.size_append];rfl)|simp only[ByteArray.size_append]);omega)))
     (try(have aNb:decide (40<10+EJ.size+2)=true:=decide_eq_true (by have e0_:(((⟨#[61,63,117,116,102,45,56,63,113,63]⟩:ByteArray)++EJ)++(⟨#[63,61]⟩:ByteArray)).size=10+EJ.size+2:=(by first|(simp only[ByteArray.size_append];rfl)|simp only[ByteArray.size_append]);omega)));clear c8;obtain⟨rfl,rfl⟩:=s2 H;go_wp2_with (refine gB func148 (kR.calls A5.out) ?_;intro w9 hb;replace HB:=bs HB hb;clear hb)
     go_ret2;exact⟨er,ul HB.out⟩
    ·have rP:decide (40<((((⟨#[61,63,117,116,102,45,56,63,113,63]⟩:ByteArray)++EJ)++(⟨#[63,61]⟩:ByteArray)).size:Int))=false:=decide_eq_false c8;have Dt:decide (40<(((⟨#[61,63,117,116,102,45,56,63,113,63]⟩:ByteArray)++EJ)++(⟨#[63,61]⟩:ByteArray)).size)=false:=decide_eq_false (by omega)
     (try(have aBy:decide (40<10+(EJ.size:Int)+2)=false:=decide_eq_false (by have e0_:(((⟨#[61,63,117,116,102,45,56,63,113,63]⟩:ByteArray)++EJ)++(⟨#[63,61]⟩:ByteArray)).size=10+EJ.size+2:=(by first|(simp only[ByteArray.size_append];rfl)|simp only[ByteArray.size_append]);omega)))
     (try(have aNb:decide (40<10+EJ.size+2)=false:=decide_eq_false (by have e0_:(((⟨#[61,63,117,116,102,45,56,63,113,63]⟩:ByteArray)++EJ)++(⟨#[63,61]⟩:ByteArray)).size=10+EJ.size+2:=(by first|(simp only[ByteArray.size_append];rfl)|simp only[ByteArray.size_append]);omega)));clear c8;obtain⟨rfl,rfl⟩:=s2 H;go_wp2_with (refine gB func148 (kR.calls A5.out) ?_;intro w10 hb;replace HB:=bs HB hb;clear hb)
     go_ret2;exact⟨er,ul HB.out⟩
mutual
def bM.l0:Nat→ByteArray→ByteArray→Int→Option (ByteArray×Bool)
 |0,_,_,_=>none
 |k+1,x0,x4,x5=>if x5<(x0.size:Int)then(bM.l1 k x0 x4 x5 (wrap64 (x5+1)))else(some (x4,true))
def bM.l1:Nat→ByteArray→ByteArray→Int→Int→Option (ByteArray×Bool)
 |0,_,_,_,_=>none
 |k+1,x0,x4,x5,x6=>if x6<(x0.size:Int)then(if 0≤x5 then(if x5≤(wrap64 (x6+1))then(if(wrap64 (x6+1))≤(x0.size:Int)then((kR.f k (x0.extract (x5:Int).toNat ((wrap64 (x6+1)):Int).toNat)).bind fun arQ=>(if(arQ.size:Int)≤28 then(bM.l1 k x0 x4 x5 (wrap64 (x6+1)))else(if x5≤x6 then(if x6≤(x0.size:Int)then((jy.f k (x0.extract (x5:Int).toNat (x6:Int).toNat)).bind fun ais=>(if x5>0 then(if x4.size+1≤9223372036854775807 then(if(x4++(⟨#[32]⟩:ByteArray)).size+ais.1.size≤9223372036854775807 then(bM.l0 k x0 ((x4++(⟨#[32]⟩:ByteArray))++ais.1) x6)else(none))else(none))else(if x4.size+ais.1.size≤9223372036854775807 then(bM.l0 k x0 (x4++ais.1) x6)else(none))))else(none))else(none))))else(none))else(none))else(none))else(if 0≤x5 then(if x5≤x6 then(if x6≤(x0.size:Int)then((jy.f k (x0.extract (x5:Int).toNat (x6:Int).toNat)).bind fun ait=>(if x5>0 then(if x4.size+1≤9223372036854775807 then(if(x4++(⟨#[32]⟩:ByteArray)).size+ait.1.size≤9223372036854775807 then(bM.l0 k x0 ((x4++(⟨#[32]⟩:ByteArray))++ait.1) x6)else(none))else(none))else(if x4.size+ait.1.size≤9223372036854775807 then(bM.l0 k x0 (x4++ait.1) x6)else(none))))else(none))else(none))else(none))
end
def bM.f(k:Nat)(a0:ByteArray):Option (ByteArray×Bool):=if(a0.size:Int)>120 then(some ((⟨#[]⟩:ByteArray),false))else((iJ.f k a0).bind fun aG1=>(if aG1=true then(bM.l0 k a0 (⟨#[]⟩:ByteArray) 0)else(some (a0,true))))
theorem bM.calls{k:Nat}{a0 r1:ByteArray}{r2:Bool}{w:World}(h:bM.f k a0=some (r1,r2)):
  Calls Tryz.prog 133 #[.string a0] w fun e w'=>e= .returned (.tuple #[.string r1, .bool r2])∧Below w.heap.size w w':=by
 have HB:=ak (Below.refl w.heap.size w);unfold bM.f at h;have H:=h;clear h;replace H:=sp H;rcases H with⟨c2,H⟩|⟨c2,H⟩
 ·have sO:decide (120<(a0.size:Int))=true:=decide_eq_true c2;have BK:decide (120<a0.size)=true:=decide_eq_true (by omega);clear c2;obtain⟨rfl,rfl⟩:=s2 H;go_enter func133,ntmps133;go_wp2;go_ret2;exact⟨er,ul HB.out⟩
 ·have sO:decide (120<(a0.size:Int))=false:=decide_eq_false c2;have BK:decide (120<a0.size)=false:=decide_eq_false (by omega);clear c2;replace H:=bd H;obtain⟨aG1,A3,H⟩:=H;replace H:=sb H;rcases H with⟨rfl,H⟩|⟨rfl,H⟩
  ·have H':=ak H;clear H;go_enter func133,ntmps133;go_wp2_with (refine gA func147 (iJ.calls A3.out) ?_;intro nd)
   go_loopg [4,5] k (fun kq v4 v5 w'=>∃(cO:ByteArray) (dX:Int),v4= .string cO∧v5= .int .i64 dX∧ah (bM.l0 kq a0 cO dX=some (r1,r2))∧ah (kq≤k)∧ah (Below w.heap.size w w'))
   case atStart=>exact⟨_,_,rs,rs,H',⟨Nat.le_refl _⟩,⟨ul HB.out⟩⟩
   case round=>
    clear H';try clear c2
    try clear sO
    try clear BK
    obtain⟨cO,dX,rfl,rfl,HA,y5,HB⟩:=hrel
    cases gk with
    |zero=>exact zz HA.out
    |succ k1=>
     obtain⟨H⟩:=HA;simp only[bM.l0]at H;replace H:=sd H;rcases H with⟨mV,H⟩|⟨mV,H⟩
     ·have H':=ak H;clear H;go_wp2;go_loopg [6] k1 (fun kq v6 w'=>∃(wJ:Int),v6= .int .i64 wJ∧ah (bM.l1 kq a0 cO dX wJ=some (r1,r2))∧ah (kq≤k1)∧ah (Below w.heap.size w w'))
      case atStart=>exact⟨_,rs,H',⟨Nat.le_refl _⟩,⟨ul HB.out⟩⟩
      case round=>
       clear H';try clear c2
       try clear sO
       try clear BK
       try clear mV
       obtain⟨wJ,rfl,HA,HK2,HB⟩:=hrel
       cases gk with
       |zero=>exact zz HA.out
       |succ k2=>
        obtain⟨H⟩:=HA;simp only[bM.l1]at H;replace H:=sd H;rcases H with⟨nD,H⟩|⟨nD,H⟩
        ·replace H:=AL H;obtain⟨sQ,LK,H⟩:=H;replace H:=nn H;obtain⟨c8,H⟩:=H;have rP:=eq_true c8;have Dt:=decide_eq_true c8;replace H:=nn H;obtain⟨c9,H⟩:=H;have xZ:=eq_true c9;have D_:=decide_eq_true c9;replace H:=bd H;obtain⟨arQ,A10,H⟩:=H;replace H:=sp H;rcases H with⟨c11,H⟩|⟨c11,H⟩
         ·have uM:=decide_eq_true c11;have D7:decide (arQ.size≤28)=true:=decide_eq_true (by omega);clear c11;have H':=ak H;clear H;go_wp2_with (go_at_call 148;refine mB (kR.calls A10.out) ?_;intro w12 hb;replace HB:=bs HB hb;clear hb)
          go_roundg k2
          case measure=>exact kl
          case rel=>exact⟨_,rs,H',⟨kl⟩,⟨ul HB.out⟩⟩
         ·have uM:=decide_eq_false c11;have D7:decide (arQ.size≤28)=false:=decide_eq_false (by omega);clear c11;have xY:=eq_true (of_decide_eq_true (by assumption):0≤dX);replace H:=AL H;obtain⟨uD,yc,H⟩:=H;replace H:=AL H;obtain⟨uz,D8,H⟩:=H;replace H:=bd H;obtain⟨⟨arR,t138⟩,A16,H⟩:=H
          (try dsimp only at H);replace H:=sp H;rcases H with⟨c17,H⟩|⟨c17,H⟩
          ·have wz:decide (0<dX)=true:=decide_eq_true c17;clear c17;replace H:=nn H;obtain⟨c18,H⟩:=H;have ES:=eq_true c18;have Xk:=decide_eq_true c18;try have atU:(9223372036854775807<cO.size+1)=False:=eq_false (Nat.not_lt.2 c18)
           replace H:=nn H;obtain⟨c19,H⟩:=H;have ET:=eq_true c19;have Jp:=decide_eq_true c19;try have aC3:(9223372036854775807<cO.size+1+arR.size)=False:=by have h_:=(eq_false (Nat.not_lt.2 c19):(9223372036854775807<(cO++(⟨#[32]⟩:ByteArray)).size+arR.size)=False);simp only[ByteArray.size_append]at h_;exact h_
           try have al5:(9223372036854775807<(cO++(⟨#[32]⟩:ByteArray)).size+arR.size)=False:=eq_false (Nat.not_lt.2 c19)
           have H':=ak H;clear H;go_wp2_with (first|(go_at_call 148;refine mB (kR.calls A10.out) ?_;intro w20 hb;replace HB:=bs HB hb;clear hb)|(refine gB func149 (jy.calls A16.out) ?_;intro w21 hb;replace HB:=bs HB hb;clear hb))
           go_roundg k2
           case measure=>exact kl
           case rel=>exact⟨_,_,rs,rs,H',⟨kl⟩,⟨ul HB.out⟩⟩
          ·have wz:decide (0<dX)=false:=decide_eq_false c17;clear c17;replace H:=nn H;obtain⟨c22,H⟩:=H;have H9:=eq_true c22;have Xm:=decide_eq_true c22;try have aRQ:(9223372036854775807<cO.size+arR.size)=False:=eq_false (Nat.not_lt.2 c22)
           have H':=ak H;clear H;go_wp2_with (first|(go_at_call 148;refine mB (kR.calls A10.out) ?_;intro w23 hb;replace HB:=bs HB hb;clear hb)|(refine gB func149 (jy.calls A16.out) ?_;intro w24 hb;replace HB:=bs HB hb;clear hb))
           go_roundg k2
           case measure=>exact kl
           case rel=>exact⟨_,_,rs,rs,H',⟨kl⟩,⟨ul HB.out⟩⟩
        ·replace H:=AL H;obtain⟨F8,adB,H⟩:=H;replace H:=AL H;obtain⟨Q5,ahu,H⟩:=H;replace H:=AL H;obtain⟨KH,aho,H⟩:=H;replace H:=bd H;obtain⟨⟨t139,aW1⟩,A28,H⟩:=H
         (try dsimp only at H);replace H:=sp H;rcases H with⟨c29,H⟩|⟨c29,H⟩
         ·have ahp:decide (0<dX)=true:=decide_eq_true c29;clear c29;replace H:=nn H;obtain⟨c30,H⟩:=H;have ahq:=eq_true c30;have aRR:=decide_eq_true c30;try have aRS:(9223372036854775807<cO.size+1)=False:=eq_false (Nat.not_lt.2 c30)
          replace H:=nn H;obtain⟨c31,H⟩:=H;have ahT:=eq_true c31;have amF:=decide_eq_true c31;try have aRT:(9223372036854775807<cO.size+1+t139.size)=False:=by have h_:=(eq_false (Nat.not_lt.2 c31):(9223372036854775807<(cO++(⟨#[32]⟩:ByteArray)).size+t139.size)=False);simp only[ByteArray.size_append]at h_;exact h_
          try have aRU:(9223372036854775807<(cO++(⟨#[32]⟩:ByteArray)).size+t139.size)=False:=eq_false (Nat.not_lt.2 c31)
          have H':=ak H;clear H;go_wp2_with (refine gB func149 (jy.calls A28.out) ?_;intro w32 hb;replace HB:=bs HB hb;clear hb)
          go_roundg k2
          case measure=>exact kl
          case rel=>exact⟨_,_,rs,rs,H',⟨kl⟩,⟨ul HB.out⟩⟩
         ·have ahp:decide (0<dX)=false:=decide_eq_false c29;clear c29;replace H:=nn H;obtain⟨c33,H⟩:=H;have aah:=eq_true c33;have ald:=decide_eq_true c33;try have aRV:(9223372036854775807<cO.size+t139.size)=False:=eq_false (Nat.not_lt.2 c33)
          have H':=ak H;clear H;go_wp2_with (refine gB func149 (jy.calls A28.out) ?_;intro w34 hb;replace HB:=bs HB hb;clear hb)
          go_roundg k2
          case measure=>exact kl
          case rel=>exact⟨_,_,rs,rs,H',⟨kl⟩,⟨ul HB.out⟩⟩
     ·obtain⟨rfl,rfl⟩:=s2 H;go_wp2;go_ret2;exact⟨er,ul HB.out⟩
  ·obtain⟨rfl,rfl⟩:=s2 H;go_enter func133,ntmps133;go_wp2_with (refine gA func147 (iJ.calls A3.out) ?_;intro nd)
   go_ret2;exact⟨er,ul HB.out⟩
def lG.l0:Nat→ByteArray→Int→List ByteArray→Int→Int→Option (List ByteArray)
 |0,_,_,_,_,_=>none
 |k+1,x0,x1,x5,x6,x7=>if x7<(x0.size:Int)then(if 0≤x7 then(if(bt x0 x7)=x1 then(if 0≤x6 then(if x6≤x7 then(if x7≤(x0.size:Int)then(if x5.length<8796093022208 then(lG.l0 k x0 x1 (x5++[x0.extract (x6:Int).toNat (x7:Int).toNat]) (wrap64 (x7+1)) (wrap64 (x7+1)))else(none))else(none))else(none))else(none))else(lG.l0 k x0 x1 x5 x6 (wrap64 (x7+1))))else(none))else(if 0≤x6 then(if x6≤(x0.size:Int)then(if x5.length<8796093022208 then(some (x5++[x0.extract (x6:Int).toNat x0.size]))else(none))else(none))else(none))
def lG.f(k:Nat)(a0:ByteArray)(a1:Int):Option (List ByteArray):=lG.l0 k a0 a1 (([]:List ByteArray)) 0 0
theorem lG.calls{k:Nat}{a0:ByteArray}{a1:Int}{r:List ByteArray}{w:World}(h:lG.f k a0 a1=some r):
  Calls Tryz.prog 160 #[.string a0, .int .u8 a1] w fun e w'=>∃nC:Value,e= .returned (nC)∧Kd.R Kd.string 9 w' w.heap.size (fun _=>True) nC r∧Below w.heap.size w w':=by
 have HB:=ak (Below.refl w.heap.size w);unfold lG.f at h;have H:=h;clear h;obtain⟨aW2,avb⟩:=nm ([]:List ByteArray);rw[←avb.out]at H;have H':=ak H;clear H;go_enter func160,ntmps160;go_wp2_with (refine Fh 8 Kd.string 9 avb ?_;intro aW3 w3 Vt hb;have aG2:=ak (au Vt (aj (ul HB.out)));replace HB:=bs HB hb;clear hb Vt)
 go_loopg [5,6,7] k (fun kq v5 v6 v7 w'=>∃(dX:List ByteArray) (gU:Int) (qA:Int),v6= .int .i64 gU∧v7= .int .i64 qA∧ah (lG.l0 kq a0 a1 dX gU qA=some r)∧ah (kq≤k)∧ah (Kd.R Kd.string 9 w' w.heap.size (fun _=>True) v5 dX)∧ah (Below w.heap.size w w'))
 case atStart=>exact⟨_,_,_,rs,rs,H',⟨Nat.le_refl _⟩,⟨ur aG2.out⟩,⟨ul HB.out⟩⟩
 case round=>
  clear H';obtain⟨dX,gU,qA,rfl,rfl,HA,y5,uj,HB⟩:=hrel
  cases gk with
  |zero=>exact zz HA.out
  |succ k1=>
   obtain⟨H⟩:=HA;simp only[lG.l0]at H;replace H:=sd H;rcases H with⟨mV,H⟩|⟨mV,H⟩
   ·replace H:=nO H;obtain⟨nD,H⟩:=H;replace H:=sq H;rcases H with⟨rP,Dt,H⟩|⟨c8,rP,Dt,H⟩
    ·replace H:=AL H;obtain⟨xZ,D_,H⟩:=H;replace H:=AL H;obtain⟨qg,uN,H⟩:=H;replace H:=AL H;obtain⟨uM,D7,H⟩:=H;replace H:=nl H;obtain⟨Xw,H⟩:=H;obtain⟨aW4,avc⟩:=nm (dX++[a0.extract (gU:Int).toNat (qA:Int).toNat]);rw[←avc.out]at H;have H':=ak H;clear H;obtain⟨p7,q7,hx7⟩:=bx a0 qA;go_wp2_with (at_builtin;refine aP 20 25 Kd.string 24 9 (.string ⟨#[]⟩) 16 underlying24 info9 HB (ur uj.out) avc (by have:=Xw.out;omega) ?_;intro v145 w13 ho hb hg hat;have aG3:=ak (ho);replace HB:=ak (hb);clear ho hb hg hat uj)
     go_roundg k1
     case measure=>exact kl
     case rel=>exact⟨_,_,_,rs,rs,H',⟨kl⟩,⟨ur aG3.out⟩,⟨ul HB.out⟩⟩
    ·have H':=ak H;clear H;obtain⟨p7,q7,hx7⟩:=bx a0 qA;go_wp2;go_roundg k1
     case measure=>exact kl
     case rel=>exact⟨_,_,_,rs,rs,H',⟨kl⟩,⟨ur uj.out⟩,⟨ul HB.out⟩⟩
   ·replace H:=AL H;obtain⟨uD,yc,H⟩:=H;replace H:=AL H;obtain⟨uz,D8,H⟩:=H;replace H:=nl H;obtain⟨adg,H⟩:=H;obtain⟨aW5,avd⟩:=nm (dX++[a0.extract (gU:Int).toNat a0.size]);rw[←avd.out]at H;obtain rfl:=s1 H;go_wp2_with (at_builtin;refine aP 29 33 Kd.string 24 9 (.string ⟨#[]⟩) 16 underlying24 info9 HB (ur uj.out) avd (by have:=adg.out;omega) ?_;intro v148 w17 ho hb hg hat;have aG4:=ak (ho);replace HB:=ak (hb);clear ho hb hg hat uj)
    go_ret;exact⟨_,er,ur aG4.out,ul HB.out⟩
def jC.l0:Nat→ByteArray→List ByteArray→Int→Option (List ByteArray×Bool)
 |0,_,_,_=>none
 |k+1,x0,x4,x5=>if x5<(x4.length:Int)then(if 0≤x5 then(if((iw ByteArray.empty x4 x5).size:Int)>40 then(some ((([]:List ByteArray)),false))else((aW.f k (iw ByteArray.empty x4 x5)).bind fun aG5=>(if aG5=true then(jC.l0 k x0 x4 (wrap64 (x5+1)))else(some ((([]:List ByteArray)),false)))))else(none))else(some (x4,decide ((x0.size:Int)≤300)))
def jC.f(k:Nat)(a0:ByteArray):Option (List ByteArray×Bool):=(lG.f k a0 10).bind fun UJ=>(jC.l0 k a0 UJ 0)
theorem jC.calls{k:Nat}{a0:ByteArray}{r1:List ByteArray}{r2:Bool}{w:World}(h:jC.f k a0=some (r1,r2)):
  Calls Tryz.prog 150 #[.string a0] w fun e w'=>∃nC:Value,e= .returned (.tuple #[nC, .bool r2])∧Kd.R Kd.string 9 w' w.heap.size (fun _=>True) nC r1∧Below w.heap.size w w':=by
 have HB:=ak (Below.refl w.heap.size w);unfold jC.f at h;have H:=h;clear h;replace H:=bd H;obtain⟨UJ,A2,H⟩:=H;have H':=ak H;clear H;go_enter func150,ntmps150;go_wp2_with (refine gV func160 (lG.calls A2.out) ?_;rintro aNc w3 ⟨ho0,hb⟩;have aG6:=ak (au ho0 (aj (ul HB.out)));replace HB:=bs HB hb;clear hb;(try clear ho0))
 go_loopg [5] k (fun kq v5 w'=>∃(dX:Int),v5= .int .i64 dX∧ah (jC.l0 kq a0 UJ dX=some (r1,r2))∧ah (kq≤k)∧ah (Kd.R Kd.string 9 w' w.heap.size (fun _=>True) aNc UJ)∧ah (Below w.heap.size w w'))
 case atStart=>exact⟨_,rs,H',⟨Nat.le_refl _⟩,⟨ur aG6.out⟩,⟨ul HB.out⟩⟩
 case round=>
  clear H';obtain⟨dX,rfl,HA,y5,bQ,HB⟩:=hrel
  cases gk with
  |zero=>exact zz HA.out
  |succ k1=>
   obtain⟨H⟩:=HA;simp only[jC.l0]at H;replace H:=sd H;rcases H with⟨o7,H⟩|⟨o7,H⟩
   ·replace H:=nO H;obtain⟨mV,H⟩:=H;replace H:=sp H;rcases H with⟨c6,H⟩|⟨c6,H⟩
    ·have nD:decide (40<((iw ByteArray.empty UJ dX).size:Int))=true:=decide_eq_true c6;have AQ:decide (40<(iw ByteArray.empty UJ dX).size)=true:=decide_eq_true (by omega);clear c6;obtain⟨aW6,ave⟩:=nm ([]:List ByteArray);rw[←ave.out]at H;obtain⟨rfl,rfl⟩:=s2 H;obtain⟨Ao7,co7,eo7⟩:=aC bQ.out;subst eo7;have YM:=zi dX;have YN:=zj dX UJ.length;obtain⟨aiu,e153,aiv⟩:=bZ (aA bQ.out).2.2 dX YM YN;cases e153;replace YM:=eq_true YM;replace YN:=eq_true YN;go_wp2_with (refine Fh 28 Kd.string 9 ave ?_;intro aW7 w8 ho9 hb;have aG7:=ak (au (dM ho9 (jl (ur bQ.out))) (aj (ul HB.out)));replace bQ:=ak (dH (ur bQ.out) (bK ho9) hb);replace HB:=bs HB hb;clear hb ho9)
     go_ret2;exact⟨_,er,ur (aG aG7.out (fun _ hk=>trivial)),ul HB.out⟩
    ·have nD:decide (40<((iw ByteArray.empty UJ dX).size:Int))=false:=decide_eq_false c6;have AQ:decide (40<(iw ByteArray.empty UJ dX).size)=false:=decide_eq_false (by omega);clear c6;replace H:=bd H;obtain⟨aG5,A10,H⟩:=H;replace H:=sb H;rcases H with⟨rfl,H⟩|⟨rfl,H⟩
     ·have H':=ak H;clear H;obtain⟨BU,Ak,Uf⟩:=aC bQ.out;subst Uf;have YM:=zi dX;have YN:=zj dX UJ.length;obtain⟨aiu,e153,aiv⟩:=bZ (aA bQ.out).2.2 dX YM YN;cases e153;replace YM:=eq_true YM;replace YN:=eq_true YN;have agd:=zi dX;have agf:=zj dX UJ.length;obtain⟨aon,azs,arS⟩:=bZ (aA bQ.out).2.2 dX agd agf;obtain rfl:aiu=aon:=(by injection azs)
      replace agd:=eq_true agd;replace agf:=eq_true agf;go_wp2_with (go_at_call 89;refine mA (aW.calls A10.out) ?_;intro nd)
      go_roundg k1
      case measure=>exact kl
      case rel=>exact⟨_,rs,H',⟨kl⟩,⟨ur bQ.out⟩,⟨ul HB.out⟩⟩
     ·obtain⟨y159,avf⟩:=nm ([]:List ByteArray);rw[←avf.out]at H;obtain⟨rfl,rfl⟩:=s2 H;obtain⟨Hg,AP,LC⟩:=aC bQ.out;subst LC;have YM:=zi dX;have YN:=zj dX UJ.length;obtain⟨aiu,e153,aiv⟩:=bZ (aA bQ.out).2.2 dX YM YN;cases e153;replace YM:=eq_true YM;replace YN:=eq_true YN;have agd:=zi dX;have agf:=zj dX UJ.length;obtain⟨aon,azs,arS⟩:=bZ (aA bQ.out).2.2 dX agd agf;obtain rfl:aiu=aon:=(by injection azs)
      replace agd:=eq_true agd;replace agf:=eq_true agf;go_wp2_with (first|(go_at_call 89;refine mA (aW.calls A10.out) ?_;intro nd)|(refine Fh 28 Kd.string 9 avf ?_;intro v160 Xg VT hb;have aG8:=ak (au (dM VT (jl (ur bQ.out))) (aj (ul HB.out)));replace bQ:=ak (dH (ur bQ.out) (bK VT) hb);replace HB:=bs HB hb;clear hb VT))
      go_ret2;exact⟨_,er,ur (aG aG8.out (fun _ hk=>trivial)),ul HB.out⟩
   ·obtain⟨rfl,rfl⟩:=s2 H;obtain⟨OW,LV,LW⟩:=aC bQ.out;subst LW;go_wp2;go_ret2;exact⟨_,er,ur bQ.out,ul HB.out⟩
def oV.f(a0:Int)(a1:Bool):Option (ByteArray):=if a0≥33 then(if a0≤126 then(if a0=61 then(if a0=32 then(if a1=true then((nT.f a0).bind fun t162=>(some t162))else(some (strOfNums (([a0]:List Int)))))else((nT.f a0).bind fun aG9=>(some aG9)))else(some (strOfNums (([a0]:List Int)))))else(if a0=32 then(if a1=true then((nT.f a0).bind fun aG_=>(some aG_))else(some (strOfNums (([a0]:List Int)))))else((nT.f a0).bind fun aHa=>(some aHa))))else(if a0=32 then(if a1=true then((nT.f a0).bind fun t175=>(some t175))else(some (strOfNums (([a0]:List Int)))))else((nT.f a0).bind fun aHb=>(some aHb)))
theorem oV.calls{a0:Int}{a1:Bool}{r:ByteArray}{w:World}(h:oV.f a0 a1=some r):
  Calls Tryz.prog 161 #[.int .u8 a0, .bool a1] w fun e w'=>e= .returned (.string r)∧Below w.heap.size w w':=by
 have HB:=ak (Below.refl w.heap.size w);unfold oV.f at h;have H:=h;clear h;replace H:=sp H;rcases H with⟨c3,H⟩|⟨c3,H⟩
 ·have iY:decide (33≤a0)=true:=decide_eq_true c3;clear c3;replace H:=sd H;rcases H with⟨o7,H⟩|⟨o7,H⟩
  ·replace H:=sq H;rcases H with⟨mV,PW,H⟩|⟨c5,mV,PW,H⟩
   ·replace H:=sq H;rcases H with⟨nD,AQ,H⟩|⟨c6,nD,AQ,H⟩
    ·replace H:=sb H;rcases H with⟨rfl,H⟩|⟨rfl,H⟩
     ·replace H:=bd H;obtain⟨t162,A8,H⟩:=H;obtain rfl:=s1 H;go_enter func161,ntmps161;go_wp2_with (refine gA func164 (nT.calls A8.out) ?_;intro nd)
      go_ret;exact⟨er,ul HB.out⟩
     ·obtain⟨aW8,avg⟩:=nm ([a0]:List Int);rw[←avg.out]at H;obtain rfl:=s1 H;go_enter func161,ntmps161;go_wp2_with (refine Xx 24 (Kd.int .u8) 5 [.int .u8 a0] avg (dG.one (show Kd.M (Kd.int .u8) _ _ _ a0 [.int .u8 a0]from rfl) (dG.none _ _)) ?_;intro v164 w9 OX hb;have aHc:=ak (au OX (aj (ul HB.out)));replace HB:=bs HB hb;clear hb OX;have aGY:=uO (P:=Tryz.prog) underlying22 underlying5 underlying9 (wI aHc.out))
      go_ret;exact⟨er,ul HB.out⟩
    ·replace H:=bd H;obtain⟨aG9,A12,H⟩:=H;obtain rfl:=s1 H;go_enter func161,ntmps161;go_wp2_with (refine gA func164 (nT.calls A12.out) ?_;intro nd)
     go_ret;exact⟨er,ul HB.out⟩
   ·obtain⟨y167,avh⟩:=nm ([a0]:List Int);rw[←avh.out]at H;obtain rfl:=s1 H;go_enter func161,ntmps161;go_wp2_with (refine Xx 24 (Kd.int .u8) 5 [.int .u8 a0] avh (dG.one (show Kd.M (Kd.int .u8) _ _ _ a0 [.int .u8 a0]from rfl) (dG.none _ _)) ?_;intro v168 w13 V5 hb;have aHd:=ak (au V5 (aj (ul HB.out)));replace HB:=bs HB hb;clear hb V5;have aG0:=uO (P:=Tryz.prog) underlying22 underlying5 underlying9 (wI aHd.out))
    go_ret;exact⟨er,ul HB.out⟩
  ·replace H:=sq H;rcases H with⟨ER,QT,H⟩|⟨c16,ER,QT,H⟩
   ·replace H:=sb H;rcases H with⟨rfl,H⟩|⟨rfl,H⟩
    ·replace H:=bd H;obtain⟨aG_,A18,H⟩:=H;obtain rfl:=s1 H;go_enter func161,ntmps161;go_wp2_with (refine gA func164 (nT.calls A18.out) ?_;intro nd)
     go_ret;exact⟨er,ul HB.out⟩
    ·obtain⟨aW9,avi⟩:=nm ([a0]:List Int);rw[←avi.out]at H;obtain rfl:=s1 H;go_enter func161,ntmps161;go_wp2_with (refine Xx 24 (Kd.int .u8) 5 [.int .u8 a0] avi (dG.one (show Kd.M (Kd.int .u8) _ _ _ a0 [.int .u8 a0]from rfl) (dG.none _ _)) ?_;intro aW_ w19 ZO hb;have aHe:=ak (au ZO (aj (ul HB.out)));replace HB:=bs HB hb;clear hb ZO;have aRW:=uO (P:=Tryz.prog) underlying22 underlying5 underlying9 (wI aHe.out))
     go_ret;exact⟨er,ul HB.out⟩
   ·replace H:=bd H;obtain⟨aHa,A22,H⟩:=H;obtain rfl:=s1 H;go_enter func161,ntmps161;go_wp2_with (refine gA func164 (nT.calls A22.out) ?_;intro nd)
    go_ret;exact⟨er,ul HB.out⟩
 ·have iY:decide (33≤a0)=false:=decide_eq_false c3;clear c3;replace H:=sq H;rcases H with⟨EP,Vq,H⟩|⟨c23,EP,Vq,H⟩
  ·replace H:=sb H;rcases H with⟨rfl,H⟩|⟨rfl,H⟩
   ·replace H:=bd H;obtain⟨t175,A25,H⟩:=H;obtain rfl:=s1 H;go_enter func161,ntmps161;go_wp2_with (refine gA func164 (nT.calls A25.out) ?_;intro nd)
    go_ret;exact⟨er,ul HB.out⟩
   ·obtain⟨aXa,avj⟩:=nm ([a0]:List Int);rw[←avj.out]at H;obtain rfl:=s1 H;go_enter func161,ntmps161;go_wp2_with (refine Xx 24 (Kd.int .u8) 5 [.int .u8 a0] avj (dG.one (show Kd.M (Kd.int .u8) _ _ _ a0 [.int .u8 a0]from rfl) (dG.none _ _)) ?_;intro aXb w26 aHf hb;have aHg:=ak (au aHf (aj (ul HB.out)));replace HB:=bs HB hb;clear hb aHf;have aRX:=uO (P:=Tryz.prog) underlying22 underlying5 underlying9 (wI aHg.out))
    go_ret;exact⟨er,ul HB.out⟩
  ·replace H:=bd H;obtain⟨aHb,A29,H⟩:=H;obtain rfl:=s1 H;go_enter func161,ntmps161;go_wp2_with (refine gA func164 (nT.calls A29.out) ?_;intro nd)
   go_ret;exact⟨er,ul HB.out⟩
def cZ.l0:Nat→ByteArray→List ByteArray→ByteArray→Int→Option (List ByteArray×Bool)
 |0,_,_,_,_=>none
 |k+1,x0,x4,x5,x6=>if x6<(x0.size:Int)then(if 0≤x6 then(if(bt x0 x6)=10 then(if x4.length<8796093022208 then(cZ.l0 k x0 (x4++[x5]) (⟨#[]⟩:ByteArray) (wrap64 (x6+1)))else(none))else(if(wrap64 (x6+1))=(x0.size:Int)then((oV.f (bt x0 x6) true).bind fun V_=>(if(wrap64 ((x5.size:Int)+(V_.size:Int)))>39 then(if x5.size+1≤9223372036854775807 then(if x4.length<8796093022208 then(if 0+V_.size≤9223372036854775807 then(cZ.l0 k x0 (x4++[x5++(⟨#[61]⟩:ByteArray)]) ((⟨#[]⟩:ByteArray)++V_) (wrap64 (x6+1)))else(none))else(none))else(none))else(if x5.size+V_.size≤9223372036854775807 then(cZ.l0 k x0 x4 (x5++V_) (wrap64 (x6+1)))else(none))))else(if 0≤(wrap64 (x6+1))then(if(wrap64 (x6+1))<(x0.size:Int)then((oV.f (bt x0 x6) ((bt x0 (wrap64 (x6+1)))==10)).bind fun t196=>(if(wrap64 ((x5.size:Int)+(t196.size:Int)))>39 then(if x5.size+1≤9223372036854775807 then(if x4.length<8796093022208 then(if 0+t196.size≤9223372036854775807 then(cZ.l0 k x0 (x4++[x5++(⟨#[61]⟩:ByteArray)]) ((⟨#[]⟩:ByteArray)++t196) (wrap64 (x6+1)))else(none))else(none))else(none))else(if x5.size+t196.size≤9223372036854775807 then(cZ.l0 k x0 x4 (x5++t196) (wrap64 (x6+1)))else(none))))else(none))else(none))))else(none))else(if x4.length<8796093022208 then(some ((x4++[x5]),true))else(none))
def cZ.f(k:Nat)(a0:ByteArray):Option (List ByteArray×Bool):=if(a0.size:Int)>300 then(some ((([]:List ByteArray)),false))else(cZ.l0 k a0 (([]:List ByteArray)) (⟨#[]⟩:ByteArray) 0)
theorem cZ.calls{k:Nat}{a0:ByteArray}{r1:List ByteArray}{r2:Bool}{w:World}(h:cZ.f k a0=some (r1,r2)):
  Calls Tryz.prog 151 #[.string a0] w fun e w'=>∃nC:Value,e= .returned (.tuple #[nC, .bool r2])∧Kd.R Kd.string 9 w' w.heap.size (fun _=>True) nC r1∧Below w.heap.size w w':=by
 have HB:=ak (Below.refl w.heap.size w);unfold cZ.f at h;have H:=h;clear h;replace H:=sp H;rcases H with⟨c2,H⟩|⟨c2,H⟩
 ·have sO:decide (300<(a0.size:Int))=true:=decide_eq_true c2;have BK:decide (300<a0.size)=true:=decide_eq_true (by omega);clear c2;obtain⟨aXc,avk⟩:=nm ([]:List ByteArray);rw[←avk.out]at H;obtain⟨rfl,rfl⟩:=s2 H;go_enter func151,ntmps151;go_wp2_with (refine Fh 11 Kd.string 9 avk ?_;intro aXd w3 Vt hb;have aHh:=ak (au Vt (aj (ul HB.out)));replace HB:=bs HB hb;clear hb Vt)
  go_ret2;exact⟨_,er,ur aHh.out,ul HB.out⟩
 ·have sO:decide (300<(a0.size:Int))=false:=decide_eq_false c2;have BK:decide (300<a0.size)=false:=decide_eq_false (by omega);clear c2;obtain⟨aXe,avl⟩:=nm ([]:List ByteArray);rw[←avl.out]at H;have H':=ak H;clear H;go_enter func151,ntmps151;go_wp2_with (refine Fh 12 Kd.string 9 avl ?_;intro aXf w5 WI hb;have aHi:=ak (au WI (aj (ul HB.out)));replace HB:=bs HB hb;clear hb WI)
  go_loopg [4,5,6] k (fun kq v4 v5 v6 w'=>∃(cO:List ByteArray) (dX:ByteArray) (gU:Int),v5= .string dX∧v6= .int .i64 gU∧ah (cZ.l0 kq a0 cO dX gU=some (r1,r2))∧ah (kq≤k)∧ah (Kd.R Kd.string 9 w' w.heap.size (fun _=>True) v4 cO)∧ah (Below w.heap.size w w'))
  case atStart=>exact⟨_,_,_,rs,rs,H',⟨Nat.le_refl _⟩,⟨ur aHi.out⟩,⟨ul HB.out⟩⟩
  case round=>
   clear H';try clear c2
   try clear sO
   try clear BK
   obtain⟨cO,dX,gU,rfl,rfl,HA,y5,bQ,HB⟩:=hrel
   cases gk with
   |zero=>exact zz HA.out
   |succ k1=>
    obtain⟨H⟩:=HA;simp only[cZ.l0]at H;replace H:=sd H;rcases H with⟨sQ,H⟩|⟨sQ,H⟩
    ·replace H:=nO H;obtain⟨rP,H⟩:=H;replace H:=sq H;rcases H with⟨qg,uN,H⟩|⟨c10,qg,uN,H⟩
     ·replace H:=nl H;obtain⟨Xu,H⟩:=H;obtain⟨aXg,avm⟩:=nm (cO++[dX]);rw[←avm.out]at H;have H':=ak H;clear H;obtain⟨p9,q9,hx9⟩:=bx a0 gU;go_wp2_with (at_builtin;refine aP 23 25 Kd.string 24 9 (.string ⟨#[]⟩) 16 underlying24 info9 HB (ur bQ.out) avm (by have:=Xu.out;omega) ?_;intro aXh w12 ho hb hg hat;have aHj:=ak (ho);replace HB:=ak (hb);clear ho hb hg hat bQ)
      go_roundg k1
      case measure=>exact kl
      case rel=>exact⟨_,_,_,rs,rs,H',⟨kl⟩,⟨ur aHj.out⟩,⟨ul HB.out⟩⟩
     ·replace H:=sq H;rcases H with⟨uD,yc,H⟩|⟨c14,uD,yc,H⟩
      ·replace H:=bd H;obtain⟨V_,A15,H⟩:=H;replace H:=sp H;rcases H with⟨c16,H⟩|⟨c16,H⟩
       ·have ER:decide (39<(wrap64 ((dX.size:Int)+(V_.size:Int))))=true:=decide_eq_true c16;replace H:=nn H;obtain⟨c17,H⟩:=H
        (try(have QT:decide (39<((dX.size:Int)+(V_.size:Int)))=true:=decide_eq_true (by have h_:=c16;have h2_:=c17;unfold wrap64 at h_;omega)));clear c16;have wz:=eq_true c17;have Pg:=decide_eq_true c17;try have atz:(9223372036854775807<dX.size+1)=False:=eq_false (Nat.not_lt.2 c17)
        replace H:=nl H;obtain⟨aHk,H⟩:=H;obtain⟨aXi,avn⟩:=nm (cO++[dX++(⟨#[61]⟩:ByteArray)]);rw[←avn.out]at H;replace H:=nn H;obtain⟨c19,H⟩:=H;have ET:=eq_true c19;have Jp:=decide_eq_true c19;try have al5:(9223372036854775807<0+V_.size)=False:=eq_false (Nat.not_lt.2 c19)
        have H':=ak H;clear H;obtain⟨p9,q9,hx9⟩:=bx a0 gU;try go_wp2
        replace bQ:=ak (nI bQ.out);replace HB:=ak (iE HB.out);obtain⟨p13,q13,ae6⟩:=bx a0 gU;refine ro [15] [0,1,3,4,5,6,7,8,9,10,11,12,13,14,2,15,16] (fun w'=>True) trivial ?_
        generalize wr.drew=w20 at bQ HB⊢
        repeat(first|refine Dc ?_|refine lg_ ?_)
        refine rB func161 (oV.calls A15.out) ?_;intro w21 hb;replace bQ:=rb bQ hb;replace HB:=bs HB hb;clear hb;refine⟨sx,?_⟩;repeat(first|refine Dc ?_|refine lg_ ?_)
        refine on ?_;try go_wp2_with (at_builtin;refine aP 49 52 Kd.string 24 9 (.string ⟨#[]⟩) 16 underlying24 info9 HB (ur bQ.out) avn (by have:=aHk.out;omega) ?_;intro v194 w22 ho hb hg hat;have aHl:=ak (ho);replace HB:=ak (hb);clear ho hb hg hat bQ)
        go_roundg k1
        case measure=>exact kl
        case rel=>exact⟨_,_,_,rs,rs,H',⟨kl⟩,⟨ur aHl.out⟩,⟨ul HB.out⟩⟩
       ·have ER:decide (39<(wrap64 ((dX.size:Int)+(V_.size:Int))))=false:=decide_eq_false c16;replace H:=nn H;obtain⟨c23,H⟩:=H
        (try(have QT:decide (39<((dX.size:Int)+(V_.size:Int)))=false:=decide_eq_false (by have h_:=c16;have h2_:=c23;unfold wrap64 at h_;omega)));clear c16;have EP:=eq_true c23;have Vq:=decide_eq_true c23;try have aFa:(9223372036854775807<dX.size+V_.size)=False:=eq_false (Nat.not_lt.2 c23)
        have H':=ak H;clear H;obtain⟨p9,q9,hx9⟩:=bx a0 gU;try go_wp2
        replace bQ:=ak (nI bQ.out);replace HB:=ak (iE HB.out);obtain⟨p13,q13,ae6⟩:=bx a0 gU;refine ro [15] [0,1,3,4,5,6,7,8,9,10,11,12,13,14,2,15,16] (fun w'=>True) trivial ?_
        generalize wr.drew=w24 at bQ HB⊢
        repeat(first|refine Dc ?_|refine lg_ ?_)
        refine rB func161 (oV.calls A15.out) ?_;intro w25 hb;replace bQ:=rb bQ hb;replace HB:=bs HB hb;clear hb;refine⟨sx,?_⟩;repeat(first|refine Dc ?_|refine lg_ ?_)
        refine on ?_;try go_wp2
        go_roundg k1
        case measure=>exact kl
        case rel=>exact⟨_,_,_,rs,rs,H',⟨kl⟩,⟨ur bQ.out⟩,⟨ul HB.out⟩⟩
      ·obtain⟨ZQ,SH⟩:∃j_:Int,(wrap64 (gU+1))=j_:=⟨_,rfl⟩
       replace H:(if 0≤(ZQ)then(if(ZQ)<(a0.size:Int)then((oV.f (bt a0 gU) ((bt a0 (ZQ))==10)).bind fun t196=>(if(wrap64 ((dX.size:Int)+(t196.size:Int)))>39 then(if dX.size+1≤9223372036854775807 then(if cO.length<8796093022208 then(if 0+t196.size≤9223372036854775807 then(cZ.l0 k1 a0 (cO++[dX++(⟨#[61]⟩:ByteArray)]) ((⟨#[]⟩:ByteArray)++t196) ZQ)else(none))else(none))else(none))else(if dX.size+t196.size≤9223372036854775807 then(cZ.l0 k1 a0 cO (dX++t196) ZQ)else(none))))else(none))else(none))=some (r1,r2):=by first|(rw[SH]at H;exact H)|(simp only[SH]at H⊢;exact H)
       (try rw[SH]at uD)
       (try rw[SH]at yc);have aNd:(IntKind.i64.wrap (gU+1))=ZQ:=(ig _).trans SH;replace H:=nO H;obtain⟨KH,H⟩:=H;replace H:=nO H;obtain⟨LZ,H⟩:=H;replace H:=bd H;obtain⟨t196,A30,H⟩:=H;replace H:=sp H;rcases H with⟨c31,H⟩|⟨c31,H⟩
       ·have ahT:decide (39<(wrap64 ((dX.size:Int)+(t196.size:Int))))=true:=decide_eq_true c31;replace H:=nn H;obtain⟨c32,H⟩:=H
        (try(have amF:decide (39<((dX.size:Int)+(t196.size:Int)))=true:=decide_eq_true (by have h_:=c31;have h2_:=c32;unfold wrap64 at h_;omega)));clear c31;have aaj:=eq_true c32;have alp:=decide_eq_true c32;try have aRY:(9223372036854775807<dX.size+1)=False:=eq_false (Nat.not_lt.2 c32)
        replace H:=nl H;obtain⟨amP,H⟩:=H;obtain⟨aXj,avo⟩:=nm (cO++[dX++(⟨#[61]⟩:ByteArray)]);rw[←avo.out]at H;replace H:=nn H;obtain⟨c34,H⟩:=H;have Xt:=eq_true c34;have ada:=decide_eq_true c34;try have aRZ:(9223372036854775807<0+t196.size)=False:=eq_false (Nat.not_lt.2 c34)
        have H':=ak H;clear H;obtain⟨p9,q9,hx9⟩:=bx a0 gU;try go_wp2
        replace bQ:=ak (nI bQ.out);replace HB:=ak (iE HB.out);obtain⟨p13,q13,ae6⟩:=bx a0 gU;obtain⟨p29,q29,hx29⟩:=bx a0 (ZQ);refine ro [15] [0,1,3,4,5,6,7,8,9,10,11,2,12,13,14,15,16] (fun w'=>True) trivial ?_
        generalize wr.drew=w35 at bQ HB⊢
        repeat refine Dc ?_
        refine ld (N:=some 42) (gk.trans rfl) rfl rfl (fun K hK=>?_);refine Bh func161 (by kernel_rfl) rfl #[.int .u8 (bt a0 gU), .bool ((bt a0 (ZQ))==10)] (by rfl) rfl rfl (by(try simp only[List.map_toArray,List.map_cons,List.map_nil]);first|done|(simp only[SH];rfl)|rfl|(simp only[List.length_drop,List.length_take];rfl)) ?_
        with_reducible refine(oV.calls A30.out).mono ?_
        rintro e w36 ⟨rfl,hb⟩;refine⟨_,rfl,?_⟩;replace bQ:=rb bQ hb;replace HB:=bs HB hb;try clear hb
        refine hK.out _ _ trivial ?_;clear hK K;refine no (a':=?_) ?_ ?_
        rotate_left
        ·show Act.put _ (some 42) _=_
         simp only[Act.put,yX,yY,l_c,ig,jO];rfl
        repeat refine Dc ?_
        refine on ?_;try go_wp2_with (at_builtin;refine aP 49 52 Kd.string 24 9 (.string ⟨#[]⟩) 16 underlying24 info9 HB (ur bQ.out) avo (by have:=amP.out;omega) ?_;intro v198 w37 ho hb hg hat;have aHm:=ak (ho);replace HB:=ak (hb);clear ho hb hg hat bQ)
        go_roundg k1
        case measure=>exact kl
        case rel=>exact⟨_,_,_,rs,(by first|rfl|(simp;done)|(simp only[←SH]<;>(first|rfl|simp))|(simp[*];done)),H',⟨kl⟩,⟨ur aHm.out⟩,⟨ul HB.out⟩⟩
       ·have ahT:decide (39<(wrap64 ((dX.size:Int)+(t196.size:Int))))=false:=decide_eq_false c31;replace H:=nn H;obtain⟨c38,H⟩:=H
        (try(have amF:decide (39<((dX.size:Int)+(t196.size:Int)))=false:=decide_eq_false (by have h_:=c31;have h2_:=c38;unfold wrap64 at h_;omega)));clear c31;have adl:=eq_true c38;have aR0:=decide_eq_true c38;try have aR1:(9223372036854775807<dX.size+t196.size)=False:=eq_false (Nat.not_lt.2 c38)
        have H':=ak H;clear H;obtain⟨p9,q9,hx9⟩:=bx a0 gU;try go_wp2
        replace bQ:=ak (nI bQ.out);replace HB:=ak (iE HB.out);obtain⟨p13,q13,ae6⟩:=bx a0 gU;obtain⟨p29,q29,hx29⟩:=bx a0 (ZQ);refine ro [15] [0,1,3,4,5,6,7,8,9,10,11,2,12,13,14,15,16] (fun w'=>True) trivial ?_
        generalize wr.drew=w39 at bQ HB⊢
        repeat refine Dc ?_
        refine ld (N:=some 42) (gk.trans rfl) rfl rfl (fun K hK=>?_);refine Bh func161 (by kernel_rfl) rfl #[.int .u8 (bt a0 gU), .bool ((bt a0 (ZQ))==10)] (by rfl) rfl rfl (by(try simp only[List.map_toArray,List.map_cons,List.map_nil]);first|done|(simp only[SH];rfl)|rfl|(simp only[List.length_drop,List.length_take];rfl)) ?_
        with_reducible refine(oV.calls A30.out).mono ?_
        rintro e w40 ⟨rfl,hb⟩;refine⟨_,rfl,?_⟩;replace bQ:=rb bQ hb;replace HB:=bs HB hb;try clear hb
        refine hK.out _ _ trivial ?_;clear hK K;refine no (a':=?_) ?_ ?_
        rotate_left
        ·show Act.put _ (some 42) _=_
         simp only[Act.put,yX,yY,l_c,ig,jO];rfl
        repeat refine Dc ?_
        refine on ?_;try go_wp2
        go_roundg k1
        case measure=>exact kl
        case rel=>exact⟨_,_,_,rs,(by first|rfl|(simp;done)|(simp only[←SH]<;>(first|rfl|simp))|(simp[*];done)),H',⟨kl⟩,⟨ur bQ.out⟩,⟨ul HB.out⟩⟩
    ·replace H:=nl H;obtain⟨aob,H⟩:=H;obtain⟨aXk,avp⟩:=nm (cO++[dX]);rw[←avp.out]at H;obtain⟨rfl,rfl⟩:=s2 H;go_wp2_with (at_builtin;refine aP 57 59 Kd.string 24 9 (.string ⟨#[]⟩) 16 underlying24 info9 HB (ur bQ.out) avp (by have:=aob.out;omega) ?_;intro aXl w42 ho hb hg hat;have aHn:=ak (ho);replace HB:=ak (hb);clear ho hb hg hat bQ)
     go_ret2;exact⟨_,er,ur aHn.out,ul HB.out⟩
def lU.l0:Nat→ByteArray→Int→List ByteArray→Option (List ByteArray)
 |0,_,_,_=>none
 |k+1,x0,x1,x5=>if(x0.size:Int)>x1 then(if 0≤x1 then(if x1≤(x0.size:Int)then(if x5.length<8796093022208 then(lU.l0 k (x0.extract (x1:Int).toNat x0.size) x1 (x5++[x0.extract 0 (x1:Int).toNat]))else(none))else(none))else(none))else(if x5.length<8796093022208 then(some (x5++[x0]))else(none))
def lU.f(k:Nat)(a0:ByteArray)(a1:Int):Option (List ByteArray):=lU.l0 k a0 a1 (([]:List ByteArray))
theorem lU.calls{k:Nat}{a0:ByteArray}{a1:Int}{r:List ByteArray}{w:World}(h:lU.f k a0 a1=some r):
  Calls Tryz.prog 162 #[.string a0, .int .i64 a1] w fun e w'=>∃nC:Value,e= .returned (nC)∧Kd.R Kd.string 9 w' w.heap.size (fun _=>True) nC r∧Below w.heap.size w w':=by
 have HB:=ak (Below.refl w.heap.size w);unfold lU.f at h;have H:=h;clear h;obtain⟨aXm,avq⟩:=nm ([]:List ByteArray);rw[←avq.out]at H;have H':=ak H;clear H;go_enter func162,ntmps162;go_wp2_with (refine Fh 6 Kd.string 9 avq ?_;intro v201 w3 Vt hb;have aHo:=ak (au Vt (aj (ul HB.out)));replace HB:=bs HB hb;clear hb Vt)
 go_loopg [0,5] k (fun kq v0 v5 w'=>∃(uX:ByteArray) (dX:List ByteArray),v0= .string uX∧ah (lU.l0 kq uX a1 dX=some r)∧ah (kq≤k)∧ah (Kd.R Kd.string 9 w' w.heap.size (fun _=>True) v5 dX)∧ah (Below w.heap.size w w'))
 case atStart=>exact⟨_,_,rs,H',⟨Nat.le_refl _⟩,⟨ur aHo.out⟩,⟨ul HB.out⟩⟩
 case round=>
  clear H';obtain⟨uX,dX,rfl,HA,y5,uj,HB⟩:=hrel
  cases gk with
  |zero=>exact zz HA.out
  |succ k1=>
   obtain⟨H⟩:=HA;simp only[lU.l0]at H;replace H:=sp H;rcases H with⟨c5,H⟩|⟨c5,H⟩
   ·have mV:decide (a1<(uX.size:Int))=true:=decide_eq_true c5;clear c5;replace H:=AL H;obtain⟨nD,AQ,H⟩:=H;replace H:=AL H;obtain⟨sQ,LK,H⟩:=H;replace H:=nl H;obtain⟨akv,H⟩:=H;obtain⟨aXn,avr⟩:=nm (dX++[uX.extract 0 (a1:Int).toNat]);rw[←avr.out]at H;have xZ:=eq_true (of_decide_eq_true (by assumption):0≤a1);have qg:=eq_true (of_decide_eq_true (by assumption):a1≤(uX.size:Int));have H':=ak H;clear H;go_wp2_with (at_builtin;refine aP 11 15 Kd.string 24 9 (.string ⟨#[]⟩) 16 underlying24 info9 HB (ur uj.out) avr (by have:=akv.out;omega) ?_;intro aXo ZH ho hb hg hat;have aHp:=ak (ho);replace HB:=ak (hb);clear ho hb hg hat uj)
    go_roundg k1
    case measure=>exact kl
    case rel=>exact⟨_,_,rs,H',⟨kl⟩,⟨ur aHp.out⟩,⟨ul HB.out⟩⟩
   ·have mV:decide (a1<(uX.size:Int))=false:=decide_eq_false c5;clear c5;replace H:=nl H;obtain⟨Xw,H⟩:=H;obtain⟨aXp,avs⟩:=nm (dX++[uX]);rw[←avs.out]at H;obtain rfl:=s1 H;go_wp2_with (at_builtin;refine aP 20 22 Kd.string 24 9 (.string ⟨#[]⟩) 16 underlying24 info9 HB (ur uj.out) avs (by have:=Xw.out;omega) ?_;intro aXq w13 ho hb hg hat;have aHq:=ak (ho);replace HB:=ak (hb);clear ho hb hg hat uj)
    go_ret;exact⟨_,er,ur aHq.out,ul HB.out⟩
def sK.f:Option (ByteArray):=some (⟨#[65,66,67,68,69,70,71,72,73,74,75,76,77,78,79,80,81,82,83,84,85,86,87,88,89,90,97,98,99,100,101,102,103,104,105,106,107,108,109,110,111,112,113,114,115,116,117,118,119,120,121,122,48,49,50,51,52,53,54,55,56,57,43,47]⟩:ByteArray)
theorem sK.calls(r:ByteArray)(w:World)(h:sK.f=some r):
  Calls Tryz.prog 165 #[] w fun e w'=>e= .returned (.string r)∧dS w w':=by
 unfold sK.f at h;have H:=h;clear h;obtain rfl:=s1 H;go_enter func165,ntmps165;go_wp2;go_ret;exact⟨rs,dn⟩
mutual
def dh.l0:Nat→ByteArray→ByteArray→Int→Option (ByteArray)
 |0,_,_,_=>none
 |k+1,x0,x3,x4=>if x4<(x0.size:Int)then(if 0≤x4 then(if(wrap64 (x4+1))<(x0.size:Int)then(if 0≤(wrap64 (x4+1))then(dh.j1 k x0 x3 x4 (wrap64 ((wrap64 ((wrap64 (bt x0 x4))*65536))+(wrap64 ((wrap64 (bt x0 (wrap64 (x4+1))))*256)))))else(none))else(dh.j1 k x0 x3 x4 (wrap64 ((wrap64 (bt x0 x4))*65536))))else(none))else(some x3)
def dh.j1:Nat→ByteArray→ByteArray→Int→Int→Option (ByteArray)
 |0,_,_,_,_=>none
 |k+1,x0,x3,x4,x5=>if(wrap64 (x4+2))<(x0.size:Int)then(if 0≤(wrap64 (x4+2))then(dh.j2 k x0 x3 x4 (wrap64 (x5+(wrap64 (bt x0 (wrap64 (x4+2)))))))else(none))else(dh.j2 k x0 x3 x4 x5)
def dh.j2:Nat→ByteArray→ByteArray→Int→Int→Option (ByteArray)
 |0,_,_,_,_=>none
 |k+1,x0,x3,x4,x5=>dh.l1 k x0 x3 x4 x5 0
def dh.l1:Nat→ByteArray→ByteArray→Int→Int→Int→Option (ByteArray)
 |0,_,_,_,_,_=>none
 |k+1,x0,x3,x4,x5,x6=>if x6<4 then(if(wrap64 (x4+x6))>(x0.size:Int)then(if x3.size+1≤9223372036854775807 then(dh.l1 k x0 (x3++(⟨#[61]⟩:ByteArray)) x4 x5 (wrap64 (x6+1)))else(none))else(if 0≤(wrap64 (18-(wrap64 (6*x6))))then((sK.f).bind fun Ql=>(if 0≤(Go.bits .and .i64 (shr .i64 x5 (wrap64 (18-(wrap64 (6*x6))))) 63)then(if(Go.bits .and .i64 (shr .i64 x5 (wrap64 (18-(wrap64 (6*x6))))) 63)≤(wrap64 ((Go.bits .and .i64 (shr .i64 x5 (wrap64 (18-(wrap64 (6*x6))))) 63)+1))then(if(wrap64 ((Go.bits .and .i64 (shr .i64 x5 (wrap64 (18-(wrap64 (6*x6))))) 63)+1))≤(Ql.size:Int)then(if x3.size+(Ql.extract ((Go.bits .and .i64 (shr .i64 x5 (wrap64 (18-(wrap64 (6*x6))))) 63):Int).toNat ((wrap64 ((Go.bits .and .i64 (shr .i64 x5 (wrap64 (18-(wrap64 (6*x6))))) 63)+1)):Int).toNat).size≤9223372036854775807 then(dh.l1 k x0 (x3++(Ql.extract ((Go.bits .and .i64 (shr .i64 x5 (wrap64 (18-(wrap64 (6*x6))))) 63):Int).toNat ((wrap64 ((Go.bits .and .i64 (shr .i64 x5 (wrap64 (18-(wrap64 (6*x6))))) 63)+1)):Int).toNat)) x4 x5 (wrap64 (x6+1)))else(none))else(none))else(none))else(none)))else(none)))else(dh.l0 k x0 x3 (wrap64 (x4+3)))
end
def dh.f(k:Nat)(a0:ByteArray):Option (ByteArray):=dh.l0 k a0 (⟨#[]⟩:ByteArray) 0
theorem dh.calls{k:Nat}{a0 r:ByteArray}{w:World}(h:dh.f k a0=some r):
  Calls Tryz.prog 163 #[.string a0] w fun e w'=>e= .returned (.string r)∧dS w w':=by
 unfold dh.f at h;have H:=h;clear h;have H':=ak H;clear H;go_enter func163,ntmps163;go_wp2;go_loopg [3,4] k (fun kq v3 v4 w'=>∃(fA:ByteArray) (cO:Int),v3= .string fA∧v4= .int .i64 cO∧ah (dh.l0 kq a0 fA cO=some r)∧ah (kq≤k)∧dS w w')
 case atStart=>exact⟨_,_,rs,rs,H',⟨Nat.le_refl _⟩,dn⟩
 case round=>
  clear H';obtain⟨fA,cO,rfl,rfl,HA,y5,⟨m1,rfl⟩⟩:=hrel
  cases gk with
  |zero=>exact zz HA.out
  |succ k1=>
   obtain⟨H⟩:=HA;simp only[dh.l0]at H;replace H:=sd H;rcases H with⟨sO,H⟩|⟨sO,H⟩
   ·replace H:=nO H;obtain⟨iY,H⟩:=H;have HC5:=ak H;clear H;obtain⟨p4,q4,hx4⟩:=bx a0 cO;go_upto_if 23 with(fail)
    go_cut [5] (fun v5 wc=>∃(kq:Nat) (ac3:Int),v5= .int .i64 ac3∧ah (dh.j1 kq a0 fA cO ac3=some r)∧ah (kq≤k1)∧dS w wc)
    case first=>
     have H:=HC5.out;clear HC5;replace H:=sp H;rcases H with⟨c6,H⟩|⟨c6,H⟩
     ·have nD:=decide_eq_true c6
      (try(have AQ:decide ((cO+1)<(a0.size:Int))=true:=decide_eq_true (by have h_:=c6;unfold wrap64 at h_;omega)));clear c6
      (first|rw[nD]|(simp only[ig,jO];rw[nD])|skip);obtain⟨ji7,VW⟩:∃j_:Int,(wrap64 (cO+1))=j_:=⟨_,rfl⟩
      replace H:(if 0≤(ji7)then(dh.j1 k1 a0 fA cO (wrap64 ((wrap64 ((wrap64 (bt a0 cO))*65536))+(wrap64 ((wrap64 (bt a0 (ji7)))*256)))))else(none))=some r:=by first|(rw[VW]at H;exact H)|(simp only[VW]at H⊢;exact H)
      (try rw[VW]at nD);have aAX:(IntKind.i64.wrap (cO+1))=ji7:=(ig _).trans VW;replace H:=nO H;obtain⟨rP,H⟩:=H;have H':=ak H;clear H;obtain⟨p9,q9,hx9⟩:=bx a0 (ji7);go_wp2;go_meet
      case rel=>exact⟨_,_,(by first|rfl|(simp;done)|(simp only[←VW]<;>(first|rfl|simp))|(simp[*];done)),H',⟨kl⟩,dn⟩
     ·have nD:=decide_eq_false c6
      (try(have AQ:decide ((cO+1)<(a0.size:Int))=false:=decide_eq_false (by have h_:=c6;unfold wrap64 at h_;omega)));clear c6
      (first|rw[nD]|(simp only[ig,jO];rw[nD])|skip);have H':=ak H;clear H;go_wp2;go_meet
      case rel=>exact⟨_,_,rs,H',⟨kl⟩,dn⟩
    case rest=>
     clear HC5;try clear sO
     try clear iY
     try clear p4
     try clear q4
     try clear hx4
     try clear p4
     try clear q4
     obtain⟨kq,ac3,rfl,HA,HJ4,⟨mc4,rfl⟩⟩:=hcut
     cases kq with
     |zero=>exact zz HA.out
     |succ kj4=>
      obtain⟨H⟩:=HA;simp only[dh.j1]at H;have azt:=ak H;clear H;go_upto_if 36 with(fail)
      go_cut [5] (fun v5 wc=>∃(kq:Nat) (NH:Int),v5= .int .i64 NH∧ah (dh.j2 kq a0 fA cO NH=some r)∧ah (kq≤kj4)∧dS w wc)
      case first=>
       have H:=azt.out;clear azt;replace H:=sp H;rcases H with⟨c11,H⟩|⟨c11,H⟩
       ·have uM:=decide_eq_true c11
        (try(have D7:decide ((cO+2)<(a0.size:Int))=true:=decide_eq_true (by have h_:=c11;unfold wrap64 at h_;omega)));clear c11
        (first|rw[uM]|(simp only[ig,jO];rw[uM])|skip);obtain⟨VY,KI⟩:∃j_:Int,(wrap64 (cO+2))=j_:=⟨_,rfl⟩
        replace H:(if 0≤(VY)then(dh.j2 kj4 a0 fA cO (wrap64 (ac3+(wrap64 (bt a0 (VY))))))else(none))=some r:=by first|(rw[KI]at H;exact H)|(simp only[KI]at H⊢;exact H)
        (try rw[KI]at uM);have awV:(IntKind.i64.wrap (cO+2))=VY:=(ig _).trans KI;replace H:=nO H;obtain⟨xY,H⟩:=H;have H':=ak H;clear H;obtain⟨p14,q14,awW⟩:=bx a0 (VY);go_wp2;go_meet
        case rel=>exact⟨_,_,(by first|rfl|(simp;done)|(simp only[←KI]<;>(first|rfl|simp))|(simp[*];done)),H',⟨kl⟩,dn⟩
       ·have uM:=decide_eq_false c11
        (try(have D7:decide ((cO+2)<(a0.size:Int))=false:=decide_eq_false (by have h_:=c11;unfold wrap64 at h_;omega)));clear c11
        (first|rw[uM]|(simp only[ig,jO];rw[uM])|skip);have H':=ak H;clear H;go_wp2;go_meet
        case rel=>exact⟨_,_,rs,H',⟨kl⟩,dn⟩
      case rest=>
       clear azt;try clear sO
       try clear iY
       try clear p4
       try clear q4
       try clear hx4
       try clear p4
       try clear q4
       obtain⟨kq,NH,rfl,HA,HJ9,⟨mc9,rfl⟩⟩:=hcut
       cases kq with
       |zero=>exact zz HA.out
       |succ kj9=>
        obtain⟨H⟩:=HA;simp only[dh.j2]at H;have H':=ak H;clear H;go_wp2;go_loopg [3,6] kj9 (fun kq v3 v6 w'=>∃(ZR:ByteArray) (YO:Int),v3= .string ZR∧v6= .int .i64 YO∧ah (dh.l1 kq a0 ZR cO NH YO=some r)∧ah (kq≤kj9)∧dS w w')
        case atStart=>exact⟨_,_,rs,rs,H',⟨Nat.le_refl _⟩,dn⟩
        case round=>
         clear H';try clear sO
         try clear iY
         try clear p4
         try clear q4
         try clear hx4
         try clear p4
         try clear q4
         obtain⟨ZR,YO,rfl,rfl,HA,HK4,⟨m4,rfl⟩⟩:=hrel
         cases gk with
         |zero=>exact zz HA.out
         |succ k4=>
          obtain⟨H⟩:=HA;simp only[dh.l1]at H;replace H:=sd H;rcases H with⟨uz,H⟩|⟨uz,H⟩
          ·replace H:=sp H;rcases H with⟨c16,H⟩|⟨c16,H⟩
           ·have ER:decide ((a0.size:Int)<(wrap64 (cO+YO)))=true:=decide_eq_true c16;replace H:=nn H;obtain⟨c17,H⟩:=H
            (try(have QT:decide ((a0.size:Int)<(cO+YO))=true:=decide_eq_true (by have h_:=c16;have h2_:=c17;unfold wrap64 at h_;omega)));clear c16;have wz:=eq_true c17;have Pg:=decide_eq_true c17;try have atz:(9223372036854775807<ZR.size+1)=False:=eq_false (Nat.not_lt.2 c17)
            have H':=ak H;clear H;go_wp2;go_roundg k4
            case measure=>exact kl
            case rel=>exact⟨_,_,rs,rs,H',⟨kl⟩,dn⟩
           ·have ER:decide ((a0.size:Int)<(wrap64 (cO+YO)))=false:=decide_eq_false c16
            (try(have QT:decide ((a0.size:Int)<(cO+YO))=false:=decide_eq_false (by have h_:=c16;unfold wrap64 at h_;omega)));clear c16;obtain⟨SI,aoo⟩:∃j_:Int,(wrap64 (18-(wrap64 (6*YO))))=j_:=⟨_,rfl⟩
            replace H:(if 0≤(SI)then((sK.f).bind fun Ql=>(if 0≤(Go.bits .and .i64 (shr .i64 NH (SI)) 63)then(if(Go.bits .and .i64 (shr .i64 NH (SI)) 63)≤(wrap64 ((Go.bits .and .i64 (shr .i64 NH (SI)) 63)+1))then(if(wrap64 ((Go.bits .and .i64 (shr .i64 NH (SI)) 63)+1))≤(Ql.size:Int)then(if ZR.size+(Ql.extract ((Go.bits .and .i64 (shr .i64 NH (SI)) 63):Int).toNat ((wrap64 ((Go.bits .and .i64 (shr .i64 NH (SI)) 63)+1)):Int).toNat).size≤9223372036854775807 then(dh.l1 k4 a0 (ZR++(Ql.extract ((Go.bits .and .i64 (shr .i64 NH (SI)) 63):Int).toNat ((wrap64 ((Go.bits .and .i64 (shr .i64 NH (SI)) 63)+1)):Int).toNat)) cO NH (wrap64 (YO+1)))else(none))else(none))else(none))else(none)))else(none))=some r:=by first|(rw[aoo]at H;exact H)|(simp only[aoo]at H⊢;exact H)
            have aNe:(IntKind.i64.wrap (18-(wrap64 (6*YO))))=SI:=(ig _).trans aoo;replace H:=AL H;obtain⟨ET,Jp,H⟩:=H;obtain⟨FB,Io⟩:∃j_:Int,(shr .i64 NH (SI))=j_:=⟨_,rfl⟩
            replace H:((sK.f).bind fun Ql=>(if 0≤(Go.bits .and .i64 (FB) 63)then(if(Go.bits .and .i64 (FB) 63)≤(wrap64 ((Go.bits .and .i64 (FB) 63)+1))then(if(wrap64 ((Go.bits .and .i64 (FB) 63)+1))≤(Ql.size:Int)then(if ZR.size+(Ql.extract ((Go.bits .and .i64 (FB) 63):Int).toNat ((wrap64 ((Go.bits .and .i64 (FB) 63)+1)):Int).toNat).size≤9223372036854775807 then(dh.l1 k4 a0 (ZR++(Ql.extract ((Go.bits .and .i64 (FB) 63):Int).toNat ((wrap64 ((Go.bits .and .i64 (FB) 63)+1)):Int).toNat)) cO NH (wrap64 (YO+1)))else(none))else(none))else(none))else(none)))=some r:=by first|(rw[Io]at H;exact H)|(simp only[Io]at H⊢;exact H)
            have aNf:(NH/2 ^ min (SI).toNat 64)=FB:=Io;have aNg:(SI)≤64→(NH/2 ^ (SI).toNat)=FB:=ajJ Io;replace H:=bd H;obtain⟨Ql,A21,H⟩:=H;replace H:=AL H;obtain⟨H9,Xm,H⟩:=H;replace H:=nn H;obtain⟨c23,H⟩:=H;have EP:=eq_true c23;have Vq:=decide_eq_true c23;replace H:=nn H;obtain⟨c24,H⟩:=H;have QU:=eq_true c24;have aht:=decide_eq_true c24;replace H:=nn H;obtain⟨c25,H⟩:=H;have F8:=eq_true c25;have adB:=decide_eq_true c25;try have aR2:(9223372036854775807<ZR.size+((Ql.extract ((Go.bits .and .i64 (FB) 63):Int).toNat ((wrap64 ((Go.bits .and .i64 (FB) 63)+1)):Int).toNat).size))=False:=by have h_:=c25;simp only[ByteArray.size_append,ByteArray.size_extract]at h_;refine eq_false ?_;simp only[decide_eq_true_eq]at*;omega
            try have aDH:(9223372036854775807<ZR.size+(Ql.extract ((Go.bits .and .i64 (FB) 63):Int).toNat ((wrap64 ((Go.bits .and .i64 (FB) 63)+1)):Int).toNat).size)=False:=eq_false (Nat.not_lt.2 c25)
            have H':=ak H;clear H;go_wp2_with (refine gA func165 (sK.calls Ql _ A21.out) ?_;intro nd)
            go_roundg k4
            case measure=>exact kl
            case rel=>exact⟨_,_,(by first|rfl|(simp;done)|(simp only[←Io]<;>(first|rfl|simp))|(simp[*];done)),rs,H',⟨kl⟩,dn⟩
          ·have H':=ak H;clear H;go_wp2;go_roundg k4
           case measure=>exact kl
           case rel=>exact⟨_,_,rs,rs,H',⟨kl⟩,dn⟩
   ·obtain rfl:=s1 H;go_wp2;go_ret;exact⟨rs,dn⟩
def nZ.f(k:Nat)(a0:ByteArray):Option (List ByteArray×Bool):=if(a0.size:Int)>300 then(some ((([]:List ByteArray)),false))else((dh.f k a0).bind fun t213=>((lU.f k t213 40).bind fun aHr=>(some (aHr,true))))
theorem nZ.calls{k:Nat}{a0:ByteArray}{r1:List ByteArray}{r2:Bool}{w:World}(h:nZ.f k a0=some (r1,r2)):
  Calls Tryz.prog 152 #[.string a0] w fun e w'=>∃nC:Value,e= .returned (.tuple #[nC, .bool r2])∧Kd.R Kd.string 9 w' w.heap.size (fun _=>True) nC r1∧Below w.heap.size w w':=by
 have HB:=ak (Below.refl w.heap.size w);unfold nZ.f at h;have H:=h;clear h;replace H:=sp H;rcases H with⟨c2,H⟩|⟨c2,H⟩
 ·have sO:decide (300<(a0.size:Int))=true:=decide_eq_true c2;have BK:decide (300<a0.size)=true:=decide_eq_true (by omega);clear c2;obtain⟨aXr,avt⟩:=nm ([]:List ByteArray);rw[←avt.out]at H;obtain⟨rfl,rfl⟩:=s2 H;go_enter func152,ntmps152;go_wp2_with (refine Fh 7 Kd.string 9 avt ?_;intro aXs w3 Vt hb;have aHs:=ak (au Vt (aj (ul HB.out)));replace HB:=bs HB hb;clear hb Vt)
  go_ret2;exact⟨_,er,ur aHs.out,ul HB.out⟩
 ·have sO:decide (300<(a0.size:Int))=false:=decide_eq_false c2;have BK:decide (300<a0.size)=false:=decide_eq_false (by omega);clear c2;replace H:=bd H;obtain⟨t213,A5,H⟩:=H;replace H:=bd H;obtain⟨aHr,A6,H⟩:=H;obtain⟨rfl,rfl⟩:=s2 H;go_enter func152,ntmps152;go_wp2_with (first|(refine gA func163 (dh.calls A5.out) ?_;intro nd)|(refine gV func162 (lU.calls A6.out) ?_;rintro aXt w7 ⟨ho0,hb⟩;have aHt:=ak (au ho0 (aj (ul HB.out)));replace HB:=bs HB hb;clear hb;(try clear ho0)))
  go_ret2;exact⟨_,er,ur aHt.out,ul HB.out⟩
def lH.l0:Nat→List ByteArray→Int→Int→Option (Int)
 |0,_,_,_=>none
 |k+1,x0,x3,x4=>if x4<(x0.length:Int)then(if 0≤x4 then(lH.l0 k x0 (wrap64 ((wrap64 (x3+((iw ByteArray.empty x0 x4).size:Int)))+1)) (wrap64 (x4+1)))else(none))else(some x3)
def lH.f(k:Nat)(l0:List ByteArray):Option (Int):=lH.l0 k l0 0 0
theorem lH.calls{k c0:Nat}{A0:Option Addr}{l0:List ByteArray}{r:Int}{w:World}(hr0:Kd.C Kd.string w A0 l0.length l0)(hc0:l0.length≤c0)(h:lH.f k l0=some r):
  Calls Tryz.prog 153 #[.slice A0 l0.length c0] w fun e w'=>e= .returned (.int .i64 r)∧dS w w':=by
 have HR0:=ak hr0;have uV:=ak hc0;clear hr0 hc0;unfold lH.f at h;have H:=h;clear h;have H':=ak H;clear H;go_enter func153,ntmps153;go_wp2;go_loopg [3,4] k (fun kq v3 v4 w'=>∃(fA:Int) (cO:Int),v3= .int .i64 fA∧v4= .int .i64 cO∧ah (lH.l0 kq l0 fA cO=some r)∧ah (kq≤k)∧dS w w')
 case atStart=>exact⟨_,_,rs,rs,H',⟨Nat.le_refl _⟩,dn⟩
 case round=>
  clear H';obtain⟨fA,cO,rfl,rfl,HA,y5,⟨m1,rfl⟩⟩:=hrel
  cases gk with
  |zero=>exact zz HA.out
  |succ k1=>
   obtain⟨H⟩:=HA;simp only[lH.l0]at H;replace H:=sd H;rcases H with⟨sO,H⟩|⟨sO,H⟩
   ·replace H:=nO H;obtain⟨iY,H⟩:=H;have H':=ak H;clear H;have azu:=zi cO;have azv:=zj cO l0.length;obtain⟨aR3,e217,aJP⟩:=bZ HR0.out cO azu azv;cases e217;replace azu:=eq_true azu;replace azv:=eq_true azv;go_wp2;go_roundg k1
    case measure=>exact kl
    case rel=>exact⟨_,_,rs,rs,H',⟨kl⟩,dn⟩
   ·obtain rfl:=s1 H;go_wp2;go_ret;exact⟨rs,dn⟩
def og.f(k:Nat)(a0:ByteArray):Option (Int×Bool):=if(a0.size:Int)>300 then(some (0,false))else((jC.f k a0).bind fun aHu=>(if aHu.2=true then(some (0,true))else((cZ.f k a0).bind fun aHv=>((nZ.f k a0).bind fun aHw=>((lH.f k aHv.1).bind fun aHx=>((lH.f k aHw.1).bind fun aHy=>(if aHx≤aHy then(some (1,true))else(some (2,true)))))))))
theorem og.calls{k:Nat}{a0:ByteArray}{r1:Int}{r2:Bool}{w:World}(h:og.f k a0=some (r1,r2)):
  Calls Tryz.prog 134 #[.string a0] w fun e w'=>e= .returned (.tuple #[.int .i64 r1, .bool r2])∧Below w.heap.size w w':=by
 have HB:=ak (Below.refl w.heap.size w);unfold og.f at h;have H:=h;clear h;replace H:=sp H;rcases H with⟨c2,H⟩|⟨c2,H⟩
 ·have sO:decide (300<(a0.size:Int))=true:=decide_eq_true c2;have BK:decide (300<a0.size)=true:=decide_eq_true (by omega);clear c2;obtain⟨rfl,rfl⟩:=s2 H;go_enter func134,ntmps134;go_wp2;go_ret2;exact⟨er,ul HB.out⟩
 ·have sO:decide (300<(a0.size:Int))=false:=decide_eq_false c2;have BK:decide (300<a0.size)=false:=decide_eq_false (by omega);clear c2;replace H:=bd H;obtain⟨⟨t218,aXu⟩,A3,H⟩:=H
  (try dsimp only at H);replace H:=sb H;rcases H with⟨rfl,H⟩|⟨rfl,H⟩
  ·obtain⟨rfl,rfl⟩:=s2 H;go_enter func134,ntmps134;go_wp2_with (refine gV func150 (jC.calls A3.out) ?_;rintro aHz w5 ⟨ho0,hb⟩;have Ir:=ak (au ho0 (aj (ul HB.out)));replace HB:=bs HB hb;clear hb;(try clear ho0))
   go_ret2;exact⟨er,ul HB.out⟩
  ·replace H:=bd H;obtain⟨⟨t222,aXv⟩,A6,H⟩:=H
   (try dsimp only at H);replace H:=bd H;obtain⟨⟨t226,t227⟩,A7,H⟩:=H
   (try dsimp only at H);replace H:=bd H;obtain⟨aHx,A8,H⟩:=H;replace H:=bd H;obtain⟨aHy,A9,H⟩:=H;replace H:=sd H;rcases H with⟨qg,H⟩|⟨qg,H⟩
   ·obtain⟨rfl,rfl⟩:=s2 H;go_enter func134,ntmps134;go_wp2_with (first|(refine gV func150 (jC.calls A3.out) ?_;rintro aHz ZH ⟨ho0,hb⟩;have Ir:=ak (au ho0 (aj (ul HB.out)));replace HB:=bs HB hb;clear hb;(try clear ho0))|(refine gV func151 (cZ.calls A6.out) ?_;rintro aNh w12 ⟨ho0,hb⟩;have Jy:=ak (au (dM ho0 (jl (ur Ir.out))) (aj (ul HB.out)));replace Ir:=ak (dH (ur Ir.out) (bK ho0) hb);replace HB:=bs HB hb;clear hb;(try clear ho0))|(refine gV func152 (nZ.calls A7.out) ?_;rintro v228 w13 ⟨ho0,hb⟩;have YP:=ak (au (dM (dM ho0 (jl (ur Ir.out))) (jl (ur Jy.out))) (aj (ul HB.out)));replace Ir:=ak (dH (ur Ir.out) (bK ho0) hb);replace Jy:=ak (dH (ur Jy.out) (bK ho0) hb);replace HB:=bs HB hb;clear hb;(try clear ho0);obtain⟨ae1,ae2,aa8⟩:=aC Jy.out;subst aa8)|(refine gA func153 (lH.calls (cu ((aA Jy.out).2.2)) ((aA Jy.out).2.1) A8.out) ?_;intro nd;obtain⟨PL,OT,QI⟩:=aC YP.out;subst QI)|(refine gA func153 (lH.calls (cu ((aA YP.out).2.2)) ((aA YP.out).2.1) A9.out) ?_;intro nd))
    go_ret2;exact⟨er,ul HB.out⟩
   ·obtain⟨rfl,rfl⟩:=s2 H;go_enter func134,ntmps134;go_wp2_with (first|(refine gV func150 (jC.calls A3.out) ?_;rintro aHz w16 ⟨ho0,hb⟩;have Ir:=ak (au ho0 (aj (ul HB.out)));replace HB:=bs HB hb;clear hb;(try clear ho0))|(refine gV func151 (cZ.calls A6.out) ?_;rintro aNh w17 ⟨ho0,hb⟩;have Jy:=ak (au (dM ho0 (jl (ur Ir.out))) (aj (ul HB.out)));replace Ir:=ak (dH (ur Ir.out) (bK ho0) hb);replace HB:=bs HB hb;clear hb;(try clear ho0))|(refine gV func152 (nZ.calls A7.out) ?_;rintro v228 w18 ⟨ho0,hb⟩;have YP:=ak (au (dM (dM ho0 (jl (ur Ir.out))) (jl (ur Jy.out))) (aj (ul HB.out)));replace Ir:=ak (dH (ur Ir.out) (bK ho0) hb);replace Jy:=ak (dH (ur Jy.out) (bK ho0) hb);replace HB:=bs HB hb;clear hb;(try clear ho0);obtain⟨aMB,aMC,ayR⟩:=aC Jy.out;subst ayR)|(refine gA func153 (lH.calls (cu ((aA Jy.out).2.2)) ((aA Jy.out).2.1) A8.out) ?_;intro nd;obtain⟨Hr,Fq,Us⟩:=aC YP.out;subst Us)|(refine gA func153 (lH.calls (cu ((aA YP.out).2.2)) ((aA YP.out).2.1) A9.out) ?_;intro nd))
    go_ret2;exact⟨er,ul HB.out⟩
def kY.f(k:Nat)(a0:ByteArray)(a1:Int):Option (List ByteArray×Bool):=if a1=0 then((jC.f k a0).bind fun avu=>(if avu.2=true then(some (avu.1,true))else(some ((([]:List ByteArray)),false))))else(if a1=1 then((cZ.f k a0).bind fun avv=>(some (avv.1,avv.2)))else(if a1=2 then((nZ.f k a0).bind fun avw=>(some (avw.1,avw.2)))else(some ((([]:List ByteArray)),false))))
theorem kY.calls{k:Nat}{a0:ByteArray}{a1:Int}{r1:List ByteArray}{r2:Bool}{w:World}(h:kY.f k a0 a1=some (r1,r2)):
  Calls Tryz.prog 135 #[.string a0, .int .i64 a1] w fun e w'=>∃nC:Value,e= .returned (.tuple #[nC, .bool r2])∧Kd.R Kd.string 9 w' w.heap.size (fun _=>True) nC r1∧Below w.heap.size w w':=by
 have HB:=ak (Below.refl w.heap.size w);unfold kY.f at h;have H:=h;clear h;replace H:=sq H;rcases H with⟨iY,zN,H⟩|⟨c3,iY,zN,H⟩
 ·replace H:=bd H;obtain⟨⟨t232,t233⟩,A4,H⟩:=H
  (try dsimp only at H);replace H:=sb H;rcases H with⟨rfl,H⟩|⟨rfl,H⟩
  ·obtain⟨rfl,rfl⟩:=s2 H;go_enter func135,ntmps135;go_wp2_with (refine gV func150 (jC.calls A4.out) ?_;rintro v234 w6 ⟨ho0,hb⟩;have ad3:=ak (au ho0 (aj (ul HB.out)));replace HB:=bs HB hb;clear hb;(try clear ho0))
   go_ret2;exact⟨_,er,ur ad3.out,ul HB.out⟩
  ·obtain⟨aXw,avx⟩:=nm ([]:List ByteArray);rw[←avx.out]at H;obtain⟨rfl,rfl⟩:=s2 H;go_enter func135,ntmps135;go_wp2_with (first|(refine gV func150 (jC.calls A4.out) ?_;rintro v234 w7 ⟨ho0,hb⟩;have ad3:=ak (au ho0 (aj (ul HB.out)));replace HB:=bs HB hb;clear hb;(try clear ho0))|(refine Fh 30 Kd.string 9 avx ?_;intro aXx w8 ho9 hb;have aHA:=ak (au (dM ho9 (jl (ur ad3.out))) (aj (ul HB.out)));replace ad3:=ak (dH (ur ad3.out) (bK ho9) hb);replace HB:=bs HB hb;clear hb ho9))
   go_ret2;exact⟨_,er,ur (aG aHA.out (fun _ hk=>trivial)),ul HB.out⟩
 ·replace H:=sq H;rcases H with⟨qg,uN,H⟩|⟨c10,qg,uN,H⟩
  ·replace H:=bd H;obtain⟨⟨aXy,aXz⟩,A11,H⟩:=H
   (try dsimp only at H);obtain⟨rfl,rfl⟩:=s2 H;go_enter func135,ntmps135;go_wp2_with (refine gV func151 (cZ.calls A11.out) ?_;rintro aXA w12 ⟨ho0,hb⟩;have aHB:=ak (au ho0 (aj (ul HB.out)));replace HB:=bs HB hb;clear hb;(try clear ho0))
   go_ret2;exact⟨_,er,ur aHB.out,ul HB.out⟩
  ·replace H:=sq H;rcases H with⟨xY,Dh,H⟩|⟨c13,xY,Dh,H⟩
   ·replace H:=bd H;obtain⟨⟨aXB,aXC⟩,A14,H⟩:=H
    (try dsimp only at H);obtain⟨rfl,rfl⟩:=s2 H;go_enter func135,ntmps135;go_wp2_with (refine gV func152 (nZ.calls A14.out) ?_;rintro aXD w15 ⟨ho0,hb⟩;have aHC:=ak (au ho0 (aj (ul HB.out)));replace HB:=bs HB hb;clear hb;(try clear ho0))
    go_ret2;exact⟨_,er,ur aHC.out,ul HB.out⟩
   ·obtain⟨aXE,avy⟩:=nm ([]:List ByteArray);rw[←avy.out]at H;obtain⟨rfl,rfl⟩:=s2 H;go_enter func135,ntmps135;go_wp2_with (refine Fh 30 Kd.string 9 avy ?_;intro aXF w16 aHD hb;have aHE:=ak (au aHD (aj (ul HB.out)));replace HB:=bs HB hb;clear hb aHD)
    go_ret2;exact⟨_,er,ur aHE.out,ul HB.out⟩
def iD.f(k:Nat)(a0:ByteArray)(a1:ByteArray):Option ((List (eG))×List ByteArray×(List (kE))×Bool):=(bM.f k a0).bind fun aop=>((og.f k a1).bind fun ad4=>((kY.f k a1 ad4.1).bind fun aoq=>(if aop.2=true then(if ad4.2=true then(if aoq.2=true then((jc.f k (⟨#[83,117,98,106,101,99,116]⟩:ByteArray) aop.1).bind fun aHF=>(if aHF=true then((jo.f k aoq.1).bind fun aHG=>(if aHG=true then((some (([(⟨#[55,98,105,116]⟩:ByteArray),(⟨#[113,117,111,116,101,100,45,112,114,105,110,116,97,98,108,101]⟩:ByteArray),(⟨#[98,97,115,101,54,52]⟩:ByteArray)]:List ByteArray):List ByteArray)).bind fun FC=>(if 0≤ad4.1 then(if ad4.1<(FC.length:Int)then(some ((([(⟨(⟨#[83,117,98,106,101,99,116]⟩:ByteArray),aop.1⟩:eG),(⟨(⟨#[67,111,110,116,101,110,116,45,84,121,112,101]⟩:ByteArray),(⟨#[116,101,120,116,47,112,108,97,105,110,59,32,99,104,97,114,115,101,116,61,117,116,102,45,56]⟩:ByteArray)⟩:eG),(⟨(⟨#[67,111,110,116,101,110,116,45,84,114,97,110,115,102,101,114,45,69,110,99,111,100,105,110,103]⟩:ByteArray),iw ByteArray.empty FC ad4.1⟩:eG)]:List (eG))),aoq.1,([]:List (kE)),true))else(none))else(none)))else(some (([]:List (eG)),([]:List ByteArray),([]:List (kE)),false))))else(some (([]:List (eG)),([]:List ByteArray),([]:List (kE)),false))))else(some (([]:List (eG)),([]:List ByteArray),([]:List (kE)),false)))else(some (([]:List (eG)),([]:List ByteArray),([]:List (kE)),false)))else(some (([]:List (eG)),([]:List ByteArray),([]:List (kE)),false)))))
def iD.T8:Bool×List (List Nat×List Nat):=(true,[([],[]),([],[]),([],[]),([],[]),([2,3],[2,3]),([4],[4]),([5],[5]),([0,1,6],[0,1,6]),([7],[7]),([],[]),([9,8,0,1,2,3,4,5,6,7,8,9],[8,9])])
def iD.B8:List Nat:=[0,0,0,0,12,28,60,127,255,0,1023]
theorem iD.aor:zM .any (opsOf Tryz.f107 8)=iD.T8:=by kernel_rfl
theorem iD.ad5:wF iD.T8.2 iD.B8=true:=by kernel_rfl
theorem iD.calls{k:Nat}{a0 a1:ByteArray}{r1:List (eG)}{r2:List ByteArray}{r3:List (kE)}{r4:Bool}{w:World}(h:iD.f k a0 a1=some (r1,r2,r3,r4)):
  Calls Tryz.prog 107 #[.string a0, .string a1] w fun e w'=>∃nC BR EN:Value,e= .returned (.tuple #[.agg #[nC,BR,EN], .bool r4])∧Kd.R o9 43 w' w.heap.size (fun _=>True) nC r1∧Kd.R Kd.string 9 w' w.heap.size (fun _=>True) BR r2∧Kd.R k27 27 w' w.heap.size (fun k_=>some k_≠(nC:Value).ownBlock∧some k_≠(BR:Value).ownBlock) EN r3∧Below w.heap.size w w':=by
 have Fg:=underlying27;have F7:=underlying43;have HB:=ak (Below.refl w.heap.size w);unfold iD.f at h;have H:=h;clear h;replace H:=bd H;obtain⟨⟨Az,aXG⟩,A3,H⟩:=H
 (try dsimp only at H);replace H:=bd H;obtain⟨⟨Jz,aXH⟩,A4,H⟩:=H
 (try dsimp only at H);replace H:=bd H;obtain⟨⟨UK,aXI⟩,A5,H⟩:=H
 (try dsimp only at H);replace H:=sb H;rcases H with⟨rfl,H⟩|⟨rfl,H⟩
 ·replace H:=sb H;rcases H with⟨rfl,H⟩|⟨rfl,H⟩
  ·replace H:=sb H;rcases H with⟨rfl,H⟩|⟨rfl,H⟩
   ·replace H:=bd H;obtain⟨aHF,A9,H⟩:=H;replace H:=sb H;rcases H with⟨rfl,H⟩|⟨rfl,H⟩
    ·replace H:=bd H;obtain⟨aHG,A11,H⟩:=H;replace H:=sb H;rcases H with⟨rfl,H⟩|⟨rfl,H⟩
     ·replace H:=ny H;obtain⟨FC,aHH,H⟩:=H;replace H:=nO H;obtain⟨xY,H⟩:=H;replace H:=nO H;obtain⟨uD,H⟩:=H;obtain⟨ZT,ad6⟩:=nm ([(⟨(⟨#[83,117,98,106,101,99,116]⟩:ByteArray),Az⟩:eG),(⟨(⟨#[67,111,110,116,101,110,116,45,84,121,112,101]⟩:ByteArray),(⟨#[116,101,120,116,47,112,108,97,105,110,59,32,99,104,97,114,115,101,116,61,117,116,102,45,56]⟩:ByteArray)⟩:eG),(⟨(⟨#[67,111,110,116,101,110,116,45,84,114,97,110,115,102,101,114,45,69,110,99,111,100,105,110,103]⟩:ByteArray),iw ByteArray.empty FC Jz⟩:eG)]:List (eG));rw[←ad6.out]at H;obtain⟨rfl,rfl,rfl,rfl⟩:=s4 H;go_enter func107,ntmps107;try go_wp2_with (first|(refine bX HB 4 #[.slice none 0 0, .slice none 0 0, .slice none 0 0] 27 ?_;intro CU w15 fO ad7 hb;replace HB:=bs HB hb;clear hb)|(refine gB func133 (bM.calls A3.out) ?_;intro w16 hb;replace fO:=kb fO hb;replace HB:=bz HB hb;clear hb)|(refine gB func134 (og.calls A4.out) ?_;intro w17 hb;replace fO:=kb fO hb;replace HB:=bz HB hb;clear hb)|(refine gV func135 (kY.calls A5.out) ?_;rintro aos w18 ⟨ho0,hb⟩;have mO:=ak (au ho0 (aj bb));replace fO:=kb fO hb;replace HB:=bz HB hb;clear hb;(try clear ho0))|(refine bY HB 12 #[.string (⟨#[]⟩:ByteArray), .string (⟨#[]⟩:ByteArray)] 43 ?_;intro rZ w19 lS ad8 hg hb;have wP:=yQ fO hg;have wQ:=yR fO hg;replace mO:=rb mO hb;replace fO:=kb fO hb;replace HB:=bz HB hb;clear hb hg;have aDn:=wQ.out;have aDo:=wP.out;have z21:=BM lS.out)|(go_at_call 88;refine mB (jc.calls A9.out) ?_;intro w22 hb;replace mO:=rg mO hb;replace fO:=kp fO #[.slice none 0 0, .slice none 0 0, .slice none 0 0] hb;replace lS:=kp lS #[.string (⟨#[83,117,98,106,101,99,116]⟩:ByteArray), .string Az] hb;replace HB:=bz HB hb;clear hb;obtain⟨wW,uQ,V6⟩:=aC mO.out;subst V6)|(go_at_call 58;refine mA (jo.calls (cu ((aA mO.out).2.2)) ((aA mO.out).2.1) A11.out) ?_;intro nd;(try(rw[PY w22];generalize hq_:World.drewN w22 _=w22;have Am:ah (Kd.R Kd.string 9 w22 w.heap.size (fun _=>True) (.slice wW UK.length uQ) UK):=⟨by rw[←hq_];exact(ur mO.out)⟩;have Ap:ah (w22.heap[CU]? =some (.cells #[.slice none 0 0, .slice none 0 0, .slice none 0 0] 27 (0,0))):=⟨by rw[←hq_];exact(ub fO.out)⟩;have BX:ah (w22.heap[rZ]? =some (.cells #[.string (⟨#[83,117,98,106,101,99,116]⟩:ByteArray), .string Az] 43 (0,0))):=⟨by rw[←hq_];exact(ub lS.out)⟩;have EO:ah (Below w.heap.size w w22):=⟨by rw[←hq_];exact bb⟩;clear mO fO lS HB hq_;have mO:=Am;have fO:=Ap;have lS:=BX;have HB:=EO;clear Am Ap BX EO)))|(refine Xx 54 Kd.string 9 [.string (⟨#[55,98,105,116]⟩:ByteArray), .string (⟨#[113,117,111,116,101,100,45,112,114,105,110,116,97,98,108,101]⟩:ByteArray), .string (⟨#[98,97,115,101,54,52]⟩:ByteArray)] aHH (dG.one (show Kd.M Kd.string _ _ _ (⟨#[55,98,105,116]⟩:ByteArray) [.string (⟨#[55,98,105,116]⟩:ByteArray)]from rfl) (dG.one (show Kd.M Kd.string _ _ _ (⟨#[113,117,111,116,101,100,45,112,114,105,110,116,97,98,108,101]⟩:ByteArray) [.string (⟨#[113,117,111,116,101,100,45,112,114,105,110,116,97,98,108,101]⟩:ByteArray)]from rfl) (dG.one (show Kd.M Kd.string _ _ _ (⟨#[98,97,115,101,54,52]⟩:ByteArray) [.string (⟨#[98,97,115,101,54,52]⟩:ByteArray)]from rfl) (dG.none _ _)))) ?_;intro aXJ w24 YQ hb;have vP:=ak (au (dM YQ (jl (ur mO.out))) (aj bb));replace mO:=ak (dH (ur mO.out) (bK YQ) hb);replace fO:=kb fO hb;replace lS:=ak (vG (g:=rZ) (o:= .cells #[.string (⟨#[83,117,98,106,101,99,116]⟩:ByteArray), .string Az] 43 (0,0)) (ub lS.out) hb);replace HB:=bz HB hb;clear hb YQ))
      replace mO:=ak (nI mO.out);replace vP:=ak (nI vP.out);replace fO:=ak (jI fO.out);replace lS:=ak (jI lS.out);replace HB:=ak (iE HB.out);obtain⟨al9,ZL,aju⟩:=aC vP.out
      (first|subst aju|(injection aju with tY Ad tZ;have Ae:=tY.symm;have Af:=tZ.symm;clear tY Ad tZ;subst Ae;subst Af));have azw:=zi Jz;have azx:=zj Jz FC.length;obtain⟨YR,aNi,aiw⟩:=bZ (aA vP.out).2.2 Jz azw azx;cases aNi;replace azw:=eq_true azw;replace azx:=eq_true azx;refine Eu (n:=11) (S:=fun w'=>w'.cell? ⟨rZ,0,none⟩=some (.string (⟨#[83,117,98,106,101,99,116]⟩:ByteArray))∧w'.cell? ⟨rZ,1,none⟩=some (.string Az)∧w'.cell? (YR.add (Jz).toNat)=some (.string (iw ByteArray.empty FC Jz))) (ds:=[]) #[false,false,false,false,false,false,false,false,false,false,false] (by kernel_rfl) rfl rfl ⟨(aH lS.out 0).trans rfl,(aH lS.out 1).trans rfl,aiw⟩ (fun hHeld=>?_);refine wG iD.aor iD.ad5 (fun Jk HW_=>?_)
      generalize w24.drew=w26 at mO vP fO lS HB aiw hHeld⊢
      refine pl 1 ?_;refine pl 2 ?_;refine pl 3 ?_;refine pl 4 ?_;refine tk 0 ?_;refine tk 5 ?_;refine pl 6 ?_;refine ag1 (σ:=Value×Nat) 1 #[true,true,true,true,true,true,true,true,true,true,false] (fun s_=>[(62,s_.1),(14, .pointer (some ⟨s_.2,0,none⟩)),(63, .agg #[s_.1, .slice none 0 0, .slice none 0 0])]) (fun s_ w'=>(w'.cell? ⟨rZ,0,none⟩=some (.string (⟨#[83,117,98,106,101,99,116]⟩:ByteArray))∧w'.cell? ⟨rZ,1,none⟩=some (.string Az)∧w'.cell? (YR.add (Jz).toNat)=some (.string (iw ByteArray.empty FC Jz)))∧(Kd.R Kd.string 9 w' w.heap.size (fun k_=>some k_≠(.slice (some YR) FC.length ZL:Value).ownBlock) (.slice wW UK.length uQ) UK)∧(Kd.R Kd.string 9 w' w.heap.size (fun k_=>some k_≠(.slice wW UK.length uQ:Value).ownBlock) (.slice (some YR) FC.length ZL) FC)∧(Kd.R o9 43 w' w.heap.size (fun k_=>k_≠rZ) s_.1 ZT)∧(w'.heap[CU]? =some (.cells #[.slice none 0 0, .slice none 0 0, .slice none 0 0] 27 (0,0)))∧(w'.heap[rZ]? =some (.cells #[.string (⟨#[83,117,98,106,101,99,116]⟩:ByteArray), .string Az] 43 (0,0)))∧(w'.heap[s_.2]? =some (.cells #[.slice none 0 0, .slice none 0 0, .slice none 0 0] 27 (0,0)))∧(w.heap.size≤s_.2)∧(w.heap.size≤s_.2)∧(CU≠s_.2)∧(s_.2≠CU)∧(rZ≠s_.2)∧(s_.2≠rZ)∧(Below w.heap.size w w')) ?_ ?_
      rotate_left
      ·intro SA;refine anS (i:=7) (j:=9) (Ni:=some 62) (Nj:=some 14) #[true,true,true,true,true,true,true,true,false,false,false] #[true,true,true,true,true,true,true,false,false,true,false] rfl rfl rfl rfl (YB Jk.out (by kernel_rfl)) (by decide) (by decide) (fun K hK=>?_) (fun K hK=>?_)
       ·skip
        refine uK o9 _ 43 ?hg (N:=62) ?hd (xs:=([(⟨(⟨#[83,117,98,106,101,99,116]⟩:ByteArray),Az⟩:eG),(⟨(⟨#[67,111,110,116,101,110,116,45,84,121,112,101]⟩:ByteArray),(⟨#[116,101,120,116,47,112,108,97,105,110,59,32,99,104,97,114,115,101,116,61,117,116,102,45,56]⟩:ByteArray)⟩:eG),(⟨(⟨#[67,111,110,116,101,110,116,45,84,114,97,110,115,102,101,114,45,69,110,99,111,100,105,110,103]⟩:ByteArray),iw ByteArray.empty FC Jz⟩:eG)]:List (eG))) (inner:=[.string (⟨#[83,117,98,106,101,99,116]⟩:ByteArray), .string Az, .string (⟨#[67,111,110,116,101,110,116,45,84,121,112,101]⟩:ByteArray), .string (⟨#[116,101,120,116,47,112,108,97,105,110,59,32,99,104,97,114,115,101,116,61,117,116,102,45,56]⟩:ByteArray), .string (⟨#[67,111,110,116,101,110,116,45,84,114,97,110,115,102,101,114,45,69,110,99,111,100,105,110,103]⟩:ByteArray), .string (iw ByteArray.empty FC Jz)]) (ok:=fun _=>True) (wH:=fun _=>True) ?hr ?hp (fun _ hk=>hk) trivial (Below.refl _ _) (Nat.le_refl _) (by simp) ?_;(case hd=>rfl);(case hg=>rfl);(case hr=>first|(go_simp;done)|(go_simp;rfl));(case hp=>exact(dG.c2 (show Kd.M o9 _ _ _ (⟨(⟨#[83,117,98,106,101,99,116]⟩:ByteArray),Az⟩:eG) [.string (⟨#[83,117,98,106,101,99,116]⟩:ByteArray), .string Az]from(wE _ _ _ (⟨(⟨#[83,117,98,106,101,99,116]⟩:ByteArray),Az⟩:eG))) (dG.c2 (show Kd.M o9 _ _ _ (⟨(⟨#[67,111,110,116,101,110,116,45,84,121,112,101]⟩:ByteArray),(⟨#[116,101,120,116,47,112,108,97,105,110,59,32,99,104,97,114,115,101,116,61,117,116,102,45,56]⟩:ByteArray)⟩:eG) [.string (⟨#[67,111,110,116,101,110,116,45,84,121,112,101]⟩:ByteArray), .string (⟨#[116,101,120,116,47,112,108,97,105,110,59,32,99,104,97,114,115,101,116,61,117,116,102,45,56]⟩:ByteArray)]from(wE _ _ _ (⟨(⟨#[67,111,110,116,101,110,116,45,84,121,112,101]⟩:ByteArray),(⟨#[116,101,120,116,47,112,108,97,105,110,59,32,99,104,97,114,115,101,116,61,117,116,102,45,56]⟩:ByteArray)⟩:eG))) (dG.c2 (show Kd.M o9 _ _ _ (⟨(⟨#[67,111,110,116,101,110,116,45,84,114,97,110,115,102,101,114,45,69,110,99,111,100,105,110,103]⟩:ByteArray),iw ByteArray.empty FC Jz⟩:eG) [.string (⟨#[67,111,110,116,101,110,116,45,84,114,97,110,115,102,101,114,45,69,110,99,111,100,105,110,103]⟩:ByteArray), .string (iw ByteArray.empty FC Jz)]from(wE _ _ _ (⟨(⟨#[67,111,110,116,101,110,116,45,84,114,97,110,115,102,101,114,45,69,110,99,111,100,105,110,103]⟩:ByteArray),iw ByteArray.empty FC Jz⟩:eG))) (dG.none _ _)))));intro azy w28 aot hb Bj vK;have agh:=(hb.cell (World.block_lt_of_cell? _ _ (hHeld.2.2))).trans (hHeld.2.2);clear Bj vK
        (first|rw[←ad6.out]at aot|(simp only[Int.reduceToNat]at aot;rw[←ad6.out]at aot));have SK:=ak (au (jH aot (g:=rZ) (o:= .cells #[.string (⟨#[83,117,98,106,101,99,116]⟩:ByteArray), .string Az] 43 (0,0)) (ub lS.out)) (aj bb));replace mO:=rb mO hb;replace vP:=rb vP hb;replace fO:=kb fO hb;replace lS:=ak (vG (g:=rZ) (o:= .cells #[.string (⟨#[83,117,98,106,101,99,116]⟩:ByteArray), .string Az] 43 (0,0)) (ub lS.out) hb);replace HB:=bz HB hb;clear hb aot;obtain⟨aqO,aqP,ads⟩:=aC SK.out
        (first|subst ads|(injection ads with tY Ad tZ;have Ae:=tY.symm;have Af:=tZ.symm;clear tY Ad tZ;subst Ae;subst Af));refine hK.out _ _ ⟨(aH lS.out 0).trans rfl,(aH lS.out 1).trans rfl,agh⟩ (fun hHeld=>?_);clear hK K;refine nrm ?_;refine pl 8 ?_;refine o1 9 (fun K hK=>?_);refine D6 ?hg (N:=14) ?hd (cs:=#[.slice none 0 0, .slice none 0 0, .slice none 0 0]) (t:=27) ?hr ?_;(case hd=>rfl);(case hg=>rfl);(case hr=>first|(go_simp;done)|(go_simp;rfl));intro uU hg w31 hbox hb;have agh:=(hb.cell (World.block_lt_of_cell? _ _ (hHeld.2.2))).trans (hHeld.2.2);have wZ:=ak (hbox);have aix:=ak ((by rw[hg];exact(aj bb):w.heap.size≤uU));have aiy:=ak ((by rw[hg];exact(aj bb):w.heap.size≤uU));have BG:=yQ fO hg;have BH:=yR fO hg;have sZ:=ak ((by rw[hg];exact Nat.ne_of_lt (yH (g:=rZ) (o:= .cells #[.string (⟨#[83,117,98,106,101,99,116]⟩:ByteArray), .string Az] 43 (0,0)) (ub lS.out)):rZ≠uU));have BI:=ak ((by rw[hg];exact Nat.ne_of_gt (yH (g:=rZ) (o:= .cells #[.string (⟨#[83,117,98,106,101,99,116]⟩:ByteArray), .string Az] 43 (0,0)) (ub lS.out)):uU≠rZ));replace mO:=rb mO hb;replace vP:=rb vP hb;replace SK:=rb SK hb;replace fO:=kb fO hb;replace lS:=ak (vG (g:=rZ) (o:= .cells #[.string (⟨#[83,117,98,106,101,99,116]⟩:ByteArray), .string Az] 43 (0,0)) (ub lS.out) hb);replace HB:=bz HB hb;clear hb hbox hg;refine hK.out _ _ ⟨(aH lS.out 0).trans rfl,(aH lS.out 1).trans rfl,agh⟩ (fun hHeld=>?_);clear hK K;refine nrm ?_;exact FX (by simp only[Ac,Act.put,yX,yY,l_c]<;>rfl) (SA (.slice aqO ZT.length aqP,uU) _ ⟨hHeld,(ur (aG mO.out (fun _ hk=>hk.2))),(ur (aG vP.out (fun _ hk=>hk.2))),(ur (aG SK.out (fun _ hk=>hk.2))),(ub fO.out),(ub lS.out),(ub wZ.out),aix.out,aiy.out,BG.out,BH.out,sZ.out,BI.out,bb⟩)
       ·skip
        refine D6 ?hg (N:=14) ?hd (cs:=#[.slice none 0 0, .slice none 0 0, .slice none 0 0]) (t:=27) ?hr ?_;(case hd=>rfl);(case hg=>rfl);(case hr=>first|(go_simp;done)|(go_simp;rfl));intro uU hg w28 hbox hb;have agh:=(hb.cell (World.block_lt_of_cell? _ _ (hHeld.2.2))).trans (hHeld.2.2);have wZ:=ak (hbox);have aix:=ak ((by rw[hg];exact(aj bb):w.heap.size≤uU));have aiy:=ak ((by rw[hg];exact(aj bb):w.heap.size≤uU));have BG:=yQ fO hg;have BH:=yR fO hg;have sZ:=ak ((by rw[hg];exact Nat.ne_of_lt (yH (g:=rZ) (o:= .cells #[.string (⟨#[83,117,98,106,101,99,116]⟩:ByteArray), .string Az] 43 (0,0)) (ub lS.out)):rZ≠uU));have BI:=ak ((by rw[hg];exact Nat.ne_of_gt (yH (g:=rZ) (o:= .cells #[.string (⟨#[83,117,98,106,101,99,116]⟩:ByteArray), .string Az] 43 (0,0)) (ub lS.out)):uU≠rZ));replace mO:=rb mO hb;replace vP:=rb vP hb;replace fO:=kb fO hb;replace lS:=ak (vG (g:=rZ) (o:= .cells #[.string (⟨#[83,117,98,106,101,99,116]⟩:ByteArray), .string Az] 43 (0,0)) (ub lS.out) hb);replace HB:=bz HB hb;clear hb hbox hg;refine hK.out _ _ ⟨(aH lS.out 0).trans rfl,(aH lS.out 1).trans rfl,agh⟩ (fun hHeld=>?_);clear hK K;refine nrm ?_;refine o1 7 (fun K hK=>?_);refine uK o9 _ 43 ?hg (N:=62) ?hd (xs:=([(⟨(⟨#[83,117,98,106,101,99,116]⟩:ByteArray),Az⟩:eG),(⟨(⟨#[67,111,110,116,101,110,116,45,84,121,112,101]⟩:ByteArray),(⟨#[116,101,120,116,47,112,108,97,105,110,59,32,99,104,97,114,115,101,116,61,117,116,102,45,56]⟩:ByteArray)⟩:eG),(⟨(⟨#[67,111,110,116,101,110,116,45,84,114,97,110,115,102,101,114,45,69,110,99,111,100,105,110,103]⟩:ByteArray),iw ByteArray.empty FC Jz⟩:eG)]:List (eG))) (inner:=[.string (⟨#[83,117,98,106,101,99,116]⟩:ByteArray), .string Az, .string (⟨#[67,111,110,116,101,110,116,45,84,121,112,101]⟩:ByteArray), .string (⟨#[116,101,120,116,47,112,108,97,105,110,59,32,99,104,97,114,115,101,116,61,117,116,102,45,56]⟩:ByteArray), .string (⟨#[67,111,110,116,101,110,116,45,84,114,97,110,115,102,101,114,45,69,110,99,111,100,105,110,103]⟩:ByteArray), .string (iw ByteArray.empty FC Jz)]) (ok:=fun _=>True) (wH:=fun _=>True) ?hr ?hp (fun _ hk=>hk) trivial (Below.refl _ _) (Nat.le_refl _) (by simp) ?_;(case hd=>rfl);(case hg=>rfl);(case hr=>first|(go_simp;done)|(go_simp;rfl));(case hp=>exact(dG.c2 (show Kd.M o9 _ _ _ (⟨(⟨#[83,117,98,106,101,99,116]⟩:ByteArray),Az⟩:eG) [.string (⟨#[83,117,98,106,101,99,116]⟩:ByteArray), .string Az]from(wE _ _ _ (⟨(⟨#[83,117,98,106,101,99,116]⟩:ByteArray),Az⟩:eG))) (dG.c2 (show Kd.M o9 _ _ _ (⟨(⟨#[67,111,110,116,101,110,116,45,84,121,112,101]⟩:ByteArray),(⟨#[116,101,120,116,47,112,108,97,105,110,59,32,99,104,97,114,115,101,116,61,117,116,102,45,56]⟩:ByteArray)⟩:eG) [.string (⟨#[67,111,110,116,101,110,116,45,84,121,112,101]⟩:ByteArray), .string (⟨#[116,101,120,116,47,112,108,97,105,110,59,32,99,104,97,114,115,101,116,61,117,116,102,45,56]⟩:ByteArray)]from(wE _ _ _ (⟨(⟨#[67,111,110,116,101,110,116,45,84,121,112,101]⟩:ByteArray),(⟨#[116,101,120,116,47,112,108,97,105,110,59,32,99,104,97,114,115,101,116,61,117,116,102,45,56]⟩:ByteArray)⟩:eG))) (dG.c2 (show Kd.M o9 _ _ _ (⟨(⟨#[67,111,110,116,101,110,116,45,84,114,97,110,115,102,101,114,45,69,110,99,111,100,105,110,103]⟩:ByteArray),iw ByteArray.empty FC Jz⟩:eG) [.string (⟨#[67,111,110,116,101,110,116,45,84,114,97,110,115,102,101,114,45,69,110,99,111,100,105,110,103]⟩:ByteArray), .string (iw ByteArray.empty FC Jz)]from(wE _ _ _ (⟨(⟨#[67,111,110,116,101,110,116,45,84,114,97,110,115,102,101,114,45,69,110,99,111,100,105,110,103]⟩:ByteArray),iw ByteArray.empty FC Jz⟩:eG))) (dG.none _ _)))));intro azy w29 ad9 hb Bj vK;have agh:=(hb.cell (World.block_lt_of_cell? _ _ (hHeld.2.2))).trans (hHeld.2.2);clear Bj vK
        (first|rw[←ad6.out]at ad9|(simp only[Int.reduceToNat]at ad9;rw[←ad6.out]at ad9));have SK:=ak (au (jH ad9 (g:=rZ) (o:= .cells #[.string (⟨#[83,117,98,106,101,99,116]⟩:ByteArray), .string Az] 43 (0,0)) (ub lS.out)) (aj bb));replace mO:=rb mO hb;replace vP:=rb vP hb;replace fO:=kb fO hb;replace lS:=ak (vG (g:=rZ) (o:= .cells #[.string (⟨#[83,117,98,106,101,99,116]⟩:ByteArray), .string Az] 43 (0,0)) (ub lS.out) hb);replace wZ:=kb wZ hb;replace HB:=bz HB hb;clear hb ad9;obtain⟨azz,azA,arT⟩:=aC SK.out
        (first|subst arT|(injection arT with tY Ad tZ;have Ae:=tY.symm;have Af:=tZ.symm;clear tY Ad tZ;subst Ae;subst Af));refine hK.out _ _ ⟨(aH lS.out 0).trans rfl,(aH lS.out 1).trans rfl,agh⟩ (fun hHeld=>?_);clear hK K;refine nrm ?_;refine pl 8 ?_;exact FX (by simp only[Ac,Act.put,yX,yY,l_c]<;>rfl) (SA (.slice azz ZT.length azA,uU) _ ⟨hHeld,(ur (aG mO.out (fun _ hk=>hk.2))),(ur (aG vP.out (fun _ hk=>hk.2))),(ur (aG SK.out (fun _ hk=>hk.2))),(ub fO.out),(ub lS.out),(ub wZ.out),aix.out,aiy.out,BG.out,BH.out,sZ.out,BI.out,bb⟩)
      rintro⟨azy,uU⟩ w32 ⟨hS_,h0_,h1_,h2_,h3_,h4_,h5_,h6_,h7_,h8_,h9_,aa_,ajm,azB⟩;have Am:ah (Kd.R Kd.string 9 w32 w.heap.size (fun k_=>some k_≠(.slice (some YR) FC.length ZL:Value).ownBlock) (.slice wW UK.length uQ) UK):=⟨h0_⟩
      have Ap:ah (Kd.R Kd.string 9 w32 w.heap.size (fun k_=>some k_≠(.slice wW UK.length uQ:Value).ownBlock) (.slice (some YR) FC.length ZL) FC):=⟨h1_⟩
      have BX:ah (Kd.R o9 43 w32 w.heap.size (fun k_=>k_≠rZ) azy ZT):=⟨h2_⟩
      have EO:ah (w32.heap[CU]? =some (.cells #[.slice none 0 0, .slice none 0 0, .slice none 0 0] 27 (0,0))):=⟨h3_⟩
      have Jl:ah (w32.heap[rZ]? =some (.cells #[.string (⟨#[83,117,98,106,101,99,116]⟩:ByteArray), .string Az] 43 (0,0))):=⟨h4_⟩
      have KF:ah (w32.heap[uU]? =some (.cells #[.slice none 0 0, .slice none 0 0, .slice none 0 0] 27 (0,0))):=⟨h5_⟩
      have LG:ah (w.heap.size≤uU):=⟨h6_⟩
      have Vk:ah (w.heap.size≤uU):=⟨h7_⟩
      have Xh:ah (CU≠uU):=⟨h8_⟩
      have n9_:ah (uU≠CU):=⟨h9_⟩
      have LH:ah (rZ≠uU):=⟨aa_⟩
      have akE:ah (uU≠rZ):=⟨ajm⟩
      have aHI:ah (Below w.heap.size w w32):=⟨azB⟩
      clear mO vP fO lS HB h0_ h1_ h2_ h3_ h4_ h5_ h6_ h7_ h8_ h9_ aa_ ajm azB;have mO:=Am;have vP:=Ap;have SK:=BX;have fO:=EO;have lS:=Jl;have wZ:=KF;have aix:=LG;have aiy:=Vk;have BG:=Xh;have BH:=n9_;have sZ:=LH;have BI:=akE;have HB:=aHI;clear Am Ap BX EO Jl KF LG Vk Xh n9_ LH akE aHI;have hHeld:w32.cell? ⟨rZ,0,none⟩=some (.string (⟨#[83,117,98,106,101,99,116]⟩:ByteArray))∧w32.cell? ⟨rZ,1,none⟩=some (.string Az)∧w32.cell? (YR.add (Jz).toNat)=some (.string (iw ByteArray.empty FC Jz)):=hS_;obtain⟨Ui,PS,Uj⟩:=aC SK.out
      (first|subst Uj|(injection Uj with tY Ad tZ;have Ae:=tY.symm;have Af:=tZ.symm;clear tY Ad tZ;subst Ae;subst Af));refine FX (a':=?_) ?_ ?_
      rotate_left
      ·simp only[Ac,Act.put,yX,yY,l_c];rfl
      refine o1 10 (fun K hK=>?_);have aXK:w32.cell? ⟨uU,0,none⟩=some (.slice none 0 0):=(aH wZ.out 0).trans rfl;have aR4:=eu wZ.out 0;have aJQ:=BG.out;have aJR:=sZ.out;have aJS:=BH.out;have aJT:=BI.out;have aXL:w32.cell? ⟨uU,1,none⟩=some (.slice none 0 0):=(aH wZ.out 1).trans rfl;have aR5:=eu wZ.out 1;have aJU:=BG.out;have aJV:=sZ.out;have aJW:=BH.out;have aJX:=BI.out;have aKn:w32.cell? ⟨uU,2,none⟩=some (.slice none 0 0):=(aH wZ.out 2).trans rfl;have aAy:=eu wZ.out 2;have aqr:=BG.out;have aqs:=sZ.out;have aqt:=BH.out;have aqu:=BI.out;refine F5 (w1:=?_) (by rfl) rfl ?_ ?_
      rotate_left
      ·go_simp;rfl
      refine hK.out _ _ ⟨((cell_far (p:=⟨uU,_,none⟩) sZ.out _).trans (((cell_far (p:=⟨uU,_,none⟩) sZ.out _).trans (((cell_far (p:=⟨uU,_,none⟩) sZ.out _).trans (hHeld.1)))))),((cell_far (p:=⟨uU,_,none⟩) sZ.out _).trans (((cell_far (p:=⟨uU,_,none⟩) sZ.out _).trans (((cell_far (p:=⟨uU,_,none⟩) sZ.out _).trans (hHeld.2.1)))))),((cell_far (p:=⟨uU,_,none⟩) (by first|exact zT (rM vP.out wZ.out (by decide))|(rw[add_block];exact zT (rM vP.out wZ.out (by decide)))|(show(Addr.add _ _).block≠_;rw[add_block];exact zT (rM vP.out wZ.out (by decide)))|(dsimp only;exact zT (rM vP.out wZ.out (by decide)))) _).trans (((cell_far (p:=⟨uU,_,none⟩) (by first|exact zT (rM vP.out wZ.out (by decide))|(rw[add_block];exact zT (rM vP.out wZ.out (by decide)))|(show(Addr.add _ _).block≠_;rw[add_block];exact zT (rM vP.out wZ.out (by decide)))|(dsimp only;exact zT (rM vP.out wZ.out (by decide)))) _).trans (((cell_far (p:=⟨uU,_,none⟩) (by first|exact zT (rM vP.out wZ.out (by decide))|(rw[add_block];exact zT (rM vP.out wZ.out (by decide)))|(show(Addr.add _ _).block≠_;rw[add_block];exact zT (rM vP.out wZ.out (by decide)))|(dsimp only;exact zT (rM vP.out wZ.out (by decide)))) _).trans (hHeld.2.2))))))⟩ (fun hHeld=>?_);clear hK K;refine KG (BZ Jk.out (by kernel_rfl)) ?_;have aAz:=BH.out;have aAA:=BG.out;have aAB:=BI.out;have aAC:=sZ.out;have z39:=iZ wZ.out;have z40:=iZ fO.out;have aR6:=iZ (CS (cs':=#[.slice Ui ZT.length PS, .slice wW UK.length uQ, .slice none 0 0]) (CS (cs':=#[.slice Ui ZT.length PS, .slice none 0 0, .slice none 0 0]) (CS (cs':=#[.slice Ui ZT.length PS, .slice none 0 0, .slice none 0 0]) (CS (cs':=#[.slice Ui ZT.length PS, .slice none 0 0, .slice none 0 0]) wZ.out 0 (.slice Ui ZT.length PS) rfl) 1 (.slice none 0 0) rfl) 2 (.slice none 0 0) rfl) 1 (.slice wW UK.length uQ) rfl);try go_wp2
      refine bodyPost_ret (fV rfl _ _ CU 27 #[.slice Ui ZT.length PS, .slice wW UK.length uQ, .slice none 0 0] (0,0) _ rfl bq underlying27 rfl (by kernel_rfl)) rfl ?_;exact⟨_,_,_,er,rr,rr,nx,bb⟩
     ·obtain⟨rfl,rfl,rfl,rfl⟩:=s4 H;go_enter func107,ntmps107;go_wp2_with (first|(refine bX HB 4 #[.slice none 0 0, .slice none 0 0, .slice none 0 0] 27 ?_;intro CU w41 fO ad7 hb;replace HB:=bs HB hb;clear hb)|(refine gB func133 (bM.calls A3.out) ?_;intro w42 hb;replace fO:=kb fO hb;replace HB:=bz HB hb;clear hb)|(refine gB func134 (og.calls A4.out) ?_;intro w43 hb;replace fO:=kb fO hb;replace HB:=bz HB hb;clear hb)|(refine gV func135 (kY.calls A5.out) ?_;rintro aos w44 ⟨ho0,hb⟩;have mO:=ak (au ho0 (aj bb));replace fO:=kb fO hb;replace HB:=bz HB hb;clear hb;(try clear ho0))|(refine bY HB 12 #[.string (⟨#[]⟩:ByteArray), .string (⟨#[]⟩:ByteArray)] 43 ?_;intro rZ w45 lS ad8 hg hb;have wP:=yQ fO hg;have wQ:=yR fO hg;replace mO:=rb mO hb;replace fO:=kb fO hb;replace HB:=bz HB hb;clear hb hg;have au1:=wQ.out;have au2:=wP.out;have z47:=BM lS.out)|(go_at_call 88;refine mB (jc.calls A9.out) ?_;intro ZC hb;replace mO:=rg mO hb;replace fO:=kp fO #[.slice none 0 0, .slice none 0 0, .slice none 0 0] hb;replace lS:=kp lS #[.string (⟨#[83,117,98,106,101,99,116]⟩:ByteArray), .string Az] hb;replace HB:=bz HB hb;clear hb;obtain⟨Fj,Fp,afg⟩:=aC mO.out;subst afg)|(go_at_call 58;refine mA (jo.calls (cu ((aA mO.out).2.2)) ((aA mO.out).2.1) A11.out) ?_;intro nd;(try(rw[PY ZC];generalize hq_:World.drewN ZC _=ZC;have Am:ah (Kd.R Kd.string 9 ZC w.heap.size (fun _=>True) (.slice Fj UK.length Fp) UK):=⟨by rw[←hq_];exact(ur mO.out)⟩;have Ap:ah (ZC.heap[CU]? =some (.cells #[.slice none 0 0, .slice none 0 0, .slice none 0 0] 27 (0,0))):=⟨by rw[←hq_];exact(ub fO.out)⟩;have BX:ah (ZC.heap[rZ]? =some (.cells #[.string (⟨#[83,117,98,106,101,99,116]⟩:ByteArray), .string Az] 43 (0,0))):=⟨by rw[←hq_];exact(ub lS.out)⟩;have EO:ah (Below w.heap.size w ZC):=⟨by rw[←hq_];exact bb⟩;clear mO fO lS HB hq_;have mO:=Am;have fO:=Ap;have lS:=BX;have HB:=EO;clear Am Ap BX EO));have z50:=iZ fO.out))
      refine bodyPost_ret (fV rfl _ _ CU 27 #[.slice none 0 0, .slice none 0 0, .slice none 0 0] (0,0) _ rfl bq underlying27 rfl (by kernel_rfl)) rfl ?_;exact⟨_,_,_,er,nx,nx,nx,bb⟩
    ·obtain⟨rfl,rfl,rfl,rfl⟩:=s4 H;go_enter func107,ntmps107;go_wp2_with (first|(refine bX HB 4 #[.slice none 0 0, .slice none 0 0, .slice none 0 0] 27 ?_;intro CU w51 fO ad7 hb;replace HB:=bs HB hb;clear hb)|(refine gB func133 (bM.calls A3.out) ?_;intro w52 hb;replace fO:=kb fO hb;replace HB:=bz HB hb;clear hb)|(refine gB func134 (og.calls A4.out) ?_;intro w53 hb;replace fO:=kb fO hb;replace HB:=bz HB hb;clear hb)|(refine gV func135 (kY.calls A5.out) ?_;rintro aos w54 ⟨ho0,hb⟩;have mO:=ak (au ho0 (aj bb));replace fO:=kb fO hb;replace HB:=bz HB hb;clear hb;(try clear ho0))|(refine bY HB 12 #[.string (⟨#[]⟩:ByteArray), .string (⟨#[]⟩:ByteArray)] 43 ?_;intro rZ w55 lS ad8 hg hb;have wP:=yQ fO hg;have wQ:=yR fO hg;replace mO:=rb mO hb;replace fO:=kb fO hb;replace HB:=bz HB hb;clear hb hg;have aCz:=wQ.out;have aCA:=wP.out;have z57:=BM lS.out)|(go_at_call 88;refine mB (jc.calls A9.out) ?_;intro w58 hb;replace mO:=rg mO hb;replace fO:=kp fO #[.slice none 0 0, .slice none 0 0, .slice none 0 0] hb;replace lS:=kp lS #[.string (⟨#[83,117,98,106,101,99,116]⟩:ByteArray), .string Az] hb;replace HB:=bz HB hb;clear hb;have z59:=iZ fO.out))
     refine bodyPost_ret (fV rfl _ _ CU 27 #[.slice none 0 0, .slice none 0 0, .slice none 0 0] (0,0) _ rfl bq underlying27 rfl (by kernel_rfl)) rfl ?_;exact⟨_,_,_,er,nx,nx,nx,bb⟩
   ·obtain⟨rfl,rfl,rfl,rfl⟩:=s4 H;go_enter func107,ntmps107;go_wp2_with (first|(refine bX HB 4 #[.slice none 0 0, .slice none 0 0, .slice none 0 0] 27 ?_;intro CU ZB fO ad7 hb;replace HB:=bs HB hb;clear hb)|(refine gB func133 (bM.calls A3.out) ?_;intro w61 hb;replace fO:=kb fO hb;replace HB:=bz HB hb;clear hb)|(refine gB func134 (og.calls A4.out) ?_;intro w62 hb;replace fO:=kb fO hb;replace HB:=bz HB hb;clear hb)|(refine gV func135 (kY.calls A5.out) ?_;rintro aos w63 ⟨ho0,hb⟩;have mO:=ak (au ho0 (aj bb));replace fO:=kb fO hb;replace HB:=bz HB hb;clear hb;(try clear ho0))|(refine bY HB 12 #[.string (⟨#[]⟩:ByteArray), .string (⟨#[]⟩:ByteArray)] 43 ?_;intro rZ w64 lS ad8 hg hb;have wP:=yQ fO hg;have wQ:=yR fO hg;replace mO:=rb mO hb;replace fO:=kb fO hb;replace HB:=bz HB hb;clear hb hg;have aF7:=wQ.out;have aF8:=wP.out;have z66:=BM lS.out;have z67:=iZ fO.out))
    refine bodyPost_ret (fV rfl _ _ CU 27 #[.slice none 0 0, .slice none 0 0, .slice none 0 0] (0,0) _ rfl bq underlying27 rfl (by kernel_rfl)) rfl ?_;exact⟨_,_,_,er,nx,nx,nx,bb⟩
  ·obtain⟨rfl,rfl,rfl,rfl⟩:=s4 H;go_enter func107,ntmps107;go_wp2_with (first|(refine bX HB 4 #[.slice none 0 0, .slice none 0 0, .slice none 0 0] 27 ?_;intro CU w68 fO ad7 hb;replace HB:=bs HB hb;clear hb)|(refine gB func133 (bM.calls A3.out) ?_;intro w69 hb;replace fO:=kb fO hb;replace HB:=bz HB hb;clear hb)|(refine gB func134 (og.calls A4.out) ?_;intro w70 hb;replace fO:=kb fO hb;replace HB:=bz HB hb;clear hb)|(refine gV func135 (kY.calls A5.out) ?_;rintro aos w71 ⟨ho0,hb⟩;have mO:=ak (au ho0 (aj bb));replace fO:=kb fO hb;replace HB:=bz HB hb;clear hb;(try clear ho0))|(refine bY HB 12 #[.string (⟨#[]⟩:ByteArray), .string (⟨#[]⟩:ByteArray)] 43 ?_;intro rZ w72 lS ad8 hg hb;have wP:=yQ fO hg;have wQ:=yR fO hg;replace mO:=rb mO hb;replace fO:=kb fO hb;replace HB:=bz HB hb;clear hb hg;have aR7:=wQ.out;have aR8:=wP.out;have z74:=BM lS.out;have z75:=iZ fO.out))
   refine bodyPost_ret (fV rfl _ _ CU 27 #[.slice none 0 0, .slice none 0 0, .slice none 0 0] (0,0) _ rfl bq underlying27 rfl (by kernel_rfl)) rfl ?_;exact⟨_,_,_,er,nx,nx,nx,bb⟩
 ·obtain⟨rfl,rfl,rfl,rfl⟩:=s4 H;go_enter func107,ntmps107;go_wp2_with (first|(refine bX HB 4 #[.slice none 0 0, .slice none 0 0, .slice none 0 0] 27 ?_;intro CU w76 fO ad7 hb;replace HB:=bs HB hb;clear hb)|(refine gB func133 (bM.calls A3.out) ?_;intro w77 hb;replace fO:=kb fO hb;replace HB:=bz HB hb;clear hb)|(refine gB func134 (og.calls A4.out) ?_;intro w78 hb;replace fO:=kb fO hb;replace HB:=bz HB hb;clear hb)|(refine gV func135 (kY.calls A5.out) ?_;rintro aos w79 ⟨ho0,hb⟩;have mO:=ak (au ho0 (aj bb));replace fO:=kb fO hb;replace HB:=bz HB hb;clear hb;(try clear ho0))|(refine bY HB 12 #[.string (⟨#[]⟩:ByteArray), .string (⟨#[]⟩:ByteArray)] 43 ?_;intro rZ w80 lS ad8 hg hb;have wP:=yQ fO hg;have wQ:=yR fO hg;replace mO:=rb mO hb;replace fO:=kb fO hb;replace HB:=bz HB hb;clear hb hg;have aHJ:=wQ.out;have aHK:=wP.out;have z82:=BM lS.out;have z83:=iZ fO.out))
  refine bodyPost_ret (fV rfl _ _ CU 27 #[.slice none 0 0, .slice none 0 0, .slice none 0 0] (0,0) _ rfl bq underlying27 rfl (by kernel_rfl)) rfl ?_;exact⟨_,_,_,er,nx,nx,nx,bb⟩
def wu.f(k:Nat)(a0:ByteArray)(a1:ByteArray):Option ((List (eG))×List ByteArray×(List (kE))×Bool):=(iD.f k a0 a1).bind fun aiz=>((iK.f k aiz.1 aiz.2.1 aiz.2.2.1).bind fun aou=>(some (aou.1,aou.2.1,aou.2.2,aiz.2.2.2)))
theorem wu.calls{k:Nat}{a0 a1:ByteArray}{r1:List (eG)}{r2:List ByteArray}{r3:List (kE)}{r4:Bool}{w:World}(h:wu.f k a0 a1=some (r1,r2,r3,r4)):
  Calls Tryz.prog 68 #[.string a0, .string a1] w fun e w'=>∃nC BR EN:Value,e= .returned (.tuple #[.agg #[nC,BR,EN], .bool r4])∧Kd.R o9 43 w' w.heap.size (fun _=>True) nC r1∧Kd.R Kd.string 9 w' w.heap.size (fun _=>True) BR r2∧Kd.R k27 27 w' w.heap.size (fun k_=>some k_≠(nC:Value).ownBlock∧some k_≠(BR:Value).ownBlock) EN r3∧Below w.heap.size w w':=by
 have Fg:=underlying27;have HB:=ak (Below.refl w.heap.size w);unfold wu.f at h;have H:=h;clear h;replace H:=bd H;obtain⟨⟨ad_,aea,agi,aXM⟩,A3,H⟩:=H
 (try dsimp only at H);replace H:=bd H;obtain⟨⟨aNj,aNk,aNl⟩,A4,H⟩:=H
 (try dsimp only at H);obtain⟨rfl,rfl,rfl,rfl⟩:=s4 H;go_enter func68,ntmps68;go_wp2_with (first|(refine bX HB 4 #[.slice none 0 0, .slice none 0 0, .slice none 0 0] 27 ?_;intro aiA w5 Pj aR9 hb;replace HB:=bs HB hb;clear hb)|(refine gL 107 11 func107 #[.string a0, .string a1] ?_;(with_reducible refine(iD.calls A3.out).mono ?_);rintro e w6 ⟨aXN,aXO,aXP,rfl,ho0,ho1,ho2,hb⟩;refine⟨_,rfl,?_⟩;have SL:=ak (au ho0 (aj bb));have SN:=ak (au ho1 (aj bb));have VI:=ak (au (jH ho2 (g:=aiA) (o:= .cells #[.slice none 0 0, .slice none 0 0, .slice none 0 0] 27 (0,0)) (ub Pj.out)) (aj bb));replace Pj:=kb Pj hb;replace HB:=bz HB hb;clear hb;(try clear ho0);(try clear ho1);(try clear ho2))|(refine bY HB 6 #[.slice none 0 0, .slice none 0 0, .slice none 0 0] 27 ?_;intro Gw w7 aov aR_ hg hb;have ajK:=yQ Pj hg;have ajL:=yR Pj hg;replace SL:=rb SL hb;replace SN:=rb SN hb;replace VI:=ak (jM (kL (ur VI.out) Gw (Nat.le_of_eq hg.symm)) hb);replace Pj:=kb Pj hb;replace HB:=bz HB hb;clear hb hg;obtain⟨Ao8,co8,eo8⟩:=aC SL.out;subst eo8;have aKf:=ajL.out;have aKg:=ajK.out;have z10:=iZ aov.out;obtain⟨Hu,Ey,XO⟩:=aC SN.out;subst XO;obtain⟨BU,Ak,Uf⟩:=aC VI.out;subst Uf)|(refine gL 26 15 func26 #[.agg #[.slice Ao8 ad_.length co8, .slice Hu aea.length Ey, .slice BU agi.length Ak]] ?_;(with_reducible refine(iK.calls ?dR ((aA SL.out).2.1) ?pq ((aA SN.out).2.1) ?xX ((aA VI.out).2.1) A4.out).mono ?_);(case dR=>refine(aA (e:=43) (base:=w.heap.size) (ok:=fun k_=>True) (n:=ad_.length) (c:=co8) ?_).2.2;exact(rh SL));(case pq=>refine(aA (e:=9) (base:=w.heap.size) (ok:=fun k_=>True) (n:=aea.length) (c:=Ey) ?_).2.2;exact(rh SN));(case xX=>refine(aA (e:=27) (base:=w.heap.size) (ok:=fun k_=>(((some k_≠(.slice Ao8 ad_.length co8:Value).ownBlock∧some k_≠(.slice Hu aea.length Ey:Value).ownBlock)∧k_≠aiA)∧k_≠Gw)) (n:=agi.length) (c:=Ak) ?_).2.2;exact(ur (aG (b_ (p:=⟨Gw,2,none⟩) (b_ (p:=⟨Gw,1,none⟩) (b_ (p:=⟨Gw,0,none⟩) (aG VI.out (fun k_ hk=>(⟨hk,hk.2⟩:_∧k_≠Gw))) (fun _ hk=>hk.2) (.slice Ao8 ad_.length co8)) (fun _ hk=>hk.2) (.slice Hu aea.length Ey)) (fun _ hk=>hk.2) (.slice BU agi.length Ak)) (fun _ h_=>h_.1))));rintro e w13 ⟨aXQ,aXR,aXS,rfl,ho0,ho1,ho2,hb⟩;refine⟨_,rfl,?_⟩;have aHL:=ak (au (dM ho0 (jl (rh SL))) (aj bb));have aHM:=ak (au (dM ho1 (jl (rh SN))) (aj bb));have aHN:=ak (au (jH (jH (dM (dM (dM ho2 (jl (rh SL))) (jl (rh SN))) (jl (ur (aG (b_ (p:=⟨Gw,2,none⟩) (b_ (p:=⟨Gw,1,none⟩) (b_ (p:=⟨Gw,0,none⟩) (aG VI.out (fun k_ hk=>(⟨hk,hk.2⟩:_∧k_≠Gw))) (fun _ hk=>hk.2) (.slice Ao8 ad_.length co8)) (fun _ hk=>hk.2) (.slice Hu aea.length Ey)) (fun _ hk=>hk.2) (.slice BU agi.length Ak)) (fun _ h_=>h_.1))))) (g:=aiA) (o:= .cells #[.slice none 0 0, .slice none 0 0, .slice none 0 0] 27 (0,0)) bq) (g:=Gw) (o:= .cells #[.slice Ao8 ad_.length co8, .slice Hu aea.length Ey, .slice BU agi.length Ak] 27 (0,0)) bq) (aj bb));replace SL:=ak (dH (rh SL) (bK ho0) hb);replace SN:=ak (dH (rh SN) (bK ho1) hb);replace VI:=ak (aG (oC (oC (oC (Vj (ur (aG (b_ (p:=⟨Gw,2,none⟩) (b_ (p:=⟨Gw,1,none⟩) (b_ (p:=⟨Gw,0,none⟩) (aG VI.out (fun k_ hk=>(⟨hk,hk.2⟩:_∧k_≠Gw))) (fun _ hk=>hk.2) (.slice Ao8 ad_.length co8)) (fun _ hk=>hk.2) (.slice Hu aea.length Ey)) (fun _ hk=>hk.2) (.slice BU agi.length Ak)) (fun _ h_=>h_.1))) hb) (bK ho0)) (bK ho1)) (bK ho2)) (fun _ h_=>h_.1));replace Pj:=kp Pj #[.slice none 0 0, .slice none 0 0, .slice none 0 0] hb;replace aov:=kp aov #[.slice Ao8 ad_.length co8, .slice Hu aea.length Ey, .slice BU agi.length Ak] hb;replace HB:=bz HB hb;clear hb;(try clear ho0);(try clear ho1);(try clear ho2);obtain⟨ae1,ae2,aa8⟩:=aC aHL.out;subst aa8;have z15:=iZ Pj.out;obtain⟨OW,LV,LW⟩:=aC aHM.out;subst LW;obtain⟨OU,LD,ac1⟩:=aC aHN.out;subst ac1))
 refine bodyPost_ret (fV rfl _ _ aiA 27 #[.slice ae1 aNj.length ae2, .slice OW aNk.length LV, .slice OU aNl.length LD] (0,0) _ rfl bq underlying27 rfl (by kernel_rfl)) rfl ?_;exact⟨_,_,_,er,rr,rr,rr,bb⟩
mutual
def jr.l0:Nat→ByteArray→Int→List Int→Int→Option (ByteArray×Int)
 |0,_,_,_,_=>none
 |k+1,x3,x4,x1000,rY=>if x4>0 then((fJ.f k x1000 rY (([(⟨#[104,101,108,108,111]⟩:ByteArray),(⟨#[32]⟩:ByteArray),(⟨#[61]⟩:ByteArray),(⟨#[10]⟩:ByteArray),(⟨#[255,0]⟩:ByteArray),(⟨#[99,97,102,195,169]⟩:ByteArray),(⟨#[97,32,108,111,110,103,101,114,32,114,111,119,32,111,102,32,119,111,114,100,115,32,116,104,97,116,32,105,115,32,98,114,111,107,101,110,32,104,101,114,101]⟩:ByteArray),(⟨#[120]⟩:ByteArray),(⟨#[46]⟩:ByteArray),(⟨#[9]⟩:ByteArray)]:List ByteArray))).bind fun aow=>(if x3.size+aow.1.size≤9223372036854775807 then(jr.l0 k (x3++aow.1) (wrap64 (x4-1)) x1000 aow.2)else(none)))else((bV.f k x1000 rY 40).bind fun aox=>(if aox.1=0 then(jr.l1 k x3 x1000 aox.2)else(some (x3,aox.2))))
def jr.l1:Nat→ByteArray→List Int→Int→Option (ByteArray×Int)
 |0,_,_,_=>none
 |k+1,x3,x1000,rY=>if(x3.size:Int)≤300 then(if x3.size+10≤9223372036854775807 then(jr.l1 k (x3++(⟨#[48,49,50,51,52,53,54,55,56,57]⟩:ByteArray)) x1000 rY)else(none))else(some (x3,rY))
end
def jr.f(k:Nat)(fP:List Int)(l7:Int):Option (ByteArray×Int):=(lW.f k fP l7 (([3,2,5,1,0,8]:List Int))).bind fun avz=>(jr.l0 k (⟨#[]⟩:ByteArray) avz.1 fP avz.2)
theorem jr.calls{k g:Nat}{fP:List Int}{l7 r2:Int}{r1:ByteArray}{w:World}(w0:World)(hI:bn w0 w g fP l7)(hB:Below w0.heap.size w0 w)(h:jr.f k fP l7=some (r1,r2)):
  Calls Tryz.prog 69 #[.pointer (some ⟨g,0,none⟩)] w fun e w'=>e= .returned (.string r1)∧bn w0 w' g fP r2∧Below w0.heap.size w0 w'∧aN w w' g none:=by
 have HI0:=ak hI;have HK:=ak (aN.refl w g none);have HL:=ak hB.size;clear hI;have HW0:=ak hB.size;have HB:=ak hB;clear hB;unfold jr.f at h;have H:=h;clear h;obtain⟨aNm,avA⟩:=nm ([3,2,5,1,0,8]:List Int);rw[←avA.out]at H;replace H:=bd H;obtain⟨⟨aXT,aXU⟩,A2,H⟩:=H
 (try dsimp only at H);have H':=ak H;clear H;go_enter func69,ntmps69;go_wp2_with (first|(refine Xx 6 (Kd.int .i64) 3 [.int .i64 3, .int .i64 2, .int .i64 5, .int .i64 1, .int .i64 0, .int .i64 8] avA (dG.one (show Kd.M (Kd.int .i64) _ _ _ 3 [.int .i64 3]from rfl) (dG.one (show Kd.M (Kd.int .i64) _ _ _ 2 [.int .i64 2]from rfl) (dG.one (show Kd.M (Kd.int .i64) _ _ _ 5 [.int .i64 5]from rfl) (dG.one (show Kd.M (Kd.int .i64) _ _ _ 1 [.int .i64 1]from rfl) (dG.one (show Kd.M (Kd.int .i64) _ _ _ 0 [.int .i64 0]from rfl) (dG.one (show Kd.M (Kd.int .i64) _ _ _ 8 [.int .i64 8]from rfl) (dG.none _ _))))))) ?_;intro aXV w3 Vt hb;have aau:=ak (au Vt (dW (w:=w) (g:=g) (row:=none) (kh HK.out)));replace HK:=ak (aN.trans (kh HK.out) (aN.of_below hb g none) (.inl rfl));replace HB:=ak (iM qy hb);replace HI0:=ak (bn.below qV hb);clear hb Vt;obtain⟨Ao5,co5,eo5⟩:=aC aau.out;subst eo5)|(refine gL 41 7 func41 #[.pointer (some ⟨g,0,none⟩), .slice Ao5 aNm.length co5] ?_;(with_reducible refine(lW.calls w0 ?dR ?jm (cu ((aA aau.out).2.2)) ((aA aau.out).2.1) (ql (bn.own_ne HI0.out aau.out (by decide))) A2.out).mono ?_);(case dR=>exact qV);(case jm=>exact qy);rintro e w6 ⟨rfl,hi,hb,hk⟩;refine⟨_,rfl,?_⟩;replace aau:=ki aau hk;replace HK:=kt HK hk;replace HB:=ak (hb);replace HI0:=ak (hi);clear hb;(try clear hk);(try clear hi)))
 go_loopg [3,4] k (fun kq v3 v4 w'=>∃(fA:ByteArray) (cO:Int) (CV:Int),v3= .string fA∧v4= .int .i64 cO∧ah (jr.l0 kq fA cO fP CV=some (r1,r2))∧ah (kq≤k)∧ah (bn w0 w' g fP CV)∧ah (aN w w' g none)∧ah (Below w0.heap.size w0 w'))
 case atStart=>exact⟨_,_,_,rs,rs,H',⟨Nat.le_refl _⟩,⟨qV⟩,⟨kh HK.out⟩,⟨qy⟩⟩
 case round=>
  clear H';obtain⟨fA,cO,CV,rfl,rfl,HA,y5,HI0,HK,HB⟩:=hrel
  cases gk with
  |zero=>exact zz HA.out
  |succ k1=>
   obtain⟨H⟩:=HA;simp only[jr.l0]at H;replace H:=sp H;rcases H with⟨c7,H⟩|⟨c7,H⟩
   ·have sQ:decide (0<cO)=true:=decide_eq_true c7;clear c7;obtain⟨aNn,avC⟩:=nm ([(⟨#[104,101,108,108,111]⟩:ByteArray),(⟨#[32]⟩:ByteArray),(⟨#[61]⟩:ByteArray),(⟨#[10]⟩:ByteArray),(⟨#[255,0]⟩:ByteArray),(⟨#[99,97,102,195,169]⟩:ByteArray),(⟨#[97,32,108,111,110,103,101,114,32,114,111,119,32,111,102,32,119,111,114,100,115,32,116,104,97,116,32,105,115,32,98,114,111,107,101,110,32,104,101,114,101]⟩:ByteArray),(⟨#[120]⟩:ByteArray),(⟨#[46]⟩:ByteArray),(⟨#[9]⟩:ByteArray)]:List ByteArray);rw[←avC.out]at H;replace H:=bd H;obtain⟨⟨aNo,aXW⟩,A8,H⟩:=H
    (try dsimp only at H);replace H:=nn H;obtain⟨c9,H⟩:=H;have xZ:=eq_true c9;have D_:=decide_eq_true c9;try have aBz:(9223372036854775807<fA.size+aNo.size)=False:=eq_false (Nat.not_lt.2 c9)
    have H':=ak H;clear H;go_wp2_with (first|(refine Xx 14 Kd.string 9 [.string (⟨#[104,101,108,108,111]⟩:ByteArray), .string (⟨#[32]⟩:ByteArray), .string (⟨#[61]⟩:ByteArray), .string (⟨#[10]⟩:ByteArray), .string (⟨#[255,0]⟩:ByteArray), .string (⟨#[99,97,102,195,169]⟩:ByteArray), .string (⟨#[97,32,108,111,110,103,101,114,32,114,111,119,32,111,102,32,119,111,114,100,115,32,116,104,97,116,32,105,115,32,98,114,111,107,101,110,32,104,101,114,101]⟩:ByteArray), .string (⟨#[120]⟩:ByteArray), .string (⟨#[46]⟩:ByteArray), .string (⟨#[9]⟩:ByteArray)] avC (dG.one (show Kd.M Kd.string _ _ _ (⟨#[104,101,108,108,111]⟩:ByteArray) [.string (⟨#[104,101,108,108,111]⟩:ByteArray)]from rfl) (dG.one (show Kd.M Kd.string _ _ _ (⟨#[32]⟩:ByteArray) [.string (⟨#[32]⟩:ByteArray)]from rfl) (dG.one (show Kd.M Kd.string _ _ _ (⟨#[61]⟩:ByteArray) [.string (⟨#[61]⟩:ByteArray)]from rfl) (dG.one (show Kd.M Kd.string _ _ _ (⟨#[10]⟩:ByteArray) [.string (⟨#[10]⟩:ByteArray)]from rfl) (dG.one (show Kd.M Kd.string _ _ _ (⟨#[255,0]⟩:ByteArray) [.string (⟨#[255,0]⟩:ByteArray)]from rfl) (dG.one (show Kd.M Kd.string _ _ _ (⟨#[99,97,102,195,169]⟩:ByteArray) [.string (⟨#[99,97,102,195,169]⟩:ByteArray)]from rfl) (dG.one (show Kd.M Kd.string _ _ _ (⟨#[97,32,108,111,110,103,101,114,32,114,111,119,32,111,102,32,119,111,114,100,115,32,116,104,97,116,32,105,115,32,98,114,111,107,101,110,32,104,101,114,101]⟩:ByteArray) [.string (⟨#[97,32,108,111,110,103,101,114,32,114,111,119,32,111,102,32,119,111,114,100,115,32,116,104,97,116,32,105,115,32,98,114,111,107,101,110,32,104,101,114,101]⟩:ByteArray)]from rfl) (dG.one (show Kd.M Kd.string _ _ _ (⟨#[120]⟩:ByteArray) [.string (⟨#[120]⟩:ByteArray)]from rfl) (dG.one (show Kd.M Kd.string _ _ _ (⟨#[46]⟩:ByteArray) [.string (⟨#[46]⟩:ByteArray)]from rfl) (dG.one (show Kd.M Kd.string _ _ _ (⟨#[9]⟩:ByteArray) [.string (⟨#[9]⟩:ByteArray)]from rfl) (dG.none _ _))))))))))) ?_;intro aXX w10 aHO hb;have aav:=ak (au aHO (dW (w:=w) (g:=g) (row:=none) (kh HK.out)));replace HK:=ak (aN.trans (kh HK.out) (aN.of_below hb g none) (.inl rfl));replace HB:=ak (iM qy hb);replace HI0:=ak (bn.below qV hb);clear hb aHO;obtain⟨BU,Ak,Uf⟩:=aC aav.out;subst Uf)|(refine gL 24 15 func24 #[.pointer (some ⟨g,0,none⟩), .slice BU aNn.length Ak] ?_;(with_reducible refine(fJ.calls w0 ?dR ?jm (cu ((aA aav.out).2.2)) ((aA aav.out).2.1) (ql (bn.own_ne HI0.out aav.out (by decide))) A8.out).mono ?_);(case dR=>exact qV);(case jm=>exact qy);rintro e w13 ⟨rfl,hi,hb,hk⟩;refine⟨_,rfl,?_⟩;replace aav:=ki aav hk;replace HK:=kt HK hk;replace HB:=ak (hb);replace HI0:=ak (hi);clear hb;(try clear hk);(try clear hi)))
    go_roundg k1
    case measure=>exact kl
    case rel=>exact⟨_,_,_,rs,rs,H',⟨kl⟩,⟨qV⟩,⟨kh HK.out⟩,⟨qy⟩⟩
   ·have sQ:decide (0<cO)=false:=decide_eq_false c7;clear c7;replace H:=bd H;obtain⟨⟨aXY,aHP⟩,A14,H⟩:=H
    (try dsimp only at H);replace H:=sq H;rcases H with⟨uz,D8,H⟩|⟨c15,uz,D8,H⟩
    ·have H':=ak H;clear H;go_wp2_with (refine gL 23 18 func23 #[.pointer (some ⟨g,0,none⟩), .int .i64 40] ?_;(with_reducible refine(bV.calls w0 ?dR ?jm A14.out).mono ?_);(case dR=>exact qV);(case jm=>exact qy);rintro e w16 ⟨rfl,hi,hb,hk⟩;refine⟨_,rfl,?_⟩;replace HK:=kt HK hk;replace HB:=ak (hb);replace HI0:=ak (hi);clear hb;(try clear hk);(try clear hi))
     go_loopg [3] k1 (fun kq v3 w'=>∃(nJ:ByteArray),v3= .string nJ∧ah (jr.l1 kq nJ fP aHP=some (r1,r2))∧ah (kq≤k1)∧ah (bn w0 w' g fP aHP)∧ah (aN w w' g none)∧ah (Below w0.heap.size w0 w'))
     case atStart=>exact⟨_,rs,H',⟨Nat.le_refl _⟩,⟨qV⟩,⟨kh HK.out⟩,⟨qy⟩⟩
     case round=>
      clear H';try clear c7
      try clear sQ
      try clear c15
      try clear uz
      try clear D8
      obtain⟨nJ,rfl,HA,HK2,HI0,HK,HB⟩:=hrel
      cases gk with
      |zero=>exact zz HA.out
      |succ k2=>
       obtain⟨H⟩:=HA;simp only[jr.l1]at H;replace H:=sp H;rcases H with⟨c17,H⟩|⟨c17,H⟩
       ·have wz:=decide_eq_true c17;have Pg:decide (nJ.size≤300)=true:=decide_eq_true (by omega);clear c17;replace H:=nn H;obtain⟨c18,H⟩:=H;have ES:=eq_true c18;have Xk:=decide_eq_true c18;try have atU:(9223372036854775807<nJ.size+10)=False:=eq_false (Nat.not_lt.2 c18)
        have H':=ak H;clear H;go_wp2;go_roundg k2
        case measure=>exact kl
        case rel=>exact⟨_,rs,H',⟨kl⟩,⟨qV⟩,⟨kh HK.out⟩,⟨qy⟩⟩
       ·have wz:=decide_eq_false c17;have Pg:decide (nJ.size≤300)=false:=decide_eq_false (by omega);clear c17;obtain⟨rfl,rfl⟩:=s2 H;go_wp2;go_ret;exact⟨er,qV,qy,kh HK.out⟩
    ·obtain⟨rfl,rfl⟩:=s2 H;go_wp2_with (refine gL 23 18 func23 #[.pointer (some ⟨g,0,none⟩), .int .i64 40] ?_;(with_reducible refine(bV.calls w0 ?dR ?jm A14.out).mono ?_);(case dR=>exact qV);(case jm=>exact qy);rintro e w19 ⟨rfl,hi,hb,hk⟩;refine⟨_,rfl,?_⟩;replace HK:=kt HK hk;replace HB:=ak (hb);replace HI0:=ak (hi);clear hb;(try clear hk);(try clear hi))
     go_ret;exact⟨er,qV,qy,kh HK.out⟩
def zG.f(k:Nat)(fP:List Int)(l7:Int):Option (ByteArray×ByteArray×Int):=(fJ.f k fP l7 (([(⟨#[84,111]⟩:ByteArray),(⟨#[70,114,111,109]⟩:ByteArray),(⟨#[83,117,98,106,101,99,116]⟩:ByteArray),(⟨#[88,45,89]⟩:ByteArray),(⟨#[82,101,99,101,105,118,101,100]⟩:ByteArray),(⟨#[116,111]⟩:ByteArray),(⟨#[68,97,116,101]⟩:ByteArray)]:List ByteArray))).bind fun aaw=>((fJ.f k fP aaw.2 (([(⟨#[]⟩:ByteArray),(⟨#[120]⟩:ByteArray),(⟨#[97,32,98]⟩:ByteArray),(⟨#[104,101,108,108,111,32,116,104,101,114,101,44,32,116,104,105,115,32,105,115,32,97,32,108,111,110,103,101,114,32,118,97,108,117,101,32,116,104,97,116,32,105,115,32,98,114,111,107,101,110]⟩:ByteArray),(⟨#[97,97,97,97,97,97,97,97,97,97,97,97,97,97,97,97,97,97,97,97,97,97,97,97,97,97,97,97,97,97,97,97,97,97,97,97,97,97,97,97,97,97,97,97,97,97,97,97,97,97,97,32,98]⟩:ByteArray),(⟨#[116,119,111,32,32,115,112,97,99,101,115,32,115,116,97,121,32,32,116,111,103,101,116,104,101,114,32,105,110,32,104,101,114,101,44,32,97,110,100,32,115,111,32,100,111,32,116,104,101,115,101,32,32,111,110,101,115]⟩:ByteArray),(⟨#[97,58,98]⟩:ByteArray),(⟨#[111,110,101,32,116,119,111,32,116,104,114,101,101,32,102,111,117,114,32,102,105,118,101,32,115,105,120,32,115,101,118,101,110,32,101,105,103,104,116,32,110,105,110,101,32,116,101,110,32,101,108,101,118,101,110]⟩:ByteArray)]:List ByteArray))).bind fun avD=>(some (aaw.1,avD.1,avD.2)))
theorem zG.calls{k g:Nat}{fP:List Int}{l7 r3:Int}{r1 r2:ByteArray}{w:World}(w0:World)(hI:bn w0 w g fP l7)(hB:Below w0.heap.size w0 w)(h:zG.f k fP l7=some (r1,r2,r3)):
  Calls Tryz.prog 108 #[.pointer (some ⟨g,0,none⟩)] w fun e w'=>e= .returned (.agg #[.string r1, .string r2])∧bn w0 w' g fP r3∧Below w0.heap.size w0 w'∧aN w w' g none:=by
 have F7:=underlying43;have HI0:=ak hI;have HK:=ak (aN.refl w g none);have HL:=ak hB.size;clear hI;have HW0:=ak hB.size;have HB:=ak hB;clear hB;unfold zG.f at h;have H:=h;clear h;obtain⟨aNp,avE⟩:=nm ([(⟨#[84,111]⟩:ByteArray),(⟨#[70,114,111,109]⟩:ByteArray),(⟨#[83,117,98,106,101,99,116]⟩:ByteArray),(⟨#[88,45,89]⟩:ByteArray),(⟨#[82,101,99,101,105,118,101,100]⟩:ByteArray),(⟨#[116,111]⟩:ByteArray),(⟨#[68,97,116,101]⟩:ByteArray)]:List ByteArray);rw[←avE.out]at H;replace H:=bd H;obtain⟨⟨aNq,aXZ⟩,A2,H⟩:=H
 (try dsimp only at H);obtain⟨aNr,avF⟩:=nm ([(⟨#[]⟩:ByteArray),(⟨#[120]⟩:ByteArray),(⟨#[97,32,98]⟩:ByteArray),(⟨#[104,101,108,108,111,32,116,104,101,114,101,44,32,116,104,105,115,32,105,115,32,97,32,108,111,110,103,101,114,32,118,97,108,117,101,32,116,104,97,116,32,105,115,32,98,114,111,107,101,110]⟩:ByteArray),(⟨#[97,97,97,97,97,97,97,97,97,97,97,97,97,97,97,97,97,97,97,97,97,97,97,97,97,97,97,97,97,97,97,97,97,97,97,97,97,97,97,97,97,97,97,97,97,97,97,97,97,97,97,32,98]⟩:ByteArray),(⟨#[116,119,111,32,32,115,112,97,99,101,115,32,115,116,97,121,32,32,116,111,103,101,116,104,101,114,32,105,110,32,104,101,114,101,44,32,97,110,100,32,115,111,32,100,111,32,116,104,101,115,101,32,32,111,110,101,115]⟩:ByteArray),(⟨#[97,58,98]⟩:ByteArray),(⟨#[111,110,101,32,116,119,111,32,116,104,114,101,101,32,102,111,117,114,32,102,105,118,101,32,115,105,120,32,115,101,118,101,110,32,101,105,103,104,116,32,110,105,110,101,32,116,101,110,32,101,108,101,118,101,110]⟩:ByteArray)]:List ByteArray);rw[←avF.out]at H;replace H:=bd H;obtain⟨⟨aNs,aX0⟩,A3,H⟩:=H
 (try dsimp only at H);obtain⟨rfl,rfl,rfl⟩:=s3 H;go_enter func108,ntmps108;go_wp2_with (first|(refine bS HI0 HK HB HW0 2 #[.string (⟨#[]⟩:ByteArray), .string (⟨#[]⟩:ByteArray)] 43 ?_;clear HI0 HK HB;intro aHQ w4 SQ aSa aSb arU ace hg hb HI0 HK HB;clear hb hg)|(refine Xx 4 Kd.string 9 [.string (⟨#[84,111]⟩:ByteArray), .string (⟨#[70,114,111,109]⟩:ByteArray), .string (⟨#[83,117,98,106,101,99,116]⟩:ByteArray), .string (⟨#[88,45,89]⟩:ByteArray), .string (⟨#[82,101,99,101,105,118,101,100]⟩:ByteArray), .string (⟨#[116,111]⟩:ByteArray), .string (⟨#[68,97,116,101]⟩:ByteArray)] avE (dG.one (show Kd.M Kd.string _ _ _ (⟨#[84,111]⟩:ByteArray) [.string (⟨#[84,111]⟩:ByteArray)]from rfl) (dG.one (show Kd.M Kd.string _ _ _ (⟨#[70,114,111,109]⟩:ByteArray) [.string (⟨#[70,114,111,109]⟩:ByteArray)]from rfl) (dG.one (show Kd.M Kd.string _ _ _ (⟨#[83,117,98,106,101,99,116]⟩:ByteArray) [.string (⟨#[83,117,98,106,101,99,116]⟩:ByteArray)]from rfl) (dG.one (show Kd.M Kd.string _ _ _ (⟨#[88,45,89]⟩:ByteArray) [.string (⟨#[88,45,89]⟩:ByteArray)]from rfl) (dG.one (show Kd.M Kd.string _ _ _ (⟨#[82,101,99,101,105,118,101,100]⟩:ByteArray) [.string (⟨#[82,101,99,101,105,118,101,100]⟩:ByteArray)]from rfl) (dG.one (show Kd.M Kd.string _ _ _ (⟨#[116,111]⟩:ByteArray) [.string (⟨#[116,111]⟩:ByteArray)]from rfl) (dG.one (show Kd.M Kd.string _ _ _ (⟨#[68,97,116,101]⟩:ByteArray) [.string (⟨#[68,97,116,101]⟩:ByteArray)]from rfl) (dG.none _ _)))))))) ?_;intro aX1 w5 WI hb;have NI:=ak (au WI (dW (w:=w) (g:=g) (row:=none) (kh HK.out)));replace SQ:=kb SQ hb;replace HK:=ak (aN.trans (kh HK.out) (aN.of_below hb g none) (.inl rfl));replace HB:=ak (iM qy hb);replace HI0:=ak (bn.below qV hb);clear hb WI;obtain⟨Ao7,co7,eo7⟩:=aC NI.out;subst eo7)|(refine gL 24 5 func24 #[.pointer (some ⟨g,0,none⟩), .slice Ao7 aNp.length co7] ?_;(with_reducible refine(fJ.calls w0 ?dR ?jm (cu ((aA NI.out).2.2)) ((aA NI.out).2.1) (ql (bn.own_ne HI0.out NI.out (by decide))) A2.out).mono ?_);(case dR=>exact qV);(case jm=>exact qy);rintro e w8 ⟨rfl,hi,hb,hk⟩;refine⟨_,rfl,?_⟩;replace SQ:=kc SQ hk ace;replace NI:=ki NI hk;replace HK:=kt HK hk;replace HB:=ak (hb);replace HI0:=ak (hi);clear hb;(try clear hk);(try clear hi))|(refine Xx 7 Kd.string 9 [.string (⟨#[]⟩:ByteArray), .string (⟨#[120]⟩:ByteArray), .string (⟨#[97,32,98]⟩:ByteArray), .string (⟨#[104,101,108,108,111,32,116,104,101,114,101,44,32,116,104,105,115,32,105,115,32,97,32,108,111,110,103,101,114,32,118,97,108,117,101,32,116,104,97,116,32,105,115,32,98,114,111,107,101,110]⟩:ByteArray), .string (⟨#[97,97,97,97,97,97,97,97,97,97,97,97,97,97,97,97,97,97,97,97,97,97,97,97,97,97,97,97,97,97,97,97,97,97,97,97,97,97,97,97,97,97,97,97,97,97,97,97,97,97,97,32,98]⟩:ByteArray), .string (⟨#[116,119,111,32,32,115,112,97,99,101,115,32,115,116,97,121,32,32,116,111,103,101,116,104,101,114,32,105,110,32,104,101,114,101,44,32,97,110,100,32,115,111,32,100,111,32,116,104,101,115,101,32,32,111,110,101,115]⟩:ByteArray), .string (⟨#[97,58,98]⟩:ByteArray), .string (⟨#[111,110,101,32,116,119,111,32,116,104,114,101,101,32,102,111,117,114,32,102,105,118,101,32,115,105,120,32,115,101,118,101,110,32,101,105,103,104,116,32,110,105,110,101,32,116,101,110,32,101,108,101,118,101,110]⟩:ByteArray)] avF (dG.one (show Kd.M Kd.string _ _ _ (⟨#[]⟩:ByteArray) [.string (⟨#[]⟩:ByteArray)]from rfl) (dG.one (show Kd.M Kd.string _ _ _ (⟨#[120]⟩:ByteArray) [.string (⟨#[120]⟩:ByteArray)]from rfl) (dG.one (show Kd.M Kd.string _ _ _ (⟨#[97,32,98]⟩:ByteArray) [.string (⟨#[97,32,98]⟩:ByteArray)]from rfl) (dG.one (show Kd.M Kd.string _ _ _ (⟨#[104,101,108,108,111,32,116,104,101,114,101,44,32,116,104,105,115,32,105,115,32,97,32,108,111,110,103,101,114,32,118,97,108,117,101,32,116,104,97,116,32,105,115,32,98,114,111,107,101,110]⟩:ByteArray) [.string (⟨#[104,101,108,108,111,32,116,104,101,114,101,44,32,116,104,105,115,32,105,115,32,97,32,108,111,110,103,101,114,32,118,97,108,117,101,32,116,104,97,116,32,105,115,32,98,114,111,107,101,110]⟩:ByteArray)]from rfl) (dG.one (show Kd.M Kd.string _ _ _ (⟨#[97,97,97,97,97,97,97,97,97,97,97,97,97,97,97,97,97,97,97,97,97,97,97,97,97,97,97,97,97,97,97,97,97,97,97,97,97,97,97,97,97,97,97,97,97,97,97,97,97,97,97,32,98]⟩:ByteArray) [.string (⟨#[97,97,97,97,97,97,97,97,97,97,97,97,97,97,97,97,97,97,97,97,97,97,97,97,97,97,97,97,97,97,97,97,97,97,97,97,97,97,97,97,97,97,97,97,97,97,97,97,97,97,97,32,98]⟩:ByteArray)]from rfl) (dG.one (show Kd.M Kd.string _ _ _ (⟨#[116,119,111,32,32,115,112,97,99,101,115,32,115,116,97,121,32,32,116,111,103,101,116,104,101,114,32,105,110,32,104,101,114,101,44,32,97,110,100,32,115,111,32,100,111,32,116,104,101,115,101,32,32,111,110,101,115]⟩:ByteArray) [.string (⟨#[116,119,111,32,32,115,112,97,99,101,115,32,115,116,97,121,32,32,116,111,103,101,116,104,101,114,32,105,110,32,104,101,114,101,44,32,97,110,100,32,115,111,32,100,111,32,116,104,101,115,101,32,32,111,110,101,115]⟩:ByteArray)]from rfl) (dG.one (show Kd.M Kd.string _ _ _ (⟨#[97,58,98]⟩:ByteArray) [.string (⟨#[97,58,98]⟩:ByteArray)]from rfl) (dG.one (show Kd.M Kd.string _ _ _ (⟨#[111,110,101,32,116,119,111,32,116,104,114,101,101,32,102,111,117,114,32,102,105,118,101,32,115,105,120,32,115,101,118,101,110,32,101,105,103,104,116,32,110,105,110,101,32,116,101,110,32,101,108,101,118,101,110]⟩:ByteArray) [.string (⟨#[111,110,101,32,116,119,111,32,116,104,114,101,101,32,102,111,117,114,32,102,105,118,101,32,115,105,120,32,115,101,118,101,110,32,101,105,103,104,116,32,110,105,110,101,32,116,101,110,32,101,108,101,118,101,110]⟩:ByteArray)]from rfl) (dG.none _ _))))))))) ?_;intro aX2 w9 OX hb;have aax:=ak (au (dM OX (jl (ur NI.out))) (dW (w:=w) (g:=g) (row:=none) (kh HK.out)));replace NI:=ak (dH (ur NI.out) (bK OX) hb);replace SQ:=kb SQ hb;replace HK:=ak (aN.trans (kh HK.out) (aN.of_below hb g none) (.inl rfl));replace HB:=ak (iM qy hb);replace HI0:=ak (bn.below qV hb);clear hb OX;obtain⟨Hu,Ey,XO⟩:=aC aax.out;subst XO)|(refine gL 24 8 func24 #[.pointer (some ⟨g,0,none⟩), .slice Hu aNr.length Ey] ?_;(with_reducible refine(fJ.calls w0 ?dR ?jm (cu ((aA aax.out).2.2)) ((aA aax.out).2.1) (ql (bn.own_ne HI0.out aax.out (by decide))) A3.out).mono ?_);(case dR=>exact qV);(case jm=>exact qy);rintro e w12 ⟨rfl,hi,hb,hk⟩;refine⟨_,rfl,?_⟩;replace SQ:=kc SQ hk ace;replace NI:=ki NI hk;replace aax:=ki aax hk;replace HK:=kt HK hk;replace HB:=ak (hb);replace HI0:=ak (hi);clear hb;(try clear hk);(try clear hi);have asM:=ace.out;have asN:=arU.out;have z14:=BM SQ.out))
 refine bodyPost_ret (results_cell_row rfl _ _ aHQ 43 #[.string aNq, .string aNs] (0,0) _ rfl bq underlying43 rfl (by kernel_rfl)) rfl ?_;exact⟨er,qV,qy,kh HK.out⟩
def nU.l0:Nat→List (eG)→Int→List Int→Int→Option ((List (eG))×Int)
 |0,_,_,_,_=>none
 |k+1,x3,x4,x1000,rY=>if x4>0 then((zG.f k x1000 rY).bind fun SS=>(if x3.length<4398046511104 then(nU.l0 k (x3++[(⟨SS.1,SS.2.1⟩:eG)]) (wrap64 (x4-1)) x1000 SS.2.2)else(none)))else(some (x3,rY))
def nU.f(k:Nat)(fP:List Int)(l7:Int):Option ((List (eG))×Int):=(lW.f k fP l7 (([2,3,1,0,4]:List Int))).bind fun avG=>(nU.l0 k (([]:List (eG))) avG.1 fP avG.2)
theorem nU.calls{k g:Nat}{fP:List Int}{l7 r2:Int}{r1:List (eG)}{w:World}(w0:World)(hI:bn w0 w g fP l7)(hB:Below w0.heap.size w0 w)(h:nU.f k fP l7=some (r1,r2)):
  Calls Tryz.prog 70 #[.pointer (some ⟨g,0,none⟩)] w fun e w'=>∃nC:Value,e= .returned (nC)∧Kd.R o9 43 w' w.heap.size (fun _=>True) nC r1∧bn w0 w' g fP r2∧Below w0.heap.size w0 w'∧aN w w' g none:=by
 have HI0:=ak hI;have HK:=ak (aN.refl w g none);have HL:=ak hB.size;clear hI;have HW0:=ak hB.size;have HB:=ak hB;clear hB;unfold nU.f at h;have H:=h;clear h;obtain⟨aX3,avH⟩:=nm ([]:List (eG));rw[←avH.out]at H;obtain⟨aNt,avI⟩:=nm ([2,3,1,0,4]:List Int);rw[←avI.out]at H;replace H:=bd H;obtain⟨⟨aX4,aHR⟩,A2,H⟩:=H
 (try dsimp only at H);have H':=ak H;clear H;go_enter func70,ntmps70;go_wp2_with (first|(refine Fh 5 o9 43 avH ?_;intro aX5 w3 Vt hb;have aeb:=ak (au Vt (dW (w:=w) (g:=g) (row:=none) (kh HK.out)));replace HK:=ak (aN.trans (kh HK.out) (aN.of_below hb g none) (.inl rfl));replace HB:=ak (iM qy hb);replace HI0:=ak (bn.below qV hb);clear hb Vt)|(refine Xx 7 (Kd.int .i64) 3 [.int .i64 2, .int .i64 3, .int .i64 1, .int .i64 0, .int .i64 4] avI (dG.one (show Kd.M (Kd.int .i64) _ _ _ 2 [.int .i64 2]from rfl) (dG.one (show Kd.M (Kd.int .i64) _ _ _ 3 [.int .i64 3]from rfl) (dG.one (show Kd.M (Kd.int .i64) _ _ _ 1 [.int .i64 1]from rfl) (dG.one (show Kd.M (Kd.int .i64) _ _ _ 0 [.int .i64 0]from rfl) (dG.one (show Kd.M (Kd.int .i64) _ _ _ 4 [.int .i64 4]from rfl) (dG.none _ _)))))) ?_;intro aX6 w5 WI hb;have aay:=ak (au WI (dW (w:=w) (g:=g) (row:=none) (kh HK.out)));replace aeb:=rb aeb hb;replace HK:=ak (aN.trans (kh HK.out) (aN.of_below hb g none) (.inl rfl));replace HB:=ak (iM qy hb);replace HI0:=ak (bn.below qV hb);clear hb WI;obtain⟨Ao7,co7,eo7⟩:=aC aay.out;subst eo7)|(refine gL 41 8 func41 #[.pointer (some ⟨g,0,none⟩), .slice Ao7 aNt.length co7] ?_;(with_reducible refine(lW.calls w0 ?dR ?jm (cu ((aA aay.out).2.2)) ((aA aay.out).2.1) (ql (bn.own_ne HI0.out aay.out (by decide))) A2.out).mono ?_);(case dR=>exact qV);(case jm=>exact qy);rintro e w8 ⟨rfl,hi,hb,hk⟩;refine⟨_,rfl,?_⟩;replace aeb:=ki aeb hk;replace aay:=ki aay hk;replace HK:=kt HK hk;replace HB:=ak (hb);replace HI0:=ak (hi);clear hb;(try clear hk);(try clear hi)))
 go_loopg [3,4] k (fun kq v3 v4 w'=>∃(fA:List (eG)) (cO:Int) (CV:Int),v4= .int .i64 cO∧ah (nU.l0 kq fA cO fP CV=some (r1,r2))∧ah (kq≤k)∧ah (Kd.R o9 43 w' w.heap.size (fun _=>True) v3 fA)∧ah (bn w0 w' g fP CV)∧ah (aN w w' g none)∧ah (Below w0.heap.size w0 w'))
 case atStart=>exact⟨_,_,_,rs,H',⟨Nat.le_refl _⟩,⟨ur aeb.out⟩,⟨qV⟩,⟨kh HK.out⟩,⟨qy⟩⟩
 case round=>
  clear H';obtain⟨fA,cO,CV,rfl,HA,y5,pX,HI0,HK,HB⟩:=hrel
  cases gk with
  |zero=>exact zz HA.out
  |succ k1=>
   obtain⟨H⟩:=HA;simp only[nU.l0]at H;replace H:=sp H;rcases H with⟨c9,H⟩|⟨c9,H⟩
   ·have xZ:decide (0<cO)=true:=decide_eq_true c9;clear c9;replace H:=bd H;obtain⟨⟨arV,arW,aX7⟩,A10,H⟩:=H
    (try dsimp only at H);replace H:=nl H;obtain⟨Xu,H⟩:=H;obtain⟨aX8,avJ⟩:=nm (fA++[(⟨arV,arW⟩:eG)]);rw[←avJ.out]at H;have H':=ak H;clear H;go_wp2_with (first|(refine gL 108 15 func108 #[.pointer (some ⟨g,0,none⟩)] ?_;(with_reducible refine(zG.calls w0 ?dR ?jm A10.out).mono ?_);(case dR=>exact qV);(case jm=>exact qy);rintro e w12 ⟨rfl,hi,hb,hk⟩;refine⟨_,rfl,?_⟩;replace pX:=ki pX hk;replace HK:=kt HK hk;replace HB:=ak (hb);replace HI0:=ak (hi);clear hb;(try clear hk);(try clear hi))|((with_reducible refine bP (b:= .append) (xs:=#[.tmp 13, .tmp 16]) rfl ?_);at_builtin;refine nP o9 w.heap.size rfl (.tmp 13) (.tmp 16) 23 43 (.agg #[(.string ⟨#[]⟩),(.string ⟨#[]⟩)]) 32 rfl underlying23 Dn rfl (by decide) (by omega) u3 fA (⟨arV,arW⟩:eG) [.string arV, .string arW] (fun _=>True) (fun _=>False) rfl rfl ?aP (fun _ hk=>hk.elim) ?aF ?aO (Below.refl _ _) ?aS ?aL ?_;(case aP=>exact wE _ _ _ (⟨arV,arW⟩:eG));(case aF=>exact(fun _ _=>trivial));(case aO=>exact(ur pX.out));(case aS=>exact(dW (w:=w) (g:=g) (row:=none) (kh HK.out)));(case aL=>have:=Xu.out;omega);intro aX9 w13 ho hb hg hat;rw[←avJ.out]at ho;have aHS:=ak (ho);replace HB:=ak (zU qy HL.out hb);replace HI0:=ak (bn.grown qV hg (bn.own_ne HI0.out pX.out (by decide)));replace HK:=ak (aN.trans (kh HK.out) (aN.Em hg g) (OC pX.out));clear ho hb hg hat pX))
    go_roundg k1
    case measure=>exact kl
    case rel=>exact⟨_,_,_,rs,H',⟨kl⟩,⟨ur aHS.out⟩,⟨qV⟩,⟨kh HK.out⟩,⟨qy⟩⟩
   ·have xZ:decide (0<cO)=false:=decide_eq_false c9;clear c9;obtain⟨rfl,rfl⟩:=s2 H;go_wp2;go_ret;exact⟨_,er,ur pX.out,qV,qy,kh HK.out⟩
end Go.Proofs.YtdkipechiaploaaGreatDoor.PFnPartText
