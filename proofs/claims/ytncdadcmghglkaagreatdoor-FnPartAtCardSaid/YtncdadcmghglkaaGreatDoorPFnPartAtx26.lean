/- Printed walks; conditions: those in each statement. -/
import Derived.Test.YtncdadcmghglkaaGreatDoorVFnPartAtQt
import Derived.Test.YtncdadcmghglkaaGreatDoorVFnPartAtYt
import Derived.Test.YtncdadcmghglkaaGreatDoorPFnPartAtx0
import Derived.Test.YtncdadcmghglkaaGreatDoorPFnPartAtx13
import Derived.Test.YtncdadcmghglkaaGreatDoorPFnPartAtx25
-- short
-- dense
-- sq
-- sq2
namespace Go.Proofs.YtncdadcmghglkaaGreatDoor.PFnPartAt
open Go.RowKit Go.Proofs.YtncdadcmghglkaaGreatDoor.X Go.Proofs.YtncdadcmghglkaaGreatDoorW.bQ Go.Proofs.YtncdadcmghglkaaGreatDoorW.jm Go.Proofs.YtncdadcmghglkaaGreatDoorW.kD
attribute [local go_sem] pV pW sK sN nI nJ pX pY   -- for this text's walks alone
set_option linter.unusedVariables false
set_option maxHeartbeats 8000000
set_option maxRecDepth 100000
set_option linter.unusedSimpArgs false
def zL.f (a0:Int):Option (ByteArray):=if a0=32 then(some (⟨#[95]⟩:ByteArray))else((iC.f a0).bind fun azl=>(if azl=true then(some (strOfNums (([a0]:List Int))))else(if a0=45 then(some (strOfNums (([a0]:List Int))))else(if a0=46 then(some (strOfNums (([a0]:List Int))))else((mY.f a0).bind fun azm=>(some azm))))))
theorem zL.calls {a0:Int} {r:ByteArray} {w:World} (h:zL.f a0=some r):
  Calls Tryz.prog 216 #[.int .u8 a0] w fun e w'=>e= .returned (.string r)∧Below w.heap.size w w':=by
 have HB:=ak (Below.refl w.heap.size w);unfold zL.f at h;have H:=h;clear h;replace H:=sq H;rcases H with⟨qJ,yR,H⟩|⟨c2,qJ,yR,H⟩
 ·obtain rfl:=s1 H;go_enter Tryz.func216,Tryz.ntmps216;go_wp2;go_ret;exact⟨er,ul HB.out⟩
 ·replace H:=bd H;obtain⟨azl,A3,H⟩:=H;replace H:=sb H;rcases H with⟨rfl,H⟩|⟨rfl,H⟩
  ·obtain⟨aM7,apV⟩:=nm ([a0]:List Int);rw[←apV.out]at H;obtain rfl:=s1 H;go_enter Tryz.func216,Tryz.ntmps216;go_wp2_with (first|(refine gA Tryz.func183 (iC.calls A3.out) ?_;intro nd)|(refine Tq 16 (Kd.int .u8) 5 [.int .u8 a0] apV (bZ.one (show Kd.M (Kd.int .u8) _ _ _ a0 [.int .u8 a0]from rfl) (bZ.none _ _)) ?_;intro aM8 w5 ho6 hb;have azn:=ak (Kd.aG ho6 (aj (ul HB.out)));replace HB:=bs HB hb;clear hb ho6;have aM9:=tK (P:=Tryz.prog) Tryz.underlying22 Tryz.underlying5 Tryz.underlying9 (Kd.xW azn.out)))
   go_ret;exact⟨er,ul HB.out⟩
  ·replace H:=sq H;rcases H with⟨uK,Gg,H⟩|⟨c8,uK,Gg,H⟩
   ·obtain⟨aM_,apW⟩:=nm ([a0]:List Int);rw[←apW.out]at H;obtain rfl:=s1 H;go_enter Tryz.func216,Tryz.ntmps216;go_wp2_with (first|(refine gA Tryz.func183 (iC.calls A3.out) ?_;intro nd)|(refine Tq 16 (Kd.int .u8) 5 [.int .u8 a0] apW (bZ.one (show Kd.M (Kd.int .u8) _ _ _ a0 [.int .u8 a0]from rfl) (bZ.none _ _)) ?_;intro aNa w9 SH hb;have azo:=ak (Kd.aG SH (aj (ul HB.out)));replace HB:=bs HB hb;clear hb SH;have azp:=tK (P:=Tryz.prog) Tryz.underlying22 Tryz.underlying5 Tryz.underlying9 (Kd.xW azo.out)))
    go_ret;exact⟨er,ul HB.out⟩
   ·replace H:=sq H;rcases H with⟨yN,Gi,H⟩|⟨c12,yN,Gi,H⟩
    ·obtain⟨aNb,apX⟩:=nm ([a0]:List Int);rw[←apX.out]at H;obtain rfl:=s1 H;go_enter Tryz.func216,Tryz.ntmps216;go_wp2_with (first|(refine gA Tryz.func183 (iC.calls A3.out) ?_;intro nd)|(refine Tq 16 (Kd.int .u8) 5 [.int .u8 a0] apX (bZ.one (show Kd.M (Kd.int .u8) _ _ _ a0 [.int .u8 a0]from rfl) (bZ.none _ _)) ?_;intro aNc w13 aj9 hb;have azq:=ak (Kd.aG aj9 (aj (ul HB.out)));replace HB:=bs HB hb;clear hb aj9;have azr:=tK (P:=Tryz.prog) Tryz.underlying22 Tryz.underlying5 Tryz.underlying9 (Kd.xW azq.out)))
     go_ret;exact⟨er,ul HB.out⟩
    ·replace H:=bd H;obtain⟨azm,A16,H⟩:=H;obtain rfl:=s1 H;go_enter Tryz.func216,Tryz.ntmps216;go_wp2_with (first|(refine gA Tryz.func183 (iC.calls A3.out) ?_;intro nd)|(refine gA Tryz.func221 (mY.calls A16.out) ?_;intro nd))
     go_ret;exact⟨er,ul HB.out⟩
def jX.l0:Nat→ByteArray→ByteArray→Int→Option (ByteArray)
 |0,_,_,_=>none
 |k+1,x0,x3,x4=>if x4<(x0.size:Int)then(if 0≤x4 then((zL.f (bt x0 x4)).bind fun an5=>(if x3.size+an5.size≤9223372036854775807 then(jX.l0 k x0 (x3++an5) (wrap64 (x4+1)))else(none)))else(none))else(some x3)
def jX.f (k:Nat) (a0:ByteArray):Option (ByteArray):=jX.l0 k a0 (⟨#[]⟩:ByteArray) 0
theorem jX.calls {k:Nat} {a0 r:ByteArray} {w:World} (h:jX.f k a0=some r):
  Calls Tryz.prog 208 #[.string a0] w fun e w'=>e= .returned (.string r)∧Below w.heap.size w w':=by
 have HB:=ak (Below.refl w.heap.size w);unfold jX.f at h;have H:=h;clear h;have H':=ak H;clear H;go_enter Tryz.func208,Tryz.ntmps208;go_wp2;go_loopg [3,4] k (fun kq v3 v4 w'=>∃(dV:ByteArray) (fC:Int),v3= .string dV∧v4= .int .i64 fC∧ah (jX.l0 kq a0 dV fC=some r)∧ah (kq≤k)∧ah (Below w.heap.size w w'))
 case atStart=>exact⟨_,_,rs,rs,H',⟨Nat.le_refl _⟩,⟨ul HB.out⟩⟩
 case round=>
  clear H';obtain⟨dV,fC,rfl,rfl,HA,xK,HB⟩:=hrel
  cases gk with
  |zero=>exact zz HA.out
  |succ k1=>
   obtain⟨H⟩:=HA;simp only[jX.l0]at H;replace H:=sd H;rcases H with⟨qJ,H⟩|⟨qJ,H⟩
   ·replace H:=oL H;obtain⟨iW,H⟩:=H;replace H:=bd H;obtain⟨an5,A5,H⟩:=H;replace H:=nn H;obtain⟨c6,H⟩:=H;have pF:=eq_true c6;have Ad:=decide_eq_true c6;try have amT:(9223372036854775807<dV.size+an5.size)=False:=eq_false (Nat.not_lt.2 c6)
    have H':=ak H;clear H;obtain⟨p4,q4,hx4⟩:=bx a0 fC;go_wp2_with (refine gB Tryz.func216 (zL.calls A5.out) ?_;intro w7 hb;replace HB:=bs HB hb;clear hb)
    go_roundg k1
    case measure=>exact kl
    case rel=>exact⟨_,_,rs,rs,H',⟨kl⟩,⟨ul HB.out⟩⟩
   ·obtain rfl:=s1 H;go_wp2;go_ret;exact⟨er,ul HB.out⟩
def jd.j0:Nat→ByteArray→Bool→Option (ByteArray×Bool)
 |0,_,_=>none
 |k+1,x0,x12=>if x12=true then(some ((⟨#[]⟩:ByteArray),false))else((jX.f k x0).bind fun CQ=>(if 10+CQ.size≤9223372036854775807 then(if((⟨#[61,63,117,116,102,45,56,63,113,63]⟩:ByteArray)++CQ).size+2≤9223372036854775807 then(if((((⟨#[61,63,117,116,102,45,56,63,113,63]⟩:ByteArray)++CQ)++(⟨#[63,61]⟩:ByteArray)).size:Int)>40 then(some ((⟨#[]⟩:ByteArray),false))else(some (((⟨#[61,63,117,116,102,45,56,63,113,63]⟩:ByteArray)++CQ)++(⟨#[63,61]⟩:ByteArray),true)))else(none))else(none)))
def jd.f (k:Nat) (a0:ByteArray):Option (ByteArray×Bool):=if(a0.size:Int)<1 then(jd.j0 k a0 true)else(jd.j0 k a0 (decide ((a0.size:Int)>40)))
theorem jd.calls {k:Nat} {a0 r1:ByteArray} {r2:Bool} {w:World} (h:jd.f k a0=some (r1,r2)):
  Calls Tryz.prog 209 #[.string a0] w fun e w'=>e= .returned (.tuple #[.string r1, .bool r2])∧Below w.heap.size w w':=by
 have HB:=ak (Below.refl w.heap.size w);unfold jd.f at h;have H:=h;clear h;have HC2:=ak H;clear H;go_enter Tryz.func209,Tryz.ntmps209;go_upto_region 1 with(fail)
 go_cut [12] (fun v12 wc=>∃(kq:Nat) (aj_:Bool),v12= .bool aj_∧ah (jd.j0 kq a0 aj_=some (r1,r2))∧ah (kq≤k)∧ah (Below w.heap.size w wc))
 case first=>
  have H:=HC2.out;clear HC2;replace H:=sp H;rcases H with⟨c3,H⟩|⟨c3,H⟩
  ·have iW:=decide_eq_true c3;have Ae:decide (a0.size<1)=true:=decide_eq_true (by omega);clear c3
   (first|rw[iW]|(simp only[jo,lg];rw[iW])|skip);have H':=ak H;clear H;go_wp2;go_meet
   case rel=>exact⟨_,_,rs,H',⟨Qa⟩,⟨ul HB.out⟩⟩
  ·have iW:=decide_eq_false c3;have Ae:decide (a0.size<1)=false:=decide_eq_false (by omega);clear c3
   (first|rw[iW]|(simp only[jo,lg];rw[iW])|skip);have H':=ak H;clear H;go_wp2;go_meet
   case rel=>exact⟨_,_,rs,H',⟨Qa⟩,⟨ul HB.out⟩⟩
 case rest=>
  clear HC2;obtain⟨kq,aj_,rfl,HA,HJ1,HB⟩:=hcut
  cases kq with
  |zero=>exact zz HA.out
  |succ SA=>
   obtain⟨H⟩:=HA;simp only[jd.j0]at H;replace H:=sb H;rcases H with⟨rfl,H⟩|⟨rfl,H⟩
   ·obtain⟨rfl,rfl⟩:=s2 H;go_wp2;go_ret2;exact⟨er,ul HB.out⟩
   ·replace H:=bd H;obtain⟨CQ,A5,H⟩:=H;replace H:=nn H;obtain⟨c6,H⟩:=H;have pF:=eq_true c6;have Ad:=decide_eq_true c6;try have amT:(9223372036854775807<10+CQ.size)=False:=eq_false (Nat.not_lt.2 c6)
    replace H:=nn H;obtain⟨c7,H⟩:=H;have tZ:=eq_true c7;have Qd:=decide_eq_true c7;try have aNd:(9223372036854775807<10+CQ.size+2)=False:=by have h_:=(eq_false (Nat.not_lt.2 c7):(9223372036854775807<((⟨#[61,63,117,116,102,45,56,63,113,63]⟩:ByteArray)++CQ).size+2)=False);simp only[ByteArray.size_append]at h_;exact h_
    try have aEM:(9223372036854775807<((⟨#[61,63,117,116,102,45,56,63,113,63]⟩:ByteArray)++CQ).size+2)=False:=eq_false (Nat.not_lt.2 c7)
    replace H:=sp H;rcases H with⟨c8,H⟩|⟨c8,H⟩
    ·have uK:decide (40<((((⟨#[61,63,117,116,102,45,56,63,113,63]⟩:ByteArray)++CQ)++(⟨#[63,61]⟩:ByteArray)).size:Int))=true:=decide_eq_true c8;have Gg:decide (40<(((⟨#[61,63,117,116,102,45,56,63,113,63]⟩:ByteArray)++CQ)++(⟨#[63,61]⟩:ByteArray)).size)=true:=decide_eq_true (by omega)
     (try(have azs:decide (40<10+(CQ.size:Int)+2)=true:=decide_eq_true (by have e0_:(((⟨#[61,63,117,116,102,45,56,63,113,63]⟩:ByteArray)++CQ)++(⟨#[63,61]⟩:ByteArray)).size=10+CQ.size+2:=(by first|(simp only[ByteArray.size_append];rfl)|simp only[ByteArray.size_append]);omega)))
     (try(have aFT:decide (40<10+CQ.size+2)=true:=decide_eq_true (by have e0_:(((⟨#[61,63,117,116,102,45,56,63,113,63]⟩:ByteArray)++CQ)++(⟨#[63,61]⟩:ByteArray)).size=10+CQ.size+2:=(by first|(simp only[ByteArray.size_append];rfl)|simp only[ByteArray.size_append]);omega)));clear c8;obtain⟨rfl,rfl⟩:=s2 H;go_wp2_with (refine gB Tryz.func208 (jX.calls A5.out) ?_;intro w9 hb;replace HB:=bs HB hb;clear hb)
     go_ret2;exact⟨er,ul HB.out⟩
    ·have uK:decide (40<((((⟨#[61,63,117,116,102,45,56,63,113,63]⟩:ByteArray)++CQ)++(⟨#[63,61]⟩:ByteArray)).size:Int))=false:=decide_eq_false c8;have Gg:decide (40<(((⟨#[61,63,117,116,102,45,56,63,113,63]⟩:ByteArray)++CQ)++(⟨#[63,61]⟩:ByteArray)).size)=false:=decide_eq_false (by omega)
     (try(have azs:decide (40<10+(CQ.size:Int)+2)=false:=decide_eq_false (by have e0_:(((⟨#[61,63,117,116,102,45,56,63,113,63]⟩:ByteArray)++CQ)++(⟨#[63,61]⟩:ByteArray)).size=10+CQ.size+2:=(by first|(simp only[ByteArray.size_append];rfl)|simp only[ByteArray.size_append]);omega)))
     (try(have aFT:decide (40<10+CQ.size+2)=false:=decide_eq_false (by have e0_:(((⟨#[61,63,117,116,102,45,56,63,113,63]⟩:ByteArray)++CQ)++(⟨#[63,61]⟩:ByteArray)).size=10+CQ.size+2:=(by first|(simp only[ByteArray.size_append];rfl)|simp only[ByteArray.size_append]);omega)));clear c8;obtain⟨rfl,rfl⟩:=s2 H;go_wp2_with (refine gB Tryz.func208 (jX.calls A5.out) ?_;intro w10 hb;replace HB:=bs HB hb;clear hb)
     go_ret2;exact⟨er,ul HB.out⟩
mutual
def bI.l0:Nat→ByteArray→ByteArray→Int→Option (ByteArray×Bool)
 |0,_,_,_=>none
 |k+1,x0,x4,x5=>if x5<(x0.size:Int)then(bI.l1 k x0 x4 x5 (wrap64 (x5+1)))else(some (x4,true))
def bI.l1:Nat→ByteArray→ByteArray→Int→Int→Option (ByteArray×Bool)
 |0,_,_,_,_=>none
 |k+1,x0,x4,x5,x6=>if x6<(x0.size:Int)then(if 0≤x5 then(if x5≤(wrap64 (x6+1))then(if(wrap64 (x6+1))≤(x0.size:Int)then((jX.f k (x0.extract (x5:Int).toNat ((wrap64 (x6+1)):Int).toNat)).bind fun an6=>(if(an6.size:Int)≤28 then(bI.l1 k x0 x4 x5 (wrap64 (x6+1)))else(if x5≤x6 then(if x6≤(x0.size:Int)then((jd.f k (x0.extract (x5:Int).toNat (x6:Int).toNat)).bind fun afT=>(if x5>0 then(if x4.size+1≤9223372036854775807 then(if(x4++(⟨#[32]⟩:ByteArray)).size+afT.1.size≤9223372036854775807 then(bI.l0 k x0 ((x4++(⟨#[32]⟩:ByteArray))++afT.1) x6)else(none))else(none))else(if x4.size+afT.1.size≤9223372036854775807 then(bI.l0 k x0 (x4++afT.1) x6)else(none))))else(none))else(none))))else(none))else(none))else(none))else(if 0≤x5 then(if x5≤x6 then(if x6≤(x0.size:Int)then((jd.f k (x0.extract (x5:Int).toNat (x6:Int).toNat)).bind fun afU=>(if x5>0 then(if x4.size+1≤9223372036854775807 then(if(x4++(⟨#[32]⟩:ByteArray)).size+afU.1.size≤9223372036854775807 then(bI.l0 k x0 ((x4++(⟨#[32]⟩:ByteArray))++afU.1) x6)else(none))else(none))else(if x4.size+afU.1.size≤9223372036854775807 then(bI.l0 k x0 (x4++afU.1) x6)else(none))))else(none))else(none))else(none))
end
def bI.f (k:Nat) (a0:ByteArray):Option (ByteArray×Bool):=if(a0.size:Int)>120 then(some ((⟨#[]⟩:ByteArray),false))else((iD.f k a0).bind fun azt=>(if azt=true then(bI.l0 k a0 (⟨#[]⟩:ByteArray) 0)else(some (a0,true))))
theorem bI.calls {k:Nat} {a0 r1:ByteArray} {r2:Bool} {w:World} (h:bI.f k a0=some (r1,r2)):
  Calls Tryz.prog 194 #[.string a0] w fun e w'=>e= .returned (.tuple #[.string r1, .bool r2])∧Below w.heap.size w w':=by
 have HB:=ak (Below.refl w.heap.size w);unfold bI.f at h;have H:=h;clear h;replace H:=sp H;rcases H with⟨c2,H⟩|⟨c2,H⟩
 ·have qJ:decide (120<(a0.size:Int))=true:=decide_eq_true c2;have yR:decide (120<a0.size)=true:=decide_eq_true (by omega);clear c2;obtain⟨rfl,rfl⟩:=s2 H;go_enter Tryz.func194,Tryz.ntmps194;go_wp2;go_ret2;exact⟨er,ul HB.out⟩
 ·have qJ:decide (120<(a0.size:Int))=false:=decide_eq_false c2;have yR:decide (120<a0.size)=false:=decide_eq_false (by omega);clear c2;replace H:=bd H;obtain⟨azt,A3,H⟩:=H;replace H:=sb H;rcases H with⟨rfl,H⟩|⟨rfl,H⟩
  ·have H':=ak H;clear H;go_enter Tryz.func194,Tryz.ntmps194;go_wp2_with (refine gA Tryz.func207 (iD.calls A3.out) ?_;intro nd)
   go_loopg [4,5] k (fun kq v4 v5 w'=>∃(fC:ByteArray) (fD:Int),v4= .string fC∧v5= .int .i64 fD∧ah (bI.l0 kq a0 fC fD=some (r1,r2))∧ah (kq≤k)∧ah (Below w.heap.size w w'))
   case atStart=>exact⟨_,_,rs,rs,H',⟨Nat.le_refl _⟩,⟨ul HB.out⟩⟩
   case round=>
    clear H';try clear c2
    try clear qJ
    try clear yR
    obtain⟨fC,fD,rfl,rfl,HA,xK,HB⟩:=hrel
    cases gk with
    |zero=>exact zz HA.out
    |succ k1=>
     obtain⟨H⟩:=HA;simp only[bI.l0]at H;replace H:=sd H;rcases H with⟨oz,H⟩|⟨oz,H⟩
     ·have H':=ak H;clear H;go_wp2;go_loopg [6] k1 (fun kq v6 w'=>∃(EP:Int),v6= .int .i64 EP∧ah (bI.l1 kq a0 fC fD EP=some (r1,r2))∧ah (kq≤k1)∧ah (Below w.heap.size w w'))
      case atStart=>exact⟨_,rs,H',⟨Nat.le_refl _⟩,⟨ul HB.out⟩⟩
      case round=>
       clear H';try clear c2
       try clear qJ
       try clear yR
       try clear oz
       obtain⟨EP,rfl,HA,HK2,HB⟩:=hrel
       cases gk with
       |zero=>exact zz HA.out
       |succ k2=>
        obtain⟨H⟩:=HA;simp only[bI.l1]at H;replace H:=sd H;rcases H with⟨pF,H⟩|⟨pF,H⟩
        ·replace H:=Du H;obtain⟨tZ,Qd,H⟩:=H;replace H:=nn H;obtain⟨c8,H⟩:=H;have uK:=eq_true c8;have Gg:=decide_eq_true c8;replace H:=nn H;obtain⟨c9,H⟩:=H;have AZ:=eq_true c9;have Jb:=decide_eq_true c9;replace H:=bd H;obtain⟨an6,A10,H⟩:=H;replace H:=sp H;rcases H with⟨c11,H⟩|⟨c11,H⟩
         ·have vY:=decide_eq_true c11;have Io:decide (an6.size≤28)=true:=decide_eq_true (by omega);clear c11;have H':=ak H;clear H;go_wp2_with (go_at_call 208;refine mB (jX.calls A10.out) ?_;intro w12 hb;replace HB:=bs HB hb;clear hb)
          go_roundg k2
          case measure=>exact kl
          case rel=>exact⟨_,rs,H',⟨kl⟩,⟨ul HB.out⟩⟩
         ·have vY:=decide_eq_false c11;have Io:decide (an6.size≤28)=false:=decide_eq_false (by omega);clear c11;have xA:=eq_true (of_decide_eq_true (by assumption):0≤fD);replace H:=Du H;obtain⟨vZ,Ah,H⟩:=H;replace H:=Du H;obtain⟨yM,I9,H⟩:=H;replace H:=bd H;obtain⟨⟨an7,aNe⟩,A16,H⟩:=H
          (try dsimp only at H);replace H:=sp H;rcases H with⟨c17,H⟩|⟨c17,H⟩
          ·have vX:decide (0<fD)=true:=decide_eq_true c17;clear c17;replace H:=nn H;obtain⟨c18,H⟩:=H;have C_:=eq_true c18;have Uo:=decide_eq_true c18;try have apa:(9223372036854775807<fC.size+1)=False:=eq_false (Nat.not_lt.2 c18)
           replace H:=nn H;obtain⟨c19,H⟩:=H;have D_:=eq_true c19;have Ij:=decide_eq_true c19;try have aIU:(9223372036854775807<fC.size+1+an7.size)=False:=by have h_:=(eq_false (Nat.not_lt.2 c19):(9223372036854775807<(fC++(⟨#[32]⟩:ByteArray)).size+an7.size)=False);simp only[ByteArray.size_append]at h_;exact h_
           try have aoQ:(9223372036854775807<(fC++(⟨#[32]⟩:ByteArray)).size+an7.size)=False:=eq_false (Nat.not_lt.2 c19)
           have H':=ak H;clear H;go_wp2_with (first|(go_at_call 208;refine mB (jX.calls A10.out) ?_;intro w20 hb;replace HB:=bs HB hb;clear hb)|(refine gB Tryz.func209 (jd.calls A16.out) ?_;intro w21 hb;replace HB:=bs HB hb;clear hb))
           go_roundg k2
           case measure=>exact kl
           case rel=>exact⟨_,_,rs,rs,H',⟨kl⟩,⟨ul HB.out⟩⟩
          ·have vX:decide (0<fD)=false:=decide_eq_false c17;clear c17;replace H:=nn H;obtain⟨c22,H⟩:=H;have EZ:=eq_true c22;have aeG:=decide_eq_true c22;try have aIV:(9223372036854775807<fC.size+an7.size)=False:=eq_false (Nat.not_lt.2 c22)
           have H':=ak H;clear H;go_wp2_with (first|(go_at_call 208;refine mB (jX.calls A10.out) ?_;intro w23 hb;replace HB:=bs HB hb;clear hb)|(refine gB Tryz.func209 (jd.calls A16.out) ?_;intro w24 hb;replace HB:=bs HB hb;clear hb))
           go_roundg k2
           case measure=>exact kl
           case rel=>exact⟨_,_,rs,rs,H',⟨kl⟩,⟨ul HB.out⟩⟩
        ·replace H:=Du H;obtain⟨Ul,aiV,H⟩:=H;replace H:=Du H;obtain⟨Rn,aem,H⟩:=H;replace H:=Du H;obtain⟨I5,aeK,H⟩:=H;replace H:=bd H;obtain⟨⟨an8,aNf⟩,A28,H⟩:=H
         (try dsimp only at H);replace H:=sp H;rcases H with⟨c29,H⟩|⟨c29,H⟩
         ·have afV:decide (0<fD)=true:=decide_eq_true c29;clear c29;replace H:=nn H;obtain⟨c30,H⟩:=H;have aeM:=eq_true c30;have aIW:=decide_eq_true c30;try have aIX:(9223372036854775807<fC.size+1)=False:=eq_false (Nat.not_lt.2 c30)
          replace H:=nn H;obtain⟨c31,H⟩:=H;have ajs:=eq_true c31;have ajt:=decide_eq_true c31;try have aIY:(9223372036854775807<fC.size+1+an8.size)=False:=by have h_:=(eq_false (Nat.not_lt.2 c31):(9223372036854775807<(fC++(⟨#[32]⟩:ByteArray)).size+an8.size)=False);simp only[ByteArray.size_append]at h_;exact h_
          try have aIZ:(9223372036854775807<(fC++(⟨#[32]⟩:ByteArray)).size+an8.size)=False:=eq_false (Nat.not_lt.2 c31)
          have H':=ak H;clear H;go_wp2_with (refine gB Tryz.func209 (jd.calls A28.out) ?_;intro w32 hb;replace HB:=bs HB hb;clear hb)
          go_roundg k2
          case measure=>exact kl
          case rel=>exact⟨_,_,rs,rs,H',⟨kl⟩,⟨ul HB.out⟩⟩
         ·have afV:decide (0<fD)=false:=decide_eq_false c29;clear c29;replace H:=nn H;obtain⟨c33,H⟩:=H;have WY:=eq_true c33;have ajf:=decide_eq_true c33;try have aI0:(9223372036854775807<fC.size+an8.size)=False:=eq_false (Nat.not_lt.2 c33)
          have H':=ak H;clear H;go_wp2_with (refine gB Tryz.func209 (jd.calls A28.out) ?_;intro w34 hb;replace HB:=bs HB hb;clear hb)
          go_roundg k2
          case measure=>exact kl
          case rel=>exact⟨_,_,rs,rs,H',⟨kl⟩,⟨ul HB.out⟩⟩
     ·obtain⟨rfl,rfl⟩:=s2 H;go_wp2;go_ret2;exact⟨er,ul HB.out⟩
  ·obtain⟨rfl,rfl⟩:=s2 H;go_enter Tryz.func194,Tryz.ntmps194;go_wp2_with (refine gA Tryz.func207 (iD.calls A3.out) ?_;intro nd)
   go_ret2;exact⟨er,ul HB.out⟩
def kK.l0:Nat→ByteArray→Int→List ByteArray→Int→Int→Option (List ByteArray)
 |0,_,_,_,_,_=>none
 |k+1,x0,x1,x5,x6,x7=>if x7<(x0.size:Int)then(if 0≤x7 then(if(bt x0 x7)=x1 then(if 0≤x6 then(if x6≤x7 then(if x7≤(x0.size:Int)then(if x5.length<8796093022208 then(kK.l0 k x0 x1 (x5++[x0.extract (x6:Int).toNat (x7:Int).toNat]) (wrap64 (x7+1)) (wrap64 (x7+1)))else(none))else(none))else(none))else(none))else(kK.l0 k x0 x1 x5 x6 (wrap64 (x7+1))))else(none))else(if 0≤x6 then(if x6≤(x0.size:Int)then(if x5.length<8796093022208 then(some (x5++[x0.extract (x6:Int).toNat x0.size]))else(none))else(none))else(none))
def kK.f (k:Nat) (a0:ByteArray) (a1:Int):Option (List ByteArray):=kK.l0 k a0 a1 (([]:List ByteArray)) 0 0
theorem kK.calls {k:Nat} {a0:ByteArray} {a1:Int} {r:List ByteArray} {w:World} (h:kK.f k a0 a1=some r):
  Calls Tryz.prog 217 #[.string a0, .int .u8 a1] w fun e w'=>∃pO:Value,e= .returned (pO)∧Kd.R Kd.string 9 w' w.heap.size (fun _=>True) pO r∧Below w.heap.size w w':=by
 have HB:=ak (Below.refl w.heap.size w);unfold kK.f at h;have H:=h;clear h;obtain⟨aNg,apY⟩:=nm ([]:List ByteArray);rw[←apY.out]at H;have H':=ak H;clear H;go_enter Tryz.func217,Tryz.ntmps217;go_wp2_with (refine IY 8 Kd.string 9 apY ?_;intro aNh w3 Xh hb;have azu:=ak (Kd.aG Xh (aj (ul HB.out)));replace HB:=bs HB hb;clear hb Xh)
 go_loopg [5,6,7] k (fun kq v5 v6 v7 w'=>∃(fD:List ByteArray) (fE:Int) (sF:Int),v6= .int .i64 fE∧v7= .int .i64 sF∧ah (kK.l0 kq a0 a1 fD fE sF=some r)∧ah (kq≤k)∧ah (Kd.R Kd.string 9 w' w.heap.size (fun _=>True) v5 fD)∧ah (Below w.heap.size w w'))
 case atStart=>exact⟨_,_,_,rs,rs,H',⟨Nat.le_refl _⟩,⟨ur azu.out⟩,⟨ul HB.out⟩⟩
 case round=>
  clear H';obtain⟨fD,fE,sF,rfl,rfl,HA,xK,sV,HB⟩:=hrel
  cases gk with
  |zero=>exact zz HA.out
  |succ k1=>
   obtain⟨H⟩:=HA;simp only[kK.l0]at H;replace H:=sd H;rcases H with⟨oz,H⟩|⟨oz,H⟩
   ·replace H:=oL H;obtain⟨pF,H⟩:=H;replace H:=sq H;rcases H with⟨uK,Gg,H⟩|⟨c8,uK,Gg,H⟩
    ·replace H:=Du H;obtain⟨AZ,Jb,H⟩:=H;replace H:=Du H;obtain⟨oO,vH,H⟩:=H;replace H:=Du H;obtain⟨vY,Io,H⟩:=H;replace H:=nl H;obtain⟨aaT,H⟩:=H;obtain⟨aNi,apZ⟩:=nm (fD++[a0.extract (fE:Int).toNat (sF:Int).toNat]);rw[←apZ.out]at H;have H':=ak H;clear H;obtain⟨p7,q7,hx7⟩:=bx a0 sF;go_wp2_with (at_builtin;refine aP 20 25 Kd.string 23 9 (.string ⟨#[]⟩) 16 Tryz.underlying23 info9 HB (ur sV.out) apZ (by have:=aaT.out;omega) ?_;intro aNj w13 ho hb hg hat;have azv:=ak (ho);replace HB:=ak (hb);clear ho hb hg hat sV)
     go_roundg k1
     case measure=>exact kl
     case rel=>exact⟨_,_,_,rs,rs,H',⟨kl⟩,⟨ur azv.out⟩,⟨ul HB.out⟩⟩
    ·have H':=ak H;clear H;obtain⟨p7,q7,hx7⟩:=bx a0 sF;go_wp2;go_roundg k1
     case measure=>exact kl
     case rel=>exact⟨_,_,_,rs,rs,H',⟨kl⟩,⟨ur sV.out⟩,⟨ul HB.out⟩⟩
   ·replace H:=Du H;obtain⟨vZ,Ah,H⟩:=H;replace H:=Du H;obtain⟨yM,I9,H⟩:=H;replace H:=nl H;obtain⟨akb,H⟩:=H;obtain⟨aNk,ap0⟩:=nm (fD++[a0.extract (fE:Int).toNat a0.size]);rw[←ap0.out]at H;obtain rfl:=s1 H;go_wp2_with (at_builtin;refine aP 29 33 Kd.string 23 9 (.string ⟨#[]⟩) 16 Tryz.underlying23 info9 HB (ur sV.out) ap0 (by have:=akb.out;omega) ?_;intro aNl w17 ho hb hg hat;have azw:=ak (ho);replace HB:=ak (hb);clear ho hb hg hat sV)
    go_ret;exact⟨_,er,ur azw.out,ul HB.out⟩
def je.l0:Nat→ByteArray→List ByteArray→Int→Option (List ByteArray×Bool)
 |0,_,_,_=>none
 |k+1,x0,x4,x5=>if x5<(x4.length:Int)then(if 0≤x5 then(if((qH ByteArray.empty x4 x5).size:Int)>40 then(some ((([]:List ByteArray)),false))else((aQ.f k (qH ByteArray.empty x4 x5)).bind fun azx=>(if azx=true then(je.l0 k x0 x4 (wrap64 (x5+1)))else(some ((([]:List ByteArray)),false)))))else(none))else(some (x4,decide ((x0.size:Int)≤300)))
def je.f (k:Nat) (a0:ByteArray):Option (List ByteArray×Bool):=(kK.f k a0 10).bind fun Qz=>(je.l0 k a0 Qz 0)
theorem je.calls {k:Nat} {a0:ByteArray} {r1:List ByteArray} {r2:Bool} {w:World} (h:je.f k a0=some (r1,r2)):
  Calls Tryz.prog 210 #[.string a0] w fun e w'=>∃pO:Value,e= .returned (.tuple #[pO, .bool r2])∧Kd.R Kd.string 9 w' w.heap.size (fun _=>True) pO r1∧Below w.heap.size w w':=by
 have HB:=ak (Below.refl w.heap.size w);unfold je.f at h;have H:=h;clear h;replace H:=bd H;obtain⟨Qz,A2,H⟩:=H;have H':=ak H;clear H;go_enter Tryz.func210,Tryz.ntmps210;go_wp2_with (refine gV Tryz.func217 (kK.calls A2.out) ?_;rintro aFU w3 ⟨ho0,hb⟩;have azy:=ak (Kd.aG ho0 (aj (ul HB.out)));replace HB:=bs HB hb;clear hb;(try clear ho0))
 go_loopg [5] k (fun kq v5 w'=>∃(fD:Int),v5= .int .i64 fD∧ah (je.l0 kq a0 Qz fD=some (r1,r2))∧ah (kq≤k)∧ah (Kd.R Kd.string 9 w' w.heap.size (fun _=>True) aFU Qz)∧ah (Below w.heap.size w w'))
 case atStart=>exact⟨_,rs,H',⟨Nat.le_refl _⟩,⟨ur azy.out⟩,⟨ul HB.out⟩⟩
 case round=>
  clear H';obtain⟨fD,rfl,HA,xK,jf,HB⟩:=hrel
  cases gk with
  |zero=>exact zz HA.out
  |succ k1=>
   obtain⟨H⟩:=HA;simp only[je.l0]at H;replace H:=sd H;rcases H with⟨rW,H⟩|⟨rW,H⟩
   ·replace H:=oL H;obtain⟨oz,H⟩:=H;replace H:=sp H;rcases H with⟨c6,H⟩|⟨c6,H⟩
    ·have pF:decide (40<((qH ByteArray.empty Qz fD).size:Int))=true:=decide_eq_true c6;have Ad:decide (40<(qH ByteArray.empty Qz fD).size)=true:=decide_eq_true (by omega);clear c6;obtain⟨aNm,ap1⟩:=nm ([]:List ByteArray);rw[←ap1.out]at H;obtain⟨rfl,rfl⟩:=s2 H;obtain⟨Ao7,co7,eo7⟩:=Kd.aH jf.out;subst eo7;have U2:=zi fD;have U3:=zj fD Qz.length;obtain⟨afW,akc,afX⟩:=Kd.jT (Kd.aK jf.out).2.2 fD U2 U3;cases akc;replace U2:=eq_true U2;replace U3:=eq_true U3;go_wp2_with (refine IY 28 Kd.string 9 ap1 ?_;intro aNn w8 ho9 hb;have azz:=ak (Kd.aG (Kd.eU ho9 (Kd.jM (ur jf.out))) (aj (ul HB.out)));replace jf:=ak (Kd.dY (ur jf.out) (Kd.bV ho9) hb);replace HB:=bs HB hb;clear hb ho9)
     go_ret2;exact⟨_,er,ur (Kd.aW azz.out (fun _ hk=>trivial)),ul HB.out⟩
    ·have pF:decide (40<((qH ByteArray.empty Qz fD).size:Int))=false:=decide_eq_false c6;have Ad:decide (40<(qH ByteArray.empty Qz fD).size)=false:=decide_eq_false (by omega);clear c6;replace H:=bd H;obtain⟨azx,A10,H⟩:=H;replace H:=sb H;rcases H with⟨rfl,H⟩|⟨rfl,H⟩
     ·have H':=ak H;clear H;obtain⟨Ce,Bj,Ud⟩:=Kd.aH jf.out;subst Ud;have U2:=zi fD;have U3:=zj fD Qz.length;obtain⟨afW,akc,afX⟩:=Kd.jT (Kd.aK jf.out).2.2 fD U2 U3;cases akc;replace U2:=eq_true U2;replace U3:=eq_true U3;have ac8:=zi fD;have ac9:=zj fD Qz.length;obtain⟨akd,atV,an9⟩:=Kd.jT (Kd.aK jf.out).2.2 fD ac8 ac9;obtain rfl:afW=akd:=(by injection atV)
      replace ac8:=eq_true ac8;replace ac9:=eq_true ac9;go_wp2_with (go_at_call 159;refine mA (aQ.calls A10.out) ?_;intro nd)
      go_roundg k1
      case measure=>exact kl
      case rel=>exact⟨_,rs,H',⟨kl⟩,⟨ur jf.out⟩,⟨ul HB.out⟩⟩
     ·obtain⟨aNo,ap2⟩:=nm ([]:List ByteArray);rw[←ap2.out]at H;obtain⟨rfl,rfl⟩:=s2 H;obtain⟨FW,AY,Sv⟩:=Kd.aH jf.out;subst Sv;have U2:=zi fD;have U3:=zj fD Qz.length;obtain⟨afW,akc,afX⟩:=Kd.jT (Kd.aK jf.out).2.2 fD U2 U3;cases akc;replace U2:=eq_true U2;replace U3:=eq_true U3;have ac8:=zi fD;have ac9:=zj fD Qz.length;obtain⟨akd,atV,an9⟩:=Kd.jT (Kd.aK jf.out).2.2 fD ac8 ac9;obtain rfl:afW=akd:=(by injection atV)
      replace ac8:=eq_true ac8;replace ac9:=eq_true ac9;go_wp2_with (first|(go_at_call 159;refine mA (aQ.calls A10.out) ?_;intro nd)|(refine IY 28 Kd.string 9 ap2 ?_;intro aNp V3 Lp hb;have azA:=ak (Kd.aG (Kd.eU Lp (Kd.jM (ur jf.out))) (aj (ul HB.out)));replace jf:=ak (Kd.dY (ur jf.out) (Kd.bV Lp) hb);replace HB:=bs HB hb;clear hb Lp))
      go_ret2;exact⟨_,er,ur (Kd.aW azA.out (fun _ hk=>trivial)),ul HB.out⟩
   ·obtain⟨rfl,rfl⟩:=s2 H;obtain⟨LW,KC,UZ⟩:=Kd.aH jf.out;subst UZ;go_wp2;go_ret2;exact⟨_,er,ur jf.out,ul HB.out⟩
end Go.Proofs.YtncdadcmghglkaaGreatDoor.PFnPartAt
