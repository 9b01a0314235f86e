/- Printed walks; conditions: those in each statement. -/
import Derived.Test.YtncdadcmghglkaaGreatDoorVFnPathEmptyQt
import Derived.Test.YtncdadcmghglkaaGreatDoorVFnPathEmptyYt
import Derived.Test.YtncdadcmghglkaaGreatDoorPFnPathEmptyx0
import Derived.Test.YtncdadcmghglkaaGreatDoorPFnPathEmptyx13
import Derived.Test.YtncdadcmghglkaaGreatDoorPFnPathEmptyx10
-- short
-- dense
-- sq
-- sq2
namespace Go.Proofs.YtncdadcmghglkaaGreatDoor.PFnPathEmpty
open Go.RowKit Go.Proofs.YtncdadcmghglkaaGreatDoor.X Go.Proofs.YtncdadcmghglkaaGreatDoorW.dJ Go.Proofs.YtncdadcmghglkaaGreatDoorW.kX Go.Proofs.YtncdadcmghglkaaGreatDoorW.oI
attribute [local go_sem] wX wY zS zT uJ uK wZ xg   -- for this text's walks alone
set_option linter.unusedVariables false
set_option maxHeartbeats 8000000
set_option maxRecDepth 100000
set_option linter.unusedSimpArgs false
def zC.f (a0:Int):Option (ByteArray):=if a0=32 then(some (⟨#[95]⟩:ByteArray))else((gY.f a0).bind fun ayI=>(if ayI=true then(some (strOfNums (([a0]:List Int))))else(if a0=45 then(some (strOfNums (([a0]:List Int))))else(if a0=46 then(some (strOfNums (([a0]:List Int))))else((mD.f a0).bind fun ayJ=>(some ayJ))))))
theorem zC.calls {a0:Int} {r:ByteArray} {w:World} (h:zC.f a0=some r):
  Calls Tryz.prog 216 #[.int .u8 a0] w fun e w'=>e= .returned (.string r)∧Below w.heap.size w w':=by
 have HB:=ak (Below.refl w.heap.size w);unfold zC.f at h;have H:=h;clear h;replace H:=sq H;rcases H with⟨qO,zM,H⟩|⟨c2,qO,zM,H⟩
 ·obtain rfl:=s1 H;go_enter Tryz.func216,Tryz.ntmps216;go_wp2;go_ret;exact⟨er,ul HB.out⟩
 ·replace H:=bd H;obtain⟨ayI,A3,H⟩:=H;replace H:=sb H;rcases H with⟨rfl,H⟩|⟨rfl,H⟩
  ·obtain⟨aMG,apo⟩:=nm ([a0]:List Int);rw[←apo.out]at H;obtain rfl:=s1 H;go_enter Tryz.func216,Tryz.ntmps216;go_wp2_with (first|(refine gA Tryz.func183 (gY.calls A3.out) ?_;intro nd)|(refine RZ 16 (Kd.int .u8) 5 [.int .u8 a0] apo (bU.one (show Kd.M (Kd.int .u8) _ _ _ a0 [.int .u8 a0]from rfl) (bU.none _ _)) ?_;intro aMH w5 ho6 hb;have ayK:=ak (Kd.aG ho6 (aj (ul HB.out)));replace HB:=bs HB hb;clear hb ho6;have aMI:=sF (P:=Tryz.prog) Tryz.underlying22 Tryz.underlying5 Tryz.underlying9 (Kd.xI ayK.out)))
   go_ret;exact⟨er,ul HB.out⟩
  ·replace H:=sq H;rcases H with⟨uG,F5,H⟩|⟨c8,uG,F5,H⟩
   ·obtain⟨aMJ,apq⟩:=nm ([a0]:List Int);rw[←apq.out]at H;obtain rfl:=s1 H;go_enter Tryz.func216,Tryz.ntmps216;go_wp2_with (first|(refine gA Tryz.func183 (gY.calls A3.out) ?_;intro nd)|(refine RZ 16 (Kd.int .u8) 5 [.int .u8 a0] apq (bU.one (show Kd.M (Kd.int .u8) _ _ _ a0 [.int .u8 a0]from rfl) (bU.none _ _)) ?_;intro aMK w9 R_ hb;have ayL:=ak (Kd.aG R_ (aj (ul HB.out)));replace HB:=bs HB hb;clear hb R_;have ayM:=sF (P:=Tryz.prog) Tryz.underlying22 Tryz.underlying5 Tryz.underlying9 (Kd.xI ayL.out)))
    go_ret;exact⟨er,ul HB.out⟩
   ·replace H:=sq H;rcases H with⟨yw,Gg,H⟩|⟨c12,yw,Gg,H⟩
    ·obtain⟨aML,apr⟩:=nm ([a0]:List Int);rw[←apr.out]at H;obtain rfl:=s1 H;go_enter Tryz.func216,Tryz.ntmps216;go_wp2_with (first|(refine gA Tryz.func183 (gY.calls A3.out) ?_;intro nd)|(refine RZ 16 (Kd.int .u8) 5 [.int .u8 a0] apr (bU.one (show Kd.M (Kd.int .u8) _ _ _ a0 [.int .u8 a0]from rfl) (bU.none _ _)) ?_;intro aMM w13 ajI hb;have ayN:=ak (Kd.aG ajI (aj (ul HB.out)));replace HB:=bs HB hb;clear hb ajI;have ayO:=sF (P:=Tryz.prog) Tryz.underlying22 Tryz.underlying5 Tryz.underlying9 (Kd.xI ayN.out)))
     go_ret;exact⟨er,ul HB.out⟩
    ·replace H:=bd H;obtain⟨ayJ,A16,H⟩:=H;obtain rfl:=s1 H;go_enter Tryz.func216,Tryz.ntmps216;go_wp2_with (first|(refine gA Tryz.func183 (gY.calls A3.out) ?_;intro nd)|(refine gA Tryz.func221 (mD.calls A16.out) ?_;intro nd))
     go_ret;exact⟨er,ul HB.out⟩
def jL.l0:Nat→ByteArray→ByteArray→Int→Option (ByteArray)
 |0,_,_,_=>none
 |k+1,x0,x3,x4=>if x4<(x0.size:Int)then(if 0≤x4 then((zC.f (bt x0 x4)).bind fun anz=>(if x3.size+anz.size≤9223372036854775807 then(jL.l0 k x0 (x3++anz) (wrap64 (x4+1)))else(none)))else(none))else(some x3)
def jL.f (k:Nat) (a0:ByteArray):Option (ByteArray):=jL.l0 k a0 (⟨#[]⟩:ByteArray) 0
theorem jL.calls {k:Nat} {a0 r:ByteArray} {w:World} (h:jL.f k a0=some r):
  Calls Tryz.prog 208 #[.string a0] w fun e w'=>e= .returned (.string r)∧Below w.heap.size w w':=by
 have HB:=ak (Below.refl w.heap.size w);unfold jL.f at h;have H:=h;clear h;have H':=ak H;clear H;go_enter Tryz.func208,Tryz.ntmps208;go_wp2;go_loopg [3,4] k (fun kq v3 v4 w'=>∃(dX:ByteArray) (eU:Int),v3= .string dX∧v4= .int .i64 eU∧ah (jL.l0 kq a0 dX eU=some r)∧ah (kq≤k)∧ah (Below w.heap.size w w'))
 case atStart=>exact⟨_,_,rs,rs,H',⟨Nat.le_refl _⟩,⟨ul HB.out⟩⟩
 case round=>
  clear H';obtain⟨dX,eU,rfl,rfl,HA,yH,HB⟩:=hrel
  cases gk with
  |zero=>exact zz HA.out
  |succ k1=>
   obtain⟨H⟩:=HA;simp only[jL.l0]at H;replace H:=sd H;rcases H with⟨qO,H⟩|⟨qO,H⟩
   ·replace H:=oG H;obtain⟨iT,H⟩:=H;replace H:=bd H;obtain⟨anz,A5,H⟩:=H;replace H:=nn H;obtain⟨c6,H⟩:=H;have oV:=eq_true c6;have zX:=decide_eq_true c6;try have amx:(9223372036854775807<dX.size+anz.size)=False:=eq_false (Nat.not_lt.2 c6)
    have H':=ak H;clear H;obtain⟨p4,q4,hx4⟩:=bx a0 eU;go_wp2_with (refine gB Tryz.func216 (zC.calls A5.out) ?_;intro w7 hb;replace HB:=bs HB hb;clear hb)
    go_roundg k1
    case measure=>exact kl
    case rel=>exact⟨_,_,rs,rs,H',⟨kl⟩,⟨ul HB.out⟩⟩
   ·obtain rfl:=s1 H;go_wp2;go_ret;exact⟨er,ul HB.out⟩
def iZ.j0:Nat→ByteArray→Bool→Option (ByteArray×Bool)
 |0,_,_=>none
 |k+1,x0,x12=>if x12=true then(some ((⟨#[]⟩:ByteArray),false))else((jL.f k x0).bind fun Cc=>(if 10+Cc.size≤9223372036854775807 then(if((⟨#[61,63,117,116,102,45,56,63,113,63]⟩:ByteArray)++Cc).size+2≤9223372036854775807 then(if((((⟨#[61,63,117,116,102,45,56,63,113,63]⟩:ByteArray)++Cc)++(⟨#[63,61]⟩:ByteArray)).size:Int)>40 then(some ((⟨#[]⟩:ByteArray),false))else(some (((⟨#[61,63,117,116,102,45,56,63,113,63]⟩:ByteArray)++Cc)++(⟨#[63,61]⟩:ByteArray),true)))else(none))else(none)))
def iZ.f (k:Nat) (a0:ByteArray):Option (ByteArray×Bool):=if(a0.size:Int)<1 then(iZ.j0 k a0 true)else(iZ.j0 k a0 (decide ((a0.size:Int)>40)))
theorem iZ.calls {k:Nat} {a0 r1:ByteArray} {r2:Bool} {w:World} (h:iZ.f k a0=some (r1,r2)):
  Calls Tryz.prog 209 #[.string a0] w fun e w'=>e= .returned (.tuple #[.string r1, .bool r2])∧Below w.heap.size w w':=by
 have HB:=ak (Below.refl w.heap.size w);unfold iZ.f at h;have H:=h;clear h;have HC2:=ak H;clear H;go_enter Tryz.func209,Tryz.ntmps209;go_upto_region 1 with(fail)
 go_cut [12] (fun v12 wc=>∃(kq:Nat) (ajJ:Bool),v12= .bool ajJ∧ah (iZ.j0 kq a0 ajJ=some (r1,r2))∧ah (kq≤k)∧ah (Below w.heap.size w wc))
 case first=>
  have H:=HC2.out;clear HC2;replace H:=sp H;rcases H with⟨c3,H⟩|⟨c3,H⟩
  ·have iT:=decide_eq_true c3;have zW:decide (a0.size<1)=true:=decide_eq_true (by omega);clear c3
   (first|rw[iT]|(simp only[jk,kU];rw[iT])|skip);have H':=ak H;clear H;go_wp2;go_meet
   case rel=>exact⟨_,_,rs,H',⟨PW⟩,⟨ul HB.out⟩⟩
  ·have iT:=decide_eq_false c3;have zW:decide (a0.size<1)=false:=decide_eq_false (by omega);clear c3
   (first|rw[iT]|(simp only[jk,kU];rw[iT])|skip);have H':=ak H;clear H;go_wp2;go_meet
   case rel=>exact⟨_,_,rs,H',⟨PW⟩,⟨ul HB.out⟩⟩
 case rest=>
  clear HC2;obtain⟨kq,ajJ,rfl,HA,HJ1,HB⟩:=hcut
  cases kq with
  |zero=>exact zz HA.out
  |succ RU=>
   obtain⟨H⟩:=HA;simp only[iZ.j0]at H;replace H:=sb H;rcases H with⟨rfl,H⟩|⟨rfl,H⟩
   ·obtain⟨rfl,rfl⟩:=s2 H;go_wp2;go_ret2;exact⟨er,ul HB.out⟩
   ·replace H:=bd H;obtain⟨Cc,A5,H⟩:=H;replace H:=nn H;obtain⟨c6,H⟩:=H;have oV:=eq_true c6;have zX:=decide_eq_true c6;try have amx:(9223372036854775807<10+Cc.size)=False:=eq_false (Nat.not_lt.2 c6)
    replace H:=nn H;obtain⟨c7,H⟩:=H;have tJ:=eq_true c7;have PZ:=decide_eq_true c7;try have aMN:(9223372036854775807<10+Cc.size+2)=False:=by have h_:=(eq_false (Nat.not_lt.2 c7):(9223372036854775807<((⟨#[61,63,117,116,102,45,56,63,113,63]⟩:ByteArray)++Cc).size+2)=False);simp only[ByteArray.size_append]at h_;exact h_
    try have aD7:(9223372036854775807<((⟨#[61,63,117,116,102,45,56,63,113,63]⟩:ByteArray)++Cc).size+2)=False:=eq_false (Nat.not_lt.2 c7)
    replace H:=sp H;rcases H with⟨c8,H⟩|⟨c8,H⟩
    ·have uG:decide (40<((((⟨#[61,63,117,116,102,45,56,63,113,63]⟩:ByteArray)++Cc)++(⟨#[63,61]⟩:ByteArray)).size:Int))=true:=decide_eq_true c8;have F5:decide (40<(((⟨#[61,63,117,116,102,45,56,63,113,63]⟩:ByteArray)++Cc)++(⟨#[63,61]⟩:ByteArray)).size)=true:=decide_eq_true (by omega)
     (try(have ayP:decide (40<10+(Cc.size:Int)+2)=true:=decide_eq_true (by have e0_:(((⟨#[61,63,117,116,102,45,56,63,113,63]⟩:ByteArray)++Cc)++(⟨#[63,61]⟩:ByteArray)).size=10+Cc.size+2:=(by first|(simp only[ByteArray.size_append];rfl)|simp only[ByteArray.size_append]);omega)))
     (try(have aFb:decide (40<10+Cc.size+2)=true:=decide_eq_true (by have e0_:(((⟨#[61,63,117,116,102,45,56,63,113,63]⟩:ByteArray)++Cc)++(⟨#[63,61]⟩:ByteArray)).size=10+Cc.size+2:=(by first|(simp only[ByteArray.size_append];rfl)|simp only[ByteArray.size_append]);omega)));clear c8;obtain⟨rfl,rfl⟩:=s2 H;go_wp2_with (refine gB Tryz.func208 (jL.calls A5.out) ?_;intro w9 hb;replace HB:=bs HB hb;clear hb)
     go_ret2;exact⟨er,ul HB.out⟩
    ·have uG:decide (40<((((⟨#[61,63,117,116,102,45,56,63,113,63]⟩:ByteArray)++Cc)++(⟨#[63,61]⟩:ByteArray)).size:Int))=false:=decide_eq_false c8;have F5:decide (40<(((⟨#[61,63,117,116,102,45,56,63,113,63]⟩:ByteArray)++Cc)++(⟨#[63,61]⟩:ByteArray)).size)=false:=decide_eq_false (by omega)
     (try(have ayP:decide (40<10+(Cc.size:Int)+2)=false:=decide_eq_false (by have e0_:(((⟨#[61,63,117,116,102,45,56,63,113,63]⟩:ByteArray)++Cc)++(⟨#[63,61]⟩:ByteArray)).size=10+Cc.size+2:=(by first|(simp only[ByteArray.size_append];rfl)|simp only[ByteArray.size_append]);omega)))
     (try(have aFb:decide (40<10+Cc.size+2)=false:=decide_eq_false (by have e0_:(((⟨#[61,63,117,116,102,45,56,63,113,63]⟩:ByteArray)++Cc)++(⟨#[63,61]⟩:ByteArray)).size=10+Cc.size+2:=(by first|(simp only[ByteArray.size_append];rfl)|simp only[ByteArray.size_append]);omega)));clear c8;obtain⟨rfl,rfl⟩:=s2 H;go_wp2_with (refine gB Tryz.func208 (jL.calls A5.out) ?_;intro w10 hb;replace HB:=bs HB hb;clear hb)
     go_ret2;exact⟨er,ul HB.out⟩
mutual
def bH.l0:Nat→ByteArray→ByteArray→Int→Option (ByteArray×Bool)
 |0,_,_,_=>none
 |k+1,x0,x4,x5=>if x5<(x0.size:Int)then(bH.l1 k x0 x4 x5 (wrap64 (x5+1)))else(some (x4,true))
def bH.l1:Nat→ByteArray→ByteArray→Int→Int→Option (ByteArray×Bool)
 |0,_,_,_,_=>none
 |k+1,x0,x4,x5,x6=>if x6<(x0.size:Int)then(if 0≤x5 then(if x5≤(wrap64 (x6+1))then(if(wrap64 (x6+1))≤(x0.size:Int)then((jL.f k (x0.extract (x5:Int).toNat ((wrap64 (x6+1)):Int).toNat)).bind fun anA=>(if(anA.size:Int)≤28 then(bH.l1 k x0 x4 x5 (wrap64 (x6+1)))else(if x5≤x6 then(if x6≤(x0.size:Int)then((iZ.f k (x0.extract (x5:Int).toNat (x6:Int).toNat)).bind fun afA=>(if x5>0 then(if x4.size+1≤9223372036854775807 then(if(x4++(⟨#[32]⟩:ByteArray)).size+afA.1.size≤9223372036854775807 then(bH.l0 k x0 ((x4++(⟨#[32]⟩:ByteArray))++afA.1) x6)else(none))else(none))else(if x4.size+afA.1.size≤9223372036854775807 then(bH.l0 k x0 (x4++afA.1) x6)else(none))))else(none))else(none))))else(none))else(none))else(none))else(if 0≤x5 then(if x5≤x6 then(if x6≤(x0.size:Int)then((iZ.f k (x0.extract (x5:Int).toNat (x6:Int).toNat)).bind fun afB=>(if x5>0 then(if x4.size+1≤9223372036854775807 then(if(x4++(⟨#[32]⟩:ByteArray)).size+afB.1.size≤9223372036854775807 then(bH.l0 k x0 ((x4++(⟨#[32]⟩:ByteArray))++afB.1) x6)else(none))else(none))else(if x4.size+afB.1.size≤9223372036854775807 then(bH.l0 k x0 (x4++afB.1) x6)else(none))))else(none))else(none))else(none))
end
def bH.f (k:Nat) (a0:ByteArray):Option (ByteArray×Bool):=if(a0.size:Int)>120 then(some ((⟨#[]⟩:ByteArray),false))else((gX.f k a0).bind fun ayQ=>(if ayQ=true then(bH.l0 k a0 (⟨#[]⟩:ByteArray) 0)else(some (a0,true))))
theorem bH.calls {k:Nat} {a0 r1:ByteArray} {r2:Bool} {w:World} (h:bH.f k a0=some (r1,r2)):
  Calls Tryz.prog 194 #[.string a0] w fun e w'=>e= .returned (.tuple #[.string r1, .bool r2])∧Below w.heap.size w w':=by
 have HB:=ak (Below.refl w.heap.size w);unfold bH.f at h;have H:=h;clear h;replace H:=sp H;rcases H with⟨c2,H⟩|⟨c2,H⟩
 ·have qO:decide (120<(a0.size:Int))=true:=decide_eq_true c2;have zM:decide (120<a0.size)=true:=decide_eq_true (by omega);clear c2;obtain⟨rfl,rfl⟩:=s2 H;go_enter Tryz.func194,Tryz.ntmps194;go_wp2;go_ret2;exact⟨er,ul HB.out⟩
 ·have qO:decide (120<(a0.size:Int))=false:=decide_eq_false c2;have zM:decide (120<a0.size)=false:=decide_eq_false (by omega);clear c2;replace H:=bd H;obtain⟨ayQ,A3,H⟩:=H;replace H:=sb H;rcases H with⟨rfl,H⟩|⟨rfl,H⟩
  ·have H':=ak H;clear H;go_enter Tryz.func194,Tryz.ntmps194;go_wp2_with (refine gA Tryz.func207 (gX.calls A3.out) ?_;intro nd)
   go_loopg [4,5] k (fun kq v4 v5 w'=>∃(eU:ByteArray) (eY:Int),v4= .string eU∧v5= .int .i64 eY∧ah (bH.l0 kq a0 eU eY=some (r1,r2))∧ah (kq≤k)∧ah (Below w.heap.size w w'))
   case atStart=>exact⟨_,_,rs,rs,H',⟨Nat.le_refl _⟩,⟨ul HB.out⟩⟩
   case round=>
    clear H';try clear c2
    try clear qO
    try clear zM
    obtain⟨eU,eY,rfl,rfl,HA,yH,HB⟩:=hrel
    cases gk with
    |zero=>exact zz HA.out
    |succ k1=>
     obtain⟨H⟩:=HA;simp only[bH.l0]at H;replace H:=sd H;rcases H with⟨nT,H⟩|⟨nT,H⟩
     ·have H':=ak H;clear H;go_wp2;go_loopg [6] k1 (fun kq v6 w'=>∃(EC:Int),v6= .int .i64 EC∧ah (bH.l1 kq a0 eU eY EC=some (r1,r2))∧ah (kq≤k1)∧ah (Below w.heap.size w w'))
      case atStart=>exact⟨_,rs,H',⟨Nat.le_refl _⟩,⟨ul HB.out⟩⟩
      case round=>
       clear H';try clear c2
       try clear qO
       try clear zM
       try clear nT
       obtain⟨EC,rfl,HA,HK2,HB⟩:=hrel
       cases gk with
       |zero=>exact zz HA.out
       |succ k2=>
        obtain⟨H⟩:=HA;simp only[bH.l1]at H;replace H:=sd H;rcases H with⟨oV,H⟩|⟨oV,H⟩
        ·replace H:=Dc H;obtain⟨tJ,PZ,H⟩:=H;replace H:=nn H;obtain⟨c8,H⟩:=H;have uG:=eq_true c8;have F5:=decide_eq_true c8;replace H:=nn H;obtain⟨c9,H⟩:=H;have A_:=eq_true c9;have I4:=decide_eq_true c9;replace H:=bd H;obtain⟨anA,A10,H⟩:=H;replace H:=sp H;rcases H with⟨c11,H⟩|⟨c11,H⟩
         ·have vk:=decide_eq_true c11;have Ib:decide (anA.size≤28)=true:=decide_eq_true (by omega);clear c11;have H':=ak H;clear H;go_wp2_with (go_at_call 208;refine mB (jL.calls A10.out) ?_;intro w12 hb;replace HB:=bs HB hb;clear hb)
          go_roundg k2
          case measure=>exact kl
          case rel=>exact⟨_,rs,H',⟨kl⟩,⟨ul HB.out⟩⟩
         ·have vk:=decide_eq_false c11;have Ib:decide (anA.size≤28)=false:=decide_eq_false (by omega);clear c11;have wM:=eq_true (of_decide_eq_true (by assumption):0≤eY);replace H:=Dc H;obtain⟨vw,zZ,H⟩:=H;replace H:=Dc H;obtain⟨yx,I5,H⟩:=H;replace H:=bd H;obtain⟨⟨anB,aMO⟩,A16,H⟩:=H
          (try dsimp only at H);replace H:=sp H;rcases H with⟨c17,H⟩|⟨c17,H⟩
          ·have u_:decide (0<eY)=true:=decide_eq_true c17;clear c17;replace H:=nn H;obtain⟨c18,H⟩:=H;have CQ:=eq_true c18;have Uj:=decide_eq_true c18;try have aoM:(9223372036854775807<eU.size+1)=False:=eq_false (Nat.not_lt.2 c18)
           replace H:=nn H;obtain⟨c19,H⟩:=H;have DR:=eq_true c19;have H_:=decide_eq_true c19;try have aIl:(9223372036854775807<eU.size+1+anB.size)=False:=by have h_:=(eq_false (Nat.not_lt.2 c19):(9223372036854775807<(eU++(⟨#[32]⟩:ByteArray)).size+anB.size)=False);simp only[ByteArray.size_append]at h_;exact h_
           try have aop:(9223372036854775807<(eU++(⟨#[32]⟩:ByteArray)).size+anB.size)=False:=eq_false (Nat.not_lt.2 c19)
           have H':=ak H;clear H;go_wp2_with (first|(go_at_call 208;refine mB (jL.calls A10.out) ?_;intro w20 hb;replace HB:=bs HB hb;clear hb)|(refine gB Tryz.func209 (iZ.calls A16.out) ?_;intro w21 hb;replace HB:=bs HB hb;clear hb))
           go_roundg k2
           case measure=>exact kl
           case rel=>exact⟨_,_,rs,rs,H',⟨kl⟩,⟨ul HB.out⟩⟩
          ·have u_:decide (0<eY)=false:=decide_eq_false c17;clear c17;replace H:=nn H;obtain⟨c22,H⟩:=H;have EJ:=eq_true c22;have aeE:=decide_eq_true c22;try have aIm:(9223372036854775807<eU.size+anB.size)=False:=eq_false (Nat.not_lt.2 c22)
           have H':=ak H;clear H;go_wp2_with (first|(go_at_call 208;refine mB (jL.calls A10.out) ?_;intro w23 hb;replace HB:=bs HB hb;clear hb)|(refine gB Tryz.func209 (iZ.calls A16.out) ?_;intro w24 hb;replace HB:=bs HB hb;clear hb))
           go_roundg k2
           case measure=>exact kl
           case rel=>exact⟨_,_,rs,rs,H',⟨kl⟩,⟨ul HB.out⟩⟩
        ·replace H:=Dc H;obtain⟨Ud,aiz,H⟩:=H;replace H:=Dc H;obtain⟨Q8,aec,H⟩:=H;replace H:=Dc H;obtain⟨IU,aeH,H⟩:=H;replace H:=bd H;obtain⟨⟨anC,aMP⟩,A28,H⟩:=H
         (try dsimp only at H);replace H:=sp H;rcases H with⟨c29,H⟩|⟨c29,H⟩
         ·have afC:decide (0<eY)=true:=decide_eq_true c29;clear c29;replace H:=nn H;obtain⟨c30,H⟩:=H;have aeJ:=eq_true c30;have aIn:=decide_eq_true c30;try have aIo:(9223372036854775807<eU.size+1)=False:=eq_false (Nat.not_lt.2 c30)
          replace H:=nn H;obtain⟨c31,H⟩:=H;have ajh:=eq_true c31;have aji:=decide_eq_true c31;try have aIp:(9223372036854775807<eU.size+1+anC.size)=False:=by have h_:=(eq_false (Nat.not_lt.2 c31):(9223372036854775807<(eU++(⟨#[32]⟩:ByteArray)).size+anC.size)=False);simp only[ByteArray.size_append]at h_;exact h_
          try have aIq:(9223372036854775807<(eU++(⟨#[32]⟩:ByteArray)).size+anC.size)=False:=eq_false (Nat.not_lt.2 c31)
          have H':=ak H;clear H;go_wp2_with (refine gB Tryz.func209 (iZ.calls A28.out) ?_;intro w32 hb;replace HB:=bs HB hb;clear hb)
          go_roundg k2
          case measure=>exact kl
          case rel=>exact⟨_,_,rs,rs,H',⟨kl⟩,⟨ul HB.out⟩⟩
         ·have afC:decide (0<eY)=false:=decide_eq_false c29;clear c29;replace H:=nn H;obtain⟨c33,H⟩:=H;have WE:=eq_true c33;have ai7:=decide_eq_true c33;try have aIr:(9223372036854775807<eU.size+anC.size)=False:=eq_false (Nat.not_lt.2 c33)
          have H':=ak H;clear H;go_wp2_with (refine gB Tryz.func209 (iZ.calls A28.out) ?_;intro w34 hb;replace HB:=bs HB hb;clear hb)
          go_roundg k2
          case measure=>exact kl
          case rel=>exact⟨_,_,rs,rs,H',⟨kl⟩,⟨ul HB.out⟩⟩
     ·obtain⟨rfl,rfl⟩:=s2 H;go_wp2;go_ret2;exact⟨er,ul HB.out⟩
  ·obtain⟨rfl,rfl⟩:=s2 H;go_enter Tryz.func194,Tryz.ntmps194;go_wp2_with (refine gA Tryz.func207 (gX.calls A3.out) ?_;intro nd)
   go_ret2;exact⟨er,ul HB.out⟩
def kC.l0:Nat→ByteArray→Int→List ByteArray→Int→Int→Option (List ByteArray)
 |0,_,_,_,_,_=>none
 |k+1,x0,x1,x5,x6,x7=>if x7<(x0.size:Int)then(if 0≤x7 then(if(bt x0 x7)=x1 then(if 0≤x6 then(if x6≤x7 then(if x7≤(x0.size:Int)then(if x5.length<8796093022208 then(kC.l0 k x0 x1 (x5++[x0.extract (x6:Int).toNat (x7:Int).toNat]) (wrap64 (x7+1)) (wrap64 (x7+1)))else(none))else(none))else(none))else(none))else(kC.l0 k x0 x1 x5 x6 (wrap64 (x7+1))))else(none))else(if 0≤x6 then(if x6≤(x0.size:Int)then(if x5.length<8796093022208 then(some (x5++[x0.extract (x6:Int).toNat x0.size]))else(none))else(none))else(none))
def kC.f (k:Nat) (a0:ByteArray) (a1:Int):Option (List ByteArray):=kC.l0 k a0 a1 (([]:List ByteArray)) 0 0
theorem kC.calls {k:Nat} {a0:ByteArray} {a1:Int} {r:List ByteArray} {w:World} (h:kC.f k a0 a1=some r):
  Calls Tryz.prog 217 #[.string a0, .int .u8 a1] w fun e w'=>∃o7:Value,e= .returned (o7)∧Kd.R Kd.string 9 w' w.heap.size (fun _=>True) o7 r∧Below w.heap.size w w':=by
 have HB:=ak (Below.refl w.heap.size w);unfold kC.f at h;have H:=h;clear h;obtain⟨aMQ,aps⟩:=nm ([]:List ByteArray);rw[←aps.out]at H;have H':=ak H;clear H;go_enter Tryz.func217,Tryz.ntmps217;go_wp2_with (refine II 8 Kd.string 9 aps ?_;intro aMR w3 WO hb;have ayR:=ak (Kd.aG WO (aj (ul HB.out)));replace HB:=bs HB hb;clear hb WO)
 go_loopg [5,6,7] k (fun kq v5 v6 v7 w'=>∃(eY:List ByteArray) (eX:Int) (rF:Int),v6= .int .i64 eX∧v7= .int .i64 rF∧ah (kC.l0 kq a0 a1 eY eX rF=some r)∧ah (kq≤k)∧ah (Kd.R Kd.string 9 w' w.heap.size (fun _=>True) v5 eY)∧ah (Below w.heap.size w w'))
 case atStart=>exact⟨_,_,_,rs,rs,H',⟨Nat.le_refl _⟩,⟨ur ayR.out⟩,⟨ul HB.out⟩⟩
 case round=>
  clear H';obtain⟨eY,eX,rF,rfl,rfl,HA,yH,rQ,HB⟩:=hrel
  cases gk with
  |zero=>exact zz HA.out
  |succ k1=>
   obtain⟨H⟩:=HA;simp only[kC.l0]at H;replace H:=sd H;rcases H with⟨nT,H⟩|⟨nT,H⟩
   ·replace H:=oG H;obtain⟨oV,H⟩:=H;replace H:=sq H;rcases H with⟨uG,F5,H⟩|⟨c8,uG,F5,H⟩
    ·replace H:=Dc H;obtain⟨A_,I4,H⟩:=H;replace H:=Dc H;obtain⟨oD,uN,H⟩:=H;replace H:=Dc H;obtain⟨vk,Ib,H⟩:=H;replace H:=nl H;obtain⟨aaL,H⟩:=H;obtain⟨aMS,apt⟩:=nm (eY++[a0.extract (eX:Int).toNat (rF:Int).toNat]);rw[←apt.out]at H;have H':=ak H;clear H;obtain⟨p7,q7,hx7⟩:=bx a0 rF;go_wp2_with (at_builtin;refine aP 20 25 Kd.string 23 9 (.string ⟨#[]⟩) 16 Tryz.underlying23 info9 HB (ur rQ.out) apt (by have:=aaL.out;omega) ?_;intro aMT w13 ho hb hg hat;have ayS:=ak (ho);replace HB:=ak (hb);clear ho hb hg hat rQ)
     go_roundg k1
     case measure=>exact kl
     case rel=>exact⟨_,_,_,rs,rs,H',⟨kl⟩,⟨ur ayS.out⟩,⟨ul HB.out⟩⟩
    ·have H':=ak H;clear H;obtain⟨p7,q7,hx7⟩:=bx a0 rF;go_wp2;go_roundg k1
     case measure=>exact kl
     case rel=>exact⟨_,_,_,rs,rs,H',⟨kl⟩,⟨ur rQ.out⟩,⟨ul HB.out⟩⟩
   ·replace H:=Dc H;obtain⟨vw,zZ,H⟩:=H;replace H:=Dc H;obtain⟨yx,I5,H⟩:=H;replace H:=nl H;obtain⟨ajK,H⟩:=H;obtain⟨aMU,apu⟩:=nm (eY++[a0.extract (eX:Int).toNat a0.size]);rw[←apu.out]at H;obtain rfl:=s1 H;go_wp2_with (at_builtin;refine aP 29 33 Kd.string 23 9 (.string ⟨#[]⟩) 16 Tryz.underlying23 info9 HB (ur rQ.out) apu (by have:=ajK.out;omega) ?_;intro aMV w17 ho hb hg hat;have ayT:=ak (ho);replace HB:=ak (hb);clear ho hb hg hat rQ)
    go_ret;exact⟨_,er,ur ayT.out,ul HB.out⟩
def jc.l0:Nat→ByteArray→List ByteArray→Int→Option (List ByteArray×Bool)
 |0,_,_,_=>none
 |k+1,x0,x4,x5=>if x5<(x4.length:Int)then(if 0≤x5 then(if((qg ByteArray.empty x4 x5).size:Int)>40 then(some ((([]:List ByteArray)),false))else((aQ.f k (qg ByteArray.empty x4 x5)).bind fun ayU=>(if ayU=true then(jc.l0 k x0 x4 (wrap64 (x5+1)))else(some ((([]:List ByteArray)),false)))))else(none))else(some (x4,decide ((x0.size:Int)≤300)))
def jc.f (k:Nat) (a0:ByteArray):Option (List ByteArray×Bool):=(kC.f k a0 10).bind fun Qn=>(jc.l0 k a0 Qn 0)
theorem jc.calls {k:Nat} {a0:ByteArray} {r1:List ByteArray} {r2:Bool} {w:World} (h:jc.f k a0=some (r1,r2)):
  Calls Tryz.prog 210 #[.string a0] w fun e w'=>∃o7:Value,e= .returned (.tuple #[o7, .bool r2])∧Kd.R Kd.string 9 w' w.heap.size (fun _=>True) o7 r1∧Below w.heap.size w w':=by
 have HB:=ak (Below.refl w.heap.size w);unfold jc.f at h;have H:=h;clear h;replace H:=bd H;obtain⟨Qn,A2,H⟩:=H;have H':=ak H;clear H;go_enter Tryz.func210,Tryz.ntmps210;go_wp2_with (refine gV Tryz.func217 (kC.calls A2.out) ?_;rintro aFc w3 ⟨ho0,hb⟩;have ayV:=ak (Kd.aG ho0 (aj (ul HB.out)));replace HB:=bs HB hb;clear hb;(try clear ho0))
 go_loopg [5] k (fun kq v5 w'=>∃(eY:Int),v5= .int .i64 eY∧ah (jc.l0 kq a0 Qn eY=some (r1,r2))∧ah (kq≤k)∧ah (Kd.R Kd.string 9 w' w.heap.size (fun _=>True) aFc Qn)∧ah (Below w.heap.size w w'))
 case atStart=>exact⟨_,rs,H',⟨Nat.le_refl _⟩,⟨ur ayV.out⟩,⟨ul HB.out⟩⟩
 case round=>
  clear H';obtain⟨eY,rfl,HA,yH,je,HB⟩:=hrel
  cases gk with
  |zero=>exact zz HA.out
  |succ k1=>
   obtain⟨H⟩:=HA;simp only[jc.l0]at H;replace H:=sd H;rcases H with⟨qW,H⟩|⟨qW,H⟩
   ·replace H:=oG H;obtain⟨nT,H⟩:=H;replace H:=sp H;rcases H with⟨c6,H⟩|⟨c6,H⟩
    ·have oV:decide (40<((qg ByteArray.empty Qn eY).size:Int))=true:=decide_eq_true c6;have zX:decide (40<(qg ByteArray.empty Qn eY).size)=true:=decide_eq_true (by omega);clear c6;obtain⟨aMW,apv⟩:=nm ([]:List ByteArray);rw[←apv.out]at H;obtain⟨rfl,rfl⟩:=s2 H;obtain⟨Ao7,co7,eo7⟩:=Kd.aH je.out;subst eo7;have UH:=zi eY;have UJ:=zj eY Qn.length;obtain⟨afD,ajL,afE⟩:=Kd.jI (Kd.aK je.out).2.2 eY UH UJ;cases ajL;replace UH:=eq_true UH;replace UJ:=eq_true UJ;go_wp2_with (refine II 28 Kd.string 9 apv ?_;intro aMX w8 ho9 hb;have ayW:=ak (Kd.aG (Kd.fE ho9 (Kd.jP (ur je.out))) (aj (ul HB.out)));replace je:=ak (Kd.eu (ur je.out) (Kd.b_ ho9) hb);replace HB:=bs HB hb;clear hb ho9)
     go_ret2;exact⟨_,er,ur (Kd.aX ayW.out (fun _ hk=>trivial)),ul HB.out⟩
    ·have oV:decide (40<((qg ByteArray.empty Qn eY).size:Int))=false:=decide_eq_false c6;have zX:decide (40<(qg ByteArray.empty Qn eY).size)=false:=decide_eq_false (by omega);clear c6;replace H:=bd H;obtain⟨ayU,A10,H⟩:=H;replace H:=sb H;rcases H with⟨rfl,H⟩|⟨rfl,H⟩
     ·have H':=ak H;clear H;obtain⟨BL,AO,TP⟩:=Kd.aH je.out;subst TP;have UH:=zi eY;have UJ:=zj eY Qn.length;obtain⟨afD,ajL,afE⟩:=Kd.jI (Kd.aK je.out).2.2 eY UH UJ;cases ajL;replace UH:=eq_true UH;replace UJ:=eq_true UJ;have acY:=zi eY;have acZ:=zj eY Qn.length;obtain⟨ajM,as9,anD⟩:=Kd.jI (Kd.aK je.out).2.2 eY acY acZ;obtain rfl:afD=ajM:=(by injection as9)
      replace acY:=eq_true acY;replace acZ:=eq_true acZ;go_wp2_with (go_at_call 159;refine mA (aQ.calls A10.out) ?_;intro nd)
      go_roundg k1
      case measure=>exact kl
      case rel=>exact⟨_,rs,H',⟨kl⟩,⟨ur je.out⟩,⟨ul HB.out⟩⟩
     ·obtain⟨aMY,apw⟩:=nm ([]:List ByteArray);rw[←apw.out]at H;obtain⟨rfl,rfl⟩:=s2 H;obtain⟨FC,Ar,RP⟩:=Kd.aH je.out;subst RP;have UH:=zi eY;have UJ:=zj eY Qn.length;obtain⟨afD,ajL,afE⟩:=Kd.jI (Kd.aK je.out).2.2 eY UH UJ;cases ajL;replace UH:=eq_true UH;replace UJ:=eq_true UJ;have acY:=zi eY;have acZ:=zj eY Qn.length;obtain⟨ajM,as9,anD⟩:=Kd.jI (Kd.aK je.out).2.2 eY acY acZ;obtain rfl:afD=ajM:=(by injection as9)
      replace acY:=eq_true acY;replace acZ:=eq_true acZ;go_wp2_with (first|(go_at_call 159;refine mA (aQ.calls A10.out) ?_;intro nd)|(refine II 28 Kd.string 9 apw ?_;intro aMZ VH KZ hb;have ayX:=ak (Kd.aG (Kd.fE KZ (Kd.jP (ur je.out))) (aj (ul HB.out)));replace je:=ak (Kd.eu (ur je.out) (Kd.b_ KZ) hb);replace HB:=bs HB hb;clear hb KZ))
      go_ret2;exact⟨_,er,ur (Kd.aX ayX.out (fun _ hk=>trivial)),ul HB.out⟩
   ·obtain⟨rfl,rfl⟩:=s2 H;obtain⟨LG,Kr,UG⟩:=Kd.aH je.out;subst UG;go_wp2;go_ret2;exact⟨_,er,ur je.out,ul HB.out⟩
def nM.f (a0:Int) (a1:Bool):Option (ByteArray):=if a0≥33 then(if a0≤126 then(if a0=61 then(if a0=32 then(if a1=true then((mD.f a0).bind fun ayY=>(some ayY))else(some (strOfNums (([a0]:List Int)))))else((mD.f a0).bind fun ayZ=>(some ayZ)))else(some (strOfNums (([a0]:List Int)))))else(if a0=32 then(if a1=true then((mD.f a0).bind fun ay0=>(some ay0))else(some (strOfNums (([a0]:List Int)))))else((mD.f a0).bind fun ay1=>(some ay1))))else(if a0=32 then(if a1=true then((mD.f a0).bind fun ay2=>(some ay2))else(some (strOfNums (([a0]:List Int)))))else((mD.f a0).bind fun ay3=>(some ay3)))
theorem nM.calls {a0:Int} {a1:Bool} {r:ByteArray} {w:World} (h:nM.f a0 a1=some r):
  Calls Tryz.prog 218 #[.int .u8 a0, .bool a1] w fun e w'=>e= .returned (.string r)∧Below w.heap.size w w':=by
 have HB:=ak (Below.refl w.heap.size w);unfold nM.f at h;have H:=h;clear h;replace H:=sp H;rcases H with⟨c3,H⟩|⟨c3,H⟩
 ·have iT:decide (33≤a0)=true:=decide_eq_true c3;clear c3;replace H:=sd H;rcases H with⟨qW,H⟩|⟨qW,H⟩
  ·replace H:=sq H;rcases H with⟨nT,NZ,H⟩|⟨c5,nT,NZ,H⟩
   ·replace H:=sq H;rcases H with⟨oV,zX,H⟩|⟨c6,oV,zX,H⟩
    ·replace H:=sb H;rcases H with⟨rfl,H⟩|⟨rfl,H⟩
     ·replace H:=bd H;obtain⟨ayY,A8,H⟩:=H;obtain rfl:=s1 H;go_enter Tryz.func218,Tryz.ntmps218;go_wp2_with (refine gA Tryz.func221 (mD.calls A8.out) ?_;intro nd)
      go_ret;exact⟨er,ul HB.out⟩
     ·obtain⟨aM0,apx⟩:=nm ([a0]:List Int);rw[←apx.out]at H;obtain rfl:=s1 H;go_enter Tryz.func218,Tryz.ntmps218;go_wp2_with (refine RZ 24 (Kd.int .u8) 5 [.int .u8 a0] apx (bU.one (show Kd.M (Kd.int .u8) _ _ _ a0 [.int .u8 a0]from rfl) (bU.none _ _)) ?_;intro aM1 w9 R_ hb;have ay4:=ak (Kd.aG R_ (aj (ul HB.out)));replace HB:=bs HB hb;clear hb R_;have ayM:=sF (P:=Tryz.prog) Tryz.underlying22 Tryz.underlying5 Tryz.underlying9 (Kd.xI ay4.out))
      go_ret;exact⟨er,ul HB.out⟩
    ·replace H:=bd H;obtain⟨ayZ,A12,H⟩:=H;obtain rfl:=s1 H;go_enter Tryz.func218,Tryz.ntmps218;go_wp2_with (refine gA Tryz.func221 (mD.calls A12.out) ?_;intro nd)
     go_ret;exact⟨er,ul HB.out⟩
   ·obtain⟨aM2,apy⟩:=nm ([a0]:List Int);rw[←apy.out]at H;obtain rfl:=s1 H;go_enter Tryz.func218,Tryz.ntmps218;go_wp2_with (refine RZ 24 (Kd.int .u8) 5 [.int .u8 a0] apy (bU.one (show Kd.M (Kd.int .u8) _ _ _ a0 [.int .u8 a0]from rfl) (bU.none _ _)) ?_;intro aM3 w13 ajI hb;have ay5:=ak (Kd.aG ajI (aj (ul HB.out)));replace HB:=bs HB hb;clear hb ajI;have ayO:=sF (P:=Tryz.prog) Tryz.underlying22 Tryz.underlying5 Tryz.underlying9 (Kd.xI ay5.out))
    go_ret;exact⟨er,ul HB.out⟩
  ·replace H:=sq H;rcases H with⟨zA,N9,H⟩|⟨c16,zA,N9,H⟩
   ·replace H:=sb H;rcases H with⟨rfl,H⟩|⟨rfl,H⟩
    ·replace H:=bd H;obtain⟨ay0,A18,H⟩:=H;obtain rfl:=s1 H;go_enter Tryz.func218,Tryz.ntmps218;go_wp2_with (refine gA Tryz.func221 (mD.calls A18.out) ?_;intro nd)
     go_ret;exact⟨er,ul HB.out⟩
    ·obtain⟨aM4,apz⟩:=nm ([a0]:List Int);rw[←apz.out]at H;obtain rfl:=s1 H;go_enter Tryz.func218,Tryz.ntmps218;go_wp2_with (refine RZ 24 (Kd.int .u8) 5 [.int .u8 a0] apz (bU.one (show Kd.M (Kd.int .u8) _ _ _ a0 [.int .u8 a0]from rfl) (bU.none _ _)) ?_;intro aM5 w19 agW hb;have ay6:=ak (Kd.aG agW (aj (ul HB.out)));replace HB:=bs HB hb;clear hb agW;have aIs:=sF (P:=Tryz.prog) Tryz.underlying22 Tryz.underlying5 Tryz.underlying9 (Kd.xI ay6.out))
     go_ret;exact⟨er,ul HB.out⟩
   ·replace H:=bd H;obtain⟨ay1,A22,H⟩:=H;obtain rfl:=s1 H;go_enter Tryz.func218,Tryz.ntmps218;go_wp2_with (refine gA Tryz.func221 (mD.calls A22.out) ?_;intro nd)
    go_ret;exact⟨er,ul HB.out⟩
 ·have iT:decide (33≤a0)=false:=decide_eq_false c3;clear c3;replace H:=sq H;rcases H with⟨CJ,Rk,H⟩|⟨c23,CJ,Rk,H⟩
  ·replace H:=sb H;rcases H with⟨rfl,H⟩|⟨rfl,H⟩
   ·replace H:=bd H;obtain⟨ay2,A25,H⟩:=H;obtain rfl:=s1 H;go_enter Tryz.func218,Tryz.ntmps218;go_wp2_with (refine gA Tryz.func221 (mD.calls A25.out) ?_;intro nd)
    go_ret;exact⟨er,ul HB.out⟩
   ·obtain⟨aM6,apA⟩:=nm ([a0]:List Int);rw[←apA.out]at H;obtain rfl:=s1 H;go_enter Tryz.func218,Tryz.ntmps218;go_wp2_with (refine RZ 24 (Kd.int .u8) 5 [.int .u8 a0] apA (bU.one (show Kd.M (Kd.int .u8) _ _ _ a0 [.int .u8 a0]from rfl) (bU.none _ _)) ?_;intro aM7 w26 ay7 hb;have ay8:=ak (Kd.aG ay7 (aj (ul HB.out)));replace HB:=bs HB hb;clear hb ay7;have aIt:=sF (P:=Tryz.prog) Tryz.underlying22 Tryz.underlying5 Tryz.underlying9 (Kd.xI ay8.out))
    go_ret;exact⟨er,ul HB.out⟩
  ·replace H:=bd H;obtain⟨ay3,A29,H⟩:=H;obtain rfl:=s1 H;go_enter Tryz.func218,Tryz.ntmps218;go_wp2_with (refine gA Tryz.func221 (mD.calls A29.out) ?_;intro nd)
   go_ret;exact⟨er,ul HB.out⟩
def bM.l0:Nat→ByteArray→List ByteArray→ByteArray→Int→Option (List ByteArray×Bool)
 |0,_,_,_,_=>none
 |k+1,x0,x4,x5,x6=>if x6<(x0.size:Int)then(if 0≤x6 then(if(bt x0 x6)=10 then(if x4.length<8796093022208 then(bM.l0 k x0 (x4++[x5]) (⟨#[]⟩:ByteArray) (wrap64 (x6+1)))else(none))else(if(wrap64 (x6+1))=(x0.size:Int)then((nM.f (bt x0 x6) true).bind fun Si=>(if(wrap64 ((x5.size:Int)+(Si.size:Int)))>39 then(if x5.size+1≤9223372036854775807 then(if x4.length<8796093022208 then(if 0+Si.size≤9223372036854775807 then(bM.l0 k x0 (x4++[x5++(⟨#[61]⟩:ByteArray)]) ((⟨#[]⟩:ByteArray)++Si) (wrap64 (x6+1)))else(none))else(none))else(none))else(if x5.size+Si.size≤9223372036854775807 then(bM.l0 k x0 x4 (x5++Si) (wrap64 (x6+1)))else(none))))else(if 0≤(wrap64 (x6+1))then(if(wrap64 (x6+1))<(x0.size:Int)then((nM.f (bt x0 x6) ((bt x0 (wrap64 (x6+1)))==10)).bind fun Iw=>(if(wrap64 ((x5.size:Int)+(Iw.size:Int)))>39 then(if x5.size+1≤9223372036854775807 then(if x4.length<8796093022208 then(if 0+Iw.size≤9223372036854775807 then(bM.l0 k x0 (x4++[x5++(⟨#[61]⟩:ByteArray)]) ((⟨#[]⟩:ByteArray)++Iw) (wrap64 (x6+1)))else(none))else(none))else(none))else(if x5.size+Iw.size≤9223372036854775807 then(bM.l0 k x0 x4 (x5++Iw) (wrap64 (x6+1)))else(none))))else(none))else(none))))else(none))else(if x4.length<8796093022208 then(some ((x4++[x5]),true))else(none))
def bM.f (k:Nat) (a0:ByteArray):Option (List ByteArray×Bool):=if(a0.size:Int)>300 then(some ((([]:List ByteArray)),false))else(bM.l0 k a0 (([]:List ByteArray)) (⟨#[]⟩:ByteArray) 0)
theorem bM.calls {k:Nat} {a0:ByteArray} {r1:List ByteArray} {r2:Bool} {w:World} (h:bM.f k a0=some (r1,r2)):
  Calls Tryz.prog 211 #[.string a0] w fun e w'=>∃o7:Value,e= .returned (.tuple #[o7, .bool r2])∧Kd.R Kd.string 9 w' w.heap.size (fun _=>True) o7 r1∧Below w.heap.size w w':=by
 have HB:=ak (Below.refl w.heap.size w);unfold bM.f at h;have H:=h;clear h;replace H:=sp H;rcases H with⟨c2,H⟩|⟨c2,H⟩
 ·have qO:decide (300<(a0.size:Int))=true:=decide_eq_true c2;have zM:decide (300<a0.size)=true:=decide_eq_true (by omega);clear c2;obtain⟨aM8,apB⟩:=nm ([]:List ByteArray);rw[←apB.out]at H;obtain⟨rfl,rfl⟩:=s2 H;go_enter Tryz.func211,Tryz.ntmps211;go_wp2_with (refine II 11 Kd.string 9 apB ?_;intro aM9 w3 WO hb;have ay9:=ak (Kd.aG WO (aj (ul HB.out)));replace HB:=bs HB hb;clear hb WO)
  go_ret2;exact⟨_,er,ur ay9.out,ul HB.out⟩
 ·have qO:decide (300<(a0.size:Int))=false:=decide_eq_false c2;have zM:decide (300<a0.size)=false:=decide_eq_false (by omega);clear c2;obtain⟨aM_,apC⟩:=nm ([]:List ByteArray);rw[←apC.out]at H;have H':=ak H;clear H;go_enter Tryz.func211,Tryz.ntmps211;go_wp2_with (refine II 12 Kd.string 9 apC ?_;intro aNa w5 ho6 hb;have ay_:=ak (Kd.aG ho6 (aj (ul HB.out)));replace HB:=bs HB hb;clear hb ho6)
  go_loopg [4,5,6] k (fun kq v4 v5 v6 w'=>∃(eU:List ByteArray) (eY:ByteArray) (eX:Int),v5= .string eY∧v6= .int .i64 eX∧ah (bM.l0 kq a0 eU eY eX=some (r1,r2))∧ah (kq≤k)∧ah (Kd.R Kd.string 9 w' w.heap.size (fun _=>True) v4 eU)∧ah (Below w.heap.size w w'))
  case atStart=>exact⟨_,_,_,rs,rs,H',⟨Nat.le_refl _⟩,⟨ur ay_.out⟩,⟨ul HB.out⟩⟩
  case round=>
   clear H';try clear c2
   try clear qO
   try clear zM
   obtain⟨eU,eY,eX,rfl,rfl,HA,yH,je,HB⟩:=hrel
   cases gk with
   |zero=>exact zz HA.out
   |succ k1=>
    obtain⟨H⟩:=HA;simp only[bM.l0]at H;replace H:=sd H;rcases H with⟨tJ,H⟩|⟨tJ,H⟩
    ·replace H:=oG H;obtain⟨uG,H⟩:=H;replace H:=sq H;rcases H with⟨oD,uN,H⟩|⟨c10,oD,uN,H⟩
     ·replace H:=nl H;obtain⟨Uw,H⟩:=H;obtain⟨aNb,apD⟩:=nm (eU++[eY]);rw[←apD.out]at H;have H':=ak H;clear H;obtain⟨p9,q9,hx9⟩:=bx a0 eX;go_wp2_with (at_builtin;refine aP 23 25 Kd.string 23 9 (.string ⟨#[]⟩) 16 Tryz.underlying23 info9 HB (ur je.out) apD (by have:=Uw.out;omega) ?_;intro aNc w12 ho hb hg hat;have aza:=ak (ho);replace HB:=ak (hb);clear ho hb hg hat je)
      go_roundg k1
      case measure=>exact kl
      case rel=>exact⟨_,_,_,rs,rs,H',⟨kl⟩,⟨ur aza.out⟩,⟨ul HB.out⟩⟩
     ·replace H:=sq H;rcases H with⟨vw,zZ,H⟩|⟨c14,vw,zZ,H⟩
      ·replace H:=bd H;obtain⟨Si,A15,H⟩:=H;replace H:=sp H;rcases H with⟨c16,H⟩|⟨c16,H⟩
       ·have zA:decide (39<(wrap64 ((eY.size:Int)+(Si.size:Int))))=true:=decide_eq_true c16;replace H:=nn H;obtain⟨c17,H⟩:=H
        (try(have N9:decide (39<((eY.size:Int)+(Si.size:Int)))=true:=decide_eq_true (by have h_:=c16;have h2_:=c17;unfold wrap64 at h_;omega)));clear c16;have u_:=eq_true c17;have Q9:=decide_eq_true c17;try have azb:(9223372036854775807<eY.size+1)=False:=eq_false (Nat.not_lt.2 c17)
        replace H:=nl H;obtain⟨azc,H⟩:=H;obtain⟨aNd,apE⟩:=nm (eU++[eY++(⟨#[61]⟩:ByteArray)]);rw[←apE.out]at H;replace H:=nn H;obtain⟨c19,H⟩:=H;have DR:=eq_true c19;have H_:=decide_eq_true c19;try have aop:(9223372036854775807<0+Si.size)=False:=eq_false (Nat.not_lt.2 c19)
        have H':=ak H;clear H;obtain⟨p9,q9,hx9⟩:=bx a0 eX;try go_wp2
        replace je:=ak (Kd.lQ je.out);replace HB:=ak (fZ HB.out);obtain⟨p13,q13,acy⟩:=bx a0 eX;refine ro [15] [0,1,3,4,5,6,7,8,9,10,11,12,13,14,2,15,16] (fun w'=>True) trivial ?_
        generalize wr.drew=w20 at je HB⊢
        repeat(first|refine BN ?_|refine Yd ?_)
        refine rB Tryz.func218 (nM.calls A15.out) ?_;intro w21 hb;replace je:=rb je hb;replace HB:=bs HB hb;clear hb;refine⟨sx,?_⟩;repeat(first|refine BN ?_|refine Yd ?_)
        refine on ?_;try go_wp2_with (at_builtin;refine aP 49 52 Kd.string 23 9 (.string ⟨#[]⟩) 16 Tryz.underlying23 info9 HB (ur je.out) apE (by have:=azc.out;omega) ?_;intro aNe w22 ho hb hg hat;have azd:=ak (ho);replace HB:=ak (hb);clear ho hb hg hat je)
        go_roundg k1
        case measure=>exact kl
        case rel=>exact⟨_,_,_,rs,rs,H',⟨kl⟩,⟨ur azd.out⟩,⟨ul HB.out⟩⟩
       ·have zA:decide (39<(wrap64 ((eY.size:Int)+(Si.size:Int))))=false:=decide_eq_false c16;replace H:=nn H;obtain⟨c23,H⟩:=H
        (try(have N9:decide (39<((eY.size:Int)+(Si.size:Int)))=false:=decide_eq_false (by have h_:=c16;have h2_:=c23;unfold wrap64 at h_;omega)));clear c16;have CJ:=eq_true c23;have Rk:=decide_eq_true c23;try have axV:(9223372036854775807<eY.size+Si.size)=False:=eq_false (Nat.not_lt.2 c23)
        have H':=ak H;clear H;obtain⟨p9,q9,hx9⟩:=bx a0 eX;try go_wp2
        replace je:=ak (Kd.lQ je.out);replace HB:=ak (fZ HB.out);obtain⟨p13,q13,acy⟩:=bx a0 eX;refine ro [15] [0,1,3,4,5,6,7,8,9,10,11,12,13,14,2,15,16] (fun w'=>True) trivial ?_
        generalize wr.drew=w24 at je HB⊢
        repeat(first|refine BN ?_|refine Yd ?_)
        refine rB Tryz.func218 (nM.calls A15.out) ?_;intro w25 hb;replace je:=rb je hb;replace HB:=bs HB hb;clear hb;refine⟨sx,?_⟩;repeat(first|refine BN ?_|refine Yd ?_)
        refine on ?_;try go_wp2
        go_roundg k1
        case measure=>exact kl
        case rel=>exact⟨_,_,_,rs,rs,H',⟨kl⟩,⟨ur je.out⟩,⟨ul HB.out⟩⟩
      ·obtain⟨VU,OB⟩:∃j_:Int,(wrap64 (eX+1))=j_:=⟨_,rfl⟩
       replace H:(if 0≤(VU)then(if(VU)<(a0.size:Int)then((nM.f (bt a0 eX) ((bt a0 (VU))==10)).bind fun Iw=>(if(wrap64 ((eY.size:Int)+(Iw.size:Int)))>39 then(if eY.size+1≤9223372036854775807 then(if eU.length<8796093022208 then(if 0+Iw.size≤9223372036854775807 then(bM.l0 k1 a0 (eU++[eY++(⟨#[61]⟩:ByteArray)]) ((⟨#[]⟩:ByteArray)++Iw) VU)else(none))else(none))else(none))else(if eY.size+Iw.size≤9223372036854775807 then(bM.l0 k1 a0 eU (eY++Iw) VU)else(none))))else(none))else(none))=some (r1,r2):=by first|(rw[OB]at H;exact H)|(simp only[OB]at H⊢;exact H)
       (try rw[OB]at vw)
       (try rw[OB]at zZ);have aFd:(IntKind.i64.wrap (eX+1))=VU:=(jk _).trans OB;replace H:=oG H;obtain⟨IU,H⟩:=H;replace H:=oG H;obtain⟨IV,H⟩:=H;replace H:=bd H;obtain⟨Iw,A30,H⟩:=H;replace H:=sp H;rcases H with⟨c31,H⟩|⟨c31,H⟩
       ·have ajh:decide (39<(wrap64 ((eY.size:Int)+(Iw.size:Int))))=true:=decide_eq_true c31;replace H:=nn H;obtain⟨c32,H⟩:=H
        (try(have aji:decide (39<((eY.size:Int)+(Iw.size:Int)))=true:=decide_eq_true (by have h_:=c31;have h2_:=c32;unfold wrap64 at h_;omega)));clear c31;have aax:=eq_true c32;have ai6:=decide_eq_true c32;try have aIu:(9223372036854775807<eY.size+1)=False:=eq_false (Nat.not_lt.2 c32)
        replace H:=nl H;obtain⟨aze,H⟩:=H;obtain⟨aNf,apF⟩:=nm (eU++[eY++(⟨#[61]⟩:ByteArray)]);rw[←apF.out]at H;replace H:=nn H;obtain⟨c34,H⟩:=H;have aay:=eq_true c34;have aaz:=decide_eq_true c34;try have aIv:(9223372036854775807<0+Iw.size)=False:=eq_false (Nat.not_lt.2 c34)
        have H':=ak H;clear H;obtain⟨p9,q9,hx9⟩:=bx a0 eX;try go_wp2
        replace je:=ak (Kd.lQ je.out);replace HB:=ak (fZ HB.out);obtain⟨p13,q13,acy⟩:=bx a0 eX;obtain⟨p29,q29,hx29⟩:=bx a0 (VU);refine ro [15] [0,1,3,4,5,6,7,8,9,10,11,2,12,13,14,15,16] (fun w'=>True) trivial ?_
        generalize wr.drew=w35 at je HB⊢
        repeat refine BN ?_
        refine ld (N:=some 42) (gk.trans rfl) rfl rfl (fun K hK=>?_);refine xw Tryz.func218 (by kernel_rfl) rfl #[.int .u8 (bt a0 eX), .bool ((bt a0 (VU))==10)] (by rfl) rfl rfl (by(try simp only[List.map_toArray,List.map_cons,List.map_nil]);first|done|(simp only[OB];rfl)|rfl|(simp only[List.length_drop,List.length_take];rfl)) ?_
        with_reducible refine(nM.calls A30.out).mono ?_
        rintro e w36 ⟨rfl,hb⟩;refine⟨_,rfl,?_⟩;replace je:=rb je hb;replace HB:=bs HB hb;try clear hb
        refine hK.out _ _ trivial ?_;clear hK K;refine no (a':=?_) ?_ ?_
        rotate_left
        ·show Act.put _ (some 42) _=_
         simp only[Act.put,zN,zO,l_c,jk,kU];rfl
        repeat refine BN ?_
        refine on ?_;try go_wp2_with (at_builtin;refine aP 49 52 Kd.string 23 9 (.string ⟨#[]⟩) 16 Tryz.underlying23 info9 HB (ur je.out) apF (by have:=aze.out;omega) ?_;intro aNg w37 ho hb hg hat;have azf:=ak (ho);replace HB:=ak (hb);clear ho hb hg hat je)
        go_roundg k1
        case measure=>exact kl
        case rel=>exact⟨_,_,_,rs,(by first|rfl|(simp;done)|(simp only[←OB]<;>(first|rfl|simp))|(simp[*];done)),H',⟨kl⟩,⟨ur azf.out⟩,⟨ul HB.out⟩⟩
       ·have ajh:decide (39<(wrap64 ((eY.size:Int)+(Iw.size:Int))))=false:=decide_eq_false c31;replace H:=nn H;obtain⟨c38,H⟩:=H
        (try(have aji:decide (39<((eY.size:Int)+(Iw.size:Int)))=false:=decide_eq_false (by have h_:=c31;have h2_:=c38;unfold wrap64 at h_;omega)));clear c31;have afF:=eq_true c38;have aIw:=decide_eq_true c38;try have aIx:(9223372036854775807<eY.size+Iw.size)=False:=eq_false (Nat.not_lt.2 c38)
        have H':=ak H;clear H;obtain⟨p9,q9,hx9⟩:=bx a0 eX;try go_wp2
        replace je:=ak (Kd.lQ je.out);replace HB:=ak (fZ HB.out);obtain⟨p13,q13,acy⟩:=bx a0 eX;obtain⟨p29,q29,hx29⟩:=bx a0 (VU);refine ro [15] [0,1,3,4,5,6,7,8,9,10,11,2,12,13,14,15,16] (fun w'=>True) trivial ?_
        generalize wr.drew=w39 at je HB⊢
        repeat refine BN ?_
        refine ld (N:=some 42) (gk.trans rfl) rfl rfl (fun K hK=>?_);refine xw Tryz.func218 (by kernel_rfl) rfl #[.int .u8 (bt a0 eX), .bool ((bt a0 (VU))==10)] (by rfl) rfl rfl (by(try simp only[List.map_toArray,List.map_cons,List.map_nil]);first|done|(simp only[OB];rfl)|rfl|(simp only[List.length_drop,List.length_take];rfl)) ?_
        with_reducible refine(nM.calls A30.out).mono ?_
        rintro e w40 ⟨rfl,hb⟩;refine⟨_,rfl,?_⟩;replace je:=rb je hb;replace HB:=bs HB hb;try clear hb
        refine hK.out _ _ trivial ?_;clear hK K;refine no (a':=?_) ?_ ?_
        rotate_left
        ·show Act.put _ (some 42) _=_
         simp only[Act.put,zN,zO,l_c,jk,kU];rfl
        repeat refine BN ?_
        refine on ?_;try go_wp2
        go_roundg k1
        case measure=>exact kl
        case rel=>exact⟨_,_,_,rs,(by first|rfl|(simp;done)|(simp only[←OB]<;>(first|rfl|simp))|(simp[*];done)),H',⟨kl⟩,⟨ur je.out⟩,⟨ul HB.out⟩⟩
    ·replace H:=nl H;obtain⟨azg,H⟩:=H;obtain⟨aNh,apG⟩:=nm (eU++[eY]);rw[←apG.out]at H;obtain⟨rfl,rfl⟩:=s2 H;go_wp2_with (at_builtin;refine aP 57 59 Kd.string 23 9 (.string ⟨#[]⟩) 16 Tryz.underlying23 info9 HB (ur je.out) apG (by have:=azg.out;omega) ?_;intro aNi w42 ho hb hg hat;have azh:=ak (ho);replace HB:=ak (hb);clear ho hb hg hat je)
     go_ret2;exact⟨_,er,ur azh.out,ul HB.out⟩
def kM.l0:Nat→ByteArray→Int→List ByteArray→Option (List ByteArray)
 |0,_,_,_=>none
 |k+1,x0,x1,x5=>if(x0.size:Int)>x1 then(if 0≤x1 then(if x1≤(x0.size:Int)then(if x5.length<8796093022208 then(kM.l0 k (x0.extract (x1:Int).toNat x0.size) x1 (x5++[x0.extract 0 (x1:Int).toNat]))else(none))else(none))else(none))else(if x5.length<8796093022208 then(some (x5++[x0]))else(none))
def kM.f (k:Nat) (a0:ByteArray) (a1:Int):Option (List ByteArray):=kM.l0 k a0 a1 (([]:List ByteArray))
theorem kM.calls {k:Nat} {a0:ByteArray} {a1:Int} {r:List ByteArray} {w:World} (h:kM.f k a0 a1=some r):
  Calls Tryz.prog 219 #[.string a0, .int .i64 a1] w fun e w'=>∃o7:Value,e= .returned (o7)∧Kd.R Kd.string 9 w' w.heap.size (fun _=>True) o7 r∧Below w.heap.size w w':=by
 have HB:=ak (Below.refl w.heap.size w);unfold kM.f at h;have H:=h;clear h;obtain⟨aNj,apH⟩:=nm ([]:List ByteArray);rw[←apH.out]at H;have H':=ak H;clear H;go_enter Tryz.func219,Tryz.ntmps219;go_wp2_with (refine II 6 Kd.string 9 apH ?_;intro aNk w3 WO hb;have azi:=ak (Kd.aG WO (aj (ul HB.out)));replace HB:=bs HB hb;clear hb WO)
 go_loopg [0,5] k (fun kq v0 v5 w'=>∃(sO:ByteArray) (eY:List ByteArray),v0= .string sO∧ah (kM.l0 kq sO a1 eY=some r)∧ah (kq≤k)∧ah (Kd.R Kd.string 9 w' w.heap.size (fun _=>True) v5 eY)∧ah (Below w.heap.size w w'))
 case atStart=>exact⟨_,_,rs,H',⟨Nat.le_refl _⟩,⟨ur azi.out⟩,⟨ul HB.out⟩⟩
 case round=>
  clear H';obtain⟨sO,eY,rfl,HA,yH,rQ,HB⟩:=hrel
  cases gk with
  |zero=>exact zz HA.out
  |succ k1=>
   obtain⟨H⟩:=HA;simp only[kM.l0]at H;replace H:=sp H;rcases H with⟨c5,H⟩|⟨c5,H⟩
   ·have nT:decide (a1<(sO.size:Int))=true:=decide_eq_true c5;clear c5;replace H:=Dc H;obtain⟨oV,zX,H⟩:=H;replace H:=Dc H;obtain⟨tJ,PZ,H⟩:=H;replace H:=nl H;obtain⟨arh,H⟩:=H;obtain⟨aNl,apI⟩:=nm (eY++[sO.extract 0 (a1:Int).toNat]);rw[←apI.out]at H;have A_:=eq_true (of_decide_eq_true (by assumption):0≤a1);have oD:=eq_true (of_decide_eq_true (by assumption):a1≤(sO.size:Int));have H':=ak H;clear H;go_wp2_with (at_builtin;refine aP 11 15 Kd.string 23 9 (.string ⟨#[]⟩) 16 Tryz.underlying23 info9 HB (ur rQ.out) apI (by have:=arh.out;omega) ?_;intro aNm Wn ho hb hg hat;have azj:=ak (ho);replace HB:=ak (hb);clear ho hb hg hat rQ)
    go_roundg k1
    case measure=>exact kl
    case rel=>exact⟨_,_,rs,H',⟨kl⟩,⟨ur azj.out⟩,⟨ul HB.out⟩⟩
   ·have nT:decide (a1<(sO.size:Int))=false:=decide_eq_false c5;clear c5;replace H:=nl H;obtain⟨aaL,H⟩:=H;obtain⟨aNn,apJ⟩:=nm (eY++[sO]);rw[←apJ.out]at H;obtain rfl:=s1 H;go_wp2_with (at_builtin;refine aP 20 22 Kd.string 23 9 (.string ⟨#[]⟩) 16 Tryz.underlying23 info9 HB (ur rQ.out) apJ (by have:=aaL.out;omega) ?_;intro aNo w13 ho hb hg hat;have azk:=ak (ho);replace HB:=ak (hb);clear ho hb hg hat rQ)
    go_ret;exact⟨_,er,ur azk.out,ul HB.out⟩
def qK.f:Option (ByteArray):=some (⟨#[65,66,67,68,69,70,71,72,73,74,75,76,77,78,79,80,81,82,83,84,85,86,87,88,89,90,97,98,99,100,101,102,103,104,105,106,107,108,109,110,111,112,113,114,115,116,117,118,119,120,121,122,48,49,50,51,52,53,54,55,56,57,43,47]⟩:ByteArray)
theorem qK.calls (r:ByteArray) (w:World) (h:qK.f=some r):
  Calls Tryz.prog 222 #[] w fun e w'=>e= .returned (.string r)∧dN w w':=by
 unfold qK.f at h;have H:=h;clear h;obtain rfl:=s1 H;go_enter Tryz.func222,Tryz.ntmps222;go_wp2;go_ret;exact⟨rs,dn⟩
mutual
def bQ.l0:Nat→ByteArray→ByteArray→Int→Option (ByteArray)
 |0,_,_,_=>none
 |k+1,x0,x3,x4=>if x4<(x0.size:Int)then(if 0≤x4 then(if(wrap64 (x4+1))<(x0.size:Int)then(if 0≤(wrap64 (x4+1))then(bQ.j1 k x0 x3 x4 (wrap64 ((wrap64 ((wrap64 (bt x0 x4))*65536))+(wrap64 ((wrap64 (bt x0 (wrap64 (x4+1))))*256)))))else(none))else(bQ.j1 k x0 x3 x4 (wrap64 ((wrap64 (bt x0 x4))*65536))))else(none))else(some x3)
def bQ.j1:Nat→ByteArray→ByteArray→Int→Int→Option (ByteArray)
 |0,_,_,_,_=>none
 |k+1,x0,x3,x4,x5=>if(wrap64 (x4+2))<(x0.size:Int)then(if 0≤(wrap64 (x4+2))then(bQ.j2 k x0 x3 x4 (wrap64 (x5+(wrap64 (bt x0 (wrap64 (x4+2)))))))else(none))else(bQ.j2 k x0 x3 x4 x5)
def bQ.j2:Nat→ByteArray→ByteArray→Int→Int→Option (ByteArray)
 |0,_,_,_,_=>none
 |k+1,x0,x3,x4,x5=>bQ.l1 k x0 x3 x4 x5 0
def bQ.l1:Nat→ByteArray→ByteArray→Int→Int→Int→Option (ByteArray)
 |0,_,_,_,_,_=>none
 |k+1,x0,x3,x4,x5,x6=>if x6<4 then(if(wrap64 (x4+x6))>(x0.size:Int)then(if x3.size+1≤9223372036854775807 then(bQ.l1 k x0 (x3++(⟨#[61]⟩:ByteArray)) x4 x5 (wrap64 (x6+1)))else(none))else(if 0≤(wrap64 (18-(wrap64 (6*x6))))then((qK.f).bind fun LH=>(if 0≤(Go.bits .and .i64 (shr .i64 x5 (wrap64 (18-(wrap64 (6*x6))))) 63)then(if(Go.bits .and .i64 (shr .i64 x5 (wrap64 (18-(wrap64 (6*x6))))) 63)≤(wrap64 ((Go.bits .and .i64 (shr .i64 x5 (wrap64 (18-(wrap64 (6*x6))))) 63)+1))then(if(wrap64 ((Go.bits .and .i64 (shr .i64 x5 (wrap64 (18-(wrap64 (6*x6))))) 63)+1))≤(LH.size:Int)then(if x3.size+(LH.extract ((Go.bits .and .i64 (shr .i64 x5 (wrap64 (18-(wrap64 (6*x6))))) 63):Int).toNat ((wrap64 ((Go.bits .and .i64 (shr .i64 x5 (wrap64 (18-(wrap64 (6*x6))))) 63)+1)):Int).toNat).size≤9223372036854775807 then(bQ.l1 k x0 (x3++(LH.extract ((Go.bits .and .i64 (shr .i64 x5 (wrap64 (18-(wrap64 (6*x6))))) 63):Int).toNat ((wrap64 ((Go.bits .and .i64 (shr .i64 x5 (wrap64 (18-(wrap64 (6*x6))))) 63)+1)):Int).toNat)) x4 x5 (wrap64 (x6+1)))else(none))else(none))else(none))else(none)))else(none)))else(bQ.l0 k x0 x3 (wrap64 (x4+3)))
end
def bQ.f (k:Nat) (a0:ByteArray):Option (ByteArray):=bQ.l0 k a0 (⟨#[]⟩:ByteArray) 0
theorem bQ.calls {k:Nat} {a0 r:ByteArray} {w:World} (h:bQ.f k a0=some r):
  Calls Tryz.prog 220 #[.string a0] w fun e w'=>e= .returned (.string r)∧dN w w':=by
 unfold bQ.f at h;have H:=h;clear h;have H':=ak H;clear H;go_enter Tryz.func220,Tryz.ntmps220;go_wp2;go_loopg [3,4] k (fun kq v3 v4 w'=>∃(dX:ByteArray) (eU:Int),v3= .string dX∧v4= .int .i64 eU∧ah (bQ.l0 kq a0 dX eU=some r)∧ah (kq≤k)∧dN w w')
 case atStart=>exact⟨_,_,rs,rs,H',⟨Nat.le_refl _⟩,dn⟩
 case round=>
  clear H';obtain⟨dX,eU,rfl,rfl,HA,yH,⟨m1,rfl⟩⟩:=hrel
  cases gk with
  |zero=>exact zz HA.out
  |succ k1=>
   obtain⟨H⟩:=HA;simp only[bQ.l0]at H;replace H:=sd H;rcases H with⟨qO,H⟩|⟨qO,H⟩
   ·replace H:=oG H;obtain⟨iT,H⟩:=H;have HC5:=ak H;clear H;obtain⟨p4,q4,hx4⟩:=bx a0 eU;go_upto_if 23 with(fail)
    go_cut [5] (fun v5 wc=>∃(kq:Nat) (aat:Int),v5= .int .i64 aat∧ah (bQ.j1 kq a0 dX eU aat=some r)∧ah (kq≤k1)∧dN w wc)
    case first=>
     have H:=HC5.out;clear HC5;replace H:=sp H;rcases H with⟨c6,H⟩|⟨c6,H⟩
     ·have oV:=decide_eq_true c6
      (try(have zX:decide ((eU+1)<(a0.size:Int))=true:=decide_eq_true (by have h_:=c6;unfold wrap64 at h_;omega)));clear c6
      (first|rw[oV]|(simp only[jk,kU];rw[oV])|skip);obtain⟨ji7,RY⟩:∃j_:Int,(wrap64 (eU+1))=j_:=⟨_,rfl⟩
      replace H:(if 0≤(ji7)then(bQ.j1 k1 a0 dX eU (wrap64 ((wrap64 ((wrap64 (bt a0 eU))*65536))+(wrap64 ((wrap64 (bt a0 (ji7)))*256)))))else(none))=some r:=by first|(rw[RY]at H;exact H)|(simp only[RY]at H⊢;exact H)
      (try rw[RY]at oV);have awl:(IntKind.i64.wrap (eU+1))=ji7:=(jk _).trans RY;replace H:=oG H;obtain⟨uG,H⟩:=H;have H':=ak H;clear H;obtain⟨p9,q9,hx9⟩:=bx a0 (ji7);go_wp2;go_meet
      case rel=>exact⟨_,_,(by first|rfl|(simp;done)|(simp only[←RY]<;>(first|rfl|simp))|(simp[*];done)),H',⟨kl⟩,dn⟩
     ·have oV:=decide_eq_false c6
      (try(have zX:decide ((eU+1)<(a0.size:Int))=false:=decide_eq_false (by have h_:=c6;unfold wrap64 at h_;omega)));clear c6
      (first|rw[oV]|(simp only[jk,kU];rw[oV])|skip);have H':=ak H;clear H;go_wp2;go_meet
      case rel=>exact⟨_,_,rs,H',⟨kl⟩,dn⟩
    case rest=>
     clear HC5;try clear qO
     try clear iT
     try clear p4
     try clear q4
     try clear hx4
     try clear p4
     try clear q4
     obtain⟨kq,aat,rfl,HA,HJ4,⟨mc4,rfl⟩⟩:=hcut
     cases kq with
     |zero=>exact zz HA.out
     |succ kj4=>
      obtain⟨H⟩:=HA;simp only[bQ.j1]at H;have ata:=ak H;clear H;go_upto_if 36 with(fail)
      go_cut [5] (fun v5 wc=>∃(kq:Nat) (Jb:Int),v5= .int .i64 Jb∧ah (bQ.j2 kq a0 dX eU Jb=some r)∧ah (kq≤kj4)∧dN w wc)
      case first=>
       have H:=ata.out;clear ata;replace H:=sp H;rcases H with⟨c11,H⟩|⟨c11,H⟩
       ·have vk:=decide_eq_true c11
        (try(have Ib:decide ((eU+2)<(a0.size:Int))=true:=decide_eq_true (by have h_:=c11;unfold wrap64 at h_;omega)));clear c11
        (first|rw[vk]|(simp only[jk,kU];rw[vk])|skip);obtain⟨Sj,Ig⟩:∃j_:Int,(wrap64 (eU+2))=j_:=⟨_,rfl⟩
        replace H:(if 0≤(Sj)then(bQ.j2 kj4 a0 dX eU (wrap64 (aat+(wrap64 (bt a0 (Sj))))))else(none))=some r:=by first|(rw[Ig]at H;exact H)|(simp only[Ig]at H⊢;exact H)
        (try rw[Ig]at vk);have atb:(IntKind.i64.wrap (eU+2))=Sj:=(jk _).trans Ig;replace H:=oG H;obtain⟨wM,H⟩:=H;have H':=ak H;clear H;obtain⟨p14,q14,asf⟩:=bx a0 (Sj);go_wp2;go_meet
        case rel=>exact⟨_,_,(by first|rfl|(simp;done)|(simp only[←Ig]<;>(first|rfl|simp))|(simp[*];done)),H',⟨kl⟩,dn⟩
       ·have vk:=decide_eq_false c11
        (try(have Ib:decide ((eU+2)<(a0.size:Int))=false:=decide_eq_false (by have h_:=c11;unfold wrap64 at h_;omega)));clear c11
        (first|rw[vk]|(simp only[jk,kU];rw[vk])|skip);have H':=ak H;clear H;go_wp2;go_meet
        case rel=>exact⟨_,_,rs,H',⟨kl⟩,dn⟩
      case rest=>
       clear ata;try clear qO
       try clear iT
       try clear p4
       try clear q4
       try clear hx4
       try clear p4
       try clear q4
       obtain⟨kq,Jb,rfl,HA,HJ9,⟨mc9,rfl⟩⟩:=hcut
       cases kq with
       |zero=>exact zz HA.out
       |succ kj9=>
        obtain⟨H⟩:=HA;simp only[bQ.j2]at H;have H':=ak H;clear H;go_wp2;go_loopg [3,6] kj9 (fun kq v3 v6 w'=>∃(VW:ByteArray) (UK:Int),v3= .string VW∧v6= .int .i64 UK∧ah (bQ.l1 kq a0 VW eU Jb UK=some r)∧ah (kq≤kj9)∧dN w w')
        case atStart=>exact⟨_,_,rs,rs,H',⟨Nat.le_refl _⟩,dn⟩
        case round=>
         clear H';try clear qO
         try clear iT
         try clear p4
         try clear q4
         try clear hx4
         try clear p4
         try clear q4
         obtain⟨VW,UK,rfl,rfl,HA,HK4,⟨m4,rfl⟩⟩:=hrel
         cases gk with
         |zero=>exact zz HA.out
         |succ k4=>
          obtain⟨H⟩:=HA;simp only[bQ.l1]at H;replace H:=sd H;rcases H with⟨yx,H⟩|⟨yx,H⟩
          ·replace H:=sp H;rcases H with⟨c16,H⟩|⟨c16,H⟩
           ·have zA:decide ((a0.size:Int)<(wrap64 (eU+UK)))=true:=decide_eq_true c16;replace H:=nn H;obtain⟨c17,H⟩:=H
            (try(have N9:decide ((a0.size:Int)<(eU+UK))=true:=decide_eq_true (by have h_:=c16;have h2_:=c17;unfold wrap64 at h_;omega)));clear c16;have u_:=eq_true c17;have Q9:=decide_eq_true c17;try have azb:(9223372036854775807<VW.size+1)=False:=eq_false (Nat.not_lt.2 c17)
            have H':=ak H;clear H;go_wp2;go_roundg k4
            case measure=>exact kl
            case rel=>exact⟨_,_,rs,rs,H',⟨kl⟩,dn⟩
           ·have zA:decide ((a0.size:Int)<(wrap64 (eU+UK)))=false:=decide_eq_false c16
            (try(have N9:decide ((a0.size:Int)<(eU+UK))=false:=decide_eq_false (by have h_:=c16;unfold wrap64 at h_;omega)));clear c16;obtain⟨OC,ajN⟩:∃j_:Int,(wrap64 (18-(wrap64 (6*UK))))=j_:=⟨_,rfl⟩
            replace H:(if 0≤(OC)then((qK.f).bind fun LH=>(if 0≤(Go.bits .and .i64 (shr .i64 Jb (OC)) 63)then(if(Go.bits .and .i64 (shr .i64 Jb (OC)) 63)≤(wrap64 ((Go.bits .and .i64 (shr .i64 Jb (OC)) 63)+1))then(if(wrap64 ((Go.bits .and .i64 (shr .i64 Jb (OC)) 63)+1))≤(LH.size:Int)then(if VW.size+(LH.extract ((Go.bits .and .i64 (shr .i64 Jb (OC)) 63):Int).toNat ((wrap64 ((Go.bits .and .i64 (shr .i64 Jb (OC)) 63)+1)):Int).toNat).size≤9223372036854775807 then(bQ.l1 k4 a0 (VW++(LH.extract ((Go.bits .and .i64 (shr .i64 Jb (OC)) 63):Int).toNat ((wrap64 ((Go.bits .and .i64 (shr .i64 Jb (OC)) 63)+1)):Int).toNat)) eU Jb (wrap64 (UK+1)))else(none))else(none))else(none))else(none)))else(none))=some r:=by first|(rw[ajN]at H;exact H)|(simp only[ajN]at H⊢;exact H)
            have aFe:(IntKind.i64.wrap (18-(wrap64 (6*UK))))=OC:=(jk _).trans ajN;replace H:=Dc H;obtain⟨DR,H_,H⟩:=H;obtain⟨OD,aaM⟩:∃j_:Int,(shr .i64 Jb (OC))=j_:=⟨_,rfl⟩
            replace H:((qK.f).bind fun LH=>(if 0≤(Go.bits .and .i64 (OD) 63)then(if(Go.bits .and .i64 (OD) 63)≤(wrap64 ((Go.bits .and .i64 (OD) 63)+1))then(if(wrap64 ((Go.bits .and .i64 (OD) 63)+1))≤(LH.size:Int)then(if VW.size+(LH.extract ((Go.bits .and .i64 (OD) 63):Int).toNat ((wrap64 ((Go.bits .and .i64 (OD) 63)+1)):Int).toNat).size≤9223372036854775807 then(bQ.l1 k4 a0 (VW++(LH.extract ((Go.bits .and .i64 (OD) 63):Int).toNat ((wrap64 ((Go.bits .and .i64 (OD) 63)+1)):Int).toNat)) eU Jb (wrap64 (UK+1)))else(none))else(none))else(none))else(none)))=some r:=by first|(rw[aaM]at H;exact H)|(simp only[aaM]at H⊢;exact H)
            have aFf:(Jb/2 ^ min (OC).toNat 64)=OD:=aaM;have aFg:(OC)≤64→(Jb/2 ^ (OC).toNat)=OD:=aha aaM;replace H:=bd H;obtain⟨LH,A21,H⟩:=H;replace H:=Dc H;obtain⟨EJ,aeE,H⟩:=H;replace H:=nn H;obtain⟨c23,H⟩:=H;have CJ:=eq_true c23;have Rk:=decide_eq_true c23;replace H:=nn H;obtain⟨c24,H⟩:=H;have Ul:=eq_true c24;have ajp:=decide_eq_true c24;replace H:=nn H;obtain⟨c25,H⟩:=H;have Ud:=eq_true c25;have aiz:=decide_eq_true c25;try have aIy:(9223372036854775807<VW.size+((LH.extract ((Go.bits .and .i64 (OD) 63):Int).toNat ((wrap64 ((Go.bits .and .i64 (OD) 63)+1)):Int).toNat).size))=False:=by have h_:=c25;simp only[ByteArray.size_append,ByteArray.size_extract]at h_;refine eq_false ?_;simp only[decide_eq_true_eq]at*;omega
            try have avA:(9223372036854775807<VW.size+(LH.extract ((Go.bits .and .i64 (OD) 63):Int).toNat ((wrap64 ((Go.bits .and .i64 (OD) 63)+1)):Int).toNat).size)=False:=eq_false (Nat.not_lt.2 c25)
            have H':=ak H;clear H;go_wp2_with (refine gA Tryz.func222 (qK.calls LH _ A21.out) ?_;intro nd)
            go_roundg k4
            case measure=>exact kl
            case rel=>exact⟨_,_,(by first|rfl|(simp;done)|(simp only[←aaM]<;>(first|rfl|simp))|(simp[*];done)),rs,H',⟨kl⟩,dn⟩
          ·have H':=ak H;clear H;go_wp2;go_roundg k4
           case measure=>exact kl
           case rel=>exact⟨_,_,rs,rs,H',⟨kl⟩,dn⟩
   ·obtain rfl:=s1 H;go_wp2;go_ret;exact⟨rs,dn⟩
def mO.f (k:Nat) (a0:ByteArray):Option (List ByteArray×Bool):=if(a0.size:Int)>300 then(some ((([]:List ByteArray)),false))else((bQ.f k a0).bind fun azl=>((kM.f k azl 40).bind fun azm=>(some (azm,true))))
theorem mO.calls {k:Nat} {a0:ByteArray} {r1:List ByteArray} {r2:Bool} {w:World} (h:mO.f k a0=some (r1,r2)):
  Calls Tryz.prog 212 #[.string a0] w fun e w'=>∃o7:Value,e= .returned (.tuple #[o7, .bool r2])∧Kd.R Kd.string 9 w' w.heap.size (fun _=>True) o7 r1∧Below w.heap.size w w':=by
 have HB:=ak (Below.refl w.heap.size w);unfold mO.f at h;have H:=h;clear h;replace H:=sp H;rcases H with⟨c2,H⟩|⟨c2,H⟩
 ·have qO:decide (300<(a0.size:Int))=true:=decide_eq_true c2;have zM:decide (300<a0.size)=true:=decide_eq_true (by omega);clear c2;obtain⟨aNp,apK⟩:=nm ([]:List ByteArray);rw[←apK.out]at H;obtain⟨rfl,rfl⟩:=s2 H;go_enter Tryz.func212,Tryz.ntmps212;go_wp2_with (refine II 7 Kd.string 9 apK ?_;intro aNq w3 WO hb;have azn:=ak (Kd.aG WO (aj (ul HB.out)));replace HB:=bs HB hb;clear hb WO)
  go_ret2;exact⟨_,er,ur azn.out,ul HB.out⟩
 ·have qO:decide (300<(a0.size:Int))=false:=decide_eq_false c2;have zM:decide (300<a0.size)=false:=decide_eq_false (by omega);clear c2;replace H:=bd H;obtain⟨azl,A5,H⟩:=H;replace H:=bd H;obtain⟨azm,A6,H⟩:=H;obtain⟨rfl,rfl⟩:=s2 H;go_enter Tryz.func212,Tryz.ntmps212;go_wp2_with (first|(refine gA Tryz.func220 (bQ.calls A5.out) ?_;intro nd)|(refine gV Tryz.func219 (kM.calls A6.out) ?_;rintro aNr w7 ⟨ho0,hb⟩;have azo:=ak (Kd.aG ho0 (aj (ul HB.out)));replace HB:=bs HB hb;clear hb;(try clear ho0)))
  go_ret2;exact⟨_,er,ur azo.out,ul HB.out⟩
def kD.l0:Nat→List ByteArray→Int→Int→Option (Int)
 |0,_,_,_=>none
 |k+1,x0,x3,x4=>if x4<(x0.length:Int)then(if 0≤x4 then(kD.l0 k x0 (wrap64 ((wrap64 (x3+((qg ByteArray.empty x0 x4).size:Int)))+1)) (wrap64 (x4+1)))else(none))else(some x3)
def kD.f (k:Nat) (l0:List ByteArray):Option (Int):=kD.l0 k l0 0 0
theorem kD.calls {k c0:Nat} {A0:Option Addr} {l0:List ByteArray} {r:Int} {w:World} (hr0:Kd.C Kd.string w A0 l0.length l0) (hc0:l0.length≤c0) (h:kD.f k l0=some r):
  Calls Tryz.prog 213 #[.slice A0 l0.length c0] w fun e w'=>e= .returned (.int .i64 r)∧dN w w':=by
 have HR0:=ak hr0;have zx:=ak hc0;clear hr0 hc0;unfold kD.f at h;have H:=h;clear h;have H':=ak H;clear H;go_enter Tryz.func213,Tryz.ntmps213;go_wp2;go_loopg [3,4] k (fun kq v3 v4 w'=>∃(dX:Int) (eU:Int),v3= .int .i64 dX∧v4= .int .i64 eU∧ah (kD.l0 kq l0 dX eU=some r)∧ah (kq≤k)∧dN w w')
 case atStart=>exact⟨_,_,rs,rs,H',⟨Nat.le_refl _⟩,dn⟩
 case round=>
  clear H';obtain⟨dX,eU,rfl,rfl,HA,yH,⟨m1,rfl⟩⟩:=hrel
  cases gk with
  |zero=>exact zz HA.out
  |succ k1=>
   obtain⟨H⟩:=HA;simp only[kD.l0]at H;replace H:=sd H;rcases H with⟨qO,H⟩|⟨qO,H⟩
   ·replace H:=oG H;obtain⟨iT,H⟩:=H;have H':=ak H;clear H;have atc:=zi eU;have atd:=zj eU l0.length;obtain⟨aIz,aFh,aDu⟩:=Kd.jI HR0.out eU atc atd;cases aFh;replace atc:=eq_true atc;replace atd:=eq_true atd;go_wp2;go_roundg k1
    case measure=>exact kl
    case rel=>exact⟨_,_,rs,rs,H',⟨kl⟩,dn⟩
   ·obtain rfl:=s1 H;go_wp2;go_ret;exact⟨rs,dn⟩
def mP.f (k:Nat) (a0:ByteArray):Option (Int×Bool):=if(a0.size:Int)>300 then(some (0,false))else((jc.f k a0).bind fun azp=>(if azp.2=true then(some (0,true))else((bM.f k a0).bind fun azq=>((mO.f k a0).bind fun azr=>((kD.f k azq.1).bind fun azs=>((kD.f k azr.1).bind fun azt=>(if azs≤azt then(some (1,true))else(some (2,true)))))))))
theorem mP.calls {k:Nat} {a0:ByteArray} {r1:Int} {r2:Bool} {w:World} (h:mP.f k a0=some (r1,r2)):
  Calls Tryz.prog 195 #[.string a0] w fun e w'=>e= .returned (.tuple #[.int .i64 r1, .bool r2])∧Below w.heap.size w w':=by
 have HB:=ak (Below.refl w.heap.size w);unfold mP.f at h;have H:=h;clear h;replace H:=sp H;rcases H with⟨c2,H⟩|⟨c2,H⟩
 ·have qO:decide (300<(a0.size:Int))=true:=decide_eq_true c2;have zM:decide (300<a0.size)=true:=decide_eq_true (by omega);clear c2;obtain⟨rfl,rfl⟩:=s2 H;go_enter Tryz.func195,Tryz.ntmps195;go_wp2;go_ret2;exact⟨er,ul HB.out⟩
 ·have qO:decide (300<(a0.size:Int))=false:=decide_eq_false c2;have zM:decide (300<a0.size)=false:=decide_eq_false (by omega);clear c2;replace H:=bd H;obtain⟨⟨aNs,aNt⟩,A3,H⟩:=H
  (try dsimp only at H);replace H:=sb H;rcases H with⟨rfl,H⟩|⟨rfl,H⟩
  ·obtain⟨rfl,rfl⟩:=s2 H;go_enter Tryz.func195,Tryz.ntmps195;go_wp2_with (refine gV Tryz.func210 (jc.calls A3.out) ?_;rintro azu w5 ⟨ho0,hb⟩;have EU:=ak (Kd.aG ho0 (aj (ul HB.out)));replace HB:=bs HB hb;clear hb;(try clear ho0))
   go_ret2;exact⟨er,ul HB.out⟩
  ·replace H:=bd H;obtain⟨⟨aNu,aNv⟩,A6,H⟩:=H
   (try dsimp only at H);replace H:=bd H;obtain⟨⟨arv,aNw⟩,A7,H⟩:=H
   (try dsimp only at H);replace H:=bd H;obtain⟨azs,A8,H⟩:=H;replace H:=bd H;obtain⟨azt,A9,H⟩:=H;replace H:=sd H;rcases H with⟨oD,H⟩|⟨oD,H⟩
   ·obtain⟨rfl,rfl⟩:=s2 H;go_enter Tryz.func195,Tryz.ntmps195;go_wp2_with (first|(refine gV Tryz.func210 (jc.calls A3.out) ?_;rintro azu Wn ⟨ho0,hb⟩;have EU:=ak (Kd.aG ho0 (aj (ul HB.out)));replace HB:=bs HB hb;clear hb;(try clear ho0))|(refine gV Tryz.func211 (bM.calls A6.out) ?_;rintro aFi w12 ⟨ho0,hb⟩;have Gj:=ak (Kd.aG (Kd.fE ho0 (Kd.jP (ur EU.out))) (aj (ul HB.out)));replace EU:=ak (Kd.eu (ur EU.out) (Kd.b_ ho0) hb);replace HB:=bs HB hb;clear hb;(try clear ho0))|(refine gV Tryz.func212 (mO.calls A7.out) ?_;rintro aFj w13 ⟨ho0,hb⟩;have UL:=ak (Kd.aG (Kd.fE (Kd.fE ho0 (Kd.jP (ur EU.out))) (Kd.jP (ur Gj.out))) (aj (ul HB.out)));replace EU:=ak (Kd.eu (ur EU.out) (Kd.b_ ho0) hb);replace Gj:=ak (Kd.eu (ur Gj.out) (Kd.b_ ho0) hb);replace HB:=bs HB hb;clear hb;(try clear ho0);obtain⟨FU,FV,VI⟩:=Kd.aH Gj.out;subst VI)|(refine gA Tryz.func213 (kD.calls (cu ((Kd.aK Gj.out).2.2)) ((Kd.aK Gj.out).2.1) A8.out) ?_;intro nd;obtain⟨FD,Ez,TS⟩:=Kd.aH UL.out;subst TS)|(refine gA Tryz.func213 (kD.calls (cu ((Kd.aK UL.out).2.2)) ((Kd.aK UL.out).2.1) A9.out) ?_;intro nd))
    go_ret2;exact⟨er,ul HB.out⟩
   ·obtain⟨rfl,rfl⟩:=s2 H;go_enter Tryz.func195,Tryz.ntmps195;go_wp2_with (first|(refine gV Tryz.func210 (jc.calls A3.out) ?_;rintro azu w16 ⟨ho0,hb⟩;have EU:=ak (Kd.aG ho0 (aj (ul HB.out)));replace HB:=bs HB hb;clear hb;(try clear ho0))|(refine gV Tryz.func211 (bM.calls A6.out) ?_;rintro aFi w17 ⟨ho0,hb⟩;have Gj:=ak (Kd.aG (Kd.fE ho0 (Kd.jP (ur EU.out))) (aj (ul HB.out)));replace EU:=ak (Kd.eu (ur EU.out) (Kd.b_ ho0) hb);replace HB:=bs HB hb;clear hb;(try clear ho0))|(refine gV Tryz.func212 (mO.calls A7.out) ?_;rintro aFj w18 ⟨ho0,hb⟩;have UL:=ak (Kd.aG (Kd.fE (Kd.fE ho0 (Kd.jP (ur EU.out))) (Kd.jP (ur Gj.out))) (aj (ul HB.out)));replace EU:=ak (Kd.eu (ur EU.out) (Kd.b_ ho0) hb);replace Gj:=ak (Kd.eu (ur Gj.out) (Kd.b_ ho0) hb);replace HB:=bs HB hb;clear hb;(try clear ho0);obtain⟨aEe,aEf,arI⟩:=Kd.aH Gj.out;subst arI)|(refine gA Tryz.func213 (kD.calls (cu ((Kd.aK Gj.out).2.2)) ((Kd.aK Gj.out).2.1) A8.out) ?_;intro nd;obtain⟨Qk,Ql,Y9⟩:=Kd.aH UL.out;subst Y9)|(refine gA Tryz.func213 (kD.calls (cu ((Kd.aK UL.out).2.2)) ((Kd.aK UL.out).2.1) A9.out) ?_;intro nd))
    go_ret2;exact⟨er,ul HB.out⟩
def jX.f (k:Nat) (a0:ByteArray) (a1:Int):Option (List ByteArray×Bool):=if a1=0 then((jc.f k a0).bind fun apL=>(if apL.2=true then(some (apL.1,true))else(some ((([]:List ByteArray)),false))))else(if a1=1 then((bM.f k a0).bind fun apM=>(some (apM.1,apM.2)))else(if a1=2 then((mO.f k a0).bind fun apN=>(some (apN.1,apN.2)))else(some ((([]:List ByteArray)),false))))
theorem jX.calls {k:Nat} {a0:ByteArray} {a1:Int} {r1:List ByteArray} {r2:Bool} {w:World} (h:jX.f k a0 a1=some (r1,r2)):
  Calls Tryz.prog 196 #[.string a0, .int .i64 a1] w fun e w'=>∃o7:Value,e= .returned (.tuple #[o7, .bool r2])∧Kd.R Kd.string 9 w' w.heap.size (fun _=>True) o7 r1∧Below w.heap.size w w':=by
 have HB:=ak (Below.refl w.heap.size w);unfold jX.f at h;have H:=h;clear h;replace H:=sq H;rcases H with⟨iT,zW,H⟩|⟨c3,iT,zW,H⟩
 ·replace H:=bd H;obtain⟨⟨aNx,aNy⟩,A4,H⟩:=H
  (try dsimp only at H);replace H:=sb H;rcases H with⟨rfl,H⟩|⟨rfl,H⟩
  ·obtain⟨rfl,rfl⟩:=s2 H;go_enter Tryz.func196,Tryz.ntmps196;go_wp2_with (refine gV Tryz.func210 (jc.calls A4.out) ?_;rintro aFk w6 ⟨ho0,hb⟩;have aaN:=ak (Kd.aG ho0 (aj (ul HB.out)));replace HB:=bs HB hb;clear hb;(try clear ho0))
   go_ret2;exact⟨_,er,ur aaN.out,ul HB.out⟩
  ·obtain⟨aNz,apO⟩:=nm ([]:List ByteArray);rw[←apO.out]at H;obtain⟨rfl,rfl⟩:=s2 H;go_enter Tryz.func196,Tryz.ntmps196;go_wp2_with (first|(refine gV Tryz.func210 (jc.calls A4.out) ?_;rintro aFk w7 ⟨ho0,hb⟩;have aaN:=ak (Kd.aG ho0 (aj (ul HB.out)));replace HB:=bs HB hb;clear hb;(try clear ho0))|(refine II 30 Kd.string 9 apO ?_;intro aNA w8 ho9 hb;have azv:=ak (Kd.aG (Kd.fE ho9 (Kd.jP (ur aaN.out))) (aj (ul HB.out)));replace aaN:=ak (Kd.eu (ur aaN.out) (Kd.b_ ho9) hb);replace HB:=bs HB hb;clear hb ho9))
   go_ret2;exact⟨_,er,ur (Kd.aX azv.out (fun _ hk=>trivial)),ul HB.out⟩
 ·replace H:=sq H;rcases H with⟨oD,uN,H⟩|⟨c10,oD,uN,H⟩
  ·replace H:=bd H;obtain⟨⟨aNB,aNC⟩,A11,H⟩:=H
   (try dsimp only at H);obtain⟨rfl,rfl⟩:=s2 H;go_enter Tryz.func196,Tryz.ntmps196;go_wp2_with (refine gV Tryz.func211 (bM.calls A11.out) ?_;rintro aND w12 ⟨ho0,hb⟩;have azw:=ak (Kd.aG ho0 (aj (ul HB.out)));replace HB:=bs HB hb;clear hb;(try clear ho0))
   go_ret2;exact⟨_,er,ur azw.out,ul HB.out⟩
  ·replace H:=sq H;rcases H with⟨wM,CW,H⟩|⟨c13,wM,CW,H⟩
   ·replace H:=bd H;obtain⟨⟨aNE,aNF⟩,A14,H⟩:=H
    (try dsimp only at H);obtain⟨rfl,rfl⟩:=s2 H;go_enter Tryz.func196,Tryz.ntmps196;go_wp2_with (refine gV Tryz.func212 (mO.calls A14.out) ?_;rintro aNG w15 ⟨ho0,hb⟩;have azx:=ak (Kd.aG ho0 (aj (ul HB.out)));replace HB:=bs HB hb;clear hb;(try clear ho0))
    go_ret2;exact⟨_,er,ur azx.out,ul HB.out⟩
   ·obtain⟨aNH,apP⟩:=nm ([]:List ByteArray);rw[←apP.out]at H;obtain⟨rfl,rfl⟩:=s2 H;go_enter Tryz.func196,Tryz.ntmps196;go_wp2_with (refine II 30 Kd.string 9 apP ?_;intro aNI w16 ahb hb;have azy:=ak (Kd.aG ahb (aj (ul HB.out)));replace HB:=bs HB hb;clear hb ahb)
    go_ret2;exact⟨_,er,ur azy.out,ul HB.out⟩
end Go.Proofs.YtncdadcmghglkaaGreatDoor.PFnPathEmpty
