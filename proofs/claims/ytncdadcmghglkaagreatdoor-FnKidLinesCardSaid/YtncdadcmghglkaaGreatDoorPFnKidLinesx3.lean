/- Printed walks; conditions: those in each statement. -/
import Derived.Test.YtncdadcmghglkaaGreatDoorVFnKidLinesQt
import Derived.Test.YtncdadcmghglkaaGreatDoorVFnKidLinesYt
import Derived.Test.YtncdadcmghglkaaGreatDoorPFnKidLinesx0
-- short
-- dense
-- sq
-- sq2
namespace Go.Proofs.YtncdadcmghglkaaGreatDoor.PFnKidLines
open Go.RowKit Go.Proofs.YtncdadcmghglkaaGreatDoor.X Go.Proofs.YtncdadcmghglkaaGreatDoorW.dS Go.Proofs.YtncdadcmghglkaaGreatDoorW.kY Go.Proofs.YtncdadcmghglkaaGreatDoorW.n_
attribute [local go_sem] xM xO AV AX vK vM xP xQ   -- for this text's walks alone
set_option linter.unusedVariables false
set_option maxHeartbeats 8000000
set_option maxRecDepth 100000
set_option linter.unusedSimpArgs false
def lD.f (a0:Int):Option (ByteArray):=if 0≤(a0/16)then(if(a0/16)≤(((a0/16)+1)%256)then(if(((a0/16)+1)%256)≤16 then(if 1+((⟨#[48,49,50,51,52,53,54,55,56,57,65,66,67,68,69,70]⟩:ByteArray).extract ((a0/16):Int).toNat ((((a0/16)+1)%256):Int).toNat).size≤9223372036854775807 then(if 0≤(Go.bits .and .u8 a0 15)then(if(Go.bits .and .u8 a0 15)≤(((Go.bits .and .u8 a0 15)+1)%256)then(if(((Go.bits .and .u8 a0 15)+1)%256)≤16 then(if((⟨#[61]⟩:ByteArray)++((⟨#[48,49,50,51,52,53,54,55,56,57,65,66,67,68,69,70]⟩:ByteArray).extract ((a0/16):Int).toNat ((((a0/16)+1)%256):Int).toNat)).size+((⟨#[48,49,50,51,52,53,54,55,56,57,65,66,67,68,69,70]⟩:ByteArray).extract ((Go.bits .and .u8 a0 15):Int).toNat ((((Go.bits .and .u8 a0 15)+1)%256):Int).toNat).size≤9223372036854775807 then(some (((⟨#[61]⟩:ByteArray)++((⟨#[48,49,50,51,52,53,54,55,56,57,65,66,67,68,69,70]⟩:ByteArray).extract ((a0/16):Int).toNat ((((a0/16)+1)%256):Int).toNat))++((⟨#[48,49,50,51,52,53,54,55,56,57,65,66,67,68,69,70]⟩:ByteArray).extract ((Go.bits .and .u8 a0 15):Int).toNat ((((Go.bits .and .u8 a0 15)+1)%256):Int).toNat)))else(none))else(none))else(none))else(none))else(none))else(none))else(none))else(none)
theorem lD.calls {a0:Int} {r:ByteArray} {w:World} (h:lD.f a0=some r):
  Calls Tryz.prog 221 #[.int .u8 a0] w fun e w'=>e= .returned (.string r)∧dM w w':=by
 unfold lD.f at h;have H:=h;clear h;obtain⟨SI,apd⟩:∃j_:Int,(a0/16)=j_:=⟨_,rfl⟩
 replace H:(if 0≤(SI)then(if(SI)≤(((SI)+1)%256)then(if(((SI)+1)%256)≤16 then(if 1+((⟨#[48,49,50,51,52,53,54,55,56,57,65,66,67,68,69,70]⟩:ByteArray).extract ((SI):Int).toNat ((((SI)+1)%256):Int).toNat).size≤9223372036854775807 then(if 0≤(Go.bits .and .u8 a0 15)then(if(Go.bits .and .u8 a0 15)≤(((Go.bits .and .u8 a0 15)+1)%256)then(if(((Go.bits .and .u8 a0 15)+1)%256)≤16 then(if((⟨#[61]⟩:ByteArray)++((⟨#[48,49,50,51,52,53,54,55,56,57,65,66,67,68,69,70]⟩:ByteArray).extract ((SI):Int).toNat ((((SI)+1)%256):Int).toNat)).size+((⟨#[48,49,50,51,52,53,54,55,56,57,65,66,67,68,69,70]⟩:ByteArray).extract ((Go.bits .and .u8 a0 15):Int).toNat ((((Go.bits .and .u8 a0 15)+1)%256):Int).toNat).size≤9223372036854775807 then(some (((⟨#[61]⟩:ByteArray)++((⟨#[48,49,50,51,52,53,54,55,56,57,65,66,67,68,69,70]⟩:ByteArray).extract ((SI):Int).toNat ((((SI)+1)%256):Int).toNat))++((⟨#[48,49,50,51,52,53,54,55,56,57,65,66,67,68,69,70]⟩:ByteArray).extract ((Go.bits .and .u8 a0 15):Int).toNat ((((Go.bits .and .u8 a0 15)+1)%256):Int).toNat)))else(none))else(none))else(none))else(none))else(none))else(none))else(none))else(none))=some r:=by first|(rw[apd]at H;exact H)|(simp only[apd]at H⊢;exact H)
 replace H:=AY H;obtain⟨iH,zH,H⟩:=H;replace H:=nn H;obtain⟨c4,H⟩:=H;have qW:=eq_true c4;have YF:=decide_eq_true c4;replace H:=nn H;obtain⟨c5,H⟩:=H;have mQ:=eq_true c5;have Ko:=decide_eq_true c5;replace H:=nn H;obtain⟨c6,H⟩:=H;have nG:=eq_true c6;have xW:=decide_eq_true c6;try have aIZ:(9223372036854775807<1+(((⟨#[48,49,50,51,52,53,54,55,56,57,65,66,67,68,69,70]⟩:ByteArray).extract ((SI):Int).toNat ((((SI)+1)%256):Int).toNat).size))=False:=by have h_:=c6;simp only[ByteArray.size_append,ByteArray.size_extract]at h_;refine eq_false ?_;simp only[decide_eq_true_eq]at*;omega
 try have aiL:(9223372036854775807<1+((⟨#[48,49,50,51,52,53,54,55,56,57,65,66,67,68,69,70]⟩:ByteArray).extract ((SI):Int).toNat ((((SI)+1)%256):Int).toNat).size)=False:=eq_false (Nat.not_lt.2 c6)
 replace H:=AY H;obtain⟨qO,Jl,H⟩:=H;replace H:=nn H;obtain⟨c8,H⟩:=H;have tK:=eq_true c8;have FH:=decide_eq_true c8;replace H:=nn H;obtain⟨c9,H⟩:=H;have yI:=eq_true c9;have Gh:=decide_eq_true c9;replace H:=nn H;obtain⟨c10,H⟩:=H;have nI:=eq_true c10;have rP:=decide_eq_true c10;try have auI:(9223372036854775807<(⟨#[61]⟩:ByteArray).size+(((⟨#[48,49,50,51,52,53,54,55,56,57,65,66,67,68,69,70]⟩:ByteArray).extract ((SI):Int).toNat ((((SI)+1)%256):Int).toNat).size)+(((⟨#[48,49,50,51,52,53,54,55,56,57,65,66,67,68,69,70]⟩:ByteArray).extract ((Go.bits .and .u8 a0 15):Int).toNat ((((Go.bits .and .u8 a0 15)+1)%256):Int).toNat).size))=False:=by have h_:=c10;simp only[ByteArray.size_append,ByteArray.size_extract]at h_;refine eq_false ?_;simp only[decide_eq_true_eq]at*;omega
 try have akG:(9223372036854775807<1+(((⟨#[48,49,50,51,52,53,54,55,56,57,65,66,67,68,69,70]⟩:ByteArray).extract ((SI):Int).toNat ((((SI)+1)%256):Int).toNat).size)+(((⟨#[48,49,50,51,52,53,54,55,56,57,65,66,67,68,69,70]⟩:ByteArray).extract ((Go.bits .and .u8 a0 15):Int).toNat ((((Go.bits .and .u8 a0 15)+1)%256):Int).toNat).size))=False:=by have h_:=(eq_false (Nat.not_lt.2 c10):(9223372036854775807<((⟨#[61]⟩:ByteArray)++((⟨#[48,49,50,51,52,53,54,55,56,57,65,66,67,68,69,70]⟩:ByteArray).extract ((SI):Int).toNat ((((SI)+1)%256):Int).toNat)).size+((⟨#[48,49,50,51,52,53,54,55,56,57,65,66,67,68,69,70]⟩:ByteArray).extract ((Go.bits .and .u8 a0 15):Int).toNat ((((Go.bits .and .u8 a0 15)+1)%256):Int).toNat).size)=False);simp only[ByteArray.size_append]at h_;exact h_
 try have Xd:(9223372036854775807<((⟨#[61]⟩:ByteArray)++((⟨#[48,49,50,51,52,53,54,55,56,57,65,66,67,68,69,70]⟩:ByteArray).extract ((SI):Int).toNat ((((SI)+1)%256):Int).toNat)).size+((⟨#[48,49,50,51,52,53,54,55,56,57,65,66,67,68,69,70]⟩:ByteArray).extract ((Go.bits .and .u8 a0 15):Int).toNat ((((Go.bits .and .u8 a0 15)+1)%256):Int).toNat).size)=False:=eq_false (Nat.not_lt.2 c10)
 obtain rfl:=s1 H;go_enter Tryz.func221,Tryz.ntmps221;go_wp2;repeat(go_quiet (fail);try go_wp2)
 go_ret;exact⟨by first|rfl|(simp;done)|(simp only[←apd]<;>(first|rfl|simp))|(simp[*];done),dn⟩
def xq.f (a0:Int):Option (ByteArray):=if a0=32 then(some (⟨#[95]⟩:ByteArray))else((fV.f a0).bind fun t124=>(if t124=true then(some (strOfNums (([a0]:List Int))))else(if a0=45 then(some (strOfNums (([a0]:List Int))))else(if a0=46 then(some (strOfNums (([a0]:List Int))))else((lD.f a0).bind fun av4=>(some av4))))))
theorem xq.calls {a0:Int} {r:ByteArray} {w:World} (h:xq.f a0=some r):
  Calls Tryz.prog 216 #[.int .u8 a0] w fun e w'=>e= .returned (.string r)∧Below w.heap.size w w':=by
 have HB:=ak (Below.refl w.heap.size w);unfold xq.f at h;have H:=h;clear h;replace H:=sq H;rcases H with⟨nY,uJ,H⟩|⟨c2,nY,uJ,H⟩
 ·obtain rfl:=s1 H;go_enter Tryz.func216,Tryz.ntmps216;go_wp2;go_ret;exact⟨er,ul HB.out⟩
 ·replace H:=bd H;obtain⟨t124,A3,H⟩:=H;replace H:=sb H;rcases H with⟨rfl,H⟩|⟨rfl,H⟩
  ·obtain⟨aI0,alT⟩:=nm ([a0]:List Int);rw[←alT.out]at H;obtain rfl:=s1 H;go_enter Tryz.func216,Tryz.ntmps216;go_wp2_with (first|(refine gA Tryz.func183 (fV.calls A3.out) ?_;intro nd)|(refine SH 16 (Kd.int .u8) 5 [.int .u8 a0] alT (cO.one (show Kd.M (Kd.int .u8) _ _ _ a0 [.int .u8 a0]from rfl) (cO.none _ _)) ?_;intro aI1 w5 TK hb;have av5:=ak (Kd.aA TK (aj (ul HB.out)));replace HB:=bs HB hb;clear hb TK;have aI2:=qE (P:=Tryz.prog) Tryz.underlying22 Tryz.underlying5 Tryz.underlying9 (Kd.uQ av5.out)))
   go_ret;exact⟨er,ul HB.out⟩
  ·replace H:=sq H;rcases H with⟨tK,FH,H⟩|⟨c8,tK,FH,H⟩
   ·obtain⟨aI3,alU⟩:=nm ([a0]:List Int);rw[←alU.out]at H;obtain rfl:=s1 H;go_enter Tryz.func216,Tryz.ntmps216;go_wp2_with (first|(refine gA Tryz.func183 (fV.calls A3.out) ?_;intro nd)|(refine SH 16 (Kd.int .u8) 5 [.int .u8 a0] alU (cO.one (show Kd.M (Kd.int .u8) _ _ _ a0 [.int .u8 a0]from rfl) (cO.none _ _)) ?_;intro aI4 w9 Pm hb;have av6:=ak (Kd.aA Pm (aj (ul HB.out)));replace HB:=bs HB hb;clear hb Pm;have av7:=qE (P:=Tryz.prog) Tryz.underlying22 Tryz.underlying5 Tryz.underlying9 (Kd.uQ av6.out)))
    go_ret;exact⟨er,ul HB.out⟩
   ·replace H:=sq H;rcases H with⟨xX,D9,H⟩|⟨c12,xX,D9,H⟩
    ·obtain⟨aI5,alV⟩:=nm ([a0]:List Int);rw[←alV.out]at H;obtain rfl:=s1 H;go_enter Tryz.func216,Tryz.ntmps216;go_wp2_with (first|(refine gA Tryz.func183 (fV.calls A3.out) ?_;intro nd)|(refine SH 16 (Kd.int .u8) 5 [.int .u8 a0] alV (cO.one (show Kd.M (Kd.int .u8) _ _ _ a0 [.int .u8 a0]from rfl) (cO.none _ _)) ?_;intro aI6 w13 O_ hb;have av8:=ak (Kd.aA O_ (aj (ul HB.out)));replace HB:=bs HB hb;clear hb O_;have av9:=qE (P:=Tryz.prog) Tryz.underlying22 Tryz.underlying5 Tryz.underlying9 (Kd.uQ av8.out)))
     go_ret;exact⟨er,ul HB.out⟩
    ·replace H:=bd H;obtain⟨av4,Y8,H⟩:=H;obtain rfl:=s1 H;go_enter Tryz.func216,Tryz.ntmps216;go_wp2_with (first|(refine gA Tryz.func183 (fV.calls A3.out) ?_;intro nd)|(refine gA Tryz.func221 (lD.calls Y8.out) ?_;intro nd))
     go_ret;exact⟨er,ul HB.out⟩
def jq.l0:Nat→ByteArray→ByteArray→Int→Option (ByteArray)
 |0,_,_,_=>none
 |k+1,x0,x3,x4=>if x4<(x0.size:Int)then(if 0≤x4 then((xq.f (bt x0 x4)).bind fun aji=>(if x3.size+aji.size≤9223372036854775807 then(jq.l0 k x0 (x3++aji) (wrap64 (x4+1)))else(none)))else(none))else(some x3)
def jq.f (k:Nat) (a0:ByteArray):Option (ByteArray):=jq.l0 k a0 (⟨#[]⟩:ByteArray) 0
theorem jq.calls {k:Nat} {a0 r:ByteArray} {w:World} (h:jq.f k a0=some r):
  Calls Tryz.prog 208 #[.string a0] w fun e w'=>e= .returned (.string r)∧Below w.heap.size w w':=by
 have HB:=ak (Below.refl w.heap.size w);unfold jq.f at h;have H:=h;clear h;have H':=ak H;clear H;go_enter Tryz.func208,Tryz.ntmps208;go_wp2;go_loopg [3,4] k (fun kq v3 v4 w'=>∃(dR:ByteArray) (eu:Int),v3= .string dR∧v4= .int .i64 eu∧ah (jq.l0 kq a0 dR eu=some r)∧ah (kq≤k)∧ah (Below w.heap.size w w'))
 case atStart=>exact⟨_,_,rs,rs,H',⟨Nat.le_refl _⟩,⟨ul HB.out⟩⟩
 case round=>
  clear H';obtain⟨dR,eu,rfl,rfl,HA,yH,HB⟩:=hrel
  cases gk with
  |zero=>exact zz HA.out
  |succ k1=>
   obtain⟨H⟩:=HA;simp only[jq.l0]at H;replace H:=sd H;rcases H with⟨nY,H⟩|⟨nY,H⟩
   ·replace H:=nS H;obtain⟨iH,H⟩:=H;replace H:=bd H;obtain⟨aji,A5,H⟩:=H;replace H:=nn H;obtain⟨c6,H⟩:=H;have nG:=eq_true c6;have xW:=decide_eq_true c6;try have aiL:(9223372036854775807<dR.size+aji.size)=False:=eq_false (Nat.not_lt.2 c6)
    have H':=ak H;clear H;obtain⟨p4,q4,hx4⟩:=bx a0 eu;go_wp2_with (refine gB Tryz.func216 (xq.calls A5.out) ?_;intro w7 hb;replace HB:=bs HB hb;clear hb)
    go_roundg k1
    case measure=>exact kl
    case rel=>exact⟨_,_,rs,rs,H',⟨kl⟩,⟨ul HB.out⟩⟩
   ·obtain rfl:=s1 H;go_wp2;go_ret;exact⟨er,ul HB.out⟩
def iF.j0:Nat→ByteArray→Bool→Option (ByteArray×Bool)
 |0,_,_=>none
 |k+1,x0,x12=>if x12=true then(some ((⟨#[]⟩:ByteArray),false))else((jq.f k x0).bind fun Af=>(if 10+Af.size≤9223372036854775807 then(if((⟨#[61,63,117,116,102,45,56,63,113,63]⟩:ByteArray)++Af).size+2≤9223372036854775807 then(if((((⟨#[61,63,117,116,102,45,56,63,113,63]⟩:ByteArray)++Af)++(⟨#[63,61]⟩:ByteArray)).size:Int)>40 then(some ((⟨#[]⟩:ByteArray),false))else(some (((⟨#[61,63,117,116,102,45,56,63,113,63]⟩:ByteArray)++Af)++(⟨#[63,61]⟩:ByteArray),true)))else(none))else(none)))
def iF.f (k:Nat) (a0:ByteArray):Option (ByteArray×Bool):=if(a0.size:Int)<1 then(iF.j0 k a0 true)else(iF.j0 k a0 (decide ((a0.size:Int)>40)))
theorem iF.calls {k:Nat} {a0 r1:ByteArray} {r2:Bool} {w:World} (h:iF.f k a0=some (r1,r2)):
  Calls Tryz.prog 209 #[.string a0] w fun e w'=>e= .returned (.tuple #[.string r1, .bool r2])∧Below w.heap.size w w':=by
 have HB:=ak (Below.refl w.heap.size w);unfold iF.f at h;have H:=h;clear h;have HC2:=ak H;clear H;go_enter Tryz.func209,Tryz.ntmps209;go_upto_region 1 with(fail)
 go_cut [12] (fun v12 wc=>∃(kq:Nat) (agd:Bool),v12= .bool agd∧ah (iF.j0 kq a0 agd=some (r1,r2))∧ah (kq≤k)∧ah (Below w.heap.size w wc))
 case first=>
  have H:=HC2.out;clear HC2;replace H:=sp H;rcases H with⟨c3,H⟩|⟨c3,H⟩
  ·have iH:=decide_eq_true c3;have zH:decide (a0.size<1)=true:=decide_eq_true (by omega);clear c3
   (first|rw[iH]|(simp only[iP,jZ];rw[iH])|skip);have H':=ak H;clear H;go_wp2;go_meet
   case rel=>exact⟨_,_,rs,H',⟨Jp⟩,⟨ul HB.out⟩⟩
  ·have iH:=decide_eq_false c3;have zH:decide (a0.size<1)=false:=decide_eq_false (by omega);clear c3
   (first|rw[iH]|(simp only[iP,jZ];rw[iH])|skip);have H':=ak H;clear H;go_wp2;go_meet
   case rel=>exact⟨_,_,rs,H',⟨Jp⟩,⟨ul HB.out⟩⟩
 case rest=>
  clear HC2;obtain⟨kq,agd,rfl,HA,HJ1,HB⟩:=hcut
  cases kq with
  |zero=>exact zz HA.out
  |succ O5=>
   obtain⟨H⟩:=HA;simp only[iF.j0]at H;replace H:=sb H;rcases H with⟨rfl,H⟩|⟨rfl,H⟩
   ·obtain⟨rfl,rfl⟩:=s2 H;go_wp2;go_ret2;exact⟨er,ul HB.out⟩
   ·replace H:=bd H;obtain⟨Af,A5,H⟩:=H;replace H:=nn H;obtain⟨c6,H⟩:=H;have nG:=eq_true c6;have xW:=decide_eq_true c6;try have aiL:(9223372036854775807<10+Af.size)=False:=eq_false (Nat.not_lt.2 c6)
    replace H:=nn H;obtain⟨c7,H⟩:=H;have qO:=eq_true c7;have Jl:=decide_eq_true c7;try have aI7:(9223372036854775807<10+Af.size+2)=False:=by have h_:=(eq_false (Nat.not_lt.2 c7):(9223372036854775807<((⟨#[61,63,117,116,102,45,56,63,113,63]⟩:ByteArray)++Af).size+2)=False);simp only[ByteArray.size_append]at h_;exact h_
    try have aAl:(9223372036854775807<((⟨#[61,63,117,116,102,45,56,63,113,63]⟩:ByteArray)++Af).size+2)=False:=eq_false (Nat.not_lt.2 c7)
    replace H:=sp H;rcases H with⟨c8,H⟩|⟨c8,H⟩
    ·have tK:decide (40<((((⟨#[61,63,117,116,102,45,56,63,113,63]⟩:ByteArray)++Af)++(⟨#[63,61]⟩:ByteArray)).size:Int))=true:=decide_eq_true c8;have FH:decide (40<(((⟨#[61,63,117,116,102,45,56,63,113,63]⟩:ByteArray)++Af)++(⟨#[63,61]⟩:ByteArray)).size)=true:=decide_eq_true (by omega)
     (try(have arv:decide (40<10+(Af.size:Int)+2)=true:=decide_eq_true (by have e0_:(((⟨#[61,63,117,116,102,45,56,63,113,63]⟩:ByteArray)++Af)++(⟨#[63,61]⟩:ByteArray)).size=10+Af.size+2:=(by first|(simp only[ByteArray.size_append];rfl)|simp only[ByteArray.size_append]);omega)))
     (try(have aA8:decide (40<10+Af.size+2)=true:=decide_eq_true (by have e0_:(((⟨#[61,63,117,116,102,45,56,63,113,63]⟩:ByteArray)++Af)++(⟨#[63,61]⟩:ByteArray)).size=10+Af.size+2:=(by first|(simp only[ByteArray.size_append];rfl)|simp only[ByteArray.size_append]);omega)));clear c8;obtain⟨rfl,rfl⟩:=s2 H;go_wp2_with (refine gB Tryz.func208 (jq.calls A5.out) ?_;intro w9 hb;replace HB:=bs HB hb;clear hb)
     go_ret2;exact⟨er,ul HB.out⟩
    ·have tK:decide (40<((((⟨#[61,63,117,116,102,45,56,63,113,63]⟩:ByteArray)++Af)++(⟨#[63,61]⟩:ByteArray)).size:Int))=false:=decide_eq_false c8;have FH:decide (40<(((⟨#[61,63,117,116,102,45,56,63,113,63]⟩:ByteArray)++Af)++(⟨#[63,61]⟩:ByteArray)).size)=false:=decide_eq_false (by omega)
     (try(have arv:decide (40<10+(Af.size:Int)+2)=false:=decide_eq_false (by have e0_:(((⟨#[61,63,117,116,102,45,56,63,113,63]⟩:ByteArray)++Af)++(⟨#[63,61]⟩:ByteArray)).size=10+Af.size+2:=(by first|(simp only[ByteArray.size_append];rfl)|simp only[ByteArray.size_append]);omega)))
     (try(have aA8:decide (40<10+Af.size+2)=false:=decide_eq_false (by have e0_:(((⟨#[61,63,117,116,102,45,56,63,113,63]⟩:ByteArray)++Af)++(⟨#[63,61]⟩:ByteArray)).size=10+Af.size+2:=(by first|(simp only[ByteArray.size_append];rfl)|simp only[ByteArray.size_append]);omega)));clear c8;obtain⟨rfl,rfl⟩:=s2 H;go_wp2_with (refine gB Tryz.func208 (jq.calls A5.out) ?_;intro w10 hb;replace HB:=bs HB hb;clear hb)
     go_ret2;exact⟨er,ul HB.out⟩
mutual
def bD.l0:Nat→ByteArray→ByteArray→Int→Option (ByteArray×Bool)
 |0,_,_,_=>none
 |k+1,x0,x4,x5=>if x5<(x0.size:Int)then(bD.l1 k x0 x4 x5 (wrap64 (x5+1)))else(some (x4,true))
def bD.l1:Nat→ByteArray→ByteArray→Int→Int→Option (ByteArray×Bool)
 |0,_,_,_,_=>none
 |k+1,x0,x4,x5,x6=>if x6<(x0.size:Int)then(if 0≤x5 then(if x5≤(wrap64 (x6+1))then(if(wrap64 (x6+1))≤(x0.size:Int)then((jq.f k (x0.extract (x5:Int).toNat ((wrap64 (x6+1)):Int).toNat)).bind fun t138=>(if(t138.size:Int)≤28 then(bD.l1 k x0 x4 x5 (wrap64 (x6+1)))else(if x5≤x6 then(if x6≤(x0.size:Int)then((iF.f k (x0.extract (x5:Int).toNat (x6:Int).toNat)).bind fun abM=>(if x5>0 then(if x4.size+1≤9223372036854775807 then(if(x4++(⟨#[32]⟩:ByteArray)).size+abM.1.size≤9223372036854775807 then(bD.l0 k x0 ((x4++(⟨#[32]⟩:ByteArray))++abM.1) x6)else(none))else(none))else(if x4.size+abM.1.size≤9223372036854775807 then(bD.l0 k x0 (x4++abM.1) x6)else(none))))else(none))else(none))))else(none))else(none))else(none))else(if 0≤x5 then(if x5≤x6 then(if x6≤(x0.size:Int)then((iF.f k (x0.extract (x5:Int).toNat (x6:Int).toNat)).bind fun abN=>(if x5>0 then(if x4.size+1≤9223372036854775807 then(if(x4++(⟨#[32]⟩:ByteArray)).size+abN.1.size≤9223372036854775807 then(bD.l0 k x0 ((x4++(⟨#[32]⟩:ByteArray))++abN.1) x6)else(none))else(none))else(if x4.size+abN.1.size≤9223372036854775807 then(bD.l0 k x0 (x4++abN.1) x6)else(none))))else(none))else(none))else(none))
end
def bD.f (k:Nat) (a0:ByteArray):Option (ByteArray×Bool):=if(a0.size:Int)>120 then(some ((⟨#[]⟩:ByteArray),false))else((fZ.f k a0).bind fun av_=>(if av_=true then(bD.l0 k a0 (⟨#[]⟩:ByteArray) 0)else(some (a0,true))))
theorem bD.calls {k:Nat} {a0 r1:ByteArray} {r2:Bool} {w:World} (h:bD.f k a0=some (r1,r2)):
  Calls Tryz.prog 194 #[.string a0] w fun e w'=>e= .returned (.tuple #[.string r1, .bool r2])∧Below w.heap.size w w':=by
 have HB:=ak (Below.refl w.heap.size w);unfold bD.f at h;have H:=h;clear h;replace H:=sp H;rcases H with⟨c2,H⟩|⟨c2,H⟩
 ·have nY:decide (120<(a0.size:Int))=true:=decide_eq_true c2;have uJ:decide (120<a0.size)=true:=decide_eq_true (by omega);clear c2;obtain⟨rfl,rfl⟩:=s2 H;go_enter Tryz.func194,Tryz.ntmps194;go_wp2;go_ret2;exact⟨er,ul HB.out⟩
 ·have nY:decide (120<(a0.size:Int))=false:=decide_eq_false c2;have uJ:decide (120<a0.size)=false:=decide_eq_false (by omega);clear c2;replace H:=bd H;obtain⟨av_,A3,H⟩:=H;replace H:=sb H;rcases H with⟨rfl,H⟩|⟨rfl,H⟩
  ·have H':=ak H;clear H;go_enter Tryz.func194,Tryz.ntmps194;go_wp2_with (refine gA Tryz.func207 (fZ.calls A3.out) ?_;intro nd)
   go_loopg [4,5] k (fun kq v4 v5 w'=>∃(eu:ByteArray) (dK:Int),v4= .string eu∧v5= .int .i64 dK∧ah (bD.l0 kq a0 eu dK=some (r1,r2))∧ah (kq≤k)∧ah (Below w.heap.size w w'))
   case atStart=>exact⟨_,_,rs,rs,H',⟨Nat.le_refl _⟩,⟨ul HB.out⟩⟩
   case round=>
    clear H';try clear c2
    try clear nY
    try clear uJ
    obtain⟨eu,dK,rfl,rfl,HA,yH,HB⟩:=hrel
    cases gk with
    |zero=>exact zz HA.out
    |succ k1=>
     obtain⟨H⟩:=HA;simp only[bD.l0]at H;replace H:=sd H;rcases H with⟨mQ,H⟩|⟨mQ,H⟩
     ·have H':=ak H;clear H;go_wp2;go_loopg [6] k1 (fun kq v6 w'=>∃(CS:Int),v6= .int .i64 CS∧ah (bD.l1 kq a0 eu dK CS=some (r1,r2))∧ah (kq≤k1)∧ah (Below w.heap.size w w'))
      case atStart=>exact⟨_,rs,H',⟨Nat.le_refl _⟩,⟨ul HB.out⟩⟩
      case round=>
       clear H';try clear c2
       try clear nY
       try clear uJ
       try clear mQ
       obtain⟨CS,rfl,HA,HK2,HB⟩:=hrel
       cases gk with
       |zero=>exact zz HA.out
       |succ k2=>
        obtain⟨H⟩:=HA;simp only[bD.l1]at H;replace H:=sd H;rcases H with⟨nG,H⟩|⟨nG,H⟩
        ·replace H:=AY H;obtain⟨qO,Jl,H⟩:=H;replace H:=nn H;obtain⟨c8,H⟩:=H;have tK:=eq_true c8;have FH:=decide_eq_true c8;replace H:=nn H;obtain⟨c9,H⟩:=H;have yI:=eq_true c9;have Gh:=decide_eq_true c9;replace H:=bd H;obtain⟨t138,Ym,H⟩:=H;replace H:=sp H;rcases H with⟨c11,H⟩|⟨c11,H⟩
         ·have sJ:=decide_eq_true c11;have CZ:decide (t138.size≤28)=true:=decide_eq_true (by omega);clear c11;have H':=ak H;clear H;go_wp2_with (go_at_call 208;refine mB (jq.calls Ym.out) ?_;intro w12 hb;replace HB:=bs HB hb;clear hb)
          go_roundg k2
          case measure=>exact kl
          case rel=>exact⟨_,rs,H',⟨kl⟩,⟨ul HB.out⟩⟩
         ·have sJ:=decide_eq_false c11;have CZ:decide (t138.size≤28)=false:=decide_eq_false (by omega);clear c11;have vW:=eq_true (of_decide_eq_true (by assumption):0≤dK);replace H:=AY H;obtain⟨sK,xY,H⟩:=H;replace H:=AY H;obtain⟨vX,F6,H⟩:=H;replace H:=bd H;obtain⟨⟨t139,aI8⟩,Y8,H⟩:=H
          (try dsimp only at H);replace H:=sp H;rcases H with⟨c17,H⟩|⟨c17,H⟩
          ·have rQ:decide (0<dK)=true:=decide_eq_true c17;clear c17;replace H:=nn H;obtain⟨c18,H⟩:=H;have vY:=eq_true c18;have JY:=decide_eq_true c18;try have aa6:(9223372036854775807<eu.size+1)=False:=eq_false (Nat.not_lt.2 c18)
           replace H:=nn H;obtain⟨c19,H⟩:=H;have AB:=eq_true c19;have Ea:=decide_eq_true c19;try have as9:(9223372036854775807<eu.size+1+t139.size)=False:=by have h_:=(eq_false (Nat.not_lt.2 c19):(9223372036854775807<(eu++(⟨#[32]⟩:ByteArray)).size+t139.size)=False);simp only[ByteArray.size_append]at h_;exact h_
           try have aff:(9223372036854775807<(eu++(⟨#[32]⟩:ByteArray)).size+t139.size)=False:=eq_false (Nat.not_lt.2 c19)
           have H':=ak H;clear H;go_wp2_with (first|(go_at_call 208;refine mB (jq.calls Ym.out) ?_;intro w20 hb;replace HB:=bs HB hb;clear hb)|(refine gB Tryz.func209 (iF.calls Y8.out) ?_;intro w21 hb;replace HB:=bs HB hb;clear hb))
           go_roundg k2
           case measure=>exact kl
           case rel=>exact⟨_,_,rs,rs,H',⟨kl⟩,⟨ul HB.out⟩⟩
          ·have rQ:decide (0<dK)=false:=decide_eq_false c17;clear c17;replace H:=nn H;obtain⟨c22,H⟩:=H;have FZ:=eq_true c22;have aax:=decide_eq_true c22;try have aEg:(9223372036854775807<eu.size+t139.size)=False:=eq_false (Nat.not_lt.2 c22)
           have H':=ak H;clear H;go_wp2_with (first|(go_at_call 208;refine mB (jq.calls Ym.out) ?_;intro w23 hb;replace HB:=bs HB hb;clear hb)|(refine gB Tryz.func209 (iF.calls Y8.out) ?_;intro w24 hb;replace HB:=bs HB hb;clear hb))
           go_roundg k2
           case measure=>exact kl
           case rel=>exact⟨_,_,rs,rs,H',⟨kl⟩,⟨ul HB.out⟩⟩
        ·replace H:=AY H;obtain⟨Qs,afx,H⟩:=H;replace H:=AY H;obtain⟨OB,aaH,H⟩:=H;replace H:=AY H;obtain⟨Gi,aaC,H⟩:=H;replace H:=bd H;obtain⟨⟨t141,aI9⟩,A28,H⟩:=H
         (try dsimp only at H);replace H:=sp H;rcases H with⟨c29,H⟩|⟨c29,H⟩
         ·have aaD:decide (0<dK)=true:=decide_eq_true c29;clear c29;replace H:=nn H;obtain⟨c30,H⟩:=H;have aaE:=eq_true c30;have aEh:=decide_eq_true c30;try have aEi:(9223372036854775807<eu.size+1)=False:=eq_false (Nat.not_lt.2 c30)
          replace H:=nn H;obtain⟨c31,H⟩:=H;have afO:=eq_true c31;have afP:=decide_eq_true c31;try have aEj:(9223372036854775807<eu.size+1+t141.size)=False:=by have h_:=(eq_false (Nat.not_lt.2 c31):(9223372036854775807<(eu++(⟨#[32]⟩:ByteArray)).size+t141.size)=False);simp only[ByteArray.size_append]at h_;exact h_
          try have aEk:(9223372036854775807<(eu++(⟨#[32]⟩:ByteArray)).size+t141.size)=False:=eq_false (Nat.not_lt.2 c31)
          have H':=ak H;clear H;go_wp2_with (refine gB Tryz.func209 (iF.calls A28.out) ?_;intro w32 hb;replace HB:=bs HB hb;clear hb)
          go_roundg k2
          case measure=>exact kl
          case rel=>exact⟨_,_,rs,rs,H',⟨kl⟩,⟨ul HB.out⟩⟩
         ·have aaD:decide (0<dK)=false:=decide_eq_false c29;clear c29;replace H:=nn H;obtain⟨c33,H⟩:=H;have TJ:=eq_true c33;have aeI:=decide_eq_true c33;try have aEl:(9223372036854775807<eu.size+t141.size)=False:=eq_false (Nat.not_lt.2 c33)
          have H':=ak H;clear H;go_wp2_with (refine gB Tryz.func209 (iF.calls A28.out) ?_;intro w34 hb;replace HB:=bs HB hb;clear hb)
          go_roundg k2
          case measure=>exact kl
          case rel=>exact⟨_,_,rs,rs,H',⟨kl⟩,⟨ul HB.out⟩⟩
     ·obtain⟨rfl,rfl⟩:=s2 H;go_wp2;go_ret2;exact⟨er,ul HB.out⟩
  ·obtain⟨rfl,rfl⟩:=s2 H;go_enter Tryz.func194,Tryz.ntmps194;go_wp2_with (refine gA Tryz.func207 (fZ.calls A3.out) ?_;intro nd)
   go_ret2;exact⟨er,ul HB.out⟩
def jF.l0:Nat→ByteArray→Int→List ByteArray→Int→Int→Option (List ByteArray)
 |0,_,_,_,_,_=>none
 |k+1,x0,x1,x5,x6,x7=>if x7<(x0.size:Int)then(if 0≤x7 then(if(bt x0 x7)=x1 then(if 0≤x6 then(if x6≤x7 then(if x7≤(x0.size:Int)then(if x5.length<8796093022208 then(jF.l0 k x0 x1 (x5++[x0.extract (x6:Int).toNat (x7:Int).toNat]) (wrap64 (x7+1)) (wrap64 (x7+1)))else(none))else(none))else(none))else(none))else(jF.l0 k x0 x1 x5 x6 (wrap64 (x7+1))))else(none))else(if 0≤x6 then(if x6≤(x0.size:Int)then(if x5.length<8796093022208 then(some (x5++[x0.extract (x6:Int).toNat x0.size]))else(none))else(none))else(none))
def jF.f (k:Nat) (a0:ByteArray) (a1:Int):Option (List ByteArray):=jF.l0 k a0 a1 (([]:List ByteArray)) 0 0
theorem jF.calls {k:Nat} {a0:ByteArray} {a1:Int} {r:List ByteArray} {w:World} (h:jF.f k a0 a1=some r):
  Calls Tryz.prog 217 #[.string a0, .int .u8 a1] w fun e w'=>∃oD:Value,e= .returned (oD)∧Kd.R Kd.string 9 w' w.heap.size (fun _=>True) oD r∧Below w.heap.size w w':=by
 have HB:=ak (Below.refl w.heap.size w);unfold jF.f at h;have H:=h;clear h;obtain⟨aI_,alW⟩:=nm ([]:List ByteArray);rw[←alW.out]at H;have H':=ak H;clear H;go_enter Tryz.func217,Tryz.ntmps217;go_wp2_with (refine Hy 8 Kd.string 9 alW ?_;intro aJa w3 TM hb;have awc:=ak (Kd.aA TM (aj (ul HB.out)));replace HB:=bs HB hb;clear hb TM)
 go_loopg [5,6,7] k (fun kq v5 v6 v7 w'=>∃(dK:List ByteArray) (gY:Int) (qX:Int),v6= .int .i64 gY∧v7= .int .i64 qX∧ah (jF.l0 kq a0 a1 dK gY qX=some r)∧ah (kq≤k)∧ah (Kd.R Kd.string 9 w' w.heap.size (fun _=>True) v5 dK)∧ah (Below w.heap.size w w'))
 case atStart=>exact⟨_,_,_,rs,rs,H',⟨Nat.le_refl _⟩,⟨ur awc.out⟩,⟨ul HB.out⟩⟩
 case round=>
  clear H';obtain⟨dK,gY,qX,rfl,rfl,HA,yH,pY,HB⟩:=hrel
  cases gk with
  |zero=>exact zz HA.out
  |succ k1=>
   obtain⟨H⟩:=HA;simp only[jF.l0]at H;replace H:=sd H;rcases H with⟨mQ,H⟩|⟨mQ,H⟩
   ·replace H:=nS H;obtain⟨nG,H⟩:=H;replace H:=sq H;rcases H with⟨tK,FH,H⟩|⟨c8,tK,FH,H⟩
    ·replace H:=AY H;obtain⟨yI,Gh,H⟩:=H;replace H:=AY H;obtain⟨nI,rP,H⟩:=H;replace H:=AY H;obtain⟨sJ,CZ,H⟩:=H;replace H:=nl H;obtain⟨QD,H⟩:=H;obtain⟨aJb,alX⟩:=nm (dK++[a0.extract (gY:Int).toNat (qX:Int).toNat]);rw[←alX.out]at H;have H':=ak H;clear H;obtain⟨p7,q7,hx7⟩:=bx a0 qX;go_wp2_with (at_builtin;refine aP 20 25 Kd.string 23 9 (.string ⟨#[]⟩) 16 Tryz.underlying23 info9 HB (ur pY.out) alX (by have:=QD.out;omega) ?_;intro aJc w13 ho hb hg hat;have awd:=ak (ho);replace HB:=ak (hb);clear ho hb hg hat pY)
     go_roundg k1
     case measure=>exact kl
     case rel=>exact⟨_,_,_,rs,rs,H',⟨kl⟩,⟨ur awd.out⟩,⟨ul HB.out⟩⟩
    ·have H':=ak H;clear H;obtain⟨p7,q7,hx7⟩:=bx a0 qX;go_wp2;go_roundg k1
     case measure=>exact kl
     case rel=>exact⟨_,_,_,rs,rs,H',⟨kl⟩,⟨ur pY.out⟩,⟨ul HB.out⟩⟩
   ·replace H:=AY H;obtain⟨sK,xY,H⟩:=H;replace H:=AY H;obtain⟨vX,F6,H⟩:=H;replace H:=nl H;obtain⟨aeO,H⟩:=H;obtain⟨aJd,alY⟩:=nm (dK++[a0.extract (gY:Int).toNat a0.size]);rw[←alY.out]at H;obtain rfl:=s1 H;go_wp2_with (at_builtin;refine aP 29 33 Kd.string 23 9 (.string ⟨#[]⟩) 16 Tryz.underlying23 info9 HB (ur pY.out) alY (by have:=aeO.out;omega) ?_;intro aJe w17 ho hb hg hat;have awe:=ak (ho);replace HB:=ak (hb);clear ho hb hg hat pY)
    go_ret;exact⟨_,er,ur awe.out,ul HB.out⟩
def iG.l0:Nat→ByteArray→List ByteArray→Int→Option (List ByteArray×Bool)
 |0,_,_,_=>none
 |k+1,x0,x4,x5=>if x5<(x4.length:Int)then(if 0≤x5 then(if((mW ByteArray.empty x4 x5).size:Int)>40 then(some ((([]:List ByteArray)),false))else((aN.f k (mW ByteArray.empty x4 x5)).bind fun t160=>(if t160=true then(iG.l0 k x0 x4 (wrap64 (x5+1)))else(some ((([]:List ByteArray)),false)))))else(none))else(some (x4,decide ((x0.size:Int)≤300)))
def iG.f (k:Nat) (a0:ByteArray):Option (List ByteArray×Bool):=(jF.f k a0 10).bind fun t152=>(iG.l0 k a0 t152 0)
theorem iG.calls {k:Nat} {a0:ByteArray} {r1:List ByteArray} {r2:Bool} {w:World} (h:iG.f k a0=some (r1,r2)):
  Calls Tryz.prog 210 #[.string a0] w fun e w'=>∃oD:Value,e= .returned (.tuple #[oD, .bool r2])∧Kd.R Kd.string 9 w' w.heap.size (fun _=>True) oD r1∧Below w.heap.size w w':=by
 have HB:=ak (Below.refl w.heap.size w);unfold iG.f at h;have H:=h;clear h;replace H:=bd H;obtain⟨t152,A2,H⟩:=H;have H':=ak H;clear H;go_enter Tryz.func210,Tryz.ntmps210;go_wp2_with (refine gV Tryz.func217 (jF.calls A2.out) ?_;rintro aA9 w3 ⟨ho0,hb⟩;have awf:=ak (Kd.aA ho0 (aj (ul HB.out)));replace HB:=bs HB hb;clear hb;(try clear ho0))
 go_loopg [5] k (fun kq v5 w'=>∃(dK:Int),v5= .int .i64 dK∧ah (iG.l0 kq a0 t152 dK=some (r1,r2))∧ah (kq≤k)∧ah (Kd.R Kd.string 9 w' w.heap.size (fun _=>True) aA9 t152)∧ah (Below w.heap.size w w'))
 case atStart=>exact⟨_,rs,H',⟨Nat.le_refl _⟩,⟨ur awf.out⟩,⟨ul HB.out⟩⟩
 case round=>
  clear H';obtain⟨dK,rfl,HA,yH,fP,HB⟩:=hrel
  cases gk with
  |zero=>exact zz HA.out
  |succ k1=>
   obtain⟨H⟩:=HA;simp only[iG.l0]at H;replace H:=sd H;rcases H with⟨qW,H⟩|⟨qW,H⟩
   ·replace H:=nS H;obtain⟨mQ,H⟩:=H;replace H:=sp H;rcases H with⟨c6,H⟩|⟨c6,H⟩
    ·have nG:decide (40<((mW ByteArray.empty t152 dK).size:Int))=true:=decide_eq_true c6;have xW:decide (40<(mW ByteArray.empty t152 dK).size)=true:=decide_eq_true (by omega);clear c6;obtain⟨aJf,alZ⟩:=nm ([]:List ByteArray);rw[←alZ.out]at H;obtain⟨rfl,rfl⟩:=s2 H;obtain⟨Ao7,co7,eo7⟩:=Kd.aI fP.out;subst eo7;have Rh:=zi dK;have Ri:=zj dK t152.length;obtain⟨abO,agf,abP⟩:=Kd.iJ (Kd.ay fP.out).2.2 dK Rh Ri;cases agf;replace Rh:=eq_true Rh;replace Ri:=eq_true Ri;go_wp2_with (refine Hy 28 Kd.string 9 alZ ?_;intro v157 w8 ho9 hb;have awg:=ak (Kd.aA (Kd.eX ho9 (Kd.jw (ur fP.out))) (aj (ul HB.out)));replace fP:=ak (Kd.bW (ur fP.out) (Kd.dw ho9) hb);replace HB:=bs HB hb;clear hb ho9)
     go_ret2;exact⟨_,er,ur (Kd.aQ awg.out (fun _ hk=>trivial)),ul HB.out⟩
    ·have nG:decide (40<((mW ByteArray.empty t152 dK).size:Int))=false:=decide_eq_false c6;have xW:decide (40<(mW ByteArray.empty t152 dK).size)=false:=decide_eq_false (by omega);clear c6;replace H:=bd H;obtain⟨t160,Ym,H⟩:=H;replace H:=sb H;rcases H with⟨rfl,H⟩|⟨rfl,H⟩
     ·have H':=ak H;clear H;obtain⟨yG,xG,Qk⟩:=Kd.aI fP.out;subst Qk;have Rh:=zi dK;have Ri:=zj dK t152.length;obtain⟨abO,agf,abP⟩:=Kd.iJ (Kd.ay fP.out).2.2 dK Rh Ri;cases agf;replace Rh:=eq_true Rh;replace Ri:=eq_true Ri;have Zk:=zi dK;have Zl:=zj dK t152.length;obtain⟨agh,ape,ajj⟩:=Kd.iJ (Kd.ay fP.out).2.2 dK Zk Zl;obtain rfl:abO=agh:=(by injection ape)
      replace Zk:=eq_true Zk;replace Zl:=eq_true Zl;go_wp2_with (go_at_call 159;refine mA (aN.calls Ym.out) ?_;intro nd)
      go_roundg k1
      case measure=>exact kl
      case rel=>exact⟨_,rs,H',⟨kl⟩,⟨ur fP.out⟩,⟨ul HB.out⟩⟩
     ·obtain⟨aJg,al0⟩:=nm ([]:List ByteArray);rw[←al0.out]at H;obtain⟨rfl,rfl⟩:=s2 H;obtain⟨Yr,JQ,UH⟩:=Kd.aI fP.out;subst UH;have Rh:=zi dK;have Ri:=zj dK t152.length;obtain⟨abO,agf,abP⟩:=Kd.iJ (Kd.ay fP.out).2.2 dK Rh Ri;cases agf;replace Rh:=eq_true Rh;replace Ri:=eq_true Ri;have Zk:=zi dK;have Zl:=zj dK t152.length;obtain⟨agh,ape,ajj⟩:=Kd.iJ (Kd.ay fP.out).2.2 dK Zk Zl;obtain rfl:abO=agh:=(by injection ape)
      replace Zk:=eq_true Zk;replace Zl:=eq_true Zl;go_wp2_with (first|(go_at_call 159;refine mA (aN.calls Ym.out) ?_;intro nd)|(refine Hy 28 Kd.string 9 al0 ?_;intro v162 UE O4 hb;have awh:=ak (Kd.aA (Kd.eX O4 (Kd.jw (ur fP.out))) (aj (ul HB.out)));replace fP:=ak (Kd.bW (ur fP.out) (Kd.dw O4) hb);replace HB:=bs HB hb;clear hb O4))
      go_ret2;exact⟨_,er,ur (Kd.aQ awh.out (fun _ hk=>trivial)),ul HB.out⟩
   ·obtain⟨rfl,rfl⟩:=s2 H;obtain⟨Qx,Qy,Qz⟩:=Kd.aI fP.out;subst Qz;go_wp2;go_ret2;exact⟨_,er,ur fP.out,ul HB.out⟩
def lY.f (a0:Int) (a1:Bool):Option (ByteArray):=if a0≥33 then(if a0≤126 then(if a0=61 then(if a0=32 then(if a1=true then((lD.f a0).bind fun t164=>(some t164))else(some (strOfNums (([a0]:List Int)))))else((lD.f a0).bind fun t168=>(some t168)))else(some (strOfNums (([a0]:List Int)))))else(if a0=32 then(if a1=true then((lD.f a0).bind fun awi=>(some awi))else(some (strOfNums (([a0]:List Int)))))else((lD.f a0).bind fun awj=>(some awj))))else(if a0=32 then(if a1=true then((lD.f a0).bind fun awk=>(some awk))else(some (strOfNums (([a0]:List Int)))))else((lD.f a0).bind fun awl=>(some awl)))
theorem lY.calls {a0:Int} {a1:Bool} {r:ByteArray} {w:World} (h:lY.f a0 a1=some r):
  Calls Tryz.prog 218 #[.int .u8 a0, .bool a1] w fun e w'=>e= .returned (.string r)∧Below w.heap.size w w':=by
 have HB:=ak (Below.refl w.heap.size w);unfold lY.f at h;have H:=h;clear h;replace H:=sp H;rcases H with⟨c3,H⟩|⟨c3,H⟩
 ·have iH:decide (33≤a0)=true:=decide_eq_true c3;clear c3;replace H:=sd H;rcases H with⟨qW,H⟩|⟨qW,H⟩
  ·replace H:=sq H;rcases H with⟨mQ,Ko,H⟩|⟨c5,mQ,Ko,H⟩
   ·replace H:=sq H;rcases H with⟨nG,xW,H⟩|⟨c6,nG,xW,H⟩
    ·replace H:=sb H;rcases H with⟨rfl,H⟩|⟨rfl,H⟩
     ·replace H:=bd H;obtain⟨t164,A8,H⟩:=H;obtain rfl:=s1 H;go_enter Tryz.func218,Tryz.ntmps218;go_wp2_with (refine gA Tryz.func221 (lD.calls A8.out) ?_;intro nd)
      go_ret;exact⟨er,ul HB.out⟩
     ·obtain⟨aJh,al1⟩:=nm ([a0]:List Int);rw[←al1.out]at H;obtain rfl:=s1 H;go_enter Tryz.func218,Tryz.ntmps218;go_wp2_with (refine SH 24 (Kd.int .u8) 5 [.int .u8 a0] al1 (cO.one (show Kd.M (Kd.int .u8) _ _ _ a0 [.int .u8 a0]from rfl) (cO.none _ _)) ?_;intro aJi w9 Pm hb;have awm:=ak (Kd.aA Pm (aj (ul HB.out)));replace HB:=bs HB hb;clear hb Pm;have av7:=qE (P:=Tryz.prog) Tryz.underlying22 Tryz.underlying5 Tryz.underlying9 (Kd.uQ awm.out))
      go_ret;exact⟨er,ul HB.out⟩
    ·replace H:=bd H;obtain⟨t168,A12,H⟩:=H;obtain rfl:=s1 H;go_enter Tryz.func218,Tryz.ntmps218;go_wp2_with (refine gA Tryz.func221 (lD.calls A12.out) ?_;intro nd)
     go_ret;exact⟨er,ul HB.out⟩
   ·obtain⟨aJj,al2⟩:=nm ([a0]:List Int);rw[←al2.out]at H;obtain rfl:=s1 H;go_enter Tryz.func218,Tryz.ntmps218;go_wp2_with (refine SH 24 (Kd.int .u8) 5 [.int .u8 a0] al2 (cO.one (show Kd.M (Kd.int .u8) _ _ _ a0 [.int .u8 a0]from rfl) (cO.none _ _)) ?_;intro aJk w13 O_ hb;have awn:=ak (Kd.aA O_ (aj (ul HB.out)));replace HB:=bs HB hb;clear hb O_;have av9:=qE (P:=Tryz.prog) Tryz.underlying22 Tryz.underlying5 Tryz.underlying9 (Kd.uQ awn.out))
    go_ret;exact⟨er,ul HB.out⟩
  ·replace H:=sq H;rcases H with⟨AA,J4,H⟩|⟨c16,AA,J4,H⟩
   ·replace H:=sb H;rcases H with⟨rfl,H⟩|⟨rfl,H⟩
    ·replace H:=bd H;obtain⟨awi,A18,H⟩:=H;obtain rfl:=s1 H;go_enter Tryz.func218,Tryz.ntmps218;go_wp2_with (refine gA Tryz.func221 (lD.calls A18.out) ?_;intro nd)
     go_ret;exact⟨er,ul HB.out⟩
    ·obtain⟨aJl,al3⟩:=nm ([a0]:List Int);rw[←al3.out]at H;obtain rfl:=s1 H;go_enter Tryz.func218,Tryz.ntmps218;go_wp2_with (refine SH 24 (Kd.int .u8) 5 [.int .u8 a0] al3 (cO.one (show Kd.M (Kd.int .u8) _ _ _ a0 [.int .u8 a0]from rfl) (cO.none _ _)) ?_;intro aJm w19 ac_ hb;have awo:=ak (Kd.aA ac_ (aj (ul HB.out)));replace HB:=bs HB hb;clear hb ac_;have aEm:=qE (P:=Tryz.prog) Tryz.underlying22 Tryz.underlying5 Tryz.underlying9 (Kd.uQ awo.out))
     go_ret;exact⟨er,ul HB.out⟩
   ·replace H:=bd H;obtain⟨awj,A22,H⟩:=H;obtain rfl:=s1 H;go_enter Tryz.func218,Tryz.ntmps218;go_wp2_with (refine gA Tryz.func221 (lD.calls A22.out) ?_;intro nd)
    go_ret;exact⟨er,ul HB.out⟩
 ·have iH:decide (33≤a0)=false:=decide_eq_false c3;clear c3;replace H:=sq H;rcases H with⟨Aw,Oy,H⟩|⟨c23,Aw,Oy,H⟩
  ·replace H:=sb H;rcases H with⟨rfl,H⟩|⟨rfl,H⟩
   ·replace H:=bd H;obtain⟨awk,A25,H⟩:=H;obtain rfl:=s1 H;go_enter Tryz.func218,Tryz.ntmps218;go_wp2_with (refine gA Tryz.func221 (lD.calls A25.out) ?_;intro nd)
    go_ret;exact⟨er,ul HB.out⟩
   ·obtain⟨aJn,al4⟩:=nm ([a0]:List Int);rw[←al4.out]at H;obtain rfl:=s1 H;go_enter Tryz.func218,Tryz.ntmps218;go_wp2_with (refine SH 24 (Kd.int .u8) 5 [.int .u8 a0] al4 (cO.one (show Kd.M (Kd.int .u8) _ _ _ a0 [.int .u8 a0]from rfl) (cO.none _ _)) ?_;intro aJo w26 awp hb;have awq:=ak (Kd.aA awp (aj (ul HB.out)));replace HB:=bs HB hb;clear hb awp;have aEn:=qE (P:=Tryz.prog) Tryz.underlying22 Tryz.underlying5 Tryz.underlying9 (Kd.uQ awq.out))
    go_ret;exact⟨er,ul HB.out⟩
  ·replace H:=bd H;obtain⟨awl,A29,H⟩:=H;obtain rfl:=s1 H;go_enter Tryz.func218,Tryz.ntmps218;go_wp2_with (refine gA Tryz.func221 (lD.calls A29.out) ?_;intro nd)
   go_ret;exact⟨er,ul HB.out⟩
def bJ.l0:Nat→ByteArray→List ByteArray→ByteArray→Int→Option (List ByteArray×Bool)
 |0,_,_,_,_=>none
 |k+1,x0,x4,x5,x6=>if x6<(x0.size:Int)then(if 0≤x6 then(if(bt x0 x6)=10 then(if x4.length<8796093022208 then(bJ.l0 k x0 (x4++[x5]) (⟨#[]⟩:ByteArray) (wrap64 (x6+1)))else(none))else(if(wrap64 (x6+1))=(x0.size:Int)then((lY.f (bt x0 x6) true).bind fun t194=>(if(wrap64 ((x5.size:Int)+(t194.size:Int)))>39 then(if x5.size+1≤9223372036854775807 then(if x4.length<8796093022208 then(if 0+t194.size≤9223372036854775807 then(bJ.l0 k x0 (x4++[x5++(⟨#[61]⟩:ByteArray)]) ((⟨#[]⟩:ByteArray)++t194) (wrap64 (x6+1)))else(none))else(none))else(none))else(if x5.size+t194.size≤9223372036854775807 then(bJ.l0 k x0 x4 (x5++t194) (wrap64 (x6+1)))else(none))))else(if 0≤(wrap64 (x6+1))then(if(wrap64 (x6+1))<(x0.size:Int)then((lY.f (bt x0 x6) ((bt x0 (wrap64 (x6+1)))==10)).bind fun t198=>(if(wrap64 ((x5.size:Int)+(t198.size:Int)))>39 then(if x5.size+1≤9223372036854775807 then(if x4.length<8796093022208 then(if 0+t198.size≤9223372036854775807 then(bJ.l0 k x0 (x4++[x5++(⟨#[61]⟩:ByteArray)]) ((⟨#[]⟩:ByteArray)++t198) (wrap64 (x6+1)))else(none))else(none))else(none))else(if x5.size+t198.size≤9223372036854775807 then(bJ.l0 k x0 x4 (x5++t198) (wrap64 (x6+1)))else(none))))else(none))else(none))))else(none))else(if x4.length<8796093022208 then(some ((x4++[x5]),true))else(none))
def bJ.f (k:Nat) (a0:ByteArray):Option (List ByteArray×Bool):=if(a0.size:Int)>300 then(some ((([]:List ByteArray)),false))else(bJ.l0 k a0 (([]:List ByteArray)) (⟨#[]⟩:ByteArray) 0)
theorem bJ.calls {k:Nat} {a0:ByteArray} {r1:List ByteArray} {r2:Bool} {w:World} (h:bJ.f k a0=some (r1,r2)):
  Calls Tryz.prog 211 #[.string a0] w fun e w'=>∃oD:Value,e= .returned (.tuple #[oD, .bool r2])∧Kd.R Kd.string 9 w' w.heap.size (fun _=>True) oD r1∧Below w.heap.size w w':=by
 have HB:=ak (Below.refl w.heap.size w);unfold bJ.f at h;have H:=h;clear h;replace H:=sp H;rcases H with⟨c2,H⟩|⟨c2,H⟩
 ·have nY:decide (300<(a0.size:Int))=true:=decide_eq_true c2;have uJ:decide (300<a0.size)=true:=decide_eq_true (by omega);clear c2;obtain⟨aJp,al5⟩:=nm ([]:List ByteArray);rw[←al5.out]at H;obtain⟨rfl,rfl⟩:=s2 H;go_enter Tryz.func211,Tryz.ntmps211;go_wp2_with (refine Hy 11 Kd.string 9 al5 ?_;intro v183 w3 TM hb;have awr:=ak (Kd.aA TM (aj (ul HB.out)));replace HB:=bs HB hb;clear hb TM)
  go_ret2;exact⟨_,er,ur awr.out,ul HB.out⟩
 ·have nY:decide (300<(a0.size:Int))=false:=decide_eq_false c2;have uJ:decide (300<a0.size)=false:=decide_eq_false (by omega);clear c2;obtain⟨aJq,al6⟩:=nm ([]:List ByteArray);rw[←al6.out]at H;have H':=ak H;clear H;go_enter Tryz.func211,Tryz.ntmps211;go_wp2_with (refine Hy 12 Kd.string 9 al6 ?_;intro aJr w5 TK hb;have awt:=ak (Kd.aA TK (aj (ul HB.out)));replace HB:=bs HB hb;clear hb TK)
  go_loopg [4,5,6] k (fun kq v4 v5 v6 w'=>∃(eu:List ByteArray) (dK:ByteArray) (gY:Int),v5= .string dK∧v6= .int .i64 gY∧ah (bJ.l0 kq a0 eu dK gY=some (r1,r2))∧ah (kq≤k)∧ah (Kd.R Kd.string 9 w' w.heap.size (fun _=>True) v4 eu)∧ah (Below w.heap.size w w'))
  case atStart=>exact⟨_,_,_,rs,rs,H',⟨Nat.le_refl _⟩,⟨ur awt.out⟩,⟨ul HB.out⟩⟩
  case round=>
   clear H';try clear c2
   try clear nY
   try clear uJ
   obtain⟨eu,dK,gY,rfl,rfl,HA,yH,fP,HB⟩:=hrel
   cases gk with
   |zero=>exact zz HA.out
   |succ k1=>
    obtain⟨H⟩:=HA;simp only[bJ.l0]at H;replace H:=sd H;rcases H with⟨qO,H⟩|⟨qO,H⟩
    ·replace H:=nS H;obtain⟨tK,H⟩:=H;replace H:=sq H;rcases H with⟨nI,rP,H⟩|⟨c10,nI,rP,H⟩
     ·replace H:=nl H;obtain⟨QB,H⟩:=H;obtain⟨aJs,al7⟩:=nm (eu++[dK]);rw[←al7.out]at H;have H':=ak H;clear H;obtain⟨p9,q9,hx9⟩:=bx a0 gY;go_wp2_with (at_builtin;refine aP 23 25 Kd.string 23 9 (.string ⟨#[]⟩) 16 Tryz.underlying23 info9 HB (ur fP.out) al7 (by have:=QB.out;omega) ?_;intro aJt w12 ho hb hg hat;have awu:=ak (ho);replace HB:=ak (hb);clear ho hb hg hat fP)
      go_roundg k1
      case measure=>exact kl
      case rel=>exact⟨_,_,_,rs,rs,H',⟨kl⟩,⟨ur awu.out⟩,⟨ul HB.out⟩⟩
     ·replace H:=sq H;rcases H with⟨sK,xY,H⟩|⟨c14,sK,xY,H⟩
      ·replace H:=bd H;obtain⟨t194,A15,H⟩:=H;replace H:=sp H;rcases H with⟨c16,H⟩|⟨c16,H⟩
       ·have AA:decide (39<(wrap64 ((dK.size:Int)+(t194.size:Int))))=true:=decide_eq_true c16;replace H:=nn H;obtain⟨c17,H⟩:=H
        (try(have J4:decide (39<((dK.size:Int)+(t194.size:Int)))=true:=decide_eq_true (by have h_:=c16;have Yu:=c17;unfold wrap64 at h_;omega)));clear c16;have rQ:=eq_true c17;have I4:=decide_eq_true c17;try have akX:(9223372036854775807<dK.size+1)=False:=eq_false (Nat.not_lt.2 c17)
        replace H:=nl H;obtain⟨awv,H⟩:=H;obtain⟨aJu,al8⟩:=nm (eu++[dK++(⟨#[61]⟩:ByteArray)]);rw[←al8.out]at H;replace H:=nn H;obtain⟨c19,H⟩:=H;have AB:=eq_true c19;have Ea:=decide_eq_true c19;try have aff:(9223372036854775807<0+t194.size)=False:=eq_false (Nat.not_lt.2 c19)
        have H':=ak H;clear H;obtain⟨p9,q9,hx9⟩:=bx a0 gY;try go_wp2
        replace fP:=ak (Kd.lM fP.out);replace HB:=ak (iI HB.out);obtain⟨p13,q13,YG⟩:=bx a0 gY;refine ro [15] [0,1,3,4,5,6,7,8,9,10,11,12,13,14,2,15,16] (fun w'=>True) trivial ?_
        generalize wr.drew=w20 at fP HB⊢
        repeat(first|refine Ad ?_|refine U3 ?_)
        refine rB Tryz.func218 (lY.calls A15.out) ?_;intro w21 hb;replace fP:=rb fP hb;replace HB:=bs HB hb;clear hb;refine⟨sx,?_⟩;repeat(first|refine Ad ?_|refine U3 ?_)
        refine on ?_;try go_wp2_with (at_builtin;refine aP 49 52 Kd.string 23 9 (.string ⟨#[]⟩) 16 Tryz.underlying23 info9 HB (ur fP.out) al8 (by have:=awv.out;omega) ?_;intro v196 w22 ho hb hg hat;have aww:=ak (ho);replace HB:=ak (hb);clear ho hb hg hat fP)
        go_roundg k1
        case measure=>exact kl
        case rel=>exact⟨_,_,_,rs,rs,H',⟨kl⟩,⟨ur aww.out⟩,⟨ul HB.out⟩⟩
       ·have AA:decide (39<(wrap64 ((dK.size:Int)+(t194.size:Int))))=false:=decide_eq_false c16;replace H:=nn H;obtain⟨c23,H⟩:=H
        (try(have J4:decide (39<((dK.size:Int)+(t194.size:Int)))=false:=decide_eq_false (by have h_:=c16;have Yu:=c23;unfold wrap64 at h_;omega)));clear c16;have Aw:=eq_true c23;have Oy:=decide_eq_true c23;try have avq:(9223372036854775807<dK.size+t194.size)=False:=eq_false (Nat.not_lt.2 c23)
        have H':=ak H;clear H;obtain⟨p9,q9,hx9⟩:=bx a0 gY;try go_wp2
        replace fP:=ak (Kd.lM fP.out);replace HB:=ak (iI HB.out);obtain⟨p13,q13,YG⟩:=bx a0 gY;refine ro [15] [0,1,3,4,5,6,7,8,9,10,11,12,13,14,2,15,16] (fun w'=>True) trivial ?_
        generalize wr.drew=w24 at fP HB⊢
        repeat(first|refine Ad ?_|refine U3 ?_)
        refine rB Tryz.func218 (lY.calls A15.out) ?_;intro w25 hb;replace fP:=rb fP hb;replace HB:=bs HB hb;clear hb;refine⟨sx,?_⟩;repeat(first|refine Ad ?_|refine U3 ?_)
        refine on ?_;try go_wp2
        go_roundg k1
        case measure=>exact kl
        case rel=>exact⟨_,_,_,rs,rs,H',⟨kl⟩,⟨ur fP.out⟩,⟨ul HB.out⟩⟩
      ·obtain⟨S9,Ll⟩:∃j_:Int,(wrap64 (gY+1))=j_:=⟨_,rfl⟩
       replace H:(if 0≤(S9)then(if(S9)<(a0.size:Int)then((lY.f (bt a0 gY) ((bt a0 (S9))==10)).bind fun t198=>(if(wrap64 ((dK.size:Int)+(t198.size:Int)))>39 then(if dK.size+1≤9223372036854775807 then(if eu.length<8796093022208 then(if 0+t198.size≤9223372036854775807 then(bJ.l0 k1 a0 (eu++[dK++(⟨#[61]⟩:ByteArray)]) ((⟨#[]⟩:ByteArray)++t198) S9)else(none))else(none))else(none))else(if dK.size+t198.size≤9223372036854775807 then(bJ.l0 k1 a0 eu (dK++t198) S9)else(none))))else(none))else(none))=some (r1,r2):=by first|(rw[Ll]at H;exact H)|(simp only[Ll]at H⊢;exact H)
       (try rw[Ll]at sK)
       (try rw[Ll]at xY);have aA_:(IntKind.i64.wrap (gY+1))=S9:=(iP _).trans Ll;replace H:=nS H;obtain⟨Gi,H⟩:=H;replace H:=nS H;obtain⟨Gj,H⟩:=H;replace H:=bd H;obtain⟨t198,A30,H⟩:=H;replace H:=sp H;rcases H with⟨c31,H⟩|⟨c31,H⟩
       ·have afO:decide (39<(wrap64 ((dK.size:Int)+(t198.size:Int))))=true:=decide_eq_true c31;replace H:=nn H;obtain⟨c32,H⟩:=H
        (try(have afP:decide (39<((dK.size:Int)+(t198.size:Int)))=true:=decide_eq_true (by have h_:=c31;have Yu:=c32;unfold wrap64 at h_;omega)));clear c31;have Xc:=eq_true c32;have aeS:=decide_eq_true c32;try have aEo:(9223372036854775807<dK.size+1)=False:=eq_false (Nat.not_lt.2 c32)
        replace H:=nl H;obtain⟨awx,H⟩:=H;obtain⟨aJv,al9⟩:=nm (eu++[dK++(⟨#[61]⟩:ByteArray)]);rw[←al9.out]at H;replace H:=nn H;obtain⟨c34,H⟩:=H;have WY:=eq_true c34;have WZ:=decide_eq_true c34;try have aEp:(9223372036854775807<0+t198.size)=False:=eq_false (Nat.not_lt.2 c34)
        have H':=ak H;clear H;obtain⟨p9,q9,hx9⟩:=bx a0 gY;try go_wp2
        replace fP:=ak (Kd.lM fP.out);replace HB:=ak (iI HB.out);obtain⟨p13,q13,YG⟩:=bx a0 gY;obtain⟨p29,q29,hx29⟩:=bx a0 (S9);refine ro [15] [0,1,3,4,5,6,7,8,9,10,11,2,12,13,14,15,16] (fun w'=>True) trivial ?_
        generalize wr.drew=w35 at fP HB⊢
        repeat refine Ad ?_
        refine ld (N:=some 42) (gk.trans rfl) rfl rfl (fun K hK=>?_);refine zD Tryz.func218 (by kernel_rfl) rfl #[.int .u8 (bt a0 gY), .bool ((bt a0 (S9))==10)] (by rfl) rfl rfl (by(try simp only[List.map_toArray,List.map_cons,List.map_nil]);first|done|(simp only[Ll];rfl)|rfl|(simp only[List.length_drop,List.length_take];rfl)) ?_
        with_reducible refine(lY.calls A30.out).mono ?_
        rintro e w36 ⟨rfl,hb⟩;refine⟨_,rfl,?_⟩;replace fP:=rb fP hb;replace HB:=bs HB hb;try clear hb
        refine hK.out _ _ trivial ?_;clear hK K;refine no (a':=?_) ?_ ?_
        rotate_left
        ·show Act.put _ (some 42) _=_
         simp only[Act.put,Aq,Ar,l_c,iP,jZ];rfl
        repeat refine Ad ?_
        refine on ?_;try go_wp2_with (at_builtin;refine aP 49 52 Kd.string 23 9 (.string ⟨#[]⟩) 16 Tryz.underlying23 info9 HB (ur fP.out) al9 (by have:=awx.out;omega) ?_;intro aJw w37 ho hb hg hat;have awy:=ak (ho);replace HB:=ak (hb);clear ho hb hg hat fP)
        go_roundg k1
        case measure=>exact kl
        case rel=>exact⟨_,_,_,rs,(by first|rfl|(simp;done)|(simp only[←Ll]<;>(first|rfl|simp))|(simp[*];done)),H',⟨kl⟩,⟨ur awy.out⟩,⟨ul HB.out⟩⟩
       ·have afO:decide (39<(wrap64 ((dK.size:Int)+(t198.size:Int))))=false:=decide_eq_false c31;replace H:=nn H;obtain⟨Yn,H⟩:=H
        (try(have afP:decide (39<((dK.size:Int)+(t198.size:Int)))=false:=decide_eq_false (by have h_:=c31;have Yu:=Yn;unfold wrap64 at h_;omega)));clear c31;have aaL:=eq_true Yn;have aEq:=decide_eq_true Yn;try have aEr:(9223372036854775807<dK.size+t198.size)=False:=eq_false (Nat.not_lt.2 Yn)
        have H':=ak H;clear H;obtain⟨p9,q9,hx9⟩:=bx a0 gY;try go_wp2
        replace fP:=ak (Kd.lM fP.out);replace HB:=ak (iI HB.out);obtain⟨p13,q13,YG⟩:=bx a0 gY;obtain⟨p29,q29,hx29⟩:=bx a0 (S9);refine ro [15] [0,1,3,4,5,6,7,8,9,10,11,2,12,13,14,15,16] (fun w'=>True) trivial ?_
        generalize wr.drew=w39 at fP HB⊢
        repeat refine Ad ?_
        refine ld (N:=some 42) (gk.trans rfl) rfl rfl (fun K hK=>?_);refine zD Tryz.func218 (by kernel_rfl) rfl #[.int .u8 (bt a0 gY), .bool ((bt a0 (S9))==10)] (by rfl) rfl rfl (by(try simp only[List.map_toArray,List.map_cons,List.map_nil]);first|done|(simp only[Ll];rfl)|rfl|(simp only[List.length_drop,List.length_take];rfl)) ?_
        with_reducible refine(lY.calls A30.out).mono ?_
        rintro e w40 ⟨rfl,hb⟩;refine⟨_,rfl,?_⟩;replace fP:=rb fP hb;replace HB:=bs HB hb;try clear hb
        refine hK.out _ _ trivial ?_;clear hK K;refine no (a':=?_) ?_ ?_
        rotate_left
        ·show Act.put _ (some 42) _=_
         simp only[Act.put,Aq,Ar,l_c,iP,jZ];rfl
        repeat refine Ad ?_
        refine on ?_;try go_wp2
        go_roundg k1
        case measure=>exact kl
        case rel=>exact⟨_,_,_,rs,(by first|rfl|(simp;done)|(simp only[←Ll]<;>(first|rfl|simp))|(simp[*];done)),H',⟨kl⟩,⟨ur fP.out⟩,⟨ul HB.out⟩⟩
    ·replace H:=nl H;obtain⟨awz,H⟩:=H;obtain⟨aJx,al_⟩:=nm (eu++[dK]);rw[←al_.out]at H;obtain⟨rfl,rfl⟩:=s2 H;go_wp2_with (at_builtin;refine aP 57 59 Kd.string 23 9 (.string ⟨#[]⟩) 16 Tryz.underlying23 info9 HB (ur fP.out) al_ (by have:=awz.out;omega) ?_;intro aJy w42 ho hb hg hat;have awC:=ak (ho);replace HB:=ak (hb);clear ho hb hg hat fP)
     go_ret2;exact⟨_,er,ur awC.out,ul HB.out⟩
def jT.l0:Nat→ByteArray→Int→List ByteArray→Option (List ByteArray)
 |0,_,_,_=>none
 |k+1,x0,x1,x5=>if(x0.size:Int)>x1 then(if 0≤x1 then(if x1≤(x0.size:Int)then(if x5.length<8796093022208 then(jT.l0 k (x0.extract (x1:Int).toNat x0.size) x1 (x5++[x0.extract 0 (x1:Int).toNat]))else(none))else(none))else(none))else(if x5.length<8796093022208 then(some (x5++[x0]))else(none))
def jT.f (k:Nat) (a0:ByteArray) (a1:Int):Option (List ByteArray):=jT.l0 k a0 a1 (([]:List ByteArray))
theorem jT.calls {k:Nat} {a0:ByteArray} {a1:Int} {r:List ByteArray} {w:World} (h:jT.f k a0 a1=some r):
  Calls Tryz.prog 219 #[.string a0, .int .i64 a1] w fun e w'=>∃oD:Value,e= .returned (oD)∧Kd.R Kd.string 9 w' w.heap.size (fun _=>True) oD r∧Below w.heap.size w w':=by
 have HB:=ak (Below.refl w.heap.size w);unfold jT.f at h;have H:=h;clear h;obtain⟨aJz,ama⟩:=nm ([]:List ByteArray);rw[←ama.out]at H;have H':=ak H;clear H;go_enter Tryz.func219,Tryz.ntmps219;go_wp2_with (refine Hy 6 Kd.string 9 ama ?_;intro v203 w3 TM hb;have awD:=ak (Kd.aA TM (aj (ul HB.out)));replace HB:=bs HB hb;clear hb TM)
 go_loopg [0,5] k (fun kq v0 v5 w'=>∃(qH:ByteArray) (dK:List ByteArray),v0= .string qH∧ah (jT.l0 kq qH a1 dK=some r)∧ah (kq≤k)∧ah (Kd.R Kd.string 9 w' w.heap.size (fun _=>True) v5 dK)∧ah (Below w.heap.size w w'))
 case atStart=>exact⟨_,_,rs,H',⟨Nat.le_refl _⟩,⟨ur awD.out⟩,⟨ul HB.out⟩⟩
 case round=>
  clear H';obtain⟨qH,dK,rfl,HA,yH,pY,HB⟩:=hrel
  cases gk with
  |zero=>exact zz HA.out
  |succ k1=>
   obtain⟨H⟩:=HA;simp only[jT.l0]at H;replace H:=sp H;rcases H with⟨c5,H⟩|⟨c5,H⟩
   ·have mQ:decide (a1<(qH.size:Int))=true:=decide_eq_true c5;clear c5;replace H:=AY H;obtain⟨nG,xW,H⟩:=H;replace H:=AY H;obtain⟨qO,Jl,H⟩:=H;replace H:=nl H;obtain⟨am8,H⟩:=H;obtain⟨aJA,amb⟩:=nm (dK++[qH.extract 0 (a1:Int).toNat]);rw[←amb.out]at H;have yI:=eq_true (of_decide_eq_true (by assumption):0≤a1);have nI:=eq_true (of_decide_eq_true (by assumption):a1≤(qH.size:Int));have H':=ak H;clear H;go_wp2_with (at_builtin;refine aP 11 15 Kd.string 23 9 (.string ⟨#[]⟩) 16 Tryz.underlying23 info9 HB (ur pY.out) amb (by have:=am8.out;omega) ?_;intro v206 WI ho hb hg hat;have awE:=ak (ho);replace HB:=ak (hb);clear ho hb hg hat pY)
    go_roundg k1
    case measure=>exact kl
    case rel=>exact⟨_,_,rs,H',⟨kl⟩,⟨ur awE.out⟩,⟨ul HB.out⟩⟩
   ·have mQ:decide (a1<(qH.size:Int))=false:=decide_eq_false c5;clear c5;replace H:=nl H;obtain⟨QD,H⟩:=H;obtain⟨aJB,amc⟩:=nm (dK++[qH]);rw[←amc.out]at H;obtain rfl:=s1 H;go_wp2_with (at_builtin;refine aP 20 22 Kd.string 23 9 (.string ⟨#[]⟩) 16 Tryz.underlying23 info9 HB (ur pY.out) amc (by have:=QD.out;omega) ?_;intro aJC w13 ho hb hg hat;have awF:=ak (ho);replace HB:=ak (hb);clear ho hb hg hat pY)
    go_ret;exact⟨_,er,ur awF.out,ul HB.out⟩
def oU.f:Option (ByteArray):=some (⟨#[65,66,67,68,69,70,71,72,73,74,75,76,77,78,79,80,81,82,83,84,85,86,87,88,89,90,97,98,99,100,101,102,103,104,105,106,107,108,109,110,111,112,113,114,115,116,117,118,119,120,121,122,48,49,50,51,52,53,54,55,56,57,43,47]⟩:ByteArray)
theorem oU.calls (r:ByteArray) (w:World) (h:oU.f=some r):
  Calls Tryz.prog 222 #[] w fun e w'=>e= .returned (.string r)∧dM w w':=by
 unfold oU.f at h;have H:=h;clear h;obtain rfl:=s1 H;go_enter Tryz.func222,Tryz.ntmps222;go_wp2;go_ret;exact⟨rs,dn⟩
mutual
def bK.l0:Nat→ByteArray→ByteArray→Int→Option (ByteArray)
 |0,_,_,_=>none
 |k+1,x0,x3,x4=>if x4<(x0.size:Int)then(if 0≤x4 then(if(wrap64 (x4+1))<(x0.size:Int)then(if 0≤(wrap64 (x4+1))then(bK.j1 k x0 x3 x4 (wrap64 ((wrap64 ((wrap64 (bt x0 x4))*65536))+(wrap64 ((wrap64 (bt x0 (wrap64 (x4+1))))*256)))))else(none))else(bK.j1 k x0 x3 x4 (wrap64 ((wrap64 (bt x0 x4))*65536))))else(none))else(some x3)
def bK.j1:Nat→ByteArray→ByteArray→Int→Int→Option (ByteArray)
 |0,_,_,_,_=>none
 |k+1,x0,x3,x4,x5=>if(wrap64 (x4+2))<(x0.size:Int)then(if 0≤(wrap64 (x4+2))then(bK.j2 k x0 x3 x4 (wrap64 (x5+(wrap64 (bt x0 (wrap64 (x4+2)))))))else(none))else(bK.j2 k x0 x3 x4 x5)
def bK.j2:Nat→ByteArray→ByteArray→Int→Int→Option (ByteArray)
 |0,_,_,_,_=>none
 |k+1,x0,x3,x4,x5=>bK.l1 k x0 x3 x4 x5 0
def bK.l1:Nat→ByteArray→ByteArray→Int→Int→Int→Option (ByteArray)
 |0,_,_,_,_,_=>none
 |k+1,x0,x3,x4,x5,x6=>if x6<4 then(if(wrap64 (x4+x6))>(x0.size:Int)then(if x3.size+1≤9223372036854775807 then(bK.l1 k x0 (x3++(⟨#[61]⟩:ByteArray)) x4 x5 (wrap64 (x6+1)))else(none))else(if 0≤(wrap64 (18-(wrap64 (6*x6))))then((oU.f).bind fun Jv=>(if 0≤(Go.bits .and .i64 (shr .i64 x5 (wrap64 (18-(wrap64 (6*x6))))) 63)then(if(Go.bits .and .i64 (shr .i64 x5 (wrap64 (18-(wrap64 (6*x6))))) 63)≤(wrap64 ((Go.bits .and .i64 (shr .i64 x5 (wrap64 (18-(wrap64 (6*x6))))) 63)+1))then(if(wrap64 ((Go.bits .and .i64 (shr .i64 x5 (wrap64 (18-(wrap64 (6*x6))))) 63)+1))≤(Jv.size:Int)then(if x3.size+(Jv.extract ((Go.bits .and .i64 (shr .i64 x5 (wrap64 (18-(wrap64 (6*x6))))) 63):Int).toNat ((wrap64 ((Go.bits .and .i64 (shr .i64 x5 (wrap64 (18-(wrap64 (6*x6))))) 63)+1)):Int).toNat).size≤9223372036854775807 then(bK.l1 k x0 (x3++(Jv.extract ((Go.bits .and .i64 (shr .i64 x5 (wrap64 (18-(wrap64 (6*x6))))) 63):Int).toNat ((wrap64 ((Go.bits .and .i64 (shr .i64 x5 (wrap64 (18-(wrap64 (6*x6))))) 63)+1)):Int).toNat)) x4 x5 (wrap64 (x6+1)))else(none))else(none))else(none))else(none)))else(none)))else(bK.l0 k x0 x3 (wrap64 (x4+3)))
end
def bK.f (k:Nat) (a0:ByteArray):Option (ByteArray):=bK.l0 k a0 (⟨#[]⟩:ByteArray) 0
theorem bK.calls {k:Nat} {a0 r:ByteArray} {w:World} (h:bK.f k a0=some r):
  Calls Tryz.prog 220 #[.string a0] w fun e w'=>e= .returned (.string r)∧dM w w':=by
 unfold bK.f at h;have H:=h;clear h;have H':=ak H;clear H;go_enter Tryz.func220,Tryz.ntmps220;go_wp2;go_loopg [3,4] k (fun kq v3 v4 w'=>∃(dR:ByteArray) (eu:Int),v3= .string dR∧v4= .int .i64 eu∧ah (bK.l0 kq a0 dR eu=some r)∧ah (kq≤k)∧dM w w')
 case atStart=>exact⟨_,_,rs,rs,H',⟨Nat.le_refl _⟩,dn⟩
 case round=>
  clear H';obtain⟨dR,eu,rfl,rfl,HA,yH,⟨m1,rfl⟩⟩:=hrel
  cases gk with
  |zero=>exact zz HA.out
  |succ k1=>
   obtain⟨H⟩:=HA;simp only[bK.l0]at H;replace H:=sd H;rcases H with⟨nY,H⟩|⟨nY,H⟩
   ·replace H:=nS H;obtain⟨iH,H⟩:=H;have HC5:=ak H;clear H;obtain⟨p4,q4,hx4⟩:=bx a0 eu;go_upto_if 23 with(fail)
    go_cut [5] (fun v5 wc=>∃(kq:Nat) (WT:Int),v5= .int .i64 WT∧ah (bK.j1 kq a0 dR eu WT=some r)∧ah (kq≤k1)∧dM w wc)
    case first=>
     have H:=HC5.out;clear HC5;replace H:=sp H;rcases H with⟨c6,H⟩|⟨c6,H⟩
     ·have nG:=decide_eq_true c6
      (try(have xW:decide ((eu+1)<(a0.size:Int))=true:=decide_eq_true (by have h_:=c6;unfold wrap64 at h_;omega)));clear c6
      (first|rw[nG]|(simp only[iP,jZ];rw[nG])|skip);obtain⟨ji7,O6⟩:∃j_:Int,(wrap64 (eu+1))=j_:=⟨_,rfl⟩
      replace H:(if 0≤(ji7)then(bK.j1 k1 a0 dR eu (wrap64 ((wrap64 ((wrap64 (bt a0 eu))*65536))+(wrap64 ((wrap64 (bt a0 (ji7)))*256)))))else(none))=some r:=by first|(rw[O6]at H;exact H)|(simp only[O6]at H⊢;exact H)
      (try rw[O6]at nG);have aqN:(IntKind.i64.wrap (eu+1))=ji7:=(iP _).trans O6;replace H:=nS H;obtain⟨tK,H⟩:=H;have H':=ak H;clear H;obtain⟨p9,q9,hx9⟩:=bx a0 (ji7);go_wp2;go_meet
      case rel=>exact⟨_,_,(by first|rfl|(simp;done)|(simp only[←O6]<;>(first|rfl|simp))|(simp[*];done)),H',⟨kl⟩,dn⟩
     ·have nG:=decide_eq_false c6
      (try(have xW:decide ((eu+1)<(a0.size:Int))=false:=decide_eq_false (by have h_:=c6;unfold wrap64 at h_;omega)));clear c6
      (first|rw[nG]|(simp only[iP,jZ];rw[nG])|skip);have H':=ak H;clear H;go_wp2;go_meet
      case rel=>exact⟨_,_,rs,H',⟨kl⟩,dn⟩
    case rest=>
     clear HC5;try clear nY
     try clear iH
     try clear p4
     try clear q4
     try clear hx4
     try clear p4
     try clear q4
     obtain⟨kq,WT,rfl,HA,HJ4,⟨mc4,rfl⟩⟩:=hcut
     cases kq with
     |zero=>exact zz HA.out
     |succ kj4=>
      obtain⟨H⟩:=HA;simp only[bK.j1]at H;have apf:=ak H;clear H;go_upto_if 36 with(fail)
      go_cut [5] (fun v5 wc=>∃(kq:Nat) (GK:Int),v5= .int .i64 GK∧ah (bK.j2 kq a0 dR eu GK=some r)∧ah (kq≤kj4)∧dM w wc)
      case first=>
       have H:=apf.out;clear apf;replace H:=sp H;rcases H with⟨c11,H⟩|⟨c11,H⟩
       ·have sJ:=decide_eq_true c11
        (try(have CZ:decide ((eu+2)<(a0.size:Int))=true:=decide_eq_true (by have h_:=c11;unfold wrap64 at h_;omega)));clear c11
        (first|rw[sJ]|(simp only[iP,jZ];rw[sJ])|skip);obtain⟨O7,Fe⟩:∃j_:Int,(wrap64 (eu+2))=j_:=⟨_,rfl⟩
        replace H:(if 0≤(O7)then(bK.j2 kj4 a0 dR eu (wrap64 (WT+(wrap64 (bt a0 (O7))))))else(none))=some r:=by first|(rw[Fe]at H;exact H)|(simp only[Fe]at H⊢;exact H)
        (try rw[Fe]at sJ);have anM:(IntKind.i64.wrap (eu+2))=O7:=(iP _).trans Fe;replace H:=nS H;obtain⟨vW,H⟩:=H;have H':=ak H;clear H;obtain⟨p14,q14,anP⟩:=bx a0 (O7);go_wp2;go_meet
        case rel=>exact⟨_,_,(by first|rfl|(simp;done)|(simp only[←Fe]<;>(first|rfl|simp))|(simp[*];done)),H',⟨kl⟩,dn⟩
       ·have sJ:=decide_eq_false c11
        (try(have CZ:decide ((eu+2)<(a0.size:Int))=false:=decide_eq_false (by have h_:=c11;unfold wrap64 at h_;omega)));clear c11
        (first|rw[sJ]|(simp only[iP,jZ];rw[sJ])|skip);have H':=ak H;clear H;go_wp2;go_meet
        case rel=>exact⟨_,_,rs,H',⟨kl⟩,dn⟩
      case rest=>
       clear apf;try clear nY
       try clear iH
       try clear p4
       try clear q4
       try clear hx4
       try clear p4
       try clear q4
       obtain⟨kq,GK,rfl,HA,HJ9,⟨mc9,rfl⟩⟩:=hcut
       cases kq with
       |zero=>exact zz HA.out
       |succ kj9=>
        obtain⟨H⟩:=HA;simp only[bK.j2]at H;have H':=ak H;clear H;go_wp2;go_loopg [3,6] kj9 (fun kq v3 v6 w'=>∃(S_:ByteArray) (Rj:Int),v3= .string S_∧v6= .int .i64 Rj∧ah (bK.l1 kq a0 S_ eu GK Rj=some r)∧ah (kq≤kj9)∧dM w w')
        case atStart=>exact⟨_,_,rs,rs,H',⟨Nat.le_refl _⟩,dn⟩
        case round=>
         clear H';try clear nY
         try clear iH
         try clear p4
         try clear q4
         try clear hx4
         try clear p4
         try clear q4
         obtain⟨S_,Rj,rfl,rfl,HA,HK4,⟨m4,rfl⟩⟩:=hrel
         cases gk with
         |zero=>exact zz HA.out
         |succ k4=>
          obtain⟨H⟩:=HA;simp only[bK.l1]at H;replace H:=sd H;rcases H with⟨vX,H⟩|⟨vX,H⟩
          ·replace H:=sp H;rcases H with⟨c16,H⟩|⟨c16,H⟩
           ·have AA:decide ((a0.size:Int)<(wrap64 (eu+Rj)))=true:=decide_eq_true c16;replace H:=nn H;obtain⟨c17,H⟩:=H
            (try(have J4:decide ((a0.size:Int)<(eu+Rj))=true:=decide_eq_true (by have h_:=c16;have Yu:=c17;unfold wrap64 at h_;omega)));clear c16;have rQ:=eq_true c17;have I4:=decide_eq_true c17;try have akX:(9223372036854775807<S_.size+1)=False:=eq_false (Nat.not_lt.2 c17)
            have H':=ak H;clear H;go_wp2;go_roundg k4
            case measure=>exact kl
            case rel=>exact⟨_,_,rs,rs,H',⟨kl⟩,dn⟩
           ·have AA:decide ((a0.size:Int)<(wrap64 (eu+Rj)))=false:=decide_eq_false c16
            (try(have J4:decide ((a0.size:Int)<(eu+Rj))=false:=decide_eq_false (by have h_:=c16;unfold wrap64 at h_;omega)));clear c16;obtain⟨Lm,agi⟩:∃j_:Int,(wrap64 (18-(wrap64 (6*Rj))))=j_:=⟨_,rfl⟩
            replace H:(if 0≤(Lm)then((oU.f).bind fun Jv=>(if 0≤(Go.bits .and .i64 (shr .i64 GK (Lm)) 63)then(if(Go.bits .and .i64 (shr .i64 GK (Lm)) 63)≤(wrap64 ((Go.bits .and .i64 (shr .i64 GK (Lm)) 63)+1))then(if(wrap64 ((Go.bits .and .i64 (shr .i64 GK (Lm)) 63)+1))≤(Jv.size:Int)then(if S_.size+(Jv.extract ((Go.bits .and .i64 (shr .i64 GK (Lm)) 63):Int).toNat ((wrap64 ((Go.bits .and .i64 (shr .i64 GK (Lm)) 63)+1)):Int).toNat).size≤9223372036854775807 then(bK.l1 k4 a0 (S_++(Jv.extract ((Go.bits .and .i64 (shr .i64 GK (Lm)) 63):Int).toNat ((wrap64 ((Go.bits .and .i64 (shr .i64 GK (Lm)) 63)+1)):Int).toNat)) eu GK (wrap64 (Rj+1)))else(none))else(none))else(none))else(none)))else(none))=some r:=by first|(rw[agi]at H;exact H)|(simp only[agi]at H⊢;exact H)
            have aBa:(IntKind.i64.wrap (18-(wrap64 (6*Rj))))=Lm:=(iP _).trans agi;replace H:=AY H;obtain⟨AB,Ea,H⟩:=H;obtain⟨Lp,XD⟩:∃j_:Int,(shr .i64 GK (Lm))=j_:=⟨_,rfl⟩
            replace H:((oU.f).bind fun Jv=>(if 0≤(Go.bits .and .i64 (Lp) 63)then(if(Go.bits .and .i64 (Lp) 63)≤(wrap64 ((Go.bits .and .i64 (Lp) 63)+1))then(if(wrap64 ((Go.bits .and .i64 (Lp) 63)+1))≤(Jv.size:Int)then(if S_.size+(Jv.extract ((Go.bits .and .i64 (Lp) 63):Int).toNat ((wrap64 ((Go.bits .and .i64 (Lp) 63)+1)):Int).toNat).size≤9223372036854775807 then(bK.l1 k4 a0 (S_++(Jv.extract ((Go.bits .and .i64 (Lp) 63):Int).toNat ((wrap64 ((Go.bits .and .i64 (Lp) 63)+1)):Int).toNat)) eu GK (wrap64 (Rj+1)))else(none))else(none))else(none))else(none)))=some r:=by first|(rw[XD]at H;exact H)|(simp only[XD]at H⊢;exact H)
            have aBb:(GK/2 ^ min (Lm).toNat 64)=Lp:=XD;have aBd:(Lm)≤64→(GK/2 ^ (Lm).toNat)=Lp:=ade XD;replace H:=bd H;obtain⟨Jv,A21,H⟩:=H;replace H:=AY H;obtain⟨FZ,aax,H⟩:=H;replace H:=nn H;obtain⟨c23,H⟩:=H;have Aw:=eq_true c23;have Oy:=decide_eq_true c23;replace H:=nn H;obtain⟨c24,H⟩:=H;have Ot:=eq_true c24;have aeP:=decide_eq_true c24;replace H:=nn H;obtain⟨c25,H⟩:=H;have Qs:=eq_true c25;have afx:=decide_eq_true c25;try have aEs:(9223372036854775807<S_.size+((Jv.extract ((Go.bits .and .i64 (Lp) 63):Int).toNat ((wrap64 ((Go.bits .and .i64 (Lp) 63)+1)):Int).toNat).size))=False:=by have h_:=c25;simp only[ByteArray.size_append,ByteArray.size_extract]at h_;refine eq_false ?_;simp only[decide_eq_true_eq]at*;omega
            try have atT:(9223372036854775807<S_.size+(Jv.extract ((Go.bits .and .i64 (Lp) 63):Int).toNat ((wrap64 ((Go.bits .and .i64 (Lp) 63)+1)):Int).toNat).size)=False:=eq_false (Nat.not_lt.2 c25)
            have H':=ak H;clear H;go_wp2_with (refine gA Tryz.func222 (oU.calls Jv _ A21.out) ?_;intro nd)
            go_roundg k4
            case measure=>exact kl
            case rel=>exact⟨_,_,(by first|rfl|(simp;done)|(simp only[←XD]<;>(first|rfl|simp))|(simp[*];done)),rs,H',⟨kl⟩,dn⟩
          ·have H':=ak H;clear H;go_wp2;go_roundg k4
           case measure=>exact kl
           case rel=>exact⟨_,_,rs,rs,H',⟨kl⟩,dn⟩
   ·obtain rfl:=s1 H;go_wp2;go_ret;exact⟨rs,dn⟩
def lG.f (k:Nat) (a0:ByteArray):Option (List ByteArray×Bool):=if(a0.size:Int)>300 then(some ((([]:List ByteArray)),false))else((bK.f k a0).bind fun awG=>((jT.f k awG 40).bind fun awH=>(some (awH,true))))
theorem lG.calls {k:Nat} {a0:ByteArray} {r1:List ByteArray} {r2:Bool} {w:World} (h:lG.f k a0=some (r1,r2)):
  Calls Tryz.prog 212 #[.string a0] w fun e w'=>∃oD:Value,e= .returned (.tuple #[oD, .bool r2])∧Kd.R Kd.string 9 w' w.heap.size (fun _=>True) oD r1∧Below w.heap.size w w':=by
 have HB:=ak (Below.refl w.heap.size w);unfold lG.f at h;have H:=h;clear h;replace H:=sp H;rcases H with⟨c2,H⟩|⟨c2,H⟩
 ·have nY:decide (300<(a0.size:Int))=true:=decide_eq_true c2;have uJ:decide (300<a0.size)=true:=decide_eq_true (by omega);clear c2;obtain⟨aJD,amd⟩:=nm ([]:List ByteArray);rw[←amd.out]at H;obtain⟨rfl,rfl⟩:=s2 H;go_enter Tryz.func212,Tryz.ntmps212;go_wp2_with (refine Hy 7 Kd.string 9 amd ?_;intro aJE w3 TM hb;have awI:=ak (Kd.aA TM (aj (ul HB.out)));replace HB:=bs HB hb;clear hb TM)
  go_ret2;exact⟨_,er,ur awI.out,ul HB.out⟩
 ·have nY:decide (300<(a0.size:Int))=false:=decide_eq_false c2;have uJ:decide (300<a0.size)=false:=decide_eq_false (by omega);clear c2;replace H:=bd H;obtain⟨awG,A5,H⟩:=H;replace H:=bd H;obtain⟨awH,A6,H⟩:=H;obtain⟨rfl,rfl⟩:=s2 H;go_enter Tryz.func212,Tryz.ntmps212;go_wp2_with (first|(refine gA Tryz.func220 (bK.calls A5.out) ?_;intro nd)|(refine gV Tryz.func219 (jT.calls A6.out) ?_;rintro aJF w7 ⟨ho0,hb⟩;have awJ:=ak (Kd.aA ho0 (aj (ul HB.out)));replace HB:=bs HB hb;clear hb;(try clear ho0)))
  go_ret2;exact⟨_,er,ur awJ.out,ul HB.out⟩
def jG.l0:Nat→List ByteArray→Int→Int→Option (Int)
 |0,_,_,_=>none
 |k+1,x0,x3,x4=>if x4<(x0.length:Int)then(if 0≤x4 then(jG.l0 k x0 (wrap64 ((wrap64 (x3+((mW ByteArray.empty x0 x4).size:Int)))+1)) (wrap64 (x4+1)))else(none))else(some x3)
def jG.f (k:Nat) (l0:List ByteArray):Option (Int):=jG.l0 k l0 0 0
theorem jG.calls {k c0:Nat} {A0:Option Addr} {l0:List ByteArray} {r:Int} {w:World} (hr0:Kd.C Kd.string w A0 l0.length l0) (hc0:l0.length≤c0) (h:jG.f k l0=some r):
  Calls Tryz.prog 213 #[.slice A0 l0.length c0] w fun e w'=>e= .returned (.int .i64 r)∧dM w w':=by
 have HR0:=ak hr0;have yF:=ak hc0;clear hr0 hc0;unfold jG.f at h;have H:=h;clear h;have H':=ak H;clear H;go_enter Tryz.func213,Tryz.ntmps213;go_wp2;go_loopg [3,4] k (fun kq v3 v4 w'=>∃(dR:Int) (eu:Int),v3= .int .i64 dR∧v4= .int .i64 eu∧ah (jG.l0 kq l0 dR eu=some r)∧ah (kq≤k)∧dM w w')
 case atStart=>exact⟨_,_,rs,rs,H',⟨Nat.le_refl _⟩,dn⟩
 case round=>
  clear H';obtain⟨dR,eu,rfl,rfl,HA,yH,⟨m1,rfl⟩⟩:=hrel
  cases gk with
  |zero=>exact zz HA.out
  |succ k1=>
   obtain⟨H⟩:=HA;simp only[jG.l0]at H;replace H:=sd H;rcases H with⟨nY,H⟩|⟨nY,H⟩
   ·replace H:=nS H;obtain⟨iH,H⟩:=H;have H':=ak H;clear H;have apg:=zi eu;have aph:=zj eu l0.length;obtain⟨aEt,e219,ayJ⟩:=Kd.iJ HR0.out eu apg aph;cases e219;replace apg:=eq_true apg;replace aph:=eq_true aph;go_wp2;go_roundg k1
    case measure=>exact kl
    case rel=>exact⟨_,_,rs,rs,H',⟨kl⟩,dn⟩
   ·obtain rfl:=s1 H;go_wp2;go_ret;exact⟨rs,dn⟩
def lH.f (k:Nat) (a0:ByteArray):Option (Int×Bool):=if(a0.size:Int)>300 then(some (0,false))else((iG.f k a0).bind fun awK=>(if awK.2=true then(some (0,true))else((bJ.f k a0).bind fun awL=>((lG.f k a0).bind fun awM=>((jG.f k awL.1).bind fun t232=>((jG.f k awM.1).bind fun t233=>(if t232≤t233 then(some (1,true))else(some (2,true)))))))))
theorem lH.calls {k:Nat} {a0:ByteArray} {r1:Int} {r2:Bool} {w:World} (h:lH.f k a0=some (r1,r2)):
  Calls Tryz.prog 195 #[.string a0] w fun e w'=>e= .returned (.tuple #[.int .i64 r1, .bool r2])∧Below w.heap.size w w':=by
 have HB:=ak (Below.refl w.heap.size w);unfold lH.f at h;have H:=h;clear h;replace H:=sp H;rcases H with⟨c2,H⟩|⟨c2,H⟩
 ·have nY:decide (300<(a0.size:Int))=true:=decide_eq_true c2;have uJ:decide (300<a0.size)=true:=decide_eq_true (by omega);clear c2;obtain⟨rfl,rfl⟩:=s2 H;go_enter Tryz.func195,Tryz.ntmps195;go_wp2;go_ret2;exact⟨er,ul HB.out⟩
 ·have nY:decide (300<(a0.size:Int))=false:=decide_eq_false c2;have uJ:decide (300<a0.size)=false:=decide_eq_false (by omega);clear c2;replace H:=bd H;obtain⟨⟨aJG,aJH⟩,A3,H⟩:=H
  (try dsimp only at H);replace H:=sb H;rcases H with⟨rfl,H⟩|⟨rfl,H⟩
  ·obtain⟨rfl,rfl⟩:=s2 H;go_enter Tryz.func195,Tryz.ntmps195;go_wp2_with (refine gV Tryz.func210 (iG.calls A3.out) ?_;rintro v222 w5 ⟨ho0,hb⟩;have Dt:=ak (Kd.aA ho0 (aj (ul HB.out)));replace HB:=bs HB hb;clear hb;(try clear ho0))
   go_ret2;exact⟨er,ul HB.out⟩
  ·replace H:=bd H;obtain⟨⟨aJI,aJJ⟩,A6,H⟩:=H
   (try dsimp only at H);replace H:=bd H;obtain⟨⟨t228,t229⟩,A7,H⟩:=H
   (try dsimp only at H);replace H:=bd H;obtain⟨t232,A8,H⟩:=H;replace H:=bd H;obtain⟨t233,A9,H⟩:=H;replace H:=sd H;rcases H with⟨nI,H⟩|⟨nI,H⟩
   ·obtain⟨rfl,rfl⟩:=s2 H;go_enter Tryz.func195,Tryz.ntmps195;go_wp2_with (first|(refine gV Tryz.func210 (iG.calls A3.out) ?_;rintro v222 WI ⟨ho0,hb⟩;have Dt:=ak (Kd.aA ho0 (aj (ul HB.out)));replace HB:=bs HB hb;clear hb;(try clear ho0))|(refine gV Tryz.func211 (bJ.calls A6.out) ?_;rintro v226 w12 ⟨ho0,hb⟩;have Ed:=ak (Kd.aA (Kd.eX ho0 (Kd.jw (ur Dt.out))) (aj (ul HB.out)));replace Dt:=ak (Kd.bW (ur Dt.out) (Kd.dw ho0) hb);replace HB:=bs HB hb;clear hb;(try clear ho0))|(refine gV Tryz.func212 (lG.calls A7.out) ?_;rintro aBe w13 ⟨ho0,hb⟩;have Rk:=ak (Kd.aA (Kd.eX (Kd.eX ho0 (Kd.jw (ur Dt.out))) (Kd.jw (ur Ed.out))) (aj (ul HB.out)));replace Dt:=ak (Kd.bW (ur Dt.out) (Kd.dw ho0) hb);replace Ed:=ak (Kd.bW (ur Ed.out) (Kd.dw ho0) hb);replace HB:=bs HB hb;clear hb;(try clear ho0);obtain⟨acO,acP,Yt⟩:=Kd.aI Ed.out;subst Yt)|(refine gA Tryz.func213 (jG.calls (cu ((Kd.ay Ed.out).2.2)) ((Kd.ay Ed.out).2.1) A8.out) ?_;intro nd;obtain⟨MZ,M_,UJ⟩:=Kd.aI Rk.out;subst UJ)|(refine gA Tryz.func213 (jG.calls (cu ((Kd.ay Rk.out).2.2)) ((Kd.ay Rk.out).2.1) A9.out) ?_;intro nd))
    go_ret2;exact⟨er,ul HB.out⟩
   ·obtain⟨rfl,rfl⟩:=s2 H;go_enter Tryz.func195,Tryz.ntmps195;go_wp2_with (first|(refine gV Tryz.func210 (iG.calls A3.out) ?_;rintro v222 w16 ⟨ho0,hb⟩;have Dt:=ak (Kd.aA ho0 (aj (ul HB.out)));replace HB:=bs HB hb;clear hb;(try clear ho0))|(refine gV Tryz.func211 (bJ.calls A6.out) ?_;rintro v226 w17 ⟨ho0,hb⟩;have Ed:=ak (Kd.aA (Kd.eX ho0 (Kd.jw (ur Dt.out))) (aj (ul HB.out)));replace Dt:=ak (Kd.bW (ur Dt.out) (Kd.dw ho0) hb);replace HB:=bs HB hb;clear hb;(try clear ho0))|(refine gV Tryz.func212 (lG.calls A7.out) ?_;rintro aBe w18 ⟨ho0,hb⟩;have Rk:=ak (Kd.aA (Kd.eX (Kd.eX ho0 (Kd.jw (ur Dt.out))) (Kd.jw (ur Ed.out))) (aj (ul HB.out)));replace Dt:=ak (Kd.bW (ur Dt.out) (Kd.dw ho0) hb);replace Ed:=ak (Kd.bW (ur Ed.out) (Kd.dw ho0) hb);replace HB:=bs HB hb;clear hb;(try clear ho0);obtain⟨aAZ,aA0,ao9⟩:=Kd.aI Ed.out;subst ao9)|(refine gA Tryz.func213 (jG.calls (cu ((Kd.ay Ed.out).2.2)) ((Kd.ay Ed.out).2.1) A8.out) ?_;intro nd;obtain⟨Ph,Pj,VA⟩:=Kd.aI Rk.out;subst VA)|(refine gA Tryz.func213 (jG.calls (cu ((Kd.ay Rk.out).2.2)) ((Kd.ay Rk.out).2.1) A9.out) ?_;intro nd))
    go_ret2;exact⟨er,ul HB.out⟩
def jA.f (k:Nat) (a0:ByteArray) (a1:Int):Option (List ByteArray×Bool):=if a1=0 then((iG.f k a0).bind fun ame=>(if ame.2=true then(some (ame.1,true))else(some ((([]:List ByteArray)),false))))else(if a1=1 then((bJ.f k a0).bind fun amf=>(some (amf.1,amf.2)))else(if a1=2 then((lG.f k a0).bind fun amg=>(some (amg.1,amg.2)))else(some ((([]:List ByteArray)),false))))
theorem jA.calls {k:Nat} {a0:ByteArray} {a1:Int} {r1:List ByteArray} {r2:Bool} {w:World} (h:jA.f k a0 a1=some (r1,r2)):
  Calls Tryz.prog 196 #[.string a0, .int .i64 a1] w fun e w'=>∃oD:Value,e= .returned (.tuple #[oD, .bool r2])∧Kd.R Kd.string 9 w' w.heap.size (fun _=>True) oD r1∧Below w.heap.size w w':=by
 have HB:=ak (Below.refl w.heap.size w);unfold jA.f at h;have H:=h;clear h;replace H:=sq H;rcases H with⟨iH,zH,H⟩|⟨c3,iH,zH,H⟩
 ·replace H:=bd H;obtain⟨⟨t234,aJK⟩,A4,H⟩:=H
  (try dsimp only at H);replace H:=sb H;rcases H with⟨rfl,H⟩|⟨rfl,H⟩
  ·obtain⟨rfl,rfl⟩:=s2 H;go_enter Tryz.func196,Tryz.ntmps196;go_wp2_with (refine gV Tryz.func210 (iG.calls A4.out) ?_;rintro v236 w6 ⟨ho0,hb⟩;have XE:=ak (Kd.aA ho0 (aj (ul HB.out)));replace HB:=bs HB hb;clear hb;(try clear ho0))
   go_ret2;exact⟨_,er,ur XE.out,ul HB.out⟩
  ·obtain⟨aJL,amh⟩:=nm ([]:List ByteArray);rw[←amh.out]at H;obtain⟨rfl,rfl⟩:=s2 H;go_enter Tryz.func196,Tryz.ntmps196;go_wp2_with (first|(refine gV Tryz.func210 (iG.calls A4.out) ?_;rintro v236 w7 ⟨ho0,hb⟩;have XE:=ak (Kd.aA ho0 (aj (ul HB.out)));replace HB:=bs HB hb;clear hb;(try clear ho0))|(refine Hy 30 Kd.string 9 amh ?_;intro aJM w8 ho9 hb;have awN:=ak (Kd.aA (Kd.eX ho9 (Kd.jw (ur XE.out))) (aj (ul HB.out)));replace XE:=ak (Kd.bW (ur XE.out) (Kd.dw ho9) hb);replace HB:=bs HB hb;clear hb ho9))
   go_ret2;exact⟨_,er,ur (Kd.aQ awN.out (fun _ hk=>trivial)),ul HB.out⟩
 ·replace H:=sq H;rcases H with⟨nI,rP,H⟩|⟨c10,nI,rP,H⟩
  ·replace H:=bd H;obtain⟨⟨aJN,aJO⟩,A11,H⟩:=H
   (try dsimp only at H);obtain⟨rfl,rfl⟩:=s2 H;go_enter Tryz.func196,Tryz.ntmps196;go_wp2_with (refine gV Tryz.func211 (bJ.calls A11.out) ?_;rintro aJP w12 ⟨ho0,hb⟩;have awO:=ak (Kd.aA ho0 (aj (ul HB.out)));replace HB:=bs HB hb;clear hb;(try clear ho0))
   go_ret2;exact⟨_,er,ur awO.out,ul HB.out⟩
  ·replace H:=sq H;rcases H with⟨vW,Az,H⟩|⟨c13,vW,Az,H⟩
   ·replace H:=bd H;obtain⟨⟨aJQ,aJR⟩,A14,H⟩:=H
    (try dsimp only at H);obtain⟨rfl,rfl⟩:=s2 H;go_enter Tryz.func196,Tryz.ntmps196;go_wp2_with (refine gV Tryz.func212 (lG.calls A14.out) ?_;rintro aJS w15 ⟨ho0,hb⟩;have awP:=ak (Kd.aA ho0 (aj (ul HB.out)));replace HB:=bs HB hb;clear hb;(try clear ho0))
    go_ret2;exact⟨_,er,ur awP.out,ul HB.out⟩
   ·obtain⟨aJT,ami⟩:=nm ([]:List ByteArray);rw[←ami.out]at H;obtain⟨rfl,rfl⟩:=s2 H;go_enter Tryz.func196,Tryz.ntmps196;go_wp2_with (refine Hy 30 Kd.string 9 ami ?_;intro aJU w16 awQ hb;have awR:=ak (Kd.aA awQ (aj (ul HB.out)));replace HB:=bs HB hb;clear hb awQ)
    go_ret2;exact⟨_,er,ur awR.out,ul HB.out⟩
end Go.Proofs.YtncdadcmghglkaaGreatDoor.PFnKidLines
