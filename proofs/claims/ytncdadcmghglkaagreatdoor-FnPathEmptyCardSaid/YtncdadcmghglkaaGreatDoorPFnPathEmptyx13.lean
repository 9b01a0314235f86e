/- Printed walks; conditions: those in each statement. -/
import Derived.Test.YtncdadcmghglkaaGreatDoorVFnPathEmptyQt
import Derived.Test.YtncdadcmghglkaaGreatDoorVFnPathEmptyYt
import Derived.Test.YtncdadcmghglkaaGreatDoorPFnPathEmptyx0
-- short
-- dense
-- sq
-- sq2
-- fixed
namespace Go.Proofs.YtncdadcmghglkaaGreatDoor.PFnPathEmpty
open Go.RowKit Go.Proofs.YtncdadcmghglkaaGreatDoor.X Go.Proofs.YtncdadcmghglkaaGreatDoorW.dJ Go.Proofs.YtncdadcmghglkaaGreatDoorW.kX Go.Proofs.YtncdadcmghglkaaGreatDoorW.oI
attribute [local go_sem] wX wY zS zT uJ uK wZ xg   -- for this text's walks alone
set_option linter.unusedVariables false
set_option maxHeartbeats 8000000
set_option maxRecDepth 100000
set_option linter.unusedSimpArgs false
mutual
def aQ.l0:Nat→ByteArray→Int→Option (Bool)
 |0,_,_=>none
 |k+1,x0,x3=>if x3<(x0.size:Int)then(aQ.j1 k x0 x3 (decide (x3≤200)))else(aQ.j1 k x0 x3 false)
def aQ.j1:Nat→ByteArray→Int→Bool→Option (Bool)
 |0,_,_,_=>none
 |k+1,x0,x3,x11=>if x11=true then(if 0≤x3 then(if x3<(x0.size:Int)then(if(bt x0 x3)<32 then(some false)else(if(bt x0 x3)>126 then(some false)else(aQ.l0 k x0 (wrap64 (x3+1)))))else(none))else(none))else(some (decide ((x0.size:Int)≤200)))
end
def aQ.f (k:Nat) (a0:ByteArray):Option (Bool):=aQ.l0 k a0 0
theorem aQ.calls {k:Nat} {a0:ByteArray} {r:Bool} {w:World} (h:aQ.f k a0=some r):
  Calls Tryz.prog 159 #[.string a0] w fun e w'=>e= .returned (.bool r)∧dN w w':=by
 unfold aQ.f at h;have H:=h;clear h;have H':=ak H;clear H;go_enter Tryz.func159,Tryz.ntmps159;go_wp2;go_loopg [3] k (fun kq v3 w'=>∃(dX:Int),v3= .int .i64 dX∧ah (aQ.l0 kq a0 dX=some r)∧ah (kq≤k)∧dN w w')
 case atStart=>exact⟨_,rs,H',⟨Nat.le_refl _⟩,dn⟩
 case round=>
  clear H';obtain⟨dX,rfl,HA,yH,⟨m1,rfl⟩⟩:=hrel
  cases gk with
  |zero=>exact zz HA.out
  |succ k1=>
   obtain⟨H⟩:=HA;simp only[aQ.l0]at H;have HC2:=ak H;clear H;go_upto_region 2 with(fail)
   go_cut [11] (fun v11 wc=>∃(kq:Nat) (xG:Bool),v11= .bool xG∧ah (aQ.j1 kq a0 dX xG=some r)∧ah (kq≤k1)∧dN w wc)
   case first=>
    have H:=HC2.out;clear HC2;replace H:=sd H;rcases H with⟨iT,H⟩|⟨iT,H⟩
    ·(first|rw[iT]|(simp only[jk,kU];rw[iT])|skip);have H':=ak H;clear H;go_wp2;go_meet
     case rel=>exact⟨_,_,rs,H',⟨kl⟩,dn⟩
    ·(first|rw[iT]|(simp only[jk,kU];rw[iT])|skip);have H':=ak H;clear H;go_wp2;go_meet
     case rel=>exact⟨_,_,rs,H',⟨kl⟩,dn⟩
   case rest=>
    clear HC2;obtain⟨kq,xG,rfl,HA,HJ1,⟨mc1,rfl⟩⟩:=hcut
    cases kq with
    |zero=>exact zz HA.out
    |succ RU=>
     obtain⟨H⟩:=HA;simp only[aQ.j1]at H;replace H:=sb H;rcases H with⟨rfl,H⟩|⟨rfl,H⟩
     ·replace H:=oG H;obtain⟨nT,H⟩:=H;replace H:=oG H;obtain⟨oV,H⟩:=H;replace H:=sd H;rcases H with⟨uG,H⟩|⟨uG,H⟩
      ·obtain rfl:=s1 H;obtain⟨p7,q7,hx7⟩:=bx a0 dX;go_wp2;go_ret;exact⟨rs,dn⟩
      ·replace H:=sp H;rcases H with⟨c10,H⟩|⟨c10,H⟩
       ·have oD:decide (126<(bt a0 dX))=true:=decide_eq_true c10;clear c10;obtain rfl:=s1 H;obtain⟨p7,q7,hx7⟩:=bx a0 dX;obtain⟨p9,q9,hx9⟩:=bx a0 dX;go_wp2;go_ret;exact⟨rs,dn⟩
       ·have oD:decide (126<(bt a0 dX))=false:=decide_eq_false c10;clear c10;have H':=ak H;clear H;obtain⟨p7,q7,hx7⟩:=bx a0 dX;obtain⟨p9,q9,hx9⟩:=bx a0 dX;go_wp2;go_roundg RU
        case measure=>exact kl
        case rel=>exact⟨_,rs,H',⟨kl⟩,dn⟩
     ·obtain rfl:=s1 H;go_wp2;go_ret;exact⟨rs,dn⟩
mutual
def bK.j1:Nat→ByteArray→Option (ByteArray)
 |0,_=>none
 |k+1,x0=>bK.l1 k x0
def bK.l1:Nat→ByteArray→Option (ByteArray)
 |0,_=>none
 |k+1,x0=>if(x0.size:Int)>0 then(if 0≤(wrap64 ((x0.size:Int)-1))then(if(wrap64 ((x0.size:Int)-1))<(x0.size:Int)then(if(bt x0 (wrap64 ((x0.size:Int)-1)))=32 then(if(wrap64 ((x0.size:Int)-1))≤(x0.size:Int)then(bK.l1 k (x0.extract 0 ((wrap64 ((x0.size:Int)-1)):Int).toNat))else(none))else(some x0))else(none))else(none))else(some x0)
def bK.l0:Nat→ByteArray→Option (ByteArray)
 |0,_=>none
 |k+1,x0=>if(x0.size:Int)>0 then(if 0<(x0.size:Int)then(if(bt x0 0)=32 then(if 1≤(x0.size:Int)then(bK.l0 k (x0.extract 1 x0.size))else(none))else(bK.j1 k x0))else(none))else(bK.j1 k x0)
end
def bK.f (k:Nat) (a0:ByteArray):Option (ByteArray):=bK.l0 k a0
theorem bK.calls {k:Nat} {a0 r:ByteArray} {w:World} (h:bK.f k a0=some r):
  Calls Tryz.prog 179 #[.string a0] w fun e w'=>e= .returned (.string r)∧dN w w':=by
 unfold bK.f at h;have H:=h;clear h;have HC2:=ak H;clear H;go_enter Tryz.func179,Tryz.ntmps179;go_upto_block 0 with(fail)
 go_cut [0] (fun v0 wc=>∃(kq:Nat) (sO:ByteArray),v0= .string sO∧ah (bK.j1 kq sO=some r)∧ah (kq≤k)∧dN w wc)
 case first=>
  have H:=HC2.out;clear HC2;have H':=ak H;clear H;go_wp2;go_loopg [0] k (fun kq v0 w'=>∃(sO:ByteArray),v0= .string sO∧ah (bK.l0 kq sO=some r)∧ah (kq≤k)∧dN w w')
  case atStart=>exact⟨_,rs,H',⟨Nat.le_refl _⟩,dn⟩
  case round=>
   clear H';obtain⟨sO,rfl,HA,yH,⟨m1,rfl⟩⟩:=hrel
   cases gk with
   |zero=>exact zz HA.out
   |succ k1=>
    obtain⟨H⟩:=HA;simp only[bK.l0]at H;replace H:=sp H;rcases H with⟨c3,H⟩|⟨c3,H⟩
    ·have iT:decide (0<(sO.size:Int))=true:=decide_eq_true c3;have zW:decide (0<sO.size)=true:=decide_eq_true (by omega);clear c3
     (first|rw[iT]|(simp only[jk,kU];rw[iT])|skip);replace H:=nn H;obtain⟨c4,H⟩:=H;have qW:=decide_eq_true c4;have RS:decide (0<sO.size)=true:=decide_eq_true (by omega);clear c4;replace H:=sq H;rcases H with⟨oV,zX,H⟩|⟨c6,oV,zX,H⟩
     ·replace H:=Dc H;obtain⟨tJ,PZ,H⟩:=H;have H':=ak H;clear H;have p5:0≤(0:Int):=(by omega)
      have q5:0<sO.size:=(by have:(0:Int)<(sO.size:Int):=of_decide_eq_true (by assumption);omega)
      have hx5:∀h:0<sO.size,((sO[0]'h).toNat:Int)=bt sO 0:=yt sO 0;clear p5;have qi5:(0<(sO.size:Int))=True:=eq_true (of_decide_eq_true (by assumption));replace q5:=eq_true q5;go_wp2;go_roundg k1
      case measure=>exact kl
      case rel=>exact⟨_,rs,H',⟨kl⟩,dn⟩
     ·have H':=ak H;clear H;have p5:0≤(0:Int):=(by omega)
      have q5:0<sO.size:=(by have:(0:Int)<(sO.size:Int):=of_decide_eq_true (by assumption);omega)
      have hx5:∀h:0<sO.size,((sO[0]'h).toNat:Int)=bt sO 0:=yt sO 0;clear p5;have qi5:(0<(sO.size:Int))=True:=eq_true (of_decide_eq_true (by assumption));replace q5:=eq_true q5;go_wp2;go_meet
      case rel=>exact⟨_,_,rs,H',⟨kl⟩,dn⟩
    ·have iT:decide (0<(sO.size:Int))=false:=decide_eq_false c3;have zW:decide (0<sO.size)=false:=decide_eq_false (by omega);clear c3
     (first|rw[iT]|(simp only[jk,kU];rw[iT])|skip);have H':=ak H;clear H;go_wp2;go_meet
     case rel=>exact⟨_,_,rs,H',⟨kl⟩,dn⟩
 case rest=>
  clear HC2;obtain⟨kq,sO,rfl,HA,HJ1,⟨mc1,rfl⟩⟩:=hcut
  cases kq with
  |zero=>exact zz HA.out
  |succ RU=>
   obtain⟨H⟩:=HA;simp only[bK.j1]at H;have H':=ak H;clear H;go_wp2;go_loopg [0] RU (fun kq v0 w'=>∃(Kq:ByteArray),v0= .string Kq∧ah (bK.l1 kq Kq=some r)∧ah (kq≤RU)∧dN w w')
   case atStart=>exact⟨_,rs,H',⟨Nat.le_refl _⟩,dn⟩
   case round=>
    clear H';obtain⟨Kq,rfl,HA,HK2,⟨m2,rfl⟩⟩:=hrel
    cases gk with
    |zero=>exact zz HA.out
    |succ k2=>
     obtain⟨H⟩:=HA;simp only[bK.l1]at H;replace H:=sp H;rcases H with⟨c8,H⟩|⟨c8,H⟩
     ·have uG:decide (0<(Kq.size:Int))=true:=decide_eq_true c8;have F5:decide (0<Kq.size)=true:=decide_eq_true (by omega);clear c8;obtain⟨Ui,Lr⟩:∃j_:Int,(wrap64 ((Kq.size:Int)-1))=j_:=⟨_,rfl⟩
      replace H:(if 0≤(Ui)then(if(Ui)<(Kq.size:Int)then(if(bt Kq (Ui))=32 then(if(Ui)≤(Kq.size:Int)then(bK.l1 k2 (Kq.extract 0 ((Ui):Int).toNat))else(none))else(some Kq))else(none))else(none))=some r:=by first|(rw[Lr]at H;exact H)|(simp only[Lr]at H⊢;exact H)
      have aoC:(IntKind.i64.wrap ((Kq.size:Int)-1))=Ui:=(jk _).trans Lr;replace H:=oG H;obtain⟨oD,H⟩:=H;replace H:=oG H;obtain⟨vk,H⟩:=H;replace H:=sq H;rcases H with⟨wM,CW,H⟩|⟨c13,wM,CW,H⟩
      ·have vw:=eq_true (of_decide_eq_true (by assumption):0≤(Ui));replace H:=Dc H;obtain⟨yx,I5,H⟩:=H;have H':=ak H;clear H;obtain⟨p12,q12,ar0⟩:=bx Kq (Ui);go_wp2;go_roundg k2
       case measure=>exact kl
       case rel=>exact⟨_,(by first|rfl|(simp;done)|(simp only[←Lr]<;>(first|rfl|simp))|(simp[*];done)),H',⟨kl⟩,dn⟩
      ·obtain rfl:=s1 H;obtain⟨p12,q12,ar0⟩:=bx Kq (Ui);go_wp2;go_ret;exact⟨by first|rfl|(simp;done)|(simp only[←Lr]<;>(first|rfl|simp))|(simp[*];done),dn⟩
     ·have uG:decide (0<(Kq.size:Int))=false:=decide_eq_false c8;have F5:decide (0<Kq.size)=false:=decide_eq_false (by omega);clear c8;obtain rfl:=s1 H;go_wp2;go_ret;exact⟨rs,dn⟩
def gY.f (a0:Int):Option (Bool):=if a0≥97 then(if a0≤122 then(some true)else(if a0≥65 then(if a0≤90 then(some true)else(if a0≥48 then(some (decide (a0≤57)))else(some false)))else(if a0≥48 then(some (decide (a0≤57)))else(some false))))else(if a0≥65 then(if a0≤90 then(some true)else(if a0≥48 then(some (decide (a0≤57)))else(some false)))else(if a0≥48 then(some (decide (a0≤57)))else(some false)))
theorem gY.calls {a0:Int} {r:Bool} {w:World} (h:gY.f a0=some r):
  Calls Tryz.prog 183 #[.int .u8 a0] w fun e w'=>e= .returned (.bool r)∧dN w w':=by
 unfold gY.f at h;have H:=h;clear h;replace H:=sp H;rcases H with⟨c2,H⟩|⟨c2,H⟩
 ·have qO:decide (97≤a0)=true:=decide_eq_true c2;clear c2;replace H:=sd H;rcases H with⟨iT,H⟩|⟨iT,H⟩
  ·obtain rfl:=s1 H;go_enter Tryz.func183,Tryz.ntmps183;go_wp2;go_ret;exact⟨rs,dn⟩
  ·replace H:=sp H;rcases H with⟨c4,H⟩|⟨c4,H⟩
   ·have qW:decide (65≤a0)=true:=decide_eq_true c4;clear c4;replace H:=sd H;rcases H with⟨nT,H⟩|⟨nT,H⟩
    ·obtain rfl:=s1 H;go_enter Tryz.func183,Tryz.ntmps183;go_wp2;go_ret;exact⟨rs,dn⟩
    ·replace H:=sp H;rcases H with⟨c6,H⟩|⟨c6,H⟩
     ·have oV:decide (48≤a0)=true:=decide_eq_true c6;clear c6;obtain rfl:=s1 H;go_enter Tryz.func183,Tryz.ntmps183;go_wp2;go_ret;exact⟨rs,dn⟩
     ·have oV:decide (48≤a0)=false:=decide_eq_false c6;clear c6;obtain rfl:=s1 H;go_enter Tryz.func183,Tryz.ntmps183;go_wp2;go_ret;exact⟨rs,dn⟩
   ·have qW:decide (65≤a0)=false:=decide_eq_false c4;clear c4;replace H:=sp H;rcases H with⟨c7,H⟩|⟨c7,H⟩
    ·have tJ:decide (48≤a0)=true:=decide_eq_true c7;clear c7;obtain rfl:=s1 H;go_enter Tryz.func183,Tryz.ntmps183;go_wp2;go_ret;exact⟨rs,dn⟩
    ·have tJ:decide (48≤a0)=false:=decide_eq_false c7;clear c7;obtain rfl:=s1 H;go_enter Tryz.func183,Tryz.ntmps183;go_wp2;go_ret;exact⟨rs,dn⟩
 ·have qO:decide (97≤a0)=false:=decide_eq_false c2;clear c2;replace H:=sp H;rcases H with⟨c8,H⟩|⟨c8,H⟩
  ·have uG:decide (65≤a0)=true:=decide_eq_true c8;clear c8;replace H:=sd H;rcases H with⟨A_,H⟩|⟨A_,H⟩
   ·obtain rfl:=s1 H;go_enter Tryz.func183,Tryz.ntmps183;go_wp2;go_ret;exact⟨rs,dn⟩
   ·replace H:=sp H;rcases H with⟨c10,H⟩|⟨c10,H⟩
    ·have oD:decide (48≤a0)=true:=decide_eq_true c10;clear c10;obtain rfl:=s1 H;go_enter Tryz.func183,Tryz.ntmps183;go_wp2;go_ret;exact⟨rs,dn⟩
    ·have oD:decide (48≤a0)=false:=decide_eq_false c10;clear c10;obtain rfl:=s1 H;go_enter Tryz.func183,Tryz.ntmps183;go_wp2;go_ret;exact⟨rs,dn⟩
  ·have uG:decide (65≤a0)=false:=decide_eq_false c8;clear c8;replace H:=sp H;rcases H with⟨c11,H⟩|⟨c11,H⟩
   ·have vk:decide (48≤a0)=true:=decide_eq_true c11;clear c11;obtain rfl:=s1 H;go_enter Tryz.func183,Tryz.ntmps183;go_wp2;go_ret;exact⟨rs,dn⟩
   ·have vk:decide (48≤a0)=false:=decide_eq_false c11;clear c11;obtain rfl:=s1 H;go_enter Tryz.func183,Tryz.ntmps183;go_wp2;go_ret;exact⟨rs,dn⟩
mutual
def bT.l0:Nat→ByteArray→Int→Option (Bool)
 |0,_,_=>none
 |k+1,x0,x3=>if x3<(x0.size:Int)then(bT.j1 k x0 x3 (decide (x3≤30)))else(bT.j1 k x0 x3 false)
def bT.j1:Nat→ByteArray→Int→Bool→Option (Bool)
 |0,_,_,_=>none
 |k+1,x0,x3,x11=>if x11=true then(if 0≤x3 then(if x3<(x0.size:Int)then((gY.f (bt x0 x3)).bind fun awn=>(if awn=true then(if x3=0 then(if(bt x0 x3)≤57 then(some false)else(bT.l0 k x0 (wrap64 (x3+1))))else(bT.l0 k x0 (wrap64 (x3+1))))else(if(bt x0 x3)=45 then(if x3=0 then(if(bt x0 x3)≤57 then(some false)else(bT.l0 k x0 (wrap64 (x3+1))))else(bT.l0 k x0 (wrap64 (x3+1))))else(some false))))else(none))else(none))else(if(x0.size:Int)≥1 then(some (decide ((x0.size:Int)≤30)))else(some false))
end
def bT.f (k:Nat) (a0:ByteArray):Option (Bool):=bT.l0 k a0 0
theorem bT.calls {k:Nat} {a0:ByteArray} {r:Bool} {w:World} (h:bT.f k a0=some r):
  Calls Tryz.prog 184 #[.string a0] w fun e w'=>e= .returned (.bool r)∧dN w w':=by
 unfold bT.f at h;have H:=h;clear h;have H':=ak H;clear H;go_enter Tryz.func184,Tryz.ntmps184;go_wp2;go_loopg [3] k (fun kq v3 w'=>∃(dX:Int),v3= .int .i64 dX∧ah (bT.l0 kq a0 dX=some r)∧ah (kq≤k)∧dN w w')
 case atStart=>exact⟨_,rs,H',⟨Nat.le_refl _⟩,dn⟩
 case round=>
  clear H';obtain⟨dX,rfl,HA,yH,⟨m1,rfl⟩⟩:=hrel
  cases gk with
  |zero=>exact zz HA.out
  |succ k1=>
   obtain⟨H⟩:=HA;simp only[bT.l0]at H;have HC2:=ak H;clear H;go_upto_region 2 with(fail)
   go_cut [11] (fun v11 wc=>∃(kq:Nat) (xG:Bool),v11= .bool xG∧ah (bT.j1 kq a0 dX xG=some r)∧ah (kq≤k1)∧dN w wc)
   case first=>
    have H:=HC2.out;clear HC2;replace H:=sd H;rcases H with⟨iT,H⟩|⟨iT,H⟩
    ·(first|rw[iT]|(simp only[jk,kU];rw[iT])|skip);have H':=ak H;clear H;go_wp2;go_meet
     case rel=>exact⟨_,_,rs,H',⟨kl⟩,dn⟩
    ·(first|rw[iT]|(simp only[jk,kU];rw[iT])|skip);have H':=ak H;clear H;go_wp2;go_meet
     case rel=>exact⟨_,_,rs,H',⟨kl⟩,dn⟩
   case rest=>
    clear HC2;obtain⟨kq,xG,rfl,HA,HJ1,⟨mc1,rfl⟩⟩:=hcut
    cases kq with
    |zero=>exact zz HA.out
    |succ RU=>
     obtain⟨H⟩:=HA;simp only[bT.j1]at H;replace H:=sb H;rcases H with⟨rfl,H⟩|⟨rfl,H⟩
     ·replace H:=oG H;obtain⟨nT,H⟩:=H;replace H:=oG H;obtain⟨oV,H⟩:=H;replace H:=bd H;obtain⟨awn,A8,H⟩:=H;replace H:=sb H;rcases H with⟨rfl,H⟩|⟨rfl,H⟩
      ·replace H:=sq H;rcases H with⟨oD,uN,H⟩|⟨c10,oD,uN,H⟩
       ·replace H:=sd H;rcases H with⟨yw,H⟩|⟨yw,H⟩
        ·obtain rfl:=s1 H;obtain⟨p7,q7,hx7⟩:=bx a0 dX;go_wp2_with (refine gA Tryz.func183 (gY.calls A8.out) ?_;intro nd;have p11:0≤(dX:Int):=of_decide_eq_true (by assumption);have q11:dX<(a0.size:Int):=of_decide_eq_true (by assumption);have aas:=yt a0 dX;replace p11:=eq_true p11;replace q11:=eq_true q11)
         go_ret;exact⟨rs,dn⟩
        ·have H':=ak H;clear H;obtain⟨p7,q7,hx7⟩:=bx a0 dX;go_wp2_with (refine gA Tryz.func183 (gY.calls A8.out) ?_;intro nd;have p11:0≤(dX:Int):=of_decide_eq_true (by assumption);have q11:dX<(a0.size:Int):=of_decide_eq_true (by assumption);have aas:=yt a0 dX;replace p11:=eq_true p11;replace q11:=eq_true q11)
         go_roundg RU
         case measure=>exact kl
         case rel=>exact⟨_,rs,H',⟨kl⟩,dn⟩
       ·have H':=ak H;clear H;obtain⟨p7,q7,hx7⟩:=bx a0 dX;go_wp2_with (refine gA Tryz.func183 (gY.calls A8.out) ?_;intro nd)
        go_roundg RU
        case measure=>exact kl
        case rel=>exact⟨_,rs,H',⟨kl⟩,dn⟩
      ·replace H:=sq H;rcases H with⟨vw,zZ,H⟩|⟨c14,vw,zZ,H⟩
       ·replace H:=sq H;rcases H with⟨yx,I5,H⟩|⟨c15,yx,I5,H⟩
        ·replace H:=sd H;rcases H with⟨u_,H⟩|⟨u_,H⟩
         ·obtain rfl:=s1 H;obtain⟨p7,q7,hx7⟩:=bx a0 dX;go_wp2_with (refine gA Tryz.func183 (gY.calls A8.out) ?_;intro nd;have p13:0≤(dX:Int):=of_decide_eq_true (by assumption);have q13:dX<(a0.size:Int):=of_decide_eq_true (by assumption);have acy:=yt a0 dX;replace p13:=eq_true p13;replace q13:=eq_true q13;have p16:0≤(dX:Int):=of_decide_eq_true (by assumption);have q16:dX<(a0.size:Int):=of_decide_eq_true (by assumption);have hx16:=yt a0 dX;replace p16:=eq_true p16;replace q16:=eq_true q16)
          go_ret;exact⟨rs,dn⟩
         ·have H':=ak H;clear H;obtain⟨p7,q7,hx7⟩:=bx a0 dX;go_wp2_with (refine gA Tryz.func183 (gY.calls A8.out) ?_;intro nd;have p13:0≤(dX:Int):=of_decide_eq_true (by assumption);have q13:dX<(a0.size:Int):=of_decide_eq_true (by assumption);have acy:=yt a0 dX;replace p13:=eq_true p13;replace q13:=eq_true q13;have p16:0≤(dX:Int):=of_decide_eq_true (by assumption);have q16:dX<(a0.size:Int):=of_decide_eq_true (by assumption);have hx16:=yt a0 dX;replace p16:=eq_true p16;replace q16:=eq_true q16)
          go_roundg RU
          case measure=>exact kl
          case rel=>exact⟨_,rs,H',⟨kl⟩,dn⟩
        ·have H':=ak H;clear H;obtain⟨p7,q7,hx7⟩:=bx a0 dX;go_wp2_with (refine gA Tryz.func183 (gY.calls A8.out) ?_;intro nd;have p13:0≤(dX:Int):=of_decide_eq_true (by assumption);have q13:dX<(a0.size:Int):=of_decide_eq_true (by assumption);have acy:=yt a0 dX;replace p13:=eq_true p13;replace q13:=eq_true q13)
         go_roundg RU
         case measure=>exact kl
         case rel=>exact⟨_,rs,H',⟨kl⟩,dn⟩
       ·obtain rfl:=s1 H;obtain⟨p7,q7,hx7⟩:=bx a0 dX;go_wp2_with (refine gA Tryz.func183 (gY.calls A8.out) ?_;intro nd;have p13:0≤(dX:Int):=of_decide_eq_true (by assumption);have q13:dX<(a0.size:Int):=of_decide_eq_true (by assumption);have acy:=yt a0 dX;replace p13:=eq_true p13;replace q13:=eq_true q13)
        go_ret;exact⟨rs,dn⟩
     ·replace H:=sp H;rcases H with⟨c18,H⟩|⟨c18,H⟩
      ·have CQ:decide (1≤(a0.size:Int))=true:=decide_eq_true c18;have Uj:decide (1≤a0.size)=true:=decide_eq_true (by omega);clear c18;obtain rfl:=s1 H;go_wp2;go_ret;exact⟨rs,dn⟩
      ·have CQ:decide (1≤(a0.size:Int))=false:=decide_eq_false c18;have Uj:decide (1≤a0.size)=false:=decide_eq_false (by omega);clear c18;obtain rfl:=s1 H;go_wp2;go_ret;exact⟨rs,dn⟩
def jw.f (k:Nat) (eH:ByteArray) (fA:ByteArray):Option (Bool):=(bT.f k eH).bind fun awo=>(if awo=true then((aQ.f k fA).bind fun awp=>(if awp=true then(if(fA.size:Int)≤150 then((bK.f k fA).bind fun awq=>(some (awq.toList==fA.toList)))else(some false))else(some false)))else(some false))
theorem jw.calls {k:Nat} {eH fA:ByteArray} {r:Bool} {w:World} (h:jw.f k eH fA=some r):
  Calls Tryz.prog 158 #[.agg #[.string eH, .string fA]] w fun e w'=>e= .returned (.bool r)∧Below w.heap.size w w':=by
 have FZ:=Tryz.underlying69;have HB:=ak (Below.refl w.heap.size w);unfold jw.f at h;have H:=h;clear h;replace H:=bd H;obtain⟨awo,A2,H⟩:=H;replace H:=sb H;rcases H with⟨rfl,H⟩|⟨rfl,H⟩
 ·replace H:=bd H;obtain⟨awp,A4,H⟩:=H;replace H:=sb H;rcases H with⟨rfl,H⟩|⟨rfl,H⟩
  ·replace H:=sp H;rcases H with⟨c6,H⟩|⟨c6,H⟩
   ·have oV:=decide_eq_true c6;have zX:decide (fA.size≤150)=true:=decide_eq_true (by omega);clear c6;replace H:=bd H;obtain⟨awq,A7,H⟩:=H;obtain rfl:=s1 H;go_enter Tryz.func158,Tryz.ntmps158;go_wp2_with (first|(refine gG 1 ?_;refine bX HB 1 #[.string eH, .string fA] 69 ?_;intro I7 w8 xH I8 hb;replace HB:=bs HB hb;clear hb;have z9:=CO xH.out)|(go_at_call 184;refine mA (bT.calls A2.out) ?_;intro nd;(try exact dq))|(go_at_call 159;refine mA (aQ.calls A4.out) ?_;intro nd;(try exact dq))|(go_at_call 179;refine mA (bK.calls A7.out) ?_;intro nd;(try exact dq)))
    repeat(go_quiet (first|(refine gG 1 ?_;refine bX HB 1 #[.string eH, .string fA] 69 ?_;intro I7 w8 xH I8 hb;replace HB:=bs HB hb;clear hb;have z9:=CO xH.out)|(go_at_call 184;refine mA (bT.calls A2.out) ?_;intro nd;(try exact dq))|(go_at_call 159;refine mA (aQ.calls A4.out) ?_;intro nd;(try exact dq))|(go_at_call 179;refine mA (bK.calls A7.out) ?_;intro nd;(try exact dq)));try go_wp2_with (first|(refine gG 1 ?_;refine bX HB 1 #[.string eH, .string fA] 69 ?_;intro I7 w8 xH I8 hb;replace HB:=bs HB hb;clear hb;have z9:=CO xH.out)|(go_at_call 184;refine mA (bT.calls A2.out) ?_;intro nd;(try exact dq))|(go_at_call 159;refine mA (aQ.calls A4.out) ?_;intro nd;(try exact dq))|(go_at_call 179;refine mA (bK.calls A7.out) ?_;intro nd;(try exact dq))))
    go_ret;exact⟨er,bb⟩
   ·have oV:=decide_eq_false c6;have zX:decide (fA.size≤150)=false:=decide_eq_false (by omega);clear c6;obtain rfl:=s1 H;go_enter Tryz.func158,Tryz.ntmps158;go_wp2_with (first|(refine gG 1 ?_;refine bX HB 1 #[.string eH, .string fA] 69 ?_;intro I7 w10 xH I8 hb;replace HB:=bs HB hb;clear hb;have z11:=CO xH.out)|(go_at_call 184;refine mA (bT.calls A2.out) ?_;intro nd;(try exact dq))|(go_at_call 159;refine mA (aQ.calls A4.out) ?_;intro nd;(try exact dq)))
    repeat(go_quiet (first|(refine gG 1 ?_;refine bX HB 1 #[.string eH, .string fA] 69 ?_;intro I7 w10 xH I8 hb;replace HB:=bs HB hb;clear hb;have z11:=CO xH.out)|(go_at_call 184;refine mA (bT.calls A2.out) ?_;intro nd;(try exact dq))|(go_at_call 159;refine mA (aQ.calls A4.out) ?_;intro nd;(try exact dq)));try go_wp2_with (first|(refine gG 1 ?_;refine bX HB 1 #[.string eH, .string fA] 69 ?_;intro I7 w10 xH I8 hb;replace HB:=bs HB hb;clear hb;have z11:=CO xH.out)|(go_at_call 184;refine mA (bT.calls A2.out) ?_;intro nd;(try exact dq))|(go_at_call 159;refine mA (aQ.calls A4.out) ?_;intro nd;(try exact dq))))
    go_ret;exact⟨er,bb⟩
  ·obtain rfl:=s1 H;go_enter Tryz.func158,Tryz.ntmps158;go_wp2_with (first|(refine gG 1 ?_;refine bX HB 1 #[.string eH, .string fA] 69 ?_;intro I7 w12 xH I8 hb;replace HB:=bs HB hb;clear hb;have z13:=CO xH.out)|(go_at_call 184;refine mA (bT.calls A2.out) ?_;intro nd;(try exact dq))|(go_at_call 159;refine mA (aQ.calls A4.out) ?_;intro nd;(try exact dq)))
   repeat(go_quiet (first|(refine gG 1 ?_;refine bX HB 1 #[.string eH, .string fA] 69 ?_;intro I7 w12 xH I8 hb;replace HB:=bs HB hb;clear hb;have z13:=CO xH.out)|(go_at_call 184;refine mA (bT.calls A2.out) ?_;intro nd;(try exact dq))|(go_at_call 159;refine mA (aQ.calls A4.out) ?_;intro nd;(try exact dq)));try go_wp2_with (first|(refine gG 1 ?_;refine bX HB 1 #[.string eH, .string fA] 69 ?_;intro I7 w12 xH I8 hb;replace HB:=bs HB hb;clear hb;have z13:=CO xH.out)|(go_at_call 184;refine mA (bT.calls A2.out) ?_;intro nd;(try exact dq))|(go_at_call 159;refine mA (aQ.calls A4.out) ?_;intro nd;(try exact dq))))
   go_ret;exact⟨er,bb⟩
 ·obtain rfl:=s1 H;go_enter Tryz.func158,Tryz.ntmps158;go_wp2_with (first|(refine gG 1 ?_;refine bX HB 1 #[.string eH, .string fA] 69 ?_;intro I7 VH xH I8 hb;replace HB:=bs HB hb;clear hb;have z15:=CO xH.out)|(go_at_call 184;refine mA (bT.calls A2.out) ?_;intro nd;(try exact dq)))
  repeat(go_quiet (first|(refine gG 1 ?_;refine bX HB 1 #[.string eH, .string fA] 69 ?_;intro I7 VH xH I8 hb;replace HB:=bs HB hb;clear hb;have z15:=CO xH.out)|(go_at_call 184;refine mA (bT.calls A2.out) ?_;intro nd;(try exact dq)));try go_wp2_with (first|(refine gG 1 ?_;refine bX HB 1 #[.string eH, .string fA] 69 ?_;intro I7 VH xH I8 hb;replace HB:=bs HB hb;clear hb;have z15:=CO xH.out)|(go_at_call 184;refine mA (bT.calls A2.out) ?_;intro nd;(try exact dq))))
  go_ret;exact⟨er,bb⟩
mutual
def gu.l0:Nat→List (fO)→Int→Option (Bool)
 |0,_,_=>none
 |k+1,x0,x3=>if x3<(x0.length:Int)then(gu.j1 k x0 x3 (decide (x3≤20)))else(gu.j1 k x0 x3 false)
def gu.j1:Nat→List (fO)→Int→Bool→Option (Bool)
 |0,_,_,_=>none
 |k+1,x0,x3,x11=>if x11=true then(if 0≤x3 then(if x3<(x0.length:Int)then((jw.f k ((dU x0 x3).f0) ((dU x0 x3).f1)).bind fun awr=>(if awr=true then(gu.l0 k x0 (wrap64 (x3+1)))else(some false)))else(none))else(none))else(some (decide ((x0.length:Int)≤20)))
end
def gu.f (k:Nat) (l0:List (fO)):Option (Bool):=gu.l0 k l0 0
theorem gu.calls {k c0:Nat} {A0:Option Addr} {l0:List (fO)} {r:Bool} {w:World} (hr0:Kd.C oz w A0 l0.length l0) (hc0:l0.length≤c0) (h:gu.f k l0=some r):
  Calls Tryz.prog 113 #[.slice A0 l0.length c0] w fun e w'=>e= .returned (.bool r)∧Below w.heap.size w w':=by
 have FZ:=Tryz.underlying69;have HR0:=ak hr0;have zx:=ak hc0;clear hr0 hc0;have HB:=ak (Below.refl w.heap.size w);unfold gu.f at h;have H:=h;clear h;have H':=ak H;clear H;go_enter Tryz.func113,Tryz.ntmps113;go_wp2;go_loopg [3] k (fun kq v3 w'=>∃(dX:Int),v3= .int .i64 dX∧ah (gu.l0 kq l0 dX=some r)∧ah (kq≤k)∧ah (Below w.heap.size w w'))
 case atStart=>exact⟨_,rs,H',⟨Nat.le_refl _⟩,⟨ul HB.out⟩⟩
 case round=>
  clear H';obtain⟨dX,rfl,HA,yH,HB⟩:=hrel
  cases gk with
  |zero=>exact zz HA.out
  |succ k1=>
   obtain⟨H⟩:=HA;simp only[gu.l0]at H;have HC2:=ak H;clear H;go_upto_region 2 with(fail)
   go_cut [11] (fun v11 wc=>∃(kq:Nat) (xG:Bool),v11= .bool xG∧ah (gu.j1 kq l0 dX xG=some r)∧ah (kq≤k1)∧ah (Below w.heap.size w wc))
   case first=>
    have H:=HC2.out;clear HC2;replace H:=sd H;rcases H with⟨iT,H⟩|⟨iT,H⟩
    ·(first|rw[iT]|(simp only[jk,kU];rw[iT])|skip);have H':=ak H;clear H;go_wp2;go_meet
     case rel=>exact⟨_,_,rs,H',⟨kl⟩,⟨ul HB.out⟩⟩
    ·(first|rw[iT]|(simp only[jk,kU];rw[iT])|skip);have H':=ak H;clear H;go_wp2;go_meet
     case rel=>exact⟨_,_,rs,H',⟨kl⟩,⟨ul HB.out⟩⟩
   case rest=>
    clear HC2;obtain⟨kq,xG,rfl,HA,HJ1,HB⟩:=hcut
    cases kq with
    |zero=>exact zz HA.out
    |succ RU=>
     obtain⟨H⟩:=HA;simp only[gu.j1]at H;replace H:=sb H;rcases H with⟨rfl,H⟩|⟨rfl,H⟩
     ·replace H:=oG H;obtain⟨nT,H⟩:=H;replace H:=oG H;obtain⟨oV,H⟩:=H;replace H:=bd H;obtain⟨awr,A7,H⟩:=H;replace H:=sb H;rcases H with⟨rfl,H⟩|⟨rfl,H⟩
      ·have H':=ak H;clear H;have acz:=zi dX;have acA:=zj dX l0.length;obtain⟨awt,ar1,N7,N8⟩:=qB HR0.out dX acz acA;cases ar1;replace N7:=cl HB.out N7;replace N8:=cl HB.out N8;replace acz:=eq_true acz;replace acA:=eq_true acA;go_wp2_with (refine gB Tryz.func158 (jw.calls A7.out) ?_;intro w9 hb;replace HB:=bs HB hb;clear hb)
       go_roundg RU
       case measure=>exact kl
       case rel=>exact⟨_,rs,H',⟨kl⟩,⟨ul HB.out⟩⟩
      ·obtain rfl:=s1 H;have acz:=zi dX;have acA:=zj dX l0.length;obtain⟨awt,ar1,N7,N8⟩:=qB HR0.out dX acz acA;cases ar1;replace N7:=cl HB.out N7;replace N8:=cl HB.out N8;replace acz:=eq_true acz;replace acA:=eq_true acA;go_wp2_with (refine gB Tryz.func158 (jw.calls A7.out) ?_;intro w10 hb;replace HB:=bs HB hb;clear hb)
       go_ret;exact⟨er,ul HB.out⟩
     ·obtain rfl:=s1 H;go_wp2;go_ret;exact⟨er,ul HB.out⟩
mutual
def eP.l0:Nat→ByteArray→Int→Int→Option (Int)
 |0,_,_,_=>none
 |k+1,x0,x5,x6=>if(wrap64 (x6+1))<(x0.size:Int)then(if 0≤x6 then(if x6<(x0.size:Int)then(if(bt x0 x6)=32 then(if 0≤(wrap64 (x6-1))then(if(wrap64 (x6-1))<(x0.size:Int)then(if(bt x0 (wrap64 (x6-1)))=32 then(eP.j1 k x0 x5 x6 true)else(if 0≤(wrap64 (x6+1))then(eP.j1 k x0 x5 x6 ((bt x0 (wrap64 (x6+1)))==32))else(none)))else(none))else(none))else(eP.j1 k x0 x5 x6 true))else(none))else(none))else(some x5)
def eP.j1:Nat→ByteArray→Int→Int→Bool→Option (Int)
 |0,_,_,_,_=>none
 |k+1,x0,x5,x6,x33=>if x33=true then(eP.l0 k x0 x5 (wrap64 (x6+1)))else(if x6≤40 then(eP.l0 k x0 x6 (wrap64 (x6+1)))else(if x5<0 then(eP.l0 k x0 x6 (wrap64 (x6+1)))else(eP.l0 k x0 x5 (wrap64 (x6+1)))))
end
def eP.f (k:Nat) (a0:ByteArray) (a1:Int):Option (Int):=eP.l0 k a0 (-1) (wrap64 (a1+1))
theorem eP.calls {k:Nat} {a0:ByteArray} {a1 r:Int} {w:World} (h:eP.f k a0 a1=some r):
  Calls Tryz.prog 176 #[.string a0, .int .i64 a1] w fun e w'=>e= .returned (.int .i64 r)∧dN w w':=by
 unfold eP.f at h;have H:=h;clear h;have H':=ak H;clear H;go_enter Tryz.func176,Tryz.ntmps176;go_wp2;go_loopg [5,6] k (fun kq v5 v6 w'=>∃(eY:Int) (eX:Int),v5= .int .i64 eY∧v6= .int .i64 eX∧ah (eP.l0 kq a0 eY eX=some r)∧ah (kq≤k)∧dN w w')
 case atStart=>exact⟨_,_,rs,rs,H',⟨Nat.le_refl _⟩,dn⟩
 case round=>
  clear H';obtain⟨eY,eX,rfl,rfl,HA,yH,⟨m1,rfl⟩⟩:=hrel
  cases gk with
  |zero=>exact zz HA.out
  |succ k1=>
   obtain⟨H⟩:=HA;simp only[eP.l0]at H;replace H:=sp H;rcases H with⟨c3,H⟩|⟨c3,H⟩
   ·have iT:=decide_eq_true c3
    (try(have zW:decide ((eX+1)<(a0.size:Int))=true:=decide_eq_true (by have h_:=c3;unfold wrap64 at h_;omega)));clear c3;have HC4:=ak H;clear H;go_upto_region 5 with(fail)
    go_cut [33] (fun v33 wc=>∃(kq:Nat) (ai3:Bool),v33= .bool ai3∧ah (eP.j1 kq a0 eY eX ai3=some r)∧ah (kq≤k1)∧dN w wc)
    case first=>
     have H:=HC4.out;clear HC4;replace H:=oG H;obtain⟨nT,H⟩:=H
     (first|rw[nT]|(simp only[jk,kU];rw[nT])|skip);replace H:=oG H;obtain⟨oV,H⟩:=H;replace H:=sq H;rcases H with⟨uG,F5,H⟩|⟨c8,uG,F5,H⟩
     ·obtain⟨Ui,Lr⟩:∃j_:Int,(wrap64 (eX-1))=j_:=⟨_,rfl⟩
      replace H:(if 0≤(Ui)then(if(Ui)<(a0.size:Int)then(if(bt a0 (Ui))=32 then(eP.j1 k1 a0 eY eX true)else(if 0≤(wrap64 (eX+1))then(eP.j1 k1 a0 eY eX ((bt a0 (wrap64 (eX+1)))==32))else(none)))else(none))else(none))=some r:=by first|(rw[Lr]at H;exact H)|(simp only[Lr]at H⊢;exact H)
      have aoC:(IntKind.i64.wrap (eX-1))=Ui:=(jk _).trans Lr;replace H:=oG H;obtain⟨oD,H⟩:=H;replace H:=oG H;obtain⟨vk,H⟩:=H;replace H:=sq H;rcases H with⟨wM,CW,H⟩|⟨c13,wM,CW,H⟩
      ·have H':=ak H;clear H;obtain⟨p7,q7,hx7⟩:=bx a0 eX;obtain⟨p12,q12,ar0⟩:=bx a0 (Ui);go_wp2;go_meet
       case rel=>exact⟨_,_,rs,H',⟨kl⟩,dn⟩
      ·obtain⟨NW,NY⟩:∃j_:Int,(wrap64 (eX+1))=j_:=⟨_,rfl⟩
       replace H:(if 0≤(NW)then(eP.j1 k1 a0 eY eX ((bt a0 (NW))==32))else(none))=some r:=by first|(rw[NY]at H;exact H)|(simp only[NY]at H⊢;exact H)
       (try rw[NY]at iT);have aEx:(IntKind.i64.wrap (eX+1))=NW:=(jk _).trans NY;replace H:=oG H;obtain⟨yx,H⟩:=H;have H':=ak H;clear H;obtain⟨p7,q7,hx7⟩:=bx a0 eX;obtain⟨p12,q12,ar0⟩:=bx a0 (Ui);obtain⟨p16,q16,hx16⟩:=bx a0 (NW);go_wp2;go_meet
       case rel=>exact⟨_,_,(by first|rfl|(simp;done)|(simp only[←NY]<;>(first|rfl|simp))|(simp[*];done)),H',⟨kl⟩,dn⟩
     ·have H':=ak H;clear H;obtain⟨p7,q7,hx7⟩:=bx a0 eX;go_wp2;go_meet
      case rel=>exact⟨_,_,rs,H',⟨kl⟩,dn⟩
    case rest=>
     clear HC4;try clear c3
     try clear iT
     try clear zW
     obtain⟨kq,ai3,rfl,HA,HJ3,⟨mc3,rfl⟩⟩:=hcut
     cases kq with
     |zero=>exact zz HA.out
     |succ kj3=>
      obtain⟨H⟩:=HA;simp only[eP.j1]at H;replace H:=sb H;rcases H with⟨rfl,H⟩|⟨rfl,H⟩
      ·have H':=ak H;clear H;go_wp2;go_roundg kj3
       case measure=>exact kl
       case rel=>exact⟨_,_,rs,rs,H',⟨kl⟩,dn⟩
      ·replace H:=sd H;rcases H with⟨CQ,H⟩|⟨CQ,H⟩
       ·have H':=ak H;clear H;go_wp2;go_roundg kj3
        case measure=>exact kl
        case rel=>exact⟨_,_,rs,rs,H',⟨kl⟩,dn⟩
       ·replace H:=sd H;rcases H with⟨DR,H⟩|⟨DR,H⟩
        ·have H':=ak H;clear H;go_wp2;go_roundg kj3
         case measure=>exact kl
         case rel=>exact⟨_,_,rs,rs,H',⟨kl⟩,dn⟩
        ·have H':=ak H;clear H;go_wp2;go_roundg kj3
         case measure=>exact kl
         case rel=>exact⟨_,_,rs,rs,H',⟨kl⟩,dn⟩
   ·have iT:=decide_eq_false c3
    (try(have zW:decide ((eX+1)<(a0.size:Int))=false:=decide_eq_false (by have h_:=c3;unfold wrap64 at h_;omega)));clear c3;obtain rfl:=s1 H;go_wp2;go_ret;exact⟨rs,dn⟩
mutual
def fV.j0:Nat→List ByteArray→ByteArray→Int→Option (List ByteArray)
 |0,_,_,_=>none
 |k+1,x3,x4,x5=>fV.l0 k x3 x4 x5
def fV.l0:Nat→List ByteArray→ByteArray→Int→Option (List ByteArray)
 |0,_,_,_=>none
 |k+1,x3,x4,x5=>if(x4.size:Int)>40 then((eP.f k x4 x5).bind fun Uk=>(if Uk<0 then(if x3.length<8796093022208 then(some (x3++[x4]))else(none))else(if 0≤Uk then(if Uk≤(x4.size:Int)then(if x3.length<8796093022208 then(fV.l0 k (x3++[x4.extract 0 (Uk:Int).toNat]) (x4.extract (Uk:Int).toNat x4.size) 1)else(none))else(none))else(none))))else(if x3.length<8796093022208 then(some (x3++[x4]))else(none))
end
def fV.f (k:Nat) (eH:ByteArray) (fA:ByteArray):Option (List ByteArray):=(some (([]:List ByteArray):List ByteArray)).bind fun agR=>((jw.f k eH fA).bind fun awu=>(if awu=true then(if eH.size+1≤9223372036854775807 then(if fA.toList=([]:List UInt8)then(fV.j0 k agR (eH++(⟨#[58]⟩:ByteArray)) ((eH++(⟨#[58]⟩:ByteArray)).size:Int))else(if(eH++(⟨#[58]⟩:ByteArray)).size+1≤9223372036854775807 then(if((eH++(⟨#[58]⟩:ByteArray))++(⟨#[32]⟩:ByteArray)).size+fA.size≤9223372036854775807 then(fV.j0 k agR (((eH++(⟨#[58]⟩:ByteArray))++(⟨#[32]⟩:ByteArray))++fA) (wrap64 (((eH++(⟨#[58]⟩:ByteArray)).size:Int)+1)))else(none))else(none)))else(none))else(some agR)))
theorem fV.calls {k:Nat} {eH fA:ByteArray} {r:List ByteArray} {w:World} (h:fV.f k eH fA=some r):
  Calls Tryz.prog 153 #[.agg #[.string eH, .string fA]] w fun e w'=>∃o7:Value,e= .returned (o7)∧Kd.R Kd.string 9 w' w.heap.size (fun _=>True) o7 r∧Below w.heap.size w w':=by
 have FZ:=Tryz.underlying69;have HB:=ak (Below.refl w.heap.size w);unfold fV.f at h;have H:=h;clear h;replace H:=ny H;obtain⟨agR,aoF,H⟩:=H;replace H:=bd H;obtain⟨awu,A2,H⟩:=H;replace H:=sb H;rcases H with⟨rfl,H⟩|⟨rfl,H⟩
 ·replace H:=nn H;obtain⟨c4,H⟩:=H;have qW:=eq_true c4;have RS:=decide_eq_true c4;try have ait:(9223372036854775807<eH.size+1)=False:=eq_false (Nat.not_lt.2 c4)
  have HC5:=ak H;clear H;go_enter Tryz.func153,Tryz.ntmps153;go_upto_if 19 with(first|(refine bX HB 1 #[.string eH, .string fA] 69 ?_;intro WB w6 uz awv hb;replace HB:=bs HB hb;clear hb)|(refine II 7 Kd.string 9 aoF ?_;intro aww w7 ho8 hb;have Rh:=ak (Kd.aG ho8 (aj bb));replace uz:=kb uz hb;replace HB:=bz HB hb;clear hb ho8;have z9:=CO uz.out)|(refine gB Tryz.func158 (jw.calls A2.out) ?_;intro w10 hb;replace Rh:=rb Rh hb;replace uz:=kb uz hb;replace HB:=bz HB hb;clear hb;have z11:=CO uz.out))
  (try simp only[Act.put,zN,zO,l_c]);go_cut [4,5] (fun v4 v5 wc=>∃(kq:Nat) (ar2:ByteArray) (aat:Int),v4= .string ar2∧v5= .int .i64 aat∧ah (fV.j0 kq agR ar2 aat=some r)∧ah (kq≤k)∧ah (Kd.R Kd.string 9 wc w.heap.size (fun _=>True) aww agR)∧ah (wc.heap[WB]? =some (.cells #[.string eH, .string fA] 69 (0,0)))∧ah (Below w.heap.size w wc))
  case first=>
   have H:=HC5.out;clear HC5;replace H:=sp H;rcases H with⟨c12,H⟩|⟨c12,H⟩
   ·have yw:=beq_iff_eq.mpr c12;have ar4:(fA.toList).isEmpty=true:=List.isEmpty_iff.mpr c12;have Gg:=bne_eq_false_iff_eq.mpr c12;clear c12
    (first|rw[yw]|(simp only[jk,kU];rw[yw])|skip)
    (first|(rw[ar4];simp only[Bool.not_true,Bool.not_false])|skip);have H':=ak H;clear H;go_wp2;go_meet
    case rel=>exact⟨_,_,_,rs,rs,H',⟨PW⟩,⟨ur Rh.out⟩,⟨ub uz.out⟩,⟨bb⟩⟩
   ·have yw:=beq_eq_false_iff_ne.mpr c12;have ar4:(fA.toList).isEmpty=false:=List.isEmpty_eq_false_iff.mpr c12;have Gg:=bne_iff_ne.mpr c12
    (first|rw[yw]|(simp only[jk,kU];rw[yw])|skip)
    (first|(rw[ar4];simp only[Bool.not_true,Bool.not_false])|skip);replace H:=nn H;obtain⟨c13,H⟩:=H;have wM:=eq_true c13;have CW:=decide_eq_true c13;try have awx:(9223372036854775807<eH.size+1+1)=False:=by have h_:=(eq_false (Nat.not_lt.2 c13):(9223372036854775807<(eH++(⟨#[58]⟩:ByteArray)).size+1)=False);simp only[ByteArray.size_append]at h_;exact h_
    try have aoD:(9223372036854775807<(eH++(⟨#[58]⟩:ByteArray)).size+1)=False:=eq_false (Nat.not_lt.2 c13)
    replace H:=nn H;obtain⟨c14,H⟩:=H;have vw:=eq_true c14;have zZ:=decide_eq_true c14;try have aHz:(9223372036854775807<eH.size+1+1+fA.size)=False:=by have h_:=(eq_false (Nat.not_lt.2 c14):(9223372036854775807<((eH++(⟨#[58]⟩:ByteArray))++(⟨#[32]⟩:ByteArray)).size+fA.size)=False);simp only[ByteArray.size_append]at h_;exact h_
    try have awy:(9223372036854775807<((eH++(⟨#[58]⟩:ByteArray))++(⟨#[32]⟩:ByteArray)).size+fA.size)=False:=eq_false (Nat.not_lt.2 c14)
    have H':=ak H;clear H;have z15:=CO uz.out;go_wp2;go_meet
    case rel=>exact⟨_,_,_,rs,rs,H',⟨PW⟩,⟨ur Rh.out⟩,⟨ub uz.out⟩,⟨bb⟩⟩
  case rest=>
   clear HC5;try clear c4
   try clear qW
   try clear RS
   try clear ait
   obtain⟨kq,ar2,aat,rfl,rfl,HA,HJ4,qp,uz,HB⟩:=hcut
   cases kq with
   |zero=>exact zz HA.out
   |succ kj4=>
    obtain⟨H⟩:=HA;simp only[fV.j0]at H;have H':=ak H;clear H;go_wp2;go_loopg [3,4,5] kj4 (fun kq v3 v4 v5 w'=>∃(lS:List ByteArray) (pY:ByteArray) (uX:Int),v4= .string pY∧v5= .int .i64 uX∧ah (fV.l0 kq lS pY uX=some r)∧ah (kq≤kj4)∧ah (Kd.R Kd.string 9 w' w.heap.size (fun _=>True) v3 lS)∧ah (w'.heap[WB]? =some (.cells #[.string eH, .string fA] 69 (0,0)))∧ah (Below w.heap.size w w'))
    case atStart=>exact⟨_,_,_,rs,rs,H',⟨Nat.le_refl _⟩,⟨ur qp.out⟩,⟨ub uz.out⟩,⟨bb⟩⟩
    case round=>
     clear H';try clear c4
     try clear qW
     try clear RS
     try clear ait
     obtain⟨lS,pY,uX,rfl,rfl,HA,HK2,qp,uz,HB⟩:=hrel
     cases gk with
     |zero=>exact zz HA.out
     |succ k2=>
      obtain⟨H⟩:=HA;simp only[fV.l0]at H;replace H:=sp H;rcases H with⟨c16,H⟩|⟨c16,H⟩
      ·have zA:decide (40<(pY.size:Int))=true:=decide_eq_true c16;have N9:decide (40<pY.size)=true:=decide_eq_true (by omega);clear c16;replace H:=bd H;obtain⟨Uk,A17,H⟩:=H;replace H:=sd H;rcases H with⟨CQ,H⟩|⟨CQ,H⟩
       ·replace H:=nl H;obtain⟨ai4,H⟩:=H;obtain⟨aK4,aoG⟩:=nm (lS++[pY]);rw[←aoG.out]at H;obtain rfl:=s1 H;go_wp2_with (first|(refine gA Tryz.func176 (eP.calls A17.out) ?_;intro nd)|((with_reducible refine dR (b:= .append) (xs:=#[.tmp 44, .tmp 46]) rfl ?_);at_builtin;refine Kd.qE Kd.string (w0:=w) w.heap.size rfl (.tmp 44) (.tmp 46) 23 9 (.string ⟨#[]⟩) 16 rfl Tryz.underlying23 info9 rfl (by decide) (by omega) u3 lS pY [.string pY] (fun _=>True) (fun _=>False) rfl rfl ?aP (fun _ hk=>hk.elim) ?aF ?aO ?aB ?aS ?aL ?_;(case aP=>exact rfl);(case aB=>exact bb);(case aF=>exact(fun _ _=>trivial));(case aO=>exact(ur qp.out));(case aS=>exact(aj bb));(case aL=>have:=ai4.out;omega);intro aK5 w20 ho hb hg hat;rw[←aoG.out]at ho;have awz:=ak (ho);replace uz:=ak (bP (g:=WB) (o:= .cells #[.string eH, .string fA] 69 (0,0)) (ub uz.out) hg (Kd.qc qp.out uz.out (by decide)));replace HB:=ak (hb);clear ho hb hg hat qp))
        go_ret;exact⟨_,er,ur awz.out,bb⟩
       ·replace H:=Dc H;obtain⟨CV,aoH,H⟩:=H;replace H:=Dc H;obtain⟨EJ,aeE,H⟩:=H;replace H:=nl H;obtain⟨ai5,H⟩:=H;obtain⟨aK6,aoI⟩:=nm (lS++[pY.extract 0 (Uk:Int).toNat]);rw[←aoI.out]at H;have Ul:=eq_true (of_decide_eq_true (by assumption):0≤Uk);have Ud:=eq_true (of_decide_eq_true (by assumption):Uk≤(pY.size:Int));have H':=ak H;clear H;go_wp2_with (first|(refine gA Tryz.func176 (eP.calls A17.out) ?_;intro nd)|((with_reducible refine dR (b:= .append) (xs:=#[.tmp 35, .tmp 39]) rfl ?_);at_builtin;refine Kd.qE Kd.string (w0:=w) w.heap.size rfl (.tmp 35) (.tmp 39) 23 9 (.string ⟨#[]⟩) 16 rfl Tryz.underlying23 info9 rfl (by decide) (by omega) u3 lS (pY.extract 0 (Uk:Int).toNat) [.string (pY.extract 0 (Uk:Int).toNat)] (fun _=>True) (fun _=>False) rfl rfl ?aP (fun _ hk=>hk.elim) ?aF ?aO ?aB ?aS ?aL ?_;(case aP=>exact rfl);(case aB=>exact bb);(case aF=>exact(fun _ _=>trivial));(case aO=>exact(ur qp.out));(case aS=>exact(aj bb));(case aL=>have:=ai5.out;omega);intro aK7 w26 ho hb hg hat;rw[←aoI.out]at ho;have awC:=ak (ho);replace uz:=ak (bP (g:=WB) (o:= .cells #[.string eH, .string fA] 69 (0,0)) (ub uz.out) hg (Kd.qc qp.out uz.out (by decide)));replace HB:=ak (hb);clear ho hb hg hat qp))
        go_roundg k2
        case measure=>exact kl
        case rel=>exact⟨_,_,_,rs,rs,H',⟨kl⟩,⟨ur awC.out⟩,⟨ub uz.out⟩,⟨bb⟩⟩
      ·have zA:decide (40<(pY.size:Int))=false:=decide_eq_false c16;have N9:decide (40<pY.size)=false:=decide_eq_false (by omega);clear c16;replace H:=nl H;obtain⟨aiA,H⟩:=H;obtain⟨aK8,aoJ⟩:=nm (lS++[pY]);rw[←aoJ.out]at H;obtain rfl:=s1 H;go_wp2_with ((with_reducible refine dR (b:= .append) (xs:=#[.tmp 44, .tmp 46]) rfl ?_);at_builtin;refine Kd.qE Kd.string (w0:=w) w.heap.size rfl (.tmp 44) (.tmp 46) 23 9 (.string ⟨#[]⟩) 16 rfl Tryz.underlying23 info9 rfl (by decide) (by omega) u3 lS pY [.string pY] (fun _=>True) (fun _=>False) rfl rfl ?aP (fun _ hk=>hk.elim) ?aF ?aO ?aB ?aS ?aL ?_;(case aP=>exact rfl);(case aB=>exact bb);(case aF=>exact(fun _ _=>trivial));(case aO=>exact(ur qp.out));(case aS=>exact(aj bb));(case aL=>have:=aiA.out;omega);intro aK9 w28 ho hb hg hat;rw[←aoJ.out]at ho;have awD:=ak (ho);replace uz:=ak (bP (g:=WB) (o:= .cells #[.string eH, .string fA] 69 (0,0)) (ub uz.out) hg (Kd.qc qp.out uz.out (by decide)));replace HB:=ak (hb);clear ho hb hg hat qp)
       go_ret;exact⟨_,er,ur awD.out,bb⟩
 ·obtain rfl:=s1 H;go_enter Tryz.func153,Tryz.ntmps153;go_wp2_with (first|(refine bX HB 1 #[.string eH, .string fA] 69 ?_;intro WB w29 uz awv hb;replace HB:=bs HB hb;clear hb)|(refine II 7 Kd.string 9 aoF ?_;intro aww w30 awE hb;have Rh:=ak (Kd.aG awE (aj bb));replace uz:=kb uz hb;replace HB:=bz HB hb;clear hb awE;have z32:=CO uz.out)|(refine gB Tryz.func158 (jw.calls A2.out) ?_;intro w33 hb;replace Rh:=rb Rh hb;replace uz:=kb uz hb;replace HB:=bz HB hb;clear hb))
  go_ret;exact⟨_,er,ur Rh.out,bb⟩
def jg.l0:Nat→List (fO)→List ByteArray→Int→Option (List ByteArray×Bool)
 |0,_,_,_=>none
 |k+1,x0,x4,x5=>if x5<(x0.length:Int)then(if 0≤x5 then((fV.f k ((dU x0 x5).f0) ((dU x0 x5).f1)).bind fun agS=>(if x4.length+agS.length<8796093022208 then(jg.l0 k x0 (x4++agS) (wrap64 (x5+1)))else(none)))else(none))else(some (x4,true))
def jg.f (k:Nat) (l0:List (fO)):Option (List ByteArray×Bool):=(some (([]:List ByteArray):List ByteArray)).bind fun ar5=>((gu.f k l0).bind fun awF=>(if awF=true then(jg.l0 k l0 ar5 0)else(some (ar5,false))))
theorem jg.calls {k c0:Nat} {A0:Option Addr} {l0:List (fO)} {r1:List ByteArray} {r2:Bool} {w:World} (hr0:Kd.C oz w A0 l0.length l0) (hc0:l0.length≤c0) (h:jg.f k l0=some (r1,r2)):
  Calls Tryz.prog 107 #[.slice A0 l0.length c0] w fun e w'=>∃o7:Value,e= .returned (.tuple #[o7, .bool r2])∧Kd.R Kd.string 9 w' w.heap.size (fun _=>True) o7 r1∧Below w.heap.size w w':=by
 have FZ:=Tryz.underlying69;have HR0:=ak hr0;have zx:=ak hc0;clear hr0 hc0;have HB:=ak (Below.refl w.heap.size w);unfold jg.f at h;have H:=h;clear h;replace H:=ny H;obtain⟨ar5,aoK,H⟩:=H;replace H:=bd H;obtain⟨awF,A2,H⟩:=H;replace H:=sb H;rcases H with⟨rfl,H⟩|⟨rfl,H⟩
 ·have H':=ak H;clear H;go_enter Tryz.func107,Tryz.ntmps107;go_wp2_with (first|(refine II 6 Kd.string 9 aoK ?_;intro aEy w4 ho5 hb;have Um:=ak (Kd.aG ho5 (aj (ul HB.out)));replace HB:=bs HB hb;clear hb ho5)|(refine gB Tryz.func113 (gu.calls (cu (Kd.aN HR0.out HB.out)) zx.out A2.out) ?_;intro w6 hb;replace Um:=rb Um hb;replace HB:=bs HB hb;clear hb))
  go_loopg [4,5] k (fun kq v4 v5 w'=>∃(eU:List ByteArray) (eY:Int),v5= .int .i64 eY∧ah (jg.l0 kq l0 eU eY=some (r1,r2))∧ah (kq≤k)∧ah (Kd.R Kd.string 9 w' w.heap.size (fun _=>True) v4 eU)∧ah (Below w.heap.size w w'))
  case atStart=>exact⟨_,_,rs,H',⟨Nat.le_refl _⟩,⟨ur Um.out⟩,⟨ul HB.out⟩⟩
  case round=>
   clear H';obtain⟨eU,eY,rfl,HA,yH,je,HB⟩:=hrel
   cases gk with
   |zero=>exact zz HA.out
   |succ k1=>
    obtain⟨H⟩:=HA;simp only[jg.l0]at H;replace H:=sd H;rcases H with⟨tJ,H⟩|⟨tJ,H⟩
    ·replace H:=oG H;obtain⟨uG,H⟩:=H;replace H:=bd H;obtain⟨agS,A9,H⟩:=H;replace H:=nl H;obtain⟨aaj,H⟩:=H;obtain⟨aK_,aoL⟩:=nm (eU++agS);rw[←aoL.out]at H;have H':=ak H;clear H;have ar6:=zi eY;have ar7:=zj eY l0.length;obtain⟨aHA,aEz,aeF,aeG⟩:=qB HR0.out eY ar6 ar7;cases aEz;replace aeF:=cl HB.out aeF;replace aeG:=cl HB.out aeG;replace ar6:=eq_true ar6;replace ar7:=eq_true ar7;go_wp2_with (first|(refine gV Tryz.func153 (fV.calls A9.out) ?_;rintro aLa Wn ⟨ho0,hb⟩;have aau:=ak (Kd.aG (Kd.fE ho0 (Kd.jP (ur je.out))) (aj (ul HB.out)));replace je:=ak (Kd.eu (ur je.out) (Kd.b_ ho0) hb);replace HB:=bs HB hb;clear hb;(try clear ho0);obtain⟨FC,Ar,RP⟩:=Kd.aH aau.out;subst RP)|((with_reducible refine dR (b:= .append) (xs:=#[.tmp 17, .tmp 22]) rfl ?_);at_builtin;refine Kd.o9 Kd.string (w0:=w) w.heap.size rfl (.tmp 17) (.tmp 22) 23 9 (.string ⟨#[]⟩) 16 rfl Tryz.underlying23 info9 rfl (by decide) (by omega) u4 eU agS _ _ _ (fun k_=>some k_≠(.slice FC agS.length Ar:Value).ownBlock) (fun _=>False) rfl rfl ?aO ?aR (fun _ _ h=>h) (fun _ h=>h.elim) ?aF ?aB ?aS ?aL ?_;(case aR=>repeat(first|exact(Kd.aK aau.out).2.2|(with_reducible refine Kd.lY ?_ _)|(with_reducible refine Kd.lZ ?_ _)|(with_reducible refine Kd.pX ?_)));(case aB=>exact(ul HB.out));(case aF=>exact(fun k_ hk=>Kd.fresh' (Kd.jP (ur aau.out)) k_ hk));(case aO=>exact(ur (Kd.aX je.out (fun _ hk=>hk.2))));(case aS=>exact(aj (ul HB.out)));(case aL=>have:=aaj.out;omega);intro aLb w12 ho hb hg hat;rw[←aoL.out]at ho;have awG:=ak (ho);replace aau:=ak (Kd.BG (ok:=(fun _=>True)) (ur aau.out) hg hat);replace HB:=ak (hb);clear ho hb hg hat je))
     go_roundg k1
     case measure=>exact kl
     case rel=>exact⟨_,_,rs,H',⟨kl⟩,⟨ur (Kd.aX awG.out (fun _ hk=>trivial))⟩,⟨ul HB.out⟩⟩
    ·obtain⟨rfl,rfl⟩:=s2 H;go_wp2;go_ret2;exact⟨_,er,ur je.out,ul HB.out⟩
 ·obtain⟨rfl,rfl⟩:=s2 H;go_enter Tryz.func107,Tryz.ntmps107;go_wp2_with (first|(refine II 6 Kd.string 9 aoK ?_;intro aEy VH KZ hb;have Um:=ak (Kd.aG KZ (aj (ul HB.out)));replace HB:=bs HB hb;clear hb KZ)|(refine gB Tryz.func113 (gu.calls (cu (Kd.aN HR0.out HB.out)) zx.out A2.out) ?_;intro w16 hb;replace Um:=rb Um hb;replace HB:=bs HB hb;clear hb))
  go_ret2;exact⟨_,er,ur Um.out,ul HB.out⟩
def iP.f (a0:ByteArray):Option (ByteArray):=if a0.size≤140737488355328 then some (strOfNums ((bytesOf a0).map VN))else none
set_option maxHeartbeats 1000000 in
set_option maxRecDepth 100000 in
theorem iP.calls {a0 r:ByteArray} {w:World} (h:iP.f a0=some r):
  Calls Tryz.prog 180 #[.string a0] w fun e w'=>e= .returned (.string r)∧Below w.heap.size w w':=by
 unfold iP.f at h;split at h
 ·rename_i hb
  injection h with h;subst h;have kb:=fun W=>Ri (P:=Tryz.prog) 9 22 5 Tryz.underlying9 Tryz.underlying22 Tryz.underlying5 a0 W
  go_enter Tryz.func180,Tryz.ntmps180;go_wp2;go_loopw [4] (fun i W=>∃k:Nat,k≤a0.size∧i= .int .i64 k∧Qh w w.heap.size (Iu (bytesOf a0) k) W) (fun i _=>a0.size-(intOf i).toNat)
  case atStart=>exact⟨0,Nat.zero_le _,rfl,by simpa [Iu] using N_ w 5 a0⟩
  case round=>
   obtain⟨k,hk,rfl,hR⟩:=hrel;have HR:=ak hR;by_cases hlt:k<a0.size
   ·have hc:=hR.cell k (by rw[nI,bytesOf_length];exact hlt);have hf:=hR.free k (by rw[nI,bytesOf_length];exact hlt);rw[Yq _ _ (by rw[bytesOf_length];exact hlt)]at hc;clear hR;have hr:=KF a0 k;have hs:=ak (WC (bytesOf a0) k (by rw[bytesOf_length];exact hlt));have hu:=ak (Qi (bytesOf a0) k (by rw[bytesOf_length];exact hlt))
    generalize (bytesOf a0).getD k 0=c at hc hr hs hu
    go_wp2
    ·go_roundw
     case rel=>exact⟨k+1,by omega,by go_num,by
      rw[hu.out,VN,if_pos ⟨by omega,by omega⟩];exact HR.out.store (Nat.le_refl _) k (by rw[nI,bytesOf_length];exact hlt) _⟩
     case measure=>simp[intOf];omega
    ·go_roundw
     case rel=>exact⟨k+1,by omega,by go_num,by rw[hs.out (by omega)];exact HR.out⟩
     case measure=>simp[intOf];omega
    ·go_roundw
     case rel=>exact⟨k+1,by omega,by go_num,by rw[hs.out (by omega)];exact HR.out⟩
     case measure=>simp[intOf];omega
   ·clear hR
    have kd:=run_convert_bytes_arg (P:=Tryz.prog) wr 22 5 Tryz.underlying22 Tryz.underlying5 w.heap.size 0 a0.size (grownCap w a0.size 0 5) (Iu (bytesOf a0) k) (by rw[nI,bytesOf_length]) (fun i hi=>by
     rw[Nat.zero_add];exact HR.out.cell i (by rw[nI,bytesOf_length];exact hi)) 9 Tryz.underlying9
    go_wp2;go_ret;have hk2:k=a0.size:=by omega
    exact⟨by rw[hk2,aav (bytesOf a0) a0.size (bytesOf_length a0)];rfl,HR.out.below⟩
 ·cases h
def r_.f (a0:ByteArray) (a1:ByteArray):Option (Bool):=(iP.f a0).bind fun awH=>((iP.f a1).bind fun awI=>(some (awH.toList==awI.toList)))
theorem r_.calls {a0 a1:ByteArray} {r:Bool} {w:World} (h:r_.f a0 a1=some r):
  Calls Tryz.prog 197 #[.string a0, .string a1] w fun e w'=>e= .returned (.bool r)∧Below w.heap.size w w':=by
 have HB:=ak (Below.refl w.heap.size w);unfold r_.f at h;have H:=h;clear h;replace H:=bd H;obtain⟨awH,A3,H⟩:=H;replace H:=bd H;obtain⟨awI,A4,H⟩:=H;obtain rfl:=s1 H;go_enter Tryz.func197,Tryz.ntmps197;go_wp2_with (first|(refine gB Tryz.func180 (iP.calls A3.out) ?_;intro w5 hb;replace HB:=bs HB hb;clear hb)|(refine gB Tryz.func180 (iP.calls A4.out) ?_;intro w6 hb;replace HB:=bs HB hb;clear hb))
 go_ret;exact⟨er,ul HB.out⟩
def ku.l0:Nat→List (fO)→ByteArray→Int→Option (Int)
 |0,_,_,_=>none
 |k+1,x0,x1,x5=>if x5<(x0.length:Int)then(if 0≤x5 then((r_.f ((dU x0 x5).f0) x1).bind fun awJ=>(if awJ=true then(some x5)else(ku.l0 k x0 x1 (wrap64 (x5+1)))))else(none))else(some (-1))
def ku.f (k:Nat) (l0:List (fO)) (a1:ByteArray):Option (Int):=ku.l0 k l0 a1 0
theorem ku.calls {k c0:Nat} {A0:Option Addr} {l0:List (fO)} {a1:ByteArray} {r:Int} {w:World} (hr0:Kd.C oz w A0 l0.length l0) (hc0:l0.length≤c0) (h:ku.f k l0 a1=some r):
  Calls Tryz.prog 177 #[.slice A0 l0.length c0, .string a1] w fun e w'=>e= .returned (.int .i64 r)∧Below w.heap.size w w':=by
 have HR0:=ak hr0;have zx:=ak hc0;clear hr0 hc0;have HB:=ak (Below.refl w.heap.size w);unfold ku.f at h;have H:=h;clear h;have H':=ak H;clear H;go_enter Tryz.func177,Tryz.ntmps177;go_wp2;go_loopg [5] k (fun kq v5 w'=>∃(eY:Int),v5= .int .i64 eY∧ah (ku.l0 kq l0 a1 eY=some r)∧ah (kq≤k)∧ah (Below w.heap.size w w'))
 case atStart=>exact⟨_,rs,H',⟨Nat.le_refl _⟩,⟨ul HB.out⟩⟩
 case round=>
  clear H';obtain⟨eY,rfl,HA,yH,HB⟩:=hrel
  cases gk with
  |zero=>exact zz HA.out
  |succ k1=>
   obtain⟨H⟩:=HA;simp only[ku.l0]at H;replace H:=sd H;rcases H with⟨iT,H⟩|⟨iT,H⟩
   ·replace H:=oG H;obtain⟨qW,H⟩:=H;replace H:=bd H;obtain⟨awJ,A5,H⟩:=H;replace H:=sb H;rcases H with⟨rfl,H⟩|⟨rfl,H⟩
    ·obtain rfl:=s1 H;have acB:=zi eY;have acC:=zj eY l0.length;obtain⟨awK,ar8,Oa,Ob⟩:=qB HR0.out eY acB acC;cases ar8;replace Oa:=cl HB.out Oa;replace Ob:=cl HB.out Ob;replace acB:=eq_true acB;replace acC:=eq_true acC;go_wp2_with (refine gB Tryz.func197 (r_.calls A5.out) ?_;intro w7 hb;replace HB:=bs HB hb;clear hb)
     go_ret;exact⟨er,ul HB.out⟩
    ·have H':=ak H;clear H;have acB:=zi eY;have acC:=zj eY l0.length;obtain⟨awK,ar8,Oa,Ob⟩:=qB HR0.out eY acB acC;cases ar8;replace Oa:=cl HB.out Oa;replace Ob:=cl HB.out Ob;replace acB:=eq_true acB;replace acC:=eq_true acC;go_wp2_with (refine gB Tryz.func197 (r_.calls A5.out) ?_;intro w8 hb;replace HB:=bs HB hb;clear hb)
     go_roundg k1
     case measure=>exact kl
     case rel=>exact⟨_,rs,H',⟨kl⟩,⟨ul HB.out⟩⟩
   ·obtain rfl:=s1 H;go_wp2;go_ret;exact⟨er,ul HB.out⟩
def kG.f (k:Nat) (l0:List (fO)) (a1:ByteArray):Option (ByteArray×Bool):=(ku.f k l0 a1).bind fun aaw=>(if aaw<0 then(some ((⟨#[]⟩:ByteArray),false))else(if 0≤aaw then(if aaw<(l0.length:Int)then(some ((dU l0 aaw).f1,true))else(none))else(none)))
theorem kG.calls {k c0:Nat} {A0:Option Addr} {l0:List (fO)} {a1 r1:ByteArray} {r2:Bool} {w:World} (hr0:Kd.C oz w A0 l0.length l0) (hc0:l0.length≤c0) (h:kG.f k l0 a1=some (r1,r2)):
  Calls Tryz.prog 154 #[.slice A0 l0.length c0, .string a1] w fun e w'=>e= .returned (.tuple #[.string r1, .bool r2])∧Below w.heap.size w w':=by
 have HR0:=ak hr0;have zx:=ak hc0;clear hr0 hc0;have HB:=ak (Below.refl w.heap.size w);unfold kG.f at h;have H:=h;clear h;replace H:=bd H;obtain⟨aaw,A3,H⟩:=H;replace H:=sd H;rcases H with⟨qW,H⟩|⟨qW,H⟩
 ·obtain⟨rfl,rfl⟩:=s2 H;go_enter Tryz.func154,Tryz.ntmps154;go_wp2_with (refine gB Tryz.func177 (ku.calls (cu HR0.out) zx.out A3.out) ?_;intro w5 hb;replace HB:=bs HB hb;clear hb)
  go_ret2;exact⟨er,ul HB.out⟩
 ·replace H:=oG H;obtain⟨oV,H⟩:=H;replace H:=oG H;obtain⟨tJ,H⟩:=H;obtain⟨rfl,rfl⟩:=s2 H;go_enter Tryz.func154,Tryz.ntmps154;go_wp2_with (refine gB Tryz.func177 (ku.calls (cu HR0.out) zx.out A3.out) ?_;intro w8 hb;replace HB:=bs HB hb;clear hb;have ar9:0≤(aaw:Int):=of_decide_eq_true (by assumption);have ar_:aaw<(l0.length:Int):=of_decide_eq_true (by assumption);obtain⟨aHB,aEA,Yr,Yt⟩:=qB HR0.out aaw ar9 ar_;cases aEA;replace Yr:=(HB.out.cell (World.block_lt_of_cell? w _ Yr)).trans Yr;replace Yt:=(HB.out.cell (World.block_lt_of_cell? w _ Yt)).trans Yt;replace ar9:=eq_true ar9;replace ar_:=eq_true ar_)
  go_ret2;exact⟨er,ul HB.out⟩
def gI.l0:Nat→ByteArray→ByteArray→Int→Option (ByteArray×Int)
 |0,_,_,_=>none
 |k+1,x0,x6,x7=>if x7<(x0.size:Int)then(if 0≤x7 then(if(bt x0 x7)=34 then(some (x6,wrap64 (x7+1)))else(if(bt x0 x7)=92 then(if(wrap64 (x7+1))=(x0.size:Int)then(some ((⟨#[]⟩:ByteArray),(-1)))else(if 0≤(wrap64 (x7+1))then(if(wrap64 (x7+1))≤(wrap64 ((wrap64 (x7+1))+1))then(if(wrap64 ((wrap64 (x7+1))+1))≤(x0.size:Int)then(if x6.size+(x0.extract ((wrap64 (x7+1)):Int).toNat ((wrap64 ((wrap64 (x7+1))+1)):Int).toNat).size≤9223372036854775807 then(gI.l0 k x0 (x6++(x0.extract ((wrap64 (x7+1)):Int).toNat ((wrap64 ((wrap64 (x7+1))+1)):Int).toNat)) (wrap64 ((wrap64 (x7+1))+1)))else(none))else(none))else(none))else(none)))else(if x7≤(wrap64 (x7+1))then(if(wrap64 (x7+1))≤(x0.size:Int)then(if x6.size+(x0.extract (x7:Int).toNat ((wrap64 (x7+1)):Int).toNat).size≤9223372036854775807 then(gI.l0 k x0 (x6++(x0.extract (x7:Int).toNat ((wrap64 (x7+1)):Int).toNat)) (wrap64 (x7+1)))else(none))else(none))else(none))))else(none))else(some ((⟨#[]⟩:ByteArray),(-1)))
def gI.f (k:Nat) (a0:ByteArray) (a1:Int):Option (ByteArray×Int):=gI.l0 k a0 (⟨#[]⟩:ByteArray) (wrap64 (a1+1))
theorem gI.calls {k:Nat} {a0 r1:ByteArray} {a1 r2:Int} {w:World} (h:gI.f k a0 a1=some (r1,r2)):
  Calls Tryz.prog 198 #[.string a0, .int .i64 a1] w fun e w'=>e= .returned (.tuple #[.string r1, .int .i64 r2])∧dN w w':=by
 unfold gI.f at h;have H:=h;clear h;have H':=ak H;clear H;go_enter Tryz.func198,Tryz.ntmps198;go_wp2;go_loopg [6,7] k (fun kq v6 v7 w'=>∃(eX:ByteArray) (rF:Int),v6= .string eX∧v7= .int .i64 rF∧ah (gI.l0 kq a0 eX rF=some (r1,r2))∧ah (kq≤k)∧dN w w')
 case atStart=>exact⟨_,_,rs,rs,H',⟨Nat.le_refl _⟩,dn⟩
 case round=>
  clear H';obtain⟨eX,rF,rfl,rfl,HA,yH,⟨m1,rfl⟩⟩:=hrel
  cases gk with
  |zero=>exact zz HA.out
  |succ k1=>
   obtain⟨H⟩:=HA;simp only[gI.l0]at H;replace H:=sd H;rcases H with⟨iT,H⟩|⟨iT,H⟩
   ·replace H:=oG H;obtain⟨qW,H⟩:=H;replace H:=sq H;rcases H with⟨oV,zX,H⟩|⟨c6,oV,zX,H⟩
    ·obtain⟨rfl,rfl⟩:=s2 H;obtain⟨p5,q5,hx5⟩:=bx a0 rF;go_wp2;go_ret2;exact⟨rs,dn⟩
    ·replace H:=sq H;rcases H with⟨uG,F5,H⟩|⟨c8,uG,F5,H⟩
     ·replace H:=sq H;rcases H with⟨A_,I4,H⟩|⟨c9,A_,I4,H⟩
      ·obtain⟨rfl,rfl⟩:=s2 H;obtain⟨p5,q5,hx5⟩:=bx a0 rF;obtain⟨p7,q7,hx7⟩:=bx a0 rF;go_wp2;go_ret2;exact⟨rs,dn⟩
      ·obtain⟨Oc,Un⟩:∃j_:Int,(wrap64 (rF+1))=j_:=⟨_,rfl⟩
       replace H:(if 0≤(Oc)then(if(Oc)≤(wrap64 ((Oc)+1))then(if(wrap64 ((Oc)+1))≤(a0.size:Int)then(if eX.size+(a0.extract ((Oc):Int).toNat ((wrap64 ((Oc)+1)):Int).toNat).size≤9223372036854775807 then(gI.l0 k1 a0 (eX++(a0.extract ((Oc):Int).toNat ((wrap64 ((Oc)+1)):Int).toNat)) (wrap64 ((Oc)+1)))else(none))else(none))else(none))else(none))=some (r1,r2):=by first|(rw[Un]at H;exact H)|(simp only[Un]at H⊢;exact H)
       (try rw[Un]at A_)
       (try rw[Un]at I4);have aEB:(IntKind.i64.wrap (rF+1))=Oc:=(jk _).trans Un;replace H:=Dc H;obtain⟨vk,Ib,H⟩:=H;replace H:=nn H;obtain⟨c12,H⟩:=H;have yw:=eq_true c12;have Gg:=decide_eq_true c12;replace H:=nn H;obtain⟨c13,H⟩:=H;have wM:=eq_true c13;have CW:=decide_eq_true c13;replace H:=nn H;obtain⟨c14,H⟩:=H;have vw:=eq_true c14;have zZ:=decide_eq_true c14;try have aHC:(9223372036854775807<eX.size+((a0.extract ((Oc):Int).toNat ((wrap64 ((Oc)+1)):Int).toNat).size))=False:=by have h_:=c14;simp only[ByteArray.size_append,ByteArray.size_extract]at h_;refine eq_false ?_;simp only[decide_eq_true_eq]at*;omega
       try have awy:(9223372036854775807<eX.size+(a0.extract ((Oc):Int).toNat ((wrap64 ((Oc)+1)):Int).toNat).size)=False:=eq_false (Nat.not_lt.2 c14)
       have H':=ak H;clear H;obtain⟨p5,q5,hx5⟩:=bx a0 rF;obtain⟨p7,q7,hx7⟩:=bx a0 rF;go_wp2;go_roundg k1
       case measure=>exact kl
       case rel=>exact⟨_,_,(by first|rfl|(simp;done)|(simp only[←Un]<;>(first|rfl|simp))|(simp[*];done)),(by first|rfl|(simp;done)|(simp only[←Un]<;>(first|rfl|simp))|(simp[*];done)),H',⟨kl⟩,dn⟩
     ·have yx:=eq_true (of_decide_eq_true (by assumption):0≤rF);replace H:=nn H;obtain⟨c16,H⟩:=H;have zA:=eq_true c16;have N9:=decide_eq_true c16;replace H:=nn H;obtain⟨c17,H⟩:=H;have u_:=eq_true c17;have Q9:=decide_eq_true c17;replace H:=nn H;obtain⟨c18,H⟩:=H;have CQ:=eq_true c18;have Uj:=decide_eq_true c18;try have aHD:(9223372036854775807<eX.size+((a0.extract (rF:Int).toNat ((wrap64 (rF+1)):Int).toNat).size))=False:=by have h_:=c18;simp only[ByteArray.size_append,ByteArray.size_extract]at h_;refine eq_false ?_;simp only[decide_eq_true_eq]at*;omega
      try have aoM:(9223372036854775807<eX.size+(a0.extract (rF:Int).toNat ((wrap64 (rF+1)):Int).toNat).size)=False:=eq_false (Nat.not_lt.2 c18)
      have H':=ak H;clear H;obtain⟨p5,q5,hx5⟩:=bx a0 rF;obtain⟨p7,q7,hx7⟩:=bx a0 rF;go_wp2;go_roundg k1
      case measure=>exact kl
      case rel=>exact⟨_,_,rs,rs,H',⟨kl⟩,dn⟩
   ·obtain⟨rfl,rfl⟩:=s2 H;go_wp2;go_ret2;exact⟨rs,dn⟩
def jD.l0:Nat→ByteArray→Int→Int→Option (ByteArray×ByteArray×Bool)
 |0,_,_,_=>none
 |k+1,x0,x1,x7=>if x7<(x0.size:Int)then(if 0≤x7 then(if(bt x0 x7)=34 then((gI.f k x0 x7).bind fun aoN=>(if aoN.2<0 then(some (x0,(⟨#[]⟩:ByteArray),false))else(jD.l0 k x0 x1 aoN.2)))else(if(bt x0 x7)=x1 then(if x7≤(x0.size:Int)then(if 0≤(wrap64 (x7+1))then(if(wrap64 (x7+1))≤(x0.size:Int)then(some (x0.extract 0 (x7:Int).toNat,x0.extract ((wrap64 (x7+1)):Int).toNat x0.size,true))else(none))else(none))else(none))else(jD.l0 k x0 x1 (wrap64 (x7+1)))))else(none))else(some (x0,(⟨#[]⟩:ByteArray),false))
def jD.f (k:Nat) (a0:ByteArray) (a1:Int):Option (ByteArray×ByteArray×Bool):=jD.l0 k a0 a1 0
theorem jD.calls {k:Nat} {a0 r1 r2:ByteArray} {a1:Int} {r3:Bool} {w:World} (h:jD.f k a0 a1=some (r1,r2,r3)):
  Calls Tryz.prog 178 #[.string a0, .int .u8 a1] w fun e w'=>e= .returned (.tuple #[.string r1, .string r2, .bool r3])∧dN w w':=by
 unfold jD.f at h;have H:=h;clear h;have H':=ak H;clear H;go_enter Tryz.func178,Tryz.ntmps178;go_wp2;repeat(go_quiet (fail);try go_wp2)
 go_loopg [7] k (fun kq v7 w'=>∃(rF:Int),v7= .int .i64 rF∧ah (jD.l0 kq a0 a1 rF=some (r1,r2,r3))∧ah (kq≤k)∧dN w w')
 case atStart=>exact⟨_,rs,H',⟨Nat.le_refl _⟩,dn⟩
 case round=>
  clear H';obtain⟨rF,rfl,HA,yH,⟨m1,rfl⟩⟩:=hrel
  cases gk with
  |zero=>exact zz HA.out
  |succ k1=>
   obtain⟨H⟩:=HA;simp only[jD.l0]at H;replace H:=sd H;rcases H with⟨iT,H⟩|⟨iT,H⟩
   ·replace H:=oG H;obtain⟨qW,H⟩:=H;replace H:=sq H;rcases H with⟨oV,zX,H⟩|⟨c6,oV,zX,H⟩
    ·replace H:=bd H;obtain⟨⟨aLc,aLd⟩,A7,H⟩:=H
     (try dsimp only at H);replace H:=sd H;rcases H with⟨uG,H⟩|⟨uG,H⟩
     ·obtain⟨rfl,rfl,rfl⟩:=s3 H;obtain⟨p5,q5,hx5⟩:=bx a0 rF;go_wp2_with (go_at_call 198;refine mA (gI.calls A7.out) ?_;intro nd;(try exact dq))
      repeat(go_quiet ((go_at_call 198;refine mA (gI.calls A7.out) ?_;intro nd;(try exact dq)));try go_wp2_with (go_at_call 198;refine mA (gI.calls A7.out) ?_;intro nd;(try exact dq)))
      go_ret3;exact⟨rs,dn⟩
     ·have H':=ak H;clear H;obtain⟨p5,q5,hx5⟩:=bx a0 rF;go_wp2_with (go_at_call 198;refine mA (gI.calls A7.out) ?_;intro nd;(try exact dq))
      repeat(go_quiet ((go_at_call 198;refine mA (gI.calls A7.out) ?_;intro nd;(try exact dq)));try go_wp2_with (go_at_call 198;refine mA (gI.calls A7.out) ?_;intro nd;(try exact dq)))
      go_roundg k1
      case measure=>exact kl
      case rel=>exact⟨_,rs,H',⟨kl⟩,dn⟩
    ·replace H:=sq H;rcases H with⟨oD,uN,H⟩|⟨c10,oD,uN,H⟩
     ·have vk:=eq_true (of_decide_eq_true (by assumption):0≤rF);replace H:=Dc H;obtain⟨yw,Gg,H⟩:=H;obtain⟨Yu,KG⟩:∃j_:Int,(wrap64 (rF+1))=j_:=⟨_,rfl⟩
      replace H:(if 0≤(Yu)then(if(Yu)≤(a0.size:Int)then(some (a0.extract 0 (rF:Int).toNat,a0.extract ((Yu):Int).toNat a0.size,true))else(none))else(none))=some (r1,r2,r3):=by first|(rw[KG]at H;exact H)|(simp only[KG]at H⊢;exact H)
      have asa:(IntKind.i64.wrap (rF+1))=Yu:=(jk _).trans KG;replace H:=Dc H;obtain⟨vw,zZ,H⟩:=H;replace H:=Dc H;obtain⟨yx,I5,H⟩:=H;obtain⟨rfl,rfl,rfl⟩:=s3 H;obtain⟨p5,q5,hx5⟩:=bx a0 rF;obtain⟨p9,q9,hx9⟩:=bx a0 rF;go_wp2;repeat(go_quiet (fail);try go_wp2)
      go_ret3;exact⟨by first|rfl|(simp;done)|(simp only[←KG]<;>(first|rfl|simp))|(simp[*];done),dn⟩
     ·have H':=ak H;clear H;obtain⟨p5,q5,hx5⟩:=bx a0 rF;obtain⟨p9,q9,hx9⟩:=bx a0 rF;go_wp2;repeat(go_quiet (fail);try go_wp2)
      go_roundg k1
      case measure=>exact kl
      case rel=>exact⟨_,rs,H',⟨kl⟩,dn⟩
   ·obtain⟨rfl,rfl,rfl⟩:=s3 H;go_wp2;repeat(go_quiet (fail);try go_wp2)
    go_ret3;exact⟨rs,dn⟩
def jF.l0:Nat→Int→Int→Option (Bool)
 |0,_,_=>none
 |k+1,x0,x3=>if x3<19 then(if 0≤x3 then(if x0=(bt (⟨#[33,35,36,37,38,39,42,43,45,47,61,63,94,95,96,123,124,125,126]⟩:ByteArray) x3)then(some true)else(jF.l0 k x0 (wrap64 (x3+1))))else(none))else((gY.f x0).bind fun awL=>(some awL))
def jF.f (k:Nat) (a0:Int):Option (Bool):=jF.l0 k a0 0
theorem jF.calls {k:Nat} {a0:Int} {r:Bool} {w:World} (h:jF.f k a0=some r):
  Calls Tryz.prog 199 #[.int .u8 a0] w fun e w'=>e= .returned (.bool r)∧dN w w':=by
 unfold jF.f at h;have H:=h;clear h;have H':=ak H;clear H;go_enter Tryz.func199,Tryz.ntmps199;go_wp2;go_loopg [3] k (fun kq v3 w'=>∃(dX:Int),v3= .int .i64 dX∧ah (jF.l0 kq a0 dX=some r)∧ah (kq≤k)∧dN w w')
 case atStart=>exact⟨_,rs,H',⟨Nat.le_refl _⟩,dn⟩
 case round=>
  clear H';obtain⟨dX,rfl,HA,yH,⟨m1,rfl⟩⟩:=hrel
  cases gk with
  |zero=>exact zz HA.out
  |succ k1=>
   obtain⟨H⟩:=HA;simp only[jF.l0]at H;replace H:=sd H;rcases H with⟨qO,H⟩|⟨qO,H⟩
   ·replace H:=oG H;obtain⟨iT,H⟩:=H;replace H:=sq H;rcases H with⟨nT,NZ,H⟩|⟨c5,nT,NZ,H⟩
    ·obtain rfl:=s1 H;have p4:=zi dX;have q4:=zj dX 19;have hx4:=yt (⟨#[33,35,36,37,38,39,42,43,45,47,61,63,94,95,96,123,124,125,126]⟩:ByteArray) dX;replace p4:=eq_true p4;replace q4:=eq_true q4;go_wp2;go_ret;exact⟨rs,dn⟩
    ·have H':=ak H;clear H;have p4:=zi dX;have q4:=zj dX 19;have hx4:=yt (⟨#[33,35,36,37,38,39,42,43,45,47,61,63,94,95,96,123,124,125,126]⟩:ByteArray) dX;replace p4:=eq_true p4;replace q4:=eq_true q4;go_wp2;go_roundg k1
     case measure=>exact kl
     case rel=>exact⟨_,rs,H',⟨kl⟩,dn⟩
   ·replace H:=bd H;obtain⟨awL,A6,H⟩:=H;obtain rfl:=s1 H;go_wp2_with (refine gA Tryz.func183 (gY.calls A6.out) ?_;intro nd)
    go_ret;exact⟨rs,dn⟩
mutual
def fH.l0:Nat→ByteArray→List ByteArray→Int→Option (List ByteArray×Bool)
 |0,_,_,_=>none
 |k+1,x0,x4,x5=>if x5<(x0.size:Int)then(if 0≤x5 then(if(bt x0 x5)=32 then(fH.l0 k x0 x4 (wrap64 (x5+1)))else(if(bt x0 x5)=34 then((gI.f k x0 x5).bind fun Oe=>(if Oe.2<0 then(some ((([]:List ByteArray)),false))else(if Oe.2=x5 then(some ((([]:List ByteArray)),false))else(if Oe.2<(x0.size:Int)then(if 0≤Oe.2 then(if(bt x0 Oe.2)=32 then(if x4.length<8796093022208 then(fH.l0 k x0 (x4++[Oe.1]) Oe.2)else(none))else(some ((([]:List ByteArray)),false)))else(none))else(if x4.length<8796093022208 then(fH.l0 k x0 (x4++[Oe.1]) Oe.2)else(none))))))else(fH.l1 k x0 x4 x5 x5)))else(none))else(some (x4,true))
def fH.l1:Nat→ByteArray→List ByteArray→Int→Int→Option (List ByteArray×Bool)
 |0,_,_,_,_=>none
 |k+1,x0,x4,x5,x6=>if x5<(x0.size:Int)then(if 0≤x5 then((jF.f k (bt x0 x5)).bind fun awM=>(if awM=true then(fH.l1 k x0 x4 (wrap64 (x5+1)) x6)else(if 0≤x6 then(if x6≤x5 then(if x5≤(x0.size:Int)then(if x5=x6 then(some ((([]:List ByteArray)),false))else(if(bt x0 x5)=32 then(if x4.length<8796093022208 then(fH.l0 k x0 (x4++[x0.extract (x6:Int).toNat (x5:Int).toNat]) x5)else(none))else(some ((([]:List ByteArray)),false))))else(none))else(none))else(none))))else(none))else(if 0≤x6 then(if x6≤x5 then(if x5≤(x0.size:Int)then(if x5=x6 then(some ((([]:List ByteArray)),false))else(if x4.length<8796093022208 then(fH.l0 k x0 (x4++[x0.extract (x6:Int).toNat (x5:Int).toNat]) x5)else(none)))else(none))else(none))else(none))
end
def fH.f (k:Nat) (a0:ByteArray):Option (List ByteArray×Bool):=fH.l0 k a0 (([]:List ByteArray)) 0
theorem fH.calls {k:Nat} {a0:ByteArray} {r1:List ByteArray} {r2:Bool} {w:World} (h:fH.f k a0=some (r1,r2)):
  Calls Tryz.prog 181 #[.string a0] w fun e w'=>∃o7:Value,e= .returned (.tuple #[o7, .bool r2])∧Kd.R Kd.string 9 w' w.heap.size (fun _=>True) o7 r1∧Below w.heap.size w w':=by
 have HB:=ak (Below.refl w.heap.size w);unfold fH.f at h;have H:=h;clear h;obtain⟨aLe,aoO⟩:=nm ([]:List ByteArray);rw[←aoO.out]at H;have H':=ak H;clear H;go_enter Tryz.func181,Tryz.ntmps181;go_wp2_with (refine gG 8 ?_;refine II 8 Kd.string 9 aoO ?_;intro aLf w2 ho3 hb;have awN:=ak (Kd.aG ho3 (aj (ul HB.out)));replace HB:=bs HB hb;clear hb ho3)
 go_loopg [4,5] k (fun kq v4 v5 w'=>∃(eU:List ByteArray) (eY:Int),v5= .int .i64 eY∧ah (fH.l0 kq a0 eU eY=some (r1,r2))∧ah (kq≤k)∧ah (Kd.R Kd.string 9 w' w.heap.size (fun _=>True) v4 eU)∧ah (Below w.heap.size w w'))
 case atStart=>exact⟨_,_,rs,H',⟨Nat.le_refl _⟩,⟨ur awN.out⟩,⟨ul HB.out⟩⟩
 case round=>
  clear H';obtain⟨eU,eY,rfl,HA,yH,je,HB⟩:=hrel
  cases gk with
  |zero=>exact zz HA.out
  |succ k1=>
   obtain⟨H⟩:=HA;simp only[fH.l0]at H;replace H:=sd H;rcases H with⟨qW,H⟩|⟨qW,H⟩
   ·replace H:=oG H;obtain⟨nT,H⟩:=H;replace H:=sq H;rcases H with⟨tJ,PZ,H⟩|⟨c7,tJ,PZ,H⟩
    ·have H':=ak H;clear H;obtain⟨p6,q6,hx6⟩:=bx a0 eY;go_wp2;go_roundg k1
     case measure=>exact kl
     case rel=>exact⟨_,_,rs,H',⟨kl⟩,⟨ur je.out⟩,⟨ul HB.out⟩⟩
    ·replace H:=sq H;rcases H with⟨A_,I4,H⟩|⟨c9,A_,I4,H⟩
     ·replace H:=bd H;obtain⟨⟨awO,agT⟩,A10,H⟩:=H
      (try dsimp only at H);replace H:=sd H;rcases H with⟨vk,H⟩|⟨vk,H⟩
      ·obtain⟨aLg,aoP⟩:=nm ([]:List ByteArray);rw[←aoP.out]at H;obtain⟨rfl,rfl⟩:=s2 H;obtain⟨p6,q6,hx6⟩:=bx a0 eY;obtain⟨p8,q8,hx8⟩:=bx a0 eY;go_wp2_with (first|(refine gA Tryz.func198 (gI.calls A10.out) ?_;intro nd)|(refine gG 32 ?_;refine II 32 Kd.string 9 aoP ?_;intro aLh w12 Yv hb;have awP:=ak (Kd.aG (Kd.fE Yv (Kd.jP (ur je.out))) (aj (ul HB.out)));replace je:=ak (Kd.eu (ur je.out) (Kd.b_ Yv) hb);replace HB:=bs HB hb;clear hb Yv))
       go_ret2;exact⟨_,er,ur (Kd.aX awP.out (fun _ hk=>trivial)),ul HB.out⟩
      ·replace H:=sq H;rcases H with⟨vw,zZ,H⟩|⟨c14,vw,zZ,H⟩
       ·obtain⟨aLi,aoQ⟩:=nm ([]:List ByteArray);rw[←aoQ.out]at H;obtain⟨rfl,rfl⟩:=s2 H;obtain⟨p6,q6,hx6⟩:=bx a0 eY;obtain⟨p8,q8,hx8⟩:=bx a0 eY;go_wp2_with (first|(refine gA Tryz.func198 (gI.calls A10.out) ?_;intro nd)|(refine gG 64 ?_;refine II 64 Kd.string 9 aoQ ?_;intro aLj w15 asb hb;have awQ:=ak (Kd.aG (Kd.fE asb (Kd.jP (ur je.out))) (aj (ul HB.out)));replace je:=ak (Kd.eu (ur je.out) (Kd.b_ asb) hb);replace HB:=bs HB hb;clear hb asb))
        go_ret2;exact⟨_,er,ur (Kd.aX awQ.out (fun _ hk=>trivial)),ul HB.out⟩
       ·replace H:=sd H;rcases H with⟨u_,H⟩|⟨u_,H⟩
        ·replace H:=oG H;obtain⟨CQ,H⟩:=H;replace H:=sq H;rcases H with⟨Rf,aar,H⟩|⟨c20,Rf,aar,H⟩
         ·replace H:=nl H;obtain⟨aai,H⟩:=H;obtain⟨aLk,aoR⟩:=nm (eU++[awO]);rw[←aoR.out]at H;have H':=ak H;clear H;obtain⟨p6,q6,hx6⟩:=bx a0 eY;obtain⟨p8,q8,hx8⟩:=bx a0 eY;go_wp2_with (first|(refine gA Tryz.func198 (gI.calls A10.out) ?_;intro nd;have p19:0≤(agT:Int):=of_decide_eq_true (by assumption);have q19:agT<(a0.size:Int):=of_decide_eq_true (by assumption);have aEC:=yt a0 agT;replace p19:=eq_true p19;replace q19:=eq_true q19)|((with_reducible refine dR (b:= .append) (xs:=#[.tmp 65, .tmp 67]) rfl ?_);(try(refine l9 (by rfl) ?_;dsimp only));at_builtin;refine aP 65 67 Kd.string 23 9 (.string ⟨#[]⟩) 16 Tryz.underlying23 info9 HB (ur je.out) aoR (by have:=aai.out;omega) ?_;intro aLl w22 ho hb hg hat;have awR:=ak (ho);replace HB:=ak (hb);clear ho hb hg hat je))
          go_roundg k1
          case measure=>exact kl
          case rel=>exact⟨_,_,rs,H',⟨kl⟩,⟨ur awR.out⟩,⟨ul HB.out⟩⟩
         ·obtain⟨aLm,aoS⟩:=nm ([]:List ByteArray);rw[←aoS.out]at H;obtain⟨rfl,rfl⟩:=s2 H;obtain⟨p6,q6,hx6⟩:=bx a0 eY;obtain⟨p8,q8,hx8⟩:=bx a0 eY;go_wp2_with (first|(refine gA Tryz.func198 (gI.calls A10.out) ?_;intro nd;have p19:0≤(agT:Int):=of_decide_eq_true (by assumption);have q19:agT<(a0.size:Int):=of_decide_eq_true (by assumption);have aEC:=yt a0 agT;replace p19:=eq_true p19;replace q19:=eq_true q19)|(refine gG 64 ?_;refine II 64 Kd.string 9 aoS ?_;intro aLn w23 P6 hb;have awS:=ak (Kd.aG (Kd.fE P6 (Kd.jP (ur je.out))) (aj (ul HB.out)));replace je:=ak (Kd.eu (ur je.out) (Kd.b_ P6) hb);replace HB:=bs HB hb;clear hb P6))
          go_ret2;exact⟨_,er,ur (Kd.aX awS.out (fun _ hk=>trivial)),ul HB.out⟩
        ·replace H:=nl H;obtain⟨TT,H⟩:=H;obtain⟨aLo,aoT⟩:=nm (eU++[awO]);rw[←aoT.out]at H;have H':=ak H;clear H;obtain⟨p6,q6,hx6⟩:=bx a0 eY;obtain⟨p8,q8,hx8⟩:=bx a0 eY;go_wp2_with (first|(refine gA Tryz.func198 (gI.calls A10.out) ?_;intro nd)|((with_reducible refine dR (b:= .append) (xs:=#[.tmp 65, .tmp 67]) rfl ?_);(try(refine l9 (by rfl) ?_;dsimp only));at_builtin;refine aP 65 67 Kd.string 23 9 (.string ⟨#[]⟩) 16 Tryz.underlying23 info9 HB (ur je.out) aoT (by have:=TT.out;omega) ?_;intro aLp w26 ho hb hg hat;have awT:=ak (ho);replace HB:=ak (hb);clear ho hb hg hat je))
         go_roundg k1
         case measure=>exact kl
         case rel=>exact⟨_,_,rs,H',⟨kl⟩,⟨ur awT.out⟩,⟨ul HB.out⟩⟩
     ·have H':=ak H;clear H;obtain⟨p6,q6,hx6⟩:=bx a0 eY;obtain⟨p8,q8,hx8⟩:=bx a0 eY;go_wp2;go_loopg [5] k1 (fun kq v5 w'=>∃(uX:Int),v5= .int .i64 uX∧ah (fH.l1 kq a0 eU uX eY=some (r1,r2))∧ah (kq≤k1)∧ah (Kd.R Kd.string 9 w' w.heap.size (fun _=>True) u4 eU)∧ah (Below w.heap.size w w'))
      case atStart=>exact⟨_,rs,H',⟨Nat.le_refl _⟩,⟨ur je.out⟩,⟨ul HB.out⟩⟩
      case round=>
       clear H';try clear qW
       try clear nT
       try clear p6
       try clear q6
       try clear hx6
       try clear c7
       try clear tJ
       try clear PZ
       try clear p8
       try clear q8
       try clear hx8
       try clear c9
       try clear A_
       try clear I4
       try clear p6
       try clear p8
       try clear q6
       try clear q8
       obtain⟨uX,rfl,HA,HK2,je,HB⟩:=hrel
       cases gk with
       |zero=>exact zz HA.out
       |succ k2=>
        obtain⟨H⟩:=HA;simp only[fH.l1]at H;replace H:=sd H;rcases H with⟨IU,H⟩|⟨IU,H⟩
        ·replace H:=oG H;obtain⟨IV,H⟩:=H;replace H:=bd H;obtain⟨awM,A30,H⟩:=H;replace H:=sb H;rcases H with⟨rfl,H⟩|⟨rfl,H⟩
         ·have H':=ak H;clear H;obtain⟨p29,q29,hx29⟩:=bx a0 uX;go_wp2_with (go_at_call 199;refine mA (jF.calls A30.out) ?_;intro nd)
          go_roundg k2
          case measure=>exact kl
          case rel=>exact⟨_,rs,H',⟨kl⟩,⟨ur je.out⟩,⟨ul HB.out⟩⟩
         ·replace H:=Dc H;obtain⟨aax,ai6,H⟩:=H;replace H:=Dc H;obtain⟨WE,ai7,H⟩:=H;replace H:=Dc H;obtain⟨aay,aaz,H⟩:=H;replace H:=sq H;rcases H with⟨ai8,aoU,H⟩|⟨c35,ai8,aoU,H⟩
          ·obtain⟨aLq,aoV⟩:=nm ([]:List ByteArray);rw[←aoV.out]at H;obtain⟨rfl,rfl⟩:=s2 H;obtain⟨p29,q29,hx29⟩:=bx a0 uX;go_wp2_with (first|(go_at_call 199;refine mA (jF.calls A30.out) ?_;intro nd)|(refine gG 64 ?_;refine II 64 Kd.string 9 aoV ?_;intro aLr w36 asc hb;have awU:=ak (Kd.aG (Kd.fE asc (Kd.jP (ur je.out))) (aj (ul HB.out)));replace je:=ak (Kd.eu (ur je.out) (Kd.b_ asc) hb);replace HB:=bs HB hb;clear hb asc))
           go_ret2;exact⟨_,er,ur (Kd.aX awU.out (fun _ hk=>trivial)),ul HB.out⟩
          ·replace H:=sq H;rcases H with⟨awV,awW,H⟩|⟨c39,awV,awW,H⟩
           ·replace H:=nl H;obtain⟨aaA,H⟩:=H;obtain⟨aLs,aoW⟩:=nm (eU++[a0.extract (eY:Int).toNat (uX:Int).toNat]);rw[←aoW.out]at H;have H':=ak H;clear H;obtain⟨p29,q29,hx29⟩:=bx a0 uX;go_wp2_with (first|(go_at_call 199;refine mA (jF.calls A30.out) ?_;intro nd;have p38:0≤(uX:Int):=of_decide_eq_true (by assumption);have q38:uX<(a0.size:Int):=of_decide_eq_true (by assumption);have hx38:=yt a0 uX;replace p38:=eq_true p38;replace q38:=eq_true q38)|((with_reducible refine dR (b:= .append) (xs:=#[.tmp 65, .tmp 67]) rfl ?_);(try(refine l9 (by rfl) ?_;dsimp only));at_builtin;refine aP 65 67 Kd.string 23 9 (.string ⟨#[]⟩) 16 Tryz.underlying23 info9 HB (ur je.out) aoW (by have:=aaA.out;omega) ?_;intro aLt w41 ho hb hg hat;have awX:=ak (ho);replace HB:=ak (hb);clear ho hb hg hat je))
            go_roundg k2
            case measure=>exact kl
            case rel=>exact⟨_,_,rs,H',⟨kl⟩,⟨ur awX.out⟩,⟨ul HB.out⟩⟩
           ·obtain⟨aLu,aoX⟩:=nm ([]:List ByteArray);rw[←aoX.out]at H;obtain⟨rfl,rfl⟩:=s2 H;obtain⟨p29,q29,hx29⟩:=bx a0 uX;go_wp2_with (first|(go_at_call 199;refine mA (jF.calls A30.out) ?_;intro nd;have p38:0≤(uX:Int):=of_decide_eq_true (by assumption);have q38:uX<(a0.size:Int):=of_decide_eq_true (by assumption);have hx38:=yt a0 uX;replace p38:=eq_true p38;replace q38:=eq_true q38)|(refine gG 64 ?_;refine II 64 Kd.string 9 aoX ?_;intro aLv w42 VO hb;have awY:=ak (Kd.aG (Kd.fE VO (Kd.jP (ur je.out))) (aj (ul HB.out)));replace je:=ak (Kd.eu (ur je.out) (Kd.b_ VO) hb);replace HB:=bs HB hb;clear hb VO))
            go_ret2;exact⟨_,er,ur (Kd.aX awY.out (fun _ hk=>trivial)),ul HB.out⟩
        ·replace H:=Dc H;obtain⟨aHE,aHF,H⟩:=H;replace H:=Dc H;obtain⟨aHG,aHH,H⟩:=H;replace H:=Dc H;obtain⟨aHI,aHJ,H⟩:=H;replace H:=sq H;rcases H with⟨awZ,aw0,H⟩|⟨c47,awZ,aw0,H⟩
         ·obtain⟨aLw,aoY⟩:=nm ([]:List ByteArray);rw[←aoY.out]at H;obtain⟨rfl,rfl⟩:=s2 H;go_wp2_with (refine gG 64 ?_;refine II 64 Kd.string 9 aoY ?_;intro aLx w48 ase hb;have aw1:=ak (Kd.aG (Kd.fE ase (Kd.jP (ur je.out))) (aj (ul HB.out)));replace je:=ak (Kd.eu (ur je.out) (Kd.b_ ase) hb);replace HB:=bs HB hb;clear hb ase)
          go_ret2;exact⟨_,er,ur (Kd.aX aw1.out (fun _ hk=>trivial)),ul HB.out⟩
         ·replace H:=nl H;obtain⟨aw2,H⟩:=H;obtain⟨aLy,aoZ⟩:=nm (eU++[a0.extract (eY:Int).toNat (uX:Int).toNat]);rw[←aoZ.out]at H;have H':=ak H;clear H;go_wp2_with ((with_reducible refine dR (b:= .append) (xs:=#[.tmp 65, .tmp 67]) rfl ?_);(try(refine l9 (by rfl) ?_;dsimp only));at_builtin;refine aP 65 67 Kd.string 23 9 (.string ⟨#[]⟩) 16 Tryz.underlying23 info9 HB (ur je.out) aoZ (by have:=aw2.out;omega) ?_;intro aLz w51 ho hb hg hat;have aw3:=ak (ho);replace HB:=ak (hb);clear ho hb hg hat je)
          go_roundg k2
          case measure=>exact kl
          case rel=>exact⟨_,_,rs,H',⟨kl⟩,⟨ur aw3.out⟩,⟨ul HB.out⟩⟩
   ·obtain⟨rfl,rfl⟩:=s2 H;go_wp2;go_ret2;exact⟨_,er,ur je.out,ul HB.out⟩
def kV.f (k:Nat) (a0:ByteArray):Option (Bool):=(bT.f k a0).bind fun aw4=>(if aw4=true then((iP.f a0).bind fun aw5=>(some (aw5.toList==a0.toList)))else(some false))
theorem kV.calls {k:Nat} {a0:ByteArray} {r:Bool} {w:World} (h:kV.f k a0=some r):
  Calls Tryz.prog 200 #[.string a0] w fun e w'=>e= .returned (.bool r)∧Below w.heap.size w w':=by
 have HB:=ak (Below.refl w.heap.size w);unfold kV.f at h;have H:=h;clear h;replace H:=bd H;obtain⟨aw4,A2,H⟩:=H;replace H:=sb H;rcases H with⟨rfl,H⟩|⟨rfl,H⟩
 ·replace H:=bd H;obtain⟨aw5,A4,H⟩:=H;obtain rfl:=s1 H;go_enter Tryz.func200,Tryz.ntmps200;go_wp2_with (first|(refine gA Tryz.func184 (bT.calls A2.out) ?_;intro nd)|(go_at_call 180;refine mB (iP.calls A4.out) ?_;intro w5 hb;replace HB:=bs HB hb;clear hb))
  go_ret;exact⟨er,ul HB.out⟩
 ·obtain rfl:=s1 H;go_enter Tryz.func200,Tryz.ntmps200;go_wp2_with (refine gA Tryz.func184 (bT.calls A2.out) ?_;intro nd)
  go_ret;exact⟨er,ul HB.out⟩
def tK.f (k:Nat) (a0:ByteArray):Option (Bool):=(aQ.f k a0).bind fun aw6=>(if aw6=true then(some (decide ((a0.size:Int)≤40)))else(some false))
theorem tK.calls {k:Nat} {a0:ByteArray} {r:Bool} {w:World} (h:tK.f k a0=some r):
  Calls Tryz.prog 201 #[.string a0] w fun e w'=>e= .returned (.bool r)∧dN w w':=by
 unfold tK.f at h;have H:=h;clear h;replace H:=bd H;obtain⟨aw6,A2,H⟩:=H;replace H:=sb H;rcases H with⟨rfl,H⟩|⟨rfl,H⟩
 ·obtain rfl:=s1 H;go_enter Tryz.func201,Tryz.ntmps201;go_wp2_with (refine gA Tryz.func159 (aQ.calls A2.out) ?_;intro nd)
  go_ret;exact⟨rs,dn⟩
 ·obtain rfl:=s1 H;go_enter Tryz.func201,Tryz.ntmps201;go_wp2_with (refine gA Tryz.func159 (aQ.calls A2.out) ?_;intro nd)
  go_ret;exact⟨rs,dn⟩
mutual
def eF.l0:Nat→ByteArray→Int→Option (Bool)
 |0,_,_=>none
 |k+1,x0,x3=>if x3<(x0.size:Int)then(eF.j1 k x0 x3 (decide (x3≤40)))else(eF.j1 k x0 x3 false)
def eF.j1:Nat→ByteArray→Int→Bool→Option (Bool)
 |0,_,_,_=>none
 |k+1,x0,x3,x11=>if x11=true then(if 0≤x3 then(if x3<(x0.size:Int)then((jF.f k (bt x0 x3)).bind fun aw7=>(if aw7=true then(eF.l0 k x0 (wrap64 (x3+1)))else(some false)))else(none))else(none))else(if(x0.size:Int)≥1 then(some (decide ((x0.size:Int)≤40)))else(some false))
end
def eF.f (k:Nat) (a0:ByteArray):Option (Bool):=eF.l0 k a0 0
theorem eF.calls {k:Nat} {a0:ByteArray} {r:Bool} {w:World} (h:eF.f k a0=some r):
  Calls Tryz.prog 214 #[.string a0] w fun e w'=>e= .returned (.bool r)∧dN w w':=by
 unfold eF.f at h;have H:=h;clear h;have H':=ak H;clear H;go_enter Tryz.func214,Tryz.ntmps214;go_wp2;go_loopg [3] k (fun kq v3 w'=>∃(dX:Int),v3= .int .i64 dX∧ah (eF.l0 kq a0 dX=some r)∧ah (kq≤k)∧dN w w')
 case atStart=>exact⟨_,rs,H',⟨Nat.le_refl _⟩,dn⟩
 case round=>
  clear H';obtain⟨dX,rfl,HA,yH,⟨m1,rfl⟩⟩:=hrel
  cases gk with
  |zero=>exact zz HA.out
  |succ k1=>
   obtain⟨H⟩:=HA;simp only[eF.l0]at H;have HC2:=ak H;clear H;go_upto_region 2 with(fail)
   go_cut [11] (fun v11 wc=>∃(kq:Nat) (xG:Bool),v11= .bool xG∧ah (eF.j1 kq a0 dX xG=some r)∧ah (kq≤k1)∧dN w wc)
   case first=>
    have H:=HC2.out;clear HC2;replace H:=sd H;rcases H with⟨iT,H⟩|⟨iT,H⟩
    ·(first|rw[iT]|(simp only[jk,kU];rw[iT])|skip);have H':=ak H;clear H;go_wp2;go_meet
     case rel=>exact⟨_,_,rs,H',⟨kl⟩,dn⟩
    ·(first|rw[iT]|(simp only[jk,kU];rw[iT])|skip);have H':=ak H;clear H;go_wp2;go_meet
     case rel=>exact⟨_,_,rs,H',⟨kl⟩,dn⟩
   case rest=>
    clear HC2;obtain⟨kq,xG,rfl,HA,HJ1,⟨mc1,rfl⟩⟩:=hcut
    cases kq with
    |zero=>exact zz HA.out
    |succ RU=>
     obtain⟨H⟩:=HA;simp only[eF.j1]at H;replace H:=sb H;rcases H with⟨rfl,H⟩|⟨rfl,H⟩
     ·replace H:=oG H;obtain⟨nT,H⟩:=H;replace H:=oG H;obtain⟨oV,H⟩:=H;replace H:=bd H;obtain⟨aw7,A8,H⟩:=H;replace H:=sb H;rcases H with⟨rfl,H⟩|⟨rfl,H⟩
      ·have H':=ak H;clear H;obtain⟨p7,q7,hx7⟩:=bx a0 dX;go_wp2_with (refine gA Tryz.func199 (jF.calls A8.out) ?_;intro nd)
       go_roundg RU
       case measure=>exact kl
       case rel=>exact⟨_,rs,H',⟨kl⟩,dn⟩
      ·obtain rfl:=s1 H;obtain⟨p7,q7,hx7⟩:=bx a0 dX;go_wp2_with (refine gA Tryz.func199 (jF.calls A8.out) ?_;intro nd)
       go_ret;exact⟨rs,dn⟩
     ·replace H:=sp H;rcases H with⟨c10,H⟩|⟨c10,H⟩
      ·have oD:decide (1≤(a0.size:Int))=true:=decide_eq_true c10;have uN:decide (1≤a0.size)=true:=decide_eq_true (by omega);clear c10;obtain rfl:=s1 H;go_wp2;go_ret;exact⟨rs,dn⟩
      ·have oD:decide (1≤(a0.size:Int))=false:=decide_eq_false c10;have uN:decide (1≤a0.size)=false:=decide_eq_false (by omega);clear c10;obtain rfl:=s1 H;go_wp2;go_ret;exact⟨rs,dn⟩
end Go.Proofs.YtncdadcmghglkaaGreatDoor.PFnPathEmpty
