/- Printed walks; conditions: those in each statement. -/
import Derived.Test.YtdimppdlfgnhgaaGreatDoorVFnExactPartAtQt
import Derived.Test.YtdimppdlfgnhgaaGreatDoorVFnExactPartAtYt
import Derived.Test.YtdimppdlfgnhgaaGreatDoorPFnExactPartAtx0
import Derived.Test.YtdimppdlfgnhgaaGreatDoorPFnExactPartAtx1
namespace Go.Proofs.YtdimppdlfgnhgaaGreatDoor.PFnExactPartAt
open Go.Proofs.YtdimppdlfgnhgaaGreatDoorW.fD.Kd Go.Proofs.YtdimppdlfgnhgaaGreatDoorW.qy.Kd Go.Proofs.Tryz Go.RowKit Go.Proofs.YtdimppdlfgnhgaaGreatDoor.X Go.Proofs.YtdimppdlfgnhgaaGreatDoorW.fD Go.Proofs.YtdimppdlfgnhgaaGreatDoorW.mZ Go.Proofs.YtdimppdlfgnhgaaGreatDoorW.qy
attribute [local go_sem] BD BF F7 F8 yI yJ BG BH   -- for this text's walks alone
set_option linter.unusedVariables false
set_option linter.unusedSimpArgs false
set_option maxHeartbeats 8000000
set_option maxRecDepth 100000
mutual
def dL.j1:Nat→ByteArray→Option (ByteArray)
 |0,_=>none
 |k+1,x0=>dL.l1 k x0
def dL.l1:Nat→ByteArray→Option (ByteArray)
 |0,_=>none
 |k+1,x0=>if(x0.size:Int)>0 then(if 0≤(wrap64 ((x0.size:Int)-1))then(if(wrap64 ((x0.size:Int)-1))<(x0.size:Int)then(if(bt x0 (wrap64 ((x0.size:Int)-1)))=32 then(if(wrap64 ((x0.size:Int)-1))≤(x0.size:Int)then(dL.l1 k (x0.extract 0 ((wrap64 ((x0.size:Int)-1)):Int).toNat))else(none))else(some x0))else(none))else(none))else(some x0)
def dL.l0:Nat→ByteArray→Option (ByteArray)
 |0,_=>none
 |k+1,x0=>if(x0.size:Int)>0 then(if 0<(x0.size:Int)then(if(bt x0 0)=32 then(if 1≤(x0.size:Int)then(dL.l0 k (x0.extract 1 x0.size))else(none))else(dL.j1 k x0))else(none))else(dL.j1 k x0)
end
def dL.f(k:Nat)(a0:ByteArray):Option (ByteArray):=dL.l0 k a0
set_option maxHeartbeats 8000000 in
set_option maxRecDepth 100000 in
theorem dL.calls(k:Nat)(a0:ByteArray)(r:ByteArray)(w:World)(h:dL.f k a0=some r):
  Calls Tryz.prog 113 #[.string a0] w fun e w'=>e= .returned (.string r)∧fK w w':=by
 have H:(dL.l0 k a0)=some r:=h;clear h;have HC2:=ak H;clear H;go_enter func113,ntmps113;go_upto_block 0 with(fail)
 go_cut [0] (fun v0 wc=>∃(kq:Nat) (jE:ByteArray),v0= .string jE∧ah (dL.j1 kq jE=some r)∧ah (kq≤k)∧fK w wc)
 case first=>
  have H:=HC2.out;clear HC2;have H':=ak H;clear H;go_wp2;go_loopg [0] k (fun kq v0 w'=>∃(jE:ByteArray),v0= .string jE∧ah (dL.l0 kq jE=some r)∧ah (kq≤k)∧fK w w')
  case atStart=>exact⟨(a0),rs,H',⟨Nat.le_refl _⟩,dn⟩
  case round=>
   clear H';try clear c1
   try clear p2
   obtain⟨jE,rfl,HA,jv,⟨m1,rfl⟩⟩:=hrel
   cases gk with
   |zero=>exact absurd HA.out (by simp[dL.l0])
   |succ k1=>
    have H:=HA.out;clear HA;simp only[dL.l0]at H;replace H:=sp H;rcases H with⟨c3,H⟩|⟨c3,H⟩
    ·have gQ:decide (0<(jE.size:Int))=true:=decide_eq_true c3;have rC:decide (0<jE.size)=true:=decide_eq_true (by omega);clear c3
     (first|rw[gQ]|(simp only[bJ,b_];rw[gQ])|skip);replace H:=nn H;obtain⟨c4,H⟩:=H;have oM:=decide_eq_true c4;have WV:decide (0<jE.size)=true:=decide_eq_true (by omega);clear c4;replace H:=sq H;rcases H with⟨oC,AB,H⟩|⟨c6,oC,AB,H⟩
     ·replace H:=I4 H;obtain⟨rU,NZ,H⟩:=H;have H':=ak H;clear H;have p5:0≤(0:Int):=(by omega)
      have q5:0<jE.size:=(by have:(0:Int)<(jE.size:Int):=of_decide_eq_true (by assumption);omega)
      have hx5:∀h:0<jE.size,((jE[0]'h).toNat:Int)=bt jE 0:=xI jE 0;clear p5;have qi5:(0<(jE.size:Int))=True:=eq_true (of_decide_eq_true (by assumption));replace q5:=eq_true q5;go_wp2;go_roundg k1
      case measure=>have:=jv.out;omega
      case rel=>exact⟨(jE.extract 1 jE.size),rs,H',⟨by have:=jv.out;omega⟩,dn⟩
     ·have H':=ak H;clear H;have p5:0≤(0:Int):=(by omega)
      have q5:0<jE.size:=(by have:(0:Int)<(jE.size:Int):=of_decide_eq_true (by assumption);omega)
      have hx5:∀h:0<jE.size,((jE[0]'h).toNat:Int)=bt jE 0:=xI jE 0;clear p5;have qi5:(0<(jE.size:Int))=True:=eq_true (of_decide_eq_true (by assumption));replace q5:=eq_true q5;go_wp2;go_meet
      case rel=>exact⟨_,(jE),rs,H',⟨by have:=jv.out;first|omega|exact Nat.le_refl _⟩,dn⟩
    ·have gQ:decide (0<(jE.size:Int))=false:=decide_eq_false c3;have rC:decide (0<jE.size)=false:=decide_eq_false (by omega);clear c3
     (first|rw[gQ]|(simp only[bJ,b_];rw[gQ])|skip);have H':=ak H;clear H;go_wp2;go_meet
     case rel=>exact⟨_,(jE),rs,H',⟨by have:=jv.out;first|omega|exact Nat.le_refl _⟩,dn⟩
 case rest=>
  clear HC2;try clear c1
  try clear p2
  try clear c3
  try clear gQ
  try clear rC
  try clear c4
  try clear oM
  try clear WV
  try clear p5
  try clear q5
  try clear hx5
  try clear qi5
  try clear c6
  try clear oC
  try clear AB
  try clear c7
  try clear rU
  try clear NZ
  try clear p2
  try clear p5
  try clear q5
  obtain⟨kq,jE,rfl,HA,FY,⟨mc1,rfl⟩⟩:=hcut
  cases kq with
  |zero=>exact absurd HA.out (by simp[dL.j1])
  |succ Mc=>
   have H:=HA.out;clear HA;simp only[dL.j1]at H;have H':=ak H;clear H;go_wp2;go_loopg [0] Mc (fun kq v0 w'=>∃(KO:ByteArray),v0= .string KO∧ah (dL.l1 kq KO=some r)∧ah (kq≤Mc)∧fK w w')
   case atStart=>exact⟨(jE),rs,H',⟨Nat.le_refl _⟩,dn⟩
   case round=>
    clear H';try clear c1
    try clear p2
    try clear c3
    try clear gQ
    try clear rC
    try clear c4
    try clear oM
    try clear WV
    try clear p5
    try clear q5
    try clear hx5
    try clear qi5
    try clear c6
    try clear oC
    try clear AB
    try clear c7
    try clear rU
    try clear NZ
    try clear p2
    try clear p5
    try clear q5
    obtain⟨KO,rfl,HA,HK2,⟨m2,rfl⟩⟩:=hrel
    cases gk with
    |zero=>exact absurd HA.out (by simp[dL.l1])
    |succ k2=>
     have H:=HA.out;clear HA;simp only[dL.l1]at H;replace H:=sp H;rcases H with⟨c8,H⟩|⟨c8,H⟩
     ·have yY:decide (0<(KO.size:Int))=true:=decide_eq_true c8;have U8:decide (0<KO.size)=true:=decide_eq_true (by omega);clear c8;obtain⟨ji9,abr⟩:∃j_:Int,(wrap64 ((KO.size:Int)-1))=j_:=⟨_,rfl⟩
      replace H:(if 0≤(ji9)then(if(ji9)<(KO.size:Int)then(if(bt KO (ji9))=32 then(if(ji9)≤(KO.size:Int)then(dL.l1 k2 (KO.extract 0 ((ji9):Int).toNat))else(none))else(some KO))else(none))else(none))=some r:=by first|(rw[abr]at H;exact H)|(simp only[abr]at H⊢;exact H)
      have az3:(IntKind.i64.wrap ((KO.size:Int)-1))=ji9:=(bJ _).trans abr;replace H:=oW H;obtain⟨rP,H⟩:=H;replace H:=oW H;obtain⟨CJ,H⟩:=H;replace H:=sq H;rcases H with⟨xU,Gh,H⟩|⟨c13,xU,Gh,H⟩
      ·have Ap:=eq_true (of_decide_eq_true (by assumption):0≤(ji9));replace H:=I4 H;obtain⟨BN,Zr,H⟩:=H;have H':=ak H;clear H;obtain⟨p12,q12,apE⟩:=bx KO (ji9);go_wp2;go_roundg k2
       case measure=>have:=FY.out;have:=HK2.out;omega
       case rel=>exact⟨(KO.extract 0 ((ji9):Int).toNat),(by first|rfl|(simp;done)|(simp only[←abr]<;>(first|rfl|simp))|(simp[*];done)),H',⟨by have:=FY.out;have:=HK2.out;omega⟩,dn⟩
      ·obtain rfl:=Option.some.inj H;obtain⟨p12,q12,apE⟩:=bx KO (ji9);go_wp2;go_ret;exact⟨by first|rfl|(simp;done)|(simp only[←abr]<;>(first|rfl|simp))|(simp[*];done),dn⟩
     ·have yY:decide (0<(KO.size:Int))=false:=decide_eq_false c8;have U8:decide (0<KO.size)=false:=decide_eq_false (by omega);clear c8;obtain rfl:=Option.some.inj H;go_wp2;go_ret;exact⟨rs,dn⟩
def iy.l0:Nat→ByteArray→ByteArray→Int→Option (ByteArray×Int)
 |0,_,_,_=>none
 |k+1,x0,x6,x7=>if x7<(x0.size:Int)then(if 0≤x7 then(if(bt x0 x7)=34 then(some (x6,wrap64 (x7+1)))else(if(bt x0 x7)=92 then(if(wrap64 (x7+1))=(x0.size:Int)then(some ((⟨#[]⟩:ByteArray),(-1)))else(if 0≤(wrap64 (x7+1))then(if(wrap64 (x7+1))≤(wrap64 ((wrap64 (x7+1))+1))then(if(wrap64 ((wrap64 (x7+1))+1))≤(x0.size:Int)then(if x6.size+(x0.extract ((wrap64 (x7+1)):Int).toNat ((wrap64 ((wrap64 (x7+1))+1)):Int).toNat).size≤9223372036854775807 then(iy.l0 k x0 (x6++(x0.extract ((wrap64 (x7+1)):Int).toNat ((wrap64 ((wrap64 (x7+1))+1)):Int).toNat)) (wrap64 ((wrap64 (x7+1))+1)))else(none))else(none))else(none))else(none)))else(if x7≤(wrap64 (x7+1))then(if(wrap64 (x7+1))≤(x0.size:Int)then(if x6.size+(x0.extract (x7:Int).toNat ((wrap64 (x7+1)):Int).toNat).size≤9223372036854775807 then(iy.l0 k x0 (x6++(x0.extract (x7:Int).toNat ((wrap64 (x7+1)):Int).toNat)) (wrap64 (x7+1)))else(none))else(none))else(none))))else(none))else(some ((⟨#[]⟩:ByteArray),(-1)))
def iy.f(k:Nat)(a0:ByteArray)(a1:Int):Option (ByteArray×Int):=iy.l0 k a0 (⟨#[]⟩:ByteArray) (wrap64 (a1+1))
set_option maxHeartbeats 8000000 in
set_option maxRecDepth 100000 in
theorem iy.calls(k:Nat)(a0:ByteArray)(a1:Int)(r1:ByteArray)(r2:Int)(w:World)(h:iy.f k a0 a1=some (r1,r2)):
  Calls Tryz.prog 137 #[.string a0, .int .i64 a1] w fun e w'=>e= .returned (.tuple #[.string r1, .int .i64 r2])∧fK w w':=by
 have H:(iy.l0 k a0 (⟨#[]⟩:ByteArray) (wrap64 (a1+1)))=some (r1,r2):=h;clear h;have H':=ak H;clear H;go_enter func137,ntmps137;go_wp2;go_loopg [6,7] k (fun kq v6 v7 w'=>∃(gX:ByteArray) (rJ:Int),v6= .string gX∧v7= .int .i64 rJ∧ah (iy.l0 kq a0 gX rJ=some (r1,r2))∧ah (kq≤k)∧fK w w')
 case atStart=>exact⟨((⟨#[]⟩:ByteArray)),(wrap64 (a1+1)),rs,rs,H',⟨Nat.le_refl _⟩,dn⟩
 case round=>
  clear H';try clear c1
  try clear p2
  obtain⟨gX,rJ,rfl,rfl,HA,jv,⟨m1,rfl⟩⟩:=hrel
  cases gk with
  |zero=>exact absurd HA.out (by simp[iy.l0])
  |succ k1=>
   have H:=HA.out;clear HA;simp only[iy.l0]at H;replace H:=sd H;rcases H with⟨gQ,H⟩|⟨gQ,H⟩
   ·replace H:=oW H;obtain⟨oM,H⟩:=H;replace H:=sq H;rcases H with⟨oC,AB,H⟩|⟨c6,oC,AB,H⟩
    ·simp only[Option.some.injEq,Prod.mk.injEq]at H;obtain⟨rfl,rfl⟩:=H;obtain⟨p5,q5,hx5⟩:=bx a0 rJ;go_wp2;go_ret2;exact⟨rs,dn⟩
    ·replace H:=sq H;rcases H with⟨yY,U8,H⟩|⟨c8,yY,U8,H⟩
     ·replace H:=sq H;rcases H with⟨y5,S_,H⟩|⟨c9,y5,S_,H⟩
      ·simp only[Option.some.injEq,Prod.mk.injEq]at H;obtain⟨rfl,rfl⟩:=H;obtain⟨p5,q5,hx5⟩:=bx a0 rJ;obtain⟨p7,q7,hx7⟩:=bx a0 rJ;go_wp2;go_ret2;exact⟨rs,dn⟩
      ·obtain⟨KP,Xr⟩:∃j_:Int,(wrap64 (rJ+1))=j_:=⟨_,rfl⟩
       replace H:(if 0≤(KP)then(if(KP)≤(wrap64 ((KP)+1))then(if(wrap64 ((KP)+1))≤(a0.size:Int)then(if gX.size+(a0.extract ((KP):Int).toNat ((wrap64 ((KP)+1)):Int).toNat).size≤9223372036854775807 then(iy.l0 k1 a0 (gX++(a0.extract ((KP):Int).toNat ((wrap64 ((KP)+1)):Int).toNat)) (wrap64 ((KP)+1)))else(none))else(none))else(none))else(none))=some (r1,r2):=by first|(rw[Xr]at H;exact H)|(simp only[Xr]at H⊢;exact H)
       (try rw[Xr]at y5)
       (try rw[Xr]at S_);have aGf:(IntKind.i64.wrap (rJ+1))=KP:=(bJ _).trans Xr;replace H:=I4 H;obtain⟨CJ,Zp,H⟩:=H;replace H:=nn H;obtain⟨c12,H⟩:=H;have yL:=eq_true c12;have Ky:=decide_eq_true c12;replace H:=nn H;obtain⟨c13,H⟩:=H;have xU:=eq_true c13;have Gh:=decide_eq_true c13;replace H:=nn H;obtain⟨c14,H⟩:=H;have Ap:=eq_true c14;have JM:=decide_eq_true c14;try have aIW:(9223372036854775807<gX.size+((a0.extract ((KP):Int).toNat ((wrap64 ((KP)+1)):Int).toNat).size))=False:=by have h_:=c14;simp only[ByteArray.size_append,ByteArray.size_extract]at h_;refine eq_false ?_;simp only[decide_eq_true_eq]at*;omega
       try have az4:(9223372036854775807<gX.size+(a0.extract ((KP):Int).toNat ((wrap64 ((KP)+1)):Int).toNat).size)=False:=eq_false (Nat.not_lt.2 c14)
       have H':=ak H;clear H;obtain⟨p5,q5,hx5⟩:=bx a0 rJ;obtain⟨p7,q7,hx7⟩:=bx a0 rJ;go_wp2;go_roundg k1
       case measure=>have:=jv.out;omega
       case rel=>exact⟨(gX++(a0.extract ((KP):Int).toNat ((wrap64 ((KP)+1)):Int).toNat)),(wrap64 ((KP)+1)),(by first|rfl|(simp;done)|(simp only[←Xr]<;>(first|rfl|simp))|(simp[*];done)),(by first|rfl|(simp;done)|(simp only[←Xr]<;>(first|rfl|simp))|(simp[*];done)),H',⟨by have:=jv.out;omega⟩,dn⟩
     ·have BN:=eq_true (of_decide_eq_true (by assumption):0≤rJ);replace H:=nn H;obtain⟨c16,H⟩:=H;have EI:=eq_true c16;have amo:=decide_eq_true c16;replace H:=nn H;obtain⟨c17,H⟩:=H;have yM:=eq_true c17;have agA:=decide_eq_true c17;replace H:=nn H;obtain⟨c18,H⟩:=H;have H7:=eq_true c18;have ac9:=decide_eq_true c18;try have aIX:(9223372036854775807<gX.size+((a0.extract (rJ:Int).toNat ((wrap64 (rJ+1)):Int).toNat).size))=False:=by have h_:=c18;simp only[ByteArray.size_append,ByteArray.size_extract]at h_;refine eq_false ?_;simp only[decide_eq_true_eq]at*;omega
      try have aIY:(9223372036854775807<gX.size+(a0.extract (rJ:Int).toNat ((wrap64 (rJ+1)):Int).toNat).size)=False:=eq_false (Nat.not_lt.2 c18)
      have H':=ak H;clear H;obtain⟨p5,q5,hx5⟩:=bx a0 rJ;obtain⟨p7,q7,hx7⟩:=bx a0 rJ;go_wp2;go_roundg k1
      case measure=>have:=jv.out;omega
      case rel=>exact⟨(gX++(a0.extract (rJ:Int).toNat ((wrap64 (rJ+1)):Int).toNat)),(wrap64 (rJ+1)),rs,rs,H',⟨by have:=jv.out;omega⟩,dn⟩
   ·simp only[Option.some.injEq,Prod.mk.injEq]at H;obtain⟨rfl,rfl⟩:=H;go_wp2;go_ret2;exact⟨rs,dn⟩
def jA.l0:Nat→ByteArray→Int→Int→Option (ByteArray×ByteArray×Bool)
 |0,_,_,_=>none
 |k+1,x0,x1,x7=>if x7<(x0.size:Int)then(if 0≤x7 then(if(bt x0 x7)=34 then((iy.f k x0 x7).bind fun asV=>(if asV.2<0 then(some (x0,(⟨#[]⟩:ByteArray),false))else(jA.l0 k x0 x1 asV.2)))else(if(bt x0 x7)=x1 then(if x7≤(x0.size:Int)then(if 0≤(wrap64 (x7+1))then(if(wrap64 (x7+1))≤(x0.size:Int)then(some (x0.extract 0 (x7:Int).toNat,x0.extract ((wrap64 (x7+1)):Int).toNat x0.size,true))else(none))else(none))else(none))else(jA.l0 k x0 x1 (wrap64 (x7+1)))))else(none))else(some (x0,(⟨#[]⟩:ByteArray),false))
def jA.f(k:Nat)(a0:ByteArray)(a1:Int):Option (ByteArray×ByteArray×Bool):=jA.l0 k a0 a1 0
set_option maxHeartbeats 8000000 in
set_option maxRecDepth 100000 in
theorem jA.calls(k:Nat)(a0:ByteArray)(a1:Int)(r1:ByteArray)(r2:ByteArray)(r3:Bool)(w:World)(h:jA.f k a0 a1=some (r1,r2,r3)):
  Calls Tryz.prog 115 #[.string a0, .int .u8 a1] w fun e w'=>e= .returned (.tuple #[.string r1, .string r2, .bool r3])∧fK w w':=by
 have H:(jA.l0 k a0 a1 0)=some (r1,r2,r3):=h;clear h;have H':=ak H;clear H;go_enter func115,ntmps115;go_wp2;repeat(go_quiet (fail);try go_wp2)
 go_loopg [7] k (fun kq v7 w'=>∃(rJ:Int),v7= .int .i64 rJ∧ah (jA.l0 kq a0 a1 rJ=some (r1,r2,r3))∧ah (kq≤k)∧fK w w')
 case atStart=>exact⟨(0),rs,H',⟨Nat.le_refl _⟩,dn⟩
 case round=>
  clear H';try clear c1
  try clear p2
  obtain⟨rJ,rfl,HA,jv,⟨m1,rfl⟩⟩:=hrel
  cases gk with
  |zero=>exact absurd HA.out (by simp[jA.l0])
  |succ k1=>
   have H:=HA.out;clear HA;simp only[jA.l0]at H;replace H:=sd H;rcases H with⟨gQ,H⟩|⟨gQ,H⟩
   ·replace H:=oW H;obtain⟨oM,H⟩:=H;replace H:=sq H;rcases H with⟨oC,AB,H⟩|⟨c6,oC,AB,H⟩
    ·replace H:=bd H;obtain⟨⟨G9,t116⟩,A7,H⟩:=H
     (try dsimp only at H);replace H:=sd H;rcases H with⟨yY,H⟩|⟨yY,H⟩
     ·simp only[Option.some.injEq,Prod.mk.injEq]at H;obtain⟨rfl,rfl,rfl⟩:=H;obtain⟨p5,q5,hx5⟩:=bx a0 rJ;go_wp2_with (first|(go_at_call 137;(with_reducible refine(iy.calls k1 a0 rJ G9 t116 _ A7.out).mono ?_);rintro e w' ⟨rfl,⟨nd,rfl⟩⟩;(try exact dq)))
      repeat(go_quiet (first|(go_at_call 137;(with_reducible refine(iy.calls k1 a0 rJ G9 t116 _ A7.out).mono ?_);rintro e w' ⟨rfl,⟨nd,rfl⟩⟩;(try exact dq)));try go_wp2_with (first|(go_at_call 137;(with_reducible refine(iy.calls k1 a0 rJ G9 t116 _ A7.out).mono ?_);rintro e w' ⟨rfl,⟨nd,rfl⟩⟩;(try exact dq))))
      go_ret3;exact⟨rs,dn⟩
     ·have H':=ak H;clear H;obtain⟨p5,q5,hx5⟩:=bx a0 rJ;go_wp2_with (first|(go_at_call 137;(with_reducible refine(iy.calls k1 a0 rJ G9 t116 _ A7.out).mono ?_);rintro e w' ⟨rfl,⟨nd,rfl⟩⟩;(try exact dq)))
      repeat(go_quiet (first|(go_at_call 137;(with_reducible refine(iy.calls k1 a0 rJ G9 t116 _ A7.out).mono ?_);rintro e w' ⟨rfl,⟨nd,rfl⟩⟩;(try exact dq)));try go_wp2_with (first|(go_at_call 137;(with_reducible refine(iy.calls k1 a0 rJ G9 t116 _ A7.out).mono ?_);rintro e w' ⟨rfl,⟨nd,rfl⟩⟩;(try exact dq))))
      go_roundg k1
      case measure=>have:=jv.out;omega
      case rel=>exact⟨(t116),rs,H',⟨by have:=jv.out;omega⟩,dn⟩
    ·replace H:=sq H;rcases H with⟨rP,y8,H⟩|⟨c10,rP,y8,H⟩
     ·have CJ:=eq_true (of_decide_eq_true (by assumption):0≤rJ);replace H:=I4 H;obtain⟨yL,Ky,H⟩:=H;obtain⟨YS,NG⟩:∃j_:Int,(wrap64 (rJ+1))=j_:=⟨_,rfl⟩
      replace H:(if 0≤(YS)then(if(YS)≤(a0.size:Int)then(some (a0.extract 0 (rJ:Int).toNat,a0.extract ((YS):Int).toNat a0.size,true))else(none))else(none))=some (r1,r2,r3):=by first|(rw[NG]at H;exact H)|(simp only[NG]at H⊢;exact H)
      have auM:(IntKind.i64.wrap (rJ+1))=YS:=(bJ _).trans NG;replace H:=I4 H;obtain⟨Ap,JM,H⟩:=H;replace H:=I4 H;obtain⟨BN,Zr,H⟩:=H;simp only[Option.some.injEq,Prod.mk.injEq]at H;obtain⟨rfl,rfl,rfl⟩:=H;obtain⟨p5,q5,hx5⟩:=bx a0 rJ;obtain⟨p9,q9,hx9⟩:=bx a0 rJ;go_wp2;repeat(go_quiet (fail);try go_wp2)
      go_ret3;exact⟨by first|rfl|(simp;done)|(simp only[←NG]<;>(first|rfl|simp))|(simp[*];done),dn⟩
     ·have H':=ak H;clear H;obtain⟨p5,q5,hx5⟩:=bx a0 rJ;obtain⟨p9,q9,hx9⟩:=bx a0 rJ;go_wp2;repeat(go_quiet (fail);try go_wp2)
      go_roundg k1
      case measure=>have:=jv.out;omega
      case rel=>exact⟨(wrap64 (rJ+1)),rs,H',⟨by have:=jv.out;omega⟩,dn⟩
   ·simp only[Option.some.injEq,Prod.mk.injEq]at H;obtain⟨rfl,rfl,rfl⟩:=H;go_wp2;repeat(go_quiet (fail);try go_wp2)
    go_ret3;exact⟨rs,dn⟩
def jT.f(a0:Int):Option (Bool):=if a0≥97 then(if a0≤122 then(some true)else(if a0≥65 then(if a0≤90 then(some true)else(if a0≥48 then(some (decide (a0≤57)))else(some false)))else(if a0≥48 then(some (decide (a0≤57)))else(some false))))else(if a0≥65 then(if a0≤90 then(some true)else(if a0≥48 then(some (decide (a0≤57)))else(some false)))else(if a0≥48 then(some (decide (a0≤57)))else(some false)))
set_option maxHeartbeats 8000000 in
set_option maxRecDepth 100000 in
theorem jT.calls(a0:Int)(r:Bool)(w:World)(h:jT.f a0=some r):
  Calls Tryz.prog 142 #[.int .u8 a0] w fun e w'=>e= .returned (.bool r)∧fK w w':=by
 have H:(if a0≥97 then(if a0≤122 then(some true)else(if a0≥65 then(if a0≤90 then(some true)else(if a0≥48 then(some (decide (a0≤57)))else(some false)))else(if a0≥48 then(some (decide (a0≤57)))else(some false))))else(if a0≥65 then(if a0≤90 then(some true)else(if a0≥48 then(some (decide (a0≤57)))else(some false)))else(if a0≥48 then(some (decide (a0≤57)))else(some false))))=some r:=h;clear h;replace H:=sp H;rcases H with⟨c2,H⟩|⟨c2,H⟩
 ·have vw:decide (97≤a0)=true:=decide_eq_true c2;clear c2;replace H:=sd H;rcases H with⟨gQ,H⟩|⟨gQ,H⟩
  ·obtain rfl:=Option.some.inj H;go_enter func142,ntmps142;go_wp2;go_ret;exact⟨rs,dn⟩
  ·replace H:=sp H;rcases H with⟨c4,H⟩|⟨c4,H⟩
   ·have oM:decide (65≤a0)=true:=decide_eq_true c4;clear c4;replace H:=sd H;rcases H with⟨sH,H⟩|⟨sH,H⟩
    ·obtain rfl:=Option.some.inj H;go_enter func142,ntmps142;go_wp2;go_ret;exact⟨rs,dn⟩
    ·replace H:=sp H;rcases H with⟨c6,H⟩|⟨c6,H⟩
     ·have oC:decide (48≤a0)=true:=decide_eq_true c6;clear c6;obtain rfl:=Option.some.inj H;go_enter func142,ntmps142;go_wp2;go_ret;exact⟨rs,dn⟩
     ·have oC:decide (48≤a0)=false:=decide_eq_false c6;clear c6;obtain rfl:=Option.some.inj H;go_enter func142,ntmps142;go_wp2;go_ret;exact⟨rs,dn⟩
   ·have oM:decide (65≤a0)=false:=decide_eq_false c4;clear c4;replace H:=sp H;rcases H with⟨c7,H⟩|⟨c7,H⟩
    ·have rU:decide (48≤a0)=true:=decide_eq_true c7;clear c7;obtain rfl:=Option.some.inj H;go_enter func142,ntmps142;go_wp2;go_ret;exact⟨rs,dn⟩
    ·have rU:decide (48≤a0)=false:=decide_eq_false c7;clear c7;obtain rfl:=Option.some.inj H;go_enter func142,ntmps142;go_wp2;go_ret;exact⟨rs,dn⟩
 ·have vw:decide (97≤a0)=false:=decide_eq_false c2;clear c2;replace H:=sp H;rcases H with⟨c8,H⟩|⟨c8,H⟩
  ·have yY:decide (65≤a0)=true:=decide_eq_true c8;clear c8;replace H:=sd H;rcases H with⟨y5,H⟩|⟨y5,H⟩
   ·obtain rfl:=Option.some.inj H;go_enter func142,ntmps142;go_wp2;go_ret;exact⟨rs,dn⟩
   ·replace H:=sp H;rcases H with⟨c10,H⟩|⟨c10,H⟩
    ·have rP:decide (48≤a0)=true:=decide_eq_true c10;clear c10;obtain rfl:=Option.some.inj H;go_enter func142,ntmps142;go_wp2;go_ret;exact⟨rs,dn⟩
    ·have rP:decide (48≤a0)=false:=decide_eq_false c10;clear c10;obtain rfl:=Option.some.inj H;go_enter func142,ntmps142;go_wp2;go_ret;exact⟨rs,dn⟩
  ·have yY:decide (65≤a0)=false:=decide_eq_false c8;clear c8;replace H:=sp H;rcases H with⟨c11,H⟩|⟨c11,H⟩
   ·have CJ:decide (48≤a0)=true:=decide_eq_true c11;clear c11;obtain rfl:=Option.some.inj H;go_enter func142,ntmps142;go_wp2;go_ret;exact⟨rs,dn⟩
   ·have CJ:decide (48≤a0)=false:=decide_eq_false c11;clear c11;obtain rfl:=Option.some.inj H;go_enter func142,ntmps142;go_wp2;go_ret;exact⟨rs,dn⟩
def jO.l0:Nat→Int→Int→Option (Bool)
 |0,_,_=>none
 |k+1,x0,x3=>if x3<19 then(if 0≤x3 then(if x0=(bt (⟨#[33,35,36,37,38,39,42,43,45,47,61,63,94,95,96,123,124,125,126]⟩:ByteArray) x3)then(some true)else(jO.l0 k x0 (wrap64 (x3+1))))else(none))else((jT.f x0).bind fun t117=>(some t117))
def jO.f(k:Nat)(a0:Int):Option (Bool):=jO.l0 k a0 0
set_option maxHeartbeats 8000000 in
set_option maxRecDepth 100000 in
theorem jO.calls(k:Nat)(a0:Int)(r:Bool)(w:World)(h:jO.f k a0=some r):
  Calls Tryz.prog 138 #[.int .u8 a0] w fun e w'=>e= .returned (.bool r)∧fK w w':=by
 have H:(jO.l0 k a0 0)=some r:=h;clear h;have H':=ak H;clear H;go_enter func138,ntmps138;go_wp2;go_loopg [3] k (fun kq v3 w'=>∃(dD:Int),v3= .int .i64 dD∧ah (jO.l0 kq a0 dD=some r)∧ah (kq≤k)∧fK w w')
 case atStart=>exact⟨(0),rs,H',⟨Nat.le_refl _⟩,dn⟩
 case round=>
  clear H';try clear c1
  obtain⟨dD,rfl,HA,jv,⟨m1,rfl⟩⟩:=hrel
  cases gk with
  |zero=>exact absurd HA.out (by simp[jO.l0])
  |succ k1=>
   have H:=HA.out;clear HA;simp only[jO.l0]at H;replace H:=sd H;rcases H with⟨vw,H⟩|⟨vw,H⟩
   ·replace H:=oW H;obtain⟨gQ,H⟩:=H;replace H:=sq H;rcases H with⟨sH,abk,H⟩|⟨c5,sH,abk,H⟩
    ·obtain rfl:=Option.some.inj H;have p4:=zi dD;have q4:=zj dD 19;have hx4:=xI (⟨#[33,35,36,37,38,39,42,43,45,47,61,63,94,95,96,123,124,125,126]⟩:ByteArray) dD;replace p4:=eq_true p4;replace q4:=eq_true q4;go_wp2;go_ret;exact⟨rs,dn⟩
    ·have H':=ak H;clear H;have p4:=zi dD;have q4:=zj dD 19;have hx4:=xI (⟨#[33,35,36,37,38,39,42,43,45,47,61,63,94,95,96,123,124,125,126]⟩:ByteArray) dD;replace p4:=eq_true p4;replace q4:=eq_true q4;go_wp2;go_roundg k1
     case measure=>have:=jv.out;omega
     case rel=>exact⟨(wrap64 (dD+1)),rs,H',⟨by have:=jv.out;omega⟩,dn⟩
   ·replace H:=bd H;obtain⟨t117,A6,H⟩:=H;obtain rfl:=Option.some.inj H;go_wp2_with (first|(refine gL 142 13 func142 #[.int .u8 a0] ?_;(with_reducible refine(jT.calls a0 t117 _ A6.out).mono ?_);rintro e w' ⟨rfl,⟨nd,rfl⟩⟩;refine⟨_,rfl,?_⟩))
    go_ret;exact⟨rs,dn⟩
mutual
def gI.l0:Nat→ByteArray→List ByteArray→Int→Option (List ByteArray×Bool)
 |0,_,_,_=>none
 |k+1,x0,x4,x5=>if x5<(x0.size:Int)then(if 0≤x5 then(if(bt x0 x5)=32 then(gI.l0 k x0 x4 (wrap64 (x5+1)))else(if(bt x0 x5)=34 then((iy.f k x0 x5).bind fun Qq=>(if Qq.2<0 then(some ((([]:List ByteArray)),false))else(if Qq.2=x5 then(some ((([]:List ByteArray)),false))else(if Qq.2<(x0.size:Int)then(if 0≤Qq.2 then(if(bt x0 Qq.2)=32 then(if x4.length<8796093022208 then(gI.l0 k x0 (x4++[Qq.1]) Qq.2)else(none))else(some ((([]:List ByteArray)),false)))else(none))else(if x4.length<8796093022208 then(gI.l0 k x0 (x4++[Qq.1]) Qq.2)else(none))))))else(gI.l1 k x0 x4 x5 x5)))else(none))else(some (x4,true))
def gI.l1:Nat→ByteArray→List ByteArray→Int→Int→Option (List ByteArray×Bool)
 |0,_,_,_,_=>none
 |k+1,x0,x4,x5,x6=>if x5<(x0.size:Int)then(if 0≤x5 then((jO.f k (bt x0 x5)).bind fun t138=>(if t138=true then(gI.l1 k x0 x4 (wrap64 (x5+1)) x6)else(if 0≤x6 then(if x6≤x5 then(if x5≤(x0.size:Int)then(if x5=x6 then(some ((([]:List ByteArray)),false))else(if(bt x0 x5)=32 then(if x4.length<8796093022208 then(gI.l0 k x0 (x4++[x0.extract (x6:Int).toNat (x5:Int).toNat]) x5)else(none))else(some ((([]:List ByteArray)),false))))else(none))else(none))else(none))))else(none))else(if 0≤x6 then(if x6≤x5 then(if x5≤(x0.size:Int)then(if x5=x6 then(some ((([]:List ByteArray)),false))else(if x4.length<8796093022208 then(gI.l0 k x0 (x4++[x0.extract (x6:Int).toNat (x5:Int).toNat]) x5)else(none)))else(none))else(none))else(none))
end
def gI.f(k:Nat)(a0:ByteArray):Option (List ByteArray×Bool):=gI.l0 k a0 (([]:List ByteArray)) 0
theorem gI.calls(k:Nat)(a0:ByteArray)(r1:List ByteArray)(r2:Bool)(w:World)(h:gI.f k a0=some (r1,r2)):
  Calls Tryz.prog 117 #[.string a0] w fun e w'=>∃qZ:Value,e= .returned (.tuple #[qZ, .bool r2])∧Kd.R Kd.string 9 w' w.heap.size (fun _=>True) qZ r1∧Below w.heap.size w w':=by
 have HB:=ak (Below.refl w.heap.size w);have H:(gI.l0 k a0 (([]:List ByteArray)) 0)=some (r1,r2):=h;clear h;obtain⟨aLu,asW⟩:=nm ([]:List ByteArray);rw[←asW.out]at H;have H':=ak H;clear H;go_enter func117,ntmps117;go_wp2_with (refine gG 8 ?_;refine lRN 8 Kd.string 9 asW ?_;intro aLv w2 ho3 hb;have az5:=ak (bP ho3 (aj (ul HB.out)));replace HB:=bs HB hb;clear hb ho3)
 go_loopg [4,5] k (fun kq v4 v5 w'=>∃(eF:List ByteArray) (aJ:Int),v5= .int .i64 aJ∧ah (gI.l0 kq a0 eF aJ=some (r1,r2))∧ah (kq≤k)∧ah (Kd.R Kd.string 9 w' w.heap.size (fun _=>True) v4 eF)∧ah (Below w.heap.size w w'))
 case atStart=>exact⟨_,_,rs,H',⟨Nat.le_refl _⟩,⟨ur az5.out⟩,⟨ul HB.out⟩⟩
 case round=>
  clear H';obtain⟨eF,aJ,rfl,HA,jv,oh,HB⟩:=hrel
  cases gk with
  |zero=>exact zz HA.out
  |succ k1=>
   obtain⟨H⟩:=HA;simp only[gI.l0]at H;replace H:=sd H;rcases H with⟨oM,H⟩|⟨oM,H⟩
   ·replace H:=oW H;obtain⟨sH,H⟩:=H;replace H:=sq H;rcases H with⟨rU,NZ,H⟩|⟨c7,rU,NZ,H⟩
    ·have H':=ak H;clear H;obtain⟨p6,q6,hx6⟩:=bx a0 aJ;go_wp2;go_roundg k1
     case measure=>exact kl
     case rel=>exact⟨_,_,rs,H',⟨kl⟩,⟨ur oh.out⟩,⟨ul HB.out⟩⟩
    ·replace H:=sq H;rcases H with⟨y5,S_,H⟩|⟨c9,y5,S_,H⟩
     ·replace H:=bd H;obtain⟨⟨aeQ,yQ⟩,A10,H⟩:=H
      (try dsimp only at H);replace H:=sd H;rcases H with⟨CJ,H⟩|⟨CJ,H⟩
      ·obtain⟨aLw,asX⟩:=nm ([]:List ByteArray);rw[←asX.out]at H;obtain⟨rfl,rfl⟩:=s2 H;obtain⟨p6,q6,hx6⟩:=bx a0 aJ;obtain⟨p8,q8,hx8⟩:=bx a0 aJ;go_wp2_with (first|(refine gA func137 (iy.calls k1 a0 aJ aeQ yQ _ A10.out) ?_;intro nd)|(refine gG 32 ?_;refine lRN 32 Kd.string 9 asX ?_;intro v124 w12 N_ hb;have az6:=ak (bP (nI N_ (ru (ur oh.out))) (aj (ul HB.out)));replace oh:=ak (nV (ur oh.out) (jf N_) hb);replace HB:=bs HB hb;clear hb N_))
       go_ret2;exact⟨_,er,ur (aY az6.out (fun _ hk=>trivial)),ul HB.out⟩
      ·replace H:=sq H;rcases H with⟨Ap,JM,H⟩|⟨c14,Ap,JM,H⟩
       ·obtain⟨aLx,asY⟩:=nm ([]:List ByteArray);rw[←asY.out]at H;obtain⟨rfl,rfl⟩:=s2 H;obtain⟨p6,q6,hx6⟩:=bx a0 aJ;obtain⟨p8,q8,hx8⟩:=bx a0 aJ;go_wp2_with (first|(refine gA func137 (iy.calls k1 a0 aJ aeQ yQ _ A10.out) ?_;intro nd)|(refine gG 64 ?_;refine lRN 64 Kd.string 9 asY ?_;intro v127 YU avE hb;have az7:=ak (bP (nI avE (ru (ur oh.out))) (aj (ul HB.out)));replace oh:=ak (nV (ur oh.out) (jf avE) hb);replace HB:=bs HB hb;clear hb avE))
        go_ret2;exact⟨_,er,ur (aY az7.out (fun _ hk=>trivial)),ul HB.out⟩
       ·replace H:=sd H;rcases H with⟨yM,H⟩|⟨yM,H⟩
        ·replace H:=oW H;obtain⟨H7,H⟩:=H;replace H:=sq H;rcases H with⟨acM,ags,H⟩|⟨c20,acM,ags,H⟩
         ·replace H:=nl H;obtain⟨ac_,H⟩:=H;obtain⟨aLy,asZ⟩:=nm (eF++[aeQ]);rw[←asZ.out]at H;have H':=ak H;clear H;obtain⟨p6,q6,hx6⟩:=bx a0 aJ;obtain⟨p8,q8,hx8⟩:=bx a0 aJ;go_wp2_with (first|(refine gA func137 (iy.calls k1 a0 aJ aeQ yQ _ A10.out) ?_;intro nd;have p19:0≤(yQ:Int):=of_decide_eq_true (by assumption);have q19:yQ<(a0.size:Int):=of_decide_eq_true (by assumption);have aGg:=xI a0 yQ;replace p19:=eq_true p19;replace q19:=eq_true q19)|((with_reducible refine dS (b:= .append) (xs:=#[.tmp 65, .tmp 67]) rfl ?_);(try(refine dW (by rfl) ?_;dsimp only));at_builtin;refine aP 65 67 Kd.string 23 9 (.string ⟨#[]⟩) 16 underlying23 info9 HB (ur oh.out) asZ (by have:=ac_.out;omega) ?_;intro v130 w22 ho hb hg hat;have az8:=ak (ho);replace HB:=ak (hb);clear ho hb hg hat oh))
          go_roundg k1
          case measure=>exact kl
          case rel=>exact⟨_,_,rs,H',⟨kl⟩,⟨ur az8.out⟩,⟨ul HB.out⟩⟩
         ·obtain⟨aLz,as1⟩:=nm ([]:List ByteArray);rw[←as1.out]at H;obtain⟨rfl,rfl⟩:=s2 H;obtain⟨p6,q6,hx6⟩:=bx a0 aJ;obtain⟨p8,q8,hx8⟩:=bx a0 aJ;go_wp2_with (first|(refine gA func137 (iy.calls k1 a0 aJ aeQ yQ _ A10.out) ?_;intro nd;have p19:0≤(yQ:Int):=of_decide_eq_true (by assumption);have q19:yQ<(a0.size:Int):=of_decide_eq_true (by assumption);have aGg:=xI a0 yQ;replace p19:=eq_true p19;replace q19:=eq_true q19)|(refine gG 64 ?_;refine lRN 64 Kd.string 9 as1 ?_;intro aLA w23 aa0 hb;have az9:=ak (bP (nI aa0 (ru (ur oh.out))) (aj (ul HB.out)));replace oh:=ak (nV (ur oh.out) (jf aa0) hb);replace HB:=bs HB hb;clear hb aa0))
          go_ret2;exact⟨_,er,ur (aY az9.out (fun _ hk=>trivial)),ul HB.out⟩
        ·replace H:=nl H;obtain⟨Xd,H⟩:=H;obtain⟨aLB,as2⟩:=nm (eF++[aeQ]);rw[←as2.out]at H;have H':=ak H;clear H;obtain⟨p6,q6,hx6⟩:=bx a0 aJ;obtain⟨p8,q8,hx8⟩:=bx a0 aJ;go_wp2_with (first|(refine gA func137 (iy.calls k1 a0 aJ aeQ yQ _ A10.out) ?_;intro nd)|((with_reducible refine dS (b:= .append) (xs:=#[.tmp 65, .tmp 67]) rfl ?_);(try(refine dW (by rfl) ?_;dsimp only));at_builtin;refine aP 65 67 Kd.string 23 9 (.string ⟨#[]⟩) 16 underlying23 info9 HB (ur oh.out) as2 (by have:=Xd.out;omega) ?_;intro aLC w26 ho hb hg hat;have az_:=ak (ho);replace HB:=ak (hb);clear ho hb hg hat oh))
         go_roundg k1
         case measure=>exact kl
         case rel=>exact⟨_,_,rs,H',⟨kl⟩,⟨ur az_.out⟩,⟨ul HB.out⟩⟩
     ·have H':=ak H;clear H;obtain⟨p6,q6,hx6⟩:=bx a0 aJ;obtain⟨p8,q8,hx8⟩:=bx a0 aJ;go_wp2;go_loopg [5] k1 (fun kq v5 w'=>∃(rV:Int),v5= .int .i64 rV∧ah (gI.l1 kq a0 eF rV aJ=some (r1,r2))∧ah (kq≤k1)∧ah (Kd.R Kd.string 9 w' w.heap.size (fun _=>True) u4 eF)∧ah (Below w.heap.size w w'))
      case atStart=>exact⟨_,rs,H',⟨Nat.le_refl _⟩,⟨ur oh.out⟩,⟨ul HB.out⟩⟩
      case round=>
       clear H';try clear oM
       try clear sH
       try clear p6
       try clear q6
       try clear hx6
       try clear c7
       try clear rU
       try clear NZ
       try clear p8
       try clear q8
       try clear hx8
       try clear c9
       try clear y5
       try clear S_
       try clear p6
       try clear p8
       try clear q6
       try clear q8
       obtain⟨rV,rfl,HA,HK2,oh,HB⟩:=hrel
       cases gk with
       |zero=>exact zz HA.out
       |succ k2=>
        obtain⟨H⟩:=HA;simp only[gI.l1]at H;replace H:=sd H;rcases H with⟨PD,H⟩|⟨PD,H⟩
        ·replace H:=oW H;obtain⟨NH,H⟩:=H;replace H:=bd H;obtain⟨t138,A30,H⟩:=H;replace H:=sb H;rcases H with⟨rfl,H⟩|⟨rfl,H⟩
         ·have H':=ak H;clear H;obtain⟨p29,q29,hx29⟩:=bx a0 rV;go_wp2_with (go_at_call 138;refine mA (jO.calls k2 (bt a0 rV) true _ A30.out) ?_;intro nd)
          go_roundg k2
          case measure=>exact kl
          case rel=>exact⟨_,rs,H',⟨kl⟩,⟨ur oh.out⟩,⟨ul HB.out⟩⟩
         ·replace H:=I4 H;obtain⟨agv,arX,H⟩:=H;replace H:=I4 H;obtain⟨akP,arY,H⟩:=H;replace H:=I4 H;obtain⟨arZ,ar0,H⟩:=H;replace H:=sq H;rcases H with⟨akQ,ar1,H⟩|⟨c35,akQ,ar1,H⟩
          ·obtain⟨aLD,as3⟩:=nm ([]:List ByteArray);rw[←as3.out]at H;obtain⟨rfl,rfl⟩:=s2 H;obtain⟨p29,q29,hx29⟩:=bx a0 rV;go_wp2_with (first|(go_at_call 138;refine mA (jO.calls k2 (bt a0 rV) false _ A30.out) ?_;intro nd)|(refine gG 64 ?_;refine lRN 64 Kd.string 9 as3 ?_;intro aLE w36 avF hb;have aAa:=ak (bP (nI avF (ru (ur oh.out))) (aj (ul HB.out)));replace oh:=ak (nV (ur oh.out) (jf avF) hb);replace HB:=bs HB hb;clear hb avF))
           go_ret2;exact⟨_,er,ur (aY aAa.out (fun _ hk=>trivial)),ul HB.out⟩
          ·replace H:=sq H;rcases H with⟨aAb,aAc,H⟩|⟨c39,aAb,aAc,H⟩
           ·replace H:=nl H;obtain⟨al_,H⟩:=H;obtain⟨aLF,as4⟩:=nm (eF++[a0.extract (aJ:Int).toNat (rV:Int).toNat]);rw[←as4.out]at H;have H':=ak H;clear H;obtain⟨p29,q29,hx29⟩:=bx a0 rV;go_wp2_with (first|(go_at_call 138;refine mA (jO.calls k2 (bt a0 rV) false _ A30.out) ?_;intro nd;have p38:0≤(rV:Int):=of_decide_eq_true (by assumption);have q38:rV<(a0.size:Int):=of_decide_eq_true (by assumption);have hx38:=xI a0 rV;replace p38:=eq_true p38;replace q38:=eq_true q38)|((with_reducible refine dS (b:= .append) (xs:=#[.tmp 65, .tmp 67]) rfl ?_);(try(refine dW (by rfl) ?_;dsimp only));at_builtin;refine aP 65 67 Kd.string 23 9 (.string ⟨#[]⟩) 16 underlying23 info9 HB (ur oh.out) as4 (by have:=al_.out;omega) ?_;intro v143 w41 ho hb hg hat;have aAd:=ak (ho);replace HB:=ak (hb);clear ho hb hg hat oh))
            go_roundg k2
            case measure=>exact kl
            case rel=>exact⟨_,_,rs,H',⟨kl⟩,⟨ur aAd.out⟩,⟨ul HB.out⟩⟩
           ·obtain⟨aLG,as5⟩:=nm ([]:List ByteArray);rw[←as5.out]at H;obtain⟨rfl,rfl⟩:=s2 H;obtain⟨p29,q29,hx29⟩:=bx a0 rV;go_wp2_with (first|(go_at_call 138;refine mA (jO.calls k2 (bt a0 rV) false _ A30.out) ?_;intro nd;have p38:0≤(rV:Int):=of_decide_eq_true (by assumption);have q38:rV<(a0.size:Int):=of_decide_eq_true (by assumption);have hx38:=xI a0 rV;replace p38:=eq_true p38;replace q38:=eq_true q38)|(refine gG 64 ?_;refine lRN 64 Kd.string 9 as5 ?_;intro v146 w42 avG hb;have aAe:=ak (bP (nI avG (ru (ur oh.out))) (aj (ul HB.out)));replace oh:=ak (nV (ur oh.out) (jf avG) hb);replace HB:=bs HB hb;clear hb avG))
            go_ret2;exact⟨_,er,ur (aY aAe.out (fun _ hk=>trivial)),ul HB.out⟩
        ·replace H:=I4 H;obtain⟨aIZ,aI0,H⟩:=H;replace H:=I4 H;obtain⟨aI1,aI2,H⟩:=H;replace H:=I4 H;obtain⟨aI3,aI4,H⟩:=H;replace H:=sq H;rcases H with⟨aAf,aAg,H⟩|⟨c47,aAf,aAg,H⟩
         ·obtain⟨aLH,as6⟩:=nm ([]:List ByteArray);rw[←as6.out]at H;obtain⟨rfl,rfl⟩:=s2 H;go_wp2_with (refine gG 64 ?_;refine lRN 64 Kd.string 9 as6 ?_;intro aLI w48 avH hb;have aAh:=ak (bP (nI avH (ru (ur oh.out))) (aj (ul HB.out)));replace oh:=ak (nV (ur oh.out) (jf avH) hb);replace HB:=bs HB hb;clear hb avH)
          go_ret2;exact⟨_,er,ur (aY aAh.out (fun _ hk=>trivial)),ul HB.out⟩
         ·replace H:=nl H;obtain⟨aAi,H⟩:=H;obtain⟨y151,as7⟩:=nm (eF++[a0.extract (aJ:Int).toNat (rV:Int).toNat]);rw[←as7.out]at H;have H':=ak H;clear H;go_wp2_with ((with_reducible refine dS (b:= .append) (xs:=#[.tmp 65, .tmp 67]) rfl ?_);(try(refine dW (by rfl) ?_;dsimp only));at_builtin;refine aP 65 67 Kd.string 23 9 (.string ⟨#[]⟩) 16 underlying23 info9 HB (ur oh.out) as7 (by have:=aAi.out;omega) ?_;intro v152 w51 ho hb hg hat;have aAj:=ak (ho);replace HB:=ak (hb);clear ho hb hg hat oh)
          go_roundg k2
          case measure=>exact kl
          case rel=>exact⟨_,_,rs,H',⟨kl⟩,⟨ur aAj.out⟩,⟨ul HB.out⟩⟩
   ·obtain⟨rfl,rfl⟩:=s2 H;go_wp2;go_ret2;exact⟨_,er,ur oh.out,ul HB.out⟩
mutual
def dJ.l0:Nat→ByteArray→Int→Option (Bool)
 |0,_,_=>none
 |k+1,x0,x3=>if x3<(x0.size:Int)then(dJ.j1 k x0 x3 (decide (x3≤30)))else(dJ.j1 k x0 x3 false)
def dJ.j1:Nat→ByteArray→Int→Bool→Option (Bool)
 |0,_,_,_=>none
 |k+1,x0,x3,x11=>if x11=true then(if 0≤x3 then(if x3<(x0.size:Int)then((jT.f (bt x0 x3)).bind fun t154=>(if t154=true then(if x3=0 then(if(bt x0 x3)≤57 then(some false)else(dJ.l0 k x0 (wrap64 (x3+1))))else(dJ.l0 k x0 (wrap64 (x3+1))))else(if(bt x0 x3)=45 then(if x3=0 then(if(bt x0 x3)≤57 then(some false)else(dJ.l0 k x0 (wrap64 (x3+1))))else(dJ.l0 k x0 (wrap64 (x3+1))))else(some false))))else(none))else(none))else(if(x0.size:Int)≥1 then(some (decide ((x0.size:Int)≤30)))else(some false))
end
def dJ.f(k:Nat)(a0:ByteArray):Option (Bool):=dJ.l0 k a0 0
set_option maxHeartbeats 8000000 in
set_option maxRecDepth 100000 in
theorem dJ.calls(k:Nat)(a0:ByteArray)(r:Bool)(w:World)(h:dJ.f k a0=some r):
  Calls Tryz.prog 134 #[.string a0] w fun e w'=>e= .returned (.bool r)∧fK w w':=by
 have H:(dJ.l0 k a0 0)=some r:=h;clear h;have H':=ak H;clear H;go_enter func134,ntmps134;go_wp2;go_loopg [3] k (fun kq v3 w'=>∃(dD:Int),v3= .int .i64 dD∧ah (dJ.l0 kq a0 dD=some r)∧ah (kq≤k)∧fK w w')
 case atStart=>exact⟨(0),rs,H',⟨Nat.le_refl _⟩,dn⟩
 case round=>
  clear H';try clear c1
  obtain⟨dD,rfl,HA,jv,⟨m1,rfl⟩⟩:=hrel
  cases gk with
  |zero=>exact absurd HA.out (by simp[dJ.l0])
  |succ k1=>
   have H:=HA.out;clear HA;simp only[dJ.l0]at H;have HC2:=ak H;clear H;go_upto_region 2 with(fail)
   go_cut [11] (fun v11 wc=>∃(kq:Nat) (wO:Bool),v11= .bool wO∧ah (dJ.j1 kq a0 dD wO=some r)∧ah (kq≤k1)∧fK w wc)
   case first=>
    have H:=HC2.out;clear HC2;replace H:=sd H;rcases H with⟨gQ,H⟩|⟨gQ,H⟩
    ·(first|rw[gQ]|(simp only[bJ,b_];rw[gQ])|skip);have H':=ak H;clear H;go_wp2;go_meet
     case rel=>exact⟨_,(decide (dD≤30)),rs,H',⟨by have:=jv.out;first|omega|exact Nat.le_refl _⟩,dn⟩
    ·(first|rw[gQ]|(simp only[bJ,b_];rw[gQ])|skip);have H':=ak H;clear H;go_wp2;go_meet
     case rel=>exact⟨_,(false),rs,H',⟨by have:=jv.out;first|omega|exact Nat.le_refl _⟩,dn⟩
   case rest=>
    clear HC2;try clear c1
    try clear p2
    try clear c3
    try clear gQ
    obtain⟨kq,wO,rfl,HA,FY,⟨mc1,rfl⟩⟩:=hcut
    cases kq with
    |zero=>exact absurd HA.out (by simp[dJ.j1])
    |succ Mc=>
     have H:=HA.out;clear HA;simp only[dJ.j1]at H;replace H:=sb H;rcases H with⟨rfl,H⟩|⟨rfl,H⟩
     ·replace H:=oW H;obtain⟨sH,H⟩:=H;replace H:=oW H;obtain⟨oC,H⟩:=H;replace H:=bd H;obtain⟨t154,A8,H⟩:=H;replace H:=sb H;rcases H with⟨rfl,H⟩|⟨rfl,H⟩
      ·replace H:=sq H;rcases H with⟨rP,y8,H⟩|⟨c10,rP,y8,H⟩
       ·replace H:=sd H;rcases H with⟨yL,H⟩|⟨yL,H⟩
        ·obtain rfl:=Option.some.inj H;obtain⟨p7,q7,hx7⟩:=bx a0 dD;go_wp2_with (first|(refine gL 142 17 func142 #[.int .u8 (bt a0 dD)] ?_;(with_reducible refine(jT.calls (bt a0 dD) true _ A8.out).mono ?_);rintro e w' ⟨rfl,⟨nd,rfl⟩⟩;refine⟨_,rfl,?_⟩;have p11:0≤(dD:Int):=of_decide_eq_true (by assumption);have q11:dD<(a0.size:Int):=of_decide_eq_true (by assumption);have acO:=xI a0 dD;replace p11:=eq_true p11;replace q11:=eq_true q11))
         go_ret;exact⟨rs,dn⟩
        ·have H':=ak H;clear H;obtain⟨p7,q7,hx7⟩:=bx a0 dD;go_wp2_with (first|(refine gL 142 17 func142 #[.int .u8 (bt a0 dD)] ?_;(with_reducible refine(jT.calls (bt a0 dD) true _ A8.out).mono ?_);rintro e w' ⟨rfl,⟨nd,rfl⟩⟩;refine⟨_,rfl,?_⟩;have p11:0≤(dD:Int):=of_decide_eq_true (by assumption);have q11:dD<(a0.size:Int):=of_decide_eq_true (by assumption);have acO:=xI a0 dD;replace p11:=eq_true p11;replace q11:=eq_true q11))
         go_roundg Mc
         case measure=>have:=jv.out;have:=FY.out;omega
         case rel=>exact⟨(wrap64 (dD+1)),rs,H',⟨by have:=jv.out;have:=FY.out;omega⟩,dn⟩
       ·have H':=ak H;clear H;obtain⟨p7,q7,hx7⟩:=bx a0 dD;go_wp2_with (first|(refine gL 142 17 func142 #[.int .u8 (bt a0 dD)] ?_;(with_reducible refine(jT.calls (bt a0 dD) true _ A8.out).mono ?_);rintro e w' ⟨rfl,⟨nd,rfl⟩⟩;refine⟨_,rfl,?_⟩))
        go_roundg Mc
        case measure=>have:=jv.out;have:=FY.out;omega
        case rel=>exact⟨(wrap64 (dD+1)),rs,H',⟨by have:=jv.out;have:=FY.out;omega⟩,dn⟩
      ·replace H:=sq H;rcases H with⟨Ap,JM,H⟩|⟨c14,Ap,JM,H⟩
       ·replace H:=sq H;rcases H with⟨BN,Zr,H⟩|⟨c15,BN,Zr,H⟩
        ·replace H:=sd H;rcases H with⟨yM,H⟩|⟨yM,H⟩
         ·obtain rfl:=Option.some.inj H;obtain⟨p7,q7,hx7⟩:=bx a0 dD;go_wp2_with (first|(refine gL 142 17 func142 #[.int .u8 (bt a0 dD)] ?_;(with_reducible refine(jT.calls (bt a0 dD) false _ A8.out).mono ?_);rintro e w' ⟨rfl,⟨nd,rfl⟩⟩;refine⟨_,rfl,?_⟩;have p13:0≤(dD:Int):=of_decide_eq_true (by assumption);have q13:dD<(a0.size:Int):=of_decide_eq_true (by assumption);have avI:=xI a0 dD;replace p13:=eq_true p13;replace q13:=eq_true q13;have p16:0≤(dD:Int):=of_decide_eq_true (by assumption);have q16:dD<(a0.size:Int):=of_decide_eq_true (by assumption);have hx16:=xI a0 dD;replace p16:=eq_true p16;replace q16:=eq_true q16))
          go_ret;exact⟨rs,dn⟩
         ·have H':=ak H;clear H;obtain⟨p7,q7,hx7⟩:=bx a0 dD;go_wp2_with (first|(refine gL 142 17 func142 #[.int .u8 (bt a0 dD)] ?_;(with_reducible refine(jT.calls (bt a0 dD) false _ A8.out).mono ?_);rintro e w' ⟨rfl,⟨nd,rfl⟩⟩;refine⟨_,rfl,?_⟩;have p13:0≤(dD:Int):=of_decide_eq_true (by assumption);have q13:dD<(a0.size:Int):=of_decide_eq_true (by assumption);have avI:=xI a0 dD;replace p13:=eq_true p13;replace q13:=eq_true q13;have p16:0≤(dD:Int):=of_decide_eq_true (by assumption);have q16:dD<(a0.size:Int):=of_decide_eq_true (by assumption);have hx16:=xI a0 dD;replace p16:=eq_true p16;replace q16:=eq_true q16))
          go_roundg Mc
          case measure=>have:=jv.out;have:=FY.out;omega
          case rel=>exact⟨(wrap64 (dD+1)),rs,H',⟨by have:=jv.out;have:=FY.out;omega⟩,dn⟩
        ·have H':=ak H;clear H;obtain⟨p7,q7,hx7⟩:=bx a0 dD;go_wp2_with (first|(refine gL 142 17 func142 #[.int .u8 (bt a0 dD)] ?_;(with_reducible refine(jT.calls (bt a0 dD) false _ A8.out).mono ?_);rintro e w' ⟨rfl,⟨nd,rfl⟩⟩;refine⟨_,rfl,?_⟩;have p13:0≤(dD:Int):=of_decide_eq_true (by assumption);have q13:dD<(a0.size:Int):=of_decide_eq_true (by assumption);have avI:=xI a0 dD;replace p13:=eq_true p13;replace q13:=eq_true q13))
         go_roundg Mc
         case measure=>have:=jv.out;have:=FY.out;omega
         case rel=>exact⟨(wrap64 (dD+1)),rs,H',⟨by have:=jv.out;have:=FY.out;omega⟩,dn⟩
       ·obtain rfl:=Option.some.inj H;obtain⟨p7,q7,hx7⟩:=bx a0 dD;go_wp2_with (first|(refine gL 142 17 func142 #[.int .u8 (bt a0 dD)] ?_;(with_reducible refine(jT.calls (bt a0 dD) false _ A8.out).mono ?_);rintro e w' ⟨rfl,⟨nd,rfl⟩⟩;refine⟨_,rfl,?_⟩;have p13:0≤(dD:Int):=of_decide_eq_true (by assumption);have q13:dD<(a0.size:Int):=of_decide_eq_true (by assumption);have avI:=xI a0 dD;replace p13:=eq_true p13;replace q13:=eq_true q13))
        go_ret;exact⟨rs,dn⟩
     ·replace H:=sp H;rcases H with⟨c18,H⟩|⟨c18,H⟩
      ·have H7:decide (1≤(a0.size:Int))=true:=decide_eq_true c18;have ac9:decide (1≤a0.size)=true:=decide_eq_true (by omega);clear c18;obtain rfl:=Option.some.inj H;go_wp2;go_ret;exact⟨rs,dn⟩
      ·have H7:decide (1≤(a0.size:Int))=false:=decide_eq_false c18;have ac9:decide (1≤a0.size)=false:=decide_eq_false (by omega);clear c18;obtain rfl:=Option.some.inj H;go_wp2;go_ret;exact⟨rs,dn⟩
def kZ.f(k:Nat)(a0:ByteArray):Option (Bool):=(dJ.f k a0).bind fun apF=>(if apF=true then((gu.f a0).bind fun t156=>(some (t156.toList==a0.toList)))else(some false))
set_option maxHeartbeats 8000000 in
set_option maxRecDepth 100000 in
theorem kZ.calls(k:Nat)(a0:ByteArray)(r:Bool)(w:World)(h:kZ.f k a0=some r):
  Calls Tryz.prog 139 #[.string a0] w fun e w'=>e= .returned (.bool r)∧Below w.heap.size w w':=by
 have HB:=ak (Below.refl w.heap.size w);have H:((dJ.f k a0).bind fun apF=>(if apF=true then((gu.f a0).bind fun t156=>(some (t156.toList==a0.toList)))else(some false)))=some r:=h;clear h;replace H:=bd H;obtain⟨apF,A2,H⟩:=H;replace H:=sb H;rcases H with⟨rfl,H⟩|⟨rfl,H⟩
 ·replace H:=bd H;obtain⟨t156,A4,H⟩:=H;obtain rfl:=Option.some.inj H;go_enter func139,ntmps139;go_wp2_with (first|(refine gL 134 4 func134 #[.string a0] ?_;(with_reducible refine(dJ.calls k a0 true _ A2.out).mono ?_);rintro e w' ⟨rfl,⟨nd,rfl⟩⟩;refine⟨_,rfl,?_⟩)|(go_at_call 116;(with_reducible refine(gu.calls a0 t156 _ A4.out).mono ?_);rintro e w5 ⟨rfl,hb⟩;replace HB:=bs HB hb;(try clear hb)))
  go_ret;exact⟨er,ul HB.out⟩
 ·obtain rfl:=Option.some.inj H;go_enter func139,ntmps139;go_wp2_with (first|(refine gL 134 4 func134 #[.string a0] ?_;(with_reducible refine(dJ.calls k a0 false _ A2.out).mono ?_);rintro e w' ⟨rfl,⟨nd,rfl⟩⟩;refine⟨_,rfl,?_⟩))
  go_ret;exact⟨er,ul HB.out⟩
def uM.f(k:Nat)(a0:ByteArray):Option (Bool):=(bf.f k a0).bind fun t157=>(if t157=true then(some (decide ((a0.size:Int)≤40)))else(some false))
set_option maxHeartbeats 8000000 in
set_option maxRecDepth 100000 in
theorem uM.calls(k:Nat)(a0:ByteArray)(r:Bool)(w:World)(h:uM.f k a0=some r):
  Calls Tryz.prog 140 #[.string a0] w fun e w'=>e= .returned (.bool r)∧fK w w':=by
 have H:((bf.f k a0).bind fun t157=>(if t157=true then(some (decide ((a0.size:Int)≤40)))else(some false)))=some r:=h;clear h;replace H:=bd H;obtain⟨t157,A2,H⟩:=H;replace H:=sb H;rcases H with⟨rfl,H⟩|⟨rfl,H⟩
 ·obtain rfl:=Option.some.inj H;go_enter func140,ntmps140;go_wp2_with (first|(refine gL 107 4 func107 #[.string a0] ?_;(with_reducible refine(bf.calls k a0 true _ A2.out).mono ?_);rintro e w' ⟨rfl,⟨nd,rfl⟩⟩;refine⟨_,rfl,?_⟩))
  go_ret;exact⟨rs,dn⟩
 ·obtain rfl:=Option.some.inj H;go_enter func140,ntmps140;go_wp2_with (first|(refine gL 107 4 func107 #[.string a0] ?_;(with_reducible refine(bf.calls k a0 false _ A2.out).mono ?_);rintro e w' ⟨rfl,⟨nd,rfl⟩⟩;refine⟨_,rfl,?_⟩))
  go_ret;exact⟨rs,dn⟩
def lY.f(k:Nat)(bn:ByteArray)(bI:ByteArray):Option (Bool):=(dJ.f k bn).bind fun apG=>(if apG=true then((bf.f k bI).bind fun apH=>(if apH=true then(if(bI.size:Int)≤150 then((dL.f k bI).bind fun t232=>(some (t232.toList==bI.toList)))else(some false))else(some false)))else(some false))
set_option maxHeartbeats 8000000 in
set_option maxRecDepth 100000 in
theorem lY.calls(k:Nat)(bn:ByteArray)(bI:ByteArray)(r:Bool)(w:World)(h:lY.f k bn bI=some r):
  Calls Tryz.prog 106 #[.agg #[.string bn, .string bI]] w fun e w'=>e= .returned (.bool r)∧Below w.heap.size w w':=by
 have I5:=underlying63;have HB:=ak (Below.refl w.heap.size w);have H:((dJ.f k bn).bind fun apG=>(if apG=true then((bf.f k bI).bind fun apH=>(if apH=true then(if(bI.size:Int)≤150 then((dL.f k bI).bind fun t232=>(some (t232.toList==bI.toList)))else(some false))else(some false)))else(some false)))=some r:=h;clear h;replace H:=bd H;obtain⟨apG,A2,H⟩:=H;replace H:=sb H;rcases H with⟨rfl,H⟩|⟨rfl,H⟩
 ·replace H:=bd H;obtain⟨apH,A4,H⟩:=H;replace H:=sb H;rcases H with⟨rfl,H⟩|⟨rfl,H⟩
  ·replace H:=sp H;rcases H with⟨c6,H⟩|⟨c6,H⟩
   ·have oC:=decide_eq_true c6;have AB:decide (bI.size≤150)=true:=decide_eq_true (by omega);clear c6;replace H:=bd H;obtain⟨t232,A7,H⟩:=H;obtain rfl:=Option.some.inj H;go_enter func106,ntmps106;go_wp2_with (first|(refine fZ (N:=1) rfl ?_;(try(refine dW (by rfl) ?_;dsimp only));refine bE 1 #[.string bn, .string bI] 63 ?_;intro KQ hg w8 hbox hb;have wU:=ak (hbox);have KR:=mJ HB hg;have KT:=mJ HB hg;replace HB:=bs HB hb;clear hb hbox hg;obtain⟨I7,I8,I9,I_⟩:=AA wU.out)|(go_at_call 134;(with_reducible refine(dJ.calls k bn true _ A2.out).mono ?_);rintro e w' ⟨rfl,⟨nd,rfl⟩⟩;(try exact dq))|(go_at_call 107;(with_reducible refine(bf.calls k bI true _ A4.out).mono ?_);rintro e w' ⟨rfl,⟨nd,rfl⟩⟩;(try exact dq))|(go_at_call 113;(with_reducible refine(dL.calls k bI t232 _ A7.out).mono ?_);rintro e w' ⟨rfl,⟨nd,rfl⟩⟩;(try exact dq)))
    repeat(go_quiet (first|(refine fZ (N:=1) rfl ?_;(try(refine dW (by rfl) ?_;dsimp only));refine bE 1 #[.string bn, .string bI] 63 ?_;intro KQ hg w8 hbox hb;have wU:=ak (hbox);have KR:=mJ HB hg;have KT:=mJ HB hg;replace HB:=bs HB hb;clear hb hbox hg;obtain⟨I7,I8,I9,I_⟩:=AA wU.out)|(go_at_call 134;(with_reducible refine(dJ.calls k bn true _ A2.out).mono ?_);rintro e w' ⟨rfl,⟨nd,rfl⟩⟩;(try exact dq))|(go_at_call 107;(with_reducible refine(bf.calls k bI true _ A4.out).mono ?_);rintro e w' ⟨rfl,⟨nd,rfl⟩⟩;(try exact dq))|(go_at_call 113;(with_reducible refine(dL.calls k bI t232 _ A7.out).mono ?_);rintro e w' ⟨rfl,⟨nd,rfl⟩⟩;(try exact dq)));try go_wp2_with (first|(refine fZ (N:=1) rfl ?_;(try(refine dW (by rfl) ?_;dsimp only));refine bE 1 #[.string bn, .string bI] 63 ?_;intro KQ hg w8 hbox hb;have wU:=ak (hbox);have KR:=mJ HB hg;have KT:=mJ HB hg;replace HB:=bs HB hb;clear hb hbox hg;obtain⟨I7,I8,I9,I_⟩:=AA wU.out)|(go_at_call 134;(with_reducible refine(dJ.calls k bn true _ A2.out).mono ?_);rintro e w' ⟨rfl,⟨nd,rfl⟩⟩;(try exact dq))|(go_at_call 107;(with_reducible refine(bf.calls k bI true _ A4.out).mono ?_);rintro e w' ⟨rfl,⟨nd,rfl⟩⟩;(try exact dq))|(go_at_call 113;(with_reducible refine(dL.calls k bI t232 _ A7.out).mono ?_);rintro e w' ⟨rfl,⟨nd,rfl⟩⟩;(try exact dq))))
    go_ret;exact⟨er,bb⟩
   ·have oC:=decide_eq_false c6;have AB:decide (bI.size≤150)=false:=decide_eq_false (by omega);clear c6;obtain rfl:=Option.some.inj H;go_enter func106,ntmps106;go_wp2_with (first|(refine fZ (N:=1) rfl ?_;(try(refine dW (by rfl) ?_;dsimp only));refine bE 1 #[.string bn, .string bI] 63 ?_;intro KQ hg w10 hbox hb;have wU:=ak (hbox);have KR:=mJ HB hg;have KT:=mJ HB hg;replace HB:=bs HB hb;clear hb hbox hg;obtain⟨Jd,Je,Jf,Jg⟩:=AA wU.out)|(go_at_call 134;(with_reducible refine(dJ.calls k bn true _ A2.out).mono ?_);rintro e w' ⟨rfl,⟨nd,rfl⟩⟩;(try exact dq))|(go_at_call 107;(with_reducible refine(bf.calls k bI true _ A4.out).mono ?_);rintro e w' ⟨rfl,⟨nd,rfl⟩⟩;(try exact dq)))
    repeat(go_quiet (first|(refine fZ (N:=1) rfl ?_;(try(refine dW (by rfl) ?_;dsimp only));refine bE 1 #[.string bn, .string bI] 63 ?_;intro KQ hg w10 hbox hb;have wU:=ak (hbox);have KR:=mJ HB hg;have KT:=mJ HB hg;replace HB:=bs HB hb;clear hb hbox hg;obtain⟨Jd,Je,Jf,Jg⟩:=AA wU.out)|(go_at_call 134;(with_reducible refine(dJ.calls k bn true _ A2.out).mono ?_);rintro e w' ⟨rfl,⟨nd,rfl⟩⟩;(try exact dq))|(go_at_call 107;(with_reducible refine(bf.calls k bI true _ A4.out).mono ?_);rintro e w' ⟨rfl,⟨nd,rfl⟩⟩;(try exact dq)));try go_wp2_with (first|(refine fZ (N:=1) rfl ?_;(try(refine dW (by rfl) ?_;dsimp only));refine bE 1 #[.string bn, .string bI] 63 ?_;intro KQ hg w10 hbox hb;have wU:=ak (hbox);have KR:=mJ HB hg;have KT:=mJ HB hg;replace HB:=bs HB hb;clear hb hbox hg;obtain⟨Jd,Je,Jf,Jg⟩:=AA wU.out)|(go_at_call 134;(with_reducible refine(dJ.calls k bn true _ A2.out).mono ?_);rintro e w' ⟨rfl,⟨nd,rfl⟩⟩;(try exact dq))|(go_at_call 107;(with_reducible refine(bf.calls k bI true _ A4.out).mono ?_);rintro e w' ⟨rfl,⟨nd,rfl⟩⟩;(try exact dq))))
    go_ret;exact⟨er,bb⟩
  ·obtain rfl:=Option.some.inj H;go_enter func106,ntmps106;go_wp2_with (first|(refine fZ (N:=1) rfl ?_;(try(refine dW (by rfl) ?_;dsimp only));refine bE 1 #[.string bn, .string bI] 63 ?_;intro KQ hg w12 hbox hb;have wU:=ak (hbox);have KR:=mJ HB hg;have KT:=mJ HB hg;replace HB:=bs HB hb;clear hb hbox hg;obtain⟨yS,yT,yU,yV⟩:=AA wU.out)|(go_at_call 134;(with_reducible refine(dJ.calls k bn true _ A2.out).mono ?_);rintro e w' ⟨rfl,⟨nd,rfl⟩⟩;(try exact dq))|(go_at_call 107;(with_reducible refine(bf.calls k bI false _ A4.out).mono ?_);rintro e w' ⟨rfl,⟨nd,rfl⟩⟩;(try exact dq)))
   repeat(go_quiet (first|(refine fZ (N:=1) rfl ?_;(try(refine dW (by rfl) ?_;dsimp only));refine bE 1 #[.string bn, .string bI] 63 ?_;intro KQ hg w12 hbox hb;have wU:=ak (hbox);have KR:=mJ HB hg;have KT:=mJ HB hg;replace HB:=bs HB hb;clear hb hbox hg;obtain⟨yS,yT,yU,yV⟩:=AA wU.out)|(go_at_call 134;(with_reducible refine(dJ.calls k bn true _ A2.out).mono ?_);rintro e w' ⟨rfl,⟨nd,rfl⟩⟩;(try exact dq))|(go_at_call 107;(with_reducible refine(bf.calls k bI false _ A4.out).mono ?_);rintro e w' ⟨rfl,⟨nd,rfl⟩⟩;(try exact dq)));try go_wp2_with (first|(refine fZ (N:=1) rfl ?_;(try(refine dW (by rfl) ?_;dsimp only));refine bE 1 #[.string bn, .string bI] 63 ?_;intro KQ hg w12 hbox hb;have wU:=ak (hbox);have KR:=mJ HB hg;have KT:=mJ HB hg;replace HB:=bs HB hb;clear hb hbox hg;obtain⟨yS,yT,yU,yV⟩:=AA wU.out)|(go_at_call 134;(with_reducible refine(dJ.calls k bn true _ A2.out).mono ?_);rintro e w' ⟨rfl,⟨nd,rfl⟩⟩;(try exact dq))|(go_at_call 107;(with_reducible refine(bf.calls k bI false _ A4.out).mono ?_);rintro e w' ⟨rfl,⟨nd,rfl⟩⟩;(try exact dq))))
   go_ret;exact⟨er,bb⟩
 ·obtain rfl:=Option.some.inj H;go_enter func106,ntmps106;go_wp2_with (first|(refine fZ (N:=1) rfl ?_;(try(refine dW (by rfl) ?_;dsimp only));refine bE 1 #[.string bn, .string bI] 63 ?_;intro KQ hg Ut hbox hb;have wU:=ak (hbox);have KR:=mJ HB hg;have KT:=mJ HB hg;replace HB:=bs HB hb;clear hb hbox hg;obtain⟨Bd,Bf,Bg,Bh⟩:=AA wU.out)|(go_at_call 134;(with_reducible refine(dJ.calls k bn false _ A2.out).mono ?_);rintro e w' ⟨rfl,⟨nd,rfl⟩⟩;(try exact dq)))
  repeat(go_quiet (first|(refine fZ (N:=1) rfl ?_;(try(refine dW (by rfl) ?_;dsimp only));refine bE 1 #[.string bn, .string bI] 63 ?_;intro KQ hg Ut hbox hb;have wU:=ak (hbox);have KR:=mJ HB hg;have KT:=mJ HB hg;replace HB:=bs HB hb;clear hb hbox hg;obtain⟨Bd,Bf,Bg,Bh⟩:=AA wU.out)|(go_at_call 134;(with_reducible refine(dJ.calls k bn false _ A2.out).mono ?_);rintro e w' ⟨rfl,⟨nd,rfl⟩⟩;(try exact dq)));try go_wp2_with (first|(refine fZ (N:=1) rfl ?_;(try(refine dW (by rfl) ?_;dsimp only));refine bE 1 #[.string bn, .string bI] 63 ?_;intro KQ hg Ut hbox hb;have wU:=ak (hbox);have KR:=mJ HB hg;have KT:=mJ HB hg;replace HB:=bs HB hb;clear hb hbox hg;obtain⟨Bd,Bf,Bg,Bh⟩:=AA wU.out)|(go_at_call 134;(with_reducible refine(dJ.calls k bn false _ A2.out).mono ?_);rintro e w' ⟨rfl,⟨nd,rfl⟩⟩;(try exact dq))))
  go_ret;exact⟨er,bb⟩
mutual
def fQ.l0:Nat→List (iq)→Int→Option (Bool)
 |0,_,_=>none
 |k+1,x0,x3=>if x3<(x0.length:Int)then(fQ.j1 k x0 x3 (decide (x3≤20)))else(fQ.j1 k x0 x3 false)
def fQ.j1:Nat→List (iq)→Int→Bool→Option (Bool)
 |0,_,_,_=>none
 |k+1,x0,x3,x11=>if x11=true then(if 0≤x3 then(if x3<(x0.length:Int)then((lY.f k ((aT x0 x3).f0) ((aT x0 x3).f1)).bind fun t234=>(if t234=true then(fQ.l0 k x0 (wrap64 (x3+1)))else(some false)))else(none))else(none))else(some (decide ((x0.length:Int)≤20)))
end
def fQ.f(k:Nat)(l0:List (iq)):Option (Bool):=fQ.l0 k l0 0
set_option maxHeartbeats 8000000 in
set_option maxRecDepth 100000 in
theorem fQ.calls(k:Nat)(A0:Option Addr)(c0:Nat)(l0:List (iq))(r:Bool)(w:World)(hr0:Kd.C lg w A0 l0.length l0)(hc0:l0.length≤c0)(h:fQ.f k l0=some r):
  Calls Tryz.prog 68 #[.slice A0 l0.length c0] w fun e w'=>e= .returned (.bool r)∧Below w.heap.size w w':=by
 have I5:=underlying63;have HR0:=ak hr0;have yx:=ak hc0;clear hr0 hc0;have HB:=ak (Below.refl w.heap.size w);have H:(fQ.l0 k l0 0)=some r:=h;clear h;have H':=ak H;clear H;go_enter func68,ntmps68;go_wp2;go_loopg [3] k (fun kq v3 w'=>∃(dD:Int),v3= .int .i64 dD∧ah (fQ.l0 kq l0 dD=some r)∧ah (kq≤k)∧ah (Below w.heap.size w w'))
 case atStart=>exact⟨(0),rs,H',⟨Nat.le_refl _⟩,⟨ul HB.out⟩⟩
 case round=>
  clear H';obtain⟨dD,rfl,HA,jv,HB⟩:=hrel
  cases gk with
  |zero=>exact absurd HA.out (by simp[fQ.l0])
  |succ k1=>
   have H:=HA.out;clear HA;simp only[fQ.l0]at H;have HC2:=ak H;clear H;go_upto_region 2 with(fail)
   go_cut [11] (fun v11 wc=>∃(kq:Nat) (wO:Bool),v11= .bool wO∧ah (fQ.j1 kq l0 dD wO=some r)∧ah (kq≤k1)∧ah (Below w.heap.size w wc))
   case first=>
    have H:=HC2.out;clear HC2;replace H:=sd H;rcases H with⟨gQ,H⟩|⟨gQ,H⟩
    ·(first|rw[gQ]|(simp only[bJ,b_];rw[gQ])|skip);have H':=ak H;clear H;go_wp2;go_meet
     case rel=>exact⟨_,(decide (dD≤20)),rs,H',⟨by have:=jv.out;first|omega|exact Nat.le_refl _⟩,⟨ul HB.out⟩⟩
    ·(first|rw[gQ]|(simp only[bJ,b_];rw[gQ])|skip);have H':=ak H;clear H;go_wp2;go_meet
     case rel=>exact⟨_,(false),rs,H',⟨by have:=jv.out;first|omega|exact Nat.le_refl _⟩,⟨ul HB.out⟩⟩
   case rest=>
    clear HC2;try clear p2
    try clear c3
    try clear gQ
    obtain⟨kq,wO,rfl,HA,FY,HB⟩:=hcut
    cases kq with
    |zero=>exact absurd HA.out (by simp[fQ.j1])
    |succ Mc=>
     have H:=HA.out;clear HA;simp only[fQ.j1]at H;replace H:=sb H;rcases H with⟨rfl,H⟩|⟨rfl,H⟩
     ·replace H:=oW H;obtain⟨sH,H⟩:=H;replace H:=oW H;obtain⟨oC,H⟩:=H;replace H:=bd H;obtain⟨t234,A7,H⟩:=H;replace H:=sb H;rcases H with⟨rfl,H⟩|⟨rfl,H⟩
      ·have H':=ak H;clear H;have aeR:=zi dD;have aeS:=zj dD l0.length;obtain⟨aAk,e233,Qr,Qs⟩:=ou HR0.out dD aeR aeS;cases e233;replace Qr:=cl HB.out Qr;replace Qs:=cl HB.out Qs;replace aeR:=eq_true aeR;replace aeS:=eq_true aeS;go_wp2_with (first|(refine gL 106 18 func106 #[.agg #[.string ((aT l0 dD).f0), .string ((aT l0 dD).f1)]] ?_;(with_reducible refine(lY.calls Mc ((aT l0 dD).f0) ((aT l0 dD).f1) true _ A7.out).mono ?_);rintro e w9 ⟨rfl,hb⟩;refine⟨_,rfl,?_⟩;replace HB:=bs HB hb;(try clear hb)))
       go_roundg Mc
       case measure=>have:=jv.out;have:=FY.out;omega
       case rel=>exact⟨(wrap64 (dD+1)),rs,H',⟨by have:=jv.out;have:=FY.out;omega⟩,⟨ul HB.out⟩⟩
      ·obtain rfl:=Option.some.inj H;have aeR:=zi dD;have aeS:=zj dD l0.length;obtain⟨aAk,e233,Qr,Qs⟩:=ou HR0.out dD aeR aeS;cases e233;replace Qr:=cl HB.out Qr;replace Qs:=cl HB.out Qs;replace aeR:=eq_true aeR;replace aeS:=eq_true aeS;go_wp2_with (first|(refine gL 106 18 func106 #[.agg #[.string ((aT l0 dD).f0), .string ((aT l0 dD).f1)]] ?_;(with_reducible refine(lY.calls Mc ((aT l0 dD).f0) ((aT l0 dD).f1) false _ A7.out).mono ?_);rintro e w10 ⟨rfl,hb⟩;refine⟨_,rfl,?_⟩;replace HB:=bs HB hb;(try clear hb)))
       go_ret;exact⟨er,ul HB.out⟩
     ·obtain rfl:=Option.some.inj H;go_wp2;go_ret;exact⟨er,ul HB.out⟩
mutual
def jw.l0:Nat→List ByteArray→Int→Option (Bool)
 |0,_,_=>none
 |k+1,x0,x3=>if x3<(x0.length:Int)then(jw.j1 k x0 x3 (decide (x3≤30)))else(jw.j1 k x0 x3 false)
def jw.j1:Nat→List ByteArray→Int→Bool→Option (Bool)
 |0,_,_,_=>none
 |k+1,x0,x3,x11=>if x11=true then(if 0≤x3 then(if x3<(x0.length:Int)then((bf.f k (o8 ByteArray.empty x0 x3)).bind fun t236=>(if t236=true then(jw.l0 k x0 (wrap64 (x3+1)))else(some false)))else(none))else(none))else(some (decide ((x0.length:Int)≤30)))
end
def jw.f(k:Nat)(l0:List ByteArray):Option (Bool):=jw.l0 k l0 0
set_option maxHeartbeats 8000000 in
set_option maxRecDepth 100000 in
theorem jw.calls(k:Nat)(A0:Option Addr)(c0:Nat)(l0:List ByteArray)(r:Bool)(w:World)(hr0:Kd.C Kd.string w A0 l0.length l0)(hc0:l0.length≤c0)(h:jw.f k l0=some r):
  Calls Tryz.prog 69 #[.slice A0 l0.length c0] w fun e w'=>e= .returned (.bool r)∧fK w w':=by
 have HR0:=ak hr0;have yx:=ak hc0;clear hr0 hc0;have H:(jw.l0 k l0 0)=some r:=h;clear h;have H':=ak H;clear H;go_enter func69,ntmps69;go_wp2;go_loopg [3] k (fun kq v3 w'=>∃(dD:Int),v3= .int .i64 dD∧ah (jw.l0 kq l0 dD=some r)∧ah (kq≤k)∧fK w w')
 case atStart=>exact⟨(0),rs,H',⟨Nat.le_refl _⟩,dn⟩
 case round=>
  clear H';obtain⟨dD,rfl,HA,jv,⟨m1,rfl⟩⟩:=hrel
  cases gk with
  |zero=>exact absurd HA.out (by simp[jw.l0])
  |succ k1=>
   have H:=HA.out;clear HA;simp only[jw.l0]at H;have HC2:=ak H;clear H;go_upto_region 2 with(fail)
   go_cut [11] (fun v11 wc=>∃(kq:Nat) (wO:Bool),v11= .bool wO∧ah (jw.j1 kq l0 dD wO=some r)∧ah (kq≤k1)∧fK w wc)
   case first=>
    have H:=HC2.out;clear HC2;replace H:=sd H;rcases H with⟨gQ,H⟩|⟨gQ,H⟩
    ·(first|rw[gQ]|(simp only[bJ,b_];rw[gQ])|skip);have H':=ak H;clear H;go_wp2;go_meet
     case rel=>exact⟨_,(decide (dD≤30)),rs,H',⟨by have:=jv.out;first|omega|exact Nat.le_refl _⟩,dn⟩
    ·(first|rw[gQ]|(simp only[bJ,b_];rw[gQ])|skip);have H':=ak H;clear H;go_wp2;go_meet
     case rel=>exact⟨_,(false),rs,H',⟨by have:=jv.out;first|omega|exact Nat.le_refl _⟩,dn⟩
   case rest=>
    clear HC2;try clear p2
    try clear c3
    try clear gQ
    obtain⟨kq,wO,rfl,HA,FY,⟨mc1,rfl⟩⟩:=hcut
    cases kq with
    |zero=>exact absurd HA.out (by simp[jw.j1])
    |succ Mc=>
     have H:=HA.out;clear HA;simp only[jw.j1]at H;replace H:=sb H;rcases H with⟨rfl,H⟩|⟨rfl,H⟩
     ·replace H:=oW H;obtain⟨sH,H⟩:=H;replace H:=oW H;obtain⟨oC,H⟩:=H;replace H:=bd H;obtain⟨t236,A7,H⟩:=H;replace H:=sb H;rcases H with⟨rfl,H⟩|⟨rfl,H⟩
      ·have H':=ak H;clear H;have aeT:=zi dD;have aeU:=zj dD l0.length;obtain⟨aAl,avJ,apI⟩:=kV HR0.out dD aeT aeU;cases avJ;replace aeT:=eq_true aeT;replace aeU:=eq_true aeU;go_wp2_with (first|(refine gL 107 18 func107 #[.string (o8 ByteArray.empty l0 dD)] ?_;(with_reducible refine(bf.calls Mc (o8 ByteArray.empty l0 dD) true _ A7.out).mono ?_);rintro e w' ⟨rfl,⟨nd,rfl⟩⟩;refine⟨_,rfl,?_⟩))
       go_roundg Mc
       case measure=>have:=jv.out;have:=FY.out;omega
       case rel=>exact⟨(wrap64 (dD+1)),rs,H',⟨by have:=jv.out;have:=FY.out;omega⟩,dn⟩
      ·obtain rfl:=Option.some.inj H;have aeT:=zi dD;have aeU:=zj dD l0.length;obtain⟨aAl,avJ,apI⟩:=kV HR0.out dD aeT aeU;cases avJ;replace aeT:=eq_true aeT;replace aeU:=eq_true aeU;go_wp2_with (first|(refine gL 107 18 func107 #[.string (o8 ByteArray.empty l0 dD)] ?_;(with_reducible refine(bf.calls Mc (o8 ByteArray.empty l0 dD) false _ A7.out).mono ?_);rintro e w' ⟨rfl,⟨nd,rfl⟩⟩;refine⟨_,rfl,?_⟩))
       go_ret;exact⟨rs,dn⟩
     ·obtain rfl:=Option.some.inj H;go_wp2;go_ret;exact⟨rs,dn⟩
mutual
def fC.l0:Nat→ByteArray→Int→Int→Option (Int)
 |0,_,_,_=>none
 |k+1,x0,x5,x6=>if(wrap64 (x6+1))<(x0.size:Int)then(if 0≤x6 then(if x6<(x0.size:Int)then(if(bt x0 x6)=32 then(if 0≤(wrap64 (x6-1))then(if(wrap64 (x6-1))<(x0.size:Int)then(if(bt x0 (wrap64 (x6-1)))=32 then(fC.j1 k x0 x5 x6 true)else(if 0≤(wrap64 (x6+1))then(fC.j1 k x0 x5 x6 ((bt x0 (wrap64 (x6+1)))==32))else(none)))else(none))else(none))else(fC.j1 k x0 x5 x6 true))else(none))else(none))else(some x5)
def fC.j1:Nat→ByteArray→Int→Int→Bool→Option (Int)
 |0,_,_,_,_=>none
 |k+1,x0,x5,x6,x33=>if x33=true then(fC.l0 k x0 x5 (wrap64 (x6+1)))else(if x6≤40 then(fC.l0 k x0 x6 (wrap64 (x6+1)))else(if x5<0 then(fC.l0 k x0 x6 (wrap64 (x6+1)))else(fC.l0 k x0 x5 (wrap64 (x6+1)))))
end
def fC.f(k:Nat)(a0:ByteArray)(a1:Int):Option (Int):=fC.l0 k a0 (-1) (wrap64 (a1+1))
set_option maxHeartbeats 8000000 in
set_option maxRecDepth 100000 in
theorem fC.calls(k:Nat)(a0:ByteArray)(a1:Int)(r:Int)(w:World)(h:fC.f k a0 a1=some r):
  Calls Tryz.prog 152 #[.string a0, .int .i64 a1] w fun e w'=>e= .returned (.int .i64 r)∧fK w w':=by
 have H:(fC.l0 k a0 (-1) (wrap64 (a1+1)))=some r:=h;clear h;have H':=ak H;clear H;go_enter func152,ntmps152;go_wp2;go_loopg [5,6] k (fun kq v5 v6 w'=>∃(aJ:Int) (gX:Int),v5= .int .i64 aJ∧v6= .int .i64 gX∧ah (fC.l0 kq a0 aJ gX=some r)∧ah (kq≤k)∧fK w w')
 case atStart=>exact⟨((-1)),(wrap64 (a1+1)),rs,rs,H',⟨Nat.le_refl _⟩,dn⟩
 case round=>
  clear H';try clear c1
  try clear p2
  obtain⟨aJ,gX,rfl,rfl,HA,jv,⟨m1,rfl⟩⟩:=hrel
  cases gk with
  |zero=>exact absurd HA.out (by simp[fC.l0])
  |succ k1=>
   have H:=HA.out;clear HA;simp only[fC.l0]at H;replace H:=sp H;rcases H with⟨c3,H⟩|⟨c3,H⟩
   ·have gQ:=decide_eq_true c3
    (try(have rC:decide ((gX+1)<(a0.size:Int))=true:=decide_eq_true (by have h_:=c3;unfold wrap64 at h_;omega)));clear c3;have HC4:=ak H;clear H;go_upto_region 5 with(fail)
    go_cut [33] (fun v33 wc=>∃(kq:Nat) (amq:Bool),v33= .bool amq∧ah (fC.j1 kq a0 aJ gX amq=some r)∧ah (kq≤k1)∧fK w wc)
    case first=>
     have H:=HC4.out;clear HC4;replace H:=oW H;obtain⟨sH,H⟩:=H
     (first|rw[sH]|(simp only[bJ,b_];rw[sH])|skip);replace H:=oW H;obtain⟨oC,H⟩:=H;replace H:=sq H;rcases H with⟨yY,U8,H⟩|⟨c8,yY,U8,H⟩
     ·obtain⟨ji9,abr⟩:∃j_:Int,(wrap64 (gX-1))=j_:=⟨_,rfl⟩
      replace H:(if 0≤(ji9)then(if(ji9)<(a0.size:Int)then(if(bt a0 (ji9))=32 then(fC.j1 k1 a0 aJ gX true)else(if 0≤(wrap64 (gX+1))then(fC.j1 k1 a0 aJ gX ((bt a0 (wrap64 (gX+1)))==32))else(none)))else(none))else(none))=some r:=by first|(rw[abr]at H;exact H)|(simp only[abr]at H⊢;exact H)
      have az3:(IntKind.i64.wrap (gX-1))=ji9:=(bJ _).trans abr;replace H:=oW H;obtain⟨rP,H⟩:=H;replace H:=oW H;obtain⟨CJ,H⟩:=H;replace H:=sq H;rcases H with⟨xU,Gh,H⟩|⟨c13,xU,Gh,H⟩
      ·have H':=ak H;clear H;obtain⟨p7,q7,hx7⟩:=bx a0 gX;obtain⟨p12,q12,apE⟩:=bx a0 (ji9);go_wp2;go_meet
       case rel=>exact⟨_,(true),rs,H',⟨by have:=jv.out;first|omega|exact Nat.le_refl _⟩,dn⟩
      ·obtain⟨amr,ada⟩:∃j_:Int,(wrap64 (gX+1))=j_:=⟨_,rfl⟩
       replace H:(if 0≤(amr)then(fC.j1 k1 a0 aJ gX ((bt a0 (amr))==32))else(none))=some r:=by first|(rw[ada]at H;exact H)|(simp only[ada]at H⊢;exact H)
       (try rw[ada]at gQ);have aGh:(IntKind.i64.wrap (gX+1))=amr:=(bJ _).trans ada;replace H:=oW H;obtain⟨BN,H⟩:=H;have H':=ak H;clear H;obtain⟨p7,q7,hx7⟩:=bx a0 gX;obtain⟨p12,q12,apE⟩:=bx a0 (ji9);obtain⟨p16,q16,hx16⟩:=bx a0 (amr);go_wp2;go_meet
       case rel=>exact⟨_,(((bt a0 (amr))==32)),(by first|rfl|(simp;done)|(simp only[←ada]<;>(first|rfl|simp))|(simp[*];done)),H',⟨by have:=jv.out;first|omega|exact Nat.le_refl _⟩,dn⟩
     ·have H':=ak H;clear H;obtain⟨p7,q7,hx7⟩:=bx a0 gX;go_wp2;go_meet
      case rel=>exact⟨_,(true),rs,H',⟨by have:=jv.out;first|omega|exact Nat.le_refl _⟩,dn⟩
    case rest=>
     clear HC4;try clear c1
     try clear p1
     try clear q1
     try clear hx1
     try clear p2
     try clear c3
     try clear gQ
     try clear rC
     try clear c5
     try clear sH
     try clear c6
     try clear oC
     try clear p6
     try clear p7
     try clear q7
     try clear hx7
     try clear c8
     try clear yY
     try clear U8
     try clear c10
     try clear rP
     try clear c11
     try clear CJ
     try clear p12
     try clear q12
     try clear apE
     try clear c13
     try clear xU
     try clear Gh
     try clear c15
     try clear BN
     try clear p16
     try clear q16
     try clear hx16
     try clear p12
     try clear p16
     try clear p2
     try clear p7
     try clear q12
     try clear q16
     try clear q7
     obtain⟨kq,amq,rfl,HA,HJ3,⟨mc3,rfl⟩⟩:=hcut
     cases kq with
     |zero=>exact absurd HA.out (by simp[fC.j1])
     |succ kj3=>
      have H:=HA.out;clear HA;simp only[fC.j1]at H;replace H:=sb H;rcases H with⟨rfl,H⟩|⟨rfl,H⟩
      ·have H':=ak H;clear H;go_wp2;go_roundg kj3
       case measure=>have:=jv.out;have:=HJ3.out;omega
       case rel=>exact⟨(aJ),(wrap64 (gX+1)),rs,rs,H',⟨by have:=jv.out;have:=HJ3.out;omega⟩,dn⟩
      ·replace H:=sd H;rcases H with⟨H7,H⟩|⟨H7,H⟩
       ·have H':=ak H;clear H;go_wp2;go_roundg kj3
        case measure=>have:=jv.out;have:=HJ3.out;omega
        case rel=>exact⟨(gX),(wrap64 (gX+1)),rs,rs,H',⟨by have:=jv.out;have:=HJ3.out;omega⟩,dn⟩
       ·replace H:=sd H;rcases H with⟨Kz,H⟩|⟨Kz,H⟩
        ·have H':=ak H;clear H;go_wp2;go_roundg kj3
         case measure=>have:=jv.out;have:=HJ3.out;omega
         case rel=>exact⟨(gX),(wrap64 (gX+1)),rs,rs,H',⟨by have:=jv.out;have:=HJ3.out;omega⟩,dn⟩
        ·have H':=ak H;clear H;go_wp2;go_roundg kj3
         case measure=>have:=jv.out;have:=HJ3.out;omega
         case rel=>exact⟨(aJ),(wrap64 (gX+1)),rs,rs,H',⟨by have:=jv.out;have:=HJ3.out;omega⟩,dn⟩
   ·have gQ:=decide_eq_false c3
    (try(have rC:decide ((gX+1)<(a0.size:Int))=false:=decide_eq_false (by have h_:=c3;unfold wrap64 at h_;omega)));clear c3;obtain rfl:=Option.some.inj H;go_wp2;go_ret;exact⟨rs,dn⟩
mutual
def gJ.j0:Nat→List ByteArray→ByteArray→Int→Option (List ByteArray)
 |0,_,_,_=>none
 |k+1,x3,x4,x5=>gJ.l0 k x3 x4 x5
def gJ.l0:Nat→List ByteArray→ByteArray→Int→Option (List ByteArray)
 |0,_,_,_=>none
 |k+1,x3,x4,x5=>if(x4.size:Int)>40 then((fC.f k x4 x5).bind fun TJ=>(if TJ<0 then(if x3.length<8796093022208 then(some (x3++[x4]))else(none))else(if 0≤TJ then(if TJ≤(x4.size:Int)then(if x3.length<8796093022208 then(gJ.l0 k (x3++[x4.extract 0 (TJ:Int).toNat]) (x4.extract (TJ:Int).toNat x4.size) 1)else(none))else(none))else(none))))else(if x3.length<8796093022208 then(some (x3++[x4]))else(none))
end
def gJ.f(k:Nat)(bn:ByteArray)(bI:ByteArray):Option (List ByteArray):=(some (([]:List ByteArray):List ByteArray)).bind fun YW=>((lY.f k bn bI).bind fun apJ=>(if apJ=true then(if bn.size+1≤9223372036854775807 then(if bI.toList=([]:List UInt8)then(gJ.j0 k YW (bn++(⟨#[58]⟩:ByteArray)) ((bn++(⟨#[58]⟩:ByteArray)).size:Int))else(if(bn++(⟨#[58]⟩:ByteArray)).size+1≤9223372036854775807 then(if((bn++(⟨#[58]⟩:ByteArray))++(⟨#[32]⟩:ByteArray)).size+bI.size≤9223372036854775807 then(gJ.j0 k YW (((bn++(⟨#[58]⟩:ByteArray))++(⟨#[32]⟩:ByteArray))++bI) (wrap64 (((bn++(⟨#[58]⟩:ByteArray)).size:Int)+1)))else(none))else(none)))else(none))else(some YW)))
theorem gJ.calls(k:Nat)(bn:ByteArray)(bI:ByteArray)(r:List ByteArray)(w:World)(h:gJ.f k bn bI=some r):
  Calls Tryz.prog 135 #[.agg #[.string bn, .string bI]] w fun e w'=>∃qZ:Value,e= .returned (qZ)∧Kd.R Kd.string 9 w' w.heap.size (fun _=>True) qZ r∧Below w.heap.size w w':=by
 have I5:=underlying63;have HB:=ak (Below.refl w.heap.size w);have H:((some (([]:List ByteArray):List ByteArray)).bind fun YW=>((lY.f k bn bI).bind fun apJ=>(if apJ=true then(if bn.size+1≤9223372036854775807 then(if bI.toList=([]:List UInt8)then(gJ.j0 k YW (bn++(⟨#[58]⟩:ByteArray)) ((bn++(⟨#[58]⟩:ByteArray)).size:Int))else(if(bn++(⟨#[58]⟩:ByteArray)).size+1≤9223372036854775807 then(if((bn++(⟨#[58]⟩:ByteArray))++(⟨#[32]⟩:ByteArray)).size+bI.size≤9223372036854775807 then(gJ.j0 k YW (((bn++(⟨#[58]⟩:ByteArray))++(⟨#[32]⟩:ByteArray))++bI) (wrap64 (((bn++(⟨#[58]⟩:ByteArray)).size:Int)+1)))else(none))else(none)))else(none))else(some YW))))=some r:=h;clear h;replace H:=ny H;obtain⟨YW,as8,H⟩:=H;replace H:=bd H;obtain⟨apJ,A2,H⟩:=H;replace H:=sb H;rcases H with⟨rfl,H⟩|⟨rfl,H⟩
 ·replace H:=nn H;obtain⟨c4,H⟩:=H;have oM:=eq_true c4;have WV:=decide_eq_true c4;try have avK:(9223372036854775807<bn.size+1)=False:=eq_false (Nat.not_lt.2 c4)
  have HC5:=ak H;clear H;go_enter func135,ntmps135;go_upto_if 19 with(first|(refine bX HB 1 #[.string bn, .string bI] 63 ?_;intro ZH w6 tY aAm hb;replace HB:=bs HB hb;clear hb)|(refine lRN 7 Kd.string 9 as8 ?_;intro aAn w7 Us hb;have UJ:=ak (bP Us (aj bb));replace tY:=kb tY hb;replace HB:=bz HB hb;clear hb Us;have z9:=AA tY.out)|(refine gB func106 (lY.calls k bn bI true _ A2.out) ?_;intro w10 hb;replace UJ:=rb UJ hb;replace tY:=kb tY hb;replace HB:=bz HB hb;clear hb;have z11:=AA tY.out))
  (try simp only[Act.put,jB,jC,l_c]);go_cut [4,5] (fun v4 v5 wc=>∃(kq:Nat) (avL:ByteArray) (avM:Int),v4= .string avL∧v5= .int .i64 avM∧ah (gJ.j0 kq YW avL avM=some r)∧ah (kq≤k)∧ah (Kd.R Kd.string 9 wc w.heap.size (fun _=>True) aAn YW)∧ah (wc.heap[ZH]? =some (.cells #[.string bn, .string bI] 63 (0,0)))∧ah (Below w.heap.size w wc))
  case first=>
   have H:=HC5.out;clear HC5;replace H:=sp H;rcases H with⟨c12,H⟩|⟨c12,H⟩
   ·have yL:=beq_iff_eq.mpr c12;have avN:(bI.toList).isEmpty=true:=List.isEmpty_iff.mpr c12;have Ky:=bne_eq_false_iff_eq.mpr c12;clear c12
    (first|rw[yL]|(simp only[bJ,b_];rw[yL])|skip)
    (first|(rw[avN];simp only[Bool.not_true,Bool.not_false])|skip);have H':=ak H;clear H;go_wp2;go_meet
    case rel=>exact⟨_,_,_,rs,rs,H',⟨YT⟩,⟨ur UJ.out⟩,⟨ub tY.out⟩,⟨bb⟩⟩
   ·have yL:=beq_eq_false_iff_ne.mpr c12;have avN:(bI.toList).isEmpty=false:=List.isEmpty_eq_false_iff.mpr c12;have Ky:=bne_iff_ne.mpr c12
    (first|rw[yL]|(simp only[bJ,b_];rw[yL])|skip)
    (first|(rw[avN];simp only[Bool.not_true,Bool.not_false])|skip);replace H:=nn H;obtain⟨c13,H⟩:=H;have xU:=eq_true c13;have Gh:=decide_eq_true c13;try have ayz:(9223372036854775807<bn.size+1+1)=False:=by have h_:=(eq_false (Nat.not_lt.2 c13):(9223372036854775807<(bn++(⟨#[58]⟩:ByteArray)).size+1)=False);simp only[ByteArray.size_append]at h_;exact h_
    try have ayA:(9223372036854775807<(bn++(⟨#[58]⟩:ByteArray)).size+1)=False:=eq_false (Nat.not_lt.2 c13)
    replace H:=nn H;obtain⟨c14,H⟩:=H;have Ap:=eq_true c14;have JM:=decide_eq_true c14;try have aI5:(9223372036854775807<bn.size+1+1+bI.size)=False:=by have h_:=(eq_false (Nat.not_lt.2 c14):(9223372036854775807<((bn++(⟨#[58]⟩:ByteArray))++(⟨#[32]⟩:ByteArray)).size+bI.size)=False);simp only[ByteArray.size_append]at h_;exact h_
    try have az4:(9223372036854775807<((bn++(⟨#[58]⟩:ByteArray))++(⟨#[32]⟩:ByteArray)).size+bI.size)=False:=eq_false (Nat.not_lt.2 c14)
    have H':=ak H;clear H;have z15:=AA tY.out;go_wp2;go_meet
    case rel=>exact⟨_,_,_,rs,rs,H',⟨YT⟩,⟨ur UJ.out⟩,⟨ub tY.out⟩,⟨bb⟩⟩
  case rest=>
   clear HC5;try clear c4
   try clear oM
   try clear WV
   try clear avK
   obtain⟨kq,avL,avM,rfl,rfl,HA,HJ4,kN,tY,HB⟩:=hcut
   cases kq with
   |zero=>exact zz HA.out
   |succ kj4=>
    obtain⟨H⟩:=HA;simp only[gJ.j0]at H;have H':=ak H;clear H;go_wp2;go_loopg [3,4,5] kj4 (fun kq v3 v4 v5 w'=>∃(nS:List ByteArray) (nG:ByteArray) (rV:Int),v4= .string nG∧v5= .int .i64 rV∧ah (gJ.l0 kq nS nG rV=some r)∧ah (kq≤kj4)∧ah (Kd.R Kd.string 9 w' w.heap.size (fun _=>True) v3 nS)∧ah (w'.heap[ZH]? =some (.cells #[.string bn, .string bI] 63 (0,0)))∧ah (Below w.heap.size w w'))
    case atStart=>exact⟨_,_,_,rs,rs,H',⟨Nat.le_refl _⟩,⟨ur kN.out⟩,⟨ub tY.out⟩,⟨bb⟩⟩
    case round=>
     clear H';try clear c4
     try clear oM
     try clear WV
     try clear avK
     obtain⟨nS,nG,rV,rfl,rfl,HA,HK2,kN,tY,HB⟩:=hrel
     cases gk with
     |zero=>exact zz HA.out
     |succ k2=>
      obtain⟨H⟩:=HA;simp only[gJ.l0]at H;replace H:=sp H;rcases H with⟨c16,H⟩|⟨c16,H⟩
      ·have EI:decide (40<(nG.size:Int))=true:=decide_eq_true c16;have amo:decide (40<nG.size)=true:=decide_eq_true (by omega);clear c16;replace H:=bd H;obtain⟨TJ,A17,H⟩:=H;replace H:=sd H;rcases H with⟨H7,H⟩|⟨H7,H⟩
       ·replace H:=nl H;obtain⟨akJ,H⟩:=H;obtain⟨aLJ,as9⟩:=nm (nS++[nG]);rw[←as9.out]at H;obtain rfl:=s1 H;go_wp2_with (first|(refine gA func152 (fC.calls k2 nG rV TJ _ A17.out) ?_;intro nd)|((with_reducible refine dS (b:= .append) (xs:=#[.tmp 44, .tmp 46]) rfl ?_);at_builtin;refine mD Kd.string (w0:=w) w.heap.size rfl (.tmp 44) (.tmp 46) 23 9 (.string ⟨#[]⟩) 16 rfl underlying23 info9 rfl (by decide) (by omega) u3 nS nG [.string nG] (fun _=>True) (fun _=>False) rfl rfl ?aP (fun _ hk=>hk.elim) ?aF ?aO ?aB ?aS ?aL ?_;(case aP=>exact rfl);(case aB=>exact bb);(case aF=>exact(fun _ _=>trivial));(case aO=>exact(ur kN.out));(case aS=>exact(aj bb));(case aL=>have:=akJ.out;omega);intro aLK w20 ho hb hg hat;rw[←as9.out]at ho;have aAo:=ak (ho);replace tY:=ak (eu (g:=ZH) (o:= .cells #[.string bn, .string bI] 63 (0,0)) (ub tY.out) hg (um kN.out tY.out (by decide)));replace HB:=ak (hb);clear ho hb hg hat kN))
        go_ret;exact⟨_,er,ur aAo.out,bb⟩
       ·replace H:=I4 H;obtain⟨CO,arQ,H⟩:=H;replace H:=I4 H;obtain⟨JO,arR,H⟩:=H;replace H:=nl H;obtain⟨ams,H⟩:=H;obtain⟨aLL,ata⟩:=nm (nS++[nG.extract 0 (TJ:Int).toNat]);rw[←ata.out]at H;have Zt:=eq_true (of_decide_eq_true (by assumption):0≤TJ);have acN:=eq_true (of_decide_eq_true (by assumption):TJ≤(nG.size:Int));have H':=ak H;clear H;go_wp2_with (first|(refine gA func152 (fC.calls k2 nG rV TJ _ A17.out) ?_;intro nd)|((with_reducible refine dS (b:= .append) (xs:=#[.tmp 35, .tmp 39]) rfl ?_);at_builtin;refine mD Kd.string (w0:=w) w.heap.size rfl (.tmp 35) (.tmp 39) 23 9 (.string ⟨#[]⟩) 16 rfl underlying23 info9 rfl (by decide) (by omega) u3 nS (nG.extract 0 (TJ:Int).toNat) [.string (nG.extract 0 (TJ:Int).toNat)] (fun _=>True) (fun _=>False) rfl rfl ?aP (fun _ hk=>hk.elim) ?aF ?aO ?aB ?aS ?aL ?_;(case aP=>exact rfl);(case aB=>exact bb);(case aF=>exact(fun _ _=>trivial));(case aO=>exact(ur kN.out));(case aS=>exact(aj bb));(case aL=>have:=ams.out;omega);intro aLM w26 ho hb hg hat;rw[←ata.out]at ho;have aAp:=ak (ho);replace tY:=ak (eu (g:=ZH) (o:= .cells #[.string bn, .string bI] 63 (0,0)) (ub tY.out) hg (um kN.out tY.out (by decide)));replace HB:=ak (hb);clear ho hb hg hat kN))
        go_roundg k2
        case measure=>exact kl
        case rel=>exact⟨_,_,_,rs,rs,H',⟨kl⟩,⟨ur aAp.out⟩,⟨ub tY.out⟩,⟨bb⟩⟩
      ·have EI:decide (40<(nG.size:Int))=false:=decide_eq_false c16;have amo:decide (40<nG.size)=false:=decide_eq_false (by omega);clear c16;replace H:=nl H;obtain⟨amn,H⟩:=H;obtain⟨aLN,atb⟩:=nm (nS++[nG]);rw[←atb.out]at H;obtain rfl:=s1 H;go_wp2_with ((with_reducible refine dS (b:= .append) (xs:=#[.tmp 44, .tmp 46]) rfl ?_);at_builtin;refine mD Kd.string (w0:=w) w.heap.size rfl (.tmp 44) (.tmp 46) 23 9 (.string ⟨#[]⟩) 16 rfl underlying23 info9 rfl (by decide) (by omega) u3 nS nG [.string nG] (fun _=>True) (fun _=>False) rfl rfl ?aP (fun _ hk=>hk.elim) ?aF ?aO ?aB ?aS ?aL ?_;(case aP=>exact rfl);(case aB=>exact bb);(case aF=>exact(fun _ _=>trivial));(case aO=>exact(ur kN.out));(case aS=>exact(aj bb));(case aL=>have:=amn.out;omega);intro aLO w28 ho hb hg hat;rw[←atb.out]at ho;have aAq:=ak (ho);replace tY:=ak (eu (g:=ZH) (o:= .cells #[.string bn, .string bI] 63 (0,0)) (ub tY.out) hg (um kN.out tY.out (by decide)));replace HB:=ak (hb);clear ho hb hg hat kN)
       go_ret;exact⟨_,er,ur aAq.out,bb⟩
 ·obtain rfl:=s1 H;go_enter func135,ntmps135;go_wp2_with (first|(refine bX HB 1 #[.string bn, .string bI] 63 ?_;intro ZH w29 tY aAm hb;replace HB:=bs HB hb;clear hb)|(refine lRN 7 Kd.string 9 as8 ?_;intro aAn w30 aAr hb;have UJ:=ak (bP aAr (aj bb));replace tY:=kb tY hb;replace HB:=bz HB hb;clear hb aAr;have z32:=AA tY.out)|(refine gB func106 (lY.calls k bn bI false _ A2.out) ?_;intro w33 hb;replace UJ:=rb UJ hb;replace tY:=kb tY hb;replace HB:=bz HB hb;clear hb))
  go_ret;exact⟨_,er,ur UJ.out,bb⟩
mutual
def eX.l0:Nat→ByteArray→Int→Option (Bool)
 |0,_,_=>none
 |k+1,x0,x3=>if x3<(x0.size:Int)then(eX.j1 k x0 x3 (decide (x3≤40)))else(eX.j1 k x0 x3 false)
def eX.j1:Nat→ByteArray→Int→Bool→Option (Bool)
 |0,_,_,_=>none
 |k+1,x0,x3,x11=>if x11=true then(if 0≤x3 then(if x3<(x0.size:Int)then((jO.f k (bt x0 x3)).bind fun aAs=>(if aAs=true then(eX.l0 k x0 (wrap64 (x3+1)))else(some false)))else(none))else(none))else(if(x0.size:Int)≥1 then(some (decide ((x0.size:Int)≤40)))else(some false))
end
def eX.f(k:Nat)(a0:ByteArray):Option (Bool):=eX.l0 k a0 0
set_option maxHeartbeats 8000000 in
set_option maxRecDepth 100000 in
theorem eX.calls(k:Nat)(a0:ByteArray)(r:Bool)(w:World)(h:eX.f k a0=some r):
  Calls Tryz.prog 153 #[.string a0] w fun e w'=>e= .returned (.bool r)∧fK w w':=by
 have H:(eX.l0 k a0 0)=some r:=h;clear h;have H':=ak H;clear H;go_enter func153,ntmps153;go_wp2;go_loopg [3] k (fun kq v3 w'=>∃(dD:Int),v3= .int .i64 dD∧ah (eX.l0 kq a0 dD=some r)∧ah (kq≤k)∧fK w w')
 case atStart=>exact⟨(0),rs,H',⟨Nat.le_refl _⟩,dn⟩
 case round=>
  clear H';try clear c1
  obtain⟨dD,rfl,HA,jv,⟨m1,rfl⟩⟩:=hrel
  cases gk with
  |zero=>exact absurd HA.out (by simp[eX.l0])
  |succ k1=>
   have H:=HA.out;clear HA;simp only[eX.l0]at H;have HC2:=ak H;clear H;go_upto_region 2 with(fail)
   go_cut [11] (fun v11 wc=>∃(kq:Nat) (wO:Bool),v11= .bool wO∧ah (eX.j1 kq a0 dD wO=some r)∧ah (kq≤k1)∧fK w wc)
   case first=>
    have H:=HC2.out;clear HC2;replace H:=sd H;rcases H with⟨gQ,H⟩|⟨gQ,H⟩
    ·(first|rw[gQ]|(simp only[bJ,b_];rw[gQ])|skip);have H':=ak H;clear H;go_wp2;go_meet
     case rel=>exact⟨_,(decide (dD≤40)),rs,H',⟨by have:=jv.out;first|omega|exact Nat.le_refl _⟩,dn⟩
    ·(first|rw[gQ]|(simp only[bJ,b_];rw[gQ])|skip);have H':=ak H;clear H;go_wp2;go_meet
     case rel=>exact⟨_,(false),rs,H',⟨by have:=jv.out;first|omega|exact Nat.le_refl _⟩,dn⟩
   case rest=>
    clear HC2;try clear c1
    try clear p2
    try clear c3
    try clear gQ
    obtain⟨kq,wO,rfl,HA,FY,⟨mc1,rfl⟩⟩:=hcut
    cases kq with
    |zero=>exact absurd HA.out (by simp[eX.j1])
    |succ Mc=>
     have H:=HA.out;clear HA;simp only[eX.j1]at H;replace H:=sb H;rcases H with⟨rfl,H⟩|⟨rfl,H⟩
     ·replace H:=oW H;obtain⟨sH,H⟩:=H;replace H:=oW H;obtain⟨oC,H⟩:=H;replace H:=bd H;obtain⟨aAs,A8,H⟩:=H;replace H:=sb H;rcases H with⟨rfl,H⟩|⟨rfl,H⟩
      ·have H':=ak H;clear H;obtain⟨p7,q7,hx7⟩:=bx a0 dD;go_wp2_with (first|(refine gL 138 17 func138 #[.int .u8 (bt a0 dD)] ?_;(with_reducible refine(jO.calls Mc (bt a0 dD) true _ A8.out).mono ?_);rintro e w' ⟨rfl,⟨nd,rfl⟩⟩;refine⟨_,rfl,?_⟩))
       go_roundg Mc
       case measure=>have:=jv.out;have:=FY.out;omega
       case rel=>exact⟨(wrap64 (dD+1)),rs,H',⟨by have:=jv.out;have:=FY.out;omega⟩,dn⟩
      ·obtain rfl:=Option.some.inj H;obtain⟨p7,q7,hx7⟩:=bx a0 dD;go_wp2_with (first|(refine gL 138 17 func138 #[.int .u8 (bt a0 dD)] ?_;(with_reducible refine(jO.calls Mc (bt a0 dD) false _ A8.out).mono ?_);rintro e w' ⟨rfl,⟨nd,rfl⟩⟩;refine⟨_,rfl,?_⟩))
       go_ret;exact⟨rs,dn⟩
     ·replace H:=sp H;rcases H with⟨c10,H⟩|⟨c10,H⟩
      ·have rP:decide (1≤(a0.size:Int))=true:=decide_eq_true c10;have y8:decide (1≤a0.size)=true:=decide_eq_true (by omega);clear c10;obtain rfl:=Option.some.inj H;go_wp2;go_ret;exact⟨rs,dn⟩
      ·have rP:decide (1≤(a0.size:Int))=false:=decide_eq_false c10;have y8:decide (1≤a0.size)=false:=decide_eq_false (by omega);clear c10;obtain rfl:=Option.some.inj H;go_wp2;go_ret;exact⟨rs,dn⟩
def jZ.l0:Nat→ByteArray→ByteArray→Int→Option (ByteArray)
 |0,_,_,_=>none
 |k+1,x0,x3,x4=>if x4<(x0.size:Int)then(if 0≤x4 then(if(bt x0 x4)=34 then((some (([92]:List Int):List Int)).bind fun y159=>(if x3.size+(strOfNums y159).size≤9223372036854775807 then(if x4≤(wrap64 (x4+1))then(if(wrap64 (x4+1))≤(x0.size:Int)then(if(x3++(strOfNums y159)).size+(x0.extract (x4:Int).toNat ((wrap64 (x4+1)):Int).toNat).size≤9223372036854775807 then(jZ.l0 k x0 ((x3++(strOfNums y159))++(x0.extract (x4:Int).toNat ((wrap64 (x4+1)):Int).toNat)) (wrap64 (x4+1)))else(none))else(none))else(none))else(none)))else(if(bt x0 x4)=92 then((some (([92]:List Int):List Int)).bind fun YX=>(if x3.size+(strOfNums YX).size≤9223372036854775807 then(if x4≤(wrap64 (x4+1))then(if(wrap64 (x4+1))≤(x0.size:Int)then(if(x3++(strOfNums YX)).size+(x0.extract (x4:Int).toNat ((wrap64 (x4+1)):Int).toNat).size≤9223372036854775807 then(jZ.l0 k x0 ((x3++(strOfNums YX))++(x0.extract (x4:Int).toNat ((wrap64 (x4+1)):Int).toNat)) (wrap64 (x4+1)))else(none))else(none))else(none))else(none)))else(if x4≤(wrap64 (x4+1))then(if(wrap64 (x4+1))≤(x0.size:Int)then(if x3.size+(x0.extract (x4:Int).toNat ((wrap64 (x4+1)):Int).toNat).size≤9223372036854775807 then(jZ.l0 k x0 (x3++(x0.extract (x4:Int).toNat ((wrap64 (x4+1)):Int).toNat)) (wrap64 (x4+1)))else(none))else(none))else(none))))else(none))else(if x3.size+1≤9223372036854775807 then(some (x3++(⟨#[34]⟩:ByteArray)))else(none))
def jZ.f(k:Nat)(a0:ByteArray):Option (ByteArray):=jZ.l0 k a0 (⟨#[34]⟩:ByteArray) 0
set_option maxHeartbeats 8000000 in
set_option maxRecDepth 100000 in
theorem jZ.calls(k:Nat)(a0:ByteArray)(r:ByteArray)(w:World)(h:jZ.f k a0=some r):
  Calls Tryz.prog 154 #[.string a0] w fun e w'=>e= .returned (.string r)∧Below w.heap.size w w':=by
 have HB:=ak (Below.refl w.heap.size w);have H:(jZ.l0 k a0 (⟨#[34]⟩:ByteArray) 0)=some r:=h;clear h;have H':=ak H;clear H;go_enter func154,ntmps154;go_wp2;go_loopg [3,4] k (fun kq v3 v4 w'=>∃(dD:ByteArray) (eF:Int),v3= .string dD∧v4= .int .i64 eF∧ah (jZ.l0 kq a0 dD eF=some r)∧ah (kq≤k)∧ah (Below w.heap.size w w'))
 case atStart=>exact⟨((⟨#[34]⟩:ByteArray)),(0),rs,rs,H',⟨Nat.le_refl _⟩,⟨ul HB.out⟩⟩
 case round=>
  clear H';try clear c1
  obtain⟨dD,eF,rfl,rfl,HA,jv,HB⟩:=hrel
  cases gk with
  |zero=>exact absurd HA.out (by simp[jZ.l0])
  |succ k1=>
   have H:=HA.out;clear HA;simp only[jZ.l0]at H;replace H:=sd H;rcases H with⟨vw,H⟩|⟨vw,H⟩
   ·replace H:=oW H;obtain⟨gQ,H⟩:=H;replace H:=sq H;rcases H with⟨sH,abk,H⟩|⟨c5,sH,abk,H⟩
    ·obtain⟨y159,amu⟩:=nm ([92]:List Int);rw[←amu.out]at H
     (try rw[Option.bind_some]at H);replace H:=nn H;obtain⟨c6,H⟩:=H;have oC:=eq_true c6;have AB:=decide_eq_true c6;try have aGa:(9223372036854775807<dD.size+(strOfNums y159).size)=False:=eq_false (Nat.not_lt.2 c6)
     have rU:=eq_true (of_decide_eq_true (by assumption):0≤eF);replace H:=nn H;obtain⟨c8,H⟩:=H;have yY:=eq_true c8;have U8:=decide_eq_true c8;replace H:=nn H;obtain⟨c9,H⟩:=H;have y5:=eq_true c9;have S_:=decide_eq_true c9;replace H:=nn H;obtain⟨c10,H⟩:=H;have rP:=eq_true c10;have y8:=decide_eq_true c10;try have aI6:(9223372036854775807<dD.size+(strOfNums y159).size+((a0.extract (eF:Int).toNat ((wrap64 (eF+1)):Int).toNat).size))=False:=by have h_:=c10;simp only[ByteArray.size_append,ByteArray.size_extract]at h_;refine eq_false ?_;simp only[decide_eq_true_eq]at*;omega
     try have ayy:(9223372036854775807<dD.size+(strOfNums y159).size+((a0.extract (eF:Int).toNat ((wrap64 (eF+1)):Int).toNat).size))=False:=by have h_:=(eq_false (Nat.not_lt.2 c10):(9223372036854775807<(dD++(strOfNums y159)).size+(a0.extract (eF:Int).toNat ((wrap64 (eF+1)):Int).toNat).size)=False);simp only[ByteArray.size_append]at h_;exact h_
     try have ak3:(9223372036854775807<(dD++(strOfNums y159)).size+(a0.extract (eF:Int).toNat ((wrap64 (eF+1)):Int).toNat).size)=False:=eq_false (Nat.not_lt.2 c10)
     have H':=ak H;clear H;obtain⟨p4,q4,hx4⟩:=bx a0 eF;go_wp2_with (first|((with_reducible refine fZ (N:=22) rfl ?_);refine Es (Kd.int .u8) _ 5 ?hg (N:=22) ?hd (xs:=([92]:List Int)) (inner:=[.int .u8 92]) (ok:=fun _=>True) (rE:=fun _=>True) ?hr ?hp (fun _ hk=>hk) trivial (Below.refl _ _) (Nat.le_refl _) (by simp) ?_;(case hd=>rfl);(case hg=>rfl);(case hr=>first|(go_simp;done)|(go_simp;rfl));(case hp=>exact(jJ.one (show Kd.M (Kd.int .u8) _ _ _ 92 [.int .u8 92]from rfl) (jJ.none _ _)));intro v160 xk BP hb wI lD;clear wI lD;(first|rw[←amu.out]at BP|(simp only[Int.reduceToNat]at BP;rw[←amu.out]at BP));have aAt:=ak (bP BP (aj (ul HB.out)));replace HB:=bs HB hb;clear hb BP;have aI7:=EG (P:=Tryz.prog) underlying77 underlying5 underlying9 (EH aAt.out)))
     go_roundg k1
     case measure=>have:=jv.out;omega
     case rel=>exact⟨((dD++(strOfNums y159))++(a0.extract (eF:Int).toNat ((wrap64 (eF+1)):Int).toNat)),(wrap64 (eF+1)),rs,rs,H',⟨by have:=jv.out;omega⟩,⟨ul HB.out⟩⟩
    ·replace H:=sq H;rcases H with⟨BN,Zr,H⟩|⟨c15,BN,Zr,H⟩
     ·obtain⟨YX,amv⟩:=nm ([92]:List Int);rw[←amv.out]at H
      (try rw[Option.bind_some]at H);replace H:=nn H;obtain⟨c16,H⟩:=H;have EI:=eq_true c16;have amo:=decide_eq_true c16;try have aI8:(9223372036854775807<dD.size+(strOfNums YX).size)=False:=eq_false (Nat.not_lt.2 c16)
      have yM:=eq_true (of_decide_eq_true (by assumption):0≤eF);replace H:=nn H;obtain⟨c18,H⟩:=H;have H7:=eq_true c18;have ac9:=decide_eq_true c18;replace H:=nn H;obtain⟨c19,H⟩:=H;have Kz:=eq_true c19;have Pz:=decide_eq_true c19;replace H:=nn H;obtain⟨c20,H⟩:=H;have acM:=eq_true c20;have ags:=decide_eq_true c20;try have aI9:(9223372036854775807<dD.size+(strOfNums YX).size+((a0.extract (eF:Int).toNat ((wrap64 (eF+1)):Int).toNat).size))=False:=by have h_:=c20;simp only[ByteArray.size_append,ByteArray.size_extract]at h_;refine eq_false ?_;simp only[decide_eq_true_eq]at*;omega
      try have aI_:(9223372036854775807<dD.size+(strOfNums YX).size+((a0.extract (eF:Int).toNat ((wrap64 (eF+1)):Int).toNat).size))=False:=by have h_:=(eq_false (Nat.not_lt.2 c20):(9223372036854775807<(dD++(strOfNums YX)).size+(a0.extract (eF:Int).toNat ((wrap64 (eF+1)):Int).toNat).size)=False);simp only[ByteArray.size_append]at h_;exact h_
      try have aJa:(9223372036854775807<(dD++(strOfNums YX)).size+(a0.extract (eF:Int).toNat ((wrap64 (eF+1)):Int).toNat).size)=False:=eq_false (Nat.not_lt.2 c20)
      have H':=ak H;clear H;obtain⟨p4,q4,hx4⟩:=bx a0 eF;obtain⟨p14,q14,ayq⟩:=bx a0 eF;go_wp2_with (first|((with_reducible refine fZ (N:=22) rfl ?_);refine Es (Kd.int .u8) _ 5 ?hg (N:=22) ?hd (xs:=([92]:List Int)) (inner:=[.int .u8 92]) (ok:=fun _=>True) (rE:=fun _=>True) ?hr ?hp (fun _ hk=>hk) trivial (Below.refl _ _) (Nat.le_refl _) (by simp) ?_;(case hd=>rfl);(case hg=>rfl);(case hr=>first|(go_simp;done)|(go_simp;rfl));(case hp=>exact(jJ.one (show Kd.M (Kd.int .u8) _ _ _ 92 [.int .u8 92]from rfl) (jJ.none _ _)));intro aLP w21 amw hb wI lD;clear wI lD;(first|rw[←amv.out]at amw|(simp only[Int.reduceToNat]at amw;rw[←amv.out]at amw));have aAu:=ak (bP amw (aj (ul HB.out)));replace HB:=bs HB hb;clear hb amw;have aJb:=EG (P:=Tryz.prog) underlying77 underlying5 underlying9 (EH aAu.out)))
      go_roundg k1
      case measure=>have:=jv.out;omega
      case rel=>exact⟨((dD++(strOfNums YX))++(a0.extract (eF:Int).toNat ((wrap64 (eF+1)):Int).toNat)),(wrap64 (eF+1)),rs,rs,H',⟨by have:=jv.out;omega⟩,⟨ul HB.out⟩⟩
     ·have Zt:=eq_true (of_decide_eq_true (by assumption):0≤eF);replace H:=nn H;obtain⟨c25,H⟩:=H;have acN:=eq_true c25;have az1:=decide_eq_true c25;replace H:=nn H;obtain⟨c26,H⟩:=H;have WU:=eq_true c26;have akN:=decide_eq_true c26;replace H:=nn H;obtain⟨c27,H⟩:=H;have PD:=eq_true c27;have akO:=decide_eq_true c27;try have aJc:(9223372036854775807<dD.size+((a0.extract (eF:Int).toNat ((wrap64 (eF+1)):Int).toNat).size))=False:=by have h_:=c27;simp only[ByteArray.size_append,ByteArray.size_extract]at h_;refine eq_false ?_;simp only[decide_eq_true_eq]at*;omega
      try have aJd:(9223372036854775807<dD.size+(a0.extract (eF:Int).toNat ((wrap64 (eF+1)):Int).toNat).size)=False:=eq_false (Nat.not_lt.2 c27)
      have H':=ak H;clear H;obtain⟨p4,q4,hx4⟩:=bx a0 eF;obtain⟨p14,q14,ayq⟩:=bx a0 eF;go_wp2;go_roundg k1
      case measure=>have:=jv.out;omega
      case rel=>exact⟨(dD++(a0.extract (eF:Int).toNat ((wrap64 (eF+1)):Int).toNat)),(wrap64 (eF+1)),rs,rs,H',⟨by have:=jv.out;omega⟩,⟨ul HB.out⟩⟩
   ·replace H:=nn H;obtain⟨c28,H⟩:=H;have NH:=eq_true c28;have agu:=decide_eq_true c28;try have aJe:(9223372036854775807<dD.size+1)=False:=eq_false (Nat.not_lt.2 c28)
    obtain rfl:=Option.some.inj H;go_wp2;go_ret;exact⟨er,ul HB.out⟩
def uF.f(k:Nat)(a0:ByteArray):Option (ByteArray):=(bf.f k a0).bind fun apK=>(if apK=true then((eX.f k a0).bind fun apL=>(if apL=true then(some a0)else((jZ.f k a0).bind fun t167=>(some t167))))else(some (⟨#[]⟩:ByteArray)))
set_option maxHeartbeats 8000000 in
set_option maxRecDepth 100000 in
theorem uF.calls(k:Nat)(a0:ByteArray)(r:ByteArray)(w:World)(h:uF.f k a0=some r):
  Calls Tryz.prog 141 #[.string a0] w fun e w'=>e= .returned (.string r)∧Below w.heap.size w w':=by
 have HB:=ak (Below.refl w.heap.size w);have H:((bf.f k a0).bind fun apK=>(if apK=true then((eX.f k a0).bind fun apL=>(if apL=true then(some a0)else((jZ.f k a0).bind fun t167=>(some t167))))else(some (⟨#[]⟩:ByteArray))))=some r:=h;clear h;replace H:=bd H;obtain⟨apK,A2,H⟩:=H;replace H:=sb H;rcases H with⟨rfl,H⟩|⟨rfl,H⟩
 ·replace H:=bd H;obtain⟨apL,A4,H⟩:=H;replace H:=sb H;rcases H with⟨rfl,H⟩|⟨rfl,H⟩
  ·obtain rfl:=Option.some.inj H;go_enter func141,ntmps141;go_wp2_with (first|(refine gL 107 4 func107 #[.string a0] ?_;(with_reducible refine(bf.calls k a0 true _ A2.out).mono ?_);rintro e w' ⟨rfl,⟨nd,rfl⟩⟩;refine⟨_,rfl,?_⟩)|(refine gL 153 7 func153 #[.string a0] ?_;(with_reducible refine(eX.calls k a0 true _ A4.out).mono ?_);rintro e w' ⟨rfl,⟨nd,rfl⟩⟩;refine⟨_,rfl,?_⟩))
   go_ret;exact⟨er,ul HB.out⟩
  ·replace H:=bd H;obtain⟨t167,A6,H⟩:=H;obtain rfl:=Option.some.inj H;go_enter func141,ntmps141;go_wp2_with (first|(refine gL 107 4 func107 #[.string a0] ?_;(with_reducible refine(bf.calls k a0 true _ A2.out).mono ?_);rintro e w' ⟨rfl,⟨nd,rfl⟩⟩;refine⟨_,rfl,?_⟩)|(refine gL 153 7 func153 #[.string a0] ?_;(with_reducible refine(eX.calls k a0 false _ A4.out).mono ?_);rintro e w' ⟨rfl,⟨nd,rfl⟩⟩;refine⟨_,rfl,?_⟩)|(refine gL 154 10 func154 #[.string a0] ?_;(with_reducible refine(jZ.calls k a0 t167 _ A6.out).mono ?_);rintro e w7 ⟨rfl,hb⟩;refine⟨_,rfl,?_⟩;replace HB:=bs HB hb;(try clear hb)))
   go_ret;exact⟨er,ul HB.out⟩
 ·obtain rfl:=Option.some.inj H;go_enter func141,ntmps141;go_wp2_with (first|(refine gL 107 4 func107 #[.string a0] ?_;(with_reducible refine(bf.calls k a0 false _ A2.out).mono ?_);rintro e w' ⟨rfl,⟨nd,rfl⟩⟩;refine⟨_,rfl,?_⟩))
  go_ret;exact⟨er,ul HB.out⟩
mutual
def dQ.j0:Nat→Bool→ByteArray→ByteArray→List (iq)→Option (Bool)
 |0,_,_,_,_=>none
 |k+1,x21,VZ,V6,zJ=>if x21=true then(some false)else(dQ.l0 k (wrap64 ((wrap64 ((VZ.size:Int)+(V6.size:Int)))+1)) 0 VZ V6 zJ)
def dQ.l0:Nat→Int→Int→ByteArray→ByteArray→List (iq)→Option (Bool)
 |0,_,_,_,_,_=>none
 |k+1,x3,x4,VZ,V6,zJ=>if x4<(zJ.length:Int)then(if 0≤x4 then((kZ.f k ((aT zJ x4).f0)).bind fun t173=>(if t173=true then((uM.f k ((aT zJ x4).f1)).bind fun aAv=>(if aAv=true then(if x4≤(zJ.length:Int)then((jQ.f k (zJ.take (x4:Int).toNat) ((aT zJ x4).f0)).bind fun ajo=>(if ajo≥0 then(some false)else((uF.f k ((aT zJ x4).f1)).bind fun avO=>(dQ.l0 k (wrap64 ((wrap64 ((wrap64 (x3+3))+(((aT zJ x4).f0).size:Int)))+(avO.size:Int))) (wrap64 (x4+1)) VZ V6 zJ))))else(none))else(some false)))else(some false)))else(none))else(some (decide (x3≤150)))
end
def dQ.f(k:Nat)(bn:ByteArray)(bI:ByteArray)(aA:List (iq)):Option (Bool):=(kZ.f k bn).bind fun apM=>(if apM=true then((kZ.f k bI).bind fun apN=>(if apN=true then(dQ.j0 k (decide ((aA.length:Int)>4)) bn bI aA)else(dQ.j0 k true bn bI aA)))else(dQ.j0 k true bn bI aA))
theorem dQ.calls(k:Nat)(bn:ByteArray)(bI:ByteArray)(bH:Option Addr)(bg:Nat)(aA:List (iq))(r:Bool)(w:World)(jg:Kd.C lg w bH aA.length aA)(jh:aA.length≤bg)(h:dQ.f k bn bI aA=some r):
  Calls Tryz.prog 118 #[.agg #[.string bn, .string bI, .slice bH aA.length bg]] w fun e w'=>e= .returned (.bool r)∧Below w.heap.size w w':=by
 have acP:=underlying90;have I5:=underlying63;have jF:=ak jg;have lV:=ak jh;clear jg jh;have HB:=ak (Below.refl w.heap.size w);have H:((kZ.f k bn).bind fun apM=>(if apM=true then((kZ.f k bI).bind fun apN=>(if apN=true then(dQ.j0 k (decide ((aA.length:Int)>4)) bn bI aA)else(dQ.j0 k true bn bI aA)))else(dQ.j0 k true bn bI aA)))=some r:=h;clear h;have HC2:=ak H;clear H;go_enter func118,ntmps118;go_upto_region 1 with(refine gG 1 ?_;refine bX HB 1 #[.string bn, .string bI, .slice bH aA.length bg] 90 ?_;intro UK w3 jk aJf hb;replace HB:=bs HB hb;clear hb)
 (try simp only[Act.put,jB,jC,l_c]);go_cut [21] (fun v21 wc=>∃(kq:Nat) (amx:Bool),v21= .bool amx∧ah (dQ.j0 kq amx bn bI aA=some r)∧ah (kq≤k)∧ah (wc.heap[UK]? =some (.cells #[.string bn, .string bI,(.slice bH aA.length bg)] 90 (0,0)))∧ah (Below w.heap.size w wc))
 case first=>
  have H:=HC2.out;clear HC2;replace H:=bd H;obtain⟨apM,A4,H⟩:=H;replace H:=sb H;rcases H with⟨rfl,H⟩|⟨rfl,H⟩
  ·replace H:=bd H;obtain⟨apN,A6,H⟩:=H;replace H:=sb H;rcases H with⟨rfl,H⟩|⟨rfl,H⟩
   ·have H':=ak H;clear H;have z8:=iE jk.out;go_wp2_with (first|(refine gB func139 (kZ.calls k bn true _ A4.out) ?_;intro w9 hb;replace jk:=kb jk hb;replace HB:=bz HB hb;clear hb;have z10:=iE jk.out)|(go_at_call 139;refine mB (kZ.calls k bI true _ A6.out) ?_;intro xk hb;replace jk:=kb jk hb;replace HB:=bz HB hb;clear hb;have z12:=iE jk.out))
    go_meet
    case rel=>exact⟨_,_,rs,H',⟨YT⟩,⟨ub jk.out⟩,⟨bb⟩⟩
   ·have H':=ak H;clear H;have z13:=iE jk.out;go_wp2_with (first|(refine gB func139 (kZ.calls k bn true _ A4.out) ?_;intro Ut hb;replace jk:=kb jk hb;replace HB:=bz HB hb;clear hb;have z15:=iE jk.out)|(go_at_call 139;refine mB (kZ.calls k bI false _ A6.out) ?_;intro w16 hb;replace jk:=kb jk hb;replace HB:=bz HB hb;clear hb))
    go_meet
    case rel=>exact⟨_,_,rs,H',⟨YT⟩,⟨ub jk.out⟩,⟨bb⟩⟩
  ·have H':=ak H;clear H;have z17:=iE jk.out;go_wp2_with (refine gB func139 (kZ.calls k bn false _ A4.out) ?_;intro w18 hb;replace jk:=kb jk hb;replace HB:=bz HB hb;clear hb)
   go_meet
   case rel=>exact⟨_,_,rs,H',⟨YT⟩,⟨ub jk.out⟩,⟨bb⟩⟩
 case rest=>
  clear HC2;obtain⟨kq,amx,rfl,HA,FY,jk,HB⟩:=hcut
  cases kq with
  |zero=>exact zz HA.out
  |succ Mc=>
   obtain⟨H⟩:=HA;simp only[dQ.j0]at H;replace H:=sb H;rcases H with⟨rfl,H⟩|⟨rfl,H⟩
   ·obtain rfl:=s1 H;go_wp2;go_ret;exact⟨er,bb⟩
   ·have H':=ak H;clear H;have z20:=iE jk.out;go_wp2;go_loopg [3,4] Mc (fun kq v3 v4 w'=>∃(nS:Int) (nG:Int),v3= .int .i64 nS∧v4= .int .i64 nG∧ah (dQ.l0 kq nS nG bn bI aA=some r)∧ah (kq≤Mc)∧ah (w'.heap[UK]? =some (.cells #[.string bn, .string bI,(.slice bH aA.length bg)] 90 (0,0)))∧ah (Below w.heap.size w w'))
    case atStart=>exact⟨_,_,rs,rs,H',⟨Nat.le_refl _⟩,⟨ub jk.out⟩,⟨bb⟩⟩
    case round=>
     clear H';obtain⟨nS,nG,rfl,rfl,HA,HK2,jk,HB⟩:=hrel
     cases gk with
     |zero=>exact zz HA.out
     |succ k2=>
      obtain⟨H⟩:=HA;simp only[dQ.l0]at H;replace H:=sd H;rcases H with⟨CO,H⟩|⟨CO,H⟩
      ·replace H:=oW H;obtain⟨JO,H⟩:=H;replace H:=bd H;obtain⟨t173,A23,H⟩:=H;replace H:=sb H;rcases H with⟨rfl,H⟩|⟨rfl,H⟩
       ·replace H:=bd H;obtain⟨aAv,A25,H⟩:=H;replace H:=sb H;rcases H with⟨rfl,H⟩|⟨rfl,H⟩
        ·have PD:=eq_true (of_decide_eq_true (by assumption):0≤nG);replace H:=I4 H;obtain⟨NH,agu,H⟩:=H;obtain⟨ajp,adb⟩:=nm (aA.take (nG:Int).toNat);rw[←adb.out]at H;replace H:=bd H;obtain⟨ajo,A29,H⟩:=H;replace H:=sp H;rcases H with⟨c30,H⟩|⟨c30,H⟩
         ·have al9:decide (0≤ajo)=true:=decide_eq_true c30;clear c30;obtain rfl:=s1 H;have z31:=iE jk.out;have Oa:=zi nG;have Ob:=zj nG aA.length;obtain⟨Qu,aeV,zK,zL⟩:=ou jF.out nG Oa Ob;cases aeV;replace zK:=cl HB.out zK;replace zL:=cl HB.out zL;replace Oa:=eq_true Oa;replace Ob:=eq_true Ob;try go_wp2_with (refine gG 5 ?_;refine bY HB 5 #[.string (⟨#[]⟩:ByteArray), .string (⟨#[]⟩:ByteArray)] 63 ?_;intro Ij w32 nZ Xt hg hb;have uG:=YK jk hg;have AP:=YL jk hg;replace jk:=kb jk hb;replace HB:=bz HB hb;clear hb hg;have ayH:=AP.out;have ayI:=uG.out;have z34:=AA nZ.out)
          refine ab2 HB nZ Xt ?_;intro w35 EW hk HB;replace jk:=kf jk hk uG;clear hk nZ;have nZ:=EW;clear EW;refine rO [2,7,17] [0,1,2,3,4,5,6,7,8,9,10,11,13,15,12,14,16,17,18,19] (fun w'=>w'.cell? ⟨Ij,0,none⟩=some (.string ((aT aA nG).f0))∧w'.cell? ⟨Ij,1,none⟩=some (.string ((aT aA nG).f1))∧w'.cell? ⟨UK,0,none⟩=some (.string bn)∧w'.cell? ⟨UK,1,none⟩=some (.string bI)∧w'.cell? ⟨UK,2,none⟩=some (.slice (some Qu) aA.length bg)) ?_;intro w36 hb;replace jk:=kb jk hb;replace nZ:=kb nZ hb;replace HB:=bs HB hb;refine⟨sx,?_⟩;repeat refine Jr ?_
          refine rB func139 (kZ.calls k2 ((aT aA nG).f0) true _ A23.out) ?_;intro w37 hb;replace jk:=kb jk hb;replace nZ:=kb nZ hb;replace HB:=bz HB hb;clear hb;refine⟨sx,?_⟩;repeat refine Jr ?_
          refine rA func140 (uM.calls k2 ((aT aA nG).f1) true _ A25.out) ?_;intro nd;have q38:(nG:Int)≤((aA.length:Int):Int):=of_decide_eq_true (by assumption);obtain⟨aLQ,atc,_,aAw,_⟩:=info_parts Aq;have aht:aA.length≤bg:=lV.out;have aAx:Kd.C lg _ (some Qu) aA.length aA:=jF.out;have avP:=abh (P:=Tryz.prog) 29 63 .i64 underlying29 atc (some Qu) aA.length bg nG (of_decide_eq_true (by assumption)) q38 aht;have avQ:=abj (m:=(nG:Int).toNat) aAx (by omega);have hy38:ajp.length=(nG:Int).toNat:=(by rw[adb.out,List.length_take];omega)
          rw[←adb.out]at avQ;rw[←hy38]at avP;have amy:=ak avQ;have amA:=ak (show ajp.length≤bg from by omega);clear avQ aAx aht atc aAw;have aLR:=ak hy38;clear hy38;replace q38:=eq_true q38;refine⟨sx,?_⟩;repeat refine Jr ?_
          refine rB func114 (jQ.calls k2 _ _ ajp ((aT aA nG).f0) ajo _ (cu (aK amy.out bb)) amA.out A29.out) ?_;intro w39 hb;replace jk:=kb jk hb;replace nZ:=kb nZ hb;replace HB:=bz HB hb;clear hb;refine⟨sx,?_⟩;repeat refine Jr ?_
          refine on ?_;try go_wp2
          go_ret;exact⟨er,bb⟩
         ·have al9:decide (0≤ajo)=false:=decide_eq_false c30;clear c30;replace H:=bd H;obtain⟨avO,A40,H⟩:=H;have H':=ak H;clear H;have z41:=iE jk.out;have Oa:=zi nG;have Ob:=zj nG aA.length;obtain⟨Qu,aeV,zK,zL⟩:=ou jF.out nG Oa Ob;cases aeV;replace zK:=cl HB.out zK;replace zL:=cl HB.out zL;replace Oa:=eq_true Oa;replace Ob:=eq_true Ob;try go_wp2_with (refine gG 5 ?_;refine bY HB 5 #[.string (⟨#[]⟩:ByteArray), .string (⟨#[]⟩:ByteArray)] 63 ?_;intro Ij w42 nZ Xt hg hb;have uG:=YK jk hg;have AP:=YL jk hg;replace jk:=kb jk hb;replace HB:=bz HB hb;clear hb hg;have ay1:=AP.out;have ay2:=uG.out;have z44:=AA nZ.out)
          refine ab2 HB nZ Xt ?_;intro w45 EW hk HB;replace jk:=kf jk hk uG;clear hk nZ;have nZ:=EW;clear EW;refine rO [2,7,17] [0,1,2,3,4,5,6,7,8,9,10,11,13,15,12,14,16,17,18,19] (fun w'=>w'.cell? ⟨Ij,0,none⟩=some (.string ((aT aA nG).f0))∧w'.cell? ⟨Ij,1,none⟩=some (.string ((aT aA nG).f1))∧w'.cell? ⟨UK,0,none⟩=some (.string bn)∧w'.cell? ⟨UK,1,none⟩=some (.string bI)∧w'.cell? ⟨UK,2,none⟩=some (.slice (some Qu) aA.length bg)) ?_;intro w46 hb;replace jk:=kb jk hb;replace nZ:=kb nZ hb;replace HB:=bs HB hb;refine⟨sx,?_⟩;repeat refine Jr ?_
          refine rB func139 (kZ.calls k2 ((aT aA nG).f0) true _ A23.out) ?_;intro w47 hb;replace jk:=kb jk hb;replace nZ:=kb nZ hb;replace HB:=bz HB hb;clear hb;refine⟨sx,?_⟩;repeat refine Jr ?_
          refine rA func140 (uM.calls k2 ((aT aA nG).f1) true _ A25.out) ?_;intro nd;have q48:(nG:Int)≤((aA.length:Int):Int):=of_decide_eq_true (by assumption);obtain⟨aLS,atd,_,aAy,_⟩:=info_parts Aq;have ahu:aA.length≤bg:=lV.out;have aAz:Kd.C lg _ (some Qu) aA.length aA:=jF.out;have avR:=abh (P:=Tryz.prog) 29 63 .i64 underlying29 atd (some Qu) aA.length bg nG (of_decide_eq_true (by assumption)) q48 ahu;have avS:=abj (m:=(nG:Int).toNat) aAz (by omega);have avT:ajp.length=(nG:Int).toNat:=(by rw[adb.out,List.length_take];omega)
          rw[←adb.out]at avS;rw[←avT]at avR;have amy:=ak avS;have amA:=ak (show ajp.length≤bg from by omega);clear avS aAz ahu atd aAy;have aLT:=ak avT;clear avT;replace q48:=eq_true q48;refine⟨sx,?_⟩;repeat refine Jr ?_
          refine rB func114 (jQ.calls k2 _ _ ajp ((aT aA nG).f0) ajo _ (cu (aK amy.out bb)) amA.out A29.out) ?_;intro w49 hb;replace jk:=kb jk hb;replace nZ:=kb nZ hb;replace HB:=bz HB hb;clear hb;refine⟨sx,?_⟩;repeat refine Jr ?_
          refine on ?_;try go_wp2
          refine rO [8] [0,1,2,6,3,4,5,7,8,9,10,11] (fun w'=>w'.cell? ⟨Ij,0,none⟩=some (.string ((aT aA nG).f0))∧w'.cell? ⟨Ij,1,none⟩=some (.string ((aT aA nG).f1))) ?_;intro w50 hb;replace jk:=kb jk hb;replace nZ:=kb nZ hb;replace HB:=bs HB hb;refine⟨sx,?_⟩;repeat refine Jr ?_
          refine rB func141 (uF.calls k2 ((aT aA nG).f1) avO _ A40.out) ?_;intro w51 hb;replace jk:=kb jk hb;replace nZ:=kb nZ hb;replace HB:=bz HB hb;clear hb;refine⟨sx,?_⟩;repeat refine Jr ?_
          refine on ?_;try go_wp2
          go_roundg k2
          case measure=>exact kl
          case rel=>exact⟨_,_,rs,rs,H',⟨kl⟩,⟨ub jk.out⟩,⟨bb⟩⟩
        ·obtain rfl:=s1 H;have z52:=iE jk.out;have Oa:=zi nG;have Ob:=zj nG aA.length;obtain⟨Qu,aeV,zK,zL⟩:=ou jF.out nG Oa Ob;cases aeV;replace zK:=cl HB.out zK;replace zL:=cl HB.out zL;replace Oa:=eq_true Oa;replace Ob:=eq_true Ob;try go_wp2_with (refine gG 5 ?_;refine bY HB 5 #[.string (⟨#[]⟩:ByteArray), .string (⟨#[]⟩:ByteArray)] 63 ?_;intro Ij w53 nZ Xt hg hb;have uG:=YK jk hg;have AP:=YL jk hg;replace jk:=kb jk hb;replace HB:=bz HB hb;clear hb hg;have aJg:=AP.out;have aJh:=uG.out;have z55:=AA nZ.out)
         refine ab2 HB nZ Xt ?_;intro w56 EW hk HB;replace jk:=kf jk hk uG;clear hk nZ;have nZ:=EW;clear EW;refine rO [2,7] [0,1,2,3,4,5,6,7,8,9,10,11,12,13,14,15,16,17,18,19] (fun w'=>w'.cell? ⟨Ij,0,none⟩=some (.string ((aT aA nG).f0))∧w'.cell? ⟨Ij,1,none⟩=some (.string ((aT aA nG).f1))) ?_;intro w57 hb;replace jk:=kb jk hb;replace nZ:=kb nZ hb;replace HB:=bs HB hb;refine⟨sx,?_⟩;repeat(first|refine Jr ?_|refine lg_ ?_)
         refine rB func139 (kZ.calls k2 ((aT aA nG).f0) true _ A23.out) ?_;intro w58 hb;replace jk:=kb jk hb;replace nZ:=kb nZ hb;replace HB:=bz HB hb;clear hb;refine⟨sx,?_⟩;repeat(first|refine Jr ?_|refine lg_ ?_)
         refine rA func140 (uM.calls k2 ((aT aA nG).f1) false _ A25.out) ?_;intro nd;refine⟨sx,?_⟩;repeat(first|refine Jr ?_|refine lg_ ?_)
         refine on ?_;try go_wp2
         go_ret;exact⟨er,bb⟩
       ·obtain rfl:=s1 H;have z59:=iE jk.out;have Oa:=zi nG;have Ob:=zj nG aA.length;obtain⟨Qu,aeV,zK,zL⟩:=ou jF.out nG Oa Ob;cases aeV;replace zK:=cl HB.out zK;replace zL:=cl HB.out zL;replace Oa:=eq_true Oa;replace Ob:=eq_true Ob;try go_wp2_with (refine gG 5 ?_;refine bY HB 5 #[.string (⟨#[]⟩:ByteArray), .string (⟨#[]⟩:ByteArray)] 63 ?_;intro Ij w60 nZ Xt hg hb;have uG:=YK jk hg;have AP:=YL jk hg;replace jk:=kb jk hb;replace HB:=bz HB hb;clear hb hg;have aJi:=AP.out;have aJj:=uG.out;have z62:=AA nZ.out)
        refine ab2 HB nZ Xt ?_;intro w63 EW hk HB;replace jk:=kf jk hk uG;clear hk nZ;have nZ:=EW;clear EW;refine rO [2] [0,1,2,3,4,5,6,7,8,9,10,11,12,13,14,15,16,17,18,19] (fun w'=>w'.cell? ⟨Ij,0,none⟩=some (.string ((aT aA nG).f0))∧w'.cell? ⟨Ij,1,none⟩=some (.string ((aT aA nG).f1))) ?_;intro w64 hb;replace jk:=kb jk hb;replace nZ:=kb nZ hb;replace HB:=bs HB hb;refine⟨sx,?_⟩;repeat(first|refine Jr ?_|refine lg_ ?_)
        refine rB func139 (kZ.calls k2 ((aT aA nG).f0) false _ A23.out) ?_;intro w65 hb;replace jk:=kb jk hb;replace nZ:=kb nZ hb;replace HB:=bz HB hb;clear hb;refine⟨sx,?_⟩;repeat(first|refine Jr ?_|refine lg_ ?_)
        refine on ?_;try go_wp2
        go_ret;exact⟨er,bb⟩
      ·obtain rfl:=s1 H;have z66:=iE jk.out;go_wp2;go_ret;exact⟨er,bb⟩
mutual
def bW.l0:Nat→ByteArray→Bool→Bool→ByteArray→ByteArray→List (iq)→Option (ByteArray×ByteArray×(List (iq))×Bool)
 |0,_,_,_,_,_,_=>none
 |k+1,x5,x6,x9,JA,JB,Gq=>if x6=true then((jA.f k x5 59).bind fun Xu=>((dL.f k Xu.1).bind fun apO=>((jA.f k apO 61).bind fun ade=>((dL.f k ade.2.1).bind fun t201=>((gI.f k t201).bind fun adf=>(if ade.2.2=true then(if adf.2=true then(bW.j1 k Xu.2.1 Xu.2.2 x9 ade.1 adf.1 ((adf.1.length:Int) !=1) JA JB Gq)else(bW.j1 k Xu.2.1 Xu.2.2 x9 ade.1 adf.1 true JA JB Gq))else(bW.j1 k Xu.2.1 Xu.2.2 x9 ade.1 adf.1 true JA JB Gq)))))))else(if x9=true then((dQ.f k JA JB Gq).bind fun t193=>(if t193=true then(some (JA,JB,Gq,true))else(some ((⟨#[]⟩:ByteArray),(⟨#[]⟩:ByteArray),([]:List (iq)),false))))else(some ((⟨#[]⟩:ByteArray),(⟨#[]⟩:ByteArray),([]:List (iq)),false)))
def bW.j1:Nat→ByteArray→Bool→Bool→ByteArray→List ByteArray→Bool→ByteArray→ByteArray→List (iq)→Option (ByteArray×ByteArray×(List (iq))×Bool)
 |0,_,_,_,_,_,_,_,_,_=>none
 |k+1,x5,x6,x9,x12,x15,x69,JA,JB,Gq=>if x69=true then(some ((⟨#[]⟩:ByteArray),(⟨#[]⟩:ByteArray),([]:List (iq)),false))else((dL.f k x12).bind fun t206=>((gu.f t206).bind fun aeW=>(if 0<(x15.length:Int)then(if Gq.length<4398046511104 then(bW.l0 k x5 x6 x9 JA JB (Gq++[(⟨aeW,o8 ByteArray.empty x15 0⟩:iq)]))else(none))else(none))))
end
def bW.f(k:Nat)(a0:ByteArray):Option (ByteArray×ByteArray×(List (iq))×Bool):=(bf.f k a0).bind fun t182=>(if t182=true then((jA.f k a0 59).bind fun Xv=>((dL.f k Xv.1).bind fun ajq=>((jA.f k ajq 47).bind fun Xw=>((gu.f Xw.1).bind fun Qv=>((gu.f Xw.2.1).bind fun Qw=>(bW.l0 k Xv.2.1 Xv.2.2 Xw.2.2 Qv Qw ([]:List (iq))))))))else(some ((⟨#[]⟩:ByteArray),(⟨#[]⟩:ByteArray),([]:List (iq)),false)))
def bW.T13:Bool×List (List Nat×List Nat):=(true,[([],[]),([0],[0]),([],[]),([2],[2]),([3,3],[3]),([],[]),([5],[5]),([6],[6]),([4,7],[4,7]),([8],[8]),([1,9,4],[1,9]),([0,1,2,3,4,5,6,7,8,9,10],[]),([11,10,10,0,1,2,3,4,5,6,7,8,9,10],[10,11])])
def bW.B13:List Nat:=[0,1,0,4,12,0,32,96,252,508,1023,2047,4095]
theorem bW.alQ:xu .any (opsOf Tryz.f81 13)=bW.T13:=by kernel_rfl
theorem bW.aeE:uf bW.T13.2 bW.B13=true:=by kernel_rfl
theorem bW.calls(k:Nat)(a0:ByteArray)(r1:ByteArray)(r2:ByteArray)(r3:List (iq))(r4:Bool)(w:World)(h:bW.f k a0=some (r1,r2,r3,r4)):
  Calls Tryz.prog 81 #[.string a0] w fun e w'=>∃Ko:Value,e= .returned (.tuple #[.agg #[.string r1, .string r2,Ko], .bool r4])∧Kd.R lg 63 w' w.heap.size (fun _=>True) Ko r3∧Below w.heap.size w w':=by
 have acP:=underlying90;have I5:=underlying63;have HB:=ak (Below.refl w.heap.size w);have H:((bf.f k a0).bind fun t182=>(if t182=true then((jA.f k a0 59).bind fun Xv=>((dL.f k Xv.1).bind fun ajq=>((jA.f k ajq 47).bind fun Xw=>((gu.f Xw.1).bind fun Qv=>((gu.f Xw.2.1).bind fun Qw=>(bW.l0 k Xv.2.1 Xv.2.2 Xw.2.2 Qv Qw ([]:List (iq))))))))else(some ((⟨#[]⟩:ByteArray),(⟨#[]⟩:ByteArray),([]:List (iq)),false))))=some (r1,r2,r3,r4):=h;clear h;replace H:=bd H;obtain⟨t182,A2,H⟩:=H;replace H:=sb H;rcases H with⟨rfl,H⟩|⟨rfl,H⟩
 ·replace H:=bd H;obtain⟨⟨t183,aGi,aGj⟩,A4,H⟩:=H
  (try dsimp only at H);replace H:=bd H;obtain⟨ajq,A5,H⟩:=H;replace H:=bd H;obtain⟨⟨aAA,aAB,avU⟩,A6,H⟩:=H
  (try dsimp only at H);replace H:=bd H;obtain⟨Qv,A7,H⟩:=H;replace H:=bd H;obtain⟨Qw,A8,H⟩:=H;have H':=ak H;clear H;go_enter func81,ntmps81;go_wp2_with (first|(refine gG 2 ?_;refine bX HB 2 #[.string (⟨#[]⟩:ByteArray), .string (⟨#[]⟩:ByteArray), .slice none 0 0] 90 ?_;intro Qx w9 nN aAC hb;replace HB:=bs HB hb;clear hb)|(refine gD func107 (bf.calls k a0 true _ A2.out) ?_;intro w9 hb;replace nN:=kb nN hb;replace HB:=bz HB hb;clear hb)|(refine gD func115 (jA.calls k a0 59 t183 aGi aGj _ A4.out) ?_;intro w9 hb;replace nN:=kb nN hb;replace HB:=bz HB hb;clear hb)|(refine gD func113 (dL.calls k t183 ajq _ A5.out) ?_;intro w9 hb;replace nN:=kb nN hb;replace HB:=bz HB hb;clear hb)|(refine gD func115 (jA.calls k ajq 47 aAA aAB avU _ A6.out) ?_;intro w9 hb;replace nN:=kb nN hb;replace HB:=bz HB hb;clear hb)|(refine gB func116 (gu.calls aAA Qv _ A7.out) ?_;intro w10 hb;replace nN:=kb nN hb;replace HB:=bz HB hb;clear hb)|(refine gB func116 (gu.calls aAB Qw _ A8.out) ?_;intro xk hb;replace nN:=kb nN hb;replace HB:=bz HB hb;clear hb)|(refine gG 10 ?_;refine bY HB 10 #[.string (⟨#[]⟩:ByteArray), .string (⟨#[]⟩:ByteArray), .slice none 0 0] 90 ?_;intro Xx w12 o9 aJk hg hb;have Ei:=YK nN hg;have Ej:=YL nN hg;replace nN:=kb nN hb;replace HB:=bz HB hb;clear hb hg;have arH:=Ej.out;have arI:=Ei.out;have z14:=iE o9.out))
  go_loopg [5,6] k (fun kq v5 v6 w'=>∃(aJ:ByteArray) (gX:Bool) (MF:ByteArray) (MG:ByteArray) (vO:List (iq)) (Di:Value),v5= .string aJ∧v6= .bool gX∧ah (bW.l0 kq aJ gX avU Qv Qw vO=some (r1,r2,r3,r4))∧ah (kq≤k)∧ah (Kd.R lg 63 w' w.heap.size (fun _=>True) Di vO)∧ah (w'.heap[Qx]? =some (.cells #[.string MF, .string MG,(.slice none 0 0)] 90 (0,0)))∧ah (w'.heap[Xx]? =some (.cells #[.string Qv, .string Qw,Di] 90 (0,0)))∧ah (Below w.heap.size w w'))
  case atStart=>exact⟨_,_,_,_,_,_,rs,rs,H',⟨Nat.le_refl _⟩,⟨nx⟩,⟨bq⟩,⟨bq⟩,⟨bb⟩⟩
  case round=>
   clear H';obtain⟨aJ,gX,MF,MG,vO,Di,rfl,rfl,HA,jv,kG,nN,o9,HB⟩:=hrel
   cases gk with
   |zero=>exact zz HA.out
   |succ k1=>
    obtain⟨H⟩:=HA;simp only[bW.l0]at H;replace H:=sb H;rcases H with⟨rfl,H⟩|⟨rfl,H⟩
    ·replace H:=bd H;obtain⟨⟨t194,aAD,t196⟩,A16,H⟩:=H
     (try dsimp only at H);replace H:=bd H;obtain⟨apO,A17,H⟩:=H;replace H:=bd H;obtain⟨⟨t198,aAE,aGk⟩,A18,H⟩:=H
     (try dsimp only at H);replace H:=bd H;obtain⟨t201,A19,H⟩:=H;replace H:=bd H;obtain⟨⟨Xy,t203⟩,A20,H⟩:=H
     (try dsimp only at H);have avV:=ak H;clear H;go_upto_region 11 with(first|(refine gA func115 (jA.calls k1 aJ 59 t194 aAD t196 _ A16.out) ?_;intro nd)|(refine gA func113 (dL.calls k1 t194 apO _ A17.out) ?_;intro nd)|(refine gA func115 (jA.calls k1 apO 61 t198 aAE aGk _ A18.out) ?_;intro nd)|(refine gA func113 (dL.calls k1 aAE t201 _ A19.out) ?_;intro nd)|(refine gV func117 (gI.calls k1 t201 Xy t203 _ A20.out) ?_;rintro aGl w22 ⟨ho0,hb⟩;have ahv:=ak (bP ho0 (aj bb));replace kG:=rb kG hb;replace nN:=kb nN hb;replace o9:=kb o9 hb;replace HB:=bz HB hb;clear hb;(try clear ho0)))
     (try simp only[Act.put,jB,jC,l_c]);go_cut [69] (fun v69 wc=>∃(kq:Nat) (aeX:Bool),v69= .bool aeX∧ah (bW.j1 kq aAD t196 avU t198 Xy aeX Qv Qw vO=some (r1,r2,r3,r4))∧ah (kq≤k1)∧ah (Kd.R Kd.string 9 wc w.heap.size (fun _=>True) aGl Xy)∧ah (Kd.R lg 63 wc w.heap.size (fun _=>True) Di vO)∧ah (wc.heap[Qx]? =some (.cells #[.string MF, .string MG,(.slice none 0 0)] 90 (0,0)))∧ah (wc.heap[Xx]? =some (.cells #[.string Qv, .string Qw,Di] 90 (0,0)))∧ah (Below w.heap.size w wc))
     case first=>
      have H:=avV.out;clear avV;replace H:=sb H;rcases H with⟨rfl,H⟩|⟨rfl,H⟩
      ·replace H:=sb H;rcases H with⟨rfl,H⟩|⟨rfl,H⟩
       ·have H':=ak H;clear H;obtain⟨aAF,amB,amC⟩:=bG ahv.out;subst amC;go_wp2;go_meet
        case rel=>exact⟨_,_,rs,H',⟨kl⟩,⟨ur ahv.out⟩,⟨ur kG.out⟩,⟨ub nN.out⟩,⟨ub o9.out⟩,⟨bb⟩⟩
       ·have H':=ak H;clear H;go_wp2;go_meet
        case rel=>exact⟨_,_,rs,H',⟨kl⟩,⟨ur ahv.out⟩,⟨ur kG.out⟩,⟨ub nN.out⟩,⟨ub o9.out⟩,⟨bb⟩⟩
      ·have H':=ak H;clear H;go_wp2;go_meet
       case rel=>exact⟨_,_,rs,H',⟨kl⟩,⟨ur ahv.out⟩,⟨ur kG.out⟩,⟨ub nN.out⟩,⟨ub o9.out⟩,⟨bb⟩⟩
     case rest=>
      clear avV;obtain⟨kq,aeX,rfl,HA,aAG,NK,kG,nN,o9,HB⟩:=hcut
      cases kq with
      |zero=>exact zz HA.out
      |succ aAH=>
       obtain⟨H⟩:=HA;simp only[bW.j1]at H;replace H:=sb H;rcases H with⟨rfl,H⟩|⟨rfl,H⟩
       ·obtain⟨rfl,rfl,rfl,rfl⟩:=s4 H;have alp:=Ei.out;have alq:=Ej.out;have z28:=iE nN.out;go_wp2;refine bodyPost_ret (lQ rfl _ _ Qx 90 #[.string (⟨#[]⟩:ByteArray), .string (⟨#[]⟩:ByteArray), .slice none 0 0] (0,0) _ rfl bq underlying90 rfl (by kernel_rfl)) rfl ?_;exact⟨_,er,nx,bb⟩
       ·replace H:=bd H;obtain⟨t206,A29,H⟩:=H;replace H:=bd H;obtain⟨aeW,A30,H⟩:=H;replace H:=nn H;obtain⟨c31,H⟩:=H;have aJl:=decide_eq_true c31;have aJm:decide (0<Xy.length)=true:=decide_eq_true (by omega);clear c31;replace H:=nl H;obtain⟨aAI,H⟩:=H;obtain⟨aLU,ate⟩:=nm (vO++[(⟨aeW,o8 ByteArray.empty Xy 0⟩:iq)]);rw[←ate.out]at H;have H':=ak H;clear H;try go_wp2
        replace NK:=ak (yB NK.out);replace kG:=ak (yB kG.out);replace nN:=ak (aC nN.out);replace o9:=ak (aC o9.out);replace HB:=ak (fO HB.out);obtain⟨alK,alL,aeC⟩:=bG NK.out
        (first|subst aeC|(injection aeC with sN zx sO;have zy:=sN.symm;have zA:=sO.symm;clear sN zx sO;subst zy;subst zA));have avW:0≤(0:Int):=(by omega)
        have avX:0<(Xy.length:Int):=of_decide_eq_true (by assumption);obtain⟨aAJ,e208,V7⟩:=kV (dB NK.out).2.2 0 avW avX;cases e208;have aJn:(0<Xy.length)=True:=eq_true (by omega)
        (try rw[show((0:Int)).toNat=0 from rfl]at V7)
        (try rw[Addr.add_zero']at V7);replace avW:=eq_true avW;replace avX:=eq_true avX;refine Js (n:=13) (S:=fun w'=>w'.cell? ⟨Xx,0,none⟩=some (.string Qv)∧w'.cell? ⟨Xx,1,none⟩=some (.string Qw)∧w'.cell? ⟨Xx,2,none⟩=some (Di)∧w'.cell? aAJ=some (.string (o8 ByteArray.empty Xy 0))) (ds:=[10,12]) #[false,false,false,false,false,false,false,false,false,false,false,false,false] (by kernel_rfl) rfl rfl ⟨(aG o9.out 0).trans rfl,(aG o9.out 1).trans rfl,(aG o9.out 2).trans rfl,V7⟩ (fun hHeld=>?_);refine AL bW.alQ bW.aeE (fun ug HW_=>?_)
        generalize wc.drew=w33 at NK kG nN o9 HB V7 hHeld⊢
        refine pl 0 ?_;refine pl 2 ?_;refine pl 5 ?_;refine pl 6 ?_;refine tk 1 ?_;refine tk 7 ?_;refine o1 3 (fun K hK=>?_);refine vG func113 (by kernel_rfl) rfl #[.string t198] (by rfl) rfl rfl ma ?_
        with_reducible refine(dL.calls aAH t198 t206 _ A29.out).mono ?_
        rintro e w' ⟨rfl,⟨nd,rfl⟩⟩;refine⟨_,rfl,?_⟩;refine hK.out _ _ ⟨(aG o9.out 0).trans rfl,(aG o9.out 1).trans rfl,(aG o9.out 2).trans rfl,hHeld.2.2.2⟩ (fun hHeld=>?_);clear hK K;refine nrm ?_;refine o1 4 (fun K hK=>?_);refine vG func116 (by kernel_rfl) rfl #[.string t206] (by rfl) rfl rfl ma ?_
        with_reducible refine(gu.calls t206 aeW _ A30.out).mono ?_
        rintro e w35 ⟨rfl,hb⟩;have avp:=(hb.cell (World.block_lt_of_cell? _ _ (hHeld.2.2.2))).trans (hHeld.2.2.2);refine⟨_,rfl,?_⟩;replace NK:=rb NK hb;replace kG:=rb kG hb;replace nN:=kb nN hb;replace o9:=kb o9 hb;replace HB:=bz HB hb;try clear hb
        refine hK.out _ _ ⟨(aG o9.out 0).trans rfl,(aG o9.out 1).trans rfl,(aG o9.out 2).trans rfl,avp⟩ (fun hHeld=>?_);clear hK K;refine nrm ?_;refine pl 8 ?_;refine o1 9 (fun K hK=>?_);refine S9 (w1:=?_) (v:=?_) (by rfl) rfl ?_ ?_
        rotate_left 2
        ·go_simp;constructor
         ·rfl
         ·rfl
        refine hK.out _ _ ⟨(aG (au o9.out _) 0).trans rfl,(aG (au o9.out _) 1).trans rfl,(aG (au o9.out _) 2).trans rfl,(World.cell?_alloc_lt _ _ _ (World.block_lt_of_cell? _ _ (hHeld.2.2.2))).trans (hHeld.2.2.2)⟩ (fun hHeld=>?_);clear hK K;refine nrm ?_;refine Xi (i:=10) (N:=some 81) #[true,true,true,true,true,true,true,true,true,true,true,false,false] rfl rfl (qM ug.out (by kernel_rfl)) (by decide) (fun K hK=>?_);refine vK lg (w0:=w) w.heap.size (by rfl) (.tmp 72) (.tmp 80) 29 63 (.agg #[(.string ⟨#[]⟩),(.string ⟨#[]⟩)]) 32 rfl underlying29 Aq rfl (by decide) (by omega) Di vO (⟨aeW,o8 ByteArray.empty Xy 0⟩:iq) [.string aeW, .string (o8 ByteArray.empty Xy 0)] (fun _=>True) (fun _=>False) rfl rfl ?aP (fun _ hk=>hk.elim) ?aF ?aO ?aB ?aS ?aL ?_
        (case aP=>exact LV _ _ _ (⟨aeW,o8 ByteArray.empty Xy 0⟩:iq))
        (case aB=>exact bb)
        (case aF=>exact(fun _ _=>trivial))
        (case aO=>exact(ur kG.out))
        (case aS=>exact(aj bb))
        (case aL=>have:=aAI.out;omega);intro v210 w36 ho hb hg hat
        rw[←ate.out]at ho;have ng:=ak (xq (ur NK.out) (qA (ur kG.out)) (by decide) hg);have ni:=ak (eu (g:=Qx) (o:= .cells #[.string MF, .string MG, .slice none 0 0] 90 (0,0)) (ub nN.out) hg (um kG.out nN.out (by decide)));have qx:=ak (eu (g:=Xx) (o:= .cells #[.string Qv, .string Qw,Di] 90 (0,0)) (ub o9.out) hg (um kG.out o9.out (by decide)));have sV:=ak (hb);have xQ:=ak (ho);clear NK nN o9 HB kG;have NK:=ng;have nN:=ni;have o9:=qx;have HB:=sV;have aAK:=xQ;clear ng ni qx sV xQ ho hb hg hat
        obtain⟨ak_,ala,aa7⟩:=bG aAK.out
        (first|subst aa7|(injection aa7 with sN zx sO;have zy:=sN.symm;have zA:=sO.symm;clear sN zx sO;subst zy;subst zA));refine hK.out _ _ ?_;clear hK K;refine iT (a':=?_) ?_ ?_
        rotate_left
        ·show Act.put _ (some 81) _=_
         simp only[Act.put,jB,jC,l_c,bJ,b_];rfl
        refine pl 11 ?_;refine Xi (i:=12) (N:=none) #[true,true,true,true,true,true,true,true,true,true,true,true,true] rfl rfl (qM ug.out (by kernel_rfl)) (by decide) (fun K hK=>?_);have aLV:w36.cell? ⟨Xx,2,none⟩=some (Di):=(aG o9.out 2).trans rfl;have aJo:=jl o9.out 2;have aC9:=Ei.out;have aC_:=Ej.out;refine Xc (w1:=?_) (by rfl) rfl ?_ ?_
        rotate_left
        ·go_simp;rfl
        refine hK.out _ _ ?_;clear hK K;refine P8 (Jt ug.out (by kernel_rfl)) ?_;try go_wp2
        go_roundg aAH
        case measure=>have:=jv.out;have:=aAG.out;omega
        case rel=>exact⟨_,_,_,_,_,_,rs,rs,H',⟨by have:=jv.out;have:=aAG.out;omega⟩,⟨rr⟩,⟨bq⟩,⟨bq⟩,⟨bb⟩⟩
    ·replace H:=sb H;rcases H with⟨rfl,H⟩|⟨rfl,H⟩
     ·replace H:=bd H;obtain⟨t193,A40,H⟩:=H;replace H:=sb H;rcases H with⟨rfl,H⟩|⟨rfl,H⟩
      ·obtain⟨rfl,rfl,rfl,rfl⟩:=s4 H;have aAL:=Ej.out;have aAM:=Ei.out;have z43:=iE o9.out;obtain⟨ayN,ayO,au1⟩:=bG kG.out;subst au1;go_wp2_with (go_at_call 118;refine mB (dQ.calls k1 Qv Qw _ _ vO true _ (cu ((dB kG.out).2.2)) ((dB kG.out).2.1) A40.out) ?_;intro w45 hb;replace kG:=rb kG hb;replace nN:=kb nN hb;replace o9:=kb o9 hb;replace HB:=bz HB hb;clear hb;have z46:=iE o9.out;have z47:=iE nN.out)
       refine bodyPost_ret (lQ rfl _ _ Qx 90 #[.string Qv, .string Qw, .slice ayN vO.length ayO] (0,0) _ rfl bq underlying90 rfl (by kernel_rfl)) rfl ?_;exact⟨_,er,rr,bb⟩
      ·obtain⟨rfl,rfl,rfl,rfl⟩:=s4 H;have azd:=Ej.out;have aze:=Ei.out;have z49:=iE o9.out;obtain⟨aLW,aLX,aGm⟩:=bG kG.out;subst aGm;go_wp2_with (go_at_call 118;refine mB (dQ.calls k1 Qv Qw _ _ vO false _ (cu ((dB kG.out).2.2)) ((dB kG.out).2.1) A40.out) ?_;intro w51 hb;replace kG:=rb kG hb;replace nN:=kb nN hb;replace o9:=kb o9 hb;replace HB:=bz HB hb;clear hb;have z52:=iE nN.out)
       refine bodyPost_ret (lQ rfl _ _ Qx 90 #[.string (⟨#[]⟩:ByteArray), .string (⟨#[]⟩:ByteArray), .slice none 0 0] (0,0) _ rfl bq underlying90 rfl (by kernel_rfl)) rfl ?_;exact⟨_,er,nx,bb⟩
     ·obtain⟨rfl,rfl,rfl,rfl⟩:=s4 H;have azv:=Ei.out;have azw:=Ej.out;have z54:=iE nN.out;go_wp2;refine bodyPost_ret (lQ rfl _ _ Qx 90 #[.string (⟨#[]⟩:ByteArray), .string (⟨#[]⟩:ByteArray), .slice none 0 0] (0,0) _ rfl bq underlying90 rfl (by kernel_rfl)) rfl ?_;exact⟨_,er,nx,bb⟩
 ·obtain⟨rfl,rfl,rfl,rfl⟩:=s4 H;go_enter func81,ntmps81;go_wp2_with (first|(refine gG 2 ?_;refine bX HB 2 #[.string (⟨#[]⟩:ByteArray), .string (⟨#[]⟩:ByteArray), .slice none 0 0] 90 ?_;intro Qx w55 nN aAC hb;replace HB:=bs HB hb;clear hb)|(refine gD func107 (bf.calls k a0 false _ A2.out) ?_;intro w55 hb;replace nN:=kb nN hb;replace HB:=bz HB hb;clear hb;have z56:=iE nN.out))
  refine bodyPost_ret (lQ rfl _ _ Qx 90 #[.string (⟨#[]⟩:ByteArray), .string (⟨#[]⟩:ByteArray), .slice none 0 0] (0,0) _ rfl bq underlying90 rfl (by kernel_rfl)) rfl ?_;exact⟨_,er,nx,bb⟩
mutual
def dH.l0:Nat→ByteArray→Int→Option (Bool)
 |0,_,_=>none
 |k+1,x0,x3=>if x3<(x0.size:Int)then(dH.j1 k x0 x3 (decide (x3≤20)))else(dH.j1 k x0 x3 false)
def dH.j1:Nat→ByteArray→Int→Bool→Option (Bool)
 |0,_,_,_=>none
 |k+1,x0,x3,x11=>if x11=true then(if 0≤x3 then(if x3<(x0.size:Int)then((jT.f (bt x0 x3)).bind fun t212=>(if t212=true then(dH.l0 k x0 (wrap64 (x3+1)))else(some false)))else(none))else(none))else(if(x0.size:Int)≥1 then(some (decide ((x0.size:Int)≤20)))else(some false))
end
def dH.f(k:Nat)(a0:ByteArray):Option (Bool):=dH.l0 k a0 0
set_option maxHeartbeats 8000000 in
set_option maxRecDepth 100000 in
theorem dH.calls(k:Nat)(a0:ByteArray)(r:Bool)(w:World)(h:dH.f k a0=some r):
  Calls Tryz.prog 119 #[.string a0] w fun e w'=>e= .returned (.bool r)∧fK w w':=by
 have H:(dH.l0 k a0 0)=some r:=h;clear h;have H':=ak H;clear H;go_enter func119,ntmps119;go_wp2;go_loopg [3] k (fun kq v3 w'=>∃(dD:Int),v3= .int .i64 dD∧ah (dH.l0 kq a0 dD=some r)∧ah (kq≤k)∧fK w w')
 case atStart=>exact⟨(0),rs,H',⟨Nat.le_refl _⟩,dn⟩
 case round=>
  clear H';try clear c1
  obtain⟨dD,rfl,HA,jv,⟨m1,rfl⟩⟩:=hrel
  cases gk with
  |zero=>exact absurd HA.out (by simp[dH.l0])
  |succ k1=>
   have H:=HA.out;clear HA;simp only[dH.l0]at H;have HC2:=ak H;clear H;go_upto_region 2 with(fail)
   go_cut [11] (fun v11 wc=>∃(kq:Nat) (wO:Bool),v11= .bool wO∧ah (dH.j1 kq a0 dD wO=some r)∧ah (kq≤k1)∧fK w wc)
   case first=>
    have H:=HC2.out;clear HC2;replace H:=sd H;rcases H with⟨gQ,H⟩|⟨gQ,H⟩
    ·(first|rw[gQ]|(simp only[bJ,b_];rw[gQ])|skip);have H':=ak H;clear H;go_wp2;go_meet
     case rel=>exact⟨_,(decide (dD≤20)),rs,H',⟨by have:=jv.out;first|omega|exact Nat.le_refl _⟩,dn⟩
    ·(first|rw[gQ]|(simp only[bJ,b_];rw[gQ])|skip);have H':=ak H;clear H;go_wp2;go_meet
     case rel=>exact⟨_,(false),rs,H',⟨by have:=jv.out;first|omega|exact Nat.le_refl _⟩,dn⟩
   case rest=>
    clear HC2;try clear c1
    try clear p2
    try clear c3
    try clear gQ
    obtain⟨kq,wO,rfl,HA,FY,⟨mc1,rfl⟩⟩:=hcut
    cases kq with
    |zero=>exact absurd HA.out (by simp[dH.j1])
    |succ Mc=>
     have H:=HA.out;clear HA;simp only[dH.j1]at H;replace H:=sb H;rcases H with⟨rfl,H⟩|⟨rfl,H⟩
     ·replace H:=oW H;obtain⟨sH,H⟩:=H;replace H:=oW H;obtain⟨oC,H⟩:=H;replace H:=bd H;obtain⟨t212,A8,H⟩:=H;replace H:=sb H;rcases H with⟨rfl,H⟩|⟨rfl,H⟩
      ·have H':=ak H;clear H;obtain⟨p7,q7,hx7⟩:=bx a0 dD;go_wp2_with (first|(refine gL 142 17 func142 #[.int .u8 (bt a0 dD)] ?_;(with_reducible refine(jT.calls (bt a0 dD) true _ A8.out).mono ?_);rintro e w' ⟨rfl,⟨nd,rfl⟩⟩;refine⟨_,rfl,?_⟩))
       go_roundg Mc
       case measure=>have:=jv.out;have:=FY.out;omega
       case rel=>exact⟨(wrap64 (dD+1)),rs,H',⟨by have:=jv.out;have:=FY.out;omega⟩,dn⟩
      ·obtain rfl:=Option.some.inj H;obtain⟨p7,q7,hx7⟩:=bx a0 dD;go_wp2_with (first|(refine gL 142 17 func142 #[.int .u8 (bt a0 dD)] ?_;(with_reducible refine(jT.calls (bt a0 dD) false _ A8.out).mono ?_);rintro e w' ⟨rfl,⟨nd,rfl⟩⟩;refine⟨_,rfl,?_⟩))
       go_ret;exact⟨rs,dn⟩
     ·replace H:=sp H;rcases H with⟨c10,H⟩|⟨c10,H⟩
      ·have rP:decide (1≤(a0.size:Int))=true:=decide_eq_true c10;have y8:decide (1≤a0.size)=true:=decide_eq_true (by omega);clear c10;obtain rfl:=Option.some.inj H;go_wp2;go_ret;exact⟨rs,dn⟩
      ·have rP:decide (1≤(a0.size:Int))=false:=decide_eq_false c10;have y8:decide (1≤a0.size)=false:=decide_eq_false (by omega);clear c10;obtain rfl:=Option.some.inj H;go_wp2;go_ret;exact⟨rs,dn⟩
def oq.f(k:Nat)(bn:ByteArray)(bI:ByteArray)(aA:List (iq)):Option (ByteArray×Bool):=(kJ.f k aA (⟨#[98,111,117,110,100,97,114,121]⟩:ByteArray)).bind fun Xz=>((dQ.f k bn bI aA).bind fun apP=>(if apP=true then(if bn.toList=([109,117,108,116,105,112,97,114,116]:List UInt8)then(if Xz.2=true then((dH.f k Xz.1).bind fun apQ=>(if apQ=true then(some (Xz.1,true))else(some ((⟨#[]⟩:ByteArray),false))))else(some ((⟨#[]⟩:ByteArray),false)))else(some ((⟨#[]⟩:ByteArray),false)))else(some ((⟨#[]⟩:ByteArray),false))))
set_option maxHeartbeats 8000000 in
set_option maxRecDepth 100000 in
theorem oq.calls(k:Nat)(bn:ByteArray)(bI:ByteArray)(bH:Option Addr)(bg:Nat)(aA:List (iq))(r1:ByteArray)(r2:Bool)(w:World)(jg:Kd.C lg w bH aA.length aA)(jh:aA.length≤bg)(h:oq.f k bn bI aA=some (r1,r2)):
  Calls Tryz.prog 82 #[.agg #[.string bn, .string bI, .slice bH aA.length bg]] w fun e w'=>e= .returned (.tuple #[.string r1, .bool r2])∧Below w.heap.size w w':=by
 have acP:=underlying90;have jF:=ak jg;have lV:=ak jh;clear jg jh;have HB:=ak (Below.refl w.heap.size w);have H:((kJ.f k aA (⟨#[98,111,117,110,100,97,114,121]⟩:ByteArray)).bind fun Xz=>((dQ.f k bn bI aA).bind fun apP=>(if apP=true then(if bn.toList=([109,117,108,116,105,112,97,114,116]:List UInt8)then(if Xz.2=true then((dH.f k Xz.1).bind fun apQ=>(if apQ=true then(some (Xz.1,true))else(some ((⟨#[]⟩:ByteArray),false))))else(some ((⟨#[]⟩:ByteArray),false)))else(some ((⟨#[]⟩:ByteArray),false)))else(some ((⟨#[]⟩:ByteArray),false)))))=some (r1,r2):=h;clear h;replace H:=bd H;obtain⟨⟨aeY,aAN⟩,A2,H⟩:=H
 (try dsimp only at H);replace H:=bd H;obtain⟨apP,A3,H⟩:=H;replace H:=sb H;rcases H with⟨rfl,H⟩|⟨rfl,H⟩
 ·replace H:=sq H;rcases H with⟨sH,abk,H⟩|⟨c5,sH,abk,H⟩
  ·replace H:=sb H;rcases H with⟨rfl,H⟩|⟨rfl,H⟩
   ·replace H:=bd H;obtain⟨apQ,A7,H⟩:=H;replace H:=sb H;rcases H with⟨rfl,H⟩|⟨rfl,H⟩
    ·simp only[Option.some.injEq,Prod.mk.injEq]at H;obtain⟨rfl,rfl⟩:=H;go_enter func82,ntmps82;go_wp2_with (first|(refine bE 1 #[.string bn, .string bI, .slice bH aA.length bg] 90 ?_;intro ahw hg w9 hbox hb;have o_:=ak (hbox);have ahx:=mJ HB hg;have ahy:=mJ HB hg;replace HB:=bs HB hb;clear hb hbox hg;obtain⟨IU,LX,Vt,IV,LY,Vu⟩:=iE o_.out)|(refine gL 80 9 func80 #[.slice bH aA.length bg, .string (⟨#[98,111,117,110,100,97,114,121]⟩:ByteArray)] ?_;(with_reducible refine(kJ.calls k _ _ aA (⟨#[98,111,117,110,100,97,114,121]⟩:ByteArray) aeY true _ (cu (aK jF.out HB.out)) lV.out A2.out).mono ?_);rintro e xk ⟨rfl,hb⟩;refine⟨_,rfl,?_⟩;replace o_:=kb o_ hb;replace HB:=ak (aI bb hb);(try clear hb);obtain⟨abm,ahk,ahl,abn,ahm,ahn⟩:=iE o_.out)|(refine gL 118 13 func118 #[.agg #[.string bn, .string bI, .slice bH aA.length bg]] ?_;(with_reducible refine(dQ.calls k bn bI _ _ aA true _ (cu (aK jF.out HB.out)) lV.out A3.out).mono ?_);rintro e NC ⟨rfl,hb⟩;refine⟨_,rfl,?_⟩;replace o_:=kb o_ hb;replace HB:=ak (aI bb hb);(try clear hb);obtain⟨aaL,aaM,agq,aaN,aaO,agr⟩:=iE o_.out)|(go_at_call 119;(with_reducible refine(dH.calls k aeY true _ A7.out).mono ?_);rintro e w' ⟨rfl,⟨nd,rfl⟩⟩))
     go_ret2;exact⟨er,bb⟩
    ·simp only[Option.some.injEq,Prod.mk.injEq]at H;obtain⟨rfl,rfl⟩:=H;go_enter func82,ntmps82;go_wp2_with (first|(refine bE 1 #[.string bn, .string bI, .slice bH aA.length bg] 90 ?_;intro ahw hg YU hbox hb;have o_:=ak (hbox);have ahx:=mJ HB hg;have ahy:=mJ HB hg;replace HB:=bs HB hb;clear hb hbox hg;obtain⟨OY,OZ,Vw,O1,O4,Vx⟩:=iE o_.out)|(refine gL 80 9 func80 #[.slice bH aA.length bg, .string (⟨#[98,111,117,110,100,97,114,121]⟩:ByteArray)] ?_;(with_reducible refine(kJ.calls k _ _ aA (⟨#[98,111,117,110,100,97,114,121]⟩:ByteArray) aeY true _ (cu (aK jF.out HB.out)) lV.out A2.out).mono ?_);rintro e w17 ⟨rfl,hb⟩;refine⟨_,rfl,?_⟩;replace o_:=kb o_ hb;replace HB:=ak (aI bb hb);(try clear hb);obtain⟨VF,VG,aaQ,VH,VI,aaR⟩:=iE o_.out)|(refine gL 118 13 func118 #[.agg #[.string bn, .string bI, .slice bH aA.length bg]] ?_;(with_reducible refine(dQ.calls k bn bI _ _ aA true _ (cu (aK jF.out HB.out)) lV.out A3.out).mono ?_);rintro e w19 ⟨rfl,hb⟩;refine⟨_,rfl,?_⟩;replace o_:=kb o_ hb;replace HB:=ak (aI bb hb);(try clear hb);obtain⟨P9,P_,Qa,Qb,Qc,Qd⟩:=iE o_.out)|(go_at_call 119;(with_reducible refine(dH.calls k aeY false _ A7.out).mono ?_);rintro e w' ⟨rfl,⟨nd,rfl⟩⟩))
     go_ret2;exact⟨er,bb⟩
   ·simp only[Option.some.injEq,Prod.mk.injEq]at H;obtain⟨rfl,rfl⟩:=H;go_enter func82,ntmps82;go_wp2_with (first|(refine bE 1 #[.string bn, .string bI, .slice bH aA.length bg] 90 ?_;intro ahw hg w21 hbox hb;have o_:=ak (hbox);have ahx:=mJ HB hg;have ahy:=mJ HB hg;replace HB:=bs HB hb;clear hb hbox hg;obtain⟨IW,LZ,L6,IX,L8,L9⟩:=iE o_.out)|(refine gL 80 9 func80 #[.slice bH aA.length bg, .string (⟨#[98,111,117,110,100,97,114,121]⟩:ByteArray)] ?_;(with_reducible refine(kJ.calls k _ _ aA (⟨#[98,111,117,110,100,97,114,121]⟩:ByteArray) aeY false _ (cu (aK jF.out HB.out)) lV.out A2.out).mono ?_);rintro e w23 ⟨rfl,hb⟩;refine⟨_,rfl,?_⟩;replace o_:=kb o_ hb;replace HB:=ak (aI bb hb);(try clear hb);obtain⟨aaU,aaV,aaW,aaX,aaY,aaZ⟩:=iE o_.out)|(refine gL 118 13 func118 #[.agg #[.string bn, .string bI, .slice bH aA.length bg]] ?_;(with_reducible refine(dQ.calls k bn bI _ _ aA true _ (cu (aK jF.out HB.out)) lV.out A3.out).mono ?_);rintro e w25 ⟨rfl,hb⟩;refine⟨_,rfl,?_⟩;replace o_:=kb o_ hb;replace HB:=ak (aI bb hb);(try clear hb);obtain⟨aDa,aDb,aDc,aDd,aDe,aDf⟩:=iE o_.out))
    go_ret2;exact⟨er,bb⟩
  ·simp only[Option.some.injEq,Prod.mk.injEq]at H;obtain⟨rfl,rfl⟩:=H;go_enter func82,ntmps82;go_wp2_with (first|(refine bE 1 #[.string bn, .string bI, .slice bH aA.length bg] 90 ?_;intro ahw hg w27 hbox hb;have o_:=ak (hbox);have ahx:=mJ HB hg;have ahy:=mJ HB hg;replace HB:=bs HB hb;clear hb hbox hg;obtain⟨abe,ag5,ag6,abf,ag7,ag8⟩:=iE o_.out)|(refine gL 80 9 func80 #[.slice bH aA.length bg, .string (⟨#[98,111,117,110,100,97,114,121]⟩:ByteArray)] ?_;(with_reducible refine(kJ.calls k _ _ aA (⟨#[98,111,117,110,100,97,114,121]⟩:ByteArray) aeY aAN _ (cu (aK jF.out HB.out)) lV.out A2.out).mono ?_);rintro e w29 ⟨rfl,hb⟩;refine⟨_,rfl,?_⟩;replace o_:=kb o_ hb;replace HB:=ak (aI bb hb);(try clear hb);obtain⟨agP,agQ,agR,agS,agT,agU⟩:=iE o_.out)|(refine gL 118 13 func118 #[.agg #[.string bn, .string bI, .slice bH aA.length bg]] ?_;(with_reducible refine(dQ.calls k bn bI _ _ aA true _ (cu (aK jF.out HB.out)) lV.out A3.out).mono ?_);rintro e w31 ⟨rfl,hb⟩;refine⟨_,rfl,?_⟩;replace o_:=kb o_ hb;replace HB:=ak (aI bb hb);(try clear hb);obtain⟨aDg,aDh,aDi,aDj,aDk,aDl⟩:=iE o_.out))
   go_ret2;exact⟨er,bb⟩
 ·simp only[Option.some.injEq,Prod.mk.injEq]at H;obtain⟨rfl,rfl⟩:=H;go_enter func82,ntmps82;go_wp2_with (first|(refine bE 1 #[.string bn, .string bI, .slice bH aA.length bg] 90 ?_;intro ahw hg w33 hbox hb;have o_:=ak (hbox);have ahx:=mJ HB hg;have ahy:=mJ HB hg;replace HB:=bs HB hb;clear hb hbox hg;obtain⟨ahz,ahA,ahB,ahC,ahD,ahE⟩:=iE o_.out)|(refine gL 80 9 func80 #[.slice bH aA.length bg, .string (⟨#[98,111,117,110,100,97,114,121]⟩:ByteArray)] ?_;(with_reducible refine(kJ.calls k _ _ aA (⟨#[98,111,117,110,100,97,114,121]⟩:ByteArray) aeY aAN _ (cu (aK jF.out HB.out)) lV.out A2.out).mono ?_);rintro e w35 ⟨rfl,hb⟩;refine⟨_,rfl,?_⟩;replace o_:=kb o_ hb;replace HB:=ak (aI bb hb);(try clear hb);obtain⟨aDm,aDn,aDo,aDp,aDq,aDr⟩:=iE o_.out)|(refine gL 118 13 func118 #[.agg #[.string bn, .string bI, .slice bH aA.length bg]] ?_;(with_reducible refine(dQ.calls k bn bI _ _ aA false _ (cu (aK jF.out HB.out)) lV.out A3.out).mono ?_);rintro e w37 ⟨rfl,hb⟩;refine⟨_,rfl,?_⟩;replace o_:=kb o_ hb;replace HB:=ak (aI bb hb);(try clear hb)))
  go_ret2;exact⟨er,bb⟩
def lu.f(k:Nat)(l0:List (iq)):Option (ByteArray×Bool):=(kJ.f k l0 (⟨#[67,111,110,116,101,110,116,45,84,121,112,101]⟩:ByteArray)).bind fun adg=>((bW.f k adg.1).bind fun Qy=>((oq.f k Qy.1 Qy.2.1 Qy.2.2.1).bind fun Qz=>(if adg.2=true then(if Qy.2.2.2=true then(some (Qz.1,Qz.2))else(some (Qz.1,false)))else(some (Qz.1,false)))))
set_option maxHeartbeats 8000000 in
set_option maxRecDepth 100000 in
theorem lu.calls(k:Nat)(A0:Option Addr)(c0:Nat)(l0:List (iq))(r1:ByteArray)(r2:Bool)(w:World)(hr0:Kd.C lg w A0 l0.length l0)(hc0:l0.length≤c0)(h:lu.f k l0=some (r1,r2)):
  Calls Tryz.prog 58 #[.slice A0 l0.length c0] w fun e w'=>e= .returned (.tuple #[.string r1, .bool r2])∧Below w.heap.size w w':=by
 have acP:=underlying90;have HR0:=ak hr0;have yx:=ak hc0;clear hr0 hc0;have HB:=ak (Below.refl w.heap.size w);have H:((kJ.f k l0 (⟨#[67,111,110,116,101,110,116,45,84,121,112,101]⟩:ByteArray)).bind fun adg=>((bW.f k adg.1).bind fun Qy=>((oq.f k Qy.1 Qy.2.1 Qy.2.2.1).bind fun Qz=>(if adg.2=true then(if Qy.2.2.2=true then(some (Qz.1,Qz.2))else(some (Qz.1,false)))else(some (Qz.1,false))))))=some (r1,r2):=h;clear h;replace H:=bd H;obtain⟨⟨t218,aLY⟩,A2,H⟩:=H
 (try dsimp only at H);replace H:=bd H;obtain⟨⟨Dj,Hg,t222,aGn⟩,A3,H⟩:=H
 (try dsimp only at H);replace H:=bd H;obtain⟨⟨t227,t228⟩,A4,H⟩:=H
 (try dsimp only at H);replace H:=sb H;rcases H with⟨rfl,H⟩|⟨rfl,H⟩
 ·replace H:=sb H;rcases H with⟨rfl,H⟩|⟨rfl,H⟩
  ·simp only[Option.some.injEq,Prod.mk.injEq]at H;obtain⟨rfl,rfl⟩:=H;go_enter func58,ntmps58;go_wp2_with (first|(refine gL 80 12 func80 #[.slice A0 l0.length c0, .string (⟨#[67,111,110,116,101,110,116,45,84,121,112,101]⟩:ByteArray)] ?_;(with_reducible refine(kJ.calls k _ _ l0 (⟨#[67,111,110,116,101,110,116,45,84,121,112,101]⟩:ByteArray) t218 true _ (cu HR0.out) yx.out A2.out).mono ?_);rintro e w7 ⟨rfl,hb⟩;refine⟨_,rfl,?_⟩;replace HB:=bs HB hb;(try clear hb))|(refine gL 81 17 func81 #[.string t218] ?_;(with_reducible refine(bW.calls k t218 Dj Hg t222 true _ A3.out).mono ?_);rintro e w8 ⟨aAO,rfl,ho0,hb⟩;refine⟨_,rfl,?_⟩;have wV:=ak (bP ho0 (aj (ul HB.out)));replace HB:=bs HB hb;(try clear hb);(try clear ho0))|(refine bE 6 #[.string (⟨#[]⟩:ByteArray), .string (⟨#[]⟩:ByteArray), .slice none 0 0] 90 ?_;intro wW hg w9 hbox hb;have BR:=ak (hbox);have atf:=mJ HB hg;have atg:=mJ HB hg;replace wV:=rb wV hb;replace HB:=bs HB hb;clear hb hbox hg;obtain⟨IU,LX,Vt,IV,LY,Vu⟩:=iE BR.out;obtain⟨zB,yC,W9⟩:=bG wV.out;subst W9)|(refine gL 82 22 func82 #[.agg #[.string Dj, .string Hg, .slice zB t222.length yC]] ?_;(with_reducible refine(oq.calls k Dj Hg _ _ t222 t227 t228 _ ?oG ?qU A4.out).mono ?_);(case oG=>refine(dB (e:=63) (base:=w.heap.size) (ok:=fun k_=>True) (n:=t222.length) (c:=yC) ?_).2.2;exact(ur (aY (bK (p:=⟨wW,2,none⟩) (bK (p:=⟨wW,1,none⟩) (bK (p:=⟨wW,0,none⟩) (eP wV.out BR.out (by decide)) (fun _ hk=>hk.2) (.string Dj)) (fun _ hk=>hk.2) (.string Hg)) (fun _ hk=>hk.2) (.slice zB t222.length yC)) (fun _ h_=>h_.1))));(case qU=>exact(dB wV.out).2.1);rintro e w12 ⟨rfl,hb⟩;refine⟨_,rfl,?_⟩;replace wV:=ak (lZ (ur (aY (bK (p:=⟨wW,2,none⟩) (bK (p:=⟨wW,1,none⟩) (bK (p:=⟨wW,0,none⟩) (eP wV.out BR.out (by decide)) (fun _ hk=>hk.2) (.string Dj)) (fun _ hk=>hk.2) (.string Hg)) (fun _ hk=>hk.2) (.slice zB t222.length yC)) (fun _ h_=>h_.1))) hb);replace BR:=ak (jy (g:=wW) (o:= .cells #[.string Dj, .string Hg, .slice zB t222.length yC] 90 (0,0)) (by(with_reducible repeat(first|refine ay ?_ _|refine aC ?_|refine au ?_ _));refine bU (cs:=#[.string Dj, .string Hg, .slice none 0 0]) ?_ 2 _ rfl;(with_reducible repeat(first|refine ay ?_ _|refine aC ?_|refine au ?_ _));refine bU (cs:=#[.string Dj, .string (⟨#[]⟩:ByteArray), .slice none 0 0]) ?_ 1 _ rfl;(with_reducible repeat(first|refine ay ?_ _|refine aC ?_|refine au ?_ _));refine bU (cs:=#[.string (⟨#[]⟩:ByteArray), .string (⟨#[]⟩:ByteArray), .slice none 0 0]) ?_ 0 _ rfl;(with_reducible repeat(first|refine ay ?_ _|refine aC ?_|refine au ?_ _));exact BR.out) hb);replace HB:=ak (aI bb hb);(try clear hb)))
   go_ret2;exact⟨er,bb⟩
  ·simp only[Option.some.injEq,Prod.mk.injEq]at H;obtain⟨rfl,rfl⟩:=H;go_enter func58,ntmps58;go_wp2_with (first|(refine gL 80 12 func80 #[.slice A0 l0.length c0, .string (⟨#[67,111,110,116,101,110,116,45,84,121,112,101]⟩:ByteArray)] ?_;(with_reducible refine(kJ.calls k _ _ l0 (⟨#[67,111,110,116,101,110,116,45,84,121,112,101]⟩:ByteArray) t218 true _ (cu HR0.out) yx.out A2.out).mono ?_);rintro e NC ⟨rfl,hb⟩;refine⟨_,rfl,?_⟩;replace HB:=bs HB hb;(try clear hb))|(refine gL 81 17 func81 #[.string t218] ?_;(with_reducible refine(bW.calls k t218 Dj Hg t222 false _ A3.out).mono ?_);rintro e Ut ⟨aAO,rfl,ho0,hb⟩;refine⟨_,rfl,?_⟩;have wV:=ak (bP ho0 (aj (ul HB.out)));replace HB:=bs HB hb;(try clear hb);(try clear ho0))|(refine bE 6 #[.string (⟨#[]⟩:ByteArray), .string (⟨#[]⟩:ByteArray), .slice none 0 0] 90 ?_;intro wW hg YU hbox hb;have BR:=ak (hbox);have atf:=mJ HB hg;have atg:=mJ HB hg;replace wV:=rb wV hb;replace HB:=bs HB hb;clear hb hbox hg;obtain⟨OY,OZ,Vw,O1,O4,Vx⟩:=iE BR.out;obtain⟨vU,vC,aaP⟩:=bG wV.out;subst aaP)|(refine gL 82 22 func82 #[.agg #[.string Dj, .string Hg, .slice vU t222.length vC]] ?_;(with_reducible refine(oq.calls k Dj Hg _ _ t222 t227 t228 _ ?oG ?qU A4.out).mono ?_);(case oG=>refine(dB (e:=63) (base:=w.heap.size) (ok:=fun k_=>True) (n:=t222.length) (c:=vC) ?_).2.2;exact(ur (aY (bK (p:=⟨wW,2,none⟩) (bK (p:=⟨wW,1,none⟩) (bK (p:=⟨wW,0,none⟩) (eP wV.out BR.out (by decide)) (fun _ hk=>hk.2) (.string Dj)) (fun _ hk=>hk.2) (.string Hg)) (fun _ hk=>hk.2) (.slice vU t222.length vC)) (fun _ h_=>h_.1))));(case qU=>exact(dB wV.out).2.1);rintro e w18 ⟨rfl,hb⟩;refine⟨_,rfl,?_⟩;replace wV:=ak (lZ (ur (aY (bK (p:=⟨wW,2,none⟩) (bK (p:=⟨wW,1,none⟩) (bK (p:=⟨wW,0,none⟩) (eP wV.out BR.out (by decide)) (fun _ hk=>hk.2) (.string Dj)) (fun _ hk=>hk.2) (.string Hg)) (fun _ hk=>hk.2) (.slice vU t222.length vC)) (fun _ h_=>h_.1))) hb);replace BR:=ak (jy (g:=wW) (o:= .cells #[.string Dj, .string Hg, .slice vU t222.length vC] 90 (0,0)) (by(with_reducible repeat(first|refine ay ?_ _|refine aC ?_|refine au ?_ _));refine bU (cs:=#[.string Dj, .string Hg, .slice none 0 0]) ?_ 2 _ rfl;(with_reducible repeat(first|refine ay ?_ _|refine aC ?_|refine au ?_ _));refine bU (cs:=#[.string Dj, .string (⟨#[]⟩:ByteArray), .slice none 0 0]) ?_ 1 _ rfl;(with_reducible repeat(first|refine ay ?_ _|refine aC ?_|refine au ?_ _));refine bU (cs:=#[.string (⟨#[]⟩:ByteArray), .string (⟨#[]⟩:ByteArray), .slice none 0 0]) ?_ 0 _ rfl;(with_reducible repeat(first|refine ay ?_ _|refine aC ?_|refine au ?_ _));exact BR.out) hb);replace HB:=ak (aI bb hb);(try clear hb)))
   go_ret2;exact⟨er,bb⟩
 ·simp only[Option.some.injEq,Prod.mk.injEq]at H;obtain⟨rfl,rfl⟩:=H;go_enter func58,ntmps58;go_wp2_with (first|(refine gL 80 12 func80 #[.slice A0 l0.length c0, .string (⟨#[67,111,110,116,101,110,116,45,84,121,112,101]⟩:ByteArray)] ?_;(with_reducible refine(kJ.calls k _ _ l0 (⟨#[67,111,110,116,101,110,116,45,84,121,112,101]⟩:ByteArray) t218 false _ (cu HR0.out) yx.out A2.out).mono ?_);rintro e w19 ⟨rfl,hb⟩;refine⟨_,rfl,?_⟩;replace HB:=bs HB hb;(try clear hb))|(refine gL 81 17 func81 #[.string t218] ?_;(with_reducible refine(bW.calls k t218 Dj Hg t222 aGn _ A3.out).mono ?_);rintro e w20 ⟨aAO,rfl,ho0,hb⟩;refine⟨_,rfl,?_⟩;have wV:=ak (bP ho0 (aj (ul HB.out)));replace HB:=bs HB hb;(try clear hb);(try clear ho0))|(refine bE 6 #[.string (⟨#[]⟩:ByteArray), .string (⟨#[]⟩:ByteArray), .slice none 0 0] 90 ?_;intro wW hg w21 hbox hb;have BR:=ak (hbox);have atf:=mJ HB hg;have atg:=mJ HB hg;replace wV:=rb wV hb;replace HB:=bs HB hb;clear hb hbox hg;obtain⟨IW,LZ,L6,IX,L8,L9⟩:=iE BR.out;obtain⟨apR,amD,aGo⟩:=bG wV.out;subst aGo)|(refine gL 82 22 func82 #[.agg #[.string Dj, .string Hg, .slice apR t222.length amD]] ?_;(with_reducible refine(oq.calls k Dj Hg _ _ t222 t227 t228 _ ?oG ?qU A4.out).mono ?_);(case oG=>refine(dB (e:=63) (base:=w.heap.size) (ok:=fun k_=>True) (n:=t222.length) (c:=amD) ?_).2.2;exact(ur (aY (bK (p:=⟨wW,2,none⟩) (bK (p:=⟨wW,1,none⟩) (bK (p:=⟨wW,0,none⟩) (eP wV.out BR.out (by decide)) (fun _ hk=>hk.2) (.string Dj)) (fun _ hk=>hk.2) (.string Hg)) (fun _ hk=>hk.2) (.slice apR t222.length amD)) (fun _ h_=>h_.1))));(case qU=>exact(dB wV.out).2.1);rintro e w24 ⟨rfl,hb⟩;refine⟨_,rfl,?_⟩;replace wV:=ak (lZ (ur (aY (bK (p:=⟨wW,2,none⟩) (bK (p:=⟨wW,1,none⟩) (bK (p:=⟨wW,0,none⟩) (eP wV.out BR.out (by decide)) (fun _ hk=>hk.2) (.string Dj)) (fun _ hk=>hk.2) (.string Hg)) (fun _ hk=>hk.2) (.slice apR t222.length amD)) (fun _ h_=>h_.1))) hb);replace BR:=ak (jy (g:=wW) (o:= .cells #[.string Dj, .string Hg, .slice apR t222.length amD] 90 (0,0)) (by(with_reducible repeat(first|refine ay ?_ _|refine aC ?_|refine au ?_ _));refine bU (cs:=#[.string Dj, .string Hg, .slice none 0 0]) ?_ 2 _ rfl;(with_reducible repeat(first|refine ay ?_ _|refine aC ?_|refine au ?_ _));refine bU (cs:=#[.string Dj, .string (⟨#[]⟩:ByteArray), .slice none 0 0]) ?_ 1 _ rfl;(with_reducible repeat(first|refine ay ?_ _|refine aC ?_|refine au ?_ _));refine bU (cs:=#[.string (⟨#[]⟩:ByteArray), .string (⟨#[]⟩:ByteArray), .slice none 0 0]) ?_ 0 _ rfl;(with_reducible repeat(first|refine ay ?_ _|refine aC ?_|refine au ?_ _));exact BR.out) hb);replace HB:=ak (aI bb hb);(try clear hb)))
  go_ret2;exact⟨er,bb⟩
end Go.Proofs.YtdimppdlfgnhgaaGreatDoor.PFnExactPartAt
