/- Printed walks; conditions: those in each statement. -/
import Derived.Test.YtdkipechiaploaaGreatDoorVFnPartTextQt
import Derived.Test.YtdkipechiaploaaGreatDoorVFnPartTextYt
import Derived.Test.YtdkipechiaploaaGreatDoorPFnPartTextx0
namespace Go.Proofs.YtdkipechiaploaaGreatDoor.PFnPartText
open Go.Proofs.YtdkipechiaploaaGreatDoorW.dZ.Kd Go.Proofs.YtdkipechiaploaaGreatDoorW.rW.Kd Go.Proofs.Tryz Go.RowKit Go.Proofs.YtdkipechiaploaaGreatDoor.X Go.Proofs.YtdkipechiaploaaGreatDoorW.dZ Go.Proofs.YtdkipechiaploaaGreatDoorW.nK Go.Proofs.YtdkipechiaploaaGreatDoorW.rW
attribute [local go_sem] BN BO Fb Fe zK zL BP BQ   -- for this text's walks alone
set_option linter.unusedVariables false
set_option maxHeartbeats 8000000
set_option maxRecDepth 100000
set_option linter.unusedSimpArgs false
def lC.l0:Nat→List (eG)→ByteArray→Int→Option (Int)
 |0,_,_,_=>none
 |k+1,x0,x1,x5=>if x5<(x0.length:Int)then(if 0≤x5 then((uF.f ((eY x0 x5).f0) x1).bind fun aDY=>(if aDY=true then(some x5)else(lC.l0 k x0 x1 (wrap64 (x5+1)))))else(none))else(some (-1))
def lC.f(k:Nat)(l0:List (eG))(a1:ByteArray):Option (Int):=lC.l0 k l0 a1 0
theorem lC.calls{k c0:Nat}{A0:Option Addr}{l0:List (eG)}{a1:ByteArray}{r:Int}{w:World}(hr0:Kd.C o9 w A0 l0.length l0)(hc0:l0.length≤c0)(h:lC.f k l0 a1=some r):
  Calls Tryz.prog 91 #[.slice A0 l0.length c0, .string a1] w fun e w'=>e= .returned (.int .i64 r)∧Below w.heap.size w w':=by
 have HR0:=ak hr0;have uV:=ak hc0;clear hr0 hc0;have HB:=ak (Below.refl w.heap.size w);unfold lC.f at h;have H:=h;clear h;have H':=ak H;clear H;go_enter func91,ntmps91;go_wp2;go_loopg [5] k (fun kq v5 w'=>∃(dX:Int),v5= .int .i64 dX∧ah (lC.l0 kq l0 a1 dX=some r)∧ah (kq≤k)∧ah (Below w.heap.size w w'))
 case atStart=>exact⟨_,rs,H',⟨Nat.le_refl _⟩,⟨ul HB.out⟩⟩
 case round=>
  clear H';obtain⟨dX,rfl,HA,y5,HB⟩:=hrel
  cases gk with
  |zero=>exact zz HA.out
  |succ k1=>
   obtain⟨H⟩:=HA;simp only[lC.l0]at H;replace H:=sd H;rcases H with⟨iY,H⟩|⟨iY,H⟩
   ·replace H:=nO H;obtain⟨o7,H⟩:=H;replace H:=bd H;obtain⟨aDY,A5,H⟩:=H;replace H:=sb H;rcases H with⟨rfl,H⟩|⟨rfl,H⟩
    ·obtain rfl:=s1 H;have afw:=zi dX;have afx:=zj dX l0.length;obtain⟨aDZ,axF,Ry,Rz⟩:=r_ HR0.out dX afw afx;cases axF;replace Ry:=cl HB.out Ry;replace Rz:=cl HB.out Rz;replace afw:=eq_true afw;replace afx:=eq_true afx;go_wp2_with (refine gB func122 (uF.calls A5.out) ?_;intro w7 hb;replace HB:=bs HB hb;clear hb)
     go_ret;exact⟨er,ul HB.out⟩
    ·have H':=ak H;clear H;have afw:=zi dX;have afx:=zj dX l0.length;obtain⟨aDZ,axF,Ry,Rz⟩:=r_ HR0.out dX afw afx;cases axF;replace Ry:=cl HB.out Ry;replace Rz:=cl HB.out Rz;replace afw:=eq_true afw;replace afx:=eq_true afx;go_wp2_with (refine gB func122 (uF.calls A5.out) ?_;intro w8 hb;replace HB:=bs HB hb;clear hb)
     go_roundg k1
     case measure=>exact kl
     case rel=>exact⟨_,rs,H',⟨kl⟩,⟨ul HB.out⟩⟩
   ·obtain rfl:=s1 H;go_wp2;go_ret;exact⟨er,ul HB.out⟩
def lJ.f(k:Nat)(l0:List (eG))(a1:ByteArray):Option (ByteArray×Bool):=(lC.f k l0 a1).bind fun adF=>(if adF<0 then(some ((⟨#[]⟩:ByteArray),false))else(if 0≤adF then(if adF<(l0.length:Int)then(some ((eY l0 adF).f1,true))else(none))else(none)))
theorem lJ.calls{k c0:Nat}{A0:Option Addr}{l0:List (eG)}{a1 r1:ByteArray}{r2:Bool}{w:World}(hr0:Kd.C o9 w A0 l0.length l0)(hc0:l0.length≤c0)(h:lJ.f k l0 a1=some (r1,r2)):
  Calls Tryz.prog 61 #[.slice A0 l0.length c0, .string a1] w fun e w'=>e= .returned (.tuple #[.string r1, .bool r2])∧Below w.heap.size w w':=by
 have HR0:=ak hr0;have uV:=ak hc0;clear hr0 hc0;have HB:=ak (Below.refl w.heap.size w);unfold lJ.f at h;have H:=h;clear h;replace H:=bd H;obtain⟨adF,A3,H⟩:=H;replace H:=sd H;rcases H with⟨o7,H⟩|⟨o7,H⟩
 ·obtain⟨rfl,rfl⟩:=s2 H;go_enter func61,ntmps61;go_wp2_with (refine gB func91 (lC.calls (cu HR0.out) uV.out A3.out) ?_;intro w5 hb;replace HB:=bs HB hb;clear hb)
  go_ret2;exact⟨er,ul HB.out⟩
 ·replace H:=nO H;obtain⟨nD,H⟩:=H;replace H:=nO H;obtain⟨sQ,H⟩:=H;obtain⟨rfl,rfl⟩:=s2 H;go_enter func61,ntmps61;go_wp2_with (refine gB func91 (lC.calls (cu HR0.out) uV.out A3.out) ?_;intro w8 hb;replace HB:=bs HB hb;clear hb;have axG:0≤(adF:Int):=of_decide_eq_true (by assumption);have axH:adF<(l0.length:Int):=of_decide_eq_true (by assumption);obtain⟨aPC,aLH,abz,abA⟩:=r_ HR0.out adF axG axH;cases aLH;replace abz:=(HB.out.cell (World.block_lt_of_cell? w _ abz)).trans abz;replace abA:=(HB.out.cell (World.block_lt_of_cell? w _ abA)).trans abA;replace axG:=eq_true axG;replace axH:=eq_true axH)
  go_ret2;exact⟨er,ul HB.out⟩
def iG.l0:Nat→ByteArray→ByteArray→Int→Option (ByteArray×Int)
 |0,_,_,_=>none
 |k+1,x0,x6,x7=>if x7<(x0.size:Int)then(if 0≤x7 then(if(bt x0 x7)=34 then(some (x6,wrap64 (x7+1)))else(if(bt x0 x7)=92 then(if(wrap64 (x7+1))=(x0.size:Int)then(some ((⟨#[]⟩:ByteArray),(-1)))else(if 0≤(wrap64 (x7+1))then(if(wrap64 (x7+1))≤(wrap64 ((wrap64 (x7+1))+1))then(if(wrap64 ((wrap64 (x7+1))+1))≤(x0.size:Int)then(if x6.size+(x0.extract ((wrap64 (x7+1)):Int).toNat ((wrap64 ((wrap64 (x7+1))+1)):Int).toNat).size≤9223372036854775807 then(iG.l0 k x0 (x6++(x0.extract ((wrap64 (x7+1)):Int).toNat ((wrap64 ((wrap64 (x7+1))+1)):Int).toNat)) (wrap64 ((wrap64 (x7+1))+1)))else(none))else(none))else(none))else(none)))else(if x7≤(wrap64 (x7+1))then(if(wrap64 (x7+1))≤(x0.size:Int)then(if x6.size+(x0.extract (x7:Int).toNat ((wrap64 (x7+1)):Int).toNat).size≤9223372036854775807 then(iG.l0 k x0 (x6++(x0.extract (x7:Int).toNat ((wrap64 (x7+1)):Int).toNat)) (wrap64 (x7+1)))else(none))else(none))else(none))))else(none))else(some ((⟨#[]⟩:ByteArray),(-1)))
def iG.f(k:Nat)(a0:ByteArray)(a1:Int):Option (ByteArray×Int):=iG.l0 k a0 (⟨#[]⟩:ByteArray) (wrap64 (a1+1))
theorem iG.calls{k:Nat}{a0 r1:ByteArray}{a1 r2:Int}{w:World}(h:iG.f k a0 a1=some (r1,r2)):
  Calls Tryz.prog 123 #[.string a0, .int .i64 a1] w fun e w'=>e= .returned (.tuple #[.string r1, .int .i64 r2])∧dS w w':=by
 unfold iG.f at h;have H:=h;clear h;have H':=ak H;clear H;go_enter func123,ntmps123;go_wp2;go_loopg [6,7] k (fun kq v6 v7 w'=>∃(gU:ByteArray) (qA:Int),v6= .string gU∧v7= .int .i64 qA∧ah (iG.l0 kq a0 gU qA=some (r1,r2))∧ah (kq≤k)∧dS w w')
 case atStart=>exact⟨_,_,rs,rs,H',⟨Nat.le_refl _⟩,dn⟩
 case round=>
  clear H';obtain⟨gU,qA,rfl,rfl,HA,y5,⟨m1,rfl⟩⟩:=hrel
  cases gk with
  |zero=>exact zz HA.out
  |succ k1=>
   obtain⟨H⟩:=HA;simp only[iG.l0]at H;replace H:=sd H;rcases H with⟨iY,H⟩|⟨iY,H⟩
   ·replace H:=nO H;obtain⟨o7,H⟩:=H;replace H:=sq H;rcases H with⟨nD,AQ,H⟩|⟨c6,nD,AQ,H⟩
    ·obtain⟨rfl,rfl⟩:=s2 H;obtain⟨p5,q5,hx5⟩:=bx a0 qA;go_wp2;go_ret2;exact⟨rs,dn⟩
    ·replace H:=sq H;rcases H with⟨rP,Dt,H⟩|⟨c8,rP,Dt,H⟩
     ·replace H:=sq H;rcases H with⟨xZ,D_,H⟩|⟨c9,xZ,D_,H⟩
      ·obtain⟨rfl,rfl⟩:=s2 H;obtain⟨p5,q5,hx5⟩:=bx a0 qA;obtain⟨p7,q7,hx7⟩:=bx a0 qA;go_wp2;go_ret2;exact⟨rs,dn⟩
      ·obtain⟨RD,XJ⟩:∃j_:Int,(wrap64 (qA+1))=j_:=⟨_,rfl⟩
       replace H:(if 0≤(RD)then(if(RD)≤(wrap64 ((RD)+1))then(if(wrap64 ((RD)+1))≤(a0.size:Int)then(if gU.size+(a0.extract ((RD):Int).toNat ((wrap64 ((RD)+1)):Int).toNat).size≤9223372036854775807 then(iG.l0 k1 a0 (gU++(a0.extract ((RD):Int).toNat ((wrap64 ((RD)+1)):Int).toNat)) (wrap64 ((RD)+1)))else(none))else(none))else(none))else(none))=some (r1,r2):=by first|(rw[XJ]at H;exact H)|(simp only[XJ]at H⊢;exact H)
       (try rw[XJ]at xZ)
       (try rw[XJ]at D_);have aLI:(IntKind.i64.wrap (qA+1))=RD:=(ig _).trans XJ;replace H:=AL H;obtain⟨uM,D7,H⟩:=H;replace H:=nn H;obtain⟨c12,H⟩:=H;have vJ:=eq_true c12;have EU:=decide_eq_true c12;replace H:=nn H;obtain⟨c13,H⟩:=H;have xY:=eq_true c13;have Dh:=decide_eq_true c13;replace H:=nn H;obtain⟨c14,H⟩:=H;have uD:=eq_true c14;have yc:=decide_eq_true c14;try have aPD:(9223372036854775807<gU.size+((a0.extract ((RD):Int).toNat ((wrap64 ((RD)+1)):Int).toNat).size))=False:=by have h_:=c14;simp only[ByteArray.size_append,ByteArray.size_extract]at h_;refine eq_false ?_;simp only[decide_eq_true_eq]at*;omega
       try have asG:(9223372036854775807<gU.size+(a0.extract ((RD):Int).toNat ((wrap64 ((RD)+1)):Int).toNat).size)=False:=eq_false (Nat.not_lt.2 c14)
       have H':=ak H;clear H;obtain⟨p5,q5,hx5⟩:=bx a0 qA;obtain⟨p7,q7,hx7⟩:=bx a0 qA;go_wp2;go_roundg k1
       case measure=>exact kl
       case rel=>exact⟨_,_,(by first|rfl|(simp;done)|(simp only[←XJ]<;>(first|rfl|simp))|(simp[*];done)),(by first|rfl|(simp;done)|(simp only[←XJ]<;>(first|rfl|simp))|(simp[*];done)),H',⟨kl⟩,dn⟩
     ·have uz:=eq_true (of_decide_eq_true (by assumption):0≤qA);replace H:=nn H;obtain⟨c16,H⟩:=H;have ER:=eq_true c16;have QT:=decide_eq_true c16;replace H:=nn H;obtain⟨c17,H⟩:=H;have wz:=eq_true c17;have Pg:=decide_eq_true c17;replace H:=nn H;obtain⟨c18,H⟩:=H;have ES:=eq_true c18;have Xk:=decide_eq_true c18;try have aPE:(9223372036854775807<gU.size+((a0.extract (qA:Int).toNat ((wrap64 (qA+1)):Int).toNat).size))=False:=by have h_:=c18;simp only[ByteArray.size_append,ByteArray.size_extract]at h_;refine eq_false ?_;simp only[decide_eq_true_eq]at*;omega
      try have atU:(9223372036854775807<gU.size+(a0.extract (qA:Int).toNat ((wrap64 (qA+1)):Int).toNat).size)=False:=eq_false (Nat.not_lt.2 c18)
      have H':=ak H;clear H;obtain⟨p5,q5,hx5⟩:=bx a0 qA;obtain⟨p7,q7,hx7⟩:=bx a0 qA;go_wp2;go_roundg k1
      case measure=>exact kl
      case rel=>exact⟨_,_,rs,rs,H',⟨kl⟩,dn⟩
   ·obtain⟨rfl,rfl⟩:=s2 H;go_wp2;go_ret2;exact⟨rs,dn⟩
def kF.l0:Nat→ByteArray→Int→Int→Option (ByteArray×ByteArray×Bool)
 |0,_,_,_=>none
 |k+1,x0,x1,x7=>if x7<(x0.size:Int)then(if 0≤x7 then(if(bt x0 x7)=34 then((iG.f k x0 x7).bind fun atV=>(if atV.2<0 then(some (x0,(⟨#[]⟩:ByteArray),false))else(kF.l0 k x0 x1 atV.2)))else(if(bt x0 x7)=x1 then(if x7≤(x0.size:Int)then(if 0≤(wrap64 (x7+1))then(if(wrap64 (x7+1))≤(x0.size:Int)then(some (x0.extract 0 (x7:Int).toNat,x0.extract ((wrap64 (x7+1)):Int).toNat x0.size,true))else(none))else(none))else(none))else(kF.l0 k x0 x1 (wrap64 (x7+1)))))else(none))else(some (x0,(⟨#[]⟩:ByteArray),false))
def kF.f(k:Nat)(a0:ByteArray)(a1:Int):Option (ByteArray×ByteArray×Bool):=kF.l0 k a0 a1 0
theorem kF.calls{k:Nat}{a0 r1 r2:ByteArray}{a1:Int}{r3:Bool}{w:World}(h:kF.f k a0 a1=some (r1,r2,r3)):
  Calls Tryz.prog 92 #[.string a0, .int .u8 a1] w fun e w'=>e= .returned (.tuple #[.string r1, .string r2, .bool r3])∧dS w w':=by
 unfold kF.f at h;have H:=h;clear h;have H':=ak H;clear H;go_enter func92,ntmps92;go_wp2;repeat(go_quiet (fail);try go_wp2)
 go_loopg [7] k (fun kq v7 w'=>∃(qA:Int),v7= .int .i64 qA∧ah (kF.l0 kq a0 a1 qA=some (r1,r2,r3))∧ah (kq≤k)∧dS w w')
 case atStart=>exact⟨_,rs,H',⟨Nat.le_refl _⟩,dn⟩
 case round=>
  clear H';obtain⟨qA,rfl,HA,y5,⟨m1,rfl⟩⟩:=hrel
  cases gk with
  |zero=>exact zz HA.out
  |succ k1=>
   obtain⟨H⟩:=HA;simp only[kF.l0]at H;replace H:=sd H;rcases H with⟨iY,H⟩|⟨iY,H⟩
   ·replace H:=nO H;obtain⟨o7,H⟩:=H;replace H:=sq H;rcases H with⟨nD,AQ,H⟩|⟨c6,nD,AQ,H⟩
    ·replace H:=bd H;obtain⟨⟨aUV,aUW⟩,A7,H⟩:=H
     (try dsimp only at H);replace H:=sd H;rcases H with⟨rP,H⟩|⟨rP,H⟩
     ·obtain⟨rfl,rfl,rfl⟩:=s3 H;obtain⟨p5,q5,hx5⟩:=bx a0 qA;go_wp2_with (go_at_call 123;refine mA (iG.calls A7.out) ?_;intro nd;(try exact dq))
      repeat(go_quiet ((go_at_call 123;refine mA (iG.calls A7.out) ?_;intro nd;(try exact dq)));try go_wp2_with (go_at_call 123;refine mA (iG.calls A7.out) ?_;intro nd;(try exact dq)))
      go_ret3;exact⟨rs,dn⟩
     ·have H':=ak H;clear H;obtain⟨p5,q5,hx5⟩:=bx a0 qA;go_wp2_with (go_at_call 123;refine mA (iG.calls A7.out) ?_;intro nd;(try exact dq))
      repeat(go_quiet ((go_at_call 123;refine mA (iG.calls A7.out) ?_;intro nd;(try exact dq)));try go_wp2_with (go_at_call 123;refine mA (iG.calls A7.out) ?_;intro nd;(try exact dq)))
      go_roundg k1
      case measure=>exact kl
      case rel=>exact⟨_,rs,H',⟨kl⟩,dn⟩
    ·replace H:=sq H;rcases H with⟨qg,uN,H⟩|⟨c10,qg,uN,H⟩
     ·have uM:=eq_true (of_decide_eq_true (by assumption):0≤qA);replace H:=AL H;obtain⟨vJ,EU,H⟩:=H;obtain⟨BL,zV⟩:∃j_:Int,(wrap64 (qA+1))=j_:=⟨_,rfl⟩
      replace H:(if 0≤(BL)then(if(BL)≤(a0.size:Int)then(some (a0.extract 0 (qA:Int).toNat,a0.extract ((BL):Int).toNat a0.size,true))else(none))else(none))=some (r1,r2,r3):=by first|(rw[zV]at H;exact H)|(simp only[zV]at H⊢;exact H)
      have alm:(IntKind.i64.wrap (qA+1))=BL:=(ig _).trans zV;replace H:=AL H;obtain⟨uD,yc,H⟩:=H;replace H:=AL H;obtain⟨uz,D8,H⟩:=H;obtain⟨rfl,rfl,rfl⟩:=s3 H;obtain⟨p5,q5,hx5⟩:=bx a0 qA;obtain⟨p9,q9,hx9⟩:=bx a0 qA;go_wp2;repeat(go_quiet (fail);try go_wp2)
      go_ret3;exact⟨by first|rfl|(simp;done)|(simp only[←zV]<;>(first|rfl|simp))|(simp[*];done),dn⟩
     ·have H':=ak H;clear H;obtain⟨p5,q5,hx5⟩:=bx a0 qA;obtain⟨p9,q9,hx9⟩:=bx a0 qA;go_wp2;repeat(go_quiet (fail);try go_wp2)
      go_roundg k1
      case measure=>exact kl
      case rel=>exact⟨_,rs,H',⟨kl⟩,dn⟩
   ·obtain⟨rfl,rfl,rfl⟩:=s3 H;go_wp2;repeat(go_quiet (fail);try go_wp2)
    go_ret3;exact⟨rs,dn⟩
def kJ.l0:Nat→Int→Int→Option (Bool)
 |0,_,_=>none
 |k+1,x0,x3=>if x3<19 then(if 0≤x3 then(if x0=(bt (⟨#[33,35,36,37,38,39,42,43,45,47,61,63,94,95,96,123,124,125,126]⟩:ByteArray) x3)then(some true)else(kJ.l0 k x0 (wrap64 (x3+1))))else(none))else((iI.f x0).bind fun aD0=>(some aD0))
def kJ.f(k:Nat)(a0:Int):Option (Bool):=kJ.l0 k a0 0
theorem kJ.calls{k:Nat}{a0:Int}{r:Bool}{w:World}(h:kJ.f k a0=some r):
  Calls Tryz.prog 124 #[.int .u8 a0] w fun e w'=>e= .returned (.bool r)∧dS w w':=by
 unfold kJ.f at h;have H:=h;clear h;have H':=ak H;clear H;go_enter func124,ntmps124;go_wp2;go_loopg [3] k (fun kq v3 w'=>∃(fA:Int),v3= .int .i64 fA∧ah (kJ.l0 kq a0 fA=some r)∧ah (kq≤k)∧dS w w')
 case atStart=>exact⟨_,rs,H',⟨Nat.le_refl _⟩,dn⟩
 case round=>
  clear H';obtain⟨fA,rfl,HA,y5,⟨m1,rfl⟩⟩:=hrel
  cases gk with
  |zero=>exact zz HA.out
  |succ k1=>
   obtain⟨H⟩:=HA;simp only[kJ.l0]at H;replace H:=sd H;rcases H with⟨sO,H⟩|⟨sO,H⟩
   ·replace H:=nO H;obtain⟨iY,H⟩:=H;replace H:=sq H;rcases H with⟨mV,PW,H⟩|⟨c5,mV,PW,H⟩
    ·obtain rfl:=s1 H;have p4:=zi fA;have q4:=zj fA 19;have hx4:=wY (⟨#[33,35,36,37,38,39,42,43,45,47,61,63,94,95,96,123,124,125,126]⟩:ByteArray) fA;replace p4:=eq_true p4;replace q4:=eq_true q4;go_wp2;go_ret;exact⟨rs,dn⟩
    ·have H':=ak H;clear H;have p4:=zi fA;have q4:=zj fA 19;have hx4:=wY (⟨#[33,35,36,37,38,39,42,43,45,47,61,63,94,95,96,123,124,125,126]⟩:ByteArray) fA;replace p4:=eq_true p4;replace q4:=eq_true q4;go_wp2;go_roundg k1
     case measure=>exact kl
     case rel=>exact⟨_,rs,H',⟨kl⟩,dn⟩
   ·replace H:=bd H;obtain⟨aD0,A6,H⟩:=H;obtain rfl:=s1 H;go_wp2_with (refine gA func97 (iI.calls A6.out) ?_;intro nd)
    go_ret;exact⟨rs,dn⟩
mutual
def f_.l0:Nat→ByteArray→List ByteArray→Int→Option (List ByteArray×Bool)
 |0,_,_,_=>none
 |k+1,x0,x4,x5=>if x5<(x0.size:Int)then(if 0≤x5 then(if(bt x0 x5)=32 then(f_.l0 k x0 x4 (wrap64 (x5+1)))else(if(bt x0 x5)=34 then((iG.f k x0 x5).bind fun RF=>(if RF.2<0 then(some ((([]:List ByteArray)),false))else(if RF.2=x5 then(some ((([]:List ByteArray)),false))else(if RF.2<(x0.size:Int)then(if 0≤RF.2 then(if(bt x0 RF.2)=32 then(if x4.length<8796093022208 then(f_.l0 k x0 (x4++[RF.1]) RF.2)else(none))else(some ((([]:List ByteArray)),false)))else(none))else(if x4.length<8796093022208 then(f_.l0 k x0 (x4++[RF.1]) RF.2)else(none))))))else(f_.l1 k x0 x4 x5 x5)))else(none))else(some (x4,true))
def f_.l1:Nat→ByteArray→List ByteArray→Int→Int→Option (List ByteArray×Bool)
 |0,_,_,_,_=>none
 |k+1,x0,x4,x5,x6=>if x5<(x0.size:Int)then(if 0≤x5 then((kJ.f k (bt x0 x5)).bind fun aD1=>(if aD1=true then(f_.l1 k x0 x4 (wrap64 (x5+1)) x6)else(if 0≤x6 then(if x6≤x5 then(if x5≤(x0.size:Int)then(if x5=x6 then(some ((([]:List ByteArray)),false))else(if(bt x0 x5)=32 then(if x4.length<8796093022208 then(f_.l0 k x0 (x4++[x0.extract (x6:Int).toNat (x5:Int).toNat]) x5)else(none))else(some ((([]:List ByteArray)),false))))else(none))else(none))else(none))))else(none))else(if 0≤x6 then(if x6≤x5 then(if x5≤(x0.size:Int)then(if x5=x6 then(some ((([]:List ByteArray)),false))else(if x4.length<8796093022208 then(f_.l0 k x0 (x4++[x0.extract (x6:Int).toNat (x5:Int).toNat]) x5)else(none)))else(none))else(none))else(none))
end
def f_.f(k:Nat)(a0:ByteArray):Option (List ByteArray×Bool):=f_.l0 k a0 (([]:List ByteArray)) 0
theorem f_.calls{k:Nat}{a0:ByteArray}{r1:List ByteArray}{r2:Bool}{w:World}(h:f_.f k a0=some (r1,r2)):
  Calls Tryz.prog 95 #[.string a0] w fun e w'=>∃nC:Value,e= .returned (.tuple #[nC, .bool r2])∧Kd.R Kd.string 9 w' w.heap.size (fun _=>True) nC r1∧Below w.heap.size w w':=by
 have HB:=ak (Below.refl w.heap.size w);unfold f_.f at h;have H:=h;clear h;obtain⟨aUX,atW⟩:=nm ([]:List ByteArray);rw[←atW.out]at H;have H':=ak H;clear H;go_enter func95,ntmps95;go_wp2_with (refine gG 8 ?_;refine Fh 8 Kd.string 9 atW ?_;intro aUY w2 ho3 hb;have aD2:=ak (au ho3 (aj (ul HB.out)));replace HB:=bs HB hb;clear hb ho3)
 go_loopg [4,5] k (fun kq v4 v5 w'=>∃(cO:List ByteArray) (dX:Int),v5= .int .i64 dX∧ah (f_.l0 kq a0 cO dX=some (r1,r2))∧ah (kq≤k)∧ah (Kd.R Kd.string 9 w' w.heap.size (fun _=>True) v4 cO)∧ah (Below w.heap.size w w'))
 case atStart=>exact⟨_,_,rs,H',⟨Nat.le_refl _⟩,⟨ur aD2.out⟩,⟨ul HB.out⟩⟩
 case round=>
  clear H';obtain⟨cO,dX,rfl,HA,y5,bQ,HB⟩:=hrel
  cases gk with
  |zero=>exact zz HA.out
  |succ k1=>
   obtain⟨H⟩:=HA;simp only[f_.l0]at H;replace H:=sd H;rcases H with⟨o7,H⟩|⟨o7,H⟩
   ·replace H:=nO H;obtain⟨mV,H⟩:=H;replace H:=sq H;rcases H with⟨sQ,LK,H⟩|⟨c7,sQ,LK,H⟩
    ·have H':=ak H;clear H;obtain⟨p6,q6,hx6⟩:=bx a0 dX;go_wp2;go_roundg k1
     case measure=>exact kl
     case rel=>exact⟨_,_,rs,H',⟨kl⟩,⟨ur bQ.out⟩,⟨ul HB.out⟩⟩
    ·replace H:=sq H;rcases H with⟨xZ,D_,H⟩|⟨c9,xZ,D_,H⟩
     ·replace H:=bd H;obtain⟨⟨aD3,ajz⟩,A10,H⟩:=H
      (try dsimp only at H);replace H:=sd H;rcases H with⟨uM,H⟩|⟨uM,H⟩
      ·obtain⟨aUZ,atX⟩:=nm ([]:List ByteArray);rw[←atX.out]at H;obtain⟨rfl,rfl⟩:=s2 H;obtain⟨p6,q6,hx6⟩:=bx a0 dX;obtain⟨p8,q8,hx8⟩:=bx a0 dX;go_wp2_with (first|(refine gA func123 (iG.calls A10.out) ?_;intro nd)|(refine gG 32 ?_;refine Fh 32 Kd.string 9 atX ?_;intro aU0 w12 abB hb;have aD4:=ak (au (dM abB (jl (ur bQ.out))) (aj (ul HB.out)));replace bQ:=ak (dH (ur bQ.out) (bK abB) hb);replace HB:=bs HB hb;clear hb abB))
       go_ret2;exact⟨_,er,ur (aG aD4.out (fun _ hk=>trivial)),ul HB.out⟩
      ·replace H:=sq H;rcases H with⟨uD,yc,H⟩|⟨c14,uD,yc,H⟩
       ·obtain⟨aU1,atY⟩:=nm ([]:List ByteArray);rw[←atY.out]at H;obtain⟨rfl,rfl⟩:=s2 H;obtain⟨p6,q6,hx6⟩:=bx a0 dX;obtain⟨p8,q8,hx8⟩:=bx a0 dX;go_wp2_with (first|(refine gA func123 (iG.calls A10.out) ?_;intro nd)|(refine gG 64 ?_;refine Fh 64 Kd.string 9 atY ?_;intro aU2 w15 axI hb;have aD5:=ak (au (dM axI (jl (ur bQ.out))) (aj (ul HB.out)));replace bQ:=ak (dH (ur bQ.out) (bK axI) hb);replace HB:=bs HB hb;clear hb axI))
        go_ret2;exact⟨_,er,ur (aG aD5.out (fun _ hk=>trivial)),ul HB.out⟩
       ·replace H:=sd H;rcases H with⟨wz,H⟩|⟨wz,H⟩
        ·replace H:=nO H;obtain⟨ES,H⟩:=H;replace H:=sq H;rcases H with⟨QN,Xj,H⟩|⟨c20,QN,Xj,H⟩
         ·replace H:=nl H;obtain⟨adA,H⟩:=H;obtain⟨aU3,atZ⟩:=nm (cO++[aD3]);rw[←atZ.out]at H;have H':=ak H;clear H;obtain⟨p6,q6,hx6⟩:=bx a0 dX;obtain⟨p8,q8,hx8⟩:=bx a0 dX;go_wp2_with (first|(refine gA func123 (iG.calls A10.out) ?_;intro nd;have p19:0≤(ajz:Int):=of_decide_eq_true (by assumption);have q19:ajz<(a0.size:Int):=of_decide_eq_true (by assumption);have aLJ:=wY a0 ajz;replace p19:=eq_true p19;replace q19:=eq_true q19)|((with_reducible refine bP (b:= .append) (xs:=#[.tmp 65, .tmp 67]) rfl ?_);(try(refine kT (by rfl) ?_;dsimp only));at_builtin;refine aP 65 67 Kd.string 24 9 (.string ⟨#[]⟩) 16 underlying24 info9 HB (ur bQ.out) atZ (by have:=adA.out;omega) ?_;intro aU4 w22 ho hb hg hat;have aD6:=ak (ho);replace HB:=ak (hb);clear ho hb hg hat bQ))
          go_roundg k1
          case measure=>exact kl
          case rel=>exact⟨_,_,rs,H',⟨kl⟩,⟨ur aD6.out⟩,⟨ul HB.out⟩⟩
         ·obtain⟨aU5,at1⟩:=nm ([]:List ByteArray);rw[←at1.out]at H;obtain⟨rfl,rfl⟩:=s2 H;obtain⟨p6,q6,hx6⟩:=bx a0 dX;obtain⟨p8,q8,hx8⟩:=bx a0 dX;go_wp2_with (first|(refine gA func123 (iG.calls A10.out) ?_;intro nd;have p19:0≤(ajz:Int):=of_decide_eq_true (by assumption);have q19:ajz<(a0.size:Int):=of_decide_eq_true (by assumption);have aLJ:=wY a0 ajz;replace p19:=eq_true p19;replace q19:=eq_true q19)|(refine gG 64 ?_;refine Fh 64 Kd.string 9 at1 ?_;intro aU6 w23 abr hb;have aD7:=ak (au (dM abr (jl (ur bQ.out))) (aj (ul HB.out)));replace bQ:=ak (dH (ur bQ.out) (bK abr) hb);replace HB:=bs HB hb;clear hb abr))
          go_ret2;exact⟨_,er,ur (aG aD7.out (fun _ hk=>trivial)),ul HB.out⟩
        ·replace H:=nl H;obtain⟨Xi,H⟩:=H;obtain⟨aU7,at6⟩:=nm (cO++[aD3]);rw[←at6.out]at H;have H':=ak H;clear H;obtain⟨p6,q6,hx6⟩:=bx a0 dX;obtain⟨p8,q8,hx8⟩:=bx a0 dX;go_wp2_with (first|(refine gA func123 (iG.calls A10.out) ?_;intro nd)|((with_reducible refine bP (b:= .append) (xs:=#[.tmp 65, .tmp 67]) rfl ?_);(try(refine kT (by rfl) ?_;dsimp only));at_builtin;refine aP 65 67 Kd.string 24 9 (.string ⟨#[]⟩) 16 underlying24 info9 HB (ur bQ.out) at6 (by have:=Xi.out;omega) ?_;intro aU8 w26 ho hb hg hat;have aD8:=ak (ho);replace HB:=ak (hb);clear ho hb hg hat bQ))
         go_roundg k1
         case measure=>exact kl
         case rel=>exact⟨_,_,rs,H',⟨kl⟩,⟨ur aD8.out⟩,⟨ul HB.out⟩⟩
     ·have H':=ak H;clear H;obtain⟨p6,q6,hx6⟩:=bx a0 dX;obtain⟨p8,q8,hx8⟩:=bx a0 dX;go_wp2;go_loopg [5] k1 (fun kq v5 w'=>∃(jB:Int),v5= .int .i64 jB∧ah (f_.l1 kq a0 cO jB dX=some (r1,r2))∧ah (kq≤k1)∧ah (Kd.R Kd.string 9 w' w.heap.size (fun _=>True) u4 cO)∧ah (Below w.heap.size w w'))
      case atStart=>exact⟨_,rs,H',⟨Nat.le_refl _⟩,⟨ur bQ.out⟩,⟨ul HB.out⟩⟩
      case round=>
       clear H';try clear o7
       try clear mV
       try clear p6
       try clear q6
       try clear hx6
       try clear c7
       try clear sQ
       try clear LK
       try clear p8
       try clear q8
       try clear hx8
       try clear c9
       try clear xZ
       try clear D_
       try clear p6
       try clear p8
       try clear q6
       try clear q8
       obtain⟨jB,rfl,HA,HK2,bQ,HB⟩:=hrel
       cases gk with
       |zero=>exact zz HA.out
       |succ k2=>
        obtain⟨H⟩:=HA;simp only[f_.l1]at H;replace H:=sd H;rcases H with⟨KH,H⟩|⟨KH,H⟩
        ·replace H:=nO H;obtain⟨LZ,H⟩:=H;replace H:=bd H;obtain⟨aD1,A30,H⟩:=H;replace H:=sb H;rcases H with⟨rfl,H⟩|⟨rfl,H⟩
         ·have H':=ak H;clear H;obtain⟨p29,q29,hx29⟩:=bx a0 jB;go_wp2_with (go_at_call 124;refine mA (kJ.calls A30.out) ?_;intro nd)
          go_roundg k2
          case measure=>exact kl
          case rel=>exact⟨_,rs,H',⟨kl⟩,⟨ur bQ.out⟩,⟨ul HB.out⟩⟩
         ·replace H:=AL H;obtain⟨aaj,alp,H⟩:=H;replace H:=AL H;obtain⟨aah,ald,H⟩:=H;replace H:=AL H;obtain⟨Xt,ada,H⟩:=H;replace H:=sq H;rcases H with⟨aak,ahw,H⟩|⟨c35,aak,ahw,H⟩
          ·obtain⟨aU9,at7⟩:=nm ([]:List ByteArray);rw[←at7.out]at H;obtain⟨rfl,rfl⟩:=s2 H;obtain⟨p29,q29,hx29⟩:=bx a0 jB;go_wp2_with (first|(go_at_call 124;refine mA (kJ.calls A30.out) ?_;intro nd)|(refine gG 64 ?_;refine Fh 64 Kd.string 9 at7 ?_;intro aU_ w36 axJ hb;have aD9:=ak (au (dM axJ (jl (ur bQ.out))) (aj (ul HB.out)));replace bQ:=ak (dH (ur bQ.out) (bK axJ) hb);replace HB:=bs HB hb;clear hb axJ))
           go_ret2;exact⟨_,er,ur (aG aD9.out (fun _ hk=>trivial)),ul HB.out⟩
          ·replace H:=sq H;rcases H with⟨aD_,aEa,H⟩|⟨c39,aD_,aEa,H⟩
           ·replace H:=nl H;obtain⟨adb,H⟩:=H;obtain⟨aVa,aua⟩:=nm (cO++[a0.extract (dX:Int).toNat (jB:Int).toNat]);rw[←aua.out]at H;have H':=ak H;clear H;obtain⟨p29,q29,hx29⟩:=bx a0 jB;go_wp2_with (first|(go_at_call 124;refine mA (kJ.calls A30.out) ?_;intro nd;have p38:0≤(jB:Int):=of_decide_eq_true (by assumption);have q38:jB<(a0.size:Int):=of_decide_eq_true (by assumption);have hx38:=wY a0 jB;replace p38:=eq_true p38;replace q38:=eq_true q38)|((with_reducible refine bP (b:= .append) (xs:=#[.tmp 65, .tmp 67]) rfl ?_);(try(refine kT (by rfl) ?_;dsimp only));at_builtin;refine aP 65 67 Kd.string 24 9 (.string ⟨#[]⟩) 16 underlying24 info9 HB (ur bQ.out) aua (by have:=adb.out;omega) ?_;intro aVb w41 ho hb hg hat;have aEb:=ak (ho);replace HB:=ak (hb);clear ho hb hg hat bQ))
            go_roundg k2
            case measure=>exact kl
            case rel=>exact⟨_,_,rs,H',⟨kl⟩,⟨ur aEb.out⟩,⟨ul HB.out⟩⟩
           ·obtain⟨aVc,aub⟩:=nm ([]:List ByteArray);rw[←aub.out]at H;obtain⟨rfl,rfl⟩:=s2 H;obtain⟨p29,q29,hx29⟩:=bx a0 jB;go_wp2_with (first|(go_at_call 124;refine mA (kJ.calls A30.out) ?_;intro nd;have p38:0≤(jB:Int):=of_decide_eq_true (by assumption);have q38:jB<(a0.size:Int):=of_decide_eq_true (by assumption);have hx38:=wY a0 jB;replace p38:=eq_true p38;replace q38:=eq_true q38)|(refine gG 64 ?_;refine Fh 64 Kd.string 9 aub ?_;intro aVd w42 ZM hb;have aEc:=ak (au (dM ZM (jl (ur bQ.out))) (aj (ul HB.out)));replace bQ:=ak (dH (ur bQ.out) (bK ZM) hb);replace HB:=bs HB hb;clear hb ZM))
            go_ret2;exact⟨_,er,ur (aG aEc.out (fun _ hk=>trivial)),ul HB.out⟩
        ·replace H:=AL H;obtain⟨aPF,aPG,H⟩:=H;replace H:=AL H;obtain⟨aPH,aPI,H⟩:=H;replace H:=AL H;obtain⟨aPJ,aPK,H⟩:=H;replace H:=sq H;rcases H with⟨aEd,aEe,H⟩|⟨c47,aEd,aEe,H⟩
         ·obtain⟨aVe,auc⟩:=nm ([]:List ByteArray);rw[←auc.out]at H;obtain⟨rfl,rfl⟩:=s2 H;go_wp2_with (refine gG 64 ?_;refine Fh 64 Kd.string 9 auc ?_;intro aVf ZC axK hb;have aEf:=ak (au (dM axK (jl (ur bQ.out))) (aj (ul HB.out)));replace bQ:=ak (dH (ur bQ.out) (bK axK) hb);replace HB:=bs HB hb;clear hb axK)
          go_ret2;exact⟨_,er,ur (aG aEf.out (fun _ hk=>trivial)),ul HB.out⟩
         ·replace H:=nl H;obtain⟨aEg,H⟩:=H;obtain⟨aVg,aud⟩:=nm (cO++[a0.extract (dX:Int).toNat (jB:Int).toNat]);rw[←aud.out]at H;have H':=ak H;clear H;go_wp2_with ((with_reducible refine bP (b:= .append) (xs:=#[.tmp 65, .tmp 67]) rfl ?_);(try(refine kT (by rfl) ?_;dsimp only));at_builtin;refine aP 65 67 Kd.string 24 9 (.string ⟨#[]⟩) 16 underlying24 info9 HB (ur bQ.out) aud (by have:=aEg.out;omega) ?_;intro aVh w51 ho hb hg hat;have aEh:=ak (ho);replace HB:=ak (hb);clear ho hb hg hat bQ)
          go_roundg k2
          case measure=>exact kl
          case rel=>exact⟨_,_,rs,H',⟨kl⟩,⟨ur aEh.out⟩,⟨ul HB.out⟩⟩
   ·obtain⟨rfl,rfl⟩:=s2 H;go_wp2;go_ret2;exact⟨_,er,ur bQ.out,ul HB.out⟩
def mG.f(k:Nat)(a0:ByteArray):Option (Bool):=(dw.f k a0).bind fun aEi=>(if aEi=true then((jg.f a0).bind fun aEj=>(some (aEj.toList==a0.toList)))else(some false))
theorem mG.calls{k:Nat}{a0:ByteArray}{r:Bool}{w:World}(h:mG.f k a0=some r):
  Calls Tryz.prog 125 #[.string a0] w fun e w'=>e= .returned (.bool r)∧Below w.heap.size w w':=by
 have HB:=ak (Below.refl w.heap.size w);unfold mG.f at h;have H:=h;clear h;replace H:=bd H;obtain⟨aEi,A2,H⟩:=H;replace H:=sb H;rcases H with⟨rfl,H⟩|⟨rfl,H⟩
 ·replace H:=bd H;obtain⟨aEj,A4,H⟩:=H;obtain rfl:=s1 H;go_enter func125,ntmps125;go_wp2_with (first|(refine gA func121 (dw.calls A2.out) ?_;intro nd)|(go_at_call 94;refine mB (jg.calls A4.out) ?_;intro w5 hb;replace HB:=bs HB hb;clear hb))
  go_ret;exact⟨er,ul HB.out⟩
 ·obtain rfl:=s1 H;go_enter func125,ntmps125;go_wp2_with (refine gA func121 (dw.calls A2.out) ?_;intro nd)
  go_ret;exact⟨er,ul HB.out⟩
def vM.f(k:Nat)(a0:ByteArray):Option (Bool):=(aW.f k a0).bind fun aEk=>(if aEk=true then(some (decide ((a0.size:Int)≤40)))else(some false))
theorem vM.calls{k:Nat}{a0:ByteArray}{r:Bool}{w:World}(h:vM.f k a0=some r):
  Calls Tryz.prog 126 #[.string a0] w fun e w'=>e= .returned (.bool r)∧dS w w':=by
 unfold vM.f at h;have H:=h;clear h;replace H:=bd H;obtain⟨aEk,A2,H⟩:=H;replace H:=sb H;rcases H with⟨rfl,H⟩|⟨rfl,H⟩
 ·obtain rfl:=s1 H;go_enter func126,ntmps126;go_wp2_with (refine gA func89 (aW.calls A2.out) ?_;intro nd)
  go_ret;exact⟨rs,dn⟩
 ·obtain rfl:=s1 H;go_enter func126,ntmps126;go_wp2_with (refine gA func89 (aW.calls A2.out) ?_;intro nd)
  go_ret;exact⟨rs,dn⟩
mutual
def fE.l0:Nat→ByteArray→Int→Option (Bool)
 |0,_,_=>none
 |k+1,x0,x3=>if x3<(x0.size:Int)then(fE.j1 k x0 x3 (decide (x3≤40)))else(fE.j1 k x0 x3 false)
def fE.j1:Nat→ByteArray→Int→Bool→Option (Bool)
 |0,_,_,_=>none
 |k+1,x0,x3,x11=>if x11=true then(if 0≤x3 then(if x3<(x0.size:Int)then((kJ.f k (bt x0 x3)).bind fun aEl=>(if aEl=true then(fE.l0 k x0 (wrap64 (x3+1)))else(some false)))else(none))else(none))else(if(x0.size:Int)≥1 then(some (decide ((x0.size:Int)≤40)))else(some false))
end
def fE.f(k:Nat)(a0:ByteArray):Option (Bool):=fE.l0 k a0 0
theorem fE.calls{k:Nat}{a0:ByteArray}{r:Bool}{w:World}(h:fE.f k a0=some r):
  Calls Tryz.prog 138 #[.string a0] w fun e w'=>e= .returned (.bool r)∧dS w w':=by
 unfold fE.f at h;have H:=h;clear h;have H':=ak H;clear H;go_enter func138,ntmps138;go_wp2;go_loopg [3] k (fun kq v3 w'=>∃(fA:Int),v3= .int .i64 fA∧ah (fE.l0 kq a0 fA=some r)∧ah (kq≤k)∧dS w w')
 case atStart=>exact⟨_,rs,H',⟨Nat.le_refl _⟩,dn⟩
 case round=>
  clear H';obtain⟨fA,rfl,HA,y5,⟨m1,rfl⟩⟩:=hrel
  cases gk with
  |zero=>exact zz HA.out
  |succ k1=>
   obtain⟨H⟩:=HA;simp only[fE.l0]at H;have HC2:=ak H;clear H;go_upto_region 2 with(fail)
   go_cut [11] (fun v11 wc=>∃(kq:Nat) (y7:Bool),v11= .bool y7∧ah (fE.j1 kq a0 fA y7=some r)∧ah (kq≤k1)∧dS w wc)
   case first=>
    have H:=HC2.out;clear HC2;replace H:=sd H;rcases H with⟨iY,H⟩|⟨iY,H⟩
    ·(first|rw[iY]|(simp only[ig,jO];rw[iY])|skip);have H':=ak H;clear H;go_wp2;go_meet
     case rel=>exact⟨_,_,rs,H',⟨kl⟩,dn⟩
    ·(first|rw[iY]|(simp only[ig,jO];rw[iY])|skip);have H':=ak H;clear H;go_wp2;go_meet
     case rel=>exact⟨_,_,rs,H',⟨kl⟩,dn⟩
   case rest=>
    clear HC2;obtain⟨kq,y7,rfl,HA,HJ1,⟨mc1,rfl⟩⟩:=hcut
    cases kq with
    |zero=>exact zz HA.out
    |succ VU=>
     obtain⟨H⟩:=HA;simp only[fE.j1]at H;replace H:=sb H;rcases H with⟨rfl,H⟩|⟨rfl,H⟩
     ·replace H:=nO H;obtain⟨mV,H⟩:=H;replace H:=nO H;obtain⟨nD,H⟩:=H;replace H:=bd H;obtain⟨aEl,A8,H⟩:=H;replace H:=sb H;rcases H with⟨rfl,H⟩|⟨rfl,H⟩
      ·have H':=ak H;clear H;obtain⟨p7,q7,hx7⟩:=bx a0 fA;go_wp2_with (refine gA func124 (kJ.calls A8.out) ?_;intro nd)
       go_roundg VU
       case measure=>exact kl
       case rel=>exact⟨_,rs,H',⟨kl⟩,dn⟩
      ·obtain rfl:=s1 H;obtain⟨p7,q7,hx7⟩:=bx a0 fA;go_wp2_with (refine gA func124 (kJ.calls A8.out) ?_;intro nd)
       go_ret;exact⟨rs,dn⟩
     ·replace H:=sp H;rcases H with⟨c10,H⟩|⟨c10,H⟩
      ·have qg:decide (1≤(a0.size:Int))=true:=decide_eq_true c10;have uN:decide (1≤a0.size)=true:=decide_eq_true (by omega);clear c10;obtain rfl:=s1 H;go_wp2;go_ret;exact⟨rs,dn⟩
      ·have qg:decide (1≤(a0.size:Int))=false:=decide_eq_false c10;have uN:decide (1≤a0.size)=false:=decide_eq_false (by omega);clear c10;obtain rfl:=s1 H;go_wp2;go_ret;exact⟨rs,dn⟩
def lT.l0:Nat→ByteArray→ByteArray→Int→Option (ByteArray)
 |0,_,_,_=>none
 |k+1,x0,x3,x4=>if x4<(x0.size:Int)then(if 0≤x4 then(if(bt x0 x4)=34 then((some (([92]:List Int):List Int)).bind fun abC=>(if x3.size+(strOfNums abC).size≤9223372036854775807 then(if x4≤(wrap64 (x4+1))then(if(wrap64 (x4+1))≤(x0.size:Int)then(if(x3++(strOfNums abC)).size+(x0.extract (x4:Int).toNat ((wrap64 (x4+1)):Int).toNat).size≤9223372036854775807 then(lT.l0 k x0 ((x3++(strOfNums abC))++(x0.extract (x4:Int).toNat ((wrap64 (x4+1)):Int).toNat)) (wrap64 (x4+1)))else(none))else(none))else(none))else(none)))else(if(bt x0 x4)=92 then((some (([92]:List Int):List Int)).bind fun abD=>(if x3.size+(strOfNums abD).size≤9223372036854775807 then(if x4≤(wrap64 (x4+1))then(if(wrap64 (x4+1))≤(x0.size:Int)then(if(x3++(strOfNums abD)).size+(x0.extract (x4:Int).toNat ((wrap64 (x4+1)):Int).toNat).size≤9223372036854775807 then(lT.l0 k x0 ((x3++(strOfNums abD))++(x0.extract (x4:Int).toNat ((wrap64 (x4+1)):Int).toNat)) (wrap64 (x4+1)))else(none))else(none))else(none))else(none)))else(if x4≤(wrap64 (x4+1))then(if(wrap64 (x4+1))≤(x0.size:Int)then(if x3.size+(x0.extract (x4:Int).toNat ((wrap64 (x4+1)):Int).toNat).size≤9223372036854775807 then(lT.l0 k x0 (x3++(x0.extract (x4:Int).toNat ((wrap64 (x4+1)):Int).toNat)) (wrap64 (x4+1)))else(none))else(none))else(none))))else(none))else(if x3.size+1≤9223372036854775807 then(some (x3++(⟨#[34]⟩:ByteArray)))else(none))
def lT.f(k:Nat)(a0:ByteArray):Option (ByteArray):=lT.l0 k a0 (⟨#[34]⟩:ByteArray) 0
theorem lT.calls{k:Nat}{a0 r:ByteArray}{w:World}(h:lT.f k a0=some r):
  Calls Tryz.prog 139 #[.string a0] w fun e w'=>e= .returned (.string r)∧Below w.heap.size w w':=by
 have HB:=ak (Below.refl w.heap.size w);unfold lT.f at h;have H:=h;clear h;have H':=ak H;clear H;go_enter func139,ntmps139;go_wp2;go_loopg [3,4] k (fun kq v3 v4 w'=>∃(fA:ByteArray) (cO:Int),v3= .string fA∧v4= .int .i64 cO∧ah (lT.l0 kq a0 fA cO=some r)∧ah (kq≤k)∧ah (Below w.heap.size w w'))
 case atStart=>exact⟨_,_,rs,rs,H',⟨Nat.le_refl _⟩,⟨ul HB.out⟩⟩
 case round=>
  clear H';obtain⟨fA,cO,rfl,rfl,HA,y5,HB⟩:=hrel
  cases gk with
  |zero=>exact zz HA.out
  |succ k1=>
   obtain⟨H⟩:=HA;simp only[lT.l0]at H;replace H:=sd H;rcases H with⟨sO,H⟩|⟨sO,H⟩
   ·replace H:=nO H;obtain⟨iY,H⟩:=H;replace H:=sq H;rcases H with⟨mV,PW,H⟩|⟨c5,mV,PW,H⟩
    ·replace H:=ny H;obtain⟨abC,aEm,H⟩:=H;replace H:=nn H;obtain⟨c6,H⟩:=H;have nD:=eq_true c6;have AQ:=decide_eq_true c6;try have aq5:(9223372036854775807<fA.size+(strOfNums abC).size)=False:=eq_false (Nat.not_lt.2 c6)
     have sQ:=eq_true (of_decide_eq_true (by assumption):0≤cO);replace H:=nn H;obtain⟨c8,H⟩:=H;have rP:=eq_true c8;have Dt:=decide_eq_true c8;replace H:=nn H;obtain⟨c9,H⟩:=H;have xZ:=eq_true c9;have D_:=decide_eq_true c9;replace H:=nn H;obtain⟨c10,H⟩:=H;have qg:=eq_true c10;have uN:=decide_eq_true c10;try have aEn:(9223372036854775807<fA.size+(strOfNums abC).size+((a0.extract (cO:Int).toNat ((wrap64 (cO+1)):Int).toNat).size))=False:=by have h_:=c10;simp only[ByteArray.size_append,ByteArray.size_extract]at h_;refine eq_false ?_;simp only[decide_eq_true_eq]at*;omega
     try have atg:(9223372036854775807<fA.size+(strOfNums abC).size+((a0.extract (cO:Int).toNat ((wrap64 (cO+1)):Int).toNat).size))=False:=by have h_:=(eq_false (Nat.not_lt.2 c10):(9223372036854775807<(fA++(strOfNums abC)).size+(a0.extract (cO:Int).toNat ((wrap64 (cO+1)):Int).toNat).size)=False);simp only[ByteArray.size_append]at h_;exact h_
     try have adi:(9223372036854775807<(fA++(strOfNums abC)).size+(a0.extract (cO:Int).toNat ((wrap64 (cO+1)):Int).toNat).size)=False:=eq_false (Nat.not_lt.2 c10)
     have H':=ak H;clear H;obtain⟨p4,q4,hx4⟩:=bx a0 cO;go_wp2_with (refine Xx 22 (Kd.int .u8) 5 [.int .u8 92] aEm (dG.one (show Kd.M (Kd.int .u8) _ _ _ 92 [.int .u8 92]from rfl) (dG.none _ _)) ?_;intro aVi ZH ala hb;have aEo:=ak (au ala (aj (ul HB.out)));replace HB:=bs HB hb;clear hb ala;have aPL:=uO (P:=Tryz.prog) underlying22 underlying5 underlying9 (wI aEo.out))
     go_roundg k1
     case measure=>exact kl
     case rel=>exact⟨_,_,rs,rs,H',⟨kl⟩,⟨ul HB.out⟩⟩
    ·replace H:=sq H;rcases H with⟨uz,D8,H⟩|⟨c15,uz,D8,H⟩
     ·replace H:=ny H;obtain⟨abD,aEp,H⟩:=H;replace H:=nn H;obtain⟨c16,H⟩:=H;have ER:=eq_true c16;have QT:=decide_eq_true c16;try have aPM:(9223372036854775807<fA.size+(strOfNums abD).size)=False:=eq_false (Nat.not_lt.2 c16)
      have wz:=eq_true (of_decide_eq_true (by assumption):0≤cO);replace H:=nn H;obtain⟨c18,H⟩:=H;have ES:=eq_true c18;have Xk:=decide_eq_true c18;replace H:=nn H;obtain⟨c19,H⟩:=H;have ET:=eq_true c19;have Jp:=decide_eq_true c19;replace H:=nn H;obtain⟨c20,H⟩:=H;have QN:=eq_true c20;have Xj:=decide_eq_true c20;try have aPN:(9223372036854775807<fA.size+(strOfNums abD).size+((a0.extract (cO:Int).toNat ((wrap64 (cO+1)):Int).toNat).size))=False:=by have h_:=c20;simp only[ByteArray.size_append,ByteArray.size_extract]at h_;refine eq_false ?_;simp only[decide_eq_true_eq]at*;omega
      try have aPO:(9223372036854775807<fA.size+(strOfNums abD).size+((a0.extract (cO:Int).toNat ((wrap64 (cO+1)):Int).toNat).size))=False:=by have h_:=(eq_false (Nat.not_lt.2 c20):(9223372036854775807<(fA++(strOfNums abD)).size+(a0.extract (cO:Int).toNat ((wrap64 (cO+1)):Int).toNat).size)=False);simp only[ByteArray.size_append]at h_;exact h_
      try have aPP:(9223372036854775807<(fA++(strOfNums abD)).size+(a0.extract (cO:Int).toNat ((wrap64 (cO+1)):Int).toNat).size)=False:=eq_false (Nat.not_lt.2 c20)
      have H':=ak H;clear H;obtain⟨p4,q4,hx4⟩:=bx a0 cO;obtain⟨p14,q14,awW⟩:=bx a0 cO;go_wp2_with (refine Xx 22 (Kd.int .u8) 5 [.int .u8 92] aEp (dG.one (show Kd.M (Kd.int .u8) _ _ _ 92 [.int .u8 92]from rfl) (dG.none _ _)) ?_;intro aVj w21 afy hb;have aEq:=ak (au afy (aj (ul HB.out)));replace HB:=bs HB hb;clear hb afy;have aPQ:=uO (P:=Tryz.prog) underlying22 underlying5 underlying9 (wI aEq.out))
      go_roundg k1
      case measure=>exact kl
      case rel=>exact⟨_,_,rs,rs,H',⟨kl⟩,⟨ul HB.out⟩⟩
     ·have QU:=eq_true (of_decide_eq_true (by assumption):0≤cO);replace H:=nn H;obtain⟨c25,H⟩:=H;have F8:=eq_true c25;have adB:=decide_eq_true c25;replace H:=nn H;obtain⟨c26,H⟩:=H;have Q5:=eq_true c26;have ahu:=decide_eq_true c26;replace H:=nn H;obtain⟨c27,H⟩:=H;have KH:=eq_true c27;have aho:=decide_eq_true c27;try have aPR:(9223372036854775807<fA.size+((a0.extract (cO:Int).toNat ((wrap64 (cO+1)):Int).toNat).size))=False:=by have h_:=c27;simp only[ByteArray.size_append,ByteArray.size_extract]at h_;refine eq_false ?_;simp only[decide_eq_true_eq]at*;omega
      try have aPS:(9223372036854775807<fA.size+(a0.extract (cO:Int).toNat ((wrap64 (cO+1)):Int).toNat).size)=False:=eq_false (Nat.not_lt.2 c27)
      have H':=ak H;clear H;obtain⟨p4,q4,hx4⟩:=bx a0 cO;obtain⟨p14,q14,awW⟩:=bx a0 cO;go_wp2;go_roundg k1
      case measure=>exact kl
      case rel=>exact⟨_,_,rs,rs,H',⟨kl⟩,⟨ul HB.out⟩⟩
   ·replace H:=nn H;obtain⟨c28,H⟩:=H;have LZ:=eq_true c28;have ahv:=decide_eq_true c28;try have aPT:(9223372036854775807<fA.size+1)=False:=eq_false (Nat.not_lt.2 c28)
    obtain rfl:=s1 H;go_wp2;go_ret;exact⟨er,ul HB.out⟩
def uP.f(k:Nat)(a0:ByteArray):Option (ByteArray):=(aW.f k a0).bind fun aEr=>(if aEr=true then((fE.f k a0).bind fun aEs=>(if aEs=true then(some a0)else((lT.f k a0).bind fun aEt=>(some aEt))))else(some (⟨#[]⟩:ByteArray)))
theorem uP.calls{k:Nat}{a0 r:ByteArray}{w:World}(h:uP.f k a0=some r):
  Calls Tryz.prog 127 #[.string a0] w fun e w'=>e= .returned (.string r)∧Below w.heap.size w w':=by
 have HB:=ak (Below.refl w.heap.size w);unfold uP.f at h;have H:=h;clear h;replace H:=bd H;obtain⟨aEr,A2,H⟩:=H;replace H:=sb H;rcases H with⟨rfl,H⟩|⟨rfl,H⟩
 ·replace H:=bd H;obtain⟨aEs,A4,H⟩:=H;replace H:=sb H;rcases H with⟨rfl,H⟩|⟨rfl,H⟩
  ·obtain rfl:=s1 H;go_enter func127,ntmps127;go_wp2_with (first|(refine gA func89 (aW.calls A2.out) ?_;intro nd)|(refine gA func138 (fE.calls A4.out) ?_;intro nd))
   go_ret;exact⟨er,ul HB.out⟩
  ·replace H:=bd H;obtain⟨aEt,A6,H⟩:=H;obtain rfl:=s1 H;go_enter func127,ntmps127;go_wp2_with (first|(refine gA func89 (aW.calls A2.out) ?_;intro nd)|(refine gA func138 (fE.calls A4.out) ?_;intro nd)|(refine gB func139 (lT.calls A6.out) ?_;intro w7 hb;replace HB:=bs HB hb;clear hb))
   go_ret;exact⟨er,ul HB.out⟩
 ·obtain rfl:=s1 H;go_enter func127,ntmps127;go_wp2_with (refine gA func89 (aW.calls A2.out) ?_;intro nd)
  go_ret;exact⟨er,ul HB.out⟩
mutual
def dN.j0:Nat→Bool→ByteArray→ByteArray→List (eG)→Option (Bool)
 |0,_,_,_,_=>none
 |k+1,x21,WT,WU,Cj=>if x21=true then(some false)else(dN.l0 k (wrap64 ((wrap64 ((WT.size:Int)+(WU.size:Int)))+1)) 0 WT WU Cj)
def dN.l0:Nat→Int→Int→ByteArray→ByteArray→List (eG)→Option (Bool)
 |0,_,_,_,_,_=>none
 |k+1,x3,x4,WT,WU,Cj=>if x4<(Cj.length:Int)then(if 0≤x4 then((mG.f k ((eY Cj x4).f0)).bind fun aEu=>(if aEu=true then((vM.f k ((eY Cj x4).f1)).bind fun aEv=>(if aEv=true then(if x4≤(Cj.length:Int)then((lC.f k (Cj.take (x4:Int).toNat) ((eY Cj x4).f0)).bind fun aq9=>(if aq9≥0 then(some false)else((uP.f k ((eY Cj x4).f1)).bind fun aEw=>(dN.l0 k (wrap64 ((wrap64 ((wrap64 (x3+3))+(((eY Cj x4).f0).size:Int)))+(aEw.size:Int))) (wrap64 (x4+1)) WT WU Cj))))else(none))else(some false)))else(some false)))else(none))else(some (decide (x3≤150)))
end
def dN.f(k:Nat)(fF:ByteArray)(fK:ByteArray)(aJ:List (eG)):Option (Bool):=(mG.f k fF).bind fun aEx=>(if aEx=true then((mG.f k fK).bind fun aEy=>(if aEy=true then(dN.j0 k (decide ((aJ.length:Int)>4)) fF fK aJ)else(dN.j0 k true fF fK aJ)))else(dN.j0 k true fF fK aJ))
theorem dN.calls{k fU:Nat}{fF fK:ByteArray}{iR:Option Addr}{aJ:List (eG)}{r:Bool}{w:World}(kZ:Kd.C o9 w iR aJ.length aJ)(lg:aJ.length≤fU)(h:dN.f k fF fK aJ=some r):
  Calls Tryz.prog 96 #[.agg #[.string fF, .string fK, .slice iR aJ.length fU]] w fun e w'=>e= .returned (.bool r)∧Below w.heap.size w w':=by
 have adh:=underlying76;have F7:=underlying43;have kK:=ak kZ;have oh:=ak lg;clear kZ lg;have HB:=ak (Below.refl w.heap.size w);unfold dN.f at h;have H:=h;clear h;have HC2:=ak H;clear H;go_enter func96,ntmps96;go_upto_region 1 with(refine gG 1 ?_;refine bX HB 1 #[.string fF, .string fK, .slice iR aJ.length fU] 76 ?_;intro VB w3 jq aPU hb;replace HB:=bs HB hb;clear hb)
 (try simp only[Act.put,yX,yY,l_c]);go_cut [21] (fun v21 wc=>∃(kq:Nat) (amy:Bool),v21= .bool amy∧ah (dN.j0 kq amy fF fK aJ=some r)∧ah (kq≤k)∧ah (wc.heap[VB]? =some (.cells #[.string fF, .string fK,(.slice iR aJ.length fU)] 76 (0,0)))∧ah (Below w.heap.size w wc))
 case first=>
  have H:=HC2.out;clear HC2;replace H:=bd H;obtain⟨aEx,A4,H⟩:=H;replace H:=sb H;rcases H with⟨rfl,H⟩|⟨rfl,H⟩
  ·replace H:=bd H;obtain⟨aEy,A6,H⟩:=H;replace H:=sb H;rcases H with⟨rfl,H⟩|⟨rfl,H⟩
   ·have H':=ak H;clear H;have z8:=iZ jq.out;go_wp2_with (first|(refine gB func125 (mG.calls A4.out) ?_;intro w9 hb;replace jq:=kb jq hb;replace HB:=bz HB hb;clear hb;have z10:=iZ jq.out)|(go_at_call 125;refine mB (mG.calls A6.out) ?_;intro ZH hb;replace jq:=kb jq hb;replace HB:=bz HB hb;clear hb;have z12:=iZ jq.out))
    go_meet
    case rel=>exact⟨_,_,rs,H',⟨PV⟩,⟨ub jq.out⟩,⟨bb⟩⟩
   ·have H':=ak H;clear H;have z13:=iZ jq.out;go_wp2_with (first|(refine gB func125 (mG.calls A4.out) ?_;intro Xg hb;replace jq:=kb jq hb;replace HB:=bz HB hb;clear hb;have z15:=iZ jq.out)|(go_at_call 125;refine mB (mG.calls A6.out) ?_;intro w16 hb;replace jq:=kb jq hb;replace HB:=bz HB hb;clear hb))
    go_meet
    case rel=>exact⟨_,_,rs,H',⟨PV⟩,⟨ub jq.out⟩,⟨bb⟩⟩
  ·have H':=ak H;clear H;have z17:=iZ jq.out;go_wp2_with (refine gB func125 (mG.calls A4.out) ?_;intro w18 hb;replace jq:=kb jq hb;replace HB:=bz HB hb;clear hb)
   go_meet
   case rel=>exact⟨_,_,rs,H',⟨PV⟩,⟨ub jq.out⟩,⟨bb⟩⟩
 case rest=>
  clear HC2;obtain⟨kq,amy,rfl,HA,HJ1,jq,HB⟩:=hcut
  cases kq with
  |zero=>exact zz HA.out
  |succ VU=>
   obtain⟨H⟩:=HA;simp only[dN.j0]at H;replace H:=sb H;rcases H with⟨rfl,H⟩|⟨rfl,H⟩
   ·obtain rfl:=s1 H;go_wp2;go_ret;exact⟨er,bb⟩
   ·have H':=ak H;clear H;have z20:=iZ jq.out;go_wp2;go_loopg [3,4] VU (fun kq v3 v4 w'=>∃(nJ:Int) (rH:Int),v3= .int .i64 nJ∧v4= .int .i64 rH∧ah (dN.l0 kq nJ rH fF fK aJ=some r)∧ah (kq≤VU)∧ah (w'.heap[VB]? =some (.cells #[.string fF, .string fK,(.slice iR aJ.length fU)] 76 (0,0)))∧ah (Below w.heap.size w w'))
    case atStart=>exact⟨_,_,rs,rs,H',⟨Nat.le_refl _⟩,⟨ub jq.out⟩,⟨bb⟩⟩
    case round=>
     clear H';obtain⟨nJ,rH,rfl,rfl,HA,HK2,jq,HB⟩:=hrel
     cases gk with
     |zero=>exact zz HA.out
     |succ k2=>
      obtain⟨H⟩:=HA;simp only[dN.l0]at H;replace H:=sd H;rcases H with⟨EW,H⟩|⟨EW,H⟩
      ·replace H:=nO H;obtain⟨H9,H⟩:=H;replace H:=bd H;obtain⟨aEu,A23,H⟩:=H;replace H:=sb H;rcases H with⟨rfl,H⟩|⟨rfl,H⟩
       ·replace H:=bd H;obtain⟨aEv,A25,H⟩:=H;replace H:=sb H;rcases H with⟨rfl,H⟩|⟨rfl,H⟩
        ·have KH:=eq_true (of_decide_eq_true (by assumption):0≤rH);replace H:=AL H;obtain⟨LZ,ahv,H⟩:=H;obtain⟨aq_,adG⟩:=nm (aJ.take (rH:Int).toNat);rw[←adG.out]at H;replace H:=bd H;obtain⟨aq9,A29,H⟩:=H;replace H:=sp H;rcases H with⟨c30,H⟩|⟨c30,H⟩
         ·have ahq:decide (0≤aq9)=true:=decide_eq_true c30;clear c30;obtain rfl:=s1 H;have z31:=iZ jq.out;have PZ:=zi rH;have P6:=zj rH aJ.length;obtain⟨RG,afz,Cm,CB⟩:=r_ kK.out rH PZ P6;cases afz;replace Cm:=cl HB.out Cm;replace CB:=cl HB.out CB;replace PZ:=eq_true PZ;replace P6:=eq_true P6;try go_wp2_with (refine gG 5 ?_;refine bY HB 5 #[.string (⟨#[]⟩:ByteArray), .string (⟨#[]⟩:ByteArray)] 43 ?_;intro Jv w32 pG XK hg hb;have wK:=yQ jq hg;have Dw:=yR jq hg;replace jq:=kb jq hb;replace HB:=bz HB hb;clear hb hg;have aDO:=Dw.out;have aDP:=wK.out;have z34:=BM pG.out)
          refine ab2 HB pG XK ?_;intro w35 Gh hk HB;replace jq:=kf jq hk wK;clear hk pG;have pG:=Gh;clear Gh;refine rO [2,7,17] [0,1,2,3,4,5,6,7,8,9,10,11,13,15,12,14,16,17,18,19] (fun w'=>w'.cell? ⟨Jv,0,none⟩=some (.string ((eY aJ rH).f0))∧w'.cell? ⟨Jv,1,none⟩=some (.string ((eY aJ rH).f1))∧w'.cell? ⟨VB,0,none⟩=some (.string fF)∧w'.cell? ⟨VB,1,none⟩=some (.string fK)∧w'.cell? ⟨VB,2,none⟩=some (.slice (some RG) aJ.length fU)) ?_;intro w36 hb;replace jq:=kb jq hb;replace pG:=kb pG hb;replace HB:=bs HB hb;refine⟨sx,?_⟩;repeat refine Dc ?_
          refine rB func125 (mG.calls A23.out) ?_;intro w37 hb;replace jq:=kb jq hb;replace pG:=kb pG hb;replace HB:=bz HB hb;clear hb;refine⟨sx,?_⟩;repeat refine Dc ?_
          refine rA func126 (vM.calls A25.out) ?_;intro nd;have q38:(rH:Int)≤((aJ.length:Int):Int):=of_decide_eq_true (by assumption);obtain⟨aVk,aue,_,aEz,_⟩:=info_parts Dn;have ahQ:aJ.length≤fU:=oh.out;have aEA:Kd.C o9 _ (some RG) aJ.length aJ:=kK.out;have axL:=abl (P:=Tryz.prog) 23 43 .i64 underlying23 aue (some RG) aJ.length fU rH (of_decide_eq_true (by assumption)) q38 ahQ;have axM:=abm (m:=(rH:Int).toNat) aEA (by omega);have hy38:aq_.length=(rH:Int).toNat:=(by rw[adG.out,List.length_take];omega)
          rw[←adG.out]at axM;rw[←hy38]at axL;have amA:=ak axM;have amB:=ak (show aq_.length≤fU from by omega);clear axM aEA ahQ aue aEz;have aVl:=ak hy38;clear hy38;replace q38:=eq_true q38;refine⟨sx,?_⟩;repeat refine Dc ?_
          refine rB func91 (lC.calls (cu (aI amA.out bb)) amB.out A29.out) ?_;intro w39 hb;replace jq:=kb jq hb;replace pG:=kb pG hb;replace HB:=bz HB hb;clear hb;refine⟨sx,?_⟩;repeat refine Dc ?_
          refine on ?_;try go_wp2
          go_ret;exact⟨er,bb⟩
         ·have ahq:decide (0≤aq9)=false:=decide_eq_false c30;clear c30;replace H:=bd H;obtain⟨aEw,A40,H⟩:=H;have H':=ak H;clear H;have awr:=iZ jq.out;have PZ:=zi rH;have P6:=zj rH aJ.length;obtain⟨RG,afz,Cm,CB⟩:=r_ kK.out rH PZ P6;cases afz;replace Cm:=cl HB.out Cm;replace CB:=cl HB.out CB;replace PZ:=eq_true PZ;replace P6:=eq_true P6;try go_wp2_with (refine gG 5 ?_;refine bY HB 5 #[.string (⟨#[]⟩:ByteArray), .string (⟨#[]⟩:ByteArray)] 43 ?_;intro Jv w42 pG XK hg hb;have wK:=yQ jq hg;have Dw:=yR jq hg;replace jq:=kb jq hb;replace HB:=bz HB hb;clear hb hg;have aEB:=Dw.out;have aEC:=wK.out;have aLK:=BM pG.out)
          refine ab2 HB pG XK ?_;intro w45 Gh hk HB;replace jq:=kf jq hk wK;clear hk pG;have pG:=Gh;clear Gh;refine rO [2,7,17] [0,1,2,3,4,5,6,7,8,9,10,11,13,15,12,14,16,17,18,19] (fun w'=>w'.cell? ⟨Jv,0,none⟩=some (.string ((eY aJ rH).f0))∧w'.cell? ⟨Jv,1,none⟩=some (.string ((eY aJ rH).f1))∧w'.cell? ⟨VB,0,none⟩=some (.string fF)∧w'.cell? ⟨VB,1,none⟩=some (.string fK)∧w'.cell? ⟨VB,2,none⟩=some (.slice (some RG) aJ.length fU)) ?_;intro w46 hb;replace jq:=kb jq hb;replace pG:=kb pG hb;replace HB:=bs HB hb;refine⟨sx,?_⟩;repeat refine Dc ?_
          refine rB func125 (mG.calls A23.out) ?_;intro w47 hb;replace jq:=kb jq hb;replace pG:=kb pG hb;replace HB:=bz HB hb;clear hb;refine⟨sx,?_⟩;repeat refine Dc ?_
          refine rA func126 (vM.calls A25.out) ?_;intro nd;have q48:(rH:Int)≤((aJ.length:Int):Int):=of_decide_eq_true (by assumption);obtain⟨aVm,auf,_,aED,_⟩:=info_parts Dn;have ahR:aJ.length≤fU:=oh.out;have aEE:Kd.C o9 _ (some RG) aJ.length aJ:=kK.out;have axN:=abl (P:=Tryz.prog) 23 43 .i64 underlying23 auf (some RG) aJ.length fU rH (of_decide_eq_true (by assumption)) q48 ahR;have axO:=abm (m:=(rH:Int).toNat) aEE (by omega);have axP:aq_.length=(rH:Int).toNat:=(by rw[adG.out,List.length_take];omega)
          rw[←adG.out]at axO;rw[←axP]at axN;have amA:=ak axO;have amB:=ak (show aq_.length≤fU from by omega);clear axO aEE ahR auf aED;have aVn:=ak axP;clear axP;replace q48:=eq_true q48;refine⟨sx,?_⟩;repeat refine Dc ?_
          refine rB func91 (lC.calls (cu (aI amA.out bb)) amB.out A29.out) ?_;intro w49 hb;replace jq:=kb jq hb;replace pG:=kb pG hb;replace HB:=bz HB hb;clear hb;refine⟨sx,?_⟩;repeat refine Dc ?_
          refine on ?_;try go_wp2
          refine rO [8] [0,1,2,6,3,4,5,7,8,9,10,11] (fun w'=>w'.cell? ⟨Jv,0,none⟩=some (.string ((eY aJ rH).f0))∧w'.cell? ⟨Jv,1,none⟩=some (.string ((eY aJ rH).f1))) ?_;intro w50 hb;replace jq:=kb jq hb;replace pG:=kb pG hb;replace HB:=bs HB hb;refine⟨sx,?_⟩;repeat refine Dc ?_
          refine rB func127 (uP.calls A40.out) ?_;intro w51 hb;replace jq:=kb jq hb;replace pG:=kb pG hb;replace HB:=bz HB hb;clear hb;refine⟨sx,?_⟩;repeat refine Dc ?_
          refine on ?_;try go_wp2
          go_roundg k2
          case measure=>exact kl
          case rel=>exact⟨_,_,rs,rs,H',⟨kl⟩,⟨ub jq.out⟩,⟨bb⟩⟩
        ·obtain rfl:=s1 H;have z52:=iZ jq.out;have PZ:=zi rH;have P6:=zj rH aJ.length;obtain⟨RG,afz,Cm,CB⟩:=r_ kK.out rH PZ P6;cases afz;replace Cm:=cl HB.out Cm;replace CB:=cl HB.out CB;replace PZ:=eq_true PZ;replace P6:=eq_true P6;try go_wp2_with (refine gG 5 ?_;refine bY HB 5 #[.string (⟨#[]⟩:ByteArray), .string (⟨#[]⟩:ByteArray)] 43 ?_;intro Jv w53 pG XK hg hb;have wK:=yQ jq hg;have Dw:=yR jq hg;replace jq:=kb jq hb;replace HB:=bz HB hb;clear hb hg;have aPV:=Dw.out;have aPW:=wK.out;have z55:=BM pG.out)
         refine ab2 HB pG XK ?_;intro w56 Gh hk HB;replace jq:=kf jq hk wK;clear hk pG;have pG:=Gh;clear Gh;refine rO [2,7] [0,1,2,3,4,5,6,7,8,9,10,11,12,13,14,15,16,17,18,19] (fun w'=>w'.cell? ⟨Jv,0,none⟩=some (.string ((eY aJ rH).f0))∧w'.cell? ⟨Jv,1,none⟩=some (.string ((eY aJ rH).f1))) ?_;intro w57 hb;replace jq:=kb jq hb;replace pG:=kb pG hb;replace HB:=bs HB hb;refine⟨sx,?_⟩;repeat(first|refine Dc ?_|refine lg_ ?_)
         refine rB func125 (mG.calls A23.out) ?_;intro w58 hb;replace jq:=kb jq hb;replace pG:=kb pG hb;replace HB:=bz HB hb;clear hb;refine⟨sx,?_⟩;repeat(first|refine Dc ?_|refine lg_ ?_)
         refine rA func126 (vM.calls A25.out) ?_;intro nd;refine⟨sx,?_⟩;repeat(first|refine Dc ?_|refine lg_ ?_)
         refine on ?_;try go_wp2
         go_ret;exact⟨er,bb⟩
       ·obtain rfl:=s1 H;have z59:=iZ jq.out;have PZ:=zi rH;have P6:=zj rH aJ.length;obtain⟨RG,afz,Cm,CB⟩:=r_ kK.out rH PZ P6;cases afz;replace Cm:=cl HB.out Cm;replace CB:=cl HB.out CB;replace PZ:=eq_true PZ;replace P6:=eq_true P6;try go_wp2_with (refine gG 5 ?_;refine bY HB 5 #[.string (⟨#[]⟩:ByteArray), .string (⟨#[]⟩:ByteArray)] 43 ?_;intro Jv ZB pG XK hg hb;have wK:=yQ jq hg;have Dw:=yR jq hg;replace jq:=kb jq hb;replace HB:=bz HB hb;clear hb hg;have aPX:=Dw.out;have aPY:=wK.out;have z62:=BM pG.out)
        refine ab2 HB pG XK ?_;intro w63 Gh hk HB;replace jq:=kf jq hk wK;clear hk pG;have pG:=Gh;clear Gh;refine rO [2] [0,1,2,3,4,5,6,7,8,9,10,11,12,13,14,15,16,17,18,19] (fun w'=>w'.cell? ⟨Jv,0,none⟩=some (.string ((eY aJ rH).f0))∧w'.cell? ⟨Jv,1,none⟩=some (.string ((eY aJ rH).f1))) ?_;intro w64 hb;replace jq:=kb jq hb;replace pG:=kb pG hb;replace HB:=bs HB hb;refine⟨sx,?_⟩;repeat(first|refine Dc ?_|refine lg_ ?_)
        refine rB func125 (mG.calls A23.out) ?_;intro w65 hb;replace jq:=kb jq hb;replace pG:=kb pG hb;replace HB:=bz HB hb;clear hb;refine⟨sx,?_⟩;repeat(first|refine Dc ?_|refine lg_ ?_)
        refine on ?_;try go_wp2
        go_ret;exact⟨er,bb⟩
      ·obtain rfl:=s1 H;have z66:=iZ jq.out;go_wp2;go_ret;exact⟨er,bb⟩
mutual
def bD.l0:Nat→ByteArray→Bool→Bool→ByteArray→ByteArray→List (eG)→Option (ByteArray×ByteArray×(List (eG))×Bool)
 |0,_,_,_,_,_,_=>none
 |k+1,x5,x6,x9,JX,JY,Ih=>if x6=true then((kF.f k x5 59).bind fun XL=>((bG.f k XL.1).bind fun aEF=>((kF.f k aEF 61).bind fun adH=>((bG.f k adH.2.1).bind fun aEG=>((f_.f k aEG).bind fun adI=>(if adH.2.2=true then(if adI.2=true then(bD.j1 k XL.2.1 XL.2.2 x9 adH.1 adI.1 ((adI.1.length:Int) !=1) JX JY Ih)else(bD.j1 k XL.2.1 XL.2.2 x9 adH.1 adI.1 true JX JY Ih))else(bD.j1 k XL.2.1 XL.2.2 x9 adH.1 adI.1 true JX JY Ih)))))))else(if x9=true then((dN.f k JX JY Ih).bind fun aEH=>(if aEH=true then(some (JX,JY,Ih,true))else(some ((⟨#[]⟩:ByteArray),(⟨#[]⟩:ByteArray),([]:List (eG)),false))))else(some ((⟨#[]⟩:ByteArray),(⟨#[]⟩:ByteArray),([]:List (eG)),false)))
def bD.j1:Nat→ByteArray→Bool→Bool→ByteArray→List ByteArray→Bool→ByteArray→ByteArray→List (eG)→Option (ByteArray×ByteArray×(List (eG))×Bool)
 |0,_,_,_,_,_,_,_,_,_=>none
 |k+1,x5,x6,x9,x12,x15,x69,JX,JY,Ih=>if x69=true then(some ((⟨#[]⟩:ByteArray),(⟨#[]⟩:ByteArray),([]:List (eG)),false))else((bG.f k x12).bind fun axQ=>((jg.f axQ).bind fun ajA=>(if 0<(x15.length:Int)then(if Ih.length<4398046511104 then(bD.l0 k x5 x6 x9 JX JY (Ih++[(⟨ajA,iw ByteArray.empty x15 0⟩:eG)]))else(none))else(none))))
end
def bD.f(k:Nat)(a0:ByteArray):Option (ByteArray×ByteArray×(List (eG))×Bool):=(aW.f k a0).bind fun aEI=>(if aEI=true then((kF.f k a0 59).bind fun amC=>((bG.f k amC.1).bind fun aEJ=>((kF.f k aEJ 47).bind fun amD=>((jg.f amD.1).bind fun abE=>((jg.f amD.2.1).bind fun abG=>(bD.l0 k amC.2.1 amC.2.2 amD.2.2 abE abG ([]:List (eG))))))))else(some ((⟨#[]⟩:ByteArray),(⟨#[]⟩:ByteArray),([]:List (eG)),false)))
def bD.T13:Bool×List (List Nat×List Nat):=(true,[([],[]),([0],[0]),([],[]),([2],[2]),([3,3],[3]),([],[]),([5],[5]),([6],[6]),([4,7],[4,7]),([8],[8]),([1,9,4],[1,9]),([0,1,2,3,4,5,6,7,8,9,10],[]),([11,10,10,0,1,2,3,4,5,6,7,8,9,10],[10,11])])
def bD.B13:List Nat:=[0,1,0,4,12,0,32,96,252,508,1023,2047,4095]
theorem bD.alz:zM .any (opsOf Tryz.f62 13)=bD.T13:=by kernel_rfl
theorem bD.afd:wF bD.T13.2 bD.B13=true:=by kernel_rfl
theorem bD.calls{k:Nat}{a0 r1 r2:ByteArray}{r3:List (eG)}{r4:Bool}{w:World}(h:bD.f k a0=some (r1,r2,r3,r4)):
  Calls Tryz.prog 62 #[.string a0] w fun e w'=>∃EN:Value,e= .returned (.tuple #[.agg #[.string r1, .string r2,EN], .bool r4])∧Kd.R o9 43 w' w.heap.size (fun _=>True) EN r3∧Below w.heap.size w w':=by
 have adh:=underlying76;have F7:=underlying43;have HB:=ak (Below.refl w.heap.size w);unfold bD.f at h;have H:=h;clear h;replace H:=bd H;obtain⟨aEI,A2,H⟩:=H;replace H:=sb H;rcases H with⟨rfl,H⟩|⟨rfl,H⟩
 ·replace H:=bd H;obtain⟨⟨aVo,aVp,aVq⟩,A4,H⟩:=H
  (try dsimp only at H);replace H:=bd H;obtain⟨aEJ,A5,H⟩:=H;replace H:=bd H;obtain⟨⟨aVr,aVs,aEK⟩,A6,H⟩:=H
  (try dsimp only at H);replace H:=bd H;obtain⟨abE,A7,H⟩:=H;replace H:=bd H;obtain⟨abG,A8,H⟩:=H;have H':=ak H;clear H;go_enter func62,ntmps62;go_wp2_with (first|(refine gG 2 ?_;refine bX HB 2 #[.string (⟨#[]⟩:ByteArray), .string (⟨#[]⟩:ByteArray), .slice none 0 0] 76 ?_;intro RH w9 oU aEL hb;replace HB:=bs HB hb;clear hb)|(refine gD func89 (aW.calls A2.out) ?_;intro w9 hb;replace oU:=kb oU hb;replace HB:=bz HB hb;clear hb)|(refine gD func92 (kF.calls A4.out) ?_;intro w9 hb;replace oU:=kb oU hb;replace HB:=bz HB hb;clear hb)|(refine gD func93 (bG.calls A5.out) ?_;intro w9 hb;replace oU:=kb oU hb;replace HB:=bz HB hb;clear hb)|(refine gD func92 (kF.calls A6.out) ?_;intro w9 hb;replace oU:=kb oU hb;replace HB:=bz HB hb;clear hb)|(refine gB func94 (jg.calls A7.out) ?_;intro w10 hb;replace oU:=kb oU hb;replace HB:=bz HB hb;clear hb)|(refine gB func94 (jg.calls A8.out) ?_;intro ZH hb;replace oU:=kb oU hb;replace HB:=bz HB hb;clear hb)|(refine gG 10 ?_;refine bY HB 10 #[.string (⟨#[]⟩:ByteArray), .string (⟨#[]⟩:ByteArray), .slice none 0 0] 76 ?_;intro XM w12 ru aPZ hg hb;have FT:=yQ oU hg;have FU:=yR oU hg;replace oU:=kb oU hb;replace HB:=bz HB hb;clear hb hg;have asM:=FU.out;have asN:=FT.out;have z14:=iZ ru.out))
  go_loopg [5,6] k (fun kq v5 v6 w'=>∃(dX:ByteArray) (gU:Bool) (Oq:ByteArray) (Ot:ByteArray) (Bv:List (eG)) (Fz:Value),v5= .string dX∧v6= .bool gU∧ah (bD.l0 kq dX gU aEK abE abG Bv=some (r1,r2,r3,r4))∧ah (kq≤k)∧ah (Kd.R o9 43 w' w.heap.size (fun _=>True) Fz Bv)∧ah (w'.heap[RH]? =some (.cells #[.string Oq, .string Ot,(.slice none 0 0)] 76 (0,0)))∧ah (w'.heap[XM]? =some (.cells #[.string abE, .string abG,Fz] 76 (0,0)))∧ah (Below w.heap.size w w'))
  case atStart=>exact⟨_,_,_,_,_,_,rs,rs,H',⟨Nat.le_refl _⟩,⟨nx⟩,⟨bq⟩,⟨bq⟩,⟨bb⟩⟩
  case round=>
   clear H';obtain⟨dX,gU,Oq,Ot,Bv,Fz,rfl,rfl,HA,y5,kQ,oU,ru,HB⟩:=hrel
   cases gk with
   |zero=>exact zz HA.out
   |succ k1=>
    obtain⟨H⟩:=HA;simp only[bD.l0]at H;replace H:=sb H;rcases H with⟨rfl,H⟩|⟨rfl,H⟩
    ·replace H:=bd H;obtain⟨⟨aVt,aLL,aLM⟩,A16,H⟩:=H
     (try dsimp only at H);replace H:=bd H;obtain⟨aEF,A17,H⟩:=H;replace H:=bd H;obtain⟨⟨aEM,aVu,aVv⟩,A18,H⟩:=H
     (try dsimp only at H);replace H:=bd H;obtain⟨aEG,A19,H⟩:=H;replace H:=bd H;obtain⟨⟨ZN,aVw⟩,A20,H⟩:=H
     (try dsimp only at H);have axR:=ak H;clear H;go_upto_region 11 with(first|(refine gA func92 (kF.calls A16.out) ?_;intro nd)|(refine gA func93 (bG.calls A17.out) ?_;intro nd)|(refine gA func92 (kF.calls A18.out) ?_;intro nd)|(refine gA func93 (bG.calls A19.out) ?_;intro nd)|(refine gV func95 (f_.calls A20.out) ?_;rintro aLN w22 ⟨ho0,hb⟩;have ahS:=ak (au ho0 (aj bb));replace kQ:=rb kQ hb;replace oU:=kb oU hb;replace ru:=kb ru hb;replace HB:=bz HB hb;clear hb;(try clear ho0)))
     (try simp only[Act.put,yX,yY,l_c]);go_cut [69] (fun v69 wc=>∃(kq:Nat) (afA:Bool),v69= .bool afA∧ah (bD.j1 kq aLL aLM aEK aEM ZN afA abE abG Bv=some (r1,r2,r3,r4))∧ah (kq≤k1)∧ah (Kd.R Kd.string 9 wc w.heap.size (fun _=>True) aLN ZN)∧ah (Kd.R o9 43 wc w.heap.size (fun _=>True) Fz Bv)∧ah (wc.heap[RH]? =some (.cells #[.string Oq, .string Ot,(.slice none 0 0)] 76 (0,0)))∧ah (wc.heap[XM]? =some (.cells #[.string abE, .string abG,Fz] 76 (0,0)))∧ah (Below w.heap.size w wc))
     case first=>
      have H:=axR.out;clear axR;replace H:=sb H;rcases H with⟨rfl,H⟩|⟨rfl,H⟩
      ·replace H:=sb H;rcases H with⟨rfl,H⟩|⟨rfl,H⟩
       ·have H':=ak H;clear H;obtain⟨IX,Ht,amE⟩:=aC ahS.out;subst amE;go_wp2;go_meet
        case rel=>exact⟨_,_,rs,H',⟨kl⟩,⟨ur ahS.out⟩,⟨ur kQ.out⟩,⟨ub oU.out⟩,⟨ub ru.out⟩,⟨bb⟩⟩
       ·have H':=ak H;clear H;go_wp2;go_meet
        case rel=>exact⟨_,_,rs,H',⟨kl⟩,⟨ur ahS.out⟩,⟨ur kQ.out⟩,⟨ub oU.out⟩,⟨ub ru.out⟩,⟨bb⟩⟩
      ·have H':=ak H;clear H;go_wp2;go_meet
       case rel=>exact⟨_,_,rs,H',⟨kl⟩,⟨ur ahS.out⟩,⟨ur kQ.out⟩,⟨ub oU.out⟩,⟨ub ru.out⟩,⟨bb⟩⟩
     case rest=>
      clear axR;obtain⟨kq,afA,rfl,HA,aEN,Ph,kQ,oU,ru,HB⟩:=hcut
      cases kq with
      |zero=>exact zz HA.out
      |succ aLO=>
       obtain⟨H⟩:=HA;simp only[bD.j1]at H;replace H:=sb H;rcases H with⟨rfl,H⟩|⟨rfl,H⟩
       ·obtain⟨rfl,rfl,rfl,rfl⟩:=s4 H;have akI:=FT.out;have akJ:=FU.out;have akK:=iZ oU.out;go_wp2;refine bodyPost_ret (fV rfl _ _ RH 76 #[.string (⟨#[]⟩:ByteArray), .string (⟨#[]⟩:ByteArray), .slice none 0 0] (0,0) _ rfl bq underlying76 rfl (by kernel_rfl)) rfl ?_;exact⟨_,er,nx,bb⟩
       ·replace H:=bd H;obtain⟨axQ,A29,H⟩:=H;replace H:=bd H;obtain⟨ajA,A30,H⟩:=H;replace H:=nn H;obtain⟨c31,H⟩:=H;have ahT:=decide_eq_true c31;have amF:decide (0<ZN.length)=true:=decide_eq_true (by omega);clear c31;replace H:=nl H;obtain⟨aEO,H⟩:=H;obtain⟨aVx,aug⟩:=nm (Bv++[(⟨ajA,iw ByteArray.empty ZN 0⟩:eG)]);rw[←aug.out]at H;have H':=ak H;clear H;try go_wp2
        replace Ph:=ak (nI Ph.out);replace kQ:=ak (nI kQ.out);replace oU:=ak (jI oU.out);replace ru:=ak (jI ru.out);replace HB:=ak (iE HB.out);obtain⟨aqn,aqo,abb⟩:=aC Ph.out
        (first|subst abb|(injection abb with tY Ad tZ;have Ae:=tY.symm;have Af:=tZ.symm;clear tY Ad tZ;subst Ae;subst Af));have axS:0≤(0:Int):=(by omega)
        have axT:0<(ZN.length:Int):=of_decide_eq_true (by assumption);obtain⟨aEP,aLP,WV⟩:=bZ (aA Ph.out).2.2 0 axS axT;cases aLP;have aP0:(0<ZN.length)=True:=eq_true (by omega)
        (try rw[show((0:Int)).toNat=0 from rfl]at WV)
        (try rw[Addr.add_zero']at WV);replace axS:=eq_true axS;replace axT:=eq_true axT;refine Eu (n:=13) (S:=fun w'=>w'.cell? ⟨XM,0,none⟩=some (.string abE)∧w'.cell? ⟨XM,1,none⟩=some (.string abG)∧w'.cell? ⟨XM,2,none⟩=some (Fz)∧w'.cell? aEP=some (.string (iw ByteArray.empty ZN 0))) (ds:=[10,12]) #[false,false,false,false,false,false,false,false,false,false,false,false,false] (by kernel_rfl) rfl rfl ⟨(aH ru.out 0).trans rfl,(aH ru.out 1).trans rfl,(aH ru.out 2).trans rfl,WV⟩ (fun hHeld=>?_);refine wG bD.alz bD.afd (fun Jk HW_=>?_)
        generalize wc.drew=w33 at Ph kQ oU ru HB WV hHeld⊢
        refine pl 0 ?_;refine pl 2 ?_;refine pl 5 ?_;refine pl 6 ?_;refine tk 1 ?_;refine tk 7 ?_;refine o1 3 (fun K hK=>?_);refine Bh func93 (by kernel_rfl) rfl #[.string aEM] (by rfl) rfl rfl ma ?_
        with_reducible refine(bG.calls A29.out).mono ?_
        rintro e w' ⟨rfl,⟨nd,rfl⟩⟩;refine⟨_,rfl,?_⟩;refine hK.out _ _ ⟨(aH ru.out 0).trans rfl,(aH ru.out 1).trans rfl,(aH ru.out 2).trans rfl,hHeld.2.2.2⟩ (fun hHeld=>?_);clear hK K;refine nrm ?_;refine o1 4 (fun K hK=>?_);refine Bh func94 (by kernel_rfl) rfl #[.string axQ] (by rfl) rfl rfl ma ?_
        with_reducible refine(jg.calls A30.out).mono ?_
        rintro e w35 ⟨rfl,hb⟩;have aw_:=(hb.cell (World.block_lt_of_cell? _ _ (hHeld.2.2.2))).trans (hHeld.2.2.2);refine⟨_,rfl,?_⟩;replace Ph:=rb Ph hb;replace kQ:=rb kQ hb;replace oU:=kb oU hb;replace ru:=kb ru hb;replace HB:=bz HB hb;try clear hb
        refine hK.out _ _ ⟨(aH ru.out 0).trans rfl,(aH ru.out 1).trans rfl,(aH ru.out 2).trans rfl,aw_⟩ (fun hHeld=>?_);clear hK K;refine nrm ?_;refine pl 8 ?_;refine o1 9 (fun K hK=>?_);refine IV (w1:=?_) (v:=?_) (by rfl) rfl ?_ ?_
        rotate_left 2
        ·go_simp;constructor
         ·rfl
         ·rfl
        refine hK.out _ _ ⟨(aH (jP ru.out _) 0).trans rfl,(aH (jP ru.out _) 1).trans rfl,(aH (jP ru.out _) 2).trans rfl,(World.cell?_alloc_lt _ _ _ (World.block_lt_of_cell? _ _ (hHeld.2.2.2))).trans (hHeld.2.2.2)⟩ (fun hHeld=>?_);clear hK K;refine nrm ?_;refine O6 (i:=10) (N:=some 81) #[true,true,true,true,true,true,true,true,true,true,true,false,false] rfl rfl (F6 Jk.out (by kernel_rfl)) (by decide) (fun K hK=>?_);refine qH o9 (w0:=w) w.heap.size (by rfl) (.tmp 72) (.tmp 80) 23 43 (.agg #[(.string ⟨#[]⟩),(.string ⟨#[]⟩)]) 32 rfl underlying23 Dn rfl (by decide) (by omega) Fz Bv (⟨ajA,iw ByteArray.empty ZN 0⟩:eG) [.string ajA, .string (iw ByteArray.empty ZN 0)] (fun _=>True) (fun _=>False) rfl rfl ?aP (fun _ hk=>hk.elim) ?aF ?aO ?aB ?aS ?aL ?_
        (case aP=>exact wE _ _ _ (⟨ajA,iw ByteArray.empty ZN 0⟩:eG))
        (case aB=>exact bb)
        (case aF=>exact(fun _ _=>trivial))
        (case aO=>exact(ur kQ.out))
        (case aS=>exact(aj bb))
        (case aL=>have:=aEO.out;omega);intro aVy w36 ho hb hg hat
        rw[←aug.out]at ho;have Am:=ak (oO (ur Ph.out) (jA (ur kQ.out)) (by decide) hg);have Ap:=ak (bJ (g:=RH) (o:= .cells #[.string Oq, .string Ot, .slice none 0 0] 76 (0,0)) (ub oU.out) hg (rM kQ.out oU.out (by decide)));have BX:=ak (bJ (g:=XM) (o:= .cells #[.string abE, .string abG,Fz] 76 (0,0)) (ub ru.out) hg (rM kQ.out ru.out (by decide)));have EO:=ak (hb);have Jl:=ak (ho);clear Ph oU ru HB kQ;have Ph:=Am;have oU:=Ap;have ru:=BX;have HB:=EO;have aEQ:=Jl;clear Am Ap BX EO Jl ho hb hg hat
        obtain⟨al1,al2,adv⟩:=aC aEQ.out
        (first|subst adv|(injection adv with tY Ad tZ;have Ae:=tY.symm;have Af:=tZ.symm;clear tY Ad tZ;subst Ae;subst Af));refine hK.out _ _ ?_;clear hK K;refine FX (a':=?_) ?_ ?_
        rotate_left
        ·show Act.put _ (some 81) _=_
         simp only[Act.put,yX,yY,l_c,ig,jO];rfl
        refine pl 11 ?_;refine O6 (i:=12) (N:=none) #[true,true,true,true,true,true,true,true,true,true,true,true,true] rfl rfl (F6 Jk.out (by kernel_rfl)) (by decide) (fun K hK=>?_);have aVz:w36.cell? ⟨XM,2,none⟩=some (Fz):=(aH ru.out 2).trans rfl;have aP1:=eu ru.out 2;have aJj:=FT.out;have aJk:=FU.out;refine F5 (w1:=?_) (by rfl) rfl ?_ ?_
        rotate_left
        ·go_simp;rfl
        refine hK.out _ _ ?_;clear hK K;refine KG (BZ Jk.out (by kernel_rfl)) ?_;try go_wp2
        go_roundg aLO
        case measure=>have:=y5.out;have:=aEN.out;omega
        case rel=>exact⟨_,_,_,_,_,_,rs,rs,H',⟨by have:=y5.out;have:=aEN.out;omega⟩,⟨rr⟩,⟨bq⟩,⟨bq⟩,⟨bb⟩⟩
    ·replace H:=sb H;rcases H with⟨rfl,H⟩|⟨rfl,H⟩
     ·replace H:=bd H;obtain⟨aEH,A40,H⟩:=H;replace H:=sb H;rcases H with⟨rfl,H⟩|⟨rfl,H⟩
      ·obtain⟨rfl,rfl,rfl,rfl⟩:=s4 H;have aP2:=FU.out;have aP3:=FT.out;have z43:=iZ ru.out;obtain⟨amv,amw,ajx⟩:=aC kQ.out;subst ajx;go_wp2_with (go_at_call 96;refine mB (dN.calls (cu ((aA kQ.out).2.2)) ((aA kQ.out).2.1) A40.out) ?_;intro w45 hb;replace kQ:=rb kQ hb;replace oU:=kb oU hb;replace ru:=kb ru hb;replace HB:=bz HB hb;clear hb;have z46:=iZ ru.out;have z47:=iZ oU.out)
       refine bodyPost_ret (fV rfl _ _ RH 76 #[.string abE, .string abG, .slice amv Bv.length amw] (0,0) _ rfl bq underlying76 rfl (by kernel_rfl)) rfl ?_;exact⟨_,er,rr,bb⟩
      ·obtain⟨rfl,rfl,rfl,rfl⟩:=s4 H;have atj:=FU.out;have atl:=FT.out;have z49:=iZ ru.out;obtain⟨zQ,zS,amG⟩:=aC kQ.out;subst amG;go_wp2_with (go_at_call 96;refine mB (dN.calls (cu ((aA kQ.out).2.2)) ((aA kQ.out).2.1) A40.out) ?_;intro w51 hb;replace kQ:=rb kQ hb;replace oU:=kb oU hb;replace ru:=kb ru hb;replace HB:=bz HB hb;clear hb;have z52:=iZ oU.out)
       refine bodyPost_ret (fV rfl _ _ RH 76 #[.string (⟨#[]⟩:ByteArray), .string (⟨#[]⟩:ByteArray), .slice none 0 0] (0,0) _ rfl bq underlying76 rfl (by kernel_rfl)) rfl ?_;exact⟨_,er,nx,bb⟩
     ·obtain⟨rfl,rfl,rfl,rfl⟩:=s4 H;have aCR:=FT.out;have aCS:=FU.out;have z54:=iZ oU.out;go_wp2;refine bodyPost_ret (fV rfl _ _ RH 76 #[.string (⟨#[]⟩:ByteArray), .string (⟨#[]⟩:ByteArray), .slice none 0 0] (0,0) _ rfl bq underlying76 rfl (by kernel_rfl)) rfl ?_;exact⟨_,er,nx,bb⟩
 ·obtain⟨rfl,rfl,rfl,rfl⟩:=s4 H;go_enter func62,ntmps62;go_wp2_with (first|(refine gG 2 ?_;refine bX HB 2 #[.string (⟨#[]⟩:ByteArray), .string (⟨#[]⟩:ByteArray), .slice none 0 0] 76 ?_;intro RH w55 oU aEL hb;replace HB:=bs HB hb;clear hb)|(refine gD func89 (aW.calls A2.out) ?_;intro w55 hb;replace oU:=kb oU hb;replace HB:=bz HB hb;clear hb;have z56:=iZ oU.out))
  refine bodyPost_ret (fV rfl _ _ RH 76 #[.string (⟨#[]⟩:ByteArray), .string (⟨#[]⟩:ByteArray), .slice none 0 0] (0,0) _ rfl bq underlying76 rfl (by kernel_rfl)) rfl ?_;exact⟨_,er,nx,bb⟩
mutual
def bW.l0:Nat→ByteArray→Int→Option (Bool)
 |0,_,_=>none
 |k+1,x0,x3=>if x3<(x0.size:Int)then(bW.j1 k x0 x3 (decide (x3≤20)))else(bW.j1 k x0 x3 false)
def bW.j1:Nat→ByteArray→Int→Bool→Option (Bool)
 |0,_,_,_=>none
 |k+1,x0,x3,x11=>if x11=true then(if 0≤x3 then(if x3<(x0.size:Int)then((iI.f (bt x0 x3)).bind fun aER=>(if aER=true then(bW.l0 k x0 (wrap64 (x3+1)))else(some false)))else(none))else(none))else(if(x0.size:Int)≥1 then(some (decide ((x0.size:Int)≤20)))else(some false))
end
def bW.f(k:Nat)(a0:ByteArray):Option (Bool):=bW.l0 k a0 0
theorem bW.calls{k:Nat}{a0:ByteArray}{r:Bool}{w:World}(h:bW.f k a0=some r):
  Calls Tryz.prog 64 #[.string a0] w fun e w'=>e= .returned (.bool r)∧dS w w':=by
 unfold bW.f at h;have H:=h;clear h;have H':=ak H;clear H;go_enter func64,ntmps64;go_wp2;go_loopg [3] k (fun kq v3 w'=>∃(fA:Int),v3= .int .i64 fA∧ah (bW.l0 kq a0 fA=some r)∧ah (kq≤k)∧dS w w')
 case atStart=>exact⟨_,rs,H',⟨Nat.le_refl _⟩,dn⟩
 case round=>
  clear H';obtain⟨fA,rfl,HA,y5,⟨m1,rfl⟩⟩:=hrel
  cases gk with
  |zero=>exact zz HA.out
  |succ k1=>
   obtain⟨H⟩:=HA;simp only[bW.l0]at H;have HC2:=ak H;clear H;go_upto_region 2 with(fail)
   go_cut [11] (fun v11 wc=>∃(kq:Nat) (y7:Bool),v11= .bool y7∧ah (bW.j1 kq a0 fA y7=some r)∧ah (kq≤k1)∧dS w wc)
   case first=>
    have H:=HC2.out;clear HC2;replace H:=sd H;rcases H with⟨iY,H⟩|⟨iY,H⟩
    ·(first|rw[iY]|(simp only[ig,jO];rw[iY])|skip);have H':=ak H;clear H;go_wp2;go_meet
     case rel=>exact⟨_,_,rs,H',⟨kl⟩,dn⟩
    ·(first|rw[iY]|(simp only[ig,jO];rw[iY])|skip);have H':=ak H;clear H;go_wp2;go_meet
     case rel=>exact⟨_,_,rs,H',⟨kl⟩,dn⟩
   case rest=>
    clear HC2;obtain⟨kq,y7,rfl,HA,HJ1,⟨mc1,rfl⟩⟩:=hcut
    cases kq with
    |zero=>exact zz HA.out
    |succ VU=>
     obtain⟨H⟩:=HA;simp only[bW.j1]at H;replace H:=sb H;rcases H with⟨rfl,H⟩|⟨rfl,H⟩
     ·replace H:=nO H;obtain⟨mV,H⟩:=H;replace H:=nO H;obtain⟨nD,H⟩:=H;replace H:=bd H;obtain⟨aER,A8,H⟩:=H;replace H:=sb H;rcases H with⟨rfl,H⟩|⟨rfl,H⟩
      ·have H':=ak H;clear H;obtain⟨p7,q7,hx7⟩:=bx a0 fA;go_wp2_with (refine gA func97 (iI.calls A8.out) ?_;intro nd)
       go_roundg VU
       case measure=>exact kl
       case rel=>exact⟨_,rs,H',⟨kl⟩,dn⟩
      ·obtain rfl:=s1 H;obtain⟨p7,q7,hx7⟩:=bx a0 fA;go_wp2_with (refine gA func97 (iI.calls A8.out) ?_;intro nd)
       go_ret;exact⟨rs,dn⟩
     ·replace H:=sp H;rcases H with⟨c10,H⟩|⟨c10,H⟩
      ·have qg:decide (1≤(a0.size:Int))=true:=decide_eq_true c10;have uN:decide (1≤a0.size)=true:=decide_eq_true (by omega);clear c10;obtain rfl:=s1 H;go_wp2;go_ret;exact⟨rs,dn⟩
      ·have qg:decide (1≤(a0.size:Int))=false:=decide_eq_false c10;have uN:decide (1≤a0.size)=false:=decide_eq_false (by omega);clear c10;obtain rfl:=s1 H;go_wp2;go_ret;exact⟨rs,dn⟩
def pY.f(k:Nat)(fF:ByteArray)(fK:ByteArray)(aJ:List (eG)):Option (ByteArray×Bool):=(lJ.f k aJ (⟨#[98,111,117,110,100,97,114,121]⟩:ByteArray)).bind fun amH=>((dN.f k fF fK aJ).bind fun aES=>(if aES=true then(if fF.toList=([109,117,108,116,105,112,97,114,116]:List UInt8)then(if amH.2=true then((bW.f k amH.1).bind fun aET=>(if aET=true then(some (amH.1,true))else(some ((⟨#[]⟩:ByteArray),false))))else(some ((⟨#[]⟩:ByteArray),false)))else(some ((⟨#[]⟩:ByteArray),false)))else(some ((⟨#[]⟩:ByteArray),false))))
theorem pY.calls{k fU:Nat}{fF fK r1:ByteArray}{iR:Option Addr}{aJ:List (eG)}{r2:Bool}{w:World}(kZ:Kd.C o9 w iR aJ.length aJ)(lg:aJ.length≤fU)(h:pY.f k fF fK aJ=some (r1,r2)):
  Calls Tryz.prog 63 #[.agg #[.string fF, .string fK, .slice iR aJ.length fU]] w fun e w'=>e= .returned (.tuple #[.string r1, .bool r2])∧Below w.heap.size w w':=by
 have adh:=underlying76;have kK:=ak kZ;have oh:=ak lg;clear kZ lg;have HB:=ak (Below.refl w.heap.size w);unfold pY.f at h;have H:=h;clear h;replace H:=bd H;obtain⟨⟨aVA,aVB⟩,A2,H⟩:=H
 (try dsimp only at H);replace H:=bd H;obtain⟨aES,A3,H⟩:=H;replace H:=sb H;rcases H with⟨rfl,H⟩|⟨rfl,H⟩
 ·replace H:=sq H;rcases H with⟨mV,PW,H⟩|⟨c5,mV,PW,H⟩
  ·replace H:=sb H;rcases H with⟨rfl,H⟩|⟨rfl,H⟩
   ·replace H:=bd H;obtain⟨aET,A7,H⟩:=H;replace H:=sb H;rcases H with⟨rfl,H⟩|⟨rfl,H⟩
    ·obtain⟨rfl,rfl⟩:=s2 H;go_enter func63,ntmps63;go_wp2_with (first|(refine bX HB 1 #[.string fF, .string fK, .slice iR aJ.length fU] 76 ?_;intro ahU w9 rC ahV hb;replace HB:=bs HB hb;clear hb;have z10:=iZ rC.out)|(refine gB func61 (lJ.calls (cu (aI kK.out HB.out)) oh.out A2.out) ?_;intro ZH hb;replace rC:=kb rC hb;replace HB:=bz HB hb;clear hb;have z12:=iZ rC.out)|(refine gB func96 (dN.calls (cu (aI kK.out HB.out)) oh.out A3.out) ?_;intro w13 hb;replace rC:=kb rC hb;replace HB:=bz HB hb;clear hb;have z14:=iZ rC.out)|(go_at_call 64;refine mA (bW.calls A7.out) ?_;intro nd))
     go_ret2;exact⟨er,bb⟩
    ·obtain⟨rfl,rfl⟩:=s2 H;go_enter func63,ntmps63;go_wp2_with (first|(refine bX HB 1 #[.string fF, .string fK, .slice iR aJ.length fU] 76 ?_;intro ahU w15 rC ahV hb;replace HB:=bs HB hb;clear hb;have z16:=iZ rC.out)|(refine gB func61 (lJ.calls (cu (aI kK.out HB.out)) oh.out A2.out) ?_;intro w17 hb;replace rC:=kb rC hb;replace HB:=bz HB hb;clear hb;have z18:=iZ rC.out)|(refine gB func96 (dN.calls (cu (aI kK.out HB.out)) oh.out A3.out) ?_;intro w19 hb;replace rC:=kb rC hb;replace HB:=bz HB hb;clear hb;have z20:=iZ rC.out)|(go_at_call 64;refine mA (bW.calls A7.out) ?_;intro nd))
     go_ret2;exact⟨er,bb⟩
   ·obtain⟨rfl,rfl⟩:=s2 H;go_enter func63,ntmps63;go_wp2_with (first|(refine bX HB 1 #[.string fF, .string fK, .slice iR aJ.length fU] 76 ?_;intro ahU w21 rC ahV hb;replace HB:=bs HB hb;clear hb;have z22:=iZ rC.out)|(refine gB func61 (lJ.calls (cu (aI kK.out HB.out)) oh.out A2.out) ?_;intro w23 hb;replace rC:=kb rC hb;replace HB:=bz HB hb;clear hb;have z24:=iZ rC.out)|(refine gB func96 (dN.calls (cu (aI kK.out HB.out)) oh.out A3.out) ?_;intro w25 hb;replace rC:=kb rC hb;replace HB:=bz HB hb;clear hb;have z26:=iZ rC.out))
    go_ret2;exact⟨er,bb⟩
  ·obtain⟨rfl,rfl⟩:=s2 H;go_enter func63,ntmps63;go_wp2_with (first|(refine bX HB 1 #[.string fF, .string fK, .slice iR aJ.length fU] 76 ?_;intro ahU w27 rC ahV hb;replace HB:=bs HB hb;clear hb;have akK:=iZ rC.out)|(refine gB func61 (lJ.calls (cu (aI kK.out HB.out)) oh.out A2.out) ?_;intro w29 hb;replace rC:=kb rC hb;replace HB:=bz HB hb;clear hb;have z30:=iZ rC.out)|(refine gB func96 (dN.calls (cu (aI kK.out HB.out)) oh.out A3.out) ?_;intro w31 hb;replace rC:=kb rC hb;replace HB:=bz HB hb;clear hb;have z32:=iZ rC.out))
   go_ret2;exact⟨er,bb⟩
 ·obtain⟨rfl,rfl⟩:=s2 H;go_enter func63,ntmps63;go_wp2_with (first|(refine bX HB 1 #[.string fF, .string fK, .slice iR aJ.length fU] 76 ?_;intro ahU w33 rC ahV hb;replace HB:=bs HB hb;clear hb;have z34:=iZ rC.out)|(refine gB func61 (lJ.calls (cu (aI kK.out HB.out)) oh.out A2.out) ?_;intro w35 hb;replace rC:=kb rC hb;replace HB:=bz HB hb;clear hb;have z36:=iZ rC.out)|(refine gB func96 (dN.calls (cu (aI kK.out HB.out)) oh.out A3.out) ?_;intro w37 hb;replace rC:=kb rC hb;replace HB:=bz HB hb;clear hb))
  go_ret2;exact⟨er,bb⟩
def jX.f(k:Nat)(l0:List (eG)):Option (ByteArray×Bool):=(lJ.f k l0 (⟨#[67,111,110,116,101,110,116,45,84,121,112,101]⟩:ByteArray)).bind fun auh=>((bD.f k auh.1).bind fun ahW=>((pY.f k ahW.1 ahW.2.1 ahW.2.2.1).bind fun ahX=>(if auh.2=true then(if ahW.2.2.2=true then(some (ahX.1,ahX.2))else(some (ahX.1,false)))else(some (ahX.1,false)))))
theorem jX.calls{k c0:Nat}{A0:Option Addr}{l0:List (eG)}{r1:ByteArray}{r2:Bool}{w:World}(hr0:Kd.C o9 w A0 l0.length l0)(hc0:l0.length≤c0)(h:jX.f k l0=some (r1,r2)):
  Calls Tryz.prog 34 #[.slice A0 l0.length c0] w fun e w'=>e= .returned (.tuple #[.string r1, .bool r2])∧Below w.heap.size w w':=by
 have adh:=underlying76;have HR0:=ak hr0;have uV:=ak hc0;clear hr0 hc0;have HB:=ak (Below.refl w.heap.size w);unfold jX.f at h;have H:=h;clear h;replace H:=bd H;obtain⟨⟨aVC,aVD⟩,A2,H⟩:=H
 (try dsimp only at H);replace H:=bd H;obtain⟨⟨axU,axV,ajB,aVE⟩,A3,H⟩:=H
 (try dsimp only at H);replace H:=bd H;obtain⟨⟨aVF,aVG⟩,A4,H⟩:=H
 (try dsimp only at H);replace H:=sb H;rcases H with⟨rfl,H⟩|⟨rfl,H⟩
 ·replace H:=sb H;rcases H with⟨rfl,H⟩|⟨rfl,H⟩
  ·obtain⟨rfl,rfl⟩:=s2 H;go_enter func34,ntmps34;go_wp2_with (first|(refine gB func61 (lJ.calls (cu HR0.out) uV.out A2.out) ?_;intro w7 hb;replace HB:=bs HB hb;clear hb)|(refine gV func62 (bD.calls A3.out) ?_;rintro aEU w8 ⟨ho0,hb⟩;have zl:=ak (au ho0 (aj (ul HB.out)));replace HB:=bs HB hb;clear hb;(try clear ho0))|(refine bX HB 6 #[.string (⟨#[]⟩:ByteArray), .string (⟨#[]⟩:ByteArray), .slice none 0 0] 76 ?_;intro aui w9 Me auj hb;replace zl:=rb zl hb;replace HB:=bs HB hb;clear hb;have z10:=iZ Me.out;obtain⟨Hu,Ey,XO⟩:=aC zl.out;subst XO)|(refine gB func63 (pY.calls ?dR ((aA zl.out).2.1) A4.out) ?_;(case dR=>refine(aA (e:=43) (base:=w.heap.size) (ok:=fun k_=>True) (n:=ajB.length) (c:=Ey) ?_).2.2;exact(rh zl));intro w12 hb;replace zl:=rg zl hb;replace Me:=kp Me #[.string axU, .string axV, .slice Hu ajB.length Ey] hb;replace HB:=bz HB hb;clear hb))
   go_ret2;exact⟨er,bb⟩
  ·obtain⟨rfl,rfl⟩:=s2 H;go_enter func34,ntmps34;go_wp2_with (first|(refine gB func61 (lJ.calls (cu HR0.out) uV.out A2.out) ?_;intro w13 hb;replace HB:=bs HB hb;clear hb)|(refine gV func62 (bD.calls A3.out) ?_;rintro aEU Xg ⟨ho0,hb⟩;have zl:=ak (au ho0 (aj (ul HB.out)));replace HB:=bs HB hb;clear hb;(try clear ho0))|(refine bX HB 6 #[.string (⟨#[]⟩:ByteArray), .string (⟨#[]⟩:ByteArray), .slice none 0 0] 76 ?_;intro aui w15 Me auj hb;replace zl:=rb zl hb;replace HB:=bs HB hb;clear hb;have z16:=iZ Me.out;obtain⟨OU,LD,ac1⟩:=aC zl.out;subst ac1)|(refine gB func63 (pY.calls ?dR ((aA zl.out).2.1) A4.out) ?_;(case dR=>refine(aA (e:=43) (base:=w.heap.size) (ok:=fun k_=>True) (n:=ajB.length) (c:=LD) ?_).2.2;exact(rh zl));intro w18 hb;replace zl:=rg zl hb;replace Me:=kp Me #[.string axU, .string axV, .slice OU ajB.length LD] hb;replace HB:=bz HB hb;clear hb))
   go_ret2;exact⟨er,bb⟩
 ·obtain⟨rfl,rfl⟩:=s2 H;go_enter func34,ntmps34;go_wp2_with (first|(refine gB func61 (lJ.calls (cu HR0.out) uV.out A2.out) ?_;intro w19 hb;replace HB:=bs HB hb;clear hb)|(refine gV func62 (bD.calls A3.out) ?_;rintro aEU w20 ⟨ho0,hb⟩;have zl:=ak (au ho0 (aj (ul HB.out)));replace HB:=bs HB hb;clear hb;(try clear ho0))|(refine bX HB 6 #[.string (⟨#[]⟩:ByteArray), .string (⟨#[]⟩:ByteArray), .slice none 0 0] 76 ?_;intro aui w21 Me auj hb;replace zl:=rb zl hb;replace HB:=bs HB hb;clear hb;have z22:=iZ Me.out;obtain⟨wW,uQ,V6⟩:=aC zl.out;subst V6)|(refine gB func63 (pY.calls ?dR ((aA zl.out).2.1) A4.out) ?_;(case dR=>refine(aA (e:=43) (base:=w.heap.size) (ok:=fun k_=>True) (n:=ajB.length) (c:=uQ) ?_).2.2;exact(rh zl));intro w24 hb;replace zl:=rg zl hb;replace Me:=kp Me #[.string axU, .string axV, .slice wW ajB.length uQ] hb;replace HB:=bz HB hb;clear hb))
  go_ret2;exact⟨er,bb⟩
mutual
def aK.l0:Nat→List ByteArray→ByteArray→List (List ByteArray)→List ByteArray→Bool→Int→Option ((List (List ByteArray))×Bool)
 |0,_,_,_,_,_,_=>none
 |k+1,x0,x1,x6,x7,x8,x9=>if x9<(x0.length:Int)then((bW.f k x1).bind fun auk=>(aK.j1 k x0 x1 x6 x7 x8 x9 auk))else(aK.j1 k x0 x1 x6 x7 x8 x9 false)
def aK.j1:Nat→List ByteArray→ByteArray→List (List ByteArray)→List ByteArray→Bool→Int→Bool→Option ((List (List ByteArray))×Bool)
 |0,_,_,_,_,_,_,_=>none
 |k+1,x0,x1,x6,x7,x8,x9,x19=>if x19=true then(if 0≤x9 then(if x9<(x0.length:Int)then(if 2+x1.size≤9223372036854775807 then(if(iw ByteArray.empty x0 x9).toList=((⟨#[45,45]⟩:ByteArray)++x1).toList then(if x8=true then(if x6.length<5864062014805 then(aK.l0 k x0 x1 (x6++[x7]) (([]:List ByteArray)) true (wrap64 (x9+1)))else(none))else(aK.l0 k x0 x1 x6 (([]:List ByteArray)) true (wrap64 (x9+1))))else(if((⟨#[45,45]⟩:ByteArray)++x1).size+2≤9223372036854775807 then(if(iw ByteArray.empty x0 x9).toList=(((⟨#[45,45]⟩:ByteArray)++x1)++(⟨#[45,45]⟩:ByteArray)).toList then(aK.j2 k x0 x1 x6 x7 x8 x9 x8)else(aK.j2 k x0 x1 x6 x7 x8 x9 false))else(none)))else(none))else(none))else(none))else(some ((([]:List (List ByteArray))),false))
def aK.j2:Nat→List ByteArray→ByteArray→List (List ByteArray)→List ByteArray→Bool→Int→Bool→Option ((List (List ByteArray))×Bool)
 |0,_,_,_,_,_,_,_=>none
 |k+1,x0,x1,x6,x7,x8,x9,x36=>if x36=true then(if x6.length<5864062014805 then(some ((x6++[x7]),true))else(none))else(if x8=true then(if 0≤x9 then(if x9<(x0.length:Int)then(if x7.length<8796093022208 then(aK.l0 k x0 x1 x6 (x7++[iw ByteArray.empty x0 x9]) x8 (wrap64 (x9+1)))else(none))else(none))else(none))else(aK.l0 k x0 x1 x6 x7 x8 (wrap64 (x9+1))))
end
def aK.f(k:Nat)(l0:List ByteArray)(a1:ByteArray):Option ((List (List ByteArray))×Bool):=aK.l0 k l0 a1 (([]:List (List ByteArray))) (([]:List ByteArray)) false 0
theorem aK.calls{k c0:Nat}{A0:Option Addr}{l0:List ByteArray}{a1:ByteArray}{r1:List (List ByteArray)}{r2:Bool}{w:World}(hr0:Kd.C Kd.string w A0 l0.length l0)(hc0:l0.length≤c0)(h:aK.f k l0 a1=some (r1,r2)):
  Calls Tryz.prog 110 #[.slice A0 l0.length c0, .string a1] w fun e w'=>∃nC:Value,e= .returned (.tuple #[nC, .bool r2])∧Kd.S (Kd.slice 9 Kd.string) 24 w' w.heap.size (fun _=>True) nC r1∧Below w.heap.size w w':=by
 have HR0:=ak hr0;have uV:=ak hc0;clear hr0 hc0;have HB:=ak (Below.refl w.heap.size w);unfold aK.f at h;have H:=h;clear h;obtain⟨aP4,afB⟩:=nm ([]:List (List ByteArray));rw[←afB.out]at H;obtain⟨aP5,amI⟩:=nm ([]:List ByteArray);rw[←amI.out]at H;have H':=ak H;clear H;go_enter func110,ntmps110;go_wp2_with (first|((with_reducible refine Jt (N:=10) rfl ?_);refine aan (Kd.slice 9 Kd.string) _ 24 ?hg (N:=10) ?hd (xs:=([]:List (List ByteArray))) (inner:=[]) (ok:=fun _=>True) (wH:=fun _=>True) ?hr ?hp (fun _ hk=>hk) trivial (Below.refl _ _) (Nat.le_refl _) (by simp) ?_;(case hd=>rfl);(case hg=>rfl);(case hr=>first|(go_simp;done)|(go_simp;rfl));(case hp=>exact(dG.none _ _));intro aP6 w3 Vt hb Bj vK;clear Bj vK;(first|rw[←afB.out]at Vt|(simp only[Int.reduceToNat]at Vt;rw[←afB.out]at Vt));have afC:=ak (Ce Vt (aj (ul HB.out)));replace HB:=bs HB hb;clear hb Vt)|(refine Fh 11 Kd.string 9 amI ?_;intro aP7 w5 WI hb;have axW:=ak (au WI (aj (ul HB.out)));replace afC:=ak (uf (by(with_reducible repeat(first|apply Kd.eU|apply Kd.eX|apply Kd.iq));exact afC.out) (bK WI) hb);replace HB:=bs HB hb;clear hb WI))
 go_loopg [6,7,8,9] k (fun kq v6 v7 v8 v9 w'=>∃(gU:List (List ByteArray)) (qA:List ByteArray) (lX:Bool) (pW:Int),v8= .bool lX∧v9= .int .i64 pW∧ah (aK.l0 kq l0 a1 gU qA lX pW=some (r1,r2))∧ah (kq≤k)∧ah (Kd.S (Kd.slice 9 Kd.string) 24 w' w.heap.size (fun k_=>some k_≠(v7:Value).ownBlock) v6 gU)∧ah (Kd.R Kd.string 9 w' w.heap.size (fun _=>True) v7 qA)∧ah (Below w.heap.size w w'))
 case atStart=>exact⟨_,_,_,_,rs,rs,H',⟨Nat.le_refl _⟩,⟨by(with_reducible repeat(first|apply Kd.eU|apply Kd.eX|apply Kd.iq));exact um afC.out (fun _ hk=>hk.2)⟩,⟨ur axW.out⟩,⟨ul HB.out⟩⟩
 case round=>
  clear H';obtain⟨gU,qA,lX,pW,rfl,rfl,HA,y5,jQ,qo,HB⟩:=hrel
  cases gk with
  |zero=>exact zz HA.out
  |succ k1=>
   obtain⟨H⟩:=HA;simp only[aK.l0]at H;have HC7:=ak H;clear H;go_upto_region 5 with(fail)
   go_cut [19] (fun v19 wc=>∃(kq:Nat) (amJ:Bool),v19= .bool amJ∧ah (aK.j1 kq l0 a1 gU qA lX pW amJ=some (r1,r2))∧ah (kq≤k1)∧ah (Kd.S (Kd.slice 9 Kd.string) 24 wc w.heap.size (fun k_=>some k_≠(u7:Value).ownBlock) u6 gU)∧ah (Kd.R Kd.string 9 wc w.heap.size (fun _=>True) u7 qA)∧ah (Below w.heap.size w wc))
   case first=>
    have H:=HC7.out;clear HC7;replace H:=sd H;rcases H with⟨rP,H⟩|⟨rP,H⟩
    ·(first|rw[rP]|(simp only[ig,jO];rw[rP])|skip);replace H:=bd H;obtain⟨auk,A9,H⟩:=H;have H':=ak H;clear H;go_wp2_with (go_at_call 64;refine mA (bW.calls A9.out) ?_;intro nd)
     go_meet
     case rel=>exact⟨_,_,rs,H',⟨kl⟩,⟨by(with_reducible repeat(first|apply Kd.eU|apply Kd.eX|apply Kd.iq));exact jQ.out⟩,⟨ur qo.out⟩,⟨ul HB.out⟩⟩
    ·(first|rw[rP]|(simp only[ig,jO];rw[rP])|skip);have H':=ak H;clear H;go_wp2;go_meet
     case rel=>exact⟨_,_,rs,H',⟨kl⟩,⟨by(with_reducible repeat(first|apply Kd.eU|apply Kd.eX|apply Kd.iq));exact jQ.out⟩,⟨ur qo.out⟩,⟨ul HB.out⟩⟩
   case rest=>
    clear HC7;obtain⟨kq,amJ,rfl,HA,HJ6,jQ,qo,HB⟩:=hcut
    cases kq with
    |zero=>exact zz HA.out
    |succ kj6=>
     obtain⟨H⟩:=HA;simp only[aK.j1]at H;replace H:=sb H;rcases H with⟨rfl,H⟩|⟨rfl,H⟩
     ·replace H:=nO H;obtain⟨uM,H⟩:=H;replace H:=nO H;obtain⟨vJ,H⟩:=H;replace H:=nn H;obtain⟨c13,H⟩:=H;have xY:=eq_true c13;have Dh:=decide_eq_true c13;try have ahb:(9223372036854775807<2+a1.size)=False:=eq_false (Nat.not_lt.2 c13)
      replace H:=sq H;rcases H with⟨uD,yc,H⟩|⟨c14,uD,yc,H⟩
      ·replace H:=sb H;rcases H with⟨rfl,H⟩|⟨rfl,H⟩
       ·replace H:=nl H;obtain⟨adg,H⟩:=H;obtain⟨y1184,amK⟩:=nm (gU++[qA]);rw[←amK.out]at H;obtain⟨y1187,amL⟩:=nm ([]:List ByteArray);rw[←amL.out]at H;have H':=ak H;clear H;have KL:=zi pW;have KN:=zj pW l0.length;obtain⟨XP,adJ,CG⟩:=bZ HR0.out pW KL KN;cases adJ;replace CG:=cl HB.out CG;replace KL:=eq_true KL;replace KN:=eq_true KN;obtain⟨Ji,Jj,ZI⟩:=aC qo.out;subst ZI;go_wp2_with (first|((with_reducible refine bP (b:= .append) (xs:=#[.tmp 31, .tmp 33]) rfl ?_);at_builtin;refine Ju (Kd.slice 9 Kd.string) (w0:=w) w.heap.size rfl (.tmp 31) (.tmp 33) 56 24 (.slice none 0 0) 24 rfl underlying56 info24 rfl (by decide) (by omega) u6 gU qA [.slice Ji qA.length Jj] (fun _=>True) (fun k_=>some k_=(.slice Ji qA.length Jj:Value).ownBlock) rfl rfl ?aP (fun k_ hk_=>((aG (ok':=fun k_=>((fun _=>True)) k_∧some k_≠(u6:Value).ownBlock) (kM (qo.out) (yU jQ.out) (by decide)) (fun k_ hk=>⟨trivial,hk.2⟩))).1 k_ hk_.symm) ?aF ?aO ?aB ?aS ?aL ?_;(case aP=>exact XD (aG (Om rfl (aG (ok':=fun k_=>((fun _=>True)) k_∧some k_≠(u6:Value).ownBlock) (kM (qo.out) (yU jQ.out) (by decide)) (fun k_ hk=>⟨trivial,hk.2⟩))) (fun _ h_=>h_)));(case aB=>exact(ul HB.out));(case aF=>exact(fun _ _=>trivial));(case aO=>exact(by(with_reducible repeat(first|apply Kd.eU|apply Kd.eX|apply Kd.iq));exact um jQ.out (fun k_ hk=>⟨trivial,fun e_=>hk e_⟩)));(case aS=>exact(aj (ul HB.out)));(case aL=>have:=adg.out;omega);intro aP8 w17 ho hb hg hat;rw[←amK.out]at ho;have afD:=ak (ho);replace HB:=ak (hb);clear ho hb hg hat jQ qo)|(refine Fh 35 Kd.string 9 amL ?_;intro aP9 w19 ZO hb;have axX:=ak (au ZO (aj (ul HB.out)));replace afD:=ak (uf (by(with_reducible repeat(first|apply Kd.eU|apply Kd.eX|apply Kd.iq));exact afD.out) (bK ZO) hb);replace HB:=bs HB hb;clear hb ZO))
        go_roundg kj6
        case measure=>exact kl
        case rel=>exact⟨_,_,_,_,rs,rs,H',⟨kl⟩,⟨by(with_reducible repeat(first|apply Kd.eU|apply Kd.eX|apply Kd.iq));exact um afD.out (fun _ hk=>hk.2)⟩,⟨ur axX.out⟩,⟨ul HB.out⟩⟩
       ·obtain⟨y1190,amM⟩:=nm ([]:List ByteArray);rw[←amM.out]at H;have H':=ak H;clear H;have KL:=zi pW;have KN:=zj pW l0.length;obtain⟨XP,adJ,CG⟩:=bZ HR0.out pW KL KN;cases adJ;replace CG:=cl HB.out CG;replace KL:=eq_true KL;replace KN:=eq_true KN;go_wp2_with (refine Fh 35 Kd.string 9 amM ?_;intro aP_ w21 afy hb;have axY:=ak (au (dM afy (jl (ur qo.out))) (aj (ul HB.out)));replace jQ:=ak (uf (by(with_reducible repeat(first|apply Kd.eU|apply Kd.eX|apply Kd.iq));exact jQ.out) (bK afy) hb);replace qo:=ak (dH (ur qo.out) (bK afy) hb);replace HB:=bs HB hb;clear hb afy)
        go_roundg kj6
        case measure=>exact kl
        case rel=>exact⟨_,_,_,_,rs,rs,H',⟨kl⟩,⟨by(with_reducible repeat(first|apply Kd.eU|apply Kd.eX|apply Kd.iq));exact um jQ.out (fun _ hk=>hk.2)⟩,⟨ur (aG axY.out (fun _ hk=>trivial))⟩,⟨ul HB.out⟩⟩
      ·have axZ:=ak H;clear H;have KL:=zi pW;have KN:=zj pW l0.length;obtain⟨XP,adJ,CG⟩:=bZ HR0.out pW KL KN;cases adJ;replace CG:=cl HB.out CG;replace KL:=eq_true KL;replace KN:=eq_true KN;go_upto_region 12 with(fail)
       go_cut [36] (fun v36 wc=>∃(kq:Nat) (afE:Bool),v36= .bool afE∧ah (aK.j2 kq l0 a1 gU qA lX pW afE=some (r1,r2))∧ah (kq≤kj6)∧ah (Kd.S (Kd.slice 9 Kd.string) 24 wc w.heap.size (fun k_=>some k_≠(u7:Value).ownBlock) u6 gU)∧ah (Kd.R Kd.string 9 wc w.heap.size (fun _=>True) u7 qA)∧ah (Below w.heap.size w wc))
       case first=>
        have H:=axZ.out;clear axZ;replace H:=nn H;obtain⟨c24,H⟩:=H;have QU:=eq_true c24;have aht:=decide_eq_true c24;try have aEV:(9223372036854775807<2+a1.size+2)=False:=by have h_:=(eq_false (Nat.not_lt.2 c24):(9223372036854775807<((⟨#[45,45]⟩:ByteArray)++a1).size+2)=False);simp only[ByteArray.size_append]at h_;exact h_
        try have aEW:(9223372036854775807<((⟨#[45,45]⟩:ByteArray)++a1).size+2)=False:=eq_false (Nat.not_lt.2 c24)
        replace H:=sq H;rcases H with⟨F8,adB,H⟩|⟨c25,F8,adB,H⟩
        ·(first|rw[F8]|(simp only[ig,jO];rw[F8])|skip);have H':=ak H;clear H;have XQ:=zi pW;have XR:=zj pW l0.length;obtain⟨afF,amN,MB⟩:=bZ HR0.out pW XQ XR;obtain rfl:XP=afF:=(by injection amN)
         replace MB:=cl HB.out MB;replace XQ:=eq_true XQ;replace XR:=eq_true XR;go_wp2;go_meet
         case rel=>exact⟨_,_,rs,H',⟨kl⟩,⟨by(with_reducible repeat(first|apply Kd.eU|apply Kd.eX|apply Kd.iq));exact jQ.out⟩,⟨ur qo.out⟩,⟨ul HB.out⟩⟩
        ·(first|rw[F8]|(simp only[ig,jO];rw[F8])|skip);have H':=ak H;clear H;have XQ:=zi pW;have XR:=zj pW l0.length;obtain⟨afF,amN,MB⟩:=bZ HR0.out pW XQ XR;obtain rfl:XP=afF:=(by injection amN)
         replace MB:=cl HB.out MB;replace XQ:=eq_true XQ;replace XR:=eq_true XR;go_wp2;go_meet
         case rel=>exact⟨_,_,rs,H',⟨kl⟩,⟨by(with_reducible repeat(first|apply Kd.eU|apply Kd.eX|apply Kd.iq));exact jQ.out⟩,⟨ur qo.out⟩,⟨ul HB.out⟩⟩
       case rest=>
        clear axZ;try clear uM
        try clear vJ
        try clear c13
        try clear xY
        try clear Dh
        try clear ahb
        try clear c14
        try clear uD
        try clear yc
        try clear CG
        try clear KL
        try clear KN
        obtain⟨kq,afE,rfl,HA,ara,jQ,qo,HB⟩:=hcut
        cases kq with
        |zero=>exact zz HA.out
        |succ aEX=>
         obtain⟨H⟩:=HA;simp only[aK.j2]at H;replace H:=sb H;rcases H with⟨rfl,H⟩|⟨rfl,H⟩
         ·replace H:=nl H;obtain⟨ac6,H⟩:=H;obtain⟨y1194,amO⟩:=nm (gU++[qA]);rw[←amO.out]at H;obtain⟨rfl,rfl⟩:=s2 H;obtain⟨V7,V8,ajC⟩:=aC qo.out;subst ajC;go_wp2_with ((with_reducible refine bP (b:= .append) (xs:=#[.tmp 48, .tmp 50]) rfl ?_);at_builtin;refine Ju (Kd.slice 9 Kd.string) (w0:=w) w.heap.size rfl (.tmp 48) (.tmp 50) 56 24 (.slice none 0 0) 24 rfl underlying56 info24 rfl (by decide) (by omega) u6 gU qA [.slice V7 qA.length V8] (fun _=>True) (fun k_=>some k_=(.slice V7 qA.length V8:Value).ownBlock) rfl rfl ?aP (fun k_ hk_=>((aG (ok':=fun k_=>((fun _=>True)) k_∧some k_≠(u6:Value).ownBlock) (kM (qo.out) (yU jQ.out) (by decide)) (fun k_ hk=>⟨trivial,hk.2⟩))).1 k_ hk_.symm) ?aF ?aO ?aB ?aS ?aL ?_;(case aP=>exact XD (aG (Om rfl (aG (ok':=fun k_=>((fun _=>True)) k_∧some k_≠(u6:Value).ownBlock) (kM (qo.out) (yU jQ.out) (by decide)) (fun k_ hk=>⟨trivial,hk.2⟩))) (fun _ h_=>h_)));(case aB=>exact(ul HB.out));(case aF=>exact(fun _ _=>trivial));(case aO=>exact(by(with_reducible repeat(first|apply Kd.eU|apply Kd.eX|apply Kd.iq));exact um jQ.out (fun k_ hk=>⟨trivial,fun e_=>hk e_⟩)));(case aS=>exact(aj (ul HB.out)));(case aL=>have:=ac6.out;omega);intro aQa w28 ho hb hg hat;rw[←amO.out]at ho;have ax0:=ak (ho);replace HB:=ak (hb);clear ho hb hg hat jQ qo)
          go_ret2;exact⟨_,er,by(with_reducible repeat(first|apply Kd.eU|apply Kd.eX|apply Kd.iq));exact ax0.out,ul HB.out⟩
         ·replace H:=sb H;rcases H with⟨rfl,H⟩|⟨rfl,H⟩
          ·replace H:=nO H;obtain⟨ahT,H⟩:=H;replace H:=nO H;obtain⟨aaj,H⟩:=H;replace H:=nl H;obtain⟨amP,H⟩:=H;obtain⟨y1198,amQ⟩:=nm (qA++[iw ByteArray.empty l0 pW]);rw[←amQ.out]at H;have H':=ak H;clear H;have amR:=zi pW;have amS:=zj pW l0.length;obtain⟨ax1,aEY,adK⟩:=bZ HR0.out pW amR amS;obtain rfl:XP=ax1:=(by injection aEY)
           replace adK:=cl HB.out adK;replace amR:=eq_true amR;replace amS:=eq_true amS;go_wp2_with (at_builtin;refine aP 54 59 Kd.string 24 9 (.string ⟨#[]⟩) 16 underlying24 info9 HB (ur qo.out) amQ (by have:=amP.out;omega) ?_;intro aQb w34 ho hb hg hat;have ax2:=ak (ho);replace jQ:=ak (WS (ok:=(fun _=>True)) (by(with_reducible repeat(first|apply Kd.eU|apply Kd.eX|apply Kd.iq));exact um jQ.out (fun _ hk=>⟨trivial,hk⟩)) hg hat);replace HB:=ak (hb);clear ho hb hg hat qo)
           go_roundg aEX
           case measure=>have:=y5.out;have:=HJ6.out;have:=ara.out;omega
           case rel=>exact⟨_,_,_,_,rs,rs,H',⟨by have:=y5.out;have:=HJ6.out;have:=ara.out;omega⟩,⟨by(with_reducible repeat(first|apply Kd.eU|apply Kd.eX|apply Kd.iq));exact um jQ.out (fun _ hk=>hk.2)⟩,⟨ur ax2.out⟩,⟨ul HB.out⟩⟩
          ·have H':=ak H;clear H;go_wp2;go_roundg aEX
           case measure=>have:=y5.out;have:=HJ6.out;have:=ara.out;omega
           case rel=>exact⟨_,_,_,_,rs,rs,H',⟨by have:=y5.out;have:=HJ6.out;have:=ara.out;omega⟩,⟨by(with_reducible repeat(first|apply Kd.eU|apply Kd.eX|apply Kd.iq));exact jQ.out⟩,⟨ur qo.out⟩,⟨ul HB.out⟩⟩
     ·obtain⟨aQc,afG⟩:=nm ([]:List (List ByteArray));rw[←afG.out]at H;obtain⟨rfl,rfl⟩:=s2 H;go_wp2_with ((with_reducible refine Jt (N:=61) rfl ?_);refine aan (Kd.slice 9 Kd.string) _ 24 ?hg (N:=61) ?hd (xs:=([]:List (List ByteArray))) (inner:=[]) (ok:=fun _=>True) (wH:=fun _=>True) ?hr ?hp (fun _ hk=>hk) trivial (Below.refl _ _) (Nat.le_refl _) (by simp) ?_;(case hd=>rfl);(case hg=>rfl);(case hr=>first|(go_simp;done)|(go_simp;rfl));(case hp=>exact(dG.none _ _));intro aQd w35 ajD hb Bj vK;clear Bj vK;(first|rw[←afG.out]at ajD|(simp only[Int.reduceToNat]at ajD;rw[←afG.out]at ajD));have ax3:=ak (Ce (XH (XH ajD (aEZ (by(with_reducible repeat(first|apply Kd.eU|apply Kd.eX|apply Kd.iq));exact jQ.out))) (jl (ur qo.out))) (aj (ul HB.out)));replace jQ:=ak (uf (by(with_reducible repeat(first|apply Kd.eU|apply Kd.eX|apply Kd.iq));exact jQ.out) (amT ajD) hb);replace qo:=rb qo hb;replace HB:=bs HB hb;clear hb ajD)
      go_ret2;exact⟨_,er,by(with_reducible repeat(first|apply Kd.eU|apply Kd.eX|apply Kd.iq));exact um ax3.out (fun _ hk=>trivial),ul HB.out⟩
def dV.l0:Nat→List (List ByteArray)→List (List ByteArray)→Int→Int→Option ((List (List ByteArray)))
 |0,_,_,_,_=>none
 |k+1,x3,x7,x8,x9=>if x9<x8 then(if 0≤x9 then(if x9<(x7.length:Int)then((some (([]:List ByteArray):List ByteArray)).bind fun y1205=>(if y1205.length+(lV x7 x9).length<8796093022208 then(if x3.length<5864062014805 then(dV.l0 k (x3++[(y1205++(lV x7 x9))]) x7 x8 (wrap64 (x9+1)))else(none))else(none)))else(none))else(none))else(some x3)
def dV.f(k:Nat)(l0:List (List ByteArray)):Option ((List (List ByteArray))):=dV.l0 k (([]:List (List ByteArray))) l0 (l0.length:Int) 0
theorem dV.calls{k c0:Nat}{A0:Option Addr}{l0 r:List (List ByteArray)}{w:World}(hr0:Kd.C (Kd.slice 9 Kd.string) w A0 l0.length l0)(hc0:l0.length≤c0)(h:dV.f k l0=some r):
  Calls Tryz.prog 111 #[.slice A0 l0.length c0] w fun e w'=>∃nC:Value,e= .returned (nC)∧Kd.S (Kd.slice 9 Kd.string) 24 w' w.heap.size (fun _=>True) nC r∧Below w.heap.size w w':=by
 have HR0:=ak hr0;have uV:=ak hc0;clear hr0 hc0;have HB:=ak (Below.refl w.heap.size w);unfold dV.f at h;have H:=h;clear h;obtain⟨y1201,afH⟩:=nm ([]:List (List ByteArray));rw[←afH.out]at H;have H':=ak H;clear H;go_enter func111,ntmps111;go_wp2_with ((with_reducible refine Jt (N:=6) rfl ?_);refine aan (Kd.slice 9 Kd.string) _ 24 ?hg (N:=6) ?hd (xs:=([]:List (List ByteArray))) (inner:=[]) (ok:=fun _=>True) (wH:=fun _=>True) ?hr ?hp (fun _ hk=>hk) trivial (Below.refl _ _) (Nat.le_refl _) (by simp) ?_;(case hd=>rfl);(case hg=>rfl);(case hr=>first|(go_simp;done)|(go_simp;rfl));(case hp=>exact(dG.none _ _));intro aQe w2 ho3 hb Bj vK;clear Bj vK;(first|rw[←afH.out]at ho3|(simp only[Int.reduceToNat]at ho3;rw[←afH.out]at ho3));have ax4:=ak (Ce ho3 (aj (ul HB.out)));replace HB:=bs HB hb;clear hb ho3)
 go_loopg [3,9] k (fun kq v3 v9 w'=>∃(fA:List (List ByteArray)) (pW:Int),v9= .int .i64 pW∧ah (dV.l0 kq fA l0 (l0.length:Int) pW=some r)∧ah (kq≤k)∧ah (Kd.S (Kd.slice 9 Kd.string) 24 w' w.heap.size (fun _=>True) v3 fA)∧ah (Below w.heap.size w w'))
 case atStart=>exact⟨_,_,rs,H',⟨Nat.le_refl _⟩,⟨by(with_reducible repeat(first|apply Kd.eU|apply Kd.eX|apply Kd.iq));exact ax4.out⟩,⟨ul HB.out⟩⟩
 case round=>
  clear H';obtain⟨fA,pW,rfl,HA,y5,pX,HB⟩:=hrel
  cases gk with
  |zero=>exact zz HA.out
  |succ k1=>
   obtain⟨H⟩:=HA;simp only[dV.l0]at H;replace H:=sd H;rcases H with⟨o7,H⟩|⟨o7,H⟩
   ·replace H:=nO H;obtain⟨mV,H⟩:=H;replace H:=nO H;obtain⟨nD,H⟩:=H;replace H:=ny H;obtain⟨y1205,ax5,H⟩:=H;replace H:=nl H;obtain⟨alk,H⟩:=H;obtain⟨y1208,amU⟩:=nm (y1205++(lV l0 pW));rw[←amU.out]at H;replace H:=nl H;obtain⟨akv,H⟩:=H;obtain⟨y1211,amV⟩:=nm (fA++[y1208]);rw[←amV.out]at H;have H':=ak H;clear H;have amW:=zi pW;have amX:=zj pW l0.length;obtain⟨aLQ,aJl,aJm,aE0,adL,adM,adN⟩:=FW HR0.out pW amW amX;cases aE0;replace adL:=cl HB.out adL;have amY:=ak adN;have aE1:=ak adM;clear adN adM;replace amW:=eq_true amW;replace amX:=eq_true amX;go_wp2_with (first|(refine Fh 14 Kd.string 9 ax5 ?_;intro aE2 w9 OX hb;have amZ:=ak (au OX (aj (ul HB.out)));replace pX:=ak (uf (by(with_reducible repeat(first|apply Kd.eU|apply Kd.eX|apply Kd.iq));exact pX.out) (bK OX) hb);replace HB:=bs HB hb;clear hb OX)|((with_reducible refine bP (b:= .append) (xs:=#[.tmp 14, .tmp 15]) rfl ?_);at_builtin;refine o_ Kd.string (w0:=w) w.heap.size rfl (.tmp 14) (.tmp 15) 24 9 (.string ⟨#[]⟩) 16 rfl underlying24 info9 rfl (by decide) (by omega) aE2 y1205 (lV l0 pW) _ _ _ (fun _=>True) (fun _=>False) rfl rfl ?aO ?aR (fun _ _ h=>h) (fun _ h=>h.elim) ?aF ?aB ?aS ?aL ?_;(case aR=>repeat(first|exact(aI amY.out HB.out)|(with_reducible refine Kd.lM ?_ _)|(with_reducible refine Kd.lQ ?_ _)|(with_reducible refine Kd.oz ?_)));(case aB=>exact(ul HB.out));(case aF=>exact(fun _ _=>trivial));(case aO=>exact(ur amZ.out));(case aS=>exact(aj (ul HB.out)));(case aL=>have:=alk.out;omega);intro aQf ZH ho hb hg hat;rw[←amU.out]at ho;have abH:=ak (ho);replace pX:=ak (WS (ok:=(fun _=>True)) (by(with_reducible repeat(first|apply Kd.eU|apply Kd.eX|apply Kd.iq));exact pX.out) hg hat);replace HB:=ak (hb);clear ho hb hg hat amZ;obtain⟨Hg,AP,LC⟩:=aC abH.out;subst LC)|((with_reducible refine bP (b:= .append) (xs:=#[.tmp 13, .tmp 17]) rfl ?_);at_builtin;refine Ju (Kd.slice 9 Kd.string) (w0:=w) w.heap.size rfl (.tmp 13) (.tmp 17) 56 24 (.slice none 0 0) 24 rfl underlying56 info24 rfl (by decide) (by omega) u3 fA y1208 [.slice Hg y1208.length AP] (fun _=>True) (fun k_=>some k_=(.slice Hg y1208.length AP:Value).ownBlock) rfl rfl ?aP (fun k_ hk_=>((aG (ok':=fun k_=>((fun _=>True)) k_∧some k_≠(u3:Value).ownBlock) (kM (abH.out) (yU pX.out) (by decide)) (fun k_ hk=>⟨trivial,hk.2⟩))).1 k_ hk_.symm) ?aF ?aO ?aB ?aS ?aL ?_;(case aP=>exact XD (aG (Om rfl (aG (ok':=fun k_=>((fun _=>True)) k_∧some k_≠(u3:Value).ownBlock) (kM (abH.out) (yU pX.out) (by decide)) (fun k_ hk=>⟨trivial,hk.2⟩))) (fun _ h_=>h_)));(case aB=>exact(ul HB.out));(case aF=>exact(fun _ _=>trivial));(case aO=>exact(by(with_reducible repeat(first|apply Kd.eU|apply Kd.eX|apply Kd.iq));exact um pX.out (fun k_ hk=>⟨trivial,fun e_=>hk.2 e_⟩)));(case aS=>exact(aj (ul HB.out)));(case aL=>have:=akv.out;omega);intro aQg w12 ho hb hg hat;rw[←amV.out]at ho;have ax6:=ak (ho);replace HB:=ak (hb);clear ho hb hg hat pX abH))
    go_roundg k1
    case measure=>exact kl
    case rel=>exact⟨_,_,rs,H',⟨kl⟩,⟨by(with_reducible repeat(first|apply Kd.eU|apply Kd.eX|apply Kd.iq));exact ax6.out⟩,⟨ul HB.out⟩⟩
   ·obtain rfl:=s1 H;go_wp2;go_ret;exact⟨_,er,by(with_reducible repeat(first|apply Kd.eU|apply Kd.eX|apply Kd.iq));exact pX.out,ul HB.out⟩
def rD.f(k:Nat)(l0:List ByteArray)(a1:ByteArray):Option ((List (List ByteArray))×Bool):=(aK.f k l0 a1).bind fun am0=>((dV.f k am0.1).bind fun aul=>(some (aul,am0.2)))
theorem rD.calls{k c0:Nat}{A0:Option Addr}{l0:List ByteArray}{a1:ByteArray}{r1:List (List ByteArray)}{r2:Bool}{w:World}(hr0:Kd.C Kd.string w A0 l0.length l0)(hc0:l0.length≤c0)(h:rD.f k l0 a1=some (r1,r2)):
  Calls Tryz.prog 72 #[.slice A0 l0.length c0, .string a1] w fun e w'=>∃nC:Value,e= .returned (.tuple #[nC, .bool r2])∧Kd.S (Kd.slice 9 Kd.string) 24 w' w.heap.size (fun _=>True) nC r1∧Below w.heap.size w w':=by
 have HR0:=ak hr0;have uV:=ak hc0;clear hr0 hc0;have HB:=ak (Below.refl w.heap.size w);unfold rD.f at h;have H:=h;clear h;replace H:=bd H;obtain⟨⟨aQh,aQi⟩,A3,H⟩:=H
 (try dsimp only at H);replace H:=bd H;obtain⟨aul,A4,H⟩:=H;obtain⟨rfl,rfl⟩:=s2 H;go_enter func72,ntmps72;go_wp2_with (first|(refine gV func110 (aK.calls (cu HR0.out) uV.out A3.out) ?_;rintro aQj w5 ⟨ho0,hb⟩;have UF:=ak (Ce ho0 (aj (ul HB.out)));replace HB:=bs HB hb;clear hb;(try clear ho0);obtain⟨Ao6,co6,eo6⟩:=Ci UF.out;subst eo6)|(refine gV func111 (dV.calls (cu ((rQ UF.out).2.2)) ((rQ UF.out).2.1) A4.out) ?_;rintro aQk w7 ⟨ho0,hb⟩;have ax7:=ak (Ce (XH ho0 (aEZ (by(with_reducible repeat(first|apply Kd.eU|apply Kd.eX|apply Kd.iq));exact UF.out))) (aj (ul HB.out)));replace UF:=ak (uf (by(with_reducible repeat(first|apply Kd.eU|apply Kd.eX|apply Kd.iq));exact UF.out) (amT ho0) hb);replace HB:=bs HB hb;clear hb;(try clear ho0)))
 go_ret2;exact⟨_,er,by(with_reducible repeat(first|apply Kd.eU|apply Kd.eX|apply Kd.iq));exact um ax7.out (fun _ hk=>trivial),ul HB.out⟩
end Go.Proofs.YtdkipechiaploaaGreatDoor.PFnPartText
