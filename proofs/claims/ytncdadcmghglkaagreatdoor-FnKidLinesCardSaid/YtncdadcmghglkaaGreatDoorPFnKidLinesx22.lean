/- Printed walks; conditions: those in each statement. -/
import Derived.Test.YtncdadcmghglkaaGreatDoorVFnKidLinesQt
import Derived.Test.YtncdadcmghglkaaGreatDoorVFnKidLinesYt
import Derived.Test.YtncdadcmghglkaaGreatDoorPFnKidLinesx0
-- short
-- dense
-- sq
-- sq2
namespace Go.Proofs.YtncdadcmghglkaaGreatDoor.PFnKidLines
open Go.RowKit Go.Proofs.YtncdadcmghglkaaGreatDoor.X Go.Proofs.YtncdadcmghglkaaGreatDoorW.dS Go.Proofs.YtncdadcmghglkaaGreatDoorW.kY Go.Proofs.YtncdadcmghglkaaGreatDoorW.n_
attribute [local go_sem] xM xO AV AX vK vM xP xQ   -- for this text's walks alone
set_option linter.unusedVariables false
set_option maxHeartbeats 8000000
set_option maxRecDepth 100000
set_option linter.unusedSimpArgs false
def jE.l0:Nat→List (gK)→ByteArray→Int→Option (Int)
 |0,_,_,_=>none
 |k+1,x0,x1,x5=>if x5<(x0.length:Int)then(if 0≤x5 then((qm.f ((eU x0 x5).f0) x1).bind fun auh=>(if auh=true then(some x5)else(jE.l0 k x0 x1 (wrap64 (x5+1)))))else(none))else(some (-1))
def jE.f (k:Nat) (l0:List (gK)) (a1:ByteArray):Option (Int):=jE.l0 k l0 a1 0
theorem jE.calls {k c0:Nat} {A0:Option Addr} {l0:List (gK)} {a1:ByteArray} {r:Int} {w:World} (hr0:Kd.C qy w A0 l0.length l0) (hc0:l0.length≤c0) (h:jE.f k l0 a1=some r):
  Calls Tryz.prog 177 #[.slice A0 l0.length c0, .string a1] w fun e w'=>e= .returned (.int .i64 r)∧Below w.heap.size w w':=by
 have HR0:=ak hr0;have yF:=ak hc0;clear hr0 hc0;have HB:=ak (Below.refl w.heap.size w);unfold jE.f at h;have H:=h;clear h;have H':=ak H;clear H;go_enter Tryz.func177,Tryz.ntmps177;go_wp2;go_loopg [5] k (fun kq v5 w'=>∃(dK:Int),v5= .int .i64 dK∧ah (jE.l0 kq l0 a1 dK=some r)∧ah (kq≤k)∧ah (Below w.heap.size w w'))
 case atStart=>exact⟨_,rs,H',⟨Nat.le_refl _⟩,⟨ul HB.out⟩⟩
 case round=>
  clear H';obtain⟨dK,rfl,HA,yH,HB⟩:=hrel
  cases gk with
  |zero=>exact zz HA.out
  |succ k1=>
   obtain⟨H⟩:=HA;simp only[jE.l0]at H;replace H:=sd H;rcases H with⟨iH,H⟩|⟨iH,H⟩
   ·replace H:=nS H;obtain⟨qW,H⟩:=H;replace H:=bd H;obtain⟨auh,A5,H⟩:=H;replace H:=sb H;rcases H with⟨rfl,H⟩|⟨rfl,H⟩
    ·obtain rfl:=s1 H;have Y5:=zi dK;have Y6:=zj dK l0.length;obtain⟨aui,aor,KI,KJ⟩:=qN HR0.out dK Y5 Y6;cases aor;replace KI:=cl HB.out KI;replace KJ:=cl HB.out KJ;replace Y5:=eq_true Y5;replace Y6:=eq_true Y6;go_wp2_with (refine gB Tryz.func197 (qm.calls A5.out) ?_;intro w7 hb;replace HB:=bs HB hb;clear hb)
     go_ret;exact⟨er,ul HB.out⟩
    ·have H':=ak H;clear H;have Y5:=zi dK;have Y6:=zj dK l0.length;obtain⟨aui,aor,KI,KJ⟩:=qN HR0.out dK Y5 Y6;cases aor;replace KI:=cl HB.out KI;replace KJ:=cl HB.out KJ;replace Y5:=eq_true Y5;replace Y6:=eq_true Y6;go_wp2_with (refine gB Tryz.func197 (qm.calls A5.out) ?_;intro w8 hb;replace HB:=bs HB hb;clear hb)
     go_roundg k1
     case measure=>exact kl
     case rel=>exact⟨_,rs,H',⟨kl⟩,⟨ul HB.out⟩⟩
   ·obtain rfl:=s1 H;go_wp2;go_ret;exact⟨er,ul HB.out⟩
def jL.f (k:Nat) (l0:List (gK)) (a1:ByteArray):Option (ByteArray×Bool):=(jE.f k l0 a1).bind fun Xp=>(if Xp<0 then(some ((⟨#[]⟩:ByteArray),false))else(if 0≤Xp then(if Xp<(l0.length:Int)then(some ((eU l0 Xp).f1,true))else(none))else(none)))
theorem jL.calls {k c0:Nat} {A0:Option Addr} {l0:List (gK)} {a1 r1:ByteArray} {r2:Bool} {w:World} (hr0:Kd.C qy w A0 l0.length l0) (hc0:l0.length≤c0) (h:jL.f k l0 a1=some (r1,r2)):
  Calls Tryz.prog 154 #[.slice A0 l0.length c0, .string a1] w fun e w'=>e= .returned (.tuple #[.string r1, .bool r2])∧Below w.heap.size w w':=by
 have HR0:=ak hr0;have yF:=ak hc0;clear hr0 hc0;have HB:=ak (Below.refl w.heap.size w);unfold jL.f at h;have H:=h;clear h;replace H:=bd H;obtain⟨Xp,A3,H⟩:=H;replace H:=sd H;rcases H with⟨qW,H⟩|⟨qW,H⟩
 ·obtain⟨rfl,rfl⟩:=s2 H;go_enter Tryz.func154,Tryz.ntmps154;go_wp2_with (refine gB Tryz.func177 (jE.calls (cu HR0.out) yF.out A3.out) ?_;intro w5 hb;replace HB:=bs HB hb;clear hb)
  go_ret2;exact⟨er,ul HB.out⟩
 ·replace H:=nS H;obtain⟨nG,H⟩:=H;replace H:=nS H;obtain⟨qO,H⟩:=H;obtain⟨rfl,rfl⟩:=s2 H;go_enter Tryz.func154,Tryz.ntmps154;go_wp2_with (refine gB Tryz.func177 (jE.calls (cu HR0.out) yF.out A3.out) ?_;intro w8 hb;replace HB:=bs HB hb;clear hb;have aos:0≤(Xp:Int):=of_decide_eq_true (by assumption);have aot:Xp<(l0.length:Int):=of_decide_eq_true (by assumption);obtain⟨aDr,aAt,Vh,Vj⟩:=qN HR0.out Xp aos aot;cases aAt;replace Vh:=(HB.out.cell (World.block_lt_of_cell? w _ Vh)).trans Vh;replace Vj:=(HB.out.cell (World.block_lt_of_cell? w _ Vj)).trans Vj;replace aos:=eq_true aos;replace aot:=eq_true aot)
  go_ret2;exact⟨er,ul HB.out⟩
def fQ.l0:Nat→ByteArray→ByteArray→Int→Option (ByteArray×Int)
 |0,_,_,_=>none
 |k+1,x0,x6,x7=>if x7<(x0.size:Int)then(if 0≤x7 then(if(bt x0 x7)=34 then(some (x6,wrap64 (x7+1)))else(if(bt x0 x7)=92 then(if(wrap64 (x7+1))=(x0.size:Int)then(some ((⟨#[]⟩:ByteArray),(-1)))else(if 0≤(wrap64 (x7+1))then(if(wrap64 (x7+1))≤(wrap64 ((wrap64 (x7+1))+1))then(if(wrap64 ((wrap64 (x7+1))+1))≤(x0.size:Int)then(if x6.size+(x0.extract ((wrap64 (x7+1)):Int).toNat ((wrap64 ((wrap64 (x7+1))+1)):Int).toNat).size≤9223372036854775807 then(fQ.l0 k x0 (x6++(x0.extract ((wrap64 (x7+1)):Int).toNat ((wrap64 ((wrap64 (x7+1))+1)):Int).toNat)) (wrap64 ((wrap64 (x7+1))+1)))else(none))else(none))else(none))else(none)))else(if x7≤(wrap64 (x7+1))then(if(wrap64 (x7+1))≤(x0.size:Int)then(if x6.size+(x0.extract (x7:Int).toNat ((wrap64 (x7+1)):Int).toNat).size≤9223372036854775807 then(fQ.l0 k x0 (x6++(x0.extract (x7:Int).toNat ((wrap64 (x7+1)):Int).toNat)) (wrap64 (x7+1)))else(none))else(none))else(none))))else(none))else(some ((⟨#[]⟩:ByteArray),(-1)))
def fQ.f (k:Nat) (a0:ByteArray) (a1:Int):Option (ByteArray×Int):=fQ.l0 k a0 (⟨#[]⟩:ByteArray) (wrap64 (a1+1))
theorem fQ.calls {k:Nat} {a0 r1:ByteArray} {a1 r2:Int} {w:World} (h:fQ.f k a0 a1=some (r1,r2)):
  Calls Tryz.prog 198 #[.string a0, .int .i64 a1] w fun e w'=>e= .returned (.tuple #[.string r1, .int .i64 r2])∧dM w w':=by
 unfold fQ.f at h;have H:=h;clear h;have H':=ak H;clear H;go_enter Tryz.func198,Tryz.ntmps198;go_wp2;go_loopg [6,7] k (fun kq v6 v7 w'=>∃(gY:ByteArray) (qX:Int),v6= .string gY∧v7= .int .i64 qX∧ah (fQ.l0 kq a0 gY qX=some (r1,r2))∧ah (kq≤k)∧dM w w')
 case atStart=>exact⟨_,_,rs,rs,H',⟨Nat.le_refl _⟩,dn⟩
 case round=>
  clear H';obtain⟨gY,qX,rfl,rfl,HA,yH,⟨m1,rfl⟩⟩:=hrel
  cases gk with
  |zero=>exact zz HA.out
  |succ k1=>
   obtain⟨H⟩:=HA;simp only[fQ.l0]at H;replace H:=sd H;rcases H with⟨iH,H⟩|⟨iH,H⟩
   ·replace H:=nS H;obtain⟨qW,H⟩:=H;replace H:=sq H;rcases H with⟨nG,xW,H⟩|⟨c6,nG,xW,H⟩
    ·obtain⟨rfl,rfl⟩:=s2 H;obtain⟨p5,q5,hx5⟩:=bx a0 qX;go_wp2;go_ret2;exact⟨rs,dn⟩
    ·replace H:=sq H;rcases H with⟨tK,FH,H⟩|⟨c8,tK,FH,H⟩
     ·replace H:=sq H;rcases H with⟨yI,Gh,H⟩|⟨c9,yI,Gh,H⟩
      ·obtain⟨rfl,rfl⟩:=s2 H;obtain⟨p5,q5,hx5⟩:=bx a0 qX;obtain⟨p7,q7,hx7⟩:=bx a0 qX;go_wp2;go_ret2;exact⟨rs,dn⟩
      ·obtain⟨KL,QS⟩:∃j_:Int,(wrap64 (qX+1))=j_:=⟨_,rfl⟩
       replace H:(if 0≤(KL)then(if(KL)≤(wrap64 ((KL)+1))then(if(wrap64 ((KL)+1))≤(a0.size:Int)then(if gY.size+(a0.extract ((KL):Int).toNat ((wrap64 ((KL)+1)):Int).toNat).size≤9223372036854775807 then(fQ.l0 k1 a0 (gY++(a0.extract ((KL):Int).toNat ((wrap64 ((KL)+1)):Int).toNat)) (wrap64 ((KL)+1)))else(none))else(none))else(none))else(none))=some (r1,r2):=by first|(rw[QS]at H;exact H)|(simp only[QS]at H⊢;exact H)
       (try rw[QS]at yI)
       (try rw[QS]at Gh);have aAu:(IntKind.i64.wrap (qX+1))=KL:=(iP _).trans QS;replace H:=AY H;obtain⟨sJ,CZ,H⟩:=H;replace H:=nn H;obtain⟨c12,H⟩:=H;have xX:=eq_true c12;have D9:=decide_eq_true c12;replace H:=nn H;obtain⟨c13,H⟩:=H;have vW:=eq_true c13;have Az:=decide_eq_true c13;replace H:=nn H;obtain⟨c14,H⟩:=H;have sK:=eq_true c14;have xY:=decide_eq_true c14;try have aDs:(9223372036854775807<gY.size+((a0.extract ((KL):Int).toNat ((wrap64 ((KL)+1)):Int).toNat).size))=False:=by have h_:=c14;simp only[ByteArray.size_append,ByteArray.size_extract]at h_;refine eq_false ?_;simp only[decide_eq_true_eq]at*;omega
       try have aqV:(9223372036854775807<gY.size+(a0.extract ((KL):Int).toNat ((wrap64 ((KL)+1)):Int).toNat).size)=False:=eq_false (Nat.not_lt.2 c14)
       have H':=ak H;clear H;obtain⟨p5,q5,hx5⟩:=bx a0 qX;obtain⟨p7,q7,hx7⟩:=bx a0 qX;go_wp2;go_roundg k1
       case measure=>exact kl
       case rel=>exact⟨_,_,(by first|rfl|(simp;done)|(simp only[←QS]<;>(first|rfl|simp))|(simp[*];done)),(by first|rfl|(simp;done)|(simp only[←QS]<;>(first|rfl|simp))|(simp[*];done)),H',⟨kl⟩,dn⟩
     ·have vX:=eq_true (of_decide_eq_true (by assumption):0≤qX);replace H:=nn H;obtain⟨c16,H⟩:=H;have AA:=eq_true c16;have J4:=decide_eq_true c16;replace H:=nn H;obtain⟨c17,H⟩:=H;have rQ:=eq_true c17;have I4:=decide_eq_true c17;replace H:=nn H;obtain⟨c18,H⟩:=H;have vY:=eq_true c18;have JY:=decide_eq_true c18;try have aDt:(9223372036854775807<gY.size+((a0.extract (qX:Int).toNat ((wrap64 (qX+1)):Int).toNat).size))=False:=by have h_:=c18;simp only[ByteArray.size_append,ByteArray.size_extract]at h_;refine eq_false ?_;simp only[decide_eq_true_eq]at*;omega
      try have aa6:(9223372036854775807<gY.size+(a0.extract (qX:Int).toNat ((wrap64 (qX+1)):Int).toNat).size)=False:=eq_false (Nat.not_lt.2 c18)
      have H':=ak H;clear H;obtain⟨p5,q5,hx5⟩:=bx a0 qX;obtain⟨p7,q7,hx7⟩:=bx a0 qX;go_wp2;go_roundg k1
      case measure=>exact kl
      case rel=>exact⟨_,_,rs,rs,H',⟨kl⟩,dn⟩
   ·obtain⟨rfl,rfl⟩:=s2 H;go_wp2;go_ret2;exact⟨rs,dn⟩
def jd.l0:Nat→ByteArray→Int→Int→Option (ByteArray×ByteArray×Bool)
 |0,_,_,_=>none
 |k+1,x0,x1,x7=>if x7<(x0.size:Int)then(if 0≤x7 then(if(bt x0 x7)=34 then((fQ.f k x0 x7).bind fun ale=>(if ale.2<0 then(some (x0,(⟨#[]⟩:ByteArray),false))else(jd.l0 k x0 x1 ale.2)))else(if(bt x0 x7)=x1 then(if x7≤(x0.size:Int)then(if 0≤(wrap64 (x7+1))then(if(wrap64 (x7+1))≤(x0.size:Int)then(some (x0.extract 0 (x7:Int).toNat,x0.extract ((wrap64 (x7+1)):Int).toNat x0.size,true))else(none))else(none))else(none))else(jd.l0 k x0 x1 (wrap64 (x7+1)))))else(none))else(some (x0,(⟨#[]⟩:ByteArray),false))
def jd.f (k:Nat) (a0:ByteArray) (a1:Int):Option (ByteArray×ByteArray×Bool):=jd.l0 k a0 a1 0
theorem jd.calls {k:Nat} {a0 r1 r2:ByteArray} {a1:Int} {r3:Bool} {w:World} (h:jd.f k a0 a1=some (r1,r2,r3)):
  Calls Tryz.prog 178 #[.string a0, .int .u8 a1] w fun e w'=>e= .returned (.tuple #[.string r1, .string r2, .bool r3])∧dM w w':=by
 unfold jd.f at h;have H:=h;clear h;have H':=ak H;clear H;go_enter Tryz.func178,Tryz.ntmps178;go_wp2;repeat(go_quiet (fail);try go_wp2)
 go_loopg [7] k (fun kq v7 w'=>∃(qX:Int),v7= .int .i64 qX∧ah (jd.l0 kq a0 a1 qX=some (r1,r2,r3))∧ah (kq≤k)∧dM w w')
 case atStart=>exact⟨_,rs,H',⟨Nat.le_refl _⟩,dn⟩
 case round=>
  clear H';obtain⟨qX,rfl,HA,yH,⟨m1,rfl⟩⟩:=hrel
  cases gk with
  |zero=>exact zz HA.out
  |succ k1=>
   obtain⟨H⟩:=HA;simp only[jd.l0]at H;replace H:=sd H;rcases H with⟨iH,H⟩|⟨iH,H⟩
   ·replace H:=nS H;obtain⟨qW,H⟩:=H;replace H:=sq H;rcases H with⟨nG,xW,H⟩|⟨c6,nG,xW,H⟩
    ·replace H:=bd H;obtain⟨⟨aHy,aHz⟩,A7,H⟩:=H
     (try dsimp only at H);replace H:=sd H;rcases H with⟨tK,H⟩|⟨tK,H⟩
     ·obtain⟨rfl,rfl,rfl⟩:=s3 H;obtain⟨p5,q5,hx5⟩:=bx a0 qX;go_wp2_with (go_at_call 198;refine mA (fQ.calls A7.out) ?_;intro nd;(try exact dq))
      repeat(go_quiet ((go_at_call 198;refine mA (fQ.calls A7.out) ?_;intro nd;(try exact dq)));try go_wp2_with (go_at_call 198;refine mA (fQ.calls A7.out) ?_;intro nd;(try exact dq)))
      go_ret3;exact⟨rs,dn⟩
     ·have H':=ak H;clear H;obtain⟨p5,q5,hx5⟩:=bx a0 qX;go_wp2_with (go_at_call 198;refine mA (fQ.calls A7.out) ?_;intro nd;(try exact dq))
      repeat(go_quiet ((go_at_call 198;refine mA (fQ.calls A7.out) ?_;intro nd;(try exact dq)));try go_wp2_with (go_at_call 198;refine mA (fQ.calls A7.out) ?_;intro nd;(try exact dq)))
      go_roundg k1
      case measure=>exact kl
      case rel=>exact⟨_,rs,H',⟨kl⟩,dn⟩
    ·replace H:=sq H;rcases H with⟨nI,rP,H⟩|⟨c10,nI,rP,H⟩
     ·have sJ:=eq_true (of_decide_eq_true (by assumption):0≤qX);replace H:=AY H;obtain⟨xX,D9,H⟩:=H;obtain⟨U0,IY⟩:∃j_:Int,(wrap64 (qX+1))=j_:=⟨_,rfl⟩
      replace H:(if 0≤(U0)then(if(U0)≤(a0.size:Int)then(some (a0.extract 0 (qX:Int).toNat,a0.extract ((U0):Int).toNat a0.size,true))else(none))else(none))=some (r1,r2,r3):=by first|(rw[IY]at H;exact H)|(simp only[IY]at H⊢;exact H)
      have anO:(IntKind.i64.wrap (qX+1))=U0:=(iP _).trans IY;replace H:=AY H;obtain⟨sK,xY,H⟩:=H;replace H:=AY H;obtain⟨vX,F6,H⟩:=H;obtain⟨rfl,rfl,rfl⟩:=s3 H;obtain⟨p5,q5,hx5⟩:=bx a0 qX;obtain⟨p9,q9,hx9⟩:=bx a0 qX;go_wp2;repeat(go_quiet (fail);try go_wp2)
      go_ret3;exact⟨by first|rfl|(simp;done)|(simp only[←IY]<;>(first|rfl|simp))|(simp[*];done),dn⟩
     ·have H':=ak H;clear H;obtain⟨p5,q5,hx5⟩:=bx a0 qX;obtain⟨p9,q9,hx9⟩:=bx a0 qX;go_wp2;repeat(go_quiet (fail);try go_wp2)
      go_roundg k1
      case measure=>exact kl
      case rel=>exact⟨_,rs,H',⟨kl⟩,dn⟩
   ·obtain⟨rfl,rfl,rfl⟩:=s3 H;go_wp2;repeat(go_quiet (fail);try go_wp2)
    go_ret3;exact⟨rs,dn⟩
def jg.l0:Nat→Int→Int→Option (Bool)
 |0,_,_=>none
 |k+1,x0,x3=>if x3<19 then(if 0≤x3 then(if x0=(bt (⟨#[33,35,36,37,38,39,42,43,45,47,61,63,94,95,96,123,124,125,126]⟩:ByteArray) x3)then(some true)else(jg.l0 k x0 (wrap64 (x3+1))))else(none))else((fV.f x0).bind fun auj=>(some auj))
def jg.f (k:Nat) (a0:Int):Option (Bool):=jg.l0 k a0 0
theorem jg.calls {k:Nat} {a0:Int} {r:Bool} {w:World} (h:jg.f k a0=some r):
  Calls Tryz.prog 199 #[.int .u8 a0] w fun e w'=>e= .returned (.bool r)∧dM w w':=by
 unfold jg.f at h;have H:=h;clear h;have H':=ak H;clear H;go_enter Tryz.func199,Tryz.ntmps199;go_wp2;go_loopg [3] k (fun kq v3 w'=>∃(dR:Int),v3= .int .i64 dR∧ah (jg.l0 kq a0 dR=some r)∧ah (kq≤k)∧dM w w')
 case atStart=>exact⟨_,rs,H',⟨Nat.le_refl _⟩,dn⟩
 case round=>
  clear H';obtain⟨dR,rfl,HA,yH,⟨m1,rfl⟩⟩:=hrel
  cases gk with
  |zero=>exact zz HA.out
  |succ k1=>
   obtain⟨H⟩:=HA;simp only[jg.l0]at H;replace H:=sd H;rcases H with⟨nY,H⟩|⟨nY,H⟩
   ·replace H:=nS H;obtain⟨iH,H⟩:=H;replace H:=sq H;rcases H with⟨mQ,Ko,H⟩|⟨c5,mQ,Ko,H⟩
    ·obtain rfl:=s1 H;have p4:=zi dR;have q4:=zj dR 19;have hx4:=vZ (⟨#[33,35,36,37,38,39,42,43,45,47,61,63,94,95,96,123,124,125,126]⟩:ByteArray) dR;replace p4:=eq_true p4;replace q4:=eq_true q4;go_wp2;go_ret;exact⟨rs,dn⟩
    ·have H':=ak H;clear H;have p4:=zi dR;have q4:=zj dR 19;have hx4:=vZ (⟨#[33,35,36,37,38,39,42,43,45,47,61,63,94,95,96,123,124,125,126]⟩:ByteArray) dR;replace p4:=eq_true p4;replace q4:=eq_true q4;go_wp2;go_roundg k1
     case measure=>exact kl
     case rel=>exact⟨_,rs,H',⟨kl⟩,dn⟩
   ·replace H:=bd H;obtain⟨auj,A6,H⟩:=H;obtain rfl:=s1 H;go_wp2_with (refine gA Tryz.func183 (fV.calls A6.out) ?_;intro nd)
    go_ret;exact⟨rs,dn⟩
mutual
def fA.l0:Nat→ByteArray→List ByteArray→Int→Option (List ByteArray×Bool)
 |0,_,_,_=>none
 |k+1,x0,x4,x5=>if x5<(x0.size:Int)then(if 0≤x5 then(if(bt x0 x5)=32 then(fA.l0 k x0 x4 (wrap64 (x5+1)))else(if(bt x0 x5)=34 then((fQ.f k x0 x5).bind fun KN=>(if KN.2<0 then(some ((([]:List ByteArray)),false))else(if KN.2=x5 then(some ((([]:List ByteArray)),false))else(if KN.2<(x0.size:Int)then(if 0≤KN.2 then(if(bt x0 KN.2)=32 then(if x4.length<8796093022208 then(fA.l0 k x0 (x4++[KN.1]) KN.2)else(none))else(some ((([]:List ByteArray)),false)))else(none))else(if x4.length<8796093022208 then(fA.l0 k x0 (x4++[KN.1]) KN.2)else(none))))))else(fA.l1 k x0 x4 x5 x5)))else(none))else(some (x4,true))
def fA.l1:Nat→ByteArray→List ByteArray→Int→Int→Option (List ByteArray×Bool)
 |0,_,_,_,_=>none
 |k+1,x0,x4,x5,x6=>if x5<(x0.size:Int)then(if 0≤x5 then((jg.f k (bt x0 x5)).bind fun auk=>(if auk=true then(fA.l1 k x0 x4 (wrap64 (x5+1)) x6)else(if 0≤x6 then(if x6≤x5 then(if x5≤(x0.size:Int)then(if x5=x6 then(some ((([]:List ByteArray)),false))else(if(bt x0 x5)=32 then(if x4.length<8796093022208 then(fA.l0 k x0 (x4++[x0.extract (x6:Int).toNat (x5:Int).toNat]) x5)else(none))else(some ((([]:List ByteArray)),false))))else(none))else(none))else(none))))else(none))else(if 0≤x6 then(if x6≤x5 then(if x5≤(x0.size:Int)then(if x5=x6 then(some ((([]:List ByteArray)),false))else(if x4.length<8796093022208 then(fA.l0 k x0 (x4++[x0.extract (x6:Int).toNat (x5:Int).toNat]) x5)else(none)))else(none))else(none))else(none))
end
def fA.f (k:Nat) (a0:ByteArray):Option (List ByteArray×Bool):=fA.l0 k a0 (([]:List ByteArray)) 0
theorem fA.calls {k:Nat} {a0:ByteArray} {r1:List ByteArray} {r2:Bool} {w:World} (h:fA.f k a0=some (r1,r2)):
  Calls Tryz.prog 181 #[.string a0] w fun e w'=>∃oD:Value,e= .returned (.tuple #[oD, .bool r2])∧Kd.R Kd.string 9 w' w.heap.size (fun _=>True) oD r1∧Below w.heap.size w w':=by
 have HB:=ak (Below.refl w.heap.size w);unfold fA.f at h;have H:=h;clear h;obtain⟨aHA,alf⟩:=nm ([]:List ByteArray);rw[←alf.out]at H;have H':=ak H;clear H;go_enter Tryz.func181,Tryz.ntmps181;go_wp2_with (refine gG 8 ?_;refine Hy 8 Kd.string 9 alf ?_;intro aHB w2 ho3 hb;have aul:=ak (Kd.aA ho3 (aj (ul HB.out)));replace HB:=bs HB hb;clear hb ho3)
 go_loopg [4,5] k (fun kq v4 v5 w'=>∃(eu:List ByteArray) (dK:Int),v5= .int .i64 dK∧ah (fA.l0 kq a0 eu dK=some (r1,r2))∧ah (kq≤k)∧ah (Kd.R Kd.string 9 w' w.heap.size (fun _=>True) v4 eu)∧ah (Below w.heap.size w w'))
 case atStart=>exact⟨_,_,rs,H',⟨Nat.le_refl _⟩,⟨ur aul.out⟩,⟨ul HB.out⟩⟩
 case round=>
  clear H';obtain⟨eu,dK,rfl,HA,yH,fP,HB⟩:=hrel
  cases gk with
  |zero=>exact zz HA.out
  |succ k1=>
   obtain⟨H⟩:=HA;simp only[fA.l0]at H;replace H:=sd H;rcases H with⟨qW,H⟩|⟨qW,H⟩
   ·replace H:=nS H;obtain⟨mQ,H⟩:=H;replace H:=sq H;rcases H with⟨qO,Jl,H⟩|⟨c7,qO,Jl,H⟩
    ·have H':=ak H;clear H;obtain⟨p6,q6,hx6⟩:=bx a0 dK;go_wp2;go_roundg k1
     case measure=>exact kl
     case rel=>exact⟨_,_,rs,H',⟨kl⟩,⟨ur fP.out⟩,⟨ul HB.out⟩⟩
    ·replace H:=sq H;rcases H with⟨yI,Gh,H⟩|⟨c9,yI,Gh,H⟩
     ·replace H:=bd H;obtain⟨⟨aum,ac7⟩,Ym,H⟩:=H
      (try dsimp only at H);replace H:=sd H;rcases H with⟨sJ,H⟩|⟨sJ,H⟩
      ·obtain⟨aHC,alg⟩:=nm ([]:List ByteArray);rw[←alg.out]at H;obtain⟨rfl,rfl⟩:=s2 H;obtain⟨p6,q6,hx6⟩:=bx a0 dK;obtain⟨p8,q8,hx8⟩:=bx a0 dK;go_wp2_with (first|(refine gA Tryz.func198 (fQ.calls Ym.out) ?_;intro nd)|(refine gG 32 ?_;refine Hy 32 Kd.string 9 alg ?_;intro aHD w12 Vk hb;have aun:=ak (Kd.aA (Kd.eX Vk (Kd.jw (ur fP.out))) (aj (ul HB.out)));replace fP:=ak (Kd.bW (ur fP.out) (Kd.dw Vk) hb);replace HB:=bs HB hb;clear hb Vk))
       go_ret2;exact⟨_,er,ur (Kd.aQ aun.out (fun _ hk=>trivial)),ul HB.out⟩
      ·replace H:=sq H;rcases H with⟨sK,xY,H⟩|⟨c14,sK,xY,H⟩
       ·obtain⟨aHE,alh⟩:=nm ([]:List ByteArray);rw[←alh.out]at H;obtain⟨rfl,rfl⟩:=s2 H;obtain⟨p6,q6,hx6⟩:=bx a0 dK;obtain⟨p8,q8,hx8⟩:=bx a0 dK;go_wp2_with (first|(refine gA Tryz.func198 (fQ.calls Ym.out) ?_;intro nd)|(refine gG 64 ?_;refine Hy 64 Kd.string 9 alh ?_;intro aHF w15 aou hb;have auo:=ak (Kd.aA (Kd.eX aou (Kd.jw (ur fP.out))) (aj (ul HB.out)));replace fP:=ak (Kd.bW (ur fP.out) (Kd.dw aou) hb);replace HB:=bs HB hb;clear hb aou))
        go_ret2;exact⟨_,er,ur (Kd.aQ auo.out (fun _ hk=>trivial)),ul HB.out⟩
       ·replace H:=sd H;rcases H with⟨rQ,H⟩|⟨rQ,H⟩
        ·replace H:=nS H;obtain⟨vY,H⟩:=H;replace H:=sq H;rcases H with⟨Oo,Qq,H⟩|⟨c20,Oo,Qq,H⟩
         ·replace H:=nl H;obtain⟨Xl,H⟩:=H;obtain⟨aHG,ali⟩:=nm (eu++[aum]);rw[←ali.out]at H;have H':=ak H;clear H;obtain⟨p6,q6,hx6⟩:=bx a0 dK;obtain⟨p8,q8,hx8⟩:=bx a0 dK;go_wp2_with (first|(refine gA Tryz.func198 (fQ.calls Ym.out) ?_;intro nd;have p19:0≤(ac7:Int):=of_decide_eq_true (by assumption);have q19:ac7<(a0.size:Int):=of_decide_eq_true (by assumption);have aAv:=vZ a0 ac7;replace p19:=eq_true p19;replace q19:=eq_true q19)|((with_reducible refine dO (b:= .append) (xs:=#[.tmp 65, .tmp 67]) rfl ?_);(try(refine lu (by rfl) ?_;dsimp only));at_builtin;refine aP 65 67 Kd.string 23 9 (.string ⟨#[]⟩) 16 Tryz.underlying23 info9 HB (ur fP.out) ali (by have:=Xl.out;omega) ?_;intro aHH w22 ho hb hg hat;have aup:=ak (ho);replace HB:=ak (hb);clear ho hb hg hat fP))
          go_roundg k1
          case measure=>exact kl
          case rel=>exact⟨_,_,rs,H',⟨kl⟩,⟨ur aup.out⟩,⟨ul HB.out⟩⟩
         ·obtain⟨aHI,alj⟩:=nm ([]:List ByteArray);rw[←alj.out]at H;obtain⟨rfl,rfl⟩:=s2 H;obtain⟨p6,q6,hx6⟩:=bx a0 dK;obtain⟨p8,q8,hx8⟩:=bx a0 dK;go_wp2_with (first|(refine gA Tryz.func198 (fQ.calls Ym.out) ?_;intro nd;have p19:0≤(ac7:Int):=of_decide_eq_true (by assumption);have q19:ac7<(a0.size:Int):=of_decide_eq_true (by assumption);have aAv:=vZ a0 ac7;replace p19:=eq_true p19;replace q19:=eq_true q19)|(refine gG 64 ?_;refine Hy 64 Kd.string 9 alj ?_;intro aHJ w23 U_ hb;have auq:=ak (Kd.aA (Kd.eX U_ (Kd.jw (ur fP.out))) (aj (ul HB.out)));replace fP:=ak (Kd.bW (ur fP.out) (Kd.dw U_) hb);replace HB:=bs HB hb;clear hb U_))
          go_ret2;exact⟨_,er,ur (Kd.aQ auq.out (fun _ hk=>trivial)),ul HB.out⟩
        ·replace H:=nl H;obtain⟨Qn,H⟩:=H;obtain⟨aHK,alk⟩:=nm (eu++[aum]);rw[←alk.out]at H;have H':=ak H;clear H;obtain⟨p6,q6,hx6⟩:=bx a0 dK;obtain⟨p8,q8,hx8⟩:=bx a0 dK;go_wp2_with (first|(refine gA Tryz.func198 (fQ.calls Ym.out) ?_;intro nd)|((with_reducible refine dO (b:= .append) (xs:=#[.tmp 65, .tmp 67]) rfl ?_);(try(refine lu (by rfl) ?_;dsimp only));at_builtin;refine aP 65 67 Kd.string 23 9 (.string ⟨#[]⟩) 16 Tryz.underlying23 info9 HB (ur fP.out) alk (by have:=Qn.out;omega) ?_;intro aHL w26 ho hb hg hat;have aur:=ak (ho);replace HB:=ak (hb);clear ho hb hg hat fP))
         go_roundg k1
         case measure=>exact kl
         case rel=>exact⟨_,_,rs,H',⟨kl⟩,⟨ur aur.out⟩,⟨ul HB.out⟩⟩
     ·have H':=ak H;clear H;obtain⟨p6,q6,hx6⟩:=bx a0 dK;obtain⟨p8,q8,hx8⟩:=bx a0 dK;go_wp2;go_loopg [5] k1 (fun kq v5 w'=>∃(sD:Int),v5= .int .i64 sD∧ah (fA.l1 kq a0 eu sD dK=some (r1,r2))∧ah (kq≤k1)∧ah (Kd.R Kd.string 9 w' w.heap.size (fun _=>True) u4 eu)∧ah (Below w.heap.size w w'))
      case atStart=>exact⟨_,rs,H',⟨Nat.le_refl _⟩,⟨ur fP.out⟩,⟨ul HB.out⟩⟩
      case round=>
       clear H';try clear qW
       try clear mQ
       try clear p6
       try clear q6
       try clear hx6
       try clear c7
       try clear qO
       try clear Jl
       try clear p8
       try clear q8
       try clear hx8
       try clear c9
       try clear yI
       try clear Gh
       try clear p6
       try clear p8
       try clear q6
       try clear q8
       obtain⟨sD,rfl,HA,HK2,fP,HB⟩:=hrel
       cases gk with
       |zero=>exact zz HA.out
       |succ k2=>
        obtain⟨H⟩:=HA;simp only[fA.l1]at H;replace H:=sd H;rcases H with⟨Gi,H⟩|⟨Gi,H⟩
        ·replace H:=nS H;obtain⟨Gj,H⟩:=H;replace H:=bd H;obtain⟨auk,A30,H⟩:=H;replace H:=sb H;rcases H with⟨rfl,H⟩|⟨rfl,H⟩
         ·have H':=ak H;clear H;obtain⟨p29,q29,hx29⟩:=bx a0 sD;go_wp2_with (go_at_call 199;refine mA (jg.calls A30.out) ?_;intro nd)
          go_roundg k2
          case measure=>exact kl
          case rel=>exact⟨_,rs,H',⟨kl⟩,⟨ur fP.out⟩,⟨ul HB.out⟩⟩
         ·replace H:=AY H;obtain⟨Xc,aeS,H⟩:=H;replace H:=AY H;obtain⟨TJ,aeI,H⟩:=H;replace H:=AY H;obtain⟨WY,WZ,H⟩:=H;replace H:=sq H;rcases H with⟨aeT,akx,H⟩|⟨c35,aeT,akx,H⟩
          ·obtain⟨aHM,alm⟩:=nm ([]:List ByteArray);rw[←alm.out]at H;obtain⟨rfl,rfl⟩:=s2 H;obtain⟨p29,q29,hx29⟩:=bx a0 sD;go_wp2_with (first|(go_at_call 199;refine mA (jg.calls A30.out) ?_;intro nd)|(refine gG 64 ?_;refine Hy 64 Kd.string 9 alm ?_;intro aHN w36 aov hb;have aus:=ak (Kd.aA (Kd.eX aov (Kd.jw (ur fP.out))) (aj (ul HB.out)));replace fP:=ak (Kd.bW (ur fP.out) (Kd.dw aov) hb);replace HB:=bs HB hb;clear hb aov))
           go_ret2;exact⟨_,er,ur (Kd.aQ aus.out (fun _ hk=>trivial)),ul HB.out⟩
          ·replace H:=sq H;rcases H with⟨aut,auu,H⟩|⟨c39,aut,auu,H⟩
           ·replace H:=nl H;obtain⟨W9,H⟩:=H;obtain⟨aHO,aln⟩:=nm (eu++[a0.extract (dK:Int).toNat (sD:Int).toNat]);rw[←aln.out]at H;have H':=ak H;clear H;obtain⟨p29,q29,hx29⟩:=bx a0 sD;go_wp2_with (first|(go_at_call 199;refine mA (jg.calls A30.out) ?_;intro nd;have p38:0≤(sD:Int):=of_decide_eq_true (by assumption);have q38:sD<(a0.size:Int):=of_decide_eq_true (by assumption);have hx38:=vZ a0 sD;replace p38:=eq_true p38;replace q38:=eq_true q38)|((with_reducible refine dO (b:= .append) (xs:=#[.tmp 65, .tmp 67]) rfl ?_);(try(refine lu (by rfl) ?_;dsimp only));at_builtin;refine aP 65 67 Kd.string 23 9 (.string ⟨#[]⟩) 16 Tryz.underlying23 info9 HB (ur fP.out) aln (by have:=W9.out;omega) ?_;intro aHP w41 ho hb hg hat;have auv:=ak (ho);replace HB:=ak (hb);clear ho hb hg hat fP))
            go_roundg k2
            case measure=>exact kl
            case rel=>exact⟨_,_,rs,H',⟨kl⟩,⟨ur auv.out⟩,⟨ul HB.out⟩⟩
           ·obtain⟨aHQ,alo⟩:=nm ([]:List ByteArray);rw[←alo.out]at H;obtain⟨rfl,rfl⟩:=s2 H;obtain⟨p29,q29,hx29⟩:=bx a0 sD;go_wp2_with (first|(go_at_call 199;refine mA (jg.calls A30.out) ?_;intro nd;have p38:0≤(sD:Int):=of_decide_eq_true (by assumption);have q38:sD<(a0.size:Int):=of_decide_eq_true (by assumption);have hx38:=vZ a0 sD;replace p38:=eq_true p38;replace q38:=eq_true q38)|(refine gG 64 ?_;refine Hy 64 Kd.string 9 alo ?_;intro aHR w42 SV hb;have auw:=ak (Kd.aA (Kd.eX SV (Kd.jw (ur fP.out))) (aj (ul HB.out)));replace fP:=ak (Kd.bW (ur fP.out) (Kd.dw SV) hb);replace HB:=bs HB hb;clear hb SV))
            go_ret2;exact⟨_,er,ur (Kd.aQ auw.out (fun _ hk=>trivial)),ul HB.out⟩
        ·replace H:=AY H;obtain⟨aDu,aDv,H⟩:=H;replace H:=AY H;obtain⟨aDw,aDx,H⟩:=H;replace H:=AY H;obtain⟨aDy,aDz,H⟩:=H;replace H:=sq H;rcases H with⟨auy,auz,H⟩|⟨c47,auy,auz,H⟩
         ·obtain⟨aHS,alp⟩:=nm ([]:List ByteArray);rw[←alp.out]at H;obtain⟨rfl,rfl⟩:=s2 H;go_wp2_with (refine gG 64 ?_;refine Hy 64 Kd.string 9 alp ?_;intro aHT w48 aow hb;have auA:=ak (Kd.aA (Kd.eX aow (Kd.jw (ur fP.out))) (aj (ul HB.out)));replace fP:=ak (Kd.bW (ur fP.out) (Kd.dw aow) hb);replace HB:=bs HB hb;clear hb aow)
          go_ret2;exact⟨_,er,ur (Kd.aQ auA.out (fun _ hk=>trivial)),ul HB.out⟩
         ·replace H:=nl H;obtain⟨auB,H⟩:=H;obtain⟨aHU,alq⟩:=nm (eu++[a0.extract (dK:Int).toNat (sD:Int).toNat]);rw[←alq.out]at H;have H':=ak H;clear H;go_wp2_with ((with_reducible refine dO (b:= .append) (xs:=#[.tmp 65, .tmp 67]) rfl ?_);(try(refine lu (by rfl) ?_;dsimp only));at_builtin;refine aP 65 67 Kd.string 23 9 (.string ⟨#[]⟩) 16 Tryz.underlying23 info9 HB (ur fP.out) alq (by have:=auB.out;omega) ?_;intro aHV w51 ho hb hg hat;have auC:=ak (ho);replace HB:=ak (hb);clear ho hb hg hat fP)
          go_roundg k2
          case measure=>exact kl
          case rel=>exact⟨_,_,rs,H',⟨kl⟩,⟨ur auC.out⟩,⟨ul HB.out⟩⟩
   ·obtain⟨rfl,rfl⟩:=s2 H;go_wp2;go_ret2;exact⟨_,er,ur fP.out,ul HB.out⟩
def kC.f (k:Nat) (a0:ByteArray):Option (Bool):=(bM.f k a0).bind fun auD=>(if auD=true then((ig.f a0).bind fun auE=>(some (auE.toList==a0.toList)))else(some false))
theorem kC.calls {k:Nat} {a0:ByteArray} {r:Bool} {w:World} (h:kC.f k a0=some r):
  Calls Tryz.prog 200 #[.string a0] w fun e w'=>e= .returned (.bool r)∧Below w.heap.size w w':=by
 have HB:=ak (Below.refl w.heap.size w);unfold kC.f at h;have H:=h;clear h;replace H:=bd H;obtain⟨auD,A2,H⟩:=H;replace H:=sb H;rcases H with⟨rfl,H⟩|⟨rfl,H⟩
 ·replace H:=bd H;obtain⟨auE,A4,H⟩:=H;obtain rfl:=s1 H;go_enter Tryz.func200,Tryz.ntmps200;go_wp2_with (first|(refine gA Tryz.func184 (bM.calls A2.out) ?_;intro nd)|(go_at_call 180;refine mB (ig.calls A4.out) ?_;intro w5 hb;replace HB:=bs HB hb;clear hb))
  go_ret;exact⟨er,ul HB.out⟩
 ·obtain rfl:=s1 H;go_enter Tryz.func200,Tryz.ntmps200;go_wp2_with (refine gA Tryz.func184 (bM.calls A2.out) ?_;intro nd)
  go_ret;exact⟨er,ul HB.out⟩
def qY.f (k:Nat) (a0:ByteArray):Option (Bool):=(aN.f k a0).bind fun auF=>(if auF=true then(some (decide ((a0.size:Int)≤40)))else(some false))
theorem qY.calls {k:Nat} {a0:ByteArray} {r:Bool} {w:World} (h:qY.f k a0=some r):
  Calls Tryz.prog 201 #[.string a0] w fun e w'=>e= .returned (.bool r)∧dM w w':=by
 unfold qY.f at h;have H:=h;clear h;replace H:=bd H;obtain⟨auF,A2,H⟩:=H;replace H:=sb H;rcases H with⟨rfl,H⟩|⟨rfl,H⟩
 ·obtain rfl:=s1 H;go_enter Tryz.func201,Tryz.ntmps201;go_wp2_with (refine gA Tryz.func159 (aN.calls A2.out) ?_;intro nd)
  go_ret;exact⟨rs,dn⟩
 ·obtain rfl:=s1 H;go_enter Tryz.func201,Tryz.ntmps201;go_wp2_with (refine gA Tryz.func159 (aN.calls A2.out) ?_;intro nd)
  go_ret;exact⟨rs,dn⟩
mutual
def dW.l0:Nat→ByteArray→Int→Option (Bool)
 |0,_,_=>none
 |k+1,x0,x3=>if x3<(x0.size:Int)then(dW.j1 k x0 x3 (decide (x3≤40)))else(dW.j1 k x0 x3 false)
def dW.j1:Nat→ByteArray→Int→Bool→Option (Bool)
 |0,_,_,_=>none
 |k+1,x0,x3,x11=>if x11=true then(if 0≤x3 then(if x3<(x0.size:Int)then((jg.f k (bt x0 x3)).bind fun auG=>(if auG=true then(dW.l0 k x0 (wrap64 (x3+1)))else(some false)))else(none))else(none))else(if(x0.size:Int)≥1 then(some (decide ((x0.size:Int)≤40)))else(some false))
end
def dW.f (k:Nat) (a0:ByteArray):Option (Bool):=dW.l0 k a0 0
theorem dW.calls {k:Nat} {a0:ByteArray} {r:Bool} {w:World} (h:dW.f k a0=some r):
  Calls Tryz.prog 214 #[.string a0] w fun e w'=>e= .returned (.bool r)∧dM w w':=by
 unfold dW.f at h;have H:=h;clear h;have H':=ak H;clear H;go_enter Tryz.func214,Tryz.ntmps214;go_wp2;go_loopg [3] k (fun kq v3 w'=>∃(dR:Int),v3= .int .i64 dR∧ah (dW.l0 kq a0 dR=some r)∧ah (kq≤k)∧dM w w')
 case atStart=>exact⟨_,rs,H',⟨Nat.le_refl _⟩,dn⟩
 case round=>
  clear H';obtain⟨dR,rfl,HA,yH,⟨m1,rfl⟩⟩:=hrel
  cases gk with
  |zero=>exact zz HA.out
  |succ k1=>
   obtain⟨H⟩:=HA;simp only[dW.l0]at H;have HC2:=ak H;clear H;go_upto_region 2 with(fail)
   go_cut [11] (fun v11 wc=>∃(kq:Nat) (uK:Bool),v11= .bool uK∧ah (dW.j1 kq a0 dR uK=some r)∧ah (kq≤k1)∧dM w wc)
   case first=>
    have H:=HC2.out;clear HC2;replace H:=sd H;rcases H with⟨iH,H⟩|⟨iH,H⟩
    ·(first|rw[iH]|(simp only[iP,jZ];rw[iH])|skip);have H':=ak H;clear H;go_wp2;go_meet
     case rel=>exact⟨_,_,rs,H',⟨kl⟩,dn⟩
    ·(first|rw[iH]|(simp only[iP,jZ];rw[iH])|skip);have H':=ak H;clear H;go_wp2;go_meet
     case rel=>exact⟨_,_,rs,H',⟨kl⟩,dn⟩
   case rest=>
    clear HC2;obtain⟨kq,uK,rfl,HA,HJ1,⟨mc1,rfl⟩⟩:=hcut
    cases kq with
    |zero=>exact zz HA.out
    |succ O5=>
     obtain⟨H⟩:=HA;simp only[dW.j1]at H;replace H:=sb H;rcases H with⟨rfl,H⟩|⟨rfl,H⟩
     ·replace H:=nS H;obtain⟨mQ,H⟩:=H;replace H:=nS H;obtain⟨nG,H⟩:=H;replace H:=bd H;obtain⟨auG,A8,H⟩:=H;replace H:=sb H;rcases H with⟨rfl,H⟩|⟨rfl,H⟩
      ·have H':=ak H;clear H;obtain⟨p7,q7,hx7⟩:=bx a0 dR;go_wp2_with (refine gA Tryz.func199 (jg.calls A8.out) ?_;intro nd)
       go_roundg O5
       case measure=>exact kl
       case rel=>exact⟨_,rs,H',⟨kl⟩,dn⟩
      ·obtain rfl:=s1 H;obtain⟨p7,q7,hx7⟩:=bx a0 dR;go_wp2_with (refine gA Tryz.func199 (jg.calls A8.out) ?_;intro nd)
       go_ret;exact⟨rs,dn⟩
     ·replace H:=sp H;rcases H with⟨c10,H⟩|⟨c10,H⟩
      ·have nI:decide (1≤(a0.size:Int))=true:=decide_eq_true c10;have rP:decide (1≤a0.size)=true:=decide_eq_true (by omega);clear c10;obtain rfl:=s1 H;go_wp2;go_ret;exact⟨rs,dn⟩
      ·have nI:decide (1≤(a0.size:Int))=false:=decide_eq_false c10;have rP:decide (1≤a0.size)=false:=decide_eq_false (by omega);clear c10;obtain rfl:=s1 H;go_wp2;go_ret;exact⟨rs,dn⟩
def jS.l0:Nat→ByteArray→ByteArray→Int→Option (ByteArray)
 |0,_,_,_=>none
 |k+1,x0,x3,x4=>if x4<(x0.size:Int)then(if 0≤x4 then(if(bt x0 x4)=34 then((some (([92]:List Int):List Int)).bind fun Vl=>(if x3.size+(strOfNums Vl).size≤9223372036854775807 then(if x4≤(wrap64 (x4+1))then(if(wrap64 (x4+1))≤(x0.size:Int)then(if(x3++(strOfNums Vl)).size+(x0.extract (x4:Int).toNat ((wrap64 (x4+1)):Int).toNat).size≤9223372036854775807 then(jS.l0 k x0 ((x3++(strOfNums Vl))++(x0.extract (x4:Int).toNat ((wrap64 (x4+1)):Int).toNat)) (wrap64 (x4+1)))else(none))else(none))else(none))else(none)))else(if(bt x0 x4)=92 then((some (([92]:List Int):List Int)).bind fun Vm=>(if x3.size+(strOfNums Vm).size≤9223372036854775807 then(if x4≤(wrap64 (x4+1))then(if(wrap64 (x4+1))≤(x0.size:Int)then(if(x3++(strOfNums Vm)).size+(x0.extract (x4:Int).toNat ((wrap64 (x4+1)):Int).toNat).size≤9223372036854775807 then(jS.l0 k x0 ((x3++(strOfNums Vm))++(x0.extract (x4:Int).toNat ((wrap64 (x4+1)):Int).toNat)) (wrap64 (x4+1)))else(none))else(none))else(none))else(none)))else(if x4≤(wrap64 (x4+1))then(if(wrap64 (x4+1))≤(x0.size:Int)then(if x3.size+(x0.extract (x4:Int).toNat ((wrap64 (x4+1)):Int).toNat).size≤9223372036854775807 then(jS.l0 k x0 (x3++(x0.extract (x4:Int).toNat ((wrap64 (x4+1)):Int).toNat)) (wrap64 (x4+1)))else(none))else(none))else(none))))else(none))else(if x3.size+1≤9223372036854775807 then(some (x3++(⟨#[34]⟩:ByteArray)))else(none))
def jS.f (k:Nat) (a0:ByteArray):Option (ByteArray):=jS.l0 k a0 (⟨#[34]⟩:ByteArray) 0
theorem jS.calls {k:Nat} {a0 r:ByteArray} {w:World} (h:jS.f k a0=some r):
  Calls Tryz.prog 215 #[.string a0] w fun e w'=>e= .returned (.string r)∧Below w.heap.size w w':=by
 have HB:=ak (Below.refl w.heap.size w);unfold jS.f at h;have H:=h;clear h;have H':=ak H;clear H;go_enter Tryz.func215,Tryz.ntmps215;go_wp2;go_loopg [3,4] k (fun kq v3 v4 w'=>∃(dR:ByteArray) (eu:Int),v3= .string dR∧v4= .int .i64 eu∧ah (jS.l0 kq a0 dR eu=some r)∧ah (kq≤k)∧ah (Below w.heap.size w w'))
 case atStart=>exact⟨_,_,rs,rs,H',⟨Nat.le_refl _⟩,⟨ul HB.out⟩⟩
 case round=>
  clear H';obtain⟨dR,eu,rfl,rfl,HA,yH,HB⟩:=hrel
  cases gk with
  |zero=>exact zz HA.out
  |succ k1=>
   obtain⟨H⟩:=HA;simp only[jS.l0]at H;replace H:=sd H;rcases H with⟨nY,H⟩|⟨nY,H⟩
   ·replace H:=nS H;obtain⟨iH,H⟩:=H;replace H:=sq H;rcases H with⟨mQ,Ko,H⟩|⟨c5,mQ,Ko,H⟩
    ·replace H:=ny H;obtain⟨Vl,auH,H⟩:=H;replace H:=nn H;obtain⟨c6,H⟩:=H;have nG:=eq_true c6;have xW:=decide_eq_true c6;try have aiL:(9223372036854775807<dR.size+(strOfNums Vl).size)=False:=eq_false (Nat.not_lt.2 c6)
     have qO:=eq_true (of_decide_eq_true (by assumption):0≤eu);replace H:=nn H;obtain⟨c8,H⟩:=H;have tK:=eq_true c8;have FH:=decide_eq_true c8;replace H:=nn H;obtain⟨c9,H⟩:=H;have yI:=eq_true c9;have Gh:=decide_eq_true c9;replace H:=nn H;obtain⟨c10,H⟩:=H;have nI:=eq_true c10;have rP:=decide_eq_true c10;try have auI:(9223372036854775807<dR.size+(strOfNums Vl).size+((a0.extract (eu:Int).toNat ((wrap64 (eu+1)):Int).toNat).size))=False:=by have h_:=c10;simp only[ByteArray.size_append,ByteArray.size_extract]at h_;refine eq_false ?_;simp only[decide_eq_true_eq]at*;omega
     try have akG:(9223372036854775807<dR.size+(strOfNums Vl).size+((a0.extract (eu:Int).toNat ((wrap64 (eu+1)):Int).toNat).size))=False:=by have h_:=(eq_false (Nat.not_lt.2 c10):(9223372036854775807<(dR++(strOfNums Vl)).size+(a0.extract (eu:Int).toNat ((wrap64 (eu+1)):Int).toNat).size)=False);simp only[ByteArray.size_append]at h_;exact h_
     try have Xd:(9223372036854775807<(dR++(strOfNums Vl)).size+(a0.extract (eu:Int).toNat ((wrap64 (eu+1)):Int).toNat).size)=False:=eq_false (Nat.not_lt.2 c10)
     have H':=ak H;clear H;obtain⟨p4,q4,hx4⟩:=bx a0 eu;go_wp2_with (refine SH 22 (Kd.int .u8) 5 [.int .u8 92] auH (cO.one (show Kd.M (Kd.int .u8) _ _ _ 92 [.int .u8 92]from rfl) (cO.none _ _)) ?_;intro aHW WI aeE hb;have auJ:=ak (Kd.aA aeE (aj (ul HB.out)));replace HB:=bs HB hb;clear hb aeE;have aDA:=qE (P:=Tryz.prog) Tryz.underlying22 Tryz.underlying5 Tryz.underlying9 (Kd.uQ auJ.out))
     go_roundg k1
     case measure=>exact kl
     case rel=>exact⟨_,_,rs,rs,H',⟨kl⟩,⟨ul HB.out⟩⟩
    ·replace H:=sq H;rcases H with⟨vX,F6,H⟩|⟨c15,vX,F6,H⟩
     ·replace H:=ny H;obtain⟨Vm,auK,H⟩:=H;replace H:=nn H;obtain⟨c16,H⟩:=H;have AA:=eq_true c16;have J4:=decide_eq_true c16;try have aDB:(9223372036854775807<dR.size+(strOfNums Vm).size)=False:=eq_false (Nat.not_lt.2 c16)
      have rQ:=eq_true (of_decide_eq_true (by assumption):0≤eu);replace H:=nn H;obtain⟨c18,H⟩:=H;have vY:=eq_true c18;have JY:=decide_eq_true c18;replace H:=nn H;obtain⟨c19,H⟩:=H;have AB:=eq_true c19;have Ea:=decide_eq_true c19;replace H:=nn H;obtain⟨c20,H⟩:=H;have Oo:=eq_true c20;have Qq:=decide_eq_true c20;try have aDC:(9223372036854775807<dR.size+(strOfNums Vm).size+((a0.extract (eu:Int).toNat ((wrap64 (eu+1)):Int).toNat).size))=False:=by have h_:=c20;simp only[ByteArray.size_append,ByteArray.size_extract]at h_;refine eq_false ?_;simp only[decide_eq_true_eq]at*;omega
      try have aDD:(9223372036854775807<dR.size+(strOfNums Vm).size+((a0.extract (eu:Int).toNat ((wrap64 (eu+1)):Int).toNat).size))=False:=by have h_:=(eq_false (Nat.not_lt.2 c20):(9223372036854775807<(dR++(strOfNums Vm)).size+(a0.extract (eu:Int).toNat ((wrap64 (eu+1)):Int).toNat).size)=False);simp only[ByteArray.size_append]at h_;exact h_
      try have aDE:(9223372036854775807<(dR++(strOfNums Vm)).size+(a0.extract (eu:Int).toNat ((wrap64 (eu+1)):Int).toNat).size)=False:=eq_false (Nat.not_lt.2 c20)
      have H':=ak H;clear H;obtain⟨p4,q4,hx4⟩:=bx a0 eu;obtain⟨p14,q14,anP⟩:=bx a0 eu;go_wp2_with (refine SH 22 (Kd.int .u8) 5 [.int .u8 92] auK (cO.one (show Kd.M (Kd.int .u8) _ _ _ 92 [.int .u8 92]from rfl) (cO.none _ _)) ?_;intro aHX w21 auL hb;have auM:=ak (Kd.aA auL (aj (ul HB.out)));replace HB:=bs HB hb;clear hb auL;have aDF:=qE (P:=Tryz.prog) Tryz.underlying22 Tryz.underlying5 Tryz.underlying9 (Kd.uQ auM.out))
      go_roundg k1
      case measure=>exact kl
      case rel=>exact⟨_,_,rs,rs,H',⟨kl⟩,⟨ul HB.out⟩⟩
     ·have Ot:=eq_true (of_decide_eq_true (by assumption):0≤eu);replace H:=nn H;obtain⟨c25,H⟩:=H;have Qs:=eq_true c25;have afx:=decide_eq_true c25;replace H:=nn H;obtain⟨c26,H⟩:=H;have OB:=eq_true c26;have aaH:=decide_eq_true c26;replace H:=nn H;obtain⟨c27,H⟩:=H;have Gi:=eq_true c27;have aaC:=decide_eq_true c27;try have aDG:(9223372036854775807<dR.size+((a0.extract (eu:Int).toNat ((wrap64 (eu+1)):Int).toNat).size))=False:=by have h_:=c27;simp only[ByteArray.size_append,ByteArray.size_extract]at h_;refine eq_false ?_;simp only[decide_eq_true_eq]at*;omega
      try have aDH:(9223372036854775807<dR.size+(a0.extract (eu:Int).toNat ((wrap64 (eu+1)):Int).toNat).size)=False:=eq_false (Nat.not_lt.2 c27)
      have H':=ak H;clear H;obtain⟨p4,q4,hx4⟩:=bx a0 eu;obtain⟨p14,q14,anP⟩:=bx a0 eu;go_wp2;go_roundg k1
      case measure=>exact kl
      case rel=>exact⟨_,_,rs,rs,H',⟨kl⟩,⟨ul HB.out⟩⟩
   ·replace H:=nn H;obtain⟨c28,H⟩:=H;have Gj:=eq_true c28;have aaI:=decide_eq_true c28;try have aDI:(9223372036854775807<dR.size+1)=False:=eq_false (Nat.not_lt.2 c28)
    obtain rfl:=s1 H;go_wp2;go_ret;exact⟨er,ul HB.out⟩
def qF.f (k:Nat) (a0:ByteArray):Option (ByteArray):=(aN.f k a0).bind fun auN=>(if auN=true then((dW.f k a0).bind fun auO=>(if auO=true then(some a0)else((jS.f k a0).bind fun auP=>(some auP))))else(some (⟨#[]⟩:ByteArray)))
theorem qF.calls {k:Nat} {a0 r:ByteArray} {w:World} (h:qF.f k a0=some r):
  Calls Tryz.prog 202 #[.string a0] w fun e w'=>e= .returned (.string r)∧Below w.heap.size w w':=by
 have HB:=ak (Below.refl w.heap.size w);unfold qF.f at h;have H:=h;clear h;replace H:=bd H;obtain⟨auN,A2,H⟩:=H;replace H:=sb H;rcases H with⟨rfl,H⟩|⟨rfl,H⟩
 ·replace H:=bd H;obtain⟨auO,A4,H⟩:=H;replace H:=sb H;rcases H with⟨rfl,H⟩|⟨rfl,H⟩
  ·obtain rfl:=s1 H;go_enter Tryz.func202,Tryz.ntmps202;go_wp2_with (first|(refine gA Tryz.func159 (aN.calls A2.out) ?_;intro nd)|(refine gA Tryz.func214 (dW.calls A4.out) ?_;intro nd))
   go_ret;exact⟨er,ul HB.out⟩
  ·replace H:=bd H;obtain⟨auP,A6,H⟩:=H;obtain rfl:=s1 H;go_enter Tryz.func202,Tryz.ntmps202;go_wp2_with (first|(refine gA Tryz.func159 (aN.calls A2.out) ?_;intro nd)|(refine gA Tryz.func214 (dW.calls A4.out) ?_;intro nd)|(refine gB Tryz.func215 (jS.calls A6.out) ?_;intro w7 hb;replace HB:=bs HB hb;clear hb))
   go_ret;exact⟨er,ul HB.out⟩
 ·obtain rfl:=s1 H;go_enter Tryz.func202,Tryz.ntmps202;go_wp2_with (refine gA Tryz.func159 (aN.calls A2.out) ?_;intro nd)
  go_ret;exact⟨er,ul HB.out⟩
mutual
def bZ.j0:Nat→Bool→ByteArray→ByteArray→List (gK)→Option (Bool)
 |0,_,_,_,_=>none
 |k+1,x21,P6,P7,yt=>if x21=true then(some false)else(bZ.l0 k (wrap64 ((wrap64 ((P6.size:Int)+(P7.size:Int)))+1)) 0 P6 P7 yt)
def bZ.l0:Nat→Int→Int→ByteArray→ByteArray→List (gK)→Option (Bool)
 |0,_,_,_,_,_=>none
 |k+1,x3,x4,P6,P7,yt=>if x4<(yt.length:Int)then(if 0≤x4 then((kC.f k ((eU yt x4).f0)).bind fun auQ=>(if auQ=true then((qY.f k ((eU yt x4).f1)).bind fun auR=>(if auR=true then(if x4≤(yt.length:Int)then((jE.f k (yt.take (x4:Int).toNat) ((eU yt x4).f0)).bind fun aiR=>(if aiR≥0 then(some false)else((qF.f k ((eU yt x4).f1)).bind fun auS=>(bZ.l0 k (wrap64 ((wrap64 ((wrap64 (x3+3))+(((eU yt x4).f0).size:Int)))+(auS.size:Int))) (wrap64 (x4+1)) P6 P7 yt))))else(none))else(some false)))else(some false)))else(none))else(some (decide (x3≤150)))
end
def bZ.f (k:Nat) (dX:ByteArray) (eF:ByteArray) (aG:List (gK)):Option (Bool):=(kC.f k dX).bind fun auT=>(if auT=true then((kC.f k eF).bind fun auU=>(if auU=true then(bZ.j0 k (decide ((aG.length:Int)>4)) dX eF aG)else(bZ.j0 k true dX eF aG)))else(bZ.j0 k true dX eF aG))
theorem bZ.calls {k fK:Nat} {dX eF:ByteArray} {iL:Option Addr} {aG:List (gK)} {r:Bool} {w:World} (kT:Kd.C qy w iL aG.length aG) (kU:aG.length≤fK) (h:bZ.f k dX eF aG=some r):
  Calls Tryz.prog 182 #[.agg #[.string dX, .string eF, .slice iL aG.length fK]] w fun e w'=>e= .returned (.bool r)∧Below w.heap.size w w':=by
 have U1:=Tryz.underlying61;have EC:=Tryz.underlying69;have jB:=ak kT;have mM:=ak kU;clear kT kU;have HB:=ak (Below.refl w.heap.size w);unfold bZ.f at h;have H:=h;clear h;have HC2:=ak H;clear H;go_enter Tryz.func182,Tryz.ntmps182;go_upto_region 1 with(refine gG 1 ?_;refine bX HB 1 #[.string dX, .string eF, .slice iL aG.length fK] 61 ?_;intro OJ w3 iD aDJ hb;replace HB:=bs HB hb;clear hb)
 (try simp only[Act.put,Aq,Ar,l_c]);go_cut [21] (fun v21 wc=>∃(kq:Nat) (afI:Bool),v21= .bool afI∧ah (bZ.j0 kq afI dX eF aG=some r)∧ah (kq≤k)∧ah (wc.heap[OJ]? =some (.cells #[.string dX, .string eF,(.slice iL aG.length fK)] 61 (0,0)))∧ah (Below w.heap.size w wc))
 case first=>
  have H:=HC2.out;clear HC2;replace H:=bd H;obtain⟨auT,A4,H⟩:=H;replace H:=sb H;rcases H with⟨rfl,H⟩|⟨rfl,H⟩
  ·replace H:=bd H;obtain⟨auU,A6,H⟩:=H;replace H:=sb H;rcases H with⟨rfl,H⟩|⟨rfl,H⟩
   ·have H':=ak H;clear H;have z8:=kF iD.out;go_wp2_with (first|(refine gB Tryz.func200 (kC.calls A4.out) ?_;intro w9 hb;replace iD:=kb iD hb;replace HB:=bz HB hb;clear hb;have z10:=kF iD.out)|(go_at_call 200;refine mB (kC.calls A6.out) ?_;intro WI hb;replace iD:=kb iD hb;replace HB:=bz HB hb;clear hb;have z12:=kF iD.out))
    go_meet
    case rel=>exact⟨_,_,rs,H',⟨Jp⟩,⟨ub iD.out⟩,⟨bb⟩⟩
   ·have H':=ak H;clear H;have z13:=kF iD.out;go_wp2_with (first|(refine gB Tryz.func200 (kC.calls A4.out) ?_;intro UE hb;replace iD:=kb iD hb;replace HB:=bz HB hb;clear hb;have z15:=kF iD.out)|(go_at_call 200;refine mB (kC.calls A6.out) ?_;intro w16 hb;replace iD:=kb iD hb;replace HB:=bz HB hb;clear hb))
    go_meet
    case rel=>exact⟨_,_,rs,H',⟨Jp⟩,⟨ub iD.out⟩,⟨bb⟩⟩
  ·have H':=ak H;clear H;have z17:=kF iD.out;go_wp2_with (refine gB Tryz.func200 (kC.calls A4.out) ?_;intro w18 hb;replace iD:=kb iD hb;replace HB:=bz HB hb;clear hb)
   go_meet
   case rel=>exact⟨_,_,rs,H',⟨Jp⟩,⟨ub iD.out⟩,⟨bb⟩⟩
 case rest=>
  clear HC2;obtain⟨kq,afI,rfl,HA,HJ1,iD,HB⟩:=hcut
  cases kq with
  |zero=>exact zz HA.out
  |succ O5=>
   obtain⟨H⟩:=HA;simp only[bZ.j0]at H;replace H:=sb H;rcases H with⟨rfl,H⟩|⟨rfl,H⟩
   ·obtain rfl:=s1 H;go_wp2;go_ret;exact⟨er,bb⟩
   ·have H':=ak H;clear H;have z20:=kF iD.out;go_wp2;go_loopg [3,4] O5 (fun kq v3 v4 w'=>∃(kW:Int) (nZ:Int),v3= .int .i64 kW∧v4= .int .i64 nZ∧ah (bZ.l0 kq kW nZ dX eF aG=some r)∧ah (kq≤O5)∧ah (w'.heap[OJ]? =some (.cells #[.string dX, .string eF,(.slice iL aG.length fK)] 61 (0,0)))∧ah (Below w.heap.size w w'))
    case atStart=>exact⟨_,_,rs,rs,H',⟨Nat.le_refl _⟩,⟨ub iD.out⟩,⟨bb⟩⟩
    case round=>
     clear H';obtain⟨kW,nZ,rfl,rfl,HA,HK2,iD,HB⟩:=hrel
     cases gk with
     |zero=>exact zz HA.out
     |succ k2=>
      obtain⟨H⟩:=HA;simp only[bZ.l0]at H;replace H:=sd H;rcases H with⟨Fb,H⟩|⟨Fb,H⟩
      ·replace H:=nS H;obtain⟨FZ,H⟩:=H;replace H:=bd H;obtain⟨auQ,A23,H⟩:=H;replace H:=sb H;rcases H with⟨rfl,H⟩|⟨rfl,H⟩
       ·replace H:=bd H;obtain⟨auR,A25,H⟩:=H;replace H:=sb H;rcases H with⟨rfl,H⟩|⟨rfl,H⟩
        ·have Gi:=eq_true (of_decide_eq_true (by assumption):0≤nZ);replace H:=AY H;obtain⟨Gj,aaI,H⟩:=H;obtain⟨aiS,Xq⟩:=nm (aG.take (nZ:Int).toNat);rw[←Xq.out]at H;replace H:=bd H;obtain⟨aiR,A29,H⟩:=H;replace H:=sp H;rcases H with⟨c30,H⟩|⟨c30,H⟩
         ·have aaE:decide (0≤aiR)=true:=decide_eq_true c30;clear c30;obtain rfl:=s1 H;have z31:=kF iD.out;have Js:=zi nZ;have Jt:=zj nZ aG.length;obtain⟨KO,Y7,yu,yw⟩:=qN jB.out nZ Js Jt;cases Y7;replace yu:=cl HB.out yu;replace yw:=cl HB.out yw;replace Js:=eq_true Js;replace Jt:=eq_true Jt;try go_wp2_with (refine gG 5 ?_;refine bY HB 5 #[.string (⟨#[]⟩:ByteArray), .string (⟨#[]⟩:ByteArray)] 69 ?_;intro Ec w32 mD QT hg hb;have rW:=CP iD hg;have yT:=CQ iD hg;replace iD:=kb iD hb;replace HB:=bz HB hb;clear hb hg;have at1:=yT.out;have at6:=rW.out;have z34:=AL mD.out)
          refine ab2 HB mD QT ?_;intro w35 BJ hk HB;replace iD:=kf iD hk rW;clear hk mD;have mD:=BJ;clear BJ;refine rO [2,7,17] [0,1,2,3,4,5,6,7,8,9,10,11,13,15,12,14,16,17,18,19] (fun w'=>w'.cell? ⟨Ec,0,none⟩=some (.string ((eU aG nZ).f0))∧w'.cell? ⟨Ec,1,none⟩=some (.string ((eU aG nZ).f1))∧w'.cell? ⟨OJ,0,none⟩=some (.string dX)∧w'.cell? ⟨OJ,1,none⟩=some (.string eF)∧w'.cell? ⟨OJ,2,none⟩=some (.slice (some KO) aG.length fK)) ?_;intro w36 hb;replace iD:=kb iD hb;replace mD:=kb mD hb;replace HB:=bs HB hb;refine⟨sx,?_⟩;repeat refine Ad ?_
          refine rB Tryz.func200 (kC.calls A23.out) ?_;intro w37 hb;replace iD:=kb iD hb;replace mD:=kb mD hb;replace HB:=bz HB hb;clear hb;refine⟨sx,?_⟩;repeat refine Ad ?_
          refine rA Tryz.func201 (qY.calls A25.out) ?_;intro nd;have q38:(nZ:Int)≤((aG.length:Int):Int):=of_decide_eq_true (by assumption);obtain⟨aHY,alr,_,auV,_⟩:=info_parts DT;have aa7:aG.length≤fK:=mM.out;have auW:Kd.C qy _ (some KO) aG.length aG:=jB.out;have aox:=U4 (P:=Tryz.prog) 25 69 .i64 Tryz.underlying25 alr (some KO) aG.length fK nZ (of_decide_eq_true (by assumption)) q38 aa7;have aoy:=Kd.U5 (m:=(nZ:Int).toNat) auW (by omega);have hy38:aiS.length=(nZ:Int).toNat:=(by rw[Xq.out,List.length_take];omega)
          rw[←Xq.out]at aoy;rw[←hy38]at aox;have afJ:=ak aoy;have afK:=ak (show aiS.length≤fK from by omega);clear aoy auW aa7 alr auV;have aHZ:=ak hy38;clear hy38;replace q38:=eq_true q38;refine⟨sx,?_⟩;repeat refine Ad ?_
          refine rB Tryz.func177 (jE.calls (cu (Kd.aX afJ.out bb)) afK.out A29.out) ?_;intro w39 hb;replace iD:=kb iD hb;replace mD:=kb mD hb;replace HB:=bz HB hb;clear hb;refine⟨sx,?_⟩;repeat refine Ad ?_
          refine on ?_;try go_wp2
          go_ret;exact⟨er,bb⟩
         ·have aaE:decide (0≤aiR)=false:=decide_eq_false c30;clear c30;replace H:=bd H;obtain⟨auS,A40,H⟩:=H;have H':=ak H;clear H;have ah_:=kF iD.out;have Js:=zi nZ;have Jt:=zj nZ aG.length;obtain⟨KO,Y7,yu,yw⟩:=qN jB.out nZ Js Jt;cases Y7;replace yu:=cl HB.out yu;replace yw:=cl HB.out yw;replace Js:=eq_true Js;replace Jt:=eq_true Jt;try go_wp2_with (refine gG 5 ?_;refine bY HB 5 #[.string (⟨#[]⟩:ByteArray), .string (⟨#[]⟩:ByteArray)] 69 ?_;intro Ec w42 mD QT hg hb;have rW:=CP iD hg;have yT:=CQ iD hg;replace iD:=kb iD hb;replace HB:=bz HB hb;clear hb hg;have aDK:=yT.out;have aDL:=rW.out;have aAw:=AL mD.out)
          refine ab2 HB mD QT ?_;intro w45 BJ hk HB;replace iD:=kf iD hk rW;clear hk mD;have mD:=BJ;clear BJ;refine rO [2,7,17] [0,1,2,3,4,5,6,7,8,9,10,11,13,15,12,14,16,17,18,19] (fun w'=>w'.cell? ⟨Ec,0,none⟩=some (.string ((eU aG nZ).f0))∧w'.cell? ⟨Ec,1,none⟩=some (.string ((eU aG nZ).f1))∧w'.cell? ⟨OJ,0,none⟩=some (.string dX)∧w'.cell? ⟨OJ,1,none⟩=some (.string eF)∧w'.cell? ⟨OJ,2,none⟩=some (.slice (some KO) aG.length fK)) ?_;intro w46 hb;replace iD:=kb iD hb;replace mD:=kb mD hb;replace HB:=bs HB hb;refine⟨sx,?_⟩;repeat refine Ad ?_
          refine rB Tryz.func200 (kC.calls A23.out) ?_;intro w47 hb;replace iD:=kb iD hb;replace mD:=kb mD hb;replace HB:=bz HB hb;clear hb;refine⟨sx,?_⟩;repeat refine Ad ?_
          refine rA Tryz.func201 (qY.calls A25.out) ?_;intro nd;have q48:(nZ:Int)≤((aG.length:Int):Int):=of_decide_eq_true (by assumption);obtain⟨aH0,als,_,auX,_⟩:=info_parts DT;have aa8:aG.length≤fK:=mM.out;have auY:Kd.C qy _ (some KO) aG.length aG:=jB.out;have aoz:=U4 (P:=Tryz.prog) 25 69 .i64 Tryz.underlying25 als (some KO) aG.length fK nZ (of_decide_eq_true (by assumption)) q48 aa8;have aoA:=Kd.U5 (m:=(nZ:Int).toNat) auY (by omega);have aoB:aiS.length=(nZ:Int).toNat:=(by rw[Xq.out,List.length_take];omega)
          rw[←Xq.out]at aoA;rw[←aoB]at aoz;have afJ:=ak aoA;have afK:=ak (show aiS.length≤fK from by omega);clear aoA auY aa8 als auX;have aH1:=ak aoB;clear aoB;replace q48:=eq_true q48;refine⟨sx,?_⟩;repeat refine Ad ?_
          refine rB Tryz.func177 (jE.calls (cu (Kd.aX afJ.out bb)) afK.out A29.out) ?_;intro w49 hb;replace iD:=kb iD hb;replace mD:=kb mD hb;replace HB:=bz HB hb;clear hb;refine⟨sx,?_⟩;repeat refine Ad ?_
          refine on ?_;try go_wp2
          refine rO [8] [0,1,2,6,3,4,5,7,8,9,10,11] (fun w'=>w'.cell? ⟨Ec,0,none⟩=some (.string ((eU aG nZ).f0))∧w'.cell? ⟨Ec,1,none⟩=some (.string ((eU aG nZ).f1))) ?_;intro w50 hb;replace iD:=kb iD hb;replace mD:=kb mD hb;replace HB:=bs HB hb;refine⟨sx,?_⟩;repeat refine Ad ?_
          refine rB Tryz.func202 (qF.calls A40.out) ?_;intro w51 hb;replace iD:=kb iD hb;replace mD:=kb mD hb;replace HB:=bz HB hb;clear hb;refine⟨sx,?_⟩;repeat refine Ad ?_
          refine on ?_;try go_wp2
          go_roundg k2
          case measure=>exact kl
          case rel=>exact⟨_,_,rs,rs,H',⟨kl⟩,⟨ub iD.out⟩,⟨bb⟩⟩
        ·obtain rfl:=s1 H;have z52:=kF iD.out;have Js:=zi nZ;have Jt:=zj nZ aG.length;obtain⟨KO,Y7,yu,yw⟩:=qN jB.out nZ Js Jt;cases Y7;replace yu:=cl HB.out yu;replace yw:=cl HB.out yw;replace Js:=eq_true Js;replace Jt:=eq_true Jt;try go_wp2_with (refine gG 5 ?_;refine bY HB 5 #[.string (⟨#[]⟩:ByteArray), .string (⟨#[]⟩:ByteArray)] 69 ?_;intro Ec w53 mD QT hg hb;have rW:=CP iD hg;have yT:=CQ iD hg;replace iD:=kb iD hb;replace HB:=bz HB hb;clear hb hg;have auZ:=yT.out;have au0:=rW.out;have z55:=AL mD.out)
         refine ab2 HB mD QT ?_;intro w56 BJ hk HB;replace iD:=kf iD hk rW;clear hk mD;have mD:=BJ;clear BJ;refine rO [2,7] [0,1,2,3,4,5,6,7,8,9,10,11,12,13,14,15,16,17,18,19] (fun w'=>w'.cell? ⟨Ec,0,none⟩=some (.string ((eU aG nZ).f0))∧w'.cell? ⟨Ec,1,none⟩=some (.string ((eU aG nZ).f1))) ?_;intro w57 hb;replace iD:=kb iD hb;replace mD:=kb mD hb;replace HB:=bs HB hb;refine⟨sx,?_⟩;repeat(first|refine Ad ?_|refine U3 ?_)
         refine rB Tryz.func200 (kC.calls A23.out) ?_;intro w58 hb;replace iD:=kb iD hb;replace mD:=kb mD hb;replace HB:=bz HB hb;clear hb;refine⟨sx,?_⟩;repeat(first|refine Ad ?_|refine U3 ?_)
         refine rA Tryz.func201 (qY.calls A25.out) ?_;intro nd;refine⟨sx,?_⟩;repeat(first|refine Ad ?_|refine U3 ?_)
         refine on ?_;try go_wp2
         go_ret;exact⟨er,bb⟩
       ·obtain rfl:=s1 H;have z59:=kF iD.out;have Js:=zi nZ;have Jt:=zj nZ aG.length;obtain⟨KO,Y7,yu,yw⟩:=qN jB.out nZ Js Jt;cases Y7;replace yu:=cl HB.out yu;replace yw:=cl HB.out yw;replace Js:=eq_true Js;replace Jt:=eq_true Jt;try go_wp2_with (refine gG 5 ?_;refine bY HB 5 #[.string (⟨#[]⟩:ByteArray), .string (⟨#[]⟩:ByteArray)] 69 ?_;intro Ec TP mD QT hg hb;have rW:=CP iD hg;have yT:=CQ iD hg;replace iD:=kb iD hb;replace HB:=bz HB hb;clear hb hg;have aDM:=yT.out;have aDN:=rW.out;have z62:=AL mD.out)
        refine ab2 HB mD QT ?_;intro w63 BJ hk HB;replace iD:=kf iD hk rW;clear hk mD;have mD:=BJ;clear BJ;refine rO [2] [0,1,2,3,4,5,6,7,8,9,10,11,12,13,14,15,16,17,18,19] (fun w'=>w'.cell? ⟨Ec,0,none⟩=some (.string ((eU aG nZ).f0))∧w'.cell? ⟨Ec,1,none⟩=some (.string ((eU aG nZ).f1))) ?_;intro w64 hb;replace iD:=kb iD hb;replace mD:=kb mD hb;replace HB:=bs HB hb;refine⟨sx,?_⟩;repeat(first|refine Ad ?_|refine U3 ?_)
        refine rB Tryz.func200 (kC.calls A23.out) ?_;intro w65 hb;replace iD:=kb iD hb;replace mD:=kb mD hb;replace HB:=bz HB hb;clear hb;refine⟨sx,?_⟩;repeat(first|refine Ad ?_|refine U3 ?_)
        refine on ?_;try go_wp2
        go_ret;exact⟨er,bb⟩
      ·obtain rfl:=s1 H;have z66:=kF iD.out;go_wp2;go_ret;exact⟨er,bb⟩
mutual
def bf.l0:Nat→ByteArray→Bool→Bool→ByteArray→ByteArray→List (gK)→Option (ByteArray×ByteArray×(List (gK))×Bool)
 |0,_,_,_,_,_,_=>none
 |k+1,x5,x6,x9,EK,EL,Dk=>if x6=true then((jd.f k x5 59).bind fun QU=>((bI.f k QU.1).bind fun au1=>((jd.f k au1 61).bind fun Xr=>((bI.f k Xr.2.1).bind fun au2=>((fA.f k au2).bind fun Xt=>(if Xr.2.2=true then(if Xt.2=true then(bf.j1 k QU.2.1 QU.2.2 x9 Xr.1 Xt.1 ((Xt.1.length:Int) !=1) EK EL Dk)else(bf.j1 k QU.2.1 QU.2.2 x9 Xr.1 Xt.1 true EK EL Dk))else(bf.j1 k QU.2.1 QU.2.2 x9 Xr.1 Xt.1 true EK EL Dk)))))))else(if x9=true then((bZ.f k EK EL Dk).bind fun au3=>(if au3=true then(some (EK,EL,Dk,true))else(some ((⟨#[]⟩:ByteArray),(⟨#[]⟩:ByteArray),([]:List (gK)),false))))else(some ((⟨#[]⟩:ByteArray),(⟨#[]⟩:ByteArray),([]:List (gK)),false)))
def bf.j1:Nat→ByteArray→Bool→Bool→ByteArray→List ByteArray→Bool→ByteArray→ByteArray→List (gK)→Option (ByteArray×ByteArray×(List (gK))×Bool)
 |0,_,_,_,_,_,_,_,_,_=>none
 |k+1,x5,x6,x9,x12,x15,x69,EK,EL,Dk=>if x69=true then(some ((⟨#[]⟩:ByteArray),(⟨#[]⟩:ByteArray),([]:List (gK)),false))else((bI.f k x12).bind fun aoC=>((ig.f aoC).bind fun ac8=>(if 0<(x15.length:Int)then(if Dk.length<4398046511104 then(bf.l0 k x5 x6 x9 EK EL (Dk++[(⟨ac8,mW ByteArray.empty x15 0⟩:gK)]))else(none))else(none))))
end
def bf.f (k:Nat) (a0:ByteArray):Option (ByteArray×ByteArray×(List (gK))×Bool):=(aN.f k a0).bind fun au4=>(if au4=true then((jd.f k a0 59).bind fun afL=>((bI.f k afL.1).bind fun au5=>((jd.f k au5 47).bind fun afM=>((ig.f afM.1).bind fun Vo=>((ig.f afM.2.1).bind fun Vp=>(bf.l0 k afL.2.1 afL.2.2 afM.2.2 Vo Vp ([]:List (gK))))))))else(some ((⟨#[]⟩:ByteArray),(⟨#[]⟩:ByteArray),([]:List (gK)),false)))
def bf.T13:Bool×List (List Nat×List Nat):=(true,[([],[]),([0],[0]),([],[]),([2],[2]),([3,3],[3]),([],[]),([5],[5]),([6],[6]),([4,7],[4,7]),([8],[8]),([1,9,4],[1,9]),([0,1,2,3,4,5,6,7,8,9,10],[]),([11,10,10,0,1,2,3,4,5,6,7,8,9,10],[10,11])])
def bf.B13:List Nat:=[0,1,0,4,12,0,32,96,252,508,1023,2047,4095]
theorem bf.ae0:wG .any (opsOf Tryz.f155 13)=bf.T13:=by kernel_rfl
theorem bf.YN:uy bf.T13.2 bf.B13=true:=by kernel_rfl
theorem bf.calls {k:Nat} {a0 r1 r2:ByteArray} {r3:List (gK)} {r4:Bool} {w:World} (h:bf.f k a0=some (r1,r2,r3,r4)):
  Calls Tryz.prog 155 #[.string a0] w fun e w'=>∃FU:Value,e= .returned (.tuple #[.agg #[.string r1, .string r2,FU], .bool r4])∧Kd.R qy 69 w' w.heap.size (fun _=>True) FU r3∧Below w.heap.size w w':=by
 have U1:=Tryz.underlying61;have EC:=Tryz.underlying69;have HB:=ak (Below.refl w.heap.size w);unfold bf.f at h;have H:=h;clear h;replace H:=bd H;obtain⟨au4,A2,H⟩:=H;replace H:=sb H;rcases H with⟨rfl,H⟩|⟨rfl,H⟩
 ·replace H:=bd H;obtain⟨⟨aH2,aH3,aH4⟩,A4,H⟩:=H
  (try dsimp only at H);replace H:=bd H;obtain⟨au5,A5,H⟩:=H;replace H:=bd H;obtain⟨⟨aH5,aH6,au6⟩,A6,H⟩:=H
  (try dsimp only at H);replace H:=bd H;obtain⟨Vo,A7,H⟩:=H;replace H:=bd H;obtain⟨Vp,A8,H⟩:=H;have H':=ak H;clear H;go_enter Tryz.func155,Tryz.ntmps155;go_wp2_with (first|(refine gG 2 ?_;refine bX HB 2 #[.string (⟨#[]⟩:ByteArray), .string (⟨#[]⟩:ByteArray), .slice none 0 0] 61 ?_;intro KP w9 lX au7 hb;replace HB:=bs HB hb;clear hb)|(refine gD Tryz.func159 (aN.calls A2.out) ?_;intro w9 hb;replace lX:=kb lX hb;replace HB:=bz HB hb;clear hb)|(refine gD Tryz.func178 (jd.calls A4.out) ?_;intro w9 hb;replace lX:=kb lX hb;replace HB:=bz HB hb;clear hb)|(refine gD Tryz.func179 (bI.calls A5.out) ?_;intro w9 hb;replace lX:=kb lX hb;replace HB:=bz HB hb;clear hb)|(refine gD Tryz.func178 (jd.calls A6.out) ?_;intro w9 hb;replace lX:=kb lX hb;replace HB:=bz HB hb;clear hb)|(refine gB Tryz.func180 (ig.calls A7.out) ?_;intro w10 hb;replace lX:=kb lX hb;replace HB:=bz HB hb;clear hb)|(refine gB Tryz.func180 (ig.calls A8.out) ?_;intro WI hb;replace lX:=kb lX hb;replace HB:=bz HB hb;clear hb)|(refine gG 10 ?_;refine bY HB 10 #[.string (⟨#[]⟩:ByteArray), .string (⟨#[]⟩:ByteArray), .slice none 0 0] 61 ?_;intro QV w12 nU aDO hg hb;have Bo:=CP lX hg;have Bq:=CQ lX hg;replace lX:=kb lX hb;replace HB:=bz HB hb;clear hb hg;have akd:=Bq.out;have ake:=Bo.out;have z14:=kF nU.out))
  go_loopg [5,6] k (fun kq v5 v6 w'=>∃(dK:ByteArray) (gY:Bool) (H8:ByteArray) (H9:ByteArray) (xk:List (gK)) (Ba:Value),v5= .string dK∧v6= .bool gY∧ah (bf.l0 kq dK gY au6 Vo Vp xk=some (r1,r2,r3,r4))∧ah (kq≤k)∧ah (Kd.R qy 69 w' w.heap.size (fun _=>True) Ba xk)∧ah (w'.heap[KP]? =some (.cells #[.string H8, .string H9,(.slice none 0 0)] 61 (0,0)))∧ah (w'.heap[QV]? =some (.cells #[.string Vo, .string Vp,Ba] 61 (0,0)))∧ah (Below w.heap.size w w'))
  case atStart=>exact⟨_,_,_,_,_,_,rs,rs,H',⟨Nat.le_refl _⟩,⟨nx⟩,⟨bq⟩,⟨bq⟩,⟨bb⟩⟩
  case round=>
   clear H';obtain⟨dK,gY,H8,H9,xk,Ba,rfl,rfl,HA,yH,jo,lX,nU,HB⟩:=hrel
   cases gk with
   |zero=>exact zz HA.out
   |succ k1=>
    obtain⟨H⟩:=HA;simp only[bf.l0]at H;replace H:=sb H;rcases H with⟨rfl,H⟩|⟨rfl,H⟩
    ·replace H:=bd H;obtain⟨⟨aH7,aAx,aAy⟩,Y8,H⟩:=H
     (try dsimp only at H);replace H:=bd H;obtain⟨au1,A17,H⟩:=H;replace H:=bd H;obtain⟨⟨au8,aH8,aH9⟩,A18,H⟩:=H
     (try dsimp only at H);replace H:=bd H;obtain⟨au2,A19,H⟩:=H;replace H:=bd H;obtain⟨⟨SX,aH_⟩,A20,H⟩:=H
     (try dsimp only at H);have aoD:=ak H;clear H;go_upto_region 11 with(first|(refine gA Tryz.func178 (jd.calls Y8.out) ?_;intro nd)|(refine gA Tryz.func179 (bI.calls A17.out) ?_;intro nd)|(refine gA Tryz.func178 (jd.calls A18.out) ?_;intro nd)|(refine gA Tryz.func179 (bI.calls A19.out) ?_;intro nd)|(refine gV Tryz.func181 (fA.calls A20.out) ?_;rintro aAz w22 ⟨ho0,hb⟩;have aa9:=ak (Kd.aA ho0 (aj bb));replace jo:=rb jo hb;replace lX:=kb lX hb;replace nU:=kb nU hb;replace HB:=bz HB hb;clear hb;(try clear ho0)))
     (try simp only[Act.put,Aq,Ar,l_c]);go_cut [69] (fun v69 wc=>∃(kq:Nat) (Y9:Bool),v69= .bool Y9∧ah (bf.j1 kq aAx aAy au6 au8 SX Y9 Vo Vp xk=some (r1,r2,r3,r4))∧ah (kq≤k1)∧ah (Kd.R Kd.string 9 wc w.heap.size (fun _=>True) aAz SX)∧ah (Kd.R qy 69 wc w.heap.size (fun _=>True) Ba xk)∧ah (wc.heap[KP]? =some (.cells #[.string H8, .string H9,(.slice none 0 0)] 61 (0,0)))∧ah (wc.heap[QV]? =some (.cells #[.string Vo, .string Vp,Ba] 61 (0,0)))∧ah (Below w.heap.size w wc))
     case first=>
      have H:=aoD.out;clear aoD;replace H:=sb H;rcases H with⟨rfl,H⟩|⟨rfl,H⟩
      ·replace H:=sb H;rcases H with⟨rfl,H⟩|⟨rfl,H⟩
       ·have H':=ak H;clear H;obtain⟨au9,au_,afN⟩:=Kd.aI aa9.out;subst afN;go_wp2;go_meet
        case rel=>exact⟨_,_,rs,H',⟨kl⟩,⟨ur aa9.out⟩,⟨ur jo.out⟩,⟨ub lX.out⟩,⟨ub nU.out⟩,⟨bb⟩⟩
       ·have H':=ak H;clear H;go_wp2;go_meet
        case rel=>exact⟨_,_,rs,H',⟨kl⟩,⟨ur aa9.out⟩,⟨ur jo.out⟩,⟨ub lX.out⟩,⟨ub nU.out⟩,⟨bb⟩⟩
      ·have H':=ak H;clear H;go_wp2;go_meet
       case rel=>exact⟨_,_,rs,H',⟨kl⟩,⟨ur aa9.out⟩,⟨ur jo.out⟩,⟨ub lX.out⟩,⟨ub nU.out⟩,⟨bb⟩⟩
     case rest=>
      clear aoD;obtain⟨kq,Y9,rfl,HA,ava,I5,jo,lX,nU,HB⟩:=hcut
      cases kq with
      |zero=>exact zz HA.out
      |succ aAA=>
       obtain⟨H⟩:=HA;simp only[bf.j1]at H;replace H:=sb H;rcases H with⟨rfl,H⟩|⟨rfl,H⟩
       ·obtain⟨rfl,rfl,rfl,rfl⟩:=s4 H;have ajY:=Bo.out;have ajZ:=Bq.out;have ah1:=kF lX.out;go_wp2;refine bodyPost_ret (lq rfl _ _ KP 61 #[.string (⟨#[]⟩:ByteArray), .string (⟨#[]⟩:ByteArray), .slice none 0 0] (0,0) _ rfl bq Tryz.underlying61 rfl (by kernel_rfl)) rfl ?_;exact⟨_,er,nx,bb⟩
       ·replace H:=bd H;obtain⟨aoC,A29,H⟩:=H;replace H:=bd H;obtain⟨ac8,A30,H⟩:=H;replace H:=nn H;obtain⟨c31,H⟩:=H;have afO:=decide_eq_true c31;have afP:decide (0<SX.length)=true:=decide_eq_true (by omega);clear c31;replace H:=nl H;obtain⟨avb,H⟩:=H;obtain⟨aIa,alu⟩:=nm (xk++[(⟨ac8,mW ByteArray.empty SX 0⟩:gK)]);rw[←alu.out]at H;have H':=ak H;clear H;try go_wp2
        replace I5:=ak (Kd.lM I5.out);replace jo:=ak (Kd.lM jo.out);replace lX:=ak (jC lX.out);replace nU:=ak (jC nU.out);replace HB:=ak (iI HB.out);obtain⟨anf,ang,Yx⟩:=Kd.aI I5.out
        (first|subst Yx|(injection Yx with qI xI qJ;have xJ:=qI.symm;have xK:=qJ.symm;clear qI xI qJ;subst xJ;subst xK));have aoE:0≤(0:Int):=(by omega)
        have aoF:0<(SX.length:Int):=of_decide_eq_true (by assumption);obtain⟨avc,aAB,P8⟩:=Kd.iJ (Kd.ay I5.out).2.2 0 aoE aoF;cases aAB;have aDP:(0<SX.length)=True:=eq_true (by omega)
        (try rw[show((0:Int)).toNat=0 from rfl]at P8)
        (try rw[Addr.add_zero']at P8);replace aoE:=eq_true aoE;replace aoF:=eq_true aoF;refine DU (n:=13) (S:=fun w'=>w'.cell? ⟨QV,0,none⟩=some (.string Vo)∧w'.cell? ⟨QV,1,none⟩=some (.string Vp)∧w'.cell? ⟨QV,2,none⟩=some (Ba)∧w'.cell? avc=some (.string (mW ByteArray.empty SX 0))) (ds:=[10,12]) #[false,false,false,false,false,false,false,false,false,false,false,false,false] (by kernel_rfl) rfl rfl ⟨(aC nU.out 0).trans rfl,(aC nU.out 1).trans rfl,(aC nU.out 2).trans rfl,P8⟩ (fun hHeld=>?_);refine t_ bf.ae0 bf.YN (fun E5 HW_=>?_)
        generalize wc.drew=w33 at I5 jo lX nU HB P8 hHeld⊢
        refine pl 0 ?_;refine pl 2 ?_;refine pl 5 ?_;refine pl 6 ?_;refine tk 1 ?_;refine tk 7 ?_;refine o1 3 (fun K hK=>?_);refine zD Tryz.func179 (by kernel_rfl) rfl #[.string au8] (by rfl) rfl rfl ma ?_
        with_reducible refine(bI.calls A29.out).mono ?_
        rintro e w' ⟨rfl,⟨nd,rfl⟩⟩;refine⟨_,rfl,?_⟩;refine hK.out _ _ ⟨(aC nU.out 0).trans rfl,(aC nU.out 1).trans rfl,(aC nU.out 2).trans rfl,hHeld.2.2.2⟩ (fun hHeld=>?_);clear hK K;refine nrm ?_;refine o1 4 (fun K hK=>?_);refine zD Tryz.func180 (by kernel_rfl) rfl #[.string aoC] (by rfl) rfl rfl ma ?_
        with_reducible refine(ig.calls A30.out).mono ?_
        rintro e w35 ⟨rfl,hb⟩;have an4:=(hb.cell (World.block_lt_of_cell? _ _ (hHeld.2.2.2))).trans (hHeld.2.2.2);refine⟨_,rfl,?_⟩;replace I5:=rb I5 hb;replace jo:=rb jo hb;replace lX:=kb lX hb;replace nU:=kb nU hb;replace HB:=bz HB hb;try clear hb
        refine hK.out _ _ ⟨(aC nU.out 0).trans rfl,(aC nU.out 1).trans rfl,(aC nU.out 2).trans rfl,an4⟩ (fun hHeld=>?_);clear hK K;refine nrm ?_;refine pl 8 ?_;refine o1 9 (fun K hK=>?_);refine DV (w1:=?_) (v:=?_) (by rfl) rfl ?_ ?_
        rotate_left 2
        ·go_simp;constructor
         ·rfl
         ·rfl
        refine hK.out _ _ ⟨(aC (iW nU.out _) 0).trans rfl,(aC (iW nU.out _) 1).trans rfl,(aC (iW nU.out _) 2).trans rfl,(World.cell?_alloc_lt _ _ _ (World.block_lt_of_cell? _ _ (hHeld.2.2.2))).trans (hHeld.2.2.2)⟩ (fun hHeld=>?_);clear hK K;refine nrm ?_;refine IV (i:=10) (N:=some 81) #[true,true,true,true,true,true,true,true,true,true,true,false,false] rfl rfl (BG E5.out (by kernel_rfl)) (by decide) (fun K hK=>?_);refine Kd.nD qy (w0:=w) w.heap.size (by rfl) (.tmp 72) (.tmp 80) 25 69 (.agg #[(.string ⟨#[]⟩),(.string ⟨#[]⟩)]) 32 rfl Tryz.underlying25 DT rfl (by decide) (by omega) Ba xk (⟨ac8,mW ByteArray.empty SX 0⟩:gK) [.string ac8, .string (mW ByteArray.empty SX 0)] (fun _=>True) (fun _=>False) rfl rfl ?aP (fun _ hk=>hk.elim) ?aF ?aO ?aB ?aS ?aL ?_
        (case aP=>exact wL _ _ _ (⟨ac8,mW ByteArray.empty SX 0⟩:gK))
        (case aB=>exact bb)
        (case aF=>exact(fun _ _=>trivial))
        (case aO=>exact(ur jo.out))
        (case aS=>exact(aj bb))
        (case aL=>have:=avb.out;omega);intro aIb w36 ho hb hg hat
        rw[←alu.out]at ho;have zB:=ak (Kd.pX (ur I5.out) (Kd.kG (ur jo.out)) (by decide) hg);have zC:=ak (b_ (g:=KP) (o:= .cells #[.string H8, .string H9, .slice none 0 0] 61 (0,0)) (ub lX.out) hg (Kd.oH jo.out lX.out (by decide)));have Au:=ak (b_ (g:=QV) (o:= .cells #[.string Vo, .string Vp,Ba] 61 (0,0)) (ub nU.out) hg (Kd.oH jo.out nU.out (by decide)));have D7:=ak (hb);have IL:=ak (ho);clear I5 lX nU HB jo;have I5:=zB;have lX:=zC;have nU:=Au;have HB:=D7;have avd:=IL;clear zB zC Au D7 IL ho hb hg hat
        obtain⟨aiO,aiP,ac4⟩:=Kd.aI avd.out
        (first|subst ac4|(injection ac4 with qI xI qJ;have xJ:=qI.symm;have xK:=qJ.symm;clear qI xI qJ;subst xJ;subst xK));refine hK.out _ _ ?_;clear hK K;refine Fa (a':=?_) ?_ ?_
        rotate_left
        ·show Act.put _ (some 81) _=_
         simp only[Act.put,Aq,Ar,l_c,iP,jZ];rfl
        refine pl 11 ?_;refine IV (i:=12) (N:=none) #[true,true,true,true,true,true,true,true,true,true,true,true,true] rfl rfl (BG E5.out (by kernel_rfl)) (by decide) (fun K hK=>?_);have aIc:w36.cell? ⟨QV,2,none⟩=some (Ba):=(aC nU.out 2).trans rfl;have aDQ:=gy nU.out 2;have ayG:=Bo.out;have ayH:=Bq.out;refine IQ (w1:=?_) (by rfl) rfl ?_ ?_
        rotate_left
        ·go_simp;rfl
        refine hK.out _ _ ?_;clear hK K;refine IU (y9 E5.out (by kernel_rfl)) ?_;try go_wp2
        go_roundg aAA
        case measure=>have:=yH.out;have:=ava.out;omega
        case rel=>exact⟨_,_,_,_,_,_,rs,rs,H',⟨by have:=yH.out;have:=ava.out;omega⟩,⟨rr⟩,⟨bq⟩,⟨bq⟩,⟨bb⟩⟩
    ·replace H:=sb H;rcases H with⟨rfl,H⟩|⟨rfl,H⟩
     ·replace H:=bd H;obtain⟨au3,A40,H⟩:=H;replace H:=sb H;rcases H with⟨rfl,H⟩|⟨rfl,H⟩
      ·obtain⟨rfl,rfl,rfl,rfl⟩:=s4 H;have aDR:=Bq.out;have aDS:=Bo.out;have z43:=kF nU.out;obtain⟨afF,afG,ac5⟩:=Kd.aI jo.out;subst ac5;go_wp2_with (go_at_call 182;refine mB (bZ.calls (cu ((Kd.ay jo.out).2.2)) ((Kd.ay jo.out).2.1) A40.out) ?_;intro w45 hb;replace jo:=rb jo hb;replace lX:=kb lX hb;replace nU:=kb nU hb;replace HB:=bz HB hb;clear hb;have z46:=kF nU.out;have z47:=kF lX.out)
       refine bodyPost_ret (lq rfl _ _ KP 61 #[.string Vo, .string Vp, .slice afF xk.length afG] (0,0) _ rfl bq Tryz.underlying61 rfl (by kernel_rfl)) rfl ?_;exact⟨_,er,rr,bb⟩
      ·obtain⟨rfl,rfl,rfl,rfl⟩:=s4 H;have akJ:=Bq.out;have akK:=Bo.out;have z49:=kF nU.out;obtain⟨EM,EN,aoG⟩:=Kd.aI jo.out;subst aoG;go_wp2_with (go_at_call 182;refine mB (bZ.calls (cu ((Kd.ay jo.out).2.2)) ((Kd.ay jo.out).2.1) A40.out) ?_;intro w51 hb;replace jo:=rb jo hb;replace lX:=kb lX hb;replace nU:=kb nU hb;replace HB:=bz HB hb;clear hb;have z52:=kF lX.out)
       refine bodyPost_ret (lq rfl _ _ KP 61 #[.string (⟨#[]⟩:ByteArray), .string (⟨#[]⟩:ByteArray), .slice none 0 0] (0,0) _ rfl bq Tryz.underlying61 rfl (by kernel_rfl)) rfl ?_;exact⟨_,er,nx,bb⟩
     ·obtain⟨rfl,rfl,rfl,rfl⟩:=s4 H;have as2:=Bo.out;have as3:=Bq.out;have z54:=kF lX.out;go_wp2;refine bodyPost_ret (lq rfl _ _ KP 61 #[.string (⟨#[]⟩:ByteArray), .string (⟨#[]⟩:ByteArray), .slice none 0 0] (0,0) _ rfl bq Tryz.underlying61 rfl (by kernel_rfl)) rfl ?_;exact⟨_,er,nx,bb⟩
 ·obtain⟨rfl,rfl,rfl,rfl⟩:=s4 H;go_enter Tryz.func155,Tryz.ntmps155;go_wp2_with (first|(refine gG 2 ?_;refine bX HB 2 #[.string (⟨#[]⟩:ByteArray), .string (⟨#[]⟩:ByteArray), .slice none 0 0] 61 ?_;intro KP w55 lX au7 hb;replace HB:=bs HB hb;clear hb)|(refine gD Tryz.func159 (aN.calls A2.out) ?_;intro w55 hb;replace lX:=kb lX hb;replace HB:=bz HB hb;clear hb;have z56:=kF lX.out))
  refine bodyPost_ret (lq rfl _ _ KP 61 #[.string (⟨#[]⟩:ByteArray), .string (⟨#[]⟩:ByteArray), .slice none 0 0] (0,0) _ rfl bq Tryz.underlying61 rfl (by kernel_rfl)) rfl ?_;exact⟨_,er,nx,bb⟩
mutual
def bQ.l0:Nat→ByteArray→Int→Option (Bool)
 |0,_,_=>none
 |k+1,x0,x3=>if x3<(x0.size:Int)then(bQ.j1 k x0 x3 (decide (x3≤20)))else(bQ.j1 k x0 x3 false)
def bQ.j1:Nat→ByteArray→Int→Bool→Option (Bool)
 |0,_,_,_=>none
 |k+1,x0,x3,x11=>if x11=true then(if 0≤x3 then(if x3<(x0.size:Int)then((fV.f (bt x0 x3)).bind fun ave=>(if ave=true then(bQ.l0 k x0 (wrap64 (x3+1)))else(some false)))else(none))else(none))else(if(x0.size:Int)≥1 then(some (decide ((x0.size:Int)≤20)))else(some false))
end
def bQ.f (k:Nat) (a0:ByteArray):Option (Bool):=bQ.l0 k a0 0
theorem bQ.calls {k:Nat} {a0:ByteArray} {r:Bool} {w:World} (h:bQ.f k a0=some r):
  Calls Tryz.prog 157 #[.string a0] w fun e w'=>e= .returned (.bool r)∧dM w w':=by
 unfold bQ.f at h;have H:=h;clear h;have H':=ak H;clear H;go_enter Tryz.func157,Tryz.ntmps157;go_wp2;go_loopg [3] k (fun kq v3 w'=>∃(dR:Int),v3= .int .i64 dR∧ah (bQ.l0 kq a0 dR=some r)∧ah (kq≤k)∧dM w w')
 case atStart=>exact⟨_,rs,H',⟨Nat.le_refl _⟩,dn⟩
 case round=>
  clear H';obtain⟨dR,rfl,HA,yH,⟨m1,rfl⟩⟩:=hrel
  cases gk with
  |zero=>exact zz HA.out
  |succ k1=>
   obtain⟨H⟩:=HA;simp only[bQ.l0]at H;have HC2:=ak H;clear H;go_upto_region 2 with(fail)
   go_cut [11] (fun v11 wc=>∃(kq:Nat) (uK:Bool),v11= .bool uK∧ah (bQ.j1 kq a0 dR uK=some r)∧ah (kq≤k1)∧dM w wc)
   case first=>
    have H:=HC2.out;clear HC2;replace H:=sd H;rcases H with⟨iH,H⟩|⟨iH,H⟩
    ·(first|rw[iH]|(simp only[iP,jZ];rw[iH])|skip);have H':=ak H;clear H;go_wp2;go_meet
     case rel=>exact⟨_,_,rs,H',⟨kl⟩,dn⟩
    ·(first|rw[iH]|(simp only[iP,jZ];rw[iH])|skip);have H':=ak H;clear H;go_wp2;go_meet
     case rel=>exact⟨_,_,rs,H',⟨kl⟩,dn⟩
   case rest=>
    clear HC2;obtain⟨kq,uK,rfl,HA,HJ1,⟨mc1,rfl⟩⟩:=hcut
    cases kq with
    |zero=>exact zz HA.out
    |succ O5=>
     obtain⟨H⟩:=HA;simp only[bQ.j1]at H;replace H:=sb H;rcases H with⟨rfl,H⟩|⟨rfl,H⟩
     ·replace H:=nS H;obtain⟨mQ,H⟩:=H;replace H:=nS H;obtain⟨nG,H⟩:=H;replace H:=bd H;obtain⟨ave,A8,H⟩:=H;replace H:=sb H;rcases H with⟨rfl,H⟩|⟨rfl,H⟩
      ·have H':=ak H;clear H;obtain⟨p7,q7,hx7⟩:=bx a0 dR;go_wp2_with (refine gA Tryz.func183 (fV.calls A8.out) ?_;intro nd)
       go_roundg O5
       case measure=>exact kl
       case rel=>exact⟨_,rs,H',⟨kl⟩,dn⟩
      ·obtain rfl:=s1 H;obtain⟨p7,q7,hx7⟩:=bx a0 dR;go_wp2_with (refine gA Tryz.func183 (fV.calls A8.out) ?_;intro nd)
       go_ret;exact⟨rs,dn⟩
     ·replace H:=sp H;rcases H with⟨c10,H⟩|⟨c10,H⟩
      ·have nI:decide (1≤(a0.size:Int))=true:=decide_eq_true c10;have rP:decide (1≤a0.size)=true:=decide_eq_true (by omega);clear c10;obtain rfl:=s1 H;go_wp2;go_ret;exact⟨rs,dn⟩
      ·have nI:decide (1≤(a0.size:Int))=false:=decide_eq_false c10;have rP:decide (1≤a0.size)=false:=decide_eq_false (by omega);clear c10;obtain rfl:=s1 H;go_wp2;go_ret;exact⟨rs,dn⟩
def mJ.f (k:Nat) (dX:ByteArray) (eF:ByteArray) (aG:List (gK)):Option (ByteArray×Bool):=(jL.f k aG (⟨#[98,111,117,110,100,97,114,121]⟩:ByteArray)).bind fun afQ=>((bZ.f k dX eF aG).bind fun avf=>(if avf=true then(if dX.toList=([109,117,108,116,105,112,97,114,116]:List UInt8)then(if afQ.2=true then((bQ.f k afQ.1).bind fun avg=>(if avg=true then(some (afQ.1,true))else(some ((⟨#[]⟩:ByteArray),false))))else(some ((⟨#[]⟩:ByteArray),false)))else(some ((⟨#[]⟩:ByteArray),false)))else(some ((⟨#[]⟩:ByteArray),false))))
theorem mJ.calls {k fK:Nat} {dX eF r1:ByteArray} {iL:Option Addr} {aG:List (gK)} {r2:Bool} {w:World} (kT:Kd.C qy w iL aG.length aG) (kU:aG.length≤fK) (h:mJ.f k dX eF aG=some (r1,r2)):
  Calls Tryz.prog 156 #[.agg #[.string dX, .string eF, .slice iL aG.length fK]] w fun e w'=>e= .returned (.tuple #[.string r1, .bool r2])∧Below w.heap.size w w':=by
 have U1:=Tryz.underlying61;have jB:=ak kT;have mM:=ak kU;clear kT kU;have HB:=ak (Below.refl w.heap.size w);unfold mJ.f at h;have H:=h;clear h;replace H:=bd H;obtain⟨⟨aId,aIe⟩,A2,H⟩:=H
 (try dsimp only at H);replace H:=bd H;obtain⟨avf,A3,H⟩:=H;replace H:=sb H;rcases H with⟨rfl,H⟩|⟨rfl,H⟩
 ·replace H:=sq H;rcases H with⟨mQ,Ko,H⟩|⟨c5,mQ,Ko,H⟩
  ·replace H:=sb H;rcases H with⟨rfl,H⟩|⟨rfl,H⟩
   ·replace H:=bd H;obtain⟨avg,A7,H⟩:=H;replace H:=sb H;rcases H with⟨rfl,H⟩|⟨rfl,H⟩
    ·obtain⟨rfl,rfl⟩:=s2 H;go_enter Tryz.func156,Tryz.ntmps156;go_wp2_with (first|(refine bX HB 1 #[.string dX, .string eF, .slice iL aG.length fK] 61 ?_;intro aa_ w9 nV abb hb;replace HB:=bs HB hb;clear hb;have z10:=kF nV.out)|(refine gB Tryz.func154 (jL.calls (cu (Kd.aX jB.out HB.out)) mM.out A2.out) ?_;intro WI hb;replace nV:=kb nV hb;replace HB:=bz HB hb;clear hb;have z12:=kF nV.out)|(refine gB Tryz.func182 (bZ.calls (cu (Kd.aX jB.out HB.out)) mM.out A3.out) ?_;intro w13 hb;replace nV:=kb nV hb;replace HB:=bz HB hb;clear hb;have z14:=kF nV.out)|(go_at_call 157;refine mA (bQ.calls A7.out) ?_;intro nd))
     go_ret2;exact⟨er,bb⟩
    ·obtain⟨rfl,rfl⟩:=s2 H;go_enter Tryz.func156,Tryz.ntmps156;go_wp2_with (first|(refine bX HB 1 #[.string dX, .string eF, .slice iL aG.length fK] 61 ?_;intro aa_ w15 nV abb hb;replace HB:=bs HB hb;clear hb;have z16:=kF nV.out)|(refine gB Tryz.func154 (jL.calls (cu (Kd.aX jB.out HB.out)) mM.out A2.out) ?_;intro w17 hb;replace nV:=kb nV hb;replace HB:=bz HB hb;clear hb;have z18:=kF nV.out)|(refine gB Tryz.func182 (bZ.calls (cu (Kd.aX jB.out HB.out)) mM.out A3.out) ?_;intro w19 hb;replace nV:=kb nV hb;replace HB:=bz HB hb;clear hb;have z20:=kF nV.out)|(go_at_call 157;refine mA (bQ.calls A7.out) ?_;intro nd))
     go_ret2;exact⟨er,bb⟩
   ·obtain⟨rfl,rfl⟩:=s2 H;go_enter Tryz.func156,Tryz.ntmps156;go_wp2_with (first|(refine bX HB 1 #[.string dX, .string eF, .slice iL aG.length fK] 61 ?_;intro aa_ w21 nV abb hb;replace HB:=bs HB hb;clear hb;have z22:=kF nV.out)|(refine gB Tryz.func154 (jL.calls (cu (Kd.aX jB.out HB.out)) mM.out A2.out) ?_;intro w23 hb;replace nV:=kb nV hb;replace HB:=bz HB hb;clear hb;have z24:=kF nV.out)|(refine gB Tryz.func182 (bZ.calls (cu (Kd.aX jB.out HB.out)) mM.out A3.out) ?_;intro w25 hb;replace nV:=kb nV hb;replace HB:=bz HB hb;clear hb;have z26:=kF nV.out))
    go_ret2;exact⟨er,bb⟩
  ·obtain⟨rfl,rfl⟩:=s2 H;go_enter Tryz.func156,Tryz.ntmps156;go_wp2_with (first|(refine bX HB 1 #[.string dX, .string eF, .slice iL aG.length fK] 61 ?_;intro aa_ w27 nV abb hb;replace HB:=bs HB hb;clear hb;have ah1:=kF nV.out)|(refine gB Tryz.func154 (jL.calls (cu (Kd.aX jB.out HB.out)) mM.out A2.out) ?_;intro w29 hb;replace nV:=kb nV hb;replace HB:=bz HB hb;clear hb;have z30:=kF nV.out)|(refine gB Tryz.func182 (bZ.calls (cu (Kd.aX jB.out HB.out)) mM.out A3.out) ?_;intro w31 hb;replace nV:=kb nV hb;replace HB:=bz HB hb;clear hb;have z32:=kF nV.out))
   go_ret2;exact⟨er,bb⟩
 ·obtain⟨rfl,rfl⟩:=s2 H;go_enter Tryz.func156,Tryz.ntmps156;go_wp2_with (first|(refine bX HB 1 #[.string dX, .string eF, .slice iL aG.length fK] 61 ?_;intro aa_ w33 nV abb hb;replace HB:=bs HB hb;clear hb;have z34:=kF nV.out)|(refine gB Tryz.func154 (jL.calls (cu (Kd.aX jB.out HB.out)) mM.out A2.out) ?_;intro w35 hb;replace nV:=kb nV hb;replace HB:=bz HB hb;clear hb;have z36:=kF nV.out)|(refine gB Tryz.func182 (bZ.calls (cu (Kd.aX jB.out HB.out)) mM.out A3.out) ?_;intro w37 hb;replace nV:=kb nV hb;replace HB:=bz HB hb;clear hb))
  go_ret2;exact⟨er,bb⟩
def jU.f (k:Nat) (l0:List (gK)):Option (ByteArray×Bool):=(jL.f k l0 (⟨#[67,111,110,116,101,110,116,45,84,121,112,101]⟩:ByteArray)).bind fun alv=>((bf.f k alv.1).bind fun abd=>((mJ.f k abd.1 abd.2.1 abd.2.2.1).bind fun abe=>(if alv.2=true then(if abd.2.2.2=true then(some (abe.1,abe.2))else(some (abe.1,false)))else(some (abe.1,false)))))
theorem jU.calls {k c0:Nat} {A0:Option Addr} {l0:List (gK)} {r1:ByteArray} {r2:Bool} {w:World} (hr0:Kd.C qy w A0 l0.length l0) (hc0:l0.length≤c0) (h:jU.f k l0=some (r1,r2)):
  Calls Tryz.prog 108 #[.slice A0 l0.length c0] w fun e w'=>e= .returned (.tuple #[.string r1, .bool r2])∧Below w.heap.size w w':=by
 have U1:=Tryz.underlying61;have HR0:=ak hr0;have yF:=ak hc0;clear hr0 hc0;have HB:=ak (Below.refl w.heap.size w);unfold jU.f at h;have H:=h;clear h;replace H:=bd H;obtain⟨⟨aIf,aIg⟩,A2,H⟩:=H
 (try dsimp only at H);replace H:=bd H;obtain⟨⟨aoH,aoI,ac9,aIh⟩,A3,H⟩:=H
 (try dsimp only at H);replace H:=bd H;obtain⟨⟨aIi,aIj⟩,A4,H⟩:=H
 (try dsimp only at H);replace H:=sb H;rcases H with⟨rfl,H⟩|⟨rfl,H⟩
 ·replace H:=sb H;rcases H with⟨rfl,H⟩|⟨rfl,H⟩
  ·obtain⟨rfl,rfl⟩:=s2 H;go_enter Tryz.func108,Tryz.ntmps108;go_wp2_with (first|(refine gB Tryz.func154 (jL.calls (cu HR0.out) yF.out A2.out) ?_;intro w7 hb;replace HB:=bs HB hb;clear hb)|(refine gV Tryz.func155 (bf.calls A3.out) ?_;rintro avh w8 ⟨ho0,hb⟩;have uV:=ak (Kd.aA ho0 (aj (ul HB.out)));replace HB:=bs HB hb;clear hb;(try clear ho0))|(refine bX HB 6 #[.string (⟨#[]⟩:ByteArray), .string (⟨#[]⟩:ByteArray), .slice none 0 0] 61 ?_;intro alx w9 Gq aly hb;replace uV:=rb uV hb;replace HB:=bs HB hb;clear hb;have z10:=kF Gq.out;obtain⟨vP,uo,QW⟩:=Kd.aI uV.out;subst QW)|(refine gB Tryz.func156 (mJ.calls ?fH ((Kd.ay uV.out).2.1) A4.out) ?_;(case fH=>refine(Kd.ay (e:=69) (base:=w.heap.size) (ok:=fun k_=>True) (n:=ac9.length) (c:=uo) ?_).2.2;exact(rh uV));intro w12 hb;replace uV:=rg uV hb;replace Gq:=kp Gq #[.string aoH, .string aoI, .slice vP ac9.length uo] hb;replace HB:=bz HB hb;clear hb))
   go_ret2;exact⟨er,bb⟩
  ·obtain⟨rfl,rfl⟩:=s2 H;go_enter Tryz.func108,Tryz.ntmps108;go_wp2_with (first|(refine gB Tryz.func154 (jL.calls (cu HR0.out) yF.out A2.out) ?_;intro w13 hb;replace HB:=bs HB hb;clear hb)|(refine gV Tryz.func155 (bf.calls A3.out) ?_;rintro avh UE ⟨ho0,hb⟩;have uV:=ak (Kd.aA ho0 (aj (ul HB.out)));replace HB:=bs HB hb;clear hb;(try clear ho0))|(refine bX HB 6 #[.string (⟨#[]⟩:ByteArray), .string (⟨#[]⟩:ByteArray), .slice none 0 0] 61 ?_;intro alx w15 Gq aly hb;replace uV:=rb uV hb;replace HB:=bs HB hb;clear hb;have z16:=kF Gq.out;obtain⟨Iu,FY,WQ⟩:=Kd.aI uV.out;subst WQ)|(refine gB Tryz.func156 (mJ.calls ?fH ((Kd.ay uV.out).2.1) A4.out) ?_;(case fH=>refine(Kd.ay (e:=69) (base:=w.heap.size) (ok:=fun k_=>True) (n:=ac9.length) (c:=FY) ?_).2.2;exact(rh uV));intro w18 hb;replace uV:=rg uV hb;replace Gq:=kp Gq #[.string aoH, .string aoI, .slice Iu ac9.length FY] hb;replace HB:=bz HB hb;clear hb))
   go_ret2;exact⟨er,bb⟩
 ·obtain⟨rfl,rfl⟩:=s2 H;go_enter Tryz.func108,Tryz.ntmps108;go_wp2_with (first|(refine gB Tryz.func154 (jL.calls (cu HR0.out) yF.out A2.out) ?_;intro w19 hb;replace HB:=bs HB hb;clear hb)|(refine gV Tryz.func155 (bf.calls A3.out) ?_;rintro avh w20 ⟨ho0,hb⟩;have uV:=ak (Kd.aA ho0 (aj (ul HB.out)));replace HB:=bs HB hb;clear hb;(try clear ho0))|(refine bX HB 6 #[.string (⟨#[]⟩:ByteArray), .string (⟨#[]⟩:ByteArray), .slice none 0 0] 61 ?_;intro alx w21 Gq aly hb;replace uV:=rb uV hb;replace HB:=bs HB hb;clear hb;have z22:=kF Gq.out;obtain⟨QX,Pg,afR⟩:=Kd.aI uV.out;subst afR)|(refine gB Tryz.func156 (mJ.calls ?fH ((Kd.ay uV.out).2.1) A4.out) ?_;(case fH=>refine(Kd.ay (e:=69) (base:=w.heap.size) (ok:=fun k_=>True) (n:=ac9.length) (c:=Pg) ?_).2.2;exact(rh uV));intro w24 hb;replace uV:=rg uV hb;replace Gq:=kp Gq #[.string aoH, .string aoI, .slice QX ac9.length Pg] hb;replace HB:=bz HB hb;clear hb))
  go_ret2;exact⟨er,bb⟩
end Go.Proofs.YtncdadcmghglkaaGreatDoor.PFnKidLines
