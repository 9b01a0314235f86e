/- Printed walks; conditions: those in each statement. -/
import Derived.Test.YtncdadcmghglkaaGreatDoorVFnParseBodyQt
import Derived.Test.YtncdadcmghglkaaGreatDoorVFnParseBodyYt
import Derived.Test.YtncdadcmghglkaaGreatDoorPFnParseBodyx0
namespace Go.Proofs.YtncdadcmghglkaaGreatDoor.PFnParseBody
open Go.Proofs.YtncdadcmghglkaaGreatDoorW.dK.Kd Go.Proofs.YtncdadcmghglkaaGreatDoorW.oJ.Kd Go.Proofs.Tryz Go.RowKit Go.Proofs.YtncdadcmghglkaaGreatDoor.X Go.Proofs.YtncdadcmghglkaaGreatDoorW.dK Go.Proofs.YtncdadcmghglkaaGreatDoorW.lZ Go.Proofs.YtncdadcmghglkaaGreatDoorW.oJ
attribute [local go_sem] wB wC yO yP uI uJ wE wF   -- for this text's walks alone
set_option linter.unusedVariables false
set_option maxHeartbeats 8000000
set_option maxRecDepth 100000
set_option linter.unusedSimpArgs false
def lS.l0:Nat→List (fD)→ByteArray→Int→Option (Int)
 |0,_,_,_=>none
 |k+1,x0,x1,x5=>if x5<(x0.length:Int)then(if 0≤x5 then((uD.f ((eU x0 x5).f0) x1).bind fun aCx=>(if aCx=true then(some x5)else(lS.l0 k x0 x1 (wrap64 (x5+1)))))else(none))else(some (-1))
def lS.f(k:Nat)(l0:List (fD))(a1:ByteArray):Option (Int):=lS.l0 k l0 a1 0
theorem lS.calls{k c0:Nat}{A0:Option Addr}{l0:List (fD)}{a1:ByteArray}{r:Int}{w:World}(hr0:Kd.C rP w A0 l0.length l0)(hc0:l0.length≤c0)(h:lS.f k l0 a1=some r):
  Calls Tryz.prog 177 #[.slice A0 l0.length c0, .string a1] w fun e w'=>e= .returned (.int .i64 r)∧Below w.heap.size w w':=by
 have HR0:=ak hr0;have vw:=ak hc0;clear hr0 hc0;have HB:=ak (Below.refl w.heap.size w);unfold lS.f at h;have H:=h;clear h;have H':=ak H;clear H;go_enter func177,ntmps177;go_wp2;go_loopg [5] k (fun kq v5 w'=>∃(dV:Int),v5= .int .i64 dV∧ah (lS.l0 kq l0 a1 dV=some r)∧ah (kq≤k)∧ah (Below w.heap.size w w'))
 case atStart=>exact⟨_,rs,H',⟨Nat.le_refl _⟩,⟨ul HB.out⟩⟩
 case round=>
  clear H';obtain⟨dV,rfl,HA,yN,HB⟩:=hrel
  cases gk with
  |zero=>exact zz HA.out
  |succ k1=>
   obtain⟨H⟩:=HA;simp only[lS.l0]at H;replace H:=sd H;rcases H with⟨jd,H⟩|⟨jd,H⟩
   ·replace H:=nY H;obtain⟨qB,H⟩:=H;replace H:=bd H;obtain⟨aCx,A5,H⟩:=H;replace H:=sb H;rcases H with⟨rfl,H⟩|⟨rfl,H⟩
    ·obtain rfl:=s1 H;have adK:=zi dV;have adL:=zj dV l0.length;obtain⟨aCy,avc,PG,PI⟩:=su HR0.out dV adK adL;cases avc;replace PG:=cl HB.out PG;replace PI:=cl HB.out PI;replace adK:=eq_true adK;replace adL:=eq_true adL;go_wp2_with (refine gB func197 (uD.calls A5.out) ?_;intro w7 hb;replace HB:=bs HB hb;clear hb)
     go_ret;exact⟨er,ul HB.out⟩
    ·have H':=ak H;clear H;have adK:=zi dV;have adL:=zj dV l0.length;obtain⟨aCy,avc,PG,PI⟩:=su HR0.out dV adK adL;cases avc;replace PG:=cl HB.out PG;replace PI:=cl HB.out PI;replace adK:=eq_true adK;replace adL:=eq_true adL;go_wp2_with (refine gB func197 (uD.calls A5.out) ?_;intro w8 hb;replace HB:=bs HB hb;clear hb)
     go_roundg k1
     case measure=>exact kl
     case rel=>exact⟨_,rs,H',⟨kl⟩,⟨ul HB.out⟩⟩
   ·obtain rfl:=s1 H;go_wp2;go_ret;exact⟨er,ul HB.out⟩
def lX.f(k:Nat)(l0:List (fD))(a1:ByteArray):Option (ByteArray×Bool):=(lS.f k l0 a1).bind fun t138=>(if t138<0 then(some ((⟨#[]⟩:ByteArray),false))else(if 0≤t138 then(if t138<(l0.length:Int)then(some ((eU l0 t138).f1,true))else(none))else(none)))
theorem lX.calls{k c0:Nat}{A0:Option Addr}{l0:List (fD)}{a1 r1:ByteArray}{r2:Bool}{w:World}(hr0:Kd.C rP w A0 l0.length l0)(hc0:l0.length≤c0)(h:lX.f k l0 a1=some (r1,r2)):
  Calls Tryz.prog 154 #[.slice A0 l0.length c0, .string a1] w fun e w'=>e= .returned (.tuple #[.string r1, .bool r2])∧Below w.heap.size w w':=by
 have HR0:=ak hr0;have vw:=ak hc0;clear hr0 hc0;have HB:=ak (Below.refl w.heap.size w);unfold lX.f at h;have H:=h;clear h;replace H:=bd H;obtain⟨t138,A3,H⟩:=H;replace H:=sd H;rcases H with⟨qB,H⟩|⟨qB,H⟩
 ·obtain⟨rfl,rfl⟩:=s2 H;go_enter func154,ntmps154;go_wp2_with (refine gB func177 (lS.calls (cu HR0.out) vw.out A3.out) ?_;intro w5 hb;replace HB:=bs HB hb;clear hb)
  go_ret2;exact⟨er,ul HB.out⟩
 ·replace H:=nY H;obtain⟨nP,H⟩:=H;replace H:=nY H;obtain⟨sK,H⟩:=H;obtain⟨rfl,rfl⟩:=s2 H;go_enter func154,ntmps154;go_wp2_with (refine gB func177 (lS.calls (cu HR0.out) vw.out A3.out) ?_;intro w8 hb;replace HB:=bs HB hb;clear hb;have avd:0≤(t138:Int):=of_decide_eq_true (by assumption);have ave:t138<(l0.length:Int):=of_decide_eq_true (by assumption);obtain⟨aL5,aIy,ZV,ZW⟩:=su HR0.out t138 avd ave;cases aIy;replace ZV:=(HB.out.cell (World.block_lt_of_cell? w _ ZV)).trans ZV;replace ZW:=(HB.out.cell (World.block_lt_of_cell? w _ ZW)).trans ZW;replace avd:=eq_true avd;replace ave:=eq_true ave)
  go_ret2;exact⟨er,ul HB.out⟩
def iM.l0:Nat→ByteArray→ByteArray→Int→Option (ByteArray×Int)
 |0,_,_,_=>none
 |k+1,x0,x6,x7=>if x7<(x0.size:Int)then(if 0≤x7 then(if(bt x0 x7)=34 then(some (x6,wrap64 (x7+1)))else(if(bt x0 x7)=92 then(if(wrap64 (x7+1))=(x0.size:Int)then(some ((⟨#[]⟩:ByteArray),(-1)))else(if 0≤(wrap64 (x7+1))then(if(wrap64 (x7+1))≤(wrap64 ((wrap64 (x7+1))+1))then(if(wrap64 ((wrap64 (x7+1))+1))≤(x0.size:Int)then(if x6.size+(x0.extract ((wrap64 (x7+1)):Int).toNat ((wrap64 ((wrap64 (x7+1))+1)):Int).toNat).size≤9223372036854775807 then(iM.l0 k x0 (x6++(x0.extract ((wrap64 (x7+1)):Int).toNat ((wrap64 ((wrap64 (x7+1))+1)):Int).toNat)) (wrap64 ((wrap64 (x7+1))+1)))else(none))else(none))else(none))else(none)))else(if x7≤(wrap64 (x7+1))then(if(wrap64 (x7+1))≤(x0.size:Int)then(if x6.size+(x0.extract (x7:Int).toNat ((wrap64 (x7+1)):Int).toNat).size≤9223372036854775807 then(iM.l0 k x0 (x6++(x0.extract (x7:Int).toNat ((wrap64 (x7+1)):Int).toNat)) (wrap64 (x7+1)))else(none))else(none))else(none))))else(none))else(some ((⟨#[]⟩:ByteArray),(-1)))
def iM.f(k:Nat)(a0:ByteArray)(a1:Int):Option (ByteArray×Int):=iM.l0 k a0 (⟨#[]⟩:ByteArray) (wrap64 (a1+1))
theorem iM.calls{k:Nat}{a0 r1:ByteArray}{a1 r2:Int}{w:World}(h:iM.f k a0 a1=some (r1,r2)):
  Calls Tryz.prog 198 #[.string a0, .int .i64 a1] w fun e w'=>e= .returned (.tuple #[.string r1, .int .i64 r2])∧dR w w':=by
 unfold iM.f at h;have H:=h;clear h;have H':=ak H;clear H;go_enter func198,ntmps198;go_wp2;go_loopg [6,7] k (fun kq v6 v7 w'=>∃(gZ:ByteArray) (qE:Int),v6= .string gZ∧v7= .int .i64 qE∧ah (iM.l0 kq a0 gZ qE=some (r1,r2))∧ah (kq≤k)∧dR w w')
 case atStart=>exact⟨_,_,rs,rs,H',⟨Nat.le_refl _⟩,dn⟩
 case round=>
  clear H';obtain⟨gZ,qE,rfl,rfl,HA,yN,⟨m1,rfl⟩⟩:=hrel
  cases gk with
  |zero=>exact zz HA.out
  |succ k1=>
   obtain⟨H⟩:=HA;simp only[iM.l0]at H;replace H:=sd H;rcases H with⟨jd,H⟩|⟨jd,H⟩
   ·replace H:=nY H;obtain⟨qB,H⟩:=H;replace H:=sq H;rcases H with⟨nP,zM,H⟩|⟨c6,nP,zM,H⟩
    ·obtain⟨rfl,rfl⟩:=s2 H;obtain⟨p5,q5,hx5⟩:=bx a0 qE;go_wp2;go_ret2;exact⟨rs,dn⟩
    ·replace H:=sq H;rcases H with⟨ru,BI,H⟩|⟨c8,ru,BI,H⟩
     ·replace H:=sq H;rcases H with⟨xG,CG,H⟩|⟨c9,xG,CG,H⟩
      ·obtain⟨rfl,rfl⟩:=s2 H;obtain⟨p5,q5,hx5⟩:=bx a0 qE;obtain⟨p7,q7,hx7⟩:=bx a0 qE;go_wp2;go_ret2;exact⟨rs,dn⟩
      ·obtain⟨PK,Wu⟩:∃j_:Int,(wrap64 (qE+1))=j_:=⟨_,rfl⟩
       replace H:(if 0≤(PK)then(if(PK)≤(wrap64 ((PK)+1))then(if(wrap64 ((PK)+1))≤(a0.size:Int)then(if gZ.size+(a0.extract ((PK):Int).toNat ((wrap64 ((PK)+1)):Int).toNat).size≤9223372036854775807 then(iM.l0 k1 a0 (gZ++(a0.extract ((PK):Int).toNat ((wrap64 ((PK)+1)):Int).toNat)) (wrap64 ((PK)+1)))else(none))else(none))else(none))else(none))=some (r1,r2):=by first|(rw[Wu]at H;exact H)|(simp only[Wu]at H⊢;exact H)
       (try rw[Wu]at xG)
       (try rw[Wu]at CG);have aIz:(IntKind.i64.wrap (qE+1))=PK:=(gU _).trans Wu;replace H:=zh H;obtain⟨uM,CB,H⟩:=H;replace H:=nn H;obtain⟨c12,H⟩:=H;have vH:=eq_true c12;have Dv:=decide_eq_true c12;replace H:=nn H;obtain⟨c13,H⟩:=H;have xE:=eq_true c13;have Bz:=decide_eq_true c13;replace H:=nn H;obtain⟨c14,H⟩:=H;have uy:=eq_true c14;have xH:=decide_eq_true c14;try have aL6:(9223372036854775807<gZ.size+((a0.extract ((PK):Int).toNat ((wrap64 ((PK)+1)):Int).toNat).size))=False:=by have h_:=c14;simp only[ByteArray.size_append,ByteArray.size_extract]at h_;refine eq_false ?_;simp only[decide_eq_true_eq]at*;omega
       try have aoI:(9223372036854775807<gZ.size+(a0.extract ((PK):Int).toNat ((wrap64 ((PK)+1)):Int).toNat).size)=False:=eq_false (Nat.not_lt.2 c14)
       have H':=ak H;clear H;obtain⟨p5,q5,hx5⟩:=bx a0 qE;obtain⟨p7,q7,hx7⟩:=bx a0 qE;go_wp2;go_roundg k1
       case measure=>exact kl
       case rel=>exact⟨_,_,(by first|rfl|(simp;done)|(simp only[←Wu]<;>(first|rfl|simp))|(simp[*];done)),(by first|rfl|(simp;done)|(simp only[←Wu]<;>(first|rfl|simp))|(simp[*];done)),H',⟨kl⟩,dn⟩
     ·have uz:=eq_true (of_decide_eq_true (by assumption):0≤qE);replace H:=nn H;obtain⟨c16,H⟩:=H;have Dw:=eq_true c16;have Oy:=decide_eq_true c16;replace H:=nn H;obtain⟨c17,H⟩:=H;have vY:=eq_true c17;have LW:=decide_eq_true c17;replace H:=nn H;obtain⟨c18,H⟩:=H;have Dt:=eq_true c18;have Vo:=decide_eq_true c18;try have aL7:(9223372036854775807<gZ.size+((a0.extract (qE:Int).toNat ((wrap64 (qE+1)):Int).toNat).size))=False:=by have h_:=c18;simp only[ByteArray.size_append,ByteArray.size_extract]at h_;refine eq_false ?_;simp only[decide_eq_true_eq]at*;omega
      try have aoU:(9223372036854775807<gZ.size+(a0.extract (qE:Int).toNat ((wrap64 (qE+1)):Int).toNat).size)=False:=eq_false (Nat.not_lt.2 c18)
      have H':=ak H;clear H;obtain⟨p5,q5,hx5⟩:=bx a0 qE;obtain⟨p7,q7,hx7⟩:=bx a0 qE;go_wp2;go_roundg k1
      case measure=>exact kl
      case rel=>exact⟨_,_,rs,rs,H',⟨kl⟩,dn⟩
   ·obtain⟨rfl,rfl⟩:=s2 H;go_wp2;go_ret2;exact⟨rs,dn⟩
def kP.l0:Nat→ByteArray→Int→Int→Option (ByteArray×ByteArray×Bool)
 |0,_,_,_=>none
 |k+1,x0,x1,x7=>if x7<(x0.size:Int)then(if 0≤x7 then(if(bt x0 x7)=34 then((iM.f k x0 x7).bind fun arE=>(if arE.2<0 then(some (x0,(⟨#[]⟩:ByteArray),false))else(kP.l0 k x0 x1 arE.2)))else(if(bt x0 x7)=x1 then(if x7≤(x0.size:Int)then(if 0≤(wrap64 (x7+1))then(if(wrap64 (x7+1))≤(x0.size:Int)then(some (x0.extract 0 (x7:Int).toNat,x0.extract ((wrap64 (x7+1)):Int).toNat x0.size,true))else(none))else(none))else(none))else(kP.l0 k x0 x1 (wrap64 (x7+1)))))else(none))else(some (x0,(⟨#[]⟩:ByteArray),false))
def kP.f(k:Nat)(a0:ByteArray)(a1:Int):Option (ByteArray×ByteArray×Bool):=kP.l0 k a0 a1 0
theorem kP.calls{k:Nat}{a0 r1 r2:ByteArray}{a1:Int}{r3:Bool}{w:World}(h:kP.f k a0 a1=some (r1,r2,r3)):
  Calls Tryz.prog 178 #[.string a0, .int .u8 a1] w fun e w'=>e= .returned (.tuple #[.string r1, .string r2, .bool r3])∧dR w w':=by
 unfold kP.f at h;have H:=h;clear h;have H':=ak H;clear H;go_enter func178,ntmps178;go_wp2;repeat(go_quiet (fail);try go_wp2)
 go_loopg [7] k (fun kq v7 w'=>∃(qE:Int),v7= .int .i64 qE∧ah (kP.l0 kq a0 a1 qE=some (r1,r2,r3))∧ah (kq≤k)∧dR w w')
 case atStart=>exact⟨_,rs,H',⟨Nat.le_refl _⟩,dn⟩
 case round=>
  clear H';obtain⟨qE,rfl,HA,yN,⟨m1,rfl⟩⟩:=hrel
  cases gk with
  |zero=>exact zz HA.out
  |succ k1=>
   obtain⟨H⟩:=HA;simp only[kP.l0]at H;replace H:=sd H;rcases H with⟨jd,H⟩|⟨jd,H⟩
   ·replace H:=nY H;obtain⟨qB,H⟩:=H;replace H:=sq H;rcases H with⟨nP,zM,H⟩|⟨c6,nP,zM,H⟩
    ·replace H:=bd H;obtain⟨⟨aSk,t141⟩,A7,H⟩:=H
     (try dsimp only at H);replace H:=sd H;rcases H with⟨ru,H⟩|⟨ru,H⟩
     ·obtain⟨rfl,rfl,rfl⟩:=s3 H;obtain⟨p5,q5,hx5⟩:=bx a0 qE;go_wp2_with (go_at_call 198;refine mA (iM.calls A7.out) ?_;intro nd;(try exact dq))
      repeat(go_quiet ((go_at_call 198;refine mA (iM.calls A7.out) ?_;intro nd;(try exact dq)));try go_wp2_with (go_at_call 198;refine mA (iM.calls A7.out) ?_;intro nd;(try exact dq)))
      go_ret3;exact⟨rs,dn⟩
     ·have H':=ak H;clear H;obtain⟨p5,q5,hx5⟩:=bx a0 qE;go_wp2_with (go_at_call 198;refine mA (iM.calls A7.out) ?_;intro nd;(try exact dq))
      repeat(go_quiet ((go_at_call 198;refine mA (iM.calls A7.out) ?_;intro nd;(try exact dq)));try go_wp2_with (go_at_call 198;refine mA (iM.calls A7.out) ?_;intro nd;(try exact dq)))
      go_roundg k1
      case measure=>exact kl
      case rel=>exact⟨_,rs,H',⟨kl⟩,dn⟩
    ·replace H:=sq H;rcases H with⟨qj,uN,H⟩|⟨c10,qj,uN,H⟩
     ·have uM:=eq_true (of_decide_eq_true (by assumption):0≤qE);replace H:=zh H;obtain⟨vH,Dv,H⟩:=H;obtain⟨Ak,yV⟩:∃j_:Int,(wrap64 (qE+1))=j_:=⟨_,rfl⟩
      replace H:(if 0≤(Ak)then(if(Ak)≤(a0.size:Int)then(some (a0.extract 0 (qE:Int).toNat,a0.extract ((Ak):Int).toNat a0.size,true))else(none))else(none))=some (r1,r2,r3):=by first|(rw[yV]at H;exact H)|(simp only[yV]at H⊢;exact H)
      have ajH:(IntKind.i64.wrap (qE+1))=Ak:=(gU _).trans yV;replace H:=zh H;obtain⟨uy,xH,H⟩:=H;replace H:=zh H;obtain⟨uz,Cm,H⟩:=H;obtain⟨rfl,rfl,rfl⟩:=s3 H;obtain⟨p5,q5,hx5⟩:=bx a0 qE;obtain⟨p9,q9,hx9⟩:=bx a0 qE;go_wp2;repeat(go_quiet (fail);try go_wp2)
      go_ret3;exact⟨by first|rfl|(simp;done)|(simp only[←yV]<;>(first|rfl|simp))|(simp[*];done),dn⟩
     ·have H':=ak H;clear H;obtain⟨p5,q5,hx5⟩:=bx a0 qE;obtain⟨p9,q9,hx9⟩:=bx a0 qE;go_wp2;repeat(go_quiet (fail);try go_wp2)
      go_roundg k1
      case measure=>exact kl
      case rel=>exact⟨_,rs,H',⟨kl⟩,dn⟩
   ·obtain⟨rfl,rfl,rfl⟩:=s3 H;go_wp2;repeat(go_quiet (fail);try go_wp2)
    go_ret3;exact⟨rs,dn⟩
def kS.l0:Nat→Int→Int→Option (Bool)
 |0,_,_=>none
 |k+1,x0,x3=>if x3<19 then(if 0≤x3 then(if x0=(bt (⟨#[33,35,36,37,38,39,42,43,45,47,61,63,94,95,96,123,124,125,126]⟩:ByteArray) x3)then(some true)else(kS.l0 k x0 (wrap64 (x3+1))))else(none))else((iQ.f x0).bind fun aCz=>(some aCz))
def kS.f(k:Nat)(a0:Int):Option (Bool):=kS.l0 k a0 0
theorem kS.calls{k:Nat}{a0:Int}{r:Bool}{w:World}(h:kS.f k a0=some r):
  Calls Tryz.prog 199 #[.int .u8 a0] w fun e w'=>e= .returned (.bool r)∧dR w w':=by
 unfold kS.f at h;have H:=h;clear h;have H':=ak H;clear H;go_enter func199,ntmps199;go_wp2;go_loopg [3] k (fun kq v3 w'=>∃(eG:Int),v3= .int .i64 eG∧ah (kS.l0 kq a0 eG=some r)∧ah (kq≤k)∧dR w w')
 case atStart=>exact⟨_,rs,H',⟨Nat.le_refl _⟩,dn⟩
 case round=>
  clear H';obtain⟨eG,rfl,HA,yN,⟨m1,rfl⟩⟩:=hrel
  cases gk with
  |zero=>exact zz HA.out
  |succ k1=>
   obtain⟨H⟩:=HA;simp only[kS.l0]at H;replace H:=sd H;rcases H with⟨rQ,H⟩|⟨rQ,H⟩
   ·replace H:=nY H;obtain⟨jd,H⟩:=H;replace H:=sq H;rcases H with⟨nO,QY,H⟩|⟨c5,nO,QY,H⟩
    ·obtain rfl:=s1 H;have p4:=zi eG;have q4:=zj eG 19;have hx4:=wU (⟨#[33,35,36,37,38,39,42,43,45,47,61,63,94,95,96,123,124,125,126]⟩:ByteArray) eG;replace p4:=eq_true p4;replace q4:=eq_true q4;go_wp2;go_ret;exact⟨rs,dn⟩
    ·have H':=ak H;clear H;have p4:=zi eG;have q4:=zj eG 19;have hx4:=wU (⟨#[33,35,36,37,38,39,42,43,45,47,61,63,94,95,96,123,124,125,126]⟩:ByteArray) eG;replace p4:=eq_true p4;replace q4:=eq_true q4;go_wp2;go_roundg k1
     case measure=>exact kl
     case rel=>exact⟨_,rs,H',⟨kl⟩,dn⟩
   ·replace H:=bd H;obtain⟨aCz,A6,H⟩:=H;obtain rfl:=s1 H;go_wp2_with (refine gA func183 (iQ.calls A6.out) ?_;intro nd)
    go_ret;exact⟨rs,dn⟩
mutual
def gI.l0:Nat→ByteArray→List ByteArray→Int→Option (List ByteArray×Bool)
 |0,_,_,_=>none
 |k+1,x0,x4,x5=>if x5<(x0.size:Int)then(if 0≤x5 then(if(bt x0 x5)=32 then(gI.l0 k x0 x4 (wrap64 (x5+1)))else(if(bt x0 x5)=34 then((iM.f k x0 x5).bind fun PL=>(if PL.2<0 then(some ((([]:List ByteArray)),false))else(if PL.2=x5 then(some ((([]:List ByteArray)),false))else(if PL.2<(x0.size:Int)then(if 0≤PL.2 then(if(bt x0 PL.2)=32 then(if x4.length<8796093022208 then(gI.l0 k x0 (x4++[PL.1]) PL.2)else(none))else(some ((([]:List ByteArray)),false)))else(none))else(if x4.length<8796093022208 then(gI.l0 k x0 (x4++[PL.1]) PL.2)else(none))))))else(gI.l1 k x0 x4 x5 x5)))else(none))else(some (x4,true))
def gI.l1:Nat→ByteArray→List ByteArray→Int→Int→Option (List ByteArray×Bool)
 |0,_,_,_,_=>none
 |k+1,x0,x4,x5,x6=>if x5<(x0.size:Int)then(if 0≤x5 then((kS.f k (bt x0 x5)).bind fun aCA=>(if aCA=true then(gI.l1 k x0 x4 (wrap64 (x5+1)) x6)else(if 0≤x6 then(if x6≤x5 then(if x5≤(x0.size:Int)then(if x5=x6 then(some ((([]:List ByteArray)),false))else(if(bt x0 x5)=32 then(if x4.length<8796093022208 then(gI.l0 k x0 (x4++[x0.extract (x6:Int).toNat (x5:Int).toNat]) x5)else(none))else(some ((([]:List ByteArray)),false))))else(none))else(none))else(none))))else(none))else(if 0≤x6 then(if x6≤x5 then(if x5≤(x0.size:Int)then(if x5=x6 then(some ((([]:List ByteArray)),false))else(if x4.length<8796093022208 then(gI.l0 k x0 (x4++[x0.extract (x6:Int).toNat (x5:Int).toNat]) x5)else(none)))else(none))else(none))else(none))
end
def gI.f(k:Nat)(a0:ByteArray):Option (List ByteArray×Bool):=gI.l0 k a0 (([]:List ByteArray)) 0
theorem gI.calls{k:Nat}{a0:ByteArray}{r1:List ByteArray}{r2:Bool}{w:World}(h:gI.f k a0=some (r1,r2)):
  Calls Tryz.prog 181 #[.string a0] w fun e w'=>∃pW:Value,e= .returned (.tuple #[pW, .bool r2])∧Kd.R Kd.string 9 w' w.heap.size (fun _=>True) pW r1∧Below w.heap.size w w':=by
 have HB:=ak (Below.refl w.heap.size w);unfold gI.f at h;have H:=h;clear h;obtain⟨aSl,arF⟩:=nm ([]:List ByteArray);rw[←arF.out]at H;have H':=ak H;clear H;go_enter func181,ntmps181;go_wp2_with (refine gG 8 ?_;refine DR 8 Kd.string 9 arF ?_;intro aSm w2 ho3 hb;have aCB:=ak (aC ho3 (au (ul HB.out)));replace HB:=bs HB hb;clear hb ho3)
 go_loopg [4,5] k (fun kq v4 v5 w'=>∃(dI:List ByteArray) (dV:Int),v5= .int .i64 dV∧ah (gI.l0 kq a0 dI dV=some (r1,r2))∧ah (kq≤k)∧ah (Kd.R Kd.string 9 w' w.heap.size (fun _=>True) v4 dI)∧ah (Below w.heap.size w w'))
 case atStart=>exact⟨_,_,rs,H',⟨Nat.le_refl _⟩,⟨ur aCB.out⟩,⟨ul HB.out⟩⟩
 case round=>
  clear H';obtain⟨dI,dV,rfl,HA,yN,bT,HB⟩:=hrel
  cases gk with
  |zero=>exact zz HA.out
  |succ k1=>
   obtain⟨H⟩:=HA;simp only[gI.l0]at H;replace H:=sd H;rcases H with⟨qB,H⟩|⟨qB,H⟩
   ·replace H:=nY H;obtain⟨nO,H⟩:=H;replace H:=sq H;rcases H with⟨sK,Jy,H⟩|⟨c7,sK,Jy,H⟩
    ·have H':=ak H;clear H;obtain⟨p6,q6,hx6⟩:=bx a0 dV;go_wp2;go_roundg k1
     case measure=>exact kl
     case rel=>exact⟨_,_,rs,H',⟨kl⟩,⟨ur bT.out⟩,⟨ul HB.out⟩⟩
    ·replace H:=sq H;rcases H with⟨xG,CG,H⟩|⟨c9,xG,CG,H⟩
     ·replace H:=bd H;obtain⟨⟨t146,ahd⟩,A10,H⟩:=H
      (try dsimp only at H);replace H:=sd H;rcases H with⟨uM,H⟩|⟨uM,H⟩
      ·obtain⟨aSn,arG⟩:=nm ([]:List ByteArray);rw[←arG.out]at H;obtain⟨rfl,rfl⟩:=s2 H;obtain⟨p6,q6,hx6⟩:=bx a0 dV;obtain⟨p8,q8,hx8⟩:=bx a0 dV;go_wp2_with (first|(refine gA func198 (iM.calls A10.out) ?_;intro nd)|(refine gG 32 ?_;refine DR 32 Kd.string 9 arG ?_;intro aSo w12 ZX hb;have aCC:=ak (aC (dA ZX (jC (ur bT.out))) (au (ul HB.out)));replace bT:=ak (dM (ur bT.out) (bZ ZX) hb);replace HB:=bs HB hb;clear hb ZX))
       go_ret2;exact⟨_,er,ur (ay aCC.out (fun _ hk=>trivial)),ul HB.out⟩
      ·replace H:=sq H;rcases H with⟨uy,xH,H⟩|⟨c14,uy,xH,H⟩
       ·obtain⟨y151,arH⟩:=nm ([]:List ByteArray);rw[←arH.out]at H;obtain⟨rfl,rfl⟩:=s2 H;obtain⟨p6,q6,hx6⟩:=bx a0 dV;obtain⟨p8,q8,hx8⟩:=bx a0 dV;go_wp2_with (first|(refine gA func198 (iM.calls A10.out) ?_;intro nd)|(refine gG 64 ?_;refine DR 64 Kd.string 9 arH ?_;intro v152 w15 avf hb;have aCD:=ak (aC (dA avf (jC (ur bT.out))) (au (ul HB.out)));replace bT:=ak (dM (ur bT.out) (bZ avf) hb);replace HB:=bs HB hb;clear hb avf))
        go_ret2;exact⟨_,er,ur (ay aCD.out (fun _ hk=>trivial)),ul HB.out⟩
       ·replace H:=sd H;rcases H with⟨vY,H⟩|⟨vY,H⟩
        ·replace H:=nY H;obtain⟨Dt,H⟩:=H;replace H:=sq H;rcases H with⟨OA,Vs,H⟩|⟨c20,OA,Vs,H⟩
         ·replace H:=nl H;obtain⟨abz,H⟩:=H;obtain⟨aSp,arI⟩:=nm (dI++[t146]);rw[←arI.out]at H;have H':=ak H;clear H;obtain⟨p6,q6,hx6⟩:=bx a0 dV;obtain⟨p8,q8,hx8⟩:=bx a0 dV;go_wp2_with (first|(refine gA func198 (iM.calls A10.out) ?_;intro nd;have p19:0≤(ahd:Int):=of_decide_eq_true (by assumption);have q19:ahd<(a0.size:Int):=of_decide_eq_true (by assumption);have aIA:=wU a0 ahd;replace p19:=eq_true p19;replace q19:=eq_true q19)|((with_reducible refine bP (b:= .append) (xs:=#[.tmp 65, .tmp 67]) rfl ?_);(try(refine lC (by rfl) ?_;dsimp only));at_builtin;refine aP 65 67 Kd.string 23 9 (.string ⟨#[]⟩) 16 underlying23 info9 HB (ur bT.out) arI (by have:=abz.out;omega) ?_;intro aSq w22 ho hb hg hat;have aCE:=ak (ho);replace HB:=ak (hb);clear ho hb hg hat bT))
          go_roundg k1
          case measure=>exact kl
          case rel=>exact⟨_,_,rs,H',⟨kl⟩,⟨ur aCE.out⟩,⟨ul HB.out⟩⟩
         ·obtain⟨y157,arJ⟩:=nm ([]:List ByteArray);rw[←arJ.out]at H;obtain⟨rfl,rfl⟩:=s2 H;obtain⟨p6,q6,hx6⟩:=bx a0 dV;obtain⟨p8,q8,hx8⟩:=bx a0 dV;go_wp2_with (first|(refine gA func198 (iM.calls A10.out) ?_;intro nd;have p19:0≤(ahd:Int):=of_decide_eq_true (by assumption);have q19:ahd<(a0.size:Int):=of_decide_eq_true (by assumption);have aIA:=wU a0 ahd;replace p19:=eq_true p19;replace q19:=eq_true q19)|(refine gG 64 ?_;refine DR 64 Kd.string 9 arJ ?_;intro aSr w23 ZA hb;have aCF:=ak (aC (dA ZA (jC (ur bT.out))) (au (ul HB.out)));replace bT:=ak (dM (ur bT.out) (bZ ZA) hb);replace HB:=bs HB hb;clear hb ZA))
          go_ret2;exact⟨_,er,ur (ay aCF.out (fun _ hk=>trivial)),ul HB.out⟩
        ·replace H:=nl H;obtain⟨abu,H⟩:=H;obtain⟨y160,arK⟩:=nm (dI++[t146]);rw[←arK.out]at H;have H':=ak H;clear H;obtain⟨p6,q6,hx6⟩:=bx a0 dV;obtain⟨p8,q8,hx8⟩:=bx a0 dV;go_wp2_with (first|(refine gA func198 (iM.calls A10.out) ?_;intro nd)|((with_reducible refine bP (b:= .append) (xs:=#[.tmp 65, .tmp 67]) rfl ?_);(try(refine lC (by rfl) ?_;dsimp only));at_builtin;refine aP 65 67 Kd.string 23 9 (.string ⟨#[]⟩) 16 underlying23 info9 HB (ur bT.out) arK (by have:=abu.out;omega) ?_;intro aSs w26 ho hb hg hat;have aCG:=ak (ho);replace HB:=ak (hb);clear ho hb hg hat bT))
         go_roundg k1
         case measure=>exact kl
         case rel=>exact⟨_,_,rs,H',⟨kl⟩,⟨ur aCG.out⟩,⟨ul HB.out⟩⟩
     ·have H':=ak H;clear H;obtain⟨p6,q6,hx6⟩:=bx a0 dV;obtain⟨p8,q8,hx8⟩:=bx a0 dV;go_wp2;go_loopg [5] k1 (fun kq v5 w'=>∃(jD:Int),v5= .int .i64 jD∧ah (gI.l1 kq a0 dI jD dV=some (r1,r2))∧ah (kq≤k1)∧ah (Kd.R Kd.string 9 w' w.heap.size (fun _=>True) u4 dI)∧ah (Below w.heap.size w w'))
      case atStart=>exact⟨_,rs,H',⟨Nat.le_refl _⟩,⟨ur bT.out⟩,⟨ul HB.out⟩⟩
      case round=>
       clear H';try clear qB
       try clear nO
       try clear p6
       try clear q6
       try clear hx6
       try clear c7
       try clear sK
       try clear Jy
       try clear p8
       try clear q8
       try clear hx8
       try clear c9
       try clear xG
       try clear CG
       try clear p6
       try clear p8
       try clear q6
       try clear q8
       obtain⟨jD,rfl,HA,HK2,bT,HB⟩:=hrel
       cases gk with
       |zero=>exact zz HA.out
       |succ k2=>
        obtain⟨H⟩:=HA;simp only[gI.l1]at H;replace H:=sd H;rcases H with⟨I7,H⟩|⟨I7,H⟩
        ·replace H:=nY H;obtain⟨JC,H⟩:=H;replace H:=bd H;obtain⟨aCA,A30,H⟩:=H;replace H:=sb H;rcases H with⟨rfl,H⟩|⟨rfl,H⟩
         ·have H':=ak H;clear H;obtain⟨p29,q29,hx29⟩:=bx a0 jD;go_wp2_with (go_at_call 199;refine mA (kS.calls A30.out) ?_;intro nd)
          go_roundg k2
          case measure=>exact kl
          case rel=>exact⟨_,rs,H',⟨kl⟩,⟨ur bT.out⟩,⟨ul HB.out⟩⟩
         ·replace H:=zh H;obtain⟨Yi,aiR,H⟩:=H;replace H:=zh H;obtain⟨Yh,aiO,H⟩:=H;replace H:=zh H;obtain⟨aa0,aiT,H⟩:=H;replace H:=sq H;rcases H with⟨Yg,ae4,H⟩|⟨c35,Yg,ae4,H⟩
          ·obtain⟨aSt,arL⟩:=nm ([]:List ByteArray);rw[←arL.out]at H;obtain⟨rfl,rfl⟩:=s2 H;obtain⟨p29,q29,hx29⟩:=bx a0 jD;go_wp2_with (first|(go_at_call 199;refine mA (kS.calls A30.out) ?_;intro nd)|(refine gG 64 ?_;refine DR 64 Kd.string 9 arL ?_;intro aSu w36 avg hb;have aCH:=ak (aC (dA avg (jC (ur bT.out))) (au (ul HB.out)));replace bT:=ak (dM (ur bT.out) (bZ avg) hb);replace HB:=bs HB hb;clear hb avg))
           go_ret2;exact⟨_,er,ur (ay aCH.out (fun _ hk=>trivial)),ul HB.out⟩
          ·replace H:=sq H;rcases H with⟨aCI,aCJ,H⟩|⟨c39,aCI,aCJ,H⟩
           ·replace H:=nl H;obtain⟨abe,H⟩:=H;obtain⟨y167,arM⟩:=nm (dI++[a0.extract (dV:Int).toNat (jD:Int).toNat]);rw[←arM.out]at H;have H':=ak H;clear H;obtain⟨p29,q29,hx29⟩:=bx a0 jD;go_wp2_with (first|(go_at_call 199;refine mA (kS.calls A30.out) ?_;intro nd;have p38:0≤(jD:Int):=of_decide_eq_true (by assumption);have q38:jD<(a0.size:Int):=of_decide_eq_true (by assumption);have hx38:=wU a0 jD;replace p38:=eq_true p38;replace q38:=eq_true q38)|((with_reducible refine bP (b:= .append) (xs:=#[.tmp 65, .tmp 67]) rfl ?_);(try(refine lC (by rfl) ?_;dsimp only));at_builtin;refine aP 65 67 Kd.string 23 9 (.string ⟨#[]⟩) 16 underlying23 info9 HB (ur bT.out) arM (by have:=abe.out;omega) ?_;intro v168 w41 ho hb hg hat;have aCK:=ak (ho);replace HB:=ak (hb);clear ho hb hg hat bT))
            go_roundg k2
            case measure=>exact kl
            case rel=>exact⟨_,_,rs,H',⟨kl⟩,⟨ur aCK.out⟩,⟨ul HB.out⟩⟩
           ·obtain⟨aSv,arN⟩:=nm ([]:List ByteArray);rw[←arN.out]at H;obtain⟨rfl,rfl⟩:=s2 H;obtain⟨p29,q29,hx29⟩:=bx a0 jD;go_wp2_with (first|(go_at_call 199;refine mA (kS.calls A30.out) ?_;intro nd;have p38:0≤(jD:Int):=of_decide_eq_true (by assumption);have q38:jD<(a0.size:Int):=of_decide_eq_true (by assumption);have hx38:=wU a0 jD;replace p38:=eq_true p38;replace q38:=eq_true q38)|(refine gG 64 ?_;refine DR 64 Kd.string 9 arN ?_;intro v171 w42 XK hb;have aCL:=ak (aC (dA XK (jC (ur bT.out))) (au (ul HB.out)));replace bT:=ak (dM (ur bT.out) (bZ XK) hb);replace HB:=bs HB hb;clear hb XK))
            go_ret2;exact⟨_,er,ur (ay aCL.out (fun _ hk=>trivial)),ul HB.out⟩
        ·replace H:=zh H;obtain⟨aL8,aL9,H⟩:=H;replace H:=zh H;obtain⟨aL_,aMa,H⟩:=H;replace H:=zh H;obtain⟨aMb,aMc,H⟩:=H;replace H:=sq H;rcases H with⟨aCM,aCN,H⟩|⟨c47,aCM,aCN,H⟩
         ·obtain⟨aSw,arO⟩:=nm ([]:List ByteArray);rw[←arO.out]at H;obtain⟨rfl,rfl⟩:=s2 H;go_wp2_with (refine gG 64 ?_;refine DR 64 Kd.string 9 arO ?_;intro aSx Xx avh hb;have aCO:=ak (aC (dA avh (jC (ur bT.out))) (au (ul HB.out)));replace bT:=ak (dM (ur bT.out) (bZ avh) hb);replace HB:=bs HB hb;clear hb avh)
          go_ret2;exact⟨_,er,ur (ay aCO.out (fun _ hk=>trivial)),ul HB.out⟩
         ·replace H:=nl H;obtain⟨aCP,H⟩:=H;obtain⟨aSy,arP⟩:=nm (dI++[a0.extract (dV:Int).toNat (jD:Int).toNat]);rw[←arP.out]at H;have H':=ak H;clear H;go_wp2_with ((with_reducible refine bP (b:= .append) (xs:=#[.tmp 65, .tmp 67]) rfl ?_);(try(refine lC (by rfl) ?_;dsimp only));at_builtin;refine aP 65 67 Kd.string 23 9 (.string ⟨#[]⟩) 16 underlying23 info9 HB (ur bT.out) arP (by have:=aCP.out;omega) ?_;intro aSz w51 ho hb hg hat;have aCQ:=ak (ho);replace HB:=ak (hb);clear ho hb hg hat bT)
          go_roundg k2
          case measure=>exact kl
          case rel=>exact⟨_,_,rs,H',⟨kl⟩,⟨ur aCQ.out⟩,⟨ul HB.out⟩⟩
   ·obtain⟨rfl,rfl⟩:=s2 H;go_wp2;go_ret2;exact⟨_,er,ur bT.out,ul HB.out⟩
def nC.f(k:Nat)(a0:ByteArray):Option (Bool):=(cZ.f k a0).bind fun aCR=>(if aCR=true then((jk.f a0).bind fun aCS=>(some (aCS.toList==a0.toList)))else(some false))
theorem nC.calls{k:Nat}{a0:ByteArray}{r:Bool}{w:World}(h:nC.f k a0=some r):
  Calls Tryz.prog 200 #[.string a0] w fun e w'=>e= .returned (.bool r)∧Below w.heap.size w w':=by
 have HB:=ak (Below.refl w.heap.size w);unfold nC.f at h;have H:=h;clear h;replace H:=bd H;obtain⟨aCR,A2,H⟩:=H;replace H:=sb H;rcases H with⟨rfl,H⟩|⟨rfl,H⟩
 ·replace H:=bd H;obtain⟨aCS,A4,H⟩:=H;obtain rfl:=s1 H;go_enter func200,ntmps200;go_wp2_with (first|(refine gA func184 (cZ.calls A2.out) ?_;intro nd)|(go_at_call 180;refine mB (jk.calls A4.out) ?_;intro w5 hb;replace HB:=bs HB hb;clear hb))
  go_ret;exact⟨er,ul HB.out⟩
 ·obtain rfl:=s1 H;go_enter func200,ntmps200;go_wp2_with (refine gA func184 (cZ.calls A2.out) ?_;intro nd)
  go_ret;exact⟨er,ul HB.out⟩
def vN.f(k:Nat)(a0:ByteArray):Option (Bool):=(aU.f k a0).bind fun aCT=>(if aCT=true then(some (decide ((a0.size:Int)≤40)))else(some false))
theorem vN.calls{k:Nat}{a0:ByteArray}{r:Bool}{w:World}(h:vN.f k a0=some r):
  Calls Tryz.prog 201 #[.string a0] w fun e w'=>e= .returned (.bool r)∧dR w w':=by
 unfold vN.f at h;have H:=h;clear h;replace H:=bd H;obtain⟨aCT,A2,H⟩:=H;replace H:=sb H;rcases H with⟨rfl,H⟩|⟨rfl,H⟩
 ·obtain rfl:=s1 H;go_enter func201,ntmps201;go_wp2_with (refine gA func159 (aU.calls A2.out) ?_;intro nd)
  go_ret;exact⟨rs,dn⟩
 ·obtain rfl:=s1 H;go_enter func201,ntmps201;go_wp2_with (refine gA func159 (aU.calls A2.out) ?_;intro nd)
  go_ret;exact⟨rs,dn⟩
mutual
def fJ.l0:Nat→ByteArray→Int→Option (Bool)
 |0,_,_=>none
 |k+1,x0,x3=>if x3<(x0.size:Int)then(fJ.j1 k x0 x3 (decide (x3≤40)))else(fJ.j1 k x0 x3 false)
def fJ.j1:Nat→ByteArray→Int→Bool→Option (Bool)
 |0,_,_,_=>none
 |k+1,x0,x3,x11=>if x11=true then(if 0≤x3 then(if x3<(x0.size:Int)then((kS.f k (bt x0 x3)).bind fun t182=>(if t182=true then(fJ.l0 k x0 (wrap64 (x3+1)))else(some false)))else(none))else(none))else(if(x0.size:Int)≥1 then(some (decide ((x0.size:Int)≤40)))else(some false))
end
def fJ.f(k:Nat)(a0:ByteArray):Option (Bool):=fJ.l0 k a0 0
theorem fJ.calls{k:Nat}{a0:ByteArray}{r:Bool}{w:World}(h:fJ.f k a0=some r):
  Calls Tryz.prog 214 #[.string a0] w fun e w'=>e= .returned (.bool r)∧dR w w':=by
 unfold fJ.f at h;have H:=h;clear h;have H':=ak H;clear H;go_enter func214,ntmps214;go_wp2;go_loopg [3] k (fun kq v3 w'=>∃(eG:Int),v3= .int .i64 eG∧ah (fJ.l0 kq a0 eG=some r)∧ah (kq≤k)∧dR w w')
 case atStart=>exact⟨_,rs,H',⟨Nat.le_refl _⟩,dn⟩
 case round=>
  clear H';obtain⟨eG,rfl,HA,yN,⟨m1,rfl⟩⟩:=hrel
  cases gk with
  |zero=>exact zz HA.out
  |succ k1=>
   obtain⟨H⟩:=HA;simp only[fJ.l0]at H;have HC2:=ak H;clear H;go_upto_region 2 with(fail)
   go_cut [11] (fun v11 wc=>∃(kq:Nat) (yu:Bool),v11= .bool yu∧ah (fJ.j1 kq a0 eG yu=some r)∧ah (kq≤k1)∧dR w wc)
   case first=>
    have H:=HC2.out;clear HC2;replace H:=sd H;rcases H with⟨jd,H⟩|⟨jd,H⟩
    ·(first|rw[jd]|(simp only[gU,jP];rw[jd])|skip);have H':=ak H;clear H;go_wp2;go_meet
     case rel=>exact⟨_,_,rs,H',⟨kl⟩,dn⟩
    ·(first|rw[jd]|(simp only[gU,jP];rw[jd])|skip);have H':=ak H;clear H;go_wp2;go_meet
     case rel=>exact⟨_,_,rs,H',⟨kl⟩,dn⟩
   case rest=>
    clear HC2;obtain⟨kq,yu,rfl,HA,HJ1,⟨mc1,rfl⟩⟩:=hcut
    cases kq with
    |zero=>exact zz HA.out
    |succ TM=>
     obtain⟨H⟩:=HA;simp only[fJ.j1]at H;replace H:=sb H;rcases H with⟨rfl,H⟩|⟨rfl,H⟩
     ·replace H:=nY H;obtain⟨nO,H⟩:=H;replace H:=nY H;obtain⟨nP,H⟩:=H;replace H:=bd H;obtain⟨t182,A8,H⟩:=H;replace H:=sb H;rcases H with⟨rfl,H⟩|⟨rfl,H⟩
      ·have H':=ak H;clear H;obtain⟨p7,q7,hx7⟩:=bx a0 eG;go_wp2_with (refine gA func199 (kS.calls A8.out) ?_;intro nd)
       go_roundg TM
       case measure=>exact kl
       case rel=>exact⟨_,rs,H',⟨kl⟩,dn⟩
      ·obtain rfl:=s1 H;obtain⟨p7,q7,hx7⟩:=bx a0 eG;go_wp2_with (refine gA func199 (kS.calls A8.out) ?_;intro nd)
       go_ret;exact⟨rs,dn⟩
     ·replace H:=sp H;rcases H with⟨c10,H⟩|⟨c10,H⟩
      ·have qj:decide (1≤(a0.size:Int))=true:=decide_eq_true c10;have uN:decide (1≤a0.size)=true:=decide_eq_true (by omega);clear c10;obtain rfl:=s1 H;go_wp2;go_ret;exact⟨rs,dn⟩
      ·have qj:decide (1≤(a0.size:Int))=false:=decide_eq_false c10;have uN:decide (1≤a0.size)=false:=decide_eq_false (by omega);clear c10;obtain rfl:=s1 H;go_wp2;go_ret;exact⟨rs,dn⟩
def mG.l0:Nat→ByteArray→ByteArray→Int→Option (ByteArray)
 |0,_,_,_=>none
 |k+1,x0,x3,x4=>if x4<(x0.size:Int)then(if 0≤x4 then(if(bt x0 x4)=34 then((some (([92]:List Int):List Int)).bind fun ZY=>(if x3.size+(strOfNums ZY).size≤9223372036854775807 then(if x4≤(wrap64 (x4+1))then(if(wrap64 (x4+1))≤(x0.size:Int)then(if(x3++(strOfNums ZY)).size+(x0.extract (x4:Int).toNat ((wrap64 (x4+1)):Int).toNat).size≤9223372036854775807 then(mG.l0 k x0 ((x3++(strOfNums ZY))++(x0.extract (x4:Int).toNat ((wrap64 (x4+1)):Int).toNat)) (wrap64 (x4+1)))else(none))else(none))else(none))else(none)))else(if(bt x0 x4)=92 then((some (([92]:List Int):List Int)).bind fun Z4=>(if x3.size+(strOfNums Z4).size≤9223372036854775807 then(if x4≤(wrap64 (x4+1))then(if(wrap64 (x4+1))≤(x0.size:Int)then(if(x3++(strOfNums Z4)).size+(x0.extract (x4:Int).toNat ((wrap64 (x4+1)):Int).toNat).size≤9223372036854775807 then(mG.l0 k x0 ((x3++(strOfNums Z4))++(x0.extract (x4:Int).toNat ((wrap64 (x4+1)):Int).toNat)) (wrap64 (x4+1)))else(none))else(none))else(none))else(none)))else(if x4≤(wrap64 (x4+1))then(if(wrap64 (x4+1))≤(x0.size:Int)then(if x3.size+(x0.extract (x4:Int).toNat ((wrap64 (x4+1)):Int).toNat).size≤9223372036854775807 then(mG.l0 k x0 (x3++(x0.extract (x4:Int).toNat ((wrap64 (x4+1)):Int).toNat)) (wrap64 (x4+1)))else(none))else(none))else(none))))else(none))else(if x3.size+1≤9223372036854775807 then(some (x3++(⟨#[34]⟩:ByteArray)))else(none))
def mG.f(k:Nat)(a0:ByteArray):Option (ByteArray):=mG.l0 k a0 (⟨#[34]⟩:ByteArray) 0
theorem mG.calls{k:Nat}{a0 r:ByteArray}{w:World}(h:mG.f k a0=some r):
  Calls Tryz.prog 215 #[.string a0] w fun e w'=>e= .returned (.string r)∧Below w.heap.size w w':=by
 have HB:=ak (Below.refl w.heap.size w);unfold mG.f at h;have H:=h;clear h;have H':=ak H;clear H;go_enter func215,ntmps215;go_wp2;go_loopg [3,4] k (fun kq v3 v4 w'=>∃(eG:ByteArray) (dI:Int),v3= .string eG∧v4= .int .i64 dI∧ah (mG.l0 kq a0 eG dI=some r)∧ah (kq≤k)∧ah (Below w.heap.size w w'))
 case atStart=>exact⟨_,_,rs,rs,H',⟨Nat.le_refl _⟩,⟨ul HB.out⟩⟩
 case round=>
  clear H';obtain⟨eG,dI,rfl,rfl,HA,yN,HB⟩:=hrel
  cases gk with
  |zero=>exact zz HA.out
  |succ k1=>
   obtain⟨H⟩:=HA;simp only[mG.l0]at H;replace H:=sd H;rcases H with⟨rQ,H⟩|⟨rQ,H⟩
   ·replace H:=nY H;obtain⟨jd,H⟩:=H;replace H:=sq H;rcases H with⟨nO,QY,H⟩|⟨c5,nO,QY,H⟩
    ·replace H:=ny H;obtain⟨ZY,aCU,H⟩:=H;replace H:=nn H;obtain⟨c6,H⟩:=H;have nP:=eq_true c6;have zM:=decide_eq_true c6;try have amQ:(9223372036854775807<eG.size+(strOfNums ZY).size)=False:=eq_false (Nat.not_lt.2 c6)
     have sK:=eq_true (of_decide_eq_true (by assumption):0≤dI);replace H:=nn H;obtain⟨c8,H⟩:=H;have ru:=eq_true c8;have BI:=decide_eq_true c8;replace H:=nn H;obtain⟨c9,H⟩:=H;have xG:=eq_true c9;have CG:=decide_eq_true c9;replace H:=nn H;obtain⟨c10,H⟩:=H;have qj:=eq_true c10;have uN:=decide_eq_true c10;try have aw_:(9223372036854775807<eG.size+(strOfNums ZY).size+((a0.extract (dI:Int).toNat ((wrap64 (dI+1)):Int).toNat).size))=False:=by have h_:=c10;simp only[ByteArray.size_append,ByteArray.size_extract]at h_;refine eq_false ?_;simp only[decide_eq_true_eq]at*;omega
     try have aoO:(9223372036854775807<eG.size+(strOfNums ZY).size+((a0.extract (dI:Int).toNat ((wrap64 (dI+1)):Int).toNat).size))=False:=by have h_:=(eq_false (Nat.not_lt.2 c10):(9223372036854775807<(eG++(strOfNums ZY)).size+(a0.extract (dI:Int).toNat ((wrap64 (dI+1)):Int).toNat).size)=False);simp only[ByteArray.size_append]at h_;exact h_
     try have aaU:(9223372036854775807<(eG++(strOfNums ZY)).size+(a0.extract (dI:Int).toNat ((wrap64 (dI+1)):Int).toNat).size)=False:=eq_false (Nat.not_lt.2 c10)
     have H':=ak H;clear H;obtain⟨p4,q4,hx4⟩:=bx a0 dI;go_wp2_with (refine Vt 22 (Kd.int .u8) 5 [.int .u8 92] aCU (dP.one (show Kd.M (Kd.int .u8) _ _ _ 92 [.int .u8 92]from rfl) (dP.none _ _)) ?_;intro aSA X0 ajz hb;have aCV:=ak (aC ajz (au (ul HB.out)));replace HB:=bs HB hb;clear hb ajz;have aMd:=uO (P:=Tryz.prog) underlying22 underlying5 underlying9 (wG aCV.out))
     go_roundg k1
     case measure=>exact kl
     case rel=>exact⟨_,_,rs,rs,H',⟨kl⟩,⟨ul HB.out⟩⟩
    ·replace H:=sq H;rcases H with⟨uz,Cm,H⟩|⟨c15,uz,Cm,H⟩
     ·replace H:=ny H;obtain⟨Z4,aCW,H⟩:=H;replace H:=nn H;obtain⟨c16,H⟩:=H;have Dw:=eq_true c16;have Oy:=decide_eq_true c16;try have aMe:(9223372036854775807<eG.size+(strOfNums Z4).size)=False:=eq_false (Nat.not_lt.2 c16)
      have vY:=eq_true (of_decide_eq_true (by assumption):0≤dI);replace H:=nn H;obtain⟨c18,H⟩:=H;have Dt:=eq_true c18;have Vo:=decide_eq_true c18;replace H:=nn H;obtain⟨c19,H⟩:=H;have Du:=eq_true c19;have G8:=decide_eq_true c19;replace H:=nn H;obtain⟨c20,H⟩:=H;have OA:=eq_true c20;have Vs:=decide_eq_true c20;try have aMf:(9223372036854775807<eG.size+(strOfNums Z4).size+((a0.extract (dI:Int).toNat ((wrap64 (dI+1)):Int).toNat).size))=False:=by have h_:=c20;simp only[ByteArray.size_append,ByteArray.size_extract]at h_;refine eq_false ?_;simp only[decide_eq_true_eq]at*;omega
      try have aMg:(9223372036854775807<eG.size+(strOfNums Z4).size+((a0.extract (dI:Int).toNat ((wrap64 (dI+1)):Int).toNat).size))=False:=by have h_:=(eq_false (Nat.not_lt.2 c20):(9223372036854775807<(eG++(strOfNums Z4)).size+(a0.extract (dI:Int).toNat ((wrap64 (dI+1)):Int).toNat).size)=False);simp only[ByteArray.size_append]at h_;exact h_
      try have aMh:(9223372036854775807<(eG++(strOfNums Z4)).size+(a0.extract (dI:Int).toNat ((wrap64 (dI+1)):Int).toNat).size)=False:=eq_false (Nat.not_lt.2 c20)
      have H':=ak H;clear H;obtain⟨p4,q4,hx4⟩:=bx a0 dI;obtain⟨p14,q14,atu⟩:=bx a0 dI;go_wp2_with (refine Vt 22 (Kd.int .u8) 5 [.int .u8 92] aCW (dP.one (show Kd.M (Kd.int .u8) _ _ _ 92 [.int .u8 92]from rfl) (dP.none _ _)) ?_;intro aSB w21 adM hb;have aCX:=ak (aC adM (au (ul HB.out)));replace HB:=bs HB hb;clear hb adM;have aMi:=uO (P:=Tryz.prog) underlying22 underlying5 underlying9 (wG aCX.out))
      go_roundg k1
      case measure=>exact kl
      case rel=>exact⟨_,_,rs,rs,H',⟨kl⟩,⟨ul HB.out⟩⟩
     ·have Ei:=eq_true (of_decide_eq_true (by assumption):0≤dI);replace H:=nn H;obtain⟨c25,H⟩:=H;have Ej:=eq_true c25;have aaY:=decide_eq_true c25;replace H:=nn H;obtain⟨c26,H⟩:=H;have OC:=eq_true c26;have ae7:=decide_eq_true c26;replace H:=nn H;obtain⟨c27,H⟩:=H;have I7:=eq_true c27;have ae8:=decide_eq_true c27;try have aMj:(9223372036854775807<eG.size+((a0.extract (dI:Int).toNat ((wrap64 (dI+1)):Int).toNat).size))=False:=by have h_:=c27;simp only[ByteArray.size_append,ByteArray.size_extract]at h_;refine eq_false ?_;simp only[decide_eq_true_eq]at*;omega
      try have aMk:(9223372036854775807<eG.size+(a0.extract (dI:Int).toNat ((wrap64 (dI+1)):Int).toNat).size)=False:=eq_false (Nat.not_lt.2 c27)
      have H':=ak H;clear H;obtain⟨p4,q4,hx4⟩:=bx a0 dI;obtain⟨p14,q14,atu⟩:=bx a0 dI;go_wp2;go_roundg k1
      case measure=>exact kl
      case rel=>exact⟨_,_,rs,rs,H',⟨kl⟩,⟨ul HB.out⟩⟩
   ·replace H:=nn H;obtain⟨c28,H⟩:=H;have JC:=eq_true c28;have aft:=decide_eq_true c28;try have aMl:(9223372036854775807<eG.size+1)=False:=eq_false (Nat.not_lt.2 c28)
    obtain rfl:=s1 H;go_wp2;go_ret;exact⟨er,ul HB.out⟩
def uT.f(k:Nat)(a0:ByteArray):Option (ByteArray):=(aU.f k a0).bind fun aCY=>(if aCY=true then((fJ.f k a0).bind fun aCZ=>(if aCZ=true then(some a0)else((mG.f k a0).bind fun aC0=>(some aC0))))else(some (⟨#[]⟩:ByteArray)))
theorem uT.calls{k:Nat}{a0 r:ByteArray}{w:World}(h:uT.f k a0=some r):
  Calls Tryz.prog 202 #[.string a0] w fun e w'=>e= .returned (.string r)∧Below w.heap.size w w':=by
 have HB:=ak (Below.refl w.heap.size w);unfold uT.f at h;have H:=h;clear h;replace H:=bd H;obtain⟨aCY,A2,H⟩:=H;replace H:=sb H;rcases H with⟨rfl,H⟩|⟨rfl,H⟩
 ·replace H:=bd H;obtain⟨aCZ,A4,H⟩:=H;replace H:=sb H;rcases H with⟨rfl,H⟩|⟨rfl,H⟩
  ·obtain rfl:=s1 H;go_enter func202,ntmps202;go_wp2_with (first|(refine gA func159 (aU.calls A2.out) ?_;intro nd)|(refine gA func214 (fJ.calls A4.out) ?_;intro nd))
   go_ret;exact⟨er,ul HB.out⟩
  ·replace H:=bd H;obtain⟨aC0,A6,H⟩:=H;obtain rfl:=s1 H;go_enter func202,ntmps202;go_wp2_with (first|(refine gA func159 (aU.calls A2.out) ?_;intro nd)|(refine gA func214 (fJ.calls A4.out) ?_;intro nd)|(refine gB func215 (mG.calls A6.out) ?_;intro w7 hb;replace HB:=bs HB hb;clear hb))
   go_ret;exact⟨er,ul HB.out⟩
 ·obtain rfl:=s1 H;go_enter func202,ntmps202;go_wp2_with (refine gA func159 (aU.calls A2.out) ?_;intro nd)
  go_ret;exact⟨er,ul HB.out⟩
mutual
def dH.j0:Nat→Bool→ByteArray→ByteArray→List (fD)→Option (Bool)
 |0,_,_,_,_=>none
 |k+1,x21,UD,UE,AZ=>if x21=true then(some false)else(dH.l0 k (wrap64 ((wrap64 ((UD.size:Int)+(UE.size:Int)))+1)) 0 UD UE AZ)
def dH.l0:Nat→Int→Int→ByteArray→ByteArray→List (fD)→Option (Bool)
 |0,_,_,_,_,_=>none
 |k+1,x3,x4,UD,UE,AZ=>if x4<(AZ.length:Int)then(if 0≤x4 then((nC.f k ((eU AZ x4).f0)).bind fun aC1=>(if aC1=true then((vN.f k ((eU AZ x4).f1)).bind fun t198=>(if t198=true then(if x4≤(AZ.length:Int)then((lS.f k (AZ.take (x4:Int).toNat) ((eU AZ x4).f0)).bind fun t203=>(if t203≥0 then(some false)else((uT.f k ((eU AZ x4).f1)).bind fun aC2=>(dH.l0 k (wrap64 ((wrap64 ((wrap64 (x3+3))+(((eU AZ x4).f0).size:Int)))+(aC2.size:Int))) (wrap64 (x4+1)) UD UE AZ))))else(none))else(some false)))else(some false)))else(none))else(some (decide (x3≤150)))
end
def dH.f(k:Nat)(fK:ByteArray)(fP:ByteArray)(aQ:List (fD)):Option (Bool):=(nC.f k fK).bind fun t193=>(if t193=true then((nC.f k fP).bind fun t194=>(if t194=true then(dH.j0 k (decide ((aQ.length:Int)>4)) fK fP aQ)else(dH.j0 k true fK fP aQ)))else(dH.j0 k true fK fP aQ))
theorem dH.calls{k iP:Nat}{fK fP:ByteArray}{jI:Option Addr}{aQ:List (fD)}{r:Bool}{w:World}(nH:Kd.C rP w jI aQ.length aQ)(nI:aQ.length≤iP)(h:dH.f k fK fP aQ=some r):
  Calls Tryz.prog 182 #[.agg #[.string fK, .string fP, .slice jI aQ.length iP]] w fun e w'=>e= .returned (.bool r)∧Below w.heap.size w w':=by
 have abl:=underlying61;have Fg:=underlying69;have lT:=ak nH;have qh:=ak nI;clear nH nI;have HB:=ak (Below.refl w.heap.size w);unfold dH.f at h;have H:=h;clear h;have HC2:=ak H;clear H;go_enter func182,ntmps182;go_upto_region 1 with(refine gG 1 ?_;refine bX HB 1 #[.string fK, .string fP, .slice jI aQ.length iP] 61 ?_;intro TB w3 jw aMm hb;replace HB:=bs HB hb;clear hb)
 (try simp only[Act.put,C_,Dc,l_c]);go_cut [21] (fun v21 wc=>∃(kq:Nat) (ak2:Bool),v21= .bool ak2∧ah (dH.j0 kq ak2 fK fP aQ=some r)∧ah (kq≤k)∧ah (wc.heap[TB]? =some (.cells #[.string fK, .string fP,(.slice jI aQ.length iP)] 61 (0,0)))∧ah (Below w.heap.size w wc))
 case first=>
  have H:=HC2.out;clear HC2;replace H:=bd H;obtain⟨t193,A4,H⟩:=H;replace H:=sb H;rcases H with⟨rfl,H⟩|⟨rfl,H⟩
  ·replace H:=bd H;obtain⟨t194,A6,H⟩:=H;replace H:=sb H;rcases H with⟨rfl,H⟩|⟨rfl,H⟩
   ·have H':=ak H;clear H;have z8:=jY jw.out;go_wp2_with (first|(refine gB func200 (nC.calls A4.out) ?_;intro w9 hb;replace jw:=kb jw hb;replace HB:=bz HB hb;clear hb;have z10:=jY jw.out)|(go_at_call 200;refine mB (nC.calls A6.out) ?_;intro X0 hb;replace jw:=kb jw hb;replace HB:=bz HB hb;clear hb;have z12:=jY jw.out))
    go_meet
    case rel=>exact⟨_,_,rs,H',⟨JB⟩,⟨ub jw.out⟩,⟨bb⟩⟩
   ·have H':=ak H;clear H;have z13:=jY jw.out;go_wp2_with (first|(refine gB func200 (nC.calls A4.out) ?_;intro Xv hb;replace jw:=kb jw hb;replace HB:=bz HB hb;clear hb;have z15:=jY jw.out)|(go_at_call 200;refine mB (nC.calls A6.out) ?_;intro w16 hb;replace jw:=kb jw hb;replace HB:=bz HB hb;clear hb))
    go_meet
    case rel=>exact⟨_,_,rs,H',⟨JB⟩,⟨ub jw.out⟩,⟨bb⟩⟩
  ·have H':=ak H;clear H;have z17:=jY jw.out;go_wp2_with (refine gB func200 (nC.calls A4.out) ?_;intro w18 hb;replace jw:=kb jw hb;replace HB:=bz HB hb;clear hb)
   go_meet
   case rel=>exact⟨_,_,rs,H',⟨JB⟩,⟨ub jw.out⟩,⟨bb⟩⟩
 case rest=>
  clear HC2;obtain⟨kq,ak2,rfl,HA,HJ1,jw,HB⟩:=hcut
  cases kq with
  |zero=>exact zz HA.out
  |succ TM=>
   obtain⟨H⟩:=HA;simp only[dH.j0]at H;replace H:=sb H;rcases H with⟨rfl,H⟩|⟨rfl,H⟩
   ·obtain rfl:=s1 H;go_wp2;go_ret;exact⟨er,bb⟩
   ·have H':=ak H;clear H;have z20:=jY jw.out;go_wp2;go_loopg [3,4] TM (fun kq v3 v4 w'=>∃(nV:Int) (qZ:Int),v3= .int .i64 nV∧v4= .int .i64 qZ∧ah (dH.l0 kq nV qZ fK fP aQ=some r)∧ah (kq≤TM)∧ah (w'.heap[TB]? =some (.cells #[.string fK, .string fP,(.slice jI aQ.length iP)] 61 (0,0)))∧ah (Below w.heap.size w w'))
    case atStart=>exact⟨_,_,rs,rs,H',⟨Nat.le_refl _⟩,⟨ub jw.out⟩,⟨bb⟩⟩
    case round=>
     clear H';obtain⟨nV,qZ,rfl,rfl,HA,HK2,jw,HB⟩:=hrel
     cases gk with
     |zero=>exact zz HA.out
     |succ k2=>
      obtain⟨H⟩:=HA;simp only[dH.l0]at H;replace H:=sd H;rcases H with⟨Dx,H⟩|⟨Dx,H⟩
      ·replace H:=nY H;obtain⟨I5,H⟩:=H;replace H:=bd H;obtain⟨aC1,A23,H⟩:=H;replace H:=sb H;rcases H with⟨rfl,H⟩|⟨rfl,H⟩
       ·replace H:=bd H;obtain⟨t198,A25,H⟩:=H;replace H:=sb H;rcases H with⟨rfl,H⟩|⟨rfl,H⟩
        ·have I7:=eq_true (of_decide_eq_true (by assumption):0≤qZ);replace H:=zh H;obtain⟨JC,aft,H⟩:=H;obtain⟨anP,abL⟩:=nm (aQ.take (qZ:Int).toNat);rw[←abL.out]at H;replace H:=bd H;obtain⟨t203,A29,H⟩:=H;replace H:=sp H;rcases H with⟨c30,H⟩|⟨c30,H⟩
         ·have ae_:decide (0≤t203)=true:=decide_eq_true c30;clear c30;obtain rfl:=s1 H;have z31:=jY jw.out;have Nr:=zi qZ;have Ns:=zj qZ aQ.length;obtain⟨PN,e195,A_,Ba⟩:=su lT.out qZ Nr Ns;cases e195;replace A_:=cl HB.out A_;replace Ba:=cl HB.out Ba;replace Nr:=eq_true Nr;replace Ns:=eq_true Ns;try go_wp2_with (refine gG 5 ?_;refine bY HB 5 #[.string (⟨#[]⟩:ByteArray), .string (⟨#[]⟩:ByteArray)] 69 ?_;intro Hy w32 pO Wv hg hb;have wQ:=Bo jw hg;have BQ:=Bq jw hg;replace jw:=kb jw hb;replace HB:=bz HB hb;clear hb hg;have aBy:=BQ.out;have aBz:=wQ.out;have z34:=Am pO.out)
          refine ab2 HB pO Wv ?_;intro w35 EN hk HB;replace jw:=kf jw hk wQ;clear hk pO;have pO:=EN;clear EN;refine rO [2,7,17] [0,1,2,3,4,5,6,7,8,9,10,11,13,15,12,14,16,17,18,19] (fun w'=>w'.cell? ⟨Hy,0,none⟩=some (.string ((eU aQ qZ).f0))∧w'.cell? ⟨Hy,1,none⟩=some (.string ((eU aQ qZ).f1))∧w'.cell? ⟨TB,0,none⟩=some (.string fK)∧w'.cell? ⟨TB,1,none⟩=some (.string fP)∧w'.cell? ⟨TB,2,none⟩=some (.slice (some PN) aQ.length iP)) ?_;intro w36 hb;replace jw:=kb jw hb;replace pO:=kb pO hb;replace HB:=bs HB hb;refine⟨sx,?_⟩;repeat refine Bv ?_
          refine rB func200 (nC.calls A23.out) ?_;intro w37 hb;replace jw:=kb jw hb;replace pO:=kb pO hb;replace HB:=bz HB hb;clear hb;refine⟨sx,?_⟩;repeat refine Bv ?_
          refine rA func201 (vN.calls A25.out) ?_;intro nd;have q38:(qZ:Int)≤((aQ.length:Int):Int):=of_decide_eq_true (by assumption);obtain⟨aSC,arQ,_,aC3,_⟩:=info_parts CZ;have afM:aQ.length≤iP:=qh.out;have aC4:Kd.C rP _ (some PN) aQ.length aQ:=lT.out;have avi:=Zu (P:=Tryz.prog) 25 69 .i64 underlying25 arQ (some PN) aQ.length iP qZ (of_decide_eq_true (by assumption)) q38 afM;have avj:=Zv (m:=(qZ:Int).toNat) aC4 (by omega);have hy38:anP.length=(qZ:Int).toNat:=(by rw[abL.out,List.length_take];omega)
          rw[←abL.out]at avj;rw[←hy38]at avi;have ak3:=ak avj;have ak4:=ak (show anP.length≤iP from by omega);clear avj aC4 afM arQ aC3;have aSD:=ak hy38;clear hy38;replace q38:=eq_true q38;refine⟨sx,?_⟩;repeat refine Bv ?_
          refine rB func177 (lS.calls (cu (aK ak3.out bb)) ak4.out A29.out) ?_;intro w39 hb;replace jw:=kb jw hb;replace pO:=kb pO hb;replace HB:=bz HB hb;clear hb;refine⟨sx,?_⟩;repeat refine Bv ?_
          refine on ?_;try go_wp2
          go_ret;exact⟨er,bb⟩
         ·have ae_:decide (0≤t203)=false:=decide_eq_false c30;clear c30;replace H:=bd H;obtain⟨aC2,A40,H⟩:=H;have H':=ak H;clear H;have at7:=jY jw.out;have Nr:=zi qZ;have Ns:=zj qZ aQ.length;obtain⟨PN,e195,A_,Ba⟩:=su lT.out qZ Nr Ns;cases e195;replace A_:=cl HB.out A_;replace Ba:=cl HB.out Ba;replace Nr:=eq_true Nr;replace Ns:=eq_true Ns;try go_wp2_with (refine gG 5 ?_;refine bY HB 5 #[.string (⟨#[]⟩:ByteArray), .string (⟨#[]⟩:ByteArray)] 69 ?_;intro Hy w42 pO Wv hg hb;have wQ:=Bo jw hg;have BQ:=Bq jw hg;replace jw:=kb jw hb;replace HB:=bz HB hb;clear hb hg;have aBO:=BQ.out;have aBP:=wQ.out;have aIB:=Am pO.out)
          refine ab2 HB pO Wv ?_;intro w45 EN hk HB;replace jw:=kf jw hk wQ;clear hk pO;have pO:=EN;clear EN;refine rO [2,7,17] [0,1,2,3,4,5,6,7,8,9,10,11,13,15,12,14,16,17,18,19] (fun w'=>w'.cell? ⟨Hy,0,none⟩=some (.string ((eU aQ qZ).f0))∧w'.cell? ⟨Hy,1,none⟩=some (.string ((eU aQ qZ).f1))∧w'.cell? ⟨TB,0,none⟩=some (.string fK)∧w'.cell? ⟨TB,1,none⟩=some (.string fP)∧w'.cell? ⟨TB,2,none⟩=some (.slice (some PN) aQ.length iP)) ?_;intro w46 hb;replace jw:=kb jw hb;replace pO:=kb pO hb;replace HB:=bs HB hb;refine⟨sx,?_⟩;repeat refine Bv ?_
          refine rB func200 (nC.calls A23.out) ?_;intro w47 hb;replace jw:=kb jw hb;replace pO:=kb pO hb;replace HB:=bz HB hb;clear hb;refine⟨sx,?_⟩;repeat refine Bv ?_
          refine rA func201 (vN.calls A25.out) ?_;intro nd;have q48:(qZ:Int)≤((aQ.length:Int):Int):=of_decide_eq_true (by assumption);obtain⟨aSE,arR,_,aC5,_⟩:=info_parts CZ;have afN:aQ.length≤iP:=qh.out;have aC6:Kd.C rP _ (some PN) aQ.length aQ:=lT.out;have avk:=Zu (P:=Tryz.prog) 25 69 .i64 underlying25 arR (some PN) aQ.length iP qZ (of_decide_eq_true (by assumption)) q48 afN;have avl:=Zv (m:=(qZ:Int).toNat) aC6 (by omega);have avm:anP.length=(qZ:Int).toNat:=(by rw[abL.out,List.length_take];omega)
          rw[←abL.out]at avl;rw[←avm]at avk;have ak3:=ak avl;have ak4:=ak (show anP.length≤iP from by omega);clear avl aC6 afN arR aC5;have aSF:=ak avm;clear avm;replace q48:=eq_true q48;refine⟨sx,?_⟩;repeat refine Bv ?_
          refine rB func177 (lS.calls (cu (aK ak3.out bb)) ak4.out A29.out) ?_;intro w49 hb;replace jw:=kb jw hb;replace pO:=kb pO hb;replace HB:=bz HB hb;clear hb;refine⟨sx,?_⟩;repeat refine Bv ?_
          refine on ?_;try go_wp2
          refine rO [8] [0,1,2,6,3,4,5,7,8,9,10,11] (fun w'=>w'.cell? ⟨Hy,0,none⟩=some (.string ((eU aQ qZ).f0))∧w'.cell? ⟨Hy,1,none⟩=some (.string ((eU aQ qZ).f1))) ?_;intro w50 hb;replace jw:=kb jw hb;replace pO:=kb pO hb;replace HB:=bs HB hb;refine⟨sx,?_⟩;repeat refine Bv ?_
          refine rB func202 (uT.calls A40.out) ?_;intro w51 hb;replace jw:=kb jw hb;replace pO:=kb pO hb;replace HB:=bz HB hb;clear hb;refine⟨sx,?_⟩;repeat refine Bv ?_
          refine on ?_;try go_wp2
          go_roundg k2
          case measure=>exact kl
          case rel=>exact⟨_,_,rs,rs,H',⟨kl⟩,⟨ub jw.out⟩,⟨bb⟩⟩
        ·obtain rfl:=s1 H;have z52:=jY jw.out;have Nr:=zi qZ;have Ns:=zj qZ aQ.length;obtain⟨PN,e195,A_,Ba⟩:=su lT.out qZ Nr Ns;cases e195;replace A_:=cl HB.out A_;replace Ba:=cl HB.out Ba;replace Nr:=eq_true Nr;replace Ns:=eq_true Ns;try go_wp2_with (refine gG 5 ?_;refine bY HB 5 #[.string (⟨#[]⟩:ByteArray), .string (⟨#[]⟩:ByteArray)] 69 ?_;intro Hy w53 pO Wv hg hb;have wQ:=Bo jw hg;have BQ:=Bq jw hg;replace jw:=kb jw hb;replace HB:=bz HB hb;clear hb hg;have aMn:=BQ.out;have aMo:=wQ.out;have z55:=Am pO.out)
         refine ab2 HB pO Wv ?_;intro w56 EN hk HB;replace jw:=kf jw hk wQ;clear hk pO;have pO:=EN;clear EN;refine rO [2,7] [0,1,2,3,4,5,6,7,8,9,10,11,12,13,14,15,16,17,18,19] (fun w'=>w'.cell? ⟨Hy,0,none⟩=some (.string ((eU aQ qZ).f0))∧w'.cell? ⟨Hy,1,none⟩=some (.string ((eU aQ qZ).f1))) ?_;intro w57 hb;replace jw:=kb jw hb;replace pO:=kb pO hb;replace HB:=bs HB hb;refine⟨sx,?_⟩;repeat(first|refine Bv ?_|refine Zf ?_)
         refine rB func200 (nC.calls A23.out) ?_;intro w58 hb;replace jw:=kb jw hb;replace pO:=kb pO hb;replace HB:=bz HB hb;clear hb;refine⟨sx,?_⟩;repeat(first|refine Bv ?_|refine Zf ?_)
         refine rA func201 (vN.calls A25.out) ?_;intro nd;refine⟨sx,?_⟩;repeat(first|refine Bv ?_|refine Zf ?_)
         refine on ?_;try go_wp2
         go_ret;exact⟨er,bb⟩
       ·obtain rfl:=s1 H;have z59:=jY jw.out;have Nr:=zi qZ;have Ns:=zj qZ aQ.length;obtain⟨PN,e195,A_,Ba⟩:=su lT.out qZ Nr Ns;cases e195;replace A_:=cl HB.out A_;replace Ba:=cl HB.out Ba;replace Nr:=eq_true Nr;replace Ns:=eq_true Ns;try go_wp2_with (refine gG 5 ?_;refine bY HB 5 #[.string (⟨#[]⟩:ByteArray), .string (⟨#[]⟩:ByteArray)] 69 ?_;intro Hy w60 pO Wv hg hb;have wQ:=Bo jw hg;have BQ:=Bq jw hg;replace jw:=kb jw hb;replace HB:=bz HB hb;clear hb hg;have aMp:=BQ.out;have aMq:=wQ.out;have z62:=Am pO.out)
        refine ab2 HB pO Wv ?_;intro w63 EN hk HB;replace jw:=kf jw hk wQ;clear hk pO;have pO:=EN;clear EN;refine rO [2] [0,1,2,3,4,5,6,7,8,9,10,11,12,13,14,15,16,17,18,19] (fun w'=>w'.cell? ⟨Hy,0,none⟩=some (.string ((eU aQ qZ).f0))∧w'.cell? ⟨Hy,1,none⟩=some (.string ((eU aQ qZ).f1))) ?_;intro w64 hb;replace jw:=kb jw hb;replace pO:=kb pO hb;replace HB:=bs HB hb;refine⟨sx,?_⟩;repeat(first|refine Bv ?_|refine Zf ?_)
        refine rB func200 (nC.calls A23.out) ?_;intro w65 hb;replace jw:=kb jw hb;replace pO:=kb pO hb;replace HB:=bz HB hb;clear hb;refine⟨sx,?_⟩;repeat(first|refine Bv ?_|refine Zf ?_)
        refine on ?_;try go_wp2
        go_ret;exact⟨er,bb⟩
      ·obtain rfl:=s1 H;have z66:=jY jw.out;go_wp2;go_ret;exact⟨er,bb⟩
mutual
def bG.l0:Nat→ByteArray→Bool→Bool→ByteArray→ByteArray→List (fD)→Option (ByteArray×ByteArray×(List (fD))×Bool)
 |0,_,_,_,_,_,_=>none
 |k+1,x5,x6,x9,IL,IQ,FZ=>if x6=true then((kP.f k x5 59).bind fun Wx=>((bI.f k Wx.1).bind fun aC7=>((kP.f k aC7 61).bind fun abM=>((bI.f k abM.2.1).bind fun aC8=>((gI.f k aC8).bind fun abN=>(if abM.2.2=true then(if abN.2=true then(bG.j1 k Wx.2.1 Wx.2.2 x9 abM.1 abN.1 ((abN.1.length:Int) !=1) IL IQ FZ)else(bG.j1 k Wx.2.1 Wx.2.2 x9 abM.1 abN.1 true IL IQ FZ))else(bG.j1 k Wx.2.1 Wx.2.2 x9 abM.1 abN.1 true IL IQ FZ)))))))else(if x9=true then((dH.f k IL IQ FZ).bind fun aC9=>(if aC9=true then(some (IL,IQ,FZ,true))else(some ((⟨#[]⟩:ByteArray),(⟨#[]⟩:ByteArray),([]:List (fD)),false))))else(some ((⟨#[]⟩:ByteArray),(⟨#[]⟩:ByteArray),([]:List (fD)),false)))
def bG.j1:Nat→ByteArray→Bool→Bool→ByteArray→List ByteArray→Bool→ByteArray→ByteArray→List (fD)→Option (ByteArray×ByteArray×(List (fD))×Bool)
 |0,_,_,_,_,_,_,_,_,_=>none
 |k+1,x5,x6,x9,x12,x15,x69,IL,IQ,FZ=>if x69=true then(some ((⟨#[]⟩:ByteArray),(⟨#[]⟩:ByteArray),([]:List (fD)),false))else((bI.f k x12).bind fun avn=>((jk.f avn).bind fun ahe=>(if 0<(x15.length:Int)then(if FZ.length<4398046511104 then(bG.l0 k x5 x6 x9 IL IQ (FZ++[(⟨ahe,iD ByteArray.empty x15 0⟩:fD)]))else(none))else(none))))
end
def bG.f(k:Nat)(a0:ByteArray):Option (ByteArray×ByteArray×(List (fD))×Bool):=(aU.f k a0).bind fun t206=>(if t206=true then((kP.f k a0 59).bind fun ak5=>((bI.f k ak5.1).bind fun t210=>((kP.f k t210 47).bind fun ak6=>((jk.f ak6.1).bind fun Z5=>((jk.f ak6.2.1).bind fun Z7=>(bG.l0 k ak5.2.1 ak5.2.2 ak6.2.2 Z5 Z7 ([]:List (fD))))))))else(some ((⟨#[]⟩:ByteArray),(⟨#[]⟩:ByteArray),([]:List (fD)),false)))
def bG.T13:Bool×List (List Nat×List Nat):=(true,[([],[]),([0],[0]),([],[]),([2],[2]),([3,3],[3]),([],[]),([5],[5]),([6],[6]),([4,7],[4,7]),([8],[8]),([1,9,4],[1,9]),([0,1,2,3,4,5,6,7,8,9,10],[]),([11,10,10,0,1,2,3,4,5,6,7,8,9,10],[10,11])])
def bG.B13:List Nat:=[0,1,0,4,12,0,32,96,252,508,1023,2047,4095]
theorem bG.ajQ:Ap .any (opsOf Tryz.f155 13)=bG.T13:=by kernel_rfl
theorem bG.adh:Aq bG.T13.2 bG.B13=true:=by kernel_rfl
theorem bG.calls{k:Nat}{a0 r1 r2:ByteArray}{r3:List (fD)}{r4:Bool}{w:World}(h:bG.f k a0=some (r1,r2,r3,r4)):
  Calls Tryz.prog 155 #[.string a0] w fun e w'=>∃IZ:Value,e= .returned (.tuple #[.agg #[.string r1, .string r2,IZ], .bool r4])∧Kd.R rP 69 w' w.heap.size (fun _=>True) IZ r3∧Below w.heap.size w w':=by
 have abl:=underlying61;have Fg:=underlying69;have HB:=ak (Below.refl w.heap.size w);unfold bG.f at h;have H:=h;clear h;replace H:=bd H;obtain⟨t206,A2,H⟩:=H;replace H:=sb H;rcases H with⟨rfl,H⟩|⟨rfl,H⟩
 ·replace H:=bd H;obtain⟨⟨aSG,t208,aSH⟩,A4,H⟩:=H
  (try dsimp only at H);replace H:=bd H;obtain⟨t210,A5,H⟩:=H;replace H:=bd H;obtain⟨⟨aSI,t212,t213⟩,A6,H⟩:=H
  (try dsimp only at H);replace H:=bd H;obtain⟨Z5,A7,H⟩:=H;replace H:=bd H;obtain⟨Z7,A8,H⟩:=H;have H':=ak H;clear H;go_enter func155,ntmps155;go_wp2_with (first|(refine gG 2 ?_;refine bX HB 2 #[.string (⟨#[]⟩:ByteArray), .string (⟨#[]⟩:ByteArray), .slice none 0 0] 61 ?_;intro PO w9 o7 aC_ hb;replace HB:=bs HB hb;clear hb)|(refine gD func159 (aU.calls A2.out) ?_;intro w9 hb;replace o7:=kb o7 hb;replace HB:=bz HB hb;clear hb)|(refine gD func178 (kP.calls A4.out) ?_;intro w9 hb;replace o7:=kb o7 hb;replace HB:=bz HB hb;clear hb)|(refine gD func179 (bI.calls A5.out) ?_;intro w9 hb;replace o7:=kb o7 hb;replace HB:=bz HB hb;clear hb)|(refine gD func178 (kP.calls A6.out) ?_;intro w9 hb;replace o7:=kb o7 hb;replace HB:=bz HB hb;clear hb)|(refine gB func180 (jk.calls A7.out) ?_;intro w10 hb;replace o7:=kb o7 hb;replace HB:=bz HB hb;clear hb)|(refine gB func180 (jk.calls A8.out) ?_;intro X0 hb;replace o7:=kb o7 hb;replace HB:=bz HB hb;clear hb)|(refine gG 10 ?_;refine bY HB 10 #[.string (⟨#[]⟩:ByteArray), .string (⟨#[]⟩:ByteArray), .slice none 0 0] 61 ?_;intro Wy w12 qW aMr hg hb;have Ea:=Bo o7 hg;have Eb:=Bq o7 hg;replace o7:=kb o7 hb;replace HB:=bz HB hb;clear hb hg;have ayv:=Eb.out;have ayw:=Ea.out;have z14:=jY qW.out))
  go_loopg [5,6] k (fun kq v5 v6 w'=>∃(dV:ByteArray) (gZ:Bool) (KQ:ByteArray) (KR:ByteArray) (Ai:List (fD)) (DZ:Value),v5= .string dV∧v6= .bool gZ∧ah (bG.l0 kq dV gZ t213 Z5 Z7 Ai=some (r1,r2,r3,r4))∧ah (kq≤k)∧ah (Kd.R rP 69 w' w.heap.size (fun _=>True) DZ Ai)∧ah (w'.heap[PO]? =some (.cells #[.string KQ, .string KR,(.slice none 0 0)] 61 (0,0)))∧ah (w'.heap[Wy]? =some (.cells #[.string Z5, .string Z7,DZ] 61 (0,0)))∧ah (Below w.heap.size w w'))
  case atStart=>exact⟨_,_,_,_,_,_,rs,rs,H',⟨Nat.le_refl _⟩,⟨nx⟩,⟨bq⟩,⟨bq⟩,⟨bb⟩⟩
  case round=>
   clear H';obtain⟨dV,gZ,KQ,KR,Ai,DZ,rfl,rfl,HA,yN,lg,o7,qW,HB⟩:=hrel
   cases gk with
   |zero=>exact zz HA.out
   |succ k1=>
    obtain⟨H⟩:=HA;simp only[bG.l0]at H;replace H:=sb H;rcases H with⟨rfl,H⟩|⟨rfl,H⟩
    ·replace H:=bd H;obtain⟨⟨t218,aIC,aID⟩,A16,H⟩:=H
     (try dsimp only at H);replace H:=bd H;obtain⟨aC7,A17,H⟩:=H;replace H:=bd H;obtain⟨⟨t222,aSJ,aSK⟩,A18,H⟩:=H
     (try dsimp only at H);replace H:=bd H;obtain⟨aC8,A19,H⟩:=H;replace H:=bd H;obtain⟨⟨t226,t227⟩,A20,H⟩:=H
     (try dsimp only at H);have avo:=ak H;clear H;go_upto_region 11 with(first|(refine gA func178 (kP.calls A16.out) ?_;intro nd)|(refine gA func179 (bI.calls A17.out) ?_;intro nd)|(refine gA func178 (kP.calls A18.out) ?_;intro nd)|(refine gA func179 (bI.calls A19.out) ?_;intro nd)|(refine gV func181 (gI.calls A20.out) ?_;rintro v228 w22 ⟨ho0,hb⟩;have afO:=ak (aC ho0 (au bb));replace lg:=rb lg hb;replace o7:=kb o7 hb;replace qW:=kb qW hb;replace HB:=bz HB hb;clear hb;(try clear ho0)))
     (try simp only[Act.put,C_,Dc,l_c]);go_cut [69] (fun v69 wc=>∃(kq:Nat) (adN:Bool),v69= .bool adN∧ah (bG.j1 kq aIC aID t213 t222 t226 adN Z5 Z7 Ai=some (r1,r2,r3,r4))∧ah (kq≤k1)∧ah (Kd.R Kd.string 9 wc w.heap.size (fun _=>True) v228 t226)∧ah (Kd.R rP 69 wc w.heap.size (fun _=>True) DZ Ai)∧ah (wc.heap[PO]? =some (.cells #[.string KQ, .string KR,(.slice none 0 0)] 61 (0,0)))∧ah (wc.heap[Wy]? =some (.cells #[.string Z5, .string Z7,DZ] 61 (0,0)))∧ah (Below w.heap.size w wc))
     case first=>
      have H:=avo.out;clear avo;replace H:=sb H;rcases H with⟨rfl,H⟩|⟨rfl,H⟩
      ·replace H:=sb H;rcases H with⟨rfl,H⟩|⟨rfl,H⟩
       ·have H':=ak H;clear H;obtain⟨Hw,Gv,akH⟩:=aI afO.out;subst akH;go_wp2;go_meet
        case rel=>exact⟨_,_,rs,H',⟨kl⟩,⟨ur afO.out⟩,⟨ur lg.out⟩,⟨ub o7.out⟩,⟨ub qW.out⟩,⟨bb⟩⟩
       ·have H':=ak H;clear H;go_wp2;go_meet
        case rel=>exact⟨_,_,rs,H',⟨kl⟩,⟨ur afO.out⟩,⟨ur lg.out⟩,⟨ub o7.out⟩,⟨ub qW.out⟩,⟨bb⟩⟩
      ·have H':=ak H;clear H;go_wp2;go_meet
       case rel=>exact⟨_,_,rs,H',⟨kl⟩,⟨ur afO.out⟩,⟨ur lg.out⟩,⟨ub o7.out⟩,⟨ub qW.out⟩,⟨bb⟩⟩
     case rest=>
      clear avo;obtain⟨kq,adN,rfl,HA,aDa,Md,lg,o7,qW,HB⟩:=hcut
      cases kq with
      |zero=>exact zz HA.out
      |succ aIE=>
       obtain⟨H⟩:=HA;simp only[bG.j1]at H;replace H:=sb H;rcases H with⟨rfl,H⟩|⟨rfl,H⟩
       ·obtain⟨rfl,rfl,rfl,rfl⟩:=s4 H;have apO:=Ea.out;have apP:=Eb.out;have am5:=jY o7.out;go_wp2;refine bodyPost_ret (gu rfl _ _ PO 61 #[.string (⟨#[]⟩:ByteArray), .string (⟨#[]⟩:ByteArray), .slice none 0 0] (0,0) _ rfl bq underlying61 rfl (by kernel_rfl)) rfl ?_;exact⟨_,er,nx,bb⟩
       ·replace H:=bd H;obtain⟨avn,A29,H⟩:=H;replace H:=bd H;obtain⟨ahe,A30,H⟩:=H;replace H:=nn H;obtain⟨c31,H⟩:=H;have afa:=decide_eq_true c31;have aiN:decide (0<t226.length)=true:=decide_eq_true (by omega);clear c31;replace H:=nl H;obtain⟨aDb,H⟩:=H;obtain⟨aSL,arS⟩:=nm (Ai++[(⟨ahe,iD ByteArray.empty t226 0⟩:fD)]);rw[←arS.out]at H;have H':=ak H;clear H;try go_wp2
        replace Md:=ak (uh Md.out);replace lg:=ak (uh lg.out);replace o7:=ak (pG o7.out);replace qW:=ak (pG qW.out);replace HB:=ak (jG HB.out);obtain⟨aB6,aB7,ahc⟩:=aI Md.out
        (first|subst ahc|(injection ahc with Dy Lp Dz;have Lr:=Dy.symm;have Ls:=Dz.symm;clear Dy Lp Dz;subst Lr;subst Ls));have avp:0≤(0:Int):=(by omega)
        have avq:0<(t226.length:Int):=of_decide_eq_true (by assumption);obtain⟨aDc,e232,UF⟩:=bV (aj Md.out).2.2 0 avp avq;cases e232;have aMs:(0<t226.length)=True:=eq_true (by omega)
        (try rw[show((0:Int)).toNat=0 from rfl]at UF)
        (try rw[Addr.add_zero']at UF);replace avp:=eq_true avp;replace avq:=eq_true avq;refine MP (n:=13) (S:=fun w'=>w'.cell? ⟨Wy,0,none⟩=some (.string Z5)∧w'.cell? ⟨Wy,1,none⟩=some (.string Z7)∧w'.cell? ⟨Wy,2,none⟩=some (DZ)∧w'.cell? aDc=some (.string (iD ByteArray.empty t226 0))) (ds:=[10,12]) #[false,false,false,false,false,false,false,false,false,false,false,false,false] (by kernel_rfl) rfl rfl ⟨(bf qW.out 0).trans rfl,(bf qW.out 1).trans rfl,(bf qW.out 2).trans rfl,UF⟩ (fun hHeld=>?_);refine D7 bG.ajQ bG.adh (fun Vw HW_=>?_)
        generalize wc.drew=w33 at Md lg o7 qW HB UF hHeld⊢
        refine pl 0 ?_;refine pl 2 ?_;refine pl 5 ?_;refine pl 6 ?_;refine tk 1 ?_;refine tk 7 ?_;refine o1 3 (fun K hK=>?_);refine G5 func179 (by kernel_rfl) rfl #[.string t222] (by rfl) rfl rfl ma ?_
        with_reducible refine(bI.calls A29.out).mono ?_
        rintro e w' ⟨rfl,⟨nd,rfl⟩⟩;refine⟨_,rfl,?_⟩;refine hK.out _ _ ⟨(bf qW.out 0).trans rfl,(bf qW.out 1).trans rfl,(bf qW.out 2).trans rfl,hHeld.2.2.2⟩ (fun hHeld=>?_);clear hK K;refine nrm ?_;refine o1 4 (fun K hK=>?_);refine G5 func180 (by kernel_rfl) rfl #[.string avn] (by rfl) rfl rfl ma ?_
        with_reducible refine(jk.calls A30.out).mono ?_
        rintro e w35 ⟨rfl,hb⟩;have auk:=(hb.cell (World.block_lt_of_cell? _ _ (hHeld.2.2.2))).trans (hHeld.2.2.2);refine⟨_,rfl,?_⟩;replace Md:=rb Md hb;replace lg:=rb lg hb;replace o7:=kb o7 hb;replace qW:=kb qW hb;replace HB:=bz HB hb;try clear hb
        refine hK.out _ _ ⟨(bf qW.out 0).trans rfl,(bf qW.out 1).trans rfl,(bf qW.out 2).trans rfl,auk⟩ (fun hHeld=>?_);clear hK K;refine nrm ?_;refine pl 8 ?_;refine o1 9 (fun K hK=>?_);refine Q_ (w1:=?_) (v:=?_) (by rfl) rfl ?_ ?_
        rotate_left 2
        ·go_simp;constructor
         ·rfl
         ·rfl
        refine hK.out _ _ ⟨(bf (sO qW.out _) 0).trans rfl,(bf (sO qW.out _) 1).trans rfl,(bf (sO qW.out _) 2).trans rfl,(World.cell?_alloc_lt _ _ _ (World.block_lt_of_cell? _ _ (hHeld.2.2.2))).trans (hHeld.2.2.2)⟩ (fun hHeld=>?_);clear hK K;refine nrm ?_;refine Yq (i:=10) (N:=some 81) #[true,true,true,true,true,true,true,true,true,true,true,false,false] rfl rfl (MZ Vw.out (by kernel_rfl)) (by decide) (fun K hK=>?_);refine xU rP (w0:=w) w.heap.size (by rfl) (.tmp 72) (.tmp 80) 25 69 (.agg #[(.string ⟨#[]⟩),(.string ⟨#[]⟩)]) 32 rfl underlying25 CZ rfl (by decide) (by omega) DZ Ai (⟨ahe,iD ByteArray.empty t226 0⟩:fD) [.string ahe, .string (iD ByteArray.empty t226 0)] (fun _=>True) (fun _=>False) rfl rfl ?aP (fun _ hk=>hk.elim) ?aF ?aO ?aB ?aS ?aL ?_
        (case aP=>exact wX _ _ _ (⟨ahe,iD ByteArray.empty t226 0⟩:fD))
        (case aB=>exact bb)
        (case aF=>exact(fun _ _=>trivial))
        (case aO=>exact(ur lg.out))
        (case aS=>exact(au bb))
        (case aL=>have:=aDb.out;omega);intro v234 w36 ho hb hg hat
        rw[←arS.out]at ho;have Eo:=ak (xZ (ur Md.out) (pX (ur lg.out)) (by decide) hg);have Ep:=ak (fB (g:=PO) (o:= .cells #[.string KQ, .string KR, .slice none 0 0] 61 (0,0)) (ub o7.out) hg (vS lg.out o7.out (by decide)));have G6:=ak (fB (g:=Wy) (o:= .cells #[.string Z5, .string Z7,DZ] 61 (0,0)) (ub qW.out) hg (vS lg.out qW.out (by decide)));have LU:=ak (hb);have Vx:=ak (ho);clear Md o7 qW HB lg;have Md:=Eo;have o7:=Ep;have qW:=G6;have HB:=LU;have aDd:=Vx;clear Eo Ep G6 LU Vx ho hb hg hat
        obtain⟨akk,akl,abx⟩:=aI aDd.out
        (first|subst abx|(injection abx with Dy Lp Dz;have Lr:=Dy.symm;have Ls:=Dz.symm;clear Dy Lp Dz;subst Lr;subst Ls));refine hK.out _ _ ?_;clear hK K;refine OB (a':=?_) ?_ ?_
        rotate_left
        ·show Act.put _ (some 81) _=_
         simp only[Act.put,C_,Dc,l_c,gU,jP];rfl
        refine pl 11 ?_;refine Yq (i:=12) (N:=none) #[true,true,true,true,true,true,true,true,true,true,true,true,true] rfl rfl (MZ Vw.out (by kernel_rfl)) (by decide) (fun K hK=>?_);have aSM:w36.cell? ⟨Wy,2,none⟩=some (DZ):=(bf qW.out 2).trans rfl;have aMt:=gq qW.out 2;have aFt:=Ea.out;have aFu:=Eb.out;refine LV (w1:=?_) (by rfl) rfl ?_ ?_
        rotate_left
        ·go_simp;rfl
        refine hK.out _ _ ?_;clear hK K;refine Vy (KE Vw.out (by kernel_rfl)) ?_;try go_wp2
        go_roundg aIE
        case measure=>have:=yN.out;have:=aDa.out;omega
        case rel=>exact⟨_,_,_,_,_,_,rs,rs,H',⟨by have:=yN.out;have:=aDa.out;omega⟩,⟨rr⟩,⟨bq⟩,⟨bq⟩,⟨bb⟩⟩
    ·replace H:=sb H;rcases H with⟨rfl,H⟩|⟨rfl,H⟩
     ·replace H:=bd H;obtain⟨aC9,A40,H⟩:=H;replace H:=sb H;rcases H with⟨rfl,H⟩|⟨rfl,H⟩
      ·obtain⟨rfl,rfl,rfl,rfl⟩:=s4 H;have aMu:=Eb.out;have aMv:=Ea.out;have z43:=jY qW.out;obtain⟨aje,ajf,ag4⟩:=aI lg.out;subst ag4;go_wp2_with (go_at_call 182;refine mB (dH.calls (cu ((aj lg.out).2.2)) ((aj lg.out).2.1) A40.out) ?_;intro w45 hb;replace lg:=rb lg hb;replace o7:=kb o7 hb;replace qW:=kb qW hb;replace HB:=bz HB hb;clear hb;have z46:=jY qW.out;have z47:=jY o7.out)
       refine bodyPost_ret (gu rfl _ _ PO 61 #[.string Z5, .string Z7, .slice aje Ai.length ajf] (0,0) _ rfl bq underlying61 rfl (by kernel_rfl)) rfl ?_;exact⟨_,er,rr,bb⟩
      ·obtain⟨rfl,rfl,rfl,rfl⟩:=s4 H;have aAg:=Eb.out;have aAh:=Ea.out;have z49:=jY qW.out;obtain⟨Nh,Nl,au2⟩:=aI lg.out;subst au2;go_wp2_with (go_at_call 182;refine mB (dH.calls (cu ((aj lg.out).2.2)) ((aj lg.out).2.1) A40.out) ?_;intro w51 hb;replace lg:=rb lg hb;replace o7:=kb o7 hb;replace qW:=kb qW hb;replace HB:=bz HB hb;clear hb;have z52:=jY o7.out)
       refine bodyPost_ret (gu rfl _ _ PO 61 #[.string (⟨#[]⟩:ByteArray), .string (⟨#[]⟩:ByteArray), .slice none 0 0] (0,0) _ rfl bq underlying61 rfl (by kernel_rfl)) rfl ?_;exact⟨_,er,nx,bb⟩
     ·obtain⟨rfl,rfl,rfl,rfl⟩:=s4 H;have aAA:=Ea.out;have aAB:=Eb.out;have z54:=jY o7.out;go_wp2;refine bodyPost_ret (gu rfl _ _ PO 61 #[.string (⟨#[]⟩:ByteArray), .string (⟨#[]⟩:ByteArray), .slice none 0 0] (0,0) _ rfl bq underlying61 rfl (by kernel_rfl)) rfl ?_;exact⟨_,er,nx,bb⟩
 ·obtain⟨rfl,rfl,rfl,rfl⟩:=s4 H;go_enter func155,ntmps155;go_wp2_with (first|(refine gG 2 ?_;refine bX HB 2 #[.string (⟨#[]⟩:ByteArray), .string (⟨#[]⟩:ByteArray), .slice none 0 0] 61 ?_;intro PO w55 o7 aC_ hb;replace HB:=bs HB hb;clear hb)|(refine gD func159 (aU.calls A2.out) ?_;intro w55 hb;replace o7:=kb o7 hb;replace HB:=bz HB hb;clear hb;have z56:=jY o7.out))
  refine bodyPost_ret (gu rfl _ _ PO 61 #[.string (⟨#[]⟩:ByteArray), .string (⟨#[]⟩:ByteArray), .slice none 0 0] (0,0) _ rfl bq underlying61 rfl (by kernel_rfl)) rfl ?_;exact⟨_,er,nx,bb⟩
mutual
def bW.l0:Nat→ByteArray→Int→Option (Bool)
 |0,_,_=>none
 |k+1,x0,x3=>if x3<(x0.size:Int)then(bW.j1 k x0 x3 (decide (x3≤20)))else(bW.j1 k x0 x3 false)
def bW.j1:Nat→ByteArray→Int→Bool→Option (Bool)
 |0,_,_,_=>none
 |k+1,x0,x3,x11=>if x11=true then(if 0≤x3 then(if x3<(x0.size:Int)then((iQ.f (bt x0 x3)).bind fun t236=>(if t236=true then(bW.l0 k x0 (wrap64 (x3+1)))else(some false)))else(none))else(none))else(if(x0.size:Int)≥1 then(some (decide ((x0.size:Int)≤20)))else(some false))
end
def bW.f(k:Nat)(a0:ByteArray):Option (Bool):=bW.l0 k a0 0
theorem bW.calls{k:Nat}{a0:ByteArray}{r:Bool}{w:World}(h:bW.f k a0=some r):
  Calls Tryz.prog 157 #[.string a0] w fun e w'=>e= .returned (.bool r)∧dR w w':=by
 unfold bW.f at h;have H:=h;clear h;have H':=ak H;clear H;go_enter func157,ntmps157;go_wp2;go_loopg [3] k (fun kq v3 w'=>∃(eG:Int),v3= .int .i64 eG∧ah (bW.l0 kq a0 eG=some r)∧ah (kq≤k)∧dR w w')
 case atStart=>exact⟨_,rs,H',⟨Nat.le_refl _⟩,dn⟩
 case round=>
  clear H';obtain⟨eG,rfl,HA,yN,⟨m1,rfl⟩⟩:=hrel
  cases gk with
  |zero=>exact zz HA.out
  |succ k1=>
   obtain⟨H⟩:=HA;simp only[bW.l0]at H;have HC2:=ak H;clear H;go_upto_region 2 with(fail)
   go_cut [11] (fun v11 wc=>∃(kq:Nat) (yu:Bool),v11= .bool yu∧ah (bW.j1 kq a0 eG yu=some r)∧ah (kq≤k1)∧dR w wc)
   case first=>
    have H:=HC2.out;clear HC2;replace H:=sd H;rcases H with⟨jd,H⟩|⟨jd,H⟩
    ·(first|rw[jd]|(simp only[gU,jP];rw[jd])|skip);have H':=ak H;clear H;go_wp2;go_meet
     case rel=>exact⟨_,_,rs,H',⟨kl⟩,dn⟩
    ·(first|rw[jd]|(simp only[gU,jP];rw[jd])|skip);have H':=ak H;clear H;go_wp2;go_meet
     case rel=>exact⟨_,_,rs,H',⟨kl⟩,dn⟩
   case rest=>
    clear HC2;obtain⟨kq,yu,rfl,HA,HJ1,⟨mc1,rfl⟩⟩:=hcut
    cases kq with
    |zero=>exact zz HA.out
    |succ TM=>
     obtain⟨H⟩:=HA;simp only[bW.j1]at H;replace H:=sb H;rcases H with⟨rfl,H⟩|⟨rfl,H⟩
     ·replace H:=nY H;obtain⟨nO,H⟩:=H;replace H:=nY H;obtain⟨nP,H⟩:=H;replace H:=bd H;obtain⟨t236,A8,H⟩:=H;replace H:=sb H;rcases H with⟨rfl,H⟩|⟨rfl,H⟩
      ·have H':=ak H;clear H;obtain⟨p7,q7,hx7⟩:=bx a0 eG;go_wp2_with (refine gA func183 (iQ.calls A8.out) ?_;intro nd)
       go_roundg TM
       case measure=>exact kl
       case rel=>exact⟨_,rs,H',⟨kl⟩,dn⟩
      ·obtain rfl:=s1 H;obtain⟨p7,q7,hx7⟩:=bx a0 eG;go_wp2_with (refine gA func183 (iQ.calls A8.out) ?_;intro nd)
       go_ret;exact⟨rs,dn⟩
     ·replace H:=sp H;rcases H with⟨c10,H⟩|⟨c10,H⟩
      ·have qj:decide (1≤(a0.size:Int))=true:=decide_eq_true c10;have uN:decide (1≤a0.size)=true:=decide_eq_true (by omega);clear c10;obtain rfl:=s1 H;go_wp2;go_ret;exact⟨rs,dn⟩
      ·have qj:decide (1≤(a0.size:Int))=false:=decide_eq_false c10;have uN:decide (1≤a0.size)=false:=decide_eq_false (by omega);clear c10;obtain rfl:=s1 H;go_wp2;go_ret;exact⟨rs,dn⟩
def qg.f(k:Nat)(fK:ByteArray)(fP:ByteArray)(aQ:List (fD)):Option (ByteArray×Bool):=(lX.f k aQ (⟨#[98,111,117,110,100,97,114,121]⟩:ByteArray)).bind fun ak7=>((dH.f k fK fP aQ).bind fun aDe=>(if aDe=true then(if fK.toList=([109,117,108,116,105,112,97,114,116]:List UInt8)then(if ak7.2=true then((bW.f k ak7.1).bind fun aDf=>(if aDf=true then(some (ak7.1,true))else(some ((⟨#[]⟩:ByteArray),false))))else(some ((⟨#[]⟩:ByteArray),false)))else(some ((⟨#[]⟩:ByteArray),false)))else(some ((⟨#[]⟩:ByteArray),false))))
theorem qg.calls{k iP:Nat}{fK fP r1:ByteArray}{jI:Option Addr}{aQ:List (fD)}{r2:Bool}{w:World}(nH:Kd.C rP w jI aQ.length aQ)(nI:aQ.length≤iP)(h:qg.f k fK fP aQ=some (r1,r2)):
  Calls Tryz.prog 156 #[.agg #[.string fK, .string fP, .slice jI aQ.length iP]] w fun e w'=>e= .returned (.tuple #[.string r1, .bool r2])∧Below w.heap.size w w':=by
 have abl:=underlying61;have lT:=ak nH;have qh:=ak nI;clear nH nI;have HB:=ak (Below.refl w.heap.size w);unfold qg.f at h;have H:=h;clear h;replace H:=bd H;obtain⟨⟨aSN,aSO⟩,A2,H⟩:=H
 (try dsimp only at H);replace H:=bd H;obtain⟨aDe,A3,H⟩:=H;replace H:=sb H;rcases H with⟨rfl,H⟩|⟨rfl,H⟩
 ·replace H:=sq H;rcases H with⟨nO,QY,H⟩|⟨c5,nO,QY,H⟩
  ·replace H:=sb H;rcases H with⟨rfl,H⟩|⟨rfl,H⟩
   ·replace H:=bd H;obtain⟨aDf,A7,H⟩:=H;replace H:=sb H;rcases H with⟨rfl,H⟩|⟨rfl,H⟩
    ·obtain⟨rfl,rfl⟩:=s2 H;go_enter func156,ntmps156;go_wp2_with (first|(refine bX HB 1 #[.string fK, .string fP, .slice jI aQ.length iP] 61 ?_;intro afP w9 qX afQ hb;replace HB:=bs HB hb;clear hb;have z10:=jY qX.out)|(refine gB func154 (lX.calls (cu (aK lT.out HB.out)) qh.out A2.out) ?_;intro X0 hb;replace qX:=kb qX hb;replace HB:=bz HB hb;clear hb;have z12:=jY qX.out)|(refine gB func182 (dH.calls (cu (aK lT.out HB.out)) qh.out A3.out) ?_;intro w13 hb;replace qX:=kb qX hb;replace HB:=bz HB hb;clear hb;have z14:=jY qX.out)|(go_at_call 157;refine mA (bW.calls A7.out) ?_;intro nd))
     go_ret2;exact⟨er,bb⟩
    ·obtain⟨rfl,rfl⟩:=s2 H;go_enter func156,ntmps156;go_wp2_with (first|(refine bX HB 1 #[.string fK, .string fP, .slice jI aQ.length iP] 61 ?_;intro afP w15 qX afQ hb;replace HB:=bs HB hb;clear hb;have z16:=jY qX.out)|(refine gB func154 (lX.calls (cu (aK lT.out HB.out)) qh.out A2.out) ?_;intro w17 hb;replace qX:=kb qX hb;replace HB:=bz HB hb;clear hb;have z18:=jY qX.out)|(refine gB func182 (dH.calls (cu (aK lT.out HB.out)) qh.out A3.out) ?_;intro X_ hb;replace qX:=kb qX hb;replace HB:=bz HB hb;clear hb;have z20:=jY qX.out)|(go_at_call 157;refine mA (bW.calls A7.out) ?_;intro nd))
     go_ret2;exact⟨er,bb⟩
   ·obtain⟨rfl,rfl⟩:=s2 H;go_enter func156,ntmps156;go_wp2_with (first|(refine bX HB 1 #[.string fK, .string fP, .slice jI aQ.length iP] 61 ?_;intro afP w21 qX afQ hb;replace HB:=bs HB hb;clear hb;have z22:=jY qX.out)|(refine gB func154 (lX.calls (cu (aK lT.out HB.out)) qh.out A2.out) ?_;intro w23 hb;replace qX:=kb qX hb;replace HB:=bz HB hb;clear hb;have z24:=jY qX.out)|(refine gB func182 (dH.calls (cu (aK lT.out HB.out)) qh.out A3.out) ?_;intro w25 hb;replace qX:=kb qX hb;replace HB:=bz HB hb;clear hb;have z26:=jY qX.out))
    go_ret2;exact⟨er,bb⟩
  ·obtain⟨rfl,rfl⟩:=s2 H;go_enter func156,ntmps156;go_wp2_with (first|(refine bX HB 1 #[.string fK, .string fP, .slice jI aQ.length iP] 61 ?_;intro afP w27 qX afQ hb;replace HB:=bs HB hb;clear hb;have am5:=jY qX.out)|(refine gB func154 (lX.calls (cu (aK lT.out HB.out)) qh.out A2.out) ?_;intro w29 hb;replace qX:=kb qX hb;replace HB:=bz HB hb;clear hb;have z30:=jY qX.out)|(refine gB func182 (dH.calls (cu (aK lT.out HB.out)) qh.out A3.out) ?_;intro w31 hb;replace qX:=kb qX hb;replace HB:=bz HB hb;clear hb;have z32:=jY qX.out))
   go_ret2;exact⟨er,bb⟩
 ·obtain⟨rfl,rfl⟩:=s2 H;go_enter func156,ntmps156;go_wp2_with (first|(refine bX HB 1 #[.string fK, .string fP, .slice jI aQ.length iP] 61 ?_;intro afP w33 qX afQ hb;replace HB:=bs HB hb;clear hb;have z34:=jY qX.out)|(refine gB func154 (lX.calls (cu (aK lT.out HB.out)) qh.out A2.out) ?_;intro w35 hb;replace qX:=kb qX hb;replace HB:=bz HB hb;clear hb;have z36:=jY qX.out)|(refine gB func182 (dH.calls (cu (aK lT.out HB.out)) qh.out A3.out) ?_;intro w37 hb;replace qX:=kb qX hb;replace HB:=bz HB hb;clear hb))
  go_ret2;exact⟨er,bb⟩
def kE.f(k:Nat)(l0:List (fD)):Option (ByteArray×Bool):=(lX.f k l0 (⟨#[67,111,110,116,101,110,116,45,84,121,112,101]⟩:ByteArray)).bind fun arT=>((bG.f k arT.1).bind fun afR=>((qg.f k afR.1 afR.2.1 afR.2.2.1).bind fun afS=>(if arT.2=true then(if afR.2.2.2=true then(some (afS.1,afS.2))else(some (afS.1,false)))else(some (afS.1,false)))))
theorem kE.calls{k c0:Nat}{A0:Option Addr}{l0:List (fD)}{r1:ByteArray}{r2:Bool}{w:World}(hr0:Kd.C rP w A0 l0.length l0)(hc0:l0.length≤c0)(h:kE.f k l0=some (r1,r2)):
  Calls Tryz.prog 108 #[.slice A0 l0.length c0] w fun e w'=>e= .returned (.tuple #[.string r1, .bool r2])∧Below w.heap.size w w':=by
 have abl:=underlying61;have HR0:=ak hr0;have vw:=ak hc0;clear hr0 hc0;have HB:=ak (Below.refl w.heap.size w);unfold kE.f at h;have H:=h;clear h;replace H:=bd H;obtain⟨⟨aSP,aSQ⟩,A2,H⟩:=H
 (try dsimp only at H);replace H:=bd H;obtain⟨⟨avr,avs,ahf,aSR⟩,A3,H⟩:=H
 (try dsimp only at H);replace H:=bd H;obtain⟨⟨aSS,aST⟩,A4,H⟩:=H
 (try dsimp only at H);replace H:=sb H;rcases H with⟨rfl,H⟩|⟨rfl,H⟩
 ·replace H:=sb H;rcases H with⟨rfl,H⟩|⟨rfl,H⟩
  ·obtain⟨rfl,rfl⟩:=s2 H;go_enter func108,ntmps108;go_wp2_with (first|(refine gB func154 (lX.calls (cu HR0.out) vw.out A2.out) ?_;intro w7 hb;replace HB:=bs HB hb;clear hb)|(refine gV func155 (bG.calls A3.out) ?_;rintro aDg w8 ⟨ho0,hb⟩;have yK:=ak (aC ho0 (au (ul HB.out)));replace HB:=bs HB hb;clear hb;(try clear ho0))|(refine bX HB 6 #[.string (⟨#[]⟩:ByteArray), .string (⟨#[]⟩:ByteArray), .slice none 0 0] 61 ?_;intro arU w9 JZ arV hb;replace yK:=rb yK hb;replace HB:=bs HB hb;clear hb;have z10:=jY JZ.out;obtain⟨lH,jW,JF⟩:=aI yK.out;subst JF)|(refine gB func156 (qg.calls ?dN ((aj yK.out).2.1) A4.out) ?_;(case dN=>refine(aj (e:=69) (base:=w.heap.size) (ok:=fun k_=>True) (n:=ahf.length) (c:=jW) ?_).2.2;exact(rh yK));intro w12 hb;replace yK:=rg yK hb;replace JZ:=kp JZ #[.string avr, .string avs, .slice lH ahf.length jW] hb;replace HB:=bz HB hb;clear hb))
   go_ret2;exact⟨er,bb⟩
  ·obtain⟨rfl,rfl⟩:=s2 H;go_enter func108,ntmps108;go_wp2_with (first|(refine gB func154 (lX.calls (cu HR0.out) vw.out A2.out) ?_;intro w13 hb;replace HB:=bs HB hb;clear hb)|(refine gV func155 (bG.calls A3.out) ?_;rintro aDg Xv ⟨ho0,hb⟩;have yK:=ak (aC ho0 (au (ul HB.out)));replace HB:=bs HB hb;clear hb;(try clear ho0))|(refine bX HB 6 #[.string (⟨#[]⟩:ByteArray), .string (⟨#[]⟩:ByteArray), .slice none 0 0] 61 ?_;intro arU w15 JZ arV hb;replace yK:=rb yK hb;replace HB:=bs HB hb;clear hb;have z16:=jY JZ.out;obtain⟨jQ,ji,Zg⟩:=aI yK.out;subst Zg)|(refine gB func156 (qg.calls ?dN ((aj yK.out).2.1) A4.out) ?_;(case dN=>refine(aj (e:=69) (base:=w.heap.size) (ok:=fun k_=>True) (n:=ahf.length) (c:=ji) ?_).2.2;exact(rh yK));intro w18 hb;replace yK:=rg yK hb;replace JZ:=kp JZ #[.string avr, .string avs, .slice jQ ahf.length ji] hb;replace HB:=bz HB hb;clear hb))
   go_ret2;exact⟨er,bb⟩
 ·obtain⟨rfl,rfl⟩:=s2 H;go_enter func108,ntmps108;go_wp2_with (first|(refine gB func154 (lX.calls (cu HR0.out) vw.out A2.out) ?_;intro X_ hb;replace HB:=bs HB hb;clear hb)|(refine gV func155 (bG.calls A3.out) ?_;rintro aDg w20 ⟨ho0,hb⟩;have yK:=ak (aC ho0 (au (ul HB.out)));replace HB:=bs HB hb;clear hb;(try clear ho0))|(refine bX HB 6 #[.string (⟨#[]⟩:ByteArray), .string (⟨#[]⟩:ByteArray), .slice none 0 0] 61 ?_;intro arU w21 JZ arV hb;replace yK:=rb yK hb;replace HB:=bs HB hb;clear hb;have z22:=jY JZ.out;obtain⟨wY,uY,TS⟩:=aI yK.out;subst TS)|(refine gB func156 (qg.calls ?dN ((aj yK.out).2.1) A4.out) ?_;(case dN=>refine(aj (e:=69) (base:=w.heap.size) (ok:=fun k_=>True) (n:=ahf.length) (c:=uY) ?_).2.2;exact(rh yK));intro w24 hb;replace yK:=rg yK hb;replace JZ:=kp JZ #[.string avr, .string avs, .slice wY ahf.length uY] hb;replace HB:=bz HB hb;clear hb))
  go_ret2;exact⟨er,bb⟩
mutual
def aJ.l0:Nat→List ByteArray→ByteArray→List (List ByteArray)→List ByteArray→Bool→Int→Option ((List (List ByteArray))×Bool)
 |0,_,_,_,_,_,_=>none
 |k+1,x0,x1,x6,x7,x8,x9=>if x9<(x0.length:Int)then((bW.f k x1).bind fun arW=>(aJ.j1 k x0 x1 x6 x7 x8 x9 arW))else(aJ.j1 k x0 x1 x6 x7 x8 x9 false)
def aJ.j1:Nat→List ByteArray→ByteArray→List (List ByteArray)→List ByteArray→Bool→Int→Bool→Option ((List (List ByteArray))×Bool)
 |0,_,_,_,_,_,_,_=>none
 |k+1,x0,x1,x6,x7,x8,x9,x19=>if x19=true then(if 0≤x9 then(if x9<(x0.length:Int)then(if 2+x1.size≤9223372036854775807 then(if(iD ByteArray.empty x0 x9).toList=((⟨#[45,45]⟩:ByteArray)++x1).toList then(if x8=true then(if x6.length<5864062014805 then(aJ.l0 k x0 x1 (x6++[x7]) (([]:List ByteArray)) true (wrap64 (x9+1)))else(none))else(aJ.l0 k x0 x1 x6 (([]:List ByteArray)) true (wrap64 (x9+1))))else(if((⟨#[45,45]⟩:ByteArray)++x1).size+2≤9223372036854775807 then(if(iD ByteArray.empty x0 x9).toList=(((⟨#[45,45]⟩:ByteArray)++x1)++(⟨#[45,45]⟩:ByteArray)).toList then(aJ.j2 k x0 x1 x6 x7 x8 x9 x8)else(aJ.j2 k x0 x1 x6 x7 x8 x9 false))else(none)))else(none))else(none))else(none))else(some ((([]:List (List ByteArray))),false))
def aJ.j2:Nat→List ByteArray→ByteArray→List (List ByteArray)→List ByteArray→Bool→Int→Bool→Option ((List (List ByteArray))×Bool)
 |0,_,_,_,_,_,_,_=>none
 |k+1,x0,x1,x6,x7,x8,x9,x36=>if x36=true then(if x6.length<5864062014805 then(some ((x6++[x7]),true))else(none))else(if x8=true then(if 0≤x9 then(if x9<(x0.length:Int)then(if x7.length<8796093022208 then(aJ.l0 k x0 x1 x6 (x7++[iD ByteArray.empty x0 x9]) x8 (wrap64 (x9+1)))else(none))else(none))else(none))else(aJ.l0 k x0 x1 x6 x7 x8 (wrap64 (x9+1))))
end
def aJ.f(k:Nat)(l0:List ByteArray)(a1:ByteArray):Option ((List (List ByteArray))×Bool):=aJ.l0 k l0 a1 (([]:List (List ByteArray))) (([]:List ByteArray)) false 0
theorem aJ.calls{k c0:Nat}{A0:Option Addr}{l0:List ByteArray}{a1:ByteArray}{r1:List (List ByteArray)}{r2:Bool}{w:World}(hr0:Kd.C Kd.string w A0 l0.length l0)(hc0:l0.length≤c0)(h:aJ.f k l0 a1=some (r1,r2)):
  Calls Tryz.prog 171 #[.slice A0 l0.length c0, .string a1] w fun e w'=>∃pW:Value,e= .returned (.tuple #[pW, .bool r2])∧Kd.S (Kd.slice 9 Kd.string) 23 w' w.heap.size (fun _=>True) pW r1∧Below w.heap.size w w':=by
 have HR0:=ak hr0;have vw:=ak hc0;clear hr0 hc0;have HB:=ak (Below.refl w.heap.size w);unfold aJ.f at h;have H:=h;clear h;obtain⟨aMw,adO⟩:=nm ([]:List (List ByteArray));rw[←adO.out]at H;obtain⟨aMx,ak8⟩:=nm ([]:List ByteArray);rw[←ak8.out]at H;have H':=ak H;clear H;go_enter func171,ntmps171;go_wp2_with (first|((with_reducible refine Hl (N:=10) rfl ?_);refine Yw (Kd.slice 9 Kd.string) _ 23 ?hg (N:=10) ?hd (xs:=([]:List (List ByteArray))) (inner:=[]) (ok:=fun _=>True) (yt:=fun _=>True) ?hr ?hp (fun _ hk=>hk) trivial (Below.refl _ _) (Nat.le_refl _) (by simp) ?_;(case hd=>rfl);(case hg=>rfl);(case hr=>first|(go_simp;done)|(go_simp;rfl));(case hp=>exact(dP.none _ _));intro aMy w3 SL hb EG CO;clear EG CO;(first|rw[←adO.out]at SL|(simp only[Int.reduceToNat]at SL;rw[←adO.out]at SL));have adP:=ak (AB SL (au (ul HB.out)));replace HB:=bs HB hb;clear hb SL)|(refine DR 11 Kd.string 9 ak8 ?_;intro aMz w5 Ur hb;have avt:=ak (aC Ur (au (ul HB.out)));replace adP:=ak (tV (by(with_reducible repeat(first|apply Kd.eH|apply Kd.eP|apply Kd.iF));exact adP.out) (bZ Ur) hb);replace HB:=bs HB hb;clear hb Ur))
 go_loopg [6,7,8,9] k (fun kq v6 v7 v8 v9 w'=>∃(gZ:List (List ByteArray)) (qE:List ByteArray) (mQ:Bool) (pY:Int),v8= .bool mQ∧v9= .int .i64 pY∧ah (aJ.l0 kq l0 a1 gZ qE mQ pY=some (r1,r2))∧ah (kq≤k)∧ah (Kd.S (Kd.slice 9 Kd.string) 23 w' w.heap.size (fun k_=>some k_≠(v7:Value).ownBlock) v6 gZ)∧ah (Kd.R Kd.string 9 w' w.heap.size (fun _=>True) v7 qE)∧ah (Below w.heap.size w w'))
 case atStart=>exact⟨_,_,_,_,rs,rs,H',⟨Nat.le_refl _⟩,⟨by(with_reducible repeat(first|apply Kd.eH|apply Kd.eP|apply Kd.iF));exact uj adP.out (fun _ hk=>hk.2)⟩,⟨ur avt.out⟩,⟨ul HB.out⟩⟩
 case round=>
  clear H';obtain⟨gZ,qE,mQ,pY,rfl,rfl,HA,yN,jZ,qA,HB⟩:=hrel
  cases gk with
  |zero=>exact zz HA.out
  |succ k1=>
   obtain⟨H⟩:=HA;simp only[aJ.l0]at H;have HC7:=ak H;clear H;go_upto_region 5 with(fail)
   go_cut [19] (fun v19 wc=>∃(kq:Nat) (ak9:Bool),v19= .bool ak9∧ah (aJ.j1 kq l0 a1 gZ qE mQ pY ak9=some (r1,r2))∧ah (kq≤k1)∧ah (Kd.S (Kd.slice 9 Kd.string) 23 wc w.heap.size (fun k_=>some k_≠(u7:Value).ownBlock) u6 gZ)∧ah (Kd.R Kd.string 9 wc w.heap.size (fun _=>True) u7 qE)∧ah (Below w.heap.size w wc))
   case first=>
    have H:=HC7.out;clear HC7;replace H:=sd H;rcases H with⟨ru,H⟩|⟨ru,H⟩
    ·(first|rw[ru]|(simp only[gU,jP];rw[ru])|skip);replace H:=bd H;obtain⟨arW,A9,H⟩:=H;have H':=ak H;clear H;go_wp2_with (go_at_call 157;refine mA (bW.calls A9.out) ?_;intro nd)
     go_meet
     case rel=>exact⟨_,_,rs,H',⟨kl⟩,⟨by(with_reducible repeat(first|apply Kd.eH|apply Kd.eP|apply Kd.iF));exact jZ.out⟩,⟨ur qA.out⟩,⟨ul HB.out⟩⟩
    ·(first|rw[ru]|(simp only[gU,jP];rw[ru])|skip);have H':=ak H;clear H;go_wp2;go_meet
     case rel=>exact⟨_,_,rs,H',⟨kl⟩,⟨by(with_reducible repeat(first|apply Kd.eH|apply Kd.eP|apply Kd.iF));exact jZ.out⟩,⟨ur qA.out⟩,⟨ul HB.out⟩⟩
   case rest=>
    clear HC7;obtain⟨kq,ak9,rfl,HA,HJ6,jZ,qA,HB⟩:=hcut
    cases kq with
    |zero=>exact zz HA.out
    |succ kj6=>
     obtain⟨H⟩:=HA;simp only[aJ.j1]at H;replace H:=sb H;rcases H with⟨rfl,H⟩|⟨rfl,H⟩
     ·replace H:=nY H;obtain⟨uM,H⟩:=H;replace H:=nY H;obtain⟨vH,H⟩:=H;replace H:=nn H;obtain⟨c13,H⟩:=H;have xE:=eq_true c13;have Bz:=decide_eq_true c13;try have aeN:(9223372036854775807<2+a1.size)=False:=eq_false (Nat.not_lt.2 c13)
      replace H:=sq H;rcases H with⟨uy,xH,H⟩|⟨c14,uy,xH,H⟩
      ·replace H:=sb H;rcases H with⟨rfl,H⟩|⟨rfl,H⟩
       ·replace H:=nl H;obtain⟨aaZ,H⟩:=H;obtain⟨aMA,ak_⟩:=nm (gZ++[qE]);rw[←ak_.out]at H;obtain⟨aMB,ala⟩:=nm ([]:List ByteArray);rw[←ala.out]at H;have H':=ak H;clear H;have Jd:=zi pY;have Je:=zj pY l0.length;obtain⟨WA,abO,Bc⟩:=bV HR0.out pY Jd Je;cases abO;replace Bc:=cl HB.out Bc;replace Jd:=eq_true Jd;replace Je:=eq_true Je;obtain⟨acJ,acK,ah_⟩:=aI qA.out;subst ah_;go_wp2_with (first|((with_reducible refine bP (b:= .append) (xs:=#[.tmp 31, .tmp 33]) rfl ?_);at_builtin;refine Ho (Kd.slice 9 Kd.string) (w0:=w) w.heap.size rfl (.tmp 31) (.tmp 33) 65 23 (.slice none 0 0) 24 rfl underlying65 info23 rfl (by decide) (by omega) u6 gZ qE [.slice acJ qE.length acK] (fun _=>True) (fun k_=>some k_=(.slice acJ qE.length acK:Value).ownBlock) rfl rfl ?aP (fun k_ hk_=>((ay (ok':=fun k_=>((fun _=>True)) k_∧some k_≠(u6:Value).ownBlock) (oq (qA.out) (yh jZ.out) (by decide)) (fun k_ hk=>⟨trivial,hk.2⟩))).1 k_ hk_.symm) ?aF ?aO ?aB ?aS ?aL ?_;(case aP=>exact VR (ay (KJ rfl (ay (ok':=fun k_=>((fun _=>True)) k_∧some k_≠(u6:Value).ownBlock) (oq (qA.out) (yh jZ.out) (by decide)) (fun k_ hk=>⟨trivial,hk.2⟩))) (fun _ h_=>h_)));(case aB=>exact(ul HB.out));(case aF=>exact(fun _ _=>trivial));(case aO=>exact(by(with_reducible repeat(first|apply Kd.eH|apply Kd.eP|apply Kd.iF));exact uj jZ.out (fun k_ hk=>⟨trivial,fun e_=>hk e_⟩)));(case aS=>exact(au (ul HB.out)));(case aL=>have:=aaZ.out;omega);intro aMC w17 ho hb hg hat;rw[←ak_.out]at ho;have adQ:=ak (ho);replace HB:=ak (hb);clear ho hb hg hat jZ qA)|(refine DR 35 Kd.string 9 ala ?_;intro aMD X_ XC hb;have avu:=ak (aC XC (au (ul HB.out)));replace adQ:=ak (tV (by(with_reducible repeat(first|apply Kd.eH|apply Kd.eP|apply Kd.iF));exact adQ.out) (bZ XC) hb);replace HB:=bs HB hb;clear hb XC))
        go_roundg kj6
        case measure=>exact kl
        case rel=>exact⟨_,_,_,_,rs,rs,H',⟨kl⟩,⟨by(with_reducible repeat(first|apply Kd.eH|apply Kd.eP|apply Kd.iF));exact uj adQ.out (fun _ hk=>hk.2)⟩,⟨ur avu.out⟩,⟨ul HB.out⟩⟩
       ·obtain⟨aME,alb⟩:=nm ([]:List ByteArray);rw[←alb.out]at H;have H':=ak H;clear H;have Jd:=zi pY;have Je:=zj pY l0.length;obtain⟨WA,abO,Bc⟩:=bV HR0.out pY Jd Je;cases abO;replace Bc:=cl HB.out Bc;replace Jd:=eq_true Jd;replace Je:=eq_true Je;go_wp2_with (refine DR 35 Kd.string 9 alb ?_;intro aMF w21 adM hb;have avv:=ak (aC (dA adM (jC (ur qA.out))) (au (ul HB.out)));replace jZ:=ak (tV (by(with_reducible repeat(first|apply Kd.eH|apply Kd.eP|apply Kd.iF));exact jZ.out) (bZ adM) hb);replace qA:=ak (dM (ur qA.out) (bZ adM) hb);replace HB:=bs HB hb;clear hb adM)
        go_roundg kj6
        case measure=>exact kl
        case rel=>exact⟨_,_,_,_,rs,rs,H',⟨kl⟩,⟨by(with_reducible repeat(first|apply Kd.eH|apply Kd.eP|apply Kd.iF));exact uj jZ.out (fun _ hk=>hk.2)⟩,⟨ur (ay avv.out (fun _ hk=>trivial))⟩,⟨ul HB.out⟩⟩
      ·have avw:=ak H;clear H;have Jd:=zi pY;have Je:=zj pY l0.length;obtain⟨WA,abO,Bc⟩:=bV HR0.out pY Jd Je;cases abO;replace Bc:=cl HB.out Bc;replace Jd:=eq_true Jd;replace Je:=eq_true Je;go_upto_region 12 with(fail)
       go_cut [36] (fun v36 wc=>∃(kq:Nat) (adR:Bool),v36= .bool adR∧ah (aJ.j2 kq l0 a1 gZ qE mQ pY adR=some (r1,r2))∧ah (kq≤kj6)∧ah (Kd.S (Kd.slice 9 Kd.string) 23 wc w.heap.size (fun k_=>some k_≠(u7:Value).ownBlock) u6 gZ)∧ah (Kd.R Kd.string 9 wc w.heap.size (fun _=>True) u7 qE)∧ah (Below w.heap.size w wc))
       case first=>
        have H:=avw.out;clear avw;replace H:=nn H;obtain⟨c24,H⟩:=H;have Ei:=eq_true c24;have Yj:=decide_eq_true c24;try have arA:(9223372036854775807<2+a1.size+2)=False:=by have h_:=(eq_false (Nat.not_lt.2 c24):(9223372036854775807<((⟨#[45,45]⟩:ByteArray)++a1).size+2)=False);simp only[ByteArray.size_append]at h_;exact h_
        try have akX:(9223372036854775807<((⟨#[45,45]⟩:ByteArray)++a1).size+2)=False:=eq_false (Nat.not_lt.2 c24)
        replace H:=sq H;rcases H with⟨Ej,aaY,H⟩|⟨c25,Ej,aaY,H⟩
        ·(first|rw[Ej]|(simp only[gU,jP];rw[Ej])|skip);have H':=ak H;clear H;have WB:=zi pY;have WC:=zj pY l0.length;obtain⟨adS,alc,J3⟩:=bV HR0.out pY WB WC;obtain rfl:WA=adS:=(by injection alc)
         replace J3:=cl HB.out J3;replace WB:=eq_true WB;replace WC:=eq_true WC;go_wp2;go_meet
         case rel=>exact⟨_,_,rs,H',⟨kl⟩,⟨by(with_reducible repeat(first|apply Kd.eH|apply Kd.eP|apply Kd.iF));exact jZ.out⟩,⟨ur qA.out⟩,⟨ul HB.out⟩⟩
        ·(first|rw[Ej]|(simp only[gU,jP];rw[Ej])|skip);have H':=ak H;clear H;have WB:=zi pY;have WC:=zj pY l0.length;obtain⟨adS,alc,J3⟩:=bV HR0.out pY WB WC;obtain rfl:WA=adS:=(by injection alc)
         replace J3:=cl HB.out J3;replace WB:=eq_true WB;replace WC:=eq_true WC;go_wp2;go_meet
         case rel=>exact⟨_,_,rs,H',⟨kl⟩,⟨by(with_reducible repeat(first|apply Kd.eH|apply Kd.eP|apply Kd.iF));exact jZ.out⟩,⟨ur qA.out⟩,⟨ul HB.out⟩⟩
       case rest=>
        clear avw;try clear uM
        try clear vH
        try clear c13
        try clear xE
        try clear Bz
        try clear aeN
        try clear c14
        try clear uy
        try clear xH
        try clear Bc
        try clear Jd
        try clear Je
        obtain⟨kq,adR,rfl,HA,anQ,jZ,qA,HB⟩:=hcut
        cases kq with
        |zero=>exact zz HA.out
        |succ aDh=>
         obtain⟨H⟩:=HA;simp only[aJ.j2]at H;replace H:=sb H;rcases H with⟨rfl,H⟩|⟨rfl,H⟩
         ·replace H:=nl H;obtain⟨aaQ,H⟩:=H;obtain⟨aMG,ald⟩:=nm (gZ++[qE]);rw[←ald.out]at H;obtain⟨rfl,rfl⟩:=s2 H;obtain⟨XI,XJ,atI⟩:=aI qA.out;subst atI;go_wp2_with ((with_reducible refine bP (b:= .append) (xs:=#[.tmp 48, .tmp 50]) rfl ?_);at_builtin;refine Ho (Kd.slice 9 Kd.string) (w0:=w) w.heap.size rfl (.tmp 48) (.tmp 50) 65 23 (.slice none 0 0) 24 rfl underlying65 info23 rfl (by decide) (by omega) u6 gZ qE [.slice XI qE.length XJ] (fun _=>True) (fun k_=>some k_=(.slice XI qE.length XJ:Value).ownBlock) rfl rfl ?aP (fun k_ hk_=>((ay (ok':=fun k_=>((fun _=>True)) k_∧some k_≠(u6:Value).ownBlock) (oq (qA.out) (yh jZ.out) (by decide)) (fun k_ hk=>⟨trivial,hk.2⟩))).1 k_ hk_.symm) ?aF ?aO ?aB ?aS ?aL ?_;(case aP=>exact VR (ay (KJ rfl (ay (ok':=fun k_=>((fun _=>True)) k_∧some k_≠(u6:Value).ownBlock) (oq (qA.out) (yh jZ.out) (by decide)) (fun k_ hk=>⟨trivial,hk.2⟩))) (fun _ h_=>h_)));(case aB=>exact(ul HB.out));(case aF=>exact(fun _ _=>trivial));(case aO=>exact(by(with_reducible repeat(first|apply Kd.eH|apply Kd.eP|apply Kd.iF));exact uj jZ.out (fun k_ hk=>⟨trivial,fun e_=>hk e_⟩)));(case aS=>exact(au (ul HB.out)));(case aL=>have:=aaQ.out;omega);intro aMH w28 ho hb hg hat;rw[←ald.out]at ho;have avx:=ak (ho);replace HB:=ak (hb);clear ho hb hg hat jZ qA)
          go_ret2;exact⟨_,er,by(with_reducible repeat(first|apply Kd.eH|apply Kd.eP|apply Kd.iF));exact avx.out,ul HB.out⟩
         ·replace H:=sb H;rcases H with⟨rfl,H⟩|⟨rfl,H⟩
          ·replace H:=nY H;obtain⟨afa,H⟩:=H;replace H:=nY H;obtain⟨Yi,H⟩:=H;replace H:=nl H;obtain⟨aiS,H⟩:=H;obtain⟨aMI,ale⟩:=nm (qE++[iD ByteArray.empty l0 pY]);rw[←ale.out]at H;have H':=ak H;clear H;have alf:=zi pY;have alg:=zj pY l0.length;obtain⟨avy,aDi,abP⟩:=bV HR0.out pY alf alg;obtain rfl:WA=avy:=(by injection aDi)
           replace abP:=cl HB.out abP;replace alf:=eq_true alf;replace alg:=eq_true alg;go_wp2_with (at_builtin;refine aP 54 59 Kd.string 23 9 (.string ⟨#[]⟩) 16 underlying23 info9 HB (ur qA.out) ale (by have:=aiS.out;omega) ?_;intro aMJ w34 ho hb hg hat;have avz:=ak (ho);replace jZ:=ak (UC (ok:=(fun _=>True)) (by(with_reducible repeat(first|apply Kd.eH|apply Kd.eP|apply Kd.iF));exact uj jZ.out (fun _ hk=>⟨trivial,hk⟩)) hg hat);replace HB:=ak (hb);clear ho hb hg hat qA)
           go_roundg aDh
           case measure=>have:=yN.out;have:=HJ6.out;have:=anQ.out;omega
           case rel=>exact⟨_,_,_,_,rs,rs,H',⟨by have:=yN.out;have:=HJ6.out;have:=anQ.out;omega⟩,⟨by(with_reducible repeat(first|apply Kd.eH|apply Kd.eP|apply Kd.iF));exact uj jZ.out (fun _ hk=>hk.2)⟩,⟨ur avz.out⟩,⟨ul HB.out⟩⟩
          ·have H':=ak H;clear H;go_wp2;go_roundg aDh
           case measure=>have:=yN.out;have:=HJ6.out;have:=anQ.out;omega
           case rel=>exact⟨_,_,_,_,rs,rs,H',⟨by have:=yN.out;have:=HJ6.out;have:=anQ.out;omega⟩,⟨by(with_reducible repeat(first|apply Kd.eH|apply Kd.eP|apply Kd.iF));exact jZ.out⟩,⟨ur qA.out⟩,⟨ul HB.out⟩⟩
     ·obtain⟨aMK,adT⟩:=nm ([]:List (List ByteArray));rw[←adT.out]at H;obtain⟨rfl,rfl⟩:=s2 H;go_wp2_with ((with_reducible refine Hl (N:=61) rfl ?_);refine Yw (Kd.slice 9 Kd.string) _ 23 ?hg (N:=61) ?hd (xs:=([]:List (List ByteArray))) (inner:=[]) (ok:=fun _=>True) (yt:=fun _=>True) ?hr ?hp (fun _ hk=>hk) trivial (Below.refl _ _) (Nat.le_refl _) (by simp) ?_;(case hd=>rfl);(case hg=>rfl);(case hr=>first|(go_simp;done)|(go_simp;rfl));(case hp=>exact(dP.none _ _));intro aML w35 ahg hb EG CO;clear EG CO;(first|rw[←adT.out]at ahg|(simp only[Int.reduceToNat]at ahg;rw[←adT.out]at ahg));have avA:=ak (AB (VX (VX ahg (aDj (by(with_reducible repeat(first|apply Kd.eH|apply Kd.eP|apply Kd.iF));exact jZ.out))) (jC (ur qA.out))) (au (ul HB.out)));replace jZ:=ak (tV (by(with_reducible repeat(first|apply Kd.eH|apply Kd.eP|apply Kd.iF));exact jZ.out) (alh ahg) hb);replace qA:=rb qA hb;replace HB:=bs HB hb;clear hb ahg)
      go_ret2;exact⟨_,er,by(with_reducible repeat(first|apply Kd.eH|apply Kd.eP|apply Kd.iF));exact uj avA.out (fun _ hk=>trivial),ul HB.out⟩
def dU.l0:Nat→List (List ByteArray)→List (List ByteArray)→Int→Int→Option ((List (List ByteArray)))
 |0,_,_,_,_=>none
 |k+1,x3,x7,x8,x9=>if x9<x8 then(if 0≤x9 then(if x9<(x7.length:Int)then((some (([]:List ByteArray):List ByteArray)).bind fun abQ=>(if abQ.length+(mJ x7 x9).length<8796093022208 then(if x3.length<5864062014805 then(dU.l0 k (x3++[(abQ++(mJ x7 x9))]) x7 x8 (wrap64 (x9+1)))else(none))else(none)))else(none))else(none))else(some x3)
def dU.f(k:Nat)(l0:List (List ByteArray)):Option ((List (List ByteArray))):=dU.l0 k (([]:List (List ByteArray))) l0 (l0.length:Int) 0
theorem dU.calls{k c0:Nat}{A0:Option Addr}{l0 r:List (List ByteArray)}{w:World}(hr0:Kd.C (Kd.slice 9 Kd.string) w A0 l0.length l0)(hc0:l0.length≤c0)(h:dU.f k l0=some r):
  Calls Tryz.prog 172 #[.slice A0 l0.length c0] w fun e w'=>∃pW:Value,e= .returned (pW)∧Kd.S (Kd.slice 9 Kd.string) 23 w' w.heap.size (fun _=>True) pW r∧Below w.heap.size w w':=by
 have HR0:=ak hr0;have vw:=ak hc0;clear hr0 hc0;have HB:=ak (Below.refl w.heap.size w);unfold dU.f at h;have H:=h;clear h;obtain⟨aMM,adU⟩:=nm ([]:List (List ByteArray));rw[←adU.out]at H;have H':=ak H;clear H;go_enter func172,ntmps172;go_wp2_with ((with_reducible refine Hl (N:=6) rfl ?_);refine Yw (Kd.slice 9 Kd.string) _ 23 ?hg (N:=6) ?hd (xs:=([]:List (List ByteArray))) (inner:=[]) (ok:=fun _=>True) (yt:=fun _=>True) ?hr ?hp (fun _ hk=>hk) trivial (Below.refl _ _) (Nat.le_refl _) (by simp) ?_;(case hd=>rfl);(case hg=>rfl);(case hr=>first|(go_simp;done)|(go_simp;rfl));(case hp=>exact(dP.none _ _));intro aMN w2 ho3 hb EG CO;clear EG CO;(first|rw[←adU.out]at ho3|(simp only[Int.reduceToNat]at ho3;rw[←adU.out]at ho3));have avC:=ak (AB ho3 (au (ul HB.out)));replace HB:=bs HB hb;clear hb ho3)
 go_loopg [3,9] k (fun kq v3 v9 w'=>∃(eG:List (List ByteArray)) (pY:Int),v9= .int .i64 pY∧ah (dU.l0 kq eG l0 (l0.length:Int) pY=some r)∧ah (kq≤k)∧ah (Kd.S (Kd.slice 9 Kd.string) 23 w' w.heap.size (fun _=>True) v3 eG)∧ah (Below w.heap.size w w'))
 case atStart=>exact⟨_,_,rs,H',⟨Nat.le_refl _⟩,⟨by(with_reducible repeat(first|apply Kd.eH|apply Kd.eP|apply Kd.iF));exact avC.out⟩,⟨ul HB.out⟩⟩
 case round=>
  clear H';obtain⟨eG,pY,rfl,HA,yN,mZ,HB⟩:=hrel
  cases gk with
  |zero=>exact zz HA.out
  |succ k1=>
   obtain⟨H⟩:=HA;simp only[dU.l0]at H;replace H:=sd H;rcases H with⟨qB,H⟩|⟨qB,H⟩
   ·replace H:=nY H;obtain⟨nO,H⟩:=H;replace H:=nY H;obtain⟨nP,H⟩:=H;replace H:=ny H;obtain⟨abQ,avD,H⟩:=H;replace H:=nl H;obtain⟨atZ,H⟩:=H;obtain⟨afT,ali⟩:=nm (abQ++(mJ l0 pY));rw[←ali.out]at H;replace H:=nl H;obtain⟨aib,H⟩:=H;obtain⟨aMO,alj⟩:=nm (eG++[afT]);rw[←alj.out]at H;have H':=ak H;clear H;have alk:=zi pY;have alm:=zj pY l0.length;obtain⟨aIF,aFv,aFw,aDk,abR,abS,abT⟩:=Ec HR0.out pY alk alm;cases aDk;replace abR:=cl HB.out abR;have aln:=ak abT;have aDl:=ak abS;clear abT abS;replace alk:=eq_true alk;replace alm:=eq_true alm;go_wp2_with (first|(refine DR 14 Kd.string 9 avD ?_;intro aDm w9 Lm hb;have alo:=ak (aC Lm (au (ul HB.out)));replace mZ:=ak (tV (by(with_reducible repeat(first|apply Kd.eH|apply Kd.eP|apply Kd.iF));exact mZ.out) (bZ Lm) hb);replace HB:=bs HB hb;clear hb Lm)|((with_reducible refine bP (b:= .append) (xs:=#[.tmp 14, .tmp 15]) rfl ?_);at_builtin;refine pz Kd.string (w0:=w) w.heap.size rfl (.tmp 14) (.tmp 15) 23 9 (.string ⟨#[]⟩) 16 rfl underlying23 info9 rfl (by decide) (by omega) aDm abQ (mJ l0 pY) _ _ _ (fun _=>True) (fun _=>False) rfl rfl ?aO ?aR (fun _ _ h=>h) (fun _ h=>h.elim) ?aF ?aB ?aS ?aL ?_;(case aR=>repeat(first|exact(aK aln.out HB.out)|(with_reducible refine Kd.nR ?_ _)|(with_reducible refine Kd.nS ?_ _)|(with_reducible refine Kd.qJ ?_)));(case aB=>exact(ul HB.out));(case aF=>exact(fun _ _=>trivial));(case aO=>exact(ur alo.out));(case aS=>exact(au (ul HB.out)));(case aL=>have:=atZ.out;omega);intro aMP X0 ho hb hg hat;rw[←ali.out]at ho;have Z8:=ak (ho);replace mZ:=ak (UC (ok:=(fun _=>True)) (by(with_reducible repeat(first|apply Kd.eH|apply Kd.eP|apply Kd.iF));exact mZ.out) hg hat);replace HB:=ak (hb);clear ho hb hg hat alo;obtain⟨kX,jy,Ee⟩:=aI Z8.out;subst Ee)|((with_reducible refine bP (b:= .append) (xs:=#[.tmp 13, .tmp 17]) rfl ?_);at_builtin;refine Ho (Kd.slice 9 Kd.string) (w0:=w) w.heap.size rfl (.tmp 13) (.tmp 17) 65 23 (.slice none 0 0) 24 rfl underlying65 info23 rfl (by decide) (by omega) u3 eG afT [.slice kX afT.length jy] (fun _=>True) (fun k_=>some k_=(.slice kX afT.length jy:Value).ownBlock) rfl rfl ?aP (fun k_ hk_=>((ay (ok':=fun k_=>((fun _=>True)) k_∧some k_≠(u3:Value).ownBlock) (oq (Z8.out) (yh mZ.out) (by decide)) (fun k_ hk=>⟨trivial,hk.2⟩))).1 k_ hk_.symm) ?aF ?aO ?aB ?aS ?aL ?_;(case aP=>exact VR (ay (KJ rfl (ay (ok':=fun k_=>((fun _=>True)) k_∧some k_≠(u3:Value).ownBlock) (oq (Z8.out) (yh mZ.out) (by decide)) (fun k_ hk=>⟨trivial,hk.2⟩))) (fun _ h_=>h_)));(case aB=>exact(ul HB.out));(case aF=>exact(fun _ _=>trivial));(case aO=>exact(by(with_reducible repeat(first|apply Kd.eH|apply Kd.eP|apply Kd.iF));exact uj mZ.out (fun k_ hk=>⟨trivial,fun e_=>hk.2 e_⟩)));(case aS=>exact(au (ul HB.out)));(case aL=>have:=aib.out;omega);intro aMQ w12 ho hb hg hat;rw[←alj.out]at ho;have avE:=ak (ho);replace HB:=ak (hb);clear ho hb hg hat mZ Z8))
    go_roundg k1
    case measure=>exact kl
    case rel=>exact⟨_,_,rs,H',⟨kl⟩,⟨by(with_reducible repeat(first|apply Kd.eH|apply Kd.eP|apply Kd.iF));exact avE.out⟩,⟨ul HB.out⟩⟩
   ·obtain rfl:=s1 H;go_wp2;go_ret;exact⟨_,er,by(with_reducible repeat(first|apply Kd.eH|apply Kd.eP|apply Kd.iF));exact mZ.out,ul HB.out⟩
def qV.f(k:Nat)(l0:List ByteArray)(a1:ByteArray):Option ((List (List ByteArray))×Bool):=(aJ.f k l0 a1).bind fun alp=>((dU.f k alp.1).bind fun arX=>(some (arX,alp.2)))
theorem qV.calls{k c0:Nat}{A0:Option Addr}{l0:List ByteArray}{a1:ByteArray}{r1:List (List ByteArray)}{r2:Bool}{w:World}(hr0:Kd.C Kd.string w A0 l0.length l0)(hc0:l0.length≤c0)(h:qV.f k l0 a1=some (r1,r2)):
  Calls Tryz.prog 147 #[.slice A0 l0.length c0, .string a1] w fun e w'=>∃pW:Value,e= .returned (.tuple #[pW, .bool r2])∧Kd.S (Kd.slice 9 Kd.string) 23 w' w.heap.size (fun _=>True) pW r1∧Below w.heap.size w w':=by
 have HR0:=ak hr0;have vw:=ak hc0;clear hr0 hc0;have HB:=ak (Below.refl w.heap.size w);unfold qV.f at h;have H:=h;clear h;replace H:=bd H;obtain⟨⟨aMR,aMS⟩,A3,H⟩:=H
 (try dsimp only at H);replace H:=bd H;obtain⟨arX,A4,H⟩:=H;obtain⟨rfl,rfl⟩:=s2 H;go_enter func147,ntmps147;go_wp2_with (first|(refine gV func171 (aJ.calls (cu HR0.out) vw.out A3.out) ?_;rintro aMT w5 ⟨ho0,hb⟩;have RN:=ak (AB ho0 (au (ul HB.out)));replace HB:=bs HB hb;clear hb;(try clear ho0);obtain⟨Ao6,co6,eo6⟩:=AO RN.out;subst eo6)|(refine gV func172 (dU.calls (cu ((rJ RN.out).2.2)) ((rJ RN.out).2.1) A4.out) ?_;rintro aMU w7 ⟨ho0,hb⟩;have avF:=ak (AB (VX ho0 (aDj (by(with_reducible repeat(first|apply Kd.eH|apply Kd.eP|apply Kd.iF));exact RN.out))) (au (ul HB.out)));replace RN:=ak (tV (by(with_reducible repeat(first|apply Kd.eH|apply Kd.eP|apply Kd.iF));exact RN.out) (alh ho0) hb);replace HB:=bs HB hb;clear hb;(try clear ho0)))
 go_ret2;exact⟨_,er,by(with_reducible repeat(first|apply Kd.eH|apply Kd.eP|apply Kd.iF));exact uj avF.out (fun _ hk=>trivial),ul HB.out⟩
end Go.Proofs.YtncdadcmghglkaaGreatDoor.PFnParseBody
