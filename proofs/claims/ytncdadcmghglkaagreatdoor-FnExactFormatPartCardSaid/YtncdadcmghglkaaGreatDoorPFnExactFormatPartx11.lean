/- Printed walks; conditions: those in each statement. -/
import Derived.Test.YtncdadcmghglkaaGreatDoorVFnExactFormatPartQt
import Derived.Test.YtncdadcmghglkaaGreatDoorVFnExactFormatPartYt
import Derived.Test.YtncdadcmghglkaaGreatDoorPFnExactFormatPartx0
namespace Go.Proofs.YtncdadcmghglkaaGreatDoor.PFnExactFormatPart
open Go.RowKit Go.Proofs.YtncdadcmghglkaaGreatDoor.X Go.Proofs.YtncdadcmghglkaaGreatDoorW.dB Go.Proofs.YtncdadcmghglkaaGreatDoorW.iy Go.Proofs.YtncdadcmghglkaaGreatDoorW.jo
attribute [local go_sem] lU lV oh oq kJ kK lW lX   -- for this text's walks alone
set_option linter.unusedVariables false
set_option linter.unusedSimpArgs false
mutual
def aW.l0:Nat→ByteArray→Int→Option (Bool)
 |0,_,_=>none
 |k+1,x0,x3=>if x3<(x0.size:Int)then(aW.j1 k x0 x3 (decide (x3≤200)))else(aW.j1 k x0 x3 false)
def aW.j1:Nat→ByteArray→Int→Bool→Option (Bool)
 |0,_,_,_=>none
 |k+1,x0,x3,x11=>if x11=true then(if 0≤x3 then(if x3<(x0.size:Int)then(if(bt x0 x3)<32 then(some false)else(if(bt x0 x3)>126 then(some false)else(aW.l0 k x0 (wrap64 (x3+1)))))else(none))else(none))else(some (decide ((x0.size:Int)≤200)))
end
def aW.f(k:Nat)(a0:ByteArray):Option (Bool):=aW.l0 k a0 0
set_option maxHeartbeats 8000000 in
set_option maxRecDepth 100000 in
theorem aW.calls(k:Nat)(a0:ByteArray)(r:Bool)(w:World)(h:aW.f k a0=some r):
  Calls Tryz.prog 159 #[.string a0] w fun e w'=>e= .returned (.bool r)∧eH w w':=by
 have H:(aW.l0 k a0 0)=some r:=h;clear h;have H':=ak H;clear H;go_enter Tryz.func159,Tryz.ntmps159;go_wp2;go_loopg [3] k (fun kq v3 w'=>∃(cO:Int),v3= .int .i64 cO∧ah (aW.l0 kq a0 cO=some r)∧ah (kq≤k)∧eH w w')
 case atStart=>exact⟨(0),rs,H',⟨Nat.le_refl _⟩,dn⟩
 case round=>
  clear H';try clear c1
  obtain⟨cO,rfl,HA,iC,⟨m1,rfl⟩⟩:=hrel
  cases gk with
  |zero=>exact absurd HA.out (by simp[aW.l0])
  |succ k1=>
   have H:=HA.out;clear HA;simp only[aW.l0]at H;have HC2:=ak H;clear H;go_upto_region 2 with(fail)
   go_cut [11] (fun v11 wc=>∃(kq:Nat) (sH:Bool),v11= .bool sH∧ah (aW.j1 kq a0 cO sH=some r)∧ah (kq≤k1)∧eH w wc)
   case first=>
    have H:=HC2.out;clear HC2;replace H:=sd H;rcases H with⟨fM,H⟩|⟨fM,H⟩
    ·(first|rw[fM]|(simp only[bC,bH];rw[fM])|skip);have H':=ak H;clear H;go_wp2;go_meet
     case rel=>exact⟨_,(decide (cO≤200)),rs,H',⟨by have:=iC.out;first|omega|exact Nat.le_refl _⟩,dn⟩
    ·(first|rw[fM]|(simp only[bC,bH];rw[fM])|skip);have H':=ak H;clear H;go_wp2;go_meet
     case rel=>exact⟨_,(false),rs,H',⟨by have:=iC.out;first|omega|exact Nat.le_refl _⟩,dn⟩
   case rest=>
    clear HC2;try clear c1
    try clear p2
    try clear c3
    try clear fM
    obtain⟨kq,sH,rfl,HA,AO,⟨mc1,rfl⟩⟩:=hcut
    cases kq with
    |zero=>exact absurd HA.out (by simp[aW.j1])
    |succ Gj=>
     have H:=HA.out;clear HA;simp only[aW.j1]at H;replace H:=sb H;rcases H with⟨rfl,H⟩|⟨rfl,H⟩
     ·replace H:=og H;obtain⟨pU,H⟩:=H;replace H:=og H;obtain⟨mW,H⟩:=H;replace H:=sd H;rcases H with⟨uV,H⟩|⟨uV,H⟩
      ·obtain rfl:=Option.some.inj H;obtain⟨p7,q7,hx7⟩:=bx a0 cO;go_wp2;go_ret;exact⟨rs,dn⟩
      ·replace H:=sp H;rcases H with⟨c10,H⟩|⟨c10,H⟩
       ·have qj:decide (126<(bt a0 cO))=true:=decide_eq_true c10;clear c10;obtain rfl:=Option.some.inj H;obtain⟨p7,q7,hx7⟩:=bx a0 cO;obtain⟨p9,q9,hx9⟩:=bx a0 cO;go_wp2;go_ret;exact⟨rs,dn⟩
       ·have qj:decide (126<(bt a0 cO))=false:=decide_eq_false c10;clear c10;have H':=ak H;clear H;obtain⟨p7,q7,hx7⟩:=bx a0 cO;obtain⟨p9,q9,hx9⟩:=bx a0 cO;go_wp2;go_roundg Gj
        case measure=>have:=iC.out;have:=AO.out;omega
        case rel=>exact⟨(wrap64 (cO+1)),rs,H',⟨by have:=iC.out;have:=AO.out;omega⟩,dn⟩
     ·obtain rfl:=Option.some.inj H;go_wp2;go_ret;exact⟨rs,dn⟩
mutual
def bZ.j1:Nat→ByteArray→Option (ByteArray)
 |0,_=>none
 |k+1,x0=>bZ.l1 k x0
def bZ.l1:Nat→ByteArray→Option (ByteArray)
 |0,_=>none
 |k+1,x0=>if(x0.size:Int)>0 then(if 0≤(wrap64 ((x0.size:Int)-1))then(if(wrap64 ((x0.size:Int)-1))<(x0.size:Int)then(if(bt x0 (wrap64 ((x0.size:Int)-1)))=32 then(if(wrap64 ((x0.size:Int)-1))≤(x0.size:Int)then(bZ.l1 k (x0.extract 0 ((wrap64 ((x0.size:Int)-1)):Int).toNat))else(none))else(some x0))else(none))else(none))else(some x0)
def bZ.l0:Nat→ByteArray→Option (ByteArray)
 |0,_=>none
 |k+1,x0=>if(x0.size:Int)>0 then(if 0<(x0.size:Int)then(if(bt x0 0)=32 then(if 1≤(x0.size:Int)then(bZ.l0 k (x0.extract 1 x0.size))else(none))else(bZ.j1 k x0))else(none))else(bZ.j1 k x0)
end
def bZ.f(k:Nat)(a0:ByteArray):Option (ByteArray):=bZ.l0 k a0
set_option maxHeartbeats 8000000 in
set_option maxRecDepth 100000 in
theorem bZ.calls(k:Nat)(a0:ByteArray)(r:ByteArray)(w:World)(h:bZ.f k a0=some r):
  Calls Tryz.prog 179 #[.string a0] w fun e w'=>e= .returned (.string r)∧eH w w':=by
 have H:(bZ.l0 k a0)=some r:=h;clear h;have HC2:=ak H;clear H;go_enter Tryz.func179,Tryz.ntmps179;go_upto_block 0 with(fail)
 go_cut [0] (fun v0 wc=>∃(kq:Nat) (ji:ByteArray),v0= .string ji∧ah (bZ.j1 kq ji=some r)∧ah (kq≤k)∧eH w wc)
 case first=>
  have H:=HC2.out;clear HC2;have H':=ak H;clear H;go_wp2;go_loopg [0] k (fun kq v0 w'=>∃(ji:ByteArray),v0= .string ji∧ah (bZ.l0 kq ji=some r)∧ah (kq≤k)∧eH w w')
  case atStart=>exact⟨(a0),rs,H',⟨Nat.le_refl _⟩,dn⟩
  case round=>
   clear H';try clear c1
   try clear p2
   obtain⟨ji,rfl,HA,iC,⟨m1,rfl⟩⟩:=hrel
   cases gk with
   |zero=>exact absurd HA.out (by simp[bZ.l0])
   |succ k1=>
    have H:=HA.out;clear HA;simp only[bZ.l0]at H;replace H:=sp H;rcases H with⟨c3,H⟩|⟨c3,H⟩
    ·have fM:decide (0<(ji.size:Int))=true:=decide_eq_true c3;have oZ:decide (0<ji.size)=true:=decide_eq_true (by omega);clear c3
     (first|rw[fM]|(simp only[bC,bH];rw[fM])|skip);replace H:=nn H;obtain⟨c4,H⟩:=H;have nM:=decide_eq_true c4;have OE:decide (0<ji.size)=true:=decide_eq_true (by omega);clear c4;replace H:=sq H;rcases H with⟨mW,yt,H⟩|⟨c6,mW,yt,H⟩
     ·replace H:=EG H;obtain⟨oJ,EH,H⟩:=H;have H':=ak H;clear H;have p5:0≤(0:Int):=(by omega)
      have q5:0<ji.size:=(by have:(0:Int)<(ji.size:Int):=of_decide_eq_true (by assumption);omega)
      have hx5:∀h:0<ji.size,((ji[0]'h).toNat:Int)=bt ji 0:=tY ji 0;clear p5;have qi5:(0<(ji.size:Int))=True:=eq_true (of_decide_eq_true (by assumption));replace q5:=eq_true q5;go_wp2;go_roundg k1
      case measure=>have:=iC.out;omega
      case rel=>exact⟨(ji.extract 1 ji.size),rs,H',⟨by have:=iC.out;omega⟩,dn⟩
     ·have H':=ak H;clear H;have p5:0≤(0:Int):=(by omega)
      have q5:0<ji.size:=(by have:(0:Int)<(ji.size:Int):=of_decide_eq_true (by assumption);omega)
      have hx5:∀h:0<ji.size,((ji[0]'h).toNat:Int)=bt ji 0:=tY ji 0;clear p5;have qi5:(0<(ji.size:Int))=True:=eq_true (of_decide_eq_true (by assumption));replace q5:=eq_true q5;go_wp2;go_meet
      case rel=>exact⟨_,(ji),rs,H',⟨by have:=iC.out;first|omega|exact Nat.le_refl _⟩,dn⟩
    ·have fM:decide (0<(ji.size:Int))=false:=decide_eq_false c3;have oZ:decide (0<ji.size)=false:=decide_eq_false (by omega);clear c3
     (first|rw[fM]|(simp only[bC,bH];rw[fM])|skip);have H':=ak H;clear H;go_wp2;go_meet
     case rel=>exact⟨_,(ji),rs,H',⟨by have:=iC.out;first|omega|exact Nat.le_refl _⟩,dn⟩
 case rest=>
  clear HC2;try clear c1
  try clear p2
  try clear c3
  try clear fM
  try clear oZ
  try clear c4
  try clear nM
  try clear OE
  try clear p5
  try clear q5
  try clear hx5
  try clear qi5
  try clear c6
  try clear mW
  try clear yt
  try clear c7
  try clear oJ
  try clear EH
  try clear p2
  try clear p5
  try clear q5
  obtain⟨kq,ji,rfl,HA,AO,⟨mc1,rfl⟩⟩:=hcut
  cases kq with
  |zero=>exact absurd HA.out (by simp[bZ.j1])
  |succ Gj=>
   have H:=HA.out;clear HA;simp only[bZ.j1]at H;have H':=ak H;clear H;go_wp2;go_loopg [0] Gj (fun kq v0 w'=>∃(E_:ByteArray),v0= .string E_∧ah (bZ.l1 kq E_=some r)∧ah (kq≤Gj)∧eH w w')
   case atStart=>exact⟨(ji),rs,H',⟨Nat.le_refl _⟩,dn⟩
   case round=>
    clear H';try clear c1
    try clear p2
    try clear c3
    try clear fM
    try clear oZ
    try clear c4
    try clear nM
    try clear OE
    try clear p5
    try clear q5
    try clear hx5
    try clear qi5
    try clear c6
    try clear mW
    try clear yt
    try clear c7
    try clear oJ
    try clear EH
    try clear p2
    try clear p5
    try clear q5
    obtain⟨E_,rfl,HA,yT,⟨m2,rfl⟩⟩:=hrel
    cases gk with
    |zero=>exact absurd HA.out (by simp[bZ.l1])
    |succ k2=>
     have H:=HA.out;clear HA;simp only[bZ.l1]at H;replace H:=sp H;rcases H with⟨c8,H⟩|⟨c8,H⟩
     ·have uV:decide (0<(E_.size:Int))=true:=decide_eq_true c8;have Lh:decide (0<E_.size)=true:=decide_eq_true (by omega);clear c8;obtain⟨Vw,TB⟩:∃j_:Int,(wrap64 ((E_.size:Int)-1))=j_:=⟨_,rfl⟩
      replace H:(if 0≤(Vw)then(if(Vw)<(E_.size:Int)then(if(bt E_ (Vw))=32 then(if(Vw)≤(E_.size:Int)then(bZ.l1 k2 (E_.extract 0 ((Vw):Int).toNat))else(none))else(some E_))else(none))else(none))=some r:=by first|(rw[TB]at H;exact H)|(simp only[TB]at H⊢;exact H)
      have aog:(IntKind.i64.wrap ((E_.size:Int)-1))=Vw:=(bC _).trans TB;replace H:=og H;obtain⟨qj,H⟩:=H;replace H:=og H;obtain⟨zU,H⟩:=H;replace H:=sq H;rcases H with⟨uO,yI,H⟩|⟨c13,uO,yI,H⟩
      ·have t_:=eq_true (of_decide_eq_true (by assumption):0≤(Vw));replace H:=EG H;obtain⟨xW,Rh,H⟩:=H;have H':=ak H;clear H;obtain⟨p12,q12,af9⟩:=bx E_ (Vw);go_wp2;go_roundg k2
       case measure=>have:=AO.out;have:=yT.out;omega
       case rel=>exact⟨(E_.extract 0 ((Vw):Int).toNat),(by first|rfl|(simp;done)|(simp only[←TB]<;>(first|rfl|simp))|(simp[*];done)),H',⟨by have:=AO.out;have:=yT.out;omega⟩,dn⟩
      ·obtain rfl:=Option.some.inj H;obtain⟨p12,q12,af9⟩:=bx E_ (Vw);go_wp2;go_ret;exact⟨by first|rfl|(simp;done)|(simp only[←TB]<;>(first|rfl|simp))|(simp[*];done),dn⟩
     ·have uV:decide (0<(E_.size:Int))=false:=decide_eq_false c8;have Lh:decide (0<E_.size)=false:=decide_eq_false (by omega);clear c8;obtain rfl:=Option.some.inj H;go_wp2;go_ret;exact⟨rs,dn⟩
def iT.f(a0:Int):Option (Bool):=if a0≥97 then(if a0≤122 then(some true)else(if a0≥65 then(if a0≤90 then(some true)else(if a0≥48 then(some (decide (a0≤57)))else(some false)))else(if a0≥48 then(some (decide (a0≤57)))else(some false))))else(if a0≥65 then(if a0≤90 then(some true)else(if a0≥48 then(some (decide (a0≤57)))else(some false)))else(if a0≥48 then(some (decide (a0≤57)))else(some false)))
set_option maxHeartbeats 8000000 in
set_option maxRecDepth 100000 in
theorem iT.calls(a0:Int)(r:Bool)(w:World)(h:iT.f a0=some r):
  Calls Tryz.prog 183 #[.int .u8 a0] w fun e w'=>e= .returned (.bool r)∧eH w w':=by
 have H:(if a0≥97 then(if a0≤122 then(some true)else(if a0≥65 then(if a0≤90 then(some true)else(if a0≥48 then(some (decide (a0≤57)))else(some false)))else(if a0≥48 then(some (decide (a0≤57)))else(some false))))else(if a0≥65 then(if a0≤90 then(some true)else(if a0≥48 then(some (decide (a0≤57)))else(some false)))else(if a0≥48 then(some (decide (a0≤57)))else(some false))))=some r:=h;clear h;replace H:=sp H;rcases H with⟨c2,H⟩|⟨c2,H⟩
 ·have sW:decide (97≤a0)=true:=decide_eq_true c2;clear c2;replace H:=sd H;rcases H with⟨fM,H⟩|⟨fM,H⟩
  ·obtain rfl:=Option.some.inj H;go_enter Tryz.func183,Tryz.ntmps183;go_wp2;go_ret;exact⟨rs,dn⟩
  ·replace H:=sp H;rcases H with⟨c4,H⟩|⟨c4,H⟩
   ·have nM:decide (65≤a0)=true:=decide_eq_true c4;clear c4;replace H:=sd H;rcases H with⟨pU,H⟩|⟨pU,H⟩
    ·obtain rfl:=Option.some.inj H;go_enter Tryz.func183,Tryz.ntmps183;go_wp2;go_ret;exact⟨rs,dn⟩
    ·replace H:=sp H;rcases H with⟨c6,H⟩|⟨c6,H⟩
     ·have mW:decide (48≤a0)=true:=decide_eq_true c6;clear c6;obtain rfl:=Option.some.inj H;go_enter Tryz.func183,Tryz.ntmps183;go_wp2;go_ret;exact⟨rs,dn⟩
     ·have mW:decide (48≤a0)=false:=decide_eq_false c6;clear c6;obtain rfl:=Option.some.inj H;go_enter Tryz.func183,Tryz.ntmps183;go_wp2;go_ret;exact⟨rs,dn⟩
   ·have nM:decide (65≤a0)=false:=decide_eq_false c4;clear c4;replace H:=sp H;rcases H with⟨c7,H⟩|⟨c7,H⟩
    ·have oJ:decide (48≤a0)=true:=decide_eq_true c7;clear c7;obtain rfl:=Option.some.inj H;go_enter Tryz.func183,Tryz.ntmps183;go_wp2;go_ret;exact⟨rs,dn⟩
    ·have oJ:decide (48≤a0)=false:=decide_eq_false c7;clear c7;obtain rfl:=Option.some.inj H;go_enter Tryz.func183,Tryz.ntmps183;go_wp2;go_ret;exact⟨rs,dn⟩
 ·have sW:decide (97≤a0)=false:=decide_eq_false c2;clear c2;replace H:=sp H;rcases H with⟨c8,H⟩|⟨c8,H⟩
  ·have uV:decide (65≤a0)=true:=decide_eq_true c8;clear c8;replace H:=sd H;rcases H with⟨wQ,H⟩|⟨wQ,H⟩
   ·obtain rfl:=Option.some.inj H;go_enter Tryz.func183,Tryz.ntmps183;go_wp2;go_ret;exact⟨rs,dn⟩
   ·replace H:=sp H;rcases H with⟨c10,H⟩|⟨c10,H⟩
    ·have qj:decide (48≤a0)=true:=decide_eq_true c10;clear c10;obtain rfl:=Option.some.inj H;go_enter Tryz.func183,Tryz.ntmps183;go_wp2;go_ret;exact⟨rs,dn⟩
    ·have qj:decide (48≤a0)=false:=decide_eq_false c10;clear c10;obtain rfl:=Option.some.inj H;go_enter Tryz.func183,Tryz.ntmps183;go_wp2;go_ret;exact⟨rs,dn⟩
  ·have uV:decide (65≤a0)=false:=decide_eq_false c8;clear c8;replace H:=sp H;rcases H with⟨c11,H⟩|⟨c11,H⟩
   ·have zU:decide (48≤a0)=true:=decide_eq_true c11;clear c11;obtain rfl:=Option.some.inj H;go_enter Tryz.func183,Tryz.ntmps183;go_wp2;go_ret;exact⟨rs,dn⟩
   ·have zU:decide (48≤a0)=false:=decide_eq_false c11;clear c11;obtain rfl:=Option.some.inj H;go_enter Tryz.func183,Tryz.ntmps183;go_wp2;go_ret;exact⟨rs,dn⟩
mutual
def bT.l0:Nat→ByteArray→Int→Option (Bool)
 |0,_,_=>none
 |k+1,x0,x3=>if x3<(x0.size:Int)then(bT.j1 k x0 x3 (decide (x3≤30)))else(bT.j1 k x0 x3 false)
def bT.j1:Nat→ByteArray→Int→Bool→Option (Bool)
 |0,_,_,_=>none
 |k+1,x0,x3,x11=>if x11=true then(if 0≤x3 then(if x3<(x0.size:Int)then((iT.f (bt x0 x3)).bind fun aoh=>(if aoh=true then(if x3=0 then(if(bt x0 x3)≤57 then(some false)else(bT.l0 k x0 (wrap64 (x3+1))))else(bT.l0 k x0 (wrap64 (x3+1))))else(if(bt x0 x3)=45 then(if x3=0 then(if(bt x0 x3)≤57 then(some false)else(bT.l0 k x0 (wrap64 (x3+1))))else(bT.l0 k x0 (wrap64 (x3+1))))else(some false))))else(none))else(none))else(if(x0.size:Int)≥1 then(some (decide ((x0.size:Int)≤30)))else(some false))
end
def bT.f(k:Nat)(a0:ByteArray):Option (Bool):=bT.l0 k a0 0
set_option maxHeartbeats 8000000 in
set_option maxRecDepth 100000 in
theorem bT.calls(k:Nat)(a0:ByteArray)(r:Bool)(w:World)(h:bT.f k a0=some r):
  Calls Tryz.prog 184 #[.string a0] w fun e w'=>e= .returned (.bool r)∧eH w w':=by
 have H:(bT.l0 k a0 0)=some r:=h;clear h;have H':=ak H;clear H;go_enter Tryz.func184,Tryz.ntmps184;go_wp2;go_loopg [3] k (fun kq v3 w'=>∃(cO:Int),v3= .int .i64 cO∧ah (bT.l0 kq a0 cO=some r)∧ah (kq≤k)∧eH w w')
 case atStart=>exact⟨(0),rs,H',⟨Nat.le_refl _⟩,dn⟩
 case round=>
  clear H';try clear c1
  obtain⟨cO,rfl,HA,iC,⟨m1,rfl⟩⟩:=hrel
  cases gk with
  |zero=>exact absurd HA.out (by simp[bT.l0])
  |succ k1=>
   have H:=HA.out;clear HA;simp only[bT.l0]at H;have HC2:=ak H;clear H;go_upto_region 2 with(fail)
   go_cut [11] (fun v11 wc=>∃(kq:Nat) (sH:Bool),v11= .bool sH∧ah (bT.j1 kq a0 cO sH=some r)∧ah (kq≤k1)∧eH w wc)
   case first=>
    have H:=HC2.out;clear HC2;replace H:=sd H;rcases H with⟨fM,H⟩|⟨fM,H⟩
    ·(first|rw[fM]|(simp only[bC,bH];rw[fM])|skip);have H':=ak H;clear H;go_wp2;go_meet
     case rel=>exact⟨_,(decide (cO≤30)),rs,H',⟨by have:=iC.out;first|omega|exact Nat.le_refl _⟩,dn⟩
    ·(first|rw[fM]|(simp only[bC,bH];rw[fM])|skip);have H':=ak H;clear H;go_wp2;go_meet
     case rel=>exact⟨_,(false),rs,H',⟨by have:=iC.out;first|omega|exact Nat.le_refl _⟩,dn⟩
   case rest=>
    clear HC2;try clear c1
    try clear p2
    try clear c3
    try clear fM
    obtain⟨kq,sH,rfl,HA,AO,⟨mc1,rfl⟩⟩:=hcut
    cases kq with
    |zero=>exact absurd HA.out (by simp[bT.j1])
    |succ Gj=>
     have H:=HA.out;clear HA;simp only[bT.j1]at H;replace H:=sb H;rcases H with⟨rfl,H⟩|⟨rfl,H⟩
     ·replace H:=og H;obtain⟨pU,H⟩:=H;replace H:=og H;obtain⟨mW,H⟩:=H;replace H:=bd H;obtain⟨aoh,A8,H⟩:=H;replace H:=sb H;rcases H with⟨rfl,H⟩|⟨rfl,H⟩
      ·replace H:=sq H;rcases H with⟨qj,vI,H⟩|⟨c10,qj,vI,H⟩
       ·replace H:=sd H;rcases H with⟨vJ,H⟩|⟨vJ,H⟩
        ·obtain rfl:=Option.some.inj H;obtain⟨p7,q7,hx7⟩:=bx a0 cO;go_wp2_with (first|(refine gL 183 17 Tryz.func183 #[.int .u8 (bt a0 cO)] ?_;(with_reducible refine(iT.calls (bt a0 cO) true _ A8.out).mono ?_);rintro e w' ⟨rfl,⟨nd,rfl⟩⟩;refine⟨_,rfl,?_⟩;have p11:0≤(cO:Int):=of_decide_eq_true (by assumption);have q11:cO<(a0.size:Int):=of_decide_eq_true (by assumption);have Vx:=tY a0 cO;replace p11:=eq_true p11;replace q11:=eq_true q11))
         go_ret;exact⟨rs,dn⟩
        ·have H':=ak H;clear H;obtain⟨p7,q7,hx7⟩:=bx a0 cO;go_wp2_with (first|(refine gL 183 17 Tryz.func183 #[.int .u8 (bt a0 cO)] ?_;(with_reducible refine(iT.calls (bt a0 cO) true _ A8.out).mono ?_);rintro e w' ⟨rfl,⟨nd,rfl⟩⟩;refine⟨_,rfl,?_⟩;have p11:0≤(cO:Int):=of_decide_eq_true (by assumption);have q11:cO<(a0.size:Int):=of_decide_eq_true (by assumption);have Vx:=tY a0 cO;replace p11:=eq_true p11;replace q11:=eq_true q11))
         go_roundg Gj
         case measure=>have:=iC.out;have:=AO.out;omega
         case rel=>exact⟨(wrap64 (cO+1)),rs,H',⟨by have:=iC.out;have:=AO.out;omega⟩,dn⟩
       ·have H':=ak H;clear H;obtain⟨p7,q7,hx7⟩:=bx a0 cO;go_wp2_with (first|(refine gL 183 17 Tryz.func183 #[.int .u8 (bt a0 cO)] ?_;(with_reducible refine(iT.calls (bt a0 cO) true _ A8.out).mono ?_);rintro e w' ⟨rfl,⟨nd,rfl⟩⟩;refine⟨_,rfl,?_⟩))
        go_roundg Gj
        case measure=>have:=iC.out;have:=AO.out;omega
        case rel=>exact⟨(wrap64 (cO+1)),rs,H',⟨by have:=iC.out;have:=AO.out;omega⟩,dn⟩
      ·replace H:=sq H;rcases H with⟨t_,yJ,H⟩|⟨c14,t_,yJ,H⟩
       ·replace H:=sq H;rcases H with⟨xW,Rh,H⟩|⟨c15,xW,Rh,H⟩
        ·replace H:=sd H;rcases H with⟨qE,H⟩|⟨qE,H⟩
         ·obtain rfl:=Option.some.inj H;obtain⟨p7,q7,hx7⟩:=bx a0 cO;go_wp2_with (first|(refine gL 183 17 Tryz.func183 #[.int .u8 (bt a0 cO)] ?_;(with_reducible refine(iT.calls (bt a0 cO) false _ A8.out).mono ?_);rintro e w' ⟨rfl,⟨nd,rfl⟩⟩;refine⟨_,rfl,?_⟩;have p13:0≤(cO:Int):=of_decide_eq_true (by assumption);have q13:cO<(a0.size:Int):=of_decide_eq_true (by assumption);have ak0:=tY a0 cO;replace p13:=eq_true p13;replace q13:=eq_true q13;have p16:0≤(cO:Int):=of_decide_eq_true (by assumption);have q16:cO<(a0.size:Int):=of_decide_eq_true (by assumption);have hx16:=tY a0 cO;replace p16:=eq_true p16;replace q16:=eq_true q16))
          go_ret;exact⟨rs,dn⟩
         ·have H':=ak H;clear H;obtain⟨p7,q7,hx7⟩:=bx a0 cO;go_wp2_with (first|(refine gL 183 17 Tryz.func183 #[.int .u8 (bt a0 cO)] ?_;(with_reducible refine(iT.calls (bt a0 cO) false _ A8.out).mono ?_);rintro e w' ⟨rfl,⟨nd,rfl⟩⟩;refine⟨_,rfl,?_⟩;have p13:0≤(cO:Int):=of_decide_eq_true (by assumption);have q13:cO<(a0.size:Int):=of_decide_eq_true (by assumption);have ak0:=tY a0 cO;replace p13:=eq_true p13;replace q13:=eq_true q13;have p16:0≤(cO:Int):=of_decide_eq_true (by assumption);have q16:cO<(a0.size:Int):=of_decide_eq_true (by assumption);have hx16:=tY a0 cO;replace p16:=eq_true p16;replace q16:=eq_true q16))
          go_roundg Gj
          case measure=>have:=iC.out;have:=AO.out;omega
          case rel=>exact⟨(wrap64 (cO+1)),rs,H',⟨by have:=iC.out;have:=AO.out;omega⟩,dn⟩
        ·have H':=ak H;clear H;obtain⟨p7,q7,hx7⟩:=bx a0 cO;go_wp2_with (first|(refine gL 183 17 Tryz.func183 #[.int .u8 (bt a0 cO)] ?_;(with_reducible refine(iT.calls (bt a0 cO) false _ A8.out).mono ?_);rintro e w' ⟨rfl,⟨nd,rfl⟩⟩;refine⟨_,rfl,?_⟩;have p13:0≤(cO:Int):=of_decide_eq_true (by assumption);have q13:cO<(a0.size:Int):=of_decide_eq_true (by assumption);have ak0:=tY a0 cO;replace p13:=eq_true p13;replace q13:=eq_true q13))
         go_roundg Gj
         case measure=>have:=iC.out;have:=AO.out;omega
         case rel=>exact⟨(wrap64 (cO+1)),rs,H',⟨by have:=iC.out;have:=AO.out;omega⟩,dn⟩
       ·obtain rfl:=Option.some.inj H;obtain⟨p7,q7,hx7⟩:=bx a0 cO;go_wp2_with (first|(refine gL 183 17 Tryz.func183 #[.int .u8 (bt a0 cO)] ?_;(with_reducible refine(iT.calls (bt a0 cO) false _ A8.out).mono ?_);rintro e w' ⟨rfl,⟨nd,rfl⟩⟩;refine⟨_,rfl,?_⟩;have p13:0≤(cO:Int):=of_decide_eq_true (by assumption);have q13:cO<(a0.size:Int):=of_decide_eq_true (by assumption);have ak0:=tY a0 cO;replace p13:=eq_true p13;replace q13:=eq_true q13))
        go_ret;exact⟨rs,dn⟩
     ·replace H:=sp H;rcases H with⟨c18,H⟩|⟨c18,H⟩
      ·have Bg:decide (1≤(a0.size:Int))=true:=decide_eq_true c18;have Vy:decide (1≤a0.size)=true:=decide_eq_true (by omega);clear c18;obtain rfl:=Option.some.inj H;go_wp2;go_ret;exact⟨rs,dn⟩
      ·have Bg:decide (1≤(a0.size:Int))=false:=decide_eq_false c18;have Vy:decide (1≤a0.size)=false:=decide_eq_false (by omega);clear c18;obtain rfl:=Option.some.inj H;go_wp2;go_ret;exact⟨rs,dn⟩
def jT.f(k:Nat)(aY:ByteArray)(bf:ByteArray):Option (Bool):=(bT.f k aY).bind fun af_=>(if af_=true then((aW.f k bf).bind fun aga=>(if aga=true then(if(bf.size:Int)≤150 then((bZ.f k bf).bind fun Xv=>(some (Xv.toList==bf.toList)))else(some false))else(some false)))else(some false))
set_option maxHeartbeats 8000000 in
set_option maxRecDepth 100000 in
theorem jT.calls(k:Nat)(aY:ByteArray)(bf:ByteArray)(r:Bool)(w:World)(h:jT.f k aY bf=some r):
  Calls Tryz.prog 158 #[.agg #[.string aY, .string bf]] w fun e w'=>e= .returned (.bool r)∧Below w.heap.size w w':=by
 have Dq:=Tryz.underlying69;have HB:=ak (Below.refl w.heap.size w);have H:((bT.f k aY).bind fun af_=>(if af_=true then((aW.f k bf).bind fun aga=>(if aga=true then(if(bf.size:Int)≤150 then((bZ.f k bf).bind fun Xv=>(some (Xv.toList==bf.toList)))else(some false))else(some false)))else(some false)))=some r:=h;clear h;replace H:=bd H;obtain⟨af_,A2,H⟩:=H;replace H:=sb H;rcases H with⟨rfl,H⟩|⟨rfl,H⟩
 ·replace H:=bd H;obtain⟨aga,A4,H⟩:=H;replace H:=sb H;rcases H with⟨rfl,H⟩|⟨rfl,H⟩
  ·replace H:=sp H;rcases H with⟨c6,H⟩|⟨c6,H⟩
   ·have mW:=decide_eq_true c6;have yt:decide (bf.size≤150)=true:=decide_eq_true (by omega);clear c6;replace H:=bd H;obtain⟨Xv,A7,H⟩:=H;obtain rfl:=Option.some.inj H;go_enter Tryz.func158,Tryz.ntmps158;go_wp2_with (first|(refine bU (N:=1) rfl ?_;(try(refine aZ (by rfl) ?_;dsimp only));refine bE 1 #[.string aY, .string bf] 69 ?_;intro Fa hg w8 hbox hb;have sJ:=ak (hbox);have Fb:=jY HB hg;have Fe:=jY HB hg;replace HB:=bs HB hb;clear hb hbox hg;obtain⟨rY,rZ,r_,su⟩:=wO sJ.out)|(go_at_call 184;(with_reducible refine(bT.calls k aY true _ A2.out).mono ?_);rintro e w' ⟨rfl,⟨nd,rfl⟩⟩;(try exact dq))|(go_at_call 159;(with_reducible refine(aW.calls k bf true _ A4.out).mono ?_);rintro e w' ⟨rfl,⟨nd,rfl⟩⟩;(try exact dq))|(go_at_call 179;(with_reducible refine(bZ.calls k bf Xv _ A7.out).mono ?_);rintro e w' ⟨rfl,⟨nd,rfl⟩⟩;(try exact dq)))
    repeat(go_quiet (first|(refine bU (N:=1) rfl ?_;(try(refine aZ (by rfl) ?_;dsimp only));refine bE 1 #[.string aY, .string bf] 69 ?_;intro Fa hg w8 hbox hb;have sJ:=ak (hbox);have Fb:=jY HB hg;have Fe:=jY HB hg;replace HB:=bs HB hb;clear hb hbox hg;obtain⟨rY,rZ,r_,su⟩:=wO sJ.out)|(go_at_call 184;(with_reducible refine(bT.calls k aY true _ A2.out).mono ?_);rintro e w' ⟨rfl,⟨nd,rfl⟩⟩;(try exact dq))|(go_at_call 159;(with_reducible refine(aW.calls k bf true _ A4.out).mono ?_);rintro e w' ⟨rfl,⟨nd,rfl⟩⟩;(try exact dq))|(go_at_call 179;(with_reducible refine(bZ.calls k bf Xv _ A7.out).mono ?_);rintro e w' ⟨rfl,⟨nd,rfl⟩⟩;(try exact dq)));try go_wp2_with (first|(refine bU (N:=1) rfl ?_;(try(refine aZ (by rfl) ?_;dsimp only));refine bE 1 #[.string aY, .string bf] 69 ?_;intro Fa hg w8 hbox hb;have sJ:=ak (hbox);have Fb:=jY HB hg;have Fe:=jY HB hg;replace HB:=bs HB hb;clear hb hbox hg;obtain⟨rY,rZ,r_,su⟩:=wO sJ.out)|(go_at_call 184;(with_reducible refine(bT.calls k aY true _ A2.out).mono ?_);rintro e w' ⟨rfl,⟨nd,rfl⟩⟩;(try exact dq))|(go_at_call 159;(with_reducible refine(aW.calls k bf true _ A4.out).mono ?_);rintro e w' ⟨rfl,⟨nd,rfl⟩⟩;(try exact dq))|(go_at_call 179;(with_reducible refine(bZ.calls k bf Xv _ A7.out).mono ?_);rintro e w' ⟨rfl,⟨nd,rfl⟩⟩;(try exact dq))))
    go_ret;exact⟨er,bb⟩
   ·have mW:=decide_eq_false c6;have yt:decide (bf.size≤150)=false:=decide_eq_false (by omega);clear c6;obtain rfl:=Option.some.inj H;go_enter Tryz.func158,Tryz.ntmps158;go_wp2_with (first|(refine bU (N:=1) rfl ?_;(try(refine aZ (by rfl) ?_;dsimp only));refine bE 1 #[.string aY, .string bf] 69 ?_;intro Fa hg w10 hbox hb;have sJ:=ak (hbox);have Fb:=jY HB hg;have Fe:=jY HB hg;replace HB:=bs HB hb;clear hb hbox hg;obtain⟨xk,xq,xu,xw⟩:=wO sJ.out)|(go_at_call 184;(with_reducible refine(bT.calls k aY true _ A2.out).mono ?_);rintro e w' ⟨rfl,⟨nd,rfl⟩⟩;(try exact dq))|(go_at_call 159;(with_reducible refine(aW.calls k bf true _ A4.out).mono ?_);rintro e w' ⟨rfl,⟨nd,rfl⟩⟩;(try exact dq)))
    repeat(go_quiet (first|(refine bU (N:=1) rfl ?_;(try(refine aZ (by rfl) ?_;dsimp only));refine bE 1 #[.string aY, .string bf] 69 ?_;intro Fa hg w10 hbox hb;have sJ:=ak (hbox);have Fb:=jY HB hg;have Fe:=jY HB hg;replace HB:=bs HB hb;clear hb hbox hg;obtain⟨xk,xq,xu,xw⟩:=wO sJ.out)|(go_at_call 184;(with_reducible refine(bT.calls k aY true _ A2.out).mono ?_);rintro e w' ⟨rfl,⟨nd,rfl⟩⟩;(try exact dq))|(go_at_call 159;(with_reducible refine(aW.calls k bf true _ A4.out).mono ?_);rintro e w' ⟨rfl,⟨nd,rfl⟩⟩;(try exact dq)));try go_wp2_with (first|(refine bU (N:=1) rfl ?_;(try(refine aZ (by rfl) ?_;dsimp only));refine bE 1 #[.string aY, .string bf] 69 ?_;intro Fa hg w10 hbox hb;have sJ:=ak (hbox);have Fb:=jY HB hg;have Fe:=jY HB hg;replace HB:=bs HB hb;clear hb hbox hg;obtain⟨xk,xq,xu,xw⟩:=wO sJ.out)|(go_at_call 184;(with_reducible refine(bT.calls k aY true _ A2.out).mono ?_);rintro e w' ⟨rfl,⟨nd,rfl⟩⟩;(try exact dq))|(go_at_call 159;(with_reducible refine(aW.calls k bf true _ A4.out).mono ?_);rintro e w' ⟨rfl,⟨nd,rfl⟩⟩;(try exact dq))))
    go_ret;exact⟨er,bb⟩
  ·obtain rfl:=Option.some.inj H;go_enter Tryz.func158,Tryz.ntmps158;go_wp2_with (first|(refine bU (N:=1) rfl ?_;(try(refine aZ (by rfl) ?_;dsimp only));refine bE 1 #[.string aY, .string bf] 69 ?_;intro Fa hg w12 hbox hb;have sJ:=ak (hbox);have Fb:=jY HB hg;have Fe:=jY HB hg;replace HB:=bs HB hb;clear hb hbox hg;obtain⟨qH,qJ,qK,qL⟩:=wO sJ.out)|(go_at_call 184;(with_reducible refine(bT.calls k aY true _ A2.out).mono ?_);rintro e w' ⟨rfl,⟨nd,rfl⟩⟩;(try exact dq))|(go_at_call 159;(with_reducible refine(aW.calls k bf false _ A4.out).mono ?_);rintro e w' ⟨rfl,⟨nd,rfl⟩⟩;(try exact dq)))
   repeat(go_quiet (first|(refine bU (N:=1) rfl ?_;(try(refine aZ (by rfl) ?_;dsimp only));refine bE 1 #[.string aY, .string bf] 69 ?_;intro Fa hg w12 hbox hb;have sJ:=ak (hbox);have Fb:=jY HB hg;have Fe:=jY HB hg;replace HB:=bs HB hb;clear hb hbox hg;obtain⟨qH,qJ,qK,qL⟩:=wO sJ.out)|(go_at_call 184;(with_reducible refine(bT.calls k aY true _ A2.out).mono ?_);rintro e w' ⟨rfl,⟨nd,rfl⟩⟩;(try exact dq))|(go_at_call 159;(with_reducible refine(aW.calls k bf false _ A4.out).mono ?_);rintro e w' ⟨rfl,⟨nd,rfl⟩⟩;(try exact dq)));try go_wp2_with (first|(refine bU (N:=1) rfl ?_;(try(refine aZ (by rfl) ?_;dsimp only));refine bE 1 #[.string aY, .string bf] 69 ?_;intro Fa hg w12 hbox hb;have sJ:=ak (hbox);have Fb:=jY HB hg;have Fe:=jY HB hg;replace HB:=bs HB hb;clear hb hbox hg;obtain⟨qH,qJ,qK,qL⟩:=wO sJ.out)|(go_at_call 184;(with_reducible refine(bT.calls k aY true _ A2.out).mono ?_);rintro e w' ⟨rfl,⟨nd,rfl⟩⟩;(try exact dq))|(go_at_call 159;(with_reducible refine(aW.calls k bf false _ A4.out).mono ?_);rintro e w' ⟨rfl,⟨nd,rfl⟩⟩;(try exact dq))))
   go_ret;exact⟨er,bb⟩
 ·obtain rfl:=Option.some.inj H;go_enter Tryz.func158,Tryz.ntmps158;go_wp2_with (first|(refine bU (N:=1) rfl ?_;(try(refine aZ (by rfl) ?_;dsimp only));refine bE 1 #[.string aY, .string bf] 69 ?_;intro Fa hg Q9 hbox hb;have sJ:=ak (hbox);have Fb:=jY HB hg;have Fe:=jY HB hg;replace HB:=bs HB hb;clear hb hbox hg;obtain⟨lI,lJ,lK,lM⟩:=wO sJ.out)|(go_at_call 184;(with_reducible refine(bT.calls k aY false _ A2.out).mono ?_);rintro e w' ⟨rfl,⟨nd,rfl⟩⟩;(try exact dq)))
  repeat(go_quiet (first|(refine bU (N:=1) rfl ?_;(try(refine aZ (by rfl) ?_;dsimp only));refine bE 1 #[.string aY, .string bf] 69 ?_;intro Fa hg Q9 hbox hb;have sJ:=ak (hbox);have Fb:=jY HB hg;have Fe:=jY HB hg;replace HB:=bs HB hb;clear hb hbox hg;obtain⟨lI,lJ,lK,lM⟩:=wO sJ.out)|(go_at_call 184;(with_reducible refine(bT.calls k aY false _ A2.out).mono ?_);rintro e w' ⟨rfl,⟨nd,rfl⟩⟩;(try exact dq)));try go_wp2_with (first|(refine bU (N:=1) rfl ?_;(try(refine aZ (by rfl) ?_;dsimp only));refine bE 1 #[.string aY, .string bf] 69 ?_;intro Fa hg Q9 hbox hb;have sJ:=ak (hbox);have Fb:=jY HB hg;have Fe:=jY HB hg;replace HB:=bs HB hb;clear hb hbox hg;obtain⟨lI,lJ,lK,lM⟩:=wO sJ.out)|(go_at_call 184;(with_reducible refine(bT.calls k aY false _ A2.out).mono ?_);rintro e w' ⟨rfl,⟨nd,rfl⟩⟩;(try exact dq))))
  go_ret;exact⟨er,bb⟩
end Go.Proofs.YtncdadcmghglkaaGreatDoor.PFnExactFormatPart
