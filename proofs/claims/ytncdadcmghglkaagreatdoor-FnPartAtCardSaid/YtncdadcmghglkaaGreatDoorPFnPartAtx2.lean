/- Printed walks; conditions: those in each statement. -/
import Derived.Test.YtncdadcmghglkaaGreatDoorVFnPartAtQt
import Derived.Test.YtncdadcmghglkaaGreatDoorVFnPartAtYt
import Derived.Test.YtncdadcmghglkaaGreatDoorPFnPartAtx0
-- short
-- dense
-- sq
-- sq2
namespace Go.Proofs.YtncdadcmghglkaaGreatDoor.PFnPartAt
open Go.RowKit Go.Proofs.YtncdadcmghglkaaGreatDoor.X Go.Proofs.YtncdadcmghglkaaGreatDoorW.bQ Go.Proofs.YtncdadcmghglkaaGreatDoorW.jm Go.Proofs.YtncdadcmghglkaaGreatDoorW.kD
attribute [local go_sem] pV pW sK sN nI nJ pX pY   -- for this text's walks alone
set_option linter.unusedVariables false
set_option maxHeartbeats 8000000
set_option maxRecDepth 100000
set_option linter.unusedSimpArgs false
attribute [local go_sem high] avd
def jk.l0:Nat→List (fP)→List (fP)→Int→Int→Option (Bool)
 |0,_,_,_,_=>none
 |k+1,x0,x1,x12,DI=>if DI<x12 then(if 0≤DI then(if DI<(x0.length:Int)then(if DI<(x1.length:Int)then(if(!((((dU x0 DI).f0).toList)==(((dU x1 DI).f0).toList))||(!((((dU x0 DI).f1).toList)==(((dU x1 DI).f1).toList))))=true then(some false)else(jk.l0 k x0 x1 x12 (wrap64 (DI+1))))else(none))else(none))else(none))else(some true)
def jk.f (k:Nat) (l0:List (fP)) (l1:List (fP)):Option (Bool):=if(l0.length:Int)=(l1.length:Int)then(jk.l0 k l0 l1 (l0.length:Int) 0)else(some false)
theorem jk.calls {k c0 c1:Nat} {A0 A1:Option Addr} {l0 l1:List (fP)} {r:Bool} {w:World} (hr0:Kd.C ou w A0 l0.length l0) (hc0:l0.length≤c0) (hr1:Kd.C ou w A1 l1.length l1) (hc1:l1.length≤c1) (h:jk.f k l0 l1=some r):
  Calls Tryz.prog 62 #[.slice A0 l0.length c0, .slice A1 l1.length c1] w fun e w'=>e= .returned (.bool r)∧dO w w':=by
 have Gh:=Tryz.underlying69;have HR0:=ak hr0;have zH:=ak hc0;clear hr0 hc0;have HR1:=ak hr1;have HC1:=ak hc1;clear hr1 hc1;unfold jk.f at h;have H:=h;clear h;replace H:=sp H;rcases H with⟨c3,H⟩|⟨c3,H⟩
 ·have iW:=beq_iff_eq.mpr c3;have Ae:=bne_eq_false_iff_eq.mpr c3;have Ya:(l0.length==l1.length)=true:=by first|simpa using c3|(simp at c3⊢;omega)
  clear c3;have H':=ak H;clear H;go_enter Tryz.func62,Tryz.ntmps62;go_wp2;repeat(go_quiet (fail);try go_wp2)
  go_loopg [13] k (fun kq v13 w'=>∃(jH:Int),v13= .int .i64 jH∧ah (jk.l0 kq l0 l1 (l0.length:Int) jH=some r)∧ah (kq≤k)∧dO w w')
  case atStart=>exact⟨_,rs,H',⟨Nat.le_refl _⟩,dn⟩
  case round=>
   clear H';try clear c3
   try clear iW
   try clear Ae
   try clear Ya
   obtain⟨jH,rfl,HA,xK,⟨m1,rfl⟩⟩:=hrel
   cases gk with
   |zero=>exact zz HA.out
   |succ k1=>
    obtain⟨H⟩:=HA;simp only[jk.l0]at H;replace H:=sd H;rcases H with⟨rW,H⟩|⟨rW,H⟩
    ·replace H:=oL H;obtain⟨oz,H⟩:=H;replace H:=oL H;obtain⟨pF,H⟩:=H;replace H:=oL H;obtain⟨tZ,H⟩:=H;replace H:=sp H;rcases H with⟨c8,H⟩|⟨c8,H⟩
     ·have uK:(!((((dU l0 jH).f0).toList)==(((dU l1 jH).f0).toList))||(!((((dU l0 jH).f1).toList)==(((dU l1 jH).f1).toList))))=true:=c8;clear c8;obtain rfl:=s1 H;have acu:=zi jH;have acv:=zj jH l0.length;obtain⟨axL,asU,am9,am_⟩:=qW HR0.out jH acu acv;cases asU;replace acu:=eq_true acu;replace acv:=eq_true acv;have acw:=zi jH;have acy:=zj jH l1.length;obtain⟨axM,asV,ana,anb⟩:=qW HR1.out jH acw acy;cases asV;replace acw:=eq_true acw;replace acy:=eq_true acy;go_wp2;repeat(go_quiet (fail);try go_wp2)
      go_ret;exact⟨rs,dn⟩
     ·have uK:(!((((dU l0 jH).f0).toList)==(((dU l1 jH).f0).toList))||(!((((dU l0 jH).f1).toList)==(((dU l1 jH).f1).toList))))=false:=by simpa using c8
      clear c8;have H':=ak H;clear H;have acu:=zi jH;have acv:=zj jH l0.length;obtain⟨axL,asU,am9,am_⟩:=qW HR0.out jH acu acv;cases asU;replace acu:=eq_true acu;replace acv:=eq_true acv;have acw:=zi jH;have acy:=zj jH l1.length;obtain⟨axM,asV,ana,anb⟩:=qW HR1.out jH acw acy;cases asV;replace acw:=eq_true acw;replace acy:=eq_true acy;go_wp2;repeat(go_quiet (fail);try go_wp2)
      go_roundg k1
      case measure=>exact kl
      case rel=>exact⟨_,rs,H',⟨kl⟩,dn⟩
    ·obtain rfl:=s1 H;go_wp2;repeat(go_quiet (fail);try go_wp2)
     go_ret;exact⟨rs,dn⟩
 ·have iW:=beq_eq_false_iff_ne.mpr c3;have Ae:=bne_iff_ne.mpr c3;have Ya:(l0.length==l1.length)=false:=by first|simpa using c3|(simp at c3⊢;omega)
  obtain rfl:=s1 H;go_enter Tryz.func62,Tryz.ntmps62;go_wp2;repeat(go_quiet (fail);try go_wp2)
  go_ret;exact⟨rs,dn⟩
def bJ.l0:Nat→List ByteArray→List ByteArray→Int→Int→Option (Bool)
 |0,_,_,_,_=>none
 |k+1,x0,x1,x12,DI=>if DI<x12 then(if 0≤DI then(if DI<(x0.length:Int)then(if DI<(x1.length:Int)then(if(qH ByteArray.empty x0 DI).toList=(qH ByteArray.empty x1 DI).toList then(bJ.l0 k x0 x1 x12 (wrap64 (DI+1)))else(some false))else(none))else(none))else(none))else(some true)
def bJ.f (k:Nat) (l0:List ByteArray) (l1:List ByteArray):Option (Bool):=if(l0.length:Int)=(l1.length:Int)then(bJ.l0 k l0 l1 (l0.length:Int) 0)else(some false)
theorem bJ.calls {k c0 c1:Nat} {A0 A1:Option Addr} {l0 l1:List ByteArray} {r:Bool} {w:World} (hr0:Kd.C Kd.string w A0 l0.length l0) (hc0:l0.length≤c0) (hr1:Kd.C Kd.string w A1 l1.length l1) (hc1:l1.length≤c1) (h:bJ.f k l0 l1=some r):
  Calls Tryz.prog 63 #[.slice A0 l0.length c0, .slice A1 l1.length c1] w fun e w'=>e= .returned (.bool r)∧dO w w':=by
 have HR0:=ak hr0;have zH:=ak hc0;clear hr0 hc0;have HR1:=ak hr1;have HC1:=ak hc1;clear hr1 hc1;unfold bJ.f at h;have H:=h;clear h;replace H:=sp H;rcases H with⟨c3,H⟩|⟨c3,H⟩
 ·have iW:=beq_iff_eq.mpr c3;have Ae:=bne_eq_false_iff_eq.mpr c3;have Ya:(l0.length==l1.length)=true:=by first|simpa using c3|(simp at c3⊢;omega)
  clear c3;have H':=ak H;clear H;go_enter Tryz.func63,Tryz.ntmps63;go_wp2;repeat(go_quiet (fail);try go_wp2)
  go_loopg [13] k (fun kq v13 w'=>∃(jH:Int),v13= .int .i64 jH∧ah (bJ.l0 kq l0 l1 (l0.length:Int) jH=some r)∧ah (kq≤k)∧dO w w')
  case atStart=>exact⟨_,rs,H',⟨Nat.le_refl _⟩,dn⟩
  case round=>
   clear H';try clear c3
   try clear iW
   try clear Ae
   try clear Ya
   obtain⟨jH,rfl,HA,xK,⟨m1,rfl⟩⟩:=hrel
   cases gk with
   |zero=>exact zz HA.out
   |succ k1=>
    obtain⟨H⟩:=HA;simp only[bJ.l0]at H;replace H:=sd H;rcases H with⟨rW,H⟩|⟨rW,H⟩
    ·replace H:=oL H;obtain⟨oz,H⟩:=H;replace H:=oL H;obtain⟨pF,H⟩:=H;replace H:=oL H;obtain⟨tZ,H⟩:=H;replace H:=sq H;rcases H with⟨uK,Gg,H⟩|⟨c8,uK,Gg,H⟩
     ·have H':=ak H;clear H;have acz:=zi jH;have acA:=zj jH l0.length;obtain⟨axN,asW,anc⟩:=Kd.jT HR0.out jH acz acA;cases asW;replace acz:=eq_true acz;replace acA:=eq_true acA;have Uf:=zi jH;have Ug:=zj jH l1.length;obtain⟨aoJ,ain,Ti⟩:=Kd.jT HR1.out jH Uf Ug;cases ain;replace Uf:=eq_true Uf;replace Ug:=eq_true Ug;go_wp2;repeat(go_quiet (fail);try go_wp2)
      go_roundg k1
      case measure=>exact kl
      case rel=>exact⟨_,rs,H',⟨kl⟩,dn⟩
     ·obtain rfl:=s1 H;have acz:=zi jH;have acA:=zj jH l0.length;obtain⟨axN,asW,anc⟩:=Kd.jT HR0.out jH acz acA;cases asW;replace acz:=eq_true acz;replace acA:=eq_true acA;have Uf:=zi jH;have Ug:=zj jH l1.length;obtain⟨aoJ,ain,Ti⟩:=Kd.jT HR1.out jH Uf Ug;cases ain;replace Uf:=eq_true Uf;replace Ug:=eq_true Ug;go_wp2;repeat(go_quiet (fail);try go_wp2)
      go_ret;exact⟨rs,dn⟩
    ·obtain rfl:=s1 H;go_wp2;repeat(go_quiet (fail);try go_wp2)
     go_ret;exact⟨rs,dn⟩
 ·have iW:=beq_eq_false_iff_ne.mpr c3;have Ae:=bne_iff_ne.mpr c3;have Ya:(l0.length==l1.length)=false:=by first|simpa using c3|(simp at c3⊢;omega)
  obtain rfl:=s1 H;go_enter Tryz.func63,Tryz.ntmps63;go_wp2;repeat(go_quiet (fail);try go_wp2)
  go_ret;exact⟨rs,dn⟩
def bn.l0:Nat→ByteArray→Int→Int→Option (Bool)
 |0,_,_,_=>none
 |k+1,x0,x5,x6=>if x6<x5 then(if 0≤x6 then(if x6<(x0.size:Int)then(if(bt x0 x6)<32 then(some false)else(if(bt x0 x6)>126 then(some false)else(bn.l0 k x0 x5 (wrap64 (x6+1)))))else(none))else(none))else(some (decide ((x0.size:Int)≤200)))
def bn.f (k:Nat) (a0:ByteArray):Option (Bool):=bn.l0 k a0 (a0.size:Int) 0
theorem bn.calls {k:Nat} {a0:ByteArray} {r:Bool} {w:World} (h:bn.f k a0=some r):
  Calls Tryz.prog 89 #[.string a0] w fun e w'=>e= .returned (.bool r)∧dO w w':=by
 unfold bn.f at h;have H:=h;clear h;have H':=ak H;clear H;go_enter Tryz.func89,Tryz.ntmps89;go_wp2;go_loopg [6] k (fun kq v6 w'=>∃(fE:Int),v6= .int .i64 fE∧ah (bn.l0 kq a0 (a0.size:Int) fE=some r)∧ah (kq≤k)∧dO w w')
 case atStart=>exact⟨_,rs,H',⟨Nat.le_refl _⟩,dn⟩
 case round=>
  clear H';obtain⟨fE,rfl,HA,xK,⟨m1,rfl⟩⟩:=hrel
  cases gk with
  |zero=>exact zz HA.out
  |succ k1=>
   obtain⟨H⟩:=HA;simp only[bn.l0]at H;replace H:=sd H;rcases H with⟨qJ,H⟩|⟨qJ,H⟩
   ·replace H:=oL H;obtain⟨iW,H⟩:=H;replace H:=oL H;obtain⟨rW,H⟩:=H;replace H:=sd H;rcases H with⟨pF,H⟩|⟨pF,H⟩
    ·obtain rfl:=s1 H;obtain⟨p5,q5,hx5⟩:=bx a0 fE;go_wp2;go_ret;exact⟨rs,dn⟩
    ·replace H:=sp H;rcases H with⟨c8,H⟩|⟨c8,H⟩
     ·have uK:decide (126<(bt a0 fE))=true:=decide_eq_true c8;clear c8;obtain rfl:=s1 H;obtain⟨p5,q5,hx5⟩:=bx a0 fE;obtain⟨p7,q7,hx7⟩:=bx a0 fE;go_wp2;go_ret;exact⟨rs,dn⟩
     ·have uK:decide (126<(bt a0 fE))=false:=decide_eq_false c8;clear c8;have H':=ak H;clear H;obtain⟨p5,q5,hx5⟩:=bx a0 fE;obtain⟨p7,q7,hx7⟩:=bx a0 fE;go_wp2;go_roundg k1
      case measure=>exact kl
      case rel=>exact⟨_,rs,H',⟨kl⟩,dn⟩
   ·obtain rfl:=s1 H;go_wp2;go_ret;exact⟨rs,dn⟩
def lH.f (a0:ByteArray) (a1:ByteArray):Option (ByteArray):=if a1.data.toList=[32]then(if a0.size≤9223372036854775807 then some ⟨(Lib.trimB a0.data.toList 32).toArray⟩else none)else none
theorem lH.calls {a0 a1 r:ByteArray} {w:World} (h:lH.f a0 a1=some r):
  Calls Tryz.prog 92 #[.string a0, .string a1] w fun e w'=>e= .returned (.string r)∧dO w w':=by
 unfold lH.f at h;split at h
 ·rename_i h1
  split at h
  ·rename_i hs
   injection h with h;subst h
   have e1:a1=⟨#[32]⟩:=by
    cases a1 with
    |mk d=>exact congrArg ByteArray.mk (Array.toList_inj.mp h1)
   subst e1;refine(Tryz.strings_Trim_one a0 32 (by decide) w hs).mono ?_;rintro e w' ⟨he,hw⟩;refine⟨he,?_⟩;rcases hw with rfl|rfl
   ·exact⟨⟨0,rfl⟩⟩
   ·exact⟨⟨1,rfl⟩⟩
  ·cases h
 ·cases h
def bG.f (a0:Int):Option (Bool):=if a0≥97 then(if a0≤122 then(some true)else(if a0≥65 then(some (decide (a0≤90)))else(some false)))else(if a0≥65 then(some (decide (a0≤90)))else(some false))
theorem bG.calls {a0:Int} {r:Bool} {w:World} (h:bG.f a0=some r):
  Calls Tryz.prog 140 #[.int .u8 a0] w fun e w'=>e= .returned (.bool r)∧dO w w':=by
 unfold bG.f at h;have H:=h;clear h;replace H:=sp H;rcases H with⟨c2,H⟩|⟨c2,H⟩
 ·have qJ:decide (97≤a0)=true:=decide_eq_true c2;clear c2;replace H:=sd H;rcases H with⟨iW,H⟩|⟨iW,H⟩
  ·obtain rfl:=s1 H;go_enter Tryz.func140,Tryz.ntmps140;go_wp2;go_ret;exact⟨rs,dn⟩
  ·replace H:=sp H;rcases H with⟨c4,H⟩|⟨c4,H⟩
   ·have rW:decide (65≤a0)=true:=decide_eq_true c4;clear c4;obtain rfl:=s1 H;go_enter Tryz.func140,Tryz.ntmps140;go_wp2;go_ret;exact⟨rs,dn⟩
   ·have rW:decide (65≤a0)=false:=decide_eq_false c4;clear c4;obtain rfl:=s1 H;go_enter Tryz.func140,Tryz.ntmps140;go_wp2;go_ret;exact⟨rs,dn⟩
 ·have qJ:decide (97≤a0)=false:=decide_eq_false c2;clear c2;replace H:=sp H;rcases H with⟨c5,H⟩|⟨c5,H⟩
  ·have oz:decide (65≤a0)=true:=decide_eq_true c5;clear c5;obtain rfl:=s1 H;go_enter Tryz.func140,Tryz.ntmps140;go_wp2;go_ret;exact⟨rs,dn⟩
  ·have oz:decide (65≤a0)=false:=decide_eq_false c5;clear c5;obtain rfl:=s1 H;go_enter Tryz.func140,Tryz.ntmps140;go_wp2;go_ret;exact⟨rs,dn⟩
def dK.f (a0:Int):Option (Bool):=if a0≥48 then(some (decide (a0≤57)))else(some false)
theorem dK.calls {a0:Int} {r:Bool} {w:World} (h:dK.f a0=some r):
  Calls Tryz.prog 141 #[.int .u8 a0] w fun e w'=>e= .returned (.bool r)∧dO w w':=by
 unfold dK.f at h;have H:=h;clear h;replace H:=sp H;rcases H with⟨c2,H⟩|⟨c2,H⟩
 ·have qJ:decide (48≤a0)=true:=decide_eq_true c2;clear c2;obtain rfl:=s1 H;go_enter Tryz.func141,Tryz.ntmps141;go_wp2;go_ret;exact⟨rs,dn⟩
 ·have qJ:decide (48≤a0)=false:=decide_eq_false c2;clear c2;obtain rfl:=s1 H;go_enter Tryz.func141,Tryz.ntmps141;go_wp2;go_ret;exact⟨rs,dn⟩
def tJ.f (a0:Int):Option (Bool):=(bG.f a0).bind fun axO=>(if axO=true then(some true)else((dK.f a0).bind fun axP=>(if axP=true then(some true)else(some (a0==45)))))
theorem tJ.calls {a0:Int} {r:Bool} {w:World} (h:tJ.f a0=some r):
  Calls Tryz.prog 185 #[.int .u8 a0] w fun e w'=>e= .returned (.bool r)∧dO w w':=by
 unfold tJ.f at h;have H:=h;clear h;replace H:=bd H;obtain⟨axO,A2,H⟩:=H;replace H:=sb H;rcases H with⟨rfl,H⟩|⟨rfl,H⟩
 ·obtain rfl:=s1 H;go_enter Tryz.func185,Tryz.ntmps185;go_wp2_with (refine gA Tryz.func140 (bG.calls A2.out) ?_;intro nd)
  go_ret;exact⟨rs,dn⟩
 ·replace H:=bd H;obtain⟨axP,A4,H⟩:=H;replace H:=sb H;rcases H with⟨rfl,H⟩|⟨rfl,H⟩
  ·obtain rfl:=s1 H;go_enter Tryz.func185,Tryz.ntmps185;go_wp2_with (first|(refine gA Tryz.func140 (bG.calls A2.out) ?_;intro nd)|(go_at_call 141;refine mA (dK.calls A4.out) ?_;intro nd))
   go_ret;exact⟨rs,dn⟩
  ·obtain rfl:=s1 H;go_enter Tryz.func185,Tryz.ntmps185;go_wp2_with (first|(refine gA Tryz.func140 (bG.calls A2.out) ?_;intro nd)|(go_at_call 141;refine mA (dK.calls A4.out) ?_;intro nd))
   go_ret;exact⟨rs,dn⟩
def fA.l0:Nat→ByteArray→Int→Int→Option (Bool)
 |0,_,_,_=>none
 |k+1,x0,x7,x8=>if x8<x7 then(if 0≤x8 then(if x8<(x0.size:Int)then((tJ.f (bt x0 x8)).bind fun aai=>(if aai=true then(fA.l0 k x0 x7 (wrap64 (x8+1)))else(some false)))else(none))else(none))else(some true)
def fA.f (k:Nat) (a0:ByteArray):Option (Bool):=fA.l0 k a0 (a0.size:Int) 0
theorem fA.calls {k:Nat} {a0:ByteArray} {r:Bool} {w:World} (h:fA.f k a0=some r):
  Calls Tryz.prog 138 #[.string a0, .func (.func 185) #[] #[]] w fun e w'=>e= .returned (.bool r)∧dO w w':=by
 unfold fA.f at h;have H:=h;clear h;have H':=ak H;clear H;go_enter Tryz.func138,Tryz.ntmps138;go_wp2;go_loopg [8] k (fun kq v8 w'=>∃(lQ:Int),v8= .int .i64 lQ∧ah (fA.l0 kq a0 (a0.size:Int) lQ=some r)∧ah (kq≤k)∧dO w w')
 case atStart=>exact⟨_,rs,H',⟨Nat.le_refl _⟩,dn⟩
 case round=>
  clear H';obtain⟨lQ,rfl,HA,xK,⟨m1,rfl⟩⟩:=hrel
  cases gk with
  |zero=>exact zz HA.out
  |succ k1=>
   obtain⟨H⟩:=HA;simp only[fA.l0]at H;replace H:=sd H;rcases H with⟨iW,H⟩|⟨iW,H⟩
   ·replace H:=oL H;obtain⟨rW,H⟩:=H;replace H:=oL H;obtain⟨oz,H⟩:=H;replace H:=bd H;obtain⟨aai,A7,H⟩:=H;replace H:=sb H;rcases H with⟨rfl,H⟩|⟨rfl,H⟩
    ·have H':=ak H;clear H;obtain⟨p6,q6,hx6⟩:=bx a0 lQ;go_wp2_with (go_at_call 185;refine mA (tJ.calls A7.out) ?_;intro nd)
     go_roundg k1
     case measure=>exact kl
     case rel=>exact⟨_,rs,H',⟨kl⟩,dn⟩
    ·obtain rfl:=s1 H;obtain⟨p6,q6,hx6⟩:=bx a0 lQ;go_wp2_with (go_at_call 185;refine mA (tJ.calls A7.out) ?_;intro nd)
     go_ret;exact⟨rs,dn⟩
   ·obtain rfl:=s1 H;go_wp2;go_ret;exact⟨rs,dn⟩
def jP.f (k:Nat) (a0:ByteArray):Option (Bool):=if(a0.size:Int)≥1 then(if(a0.size:Int)≤30 then(if 0<(a0.size:Int)then((bG.f (bt a0 0)).bind fun axQ=>(if axQ=true then((fA.f k a0).bind fun axR=>(some axR))else(some false)))else(none))else(some false))else(some false)
theorem jP.calls {k:Nat} {a0:ByteArray} {r:Bool} {w:World} (h:jP.f k a0=some r):
  Calls Tryz.prog 160 #[.string a0] w fun e w'=>e= .returned (.bool r)∧dO w w':=by
 unfold jP.f at h;have H:=h;clear h;replace H:=sp H;rcases H with⟨c2,H⟩|⟨c2,H⟩
 ·have qJ:decide (1≤(a0.size:Int))=true:=decide_eq_true c2;have yR:decide (1≤a0.size)=true:=decide_eq_true (by omega);clear c2;replace H:=sp H;rcases H with⟨c3,H⟩|⟨c3,H⟩
  ·have iW:=decide_eq_true c3;have Ae:decide (a0.size≤30)=true:=decide_eq_true (by omega);clear c3;replace H:=nn H;obtain⟨c4,H⟩:=H;have rW:=decide_eq_true c4;have SB:decide (0<a0.size)=true:=decide_eq_true (by omega);clear c4;replace H:=bd H;obtain⟨axQ,A6,H⟩:=H;replace H:=sb H;rcases H with⟨rfl,H⟩|⟨rfl,H⟩
   ·replace H:=bd H;obtain⟨axR,A8,H⟩:=H;obtain rfl:=s1 H;have p5:0≤(0:Int):=(by omega)
    have q5:0<a0.size:=(by have:(0:Int)<(a0.size:Int):=of_decide_eq_true (by assumption);omega)
    have hx5:∀h:0<a0.size,((a0[0]'h).toNat:Int)=bt a0 0:=yL a0 0;clear p5;have qi5:(0<(a0.size:Int))=True:=eq_true (of_decide_eq_true (by assumption));replace q5:=eq_true q5;go_enter Tryz.func160,Tryz.ntmps160;go_wp2_with (first|(go_at_call 140;refine mA (bG.calls A6.out) ?_;intro nd)|(go_at_call 138;refine mA (fA.calls A8.out) ?_;intro nd))
    go_ret;exact⟨rs,dn⟩
   ·obtain rfl:=s1 H;have p5:0≤(0:Int):=(by omega)
    have q5:0<a0.size:=(by have:(0:Int)<(a0.size:Int):=of_decide_eq_true (by assumption);omega)
    have hx5:∀h:0<a0.size,((a0[0]'h).toNat:Int)=bt a0 0:=yL a0 0;clear p5;have qi5:(0<(a0.size:Int))=True:=eq_true (of_decide_eq_true (by assumption));replace q5:=eq_true q5;go_enter Tryz.func160,Tryz.ntmps160;go_wp2_with (go_at_call 140;refine mA (bG.calls A6.out) ?_;intro nd)
    go_ret;exact⟨rs,dn⟩
  ·have iW:=decide_eq_false c3;have Ae:decide (a0.size≤30)=false:=decide_eq_false (by omega);clear c3;obtain rfl:=s1 H;go_enter Tryz.func160,Tryz.ntmps160;go_wp2;go_ret;exact⟨rs,dn⟩
 ·have qJ:decide (1≤(a0.size:Int))=false:=decide_eq_false c2;have yR:decide (1≤a0.size)=false:=decide_eq_false (by omega);clear c2;obtain rfl:=s1 H;go_enter Tryz.func160,Tryz.ntmps160;go_wp2;go_ret;exact⟨rs,dn⟩
def rZ.f (k:Nat) (eX:ByteArray) (fF:ByteArray):Option (Bool):=(jP.f k eX).bind fun t116=>(if t116=true then((bn.f k fF).bind fun t117=>(if t117=true then(if(fF.size:Int)≤150 then((lH.f fF (⟨#[32]⟩:ByteArray)).bind fun axS=>(some (axS.toList==fF.toList)))else(some false))else(some false)))else(some false))
theorem rZ.calls {k:Nat} {eX fF:ByteArray} {r:Bool} {w:World} (h:rZ.f k eX fF=some r):
  Calls Tryz.prog 120 #[.agg #[.string eX, .string fF]] w fun e w'=>e= .returned (.bool r)∧Below w.heap.size w w':=by
 have Gh:=Tryz.underlying69;have HB:=ak (Below.refl w.heap.size w);unfold rZ.f at h;have H:=h;clear h;replace H:=bd H;obtain⟨t116,A2,H⟩:=H;replace H:=sb H;rcases H with⟨rfl,H⟩|⟨rfl,H⟩
 ·replace H:=bd H;obtain⟨t117,A4,H⟩:=H;replace H:=sb H;rcases H with⟨rfl,H⟩|⟨rfl,H⟩
  ·replace H:=sp H;rcases H with⟨c6,H⟩|⟨c6,H⟩
   ·have pF:=decide_eq_true c6;have Ad:decide (fF.size≤150)=true:=decide_eq_true (by omega);clear c6;replace H:=bd H;obtain⟨axS,A7,H⟩:=H;obtain rfl:=s1 H;go_enter Tryz.func120,Tryz.ntmps120;go_wp2_with (first|(refine gG 1 ?_;refine bX HB 1 #[.string eX, .string fF] 69 ?_;intro Jd w8 xY Je hb;replace HB:=bs HB hb;clear hb;have z9:=Dh xY.out)|(go_at_call 160;refine mA (jP.calls A2.out) ?_;intro nd;(try exact dq))|(go_at_call 89;refine mA (bn.calls A4.out) ?_;intro nd;(try exact dq))|(go_at_call 92;refine mA (lH.calls A7.out) ?_;intro nd;(try exact dq)))
    repeat(go_quiet (first|(refine gG 1 ?_;refine bX HB 1 #[.string eX, .string fF] 69 ?_;intro Jd w8 xY Je hb;replace HB:=bs HB hb;clear hb;have z9:=Dh xY.out)|(go_at_call 160;refine mA (jP.calls A2.out) ?_;intro nd;(try exact dq))|(go_at_call 89;refine mA (bn.calls A4.out) ?_;intro nd;(try exact dq))|(go_at_call 92;refine mA (lH.calls A7.out) ?_;intro nd;(try exact dq)));try go_wp2_with (first|(refine gG 1 ?_;refine bX HB 1 #[.string eX, .string fF] 69 ?_;intro Jd w8 xY Je hb;replace HB:=bs HB hb;clear hb;have z9:=Dh xY.out)|(go_at_call 160;refine mA (jP.calls A2.out) ?_;intro nd;(try exact dq))|(go_at_call 89;refine mA (bn.calls A4.out) ?_;intro nd;(try exact dq))|(go_at_call 92;refine mA (lH.calls A7.out) ?_;intro nd;(try exact dq))))
    go_ret;exact⟨er,bb⟩
   ·have pF:=decide_eq_false c6;have Ad:decide (fF.size≤150)=false:=decide_eq_false (by omega);clear c6;obtain rfl:=s1 H;go_enter Tryz.func120,Tryz.ntmps120;go_wp2_with (first|(refine gG 1 ?_;refine bX HB 1 #[.string eX, .string fF] 69 ?_;intro Jd w10 xY Je hb;replace HB:=bs HB hb;clear hb;have z11:=Dh xY.out)|(go_at_call 160;refine mA (jP.calls A2.out) ?_;intro nd;(try exact dq))|(go_at_call 89;refine mA (bn.calls A4.out) ?_;intro nd;(try exact dq)))
    repeat(go_quiet (first|(refine gG 1 ?_;refine bX HB 1 #[.string eX, .string fF] 69 ?_;intro Jd w10 xY Je hb;replace HB:=bs HB hb;clear hb;have z11:=Dh xY.out)|(go_at_call 160;refine mA (jP.calls A2.out) ?_;intro nd;(try exact dq))|(go_at_call 89;refine mA (bn.calls A4.out) ?_;intro nd;(try exact dq)));try go_wp2_with (first|(refine gG 1 ?_;refine bX HB 1 #[.string eX, .string fF] 69 ?_;intro Jd w10 xY Je hb;replace HB:=bs HB hb;clear hb;have z11:=Dh xY.out)|(go_at_call 160;refine mA (jP.calls A2.out) ?_;intro nd;(try exact dq))|(go_at_call 89;refine mA (bn.calls A4.out) ?_;intro nd;(try exact dq))))
    go_ret;exact⟨er,bb⟩
  ·obtain rfl:=s1 H;go_enter Tryz.func120,Tryz.ntmps120;go_wp2_with (first|(refine gG 1 ?_;refine bX HB 1 #[.string eX, .string fF] 69 ?_;intro Jd w12 xY Je hb;replace HB:=bs HB hb;clear hb;have z13:=Dh xY.out)|(go_at_call 160;refine mA (jP.calls A2.out) ?_;intro nd;(try exact dq))|(go_at_call 89;refine mA (bn.calls A4.out) ?_;intro nd;(try exact dq)))
   repeat(go_quiet (first|(refine gG 1 ?_;refine bX HB 1 #[.string eX, .string fF] 69 ?_;intro Jd w12 xY Je hb;replace HB:=bs HB hb;clear hb;have z13:=Dh xY.out)|(go_at_call 160;refine mA (jP.calls A2.out) ?_;intro nd;(try exact dq))|(go_at_call 89;refine mA (bn.calls A4.out) ?_;intro nd;(try exact dq)));try go_wp2_with (first|(refine gG 1 ?_;refine bX HB 1 #[.string eX, .string fF] 69 ?_;intro Jd w12 xY Je hb;replace HB:=bs HB hb;clear hb;have z13:=Dh xY.out)|(go_at_call 160;refine mA (jP.calls A2.out) ?_;intro nd;(try exact dq))|(go_at_call 89;refine mA (bn.calls A4.out) ?_;intro nd;(try exact dq))))
   go_ret;exact⟨er,bb⟩
 ·obtain rfl:=s1 H;go_enter Tryz.func120,Tryz.ntmps120;go_wp2_with (first|(refine gG 1 ?_;refine bX HB 1 #[.string eX, .string fF] 69 ?_;intro Jd V3 xY Je hb;replace HB:=bs HB hb;clear hb;have z15:=Dh xY.out)|(go_at_call 160;refine mA (jP.calls A2.out) ?_;intro nd;(try exact dq)))
  repeat(go_quiet (first|(refine gG 1 ?_;refine bX HB 1 #[.string eX, .string fF] 69 ?_;intro Jd V3 xY Je hb;replace HB:=bs HB hb;clear hb;have z15:=Dh xY.out)|(go_at_call 160;refine mA (jP.calls A2.out) ?_;intro nd;(try exact dq)));try go_wp2_with (first|(refine gG 1 ?_;refine bX HB 1 #[.string eX, .string fF] 69 ?_;intro Jd V3 xY Je hb;replace HB:=bs HB hb;clear hb;have z15:=Dh xY.out)|(go_at_call 160;refine mA (jP.calls A2.out) ?_;intro nd;(try exact dq))))
  go_ret;exact⟨er,bb⟩
mutual
def iT.f:Nat→List (fP)→List ByteArray→List (jV)→List (fP)→List ByteArray→List (jV)→Option (Bool)
 |0,_,_,_,_,_,_=>none
 |k+1,bg,bf,aA,qp,qc,pR=>(jk.f k bg qp).bind fun t107=>(if t107=true then((bJ.f k bf qc).bind fun ahb=>(if ahb=true then((if(aA.length:Int)=(pR.length:Int)then(gX.l0 k pR aA (aA.length:Int) 0)else(some false)).bind fun t109=>(some t109))else(some false)))else(some false))
def gX.l0:Nat→List (jV)→List (jV)→Int→Int→Option (Bool)
 |0,_,_,_,_=>none
 |k+1,x1,x15,x16,x17=>if x17<x16 then(if 0≤x17 then(if x17<(x15.length:Int)then(if x17<(x1.length:Int)then((iT.f k ((au x15 x17).f0) ((au x15 x17).f1) ((au x15 x17).f2) ((au x1 x17).f0) ((au x1 x17).f1) ((au x1 x17).f2)).bind fun asX=>(if asX=true then(gX.l0 k x1 x15 x16 (wrap64 (x17+1)))else(some false)))else(none))else(none))else(none))else(some true)
end
def gX.f (k:Nat) (l0:List (jV)) (l1:List (jV)):Option (Bool):=if(l0.length:Int)=(l1.length:Int)then(gX.l0 k l1 l0 (l0.length:Int) 0)else(some false)
theorem iT.abY (k:Nat) (bg:List (fP)) (bf:List ByteArray) (aA:List (jV)) (qp:List (fP)) (qc:List ByteArray) (pR:List (jV)):iT.f (k+1) bg bf aA qp qc pR=((jk.f k bg qp).bind fun t107=>(if t107=true then((bJ.f k bf qc).bind fun ahb=>(if ahb=true then((gX.f k aA pR).bind fun t109=>(some t109))else(some false)))else(some false))):=by simp only[iT.f,gX.f]
theorem iT.pair (k:Nat):(∀(gQ:Option Addr) (gU:Nat) (bg:List (fP)) (f_:Option Addr) (gu:Nat) (bf:List ByteArray) (eP:Option Addr) (dI:Nat) (aA:List (jV)) (wP:Option Addr) (wQ:Nat) (qp:List (fP)) (wI:Option Addr) (wS:Nat) (qc:List ByteArray) (wU:Option Addr) (wV:Nat) (pR:List (jV)) (r:Bool) (w:World) (lI:Kd.C ou w gQ bg.length bg) (lJ:bg.length≤gU) (lK:Kd.C Kd.string w f_ bf.length bf) (lM:bf.length≤gu) (jF:Kd.C k28 w eP aA.length aA) (jG:aA.length≤dI) (N7:Kd.C ou w wP qp.length qp) (N8:qp.length≤wQ) (N9:Kd.C Kd.string w wI qc.length qc) (N_:qc.length≤wS) (Oa:Kd.C k28 w wU pR.length pR) (Ob:pR.length≤wV) (h:iT.f k bg bf aA qp qc pR=some r),
  Calls Tryz.prog 21 #[.agg #[.slice gQ bg.length gU, .slice f_ bf.length gu, .slice eP aA.length dI], .agg #[.slice wP qp.length wQ, .slice wI qc.length wS, .slice wU pR.length wV]] w fun e w'=>e= .returned (.bool r)∧Below w.heap.size w w')∧
  (∀(A0:Option Addr) (c0:Nat) (l0:List (jV)) (A1:Option Addr) (c1:Nat) (l1:List (jV)) (r:Bool) (w:World) (hr0:Kd.C k28 w A0 l0.length l0) (hc0:l0.length≤c0) (hr1:Kd.C k28 w A1 l1.length l1) (hc1:l1.length≤c1) (h:gX.f k l0 l1=some r),
  Calls Tryz.prog 64 #[.slice A0 l0.length c0, .slice A1 l1.length c1, .func (.func 21) #[] #[]] w fun e w'=>e= .returned (.bool r)∧Below w.heap.size w w'):=by
 induction k using Nat.strongRecOn with
 |_ k ih=>
 refine⟨?_,?_⟩
 ·cases k with
  |zero=>intro gQ gU bg f_ gu bf eP dI aA wP wQ qp wI wS qc wU wV pR r w lI lJ lK lM jF jG N7 N8 N9 N_ Oa Ob h;exact absurd h (by simp[iT.f])
  |succ k=>
  have ihB:=(ih k (Nat.lt_succ_self k)).2;clear ih;intro gQ gU bg f_ gu bf eP dI aA wP wQ qp wI wS qc wU wV pR r w lI lJ lK lM jF jG N7 N8 N9 N_ Oa Ob h;rw[iT.abY]at h;have Dq:=Tryz.underlying28;have pG:=ak lI;have qy:=ak lJ;clear lI lJ;have sD:=ak lK;have uV:=ak lM;clear lK lM;have jK:=ak jF;have mV:=ak jG;clear jF jG;have Ry:=ak N7;have Rz:=ak N8;clear N7 N8;have UA:=ak N9;have UC:=ak N_;clear N9 N_;have WZ:=ak Oa;have W9:=ak Ob;clear Oa Ob;have HB:=ak (Below.refl w.heap.size w);have H:((jk.f k bg qp).bind fun t107=>(if t107=true then((bJ.f k bf qc).bind fun ahb=>(if ahb=true then((gX.f k aA pR).bind fun t109=>(some t109))else(some false)))else(some false)))=some r:=h;clear h;replace H:=bd H;obtain⟨t107,A3,H⟩:=H;replace H:=sb H;rcases H with⟨rfl,H⟩|⟨rfl,H⟩
  ·replace H:=bd H;obtain⟨ahb,A5,H⟩:=H;replace H:=sb H;rcases H with⟨rfl,H⟩|⟨rfl,H⟩
   ·replace H:=bd H;obtain⟨t109,A7,H⟩:=H;obtain rfl:=s1 H;go_enter Tryz.func21,Tryz.ntmps21;go_wp2_with (first|(refine bX HB 2 #[.slice gQ bg.length gU, .slice f_ bf.length gu, .slice eP aA.length dI] 28 ?_;intro Ci w8 uX aio hb;replace HB:=bs HB hb;clear hb)|(refine bY HB 3 #[.slice wP qp.length wQ, .slice wI qc.length wS, .slice wU pR.length wV] 28 ?_;intro apz w9 UD apA hg hb;have Gl:=yA uX hg;have Gm:=yB uX hg;replace uX:=kb uX hb;replace HB:=bz HB hb;clear hb hg;have axT:=Gl.out;have axU:=Gm.out;have z11:=iQ uX.out;have z12:=iQ UD.out)|(refine gA Tryz.func62 (jk.calls (cu (Kd.aI pG.out HB.out)) qy.out (cu (Kd.aI Ry.out HB.out)) Rz.out A3.out) ?_;intro nd)|(go_at_call 63;refine mA (bJ.calls (cu (Kd.aI sD.out bb)) uV.out (cu (Kd.aI UA.out bb)) UC.out A5.out) ?_;intro nd)|(go_at_call 64;refine mB (ihB _ _ aA _ _ pR t109 _ (cu (Kd.aI jK.out bb)) mV.out (cu (Kd.aI WZ.out bb)) W9.out A7.out) ?_;intro w13 hb;replace uX:=kb uX hb;replace UD:=kb UD hb;replace HB:=bz HB hb;clear hb))
    go_ret;exact⟨er,bb⟩
   ·obtain rfl:=s1 H;go_enter Tryz.func21,Tryz.ntmps21;go_wp2_with (first|(refine bX HB 2 #[.slice gQ bg.length gU, .slice f_ bf.length gu, .slice eP aA.length dI] 28 ?_;intro Ci V3 uX aio hb;replace HB:=bs HB hb;clear hb)|(refine bY HB 3 #[.slice wP qp.length wQ, .slice wI qc.length wS, .slice wU pR.length wV] 28 ?_;intro apz w15 UD apA hg hb;have Gl:=yA uX hg;have Gm:=yB uX hg;replace uX:=kb uX hb;replace HB:=bz HB hb;clear hb hg;have axV:=Gl.out;have axW:=Gm.out;have z17:=iQ uX.out;have z18:=iQ UD.out)|(refine gA Tryz.func62 (jk.calls (cu (Kd.aI pG.out HB.out)) qy.out (cu (Kd.aI Ry.out HB.out)) Rz.out A3.out) ?_;intro nd)|(go_at_call 63;refine mA (bJ.calls (cu (Kd.aI sD.out bb)) uV.out (cu (Kd.aI UA.out bb)) UC.out A5.out) ?_;intro nd))
    go_ret;exact⟨er,bb⟩
  ·obtain rfl:=s1 H;go_enter Tryz.func21,Tryz.ntmps21;go_wp2_with (first|(refine bX HB 2 #[.slice gQ bg.length gU, .slice f_ bf.length gu, .slice eP aA.length dI] 28 ?_;intro Ci w19 uX aio hb;replace HB:=bs HB hb;clear hb)|(refine bY HB 3 #[.slice wP qp.length wQ, .slice wI qc.length wS, .slice wU pR.length wV] 28 ?_;intro apz w20 UD apA hg hb;have Gl:=yA uX hg;have Gm:=yB uX hg;replace uX:=kb uX hb;replace HB:=bz HB hb;clear hb hg;have axX:=Gl.out;have axY:=Gm.out;have z22:=iQ uX.out;have z23:=iQ UD.out)|(refine gA Tryz.func62 (jk.calls (cu (Kd.aI pG.out HB.out)) qy.out (cu (Kd.aI Ry.out HB.out)) Rz.out A3.out) ?_;intro nd))
   go_ret;exact⟨er,bb⟩
 ·intro A0 c0 l0 A1 c1 l1 r w hr0 hc0 hr1 hc1 h;have Dq:=Tryz.underlying28;have HR0:=ak hr0;have zH:=ak hc0;clear hr0 hc0;have HR1:=ak hr1;have HC1:=ak hc1;clear hr1 hc1;have HB:=ak (Below.refl w.heap.size w);have H:(if(l0.length:Int)=(l1.length:Int)then(gX.l0 k l1 l0 (l0.length:Int) 0)else(some false))=some r:=h;clear h;replace H:=sp H;rcases H with⟨c4,H⟩|⟨c4,H⟩
  ·have rW:=beq_iff_eq.mpr c4;have SB:=bne_eq_false_iff_eq.mpr c4;have ajb:(l0.length==l1.length)=true:=by first|simpa using c4|(simp at c4⊢;omega)
   clear c4;have H':=ak H;clear H;go_enter Tryz.func64,Tryz.ntmps64;go_wp2;go_loopg [17] k (fun kq v17 w'=>∃(jg:Int),v17= .int .i64 jg∧ah (gX.l0 kq l1 l0 (l0.length:Int) jg=some r)∧ah (kq≤k)∧ah (Below w.heap.size w w'))
   case atStart=>exact⟨_,rs,H',⟨Nat.le_refl _⟩,⟨ul HB.out⟩⟩
   case round=>
    clear H';try clear c1
    try clear c4
    try clear rW
    try clear SB
    try clear ajb
    obtain⟨jg,rfl,HA,xK,HB⟩:=hrel
    cases gk with
    |zero=>exact zz HA.out
    |succ k1=>
     obtain⟨H⟩:=HA;simp only[gX.l0]at H;replace H:=sd H;rcases H with⟨oz,H⟩|⟨oz,H⟩
     ·replace H:=oL H;obtain⟨pF,H⟩:=H;replace H:=oL H;obtain⟨tZ,H⟩:=H;replace H:=oL H;obtain⟨uK,H⟩:=H;replace H:=bd H;obtain⟨asX,A9,H⟩:=H;replace H:=sb H;rcases H with⟨rfl,H⟩|⟨rfl,H⟩
      ·have H':=ak H;clear H;have acB:=zi jg;have acC:=zj jg l0.length;obtain⟨axZ,zh,zk,zl,zo,zq,zu,asY,Oc,Oe,Og,Oh,Oi,Oj,Ol,Om,Oo⟩:=xM HR0.out jg acB acC;cases asY;replace Oc:=cl HB.out Oc;replace Oe:=cl HB.out Oe;replace Og:=cl HB.out Og;have Yw:=ak Oi;have Yx:=ak Oh;clear Oi Oh;have Yy:=ak Ol;have Yz:=ak Oj;clear Ol Oj;have YA:=ak Oo;have YB:=ak Om;clear Oo Om;replace acB:=eq_true acB;replace acC:=eq_true acC;go_wp2_with (first|(refine bX HB 8 #[.slice none 0 0, .slice none 0 0, .slice none 0 0] 28 ?_;intro sG V6 Gn UE hb;replace HB:=bs HB hb;clear hb;have z12:=iQ Gn.out;have UF:0≤(jg:Int):=of_decide_eq_true (by assumption);have UG:jg<(l1.length:Int):=of_decide_eq_true (by assumption);obtain⟨RD,acD,acE,acF,acG,acH,acI,ajv,nT,sQ,sS,Oq,Ot,Ou,Ov,Ox,Oy⟩:=xM HR1.out jg UF UG;cases ajv;have qR:RD.block≠sG:=Nat.ne_of_lt (Nat.lt_of_lt_of_le (by have:=World.block_lt_of_cell? _ _ nT;first|rwa [add_block]at this|exact this) UE.out);have qU:RD.block≠sG:=Nat.ne_of_lt (Nat.lt_of_lt_of_le (by have:=World.block_lt_of_cell? _ _ nT;first|rwa [add_block]at this|exact this) UE.out);have qV:RD.block≠sG:=Nat.ne_of_lt (Nat.lt_of_lt_of_le (by have:=World.block_lt_of_cell? _ _ nT;first|rwa [add_block]at this|exact this) UE.out);replace nT:=(HB.out.cell (World.block_lt_of_cell? w _ nT)).trans nT;replace sQ:=(HB.out.cell (World.block_lt_of_cell? w _ sQ)).trans sQ;replace sS:=(HB.out.cell (World.block_lt_of_cell? w _ sS)).trans sS;have YC:=ak Ot;have YD:=ak Oq;clear Ot Oq;have YE:=ak Ov;have YF:=ak Ou;clear Ov Ou;have YG:=ak Oy;have YH:=ak Ox;clear Oy Ox;replace nT:=(cell_far (p:=⟨sG,0,none⟩) (by first|(rw[add_block];exact qR)|(show(Addr.add _ _).block≠_;rw[add_block];exact qR)|exact qR) (.slice zh ((au l0 jg).f0).length zk)).trans nT;replace sQ:=(cell_far (p:=⟨sG,0,none⟩) (by first|(rw[add_block];exact qR)|(show(Addr.add _ _).block≠_;rw[add_block];exact qR)|exact qR) (.slice zh ((au l0 jg).f0).length zk)).trans sQ;replace sS:=(cell_far (p:=⟨sG,0,none⟩) (by first|(rw[add_block];exact qR)|(show(Addr.add _ _).block≠_;rw[add_block];exact qR)|exact qR) (.slice zh ((au l0 jg).f0).length zk)).trans sS;replace nT:=(cell_far (p:=⟨sG,1,none⟩) (by first|(rw[add_block];exact qU)|(show(Addr.add _ _).block≠_;rw[add_block];exact qU)|exact qU) (.slice zl ((au l0 jg).f1).length zo)).trans nT;replace sQ:=(cell_far (p:=⟨sG,1,none⟩) (by first|(rw[add_block];exact qU)|(show(Addr.add _ _).block≠_;rw[add_block];exact qU)|exact qU) (.slice zl ((au l0 jg).f1).length zo)).trans sQ;replace sS:=(cell_far (p:=⟨sG,1,none⟩) (by first|(rw[add_block];exact qU)|(show(Addr.add _ _).block≠_;rw[add_block];exact qU)|exact qU) (.slice zl ((au l0 jg).f1).length zo)).trans sS;replace nT:=(cell_far (p:=⟨sG,2,none⟩) (by first|(rw[add_block];exact qV)|(show(Addr.add _ _).block≠_;rw[add_block];exact qV)|exact qV) (.slice zq ((au l0 jg).f2).length zu)).trans nT;replace sQ:=(cell_far (p:=⟨sG,2,none⟩) (by first|(rw[add_block];exact qV)|(show(Addr.add _ _).block≠_;rw[add_block];exact qV)|exact qV) (.slice zq ((au l0 jg).f2).length zu)).trans sQ;replace sS:=(cell_far (p:=⟨sG,2,none⟩) (by first|(rw[add_block];exact qV)|(show(Addr.add _ _).block≠_;rw[add_block];exact qV)|exact qV) (.slice zq ((au l0 jg).f2).length zu)).trans sS;clear qR;clear qU;clear qV;replace UF:=eq_true UF;replace UG:=eq_true UG)|(refine bY HB 9 #[.slice none 0 0, .slice none 0 0, .slice none 0 0] 28 ?_;intro aaJ w13 UH ax0 hg hb;have Qq:=ak ((by rw[hg];exact Nat.ne_of_lt (uh (g:=sG) (o:= .cells #[.slice zh ((au l0 jg).f0).length zk, .slice zl ((au l0 jg).f1).length zo, .slice zq ((au l0 jg).f2).length zu] 28 (0,0)) bq):sG≠aaJ));have Qr:=ak ((by rw[hg];exact Nat.ne_of_gt (uh (g:=sG) (o:= .cells #[.slice zh ((au l0 jg).f0).length zk, .slice zl ((au l0 jg).f1).length zo, .slice zq ((au l0 jg).f2).length zu] 28 (0,0)) bq):aaJ≠sG));replace Gn:=kp Gn #[.slice zh ((au l0 jg).f0).length zk, .slice zl ((au l0 jg).f1).length zo, .slice zq ((au l0 jg).f2).length zu] hb;replace HB:=bz HB hb;clear hb hg;have apB:=Qr.out;have apC:=Qq.out;have z15:=iQ UH.out;have z16:=iQ Gn.out)|(go_at_call 21;refine mB ((ih k1 (by have:=xK.out;omega)).1 _ _ ((au l0 jg).f0) _ _ ((au l0 jg).f1) _ _ ((au l0 jg).f2) _ _ ((au l1 jg).f0) _ _ ((au l1 jg).f1) _ _ ((au l1 jg).f2) true _ (Kd.aI Yw.out bb) Yx.out (Kd.aI Yy.out bb) Yz.out (Kd.aI YA.out bb) YB.out (Kd.aI YC.out bb) YD.out (Kd.aI YE.out bb) YF.out (Kd.aI YG.out bb) YH.out A9.out) ?_;intro w17 hb;replace Gn:=kp Gn #[.slice zh ((au l0 jg).f0).length zk, .slice zl ((au l0 jg).f1).length zo, .slice zq ((au l0 jg).f2).length zu] hb;replace UH:=kp UH #[.slice acD ((au l1 jg).f0).length acE, .slice acF ((au l1 jg).f1).length acG, .slice acH ((au l1 jg).f2).length acI] hb;replace HB:=bz HB hb;clear hb))
       go_roundg k1
       case measure=>exact kl
       case rel=>exact⟨_,rs,H',⟨kl⟩,⟨bb⟩⟩
      ·obtain rfl:=s1 H;have acB:=zi jg;have acC:=zj jg l0.length;obtain⟨axZ,zh,zk,zl,zo,zq,zu,asY,Oc,Oe,Og,Oh,Oi,Oj,Ol,Om,Oo⟩:=xM HR0.out jg acB acC;cases asY;replace Oc:=cl HB.out Oc;replace Oe:=cl HB.out Oe;replace Og:=cl HB.out Og;have Yw:=ak Oi;have Yx:=ak Oh;clear Oi Oh;have Yy:=ak Ol;have Yz:=ak Oj;clear Ol Oj;have YA:=ak Oo;have YB:=ak Om;clear Oo Om;replace acB:=eq_true acB;replace acC:=eq_true acC;go_wp2_with (first|(refine bX HB 8 #[.slice none 0 0, .slice none 0 0, .slice none 0 0] 28 ?_;intro sG w18 Gn UE hb;replace HB:=bs HB hb;clear hb;have z19:=iQ Gn.out;have UF:0≤(jg:Int):=of_decide_eq_true (by assumption);have UG:jg<(l1.length:Int):=of_decide_eq_true (by assumption);obtain⟨RD,acD,acE,acF,acG,acH,acI,ajv,nT,sQ,sS,Oq,Ot,Ou,Ov,Ox,Oy⟩:=xM HR1.out jg UF UG;cases ajv;have qR:RD.block≠sG:=Nat.ne_of_lt (Nat.lt_of_lt_of_le (by have:=World.block_lt_of_cell? _ _ nT;first|rwa [add_block]at this|exact this) UE.out);have qU:RD.block≠sG:=Nat.ne_of_lt (Nat.lt_of_lt_of_le (by have:=World.block_lt_of_cell? _ _ nT;first|rwa [add_block]at this|exact this) UE.out);have qV:RD.block≠sG:=Nat.ne_of_lt (Nat.lt_of_lt_of_le (by have:=World.block_lt_of_cell? _ _ nT;first|rwa [add_block]at this|exact this) UE.out);replace nT:=(HB.out.cell (World.block_lt_of_cell? w _ nT)).trans nT;replace sQ:=(HB.out.cell (World.block_lt_of_cell? w _ sQ)).trans sQ;replace sS:=(HB.out.cell (World.block_lt_of_cell? w _ sS)).trans sS;have YC:=ak Ot;have YD:=ak Oq;clear Ot Oq;have YE:=ak Ov;have YF:=ak Ou;clear Ov Ou;have YG:=ak Oy;have YH:=ak Ox;clear Oy Ox;replace nT:=(cell_far (p:=⟨sG,0,none⟩) (by first|(rw[add_block];exact qR)|(show(Addr.add _ _).block≠_;rw[add_block];exact qR)|exact qR) (.slice zh ((au l0 jg).f0).length zk)).trans nT;replace sQ:=(cell_far (p:=⟨sG,0,none⟩) (by first|(rw[add_block];exact qR)|(show(Addr.add _ _).block≠_;rw[add_block];exact qR)|exact qR) (.slice zh ((au l0 jg).f0).length zk)).trans sQ;replace sS:=(cell_far (p:=⟨sG,0,none⟩) (by first|(rw[add_block];exact qR)|(show(Addr.add _ _).block≠_;rw[add_block];exact qR)|exact qR) (.slice zh ((au l0 jg).f0).length zk)).trans sS;replace nT:=(cell_far (p:=⟨sG,1,none⟩) (by first|(rw[add_block];exact qU)|(show(Addr.add _ _).block≠_;rw[add_block];exact qU)|exact qU) (.slice zl ((au l0 jg).f1).length zo)).trans nT;replace sQ:=(cell_far (p:=⟨sG,1,none⟩) (by first|(rw[add_block];exact qU)|(show(Addr.add _ _).block≠_;rw[add_block];exact qU)|exact qU) (.slice zl ((au l0 jg).f1).length zo)).trans sQ;replace sS:=(cell_far (p:=⟨sG,1,none⟩) (by first|(rw[add_block];exact qU)|(show(Addr.add _ _).block≠_;rw[add_block];exact qU)|exact qU) (.slice zl ((au l0 jg).f1).length zo)).trans sS;replace nT:=(cell_far (p:=⟨sG,2,none⟩) (by first|(rw[add_block];exact qV)|(show(Addr.add _ _).block≠_;rw[add_block];exact qV)|exact qV) (.slice zq ((au l0 jg).f2).length zu)).trans nT;replace sQ:=(cell_far (p:=⟨sG,2,none⟩) (by first|(rw[add_block];exact qV)|(show(Addr.add _ _).block≠_;rw[add_block];exact qV)|exact qV) (.slice zq ((au l0 jg).f2).length zu)).trans sQ;replace sS:=(cell_far (p:=⟨sG,2,none⟩) (by first|(rw[add_block];exact qV)|(show(Addr.add _ _).block≠_;rw[add_block];exact qV)|exact qV) (.slice zq ((au l0 jg).f2).length zu)).trans sS;clear qR;clear qU;clear qV;replace UF:=eq_true UF;replace UG:=eq_true UG)|(refine bY HB 9 #[.slice none 0 0, .slice none 0 0, .slice none 0 0] 28 ?_;intro aaJ w20 UH ax0 hg hb;have Qq:=ak ((by rw[hg];exact Nat.ne_of_lt (uh (g:=sG) (o:= .cells #[.slice zh ((au l0 jg).f0).length zk, .slice zl ((au l0 jg).f1).length zo, .slice zq ((au l0 jg).f2).length zu] 28 (0,0)) bq):sG≠aaJ));have Qr:=ak ((by rw[hg];exact Nat.ne_of_gt (uh (g:=sG) (o:= .cells #[.slice zh ((au l0 jg).f0).length zk, .slice zl ((au l0 jg).f1).length zo, .slice zq ((au l0 jg).f2).length zu] 28 (0,0)) bq):aaJ≠sG));replace Gn:=kp Gn #[.slice zh ((au l0 jg).f0).length zk, .slice zl ((au l0 jg).f1).length zo, .slice zq ((au l0 jg).f2).length zu] hb;replace HB:=bz HB hb;clear hb hg;have axX:=Qr.out;have axY:=Qq.out;have z22:=iQ UH.out;have z23:=iQ Gn.out)|(go_at_call 21;refine mB ((ih k1 (by have:=xK.out;omega)).1 _ _ ((au l0 jg).f0) _ _ ((au l0 jg).f1) _ _ ((au l0 jg).f2) _ _ ((au l1 jg).f0) _ _ ((au l1 jg).f1) _ _ ((au l1 jg).f2) false _ (Kd.aI Yw.out bb) Yx.out (Kd.aI Yy.out bb) Yz.out (Kd.aI YA.out bb) YB.out (Kd.aI YC.out bb) YD.out (Kd.aI YE.out bb) YF.out (Kd.aI YG.out bb) YH.out A9.out) ?_;intro w24 hb;replace Gn:=kp Gn #[.slice zh ((au l0 jg).f0).length zk, .slice zl ((au l0 jg).f1).length zo, .slice zq ((au l0 jg).f2).length zu] hb;replace UH:=kp UH #[.slice acD ((au l1 jg).f0).length acE, .slice acF ((au l1 jg).f1).length acG, .slice acH ((au l1 jg).f2).length acI] hb;replace HB:=bz HB hb;clear hb))
       go_ret;exact⟨er,bb⟩
     ·obtain rfl:=s1 H;go_wp2;go_ret;exact⟨er,ul HB.out⟩
  ·have rW:=beq_eq_false_iff_ne.mpr c4;have SB:=bne_iff_ne.mpr c4;have ajb:(l0.length==l1.length)=false:=by first|simpa using c4|(simp at c4⊢;omega)
   obtain rfl:=s1 H;go_enter Tryz.func64,Tryz.ntmps64;go_wp2;go_ret;exact⟨er,ul HB.out⟩
theorem iT.calls {k gU gu dI wQ wS wV:Nat} {gQ f_ eP wP wI wU:Option Addr} {bg qp:List (fP)} {bf qc:List ByteArray} {aA pR:List (jV)} {r:Bool} {w:World} (lI:Kd.C ou w gQ bg.length bg) (lJ:bg.length≤gU) (lK:Kd.C Kd.string w f_ bf.length bf) (lM:bf.length≤gu) (jF:Kd.C k28 w eP aA.length aA) (jG:aA.length≤dI) (N7:Kd.C ou w wP qp.length qp) (N8:qp.length≤wQ) (N9:Kd.C Kd.string w wI qc.length qc) (N_:qc.length≤wS) (Oa:Kd.C k28 w wU pR.length pR) (Ob:pR.length≤wV) (h:iT.f k bg bf aA qp qc pR=some r):
  Calls Tryz.prog 21 #[.agg #[.slice gQ bg.length gU, .slice f_ bf.length gu, .slice eP aA.length dI], .agg #[.slice wP qp.length wQ, .slice wI qc.length wS, .slice wU pR.length wV]] w fun e w'=>e= .returned (.bool r)∧Below w.heap.size w w':=(iT.pair k).1 gQ gU bg f_ gu bf eP dI aA wP wQ qp wI wS qc wU wV pR r w lI lJ lK lM jF jG N7 N8 N9 N_ Oa Ob h
theorem gX.calls {k c0 c1:Nat} {A0 A1:Option Addr} {l0 l1:List (jV)} {r:Bool} {w:World} (hr0:Kd.C k28 w A0 l0.length l0) (hc0:l0.length≤c0) (hr1:Kd.C k28 w A1 l1.length l1) (hc1:l1.length≤c1) (h:gX.f k l0 l1=some r):
  Calls Tryz.prog 64 #[.slice A0 l0.length c0, .slice A1 l1.length c1, .func (.func 21) #[] #[]] w fun e w'=>e= .returned (.bool r)∧Below w.heap.size w w':=(iT.pair k).2 A0 c0 l0 A1 c1 l1 r w hr0 hc0 hr1 hc1 h
end Go.Proofs.YtncdadcmghglkaaGreatDoor.PFnPartAt
