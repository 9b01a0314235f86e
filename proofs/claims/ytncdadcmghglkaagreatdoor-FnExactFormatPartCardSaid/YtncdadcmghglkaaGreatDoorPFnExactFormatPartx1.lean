/- Printed walks; conditions: those in each statement. -/
import Derived.Test.YtncdadcmghglkaaGreatDoorVFnExactFormatPartQt
import Derived.Test.YtncdadcmghglkaaGreatDoorVFnExactFormatPartYt
import Derived.Test.YtncdadcmghglkaaGreatDoorPFnExactFormatPartx0
namespace Go.Proofs.YtncdadcmghglkaaGreatDoor.PFnExactFormatPart
open Go.RowKit Go.Proofs.YtncdadcmghglkaaGreatDoor.X Go.Proofs.YtncdadcmghglkaaGreatDoorW.dB Go.Proofs.YtncdadcmghglkaaGreatDoorW.iy Go.Proofs.YtncdadcmghglkaaGreatDoorW.jo
attribute [local go_sem] lU lV oh oq kJ kK lW lX   -- for this text's walks alone
set_option linter.unusedVariables false
set_option linter.unusedSimpArgs false
def bg.l0:Nat→ByteArray→Int→Int→Option (Bool)
 |0,_,_,_=>none
 |k+1,x0,x5,x6=>if x6<x5 then(if 0≤x6 then(if x6<(x0.size:Int)then(if(bt x0 x6)<32 then(some false)else(if(bt x0 x6)>126 then(some false)else(bg.l0 k x0 x5 (wrap64 (x6+1)))))else(none))else(none))else(some (decide ((x0.size:Int)≤200)))
def bg.f(k:Nat)(a0:ByteArray):Option (Bool):=bg.l0 k a0 (a0.size:Int) 0
set_option maxHeartbeats 8000000 in
set_option maxRecDepth 100000 in
theorem bg.calls(k:Nat)(a0:ByteArray)(r:Bool)(w:World)(h:bg.f k a0=some r):
  Calls Tryz.prog 89 #[.string a0] w fun e w'=>e= .returned (.bool r)∧eH w w':=by
 have H:(bg.l0 k a0 (a0.size:Int) 0)=some r:=h;clear h;have H':=ak H;clear H;go_enter Tryz.func89,Tryz.ntmps89;go_wp2;go_loopg [6] k (fun kq v6 w'=>∃(jX:Int),v6= .int .i64 jX∧ah (bg.l0 kq a0 (a0.size:Int) jX=some r)∧ah (kq≤k)∧eH w w')
 case atStart=>exact⟨(0),rs,H',⟨Nat.le_refl _⟩,dn⟩
 case round=>
  clear H';obtain⟨jX,rfl,HA,iC,⟨m1,rfl⟩⟩:=hrel
  cases gk with
  |zero=>exact absurd HA.out (by simp[bg.l0])
  |succ k1=>
   have H:=HA.out;clear HA;simp only[bg.l0]at H;replace H:=sd H;rcases H with⟨sW,H⟩|⟨sW,H⟩
   ·replace H:=og H;obtain⟨fM,H⟩:=H;replace H:=og H;obtain⟨nM,H⟩:=H;replace H:=sd H;rcases H with⟨mW,H⟩|⟨mW,H⟩
    ·obtain rfl:=Option.some.inj H;obtain⟨p5,q5,hx5⟩:=bx a0 jX;go_wp2;go_ret;exact⟨rs,dn⟩
    ·replace H:=sp H;rcases H with⟨c8,H⟩|⟨c8,H⟩
     ·have uV:decide (126<(bt a0 jX))=true:=decide_eq_true c8;clear c8;obtain rfl:=Option.some.inj H;obtain⟨p5,q5,hx5⟩:=bx a0 jX;obtain⟨p7,q7,hx7⟩:=bx a0 jX;go_wp2;go_ret;exact⟨rs,dn⟩
     ·have uV:decide (126<(bt a0 jX))=false:=decide_eq_false c8;clear c8;have H':=ak H;clear H;obtain⟨p5,q5,hx5⟩:=bx a0 jX;obtain⟨p7,q7,hx7⟩:=bx a0 jX;go_wp2;go_roundg k1
      case measure=>have:=iC.out;omega
      case rel=>exact⟨(wrap64 (jX+1)),rs,H',⟨by have:=iC.out;omega⟩,dn⟩
   ·obtain rfl:=Option.some.inj H;go_wp2;go_ret;exact⟨rs,dn⟩
def jm.f(a0:ByteArray)(a1:ByteArray):Option (ByteArray):=if a1.data.toList=[32]then(if a0.size≤9223372036854775807 then some ⟨(Lib.trimB a0.data.toList 32).toArray⟩else none)else none
theorem jm.calls(a0 a1:ByteArray)(r:ByteArray)(w:World)(h:jm.f a0 a1=some r):
  Calls Tryz.prog 92 #[.string a0, .string a1] w fun e w'=>e= .returned (.string r)∧eH w w':=by
 unfold jm.f at h;split at h
 ·rename_i h1
  split at h
  ·rename_i hs
   injection h with h;subst h
   have e1:a1=⟨#[32]⟩:=by
    cases a1 with
    |mk d=>exact congrArg ByteArray.mk (Array.toList_inj.mp h1)
   subst e1;refine(Tryz.strings_Trim_one a0 32 (by decide) w hs).mono ?_;rintro e w' ⟨he,hw⟩;refine⟨he,?_⟩;rcases hw with rfl|rfl
   ·exact⟨⟨0,rfl⟩⟩
   ·exact⟨⟨1,rfl⟩⟩
  ·cases h
 ·cases h
def bI.f(a0:Int):Option (Bool):=if a0≥97 then(if a0≤122 then(some true)else(if a0≥65 then(some (decide (a0≤90)))else(some false)))else(if a0≥65 then(some (decide (a0≤90)))else(some false))
set_option maxHeartbeats 8000000 in
set_option maxRecDepth 100000 in
theorem bI.calls(a0:Int)(r:Bool)(w:World)(h:bI.f a0=some r):
  Calls Tryz.prog 140 #[.int .u8 a0] w fun e w'=>e= .returned (.bool r)∧eH w w':=by
 have H:(if a0≥97 then(if a0≤122 then(some true)else(if a0≥65 then(some (decide (a0≤90)))else(some false)))else(if a0≥65 then(some (decide (a0≤90)))else(some false)))=some r:=h;clear h;replace H:=sp H;rcases H with⟨c2,H⟩|⟨c2,H⟩
 ·have sW:decide (97≤a0)=true:=decide_eq_true c2;clear c2;replace H:=sd H;rcases H with⟨fM,H⟩|⟨fM,H⟩
  ·obtain rfl:=Option.some.inj H;go_enter Tryz.func140,Tryz.ntmps140;go_wp2;go_ret;exact⟨rs,dn⟩
  ·replace H:=sp H;rcases H with⟨c4,H⟩|⟨c4,H⟩
   ·have nM:decide (65≤a0)=true:=decide_eq_true c4;clear c4;obtain rfl:=Option.some.inj H;go_enter Tryz.func140,Tryz.ntmps140;go_wp2;go_ret;exact⟨rs,dn⟩
   ·have nM:decide (65≤a0)=false:=decide_eq_false c4;clear c4;obtain rfl:=Option.some.inj H;go_enter Tryz.func140,Tryz.ntmps140;go_wp2;go_ret;exact⟨rs,dn⟩
 ·have sW:decide (97≤a0)=false:=decide_eq_false c2;clear c2;replace H:=sp H;rcases H with⟨c5,H⟩|⟨c5,H⟩
  ·have pU:decide (65≤a0)=true:=decide_eq_true c5;clear c5;obtain rfl:=Option.some.inj H;go_enter Tryz.func140,Tryz.ntmps140;go_wp2;go_ret;exact⟨rs,dn⟩
  ·have pU:decide (65≤a0)=false:=decide_eq_false c5;clear c5;obtain rfl:=Option.some.inj H;go_enter Tryz.func140,Tryz.ntmps140;go_wp2;go_ret;exact⟨rs,dn⟩
def dG.f(a0:Int):Option (Bool):=if a0≥48 then(some (decide (a0≤57)))else(some false)
set_option maxHeartbeats 8000000 in
set_option maxRecDepth 100000 in
theorem dG.calls(a0:Int)(r:Bool)(w:World)(h:dG.f a0=some r):
  Calls Tryz.prog 141 #[.int .u8 a0] w fun e w'=>e= .returned (.bool r)∧eH w w':=by
 have H:(if a0≥48 then(some (decide (a0≤57)))else(some false))=some r:=h;clear h;replace H:=sp H;rcases H with⟨c2,H⟩|⟨c2,H⟩
 ·have sW:decide (48≤a0)=true:=decide_eq_true c2;clear c2;obtain rfl:=Option.some.inj H;go_enter Tryz.func141,Tryz.ntmps141;go_wp2;go_ret;exact⟨rs,dn⟩
 ·have sW:decide (48≤a0)=false:=decide_eq_false c2;clear c2;obtain rfl:=Option.some.inj H;go_enter Tryz.func141,Tryz.ntmps141;go_wp2;go_ret;exact⟨rs,dn⟩
def pF.f(a0:Int):Option (Bool):=(bI.f a0).bind fun af0=>(if af0=true then(some true)else((dG.f a0).bind fun OH=>(if OH=true then(some true)else(some (a0==45)))))
set_option maxHeartbeats 8000000 in
set_option maxRecDepth 100000 in
theorem pF.calls(a0:Int)(r:Bool)(w:World)(h:pF.f a0=some r):
  Calls Tryz.prog 185 #[.int .u8 a0] w fun e w'=>e= .returned (.bool r)∧eH w w':=by
 have H:((bI.f a0).bind fun af0=>(if af0=true then(some true)else((dG.f a0).bind fun OH=>(if OH=true then(some true)else(some (a0==45))))))=some r:=h;clear h;replace H:=bd H;obtain⟨af0,A2,H⟩:=H;replace H:=sb H;rcases H with⟨rfl,H⟩|⟨rfl,H⟩
 ·obtain rfl:=Option.some.inj H;go_enter Tryz.func185,Tryz.ntmps185;go_wp2_with (first|(refine gL 140 4 Tryz.func140 #[.int .u8 a0] ?_;(with_reducible refine(bI.calls a0 true _ A2.out).mono ?_);rintro e w' ⟨rfl,⟨nd,rfl⟩⟩;refine⟨_,rfl,?_⟩))
  go_ret;exact⟨rs,dn⟩
 ·replace H:=bd H;obtain⟨OH,A4,H⟩:=H;replace H:=sb H;rcases H with⟨rfl,H⟩|⟨rfl,H⟩
  ·obtain rfl:=Option.some.inj H;go_enter Tryz.func185,Tryz.ntmps185;go_wp2_with (first|(refine gL 140 4 Tryz.func140 #[.int .u8 a0] ?_;(with_reducible refine(bI.calls a0 false _ A2.out).mono ?_);rintro e w' ⟨rfl,⟨nd,rfl⟩⟩;refine⟨_,rfl,?_⟩)|(go_at_call 141;(with_reducible refine(dG.calls a0 true _ A4.out).mono ?_);rintro e w' ⟨rfl,⟨nd,rfl⟩⟩))
   go_ret;exact⟨rs,dn⟩
  ·obtain rfl:=Option.some.inj H;go_enter Tryz.func185,Tryz.ntmps185;go_wp2_with (first|(refine gL 140 4 Tryz.func140 #[.int .u8 a0] ?_;(with_reducible refine(bI.calls a0 false _ A2.out).mono ?_);rintro e w' ⟨rfl,⟨nd,rfl⟩⟩;refine⟨_,rfl,?_⟩)|(go_at_call 141;(with_reducible refine(dG.calls a0 false _ A4.out).mono ?_);rintro e w' ⟨rfl,⟨nd,rfl⟩⟩))
   go_ret;exact⟨rs,dn⟩
def dN.l0:Nat→ByteArray→Int→Int→Option (Bool)
 |0,_,_,_=>none
 |k+1,x0,x7,x8=>if x8<x7 then(if 0≤x8 then(if x8<(x0.size:Int)then((pF.f (bt x0 x8)).bind fun acF=>(if acF=true then(dN.l0 k x0 x7 (wrap64 (x8+1)))else(some false)))else(none))else(none))else(some true)
def dN.f(k:Nat)(a0:ByteArray):Option (Bool):=dN.l0 k a0 (a0.size:Int) 0
set_option maxHeartbeats 8000000 in
set_option maxRecDepth 100000 in
theorem dN.calls(k:Nat)(a0:ByteArray)(r:Bool)(w:World)(h:dN.f k a0=some r):
  Calls Tryz.prog 138 #[.string a0, .func (.func 185) #[] #[]] w fun e w'=>e= .returned (.bool r)∧eH w w':=by
 have H:(dN.l0 k a0 (a0.size:Int) 0)=some r:=h;clear h;have H':=ak H;clear H;go_enter Tryz.func138,Tryz.ntmps138;go_wp2;go_loopg [8] k (fun kq v8 w'=>∃(iE:Int),v8= .int .i64 iE∧ah (dN.l0 kq a0 (a0.size:Int) iE=some r)∧ah (kq≤k)∧eH w w')
 case atStart=>exact⟨(0),rs,H',⟨Nat.le_refl _⟩,dn⟩
 case round=>
  clear H';try clear c2
  try clear p2
  obtain⟨iE,rfl,HA,iC,⟨m1,rfl⟩⟩:=hrel
  cases gk with
  |zero=>exact absurd HA.out (by simp[dN.l0])
  |succ k1=>
   have H:=HA.out;clear HA;simp only[dN.l0]at H;replace H:=sd H;rcases H with⟨fM,H⟩|⟨fM,H⟩
   ·replace H:=og H;obtain⟨nM,H⟩:=H;replace H:=og H;obtain⟨pU,H⟩:=H;replace H:=bd H;obtain⟨acF,A7,H⟩:=H;replace H:=sb H;rcases H with⟨rfl,H⟩|⟨rfl,H⟩
    ·have H':=ak H;clear H;obtain⟨p6,q6,hx6⟩:=bx a0 iE;go_wp2_with (first|(go_at_call 185;(with_reducible refine(pF.calls (bt a0 iE) true _ A7.out).mono ?_);rintro e w' ⟨rfl,⟨nd,rfl⟩⟩))
     go_roundg k1
     case measure=>have:=iC.out;omega
     case rel=>exact⟨(wrap64 (iE+1)),rs,H',⟨by have:=iC.out;omega⟩,dn⟩
    ·obtain rfl:=Option.some.inj H;obtain⟨p6,q6,hx6⟩:=bx a0 iE;go_wp2_with (first|(go_at_call 185;(with_reducible refine(pF.calls (bt a0 iE) false _ A7.out).mono ?_);rintro e w' ⟨rfl,⟨nd,rfl⟩⟩))
     go_ret;exact⟨rs,dn⟩
   ·obtain rfl:=Option.some.inj H;go_wp2;go_ret;exact⟨rs,dn⟩
def iJ.f(k:Nat)(a0:ByteArray):Option (Bool):=if(a0.size:Int)≥1 then(if(a0.size:Int)≤30 then(if 0<(a0.size:Int)then((bI.f (bt a0 0)).bind fun af2=>(if af2=true then((dN.f k a0).bind fun t105=>(some t105))else(some false)))else(none))else(some false))else(some false)
set_option maxHeartbeats 8000000 in
set_option maxRecDepth 100000 in
theorem iJ.calls(k:Nat)(a0:ByteArray)(r:Bool)(w:World)(h:iJ.f k a0=some r):
  Calls Tryz.prog 160 #[.string a0] w fun e w'=>e= .returned (.bool r)∧eH w w':=by
 have H:(if(a0.size:Int)≥1 then(if(a0.size:Int)≤30 then(if 0<(a0.size:Int)then((bI.f (bt a0 0)).bind fun af2=>(if af2=true then((dN.f k a0).bind fun t105=>(some t105))else(some false)))else(none))else(some false))else(some false))=some r:=h;clear h;replace H:=sp H;rcases H with⟨c2,H⟩|⟨c2,H⟩
 ·have sW:decide (1≤(a0.size:Int))=true:=decide_eq_true c2;have Dp:decide (1≤a0.size)=true:=decide_eq_true (by omega);clear c2;replace H:=sp H;rcases H with⟨c3,H⟩|⟨c3,H⟩
  ·have fM:=decide_eq_true c3;have oZ:decide (a0.size≤30)=true:=decide_eq_true (by omega);clear c3;replace H:=nn H;obtain⟨c4,H⟩:=H;have nM:=decide_eq_true c4;have OE:decide (0<a0.size)=true:=decide_eq_true (by omega);clear c4;replace H:=bd H;obtain⟨af2,A6,H⟩:=H;replace H:=sb H;rcases H with⟨rfl,H⟩|⟨rfl,H⟩
   ·replace H:=bd H;obtain⟨t105,A8,H⟩:=H;obtain rfl:=Option.some.inj H;have p5:0≤(0:Int):=(by omega)
    have q5:0<a0.size:=(by have:(0:Int)<(a0.size:Int):=of_decide_eq_true (by assumption);omega)
    have hx5:∀h:0<a0.size,((a0[0]'h).toNat:Int)=bt a0 0:=tY a0 0;clear p5;have qi5:(0<(a0.size:Int))=True:=eq_true (of_decide_eq_true (by assumption));replace q5:=eq_true q5;go_enter Tryz.func160,Tryz.ntmps160;go_wp2_with (first|(go_at_call 140;(with_reducible refine(bI.calls (bt a0 0) true _ A6.out).mono ?_);rintro e w' ⟨rfl,⟨nd,rfl⟩⟩)|(go_at_call 138;(with_reducible refine(dN.calls k a0 t105 _ A8.out).mono ?_);rintro e w' ⟨rfl,⟨nd,rfl⟩⟩))
    go_ret;exact⟨rs,dn⟩
   ·obtain rfl:=Option.some.inj H;have p5:0≤(0:Int):=(by omega)
    have q5:0<a0.size:=(by have:(0:Int)<(a0.size:Int):=of_decide_eq_true (by assumption);omega)
    have hx5:∀h:0<a0.size,((a0[0]'h).toNat:Int)=bt a0 0:=tY a0 0;clear p5;have qi5:(0<(a0.size:Int))=True:=eq_true (of_decide_eq_true (by assumption));replace q5:=eq_true q5;go_enter Tryz.func160,Tryz.ntmps160;go_wp2_with (first|(go_at_call 140;(with_reducible refine(bI.calls (bt a0 0) false _ A6.out).mono ?_);rintro e w' ⟨rfl,⟨nd,rfl⟩⟩))
    go_ret;exact⟨rs,dn⟩
  ·have fM:=decide_eq_false c3;have oZ:decide (a0.size≤30)=false:=decide_eq_false (by omega);clear c3;obtain rfl:=Option.some.inj H;go_enter Tryz.func160,Tryz.ntmps160;go_wp2;go_ret;exact⟨rs,dn⟩
 ·have sW:decide (1≤(a0.size:Int))=false:=decide_eq_false c2;have Dp:decide (1≤a0.size)=false:=decide_eq_false (by omega);clear c2;obtain rfl:=Option.some.inj H;go_enter Tryz.func160,Tryz.ntmps160;go_wp2;go_ret;exact⟨rs,dn⟩
def nS.f(k:Nat)(aY:ByteArray)(bf:ByteArray):Option (Bool):=(iJ.f k aY).bind fun t107=>(if t107=true then((bg.f k bf).bind fun BU=>(if BU=true then(if(bf.size:Int)≤150 then((jm.f bf (⟨#[32]⟩:ByteArray)).bind fun t109=>(some (t109.toList==bf.toList)))else(some false))else(some false)))else(some false))
set_option maxHeartbeats 8000000 in
set_option maxRecDepth 100000 in
theorem nS.calls(k:Nat)(aY:ByteArray)(bf:ByteArray)(r:Bool)(w:World)(h:nS.f k aY bf=some r):
  Calls Tryz.prog 120 #[.agg #[.string aY, .string bf]] w fun e w'=>e= .returned (.bool r)∧Below w.heap.size w w':=by
 have Dq:=Tryz.underlying69;have HB:=ak (Below.refl w.heap.size w);have H:((iJ.f k aY).bind fun t107=>(if t107=true then((bg.f k bf).bind fun BU=>(if BU=true then(if(bf.size:Int)≤150 then((jm.f bf (⟨#[32]⟩:ByteArray)).bind fun t109=>(some (t109.toList==bf.toList)))else(some false))else(some false)))else(some false)))=some r:=h;clear h;replace H:=bd H;obtain⟨t107,A2,H⟩:=H;replace H:=sb H;rcases H with⟨rfl,H⟩|⟨rfl,H⟩
 ·replace H:=bd H;obtain⟨BU,A4,H⟩:=H;replace H:=sb H;rcases H with⟨rfl,H⟩|⟨rfl,H⟩
  ·replace H:=sp H;rcases H with⟨c6,H⟩|⟨c6,H⟩
   ·have mW:=decide_eq_true c6;have yt:decide (bf.size≤150)=true:=decide_eq_true (by omega);clear c6;replace H:=bd H;obtain⟨t109,A7,H⟩:=H;obtain rfl:=Option.some.inj H;go_enter Tryz.func120,Tryz.ntmps120;go_wp2_with (first|(refine bU (N:=1) rfl ?_;(try(refine aZ (by rfl) ?_;dsimp only));refine bE 1 #[.string aY, .string bf] 69 ?_;intro EU hg w8 hbox hb;have rX:=ak (hbox);have EW:=jY HB hg;have EX:=jY HB hg;replace HB:=bs HB hb;clear hb hbox hg;obtain⟨rY,rZ,r_,su⟩:=wO rX.out)|(go_at_call 160;(with_reducible refine(iJ.calls k aY true _ A2.out).mono ?_);rintro e w' ⟨rfl,⟨nd,rfl⟩⟩;(try exact dq))|(go_at_call 89;(with_reducible refine(bg.calls k bf true _ A4.out).mono ?_);rintro e w' ⟨rfl,⟨nd,rfl⟩⟩;(try exact dq))|(go_at_call 92;(with_reducible refine(jm.calls bf (⟨#[32]⟩:ByteArray) t109 _ A7.out).mono ?_);rintro e w' ⟨rfl,⟨nd,rfl⟩⟩;(try exact dq)))
    repeat(go_quiet (first|(refine bU (N:=1) rfl ?_;(try(refine aZ (by rfl) ?_;dsimp only));refine bE 1 #[.string aY, .string bf] 69 ?_;intro EU hg w8 hbox hb;have rX:=ak (hbox);have EW:=jY HB hg;have EX:=jY HB hg;replace HB:=bs HB hb;clear hb hbox hg;obtain⟨rY,rZ,r_,su⟩:=wO rX.out)|(go_at_call 160;(with_reducible refine(iJ.calls k aY true _ A2.out).mono ?_);rintro e w' ⟨rfl,⟨nd,rfl⟩⟩;(try exact dq))|(go_at_call 89;(with_reducible refine(bg.calls k bf true _ A4.out).mono ?_);rintro e w' ⟨rfl,⟨nd,rfl⟩⟩;(try exact dq))|(go_at_call 92;(with_reducible refine(jm.calls bf (⟨#[32]⟩:ByteArray) t109 _ A7.out).mono ?_);rintro e w' ⟨rfl,⟨nd,rfl⟩⟩;(try exact dq)));try go_wp2_with (first|(refine bU (N:=1) rfl ?_;(try(refine aZ (by rfl) ?_;dsimp only));refine bE 1 #[.string aY, .string bf] 69 ?_;intro EU hg w8 hbox hb;have rX:=ak (hbox);have EW:=jY HB hg;have EX:=jY HB hg;replace HB:=bs HB hb;clear hb hbox hg;obtain⟨rY,rZ,r_,su⟩:=wO rX.out)|(go_at_call 160;(with_reducible refine(iJ.calls k aY true _ A2.out).mono ?_);rintro e w' ⟨rfl,⟨nd,rfl⟩⟩;(try exact dq))|(go_at_call 89;(with_reducible refine(bg.calls k bf true _ A4.out).mono ?_);rintro e w' ⟨rfl,⟨nd,rfl⟩⟩;(try exact dq))|(go_at_call 92;(with_reducible refine(jm.calls bf (⟨#[32]⟩:ByteArray) t109 _ A7.out).mono ?_);rintro e w' ⟨rfl,⟨nd,rfl⟩⟩;(try exact dq))))
    go_ret;exact⟨er,bb⟩
   ·have mW:=decide_eq_false c6;have yt:decide (bf.size≤150)=false:=decide_eq_false (by omega);clear c6;obtain rfl:=Option.some.inj H;go_enter Tryz.func120,Tryz.ntmps120;go_wp2_with (first|(refine bU (N:=1) rfl ?_;(try(refine aZ (by rfl) ?_;dsimp only));refine bE 1 #[.string aY, .string bf] 69 ?_;intro EU hg w10 hbox hb;have rX:=ak (hbox);have EW:=jY HB hg;have EX:=jY HB hg;replace HB:=bs HB hb;clear hb hbox hg;obtain⟨xk,xq,xu,xw⟩:=wO rX.out)|(go_at_call 160;(with_reducible refine(iJ.calls k aY true _ A2.out).mono ?_);rintro e w' ⟨rfl,⟨nd,rfl⟩⟩;(try exact dq))|(go_at_call 89;(with_reducible refine(bg.calls k bf true _ A4.out).mono ?_);rintro e w' ⟨rfl,⟨nd,rfl⟩⟩;(try exact dq)))
    repeat(go_quiet (first|(refine bU (N:=1) rfl ?_;(try(refine aZ (by rfl) ?_;dsimp only));refine bE 1 #[.string aY, .string bf] 69 ?_;intro EU hg w10 hbox hb;have rX:=ak (hbox);have EW:=jY HB hg;have EX:=jY HB hg;replace HB:=bs HB hb;clear hb hbox hg;obtain⟨xk,xq,xu,xw⟩:=wO rX.out)|(go_at_call 160;(with_reducible refine(iJ.calls k aY true _ A2.out).mono ?_);rintro e w' ⟨rfl,⟨nd,rfl⟩⟩;(try exact dq))|(go_at_call 89;(with_reducible refine(bg.calls k bf true _ A4.out).mono ?_);rintro e w' ⟨rfl,⟨nd,rfl⟩⟩;(try exact dq)));try go_wp2_with (first|(refine bU (N:=1) rfl ?_;(try(refine aZ (by rfl) ?_;dsimp only));refine bE 1 #[.string aY, .string bf] 69 ?_;intro EU hg w10 hbox hb;have rX:=ak (hbox);have EW:=jY HB hg;have EX:=jY HB hg;replace HB:=bs HB hb;clear hb hbox hg;obtain⟨xk,xq,xu,xw⟩:=wO rX.out)|(go_at_call 160;(with_reducible refine(iJ.calls k aY true _ A2.out).mono ?_);rintro e w' ⟨rfl,⟨nd,rfl⟩⟩;(try exact dq))|(go_at_call 89;(with_reducible refine(bg.calls k bf true _ A4.out).mono ?_);rintro e w' ⟨rfl,⟨nd,rfl⟩⟩;(try exact dq))))
    go_ret;exact⟨er,bb⟩
  ·obtain rfl:=Option.some.inj H;go_enter Tryz.func120,Tryz.ntmps120;go_wp2_with (first|(refine bU (N:=1) rfl ?_;(try(refine aZ (by rfl) ?_;dsimp only));refine bE 1 #[.string aY, .string bf] 69 ?_;intro EU hg w12 hbox hb;have rX:=ak (hbox);have EW:=jY HB hg;have EX:=jY HB hg;replace HB:=bs HB hb;clear hb hbox hg;obtain⟨qH,qJ,qK,qL⟩:=wO rX.out)|(go_at_call 160;(with_reducible refine(iJ.calls k aY true _ A2.out).mono ?_);rintro e w' ⟨rfl,⟨nd,rfl⟩⟩;(try exact dq))|(go_at_call 89;(with_reducible refine(bg.calls k bf false _ A4.out).mono ?_);rintro e w' ⟨rfl,⟨nd,rfl⟩⟩;(try exact dq)))
   repeat(go_quiet (first|(refine bU (N:=1) rfl ?_;(try(refine aZ (by rfl) ?_;dsimp only));refine bE 1 #[.string aY, .string bf] 69 ?_;intro EU hg w12 hbox hb;have rX:=ak (hbox);have EW:=jY HB hg;have EX:=jY HB hg;replace HB:=bs HB hb;clear hb hbox hg;obtain⟨qH,qJ,qK,qL⟩:=wO rX.out)|(go_at_call 160;(with_reducible refine(iJ.calls k aY true _ A2.out).mono ?_);rintro e w' ⟨rfl,⟨nd,rfl⟩⟩;(try exact dq))|(go_at_call 89;(with_reducible refine(bg.calls k bf false _ A4.out).mono ?_);rintro e w' ⟨rfl,⟨nd,rfl⟩⟩;(try exact dq)));try go_wp2_with (first|(refine bU (N:=1) rfl ?_;(try(refine aZ (by rfl) ?_;dsimp only));refine bE 1 #[.string aY, .string bf] 69 ?_;intro EU hg w12 hbox hb;have rX:=ak (hbox);have EW:=jY HB hg;have EX:=jY HB hg;replace HB:=bs HB hb;clear hb hbox hg;obtain⟨qH,qJ,qK,qL⟩:=wO rX.out)|(go_at_call 160;(with_reducible refine(iJ.calls k aY true _ A2.out).mono ?_);rintro e w' ⟨rfl,⟨nd,rfl⟩⟩;(try exact dq))|(go_at_call 89;(with_reducible refine(bg.calls k bf false _ A4.out).mono ?_);rintro e w' ⟨rfl,⟨nd,rfl⟩⟩;(try exact dq))))
   go_ret;exact⟨er,bb⟩
 ·obtain rfl:=Option.some.inj H;go_enter Tryz.func120,Tryz.ntmps120;go_wp2_with (first|(refine bU (N:=1) rfl ?_;(try(refine aZ (by rfl) ?_;dsimp only));refine bE 1 #[.string aY, .string bf] 69 ?_;intro EU hg Q9 hbox hb;have rX:=ak (hbox);have EW:=jY HB hg;have EX:=jY HB hg;replace HB:=bs HB hb;clear hb hbox hg;obtain⟨lI,lJ,lK,lM⟩:=wO rX.out)|(go_at_call 160;(with_reducible refine(iJ.calls k aY false _ A2.out).mono ?_);rintro e w' ⟨rfl,⟨nd,rfl⟩⟩;(try exact dq)))
  repeat(go_quiet (first|(refine bU (N:=1) rfl ?_;(try(refine aZ (by rfl) ?_;dsimp only));refine bE 1 #[.string aY, .string bf] 69 ?_;intro EU hg Q9 hbox hb;have rX:=ak (hbox);have EW:=jY HB hg;have EX:=jY HB hg;replace HB:=bs HB hb;clear hb hbox hg;obtain⟨lI,lJ,lK,lM⟩:=wO rX.out)|(go_at_call 160;(with_reducible refine(iJ.calls k aY false _ A2.out).mono ?_);rintro e w' ⟨rfl,⟨nd,rfl⟩⟩;(try exact dq)));try go_wp2_with (first|(refine bU (N:=1) rfl ?_;(try(refine aZ (by rfl) ?_;dsimp only));refine bE 1 #[.string aY, .string bf] 69 ?_;intro EU hg Q9 hbox hb;have rX:=ak (hbox);have EW:=jY HB hg;have EX:=jY HB hg;replace HB:=bs HB hb;clear hb hbox hg;obtain⟨lI,lJ,lK,lM⟩:=wO rX.out)|(go_at_call 160;(with_reducible refine(iJ.calls k aY false _ A2.out).mono ?_);rintro e w' ⟨rfl,⟨nd,rfl⟩⟩;(try exact dq))))
  go_ret;exact⟨er,bb⟩
def mX.f(k:Nat)(aY:ByteArray)(bf:ByteArray):Option (Bool):=(nS.f k aY bf).bind fun EY=>(some (!EY))
set_option maxHeartbeats 8000000 in
set_option maxRecDepth 100000 in
theorem mX.calls(k:Nat)(aY:ByteArray)(bf:ByteArray)(r:Bool)(w:World)(h:mX.f k aY bf=some r):
  Calls Tryz.prog 119 #[.agg #[.string aY, .string bf]] w fun e w'=>e= .returned (.bool r)∧Below w.heap.size w w':=by
 have Dq:=Tryz.underlying69;have HB:=ak (Below.refl w.heap.size w);have H:((nS.f k aY bf).bind fun EY=>(some (!EY)))=some r:=h;clear h;replace H:=bd H;obtain⟨EY,A2,H⟩:=H;obtain rfl:=Option.some.inj H;go_enter Tryz.func119,Tryz.ntmps119;go_wp2_with (first|(refine bE 1 #[.string aY, .string bf] 69 ?_;intro av_ hg w3 hbox hb;have acG:=ak (hbox);have awc:=jY HB hg;have awd:=jY HB hg;replace HB:=bs HB hb;clear hb hbox hg;obtain⟨acH,akR,acI,akS⟩:=wO acG.out)|(refine gL 120 4 Tryz.func120 #[.agg #[.string aY, .string bf]] ?_;(with_reducible refine(nS.calls k aY bf EY _ A2.out).mono ?_);rintro e w5 ⟨rfl,hb⟩;refine⟨_,rfl,?_⟩;replace acG:=kb acG hb;replace HB:=ak (aG bb hb);(try clear hb)))
 go_ret;exact⟨er,bb⟩
def bP.l0:Nat→List (jl)→Int→Int→Option (Int)
 |0,_,_,_=>none
 |k+1,x0,x7,x8=>if x8<x7 then(if 0≤x8 then(if x8<(x0.length:Int)then((mX.f k ((aH x0 x8).f0) ((aH x0 x8).f1)).bind fun anY=>(if anY=true then(some x8)else(bP.l0 k x0 x7 (wrap64 (x8+1)))))else(none))else(none))else(some (-1))
def bP.f(k:Nat)(l0:List (jl)):Option (Int):=bP.l0 k l0 (l0.length:Int) 0
set_option maxHeartbeats 8000000 in
set_option maxRecDepth 100000 in
theorem bP.calls(k:Nat)(A0:Option Addr)(c0:Nat)(l0:List (jl))(r:Int)(w:World)(hr0:Kd.C pV w A0 l0.length l0)(hc0:l0.length≤c0)(h:bP.f k l0=some r):
  Calls Tryz.prog 122 #[.slice A0 l0.length c0, .func (.func 119) #[] #[]] w fun e w'=>e= .returned (.int .i64 r)∧Below w.heap.size w w':=by
 have Dq:=Tryz.underlying69;have HR0:=ak hr0;have wJ:=ak hc0;clear hr0 hc0;have HB:=ak (Below.refl w.heap.size w);have H:(bP.l0 k l0 (l0.length:Int) 0)=some r:=h;clear h;have H':=ak H;clear H;go_enter Tryz.func122,Tryz.ntmps122;go_wp2;go_loopg [8] k (fun kq v8 w'=>∃(iE:Int),v8= .int .i64 iE∧ah (bP.l0 kq l0 (l0.length:Int) iE=some r)∧ah (kq≤k)∧ah (Below w.heap.size w w'))
 case atStart=>exact⟨(0),rs,H',⟨Nat.le_refl _⟩,⟨ul HB.out⟩⟩
 case round=>
  clear H';try clear c2
  try clear p2
  obtain⟨iE,rfl,HA,iC,HB⟩:=hrel
  cases gk with
  |zero=>exact absurd HA.out (by simp[bP.l0])
  |succ k1=>
   have H:=HA.out;clear HA;simp only[bP.l0]at H;replace H:=sd H;rcases H with⟨fM,H⟩|⟨fM,H⟩
   ·replace H:=og H;obtain⟨nM,H⟩:=H;replace H:=og H;obtain⟨pU,H⟩:=H;replace H:=bd H;obtain⟨anY,A6,H⟩:=H;replace H:=sb H;rcases H with⟨rfl,H⟩|⟨rfl,H⟩
    ·obtain rfl:=Option.some.inj H;have Xj:=zi iE;have Xk:=zj iE l0.length;obtain⟨anZ,akT,IC,IE⟩:=nC HR0.out iE Xj Xk;cases akT;replace IC:=cl HB.out IC;replace IE:=cl HB.out IE;replace Xj:=eq_true Xj;replace Xk:=eq_true Xk;go_wp2_with (first|(go_at_call 119;(with_reducible refine(mX.calls k1 ((aH l0 iE).f0) ((aH l0 iE).f1) true _ A6.out).mono ?_);rintro e w8 ⟨rfl,hb⟩;replace HB:=bs HB hb;(try clear hb)))
     go_ret;exact⟨er,ul HB.out⟩
    ·have H':=ak H;clear H;have Xj:=zi iE;have Xk:=zj iE l0.length;obtain⟨anZ,akT,IC,IE⟩:=nC HR0.out iE Xj Xk;cases akT;replace IC:=cl HB.out IC;replace IE:=cl HB.out IE;replace Xj:=eq_true Xj;replace Xk:=eq_true Xk;go_wp2_with (first|(go_at_call 119;(with_reducible refine(mX.calls k1 ((aH l0 iE).f0) ((aH l0 iE).f1) false _ A6.out).mono ?_);rintro e w9 ⟨rfl,hb⟩;replace HB:=bs HB hb;(try clear hb)))
     go_roundg k1
     case measure=>have:=iC.out;omega
     case rel=>exact⟨(wrap64 (iE+1)),rs,H',⟨by have:=iC.out;omega⟩,⟨ul HB.out⟩⟩
   ·obtain rfl:=Option.some.inj H;go_wp2;go_ret;exact⟨er,ul HB.out⟩
def jk.f(k:Nat)(l0:List (jl)):Option (Bool):=(bP.f k l0).bind fun acJ=>(some (decide (acJ≥0)))
set_option maxHeartbeats 8000000 in
set_option maxRecDepth 100000 in
theorem jk.calls(k:Nat)(A0:Option Addr)(c0:Nat)(l0:List (jl))(r:Bool)(w:World)(hr0:Kd.C pV w A0 l0.length l0)(hc0:l0.length≤c0)(h:jk.f k l0=some r):
  Calls Tryz.prog 118 #[.slice A0 l0.length c0, .func (.func 119) #[] #[]] w fun e w'=>e= .returned (.bool r)∧Below w.heap.size w w':=by
 have HR0:=ak hr0;have wJ:=ak hc0;clear hr0 hc0;have HB:=ak (Below.refl w.heap.size w);have H:((bP.f k l0).bind fun acJ=>(some (decide (acJ≥0))))=some r:=h;clear h;replace H:=bd H;obtain⟨acJ,A3,H⟩:=H;obtain rfl:=Option.some.inj H;go_enter Tryz.func118,Tryz.ntmps118;go_wp2_with (first|(refine gL 122 7 Tryz.func122 #[.slice A0 l0.length c0, .func (.func 119) #[] #[]] ?_;(with_reducible refine(bP.calls k _ _ l0 acJ _ (cu HR0.out) wJ.out A3.out).mono ?_);rintro e w4 ⟨rfl,hb⟩;refine⟨_,rfl,?_⟩;replace HB:=bs HB hb;(try clear hb)))
 go_ret;exact⟨er,ul HB.out⟩
def lG.f(k:Nat)(l0:List (jl)):Option (Bool):=if(l0.length:Int)≤20 then((jk.f k l0).bind fun acK=>(some (!acK)))else(some false)
set_option maxHeartbeats 8000000 in
set_option maxRecDepth 100000 in
theorem lG.calls(k:Nat)(A0:Option Addr)(c0:Nat)(l0:List (jl))(r:Bool)(w:World)(hr0:Kd.C pV w A0 l0.length l0)(hc0:l0.length≤c0)(h:lG.f k l0=some r):
  Calls Tryz.prog 82 #[.slice A0 l0.length c0] w fun e w'=>e= .returned (.bool r)∧Below w.heap.size w w':=by
 have HR0:=ak hr0;have wJ:=ak hc0;clear hr0 hc0;have HB:=ak (Below.refl w.heap.size w);have H:(if(l0.length:Int)≤20 then((jk.f k l0).bind fun acK=>(some (!acK)))else(some false))=some r:=h;clear h;replace H:=sp H;rcases H with⟨c2,H⟩|⟨c2,H⟩
 ·have sW:=decide_eq_true c2;have Dp:decide (l0.length≤20)=true:=decide_eq_true (by omega);clear c2;replace H:=bd H;obtain⟨acK,A3,H⟩:=H;obtain rfl:=Option.some.inj H;go_enter Tryz.func82,Tryz.ntmps82;go_wp2_with (first|(go_at_call 118;(with_reducible refine(jk.calls k _ _ l0 acK _ (cu HR0.out) wJ.out A3.out).mono ?_);rintro e w4 ⟨rfl,hb⟩;replace HB:=bs HB hb;(try clear hb)))
  go_ret;exact⟨er,ul HB.out⟩
 ·have sW:=decide_eq_false c2;have Dp:decide (l0.length≤20)=false:=decide_eq_false (by omega);clear c2;obtain rfl:=Option.some.inj H;go_enter Tryz.func82,Tryz.ntmps82;go_wp2;go_ret;exact⟨er,ul HB.out⟩
end Go.Proofs.YtncdadcmghglkaaGreatDoor.PFnExactFormatPart
