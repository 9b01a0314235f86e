/- Printed walks; conditions: those in each statement. -/
import Derived.Test.YtdimppdlfgnhgaaGreatDoorVFnExactParsePartQt
import Derived.Test.YtdimppdlfgnhgaaGreatDoorVFnExactParsePartYt
import Derived.Test.YtdimppdlfgnhgaaGreatDoorPFnExactParsePartx0
import Derived.Test.YtdimppdlfgnhgaaGreatDoorPFnExactParsePartx2
import Derived.Test.YtdimppdlfgnhgaaGreatDoorPFnExactParsePartx20
import Derived.Test.YtdimppdlfgnhgaaGreatDoorPFnExactParsePartx1
namespace Go.Proofs.YtdimppdlfgnhgaaGreatDoor.PFnExactParsePart
open Go.Proofs.YtdimppdlfgnhgaaGreatDoorW.eP.Kd Go.Proofs.YtdimppdlfgnhgaaGreatDoorW.mX.Kd Go.Proofs.Tryz Go.RowKit Go.Proofs.YtdimppdlfgnhgaaGreatDoor.X Go.Proofs.YtdimppdlfgnhgaaGreatDoorW.eP Go.Proofs.YtdimppdlfgnhgaaGreatDoorW.lF Go.Proofs.YtdimppdlfgnhgaaGreatDoorW.mX
attribute [local go_sem] uP uQ xQ xR rE rG uS uT   -- for this text's walks alone
set_option linter.unusedVariables false
set_option linter.unusedSimpArgs false
set_option maxHeartbeats 8000000
set_option maxRecDepth 100000
def kL.f(k:Nat)(bT:ByteArray)(cZ:ByteArray):Option (Bool):=(dK.f k bT).bind fun ark=>(if ark=true then((bK.f k cZ).bind fun arl=>(if arl=true then(if(cZ.size:Int)≤150 then((dG.f k cZ).bind fun aft=>(some (aft.toList==cZ.toList)))else(some false))else(some false)))else(some false))
set_option maxHeartbeats 8000000 in
set_option maxRecDepth 100000 in
theorem kL.calls(k:Nat)(bT:ByteArray)(cZ:ByteArray)(r:Bool)(w:World)(h:kL.f k bT cZ=some r):
  Calls Tryz.prog 106 #[.agg #[.string bT, .string cZ]] w fun e w'=>e= .returned (.bool r)∧Below w.heap.size w w':=by
 have Jo:=underlying63;have HB:=ak (Below.refl w.heap.size w);have H:((dK.f k bT).bind fun ark=>(if ark=true then((bK.f k cZ).bind fun arl=>(if arl=true then(if(cZ.size:Int)≤150 then((dG.f k cZ).bind fun aft=>(some (aft.toList==cZ.toList)))else(some false))else(some false)))else(some false)))=some r:=h;clear h;replace H:=bd H;obtain⟨ark,A2,H⟩:=H;replace H:=sb H;rcases H with⟨rfl,H⟩|⟨rfl,H⟩
 ·replace H:=bd H;obtain⟨arl,A4,H⟩:=H;replace H:=sb H;rcases H with⟨rfl,H⟩|⟨rfl,H⟩
  ·replace H:=sp H;rcases H with⟨c6,H⟩|⟨c6,H⟩
   ·have mG:=decide_eq_true c6;have B_:decide (cZ.size≤150)=true:=decide_eq_true (by omega);clear c6;replace H:=bd H;obtain⟨aft,A7,H⟩:=H;obtain rfl:=Option.some.inj H;go_enter func106,ntmps106;go_wp2_with (first|(refine bG (N:=1) rfl ?_;(try(refine aX (by rfl) ?_;dsimp only));refine bE 1 #[.string bT, .string cZ] 63 ?_;intro MN hg w8 hbox hb;have xM:=ak (hbox);have MO:=lq HB hg;have MP:=lq HB hg;replace HB:=bs HB hb;clear hb hbox hg;obtain⟨xu,xw,xA,xB⟩:=Ah xM.out)|(go_at_call 134;(with_reducible refine(dK.calls k bT true _ A2.out).mono ?_);rintro e w' ⟨rfl,⟨nd,rfl⟩⟩;(try exact dq))|(go_at_call 107;(with_reducible refine(bK.calls k cZ true _ A4.out).mono ?_);rintro e w' ⟨rfl,⟨nd,rfl⟩⟩;(try exact dq))|(go_at_call 113;(with_reducible refine(dG.calls k cZ aft _ A7.out).mono ?_);rintro e w' ⟨rfl,⟨nd,rfl⟩⟩;(try exact dq)))
    repeat(go_quiet (first|(refine bG (N:=1) rfl ?_;(try(refine aX (by rfl) ?_;dsimp only));refine bE 1 #[.string bT, .string cZ] 63 ?_;intro MN hg w8 hbox hb;have xM:=ak (hbox);have MO:=lq HB hg;have MP:=lq HB hg;replace HB:=bs HB hb;clear hb hbox hg;obtain⟨xu,xw,xA,xB⟩:=Ah xM.out)|(go_at_call 134;(with_reducible refine(dK.calls k bT true _ A2.out).mono ?_);rintro e w' ⟨rfl,⟨nd,rfl⟩⟩;(try exact dq))|(go_at_call 107;(with_reducible refine(bK.calls k cZ true _ A4.out).mono ?_);rintro e w' ⟨rfl,⟨nd,rfl⟩⟩;(try exact dq))|(go_at_call 113;(with_reducible refine(dG.calls k cZ aft _ A7.out).mono ?_);rintro e w' ⟨rfl,⟨nd,rfl⟩⟩;(try exact dq)));try go_wp2_with (first|(refine bG (N:=1) rfl ?_;(try(refine aX (by rfl) ?_;dsimp only));refine bE 1 #[.string bT, .string cZ] 63 ?_;intro MN hg w8 hbox hb;have xM:=ak (hbox);have MO:=lq HB hg;have MP:=lq HB hg;replace HB:=bs HB hb;clear hb hbox hg;obtain⟨xu,xw,xA,xB⟩:=Ah xM.out)|(go_at_call 134;(with_reducible refine(dK.calls k bT true _ A2.out).mono ?_);rintro e w' ⟨rfl,⟨nd,rfl⟩⟩;(try exact dq))|(go_at_call 107;(with_reducible refine(bK.calls k cZ true _ A4.out).mono ?_);rintro e w' ⟨rfl,⟨nd,rfl⟩⟩;(try exact dq))|(go_at_call 113;(with_reducible refine(dG.calls k cZ aft _ A7.out).mono ?_);rintro e w' ⟨rfl,⟨nd,rfl⟩⟩;(try exact dq))))
    go_ret;exact⟨er,bb⟩
   ·have mG:=decide_eq_false c6;have B_:decide (cZ.size≤150)=false:=decide_eq_false (by omega);clear c6;obtain rfl:=Option.some.inj H;go_enter func106,ntmps106;go_wp2_with (first|(refine bG (N:=1) rfl ?_;(try(refine aX (by rfl) ?_;dsimp only));refine bE 1 #[.string bT, .string cZ] 63 ?_;intro MN hg w10 hbox hb;have xM:=ak (hbox);have MO:=lq HB hg;have MP:=lq HB hg;replace HB:=bs HB hb;clear hb hbox hg;obtain⟨AU,AV,AX,AY⟩:=Ah xM.out)|(go_at_call 134;(with_reducible refine(dK.calls k bT true _ A2.out).mono ?_);rintro e w' ⟨rfl,⟨nd,rfl⟩⟩;(try exact dq))|(go_at_call 107;(with_reducible refine(bK.calls k cZ true _ A4.out).mono ?_);rintro e w' ⟨rfl,⟨nd,rfl⟩⟩;(try exact dq)))
    repeat(go_quiet (first|(refine bG (N:=1) rfl ?_;(try(refine aX (by rfl) ?_;dsimp only));refine bE 1 #[.string bT, .string cZ] 63 ?_;intro MN hg w10 hbox hb;have xM:=ak (hbox);have MO:=lq HB hg;have MP:=lq HB hg;replace HB:=bs HB hb;clear hb hbox hg;obtain⟨AU,AV,AX,AY⟩:=Ah xM.out)|(go_at_call 134;(with_reducible refine(dK.calls k bT true _ A2.out).mono ?_);rintro e w' ⟨rfl,⟨nd,rfl⟩⟩;(try exact dq))|(go_at_call 107;(with_reducible refine(bK.calls k cZ true _ A4.out).mono ?_);rintro e w' ⟨rfl,⟨nd,rfl⟩⟩;(try exact dq)));try go_wp2_with (first|(refine bG (N:=1) rfl ?_;(try(refine aX (by rfl) ?_;dsimp only));refine bE 1 #[.string bT, .string cZ] 63 ?_;intro MN hg w10 hbox hb;have xM:=ak (hbox);have MO:=lq HB hg;have MP:=lq HB hg;replace HB:=bs HB hb;clear hb hbox hg;obtain⟨AU,AV,AX,AY⟩:=Ah xM.out)|(go_at_call 134;(with_reducible refine(dK.calls k bT true _ A2.out).mono ?_);rintro e w' ⟨rfl,⟨nd,rfl⟩⟩;(try exact dq))|(go_at_call 107;(with_reducible refine(bK.calls k cZ true _ A4.out).mono ?_);rintro e w' ⟨rfl,⟨nd,rfl⟩⟩;(try exact dq))))
    go_ret;exact⟨er,bb⟩
  ·obtain rfl:=Option.some.inj H;go_enter func106,ntmps106;go_wp2_with (first|(refine bG (N:=1) rfl ?_;(try(refine aX (by rfl) ?_;dsimp only));refine bE 1 #[.string bT, .string cZ] 63 ?_;intro MN hg w12 hbox hb;have xM:=ak (hbox);have MO:=lq HB hg;have MP:=lq HB hg;replace HB:=bs HB hb;clear hb hbox hg;obtain⟨uI,uJ,uK,uM⟩:=Ah xM.out)|(go_at_call 134;(with_reducible refine(dK.calls k bT true _ A2.out).mono ?_);rintro e w' ⟨rfl,⟨nd,rfl⟩⟩;(try exact dq))|(go_at_call 107;(with_reducible refine(bK.calls k cZ false _ A4.out).mono ?_);rintro e w' ⟨rfl,⟨nd,rfl⟩⟩;(try exact dq)))
   repeat(go_quiet (first|(refine bG (N:=1) rfl ?_;(try(refine aX (by rfl) ?_;dsimp only));refine bE 1 #[.string bT, .string cZ] 63 ?_;intro MN hg w12 hbox hb;have xM:=ak (hbox);have MO:=lq HB hg;have MP:=lq HB hg;replace HB:=bs HB hb;clear hb hbox hg;obtain⟨uI,uJ,uK,uM⟩:=Ah xM.out)|(go_at_call 134;(with_reducible refine(dK.calls k bT true _ A2.out).mono ?_);rintro e w' ⟨rfl,⟨nd,rfl⟩⟩;(try exact dq))|(go_at_call 107;(with_reducible refine(bK.calls k cZ false _ A4.out).mono ?_);rintro e w' ⟨rfl,⟨nd,rfl⟩⟩;(try exact dq)));try go_wp2_with (first|(refine bG (N:=1) rfl ?_;(try(refine aX (by rfl) ?_;dsimp only));refine bE 1 #[.string bT, .string cZ] 63 ?_;intro MN hg w12 hbox hb;have xM:=ak (hbox);have MO:=lq HB hg;have MP:=lq HB hg;replace HB:=bs HB hb;clear hb hbox hg;obtain⟨uI,uJ,uK,uM⟩:=Ah xM.out)|(go_at_call 134;(with_reducible refine(dK.calls k bT true _ A2.out).mono ?_);rintro e w' ⟨rfl,⟨nd,rfl⟩⟩;(try exact dq))|(go_at_call 107;(with_reducible refine(bK.calls k cZ false _ A4.out).mono ?_);rintro e w' ⟨rfl,⟨nd,rfl⟩⟩;(try exact dq))))
   go_ret;exact⟨er,bb⟩
 ·obtain rfl:=Option.some.inj H;go_enter func106,ntmps106;go_wp2_with (first|(refine bG (N:=1) rfl ?_;(try(refine aX (by rfl) ?_;dsimp only));refine bE 1 #[.string bT, .string cZ] 63 ?_;intro MN hg Us hbox hb;have xM:=ak (hbox);have MO:=lq HB hg;have MP:=lq HB hg;replace HB:=bs HB hb;clear hb hbox hg;obtain⟨nZ,n_,og,oh⟩:=Ah xM.out)|(go_at_call 134;(with_reducible refine(dK.calls k bT false _ A2.out).mono ?_);rintro e w' ⟨rfl,⟨nd,rfl⟩⟩;(try exact dq)))
  repeat(go_quiet (first|(refine bG (N:=1) rfl ?_;(try(refine aX (by rfl) ?_;dsimp only));refine bE 1 #[.string bT, .string cZ] 63 ?_;intro MN hg Us hbox hb;have xM:=ak (hbox);have MO:=lq HB hg;have MP:=lq HB hg;replace HB:=bs HB hb;clear hb hbox hg;obtain⟨nZ,n_,og,oh⟩:=Ah xM.out)|(go_at_call 134;(with_reducible refine(dK.calls k bT false _ A2.out).mono ?_);rintro e w' ⟨rfl,⟨nd,rfl⟩⟩;(try exact dq)));try go_wp2_with (first|(refine bG (N:=1) rfl ?_;(try(refine aX (by rfl) ?_;dsimp only));refine bE 1 #[.string bT, .string cZ] 63 ?_;intro MN hg Us hbox hb;have xM:=ak (hbox);have MO:=lq HB hg;have MP:=lq HB hg;replace HB:=bs HB hb;clear hb hbox hg;obtain⟨nZ,n_,og,oh⟩:=Ah xM.out)|(go_at_call 134;(with_reducible refine(dK.calls k bT false _ A2.out).mono ?_);rintro e w' ⟨rfl,⟨nd,rfl⟩⟩;(try exact dq))))
  go_ret;exact⟨er,bb⟩
mutual
def gJ.l0:Nat→List (gI)→Int→Option (Bool)
 |0,_,_=>none
 |k+1,x0,x3=>if x3<(x0.length:Int)then(gJ.j1 k x0 x3 (decide (x3≤20)))else(gJ.j1 k x0 x3 false)
def gJ.j1:Nat→List (gI)→Int→Bool→Option (Bool)
 |0,_,_,_=>none
 |k+1,x0,x3,x11=>if x11=true then(if 0≤x3 then(if x3<(x0.length:Int)then((kL.f k ((aG x0 x3).f0) ((aG x0 x3).f1)).bind fun aCv=>(if aCv=true then(gJ.l0 k x0 (wrap64 (x3+1)))else(some false)))else(none))else(none))else(some (decide ((x0.length:Int)≤20)))
end
def gJ.f(k:Nat)(l0:List (gI)):Option (Bool):=gJ.l0 k l0 0
set_option maxHeartbeats 8000000 in
set_option maxRecDepth 100000 in
theorem gJ.calls(k:Nat)(A0:Option Addr)(c0:Nat)(l0:List (gI))(r:Bool)(w:World)(hr0:Kd.C oN w A0 l0.length l0)(hc0:l0.length≤c0)(h:gJ.f k l0=some r):
  Calls Tryz.prog 68 #[.slice A0 l0.length c0] w fun e w'=>e= .returned (.bool r)∧Below w.heap.size w w':=by
 have Jo:=underlying63;have HR0:=ak hr0;have sK:=ak hc0;clear hr0 hc0;have HB:=ak (Below.refl w.heap.size w);have H:(gJ.l0 k l0 0)=some r:=h;clear h;have H':=ak H;clear H;go_enter func68,ntmps68;go_wp2;go_loopg [3] k (fun kq v3 w'=>∃(dS:Int),v3= .int .i64 dS∧ay (gJ.l0 kq l0 dS=some r)∧ay (kq≤k)∧ay (Below w.heap.size w w'))
 case atStart=>exact⟨(0),rs,H',⟨Nat.le_refl _⟩,⟨ul HB.out⟩⟩
 case round=>
  clear H';obtain⟨dS,rfl,HA,iM,HB⟩:=hrel
  cases gk with
  |zero=>exact absurd HA.out (by simp[gJ.l0])
  |succ k1=>
   have H:=HA.out;clear HA;simp only[gJ.l0]at H;have HC2:=ak H;clear H;go_upto_region 2 with(fail)
   go_cut [11] (fun v11 wc=>∃(kq:Nat) (xG:Bool),v11= .bool xG∧ay (gJ.j1 kq l0 dS xG=some r)∧ay (kq≤k1)∧ay (Below w.heap.size w wc))
   case first=>
    have H:=HC2.out;clear HC2;replace H:=sd H;rcases H with⟨iK,H⟩|⟨iK,H⟩
    ·(first|rw[iK]|(simp only[bf,bD];rw[iK])|skip);have H':=ak H;clear H;go_wp2;go_meet
     case rel=>exact⟨_,(decide (dS≤20)),rs,H',⟨by have:=iM.out;first|omega|exact Nat.le_refl _⟩,⟨ul HB.out⟩⟩
    ·(first|rw[iK]|(simp only[bf,bD];rw[iK])|skip);have H':=ak H;clear H;go_wp2;go_meet
     case rel=>exact⟨_,(false),rs,H',⟨by have:=iM.out;first|omega|exact Nat.le_refl _⟩,⟨ul HB.out⟩⟩
   case rest=>
    clear HC2;try clear p2
    try clear c3
    try clear iK
    obtain⟨kq,xG,rfl,HA,Oi,HB⟩:=hcut
    cases kq with
    |zero=>exact absurd HA.out (by simp[gJ.j1])
    |succ Oj=>
     have H:=HA.out;clear HA;simp only[gJ.j1]at H;replace H:=sb H;rcases H with⟨rfl,H⟩|⟨rfl,H⟩
     ·replace H:=oL H;obtain⟨o_,H⟩:=H;replace H:=oL H;obtain⟨mG,H⟩:=H;replace H:=bd H;obtain⟨aCv,A7,H⟩:=H;replace H:=sb H;rcases H with⟨rfl,H⟩|⟨rfl,H⟩
      ·have H':=ak H;clear H;have afu:=zi dS;have afv:=zj dS l0.length;obtain⟨aCw,e269,SY,S9⟩:=oC HR0.out dS afu afv;cases e269;replace SY:=cl HB.out SY;replace S9:=cl HB.out S9;replace afu:=eq_true afu;replace afv:=eq_true afv;go_wp2_with (first|(refine gL 106 18 func106 #[.agg #[.string ((aG l0 dS).f0), .string ((aG l0 dS).f1)]] ?_;(with_reducible refine(kL.calls Oj ((aG l0 dS).f0) ((aG l0 dS).f1) true _ A7.out).mono ?_);rintro e w9 ⟨rfl,hb⟩;refine⟨_,rfl,?_⟩;replace HB:=bs HB hb;(try clear hb)))
       go_roundg Oj
       case measure=>have:=iM.out;have:=Oi.out;omega
       case rel=>exact⟨(wrap64 (dS+1)),rs,H',⟨by have:=iM.out;have:=Oi.out;omega⟩,⟨ul HB.out⟩⟩
      ·obtain rfl:=Option.some.inj H;have afu:=zi dS;have afv:=zj dS l0.length;obtain⟨aCw,e269,SY,S9⟩:=oC HR0.out dS afu afv;cases e269;replace SY:=cl HB.out SY;replace S9:=cl HB.out S9;replace afu:=eq_true afu;replace afv:=eq_true afv;go_wp2_with (first|(refine gL 106 18 func106 #[.agg #[.string ((aG l0 dS).f0), .string ((aG l0 dS).f1)]] ?_;(with_reducible refine(kL.calls Oj ((aG l0 dS).f0) ((aG l0 dS).f1) false _ A7.out).mono ?_);rintro e w10 ⟨rfl,hb⟩;refine⟨_,rfl,?_⟩;replace HB:=bs HB hb;(try clear hb)))
       go_ret;exact⟨er,ul HB.out⟩
     ·obtain rfl:=Option.some.inj H;go_wp2;go_ret;exact⟨er,ul HB.out⟩
mutual
def jv.l0:Nat→List ByteArray→Int→Option (Bool)
 |0,_,_=>none
 |k+1,x0,x3=>if x3<(x0.length:Int)then(jv.j1 k x0 x3 (decide (x3≤30)))else(jv.j1 k x0 x3 false)
def jv.j1:Nat→List ByteArray→Int→Bool→Option (Bool)
 |0,_,_,_=>none
 |k+1,x0,x3,x11=>if x11=true then(if 0≤x3 then(if x3<(x0.length:Int)then((bK.f k (f_ ByteArray.empty x0 x3)).bind fun aCx=>(if aCx=true then(jv.l0 k x0 (wrap64 (x3+1)))else(some false)))else(none))else(none))else(some (decide ((x0.length:Int)≤30)))
end
def jv.f(k:Nat)(l0:List ByteArray):Option (Bool):=jv.l0 k l0 0
set_option maxHeartbeats 8000000 in
set_option maxRecDepth 100000 in
theorem jv.calls(k:Nat)(A0:Option Addr)(c0:Nat)(l0:List ByteArray)(r:Bool)(w:World)(hr0:Kd.C Kd.string w A0 l0.length l0)(hc0:l0.length≤c0)(h:jv.f k l0=some r):
  Calls Tryz.prog 69 #[.slice A0 l0.length c0] w fun e w'=>e= .returned (.bool r)∧fZ w w':=by
 have HR0:=ak hr0;have sK:=ak hc0;clear hr0 hc0;have H:(jv.l0 k l0 0)=some r:=h;clear h;have H':=ak H;clear H;go_enter func69,ntmps69;go_wp2;go_loopg [3] k (fun kq v3 w'=>∃(dS:Int),v3= .int .i64 dS∧ay (jv.l0 kq l0 dS=some r)∧ay (kq≤k)∧fZ w w')
 case atStart=>exact⟨(0),rs,H',⟨Nat.le_refl _⟩,dn⟩
 case round=>
  clear H';obtain⟨dS,rfl,HA,iM,⟨m1,rfl⟩⟩:=hrel
  cases gk with
  |zero=>exact absurd HA.out (by simp[jv.l0])
  |succ k1=>
   have H:=HA.out;clear HA;simp only[jv.l0]at H;have HC2:=ak H;clear H;go_upto_region 2 with(fail)
   go_cut [11] (fun v11 wc=>∃(kq:Nat) (xG:Bool),v11= .bool xG∧ay (jv.j1 kq l0 dS xG=some r)∧ay (kq≤k1)∧fZ w wc)
   case first=>
    have H:=HC2.out;clear HC2;replace H:=sd H;rcases H with⟨iK,H⟩|⟨iK,H⟩
    ·(first|rw[iK]|(simp only[bf,bD];rw[iK])|skip);have H':=ak H;clear H;go_wp2;go_meet
     case rel=>exact⟨_,(decide (dS≤30)),rs,H',⟨by have:=iM.out;first|omega|exact Nat.le_refl _⟩,dn⟩
    ·(first|rw[iK]|(simp only[bf,bD];rw[iK])|skip);have H':=ak H;clear H;go_wp2;go_meet
     case rel=>exact⟨_,(false),rs,H',⟨by have:=iM.out;first|omega|exact Nat.le_refl _⟩,dn⟩
   case rest=>
    clear HC2;try clear p2
    try clear c3
    try clear iK
    obtain⟨kq,xG,rfl,HA,Oi,⟨mc1,rfl⟩⟩:=hcut
    cases kq with
    |zero=>exact absurd HA.out (by simp[jv.j1])
    |succ Oj=>
     have H:=HA.out;clear HA;simp only[jv.j1]at H;replace H:=sb H;rcases H with⟨rfl,H⟩|⟨rfl,H⟩
     ·replace H:=oL H;obtain⟨o_,H⟩:=H;replace H:=oL H;obtain⟨mG,H⟩:=H;replace H:=bd H;obtain⟨aCx,A7,H⟩:=H;replace H:=sb H;rcases H with⟨rfl,H⟩|⟨rfl,H⟩
      ·have H':=ak H;clear H;have afw:=zi dS;have afx:=zj dS l0.length;obtain⟨aCy,e271,arn⟩:=dY HR0.out dS afw afx;cases e271;replace afw:=eq_true afw;replace afx:=eq_true afx;go_wp2_with (first|(refine gL 107 18 func107 #[.string (f_ ByteArray.empty l0 dS)] ?_;(with_reducible refine(bK.calls Oj (f_ ByteArray.empty l0 dS) true _ A7.out).mono ?_);rintro e w' ⟨rfl,⟨nd,rfl⟩⟩;refine⟨_,rfl,?_⟩))
       go_roundg Oj
       case measure=>have:=iM.out;have:=Oi.out;omega
       case rel=>exact⟨(wrap64 (dS+1)),rs,H',⟨by have:=iM.out;have:=Oi.out;omega⟩,dn⟩
      ·obtain rfl:=Option.some.inj H;have afw:=zi dS;have afx:=zj dS l0.length;obtain⟨aCy,e271,arn⟩:=dY HR0.out dS afw afx;cases e271;replace afw:=eq_true afw;replace afx:=eq_true afx;go_wp2_with (first|(refine gL 107 18 func107 #[.string (f_ ByteArray.empty l0 dS)] ?_;(with_reducible refine(bK.calls Oj (f_ ByteArray.empty l0 dS) false _ A7.out).mono ?_);rintro e w' ⟨rfl,⟨nd,rfl⟩⟩;refine⟨_,rfl,?_⟩))
       go_ret;exact⟨rs,dn⟩
     ·obtain rfl:=Option.some.inj H;go_wp2;go_ret;exact⟨rs,dn⟩
mutual
def fJ.l0:Nat→ByteArray→Int→Int→Option (Int)
 |0,_,_,_=>none
 |k+1,x0,x5,x6=>if(wrap64 (x6+1))<(x0.size:Int)then(if 0≤x6 then(if x6<(x0.size:Int)then(if(bt x0 x6)=32 then(if 0≤(wrap64 (x6-1))then(if(wrap64 (x6-1))<(x0.size:Int)then(if(bt x0 (wrap64 (x6-1)))=32 then(fJ.j1 k x0 x5 x6 true)else(if 0≤(wrap64 (x6+1))then(fJ.j1 k x0 x5 x6 ((bt x0 (wrap64 (x6+1)))==32))else(none)))else(none))else(none))else(fJ.j1 k x0 x5 x6 true))else(none))else(none))else(some x5)
def fJ.j1:Nat→ByteArray→Int→Int→Bool→Option (Int)
 |0,_,_,_,_=>none
 |k+1,x0,x5,x6,x33=>if x33=true then(fJ.l0 k x0 x5 (wrap64 (x6+1)))else(if x6≤40 then(fJ.l0 k x0 x6 (wrap64 (x6+1)))else(if x5<0 then(fJ.l0 k x0 x6 (wrap64 (x6+1)))else(fJ.l0 k x0 x5 (wrap64 (x6+1)))))
end
def fJ.f(k:Nat)(a0:ByteArray)(a1:Int):Option (Int):=fJ.l0 k a0 (-1) (wrap64 (a1+1))
set_option maxHeartbeats 8000000 in
set_option maxRecDepth 100000 in
theorem fJ.calls(k:Nat)(a0:ByteArray)(a1:Int)(r:Int)(w:World)(h:fJ.f k a0 a1=some r):
  Calls Tryz.prog 152 #[.string a0, .int .i64 a1] w fun e w'=>e= .returned (.int .i64 r)∧fZ w w':=by
 have H:(fJ.l0 k a0 (-1) (wrap64 (a1+1)))=some r:=h;clear h;have H':=ak H;clear H;go_enter func152,ntmps152;go_wp2;go_loopg [5,6] k (fun kq v5 v6 w'=>∃(aQ:Int) (iJ:Int),v5= .int .i64 aQ∧v6= .int .i64 iJ∧ay (fJ.l0 kq a0 aQ iJ=some r)∧ay (kq≤k)∧fZ w w')
 case atStart=>exact⟨((-1)),(wrap64 (a1+1)),rs,rs,H',⟨Nat.le_refl _⟩,dn⟩
 case round=>
  clear H';try clear c1
  try clear p2
  obtain⟨aQ,iJ,rfl,rfl,HA,iM,⟨m1,rfl⟩⟩:=hrel
  cases gk with
  |zero=>exact absurd HA.out (by simp[fJ.l0])
  |succ k1=>
   have H:=HA.out;clear HA;simp only[fJ.l0]at H;replace H:=sp H;rcases H with⟨c3,H⟩|⟨c3,H⟩
   ·have iK:=decide_eq_true c3
    (try(have xW:decide ((iJ+1)<(a0.size:Int))=true:=decide_eq_true (by have h_:=c3;unfold wrap64 at h_;omega)));clear c3;have HC4:=ak H;clear H;go_upto_region 5 with(fail)
    go_cut [33] (fun v33 wc=>∃(kq:Nat) (amJ:Bool),v33= .bool amJ∧ay (fJ.j1 kq a0 aQ iJ amJ=some r)∧ay (kq≤k1)∧fZ w wc)
    case first=>
     have H:=HC4.out;clear HC4;replace H:=oL H;obtain⟨o_,H⟩:=H
     (first|rw[o_]|(simp only[bf,bD];rw[o_])|skip);replace H:=oL H;obtain⟨mG,H⟩:=H;replace H:=sq H;rcases H with⟨rV,G7,H⟩|⟨c8,rV,G7,H⟩
     ·obtain⟨VE,OA⟩:∃j_:Int,(wrap64 (iJ-1))=j_:=⟨_,rfl⟩
      replace H:(if 0≤(VE)then(if(VE)<(a0.size:Int)then(if(bt a0 (VE))=32 then(fJ.j1 k1 a0 aQ iJ true)else(if 0≤(wrap64 (iJ+1))then(fJ.j1 k1 a0 aQ iJ ((bt a0 (wrap64 (iJ+1)))==32))else(none)))else(none))else(none))=some r:=by first|(rw[OA]at H;exact H)|(simp only[OA]at H⊢;exact H)
      have as1:(IntKind.i64.wrap (iJ-1))=VE:=(bf _).trans OA;replace H:=oL H;obtain⟨rW,H⟩:=H;replace H:=oL H;obtain⟨yC,H⟩:=H;replace H:=sq H;rcases H with⟨vJ,BP,H⟩|⟨c13,vJ,BP,H⟩
      ·have H':=ak H;clear H;obtain⟨p7,q7,hx7⟩:=bx a0 iJ;obtain⟨p12,q12,aq_⟩:=bx a0 (VE);go_wp2;go_meet
       case rel=>exact⟨_,(true),rs,H',⟨by have:=iM.out;first|omega|exact Nat.le_refl _⟩,dn⟩
      ·obtain⟨amK,adu⟩:∃j_:Int,(wrap64 (iJ+1))=j_:=⟨_,rfl⟩
       replace H:(if 0≤(amK)then(fJ.j1 k1 a0 aQ iJ ((bt a0 (amK))==32))else(none))=some r:=by first|(rw[adu]at H;exact H)|(simp only[adu]at H⊢;exact H)
       (try rw[adu]at iK);have aJI:(IntKind.i64.wrap (iJ+1))=amK:=(bf _).trans adu;replace H:=oL H;obtain⟨uy,H⟩:=H;have H':=ak H;clear H;obtain⟨p7,q7,hx7⟩:=bx a0 iJ;obtain⟨p12,q12,aq_⟩:=bx a0 (VE);obtain⟨p16,q16,hx16⟩:=bx a0 (amK);go_wp2;go_meet
       case rel=>exact⟨_,(((bt a0 (amK))==32)),(by first|rfl|(simp;done)|(simp only[←adu]<;>(first|rfl|simp))|(simp[*];done)),H',⟨by have:=iM.out;first|omega|exact Nat.le_refl _⟩,dn⟩
     ·have H':=ak H;clear H;obtain⟨p7,q7,hx7⟩:=bx a0 iJ;go_wp2;go_meet
      case rel=>exact⟨_,(true),rs,H',⟨by have:=iM.out;first|omega|exact Nat.le_refl _⟩,dn⟩
    case rest=>
     clear HC4;try clear c1
     try clear p1
     try clear q1
     try clear hx1
     try clear p2
     try clear c3
     try clear iK
     try clear xW
     try clear c5
     try clear o_
     try clear c6
     try clear mG
     try clear p6
     try clear p7
     try clear q7
     try clear hx7
     try clear c8
     try clear rV
     try clear G7
     try clear c10
     try clear rW
     try clear c11
     try clear yC
     try clear p12
     try clear q12
     try clear aq_
     try clear c13
     try clear vJ
     try clear BP
     try clear c15
     try clear uy
     try clear p16
     try clear q16
     try clear hx16
     try clear p12
     try clear p16
     try clear p2
     try clear p7
     try clear q12
     try clear q16
     try clear q7
     obtain⟨kq,amJ,rfl,HA,Y5,⟨mc3,rfl⟩⟩:=hcut
     cases kq with
     |zero=>exact absurd HA.out (by simp[fJ.j1])
     |succ V9=>
      have H:=HA.out;clear HA;simp only[fJ.j1]at H;replace H:=sb H;rcases H with⟨rfl,H⟩|⟨rfl,H⟩
      ·have H':=ak H;clear H;go_wp2;go_roundg V9
       case measure=>have:=iM.out;have:=Y5.out;omega
       case rel=>exact⟨(aQ),(wrap64 (iJ+1)),rs,rs,H',⟨by have:=iM.out;have:=Y5.out;omega⟩,dn⟩
      ·replace H:=sd H;rcases H with⟨Hy,H⟩|⟨Hy,H⟩
       ·have H':=ak H;clear H;go_wp2;go_roundg V9
        case measure=>have:=iM.out;have:=Y5.out;omega
        case rel=>exact⟨(iJ),(wrap64 (iJ+1)),rs,rs,H',⟨by have:=iM.out;have:=Y5.out;omega⟩,dn⟩
       ·replace H:=sd H;rcases H with⟨Dh,H⟩|⟨Dh,H⟩
        ·have H':=ak H;clear H;go_wp2;go_roundg V9
         case measure=>have:=iM.out;have:=Y5.out;omega
         case rel=>exact⟨(iJ),(wrap64 (iJ+1)),rs,rs,H',⟨by have:=iM.out;have:=Y5.out;omega⟩,dn⟩
        ·have H':=ak H;clear H;go_wp2;go_roundg V9
         case measure=>have:=iM.out;have:=Y5.out;omega
         case rel=>exact⟨(aQ),(wrap64 (iJ+1)),rs,rs,H',⟨by have:=iM.out;have:=Y5.out;omega⟩,dn⟩
   ·have iK:=decide_eq_false c3
    (try(have xW:decide ((iJ+1)<(a0.size:Int))=false:=decide_eq_false (by have h_:=c3;unfold wrap64 at h_;omega)));clear c3;obtain rfl:=Option.some.inj H;go_wp2;go_ret;exact⟨rs,dn⟩
mutual
def fU.j0:Nat→List ByteArray→ByteArray→Int→Option (List ByteArray)
 |0,_,_,_=>none
 |k+1,x3,x4,x5=>fU.l0 k x3 x4 x5
def fU.l0:Nat→List ByteArray→ByteArray→Int→Option (List ByteArray)
 |0,_,_,_=>none
 |k+1,x3,x4,x5=>if(x4.size:Int)>40 then((fJ.f k x4 x5).bind fun S_=>(if S_<0 then(if x3.length<8796093022208 then(some (x3++[x4]))else(none))else(if 0≤S_ then(if S_≤(x4.size:Int)then(if x3.length<8796093022208 then(fU.l0 k (x3++[x4.extract 0 (S_:Int).toNat]) (x4.extract (S_:Int).toNat x4.size) 1)else(none))else(none))else(none))))else(if x3.length<8796093022208 then(some (x3++[x4]))else(none))
end
def fU.f(k:Nat)(bT:ByteArray)(cZ:ByteArray):Option (List ByteArray):=(some (([]:List ByteArray):List ByteArray)).bind fun Yu=>((kL.f k bT cZ).bind fun aro=>(if aro=true then(if bT.size+1≤9223372036854775807 then(if cZ.toList=([]:List UInt8)then(fU.j0 k Yu (bT++(⟨#[58]⟩:ByteArray)) ((bT++(⟨#[58]⟩:ByteArray)).size:Int))else(if(bT++(⟨#[58]⟩:ByteArray)).size+1≤9223372036854775807 then(if((bT++(⟨#[58]⟩:ByteArray))++(⟨#[32]⟩:ByteArray)).size+cZ.size≤9223372036854775807 then(fU.j0 k Yu (((bT++(⟨#[58]⟩:ByteArray))++(⟨#[32]⟩:ByteArray))++cZ) (wrap64 (((bT++(⟨#[58]⟩:ByteArray)).size:Int)+1)))else(none))else(none)))else(none))else(some Yu)))
theorem fU.calls(k:Nat)(bT:ByteArray)(cZ:ByteArray)(r:List ByteArray)(w:World)(h:fU.f k bT cZ=some r):
  Calls Tryz.prog 135 #[.agg #[.string bT, .string cZ]] w fun e w'=>∃sZ:Value,e= .returned (sZ)∧Kd.R Kd.string 9 w' w.heap.size (fun _=>True) sZ r∧Below w.heap.size w w':=by
 have Jo:=underlying63;have HB:=ak (Below.refl w.heap.size w);have H:((some (([]:List ByteArray):List ByteArray)).bind fun Yu=>((kL.f k bT cZ).bind fun aro=>(if aro=true then(if bT.size+1≤9223372036854775807 then(if cZ.toList=([]:List UInt8)then(fU.j0 k Yu (bT++(⟨#[58]⟩:ByteArray)) ((bT++(⟨#[58]⟩:ByteArray)).size:Int))else(if(bT++(⟨#[58]⟩:ByteArray)).size+1≤9223372036854775807 then(if((bT++(⟨#[58]⟩:ByteArray))++(⟨#[32]⟩:ByteArray)).size+cZ.size≤9223372036854775807 then(fU.j0 k Yu (((bT++(⟨#[58]⟩:ByteArray))++(⟨#[32]⟩:ByteArray))++cZ) (wrap64 (((bT++(⟨#[58]⟩:ByteArray)).size:Int)+1)))else(none))else(none)))else(none))else(some Yu))))=some r:=h;clear h;replace H:=ny H;obtain⟨Yu,adv,H⟩:=H;replace H:=bd H;obtain⟨aro,A2,H⟩:=H;replace H:=sb H;rcases H with⟨rfl,H⟩|⟨rfl,H⟩
 ·replace H:=nn H;obtain⟨c4,H⟩:=H;have oG:=eq_true c4;have VY:=decide_eq_true c4;try have avu:(9223372036854775807<bT.size+1)=False:=eq_false (Nat.not_lt.2 c4)
  have HC5:=ak H;clear H;go_enter func135,ntmps135;go_upto_if 19 with(first|(refine bX HB 1 #[.string bT, .string cZ] 63 ?_;intro ZP w6 su aCz hb;replace HB:=bs HB hb;clear hb)|(refine lRN 7 Kd.string 9 adv ?_;intro aCB w7 ho8 hb;have VK:=ak (bQ ho8 (aA bb));replace su:=kb su hb;replace HB:=bz HB hb;clear hb ho8;have z9:=Ah su.out)|(refine gB func106 (kL.calls k bT cZ true _ A2.out) ?_;intro w10 hb;replace VK:=rb VK hb;replace su:=kb su hb;replace HB:=bz HB hb;clear hb;have z11:=Ah su.out))
  (try simp only[Act.put,jI,jJ,l_c]);go_cut [4,5] (fun v4 v5 wc=>∃(kq:Nat) (arp:ByteArray) (arq:Int),v4= .string arp∧v5= .int .i64 arq∧ay (fU.j0 kq Yu arp arq=some r)∧ay (kq≤k)∧ay (Kd.R Kd.string 9 wc w.heap.size (fun _=>True) aCB Yu)∧ay (wc.heap[ZP]? =some (.cells #[.string bT, .string cZ] 63 (0,0)))∧ay (Below w.heap.size w wc))
  case first=>
   have H:=HC5.out;clear HC5;replace H:=sp H;rcases H with⟨c12,H⟩|⟨c12,H⟩
   ·have wG:=beq_iff_eq.mpr c12;have axL:(cZ.toList).isEmpty=true:=List.isEmpty_iff.mpr c12;have Hw:=bne_eq_false_iff_eq.mpr c12;clear c12
    (first|rw[wG]|(simp only[bf,bD];rw[wG])|skip)
    (first|(rw[axL];simp only[Bool.not_true,Bool.not_false])|skip);have H':=ak H;clear H;go_wp2;go_meet
    case rel=>exact⟨_,_,_,rs,rs,H',⟨XV⟩,⟨ur VK.out⟩,⟨ub su.out⟩,⟨bb⟩⟩
   ·have wG:=beq_eq_false_iff_ne.mpr c12;have axL:(cZ.toList).isEmpty=false:=List.isEmpty_eq_false_iff.mpr c12;have Hw:=bne_iff_ne.mpr c12
    (first|rw[wG]|(simp only[bf,bD];rw[wG])|skip)
    (first|(rw[axL];simp only[Bool.not_true,Bool.not_false])|skip);replace H:=nn H;obtain⟨c13,H⟩:=H;have vJ:=eq_true c13;have BP:=decide_eq_true c13;try have aBA:(9223372036854775807<bT.size+1+1)=False:=by have h_:=(eq_false (Nat.not_lt.2 c13):(9223372036854775807<(bT++(⟨#[58]⟩:ByteArray)).size+1)=False);simp only[ByteArray.size_append]at h_;exact h_
    try have acY:(9223372036854775807<(bT++(⟨#[58]⟩:ByteArray)).size+1)=False:=eq_false (Nat.not_lt.2 c13)
    replace H:=nn H;obtain⟨c14,H⟩:=H;have tH:=eq_true c14;have xq:=decide_eq_true c14;try have aMZ:(9223372036854775807<bT.size+1+1+cZ.size)=False:=by have h_:=(eq_false (Nat.not_lt.2 c14):(9223372036854775807<((bT++(⟨#[58]⟩:ByteArray))++(⟨#[32]⟩:ByteArray)).size+cZ.size)=False);simp only[ByteArray.size_append]at h_;exact h_
    try have adp:(9223372036854775807<((bT++(⟨#[58]⟩:ByteArray))++(⟨#[32]⟩:ByteArray)).size+cZ.size)=False:=eq_false (Nat.not_lt.2 c14)
    have H':=ak H;clear H;have z15:=Ah su.out;go_wp2;go_meet
    case rel=>exact⟨_,_,_,rs,rs,H',⟨XV⟩,⟨ur VK.out⟩,⟨ub su.out⟩,⟨bb⟩⟩
  case rest=>
   clear HC5;try clear c4
   try clear oG
   try clear VY
   try clear avu
   obtain⟨kq,arp,arq,rfl,rfl,HA,HJ4,nP,su,HB⟩:=hcut
   cases kq with
   |zero=>exact zz HA.out
   |succ kj4=>
    obtain⟨H⟩:=HA;simp only[fU.j0]at H;have H':=ak H;clear H;go_wp2;go_loopg [3,4,5] kj4 (fun kq v3 v4 v5 w'=>∃(mQ:List ByteArray) (iQ:ByteArray) (iI:Int),v4= .string iQ∧v5= .int .i64 iI∧ay (fU.l0 kq mQ iQ iI=some r)∧ay (kq≤kj4)∧ay (Kd.R Kd.string 9 w' w.heap.size (fun _=>True) v3 mQ)∧ay (w'.heap[ZP]? =some (.cells #[.string bT, .string cZ] 63 (0,0)))∧ay (Below w.heap.size w w'))
    case atStart=>exact⟨_,_,_,rs,rs,H',⟨Nat.le_refl _⟩,⟨ur nP.out⟩,⟨ub su.out⟩,⟨bb⟩⟩
    case round=>
     clear H';try clear c4
     try clear oG
     try clear VY
     try clear avu
     obtain⟨mQ,iQ,iI,rfl,rfl,HA,yR,nP,su,HB⟩:=hrel
     cases gk with
     |zero=>exact zz HA.out
     |succ k2=>
      obtain⟨H⟩:=HA;simp only[fU.l0]at H;replace H:=sp H;rcases H with⟨c16,H⟩|⟨c16,H⟩
      ·have L6:decide (40<(iQ.size:Int))=true:=decide_eq_true c16;have ams:decide (40<iQ.size)=true:=decide_eq_true (by omega);clear c16;replace H:=bd H;obtain⟨S_,A17,H⟩:=H;replace H:=sd H;rcases H with⟨Hy,H⟩|⟨Hy,H⟩
       ·replace H:=nl H;obtain⟨acE,H⟩:=H;obtain⟨aQo,aut⟩:=nm (mQ++[iQ]);rw[←aut.out]at H;obtain rfl:=s1 H;go_wp2_with (first|(refine gA func152 (fJ.calls k2 iQ iI S_ _ A17.out) ?_;intro nd)|((with_reducible refine bM (b:= .append) (xs:=#[.tmp 44, .tmp 46]) rfl ?_);at_builtin;refine iT Kd.string (w0:=w) w.heap.size rfl (.tmp 44) (.tmp 46) 23 9 (.string ⟨#[]⟩) 16 rfl underlying23 info9 rfl (by decide) (by omega) u3 mQ iQ [.string iQ] (fun _=>True) (fun _=>False) rfl rfl ?aP (fun _ hk=>hk.elim) ?aF ?aO ?aB ?aS ?aL ?_;(case aP=>exact rfl);(case aB=>exact bb);(case aF=>exact(fun _ _=>trivial));(case aO=>exact(ur nP.out));(case aS=>exact(aA bb));(case aL=>have:=acE.out;omega);intro aQp w20 ho hb hg hat;rw[←aut.out]at ho;have aCC:=ak (ho);replace su:=ak (gK (g:=ZP) (o:= .cells #[.string bT, .string cZ] 63 (0,0)) (ub su.out) hg (BO nP.out su.out (by decide)));replace HB:=ak (hb);clear ho hb hg hat nP))
        go_ret;exact⟨_,er,ur aCC.out,bb⟩
       ·replace H:=Fe H;obtain⟨FZ,acF,H⟩:=H;replace H:=Fe H;obtain⟨OM,acG,H⟩:=H;replace H:=nl H;obtain⟨akB,H⟩:=H;obtain⟨aJJ,auu⟩:=nm (mQ++[iQ.extract 0 (S_:Int).toNat]);rw[←auu.out]at H;have QB:=eq_true (of_decide_eq_true (by assumption):0≤S_);have Hz:=eq_true (of_decide_eq_true (by assumption):S_≤(iQ.size:Int));have H':=ak H;clear H;go_wp2_with (first|(refine gA func152 (fJ.calls k2 iQ iI S_ _ A17.out) ?_;intro nd)|((with_reducible refine bM (b:= .append) (xs:=#[.tmp 35, .tmp 39]) rfl ?_);at_builtin;refine iT Kd.string (w0:=w) w.heap.size rfl (.tmp 35) (.tmp 39) 23 9 (.string ⟨#[]⟩) 16 rfl underlying23 info9 rfl (by decide) (by omega) u3 mQ (iQ.extract 0 (S_:Int).toNat) [.string (iQ.extract 0 (S_:Int).toNat)] (fun _=>True) (fun _=>False) rfl rfl ?aP (fun _ hk=>hk.elim) ?aF ?aO ?aB ?aS ?aL ?_;(case aP=>exact rfl);(case aB=>exact bb);(case aF=>exact(fun _ _=>trivial));(case aO=>exact(ur nP.out));(case aS=>exact(aA bb));(case aL=>have:=akB.out;omega);intro aQq w26 ho hb hg hat;rw[←auu.out]at ho;have aCD:=ak (ho);replace su:=ak (gK (g:=ZP) (o:= .cells #[.string bT, .string cZ] 63 (0,0)) (ub su.out) hg (BO nP.out su.out (by decide)));replace HB:=ak (hb);clear ho hb hg hat nP))
        go_roundg k2
        case measure=>exact kl
        case rel=>exact⟨_,_,_,rs,rs,H',⟨kl⟩,⟨ur aCD.out⟩,⟨ub su.out⟩,⟨bb⟩⟩
      ·have L6:decide (40<(iQ.size:Int))=false:=decide_eq_false c16;have ams:decide (40<iQ.size)=false:=decide_eq_false (by omega);clear c16;replace H:=nl H;obtain⟨ac2,H⟩:=H;obtain⟨aQr,auv⟩:=nm (mQ++[iQ]);rw[←auv.out]at H;obtain rfl:=s1 H;go_wp2_with ((with_reducible refine bM (b:= .append) (xs:=#[.tmp 44, .tmp 46]) rfl ?_);at_builtin;refine iT Kd.string (w0:=w) w.heap.size rfl (.tmp 44) (.tmp 46) 23 9 (.string ⟨#[]⟩) 16 rfl underlying23 info9 rfl (by decide) (by omega) u3 mQ iQ [.string iQ] (fun _=>True) (fun _=>False) rfl rfl ?aP (fun _ hk=>hk.elim) ?aF ?aO ?aB ?aS ?aL ?_;(case aP=>exact rfl);(case aB=>exact bb);(case aF=>exact(fun _ _=>trivial));(case aO=>exact(ur nP.out));(case aS=>exact(aA bb));(case aL=>have:=ac2.out;omega);intro aQs w28 ho hb hg hat;rw[←auv.out]at ho;have aCE:=ak (ho);replace su:=ak (gK (g:=ZP) (o:= .cells #[.string bT, .string cZ] 63 (0,0)) (ub su.out) hg (BO nP.out su.out (by decide)));replace HB:=ak (hb);clear ho hb hg hat nP)
       go_ret;exact⟨_,er,ur aCE.out,bb⟩
 ·obtain rfl:=s1 H;go_enter func135,ntmps135;go_wp2_with (first|(refine bX HB 1 #[.string bT, .string cZ] 63 ?_;intro ZP w29 su aCz hb;replace HB:=bs HB hb;clear hb)|(refine lRN 7 Kd.string 9 adv ?_;intro aCB w30 amL hb;have VK:=ak (bQ amL (aA bb));replace su:=kb su hb;replace HB:=bz HB hb;clear hb amL;have z32:=Ah su.out)|(refine gB func106 (kL.calls k bT cZ false _ A2.out) ?_;intro w33 hb;replace VK:=rb VK hb;replace su:=kb su hb;replace HB:=bz HB hb;clear hb))
  go_ret;exact⟨_,er,ur VK.out,bb⟩
mutual
def aV.j0:Nat→Int→List ByteArray→Bool→List (gI)→List ByteArray→List (ku)→Option (List ByteArray×Bool)
 |0,_,_,_,_,_,_=>none
 |k+1,x1,x6,x27,RI,EG,CV=>if x27=true then(some (([]:List ByteArray),false))else(if x6.length<8796093022208 then((some (x6++[(⟨#[]⟩:ByteArray)]:List ByteArray)).bind fun PO=>((jB.f k RI EG CV).bind fun ahn=>(if ahn.2=true then(if(EG.length:Int)>0 then(aV.j1 k x1 PO ahn.1 true RI EG CV)else(if(CV.length:Int)<1 then(aV.j1 k x1 PO ahn.1 true RI EG CV)else(aV.j1 k x1 PO ahn.1 (decide ((CV.length:Int)>4)) RI EG CV)))else(if PO.length+EG.length<8796093022208 then((some (PO++EG:List ByteArray)).bind fun awy=>(if(CV.length:Int)=0 then((uh.f k EG 30).bind fun awz=>(some (awy,awz)))else(some (awy,false))))else(none)))))else(none))
def aV.j1:Nat→Int→List ByteArray→ByteArray→Bool→List (gI)→List ByteArray→List (ku)→Option (List ByteArray×Bool)
 |0,_,_,_,_,_,_,_=>none
 |k+1,x1,x6,x8,x66,RI,EG,CV=>if x66=true then(some (([]:List ByteArray),false))else(aV.l0 k x1 x6 x8 (([]:List (List ByteArray))) CV (CV.length:Int) 0)
def aV.l0:Nat→Int→List ByteArray→ByteArray→List (List ByteArray)→List (ku)→Int→Int→Option (List ByteArray×Bool)
 |0,_,_,_,_,_,_,_=>none
 |k+1,x1,x6,x8,x10,x69,x70,x71=>if x71<x70 then(if 0≤x71 then(if x71<(x69.length:Int)then((aV.f k ((aW x69 x71).f0) ((aW x69 x71).f1) ((aW x69 x71).f2) (wrap64 (x1-1))).bind fun atm=>(if atm.2=true then(if x10.length<5864062014805 then(aV.l0 k x1 x6 x8 (x10++[atm.1]) x69 x70 (wrap64 (x71+1)))else(none))else(some (([]:List ByteArray),false))))else(none))else(none))else((fE.f k x10 x8).bind fun alm=>(if x6.length+alm.1.length<8796093022208 then(some ((x6++alm.1),alm.2))else(none)))
def aV.f:Nat→List (gI)→List ByteArray→List (ku)→Int→Option (List ByteArray×Bool)
 |0,_,_,_,_=>none
 |k+1,dN,dQ,aH,a1=>(jk.f k dN).bind fun X8=>(if X8.2=true then(aV.j0 k a1 X8.1 (a1==0) dN dQ aH)else(aV.j0 k a1 X8.1 true dN dQ aH))
end
theorem aV.calls(k:Nat):∀(jD:Option Addr) (jE:Nat) (dN:List (gI)) (jW:Option Addr) (jX:Nat) (dQ:List ByteArray) (iw:Option Addr) (fC:Nat) (aH:List (ku)) (a1:Int) (r1:List ByteArray) (r2:Bool) (w:World) (pF:Kd.C oN w jD dN.length dN) (pG:dN.length≤jE) (pJ:Kd.C Kd.string w jW dQ.length dQ) (pK:dQ.length≤jX) (lZ:Kd.C k32 w iw aH.length aH) (l7:aH.length≤fC) (oP:MaxOk w) (h:aV.f k dN dQ aH a1=some (r1,r2)),
  Calls Tryz.prog 44 #[.agg #[.slice jD dN.length jE, .slice jW dQ.length jX, .slice iw aH.length fC], .int .i64 a1] w fun e w'=>∃sZ:Value,e= .returned (.tuple #[sZ, .bool r2])∧Kd.R Kd.string 9 w' w.heap.size (fun _=>True) sZ r1∧Below w.heap.size w w':=by
 induction k using Nat.strongRecOn with
 |_ k ih=>
 intro jD jE dN jW jX dQ iw fC aH a1 r1 r2 w pF pG pJ pK lZ l7 oP h
 cases k with
 |zero=>exact absurd h (by simp[aV.f])
 |succ k=>
 simp only[aV.f]at h;have LU:=underlying32;have qG:=ak pF;have qR:=ak pG;clear pF pG;have vY:=ak pJ;have yS:=ak pK;clear pJ pK;have lC:=ak lZ;have oz:=ak l7;clear lZ l7;have HG:=ak oP;clear oP;have HB:=ak (Below.refl w.heap.size w);have H:((jk.f k dN).bind fun X8=>(if X8.2=true then(aV.j0 k a1 X8.1 (a1==0) dN dQ aH)else(aV.j0 k a1 X8.1 true dN dQ aH)))=some (r1,r2):=h;clear h;replace H:=bd H;obtain⟨⟨aeP,aIy⟩,A3,H⟩:=H
 (try dsimp only at H);have HC4:=ak H;clear H;go_enter func44,ntmps44;go_upto_region 2 with(first|(refine gG 2 ?_;refine bX HB 2 #[.slice jD dN.length jE, .slice jW dQ.length jX, .slice iw aH.length fC] 32 ?_;intro yF w5 iH aLt hb;replace HB:=bs HB hb;clear hb;have z6:=jO iH.out)|(refine gV func54 (jk.calls k _ _ dN aeP aIy _ (cu (aT qG.out HB.out)) qR.out A3.out) ?_;rintro apY w7 ⟨ho0,hb⟩;have ato:=ak (bQ ho0 (aA bb));replace iH:=kb iH hb;replace HB:=bz HB hb;clear hb;(try clear ho0)))
 (try simp only[Act.put,jI,jJ,l_c]);go_cut [27] (fun v27 wc=>∃(kq:Nat) (aln:Bool),v27= .bool aln∧ay (aV.j0 kq a1 aeP aln dN dQ aH=some (r1,r2))∧ay (kq≤k)∧ay (Kd.R Kd.string 9 wc w.heap.size (fun _=>True) apY aeP)∧ay (wc.heap[yF]? =some (.cells #[(.slice jD dN.length jE),(.slice jW dQ.length jX),(.slice iw aH.length fC)] 32 (0,0)))∧ay (Below w.heap.size w wc))
 case first=>
  have H:=HC4.out;clear HC4;replace H:=sb H;rcases H with⟨rfl,H⟩|⟨rfl,H⟩
  ·have H':=ak H;clear H;go_wp2;go_meet
   case rel=>exact⟨_,_,rs,H',⟨XV⟩,⟨ur ato.out⟩,⟨ub iH.out⟩,⟨bb⟩⟩
  ·have H':=ak H;clear H;go_wp2;go_meet
   case rel=>exact⟨_,_,rs,H',⟨XV⟩,⟨ur ato.out⟩,⟨ub iH.out⟩,⟨bb⟩⟩
 case rest=>
  clear HC4;obtain⟨kq,aln,rfl,HA,Y5,jM,iH,HB⟩:=hcut
  cases kq with
  |zero=>exact zz HA.out
  |succ V9=>
   obtain⟨H⟩:=HA;simp only[aV.j0]at H;replace H:=sb H;rcases H with⟨rfl,H⟩|⟨rfl,H⟩
   ·obtain⟨rfl,rfl⟩:=s2 H;go_wp2;go_ret2;exact⟨_,er,nx,bb⟩
   ·replace H:=nl H;obtain⟨acM,H⟩:=H;replace H:=ny H;obtain⟨PO,aho,H⟩:=H;replace H:=bd H;obtain⟨⟨aeQ,aPd⟩,A11,H⟩:=H
    (try dsimp only at H);replace H:=sb H;rcases H with⟨rfl,H⟩|⟨rfl,H⟩
    ·have awC:=ak H;clear H;go_upto_region 8 with(first|((with_reducible refine bM (b:= .append) (xs:=#[.tmp 28, .tmp 29]) rfl ?_);(try(refine aX (by rfl) ?_;dsimp only));at_builtin;refine iT Kd.string (w0:=w) w.heap.size rfl (.tmp 28) (.tmp 29) 23 9 (.string ⟨#[]⟩) 16 rfl underlying23 info9 rfl (by decide) (by omega) apY aeP (⟨#[]⟩:ByteArray) [.string (⟨#[]⟩:ByteArray)] (fun _=>True) (fun _=>False) rfl rfl ?aP (fun _ hk=>hk.elim) ?aF ?aO ?aB ?aS ?aL ?_;(case aP=>exact rfl);(case aB=>exact bb);(case aF=>exact(fun _ _=>trivial));(case aO=>exact(ur jM.out));(case aS=>exact(aA bb));(case aL=>have:=acM.out;omega);intro X9 Us ho hb hg hat;rw[←aho.out]at ho;have xC:=ak (ho);replace iH:=ak (gK (g:=yF) (o:= .cells #[.slice jD dN.length jE, .slice jW dQ.length jX, .slice iw aH.length fC] 32 (0,0)) (ub iH.out) hg (BO jM.out iH.out (by decide)));replace HB:=ak (hb);clear ho hb hg hat jM;have z15:=jO iH.out)|(refine gB func51 (jB.calls V9 _ _ dN _ _ dQ _ _ aH aeQ true _ (cu (aT qG.out HB.out)) qR.out (cu (aT vY.out HB.out)) yS.out (cu (aT lC.out HB.out)) oz.out ?wu A11.out) ?_;(case wu=>first|exact HG.out|exact MaxOk.below HG.out bb|(repeat(first|exact HG.out|apply MaxOk.drewN|apply MaxOk.drew)));intro w16 hb;replace xC:=rb xC hb;replace iH:=kb iH hb;replace HB:=bz HB hb;clear hb))
     (try simp only[Act.put,jI,jJ,l_c]);go_cut [66] (fun v66 wc=>∃(kq:Nat) (aeR:Bool),v66= .bool aeR∧ay (aV.j1 kq a1 PO aeQ aeR dN dQ aH=some (r1,r2))∧ay (kq≤V9)∧ay (Kd.R Kd.string 9 wc w.heap.size (fun _=>True) X9 PO)∧ay (wc.heap[yF]? =some (.cells #[(.slice jD dN.length jE),(.slice jW dQ.length jX),(.slice iw aH.length fC)] 32 (0,0)))∧ay (Below w.heap.size w wc))
     case first=>
      have H:=awC.out;clear awC;replace H:=sp H;rcases H with⟨c17,H⟩|⟨c17,H⟩
      ·have uz:decide (0<(dQ.length:Int))=true:=decide_eq_true c17;have Md:decide (0<dQ.length)=true:=decide_eq_true (by omega);clear c17
       (first|rw[uz]|(simp only[bf,bD];rw[uz])|skip);have H':=ak H;clear H;have z18:=jO iH.out;go_wp2;go_meet
       case rel=>exact⟨_,_,rs,H',⟨kl⟩,⟨ur xC.out⟩,⟨ub iH.out⟩,⟨bb⟩⟩
      ·have uz:decide (0<(dQ.length:Int))=false:=decide_eq_false c17;have Md:decide (0<dQ.length)=false:=decide_eq_false (by omega);clear c17
       (first|rw[uz]|(simp only[bf,bD];rw[uz])|skip);replace H:=sp H;rcases H with⟨c19,H⟩|⟨c19,H⟩
       ·have Dh:=decide_eq_true c19;have FY:decide (aH.length<1)=true:=decide_eq_true (by omega);clear c19;have H':=ak H;clear H;have z20:=jO iH.out;go_wp2;go_meet
        case rel=>exact⟨_,_,rs,H',⟨kl⟩,⟨ur xC.out⟩,⟨ub iH.out⟩,⟨bb⟩⟩
       ·have Dh:=decide_eq_false c19;have FY:decide (aH.length<1)=false:=decide_eq_false (by omega);clear c19;have H':=ak H;clear H;have z21:=jO iH.out;go_wp2;go_meet
        case rel=>exact⟨_,_,rs,H',⟨kl⟩,⟨ur xC.out⟩,⟨ub iH.out⟩,⟨bb⟩⟩
     case rest=>
      clear awC;obtain⟨kq,aeR,rfl,HA,alo,jM,iH,HB⟩:=hcut
      cases kq with
      |zero=>exact zz HA.out
      |succ aAn=>
       obtain⟨H⟩:=HA;simp only[aV.j1]at H;replace H:=sb H;rcases H with⟨rfl,H⟩|⟨rfl,H⟩
       ·obtain⟨rfl,rfl⟩:=s2 H;go_wp2;go_ret2;exact⟨_,er,nx,bb⟩
       ·obtain⟨aIz,alp⟩:=nm ([]:List (List ByteArray));rw[←alp.out]at H;have H':=ak H;clear H;go_wp2_with ((with_reducible refine bG (N:=67) rfl ?_);(try(refine aX (by rfl) ?_;dsimp only));refine ZE (Kd.slice 9 Kd.string) _ 23 ?hg (N:=67) ?hd (xs:=([]:List (List ByteArray))) (inner:=[]) (ok:=fun _=>True) (oO:=fun _=>True) ?hr ?hp (fun _ hk=>hk) trivial (Below.refl _ _) (Nat.le_refl _) (by simp) ?_;(case hd=>rfl);(case hg=>rfl);(case hr=>first|(go_simp;done)|(go_simp;rfl));(case hp=>exact(iW.none _ _));intro aPe w23 V_ hb oP gY;clear oP gY;(first|rw[←alp.out]at V_|(simp only[Int.reduceToNat]at V_;rw[←alp.out]at V_));have aAo:=ak (qZ (F6 V_ (oK (ur jM.out))) (aA bb));replace jM:=rb jM hb;replace iH:=kb iH hb;replace HB:=bz HB hb;clear hb V_;have z25:=jO iH.out)
        go_loopg [10,71] aAn (fun kq v10 v71 w'=>∃(X_:List (List ByteArray)) (lU:Int),v71= .int .i64 lU∧ay (aV.l0 kq a1 PO aeQ X_ aH (aH.length:Int) lU=some (r1,r2))∧ay (kq≤aAn)∧ay (Kd.R Kd.string 9 w' w.heap.size (fun _=>True) X9 PO)∧ay (Kd.S (Kd.slice 9 Kd.string) 23 w' w.heap.size (fun k_=>some k_≠(X9:Value).ownBlock) v10 X_)∧ay (w'.heap[yF]? =some (.cells #[(.slice jD dN.length jE),(.slice jW dQ.length jX),(.slice iw aH.length fC)] 32 (0,0)))∧ay (Below w.heap.size w w'))
        case atStart=>exact⟨_,_,rs,H',⟨Nat.le_refl _⟩,⟨ur jM.out⟩,⟨by(with_reducible repeat(first|apply Kd.dH|apply Kd.dI|apply Kd.eH));exact jA aAo.out (fun _ hk=>hk.2)⟩,⟨ub iH.out⟩,⟨bb⟩⟩
        case round=>
         clear H';obtain⟨X_,lU,rfl,HA,OT,jM,xE,iH,HB⟩:=hrel
         cases gk with
         |zero=>exact zz HA.out
         |succ k3=>
          obtain⟨H⟩:=HA;simp only[aV.l0]at H;replace H:=sd H;rcases H with⟨VB,H⟩|⟨VB,H⟩
          ·replace H:=oL H;obtain⟨OO,H⟩:=H;replace H:=oL H;obtain⟨OQ,H⟩:=H;replace H:=bd H;obtain⟨⟨aiX,aPf⟩,A29,H⟩:=H
           (try dsimp only at H);replace H:=sb H;rcases H with⟨rfl,H⟩|⟨rfl,H⟩
           ·replace H:=nl H;obtain⟨ac4,H⟩:=H;obtain⟨aIA,atp⟩:=nm (X_++[aiX]);rw[←atp.out]at H;have H':=ak H;clear H;have aeS:=zi lU;have aeT:=zj lU aH.length;obtain⟨ahp,yM,yN,AO,AP,Dw,Dx,awD,RJ,RN,RP,RQ,RS,RU,RV,RX,RY⟩:=uU lC.out lU aeS aeT;cases awD;replace RJ:=cl HB.out RJ;replace RN:=cl HB.out RN;replace RP:=cl HB.out RP;have aa5:=ak RS;have aa6:=ak RQ;clear RS RQ;have aa7:=ak RV;have aa8:=ak RU;clear RV RU;have aa9:=ak RY;have aa_:=ak RX;clear RY RX;replace aeS:=eq_true aeS;replace aeT:=eq_true aeT;go_wp2_with (first|(refine gG 12 ?_;refine bY HB 12 #[.slice none 0 0, .slice none 0 0, .slice none 0 0] 32 ?_;intro sQ w32 Dj aAp hg hb;have xZ:=nl_ iH hg;have UM:=ng_ iH hg;replace jM:=rb jM hb;replace xE:=ak (pz (by(with_reducible repeat(first|apply Kd.dH|apply Kd.dI|apply Kd.eH));exact xE.out) hb);replace iH:=kb iH hb;replace HB:=bz HB hb;clear hb hg;have aAr:=UM.out;have aAs:=xZ.out;have z34:=jO Dj.out)|(refine gV func44 (ih k3 (by have:=Y5.out;have:=alo.out;have:=OT.out;omega) _ _ ((aW aH lU).f0) _ _ ((aW aH lU).f1) _ _ ((aW aH lU).f2) (wrap64 (a1-1)) aiX true _ (aT aa5.out bb) aa6.out (aT aa7.out bb) aa8.out (aT aa9.out bb) aa_.out ?wu A29.out) ?_;(case wu=>first|exact HG.out|exact MaxOk.below HG.out bb|(repeat(first|exact HG.out|apply MaxOk.drewN|apply MaxOk.drew)));rintro aIB w35 ⟨ho0,hb⟩;have ac5:=ak (bQ (lu ho0 (oK (rh jM))) (aA bb));replace jM:=ak (kE (rh jM) (iO ho0) hb);replace xE:=ak (qU (by(with_reducible repeat(first|apply Kd.dH|apply Kd.dI|apply Kd.eH));exact(jA (oV (p:=⟨sQ,2,none⟩) (oV (p:=⟨sQ,1,none⟩) (oV (p:=⟨sQ,0,none⟩) (Oh xE.out Dj.out (by decide)) (fun _ hk=>hk.2) (.slice yM ((aW aH lU).f0).length yN)) (fun _ hk=>hk.2) (.slice AO ((aW aH lU).f1).length AP)) (fun _ hk=>hk.2) (.slice Dw ((aW aH lU).f2).length Dx)) (fun _ h_=>h_.1))) (iO ho0) hb);replace iH:=kp iH #[.slice jD dN.length jE, .slice jW dQ.length jX, .slice (some ahp) aH.length fC] hb;replace Dj:=kp Dj #[.slice yM ((aW aH lU).f0).length yN, .slice AO ((aW aH lU).f1).length AP, .slice Dw ((aW aH lU).f2).length Dx] hb;replace HB:=bz HB hb;clear hb;(try clear ho0);obtain⟨acV,acW,acX⟩:=bW ac5.out;subst acX)|((with_reducible refine bM (b:= .append) (xs:=#[.tmp 84, .tmp 86]) rfl ?_);(try(refine aX (by rfl) ?_;dsimp only));at_builtin;refine FC (Kd.slice 9 Kd.string) (w0:=w) w.heap.size rfl (.tmp 84) (.tmp 86) 74 23 (.slice none 0 0) 24 rfl underlying74 info23 rfl (by decide) (by omega) u10 X_ aiX [.slice acV aiX.length acW] (fun k_=>some k_≠(X9:Value).ownBlock) (fun k_=>some k_=(.slice acV aiX.length acW:Value).ownBlock) rfl rfl ?aP (fun k_ hk_=>((aK (ok':=fun k_=>((fun k_=>some k_≠(X9:Value).ownBlock)) k_∧some k_≠(u10:Value).ownBlock) (qo (ac5.out) (tK xE.out) (by decide)) (fun k_ hk=>⟨hk.1.2,hk.2⟩))).1 k_ hk_.symm) ?aF ?aO ?aB ?aS ?aL ?_;(case aP=>exact X4 (aK (y9 rfl (aK (ok':=fun k_=>((fun k_=>some k_≠(X9:Value).ownBlock)) k_∧some k_≠(u10:Value).ownBlock) (qo (ac5.out) (tK xE.out) (by decide)) (fun k_ hk=>⟨hk.1.2,hk.2⟩))) (fun _ h_=>h_)));(case aB=>exact bb);(case aF=>exact(fun k_ hk=>Kd.fresh' (oK (ur jM.out)) k_ hk));(case aO=>exact(by(with_reducible repeat(first|apply Kd.dH|apply Kd.dI|apply Kd.eH));exact jA xE.out (fun k_ hk=>⟨hk.1,fun e_=>hk.2 e_⟩)));(case aS=>exact(aA bb));(case aL=>have:=ac4.out;omega);intro aPg w36 ho hb hg hat;rw[←atp.out]at ho;have aAt:=ak (ho);replace jM:=ak (zf (ur jM.out) (tK (by(with_reducible repeat(first|apply Kd.dH|apply Kd.dI|apply Kd.eH));exact xE.out)) (by decide) hg);replace iH:=ak (gK (g:=yF) (o:= .cells #[.slice jD dN.length jE, .slice jW dQ.length jX, .slice (some ahp) aH.length fC] 32 (0,0)) (ub iH.out) hg (avX xE.out iH.out (by decide)));replace Dj:=ak (gK (g:=sQ) (o:= .cells #[.slice yM ((aW aH lU).f0).length yN, .slice AO ((aW aH lU).f1).length AP, .slice Dw ((aW aH lU).f2).length Dx] 32 (0,0)) (ub Dj.out) hg (avX xE.out Dj.out (by decide)));replace HB:=ak (hb);clear ho hb hg hat xE ac5))
            go_roundg k3
            case measure=>have:=Y5.out;have:=alo.out;have:=OT.out;omega
            case rel=>exact⟨_,_,rs,H',⟨by have:=Y5.out;have:=alo.out;have:=OT.out;omega⟩,⟨ur (aK jM.out (fun _ hk=>trivial))⟩,⟨by(with_reducible repeat(first|apply Kd.dH|apply Kd.dI|apply Kd.eH));exact aAt.out⟩,⟨ub iH.out⟩,⟨bb⟩⟩
           ·obtain⟨rfl,rfl⟩:=s2 H;have aeS:=zi lU;have aeT:=zj lU aH.length;obtain⟨ahp,yM,yN,AO,AP,Dw,Dx,awD,RJ,RN,RP,RQ,RS,RU,RV,RX,RY⟩:=uU lC.out lU aeS aeT;cases awD;replace RJ:=cl HB.out RJ;replace RN:=cl HB.out RN;replace RP:=cl HB.out RP;have aa5:=ak RS;have aa6:=ak RQ;clear RS RQ;have aa7:=ak RV;have aa8:=ak RU;clear RV RU;have aa9:=ak RY;have aa_:=ak RX;clear RY RX;replace aeS:=eq_true aeS;replace aeT:=eq_true aeT;go_wp2_with (first|(refine gG 12 ?_;refine bY HB 12 #[.slice none 0 0, .slice none 0 0, .slice none 0 0] 32 ?_;intro sQ w38 Dj aAp hg hb;have xZ:=nl_ iH hg;have UM:=ng_ iH hg;replace jM:=rb jM hb;replace xE:=ak (pz (by(with_reducible repeat(first|apply Kd.dH|apply Kd.dI|apply Kd.eH));exact xE.out) hb);replace iH:=kb iH hb;replace HB:=bz HB hb;clear hb hg;have aLv:=UM.out;have aLw:=xZ.out;have z40:=jO Dj.out)|(refine gV func44 (ih k3 (by have:=Y5.out;have:=alo.out;have:=OT.out;omega) _ _ ((aW aH lU).f0) _ _ ((aW aH lU).f1) _ _ ((aW aH lU).f2) (wrap64 (a1-1)) aiX false _ (aT aa5.out bb) aa6.out (aT aa7.out bb) aa8.out (aT aa9.out bb) aa_.out ?wu A29.out) ?_;(case wu=>first|exact HG.out|exact MaxOk.below HG.out bb|(repeat(first|exact HG.out|apply MaxOk.drewN|apply MaxOk.drew)));rintro aIB w41 ⟨ho0,hb⟩;have ac5:=ak (bQ (lu ho0 (oK (rh jM))) (aA bb));replace jM:=ak (kE (rh jM) (iO ho0) hb);replace xE:=ak (qU (by(with_reducible repeat(first|apply Kd.dH|apply Kd.dI|apply Kd.eH));exact(jA (oV (p:=⟨sQ,2,none⟩) (oV (p:=⟨sQ,1,none⟩) (oV (p:=⟨sQ,0,none⟩) (Oh xE.out Dj.out (by decide)) (fun _ hk=>hk.2) (.slice yM ((aW aH lU).f0).length yN)) (fun _ hk=>hk.2) (.slice AO ((aW aH lU).f1).length AP)) (fun _ hk=>hk.2) (.slice Dw ((aW aH lU).f2).length Dx)) (fun _ h_=>h_.1))) (iO ho0) hb);replace iH:=kp iH #[.slice jD dN.length jE, .slice jW dQ.length jX, .slice (some ahp) aH.length fC] hb;replace Dj:=kp Dj #[.slice yM ((aW aH lU).f0).length yN, .slice AO ((aW aH lU).f1).length AP, .slice Dw ((aW aH lU).f2).length Dx] hb;replace HB:=bz HB hb;clear hb;(try clear ho0)))
            go_ret2;exact⟨_,er,nx,bb⟩
          ·replace H:=bd H;obtain⟨⟨alq,aIC⟩,A42,H⟩:=H
           (try dsimp only at H);replace H:=nl H;obtain⟨aAu,H⟩:=H;obtain⟨aPh,atq⟩:=nm (PO++alq);rw[←atq.out]at H;obtain⟨rfl,rfl⟩:=s2 H;obtain⟨apZ,ap0,awE⟩:=qm xE.out;subst awE;go_wp2_with (first|(refine gV func56 (fE.calls k3 _ _ X_ aeQ alq aIC _ (cu ((lT xE.out).2.2)) ((lT xE.out).2.1) A42.out) ?_;rintro aPi w45 ⟨ho0,hb⟩;have ZJ:=ak (bQ (lu ho0 (oK (ur jM.out))) (aA bb));replace jM:=ak (kE (ur jM.out) (iO ho0) hb);replace xE:=ak (qU (by(with_reducible repeat(first|apply Kd.dH|apply Kd.dI|apply Kd.eH));exact xE.out) (iO ho0) hb);replace iH:=kb iH hb;replace HB:=bz HB hb;clear hb;(try clear ho0);obtain⟨OB,OC,awF⟩:=bW ZJ.out;subst awF)|((with_reducible refine bM (b:= .append) (xs:=#[.tmp 95, .tmp 96]) rfl ?_);(try(refine aX (by rfl) ?_;dsimp only));at_builtin;refine nO Kd.string (w0:=w) w.heap.size rfl (.tmp 95) (.tmp 96) 23 9 (.string ⟨#[]⟩) 16 rfl underlying23 info9 rfl (by decide) (by omega) X9 PO alq _ _ _ (fun k_=>some k_≠(.slice OB alq.length OC:Value).ownBlock) (fun _=>False) rfl rfl ?aO ?aR (fun _ _ h=>h) (fun _ h=>h.elim) ?aF ?aB ?aS ?aL ?_;(case aR=>repeat(first|exact(bH ZJ.out).2.2|(with_reducible refine Kd.fP ?_ _)|(with_reducible refine Kd.fQ ?_ _)|(with_reducible refine Kd.iR ?_)));(case aB=>exact bb);(case aF=>exact(fun k_ hk=>Kd.fresh' (oK (ur ZJ.out)) k_ hk));(case aO=>exact(ur (aK jM.out (fun _ hk=>hk.2))));(case aS=>exact(aA bb));(case aL=>have:=aAu.out;omega);intro aPj w46 ho hb hg hat;rw[←atq.out]at ho;have aAv:=ak (ho);replace xE:=ak (W_ (ok:=(fun k_=>some k_≠(.slice OB alq.length OC:Value).ownBlock)) (by(with_reducible repeat(first|apply Kd.dH|apply Kd.dI|apply Kd.eH));exact jA xE.out (fun _ hk=>⟨hk.2,hk.1⟩)) hg hat);replace iH:=ak (gK (g:=yF) (o:= .cells #[.slice jD dN.length jE, .slice jW dQ.length jX, .slice iw aH.length fC] 32 (0,0)) (ub iH.out) hg (BO jM.out iH.out (by decide)));replace ZJ:=ak (Rh (ok:=(fun _=>True)) (ur ZJ.out) hg hat);replace HB:=ak (hb);clear ho hb hg hat jM))
           go_ret2;exact⟨_,er,ur (aK aAv.out (fun _ hk=>trivial)),bb⟩
    ·replace H:=nl H;obtain⟨atr,H⟩:=H;replace H:=ny H;obtain⟨awy,alr,H⟩:=H;replace H:=sp H;rcases H with⟨c49,H⟩|⟨c49,H⟩
     ·have aAw:=beq_iff_eq.mpr c49;have aAx:=bne_eq_false_iff_eq.mpr c49;clear c49;replace H:=bd H;obtain⟨awz,A50,H⟩:=H;obtain⟨rfl,rfl⟩:=s2 H;try go_wp2_with (first|((with_reducible refine bM (b:= .append) (xs:=#[.tmp 28, .tmp 29]) rfl ?_);(try(refine aX (by rfl) ?_;dsimp only));at_builtin;refine iT Kd.string (w0:=w) w.heap.size rfl (.tmp 28) (.tmp 29) 23 9 (.string ⟨#[]⟩) 16 rfl underlying23 info9 rfl (by decide) (by omega) apY aeP (⟨#[]⟩:ByteArray) [.string (⟨#[]⟩:ByteArray)] (fun _=>True) (fun _=>False) rfl rfl ?aP (fun _ hk=>hk.elim) ?aF ?aO ?aB ?aS ?aL ?_;(case aP=>exact rfl);(case aB=>exact bb);(case aF=>exact(fun _ _=>trivial));(case aO=>exact(ur jM.out));(case aS=>exact(aA bb));(case aL=>have:=acM.out;omega);intro X9 w51 ho hb hg hat;rw[←aho.out]at ho;have xC:=ak (ho);replace iH:=ak (gK (g:=yF) (o:= .cells #[.slice jD dN.length jE, .slice jW dQ.length jX, .slice iw aH.length fC] 32 (0,0)) (ub iH.out) hg (BO jM.out iH.out (by decide)));replace HB:=ak (hb);clear ho hb hg hat jM;have z52:=jO iH.out)|(refine gB func51 (jB.calls V9 _ _ dN _ _ dQ _ _ aH aeQ false _ (cu (aT qG.out HB.out)) qR.out (cu (aT vY.out HB.out)) yS.out (cu (aT lC.out HB.out)) oz.out ?wu A11.out) ?_;(case wu=>first|exact HG.out|exact MaxOk.below HG.out bb|(repeat(first|exact HG.out|apply MaxOk.drewN|apply MaxOk.drew)));intro w53 hb;replace xC:=rb xC hb;replace iH:=kb iH hb;replace HB:=bz HB hb;clear hb))
      replace xC:=ak (Ai xC.out);replace iH:=ak (au iH.out);replace HB:=ak (eG HB.out);refine ro [3,11] [0,1,4,2,5,6,7,3,8,9,10,11,12,13,14] (fun w'=>w'.cell? ⟨yF,0,none⟩=some (.slice jD dN.length jE)∧w'.cell? ⟨yF,1,none⟩=some (.slice jW dQ.length jX)∧w'.cell? ⟨yF,2,none⟩=some (.slice iw aH.length fC)) ⟨(aJ iH.out 0).trans rfl,(aJ iH.out 1).trans rfl,(aJ iH.out 2).trans rfl⟩ ?_
      generalize w53.drew=w54 at xC iH HB⊢
      repeat refine lo_ ?_
      refine ld (N:=some 41) (gk.trans rfl) rfl rfl (fun K hK=>?_);refine Gf Kd.string (w0:=w) w.heap.size (by rfl) (.tmp 38) (.tmp 40) 23 9 (.string ⟨#[]⟩) 16 rfl underlying23 info9 rfl (by decide) (by omega) X9 PO dQ _ _ _ (fun _=>True) (fun _=>False) rfl rfl ?aO ?aR (fun _ _ h=>h) (fun _ h=>h.elim) ?aF ?aB ?aS ?aL ?_
      (case aR=>repeat(first|exact(aT vY.out HB.out)|(with_reducible refine Kd.fP ?_ _)|(with_reducible refine Kd.fQ ?_ _)|(with_reducible refine Kd.iR ?_)))
      (case aB=>exact bb)
      (case aF=>exact(fun _ _=>trivial))
      (case aO=>exact(ur xC.out))
      (case aS=>exact(aA bb))
      (case aL=>have:=atr.out;omega);intro aID w55 ho hb hg hat
      rw[←alr.out]at ho;have iE:=ak (gK (g:=yF) (o:= .cells #[.slice jD dN.length jE, .slice jW dQ.length jX, .slice iw aH.length fC] 32 (0,0)) (ub iH.out) hg (BO xC.out iH.out (by decide)));have iF:=ak (hb);have lD:=ak (ho);clear iH HB xC;have iH:=iE;have HB:=iF;have als:=lD;clear iE iF lD ho hb hg hat
      refine hK.out _ _ ⟨(aJ iH.out 0).trans rfl,(aJ iH.out 1).trans rfl,(aJ iH.out 2).trans rfl⟩ ?_;clear hK K;refine no (a':=?_) ?_ ?_
      rotate_left
      ·show Act.put _ (some 41) _=_
       simp only[Act.put,jI,jJ,l_c,bf,bD];rfl
      repeat refine lo_ ?_
      refine rA func55 (uh.calls V9 _ _ dQ 30 awz _ (cu (aT vY.out HB.out)) yS.out A50.out) ?_;intro nd;refine⟨sx,?_⟩;repeat refine lo_ ?_
      refine on ?_;try go_wp2
      go_ret2;exact⟨_,er,ur als.out,bb⟩
     ·have aAw:=beq_eq_false_iff_ne.mpr c49;have aAx:=bne_iff_ne.mpr c49;have aLx:¬(aH=[]):=fun h_=>c49 (by rw[h_];rfl)
      obtain⟨rfl,rfl⟩:=s2 H;try go_wp2_with (first|((with_reducible refine bM (b:= .append) (xs:=#[.tmp 28, .tmp 29]) rfl ?_);(try(refine aX (by rfl) ?_;dsimp only));at_builtin;refine iT Kd.string (w0:=w) w.heap.size rfl (.tmp 28) (.tmp 29) 23 9 (.string ⟨#[]⟩) 16 rfl underlying23 info9 rfl (by decide) (by omega) apY aeP (⟨#[]⟩:ByteArray) [.string (⟨#[]⟩:ByteArray)] (fun _=>True) (fun _=>False) rfl rfl ?aP (fun _ hk=>hk.elim) ?aF ?aO ?aB ?aS ?aL ?_;(case aP=>exact rfl);(case aB=>exact bb);(case aF=>exact(fun _ _=>trivial));(case aO=>exact(ur jM.out));(case aS=>exact(aA bb));(case aL=>have:=acM.out;omega);intro X9 w56 ho hb hg hat;rw[←aho.out]at ho;have xC:=ak (ho);replace iH:=ak (gK (g:=yF) (o:= .cells #[.slice jD dN.length jE, .slice jW dQ.length jX, .slice iw aH.length fC] 32 (0,0)) (ub iH.out) hg (BO jM.out iH.out (by decide)));replace HB:=ak (hb);clear ho hb hg hat jM;have z57:=jO iH.out)|(refine gB func51 (jB.calls V9 _ _ dN _ _ dQ _ _ aH aeQ false _ (cu (aT qG.out HB.out)) qR.out (cu (aT vY.out HB.out)) yS.out (cu (aT lC.out HB.out)) oz.out ?wu A11.out) ?_;(case wu=>first|exact HG.out|exact MaxOk.below HG.out bb|(repeat(first|exact HG.out|apply MaxOk.drewN|apply MaxOk.drew)));intro w58 hb;replace xC:=rb xC hb;replace iH:=kb iH hb;replace HB:=bz HB hb;clear hb))
      replace xC:=ak (Ai xC.out);replace iH:=ak (au iH.out);replace HB:=ak (eG HB.out);refine ro [3] [0,1,4,2,5,6,7,3,8,9,10,11,12,13,14] (fun w'=>w'.cell? ⟨yF,0,none⟩=some (.slice jD dN.length jE)∧w'.cell? ⟨yF,1,none⟩=some (.slice jW dQ.length jX)∧w'.cell? ⟨yF,2,none⟩=some (.slice iw aH.length fC)) ⟨(aJ iH.out 0).trans rfl,(aJ iH.out 1).trans rfl,(aJ iH.out 2).trans rfl⟩ ?_
      generalize w58.drew=w59 at xC iH HB⊢
      repeat(first|refine lo_ ?_|refine lg_ ?_)
      refine ld (N:=some 41) (gk.trans rfl) rfl rfl (fun K hK=>?_);refine Gf Kd.string (w0:=w) w.heap.size (by rfl) (.tmp 38) (.tmp 40) 23 9 (.string ⟨#[]⟩) 16 rfl underlying23 info9 rfl (by decide) (by omega) X9 PO dQ _ _ _ (fun _=>True) (fun _=>False) rfl rfl ?aO ?aR (fun _ _ h=>h) (fun _ h=>h.elim) ?aF ?aB ?aS ?aL ?_
      (case aR=>repeat(first|exact(aT vY.out HB.out)|(with_reducible refine Kd.fP ?_ _)|(with_reducible refine Kd.fQ ?_ _)|(with_reducible refine Kd.iR ?_)))
      (case aB=>exact bb)
      (case aF=>exact(fun _ _=>trivial))
      (case aO=>exact(ur xC.out))
      (case aS=>exact(aA bb))
      (case aL=>have:=atr.out;omega);intro aID w60 ho hb hg hat
      rw[←alr.out]at ho;have iE:=ak (gK (g:=yF) (o:= .cells #[.slice jD dN.length jE, .slice jW dQ.length jX, .slice iw aH.length fC] 32 (0,0)) (ub iH.out) hg (BO xC.out iH.out (by decide)));have iF:=ak (hb);have lD:=ak (ho);clear iH HB xC;have iH:=iE;have HB:=iF;have als:=lD;clear iE iF lD ho hb hg hat
      refine hK.out _ _ ⟨(aJ iH.out 0).trans rfl,(aJ iH.out 1).trans rfl,(aJ iH.out 2).trans rfl⟩ ?_;clear hK K;refine no (a':=?_) ?_ ?_
      rotate_left
      ·show Act.put _ (some 41) _=_
       simp only[Act.put,jI,jJ,l_c,bf,bD];rfl
      repeat(first|refine lo_ ?_|refine lg_ ?_)
      refine on ?_;try go_wp2
      go_ret2;exact⟨_,er,ur als.out,bb⟩
def qA.f(k:Nat)(dN:List (gI))(dQ:List ByteArray)(aH:List (ku)):Option (Bool):=(aV.f k dN dQ aH 3).bind fun alu=>(some alu.2)
set_option maxHeartbeats 8000000 in
set_option maxRecDepth 100000 in
theorem qA.calls(k:Nat)(jD:Option Addr)(jE:Nat)(dN:List (gI))(jW:Option Addr)(jX:Nat)(dQ:List ByteArray)(iw:Option Addr)(fC:Nat)(aH:List (ku))(r:Bool)(w:World)(pF:Kd.C oN w jD dN.length dN)(pG:dN.length≤jE)(pJ:Kd.C Kd.string w jW dQ.length dQ)(pK:dQ.length≤jX)(lZ:Kd.C k32 w iw aH.length aH)(l7:aH.length≤fC)(oP:MaxOk w)(h:qA.f k dN dQ aH=some r):
  Calls Tryz.prog 27 #[.agg #[.slice jD dN.length jE, .slice jW dQ.length jX, .slice iw aH.length fC]] w fun e w'=>e= .returned (.bool r)∧Below w.heap.size w w':=by
 have LU:=underlying32;have qG:=ak pF;have qR:=ak pG;clear pF pG;have vY:=ak pJ;have yS:=ak pK;clear pJ pK;have lC:=ak lZ;have oz:=ak l7;clear lZ l7;have HG:=ak oP;clear oP;have HB:=ak (Below.refl w.heap.size w);have H:((aV.f k dN dQ aH 3).bind fun alu=>(some alu.2))=some r:=h;clear h;replace H:=bd H;obtain⟨⟨aIE,aIF⟩,A2,H⟩:=H
 (try dsimp only at H);obtain rfl:=Option.some.inj H;go_enter func27,ntmps27;go_wp2_with (first|(refine bE 1 #[.slice jD dN.length jE, .slice jW dQ.length jX, .slice iw aH.length fC] 32 ?_;intro aLy hg w3 hbox hb;have alv:=ak (hbox);have aLz:=lq HB hg;have aLA:=lq HB hg;replace HB:=bs HB hb;clear hb hbox hg;obtain⟨aeF,akH,av_,aeG,akI,awc⟩:=jO alv.out)|(refine gL 44 7 func44 #[.agg #[.slice jD dN.length jE, .slice jW dQ.length jX, .slice iw aH.length fC], .int .i64 3] ?_;(with_reducible refine(aV.calls k _ _ dN _ _ dQ _ _ aH 3 aIE aIF _ ?iY ?jK ?mJ ?rX ?rY ?rZ ?wu A2.out).mono ?_);(case iY=>repeat(first|exact(aT qG.out HB.out)|(with_reducible refine Kd.fP ?_ _)|(with_reducible refine Kd.fQ ?_ _)|(with_reducible refine Kd.iR ?_)));(case jK=>exact qR.out);(case mJ=>repeat(first|exact(aT vY.out HB.out)|(with_reducible refine Kd.fP ?_ _)|(with_reducible refine Kd.fQ ?_ _)|(with_reducible refine Kd.iR ?_)));(case rX=>exact yS.out);(case rY=>repeat(first|exact(aT lC.out HB.out)|(with_reducible refine Kd.fP ?_ _)|(with_reducible refine Kd.fQ ?_ _)|(with_reducible refine Kd.iR ?_)));(case rZ=>exact oz.out);(case wu=>first|exact HG.out|exact MaxOk.below HG.out bb|(repeat(first|exact HG.out|apply MaxOk.drewN|apply MaxOk.drew)));rintro e w5 ⟨aPk,rfl,ho0,hb⟩;refine⟨_,rfl,?_⟩;have aLB:=ak (bQ ho0 (aA bb));replace alv:=kb alv hb;replace HB:=ak (aC bb hb);(try clear hb);(try clear ho0)))
 go_ret;exact⟨er,bb⟩
def kP.f(l0:List ByteArray):Option (List ByteArray):=if l0.length<8796093022208 then some l0 else none
set_option maxHeartbeats 8000000 in
set_option maxRecDepth 100000 in
theorem kP.calls(A0:Option Addr)(c0:Nat)(l0:List ByteArray)(r:List ByteArray)(w:World)(hr0:Kd.C Kd.string w A0 l0.length l0)(hc0:l0.length≤c0)(h:kP.f l0=some r):
  Calls Tryz.prog 46 #[.slice A0 l0.length c0] w fun e w'=>∃sZ:Value,e= .returned (sZ)∧Kd.R Kd.string 9 w' w.heap.size (fun _=>True) sZ r∧Below w.heap.size w w':=by
 unfold kP.f at h;split at h
 ·rename_i hlen
  cases h;have q_:∀(w:World) (a:Option Addr) (n c n' c':Nat),(binOp .eql 23 (.slice a n c) (.slice none n' c')).run Tryz.prog w= .ok (.bool a.isNone) w:=fun w a n c n' c'=>Lib.run_eql_slice_nil w _ _ a n c n' c' underlying23
  cases A0 with
  |none=>
   obtain rfl:l0=[]:=by
    cases l0 with
    |nil=>rfl
    |cons x l=>
     obtain⟨_,_,hC⟩:=hr0;obtain⟨ad,h,_⟩:=hC (by simp);cases h
   go_enter func46,ntmps46;go_wp2;go_ret;exact⟨_,rfl,nx,Below.refl _ _⟩
  |some ad=>
   have HR0:=ak hr0;have sK:=ak hc0;have LM:=ak hlen;clear hr0 hc0 hlen;have HB:=ak (Below.refl w.heap.size w);obtain⟨y1,Ny1⟩:=nm ([]:List ByteArray);obtain⟨y2,Ny2⟩:=nm (y1++l0);have hy:y2=l0:=by rw[Ny2.out,Ny1.out,List.nil_append]
   have hn:y1.length=0:=by rw[Ny1.out];rfl
   go_enter func46,ntmps46;go_wp2_with (first|(refine lRN 5 Kd.string 9 Ny1 ?_;intro v3 w7 ho8 hb;have HO1:=ak (bQ ho8 (aA bb));replace HB:=bz HB hb;clear hb ho8)|((with_reducible refine bM (b:= .append) (xs:=#[.tmp 5, .tmp 6]) rfl ?_);at_builtin;refine nO Kd.string (w0:=w) w.heap.size rfl (.tmp 5) (.tmp 6) 23 9 (.string ⟨#[]⟩) 16 rfl underlying23 info9 rfl (by decide) (by omega) v3 y1 l0 _ _ _ (fun _=>True) (fun _=>False) rfl rfl ?hO ?hR (fun _ _ h=>h) (fun _ h=>h.elim) ?hF ?hB ?hS ?hL ?_;(case hR=>repeat(first|exact(aT HR0.out HB.out)|(with_reducible refine Kd.fP ?_ _)|(with_reducible refine Kd.fQ ?_ _)|(with_reducible refine Kd.iR ?_)));(case hB=>exact bb);(case hF=>exact(fun _ _=>trivial));(case hO=>exact(ur HO1.out));(case hS=>exact(aA bb));(case hL=>have:=LM.out;omega);intro v6 w12 ho hb hg hat;rw[←Ny2.out,hy]at ho;have HO2:=ak (ho);replace HB:=ak (hb);clear ho hb hg hat HO1))
   go_ret;exact⟨_,rfl,HO2.out,bb⟩
 ·cases h
def je.l0:Nat→List (gI)→List ByteArray→Int→Option (List ByteArray×Bool)
 |0,_,_,_=>none
 |k+1,x0,x4,x5=>if x5<(x0.length:Int)then(if 0≤x5 then((fU.f k ((aG x0 x5).f0) ((aG x0 x5).f1)).bind fun aen=>(if x4.length+aen.length<8796093022208 then(je.l0 k x0 (x4++aen) (wrap64 (x5+1)))else(none)))else(none))else(some (x4,true))
def je.f(k:Nat)(l0:List (gI)):Option (List ByteArray×Bool):=(some (([]:List ByteArray):List ByteArray)).bind fun aeo=>((gJ.f k l0).bind fun aoW=>(if aoW=true then(je.l0 k l0 aeo 0)else(some (aeo,false))))
set_option maxHeartbeats 8000000 in
set_option maxRecDepth 100000 in
theorem je.calls(k:Nat)(A0:Option Addr)(c0:Nat)(l0:List (gI))(r1:List ByteArray)(r2:Bool)(w:World)(hr0:Kd.C oN w A0 l0.length l0)(hc0:l0.length≤c0)(h:je.f k l0=some (r1,r2)):
  Calls Tryz.prog 108 #[.slice A0 l0.length c0] w fun e w'=>∃sZ:Value,e= .returned (.tuple #[sZ, .bool r2])∧Kd.R Kd.string 9 w' w.heap.size (fun _=>True) sZ r1∧Below w.heap.size w w':=by
 have Jo:=underlying63;have HR0:=ak hr0;have sK:=ak hc0;clear hr0 hc0;have HB:=ak (Below.refl w.heap.size w);have H:((some (([]:List ByteArray):List ByteArray)).bind fun aeo=>((gJ.f k l0).bind fun aoW=>(if aoW=true then(je.l0 k l0 aeo 0)else(some (aeo,false)))))=some (r1,r2):=h;clear h;obtain⟨aeo,acL⟩:=nm ([]:List ByteArray);rw[←acL.out]at H
 (try rw[Option.bind_some]at H);replace H:=bd H;obtain⟨aoW,A2,H⟩:=H;replace H:=sb H;rcases H with⟨rfl,H⟩|⟨rfl,H⟩
 ·have H':=ak H;clear H;go_enter func108,ntmps108;go_wp2_with (first|((with_reducible refine bG (N:=6) rfl ?_);refine nD Kd.string _ 9 ?hg (N:=6) ?hd (xs:=([]:List ByteArray)) (inner:=[]) (ok:=fun _=>True) (oO:=fun _=>True) ?hr ?hp (fun _ hk=>hk) trivial (Below.refl _ _) (Nat.le_refl _) (by simp) ?_;(case hd=>rfl);(case hg=>rfl);(case hr=>first|(go_simp;done)|(go_simp;rfl));(case hp=>exact(iW.none _ _));intro aHL w4 XR hb oP gY;clear oP gY;(first|rw[←acL.out]at XR|(simp only[Int.reduceToNat]at XR;rw[←acL.out]at XR));have XT:=ak (bQ XR (aA (ul HB.out)));replace HB:=bs HB hb;clear hb XR)|(refine gL 68 8 func68 #[.slice A0 l0.length c0] ?_;(with_reducible refine(gJ.calls k _ _ l0 true _ (cu (aT HR0.out HB.out)) sK.out A2.out).mono ?_);rintro e w6 ⟨rfl,hb⟩;refine⟨_,rfl,?_⟩;replace XT:=rb XT hb;replace HB:=bs HB hb;(try clear hb)))
  go_loopg [4,5] k (fun kq v4 v5 w'=>∃(fG:List ByteArray) (aQ:Int),v5= .int .i64 aQ∧ay (je.l0 kq l0 fG aQ=some (r1,r2))∧ay (kq≤k)∧ay (Kd.R Kd.string 9 w' w.heap.size (fun _=>True) v4 fG)∧ay (Below w.heap.size w w'))
  case atStart=>exact⟨(aeo),(0),rs,H',⟨Nat.le_refl _⟩,⟨ur XT.out⟩,⟨ul HB.out⟩⟩
  case round=>
   clear H';try clear c1
   try clear p2
   try clear c3
   try clear c6
   obtain⟨fG,aQ,rfl,HA,iM,gy,HB⟩:=hrel
   cases gk with
   |zero=>exact absurd HA.out (by simp[je.l0])
   |succ k1=>
    have H:=HA.out;clear HA;simp only[je.l0]at H;replace H:=sd H;rcases H with⟨qp,H⟩|⟨qp,H⟩
    ·replace H:=oL H;obtain⟨rV,H⟩:=H;replace H:=bd H;obtain⟨aen,A9,H⟩:=H;replace H:=nl H;obtain⟨acM,H⟩:=H;obtain⟨aHM,asP⟩:=nm (fG++aen);rw[←asP.out]at H
     (try rw[Option.bind_some]at H);have H':=ak H;clear H;have avG:=zi aQ;have avH:=zj aQ l0.length;obtain⟨aK8,aHN,agE,agF⟩:=oC HR0.out aQ avG avH;cases aHN;replace agE:=cl HB.out agE;replace agF:=cl HB.out agF;replace avG:=eq_true avG;replace avH:=eq_true avH;go_wp2_with (first|(refine gL 135 22 func135 #[.agg #[.string ((aG l0 aQ).f0), .string ((aG l0 aQ).f1)]] ?_;(with_reducible refine(fU.calls k1 ((aG l0 aQ).f0) ((aG l0 aQ).f1) aen _ A9.out).mono ?_);rintro e Uy ⟨aN6,rfl,ho0,hb⟩;refine⟨_,rfl,?_⟩;have ZC:=ak (bQ (lu ho0 (oK (ur gy.out))) (aA (ul HB.out)));replace gy:=ak (kE (ur gy.out) (iO ho0) hb);replace HB:=bs HB hb;(try clear hb);(try clear ho0);obtain⟨uf,qh,Pg⟩:=bW ZC.out;subst Pg)|((with_reducible refine bM (b:= .append) (xs:=#[.tmp 17, .tmp 22]) rfl ?_);at_builtin;refine nO Kd.string (w0:=w) w.heap.size rfl (.tmp 17) (.tmp 22) 23 9 (.string ⟨#[]⟩) 16 rfl underlying23 info9 rfl (by decide) (by omega) u4 fG aen _ _ _ (fun k_=>some k_≠(.slice uf aen.length qh:Value).ownBlock) (fun _=>False) rfl rfl ?aO ?aR (fun _ _ h=>h) (fun _ h=>h.elim) ?aF ?aB ?aS ?aL ?_;(case aR=>repeat(first|exact(bH ZC.out).2.2|(with_reducible refine Kd.fP ?_ _)|(with_reducible refine Kd.fQ ?_ _)|(with_reducible refine Kd.iR ?_)));(case aB=>exact(ul HB.out));(case aF=>exact(fun k_ hk=>Kd.fresh' (oK (ur ZC.out)) k_ hk));(case aO=>exact(ur (aK gy.out (fun _ hk=>hk.2))));(case aS=>exact(aA (ul HB.out)));(case aL=>have:=acM.out;omega);intro aN7 w12 ho hb hg hat;rw[←asP.out]at ho;have iE:=ak (Rh (ok:=(fun _=>True)) (ur ZC.out) hg hat);have iF:=ak (hb);have lD:=ak (ho);clear ZC;clear HB;clear gy;have ZC:=iE;have HB:=iF;have azc:=lD;clear iE iF lD;clear ho hb hg hat))
     go_roundg k1
     case measure=>have:=iM.out;omega
     case rel=>exact⟨(aHM),(wrap64 (aQ+1)),rs,H',⟨by have:=iM.out;omega⟩,⟨ur (aK azc.out (fun _ hk=>trivial))⟩,⟨ul HB.out⟩⟩
    ·simp only[Option.some.injEq,Prod.mk.injEq]at H;obtain⟨rfl,rfl⟩:=H;go_wp2;go_ret2;exact⟨_,er,ur gy.out,ul HB.out⟩
 ·simp only[Option.some.injEq,Prod.mk.injEq]at H;obtain⟨rfl,rfl⟩:=H;go_enter func108,ntmps108;go_wp2_with (first|((with_reducible refine bG (N:=6) rfl ?_);refine nD Kd.string _ 9 ?hg (N:=6) ?hd (xs:=([]:List ByteArray)) (inner:=[]) (ok:=fun _=>True) (oO:=fun _=>True) ?hr ?hp (fun _ hk=>hk) trivial (Below.refl _ _) (Nat.le_refl _) (by simp) ?_;(case hd=>rfl);(case hg=>rfl);(case hr=>first|(go_simp;done)|(go_simp;rfl));(case hp=>exact(iW.none _ _));intro aHL Us LV hb oP gY;clear oP gY;(first|rw[←acL.out]at LV|(simp only[Int.reduceToNat]at LV;rw[←acL.out]at LV));have XT:=ak (bQ LV (aA (ul HB.out)));replace HB:=bs HB hb;clear hb LV)|(refine gL 68 8 func68 #[.slice A0 l0.length c0] ?_;(with_reducible refine(gJ.calls k _ _ l0 false _ (cu (aT HR0.out HB.out)) sK.out A2.out).mono ?_);rintro e w16 ⟨rfl,hb⟩;refine⟨_,rfl,?_⟩;replace XT:=rb XT hb;replace HB:=bs HB hb;(try clear hb)))
  go_ret2;exact⟨_,er,ur XT.out,ul HB.out⟩
def qj.f(a0:ByteArray)(a1:ByteArray):Option (Bool):=if 2+a1.size≤9223372036854775807 then(if a0.toList=((⟨#[45,45]⟩:ByteArray)++a1).toList then(some true)else(if((⟨#[45,45]⟩:ByteArray)++a1).size+2≤9223372036854775807 then(some (a0.toList==(((⟨#[45,45]⟩:ByteArray)++a1)++(⟨#[45,45]⟩:ByteArray)).toList))else(none)))else(none)
set_option maxHeartbeats 8000000 in
set_option maxRecDepth 100000 in
theorem qj.calls(a0:ByteArray)(a1:ByteArray)(r:Bool)(w:World)(h:qj.f a0 a1=some r):
  Calls Tryz.prog 71 #[.string a0, .string a1] w fun e w'=>e= .returned (.bool r)∧fZ w w':=by
 have H:(if 2+a1.size≤9223372036854775807 then(if a0.toList=((⟨#[45,45]⟩:ByteArray)++a1).toList then(some true)else(if((⟨#[45,45]⟩:ByteArray)++a1).size+2≤9223372036854775807 then(some (a0.toList==(((⟨#[45,45]⟩:ByteArray)++a1)++(⟨#[45,45]⟩:ByteArray)).toList))else(none)))else(none))=some r:=h;clear h;replace H:=nn H;obtain⟨c3,H⟩:=H;have iK:=eq_true c3;have xW:=decide_eq_true c3;try have VX:(9223372036854775807<2+a1.size)=False:=eq_false (Nat.not_lt.2 c3)
 replace H:=sq H;rcases H with⟨oG,VY,H⟩|⟨c4,oG,VY,H⟩
 ·obtain rfl:=Option.some.inj H;go_enter func71,ntmps71;go_wp2;go_ret;exact⟨rs,dn⟩
 ·replace H:=nn H;obtain⟨c5,H⟩:=H;have o_:=eq_true c5;have Y_:=decide_eq_true c5;try have aN8:(9223372036854775807<2+a1.size+2)=False:=by have h_:=(eq_false (Nat.not_lt.2 c5):(9223372036854775807<((⟨#[45,45]⟩:ByteArray)++a1).size+2)=False);simp only[ByteArray.size_append]at h_;exact h_
  try have aN9:(9223372036854775807<((⟨#[45,45]⟩:ByteArray)++a1).size+2)=False:=eq_false (Nat.not_lt.2 c5)
  obtain rfl:=Option.some.inj H;go_enter func71,ntmps71;go_wp2;go_ret;exact⟨rs,dn⟩
mutual
def dL.j0:Nat→List (List ByteArray)→ByteArray→List ByteArray→Bool→Option (List ByteArray×Bool)
 |0,_,_,_,_=>none
 |k+1,x0,x1,x6,x17=>if x17=true then(some (x6,false))else(dL.l0 k x0 x1 x6 0)
def dL.l0:Nat→List (List ByteArray)→ByteArray→List ByteArray→Int→Option (List ByteArray×Bool)
 |0,_,_,_,_=>none
 |k+1,x0,x1,x6,x7=>if x7<(x0.length:Int)then(if 2+x1.size≤9223372036854775807 then(if x6.length<8796093022208 then(dL.l1 k x0 x1 (x6++[(⟨#[45,45]⟩:ByteArray)++x1]) x7 0)else(none))else(none))else(if 2+x1.size≤9223372036854775807 then(if((⟨#[45,45]⟩:ByteArray)++x1).size+2≤9223372036854775807 then(if x6.length<8796093022208 then(some ((x6++[((⟨#[45,45]⟩:ByteArray)++x1)++(⟨#[45,45]⟩:ByteArray)]),true))else(none))else(none))else(none))
def dL.l1:Nat→List (List ByteArray)→ByteArray→List ByteArray→Int→Int→Option (List ByteArray×Bool)
 |0,_,_,_,_,_=>none
 |k+1,x0,x1,x6,x7,x8=>if 0≤x7 then(if x7<(x0.length:Int)then(if x8<((kM x0 x7).length:Int)then(if 0≤x8 then((qj.f (f_ ByteArray.empty (kM x0 x7) x8) x1).bind fun azd=>(if azd=true then(some ((([]:List ByteArray)),false))else(if x6.length<8796093022208 then(dL.l1 k x0 x1 (x6++[f_ ByteArray.empty (kM x0 x7) x8]) x7 (wrap64 (x8+1)))else(none))))else(none))else(dL.l0 k x0 x1 x6 (wrap64 (x7+1))))else(none))else(none)
end
def dL.f(k:Nat)(l0:List (List ByteArray))(a1:ByteArray):Option (List ByteArray×Bool):=(some (([]:List ByteArray):List ByteArray)).bind fun aaL=>((dB.f k a1).bind fun aoX=>(if aoX=true then(dL.j0 k l0 a1 aaL ((l0.length:Int)==0))else(dL.j0 k l0 a1 aaL true)))
theorem dL.calls(k:Nat)(A0:Option Addr)(c0:Nat)(l0:List (List ByteArray))(a1:ByteArray)(r1:List ByteArray)(r2:Bool)(w:World)(hr0:Kd.C (Kd.slice 9 Kd.string) w A0 l0.length l0)(hc0:l0.length≤c0)(h:dL.f k l0 a1=some (r1,r2)):
  Calls Tryz.prog 109 #[.slice A0 l0.length c0, .string a1] w fun e w'=>∃sZ:Value,e= .returned (.tuple #[sZ, .bool r2])∧Kd.R Kd.string 9 w' w.heap.size (fun _=>True) sZ r1∧Below w.heap.size w w':=by
 have HR0:=ak hr0;have sK:=ak hc0;clear hr0 hc0;have HB:=ak (Below.refl w.heap.size w);have H:((some (([]:List ByteArray):List ByteArray)).bind fun aaL=>((dB.f k a1).bind fun aoX=>(if aoX=true then(dL.j0 k l0 a1 aaL ((l0.length:Int)==0))else(dL.j0 k l0 a1 aaL true))))=some (r1,r2):=h;clear h;replace H:=ny H;obtain⟨aaL,akp,H⟩:=H;have HC3:=ak H;clear H;go_enter func109,ntmps109;go_upto_region 2 with(refine gG 9 ?_;refine lRN 9 Kd.string 9 akp ?_;intro aHO w4 XR hb;have asQ:=ak (bQ XR (aA (ul HB.out)));replace HB:=bs HB hb;clear hb XR)
 (try simp only[Act.put,jI,jJ,l_c]);go_cut [17] (fun v17 wc=>∃(kq:Nat) (XU:Bool),v17= .bool XU∧ay (dL.j0 kq l0 a1 aaL XU=some (r1,r2))∧ay (kq≤k)∧ay (Kd.R Kd.string 9 wc w.heap.size (fun _=>True) aHO aaL)∧ay (Below w.heap.size w wc))
 case first=>
  have H:=HC3.out;clear HC3;replace H:=bd H;obtain⟨aoX,A6,H⟩:=H;replace H:=sb H;rcases H with⟨rfl,H⟩|⟨rfl,H⟩
  ·have H':=ak H;clear H;go_wp2_with (refine gA func119 (dB.calls k a1 true _ A6.out) ?_;intro nd)
   go_meet
   case rel=>exact⟨_,_,rs,H',⟨XV⟩,⟨ur asQ.out⟩,⟨ul HB.out⟩⟩
  ·have H':=ak H;clear H;go_wp2_with (refine gA func119 (dB.calls k a1 false _ A6.out) ?_;intro nd)
   go_meet
   case rel=>exact⟨_,_,rs,H',⟨XV⟩,⟨ur asQ.out⟩,⟨ul HB.out⟩⟩
 case rest=>
  clear HC3;obtain⟨kq,XU,rfl,HA,HJ2,jM,HB⟩:=hcut
  cases kq with
  |zero=>exact zz HA.out
  |succ kj2=>
   obtain⟨H⟩:=HA;simp only[dL.j0]at H;replace H:=sb H;rcases H with⟨rfl,H⟩|⟨rfl,H⟩
   ·obtain⟨rfl,rfl⟩:=s2 H;go_wp2;go_ret2;exact⟨_,er,ur jM.out,ul HB.out⟩
   ·have H':=ak H;clear H;go_wp2;go_loopg [6,7] kj2 (fun kq v6 v7 w'=>∃(ql:List ByteArray) (yL:Int),v7= .int .i64 yL∧ay (dL.l0 kq l0 a1 ql yL=some (r1,r2))∧ay (kq≤kj2)∧ay (Kd.R Kd.string 9 w' w.heap.size (fun _=>True) v6 ql)∧ay (Below w.heap.size w w'))
    case atStart=>exact⟨_,_,rs,H',⟨Nat.le_refl _⟩,⟨ur jM.out⟩,⟨ul HB.out⟩⟩
    case round=>
     clear H';obtain⟨ql,yL,rfl,HA,yR,jM,HB⟩:=hrel
     cases gk with
     |zero=>exact zz HA.out
     |succ k2=>
      obtain⟨H⟩:=HA;simp only[dL.l0]at H;replace H:=sd H;rcases H with⟨vI,H⟩|⟨vI,H⟩
      ·replace H:=nn H;obtain⟨c10,H⟩:=H;have rW:=eq_true c10;have xk:=decide_eq_true c10;try have agG:(9223372036854775807<2+a1.size)=False:=eq_false (Nat.not_lt.2 c10)
       replace H:=nl H;obtain⟨akq,H⟩:=H;obtain⟨aHP,asR⟩:=nm (ql++[(⟨#[45,45]⟩:ByteArray)++a1]);rw[←asR.out]at H;have H':=ak H;clear H;go_wp2_with ((with_reducible refine bM (b:= .append) (xs:=#[.tmp 25, .tmp 28]) rfl ?_);(try(refine aX (by rfl) ?_;dsimp only));at_builtin;refine aP 25 28 Kd.string 23 9 (.string ⟨#[]⟩) 16 underlying23 info9 HB (ur jM.out) asR (by have:=akq.out;omega) ?_;intro aN_ w12 ho hb hg hat;have aze:=ak (ho);replace HB:=ak (hb);clear ho hb hg hat jM)
       go_loopg [6,8] k2 (fun kq v6 v8 w'=>∃(Cj:List ByteArray) (Ju:Int),v8= .int .i64 Ju∧ay (dL.l1 kq l0 a1 Cj yL Ju=some (r1,r2))∧ay (kq≤k2)∧ay (Kd.R Kd.string 9 w' w.heap.size (fun _=>True) v6 Cj)∧ay (Below w.heap.size w w'))
       case atStart=>exact⟨_,_,rs,H',⟨Nat.le_refl _⟩,⟨ur aze.out⟩,⟨ul HB.out⟩⟩
       case round=>
        clear H';try clear vI
        try clear c10
        try clear rW
        try clear xk
        try clear agG
        obtain⟨Cj,Ju,rfl,HA,OT,jM,HB⟩:=hrel
        cases gk with
        |zero=>exact zz HA.out
        |succ k3=>
         obtain⟨H⟩:=HA;simp only[dL.l1]at H;replace H:=oL H;obtain⟨vJ,H⟩:=H;replace H:=oL H;obtain⟨tH,H⟩:=H;replace H:=sd H;rcases H with⟨uy,H⟩|⟨uy,H⟩
         ·replace H:=oL H;obtain⟨L6,H⟩:=H;replace H:=bd H;obtain⟨azd,A17,H⟩:=H;replace H:=sb H;rcases H with⟨rfl,H⟩|⟨rfl,H⟩
          ·obtain⟨aOa,akr⟩:=nm ([]:List ByteArray);rw[←akr.out]at H;obtain⟨rfl,rfl⟩:=s2 H;have XW:=zi yL;have XY:=zj yL l0.length;obtain⟨acN,aks,akt,e309,Au,Ii,Ij⟩:=FB HR0.out yL XW XY;cases e309;replace Au:=cl HB.out Au;have agH:=ak Ij;have agI:=ak Ii;clear Ij Ii;replace XW:=eq_true XW;replace XY:=eq_true XY;have aep:=zi yL;have aer:=zj yL l0.length;obtain⟨aku,avI,avJ,e310,J3,Ri,Rj⟩:=FB HR0.out yL aep aer;obtain rfl:acN=aku:=(by injection e310)
           replace J3:=cl HB.out J3;have aaM:=ak Rj;have aoY:=ak Ri;clear Rj Ri;replace aep:=eq_true aep;replace aer:=eq_true aer;have LP:=Option.some.inj (Au.symm.trans J3);injection LP with LP en_ ec_;subst LP;subst ec_;clear en_;have aes:=zi Ju;have aeu:=zj Ju ((kM l0 yL).length);obtain⟨azf,e311,Rk⟩:=dY aaM.out Ju aes aeu;cases e311;replace Rk:=cl HB.out Rk;replace aes:=eq_true aes;replace aeu:=eq_true aeu;go_wp2_with (first|(refine gA func71 (qj.calls (f_ ByteArray.empty (kM l0 yL) Ju) a1 true _ A17.out) ?_;intro nd)|(refine gG 48 ?_;refine lRN 48 Kd.string 9 akr ?_;intro aOb w19 UD hb;have azg:=ak (bQ (lu UD (oK (ur jM.out))) (aA (ul HB.out)));replace jM:=ak (kE (ur jM.out) (iO UD) hb);replace HB:=bs HB hb;clear hb UD))
           go_ret2;exact⟨_,er,ur (aK azg.out (fun _ hk=>trivial)),ul HB.out⟩
          ·replace H:=nl H;obtain⟨acO,H⟩:=H;obtain⟨aHQ,asT⟩:=nm (Cj++[f_ ByteArray.empty (kM l0 yL) Ju]);rw[←asT.out]at H;have H':=ak H;clear H;have XW:=zi yL;have XY:=zj yL l0.length;obtain⟨acN,aks,akt,e309,Au,Ii,Ij⟩:=FB HR0.out yL XW XY;cases e309;replace Au:=cl HB.out Au;have agH:=ak Ij;have agI:=ak Ii;clear Ij Ii;replace XW:=eq_true XW;replace XY:=eq_true XY;have aep:=zi yL;have aer:=zj yL l0.length;obtain⟨aku,avI,avJ,e310,J3,Ri,Rj⟩:=FB HR0.out yL aep aer;obtain rfl:acN=aku:=(by injection e310)
           replace J3:=cl HB.out J3;have aaM:=ak Rj;have aoY:=ak Ri;clear Rj Ri;replace aep:=eq_true aep;replace aer:=eq_true aer;have LP:=Option.some.inj (Au.symm.trans J3);injection LP with LP en_ ec_;subst LP;subst ec_;clear en_;have aes:=zi Ju;have aeu:=zj Ju ((kM l0 yL).length);obtain⟨azf,e311,Rk⟩:=dY aaM.out Ju aes aeu;cases e311;replace Rk:=cl HB.out Rk;replace aes:=eq_true aes;replace aeu:=eq_true aeu;go_wp2_with (first|(refine gA func71 (qj.calls (f_ ByteArray.empty (kM l0 yL) Ju) a1 false _ A17.out) ?_;intro nd;have avK:0≤(yL:Int):=of_decide_eq_true (by assumption);have avL:yL<(l0.length:Int):=of_decide_eq_true (by assumption);obtain⟨azh,aHR,aHS,e316,W9,agJ,agK⟩:=FB HR0.out yL avK avL;obtain rfl:acN=azh:=(by injection e316);replace W9:=(HB.out.cell (World.block_lt_of_cell? w _ W9)).trans W9;have aoZ:=ak agK;have aEo:=ak agJ;clear agK agJ;replace avK:=eq_true avK;replace avL:=eq_true avL;have LP:=Option.some.inj (Au.symm.trans W9);injection LP with LP en_ ec_;subst LP;subst ec_;clear en_;have avM:0≤(Ju:Int):=of_decide_eq_true (by assumption);have avN:Ju<((kM l0 yL).length:Int):=of_decide_eq_true (by assumption);obtain⟨aK9,e317,aaN⟩:=dY aoZ.out Ju avM avN;cases e317;replace aaN:=(HB.out.cell (World.block_lt_of_cell? w _ aaN)).trans aaN;replace avM:=eq_true avM;replace avN:=eq_true avN)|((with_reducible refine bM (b:= .append) (xs:=#[.tmp 49, .tmp 57]) rfl ?_);(try(refine aX (by rfl) ?_;dsimp only));at_builtin;refine aP 49 57 Kd.string 23 9 (.string ⟨#[]⟩) 16 underlying23 info9 HB (ur jM.out) asT (by have:=acO.out;omega) ?_;intro aOc w22 ho hb hg hat;have azi:=ak (ho);replace HB:=ak (hb);clear ho hb hg hat jM))
           go_roundg k3
           case measure=>exact kl
           case rel=>exact⟨_,_,rs,H',⟨kl⟩,⟨ur azi.out⟩,⟨ul HB.out⟩⟩
         ·have H':=ak H;clear H;have XW:=zi yL;have XY:=zj yL l0.length;obtain⟨acN,aks,akt,e309,Au,Ii,Ij⟩:=FB HR0.out yL XW XY;cases e309;replace Au:=cl HB.out Au;have agH:=ak Ij;have agI:=ak Ii;clear Ij Ii;replace XW:=eq_true XW;replace XY:=eq_true XY;go_wp2;go_roundg k3
          case measure=>exact kl
          case rel=>exact⟨_,_,rs,H',⟨kl⟩,⟨ur jM.out⟩,⟨ul HB.out⟩⟩
      ·replace H:=nn H;obtain⟨c23,H⟩:=H;have L8:=eq_true c23;have agw:=decide_eq_true c23;try have aK_:(9223372036854775807<2+a1.size)=False:=eq_false (Nat.not_lt.2 c23)
       replace H:=nn H;obtain⟨c24,H⟩:=H;have QB:=eq_true c24;have agx:=decide_eq_true c24;try have azj:(9223372036854775807<2+a1.size+2)=False:=by have h_:=(eq_false (Nat.not_lt.2 c24):(9223372036854775807<((⟨#[45,45]⟩:ByteArray)++a1).size+2)=False);simp only[ByteArray.size_append]at h_;exact h_
       try have asU:(9223372036854775807<((⟨#[45,45]⟩:ByteArray)++a1).size+2)=False:=eq_false (Nat.not_lt.2 c24)
       replace H:=nl H;obtain⟨acP,H⟩:=H;obtain⟨aOd,asV⟩:=nm (ql++[((⟨#[45,45]⟩:ByteArray)++a1)++(⟨#[45,45]⟩:ByteArray)]);rw[←asV.out]at H;obtain⟨rfl,rfl⟩:=s2 H;go_wp2_with ((with_reducible refine bM (b:= .append) (xs:=#[.tmp 59, .tmp 63]) rfl ?_);(try(refine aX (by rfl) ?_;dsimp only));at_builtin;refine aP 59 63 Kd.string 23 9 (.string ⟨#[]⟩) 16 underlying23 info9 HB (ur jM.out) asV (by have:=acP.out;omega) ?_;intro aOe w26 ho hb hg hat;have azk:=ak (ho);replace HB:=ak (hb);clear ho hb hg hat jM)
       go_ret2;exact⟨_,er,ur azk.out,ul HB.out⟩
mutual
def jH.l0:Nat→List ByteArray→ByteArray→List (List ByteArray)→Int→List (gI)→List ByteArray→List (ku)→Option (List ByteArray)
 |0,_,_,_,_,_,_,_=>none
 |k+1,x3,x5,x7,x8,ao0,ao1,Rl=>if x8<(Rl.length:Int)then(if 0≤x8 then((jH.f k ((aW Rl x8).f0) ((aW Rl x8).f1) ((aW Rl x8).f2)).bind fun aev=>(if x7.length<5864062014805 then(jH.l0 k x3 x5 (x7++[aev]) (wrap64 (x8+1)) ao0 ao1 Rl)else(none)))else(none))else((dL.f k x7 x5).bind fun asW=>(if x3.length+asW.1.length<8796093022208 then(some (x3++asW.1))else(none)))
def jH.f:Nat→List (gI)→List ByteArray→List (ku)→Option (List ByteArray)
 |0,_,_,_=>none
 |k+1,dN,dQ,aH=>(je.f k dN).bind fun Mc=>(if Mc.1.length<8796093022208 then((some (Mc.1++[(⟨#[]⟩:ByteArray)]:List ByteArray)).bind fun Rn=>((jS.f k dN).bind fun acQ=>(if acQ.2=true then(jH.l0 k Rn acQ.1 (([]:List (List ByteArray))) 0 dN dQ aH)else(if Rn.length+dQ.length<8796093022208 then(some (Rn++dQ))else(none)))))else(none))
end
theorem jH.calls(k:Nat):∀(jD:Option Addr) (jE:Nat) (dN:List (gI)) (jW:Option Addr) (jX:Nat) (dQ:List ByteArray) (iw:Option Addr) (fC:Nat) (aH:List (ku)) (r:List ByteArray) (w:World) (pF:Kd.C oN w jD dN.length dN) (pG:dN.length≤jE) (pJ:Kd.C Kd.string w jW dQ.length dQ) (pK:dQ.length≤jX) (lZ:Kd.C k32 w iw aH.length aH) (l7:aH.length≤fC) (h:jH.f k dN dQ aH=some r),
  Calls Tryz.prog 70 #[.agg #[.slice jD dN.length jE, .slice jW dQ.length jX, .slice iw aH.length fC]] w fun e w'=>∃sZ:Value,e= .returned (sZ)∧Kd.R Kd.string 9 w' w.heap.size (fun _=>True) sZ r∧Below w.heap.size w w':=by
 induction k using Nat.strongRecOn with
 |_ k ih=>
 intro jD jE dN jW jX dQ iw fC aH r w pF pG pJ pK lZ l7 h
 cases k with
 |zero=>exact absurd h (by simp[jH.f])
 |succ k=>
 simp only[jH.f]at h;have LU:=underlying32;have qG:=ak pF;have qR:=ak pG;clear pF pG;have vY:=ak pJ;have yS:=ak pK;clear pJ pK;have lC:=ak lZ;have oz:=ak l7;clear lZ l7;have HB:=ak (Below.refl w.heap.size w);have H:((je.f k dN).bind fun Mc=>(if Mc.1.length<8796093022208 then((some (Mc.1++[(⟨#[]⟩:ByteArray)]:List ByteArray)).bind fun Rn=>((jS.f k dN).bind fun acQ=>(if acQ.2=true then(jH.l0 k Rn acQ.1 (([]:List (List ByteArray))) 0 dN dQ aH)else(if Rn.length+dQ.length<8796093022208 then(some (Rn++dQ))else(none)))))else(none)))=some r:=h;clear h;replace H:=bd H;obtain⟨⟨akv,azl⟩,A2,H⟩:=H
 (try dsimp only at H);replace H:=nl H;obtain⟨aos,H⟩:=H;replace H:=ny H;obtain⟨Rn,akw,H⟩:=H;replace H:=bd H;obtain⟨⟨akx,aOf⟩,A4,H⟩:=H
 (try dsimp only at H);replace H:=sb H;rcases H with⟨rfl,H⟩|⟨rfl,H⟩
 ·obtain⟨aHT,aky⟩:=nm ([]:List (List ByteArray));rw[←aky.out]at H;have H':=ak H;clear H;go_enter func70,ntmps70;go_wp2_with (first|(refine bX HB 1 #[.slice jD dN.length jE, .slice jW dQ.length jX, .slice iw aH.length fC] 32 ?_;intro XZ w6 m_ azm hb;replace HB:=bs HB hb;clear hb;have z7:=jO m_.out)|(refine gV func108 (je.calls k _ _ dN akv azl _ (cu (aT qG.out HB.out)) qR.out A2.out) ?_;rintro avO w8 ⟨ho0,hb⟩;have X3:=ak (bQ ho0 (aA bb));replace m_:=kb m_ hb;replace HB:=bz HB hb;clear hb;(try clear ho0))|((with_reducible refine bM (b:= .append) (xs:=#[.tmp 17, .tmp 18]) rfl ?_);at_builtin;refine iT Kd.string (w0:=w) w.heap.size rfl (.tmp 17) (.tmp 18) 23 9 (.string ⟨#[]⟩) 16 rfl underlying23 info9 rfl (by decide) (by omega) avO akv (⟨#[]⟩:ByteArray) [.string (⟨#[]⟩:ByteArray)] (fun _=>True) (fun _=>False) rfl rfl ?aP (fun _ hk=>hk.elim) ?aF ?aO ?aB ?aS ?aL ?_;(case aP=>exact rfl);(case aB=>exact bb);(case aF=>exact(fun _ _=>trivial));(case aO=>exact(ur X3.out));(case aS=>exact(aA bb));(case aL=>have:=aos.out;omega);intro acR w9 ho hb hg hat;rw[←akw.out]at ho;have KP:=ak (ho);replace m_:=ak (gK (g:=XZ) (o:= .cells #[.slice jD dN.length jE, .slice jW dQ.length jX, .slice iw aH.length fC] 32 (0,0)) (ub m_.out) hg (BO X3.out m_.out (by decide)));replace HB:=ak (hb);clear ho hb hg hat X3;have z10:=jO m_.out)|(refine gB func58 (jS.calls k _ _ dN akx true _ (cu (aT qG.out HB.out)) qR.out A4.out) ?_;intro Uy hb;replace KP:=rb KP hb;replace m_:=kb m_ hb;replace HB:=bz HB hb;clear hb)|((with_reducible refine bG (N:=32) rfl ?_);refine ZE (Kd.slice 9 Kd.string) _ 23 ?hg (N:=32) ?hd (xs:=([]:List (List ByteArray))) (inner:=[]) (ok:=fun _=>True) (oO:=fun _=>True) ?hr ?hp (fun _ hk=>hk) trivial (Below.refl _ _) (Nat.le_refl _) (by simp) ?_;(case hd=>rfl);(case hg=>rfl);(case hr=>first|(go_simp;done)|(go_simp;rfl));(case hp=>exact(iW.none _ _));intro aOg w12 V6 hb oP gY;clear oP gY;(first|rw[←aky.out]at V6|(simp only[Int.reduceToNat]at V6;rw[←aky.out]at V6));have azo:=ak (qZ (F6 V6 (oK (ur KP.out))) (aA bb));replace KP:=rb KP hb;replace m_:=kb m_ hb;replace HB:=bz HB hb;clear hb V6))
  go_loopg [7,8] k (fun kq v7 v8 w'=>∃(ng:List (List ByteArray)) (jm:Int),v8= .int .i64 jm∧ay (jH.l0 kq Rn akx ng jm dN dQ aH=some r)∧ay (kq≤k)∧ay (Kd.R Kd.string 9 w' w.heap.size (fun _=>True) acR Rn)∧ay (Kd.S (Kd.slice 9 Kd.string) 23 w' w.heap.size (fun k_=>some k_≠(acR:Value).ownBlock) v7 ng)∧ay (w'.heap[XZ]? =some (.cells #[(.slice jD dN.length jE),(.slice jW dQ.length jX),(.slice iw aH.length fC)] 32 (0,0)))∧ay (Below w.heap.size w w'))
  case atStart=>exact⟨_,_,rs,H',⟨Nat.le_refl _⟩,⟨ur KP.out⟩,⟨by(with_reducible repeat(first|apply Kd.dH|apply Kd.dI|apply Kd.eH));exact jA azo.out (fun _ hk=>hk.2)⟩,⟨ub m_.out⟩,⟨bb⟩⟩
  case round=>
   clear H';obtain⟨ng,jm,rfl,HA,iM,nP,nT,m_,HB⟩:=hrel
   cases gk with
   |zero=>exact zz HA.out
   |succ k1=>
    obtain⟨H⟩:=HA;simp only[jH.l0]at H;replace H:=sd H;rcases H with⟨tH,H⟩|⟨tH,H⟩
    ·replace H:=oL H;obtain⟨uy,H⟩:=H;replace H:=bd H;obtain⟨aev,A16,H⟩:=H;replace H:=nl H;obtain⟨akz,H⟩:=H;obtain⟨aHU,asX⟩:=nm (ng++[aev]);rw[←asX.out]at H;have H':=ak H;clear H;have z18:=jO m_.out;have avP:=zi jm;have avQ:=zj jm aH.length;obtain⟨azp,avR,avS,avT,avU,avV,avW,aHV,agL,agM,agN,agO,agP,agQ,agR,agS,agT⟩:=uU lC.out jm avP avQ;cases aHV;replace agL:=cl HB.out agL;replace agM:=cl HB.out agM;replace agN:=cl HB.out agN;have ao2:=ak agP;have ao3:=ak agO;clear agP agO;have ao4:=ak agR;have ao5:=ak agQ;clear agR agQ;have ao6:=ak agT;have ao7:=ak agS;clear agT agS;replace avP:=eq_true avP;replace avQ:=eq_true avQ;go_wp2_with (first|(refine gV func70 (ih k1 (by have:=iM.out;omega) _ _ ((aW aH jm).f0) _ _ ((aW aH jm).f1) _ _ ((aW aH jm).f2) aev _ (cu (aT ao2.out HB.out)) ao3.out (cu (aT ao4.out HB.out)) ao5.out (cu (aT ao6.out HB.out)) ao7.out A16.out) ?_;rintro aOh w19 ⟨ho0,hb⟩;have agU:=ak (bQ (lu ho0 (oK (ur nP.out))) (aA bb));replace nP:=ak (kE (ur nP.out) (iO ho0) hb);replace nT:=ak (qU (by(with_reducible repeat(first|apply Kd.dH|apply Kd.dI|apply Kd.eH));exact nT.out) (iO ho0) hb);replace m_:=kb m_ hb;replace HB:=bz HB hb;clear hb;(try clear ho0);obtain⟨Xw,Xx,ajT⟩:=bW agU.out;subst ajT)|((with_reducible refine bM (b:= .append) (xs:=#[.tmp 40, .tmp 47]) rfl ?_);at_builtin;refine FC (Kd.slice 9 Kd.string) (w0:=w) w.heap.size rfl (.tmp 40) (.tmp 47) 74 23 (.slice none 0 0) 24 rfl underlying74 info23 rfl (by decide) (by omega) u7 ng aev [.slice Xw aev.length Xx] (fun k_=>some k_≠(acR:Value).ownBlock) (fun k_=>some k_=(.slice Xw aev.length Xx:Value).ownBlock) rfl rfl ?aP (fun k_ hk_=>((aK (ok':=fun k_=>((fun k_=>some k_≠(acR:Value).ownBlock)) k_∧some k_≠(u7:Value).ownBlock) (qo (agU.out) (tK nT.out) (by decide)) (fun k_ hk=>⟨hk.1.2,hk.2⟩))).1 k_ hk_.symm) ?aF ?aO ?aB ?aS ?aL ?_;(case aP=>exact X4 (aK (y9 rfl (aK (ok':=fun k_=>((fun k_=>some k_≠(acR:Value).ownBlock)) k_∧some k_≠(u7:Value).ownBlock) (qo (agU.out) (tK nT.out) (by decide)) (fun k_ hk=>⟨hk.1.2,hk.2⟩))) (fun _ h_=>h_)));(case aB=>exact bb);(case aF=>exact(fun k_ hk=>Kd.fresh' (oK (ur nP.out)) k_ hk));(case aO=>exact(by(with_reducible repeat(first|apply Kd.dH|apply Kd.dI|apply Kd.eH));exact jA nT.out (fun k_ hk=>⟨hk.1,fun e_=>hk.2 e_⟩)));(case aS=>exact(aA bb));(case aL=>have:=akz.out;omega);intro aOi w20 ho hb hg hat;rw[←asX.out]at ho;have azq:=ak (ho);replace nP:=ak (zf (ur nP.out) (tK (by(with_reducible repeat(first|apply Kd.dH|apply Kd.dI|apply Kd.eH));exact nT.out)) (by decide) hg);replace m_:=ak (gK (g:=XZ) (o:= .cells #[.slice jD dN.length jE, .slice jW dQ.length jX, .slice (some azp) aH.length fC] 32 (0,0)) (ub m_.out) hg (avX nT.out m_.out (by decide)));replace HB:=ak (hb);clear ho hb hg hat nT agU))
     go_roundg k1
     case measure=>exact kl
     case rel=>exact⟨_,_,rs,H',⟨kl⟩,⟨ur (aK nP.out (fun _ hk=>trivial))⟩,⟨by(with_reducible repeat(first|apply Kd.dH|apply Kd.dI|apply Kd.eH));exact azq.out⟩,⟨ub m_.out⟩,⟨bb⟩⟩
    ·replace H:=bd H;obtain⟨⟨akA,aHW⟩,A22,H⟩:=H
     (try dsimp only at H);replace H:=nl H;obtain⟨akB,H⟩:=H;obtain⟨aOj,asY⟩:=nm (Rn++akA);rw[←asY.out]at H;obtain rfl:=s1 H;have z24:=jO m_.out;obtain⟨zD,yV,akC⟩:=qm nT.out;subst akC;go_wp2_with (first|(refine gV func109 (dL.calls k1 _ _ ng akx akA aHW _ (cu ((lT nT.out).2.2)) ((lT nT.out).2.1) A22.out) ?_;rintro aOk w26 ⟨ho0,hb⟩;have ZF:=ak (bQ (lu ho0 (oK (ur nP.out))) (aA bb));replace nP:=ak (kE (ur nP.out) (iO ho0) hb);replace nT:=ak (qU (by(with_reducible repeat(first|apply Kd.dH|apply Kd.dI|apply Kd.eH));exact nT.out) (iO ho0) hb);replace m_:=kb m_ hb;replace HB:=bz HB hb;clear hb;(try clear ho0);obtain⟨azr,avY,ao8⟩:=bW ZF.out;subst ao8)|((with_reducible refine bM (b:= .append) (xs:=#[.tmp 55, .tmp 56]) rfl ?_);at_builtin;refine nO Kd.string (w0:=w) w.heap.size rfl (.tmp 55) (.tmp 56) 23 9 (.string ⟨#[]⟩) 16 rfl underlying23 info9 rfl (by decide) (by omega) acR Rn akA _ _ _ (fun k_=>some k_≠(.slice azr akA.length avY:Value).ownBlock) (fun _=>False) rfl rfl ?aO ?aR (fun _ _ h=>h) (fun _ h=>h.elim) ?aF ?aB ?aS ?aL ?_;(case aR=>repeat(first|exact(bH ZF.out).2.2|(with_reducible refine Kd.fP ?_ _)|(with_reducible refine Kd.fQ ?_ _)|(with_reducible refine Kd.iR ?_)));(case aB=>exact bb);(case aF=>exact(fun k_ hk=>Kd.fresh' (oK (ur ZF.out)) k_ hk));(case aO=>exact(ur (aK nP.out (fun _ hk=>hk.2))));(case aS=>exact(aA bb));(case aL=>have:=akB.out;omega);intro aOl w27 ho hb hg hat;rw[←asY.out]at ho;have azs:=ak (ho);replace nT:=ak (W_ (ok:=(fun k_=>some k_≠(.slice azr akA.length avY:Value).ownBlock)) (by(with_reducible repeat(first|apply Kd.dH|apply Kd.dI|apply Kd.eH));exact jA nT.out (fun _ hk=>⟨hk.2,hk.1⟩)) hg hat);replace m_:=ak (gK (g:=XZ) (o:= .cells #[.slice jD dN.length jE, .slice jW dQ.length jX, .slice iw aH.length fC] 32 (0,0)) (ub m_.out) hg (BO nP.out m_.out (by decide)));replace ZF:=ak (Rh (ok:=(fun _=>True)) (ur ZF.out) hg hat);replace HB:=ak (hb);clear ho hb hg hat nP))
     go_ret;exact⟨_,er,ur (aK azs.out (fun _ hk=>trivial)),bb⟩
 ·replace H:=nl H;obtain⟨azt,H⟩:=H;obtain⟨aOm,asZ⟩:=nm (Rn++dQ);rw[←asZ.out]at H;obtain rfl:=s1 H;go_enter func70,ntmps70;go_wp2_with (first|(refine bX HB 1 #[.slice jD dN.length jE, .slice jW dQ.length jX, .slice iw aH.length fC] 32 ?_;intro XZ w30 m_ azm hb;replace HB:=bs HB hb;clear hb;have z31:=jO m_.out)|(refine gV func108 (je.calls k _ _ dN akv azl _ (cu (aT qG.out HB.out)) qR.out A2.out) ?_;rintro avO w32 ⟨ho0,hb⟩;have X3:=ak (bQ ho0 (aA bb));replace m_:=kb m_ hb;replace HB:=bz HB hb;clear hb;(try clear ho0))|((with_reducible refine bM (b:= .append) (xs:=#[.tmp 17, .tmp 18]) rfl ?_);at_builtin;refine iT Kd.string (w0:=w) w.heap.size rfl (.tmp 17) (.tmp 18) 23 9 (.string ⟨#[]⟩) 16 rfl underlying23 info9 rfl (by decide) (by omega) avO akv (⟨#[]⟩:ByteArray) [.string (⟨#[]⟩:ByteArray)] (fun _=>True) (fun _=>False) rfl rfl ?aP (fun _ hk=>hk.elim) ?aF ?aO ?aB ?aS ?aL ?_;(case aP=>exact rfl);(case aB=>exact bb);(case aF=>exact(fun _ _=>trivial));(case aO=>exact(ur X3.out));(case aS=>exact(aA bb));(case aL=>have:=aos.out;omega);intro acR w33 ho hb hg hat;rw[←akw.out]at ho;have KP:=ak (ho);replace m_:=ak (gK (g:=XZ) (o:= .cells #[.slice jD dN.length jE, .slice jW dQ.length jX, .slice iw aH.length fC] 32 (0,0)) (ub m_.out) hg (BO X3.out m_.out (by decide)));replace HB:=ak (hb);clear ho hb hg hat X3;have z34:=jO m_.out)|(refine gB func58 (jS.calls k _ _ dN akx false _ (cu (aT qG.out HB.out)) qR.out A4.out) ?_;intro w35 hb;replace KP:=rb KP hb;replace m_:=kb m_ hb;replace HB:=bz HB hb;clear hb;have z36:=jO m_.out)|((with_reducible refine bM (b:= .append) (xs:=#[.tmp 28, .tmp 30]) rfl ?_);at_builtin;refine nO Kd.string (w0:=w) w.heap.size rfl (.tmp 28) (.tmp 30) 23 9 (.string ⟨#[]⟩) 16 rfl underlying23 info9 rfl (by decide) (by omega) acR Rn dQ _ _ _ (fun _=>True) (fun _=>False) rfl rfl ?aO ?aR (fun _ _ h=>h) (fun _ h=>h.elim) ?aF ?aB ?aS ?aL ?_;(case aR=>repeat(first|exact(aT vY.out HB.out)|(with_reducible refine Kd.fP ?_ _)|(with_reducible refine Kd.fQ ?_ _)|(with_reducible refine Kd.iR ?_)));(case aB=>exact bb);(case aF=>exact(fun _ _=>trivial));(case aO=>exact(ur KP.out));(case aS=>exact(aA bb));(case aL=>have:=azt.out;omega);intro aOn w37 ho hb hg hat;rw[←asZ.out]at ho;have azu:=ak (ho);replace m_:=ak (gK (g:=XZ) (o:= .cells #[.slice jD dN.length jE, .slice jW dQ.length jX, .slice iw aH.length fC] 32 (0,0)) (ub m_.out) hg (BO KP.out m_.out (by decide)));replace HB:=ak (hb);clear ho hb hg hat KP))
  go_ret;exact⟨_,er,ur azu.out,bb⟩
mutual
def bZ.j0:Nat→Int→Bool→List (gI)→List ByteArray→List (ku)→Option (Bool)
 |0,_,_,_,_,_=>none
 |k+1,x1,x17,Aw,zl,qK=>if x17=true then(some false)else((jS.f k Aw).bind fun agV=>(if agV.2=true then(if(zl.length:Int)>0 then(bZ.j1 k x1 agV.1 true Aw zl qK)else(if(qK.length:Int)<1 then(bZ.j1 k x1 agV.1 true Aw zl qK)else(bZ.j1 k x1 agV.1 (decide ((qK.length:Int)>4)) Aw zl qK)))else(if(qK.length:Int)=0 then((jv.f k zl).bind fun avZ=>(some avZ))else(some false))))
def bZ.j1:Nat→Int→ByteArray→Bool→List (gI)→List ByteArray→List (ku)→Option (Bool)
 |0,_,_,_,_,_,_=>none
 |k+1,x1,x5,x50,Aw,zl,qK=>if x50=true then(some false)else(bZ.l0 k x1 x5 0 Aw zl qK)
def bZ.l0:Nat→Int→ByteArray→Int→List (gI)→List ByteArray→List (ku)→Option (Bool)
 |0,_,_,_,_,_,_=>none
 |k+1,x1,x5,x7,Aw,zl,qK=>if x7<(qK.length:Int)then(if 0≤x7 then((bZ.f k ((aW qK x7).f0) ((aW qK x7).f1) ((aW qK x7).f2) (wrap64 (x1-1))).bind fun azv=>(if azv=true then((jH.f k ((aW qK x7).f0) ((aW qK x7).f1) ((aW qK x7).f2)).bind fun X5=>(bZ.l1 k x1 x5 x7 X5 0 Aw zl qK))else(some false)))else(none))else(some true)
def bZ.l1:Nat→Int→ByteArray→Int→List ByteArray→Int→List (gI)→List ByteArray→List (ku)→Option (Bool)
 |0,_,_,_,_,_,_,_,_=>none
 |k+1,x1,x5,x7,x8,x9,Aw,zl,qK=>if x9<(x8.length:Int)then(if 0≤x9 then((qj.f (f_ ByteArray.empty x8 x9) x5).bind fun azw=>(if azw=true then(some false)else(bZ.l1 k x1 x5 x7 x8 (wrap64 (x9+1)) Aw zl qK)))else(none))else(bZ.l0 k x1 x5 (wrap64 (x7+1)) Aw zl qK)
def bZ.f:Nat→List (gI)→List ByteArray→List (ku)→Int→Option (Bool)
 |0,_,_,_,_=>none
 |k+1,dN,dQ,aH,a1=>(gJ.f k dN).bind fun ao9=>(if ao9=true then(bZ.j0 k a1 (decide (a1<1)) dN dQ aH)else(bZ.j0 k a1 true dN dQ aH))
end
theorem bZ.calls(k:Nat):∀(jD:Option Addr) (jE:Nat) (dN:List (gI)) (jW:Option Addr) (jX:Nat) (dQ:List ByteArray) (iw:Option Addr) (fC:Nat) (aH:List (ku)) (a1:Int) (r:Bool) (w:World) (pF:Kd.C oN w jD dN.length dN) (pG:dN.length≤jE) (pJ:Kd.C Kd.string w jW dQ.length dQ) (pK:dQ.length≤jX) (lZ:Kd.C k32 w iw aH.length aH) (l7:aH.length≤fC) (h:bZ.f k dN dQ aH a1=some r),
  Calls Tryz.prog 53 #[.agg #[.slice jD dN.length jE, .slice jW dQ.length jX, .slice iw aH.length fC], .int .i64 a1] w fun e w'=>e= .returned (.bool r)∧Below w.heap.size w w':=by
 induction k using Nat.strongRecOn with
 |_ k ih=>
 intro jD jE dN jW jX dQ iw fC aH a1 r w pF pG pJ pK lZ l7 h
 cases k with
 |zero=>exact absurd h (by simp[bZ.f])
 |succ k=>
 simp only[bZ.f]at h;have LU:=underlying32;have qG:=ak pF;have qR:=ak pG;clear pF pG;have vY:=ak pJ;have yS:=ak pK;clear pJ pK;have lC:=ak lZ;have oz:=ak l7;clear lZ l7;have HB:=ak (Below.refl w.heap.size w);have H:((gJ.f k dN).bind fun ao9=>(if ao9=true then(bZ.j0 k a1 (decide (a1<1)) dN dQ aH)else(bZ.j0 k a1 true dN dQ aH)))=some r:=h;clear h;have HC3:=ak H;clear H;go_enter func53,ntmps53;go_upto_region 1 with(refine gG 2 ?_;refine bX HB 2 #[.slice jD dN.length jE, .slice jW dQ.length jX, .slice iw aH.length fC] 32 ?_;intro agW w4 nU aLa hb;replace HB:=bs HB hb;clear hb)
 (try simp only[Act.put,jI,jJ,l_c]);go_cut [17] (fun v17 wc=>∃(kq:Nat) (XU:Bool),v17= .bool XU∧ay (bZ.j0 kq a1 XU dN dQ aH=some r)∧ay (kq≤k)∧ay (wc.heap[agW]? =some (.cells #[(.slice jD dN.length jE),(.slice jW dQ.length jX),(.slice iw aH.length fC)] 32 (0,0)))∧ay (Below w.heap.size w wc))
 case first=>
  have H:=HC3.out;clear HC3;replace H:=bd H;obtain⟨ao9,A5,H⟩:=H;replace H:=sb H;rcases H with⟨rfl,H⟩|⟨rfl,H⟩
  ·have H':=ak H;clear H;have z7:=jO nU.out;go_wp2_with (refine gB func68 (gJ.calls k _ _ dN true _ (cu (aT qG.out HB.out)) qR.out A5.out) ?_;intro w8 hb;replace nU:=kb nU hb;replace HB:=bz HB hb;clear hb)
   go_meet
   case rel=>exact⟨_,_,rs,H',⟨XV⟩,⟨ub nU.out⟩,⟨bb⟩⟩
  ·have H':=ak H;clear H;have z9:=jO nU.out;go_wp2_with (refine gB func68 (gJ.calls k _ _ dN false _ (cu (aT qG.out HB.out)) qR.out A5.out) ?_;intro w10 hb;replace nU:=kb nU hb;replace HB:=bz HB hb;clear hb)
   go_meet
   case rel=>exact⟨_,_,rs,H',⟨XV⟩,⟨ub nU.out⟩,⟨bb⟩⟩
 case rest=>
  clear HC3;obtain⟨kq,XU,rfl,HA,HJ2,nU,HB⟩:=hcut
  cases kq with
  |zero=>exact zz HA.out
  |succ kj2=>
   obtain⟨H⟩:=HA;simp only[bZ.j0]at H;replace H:=sb H;rcases H with⟨rfl,H⟩|⟨rfl,H⟩
   ·obtain rfl:=s1 H;go_wp2;go_ret;exact⟨er,bb⟩
   ·replace H:=bd H;obtain⟨⟨Za,aOo⟩,A12,H⟩:=H
    (try dsimp only at H);replace H:=sb H;rcases H with⟨rfl,H⟩|⟨rfl,H⟩
    ·have av1:=ak H;clear H;have z15:=jO nU.out;go_upto_region 6 with(refine gB func58 (jS.calls kj2 _ _ dN Za true _ (cu (aT qG.out HB.out)) qR.out A12.out) ?_;intro w16 hb;replace nU:=kb nU hb;replace HB:=bz HB hb;clear hb)
     (try simp only[Act.put,jI,jJ,l_c]);go_cut [50] (fun v50 wc=>∃(kq:Nat) (aew:Bool),v50= .bool aew∧ay (bZ.j1 kq a1 Za aew dN dQ aH=some r)∧ay (kq≤kj2)∧ay (wc.heap[agW]? =some (.cells #[(.slice jD dN.length jE),(.slice jW dQ.length jX),(.slice iw aH.length fC)] 32 (0,0)))∧ay (Below w.heap.size w wc))
     case first=>
      have H:=av1.out;clear av1;replace H:=sp H;rcases H with⟨c17,H⟩|⟨c17,H⟩
      ·have uz:decide (0<(dQ.length:Int))=true:=decide_eq_true c17;have Md:decide (0<dQ.length)=true:=decide_eq_true (by omega);clear c17
       (first|rw[uz]|(simp only[bf,bD];rw[uz])|skip);have H':=ak H;clear H;have z18:=jO nU.out;go_wp2;go_meet
       case rel=>exact⟨_,_,rs,H',⟨kl⟩,⟨ub nU.out⟩,⟨bb⟩⟩
      ·have uz:decide (0<(dQ.length:Int))=false:=decide_eq_false c17;have Md:decide (0<dQ.length)=false:=decide_eq_false (by omega);clear c17
       (first|rw[uz]|(simp only[bf,bD];rw[uz])|skip);replace H:=sp H;rcases H with⟨c19,H⟩|⟨c19,H⟩
       ·have Dh:=decide_eq_true c19;have FY:decide (aH.length<1)=true:=decide_eq_true (by omega);clear c19;have H':=ak H;clear H;have z20:=jO nU.out;go_wp2;go_meet
        case rel=>exact⟨_,_,rs,H',⟨kl⟩,⟨ub nU.out⟩,⟨bb⟩⟩
       ·have Dh:=decide_eq_false c19;have FY:decide (aH.length<1)=false:=decide_eq_false (by omega);clear c19;have H':=ak H;clear H;have z21:=jO nU.out;go_wp2;go_meet
        case rel=>exact⟨_,_,rs,H',⟨kl⟩,⟨ub nU.out⟩,⟨bb⟩⟩
     case rest=>
      clear av1;obtain⟨kq,aew,rfl,HA,aiN,nU,HB⟩:=hcut
      cases kq with
      |zero=>exact zz HA.out
      |succ azx=>
       obtain⟨H⟩:=HA;simp only[bZ.j1]at H;replace H:=sb H;rcases H with⟨rfl,H⟩|⟨rfl,H⟩
       ·obtain rfl:=s1 H;go_wp2;go_ret;exact⟨er,bb⟩
       ·have H':=ak H;clear H;go_wp2;go_loopg [7] azx (fun kq v7 w'=>∃(nV:Int),v7= .int .i64 nV∧ay (bZ.l0 kq a1 Za nV dN dQ aH=some r)∧ay (kq≤azx)∧ay (w'.heap[agW]? =some (.cells #[(.slice jD dN.length jE),(.slice jW dQ.length jX),(.slice iw aH.length fC)] 32 (0,0)))∧ay (Below w.heap.size w w'))
        case atStart=>exact⟨_,rs,H',⟨Nat.le_refl _⟩,⟨ub nU.out⟩,⟨bb⟩⟩
        case round=>
         clear H';obtain⟨nV,rfl,HA,OT,nU,HB⟩:=hrel
         cases gk with
         |zero=>exact zz HA.out
         |succ k3=>
          obtain⟨H⟩:=HA;simp only[bZ.l0]at H;replace H:=sd H;rcases H with⟨L8,H⟩|⟨L8,H⟩
          ·replace H:=oL H;obtain⟨QB,H⟩:=H;replace H:=bd H;obtain⟨azv,A25,H⟩:=H;replace H:=sb H;rcases H with⟨rfl,H⟩|⟨rfl,H⟩
           ·replace H:=bd H;obtain⟨X5,A27,H⟩:=H;have H':=ak H;clear H;have z28:=jO nU.out;have acS:=zi nV;have acT:=zj nV aH.length;obtain⟨akD,aex,aey,aez,aeA,aeB,aeC,av2,Ob,Oc,Oe,Ro,Rq,Rt,Ru,Rw,Rx⟩:=uU lC.out nV acS acT;cases av2;replace Ob:=cl HB.out Ob;replace Oc:=cl HB.out Oc;replace Oe:=cl HB.out Oe;have aaU:=ak Rq;have aaV:=ak Ro;clear Rq Ro;have aaW:=ak Ru;have aaX:=ak Rt;clear Ru Rt;have aaY:=ak Rx;have aaZ:=ak Rw;clear Rx Rw;replace acS:=eq_true acS;replace acT:=eq_true acT;go_wp2_with (first|(refine gB func53 (ih k3 (by have:=HJ2.out;have:=aiN.out;have:=OT.out;omega) _ _ ((aW aH nV).f0) _ _ ((aW aH nV).f1) _ _ ((aW aH nV).f2) (wrap64 (a1-1)) true _ (cu (aT aaU.out HB.out)) aaV.out (cu (aT aaW.out HB.out)) aaX.out (cu (aT aaY.out HB.out)) aaZ.out A25.out) ?_;intro w29 hb;replace nU:=kb nU hb;replace HB:=bz HB hb;clear hb;have z30:=jO nU.out;have ao_:0≤(nV:Int):=of_decide_eq_true (by assumption);have apa:nV<(aH.length:Int):=of_decide_eq_true (by assumption);obtain⟨azy,av3,av4,av5,av6,av7,av8,aHX,Xa,Xb,Xc,agX,agY,agZ,ag0,ag1,ag2⟩:=uU lC.out nV ao_ apa;obtain rfl:akD=azy:=(by injection aHX);replace Xa:=(HB.out.cell (World.block_lt_of_cell? w _ Xa)).trans Xa;replace Xb:=(HB.out.cell (World.block_lt_of_cell? w _ Xb)).trans Xb;replace Xc:=(HB.out.cell (World.block_lt_of_cell? w _ Xc)).trans Xc;have apb:=ak agY;have apc:=ak agX;clear agY agX;have apd:=ak ag0;have ape:=ak agZ;clear ag0 agZ;have apf:=ak ag2;have apg:=ak ag1;clear ag2 ag1;replace ao_:=eq_true ao_;replace apa:=eq_true apa)|(refine gV func70 (jH.calls k3 _ _ ((aW aH nV).f0) _ _ ((aW aH nV).f1) _ _ ((aW aH nV).f2) X5 _ (cu (aT apb.out HB.out)) apc.out (cu (aT apd.out HB.out)) ape.out (cu (aT apf.out HB.out)) apg.out A27.out) ?_;rintro aHY w31 ⟨ho0,hb⟩;have azz:=ak (bQ ho0 (aA bb));replace nU:=kb nU hb;replace HB:=bz HB hb;clear hb;(try clear ho0)))
            go_loopg [9] k3 (fun kq v9 w'=>∃(Ry:Int),v9= .int .i64 Ry∧ay (bZ.l1 kq a1 Za nV X5 Ry dN dQ aH=some r)∧ay (kq≤k3)∧ay (Kd.R Kd.string 9 w' w.heap.size (fun _=>True) aHY X5)∧ay (w'.heap[agW]? =some (.cells #[(.slice jD dN.length jE),(.slice jW dQ.length jX),(.slice (some akD) aH.length fC)] 32 (0,0)))∧ay (Below w.heap.size w w'))
            case atStart=>exact⟨_,rs,H',⟨Nat.le_refl _⟩,⟨ur azz.out⟩,⟨ub nU.out⟩,⟨bb⟩⟩
            case round=>
             clear H';try clear L8
             try clear QB
             try clear Ob
             try clear Oc
             try clear Oe
             try clear Xa
             try clear Xb
             try clear Xc
             try clear acS
             try clear ao_
             try clear acT
             try clear apa
             obtain⟨Ry,rfl,HA,HK4,I5,nU,HB⟩:=hrel
             cases gk with
             |zero=>exact zz HA.out
             |succ k4=>
              obtain⟨H⟩:=HA;simp only[bZ.l1]at H;replace H:=sd H;rcases H with⟨acU,H⟩|⟨acU,H⟩
              ·replace H:=oL H;obtain⟨akE,H⟩:=H;replace H:=bd H;obtain⟨azw,A34,H⟩:=H;replace H:=sb H;rcases H with⟨rfl,H⟩|⟨rfl,H⟩
               ·obtain rfl:=s1 H;obtain⟨aOp,aOq,aHZ⟩:=bW I5.out;subst aHZ;have aeD:=zi Ry;have aeE:=zj Ry X5.length;obtain⟨azA,av9,aph⟩:=dY (bH I5.out).2.2 Ry aeD aeE;cases av9;replace aeD:=eq_true aeD;replace aeE:=eq_true aeE;go_wp2_with (refine gA func71 (qj.calls (f_ ByteArray.empty X5 Ry) Za true _ A34.out) ?_;intro nd)
                go_ret;exact⟨er,bb⟩
               ·have H':=ak H;clear H;obtain⟨acV,acW,acX⟩:=bW I5.out;subst acX;have aeD:=zi Ry;have aeE:=zj Ry X5.length;obtain⟨azA,av9,aph⟩:=dY (bH I5.out).2.2 Ry aeD aeE;cases av9;replace aeD:=eq_true aeD;replace aeE:=eq_true aeE;go_wp2_with (refine gA func71 (qj.calls (f_ ByteArray.empty X5 Ry) Za false _ A34.out) ?_;intro nd)
                go_roundg k4
                case measure=>have:=HJ2.out;have:=aiN.out;have:=OT.out;have:=HK4.out;omega
                case rel=>exact⟨_,rs,H',⟨by have:=HJ2.out;have:=aiN.out;have:=OT.out;have:=HK4.out;omega⟩,⟨ur I5.out⟩,⟨ub nU.out⟩,⟨bb⟩⟩
              ·have H':=ak H;clear H;obtain⟨aOr,aOs,aH0⟩:=bW I5.out;subst aH0;go_wp2;go_roundg k4
               case measure=>have:=HJ2.out;have:=aiN.out;have:=OT.out;have:=HK4.out;omega
               case rel=>exact⟨_,rs,H',⟨by have:=HJ2.out;have:=aiN.out;have:=OT.out;have:=HK4.out;omega⟩,⟨ub nU.out⟩,⟨bb⟩⟩
           ·obtain rfl:=s1 H;have z39:=jO nU.out;have acS:=zi nV;have acT:=zj nV aH.length;obtain⟨akD,aex,aey,aez,aeA,aeB,aeC,av2,Ob,Oc,Oe,Ro,Rq,Rt,Ru,Rw,Rx⟩:=uU lC.out nV acS acT;cases av2;replace Ob:=cl HB.out Ob;replace Oc:=cl HB.out Oc;replace Oe:=cl HB.out Oe;have aaU:=ak Rq;have aaV:=ak Ro;clear Rq Ro;have aaW:=ak Ru;have aaX:=ak Rt;clear Ru Rt;have aaY:=ak Rx;have aaZ:=ak Rw;clear Rx Rw;replace acS:=eq_true acS;replace acT:=eq_true acT;go_wp2_with (refine gB func53 (ih k3 (by have:=HJ2.out;have:=aiN.out;have:=OT.out;omega) _ _ ((aW aH nV).f0) _ _ ((aW aH nV).f1) _ _ ((aW aH nV).f2) (wrap64 (a1-1)) false _ (cu (aT aaU.out HB.out)) aaV.out (cu (aT aaW.out HB.out)) aaX.out (cu (aT aaY.out HB.out)) aaZ.out A25.out) ?_;intro w40 hb;replace nU:=kb nU hb;replace HB:=bz HB hb;clear hb)
            go_ret;exact⟨er,bb⟩
          ·obtain rfl:=s1 H;have z41:=jO nU.out;go_wp2;go_ret;exact⟨er,bb⟩
    ·replace H:=sp H;rcases H with⟨c42,H⟩|⟨c42,H⟩
     ·have azB:=beq_iff_eq.mpr c42;have azC:=bne_eq_false_iff_eq.mpr c42;clear c42;replace H:=bd H;obtain⟨avZ,A43,H⟩:=H;obtain rfl:=s1 H;have z44:=jO nU.out;go_wp2_with (first|(refine gB func58 (jS.calls kj2 _ _ dN Za false _ (cu (aT qG.out HB.out)) qR.out A12.out) ?_;intro w45 hb;replace nU:=kb nU hb;replace HB:=bz HB hb;clear hb;have z46:=jO nU.out)|(go_at_call 69;refine mA (jv.calls kj2 _ _ dQ avZ _ (cu (aT vY.out HB.out)) yS.out A43.out) ?_;intro nd))
      go_ret;exact⟨er,bb⟩
     ·have azB:=beq_eq_false_iff_ne.mpr c42;have azC:=bne_iff_ne.mpr c42;have aLc:¬(aH=[]):=fun h_=>c42 (by rw[h_];rfl)
      obtain rfl:=s1 H;have z47:=jO nU.out;go_wp2_with (refine gB func58 (jS.calls kj2 _ _ dN Za false _ (cu (aT qG.out HB.out)) qR.out A12.out) ?_;intro w48 hb;replace nU:=kb nU hb;replace HB:=bz HB hb;clear hb;have z49:=jO nU.out)
      go_ret;exact⟨er,bb⟩
def qx.f(k:Nat)(dN:List (gI))(dQ:List ByteArray)(aH:List (ku)):Option (Bool):=(bZ.f k dN dQ aH 3).bind fun akF=>(some akF)
set_option maxHeartbeats 8000000 in
set_option maxRecDepth 100000 in
theorem qx.calls(k:Nat)(jD:Option Addr)(jE:Nat)(dN:List (gI))(jW:Option Addr)(jX:Nat)(dQ:List ByteArray)(iw:Option Addr)(fC:Nat)(aH:List (ku))(r:Bool)(w:World)(pF:Kd.C oN w jD dN.length dN)(pG:dN.length≤jE)(pJ:Kd.C Kd.string w jW dQ.length dQ)(pK:dQ.length≤jX)(lZ:Kd.C k32 w iw aH.length aH)(l7:aH.length≤fC)(h:qx.f k dN dQ aH=some r):
  Calls Tryz.prog 40 #[.agg #[.slice jD dN.length jE, .slice jW dQ.length jX, .slice iw aH.length fC]] w fun e w'=>e= .returned (.bool r)∧Below w.heap.size w w':=by
 have LU:=underlying32;have qG:=ak pF;have qR:=ak pG;clear pF pG;have vY:=ak pJ;have yS:=ak pK;clear pJ pK;have lC:=ak lZ;have oz:=ak l7;clear lZ l7;have HB:=ak (Below.refl w.heap.size w);have H:((bZ.f k dN dQ aH 3).bind fun akF=>(some akF))=some r:=h;clear h;replace H:=bd H;obtain⟨akF,A2,H⟩:=H;obtain rfl:=Option.some.inj H;go_enter func40,ntmps40;go_wp2_with (first|(refine bE 1 #[.slice jD dN.length jE, .slice jW dQ.length jX, .slice iw aH.length fC] 32 ?_;intro aLd hg w3 hbox hb;have akG:=ak (hbox);have aLe:=lq HB hg;have aLf:=lq HB hg;replace HB:=bs HB hb;clear hb hbox hg;obtain⟨aeF,akH,av_,aeG,akI,awc⟩:=jO akG.out)|(refine gL 53 4 func53 #[.agg #[.slice jD dN.length jE, .slice jW dQ.length jX, .slice iw aH.length fC], .int .i64 3] ?_;(with_reducible refine(bZ.calls k _ _ dN _ _ dQ _ _ aH 3 akF _ (cu (aT qG.out HB.out)) qR.out (cu (aT vY.out HB.out)) yS.out (cu (aT lC.out HB.out)) oz.out A2.out).mono ?_);rintro e w5 ⟨rfl,hb⟩;refine⟨_,rfl,?_⟩;replace akG:=kb akG hb;replace HB:=ak (aC bb hb);(try clear hb)))
 go_ret;exact⟨er,bb⟩
end Go.Proofs.YtdimppdlfgnhgaaGreatDoor.PFnExactParsePart
