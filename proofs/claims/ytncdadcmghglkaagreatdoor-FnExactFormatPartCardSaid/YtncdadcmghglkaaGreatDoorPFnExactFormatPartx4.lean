/- Printed walks; conditions: those in each statement. -/
import Derived.Test.YtncdadcmghglkaaGreatDoorVFnExactFormatPartQt
import Derived.Test.YtncdadcmghglkaaGreatDoorVFnExactFormatPartYt
import Derived.Test.YtncdadcmghglkaaGreatDoorPFnExactFormatPartx0
import Derived.Test.YtncdadcmghglkaaGreatDoorPFnExactFormatPartx1
import Derived.Test.YtncdadcmghglkaaGreatDoorPFnExactFormatPartx2
import Derived.Test.YtncdadcmghglkaaGreatDoorPFnExactFormatPartx3
namespace Go.Proofs.YtncdadcmghglkaaGreatDoor.PFnExactFormatPart
open Go.RowKit Go.Proofs.YtncdadcmghglkaaGreatDoor.X Go.Proofs.YtncdadcmghglkaaGreatDoorW.dB Go.Proofs.YtncdadcmghglkaaGreatDoorW.iy Go.Proofs.YtncdadcmghglkaaGreatDoorW.jo
attribute [local go_sem] lU lV oh oq kJ kK lW lX   -- for this text's walks alone
set_option linter.unusedVariables false
set_option linter.unusedSimpArgs false
def kF.f(a0:Int):Option (Bool):=(bI.f a0).bind fun t173=>(if t173=true then(some true)else((dG.f a0).bind fun ah5=>(if ah5=true then(some true)else(if a0=33 then(some true)else(if a0≥35 then(if a0≤39 then(some true)else(if a0=42 then(some true)else(if a0=43 then(some true)else(if a0=45 then(some true)else(if a0=47 then(some true)else(if a0=61 then(some true)else(if a0=63 then(some true)else(if a0≥94 then(if a0≤96 then(some true)else(if a0≥123 then(some (decide (a0≤126)))else(some false)))else(if a0≥123 then(some (decide (a0≤126)))else(some false))))))))))else(if a0=42 then(some true)else(if a0=43 then(some true)else(if a0=45 then(some true)else(if a0=47 then(some true)else(if a0=61 then(some true)else(if a0=63 then(some true)else(if a0≥94 then(if a0≤96 then(some true)else(if a0≥123 then(some (decide (a0≤126)))else(some false)))else(if a0≥123 then(some (decide (a0≤126)))else(some false))))))))))))))
set_option maxHeartbeats 8000000 in
set_option maxRecDepth 100000 in
theorem kF.calls(a0:Int)(r:Bool)(w:World)(h:kF.f a0=some r):
  Calls Tryz.prog 135 #[.int .u8 a0] w fun e w'=>e= .returned (.bool r)∧eH w w':=by
 have H:((bI.f a0).bind fun t173=>(if t173=true then(some true)else((dG.f a0).bind fun ah5=>(if ah5=true then(some true)else(if a0=33 then(some true)else(if a0≥35 then(if a0≤39 then(some true)else(if a0=42 then(some true)else(if a0=43 then(some true)else(if a0=45 then(some true)else(if a0=47 then(some true)else(if a0=61 then(some true)else(if a0=63 then(some true)else(if a0≥94 then(if a0≤96 then(some true)else(if a0≥123 then(some (decide (a0≤126)))else(some false)))else(if a0≥123 then(some (decide (a0≤126)))else(some false))))))))))else(if a0=42 then(some true)else(if a0=43 then(some true)else(if a0=45 then(some true)else(if a0=47 then(some true)else(if a0=61 then(some true)else(if a0=63 then(some true)else(if a0≥94 then(if a0≤96 then(some true)else(if a0≥123 then(some (decide (a0≤126)))else(some false)))else(if a0≥123 then(some (decide (a0≤126)))else(some false)))))))))))))))=some r:=h;clear h;replace H:=bd H;obtain⟨t173,A2,H⟩:=H;replace H:=sb H;rcases H with⟨rfl,H⟩|⟨rfl,H⟩
 ·obtain rfl:=Option.some.inj H;go_enter Tryz.func135,Tryz.ntmps135;go_wp2_with (first|(refine gL 140 4 Tryz.func140 #[.int .u8 a0] ?_;(with_reducible refine(bI.calls a0 true _ A2.out).mono ?_);rintro e w' ⟨rfl,⟨nd,rfl⟩⟩;refine⟨_,rfl,?_⟩))
  go_ret;exact⟨rs,dn⟩
 ·replace H:=bd H;obtain⟨ah5,A4,H⟩:=H;replace H:=sb H;rcases H with⟨rfl,H⟩|⟨rfl,H⟩
  ·obtain rfl:=Option.some.inj H;go_enter Tryz.func135,Tryz.ntmps135;go_wp2_with (first|(refine gL 140 4 Tryz.func140 #[.int .u8 a0] ?_;(with_reducible refine(bI.calls a0 false _ A2.out).mono ?_);rintro e w' ⟨rfl,⟨nd,rfl⟩⟩;refine⟨_,rfl,?_⟩)|(go_at_call 141;(with_reducible refine(dG.calls a0 true _ A4.out).mono ?_);rintro e w' ⟨rfl,⟨nd,rfl⟩⟩))
   go_ret;exact⟨rs,dn⟩
  ·replace H:=sq H;rcases H with⟨mW,yt,H⟩|⟨c6,mW,yt,H⟩
   ·obtain rfl:=Option.some.inj H;go_enter Tryz.func135,Tryz.ntmps135;go_wp2_with (first|(refine gL 140 4 Tryz.func140 #[.int .u8 a0] ?_;(with_reducible refine(bI.calls a0 false _ A2.out).mono ?_);rintro e w' ⟨rfl,⟨nd,rfl⟩⟩;refine⟨_,rfl,?_⟩)|(go_at_call 141;(with_reducible refine(dG.calls a0 false _ A4.out).mono ?_);rintro e w' ⟨rfl,⟨nd,rfl⟩⟩))
    go_ret;exact⟨rs,dn⟩
   ·replace H:=sp H;rcases H with⟨c7,H⟩|⟨c7,H⟩
    ·have oJ:decide (35≤a0)=true:=decide_eq_true c7;clear c7;replace H:=sd H;rcases H with⟨uV,H⟩|⟨uV,H⟩
     ·obtain rfl:=Option.some.inj H;go_enter Tryz.func135,Tryz.ntmps135;go_wp2_with (first|(refine gL 140 4 Tryz.func140 #[.int .u8 a0] ?_;(with_reducible refine(bI.calls a0 false _ A2.out).mono ?_);rintro e w' ⟨rfl,⟨nd,rfl⟩⟩;refine⟨_,rfl,?_⟩)|(go_at_call 141;(with_reducible refine(dG.calls a0 false _ A4.out).mono ?_);rintro e w' ⟨rfl,⟨nd,rfl⟩⟩))
      go_ret;exact⟨rs,dn⟩
     ·replace H:=sq H;rcases H with⟨wQ,Gy,H⟩|⟨c9,wQ,Gy,H⟩
      ·obtain rfl:=Option.some.inj H;go_enter Tryz.func135,Tryz.ntmps135;go_wp2_with (first|(refine gL 140 4 Tryz.func140 #[.int .u8 a0] ?_;(with_reducible refine(bI.calls a0 false _ A2.out).mono ?_);rintro e w' ⟨rfl,⟨nd,rfl⟩⟩;refine⟨_,rfl,?_⟩)|(go_at_call 141;(with_reducible refine(dG.calls a0 false _ A4.out).mono ?_);rintro e w' ⟨rfl,⟨nd,rfl⟩⟩))
       go_ret;exact⟨rs,dn⟩
      ·replace H:=sq H;rcases H with⟨qj,vI,H⟩|⟨c10,qj,vI,H⟩
       ·obtain rfl:=Option.some.inj H;go_enter Tryz.func135,Tryz.ntmps135;go_wp2_with (first|(refine gL 140 4 Tryz.func140 #[.int .u8 a0] ?_;(with_reducible refine(bI.calls a0 false _ A2.out).mono ?_);rintro e w' ⟨rfl,⟨nd,rfl⟩⟩;refine⟨_,rfl,?_⟩)|(go_at_call 141;(with_reducible refine(dG.calls a0 false _ A4.out).mono ?_);rintro e w' ⟨rfl,⟨nd,rfl⟩⟩))
        go_ret;exact⟨rs,dn⟩
       ·replace H:=sq H;rcases H with⟨zU,Rn,H⟩|⟨c11,zU,Rn,H⟩
        ·obtain rfl:=Option.some.inj H;go_enter Tryz.func135,Tryz.ntmps135;go_wp2_with (first|(refine gL 140 4 Tryz.func140 #[.int .u8 a0] ?_;(with_reducible refine(bI.calls a0 false _ A2.out).mono ?_);rintro e w' ⟨rfl,⟨nd,rfl⟩⟩;refine⟨_,rfl,?_⟩)|(go_at_call 141;(with_reducible refine(dG.calls a0 false _ A4.out).mono ?_);rintro e w' ⟨rfl,⟨nd,rfl⟩⟩))
         go_ret;exact⟨rs,dn⟩
        ·replace H:=sq H;rcases H with⟨vJ,Cj,H⟩|⟨c12,vJ,Cj,H⟩
         ·obtain rfl:=Option.some.inj H;go_enter Tryz.func135,Tryz.ntmps135;go_wp2_with (first|(refine gL 140 4 Tryz.func140 #[.int .u8 a0] ?_;(with_reducible refine(bI.calls a0 false _ A2.out).mono ?_);rintro e w' ⟨rfl,⟨nd,rfl⟩⟩;refine⟨_,rfl,?_⟩)|(go_at_call 141;(with_reducible refine(dG.calls a0 false _ A4.out).mono ?_);rintro e w' ⟨rfl,⟨nd,rfl⟩⟩))
          go_ret;exact⟨rs,dn⟩
         ·replace H:=sq H;rcases H with⟨uO,yI,H⟩|⟨c13,uO,yI,H⟩
          ·obtain rfl:=Option.some.inj H;go_enter Tryz.func135,Tryz.ntmps135;go_wp2_with (first|(refine gL 140 4 Tryz.func140 #[.int .u8 a0] ?_;(with_reducible refine(bI.calls a0 false _ A2.out).mono ?_);rintro e w' ⟨rfl,⟨nd,rfl⟩⟩;refine⟨_,rfl,?_⟩)|(go_at_call 141;(with_reducible refine(dG.calls a0 false _ A4.out).mono ?_);rintro e w' ⟨rfl,⟨nd,rfl⟩⟩))
           go_ret;exact⟨rs,dn⟩
          ·replace H:=sq H;rcases H with⟨t_,yJ,H⟩|⟨c14,t_,yJ,H⟩
           ·obtain rfl:=Option.some.inj H;go_enter Tryz.func135,Tryz.ntmps135;go_wp2_with (first|(refine gL 140 4 Tryz.func140 #[.int .u8 a0] ?_;(with_reducible refine(bI.calls a0 false _ A2.out).mono ?_);rintro e w' ⟨rfl,⟨nd,rfl⟩⟩;refine⟨_,rfl,?_⟩)|(go_at_call 141;(with_reducible refine(dG.calls a0 false _ A4.out).mono ?_);rintro e w' ⟨rfl,⟨nd,rfl⟩⟩))
            go_ret;exact⟨rs,dn⟩
           ·replace H:=sp H;rcases H with⟨c15,H⟩|⟨c15,H⟩
            ·have xW:decide (94≤a0)=true:=decide_eq_true c15;clear c15;replace H:=sd H;rcases H with⟨Ja,H⟩|⟨Ja,H⟩
             ·obtain rfl:=Option.some.inj H;go_enter Tryz.func135,Tryz.ntmps135;go_wp2_with (first|(refine gL 140 4 Tryz.func140 #[.int .u8 a0] ?_;(with_reducible refine(bI.calls a0 false _ A2.out).mono ?_);rintro e w' ⟨rfl,⟨nd,rfl⟩⟩;refine⟨_,rfl,?_⟩)|(go_at_call 141;(with_reducible refine(dG.calls a0 false _ A4.out).mono ?_);rintro e w' ⟨rfl,⟨nd,rfl⟩⟩))
              go_ret;exact⟨rs,dn⟩
             ·replace H:=sp H;rcases H with⟨c17,H⟩|⟨c17,H⟩
              ·have qE:decide (123≤a0)=true:=decide_eq_true c17;clear c17;obtain rfl:=Option.some.inj H;go_enter Tryz.func135,Tryz.ntmps135;go_wp2_with (first|(refine gL 140 4 Tryz.func140 #[.int .u8 a0] ?_;(with_reducible refine(bI.calls a0 false _ A2.out).mono ?_);rintro e w' ⟨rfl,⟨nd,rfl⟩⟩;refine⟨_,rfl,?_⟩)|(go_at_call 141;(with_reducible refine(dG.calls a0 false _ A4.out).mono ?_);rintro e w' ⟨rfl,⟨nd,rfl⟩⟩))
               go_ret;exact⟨rs,dn⟩
              ·have qE:decide (123≤a0)=false:=decide_eq_false c17;clear c17;obtain rfl:=Option.some.inj H;go_enter Tryz.func135,Tryz.ntmps135;go_wp2_with (first|(refine gL 140 4 Tryz.func140 #[.int .u8 a0] ?_;(with_reducible refine(bI.calls a0 false _ A2.out).mono ?_);rintro e w' ⟨rfl,⟨nd,rfl⟩⟩;refine⟨_,rfl,?_⟩)|(go_at_call 141;(with_reducible refine(dG.calls a0 false _ A4.out).mono ?_);rintro e w' ⟨rfl,⟨nd,rfl⟩⟩))
               go_ret;exact⟨rs,dn⟩
            ·have xW:decide (94≤a0)=false:=decide_eq_false c15;clear c15;replace H:=sp H;rcases H with⟨c18,H⟩|⟨c18,H⟩
             ·have Bg:decide (123≤a0)=true:=decide_eq_true c18;clear c18;obtain rfl:=Option.some.inj H;go_enter Tryz.func135,Tryz.ntmps135;go_wp2_with (first|(refine gL 140 4 Tryz.func140 #[.int .u8 a0] ?_;(with_reducible refine(bI.calls a0 false _ A2.out).mono ?_);rintro e w' ⟨rfl,⟨nd,rfl⟩⟩;refine⟨_,rfl,?_⟩)|(go_at_call 141;(with_reducible refine(dG.calls a0 false _ A4.out).mono ?_);rintro e w' ⟨rfl,⟨nd,rfl⟩⟩))
              go_ret;exact⟨rs,dn⟩
             ·have Bg:decide (123≤a0)=false:=decide_eq_false c18;clear c18;obtain rfl:=Option.some.inj H;go_enter Tryz.func135,Tryz.ntmps135;go_wp2_with (first|(refine gL 140 4 Tryz.func140 #[.int .u8 a0] ?_;(with_reducible refine(bI.calls a0 false _ A2.out).mono ?_);rintro e w' ⟨rfl,⟨nd,rfl⟩⟩;refine⟨_,rfl,?_⟩)|(go_at_call 141;(with_reducible refine(dG.calls a0 false _ A4.out).mono ?_);rintro e w' ⟨rfl,⟨nd,rfl⟩⟩))
              go_ret;exact⟨rs,dn⟩
    ·have oJ:decide (35≤a0)=false:=decide_eq_false c7;clear c7;replace H:=sq H;rcases H with⟨yH,AY,H⟩|⟨c19,yH,AY,H⟩
     ·obtain rfl:=Option.some.inj H;go_enter Tryz.func135,Tryz.ntmps135;go_wp2_with (first|(refine gL 140 4 Tryz.func140 #[.int .u8 a0] ?_;(with_reducible refine(bI.calls a0 false _ A2.out).mono ?_);rintro e w' ⟨rfl,⟨nd,rfl⟩⟩;refine⟨_,rfl,?_⟩)|(go_at_call 141;(with_reducible refine(dG.calls a0 false _ A4.out).mono ?_);rintro e w' ⟨rfl,⟨nd,rfl⟩⟩))
      go_ret;exact⟨rs,dn⟩
     ·replace H:=sq H;rcases H with⟨Ro,VF,H⟩|⟨c20,Ro,VF,H⟩
      ·obtain rfl:=Option.some.inj H;go_enter Tryz.func135,Tryz.ntmps135;go_wp2_with (first|(refine gL 140 4 Tryz.func140 #[.int .u8 a0] ?_;(with_reducible refine(bI.calls a0 false _ A2.out).mono ?_);rintro e w' ⟨rfl,⟨nd,rfl⟩⟩;refine⟨_,rfl,?_⟩)|(go_at_call 141;(with_reducible refine(dG.calls a0 false _ A4.out).mono ?_);rintro e w' ⟨rfl,⟨nd,rfl⟩⟩))
       go_ret;exact⟨rs,dn⟩
      ·replace H:=sq H;rcases H with⟨Eo,ai9,H⟩|⟨c21,Eo,ai9,H⟩
       ·obtain rfl:=Option.some.inj H;go_enter Tryz.func135,Tryz.ntmps135;go_wp2_with (first|(refine gL 140 4 Tryz.func140 #[.int .u8 a0] ?_;(with_reducible refine(bI.calls a0 false _ A2.out).mono ?_);rintro e w' ⟨rfl,⟨nd,rfl⟩⟩;refine⟨_,rfl,?_⟩)|(go_at_call 141;(with_reducible refine(dG.calls a0 false _ A4.out).mono ?_);rintro e w' ⟨rfl,⟨nd,rfl⟩⟩))
        go_ret;exact⟨rs,dn⟩
       ·replace H:=sq H;rcases H with⟨OU,ai_,H⟩|⟨c22,OU,ai_,H⟩
        ·obtain rfl:=Option.some.inj H;go_enter Tryz.func135,Tryz.ntmps135;go_wp2_with (first|(refine gL 140 4 Tryz.func140 #[.int .u8 a0] ?_;(with_reducible refine(bI.calls a0 false _ A2.out).mono ?_);rintro e w' ⟨rfl,⟨nd,rfl⟩⟩;refine⟨_,rfl,?_⟩)|(go_at_call 141;(with_reducible refine(dG.calls a0 false _ A4.out).mono ?_);rintro e w' ⟨rfl,⟨nd,rfl⟩⟩))
         go_ret;exact⟨rs,dn⟩
        ·replace H:=sq H;rcases H with⟨G7,Z8,H⟩|⟨c23,G7,Z8,H⟩
         ·obtain rfl:=Option.some.inj H;go_enter Tryz.func135,Tryz.ntmps135;go_wp2_with (first|(refine gL 140 4 Tryz.func140 #[.int .u8 a0] ?_;(with_reducible refine(bI.calls a0 false _ A2.out).mono ?_);rintro e w' ⟨rfl,⟨nd,rfl⟩⟩;refine⟨_,rfl,?_⟩)|(go_at_call 141;(with_reducible refine(dG.calls a0 false _ A4.out).mono ?_);rintro e w' ⟨rfl,⟨nd,rfl⟩⟩))
          go_ret;exact⟨rs,dn⟩
         ·replace H:=sq H;rcases H with⟨Rj,ajx,H⟩|⟨c24,Rj,ajx,H⟩
          ·obtain rfl:=Option.some.inj H;go_enter Tryz.func135,Tryz.ntmps135;go_wp2_with (first|(refine gL 140 4 Tryz.func140 #[.int .u8 a0] ?_;(with_reducible refine(bI.calls a0 false _ A2.out).mono ?_);rintro e w' ⟨rfl,⟨nd,rfl⟩⟩;refine⟨_,rfl,?_⟩)|(go_at_call 141;(with_reducible refine(dG.calls a0 false _ A4.out).mono ?_);rintro e w' ⟨rfl,⟨nd,rfl⟩⟩))
           go_ret;exact⟨rs,dn⟩
          ·replace H:=sp H;rcases H with⟨c25,H⟩|⟨c25,H⟩
           ·have VB:decide (94≤a0)=true:=decide_eq_true c25;clear c25;replace H:=sd H;rcases H with⟨OM,H⟩|⟨OM,H⟩
            ·obtain rfl:=Option.some.inj H;go_enter Tryz.func135,Tryz.ntmps135;go_wp2_with (first|(refine gL 140 4 Tryz.func140 #[.int .u8 a0] ?_;(with_reducible refine(bI.calls a0 false _ A2.out).mono ?_);rintro e w' ⟨rfl,⟨nd,rfl⟩⟩;refine⟨_,rfl,?_⟩)|(go_at_call 141;(with_reducible refine(dG.calls a0 false _ A4.out).mono ?_);rintro e w' ⟨rfl,⟨nd,rfl⟩⟩))
             go_ret;exact⟨rs,dn⟩
            ·replace H:=sp H;rcases H with⟨c27,H⟩|⟨c27,H⟩
             ·have IJ:decide (123≤a0)=true:=decide_eq_true c27;clear c27;obtain rfl:=Option.some.inj H;go_enter Tryz.func135,Tryz.ntmps135;go_wp2_with (first|(refine gL 140 4 Tryz.func140 #[.int .u8 a0] ?_;(with_reducible refine(bI.calls a0 false _ A2.out).mono ?_);rintro e w' ⟨rfl,⟨nd,rfl⟩⟩;refine⟨_,rfl,?_⟩)|(go_at_call 141;(with_reducible refine(dG.calls a0 false _ A4.out).mono ?_);rintro e w' ⟨rfl,⟨nd,rfl⟩⟩))
              go_ret;exact⟨rs,dn⟩
             ·have IJ:decide (123≤a0)=false:=decide_eq_false c27;clear c27;obtain rfl:=Option.some.inj H;go_enter Tryz.func135,Tryz.ntmps135;go_wp2_with (first|(refine gL 140 4 Tryz.func140 #[.int .u8 a0] ?_;(with_reducible refine(bI.calls a0 false _ A2.out).mono ?_);rintro e w' ⟨rfl,⟨nd,rfl⟩⟩;refine⟨_,rfl,?_⟩)|(go_at_call 141;(with_reducible refine(dG.calls a0 false _ A4.out).mono ?_);rintro e w' ⟨rfl,⟨nd,rfl⟩⟩))
              go_ret;exact⟨rs,dn⟩
           ·have VB:decide (94≤a0)=false:=decide_eq_false c25;clear c25;replace H:=sp H;rcases H with⟨c28,H⟩|⟨c28,H⟩
            ·have GY:decide (123≤a0)=true:=decide_eq_true c28;clear c28;obtain rfl:=Option.some.inj H;go_enter Tryz.func135,Tryz.ntmps135;go_wp2_with (first|(refine gL 140 4 Tryz.func140 #[.int .u8 a0] ?_;(with_reducible refine(bI.calls a0 false _ A2.out).mono ?_);rintro e w' ⟨rfl,⟨nd,rfl⟩⟩;refine⟨_,rfl,?_⟩)|(go_at_call 141;(with_reducible refine(dG.calls a0 false _ A4.out).mono ?_);rintro e w' ⟨rfl,⟨nd,rfl⟩⟩))
             go_ret;exact⟨rs,dn⟩
            ·have GY:decide (123≤a0)=false:=decide_eq_false c28;clear c28;obtain rfl:=Option.some.inj H;go_enter Tryz.func135,Tryz.ntmps135;go_wp2_with (first|(refine gL 140 4 Tryz.func140 #[.int .u8 a0] ?_;(with_reducible refine(bI.calls a0 false _ A2.out).mono ?_);rintro e w' ⟨rfl,⟨nd,rfl⟩⟩;refine⟨_,rfl,?_⟩)|(go_at_call 141;(with_reducible refine(dG.calls a0 false _ A4.out).mono ?_);rintro e w' ⟨rfl,⟨nd,rfl⟩⟩))
             go_ret;exact⟨rs,dn⟩
mutual
def dI.l0:Nat→ByteArray→List ByteArray→Int→Bool→Option (List ByteArray×Bool)
 |0,_,_,_,_=>none
 |k+1,x0,x4,x5,x6=>if x5<(x0.size:Int)then(if 0≤x5 then(if(bt x0 x5)=32 then(dI.l0 k x0 x4 (wrap64 (x5+1)) true)else(if x6=true then(if(bt x0 x5)=34 then(if x5≤(x0.size:Int)then((iL.f k (x0.extract (x5:Int).toNat x0.size)).bind fun aeF=>(if aeF.2.2=true then(if x4.length<8796093022208 then(dI.l0 k x0 (x4++[aeF.1]) (wrap64 (x5+aeF.2.1)) false)else(none))else(some (([]:List ByteArray),false))))else(none))else(dI.l1 k x0 x4 x5 x5))else(some (([]:List ByteArray),false))))else(none))else(some (x4,true))
def dI.l1:Nat→ByteArray→List ByteArray→Int→Int→Option (List ByteArray×Bool)
 |0,_,_,_,_=>none
 |k+1,x0,x4,x5,x10=>if x10<(x0.size:Int)then(if 0≤x10 then((kF.f (bt x0 x10)).bind fun aqx=>(if aqx=true then(dI.l1 k x0 x4 x5 (wrap64 (x10+1)))else(if x10=x5 then(some (([]:List ByteArray),false))else(if 0≤x5 then(if x5≤x10 then(if x10≤(x0.size:Int)then(if x4.length<8796093022208 then(dI.l0 k x0 (x4++[x0.extract (x5:Int).toNat (x10:Int).toNat]) x10 false)else(none))else(none))else(none))else(none)))))else(none))else(if x10=x5 then(some (([]:List ByteArray),false))else(if 0≤x5 then(if x5≤x10 then(if x10≤(x0.size:Int)then(if x4.length<8796093022208 then(dI.l0 k x0 (x4++[x0.extract (x5:Int).toNat (x10:Int).toNat]) x10 false)else(none))else(none))else(none))else(none)))
end
def dI.f(k:Nat)(a0:ByteArray):Option (List ByteArray×Bool):=(bg.f k a0).bind fun t175=>(if t175=true then(dI.l0 k a0 (([]:List ByteArray)) 0 true)else(some (([]:List ByteArray),false)))
set_option maxHeartbeats 8000000 in
set_option maxRecDepth 100000 in
theorem dI.calls(k:Nat)(a0:ByteArray)(r1:List ByteArray)(r2:Bool)(w:World)(h:dI.f k a0=some (r1,r2)):
  Calls Tryz.prog 94 #[.string a0] w fun e w'=>∃wH:Value,e= .returned (.tuple #[wH, .bool r2])∧Kd.R Kd.string 9 w' w.heap.size (fun _=>True) wH r1∧Below w.heap.size w w':=by
 have HB:=ak (Below.refl w.heap.size w);have H:((bg.f k a0).bind fun t175=>(if t175=true then(dI.l0 k a0 (([]:List ByteArray)) 0 true)else(some (([]:List ByteArray),false))))=some (r1,r2):=h;clear h;replace H:=bd H;obtain⟨t175,A2,H⟩:=H;replace H:=sb H;rcases H with⟨rfl,H⟩|⟨rfl,H⟩
 ·obtain⟨avp,aeG⟩:=nm ([]:List ByteArray);rw[←aeG.out]at H
  (try rw[Option.bind_some]at H);have H':=ak H;clear H;go_enter Tryz.func94,Tryz.ntmps94;go_wp2_with (first|(refine gL 89 12 Tryz.func89 #[.string a0] ?_;(with_reducible refine(bg.calls k a0 true _ A2.out).mono ?_);rintro e w' ⟨rfl,⟨nd,rfl⟩⟩;refine⟨_,rfl,?_⟩)|((with_reducible refine bU (N:=14) rfl ?_);refine Kd.qg Kd.string _ 9 ?hg (N:=14) ?hd (xs:=([]:List ByteArray)) (inner:=[]) (ok:=fun _=>True) (pz:=fun _=>True) ?hr ?hp (fun _ hk=>hk) trivial (Below.refl _ _) (Nat.le_refl _) (by simp) ?_;(case hd=>rfl);(case hg=>rfl);(case hr=>first|(go_simp;done)|(go_simp;rfl));(case hp=>exact(iF.none _ _));intro az0 w4 Fg hb rQ jw;clear rQ jw;(first|rw[←aeG.out]at Fg|(simp only[Int.reduceToNat]at Fg;rw[←aeG.out]at Fg));have aqy:=ak (Kd.fA Fg (aA (ul HB.out)));replace HB:=bs HB hb;clear hb Fg))
  go_loopg [4,5,6] k (fun kq v4 v5 v6 w'=>∃(eG:List ByteArray) (aK:Int) (jX:Bool),v5= .int .i64 aK∧v6= .bool jX∧ah (dI.l0 kq a0 eG aK jX=some (r1,r2))∧ah (kq≤k)∧ah (Kd.R Kd.string 9 w' w.heap.size (fun _=>True) v4 eG)∧ah (Below w.heap.size w w'))
  case atStart=>exact⟨(avp),(0),(true),rs,rs,H',⟨Nat.le_refl _⟩,⟨ur aqy.out⟩,⟨ul HB.out⟩⟩
  case round=>
   clear H';try clear p2
   try clear c3
   obtain⟨eG,aK,jX,rfl,rfl,HA,iC,lu,HB⟩:=hrel
   cases gk with
   |zero=>exact absurd HA.out (by simp[dI.l0])
   |succ k1=>
    have H:=HA.out;clear HA;simp only[dI.l0]at H;replace H:=sd H;rcases H with⟨mW,H⟩|⟨mW,H⟩
    ·replace H:=og H;obtain⟨oJ,H⟩:=H;replace H:=sq H;rcases H with⟨wQ,Gy,H⟩|⟨c9,wQ,Gy,H⟩
     ·have H':=ak H;clear H;obtain⟨p8,q8,hx8⟩:=bx a0 aK;go_wp2;go_roundg k1
      case measure=>have:=iC.out;omega
      case rel=>exact⟨(eG),(wrap64 (aK+1)),(true),rs,rs,H',⟨by have:=iC.out;omega⟩,⟨ur lu.out⟩,⟨ul HB.out⟩⟩
     ·replace H:=sb H;rcases H with⟨rfl,H⟩|⟨rfl,H⟩
      ·replace H:=sq H;rcases H with⟨vJ,Cj,H⟩|⟨c12,vJ,Cj,H⟩
       ·have uO:=eq_true (of_decide_eq_true (by assumption):0≤aK);replace H:=EG H;obtain⟨t_,yJ,H⟩:=H;replace H:=bd H;obtain⟨⟨aeH,amO,az1⟩,A15,H⟩:=H
        (try dsimp only at H);replace H:=sb H;rcases H with⟨rfl,H⟩|⟨rfl,H⟩
        ·replace H:=nl H;obtain⟨adP,H⟩:=H;obtain⟨avq,aj8⟩:=nm (eG++[aeH]);rw[←aj8.out]at H
         (try rw[Option.bind_some]at H);have H':=ak H;clear H;obtain⟨p8,q8,hx8⟩:=bx a0 aK;obtain⟨p11,q11,Vx⟩:=bx a0 aK;go_wp2_with (first|(refine gL 134 62 Tryz.func134 #[.string (a0.extract (aK:Int).toNat a0.size)] ?_;(with_reducible refine(iL.calls k1 (a0.extract (aK:Int).toNat a0.size) aeH amO true _ A15.out).mono ?_);rintro e w18 ⟨rfl,hb⟩;refine⟨_,rfl,?_⟩;replace lu:=rb lu hb;replace HB:=bs HB hb;(try clear hb))|((with_reducible refine dD (b:= .append) (xs:=#[.tmp 68, .tmp 70]) rfl ?_);at_builtin;refine Kd.iR Kd.string (w0:=w) w.heap.size rfl (.tmp 68) (.tmp 70) 23 9 (.string ⟨#[]⟩) 16 rfl Tryz.underlying23 info9 rfl (by decide) (by omega) u4 eG aeH [.string aeH] (fun _=>True) (fun _=>False) rfl rfl ?aP (fun _ hk=>hk.elim) ?aF ?aO ?aB ?aS ?aL ?_;(case aP=>exact rfl);(case aB=>exact(ul HB.out));(case aF=>exact(fun _ _=>trivial));(case aO=>exact(ur lu.out));(case aS=>exact(aA (ul HB.out)));(case aL=>have:=adP.out;omega);intro v183 w19 ho hb hg hat;rw[←aj8.out]at ho;have iH:=ak (hb);have iI:=ak (ho);clear HB;clear lu;have HB:=iH;have aqz:=iI;clear iH iI;clear ho hb hg hat))
         go_roundg k1
         case measure=>have:=iC.out;omega
         case rel=>exact⟨(avq),(wrap64 (aK+amO)),(false),rs,rs,H',⟨by have:=iC.out;omega⟩,⟨ur aqz.out⟩,⟨ul HB.out⟩⟩
        ·simp only[Option.some.injEq,Prod.mk.injEq]at H;obtain⟨rfl,rfl⟩:=H;obtain⟨p8,q8,hx8⟩:=bx a0 aK;obtain⟨p11,q11,Vx⟩:=bx a0 aK;go_wp2_with (first|(refine gL 134 62 Tryz.func134 #[.string (a0.extract (aK:Int).toNat a0.size)] ?_;(with_reducible refine(iL.calls k1 (a0.extract (aK:Int).toNat a0.size) aeH amO false _ A15.out).mono ?_);rintro e w20 ⟨rfl,hb⟩;refine⟨_,rfl,?_⟩;replace lu:=rb lu hb;replace HB:=bs HB hb;(try clear hb)))
         go_ret2;exact⟨_,er,nx,ul HB.out⟩
       ·have H':=ak H;clear H;obtain⟨p8,q8,hx8⟩:=bx a0 aK;obtain⟨p11,q11,Vx⟩:=bx a0 aK;go_wp2;go_loopg [10] k1 (fun kq v10 w'=>∃(wL:Int),v10= .int .i64 wL∧ah (dI.l1 kq a0 eG aK wL=some (r1,r2))∧ah (kq≤k1)∧ah (Kd.R Kd.string 9 w' w.heap.size (fun _=>True) u4 eG)∧ah (Below w.heap.size w w'))
        case atStart=>exact⟨(aK),rs,H',⟨Nat.le_refl _⟩,⟨ur lu.out⟩,⟨ul HB.out⟩⟩
        case round=>
         clear H';try clear c1
         try clear p1
         try clear q1
         try clear hx1
         try clear p2
         try clear c3
         try clear c6
         try clear mW
         try clear p6
         try clear c7
         try clear oJ
         try clear c8
         try clear p8
         try clear q8
         try clear hx8
         try clear c9
         try clear wQ
         try clear Gy
         try clear c10
         try clear p11
         try clear q11
         try clear Vx
         try clear c12
         try clear vJ
         try clear Cj
         try clear c13
         try clear uO
         try clear c14
         try clear t_
         try clear yJ
         try clear c16
         try clear c17
         try clear p11
         try clear p2
         try clear p8
         try clear q11
         try clear q8
         obtain⟨wL,rfl,HA,yT,lu,HB⟩:=hrel
         cases gk with
         |zero=>exact absurd HA.out (by simp[dI.l1])
         |succ k2=>
          have H:=HA.out;clear HA;simp only[dI.l1]at H;replace H:=sd H;rcases H with⟨Eo,H⟩|⟨Eo,H⟩
          ·replace H:=og H;obtain⟨OU,H⟩:=H;replace H:=bd H;obtain⟨aqx,A24,H⟩:=H;replace H:=sb H;rcases H with⟨rfl,H⟩|⟨rfl,H⟩
           ·have H':=ak H;clear H;obtain⟨p23,q23,aqA⟩:=bx a0 wL;go_wp2_with (first|(go_at_call 135;(with_reducible refine(kF.calls (bt a0 wL) true _ A24.out).mono ?_);rintro e w' ⟨rfl,⟨nd,rfl⟩⟩))
            go_roundg k2
            case measure=>have:=iC.out;have:=yT.out;omega
            case rel=>exact⟨(wrap64 (wL+1)),rs,H',⟨by have:=iC.out;have:=yT.out;omega⟩,⟨ur lu.out⟩,⟨ul HB.out⟩⟩
           ·replace H:=sq H;rcases H with⟨OM,adr,H⟩|⟨c26,OM,adr,H⟩
            ·simp only[Option.some.injEq,Prod.mk.injEq]at H;obtain⟨rfl,rfl⟩:=H;obtain⟨p23,q23,aqA⟩:=bx a0 wL;go_wp2_with (first|(go_at_call 135;(with_reducible refine(kF.calls (bt a0 wL) false _ A24.out).mono ?_);rintro e w' ⟨rfl,⟨nd,rfl⟩⟩))
             go_ret2;exact⟨_,er,nx,ul HB.out⟩
            ·replace H:=EG H;obtain⟨IJ,ads,H⟩:=H;replace H:=EG H;obtain⟨GY,ZB,H⟩:=H;replace H:=EG H;obtain⟨ajG,axL,H⟩:=H;replace H:=nl H;obtain⟨aqB,H⟩:=H;obtain⟨avr,aj9⟩:=nm (eG++[a0.extract (aK:Int).toNat (wL:Int).toNat]);rw[←aj9.out]at H
             (try rw[Option.bind_some]at H);have H':=ak H;clear H;obtain⟨p23,q23,aqA⟩:=bx a0 wL;go_wp2_with (first|(go_at_call 135;(with_reducible refine(kF.calls (bt a0 wL) false _ A24.out).mono ?_);rintro e w' ⟨rfl,⟨nd,rfl⟩⟩)|((with_reducible refine dD (b:= .append) (xs:=#[.tmp 35, .tmp 40]) rfl ?_);at_builtin;refine Kd.iR Kd.string (w0:=w) w.heap.size rfl (.tmp 35) (.tmp 40) 23 9 (.string ⟨#[]⟩) 16 rfl Tryz.underlying23 info9 rfl (by decide) (by omega) u4 eG (a0.extract (aK:Int).toNat (wL:Int).toNat) [.string (a0.extract (aK:Int).toNat (wL:Int).toNat)] (fun _=>True) (fun _=>False) rfl rfl ?aP (fun _ hk=>hk.elim) ?aF ?aO ?aB ?aS ?aL ?_;(case aP=>exact rfl);(case aB=>exact(ul HB.out));(case aF=>exact(fun _ _=>trivial));(case aO=>exact(ur lu.out));(case aS=>exact(aA (ul HB.out)));(case aL=>have:=aqB.out;omega);intro az2 w31 ho hb hg hat;rw[←aj9.out]at ho;have iH:=ak (hb);have iI:=ak (ho);clear HB;clear lu;have HB:=iH;have aqC:=iI;clear iH iI;clear ho hb hg hat))
             go_roundg k2
             case measure=>have:=iC.out;have:=yT.out;omega
             case rel=>exact⟨(avr),(wL),(false),rs,rs,H',⟨by have:=iC.out;have:=yT.out;omega⟩,⟨ur aqC.out⟩,⟨ul HB.out⟩⟩
          ·replace H:=sq H;rcases H with⟨ZA,ajg,H⟩|⟨c32,ZA,ajg,H⟩
           ·simp only[Option.some.injEq,Prod.mk.injEq]at H;obtain⟨rfl,rfl⟩:=H;go_wp2;go_ret2;exact⟨_,er,nx,ul HB.out⟩
           ·replace H:=EG H;obtain⟨ade,ajh,H⟩:=H;replace H:=EG H;obtain⟨aji,ajj,H⟩:=H;replace H:=EG H;obtain⟨adf,ajk,H⟩:=H;replace H:=nl H;obtain⟨aqD,H⟩:=H;obtain⟨avs,aj_⟩:=nm (eG++[a0.extract (aK:Int).toNat (wL:Int).toNat]);rw[←aj_.out]at H
            (try rw[Option.bind_some]at H);have H':=ak H;clear H;go_wp2_with (first|((with_reducible refine dD (b:= .append) (xs:=#[.tmp 35, .tmp 40]) rfl ?_);at_builtin;refine Kd.iR Kd.string (w0:=w) w.heap.size rfl (.tmp 35) (.tmp 40) 23 9 (.string ⟨#[]⟩) 16 rfl Tryz.underlying23 info9 rfl (by decide) (by omega) u4 eG (a0.extract (aK:Int).toNat (wL:Int).toNat) [.string (a0.extract (aK:Int).toNat (wL:Int).toNat)] (fun _=>True) (fun _=>False) rfl rfl ?aP (fun _ hk=>hk.elim) ?aF ?aO ?aB ?aS ?aL ?_;(case aP=>exact rfl);(case aB=>exact(ul HB.out));(case aF=>exact(fun _ _=>trivial));(case aO=>exact(ur lu.out));(case aS=>exact(aA (ul HB.out)));(case aL=>have:=aqD.out;omega);intro az3 w37 ho hb hg hat;rw[←aj_.out]at ho;have iH:=ak (hb);have iI:=ak (ho);clear HB;clear lu;have HB:=iH;have aqE:=iI;clear iH iI;clear ho hb hg hat))
            go_roundg k2
            case measure=>have:=iC.out;have:=yT.out;omega
            case rel=>exact⟨(avs),(wL),(false),rs,rs,H',⟨by have:=iC.out;have:=yT.out;omega⟩,⟨ur aqE.out⟩,⟨ul HB.out⟩⟩
      ·simp only[Option.some.injEq,Prod.mk.injEq]at H;obtain⟨rfl,rfl⟩:=H;obtain⟨p8,q8,hx8⟩:=bx a0 aK;go_wp2;go_ret2;exact⟨_,er,nx,ul HB.out⟩
    ·simp only[Option.some.injEq,Prod.mk.injEq]at H;obtain⟨rfl,rfl⟩:=H;go_wp2;go_ret2;exact⟨_,er,ur lu.out,ul HB.out⟩
 ·simp only[Option.some.injEq,Prod.mk.injEq]at H;obtain⟨rfl,rfl⟩:=H;go_enter Tryz.func94,Tryz.ntmps94;go_wp2_with (first|(refine gL 89 12 Tryz.func89 #[.string a0] ?_;(with_reducible refine(bg.calls k a0 false _ A2.out).mono ?_);rintro e w' ⟨rfl,⟨nd,rfl⟩⟩;refine⟨_,rfl,?_⟩))
  go_ret2;exact⟨_,er,nx,ul HB.out⟩
def fG.f(k:Nat)(a0:ByteArray):Option (Bool):=(iJ.f k a0).bind fun ah6=>(if ah6=true then((fK.f a0).bind fun t193=>(some (t193.toList==a0.toList)))else(some false))
set_option maxHeartbeats 8000000 in
set_option maxRecDepth 100000 in
theorem fG.calls(k:Nat)(a0:ByteArray)(r:Bool)(w:World)(h:fG.f k a0=some r):
  Calls Tryz.prog 136 #[.string a0] w fun e w'=>e= .returned (.bool r)∧Below w.heap.size w w':=by
 have HB:=ak (Below.refl w.heap.size w);have H:((iJ.f k a0).bind fun ah6=>(if ah6=true then((fK.f a0).bind fun t193=>(some (t193.toList==a0.toList)))else(some false)))=some r:=h;clear h;replace H:=bd H;obtain⟨ah6,A2,H⟩:=H;replace H:=sb H;rcases H with⟨rfl,H⟩|⟨rfl,H⟩
 ·replace H:=bd H;obtain⟨t193,A4,H⟩:=H;obtain rfl:=Option.some.inj H;go_enter Tryz.func136,Tryz.ntmps136;go_wp2_with (first|(refine gL 160 4 Tryz.func160 #[.string a0] ?_;(with_reducible refine(iJ.calls k a0 true _ A2.out).mono ?_);rintro e w' ⟨rfl,⟨nd,rfl⟩⟩;refine⟨_,rfl,?_⟩)|(go_at_call 93;(with_reducible refine(fK.calls a0 t193 _ A4.out).mono ?_);rintro e w5 ⟨rfl,hb⟩;replace HB:=bs HB hb;(try clear hb)))
  go_ret;exact⟨er,ul HB.out⟩
 ·obtain rfl:=Option.some.inj H;go_enter Tryz.func136,Tryz.ntmps136;go_wp2_with (first|(refine gL 160 4 Tryz.func160 #[.string a0] ?_;(with_reducible refine(iJ.calls k a0 false _ A2.out).mono ?_);rintro e w' ⟨rfl,⟨nd,rfl⟩⟩;refine⟨_,rfl,?_⟩))
  go_ret;exact⟨er,ul HB.out⟩
def dF.l0:Nat→ByteArray→Int→Int→Option (Bool)
 |0,_,_,_=>none
 |k+1,x0,x7,x8=>if x8<x7 then(if 0≤x8 then(if x8<(x0.size:Int)then((kF.f (bt x0 x8)).bind fun t194=>(if t194=true then(dF.l0 k x0 x7 (wrap64 (x8+1)))else(some false)))else(none))else(none))else(some true)
def dF.f(k:Nat)(a0:ByteArray):Option (Bool):=dF.l0 k a0 (a0.size:Int) 0
set_option maxHeartbeats 8000000 in
set_option maxRecDepth 100000 in
theorem dF.calls(k:Nat)(a0:ByteArray)(r:Bool)(w:World)(h:dF.f k a0=some r):
  Calls Tryz.prog 138 #[.string a0, .func (.func 135) #[] #[]] w fun e w'=>e= .returned (.bool r)∧eH w w':=by
 have H:(dF.l0 k a0 (a0.size:Int) 0)=some r:=h;clear h;have H':=ak H;clear H;go_enter Tryz.func138,Tryz.ntmps138;go_wp2;go_loopg [8] k (fun kq v8 w'=>∃(iE:Int),v8= .int .i64 iE∧ah (dF.l0 kq a0 (a0.size:Int) iE=some r)∧ah (kq≤k)∧eH w w')
 case atStart=>exact⟨(0),rs,H',⟨Nat.le_refl _⟩,dn⟩
 case round=>
  clear H';try clear c2
  try clear p2
  obtain⟨iE,rfl,HA,iC,⟨m1,rfl⟩⟩:=hrel
  cases gk with
  |zero=>exact absurd HA.out (by simp[dF.l0])
  |succ k1=>
   have H:=HA.out;clear HA;simp only[dF.l0]at H;replace H:=sd H;rcases H with⟨fM,H⟩|⟨fM,H⟩
   ·replace H:=og H;obtain⟨nM,H⟩:=H;replace H:=og H;obtain⟨pU,H⟩:=H;replace H:=bd H;obtain⟨t194,A7,H⟩:=H;replace H:=sb H;rcases H with⟨rfl,H⟩|⟨rfl,H⟩
    ·have H':=ak H;clear H;obtain⟨p6,q6,hx6⟩:=bx a0 iE;go_wp2_with (first|(go_at_call 135;(with_reducible refine(kF.calls (bt a0 iE) true _ A7.out).mono ?_);rintro e w' ⟨rfl,⟨nd,rfl⟩⟩))
     go_roundg k1
     case measure=>have:=iC.out;omega
     case rel=>exact⟨(wrap64 (iE+1)),rs,H',⟨by have:=iC.out;omega⟩,dn⟩
    ·obtain rfl:=Option.some.inj H;obtain⟨p6,q6,hx6⟩:=bx a0 iE;go_wp2_with (first|(go_at_call 135;(with_reducible refine(kF.calls (bt a0 iE) false _ A7.out).mono ?_);rintro e w' ⟨rfl,⟨nd,rfl⟩⟩))
     go_ret;exact⟨rs,dn⟩
   ·obtain rfl:=Option.some.inj H;go_wp2;go_ret;exact⟨rs,dn⟩
def nJ.f(k:Nat)(a0:ByteArray):Option (Bool):=if(a0.size:Int)≥1 then(if(a0.size:Int)≤40 then((dF.f k a0).bind fun aeI=>(some aeI))else(some false))else(some false)
set_option maxHeartbeats 8000000 in
set_option maxRecDepth 100000 in
theorem nJ.calls(k:Nat)(a0:ByteArray)(r:Bool)(w:World)(h:nJ.f k a0=some r):
  Calls Tryz.prog 193 #[.string a0] w fun e w'=>e= .returned (.bool r)∧eH w w':=by
 have H:(if(a0.size:Int)≥1 then(if(a0.size:Int)≤40 then((dF.f k a0).bind fun aeI=>(some aeI))else(some false))else(some false))=some r:=h;clear h;replace H:=sp H;rcases H with⟨c2,H⟩|⟨c2,H⟩
 ·have sW:decide (1≤(a0.size:Int))=true:=decide_eq_true c2;have Dp:decide (1≤a0.size)=true:=decide_eq_true (by omega);clear c2;replace H:=sp H;rcases H with⟨c3,H⟩|⟨c3,H⟩
  ·have fM:=decide_eq_true c3;have oZ:decide (a0.size≤40)=true:=decide_eq_true (by omega);clear c3;replace H:=bd H;obtain⟨aeI,A4,H⟩:=H;obtain rfl:=Option.some.inj H;go_enter Tryz.func193,Tryz.ntmps193;go_wp2_with (first|(go_at_call 138;(with_reducible refine(dF.calls k a0 aeI _ A4.out).mono ?_);rintro e w' ⟨rfl,⟨nd,rfl⟩⟩))
   go_ret;exact⟨rs,dn⟩
  ·have fM:=decide_eq_false c3;have oZ:decide (a0.size≤40)=false:=decide_eq_false (by omega);clear c3;obtain rfl:=Option.some.inj H;go_enter Tryz.func193,Tryz.ntmps193;go_wp2;go_ret;exact⟨rs,dn⟩
 ·have sW:decide (1≤(a0.size:Int))=false:=decide_eq_false c2;have Dp:decide (1≤a0.size)=false:=decide_eq_false (by omega);clear c2;obtain rfl:=Option.some.inj H;go_enter Tryz.func193,Tryz.ntmps193;go_wp2;go_ret;exact⟨rs,dn⟩
def ig.l0:Nat→ByteArray→List Int→Int→Int→Option (ByteArray)
 |0,_,_,_,_=>none
 |k+1,x0,x3,x15,x16=>if x16<x15 then(if 0≤x16 then(if x16<(x0.size:Int)then(if(bt x0 x16)=34 then(if x3.length<140737488355328 then((some (x3++[92]:List Int)).bind fun aeJ=>(if aeJ.length<140737488355328 then(ig.l0 k x0 (aeJ++[bt x0 x16]) x15 (wrap64 (x16+1)))else(none)))else(none))else(if(bt x0 x16)=92 then(if x3.length<140737488355328 then((some (x3++[92]:List Int)).bind fun aeK=>(if aeK.length<140737488355328 then(ig.l0 k x0 (aeK++[bt x0 x16]) x15 (wrap64 (x16+1)))else(none)))else(none))else(if x3.length<140737488355328 then(ig.l0 k x0 (x3++[bt x0 x16]) x15 (wrap64 (x16+1)))else(none))))else(none))else(none))else(if x3.length<140737488355328 then(some (strOfNums (x3++[34])))else(none))
def ig.f(k:Nat)(a0:ByteArray):Option (ByteArray):=(bg.f k a0).bind fun t196=>(if t196=true then((nJ.f k a0).bind fun ah7=>(if ah7=true then(some a0)else(ig.l0 k a0 (([34]:List Int)) (a0.size:Int) 0)))else(some (⟨#[]⟩:ByteArray)))
set_option maxHeartbeats 8000000 in
set_option maxRecDepth 100000 in
theorem ig.calls(k:Nat)(a0:ByteArray)(r:ByteArray)(w:World)(h:ig.f k a0=some r):
  Calls Tryz.prog 166 #[.string a0] w fun e w'=>e= .returned (.string r)∧Below w.heap.size w w':=by
 have HB:=ak (Below.refl w.heap.size w);have H:((bg.f k a0).bind fun t196=>(if t196=true then((nJ.f k a0).bind fun ah7=>(if ah7=true then(some a0)else(ig.l0 k a0 (([34]:List Int)) (a0.size:Int) 0)))else(some (⟨#[]⟩:ByteArray))))=some r:=h;clear h;replace H:=bd H;obtain⟨t196,A2,H⟩:=H;replace H:=sb H;rcases H with⟨rfl,H⟩|⟨rfl,H⟩
 ·replace H:=bd H;obtain⟨ah7,A4,H⟩:=H;replace H:=sb H;rcases H with⟨rfl,H⟩|⟨rfl,H⟩
  ·obtain rfl:=Option.some.inj H;go_enter Tryz.func166,Tryz.ntmps166;go_wp2_with (first|(refine gL 89 7 Tryz.func89 #[.string a0] ?_;(with_reducible refine(bg.calls k a0 true _ A2.out).mono ?_);rintro e w' ⟨rfl,⟨nd,rfl⟩⟩;refine⟨_,rfl,?_⟩)|(refine gL 193 11 Tryz.func193 #[.string a0] ?_;(with_reducible refine(nJ.calls k a0 true _ A4.out).mono ?_);rintro e w' ⟨rfl,⟨nd,rfl⟩⟩;refine⟨_,rfl,?_⟩))
   go_ret;exact⟨er,ul HB.out⟩
  ·obtain⟨avt,aeL⟩:=nm ([34]:List Int);rw[←aeL.out]at H
   (try rw[Option.bind_some]at H);have H':=ak H;clear H;go_enter Tryz.func166,Tryz.ntmps166;go_wp2_with (first|(refine gL 89 7 Tryz.func89 #[.string a0] ?_;(with_reducible refine(bg.calls k a0 true _ A2.out).mono ?_);rintro e w' ⟨rfl,⟨nd,rfl⟩⟩;refine⟨_,rfl,?_⟩)|(refine gL 193 11 Tryz.func193 #[.string a0] ?_;(with_reducible refine(nJ.calls k a0 false _ A4.out).mono ?_);rintro e w' ⟨rfl,⟨nd,rfl⟩⟩;refine⟨_,rfl,?_⟩)|((with_reducible refine bU (N:=13) rfl ?_);refine Kd.qg (Kd.int .u8) _ 5 ?hg (N:=13) ?hd (xs:=([34]:List Int)) (inner:=[.int .u8 34]) (ok:=fun _=>True) (pz:=fun _=>True) ?hr ?hp (fun _ hk=>hk) trivial (Below.refl _ _) (Nat.le_refl _) (by simp) ?_;(case hd=>rfl);(case hg=>rfl);(case hr=>first|(go_simp;done)|(go_simp;rfl));(case hp=>exact(iF.one (show Kd.M (Kd.int .u8) _ _ _ 34 [.int .u8 34]from rfl) (iF.none _ _)));intro az4 w6 ho7 hb rQ jw;clear rQ jw;(first|rw[←aeL.out]at ho7|(simp only[Int.reduceToNat]at ho7;rw[←aeL.out]at ho7));have aqF:=ak (Kd.fA ho7 (aA (ul HB.out)));replace HB:=bs HB hb;clear hb ho7))
   go_loopg [3,16] k (fun kq v3 v16 w'=>∃(cO:List Int) (qo:Int),v16= .int .i64 qo∧ah (ig.l0 kq a0 cO (a0.size:Int) qo=some r)∧ah (kq≤k)∧ah (Kd.R (Kd.int .u8) 5 w' w.heap.size (fun _=>True) v3 cO)∧ah (Below w.heap.size w w'))
   case atStart=>exact⟨(avt),(0),rs,H',⟨Nat.le_refl _⟩,⟨ur aqF.out⟩,⟨ul HB.out⟩⟩
   case round=>
    clear H';try clear c1
    try clear p2
    try clear c3
    try clear c5
    obtain⟨cO,qo,rfl,HA,iC,kD,HB⟩:=hrel
    cases gk with
    |zero=>exact absurd HA.out (by simp[ig.l0])
    |succ k1=>
     have H:=HA.out;clear HA;simp only[ig.l0]at H;replace H:=sd H;rcases H with⟨uV,H⟩|⟨uV,H⟩
     ·replace H:=og H;obtain⟨wQ,H⟩:=H;replace H:=og H;obtain⟨qj,H⟩:=H;replace H:=sq H;rcases H with⟨vJ,Cj,H⟩|⟨c12,vJ,Cj,H⟩
      ·replace H:=nl H;obtain⟨aqG,H⟩:=H;obtain⟨aeJ,akb⟩:=nm (cO++[92]);rw[←akb.out]at H
       (try rw[Option.bind_some]at H);replace H:=nl H;obtain⟨aqH,H⟩:=H;obtain⟨avu,akc⟩:=nm (aeJ++[bt a0 qo]);rw[←akc.out]at H
       (try rw[Option.bind_some]at H);have H':=ak H;clear H;obtain⟨p11,q11,Vx⟩:=bx a0 qo;go_wp2_with (first|((with_reducible refine dD (b:= .append) (xs:=#[.tmp 29, .tmp 30]) rfl ?_);at_builtin;refine Kd.iR (Kd.int .u8) (w0:=w) w.heap.size rfl (.tmp 29) (.tmp 30) 22 5 (.int .u8 0) 1 rfl Tryz.underlying22 info5 rfl (by decide) (by omega) u3 cO 92 [.int .u8 92] (fun _=>True) (fun _=>False) rfl rfl ?aP (fun _ hk=>hk.elim) ?aF ?aO ?aB ?aS ?aL ?_;(case aP=>exact rfl);(case aB=>exact(ul HB.out));(case aF=>exact(fun _ _=>trivial));(case aO=>exact(ur kD.out));(case aS=>exact(aA (ul HB.out)));(case aL=>have:=aqG.out;omega);intro avv w16 ho hb hg hat;rw[←akb.out]at ho;have iH:=ak (hb);have iI:=ak (ho);clear HB;clear kD;have HB:=iH;have akd:=iI;clear iH iI;clear ho hb hg hat;have p14:0≤(qo:Int):=of_decide_eq_true (by assumption);have q14:qo<(a0.size:Int):=of_decide_eq_true (by assumption);have aoP:=tY a0 qo;replace p14:=eq_true p14;replace q14:=eq_true q14)|((with_reducible refine dD (b:= .append) (xs:=#[.tmp 32, .tmp 36]) rfl ?_);at_builtin;refine Kd.iR (Kd.int .u8) (w0:=w) w.heap.size rfl (.tmp 32) (.tmp 36) 22 5 (.int .u8 0) 1 rfl Tryz.underlying22 info5 rfl (by decide) (by omega) avv aeJ (bt a0 qo) [.int .u8 (bt a0 qo)] (fun _=>True) (fun _=>False) rfl rfl ?aP (fun _ hk=>hk.elim) ?aF ?aO ?aB ?aS ?aL ?_;(case aP=>exact rfl);(case aB=>exact(ul HB.out));(case aF=>exact(fun _ _=>trivial));(case aO=>exact(ur akd.out));(case aS=>exact(aA (ul HB.out)));(case aL=>have:=aqH.out;omega);intro az5 w17 ho hb hg hat;rw[←akc.out]at ho;have iH:=ak (hb);have iI:=ak (ho);clear HB;clear akd;have HB:=iH;have aqI:=iI;clear iH iI;clear ho hb hg hat))
       go_roundg k1
       case measure=>have:=iC.out;omega
       case rel=>exact⟨(avu),(wrap64 (qo+1)),rs,H',⟨by have:=iC.out;omega⟩,⟨ur aqI.out⟩,⟨ul HB.out⟩⟩
      ·replace H:=sq H;rcases H with⟨yH,AY,H⟩|⟨c19,yH,AY,H⟩
       ·replace H:=nl H;obtain⟨aeM,H⟩:=H;obtain⟨aeK,ake⟩:=nm (cO++[92]);rw[←ake.out]at H
        (try rw[Option.bind_some]at H);replace H:=nl H;obtain⟨aqJ,H⟩:=H;obtain⟨avw,akf⟩:=nm (aeK++[bt a0 qo]);rw[←akf.out]at H
        (try rw[Option.bind_some]at H);have H':=ak H;clear H;obtain⟨p11,q11,Vx⟩:=bx a0 qo;obtain⟨p18,q18,aqo⟩:=bx a0 qo;go_wp2_with (first|((with_reducible refine dD (b:= .append) (xs:=#[.tmp 29, .tmp 30]) rfl ?_);at_builtin;refine Kd.iR (Kd.int .u8) (w0:=w) w.heap.size rfl (.tmp 29) (.tmp 30) 22 5 (.int .u8 0) 1 rfl Tryz.underlying22 info5 rfl (by decide) (by omega) u3 cO 92 [.int .u8 92] (fun _=>True) (fun _=>False) rfl rfl ?aP (fun _ hk=>hk.elim) ?aF ?aO ?aB ?aS ?aL ?_;(case aP=>exact rfl);(case aB=>exact(ul HB.out));(case aF=>exact(fun _ _=>trivial));(case aO=>exact(ur kD.out));(case aS=>exact(aA (ul HB.out)));(case aL=>have:=aeM.out;omega);intro v208 w23 ho hb hg hat;rw[←ake.out]at ho;have iH:=ak (hb);have iI:=ak (ho);clear HB;clear kD;have HB:=iH;have akg:=iI;clear iH iI;clear ho hb hg hat;have p21:0≤(qo:Int):=of_decide_eq_true (by assumption);have q21:qo<(a0.size:Int):=of_decide_eq_true (by assumption);have az6:=tY a0 qo;replace p21:=eq_true p21;replace q21:=eq_true q21)|((with_reducible refine dD (b:= .append) (xs:=#[.tmp 32, .tmp 36]) rfl ?_);at_builtin;refine Kd.iR (Kd.int .u8) (w0:=w) w.heap.size rfl (.tmp 32) (.tmp 36) 22 5 (.int .u8 0) 1 rfl Tryz.underlying22 info5 rfl (by decide) (by omega) v208 aeK (bt a0 qo) [.int .u8 (bt a0 qo)] (fun _=>True) (fun _=>False) rfl rfl ?aP (fun _ hk=>hk.elim) ?aF ?aO ?aB ?aS ?aL ?_;(case aP=>exact rfl);(case aB=>exact(ul HB.out));(case aF=>exact(fun _ _=>trivial));(case aO=>exact(ur akg.out));(case aS=>exact(aA (ul HB.out)));(case aL=>have:=aqJ.out;omega);intro az7 w24 ho hb hg hat;rw[←akf.out]at ho;have iH:=ak (hb);have iI:=ak (ho);clear HB;clear akg;have HB:=iH;have aqK:=iI;clear iH iI;clear ho hb hg hat))
        go_roundg k1
        case measure=>have:=iC.out;omega
        case rel=>exact⟨(avw),(wrap64 (qo+1)),rs,H',⟨by have:=iC.out;omega⟩,⟨ur aqK.out⟩,⟨ul HB.out⟩⟩
       ·replace H:=nl H;obtain⟨aqL,H⟩:=H;obtain⟨avx,akh⟩:=nm (cO++[bt a0 qo]);rw[←akh.out]at H
        (try rw[Option.bind_some]at H);have H':=ak H;clear H;obtain⟨p11,q11,Vx⟩:=bx a0 qo;obtain⟨p18,q18,aqo⟩:=bx a0 qo;obtain⟨p25,q25,hx25⟩:=bx a0 qo;go_wp2_with (first|((with_reducible refine dD (b:= .append) (xs:=#[.tmp 32, .tmp 36]) rfl ?_);at_builtin;refine Kd.iR (Kd.int .u8) (w0:=w) w.heap.size rfl (.tmp 32) (.tmp 36) 22 5 (.int .u8 0) 1 rfl Tryz.underlying22 info5 rfl (by decide) (by omega) u3 cO (bt a0 qo) [.int .u8 (bt a0 qo)] (fun _=>True) (fun _=>False) rfl rfl ?aP (fun _ hk=>hk.elim) ?aF ?aO ?aB ?aS ?aL ?_;(case aP=>exact rfl);(case aB=>exact(ul HB.out));(case aF=>exact(fun _ _=>trivial));(case aO=>exact(ur kD.out));(case aS=>exact(aA (ul HB.out)));(case aL=>have:=aqL.out;omega);intro az8 w27 ho hb hg hat;rw[←akh.out]at ho;have iH:=ak (hb);have iI:=ak (ho);clear HB;clear kD;have HB:=iH;have aqM:=iI;clear iH iI;clear ho hb hg hat))
        go_roundg k1
        case measure=>have:=iC.out;omega
        case rel=>exact⟨(avx),(wrap64 (qo+1)),rs,H',⟨by have:=iC.out;omega⟩,⟨ur aqM.out⟩,⟨ul HB.out⟩⟩
     ·replace H:=nl H;obtain⟨aqN,H⟩:=H;obtain⟨az9,aki⟩:=nm (cO++[34]);rw[←aki.out]at H
      (try rw[Option.bind_some]at H);obtain rfl:=Option.some.inj H;go_wp2_with (first|((with_reducible refine dD (b:= .append) (xs:=#[.tmp 39, .tmp 40]) rfl ?_);at_builtin;refine Kd.iR (Kd.int .u8) (w0:=w) w.heap.size rfl (.tmp 39) (.tmp 40) 22 5 (.int .u8 0) 1 rfl Tryz.underlying22 info5 rfl (by decide) (by omega) u3 cO 34 [.int .u8 34] (fun _=>True) (fun _=>False) rfl rfl ?aP (fun _ hk=>hk.elim) ?aF ?aO ?aB ?aS ?aL ?_;(case aP=>exact rfl);(case aB=>exact(ul HB.out));(case aF=>exact(fun _ _=>trivial));(case aO=>exact(ur kD.out));(case aS=>exact(aA (ul HB.out)));(case aL=>have:=aqN.out;omega);intro az_ w29 ho hb hg hat;rw[←aki.out]at ho;have iH:=ak (hb);have iI:=ak (ho);clear HB;clear kD;have HB:=iH;have aqO:=iI;clear iH iI;clear ho hb hg hat;have axM:=zL (P:=Tryz.prog) Tryz.underlying22 Tryz.underlying5 Tryz.underlying9 (Kd.zM aqO.out)))
      go_ret;exact⟨er,ul HB.out⟩
 ·obtain rfl:=Option.some.inj H;go_enter Tryz.func166,Tryz.ntmps166;go_wp2_with (first|(refine gL 89 7 Tryz.func89 #[.string a0] ?_;(with_reducible refine(bg.calls k a0 false _ A2.out).mono ?_);rintro e w' ⟨rfl,⟨nd,rfl⟩⟩;refine⟨_,rfl,?_⟩))
  go_ret;exact⟨er,ul HB.out⟩
def fP.l0:Nat→ByteArray→List (jl)→Int→Int→Option (ByteArray)
 |0,_,_,_,_=>none
 |k+1,x3,VX,x14,x15=>if x15<x14 then(if 0≤x15 then(if x15<(VX.length:Int)then(if 2+((aH VX x15).f0).size≤9223372036854775807 then(if((⟨#[59,32]⟩:ByteArray)++((aH VX x15).f0)).size+1≤9223372036854775807 then((ig.f k ((aH VX x15).f1)).bind fun t222=>(if(((⟨#[59,32]⟩:ByteArray)++((aH VX x15).f0))++(⟨#[61]⟩:ByteArray)).size+t222.size≤9223372036854775807 then(if x3.size+((((⟨#[59,32]⟩:ByteArray)++((aH VX x15).f0))++(⟨#[61]⟩:ByteArray))++t222).size≤9223372036854775807 then(fP.l0 k (x3++((((⟨#[59,32]⟩:ByteArray)++((aH VX x15).f0))++(⟨#[61]⟩:ByteArray))++t222)) VX x14 (wrap64 (x15+1)))else(none))else(none)))else(none))else(none))else(none))else(none))else(some x3)
def fP.f(k:Nat)(aY:ByteArray)(bf:ByteArray)(aC:List (jl)):Option (ByteArray):=if aY.size+1≤9223372036854775807 then(if(aY++(⟨#[47]⟩:ByteArray)).size+bf.size≤9223372036854775807 then(fP.l0 k ((aY++(⟨#[47]⟩:ByteArray))++bf) aC (aC.length:Int) 0)else(none))else(none)
def fP.T5:Bool×List (List Nat×List Nat):=(true,[([],[]),([],[]),([1],[1]),([2],[2]),([3],[3]),([],[]),([5],[5]),([6],[6]),([4,7],[4,7]),([0,8],[0,8]),([9,7,0,1,2,3,4,5,6,7,8,9],[0,9])])
def fP.B5:List Nat:=[0,0,2,6,14,0,32,96,254,511,1023]
theorem fP.avm:sZ .any (opsOf Tryz.f137 5)=fP.T5:=by kernel_rfl
theorem fP.aqr:pW fP.T5.2 fP.B5=true:=by kernel_rfl
set_option maxHeartbeats 8000000 in
set_option maxRecDepth 100000 in
theorem fP.calls(k:Nat)(aY:ByteArray)(bf:ByteArray)(fF:Option Addr)(dR:Nat)(aC:List (jl))(r:ByteArray)(w:World)(jL:Kd.C pV w fF aC.length aC)(jM:aC.length≤dR)(h:fP.f k aY bf aC=some r):
  Calls Tryz.prog 137 #[.agg #[.string aY, .string bf, .slice fF aC.length dR]] w fun e w'=>e= .returned (.string r)∧Below w.heap.size w w':=by
 have VH:=Tryz.underlying61;have Dq:=Tryz.underlying69;have jc:=ak jL;have kC:=ak jM;clear jL jM;have HB:=ak (Below.refl w.heap.size w);have H:(if aY.size+1≤9223372036854775807 then(if(aY++(⟨#[47]⟩:ByteArray)).size+bf.size≤9223372036854775807 then(fP.l0 k ((aY++(⟨#[47]⟩:ByteArray))++bf) aC (aC.length:Int) 0)else(none))else(none))=some r:=h;clear h;replace H:=nn H;obtain⟨c2,H⟩:=H;have sW:=eq_true c2;have Dp:=decide_eq_true c2;try have adY:(9223372036854775807<aY.size+1)=False:=eq_false (Nat.not_lt.2 c2)
 replace H:=nn H;obtain⟨c3,H⟩:=H;have fM:=eq_true c3;have oZ:=decide_eq_true c3;try have aAa:(9223372036854775807<aY.size+1+bf.size)=False:=by have h_:=(eq_false (Nat.not_lt.2 c3):(9223372036854775807<(aY++(⟨#[47]⟩:ByteArray)).size+bf.size)=False);simp only[ByteArray.size_append]at h_;exact h_
 try have Nl:(9223372036854775807<(aY++(⟨#[47]⟩:ByteArray)).size+bf.size)=False:=eq_false (Nat.not_lt.2 c3)
 have H':=ak H;clear H;go_enter Tryz.func137,Tryz.ntmps137;go_wp2_with (first|(refine bE 1 #[.string aY, .string bf, .slice fF aC.length dR] 61 ?_;intro aaX hg w4 hbox hb;have yL:=ak (hbox);have axN:=jY HB hg;have axO:=jY HB hg;replace HB:=bs HB hb;clear hb hbox hg;obtain⟨Xq,Xr,acU,Xt,Xu,acV⟩:=jP yL.out))
 go_loopg [3,15] k (fun kq v3 v15 w'=>∃(cO:ByteArray) (nY:Int),v3= .string cO∧v15= .int .i64 nY∧ah (fP.l0 kq cO aC (aC.length:Int) nY=some r)∧ah (kq≤k)∧ah (w'.heap[aaX]? =some (.cells #[.string aY, .string bf,(.slice fF aC.length dR)] 61 (0,0)))∧ah (Below w.heap.size w w'))
 case atStart=>exact⟨((aY++(⟨#[47]⟩:ByteArray))++bf),(0),rs,rs,H',⟨Nat.le_refl _⟩,⟨ub yL.out⟩,⟨bb⟩⟩
 case round=>
  clear H';try clear c1
  try clear c2
  try clear sW
  try clear Dp
  try clear adY
  try clear p2
  try clear c3
  try clear fM
  try clear oZ
  try clear Nl
  try clear Xq
  try clear Xr
  try clear acU
  try clear Xt
  try clear Xu
  try clear acV
  obtain⟨cO,nY,rfl,rfl,HA,iC,yL,HB⟩:=hrel
  cases gk with
  |zero=>exact absurd HA.out (by simp[fP.l0])
  |succ k1=>
   have H:=HA.out;clear HA;simp only[fP.l0]at H;replace H:=sd H;rcases H with⟨mW,H⟩|⟨mW,H⟩
   ·replace H:=og H;obtain⟨oJ,H⟩:=H;replace H:=og H;obtain⟨uV,H⟩:=H;replace H:=nn H;obtain⟨c9,H⟩:=H;have wQ:=eq_true c9;have Gy:=decide_eq_true c9;try have ahF:(9223372036854775807<2+((aH aC nY).f0).size)=False:=eq_false (Nat.not_lt.2 c9)
    replace H:=nn H;obtain⟨c10,H⟩:=H;have qj:=eq_true c10;have vI:=decide_eq_true c10;try have aoN:(9223372036854775807<2+((aH aC nY).f0).size+1)=False:=by have h_:=(eq_false (Nat.not_lt.2 c10):(9223372036854775807<((⟨#[59,32]⟩:ByteArray)++((aH aC nY).f0)).size+1)=False);simp only[ByteArray.size_append]at h_;exact h_
    try have ado:(9223372036854775807<((⟨#[59,32]⟩:ByteArray)++((aH aC nY).f0)).size+1)=False:=eq_false (Nat.not_lt.2 c10)
    replace H:=bd H;obtain⟨t222,A11,H⟩:=H;replace H:=nn H;obtain⟨c12,H⟩:=H;have vJ:=eq_true c12;have Cj:=decide_eq_true c12;try have axP:(9223372036854775807<2+((aH aC nY).f0).size+1+t222.size)=False:=by have h_:=(eq_false (Nat.not_lt.2 c12):(9223372036854775807<(((⟨#[59,32]⟩:ByteArray)++((aH aC nY).f0))++(⟨#[61]⟩:ByteArray)).size+t222.size)=False);simp only[ByteArray.size_append]at h_;exact h_
    try have axQ:(9223372036854775807<(((⟨#[59,32]⟩:ByteArray)++((aH aC nY).f0))++(⟨#[61]⟩:ByteArray)).size+t222.size)=False:=eq_false (Nat.not_lt.2 c12)
    replace H:=nn H;obtain⟨c13,H⟩:=H;have uO:=eq_true c13;have yI:=decide_eq_true c13;try have aon:(9223372036854775807<cO.size+(2+((aH aC nY).f0).size+1+t222.size))=False:=by have h_:=(eq_false (Nat.not_lt.2 c13):(9223372036854775807<cO.size+((((⟨#[59,32]⟩:ByteArray)++((aH aC nY).f0))++(⟨#[61]⟩:ByteArray))++t222).size)=False);simp only[ByteArray.size_append]at h_;exact h_
    try have acY:(9223372036854775807<cO.size+((((⟨#[59,32]⟩:ByteArray)++((aH aC nY).f0))++(⟨#[61]⟩:ByteArray))++t222).size)=False:=eq_false (Nat.not_lt.2 c13)
    have H':=ak H;clear H;have amP:=zi nY;have amQ:=zj nY aC.length;obtain⟨aqP,e220,aaY,aaZ⟩:=nC jc.out nY amP amQ;cases e220;replace aaY:=cl HB.out aaY;replace aaZ:=cl HB.out aaZ;replace amP:=eq_true amP;replace amQ:=eq_true amQ;try go_wp2_with (first|(refine bE 5 #[.string (⟨#[]⟩:ByteArray), .string (⟨#[]⟩:ByteArray)] 69 ?_;intro z_ hg Q9 hbox hb;have CS:=ak (hbox);have axR:=ak ((by rw[hg];exact(aA bb):w.heap.size≤z_));have axS:=ak ((by rw[hg];exact(aA bb):w.heap.size≤z_));have LD:=ak ((by rw[hg];exact Nat.ne_of_lt (fC (ub yL.out)):aaX≠z_));have abX:=ak ((by rw[hg];exact Nat.ne_of_gt (fC (ub yL.out)):z_≠aaX));replace yL:=kb yL hb;replace HB:=ak (aG bb hb);clear hb hbox hg;have axT:=abX.out;have axU:=LD.out;obtain⟨N9,N_,Oa,Ob⟩:=wO CS.out))
    have iH:ah (((Q9.setCell ⟨z_,0,none⟩ (.string ((aH aC nY).f0))).setCell ⟨z_,1,none⟩ (.string ((aH aC nY).f1))).heap[aaX]? =some (.cells #[.string aY, .string bf, .slice (some aqP) aC.length dR] 61 (0,0))):=⟨by(with_reducible repeat(first|refine au ?_ _|refine ay ?_|refine aj ?_ _));refine f_ ?_ LD.out _;(with_reducible repeat(first|refine au ?_ _|refine ay ?_|refine aj ?_ _));refine f_ ?_ LD.out _;(with_reducible repeat(first|refine au ?_ _|refine ay ?_|refine aj ?_ _));exact yL.out⟩
    have iI:ah (((Q9.setCell ⟨z_,0,none⟩ (.string ((aH aC nY).f0))).setCell ⟨z_,1,none⟩ (.string ((aH aC nY).f1))).heap[z_]? =some (.cells #[.string ((aH aC nY).f0), .string ((aH aC nY).f1)] 69 (0,0))):=⟨by(with_reducible repeat(first|refine au ?_ _|refine ay ?_|refine aj ?_ _));refine bK (cs:=#[.string ((aH aC nY).f0), .string (⟨#[]⟩:ByteArray)]) ?_ 1 _ rfl;(with_reducible repeat(first|refine au ?_ _|refine ay ?_|refine aj ?_ _));refine bK (cs:=#[.string (⟨#[]⟩:ByteArray), .string (⟨#[]⟩:ByteArray)]) ?_ 0 _ rfl;(with_reducible repeat(first|refine au ?_ _|refine ay ?_|refine aj ?_ _));exact CS.out⟩
    have lS:ah (Below w.heap.size w ((Q9.setCell ⟨z_,0,none⟩ (.string ((aH aC nY).f0))).setCell ⟨z_,1,none⟩ (.string ((aH aC nY).f1)))):=⟨bb⟩
    (try clear yL)
    (try clear CS)
    (try clear HB)
    generalize ((Q9.setCell ⟨z_,0,none⟩ (.string ((aH aC nY).f0))).setCell ⟨z_,1,none⟩ (.string ((aH aC nY).f1)))=w17 at iH iI lS⊢
    have yL:=iH;have CS:=iI;have HB:=lS;clear iH iI lS;replace yL:=ak (ay yL.out);replace CS:=ak (ay CS.out);replace HB:=ak (eY HB.out);refine ro [7] [0,1,5,2,3,4,6,7,8,9,10] (fun w'=>w'.cell? ⟨z_,0,none⟩=some (.string ((aH aC nY).f0))∧w'.cell? ⟨z_,1,none⟩=some (.string ((aH aC nY).f1))) ⟨(aI CS.out 0).trans rfl,(aI CS.out 1).trans rfl⟩ ?_
    generalize w17.drew=w18 at yL CS HB⊢
    repeat(refine lk (v:=?_) (a':=?_) (gk.trans rfl) rfl rfl ?_ ?_ ?_;rotate_left;(focus (rintro w' ⟨s0,s1⟩;go_simp;with_reducible rfl));rotate_left;(focus (simp only[Act.put,jI,jJ,l_c,bC,bH];rfl)))
    refine ld (N:=some 26) (gk.trans rfl) rfl rfl (fun K hK=>?_);refine nD Tryz.func166 (by kernel_rfl) rfl #[.string ((aH aC nY).f1)] (by rfl) rfl rfl ma ?_
    with_reducible refine(ig.calls k1 ((aH aC nY).f1) t222 _ A11.out).mono ?_
    rintro e w19 ⟨rfl,hb⟩;refine⟨_,rfl,?_⟩;replace yL:=kb yL hb;replace CS:=kb CS hb;replace HB:=ak (aG bb hb)
    (try clear hb);refine hK.out _ _ ⟨(aI CS.out 0).trans rfl,(aI CS.out 1).trans rfl⟩ ?_;clear hK K;refine no (a':=?_) ?_ ?_
    rotate_left
    ·show Act.put _ (some 26) _=_
     simp only[Act.put,jI,jJ,l_c,bC,bH];rfl
    repeat(refine lk (v:=?_) (a':=?_) (gk.trans rfl) rfl rfl ?_ ?_ ?_;rotate_left;(focus (rintro w' ⟨s0,s1⟩;go_simp;with_reducible rfl));rotate_left;(focus (simp only[Act.put,jI,jJ,l_c,bC,bH];rfl)))
    refine on ?_;try go_wp2
    go_roundg k1
    case measure=>have:=iC.out;omega
    case rel=>exact⟨(cO++((((⟨#[59,32]⟩:ByteArray)++((aH aC nY).f0))++(⟨#[61]⟩:ByteArray))++t222)),(wrap64 (nY+1)),rs,rs,H',⟨by have:=iC.out;omega⟩,⟨ub yL.out⟩,⟨bb⟩⟩
   ·obtain rfl:=Option.some.inj H;go_wp2;go_ret;exact⟨er,bb⟩
end Go.Proofs.YtncdadcmghglkaaGreatDoor.PFnExactFormatPart
