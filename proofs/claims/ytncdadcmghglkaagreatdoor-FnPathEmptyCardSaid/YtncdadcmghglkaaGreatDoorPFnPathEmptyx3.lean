/- Printed walks; conditions: those in each statement. -/
import Derived.Test.YtncdadcmghglkaaGreatDoorVFnPathEmptyQt
import Derived.Test.YtncdadcmghglkaaGreatDoorVFnPathEmptyYt
import Derived.Test.YtncdadcmghglkaaGreatDoorPFnPathEmptyx0
-- fixed
-- short
-- dense
-- sq
-- sq2
namespace Go.Proofs.YtncdadcmghglkaaGreatDoor.PFnPathEmpty
open Go.RowKit Go.Proofs.YtncdadcmghglkaaGreatDoor.X Go.Proofs.YtncdadcmghglkaaGreatDoorW.dJ Go.Proofs.YtncdadcmghglkaaGreatDoorW.kX Go.Proofs.YtncdadcmghglkaaGreatDoorW.oI
attribute [local go_sem] wX wY zS zT uJ uK wZ xg   -- for this text's walks alone
set_option linter.unusedVariables false
set_option maxHeartbeats 8000000
set_option maxRecDepth 100000
set_option linter.unusedSimpArgs false
def oH.f (k:Nat) (eH:ByteArray) (fA:ByteArray):Option (Bool):=(qY.f k eH fA).bind fun azz=>(some (!azz))
theorem oH.calls {k:Nat} {eH fA:ByteArray} {r:Bool} {w:World} (h:oH.f k eH fA=some r):
  Calls Tryz.prog 119 #[.agg #[.string eH, .string fA]] w fun e w'=>e= .returned (.bool r)∧Below w.heap.size w w':=by
 have FZ:=Tryz.underlying69;have HB:=ak (Below.refl w.heap.size w);unfold oH.f at h;have H:=h;clear h;replace H:=bd H;obtain⟨azz,A2,H⟩:=H;obtain rfl:=s1 H;go_enter Tryz.func119,Tryz.ntmps119;go_wp2_with (first|(refine bX HB 1 #[.string eH, .string fA] 69 ?_;intro aIA w3 ajO aIB hb;replace HB:=bs HB hb;clear hb;have z4:=CO ajO.out)|(refine gB Tryz.func120 (qY.calls A2.out) ?_;intro w5 hb;replace ajO:=kb ajO hb;replace HB:=bz HB hb;clear hb))
 go_ret;exact⟨er,bb⟩
def bZ.l0:Nat→List (fO)→Int→Int→Option (Int)
 |0,_,_,_=>none
 |k+1,x0,x7,x8=>if x8<x7 then(if 0≤x8 then(if x8<(x0.length:Int)then((oH.f k ((dU x0 x8).f0) ((dU x0 x8).f1)).bind fun azA=>(if azA=true then(some x8)else(bZ.l0 k x0 x7 (wrap64 (x8+1)))))else(none))else(none))else(some (-1))
def bZ.f (k:Nat) (l0:List (fO)):Option (Int):=bZ.l0 k l0 (l0.length:Int) 0
theorem bZ.calls {k c0:Nat} {A0:Option Addr} {l0:List (fO)} {r:Int} {w:World} (hr0:Kd.C oz w A0 l0.length l0) (hc0:l0.length≤c0) (h:bZ.f k l0=some r):
  Calls Tryz.prog 122 #[.slice A0 l0.length c0, .func (.func 119) #[] #[]] w fun e w'=>e= .returned (.int .i64 r)∧Below w.heap.size w w':=by
 have FZ:=Tryz.underlying69;have HR0:=ak hr0;have zx:=ak hc0;clear hr0 hc0;have HB:=ak (Below.refl w.heap.size w);unfold bZ.f at h;have H:=h;clear h;have H':=ak H;clear H;go_enter Tryz.func122,Tryz.ntmps122;go_wp2;go_loopg [8] k (fun kq v8 w'=>∃(lC:Int),v8= .int .i64 lC∧ah (bZ.l0 kq l0 (l0.length:Int) lC=some r)∧ah (kq≤k)∧ah (Below w.heap.size w w'))
 case atStart=>exact⟨_,rs,H',⟨Nat.le_refl _⟩,⟨ul HB.out⟩⟩
 case round=>
  clear H';obtain⟨lC,rfl,HA,yH,HB⟩:=hrel
  cases gk with
  |zero=>exact zz HA.out
  |succ k1=>
   obtain⟨H⟩:=HA;simp only[bZ.l0]at H;replace H:=sd H;rcases H with⟨iT,H⟩|⟨iT,H⟩
   ·replace H:=oG H;obtain⟨qW,H⟩:=H;replace H:=oG H;obtain⟨nT,H⟩:=H;replace H:=bd H;obtain⟨azA,A6,H⟩:=H;replace H:=sb H;rcases H with⟨rfl,H⟩|⟨rfl,H⟩
    ·obtain rfl:=s1 H;have ac0:=zi lC;have ac1:=zj lC l0.length;obtain⟨azB,ate,OE,OG⟩:=qB HR0.out lC ac0 ac1;cases ate;replace OE:=cl HB.out OE;replace OG:=cl HB.out OG;replace ac0:=eq_true ac0;replace ac1:=eq_true ac1;go_wp2_with (go_at_call 119;refine mB (oH.calls A6.out) ?_;intro w8 hb;replace HB:=bs HB hb;clear hb)
     go_ret;exact⟨er,ul HB.out⟩
    ·have H':=ak H;clear H;have ac0:=zi lC;have ac1:=zj lC l0.length;obtain⟨azB,ate,OE,OG⟩:=qB HR0.out lC ac0 ac1;cases ate;replace OE:=cl HB.out OE;replace OG:=cl HB.out OG;replace ac0:=eq_true ac0;replace ac1:=eq_true ac1;go_wp2_with (go_at_call 119;refine mB (oH.calls A6.out) ?_;intro w9 hb;replace HB:=bs HB hb;clear hb)
     go_roundg k1
     case measure=>exact kl
     case rel=>exact⟨_,rs,H',⟨kl⟩,⟨ul HB.out⟩⟩
   ·obtain rfl:=s1 H;go_wp2;go_ret;exact⟨er,ul HB.out⟩
def jY.f (k:Nat) (l0:List (fO)):Option (Bool):=(bZ.f k l0).bind fun azC=>(some (decide (azC≥0)))
theorem jY.calls {k c0:Nat} {A0:Option Addr} {l0:List (fO)} {r:Bool} {w:World} (hr0:Kd.C oz w A0 l0.length l0) (hc0:l0.length≤c0) (h:jY.f k l0=some r):
  Calls Tryz.prog 118 #[.slice A0 l0.length c0, .func (.func 119) #[] #[]] w fun e w'=>e= .returned (.bool r)∧Below w.heap.size w w':=by
 have HR0:=ak hr0;have zx:=ak hc0;clear hr0 hc0;have HB:=ak (Below.refl w.heap.size w);unfold jY.f at h;have H:=h;clear h;replace H:=bd H;obtain⟨azC,A3,H⟩:=H;obtain rfl:=s1 H;go_enter Tryz.func118,Tryz.ntmps118;go_wp2_with (refine gB Tryz.func122 (bZ.calls (cu HR0.out) zx.out A3.out) ?_;intro w4 hb;replace HB:=bs HB hb;clear hb)
 go_ret;exact⟨er,ul HB.out⟩
def oP.f (k:Nat) (l0:List (fO)):Option (Bool):=if(l0.length:Int)≤20 then((jY.f k l0).bind fun t124=>(some (!t124)))else(some false)
theorem oP.calls {k c0:Nat} {A0:Option Addr} {l0:List (fO)} {r:Bool} {w:World} (hr0:Kd.C oz w A0 l0.length l0) (hc0:l0.length≤c0) (h:oP.f k l0=some r):
  Calls Tryz.prog 82 #[.slice A0 l0.length c0] w fun e w'=>e= .returned (.bool r)∧Below w.heap.size w w':=by
 have HR0:=ak hr0;have zx:=ak hc0;clear hr0 hc0;have HB:=ak (Below.refl w.heap.size w);unfold oP.f at h;have H:=h;clear h;replace H:=sp H;rcases H with⟨c2,H⟩|⟨c2,H⟩
 ·have qO:=decide_eq_true c2;have zM:decide (l0.length≤20)=true:=decide_eq_true (by omega);clear c2;replace H:=bd H;obtain⟨t124,A3,H⟩:=H;obtain rfl:=s1 H;go_enter Tryz.func82,Tryz.ntmps82;go_wp2_with (go_at_call 118;refine mB (jY.calls (cu HR0.out) zx.out A3.out) ?_;intro w4 hb;replace HB:=bs HB hb;clear hb)
  go_ret;exact⟨er,ul HB.out⟩
 ·have qO:=decide_eq_false c2;have zM:decide (l0.length≤20)=false:=decide_eq_false (by omega);clear c2;obtain rfl:=s1 H;go_enter Tryz.func82,Tryz.ntmps82;go_wp2;go_ret;exact⟨er,ul HB.out⟩
mutual
def aZ.j0:Nat→ByteArray→Int→Option (List ByteArray)
 |0,_,_=>none
 |k+1,x3,x4=>aZ.l0 k x3 x4 (([]:List ByteArray))
def aZ.l0:Nat→ByteArray→Int→List ByteArray→Option (List ByteArray)
 |0,_,_,_=>none
 |k+1,x3,x4,x5=>if(x3.size:Int)>40 then(aZ.l1 k x3 x5 (-1) x4)else(if x5.length<8796093022208 then(some (x5++[x3]))else(none))
def aZ.l1:Nat→ByteArray→List ByteArray→Int→Int→Option (List ByteArray)
 |0,_,_,_,_=>none
 |k+1,x3,x5,x6,x7=>if(wrap64 (x7+1))<(x3.size:Int)then(if 0≤x7 then(if x7<(x3.size:Int)then(if(bt x3 x7)=32 then(if 0≤(wrap64 (x7-1))then(if(wrap64 (x7-1))<(x3.size:Int)then(if(bt x3 (wrap64 (x7-1)))=32 then(aZ.l1 k x3 x5 x6 (wrap64 (x7+1)))else(if 0≤(wrap64 (x7+1))then(if(bt x3 (wrap64 (x7+1)))=32 then(aZ.l1 k x3 x5 x6 (wrap64 (x7+1)))else(if x6<0 then(aZ.l1 k x3 x5 x7 (wrap64 (x7+1)))else(if x7≤40 then(aZ.l1 k x3 x5 x7 (wrap64 (x7+1)))else(aZ.l1 k x3 x5 x6 (wrap64 (x7+1))))))else(none)))else(none))else(none))else(aZ.l1 k x3 x5 x6 (wrap64 (x7+1))))else(none))else(none))else(if x6<0 then(if x5.length<8796093022208 then(some (x5++[x3]))else(none))else(if 0≤x6 then(if x6≤(x3.size:Int)then(if x5.length<8796093022208 then(aZ.l0 k (x3.extract (x6:Int).toNat x3.size) 2 (x5++[x3.extract 0 (x6:Int).toNat]))else(none))else(none))else(none)))
end
def aZ.f (k:Nat) (eH:ByteArray) (fA:ByteArray):Option (List ByteArray):=if eH.size+1≤9223372036854775807 then(if fA.toList=([]:List UInt8)then(aZ.j0 k (eH++(⟨#[58]⟩:ByteArray)) (wrap64 ((eH.size:Int)+3)))else(if 1+fA.size≤9223372036854775807 then(if(eH++(⟨#[58]⟩:ByteArray)).size+((⟨#[32]⟩:ByteArray)++fA).size≤9223372036854775807 then(aZ.j0 k ((eH++(⟨#[58]⟩:ByteArray))++((⟨#[32]⟩:ByteArray)++fA)) (wrap64 ((eH.size:Int)+3)))else(none))else(none)))else(none)
theorem aZ.calls {k:Nat} {eH fA:ByteArray} {r:List ByteArray} {w:World} (h:aZ.f k eH fA=some r):
  Calls Tryz.prog 83 #[.agg #[.string eH, .string fA]] w fun e w'=>∃o7:Value,e= .returned (o7)∧Kd.R Kd.string 9 w' w.heap.size (fun _=>True) o7 r∧Below w.heap.size w w':=by
 have FZ:=Tryz.underlying69;have HB:=ak (Below.refl w.heap.size w);unfold aZ.f at h;have H:=h;clear h;replace H:=nn H;obtain⟨c2,H⟩:=H;have qO:=eq_true c2;have zM:=decide_eq_true c2;try have ajP:(9223372036854775807<eH.size+1)=False:=eq_false (Nat.not_lt.2 c2)
 have Uc:=ak H;clear H;go_enter Tryz.func83,Tryz.ntmps83;try go_wp2_with (refine bX HB 1 #[.string eH, .string fA] 69 ?_;intro Rn w4 rG aIC hb;replace HB:=bs HB hb;clear hb)
 refine rO [] [0,3,1,2,7,4,5,6,8] (fun w'=>w'.cell? ⟨Rn,0,none⟩=some (.string eH)∧w'.cell? ⟨Rn,1,none⟩=some (.string fA)) ?_;intro w5 hb;replace rG:=kb rG hb;replace HB:=bs HB hb;refine⟨sx,?_⟩;repeat refine BN ?_
 refine on ?_;have z6:=CO rG.out;go_upto_if 17 with(fail)
 go_cut [3] (fun v3 wc=>∃(kq:Nat) (lS:ByteArray),v3= .string lS∧ah (aZ.j0 kq lS (wrap64 ((eH.size:Int)+3))=some r)∧ah (kq≤k)∧ah (wc.heap[Rn]? =some (.cells #[.string eH, .string fA] 69 (0,0)))∧ah (Below w.heap.size w wc))
 case first=>
  have H:=Uc.out;clear Uc;replace H:=sp H;rcases H with⟨c7,H⟩|⟨c7,H⟩
  ·have tJ:=beq_iff_eq.mpr c7;have c7e:(fA.toList).isEmpty=true:=List.isEmpty_iff.mpr c7;have PZ:=bne_eq_false_iff_eq.mpr c7;clear c7
   (first|rw[tJ]|(simp only[jk,kU];rw[tJ])|skip)
   (first|(rw[c7e];simp only[Bool.not_true,Bool.not_false])|skip);have H':=ak H;clear H;go_wp2;go_meet
   case rel=>exact⟨_,_,rs,H',⟨PW⟩,⟨ub rG.out⟩,⟨bb⟩⟩
  ·have tJ:=beq_eq_false_iff_ne.mpr c7;have c7e:(fA.toList).isEmpty=false:=List.isEmpty_eq_false_iff.mpr c7;have PZ:=bne_iff_ne.mpr c7
   (first|rw[tJ]|(simp only[jk,kU];rw[tJ])|skip)
   (first|(rw[c7e];simp only[Bool.not_true,Bool.not_false])|skip);replace H:=nn H;obtain⟨c8,H⟩:=H;have uG:=eq_true c8;have F5:=decide_eq_true c8;try have ayP:(9223372036854775807<1+fA.size)=False:=eq_false (Nat.not_lt.2 c8)
   replace H:=nn H;obtain⟨c9,H⟩:=H;have A_:=eq_true c9;have I4:=decide_eq_true c9;try have aNJ:(9223372036854775807<eH.size+1+(1+fA.size))=False:=by have h_:=(eq_false (Nat.not_lt.2 c9):(9223372036854775807<(eH++(⟨#[58]⟩:ByteArray)).size+((⟨#[32]⟩:ByteArray)++fA).size)=False);simp only[ByteArray.size_append]at h_;exact h_
   try have azD:(9223372036854775807<(eH++(⟨#[58]⟩:ByteArray)).size+((⟨#[32]⟩:ByteArray)++fA).size)=False:=eq_false (Nat.not_lt.2 c9)
   have H':=ak H;clear H;have z10:=CO rG.out;go_wp2;go_meet
   case rel=>exact⟨_,_,rs,H',⟨PW⟩,⟨ub rG.out⟩,⟨bb⟩⟩
 case rest=>
  clear Uc;try clear c2
  try clear qO
  try clear zM
  try clear ajP
  obtain⟨kq,lS,rfl,HA,HJ2,rG,HB⟩:=hcut
  cases kq with
  |zero=>exact zz HA.out
  |succ kj2=>
   obtain⟨H⟩:=HA;simp only[aZ.j0]at H;obtain⟨aNK,apQ⟩:=nm ([]:List ByteArray);rw[←apQ.out]at H;have H':=ak H;clear H;go_wp2_with (refine II 23 Kd.string 9 apQ ?_;intro v127 Wn ai9 hb;have azE:=ak (Kd.aG ai9 (aj bb));replace rG:=kb rG hb;replace HB:=bz HB hb;clear hb ai9)
   go_loopg [3,4,5] kj2 (fun kq v3 v4 v5 w'=>∃(lS:ByteArray) (pY:Int) (uX:List ByteArray),v3= .string lS∧v4= .int .i64 pY∧ah (aZ.l0 kq lS pY uX=some r)∧ah (kq≤kj2)∧ah (Kd.R Kd.string 9 w' w.heap.size (fun _=>True) v5 uX)∧ah (w'.heap[Rn]? =some (.cells #[.string eH, .string fA] 69 (0,0)))∧ah (Below w.heap.size w w'))
   case atStart=>exact⟨_,_,_,rs,rs,H',⟨Nat.le_refl _⟩,⟨ur azE.out⟩,⟨ub rG.out⟩,⟨bb⟩⟩
   case round=>
    clear H';try clear c2
    try clear qO
    try clear zM
    try clear ajP
    obtain⟨lS,pY,uX,rfl,rfl,HA,HK2,rQ,rG,HB⟩:=hrel
    cases gk with
    |zero=>exact zz HA.out
    |succ k2=>
     obtain⟨H⟩:=HA;simp only[aZ.l0]at H;replace H:=sp H;rcases H with⟨c13,H⟩|⟨c13,H⟩
     ·have wM:decide (40<(lS.size:Int))=true:=decide_eq_true c13;have CW:decide (40<lS.size)=true:=decide_eq_true (by omega);clear c13;have H':=ak H;clear H;go_wp2;go_loopg [6,7] k2 (fun kq v6 v7 w'=>∃(Gi:Int) (ru:Int),v6= .int .i64 Gi∧v7= .int .i64 ru∧ah (aZ.l1 kq lS uX Gi ru=some r)∧ah (kq≤k2)∧ah (Kd.R Kd.string 9 w' w.heap.size (fun _=>True) u5 uX)∧ah (w'.heap[Rn]? =some (.cells #[.string eH, .string fA] 69 (0,0)))∧ah (Below w.heap.size w w'))
      case atStart=>exact⟨_,_,rs,rs,H',⟨Nat.le_refl _⟩,⟨ur rQ.out⟩,⟨ub rG.out⟩,⟨bb⟩⟩
      case round=>
       clear H';try clear c2
       try clear qO
       try clear zM
       try clear ajP
       try clear c13
       try clear wM
       try clear CW
       obtain⟨Gi,ru,rfl,rfl,HA,HK3,rQ,rG,HB⟩:=hrel
       cases gk with
       |zero=>exact zz HA.out
       |succ k3=>
        obtain⟨H⟩:=HA;simp only[aZ.l1]at H;replace H:=sp H;rcases H with⟨c14,H⟩|⟨c14,H⟩
        ·have vw:=decide_eq_true c14
         (try(have zZ:decide ((ru+1)<(lS.size:Int))=true:=decide_eq_true (by have h_:=c14;unfold wrap64 at h_;omega)));clear c14;replace H:=oG H;obtain⟨yx,H⟩:=H;replace H:=oG H;obtain⟨zA,H⟩:=H;replace H:=sq H;rcases H with⟨CQ,Uj,H⟩|⟨c18,CQ,Uj,H⟩
         ·obtain⟨Za,ajQ⟩:∃j_:Int,(wrap64 (ru-1))=j_:=⟨_,rfl⟩
          replace H:(if 0≤(Za)then(if(Za)<(lS.size:Int)then(if(bt lS (Za))=32 then(aZ.l1 k3 lS uX Gi (wrap64 (ru+1)))else(if 0≤(wrap64 (ru+1))then(if(bt lS (wrap64 (ru+1)))=32 then(aZ.l1 k3 lS uX Gi (wrap64 (ru+1)))else(if Gi<0 then(aZ.l1 k3 lS uX ru (wrap64 (ru+1)))else(if ru≤40 then(aZ.l1 k3 lS uX ru (wrap64 (ru+1)))else(aZ.l1 k3 lS uX Gi (wrap64 (ru+1))))))else(none)))else(none))else(none))=some r:=by first|(rw[ajQ]at H;exact H)|(simp only[ajQ]at H⊢;exact H)
          have aFl:(IntKind.i64.wrap (ru-1))=Za:=(jk _).trans ajQ;replace H:=oG H;obtain⟨Rf,H⟩:=H;replace H:=oG H;obtain⟨CV,H⟩:=H;replace H:=sq H;rcases H with⟨CJ,Rk,H⟩|⟨c23,CJ,Rk,H⟩
          ·have H':=ak H;clear H;obtain⟨p17,q17,ajR⟩:=bx lS ru;obtain⟨p22,q22,anE⟩:=bx lS (Za);go_wp2;go_roundg k3
           case measure=>exact kl
           case rel=>exact⟨_,_,rs,rs,H',⟨kl⟩,⟨ur rQ.out⟩,⟨ub rG.out⟩,⟨bb⟩⟩
          ·obtain⟨UM,Ro⟩:∃j_:Int,(wrap64 (ru+1))=j_:=⟨_,rfl⟩
           replace H:(if 0≤(UM)then(if(bt lS (UM))=32 then(aZ.l1 k3 lS uX Gi UM)else(if Gi<0 then(aZ.l1 k3 lS uX ru UM)else(if ru≤40 then(aZ.l1 k3 lS uX ru UM)else(aZ.l1 k3 lS uX Gi UM))))else(none))=some r:=by first|(rw[Ro]at H;exact H)|(simp only[Ro]at H⊢;exact H)
           (try rw[Ro]at vw);have aFm:(IntKind.i64.wrap (ru+1))=UM:=(jk _).trans Ro;replace H:=oG H;obtain⟨Ud,H⟩:=H;replace H:=sq H;rcases H with⟨IU,aeH,H⟩|⟨c27,IU,aeH,H⟩
           ·have H':=ak H;clear H;obtain⟨p17,q17,ajR⟩:=bx lS ru;obtain⟨p22,q22,anE⟩:=bx lS (Za);obtain⟨p26,q26,atf⟩:=bx lS (UM);go_wp2;go_roundg k3
            case measure=>exact kl
            case rel=>exact⟨_,_,rs,(by first|rfl|(simp;done)|(simp only[←Ro]<;>(first|rfl|simp))|(simp[*];done)),H',⟨kl⟩,⟨ur rQ.out⟩,⟨ub rG.out⟩,⟨bb⟩⟩
           ·replace H:=sd H;rcases H with⟨IV,H⟩|⟨IV,H⟩
            ·have H':=ak H;clear H;obtain⟨p17,q17,ajR⟩:=bx lS ru;obtain⟨p22,q22,anE⟩:=bx lS (Za);obtain⟨p26,q26,atf⟩:=bx lS (UM);go_wp2;go_roundg k3
             case measure=>exact kl
             case rel=>exact⟨_,_,rs,(by first|rfl|(simp;done)|(simp only[←Ro]<;>(first|rfl|simp))|(simp[*];done)),H',⟨kl⟩,⟨ur rQ.out⟩,⟨ub rG.out⟩,⟨bb⟩⟩
            ·replace H:=sd H;rcases H with⟨afC,H⟩|⟨afC,H⟩
             ·have H':=ak H;clear H;obtain⟨p17,q17,ajR⟩:=bx lS ru;obtain⟨p22,q22,anE⟩:=bx lS (Za);obtain⟨p26,q26,atf⟩:=bx lS (UM);go_wp2;go_roundg k3
              case measure=>exact kl
              case rel=>exact⟨_,_,rs,(by first|rfl|(simp;done)|(simp only[←Ro]<;>(first|rfl|simp))|(simp[*];done)),H',⟨kl⟩,⟨ur rQ.out⟩,⟨ub rG.out⟩,⟨bb⟩⟩
             ·have H':=ak H;clear H;obtain⟨p17,q17,ajR⟩:=bx lS ru;obtain⟨p22,q22,anE⟩:=bx lS (Za);obtain⟨p26,q26,atf⟩:=bx lS (UM);go_wp2;go_roundg k3
              case measure=>exact kl
              case rel=>exact⟨_,_,rs,(by first|rfl|(simp;done)|(simp only[←Ro]<;>(first|rfl|simp))|(simp[*];done)),H',⟨kl⟩,⟨ur rQ.out⟩,⟨ub rG.out⟩,⟨bb⟩⟩
         ·have H':=ak H;clear H;obtain⟨p17,q17,ajR⟩:=bx lS ru;go_wp2;go_roundg k3
          case measure=>exact kl
          case rel=>exact⟨_,_,rs,rs,H',⟨kl⟩,⟨ur rQ.out⟩,⟨ub rG.out⟩,⟨bb⟩⟩
        ·have vw:=decide_eq_false c14
         (try(have zZ:decide ((ru+1)<(lS.size:Int))=false:=decide_eq_false (by have h_:=c14;unfold wrap64 at h_;omega)));clear c14;replace H:=sd H;rcases H with⟨aeJ,H⟩|⟨aeJ,H⟩
         ·replace H:=nl H;obtain⟨aiJ,H⟩:=H;obtain⟨aNL,apR⟩:=nm (uX++[lS]);rw[←apR.out]at H;obtain rfl:=s1 H;go_wp2_with ((with_reducible refine dR (b:= .append) (xs:=#[.tmp 73, .tmp 75]) rfl ?_);at_builtin;refine Kd.qE Kd.string (w0:=w) w.heap.size rfl (.tmp 73) (.tmp 75) 23 9 (.string ⟨#[]⟩) 16 rfl Tryz.underlying23 info9 rfl (by decide) (by omega) u5 uX lS [.string lS] (fun _=>True) (fun _=>False) rfl rfl ?aP (fun _ hk=>hk.elim) ?aF ?aO ?aB ?aS ?aL ?_;(case aP=>exact rfl);(case aB=>exact bb);(case aF=>exact(fun _ _=>trivial));(case aO=>exact(ur rQ.out));(case aS=>exact(aj bb));(case aL=>have:=aiJ.out;omega);intro aNM w32 ho hb hg hat;rw[←apR.out]at ho;have azF:=ak (ho);replace rG:=ak (bP (g:=Rn) (o:= .cells #[.string eH, .string fA] 69 (0,0)) (ub rG.out) hg (Kd.qc rQ.out rG.out (by decide)));replace HB:=ak (hb);clear ho hb hg hat rQ)
          go_ret;exact⟨_,er,ur azF.out,bb⟩
         ·replace H:=Dc H;obtain⟨WE,ai7,H⟩:=H;replace H:=Dc H;obtain⟨aay,aaz,H⟩:=H;replace H:=nl H;obtain⟨ajS,H⟩:=H;obtain⟨aNN,apS⟩:=nm (uX++[lS.extract 0 (Gi:Int).toNat]);rw[←apS.out]at H;have apT:=eq_true (of_decide_eq_true (by assumption):0≤Gi);have aID:=eq_true (of_decide_eq_true (by assumption):Gi≤(lS.size:Int));have H':=ak H;clear H;try go_wp2
          replace rQ:=ak (Kd.lQ rQ.out);replace rG:=ak (gU rG.out);replace HB:=ak (fZ HB.out);refine ro [4,5] [0,1,2,3,6,7,8,4,5,9,10,11] (fun w'=>True) trivial ?_
          generalize wr.drew=w38 at rQ rG HB⊢
          repeat refine BN ?_
          refine ld (N:=some 68) (gk.trans rfl) rfl rfl (fun K hK=>?_);refine DN (w1:=?_) (v:=?_) (by rfl) rfl ?_ ?_
          rotate_left 2
          ·go_simp;constructor
           ·rfl
           ·rfl
          refine hK.out _ _ trivial ?_;clear hK K;refine no (a':=?_) ?_ ?_
          rotate_left
          ·show Act.put _ (some 68) _=_
           simp only[Act.put,zN,zO,l_c,jk,kU];rfl
          refine ld (N:=some 69) (gk.trans rfl) rfl rfl (fun K hK=>?_);refine Kd.nV Kd.string (w0:=w) w.heap.size (by rfl) (.tmp 64) (.tmp 68) 23 9 (.string ⟨#[]⟩) 16 rfl Tryz.underlying23 info9 rfl (by decide) (by omega) u5 uX (lS.extract 0 (Gi:Int).toNat) [.string (lS.extract 0 (Gi:Int).toNat)] (fun _=>True) (fun _=>False) rfl rfl ?aP (fun _ hk=>hk.elim) ?aF ?aO ?aB ?aS ?aL ?_
          (case aP=>exact rfl)
          (case aB=>exact bb)
          (case aF=>exact(fun _ _=>trivial))
          (case aO=>exact(ur rQ.out))
          (case aS=>exact(aj bb))
          (case aL=>have:=ajS.out;omega);intro aNO w39 ho hb hg hat
          rw[←apS.out]at ho;have yU:=ak (bP (g:=Rn) (o:= .cells #[.string eH, .string fA] 69 (0,0)) (ub rG.out) hg (Kd.qc rQ.out rG.out (by decide)));have yV:=ak (hb);have zQ:=ak (ho);clear rG HB rQ;have rG:=yU;have HB:=yV;have azG:=zQ;clear yU yV zQ ho hb hg hat
          refine hK.out _ _ trivial ?_;clear hK K;refine no (a':=?_) ?_ ?_
          rotate_left
          ·show Act.put _ (some 69) _=_
           simp only[Act.put,zN,zO,l_c,jk,kU];rfl
          repeat refine BN ?_
          refine on ?_;try go_wp2
          go_roundg k3
          case measure=>exact kl
          case rel=>exact⟨_,_,_,rs,rs,H',⟨kl⟩,⟨ur azG.out⟩,⟨ub rG.out⟩,⟨bb⟩⟩
     ·have wM:decide (40<(lS.size:Int))=false:=decide_eq_false c13;have CW:decide (40<lS.size)=false:=decide_eq_false (by omega);clear c13;replace H:=nl H;obtain⟨aaA,H⟩:=H;obtain⟨aNP,apU⟩:=nm (uX++[lS]);rw[←apU.out]at H;obtain rfl:=s1 H;go_wp2_with ((with_reducible refine dR (b:= .append) (xs:=#[.tmp 73, .tmp 75]) rfl ?_);at_builtin;refine Kd.qE Kd.string (w0:=w) w.heap.size rfl (.tmp 73) (.tmp 75) 23 9 (.string ⟨#[]⟩) 16 rfl Tryz.underlying23 info9 rfl (by decide) (by omega) u5 uX lS [.string lS] (fun _=>True) (fun _=>False) rfl rfl ?aP (fun _ hk=>hk.elim) ?aF ?aO ?aB ?aS ?aL ?_;(case aP=>exact rfl);(case aB=>exact bb);(case aF=>exact(fun _ _=>trivial));(case aO=>exact(ur rQ.out));(case aS=>exact(aj bb));(case aL=>have:=aaA.out;omega);intro v130 w41 ho hb hg hat;rw[←apU.out]at ho;have azH:=ak (ho);replace rG:=ak (bP (g:=Rn) (o:= .cells #[.string eH, .string fA] 69 (0,0)) (ub rG.out) hg (Kd.qc rQ.out rG.out (by decide)));replace HB:=ak (hb);clear ho hb hg hat rQ)
      go_ret;exact⟨_,er,ur azH.out,bb⟩
def jv.l0:Nat→List ByteArray→List (fO)→Int→Int→Option (List ByteArray×Bool)
 |0,_,_,_,_=>none
 |k+1,x4,x11,x12,GI=>if GI<x12 then(if 0≤GI then(if GI<(x11.length:Int)then((aZ.f k ((dU x11 GI).f0) ((dU x11 GI).f1)).bind fun ahc=>(if x4.length+ahc.length<8796093022208 then(jv.l0 k (x4++ahc) x11 x12 (wrap64 (GI+1)))else(none)))else(none))else(none))else(some (x4,true))
def jv.f (k:Nat) (l0:List (fO)):Option (List ByteArray×Bool):=(oP.f k l0).bind fun t138=>(if t138=true then(jv.l0 k (([]:List ByteArray)) l0 (l0.length:Int) 0)else(some (([]:List ByteArray),false)))
theorem jv.calls {k c0:Nat} {A0:Option Addr} {l0:List (fO)} {r1:List ByteArray} {r2:Bool} {w:World} (hr0:Kd.C oz w A0 l0.length l0) (hc0:l0.length≤c0) (h:jv.f k l0=some (r1,r2)):
  Calls Tryz.prog 39 #[.slice A0 l0.length c0] w fun e w'=>∃o7:Value,e= .returned (.tuple #[o7, .bool r2])∧Kd.R Kd.string 9 w' w.heap.size (fun _=>True) o7 r1∧Below w.heap.size w w':=by
 have FZ:=Tryz.underlying69;have HR0:=ak hr0;have zx:=ak hc0;clear hr0 hc0;have HB:=ak (Below.refl w.heap.size w);unfold jv.f at h;have H:=h;clear h;replace H:=bd H;obtain⟨t138,A2,H⟩:=H;replace H:=sb H;rcases H with⟨rfl,H⟩|⟨rfl,H⟩
 ·obtain⟨aNQ,apV⟩:=nm ([]:List ByteArray);rw[←apV.out]at H;have H':=ak H;clear H;go_enter Tryz.func39,Tryz.ntmps39;go_wp2_with (first|(refine gB Tryz.func82 (oP.calls (cu HR0.out) zx.out A2.out) ?_;intro w4 hb;replace HB:=bs HB hb;clear hb)|(refine II 10 Kd.string 9 apV ?_;intro aNR w5 ho6 hb;have azI:=ak (Kd.aG ho6 (aj (ul HB.out)));replace HB:=bs HB hb;clear hb ho6))
  go_loopg [4,13] k (fun kq v4 v13 w'=>∃(eU:List ByteArray) (kT:Int),v13= .int .i64 kT∧ah (jv.l0 kq eU l0 (l0.length:Int) kT=some (r1,r2))∧ah (kq≤k)∧ah (Kd.R Kd.string 9 w' w.heap.size (fun _=>True) v4 eU)∧ah (Below w.heap.size w w'))
  case atStart=>exact⟨_,_,rs,H',⟨Nat.le_refl _⟩,⟨ur azI.out⟩,⟨ul HB.out⟩⟩
  case round=>
   clear H';obtain⟨eU,kT,rfl,HA,yH,je,HB⟩:=hrel
   cases gk with
   |zero=>exact zz HA.out
   |succ k1=>
    obtain⟨H⟩:=HA;simp only[jv.l0]at H;replace H:=sd H;rcases H with⟨tJ,H⟩|⟨tJ,H⟩
    ·replace H:=oG H;obtain⟨uG,H⟩:=H;replace H:=oG H;obtain⟨A_,H⟩:=H;replace H:=bd H;obtain⟨ahc,A10,H⟩:=H;replace H:=nl H;obtain⟨Uw,H⟩:=H;obtain⟨aNS,apW⟩:=nm (eU++ahc);rw[←apW.out]at H;have H':=ak H;clear H;have atg:=zi kT;have ath:=zj kT l0.length;obtain⟨aIE,aFo,afG,afH⟩:=qB HR0.out kT atg ath;cases aFo;replace afG:=cl HB.out afG;replace afH:=cl HB.out afH;replace atg:=eq_true atg;replace ath:=eq_true ath;go_wp2_with (first|(refine bX HB 6 #[.string (⟨#[]⟩:ByteArray), .string (⟨#[]⟩:ByteArray)] 69 ?_;intro azJ w12 WQ aIF hb;replace je:=rb je hb;replace HB:=bs HB hb;clear hb;have z13:=CO WQ.out)|(refine gV Tryz.func83 (aZ.calls A10.out) ?_;rintro v145 VH ⟨ho0,hb⟩;have aaO:=ak (Kd.aG (Kd.fE ho0 (Kd.jP (rh je))) (aj bb));replace je:=ak (Kd.eu (rh je) (Kd.b_ ho0) hb);replace WQ:=kp WQ #[.string ((dU l0 kT).f0), .string ((dU l0 kT).f1)] hb;replace HB:=bz HB hb;clear hb;(try clear ho0);obtain⟨LG,Kr,UG⟩:=Kd.aH aaO.out;subst UG)|((with_reducible refine dR (b:= .append) (xs:=#[.tmp 17, .tmp 19]) rfl ?_);at_builtin;refine Kd.o9 Kd.string (w0:=w) w.heap.size rfl (.tmp 17) (.tmp 19) 23 9 (.string ⟨#[]⟩) 16 rfl Tryz.underlying23 info9 rfl (by decide) (by omega) u4 eU ahc _ _ _ (fun k_=>some k_≠(.slice LG ahc.length Kr:Value).ownBlock) (fun _=>False) rfl rfl ?aO ?aR (fun _ _ h=>h) (fun _ h=>h.elim) ?aF ?aB ?aS ?aL ?_;(case aR=>repeat(first|exact(Kd.aK aaO.out).2.2|(with_reducible refine Kd.lY ?_ _)|(with_reducible refine Kd.lZ ?_ _)|(with_reducible refine Kd.pX ?_)));(case aB=>exact bb);(case aF=>exact(fun k_ hk=>Kd.fresh' (Kd.jP (ur aaO.out)) k_ hk));(case aO=>exact(ur (Kd.aX je.out (fun _ hk=>hk.2))));(case aS=>exact(aj bb));(case aL=>have:=Uw.out;omega);intro v148 w15 ho hb hg hat;rw[←apW.out]at ho;have azK:=ak (ho);replace WQ:=ak (bP (g:=azJ) (o:= .cells #[.string ((dU l0 kT).f0), .string ((dU l0 kT).f1)] 69 (0,0)) (ub WQ.out) hg (Kd.qc je.out WQ.out (by decide)));replace aaO:=ak (Kd.BG (ok:=(fun _=>True)) (ur aaO.out) hg hat);replace HB:=ak (hb);clear ho hb hg hat je))
     go_roundg k1
     case measure=>exact kl
     case rel=>exact⟨_,_,rs,H',⟨kl⟩,⟨ur (Kd.aX azK.out (fun _ hk=>trivial))⟩,⟨bb⟩⟩
    ·obtain⟨rfl,rfl⟩:=s2 H;go_wp2;go_ret2;exact⟨_,er,ur je.out,ul HB.out⟩
 ·obtain⟨rfl,rfl⟩:=s2 H;go_enter Tryz.func39,Tryz.ntmps39;go_wp2_with (refine gB Tryz.func82 (oP.calls (cu HR0.out) zx.out A2.out) ?_;intro w17 hb;replace HB:=bs HB hb;clear hb)
  go_ret2;exact⟨_,er,nx,ul HB.out⟩
def jo.f (a0:ByteArray):Option (ByteArray):=if a0.size≤140737488355328 then some (strOfNums ((bytesOf a0).map VN))else none
set_option maxHeartbeats 1000000 in
set_option maxRecDepth 100000 in
theorem jo.calls {a0 r:ByteArray} {w:World} (h:jo.f a0=some r):
  Calls Tryz.prog 93 #[.string a0] w fun e w'=>e= .returned (.string r)∧Below w.heap.size w w':=by
 unfold jo.f at h;split at h
 ·rename_i hb
  injection h with h;subst h;have kb:=fun W=>Ri (P:=Tryz.prog) 9 22 5 Tryz.underlying9 Tryz.underlying22 Tryz.underlying5 a0 W
  go_enter Tryz.func93,Tryz.ntmps93;go_wp2;go_loopw [10] (fun i W=>∃k:Nat,k≤a0.size∧i= .int .i64 k∧Qh w w.heap.size (Iu (bytesOf a0) k) W) (fun i _=>a0.size-(intOf i).toNat)
  case atStart=>exact⟨0,Nat.zero_le _,rfl,by simpa [Iu] using N_ w 5 a0⟩
  case round=>
   obtain⟨k,hk,rfl,hR⟩:=hrel;have HR:=ak hR;by_cases hlt:k<a0.size
   ·have hc:=hR.cell k (by rw[nI,bytesOf_length];exact hlt);have hf:=hR.free k (by rw[nI,bytesOf_length];exact hlt);rw[Yq _ _ (by rw[bytesOf_length];exact hlt)]at hc;clear hR;have hr:=KF a0 k;have hs:=ak (WC (bytesOf a0) k (by rw[bytesOf_length];exact hlt));have hu:=ak (Qi (bytesOf a0) k (by rw[bytesOf_length];exact hlt))
    generalize (bytesOf a0).getD k 0=c at hc hr hs hu
    go_wp2
    ·go_roundw
     case rel=>exact⟨k+1,by omega,by go_num,by
      rw[hu.out,VN,if_pos ⟨by omega,by omega⟩];exact HR.out.store (Nat.le_refl _) k (by rw[nI,bytesOf_length];exact hlt) _⟩
     case measure=>simp[intOf];omega
    ·go_roundw
     case rel=>exact⟨k+1,by omega,by go_num,by rw[hs.out (by omega)];exact HR.out⟩
     case measure=>simp[intOf];omega
    ·go_roundw
     case rel=>exact⟨k+1,by omega,by go_num,by rw[hs.out (by omega)];exact HR.out⟩
     case measure=>simp[intOf];omega
   ·clear hR
    have kd:=run_convert_bytes_arg (P:=Tryz.prog) wr 22 5 Tryz.underlying22 Tryz.underlying5 w.heap.size 0 a0.size (grownCap w a0.size 0 5) (Iu (bytesOf a0) k) (by rw[nI,bytesOf_length]) (fun i hi=>by
     rw[Nat.zero_add];exact HR.out.cell i (by rw[nI,bytesOf_length];exact hi)) 9 Tryz.underlying9
    go_wp2;go_ret;have hk2:k=a0.size:=by omega
    exact⟨by rw[hk2,aav (bytesOf a0) a0.size (bytesOf_length a0)];rfl,HR.out.below⟩
 ·cases h
def uf.f (a0:ByteArray) (a1:ByteArray):Option (Bool):=(jo.f a0).bind fun azL=>((jo.f a1).bind fun azM=>(some (azL.toList==azM.toList)))
theorem uf.calls {a0 a1:ByteArray} {r:Bool} {w:World} (h:uf.f a0 a1=some r):
  Calls Tryz.prog 124 #[.string a0, .string a1] w fun e w'=>e= .returned (.bool r)∧Below w.heap.size w w':=by
 have HB:=ak (Below.refl w.heap.size w);unfold uf.f at h;have H:=h;clear h;replace H:=bd H;obtain⟨azL,A3,H⟩:=H;replace H:=bd H;obtain⟨azM,A4,H⟩:=H;obtain rfl:=s1 H;go_enter Tryz.func124,Tryz.ntmps124;go_wp2_with (first|(refine gB Tryz.func93 (jo.calls A3.out) ?_;intro w5 hb;replace HB:=bs HB hb;clear hb)|(refine gB Tryz.func93 (jo.calls A4.out) ?_;intro w6 hb;replace HB:=bs HB hb;clear hb))
 go_ret;exact⟨er,ul HB.out⟩
def pF.f (eH:ByteArray) (fA:ByteArray) (a1:ByteArray):Option (Bool):=(uf.f eH a1).bind fun azN=>(some azN)
theorem pF.calls {eH fA a1:ByteArray} {gq1:Nat} {r:Bool} {w:World} (hq1:w.heap[gq1]? =some (.cells #[.string a1] 9 (0,0))) (h:pF.f eH fA a1=some r):
  Calls Tryz.prog 123 #[.agg #[.string eH, .string fA], .pointer (some ⟨gq1,0,none⟩)] w fun e w'=>e= .returned (.bool r)∧Below w.heap.size w w':=by
 have FZ:=Tryz.underlying69;have xB:=ak hq1;clear hq1;have HB:=ak (Below.refl w.heap.size w);unfold pF.f at h;have H:=h;clear h;replace H:=bd H;obtain⟨azN,A3,H⟩:=H;obtain rfl:=s1 H;go_enter Tryz.func123,Tryz.ntmps123;go_wp2_with (first|(refine bY HB 2 #[.string eH, .string fA] 69 ?_;intro aIG w4 ajT aIH hg hb;have ajU:=vT xB hg;have ajV:=vU xB hg;replace xB:=kb xB hb;replace HB:=bz HB hb;clear hb hg;have aNT:=ajV.out;have aNU:=ajU.out;have z6:=CO ajT.out;have aFp:w4.cell? ⟨gq1,0,none⟩=some (.string a1):=(aA xB.out 0).trans rfl;have aFq:=fF xB.out 0)|(refine gB Tryz.func124 (uf.calls A3.out) ?_;intro w8 hb;replace xB:=kb xB hb;replace ajT:=kb ajT hb;replace HB:=bz HB hb;clear hb))
 go_ret;exact⟨er,bb⟩
def fB.l0:Nat→List (fO)→Int→Int→ByteArray→Option (Int)
 |0,_,_,_,_=>none
 |k+1,x0,x7,x8,Ub=>if x8<x7 then(if 0≤x8 then(if x8<(x0.length:Int)then((pF.f ((dU x0 x8).f0) ((dU x0 x8).f1) Ub).bind fun azO=>(if azO=true then(some x8)else(fB.l0 k x0 x7 (wrap64 (x8+1)) Ub)))else(none))else(none))else(some (-1))
def fB.f (k:Nat) (l0:List (fO)) (Ir:ByteArray):Option (Int):=fB.l0 k l0 (l0.length:Int) 0 Ir
theorem fB.calls {k c0 KE:Nat} {A0:Option Addr} {l0:List (fO)} {Ir:ByteArray} {r:Int} {w:World} (hr0:Kd.C oz w A0 l0.length l0) (hc0:l0.length≤c0) (Q5:w.heap[KE]? =some (.cells #[.string Ir] 9 (0,0))) (h:fB.f k l0 Ir=some r):
  Calls Tryz.prog 122 #[.slice A0 l0.length c0, .func (.func 123) #[] #[.pointer (some ⟨KE,0,none⟩)]] w fun e w'=>e= .returned (.int .i64 r)∧Below w.heap.size w w':=by
 have FZ:=Tryz.underlying69;have HR0:=ak hr0;have zx:=ak hc0;clear hr0 hc0;have xB:=ak Q5;clear Q5;have HB:=ak (Below.refl w.heap.size w);unfold fB.f at h;have H:=h;clear h;have H':=ak H;clear H;go_enter Tryz.func122,Tryz.ntmps122;go_wp2;go_loopg [8] k (fun kq v8 w'=>∃(lC:Int),v8= .int .i64 lC∧ah (fB.l0 kq l0 (l0.length:Int) lC Ir=some r)∧ah (kq≤k)∧ah (w'.heap[KE]? =some (.cells #[.string Ir] 9 (0,0)))∧ah (Below w.heap.size w w'))
 case atStart=>exact⟨_,rs,H',⟨Nat.le_refl _⟩,⟨ub xB.out⟩,⟨bb⟩⟩
 case round=>
  clear H';obtain⟨lC,rfl,HA,yH,xB,HB⟩:=hrel
  cases gk with
  |zero=>exact zz HA.out
  |succ k1=>
   obtain⟨H⟩:=HA;simp only[fB.l0]at H;replace H:=sd H;rcases H with⟨iT,H⟩|⟨iT,H⟩
   ·replace H:=oG H;obtain⟨qW,H⟩:=H;replace H:=oG H;obtain⟨nT,H⟩:=H;replace H:=bd H;obtain⟨azO,A6,H⟩:=H;replace H:=sb H;rcases H with⟨rfl,H⟩|⟨rfl,H⟩
    ·obtain rfl:=s1 H;have ac2:=zi lC;have ac3:=zj lC l0.length;obtain⟨azP,e154,OH,OI⟩:=qB HR0.out lC ac2 ac3;cases e154;replace OH:=cl HB.out OH;replace OI:=cl HB.out OI;replace ac2:=eq_true ac2;replace ac3:=eq_true ac3;go_wp2_with (go_at_call 123;refine mB (pF.calls (ub xB.out) A6.out) ?_;intro w8 hb;replace xB:=kb xB hb;replace HB:=bz HB hb;clear hb)
     go_ret;exact⟨er,bb⟩
    ·have H':=ak H;clear H;have ac2:=zi lC;have ac3:=zj lC l0.length;obtain⟨azP,e154,OH,OI⟩:=qB HR0.out lC ac2 ac3;cases e154;replace OH:=cl HB.out OH;replace OI:=cl HB.out OI;replace ac2:=eq_true ac2;replace ac3:=eq_true ac3;go_wp2_with (go_at_call 123;refine mB (pF.calls (ub xB.out) A6.out) ?_;intro w9 hb;replace xB:=kb xB hb;replace HB:=bz HB hb;clear hb)
     go_roundg k1
     case measure=>exact kl
     case rel=>exact⟨_,rs,H',⟨kl⟩,⟨ub xB.out⟩,⟨bb⟩⟩
   ·obtain rfl:=s1 H;go_wp2;go_ret;exact⟨er,bb⟩
def lD.f (k:Nat) (l0:List (fO)) (a1:ByteArray):Option (Int):=(fB.f k l0 a1).bind fun t157=>(some t157)
theorem lD.calls {k c0:Nat} {A0:Option Addr} {l0:List (fO)} {a1:ByteArray} {r:Int} {w:World} (hr0:Kd.C oz w A0 l0.length l0) (hc0:l0.length≤c0) (h:lD.f k l0 a1=some r):
  Calls Tryz.prog 88 #[.slice A0 l0.length c0, .string a1] w fun e w'=>e= .returned (.int .i64 r)∧Below w.heap.size w w':=by
 have HR0:=ak hr0;have zx:=ak hc0;clear hr0 hc0;have HB:=ak (Below.refl w.heap.size w);unfold lD.f at h;have H:=h;clear h;replace H:=bd H;obtain⟨t157,A3,H⟩:=H;obtain rfl:=s1 H;go_enter Tryz.func88,Tryz.ntmps88;go_wp2_with (first|(refine bX HB 3 #[.string a1] 9 ?_;intro aII w4 ajW aIJ hb;replace HB:=bs HB hb;clear hb)|(refine gB Tryz.func122 (fB.calls (cu (Kd.aN HR0.out HB.out)) zx.out (ub ajW.out) A3.out) ?_;intro w5 hb;replace ajW:=kb ajW hb;replace HB:=bz HB hb;clear hb))
 go_ret;exact⟨er,bb⟩
def nX.f (k:Nat) (l0:List (fO)) (a1:ByteArray):Option (ByteArray×Bool):=(lD.f k l0 a1).bind fun aaP=>(if aaP<0 then(some ((⟨#[]⟩:ByteArray),false))else(if 0≤aaP then(if aaP<(l0.length:Int)then(some ((dU l0 aaP).f1,true))else(none))else(none)))
theorem nX.calls {k c0:Nat} {A0:Option Addr} {l0:List (fO)} {a1 r1:ByteArray} {r2:Bool} {w:World} (hr0:Kd.C oz w A0 l0.length l0) (hc0:l0.length≤c0) (h:nX.f k l0 a1=some (r1,r2)):
  Calls Tryz.prog 47 #[.slice A0 l0.length c0, .string a1] w fun e w'=>e= .returned (.tuple #[.string r1, .bool r2])∧Below w.heap.size w w':=by
 have HR0:=ak hr0;have zx:=ak hc0;clear hr0 hc0;have HB:=ak (Below.refl w.heap.size w);unfold nX.f at h;have H:=h;clear h;replace H:=bd H;obtain⟨aaP,A3,H⟩:=H;replace H:=sd H;rcases H with⟨qW,H⟩|⟨qW,H⟩
 ·obtain⟨rfl,rfl⟩:=s2 H;go_enter Tryz.func47,Tryz.ntmps47;go_wp2_with (refine gB Tryz.func88 (lD.calls (cu HR0.out) zx.out A3.out) ?_;intro w5 hb;replace HB:=bs HB hb;clear hb)
  go_ret2;exact⟨er,ul HB.out⟩
 ·replace H:=oG H;obtain⟨oV,H⟩:=H;replace H:=oG H;obtain⟨tJ,H⟩:=H;obtain⟨rfl,rfl⟩:=s2 H;go_enter Tryz.func47,Tryz.ntmps47;go_wp2_with (refine gB Tryz.func88 (lD.calls (cu HR0.out) zx.out A3.out) ?_;intro w8 hb;replace HB:=bs HB hb;clear hb;have ati:0≤(aaP:Int):=of_decide_eq_true (by assumption);have atj:aaP<(l0.length:Int):=of_decide_eq_true (by assumption);obtain⟨aIK,aFr,Zb,Zc⟩:=qB HR0.out aaP ati atj;cases aFr;replace Zb:=(HB.out.cell (World.block_lt_of_cell? w _ Zb)).trans Zb;replace Zc:=(HB.out.cell (World.block_lt_of_cell? w _ Zc)).trans Zc;replace ati:=eq_true ati;replace atj:=eq_true atj)
  go_ret2;exact⟨er,ul HB.out⟩
def jH.l0:Nat→ByteArray→List Int→Int→Option (ByteArray×Int×Bool)
 |0,_,_,_=>none
 |k+1,x0,x5,x6=>if x6<(x0.size:Int)then(if 0≤x6 then(if(bt x0 x6)=34 then(some (strOfNums x5,wrap64 (x6+1),true))else(if(bt x0 x6)=92 then(if(wrap64 (x6+1))=(x0.size:Int)then(some ((⟨#[]⟩:ByteArray),0,false))else(if 0≤(wrap64 (x6+1))then(if(wrap64 (x6+1))<(x0.size:Int)then(if x5.length<140737488355328 then(jH.l0 k x0 (x5++[bt x0 (wrap64 (x6+1))]) (wrap64 ((wrap64 (x6+1))+1)))else(none))else(none))else(none)))else(if x5.length<140737488355328 then(jH.l0 k x0 (x5++[bt x0 x6]) (wrap64 (x6+1)))else(none))))else(none))else(some ((⟨#[]⟩:ByteArray),0,false))
def jH.f (k:Nat) (a0:ByteArray):Option (ByteArray×Int×Bool):=jH.l0 k a0 (([]:List Int)) 1
theorem jH.calls {k:Nat} {a0 r1:ByteArray} {r2:Int} {r3:Bool} {w:World} (h:jH.f k a0=some (r1,r2,r3)):
  Calls Tryz.prog 134 #[.string a0] w fun e w'=>e= .returned (.tuple #[.string r1, .int .i64 r2, .bool r3])∧Below w.heap.size w w':=by
 have HB:=ak (Below.refl w.heap.size w);unfold jH.f at h;have H:=h;clear h;obtain⟨y160,apX⟩:=nm ([]:List Int);rw[←apX.out]at H;have H':=ak H;clear H;go_enter Tryz.func134,Tryz.ntmps134;go_wp2_with (refine II 7 (Kd.int .u8) 5 apX ?_;intro aNV w2 ho3 hb;have azQ:=ak (Kd.aG ho3 (aj (ul HB.out)));replace HB:=bs HB hb;clear hb ho3)
 go_loopg [5,6] k (fun kq v5 v6 w'=>∃(eY:List Int) (eX:Int),v6= .int .i64 eX∧ah (jH.l0 kq a0 eY eX=some (r1,r2,r3))∧ah (kq≤k)∧ah (Kd.R (Kd.int .u8) 5 w' w.heap.size (fun _=>True) v5 eY)∧ah (Below w.heap.size w w'))
 case atStart=>exact⟨_,_,rs,H',⟨Nat.le_refl _⟩,⟨ur azQ.out⟩,⟨ul HB.out⟩⟩
 case round=>
  clear H';obtain⟨eY,eX,rfl,HA,yH,rQ,HB⟩:=hrel
  cases gk with
  |zero=>exact zz HA.out
  |succ k1=>
   obtain⟨H⟩:=HA;simp only[jH.l0]at H;replace H:=sd H;rcases H with⟨qW,H⟩|⟨qW,H⟩
   ·replace H:=oG H;obtain⟨nT,H⟩:=H;replace H:=sq H;rcases H with⟨tJ,PZ,H⟩|⟨c7,tJ,PZ,H⟩
    ·obtain⟨rfl,rfl,rfl⟩:=s3 H;obtain⟨p6,q6,hx6⟩:=bx a0 eX;have aNW:=sF (P:=Tryz.prog) Tryz.underlying22 Tryz.underlying5 Tryz.underlying9 (Kd.xI rQ.out);go_wp2;go_ret3;exact⟨er,ul HB.out⟩
    ·replace H:=sq H;rcases H with⟨oD,uN,H⟩|⟨c10,oD,uN,H⟩
     ·replace H:=sq H;rcases H with⟨vk,Ib,H⟩|⟨c11,vk,Ib,H⟩
      ·obtain⟨rfl,rfl,rfl⟩:=s3 H;obtain⟨p6,q6,hx6⟩:=bx a0 eX;obtain⟨p9,q9,hx9⟩:=bx a0 eX;go_wp2;go_ret3;exact⟨er,ul HB.out⟩
      ·obtain⟨Sj,Ig⟩:∃j_:Int,(wrap64 (eX+1))=j_:=⟨_,rfl⟩
       replace H:(if 0≤(Sj)then(if(Sj)<(a0.size:Int)then(if eY.length<140737488355328 then(jH.l0 k1 a0 (eY++[bt a0 (Sj)]) (wrap64 ((Sj)+1)))else(none))else(none))else(none))=some (r1,r2,r3):=by first|(rw[Ig]at H;exact H)|(simp only[Ig]at H⊢;exact H)
       (try rw[Ig]at vk)
       (try rw[Ig]at Ib);have atb:(IntKind.i64.wrap (eX+1))=Sj:=(jk _).trans Ig;replace H:=oG H;obtain⟨wM,H⟩:=H;replace H:=oG H;obtain⟨vw,H⟩:=H;replace H:=nl H;obtain⟨ajK,H⟩:=H;obtain⟨aNX,apY⟩:=nm (eY++[bt a0 (Sj)]);rw[←apY.out]at H;have H':=ak H;clear H;obtain⟨p6,q6,hx6⟩:=bx a0 eX;obtain⟨p9,q9,hx9⟩:=bx a0 eX;obtain⟨p15,q15,aNY⟩:=bx a0 (Sj);go_wp2_with (at_builtin;refine aP 34 38 (Kd.int .u8) 22 5 (.int .u8 0) 1 Tryz.underlying22 info5 HB (ur rQ.out) apY (by have:=ajK.out;omega) ?_;intro v164 w17 ho hb hg hat;have azR:=ak (ho);replace HB:=ak (hb);clear ho hb hg hat rQ)
       go_roundg k1
       case measure=>exact kl
       case rel=>exact⟨_,_,(by first|rfl|(simp;done)|(simp only[←Ig]<;>(first|rfl|simp))|(simp[*];done)),H',⟨kl⟩,⟨ur azR.out⟩,⟨ul HB.out⟩⟩
     ·replace H:=nl H;obtain⟨ai4,H⟩:=H;obtain⟨aNZ,apZ⟩:=nm (eY++[bt a0 eX]);rw[←apZ.out]at H;have H':=ak H;clear H;obtain⟨p6,q6,hx6⟩:=bx a0 eX;obtain⟨p9,q9,hx9⟩:=bx a0 eX;obtain⟨p18,q18,azS⟩:=bx a0 eX;go_wp2_with (at_builtin;refine aP 34 38 (Kd.int .u8) 22 5 (.int .u8 0) 1 Tryz.underlying22 info5 HB (ur rQ.out) apZ (by have:=ai4.out;omega) ?_;intro v167 w20 ho hb hg hat;have azT:=ak (ho);replace HB:=ak (hb);clear ho hb hg hat rQ)
      go_roundg k1
      case measure=>exact kl
      case rel=>exact⟨_,_,rs,H',⟨kl⟩,⟨ur azT.out⟩,⟨ul HB.out⟩⟩
   ·obtain⟨rfl,rfl,rfl⟩:=s3 H;go_wp2;go_ret3;exact⟨er,ul HB.out⟩
def kE.l0:Nat→ByteArray→Int→Int→Option (Int)
 |0,_,_,_=>none
 |k+1,x0,x1,x5=>if x5<(x0.size:Int)then(if 0≤x5 then(if(bt x0 x5)=34 then(if x5≤(x0.size:Int)then((jH.f k (x0.extract (x5:Int).toNat x0.size)).bind fun ap0=>(if ap0.2.2=true then(kE.l0 k x0 x1 (wrap64 ((wrap64 (x5+(wrap64 (ap0.2.1-1))))+1)))else(some (-1))))else(none))else(if(bt x0 x5)=x1 then(some x5)else(kE.l0 k x0 x1 (wrap64 (x5+1)))))else(none))else(some (-1))
def kE.f (k:Nat) (a0:ByteArray) (a1:Int):Option (Int):=kE.l0 k a0 a1 0
theorem kE.calls {k:Nat} {a0:ByteArray} {a1 r:Int} {w:World} (h:kE.f k a0 a1=some r):
  Calls Tryz.prog 125 #[.string a0, .int .u8 a1] w fun e w'=>e= .returned (.int .i64 r)∧Below w.heap.size w w':=by
 have HB:=ak (Below.refl w.heap.size w);unfold kE.f at h;have H:=h;clear h;have H':=ak H;clear H;go_enter Tryz.func125,Tryz.ntmps125;go_wp2;go_loopg [5] k (fun kq v5 w'=>∃(eY:Int),v5= .int .i64 eY∧ah (kE.l0 kq a0 a1 eY=some r)∧ah (kq≤k)∧ah (Below w.heap.size w w'))
 case atStart=>exact⟨_,rs,H',⟨Nat.le_refl _⟩,⟨ul HB.out⟩⟩
 case round=>
  clear H';obtain⟨eY,rfl,HA,yH,HB⟩:=hrel
  cases gk with
  |zero=>exact zz HA.out
  |succ k1=>
   obtain⟨H⟩:=HA;simp only[kE.l0]at H;replace H:=sd H;rcases H with⟨iT,H⟩|⟨iT,H⟩
   ·replace H:=oG H;obtain⟨qW,H⟩:=H;replace H:=sq H;rcases H with⟨oV,zX,H⟩|⟨c6,oV,zX,H⟩
    ·have tJ:=eq_true (of_decide_eq_true (by assumption):0≤eY);replace H:=Dc H;obtain⟨uG,F5,H⟩:=H;replace H:=bd H;obtain⟨⟨aN0,aN1,t171⟩,A9,H⟩:=H
     (try dsimp only at H);replace H:=sb H;rcases H with⟨rfl,H⟩|⟨rfl,H⟩
     ·have H':=ak H;clear H;obtain⟨p5,q5,hx5⟩:=bx a0 eY;go_wp2_with (refine gB Tryz.func134 (jH.calls A9.out) ?_;intro Wn hb;replace HB:=bs HB hb;clear hb)
      go_roundg k1
      case measure=>exact kl
      case rel=>exact⟨_,rs,H',⟨kl⟩,⟨ul HB.out⟩⟩
     ·obtain rfl:=s1 H;obtain⟨p5,q5,hx5⟩:=bx a0 eY;go_wp2_with (refine gB Tryz.func134 (jH.calls A9.out) ?_;intro w12 hb;replace HB:=bs HB hb;clear hb)
      go_ret;exact⟨er,ul HB.out⟩
    ·replace H:=sq H;rcases H with⟨wM,CW,H⟩|⟨c13,wM,CW,H⟩
     ·obtain rfl:=s1 H;obtain⟨p5,q5,hx5⟩:=bx a0 eY;go_wp2;go_ret;exact⟨er,ul HB.out⟩
     ·have H':=ak H;clear H;obtain⟨p5,q5,hx5⟩:=bx a0 eY;go_wp2;go_roundg k1
      case measure=>exact kl
      case rel=>exact⟨_,rs,H',⟨kl⟩,⟨ul HB.out⟩⟩
   ·obtain rfl:=s1 H;go_wp2;go_ret;exact⟨er,ul HB.out⟩
def iC.l0:Nat→ByteArray→Int→List ByteArray→Option (List ByteArray)
 |0,_,_,_=>none
 |k+1,x0,x1,x5=>(kE.f k x0 x1).bind fun t175=>(if t175<0 then(if x5.length<8796093022208 then(some (x5++[x0]))else(none))else(if 0≤t175 then(if t175≤(x0.size:Int)then(if x5.length<8796093022208 then(if 0≤(wrap64 (t175+1))then(if(wrap64 (t175+1))≤(x0.size:Int)then(iC.l0 k (x0.extract ((wrap64 (t175+1)):Int).toNat x0.size) x1 (x5++[x0.extract 0 (t175:Int).toNat]))else(none))else(none))else(none))else(none))else(none)))
def iC.f (k:Nat) (a0:ByteArray) (a1:Int):Option (List ByteArray):=iC.l0 k a0 a1 (([]:List ByteArray))
theorem iC.calls {k:Nat} {a0:ByteArray} {a1:Int} {r:List ByteArray} {w:World} (h:iC.f k a0 a1=some r):
  Calls Tryz.prog 90 #[.string a0, .int .u8 a1] w fun e w'=>∃o7:Value,e= .returned (o7)∧Kd.R Kd.string 9 w' w.heap.size (fun _=>True) o7 r∧Below w.heap.size w w':=by
 have HB:=ak (Below.refl w.heap.size w);unfold iC.f at h;have H:=h;clear h;obtain⟨aN2,ap1⟩:=nm ([]:List ByteArray);rw[←ap1.out]at H;have H':=ak H;clear H;go_enter Tryz.func90,Tryz.ntmps90;go_wp2_with (refine II 7 Kd.string 9 ap1 ?_;intro v173 w3 WO hb;have azU:=ak (Kd.aG WO (aj (ul HB.out)));replace HB:=bs HB hb;clear hb WO)
 go_loopg [0,5] k (fun kq v0 v5 w'=>∃(sO:ByteArray) (eY:List ByteArray),v0= .string sO∧ah (iC.l0 kq sO a1 eY=some r)∧ah (kq≤k)∧ah (Kd.R Kd.string 9 w' w.heap.size (fun _=>True) v5 eY)∧ah (Below w.heap.size w w'))
 case atStart=>exact⟨_,_,rs,H',⟨Nat.le_refl _⟩,⟨ur azU.out⟩,⟨ul HB.out⟩⟩
 case round=>
  clear H';obtain⟨sO,eY,rfl,HA,yH,rQ,HB⟩:=hrel
  cases gk with
  |zero=>exact zz HA.out
  |succ k1=>
   obtain⟨H⟩:=HA;simp only[iC.l0]at H;replace H:=bd H;obtain⟨t175,A5,H⟩:=H;replace H:=sd H;rcases H with⟨oV,H⟩|⟨oV,H⟩
   ·replace H:=nl H;obtain⟨atl,H⟩:=H;obtain⟨aN3,ap2⟩:=nm (eY++[sO]);rw[←ap2.out]at H;obtain rfl:=s1 H;go_wp2_with (first|(refine gB Tryz.func125 (kE.calls A5.out) ?_;intro w8 hb;replace rQ:=rb rQ hb;replace HB:=bs HB hb;clear hb)|(at_builtin;refine aP 13 15 Kd.string 23 9 (.string ⟨#[]⟩) 16 Tryz.underlying23 info9 HB (ur rQ.out) ap2 (by have:=atl.out;omega) ?_;intro aN4 w9 ho hb hg hat;have azV:=ak (ho);replace HB:=ak (hb);clear ho hb hg hat rQ))
    go_ret;exact⟨_,er,ur azV.out,ul HB.out⟩
   ·replace H:=Dc H;obtain⟨oD,uN,H⟩:=H;replace H:=Dc H;obtain⟨vk,Ib,H⟩:=H;replace H:=nl H;obtain⟨aaL,H⟩:=H;obtain⟨aFs,ap3⟩:=nm (eY++[sO.extract 0 (t175:Int).toNat]);rw[←ap3.out]at H;obtain⟨Yu,KG⟩:∃j_:Int,(wrap64 (t175+1))=j_:=⟨_,rfl⟩
    replace H:(if 0≤(Yu)then(if(Yu)≤(sO.size:Int)then(iC.l0 k1 (sO.extract ((Yu):Int).toNat sO.size) a1 aFs)else(none))else(none))=some r:=by first|(rw[KG]at H;exact H)|(simp only[KG]at H⊢;exact H)
    (try rw[KG]at A5);have asa:(IntKind.i64.wrap (t175+1))=Yu:=(jk _).trans KG;replace H:=Dc H;obtain⟨vw,zZ,H⟩:=H;replace H:=Dc H;obtain⟨yx,I5,H⟩:=H;have H':=ak H;clear H;try go_wp2_with (refine gB Tryz.func125 (kE.calls A5.out) ?_;intro w16 hb;replace rQ:=rb rQ hb;replace HB:=bs HB hb;clear hb)
    replace rQ:=ak (Kd.lQ rQ.out);replace HB:=ak (fZ HB.out);refine ro [4,5] [0,1,2,3,6,7,8,9,4,5,10,11] (fun w'=>True) trivial ?_
    generalize w16.drew=w17 at rQ HB⊢
    repeat refine BN ?_
    refine ld (N:=some 21) (gk.trans rfl) rfl rfl (fun K hK=>?_);refine DN (w1:=?_) (v:=?_) (by rfl) rfl ?_ ?_
    rotate_left 2
    ·go_simp;constructor
     ·rfl
     ·rfl
    refine hK.out _ _ trivial ?_;clear hK K;refine no (a':=?_) ?_ ?_
    rotate_left
    ·show Act.put _ (some 21) _=_
     simp only[Act.put,zN,zO,l_c,jk,kU];rfl
    refine ld (N:=some 22) (gk.trans rfl) rfl rfl (fun K hK=>?_);refine Kd.nV Kd.string (w0:=w) w.heap.size (by rfl) (.tmp 17) (.tmp 21) 23 9 (.string ⟨#[]⟩) 16 rfl Tryz.underlying23 info9 rfl (by decide) (by omega) u5 eY (sO.extract 0 (t175:Int).toNat) [.string (sO.extract 0 (t175:Int).toNat)] (fun _=>True) (fun _=>False) rfl rfl ?aP (fun _ hk=>hk.elim) ?aF ?aO ?aB ?aS ?aL ?_
    (case aP=>exact rfl)
    (case aB=>exact(ul HB.out))
    (case aF=>exact(fun _ _=>trivial))
    (case aO=>exact(ur rQ.out))
    (case aS=>exact(aj (ul HB.out)))
    (case aL=>have:=aaL.out;omega);intro aN5 w18 ho hb hg hat
    rw[←ap3.out]at ho;have yU:=ak (hb);have yV:=ak (ho);clear HB rQ;have HB:=yU;have azW:=yV;clear yU yV ho hb hg hat
    refine hK.out _ _ trivial ?_;clear hK K;refine no (a':=?_) ?_ ?_
    rotate_left
    ·show Act.put _ (some 22) _=_
     simp only[Act.put,zN,zO,l_c,jk,kU];rfl
    repeat refine BN ?_
    refine on ?_;try go_wp2
    go_roundg k1
    case measure=>exact kl
    case rel=>exact⟨_,_,(by first|rfl|(simp;done)|(simp only[←KG]<;>(first|rfl|simp))|(simp[*];done)),H',⟨kl⟩,⟨ur azW.out⟩,⟨ul HB.out⟩⟩
def strings_Cut.f (a0:ByteArray) (a1:ByteArray):Option (ByteArray×ByteArray×Bool):=if a0.size<4294967281 then some (⟨(Lib.cut a0.data.toList a1.data.toList).1.toArray⟩,⟨(Lib.cut a0.data.toList a1.data.toList).2.1.toArray⟩,(Lib.cut a0.data.toList a1.data.toList).2.2)else none
theorem strings_Cut.calls {a0 a1 r1 r2:ByteArray} {r3:Bool} {w:World} (EK:MaxOk w) (h:strings_Cut.f a0 a1=some (r1,r2,r3)):
  Calls Tryz.prog 91 #[.string a0, .string a1] w fun e w'=>e= .returned (.tuple #[.string r1, .string r2, .bool r3])∧dN w w':=by
 unfold strings_Cut.f at h;split at h
 ·rename_i hs
  injection h with h;injection h with h1 h;injection h with h2 h3;subst h1;subst h2;subst h3;obtain⟨m,hm⟩:=EK;exact(Tryz.strings_Cut a0 a1 m w hs hm).mono fun e w' ⟨he,n,hn⟩=>⟨he,⟨⟨n,hn⟩⟩⟩
 ·cases h
def lF.f (a0:Int):Option (Bool):=(bC.f a0).bind fun t182=>(if t182=true then(some true)else((dI.f a0).bind fun t183=>(if t183=true then(some true)else(if a0=33 then(some true)else(if a0≥35 then(if a0≤39 then(some true)else(if a0=42 then(some true)else(if a0=43 then(some true)else(if a0=45 then(some true)else(if a0=47 then(some true)else(if a0=61 then(some true)else(if a0=63 then(some true)else(if a0≥94 then(if a0≤96 then(some true)else(if a0≥123 then(some (decide (a0≤126)))else(some false)))else(if a0≥123 then(some (decide (a0≤126)))else(some false))))))))))else(if a0=42 then(some true)else(if a0=43 then(some true)else(if a0=45 then(some true)else(if a0=47 then(some true)else(if a0=61 then(some true)else(if a0=63 then(some true)else(if a0≥94 then(if a0≤96 then(some true)else(if a0≥123 then(some (decide (a0≤126)))else(some false)))else(if a0≥123 then(some (decide (a0≤126)))else(some false))))))))))))))
theorem lF.calls {a0:Int} {r:Bool} {w:World} (h:lF.f a0=some r):
  Calls Tryz.prog 135 #[.int .u8 a0] w fun e w'=>e= .returned (.bool r)∧dN w w':=by
 unfold lF.f at h;have H:=h;clear h;replace H:=bd H;obtain⟨t182,A2,H⟩:=H;replace H:=sb H;rcases H with⟨rfl,H⟩|⟨rfl,H⟩
 ·obtain rfl:=s1 H;go_enter Tryz.func135,Tryz.ntmps135;go_wp2_with (refine gA Tryz.func140 (bC.calls A2.out) ?_;intro nd)
  go_ret;exact⟨rs,dn⟩
 ·replace H:=bd H;obtain⟨t183,A4,H⟩:=H;replace H:=sb H;rcases H with⟨rfl,H⟩|⟨rfl,H⟩
  ·obtain rfl:=s1 H;go_enter Tryz.func135,Tryz.ntmps135;go_wp2_with (first|(refine gA Tryz.func140 (bC.calls A2.out) ?_;intro nd)|(go_at_call 141;refine mA (dI.calls A4.out) ?_;intro nd))
   go_ret;exact⟨rs,dn⟩
  ·replace H:=sq H;rcases H with⟨oV,zX,H⟩|⟨c6,oV,zX,H⟩
   ·obtain rfl:=s1 H;go_enter Tryz.func135,Tryz.ntmps135;go_wp2_with (first|(refine gA Tryz.func140 (bC.calls A2.out) ?_;intro nd)|(go_at_call 141;refine mA (dI.calls A4.out) ?_;intro nd))
    go_ret;exact⟨rs,dn⟩
   ·replace H:=sp H;rcases H with⟨c7,H⟩|⟨c7,H⟩
    ·have tJ:decide (35≤a0)=true:=decide_eq_true c7;clear c7;replace H:=sd H;rcases H with⟨uG,H⟩|⟨uG,H⟩
     ·obtain rfl:=s1 H;go_enter Tryz.func135,Tryz.ntmps135;go_wp2_with (first|(refine gA Tryz.func140 (bC.calls A2.out) ?_;intro nd)|(go_at_call 141;refine mA (dI.calls A4.out) ?_;intro nd))
      go_ret;exact⟨rs,dn⟩
     ·replace H:=sq H;rcases H with⟨A_,I4,H⟩|⟨c9,A_,I4,H⟩
      ·obtain rfl:=s1 H;go_enter Tryz.func135,Tryz.ntmps135;go_wp2_with (first|(refine gA Tryz.func140 (bC.calls A2.out) ?_;intro nd)|(go_at_call 141;refine mA (dI.calls A4.out) ?_;intro nd))
       go_ret;exact⟨rs,dn⟩
      ·replace H:=sq H;rcases H with⟨oD,uN,H⟩|⟨c10,oD,uN,H⟩
       ·obtain rfl:=s1 H;go_enter Tryz.func135,Tryz.ntmps135;go_wp2_with (first|(refine gA Tryz.func140 (bC.calls A2.out) ?_;intro nd)|(go_at_call 141;refine mA (dI.calls A4.out) ?_;intro nd))
        go_ret;exact⟨rs,dn⟩
       ·replace H:=sq H;rcases H with⟨vk,Ib,H⟩|⟨c11,vk,Ib,H⟩
        ·obtain rfl:=s1 H;go_enter Tryz.func135,Tryz.ntmps135;go_wp2_with (first|(refine gA Tryz.func140 (bC.calls A2.out) ?_;intro nd)|(go_at_call 141;refine mA (dI.calls A4.out) ?_;intro nd))
         go_ret;exact⟨rs,dn⟩
        ·replace H:=sq H;rcases H with⟨yw,Gg,H⟩|⟨c12,yw,Gg,H⟩
         ·obtain rfl:=s1 H;go_enter Tryz.func135,Tryz.ntmps135;go_wp2_with (first|(refine gA Tryz.func140 (bC.calls A2.out) ?_;intro nd)|(go_at_call 141;refine mA (dI.calls A4.out) ?_;intro nd))
          go_ret;exact⟨rs,dn⟩
         ·replace H:=sq H;rcases H with⟨wM,CW,H⟩|⟨c13,wM,CW,H⟩
          ·obtain rfl:=s1 H;go_enter Tryz.func135,Tryz.ntmps135;go_wp2_with (first|(refine gA Tryz.func140 (bC.calls A2.out) ?_;intro nd)|(go_at_call 141;refine mA (dI.calls A4.out) ?_;intro nd))
           go_ret;exact⟨rs,dn⟩
          ·replace H:=sq H;rcases H with⟨vw,zZ,H⟩|⟨c14,vw,zZ,H⟩
           ·obtain rfl:=s1 H;go_enter Tryz.func135,Tryz.ntmps135;go_wp2_with (first|(refine gA Tryz.func140 (bC.calls A2.out) ?_;intro nd)|(go_at_call 141;refine mA (dI.calls A4.out) ?_;intro nd))
            go_ret;exact⟨rs,dn⟩
           ·replace H:=sp H;rcases H with⟨c15,H⟩|⟨c15,H⟩
            ·have yx:decide (94≤a0)=true:=decide_eq_true c15;clear c15;replace H:=sd H;rcases H with⟨zA,H⟩|⟨zA,H⟩
             ·obtain rfl:=s1 H;go_enter Tryz.func135,Tryz.ntmps135;go_wp2_with (first|(refine gA Tryz.func140 (bC.calls A2.out) ?_;intro nd)|(go_at_call 141;refine mA (dI.calls A4.out) ?_;intro nd))
              go_ret;exact⟨rs,dn⟩
             ·replace H:=sp H;rcases H with⟨c17,H⟩|⟨c17,H⟩
              ·have u_:decide (123≤a0)=true:=decide_eq_true c17;clear c17;obtain rfl:=s1 H;go_enter Tryz.func135,Tryz.ntmps135;go_wp2_with (first|(refine gA Tryz.func140 (bC.calls A2.out) ?_;intro nd)|(go_at_call 141;refine mA (dI.calls A4.out) ?_;intro nd))
               go_ret;exact⟨rs,dn⟩
              ·have u_:decide (123≤a0)=false:=decide_eq_false c17;clear c17;obtain rfl:=s1 H;go_enter Tryz.func135,Tryz.ntmps135;go_wp2_with (first|(refine gA Tryz.func140 (bC.calls A2.out) ?_;intro nd)|(go_at_call 141;refine mA (dI.calls A4.out) ?_;intro nd))
               go_ret;exact⟨rs,dn⟩
            ·have yx:decide (94≤a0)=false:=decide_eq_false c15;clear c15;replace H:=sp H;rcases H with⟨c18,H⟩|⟨c18,H⟩
             ·have CQ:decide (123≤a0)=true:=decide_eq_true c18;clear c18;obtain rfl:=s1 H;go_enter Tryz.func135,Tryz.ntmps135;go_wp2_with (first|(refine gA Tryz.func140 (bC.calls A2.out) ?_;intro nd)|(go_at_call 141;refine mA (dI.calls A4.out) ?_;intro nd))
              go_ret;exact⟨rs,dn⟩
             ·have CQ:decide (123≤a0)=false:=decide_eq_false c18;clear c18;obtain rfl:=s1 H;go_enter Tryz.func135,Tryz.ntmps135;go_wp2_with (first|(refine gA Tryz.func140 (bC.calls A2.out) ?_;intro nd)|(go_at_call 141;refine mA (dI.calls A4.out) ?_;intro nd))
              go_ret;exact⟨rs,dn⟩
    ·have tJ:decide (35≤a0)=false:=decide_eq_false c7;clear c7;replace H:=sq H;rcases H with⟨DR,H_,H⟩|⟨c19,DR,H_,H⟩
     ·obtain rfl:=s1 H;go_enter Tryz.func135,Tryz.ntmps135;go_wp2_with (first|(refine gA Tryz.func140 (bC.calls A2.out) ?_;intro nd)|(go_at_call 141;refine mA (dI.calls A4.out) ?_;intro nd))
      go_ret;exact⟨rs,dn⟩
     ·replace H:=sq H;rcases H with⟨Rf,aar,H⟩|⟨c20,Rf,aar,H⟩
      ·obtain rfl:=s1 H;go_enter Tryz.func135,Tryz.ntmps135;go_wp2_with (first|(refine gA Tryz.func140 (bC.calls A2.out) ?_;intro nd)|(go_at_call 141;refine mA (dI.calls A4.out) ?_;intro nd))
       go_ret;exact⟨rs,dn⟩
      ·replace H:=sq H;rcases H with⟨CV,aoH,H⟩|⟨c21,CV,aoH,H⟩
       ·obtain rfl:=s1 H;go_enter Tryz.func135,Tryz.ntmps135;go_wp2_with (first|(refine gA Tryz.func140 (bC.calls A2.out) ?_;intro nd)|(go_at_call 141;refine mA (dI.calls A4.out) ?_;intro nd))
        go_ret;exact⟨rs,dn⟩
       ·replace H:=sq H;rcases H with⟨EJ,aeE,H⟩|⟨c22,EJ,aeE,H⟩
        ·obtain rfl:=s1 H;go_enter Tryz.func135,Tryz.ntmps135;go_wp2_with (first|(refine gA Tryz.func140 (bC.calls A2.out) ?_;intro nd)|(go_at_call 141;refine mA (dI.calls A4.out) ?_;intro nd))
         go_ret;exact⟨rs,dn⟩
        ·replace H:=sq H;rcases H with⟨CJ,Rk,H⟩|⟨c23,CJ,Rk,H⟩
         ·obtain rfl:=s1 H;go_enter Tryz.func135,Tryz.ntmps135;go_wp2_with (first|(refine gA Tryz.func140 (bC.calls A2.out) ?_;intro nd)|(go_at_call 141;refine mA (dI.calls A4.out) ?_;intro nd))
          go_ret;exact⟨rs,dn⟩
         ·replace H:=sq H;rcases H with⟨Ul,ajp,H⟩|⟨c24,Ul,ajp,H⟩
          ·obtain rfl:=s1 H;go_enter Tryz.func135,Tryz.ntmps135;go_wp2_with (first|(refine gA Tryz.func140 (bC.calls A2.out) ?_;intro nd)|(go_at_call 141;refine mA (dI.calls A4.out) ?_;intro nd))
           go_ret;exact⟨rs,dn⟩
          ·replace H:=sp H;rcases H with⟨c25,H⟩|⟨c25,H⟩
           ·have Ud:decide (94≤a0)=true:=decide_eq_true c25;clear c25;replace H:=sd H;rcases H with⟨Q8,H⟩|⟨Q8,H⟩
            ·obtain rfl:=s1 H;go_enter Tryz.func135,Tryz.ntmps135;go_wp2_with (first|(refine gA Tryz.func140 (bC.calls A2.out) ?_;intro nd)|(go_at_call 141;refine mA (dI.calls A4.out) ?_;intro nd))
             go_ret;exact⟨rs,dn⟩
            ·replace H:=sp H;rcases H with⟨c27,H⟩|⟨c27,H⟩
             ·have IU:decide (123≤a0)=true:=decide_eq_true c27;clear c27;obtain rfl:=s1 H;go_enter Tryz.func135,Tryz.ntmps135;go_wp2_with (first|(refine gA Tryz.func140 (bC.calls A2.out) ?_;intro nd)|(go_at_call 141;refine mA (dI.calls A4.out) ?_;intro nd))
              go_ret;exact⟨rs,dn⟩
             ·have IU:decide (123≤a0)=false:=decide_eq_false c27;clear c27;obtain rfl:=s1 H;go_enter Tryz.func135,Tryz.ntmps135;go_wp2_with (first|(refine gA Tryz.func140 (bC.calls A2.out) ?_;intro nd)|(go_at_call 141;refine mA (dI.calls A4.out) ?_;intro nd))
              go_ret;exact⟨rs,dn⟩
           ·have Ud:decide (94≤a0)=false:=decide_eq_false c25;clear c25;replace H:=sp H;rcases H with⟨c28,H⟩|⟨c28,H⟩
            ·have IV:decide (123≤a0)=true:=decide_eq_true c28;clear c28;obtain rfl:=s1 H;go_enter Tryz.func135,Tryz.ntmps135;go_wp2_with (first|(refine gA Tryz.func140 (bC.calls A2.out) ?_;intro nd)|(go_at_call 141;refine mA (dI.calls A4.out) ?_;intro nd))
             go_ret;exact⟨rs,dn⟩
            ·have IV:decide (123≤a0)=false:=decide_eq_false c28;clear c28;obtain rfl:=s1 H;go_enter Tryz.func135,Tryz.ntmps135;go_wp2_with (first|(refine gA Tryz.func140 (bC.calls A2.out) ?_;intro nd)|(go_at_call 141;refine mA (dI.calls A4.out) ?_;intro nd))
             go_ret;exact⟨rs,dn⟩
mutual
def dL.l0:Nat→ByteArray→List ByteArray→Int→Bool→Option (List ByteArray×Bool)
 |0,_,_,_,_=>none
 |k+1,x0,x4,x5,x6=>if x5<(x0.size:Int)then(if 0≤x5 then(if(bt x0 x5)=32 then(dL.l0 k x0 x4 (wrap64 (x5+1)) true)else(if x6=true then(if(bt x0 x5)=34 then(if x5≤(x0.size:Int)then((jH.f k (x0.extract (x5:Int).toNat x0.size)).bind fun ajX=>(if ajX.2.2=true then(if x4.length<8796093022208 then(dL.l0 k x0 (x4++[ajX.1]) (wrap64 (x5+ajX.2.1)) false)else(none))else(some (([]:List ByteArray),false))))else(none))else(dL.l1 k x0 x4 x5 x5))else(some (([]:List ByteArray),false))))else(none))else(some (x4,true))
def dL.l1:Nat→ByteArray→List ByteArray→Int→Int→Option (List ByteArray×Bool)
 |0,_,_,_,_=>none
 |k+1,x0,x4,x5,x10=>if x10<(x0.size:Int)then(if 0≤x10 then((lF.f (bt x0 x10)).bind fun t194=>(if t194=true then(dL.l1 k x0 x4 x5 (wrap64 (x10+1)))else(if x10=x5 then(some (([]:List ByteArray),false))else(if 0≤x5 then(if x5≤x10 then(if x10≤(x0.size:Int)then(if x4.length<8796093022208 then(dL.l0 k x0 (x4++[x0.extract (x5:Int).toNat (x10:Int).toNat]) x10 false)else(none))else(none))else(none))else(none)))))else(none))else(if x10=x5 then(some (([]:List ByteArray),false))else(if 0≤x5 then(if x5≤x10 then(if x10≤(x0.size:Int)then(if x4.length<8796093022208 then(dL.l0 k x0 (x4++[x0.extract (x5:Int).toNat (x10:Int).toNat]) x10 false)else(none))else(none))else(none))else(none)))
end
def dL.f (k:Nat) (a0:ByteArray):Option (List ByteArray×Bool):=(bg.f k a0).bind fun azX=>(if azX=true then(dL.l0 k a0 (([]:List ByteArray)) 0 true)else(some (([]:List ByteArray),false)))
theorem dL.calls {k:Nat} {a0:ByteArray} {r1:List ByteArray} {r2:Bool} {w:World} (h:dL.f k a0=some (r1,r2)):
  Calls Tryz.prog 94 #[.string a0] w fun e w'=>∃o7:Value,e= .returned (.tuple #[o7, .bool r2])∧Kd.R Kd.string 9 w' w.heap.size (fun _=>True) o7 r1∧Below w.heap.size w w':=by
 have HB:=ak (Below.refl w.heap.size w);unfold dL.f at h;have H:=h;clear h;replace H:=bd H;obtain⟨azX,A2,H⟩:=H;replace H:=sb H;rcases H with⟨rfl,H⟩|⟨rfl,H⟩
 ·obtain⟨aN6,ap4⟩:=nm ([]:List ByteArray);rw[←ap4.out]at H;have H':=ak H;clear H;go_enter Tryz.func94,Tryz.ntmps94;go_wp2_with (first|(refine gA Tryz.func89 (bg.calls A2.out) ?_;intro nd)|(refine II 14 Kd.string 9 ap4 ?_;intro aN7 w4 ho5 hb;have azY:=ak (Kd.aG ho5 (aj (ul HB.out)));replace HB:=bs HB hb;clear hb ho5))
  go_loopg [4,5,6] k (fun kq v4 v5 v6 w'=>∃(eU:List ByteArray) (eY:Int) (eX:Bool),v5= .int .i64 eY∧v6= .bool eX∧ah (dL.l0 kq a0 eU eY eX=some (r1,r2))∧ah (kq≤k)∧ah (Kd.R Kd.string 9 w' w.heap.size (fun _=>True) v4 eU)∧ah (Below w.heap.size w w'))
  case atStart=>exact⟨_,_,_,rs,rs,H',⟨Nat.le_refl _⟩,⟨ur azY.out⟩,⟨ul HB.out⟩⟩
  case round=>
   clear H';obtain⟨eU,eY,eX,rfl,rfl,HA,yH,je,HB⟩:=hrel
   cases gk with
   |zero=>exact zz HA.out
   |succ k1=>
    obtain⟨H⟩:=HA;simp only[dL.l0]at H;replace H:=sd H;rcases H with⟨oV,H⟩|⟨oV,H⟩
    ·replace H:=oG H;obtain⟨tJ,H⟩:=H;replace H:=sq H;rcases H with⟨A_,I4,H⟩|⟨c9,A_,I4,H⟩
     ·have H':=ak H;clear H;obtain⟨p8,q8,hx8⟩:=bx a0 eY;go_wp2;go_roundg k1
      case measure=>exact kl
      case rel=>exact⟨_,_,_,rs,rs,H',⟨kl⟩,⟨ur je.out⟩,⟨ul HB.out⟩⟩
     ·replace H:=sb H;rcases H with⟨rfl,H⟩|⟨rfl,H⟩
      ·replace H:=sq H;rcases H with⟨yw,Gg,H⟩|⟨c12,yw,Gg,H⟩
       ·have wM:=eq_true (of_decide_eq_true (by assumption):0≤eY);replace H:=Dc H;obtain⟨vw,zZ,H⟩:=H;replace H:=bd H;obtain⟨⟨aFt,aN8,aN9⟩,A15,H⟩:=H
        (try dsimp only at H);replace H:=sb H;rcases H with⟨rfl,H⟩|⟨rfl,H⟩
        ·replace H:=nl H;obtain⟨ajr,H⟩:=H;obtain⟨aN_,ap5⟩:=nm (eU++[aFt]);rw[←ap5.out]at H;have H':=ak H;clear H;obtain⟨p8,q8,hx8⟩:=bx a0 eY;obtain⟨p11,q11,aas⟩:=bx a0 eY;go_wp2_with (first|(refine gB Tryz.func134 (jH.calls A15.out) ?_;intro w18 hb;replace je:=rb je hb;replace HB:=bs HB hb;clear hb)|(at_builtin;refine aP 68 70 Kd.string 23 9 (.string ⟨#[]⟩) 16 Tryz.underlying23 info9 HB (ur je.out) ap5 (by have:=ajr.out;omega) ?_;intro aOa w19 ho hb hg hat;have azZ:=ak (ho);replace HB:=ak (hb);clear ho hb hg hat je))
         go_roundg k1
         case measure=>exact kl
         case rel=>exact⟨_,_,_,rs,rs,H',⟨kl⟩,⟨ur azZ.out⟩,⟨ul HB.out⟩⟩
        ·obtain⟨rfl,rfl⟩:=s2 H;obtain⟨p8,q8,hx8⟩:=bx a0 eY;obtain⟨p11,q11,aas⟩:=bx a0 eY;go_wp2_with (refine gB Tryz.func134 (jH.calls A15.out) ?_;intro w20 hb;replace je:=rb je hb;replace HB:=bs HB hb;clear hb)
         go_ret2;exact⟨_,er,nx,ul HB.out⟩
       ·have H':=ak H;clear H;obtain⟨p8,q8,hx8⟩:=bx a0 eY;obtain⟨p11,q11,aas⟩:=bx a0 eY;go_wp2;go_loopg [10] k1 (fun kq v10 w'=>∃(Rq:Int),v10= .int .i64 Rq∧ah (dL.l1 kq a0 eU eY Rq=some (r1,r2))∧ah (kq≤k1)∧ah (Kd.R Kd.string 9 w' w.heap.size (fun _=>True) u4 eU)∧ah (Below w.heap.size w w'))
        case atStart=>exact⟨_,rs,H',⟨Nat.le_refl _⟩,⟨ur je.out⟩,⟨ul HB.out⟩⟩
        case round=>
         clear H';try clear oV
         try clear tJ
         try clear p8
         try clear q8
         try clear hx8
         try clear c9
         try clear A_
         try clear I4
         try clear p11
         try clear q11
         try clear aas
         try clear c12
         try clear yw
         try clear Gg
         try clear p11
         try clear p8
         try clear q11
         try clear q8
         obtain⟨Rq,rfl,HA,HK2,je,HB⟩:=hrel
         cases gk with
         |zero=>exact zz HA.out
         |succ k2=>
          obtain⟨H⟩:=HA;simp only[dL.l1]at H;replace H:=sd H;rcases H with⟨CV,H⟩|⟨CV,H⟩
          ·replace H:=oG H;obtain⟨EJ,H⟩:=H;replace H:=bd H;obtain⟨t194,A24,H⟩:=H;replace H:=sb H;rcases H with⟨rfl,H⟩|⟨rfl,H⟩
           ·have H':=ak H;clear H;obtain⟨p23,q23,az0⟩:=bx a0 Rq;go_wp2_with (go_at_call 135;refine mA (lF.calls A24.out) ?_;intro nd)
            go_roundg k2
            case measure=>exact kl
            case rel=>exact⟨_,rs,H',⟨kl⟩,⟨ur je.out⟩,⟨ul HB.out⟩⟩
           ·replace H:=sq H;rcases H with⟨Q8,aec,H⟩|⟨c26,Q8,aec,H⟩
            ·obtain⟨rfl,rfl⟩:=s2 H;obtain⟨p23,q23,az0⟩:=bx a0 Rq;go_wp2_with (go_at_call 135;refine mA (lF.calls A24.out) ?_;intro nd)
             go_ret2;exact⟨_,er,nx,ul HB.out⟩
            ·replace H:=Dc H;obtain⟨IU,aeH,H⟩:=H;replace H:=Dc H;obtain⟨IV,aeI,H⟩:=H;replace H:=Dc H;obtain⟨afC,aIL,H⟩:=H;replace H:=nl H;obtain⟨az1,H⟩:=H;obtain⟨aOb,ap6⟩:=nm (eU++[a0.extract (eY:Int).toNat (Rq:Int).toNat]);rw[←ap6.out]at H;have H':=ak H;clear H;obtain⟨p23,q23,az0⟩:=bx a0 Rq;go_wp2_with (first|(go_at_call 135;refine mA (lF.calls A24.out) ?_;intro nd)|(at_builtin;refine aP 35 40 Kd.string 23 9 (.string ⟨#[]⟩) 16 Tryz.underlying23 info9 HB (ur je.out) ap6 (by have:=az1.out;omega) ?_;intro v196 w31 ho hb hg hat;have az2:=ak (ho);replace HB:=ak (hb);clear ho hb hg hat je))
             go_roundg k2
             case measure=>exact kl
             case rel=>exact⟨_,_,_,rs,rs,H',⟨kl⟩,⟨ur az2.out⟩,⟨ul HB.out⟩⟩
          ·replace H:=sq H;rcases H with⟨aax,ai6,H⟩|⟨c32,aax,ai6,H⟩
           ·obtain⟨rfl,rfl⟩:=s2 H;go_wp2;go_ret2;exact⟨_,er,nx,ul HB.out⟩
           ·replace H:=Dc H;obtain⟨WE,ai7,H⟩:=H;replace H:=Dc H;obtain⟨aay,aaz,H⟩:=H;replace H:=Dc H;obtain⟨ai8,aoU,H⟩:=H;replace H:=nl H;obtain⟨az3,H⟩:=H;obtain⟨aOc,ap7⟩:=nm (eU++[a0.extract (eY:Int).toNat (Rq:Int).toNat]);rw[←ap7.out]at H;have H':=ak H;clear H;go_wp2_with (at_builtin;refine aP 35 40 Kd.string 23 9 (.string ⟨#[]⟩) 16 Tryz.underlying23 info9 HB (ur je.out) ap7 (by have:=az3.out;omega) ?_;intro aOd w37 ho hb hg hat;have az4:=ak (ho);replace HB:=ak (hb);clear ho hb hg hat je)
            go_roundg k2
            case measure=>exact kl
            case rel=>exact⟨_,_,_,rs,rs,H',⟨kl⟩,⟨ur az4.out⟩,⟨ul HB.out⟩⟩
      ·obtain⟨rfl,rfl⟩:=s2 H;obtain⟨p8,q8,hx8⟩:=bx a0 eY;go_wp2;go_ret2;exact⟨_,er,nx,ul HB.out⟩
    ·obtain⟨rfl,rfl⟩:=s2 H;go_wp2;go_ret2;exact⟨_,er,ur je.out,ul HB.out⟩
 ·obtain⟨rfl,rfl⟩:=s2 H;go_enter Tryz.func94,Tryz.ntmps94;go_wp2_with (refine gA Tryz.func89 (bg.calls A2.out) ?_;intro nd)
  go_ret2;exact⟨_,er,nx,ul HB.out⟩
def gJ.f (k:Nat) (a0:ByteArray):Option (Bool):=(jE.f k a0).bind fun t201=>(if t201=true then((jo.f a0).bind fun az5=>(some (az5.toList==a0.toList)))else(some false))
theorem gJ.calls {k:Nat} {a0:ByteArray} {r:Bool} {w:World} (h:gJ.f k a0=some r):
  Calls Tryz.prog 136 #[.string a0] w fun e w'=>e= .returned (.bool r)∧Below w.heap.size w w':=by
 have HB:=ak (Below.refl w.heap.size w);unfold gJ.f at h;have H:=h;clear h;replace H:=bd H;obtain⟨t201,A2,H⟩:=H;replace H:=sb H;rcases H with⟨rfl,H⟩|⟨rfl,H⟩
 ·replace H:=bd H;obtain⟨az5,A4,H⟩:=H;obtain rfl:=s1 H;go_enter Tryz.func136,Tryz.ntmps136;go_wp2_with (first|(refine gA Tryz.func160 (jE.calls A2.out) ?_;intro nd)|(go_at_call 93;refine mB (jo.calls A4.out) ?_;intro w5 hb;replace HB:=bs HB hb;clear hb))
  go_ret;exact⟨er,ul HB.out⟩
 ·obtain rfl:=s1 H;go_enter Tryz.func136,Tryz.ntmps136;go_wp2_with (refine gA Tryz.func160 (jE.calls A2.out) ?_;intro nd)
  go_ret;exact⟨er,ul HB.out⟩
def dP.l0:Nat→ByteArray→Int→Int→Option (Bool)
 |0,_,_,_=>none
 |k+1,x0,x7,x8=>if x8<x7 then(if 0≤x8 then(if x8<(x0.size:Int)then((lF.f (bt x0 x8)).bind fun t203=>(if t203=true then(dP.l0 k x0 x7 (wrap64 (x8+1)))else(some false)))else(none))else(none))else(some true)
def dP.f (k:Nat) (a0:ByteArray):Option (Bool):=dP.l0 k a0 (a0.size:Int) 0
theorem dP.calls {k:Nat} {a0:ByteArray} {r:Bool} {w:World} (h:dP.f k a0=some r):
  Calls Tryz.prog 138 #[.string a0, .func (.func 135) #[] #[]] w fun e w'=>e= .returned (.bool r)∧dN w w':=by
 unfold dP.f at h;have H:=h;clear h;have H':=ak H;clear H;go_enter Tryz.func138,Tryz.ntmps138;go_wp2;go_loopg [8] k (fun kq v8 w'=>∃(lC:Int),v8= .int .i64 lC∧ah (dP.l0 kq a0 (a0.size:Int) lC=some r)∧ah (kq≤k)∧dN w w')
 case atStart=>exact⟨_,rs,H',⟨Nat.le_refl _⟩,dn⟩
 case round=>
  clear H';obtain⟨lC,rfl,HA,yH,⟨m1,rfl⟩⟩:=hrel
  cases gk with
  |zero=>exact zz HA.out
  |succ k1=>
   obtain⟨H⟩:=HA;simp only[dP.l0]at H;replace H:=sd H;rcases H with⟨iT,H⟩|⟨iT,H⟩
   ·replace H:=oG H;obtain⟨qW,H⟩:=H;replace H:=oG H;obtain⟨nT,H⟩:=H;replace H:=bd H;obtain⟨t203,A7,H⟩:=H;replace H:=sb H;rcases H with⟨rfl,H⟩|⟨rfl,H⟩
    ·have H':=ak H;clear H;obtain⟨p6,q6,hx6⟩:=bx a0 lC;go_wp2_with (go_at_call 135;refine mA (lF.calls A7.out) ?_;intro nd)
     go_roundg k1
     case measure=>exact kl
     case rel=>exact⟨_,rs,H',⟨kl⟩,dn⟩
    ·obtain rfl:=s1 H;obtain⟨p6,q6,hx6⟩:=bx a0 lC;go_wp2_with (go_at_call 135;refine mA (lF.calls A7.out) ?_;intro nd)
     go_ret;exact⟨rs,dn⟩
   ·obtain rfl:=s1 H;go_wp2;go_ret;exact⟨rs,dn⟩
def qL.f (k:Nat) (a0:ByteArray):Option (Bool):=if(a0.size:Int)≥1 then(if(a0.size:Int)≤40 then((dP.f k a0).bind fun az6=>(some az6))else(some false))else(some false)
theorem qL.calls {k:Nat} {a0:ByteArray} {r:Bool} {w:World} (h:qL.f k a0=some r):
  Calls Tryz.prog 193 #[.string a0] w fun e w'=>e= .returned (.bool r)∧dN w w':=by
 unfold qL.f at h;have H:=h;clear h;replace H:=sp H;rcases H with⟨c2,H⟩|⟨c2,H⟩
 ·have qO:decide (1≤(a0.size:Int))=true:=decide_eq_true c2;have zM:decide (1≤a0.size)=true:=decide_eq_true (by omega);clear c2;replace H:=sp H;rcases H with⟨c3,H⟩|⟨c3,H⟩
  ·have iT:=decide_eq_true c3;have zW:decide (a0.size≤40)=true:=decide_eq_true (by omega);clear c3;replace H:=bd H;obtain⟨az6,A4,H⟩:=H;obtain rfl:=s1 H;go_enter Tryz.func193,Tryz.ntmps193;go_wp2_with (go_at_call 138;refine mA (dP.calls A4.out) ?_;intro nd)
   go_ret;exact⟨rs,dn⟩
  ·have iT:=decide_eq_false c3;have zW:decide (a0.size≤40)=false:=decide_eq_false (by omega);clear c3;obtain rfl:=s1 H;go_enter Tryz.func193,Tryz.ntmps193;go_wp2;go_ret;exact⟨rs,dn⟩
 ·have qO:decide (1≤(a0.size:Int))=false:=decide_eq_false c2;have zM:decide (1≤a0.size)=false:=decide_eq_false (by omega);clear c2;obtain rfl:=s1 H;go_enter Tryz.func193,Tryz.ntmps193;go_wp2;go_ret;exact⟨rs,dn⟩
def jq.l0:Nat→ByteArray→List Int→Int→Int→Option (ByteArray)
 |0,_,_,_,_=>none
 |k+1,x0,x3,x15,x16=>if x16<x15 then(if 0≤x16 then(if x16<(x0.size:Int)then(if(bt x0 x16)=34 then(if x3.length<140737488355328 then((some (x3++[92]:List Int)).bind fun anF=>(if anF.length<140737488355328 then(jq.l0 k x0 (anF++[bt x0 x16]) x15 (wrap64 (x16+1)))else(none)))else(none))else(if(bt x0 x16)=92 then(if x3.length<140737488355328 then((some (x3++[92]:List Int)).bind fun anG=>(if anG.length<140737488355328 then(jq.l0 k x0 (anG++[bt x0 x16]) x15 (wrap64 (x16+1)))else(none)))else(none))else(if x3.length<140737488355328 then(jq.l0 k x0 (x3++[bt x0 x16]) x15 (wrap64 (x16+1)))else(none))))else(none))else(none))else(if x3.length<140737488355328 then(some (strOfNums (x3++[34])))else(none))
def jq.f (k:Nat) (a0:ByteArray):Option (ByteArray):=(bg.f k a0).bind fun az7=>(if az7=true then((qL.f k a0).bind fun t206=>(if t206=true then(some a0)else(jq.l0 k a0 (([34]:List Int)) (a0.size:Int) 0)))else(some (⟨#[]⟩:ByteArray)))
theorem jq.calls {k:Nat} {a0 r:ByteArray} {w:World} (h:jq.f k a0=some r):
  Calls Tryz.prog 166 #[.string a0] w fun e w'=>e= .returned (.string r)∧Below w.heap.size w w':=by
 have HB:=ak (Below.refl w.heap.size w);unfold jq.f at h;have H:=h;clear h;replace H:=bd H;obtain⟨az7,A2,H⟩:=H;replace H:=sb H;rcases H with⟨rfl,H⟩|⟨rfl,H⟩
 ·replace H:=bd H;obtain⟨t206,A4,H⟩:=H;replace H:=sb H;rcases H with⟨rfl,H⟩|⟨rfl,H⟩
  ·obtain rfl:=s1 H;go_enter Tryz.func166,Tryz.ntmps166;go_wp2_with (first|(refine gA Tryz.func89 (bg.calls A2.out) ?_;intro nd)|(refine gA Tryz.func193 (qL.calls A4.out) ?_;intro nd))
   go_ret;exact⟨er,ul HB.out⟩
  ·obtain⟨aOe,ap8⟩:=nm ([34]:List Int);rw[←ap8.out]at H;have H':=ak H;clear H;go_enter Tryz.func166,Tryz.ntmps166;go_wp2_with (first|(refine gA Tryz.func89 (bg.calls A2.out) ?_;intro nd)|(refine gA Tryz.func193 (qL.calls A4.out) ?_;intro nd)|(refine RZ 13 (Kd.int .u8) 5 [.int .u8 34] ap8 (bU.one (show Kd.M (Kd.int .u8) _ _ _ 34 [.int .u8 34]from rfl) (bU.none _ _)) ?_;intro v208 w6 ho7 hb;have az8:=ak (Kd.aG ho7 (aj (ul HB.out)));replace HB:=bs HB hb;clear hb ho7))
   go_loopg [3,16] k (fun kq v3 v16 w'=>∃(dX:List Int) (iI:Int),v16= .int .i64 iI∧ah (jq.l0 kq a0 dX (a0.size:Int) iI=some r)∧ah (kq≤k)∧ah (Kd.R (Kd.int .u8) 5 w' w.heap.size (fun _=>True) v3 dX)∧ah (Below w.heap.size w w'))
   case atStart=>exact⟨_,_,rs,H',⟨Nat.le_refl _⟩,⟨ur az8.out⟩,⟨ul HB.out⟩⟩
   case round=>
    clear H';obtain⟨dX,iI,rfl,HA,yH,qp,HB⟩:=hrel
    cases gk with
    |zero=>exact zz HA.out
    |succ k1=>
     obtain⟨H⟩:=HA;simp only[jq.l0]at H;replace H:=sd H;rcases H with⟨uG,H⟩|⟨uG,H⟩
     ·replace H:=oG H;obtain⟨A_,H⟩:=H;replace H:=oG H;obtain⟨oD,H⟩:=H;replace H:=sq H;rcases H with⟨yw,Gg,H⟩|⟨c12,yw,Gg,H⟩
      ·replace H:=nl H;obtain⟨az9,H⟩:=H;replace H:=ny H;obtain⟨anF,az_,H⟩:=H;replace H:=nl H;obtain⟨aAa,H⟩:=H;obtain⟨aOf,ap9⟩:=nm (anF++[bt a0 iI]);rw[←ap9.out]at H;have H':=ak H;clear H;obtain⟨p11,q11,aas⟩:=bx a0 iI;go_wp2_with (first|(at_builtin;refine aP 29 30 (Kd.int .u8) 22 5 (.int .u8 0) 1 Tryz.underlying22 info5 HB (ur qp.out) az_ (by have:=az9.out;omega) ?_;intro aOg w16 ho hb hg hat;have ap_:=ak (ho);replace HB:=ak (hb);clear ho hb hg hat qp;have p14:0≤(iI:Int):=of_decide_eq_true (by assumption);have q14:iI<(a0.size:Int):=of_decide_eq_true (by assumption);have asf:=yt a0 iI;replace p14:=eq_true p14;replace q14:=eq_true q14)|(at_builtin;refine aP 32 36 (Kd.int .u8) 22 5 (.int .u8 0) 1 Tryz.underlying22 info5 HB (ur ap_.out) ap9 (by have:=aAa.out;omega) ?_;intro aOh w17 ho hb hg hat;have aAb:=ak (ho);replace HB:=ak (hb);clear ho hb hg hat ap_))
       go_roundg k1
       case measure=>exact kl
       case rel=>exact⟨_,_,rs,H',⟨kl⟩,⟨ur aAb.out⟩,⟨ul HB.out⟩⟩
      ·replace H:=sq H;rcases H with⟨DR,H_,H⟩|⟨c19,DR,H_,H⟩
       ·replace H:=nl H;obtain⟨aix,H⟩:=H;replace H:=ny H;obtain⟨anG,aAc,H⟩:=H;replace H:=nl H;obtain⟨ajY,H⟩:=H;obtain⟨aOi,aqa⟩:=nm (anG++[bt a0 iI]);rw[←aqa.out]at H;have H':=ak H;clear H;obtain⟨p11,q11,aas⟩:=bx a0 iI;obtain⟨p18,q18,azS⟩:=bx a0 iI;go_wp2_with (first|(at_builtin;refine aP 29 30 (Kd.int .u8) 22 5 (.int .u8 0) 1 Tryz.underlying22 info5 HB (ur qp.out) aAc (by have:=aix.out;omega) ?_;intro aOj w23 ho hb hg hat;have aqb:=ak (ho);replace HB:=ak (hb);clear ho hb hg hat qp;have p21:0≤(iI:Int):=of_decide_eq_true (by assumption);have q21:iI<(a0.size:Int):=of_decide_eq_true (by assumption);have aOk:=yt a0 iI;replace p21:=eq_true p21;replace q21:=eq_true q21)|(at_builtin;refine aP 32 36 (Kd.int .u8) 22 5 (.int .u8 0) 1 Tryz.underlying22 info5 HB (ur aqb.out) aqa (by have:=ajY.out;omega) ?_;intro aOl w24 ho hb hg hat;have aAd:=ak (ho);replace HB:=ak (hb);clear ho hb hg hat aqb))
        go_roundg k1
        case measure=>exact kl
        case rel=>exact⟨_,_,rs,H',⟨kl⟩,⟨ur aAd.out⟩,⟨ul HB.out⟩⟩
       ·replace H:=nl H;obtain⟨aAe,H⟩:=H;obtain⟨aOm,aqc⟩:=nm (dX++[bt a0 iI]);rw[←aqc.out]at H;have H':=ak H;clear H;obtain⟨p11,q11,aas⟩:=bx a0 iI;obtain⟨p18,q18,azS⟩:=bx a0 iI;obtain⟨p25,q25,hx25⟩:=bx a0 iI;go_wp2_with (at_builtin;refine aP 32 36 (Kd.int .u8) 22 5 (.int .u8 0) 1 Tryz.underlying22 info5 HB (ur qp.out) aqc (by have:=aAe.out;omega) ?_;intro aOn w27 ho hb hg hat;have aAf:=ak (ho);replace HB:=ak (hb);clear ho hb hg hat qp)
        go_roundg k1
        case measure=>exact kl
        case rel=>exact⟨_,_,rs,H',⟨kl⟩,⟨ur aAf.out⟩,⟨ul HB.out⟩⟩
     ·replace H:=nl H;obtain⟨aAg,H⟩:=H;obtain⟨aOo,aqd⟩:=nm (dX++[34]);rw[←aqd.out]at H;obtain rfl:=s1 H;go_wp2_with (at_builtin;refine aP 39 40 (Kd.int .u8) 22 5 (.int .u8 0) 1 Tryz.underlying22 info5 HB (ur qp.out) aqd (by have:=aAg.out;omega) ?_;intro v226 w29 ho hb hg hat;have aAh:=ak (ho);replace HB:=ak (hb);clear ho hb hg hat qp;have aIM:=sF (P:=Tryz.prog) Tryz.underlying22 Tryz.underlying5 Tryz.underlying9 (Kd.xI aAh.out))
      go_ret;exact⟨er,ul HB.out⟩
 ·obtain rfl:=s1 H;go_enter Tryz.func166,Tryz.ntmps166;go_wp2_with (refine gA Tryz.func89 (bg.calls A2.out) ?_;intro nd)
  go_ret;exact⟨er,ul HB.out⟩
end Go.Proofs.YtncdadcmghglkaaGreatDoor.PFnPathEmpty
