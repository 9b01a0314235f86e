/- Printed walks; conditions: those in each statement. -/
import Derived.Test.YtncdadcmghglkaaGreatDoorVFnPartAtQt
import Derived.Test.YtncdadcmghglkaaGreatDoorVFnPartAtYt
import Derived.Test.YtncdadcmghglkaaGreatDoorPFnPartAtx0
import Derived.Test.YtncdadcmghglkaaGreatDoorPFnPartAtx2
-- fixed
-- short
-- dense
-- sq
-- sq2
namespace Go.Proofs.YtncdadcmghglkaaGreatDoor.PFnPartAt
open Go.RowKit Go.Proofs.YtncdadcmghglkaaGreatDoor.X Go.Proofs.YtncdadcmghglkaaGreatDoorW.bQ Go.Proofs.YtncdadcmghglkaaGreatDoorW.jm Go.Proofs.YtncdadcmghglkaaGreatDoorW.kD
attribute [local go_sem] pV pW sK sN nI nJ pX pY   -- for this text's walks alone
set_option linter.unusedVariables false
set_option maxHeartbeats 8000000
set_option maxRecDepth 100000
set_option linter.unusedSimpArgs false
def oQ.f (k:Nat) (eX:ByteArray) (fF:ByteArray):Option (Bool):=(rZ.f k eX fF).bind fun aAc=>(some (!aAc))
theorem oQ.calls {k:Nat} {eX fF:ByteArray} {r:Bool} {w:World} (h:oQ.f k eX fF=some r):
  Calls Tryz.prog 119 #[.agg #[.string eX, .string fF]] w fun e w'=>e= .returned (.bool r)∧Below w.heap.size w w':=by
 have Gh:=Tryz.underlying69;have HB:=ak (Below.refl w.heap.size w);unfold oQ.f at h;have H:=h;clear h;replace H:=bd H;obtain⟨aAc,A2,H⟩:=H;obtain rfl:=s1 H;go_enter Tryz.func119,Tryz.ntmps119;go_wp2_with (first|(refine bX HB 1 #[.string eX, .string fF] 69 ?_;intro aI8 w3 akf aI9 hb;replace HB:=bs HB hb;clear hb;have z4:=Dh akf.out)|(refine gB Tryz.func120 (rZ.calls A2.out) ?_;intro w5 hb;replace akf:=kb akf hb;replace HB:=bz HB hb;clear hb))
 go_ret;exact⟨er,bb⟩
def cO.l0:Nat→List (fP)→Int→Int→Option (Int)
 |0,_,_,_=>none
 |k+1,x0,x7,x8=>if x8<x7 then(if 0≤x8 then(if x8<(x0.length:Int)then((oQ.f k ((dU x0 x8).f0) ((dU x0 x8).f1)).bind fun aAd=>(if aAd=true then(some x8)else(cO.l0 k x0 x7 (wrap64 (x8+1)))))else(none))else(none))else(some (-1))
def cO.f (k:Nat) (l0:List (fP)):Option (Int):=cO.l0 k l0 (l0.length:Int) 0
theorem cO.calls {k c0:Nat} {A0:Option Addr} {l0:List (fP)} {r:Int} {w:World} (hr0:Kd.C ou w A0 l0.length l0) (hc0:l0.length≤c0) (h:cO.f k l0=some r):
  Calls Tryz.prog 122 #[.slice A0 l0.length c0, .func (.func 119) #[] #[]] w fun e w'=>e= .returned (.int .i64 r)∧Below w.heap.size w w':=by
 have Gh:=Tryz.underlying69;have HR0:=ak hr0;have zH:=ak hc0;clear hr0 hc0;have HB:=ak (Below.refl w.heap.size w);unfold cO.f at h;have H:=h;clear h;have H':=ak H;clear H;go_enter Tryz.func122,Tryz.ntmps122;go_wp2;go_loopg [8] k (fun kq v8 w'=>∃(lQ:Int),v8= .int .i64 lQ∧ah (cO.l0 kq l0 (l0.length:Int) lQ=some r)∧ah (kq≤k)∧ah (Below w.heap.size w w'))
 case atStart=>exact⟨_,rs,H',⟨Nat.le_refl _⟩,⟨ul HB.out⟩⟩
 case round=>
  clear H';obtain⟨lQ,rfl,HA,xK,HB⟩:=hrel
  cases gk with
  |zero=>exact zz HA.out
  |succ k1=>
   obtain⟨H⟩:=HA;simp only[cO.l0]at H;replace H:=sd H;rcases H with⟨iW,H⟩|⟨iW,H⟩
   ·replace H:=oL H;obtain⟨rW,H⟩:=H;replace H:=oL H;obtain⟨oz,H⟩:=H;replace H:=bd H;obtain⟨aAd,A6,H⟩:=H;replace H:=sb H;rcases H with⟨rfl,H⟩|⟨rfl,H⟩
    ·obtain rfl:=s1 H;have ac_:=zi lQ;have ada:=zj lQ l0.length;obtain⟨aAe,atZ,OV,OW⟩:=qW HR0.out lQ ac_ ada;cases atZ;replace OV:=cl HB.out OV;replace OW:=cl HB.out OW;replace ac_:=eq_true ac_;replace ada:=eq_true ada;go_wp2_with (go_at_call 119;refine mB (oQ.calls A6.out) ?_;intro w8 hb;replace HB:=bs HB hb;clear hb)
     go_ret;exact⟨er,ul HB.out⟩
    ·have H':=ak H;clear H;have ac_:=zi lQ;have ada:=zj lQ l0.length;obtain⟨aAe,atZ,OV,OW⟩:=qW HR0.out lQ ac_ ada;cases atZ;replace OV:=cl HB.out OV;replace OW:=cl HB.out OW;replace ac_:=eq_true ac_;replace ada:=eq_true ada;go_wp2_with (go_at_call 119;refine mB (oQ.calls A6.out) ?_;intro w9 hb;replace HB:=bs HB hb;clear hb)
     go_roundg k1
     case measure=>exact kl
     case rel=>exact⟨_,rs,H',⟨kl⟩,⟨ul HB.out⟩⟩
   ·obtain rfl:=s1 H;go_wp2;go_ret;exact⟨er,ul HB.out⟩
def kF.f (k:Nat) (l0:List (fP)):Option (Bool):=(cO.f k l0).bind fun aAf=>(some (decide (aAf≥0)))
theorem kF.calls {k c0:Nat} {A0:Option Addr} {l0:List (fP)} {r:Bool} {w:World} (hr0:Kd.C ou w A0 l0.length l0) (hc0:l0.length≤c0) (h:kF.f k l0=some r):
  Calls Tryz.prog 118 #[.slice A0 l0.length c0, .func (.func 119) #[] #[]] w fun e w'=>e= .returned (.bool r)∧Below w.heap.size w w':=by
 have HR0:=ak hr0;have zH:=ak hc0;clear hr0 hc0;have HB:=ak (Below.refl w.heap.size w);unfold kF.f at h;have H:=h;clear h;replace H:=bd H;obtain⟨aAf,A3,H⟩:=H;obtain rfl:=s1 H;go_enter Tryz.func118,Tryz.ntmps118;go_wp2_with (refine gB Tryz.func122 (cO.calls (cu HR0.out) zH.out A3.out) ?_;intro w4 hb;replace HB:=bs HB hb;clear hb)
 go_ret;exact⟨er,ul HB.out⟩
def o9.f (k:Nat) (l0:List (fP)):Option (Bool):=if(l0.length:Int)≤20 then((kF.f k l0).bind fun t124=>(some (!t124)))else(some false)
theorem o9.calls {k c0:Nat} {A0:Option Addr} {l0:List (fP)} {r:Bool} {w:World} (hr0:Kd.C ou w A0 l0.length l0) (hc0:l0.length≤c0) (h:o9.f k l0=some r):
  Calls Tryz.prog 82 #[.slice A0 l0.length c0] w fun e w'=>e= .returned (.bool r)∧Below w.heap.size w w':=by
 have HR0:=ak hr0;have zH:=ak hc0;clear hr0 hc0;have HB:=ak (Below.refl w.heap.size w);unfold o9.f at h;have H:=h;clear h;replace H:=sp H;rcases H with⟨c2,H⟩|⟨c2,H⟩
 ·have qJ:=decide_eq_true c2;have yR:decide (l0.length≤20)=true:=decide_eq_true (by omega);clear c2;replace H:=bd H;obtain⟨t124,A3,H⟩:=H;obtain rfl:=s1 H;go_enter Tryz.func82,Tryz.ntmps82;go_wp2_with (go_at_call 118;refine mB (kF.calls (cu HR0.out) zH.out A3.out) ?_;intro w4 hb;replace HB:=bs HB hb;clear hb)
  go_ret;exact⟨er,ul HB.out⟩
 ·have qJ:=decide_eq_false c2;have yR:decide (l0.length≤20)=false:=decide_eq_false (by omega);clear c2;obtain rfl:=s1 H;go_enter Tryz.func82,Tryz.ntmps82;go_wp2;go_ret;exact⟨er,ul HB.out⟩
mutual
def aZ.j0:Nat→ByteArray→Int→Option (List ByteArray)
 |0,_,_=>none
 |k+1,x3,x4=>aZ.l0 k x3 x4 (([]:List ByteArray))
def aZ.l0:Nat→ByteArray→Int→List ByteArray→Option (List ByteArray)
 |0,_,_,_=>none
 |k+1,x3,x4,x5=>if(x3.size:Int)>40 then(aZ.l1 k x3 x5 (-1) x4)else(if x5.length<8796093022208 then(some (x5++[x3]))else(none))
def aZ.l1:Nat→ByteArray→List ByteArray→Int→Int→Option (List ByteArray)
 |0,_,_,_,_=>none
 |k+1,x3,x5,x6,x7=>if(wrap64 (x7+1))<(x3.size:Int)then(if 0≤x7 then(if x7<(x3.size:Int)then(if(bt x3 x7)=32 then(if 0≤(wrap64 (x7-1))then(if(wrap64 (x7-1))<(x3.size:Int)then(if(bt x3 (wrap64 (x7-1)))=32 then(aZ.l1 k x3 x5 x6 (wrap64 (x7+1)))else(if 0≤(wrap64 (x7+1))then(if(bt x3 (wrap64 (x7+1)))=32 then(aZ.l1 k x3 x5 x6 (wrap64 (x7+1)))else(if x6<0 then(aZ.l1 k x3 x5 x7 (wrap64 (x7+1)))else(if x7≤40 then(aZ.l1 k x3 x5 x7 (wrap64 (x7+1)))else(aZ.l1 k x3 x5 x6 (wrap64 (x7+1))))))else(none)))else(none))else(none))else(aZ.l1 k x3 x5 x6 (wrap64 (x7+1))))else(none))else(none))else(if x6<0 then(if x5.length<8796093022208 then(some (x5++[x3]))else(none))else(if 0≤x6 then(if x6≤(x3.size:Int)then(if x5.length<8796093022208 then(aZ.l0 k (x3.extract (x6:Int).toNat x3.size) 2 (x5++[x3.extract 0 (x6:Int).toNat]))else(none))else(none))else(none)))
end
def aZ.f (k:Nat) (eX:ByteArray) (fF:ByteArray):Option (List ByteArray):=if eX.size+1≤9223372036854775807 then(if fF.toList=([]:List UInt8)then(aZ.j0 k (eX++(⟨#[58]⟩:ByteArray)) (wrap64 ((eX.size:Int)+3)))else(if 1+fF.size≤9223372036854775807 then(if(eX++(⟨#[58]⟩:ByteArray)).size+((⟨#[32]⟩:ByteArray)++fF).size≤9223372036854775807 then(aZ.j0 k ((eX++(⟨#[58]⟩:ByteArray))++((⟨#[32]⟩:ByteArray)++fF)) (wrap64 ((eX.size:Int)+3)))else(none))else(none)))else(none)
theorem aZ.calls {k:Nat} {eX fF:ByteArray} {r:List ByteArray} {w:World} (h:aZ.f k eX fF=some r):
  Calls Tryz.prog 83 #[.agg #[.string eX, .string fF]] w fun e w'=>∃pO:Value,e= .returned (pO)∧Kd.R Kd.string 9 w' w.heap.size (fun _=>True) pO r∧Below w.heap.size w w':=by
 have Gh:=Tryz.underlying69;have HB:=ak (Below.refl w.heap.size w);unfold aZ.f at h;have H:=h;clear h;replace H:=nn H;obtain⟨c2,H⟩:=H;have qJ:=eq_true c2;have yR:=decide_eq_true c2;try have acf:(9223372036854775807<eX.size+1)=False:=eq_false (Nat.not_lt.2 c2)
 have Uk:=ak H;clear H;go_enter Tryz.func83,Tryz.ntmps83;try go_wp2_with (refine bX HB 1 #[.string eX, .string fF] 69 ?_;intro RH w4 sH aI_ hb;replace HB:=bs HB hb;clear hb)
 refine rO [] [0,3,1,2,7,4,5,6,8] (fun w'=>w'.cell? ⟨RH,0,none⟩=some (.string eX)∧w'.cell? ⟨RH,1,none⟩=some (.string fF)) ?_;intro w5 hb;replace sH:=kb sH hb;replace HB:=bs HB hb;refine⟨sx,?_⟩;repeat refine Bv ?_
 refine on ?_;have z6:=Dh sH.out;go_upto_if 17 with(fail)
 go_cut [3] (fun v3 wc=>∃(kq:Nat) (mD:ByteArray),v3= .string mD∧ah (aZ.j0 kq mD (wrap64 ((eX.size:Int)+3))=some r)∧ah (kq≤k)∧ah (wc.heap[RH]? =some (.cells #[.string eX, .string fF] 69 (0,0)))∧ah (Below w.heap.size w wc))
 case first=>
  have H:=Uk.out;clear Uk;replace H:=sp H;rcases H with⟨c7,H⟩|⟨c7,H⟩
  ·have tZ:=beq_iff_eq.mpr c7;have c7e:(fF.toList).isEmpty=true:=List.isEmpty_iff.mpr c7;have Qd:=bne_eq_false_iff_eq.mpr c7;clear c7
   (first|rw[tZ]|(simp only[jo,lg];rw[tZ])|skip)
   (first|(rw[c7e];simp only[Bool.not_true,Bool.not_false])|skip);have H':=ak H;clear H;go_wp2;go_meet
   case rel=>exact⟨_,_,rs,H',⟨Qa⟩,⟨ub sH.out⟩,⟨bb⟩⟩
  ·have tZ:=beq_eq_false_iff_ne.mpr c7;have c7e:(fF.toList).isEmpty=false:=List.isEmpty_eq_false_iff.mpr c7;have Qd:=bne_iff_ne.mpr c7
   (first|rw[tZ]|(simp only[jo,lg];rw[tZ])|skip)
   (first|(rw[c7e];simp only[Bool.not_true,Bool.not_false])|skip);replace H:=nn H;obtain⟨c8,H⟩:=H;have uK:=eq_true c8;have Gg:=decide_eq_true c8;try have azs:(9223372036854775807<1+fF.size)=False:=eq_false (Nat.not_lt.2 c8)
   replace H:=nn H;obtain⟨c9,H⟩:=H;have AZ:=eq_true c9;have Jb:=decide_eq_true c9;try have aN_:(9223372036854775807<eX.size+1+(1+fF.size))=False:=by have h_:=(eq_false (Nat.not_lt.2 c9):(9223372036854775807<(eX++(⟨#[58]⟩:ByteArray)).size+((⟨#[32]⟩:ByteArray)++fF).size)=False);simp only[ByteArray.size_append]at h_;exact h_
   try have aAg:(9223372036854775807<(eX++(⟨#[58]⟩:ByteArray)).size+((⟨#[32]⟩:ByteArray)++fF).size)=False:=eq_false (Nat.not_lt.2 c9)
   have H':=ak H;clear H;have z10:=Dh sH.out;go_wp2;go_meet
   case rel=>exact⟨_,_,rs,H',⟨Qa⟩,⟨ub sH.out⟩,⟨bb⟩⟩
 case rest=>
  clear Uk;try clear c2
  try clear qJ
  try clear yR
  try clear acf
  obtain⟨kq,mD,rfl,HA,HJ2,sH,HB⟩:=hcut
  cases kq with
  |zero=>exact zz HA.out
  |succ kj2=>
   obtain⟨H⟩:=HA;simp only[aZ.j0]at H;obtain⟨aOa,aql⟩:=nm ([]:List ByteArray);rw[←aql.out]at H;have H':=ak H;clear H;go_wp2_with (refine IY 23 Kd.string 9 aql ?_;intro v127 V6 ajh hb;have aAh:=ak (Kd.aG ajh (aj bb));replace sH:=kb sH hb;replace HB:=bz HB hb;clear hb ajh)
   go_loopg [3,4,5] kj2 (fun kq v3 v4 v5 w'=>∃(mD:ByteArray) (qF:Int) (vU:List ByteArray),v3= .string mD∧v4= .int .i64 qF∧ah (aZ.l0 kq mD qF vU=some r)∧ah (kq≤kj2)∧ah (Kd.R Kd.string 9 w' w.heap.size (fun _=>True) v5 vU)∧ah (w'.heap[RH]? =some (.cells #[.string eX, .string fF] 69 (0,0)))∧ah (Below w.heap.size w w'))
   case atStart=>exact⟨_,_,_,rs,rs,H',⟨Nat.le_refl _⟩,⟨ur aAh.out⟩,⟨ub sH.out⟩,⟨bb⟩⟩
   case round=>
    clear H';try clear c2
    try clear qJ
    try clear yR
    try clear acf
    obtain⟨mD,qF,vU,rfl,rfl,HA,HK2,sV,sH,HB⟩:=hrel
    cases gk with
    |zero=>exact zz HA.out
    |succ k2=>
     obtain⟨H⟩:=HA;simp only[aZ.l0]at H;replace H:=sp H;rcases H with⟨c13,H⟩|⟨c13,H⟩
     ·have xA:decide (40<(mD.size:Int))=true:=decide_eq_true c13;have Df:decide (40<mD.size)=true:=decide_eq_true (by omega);clear c13;have H':=ak H;clear H;go_wp2;go_loopg [6,7] k2 (fun kq v6 v7 w'=>∃(Gp:Int) (r_:Int),v6= .int .i64 Gp∧v7= .int .i64 r_∧ah (aZ.l1 kq mD vU Gp r_=some r)∧ah (kq≤k2)∧ah (Kd.R Kd.string 9 w' w.heap.size (fun _=>True) u5 vU)∧ah (w'.heap[RH]? =some (.cells #[.string eX, .string fF] 69 (0,0)))∧ah (Below w.heap.size w w'))
      case atStart=>exact⟨_,_,rs,rs,H',⟨Nat.le_refl _⟩,⟨ur sV.out⟩,⟨ub sH.out⟩,⟨bb⟩⟩
      case round=>
       clear H';try clear c2
       try clear qJ
       try clear yR
       try clear acf
       try clear c13
       try clear xA
       try clear Df
       obtain⟨Gp,r_,rfl,rfl,HA,HK3,sV,sH,HB⟩:=hrel
       cases gk with
       |zero=>exact zz HA.out
       |succ k3=>
        obtain⟨H⟩:=HA;simp only[aZ.l1]at H;replace H:=sp H;rcases H with⟨c14,H⟩|⟨c14,H⟩
        ·have vZ:=decide_eq_true c14
         (try(have Ah:decide ((r_+1)<(mD.size:Int))=true:=decide_eq_true (by have h_:=c14;unfold wrap64 at h_;omega)));clear c14;replace H:=oL H;obtain⟨yM,H⟩:=H;replace H:=oL H;obtain⟨zJ,H⟩:=H;replace H:=sq H;rcases H with⟨C_,Uo,H⟩|⟨c18,C_,Uo,H⟩
         ·obtain⟨Zm,akg⟩:∃j_:Int,(wrap64 (r_-1))=j_:=⟨_,rfl⟩
          replace H:(if 0≤(Zm)then(if(Zm)<(mD.size:Int)then(if(bt mD (Zm))=32 then(aZ.l1 k3 mD vU Gp (wrap64 (r_+1)))else(if 0≤(wrap64 (r_+1))then(if(bt mD (wrap64 (r_+1)))=32 then(aZ.l1 k3 mD vU Gp (wrap64 (r_+1)))else(if Gp<0 then(aZ.l1 k3 mD vU r_ (wrap64 (r_+1)))else(if r_≤40 then(aZ.l1 k3 mD vU r_ (wrap64 (r_+1)))else(aZ.l1 k3 mD vU Gp (wrap64 (r_+1))))))else(none)))else(none))else(none))=some r:=by first|(rw[akg]at H;exact H)|(simp only[akg]at H⊢;exact H)
          have aF2:(IntKind.i64.wrap (r_-1))=Zm:=(jo _).trans akg;replace H:=oL H;obtain⟨Rw,H⟩:=H;replace H:=oL H;obtain⟨Di,H⟩:=H;replace H:=sq H;rcases H with⟨CZ,RF,H⟩|⟨c23,CZ,RF,H⟩
          ·have H':=ak H;clear H;obtain⟨p17,q17,akh⟩:=bx mD r_;obtain⟨p22,q22,an_⟩:=bx mD (Zm);go_wp2;go_roundg k3
           case measure=>exact kl
           case rel=>exact⟨_,_,rs,rs,H',⟨kl⟩,⟨ur sV.out⟩,⟨ub sH.out⟩,⟨bb⟩⟩
          ·obtain⟨U6,RI⟩:∃j_:Int,(wrap64 (r_+1))=j_:=⟨_,rfl⟩
           replace H:(if 0≤(U6)then(if(bt mD (U6))=32 then(aZ.l1 k3 mD vU Gp U6)else(if Gp<0 then(aZ.l1 k3 mD vU r_ U6)else(if r_≤40 then(aZ.l1 k3 mD vU r_ U6)else(aZ.l1 k3 mD vU Gp U6))))else(none))=some r:=by first|(rw[RI]at H;exact H)|(simp only[RI]at H⊢;exact H)
           (try rw[RI]at vZ);have aF3:(IntKind.i64.wrap (r_+1))=U6:=(jo _).trans RI;replace H:=oL H;obtain⟨Ul,H⟩:=H;replace H:=sq H;rcases H with⟨I5,aeK,H⟩|⟨c27,I5,aeK,H⟩
           ·have H':=ak H;clear H;obtain⟨p17,q17,akh⟩:=bx mD r_;obtain⟨p22,q22,an_⟩:=bx mD (Zm);obtain⟨p26,q26,at1⟩:=bx mD (U6);go_wp2;go_roundg k3
            case measure=>exact kl
            case rel=>exact⟨_,_,rs,(by first|rfl|(simp;done)|(simp only[←RI]<;>(first|rfl|simp))|(simp[*];done)),H',⟨kl⟩,⟨ur sV.out⟩,⟨ub sH.out⟩,⟨bb⟩⟩
           ·replace H:=sd H;rcases H with⟨I7,H⟩|⟨I7,H⟩
            ·have H':=ak H;clear H;obtain⟨p17,q17,akh⟩:=bx mD r_;obtain⟨p22,q22,an_⟩:=bx mD (Zm);obtain⟨p26,q26,at1⟩:=bx mD (U6);go_wp2;go_roundg k3
             case measure=>exact kl
             case rel=>exact⟨_,_,rs,(by first|rfl|(simp;done)|(simp only[←RI]<;>(first|rfl|simp))|(simp[*];done)),H',⟨kl⟩,⟨ur sV.out⟩,⟨ub sH.out⟩,⟨bb⟩⟩
            ·replace H:=sd H;rcases H with⟨afV,H⟩|⟨afV,H⟩
             ·have H':=ak H;clear H;obtain⟨p17,q17,akh⟩:=bx mD r_;obtain⟨p22,q22,an_⟩:=bx mD (Zm);obtain⟨p26,q26,at1⟩:=bx mD (U6);go_wp2;go_roundg k3
              case measure=>exact kl
              case rel=>exact⟨_,_,rs,(by first|rfl|(simp;done)|(simp only[←RI]<;>(first|rfl|simp))|(simp[*];done)),H',⟨kl⟩,⟨ur sV.out⟩,⟨ub sH.out⟩,⟨bb⟩⟩
             ·have H':=ak H;clear H;obtain⟨p17,q17,akh⟩:=bx mD r_;obtain⟨p22,q22,an_⟩:=bx mD (Zm);obtain⟨p26,q26,at1⟩:=bx mD (U6);go_wp2;go_roundg k3
              case measure=>exact kl
              case rel=>exact⟨_,_,rs,(by first|rfl|(simp;done)|(simp only[←RI]<;>(first|rfl|simp))|(simp[*];done)),H',⟨kl⟩,⟨ur sV.out⟩,⟨ub sH.out⟩,⟨bb⟩⟩
         ·have H':=ak H;clear H;obtain⟨p17,q17,akh⟩:=bx mD r_;go_wp2;go_roundg k3
          case measure=>exact kl
          case rel=>exact⟨_,_,rs,rs,H',⟨kl⟩,⟨ur sV.out⟩,⟨ub sH.out⟩,⟨bb⟩⟩
        ·have vZ:=decide_eq_false c14
         (try(have Ah:decide ((r_+1)<(mD.size:Int))=false:=decide_eq_false (by have h_:=c14;unfold wrap64 at h_;omega)));clear c14;replace H:=sd H;rcases H with⟨aeM,H⟩|⟨aeM,H⟩
         ·replace H:=nl H;obtain⟨ai5,H⟩:=H;obtain⟨aOb,aqm⟩:=nm (vU++[mD]);rw[←aqm.out]at H;obtain rfl:=s1 H;go_wp2_with ((with_reducible refine dR (b:= .append) (xs:=#[.tmp 73, .tmp 75]) rfl ?_);at_builtin;refine Kd.qX Kd.string (w0:=w) w.heap.size rfl (.tmp 73) (.tmp 75) 23 9 (.string ⟨#[]⟩) 16 rfl Tryz.underlying23 info9 rfl (by decide) (by omega) u5 vU mD [.string mD] (fun _=>True) (fun _=>False) rfl rfl ?aP (fun _ hk=>hk.elim) ?aF ?aO ?aB ?aS ?aL ?_;(case aP=>exact rfl);(case aB=>exact bb);(case aF=>exact(fun _ _=>trivial));(case aO=>exact(ur sV.out));(case aS=>exact(aj bb));(case aL=>have:=ai5.out;omega);intro aOc w32 ho hb hg hat;rw[←aqm.out]at ho;have aAi:=ak (ho);replace sH:=ak (bD (g:=RH) (o:= .cells #[.string eX, .string fF] 69 (0,0)) (ub sH.out) hg (Kd.pz sV.out sH.out (by decide)));replace HB:=ak (hb);clear ho hb hg hat sV)
          go_ret;exact⟨_,er,ur aAi.out,bb⟩
         ·replace H:=Du H;obtain⟨WY,ajf,H⟩:=H;replace H:=Du H;obtain⟨aaD,aaE,H⟩:=H;replace H:=nl H;obtain⟨aki,H⟩:=H;obtain⟨aOd,aqn⟩:=nm (vU++[mD.extract 0 (Gp:Int).toNat]);rw[←aqn.out]at H;have aqo:=eq_true (of_decide_eq_true (by assumption):0≤Gp);have aJa:=eq_true (of_decide_eq_true (by assumption):Gp≤(mD.size:Int));have H':=ak H;clear H;try go_wp2
          replace sV:=ak (Kd.mg sV.out);replace sH:=ak (gZ sH.out);replace HB:=ak (gI HB.out);refine ro [4,5] [0,1,2,3,6,7,8,4,5,9,10,11] (fun w'=>True) trivial ?_
          generalize wr.drew=w38 at sV sH HB⊢
          repeat refine Bv ?_
          refine ld (N:=some 68) (gk.trans rfl) rfl rfl (fun K hK=>?_);refine D8 (w1:=?_) (v:=?_) (by rfl) rfl ?_ ?_
          rotate_left 2
          ·go_simp;constructor
           ·rfl
           ·rfl
          refine hK.out _ _ trivial ?_;clear hK K;refine no (a':=?_) ?_ ?_
          rotate_left
          ·show Act.put _ (some 68) _=_
           simp only[Act.put,zW,zX,l_c,jo,lg];rfl
          refine ld (N:=some 69) (gk.trans rfl) rfl rfl (fun K hK=>?_);refine Kd.oD Kd.string (w0:=w) w.heap.size (by rfl) (.tmp 64) (.tmp 68) 23 9 (.string ⟨#[]⟩) 16 rfl Tryz.underlying23 info9 rfl (by decide) (by omega) u5 vU (mD.extract 0 (Gp:Int).toNat) [.string (mD.extract 0 (Gp:Int).toNat)] (fun _=>True) (fun _=>False) rfl rfl ?aP (fun _ hk=>hk.elim) ?aF ?aO ?aB ?aS ?aL ?_
          (case aP=>exact rfl)
          (case aB=>exact bb)
          (case aF=>exact(fun _ _=>trivial))
          (case aO=>exact(ur sV.out))
          (case aS=>exact(aj bb))
          (case aL=>have:=aki.out;omega);intro aOe w39 ho hb hg hat
          rw[←aqn.out]at ho;have y9:=ak (bD (g:=RH) (o:= .cells #[.string eX, .string fF] 69 (0,0)) (ub sH.out) hg (Kd.pz sV.out sH.out (by decide)));have zf:=ak (hb);have zY:=ak (ho);clear sH HB sV;have sH:=y9;have HB:=zf;have aAj:=zY;clear y9 zf zY ho hb hg hat
          refine hK.out _ _ trivial ?_;clear hK K;refine no (a':=?_) ?_ ?_
          rotate_left
          ·show Act.put _ (some 69) _=_
           simp only[Act.put,zW,zX,l_c,jo,lg];rfl
          repeat refine Bv ?_
          refine on ?_;try go_wp2
          go_roundg k3
          case measure=>exact kl
          case rel=>exact⟨_,_,_,rs,rs,H',⟨kl⟩,⟨ur aAj.out⟩,⟨ub sH.out⟩,⟨bb⟩⟩
     ·have xA:decide (40<(mD.size:Int))=false:=decide_eq_false c13;have Df:decide (40<mD.size)=false:=decide_eq_false (by omega);clear c13;replace H:=nl H;obtain⟨aaF,H⟩:=H;obtain⟨aOf,aqp⟩:=nm (vU++[mD]);rw[←aqp.out]at H;obtain rfl:=s1 H;go_wp2_with ((with_reducible refine dR (b:= .append) (xs:=#[.tmp 73, .tmp 75]) rfl ?_);at_builtin;refine Kd.qX Kd.string (w0:=w) w.heap.size rfl (.tmp 73) (.tmp 75) 23 9 (.string ⟨#[]⟩) 16 rfl Tryz.underlying23 info9 rfl (by decide) (by omega) u5 vU mD [.string mD] (fun _=>True) (fun _=>False) rfl rfl ?aP (fun _ hk=>hk.elim) ?aF ?aO ?aB ?aS ?aL ?_;(case aP=>exact rfl);(case aB=>exact bb);(case aF=>exact(fun _ _=>trivial));(case aO=>exact(ur sV.out));(case aS=>exact(aj bb));(case aL=>have:=aaF.out;omega);intro v130 w41 ho hb hg hat;rw[←aqp.out]at ho;have aAk:=ak (ho);replace sH:=ak (bD (g:=RH) (o:= .cells #[.string eX, .string fF] 69 (0,0)) (ub sH.out) hg (Kd.pz sV.out sH.out (by decide)));replace HB:=ak (hb);clear ho hb hg hat sV)
      go_ret;exact⟨_,er,ur aAk.out,bb⟩
def jB.l0:Nat→List ByteArray→List (fP)→Int→Int→Option (List ByteArray×Bool)
 |0,_,_,_,_=>none
 |k+1,x4,x11,x12,DI=>if DI<x12 then(if 0≤DI then(if DI<(x11.length:Int)then((aZ.f k ((dU x11 DI).f0) ((dU x11 DI).f1)).bind fun ahy=>(if x4.length+ahy.length<8796093022208 then(jB.l0 k (x4++ahy) x11 x12 (wrap64 (DI+1)))else(none)))else(none))else(none))else(some (x4,true))
def jB.f (k:Nat) (l0:List (fP)):Option (List ByteArray×Bool):=(o9.f k l0).bind fun t138=>(if t138=true then(jB.l0 k (([]:List ByteArray)) l0 (l0.length:Int) 0)else(some (([]:List ByteArray),false)))
theorem jB.calls {k c0:Nat} {A0:Option Addr} {l0:List (fP)} {r1:List ByteArray} {r2:Bool} {w:World} (hr0:Kd.C ou w A0 l0.length l0) (hc0:l0.length≤c0) (h:jB.f k l0=some (r1,r2)):
  Calls Tryz.prog 39 #[.slice A0 l0.length c0] w fun e w'=>∃pO:Value,e= .returned (.tuple #[pO, .bool r2])∧Kd.R Kd.string 9 w' w.heap.size (fun _=>True) pO r1∧Below w.heap.size w w':=by
 have Gh:=Tryz.underlying69;have HR0:=ak hr0;have zH:=ak hc0;clear hr0 hc0;have HB:=ak (Below.refl w.heap.size w);unfold jB.f at h;have H:=h;clear h;replace H:=bd H;obtain⟨t138,A2,H⟩:=H;replace H:=sb H;rcases H with⟨rfl,H⟩|⟨rfl,H⟩
 ·obtain⟨aOg,aqr⟩:=nm ([]:List ByteArray);rw[←aqr.out]at H;have H':=ak H;clear H;go_enter Tryz.func39,Tryz.ntmps39;go_wp2_with (first|(refine gB Tryz.func82 (o9.calls (cu HR0.out) zH.out A2.out) ?_;intro w4 hb;replace HB:=bs HB hb;clear hb)|(refine IY 10 Kd.string 9 aqr ?_;intro aOh w5 ho6 hb;have aAl:=ak (Kd.aG ho6 (aj (ul HB.out)));replace HB:=bs HB hb;clear hb ho6))
  go_loopg [4,13] k (fun kq v4 v13 w'=>∃(fC:List ByteArray) (jH:Int),v13= .int .i64 jH∧ah (jB.l0 kq fC l0 (l0.length:Int) jH=some (r1,r2))∧ah (kq≤k)∧ah (Kd.R Kd.string 9 w' w.heap.size (fun _=>True) v4 fC)∧ah (Below w.heap.size w w'))
  case atStart=>exact⟨_,_,rs,H',⟨Nat.le_refl _⟩,⟨ur aAl.out⟩,⟨ul HB.out⟩⟩
  case round=>
   clear H';obtain⟨fC,jH,rfl,HA,xK,jf,HB⟩:=hrel
   cases gk with
   |zero=>exact zz HA.out
   |succ k1=>
    obtain⟨H⟩:=HA;simp only[jB.l0]at H;replace H:=sd H;rcases H with⟨tZ,H⟩|⟨tZ,H⟩
    ·replace H:=oL H;obtain⟨uK,H⟩:=H;replace H:=oL H;obtain⟨AZ,H⟩:=H;replace H:=bd H;obtain⟨ahy,A10,H⟩:=H;replace H:=nl H;obtain⟨UK,H⟩:=H;obtain⟨aOi,aqs⟩:=nm (fC++ahy);rw[←aqs.out]at H;have H':=ak H;clear H;have at6:=zi jH;have at7:=zj jH l0.length;obtain⟨aJb,aF4,afZ,af0⟩:=qW HR0.out jH at6 at7;cases aF4;replace afZ:=cl HB.out afZ;replace af0:=cl HB.out af0;replace at6:=eq_true at6;replace at7:=eq_true at7;go_wp2_with (first|(refine bX HB 6 #[.string (⟨#[]⟩:ByteArray), .string (⟨#[]⟩:ByteArray)] 69 ?_;intro aAm w12 Xi aJc hb;replace jf:=rb jf hb;replace HB:=bs HB hb;clear hb;have z13:=Dh Xi.out)|(refine gV Tryz.func83 (aZ.calls A10.out) ?_;rintro v145 V3 ⟨ho0,hb⟩;have aaW:=ak (Kd.aG (Kd.eU ho0 (Kd.jM (rh jf))) (aj bb));replace jf:=ak (Kd.dY (rh jf) (Kd.bV ho0) hb);replace Xi:=kp Xi #[.string ((dU l0 jH).f0), .string ((dU l0 jH).f1)] hb;replace HB:=bz HB hb;clear hb;(try clear ho0);obtain⟨LW,KC,UZ⟩:=Kd.aH aaW.out;subst UZ)|((with_reducible refine dR (b:= .append) (xs:=#[.tmp 17, .tmp 19]) rfl ?_);at_builtin;refine Kd.pU Kd.string (w0:=w) w.heap.size rfl (.tmp 17) (.tmp 19) 23 9 (.string ⟨#[]⟩) 16 rfl Tryz.underlying23 info9 rfl (by decide) (by omega) u4 fC ahy _ _ _ (fun k_=>some k_≠(.slice LW ahy.length KC:Value).ownBlock) (fun _=>False) rfl rfl ?aO ?aR (fun _ _ h=>h) (fun _ h=>h.elim) ?aF ?aB ?aS ?aL ?_;(case aR=>repeat(first|exact(Kd.aK aaW.out).2.2|(with_reducible refine Kd.mP ?_ _)|(with_reducible refine Kd.mQ ?_ _)|(with_reducible refine Kd.qE ?_)));(case aB=>exact bb);(case aF=>exact(fun k_ hk=>Kd.fresh' (Kd.jM (ur aaW.out)) k_ hk));(case aO=>exact(ur (Kd.aW jf.out (fun _ hk=>hk.2))));(case aS=>exact(aj bb));(case aL=>have:=UK.out;omega);intro v148 w15 ho hb hg hat;rw[←aqs.out]at ho;have aAn:=ak (ho);replace Xi:=ak (bD (g:=aAm) (o:= .cells #[.string ((dU l0 jH).f0), .string ((dU l0 jH).f1)] 69 (0,0)) (ub Xi.out) hg (Kd.pz jf.out Xi.out (by decide)));replace aaW:=ak (Kd.Ag (ok:=(fun _=>True)) (ur aaW.out) hg hat);replace HB:=ak (hb);clear ho hb hg hat jf))
     go_roundg k1
     case measure=>exact kl
     case rel=>exact⟨_,_,rs,H',⟨kl⟩,⟨ur (Kd.aW aAn.out (fun _ hk=>trivial))⟩,⟨bb⟩⟩
    ·obtain⟨rfl,rfl⟩:=s2 H;go_wp2;go_ret2;exact⟨_,er,ur jf.out,ul HB.out⟩
 ·obtain⟨rfl,rfl⟩:=s2 H;go_enter Tryz.func39,Tryz.ntmps39;go_wp2_with (refine gB Tryz.func82 (o9.calls (cu HR0.out) zH.out A2.out) ?_;intro w17 hb;replace HB:=bs HB hb;clear hb)
  go_ret2;exact⟨_,er,nx,ul HB.out⟩
def jv.f (a0:ByteArray):Option (ByteArray):=if a0.size≤140737488355328 then some (strOfNums ((bytesOf a0).map V9))else none
set_option maxHeartbeats 1000000 in
set_option maxRecDepth 100000 in
theorem jv.calls {a0 r:ByteArray} {w:World} (h:jv.f a0=some r):
  Calls Tryz.prog 93 #[.string a0] w fun e w'=>e= .returned (.string r)∧Below w.heap.size w w':=by
 unfold jv.f at h;split at h
 ·rename_i hb
  injection h with h;subst h;have kb:=fun W=>Ru (P:=Tryz.prog) 9 22 5 Tryz.underlying9 Tryz.underlying22 Tryz.underlying5 a0 W
  go_enter Tryz.func93,Tryz.ntmps93;go_wp2;go_loopw [10] (fun i W=>∃k:Nat,k≤a0.size∧i= .int .i64 k∧Qo w w.heap.size (IJ (bytesOf a0) k) W) (fun i _=>a0.size-(intOf i).toNat)
  case atStart=>exact⟨0,Nat.zero_le _,rfl,by simpa [IJ] using NR w 5 a0⟩
  case round=>
   obtain⟨k,hk,rfl,hR⟩:=hrel;have HR:=ak hR;by_cases hlt:k<a0.size
   ·have hc:=hR.cell k (by rw[nR,bytesOf_length];exact hlt);have hf:=hR.free k (by rw[nR,bytesOf_length];exact hlt);rw[Yk _ _ (by rw[bytesOf_length];exact hlt)]at hc;clear hR;have hr:=KQ a0 k;have hs:=ak (WX (bytesOf a0) k (by rw[bytesOf_length];exact hlt));have hu:=ak (Qp (bytesOf a0) k (by rw[bytesOf_length];exact hlt))
    generalize (bytesOf a0).getD k 0=c at hc hr hs hu
    go_wp2
    ·go_roundw
     case rel=>exact⟨k+1,by omega,by go_num,by
      rw[hu.out,V9,if_pos ⟨by omega,by omega⟩];exact HR.out.store (Nat.le_refl _) k (by rw[nR,bytesOf_length];exact hlt) _⟩
     case measure=>simp[intOf];omega
    ·go_roundw
     case rel=>exact⟨k+1,by omega,by go_num,by rw[hs.out (by omega)];exact HR.out⟩
     case measure=>simp[intOf];omega
    ·go_roundw
     case rel=>exact⟨k+1,by omega,by go_num,by rw[hs.out (by omega)];exact HR.out⟩
     case measure=>simp[intOf];omega
   ·clear hR
    have kd:=run_convert_bytes_arg (P:=Tryz.prog) wr 22 5 Tryz.underlying22 Tryz.underlying5 w.heap.size 0 a0.size (grownCap w a0.size 0 5) (IJ (bytesOf a0) k) (by rw[nR,bytesOf_length]) (fun i hi=>by
     rw[Nat.zero_add];exact HR.out.cell i (by rw[nR,bytesOf_length];exact hi)) 9 Tryz.underlying9
    go_wp2;go_ret;have hk2:k=a0.size:=by omega
    exact⟨by rw[hk2,aaz (bytesOf a0) a0.size (bytesOf_length a0)];rfl,HR.out.below⟩
 ·cases h
def uN.f (a0:ByteArray) (a1:ByteArray):Option (Bool):=(jv.f a0).bind fun aAo=>((jv.f a1).bind fun aAp=>(some (aAo.toList==aAp.toList)))
theorem uN.calls {a0 a1:ByteArray} {r:Bool} {w:World} (h:uN.f a0 a1=some r):
  Calls Tryz.prog 124 #[.string a0, .string a1] w fun e w'=>e= .returned (.bool r)∧Below w.heap.size w w':=by
 have HB:=ak (Below.refl w.heap.size w);unfold uN.f at h;have H:=h;clear h;replace H:=bd H;obtain⟨aAo,A3,H⟩:=H;replace H:=bd H;obtain⟨aAp,A4,H⟩:=H;obtain rfl:=s1 H;go_enter Tryz.func124,Tryz.ntmps124;go_wp2_with (first|(refine gB Tryz.func93 (jv.calls A3.out) ?_;intro w5 hb;replace HB:=bs HB hb;clear hb)|(refine gB Tryz.func93 (jv.calls A4.out) ?_;intro w6 hb;replace HB:=bs HB hb;clear hb))
 go_ret;exact⟨er,ul HB.out⟩
def qh.f (eX:ByteArray) (fF:ByteArray) (a1:ByteArray):Option (Bool):=(uN.f eX a1).bind fun aAq=>(some aAq)
theorem qh.calls {eX fF a1:ByteArray} {gq1:Nat} {r:Bool} {w:World} (hq1:w.heap[gq1]? =some (.cells #[.string a1] 9 (0,0))) (h:qh.f eX fF a1=some r):
  Calls Tryz.prog 123 #[.agg #[.string eX, .string fF], .pointer (some ⟨gq1,0,none⟩)] w fun e w'=>e= .returned (.bool r)∧Below w.heap.size w w':=by
 have Gh:=Tryz.underlying69;have xP:=ak hq1;clear hq1;have HB:=ak (Below.refl w.heap.size w);unfold qh.f at h;have H:=h;clear h;replace H:=bd H;obtain⟨aAq,A3,H⟩:=H;obtain rfl:=s1 H;go_enter Tryz.func123,Tryz.ntmps123;go_wp2_with (first|(refine bY HB 2 #[.string eX, .string fF] 69 ?_;intro aJd w4 akj aJe hg hb;have akk:=yA xP hg;have akl:=yB xP hg;replace xP:=kb xP hb;replace HB:=bz HB hb;clear hb hg;have aOj:=akl.out;have aOk:=akk.out;have z6:=Dh akj.out;have aF5:w4.cell? ⟨gq1,0,none⟩=some (.string a1):=(ay xP.out 0).trans rfl;have aF6:=fK xP.out 0)|(refine gB Tryz.func124 (uN.calls A3.out) ?_;intro w8 hb;replace xP:=kb xP hb;replace akj:=kb akj hb;replace HB:=bz HB hb;clear hb))
 go_ret;exact⟨er,bb⟩
def fG.l0:Nat→List (fP)→Int→Int→ByteArray→Option (Int)
 |0,_,_,_,_=>none
 |k+1,x0,x7,x8,Uj=>if x8<x7 then(if 0≤x8 then(if x8<(x0.length:Int)then((qh.f ((dU x0 x8).f0) ((dU x0 x8).f1) Uj).bind fun aAr=>(if aAr=true then(some x8)else(fG.l0 k x0 x7 (wrap64 (x8+1)) Uj)))else(none))else(none))else(some (-1))
def fG.f (k:Nat) (l0:List (fP)) (II:ByteArray):Option (Int):=fG.l0 k l0 (l0.length:Int) 0 II
theorem fG.calls {k c0 KO:Nat} {A0:Option Addr} {l0:List (fP)} {II:ByteArray} {r:Int} {w:World} (hr0:Kd.C ou w A0 l0.length l0) (hc0:l0.length≤c0) (Rk:w.heap[KO]? =some (.cells #[.string II] 9 (0,0))) (h:fG.f k l0 II=some r):
  Calls Tryz.prog 122 #[.slice A0 l0.length c0, .func (.func 123) #[] #[.pointer (some ⟨KO,0,none⟩)]] w fun e w'=>e= .returned (.int .i64 r)∧Below w.heap.size w w':=by
 have Gh:=Tryz.underlying69;have HR0:=ak hr0;have zH:=ak hc0;clear hr0 hc0;have xP:=ak Rk;clear Rk;have HB:=ak (Below.refl w.heap.size w);unfold fG.f at h;have H:=h;clear h;have H':=ak H;clear H;go_enter Tryz.func122,Tryz.ntmps122;go_wp2;go_loopg [8] k (fun kq v8 w'=>∃(lQ:Int),v8= .int .i64 lQ∧ah (fG.l0 kq l0 (l0.length:Int) lQ II=some r)∧ah (kq≤k)∧ah (w'.heap[KO]? =some (.cells #[.string II] 9 (0,0)))∧ah (Below w.heap.size w w'))
 case atStart=>exact⟨_,rs,H',⟨Nat.le_refl _⟩,⟨ub xP.out⟩,⟨bb⟩⟩
 case round=>
  clear H';obtain⟨lQ,rfl,HA,xK,xP,HB⟩:=hrel
  cases gk with
  |zero=>exact zz HA.out
  |succ k1=>
   obtain⟨H⟩:=HA;simp only[fG.l0]at H;replace H:=sd H;rcases H with⟨iW,H⟩|⟨iW,H⟩
   ·replace H:=oL H;obtain⟨rW,H⟩:=H;replace H:=oL H;obtain⟨oz,H⟩:=H;replace H:=bd H;obtain⟨aAr,A6,H⟩:=H;replace H:=sb H;rcases H with⟨rfl,H⟩|⟨rfl,H⟩
    ·obtain rfl:=s1 H;have adb:=zi lQ;have ade:=zj lQ l0.length;obtain⟨aAs,e154,OX,OY⟩:=qW HR0.out lQ adb ade;cases e154;replace OX:=cl HB.out OX;replace OY:=cl HB.out OY;replace adb:=eq_true adb;replace ade:=eq_true ade;go_wp2_with (go_at_call 123;refine mB (qh.calls (ub xP.out) A6.out) ?_;intro w8 hb;replace xP:=kb xP hb;replace HB:=bz HB hb;clear hb)
     go_ret;exact⟨er,bb⟩
    ·have H':=ak H;clear H;have adb:=zi lQ;have ade:=zj lQ l0.length;obtain⟨aAs,e154,OX,OY⟩:=qW HR0.out lQ adb ade;cases e154;replace OX:=cl HB.out OX;replace OY:=cl HB.out OY;replace adb:=eq_true adb;replace ade:=eq_true ade;go_wp2_with (go_at_call 123;refine mB (qh.calls (ub xP.out) A6.out) ?_;intro w9 hb;replace xP:=kb xP hb;replace HB:=bz HB hb;clear hb)
     go_roundg k1
     case measure=>exact kl
     case rel=>exact⟨_,rs,H',⟨kl⟩,⟨ub xP.out⟩,⟨bb⟩⟩
   ·obtain rfl:=s1 H;go_wp2;go_ret;exact⟨er,bb⟩
def lT.f (k:Nat) (l0:List (fP)) (a1:ByteArray):Option (Int):=(fG.f k l0 a1).bind fun t157=>(some t157)
theorem lT.calls {k c0:Nat} {A0:Option Addr} {l0:List (fP)} {a1:ByteArray} {r:Int} {w:World} (hr0:Kd.C ou w A0 l0.length l0) (hc0:l0.length≤c0) (h:lT.f k l0 a1=some r):
  Calls Tryz.prog 88 #[.slice A0 l0.length c0, .string a1] w fun e w'=>e= .returned (.int .i64 r)∧Below w.heap.size w w':=by
 have HR0:=ak hr0;have zH:=ak hc0;clear hr0 hc0;have HB:=ak (Below.refl w.heap.size w);unfold lT.f at h;have H:=h;clear h;replace H:=bd H;obtain⟨t157,A3,H⟩:=H;obtain rfl:=s1 H;go_enter Tryz.func88,Tryz.ntmps88;go_wp2_with (first|(refine bX HB 3 #[.string a1] 9 ?_;intro aJf w4 akm aJg hb;replace HB:=bs HB hb;clear hb)|(refine gB Tryz.func122 (fG.calls (cu (Kd.aI HR0.out HB.out)) zH.out (ub akm.out) A3.out) ?_;intro w5 hb;replace akm:=kb akm hb;replace HB:=bz HB hb;clear hb))
 go_ret;exact⟨er,bb⟩
def oG.f (k:Nat) (l0:List (fP)) (a1:ByteArray):Option (ByteArray×Bool):=(lT.f k l0 a1).bind fun aaX=>(if aaX<0 then(some ((⟨#[]⟩:ByteArray),false))else(if 0≤aaX then(if aaX<(l0.length:Int)then(some ((dU l0 aaX).f1,true))else(none))else(none)))
theorem oG.calls {k c0:Nat} {A0:Option Addr} {l0:List (fP)} {a1 r1:ByteArray} {r2:Bool} {w:World} (hr0:Kd.C ou w A0 l0.length l0) (hc0:l0.length≤c0) (h:oG.f k l0 a1=some (r1,r2)):
  Calls Tryz.prog 47 #[.slice A0 l0.length c0, .string a1] w fun e w'=>e= .returned (.tuple #[.string r1, .bool r2])∧Below w.heap.size w w':=by
 have HR0:=ak hr0;have zH:=ak hc0;clear hr0 hc0;have HB:=ak (Below.refl w.heap.size w);unfold oG.f at h;have H:=h;clear h;replace H:=bd H;obtain⟨aaX,A3,H⟩:=H;replace H:=sd H;rcases H with⟨rW,H⟩|⟨rW,H⟩
 ·obtain⟨rfl,rfl⟩:=s2 H;go_enter Tryz.func47,Tryz.ntmps47;go_wp2_with (refine gB Tryz.func88 (lT.calls (cu HR0.out) zH.out A3.out) ?_;intro w5 hb;replace HB:=bs HB hb;clear hb)
  go_ret2;exact⟨er,ul HB.out⟩
 ·replace H:=oL H;obtain⟨pF,H⟩:=H;replace H:=oL H;obtain⟨tZ,H⟩:=H;obtain⟨rfl,rfl⟩:=s2 H;go_enter Tryz.func47,Tryz.ntmps47;go_wp2_with (refine gB Tryz.func88 (lT.calls (cu HR0.out) zH.out A3.out) ?_;intro w8 hb;replace HB:=bs HB hb;clear hb;have aua:0≤(aaX:Int):=of_decide_eq_true (by assumption);have aub:aaX<(l0.length:Int):=of_decide_eq_true (by assumption);obtain⟨aJh,aF7,Zn,Zo⟩:=qW HR0.out aaX aua aub;cases aF7;replace Zn:=(HB.out.cell (World.block_lt_of_cell? w _ Zn)).trans Zn;replace Zo:=(HB.out.cell (World.block_lt_of_cell? w _ Zo)).trans Zo;replace aua:=eq_true aua;replace aub:=eq_true aub)
  go_ret2;exact⟨er,ul HB.out⟩
def jS.l0:Nat→ByteArray→List Int→Int→Option (ByteArray×Int×Bool)
 |0,_,_,_=>none
 |k+1,x0,x5,x6=>if x6<(x0.size:Int)then(if 0≤x6 then(if(bt x0 x6)=34 then(some (strOfNums x5,wrap64 (x6+1),true))else(if(bt x0 x6)=92 then(if(wrap64 (x6+1))=(x0.size:Int)then(some ((⟨#[]⟩:ByteArray),0,false))else(if 0≤(wrap64 (x6+1))then(if(wrap64 (x6+1))<(x0.size:Int)then(if x5.length<140737488355328 then(jS.l0 k x0 (x5++[bt x0 (wrap64 (x6+1))]) (wrap64 ((wrap64 (x6+1))+1)))else(none))else(none))else(none)))else(if x5.length<140737488355328 then(jS.l0 k x0 (x5++[bt x0 x6]) (wrap64 (x6+1)))else(none))))else(none))else(some ((⟨#[]⟩:ByteArray),0,false))
def jS.f (k:Nat) (a0:ByteArray):Option (ByteArray×Int×Bool):=jS.l0 k a0 (([]:List Int)) 1
theorem jS.calls {k:Nat} {a0 r1:ByteArray} {r2:Int} {r3:Bool} {w:World} (h:jS.f k a0=some (r1,r2,r3)):
  Calls Tryz.prog 134 #[.string a0] w fun e w'=>e= .returned (.tuple #[.string r1, .int .i64 r2, .bool r3])∧Below w.heap.size w w':=by
 have HB:=ak (Below.refl w.heap.size w);unfold jS.f at h;have H:=h;clear h;obtain⟨y160,aqt⟩:=nm ([]:List Int);rw[←aqt.out]at H;have H':=ak H;clear H;go_enter Tryz.func134,Tryz.ntmps134;go_wp2_with (refine IY 7 (Kd.int .u8) 5 aqt ?_;intro aOl w2 ho3 hb;have aAt:=ak (Kd.aG ho3 (aj (ul HB.out)));replace HB:=bs HB hb;clear hb ho3)
 go_loopg [5,6] k (fun kq v5 v6 w'=>∃(fD:List Int) (fE:Int),v6= .int .i64 fE∧ah (jS.l0 kq a0 fD fE=some (r1,r2,r3))∧ah (kq≤k)∧ah (Kd.R (Kd.int .u8) 5 w' w.heap.size (fun _=>True) v5 fD)∧ah (Below w.heap.size w w'))
 case atStart=>exact⟨_,_,rs,H',⟨Nat.le_refl _⟩,⟨ur aAt.out⟩,⟨ul HB.out⟩⟩
 case round=>
  clear H';obtain⟨fD,fE,rfl,HA,xK,sV,HB⟩:=hrel
  cases gk with
  |zero=>exact zz HA.out
  |succ k1=>
   obtain⟨H⟩:=HA;simp only[jS.l0]at H;replace H:=sd H;rcases H with⟨rW,H⟩|⟨rW,H⟩
   ·replace H:=oL H;obtain⟨oz,H⟩:=H;replace H:=sq H;rcases H with⟨tZ,Qd,H⟩|⟨c7,tZ,Qd,H⟩
    ·obtain⟨rfl,rfl,rfl⟩:=s3 H;obtain⟨p6,q6,hx6⟩:=bx a0 fE;have aOm:=tK (P:=Tryz.prog) Tryz.underlying22 Tryz.underlying5 Tryz.underlying9 (Kd.xW sV.out);go_wp2;go_ret3;exact⟨er,ul HB.out⟩
    ·replace H:=sq H;rcases H with⟨oO,vH,H⟩|⟨c10,oO,vH,H⟩
     ·replace H:=sq H;rcases H with⟨vY,Io,H⟩|⟨c11,vY,Io,H⟩
      ·obtain⟨rfl,rfl,rfl⟩:=s3 H;obtain⟨p6,q6,hx6⟩:=bx a0 fE;obtain⟨p9,q9,hx9⟩:=bx a0 fE;go_wp2;go_ret3;exact⟨er,ul HB.out⟩
      ·obtain⟨SK,Ir⟩:∃j_:Int,(wrap64 (fE+1))=j_:=⟨_,rfl⟩
       replace H:(if 0≤(SK)then(if(SK)<(a0.size:Int)then(if fD.length<140737488355328 then(jS.l0 k1 a0 (fD++[bt a0 (SK)]) (wrap64 ((SK)+1)))else(none))else(none))else(none))=some (r1,r2,r3):=by first|(rw[Ir]at H;exact H)|(simp only[Ir]at H⊢;exact H)
       (try rw[Ir]at vY)
       (try rw[Ir]at Io);have atY:(IntKind.i64.wrap (fE+1))=SK:=(jo _).trans Ir;replace H:=oL H;obtain⟨xA,H⟩:=H;replace H:=oL H;obtain⟨vZ,H⟩:=H;replace H:=nl H;obtain⟨akb,H⟩:=H;obtain⟨aOn,aqu⟩:=nm (fD++[bt a0 (SK)]);rw[←aqu.out]at H;have H':=ak H;clear H;obtain⟨p6,q6,hx6⟩:=bx a0 fE;obtain⟨p9,q9,hx9⟩:=bx a0 fE;obtain⟨p15,q15,aOo⟩:=bx a0 (SK);go_wp2_with (at_builtin;refine aP 34 38 (Kd.int .u8) 22 5 (.int .u8 0) 1 Tryz.underlying22 info5 HB (ur sV.out) aqu (by have:=akb.out;omega) ?_;intro v164 w17 ho hb hg hat;have aAu:=ak (ho);replace HB:=ak (hb);clear ho hb hg hat sV)
       go_roundg k1
       case measure=>exact kl
       case rel=>exact⟨_,_,(by first|rfl|(simp;done)|(simp only[←Ir]<;>(first|rfl|simp))|(simp[*];done)),H',⟨kl⟩,⟨ur aAu.out⟩,⟨ul HB.out⟩⟩
     ·replace H:=nl H;obtain⟨ajc,H⟩:=H;obtain⟨aOp,aqv⟩:=nm (fD++[bt a0 fE]);rw[←aqv.out]at H;have H':=ak H;clear H;obtain⟨p6,q6,hx6⟩:=bx a0 fE;obtain⟨p9,q9,hx9⟩:=bx a0 fE;obtain⟨p18,q18,aAv⟩:=bx a0 fE;go_wp2_with (at_builtin;refine aP 34 38 (Kd.int .u8) 22 5 (.int .u8 0) 1 Tryz.underlying22 info5 HB (ur sV.out) aqv (by have:=ajc.out;omega) ?_;intro v167 w20 ho hb hg hat;have aAw:=ak (ho);replace HB:=ak (hb);clear ho hb hg hat sV)
      go_roundg k1
      case measure=>exact kl
      case rel=>exact⟨_,_,rs,H',⟨kl⟩,⟨ur aAw.out⟩,⟨ul HB.out⟩⟩
   ·obtain⟨rfl,rfl,rfl⟩:=s3 H;go_wp2;go_ret3;exact⟨er,ul HB.out⟩
def kM.l0:Nat→ByteArray→Int→Int→Option (Int)
 |0,_,_,_=>none
 |k+1,x0,x1,x5=>if x5<(x0.size:Int)then(if 0≤x5 then(if(bt x0 x5)=34 then(if x5≤(x0.size:Int)then((jS.f k (x0.extract (x5:Int).toNat x0.size)).bind fun aqw=>(if aqw.2.2=true then(kM.l0 k x0 x1 (wrap64 ((wrap64 (x5+(wrap64 (aqw.2.1-1))))+1)))else(some (-1))))else(none))else(if(bt x0 x5)=x1 then(some x5)else(kM.l0 k x0 x1 (wrap64 (x5+1)))))else(none))else(some (-1))
def kM.f (k:Nat) (a0:ByteArray) (a1:Int):Option (Int):=kM.l0 k a0 a1 0
theorem kM.calls {k:Nat} {a0:ByteArray} {a1 r:Int} {w:World} (h:kM.f k a0 a1=some r):
  Calls Tryz.prog 125 #[.string a0, .int .u8 a1] w fun e w'=>e= .returned (.int .i64 r)∧Below w.heap.size w w':=by
 have HB:=ak (Below.refl w.heap.size w);unfold kM.f at h;have H:=h;clear h;have H':=ak H;clear H;go_enter Tryz.func125,Tryz.ntmps125;go_wp2;go_loopg [5] k (fun kq v5 w'=>∃(fD:Int),v5= .int .i64 fD∧ah (kM.l0 kq a0 a1 fD=some r)∧ah (kq≤k)∧ah (Below w.heap.size w w'))
 case atStart=>exact⟨_,rs,H',⟨Nat.le_refl _⟩,⟨ul HB.out⟩⟩
 case round=>
  clear H';obtain⟨fD,rfl,HA,xK,HB⟩:=hrel
  cases gk with
  |zero=>exact zz HA.out
  |succ k1=>
   obtain⟨H⟩:=HA;simp only[kM.l0]at H;replace H:=sd H;rcases H with⟨iW,H⟩|⟨iW,H⟩
   ·replace H:=oL H;obtain⟨rW,H⟩:=H;replace H:=sq H;rcases H with⟨pF,Ad,H⟩|⟨c6,pF,Ad,H⟩
    ·have tZ:=eq_true (of_decide_eq_true (by assumption):0≤fD);replace H:=Du H;obtain⟨uK,Gg,H⟩:=H;replace H:=bd H;obtain⟨⟨aOq,aOr,t171⟩,A9,H⟩:=H
     (try dsimp only at H);replace H:=sb H;rcases H with⟨rfl,H⟩|⟨rfl,H⟩
     ·have H':=ak H;clear H;obtain⟨p5,q5,hx5⟩:=bx a0 fD;go_wp2_with (refine gB Tryz.func134 (jS.calls A9.out) ?_;intro V6 hb;replace HB:=bs HB hb;clear hb)
      go_roundg k1
      case measure=>exact kl
      case rel=>exact⟨_,rs,H',⟨kl⟩,⟨ul HB.out⟩⟩
     ·obtain rfl:=s1 H;obtain⟨p5,q5,hx5⟩:=bx a0 fD;go_wp2_with (refine gB Tryz.func134 (jS.calls A9.out) ?_;intro w12 hb;replace HB:=bs HB hb;clear hb)
      go_ret;exact⟨er,ul HB.out⟩
    ·replace H:=sq H;rcases H with⟨xA,Df,H⟩|⟨c13,xA,Df,H⟩
     ·obtain rfl:=s1 H;obtain⟨p5,q5,hx5⟩:=bx a0 fD;go_wp2;go_ret;exact⟨er,ul HB.out⟩
     ·have H':=ak H;clear H;obtain⟨p5,q5,hx5⟩:=bx a0 fD;go_wp2;go_roundg k1
      case measure=>exact kl
      case rel=>exact⟨_,rs,H',⟨kl⟩,⟨ul HB.out⟩⟩
   ·obtain rfl:=s1 H;go_wp2;go_ret;exact⟨er,ul HB.out⟩
end Go.Proofs.YtncdadcmghglkaaGreatDoor.PFnPartAt
