/- Printed walks; conditions: those in each statement. -/
import Derived.Test.YtncdadcmghglkaaGreatDoorVFnPathEmptyQt
import Derived.Test.YtncdadcmghglkaaGreatDoorVFnPathEmptyYt
import Derived.Test.YtncdadcmghglkaaGreatDoorPFnPathEmptyx0
import Derived.Test.YtncdadcmghglkaaGreatDoorPFnPathEmptyx3
-- short
-- dense
-- sq
-- sq2
namespace Go.Proofs.YtncdadcmghglkaaGreatDoor.PFnPathEmpty
open Go.RowKit Go.Proofs.YtncdadcmghglkaaGreatDoor.X Go.Proofs.YtncdadcmghglkaaGreatDoorW.dJ Go.Proofs.YtncdadcmghglkaaGreatDoorW.kX Go.Proofs.YtncdadcmghglkaaGreatDoorW.oI
attribute [local go_sem] wX wY zS zT uJ uK wZ xg   -- for this text's walks alone
set_option linter.unusedVariables false
set_option maxHeartbeats 8000000
set_option maxRecDepth 100000
set_option linter.unusedSimpArgs false
def kH.l0:Nat→ByteArray→List (fO)→Int→Int→Option (ByteArray)
 |0,_,_,_,_=>none
 |k+1,x3,GI,x14,x15=>if x15<x14 then(if 0≤x15 then(if x15<(GI.length:Int)then(if 2+((dU GI x15).f0).size≤9223372036854775807 then(if((⟨#[59,32]⟩:ByteArray)++((dU GI x15).f0)).size+1≤9223372036854775807 then((jq.f k ((dU GI x15).f1)).bind fun VZ=>(if(((⟨#[59,32]⟩:ByteArray)++((dU GI x15).f0))++(⟨#[61]⟩:ByteArray)).size+VZ.size≤9223372036854775807 then(if x3.size+((((⟨#[59,32]⟩:ByteArray)++((dU GI x15).f0))++(⟨#[61]⟩:ByteArray))++VZ).size≤9223372036854775807 then(kH.l0 k (x3++((((⟨#[59,32]⟩:ByteArray)++((dU GI x15).f0))++(⟨#[61]⟩:ByteArray))++VZ)) GI x14 (wrap64 (x15+1)))else(none))else(none)))else(none))else(none))else(none))else(none))else(some x3)
def kH.f (k:Nat) (eH:ByteArray) (fA:ByteArray) (ay:List (fO)):Option (ByteArray):=if eH.size+1≤9223372036854775807 then(if(eH++(⟨#[47]⟩:ByteArray)).size+fA.size≤9223372036854775807 then(kH.l0 k ((eH++(⟨#[47]⟩:ByteArray))++fA) ay (ay.length:Int) 0)else(none))else(none)
theorem kH.calls {k dO:Nat} {eH fA r:ByteArray} {fM:Option Addr} {ay:List (fO)} {w:World} (jU:Kd.C oz w fM ay.length ay) (jV:ay.length≤dO) (h:kH.f k eH fA ay=some r):
  Calls Tryz.prog 137 #[.agg #[.string eH, .string fA, .slice fM ay.length dO]] w fun e w'=>e= .returned (.string r)∧Below w.heap.size w w':=by
 have aag:=Tryz.underlying61;have FZ:=Tryz.underlying69;have jW:=ak jU;have oC:=ak jV;clear jU jV;have HB:=ak (Below.refl w.heap.size w);unfold kH.f at h;have H:=h;clear h;replace H:=nn H;obtain⟨c2,H⟩:=H;have qO:=eq_true c2;have zM:=decide_eq_true c2;try have ajP:(9223372036854775807<eH.size+1)=False:=eq_false (Nat.not_lt.2 c2)
 replace H:=nn H;obtain⟨c3,H⟩:=H;have iT:=eq_true c3;have zW:=decide_eq_true c3;try have aPV:(9223372036854775807<eH.size+1+fA.size)=False:=by have h_:=(eq_false (Nat.not_lt.2 c3):(9223372036854775807<(eH++(⟨#[47]⟩:ByteArray)).size+fA.size)=False);simp only[ByteArray.size_append]at h_;exact h_
 try have XJ:(9223372036854775807<(eH++(⟨#[47]⟩:ByteArray)).size+fA.size)=False:=eq_false (Nat.not_lt.2 c3)
 have H':=ak H;clear H;go_enter Tryz.func137,Tryz.ntmps137;go_wp2_with (refine bX HB 1 #[.string eH, .string fA, .slice fM ay.length dO] 61 ?_;intro aBo w4 EZ aJ2 hb;replace HB:=bs HB hb;clear hb;have z5:=iJ EZ.out)
 go_loopg [3,15] k (fun kq v3 v15 w'=>∃(dX:ByteArray) (AA:Int),v3= .string dX∧v15= .int .i64 AA∧ah (kH.l0 kq dX ay (ay.length:Int) AA=some r)∧ah (kq≤k)∧ah (w'.heap[aBo]? =some (.cells #[.string eH, .string fA,(.slice fM ay.length dO)] 61 (0,0)))∧ah (Below w.heap.size w w'))
 case atStart=>exact⟨_,_,rs,rs,H',⟨Nat.le_refl _⟩,⟨ub EZ.out⟩,⟨bb⟩⟩
 case round=>
  clear H';try clear c2
  try clear qO
  try clear zM
  try clear ajP
  try clear c3
  try clear iT
  try clear zW
  try clear XJ
  obtain⟨dX,AA,rfl,rfl,HA,yH,EZ,HB⟩:=hrel
  cases gk with
  |zero=>exact zz HA.out
  |succ k1=>
   obtain⟨H⟩:=HA;simp only[kH.l0]at H;replace H:=sd H;rcases H with⟨oV,H⟩|⟨oV,H⟩
   ·replace H:=oG H;obtain⟨tJ,H⟩:=H;replace H:=oG H;obtain⟨uG,H⟩:=H;replace H:=nn H;obtain⟨c9,H⟩:=H;have A_:=eq_true c9;have I4:=decide_eq_true c9;try have azD:(9223372036854775807<2+((dU ay AA).f0).size)=False:=eq_false (Nat.not_lt.2 c9)
    replace H:=nn H;obtain⟨c10,H⟩:=H;have oD:=eq_true c10;have uN:=decide_eq_true c10;try have aoE:(9223372036854775807<2+((dU ay AA).f0).size+1)=False:=by have h_:=(eq_false (Nat.not_lt.2 c10):(9223372036854775807<((⟨#[59,32]⟩:ByteArray)++((dU ay AA).f0)).size+1)=False);simp only[ByteArray.size_append]at h_;exact h_
    try have aeD:(9223372036854775807<((⟨#[59,32]⟩:ByteArray)++((dU ay AA).f0)).size+1)=False:=eq_false (Nat.not_lt.2 c10)
    replace H:=bd H;obtain⟨VZ,A11,H⟩:=H;replace H:=nn H;obtain⟨c12,H⟩:=H;have yw:=eq_true c12;have Gg:=decide_eq_true c12;try have aJ3:(9223372036854775807<2+((dU ay AA).f0).size+1+VZ.size)=False:=by have h_:=(eq_false (Nat.not_lt.2 c12):(9223372036854775807<(((⟨#[59,32]⟩:ByteArray)++((dU ay AA).f0))++(⟨#[61]⟩:ByteArray)).size+VZ.size)=False);simp only[ByteArray.size_append]at h_;exact h_
    try have aJ4:(9223372036854775807<(((⟨#[59,32]⟩:ByteArray)++((dU ay AA).f0))++(⟨#[61]⟩:ByteArray)).size+VZ.size)=False:=eq_false (Nat.not_lt.2 c12)
    replace H:=nn H;obtain⟨c13,H⟩:=H;have wM:=eq_true c13;have CW:=decide_eq_true c13;try have awx:(9223372036854775807<dX.size+(2+((dU ay AA).f0).size+1+VZ.size))=False:=by have h_:=(eq_false (Nat.not_lt.2 c13):(9223372036854775807<dX.size+((((⟨#[59,32]⟩:ByteArray)++((dU ay AA).f0))++(⟨#[61]⟩:ByteArray))++VZ).size)=False);simp only[ByteArray.size_append]at h_;exact h_
    try have aoD:(9223372036854775807<dX.size+((((⟨#[59,32]⟩:ByteArray)++((dU ay AA).f0))++(⟨#[61]⟩:ByteArray))++VZ).size)=False:=eq_false (Nat.not_lt.2 c13)
    have H':=ak H;clear H;have atG:=zi AA;have atH:=zj AA ay.length;obtain⟨aJ5,e229,af5,af6⟩:=qB jW.out AA atG atH;cases e229;replace af5:=cl HB.out af5;replace af6:=cl HB.out af6;replace atG:=eq_true atG;replace atH:=eq_true atH;try go_wp2_with (refine bY HB 5 #[.string (⟨#[]⟩:ByteArray), .string (⟨#[]⟩:ByteArray)] 69 ?_;intro aqP VH RD aBp hg hb;have W9:=vT EZ hg;have ahj:=vU EZ hg;replace EZ:=kb EZ hb;replace HB:=bz HB hb;clear hb hg;have aJ6:=ahj.out;have aJ7:=W9.out;have z16:=CO RD.out)
    refine ab2 HB RD aBp ?_;intro w17 akY hk HB;replace EZ:=kf EZ hk W9;clear hk RD;have RD:=akY;clear akY;refine rO [7] [0,1,5,2,3,4,6,7,8,9,10] (fun w'=>w'.cell? ⟨aqP,0,none⟩=some (.string ((dU ay AA).f0))∧w'.cell? ⟨aqP,1,none⟩=some (.string ((dU ay AA).f1))) ?_;intro w18 hb;replace EZ:=kb EZ hb;replace RD:=kb RD hb;replace HB:=bs HB hb;refine⟨sx,?_⟩;repeat refine BN ?_
    refine rB Tryz.func166 (jq.calls A11.out) ?_;intro w19 hb;replace EZ:=kb EZ hb;replace RD:=kb RD hb;replace HB:=bz HB hb;clear hb;refine⟨sx,?_⟩;repeat refine BN ?_
    refine on ?_;try go_wp2
    go_roundg k1
    case measure=>exact kl
    case rel=>exact⟨_,_,rs,rs,H',⟨kl⟩,⟨ub EZ.out⟩,⟨bb⟩⟩
   ·obtain rfl:=s1 H;go_wp2;go_ret;exact⟨er,bb⟩
mutual
def dM.j0:Nat→Bool→ByteArray→ByteArray→List (fO)→Option (Bool)
 |0,_,_,_,_=>none
 |k+1,x20,TA,TB,E8=>if x20=true then(some false)else(dM.l0 k E8 (E8.length:Int) 0 TA TB E8)
def dM.l0:Nat→List (fO)→Int→Int→ByteArray→ByteArray→List (fO)→Option (Bool)
 |0,_,_,_,_,_,_=>none
 |k+1,x22,x23,x24,TA,TB,E8=>if x24<x23 then(if 0≤x24 then(if x24<(x22.length:Int)then((gJ.f k ((dU x22 x24).f0)).bind fun aBq=>(if aBq=true then((bg.f k ((dU x22 x24).f1)).bind fun aBr=>(if aBr=true then(if(((dU x22 x24).f1).size:Int)>40 then(some false)else(if x24≤(E8.length:Int)then((lD.f k (E8.take (x24:Int).toNat) ((dU x22 x24).f0)).bind fun anP=>(if anP≥0 then(some false)else(dM.l0 k x22 x23 (wrap64 (x24+1)) TA TB E8)))else(none)))else(some false)))else(some false)))else(none))else(none))else((kH.f k TA TB E8).bind fun aBs=>(some (decide ((aBs.size:Int)≤150))))
end
def dM.f (k:Nat) (eH:ByteArray) (fA:ByteArray) (ay:List (fO)):Option (Bool):=(gJ.f k eH).bind fun t233=>(if t233=true then((gJ.f k fA).bind fun t234=>(if t234=true then(dM.j0 k (decide ((ay.length:Int)>4)) eH fA ay)else(dM.j0 k true eH fA ay)))else(dM.j0 k true eH fA ay))
theorem dM.calls {k dO:Nat} {eH fA:ByteArray} {fM:Option Addr} {ay:List (fO)} {r:Bool} {w:World} (jU:Kd.C oz w fM ay.length ay) (jV:ay.length≤dO) (h:dM.f k eH fA ay=some r):
  Calls Tryz.prog 95 #[.agg #[.string eH, .string fA, .slice fM ay.length dO]] w fun e w'=>e= .returned (.bool r)∧Below w.heap.size w w':=by
 have aag:=Tryz.underlying61;have FZ:=Tryz.underlying69;have jW:=ak jU;have oC:=ak jV;clear jU jV;have HB:=ak (Below.refl w.heap.size w);unfold dM.f at h;have H:=h;clear h;have HC2:=ak H;clear H;go_enter Tryz.func95,Tryz.ntmps95;go_upto_region 1 with(refine gG 1 ?_;refine bX HB 1 #[.string eH, .string fA, .slice fM ay.length dO] 61 ?_;intro RF w3 iL aJ8 hb;replace HB:=bs HB hb;clear hb)
 (try simp only[Act.put,zN,zO,l_c]);go_cut [20] (fun v20 wc=>∃(kq:Nat) (akZ:Bool),v20= .bool akZ∧ah (dM.j0 kq akZ eH fA ay=some r)∧ah (kq≤k)∧ah (wc.heap[RF]? =some (.cells #[.string eH, .string fA,(.slice fM ay.length dO)] 61 (0,0)))∧ah (Below w.heap.size w wc))
 case first=>
  have H:=HC2.out;clear HC2;replace H:=bd H;obtain⟨t233,A4,H⟩:=H;replace H:=sb H;rcases H with⟨rfl,H⟩|⟨rfl,H⟩
  ·replace H:=bd H;obtain⟨t234,A6,H⟩:=H;replace H:=sb H;rcases H with⟨rfl,H⟩|⟨rfl,H⟩
   ·have H':=ak H;clear H;have z8:=iJ iL.out;go_wp2_with (first|(refine gB Tryz.func136 (gJ.calls A4.out) ?_;intro w9 hb;replace iL:=kb iL hb;replace HB:=bz HB hb;clear hb;have z10:=iJ iL.out)|(go_at_call 136;refine mB (gJ.calls A6.out) ?_;intro Wn hb;replace iL:=kb iL hb;replace HB:=bz HB hb;clear hb;have z12:=iJ iL.out))
    go_meet
    case rel=>exact⟨_,_,rs,H',⟨PW⟩,⟨ub iL.out⟩,⟨bb⟩⟩
   ·have H':=ak H;clear H;have z13:=iJ iL.out;go_wp2_with (first|(refine gB Tryz.func136 (gJ.calls A4.out) ?_;intro VH hb;replace iL:=kb iL hb;replace HB:=bz HB hb;clear hb;have z15:=iJ iL.out)|(go_at_call 136;refine mB (gJ.calls A6.out) ?_;intro w16 hb;replace iL:=kb iL hb;replace HB:=bz HB hb;clear hb))
    go_meet
    case rel=>exact⟨_,_,rs,H',⟨PW⟩,⟨ub iL.out⟩,⟨bb⟩⟩
  ·have H':=ak H;clear H;have z17:=iJ iL.out;go_wp2_with (refine gB Tryz.func136 (gJ.calls A4.out) ?_;intro w18 hb;replace iL:=kb iL hb;replace HB:=bz HB hb;clear hb)
   go_meet
   case rel=>exact⟨_,_,rs,H',⟨PW⟩,⟨ub iL.out⟩,⟨bb⟩⟩
 case rest=>
  clear HC2;obtain⟨kq,akZ,rfl,HA,HJ1,iL,HB⟩:=hcut
  cases kq with
  |zero=>exact zz HA.out
  |succ RU=>
   obtain⟨H⟩:=HA;simp only[dM.j0]at H;replace H:=sb H;rcases H with⟨rfl,H⟩|⟨rfl,H⟩
   ·obtain rfl:=s1 H;go_wp2;go_ret;exact⟨er,bb⟩
   ·have H':=ak H;clear H;have z20:=iJ iL.out;go_wp2;go_loopg [24] RU (fun kq v24 w'=>∃(mV:Int),v24= .int .i64 mV∧ah (dM.l0 kq ay (ay.length:Int) mV eH fA ay=some r)∧ah (kq≤RU)∧ah (w'.heap[RF]? =some (.cells #[.string eH, .string fA,(.slice fM ay.length dO)] 61 (0,0)))∧ah (Below w.heap.size w w'))
    case atStart=>exact⟨_,rs,H',⟨Nat.le_refl _⟩,⟨ub iL.out⟩,⟨bb⟩⟩
    case round=>
     clear H';obtain⟨mV,rfl,HA,HK2,iL,HB⟩:=hrel
     cases gk with
     |zero=>exact zz HA.out
     |succ k2=>
      obtain⟨H⟩:=HA;simp only[dM.l0]at H;replace H:=sd H;rcases H with⟨CV,H⟩|⟨CV,H⟩
      ·replace H:=oG H;obtain⟨EJ,H⟩:=H;replace H:=oG H;obtain⟨CJ,H⟩:=H;replace H:=bd H;obtain⟨aBq,A24,H⟩:=H;replace H:=sb H;rcases H with⟨rfl,H⟩|⟨rfl,H⟩
       ·replace H:=bd H;obtain⟨aBr,A26,H⟩:=H;replace H:=sb H;rcases H with⟨rfl,H⟩|⟨rfl,H⟩
        ·replace H:=sp H;rcases H with⟨c28,H⟩|⟨c28,H⟩
         ·have IV:decide (40<(((dU ay mV).f1).size:Int))=true:=decide_eq_true c28;have aeI:decide (40<((dU ay mV).f1).size)=true:=decide_eq_true (by omega);clear c28;obtain rfl:=s1 H;have Hl:=zi mV;have Ho:=zj mV ay.length;obtain⟨KQ,Zt,wR,wS⟩:=qB jW.out mV Hl Ho;cases Zt;replace wR:=cl HB.out wR;replace wS:=cl HB.out wS;replace Hl:=eq_true Hl;replace Ho:=eq_true Ho;try go_wp2_with (refine gG 4 ?_;refine bY HB 4 #[.string (⟨#[]⟩:ByteArray), .string (⟨#[]⟩:ByteArray)] 69 ?_;intro E_ w29 lW OT hg hb;have qU:=vT iL hg;have yj:=vU iL hg;replace iL:=kb iL hb;replace HB:=bz HB hb;clear hb hg;have ayr:=yj.out;have ays:=qU.out;have z31:=CO lW.out)
          refine ab2 HB lW OT ?_;intro w32 Ak hk HB;replace iL:=kf iL hk qU;clear hk lW;have lW:=Ak;clear Ak;refine rO [2,7] [0,1,2,3,4,5,6,7,8,9,10,11,12,13,14,15,16,17,18,19,20,21,22,23,24,25] (fun w'=>w'.cell? ⟨E_,0,none⟩=some (.string ((dU ay mV).f0))∧w'.cell? ⟨E_,1,none⟩=some (.string ((dU ay mV).f1))) ?_;intro w33 hb;replace iL:=kb iL hb;replace lW:=kb lW hb;replace HB:=bs HB hb;refine⟨sx,?_⟩;repeat(first|refine BN ?_|refine Yd ?_)
          refine rB Tryz.func136 (gJ.calls A24.out) ?_;intro w34 hb;replace iL:=kb iL hb;replace lW:=kb lW hb;replace HB:=bz HB hb;clear hb;refine⟨sx,?_⟩;repeat(first|refine BN ?_|refine Yd ?_)
          refine rA Tryz.func89 (bg.calls A26.out) ?_;intro nd;refine⟨sx,?_⟩;repeat(first|refine BN ?_|refine Yd ?_)
          refine on ?_;try go_wp2
          go_ret;exact⟨er,bb⟩
         ·have IV:decide (40<(((dU ay mV).f1).size:Int))=false:=decide_eq_false c28;have aeI:decide (40<((dU ay mV).f1).size)=false:=decide_eq_false (by omega);clear c28;have ai8:=eq_true (of_decide_eq_true (by assumption):0≤mV);replace H:=Dc H;obtain⟨apT,aBt,H⟩:=H;obtain⟨anQ,aa7⟩:=nm (ay.take (mV:Int).toNat);rw[←aa7.out]at H;replace H:=bd H;obtain⟨anP,A37,H⟩:=H;replace H:=sp H;rcases H with⟨c38,H⟩|⟨c38,H⟩
          ·have afF:decide (0≤anP)=true:=decide_eq_true c38;clear c38;obtain rfl:=s1 H;have Hl:=zi mV;have Ho:=zj mV ay.length;obtain⟨KQ,Zt,wR,wS⟩:=qB jW.out mV Hl Ho;cases Zt;replace wR:=cl HB.out wR;replace wS:=cl HB.out wS;replace Hl:=eq_true Hl;replace Ho:=eq_true Ho;try go_wp2_with (refine gG 4 ?_;refine bY HB 4 #[.string (⟨#[]⟩:ByteArray), .string (⟨#[]⟩:ByteArray)] 69 ?_;intro E_ w39 lW OT hg hb;have qU:=vT iL hg;have yj:=vU iL hg;replace iL:=kb iL hb;replace HB:=bz HB hb;clear hb hg;have air:=yj.out;have ais:=qU.out;have arp:=CO lW.out)
           refine ab2 HB lW OT ?_;intro w42 Ak hk HB;replace iL:=kf iL hk qU;clear hk lW;have lW:=Ak;clear Ak;refine rO [2,7,23] [0,1,2,3,4,5,6,7,8,9,10,11,12,13,14,15,16,17,19,21,18,20,22,23,24,25] (fun w'=>w'.cell? ⟨E_,0,none⟩=some (.string ((dU ay mV).f0))∧w'.cell? ⟨E_,1,none⟩=some (.string ((dU ay mV).f1))∧w'.cell? ⟨RF,0,none⟩=some (.string eH)∧w'.cell? ⟨RF,1,none⟩=some (.string fA)∧w'.cell? ⟨RF,2,none⟩=some (.slice (some KQ) ay.length dO)) ?_;intro w43 hb;replace iL:=kb iL hb;replace lW:=kb lW hb;replace HB:=bs HB hb;refine⟨sx,?_⟩;repeat refine BN ?_
           refine rB Tryz.func136 (gJ.calls A24.out) ?_;intro w44 hb;replace iL:=kb iL hb;replace lW:=kb lW hb;replace HB:=bz HB hb;clear hb;refine⟨sx,?_⟩;repeat refine BN ?_
           refine rA Tryz.func89 (bg.calls A26.out) ?_;intro nd;have q45:(mV:Int)≤((ay.length:Int):Int):=of_decide_eq_true (by assumption);obtain⟨aPW,aqQ,_,aBu,_⟩:=info_parts DF;have af7:ay.length≤dO:=oC.out;have aBv:Kd.C oz _ (some KQ) ay.length ay:=jW.out;have atI:=Yy (P:=Tryz.prog) 25 69 .i64 Tryz.underlying25 aqQ (some KQ) ay.length dO mV (of_decide_eq_true (by assumption)) q45 af7;have atJ:=Kd.Yz (m:=(mV:Int).toNat) aBv (by omega);have atK:anQ.length=(mV:Int).toNat:=(by rw[aa7.out,List.length_take];omega)
           rw[←aa7.out]at atJ;rw[←atK]at atI;have ak0:=ak atJ;have ak1:=ak (show anQ.length≤dO from by omega);clear atJ aBv af7 aqQ aBu;have aPX:=ak atK;clear atK;replace q45:=eq_true q45;refine⟨sx,?_⟩;repeat refine BN ?_
           refine rB Tryz.func88 (lD.calls (cu (Kd.aN ak0.out bb)) ak1.out A37.out) ?_;intro w46 hb;replace iL:=kb iL hb;replace lW:=kb lW hb;replace HB:=bz HB hb;clear hb;refine⟨sx,?_⟩;repeat refine BN ?_
           refine on ?_;try go_wp2
           go_ret;exact⟨er,bb⟩
          ·have afF:decide (0≤anP)=false:=decide_eq_false c38;clear c38;have H':=ak H;clear H;have Hl:=zi mV;have Ho:=zj mV ay.length;obtain⟨KQ,Zt,wR,wS⟩:=qB jW.out mV Hl Ho;cases Zt;replace wR:=cl HB.out wR;replace wS:=cl HB.out wS;replace Hl:=eq_true Hl;replace Ho:=eq_true Ho;try go_wp2_with (refine gG 4 ?_;refine bY HB 4 #[.string (⟨#[]⟩:ByteArray), .string (⟨#[]⟩:ByteArray)] 69 ?_;intro E_ w47 lW OT hg hb;have qU:=vT iL hg;have yj:=vU iL hg;replace iL:=kb iL hb;replace HB:=bz HB hb;clear hb hg;have ao3:=yj.out;have ao4:=qU.out;have z49:=CO lW.out)
           refine ab2 HB lW OT ?_;intro w50 Ak hk HB;replace iL:=kf iL hk qU;clear hk lW;have lW:=Ak;clear Ak;refine rO [2,7,23] [0,1,2,3,4,5,6,7,8,9,10,11,12,13,14,15,16,17,19,21,18,20,22,23,24,25] (fun w'=>w'.cell? ⟨E_,0,none⟩=some (.string ((dU ay mV).f0))∧w'.cell? ⟨E_,1,none⟩=some (.string ((dU ay mV).f1))∧w'.cell? ⟨RF,0,none⟩=some (.string eH)∧w'.cell? ⟨RF,1,none⟩=some (.string fA)∧w'.cell? ⟨RF,2,none⟩=some (.slice (some KQ) ay.length dO)) ?_;intro w51 hb;replace iL:=kb iL hb;replace lW:=kb lW hb;replace HB:=bs HB hb;refine⟨sx,?_⟩;repeat refine BN ?_
           refine rB Tryz.func136 (gJ.calls A24.out) ?_;intro w52 hb;replace iL:=kb iL hb;replace lW:=kb lW hb;replace HB:=bz HB hb;clear hb;refine⟨sx,?_⟩;repeat refine BN ?_
           refine rA Tryz.func89 (bg.calls A26.out) ?_;intro nd;have q53:(mV:Int)≤((ay.length:Int):Int):=of_decide_eq_true (by assumption);obtain⟨aPY,aqR,_,aBw,_⟩:=info_parts DF;have af8:ay.length≤dO:=oC.out;have aBx:Kd.C oz _ (some KQ) ay.length ay:=jW.out;have atL:=Yy (P:=Tryz.prog) 25 69 .i64 Tryz.underlying25 aqR (some KQ) ay.length dO mV (of_decide_eq_true (by assumption)) q53 af8;have atM:=Kd.Yz (m:=(mV:Int).toNat) aBx (by omega);have atN:anQ.length=(mV:Int).toNat:=(by rw[aa7.out,List.length_take];omega)
           rw[←aa7.out]at atM;rw[←atN]at atL;have ak0:=ak atM;have ak1:=ak (show anQ.length≤dO from by omega);clear atM aBx af8 aqR aBw;have aPZ:=ak atN;clear atN;replace q53:=eq_true q53;refine⟨sx,?_⟩;repeat refine BN ?_
           refine rB Tryz.func88 (lD.calls (cu (Kd.aN ak0.out bb)) ak1.out A37.out) ?_;intro w54 hb;replace iL:=kb iL hb;replace lW:=kb lW hb;replace HB:=bz HB hb;clear hb;refine⟨sx,?_⟩;repeat refine BN ?_
           refine on ?_;try go_wp2
           go_roundg k2
           case measure=>exact kl
           case rel=>exact⟨_,rs,H',⟨kl⟩,⟨ub iL.out⟩,⟨bb⟩⟩
        ·obtain rfl:=s1 H;have Hl:=zi mV;have Ho:=zj mV ay.length;obtain⟨KQ,Zt,wR,wS⟩:=qB jW.out mV Hl Ho;cases Zt;replace wR:=cl HB.out wR;replace wS:=cl HB.out wS;replace Hl:=eq_true Hl;replace Ho:=eq_true Ho;try go_wp2_with (refine gG 4 ?_;refine bY HB 4 #[.string (⟨#[]⟩:ByteArray), .string (⟨#[]⟩:ByteArray)] 69 ?_;intro E_ w55 lW OT hg hb;have qU:=vT iL hg;have yj:=vU iL hg;replace iL:=kb iL hb;replace HB:=bz HB hb;clear hb hg;have aAp:=yj.out;have aAq:=qU.out;have z57:=CO lW.out)
         refine ab2 HB lW OT ?_;intro w58 Ak hk HB;replace iL:=kf iL hk qU;clear hk lW;have lW:=Ak;clear Ak;refine rO [2,7] [0,1,2,3,4,5,6,7,8,9,10,11,12,13,14,15,16,17,18,19,20,21,22,23,24,25] (fun w'=>w'.cell? ⟨E_,0,none⟩=some (.string ((dU ay mV).f0))∧w'.cell? ⟨E_,1,none⟩=some (.string ((dU ay mV).f1))) ?_;intro w59 hb;replace iL:=kb iL hb;replace lW:=kb lW hb;replace HB:=bs HB hb;refine⟨sx,?_⟩;repeat(first|refine BN ?_|refine Yd ?_)
         refine rB Tryz.func136 (gJ.calls A24.out) ?_;intro Wy hb;replace iL:=kb iL hb;replace lW:=kb lW hb;replace HB:=bz HB hb;clear hb;refine⟨sx,?_⟩;repeat(first|refine BN ?_|refine Yd ?_)
         refine rA Tryz.func89 (bg.calls A26.out) ?_;intro nd;refine⟨sx,?_⟩;repeat(first|refine BN ?_|refine Yd ?_)
         refine on ?_;try go_wp2
         go_ret;exact⟨er,bb⟩
       ·obtain rfl:=s1 H;have Hl:=zi mV;have Ho:=zj mV ay.length;obtain⟨KQ,Zt,wR,wS⟩:=qB jW.out mV Hl Ho;cases Zt;replace wR:=cl HB.out wR;replace wS:=cl HB.out wS;replace Hl:=eq_true Hl;replace Ho:=eq_true Ho;try go_wp2_with (refine gG 4 ?_;refine bY HB 4 #[.string (⟨#[]⟩:ByteArray), .string (⟨#[]⟩:ByteArray)] 69 ?_;intro E_ w61 lW OT hg hb;have qU:=vT iL hg;have yj:=vU iL hg;replace iL:=kb iL hb;replace HB:=bz HB hb;clear hb hg;have aJ9:=yj.out;have aJ_:=qU.out;have z63:=CO lW.out)
        refine ab2 HB lW OT ?_;intro w64 Ak hk HB;replace iL:=kf iL hk qU;clear hk lW;have lW:=Ak;clear Ak;refine rO [2] [0,1,2,3,4,5,6,7,8,9,10,11,12,13,14,15,16,17,18,19,20,21,22,23,24,25] (fun w'=>w'.cell? ⟨E_,0,none⟩=some (.string ((dU ay mV).f0))∧w'.cell? ⟨E_,1,none⟩=some (.string ((dU ay mV).f1))) ?_;intro w65 hb;replace iL:=kb iL hb;replace lW:=kb lW hb;replace HB:=bs HB hb;refine⟨sx,?_⟩;repeat(first|refine BN ?_|refine Yd ?_)
        refine rB Tryz.func136 (gJ.calls A24.out) ?_;intro w66 hb;replace iL:=kb iL hb;replace lW:=kb lW hb;replace HB:=bz HB hb;clear hb;refine⟨sx,?_⟩;repeat(first|refine BN ?_|refine Yd ?_)
        refine on ?_;try go_wp2
        go_ret;exact⟨er,bb⟩
      ·replace H:=bd H;obtain⟨aBs,A67,H⟩:=H;obtain rfl:=s1 H;have z68:=iJ iL.out;go_wp2_with (refine gB Tryz.func137 (kH.calls (cu (Kd.aN jW.out HB.out)) oC.out A67.out) ?_;intro w69 hb;replace iL:=kb iL hb;replace HB:=bz HB hb;clear hb)
       go_ret;exact⟨er,bb⟩
mutual
def bV.l0:Nat→Bool→List ByteArray→Int→Int→ByteArray→ByteArray→List (fO)→Option (ByteArray×ByteArray×(List (fO))×Bool)
 |0,_,_,_,_,_,_,_=>none
 |k+1,x7,x37,x38,x39,Hq,Hr,Fa=>if x39<x38 then(if 0≤x39 then(if x39<(x37.length:Int)then((strings_Cut.f (qg ByteArray.empty x37 x39) (⟨#[61]⟩:ByteArray)).bind fun aa8=>((dL.f k aa8.2.1).bind fun aa9=>(if aa8.2.2=true then(if aa9.2=true then(bV.j1 k x7 aa8.1 aa9.1 x37 x38 x39 ((aa9.1.length:Int) !=1) Hq Hr Fa)else(bV.j1 k x7 aa8.1 aa9.1 x37 x38 x39 true Hq Hr Fa))else(bV.j1 k x7 aa8.1 aa9.1 x37 x38 x39 true Hq Hr Fa))))else(none))else(none))else(if x7=true then((dM.f k Hq Hr Fa).bind fun aBy=>(if aBy=true then(some (Hq,Hr,Fa,true))else(some ((⟨#[]⟩:ByteArray),(⟨#[]⟩:ByteArray),([]:List (fO)),false))))else(some ((⟨#[]⟩:ByteArray),(⟨#[]⟩:ByteArray),([]:List (fO)),false)))
def bV.j1:Nat→Bool→ByteArray→List ByteArray→List ByteArray→Int→Int→Bool→ByteArray→ByteArray→List (fO)→Option (ByteArray×ByteArray×(List (fO))×Bool)
 |0,_,_,_,_,_,_,_,_,_,_=>none
 |k+1,x7,x11,x14,x37,x38,x39,x64,Hq,Hr,Fa=>if x64=true then(some ((⟨#[]⟩:ByteArray),(⟨#[]⟩:ByteArray),([]:List (fO)),false))else((lq.f x11 (⟨#[32]⟩:ByteArray)).bind fun atO=>((jo.f atO).bind fun ahk=>(if 0<(x14.length:Int)then(if Fa.length<4398046511104 then(bV.l0 k x7 x37 x38 (wrap64 (x39+1)) Hq Hr (Fa++[(⟨ahk,qg ByteArray.empty x14 0⟩:fO)]))else(none))else(none))))
end
def bV.f (k:Nat) (a0:ByteArray):Option (ByteArray×ByteArray×(List (fO))×Bool):=(bg.f k a0).bind fun aBz=>(if aBz=true then((iC.f k a0 59).bind fun Jl=>(if 0<(Jl.length:Int)then((lq.f (qg ByteArray.empty Jl 0) (⟨#[32]⟩:ByteArray)).bind fun aBA=>((strings_Cut.f aBA (⟨#[47]⟩:ByteArray)).bind fun ak2=>((jo.f ak2.1).bind fun Sl=>((jo.f ak2.2.1).bind fun Sm=>(if 1≤(Jl.length:Int)then((some (Jl.drop 1:List ByteArray)).bind fun Ht=>(bV.l0 k ak2.2.2 Ht (Ht.length:Int) 0 Sl Sm ([]:List (fO))))else(none))))))else(none)))else(some ((⟨#[]⟩:ByteArray),(⟨#[]⟩:ByteArray),([]:List (fO)),false)))
def bV.T13:Bool×List (List Nat×List Nat):=(true,[([],[]),([0],[0]),([],[]),([2],[2]),([3,3],[3]),([],[]),([5],[5]),([6],[6]),([4,7],[4,7]),([8],[8]),([1,9,4],[1,9]),([0,1,2,3,4,5,6,7,8,9,10],[]),([11,10,10,0,1,2,3,4,5,6,7,8,9,10],[10,11])])
def bV.B13:List Nat:=[0,1,0,4,12,0,32,96,252,508,1023,2047,4095]
theorem bV.aje:wV .any (opsOf Tryz.f48 13)=bV.T13:=by kernel_rfl
theorem bV.acE:sN bV.T13.2 bV.B13=true:=by kernel_rfl
theorem bV.calls {k:Nat} {a0 r1 r2:ByteArray} {r3:List (fO)} {r4:Bool} {w:World} (EK:MaxOk w) (h:bV.f k a0=some (r1,r2,r3,r4)):
  Calls Tryz.prog 48 #[.string a0] w fun e w'=>∃DI:Value,e= .returned (.tuple #[.agg #[.string r1, .string r2,DI], .bool r4])∧Kd.R oz 69 w' w.heap.size (fun _=>True) DI r3∧Below w.heap.size w w':=by
 have aag:=Tryz.underlying61;have FZ:=Tryz.underlying69;have HG:=ak EK;clear EK;have HB:=ak (Below.refl w.heap.size w);unfold bV.f at h;have H:=h;clear h;replace H:=bd H;obtain⟨aBz,A2,H⟩:=H;replace H:=sb H;rcases H with⟨rfl,H⟩|⟨rfl,H⟩
 ·replace H:=bd H;obtain⟨Jl,A4,H⟩:=H;replace H:=nn H;obtain⟨c5,H⟩:=H;have nT:=decide_eq_true c5;have NZ:decide (0<Jl.length)=true:=decide_eq_true (by omega);clear c5;replace H:=bd H;obtain⟨aBA,A6,H⟩:=H;replace H:=bd H;obtain⟨⟨aP0,aP1,aBB⟩,A7,H⟩:=H
  (try dsimp only at H);replace H:=bd H;obtain⟨Sl,A8,H⟩:=H;replace H:=bd H;obtain⟨Sm,A9,H⟩:=H;replace H:=Dc H;obtain⟨oD,uN,H⟩:=H;replace H:=ny H;obtain⟨Ht,aqS,H⟩:=H;have H':=ak H;clear H;go_enter Tryz.func48,Tryz.ntmps48;go_wp2_with (first|(refine gG 2 ?_;refine bX HB 2 #[.string (⟨#[]⟩:ByteArray), .string (⟨#[]⟩:ByteArray), .slice none 0 0] 61 ?_;intro Gm Wn lX aBC hb;replace HB:=bs HB hb;clear hb)|(refine gD Tryz.func89 (bg.calls A2.out) ?_;intro Wn hb;replace lX:=kb lX hb;replace HB:=bz HB hb;clear hb)|(refine gV Tryz.func90 (iC.calls A4.out) ?_;rintro aP2 w12 ⟨ho0,hb⟩;have BR:=ak (Kd.aG ho0 (aj bb));replace lX:=kb lX hb;replace HB:=bz HB hb;clear hb;(try clear ho0);obtain⟨FC,Ar,RP⟩:=Kd.aH BR.out;subst RP;have ak3:0≤(0:Int):=(by omega);have ak4:0<(Jl.length:Int):=of_decide_eq_true (by assumption);obtain⟨aa_,e250,TD⟩:=Kd.jI (Kd.aK BR.out).2.2 0 ak3 ak4;cases e250;have aKa:(0<Jl.length)=True:=eq_true (by omega);(try rw[show((0:Int)).toNat=0 from rfl]at TD);(try rw[Addr.add_zero']at TD);replace ak3:=eq_true ak3;replace ak4:=eq_true ak4)|(refine gD Tryz.func92 (lq.calls A6.out) ?_;intro w12 hb;replace BR:=rb BR hb;replace lX:=kb lX hb;replace HB:=bz HB hb;clear hb)|(refine gD Tryz.func91 (strings_Cut.calls ?dZ A7.out) ?_;(case dZ=>first|exact HG.out|exact MaxOk.below HG.out bb|(repeat(first|exact HG.out|apply MaxOk.drewN|apply MaxOk.drew)));intro w12 hb;replace BR:=rb BR hb;replace lX:=kb lX hb;replace HB:=bz HB hb;clear hb)|(refine gB Tryz.func93 (jo.calls A8.out) ?_;intro VH hb;replace BR:=rb BR hb;replace lX:=kb lX hb;replace HB:=bz HB hb;clear hb)|(refine gB Tryz.func93 (jo.calls A9.out) ?_;intro w15 hb;replace BR:=rb BR hb;replace lX:=kb lX hb;replace HB:=bz HB hb;clear hb)|(refine gG 8 ?_;refine bY HB 8 #[.string (⟨#[]⟩:ByteArray), .string (⟨#[]⟩:ByteArray), .slice none 0 0] 61 ?_;intro Am w16 og aKb hg hb;have Dz:=vT lX hg;have DC:=vU lX hg;replace BR:=rb BR hb;replace lX:=kb lX hb;replace HB:=bz HB hb;clear hb hg;have aiT:=DC.out;have aiU:=Dz.out;have z18:=iJ og.out)|((with_reducible refine adn (t:=61) (p:=8) rfl ?_);refine abb (t:=61) (p:=8) (v:=?aGU) (w1:=(((w16.setCell ⟨Am,0,none⟩ (.string Sl)).setCell ⟨Am,1,none⟩ (.string Sm)).setCell ⟨Am,2,none⟩ (.slice none 0 0))) ?hg ?ho ?hn ?hr ?_;(case ho=>rfl);(case hg=>rfl);(case hn=>rfl);(case hr=>first|(go_simp;done)|(go_simp;rfl));intro w19 hw;have yU:ah (Kd.R Kd.string 9 w19 w.heap.size (fun _=>True) (.slice (some aa_) Jl.length Ar) Jl):=⟨(by rw[hw];exact(ur (Kd.aX (Kd.jQ (p:=⟨Am,2,none⟩) (Kd.jQ (p:=⟨Am,1,none⟩) (Kd.jQ (p:=⟨Am,0,none⟩) (Kd.jS BR.out og.out (by decide)) (fun _ hk=>hk.2) (.string Sl)) (fun _ hk=>hk.2) (.string Sm)) (fun _ hk=>hk.2) (.slice none 0 0)) (fun _ hk=>trivial))))⟩;have yV:ah (w19.heap[Gm]? =some (.cells #[.string (⟨#[]⟩:ByteArray), .string (⟨#[]⟩:ByteArray), .slice none 0 0] 61 (0,0))):=⟨(by rw[hw];exact bq)⟩;have zQ:ah (w19.heap[Am]? =some (.cells #[.string Sl, .string Sm, .slice none 0 0] 61 (0,0))):=⟨(by rw[hw];exact bq)⟩;have Cb:ah (Below w.heap.size w w19):=⟨(by rw[hw];exact bb)⟩;clear hw;clear BR;clear lX;clear og;clear HB;have BR:=yU;have lX:=yV;have og:=zQ;have HB:=Cb;clear yU yV zQ Cb;have q20:(1:Int)≤((Jl.length:Int):Int):=of_decide_eq_true (by assumption);obtain⟨aP3,aqT,_,aqU,_⟩:=info_parts info9;have TF:Jl.length≤Ar:=(Kd.aK BR.out).2.1;have aBD:Kd.F Kd.string _ _ (some aa_) Jl.length Jl:=(Kd.ak5 (base:=w.heap.size) (Kd.R_V (Kd.jS (Kd.jS (BR.out) lX.out (by decide)) og.out (by decide)))).2.2;have atQ:=ak6 (P:=Tryz.prog) 23 9 .i64 Tryz.underlying23 aqT 1 aqU (some aa_) Jl.length Ar 1 (by omega) q20;have ak7:=Kd.aBE (m:=(1:Int).toNat) (c:=Ar) aBD (by omega) TF;obtain⟨A20,hA20⟩:∃A1,A1=(if Ar=(1:Int).toNat then(some aa_)else((some aa_):Option Addr).map (·.add ((1:Int).toNat*1))):=⟨_,rfl⟩;obtain⟨c20,anR⟩:∃c1,c1=Ar-(1:Int).toNat:=⟨_,rfl⟩;have ak8:Ht.length=Jl.length-(1:Int).toNat:=(by rw[aqS.out,List.length_drop]<;>omega);rw[show(Jl).drop (1:Int).toNat=Ht from aqS.out.symm]at ak7;replace ak7:Kd.F Kd.string _ _ A20 Ht.length Ht:=(by rw[hA20];exact ak7);rw[←ak8,←hA20,←anR]at atQ;have aBF:=ak (show Kd.V Kd.string 9 _ w.heap.size _ (.slice A20 Ht.length c20) Ht from Kd.VJ (by rw[ak8,anR];exact Nat.sub_le_sub_right TF _) ak7);have aKc:=ak (show Ht.length≤c20 from by rw[ak8,anR];exact Nat.sub_le_sub_right TF _);clear ak7 aBD TF aqT aqU anR;have aP4:=ak ak8;have aP5:=ak hA20;clear ak8 hA20;replace q20:=eq_true q20))
  go_loopg [39] k (fun kq v39 w'=>∃(U1:Int) (JY:ByteArray) (JZ:ByteArray) (zI:List (fO)) (Ap:Value),v39= .int .i64 U1∧ah (bV.l0 kq aBB Ht (Ht.length:Int) U1 Sl Sm zI=some (r1,r2,r3,r4))∧ah (kq≤k)∧ah (Kd.V Kd.string 9 w' w.heap.size (fun k_=>some k_≠(Ap:Value).ownBlock∧k_≠Gm∧k_≠Am) (.slice A20 Ht.length c20) Ht)∧ah (Kd.R oz 69 w' w.heap.size (fun _=>True) Ap zI)∧ah (w'.heap[Gm]? =some (.cells #[.string JY, .string JZ,(.slice none 0 0)] 61 (0,0)))∧ah (w'.heap[Am]? =some (.cells #[.string Sl, .string Sm,Ap] 61 (0,0)))∧ah (Below w.heap.size w w'))
  case atStart=>exact⟨_,_,_,_,_,rs,H',⟨Nat.le_refl _⟩,⟨by(with_reducible repeat(first|apply Kd.iM|apply Kd.iH|apply Kd.iF));exact Kd.lJ aBF.out (fun _ hk=>⟨(by simp[Value.ownBlock]),⟨hk.1.2,hk.2⟩⟩)⟩,⟨nx⟩,⟨ub lX.out⟩,⟨ub og.out⟩,⟨bb⟩⟩
  case round=>
   clear H';try clear c1
   try clear c5
   try clear nT
   try clear NZ
   try clear oD
   try clear uN
   try clear c20
   try clear q20
   try clear TD
   try clear ak3
   try clear q20
   try clear ak4
   obtain⟨U1,JY,JZ,zI,Ap,rfl,HA,yH,zJ,jM,lX,og,HB⟩:=hrel
   cases gk with
   |zero=>exact zz HA.out
   |succ k1=>
    obtain⟨H⟩:=HA;simp only[bV.l0]at H;replace H:=sd H;rcases H with⟨CV,H⟩|⟨CV,H⟩
    ·replace H:=oG H;obtain⟨EJ,H⟩:=H;replace H:=oG H;obtain⟨CJ,H⟩:=H;replace H:=bd H;obtain⟨⟨aBG,aP6,aP7⟩,A24,H⟩:=H
     (try dsimp only at H);replace H:=bd H;obtain⟨⟨U2,aP8⟩,A25,H⟩:=H
     (try dsimp only at H);have atS:=ak H;clear H;have anS:=zi U1;have anT:=zj U1 Ht.length;obtain⟨aBH,e264,anU⟩:=Kd.jI (Kd.iG zJ.out).2.2 U1 anS anT;cases e264;replace anS:=eq_true anS;replace anT:=eq_true anT;go_upto_region 11 with(first|(refine gA Tryz.func91 (strings_Cut.calls ?dZ A24.out) ?_;(case dZ=>first|exact HG.out|exact MaxOk.below HG.out bb|(repeat(first|exact HG.out|apply MaxOk.drewN|apply MaxOk.drew)));intro nd)|(refine gV Tryz.func94 (dL.calls A25.out) ?_;rintro aBI w27 ⟨ho0,hb⟩;have af9:=ak (Kd.aG ho0 (aj bb));replace zJ:=ak (Kd.ak9 (by(with_reducible repeat(first|apply Kd.iM|apply Kd.iH|apply Kd.iF));exact zJ.out) (Kd.b_ ho0) hb);replace jM:=rb jM hb;replace lX:=kb lX hb;replace og:=kb og hb;replace HB:=bz HB hb;clear hb;(try clear ho0)))
     (try simp only[Act.put,zN,zO,l_c]);go_cut [64] (fun v64 wc=>∃(kq:Nat) (ado:Bool),v64= .bool ado∧ah (bV.j1 kq aBB aBG U2 Ht (Ht.length:Int) U1 ado Sl Sm zI=some (r1,r2,r3,r4))∧ah (kq≤k1)∧ah (Kd.R Kd.string 9 wc w.heap.size (fun _=>True) aBI U2)∧ah (Kd.V Kd.string 9 wc w.heap.size (fun k_=>some k_≠(aBI:Value).ownBlock∧some k_≠(Ap:Value).ownBlock∧k_≠Gm∧k_≠Am) (.slice (some aBH) Ht.length c20) Ht)∧ah (Kd.R oz 69 wc w.heap.size (fun _=>True) Ap zI)∧ah (wc.heap[Gm]? =some (.cells #[.string JY, .string JZ,(.slice none 0 0)] 61 (0,0)))∧ah (wc.heap[Am]? =some (.cells #[.string Sl, .string Sm,Ap] 61 (0,0)))∧ah (Below w.heap.size w wc))
     case first=>
      have H:=atS.out;clear atS;replace H:=sb H;rcases H with⟨rfl,H⟩|⟨rfl,H⟩
      ·replace H:=sb H;rcases H with⟨rfl,H⟩|⟨rfl,H⟩
       ·have H':=ak H;clear H;obtain⟨aiX,aiY,agN⟩:=Kd.aH af9.out;subst agN;go_wp2;go_meet
        case rel=>exact⟨_,_,rs,H',⟨kl⟩,⟨ur af9.out⟩,⟨by(with_reducible repeat(first|apply Kd.iM|apply Kd.iH|apply Kd.iF));exact Kd.lJ zJ.out (fun _ hk=>⟨hk.2,⟨hk.1.1,⟨hk.1.2.1,hk.1.2.2⟩⟩⟩)⟩,⟨ur jM.out⟩,⟨ub lX.out⟩,⟨ub og.out⟩,⟨bb⟩⟩
       ·have H':=ak H;clear H;go_wp2;go_meet
        case rel=>exact⟨_,_,rs,H',⟨kl⟩,⟨ur af9.out⟩,⟨by(with_reducible repeat(first|apply Kd.iM|apply Kd.iH|apply Kd.iF));exact Kd.lJ zJ.out (fun _ hk=>⟨hk.2,⟨hk.1.1,⟨hk.1.2.1,hk.1.2.2⟩⟩⟩)⟩,⟨ur jM.out⟩,⟨ub lX.out⟩,⟨ub og.out⟩,⟨bb⟩⟩
      ·have H':=ak H;clear H;go_wp2;go_meet
       case rel=>exact⟨_,_,rs,H',⟨kl⟩,⟨ur af9.out⟩,⟨by(with_reducible repeat(first|apply Kd.iM|apply Kd.iH|apply Kd.iF));exact Kd.lJ zJ.out (fun _ hk=>⟨hk.2,⟨hk.1.1,⟨hk.1.2.1,hk.1.2.2⟩⟩⟩)⟩,⟨ur jM.out⟩,⟨ub lX.out⟩,⟨ub og.out⟩,⟨bb⟩⟩
     case rest=>
      clear atS;try clear c1
      try clear c5
      try clear nT
      try clear NZ
      try clear oD
      try clear uN
      try clear c20
      try clear q20
      try clear CV
      try clear EJ
      try clear CJ
      try clear TD
      try clear anU
      try clear ak3
      try clear anS
      try clear q20
      try clear ak4
      try clear anT
      obtain⟨kq,ado,rfl,HA,aBJ,KR,zJ,jM,lX,og,HB⟩:=hcut
      cases kq with
      |zero=>exact zz HA.out
      |succ aGV=>
       obtain⟨H⟩:=HA;simp only[bV.j1]at H;replace H:=sb H;rcases H with⟨rfl,H⟩|⟨rfl,H⟩
       ·obtain⟨rfl,rfl,rfl,rfl⟩:=s4 H;have aqx:=Dz.out;have aqy:=DC.out;have z33:=iJ lX.out;go_wp2;refine bodyPost_ret (jf rfl _ _ Gm 61 #[.string (⟨#[]⟩:ByteArray), .string (⟨#[]⟩:ByteArray), .slice none 0 0] (0,0) _ rfl bq Tryz.underlying61 rfl (by kernel_rfl)) rfl ?_;exact⟨_,er,nx,bb⟩
       ·replace H:=bd H;obtain⟨atO,A34,H⟩:=H;replace H:=bd H;obtain⟨ahk,A35,H⟩:=H;replace H:=nn H;obtain⟨c36,H⟩:=H;have apT:=decide_eq_true c36;have aBt:decide (0<U2.length)=true:=decide_eq_true (by omega);clear c36;replace H:=nl H;obtain⟨akA,H⟩:=H;obtain⟨aGW,aqV⟩:=nm (zI++[(⟨ahk,qg ByteArray.empty U2 0⟩:fO)]);rw[←aqV.out]at H;have H':=ak H;clear H;try go_wp2
        replace KR:=ak (Kd.lQ KR.out);replace zJ:=ak (Kd.iF zJ.out);replace jM:=ak (Kd.lQ jM.out);replace lX:=ak (gU lX.out);replace og:=ak (gU og.out);replace HB:=ak (fZ HB.out);obtain⟨anp,ajx,acU⟩:=Kd.aH KR.out
        (first|subst acU|(injection acU with nD tu nG;have tC:=nD.symm;have tH:=nG.symm;clear nD tu nG;subst tC;subst tH));have atT:0≤(0:Int):=(by omega)
        have atU:0<(U2.length:Int):=of_decide_eq_true (by assumption);obtain⟨aqW,e274,TG⟩:=Kd.jI (Kd.aK KR.out).2.2 0 atT atU;cases e274;have aKd:(0<U2.length)=True:=eq_true (by omega)
        (try rw[show((0:Int)).toNat=0 from rfl]at TG)
        (try rw[Addr.add_zero']at TG);replace atT:=eq_true atT;replace atU:=eq_true atU;refine AP (n:=13) (S:=fun w'=>w'.cell? ⟨Am,0,none⟩=some (.string Sl)∧w'.cell? ⟨Am,1,none⟩=some (.string Sm)∧w'.cell? ⟨Am,2,none⟩=some (Ap)∧w'.cell? aqW=some (.string (qg ByteArray.empty U2 0))) (ds:=[10,12]) #[false,false,false,false,false,false,false,false,false,false,false,false,false] (by kernel_rfl) rfl rfl ⟨(aA og.out 0).trans rfl,(aA og.out 1).trans rfl,(aA og.out 2).trans rfl,TG⟩ (fun hHeld=>?_);refine su bV.aje bV.acE (fun Dn HW_=>?_)
        generalize wc.drew=w38 at KR zJ jM lX og HB TG hHeld⊢
        refine pl 0 ?_;refine pl 2 ?_;refine pl 5 ?_;refine pl 6 ?_;refine tk 1 ?_;refine tk 7 ?_;refine o1 3 (fun K hK=>?_);refine xw Tryz.func92 (by kernel_rfl) rfl #[.string aBG, .string (⟨#[32]⟩:ByteArray)] (by rfl) rfl rfl ma ?_
        with_reducible refine(lq.calls A34.out).mono ?_
        rintro e w' ⟨rfl,⟨nd,rfl⟩⟩;refine⟨_,rfl,?_⟩;refine hK.out _ _ ⟨(aA og.out 0).trans rfl,(aA og.out 1).trans rfl,(aA og.out 2).trans rfl,hHeld.2.2.2⟩ (fun hHeld=>?_);clear hK K;refine nrm ?_;refine o1 4 (fun K hK=>?_);refine xw Tryz.func93 (by kernel_rfl) rfl #[.string atO] (by rfl) rfl rfl ma ?_
        with_reducible refine(jo.calls A35.out).mono ?_
        rintro e w40 ⟨rfl,hb⟩;have asu:=(hb.cell (World.block_lt_of_cell? _ _ (hHeld.2.2.2))).trans (hHeld.2.2.2);refine⟨_,rfl,?_⟩;replace KR:=rb KR hb;replace zJ:=vb zJ hb;replace jM:=rb jM hb;replace lX:=kb lX hb;replace og:=kb og hb;replace HB:=bz HB hb;try clear hb
        refine hK.out _ _ ⟨(aA og.out 0).trans rfl,(aA og.out 1).trans rfl,(aA og.out 2).trans rfl,asu⟩ (fun hHeld=>?_);clear hK K;refine nrm ?_;refine pl 8 ?_;refine o1 9 (fun K hK=>?_);refine DN (w1:=?_) (v:=?_) (by rfl) rfl ?_ ?_
        rotate_left 2
        ·go_simp;constructor
         ·rfl
         ·rfl
        refine hK.out _ _ ⟨(aA (iD og.out _) 0).trans rfl,(aA (iD og.out _) 1).trans rfl,(aA (iD og.out _) 2).trans rfl,(World.cell?_alloc_lt _ _ _ (World.block_lt_of_cell? _ _ (hHeld.2.2.2))).trans (hHeld.2.2.2)⟩ (fun hHeld=>?_);clear hK K;refine nrm ?_;refine H9 (i:=10) (N:=some 76) #[true,true,true,true,true,true,true,true,true,true,true,false,false] rfl rfl (AV Dn.out (by kernel_rfl)) (by decide) (fun K hK=>?_);refine Kd.nV oz (w0:=w) w.heap.size (by rfl) (.tmp 67) (.tmp 75) 25 69 (.agg #[(.string ⟨#[]⟩),(.string ⟨#[]⟩)]) 32 rfl Tryz.underlying25 DF rfl (by decide) (by omega) Ap zI (⟨ahk,qg ByteArray.empty U2 0⟩:fO) [.string ahk, .string (qg ByteArray.empty U2 0)] (fun _=>True) (fun _=>False) rfl rfl ?aP (fun _ hk=>hk.elim) ?aF ?aO ?aB ?aS ?aL ?_
        (case aP=>exact yP _ _ _ (⟨ahk,qg ByteArray.empty U2 0⟩:fO))
        (case aB=>exact bb)
        (case aF=>exact(fun _ _=>trivial))
        (case aO=>exact(ur jM.out))
        (case aS=>exact(aj bb))
        (case aL=>have:=akA.out;omega);intro aP9 w41 ho hb hg hat
        rw[←aqV.out]at ho;have yU:=ak (Kd.oU (ur KR.out) (Kd.jA (ur jM.out)) (by decide) hg);have yV:=ak (Kd.ak_ (ok:=(fun k_=>some k_≠(.slice (some aqW) U2.length ajx:Value).ownBlock∧k_≠Gm∧k_≠Am)) (by(with_reducible repeat(first|apply Kd.iM|apply Kd.iH|apply Kd.iF));exact Kd.lJ zJ.out (fun _ hk=>⟨⟨hk.1,⟨hk.2.2.1,hk.2.2.2⟩⟩,hk.2.1⟩)) hg hat);have zQ:=ak (bP (g:=Gm) (o:= .cells #[.string JY, .string JZ, .slice none 0 0] 61 (0,0)) (ub lX.out) hg (Kd.qc jM.out lX.out (by decide)));have Cb:=ak (bP (g:=Am) (o:= .cells #[.string Sl, .string Sm,Ap] 61 (0,0)) (ub og.out) hg (Kd.qc jM.out og.out (by decide)));have FP:=ak (hb);have GK:=ak (ho);clear KR zJ lX og HB jM;have KR:=yU;have zJ:=yV;have lX:=zQ;have og:=Cb;have HB:=FP;have aBK:=GK;clear yU yV zQ Cb FP GK ho hb hg hat
        obtain⟨aAS,aAT,akp⟩:=Kd.aH aBK.out
        (first|subst akp|(injection akp with nD tu nG;have tC:=nD.symm;have tH:=nG.symm;clear nD tu nG;subst tC;subst tH));refine hK.out _ _ ?_;clear hK K;refine CG (a':=?_) ?_ ?_
        rotate_left
        ·show Act.put _ (some 76) _=_
         simp only[Act.put,zN,zO,l_c,jk,kU];rfl
        refine pl 11 ?_;refine H9 (i:=12) (N:=none) #[true,true,true,true,true,true,true,true,true,true,true,true,true] rfl rfl (AV Dn.out (by kernel_rfl)) (by decide) (fun K hK=>?_);have aF3:w41.cell? ⟨Am,2,none⟩=some (Ap):=(aA og.out 2).trans rfl;have aAU:=fF og.out 2;have anN:=Dz.out;have anO:=DC.out;refine FX (w1:=?_) (by rfl) rfl ?_ ?_
        rotate_left
        ·go_simp;rfl
        refine hK.out _ _ ?_;clear hK K;refine FY (xX Dn.out (by kernel_rfl)) ?_;try go_wp2
        go_roundg aGV
        case measure=>have:=yH.out;have:=aBJ.out;omega
        case rel=>exact⟨_,_,_,_,_,rs,H',⟨by have:=yH.out;have:=aBJ.out;omega⟩,⟨by(with_reducible repeat(first|apply Kd.iM|apply Kd.iH|apply Kd.iF));exact Kd.lJ (Kd.zY (p:=⟨Am,2,none⟩) (Kd.lJ zJ.out (fun k_ hk=>(⟨hk,hk.1.2.2⟩:_∧k_≠Am))) (fun _ hk=>hk.2) (.slice aAS aGW.length aAT)) (fun _ hk=>⟨hk.1.2,⟨hk.1.1.2.1,hk.1.1.2.2⟩⟩)⟩,⟨rr⟩,⟨bq⟩,⟨bq⟩,⟨bb⟩⟩
    ·replace H:=sb H;rcases H with⟨rfl,H⟩|⟨rfl,H⟩
     ·replace H:=bd H;obtain⟨aBy,A45,H⟩:=H;replace H:=sb H;rcases H with⟨rfl,H⟩|⟨rfl,H⟩
      ·obtain⟨rfl,rfl,rfl,rfl⟩:=s4 H;have aqH:=DC.out;have aqI:=Dz.out;have z48:=iJ og.out;obtain⟨ahd,ahe,aj3⟩:=Kd.aH jM.out;subst aj3;go_wp2_with (go_at_call 95;refine mB (dM.calls (cu ((Kd.aK jM.out).2.2)) ((Kd.aK jM.out).2.1) A45.out) ?_;intro w50 hb;replace zJ:=vb zJ hb;replace jM:=rb jM hb;replace lX:=kb lX hb;replace og:=kb og hb;replace HB:=bz HB hb;clear hb;have z51:=iJ og.out;have z52:=iJ lX.out)
       refine bodyPost_ret (jf rfl _ _ Gm 61 #[.string Sl, .string Sm, .slice ahd zI.length ahe] (0,0) _ rfl bq Tryz.underlying61 rfl (by kernel_rfl)) rfl ?_;exact⟨_,er,rr,bb⟩
      ·obtain⟨rfl,rfl,rfl,rfl⟩:=s4 H;have axH:=DC.out;have axI:=Dz.out;have z54:=iJ og.out;obtain⟨aP_,aQa,aGX⟩:=Kd.aH jM.out;subst aGX;go_wp2_with (go_at_call 95;refine mB (dM.calls (cu ((Kd.aK jM.out).2.2)) ((Kd.aK jM.out).2.1) A45.out) ?_;intro w56 hb;replace zJ:=vb zJ hb;replace jM:=rb jM hb;replace lX:=kb lX hb;replace og:=kb og hb;replace HB:=bz HB hb;clear hb;have z57:=iJ lX.out)
       refine bodyPost_ret (jf rfl _ _ Gm 61 #[.string (⟨#[]⟩:ByteArray), .string (⟨#[]⟩:ByteArray), .slice none 0 0] (0,0) _ rfl bq Tryz.underlying61 rfl (by kernel_rfl)) rfl ?_;exact⟨_,er,nx,bb⟩
     ·obtain⟨rfl,rfl,rfl,rfl⟩:=s4 H;have aKe:=Dz.out;have aKf:=DC.out;have z59:=iJ lX.out;go_wp2;refine bodyPost_ret (jf rfl _ _ Gm 61 #[.string (⟨#[]⟩:ByteArray), .string (⟨#[]⟩:ByteArray), .slice none 0 0] (0,0) _ rfl bq Tryz.underlying61 rfl (by kernel_rfl)) rfl ?_;exact⟨_,er,nx,bb⟩
 ·obtain⟨rfl,rfl,rfl,rfl⟩:=s4 H;go_enter Tryz.func48,Tryz.ntmps48;go_wp2_with (first|(refine gG 2 ?_;refine bX HB 2 #[.string (⟨#[]⟩:ByteArray), .string (⟨#[]⟩:ByteArray), .slice none 0 0] 61 ?_;intro Gm Wy lX aBC hb;replace HB:=bs HB hb;clear hb)|(refine gD Tryz.func89 (bg.calls A2.out) ?_;intro Wy hb;replace lX:=kb lX hb;replace HB:=bz HB hb;clear hb;have aQb:=iJ lX.out))
  refine bodyPost_ret (jf rfl _ _ Gm 61 #[.string (⟨#[]⟩:ByteArray), .string (⟨#[]⟩:ByteArray), .slice none 0 0] (0,0) _ rfl bq Tryz.underlying61 rfl (by kernel_rfl)) rfl ?_;exact⟨_,er,nx,bb⟩
def nN.f (a0:Int):Option (Bool):=(bC.f a0).bind fun aBL=>(if aBL=true then(some true)else((dI.f a0).bind fun aBM=>(some aBM)))
theorem nN.calls {a0:Int} {r:Bool} {w:World} (h:nN.f a0=some r):
  Calls Tryz.prog 139 #[.int .u8 a0] w fun e w'=>e= .returned (.bool r)∧dN w w':=by
 unfold nN.f at h;have H:=h;clear h;replace H:=bd H;obtain⟨aBL,A2,H⟩:=H;replace H:=sb H;rcases H with⟨rfl,H⟩|⟨rfl,H⟩
 ·obtain rfl:=s1 H;go_enter Tryz.func139,Tryz.ntmps139;go_wp2_with (refine gA Tryz.func140 (bC.calls A2.out) ?_;intro nd)
  go_ret;exact⟨rs,dn⟩
 ·replace H:=bd H;obtain⟨aBM,A4,H⟩:=H;obtain rfl:=s1 H;go_enter Tryz.func139,Tryz.ntmps139;go_wp2_with (first|(refine gA Tryz.func140 (bC.calls A2.out) ?_;intro nd)|(go_at_call 141;refine mA (dI.calls A4.out) ?_;intro nd))
  go_ret;exact⟨rs,dn⟩
def dG.l0:Nat→ByteArray→Int→Int→Option (Bool)
 |0,_,_,_=>none
 |k+1,x0,x7,x8=>if x8<x7 then(if 0≤x8 then(if x8<(x0.size:Int)then((nN.f (bt x0 x8)).bind fun aBN=>(if aBN=true then(dG.l0 k x0 x7 (wrap64 (x8+1)))else(some false)))else(none))else(none))else(some true)
def dG.f (k:Nat) (a0:ByteArray):Option (Bool):=dG.l0 k a0 (a0.size:Int) 0
theorem dG.calls {k:Nat} {a0:ByteArray} {r:Bool} {w:World} (h:dG.f k a0=some r):
  Calls Tryz.prog 138 #[.string a0, .func (.func 139) #[] #[]] w fun e w'=>e= .returned (.bool r)∧dN w w':=by
 unfold dG.f at h;have H:=h;clear h;have H':=ak H;clear H;go_enter Tryz.func138,Tryz.ntmps138;go_wp2;go_loopg [8] k (fun kq v8 w'=>∃(lC:Int),v8= .int .i64 lC∧ah (dG.l0 kq a0 (a0.size:Int) lC=some r)∧ah (kq≤k)∧dN w w')
 case atStart=>exact⟨_,rs,H',⟨Nat.le_refl _⟩,dn⟩
 case round=>
  clear H';obtain⟨lC,rfl,HA,yH,⟨m1,rfl⟩⟩:=hrel
  cases gk with
  |zero=>exact zz HA.out
  |succ k1=>
   obtain⟨H⟩:=HA;simp only[dG.l0]at H;replace H:=sd H;rcases H with⟨iT,H⟩|⟨iT,H⟩
   ·replace H:=oG H;obtain⟨qW,H⟩:=H;replace H:=oG H;obtain⟨nT,H⟩:=H;replace H:=bd H;obtain⟨aBN,A7,H⟩:=H;replace H:=sb H;rcases H with⟨rfl,H⟩|⟨rfl,H⟩
    ·have H':=ak H;clear H;obtain⟨p6,q6,hx6⟩:=bx a0 lC;go_wp2_with (go_at_call 139;refine mA (nN.calls A7.out) ?_;intro nd)
     go_roundg k1
     case measure=>exact kl
     case rel=>exact⟨_,rs,H',⟨kl⟩,dn⟩
    ·obtain rfl:=s1 H;obtain⟨p6,q6,hx6⟩:=bx a0 lC;go_wp2_with (go_at_call 139;refine mA (nN.calls A7.out) ?_;intro nd)
     go_ret;exact⟨rs,dn⟩
   ·obtain rfl:=s1 H;go_wp2;go_ret;exact⟨rs,dn⟩
def kN.f (k:Nat) (a0:ByteArray):Option (Bool):=if(a0.size:Int)≥1 then(if(a0.size:Int)≤20 then((dG.f k a0).bind fun aBO=>(some aBO))else(some false))else(some false)
theorem kN.calls {k:Nat} {a0:ByteArray} {r:Bool} {w:World} (h:kN.f k a0=some r):
  Calls Tryz.prog 96 #[.string a0] w fun e w'=>e= .returned (.bool r)∧dN w w':=by
 unfold kN.f at h;have H:=h;clear h;replace H:=sp H;rcases H with⟨c2,H⟩|⟨c2,H⟩
 ·have qO:decide (1≤(a0.size:Int))=true:=decide_eq_true c2;have zM:decide (1≤a0.size)=true:=decide_eq_true (by omega);clear c2;replace H:=sp H;rcases H with⟨c3,H⟩|⟨c3,H⟩
  ·have iT:=decide_eq_true c3;have zW:decide (a0.size≤20)=true:=decide_eq_true (by omega);clear c3;replace H:=bd H;obtain⟨aBO,A4,H⟩:=H;obtain rfl:=s1 H;go_enter Tryz.func96,Tryz.ntmps96;go_wp2_with (go_at_call 138;refine mA (dG.calls A4.out) ?_;intro nd)
   go_ret;exact⟨rs,dn⟩
  ·have iT:=decide_eq_false c3;have zW:decide (a0.size≤20)=false:=decide_eq_false (by omega);clear c3;obtain rfl:=s1 H;go_enter Tryz.func96,Tryz.ntmps96;go_wp2;go_ret;exact⟨rs,dn⟩
 ·have qO:decide (1≤(a0.size:Int))=false:=decide_eq_false c2;have zM:decide (1≤a0.size)=false:=decide_eq_false (by omega);clear c2;obtain rfl:=s1 H;go_enter Tryz.func96,Tryz.ntmps96;go_wp2;go_ret;exact⟨rs,dn⟩
end Go.Proofs.YtncdadcmghglkaaGreatDoor.PFnPathEmpty
