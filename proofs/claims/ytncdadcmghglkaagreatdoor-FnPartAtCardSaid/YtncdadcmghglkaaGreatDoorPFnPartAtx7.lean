/- Printed walks; conditions: those in each statement. -/
import Derived.Test.YtncdadcmghglkaaGreatDoorVFnPartAtQt
import Derived.Test.YtncdadcmghglkaaGreatDoorVFnPartAtYt
import Derived.Test.YtncdadcmghglkaaGreatDoorPFnPartAtx0
import Derived.Test.YtncdadcmghglkaaGreatDoorPFnPartAtx5
import Derived.Test.YtncdadcmghglkaaGreatDoorPFnPartAtx2
import Derived.Test.YtncdadcmghglkaaGreatDoorPFnPartAtx3
-- short
-- dense
-- sq
-- sq2
namespace Go.Proofs.YtncdadcmghglkaaGreatDoor.PFnPartAt
open Go.RowKit Go.Proofs.YtncdadcmghglkaaGreatDoor.X Go.Proofs.YtncdadcmghglkaaGreatDoorW.bQ Go.Proofs.YtncdadcmghglkaaGreatDoorW.jm Go.Proofs.YtncdadcmghglkaaGreatDoorW.kD
attribute [local go_sem] pV pW sK sN nI nJ pX pY   -- for this text's walks alone
set_option linter.unusedVariables false
set_option maxHeartbeats 8000000
set_option maxRecDepth 100000
set_option linter.unusedSimpArgs false
def kQ.l0:Nat→ByteArray→List (fP)→Int→Int→Option (ByteArray)
 |0,_,_,_,_=>none
 |k+1,x3,DI,x14,x15=>if x15<x14 then(if 0≤x15 then(if x15<(DI.length:Int)then(if 2+((dU DI x15).f0).size≤9223372036854775807 then(if((⟨#[59,32]⟩:ByteArray)++((dU DI x15).f0)).size+1≤9223372036854775807 then((jw.f k ((dU DI x15).f1)).bind fun Wy=>(if(((⟨#[59,32]⟩:ByteArray)++((dU DI x15).f0))++(⟨#[61]⟩:ByteArray)).size+Wy.size≤9223372036854775807 then(if x3.size+((((⟨#[59,32]⟩:ByteArray)++((dU DI x15).f0))++(⟨#[61]⟩:ByteArray))++Wy).size≤9223372036854775807 then(kQ.l0 k (x3++((((⟨#[59,32]⟩:ByteArray)++((dU DI x15).f0))++(⟨#[61]⟩:ByteArray))++Wy)) DI x14 (wrap64 (x15+1)))else(none))else(none)))else(none))else(none))else(none))else(none))else(some x3)
def kQ.f (k:Nat) (eX:ByteArray) (fF:ByteArray) (aA:List (fP)):Option (ByteArray):=if eX.size+1≤9223372036854775807 then(if(eX++(⟨#[47]⟩:ByteArray)).size+fF.size≤9223372036854775807 then(kQ.l0 k ((eX++(⟨#[47]⟩:ByteArray))++fF) aA (aA.length:Int) 0)else(none))else(none)
theorem kQ.calls {k dI:Nat} {eX fF r:ByteArray} {eP:Option Addr} {aA:List (fP)} {w:World} (jF:Kd.C ou w eP aA.length aA) (jG:aA.length≤dI) (h:kQ.f k eX fF aA=some r):
  Calls Tryz.prog 137 #[.agg #[.string eX, .string fF, .slice eP aA.length dI]] w fun e w'=>e= .returned (.string r)∧Below w.heap.size w w':=by
 have aan:=Tryz.underlying61;have Gh:=Tryz.underlying69;have jK:=ak jF;have mV:=ak jG;clear jF jG;have HB:=ak (Below.refl w.heap.size w);unfold kQ.f at h;have H:=h;clear h;replace H:=nn H;obtain⟨c2,H⟩:=H;have qJ:=eq_true c2;have yR:=decide_eq_true c2;try have acf:(9223372036854775807<eX.size+1)=False:=eq_false (Nat.not_lt.2 c2)
 replace H:=nn H;obtain⟨c3,H⟩:=H;have iW:=eq_true c3;have Ae:=decide_eq_true c3;try have aP9:(9223372036854775807<eX.size+1+fF.size)=False:=by have h_:=(eq_false (Nat.not_lt.2 c3):(9223372036854775807<(eX++(⟨#[47]⟩:ByteArray)).size+fF.size)=False);simp only[ByteArray.size_append]at h_;exact h_
 try have Ya:(9223372036854775807<(eX++(⟨#[47]⟩:ByteArray)).size+fF.size)=False:=eq_false (Nat.not_lt.2 c3)
 have H':=ak H;clear H;go_enter Tryz.func137,Tryz.ntmps137;go_wp2_with (refine bX HB 1 #[.string eX, .string fF, .slice eP aA.length dI] 61 ?_;intro aB4 w4 Fz aKz hb;replace HB:=bs HB hb;clear hb;have z5:=iQ Fz.out)
 go_loopg [3,15] k (fun kq v3 v15 w'=>∃(dV:ByteArray) (Bf:Int),v3= .string dV∧v15= .int .i64 Bf∧ah (kQ.l0 kq dV aA (aA.length:Int) Bf=some r)∧ah (kq≤k)∧ah (w'.heap[aB4]? =some (.cells #[.string eX, .string fF,(.slice eP aA.length dI)] 61 (0,0)))∧ah (Below w.heap.size w w'))
 case atStart=>exact⟨_,_,rs,rs,H',⟨Nat.le_refl _⟩,⟨ub Fz.out⟩,⟨bb⟩⟩
 case round=>
  clear H';try clear c2
  try clear qJ
  try clear yR
  try clear acf
  try clear c3
  try clear iW
  try clear Ae
  try clear Ya
  obtain⟨dV,Bf,rfl,rfl,HA,xK,Fz,HB⟩:=hrel
  cases gk with
  |zero=>exact zz HA.out
  |succ k1=>
   obtain⟨H⟩:=HA;simp only[kQ.l0]at H;replace H:=sd H;rcases H with⟨pF,H⟩|⟨pF,H⟩
   ·replace H:=oL H;obtain⟨tZ,H⟩:=H;replace H:=oL H;obtain⟨uK,H⟩:=H;replace H:=nn H;obtain⟨c9,H⟩:=H;have AZ:=eq_true c9;have Jb:=decide_eq_true c9;try have aAg:(9223372036854775807<2+((dU aA Bf).f0).size)=False:=eq_false (Nat.not_lt.2 c9)
    replace H:=nn H;obtain⟨c10,H⟩:=H;have oO:=eq_true c10;have vH:=decide_eq_true c10;try have apq:(9223372036854775807<2+((dU aA Bf).f0).size+1)=False:=by have h_:=(eq_false (Nat.not_lt.2 c10):(9223372036854775807<((⟨#[59,32]⟩:ByteArray)++((dU aA Bf).f0)).size+1)=False);simp only[ByteArray.size_append]at h_;exact h_
    try have aeJ:(9223372036854775807<((⟨#[59,32]⟩:ByteArray)++((dU aA Bf).f0)).size+1)=False:=eq_false (Nat.not_lt.2 c10)
    replace H:=bd H;obtain⟨Wy,A11,H⟩:=H;replace H:=nn H;obtain⟨c12,H⟩:=H;have yN:=eq_true c12;have Gi:=decide_eq_true c12;try have aKA:(9223372036854775807<2+((dU aA Bf).f0).size+1+Wy.size)=False:=by have h_:=(eq_false (Nat.not_lt.2 c12):(9223372036854775807<(((⟨#[59,32]⟩:ByteArray)++((dU aA Bf).f0))++(⟨#[61]⟩:ByteArray)).size+Wy.size)=False);simp only[ByteArray.size_append]at h_;exact h_
    try have aKB:(9223372036854775807<(((⟨#[59,32]⟩:ByteArray)++((dU aA Bf).f0))++(⟨#[61]⟩:ByteArray)).size+Wy.size)=False:=eq_false (Nat.not_lt.2 c12)
    replace H:=nn H;obtain⟨c13,H⟩:=H;have xA:=eq_true c13;have Df:=decide_eq_true c13;try have awx:(9223372036854775807<dV.size+(2+((dU aA Bf).f0).size+1+Wy.size))=False:=by have h_:=(eq_false (Nat.not_lt.2 c13):(9223372036854775807<dV.size+((((⟨#[59,32]⟩:ByteArray)++((dU aA Bf).f0))++(⟨#[61]⟩:ByteArray))++Wy).size)=False);simp only[ByteArray.size_append]at h_;exact h_
    try have ao6:(9223372036854775807<dV.size+((((⟨#[59,32]⟩:ByteArray)++((dU aA Bf).f0))++(⟨#[61]⟩:ByteArray))++Wy).size)=False:=eq_false (Nat.not_lt.2 c13)
    have H':=ak H;clear H;have auv:=zi Bf;have auw:=zj Bf aA.length;obtain⟨aKC,e229,agp,agq⟩:=qW jK.out Bf auv auw;cases e229;replace agp:=cl HB.out agp;replace agq:=cl HB.out agq;replace auv:=eq_true auv;replace auw:=eq_true auw;try go_wp2_with (refine bY HB 5 #[.string (⟨#[]⟩:ByteArray), .string (⟨#[]⟩:ByteArray)] 69 ?_;intro arq V3 RX aB5 hg hb;have Xt:=yA Fz hg;have ahF:=yB Fz hg;replace Fz:=kb Fz hb;replace HB:=bz HB hb;clear hb hg;have aKD:=ahF.out;have aKE:=Xt.out;have z16:=Dh RX.out)
    refine ab2 HB RX aB5 ?_;intro w17 aln hk HB;replace Fz:=kf Fz hk Xt;clear hk RX;have RX:=aln;clear aln;refine rO [7] [0,1,5,2,3,4,6,7,8,9,10] (fun w'=>w'.cell? ⟨arq,0,none⟩=some (.string ((dU aA Bf).f0))∧w'.cell? ⟨arq,1,none⟩=some (.string ((dU aA Bf).f1))) ?_;intro w18 hb;replace Fz:=kb Fz hb;replace RX:=kb RX hb;replace HB:=bs HB hb;refine⟨sx,?_⟩;repeat refine Bv ?_
    refine rB Tryz.func166 (jw.calls A11.out) ?_;intro w19 hb;replace Fz:=kb Fz hb;replace RX:=kb RX hb;replace HB:=bz HB hb;clear hb;refine⟨sx,?_⟩;repeat refine Bv ?_
    refine on ?_;try go_wp2
    go_roundg k1
    case measure=>exact kl
    case rel=>exact⟨_,_,rs,rs,H',⟨kl⟩,⟨ub Fz.out⟩,⟨bb⟩⟩
   ·obtain rfl:=s1 H;go_wp2;go_ret;exact⟨er,bb⟩
mutual
def dN.j0:Nat→Bool→ByteArray→ByteArray→List (fP)→Option (Bool)
 |0,_,_,_,_=>none
 |k+1,x20,TS,TT,FB=>if x20=true then(some false)else(dN.l0 k FB (FB.length:Int) 0 TS TT FB)
def dN.l0:Nat→List (fP)→Int→Int→ByteArray→ByteArray→List (fP)→Option (Bool)
 |0,_,_,_,_,_,_=>none
 |k+1,x22,x23,x24,TS,TT,FB=>if x24<x23 then(if 0≤x24 then(if x24<(x22.length:Int)then((iy.f k ((dU x22 x24).f0)).bind fun aB6=>(if aB6=true then((bn.f k ((dU x22 x24).f1)).bind fun aB7=>(if aB7=true then(if(((dU x22 x24).f1).size:Int)>40 then(some false)else(if x24≤(FB.length:Int)then((lT.f k (FB.take (x24:Int).toNat) ((dU x22 x24).f0)).bind fun aok=>(if aok≥0 then(some false)else(dN.l0 k x22 x23 (wrap64 (x24+1)) TS TT FB)))else(none)))else(some false)))else(some false)))else(none))else(none))else((kQ.f k TS TT FB).bind fun aB8=>(some (decide ((aB8.size:Int)≤150))))
end
def dN.f (k:Nat) (eX:ByteArray) (fF:ByteArray) (aA:List (fP)):Option (Bool):=(iy.f k eX).bind fun t233=>(if t233=true then((iy.f k fF).bind fun t234=>(if t234=true then(dN.j0 k (decide ((aA.length:Int)>4)) eX fF aA)else(dN.j0 k true eX fF aA)))else(dN.j0 k true eX fF aA))
theorem dN.calls {k dI:Nat} {eX fF:ByteArray} {eP:Option Addr} {aA:List (fP)} {r:Bool} {w:World} (jF:Kd.C ou w eP aA.length aA) (jG:aA.length≤dI) (h:dN.f k eX fF aA=some r):
  Calls Tryz.prog 95 #[.agg #[.string eX, .string fF, .slice eP aA.length dI]] w fun e w'=>e= .returned (.bool r)∧Below w.heap.size w w':=by
 have aan:=Tryz.underlying61;have Gh:=Tryz.underlying69;have jK:=ak jF;have mV:=ak jG;clear jF jG;have HB:=ak (Below.refl w.heap.size w);unfold dN.f at h;have H:=h;clear h;have HC2:=ak H;clear H;go_enter Tryz.func95,Tryz.ntmps95;go_upto_region 1 with(refine gG 1 ?_;refine bX HB 1 #[.string eX, .string fF, .slice eP aA.length dI] 61 ?_;intro RY w3 iO aKF hb;replace HB:=bs HB hb;clear hb)
 (try simp only[Act.put,zW,zX,l_c]);go_cut [20] (fun v20 wc=>∃(kq:Nat) (alo:Bool),v20= .bool alo∧ah (dN.j0 kq alo eX fF aA=some r)∧ah (kq≤k)∧ah (wc.heap[RY]? =some (.cells #[.string eX, .string fF,(.slice eP aA.length dI)] 61 (0,0)))∧ah (Below w.heap.size w wc))
 case first=>
  have H:=HC2.out;clear HC2;replace H:=bd H;obtain⟨t233,A4,H⟩:=H;replace H:=sb H;rcases H with⟨rfl,H⟩|⟨rfl,H⟩
  ·replace H:=bd H;obtain⟨t234,A6,H⟩:=H;replace H:=sb H;rcases H with⟨rfl,H⟩|⟨rfl,H⟩
   ·have H':=ak H;clear H;have z8:=iQ iO.out;go_wp2_with (first|(refine gB Tryz.func136 (iy.calls A4.out) ?_;intro w9 hb;replace iO:=kb iO hb;replace HB:=bz HB hb;clear hb;have z10:=iQ iO.out)|(go_at_call 136;refine mB (iy.calls A6.out) ?_;intro V6 hb;replace iO:=kb iO hb;replace HB:=bz HB hb;clear hb;have z12:=iQ iO.out))
    go_meet
    case rel=>exact⟨_,_,rs,H',⟨Qa⟩,⟨ub iO.out⟩,⟨bb⟩⟩
   ·have H':=ak H;clear H;have z13:=iQ iO.out;go_wp2_with (first|(refine gB Tryz.func136 (iy.calls A4.out) ?_;intro V3 hb;replace iO:=kb iO hb;replace HB:=bz HB hb;clear hb;have z15:=iQ iO.out)|(go_at_call 136;refine mB (iy.calls A6.out) ?_;intro w16 hb;replace iO:=kb iO hb;replace HB:=bz HB hb;clear hb))
    go_meet
    case rel=>exact⟨_,_,rs,H',⟨Qa⟩,⟨ub iO.out⟩,⟨bb⟩⟩
  ·have H':=ak H;clear H;have z17:=iQ iO.out;go_wp2_with (refine gB Tryz.func136 (iy.calls A4.out) ?_;intro w18 hb;replace iO:=kb iO hb;replace HB:=bz HB hb;clear hb)
   go_meet
   case rel=>exact⟨_,_,rs,H',⟨Qa⟩,⟨ub iO.out⟩,⟨bb⟩⟩
 case rest=>
  clear HC2;obtain⟨kq,alo,rfl,HA,HJ1,iO,HB⟩:=hcut
  cases kq with
  |zero=>exact zz HA.out
  |succ SA=>
   obtain⟨H⟩:=HA;simp only[dN.j0]at H;replace H:=sb H;rcases H with⟨rfl,H⟩|⟨rfl,H⟩
   ·obtain rfl:=s1 H;go_wp2;go_ret;exact⟨er,bb⟩
   ·have H':=ak H;clear H;have z20:=iQ iO.out;go_wp2;go_loopg [24] SA (fun kq v24 w'=>∃(nH:Int),v24= .int .i64 nH∧ah (dN.l0 kq aA (aA.length:Int) nH eX fF aA=some r)∧ah (kq≤SA)∧ah (w'.heap[RY]? =some (.cells #[.string eX, .string fF,(.slice eP aA.length dI)] 61 (0,0)))∧ah (Below w.heap.size w w'))
    case atStart=>exact⟨_,rs,H',⟨Nat.le_refl _⟩,⟨ub iO.out⟩,⟨bb⟩⟩
    case round=>
     clear H';obtain⟨nH,rfl,HA,HK2,iO,HB⟩:=hrel
     cases gk with
     |zero=>exact zz HA.out
     |succ k2=>
      obtain⟨H⟩:=HA;simp only[dN.l0]at H;replace H:=sd H;rcases H with⟨Di,H⟩|⟨Di,H⟩
      ·replace H:=oL H;obtain⟨EZ,H⟩:=H;replace H:=oL H;obtain⟨CZ,H⟩:=H;replace H:=bd H;obtain⟨aB6,A24,H⟩:=H;replace H:=sb H;rcases H with⟨rfl,H⟩|⟨rfl,H⟩
       ·replace H:=bd H;obtain⟨aB7,A26,H⟩:=H;replace H:=sb H;rcases H with⟨rfl,H⟩|⟨rfl,H⟩
        ·replace H:=sp H;rcases H with⟨c28,H⟩|⟨c28,H⟩
         ·have I7:decide (40<(((dU aA nH).f1).size:Int))=true:=decide_eq_true c28;have aeL:decide (40<((dU aA nH).f1).size)=true:=decide_eq_true (by omega);clear c28;obtain rfl:=s1 H;have Hz:=zi nH;have HY:=zj nH aA.length;obtain⟨La,ZH,xH,xI⟩:=qW jK.out nH Hz HY;cases ZH;replace xH:=cl HB.out xH;replace xI:=cl HB.out xI;replace Hz:=eq_true Hz;replace HY:=eq_true HY;try go_wp2_with (refine gG 4 ?_;refine bY HB 4 #[.string (⟨#[]⟩:ByteArray), .string (⟨#[]⟩:ByteArray)] 69 ?_;intro FC w29 mM O8 hg hb;have rU:=yA iO hg;have yI:=yB iO hg;replace iO:=kb iO hb;replace HB:=bz HB hb;clear hb hg;have ayH:=yI.out;have ayI:=rU.out;have z31:=Dh mM.out)
          refine ab2 HB mM O8 ?_;intro w32 AB hk HB;replace iO:=kf iO hk rU;clear hk mM;have mM:=AB;clear AB;refine rO [2,7] [0,1,2,3,4,5,6,7,8,9,10,11,12,13,14,15,16,17,18,19,20,21,22,23,24,25] (fun w'=>w'.cell? ⟨FC,0,none⟩=some (.string ((dU aA nH).f0))∧w'.cell? ⟨FC,1,none⟩=some (.string ((dU aA nH).f1))) ?_;intro w33 hb;replace iO:=kb iO hb;replace mM:=kb mM hb;replace HB:=bs HB hb;refine⟨sx,?_⟩;repeat(first|refine Bv ?_|refine V8 ?_)
          refine rB Tryz.func136 (iy.calls A24.out) ?_;intro w34 hb;replace iO:=kb iO hb;replace mM:=kb mM hb;replace HB:=bz HB hb;clear hb;refine⟨sx,?_⟩;repeat(first|refine Bv ?_|refine V8 ?_)
          refine rA Tryz.func89 (bn.calls A26.out) ?_;intro nd;refine⟨sx,?_⟩;repeat(first|refine Bv ?_|refine V8 ?_)
          refine on ?_;try go_wp2
          go_ret;exact⟨er,bb⟩
         ·have I7:decide (40<(((dU aA nH).f1).size:Int))=false:=decide_eq_false c28;have aeL:decide (40<((dU aA nH).f1).size)=false:=decide_eq_false (by omega);clear c28;have ajg:=eq_true (of_decide_eq_true (by assumption):0≤nH);replace H:=Du H;obtain⟨aqo,aB9,H⟩:=H;obtain⟨aol,abg⟩:=nm (aA.take (nH:Int).toNat);rw[←abg.out]at H;replace H:=bd H;obtain⟨aok,A37,H⟩:=H;replace H:=sp H;rcases H with⟨c38,H⟩|⟨c38,H⟩
          ·have afY:decide (0≤aok)=true:=decide_eq_true c38;clear c38;obtain rfl:=s1 H;have Hz:=zi nH;have HY:=zj nH aA.length;obtain⟨La,ZH,xH,xI⟩:=qW jK.out nH Hz HY;cases ZH;replace xH:=cl HB.out xH;replace xI:=cl HB.out xI;replace Hz:=eq_true Hz;replace HY:=eq_true HY;try go_wp2_with (refine gG 4 ?_;refine bY HB 4 #[.string (⟨#[]⟩:ByteArray), .string (⟨#[]⟩:ByteArray)] 69 ?_;intro FC w39 mM O8 hg hb;have rU:=yA iO hg;have yI:=yB iO hg;replace iO:=kb iO hb;replace HB:=bz HB hb;clear hb hg;have aiO:=yI.out;have aiP:=rU.out;have ar0:=Dh mM.out)
           refine ab2 HB mM O8 ?_;intro w42 AB hk HB;replace iO:=kf iO hk rU;clear hk mM;have mM:=AB;clear AB;refine rO [2,7,23] [0,1,2,3,4,5,6,7,8,9,10,11,12,13,14,15,16,17,19,21,18,20,22,23,24,25] (fun w'=>w'.cell? ⟨FC,0,none⟩=some (.string ((dU aA nH).f0))∧w'.cell? ⟨FC,1,none⟩=some (.string ((dU aA nH).f1))∧w'.cell? ⟨RY,0,none⟩=some (.string eX)∧w'.cell? ⟨RY,1,none⟩=some (.string fF)∧w'.cell? ⟨RY,2,none⟩=some (.slice (some La) aA.length dI)) ?_;intro w43 hb;replace iO:=kb iO hb;replace mM:=kb mM hb;replace HB:=bs HB hb;refine⟨sx,?_⟩;repeat refine Bv ?_
           refine rB Tryz.func136 (iy.calls A24.out) ?_;intro w44 hb;replace iO:=kb iO hb;replace mM:=kb mM hb;replace HB:=bz HB hb;clear hb;refine⟨sx,?_⟩;repeat refine Bv ?_
           refine rA Tryz.func89 (bn.calls A26.out) ?_;intro nd;have q45:(nH:Int)≤((aA.length:Int):Int):=of_decide_eq_true (by assumption);obtain⟨aP_,ars,_,aB_,_⟩:=info_parts DX;have agr:aA.length≤dI:=mV.out;have aCa:Kd.C ou _ (some La) aA.length aA:=jK.out;have auy:=Yr (P:=Tryz.prog) 25 69 .i64 Tryz.underlying25 ars (some La) aA.length dI nH (of_decide_eq_true (by assumption)) q45 agr;have auz:=Kd.Yt (m:=(nH:Int).toNat) aCa (by omega);have auA:aol.length=(nH:Int).toNat:=(by rw[abg.out,List.length_take];omega)
           rw[←abg.out]at auz;rw[←auA]at auy;have alp:=ak auz;have alq:=ak (show aol.length≤dI from by omega);clear auz aCa agr ars aB_;have aQa:=ak auA;clear auA;replace q45:=eq_true q45;refine⟨sx,?_⟩;repeat refine Bv ?_
           refine rB Tryz.func88 (lT.calls (cu (Kd.aI alp.out bb)) alq.out A37.out) ?_;intro w46 hb;replace iO:=kb iO hb;replace mM:=kb mM hb;replace HB:=bz HB hb;clear hb;refine⟨sx,?_⟩;repeat refine Bv ?_
           refine on ?_;try go_wp2
           go_ret;exact⟨er,bb⟩
          ·have afY:decide (0≤aok)=false:=decide_eq_false c38;clear c38;have H':=ak H;clear H;have Hz:=zi nH;have HY:=zj nH aA.length;obtain⟨La,ZH,xH,xI⟩:=qW jK.out nH Hz HY;cases ZH;replace xH:=cl HB.out xH;replace xI:=cl HB.out xI;replace Hz:=eq_true Hz;replace HY:=eq_true HY;try go_wp2_with (refine gG 4 ?_;refine bY HB 4 #[.string (⟨#[]⟩:ByteArray), .string (⟨#[]⟩:ByteArray)] 69 ?_;intro FC w47 mM O8 hg hb;have rU:=yA iO hg;have yI:=yB iO hg;replace iO:=kb iO hb;replace HB:=bz HB hb;clear hb hg;have apu:=yI.out;have apv:=rU.out;have z49:=Dh mM.out)
           refine ab2 HB mM O8 ?_;intro w50 AB hk HB;replace iO:=kf iO hk rU;clear hk mM;have mM:=AB;clear AB;refine rO [2,7,23] [0,1,2,3,4,5,6,7,8,9,10,11,12,13,14,15,16,17,19,21,18,20,22,23,24,25] (fun w'=>w'.cell? ⟨FC,0,none⟩=some (.string ((dU aA nH).f0))∧w'.cell? ⟨FC,1,none⟩=some (.string ((dU aA nH).f1))∧w'.cell? ⟨RY,0,none⟩=some (.string eX)∧w'.cell? ⟨RY,1,none⟩=some (.string fF)∧w'.cell? ⟨RY,2,none⟩=some (.slice (some La) aA.length dI)) ?_;intro w51 hb;replace iO:=kb iO hb;replace mM:=kb mM hb;replace HB:=bs HB hb;refine⟨sx,?_⟩;repeat refine Bv ?_
           refine rB Tryz.func136 (iy.calls A24.out) ?_;intro w52 hb;replace iO:=kb iO hb;replace mM:=kb mM hb;replace HB:=bz HB hb;clear hb;refine⟨sx,?_⟩;repeat refine Bv ?_
           refine rA Tryz.func89 (bn.calls A26.out) ?_;intro nd;have q53:(nH:Int)≤((aA.length:Int):Int):=of_decide_eq_true (by assumption);obtain⟨aQb,aru,_,aCb,_⟩:=info_parts DX;have ags:aA.length≤dI:=mV.out;have aCc:Kd.C ou _ (some La) aA.length aA:=jK.out;have auB:=Yr (P:=Tryz.prog) 25 69 .i64 Tryz.underlying25 aru (some La) aA.length dI nH (of_decide_eq_true (by assumption)) q53 ags;have auC:=Kd.Yt (m:=(nH:Int).toNat) aCc (by omega);have auD:aol.length=(nH:Int).toNat:=(by rw[abg.out,List.length_take];omega)
           rw[←abg.out]at auC;rw[←auD]at auB;have alp:=ak auC;have alq:=ak (show aol.length≤dI from by omega);clear auC aCc ags aru aCb;have aQc:=ak auD;clear auD;replace q53:=eq_true q53;refine⟨sx,?_⟩;repeat refine Bv ?_
           refine rB Tryz.func88 (lT.calls (cu (Kd.aI alp.out bb)) alq.out A37.out) ?_;intro w54 hb;replace iO:=kb iO hb;replace mM:=kb mM hb;replace HB:=bz HB hb;clear hb;refine⟨sx,?_⟩;repeat refine Bv ?_
           refine on ?_;try go_wp2
           go_roundg k2
           case measure=>exact kl
           case rel=>exact⟨_,rs,H',⟨kl⟩,⟨ub iO.out⟩,⟨bb⟩⟩
        ·obtain rfl:=s1 H;have Hz:=zi nH;have HY:=zj nH aA.length;obtain⟨La,ZH,xH,xI⟩:=qW jK.out nH Hz HY;cases ZH;replace xH:=cl HB.out xH;replace xI:=cl HB.out xI;replace Hz:=eq_true Hz;replace HY:=eq_true HY;try go_wp2_with (refine gG 4 ?_;refine bY HB 4 #[.string (⟨#[]⟩:ByteArray), .string (⟨#[]⟩:ByteArray)] 69 ?_;intro FC w55 mM O8 hg hb;have rU:=yA iO hg;have yI:=yB iO hg;replace iO:=kb iO hb;replace HB:=bz HB hb;clear hb hg;have aAE:=yI.out;have aAF:=rU.out;have z57:=Dh mM.out)
         refine ab2 HB mM O8 ?_;intro w58 AB hk HB;replace iO:=kf iO hk rU;clear hk mM;have mM:=AB;clear AB;refine rO [2,7] [0,1,2,3,4,5,6,7,8,9,10,11,12,13,14,15,16,17,18,19,20,21,22,23,24,25] (fun w'=>w'.cell? ⟨FC,0,none⟩=some (.string ((dU aA nH).f0))∧w'.cell? ⟨FC,1,none⟩=some (.string ((dU aA nH).f1))) ?_;intro w59 hb;replace iO:=kb iO hb;replace mM:=kb mM hb;replace HB:=bs HB hb;refine⟨sx,?_⟩;repeat(first|refine Bv ?_|refine V8 ?_)
         refine rB Tryz.func136 (iy.calls A24.out) ?_;intro WV hb;replace iO:=kb iO hb;replace mM:=kb mM hb;replace HB:=bz HB hb;clear hb;refine⟨sx,?_⟩;repeat(first|refine Bv ?_|refine V8 ?_)
         refine rA Tryz.func89 (bn.calls A26.out) ?_;intro nd;refine⟨sx,?_⟩;repeat(first|refine Bv ?_|refine V8 ?_)
         refine on ?_;try go_wp2
         go_ret;exact⟨er,bb⟩
       ·obtain rfl:=s1 H;have Hz:=zi nH;have HY:=zj nH aA.length;obtain⟨La,ZH,xH,xI⟩:=qW jK.out nH Hz HY;cases ZH;replace xH:=cl HB.out xH;replace xI:=cl HB.out xI;replace Hz:=eq_true Hz;replace HY:=eq_true HY;try go_wp2_with (refine gG 4 ?_;refine bY HB 4 #[.string (⟨#[]⟩:ByteArray), .string (⟨#[]⟩:ByteArray)] 69 ?_;intro FC w61 mM O8 hg hb;have rU:=yA iO hg;have yI:=yB iO hg;replace iO:=kb iO hb;replace HB:=bz HB hb;clear hb hg;have aKG:=yI.out;have aKH:=rU.out;have z63:=Dh mM.out)
        refine ab2 HB mM O8 ?_;intro w64 AB hk HB;replace iO:=kf iO hk rU;clear hk mM;have mM:=AB;clear AB;refine rO [2] [0,1,2,3,4,5,6,7,8,9,10,11,12,13,14,15,16,17,18,19,20,21,22,23,24,25] (fun w'=>w'.cell? ⟨FC,0,none⟩=some (.string ((dU aA nH).f0))∧w'.cell? ⟨FC,1,none⟩=some (.string ((dU aA nH).f1))) ?_;intro w65 hb;replace iO:=kb iO hb;replace mM:=kb mM hb;replace HB:=bs HB hb;refine⟨sx,?_⟩;repeat(first|refine Bv ?_|refine V8 ?_)
        refine rB Tryz.func136 (iy.calls A24.out) ?_;intro w66 hb;replace iO:=kb iO hb;replace mM:=kb mM hb;replace HB:=bz HB hb;clear hb;refine⟨sx,?_⟩;repeat(first|refine Bv ?_|refine V8 ?_)
        refine on ?_;try go_wp2
        go_ret;exact⟨er,bb⟩
      ·replace H:=bd H;obtain⟨aB8,A67,H⟩:=H;obtain rfl:=s1 H;have z68:=iQ iO.out;go_wp2_with (refine gB Tryz.func137 (kQ.calls (cu (Kd.aI jK.out HB.out)) mV.out A67.out) ?_;intro w69 hb;replace iO:=kb iO hb;replace HB:=bz HB hb;clear hb)
       go_ret;exact⟨er,bb⟩
mutual
def bW.l0:Nat→Bool→List ByteArray→Int→Int→ByteArray→ByteArray→List (fP)→Option (ByteArray×ByteArray×(List (fP))×Bool)
 |0,_,_,_,_,_,_,_=>none
 |k+1,x7,x37,x38,x39,H7,H9,FD=>if x39<x38 then(if 0≤x39 then(if x39<(x37.length:Int)then((strings_Cut.f (qH ByteArray.empty x37 x39) (⟨#[61]⟩:ByteArray)).bind fun abh=>((dM.f k abh.2.1).bind fun abj=>(if abh.2.2=true then(if abj.2=true then(bW.j1 k x7 abh.1 abj.1 x37 x38 x39 ((abj.1.length:Int) !=1) H7 H9 FD)else(bW.j1 k x7 abh.1 abj.1 x37 x38 x39 true H7 H9 FD))else(bW.j1 k x7 abh.1 abj.1 x37 x38 x39 true H7 H9 FD))))else(none))else(none))else(if x7=true then((dN.f k H7 H9 FD).bind fun aCd=>(if aCd=true then(some (H7,H9,FD,true))else(some ((⟨#[]⟩:ByteArray),(⟨#[]⟩:ByteArray),([]:List (fP)),false))))else(some ((⟨#[]⟩:ByteArray),(⟨#[]⟩:ByteArray),([]:List (fP)),false)))
def bW.j1:Nat→Bool→ByteArray→List ByteArray→List ByteArray→Int→Int→Bool→ByteArray→ByteArray→List (fP)→Option (ByteArray×ByteArray×(List (fP))×Bool)
 |0,_,_,_,_,_,_,_,_,_,_=>none
 |k+1,x7,x11,x14,x37,x38,x39,x64,H7,H9,FD=>if x64=true then(some ((⟨#[]⟩:ByteArray),(⟨#[]⟩:ByteArray),([]:List (fP)),false))else((lH.f x11 (⟨#[32]⟩:ByteArray)).bind fun auE=>((jv.f auE).bind fun ahG=>(if 0<(x14.length:Int)then(if FD.length<4398046511104 then(bW.l0 k x7 x37 x38 (wrap64 (x39+1)) H7 H9 (FD++[(⟨ahG,qH ByteArray.empty x14 0⟩:fP)]))else(none))else(none))))
end
def bW.f (k:Nat) (a0:ByteArray):Option (ByteArray×ByteArray×(List (fP))×Bool):=(bn.f k a0).bind fun aCe=>(if aCe=true then((iG.f k a0 59).bind fun Jv=>(if 0<(Jv.length:Int)then((lH.f (qH ByteArray.empty Jv 0) (⟨#[32]⟩:ByteArray)).bind fun aCf=>((strings_Cut.f aCf (⟨#[47]⟩:ByteArray)).bind fun alr=>((jv.f alr.1).bind fun SL=>((jv.f alr.2.1).bind fun SN=>(if 1≤(Jv.length:Int)then((some (Jv.drop 1:List ByteArray)).bind fun H_=>(bW.l0 k alr.2.2 H_ (H_.length:Int) 0 SL SN ([]:List (fP))))else(none))))))else(none)))else(some ((⟨#[]⟩:ByteArray),(⟨#[]⟩:ByteArray),([]:List (fP)),false)))
def bW.T13:Bool×List (List Nat×List Nat):=(true,[([],[]),([0],[0]),([],[]),([2],[2]),([3,3],[3]),([],[]),([5],[5]),([6],[6]),([4,7],[4,7]),([8],[8]),([1,9,4],[1,9]),([0,1,2,3,4,5,6,7,8,9,10],[]),([11,10,10,0,1,2,3,4,5,6,7,8,9,10],[10,11])])
def bW.B13:List Nat:=[0,1,0,4,12,0,32,96,252,508,1023,2047,4095]
theorem bW.ajn:wM .any (opsOf Tryz.f48 13)=bW.T13:=by kernel_rfl
theorem bW.acp:sO bW.T13.2 bW.B13=true:=by kernel_rfl
theorem bW.calls {k:Nat} {a0 r1 r2:ByteArray} {r3:List (fP)} {r4:Bool} {w:World} (D9:MaxOk w) (h:bW.f k a0=some (r1,r2,r3,r4)):
  Calls Tryz.prog 48 #[.string a0] w fun e w'=>∃DY:Value,e= .returned (.tuple #[.agg #[.string r1, .string r2,DY], .bool r4])∧Kd.R ou 69 w' w.heap.size (fun _=>True) DY r3∧Below w.heap.size w w':=by
 have aan:=Tryz.underlying61;have Gh:=Tryz.underlying69;have HG:=ak D9;clear D9;have HB:=ak (Below.refl w.heap.size w);unfold bW.f at h;have H:=h;clear h;replace H:=bd H;obtain⟨aCe,A2,H⟩:=H;replace H:=sb H;rcases H with⟨rfl,H⟩|⟨rfl,H⟩
 ·replace H:=bd H;obtain⟨Jv,A4,H⟩:=H;replace H:=nn H;obtain⟨c5,H⟩:=H;have oz:=decide_eq_true c5;have NV:decide (0<Jv.length)=true:=decide_eq_true (by omega);clear c5;replace H:=bd H;obtain⟨aCf,A6,H⟩:=H;replace H:=bd H;obtain⟨⟨aQd,aQe,aCg⟩,A7,H⟩:=H
  (try dsimp only at H);replace H:=bd H;obtain⟨SL,A8,H⟩:=H;replace H:=bd H;obtain⟨SN,A9,H⟩:=H;replace H:=Du H;obtain⟨oO,vH,H⟩:=H;replace H:=ny H;obtain⟨H_,arv,H⟩:=H;have H':=ak H;clear H;go_enter Tryz.func48,Tryz.ntmps48;go_wp2_with (first|(refine gG 2 ?_;refine bX HB 2 #[.string (⟨#[]⟩:ByteArray), .string (⟨#[]⟩:ByteArray), .slice none 0 0] 61 ?_;intro Gw V6 mO aCh hb;replace HB:=bs HB hb;clear hb)|(refine gD Tryz.func89 (bn.calls A2.out) ?_;intro V6 hb;replace mO:=kb mO hb;replace HB:=bz HB hb;clear hb)|(refine gV Tryz.func90 (iG.calls A4.out) ?_;rintro aQf w12 ⟨ho0,hb⟩;have CB:=ak (Kd.aG ho0 (aj bb));replace mO:=kb mO hb;replace HB:=bz HB hb;clear hb;(try clear ho0);obtain⟨FW,AY,Sv⟩:=Kd.aH CB.out;subst Sv;have als:0≤(0:Int):=(by omega);have alu:0<(Jv.length:Int):=of_decide_eq_true (by assumption);obtain⟨abk,e250,TU⟩:=Kd.jT (Kd.aK CB.out).2.2 0 als alu;cases e250;have aKI:(0<Jv.length)=True:=eq_true (by omega);(try rw[show((0:Int)).toNat=0 from rfl]at TU);(try rw[Addr.add_zero']at TU);replace als:=eq_true als;replace alu:=eq_true alu)|(refine gD Tryz.func92 (lH.calls A6.out) ?_;intro w12 hb;replace CB:=rb CB hb;replace mO:=kb mO hb;replace HB:=bz HB hb;clear hb)|(refine gD Tryz.func91 (strings_Cut.calls ?eF A7.out) ?_;(case eF=>first|exact HG.out|exact MaxOk.below HG.out bb|(repeat(first|exact HG.out|apply MaxOk.drewN|apply MaxOk.drew)));intro w12 hb;replace CB:=rb CB hb;replace mO:=kb mO hb;replace HB:=bz HB hb;clear hb)|(refine gB Tryz.func93 (jv.calls A8.out) ?_;intro V3 hb;replace CB:=rb CB hb;replace mO:=kb mO hb;replace HB:=bz HB hb;clear hb)|(refine gB Tryz.func93 (jv.calls A9.out) ?_;intro w15 hb;replace CB:=rb CB hb;replace mO:=kb mO hb;replace HB:=bz HB hb;clear hb)|(refine gG 8 ?_;refine bY HB 8 #[.string (⟨#[]⟩:ByteArray), .string (⟨#[]⟩:ByteArray), .slice none 0 0] 61 ?_;intro AL w16 oK aKJ hg hb;have DV:=yA mO hg;have DW:=yB mO hg;replace CB:=rb CB hb;replace mO:=kb mO hb;replace HB:=bz HB hb;clear hb hg;have ajZ:=DW.out;have aj0:=DV.out;have z18:=iQ oK.out)|((with_reducible refine ady (t:=61) (p:=8) rfl ?_);refine abl (t:=61) (p:=8) (v:=?aHq) (w1:=(((w16.setCell ⟨AL,0,none⟩ (.string SL)).setCell ⟨AL,1,none⟩ (.string SN)).setCell ⟨AL,2,none⟩ (.slice none 0 0))) ?hg ?ho ?hn ?hr ?_;(case ho=>rfl);(case hg=>rfl);(case hn=>rfl);(case hr=>first|(go_simp;done)|(go_simp;rfl));intro w19 hw;have y9:ah (Kd.R Kd.string 9 w19 w.heap.size (fun _=>True) (.slice (some abk) Jv.length AY) Jv):=⟨(by rw[hw];exact(ur (Kd.aW (Kd.ku (p:=⟨AL,2,none⟩) (Kd.ku (p:=⟨AL,1,none⟩) (Kd.ku (p:=⟨AL,0,none⟩) (Kd.kC CB.out oK.out (by decide)) (fun _ hk=>hk.2) (.string SL)) (fun _ hk=>hk.2) (.string SN)) (fun _ hk=>hk.2) (.slice none 0 0)) (fun _ hk=>trivial))))⟩;have zf:ah (w19.heap[Gw]? =some (.cells #[.string (⟨#[]⟩:ByteArray), .string (⟨#[]⟩:ByteArray), .slice none 0 0] 61 (0,0))):=⟨(by rw[hw];exact bq)⟩;have zY:ah (w19.heap[AL]? =some (.cells #[.string SL, .string SN, .slice none 0 0] 61 (0,0))):=⟨(by rw[hw];exact bq)⟩;have CP:ah (Below w.heap.size w w19):=⟨(by rw[hw];exact bb)⟩;clear hw;clear CB;clear mO;clear oK;clear HB;have CB:=y9;have mO:=zf;have oK:=zY;have HB:=CP;clear y9 zf zY CP;have q20:(1:Int)≤((Jv.length:Int):Int):=of_decide_eq_true (by assumption);obtain⟨aQg,arw,_,arx,_⟩:=info_parts info9;have TV:Jv.length≤AY:=(Kd.aK CB.out).2.1;have aCi:Kd.F Kd.string _ _ (some abk) Jv.length Jv:=(Kd.alv (base:=w.heap.size) (Kd.R_V (Kd.kC (Kd.kC (CB.out) mO.out (by decide)) oK.out (by decide)))).2.2;have auF:=alx (P:=Tryz.prog) 23 9 .i64 Tryz.underlying23 arw 1 arx (some abk) Jv.length AY 1 (by omega) q20;have aly:=Kd.aCj (m:=(1:Int).toNat) (c:=AY) aCi (by omega) TV;obtain⟨A20,hA20⟩:∃A1,A1=(if AY=(1:Int).toNat then(some abk)else((some abk):Option Addr).map (·.add ((1:Int).toNat*1))):=⟨_,rfl⟩;obtain⟨c20,aom⟩:∃c1,c1=AY-(1:Int).toNat:=⟨_,rfl⟩;have alz:H_.length=Jv.length-(1:Int).toNat:=(by rw[arv.out,List.length_drop]<;>omega);rw[show(Jv).drop (1:Int).toNat=H_ from arv.out.symm]at aly;replace aly:Kd.F Kd.string _ _ A20 H_.length H_:=(by rw[hA20];exact aly);rw[←alz,←hA20,←aom]at auF;have aCk:=ak (show Kd.V Kd.string 9 _ w.heap.size _ (.slice A20 H_.length c20) H_ from Kd.Wp (by rw[alz,aom];exact Nat.sub_le_sub_right TV _) aly);have aKK:=ak (show H_.length≤c20 from by rw[alz,aom];exact Nat.sub_le_sub_right TV _);clear aly aCi TV arw arx aom;have aQh:=ak alz;have aQi:=ak hA20;clear alz hA20;replace q20:=eq_true q20))
  go_loopg [39] k (fun kq v39 w'=>∃(Vh:Int) (J9:ByteArray) (J_:ByteArray) (zS:List (fP)) (AO:Value),v39= .int .i64 Vh∧ah (bW.l0 kq aCg H_ (H_.length:Int) Vh SL SN zS=some (r1,r2,r3,r4))∧ah (kq≤k)∧ah (Kd.V Kd.string 9 w' w.heap.size (fun k_=>some k_≠(AO:Value).ownBlock∧k_≠Gw∧k_≠AL) (.slice A20 H_.length c20) H_)∧ah (Kd.R ou 69 w' w.heap.size (fun _=>True) AO zS)∧ah (w'.heap[Gw]? =some (.cells #[.string J9, .string J_,(.slice none 0 0)] 61 (0,0)))∧ah (w'.heap[AL]? =some (.cells #[.string SL, .string SN,AO] 61 (0,0)))∧ah (Below w.heap.size w w'))
  case atStart=>exact⟨_,_,_,_,_,rs,H',⟨Nat.le_refl _⟩,⟨by(with_reducible repeat(first|apply Kd.iP|apply Kd.iL|apply Kd.iJ));exact Kd.lY aCk.out (fun _ hk=>⟨(by simp[Value.ownBlock]),⟨hk.1.2,hk.2⟩⟩)⟩,⟨nx⟩,⟨ub mO.out⟩,⟨ub oK.out⟩,⟨bb⟩⟩
  case round=>
   clear H';try clear c1
   try clear c5
   try clear oz
   try clear NV
   try clear oO
   try clear vH
   try clear c20
   try clear q20
   try clear TU
   try clear als
   try clear q20
   try clear alu
   obtain⟨Vh,J9,J_,zS,AO,rfl,HA,xK,zT,jY,mO,oK,HB⟩:=hrel
   cases gk with
   |zero=>exact zz HA.out
   |succ k1=>
    obtain⟨H⟩:=HA;simp only[bW.l0]at H;replace H:=sd H;rcases H with⟨Di,H⟩|⟨Di,H⟩
    ·replace H:=oL H;obtain⟨EZ,H⟩:=H;replace H:=oL H;obtain⟨CZ,H⟩:=H;replace H:=bd H;obtain⟨⟨aCl,aQj,aQk⟩,A24,H⟩:=H
     (try dsimp only at H);replace H:=bd H;obtain⟨⟨Vj,aQl⟩,A25,H⟩:=H
     (try dsimp only at H);have auG:=ak H;clear H;have aon:=zi Vh;have aoo:=zj Vh H_.length;obtain⟨aCm,e264,aop⟩:=Kd.jT (Kd.iK zT.out).2.2 Vh aon aoo;cases e264;replace aon:=eq_true aon;replace aoo:=eq_true aoo;go_upto_region 11 with(first|(refine gA Tryz.func91 (strings_Cut.calls ?eF A24.out) ?_;(case eF=>first|exact HG.out|exact MaxOk.below HG.out bb|(repeat(first|exact HG.out|apply MaxOk.drewN|apply MaxOk.drew)));intro nd)|(refine gV Tryz.func94 (dM.calls A25.out) ?_;rintro aCn w27 ⟨ho0,hb⟩;have agt:=ak (Kd.aG ho0 (aj bb));replace zT:=ak (Kd.alA (by(with_reducible repeat(first|apply Kd.iP|apply Kd.iL|apply Kd.iJ));exact zT.out) (Kd.bV ho0) hb);replace jY:=rb jY hb;replace mO:=kb mO hb;replace oK:=kb oK hb;replace HB:=bz HB hb;clear hb;(try clear ho0)))
     (try simp only[Act.put,zW,zX,l_c]);go_cut [64] (fun v64 wc=>∃(kq:Nat) (adz:Bool),v64= .bool adz∧ah (bW.j1 kq aCg aCl Vj H_ (H_.length:Int) Vh adz SL SN zS=some (r1,r2,r3,r4))∧ah (kq≤k1)∧ah (Kd.R Kd.string 9 wc w.heap.size (fun _=>True) aCn Vj)∧ah (Kd.V Kd.string 9 wc w.heap.size (fun k_=>some k_≠(aCn:Value).ownBlock∧some k_≠(AO:Value).ownBlock∧k_≠Gw∧k_≠AL) (.slice (some aCm) H_.length c20) H_)∧ah (Kd.R ou 69 wc w.heap.size (fun _=>True) AO zS)∧ah (wc.heap[Gw]? =some (.cells #[.string J9, .string J_,(.slice none 0 0)] 61 (0,0)))∧ah (wc.heap[AL]? =some (.cells #[.string SL, .string SN,AO] 61 (0,0)))∧ah (Below w.heap.size w wc))
     case first=>
      have H:=auG.out;clear auG;replace H:=sb H;rcases H with⟨rfl,H⟩|⟨rfl,H⟩
      ·replace H:=sb H;rcases H with⟨rfl,H⟩|⟨rfl,H⟩
       ·have H':=ak H;clear H;obtain⟨aj1,aj2,ahs⟩:=Kd.aH agt.out;subst ahs;go_wp2;go_meet
        case rel=>exact⟨_,_,rs,H',⟨kl⟩,⟨ur agt.out⟩,⟨by(with_reducible repeat(first|apply Kd.iP|apply Kd.iL|apply Kd.iJ));exact Kd.lY zT.out (fun _ hk=>⟨hk.2,⟨hk.1.1,⟨hk.1.2.1,hk.1.2.2⟩⟩⟩)⟩,⟨ur jY.out⟩,⟨ub mO.out⟩,⟨ub oK.out⟩,⟨bb⟩⟩
       ·have H':=ak H;clear H;go_wp2;go_meet
        case rel=>exact⟨_,_,rs,H',⟨kl⟩,⟨ur agt.out⟩,⟨by(with_reducible repeat(first|apply Kd.iP|apply Kd.iL|apply Kd.iJ));exact Kd.lY zT.out (fun _ hk=>⟨hk.2,⟨hk.1.1,⟨hk.1.2.1,hk.1.2.2⟩⟩⟩)⟩,⟨ur jY.out⟩,⟨ub mO.out⟩,⟨ub oK.out⟩,⟨bb⟩⟩
      ·have H':=ak H;clear H;go_wp2;go_meet
       case rel=>exact⟨_,_,rs,H',⟨kl⟩,⟨ur agt.out⟩,⟨by(with_reducible repeat(first|apply Kd.iP|apply Kd.iL|apply Kd.iJ));exact Kd.lY zT.out (fun _ hk=>⟨hk.2,⟨hk.1.1,⟨hk.1.2.1,hk.1.2.2⟩⟩⟩)⟩,⟨ur jY.out⟩,⟨ub mO.out⟩,⟨ub oK.out⟩,⟨bb⟩⟩
     case rest=>
      clear auG;try clear c1
      try clear c5
      try clear oz
      try clear NV
      try clear oO
      try clear vH
      try clear c20
      try clear q20
      try clear Di
      try clear EZ
      try clear CZ
      try clear TU
      try clear aop
      try clear als
      try clear aon
      try clear q20
      try clear alu
      try clear aoo
      obtain⟨kq,adz,rfl,HA,aCo,Lc,zT,jY,mO,oK,HB⟩:=hcut
      cases kq with
      |zero=>exact zz HA.out
      |succ aHr=>
       obtain⟨H⟩:=HA;simp only[bW.j1]at H;replace H:=sb H;rcases H with⟨rfl,H⟩|⟨rfl,H⟩
       ·obtain⟨rfl,rfl,rfl,rfl⟩:=s4 H;have aqP:=DV.out;have aqQ:=DW.out;have z33:=iQ mO.out;go_wp2;refine bodyPost_ret (jh rfl _ _ Gw 61 #[.string (⟨#[]⟩:ByteArray), .string (⟨#[]⟩:ByteArray), .slice none 0 0] (0,0) _ rfl bq Tryz.underlying61 rfl (by kernel_rfl)) rfl ?_;exact⟨_,er,nx,bb⟩
       ·replace H:=bd H;obtain⟨auE,A34,H⟩:=H;replace H:=bd H;obtain⟨ahG,A35,H⟩:=H;replace H:=nn H;obtain⟨c36,H⟩:=H;have aqo:=decide_eq_true c36;have aB9:decide (0<Vj.length)=true:=decide_eq_true (by omega);clear c36;replace H:=nl H;obtain⟨akY,H⟩:=H;obtain⟨aHs,arz⟩:=nm (zS++[(⟨ahG,qH ByteArray.empty Vj 0⟩:fP)]);rw[←arz.out]at H;have H':=ak H;clear H;try go_wp2
        replace Lc:=ak (Kd.mg Lc.out);replace zT:=ak (Kd.iJ zT.out);replace jY:=ak (Kd.mg jY.out);replace mO:=ak (gZ mO.out);replace oK:=ak (gZ oK.out);replace HB:=ak (gI HB.out);obtain⟨anK,ajM,acX⟩:=Kd.aH Lc.out
        (first|subst acX|(injection acX with nO uy nP;have uz:=nO.symm;have uD:=nP.symm;clear nO uy nP;subst uz;subst uD));have auH:0≤(0:Int):=(by omega)
        have auI:0<(Vj.length:Int):=of_decide_eq_true (by assumption);obtain⟨arA,e274,TW⟩:=Kd.jT (Kd.aK Lc.out).2.2 0 auH auI;cases e274;have aKL:(0<Vj.length)=True:=eq_true (by omega)
        (try rw[show((0:Int)).toNat=0 from rfl]at TW)
        (try rw[Addr.add_zero']at TW);replace auH:=eq_true auH;replace auI:=eq_true auI;refine zZ (n:=13) (S:=fun w'=>w'.cell? ⟨AL,0,none⟩=some (.string SL)∧w'.cell? ⟨AL,1,none⟩=some (.string SN)∧w'.cell? ⟨AL,2,none⟩=some (AO)∧w'.cell? arA=some (.string (qH ByteArray.empty Vj 0))) (ds:=[10,12]) #[false,false,false,false,false,false,false,false,false,false,false,false,false] (by kernel_rfl) rfl rfl ⟨(ay oK.out 0).trans rfl,(ay oK.out 1).trans rfl,(ay oK.out 2).trans rfl,TW⟩ (fun hHeld=>?_);refine rM bW.ajn bW.acp (fun CY HW_=>?_)
        generalize wc.drew=w38 at Lc zT jY mO oK HB TW hHeld⊢
        refine pl 0 ?_;refine pl 2 ?_;refine pl 5 ?_;refine pl 6 ?_;refine tk 1 ?_;refine tk 7 ?_;refine o1 3 (fun K hK=>?_);refine xw Tryz.func92 (by kernel_rfl) rfl #[.string aCl, .string (⟨#[32]⟩:ByteArray)] (by rfl) rfl rfl ma ?_
        with_reducible refine(lH.calls A34.out).mono ?_
        rintro e w' ⟨rfl,⟨nd,rfl⟩⟩;refine⟨_,rfl,?_⟩;refine hK.out _ _ ⟨(ay oK.out 0).trans rfl,(ay oK.out 1).trans rfl,(ay oK.out 2).trans rfl,hHeld.2.2.2⟩ (fun hHeld=>?_);clear hK K;refine nrm ?_;refine o1 4 (fun K hK=>?_);refine xw Tryz.func93 (by kernel_rfl) rfl #[.string auE] (by rfl) rfl rfl ma ?_
        with_reducible refine(jv.calls A35.out).mono ?_
        rintro e w40 ⟨rfl,hb⟩;have asO:=(hb.cell (World.block_lt_of_cell? _ _ (hHeld.2.2.2))).trans (hHeld.2.2.2);refine⟨_,rfl,?_⟩;replace Lc:=rb Lc hb;replace zT:=vb zT hb;replace jY:=rb jY hb;replace mO:=kb mO hb;replace oK:=kb oK hb;replace HB:=bz HB hb;try clear hb
        refine hK.out _ _ ⟨(ay oK.out 0).trans rfl,(ay oK.out 1).trans rfl,(ay oK.out 2).trans rfl,asO⟩ (fun hHeld=>?_);clear hK K;refine nrm ?_;refine pl 8 ?_;refine o1 9 (fun K hK=>?_);refine D8 (w1:=?_) (v:=?_) (by rfl) rfl ?_ ?_
        rotate_left 2
        ·go_simp;constructor
         ·rfl
         ·rfl
        refine hK.out _ _ ⟨(ay (iH oK.out _) 0).trans rfl,(ay (iH oK.out _) 1).trans rfl,(ay (iH oK.out _) 2).trans rfl,(World.cell?_alloc_lt _ _ _ (World.block_lt_of_cell? _ _ (hHeld.2.2.2))).trans (hHeld.2.2.2)⟩ (fun hHeld=>?_);clear hK K;refine nrm ?_;refine Ii (i:=10) (N:=some 76) #[true,true,true,true,true,true,true,true,true,true,true,false,false] rfl rfl (Bq CY.out (by kernel_rfl)) (by decide) (fun K hK=>?_);refine Kd.oD ou (w0:=w) w.heap.size (by rfl) (.tmp 67) (.tmp 75) 25 69 (.agg #[(.string ⟨#[]⟩),(.string ⟨#[]⟩)]) 32 rfl Tryz.underlying25 DX rfl (by decide) (by omega) AO zS (⟨ahG,qH ByteArray.empty Vj 0⟩:fP) [.string ahG, .string (qH ByteArray.empty Vj 0)] (fun _=>True) (fun _=>False) rfl rfl ?aP (fun _ hk=>hk.elim) ?aF ?aO ?aB ?aS ?aL ?_
        (case aP=>exact y5 _ _ _ (⟨ahG,qH ByteArray.empty Vj 0⟩:fP))
        (case aB=>exact bb)
        (case aF=>exact(fun _ _=>trivial))
        (case aO=>exact(ur jY.out))
        (case aS=>exact(aj bb))
        (case aL=>have:=akY.out;omega);intro aQm w41 ho hb hg hat
        rw[←arz.out]at ho;have y9:=ak (Kd.pq (ur Lc.out) (Kd.jE (ur jY.out)) (by decide) hg);have zf:=ak (Kd.alB (ok:=(fun k_=>some k_≠(.slice (some arA) Vj.length ajM:Value).ownBlock∧k_≠Gw∧k_≠AL)) (by(with_reducible repeat(first|apply Kd.iP|apply Kd.iL|apply Kd.iJ));exact Kd.lY zT.out (fun _ hk=>⟨⟨hk.1,⟨hk.2.2.1,hk.2.2.2⟩⟩,hk.2.1⟩)) hg hat);have zY:=ak (bD (g:=Gw) (o:= .cells #[.string J9, .string J_, .slice none 0 0] 61 (0,0)) (ub mO.out) hg (Kd.pz jY.out mO.out (by decide)));have CP:=ak (bD (g:=AL) (o:= .cells #[.string SL, .string SN,AO] 61 (0,0)) (ub oK.out) hg (Kd.pz jY.out oK.out (by decide)));have F7:=ak (hb);have GZ:=ak (ho);clear Lc zT mO oK HB jY;have Lc:=y9;have zT:=zf;have mO:=zY;have oK:=CP;have HB:=F7;have aCp:=GZ;clear y9 zf zY CP F7 GZ ho hb hg hat
        obtain⟨aA7,aA8,akL⟩:=Kd.aH aCp.out
        (first|subst akL|(injection akL with nO uy nP;have uz:=nO.symm;have uD:=nP.symm;clear nO uy nP;subst uz;subst uD));refine hK.out _ _ ?_;clear hK K;refine Bc (a':=?_) ?_ ?_
        rotate_left
        ·show Act.put _ (some 76) _=_
         simp only[Act.put,zW,zX,l_c,jo,lg];rfl
        refine pl 11 ?_;refine Ii (i:=12) (N:=none) #[true,true,true,true,true,true,true,true,true,true,true,true,true] rfl rfl (Bq CY.out (by kernel_rfl)) (by decide) (fun K hK=>?_);have aGG:w41.cell? ⟨AL,2,none⟩=some (AO):=(ay oK.out 2).trans rfl;have aA9:=fK oK.out 2;have aog:=DV.out;have aoh:=DW.out;refine EX (w1:=?_) (by rfl) rfl ?_ ?_
        rotate_left
        ·go_simp;rfl
        refine hK.out _ _ ?_;clear hK K;refine EY (xu CY.out (by kernel_rfl)) ?_;try go_wp2
        go_roundg aHr
        case measure=>have:=xK.out;have:=aCo.out;omega
        case rel=>exact⟨_,_,_,_,_,rs,H',⟨by have:=xK.out;have:=aCo.out;omega⟩,⟨by(with_reducible repeat(first|apply Kd.iP|apply Kd.iL|apply Kd.iJ));exact Kd.lY (Kd.Aq (p:=⟨AL,2,none⟩) (Kd.lY zT.out (fun k_ hk=>(⟨hk,hk.1.2.2⟩:_∧k_≠AL))) (fun _ hk=>hk.2) (.slice aA7 aHs.length aA8)) (fun _ hk=>⟨hk.1.2,⟨hk.1.1.2.1,hk.1.1.2.2⟩⟩)⟩,⟨rr⟩,⟨bq⟩,⟨bq⟩,⟨bb⟩⟩
    ·replace H:=sb H;rcases H with⟨rfl,H⟩|⟨rfl,H⟩
     ·replace H:=bd H;obtain⟨aCd,A45,H⟩:=H;replace H:=sb H;rcases H with⟨rfl,H⟩|⟨rfl,H⟩
      ·obtain⟨rfl,rfl,rfl,rfl⟩:=s4 H;have aqZ:=DW.out;have aq0:=DV.out;have z48:=iQ oK.out;obtain⟨ahz,ahA,akr⟩:=Kd.aH jY.out;subst akr;go_wp2_with (go_at_call 95;refine mB (dN.calls (cu ((Kd.aK jY.out).2.2)) ((Kd.aK jY.out).2.1) A45.out) ?_;intro w50 hb;replace zT:=vb zT hb;replace jY:=rb jY hb;replace mO:=kb mO hb;replace oK:=kb oK hb;replace HB:=bz HB hb;clear hb;have z51:=iQ oK.out;have z52:=iQ mO.out)
       refine bodyPost_ret (jh rfl _ _ Gw 61 #[.string SL, .string SN, .slice ahz zS.length ahA] (0,0) _ rfl bq Tryz.underlying61 rfl (by kernel_rfl)) rfl ?_;exact⟨_,er,rr,bb⟩
      ·obtain⟨rfl,rfl,rfl,rfl⟩:=s4 H;have axF:=DW.out;have axG:=DV.out;have z54:=iQ oK.out;obtain⟨aQn,aQo,aHt⟩:=Kd.aH jY.out;subst aHt;go_wp2_with (go_at_call 95;refine mB (dN.calls (cu ((Kd.aK jY.out).2.2)) ((Kd.aK jY.out).2.1) A45.out) ?_;intro w56 hb;replace zT:=vb zT hb;replace jY:=rb jY hb;replace mO:=kb mO hb;replace oK:=kb oK hb;replace HB:=bz HB hb;clear hb;have z57:=iQ mO.out)
       refine bodyPost_ret (jh rfl _ _ Gw 61 #[.string (⟨#[]⟩:ByteArray), .string (⟨#[]⟩:ByteArray), .slice none 0 0] (0,0) _ rfl bq Tryz.underlying61 rfl (by kernel_rfl)) rfl ?_;exact⟨_,er,nx,bb⟩
     ·obtain⟨rfl,rfl,rfl,rfl⟩:=s4 H;have aKM:=DV.out;have aKN:=DW.out;have z59:=iQ mO.out;go_wp2;refine bodyPost_ret (jh rfl _ _ Gw 61 #[.string (⟨#[]⟩:ByteArray), .string (⟨#[]⟩:ByteArray), .slice none 0 0] (0,0) _ rfl bq Tryz.underlying61 rfl (by kernel_rfl)) rfl ?_;exact⟨_,er,nx,bb⟩
 ·obtain⟨rfl,rfl,rfl,rfl⟩:=s4 H;go_enter Tryz.func48,Tryz.ntmps48;go_wp2_with (first|(refine gG 2 ?_;refine bX HB 2 #[.string (⟨#[]⟩:ByteArray), .string (⟨#[]⟩:ByteArray), .slice none 0 0] 61 ?_;intro Gw WV mO aCh hb;replace HB:=bs HB hb;clear hb)|(refine gD Tryz.func89 (bn.calls A2.out) ?_;intro WV hb;replace mO:=kb mO hb;replace HB:=bz HB hb;clear hb;have aQp:=iQ mO.out))
  refine bodyPost_ret (jh rfl _ _ Gw 61 #[.string (⟨#[]⟩:ByteArray), .string (⟨#[]⟩:ByteArray), .slice none 0 0] (0,0) _ rfl bq Tryz.underlying61 rfl (by kernel_rfl)) rfl ?_;exact⟨_,er,nx,bb⟩
def nZ.f (a0:Int):Option (Bool):=(bG.f a0).bind fun aCq=>(if aCq=true then(some true)else((dK.f a0).bind fun aCr=>(some aCr)))
theorem nZ.calls {a0:Int} {r:Bool} {w:World} (h:nZ.f a0=some r):
  Calls Tryz.prog 139 #[.int .u8 a0] w fun e w'=>e= .returned (.bool r)∧dO w w':=by
 unfold nZ.f at h;have H:=h;clear h;replace H:=bd H;obtain⟨aCq,A2,H⟩:=H;replace H:=sb H;rcases H with⟨rfl,H⟩|⟨rfl,H⟩
 ·obtain rfl:=s1 H;go_enter Tryz.func139,Tryz.ntmps139;go_wp2_with (refine gA Tryz.func140 (bG.calls A2.out) ?_;intro nd)
  go_ret;exact⟨rs,dn⟩
 ·replace H:=bd H;obtain⟨aCr,A4,H⟩:=H;obtain rfl:=s1 H;go_enter Tryz.func139,Tryz.ntmps139;go_wp2_with (first|(refine gA Tryz.func140 (bG.calls A2.out) ?_;intro nd)|(go_at_call 141;refine mA (dK.calls A4.out) ?_;intro nd))
  go_ret;exact⟨rs,dn⟩
def dH.l0:Nat→ByteArray→Int→Int→Option (Bool)
 |0,_,_,_=>none
 |k+1,x0,x7,x8=>if x8<x7 then(if 0≤x8 then(if x8<(x0.size:Int)then((nZ.f (bt x0 x8)).bind fun aCs=>(if aCs=true then(dH.l0 k x0 x7 (wrap64 (x8+1)))else(some false)))else(none))else(none))else(some true)
def dH.f (k:Nat) (a0:ByteArray):Option (Bool):=dH.l0 k a0 (a0.size:Int) 0
theorem dH.calls {k:Nat} {a0:ByteArray} {r:Bool} {w:World} (h:dH.f k a0=some r):
  Calls Tryz.prog 138 #[.string a0, .func (.func 139) #[] #[]] w fun e w'=>e= .returned (.bool r)∧dO w w':=by
 unfold dH.f at h;have H:=h;clear h;have H':=ak H;clear H;go_enter Tryz.func138,Tryz.ntmps138;go_wp2;go_loopg [8] k (fun kq v8 w'=>∃(lQ:Int),v8= .int .i64 lQ∧ah (dH.l0 kq a0 (a0.size:Int) lQ=some r)∧ah (kq≤k)∧dO w w')
 case atStart=>exact⟨_,rs,H',⟨Nat.le_refl _⟩,dn⟩
 case round=>
  clear H';obtain⟨lQ,rfl,HA,xK,⟨m1,rfl⟩⟩:=hrel
  cases gk with
  |zero=>exact zz HA.out
  |succ k1=>
   obtain⟨H⟩:=HA;simp only[dH.l0]at H;replace H:=sd H;rcases H with⟨iW,H⟩|⟨iW,H⟩
   ·replace H:=oL H;obtain⟨rW,H⟩:=H;replace H:=oL H;obtain⟨oz,H⟩:=H;replace H:=bd H;obtain⟨aCs,A7,H⟩:=H;replace H:=sb H;rcases H with⟨rfl,H⟩|⟨rfl,H⟩
    ·have H':=ak H;clear H;obtain⟨p6,q6,hx6⟩:=bx a0 lQ;go_wp2_with (go_at_call 139;refine mA (nZ.calls A7.out) ?_;intro nd)
     go_roundg k1
     case measure=>exact kl
     case rel=>exact⟨_,rs,H',⟨kl⟩,dn⟩
    ·obtain rfl:=s1 H;obtain⟨p6,q6,hx6⟩:=bx a0 lQ;go_wp2_with (go_at_call 139;refine mA (nZ.calls A7.out) ?_;intro nd)
     go_ret;exact⟨rs,dn⟩
   ·obtain rfl:=s1 H;go_wp2;go_ret;exact⟨rs,dn⟩
def kV.f (k:Nat) (a0:ByteArray):Option (Bool):=if(a0.size:Int)≥1 then(if(a0.size:Int)≤20 then((dH.f k a0).bind fun aCt=>(some aCt))else(some false))else(some false)
theorem kV.calls {k:Nat} {a0:ByteArray} {r:Bool} {w:World} (h:kV.f k a0=some r):
  Calls Tryz.prog 96 #[.string a0] w fun e w'=>e= .returned (.bool r)∧dO w w':=by
 unfold kV.f at h;have H:=h;clear h;replace H:=sp H;rcases H with⟨c2,H⟩|⟨c2,H⟩
 ·have qJ:decide (1≤(a0.size:Int))=true:=decide_eq_true c2;have yR:decide (1≤a0.size)=true:=decide_eq_true (by omega);clear c2;replace H:=sp H;rcases H with⟨c3,H⟩|⟨c3,H⟩
  ·have iW:=decide_eq_true c3;have Ae:decide (a0.size≤20)=true:=decide_eq_true (by omega);clear c3;replace H:=bd H;obtain⟨aCt,A4,H⟩:=H;obtain rfl:=s1 H;go_enter Tryz.func96,Tryz.ntmps96;go_wp2_with (go_at_call 138;refine mA (dH.calls A4.out) ?_;intro nd)
   go_ret;exact⟨rs,dn⟩
  ·have iW:=decide_eq_false c3;have Ae:decide (a0.size≤20)=false:=decide_eq_false (by omega);clear c3;obtain rfl:=s1 H;go_enter Tryz.func96,Tryz.ntmps96;go_wp2;go_ret;exact⟨rs,dn⟩
 ·have qJ:decide (1≤(a0.size:Int))=false:=decide_eq_false c2;have yR:decide (1≤a0.size)=false:=decide_eq_false (by omega);clear c2;obtain rfl:=s1 H;go_enter Tryz.func96,Tryz.ntmps96;go_wp2;go_ret;exact⟨rs,dn⟩
end Go.Proofs.YtncdadcmghglkaaGreatDoor.PFnPartAt
