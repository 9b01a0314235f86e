/- Printed walks; conditions: those in each statement. -/
import Derived.Test.YtdimppdlfgnhgaaGreatDoorVFnExactPartAtQt
import Derived.Test.YtdimppdlfgnhgaaGreatDoorVFnExactPartAtYt
import Derived.Test.YtdimppdlfgnhgaaGreatDoorPFnExactPartAtx0
namespace Go.Proofs.YtdimppdlfgnhgaaGreatDoor.PFnExactPartAt
open Go.Proofs.YtdimppdlfgnhgaaGreatDoorW.fD.Kd Go.Proofs.YtdimppdlfgnhgaaGreatDoorW.qy.Kd Go.Proofs.Tryz Go.RowKit Go.Proofs.YtdimppdlfgnhgaaGreatDoor.X Go.Proofs.YtdimppdlfgnhgaaGreatDoorW.fD Go.Proofs.YtdimppdlfgnhgaaGreatDoorW.mZ Go.Proofs.YtdimppdlfgnhgaaGreatDoorW.qy
attribute [local go_sem] BD BF F7 F8 yI yJ BG BH   -- for this text's walks alone
set_option linter.unusedVariables false
set_option linter.unusedSimpArgs false
set_option maxHeartbeats 8000000
set_option maxRecDepth 100000
mutual
def dY.j0:Nat→Bool→ByteArray→ByteArray→List (iq)→Option (Bool)
 |0,_,_,_,_=>none
 |k+1,x20,VT,VU,Gl=>if x20=true then(some false)else(dY.l0 k Gl (Gl.length:Int) 0 VT VU Gl)
def dY.l0:Nat→List (iq)→Int→Int→ByteArray→ByteArray→List (iq)→Option (Bool)
 |0,_,_,_,_,_,_=>none
 |k+1,x22,x23,x24,VT,VU,Gl=>if x24<x23 then(if 0≤x24 then(if x24<(x22.length:Int)then((iw.f k ((aT x22 x24).f0)).bind fun ay6=>(if ay6=true then((bC.f k ((aT x22 x24).f1)).bind fun ay7=>(if ay7=true then(if(((aT x22 x24).f1).size:Int)>40 then(some false)else(if x24≤(Gl.length:Int)then((lW.f k (Gl.take (x24:Int).toNat) ((aT x22 x24).f0)).bind fun aji=>(if aji≥0 then(some false)else(dY.l0 k x22 x23 (wrap64 (x24+1)) VT VU Gl)))else(none)))else(some false)))else(some false)))else(none))else(none))else((kH.f k VT VU Gl).bind fun ava=>(some (decide ((ava.size:Int)≤150))))
end
def dY.f(k:Nat)(bn:ByteArray)(bI:ByteArray)(aA:List (iq)):Option (Bool):=(iw.f k bn).bind fun apb=>(if apb=true then((iw.f k bI).bind fun apc=>(if apc=true then(dY.j0 k (decide ((aA.length:Int)>4)) bn bI aA)else(dY.j0 k true bn bI aA)))else(dY.j0 k true bn bI aA))
theorem dY.calls(k:Nat)(bn:ByteArray)(bI:ByteArray)(bH:Option Addr)(bg:Nat)(aA:List (iq))(r:Bool)(w:World)(jg:Kd.C lg w bH aA.length aA)(jh:aA.length≤bg)(h:dY.f k bn bI aA=some r):
  Calls Tryz.prog 101 #[.agg #[.string bn, .string bI, .slice bH aA.length bg]] w fun e w'=>e= .returned (.bool r)∧Below w.heap.size w w':=by
 have acP:=underlying90;have I5:=underlying63;have jF:=ak jg;have lV:=ak jh;clear jg jh;have HB:=ak (Below.refl w.heap.size w);have H:((iw.f k bn).bind fun apb=>(if apb=true then((iw.f k bI).bind fun apc=>(if apc=true then(dY.j0 k (decide ((aA.length:Int)>4)) bn bI aA)else(dY.j0 k true bn bI aA)))else(dY.j0 k true bn bI aA)))=some r:=h;clear h;have HC2:=ak H;clear H;go_enter func101,ntmps101;go_upto_region 1 with(refine gG 1 ?_;refine bX HB 1 #[.string bn, .string bI, .slice bH aA.length bg] 90 ?_;intro UD w3 iY aIq hb;replace HB:=bs HB hb;clear hb)
 (try simp only[Act.put,jB,jC,l_c]);go_cut [20] (fun v20 wc=>∃(kq:Nat) (alM:Bool),v20= .bool alM∧ah (dY.j0 kq alM bn bI aA=some r)∧ah (kq≤k)∧ah (wc.heap[UD]? =some (.cells #[.string bn, .string bI,(.slice bH aA.length bg)] 90 (0,0)))∧ah (Below w.heap.size w wc))
 case first=>
  have H:=HC2.out;clear HC2;replace H:=bd H;obtain⟨apb,A4,H⟩:=H;replace H:=sb H;rcases H with⟨rfl,H⟩|⟨rfl,H⟩
  ·replace H:=bd H;obtain⟨apc,A6,H⟩:=H;replace H:=sb H;rcases H with⟨rfl,H⟩|⟨rfl,H⟩
   ·have H':=ak H;clear H;have z8:=iE iY.out;go_wp2_with (first|(refine gB func132 (iw.calls k bn true _ A4.out) ?_;intro w9 hb;replace iY:=kb iY hb;replace HB:=bz HB hb;clear hb;have z10:=iE iY.out)|(go_at_call 132;refine mB (iw.calls k bI true _ A6.out) ?_;intro xk hb;replace iY:=kb iY hb;replace HB:=bz HB hb;clear hb;have z12:=iE iY.out))
    go_meet
    case rel=>exact⟨_,_,rs,H',⟨YT⟩,⟨ub iY.out⟩,⟨bb⟩⟩
   ·have H':=ak H;clear H;have z13:=iE iY.out;go_wp2_with (first|(refine gB func132 (iw.calls k bn true _ A4.out) ?_;intro Ut hb;replace iY:=kb iY hb;replace HB:=bz HB hb;clear hb;have z15:=iE iY.out)|(go_at_call 132;refine mB (iw.calls k bI false _ A6.out) ?_;intro w16 hb;replace iY:=kb iY hb;replace HB:=bz HB hb;clear hb))
    go_meet
    case rel=>exact⟨_,_,rs,H',⟨YT⟩,⟨ub iY.out⟩,⟨bb⟩⟩
  ·have H':=ak H;clear H;have z17:=iE iY.out;go_wp2_with (refine gB func132 (iw.calls k bn false _ A4.out) ?_;intro w18 hb;replace iY:=kb iY hb;replace HB:=bz HB hb;clear hb)
   go_meet
   case rel=>exact⟨_,_,rs,H',⟨YT⟩,⟨ub iY.out⟩,⟨bb⟩⟩
 case rest=>
  clear HC2;obtain⟨kq,alM,rfl,HA,FY,iY,HB⟩:=hcut
  cases kq with
  |zero=>exact zz HA.out
  |succ Mc=>
   obtain⟨H⟩:=HA;simp only[dY.j0]at H;replace H:=sb H;rcases H with⟨rfl,H⟩|⟨rfl,H⟩
   ·obtain rfl:=s1 H;go_wp2;go_ret;exact⟨er,bb⟩
   ·have H':=ak H;clear H;have z20:=iE iY.out;go_wp2;go_loopg [24] Mc (fun kq v24 w'=>∃(lH:Int),v24= .int .i64 lH∧ah (dY.l0 kq aA (aA.length:Int) lH bn bI aA=some r)∧ah (kq≤Mc)∧ah (w'.heap[UD]? =some (.cells #[.string bn, .string bI,(.slice bH aA.length bg)] 90 (0,0)))∧ah (Below w.heap.size w w'))
    case atStart=>exact⟨_,rs,H',⟨Nat.le_refl _⟩,⟨ub iY.out⟩,⟨bb⟩⟩
    case round=>
     clear H';obtain⟨lH,rfl,HA,HK2,iY,HB⟩:=hrel
     cases gk with
     |zero=>exact zz HA.out
     |succ k2=>
      obtain⟨H⟩:=HA;simp only[dY.l0]at H;replace H:=sd H;rcases H with⟨CO,H⟩|⟨CO,H⟩
      ·replace H:=oW H;obtain⟨JO,H⟩:=H;replace H:=oW H;obtain⟨JQ,H⟩:=H;replace H:=bd H;obtain⟨ay6,A24,H⟩:=H;replace H:=sb H;rcases H with⟨rfl,H⟩|⟨rfl,H⟩
       ·replace H:=bd H;obtain⟨ay7,A26,H⟩:=H;replace H:=sb H;rcases H with⟨rfl,H⟩|⟨rfl,H⟩
        ·replace H:=sp H;rcases H with⟨c28,H⟩|⟨c28,H⟩
         ·have NH:decide (40<(((aT aA lH).f1).size:Int))=true:=decide_eq_true c28;have agu:decide (40<((aT aA lH).f1).size)=true:=decide_eq_true (by omega);clear c28;obtain rfl:=s1 H;have Jv:=zi lH;have Jw:=zj lH aA.length;obtain⟨NI,abg,vZ,wo⟩:=ou jF.out lH Jv Jw;cases abg;replace vZ:=cl HB.out vZ;replace wo:=cl HB.out wo;replace Jv:=eq_true Jv;replace Jw:=eq_true Jw;try go_wp2_with (refine gG 4 ?_;refine bY HB 4 #[.string (⟨#[]⟩:ByteArray), .string (⟨#[]⟩:ByteArray)] 63 ?_;intro Gm w29 mM Qi hg hb;have qG:=YK iY hg;have xB:=YL iY hg;replace iY:=kb iY hb;replace HB:=bz HB hb;clear hb hg;have ay8:=xB.out;have ay9:=qG.out;have z31:=AA mM.out)
          refine ab2 HB mM Qi ?_;intro w32 zD hk HB;replace iY:=kf iY hk qG;clear hk mM;have mM:=zD;clear zD;refine rO [2,7] [0,1,2,3,4,5,6,7,8,9,10,11,12,13,14,15,16,17,18,19,20,21,22,23,24,25] (fun w'=>w'.cell? ⟨Gm,0,none⟩=some (.string ((aT aA lH).f0))∧w'.cell? ⟨Gm,1,none⟩=some (.string ((aT aA lH).f1))) ?_;intro w33 hb;replace iY:=kb iY hb;replace mM:=kb mM hb;replace HB:=bs HB hb;refine⟨sx,?_⟩;repeat(first|refine Jr ?_|refine lg_ ?_)
          refine rB func132 (iw.calls k2 ((aT aA lH).f0) true _ A24.out) ?_;intro w34 hb;replace iY:=kb iY hb;replace mM:=kb mM hb;replace HB:=bz HB hb;clear hb;refine⟨sx,?_⟩;repeat(first|refine Jr ?_|refine lg_ ?_)
          refine rA func75 (bC.calls k2 ((aT aA lH).f1) true _ A26.out) ?_;intro nd;refine⟨sx,?_⟩;repeat(first|refine Jr ?_|refine lg_ ?_)
          refine on ?_;try go_wp2
          go_ret;exact⟨er,bb⟩
         ·have NH:decide (40<(((aT aA lH).f1).size:Int))=false:=decide_eq_false c28;have agu:decide (40<((aT aA lH).f1).size)=false:=decide_eq_false (by omega);clear c28;have akQ:=eq_true (of_decide_eq_true (by assumption):0≤lH);replace H:=I4 H;obtain⟨asB,ay_,H⟩:=H;obtain⟨ajj,ac2⟩:=nm (aA.take (lH:Int).toNat);rw[←ac2.out]at H;replace H:=bd H;obtain⟨aji,A37,H⟩:=H;replace H:=sp H;rcases H with⟨c38,H⟩|⟨c38,H⟩
          ·have aza:decide (0≤aji)=true:=decide_eq_true c38;clear c38;obtain rfl:=s1 H;have Jv:=zi lH;have Jw:=zj lH aA.length;obtain⟨NI,abg,vZ,wo⟩:=ou jF.out lH Jv Jw;cases abg;replace vZ:=cl HB.out vZ;replace wo:=cl HB.out wo;replace Jv:=eq_true Jv;replace Jw:=eq_true Jw;try go_wp2_with (refine gG 4 ?_;refine bY HB 4 #[.string (⟨#[]⟩:ByteArray), .string (⟨#[]⟩:ByteArray)] 63 ?_;intro Gm w39 mM Qi hg hb;have qG:=YK iY hg;have xB:=YL iY hg;replace iY:=kb iY hb;replace HB:=bz HB hb;clear hb hg;have asu:=xB.out;have asv:=qG.out;have z41:=AA mM.out)
           refine ab2 HB mM Qi ?_;intro w42 zD hk HB;replace iY:=kf iY hk qG;clear hk mM;have mM:=zD;clear zD;refine rO [2,7,23] [0,1,2,3,4,5,6,7,8,9,10,11,12,13,14,15,16,17,19,21,18,20,22,23,24,25] (fun w'=>w'.cell? ⟨Gm,0,none⟩=some (.string ((aT aA lH).f0))∧w'.cell? ⟨Gm,1,none⟩=some (.string ((aT aA lH).f1))∧w'.cell? ⟨UD,0,none⟩=some (.string bn)∧w'.cell? ⟨UD,1,none⟩=some (.string bI)∧w'.cell? ⟨UD,2,none⟩=some (.slice (some NI) aA.length bg)) ?_;intro w43 hb;replace iY:=kb iY hb;replace mM:=kb mM hb;replace HB:=bs HB hb;refine⟨sx,?_⟩;repeat refine Jr ?_
           refine rB func132 (iw.calls k2 ((aT aA lH).f0) true _ A24.out) ?_;intro w44 hb;replace iY:=kb iY hb;replace mM:=kb mM hb;replace HB:=bz HB hb;clear hb;refine⟨sx,?_⟩;repeat refine Jr ?_
           refine rA func75 (bC.calls k2 ((aT aA lH).f1) true _ A26.out) ?_;intro nd;have q45:(lH:Int)≤((aA.length:Int):Int):=of_decide_eq_true (by assumption);obtain⟨aKV,asC,_,azb,_⟩:=info_parts Aq;have ahh:aA.length≤bg:=lV.out;have azc:Kd.C lg _ (some NI) aA.length aA:=jF.out;have avb:=abh (P:=Tryz.prog) 29 63 .i64 underlying29 asC (some NI) aA.length bg lH (of_decide_eq_true (by assumption)) q45 ahh;have avc:=abj (m:=(lH:Int).toNat) azc (by omega);have avd:ajj.length=(lH:Int).toNat:=(by rw[ac2.out,List.length_take];omega)
           rw[←ac2.out]at avc;rw[←avd]at avb;have alN:=ak avc;have alO:=ak (show ajj.length≤bg from by omega);clear avc azc ahh asC azb;have aKW:=ak avd;clear avd;replace q45:=eq_true q45;refine⟨sx,?_⟩;repeat refine Jr ?_
           refine rB func97 (lW.calls k2 _ _ ajj ((aT aA lH).f0) aji _ (cu (aK alN.out bb)) alO.out A37.out) ?_;intro w46 hb;replace iY:=kb iY hb;replace mM:=kb mM hb;replace HB:=bz HB hb;clear hb;refine⟨sx,?_⟩;repeat refine Jr ?_
           refine on ?_;try go_wp2
           go_ret;exact⟨er,bb⟩
          ·have aza:decide (0≤aji)=false:=decide_eq_false c38;clear c38;have H':=ak H;clear H;have Jv:=zi lH;have Jw:=zj lH aA.length;obtain⟨NI,abg,vZ,wo⟩:=ou jF.out lH Jv Jw;cases abg;replace vZ:=cl HB.out vZ;replace wo:=cl HB.out wo;replace Jv:=eq_true Jv;replace Jw:=eq_true Jw;try go_wp2_with (refine gG 4 ?_;refine bY HB 4 #[.string (⟨#[]⟩:ByteArray), .string (⟨#[]⟩:ByteArray)] 63 ?_;intro Gm w47 mM Qi hg hb;have qG:=YK iY hg;have xB:=YL iY hg;replace iY:=kb iY hb;replace HB:=bz HB hb;clear hb hg;have azd:=xB.out;have aze:=qG.out;have z49:=AA mM.out)
           refine ab2 HB mM Qi ?_;intro w50 zD hk HB;replace iY:=kf iY hk qG;clear hk mM;have mM:=zD;clear zD;refine rO [2,7,23] [0,1,2,3,4,5,6,7,8,9,10,11,12,13,14,15,16,17,19,21,18,20,22,23,24,25] (fun w'=>w'.cell? ⟨Gm,0,none⟩=some (.string ((aT aA lH).f0))∧w'.cell? ⟨Gm,1,none⟩=some (.string ((aT aA lH).f1))∧w'.cell? ⟨UD,0,none⟩=some (.string bn)∧w'.cell? ⟨UD,1,none⟩=some (.string bI)∧w'.cell? ⟨UD,2,none⟩=some (.slice (some NI) aA.length bg)) ?_;intro w51 hb;replace iY:=kb iY hb;replace mM:=kb mM hb;replace HB:=bs HB hb;refine⟨sx,?_⟩;repeat refine Jr ?_
           refine rB func132 (iw.calls k2 ((aT aA lH).f0) true _ A24.out) ?_;intro w52 hb;replace iY:=kb iY hb;replace mM:=kb mM hb;replace HB:=bz HB hb;clear hb;refine⟨sx,?_⟩;repeat refine Jr ?_
           refine rA func75 (bC.calls k2 ((aT aA lH).f1) true _ A26.out) ?_;intro nd;have q53:(lH:Int)≤((aA.length:Int):Int):=of_decide_eq_true (by assumption);obtain⟨aKX,asD,_,azf,_⟩:=info_parts Aq;have ahi:aA.length≤bg:=lV.out;have azg:Kd.C lg _ (some NI) aA.length aA:=jF.out;have ave:=abh (P:=Tryz.prog) 29 63 .i64 underlying29 asD (some NI) aA.length bg lH (of_decide_eq_true (by assumption)) q53 ahi;have avf:=abj (m:=(lH:Int).toNat) azg (by omega);have avg:ajj.length=(lH:Int).toNat:=(by rw[ac2.out,List.length_take];omega)
           rw[←ac2.out]at avf;rw[←avg]at ave;have alN:=ak avf;have alO:=ak (show ajj.length≤bg from by omega);clear avf azg ahi asD azf;have aKY:=ak avg;clear avg;replace q53:=eq_true q53;refine⟨sx,?_⟩;repeat refine Jr ?_
           refine rB func97 (lW.calls k2 _ _ ajj ((aT aA lH).f0) aji _ (cu (aK alN.out bb)) alO.out A37.out) ?_;intro w54 hb;replace iY:=kb iY hb;replace mM:=kb mM hb;replace HB:=bz HB hb;clear hb;refine⟨sx,?_⟩;repeat refine Jr ?_
           refine on ?_;try go_wp2
           go_roundg k2
           case measure=>exact kl
           case rel=>exact⟨_,rs,H',⟨kl⟩,⟨ub iY.out⟩,⟨bb⟩⟩
        ·obtain rfl:=s1 H;have Jv:=zi lH;have Jw:=zj lH aA.length;obtain⟨NI,abg,vZ,wo⟩:=ou jF.out lH Jv Jw;cases abg;replace vZ:=cl HB.out vZ;replace wo:=cl HB.out wo;replace Jv:=eq_true Jv;replace Jw:=eq_true Jw;try go_wp2_with (refine gG 4 ?_;refine bY HB 4 #[.string (⟨#[]⟩:ByteArray), .string (⟨#[]⟩:ByteArray)] 63 ?_;intro Gm w55 mM Qi hg hb;have qG:=YK iY hg;have xB:=YL iY hg;replace iY:=kb iY hb;replace HB:=bz HB hb;clear hb hg;have aIr:=xB.out;have aIs:=qG.out;have z57:=AA mM.out)
         refine ab2 HB mM Qi ?_;intro w58 zD hk HB;replace iY:=kf iY hk qG;clear hk mM;have mM:=zD;clear zD;refine rO [2,7] [0,1,2,3,4,5,6,7,8,9,10,11,12,13,14,15,16,17,18,19,20,21,22,23,24,25] (fun w'=>w'.cell? ⟨Gm,0,none⟩=some (.string ((aT aA lH).f0))∧w'.cell? ⟨Gm,1,none⟩=some (.string ((aT aA lH).f1))) ?_;intro w59 hb;replace iY:=kb iY hb;replace mM:=kb mM hb;replace HB:=bs HB hb;refine⟨sx,?_⟩;repeat(first|refine Jr ?_|refine lg_ ?_)
         refine rB func132 (iw.calls k2 ((aT aA lH).f0) true _ A24.out) ?_;intro w60 hb;replace iY:=kb iY hb;replace mM:=kb mM hb;replace HB:=bz HB hb;clear hb;refine⟨sx,?_⟩;repeat(first|refine Jr ?_|refine lg_ ?_)
         refine rA func75 (bC.calls k2 ((aT aA lH).f1) false _ A26.out) ?_;intro nd;refine⟨sx,?_⟩;repeat(first|refine Jr ?_|refine lg_ ?_)
         refine on ?_;try go_wp2
         go_ret;exact⟨er,bb⟩
       ·obtain rfl:=s1 H;have Jv:=zi lH;have Jw:=zj lH aA.length;obtain⟨NI,abg,vZ,wo⟩:=ou jF.out lH Jv Jw;cases abg;replace vZ:=cl HB.out vZ;replace wo:=cl HB.out wo;replace Jv:=eq_true Jv;replace Jw:=eq_true Jw;try go_wp2_with (refine gG 4 ?_;refine bY HB 4 #[.string (⟨#[]⟩:ByteArray), .string (⟨#[]⟩:ByteArray)] 63 ?_;intro Gm w61 mM Qi hg hb;have qG:=YK iY hg;have xB:=YL iY hg;replace iY:=kb iY hb;replace HB:=bz HB hb;clear hb hg;have aIt:=xB.out;have aIu:=qG.out;have z63:=AA mM.out)
        refine ab2 HB mM Qi ?_;intro w64 zD hk HB;replace iY:=kf iY hk qG;clear hk mM;have mM:=zD;clear zD;refine rO [2] [0,1,2,3,4,5,6,7,8,9,10,11,12,13,14,15,16,17,18,19,20,21,22,23,24,25] (fun w'=>w'.cell? ⟨Gm,0,none⟩=some (.string ((aT aA lH).f0))∧w'.cell? ⟨Gm,1,none⟩=some (.string ((aT aA lH).f1))) ?_;intro w65 hb;replace iY:=kb iY hb;replace mM:=kb mM hb;replace HB:=bs HB hb;refine⟨sx,?_⟩;repeat(first|refine Jr ?_|refine lg_ ?_)
        refine rB func132 (iw.calls k2 ((aT aA lH).f0) false _ A24.out) ?_;intro w66 hb;replace iY:=kb iY hb;replace mM:=kb mM hb;replace HB:=bz HB hb;clear hb;refine⟨sx,?_⟩;repeat(first|refine Jr ?_|refine lg_ ?_)
        refine on ?_;try go_wp2
        go_ret;exact⟨er,bb⟩
      ·replace H:=bd H;obtain⟨ava,A67,H⟩:=H;obtain rfl:=s1 H;have z68:=iE iY.out;go_wp2_with (refine gB func133 (kH.calls k2 bn bI _ _ aA ava _ (cu (aK jF.out HB.out)) lV.out A67.out) ?_;intro w69 hb;replace iY:=kb iY hb;replace HB:=bz HB hb;clear hb)
       go_ret;exact⟨er,bb⟩
mutual
def dN.l0:Nat→Bool→List ByteArray→Int→Int→ByteArray→ByteArray→List (iq)→Option (ByteArray×ByteArray×(List (iq))×Bool)
 |0,_,_,_,_,_,_,_=>none
 |k+1,x7,x37,x38,x39,Jy,Jz,Gn=>if x39<x38 then(if 0≤x39 then(if x39<(x37.length:Int)then((strings_Cut.f (o8 ByteArray.empty x37 x39) (⟨#[61]⟩:ByteArray)).bind fun ac3=>((eG.f k ac3.2.1).bind fun ac4=>(if ac3.2.2=true then(if ac4.2=true then(dN.j1 k x7 ac3.1 ac4.1 x37 x38 x39 ((ac4.1.length:Int) !=1) Jy Jz Gn)else(dN.j1 k x7 ac3.1 ac4.1 x37 x38 x39 true Jy Jz Gn))else(dN.j1 k x7 ac3.1 ac4.1 x37 x38 x39 true Jy Jz Gn))))else(none))else(none))else(if x7=true then((dY.f k Jy Jz Gn).bind fun azh=>(if azh=true then(some (Jy,Jz,Gn,true))else(some ((⟨#[]⟩:ByteArray),(⟨#[]⟩:ByteArray),([]:List (iq)),false))))else(some ((⟨#[]⟩:ByteArray),(⟨#[]⟩:ByteArray),([]:List (iq)),false)))
def dN.j1:Nat→Bool→ByteArray→List ByteArray→List ByteArray→Int→Int→Bool→ByteArray→ByteArray→List (iq)→Option (ByteArray×ByteArray×(List (iq))×Bool)
 |0,_,_,_,_,_,_,_,_,_,_=>none
 |k+1,x7,x11,x14,x37,x38,x39,x64,Jy,Jz,Gn=>if x64=true then(some ((⟨#[]⟩:ByteArray),(⟨#[]⟩:ByteArray),([]:List (iq)),false))else((kQ.f x11 (⟨#[32]⟩:ByteArray)).bind fun alP=>((iC.f alP).bind fun aeD=>(if 0<(x14.length:Int)then(if Gn.length<4398046511104 then(dN.l0 k x7 x37 x38 (wrap64 (x39+1)) Jy Jz (Gn++[(⟨aeD,o8 ByteArray.empty x14 0⟩:iq)]))else(none))else(none))))
end
def dN.f(k:Nat)(a0:ByteArray):Option (ByteArray×ByteArray×(List (iq))×Bool):=(bC.f k a0).bind fun apd=>(if apd=true then((ig.f k a0 59).bind fun Dh=>(if 0<(Dh.length:Int)then((kQ.f (o8 ByteArray.empty Dh 0) (⟨#[32]⟩:ByteArray)).bind fun ajk=>((strings_Cut.f ajk (⟨#[47]⟩:ByteArray)).bind fun Xo=>((iC.f Xo.1).bind fun KG=>((iC.f Xo.2.1).bind fun KH=>(if 1≤(Dh.length:Int)then((some (Dh.drop 1:List ByteArray)).bind fun EU=>(dN.l0 k Xo.2.2 EU (EU.length:Int) 0 KG KH ([]:List (iq))))else(none))))))else(none)))else(some ((⟨#[]⟩:ByteArray),(⟨#[]⟩:ByteArray),([]:List (iq)),false)))
def dN.T13:Bool×List (List Nat×List Nat):=(true,[([],[]),([0],[0]),([],[]),([2],[2]),([3,3],[3]),([],[]),([5],[5]),([6],[6]),([4,7],[4,7]),([8],[8]),([1,9,4],[1,9]),([0,1,2,3,4,5,6,7,8,9,10],[]),([11,10,10,0,1,2,3,4,5,6,7,8,9,10],[10,11])])
def dN.B13:List Nat:=[0,1,0,4,12,0,32,96,252,508,1023,2047,4095]
theorem dN.alQ:xu .any (opsOf Tryz.f65 13)=dN.T13:=by kernel_rfl
theorem dN.aeE:uf dN.T13.2 dN.B13=true:=by kernel_rfl
theorem dN.calls(k:Nat)(a0:ByteArray)(r1:ByteArray)(r2:ByteArray)(r3:List (iq))(r4:Bool)(w:World)(wI:MaxOk w)(h:dN.f k a0=some (r1,r2,r3,r4)):
  Calls Tryz.prog 65 #[.string a0] w fun e w'=>∃Ko:Value,e= .returned (.tuple #[.agg #[.string r1, .string r2,Ko], .bool r4])∧Kd.R lg 63 w' w.heap.size (fun _=>True) Ko r3∧Below w.heap.size w w':=by
 have acP:=underlying90;have I5:=underlying63;have HG:=ak wI;clear wI;have HB:=ak (Below.refl w.heap.size w);have H:((bC.f k a0).bind fun apd=>(if apd=true then((ig.f k a0 59).bind fun Dh=>(if 0<(Dh.length:Int)then((kQ.f (o8 ByteArray.empty Dh 0) (⟨#[32]⟩:ByteArray)).bind fun ajk=>((strings_Cut.f ajk (⟨#[47]⟩:ByteArray)).bind fun Xo=>((iC.f Xo.1).bind fun KG=>((iC.f Xo.2.1).bind fun KH=>(if 1≤(Dh.length:Int)then((some (Dh.drop 1:List ByteArray)).bind fun EU=>(dN.l0 k Xo.2.2 EU (EU.length:Int) 0 KG KH ([]:List (iq))))else(none))))))else(none)))else(some ((⟨#[]⟩:ByteArray),(⟨#[]⟩:ByteArray),([]:List (iq)),false))))=some (r1,r2,r3,r4):=h;clear h;replace H:=bd H;obtain⟨apd,A2,H⟩:=H;replace H:=sb H;rcases H with⟨rfl,H⟩|⟨rfl,H⟩
 ·replace H:=bd H;obtain⟨Dh,A4,H⟩:=H;replace H:=nn H;obtain⟨c5,H⟩:=H;have sH:=decide_eq_true c5;have abk:decide (0<Dh.length)=true:=decide_eq_true (by omega);clear c5;replace H:=bd H;obtain⟨ajk,A6,H⟩:=H;replace H:=bd H;obtain⟨⟨azi,azj,avh⟩,A7,H⟩:=H
  (try dsimp only at H);replace H:=bd H;obtain⟨KG,A8,H⟩:=H;replace H:=bd H;obtain⟨KH,A9,H⟩:=H;replace H:=I4 H;obtain⟨rP,y8,H⟩:=H;replace H:=ny H;obtain⟨EU,asE,H⟩:=H;have H':=ak H;clear H;go_enter func65,ntmps65;go_wp2_with (first|(refine gG 2 ?_;refine bX HB 2 #[.string (⟨#[]⟩:ByteArray), .string (⟨#[]⟩:ByteArray), .slice none 0 0] 90 ?_;intro Ih xk mO azk hb;replace HB:=bs HB hb;clear hb)|(refine gD func75 (bC.calls k a0 true _ A2.out) ?_;intro xk hb;replace mO:=kb mO hb;replace HB:=bz HB hb;clear hb)|(refine gV func98 (ig.calls k a0 59 Dh _ A4.out) ?_;rintro aKZ w12 ⟨ho0,hb⟩;have BQ:=ak (bP ho0 (aj bb));replace mO:=kb mO hb;replace HB:=bz HB hb;clear hb;(try clear ho0);obtain⟨xR,uO,YP⟩:=bG BQ.out;subst YP;have alR:0≤(0:Int):=(by omega);have alS:0<(Dh.length:Int):=of_decide_eq_true (by assumption);obtain⟨ac5,aFL,VW⟩:=kV (dB BQ.out).2.2 0 alR alS;cases aFL;have aIv:(0<Dh.length)=True:=eq_true (by omega);(try rw[show((0:Int)).toNat=0 from rfl]at VW);(try rw[Addr.add_zero']at VW);replace alR:=eq_true alR;replace alS:=eq_true alS)|(refine gD func62 (kQ.calls (o8 ByteArray.empty Dh 0) (⟨#[32]⟩:ByteArray) ajk _ A6.out) ?_;intro w12 hb;replace BQ:=rb BQ hb;replace mO:=kb mO hb;replace HB:=bz HB hb;clear hb)|(refine gD func61 (strings_Cut.calls ajk (⟨#[47]⟩:ByteArray) azi azj avh _ ?oG A7.out) ?_;(case oG=>first|exact HG.out|exact MaxOk.below HG.out bb|(repeat(first|exact HG.out|apply MaxOk.drewN|apply MaxOk.drew)));intro w12 hb;replace BQ:=rb BQ hb;replace mO:=kb mO hb;replace HB:=bz HB hb;clear hb)|(refine gB func99 (iC.calls azi KG _ A8.out) ?_;intro Ut hb;replace BQ:=rb BQ hb;replace mO:=kb mO hb;replace HB:=bz HB hb;clear hb)|(refine gB func99 (iC.calls azj KH _ A9.out) ?_;intro YU hb;replace BQ:=rb BQ hb;replace mO:=kb mO hb;replace HB:=bz HB hb;clear hb)|(refine gG 8 ?_;refine bY HB 8 #[.string (⟨#[]⟩:ByteArray), .string (⟨#[]⟩:ByteArray), .slice none 0 0] 90 ?_;intro zF w16 nY aIw hg hb;have Ee:=YK mO hg;have Ef:=YL mO hg;replace BQ:=rb BQ hb;replace mO:=kb mO hb;replace HB:=bz HB hb;clear hb hg;have asF:=Ef.out;have asG:=Ee.out;have z18:=iE nY.out)|((with_reducible refine uP (t:=90) (p:=8) rfl ?_);refine sJ (t:=90) (p:=8) (v:=?aFM) (w1:=(((w16.setCell ⟨zF,0,none⟩ (.string KG)).setCell ⟨zF,1,none⟩ (.string KH)).setCell ⟨zF,2,none⟩ (.slice none 0 0))) ?hg ?ho ?hn ?hr ?_;(case ho=>rfl);(case hg=>rfl);(case hn=>rfl);(case hr=>first|(go_simp;done)|(go_simp;rfl));intro w19 hw;have ng:ah (Kd.R Kd.string 9 w19 w.heap.size (fun _=>True) (.slice (some ac5) Dh.length uO) Dh):=⟨(by rw[hw];exact(ur (aY (bK (p:=⟨zF,2,none⟩) (bK (p:=⟨zF,1,none⟩) (bK (p:=⟨zF,0,none⟩) (eP BQ.out nY.out (by decide)) (fun _ hk=>hk.2) (.string KG)) (fun _ hk=>hk.2) (.string KH)) (fun _ hk=>hk.2) (.slice none 0 0)) (fun _ hk=>trivial))))⟩;have ni:ah (w19.heap[Ih]? =some (.cells #[.string (⟨#[]⟩:ByteArray), .string (⟨#[]⟩:ByteArray), .slice none 0 0] 90 (0,0))):=⟨(by rw[hw];exact bq)⟩;have qx:ah (w19.heap[zF]? =some (.cells #[.string KG, .string KH, .slice none 0 0] 90 (0,0))):=⟨(by rw[hw];exact bq)⟩;have sV:ah (Below w.heap.size w w19):=⟨(by rw[hw];exact bb)⟩;clear hw;clear BQ;clear mO;clear nY;clear HB;have BQ:=ng;have mO:=ni;have nY:=qx;have HB:=sV;clear ng ni qx sV;have q20:(1:Int)≤((Dh.length:Int):Int):=of_decide_eq_true (by assumption);obtain⟨aK1,asH,_,asI,_⟩:=info_parts info9;have VX:Dh.length≤uO:=(dB BQ.out).2.1;have azl:Kd.F Kd.string _ _ (some ac5) Dh.length Dh:=(alT (base:=w.heap.size) (Kd.R_V (eP (eP (BQ.out) mO.out (by decide)) nY.out (by decide)))).2.2;have avi:=alU (P:=Tryz.prog) 23 9 .i64 underlying23 asH 1 asI (some ac5) Dh.length uO 1 (by omega) q20;have alV:=azm (m:=(1:Int).toNat) (c:=uO) azl (by omega) VX;obtain⟨A20,hA20⟩:∃A1,A1=(if uO=(1:Int).toNat then(some ac5)else((some ac5):Option Addr).map (·.add ((1:Int).toNat*1))):=⟨_,rfl⟩;obtain⟨c20,ape⟩:∃c1,c1=uO-(1:Int).toNat:=⟨_,rfl⟩;have alW:EU.length=Dh.length-(1:Int).toNat:=(by rw[asE.out,List.length_drop]<;>omega);rw[show(Dh).drop (1:Int).toNat=EU from asE.out.symm]at alV;replace alV:Kd.F Kd.string _ _ A20 EU.length EU:=(by rw[hA20];exact alV);rw[←alW,←hA20,←ape]at avi;have azn:=ak (show Kd.V Kd.string 9 _ w.heap.size _ (.slice A20 EU.length c20) EU from YV (by rw[alW,ape];exact Nat.sub_le_sub_right VX _) alV);have aIx:=ak (show EU.length≤c20 from by rw[alW,ape];exact Nat.sub_le_sub_right VX _);clear alV azl VX asH asI ape;have aK2:=ak alW;have aK3:=ak hA20;clear alW hA20;replace q20:=eq_true q20))
  go_loopg [39] k (fun kq v39 w'=>∃(UE:Int) (MB:ByteArray) (MC:ByteArray) (vN:List (iq)) (zG:Value),v39= .int .i64 UE∧ah (dN.l0 kq avh EU (EU.length:Int) UE KG KH vN=some (r1,r2,r3,r4))∧ah (kq≤k)∧ah (Kd.V Kd.string 9 w' w.heap.size (fun k_=>some k_≠(zG:Value).ownBlock∧k_≠Ih∧k_≠zF) (.slice A20 EU.length c20) EU)∧ah (Kd.R lg 63 w' w.heap.size (fun _=>True) zG vN)∧ah (w'.heap[Ih]? =some (.cells #[.string MB, .string MC,(.slice none 0 0)] 90 (0,0)))∧ah (w'.heap[zF]? =some (.cells #[.string KG, .string KH,zG] 90 (0,0)))∧ah (Below w.heap.size w w'))
  case atStart=>exact⟨_,_,_,_,_,rs,H',⟨Nat.le_refl _⟩,⟨by(with_reducible repeat(first|apply Kd.f_|apply fP|apply gy));exact l9 azn.out (fun _ hk=>⟨(by simp[Value.ownBlock]),⟨hk.1.2,hk.2⟩⟩)⟩,⟨nx⟩,⟨ub mO.out⟩,⟨ub nY.out⟩,⟨bb⟩⟩
  case round=>
   clear H';try clear c1
   try clear c5
   try clear sH
   try clear abk
   try clear rP
   try clear y8
   try clear c20
   try clear q20
   try clear VW
   try clear alR
   try clear q20
   try clear alS
   obtain⟨UE,MB,MC,vN,zG,rfl,HA,jv,yO,kF,mO,nY,HB⟩:=hrel
   cases gk with
   |zero=>exact zz HA.out
   |succ k1=>
    obtain⟨H⟩:=HA;simp only[dN.l0]at H;replace H:=sd H;rcases H with⟨CO,H⟩|⟨CO,H⟩
    ·replace H:=oW H;obtain⟨JO,H⟩:=H;replace H:=oW H;obtain⟨JQ,H⟩:=H;replace H:=bd H;obtain⟨⟨apf,azo,aFN⟩,A24,H⟩:=H
     (try dsimp only at H);replace H:=bd H;obtain⟨⟨Vb,aFO⟩,A25,H⟩:=H
     (try dsimp only at H);have avj:=ak H;clear H;have apg:=zi UE;have aph:=zj UE EU.length;obtain⟨azp,aFP,apj⟩:=kV (iM yO.out).2.2 UE apg aph;cases aFP;replace apg:=eq_true apg;replace aph:=eq_true aph;go_upto_region 11 with(first|(refine gA func61 (strings_Cut.calls (o8 ByteArray.empty EU UE) (⟨#[61]⟩:ByteArray) apf azo aFN _ ?oG A24.out) ?_;(case oG=>first|exact HG.out|exact MaxOk.below HG.out bb|(repeat(first|exact HG.out|apply MaxOk.drewN|apply MaxOk.drew)));intro nd)|(refine gV func100 (eG.calls k1 azo Vb aFO _ A25.out) ?_;rintro azq w27 ⟨ho0,hb⟩;have ahj:=ak (bP ho0 (aj bb));replace yO:=ak (alX (by(with_reducible repeat(first|apply Kd.f_|apply fP|apply gy));exact yO.out) (jf ho0) hb);replace kF:=rb kF hb;replace mO:=kb mO hb;replace nY:=kb nY hb;replace HB:=bz HB hb;clear hb;(try clear ho0)))
     (try simp only[Act.put,jB,jC,l_c]);go_cut [64] (fun v64 wc=>∃(kq:Nat) (aeF:Bool),v64= .bool aeF∧ah (dN.j1 kq avh apf Vb EU (EU.length:Int) UE aeF KG KH vN=some (r1,r2,r3,r4))∧ah (kq≤k1)∧ah (Kd.R Kd.string 9 wc w.heap.size (fun _=>True) azq Vb)∧ah (Kd.V Kd.string 9 wc w.heap.size (fun k_=>some k_≠(azq:Value).ownBlock∧some k_≠(zG:Value).ownBlock∧k_≠Ih∧k_≠zF) (.slice (some azp) EU.length c20) EU)∧ah (Kd.R lg 63 wc w.heap.size (fun _=>True) zG vN)∧ah (wc.heap[Ih]? =some (.cells #[.string MB, .string MC,(.slice none 0 0)] 90 (0,0)))∧ah (wc.heap[zF]? =some (.cells #[.string KG, .string KH,zG] 90 (0,0)))∧ah (Below w.heap.size w wc))
     case first=>
      have H:=avj.out;clear avj;replace H:=sb H;rcases H with⟨rfl,H⟩|⟨rfl,H⟩
      ·replace H:=sb H;rcases H with⟨rfl,H⟩|⟨rfl,H⟩
       ·have H':=ak H;clear H;obtain⟨avk,avl,avm⟩:=bG ahj.out;subst avm;go_wp2;go_meet
        case rel=>exact⟨_,_,rs,H',⟨kl⟩,⟨ur ahj.out⟩,⟨by(with_reducible repeat(first|apply Kd.f_|apply fP|apply gy));exact l9 yO.out (fun _ hk=>⟨hk.2,⟨hk.1.1,⟨hk.1.2.1,hk.1.2.2⟩⟩⟩)⟩,⟨ur kF.out⟩,⟨ub mO.out⟩,⟨ub nY.out⟩,⟨bb⟩⟩
       ·have H':=ak H;clear H;go_wp2;go_meet
        case rel=>exact⟨_,_,rs,H',⟨kl⟩,⟨ur ahj.out⟩,⟨by(with_reducible repeat(first|apply Kd.f_|apply fP|apply gy));exact l9 yO.out (fun _ hk=>⟨hk.2,⟨hk.1.1,⟨hk.1.2.1,hk.1.2.2⟩⟩⟩)⟩,⟨ur kF.out⟩,⟨ub mO.out⟩,⟨ub nY.out⟩,⟨bb⟩⟩
      ·have H':=ak H;clear H;go_wp2;go_meet
       case rel=>exact⟨_,_,rs,H',⟨kl⟩,⟨ur ahj.out⟩,⟨by(with_reducible repeat(first|apply Kd.f_|apply fP|apply gy));exact l9 yO.out (fun _ hk=>⟨hk.2,⟨hk.1.1,⟨hk.1.2.1,hk.1.2.2⟩⟩⟩)⟩,⟨ur kF.out⟩,⟨ub mO.out⟩,⟨ub nY.out⟩,⟨bb⟩⟩
     case rest=>
      clear avj;try clear c1
      try clear c5
      try clear sH
      try clear abk
      try clear rP
      try clear y8
      try clear c20
      try clear q20
      try clear CO
      try clear JO
      try clear JQ
      try clear VW
      try clear apj
      try clear alR
      try clear apg
      try clear q20
      try clear alS
      try clear aph
      obtain⟨kq,aeF,rfl,HA,azr,NJ,yO,kF,mO,nY,HB⟩:=hcut
      cases kq with
      |zero=>exact zz HA.out
      |succ aFQ=>
       obtain⟨H⟩:=HA;simp only[dN.j1]at H;replace H:=sb H;rcases H with⟨rfl,H⟩|⟨rfl,H⟩
       ·obtain⟨rfl,rfl,rfl,rfl⟩:=s4 H;have aIy:=Ee.out;have aIz:=Ef.out;have z33:=iE mO.out;go_wp2;refine bodyPost_ret (lQ rfl _ _ Ih 90 #[.string (⟨#[]⟩:ByteArray), .string (⟨#[]⟩:ByteArray), .slice none 0 0] (0,0) _ rfl bq underlying90 rfl (by kernel_rfl)) rfl ?_;exact⟨_,er,nx,bb⟩
       ·replace H:=bd H;obtain⟨alP,A34,H⟩:=H;replace H:=bd H;obtain⟨aeD,A35,H⟩:=H;replace H:=nn H;obtain⟨c36,H⟩:=H;have asB:=decide_eq_true c36;have ay_:decide (0<Vb.length)=true:=decide_eq_true (by omega);clear c36;replace H:=nl H;obtain⟨azs,H⟩:=H;obtain⟨aFR,asJ⟩:=nm (vN++[(⟨aeD,o8 ByteArray.empty Vb 0⟩:iq)]);rw[←asJ.out]at H;have H':=ak H;clear H;try go_wp2
        replace NJ:=ak (yB NJ.out);replace yO:=ak (gy yO.out);replace kF:=ak (yB kF.out);replace mO:=ak (aC mO.out);replace nY:=ak (aC nY.out);replace HB:=ak (fO HB.out);obtain⟨alY,ajl,apk⟩:=bG NJ.out
        (first|subst apk|(injection apk with sN zx sO;have zy:=sN.symm;have zA:=sO.symm;clear sN zx sO;subst zy;subst zA));have avn:0≤(0:Int):=(by omega)
        have avo:0<(Vb.length:Int):=of_decide_eq_true (by assumption);obtain⟨asK,aFS,VY⟩:=kV (dB NJ.out).2.2 0 avn avo;cases aFS;have aIA:(0<Vb.length)=True:=eq_true (by omega)
        (try rw[show((0:Int)).toNat=0 from rfl]at VY)
        (try rw[Addr.add_zero']at VY);replace avn:=eq_true avn;replace avo:=eq_true avo;refine Js (n:=13) (S:=fun w'=>w'.cell? ⟨zF,0,none⟩=some (.string KG)∧w'.cell? ⟨zF,1,none⟩=some (.string KH)∧w'.cell? ⟨zF,2,none⟩=some (zG)∧w'.cell? asK=some (.string (o8 ByteArray.empty Vb 0))) (ds:=[10,12]) #[false,false,false,false,false,false,false,false,false,false,false,false,false] (by kernel_rfl) rfl rfl ⟨(aG nY.out 0).trans rfl,(aG nY.out 1).trans rfl,(aG nY.out 2).trans rfl,VY⟩ (fun hHeld=>?_);refine AL dN.alQ dN.aeE (fun ug HW_=>?_)
        generalize wc.drew=w38 at NJ yO kF mO nY HB VY hHeld⊢
        refine pl 0 ?_;refine pl 2 ?_;refine pl 5 ?_;refine pl 6 ?_;refine tk 1 ?_;refine tk 7 ?_;refine o1 3 (fun K hK=>?_);refine vG func62 (by kernel_rfl) rfl #[.string apf, .string (⟨#[32]⟩:ByteArray)] (by rfl) rfl rfl ma ?_
        with_reducible refine(kQ.calls apf (⟨#[32]⟩:ByteArray) alP _ A34.out).mono ?_
        rintro e w' ⟨rfl,⟨nd,rfl⟩⟩;refine⟨_,rfl,?_⟩;refine hK.out _ _ ⟨(aG nY.out 0).trans rfl,(aG nY.out 1).trans rfl,(aG nY.out 2).trans rfl,hHeld.2.2.2⟩ (fun hHeld=>?_);clear hK K;refine nrm ?_;refine o1 4 (fun K hK=>?_);refine vG func99 (by kernel_rfl) rfl #[.string alP] (by rfl) rfl rfl ma ?_
        with_reducible refine(iC.calls alP aeD _ A35.out).mono ?_
        rintro e w40 ⟨rfl,hb⟩;have avp:=(hb.cell (World.block_lt_of_cell? _ _ (hHeld.2.2.2))).trans (hHeld.2.2.2);refine⟨_,rfl,?_⟩;replace NJ:=rb NJ hb;replace yO:=vb yO hb;replace kF:=rb kF hb;replace mO:=kb mO hb;replace nY:=kb nY hb;replace HB:=bz HB hb;try clear hb
        refine hK.out _ _ ⟨(aG nY.out 0).trans rfl,(aG nY.out 1).trans rfl,(aG nY.out 2).trans rfl,avp⟩ (fun hHeld=>?_);clear hK K;refine nrm ?_;refine pl 8 ?_;refine o1 9 (fun K hK=>?_);refine S9 (w1:=?_) (v:=?_) (by rfl) rfl ?_ ?_
        rotate_left 2
        ·go_simp;constructor
         ·rfl
         ·rfl
        refine hK.out _ _ ⟨(aG (au nY.out _) 0).trans rfl,(aG (au nY.out _) 1).trans rfl,(aG (au nY.out _) 2).trans rfl,(World.cell?_alloc_lt _ _ _ (World.block_lt_of_cell? _ _ (hHeld.2.2.2))).trans (hHeld.2.2.2)⟩ (fun hHeld=>?_);clear hK K;refine nrm ?_;refine Xi (i:=10) (N:=some 76) #[true,true,true,true,true,true,true,true,true,true,true,false,false] rfl rfl (qM ug.out (by kernel_rfl)) (by decide) (fun K hK=>?_);refine vK lg (w0:=w) w.heap.size (by rfl) (.tmp 67) (.tmp 75) 29 63 (.agg #[(.string ⟨#[]⟩),(.string ⟨#[]⟩)]) 32 rfl underlying29 Aq rfl (by decide) (by omega) zG vN (⟨aeD,o8 ByteArray.empty Vb 0⟩:iq) [.string aeD, .string (o8 ByteArray.empty Vb 0)] (fun _=>True) (fun _=>False) rfl rfl ?aP (fun _ hk=>hk.elim) ?aF ?aO ?aB ?aS ?aL ?_
        (case aP=>exact LV _ _ _ (⟨aeD,o8 ByteArray.empty Vb 0⟩:iq))
        (case aB=>exact bb)
        (case aF=>exact(fun _ _=>trivial))
        (case aO=>exact(ur kF.out))
        (case aS=>exact(aj bb))
        (case aL=>have:=azs.out;omega);intro aK4 w41 ho hb hg hat
        rw[←asJ.out]at ho;have ng:=ak (xq (ur NJ.out) (qA (ur kF.out)) (by decide) hg);have ni:=ak (alZ (ok:=(fun k_=>some k_≠(.slice (some asK) Vb.length ajl:Value).ownBlock∧k_≠Ih∧k_≠zF)) (by(with_reducible repeat(first|apply Kd.f_|apply fP|apply gy));exact l9 yO.out (fun _ hk=>⟨⟨hk.1,⟨hk.2.2.1,hk.2.2.2⟩⟩,hk.2.1⟩)) hg hat);have qx:=ak (eu (g:=Ih) (o:= .cells #[.string MB, .string MC, .slice none 0 0] 90 (0,0)) (ub mO.out) hg (um kF.out mO.out (by decide)));have sV:=ak (eu (g:=zF) (o:= .cells #[.string KG, .string KH,zG] 90 (0,0)) (ub nY.out) hg (um kF.out nY.out (by decide)));have xQ:=ak (hb);have Ht:=ak (ho);clear NJ yO mO nY HB kF;have NJ:=ng;have yO:=ni;have mO:=qx;have nY:=sV;have HB:=xQ;have azt:=Ht;clear ng ni qx sV xQ Ht ho hb hg hat
        obtain⟨aFT,aFU,azu⟩:=bG azt.out
        (first|subst azu|(injection azu with sN zx sO;have zy:=sN.symm;have zA:=sO.symm;clear sN zx sO;subst zy;subst zA));refine hK.out _ _ ?_;clear hK K;refine iT (a':=?_) ?_ ?_
        rotate_left
        ·show Act.put _ (some 76) _=_
         simp only[Act.put,jB,jC,l_c,bJ,b_];rfl
        refine pl 11 ?_;refine Xi (i:=12) (N:=none) #[true,true,true,true,true,true,true,true,true,true,true,true,true] rfl rfl (qM ug.out (by kernel_rfl)) (by decide) (fun K hK=>?_);have aK5:w41.cell? ⟨zF,2,none⟩=some (zG):=(aG nY.out 2).trans rfl;have aIB:=jl nY.out 2;have aC4:=Ee.out;have aC5:=Ef.out;refine Xc (w1:=?_) (by rfl) rfl ?_ ?_
        rotate_left
        ·go_simp;rfl
        refine hK.out _ _ ?_;clear hK K;refine P8 (Jt ug.out (by kernel_rfl)) ?_;try go_wp2
        go_roundg aFQ
        case measure=>have:=jv.out;have:=azr.out;omega
        case rel=>exact⟨_,_,_,_,_,rs,H',⟨by have:=jv.out;have:=azr.out;omega⟩,⟨by(with_reducible repeat(first|apply Kd.f_|apply fP|apply gy));exact l9 (zH (p:=⟨zF,2,none⟩) (l9 yO.out (fun k_ hk=>(⟨hk,hk.1.2.2⟩:_∧k_≠zF))) (fun _ hk=>hk.2) (.slice aFT aFR.length aFU)) (fun _ hk=>⟨hk.1.2,⟨hk.1.1.2.1,hk.1.1.2.2⟩⟩)⟩,⟨rr⟩,⟨bq⟩,⟨bq⟩,⟨bb⟩⟩
    ·replace H:=sb H;rcases H with⟨rfl,H⟩|⟨rfl,H⟩
     ·replace H:=bd H;obtain⟨azh,A45,H⟩:=H;replace H:=sb H;rcases H with⟨rfl,H⟩|⟨rfl,H⟩
      ·obtain⟨rfl,rfl,rfl,rfl⟩:=s4 H;have aIC:=Ef.out;have aID:=Ee.out;have z48:=iE nY.out;obtain⟨aFV,aFW,aFX⟩:=bG kF.out;subst aFX;go_wp2_with (go_at_call 101;refine mB (dY.calls k1 KG KH _ _ vN true _ (cu ((dB kF.out).2.2)) ((dB kF.out).2.1) A45.out) ?_;intro w50 hb;replace yO:=vb yO hb;replace kF:=rb kF hb;replace mO:=kb mO hb;replace nY:=kb nY hb;replace HB:=bz HB hb;clear hb;have z51:=iE nY.out;have z52:=iE mO.out)
       refine bodyPost_ret (lQ rfl _ _ Ih 90 #[.string KG, .string KH, .slice aFV vN.length aFW] (0,0) _ rfl bq underlying90 rfl (by kernel_rfl)) rfl ?_;exact⟨_,er,rr,bb⟩
      ·obtain⟨rfl,rfl,rfl,rfl⟩:=s4 H;have azv:=Ef.out;have azw:=Ee.out;have z54:=iE nY.out;obtain⟨aK6,aK7,aFY⟩:=bG kF.out;subst aFY;go_wp2_with (go_at_call 101;refine mB (dY.calls k1 KG KH _ _ vN false _ (cu ((dB kF.out).2.2)) ((dB kF.out).2.1) A45.out) ?_;intro w56 hb;replace yO:=vb yO hb;replace kF:=rb kF hb;replace mO:=kb mO hb;replace nY:=kb nY hb;replace HB:=bz HB hb;clear hb;have z57:=iE mO.out)
       refine bodyPost_ret (lQ rfl _ _ Ih 90 #[.string (⟨#[]⟩:ByteArray), .string (⟨#[]⟩:ByteArray), .slice none 0 0] (0,0) _ rfl bq underlying90 rfl (by kernel_rfl)) rfl ?_;exact⟨_,er,nx,bb⟩
     ·obtain⟨rfl,rfl,rfl,rfl⟩:=s4 H;have aIE:=Ee.out;have aIF:=Ef.out;have z59:=iE mO.out;go_wp2;refine bodyPost_ret (lQ rfl _ _ Ih 90 #[.string (⟨#[]⟩:ByteArray), .string (⟨#[]⟩:ByteArray), .slice none 0 0] (0,0) _ rfl bq underlying90 rfl (by kernel_rfl)) rfl ?_;exact⟨_,er,nx,bb⟩
 ·obtain⟨rfl,rfl,rfl,rfl⟩:=s4 H;go_enter func65,ntmps65;go_wp2_with (first|(refine gG 2 ?_;refine bX HB 2 #[.string (⟨#[]⟩:ByteArray), .string (⟨#[]⟩:ByteArray), .slice none 0 0] 90 ?_;intro Ih w60 mO azk hb;replace HB:=bs HB hb;clear hb)|(refine gD func75 (bC.calls k a0 false _ A2.out) ?_;intro w60 hb;replace mO:=kb mO hb;replace HB:=bz HB hb;clear hb;have z61:=iE mO.out))
  refine bodyPost_ret (lQ rfl _ _ Ih 90 #[.string (⟨#[]⟩:ByteArray), .string (⟨#[]⟩:ByteArray), .slice none 0 0] (0,0) _ rfl bq underlying90 rfl (by kernel_rfl)) rfl ?_;exact⟨_,er,nx,bb⟩
def o7.f(a0:Int):Option (Bool):=(bT.f a0).bind fun apl=>(if apl=true then(some true)else((dZ.f a0).bind fun al0=>(some al0)))
set_option maxHeartbeats 8000000 in
set_option maxRecDepth 100000 in
theorem o7.calls(a0:Int)(r:Bool)(w:World)(h:o7.f a0=some r):
  Calls Tryz.prog 103 #[.int .u8 a0] w fun e w'=>e= .returned (.bool r)∧fK w w':=by
 have H:((bT.f a0).bind fun apl=>(if apl=true then(some true)else((dZ.f a0).bind fun al0=>(some al0))))=some r:=h;clear h;replace H:=bd H;obtain⟨apl,A2,H⟩:=H;replace H:=sb H;rcases H with⟨rfl,H⟩|⟨rfl,H⟩
 ·obtain rfl:=Option.some.inj H;go_enter func103,ntmps103;go_wp2_with (first|(refine gL 104 4 func104 #[.int .u8 a0] ?_;(with_reducible refine(bT.calls a0 true _ A2.out).mono ?_);rintro e w' ⟨rfl,⟨nd,rfl⟩⟩;refine⟨_,rfl,?_⟩))
  go_ret;exact⟨rs,dn⟩
 ·replace H:=bd H;obtain⟨al0,A4,H⟩:=H;obtain rfl:=Option.some.inj H;go_enter func103,ntmps103;go_wp2_with (first|(refine gL 104 4 func104 #[.int .u8 a0] ?_;(with_reducible refine(bT.calls a0 false _ A2.out).mono ?_);rintro e w' ⟨rfl,⟨nd,rfl⟩⟩;refine⟨_,rfl,?_⟩)|(go_at_call 105;(with_reducible refine(dZ.calls a0 al0 _ A4.out).mono ?_);rintro e w' ⟨rfl,⟨nd,rfl⟩⟩))
  go_ret;exact⟨rs,dn⟩
def dO.l0:Nat→ByteArray→Int→Int→Option (Bool)
 |0,_,_,_=>none
 |k+1,x0,x7,x8=>if x8<x7 then(if 0≤x8 then(if x8<(x0.size:Int)then((o7.f (bt x0 x8)).bind fun azx=>(if azx=true then(dO.l0 k x0 x7 (wrap64 (x8+1)))else(some false)))else(none))else(none))else(some true)
def dO.f(k:Nat)(a0:ByteArray):Option (Bool):=dO.l0 k a0 (a0.size:Int) 0
set_option maxHeartbeats 8000000 in
set_option maxRecDepth 100000 in
theorem dO.calls(k:Nat)(a0:ByteArray)(r:Bool)(w:World)(h:dO.f k a0=some r):
  Calls Tryz.prog 102 #[.string a0, .func (.func 103) #[] #[]] w fun e w'=>e= .returned (.bool r)∧fK w w':=by
 have H:(dO.l0 k a0 (a0.size:Int) 0)=some r:=h;clear h;have H':=ak H;clear H;go_enter func102,ntmps102;go_wp2;go_loopg [8] k (fun kq v8 w'=>∃(jK:Int),v8= .int .i64 jK∧ah (dO.l0 kq a0 (a0.size:Int) jK=some r)∧ah (kq≤k)∧fK w w')
 case atStart=>exact⟨(0),rs,H',⟨Nat.le_refl _⟩,dn⟩
 case round=>
  clear H';try clear c1
  try clear p2
  obtain⟨jK,rfl,HA,jv,⟨m1,rfl⟩⟩:=hrel
  cases gk with
  |zero=>exact absurd HA.out (by simp[dO.l0])
  |succ k1=>
   have H:=HA.out;clear HA;simp only[dO.l0]at H;replace H:=sd H;rcases H with⟨gQ,H⟩|⟨gQ,H⟩
   ·replace H:=oW H;obtain⟨oM,H⟩:=H;replace H:=oW H;obtain⟨sH,H⟩:=H;replace H:=bd H;obtain⟨azx,A7,H⟩:=H;replace H:=sb H;rcases H with⟨rfl,H⟩|⟨rfl,H⟩
    ·have H':=ak H;clear H;obtain⟨p6,q6,hx6⟩:=bx a0 jK;go_wp2_with (first|(go_at_call 103;(with_reducible refine(o7.calls (bt a0 jK) true _ A7.out).mono ?_);rintro e w' ⟨rfl,⟨nd,rfl⟩⟩))
     go_roundg k1
     case measure=>have:=jv.out;omega
     case rel=>exact⟨(wrap64 (jK+1)),rs,H',⟨by have:=jv.out;omega⟩,dn⟩
    ·obtain rfl:=Option.some.inj H;obtain⟨p6,q6,hx6⟩:=bx a0 jK;go_wp2_with (first|(go_at_call 103;(with_reducible refine(o7.calls (bt a0 jK) false _ A7.out).mono ?_);rintro e w' ⟨rfl,⟨nd,rfl⟩⟩))
     go_ret;exact⟨rs,dn⟩
   ·obtain rfl:=Option.some.inj H;go_wp2;go_ret;exact⟨rs,dn⟩
def lq.f(k:Nat)(a0:ByteArray):Option (Bool):=if(a0.size:Int)≥1 then(if(a0.size:Int)≤20 then((dO.f k a0).bind fun al1=>(some al1))else(some false))else(some false)
set_option maxHeartbeats 8000000 in
set_option maxRecDepth 100000 in
theorem lq.calls(k:Nat)(a0:ByteArray)(r:Bool)(w:World)(h:lq.f k a0=some r):
  Calls Tryz.prog 67 #[.string a0] w fun e w'=>e= .returned (.bool r)∧fK w w':=by
 have H:(if(a0.size:Int)≥1 then(if(a0.size:Int)≤20 then((dO.f k a0).bind fun al1=>(some al1))else(some false))else(some false))=some r:=h;clear h;replace H:=sp H;rcases H with⟨c2,H⟩|⟨c2,H⟩
 ·have vw:decide (1≤(a0.size:Int))=true:=decide_eq_true c2;have EC:decide (1≤a0.size)=true:=decide_eq_true (by omega);clear c2;replace H:=sp H;rcases H with⟨c3,H⟩|⟨c3,H⟩
  ·have gQ:=decide_eq_true c3;have rC:decide (a0.size≤20)=true:=decide_eq_true (by omega);clear c3;replace H:=bd H;obtain⟨al1,A4,H⟩:=H;obtain rfl:=Option.some.inj H;go_enter func67,ntmps67;go_wp2_with (first|(go_at_call 102;(with_reducible refine(dO.calls k a0 al1 _ A4.out).mono ?_);rintro e w' ⟨rfl,⟨nd,rfl⟩⟩))
   go_ret;exact⟨rs,dn⟩
  ·have gQ:=decide_eq_false c3;have rC:decide (a0.size≤20)=false:=decide_eq_false (by omega);clear c3;obtain rfl:=Option.some.inj H;go_enter func67,ntmps67;go_wp2;go_ret;exact⟨rs,dn⟩
 ·have vw:decide (1≤(a0.size:Int))=false:=decide_eq_false c2;have EC:decide (1≤a0.size)=false:=decide_eq_false (by omega);clear c2;obtain rfl:=Option.some.inj H;go_enter func67,ntmps67;go_wp2;go_ret;exact⟨rs,dn⟩
def iV.j0:Nat→Bool→ByteArray→ByteArray→List (iq)→Option (ByteArray×Bool)
 |0,_,_,_,_=>none
 |k+1,Zu,aC6,aC7,apm=>if Zu=true then(some ((⟨#[]⟩:ByteArray),false))else((nU.f k apm (⟨#[98,111,117,110,100,97,114,121]⟩:ByteArray)).bind fun asL=>((lq.f k asL.1).bind fun azy=>(if azy=true then(some (asL.1,true))else(some ((⟨#[]⟩:ByteArray),false)))))
def iV.f(k:Nat)(bn:ByteArray)(bI:ByteArray)(aA:List (iq)):Option (ByteArray×Bool):=(dY.f k bn bI aA).bind fun apn=>(if apn=true then(iV.j0 k (bn.toList !=([109,117,108,116,105,112,97,114,116]:List UInt8)) bn bI aA)else(iV.j0 k true bn bI aA))
set_option maxHeartbeats 8000000 in
set_option maxRecDepth 100000 in
theorem iV.calls(k:Nat)(bn:ByteArray)(bI:ByteArray)(bH:Option Addr)(bg:Nat)(aA:List (iq))(r1:ByteArray)(r2:Bool)(w:World)(jg:Kd.C lg w bH aA.length aA)(jh:aA.length≤bg)(h:iV.f k bn bI aA=some (r1,r2)):
  Calls Tryz.prog 66 #[.agg #[.string bn, .string bI, .slice bH aA.length bg]] w fun e w'=>e= .returned (.tuple #[.string r1, .bool r2])∧Below w.heap.size w w':=by
 have acP:=underlying90;have jF:=ak jg;have lV:=ak jh;clear jg jh;have HB:=ak (Below.refl w.heap.size w);have H:((dY.f k bn bI aA).bind fun apn=>(if apn=true then(iV.j0 k (bn.toList !=([109,117,108,116,105,112,97,114,116]:List UInt8)) bn bI aA)else(iV.j0 k true bn bI aA)))=some (r1,r2):=h;clear h;have HC2:=ak H;clear H;go_enter func66,ntmps66;go_upto_region 1 with(first|(refine bE 1 #[.string bn, .string bI, .slice bH aA.length bg] 90 ?_;intro azz hg w3 hbox hb;have CU:=ak (hbox);have aIG:=mJ HB hg;have aIH:=mJ HB hg;replace HB:=bs HB hb;clear hb hbox hg))
 (try simp only[Act.put,jB,jC,l_c]);go_cut [13] (fun v13 wc=>∃(kq:Nat) (wu:Bool),v13= .bool wu∧ah (iV.j0 kq wu bn bI aA=some (r1,r2))∧ah (kq≤k)∧ah (wc.heap[azz]? =some (.cells #[.string bn, .string bI,(.slice bH aA.length bg)] 90 (0,0)))∧ah (Below w.heap.size w wc))
 case first=>
  have H:=HC2.out;clear HC2;replace H:=bd H;obtain⟨apn,A4,H⟩:=H;replace H:=sb H;rcases H with⟨rfl,H⟩|⟨rfl,H⟩
  ·have H':=ak H;clear H;obtain⟨aaF,aaG,aes,aaH,aaI,aeu⟩:=iE CU.out;go_wp2_with (first|(refine gL 101 7 func101 #[.agg #[.string bn, .string bI, .slice bH aA.length bg]] ?_;(with_reducible refine(dY.calls k bn bI _ _ aA true _ (cu (aK jF.out HB.out)) lV.out A4.out).mono ?_);rintro e w7 ⟨rfl,hb⟩;refine⟨_,rfl,?_⟩;replace CU:=kb CU hb;replace HB:=ak (aI bb hb);(try clear hb);obtain⟨Jb,KC,TF,Jc,KD,TG⟩:=iE CU.out))
   go_meet
   case rel=>exact⟨_,((bn.toList !=([109,117,108,116,105,112,97,114,116]:List UInt8))),rs,H',⟨YT⟩,⟨ub CU.out⟩,⟨bb⟩⟩
  ·have H':=ak H;clear H;obtain⟨I7,I8,avq,I9,I_,avr⟩:=iE CU.out;go_wp2_with (first|(refine gL 101 7 func101 #[.agg #[.string bn, .string bI, .slice bH aA.length bg]] ?_;(with_reducible refine(dY.calls k bn bI _ _ aA false _ (cu (aK jF.out HB.out)) lV.out A4.out).mono ?_);rintro e w10 ⟨rfl,hb⟩;refine⟨_,rfl,?_⟩;replace CU:=kb CU hb;replace HB:=ak (aI bb hb);(try clear hb)))
   go_meet
   case rel=>exact⟨_,(true),rs,H',⟨YT⟩,⟨ub CU.out⟩,⟨bb⟩⟩
 case rest=>
  clear HC2;try clear c1
  try clear p2
  try clear c5
  try clear c6
  try clear c10
  try clear aaF
  try clear aaG
  try clear aes
  try clear Jb
  try clear KC
  try clear TF
  try clear I7
  try clear I8
  try clear avq
  try clear aaH
  try clear aaI
  try clear aeu
  try clear Jc
  try clear KD
  try clear TG
  try clear I9
  try clear I_
  try clear avr
  obtain⟨kq,wu,rfl,HA,FY,CU,HB⟩:=hcut
  cases kq with
  |zero=>exact absurd HA.out (by simp[iV.j0])
  |succ Mc=>
   have H:=HA.out;clear HA;simp only[iV.j0]at H;replace H:=sb H;rcases H with⟨rfl,H⟩|⟨rfl,H⟩
   ·simp only[Option.some.injEq,Prod.mk.injEq]at H;obtain⟨rfl,rfl⟩:=H;go_wp2;go_ret2;exact⟨er,bb⟩
   ·replace H:=bd H;obtain⟨⟨ajm,azA⟩,A12,H⟩:=H
    (try dsimp only at H);replace H:=bd H;obtain⟨azy,A13,H⟩:=H;replace H:=sb H;rcases H with⟨rfl,H⟩|⟨rfl,H⟩
    ·simp only[Option.some.injEq,Prod.mk.injEq]at H;obtain⟨rfl,rfl⟩:=H;obtain⟨Bd,Bf,VD,Bg,Bh,VE⟩:=iE CU.out;go_wp2_with (first|(refine gL 64 17 func64 #[.slice bH aA.length bg, .string (⟨#[98,111,117,110,100,97,114,121]⟩:ByteArray)] ?_;(with_reducible refine(nU.calls Mc _ _ aA (⟨#[98,111,117,110,100,97,114,121]⟩:ByteArray) ajm azA _ (cu (aK jF.out HB.out)) lV.out A12.out).mono ?_);rintro e w16 ⟨rfl,hb⟩;refine⟨_,rfl,?_⟩;replace CU:=kb CU hb;replace HB:=ak (aI bb hb);(try clear hb))|(refine gL 67 21 func67 #[.string ajm] ?_;(with_reducible refine(lq.calls Mc ajm true _ A13.out).mono ?_);rintro e w' ⟨rfl,⟨nd,rfl⟩⟩;refine⟨_,rfl,?_⟩))
     go_ret2;exact⟨er,bb⟩
    ·simp only[Option.some.injEq,Prod.mk.injEq]at H;obtain⟨rfl,rfl⟩:=H;obtain⟨aoG,aoH,aoI,aoJ,aoK,aoL⟩:=iE CU.out;go_wp2_with (first|(refine gL 64 17 func64 #[.slice bH aA.length bg, .string (⟨#[98,111,117,110,100,97,114,121]⟩:ByteArray)] ?_;(with_reducible refine(nU.calls Mc _ _ aA (⟨#[98,111,117,110,100,97,114,121]⟩:ByteArray) ajm azA _ (cu (aK jF.out HB.out)) lV.out A12.out).mono ?_);rintro e w18 ⟨rfl,hb⟩;refine⟨_,rfl,?_⟩;replace CU:=kb CU hb;replace HB:=ak (aI bb hb);(try clear hb))|(refine gL 67 21 func67 #[.string ajm] ?_;(with_reducible refine(lq.calls Mc ajm false _ A13.out).mono ?_);rintro e w' ⟨rfl,⟨nd,rfl⟩⟩;refine⟨_,rfl,?_⟩))
     go_ret2;exact⟨er,bb⟩
def mQ.f(k:Nat)(aN:List (iq))(aQ:List ByteArray)(aA:List (jm)):Option (ByteArray×Bool):=(nU.f k aN (⟨#[67,111,110,116,101,110,116,45,84,121,112,101]⟩:ByteArray)).bind fun al2=>((dN.f k al2.1).bind fun Qj=>(if Qj.2.2.2=true then((iV.f k Qj.1 Qj.2.1 Qj.2.2.1).bind fun ac6=>(some (ac6.1,ac6.2)))else(some ((⟨#[]⟩:ByteArray),false))))
set_option maxHeartbeats 8000000 in
set_option maxRecDepth 100000 in
theorem mQ.calls(k:Nat)(cO:Option Addr)(cZ:Nat)(aN:List (iq))(dh:Option Addr)(dw:Nat)(aQ:List ByteArray)(bH:Option Addr)(bg:Nat)(aA:List (jm))(r1:ByteArray)(r2:Bool)(w:World)(ku:Kd.C lg w cO aN.length aN)(kC:aN.length≤cZ)(kD:Kd.C Kd.string w dh aQ.length aQ)(kE:aQ.length≤dw)(jg:Kd.C k32 w bH aA.length aA)(jh:aA.length≤bg)(wI:MaxOk w)(h:mQ.f k aN aQ aA=some (r1,r2)):
  Calls Tryz.prog 51 #[.agg #[.slice cO aN.length cZ, .slice dh aQ.length dw, .slice bH aA.length bg]] w fun e w'=>e= .returned (.tuple #[.string r1, .bool r2])∧Below w.heap.size w w':=by
 have IQ:=underlying32;have acP:=underlying90;have lU:=ak ku;have mX:=ak kC;clear ku kC;have oN:=ak kD;have qB:=ak kE;clear kD kE;have jF:=ak jg;have lV:=ak jh;clear jg jh;have HG:=ak wI;clear wI;have HB:=ak (Below.refl w.heap.size w);have H:((nU.f k aN (⟨#[67,111,110,116,101,110,116,45,84,121,112,101]⟩:ByteArray)).bind fun al2=>((dN.f k al2.1).bind fun Qj=>(if Qj.2.2.2=true then((iV.f k Qj.1 Qj.2.1 Qj.2.2.1).bind fun ac6=>(some (ac6.1,ac6.2)))else(some ((⟨#[]⟩:ByteArray),false)))))=some (r1,r2):=h;clear h;replace H:=bd H;obtain⟨⟨ajn,azB⟩,A2,H⟩:=H
 (try dsimp only at H);replace H:=bd H;obtain⟨⟨abl,ac7,ac8,aK8⟩,A3,H⟩:=H
 (try dsimp only at H);replace H:=sb H;rcases H with⟨rfl,H⟩|⟨rfl,H⟩
 ·replace H:=bd H;obtain⟨⟨aFZ,aF0⟩,A5,H⟩:=H
  (try dsimp only at H);simp only[Option.some.injEq,Prod.mk.injEq]at H;obtain⟨rfl,rfl⟩:=H;go_enter func51,ntmps51;go_wp2_with (first|(refine bE 1 #[.slice cO aN.length cZ, .slice dh aQ.length dw, .slice bH aA.length bg] 32 ?_;intro ZE hg w6 hbox hb;have xX:=ak (hbox);have azC:=mJ HB hg;have azD:=mJ HB hg;replace HB:=bs HB hb;clear hb hbox hg;obtain⟨akm,auq,aF1,akn,aur,aF2⟩:=iE xX.out)|(refine gL 64 11 func64 #[.slice cO aN.length cZ, .string (⟨#[67,111,110,116,101,110,116,45,84,121,112,101]⟩:ByteArray)] ?_;(with_reducible refine(nU.calls k _ _ aN (⟨#[67,111,110,116,101,110,116,45,84,121,112,101]⟩:ByteArray) ajn azB _ (cu (aK lU.out HB.out)) mX.out A2.out).mono ?_);rintro e w8 ⟨rfl,hb⟩;refine⟨_,rfl,?_⟩;replace xX:=kb xX hb;replace HB:=ak (aI bb hb);(try clear hb))|(refine gL 65 16 func65 #[.string ajn] ?_;(with_reducible refine(dN.calls k ajn abl ac7 ac8 true _ ?oG A3.out).mono ?_);(case oG=>first|exact HG.out|exact MaxOk.below HG.out bb|(repeat(first|exact HG.out|apply MaxOk.drewN|apply MaxOk.drew)));rintro e w9 ⟨aF3,rfl,ho0,hb⟩;refine⟨_,rfl,?_⟩;have KI:=ak (bP ho0 (aj bb));replace xX:=kb xX hb;replace HB:=ak (aI bb hb);(try clear hb);(try clear ho0))|(refine bE 6 #[.string (⟨#[]⟩:ByteArray), .string (⟨#[]⟩:ByteArray), .slice none 0 0] 90 ?_;intro CV hg w10 hbox hb;have Xp:=ak (hbox);have azE:=ak ((by rw[hg];exact(aj bb):w.heap.size≤CV));have azF:=ak ((by rw[hg];exact(aj bb):w.heap.size≤CV));have Eh:=ak ((by rw[hg];exact Nat.ne_of_lt (dI (ub xX.out)):ZE≠CV));have TI:=ak ((by rw[hg];exact Nat.ne_of_gt (dI (ub xX.out)):CV≠ZE));replace KI:=rb KI hb;replace xX:=kb xX hb;replace HB:=ak (aI bb hb);clear hb hbox hg;have azG:=TI.out;have azH:=Eh.out;obtain⟨abm,ahk,ahl,abn,ahm,ahn⟩:=iE Xp.out;obtain⟨xR,uO,YP⟩:=bG KI.out;subst YP)|(refine gL 66 22 func66 #[.agg #[.string abl, .string ac7, .slice xR ac8.length uO]] ?_;(with_reducible refine(iV.calls k abl ac7 _ _ ac8 aFZ aF0 _ ?oG ?qU A5.out).mono ?_);(case oG=>refine(dB (e:=63) (base:=w.heap.size) (ok:=fun k_=>True) (n:=ac8.length) (c:=uO) ?_).2.2;exact(ur (aY (bK (p:=⟨CV,2,none⟩) (bK (p:=⟨CV,1,none⟩) (bK (p:=⟨CV,0,none⟩) (eP KI.out Xp.out (by decide)) (fun _ hk=>hk.2) (.string abl)) (fun _ hk=>hk.2) (.string ac7)) (fun _ hk=>hk.2) (.slice xR ac8.length uO)) (fun _ h_=>h_.1))));(case qU=>exact(dB KI.out).2.1);rintro e Ut ⟨rfl,hb⟩;refine⟨_,rfl,?_⟩;replace KI:=ak (lZ (ur (aY (bK (p:=⟨CV,2,none⟩) (bK (p:=⟨CV,1,none⟩) (bK (p:=⟨CV,0,none⟩) (eP KI.out Xp.out (by decide)) (fun _ hk=>hk.2) (.string abl)) (fun _ hk=>hk.2) (.string ac7)) (fun _ hk=>hk.2) (.slice xR ac8.length uO)) (fun _ h_=>h_.1))) hb);replace xX:=ak (jy (g:=ZE) (o:= .cells #[.slice cO aN.length cZ, .slice dh aQ.length dw, .slice bH aA.length bg] 32 (0,0)) (by(with_reducible repeat(first|refine ay ?_ _|refine aC ?_|refine au ?_ _));refine fJ ?_ Eh.out _;(with_reducible repeat(first|refine ay ?_ _|refine aC ?_|refine au ?_ _));refine fJ ?_ Eh.out _;(with_reducible repeat(first|refine ay ?_ _|refine aC ?_|refine au ?_ _));refine fJ ?_ Eh.out _;(with_reducible repeat(first|refine ay ?_ _|refine aC ?_|refine au ?_ _));exact xX.out) hb);replace Xp:=ak (jy (g:=CV) (o:= .cells #[.string abl, .string ac7, .slice xR ac8.length uO] 90 (0,0)) (by(with_reducible repeat(first|refine ay ?_ _|refine aC ?_|refine au ?_ _));refine bU (cs:=#[.string abl, .string ac7, .slice none 0 0]) ?_ 2 _ rfl;(with_reducible repeat(first|refine ay ?_ _|refine aC ?_|refine au ?_ _));refine bU (cs:=#[.string abl, .string (⟨#[]⟩:ByteArray), .slice none 0 0]) ?_ 1 _ rfl;(with_reducible repeat(first|refine ay ?_ _|refine aC ?_|refine au ?_ _));refine bU (cs:=#[.string (⟨#[]⟩:ByteArray), .string (⟨#[]⟩:ByteArray), .slice none 0 0]) ?_ 0 _ rfl;(with_reducible repeat(first|refine ay ?_ _|refine aC ?_|refine au ?_ _));exact Xp.out) hb);replace HB:=ak (aI bb hb);(try clear hb)))
  go_ret2;exact⟨er,bb⟩
 ·simp only[Option.some.injEq,Prod.mk.injEq]at H;obtain⟨rfl,rfl⟩:=H;go_enter func51,ntmps51;go_wp2_with (first|(refine bE 1 #[.slice cO aN.length cZ, .slice dh aQ.length dw, .slice bH aA.length bg] 32 ?_;intro ZE hg YU hbox hb;have xX:=ak (hbox);have azC:=mJ HB hg;have azD:=mJ HB hg;replace HB:=bs HB hb;clear hb hbox hg;obtain⟨OY,OZ,Vw,O1,O4,Vx⟩:=iE xX.out)|(refine gL 64 11 func64 #[.slice cO aN.length cZ, .string (⟨#[67,111,110,116,101,110,116,45,84,121,112,101]⟩:ByteArray)] ?_;(with_reducible refine(nU.calls k _ _ aN (⟨#[67,111,110,116,101,110,116,45,84,121,112,101]⟩:ByteArray) ajn azB _ (cu (aK lU.out HB.out)) mX.out A2.out).mono ?_);rintro e w17 ⟨rfl,hb⟩;refine⟨_,rfl,?_⟩;replace xX:=kb xX hb;replace HB:=ak (aI bb hb);(try clear hb))|(refine gL 65 16 func65 #[.string ajn] ?_;(with_reducible refine(dN.calls k ajn abl ac7 ac8 false _ ?oG A3.out).mono ?_);(case oG=>first|exact HG.out|exact MaxOk.below HG.out bb|(repeat(first|exact HG.out|apply MaxOk.drewN|apply MaxOk.drew)));rintro e w18 ⟨aF3,rfl,ho0,hb⟩;refine⟨_,rfl,?_⟩;have KI:=ak (bP ho0 (aj bb));replace xX:=kb xX hb;replace HB:=ak (aI bb hb);(try clear hb);(try clear ho0))|(refine bE 6 #[.string (⟨#[]⟩:ByteArray), .string (⟨#[]⟩:ByteArray), .slice none 0 0] 90 ?_;intro CV hg w19 hbox hb;have Xp:=ak (hbox);have azE:=ak ((by rw[hg];exact(aj bb):w.heap.size≤CV));have azF:=ak ((by rw[hg];exact(aj bb):w.heap.size≤CV));have Eh:=ak ((by rw[hg];exact Nat.ne_of_lt (dI (ub xX.out)):ZE≠CV));have TI:=ak ((by rw[hg];exact Nat.ne_of_gt (dI (ub xX.out)):CV≠ZE));replace KI:=rb KI hb;replace xX:=kb xX hb;replace HB:=ak (aI bb hb);clear hb hbox hg;have azI:=TI.out;have azJ:=Eh.out;obtain⟨apo,apq,apr,aps,apt,apu⟩:=iE Xp.out;obtain⟨aK9,aK_,aF4⟩:=bG KI.out;subst aF4))
  go_ret2;exact⟨er,bb⟩
def qN.f(k:Nat)(bn:ByteArray)(bI:ByteArray):Option (Bool):=(jM.f k bn).bind fun apv=>(if apv=true then((bC.f k bI).bind fun apw=>(if apw=true then(if(bI.size:Int)≤150 then((kQ.f bI (⟨#[32]⟩:ByteArray)).bind fun aeG=>(some (aeG.toList==bI.toList)))else(some false))else(some false)))else(some false))
set_option maxHeartbeats 8000000 in
set_option maxRecDepth 100000 in
theorem qN.calls(k:Nat)(bn:ByteArray)(bI:ByteArray)(r:Bool)(w:World)(h:qN.f k bn bI=some r):
  Calls Tryz.prog 96 #[.agg #[.string bn, .string bI]] w fun e w'=>e= .returned (.bool r)∧Below w.heap.size w w':=by
 have I5:=underlying63;have HB:=ak (Below.refl w.heap.size w);have H:((jM.f k bn).bind fun apv=>(if apv=true then((bC.f k bI).bind fun apw=>(if apw=true then(if(bI.size:Int)≤150 then((kQ.f bI (⟨#[32]⟩:ByteArray)).bind fun aeG=>(some (aeG.toList==bI.toList)))else(some false))else(some false)))else(some false)))=some r:=h;clear h;replace H:=bd H;obtain⟨apv,A2,H⟩:=H;replace H:=sb H;rcases H with⟨rfl,H⟩|⟨rfl,H⟩
 ·replace H:=bd H;obtain⟨apw,A4,H⟩:=H;replace H:=sb H;rcases H with⟨rfl,H⟩|⟨rfl,H⟩
  ·replace H:=sp H;rcases H with⟨c6,H⟩|⟨c6,H⟩
   ·have oC:=decide_eq_true c6;have AB:decide (bI.size≤150)=true:=decide_eq_true (by omega);clear c6;replace H:=bd H;obtain⟨aeG,A7,H⟩:=H;obtain rfl:=Option.some.inj H;go_enter func96,ntmps96;go_wp2_with (first|(refine fZ (N:=1) rfl ?_;(try(refine dW (by rfl) ?_;dsimp only));refine bE 1 #[.string bn, .string bI] 63 ?_;intro KJ hg w8 hbox hb;have wR:=ak (hbox);have KL:=mJ HB hg;have KN:=mJ HB hg;replace HB:=bs HB hb;clear hb hbox hg;obtain⟨I7,I8,I9,I_⟩:=AA wR.out)|(go_at_call 126;(with_reducible refine(jM.calls k bn true _ A2.out).mono ?_);rintro e w' ⟨rfl,⟨nd,rfl⟩⟩;(try exact dq))|(go_at_call 75;(with_reducible refine(bC.calls k bI true _ A4.out).mono ?_);rintro e w' ⟨rfl,⟨nd,rfl⟩⟩;(try exact dq))|(go_at_call 62;(with_reducible refine(kQ.calls bI (⟨#[32]⟩:ByteArray) aeG _ A7.out).mono ?_);rintro e w' ⟨rfl,⟨nd,rfl⟩⟩;(try exact dq)))
    repeat(go_quiet (first|(refine fZ (N:=1) rfl ?_;(try(refine dW (by rfl) ?_;dsimp only));refine bE 1 #[.string bn, .string bI] 63 ?_;intro KJ hg w8 hbox hb;have wR:=ak (hbox);have KL:=mJ HB hg;have KN:=mJ HB hg;replace HB:=bs HB hb;clear hb hbox hg;obtain⟨I7,I8,I9,I_⟩:=AA wR.out)|(go_at_call 126;(with_reducible refine(jM.calls k bn true _ A2.out).mono ?_);rintro e w' ⟨rfl,⟨nd,rfl⟩⟩;(try exact dq))|(go_at_call 75;(with_reducible refine(bC.calls k bI true _ A4.out).mono ?_);rintro e w' ⟨rfl,⟨nd,rfl⟩⟩;(try exact dq))|(go_at_call 62;(with_reducible refine(kQ.calls bI (⟨#[32]⟩:ByteArray) aeG _ A7.out).mono ?_);rintro e w' ⟨rfl,⟨nd,rfl⟩⟩;(try exact dq)));try go_wp2_with (first|(refine fZ (N:=1) rfl ?_;(try(refine dW (by rfl) ?_;dsimp only));refine bE 1 #[.string bn, .string bI] 63 ?_;intro KJ hg w8 hbox hb;have wR:=ak (hbox);have KL:=mJ HB hg;have KN:=mJ HB hg;replace HB:=bs HB hb;clear hb hbox hg;obtain⟨I7,I8,I9,I_⟩:=AA wR.out)|(go_at_call 126;(with_reducible refine(jM.calls k bn true _ A2.out).mono ?_);rintro e w' ⟨rfl,⟨nd,rfl⟩⟩;(try exact dq))|(go_at_call 75;(with_reducible refine(bC.calls k bI true _ A4.out).mono ?_);rintro e w' ⟨rfl,⟨nd,rfl⟩⟩;(try exact dq))|(go_at_call 62;(with_reducible refine(kQ.calls bI (⟨#[32]⟩:ByteArray) aeG _ A7.out).mono ?_);rintro e w' ⟨rfl,⟨nd,rfl⟩⟩;(try exact dq))))
    go_ret;exact⟨er,bb⟩
   ·have oC:=decide_eq_false c6;have AB:decide (bI.size≤150)=false:=decide_eq_false (by omega);clear c6;obtain rfl:=Option.some.inj H;go_enter func96,ntmps96;go_wp2_with (first|(refine fZ (N:=1) rfl ?_;(try(refine dW (by rfl) ?_;dsimp only));refine bE 1 #[.string bn, .string bI] 63 ?_;intro KJ hg w10 hbox hb;have wR:=ak (hbox);have KL:=mJ HB hg;have KN:=mJ HB hg;replace HB:=bs HB hb;clear hb hbox hg;obtain⟨Jd,Je,Jf,Jg⟩:=AA wR.out)|(go_at_call 126;(with_reducible refine(jM.calls k bn true _ A2.out).mono ?_);rintro e w' ⟨rfl,⟨nd,rfl⟩⟩;(try exact dq))|(go_at_call 75;(with_reducible refine(bC.calls k bI true _ A4.out).mono ?_);rintro e w' ⟨rfl,⟨nd,rfl⟩⟩;(try exact dq)))
    repeat(go_quiet (first|(refine fZ (N:=1) rfl ?_;(try(refine dW (by rfl) ?_;dsimp only));refine bE 1 #[.string bn, .string bI] 63 ?_;intro KJ hg w10 hbox hb;have wR:=ak (hbox);have KL:=mJ HB hg;have KN:=mJ HB hg;replace HB:=bs HB hb;clear hb hbox hg;obtain⟨Jd,Je,Jf,Jg⟩:=AA wR.out)|(go_at_call 126;(with_reducible refine(jM.calls k bn true _ A2.out).mono ?_);rintro e w' ⟨rfl,⟨nd,rfl⟩⟩;(try exact dq))|(go_at_call 75;(with_reducible refine(bC.calls k bI true _ A4.out).mono ?_);rintro e w' ⟨rfl,⟨nd,rfl⟩⟩;(try exact dq)));try go_wp2_with (first|(refine fZ (N:=1) rfl ?_;(try(refine dW (by rfl) ?_;dsimp only));refine bE 1 #[.string bn, .string bI] 63 ?_;intro KJ hg w10 hbox hb;have wR:=ak (hbox);have KL:=mJ HB hg;have KN:=mJ HB hg;replace HB:=bs HB hb;clear hb hbox hg;obtain⟨Jd,Je,Jf,Jg⟩:=AA wR.out)|(go_at_call 126;(with_reducible refine(jM.calls k bn true _ A2.out).mono ?_);rintro e w' ⟨rfl,⟨nd,rfl⟩⟩;(try exact dq))|(go_at_call 75;(with_reducible refine(bC.calls k bI true _ A4.out).mono ?_);rintro e w' ⟨rfl,⟨nd,rfl⟩⟩;(try exact dq))))
    go_ret;exact⟨er,bb⟩
  ·obtain rfl:=Option.some.inj H;go_enter func96,ntmps96;go_wp2_with (first|(refine fZ (N:=1) rfl ?_;(try(refine dW (by rfl) ?_;dsimp only));refine bE 1 #[.string bn, .string bI] 63 ?_;intro KJ hg w12 hbox hb;have wR:=ak (hbox);have KL:=mJ HB hg;have KN:=mJ HB hg;replace HB:=bs HB hb;clear hb hbox hg;obtain⟨yS,yT,yU,yV⟩:=AA wR.out)|(go_at_call 126;(with_reducible refine(jM.calls k bn true _ A2.out).mono ?_);rintro e w' ⟨rfl,⟨nd,rfl⟩⟩;(try exact dq))|(go_at_call 75;(with_reducible refine(bC.calls k bI false _ A4.out).mono ?_);rintro e w' ⟨rfl,⟨nd,rfl⟩⟩;(try exact dq)))
   repeat(go_quiet (first|(refine fZ (N:=1) rfl ?_;(try(refine dW (by rfl) ?_;dsimp only));refine bE 1 #[.string bn, .string bI] 63 ?_;intro KJ hg w12 hbox hb;have wR:=ak (hbox);have KL:=mJ HB hg;have KN:=mJ HB hg;replace HB:=bs HB hb;clear hb hbox hg;obtain⟨yS,yT,yU,yV⟩:=AA wR.out)|(go_at_call 126;(with_reducible refine(jM.calls k bn true _ A2.out).mono ?_);rintro e w' ⟨rfl,⟨nd,rfl⟩⟩;(try exact dq))|(go_at_call 75;(with_reducible refine(bC.calls k bI false _ A4.out).mono ?_);rintro e w' ⟨rfl,⟨nd,rfl⟩⟩;(try exact dq)));try go_wp2_with (first|(refine fZ (N:=1) rfl ?_;(try(refine dW (by rfl) ?_;dsimp only));refine bE 1 #[.string bn, .string bI] 63 ?_;intro KJ hg w12 hbox hb;have wR:=ak (hbox);have KL:=mJ HB hg;have KN:=mJ HB hg;replace HB:=bs HB hb;clear hb hbox hg;obtain⟨yS,yT,yU,yV⟩:=AA wR.out)|(go_at_call 126;(with_reducible refine(jM.calls k bn true _ A2.out).mono ?_);rintro e w' ⟨rfl,⟨nd,rfl⟩⟩;(try exact dq))|(go_at_call 75;(with_reducible refine(bC.calls k bI false _ A4.out).mono ?_);rintro e w' ⟨rfl,⟨nd,rfl⟩⟩;(try exact dq))))
   go_ret;exact⟨er,bb⟩
 ·obtain rfl:=Option.some.inj H;go_enter func96,ntmps96;go_wp2_with (first|(refine fZ (N:=1) rfl ?_;(try(refine dW (by rfl) ?_;dsimp only));refine bE 1 #[.string bn, .string bI] 63 ?_;intro KJ hg Ut hbox hb;have wR:=ak (hbox);have KL:=mJ HB hg;have KN:=mJ HB hg;replace HB:=bs HB hb;clear hb hbox hg;obtain⟨Bd,Bf,Bg,Bh⟩:=AA wR.out)|(go_at_call 126;(with_reducible refine(jM.calls k bn false _ A2.out).mono ?_);rintro e w' ⟨rfl,⟨nd,rfl⟩⟩;(try exact dq)))
  repeat(go_quiet (first|(refine fZ (N:=1) rfl ?_;(try(refine dW (by rfl) ?_;dsimp only));refine bE 1 #[.string bn, .string bI] 63 ?_;intro KJ hg Ut hbox hb;have wR:=ak (hbox);have KL:=mJ HB hg;have KN:=mJ HB hg;replace HB:=bs HB hb;clear hb hbox hg;obtain⟨Bd,Bf,Bg,Bh⟩:=AA wR.out)|(go_at_call 126;(with_reducible refine(jM.calls k bn false _ A2.out).mono ?_);rintro e w' ⟨rfl,⟨nd,rfl⟩⟩;(try exact dq)));try go_wp2_with (first|(refine fZ (N:=1) rfl ?_;(try(refine dW (by rfl) ?_;dsimp only));refine bE 1 #[.string bn, .string bI] 63 ?_;intro KJ hg Ut hbox hb;have wR:=ak (hbox);have KL:=mJ HB hg;have KN:=mJ HB hg;replace HB:=bs HB hb;clear hb hbox hg;obtain⟨Bd,Bf,Bg,Bh⟩:=AA wR.out)|(go_at_call 126;(with_reducible refine(jM.calls k bn false _ A2.out).mono ?_);rintro e w' ⟨rfl,⟨nd,rfl⟩⟩;(try exact dq))))
  go_ret;exact⟨er,bb⟩
def pO.f(k:Nat)(bn:ByteArray)(bI:ByteArray):Option (Bool):=(qN.f k bn bI).bind fun al3=>(some (!al3))
set_option maxHeartbeats 8000000 in
set_option maxRecDepth 100000 in
theorem pO.calls(k:Nat)(bn:ByteArray)(bI:ByteArray)(r:Bool)(w:World)(h:pO.f k bn bI=some r):
  Calls Tryz.prog 95 #[.agg #[.string bn, .string bI]] w fun e w'=>e= .returned (.bool r)∧Below w.heap.size w w':=by
 have I5:=underlying63;have HB:=ak (Below.refl w.heap.size w);have H:((qN.f k bn bI).bind fun al3=>(some (!al3)))=some r:=h;clear h;replace H:=bd H;obtain⟨al3,A2,H⟩:=H;obtain rfl:=Option.some.inj H;go_enter func95,ntmps95;go_wp2_with (first|(refine bE 1 #[.string bn, .string bI] 63 ?_;intro aII hg w3 hbox hb;have al4:=ak (hbox);have aIJ:=mJ HB hg;have aIK:=mJ HB hg;replace HB:=bs HB hb;clear hb hbox hg;obtain⟨aey,alf,aez,alg⟩:=AA al4.out)|(refine gL 96 4 func96 #[.agg #[.string bn, .string bI]] ?_;(with_reducible refine(qN.calls k bn bI al3 _ A2.out).mono ?_);rintro e w5 ⟨rfl,hb⟩;refine⟨_,rfl,?_⟩;replace al4:=kb al4 hb;replace HB:=ak (aI bb hb);(try clear hb)))
 go_ret;exact⟨er,bb⟩
def dG.l0:Nat→List (iq)→Int→Int→Option (Int)
 |0,_,_,_=>none
 |k+1,x0,x7,x8=>if x8<x7 then(if 0≤x8 then(if x8<(x0.length:Int)then((pO.f k ((aT x0 x8).f0) ((aT x0 x8).f1)).bind fun azK=>(if azK=true then(some x8)else(dG.l0 k x0 x7 (wrap64 (x8+1)))))else(none))else(none))else(some (-1))
def dG.f(k:Nat)(l0:List (iq)):Option (Int):=dG.l0 k l0 (l0.length:Int) 0
set_option maxHeartbeats 8000000 in
set_option maxRecDepth 100000 in
theorem dG.calls(k:Nat)(A0:Option Addr)(c0:Nat)(l0:List (iq))(r:Int)(w:World)(hr0:Kd.C lg w A0 l0.length l0)(hc0:l0.length≤c0)(h:dG.f k l0=some r):
  Calls Tryz.prog 125 #[.slice A0 l0.length c0, .func (.func 95) #[] #[]] w fun e w'=>e= .returned (.int .i64 r)∧Below w.heap.size w w':=by
 have I5:=underlying63;have HR0:=ak hr0;have yx:=ak hc0;clear hr0 hc0;have HB:=ak (Below.refl w.heap.size w);have H:(dG.l0 k l0 (l0.length:Int) 0)=some r:=h;clear h;have H':=ak H;clear H;go_enter func125,ntmps125;go_wp2;go_loopg [8] k (fun kq v8 w'=>∃(jK:Int),v8= .int .i64 jK∧ah (dG.l0 kq l0 (l0.length:Int) jK=some r)∧ah (kq≤k)∧ah (Below w.heap.size w w'))
 case atStart=>exact⟨(0),rs,H',⟨Nat.le_refl _⟩,⟨ul HB.out⟩⟩
 case round=>
  clear H';try clear c1
  try clear p2
  obtain⟨jK,rfl,HA,jv,HB⟩:=hrel
  cases gk with
  |zero=>exact absurd HA.out (by simp[dG.l0])
  |succ k1=>
   have H:=HA.out;clear HA;simp only[dG.l0]at H;replace H:=sd H;rcases H with⟨gQ,H⟩|⟨gQ,H⟩
   ·replace H:=oW H;obtain⟨oM,H⟩:=H;replace H:=oW H;obtain⟨sH,H⟩:=H;replace H:=bd H;obtain⟨azK,A6,H⟩:=H;replace H:=sb H;rcases H with⟨rfl,H⟩|⟨rfl,H⟩
    ·obtain rfl:=Option.some.inj H;have aeH:=zi jK;have aeI:=zj jK l0.length;obtain⟨azL,avs,Qk,Ql⟩:=ou HR0.out jK aeH aeI;cases avs;replace Qk:=cl HB.out Qk;replace Ql:=cl HB.out Ql;replace aeH:=eq_true aeH;replace aeI:=eq_true aeI;go_wp2_with (first|(go_at_call 95;(with_reducible refine(pO.calls k1 ((aT l0 jK).f0) ((aT l0 jK).f1) true _ A6.out).mono ?_);rintro e w8 ⟨rfl,hb⟩;replace HB:=bs HB hb;(try clear hb)))
     go_ret;exact⟨er,ul HB.out⟩
    ·have H':=ak H;clear H;have aeH:=zi jK;have aeI:=zj jK l0.length;obtain⟨azL,avs,Qk,Ql⟩:=ou HR0.out jK aeH aeI;cases avs;replace Qk:=cl HB.out Qk;replace Ql:=cl HB.out Ql;replace aeH:=eq_true aeH;replace aeI:=eq_true aeI;go_wp2_with (first|(go_at_call 95;(with_reducible refine(pO.calls k1 ((aT l0 jK).f0) ((aT l0 jK).f1) false _ A6.out).mono ?_);rintro e w9 ⟨rfl,hb⟩;replace HB:=bs HB hb;(try clear hb)))
     go_roundg k1
     case measure=>have:=jv.out;omega
     case rel=>exact⟨(wrap64 (jK+1)),rs,H',⟨by have:=jv.out;omega⟩,⟨ul HB.out⟩⟩
   ·obtain rfl:=Option.some.inj H;go_wp2;go_ret;exact⟨er,ul HB.out⟩
def kM.f(k:Nat)(l0:List (iq)):Option (Bool):=(dG.f k l0).bind fun al5=>(some (decide (al5≥0)))
set_option maxHeartbeats 8000000 in
set_option maxRecDepth 100000 in
theorem kM.calls(k:Nat)(A0:Option Addr)(c0:Nat)(l0:List (iq))(r:Bool)(w:World)(hr0:Kd.C lg w A0 l0.length l0)(hc0:l0.length≤c0)(h:kM.f k l0=some r):
  Calls Tryz.prog 94 #[.slice A0 l0.length c0, .func (.func 95) #[] #[]] w fun e w'=>e= .returned (.bool r)∧Below w.heap.size w w':=by
 have HR0:=ak hr0;have yx:=ak hc0;clear hr0 hc0;have HB:=ak (Below.refl w.heap.size w);have H:((dG.f k l0).bind fun al5=>(some (decide (al5≥0))))=some r:=h;clear h;replace H:=bd H;obtain⟨al5,A3,H⟩:=H;obtain rfl:=Option.some.inj H;go_enter func94,ntmps94;go_wp2_with (first|(refine gL 125 7 func125 #[.slice A0 l0.length c0, .func (.func 95) #[] #[]] ?_;(with_reducible refine(dG.calls k _ _ l0 al5 _ (cu HR0.out) yx.out A3.out).mono ?_);rintro e w4 ⟨rfl,hb⟩;refine⟨_,rfl,?_⟩;replace HB:=bs HB hb;(try clear hb)))
 go_ret;exact⟨er,ul HB.out⟩
def oJ.f(k:Nat)(l0:List (iq)):Option (Bool):=if(l0.length:Int)≤20 then((kM.f k l0).bind fun al6=>(some (!al6)))else(some false)
set_option maxHeartbeats 8000000 in
set_option maxRecDepth 100000 in
theorem oJ.calls(k:Nat)(A0:Option Addr)(c0:Nat)(l0:List (iq))(r:Bool)(w:World)(hr0:Kd.C lg w A0 l0.length l0)(hc0:l0.length≤c0)(h:oJ.f k l0=some r):
  Calls Tryz.prog 63 #[.slice A0 l0.length c0] w fun e w'=>e= .returned (.bool r)∧Below w.heap.size w w':=by
 have HR0:=ak hr0;have yx:=ak hc0;clear hr0 hc0;have HB:=ak (Below.refl w.heap.size w);have H:(if(l0.length:Int)≤20 then((kM.f k l0).bind fun al6=>(some (!al6)))else(some false))=some r:=h;clear h;replace H:=sp H;rcases H with⟨c2,H⟩|⟨c2,H⟩
 ·have vw:=decide_eq_true c2;have EC:decide (l0.length≤20)=true:=decide_eq_true (by omega);clear c2;replace H:=bd H;obtain⟨al6,A3,H⟩:=H;obtain rfl:=Option.some.inj H;go_enter func63,ntmps63;go_wp2_with (first|(go_at_call 94;(with_reducible refine(kM.calls k _ _ l0 al6 _ (cu HR0.out) yx.out A3.out).mono ?_);rintro e w4 ⟨rfl,hb⟩;replace HB:=bs HB hb;(try clear hb)))
  go_ret;exact⟨er,ul HB.out⟩
 ·have vw:=decide_eq_false c2;have EC:decide (l0.length≤20)=false:=decide_eq_false (by omega);clear c2;obtain rfl:=Option.some.inj H;go_enter func63,ntmps63;go_wp2;go_ret;exact⟨er,ul HB.out⟩
mutual
def bD.j0:Nat→ByteArray→Int→Option (List ByteArray)
 |0,_,_=>none
 |k+1,x3,x4=>bD.l0 k x3 x4 (([]:List ByteArray))
def bD.l0:Nat→ByteArray→Int→List ByteArray→Option (List ByteArray)
 |0,_,_,_=>none
 |k+1,x3,x4,x5=>if(x3.size:Int)>40 then(bD.l1 k x3 x5 (-1) x4)else(if x5.length<8796093022208 then(some (x5++[x3]))else(none))
def bD.l1:Nat→ByteArray→List ByteArray→Int→Int→Option (List ByteArray)
 |0,_,_,_,_=>none
 |k+1,x3,x5,x6,x7=>if(wrap64 (x7+1))<(x3.size:Int)then(if 0≤x7 then(if x7<(x3.size:Int)then(if(bt x3 x7)=32 then(if 0≤(wrap64 (x7-1))then(if(wrap64 (x7-1))<(x3.size:Int)then(if(bt x3 (wrap64 (x7-1)))=32 then(bD.l1 k x3 x5 x6 (wrap64 (x7+1)))else(if 0≤(wrap64 (x7+1))then(if(bt x3 (wrap64 (x7+1)))=32 then(bD.l1 k x3 x5 x6 (wrap64 (x7+1)))else(if x6<0 then(bD.l1 k x3 x5 x7 (wrap64 (x7+1)))else(if x7≤40 then(bD.l1 k x3 x5 x7 (wrap64 (x7+1)))else(bD.l1 k x3 x5 x6 (wrap64 (x7+1))))))else(none)))else(none))else(none))else(bD.l1 k x3 x5 x6 (wrap64 (x7+1))))else(none))else(none))else(if x6<0 then(if x5.length<8796093022208 then(some (x5++[x3]))else(none))else(if 0≤x6 then(if x6≤(x3.size:Int)then(if x5.length<8796093022208 then(bD.l0 k (x3.extract (x6:Int).toNat x3.size) 2 (x5++[x3.extract 0 (x6:Int).toNat]))else(none))else(none))else(none)))
end
def bD.f(k:Nat)(bn:ByteArray)(bI:ByteArray):Option (List ByteArray):=if bn.size+1≤9223372036854775807 then(if bI.toList=([]:List UInt8)then(bD.j0 k (bn++(⟨#[58]⟩:ByteArray)) (wrap64 ((bn.size:Int)+3)))else(if 1+bI.size≤9223372036854775807 then(if(bn++(⟨#[58]⟩:ByteArray)).size+((⟨#[32]⟩:ByteArray)++bI).size≤9223372036854775807 then(bD.j0 k ((bn++(⟨#[58]⟩:ByteArray))++((⟨#[32]⟩:ByteArray)++bI)) (wrap64 ((bn.size:Int)+3)))else(none))else(none)))else(none)
theorem bD.calls(k:Nat)(bn:ByteArray)(bI:ByteArray)(r:List ByteArray)(w:World)(h:bD.f k bn bI=some r):
  Calls Tryz.prog 72 #[.agg #[.string bn, .string bI]] w fun e w'=>∃qZ:Value,e= .returned (qZ)∧Kd.R Kd.string 9 w' w.heap.size (fun _=>True) qZ r∧Below w.heap.size w w':=by
 have I5:=underlying63;have HB:=ak (Below.refl w.heap.size w);have H:(if bn.size+1≤9223372036854775807 then(if bI.toList=([]:List UInt8)then(bD.j0 k (bn++(⟨#[58]⟩:ByteArray)) (wrap64 ((bn.size:Int)+3)))else(if 1+bI.size≤9223372036854775807 then(if(bn++(⟨#[58]⟩:ByteArray)).size+((⟨#[32]⟩:ByteArray)++bI).size≤9223372036854775807 then(bD.j0 k ((bn++(⟨#[58]⟩:ByteArray))++((⟨#[32]⟩:ByteArray)++bI)) (wrap64 ((bn.size:Int)+3)))else(none))else(none)))else(none))=some r:=h;clear h;replace H:=nn H;obtain⟨c2,H⟩:=H;have vw:=eq_true c2;have EC:=decide_eq_true c2;try have akY:(9223372036854775807<bn.size+1)=False:=eq_false (Nat.not_lt.2 c2)
 have HC3:=ak H;clear H;go_enter func72,ntmps72;try go_wp2_with (refine bX HB 1 #[.string bn, .string bI] 63 ?_;intro UF w4 qV aIL hb;replace HB:=bs HB hb;clear hb)
 refine rO [] [0,3,1,2,7,4,5,6,8] (fun w'=>w'.cell? ⟨UF,0,none⟩=some (.string bn)∧w'.cell? ⟨UF,1,none⟩=some (.string bI)) ?_;intro w5 hb;replace qV:=kb qV hb;replace HB:=bs HB hb;refine⟨sx,?_⟩;repeat refine Jr ?_
 refine on ?_;have z6:=AA qV.out;go_upto_if 17 with(fail)
 go_cut [3] (fun v3 wc=>∃(kq:Nat) (nS:ByteArray),v3= .string nS∧ah (bD.j0 kq nS (wrap64 ((bn.size:Int)+3))=some r)∧ah (kq≤k)∧ah (wc.heap[UF]? =some (.cells #[.string bn, .string bI] 63 (0,0)))∧ah (Below w.heap.size w wc))
 case first=>
  have H:=HC3.out;clear HC3;replace H:=sp H;rcases H with⟨c7,H⟩|⟨c7,H⟩
  ·have rU:=beq_iff_eq.mpr c7;have c7e:(bI.toList).isEmpty=true:=List.isEmpty_iff.mpr c7;have NZ:=bne_eq_false_iff_eq.mpr c7;clear c7
   (first|rw[rU]|(simp only[bJ,b_];rw[rU])|skip)
   (first|(rw[c7e];simp only[Bool.not_true,Bool.not_false])|skip);have H':=ak H;clear H;go_wp2;go_meet
   case rel=>exact⟨_,_,rs,H',⟨YT⟩,⟨ub qV.out⟩,⟨bb⟩⟩
  ·have rU:=beq_eq_false_iff_ne.mpr c7;have c7e:(bI.toList).isEmpty=false:=List.isEmpty_eq_false_iff.mpr c7;have NZ:=bne_iff_ne.mpr c7
   (first|rw[rU]|(simp only[bJ,b_];rw[rU])|skip)
   (first|(rw[c7e];simp only[Bool.not_true,Bool.not_false])|skip);replace H:=nn H;obtain⟨c8,H⟩:=H;have yY:=eq_true c8;have U8:=decide_eq_true c8;try have aF5:(9223372036854775807<1+bI.size)=False:=eq_false (Nat.not_lt.2 c8)
   replace H:=nn H;obtain⟨c9,H⟩:=H;have y5:=eq_true c9;have S_:=decide_eq_true c9;try have aLa:(9223372036854775807<bn.size+1+(1+bI.size))=False:=by have h_:=(eq_false (Nat.not_lt.2 c9):(9223372036854775807<(bn++(⟨#[58]⟩:ByteArray)).size+((⟨#[32]⟩:ByteArray)++bI).size)=False);simp only[ByteArray.size_append]at h_;exact h_
   try have aFy:(9223372036854775807<(bn++(⟨#[58]⟩:ByteArray)).size+((⟨#[32]⟩:ByteArray)++bI).size)=False:=eq_false (Nat.not_lt.2 c9)
   have H':=ak H;clear H;have z10:=AA qV.out;go_wp2;go_meet
   case rel=>exact⟨_,_,rs,H',⟨YT⟩,⟨ub qV.out⟩,⟨bb⟩⟩
 case rest=>
  clear HC3;try clear c2
  try clear vw
  try clear EC
  try clear akY
  obtain⟨kq,nS,rfl,HA,HJ2,qV,HB⟩:=hcut
  cases kq with
  |zero=>exact zz HA.out
  |succ kj2=>
   obtain⟨H⟩:=HA;simp only[bD.j0]at H;obtain⟨aLb,asM⟩:=nm ([]:List ByteArray);rw[←asM.out]at H;have H':=ak H;clear H;go_wp2_with (refine lRN 23 Kd.string 9 asM ?_;intro aLc xk BP hb;have azM:=ak (bP BP (aj bb));replace qV:=kb qV hb;replace HB:=bz HB hb;clear hb BP)
   go_loopg [3,4,5] kj2 (fun kq v3 v4 v5 w'=>∃(nS:ByteArray) (nG:Int) (rV:List ByteArray),v3= .string nS∧v4= .int .i64 nG∧ah (bD.l0 kq nS nG rV=some r)∧ah (kq≤kj2)∧ah (Kd.R Kd.string 9 w' w.heap.size (fun _=>True) v5 rV)∧ah (w'.heap[UF]? =some (.cells #[.string bn, .string bI] 63 (0,0)))∧ah (Below w.heap.size w w'))
   case atStart=>exact⟨_,_,_,rs,rs,H',⟨Nat.le_refl _⟩,⟨ur azM.out⟩,⟨ub qV.out⟩,⟨bb⟩⟩
   case round=>
    clear H';try clear c2
    try clear vw
    try clear EC
    try clear akY
    obtain⟨nS,nG,rV,rfl,rfl,HA,HK2,vF,qV,HB⟩:=hrel
    cases gk with
    |zero=>exact zz HA.out
    |succ k2=>
     obtain⟨H⟩:=HA;simp only[bD.l0]at H;replace H:=sp H;rcases H with⟨c13,H⟩|⟨c13,H⟩
     ·have xU:decide (40<(nS.size:Int))=true:=decide_eq_true c13;have Gh:decide (40<nS.size)=true:=decide_eq_true (by omega);clear c13;have H':=ak H;clear H;go_wp2;go_loopg [6,7] k2 (fun kq v6 v7 w'=>∃(Ii:Int) (qO:Int),v6= .int .i64 Ii∧v7= .int .i64 qO∧ah (bD.l1 kq nS rV Ii qO=some r)∧ah (kq≤k2)∧ah (Kd.R Kd.string 9 w' w.heap.size (fun _=>True) u5 rV)∧ah (w'.heap[UF]? =some (.cells #[.string bn, .string bI] 63 (0,0)))∧ah (Below w.heap.size w w'))
      case atStart=>exact⟨_,_,rs,rs,H',⟨Nat.le_refl _⟩,⟨ur vF.out⟩,⟨ub qV.out⟩,⟨bb⟩⟩
      case round=>
       clear H';try clear c2
       try clear vw
       try clear EC
       try clear akY
       try clear c13
       try clear xU
       try clear Gh
       obtain⟨Ii,qO,rfl,rfl,HA,HK3,vF,qV,HB⟩:=hrel
       cases gk with
       |zero=>exact zz HA.out
       |succ k3=>
        obtain⟨H⟩:=HA;simp only[bD.l1]at H;replace H:=sp H;rcases H with⟨c14,H⟩|⟨c14,H⟩
        ·have Ap:=decide_eq_true c14
         (try(have JM:decide ((qO+1)<(nS.size:Int))=true:=decide_eq_true (by have h_:=c14;unfold wrap64 at h_;omega)));clear c14;replace H:=oW H;obtain⟨BN,H⟩:=H;replace H:=oW H;obtain⟨EI,H⟩:=H;replace H:=sq H;rcases H with⟨H7,ac9,H⟩|⟨c18,H7,ac9,H⟩
         ·obtain⟨abo,al7⟩:∃j_:Int,(wrap64 (qO-1))=j_:=⟨_,rfl⟩
          replace H:(if 0≤(abo)then(if(abo)<(nS.size:Int)then(if(bt nS (abo))=32 then(bD.l1 k3 nS rV Ii (wrap64 (qO+1)))else(if 0≤(wrap64 (qO+1))then(if(bt nS (wrap64 (qO+1)))=32 then(bD.l1 k3 nS rV Ii (wrap64 (qO+1)))else(if Ii<0 then(bD.l1 k3 nS rV qO (wrap64 (qO+1)))else(if qO≤40 then(bD.l1 k3 nS rV qO (wrap64 (qO+1)))else(bD.l1 k3 nS rV Ii (wrap64 (qO+1))))))else(none)))else(none))else(none))=some r:=by first|(rw[al7]at H;exact H)|(simp only[al7]at H⊢;exact H)
          have aF6:(IntKind.i64.wrap (qO-1))=abo:=(bJ _).trans al7;replace H:=oW H;obtain⟨acM,H⟩:=H;replace H:=oW H;obtain⟨CO,H⟩:=H;replace H:=sq H;rcases H with⟨JQ,agt,H⟩|⟨c23,JQ,agt,H⟩
          ·have H':=ak H;clear H;obtain⟨p17,q17,al8⟩:=bx nS qO;obtain⟨p22,q22,apx⟩:=bx nS (abo);go_wp2;go_roundg k3
           case measure=>exact kl
           case rel=>exact⟨_,_,rs,rs,H',⟨kl⟩,⟨ur vF.out⟩,⟨ub qV.out⟩,⟨bb⟩⟩
          ·obtain⟨Xq,UG⟩:∃j_:Int,(wrap64 (qO+1))=j_:=⟨_,rfl⟩
           replace H:(if 0≤(Xq)then(if(bt nS (Xq))=32 then(bD.l1 k3 nS rV Ii Xq)else(if Ii<0 then(bD.l1 k3 nS rV qO Xq)else(if qO≤40 then(bD.l1 k3 nS rV qO Xq)else(bD.l1 k3 nS rV Ii Xq))))else(none))=some r:=by first|(rw[UG]at H;exact H)|(simp only[UG]at H⊢;exact H)
           (try rw[UG]at Ap);have aF7:(IntKind.i64.wrap (qO+1))=Xq:=(bJ _).trans UG;replace H:=oW H;obtain⟨acN,H⟩:=H;replace H:=sq H;rcases H with⟨PD,akO,H⟩|⟨c27,PD,akO,H⟩
           ·have H':=ak H;clear H;obtain⟨p17,q17,al8⟩:=bx nS qO;obtain⟨p22,q22,apx⟩:=bx nS (abo);obtain⟨p26,q26,avt⟩:=bx nS (Xq);go_wp2;go_roundg k3
            case measure=>exact kl
            case rel=>exact⟨_,_,rs,(by first|rfl|(simp;done)|(simp only[←UG]<;>(first|rfl|simp))|(simp[*];done)),H',⟨kl⟩,⟨ur vF.out⟩,⟨ub qV.out⟩,⟨bb⟩⟩
           ·replace H:=sd H;rcases H with⟨NH,H⟩|⟨NH,H⟩
            ·have H':=ak H;clear H;obtain⟨p17,q17,al8⟩:=bx nS qO;obtain⟨p22,q22,apx⟩:=bx nS (abo);obtain⟨p26,q26,avt⟩:=bx nS (Xq);go_wp2;go_roundg k3
             case measure=>exact kl
             case rel=>exact⟨_,_,rs,(by first|rfl|(simp;done)|(simp only[←UG]<;>(first|rfl|simp))|(simp[*];done)),H',⟨kl⟩,⟨ur vF.out⟩,⟨ub qV.out⟩,⟨bb⟩⟩
            ·replace H:=sd H;rcases H with⟨arV,H⟩|⟨arV,H⟩
             ·have H':=ak H;clear H;obtain⟨p17,q17,al8⟩:=bx nS qO;obtain⟨p22,q22,apx⟩:=bx nS (abo);obtain⟨p26,q26,avt⟩:=bx nS (Xq);go_wp2;go_roundg k3
              case measure=>exact kl
              case rel=>exact⟨_,_,rs,(by first|rfl|(simp;done)|(simp only[←UG]<;>(first|rfl|simp))|(simp[*];done)),H',⟨kl⟩,⟨ur vF.out⟩,⟨ub qV.out⟩,⟨bb⟩⟩
             ·have H':=ak H;clear H;obtain⟨p17,q17,al8⟩:=bx nS qO;obtain⟨p22,q22,apx⟩:=bx nS (abo);obtain⟨p26,q26,avt⟩:=bx nS (Xq);go_wp2;go_roundg k3
              case measure=>exact kl
              case rel=>exact⟨_,_,rs,(by first|rfl|(simp;done)|(simp only[←UG]<;>(first|rfl|simp))|(simp[*];done)),H',⟨kl⟩,⟨ur vF.out⟩,⟨ub qV.out⟩,⟨bb⟩⟩
         ·have H':=ak H;clear H;obtain⟨p17,q17,al8⟩:=bx nS qO;go_wp2;go_roundg k3
          case measure=>exact kl
          case rel=>exact⟨_,_,rs,rs,H',⟨kl⟩,⟨ur vF.out⟩,⟨ub qV.out⟩,⟨bb⟩⟩
        ·have Ap:=decide_eq_false c14
         (try(have JM:decide ((qO+1)<(nS.size:Int))=false:=decide_eq_false (by have h_:=c14;unfold wrap64 at h_;omega)));clear c14;replace H:=sd H;rcases H with⟨al9,H⟩|⟨al9,H⟩
         ·replace H:=nl H;obtain⟨ak9,H⟩:=H;obtain⟨aLd,asN⟩:=nm (rV++[nS]);rw[←asN.out]at H;obtain rfl:=s1 H;go_wp2_with ((with_reducible refine dS (b:= .append) (xs:=#[.tmp 73, .tmp 75]) rfl ?_);at_builtin;refine mD Kd.string (w0:=w) w.heap.size rfl (.tmp 73) (.tmp 75) 23 9 (.string ⟨#[]⟩) 16 rfl underlying23 info9 rfl (by decide) (by omega) u5 rV nS [.string nS] (fun _=>True) (fun _=>False) rfl rfl ?aP (fun _ hk=>hk.elim) ?aF ?aO ?aB ?aS ?aL ?_;(case aP=>exact rfl);(case aB=>exact bb);(case aF=>exact(fun _ _=>trivial));(case aO=>exact(ur vF.out));(case aS=>exact(aj bb));(case aL=>have:=ak9.out;omega);intro aLe w32 ho hb hg hat;rw[←asN.out]at ho;have azN:=ak (ho);replace qV:=ak (eu (g:=UF) (o:= .cells #[.string bn, .string bI] 63 (0,0)) (ub qV.out) hg (um vF.out qV.out (by decide)));replace HB:=ak (hb);clear ho hb hg hat vF)
          go_ret;exact⟨_,er,ur azN.out,bb⟩
         ·replace H:=I4 H;obtain⟨akP,arY,H⟩:=H;replace H:=I4 H;obtain⟨arZ,ar0,H⟩:=H;replace H:=nl H;obtain⟨azO,H⟩:=H;obtain⟨aLf,asO⟩:=nm (rV++[nS.extract 0 (Ii:Int).toNat]);rw[←asO.out]at H;have asB:=eq_true (of_decide_eq_true (by assumption):0≤Ii);have aIM:=eq_true (of_decide_eq_true (by assumption):Ii≤(nS.size:Int));have H':=ak H;clear H;try go_wp2
          replace vF:=ak (yB vF.out);replace qV:=ak (aC qV.out);replace HB:=ak (fO HB.out);refine ro [4,5] [0,1,2,3,6,7,8,4,5,9,10,11] (fun w'=>True) trivial ?_
          generalize wr.drew=w38 at vF qV HB⊢
          repeat refine Jr ?_
          refine ld (N:=some 68) (gk.trans rfl) rfl rfl (fun K hK=>?_);refine S9 (w1:=?_) (v:=?_) (by rfl) rfl ?_ ?_
          rotate_left 2
          ·go_simp;constructor
           ·rfl
           ·rfl
          refine hK.out _ _ trivial ?_;clear hK K;refine no (a':=?_) ?_ ?_
          rotate_left
          ·show Act.put _ (some 68) _=_
           simp only[Act.put,jB,jC,l_c,bJ,b_];rfl
          refine ld (N:=some 69) (gk.trans rfl) rfl rfl (fun K hK=>?_);refine vK Kd.string (w0:=w) w.heap.size (by rfl) (.tmp 64) (.tmp 68) 23 9 (.string ⟨#[]⟩) 16 rfl underlying23 info9 rfl (by decide) (by omega) u5 rV (nS.extract 0 (Ii:Int).toNat) [.string (nS.extract 0 (Ii:Int).toNat)] (fun _=>True) (fun _=>False) rfl rfl ?aP (fun _ hk=>hk.elim) ?aF ?aO ?aB ?aS ?aL ?_
          (case aP=>exact rfl)
          (case aB=>exact bb)
          (case aF=>exact(fun _ _=>trivial))
          (case aO=>exact(ur vF.out))
          (case aS=>exact(aj bb))
          (case aL=>have:=azO.out;omega);intro aLg w39 ho hb hg hat
          rw[←asO.out]at ho;have ng:=ak (eu (g:=UF) (o:= .cells #[.string bn, .string bI] 63 (0,0)) (ub qV.out) hg (um vF.out qV.out (by decide)));have ni:=ak (hb);have qx:=ak (ho);clear qV HB vF;have qV:=ng;have HB:=ni;have azP:=qx;clear ng ni qx ho hb hg hat
          refine hK.out _ _ trivial ?_;clear hK K;refine no (a':=?_) ?_ ?_
          rotate_left
          ·show Act.put _ (some 69) _=_
           simp only[Act.put,jB,jC,l_c,bJ,b_];rfl
          repeat refine Jr ?_
          refine on ?_;try go_wp2
          go_roundg k3
          case measure=>exact kl
          case rel=>exact⟨_,_,_,rs,rs,H',⟨kl⟩,⟨ur azP.out⟩,⟨ub qV.out⟩,⟨bb⟩⟩
     ·have xU:decide (40<(nS.size:Int))=false:=decide_eq_false c13;have Gh:decide (40<nS.size)=false:=decide_eq_false (by omega);clear c13;replace H:=nl H;obtain⟨al_,H⟩:=H;obtain⟨aLh,asP⟩:=nm (rV++[nS]);rw[←asP.out]at H;obtain rfl:=s1 H;go_wp2_with ((with_reducible refine dS (b:= .append) (xs:=#[.tmp 73, .tmp 75]) rfl ?_);at_builtin;refine mD Kd.string (w0:=w) w.heap.size rfl (.tmp 73) (.tmp 75) 23 9 (.string ⟨#[]⟩) 16 rfl underlying23 info9 rfl (by decide) (by omega) u5 rV nS [.string nS] (fun _=>True) (fun _=>False) rfl rfl ?aP (fun _ hk=>hk.elim) ?aF ?aO ?aB ?aS ?aL ?_;(case aP=>exact rfl);(case aB=>exact bb);(case aF=>exact(fun _ _=>trivial));(case aO=>exact(ur vF.out));(case aS=>exact(aj bb));(case aL=>have:=al_.out;omega);intro aLi w41 ho hb hg hat;rw[←asP.out]at ho;have azQ:=ak (ho);replace qV:=ak (eu (g:=UF) (o:= .cells #[.string bn, .string bI] 63 (0,0)) (ub qV.out) hg (um vF.out qV.out (by decide)));replace HB:=ak (hb);clear ho hb hg hat vF)
      go_ret;exact⟨_,er,ur azQ.out,bb⟩
def ji.l0:Nat→List ByteArray→List (iq)→Int→Int→Option (List ByteArray×Bool)
 |0,_,_,_,_=>none
 |k+1,x4,x11,x12,Zu=>if Zu<x12 then(if 0≤Zu then(if Zu<(x11.length:Int)then((bD.f k ((aT x11 Zu).f0) ((aT x11 Zu).f1)).bind fun aeJ=>(if x4.length+aeJ.length<8796093022208 then(ji.l0 k (x4++aeJ) x11 x12 (wrap64 (Zu+1)))else(none)))else(none))else(none))else(some (x4,true))
def ji.f(k:Nat)(l0:List (iq)):Option (List ByteArray×Bool):=(oJ.f k l0).bind fun apy=>(if apy=true then(ji.l0 k (([]:List ByteArray)) l0 (l0.length:Int) 0)else(some (([]:List ByteArray),false)))
set_option maxHeartbeats 8000000 in
set_option maxRecDepth 100000 in
theorem ji.calls(k:Nat)(A0:Option Addr)(c0:Nat)(l0:List (iq))(r1:List ByteArray)(r2:Bool)(w:World)(hr0:Kd.C lg w A0 l0.length l0)(hc0:l0.length≤c0)(h:ji.f k l0=some (r1,r2)):
  Calls Tryz.prog 54 #[.slice A0 l0.length c0] w fun e w'=>∃qZ:Value,e= .returned (.tuple #[qZ, .bool r2])∧Kd.R Kd.string 9 w' w.heap.size (fun _=>True) qZ r1∧Below w.heap.size w w':=by
 have I5:=underlying63;have HR0:=ak hr0;have yx:=ak hc0;clear hr0 hc0;have HB:=ak (Below.refl w.heap.size w);have H:((oJ.f k l0).bind fun apy=>(if apy=true then(ji.l0 k (([]:List ByteArray)) l0 (l0.length:Int) 0)else(some (([]:List ByteArray),false))))=some (r1,r2):=h;clear h;replace H:=bd H;obtain⟨apy,A2,H⟩:=H;replace H:=sb H;rcases H with⟨rfl,H⟩|⟨rfl,H⟩
 ·obtain⟨aF8,ama⟩:=nm ([]:List ByteArray);rw[←ama.out]at H
  (try rw[Option.bind_some]at H);have H':=ak H;clear H;go_enter func54,ntmps54;go_wp2_with (first|(refine gL 63 8 func63 #[.slice A0 l0.length c0] ?_;(with_reducible refine(oJ.calls k _ _ l0 true _ (cu HR0.out) yx.out A2.out).mono ?_);rintro e w4 ⟨rfl,hb⟩;refine⟨_,rfl,?_⟩;replace HB:=bs HB hb;(try clear hb))|((with_reducible refine fZ (N:=10) rfl ?_);refine Es Kd.string _ 9 ?hg (N:=10) ?hd (xs:=([]:List ByteArray)) (inner:=[]) (ok:=fun _=>True) (rE:=fun _=>True) ?hr ?hp (fun _ hk=>hk) trivial (Below.refl _ _) (Nat.le_refl _) (by simp) ?_;(case hd=>rfl);(case hg=>rfl);(case hr=>first|(go_simp;done)|(go_simp;rfl));(case hp=>exact(jJ.none _ _));intro aLj w5 ho6 hb wI lD;clear wI lD;(first|rw[←ama.out]at ho6|(simp only[Int.reduceToNat]at ho6;rw[←ama.out]at ho6));have azR:=ak (bP ho6 (aj (ul HB.out)));replace HB:=bs HB hb;clear hb ho6))
  go_loopg [4,13] k (fun kq v4 v13 w'=>∃(eF:List ByteArray) (wu:Int),v13= .int .i64 wu∧ah (ji.l0 kq eF l0 (l0.length:Int) wu=some (r1,r2))∧ah (kq≤k)∧ah (Kd.R Kd.string 9 w' w.heap.size (fun _=>True) v4 eF)∧ah (Below w.heap.size w w'))
  case atStart=>exact⟨(aF8),(0),rs,H',⟨Nat.le_refl _⟩,⟨ur azR.out⟩,⟨ul HB.out⟩⟩
  case round=>
   clear H';try clear p2
   try clear c3
   try clear c5
   try clear c6
   obtain⟨eF,wu,rfl,HA,jv,oh,HB⟩:=hrel
   cases gk with
   |zero=>exact absurd HA.out (by simp[ji.l0])
   |succ k1=>
    have H:=HA.out;clear HA;simp only[ji.l0]at H;replace H:=sd H;rcases H with⟨rU,H⟩|⟨rU,H⟩
    ·replace H:=oW H;obtain⟨yY,H⟩:=H;replace H:=oW H;obtain⟨y5,H⟩:=H;replace H:=bd H;obtain⟨aeJ,A10,H⟩:=H;replace H:=nl H;obtain⟨amb,H⟩:=H;obtain⟨aF9,asQ⟩:=nm (eF++aeJ);rw[←asQ.out]at H
     (try rw[Option.bind_some]at H);have H':=ak H;clear H;have avu:=zi wu;have avv:=zj wu l0.length;obtain⟨aIN,aF_,aho,ahp⟩:=ou HR0.out wu avu avv;cases aF_;replace aho:=cl HB.out aho;replace ahp:=cl HB.out ahp;replace avu:=eq_true avu;replace avv:=eq_true avv;go_wp2_with (first|(refine bE 6 #[.string (⟨#[]⟩:ByteArray), .string (⟨#[]⟩:ByteArray)] 63 ?_;intro ZF hg w12 hbox hb;have Qm:=ak (hbox);have aIO:=mJ HB hg;have aIP:=mJ HB hg;replace oh:=rb oh hb;replace HB:=bs HB hb;clear hb hbox hg;obtain⟨yS,yT,yU,yV⟩:=AA Qm.out)|(refine gL 72 19 func72 #[.agg #[.string ((aT l0 wu).f0), .string ((aT l0 wu).f1)]] ?_;(with_reducible refine(bD.calls k1 ((aT l0 wu).f0) ((aT l0 wu).f1) aeJ _ A10.out).mono ?_);rintro e Ut ⟨aLk,rfl,ho0,hb⟩;refine⟨_,rfl,?_⟩;have ZG:=ak (bP (nI ho0 (ru (ur (aY (bK (p:=⟨ZF,1,none⟩) (bK (p:=⟨ZF,0,none⟩) (eP oh.out Qm.out (by decide)) (fun _ hk=>hk.2) (.string ((aT l0 wu).f0))) (fun _ hk=>hk.2) (.string ((aT l0 wu).f1))) (fun _ h_=>h_.1))))) (aj bb));replace oh:=ak (nV (ur (aY (bK (p:=⟨ZF,1,none⟩) (bK (p:=⟨ZF,0,none⟩) (eP oh.out Qm.out (by decide)) (fun _ hk=>hk.2) (.string ((aT l0 wu).f0))) (fun _ hk=>hk.2) (.string ((aT l0 wu).f1))) (fun _ h_=>h_.1))) (jf ho0) hb);replace Qm:=ak (jy (g:=ZF) (o:= .cells #[.string ((aT l0 wu).f0), .string ((aT l0 wu).f1)] 63 (0,0)) (by(with_reducible repeat(first|refine ay ?_ _|refine aC ?_|refine au ?_ _));refine bU (cs:=#[.string ((aT l0 wu).f0), .string (⟨#[]⟩:ByteArray)]) ?_ 1 _ rfl;(with_reducible repeat(first|refine ay ?_ _|refine aC ?_|refine au ?_ _));refine bU (cs:=#[.string (⟨#[]⟩:ByteArray), .string (⟨#[]⟩:ByteArray)]) ?_ 0 _ rfl;(with_reducible repeat(first|refine ay ?_ _|refine aC ?_|refine au ?_ _));exact Qm.out) hb);replace HB:=ak (aI bb hb);(try clear hb);(try clear ho0);obtain⟨Hf,FZ,Xl⟩:=bG ZG.out;subst Xl)|((with_reducible refine dS (b:= .append) (xs:=#[.tmp 17, .tmp 19]) rfl ?_);at_builtin;refine oU Kd.string (w0:=w) w.heap.size rfl (.tmp 17) (.tmp 19) 23 9 (.string ⟨#[]⟩) 16 rfl underlying23 info9 rfl (by decide) (by omega) u4 eF aeJ _ _ _ (fun k_=>some k_≠(.slice Hf aeJ.length FZ:Value).ownBlock) (fun _=>False) rfl rfl ?aO ?aR (fun _ _ h=>h) (fun _ h=>h.elim) ?aF ?aB ?aS ?aL ?_;(case aR=>repeat(first|exact(dB ZG.out).2.2|(with_reducible refine Kd.iP ?_ _)|(with_reducible refine Kd.iQ ?_ _)|(with_reducible refine Kd.jP ?_)));(case aB=>exact bb);(case aF=>exact(fun k_ hk=>Kd.fresh' (ru (ur ZG.out)) k_ hk));(case aO=>exact(ur (aY oh.out (fun _ hk=>hk.2))));(case aS=>exact(aj bb));(case aL=>have:=amb.out;omega);intro aLl YU ho hb hg hat;rw[←asQ.out]at ho;have ng:=ak (eu (g:=ZF) (o:= .cells #[.string ((aT l0 wu).f0), .string ((aT l0 wu).f1)] 63 (0,0)) (ub Qm.out) hg (um oh.out Qm.out (by decide)));have ni:=ak (P7 (ok:=(fun _=>True)) (ur ZG.out) hg hat);have qx:=ak (hb);have sV:=ak (ho);clear Qm;clear ZG;clear HB;clear oh;have Qm:=ng;have ZG:=ni;have HB:=qx;have azS:=sV;clear ng ni qx sV;clear ho hb hg hat))
     go_roundg k1
     case measure=>have:=jv.out;omega
     case rel=>exact⟨(aF9),(wrap64 (wu+1)),rs,H',⟨by have:=jv.out;omega⟩,⟨ur (aY azS.out (fun _ hk=>trivial))⟩,⟨bb⟩⟩
    ·simp only[Option.some.injEq,Prod.mk.injEq]at H;obtain⟨rfl,rfl⟩:=H;go_wp2;go_ret2;exact⟨_,er,ur oh.out,ul HB.out⟩
 ·simp only[Option.some.injEq,Prod.mk.injEq]at H;obtain⟨rfl,rfl⟩:=H;go_enter func54,ntmps54;go_wp2_with (first|(refine gL 63 8 func63 #[.slice A0 l0.length c0] ?_;(with_reducible refine(oJ.calls k _ _ l0 false _ (cu HR0.out) yx.out A2.out).mono ?_);rintro e w17 ⟨rfl,hb⟩;refine⟨_,rfl,?_⟩;replace HB:=bs HB hb;(try clear hb)))
  go_ret2;exact⟨_,er,nx,ul HB.out⟩
def su.f(k:Nat)(a0:ByteArray):Option (Bool):=(bC.f k a0).bind fun amc=>(some (!amc))
set_option maxHeartbeats 8000000 in
set_option maxRecDepth 100000 in
theorem su.calls(k:Nat)(a0:ByteArray)(r:Bool)(w:World)(h:su.f k a0=some r):
  Calls Tryz.prog 74 #[.string a0] w fun e w'=>e= .returned (.bool r)∧fK w w':=by
 have H:((bC.f k a0).bind fun amc=>(some (!amc)))=some r:=h;clear h;replace H:=bd H;obtain⟨amc,A2,H⟩:=H;obtain rfl:=Option.some.inj H;go_enter func74,ntmps74;go_wp2_with (first|(refine gL 75 4 func75 #[.string a0] ?_;(with_reducible refine(bC.calls k a0 amc _ A2.out).mono ?_);rintro e w' ⟨rfl,⟨nd,rfl⟩⟩;refine⟨_,rfl,?_⟩))
 go_ret;exact⟨rs,dn⟩
def aU.l0:Nat→List ByteArray→Int→Int→Option (Int)
 |0,_,_,_=>none
 |k+1,x0,x7,x8=>if x8<x7 then(if 0≤x8 then(if x8<(x0.length:Int)then((su.f k (o8 ByteArray.empty x0 x8)).bind fun azT=>(if azT=true then(some x8)else(aU.l0 k x0 x7 (wrap64 (x8+1)))))else(none))else(none))else(some (-1))
def aU.f(k:Nat)(l0:List ByteArray):Option (Int):=aU.l0 k l0 (l0.length:Int) 0
set_option maxHeartbeats 8000000 in
set_option maxRecDepth 100000 in
theorem aU.calls(k:Nat)(A0:Option Addr)(c0:Nat)(l0:List ByteArray)(r:Int)(w:World)(hr0:Kd.C Kd.string w A0 l0.length l0)(hc0:l0.length≤c0)(h:aU.f k l0=some r):
  Calls Tryz.prog 110 #[.slice A0 l0.length c0, .func (.func 74) #[] #[]] w fun e w'=>e= .returned (.int .i64 r)∧fK w w':=by
 have HR0:=ak hr0;have yx:=ak hc0;clear hr0 hc0;have H:(aU.l0 k l0 (l0.length:Int) 0)=some r:=h;clear h;have H':=ak H;clear H;go_enter func110,ntmps110;go_wp2;go_loopg [8] k (fun kq v8 w'=>∃(jK:Int),v8= .int .i64 jK∧ah (aU.l0 kq l0 (l0.length:Int) jK=some r)∧ah (kq≤k)∧fK w w')
 case atStart=>exact⟨(0),rs,H',⟨Nat.le_refl _⟩,dn⟩
 case round=>
  clear H';try clear c1
  try clear p2
  obtain⟨jK,rfl,HA,jv,⟨m1,rfl⟩⟩:=hrel
  cases gk with
  |zero=>exact absurd HA.out (by simp[aU.l0])
  |succ k1=>
   have H:=HA.out;clear HA;simp only[aU.l0]at H;replace H:=sd H;rcases H with⟨gQ,H⟩|⟨gQ,H⟩
   ·replace H:=oW H;obtain⟨oM,H⟩:=H;replace H:=oW H;obtain⟨sH,H⟩:=H;replace H:=bd H;obtain⟨azT,A6,H⟩:=H;replace H:=sb H;rcases H with⟨rfl,H⟩|⟨rfl,H⟩
    ·obtain rfl:=Option.some.inj H;have aeK:=zi jK;have aeL:=zj jK l0.length;obtain⟨azU,avw,apz⟩:=kV HR0.out jK aeK aeL;cases avw;replace aeK:=eq_true aeK;replace aeL:=eq_true aeL;go_wp2_with (first|(go_at_call 74;(with_reducible refine(su.calls k1 (o8 ByteArray.empty l0 jK) true _ A6.out).mono ?_);rintro e w' ⟨rfl,⟨nd,rfl⟩⟩))
     go_ret;exact⟨rs,dn⟩
    ·have H':=ak H;clear H;have aeK:=zi jK;have aeL:=zj jK l0.length;obtain⟨azU,avw,apz⟩:=kV HR0.out jK aeK aeL;cases avw;replace aeK:=eq_true aeK;replace aeL:=eq_true aeL;go_wp2_with (first|(go_at_call 74;(with_reducible refine(su.calls k1 (o8 ByteArray.empty l0 jK) false _ A6.out).mono ?_);rintro e w' ⟨rfl,⟨nd,rfl⟩⟩))
     go_roundg k1
     case measure=>have:=jv.out;omega
     case rel=>exact⟨(wrap64 (jK+1)),rs,H',⟨by have:=jv.out;omega⟩,dn⟩
   ·obtain rfl:=Option.some.inj H;go_wp2;go_ret;exact⟨rs,dn⟩
def gU.f(k:Nat)(l0:List ByteArray):Option (Bool):=(aU.f k l0).bind fun amd=>(some (decide (amd≥0)))
set_option maxHeartbeats 8000000 in
set_option maxRecDepth 100000 in
theorem gU.calls(k:Nat)(A0:Option Addr)(c0:Nat)(l0:List ByteArray)(r:Bool)(w:World)(hr0:Kd.C Kd.string w A0 l0.length l0)(hc0:l0.length≤c0)(h:gU.f k l0=some r):
  Calls Tryz.prog 73 #[.slice A0 l0.length c0, .func (.func 74) #[] #[]] w fun e w'=>e= .returned (.bool r)∧fK w w':=by
 have HR0:=ak hr0;have yx:=ak hc0;clear hr0 hc0;have H:((aU.f k l0).bind fun amd=>(some (decide (amd≥0))))=some r:=h;clear h;replace H:=bd H;obtain⟨amd,A3,H⟩:=H;obtain rfl:=Option.some.inj H;go_enter func73,ntmps73;go_wp2_with (first|(refine gL 110 7 func110 #[.slice A0 l0.length c0, .func (.func 74) #[] #[]] ?_;(with_reducible refine(aU.calls k _ _ l0 amd _ (cu HR0.out) yx.out A3.out).mono ?_);rintro e w' ⟨rfl,⟨nd,rfl⟩⟩;refine⟨_,rfl,?_⟩))
 go_ret;exact⟨rs,dn⟩
def tu.f(k:Nat)(l0:List ByteArray)(a1:Int):Option (Bool):=if(l0.length:Int)≤a1 then((gU.f k l0).bind fun ame=>(some (!ame)))else(some false)
set_option maxHeartbeats 8000000 in
set_option maxRecDepth 100000 in
theorem tu.calls(k:Nat)(A0:Option Addr)(c0:Nat)(l0:List ByteArray)(a1:Int)(r:Bool)(w:World)(hr0:Kd.C Kd.string w A0 l0.length l0)(hc0:l0.length≤c0)(h:tu.f k l0 a1=some r):
  Calls Tryz.prog 55 #[.slice A0 l0.length c0, .int .i64 a1] w fun e w'=>e= .returned (.bool r)∧fK w w':=by
 have HR0:=ak hr0;have yx:=ak hc0;clear hr0 hc0;have H:(if(l0.length:Int)≤a1 then((gU.f k l0).bind fun ame=>(some (!ame)))else(some false))=some r:=h;clear h;replace H:=sd H;rcases H with⟨gQ,H⟩|⟨gQ,H⟩
 ·replace H:=bd H;obtain⟨ame,A4,H⟩:=H;obtain rfl:=Option.some.inj H;go_enter func55,ntmps55;go_wp2_with (first|(go_at_call 73;(with_reducible refine(gU.calls k _ _ l0 ame _ (cu HR0.out) yx.out A4.out).mono ?_);rintro e w' ⟨rfl,⟨nd,rfl⟩⟩))
  go_ret;exact⟨rs,dn⟩
 ·obtain rfl:=Option.some.inj H;go_enter func55,ntmps55;go_wp2;go_ret;exact⟨rs,dn⟩
def dP.l0:Nat→List ByteArray→ByteArray→Int→Int→Option (Int)
 |0,_,_,_,_=>none
 |k+1,x0,x1,x7,x8=>if x8<x7 then(if 0≤x8 then(if x8<(x0.length:Int)then(if x1.toList=(o8 ByteArray.empty x0 x8).toList then(some x8)else(dP.l0 k x0 x1 x7 (wrap64 (x8+1))))else(none))else(none))else(some (-1))
def dP.f(k:Nat)(l0:List ByteArray)(a1:ByteArray):Option (Int):=dP.l0 k l0 a1 (l0.length:Int) 0
set_option maxHeartbeats 8000000 in
set_option maxRecDepth 100000 in
theorem dP.calls(k:Nat)(A0:Option Addr)(c0:Nat)(l0:List ByteArray)(a1:ByteArray)(r:Int)(w:World)(hr0:Kd.C Kd.string w A0 l0.length l0)(hc0:l0.length≤c0)(h:dP.f k l0 a1=some r):
  Calls Tryz.prog 49 #[.slice A0 l0.length c0, .string a1] w fun e w'=>e= .returned (.int .i64 r)∧fK w w':=by
 have HR0:=ak hr0;have yx:=ak hc0;clear hr0 hc0;have H:(dP.l0 k l0 a1 (l0.length:Int) 0)=some r:=h;clear h;have H':=ak H;clear H;go_enter func49,ntmps49;go_wp2;go_loopg [8] k (fun kq v8 w'=>∃(jK:Int),v8= .int .i64 jK∧ah (dP.l0 kq l0 a1 (l0.length:Int) jK=some r)∧ah (kq≤k)∧fK w w')
 case atStart=>exact⟨(0),rs,H',⟨Nat.le_refl _⟩,dn⟩
 case round=>
  clear H';try clear p2
  obtain⟨jK,rfl,HA,jv,⟨m1,rfl⟩⟩:=hrel
  cases gk with
  |zero=>exact absurd HA.out (by simp[dP.l0])
  |succ k1=>
   have H:=HA.out;clear HA;simp only[dP.l0]at H;replace H:=sd H;rcases H with⟨gQ,H⟩|⟨gQ,H⟩
   ·replace H:=oW H;obtain⟨oM,H⟩:=H;replace H:=oW H;obtain⟨sH,H⟩:=H;replace H:=sq H;rcases H with⟨oC,AB,H⟩|⟨c6,oC,AB,H⟩
    ·obtain rfl:=Option.some.inj H;have aeM:=zi jK;have aeN:=zj jK l0.length;obtain⟨azV,avx,apA⟩:=kV HR0.out jK aeM aeN;cases avx;replace aeM:=eq_true aeM;replace aeN:=eq_true aeN;go_wp2;go_ret;exact⟨rs,dn⟩
    ·have H':=ak H;clear H;have aeM:=zi jK;have aeN:=zj jK l0.length;obtain⟨azV,avx,apA⟩:=kV HR0.out jK aeM aeN;cases avx;replace aeM:=eq_true aeM;replace aeN:=eq_true aeN;go_wp2;go_roundg k1
     case measure=>have:=jv.out;omega
     case rel=>exact⟨(wrap64 (jK+1)),rs,H',⟨by have:=jv.out;omega⟩,dn⟩
   ·obtain rfl:=Option.some.inj H;go_wp2;go_ret;exact⟨rs,dn⟩
def fH.f(k:Nat)(l0:List ByteArray)(a1:ByteArray):Option (Bool):=(dP.f k l0 a1).bind fun amf=>(some (decide (amf≥0)))
set_option maxHeartbeats 8000000 in
set_option maxRecDepth 100000 in
theorem fH.calls(k:Nat)(A0:Option Addr)(c0:Nat)(l0:List ByteArray)(a1:ByteArray)(r:Bool)(w:World)(hr0:Kd.C Kd.string w A0 l0.length l0)(hc0:l0.length≤c0)(h:fH.f k l0 a1=some r):
  Calls Tryz.prog 112 #[.slice A0 l0.length c0, .string a1] w fun e w'=>e= .returned (.bool r)∧fK w w':=by
 have HR0:=ak hr0;have yx:=ak hc0;clear hr0 hc0;have H:((dP.f k l0 a1).bind fun amf=>(some (decide (amf≥0))))=some r:=h;clear h;replace H:=bd H;obtain⟨amf,A3,H⟩:=H;obtain rfl:=Option.some.inj H;go_enter func112,ntmps112;go_wp2_with (first|(refine gL 49 7 func49 #[.slice A0 l0.length c0, .string a1] ?_;(with_reducible refine(dP.calls k _ _ l0 a1 amf _ (cu HR0.out) yx.out A3.out).mono ?_);rintro e w' ⟨rfl,⟨nd,rfl⟩⟩;refine⟨_,rfl,?_⟩))
 go_ret;exact⟨rs,dn⟩
def uX.f(k:Nat)(l0:List ByteArray)(a1:ByteArray):Option (Bool):=if 2+a1.size≤9223372036854775807 then((fH.f k l0 ((⟨#[45,45]⟩:ByteArray)++a1)).bind fun apB=>(if apB=true then(some true)else(if((⟨#[45,45]⟩:ByteArray)++a1).size+2≤9223372036854775807 then((fH.f k l0 (((⟨#[45,45]⟩:ByteArray)++a1)++(⟨#[45,45]⟩:ByteArray))).bind fun amg=>(some amg))else(none))))else(none)
set_option maxHeartbeats 8000000 in
set_option maxRecDepth 100000 in
theorem uX.calls(k:Nat)(A0:Option Addr)(c0:Nat)(l0:List ByteArray)(a1:ByteArray)(r:Bool)(w:World)(hr0:Kd.C Kd.string w A0 l0.length l0)(hc0:l0.length≤c0)(h:uX.f k l0 a1=some r):
  Calls Tryz.prog 78 #[.slice A0 l0.length c0, .string a1] w fun e w'=>e= .returned (.bool r)∧fK w w':=by
 have HR0:=ak hr0;have yx:=ak hc0;clear hr0 hc0;have H:(if 2+a1.size≤9223372036854775807 then((fH.f k l0 ((⟨#[45,45]⟩:ByteArray)++a1)).bind fun apB=>(if apB=true then(some true)else(if((⟨#[45,45]⟩:ByteArray)++a1).size+2≤9223372036854775807 then((fH.f k l0 (((⟨#[45,45]⟩:ByteArray)++a1)++(⟨#[45,45]⟩:ByteArray))).bind fun amg=>(some amg))else(none))))else(none))=some r:=h;clear h;replace H:=nn H;obtain⟨c3,H⟩:=H;have gQ:=eq_true c3;have rC:=decide_eq_true c3;try have N8:(9223372036854775807<2+a1.size)=False:=eq_false (Nat.not_lt.2 c3)
 replace H:=bd H;obtain⟨apB,A4,H⟩:=H;replace H:=sb H;rcases H with⟨rfl,H⟩|⟨rfl,H⟩
 ·obtain rfl:=Option.some.inj H;go_enter func78,ntmps78;go_wp2_with (first|(refine gL 112 8 func112 #[.slice A0 l0.length c0, .string ((⟨#[45,45]⟩:ByteArray)++a1)] ?_;(with_reducible refine(fH.calls k _ _ l0 ((⟨#[45,45]⟩:ByteArray)++a1) true _ (cu HR0.out) yx.out A4.out).mono ?_);rintro e w' ⟨rfl,⟨nd,rfl⟩⟩;refine⟨_,rfl,?_⟩))
  go_ret;exact⟨rs,dn⟩
 ·replace H:=nn H;obtain⟨c6,H⟩:=H;have oC:=eq_true c6;have AB:=decide_eq_true c6;try have aLm:(9223372036854775807<2+a1.size+2)=False:=by have h_:=(eq_false (Nat.not_lt.2 c6):(9223372036854775807<((⟨#[45,45]⟩:ByteArray)++a1).size+2)=False);simp only[ByteArray.size_append]at h_;exact h_
  try have aGa:(9223372036854775807<((⟨#[45,45]⟩:ByteArray)++a1).size+2)=False:=eq_false (Nat.not_lt.2 c6)
  replace H:=bd H;obtain⟨amg,A7,H⟩:=H;obtain rfl:=Option.some.inj H;go_enter func78,ntmps78;go_wp2_with (first|(refine gL 112 8 func112 #[.slice A0 l0.length c0, .string ((⟨#[45,45]⟩:ByteArray)++a1)] ?_;(with_reducible refine(fH.calls k _ _ l0 ((⟨#[45,45]⟩:ByteArray)++a1) false _ (cu HR0.out) yx.out A4.out).mono ?_);rintro e w' ⟨rfl,⟨nd,rfl⟩⟩;refine⟨_,rfl,?_⟩)|(go_at_call 112;(with_reducible refine(fH.calls k _ _ l0 (((⟨#[45,45]⟩:ByteArray)++a1)++(⟨#[45,45]⟩:ByteArray)) amg _ (cu HR0.out) yx.out A7.out).mono ?_);rintro e w' ⟨rfl,⟨nd,rfl⟩⟩))
  go_ret;exact⟨rs,dn⟩
def pR.f(k:Nat)(l0:List ByteArray)(a1:ByteArray):Option (Bool):=(uX.f k l0 a1).bind fun amh=>(some amh)
set_option maxHeartbeats 8000000 in
set_option maxRecDepth 100000 in
theorem pR.calls(k:Nat)(A0:Option Addr)(c0:Nat)(l0:List ByteArray)(gq1:Nat)(a1:ByteArray)(r:Bool)(w:World)(hr0:Kd.C Kd.string w A0 l0.length l0)(hc0:l0.length≤c0)(hq1:w.heap[gq1]? =some (.cells #[.string a1] 9 (0,0)))(h:pR.f k l0 a1=some r):
  Calls Tryz.prog 77 #[.slice A0 l0.length c0, .pointer (some ⟨gq1,0,none⟩)] w fun e w'=>e= .returned (.bool r)∧Below w.heap.size w w':=by
 have HR0:=ak hr0;have yx:=ak hc0;clear hr0 hc0;have wL:=ak hq1;clear hq1;have HB:=ak (Below.refl w.heap.size w);have H:((uX.f k l0 a1).bind fun amh=>(some amh))=some r:=h;clear h;replace H:=bd H;obtain⟨amh,A3,H⟩:=H;obtain rfl:=Option.some.inj H;have aey:w.cell? ⟨gq1,0,none⟩=some (.string a1):=(aG wL.out 0).trans rfl;have aez:=jl wL.out 0;go_enter func77,ntmps77;go_wp2_with (first|(refine gL 78 6 func78 #[.slice A0 l0.length c0, .string a1] ?_;(with_reducible refine(uX.calls k _ _ l0 a1 amh _ (cu HR0.out) yx.out A3.out).mono ?_);rintro e w' ⟨rfl,⟨nd,rfl⟩⟩;refine⟨_,rfl,?_⟩))
 go_ret;exact⟨er,bb⟩
def aX.l0:Nat→List (List ByteArray)→Int→Int→ByteArray→Option (Int)
 |0,_,_,_,_=>none
 |k+1,x0,x7,x8,WR=>if x8<x7 then(if 0≤x8 then(if x8<(x0.length:Int)then((pR.f k (xH x0 x8) WR).bind fun azW=>(if azW=true then(some x8)else(aX.l0 k x0 x7 (wrap64 (x8+1)) WR)))else(none))else(none))else(some (-1))
def aX.f(k:Nat)(l0:List (List ByteArray))(wM:ByteArray):Option (Int):=aX.l0 k l0 (l0.length:Int) 0 wM
set_option maxHeartbeats 8000000 in
set_option maxRecDepth 100000 in
theorem aX.calls(k:Nat)(A0:Option Addr)(c0:Nat)(l0:List (List ByteArray))(CG:Nat)(wM:ByteArray)(r:Int)(w:World)(hr0:Kd.C (Kd.slice 9 Kd.string) w A0 l0.length l0)(hc0:l0.length≤c0)(Uz:w.heap[CG]? =some (.cells #[.string wM] 9 (0,0)))(h:aX.f k l0 wM=some r):
  Calls Tryz.prog 111 #[.slice A0 l0.length c0, .func (.func 77) #[] #[.pointer (some ⟨CG,0,none⟩)]] w fun e w'=>e= .returned (.int .i64 r)∧Below w.heap.size w w':=by
 have HR0:=ak hr0;have yx:=ak hc0;clear hr0 hc0;have wL:=ak Uz;clear Uz;have HB:=ak (Below.refl w.heap.size w);have H:(aX.l0 k l0 (l0.length:Int) 0 wM)=some r:=h;clear h;have H':=ak H;clear H;go_enter func111,ntmps111;go_wp2;go_loopg [8] k (fun kq v8 w'=>∃(jK:Int),v8= .int .i64 jK∧ah (aX.l0 kq l0 (l0.length:Int) jK wM=some r)∧ah (kq≤k)∧ah (w'.heap[CG]? =some (.cells #[.string wM] 9 (0,0)))∧ah (Below w.heap.size w w'))
 case atStart=>exact⟨(0),rs,H',⟨Nat.le_refl _⟩,⟨ub wL.out⟩,⟨bb⟩⟩
 case round=>
  clear H';try clear c1
  try clear q1
  try clear p2
  obtain⟨jK,rfl,HA,jv,wL,HB⟩:=hrel
  cases gk with
  |zero=>exact absurd HA.out (by simp[aX.l0])
  |succ k1=>
   have H:=HA.out;clear HA;simp only[aX.l0]at H;replace H:=sd H;rcases H with⟨gQ,H⟩|⟨gQ,H⟩
   ·replace H:=oW H;obtain⟨oM,H⟩:=H;replace H:=oW H;obtain⟨sH,H⟩:=H;replace H:=bd H;obtain⟨azW,A6,H⟩:=H;replace H:=sb H;rcases H with⟨rfl,H⟩|⟨rfl,H⟩
    ·obtain rfl:=Option.some.inj H;have aeO:=zi jK;have aeP:=zj jK l0.length;obtain⟨azX,avy,avz,avA,Qn,Qo,Qp⟩:=OT HR0.out jK aeO aeP;cases avA;replace Qn:=cl HB.out Qn;have abp:=ak Qp;have abq:=ak Qo;clear Qp Qo;replace aeO:=eq_true aeO;replace aeP:=eq_true aeP;go_wp2_with (first|(go_at_call 77;(with_reducible refine(pR.calls k1 _ _ (xH l0 jK) CG wM true _ (cu (aK abp.out HB.out)) abq.out (ub wL.out) A6.out).mono ?_);rintro e w8 ⟨rfl,hb⟩;replace wL:=kb wL hb;replace HB:=ak (aI bb hb);(try clear hb)))
     go_ret;exact⟨er,bb⟩
    ·have H':=ak H;clear H;have aeO:=zi jK;have aeP:=zj jK l0.length;obtain⟨azX,avy,avz,avA,Qn,Qo,Qp⟩:=OT HR0.out jK aeO aeP;cases avA;replace Qn:=cl HB.out Qn;have abp:=ak Qp;have abq:=ak Qo;clear Qp Qo;replace aeO:=eq_true aeO;replace aeP:=eq_true aeP;go_wp2_with (first|(go_at_call 77;(with_reducible refine(pR.calls k1 _ _ (xH l0 jK) CG wM false _ (cu (aK abp.out HB.out)) abq.out (ub wL.out) A6.out).mono ?_);rintro e w9 ⟨rfl,hb⟩;replace wL:=kb wL hb;replace HB:=ak (aI bb hb);(try clear hb)))
     go_roundg k1
     case measure=>have:=jv.out;omega
     case rel=>exact⟨(wrap64 (jK+1)),rs,H',⟨by have:=jv.out;omega⟩,⟨ub wL.out⟩,⟨bb⟩⟩
   ·obtain rfl:=Option.some.inj H;go_wp2;go_ret;exact⟨er,bb⟩
def fB.f(k:Nat)(l0:List (List ByteArray))(wM:ByteArray):Option (Bool):=(aX.f k l0 wM).bind fun ami=>(some (decide (ami≥0)))
set_option maxHeartbeats 8000000 in
set_option maxRecDepth 100000 in
theorem fB.calls(k:Nat)(A0:Option Addr)(c0:Nat)(l0:List (List ByteArray))(CG:Nat)(wM:ByteArray)(r:Bool)(w:World)(hr0:Kd.C (Kd.slice 9 Kd.string) w A0 l0.length l0)(hc0:l0.length≤c0)(Uz:w.heap[CG]? =some (.cells #[.string wM] 9 (0,0)))(h:fB.f k l0 wM=some r):
  Calls Tryz.prog 76 #[.slice A0 l0.length c0, .func (.func 77) #[] #[.pointer (some ⟨CG,0,none⟩)]] w fun e w'=>e= .returned (.bool r)∧Below w.heap.size w w':=by
 have HR0:=ak hr0;have yx:=ak hc0;clear hr0 hc0;have wL:=ak Uz;clear Uz;have HB:=ak (Below.refl w.heap.size w);have H:((aX.f k l0 wM).bind fun ami=>(some (decide (ami≥0))))=some r:=h;clear h;replace H:=bd H;obtain⟨ami,A3,H⟩:=H;obtain rfl:=Option.some.inj H;go_enter func76,ntmps76;go_wp2_with (first|(refine gL 111 7 func111 #[.slice A0 l0.length c0, .func (.func 77) #[] #[.pointer (some ⟨CG,0,none⟩)]] ?_;(with_reducible refine(aX.calls k _ _ l0 CG wM ami _ (cu HR0.out) yx.out (ub wL.out) A3.out).mono ?_);rintro e w4 ⟨rfl,hb⟩;refine⟨_,rfl,?_⟩;replace wL:=kb wL hb;replace HB:=ak (aI bb hb);(try clear hb)))
 go_ret;exact⟨er,bb⟩
mutual
def fG.j0:Nat→List (List ByteArray)→Bool→ByteArray→Option (List ByteArray×Bool)
 |0,_,_,_=>none
 |k+1,x0,x21,Gp=>if x21=true then(some (([]:List ByteArray),false))else(fG.l0 k (([]:List ByteArray)) x0 (x0.length:Int) 0 Gp)
def fG.l0:Nat→List ByteArray→List (List ByteArray)→Int→Int→ByteArray→Option (List ByteArray×Bool)
 |0,_,_,_,_,_=>none
 |k+1,x6,x23,x24,x25,Gp=>if x25<x24 then(if 0≤x25 then(if x25<(x23.length:Int)then(if 2+Gp.size≤9223372036854775807 then(if x6.length<8796093022208 then((some (x6++[(⟨#[45,45]⟩:ByteArray)++Gp]:List ByteArray)).bind fun amj=>(if amj.length+(xH x23 x25).length<8796093022208 then(fG.l0 k (amj++(xH x23 x25)) x23 x24 (wrap64 (x25+1)) Gp)else(none)))else(none))else(none))else(none))else(none))else(if 2+Gp.size≤9223372036854775807 then(if((⟨#[45,45]⟩:ByteArray)++Gp).size+2≤9223372036854775807 then(if x6.length<8796093022208 then(some ((x6++[((⟨#[45,45]⟩:ByteArray)++Gp)++(⟨#[45,45]⟩:ByteArray)]),true))else(none))else(none))else(none))
end
def fG.f(k:Nat)(l0:List (List ByteArray))(a1:ByteArray):Option (List ByteArray×Bool):=(lq.f k a1).bind fun apC=>(if apC=true then(if(l0.length:Int)=0 then(fG.j0 k l0 true a1)else((fB.f k l0 a1).bind fun amk=>(fG.j0 k l0 amk a1)))else(fG.j0 k l0 true a1))
theorem fG.calls(k:Nat)(A0:Option Addr)(c0:Nat)(l0:List (List ByteArray))(a1:ByteArray)(r1:List ByteArray)(r2:Bool)(w:World)(hr0:Kd.C (Kd.slice 9 Kd.string) w A0 l0.length l0)(hc0:l0.length≤c0)(h:fG.f k l0 a1=some (r1,r2)):
  Calls Tryz.prog 56 #[.slice A0 l0.length c0, .string a1] w fun e w'=>∃qZ:Value,e= .returned (.tuple #[qZ, .bool r2])∧Kd.R Kd.string 9 w' w.heap.size (fun _=>True) qZ r1∧Below w.heap.size w w':=by
 have HR0:=ak hr0;have yx:=ak hc0;clear hr0 hc0;have HB:=ak (Below.refl w.heap.size w);have H:((lq.f k a1).bind fun apC=>(if apC=true then(if(l0.length:Int)=0 then(fG.j0 k l0 true a1)else((fB.f k l0 a1).bind fun amk=>(fG.j0 k l0 amk a1)))else(fG.j0 k l0 true a1)))=some (r1,r2):=h;clear h;have HC3:=ak H;clear H;go_enter func56,ntmps56;go_upto_region 1 with(refine gG 3 ?_;refine bX HB 3 #[.string a1] 9 ?_;intro zI w4 rH aIQ hb;replace HB:=bs HB hb;clear hb)
 (try simp only[Act.put,jB,jC,l_c]);go_cut [21] (fun v21 wc=>∃(kq:Nat) (aml:Bool),v21= .bool aml∧ah (fG.j0 kq l0 aml a1=some (r1,r2))∧ah (kq≤k)∧ah (wc.heap[zI]? =some (.cells #[.string a1] 9 (0,0)))∧ah (Below w.heap.size w wc))
 case first=>
  have H:=HC3.out;clear HC3;replace H:=bd H;obtain⟨apC,A5,H⟩:=H;replace H:=sb H;rcases H with⟨rfl,H⟩|⟨rfl,H⟩
  ·replace H:=sp H;rcases H with⟨c7,H⟩|⟨c7,H⟩
   ·have rU:=beq_iff_eq.mpr c7;have NZ:=bne_eq_false_iff_eq.mpr c7;clear c7
    (first|rw[rU]|(simp only[bJ,b_];rw[rU])|skip);have H':=ak H;clear H;have Jb:w4.cell? ⟨zI,0,none⟩=some (.string a1):=(aG rH.out 0).trans rfl;have Jc:=jl rH.out 0;go_wp2_with (refine gA func67 (lq.calls k a1 true _ A5.out) ?_;intro nd)
    go_meet
    case rel=>exact⟨_,_,rs,H',⟨YT⟩,⟨ub rH.out⟩,⟨bb⟩⟩
   ·have rU:=beq_eq_false_iff_ne.mpr c7;have NZ:=bne_iff_ne.mpr c7;have aLn:¬(l0=[]):=fun h_=>c7 (by rw[h_];rfl)
    (first|rw[rU]|(simp only[bJ,b_];rw[rU])|skip);replace H:=bd H;obtain⟨amk,A9,H⟩:=H;have H':=ak H;clear H;have IU:w4.cell? ⟨zI,0,none⟩=some (.string a1):=(aG rH.out 0).trans rfl;have IV:=jl rH.out 0;go_wp2_with (first|(refine gA func67 (lq.calls k a1 true _ A5.out) ?_;intro nd)|(go_at_call 76;refine mB (fB.calls k _ _ l0 zI a1 amk _ (cu (aK HR0.out bb)) yx.out (ub rH.out) A9.out) ?_;intro xk hb;replace rH:=kb rH hb;replace HB:=bz HB hb;clear hb))
    go_meet
    case rel=>exact⟨_,_,rs,H',⟨YT⟩,⟨ub rH.out⟩,⟨bb⟩⟩
  ·have H':=ak H;clear H;have abm:w4.cell? ⟨zI,0,none⟩=some (.string a1):=(aG rH.out 0).trans rfl;have abn:=jl rH.out 0;go_wp2_with (refine gA func67 (lq.calls k a1 false _ A5.out) ?_;intro nd)
   go_meet
   case rel=>exact⟨_,_,rs,H',⟨YT⟩,⟨ub rH.out⟩,⟨bb⟩⟩
 case rest=>
  clear HC3;obtain⟨kq,aml,rfl,HA,HJ2,rH,HB⟩:=hcut
  cases kq with
  |zero=>exact zz HA.out
  |succ kj2=>
   obtain⟨H⟩:=HA;simp only[fG.j0]at H;replace H:=sb H;rcases H with⟨rfl,H⟩|⟨rfl,H⟩
   ·obtain⟨rfl,rfl⟩:=s2 H;go_wp2;go_ret2;exact⟨_,er,nx,bb⟩
   ·obtain⟨aLo,asR⟩:=nm ([]:List ByteArray);rw[←asR.out]at H;have H':=ak H;clear H;go_wp2_with (refine gG 22 ?_;refine lRN 22 Kd.string 9 asR ?_;intro aLp Ut OW hb;have azY:=ak (bP (xO OW (g:=zI) (o:= .cells #[.string a1] 9 (0,0)) (ub rH.out)) (aj bb));replace rH:=kb rH hb;replace HB:=bz HB hb;clear hb OW)
    go_loopg [6,25] kj2 (fun kq v6 v25 w'=>∃(Vd:List ByteArray) (UH:Int),v25= .int .i64 UH∧ah (fG.l0 kq Vd l0 (l0.length:Int) UH a1=some (r1,r2))∧ah (kq≤kj2)∧ah (Kd.R Kd.string 9 w' w.heap.size (fun k_=>k_≠zI) v6 Vd)∧ah (w'.heap[zI]? =some (.cells #[.string a1] 9 (0,0)))∧ah (Below w.heap.size w w'))
    case atStart=>exact⟨_,_,rs,H',⟨Nat.le_refl _⟩,⟨ur (aY azY.out (fun _ hk=>hk.2))⟩,⟨ub rH.out⟩,⟨bb⟩⟩
    case round=>
     clear H';obtain⟨Vd,UH,rfl,HA,HK2,pF,rH,HB⟩:=hrel
     cases gk with
     |zero=>exact zz HA.out
     |succ k2=>
      obtain⟨H⟩:=HA;simp only[fG.l0]at H;replace H:=sd H;rcases H with⟨EI,H⟩|⟨EI,H⟩
      ·replace H:=oW H;obtain⟨yM,H⟩:=H;replace H:=oW H;obtain⟨H7,H⟩:=H;replace H:=nn H;obtain⟨c19,H⟩:=H;have Kz:=eq_true c19;have Pz:=decide_eq_true c19;try have aIR:(9223372036854775807<2+a1.size)=False:=eq_false (Nat.not_lt.2 c19)
       replace H:=nl H;obtain⟨akX,H⟩:=H;replace H:=ny H;obtain⟨amj,azZ,H⟩:=H;replace H:=nl H;obtain⟨ac_,H⟩:=H;obtain⟨aLq,asT⟩:=nm (amj++(xH l0 UH));rw[←asT.out]at H;have H':=ak H;clear H;have avC:=zi UH;have avD:=zj UH l0.length;obtain⟨aIS,aGb,aGc,aGd,ahq,ahr,ahs⟩:=OT HR0.out UH avC avD;cases aGd;replace ahq:=cl HB.out ahq;have apD:=ak ahs;have aC8:=ak ahr;clear ahs ahr;replace avC:=eq_true avC;replace avD:=eq_true avD;have IW:wr.cell? ⟨zI,0,none⟩=some (.string a1):=(aG rH.out 0).trans rfl;have IX:=jl rH.out 0;go_wp2_with (first|((with_reducible refine dS (b:= .append) (xs:=#[.tmp 29, .tmp 32]) rfl ?_);(try(refine dW (by rfl) ?_;dsimp only));at_builtin;refine mD Kd.string (w0:=w) w.heap.size rfl (.tmp 29) (.tmp 32) 23 9 (.string ⟨#[]⟩) 16 rfl underlying23 info9 rfl (by decide) (by omega) u6 Vd ((⟨#[45,45]⟩:ByteArray)++a1) [.string ((⟨#[45,45]⟩:ByteArray)++a1)] (fun k_=>k_≠zI) (fun _=>False) rfl rfl ?aP (fun _ hk=>hk.elim) ?aF ?aO ?aB ?aS ?aL ?_;(case aP=>exact rfl);(case aB=>exact bb);(case aF=>exact(fun k_ hk=>yA (g:=zI) (o:= .cells #[.string a1] 9 (0,0)) (ub rH.out) k_ hk));(case aO=>exact(ur pF.out));(case aS=>exact(aj bb));(case aL=>have:=akX.out;omega);intro aGe w23 ho hb hg hat;rw[←azZ.out]at ho;have amm:=ak (ho);replace rH:=ak (eu (g:=zI) (o:= .cells #[.string a1] 9 (0,0)) (ub rH.out) hg (Ku pF.out (fun _ hk=>hk)));replace HB:=ak (hb);clear ho hb hg hat pF)|((with_reducible refine dS (b:= .append) (xs:=#[.tmp 34, .tmp 35]) rfl ?_);(try(refine dW (by rfl) ?_;dsimp only));at_builtin;refine oU Kd.string (w0:=w) w.heap.size rfl (.tmp 34) (.tmp 35) 23 9 (.string ⟨#[]⟩) 16 rfl underlying23 info9 rfl (by decide) (by omega) aGe amj (xH l0 UH) _ _ _ (fun k_=>k_≠zI) (fun _=>False) rfl rfl ?aO ?aR (fun _ _ h=>h) (fun _ h=>h.elim) ?aF ?aB ?aS ?aL ?_;(case aR=>repeat(first|exact(aK apD.out HB.out)|(with_reducible refine Kd.iP ?_ _)|(with_reducible refine Kd.iQ ?_ _)|(with_reducible refine Kd.jP ?_)));(case aB=>exact bb);(case aF=>exact(fun k_ hk=>yA (g:=zI) (o:= .cells #[.string a1] 9 (0,0)) (ub rH.out) k_ hk));(case aO=>exact(ur amm.out));(case aS=>exact(aj bb));(case aL=>have:=ac_.out;omega);intro aLr w24 ho hb hg hat;rw[←asT.out]at ho;have az0:=ak (ho);replace rH:=ak (eu (g:=zI) (o:= .cells #[.string a1] 9 (0,0)) (ub rH.out) hg (Ku amm.out (fun _ hk=>hk)));replace HB:=ak (hb);clear ho hb hg hat amm))
       go_roundg k2
       case measure=>exact kl
       case rel=>exact⟨_,_,rs,H',⟨kl⟩,⟨ur az0.out⟩,⟨ub rH.out⟩,⟨bb⟩⟩
      ·replace H:=nn H;obtain⟨c25,H⟩:=H;have acN:=eq_true c25;have az1:=decide_eq_true c25;try have aIT:(9223372036854775807<2+a1.size)=False:=eq_false (Nat.not_lt.2 c25)
       replace H:=nn H;obtain⟨c26,H⟩:=H;have WU:=eq_true c26;have akN:=decide_eq_true c26;try have aIU:(9223372036854775807<2+a1.size+2)=False:=by have h_:=(eq_false (Nat.not_lt.2 c26):(9223372036854775807<((⟨#[45,45]⟩:ByteArray)++a1).size+2)=False);simp only[ByteArray.size_append]at h_;exact h_
       try have aIV:(9223372036854775807<((⟨#[45,45]⟩:ByteArray)++a1).size+2)=False:=eq_false (Nat.not_lt.2 c26)
       replace H:=nl H;obtain⟨amn,H⟩:=H;obtain⟨aLs,asU⟩:=nm (Vd++[((⟨#[45,45]⟩:ByteArray)++a1)++(⟨#[45,45]⟩:ByteArray)]);rw[←asU.out]at H;obtain⟨rfl,rfl⟩:=s2 H;have abe:wr.cell? ⟨zI,0,none⟩=some (.string a1):=(aG rH.out 0).trans rfl;have abf:=jl rH.out 0;go_wp2_with ((with_reducible refine dS (b:= .append) (xs:=#[.tmp 38, .tmp 42]) rfl ?_);(try(refine dW (by rfl) ?_;dsimp only));at_builtin;refine mD Kd.string (w0:=w) w.heap.size rfl (.tmp 38) (.tmp 42) 23 9 (.string ⟨#[]⟩) 16 rfl underlying23 info9 rfl (by decide) (by omega) u6 Vd (((⟨#[45,45]⟩:ByteArray)++a1)++(⟨#[45,45]⟩:ByteArray)) [.string (((⟨#[45,45]⟩:ByteArray)++a1)++(⟨#[45,45]⟩:ByteArray))] (fun k_=>k_≠zI) (fun _=>False) rfl rfl ?aP (fun _ hk=>hk.elim) ?aF ?aO ?aB ?aS ?aL ?_;(case aP=>exact rfl);(case aB=>exact bb);(case aF=>exact(fun k_ hk=>yA (g:=zI) (o:= .cells #[.string a1] 9 (0,0)) (ub rH.out) k_ hk));(case aO=>exact(ur pF.out));(case aS=>exact(aj bb));(case aL=>have:=amn.out;omega);intro aLt w29 ho hb hg hat;rw[←asU.out]at ho;have az2:=ak (ho);replace rH:=ak (eu (g:=zI) (o:= .cells #[.string a1] 9 (0,0)) (ub rH.out) hg (Ku pF.out (fun _ hk=>hk)));replace HB:=ak (hb);clear ho hb hg hat pF)
       go_ret2;exact⟨_,er,ur (aY az2.out (fun _ hk=>trivial)),bb⟩
end Go.Proofs.YtdimppdlfgnhgaaGreatDoor.PFnExactPartAt
