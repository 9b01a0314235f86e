/- Printed walks; conditions: those in each statement. -/
import Derived.Test.YtncdadcmghglkaaGreatDoorVFnExactFormatPartQt
import Derived.Test.YtncdadcmghglkaaGreatDoorVFnExactFormatPartYt
import Derived.Test.YtncdadcmghglkaaGreatDoorPFnExactFormatPartx0
import Derived.Test.YtncdadcmghglkaaGreatDoorPFnExactFormatPartx11
import Derived.Test.YtncdadcmghglkaaGreatDoorPFnExactFormatPartx12
import Derived.Test.YtncdadcmghglkaaGreatDoorPFnExactFormatPartx17
namespace Go.Proofs.YtncdadcmghglkaaGreatDoor.PFnExactFormatPart
open Go.RowKit Go.Proofs.YtncdadcmghglkaaGreatDoor.X Go.Proofs.YtncdadcmghglkaaGreatDoorW.dB Go.Proofs.YtncdadcmghglkaaGreatDoorW.iy Go.Proofs.YtncdadcmghglkaaGreatDoorW.jo
attribute [local go_sem] lU lV oh oq kJ kK lW lX   -- for this text's walks alone
set_option linter.unusedVariables false
set_option linter.unusedSimpArgs false
def ni.f(a0:ByteArray)(a1:ByteArray):Option (Bool):=if 2+a1.size≤9223372036854775807 then(if a0.toList=((⟨#[45,45]⟩:ByteArray)++a1).toList then(some true)else(if((⟨#[45,45]⟩:ByteArray)++a1).size+2≤9223372036854775807 then(some (a0.toList==(((⟨#[45,45]⟩:ByteArray)++a1)++(⟨#[45,45]⟩:ByteArray)).toList))else(none)))else(none)
set_option maxHeartbeats 8000000 in
set_option maxRecDepth 100000 in
theorem ni.calls(a0:ByteArray)(a1:ByteArray)(r:Bool)(w:World)(h:ni.f a0 a1=some r):
  Calls Tryz.prog 115 #[.string a0, .string a1] w fun e w'=>e= .returned (.bool r)∧eH w w':=by
 have H:(if 2+a1.size≤9223372036854775807 then(if a0.toList=((⟨#[45,45]⟩:ByteArray)++a1).toList then(some true)else(if((⟨#[45,45]⟩:ByteArray)++a1).size+2≤9223372036854775807 then(some (a0.toList==(((⟨#[45,45]⟩:ByteArray)++a1)++(⟨#[45,45]⟩:ByteArray)).toList))else(none)))else(none))=some r:=h;clear h;replace H:=nn H;obtain⟨c3,H⟩:=H;have fM:=eq_true c3;have oZ:=decide_eq_true c3;try have Nl:(9223372036854775807<2+a1.size)=False:=eq_false (Nat.not_lt.2 c3)
 replace H:=sq H;rcases H with⟨nM,OE,H⟩|⟨c4,nM,OE,H⟩
 ·obtain rfl:=Option.some.inj H;go_enter Tryz.func115,Tryz.ntmps115;go_wp2;go_ret;exact⟨rs,dn⟩
 ·replace H:=nn H;obtain⟨c5,H⟩:=H;have pU:=eq_true c5;have TI:=decide_eq_true c5;try have azg:(9223372036854775807<2+a1.size+2)=False:=by have h_:=(eq_false (Nat.not_lt.2 c5):(9223372036854775807<((⟨#[45,45]⟩:ByteArray)++a1).size+2)=False);simp only[ByteArray.size_append]at h_;exact h_
  try have azh:(9223372036854775807<((⟨#[45,45]⟩:ByteArray)++a1).size+2)=False:=eq_false (Nat.not_lt.2 c5)
  obtain rfl:=Option.some.inj H;go_enter Tryz.func115,Tryz.ntmps115;go_wp2;go_ret;exact⟨rs,dn⟩
mutual
def bV.j0:Nat→List (List ByteArray)→ByteArray→List ByteArray→Bool→Option (List ByteArray×Bool)
 |0,_,_,_,_=>none
 |k+1,x0,x1,x6,x17=>if x17=true then(some (x6,false))else(bV.l0 k x0 x1 x6 0)
def bV.l0:Nat→List (List ByteArray)→ByteArray→List ByteArray→Int→Option (List ByteArray×Bool)
 |0,_,_,_,_=>none
 |k+1,x0,x1,x6,x7=>if x7<(x0.length:Int)then(if 2+x1.size≤9223372036854775807 then(if x6.length<8796093022208 then(bV.l1 k x0 x1 (x6++[(⟨#[45,45]⟩:ByteArray)++x1]) x7 0)else(none))else(none))else(if 2+x1.size≤9223372036854775807 then(if((⟨#[45,45]⟩:ByteArray)++x1).size+2≤9223372036854775807 then(if x6.length<8796093022208 then(some ((x6++[((⟨#[45,45]⟩:ByteArray)++x1)++(⟨#[45,45]⟩:ByteArray)]),true))else(none))else(none))else(none))
def bV.l1:Nat→List (List ByteArray)→ByteArray→List ByteArray→Int→Int→Option (List ByteArray×Bool)
 |0,_,_,_,_,_=>none
 |k+1,x0,x1,x6,x7,x8=>if 0≤x7 then(if x7<(x0.length:Int)then(if x8<((qC x0 x7).length:Int)then(if 0≤x8 then((ni.f (kV ByteArray.empty (qC x0 x7) x8) x1).bind fun apj=>(if apj=true then(some ((([]:List ByteArray)),false))else(if x6.length<8796093022208 then(bV.l1 k x0 x1 (x6++[kV ByteArray.empty (qC x0 x7) x8]) x7 (wrap64 (x8+1)))else(none))))else(none))else(bV.l0 k x0 x1 x6 (wrap64 (x7+1))))else(none))else(none)
end
def bV.f(k:Nat)(l0:List (List ByteArray))(a1:ByteArray):Option (List ByteArray×Bool):=(some (([]:List ByteArray):List ByteArray)).bind fun Um=>((bQ.f k a1).bind fun ag_=>(if ag_=true then(bV.j0 k l0 a1 Um ((l0.length:Int)==0))else(bV.j0 k l0 a1 Um true)))
set_option maxHeartbeats 8000000 in
set_option maxRecDepth 100000 in
theorem bV.calls(k:Nat)(A0:Option Addr)(c0:Nat)(l0:List (List ByteArray))(a1:ByteArray)(r1:List ByteArray)(r2:Bool)(w:World)(hr0:Kd.C (Kd.slice 9 Kd.string) w A0 l0.length l0)(hc0:l0.length≤c0)(h:bV.f k l0 a1=some (r1,r2)):
  Calls Tryz.prog 109 #[.slice A0 l0.length c0, .string a1] w fun e w'=>∃wH:Value,e= .returned (.tuple #[wH, .bool r2])∧Kd.R Kd.string 9 w' w.heap.size (fun _=>True) wH r1∧Below w.heap.size w w':=by
 have HR0:=ak hr0;have wJ:=ak hc0;clear hr0 hc0;have HB:=ak (Below.refl w.heap.size w);have H:((some (([]:List ByteArray):List ByteArray)).bind fun Um=>((bQ.f k a1).bind fun ag_=>(if ag_=true then(bV.j0 k l0 a1 Um ((l0.length:Int)==0))else(bV.j0 k l0 a1 Um true))))=some (r1,r2):=h;clear h;obtain⟨Um,adE⟩:=nm ([]:List ByteArray);rw[←adE.out]at H
 (try rw[Option.bind_some]at H);have XJ:=ak H;clear H;go_enter Tryz.func109,Tryz.ntmps109;go_upto_region 2 with(first|((with_reducible refine bU (N:=9) rfl ?_);(try(refine aZ (by rfl) ?_;dsimp only));refine Kd.qg Kd.string _ 9 ?hg (N:=9) ?hd (xs:=([]:List ByteArray)) (inner:=[]) (ok:=fun _=>True) (pz:=fun _=>True) ?hr ?hp (fun _ hk=>hk) trivial (Below.refl _ _) (Nat.le_refl _) (by simp) ?_;(case hd=>rfl);(case hg=>rfl);(case hr=>first|(go_simp;done)|(go_simp;rfl));(case hp=>exact(iF.none _ _));intro auk w4 Fg hb rQ jw;clear rQ jw;(first|rw[←adE.out]at Fg|(simp only[Int.reduceToNat]at Fg;rw[←adE.out]at Fg));have aju:=ak (Kd.fA Fg (aA (ul HB.out)));replace HB:=bs HB hb;clear hb Fg))
 (try simp only[Act.put,jI,jJ,l_c]);go_cut [17] (fun v17 wc=>∃(kq:Nat) (O7:Bool),v17= .bool O7∧ah (bV.j0 kq l0 a1 Um O7=some (r1,r2))∧ah (kq≤k)∧ah (Kd.R Kd.string 9 wc w.heap.size (fun _=>True) auk Um)∧ah (Below w.heap.size w wc))
 case first=>
  have H:=XJ.out;clear XJ;replace H:=bd H;obtain⟨ag_,A6,H⟩:=H;replace H:=sb H;rcases H with⟨rfl,H⟩|⟨rfl,H⟩
  ·have H':=ak H;clear H;go_wp2_with (first|(refine gL 157 11 Tryz.func157 #[.string a1] ?_;(with_reducible refine(bQ.calls k a1 true _ A6.out).mono ?_);rintro e w' ⟨rfl,⟨nd,rfl⟩⟩;refine⟨_,rfl,?_⟩))
   go_meet
   case rel=>exact⟨_,(((l0.length:Int)==0)),rs,H',⟨Qw⟩,⟨ur aju.out⟩,⟨ul HB.out⟩⟩
  ·have H':=ak H;clear H;go_wp2_with (first|(refine gL 157 11 Tryz.func157 #[.string a1] ?_;(with_reducible refine(bQ.calls k a1 false _ A6.out).mono ?_);rintro e w' ⟨rfl,⟨nd,rfl⟩⟩;refine⟨_,rfl,?_⟩))
   go_meet
   case rel=>exact⟨_,(true),rs,H',⟨Qw⟩,⟨ur aju.out⟩,⟨ul HB.out⟩⟩
 case rest=>
  clear XJ;try clear c1
  try clear p2
  try clear c7
  obtain⟨kq,O7,rfl,HA,HJ2,mD,HB⟩:=hcut
  cases kq with
  |zero=>exact absurd HA.out (by simp[bV.j0])
  |succ ZX=>
   have H:=HA.out;clear HA;simp only[bV.j0]at H;replace H:=sb H;rcases H with⟨rfl,H⟩|⟨rfl,H⟩
   ·simp only[Option.some.injEq,Prod.mk.injEq]at H;obtain⟨rfl,rfl⟩:=H;go_wp2;go_ret2;exact⟨_,er,ur mD.out,ul HB.out⟩
   ·have H':=ak H;clear H;go_wp2;go_loopg [6,7] ZX (fun kq v6 v7 w'=>∃(Hy:List ByteArray) (uq:Int),v7= .int .i64 uq∧ah (bV.l0 kq l0 a1 Hy uq=some (r1,r2))∧ah (kq≤ZX)∧ah (Kd.R Kd.string 9 w' w.heap.size (fun _=>True) v6 Hy)∧ah (Below w.heap.size w w'))
    case atStart=>exact⟨(Um),(0),rs,H',⟨Nat.le_refl _⟩,⟨ur mD.out⟩,⟨ul HB.out⟩⟩
    case round=>
     clear H';try clear c1
     try clear p2
     try clear c7
     try clear c8
     try clear p2
     obtain⟨Hy,uq,rfl,HA,yT,mD,HB⟩:=hrel
     cases gk with
     |zero=>exact absurd HA.out (by simp[bV.l0])
     |succ k2=>
      have H:=HA.out;clear HA;simp only[bV.l0]at H;replace H:=sd H;rcases H with⟨wQ,H⟩|⟨wQ,H⟩
      ·replace H:=nn H;obtain⟨c10,H⟩:=H;have qj:=eq_true c10;have vI:=decide_eq_true c10;try have ado:(9223372036854775807<2+a1.size)=False:=eq_false (Nat.not_lt.2 c10)
       replace H:=nl H;obtain⟨adF,H⟩:=H;obtain⟨aul,ajv⟩:=nm (Hy++[(⟨#[45,45]⟩:ByteArray)++a1]);rw[←ajv.out]at H
       (try rw[Option.bind_some]at H);have H':=ak H;clear H;go_wp2_with (first|((with_reducible refine dD (b:= .append) (xs:=#[.tmp 25, .tmp 28]) rfl ?_);(try(refine aZ (by rfl) ?_;dsimp only));at_builtin;refine Kd.iR Kd.string (w0:=w) w.heap.size rfl (.tmp 25) (.tmp 28) 23 9 (.string ⟨#[]⟩) 16 rfl Tryz.underlying23 info9 rfl (by decide) (by omega) u6 Hy ((⟨#[45,45]⟩:ByteArray)++a1) [.string ((⟨#[45,45]⟩:ByteArray)++a1)] (fun _=>True) (fun _=>False) rfl rfl ?aP (fun _ hk=>hk.elim) ?aF ?aO ?aB ?aS ?aL ?_;(case aP=>exact rfl);(case aB=>exact(ul HB.out));(case aF=>exact(fun _ _=>trivial));(case aO=>exact(ur mD.out));(case aS=>exact(aA (ul HB.out)));(case aL=>have:=adF.out;omega);intro azi w12 ho hb hg hat;rw[←ajv.out]at ho;have iH:=ak (hb);have iI:=ak (ho);clear HB;clear mD;have HB:=iH;have apk:=iI;clear iH iI;clear ho hb hg hat))
       go_loopg [6,8] k2 (fun kq v6 v8 w'=>∃(wV:List ByteArray) (CG:Int),v8= .int .i64 CG∧ah (bV.l1 kq l0 a1 wV uq CG=some (r1,r2))∧ah (kq≤k2)∧ah (Kd.R Kd.string 9 w' w.heap.size (fun _=>True) v6 wV)∧ah (Below w.heap.size w w'))
       case atStart=>exact⟨(aul),(0),rs,H',⟨Nat.le_refl _⟩,⟨ur apk.out⟩,⟨ul HB.out⟩⟩
       case round=>
        clear H';try clear c1
        try clear p2
        try clear c7
        try clear c8
        try clear c9
        try clear wQ
        try clear c10
        try clear qj
        try clear vI
        try clear ado
        try clear c11
        try clear p2
        obtain⟨wV,CG,rfl,HA,GX,mD,HB⟩:=hrel
        cases gk with
        |zero=>exact absurd HA.out (by simp[bV.l1])
        |succ k3=>
         have H:=HA.out;clear HA;simp only[bV.l1]at H;replace H:=og H;obtain⟨uO,H⟩:=H;replace H:=og H;obtain⟨t_,H⟩:=H;replace H:=sd H;rcases H with⟨xW,H⟩|⟨xW,H⟩
         ·replace H:=og H;obtain⟨Ja,H⟩:=H;replace H:=bd H;obtain⟨apj,A17,H⟩:=H;replace H:=sb H;rcases H with⟨rfl,H⟩|⟨rfl,H⟩
          ·obtain⟨azj,adG⟩:=nm ([]:List ByteArray);rw[←adG.out]at H
           (try rw[Option.bind_some]at H);simp only[Option.some.injEq,Prod.mk.injEq]at H;obtain⟨rfl,rfl⟩:=H;have O8:=zi uq;have O9:=zj uq l0.length;obtain⟨VO,adH,adI,adJ,vT,Bv,Bz⟩:=Iy HR0.out uq O8 O9;cases adJ;replace vT:=cl HB.out vT;have ZY:=ak Bz;have Z4:=ak Bv;clear Bz Bv;replace O8:=eq_true O8;replace O9:=eq_true O9;have XK:=zi uq;have XL:=zj uq l0.length;obtain⟨adK,aly,alz,alA,DN,Jp,Jq⟩:=Iy HR0.out uq XK XL;obtain rfl:VO=adK:=(by injection alA)
           replace DN:=cl HB.out DN;have Un:=ak Jq;have aha:=ak Jp;clear Jq Jp;replace XK:=eq_true XK;replace XL:=eq_true XL;have EP:=Option.some.inj (vT.symm.trans DN);injection EP with EP Xf Xg;subst EP;subst Xg;clear Xf;have XM:=zi CG;have XO:=zj CG ((qC l0 uq).length);obtain⟨apl,alB,Jr⟩:=Kd.jq Un.out CG XM XO;cases alB;replace Jr:=cl HB.out Jr;replace XM:=eq_true XM;replace XO:=eq_true XO;go_wp2_with (first|(refine gL 115 47 Tryz.func115 #[.string (kV ByteArray.empty (qC l0 uq) CG), .string a1] ?_;(with_reducible refine(ni.calls (kV ByteArray.empty (qC l0 uq) CG) a1 true _ A17.out).mono ?_);rintro e w' ⟨rfl,⟨nd,rfl⟩⟩;refine⟨_,rfl,?_⟩)|((with_reducible refine bU (N:=48) rfl ?_);(try(refine aZ (by rfl) ?_;dsimp only));refine Kd.qg Kd.string _ 9 ?hg (N:=48) ?hd (xs:=([]:List ByteArray)) (inner:=[]) (ok:=fun _=>True) (pz:=fun _=>True) ?hr ?hp (fun _ hk=>hk) trivial (Below.refl _ _) (Nat.le_refl _) (by simp) ?_;(case hd=>rfl);(case hg=>rfl);(case hr=>first|(go_simp;done)|(go_simp;rfl));(case hp=>exact(iF.none _ _));intro azk w19 abE hb rQ jw;clear rQ jw;(first|rw[←adG.out]at abE|(simp only[Int.reduceToNat]at abE;rw[←adG.out]at abE));have apm:=ak (Kd.fA (Kd.rE abE (Kd.yB (ur mD.out))) (aA (ul HB.out)));replace mD:=ak (Kd.oN (ur mD.out) (Kd.oO abE) hb);replace HB:=bs HB hb;clear hb abE))
           go_ret2;exact⟨_,er,ur (Kd.dM apm.out (fun _ hk=>trivial)),ul HB.out⟩
          ·replace H:=nl H;obtain⟨VG,H⟩:=H;obtain⟨aum,ajw⟩:=nm (wV++[kV ByteArray.empty (qC l0 uq) CG]);rw[←ajw.out]at H
           (try rw[Option.bind_some]at H);have H':=ak H;clear H;have O8:=zi uq;have O9:=zj uq l0.length;obtain⟨VO,adH,adI,adJ,vT,Bv,Bz⟩:=Iy HR0.out uq O8 O9;cases adJ;replace vT:=cl HB.out vT;have ZY:=ak Bz;have Z4:=ak Bv;clear Bz Bv;replace O8:=eq_true O8;replace O9:=eq_true O9;have XK:=zi uq;have XL:=zj uq l0.length;obtain⟨adK,aly,alz,alA,DN,Jp,Jq⟩:=Iy HR0.out uq XK XL;obtain rfl:VO=adK:=(by injection alA)
           replace DN:=cl HB.out DN;have Un:=ak Jq;have aha:=ak Jp;clear Jq Jp;replace XK:=eq_true XK;replace XL:=eq_true XL;have EP:=Option.some.inj (vT.symm.trans DN);injection EP with EP Xf Xg;subst EP;subst Xg;clear Xf;have XM:=zi CG;have XO:=zj CG ((qC l0 uq).length);obtain⟨apl,alB,Jr⟩:=Kd.jq Un.out CG XM XO;cases alB;replace Jr:=cl HB.out Jr;replace XM:=eq_true XM;replace XO:=eq_true XO;go_wp2_with (first|(refine gL 115 47 Tryz.func115 #[.string (kV ByteArray.empty (qC l0 uq) CG), .string a1] ?_;(with_reducible refine(ni.calls (kV ByteArray.empty (qC l0 uq) CG) a1 false _ A17.out).mono ?_);rintro e w' ⟨rfl,⟨nd,rfl⟩⟩;refine⟨_,rfl,?_⟩;have alC:0≤(uq:Int):=of_decide_eq_true (by assumption);have alD:uq<(l0.length:Int):=of_decide_eq_true (by assumption);obtain⟨apn,aun,auo,aup,Oi,Z5,Z7⟩:=Iy HR0.out uq alC alD;obtain rfl:VO=apn:=(by injection aup);replace Oi:=(HB.out.cell (World.block_lt_of_cell? w _ Oi)).trans Oi;have ahb:=ak Z7;have asJ:=ak Z5;clear Z7 Z5;replace alC:=eq_true alC;replace alD:=eq_true alD;have EP:=Option.some.inj (vT.symm.trans Oi);injection EP with EP Xf Xg;subst EP;subst Xg;clear Xf;have alE:0≤(CG:Int):=of_decide_eq_true (by assumption);have alF:CG<((qC l0 uq).length:Int):=of_decide_eq_true (by assumption);obtain⟨aw3,auq,Uo⟩:=Kd.jq ahb.out CG alE alF;cases auq;replace Uo:=(HB.out.cell (World.block_lt_of_cell? w _ Uo)).trans Uo;replace alE:=eq_true alE;replace alF:=eq_true alF)|((with_reducible refine dD (b:= .append) (xs:=#[.tmp 49, .tmp 57]) rfl ?_);(try(refine aZ (by rfl) ?_;dsimp only));at_builtin;refine Kd.iR Kd.string (w0:=w) w.heap.size rfl (.tmp 49) (.tmp 57) 23 9 (.string ⟨#[]⟩) 16 rfl Tryz.underlying23 info9 rfl (by decide) (by omega) u6 wV (kV ByteArray.empty (qC l0 uq) CG) [.string (kV ByteArray.empty (qC l0 uq) CG)] (fun _=>True) (fun _=>False) rfl rfl ?aP (fun _ hk=>hk.elim) ?aF ?aO ?aB ?aS ?aL ?_;(case aP=>exact rfl);(case aB=>exact(ul HB.out));(case aF=>exact(fun _ _=>trivial));(case aO=>exact(ur mD.out));(case aS=>exact(aA (ul HB.out)));(case aL=>have:=VG.out;omega);intro azl w22 ho hb hg hat;rw[←ajw.out]at ho;have iH:=ak (hb);have iI:=ak (ho);clear HB;clear mD;have HB:=iH;have apo:=iI;clear iH iI;clear ho hb hg hat))
           go_roundg k3
           case measure=>have:=HJ2.out;have:=yT.out;have:=GX.out;omega
           case rel=>exact⟨(aum),(wrap64 (CG+1)),rs,H',⟨by have:=HJ2.out;have:=yT.out;have:=GX.out;omega⟩,⟨ur apo.out⟩,⟨ul HB.out⟩⟩
         ·have H':=ak H;clear H;have O8:=zi uq;have O9:=zj uq l0.length;obtain⟨VO,adH,adI,adJ,vT,Bv,Bz⟩:=Iy HR0.out uq O8 O9;cases adJ;replace vT:=cl HB.out vT;have ZY:=ak Bz;have Z4:=ak Bv;clear Bz Bv;replace O8:=eq_true O8;replace O9:=eq_true O9;go_wp2;go_roundg k3
          case measure=>have:=HJ2.out;have:=yT.out;have:=GX.out;omega
          case rel=>exact⟨(wV),(wrap64 (uq+1)),rs,H',⟨by have:=HJ2.out;have:=yT.out;have:=GX.out;omega⟩,⟨ur mD.out⟩,⟨ul HB.out⟩⟩
      ·replace H:=nn H;obtain⟨c23,H⟩:=H;have G7:=eq_true c23;have Z8:=decide_eq_true c23;try have aw4:(9223372036854775807<2+a1.size)=False:=eq_false (Nat.not_lt.2 c23)
       replace H:=nn H;obtain⟨c24,H⟩:=H;have Rj:=eq_true c24;have ajx:=decide_eq_true c24;try have aw5:(9223372036854775807<2+a1.size+2)=False:=by have h_:=(eq_false (Nat.not_lt.2 c24):(9223372036854775807<((⟨#[45,45]⟩:ByteArray)++a1).size+2)=False);simp only[ByteArray.size_append]at h_;exact h_
       try have aw6:(9223372036854775807<((⟨#[45,45]⟩:ByteArray)++a1).size+2)=False:=eq_false (Nat.not_lt.2 c24)
       replace H:=nl H;obtain⟨adb,H⟩:=H;obtain⟨azm,ajy⟩:=nm (Hy++[((⟨#[45,45]⟩:ByteArray)++a1)++(⟨#[45,45]⟩:ByteArray)]);rw[←ajy.out]at H
       (try rw[Option.bind_some]at H);simp only[Option.some.injEq,Prod.mk.injEq]at H;obtain⟨rfl,rfl⟩:=H;go_wp2_with (first|((with_reducible refine dD (b:= .append) (xs:=#[.tmp 59, .tmp 63]) rfl ?_);(try(refine aZ (by rfl) ?_;dsimp only));at_builtin;refine Kd.iR Kd.string (w0:=w) w.heap.size rfl (.tmp 59) (.tmp 63) 23 9 (.string ⟨#[]⟩) 16 rfl Tryz.underlying23 info9 rfl (by decide) (by omega) u6 Hy (((⟨#[45,45]⟩:ByteArray)++a1)++(⟨#[45,45]⟩:ByteArray)) [.string (((⟨#[45,45]⟩:ByteArray)++a1)++(⟨#[45,45]⟩:ByteArray))] (fun _=>True) (fun _=>False) rfl rfl ?aP (fun _ hk=>hk.elim) ?aF ?aO ?aB ?aS ?aL ?_;(case aP=>exact rfl);(case aB=>exact(ul HB.out));(case aF=>exact(fun _ _=>trivial));(case aO=>exact(ur mD.out));(case aS=>exact(aA (ul HB.out)));(case aL=>have:=adb.out;omega);intro azn w26 ho hb hg hat;rw[←ajy.out]at ho;have iH:=ak (hb);have iI:=ak (ho);clear HB;clear mD;have HB:=iH;have apq:=iI;clear iH iI;clear ho hb hg hat))
       go_ret2;exact⟨_,er,ur apq.out,ul HB.out⟩
mutual
def fV.l0:Nat→List ByteArray→ByteArray→List (List ByteArray)→Int→List (jl)→List ByteArray→List (pq)→Option (List ByteArray)
 |0,_,_,_,_,_,_,_=>none
 |k+1,x3,x5,x7,x8,ahc,ahd,Js=>if x8<(Js.length:Int)then(if 0≤x8 then((fV.f k ((bn Js x8).f0) ((bn Js x8).f1) ((bn Js x8).f2)).bind fun XP=>(if x7.length<5864062014805 then(fV.l0 k x3 x5 (x7++[XP]) (wrap64 (x8+1)) ahc ahd Js)else(none)))else(none))else((bV.f k x7 x5).bind fun ajz=>(if x3.length+ajz.1.length<8796093022208 then(some (x3++ajz.1))else(none)))
def fV.f:Nat→List (jl)→List ByteArray→List (pq)→Option (List ByteArray)
 |0,_,_,_=>none
 |k+1,bM,cZ,aC=>(gu.f k bM).bind fun VP=>(if VP.1.length<8796093022208 then((some (VP.1++[(⟨#[]⟩:ByteArray)]:List ByteArray)).bind fun Jt=>((jE.f k bM).bind fun VQ=>(if VQ.2=true then(fV.l0 k Jt VQ.1 (([]:List (List ByteArray))) 0 bM cZ aC)else(if Jt.length+cZ.length<8796093022208 then(some (Jt++cZ))else(none)))))else(none))
end
set_option maxHeartbeats 8000000 in
set_option maxRecDepth 100000 in
theorem fV.calls(k:Nat):∀(gW:Option Addr) (gX:Nat) (bM:List (jl)) (iM:Option Addr) (iO:Nat) (cZ:List ByteArray) (fF:Option Addr) (dR:Nat) (aC:List (pq)) (r:List ByteArray) (w:World) (mG:Kd.C pV w gW bM.length bM) (mJ:bM.length≤gX) (mM:Kd.C Kd.string w iM cZ.length cZ) (mO:cZ.length≤iO) (jL:Kd.C k28 w fF aC.length aC) (jM:aC.length≤dR) (h:fV.f k bM cZ aC=some r),
  Calls Tryz.prog 67 #[.agg #[.slice gW bM.length gX, .slice iM cZ.length iO, .slice fF aC.length dR]] w fun e w'=>∃wH:Value,e= .returned (wH)∧Kd.R Kd.string 9 w' w.heap.size (fun _=>True) wH r∧Below w.heap.size w w':=by
 induction k using Nat.strongRecOn with
 |_ k ih=>
 intro gW gX bM iM iO cZ fF dR aC r w mG mJ mM mO jL jM h
 cases k with
 |zero=>exact absurd h (by simp[fV.f])
 |succ k=>
 simp only[fV.f]at h;have Na:=Tryz.underlying28;have lY:=ak mG;have lZ:=ak mJ;clear mG mJ;have oQ:=ak mM;have qh:=ak mO;clear mM mO;have jc:=ak jL;have kC:=ak jM;clear jL jM;have HB:=ak (Below.refl w.heap.size w);have H:((gu.f k bM).bind fun VP=>(if VP.1.length<8796093022208 then((some (VP.1++[(⟨#[]⟩:ByteArray)]:List ByteArray)).bind fun Jt=>((jE.f k bM).bind fun VQ=>(if VQ.2=true then(fV.l0 k Jt VQ.1 (([]:List (List ByteArray))) 0 bM cZ aC)else(if Jt.length+cZ.length<8796093022208 then(some (Jt++cZ))else(none)))))else(none)))=some r:=h;clear h;replace H:=bd H;obtain⟨⟨adL,apr⟩,A2,H⟩:=H
 (try dsimp only at H);replace H:=nl H;obtain⟨aps,H⟩:=H;obtain⟨Jt,adM⟩:=nm (adL++[(⟨#[]⟩:ByteArray)]);rw[←adM.out]at H
 (try rw[Option.bind_some]at H);replace H:=bd H;obtain⟨⟨adN,azo⟩,A4,H⟩:=H
 (try dsimp only at H);replace H:=sb H;rcases H with⟨rfl,H⟩|⟨rfl,H⟩
 ·obtain⟨aur,adO⟩:=nm ([]:List (List ByteArray));rw[←adO.out]at H
  (try rw[Option.bind_some]at H);have H':=ak H;clear H;go_enter Tryz.func67,Tryz.ntmps67;go_wp2_with (first|(refine bE 1 #[.slice gW bM.length gX, .slice iM cZ.length iO, .slice fF aC.length dR] 28 ?_;intro O_ hg w6 hbox hb;have kN:=ak (hbox);have apt:=jY HB hg;have apu:=jY HB hg;replace HB:=bs HB hb;clear hb hbox hg;obtain⟨DT,Fv,Hz,DW,Fz,HY⟩:=jP kN.out)|(refine gL 107 14 Tryz.func107 #[.slice gW bM.length gX] ?_;(with_reducible refine(gu.calls k _ _ bM adL apr _ (cu (Kd.aN lY.out HB.out)) lZ.out A2.out).mono ?_);rintro e w8 ⟨alG,rfl,ho0,hb⟩;refine⟨_,rfl,?_⟩;have Pg:=ak (Kd.fA ho0 (aA bb));replace kN:=kb kN hb;replace HB:=ak (aG bb hb);(try clear hb);(try clear ho0))|((with_reducible refine dD (b:= .append) (xs:=#[.tmp 17, .tmp 18]) rfl ?_);at_builtin;refine Kd.iR Kd.string (w0:=w) w.heap.size rfl (.tmp 17) (.tmp 18) 23 9 (.string ⟨#[]⟩) 16 rfl Tryz.underlying23 info9 rfl (by decide) (by omega) alG adL (⟨#[]⟩:ByteArray) [.string (⟨#[]⟩:ByteArray)] (fun _=>True) (fun _=>False) rfl rfl ?aP (fun _ hk=>hk.elim) ?aF ?aO ?aB ?aS ?aL ?_;(case aP=>exact rfl);(case aB=>exact bb);(case aF=>exact(fun _ _=>trivial));(case aO=>exact(ur Pg.out));(case aS=>exact(aA bb));(case aL=>have:=aps.out;omega);intro VR w9 ho hb hg hat;rw[←adM.out]at ho;have iH:=ak (iW (g:=O_) (o:= .cells #[.slice gW bM.length gX, .slice iM cZ.length iO, .slice fF aC.length dR] 28 (0,0)) (ub kN.out) hg (Kd.AP Pg.out kN.out (by decide)));have iI:=ak (hb);have lS:=ak (ho);clear kN;clear HB;clear Pg;have kN:=iH;have HB:=iI;have Es:=lS;clear iH iI lS;clear ho hb hg hat;obtain⟨oz,pX,xB,oC,pY,xC⟩:=jP kN.out)|(refine gL 108 23 Tryz.func108 #[.slice gW bM.length gX] ?_;(with_reducible refine(jE.calls k _ _ bM adN true _ (cu (Kd.aN lY.out HB.out)) lZ.out A4.out).mono ?_);rintro e Cm ⟨rfl,hb⟩;refine⟨_,rfl,?_⟩;replace Es:=rb Es hb;replace kN:=kb kN hb;replace HB:=ak (aG bb hb);(try clear hb))|((with_reducible refine bU (N:=32) rfl ?_);refine Kd.ai2 (Kd.slice 9 Kd.string) _ 23 ?hg (N:=32) ?hd (xs:=([]:List (List ByteArray))) (inner:=[]) (ok:=fun _=>True) (pz:=fun _=>True) ?hr ?hp (fun _ hk=>hk) trivial (Below.refl _ _) (Nat.le_refl _) (by simp) ?_;(case hd=>rfl);(case hg=>rfl);(case hr=>first|(go_simp;done)|(go_simp;rfl));(case hp=>exact(iF.none _ _));intro azp w12 Nc hb rQ jw;clear rQ jw;(first|rw[←adO.out]at Nc|(simp only[Int.reduceToNat]at Nc;rw[←adO.out]at Nc));have apv:=ak (Kd.Zg (Kd.acP Nc (Kd.yB (ur Es.out))) (aA bb));replace Es:=rb Es hb;replace kN:=kb kN hb;replace HB:=ak (aG bb hb);clear hb Nc))
  go_loopg [7,8] k (fun kq v7 v8 w'=>∃(ou:List (List ByteArray)) (iE:Int),v8= .int .i64 iE∧ah (fV.l0 kq Jt adN ou iE bM cZ aC=some r)∧ah (kq≤k)∧ah (Kd.R Kd.string 9 w' w.heap.size (fun _=>True) VR Jt)∧ah (Kd.S (Kd.slice 9 Kd.string) 23 w' w.heap.size (fun k_=>some k_≠(VR:Value).ownBlock) v7 ou)∧ah (w'.heap[O_]? =some (.cells #[(.slice gW bM.length gX),(.slice iM cZ.length iO),(.slice fF aC.length dR)] 28 (0,0)))∧ah (Below w.heap.size w w'))
  case atStart=>exact⟨(aur),(0),rs,H',⟨Nat.le_refl _⟩,⟨ur Es.out⟩,⟨by(with_reducible repeat(first|apply Kd.o7|apply Kd.o8|apply Kd.sF));exact Kd.Dt apv.out (fun _ hk=>hk.2)⟩,⟨ub kN.out⟩,⟨bb⟩⟩
  case round=>
   clear H';try clear c1
   try clear p2
   try clear c3
   try clear c5
   try clear c6
   try clear c10
   try clear oz
   try clear pX
   try clear xB
   try clear DT
   try clear Fv
   try clear Hz
   try clear oC
   try clear pY
   try clear xC
   try clear DW
   try clear Fz
   try clear HY
   obtain⟨ou,iE,rfl,HA,iC,kD,GH,kN,HB⟩:=hrel
   cases gk with
   |zero=>exact absurd HA.out (by simp[fV.l0])
   |succ k1=>
    have H:=HA.out;clear HA;simp only[fV.l0]at H;replace H:=sd H;rcases H with⟨t_,H⟩|⟨t_,H⟩
    ·replace H:=og H;obtain⟨xW,H⟩:=H;replace H:=bd H;obtain⟨XP,A16,H⟩:=H;replace H:=nl H;obtain⟨adP,H⟩:=H;obtain⟨aus,ajA⟩:=nm (ou++[XP]);rw[←ajA.out]at H
     (try rw[Option.bind_some]at H);have H':=ak H;clear H;obtain⟨tq,tu,uG,tC,tH,uH⟩:=jP kN.out;have alH:=zi iE;have alI:=zj iE aC.length;obtain⟨apw,alJ,alK,alL,alM,alN,alO,aut,Z9,Z_,aac,aad,aae,aaf,aag,aah,aai⟩:=BR jc.out iE alH alI;cases aut;replace Z9:=cl HB.out Z9;replace Z_:=cl HB.out Z_;replace aac:=cl HB.out aac;have ahe:=ak aae;have ahf:=ak aad;clear aae aad;have ahg:=ak aag;have ahh:=ak aaf;clear aag aaf;have ahi:=ak aai;have ahj:=ak aah;clear aai aah;replace alH:=eq_true alH;replace alI:=eq_true alI;go_wp2_with (first|(refine gL 67 46 Tryz.func67 #[.agg #[.slice alJ ((bn aC iE).f0).length alK, .slice alL ((bn aC iE).f1).length alM, .slice alN ((bn aC iE).f2).length alO]] ?_;(with_reducible refine(ih k1 (by have:=iC.out;omega) _ _ ((bn aC iE).f0) _ _ ((bn aC iE).f1) _ _ ((bn aC iE).f2) XP _ (cu (Kd.aN ahe.out HB.out)) ahf.out (cu (Kd.aN ahg.out HB.out)) ahh.out (cu (Kd.aN ahi.out HB.out)) ahj.out A16.out).mono ?_);rintro e w19 ⟨azq,rfl,ho0,hb⟩;refine⟨_,rfl,?_⟩;have aaj:=ak (Kd.fA (Kd.rE ho0 (Kd.yB (ur kD.out))) (aA bb));replace kD:=ak (Kd.oN (ur kD.out) (Kd.oO ho0) hb);replace GH:=ak (Kd.EZ (by(with_reducible repeat(first|apply Kd.o7|apply Kd.o8|apply Kd.sF));exact GH.out) (Kd.oO ho0) hb);replace kN:=kb kN hb;replace HB:=ak (aG bb hb);(try clear hb);(try clear ho0);obtain⟨QD,QE,alP⟩:=Kd.eU aaj.out;subst alP)|((with_reducible refine dD (b:= .append) (xs:=#[.tmp 40, .tmp 47]) rfl ?_);at_builtin;refine Kd.Vt (Kd.slice 9 Kd.string) (w0:=w) w.heap.size rfl (.tmp 40) (.tmp 47) 65 23 (.slice none 0 0) 24 rfl Tryz.underlying65 info23 rfl (by decide) (by omega) u7 ou XP [.slice QD XP.length QE] (fun k_=>some k_≠(VR:Value).ownBlock) (fun k_=>some k_=(.slice QD XP.length QE:Value).ownBlock) rfl rfl ?aP (fun k_ hk_=>((Kd.dM (ok':=fun k_=>((fun k_=>some k_≠(VR:Value).ownBlock)) k_∧some k_≠(u7:Value).ownBlock) (Kd.Ci (aaj.out) (Kd.Gi GH.out) (by decide)) (fun k_ hk=>⟨hk.1.2,hk.2⟩))).1 k_ hk_.symm) ?aF ?aO ?aB ?aS ?aL ?_;(case aP=>exact Kd.ai4 (Kd.dM (Kd.Zp rfl (Kd.dM (ok':=fun k_=>((fun k_=>some k_≠(VR:Value).ownBlock)) k_∧some k_≠(u7:Value).ownBlock) (Kd.Ci (aaj.out) (Kd.Gi GH.out) (by decide)) (fun k_ hk=>⟨hk.1.2,hk.2⟩))) (fun _ h_=>h_)));(case aB=>exact bb);(case aF=>exact(fun k_ hk=>Kd.fresh' (Kd.yB (ur kD.out)) k_ hk));(case aO=>exact(by(with_reducible repeat(first|apply Kd.o7|apply Kd.o8|apply Kd.sF));exact Kd.Dt GH.out (fun k_ hk=>⟨hk.1,fun e_=>hk.2 e_⟩)));(case aS=>exact(aA bb));(case aL=>have:=adP.out;omega);intro azr w20 ho hb hg hat;rw[←ajA.out]at ho;have iH:=ak (Kd.NT (ur kD.out) (Kd.Gi (by(with_reducible repeat(first|apply Kd.o7|apply Kd.o8|apply Kd.sF));exact GH.out)) (by decide) hg);have iI:=ak (iW (g:=O_) (o:= .cells #[.slice gW bM.length gX, .slice iM cZ.length iO, .slice (some apw) aC.length dR] 28 (0,0)) (ub kN.out) hg (Kd.akY GH.out kN.out (by decide)));have lS:=ak (hb);have OO:=ak (ho);clear kD;clear kN;clear HB;clear GH;clear aaj;have kD:=iH;have kN:=iI;have HB:=lS;have apx:=OO;clear iH iI lS OO;clear ho hb hg hat))
     go_roundg k1
     case measure=>have:=iC.out;omega
     case rel=>exact⟨(aus),(wrap64 (iE+1)),rs,H',⟨by have:=iC.out;omega⟩,⟨ur (Kd.dM kD.out (fun _ hk=>trivial))⟩,⟨by(with_reducible repeat(first|apply Kd.o7|apply Kd.o8|apply Kd.sF));exact apx.out⟩,⟨ub kN.out⟩,⟨bb⟩⟩
    ·replace H:=bd H;obtain⟨⟨adQ,auu⟩,A22,H⟩:=H
     (try dsimp only at H);replace H:=nl H;obtain⟨ac2,H⟩:=H;obtain⟨azs,ajB⟩:=nm (Jt++adQ);rw[←ajB.out]at H
     (try rw[Option.bind_some]at H);obtain rfl:=Option.some.inj H;obtain⟨T_,Ua,Ub,Uc,Ud,Ue⟩:=jP kN.out;obtain⟨ao5,ao6,alo⟩:=Kd.Zr GH.out;subst alo;go_wp2_with (first|(refine gL 109 52 Tryz.func109 #[.slice ao5 ou.length ao6, .string adN] ?_;(with_reducible refine(bV.calls k1 _ _ ou adN adQ auu _ (cu ((Kd.I5 GH.out).2.2)) ((Kd.I5 GH.out).2.1) A22.out).mono ?_);rintro e w26 ⟨azt,rfl,ho0,hb⟩;refine⟨_,rfl,?_⟩;have Rt:=ak (Kd.fA (Kd.rE ho0 (Kd.yB (ur kD.out))) (aA bb));replace kD:=ak (Kd.oN (ur kD.out) (Kd.oO ho0) hb);replace GH:=ak (Kd.EZ (by(with_reducible repeat(first|apply Kd.o7|apply Kd.o8|apply Kd.sF));exact GH.out) (Kd.oO ho0) hb);replace kN:=kb kN hb;replace HB:=ak (aG bb hb);(try clear hb);(try clear ho0);obtain⟨apy,apz,auv⟩:=Kd.eU Rt.out;subst auv)|((with_reducible refine dD (b:= .append) (xs:=#[.tmp 55, .tmp 56]) rfl ?_);at_builtin;refine Kd.ru Kd.string (w0:=w) w.heap.size rfl (.tmp 55) (.tmp 56) 23 9 (.string ⟨#[]⟩) 16 rfl Tryz.underlying23 info9 rfl (by decide) (by omega) VR Jt adQ _ _ _ (fun k_=>some k_≠(.slice apy adQ.length apz:Value).ownBlock) (fun _=>False) rfl rfl ?aO ?aR (fun _ _ h=>h) (fun _ h=>h.elim) ?aF ?aB ?aS ?aL ?_;(case aR=>repeat(first|exact(Kd.dK Rt.out).2.2|(with_reducible refine Kd.iP ?_ _)|(with_reducible refine Kd.iQ ?_ _)|(with_reducible refine Kd.jK ?_)));(case aB=>exact bb);(case aF=>exact(fun k_ hk=>Kd.fresh' (Kd.yB (ur Rt.out)) k_ hk));(case aO=>exact(ur (Kd.dM kD.out (fun _ hk=>hk.2))));(case aS=>exact(aA bb));(case aL=>have:=ac2.out;omega);intro azu w27 ho hb hg hat;rw[←ajB.out]at ho;have iH:=ak (Kd.Zt (ok:=(fun k_=>some k_≠(.slice apy adQ.length apz:Value).ownBlock)) (by(with_reducible repeat(first|apply Kd.o7|apply Kd.o8|apply Kd.sF));exact Kd.Dt GH.out (fun _ hk=>⟨hk.2,hk.1⟩)) hg hat);have iI:=ak (iW (g:=O_) (o:= .cells #[.slice gW bM.length gX, .slice iM cZ.length iO, .slice fF aC.length dR] 28 (0,0)) (ub kN.out) hg (Kd.AP kD.out kN.out (by decide)));have lS:=ak (Kd.I7 (ok:=(fun _=>True)) (ur Rt.out) hg hat);have OO:=ak (hb);have Zq:=ak (ho);clear GH;clear kN;clear Rt;clear HB;clear kD;have GH:=iH;have kN:=iI;have Rt:=lS;have HB:=OO;have apA:=Zq;clear iH iI lS OO Zq;clear ho hb hg hat))
     go_ret;exact⟨_,er,ur (Kd.dM apA.out (fun _ hk=>trivial)),bb⟩
 ·replace H:=nl H;obtain⟨apB,H⟩:=H;obtain⟨azv,ajC⟩:=nm (Jt++cZ);rw[←ajC.out]at H
  (try rw[Option.bind_some]at H);obtain rfl:=Option.some.inj H;go_enter Tryz.func67,Tryz.ntmps67;go_wp2_with (first|(refine bE 1 #[.slice gW bM.length gX, .slice iM cZ.length iO, .slice fF aC.length dR] 28 ?_;intro O_ hg w30 hbox hb;have kN:=ak (hbox);have apt:=jY HB hg;have apu:=jY HB hg;replace HB:=bs HB hb;clear hb hbox hg;obtain⟨TJ,TK,ZC,TL,TM,ZE⟩:=jP kN.out)|(refine gL 107 14 Tryz.func107 #[.slice gW bM.length gX] ?_;(with_reducible refine(gu.calls k _ _ bM adL apr _ (cu (Kd.aN lY.out HB.out)) lZ.out A2.out).mono ?_);rintro e w32 ⟨alG,rfl,ho0,hb⟩;refine⟨_,rfl,?_⟩;have Pg:=ak (Kd.fA ho0 (aA bb));replace kN:=kb kN hb;replace HB:=ak (aG bb hb);(try clear hb);(try clear ho0))|((with_reducible refine dD (b:= .append) (xs:=#[.tmp 17, .tmp 18]) rfl ?_);at_builtin;refine Kd.iR Kd.string (w0:=w) w.heap.size rfl (.tmp 17) (.tmp 18) 23 9 (.string ⟨#[]⟩) 16 rfl Tryz.underlying23 info9 rfl (by decide) (by omega) alG adL (⟨#[]⟩:ByteArray) [.string (⟨#[]⟩:ByteArray)] (fun _=>True) (fun _=>False) rfl rfl ?aP (fun _ hk=>hk.elim) ?aF ?aO ?aB ?aS ?aL ?_;(case aP=>exact rfl);(case aB=>exact bb);(case aF=>exact(fun _ _=>trivial));(case aO=>exact(ur Pg.out));(case aS=>exact(aA bb));(case aL=>have:=aps.out;omega);intro VR w33 ho hb hg hat;rw[←adM.out]at ho;have iH:=ak (iW (g:=O_) (o:= .cells #[.slice gW bM.length gX, .slice iM cZ.length iO, .slice fF aC.length dR] 28 (0,0)) (ub kN.out) hg (Kd.AP Pg.out kN.out (by decide)));have iI:=ak (hb);have lS:=ak (ho);clear kN;clear HB;clear Pg;have kN:=iH;have HB:=iI;have Es:=lS;clear iH iI lS;clear ho hb hg hat;obtain⟨NP,NQ,Tj,NR,NS,Tm⟩:=jP kN.out)|(refine gL 108 23 Tryz.func108 #[.slice gW bM.length gX] ?_;(with_reducible refine(jE.calls k _ _ bM adN false _ (cu (Kd.aN lY.out HB.out)) lZ.out A4.out).mono ?_);rintro e w35 ⟨rfl,hb⟩;refine⟨_,rfl,?_⟩;replace Es:=rb Es hb;replace kN:=kb kN hb;replace HB:=ak (aG bb hb);(try clear hb);obtain⟨ag3,ag4,ag5,ag6,ag7,ag8⟩:=jP kN.out)|((with_reducible refine dD (b:= .append) (xs:=#[.tmp 28, .tmp 30]) rfl ?_);at_builtin;refine Kd.ru Kd.string (w0:=w) w.heap.size rfl (.tmp 28) (.tmp 30) 23 9 (.string ⟨#[]⟩) 16 rfl Tryz.underlying23 info9 rfl (by decide) (by omega) VR Jt cZ _ _ _ (fun _=>True) (fun _=>False) rfl rfl ?aO ?aR (fun _ _ h=>h) (fun _ h=>h.elim) ?aF ?aB ?aS ?aL ?_;(case aR=>repeat(first|exact(Kd.aN oQ.out HB.out)|(with_reducible refine Kd.iP ?_ _)|(with_reducible refine Kd.iQ ?_ _)|(with_reducible refine Kd.jK ?_)));(case aB=>exact bb);(case aF=>exact(fun _ _=>trivial));(case aO=>exact(ur Es.out));(case aS=>exact(aA bb));(case aL=>have:=apB.out;omega);intro azw w37 ho hb hg hat;rw[←ajC.out]at ho;have iH:=ak (iW (g:=O_) (o:= .cells #[.slice gW bM.length gX, .slice iM cZ.length iO, .slice fF aC.length dR] 28 (0,0)) (ub kN.out) hg (Kd.AP Es.out kN.out (by decide)));have iI:=ak (hb);have lS:=ak (ho);clear kN;clear HB;clear Es;have kN:=iH;have HB:=iI;have apC:=lS;clear iH iI lS;clear ho hb hg hat))
  go_ret;exact⟨_,er,ur apC.out,bb⟩
mutual
def iq.l0:Nat→List ByteArray→Int→Option (Bool)
 |0,_,_=>none
 |k+1,x0,x3=>if x3<(x0.length:Int)then(iq.j1 k x0 x3 (decide (x3≤30)))else(iq.j1 k x0 x3 false)
def iq.j1:Nat→List ByteArray→Int→Bool→Option (Bool)
 |0,_,_,_=>none
 |k+1,x0,x3,x11=>if x11=true then(if 0≤x3 then(if x3<(x0.length:Int)then((aW.f k (kV ByteArray.empty x0 x3)).bind fun apD=>(if apD=true then(iq.l0 k x0 (wrap64 (x3+1)))else(some false)))else(none))else(none))else(some (decide ((x0.length:Int)≤30)))
end
def iq.f(k:Nat)(l0:List ByteArray):Option (Bool):=iq.l0 k l0 0
set_option maxHeartbeats 8000000 in
set_option maxRecDepth 100000 in
theorem iq.calls(k:Nat)(A0:Option Addr)(c0:Nat)(l0:List ByteArray)(r:Bool)(w:World)(hr0:Kd.C Kd.string w A0 l0.length l0)(hc0:l0.length≤c0)(h:iq.f k l0=some r):
  Calls Tryz.prog 114 #[.slice A0 l0.length c0] w fun e w'=>e= .returned (.bool r)∧eH w w':=by
 have HR0:=ak hr0;have wJ:=ak hc0;clear hr0 hc0;have H:(iq.l0 k l0 0)=some r:=h;clear h;have H':=ak H;clear H;go_enter Tryz.func114,Tryz.ntmps114;go_wp2;go_loopg [3] k (fun kq v3 w'=>∃(cO:Int),v3= .int .i64 cO∧ah (iq.l0 kq l0 cO=some r)∧ah (kq≤k)∧eH w w')
 case atStart=>exact⟨(0),rs,H',⟨Nat.le_refl _⟩,dn⟩
 case round=>
  clear H';try clear c1
  obtain⟨cO,rfl,HA,iC,⟨m1,rfl⟩⟩:=hrel
  cases gk with
  |zero=>exact absurd HA.out (by simp[iq.l0])
  |succ k1=>
   have H:=HA.out;clear HA;simp only[iq.l0]at H;have HC2:=ak H;clear H;go_upto_region 2 with(fail)
   go_cut [11] (fun v11 wc=>∃(kq:Nat) (sH:Bool),v11= .bool sH∧ah (iq.j1 kq l0 cO sH=some r)∧ah (kq≤k1)∧eH w wc)
   case first=>
    have H:=HC2.out;clear HC2;replace H:=sd H;rcases H with⟨fM,H⟩|⟨fM,H⟩
    ·(first|rw[fM]|(simp only[bC,bH];rw[fM])|skip);have H':=ak H;clear H;go_wp2;go_meet
     case rel=>exact⟨_,(decide (cO≤30)),rs,H',⟨by have:=iC.out;first|omega|exact Nat.le_refl _⟩,dn⟩
    ·(first|rw[fM]|(simp only[bC,bH];rw[fM])|skip);have H':=ak H;clear H;go_wp2;go_meet
     case rel=>exact⟨_,(false),rs,H',⟨by have:=iC.out;first|omega|exact Nat.le_refl _⟩,dn⟩
   case rest=>
    clear HC2;try clear c1
    try clear p2
    try clear c3
    try clear fM
    obtain⟨kq,sH,rfl,HA,AO,⟨mc1,rfl⟩⟩:=hcut
    cases kq with
    |zero=>exact absurd HA.out (by simp[iq.j1])
    |succ Gj=>
     have H:=HA.out;clear HA;simp only[iq.j1]at H;replace H:=sb H;rcases H with⟨rfl,H⟩|⟨rfl,H⟩
     ·replace H:=og H;obtain⟨pU,H⟩:=H;replace H:=og H;obtain⟨mW,H⟩:=H;replace H:=bd H;obtain⟨apD,A7,H⟩:=H;replace H:=sb H;rcases H with⟨rfl,H⟩|⟨rfl,H⟩
      ·have H':=ak H;clear H;have XQ:=zi cO;have XR:=zj cO l0.length;obtain⟨apE,alQ,ahk⟩:=Kd.jq HR0.out cO XQ XR;cases alQ;replace XQ:=eq_true XQ;replace XR:=eq_true XR;go_wp2_with (first|(refine gL 159 18 Tryz.func159 #[.string (kV ByteArray.empty l0 cO)] ?_;(with_reducible refine(aW.calls Gj (kV ByteArray.empty l0 cO) true _ A7.out).mono ?_);rintro e w' ⟨rfl,⟨nd,rfl⟩⟩;refine⟨_,rfl,?_⟩))
       go_roundg Gj
       case measure=>have:=iC.out;have:=AO.out;omega
       case rel=>exact⟨(wrap64 (cO+1)),rs,H',⟨by have:=iC.out;have:=AO.out;omega⟩,dn⟩
      ·obtain rfl:=Option.some.inj H;have XQ:=zi cO;have XR:=zj cO l0.length;obtain⟨apE,alQ,ahk⟩:=Kd.jq HR0.out cO XQ XR;cases alQ;replace XQ:=eq_true XQ;replace XR:=eq_true XR;go_wp2_with (first|(refine gL 159 18 Tryz.func159 #[.string (kV ByteArray.empty l0 cO)] ?_;(with_reducible refine(aW.calls Gj (kV ByteArray.empty l0 cO) false _ A7.out).mono ?_);rintro e w' ⟨rfl,⟨nd,rfl⟩⟩;refine⟨_,rfl,?_⟩))
       go_ret;exact⟨rs,dn⟩
     ·obtain rfl:=Option.some.inj H;go_wp2;go_ret;exact⟨rs,dn⟩
end Go.Proofs.YtncdadcmghglkaaGreatDoor.PFnExactFormatPart
