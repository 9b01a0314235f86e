/- Printed walks; conditions: those in each statement. -/
import Derived.Test.YtncdadcmghglkaaGreatDoorVFnPartAtQt
import Derived.Test.YtncdadcmghglkaaGreatDoorVFnPartAtYt
import Derived.Test.YtncdadcmghglkaaGreatDoorPFnPartAtx0
import Derived.Test.YtncdadcmghglkaaGreatDoorPFnPartAtx10
-- short
-- dense
-- sq
-- sq2
namespace Go.Proofs.YtncdadcmghglkaaGreatDoor.PFnPartAt
open Go.RowKit Go.Proofs.YtncdadcmghglkaaGreatDoor.X Go.Proofs.YtncdadcmghglkaaGreatDoorW.bQ Go.Proofs.YtncdadcmghglkaaGreatDoorW.jm Go.Proofs.YtncdadcmghglkaaGreatDoorW.kD
attribute [local go_sem] pV pW sK sN nI nJ pX pY   -- for this text's walks alone
set_option linter.unusedVariables false
set_option maxHeartbeats 8000000
set_option maxRecDepth 100000
set_option linter.unusedSimpArgs false
mutual
def iw.l0:Nat→Int→List (jV)→Int→Int→Option (Int)
 |0,_,_,_,_=>none
 |k+1,x3,x11,x12,DI=>if DI<x12 then(if 0≤DI then(if DI<(x11.length:Int)then((iw.f k ((au x11 DI).f0) ((au x11 DI).f1) ((au x11 DI).f2)).bind fun asa=>(iw.l0 k (wrap64 (x3+asa)) x11 x12 (wrap64 (DI+1))))else(none))else(none))else(some x3)
def iw.f:Nat→List (fP)→List ByteArray→List (jV)→Option (Int)
 |0,_,_,_=>none
 |k+1,bg,bf,aA=>if(aA.length:Int)=0 then(some 1)else(iw.l0 k 0 aA (aA.length:Int) 0)
end
theorem iw.calls (k:Nat):∀(gQ:Option Addr) (gU:Nat) (bg:List (fP)) (f_:Option Addr) (gu:Nat) (bf:List ByteArray) (eP:Option Addr) (dI:Nat) (aA:List (jV)) (r:Int) (w:World) (lI:Kd.C ou w gQ bg.length bg) (lJ:bg.length≤gU) (lK:Kd.C Kd.string w f_ bf.length bf) (lM:bf.length≤gu) (jF:Kd.C k28 w eP aA.length aA) (jG:aA.length≤dI) (h:iw.f k bg bf aA=some r),
  Calls Tryz.prog 78 #[.agg #[.slice gQ bg.length gU, .slice f_ bf.length gu, .slice eP aA.length dI]] w fun e w'=>e= .returned (.int .i64 r)∧Below w.heap.size w w':=by
 induction k using Nat.strongRecOn with
 |_ k ih=>
 intro gQ gU bg f_ gu bf eP dI aA r w lI lJ lK lM jF jG h
 cases k with
 |zero=>exact absurd h (by simp[iw.f])
 |succ k=>
 simp only[iw.f]at h;have Dq:=Tryz.underlying28;have pG:=ak lI;have qy:=ak lJ;clear lI lJ;have sD:=ak lK;have uV:=ak lM;clear lK lM;have jK:=ak jF;have mV:=ak jG;clear jF jG;have HB:=ak (Below.refl w.heap.size w);have H:=h;clear h;replace H:=sp H;rcases H with⟨c2,H⟩|⟨c2,H⟩
 ·have qJ:=beq_iff_eq.mpr c2;have yR:=bne_eq_false_iff_eq.mpr c2;clear c2;obtain rfl:=s1 H;go_enter Tryz.func78,Tryz.ntmps78;go_wp2_with (refine bX HB 1 #[.slice gQ bg.length gU, .slice f_ bf.length gu, .slice eP aA.length dI] 28 ?_;intro ao1 w3 Il awi hb;replace HB:=bs HB hb;clear hb;have z4:=iQ Il.out)
  go_ret;exact⟨er,bb⟩
 ·have qJ:=beq_eq_false_iff_ne.mpr c2;have yR:=bne_iff_ne.mpr c2;have acf:¬(aA=[]):=fun h_=>c2 (by rw[h_];rfl)
  have H':=ak H;clear H;go_enter Tryz.func78,Tryz.ntmps78;go_wp2_with (refine bX HB 1 #[.slice gQ bg.length gU, .slice f_ bf.length gu, .slice eP aA.length dI] 28 ?_;intro ao1 w5 Il awi hb;replace HB:=bs HB hb;clear hb;have z6:=iQ Il.out)
  go_loopg [3,13] k (fun kq v3 v13 w'=>∃(dV:Int) (jH:Int),v3= .int .i64 dV∧v13= .int .i64 jH∧ah (iw.l0 kq dV aA (aA.length:Int) jH=some r)∧ah (kq≤k)∧ah (w'.heap[ao1]? =some (.cells #[(.slice gQ bg.length gU),(.slice f_ bf.length gu),(.slice eP aA.length dI)] 28 (0,0)))∧ah (Below w.heap.size w w'))
  case atStart=>exact⟨_,_,rs,rs,H',⟨Nat.le_refl _⟩,⟨ub Il.out⟩,⟨bb⟩⟩
  case round=>
   clear H';try clear c2
   try clear qJ
   try clear yR
   try clear acf
   obtain⟨dV,jH,rfl,rfl,HA,xK,Il,HB⟩:=hrel
   cases gk with
   |zero=>exact zz HA.out
   |succ k1=>
    obtain⟨H⟩:=HA;simp only[iw.l0]at H;replace H:=sd H;rcases H with⟨tZ,H⟩|⟨tZ,H⟩
    ·replace H:=oL H;obtain⟨uK,H⟩:=H;replace H:=oL H;obtain⟨AZ,H⟩:=H;replace H:=bd H;obtain⟨asa,A10,H⟩:=H;have H':=ak H;clear H;have asb:=zi jH;have asc:=zj jH aA.length;obtain⟨awj,ase,asf,asg,ash,asi,asj,aEU,aex,aey,aez,aeA,aeB,aeC,aeD,aeE,aeF⟩:=xM jK.out jH asb asc;cases aEU;replace aex:=cl HB.out aex;replace aey:=cl HB.out aey;replace aez:=cl HB.out aez;have am1:=ak aeB;have am2:=ak aeA;clear aeB aeA;have am3:=ak aeD;have am4:=ak aeC;clear aeD aeC;have am5:=ak aeF;have am6:=ak aeE;clear aeF aeE;replace asb:=eq_true asb;replace asc:=eq_true asc;go_wp2_with (first|(refine bY HB 5 #[.slice none 0 0, .slice none 0 0, .slice none 0 0] 28 ?_;intro aHW V6 ai_ aHX hg hb;have ag5:=yA Il hg;have ag6:=yB Il hg;replace Il:=kb Il hb;replace HB:=bz HB hb;clear hb hg;have ao2:=ag6.out;have ao3:=ag5.out;have z13:=iQ ai_.out)|(refine gB Tryz.func78 (ih k1 (by have:=xK.out;omega) _ _ ((au aA jH).f0) _ _ ((au aA jH).f1) _ _ ((au aA jH).f2) asa _ (Kd.aI am1.out bb) am2.out (Kd.aI am3.out bb) am4.out (Kd.aI am5.out bb) am6.out A10.out) ?_;intro V3 hb;replace Il:=kp Il #[.slice gQ bg.length gU, .slice f_ bf.length gu, .slice (some awj) aA.length dI] hb;replace ai_:=kp ai_ #[.slice ase ((au aA jH).f0).length asf, .slice asg ((au aA jH).f1).length ash, .slice asi ((au aA jH).f2).length asj] hb;replace HB:=bz HB hb;clear hb))
     go_roundg k1
     case measure=>exact kl
     case rel=>exact⟨_,_,rs,rs,H',⟨kl⟩,⟨ub Il.out⟩,⟨bb⟩⟩
    ·obtain rfl:=s1 H;go_wp2;go_ret;exact⟨er,bb⟩
def lS.f (k:Nat) (bg:List (fP)) (bf:List ByteArray) (aA:List (jV)):Option (Int):=(kG.f k bg bf aA).bind fun awk=>(if awk=true then((iw.f k bg bf aA).bind fun asl=>(some asl))else(some 0))
theorem lS.calls {k gU gu dI:Nat} {gQ f_ eP:Option Addr} {bg:List (fP)} {bf:List ByteArray} {aA:List (jV)} {r:Int} {w:World} (lI:Kd.C ou w gQ bg.length bg) (lJ:bg.length≤gU) (lK:Kd.C Kd.string w f_ bf.length bf) (lM:bf.length≤gu) (jF:Kd.C k28 w eP aA.length aA) (jG:aA.length≤dI) (D9:MaxOk w) (h:lS.f k bg bf aA=some r):
  Calls Tryz.prog 34 #[.agg #[.slice gQ bg.length gU, .slice f_ bf.length gu, .slice eP aA.length dI]] w fun e w'=>e= .returned (.int .i64 r)∧Below w.heap.size w w':=by
 have Dq:=Tryz.underlying28;have pG:=ak lI;have qy:=ak lJ;clear lI lJ;have sD:=ak lK;have uV:=ak lM;clear lK lM;have jK:=ak jF;have mV:=ak jG;clear jF jG;have HG:=ak D9;clear D9;have HB:=ak (Below.refl w.heap.size w);unfold lS.f at h;have H:=h;clear h;replace H:=bd H;obtain⟨awk,A2,H⟩:=H;replace H:=sb H;rcases H with⟨rfl,H⟩|⟨rfl,H⟩
 ·replace H:=bd H;obtain⟨asl,A4,H⟩:=H;obtain rfl:=s1 H;go_enter Tryz.func34,Tryz.ntmps34;go_wp2_with (first|(refine bX HB 1 #[.slice gQ bg.length gU, .slice f_ bf.length gu, .slice eP aA.length dI] 28 ?_;intro awl w5 KP awm hb;replace HB:=bs HB hb;clear hb;have z6:=iQ KP.out)|(refine gB Tryz.func26 (kG.calls (cu (Kd.aI pG.out HB.out)) qy.out (cu (Kd.aI sD.out HB.out)) uV.out (cu (Kd.aI jK.out HB.out)) mV.out ?Af A2.out) ?_;(case Af=>first|exact HG.out|exact MaxOk.below HG.out bb|(repeat(first|exact HG.out|apply MaxOk.drewN|apply MaxOk.drew)));intro w7 hb;replace KP:=kb KP hb;replace HB:=bz HB hb;clear hb;have z8:=iQ KP.out)|(refine gB Tryz.func78 (iw.calls k _ _ bg _ _ bf _ _ aA asl _ (cu (Kd.aI pG.out HB.out)) qy.out (cu (Kd.aI sD.out HB.out)) uV.out (cu (Kd.aI jK.out HB.out)) mV.out A4.out) ?_;intro w9 hb;replace KP:=kb KP hb;replace HB:=bz HB hb;clear hb))
  go_ret;exact⟨er,bb⟩
 ·obtain rfl:=s1 H;go_enter Tryz.func34,Tryz.ntmps34;go_wp2_with (first|(refine bX HB 1 #[.slice gQ bg.length gU, .slice f_ bf.length gu, .slice eP aA.length dI] 28 ?_;intro awl w10 KP awm hb;replace HB:=bs HB hb;clear hb;have z11:=iQ KP.out)|(refine gB Tryz.func26 (kG.calls (cu (Kd.aI pG.out HB.out)) qy.out (cu (Kd.aI sD.out HB.out)) uV.out (cu (Kd.aI jK.out HB.out)) mV.out ?Af A2.out) ?_;(case Af=>first|exact HG.out|exact MaxOk.below HG.out bb|(repeat(first|exact HG.out|apply MaxOk.drewN|apply MaxOk.drew)));intro w12 hb;replace KP:=kb KP hb;replace HB:=bz HB hb;clear hb))
  go_ret;exact⟨er,bb⟩
mutual
def aQ.l0:Nat→ByteArray→Int→Option (Bool)
 |0,_,_=>none
 |k+1,x0,x3=>if x3<(x0.size:Int)then(aQ.j1 k x0 x3 (decide (x3≤200)))else(aQ.j1 k x0 x3 false)
def aQ.j1:Nat→ByteArray→Int→Bool→Option (Bool)
 |0,_,_,_=>none
 |k+1,x0,x3,x11=>if x11=true then(if 0≤x3 then(if x3<(x0.size:Int)then(if(bt x0 x3)<32 then(some false)else(if(bt x0 x3)>126 then(some false)else(aQ.l0 k x0 (wrap64 (x3+1)))))else(none))else(none))else(some (decide ((x0.size:Int)≤200)))
end
def aQ.f (k:Nat) (a0:ByteArray):Option (Bool):=aQ.l0 k a0 0
theorem aQ.calls {k:Nat} {a0:ByteArray} {r:Bool} {w:World} (h:aQ.f k a0=some r):
  Calls Tryz.prog 159 #[.string a0] w fun e w'=>e= .returned (.bool r)∧dO w w':=by
 unfold aQ.f at h;have H:=h;clear h;have H':=ak H;clear H;go_enter Tryz.func159,Tryz.ntmps159;go_wp2;go_loopg [3] k (fun kq v3 w'=>∃(dV:Int),v3= .int .i64 dV∧ah (aQ.l0 kq a0 dV=some r)∧ah (kq≤k)∧dO w w')
 case atStart=>exact⟨_,rs,H',⟨Nat.le_refl _⟩,dn⟩
 case round=>
  clear H';obtain⟨dV,rfl,HA,xK,⟨m1,rfl⟩⟩:=hrel
  cases gk with
  |zero=>exact zz HA.out
  |succ k1=>
   obtain⟨H⟩:=HA;simp only[aQ.l0]at H;have HC2:=ak H;clear H;go_upto_region 2 with(fail)
   go_cut [11] (fun v11 wc=>∃(kq:Nat) (xR:Bool),v11= .bool xR∧ah (aQ.j1 kq a0 dV xR=some r)∧ah (kq≤k1)∧dO w wc)
   case first=>
    have H:=HC2.out;clear HC2;replace H:=sd H;rcases H with⟨iW,H⟩|⟨iW,H⟩
    ·(first|rw[iW]|(simp only[jo,lg];rw[iW])|skip);have H':=ak H;clear H;go_wp2;go_meet
     case rel=>exact⟨_,_,rs,H',⟨kl⟩,dn⟩
    ·(first|rw[iW]|(simp only[jo,lg];rw[iW])|skip);have H':=ak H;clear H;go_wp2;go_meet
     case rel=>exact⟨_,_,rs,H',⟨kl⟩,dn⟩
   case rest=>
    clear HC2;obtain⟨kq,xR,rfl,HA,HJ1,⟨mc1,rfl⟩⟩:=hcut
    cases kq with
    |zero=>exact zz HA.out
    |succ SA=>
     obtain⟨H⟩:=HA;simp only[aQ.j1]at H;replace H:=sb H;rcases H with⟨rfl,H⟩|⟨rfl,H⟩
     ·replace H:=oL H;obtain⟨oz,H⟩:=H;replace H:=oL H;obtain⟨pF,H⟩:=H;replace H:=sd H;rcases H with⟨uK,H⟩|⟨uK,H⟩
      ·obtain rfl:=s1 H;obtain⟨p7,q7,hx7⟩:=bx a0 dV;go_wp2;go_ret;exact⟨rs,dn⟩
      ·replace H:=sp H;rcases H with⟨c10,H⟩|⟨c10,H⟩
       ·have oO:decide (126<(bt a0 dV))=true:=decide_eq_true c10;clear c10;obtain rfl:=s1 H;obtain⟨p7,q7,hx7⟩:=bx a0 dV;obtain⟨p9,q9,hx9⟩:=bx a0 dV;go_wp2;go_ret;exact⟨rs,dn⟩
       ·have oO:decide (126<(bt a0 dV))=false:=decide_eq_false c10;clear c10;have H':=ak H;clear H;obtain⟨p7,q7,hx7⟩:=bx a0 dV;obtain⟨p9,q9,hx9⟩:=bx a0 dV;go_wp2;go_roundg SA
        case measure=>exact kl
        case rel=>exact⟨_,rs,H',⟨kl⟩,dn⟩
     ·obtain rfl:=s1 H;go_wp2;go_ret;exact⟨rs,dn⟩
mutual
def bM.j1:Nat→ByteArray→Option (ByteArray)
 |0,_=>none
 |k+1,x0=>bM.l1 k x0
def bM.l1:Nat→ByteArray→Option (ByteArray)
 |0,_=>none
 |k+1,x0=>if(x0.size:Int)>0 then(if 0≤(wrap64 ((x0.size:Int)-1))then(if(wrap64 ((x0.size:Int)-1))<(x0.size:Int)then(if(bt x0 (wrap64 ((x0.size:Int)-1)))=32 then(if(wrap64 ((x0.size:Int)-1))≤(x0.size:Int)then(bM.l1 k (x0.extract 0 ((wrap64 ((x0.size:Int)-1)):Int).toNat))else(none))else(some x0))else(none))else(none))else(some x0)
def bM.l0:Nat→ByteArray→Option (ByteArray)
 |0,_=>none
 |k+1,x0=>if(x0.size:Int)>0 then(if 0<(x0.size:Int)then(if(bt x0 0)=32 then(if 1≤(x0.size:Int)then(bM.l0 k (x0.extract 1 x0.size))else(none))else(bM.j1 k x0))else(none))else(bM.j1 k x0)
end
def bM.f (k:Nat) (a0:ByteArray):Option (ByteArray):=bM.l0 k a0
theorem bM.calls {k:Nat} {a0 r:ByteArray} {w:World} (h:bM.f k a0=some r):
  Calls Tryz.prog 179 #[.string a0] w fun e w'=>e= .returned (.string r)∧dO w w':=by
 unfold bM.f at h;have H:=h;clear h;have HC2:=ak H;clear H;go_enter Tryz.func179,Tryz.ntmps179;go_upto_block 0 with(fail)
 go_cut [0] (fun v0 wc=>∃(kq:Nat) (t_:ByteArray),v0= .string t_∧ah (bM.j1 kq t_=some r)∧ah (kq≤k)∧dO w wc)
 case first=>
  have H:=HC2.out;clear HC2;have H':=ak H;clear H;go_wp2;go_loopg [0] k (fun kq v0 w'=>∃(t_:ByteArray),v0= .string t_∧ah (bM.l0 kq t_=some r)∧ah (kq≤k)∧dO w w')
  case atStart=>exact⟨_,rs,H',⟨Nat.le_refl _⟩,dn⟩
  case round=>
   clear H';obtain⟨t_,rfl,HA,xK,⟨m1,rfl⟩⟩:=hrel
   cases gk with
   |zero=>exact zz HA.out
   |succ k1=>
    obtain⟨H⟩:=HA;simp only[bM.l0]at H;replace H:=sp H;rcases H with⟨c3,H⟩|⟨c3,H⟩
    ·have iW:decide (0<(t_.size:Int))=true:=decide_eq_true c3;have Ae:decide (0<t_.size)=true:=decide_eq_true (by omega);clear c3
     (first|rw[iW]|(simp only[jo,lg];rw[iW])|skip);replace H:=nn H;obtain⟨c4,H⟩:=H;have rW:=decide_eq_true c4;have SB:decide (0<t_.size)=true:=decide_eq_true (by omega);clear c4;replace H:=sq H;rcases H with⟨pF,Ad,H⟩|⟨c6,pF,Ad,H⟩
     ·replace H:=Du H;obtain⟨tZ,Qd,H⟩:=H;have H':=ak H;clear H;have p5:0≤(0:Int):=(by omega)
      have q5:0<t_.size:=(by have:(0:Int)<(t_.size:Int):=of_decide_eq_true (by assumption);omega)
      have hx5:∀h:0<t_.size,((t_[0]'h).toNat:Int)=bt t_ 0:=yL t_ 0;clear p5;have qi5:(0<(t_.size:Int))=True:=eq_true (of_decide_eq_true (by assumption));replace q5:=eq_true q5;go_wp2;go_roundg k1
      case measure=>exact kl
      case rel=>exact⟨_,rs,H',⟨kl⟩,dn⟩
     ·have H':=ak H;clear H;have p5:0≤(0:Int):=(by omega)
      have q5:0<t_.size:=(by have:(0:Int)<(t_.size:Int):=of_decide_eq_true (by assumption);omega)
      have hx5:∀h:0<t_.size,((t_[0]'h).toNat:Int)=bt t_ 0:=yL t_ 0;clear p5;have qi5:(0<(t_.size:Int))=True:=eq_true (of_decide_eq_true (by assumption));replace q5:=eq_true q5;go_wp2;go_meet
      case rel=>exact⟨_,_,rs,H',⟨kl⟩,dn⟩
    ·have iW:decide (0<(t_.size:Int))=false:=decide_eq_false c3;have Ae:decide (0<t_.size)=false:=decide_eq_false (by omega);clear c3
     (first|rw[iW]|(simp only[jo,lg];rw[iW])|skip);have H':=ak H;clear H;go_wp2;go_meet
     case rel=>exact⟨_,_,rs,H',⟨kl⟩,dn⟩
 case rest=>
  clear HC2;obtain⟨kq,t_,rfl,HA,HJ1,⟨mc1,rfl⟩⟩:=hcut
  cases kq with
  |zero=>exact zz HA.out
  |succ SA=>
   obtain⟨H⟩:=HA;simp only[bM.j1]at H;have H':=ak H;clear H;go_wp2;go_loopg [0] SA (fun kq v0 w'=>∃(KA:ByteArray),v0= .string KA∧ah (bM.l1 kq KA=some r)∧ah (kq≤SA)∧dO w w')
   case atStart=>exact⟨_,rs,H',⟨Nat.le_refl _⟩,dn⟩
   case round=>
    clear H';obtain⟨KA,rfl,HA,HK2,⟨m2,rfl⟩⟩:=hrel
    cases gk with
    |zero=>exact zz HA.out
    |succ k2=>
     obtain⟨H⟩:=HA;simp only[bM.l1]at H;replace H:=sp H;rcases H with⟨c8,H⟩|⟨c8,H⟩
     ·have uK:decide (0<(KA.size:Int))=true:=decide_eq_true c8;have Gg:decide (0<KA.size)=true:=decide_eq_true (by omega);clear c8;obtain⟨Un,LK⟩:∃j_:Int,(wrap64 ((KA.size:Int)-1))=j_:=⟨_,rfl⟩
      replace H:(if 0≤(Un)then(if(Un)<(KA.size:Int)then(if(bt KA (Un))=32 then(if(Un)≤(KA.size:Int)then(bM.l1 k2 (KA.extract 0 ((Un):Int).toNat))else(none))else(some KA))else(none))else(none))=some r:=by first|(rw[LK]at H;exact H)|(simp only[LK]at H⊢;exact H)
      have ao4:(IntKind.i64.wrap ((KA.size:Int)-1))=Un:=(jo _).trans LK;replace H:=oL H;obtain⟨oO,H⟩:=H;replace H:=oL H;obtain⟨vY,H⟩:=H;replace H:=sq H;rcases H with⟨xA,Df,H⟩|⟨c13,xA,Df,H⟩
      ·have vZ:=eq_true (of_decide_eq_true (by assumption):0≤(Un));replace H:=Du H;obtain⟨yM,I9,H⟩:=H;have H':=ak H;clear H;obtain⟨p12,q12,asn⟩:=bx KA (Un);go_wp2;go_roundg k2
       case measure=>exact kl
       case rel=>exact⟨_,(by first|rfl|(simp;done)|(simp only[←LK]<;>(first|rfl|simp))|(simp[*];done)),H',⟨kl⟩,dn⟩
      ·obtain rfl:=s1 H;obtain⟨p12,q12,asn⟩:=bx KA (Un);go_wp2;go_ret;exact⟨by first|rfl|(simp;done)|(simp only[←LK]<;>(first|rfl|simp))|(simp[*];done),dn⟩
     ·have uK:decide (0<(KA.size:Int))=false:=decide_eq_false c8;have Gg:decide (0<KA.size)=false:=decide_eq_false (by omega);clear c8;obtain rfl:=s1 H;go_wp2;go_ret;exact⟨rs,dn⟩
def iC.f (a0:Int):Option (Bool):=if a0≥97 then(if a0≤122 then(some true)else(if a0≥65 then(if a0≤90 then(some true)else(if a0≥48 then(some (decide (a0≤57)))else(some false)))else(if a0≥48 then(some (decide (a0≤57)))else(some false))))else(if a0≥65 then(if a0≤90 then(some true)else(if a0≥48 then(some (decide (a0≤57)))else(some false)))else(if a0≥48 then(some (decide (a0≤57)))else(some false)))
theorem iC.calls {a0:Int} {r:Bool} {w:World} (h:iC.f a0=some r):
  Calls Tryz.prog 183 #[.int .u8 a0] w fun e w'=>e= .returned (.bool r)∧dO w w':=by
 unfold iC.f at h;have H:=h;clear h;replace H:=sp H;rcases H with⟨c2,H⟩|⟨c2,H⟩
 ·have qJ:decide (97≤a0)=true:=decide_eq_true c2;clear c2;replace H:=sd H;rcases H with⟨iW,H⟩|⟨iW,H⟩
  ·obtain rfl:=s1 H;go_enter Tryz.func183,Tryz.ntmps183;go_wp2;go_ret;exact⟨rs,dn⟩
  ·replace H:=sp H;rcases H with⟨c4,H⟩|⟨c4,H⟩
   ·have rW:decide (65≤a0)=true:=decide_eq_true c4;clear c4;replace H:=sd H;rcases H with⟨oz,H⟩|⟨oz,H⟩
    ·obtain rfl:=s1 H;go_enter Tryz.func183,Tryz.ntmps183;go_wp2;go_ret;exact⟨rs,dn⟩
    ·replace H:=sp H;rcases H with⟨c6,H⟩|⟨c6,H⟩
     ·have pF:decide (48≤a0)=true:=decide_eq_true c6;clear c6;obtain rfl:=s1 H;go_enter Tryz.func183,Tryz.ntmps183;go_wp2;go_ret;exact⟨rs,dn⟩
     ·have pF:decide (48≤a0)=false:=decide_eq_false c6;clear c6;obtain rfl:=s1 H;go_enter Tryz.func183,Tryz.ntmps183;go_wp2;go_ret;exact⟨rs,dn⟩
   ·have rW:decide (65≤a0)=false:=decide_eq_false c4;clear c4;replace H:=sp H;rcases H with⟨c7,H⟩|⟨c7,H⟩
    ·have tZ:decide (48≤a0)=true:=decide_eq_true c7;clear c7;obtain rfl:=s1 H;go_enter Tryz.func183,Tryz.ntmps183;go_wp2;go_ret;exact⟨rs,dn⟩
    ·have tZ:decide (48≤a0)=false:=decide_eq_false c7;clear c7;obtain rfl:=s1 H;go_enter Tryz.func183,Tryz.ntmps183;go_wp2;go_ret;exact⟨rs,dn⟩
 ·have qJ:decide (97≤a0)=false:=decide_eq_false c2;clear c2;replace H:=sp H;rcases H with⟨c8,H⟩|⟨c8,H⟩
  ·have uK:decide (65≤a0)=true:=decide_eq_true c8;clear c8;replace H:=sd H;rcases H with⟨AZ,H⟩|⟨AZ,H⟩
   ·obtain rfl:=s1 H;go_enter Tryz.func183,Tryz.ntmps183;go_wp2;go_ret;exact⟨rs,dn⟩
   ·replace H:=sp H;rcases H with⟨c10,H⟩|⟨c10,H⟩
    ·have oO:decide (48≤a0)=true:=decide_eq_true c10;clear c10;obtain rfl:=s1 H;go_enter Tryz.func183,Tryz.ntmps183;go_wp2;go_ret;exact⟨rs,dn⟩
    ·have oO:decide (48≤a0)=false:=decide_eq_false c10;clear c10;obtain rfl:=s1 H;go_enter Tryz.func183,Tryz.ntmps183;go_wp2;go_ret;exact⟨rs,dn⟩
  ·have uK:decide (65≤a0)=false:=decide_eq_false c8;clear c8;replace H:=sp H;rcases H with⟨c11,H⟩|⟨c11,H⟩
   ·have vY:decide (48≤a0)=true:=decide_eq_true c11;clear c11;obtain rfl:=s1 H;go_enter Tryz.func183,Tryz.ntmps183;go_wp2;go_ret;exact⟨rs,dn⟩
   ·have vY:decide (48≤a0)=false:=decide_eq_false c11;clear c11;obtain rfl:=s1 H;go_enter Tryz.func183,Tryz.ntmps183;go_wp2;go_ret;exact⟨rs,dn⟩
mutual
def bU.l0:Nat→ByteArray→Int→Option (Bool)
 |0,_,_=>none
 |k+1,x0,x3=>if x3<(x0.size:Int)then(bU.j1 k x0 x3 (decide (x3≤30)))else(bU.j1 k x0 x3 false)
def bU.j1:Nat→ByteArray→Int→Bool→Option (Bool)
 |0,_,_,_=>none
 |k+1,x0,x3,x11=>if x11=true then(if 0≤x3 then(if x3<(x0.size:Int)then((iC.f (bt x0 x3)).bind fun awn=>(if awn=true then(if x3=0 then(if(bt x0 x3)≤57 then(some false)else(bU.l0 k x0 (wrap64 (x3+1))))else(bU.l0 k x0 (wrap64 (x3+1))))else(if(bt x0 x3)=45 then(if x3=0 then(if(bt x0 x3)≤57 then(some false)else(bU.l0 k x0 (wrap64 (x3+1))))else(bU.l0 k x0 (wrap64 (x3+1))))else(some false))))else(none))else(none))else(if(x0.size:Int)≥1 then(some (decide ((x0.size:Int)≤30)))else(some false))
end
def bU.f (k:Nat) (a0:ByteArray):Option (Bool):=bU.l0 k a0 0
theorem bU.calls {k:Nat} {a0:ByteArray} {r:Bool} {w:World} (h:bU.f k a0=some r):
  Calls Tryz.prog 184 #[.string a0] w fun e w'=>e= .returned (.bool r)∧dO w w':=by
 unfold bU.f at h;have H:=h;clear h;have H':=ak H;clear H;go_enter Tryz.func184,Tryz.ntmps184;go_wp2;go_loopg [3] k (fun kq v3 w'=>∃(dV:Int),v3= .int .i64 dV∧ah (bU.l0 kq a0 dV=some r)∧ah (kq≤k)∧dO w w')
 case atStart=>exact⟨_,rs,H',⟨Nat.le_refl _⟩,dn⟩
 case round=>
  clear H';obtain⟨dV,rfl,HA,xK,⟨m1,rfl⟩⟩:=hrel
  cases gk with
  |zero=>exact zz HA.out
  |succ k1=>
   obtain⟨H⟩:=HA;simp only[bU.l0]at H;have HC2:=ak H;clear H;go_upto_region 2 with(fail)
   go_cut [11] (fun v11 wc=>∃(kq:Nat) (xR:Bool),v11= .bool xR∧ah (bU.j1 kq a0 dV xR=some r)∧ah (kq≤k1)∧dO w wc)
   case first=>
    have H:=HC2.out;clear HC2;replace H:=sd H;rcases H with⟨iW,H⟩|⟨iW,H⟩
    ·(first|rw[iW]|(simp only[jo,lg];rw[iW])|skip);have H':=ak H;clear H;go_wp2;go_meet
     case rel=>exact⟨_,_,rs,H',⟨kl⟩,dn⟩
    ·(first|rw[iW]|(simp only[jo,lg];rw[iW])|skip);have H':=ak H;clear H;go_wp2;go_meet
     case rel=>exact⟨_,_,rs,H',⟨kl⟩,dn⟩
   case rest=>
    clear HC2;obtain⟨kq,xR,rfl,HA,HJ1,⟨mc1,rfl⟩⟩:=hcut
    cases kq with
    |zero=>exact zz HA.out
    |succ SA=>
     obtain⟨H⟩:=HA;simp only[bU.j1]at H;replace H:=sb H;rcases H with⟨rfl,H⟩|⟨rfl,H⟩
     ·replace H:=oL H;obtain⟨oz,H⟩:=H;replace H:=oL H;obtain⟨pF,H⟩:=H;replace H:=bd H;obtain⟨awn,A8,H⟩:=H;replace H:=sb H;rcases H with⟨rfl,H⟩|⟨rfl,H⟩
      ·replace H:=sq H;rcases H with⟨oO,vH,H⟩|⟨c10,oO,vH,H⟩
       ·replace H:=sd H;rcases H with⟨yN,H⟩|⟨yN,H⟩
        ·obtain rfl:=s1 H;obtain⟨p7,q7,hx7⟩:=bx a0 dV;go_wp2_with (refine gA Tryz.func183 (iC.calls A8.out) ?_;intro nd;have p11:0≤(dV:Int):=of_decide_eq_true (by assumption);have q11:dV<(a0.size:Int):=of_decide_eq_true (by assumption);have aaw:=yL a0 dV;replace p11:=eq_true p11;replace q11:=eq_true q11)
         go_ret;exact⟨rs,dn⟩
        ·have H':=ak H;clear H;obtain⟨p7,q7,hx7⟩:=bx a0 dV;go_wp2_with (refine gA Tryz.func183 (iC.calls A8.out) ?_;intro nd;have p11:0≤(dV:Int):=of_decide_eq_true (by assumption);have q11:dV<(a0.size:Int):=of_decide_eq_true (by assumption);have aaw:=yL a0 dV;replace p11:=eq_true p11;replace q11:=eq_true q11)
         go_roundg SA
         case measure=>exact kl
         case rel=>exact⟨_,rs,H',⟨kl⟩,dn⟩
       ·have H':=ak H;clear H;obtain⟨p7,q7,hx7⟩:=bx a0 dV;go_wp2_with (refine gA Tryz.func183 (iC.calls A8.out) ?_;intro nd)
        go_roundg SA
        case measure=>exact kl
        case rel=>exact⟨_,rs,H',⟨kl⟩,dn⟩
      ·replace H:=sq H;rcases H with⟨vZ,Ah,H⟩|⟨c14,vZ,Ah,H⟩
       ·replace H:=sq H;rcases H with⟨yM,I9,H⟩|⟨c15,yM,I9,H⟩
        ·replace H:=sd H;rcases H with⟨vX,H⟩|⟨vX,H⟩
         ·obtain rfl:=s1 H;obtain⟨p7,q7,hx7⟩:=bx a0 dV;go_wp2_with (refine gA Tryz.func183 (iC.calls A8.out) ?_;intro nd;have p13:0≤(dV:Int):=of_decide_eq_true (by assumption);have q13:dV<(a0.size:Int):=of_decide_eq_true (by assumption);have acg:=yL a0 dV;replace p13:=eq_true p13;replace q13:=eq_true q13;have p16:0≤(dV:Int):=of_decide_eq_true (by assumption);have q16:dV<(a0.size:Int):=of_decide_eq_true (by assumption);have hx16:=yL a0 dV;replace p16:=eq_true p16;replace q16:=eq_true q16)
          go_ret;exact⟨rs,dn⟩
         ·have H':=ak H;clear H;obtain⟨p7,q7,hx7⟩:=bx a0 dV;go_wp2_with (refine gA Tryz.func183 (iC.calls A8.out) ?_;intro nd;have p13:0≤(dV:Int):=of_decide_eq_true (by assumption);have q13:dV<(a0.size:Int):=of_decide_eq_true (by assumption);have acg:=yL a0 dV;replace p13:=eq_true p13;replace q13:=eq_true q13;have p16:0≤(dV:Int):=of_decide_eq_true (by assumption);have q16:dV<(a0.size:Int):=of_decide_eq_true (by assumption);have hx16:=yL a0 dV;replace p16:=eq_true p16;replace q16:=eq_true q16)
          go_roundg SA
          case measure=>exact kl
          case rel=>exact⟨_,rs,H',⟨kl⟩,dn⟩
        ·have H':=ak H;clear H;obtain⟨p7,q7,hx7⟩:=bx a0 dV;go_wp2_with (refine gA Tryz.func183 (iC.calls A8.out) ?_;intro nd;have p13:0≤(dV:Int):=of_decide_eq_true (by assumption);have q13:dV<(a0.size:Int):=of_decide_eq_true (by assumption);have acg:=yL a0 dV;replace p13:=eq_true p13;replace q13:=eq_true q13)
         go_roundg SA
         case measure=>exact kl
         case rel=>exact⟨_,rs,H',⟨kl⟩,dn⟩
       ·obtain rfl:=s1 H;obtain⟨p7,q7,hx7⟩:=bx a0 dV;go_wp2_with (refine gA Tryz.func183 (iC.calls A8.out) ?_;intro nd;have p13:0≤(dV:Int):=of_decide_eq_true (by assumption);have q13:dV<(a0.size:Int):=of_decide_eq_true (by assumption);have acg:=yL a0 dV;replace p13:=eq_true p13;replace q13:=eq_true q13)
        go_ret;exact⟨rs,dn⟩
     ·replace H:=sp H;rcases H with⟨c18,H⟩|⟨c18,H⟩
      ·have C_:decide (1≤(a0.size:Int))=true:=decide_eq_true c18;have Uo:decide (1≤a0.size)=true:=decide_eq_true (by omega);clear c18;obtain rfl:=s1 H;go_wp2;go_ret;exact⟨rs,dn⟩
      ·have C_:decide (1≤(a0.size:Int))=false:=decide_eq_false c18;have Uo:decide (1≤a0.size)=false:=decide_eq_false (by omega);clear c18;obtain rfl:=s1 H;go_wp2;go_ret;exact⟨rs,dn⟩
def jC.f (k:Nat) (eX:ByteArray) (fF:ByteArray):Option (Bool):=(bU.f k eX).bind fun awo=>(if awo=true then((aQ.f k fF).bind fun awp=>(if awp=true then(if(fF.size:Int)≤150 then((bM.f k fF).bind fun awq=>(some (awq.toList==fF.toList)))else(some false))else(some false)))else(some false))
theorem jC.calls {k:Nat} {eX fF:ByteArray} {r:Bool} {w:World} (h:jC.f k eX fF=some r):
  Calls Tryz.prog 158 #[.agg #[.string eX, .string fF]] w fun e w'=>e= .returned (.bool r)∧Below w.heap.size w w':=by
 have Gh:=Tryz.underlying69;have HB:=ak (Below.refl w.heap.size w);unfold jC.f at h;have H:=h;clear h;replace H:=bd H;obtain⟨awo,A2,H⟩:=H;replace H:=sb H;rcases H with⟨rfl,H⟩|⟨rfl,H⟩
 ·replace H:=bd H;obtain⟨awp,A4,H⟩:=H;replace H:=sb H;rcases H with⟨rfl,H⟩|⟨rfl,H⟩
  ·replace H:=sp H;rcases H with⟨c6,H⟩|⟨c6,H⟩
   ·have pF:=decide_eq_true c6;have Ad:decide (fF.size≤150)=true:=decide_eq_true (by omega);clear c6;replace H:=bd H;obtain⟨awq,A7,H⟩:=H;obtain rfl:=s1 H;go_enter Tryz.func158,Tryz.ntmps158;go_wp2_with (first|(refine gG 1 ?_;refine bX HB 1 #[.string eX, .string fF] 69 ?_;intro I_ w8 xU Ja hb;replace HB:=bs HB hb;clear hb;have z9:=Dh xU.out)|(go_at_call 184;refine mA (bU.calls A2.out) ?_;intro nd;(try exact dq))|(go_at_call 159;refine mA (aQ.calls A4.out) ?_;intro nd;(try exact dq))|(go_at_call 179;refine mA (bM.calls A7.out) ?_;intro nd;(try exact dq)))
    repeat(go_quiet (first|(refine gG 1 ?_;refine bX HB 1 #[.string eX, .string fF] 69 ?_;intro I_ w8 xU Ja hb;replace HB:=bs HB hb;clear hb;have z9:=Dh xU.out)|(go_at_call 184;refine mA (bU.calls A2.out) ?_;intro nd;(try exact dq))|(go_at_call 159;refine mA (aQ.calls A4.out) ?_;intro nd;(try exact dq))|(go_at_call 179;refine mA (bM.calls A7.out) ?_;intro nd;(try exact dq)));try go_wp2_with (first|(refine gG 1 ?_;refine bX HB 1 #[.string eX, .string fF] 69 ?_;intro I_ w8 xU Ja hb;replace HB:=bs HB hb;clear hb;have z9:=Dh xU.out)|(go_at_call 184;refine mA (bU.calls A2.out) ?_;intro nd;(try exact dq))|(go_at_call 159;refine mA (aQ.calls A4.out) ?_;intro nd;(try exact dq))|(go_at_call 179;refine mA (bM.calls A7.out) ?_;intro nd;(try exact dq))))
    go_ret;exact⟨er,bb⟩
   ·have pF:=decide_eq_false c6;have Ad:decide (fF.size≤150)=false:=decide_eq_false (by omega);clear c6;obtain rfl:=s1 H;go_enter Tryz.func158,Tryz.ntmps158;go_wp2_with (first|(refine gG 1 ?_;refine bX HB 1 #[.string eX, .string fF] 69 ?_;intro I_ w10 xU Ja hb;replace HB:=bs HB hb;clear hb;have z11:=Dh xU.out)|(go_at_call 184;refine mA (bU.calls A2.out) ?_;intro nd;(try exact dq))|(go_at_call 159;refine mA (aQ.calls A4.out) ?_;intro nd;(try exact dq)))
    repeat(go_quiet (first|(refine gG 1 ?_;refine bX HB 1 #[.string eX, .string fF] 69 ?_;intro I_ w10 xU Ja hb;replace HB:=bs HB hb;clear hb;have z11:=Dh xU.out)|(go_at_call 184;refine mA (bU.calls A2.out) ?_;intro nd;(try exact dq))|(go_at_call 159;refine mA (aQ.calls A4.out) ?_;intro nd;(try exact dq)));try go_wp2_with (first|(refine gG 1 ?_;refine bX HB 1 #[.string eX, .string fF] 69 ?_;intro I_ w10 xU Ja hb;replace HB:=bs HB hb;clear hb;have z11:=Dh xU.out)|(go_at_call 184;refine mA (bU.calls A2.out) ?_;intro nd;(try exact dq))|(go_at_call 159;refine mA (aQ.calls A4.out) ?_;intro nd;(try exact dq))))
    go_ret;exact⟨er,bb⟩
  ·obtain rfl:=s1 H;go_enter Tryz.func158,Tryz.ntmps158;go_wp2_with (first|(refine gG 1 ?_;refine bX HB 1 #[.string eX, .string fF] 69 ?_;intro I_ w12 xU Ja hb;replace HB:=bs HB hb;clear hb;have z13:=Dh xU.out)|(go_at_call 184;refine mA (bU.calls A2.out) ?_;intro nd;(try exact dq))|(go_at_call 159;refine mA (aQ.calls A4.out) ?_;intro nd;(try exact dq)))
   repeat(go_quiet (first|(refine gG 1 ?_;refine bX HB 1 #[.string eX, .string fF] 69 ?_;intro I_ w12 xU Ja hb;replace HB:=bs HB hb;clear hb;have z13:=Dh xU.out)|(go_at_call 184;refine mA (bU.calls A2.out) ?_;intro nd;(try exact dq))|(go_at_call 159;refine mA (aQ.calls A4.out) ?_;intro nd;(try exact dq)));try go_wp2_with (first|(refine gG 1 ?_;refine bX HB 1 #[.string eX, .string fF] 69 ?_;intro I_ w12 xU Ja hb;replace HB:=bs HB hb;clear hb;have z13:=Dh xU.out)|(go_at_call 184;refine mA (bU.calls A2.out) ?_;intro nd;(try exact dq))|(go_at_call 159;refine mA (aQ.calls A4.out) ?_;intro nd;(try exact dq))))
   go_ret;exact⟨er,bb⟩
 ·obtain rfl:=s1 H;go_enter Tryz.func158,Tryz.ntmps158;go_wp2_with (first|(refine gG 1 ?_;refine bX HB 1 #[.string eX, .string fF] 69 ?_;intro I_ V3 xU Ja hb;replace HB:=bs HB hb;clear hb;have z15:=Dh xU.out)|(go_at_call 184;refine mA (bU.calls A2.out) ?_;intro nd;(try exact dq)))
  repeat(go_quiet (first|(refine gG 1 ?_;refine bX HB 1 #[.string eX, .string fF] 69 ?_;intro I_ V3 xU Ja hb;replace HB:=bs HB hb;clear hb;have z15:=Dh xU.out)|(go_at_call 184;refine mA (bU.calls A2.out) ?_;intro nd;(try exact dq)));try go_wp2_with (first|(refine gG 1 ?_;refine bX HB 1 #[.string eX, .string fF] 69 ?_;intro I_ V3 xU Ja hb;replace HB:=bs HB hb;clear hb;have z15:=Dh xU.out)|(go_at_call 184;refine mA (bU.calls A2.out) ?_;intro nd;(try exact dq))))
  go_ret;exact⟨er,bb⟩
mutual
def ig.l0:Nat→List (fP)→Int→Option (Bool)
 |0,_,_=>none
 |k+1,x0,x3=>if x3<(x0.length:Int)then(ig.j1 k x0 x3 (decide (x3≤20)))else(ig.j1 k x0 x3 false)
def ig.j1:Nat→List (fP)→Int→Bool→Option (Bool)
 |0,_,_,_=>none
 |k+1,x0,x3,x11=>if x11=true then(if 0≤x3 then(if x3<(x0.length:Int)then((jC.f k ((dU x0 x3).f0) ((dU x0 x3).f1)).bind fun awr=>(if awr=true then(ig.l0 k x0 (wrap64 (x3+1)))else(some false)))else(none))else(none))else(some (decide ((x0.length:Int)≤20)))
end
def ig.f (k:Nat) (l0:List (fP)):Option (Bool):=ig.l0 k l0 0
theorem ig.calls {k c0:Nat} {A0:Option Addr} {l0:List (fP)} {r:Bool} {w:World} (hr0:Kd.C ou w A0 l0.length l0) (hc0:l0.length≤c0) (h:ig.f k l0=some r):
  Calls Tryz.prog 113 #[.slice A0 l0.length c0] w fun e w'=>e= .returned (.bool r)∧Below w.heap.size w w':=by
 have Gh:=Tryz.underlying69;have HR0:=ak hr0;have zH:=ak hc0;clear hr0 hc0;have HB:=ak (Below.refl w.heap.size w);unfold ig.f at h;have H:=h;clear h;have H':=ak H;clear H;go_enter Tryz.func113,Tryz.ntmps113;go_wp2;go_loopg [3] k (fun kq v3 w'=>∃(dV:Int),v3= .int .i64 dV∧ah (ig.l0 kq l0 dV=some r)∧ah (kq≤k)∧ah (Below w.heap.size w w'))
 case atStart=>exact⟨_,rs,H',⟨Nat.le_refl _⟩,⟨ul HB.out⟩⟩
 case round=>
  clear H';obtain⟨dV,rfl,HA,xK,HB⟩:=hrel
  cases gk with
  |zero=>exact zz HA.out
  |succ k1=>
   obtain⟨H⟩:=HA;simp only[ig.l0]at H;have HC2:=ak H;clear H;go_upto_region 2 with(fail)
   go_cut [11] (fun v11 wc=>∃(kq:Nat) (xR:Bool),v11= .bool xR∧ah (ig.j1 kq l0 dV xR=some r)∧ah (kq≤k1)∧ah (Below w.heap.size w wc))
   case first=>
    have H:=HC2.out;clear HC2;replace H:=sd H;rcases H with⟨iW,H⟩|⟨iW,H⟩
    ·(first|rw[iW]|(simp only[jo,lg];rw[iW])|skip);have H':=ak H;clear H;go_wp2;go_meet
     case rel=>exact⟨_,_,rs,H',⟨kl⟩,⟨ul HB.out⟩⟩
    ·(first|rw[iW]|(simp only[jo,lg];rw[iW])|skip);have H':=ak H;clear H;go_wp2;go_meet
     case rel=>exact⟨_,_,rs,H',⟨kl⟩,⟨ul HB.out⟩⟩
   case rest=>
    clear HC2;obtain⟨kq,xR,rfl,HA,HJ1,HB⟩:=hcut
    cases kq with
    |zero=>exact zz HA.out
    |succ SA=>
     obtain⟨H⟩:=HA;simp only[ig.j1]at H;replace H:=sb H;rcases H with⟨rfl,H⟩|⟨rfl,H⟩
     ·replace H:=oL H;obtain⟨oz,H⟩:=H;replace H:=oL H;obtain⟨pF,H⟩:=H;replace H:=bd H;obtain⟨awr,A7,H⟩:=H;replace H:=sb H;rcases H with⟨rfl,H⟩|⟨rfl,H⟩
      ·have H':=ak H;clear H;have ach:=zi dV;have aci:=zj dV l0.length;obtain⟨awt,aso,NJ,NK⟩:=qW HR0.out dV ach aci;cases aso;replace NJ:=cl HB.out NJ;replace NK:=cl HB.out NK;replace ach:=eq_true ach;replace aci:=eq_true aci;go_wp2_with (refine gB Tryz.func158 (jC.calls A7.out) ?_;intro w9 hb;replace HB:=bs HB hb;clear hb)
       go_roundg SA
       case measure=>exact kl
       case rel=>exact⟨_,rs,H',⟨kl⟩,⟨ul HB.out⟩⟩
      ·obtain rfl:=s1 H;have ach:=zi dV;have aci:=zj dV l0.length;obtain⟨awt,aso,NJ,NK⟩:=qW HR0.out dV ach aci;cases aso;replace NJ:=cl HB.out NJ;replace NK:=cl HB.out NK;replace ach:=eq_true ach;replace aci:=eq_true aci;go_wp2_with (refine gB Tryz.func158 (jC.calls A7.out) ?_;intro w10 hb;replace HB:=bs HB hb;clear hb)
       go_ret;exact⟨er,ul HB.out⟩
     ·obtain rfl:=s1 H;go_wp2;go_ret;exact⟨er,ul HB.out⟩
mutual
def eY.l0:Nat→ByteArray→Int→Int→Option (Int)
 |0,_,_,_=>none
 |k+1,x0,x5,x6=>if(wrap64 (x6+1))<(x0.size:Int)then(if 0≤x6 then(if x6<(x0.size:Int)then(if(bt x0 x6)=32 then(if 0≤(wrap64 (x6-1))then(if(wrap64 (x6-1))<(x0.size:Int)then(if(bt x0 (wrap64 (x6-1)))=32 then(eY.j1 k x0 x5 x6 true)else(if 0≤(wrap64 (x6+1))then(eY.j1 k x0 x5 x6 ((bt x0 (wrap64 (x6+1)))==32))else(none)))else(none))else(none))else(eY.j1 k x0 x5 x6 true))else(none))else(none))else(some x5)
def eY.j1:Nat→ByteArray→Int→Int→Bool→Option (Int)
 |0,_,_,_,_=>none
 |k+1,x0,x5,x6,x33=>if x33=true then(eY.l0 k x0 x5 (wrap64 (x6+1)))else(if x6≤40 then(eY.l0 k x0 x6 (wrap64 (x6+1)))else(if x5<0 then(eY.l0 k x0 x6 (wrap64 (x6+1)))else(eY.l0 k x0 x5 (wrap64 (x6+1)))))
end
def eY.f (k:Nat) (a0:ByteArray) (a1:Int):Option (Int):=eY.l0 k a0 (-1) (wrap64 (a1+1))
theorem eY.calls {k:Nat} {a0:ByteArray} {a1 r:Int} {w:World} (h:eY.f k a0 a1=some r):
  Calls Tryz.prog 176 #[.string a0, .int .i64 a1] w fun e w'=>e= .returned (.int .i64 r)∧dO w w':=by
 unfold eY.f at h;have H:=h;clear h;have H':=ak H;clear H;go_enter Tryz.func176,Tryz.ntmps176;go_wp2;go_loopg [5,6] k (fun kq v5 v6 w'=>∃(fD:Int) (fE:Int),v5= .int .i64 fD∧v6= .int .i64 fE∧ah (eY.l0 kq a0 fD fE=some r)∧ah (kq≤k)∧dO w w')
 case atStart=>exact⟨_,_,rs,rs,H',⟨Nat.le_refl _⟩,dn⟩
 case round=>
  clear H';obtain⟨fD,fE,rfl,rfl,HA,xK,⟨m1,rfl⟩⟩:=hrel
  cases gk with
  |zero=>exact zz HA.out
  |succ k1=>
   obtain⟨H⟩:=HA;simp only[eY.l0]at H;replace H:=sp H;rcases H with⟨c3,H⟩|⟨c3,H⟩
   ·have iW:=decide_eq_true c3
    (try(have Ae:decide ((fE+1)<(a0.size:Int))=true:=decide_eq_true (by have h_:=c3;unfold wrap64 at h_;omega)));clear c3;have HC4:=ak H;clear H;go_upto_region 5 with(fail)
    go_cut [33] (fun v33 wc=>∃(kq:Nat) (aja:Bool),v33= .bool aja∧ah (eY.j1 kq a0 fD fE aja=some r)∧ah (kq≤k1)∧dO w wc)
    case first=>
     have H:=HC4.out;clear HC4;replace H:=oL H;obtain⟨oz,H⟩:=H
     (first|rw[oz]|(simp only[jo,lg];rw[oz])|skip);replace H:=oL H;obtain⟨pF,H⟩:=H;replace H:=sq H;rcases H with⟨uK,Gg,H⟩|⟨c8,uK,Gg,H⟩
     ·obtain⟨Un,LK⟩:∃j_:Int,(wrap64 (fE-1))=j_:=⟨_,rfl⟩
      replace H:(if 0≤(Un)then(if(Un)<(a0.size:Int)then(if(bt a0 (Un))=32 then(eY.j1 k1 a0 fD fE true)else(if 0≤(wrap64 (fE+1))then(eY.j1 k1 a0 fD fE ((bt a0 (wrap64 (fE+1)))==32))else(none)))else(none))else(none))=some r:=by first|(rw[LK]at H;exact H)|(simp only[LK]at H⊢;exact H)
      have ao4:(IntKind.i64.wrap (fE-1))=Un:=(jo _).trans LK;replace H:=oL H;obtain⟨oO,H⟩:=H;replace H:=oL H;obtain⟨vY,H⟩:=H;replace H:=sq H;rcases H with⟨xA,Df,H⟩|⟨c13,xA,Df,H⟩
      ·have H':=ak H;clear H;obtain⟨p7,q7,hx7⟩:=bx a0 fE;obtain⟨p12,q12,asn⟩:=bx a0 (Un);go_wp2;go_meet
       case rel=>exact⟨_,_,rs,H',⟨kl⟩,dn⟩
      ·obtain⟨NM,NP⟩:∃j_:Int,(wrap64 (fE+1))=j_:=⟨_,rfl⟩
       replace H:(if 0≤(NM)then(eY.j1 k1 a0 fD fE ((bt a0 (NM))==32))else(none))=some r:=by first|(rw[NP]at H;exact H)|(simp only[NP]at H⊢;exact H)
       (try rw[NP]at iW);have aEV:(IntKind.i64.wrap (fE+1))=NM:=(jo _).trans NP;replace H:=oL H;obtain⟨yM,H⟩:=H;have H':=ak H;clear H;obtain⟨p7,q7,hx7⟩:=bx a0 fE;obtain⟨p12,q12,asn⟩:=bx a0 (Un);obtain⟨p16,q16,hx16⟩:=bx a0 (NM);go_wp2;go_meet
       case rel=>exact⟨_,_,(by first|rfl|(simp;done)|(simp only[←NP]<;>(first|rfl|simp))|(simp[*];done)),H',⟨kl⟩,dn⟩
     ·have H':=ak H;clear H;obtain⟨p7,q7,hx7⟩:=bx a0 fE;go_wp2;go_meet
      case rel=>exact⟨_,_,rs,H',⟨kl⟩,dn⟩
    case rest=>
     clear HC4;try clear c3
     try clear iW
     try clear Ae
     obtain⟨kq,aja,rfl,HA,HJ3,⟨mc3,rfl⟩⟩:=hcut
     cases kq with
     |zero=>exact zz HA.out
     |succ kj3=>
      obtain⟨H⟩:=HA;simp only[eY.j1]at H;replace H:=sb H;rcases H with⟨rfl,H⟩|⟨rfl,H⟩
      ·have H':=ak H;clear H;go_wp2;go_roundg kj3
       case measure=>exact kl
       case rel=>exact⟨_,_,rs,rs,H',⟨kl⟩,dn⟩
      ·replace H:=sd H;rcases H with⟨C_,H⟩|⟨C_,H⟩
       ·have H':=ak H;clear H;go_wp2;go_roundg kj3
        case measure=>exact kl
        case rel=>exact⟨_,_,rs,rs,H',⟨kl⟩,dn⟩
       ·replace H:=sd H;rcases H with⟨D_,H⟩|⟨D_,H⟩
        ·have H':=ak H;clear H;go_wp2;go_roundg kj3
         case measure=>exact kl
         case rel=>exact⟨_,_,rs,rs,H',⟨kl⟩,dn⟩
        ·have H':=ak H;clear H;go_wp2;go_roundg kj3
         case measure=>exact kl
         case rel=>exact⟨_,_,rs,rs,H',⟨kl⟩,dn⟩
   ·have iW:=decide_eq_false c3
    (try(have Ae:decide ((fE+1)<(a0.size:Int))=false:=decide_eq_false (by have h_:=c3;unfold wrap64 at h_;omega)));clear c3;obtain rfl:=s1 H;go_wp2;go_ret;exact⟨rs,dn⟩
end Go.Proofs.YtncdadcmghglkaaGreatDoor.PFnPartAt
