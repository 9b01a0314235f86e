/- Printed walks; conditions: those in each statement. -/
import Derived.Test.YtncdadcmghglkaaGreatDoorVFnParseBodyQt
import Derived.Test.YtncdadcmghglkaaGreatDoorVFnParseBodyYt
import Derived.Test.YtncdadcmghglkaaGreatDoorPFnParseBodyx0
import Derived.Test.YtncdadcmghglkaaGreatDoorPFnParseBodyx16
namespace Go.Proofs.YtncdadcmghglkaaGreatDoor.PFnParseBody
open Go.Proofs.YtncdadcmghglkaaGreatDoorW.dK.Kd Go.Proofs.YtncdadcmghglkaaGreatDoorW.oJ.Kd Go.Proofs.Tryz Go.RowKit Go.Proofs.YtncdadcmghglkaaGreatDoor.X Go.Proofs.YtncdadcmghglkaaGreatDoorW.dK Go.Proofs.YtncdadcmghglkaaGreatDoorW.lZ Go.Proofs.YtncdadcmghglkaaGreatDoorW.oJ
attribute [local go_sem] wB wC yO yP uI uJ wE wF   -- for this text's walks alone
set_option linter.unusedVariables false
set_option maxHeartbeats 8000000
set_option maxRecDepth 100000
set_option linter.unusedSimpArgs false
def qK.f(fK:ByteArray)(fP:ByteArray)(a1:ByteArray):Option (Bool):=(vV.f fK a1).bind fun azs=>(some azs)
theorem qK.calls{fK fP a1:ByteArray}{gq1:Nat}{r:Bool}{w:World}(hq1:w.heap[gq1]? =some (.cells #[.string a1] 9 (0,0)))(h:qK.f fK fP a1=some r):
  Calls Tryz.prog 123 #[.agg #[.string fK, .string fP], .pointer (some ⟨gq1,0,none⟩)] w fun e w'=>e= .returned (.bool r)∧Below w.heap.size w w':=by
 have Fg:=underlying69;have yC:=ak hq1;clear hq1;have HB:=ak (Below.refl w.heap.size w);unfold qK.f at h;have H:=h;clear h;replace H:=bd H;obtain⟨azs,A3,H⟩:=H;obtain rfl:=s1 H;go_enter func123,ntmps123;go_wp2_with (first|(refine bY HB 2 #[.string fK, .string fP] 69 ?_;intro aKC w4 ajD aKD hg hb;have ajE:=Bo yC hg;have ajF:=Bq yC hg;replace yC:=kb yC hb;replace HB:=bz HB hb;clear hb hg;have aPV:=ajF.out;have aPW:=ajE.out;have z6:=Am ajD.out;have aG1:w4.cell? ⟨gq1,0,none⟩=some (.string a1):=(bf yC.out 0).trans rfl;have aG2:=gq yC.out 0)|(refine gB func124 (vV.calls A3.out) ?_;intro w8 hb;replace yC:=kb yC hb;replace ajD:=kb ajD hb;replace HB:=bz HB hb;clear hb))
 go_ret;exact⟨er,bb⟩
def fV.l0:Nat→List (fD)→Int→Int→ByteArray→Option (Int)
 |0,_,_,_,_=>none
 |k+1,x0,x7,x8,VO=>if x8<x7 then(if 0≤x8 then(if x8<(x0.length:Int)then((qK.f ((eU x0 x8).f0) ((eU x0 x8).f1) VO).bind fun azt=>(if azt=true then(some x8)else(fV.l0 k x0 x7 (wrap64 (x8+1)) VO)))else(none))else(none))else(some (-1))
def fV.f(k:Nat)(l0:List (fD))(Jt:ByteArray):Option (Int):=fV.l0 k l0 (l0.length:Int) 0 Jt
theorem fV.calls{k c0 L6:Nat}{A0:Option Addr}{l0:List (fD)}{Jt:ByteArray}{r:Int}{w:World}(hr0:Kd.C rP w A0 l0.length l0)(hc0:l0.length≤c0)(Td:w.heap[L6]? =some (.cells #[.string Jt] 9 (0,0)))(h:fV.f k l0 Jt=some r):
  Calls Tryz.prog 122 #[.slice A0 l0.length c0, .func (.func 123) #[] #[.pointer (some ⟨L6,0,none⟩)]] w fun e w'=>e= .returned (.int .i64 r)∧Below w.heap.size w w':=by
 have Fg:=underlying69;have HR0:=ak hr0;have vw:=ak hc0;clear hr0 hc0;have yC:=ak Td;clear Td;have HB:=ak (Below.refl w.heap.size w);unfold fV.f at h;have H:=h;clear h;have H':=ak H;clear H;go_enter func122,ntmps122;go_wp2;go_loopg [8] k (fun kq v8 w'=>∃(mQ:Int),v8= .int .i64 mQ∧ah (fV.l0 kq l0 (l0.length:Int) mQ Jt=some r)∧ah (kq≤k)∧ah (w'.heap[L6]? =some (.cells #[.string Jt] 9 (0,0)))∧ah (Below w.heap.size w w'))
 case atStart=>exact⟨_,rs,H',⟨Nat.le_refl _⟩,⟨ub yC.out⟩,⟨bb⟩⟩
 case round=>
  clear H';obtain⟨mQ,rfl,HA,yN,yC,HB⟩:=hrel
  cases gk with
  |zero=>exact zz HA.out
  |succ k1=>
   obtain⟨H⟩:=HA;simp only[fV.l0]at H;replace H:=sd H;rcases H with⟨jd,H⟩|⟨jd,H⟩
   ·replace H:=nY H;obtain⟨qB,H⟩:=H;replace H:=nY H;obtain⟨nO,H⟩:=H;replace H:=bd H;obtain⟨azt,A6,H⟩:=H;replace H:=sb H;rcases H with⟨rfl,H⟩|⟨rfl,H⟩
    ·obtain rfl:=s1 H;have adf:=zi mQ;have adg:=zj mQ l0.length;obtain⟨azu,atW,OT,OU⟩:=su HR0.out mQ adf adg;cases atW;replace OT:=cl HB.out OT;replace OU:=cl HB.out OU;replace adf:=eq_true adf;replace adg:=eq_true adg;go_wp2_with (go_at_call 123;refine mB (qK.calls (ub yC.out) A6.out) ?_;intro w8 hb;replace yC:=kb yC hb;replace HB:=bz HB hb;clear hb)
     go_ret;exact⟨er,bb⟩
    ·have H':=ak H;clear H;have adf:=zi mQ;have adg:=zj mQ l0.length;obtain⟨azu,atW,OT,OU⟩:=su HR0.out mQ adf adg;cases atW;replace OT:=cl HB.out OT;replace OU:=cl HB.out OU;replace adf:=eq_true adf;replace adg:=eq_true adg;go_wp2_with (go_at_call 123;refine mB (qK.calls (ub yC.out) A6.out) ?_;intro w9 hb;replace yC:=kb yC hb;replace HB:=bz HB hb;clear hb)
     go_roundg k1
     case measure=>exact kl
     case rel=>exact⟨_,rs,H',⟨kl⟩,⟨ub yC.out⟩,⟨bb⟩⟩
   ·obtain rfl:=s1 H;go_wp2;go_ret;exact⟨er,bb⟩
def nK.f(k:Nat)(l0:List (fD))(a1:ByteArray):Option (Int):=(fV.f k l0 a1).bind fun azv=>(some azv)
theorem nK.calls{k c0:Nat}{A0:Option Addr}{l0:List (fD)}{a1:ByteArray}{r:Int}{w:World}(hr0:Kd.C rP w A0 l0.length l0)(hc0:l0.length≤c0)(h:nK.f k l0 a1=some r):
  Calls Tryz.prog 88 #[.slice A0 l0.length c0, .string a1] w fun e w'=>e= .returned (.int .i64 r)∧Below w.heap.size w w':=by
 have HR0:=ak hr0;have vw:=ak hc0;clear hr0 hc0;have HB:=ak (Below.refl w.heap.size w);unfold nK.f at h;have H:=h;clear h;replace H:=bd H;obtain⟨azv,A3,H⟩:=H;obtain rfl:=s1 H;go_enter func88,ntmps88;go_wp2_with (first|(refine bX HB 3 #[.string a1] 9 ?_;intro aKE w4 ajG aKF hb;replace HB:=bs HB hb;clear hb)|(refine gB func122 (fV.calls (cu (aK HR0.out HB.out)) vw.out (ub ajG.out) A3.out) ?_;intro w5 hb;replace ajG:=kb ajG hb;replace HB:=bz HB hb;clear hb))
 go_ret;exact⟨er,bb⟩
def pJ.f(k:Nat)(l0:List (fD))(a1:ByteArray):Option (ByteArray×Bool):=(nK.f k l0 a1).bind fun abk=>(if abk<0 then(some ((⟨#[]⟩:ByteArray),false))else(if 0≤abk then(if abk<(l0.length:Int)then(some ((eU l0 abk).f1,true))else(none))else(none)))
theorem pJ.calls{k c0:Nat}{A0:Option Addr}{l0:List (fD)}{a1 r1:ByteArray}{r2:Bool}{w:World}(hr0:Kd.C rP w A0 l0.length l0)(hc0:l0.length≤c0)(h:pJ.f k l0 a1=some (r1,r2)):
  Calls Tryz.prog 47 #[.slice A0 l0.length c0, .string a1] w fun e w'=>e= .returned (.tuple #[.string r1, .bool r2])∧Below w.heap.size w w':=by
 have HR0:=ak hr0;have vw:=ak hc0;clear hr0 hc0;have HB:=ak (Below.refl w.heap.size w);unfold pJ.f at h;have H:=h;clear h;replace H:=bd H;obtain⟨abk,A3,H⟩:=H;replace H:=sd H;rcases H with⟨qB,H⟩|⟨qB,H⟩
 ·obtain⟨rfl,rfl⟩:=s2 H;go_enter func47,ntmps47;go_wp2_with (refine gB func88 (nK.calls (cu HR0.out) vw.out A3.out) ?_;intro w5 hb;replace HB:=bs HB hb;clear hb)
  go_ret2;exact⟨er,ul HB.out⟩
 ·replace H:=nY H;obtain⟨nP,H⟩:=H;replace H:=nY H;obtain⟨sK,H⟩:=H;obtain⟨rfl,rfl⟩:=s2 H;go_enter func47,ntmps47;go_wp2_with (refine gB func88 (nK.calls (cu HR0.out) vw.out A3.out) ?_;intro w8 hb;replace HB:=bs HB hb;clear hb;have atX:0≤(abk:Int):=of_decide_eq_true (by assumption);have atY:abk<(l0.length:Int):=of_decide_eq_true (by assumption);obtain⟨aKG,aG3,Zq,Zr⟩:=su HR0.out abk atX atY;cases aG3;replace Zq:=(HB.out.cell (World.block_lt_of_cell? w _ Zq)).trans Zq;replace Zr:=(HB.out.cell (World.block_lt_of_cell? w _ Zr)).trans Zr;replace atX:=eq_true atX;replace atY:=eq_true atY)
  go_ret2;exact⟨er,ul HB.out⟩
def kR.l0:Nat→ByteArray→List Int→Int→Option (ByteArray×Int×Bool)
 |0,_,_,_=>none
 |k+1,x0,x5,x6=>if x6<(x0.size:Int)then(if 0≤x6 then(if(bt x0 x6)=34 then(some (strOfNums x5,wrap64 (x6+1),true))else(if(bt x0 x6)=92 then(if(wrap64 (x6+1))=(x0.size:Int)then(some ((⟨#[]⟩:ByteArray),0,false))else(if 0≤(wrap64 (x6+1))then(if(wrap64 (x6+1))<(x0.size:Int)then(if x5.length<140737488355328 then(kR.l0 k x0 (x5++[bt x0 (wrap64 (x6+1))]) (wrap64 ((wrap64 (x6+1))+1)))else(none))else(none))else(none)))else(if x5.length<140737488355328 then(kR.l0 k x0 (x5++[bt x0 x6]) (wrap64 (x6+1)))else(none))))else(none))else(some ((⟨#[]⟩:ByteArray),0,false))
def kR.f(k:Nat)(a0:ByteArray):Option (ByteArray×Int×Bool):=kR.l0 k a0 (([]:List Int)) 1
theorem kR.calls{k:Nat}{a0 r1:ByteArray}{r2:Int}{r3:Bool}{w:World}(h:kR.f k a0=some (r1,r2,r3)):
  Calls Tryz.prog 134 #[.string a0] w fun e w'=>e= .returned (.tuple #[.string r1, .int .i64 r2, .bool r3])∧Below w.heap.size w w':=by
 have HB:=ak (Below.refl w.heap.size w);unfold kR.f at h;have H:=h;clear h;obtain⟨aPX,ap3⟩:=nm ([]:List Int);rw[←ap3.out]at H;have H':=ak H;clear H;go_enter func134,ntmps134;go_wp2_with (refine DR 7 (Kd.int .u8) 5 ap3 ?_;intro aPY w2 ho3 hb;have azw:=ak (aC ho3 (au (ul HB.out)));replace HB:=bs HB hb;clear hb ho3)
 go_loopg [5,6] k (fun kq v5 v6 w'=>∃(dV:List Int) (gZ:Int),v6= .int .i64 gZ∧ah (kR.l0 kq a0 dV gZ=some (r1,r2,r3))∧ah (kq≤k)∧ah (Kd.R (Kd.int .u8) 5 w' w.heap.size (fun _=>True) v5 dV)∧ah (Below w.heap.size w w'))
 case atStart=>exact⟨_,_,rs,H',⟨Nat.le_refl _⟩,⟨ur azw.out⟩,⟨ul HB.out⟩⟩
 case round=>
  clear H';obtain⟨dV,gZ,rfl,HA,yN,ug,HB⟩:=hrel
  cases gk with
  |zero=>exact zz HA.out
  |succ k1=>
   obtain⟨H⟩:=HA;simp only[kR.l0]at H;replace H:=sd H;rcases H with⟨qB,H⟩|⟨qB,H⟩
   ·replace H:=nY H;obtain⟨nO,H⟩:=H;replace H:=sq H;rcases H with⟨sK,Jy,H⟩|⟨c7,sK,Jy,H⟩
    ·obtain⟨rfl,rfl,rfl⟩:=s3 H;obtain⟨p6,q6,hx6⟩:=bx a0 gZ;have aPZ:=uO (P:=Tryz.prog) underlying22 underlying5 underlying9 (wG ug.out);go_wp2;go_ret3;exact⟨er,ul HB.out⟩
    ·replace H:=sq H;rcases H with⟨qj,uN,H⟩|⟨c10,qj,uN,H⟩
     ·replace H:=sq H;rcases H with⟨uM,CB,H⟩|⟨c11,uM,CB,H⟩
      ·obtain⟨rfl,rfl,rfl⟩:=s3 H;obtain⟨p6,q6,hx6⟩:=bx a0 gZ;obtain⟨p9,q9,hx9⟩:=bx a0 gZ;go_wp2;go_ret3;exact⟨er,ul HB.out⟩
      ·obtain⟨TR,I8⟩:∃j_:Int,(wrap64 (gZ+1))=j_:=⟨_,rfl⟩
       replace H:(if 0≤(TR)then(if(TR)<(a0.size:Int)then(if dV.length<140737488355328 then(kR.l0 k1 a0 (dV++[bt a0 (TR)]) (wrap64 ((TR)+1)))else(none))else(none))else(none))=some (r1,r2,r3):=by first|(rw[I8]at H;exact H)|(simp only[I8]at H⊢;exact H)
       (try rw[I8]at uM)
       (try rw[I8]at CB);have att:(IntKind.i64.wrap (gZ+1))=TR:=(gU _).trans I8;replace H:=nY H;obtain⟨xE,H⟩:=H;replace H:=nY H;obtain⟨uy,H⟩:=H;replace H:=nl H;obtain⟨aaZ,H⟩:=H;obtain⟨aP0,ap4⟩:=nm (dV++[bt a0 (TR)]);rw[←ap4.out]at H;have H':=ak H;clear H;obtain⟨p6,q6,hx6⟩:=bx a0 gZ;obtain⟨p9,q9,hx9⟩:=bx a0 gZ;obtain⟨p15,q15,aP1⟩:=bx a0 (TR);go_wp2_with (at_builtin;refine aP 34 38 (Kd.int .u8) 22 5 (.int .u8 0) 1 underlying22 info5 HB (ur ug.out) ap4 (by have:=aaZ.out;omega) ?_;intro aP2 w17 ho hb hg hat;have azx:=ak (ho);replace HB:=ak (hb);clear ho hb hg hat ug)
       go_roundg k1
       case measure=>exact kl
       case rel=>exact⟨_,_,(by first|rfl|(simp;done)|(simp only[←I8]<;>(first|rfl|simp))|(simp[*];done)),H',⟨kl⟩,⟨ur azx.out⟩,⟨ul HB.out⟩⟩
     ·replace H:=nl H;obtain⟨aaO,H⟩:=H;obtain⟨aP3,ap5⟩:=nm (dV++[bt a0 gZ]);rw[←ap5.out]at H;have H':=ak H;clear H;obtain⟨p6,q6,hx6⟩:=bx a0 gZ;obtain⟨p9,q9,hx9⟩:=bx a0 gZ;obtain⟨p18,q18,azy⟩:=bx a0 gZ;go_wp2_with (at_builtin;refine aP 34 38 (Kd.int .u8) 22 5 (.int .u8 0) 1 underlying22 info5 HB (ur ug.out) ap5 (by have:=aaO.out;omega) ?_;intro aP4 w20 ho hb hg hat;have azz:=ak (ho);replace HB:=ak (hb);clear ho hb hg hat ug)
      go_roundg k1
      case measure=>exact kl
      case rel=>exact⟨_,_,rs,H',⟨kl⟩,⟨ur azz.out⟩,⟨ul HB.out⟩⟩
   ·obtain⟨rfl,rfl,rfl⟩:=s3 H;go_wp2;go_ret3;exact⟨er,ul HB.out⟩
def lQ.l0:Nat→ByteArray→Int→Int→Option (Int)
 |0,_,_,_=>none
 |k+1,x0,x1,x5=>if x5<(x0.size:Int)then(if 0≤x5 then(if(bt x0 x5)=34 then(if x5≤(x0.size:Int)then((kR.f k (x0.extract (x5:Int).toNat x0.size)).bind fun ap6=>(if ap6.2.2=true then(lQ.l0 k x0 x1 (wrap64 ((wrap64 (x5+(wrap64 (ap6.2.1-1))))+1)))else(some (-1))))else(none))else(if(bt x0 x5)=x1 then(some x5)else(lQ.l0 k x0 x1 (wrap64 (x5+1)))))else(none))else(some (-1))
def lQ.f(k:Nat)(a0:ByteArray)(a1:Int):Option (Int):=lQ.l0 k a0 a1 0
theorem lQ.calls{k:Nat}{a0:ByteArray}{a1 r:Int}{w:World}(h:lQ.f k a0 a1=some r):
  Calls Tryz.prog 125 #[.string a0, .int .u8 a1] w fun e w'=>e= .returned (.int .i64 r)∧Below w.heap.size w w':=by
 have HB:=ak (Below.refl w.heap.size w);unfold lQ.f at h;have H:=h;clear h;have H':=ak H;clear H;go_enter func125,ntmps125;go_wp2;go_loopg [5] k (fun kq v5 w'=>∃(dV:Int),v5= .int .i64 dV∧ah (lQ.l0 kq a0 a1 dV=some r)∧ah (kq≤k)∧ah (Below w.heap.size w w'))
 case atStart=>exact⟨_,rs,H',⟨Nat.le_refl _⟩,⟨ul HB.out⟩⟩
 case round=>
  clear H';obtain⟨dV,rfl,HA,yN,HB⟩:=hrel
  cases gk with
  |zero=>exact zz HA.out
  |succ k1=>
   obtain⟨H⟩:=HA;simp only[lQ.l0]at H;replace H:=sd H;rcases H with⟨jd,H⟩|⟨jd,H⟩
   ·replace H:=nY H;obtain⟨qB,H⟩:=H;replace H:=sq H;rcases H with⟨nP,zM,H⟩|⟨c6,nP,zM,H⟩
    ·have sK:=eq_true (of_decide_eq_true (by assumption):0≤dV);replace H:=zh H;obtain⟨ru,BI,H⟩:=H;replace H:=bd H;obtain⟨⟨aP5,aP6,aP7⟩,A9,H⟩:=H
     (try dsimp only at H);replace H:=sb H;rcases H with⟨rfl,H⟩|⟨rfl,H⟩
     ·have H':=ak H;clear H;obtain⟨p5,q5,hx5⟩:=bx a0 dV;go_wp2_with (refine gB func134 (kR.calls A9.out) ?_;intro X0 hb;replace HB:=bs HB hb;clear hb)
      go_roundg k1
      case measure=>exact kl
      case rel=>exact⟨_,rs,H',⟨kl⟩,⟨ul HB.out⟩⟩
     ·obtain rfl:=s1 H;obtain⟨p5,q5,hx5⟩:=bx a0 dV;go_wp2_with (refine gB func134 (kR.calls A9.out) ?_;intro w12 hb;replace HB:=bs HB hb;clear hb)
      go_ret;exact⟨er,ul HB.out⟩
    ·replace H:=sq H;rcases H with⟨xE,Bz,H⟩|⟨c13,xE,Bz,H⟩
     ·obtain rfl:=s1 H;obtain⟨p5,q5,hx5⟩:=bx a0 dV;go_wp2;go_ret;exact⟨er,ul HB.out⟩
     ·have H':=ak H;clear H;obtain⟨p5,q5,hx5⟩:=bx a0 dV;go_wp2;go_roundg k1
      case measure=>exact kl
      case rel=>exact⟨_,rs,H',⟨kl⟩,⟨ul HB.out⟩⟩
   ·obtain rfl:=s1 H;go_wp2;go_ret;exact⟨er,ul HB.out⟩
def iY.l0:Nat→ByteArray→Int→List ByteArray→Option (List ByteArray)
 |0,_,_,_=>none
 |k+1,x0,x1,x5=>(lQ.f k x0 x1).bind fun Rj=>(if Rj<0 then(if x5.length<8796093022208 then(some (x5++[x0]))else(none))else(if 0≤Rj then(if Rj≤(x0.size:Int)then(if x5.length<8796093022208 then(if 0≤(wrap64 (Rj+1))then(if(wrap64 (Rj+1))≤(x0.size:Int)then(iY.l0 k (x0.extract ((wrap64 (Rj+1)):Int).toNat x0.size) x1 (x5++[x0.extract 0 (Rj:Int).toNat]))else(none))else(none))else(none))else(none))else(none)))
def iY.f(k:Nat)(a0:ByteArray)(a1:Int):Option (List ByteArray):=iY.l0 k a0 a1 (([]:List ByteArray))
theorem iY.calls{k:Nat}{a0:ByteArray}{a1:Int}{r:List ByteArray}{w:World}(h:iY.f k a0 a1=some r):
  Calls Tryz.prog 90 #[.string a0, .int .u8 a1] w fun e w'=>∃pW:Value,e= .returned (pW)∧Kd.R Kd.string 9 w' w.heap.size (fun _=>True) pW r∧Below w.heap.size w w':=by
 have HB:=ak (Below.refl w.heap.size w);unfold iY.f at h;have H:=h;clear h;obtain⟨aP8,ap7⟩:=nm ([]:List ByteArray);rw[←ap7.out]at H;have H':=ak H;clear H;go_enter func90,ntmps90;go_wp2_with (refine DR 7 Kd.string 9 ap7 ?_;intro aP9 w3 SL hb;have azA:=ak (aC SL (au (ul HB.out)));replace HB:=bs HB hb;clear hb SL)
 go_loopg [0,5] k (fun kq v0 v5 w'=>∃(uX:ByteArray) (dV:List ByteArray),v0= .string uX∧ah (iY.l0 kq uX a1 dV=some r)∧ah (kq≤k)∧ah (Kd.R Kd.string 9 w' w.heap.size (fun _=>True) v5 dV)∧ah (Below w.heap.size w w'))
 case atStart=>exact⟨_,_,rs,H',⟨Nat.le_refl _⟩,⟨ur azA.out⟩,⟨ul HB.out⟩⟩
 case round=>
  clear H';obtain⟨uX,dV,rfl,HA,yN,ug,HB⟩:=hrel
  cases gk with
  |zero=>exact zz HA.out
  |succ k1=>
   obtain⟨H⟩:=HA;simp only[iY.l0]at H;replace H:=bd H;obtain⟨Rj,A5,H⟩:=H;replace H:=sd H;rcases H with⟨nP,H⟩|⟨nP,H⟩
   ·replace H:=nl H;obtain⟨atZ,H⟩:=H;obtain⟨aP_,ap8⟩:=nm (dV++[uX]);rw[←ap8.out]at H;obtain rfl:=s1 H;go_wp2_with (first|(refine gB func125 (lQ.calls A5.out) ?_;intro w8 hb;replace ug:=rb ug hb;replace HB:=bs HB hb;clear hb)|(at_builtin;refine aP 13 15 Kd.string 23 9 (.string ⟨#[]⟩) 16 underlying23 info9 HB (ur ug.out) ap8 (by have:=atZ.out;omega) ?_;intro aQa w9 ho hb hg hat;have azB:=ak (ho);replace HB:=ak (hb);clear ho hb hg hat ug))
    go_ret;exact⟨_,er,ur azB.out,ul HB.out⟩
   ·replace H:=zh H;obtain⟨qj,uN,H⟩:=H;replace H:=zh H;obtain⟨uM,CB,H⟩:=H;replace H:=nl H;obtain⟨VB,H⟩:=H;obtain⟨aG4,ap9⟩:=nm (dV++[uX.extract 0 (Rj:Int).toNat]);rw[←ap9.out]at H;obtain⟨Ak,yV⟩:∃j_:Int,(wrap64 (Rj+1))=j_:=⟨_,rfl⟩
    replace H:(if 0≤(Ak)then(if(Ak)≤(uX.size:Int)then(iY.l0 k1 (uX.extract ((Ak):Int).toNat uX.size) a1 aG4)else(none))else(none))=some r:=by first|(rw[yV]at H;exact H)|(simp only[yV]at H⊢;exact H)
    (try rw[yV]at A5);have ajH:(IntKind.i64.wrap (Rj+1))=Ak:=(gU _).trans yV;replace H:=zh H;obtain⟨uy,xH,H⟩:=H;replace H:=zh H;obtain⟨uz,Cm,H⟩:=H;have H':=ak H;clear H;try go_wp2_with (refine gB func125 (lQ.calls A5.out) ?_;intro w16 hb;replace ug:=rb ug hb;replace HB:=bs HB hb;clear hb)
    replace ug:=ak (uh ug.out);replace HB:=ak (jG HB.out);refine ro [4,5] [0,1,2,3,6,7,8,9,4,5,10,11] (fun w'=>True) trivial ?_
    generalize w16.drew=w17 at ug HB⊢
    repeat refine Bv ?_
    refine ld (N:=some 21) (gk.trans rfl) rfl rfl (fun K hK=>?_);refine Q_ (w1:=?_) (v:=?_) (by rfl) rfl ?_ ?_
    rotate_left 2
    ·go_simp;constructor
     ·rfl
     ·rfl
    refine hK.out _ _ trivial ?_;clear hK K;refine no (a':=?_) ?_ ?_
    rotate_left
    ·show Act.put _ (some 21) _=_
     simp only[Act.put,C_,Dc,l_c,gU,jP];rfl
    refine ld (N:=some 22) (gk.trans rfl) rfl rfl (fun K hK=>?_);refine xU Kd.string (w0:=w) w.heap.size (by rfl) (.tmp 17) (.tmp 21) 23 9 (.string ⟨#[]⟩) 16 rfl underlying23 info9 rfl (by decide) (by omega) u5 dV (uX.extract 0 (Rj:Int).toNat) [.string (uX.extract 0 (Rj:Int).toNat)] (fun _=>True) (fun _=>False) rfl rfl ?aP (fun _ hk=>hk.elim) ?aF ?aO ?aB ?aS ?aL ?_
    (case aP=>exact rfl)
    (case aB=>exact(ul HB.out))
    (case aF=>exact(fun _ _=>trivial))
    (case aO=>exact(ur ug.out))
    (case aS=>exact(au (ul HB.out)))
    (case aL=>have:=VB.out;omega);intro aQb w18 ho hb hg hat
    rw[←ap9.out]at ho;have Eo:=ak (hb);have Ep:=ak (ho);clear HB ug;have HB:=Eo;have azC:=Ep;clear Eo Ep ho hb hg hat
    refine hK.out _ _ trivial ?_;clear hK K;refine no (a':=?_) ?_ ?_
    rotate_left
    ·show Act.put _ (some 22) _=_
     simp only[Act.put,C_,Dc,l_c,gU,jP];rfl
    repeat refine Bv ?_
    refine on ?_;try go_wp2
    go_roundg k1
    case measure=>exact kl
    case rel=>exact⟨_,_,(by first|rfl|(simp;done)|(simp only[←yV]<;>(first|rfl|simp))|(simp[*];done)),H',⟨kl⟩,⟨ur azC.out⟩,⟨ul HB.out⟩⟩
def strings_Cut.f(a0:ByteArray)(a1:ByteArray):Option (ByteArray×ByteArray×Bool):=if a0.size<4294967281 then some (⟨(Lib.cut a0.data.toList a1.data.toList).1.toArray⟩,⟨(Lib.cut a0.data.toList a1.data.toList).2.1.toArray⟩,(Lib.cut a0.data.toList a1.data.toList).2.2)else none
theorem strings_Cut.calls{a0 a1 r1 r2:ByteArray}{r3:Bool}{w:World}(EG:MaxOk w)(h:strings_Cut.f a0 a1=some (r1,r2,r3)):
  Calls Tryz.prog 91 #[.string a0, .string a1] w fun e w'=>e= .returned (.tuple #[.string r1, .string r2, .bool r3])∧dR w w':=by
 unfold strings_Cut.f at h;split at h
 ·rename_i hs
  injection h with h;injection h with h1 h;injection h with h2 h3;subst h1;subst h2;subst h3;obtain⟨m,hm⟩:=EG;exact(Tryz.strings_Cut a0 a1 m w hs hm).mono fun e w' ⟨he,n,hn⟩=>⟨he,⟨⟨n,hn⟩⟩⟩
 ·cases h
def nM.f(a0:Int):Option (Bool):=(bJ.f a0).bind fun azD=>(if azD=true then(some true)else((dS.f a0).bind fun azE=>(if azE=true then(some true)else(if a0=33 then(some true)else(if a0≥35 then(if a0≤39 then(some true)else(if a0=42 then(some true)else(if a0=43 then(some true)else(if a0=45 then(some true)else(if a0=47 then(some true)else(if a0=61 then(some true)else(if a0=63 then(some true)else(if a0≥94 then(if a0≤96 then(some true)else(if a0≥123 then(some (decide (a0≤126)))else(some false)))else(if a0≥123 then(some (decide (a0≤126)))else(some false))))))))))else(if a0=42 then(some true)else(if a0=43 then(some true)else(if a0=45 then(some true)else(if a0=47 then(some true)else(if a0=61 then(some true)else(if a0=63 then(some true)else(if a0≥94 then(if a0≤96 then(some true)else(if a0≥123 then(some (decide (a0≤126)))else(some false)))else(if a0≥123 then(some (decide (a0≤126)))else(some false))))))))))))))
theorem nM.calls{a0:Int}{r:Bool}{w:World}(h:nM.f a0=some r):
  Calls Tryz.prog 135 #[.int .u8 a0] w fun e w'=>e= .returned (.bool r)∧dR w w':=by
 unfold nM.f at h;have H:=h;clear h;replace H:=bd H;obtain⟨azD,A2,H⟩:=H;replace H:=sb H;rcases H with⟨rfl,H⟩|⟨rfl,H⟩
 ·obtain rfl:=s1 H;go_enter func135,ntmps135;go_wp2_with (refine gA func140 (bJ.calls A2.out) ?_;intro nd)
  go_ret;exact⟨rs,dn⟩
 ·replace H:=bd H;obtain⟨azE,A4,H⟩:=H;replace H:=sb H;rcases H with⟨rfl,H⟩|⟨rfl,H⟩
  ·obtain rfl:=s1 H;go_enter func135,ntmps135;go_wp2_with (first|(refine gA func140 (bJ.calls A2.out) ?_;intro nd)|(go_at_call 141;refine mA (dS.calls A4.out) ?_;intro nd))
   go_ret;exact⟨rs,dn⟩
  ·replace H:=sq H;rcases H with⟨nP,zM,H⟩|⟨c6,nP,zM,H⟩
   ·obtain rfl:=s1 H;go_enter func135,ntmps135;go_wp2_with (first|(refine gA func140 (bJ.calls A2.out) ?_;intro nd)|(go_at_call 141;refine mA (dS.calls A4.out) ?_;intro nd))
    go_ret;exact⟨rs,dn⟩
   ·replace H:=sp H;rcases H with⟨c7,H⟩|⟨c7,H⟩
    ·have sK:decide (35≤a0)=true:=decide_eq_true c7;clear c7;replace H:=sd H;rcases H with⟨ru,H⟩|⟨ru,H⟩
     ·obtain rfl:=s1 H;go_enter func135,ntmps135;go_wp2_with (first|(refine gA func140 (bJ.calls A2.out) ?_;intro nd)|(go_at_call 141;refine mA (dS.calls A4.out) ?_;intro nd))
      go_ret;exact⟨rs,dn⟩
     ·replace H:=sq H;rcases H with⟨xG,CG,H⟩|⟨c9,xG,CG,H⟩
      ·obtain rfl:=s1 H;go_enter func135,ntmps135;go_wp2_with (first|(refine gA func140 (bJ.calls A2.out) ?_;intro nd)|(go_at_call 141;refine mA (dS.calls A4.out) ?_;intro nd))
       go_ret;exact⟨rs,dn⟩
      ·replace H:=sq H;rcases H with⟨qj,uN,H⟩|⟨c10,qj,uN,H⟩
       ·obtain rfl:=s1 H;go_enter func135,ntmps135;go_wp2_with (first|(refine gA func140 (bJ.calls A2.out) ?_;intro nd)|(go_at_call 141;refine mA (dS.calls A4.out) ?_;intro nd))
        go_ret;exact⟨rs,dn⟩
       ·replace H:=sq H;rcases H with⟨uM,CB,H⟩|⟨c11,uM,CB,H⟩
        ·obtain rfl:=s1 H;go_enter func135,ntmps135;go_wp2_with (first|(refine gA func140 (bJ.calls A2.out) ?_;intro nd)|(go_at_call 141;refine mA (dS.calls A4.out) ?_;intro nd))
         go_ret;exact⟨rs,dn⟩
        ·replace H:=sq H;rcases H with⟨vH,Dv,H⟩|⟨c12,vH,Dv,H⟩
         ·obtain rfl:=s1 H;go_enter func135,ntmps135;go_wp2_with (first|(refine gA func140 (bJ.calls A2.out) ?_;intro nd)|(go_at_call 141;refine mA (dS.calls A4.out) ?_;intro nd))
          go_ret;exact⟨rs,dn⟩
         ·replace H:=sq H;rcases H with⟨xE,Bz,H⟩|⟨c13,xE,Bz,H⟩
          ·obtain rfl:=s1 H;go_enter func135,ntmps135;go_wp2_with (first|(refine gA func140 (bJ.calls A2.out) ?_;intro nd)|(go_at_call 141;refine mA (dS.calls A4.out) ?_;intro nd))
           go_ret;exact⟨rs,dn⟩
          ·replace H:=sq H;rcases H with⟨uy,xH,H⟩|⟨c14,uy,xH,H⟩
           ·obtain rfl:=s1 H;go_enter func135,ntmps135;go_wp2_with (first|(refine gA func140 (bJ.calls A2.out) ?_;intro nd)|(go_at_call 141;refine mA (dS.calls A4.out) ?_;intro nd))
            go_ret;exact⟨rs,dn⟩
           ·replace H:=sp H;rcases H with⟨c15,H⟩|⟨c15,H⟩
            ·have uz:decide (94≤a0)=true:=decide_eq_true c15;clear c15;replace H:=sd H;rcases H with⟨Dw,H⟩|⟨Dw,H⟩
             ·obtain rfl:=s1 H;go_enter func135,ntmps135;go_wp2_with (first|(refine gA func140 (bJ.calls A2.out) ?_;intro nd)|(go_at_call 141;refine mA (dS.calls A4.out) ?_;intro nd))
              go_ret;exact⟨rs,dn⟩
             ·replace H:=sp H;rcases H with⟨c17,H⟩|⟨c17,H⟩
              ·have vY:decide (123≤a0)=true:=decide_eq_true c17;clear c17;obtain rfl:=s1 H;go_enter func135,ntmps135;go_wp2_with (first|(refine gA func140 (bJ.calls A2.out) ?_;intro nd)|(go_at_call 141;refine mA (dS.calls A4.out) ?_;intro nd))
               go_ret;exact⟨rs,dn⟩
              ·have vY:decide (123≤a0)=false:=decide_eq_false c17;clear c17;obtain rfl:=s1 H;go_enter func135,ntmps135;go_wp2_with (first|(refine gA func140 (bJ.calls A2.out) ?_;intro nd)|(go_at_call 141;refine mA (dS.calls A4.out) ?_;intro nd))
               go_ret;exact⟨rs,dn⟩
            ·have uz:decide (94≤a0)=false:=decide_eq_false c15;clear c15;replace H:=sp H;rcases H with⟨c18,H⟩|⟨c18,H⟩
             ·have Dt:decide (123≤a0)=true:=decide_eq_true c18;clear c18;obtain rfl:=s1 H;go_enter func135,ntmps135;go_wp2_with (first|(refine gA func140 (bJ.calls A2.out) ?_;intro nd)|(go_at_call 141;refine mA (dS.calls A4.out) ?_;intro nd))
              go_ret;exact⟨rs,dn⟩
             ·have Dt:decide (123≤a0)=false:=decide_eq_false c18;clear c18;obtain rfl:=s1 H;go_enter func135,ntmps135;go_wp2_with (first|(refine gA func140 (bJ.calls A2.out) ?_;intro nd)|(go_at_call 141;refine mA (dS.calls A4.out) ?_;intro nd))
              go_ret;exact⟨rs,dn⟩
    ·have sK:decide (35≤a0)=false:=decide_eq_false c7;clear c7;replace H:=sq H;rcases H with⟨Du,G8,H⟩|⟨c19,Du,G8,H⟩
     ·obtain rfl:=s1 H;go_enter func135,ntmps135;go_wp2_with (first|(refine gA func140 (bJ.calls A2.out) ?_;intro nd)|(go_at_call 141;refine mA (dS.calls A4.out) ?_;intro nd))
      go_ret;exact⟨rs,dn⟩
     ·replace H:=sq H;rcases H with⟨OA,Vs,H⟩|⟨c20,OA,Vs,H⟩
      ·obtain rfl:=s1 H;go_enter func135,ntmps135;go_wp2_with (first|(refine gA func140 (bJ.calls A2.out) ?_;intro nd)|(go_at_call 141;refine mA (dS.calls A4.out) ?_;intro nd))
       go_ret;exact⟨rs,dn⟩
      ·replace H:=sq H;rcases H with⟨Dx,aaP,H⟩|⟨c21,Dx,aaP,H⟩
       ·obtain rfl:=s1 H;go_enter func135,ntmps135;go_wp2_with (first|(refine gA func140 (bJ.calls A2.out) ?_;intro nd)|(go_at_call 141;refine mA (dS.calls A4.out) ?_;intro nd))
        go_ret;exact⟨rs,dn⟩
       ·replace H:=sq H;rcases H with⟨I5,Vq,H⟩|⟨c22,I5,Vq,H⟩
        ·obtain rfl:=s1 H;go_enter func135,ntmps135;go_wp2_with (first|(refine gA func140 (bJ.calls A2.out) ?_;intro nd)|(go_at_call 141;refine mA (dS.calls A4.out) ?_;intro nd))
         go_ret;exact⟨rs,dn⟩
        ·replace H:=sq H;rcases H with⟨EF,SN,H⟩|⟨c23,EF,SN,H⟩
         ·obtain rfl:=s1 H;go_enter func135,ntmps135;go_wp2_with (first|(refine gA func140 (bJ.calls A2.out) ?_;intro nd)|(go_at_call 141;refine mA (dS.calls A4.out) ?_;intro nd))
          go_ret;exact⟨rs,dn⟩
         ·replace H:=sq H;rcases H with⟨Ei,Yj,H⟩|⟨c24,Ei,Yj,H⟩
          ·obtain rfl:=s1 H;go_enter func135,ntmps135;go_wp2_with (first|(refine gA func140 (bJ.calls A2.out) ?_;intro nd)|(go_at_call 141;refine mA (dS.calls A4.out) ?_;intro nd))
           go_ret;exact⟨rs,dn⟩
          ·replace H:=sp H;rcases H with⟨c25,H⟩|⟨c25,H⟩
           ·have Ej:decide (94≤a0)=true:=decide_eq_true c25;clear c25;replace H:=sd H;rcases H with⟨OC,H⟩|⟨OC,H⟩
            ·obtain rfl:=s1 H;go_enter func135,ntmps135;go_wp2_with (first|(refine gA func140 (bJ.calls A2.out) ?_;intro nd)|(go_at_call 141;refine mA (dS.calls A4.out) ?_;intro nd))
             go_ret;exact⟨rs,dn⟩
            ·replace H:=sp H;rcases H with⟨c27,H⟩|⟨c27,H⟩
             ·have I7:decide (123≤a0)=true:=decide_eq_true c27;clear c27;obtain rfl:=s1 H;go_enter func135,ntmps135;go_wp2_with (first|(refine gA func140 (bJ.calls A2.out) ?_;intro nd)|(go_at_call 141;refine mA (dS.calls A4.out) ?_;intro nd))
              go_ret;exact⟨rs,dn⟩
             ·have I7:decide (123≤a0)=false:=decide_eq_false c27;clear c27;obtain rfl:=s1 H;go_enter func135,ntmps135;go_wp2_with (first|(refine gA func140 (bJ.calls A2.out) ?_;intro nd)|(go_at_call 141;refine mA (dS.calls A4.out) ?_;intro nd))
              go_ret;exact⟨rs,dn⟩
           ·have Ej:decide (94≤a0)=false:=decide_eq_false c25;clear c25;replace H:=sp H;rcases H with⟨c28,H⟩|⟨c28,H⟩
            ·have JC:decide (123≤a0)=true:=decide_eq_true c28;clear c28;obtain rfl:=s1 H;go_enter func135,ntmps135;go_wp2_with (first|(refine gA func140 (bJ.calls A2.out) ?_;intro nd)|(go_at_call 141;refine mA (dS.calls A4.out) ?_;intro nd))
             go_ret;exact⟨rs,dn⟩
            ·have JC:decide (123≤a0)=false:=decide_eq_false c28;clear c28;obtain rfl:=s1 H;go_enter func135,ntmps135;go_wp2_with (first|(refine gA func140 (bJ.calls A2.out) ?_;intro nd)|(go_at_call 141;refine mA (dS.calls A4.out) ?_;intro nd))
             go_ret;exact⟨rs,dn⟩
mutual
def dW.l0:Nat→ByteArray→List ByteArray→Int→Bool→Option (List ByteArray×Bool)
 |0,_,_,_,_=>none
 |k+1,x0,x4,x5,x6=>if x5<(x0.size:Int)then(if 0≤x5 then(if(bt x0 x5)=32 then(dW.l0 k x0 x4 (wrap64 (x5+1)) true)else(if x6=true then(if(bt x0 x5)=34 then(if x5≤(x0.size:Int)then((kR.f k (x0.extract (x5:Int).toNat x0.size)).bind fun ajI=>(if ajI.2.2=true then(if x4.length<8796093022208 then(dW.l0 k x0 (x4++[ajI.1]) (wrap64 (x5+ajI.2.1)) false)else(none))else(some (([]:List ByteArray),false))))else(none))else(dW.l1 k x0 x4 x5 x5))else(some (([]:List ByteArray),false))))else(none))else(some (x4,true))
def dW.l1:Nat→ByteArray→List ByteArray→Int→Int→Option (List ByteArray×Bool)
 |0,_,_,_,_=>none
 |k+1,x0,x4,x5,x10=>if x10<(x0.size:Int)then(if 0≤x10 then((nM.f (bt x0 x10)).bind fun azF=>(if azF=true then(dW.l1 k x0 x4 x5 (wrap64 (x10+1)))else(if x10=x5 then(some (([]:List ByteArray),false))else(if 0≤x5 then(if x5≤x10 then(if x10≤(x0.size:Int)then(if x4.length<8796093022208 then(dW.l0 k x0 (x4++[x0.extract (x5:Int).toNat (x10:Int).toNat]) x10 false)else(none))else(none))else(none))else(none)))))else(none))else(if x10=x5 then(some (([]:List ByteArray),false))else(if 0≤x5 then(if x5≤x10 then(if x10≤(x0.size:Int)then(if x4.length<8796093022208 then(dW.l0 k x0 (x4++[x0.extract (x5:Int).toNat (x10:Int).toNat]) x10 false)else(none))else(none))else(none))else(none)))
end
def dW.f(k:Nat)(a0:ByteArray):Option (List ByteArray×Bool):=(bD.f k a0).bind fun azG=>(if azG=true then(dW.l0 k a0 (([]:List ByteArray)) 0 true)else(some (([]:List ByteArray),false)))
theorem dW.calls{k:Nat}{a0:ByteArray}{r1:List ByteArray}{r2:Bool}{w:World}(h:dW.f k a0=some (r1,r2)):
  Calls Tryz.prog 94 #[.string a0] w fun e w'=>∃pW:Value,e= .returned (.tuple #[pW, .bool r2])∧Kd.R Kd.string 9 w' w.heap.size (fun _=>True) pW r1∧Below w.heap.size w w':=by
 have HB:=ak (Below.refl w.heap.size w);unfold dW.f at h;have H:=h;clear h;replace H:=bd H;obtain⟨azG,A2,H⟩:=H;replace H:=sb H;rcases H with⟨rfl,H⟩|⟨rfl,H⟩
 ·obtain⟨aQc,ap_⟩:=nm ([]:List ByteArray);rw[←ap_.out]at H;have H':=ak H;clear H;go_enter func94,ntmps94;go_wp2_with (first|(refine gA func89 (bD.calls A2.out) ?_;intro nd)|(refine DR 14 Kd.string 9 ap_ ?_;intro aQd w4 ho5 hb;have azH:=ak (aC ho5 (au (ul HB.out)));replace HB:=bs HB hb;clear hb ho5))
  go_loopg [4,5,6] k (fun kq v4 v5 v6 w'=>∃(dI:List ByteArray) (dV:Int) (gZ:Bool),v5= .int .i64 dV∧v6= .bool gZ∧ah (dW.l0 kq a0 dI dV gZ=some (r1,r2))∧ah (kq≤k)∧ah (Kd.R Kd.string 9 w' w.heap.size (fun _=>True) v4 dI)∧ah (Below w.heap.size w w'))
  case atStart=>exact⟨_,_,_,rs,rs,H',⟨Nat.le_refl _⟩,⟨ur azH.out⟩,⟨ul HB.out⟩⟩
  case round=>
   clear H';obtain⟨dI,dV,gZ,rfl,rfl,HA,yN,bT,HB⟩:=hrel
   cases gk with
   |zero=>exact zz HA.out
   |succ k1=>
    obtain⟨H⟩:=HA;simp only[dW.l0]at H;replace H:=sd H;rcases H with⟨nP,H⟩|⟨nP,H⟩
    ·replace H:=nY H;obtain⟨sK,H⟩:=H;replace H:=sq H;rcases H with⟨xG,CG,H⟩|⟨c9,xG,CG,H⟩
     ·have H':=ak H;clear H;obtain⟨p8,q8,hx8⟩:=bx a0 dV;go_wp2;go_roundg k1
      case measure=>exact kl
      case rel=>exact⟨_,_,_,rs,rs,H',⟨kl⟩,⟨ur bT.out⟩,⟨ul HB.out⟩⟩
     ·replace H:=sb H;rcases H with⟨rfl,H⟩|⟨rfl,H⟩
      ·replace H:=sq H;rcases H with⟨vH,Dv,H⟩|⟨c12,vH,Dv,H⟩
       ·have xE:=eq_true (of_decide_eq_true (by assumption):0≤dV);replace H:=zh H;obtain⟨uy,xH,H⟩:=H;replace H:=bd H;obtain⟨⟨aG5,aQe,aQf⟩,A15,H⟩:=H
        (try dsimp only at H);replace H:=sb H;rcases H with⟨rfl,H⟩|⟨rfl,H⟩
        ·replace H:=nl H;obtain⟨ajJ,H⟩:=H;obtain⟨aQg,aqa⟩:=nm (dI++[aG5]);rw[←aqa.out]at H;have H':=ak H;clear H;obtain⟨p8,q8,hx8⟩:=bx a0 dV;obtain⟨p11,q11,aaM⟩:=bx a0 dV;go_wp2_with (first|(refine gB func134 (kR.calls A15.out) ?_;intro w18 hb;replace bT:=rb bT hb;replace HB:=bs HB hb;clear hb)|(at_builtin;refine aP 68 70 Kd.string 23 9 (.string ⟨#[]⟩) 16 underlying23 info9 HB (ur bT.out) aqa (by have:=ajJ.out;omega) ?_;intro aQh X_ ho hb hg hat;have azI:=ak (ho);replace HB:=ak (hb);clear ho hb hg hat bT))
         go_roundg k1
         case measure=>exact kl
         case rel=>exact⟨_,_,_,rs,rs,H',⟨kl⟩,⟨ur azI.out⟩,⟨ul HB.out⟩⟩
        ·obtain⟨rfl,rfl⟩:=s2 H;obtain⟨p8,q8,hx8⟩:=bx a0 dV;obtain⟨p11,q11,aaM⟩:=bx a0 dV;go_wp2_with (refine gB func134 (kR.calls A15.out) ?_;intro w20 hb;replace bT:=rb bT hb;replace HB:=bs HB hb;clear hb)
         go_ret2;exact⟨_,er,nx,ul HB.out⟩
       ·have H':=ak H;clear H;obtain⟨p8,q8,hx8⟩:=bx a0 dV;obtain⟨p11,q11,aaM⟩:=bx a0 dV;go_wp2;go_loopg [10] k1 (fun kq v10 w'=>∃(Tf:Int),v10= .int .i64 Tf∧ah (dW.l1 kq a0 dI dV Tf=some (r1,r2))∧ah (kq≤k1)∧ah (Kd.R Kd.string 9 w' w.heap.size (fun _=>True) u4 dI)∧ah (Below w.heap.size w w'))
        case atStart=>exact⟨_,rs,H',⟨Nat.le_refl _⟩,⟨ur bT.out⟩,⟨ul HB.out⟩⟩
        case round=>
         clear H';try clear nP
         try clear sK
         try clear p8
         try clear q8
         try clear hx8
         try clear c9
         try clear xG
         try clear CG
         try clear p11
         try clear q11
         try clear aaM
         try clear c12
         try clear vH
         try clear Dv
         try clear p11
         try clear p8
         try clear q11
         try clear q8
         obtain⟨Tf,rfl,HA,HK2,bT,HB⟩:=hrel
         cases gk with
         |zero=>exact zz HA.out
         |succ k2=>
          obtain⟨H⟩:=HA;simp only[dW.l1]at H;replace H:=sd H;rcases H with⟨Dx,H⟩|⟨Dx,H⟩
          ·replace H:=nY H;obtain⟨I5,H⟩:=H;replace H:=bd H;obtain⟨azF,A24,H⟩:=H;replace H:=sb H;rcases H with⟨rfl,H⟩|⟨rfl,H⟩
           ·have H':=ak H;clear H;obtain⟨p23,q23,azJ⟩:=bx a0 Tf;go_wp2_with (go_at_call 135;refine mA (nM.calls A24.out) ?_;intro nd)
            go_roundg k2
            case measure=>exact kl
            case rel=>exact⟨_,rs,H',⟨kl⟩,⟨ur bT.out⟩,⟨ul HB.out⟩⟩
           ·replace H:=sq H;rcases H with⟨OC,ae7,H⟩|⟨c26,OC,ae7,H⟩
            ·obtain⟨rfl,rfl⟩:=s2 H;obtain⟨p23,q23,azJ⟩:=bx a0 Tf;go_wp2_with (go_at_call 135;refine mA (nM.calls A24.out) ?_;intro nd)
             go_ret2;exact⟨_,er,nx,ul HB.out⟩
            ·replace H:=zh H;obtain⟨I7,ae8,H⟩:=H;replace H:=zh H;obtain⟨JC,aft,H⟩:=H;replace H:=zh H;obtain⟨ae9,aKH,H⟩:=H;replace H:=nl H;obtain⟨azK,H⟩:=H;obtain⟨aQi,aqb⟩:=nm (dI++[a0.extract (dV:Int).toNat (Tf:Int).toNat]);rw[←aqb.out]at H;have H':=ak H;clear H;obtain⟨p23,q23,azJ⟩:=bx a0 Tf;go_wp2_with (first|(go_at_call 135;refine mA (nM.calls A24.out) ?_;intro nd)|(at_builtin;refine aP 35 40 Kd.string 23 9 (.string ⟨#[]⟩) 16 underlying23 info9 HB (ur bT.out) aqb (by have:=azK.out;omega) ?_;intro aQj w31 ho hb hg hat;have azL:=ak (ho);replace HB:=ak (hb);clear ho hb hg hat bT))
             go_roundg k2
             case measure=>exact kl
             case rel=>exact⟨_,_,_,rs,rs,H',⟨kl⟩,⟨ur azL.out⟩,⟨ul HB.out⟩⟩
          ·replace H:=sq H;rcases H with⟨Yi,aiR,H⟩|⟨c32,Yi,aiR,H⟩
           ·obtain⟨rfl,rfl⟩:=s2 H;go_wp2;go_ret2;exact⟨_,er,nx,ul HB.out⟩
           ·replace H:=zh H;obtain⟨Yh,aiO,H⟩:=H;replace H:=zh H;obtain⟨aa0,aiT,H⟩:=H;replace H:=zh H;obtain⟨Yg,ae4,H⟩:=H;replace H:=nl H;obtain⟨azM,H⟩:=H;obtain⟨aQk,aqc⟩:=nm (dI++[a0.extract (dV:Int).toNat (Tf:Int).toNat]);rw[←aqc.out]at H;have H':=ak H;clear H;go_wp2_with (at_builtin;refine aP 35 40 Kd.string 23 9 (.string ⟨#[]⟩) 16 underlying23 info9 HB (ur bT.out) aqc (by have:=azM.out;omega) ?_;intro aQl w37 ho hb hg hat;have azN:=ak (ho);replace HB:=ak (hb);clear ho hb hg hat bT)
            go_roundg k2
            case measure=>exact kl
            case rel=>exact⟨_,_,_,rs,rs,H',⟨kl⟩,⟨ur azN.out⟩,⟨ul HB.out⟩⟩
      ·obtain⟨rfl,rfl⟩:=s2 H;obtain⟨p8,q8,hx8⟩:=bx a0 dV;go_wp2;go_ret2;exact⟨_,er,nx,ul HB.out⟩
    ·obtain⟨rfl,rfl⟩:=s2 H;go_wp2;go_ret2;exact⟨_,er,ur bT.out,ul HB.out⟩
 ·obtain⟨rfl,rfl⟩:=s2 H;go_enter func94,ntmps94;go_wp2_with (refine gA func89 (bD.calls A2.out) ?_;intro nd)
  go_ret2;exact⟨_,er,nx,ul HB.out⟩
def iO.f(k:Nat)(a0:ByteArray):Option (Bool):=(kQ.f k a0).bind fun azO=>(if azO=true then((jS.f a0).bind fun azP=>(some (azP.toList==a0.toList)))else(some false))
theorem iO.calls{k:Nat}{a0:ByteArray}{r:Bool}{w:World}(h:iO.f k a0=some r):
  Calls Tryz.prog 136 #[.string a0] w fun e w'=>e= .returned (.bool r)∧Below w.heap.size w w':=by
 have HB:=ak (Below.refl w.heap.size w);unfold iO.f at h;have H:=h;clear h;replace H:=bd H;obtain⟨azO,A2,H⟩:=H;replace H:=sb H;rcases H with⟨rfl,H⟩|⟨rfl,H⟩
 ·replace H:=bd H;obtain⟨azP,A4,H⟩:=H;obtain rfl:=s1 H;go_enter func136,ntmps136;go_wp2_with (first|(refine gA func160 (kQ.calls A2.out) ?_;intro nd)|(go_at_call 93;refine mB (jS.calls A4.out) ?_;intro w5 hb;replace HB:=bs HB hb;clear hb))
  go_ret;exact⟨er,ul HB.out⟩
 ·obtain rfl:=s1 H;go_enter func136,ntmps136;go_wp2_with (refine gA func160 (kQ.calls A2.out) ?_;intro nd)
  go_ret;exact⟨er,ul HB.out⟩
def eu.l0:Nat→ByteArray→Int→Int→Option (Bool)
 |0,_,_,_=>none
 |k+1,x0,x7,x8=>if x8<x7 then(if 0≤x8 then(if x8<(x0.size:Int)then((nM.f (bt x0 x8)).bind fun azQ=>(if azQ=true then(eu.l0 k x0 x7 (wrap64 (x8+1)))else(some false)))else(none))else(none))else(some true)
def eu.f(k:Nat)(a0:ByteArray):Option (Bool):=eu.l0 k a0 (a0.size:Int) 0
theorem eu.calls{k:Nat}{a0:ByteArray}{r:Bool}{w:World}(h:eu.f k a0=some r):
  Calls Tryz.prog 138 #[.string a0, .func (.func 135) #[] #[]] w fun e w'=>e= .returned (.bool r)∧dR w w':=by
 unfold eu.f at h;have H:=h;clear h;have H':=ak H;clear H;go_enter func138,ntmps138;go_wp2;go_loopg [8] k (fun kq v8 w'=>∃(mQ:Int),v8= .int .i64 mQ∧ah (eu.l0 kq a0 (a0.size:Int) mQ=some r)∧ah (kq≤k)∧dR w w')
 case atStart=>exact⟨_,rs,H',⟨Nat.le_refl _⟩,dn⟩
 case round=>
  clear H';obtain⟨mQ,rfl,HA,yN,⟨m1,rfl⟩⟩:=hrel
  cases gk with
  |zero=>exact zz HA.out
  |succ k1=>
   obtain⟨H⟩:=HA;simp only[eu.l0]at H;replace H:=sd H;rcases H with⟨jd,H⟩|⟨jd,H⟩
   ·replace H:=nY H;obtain⟨qB,H⟩:=H;replace H:=nY H;obtain⟨nO,H⟩:=H;replace H:=bd H;obtain⟨azQ,A7,H⟩:=H;replace H:=sb H;rcases H with⟨rfl,H⟩|⟨rfl,H⟩
    ·have H':=ak H;clear H;obtain⟨p6,q6,hx6⟩:=bx a0 mQ;go_wp2_with (go_at_call 135;refine mA (nM.calls A7.out) ?_;intro nd)
     go_roundg k1
     case measure=>exact kl
     case rel=>exact⟨_,rs,H',⟨kl⟩,dn⟩
    ·obtain rfl:=s1 H;obtain⟨p6,q6,hx6⟩:=bx a0 mQ;go_wp2_with (go_at_call 135;refine mA (nM.calls A7.out) ?_;intro nd)
     go_ret;exact⟨rs,dn⟩
   ·obtain rfl:=s1 H;go_wp2;go_ret;exact⟨rs,dn⟩
def sF.f(k:Nat)(a0:ByteArray):Option (Bool):=if(a0.size:Int)≥1 then(if(a0.size:Int)≤40 then((eu.f k a0).bind fun azR=>(some azR))else(some false))else(some false)
theorem sF.calls{k:Nat}{a0:ByteArray}{r:Bool}{w:World}(h:sF.f k a0=some r):
  Calls Tryz.prog 193 #[.string a0] w fun e w'=>e= .returned (.bool r)∧dR w w':=by
 unfold sF.f at h;have H:=h;clear h;replace H:=sp H;rcases H with⟨c2,H⟩|⟨c2,H⟩
 ·have rQ:decide (1≤(a0.size:Int))=true:=decide_eq_true c2;have y8:decide (1≤a0.size)=true:=decide_eq_true (by omega);clear c2;replace H:=sp H;rcases H with⟨c3,H⟩|⟨c3,H⟩
  ·have jd:=decide_eq_true c3;have yQ:decide (a0.size≤40)=true:=decide_eq_true (by omega);clear c3;replace H:=bd H;obtain⟨azR,A4,H⟩:=H;obtain rfl:=s1 H;go_enter func193,ntmps193;go_wp2_with (go_at_call 138;refine mA (eu.calls A4.out) ?_;intro nd)
   go_ret;exact⟨rs,dn⟩
  ·have jd:=decide_eq_false c3;have yQ:decide (a0.size≤40)=false:=decide_eq_false (by omega);clear c3;obtain rfl:=s1 H;go_enter func193,ntmps193;go_wp2;go_ret;exact⟨rs,dn⟩
 ·have rQ:decide (1≤(a0.size:Int))=false:=decide_eq_false c2;have y8:decide (1≤a0.size)=false:=decide_eq_false (by omega);clear c2;obtain rfl:=s1 H;go_enter func193,ntmps193;go_wp2;go_ret;exact⟨rs,dn⟩
def jT.l0:Nat→ByteArray→List Int→Int→Int→Option (ByteArray)
 |0,_,_,_,_=>none
 |k+1,x0,x3,x15,x16=>if x16<x15 then(if 0≤x16 then(if x16<(x0.size:Int)then(if(bt x0 x16)=34 then(if x3.length<140737488355328 then((some (x3++[92]:List Int)).bind fun ana=>(if ana.length<140737488355328 then(jT.l0 k x0 (ana++[bt x0 x16]) x15 (wrap64 (x16+1)))else(none)))else(none))else(if(bt x0 x16)=92 then(if x3.length<140737488355328 then((some (x3++[92]:List Int)).bind fun anb=>(if anb.length<140737488355328 then(jT.l0 k x0 (anb++[bt x0 x16]) x15 (wrap64 (x16+1)))else(none)))else(none))else(if x3.length<140737488355328 then(jT.l0 k x0 (x3++[bt x0 x16]) x15 (wrap64 (x16+1)))else(none))))else(none))else(none))else(if x3.length<140737488355328 then(some (strOfNums (x3++[34])))else(none))
def jT.f(k:Nat)(a0:ByteArray):Option (ByteArray):=(bD.f k a0).bind fun azS=>(if azS=true then((sF.f k a0).bind fun azT=>(if azT=true then(some a0)else(jT.l0 k a0 (([34]:List Int)) (a0.size:Int) 0)))else(some (⟨#[]⟩:ByteArray)))
theorem jT.calls{k:Nat}{a0 r:ByteArray}{w:World}(h:jT.f k a0=some r):
  Calls Tryz.prog 166 #[.string a0] w fun e w'=>e= .returned (.string r)∧Below w.heap.size w w':=by
 have HB:=ak (Below.refl w.heap.size w);unfold jT.f at h;have H:=h;clear h;replace H:=bd H;obtain⟨azS,A2,H⟩:=H;replace H:=sb H;rcases H with⟨rfl,H⟩|⟨rfl,H⟩
 ·replace H:=bd H;obtain⟨azT,A4,H⟩:=H;replace H:=sb H;rcases H with⟨rfl,H⟩|⟨rfl,H⟩
  ·obtain rfl:=s1 H;go_enter func166,ntmps166;go_wp2_with (first|(refine gA func89 (bD.calls A2.out) ?_;intro nd)|(refine gA func193 (sF.calls A4.out) ?_;intro nd))
   go_ret;exact⟨er,ul HB.out⟩
  ·obtain⟨aQm,aqd⟩:=nm ([34]:List Int);rw[←aqd.out]at H;have H':=ak H;clear H;go_enter func166,ntmps166;go_wp2_with (first|(refine gA func89 (bD.calls A2.out) ?_;intro nd)|(refine gA func193 (sF.calls A4.out) ?_;intro nd)|(refine Vt 13 (Kd.int .u8) 5 [.int .u8 34] aqd (dP.one (show Kd.M (Kd.int .u8) _ _ _ 34 [.int .u8 34]from rfl) (dP.none _ _)) ?_;intro aQn w6 ho7 hb;have azU:=ak (aC ho7 (au (ul HB.out)));replace HB:=bs HB hb;clear hb ho7))
   go_loopg [3,16] k (fun kq v3 v16 w'=>∃(eG:List Int) (BD:Int),v16= .int .i64 BD∧ah (jT.l0 kq a0 eG (a0.size:Int) BD=some r)∧ah (kq≤k)∧ah (Kd.R (Kd.int .u8) 5 w' w.heap.size (fun _=>True) v3 eG)∧ah (Below w.heap.size w w'))
   case atStart=>exact⟨_,_,rs,H',⟨Nat.le_refl _⟩,⟨ur azU.out⟩,⟨ul HB.out⟩⟩
   case round=>
    clear H';obtain⟨eG,BD,rfl,HA,yN,mZ,HB⟩:=hrel
    cases gk with
    |zero=>exact zz HA.out
    |succ k1=>
     obtain⟨H⟩:=HA;simp only[jT.l0]at H;replace H:=sd H;rcases H with⟨ru,H⟩|⟨ru,H⟩
     ·replace H:=nY H;obtain⟨xG,H⟩:=H;replace H:=nY H;obtain⟨qj,H⟩:=H;replace H:=sq H;rcases H with⟨vH,Dv,H⟩|⟨c12,vH,Dv,H⟩
      ·replace H:=nl H;obtain⟨azV,H⟩:=H;replace H:=ny H;obtain⟨ana,azW,H⟩:=H;replace H:=nl H;obtain⟨azX,H⟩:=H;obtain⟨aQo,aqe⟩:=nm (ana++[bt a0 BD]);rw[←aqe.out]at H;have H':=ak H;clear H;obtain⟨p11,q11,aaM⟩:=bx a0 BD;go_wp2_with (first|(at_builtin;refine aP 29 30 (Kd.int .u8) 22 5 (.int .u8 0) 1 underlying22 info5 HB (ur mZ.out) azW (by have:=azV.out;omega) ?_;intro aQp w16 ho hb hg hat;have aqf:=ak (ho);replace HB:=ak (hb);clear ho hb hg hat mZ;have p14:0≤(BD:Int):=of_decide_eq_true (by assumption);have q14:BD<(a0.size:Int):=of_decide_eq_true (by assumption);have atu:=wU a0 BD;replace p14:=eq_true p14;replace q14:=eq_true q14)|(at_builtin;refine aP 32 36 (Kd.int .u8) 22 5 (.int .u8 0) 1 underlying22 info5 HB (ur aqf.out) aqe (by have:=azX.out;omega) ?_;intro aQq w17 ho hb hg hat;have azY:=ak (ho);replace HB:=ak (hb);clear ho hb hg hat aqf))
       go_roundg k1
       case measure=>exact kl
       case rel=>exact⟨_,_,rs,H',⟨kl⟩,⟨ur azY.out⟩,⟨ul HB.out⟩⟩
      ·replace H:=sq H;rcases H with⟨Du,G8,H⟩|⟨c19,Du,G8,H⟩
       ·replace H:=nl H;obtain⟨ajK,H⟩:=H;replace H:=ny H;obtain⟨anb,azZ,H⟩:=H;replace H:=nl H;obtain⟨aiB,H⟩:=H;obtain⟨aQr,aqg⟩:=nm (anb++[bt a0 BD]);rw[←aqg.out]at H;have H':=ak H;clear H;obtain⟨p11,q11,aaM⟩:=bx a0 BD;obtain⟨p18,q18,azy⟩:=bx a0 BD;go_wp2_with (first|(at_builtin;refine aP 29 30 (Kd.int .u8) 22 5 (.int .u8 0) 1 underlying22 info5 HB (ur mZ.out) azZ (by have:=ajK.out;omega) ?_;intro aQs w23 ho hb hg hat;have aqh:=ak (ho);replace HB:=ak (hb);clear ho hb hg hat mZ;have p21:0≤(BD:Int):=of_decide_eq_true (by assumption);have q21:BD<(a0.size:Int):=of_decide_eq_true (by assumption);have aQt:=wU a0 BD;replace p21:=eq_true p21;replace q21:=eq_true q21)|(at_builtin;refine aP 32 36 (Kd.int .u8) 22 5 (.int .u8 0) 1 underlying22 info5 HB (ur aqh.out) aqg (by have:=aiB.out;omega) ?_;intro aQu w24 ho hb hg hat;have az0:=ak (ho);replace HB:=ak (hb);clear ho hb hg hat aqh))
        go_roundg k1
        case measure=>exact kl
        case rel=>exact⟨_,_,rs,H',⟨kl⟩,⟨ur az0.out⟩,⟨ul HB.out⟩⟩
       ·replace H:=nl H;obtain⟨az1,H⟩:=H;obtain⟨aQv,aqi⟩:=nm (eG++[bt a0 BD]);rw[←aqi.out]at H;have H':=ak H;clear H;obtain⟨p11,q11,aaM⟩:=bx a0 BD;obtain⟨p18,q18,azy⟩:=bx a0 BD;obtain⟨p25,q25,hx25⟩:=bx a0 BD;go_wp2_with (at_builtin;refine aP 32 36 (Kd.int .u8) 22 5 (.int .u8 0) 1 underlying22 info5 HB (ur mZ.out) aqi (by have:=az1.out;omega) ?_;intro aQw w27 ho hb hg hat;have az2:=ak (ho);replace HB:=ak (hb);clear ho hb hg hat mZ)
        go_roundg k1
        case measure=>exact kl
        case rel=>exact⟨_,_,rs,H',⟨kl⟩,⟨ur az2.out⟩,⟨ul HB.out⟩⟩
     ·replace H:=nl H;obtain⟨az3,H⟩:=H;obtain⟨aQx,aqj⟩:=nm (eG++[34]);rw[←aqj.out]at H;obtain rfl:=s1 H;go_wp2_with (at_builtin;refine aP 39 40 (Kd.int .u8) 22 5 (.int .u8 0) 1 underlying22 info5 HB (ur mZ.out) aqj (by have:=az3.out;omega) ?_;intro aQy w29 ho hb hg hat;have az4:=ak (ho);replace HB:=ak (hb);clear ho hb hg hat mZ;have aKI:=uO (P:=Tryz.prog) underlying22 underlying5 underlying9 (wG az4.out))
      go_ret;exact⟨er,ul HB.out⟩
 ·obtain rfl:=s1 H;go_enter func166,ntmps166;go_wp2_with (refine gA func89 (bD.calls A2.out) ?_;intro nd)
  go_ret;exact⟨er,ul HB.out⟩
def lV.l0:Nat→ByteArray→List (fD)→Int→Int→Option (ByteArray)
 |0,_,_,_,_=>none
 |k+1,x3,Fe,x14,x15=>if x15<x14 then(if 0≤x15 then(if x15<(Fe.length:Int)then(if 2+((eU Fe x15).f0).size≤9223372036854775807 then(if((⟨#[59,32]⟩:ByteArray)++((eU Fe x15).f0)).size+1≤9223372036854775807 then((jT.f k ((eU Fe x15).f1)).bind fun XM=>(if(((⟨#[59,32]⟩:ByteArray)++((eU Fe x15).f0))++(⟨#[61]⟩:ByteArray)).size+XM.size≤9223372036854775807 then(if x3.size+((((⟨#[59,32]⟩:ByteArray)++((eU Fe x15).f0))++(⟨#[61]⟩:ByteArray))++XM).size≤9223372036854775807 then(lV.l0 k (x3++((((⟨#[59,32]⟩:ByteArray)++((eU Fe x15).f0))++(⟨#[61]⟩:ByteArray))++XM)) Fe x14 (wrap64 (x15+1)))else(none))else(none)))else(none))else(none))else(none))else(none))else(some x3)
def lV.f(k:Nat)(fK:ByteArray)(fP:ByteArray)(aQ:List (fD)):Option (ByteArray):=if fK.size+1≤9223372036854775807 then(if(fK++(⟨#[47]⟩:ByteArray)).size+fP.size≤9223372036854775807 then(lV.l0 k ((fK++(⟨#[47]⟩:ByteArray))++fP) aQ (aQ.length:Int) 0)else(none))else(none)
theorem lV.calls{k iP:Nat}{fK fP r:ByteArray}{jI:Option Addr}{aQ:List (fD)}{w:World}(nH:Kd.C rP w jI aQ.length aQ)(nI:aQ.length≤iP)(h:lV.f k fK fP aQ=some r):
  Calls Tryz.prog 137 #[.agg #[.string fK, .string fP, .slice jI aQ.length iP]] w fun e w'=>e= .returned (.string r)∧Below w.heap.size w w':=by
 have abl:=underlying61;have Fg:=underlying69;have lT:=ak nH;have qh:=ak nI;clear nH nI;have HB:=ak (Below.refl w.heap.size w);unfold lV.f at h;have H:=h;clear h;replace H:=nn H;obtain⟨c2,H⟩:=H;have rQ:=eq_true c2;have y8:=decide_eq_true c2;try have ajy:(9223372036854775807<fK.size+1)=False:=eq_false (Nat.not_lt.2 c2)
 replace H:=nn H;obtain⟨c3,H⟩:=H;have jd:=eq_true c3;have yQ:=decide_eq_true c3;try have aQz:(9223372036854775807<fK.size+1+fP.size)=False:=by have h_:=(eq_false (Nat.not_lt.2 c3):(9223372036854775807<(fK++(⟨#[47]⟩:ByteArray)).size+fP.size)=False);simp only[ByteArray.size_append]at h_;exact h_
 try have TK:(9223372036854775807<(fK++(⟨#[47]⟩:ByteArray)).size+fP.size)=False:=eq_false (Nat.not_lt.2 c3)
 have H':=ak H;clear H;go_enter func137,ntmps137;go_wp2_with (refine bX HB 1 #[.string fK, .string fP, .slice jI aQ.length iP] 61 ?_;intro az5 w4 FN aKJ hb;replace HB:=bs HB hb;clear hb;have z5:=jY FN.out)
 go_loopg [3,15] k (fun kq v3 v15 w'=>∃(eG:ByteArray) (qL:Int),v3= .string eG∧v15= .int .i64 qL∧ah (lV.l0 kq eG aQ (aQ.length:Int) qL=some r)∧ah (kq≤k)∧ah (w'.heap[az5]? =some (.cells #[.string fK, .string fP,(.slice jI aQ.length iP)] 61 (0,0)))∧ah (Below w.heap.size w w'))
 case atStart=>exact⟨_,_,rs,rs,H',⟨Nat.le_refl _⟩,⟨ub FN.out⟩,⟨bb⟩⟩
 case round=>
  clear H';try clear c2
  try clear rQ
  try clear y8
  try clear ajy
  try clear c3
  try clear jd
  try clear yQ
  try clear TK
  obtain⟨eG,qL,rfl,rfl,HA,yN,FN,HB⟩:=hrel
  cases gk with
  |zero=>exact zz HA.out
  |succ k1=>
   obtain⟨H⟩:=HA;simp only[lV.l0]at H;replace H:=sd H;rcases H with⟨nP,H⟩|⟨nP,H⟩
   ·replace H:=nY H;obtain⟨sK,H⟩:=H;replace H:=nY H;obtain⟨ru,H⟩:=H;replace H:=nn H;obtain⟨c9,H⟩:=H;have xG:=eq_true c9;have CG:=decide_eq_true c9;try have ayr:(9223372036854775807<2+((eU aQ qL).f0).size)=False:=eq_false (Nat.not_lt.2 c9)
    replace H:=nn H;obtain⟨c10,H⟩:=H;have qj:=eq_true c10;have uN:=decide_eq_true c10;try have aoO:(9223372036854775807<2+((eU aQ qL).f0).size+1)=False:=by have h_:=(eq_false (Nat.not_lt.2 c10):(9223372036854775807<((⟨#[59,32]⟩:ByteArray)++((eU aQ qL).f0)).size+1)=False);simp only[ByteArray.size_append]at h_;exact h_
    try have aaU:(9223372036854775807<((⟨#[59,32]⟩:ByteArray)++((eU aQ qL).f0)).size+1)=False:=eq_false (Nat.not_lt.2 c10)
    replace H:=bd H;obtain⟨XM,Yd,H⟩:=H;replace H:=nn H;obtain⟨c12,H⟩:=H;have vH:=eq_true c12;have Dv:=decide_eq_true c12;try have aKK:(9223372036854775807<2+((eU aQ qL).f0).size+1+XM.size)=False:=by have h_:=(eq_false (Nat.not_lt.2 c12):(9223372036854775807<(((⟨#[59,32]⟩:ByteArray)++((eU aQ qL).f0))++(⟨#[61]⟩:ByteArray)).size+XM.size)=False);simp only[ByteArray.size_append]at h_;exact h_
    try have axl:(9223372036854775807<(((⟨#[59,32]⟩:ByteArray)++((eU aQ qL).f0))++(⟨#[61]⟩:ByteArray)).size+XM.size)=False:=eq_false (Nat.not_lt.2 c12)
    replace H:=nn H;obtain⟨c13,H⟩:=H;have xE:=eq_true c13;have Bz:=decide_eq_true c13;try have awS:(9223372036854775807<eG.size+(2+((eU aQ qL).f0).size+1+XM.size))=False:=by have h_:=(eq_false (Nat.not_lt.2 c13):(9223372036854775807<eG.size+((((⟨#[59,32]⟩:ByteArray)++((eU aQ qL).f0))++(⟨#[61]⟩:ByteArray))++XM).size)=False);simp only[ByteArray.size_append]at h_;exact h_
    try have aeN:(9223372036854775807<eG.size+((((⟨#[59,32]⟩:ByteArray)++((eU aQ qL).f0))++(⟨#[61]⟩:ByteArray))++XM).size)=False:=eq_false (Nat.not_lt.2 c13)
    have H':=ak H;clear H;have at1:=zi qL;have at6:=zj qL aQ.length;obtain⟨aKL,aG6,afu,afv⟩:=su lT.out qL at1 at6;cases aG6;replace afu:=cl HB.out afu;replace afv:=cl HB.out afv;replace at1:=eq_true at1;replace at6:=eq_true at6;try go_wp2_with (refine bY HB 5 #[.string (⟨#[]⟩:ByteArray), .string (⟨#[]⟩:ByteArray)] 69 ?_;intro aqk Xv Ti az6 hg hb;have Yv:=Bo FN hg;have ag7:=Bq FN hg;replace FN:=kb FN hb;replace HB:=bz HB hb;clear hb hg;have aKM:=ag7.out;have aKN:=Yv.out;have z16:=Am Ti.out)
    refine ab2 HB Ti az6 ?_;intro w17 ajL hk HB;replace FN:=kf FN hk Yv;clear hk Ti;have Ti:=ajL;clear ajL;refine rO [7] [0,1,5,2,3,4,6,7,8,9,10] (fun w'=>w'.cell? ⟨aqk,0,none⟩=some (.string ((eU aQ qL).f0))∧w'.cell? ⟨aqk,1,none⟩=some (.string ((eU aQ qL).f1))) ?_;intro w18 hb;replace FN:=kb FN hb;replace Ti:=kb Ti hb;replace HB:=bs HB hb;refine⟨sx,?_⟩;repeat refine Bv ?_
    refine rB func166 (jT.calls Yd.out) ?_;intro X_ hb;replace FN:=kb FN hb;replace Ti:=kb Ti hb;replace HB:=bz HB hb;clear hb;refine⟨sx,?_⟩;repeat refine Bv ?_
    refine on ?_;try go_wp2
    go_roundg k1
    case measure=>exact kl
    case rel=>exact⟨_,_,rs,rs,H',⟨kl⟩,⟨ub FN.out⟩,⟨bb⟩⟩
   ·obtain rfl:=s1 H;go_wp2;go_ret;exact⟨er,bb⟩
mutual
def dY.j0:Nat→Bool→ByteArray→ByteArray→List (fD)→Option (Bool)
 |0,_,_,_,_=>none
 |k+1,x20,Uw,Ux,FP=>if x20=true then(some false)else(dY.l0 k FP (FP.length:Int) 0 Uw Ux FP)
def dY.l0:Nat→List (fD)→Int→Int→ByteArray→ByteArray→List (fD)→Option (Bool)
 |0,_,_,_,_,_,_=>none
 |k+1,x22,x23,x24,Uw,Ux,FP=>if x24<x23 then(if 0≤x24 then(if x24<(x22.length:Int)then((iO.f k ((eU x22 x24).f0)).bind fun az7=>(if az7=true then((bD.f k ((eU x22 x24).f1)).bind fun az8=>(if az8=true then(if(((eU x22 x24).f1).size:Int)>40 then(some false)else(if x24≤(FP.length:Int)then((nK.f k (FP.take (x24:Int).toNat) ((eU x22 x24).f0)).bind fun anc=>(if anc≥0 then(some false)else(dY.l0 k x22 x23 (wrap64 (x24+1)) Uw Ux FP)))else(none)))else(some false)))else(some false)))else(none))else(none))else((lV.f k Uw Ux FP).bind fun az9=>(some (decide ((az9.size:Int)≤150))))
end
def dY.f(k:Nat)(fK:ByteArray)(fP:ByteArray)(aQ:List (fD)):Option (Bool):=(iO.f k fK).bind fun az_=>(if az_=true then((iO.f k fP).bind fun aAa=>(if aAa=true then(dY.j0 k (decide ((aQ.length:Int)>4)) fK fP aQ)else(dY.j0 k true fK fP aQ)))else(dY.j0 k true fK fP aQ))
theorem dY.calls{k iP:Nat}{fK fP:ByteArray}{jI:Option Addr}{aQ:List (fD)}{r:Bool}{w:World}(nH:Kd.C rP w jI aQ.length aQ)(nI:aQ.length≤iP)(h:dY.f k fK fP aQ=some r):
  Calls Tryz.prog 95 #[.agg #[.string fK, .string fP, .slice jI aQ.length iP]] w fun e w'=>e= .returned (.bool r)∧Below w.heap.size w w':=by
 have abl:=underlying61;have Fg:=underlying69;have lT:=ak nH;have qh:=ak nI;clear nH nI;have HB:=ak (Below.refl w.heap.size w);unfold dY.f at h;have H:=h;clear h;have HC2:=ak H;clear H;go_enter func95,ntmps95;go_upto_region 1 with(refine gG 1 ?_;refine bX HB 1 #[.string fK, .string fP, .slice jI aQ.length iP] 61 ?_;intro Tj w3 jg aKO hb;replace HB:=bs HB hb;clear hb)
 (try simp only[Act.put,C_,Dc,l_c]);go_cut [20] (fun v20 wc=>∃(kq:Nat) (ajM:Bool),v20= .bool ajM∧ah (dY.j0 kq ajM fK fP aQ=some r)∧ah (kq≤k)∧ah (wc.heap[Tj]? =some (.cells #[.string fK, .string fP,(.slice jI aQ.length iP)] 61 (0,0)))∧ah (Below w.heap.size w wc))
 case first=>
  have H:=HC2.out;clear HC2;replace H:=bd H;obtain⟨az_,A4,H⟩:=H;replace H:=sb H;rcases H with⟨rfl,H⟩|⟨rfl,H⟩
  ·replace H:=bd H;obtain⟨aAa,A6,H⟩:=H;replace H:=sb H;rcases H with⟨rfl,H⟩|⟨rfl,H⟩
   ·have H':=ak H;clear H;have z8:=jY jg.out;go_wp2_with (first|(refine gB func136 (iO.calls A4.out) ?_;intro w9 hb;replace jg:=kb jg hb;replace HB:=bz HB hb;clear hb;have z10:=jY jg.out)|(go_at_call 136;refine mB (iO.calls A6.out) ?_;intro X0 hb;replace jg:=kb jg hb;replace HB:=bz HB hb;clear hb;have z12:=jY jg.out))
    go_meet
    case rel=>exact⟨_,_,rs,H',⟨JB⟩,⟨ub jg.out⟩,⟨bb⟩⟩
   ·have H':=ak H;clear H;have z13:=jY jg.out;go_wp2_with (first|(refine gB func136 (iO.calls A4.out) ?_;intro Xv hb;replace jg:=kb jg hb;replace HB:=bz HB hb;clear hb;have z15:=jY jg.out)|(go_at_call 136;refine mB (iO.calls A6.out) ?_;intro w16 hb;replace jg:=kb jg hb;replace HB:=bz HB hb;clear hb))
    go_meet
    case rel=>exact⟨_,_,rs,H',⟨JB⟩,⟨ub jg.out⟩,⟨bb⟩⟩
  ·have H':=ak H;clear H;have z17:=jY jg.out;go_wp2_with (refine gB func136 (iO.calls A4.out) ?_;intro w18 hb;replace jg:=kb jg hb;replace HB:=bz HB hb;clear hb)
   go_meet
   case rel=>exact⟨_,_,rs,H',⟨JB⟩,⟨ub jg.out⟩,⟨bb⟩⟩
 case rest=>
  clear HC2;obtain⟨kq,ajM,rfl,HA,HJ1,jg,HB⟩:=hcut
  cases kq with
  |zero=>exact zz HA.out
  |succ TM=>
   obtain⟨H⟩:=HA;simp only[dY.j0]at H;replace H:=sb H;rcases H with⟨rfl,H⟩|⟨rfl,H⟩
   ·obtain rfl:=s1 H;go_wp2;go_ret;exact⟨er,bb⟩
   ·have H':=ak H;clear H;have z20:=jY jg.out;go_wp2;go_loopg [24] TM (fun kq v24 w'=>∃(oI:Int),v24= .int .i64 oI∧ah (dY.l0 kq aQ (aQ.length:Int) oI fK fP aQ=some r)∧ah (kq≤TM)∧ah (w'.heap[Tj]? =some (.cells #[.string fK, .string fP,(.slice jI aQ.length iP)] 61 (0,0)))∧ah (Below w.heap.size w w'))
    case atStart=>exact⟨_,rs,H',⟨Nat.le_refl _⟩,⟨ub jg.out⟩,⟨bb⟩⟩
    case round=>
     clear H';obtain⟨oI,rfl,HA,HK2,jg,HB⟩:=hrel
     cases gk with
     |zero=>exact zz HA.out
     |succ k2=>
      obtain⟨H⟩:=HA;simp only[dY.l0]at H;replace H:=sd H;rcases H with⟨Dx,H⟩|⟨Dx,H⟩
      ·replace H:=nY H;obtain⟨I5,H⟩:=H;replace H:=nY H;obtain⟨EF,H⟩:=H;replace H:=bd H;obtain⟨az7,A24,H⟩:=H;replace H:=sb H;rcases H with⟨rfl,H⟩|⟨rfl,H⟩
       ·replace H:=bd H;obtain⟨az8,A26,H⟩:=H;replace H:=sb H;rcases H with⟨rfl,H⟩|⟨rfl,H⟩
        ·replace H:=sp H;rcases H with⟨c28,H⟩|⟨c28,H⟩
         ·have JC:decide (40<(((eU aQ oI).f1).size:Int))=true:=decide_eq_true c28;have aft:decide (40<((eU aQ oI).f1).size)=true:=decide_eq_true (by omega);clear c28;obtain rfl:=s1 H;have Iu:=zi oI;have Iw:=zj oI aQ.length;obtain⟨L8,Zt,yc,yg⟩:=su lT.out oI Iu Iw;cases Zt;replace yc:=cl HB.out yc;replace yg:=cl HB.out yg;replace Iu:=eq_true Iu;replace Iw:=eq_true Iw;try go_wp2_with (refine gG 4 ?_;refine bY HB 4 #[.string (⟨#[]⟩:ByteArray), .string (⟨#[]⟩:ByteArray)] 69 ?_;intro FQ w29 nZ OV hg hb;have sQ:=Bo jg hg;have yU:=Bq jg hg;replace jg:=kb jg hb;replace HB:=bz HB hb;clear hb hg;have aAb:=yU.out;have aAc:=sQ.out;have z31:=Am nZ.out)
          refine ab2 HB nZ OV ?_;intro w32 Aw hk HB;replace jg:=kf jg hk sQ;clear hk nZ;have nZ:=Aw;clear Aw;refine rO [2,7] [0,1,2,3,4,5,6,7,8,9,10,11,12,13,14,15,16,17,18,19,20,21,22,23,24,25] (fun w'=>w'.cell? ⟨FQ,0,none⟩=some (.string ((eU aQ oI).f0))∧w'.cell? ⟨FQ,1,none⟩=some (.string ((eU aQ oI).f1))) ?_;intro w33 hb;replace jg:=kb jg hb;replace nZ:=kb nZ hb;replace HB:=bs HB hb;refine⟨sx,?_⟩;repeat(first|refine Bv ?_|refine Zf ?_)
          refine rB func136 (iO.calls A24.out) ?_;intro w34 hb;replace jg:=kb jg hb;replace nZ:=kb nZ hb;replace HB:=bz HB hb;clear hb;refine⟨sx,?_⟩;repeat(first|refine Bv ?_|refine Zf ?_)
          refine rA func89 (bD.calls A26.out) ?_;intro nd;refine⟨sx,?_⟩;repeat(first|refine Bv ?_|refine Zf ?_)
          refine on ?_;try go_wp2
          go_ret;exact⟨er,bb⟩
         ·have JC:decide (40<(((eU aQ oI).f1).size:Int))=false:=decide_eq_false c28;have aft:decide (40<((eU aQ oI).f1).size)=false:=decide_eq_false (by omega);clear c28;have Yg:=eq_true (of_decide_eq_true (by assumption):0≤oI);replace H:=zh H;obtain⟨ajC,aAd,H⟩:=H;obtain⟨ane,abm⟩:=nm (aQ.take (oI:Int).toNat);rw[←abm.out]at H;replace H:=bd H;obtain⟨anc,A37,H⟩:=H;replace H:=sp H;rcases H with⟨c38,H⟩|⟨c38,H⟩
          ·have aa1:decide (0≤anc)=true:=decide_eq_true c38;clear c38;obtain rfl:=s1 H;have Iu:=zi oI;have Iw:=zj oI aQ.length;obtain⟨L8,Zt,yc,yg⟩:=su lT.out oI Iu Iw;cases Zt;replace yc:=cl HB.out yc;replace yg:=cl HB.out yg;replace Iu:=eq_true Iu;replace Iw:=eq_true Iw;try go_wp2_with (refine gG 4 ?_;refine bY HB 4 #[.string (⟨#[]⟩:ByteArray), .string (⟨#[]⟩:ByteArray)] 69 ?_;intro FQ w39 nZ OV hg hb;have sQ:=Bo jg hg;have yU:=Bq jg hg;replace jg:=kb jg hb;replace HB:=bz HB hb;clear hb hg;have aKP:=yU.out;have aKQ:=sQ.out;have at7:=Am nZ.out)
           refine ab2 HB nZ OV ?_;intro w42 Aw hk HB;replace jg:=kf jg hk sQ;clear hk nZ;have nZ:=Aw;clear Aw;refine rO [2,7,23] [0,1,2,3,4,5,6,7,8,9,10,11,12,13,14,15,16,17,19,21,18,20,22,23,24,25] (fun w'=>w'.cell? ⟨FQ,0,none⟩=some (.string ((eU aQ oI).f0))∧w'.cell? ⟨FQ,1,none⟩=some (.string ((eU aQ oI).f1))∧w'.cell? ⟨Tj,0,none⟩=some (.string fK)∧w'.cell? ⟨Tj,1,none⟩=some (.string fP)∧w'.cell? ⟨Tj,2,none⟩=some (.slice (some L8) aQ.length iP)) ?_;intro w43 hb;replace jg:=kb jg hb;replace nZ:=kb nZ hb;replace HB:=bs HB hb;refine⟨sx,?_⟩;repeat refine Bv ?_
           refine rB func136 (iO.calls A24.out) ?_;intro w44 hb;replace jg:=kb jg hb;replace nZ:=kb nZ hb;replace HB:=bz HB hb;clear hb;refine⟨sx,?_⟩;repeat refine Bv ?_
           refine rA func89 (bD.calls A26.out) ?_;intro nd;have q45:(oI:Int)≤((aQ.length:Int):Int):=of_decide_eq_true (by assumption);obtain⟨aQA,aql,_,aAe,_⟩:=info_parts CZ;have afw:aQ.length≤iP:=qh.out;have aAf:Kd.C rP _ (some L8) aQ.length aQ:=lT.out;have aua:=Zu (P:=Tryz.prog) 25 69 .i64 underlying25 aql (some L8) aQ.length iP oI (of_decide_eq_true (by assumption)) q45 afw;have aub:=Zv (m:=(oI:Int).toNat) aAf (by omega);have auc:ane.length=(oI:Int).toNat:=(by rw[abm.out,List.length_take];omega)
           rw[←abm.out]at aub;rw[←auc]at aua;have ajN:=ak aub;have ajO:=ak (show ane.length≤iP from by omega);clear aub aAf afw aql aAe;have aQB:=ak auc;clear auc;replace q45:=eq_true q45;refine⟨sx,?_⟩;repeat refine Bv ?_
           refine rB func88 (nK.calls (cu (aK ajN.out bb)) ajO.out A37.out) ?_;intro w46 hb;replace jg:=kb jg hb;replace nZ:=kb nZ hb;replace HB:=bz HB hb;clear hb;refine⟨sx,?_⟩;repeat refine Bv ?_
           refine on ?_;try go_wp2
           go_ret;exact⟨er,bb⟩
          ·have aa1:decide (0≤anc)=false:=decide_eq_false c38;clear c38;have H':=ak H;clear H;have Iu:=zi oI;have Iw:=zj oI aQ.length;obtain⟨L8,Zt,yc,yg⟩:=su lT.out oI Iu Iw;cases Zt;replace yc:=cl HB.out yc;replace yg:=cl HB.out yg;replace Iu:=eq_true Iu;replace Iw:=eq_true Iw;try go_wp2_with (refine gG 4 ?_;refine bY HB 4 #[.string (⟨#[]⟩:ByteArray), .string (⟨#[]⟩:ByteArray)] 69 ?_;intro FQ w47 nZ OV hg hb;have sQ:=Bo jg hg;have yU:=Bq jg hg;replace jg:=kb jg hb;replace HB:=bz HB hb;clear hb hg;have aAg:=yU.out;have aAh:=sQ.out;have z49:=Am nZ.out)
           refine ab2 HB nZ OV ?_;intro w50 Aw hk HB;replace jg:=kf jg hk sQ;clear hk nZ;have nZ:=Aw;clear Aw;refine rO [2,7,23] [0,1,2,3,4,5,6,7,8,9,10,11,12,13,14,15,16,17,19,21,18,20,22,23,24,25] (fun w'=>w'.cell? ⟨FQ,0,none⟩=some (.string ((eU aQ oI).f0))∧w'.cell? ⟨FQ,1,none⟩=some (.string ((eU aQ oI).f1))∧w'.cell? ⟨Tj,0,none⟩=some (.string fK)∧w'.cell? ⟨Tj,1,none⟩=some (.string fP)∧w'.cell? ⟨Tj,2,none⟩=some (.slice (some L8) aQ.length iP)) ?_;intro w51 hb;replace jg:=kb jg hb;replace nZ:=kb nZ hb;replace HB:=bs HB hb;refine⟨sx,?_⟩;repeat refine Bv ?_
           refine rB func136 (iO.calls A24.out) ?_;intro w52 hb;replace jg:=kb jg hb;replace nZ:=kb nZ hb;replace HB:=bz HB hb;clear hb;refine⟨sx,?_⟩;repeat refine Bv ?_
           refine rA func89 (bD.calls A26.out) ?_;intro nd;have q53:(oI:Int)≤((aQ.length:Int):Int):=of_decide_eq_true (by assumption);obtain⟨aQC,aqm,_,aAi,_⟩:=info_parts CZ;have afx:aQ.length≤iP:=qh.out;have aAj:Kd.C rP _ (some L8) aQ.length aQ:=lT.out;have aud:=Zu (P:=Tryz.prog) 25 69 .i64 underlying25 aqm (some L8) aQ.length iP oI (of_decide_eq_true (by assumption)) q53 afx;have aue:=Zv (m:=(oI:Int).toNat) aAj (by omega);have auf:ane.length=(oI:Int).toNat:=(by rw[abm.out,List.length_take];omega)
           rw[←abm.out]at aue;rw[←auf]at aud;have ajN:=ak aue;have ajO:=ak (show ane.length≤iP from by omega);clear aue aAj afx aqm aAi;have aQD:=ak auf;clear auf;replace q53:=eq_true q53;refine⟨sx,?_⟩;repeat refine Bv ?_
           refine rB func88 (nK.calls (cu (aK ajN.out bb)) ajO.out A37.out) ?_;intro w54 hb;replace jg:=kb jg hb;replace nZ:=kb nZ hb;replace HB:=bz HB hb;clear hb;refine⟨sx,?_⟩;repeat refine Bv ?_
           refine on ?_;try go_wp2
           go_roundg k2
           case measure=>exact kl
           case rel=>exact⟨_,rs,H',⟨kl⟩,⟨ub jg.out⟩,⟨bb⟩⟩
        ·obtain rfl:=s1 H;have Iu:=zi oI;have Iw:=zj oI aQ.length;obtain⟨L8,Zt,yc,yg⟩:=su lT.out oI Iu Iw;cases Zt;replace yc:=cl HB.out yc;replace yg:=cl HB.out yg;replace Iu:=eq_true Iu;replace Iw:=eq_true Iw;try go_wp2_with (refine gG 4 ?_;refine bY HB 4 #[.string (⟨#[]⟩:ByteArray), .string (⟨#[]⟩:ByteArray)] 69 ?_;intro FQ w55 nZ OV hg hb;have sQ:=Bo jg hg;have yU:=Bq jg hg;replace jg:=kb jg hb;replace HB:=bz HB hb;clear hb hg;have ayk:=yU.out;have ayl:=sQ.out;have z57:=Am nZ.out)
         refine ab2 HB nZ OV ?_;intro w58 Aw hk HB;replace jg:=kf jg hk sQ;clear hk nZ;have nZ:=Aw;clear Aw;refine rO [2,7] [0,1,2,3,4,5,6,7,8,9,10,11,12,13,14,15,16,17,18,19,20,21,22,23,24,25] (fun w'=>w'.cell? ⟨FQ,0,none⟩=some (.string ((eU aQ oI).f0))∧w'.cell? ⟨FQ,1,none⟩=some (.string ((eU aQ oI).f1))) ?_;intro w59 hb;replace jg:=kb jg hb;replace nZ:=kb nZ hb;replace HB:=bs HB hb;refine⟨sx,?_⟩;repeat(first|refine Bv ?_|refine Zf ?_)
         refine rB func136 (iO.calls A24.out) ?_;intro w60 hb;replace jg:=kb jg hb;replace nZ:=kb nZ hb;replace HB:=bz HB hb;clear hb;refine⟨sx,?_⟩;repeat(first|refine Bv ?_|refine Zf ?_)
         refine rA func89 (bD.calls A26.out) ?_;intro nd;refine⟨sx,?_⟩;repeat(first|refine Bv ?_|refine Zf ?_)
         refine on ?_;try go_wp2
         go_ret;exact⟨er,bb⟩
       ·obtain rfl:=s1 H;have Iu:=zi oI;have Iw:=zj oI aQ.length;obtain⟨L8,Zt,yc,yg⟩:=su lT.out oI Iu Iw;cases Zt;replace yc:=cl HB.out yc;replace yg:=cl HB.out yg;replace Iu:=eq_true Iu;replace Iw:=eq_true Iw;try go_wp2_with (refine gG 4 ?_;refine bY HB 4 #[.string (⟨#[]⟩:ByteArray), .string (⟨#[]⟩:ByteArray)] 69 ?_;intro FQ w61 nZ OV hg hb;have sQ:=Bo jg hg;have yU:=Bq jg hg;replace jg:=kb jg hb;replace HB:=bz HB hb;clear hb hg;have aAk:=yU.out;have aAl:=sQ.out;have z63:=Am nZ.out)
        refine ab2 HB nZ OV ?_;intro w64 Aw hk HB;replace jg:=kf jg hk sQ;clear hk nZ;have nZ:=Aw;clear Aw;refine rO [2] [0,1,2,3,4,5,6,7,8,9,10,11,12,13,14,15,16,17,18,19,20,21,22,23,24,25] (fun w'=>w'.cell? ⟨FQ,0,none⟩=some (.string ((eU aQ oI).f0))∧w'.cell? ⟨FQ,1,none⟩=some (.string ((eU aQ oI).f1))) ?_;intro w65 hb;replace jg:=kb jg hb;replace nZ:=kb nZ hb;replace HB:=bs HB hb;refine⟨sx,?_⟩;repeat(first|refine Bv ?_|refine Zf ?_)
        refine rB func136 (iO.calls A24.out) ?_;intro w66 hb;replace jg:=kb jg hb;replace nZ:=kb nZ hb;replace HB:=bz HB hb;clear hb;refine⟨sx,?_⟩;repeat(first|refine Bv ?_|refine Zf ?_)
        refine on ?_;try go_wp2
        go_ret;exact⟨er,bb⟩
      ·replace H:=bd H;obtain⟨az9,A67,H⟩:=H;obtain rfl:=s1 H;have z68:=jY jg.out;go_wp2_with (refine gB func137 (lV.calls (cu (aK lT.out HB.out)) qh.out A67.out) ?_;intro w69 hb;replace jg:=kb jg hb;replace HB:=bz HB hb;clear hb)
       go_ret;exact⟨er,bb⟩
mutual
def dh.l0:Nat→Bool→List ByteArray→Int→Int→ByteArray→ByteArray→List (fD)→Option (ByteArray×ByteArray×(List (fD))×Bool)
 |0,_,_,_,_,_,_,_=>none
 |k+1,x7,x37,x38,x39,Iy,Iz,FT=>if x39<x38 then(if 0≤x39 then(if x39<(x37.length:Int)then((strings_Cut.f (iD ByteArray.empty x37 x39) (⟨#[61]⟩:ByteArray)).bind fun abn=>((dW.f k abn.2.1).bind fun abo=>(if abn.2.2=true then(if abo.2=true then(dh.j1 k x7 abn.1 abo.1 x37 x38 x39 ((abo.1.length:Int) !=1) Iy Iz FT)else(dh.j1 k x7 abn.1 abo.1 x37 x38 x39 true Iy Iz FT))else(dh.j1 k x7 abn.1 abo.1 x37 x38 x39 true Iy Iz FT))))else(none))else(none))else(if x7=true then((dY.f k Iy Iz FT).bind fun aAm=>(if aAm=true then(some (Iy,Iz,FT,true))else(some ((⟨#[]⟩:ByteArray),(⟨#[]⟩:ByteArray),([]:List (fD)),false))))else(some ((⟨#[]⟩:ByteArray),(⟨#[]⟩:ByteArray),([]:List (fD)),false)))
def dh.j1:Nat→Bool→ByteArray→List ByteArray→List ByteArray→Int→Int→Bool→ByteArray→ByteArray→List (fD)→Option (ByteArray×ByteArray×(List (fD))×Bool)
 |0,_,_,_,_,_,_,_,_,_,_=>none
 |k+1,x7,x11,x14,x37,x38,x39,x64,Iy,Iz,FT=>if x64=true then(some ((⟨#[]⟩:ByteArray),(⟨#[]⟩:ByteArray),([]:List (fD)),false))else((lM.f x11 (⟨#[32]⟩:ByteArray)).bind fun aug=>((jS.f aug).bind fun ag8=>(if 0<(x14.length:Int)then(if FT.length<4398046511104 then(dh.l0 k x7 x37 x38 (wrap64 (x39+1)) Iy Iz (FT++[(⟨ag8,iD ByteArray.empty x14 0⟩:fD)]))else(none))else(none))))
end
def dh.f(k:Nat)(a0:ByteArray):Option (ByteArray×ByteArray×(List (fD))×Bool):=(bD.f k a0).bind fun aAn=>(if aAn=true then((iY.f k a0 59).bind fun JK=>(if 0<(JK.length:Int)then((lM.f (iD ByteArray.empty JK 0) (⟨#[32]⟩:ByteArray)).bind fun aAo=>((strings_Cut.f aAo (⟨#[47]⟩:ByteArray)).bind fun ajP=>((jS.f ajP.1).bind fun TU=>((jS.f ajP.2.1).bind fun TV=>(if 1≤(JK.length:Int)then((some (JK.drop 1:List ByteArray)).bind fun IB=>(dh.l0 k ajP.2.2 IB (IB.length:Int) 0 TU TV ([]:List (fD))))else(none))))))else(none)))else(some ((⟨#[]⟩:ByteArray),(⟨#[]⟩:ByteArray),([]:List (fD)),false)))
def dh.T13:Bool×List (List Nat×List Nat):=(true,[([],[]),([0],[0]),([],[]),([2],[2]),([3,3],[3]),([],[]),([5],[5]),([6],[6]),([4,7],[4,7]),([8],[8]),([1,9,4],[1,9]),([0,1,2,3,4,5,6,7,8,9,10],[]),([11,10,10,0,1,2,3,4,5,6,7,8,9,10],[10,11])])
def dh.B13:List Nat:=[0,1,0,4,12,0,32,96,252,508,1023,2047,4095]
theorem dh.ajQ:Ap .any (opsOf Tryz.f48 13)=dh.T13:=by kernel_rfl
theorem dh.adh:Aq dh.T13.2 dh.B13=true:=by kernel_rfl
theorem dh.calls{k:Nat}{a0 r1 r2:ByteArray}{r3:List (fD)}{r4:Bool}{w:World}(EG:MaxOk w)(h:dh.f k a0=some (r1,r2,r3,r4)):
  Calls Tryz.prog 48 #[.string a0] w fun e w'=>∃IZ:Value,e= .returned (.tuple #[.agg #[.string r1, .string r2,IZ], .bool r4])∧Kd.R rP 69 w' w.heap.size (fun _=>True) IZ r3∧Below w.heap.size w w':=by
 have abl:=underlying61;have Fg:=underlying69;have HG:=ak EG;clear EG;have HB:=ak (Below.refl w.heap.size w);unfold dh.f at h;have H:=h;clear h;replace H:=bd H;obtain⟨aAn,A2,H⟩:=H;replace H:=sb H;rcases H with⟨rfl,H⟩|⟨rfl,H⟩
 ·replace H:=bd H;obtain⟨JK,A4,H⟩:=H;replace H:=nn H;obtain⟨c5,H⟩:=H;have nO:=decide_eq_true c5;have QY:decide (0<JK.length)=true:=decide_eq_true (by omega);clear c5;replace H:=bd H;obtain⟨aAo,A6,H⟩:=H;replace H:=bd H;obtain⟨⟨aQE,aQF,aAp⟩,A7,H⟩:=H
  (try dsimp only at H);replace H:=bd H;obtain⟨TU,A8,H⟩:=H;replace H:=bd H;obtain⟨TV,A9,H⟩:=H;replace H:=zh H;obtain⟨qj,uN,H⟩:=H;replace H:=ny H;obtain⟨IB,aqn,H⟩:=H;have H':=ak H;clear H;go_enter func48,ntmps48;go_wp2_with (first|(refine gG 2 ?_;refine bX HB 2 #[.string (⟨#[]⟩:ByteArray), .string (⟨#[]⟩:ByteArray), .slice none 0 0] 61 ?_;intro Hg X0 og aAq hb;replace HB:=bs HB hb;clear hb)|(refine gD func89 (bD.calls A2.out) ?_;intro X0 hb;replace og:=kb og hb;replace HB:=bz HB hb;clear hb)|(refine gV func90 (iY.calls A4.out) ?_;rintro aQG w12 ⟨ho0,hb⟩;have CP:=ak (aC ho0 (au bb));replace og:=kb og hb;replace HB:=bz HB hb;clear hb;(try clear ho0);obtain⟨kX,jy,Ee⟩:=aI CP.out;subst Ee;have ajR:0≤(0:Int):=(by omega);have ajS:0<(JK.length:Int):=of_decide_eq_true (by assumption);obtain⟨abp,aG7,Uy⟩:=bV (aj CP.out).2.2 0 ajR ajS;cases aG7;have aKR:(0<JK.length)=True:=eq_true (by omega);(try rw[show((0:Int)).toNat=0 from rfl]at Uy);(try rw[Addr.add_zero']at Uy);replace ajR:=eq_true ajR;replace ajS:=eq_true ajS)|(refine gD func92 (lM.calls A6.out) ?_;intro w12 hb;replace CP:=rb CP hb;replace og:=kb og hb;replace HB:=bz HB hb;clear hb)|(refine gD func91 (strings_Cut.calls ?dN A7.out) ?_;(case dN=>first|exact HG.out|exact MaxOk.below HG.out bb|(repeat(first|exact HG.out|apply MaxOk.drewN|apply MaxOk.drew)));intro w12 hb;replace CP:=rb CP hb;replace og:=kb og hb;replace HB:=bz HB hb;clear hb)|(refine gB func93 (jS.calls A8.out) ?_;intro Xv hb;replace CP:=rb CP hb;replace og:=kb og hb;replace HB:=bz HB hb;clear hb)|(refine gB func93 (jS.calls A9.out) ?_;intro w15 hb;replace CP:=rb CP hb;replace og:=kb og hb;replace HB:=bz HB hb;clear hb)|(refine gG 8 ?_;refine bY HB 8 #[.string (⟨#[]⟩:ByteArray), .string (⟨#[]⟩:ByteArray), .slice none 0 0] 61 ?_;intro Az w16 pK aKS hg hb;have D9:=Bo og hg;have D_:=Bq og hg;replace CP:=rb CP hb;replace og:=kb og hb;replace HB:=bz HB hb;clear hb hg;have ayC:=D_.out;have ayD:=D9.out;have z18:=jY pK.out)|((with_reducible refine BM (t:=61) (p:=8) rfl ?_);refine Ad (t:=61) (p:=8) (v:=?aG8) (w1:=(((w16.setCell ⟨Az,0,none⟩ (.string TU)).setCell ⟨Az,1,none⟩ (.string TV)).setCell ⟨Az,2,none⟩ (.slice none 0 0))) ?hg ?ho ?hn ?hr ?_;(case ho=>rfl);(case hg=>rfl);(case hn=>rfl);(case hr=>first|(go_simp;done)|(go_simp;rfl));intro X_ hw;have Eo:ah (Kd.R Kd.string 9 X_ w.heap.size (fun _=>True) (.slice (some abp) JK.length jy) JK):=⟨(by rw[hw];exact(ur (ay (aH (p:=⟨Az,2,none⟩) (aH (p:=⟨Az,1,none⟩) (aH (p:=⟨Az,0,none⟩) (l7 CP.out pK.out (by decide)) (fun _ hk=>hk.2) (.string TU)) (fun _ hk=>hk.2) (.string TV)) (fun _ hk=>hk.2) (.slice none 0 0)) (fun _ hk=>trivial))))⟩;have Ep:ah (X_.heap[Hg]? =some (.cells #[.string (⟨#[]⟩:ByteArray), .string (⟨#[]⟩:ByteArray), .slice none 0 0] 61 (0,0))):=⟨(by rw[hw];exact bq)⟩;have G6:ah (X_.heap[Az]? =some (.cells #[.string TU, .string TV, .slice none 0 0] 61 (0,0))):=⟨(by rw[hw];exact bq)⟩;have LU:ah (Below w.heap.size w X_):=⟨(by rw[hw];exact bb)⟩;clear hw;clear CP;clear og;clear pK;clear HB;have CP:=Eo;have og:=Ep;have pK:=G6;have HB:=LU;clear Eo Ep G6 LU;have q20:(1:Int)≤((JK.length:Int):Int):=of_decide_eq_true (by assumption);obtain⟨aG9,abq,_,abr,_⟩:=info_parts info9;have Uz:JK.length≤jy:=(aj CP.out).2.1;have ajT:Kd.F Kd.string _ _ (some abp) JK.length JK:=(anf (base:=w.heap.size) (Kd.R_V (l7 (l7 (CP.out) og.out (by decide)) pK.out (by decide)))).2.2;have ajU:=abt (P:=Tryz.prog) 23 9 .i64 underlying23 abq 1 abr (some abp) JK.length jy 1 (by omega) q20;have ajV:=aAr (m:=(1:Int).toNat) (c:=jy) ajT (by omega) Uz;obtain⟨A20,hA20⟩:∃A1,A1=(if jy=(1:Int).toNat then(some abp)else((some abp):Option Addr).map (·.add ((1:Int).toNat*1))):=⟨_,rfl⟩;obtain⟨c20,ang⟩:∃c1,c1=jy-(1:Int).toNat:=⟨_,rfl⟩;have ajW:IB.length=JK.length-(1:Int).toNat:=(by rw[aqn.out,List.length_drop]<;>omega);rw[show(JK).drop (1:Int).toNat=IB from aqn.out.symm]at ajV;replace ajV:Kd.F Kd.string _ _ A20 IB.length IB:=(by rw[hA20];exact ajV);rw[←ajW,←hA20,←ang]at ajU;have aAs:=ak (show Kd.V Kd.string 9 _ w.heap.size _ (.slice A20 IB.length c20) IB from aG_ (by rw[ajW,ang];exact Nat.sub_le_sub_right Uz _) ajV);have aKT:=ak (show IB.length≤c20 from by rw[ajW,ang];exact Nat.sub_le_sub_right Uz _);clear ajV ajT Uz abq abr ang;have aQH:=ak ajW;have aQI:=ak hA20;clear ajW hA20;replace q20:=eq_true q20))
  go_loopg [39] k (fun kq v39 w'=>∃(VP:Int) (KG:ByteArray) (KH:ByteArray) (Ae:List (fD)) (AA:Value),v39= .int .i64 VP∧ah (dh.l0 kq aAp IB (IB.length:Int) VP TU TV Ae=some (r1,r2,r3,r4))∧ah (kq≤k)∧ah (Kd.V Kd.string 9 w' w.heap.size (fun k_=>some k_≠(AA:Value).ownBlock∧k_≠Hg∧k_≠Az) (.slice A20 IB.length c20) IB)∧ah (Kd.R rP 69 w' w.heap.size (fun _=>True) AA Ae)∧ah (w'.heap[Hg]? =some (.cells #[.string KG, .string KH,(.slice none 0 0)] 61 (0,0)))∧ah (w'.heap[Az]? =some (.cells #[.string TU, .string TV,AA] 61 (0,0)))∧ah (Below w.heap.size w w'))
  case atStart=>exact⟨_,_,_,_,_,rs,H',⟨Nat.le_refl _⟩,⟨by(with_reducible repeat(first|apply Kd.KI|apply IC|apply JL));exact Na aAs.out (fun _ hk=>⟨(by simp[Value.ownBlock]),⟨hk.1.2,hk.2⟩⟩)⟩,⟨nx⟩,⟨ub og.out⟩,⟨ub pK.out⟩,⟨bb⟩⟩
  case round=>
   clear H';try clear c1
   try clear c5
   try clear nO
   try clear QY
   try clear qj
   try clear uN
   try clear c20
   try clear q20
   try clear Uy
   try clear ajR
   try clear q20
   try clear ajS
   obtain⟨VP,KG,KH,Ae,AA,rfl,HA,yN,Af,kZ,og,pK,HB⟩:=hrel
   cases gk with
   |zero=>exact zz HA.out
   |succ k1=>
    obtain⟨H⟩:=HA;simp only[dh.l0]at H;replace H:=sd H;rcases H with⟨Dx,H⟩|⟨Dx,H⟩
    ·replace H:=nY H;obtain⟨I5,H⟩:=H;replace H:=nY H;obtain⟨EF,H⟩:=H;replace H:=bd H;obtain⟨⟨aAt,aQJ,aQK⟩,A24,H⟩:=H
     (try dsimp only at H);replace H:=bd H;obtain⟨⟨VQ,aQL⟩,A25,H⟩:=H
     (try dsimp only at H);have auh:=ak H;clear H;have anh:=zi VP;have ani:=zj VP IB.length;obtain⟨aAu,aHa,anj⟩:=bV (ajX Af.out).2.2 VP anh ani;cases aHa;replace anh:=eq_true anh;replace ani:=eq_true ani;go_upto_region 11 with(first|(refine gA func91 (strings_Cut.calls ?dN A24.out) ?_;(case dN=>first|exact HG.out|exact MaxOk.below HG.out bb|(repeat(first|exact HG.out|apply MaxOk.drewN|apply MaxOk.drew)));intro nd)|(refine gV func94 (dW.calls A25.out) ?_;rintro aAv w27 ⟨ho0,hb⟩;have afy:=ak (aC ho0 (au bb));replace Af:=ak (ajY (by(with_reducible repeat(first|apply Kd.KI|apply IC|apply JL));exact Af.out) (bZ ho0) hb);replace kZ:=rb kZ hb;replace og:=kb og hb;replace pK:=kb pK hb;replace HB:=bz HB hb;clear hb;(try clear ho0)))
     (try simp only[Act.put,C_,Dc,l_c]);go_cut [64] (fun v64 wc=>∃(kq:Nat) (adi:Bool),v64= .bool adi∧ah (dh.j1 kq aAp aAt VQ IB (IB.length:Int) VP adi TU TV Ae=some (r1,r2,r3,r4))∧ah (kq≤k1)∧ah (Kd.R Kd.string 9 wc w.heap.size (fun _=>True) aAv VQ)∧ah (Kd.V Kd.string 9 wc w.heap.size (fun k_=>some k_≠(aAv:Value).ownBlock∧some k_≠(AA:Value).ownBlock∧k_≠Hg∧k_≠Az) (.slice (some aAu) IB.length c20) IB)∧ah (Kd.R rP 69 wc w.heap.size (fun _=>True) AA Ae)∧ah (wc.heap[Hg]? =some (.cells #[.string KG, .string KH,(.slice none 0 0)] 61 (0,0)))∧ah (wc.heap[Az]? =some (.cells #[.string TU, .string TV,AA] 61 (0,0)))∧ah (Below w.heap.size w wc))
     case first=>
      have H:=auh.out;clear auh;replace H:=sb H;rcases H with⟨rfl,H⟩|⟨rfl,H⟩
      ·replace H:=sb H;rcases H with⟨rfl,H⟩|⟨rfl,H⟩
       ·have H':=ak H;clear H;obtain⟨amX,amY,aa7⟩:=aI afy.out;subst aa7;go_wp2;go_meet
        case rel=>exact⟨_,_,rs,H',⟨kl⟩,⟨ur afy.out⟩,⟨by(with_reducible repeat(first|apply Kd.KI|apply IC|apply JL));exact Na Af.out (fun _ hk=>⟨hk.2,⟨hk.1.1,⟨hk.1.2.1,hk.1.2.2⟩⟩⟩)⟩,⟨ur kZ.out⟩,⟨ub og.out⟩,⟨ub pK.out⟩,⟨bb⟩⟩
       ·have H':=ak H;clear H;go_wp2;go_meet
        case rel=>exact⟨_,_,rs,H',⟨kl⟩,⟨ur afy.out⟩,⟨by(with_reducible repeat(first|apply Kd.KI|apply IC|apply JL));exact Na Af.out (fun _ hk=>⟨hk.2,⟨hk.1.1,⟨hk.1.2.1,hk.1.2.2⟩⟩⟩)⟩,⟨ur kZ.out⟩,⟨ub og.out⟩,⟨ub pK.out⟩,⟨bb⟩⟩
      ·have H':=ak H;clear H;go_wp2;go_meet
       case rel=>exact⟨_,_,rs,H',⟨kl⟩,⟨ur afy.out⟩,⟨by(with_reducible repeat(first|apply Kd.KI|apply IC|apply JL));exact Na Af.out (fun _ hk=>⟨hk.2,⟨hk.1.1,⟨hk.1.2.1,hk.1.2.2⟩⟩⟩)⟩,⟨ur kZ.out⟩,⟨ub og.out⟩,⟨ub pK.out⟩,⟨bb⟩⟩
     case rest=>
      clear auh;try clear c1
      try clear c5
      try clear nO
      try clear QY
      try clear qj
      try clear uN
      try clear c20
      try clear q20
      try clear Dx
      try clear I5
      try clear EF
      try clear Uy
      try clear anj
      try clear ajR
      try clear anh
      try clear q20
      try clear ajS
      try clear ani
      obtain⟨kq,adi,rfl,HA,aAw,L9,Af,kZ,og,pK,HB⟩:=hcut
      cases kq with
      |zero=>exact zz HA.out
      |succ aHb=>
       obtain⟨H⟩:=HA;simp only[dh.j1]at H;replace H:=sb H;rcases H with⟨rfl,H⟩|⟨rfl,H⟩
       ·obtain⟨rfl,rfl,rfl,rfl⟩:=s4 H;have ayE:=D9.out;have ayF:=D_.out;have z33:=jY og.out;go_wp2;refine bodyPost_ret (gu rfl _ _ Hg 61 #[.string (⟨#[]⟩:ByteArray), .string (⟨#[]⟩:ByteArray), .slice none 0 0] (0,0) _ rfl bq underlying61 rfl (by kernel_rfl)) rfl ?_;exact⟨_,er,nx,bb⟩
       ·replace H:=bd H;obtain⟨aug,A34,H⟩:=H;replace H:=bd H;obtain⟨ag8,A35,H⟩:=H;replace H:=nn H;obtain⟨c36,H⟩:=H;have ajC:=decide_eq_true c36;have aAd:decide (0<VQ.length)=true:=decide_eq_true (by omega);clear c36;replace H:=nl H;obtain⟨aAx,H⟩:=H;obtain⟨aHc,aqo⟩:=nm (Ae++[(⟨ag8,iD ByteArray.empty VQ 0⟩:fD)]);rw[←aqo.out]at H;have H':=ak H;clear H;try go_wp2
        replace L9:=ak (uh L9.out);replace Af:=ak (JL Af.out);replace kZ:=ak (uh kZ.out);replace og:=ak (pG og.out);replace pK:=ak (pG pK.out);replace HB:=ak (jG HB.out);obtain⟨atc,amS,ac3⟩:=aI L9.out
        (first|subst ac3|(injection ac3 with Dy Lp Dz;have Lr:=Dy.symm;have Ls:=Dz.symm;clear Dy Lp Dz;subst Lr;subst Ls));have aui:0≤(0:Int):=(by omega)
        have auj:0<(VQ.length:Int):=of_decide_eq_true (by assumption);obtain⟨aqp,aHd,UA⟩:=bV (aj L9.out).2.2 0 aui auj;cases aHd;have aKU:(0<VQ.length)=True:=eq_true (by omega)
        (try rw[show((0:Int)).toNat=0 from rfl]at UA)
        (try rw[Addr.add_zero']at UA);replace aui:=eq_true aui;replace auj:=eq_true auj;refine MP (n:=13) (S:=fun w'=>w'.cell? ⟨Az,0,none⟩=some (.string TU)∧w'.cell? ⟨Az,1,none⟩=some (.string TV)∧w'.cell? ⟨Az,2,none⟩=some (AA)∧w'.cell? aqp=some (.string (iD ByteArray.empty VQ 0))) (ds:=[10,12]) #[false,false,false,false,false,false,false,false,false,false,false,false,false] (by kernel_rfl) rfl rfl ⟨(bf pK.out 0).trans rfl,(bf pK.out 1).trans rfl,(bf pK.out 2).trans rfl,UA⟩ (fun hHeld=>?_);refine D7 dh.ajQ dh.adh (fun Vw HW_=>?_)
        generalize wc.drew=w38 at L9 Af kZ og pK HB UA hHeld⊢
        refine pl 0 ?_;refine pl 2 ?_;refine pl 5 ?_;refine pl 6 ?_;refine tk 1 ?_;refine tk 7 ?_;refine o1 3 (fun K hK=>?_);refine G5 func92 (by kernel_rfl) rfl #[.string aAt, .string (⟨#[32]⟩:ByteArray)] (by rfl) rfl rfl ma ?_
        with_reducible refine(lM.calls A34.out).mono ?_
        rintro e w' ⟨rfl,⟨nd,rfl⟩⟩;refine⟨_,rfl,?_⟩;refine hK.out _ _ ⟨(bf pK.out 0).trans rfl,(bf pK.out 1).trans rfl,(bf pK.out 2).trans rfl,hHeld.2.2.2⟩ (fun hHeld=>?_);clear hK K;refine nrm ?_;refine o1 4 (fun K hK=>?_);refine G5 func93 (by kernel_rfl) rfl #[.string aug] (by rfl) rfl rfl ma ?_
        with_reducible refine(jS.calls A35.out).mono ?_
        rintro e w40 ⟨rfl,hb⟩;have auk:=(hb.cell (World.block_lt_of_cell? _ _ (hHeld.2.2.2))).trans (hHeld.2.2.2);refine⟨_,rfl,?_⟩;replace L9:=rb L9 hb;replace Af:=vb Af hb;replace kZ:=rb kZ hb;replace og:=kb og hb;replace pK:=kb pK hb;replace HB:=bz HB hb;try clear hb
        refine hK.out _ _ ⟨(bf pK.out 0).trans rfl,(bf pK.out 1).trans rfl,(bf pK.out 2).trans rfl,auk⟩ (fun hHeld=>?_);clear hK K;refine nrm ?_;refine pl 8 ?_;refine o1 9 (fun K hK=>?_);refine Q_ (w1:=?_) (v:=?_) (by rfl) rfl ?_ ?_
        rotate_left 2
        ·go_simp;constructor
         ·rfl
         ·rfl
        refine hK.out _ _ ⟨(bf (sO pK.out _) 0).trans rfl,(bf (sO pK.out _) 1).trans rfl,(bf (sO pK.out _) 2).trans rfl,(World.cell?_alloc_lt _ _ _ (World.block_lt_of_cell? _ _ (hHeld.2.2.2))).trans (hHeld.2.2.2)⟩ (fun hHeld=>?_);clear hK K;refine nrm ?_;refine Yq (i:=10) (N:=some 76) #[true,true,true,true,true,true,true,true,true,true,true,false,false] rfl rfl (MZ Vw.out (by kernel_rfl)) (by decide) (fun K hK=>?_);refine xU rP (w0:=w) w.heap.size (by rfl) (.tmp 67) (.tmp 75) 25 69 (.agg #[(.string ⟨#[]⟩),(.string ⟨#[]⟩)]) 32 rfl underlying25 CZ rfl (by decide) (by omega) AA Ae (⟨ag8,iD ByteArray.empty VQ 0⟩:fD) [.string ag8, .string (iD ByteArray.empty VQ 0)] (fun _=>True) (fun _=>False) rfl rfl ?aP (fun _ hk=>hk.elim) ?aF ?aO ?aB ?aS ?aL ?_
        (case aP=>exact wX _ _ _ (⟨ag8,iD ByteArray.empty VQ 0⟩:fD))
        (case aB=>exact bb)
        (case aF=>exact(fun _ _=>trivial))
        (case aO=>exact(ur kZ.out))
        (case aS=>exact(au bb))
        (case aL=>have:=aAx.out;omega);intro aQM w41 ho hb hg hat
        rw[←aqo.out]at ho;have Eo:=ak (xZ (ur L9.out) (pX (ur kZ.out)) (by decide) hg);have Ep:=ak (ajZ (ok:=(fun k_=>some k_≠(.slice (some aqp) VQ.length amS:Value).ownBlock∧k_≠Hg∧k_≠Az)) (by(with_reducible repeat(first|apply Kd.KI|apply IC|apply JL));exact Na Af.out (fun _ hk=>⟨⟨hk.1,⟨hk.2.2.1,hk.2.2.2⟩⟩,hk.2.1⟩)) hg hat);have G6:=ak (fB (g:=Hg) (o:= .cells #[.string KG, .string KH, .slice none 0 0] 61 (0,0)) (ub og.out) hg (vS kZ.out og.out (by decide)));have LU:=ak (fB (g:=Az) (o:= .cells #[.string TU, .string TV,AA] 61 (0,0)) (ub pK.out) hg (vS kZ.out pK.out (by decide)));have Vx:=ak (hb);have Ye:=ak (ho);clear L9 Af og pK HB kZ;have L9:=Eo;have Af:=Ep;have og:=G6;have pK:=LU;have HB:=Vx;have aAy:=Ye;clear Eo Ep G6 LU Vx Ye ho hb hg hat
        obtain⟨He,Fj,Zn⟩:=aI aAy.out
        (first|subst Zn|(injection Zn with Dy Lp Dz;have Lr:=Dy.symm;have Ls:=Dz.symm;clear Dy Lp Dz;subst Lr;subst Ls));refine hK.out _ _ ?_;clear hK K;refine OB (a':=?_) ?_ ?_
        rotate_left
        ·show Act.put _ (some 76) _=_
         simp only[Act.put,C_,Dc,l_c,gU,jP];rfl
        refine pl 11 ?_;refine Yq (i:=12) (N:=none) #[true,true,true,true,true,true,true,true,true,true,true,true,true] rfl rfl (MZ Vw.out (by kernel_rfl)) (by decide) (fun K hK=>?_);have aGK:w41.cell? ⟨Az,2,none⟩=some (AA):=(bf pK.out 2).trans rfl;have ay0:=gq pK.out 2;have am6:=D9.out;have am7:=D_.out;refine LV (w1:=?_) (by rfl) rfl ?_ ?_
        rotate_left
        ·go_simp;rfl
        refine hK.out _ _ ?_;clear hK K;refine Vy (KE Vw.out (by kernel_rfl)) ?_;try go_wp2
        go_roundg aHb
        case measure=>have:=yN.out;have:=aAw.out;omega
        case rel=>exact⟨_,_,_,_,_,rs,H',⟨by have:=yN.out;have:=aAw.out;omega⟩,⟨by(with_reducible repeat(first|apply Kd.KI|apply IC|apply JL));exact Na (aAz (p:=⟨Az,2,none⟩) (Na Af.out (fun k_ hk=>(⟨hk,hk.1.2.2⟩:_∧k_≠Az))) (fun _ hk=>hk.2) (.slice He aHc.length Fj)) (fun _ hk=>⟨hk.1.2,⟨hk.1.1.2.1,hk.1.1.2.2⟩⟩)⟩,⟨rr⟩,⟨bq⟩,⟨bq⟩,⟨bb⟩⟩
    ·replace H:=sb H;rcases H with⟨rfl,H⟩|⟨rfl,H⟩
     ·replace H:=bd H;obtain⟨aAm,A45,H⟩:=H;replace H:=sb H;rcases H with⟨rfl,H⟩|⟨rfl,H⟩
      ·obtain⟨rfl,rfl,rfl,rfl⟩:=s4 H;have apR:=D_.out;have apS:=D9.out;have z48:=jY pK.out;obtain⟨DV,DW,ac7⟩:=aI kZ.out;subst ac7;go_wp2_with (go_at_call 95;refine mB (dY.calls (cu ((aj kZ.out).2.2)) ((aj kZ.out).2.1) A45.out) ?_;intro w50 hb;replace Af:=vb Af hb;replace kZ:=rb kZ hb;replace og:=kb og hb;replace pK:=kb pK hb;replace HB:=bz HB hb;clear hb;have z51:=jY pK.out;have z52:=jY og.out)
       refine bodyPost_ret (gu rfl _ _ Hg 61 #[.string TU, .string TV, .slice DV Ae.length DW] (0,0) _ rfl bq underlying61 rfl (by kernel_rfl)) rfl ?_;exact⟨_,er,rr,bb⟩
      ·obtain⟨rfl,rfl,rfl,rfl⟩:=s4 H;have aAA:=D_.out;have aAB:=D9.out;have z54:=jY pK.out;obtain⟨aQN,aQO,aHe⟩:=aI kZ.out;subst aHe;go_wp2_with (go_at_call 95;refine mB (dY.calls (cu ((aj kZ.out).2.2)) ((aj kZ.out).2.1) A45.out) ?_;intro w56 hb;replace Af:=vb Af hb;replace kZ:=rb kZ hb;replace og:=kb og hb;replace pK:=kb pK hb;replace HB:=bz HB hb;clear hb;have z57:=jY og.out)
       refine bodyPost_ret (gu rfl _ _ Hg 61 #[.string (⟨#[]⟩:ByteArray), .string (⟨#[]⟩:ByteArray), .slice none 0 0] (0,0) _ rfl bq underlying61 rfl (by kernel_rfl)) rfl ?_;exact⟨_,er,nx,bb⟩
     ·obtain⟨rfl,rfl,rfl,rfl⟩:=s4 H;have aAC:=D9.out;have aAD:=D_.out;have z59:=jY og.out;go_wp2;refine bodyPost_ret (gu rfl _ _ Hg 61 #[.string (⟨#[]⟩:ByteArray), .string (⟨#[]⟩:ByteArray), .slice none 0 0] (0,0) _ rfl bq underlying61 rfl (by kernel_rfl)) rfl ?_;exact⟨_,er,nx,bb⟩
 ·obtain⟨rfl,rfl,rfl,rfl⟩:=s4 H;go_enter func48,ntmps48;go_wp2_with (first|(refine gG 2 ?_;refine bX HB 2 #[.string (⟨#[]⟩:ByteArray), .string (⟨#[]⟩:ByteArray), .slice none 0 0] 61 ?_;intro Hg w60 og aAq hb;replace HB:=bs HB hb;clear hb)|(refine gD func89 (bD.calls A2.out) ?_;intro w60 hb;replace og:=kb og hb;replace HB:=bz HB hb;clear hb;have aQP:=jY og.out))
  refine bodyPost_ret (gu rfl _ _ Hg 61 #[.string (⟨#[]⟩:ByteArray), .string (⟨#[]⟩:ByteArray), .slice none 0 0] (0,0) _ rfl bq underlying61 rfl (by kernel_rfl)) rfl ?_;exact⟨_,er,nx,bb⟩
def oV.f(a0:Int):Option (Bool):=(bJ.f a0).bind fun aAE=>(if aAE=true then(some true)else((dS.f a0).bind fun aAF=>(some aAF)))
theorem oV.calls{a0:Int}{r:Bool}{w:World}(h:oV.f a0=some r):
  Calls Tryz.prog 139 #[.int .u8 a0] w fun e w'=>e= .returned (.bool r)∧dR w w':=by
 unfold oV.f at h;have H:=h;clear h;replace H:=bd H;obtain⟨aAE,A2,H⟩:=H;replace H:=sb H;rcases H with⟨rfl,H⟩|⟨rfl,H⟩
 ·obtain rfl:=s1 H;go_enter func139,ntmps139;go_wp2_with (refine gA func140 (bJ.calls A2.out) ?_;intro nd)
  go_ret;exact⟨rs,dn⟩
 ·replace H:=bd H;obtain⟨aAF,A4,H⟩:=H;obtain rfl:=s1 H;go_enter func139,ntmps139;go_wp2_with (first|(refine gA func140 (bJ.calls A2.out) ?_;intro nd)|(go_at_call 141;refine mA (dS.calls A4.out) ?_;intro nd))
  go_ret;exact⟨rs,dn⟩
def dL.l0:Nat→ByteArray→Int→Int→Option (Bool)
 |0,_,_,_=>none
 |k+1,x0,x7,x8=>if x8<x7 then(if 0≤x8 then(if x8<(x0.size:Int)then((oV.f (bt x0 x8)).bind fun aAG=>(if aAG=true then(dL.l0 k x0 x7 (wrap64 (x8+1)))else(some false)))else(none))else(none))else(some true)
def dL.f(k:Nat)(a0:ByteArray):Option (Bool):=dL.l0 k a0 (a0.size:Int) 0
theorem dL.calls{k:Nat}{a0:ByteArray}{r:Bool}{w:World}(h:dL.f k a0=some r):
  Calls Tryz.prog 138 #[.string a0, .func (.func 139) #[] #[]] w fun e w'=>e= .returned (.bool r)∧dR w w':=by
 unfold dL.f at h;have H:=h;clear h;have H':=ak H;clear H;go_enter func138,ntmps138;go_wp2;go_loopg [8] k (fun kq v8 w'=>∃(mQ:Int),v8= .int .i64 mQ∧ah (dL.l0 kq a0 (a0.size:Int) mQ=some r)∧ah (kq≤k)∧dR w w')
 case atStart=>exact⟨_,rs,H',⟨Nat.le_refl _⟩,dn⟩
 case round=>
  clear H';obtain⟨mQ,rfl,HA,yN,⟨m1,rfl⟩⟩:=hrel
  cases gk with
  |zero=>exact zz HA.out
  |succ k1=>
   obtain⟨H⟩:=HA;simp only[dL.l0]at H;replace H:=sd H;rcases H with⟨jd,H⟩|⟨jd,H⟩
   ·replace H:=nY H;obtain⟨qB,H⟩:=H;replace H:=nY H;obtain⟨nO,H⟩:=H;replace H:=bd H;obtain⟨aAG,A7,H⟩:=H;replace H:=sb H;rcases H with⟨rfl,H⟩|⟨rfl,H⟩
    ·have H':=ak H;clear H;obtain⟨p6,q6,hx6⟩:=bx a0 mQ;go_wp2_with (go_at_call 139;refine mA (oV.calls A7.out) ?_;intro nd)
     go_roundg k1
     case measure=>exact kl
     case rel=>exact⟨_,rs,H',⟨kl⟩,dn⟩
    ·obtain rfl:=s1 H;obtain⟨p6,q6,hx6⟩:=bx a0 mQ;go_wp2_with (go_at_call 139;refine mA (oV.calls A7.out) ?_;intro nd)
     go_ret;exact⟨rs,dn⟩
   ·obtain rfl:=s1 H;go_wp2;go_ret;exact⟨rs,dn⟩
def kC.f(k:Nat)(a0:ByteArray):Option (Bool):=if(a0.size:Int)≥1 then(if(a0.size:Int)≤20 then((dL.f k a0).bind fun aAH=>(some aAH))else(some false))else(some false)
theorem kC.calls{k:Nat}{a0:ByteArray}{r:Bool}{w:World}(h:kC.f k a0=some r):
  Calls Tryz.prog 96 #[.string a0] w fun e w'=>e= .returned (.bool r)∧dR w w':=by
 unfold kC.f at h;have H:=h;clear h;replace H:=sp H;rcases H with⟨c2,H⟩|⟨c2,H⟩
 ·have rQ:decide (1≤(a0.size:Int))=true:=decide_eq_true c2;have y8:decide (1≤a0.size)=true:=decide_eq_true (by omega);clear c2;replace H:=sp H;rcases H with⟨c3,H⟩|⟨c3,H⟩
  ·have jd:=decide_eq_true c3;have yQ:decide (a0.size≤20)=true:=decide_eq_true (by omega);clear c3;replace H:=bd H;obtain⟨aAH,A4,H⟩:=H;obtain rfl:=s1 H;go_enter func96,ntmps96;go_wp2_with (go_at_call 138;refine mA (dL.calls A4.out) ?_;intro nd)
   go_ret;exact⟨rs,dn⟩
  ·have jd:=decide_eq_false c3;have yQ:decide (a0.size≤20)=false:=decide_eq_false (by omega);clear c3;obtain rfl:=s1 H;go_enter func96,ntmps96;go_wp2;go_ret;exact⟨rs,dn⟩
 ·have rQ:decide (1≤(a0.size:Int))=false:=decide_eq_false c2;have y8:decide (1≤a0.size)=false:=decide_eq_false (by omega);clear c2;obtain rfl:=s1 H;go_enter func96,ntmps96;go_wp2;go_ret;exact⟨rs,dn⟩
def iG.l0:Nat→ByteArray→List (List ByteArray)→List ByteArray→Int→Int→Option ((List (List ByteArray))×Bool)
 |0,_,_,_,_,_=>none
 |k+1,x1,x6,Fe,x14,x15=>if x15<x14 then(if 0≤x15 then(if x15<(Fe.length:Int)then(if 2+x1.size≤9223372036854775807 then(if(iD ByteArray.empty Fe x15).toList=((⟨#[45,45]⟩:ByteArray)++x1).toList then(if x6.length<5864062014805 then(iG.l0 k x1 (x6++[(([]:List ByteArray))]) Fe x14 (wrap64 (x15+1)))else(none))else(if(x6.length:Int)=0 then(iG.l0 k x1 x6 Fe x14 (wrap64 (x15+1)))else(if((⟨#[45,45]⟩:ByteArray)++x1).size+2≤9223372036854775807 then(if(iD ByteArray.empty Fe x15).toList=(((⟨#[45,45]⟩:ByteArray)++x1)++(⟨#[45,45]⟩:ByteArray)).toList then(some (x6,true))else(if 0≤(wrap64 ((x6.length:Int)-1))then(if(wrap64 ((x6.length:Int)-1))<(x6.length:Int)then(if(mJ x6 (wrap64 ((x6.length:Int)-1))).length<8796093022208 then(iG.l0 k x1 (x6.set ((wrap64 ((x6.length:Int)-1)):Int).toNat ((mJ x6 (wrap64 ((x6.length:Int)-1)))++[iD ByteArray.empty Fe x15])) Fe x14 (wrap64 (x15+1)))else(none))else(none))else(none)))else(none))))else(none))else(none))else(none))else(some (([]:List (List ByteArray)),false))
def iG.f(k:Nat)(l0:List ByteArray)(a1:ByteArray):Option ((List (List ByteArray))×Bool):=(kC.f k a1).bind fun aAI=>(if aAI=true then(iG.l0 k a1 (([]:List (List ByteArray))) l0 (l0.length:Int) 0)else(some (([]:List (List ByteArray)),false)))
theorem iG.calls{k c0:Nat}{A0:Option Addr}{l0:List ByteArray}{a1:ByteArray}{r1:List (List ByteArray)}{r2:Bool}{w:World}(hr0:Kd.C Kd.string w A0 l0.length l0)(hc0:l0.length≤c0)(h:iG.f k l0 a1=some (r1,r2)):
  Calls Tryz.prog 50 #[.slice A0 l0.length c0, .string a1] w fun e w'=>∃pW:Value,e= .returned (.tuple #[pW, .bool r2])∧Kd.S (Kd.slice 9 Kd.string) 23 w' w.heap.size (fun _=>True) pW r1∧Below w.heap.size w w':=by
 have HR0:=ak hr0;have vw:=ak hc0;clear hr0 hc0;have HB:=ak (Below.refl w.heap.size w);unfold iG.f at h;have H:=h;clear h;replace H:=bd H;obtain⟨aAI,A3,H⟩:=H;replace H:=sb H;rcases H with⟨rfl,H⟩|⟨rfl,H⟩
 ·obtain⟨aQQ,aj0⟩:=nm ([]:List (List ByteArray));rw[←aj0.out]at H;have H':=ak H;clear H;go_enter func50,ntmps50;go_wp2_with (first|(refine gA func96 (kC.calls A3.out) ?_;intro nd)|((with_reducible refine Hl (N:=12) rfl ?_);refine Yw (Kd.slice 9 Kd.string) _ 23 ?hg (N:=12) ?hd (xs:=([]:List (List ByteArray))) (inner:=[]) (ok:=fun _=>True) (yt:=fun _=>True) ?hr ?hp (fun _ hk=>hk) trivial (Below.refl _ _) (Nat.le_refl _) (by simp) ?_;(case hd=>rfl);(case hg=>rfl);(case hr=>first|(go_simp;done)|(go_simp;rfl));(case hp=>exact(dP.none _ _));intro aQR w5 Ur hb EG CO;clear EG CO;(first|rw[←aj0.out]at Ur|(simp only[Int.reduceToNat]at Ur;rw[←aj0.out]at Ur));have aAJ:=ak (AB Ur (au (ul HB.out)));replace HB:=bs HB hb;clear hb Ur))
  go_loopg [6,15] k (fun kq v6 v15 w'=>∃(gZ:List (List ByteArray)) (qL:Int),v15= .int .i64 qL∧ah (iG.l0 kq a1 gZ l0 (l0.length:Int) qL=some (r1,r2))∧ah (kq≤k)∧ah (Kd.S (Kd.slice 9 Kd.string) 23 w' w.heap.size (fun _=>True) v6 gZ)∧ah (Below w.heap.size w w'))
  case atStart=>exact⟨_,_,rs,H',⟨Nat.le_refl _⟩,⟨by(with_reducible repeat(first|apply Kd.eH|apply Kd.eP|apply Kd.iF));exact aAJ.out⟩,⟨ul HB.out⟩⟩
  case round=>
   clear H';obtain⟨gZ,qL,rfl,HA,yN,jZ,HB⟩:=hrel
   cases gk with
   |zero=>exact zz HA.out
   |succ k1=>
    obtain⟨H⟩:=HA;simp only[iG.l0]at H;replace H:=sd H;rcases H with⟨sK,H⟩|⟨sK,H⟩
    ·replace H:=nY H;obtain⟨ru,H⟩:=H;replace H:=nY H;obtain⟨xG,H⟩:=H;replace H:=nn H;obtain⟨c10,H⟩:=H;have qj:=eq_true c10;have uN:=decide_eq_true c10;try have aaU:(9223372036854775807<2+a1.size)=False:=eq_false (Nat.not_lt.2 c10)
     replace H:=sq H;rcases H with⟨uM,CB,H⟩|⟨c11,uM,CB,H⟩
     ·obtain⟨ank,aqr⟩:=nm ([]:List ByteArray);rw[←aqr.out]at H;replace H:=nl H;obtain⟨VB,H⟩:=H;obtain⟨aQS,aqs⟩:=nm (gZ++[ank]);rw[←aqs.out]at H;have H':=ak H;clear H;have Nb:=zi qL;have Nc:=zj qL l0.length;obtain⟨aj1,adk,AL⟩:=bV HR0.out qL Nb Nc;cases adk;replace AL:=cl HB.out AL;replace Nb:=eq_true Nb;replace Nc:=eq_true Nc;go_wp2_with (first|(refine DR 39 Kd.string 9 aqr ?_;intro aQT w13 TP hb;have afz:=ak (aC TP (au (ul HB.out)));replace jZ:=ak (tV (by(with_reducible repeat(first|apply Kd.eH|apply Kd.eP|apply Kd.iF));exact jZ.out) (bZ TP) hb);replace HB:=bs HB hb;clear hb TP;obtain⟨OD,MR,MS⟩:=aI afz.out;subst MS)|((with_reducible refine bP (b:= .append) (xs:=#[.tmp 38, .tmp 40]) rfl ?_);at_builtin;refine Ho (Kd.slice 9 Kd.string) (w0:=w) w.heap.size rfl (.tmp 38) (.tmp 40) 65 23 (.slice none 0 0) 24 rfl underlying65 info23 rfl (by decide) (by omega) u6 gZ ank [.slice OD ank.length MR] (fun _=>True) (fun k_=>some k_=(.slice OD ank.length MR:Value).ownBlock) rfl rfl ?aP (fun k_ hk_=>((ay (ok':=fun k_=>((fun _=>True)) k_∧some k_≠(u6:Value).ownBlock) (oq (afz.out) (yh jZ.out) (by decide)) (fun k_ hk=>⟨trivial,hk.2⟩))).1 k_ hk_.symm) ?aF ?aO ?aB ?aS ?aL ?_;(case aP=>exact VR (ay (KJ rfl (ay (ok':=fun k_=>((fun _=>True)) k_∧some k_≠(u6:Value).ownBlock) (oq (afz.out) (yh jZ.out) (by decide)) (fun k_ hk=>⟨trivial,hk.2⟩))) (fun _ h_=>h_)));(case aB=>exact(ul HB.out));(case aF=>exact(fun _ _=>trivial));(case aO=>exact(by(with_reducible repeat(first|apply Kd.eH|apply Kd.eP|apply Kd.iF));exact uj jZ.out (fun k_ hk=>⟨trivial,fun e_=>hk.2 e_⟩)));(case aS=>exact(au (ul HB.out)));(case aL=>have:=VB.out;omega);intro aQU w15 ho hb hg hat;rw[←aqs.out]at ho;have aAK:=ak (ho);replace HB:=ak (hb);clear ho hb hg hat jZ afz))
      go_roundg k1
      case measure=>exact kl
      case rel=>exact⟨_,_,rs,H',⟨kl⟩,⟨by(with_reducible repeat(first|apply Kd.eH|apply Kd.eP|apply Kd.iF));exact aAK.out⟩,⟨ul HB.out⟩⟩
     ·replace H:=sp H;rcases H with⟨c17,H⟩|⟨c17,H⟩
      ·have vY:=beq_iff_eq.mpr c17;have LW:=bne_eq_false_iff_eq.mpr c17;clear c17;have H':=ak H;clear H;have Nb:=zi qL;have Nc:=zj qL l0.length;obtain⟨aj1,adk,AL⟩:=bV HR0.out qL Nb Nc;cases adk;replace AL:=cl HB.out AL;replace Nb:=eq_true Nb;replace Nc:=eq_true Nc;obtain⟨acJ,acK,ah_⟩:=AO jZ.out;subst ah_;go_wp2;go_roundg k1
       case measure=>exact kl
       case rel=>exact⟨_,_,rs,H',⟨kl⟩,⟨by(with_reducible repeat(first|apply Kd.eH|apply Kd.eP|apply Kd.iF));exact jZ.out⟩,⟨ul HB.out⟩⟩
      ·have vY:=beq_eq_false_iff_ne.mpr c17;have LW:=bne_iff_ne.mpr c17;have ao6:¬(gZ=[]):=fun h_=>c17 (by rw[h_];rfl)
       replace H:=nn H;obtain⟨c19,H⟩:=H;have Du:=eq_true c19;have G8:=decide_eq_true c19;try have axw:(9223372036854775807<2+a1.size+2)=False:=by have h_:=(eq_false (Nat.not_lt.2 c19):(9223372036854775807<((⟨#[45,45]⟩:ByteArray)++a1).size+2)=False);simp only[ByteArray.size_append]at h_;exact h_
       try have aiM:(9223372036854775807<((⟨#[45,45]⟩:ByteArray)++a1).size+2)=False:=eq_false (Nat.not_lt.2 c19)
       replace H:=sq H;rcases H with⟨OA,Vs,H⟩|⟨c20,OA,Vs,H⟩
       ·obtain⟨rfl,rfl⟩:=s2 H;have Nb:=zi qL;have Nc:=zj qL l0.length;obtain⟨aj1,adk,AL⟩:=bV HR0.out qL Nb Nc;cases adk;replace AL:=cl HB.out AL;replace Nb:=eq_true Nb;replace Nc:=eq_true Nc;obtain⟨mg,kT,QS⟩:=AO jZ.out;subst QS;go_wp2;go_ret2;exact⟨_,er,by(with_reducible repeat(first|apply Kd.eH|apply Kd.eP|apply Kd.iF));exact jZ.out,ul HB.out⟩
       ·obtain⟨BN,aj2⟩:∃j_:Int,(wrap64 ((gZ.length:Int)-1))=j_:=⟨_,rfl⟩
        replace H:(if 0≤(BN)then(if(BN)<(gZ.length:Int)then(if(mJ gZ (BN)).length<8796093022208 then(iG.l0 k1 a1 (gZ.set ((BN):Int).toNat ((mJ gZ (BN))++[iD ByteArray.empty l0 qL])) l0 (l0.length:Int) (wrap64 (qL+1)))else(none))else(none))else(none))=some (r1,r2):=by first|(rw[aj2]at H;exact H)|(simp only[aj2]at H⊢;exact H)
        have aHf:(IntKind.i64.wrap ((gZ.length:Int)-1))=BN:=(gU _).trans aj2;replace H:=nY H;obtain⟨EF,H⟩:=H;replace H:=nY H;obtain⟨Ei,H⟩:=H;replace H:=nl H;obtain⟨abu,H⟩:=H;obtain⟨anl,aqt⟩:=nm ((mJ gZ (BN))++[iD ByteArray.empty l0 qL]);rw[←aqt.out]at H;obtain⟨aHg,aqu⟩:=nm (gZ.set ((BN):Int).toNat anl);rw[←aqu.out]at H;have H':=ak H;clear H;have Nb:=zi qL;have Nc:=zj qL l0.length;obtain⟨aj1,adk,AL⟩:=bV HR0.out qL Nb Nc;cases adk;replace AL:=cl HB.out AL;replace Nb:=eq_true Nb;replace Nc:=eq_true Nc;obtain⟨ai0,XG,agZ⟩:=AO jZ.out;subst agZ;have anm:=zi (BN);have ano:=zj (BN) gZ.length;obtain⟨aKV,aj3,aj6,aHh,Zw,afA,afB⟩:=Ec (rJ jZ.out).2.2 (BN) anm ano;cases aHh;obtain⟨aKW,aul,aum,aj7⟩:=abv jZ.out [] (BN) anm (by first|exact ano|exact of_decide_eq_true (by assumption)|(have e_:=(rJ jZ.out).1;omega));obtain⟨aEX,rfl,Zx⟩:=aum;have OW:=aj7 0 _ rfl;rw[Nat.add_zero,show((Kd.slice 9 Kd.string)).sz=1 from rfl,Nat.mul_one]at OW;replace OW:=Option.some.inj (OW.symm.trans Zw);rw[OW]at Zx;have anp:=ak (show Kd.R Kd.string 9 _ _ _ _ (mJ gZ (BN))from Zx);clear OW Zx;have anq:=ak Zw;clear aj7 aul;have aEY:=ak afB;have aEZ:=ak afA;clear afB afA;replace anm:=eq_true anm;replace ano:=eq_true ano;obtain⟨aun,auo,anr,aAL,aHi,aQV,aAM⟩:=aup jZ.out (by have h_:((BN):Int)<((gZ.length:Int):Int):=of_decide_eq_true (by assumption);have h2_:0≤((BN):Int):=(of_decide_eq_true (by assumption));omega)
        (first|cases anr|(injection anr with S9 en_ ec_;(first|subst S9|(injection S9 with S9;subst S9));subst ec_;clear en_));have aHj:=ak aAL;have aQW:=ak aAM;clear aAL aHi aAM
        (first|simp only[add_plain]at Zw|skip);obtain⟨aqv,aQX,aAN,aHk,aqw,_,_,aAO⟩:=auq jZ.out [] ((BN):Int) (of_decide_eq_true (by assumption)) (by have h_:((BN):Int)<((gZ.length:Int):Int):=of_decide_eq_true (by assumption);first|exact h_|(have e_:=(rJ jZ.out).1;omega)|simpa using h_);obtain⟨aHl,rfl,aj8⟩:=aHk;have hv28:=aqw 0 _ rfl;have aur:=anq.out
        (try simp only[add_plain]at aur)
        (try simp only[Nat.add_zero]at hv28)
        (try rw[show((Kd.slice 9 Kd.string)).sz=1 from rfl,Nat.mul_one]at hv28);replace hv28:=Option.some.inj (hv28.symm.trans aur);subst hv28;clear aur aqw aAN;have aus:=ak (show Kd.R Kd.string 9 _ w.heap.size aqv (.slice aj3 (mJ gZ (BN)).length aj6) (mJ gZ (BN))from aj8);have ag9:=ak aAO;have aut:=ak (rJ jZ.out).1;clear aAO aj8;go_wp2_with (first|((with_reducible refine bP (b:= .append) (xs:=#[.tmp 28, .tmp 30]) rfl ?_);at_builtin;refine oh Kd.string (w0:=w) w.heap.size rfl (.tmp 28) (.tmp 30) 23 9 (.string ⟨#[]⟩) 16 rfl underlying23 info9 rfl (by decide) (by omega) (.slice aj3 (mJ gZ (BN)).length aj6) (mJ gZ (BN)) (iD ByteArray.empty l0 qL) [.string (iD ByteArray.empty l0 qL)] (fun k_=>aqv k_∨((fun _=>True)) k_∧wr.heap.size≤k_) (fun _=>False) rfl rfl ?aP (fun _ hk=>hk.elim) ?aF ?aO ?aB ?aS ?aL ?_;(case aP=>exact rfl);(case aB=>exact(ul HB.out));(case aF=>exact(fun k_ hk=> .inr ⟨trivial,hk⟩));(case aO=>exact(ur (ay aus.out (fun _ hk=> .inl hk))));(case aS=>exact(au (ul HB.out)));(case aL=>have:=abu.out;omega);intro aQY w29 ho hb hg hat;rw[←aqt.out]at ho;have aj9:=ak (ho);replace HB:=ak (hb);replace ag9:=ak (ant (anu (by repeat(first|exact ag9.out|refine anv ?_ _|refine anw ?_ _|refine auu ?_))) hg (fun k_ e_=> .inl (aus.out.1 k_ e_)));clear ho hb hg hat jZ aus anp;have p26:0≤((BN):Int):=of_decide_eq_true (by assumption);have q26:((BN):Int)<((gZ.length:Int):Int):=of_decide_eq_true (by assumption);replace p26:=eq_true p26;replace q26:=eq_true q26;obtain⟨aAP,aAQ,aHm⟩:=aI aj9.out;subst aHm;obtain⟨_,_,auv,_,_,aqx,_⟩:=aj_ ag9.out (of_decide_eq_true (by assumption)) (by have h_:((BN):Int)<((gZ.length:Int):Int):=of_decide_eq_true (by assumption);first|exact h_|(have e_:=(aut.out);omega)|simpa using h_);obtain⟨_,aqy⟩:=aHn ag9.out (of_decide_eq_true (by assumption)) (by have h_:((BN):Int)<((gZ.length:Int):Int):=of_decide_eq_true (by assumption);first|exact h_|(have e_:=(aut.out);omega)|simpa using h_);have akb:=aqx 0 _ rfl;have akc:=aqy 0;(try simp only[Nat.add_zero]at akb akc);(try rw[show((Kd.slice 9 Kd.string)).sz=1 from rfl,Nat.mul_one]at akb);(try rw[show((Kd.slice 9 Kd.string)).sz=1 from rfl,Nat.mul_one]at akc);have anx:=auw ag9.out (of_decide_eq_true (by assumption)) (by have h_:((BN):Int)<((gZ.length:Int):Int):=of_decide_eq_true (by assumption);first|exact h_|(have e_:=(aut.out);omega)|simpa using h_) (seg:=[.slice aAP anl.length aAQ]) (j:=0) (show 1≤1 from by decide) (x':=anl) (VR aj9.out) (fun _ hk=>hk);(try simp only[show((Kd.slice 9 Kd.string)).sz=1 from rfl,Nat.mul_one,Nat.add_zero]at anx);clear aqx aqy)|((with_reducible refine BM (t:=23) (p:=32) rfl ?_);refine Ad (t:=23) (p:=32) (v:=?aHo) (w1:=(w29.setCell ⟨aun,((BN):Int).toNat,none⟩ (.slice aAP anl.length aAQ))) ?hg ?ho ?hn ?hr ?_;(case ho=>rfl);(case hg=>rfl);(case hn=>rfl);(case hr=>first|(go_simp;done)|(go_simp;rfl));intro w31 hw;have hg:w29.grownBy w31 (some aun):=(by rw[hw];exact anx.2);have hp_:Kd.S (Kd.slice 9 Kd.string) 23 w31 w.heap.size (fun _=>True) (.slice (some ⟨aun,0,none⟩) gZ.length XG) aHg:=(by rw[hw,aqu.out];exact anx.1);clear anx;have jZ:=ak (hp_);replace HB:=ak ((by rw[hw];exact yT HB.out aHj.out:Below w.heap.size w w31));clear hg hw hp_ auv aj9 ag9))
        go_roundg k1
        case measure=>exact kl
        case rel=>exact⟨_,_,rs,H',⟨kl⟩,⟨by(with_reducible repeat(first|apply Kd.eH|apply Kd.eP|apply Kd.iF));exact jZ.out⟩,⟨ul HB.out⟩⟩
    ·obtain⟨rfl,rfl⟩:=s2 H;go_wp2;go_ret2;exact⟨_,er,by first|exact akd _ _ _ _ _|exact ake _ _ _ _ _|exact akf _ _ _ _ _|exact akg _ _ _ _ _|exact Yx _ _ _ _ _,ul HB.out⟩
 ·obtain⟨rfl,rfl⟩:=s2 H;go_enter func50,ntmps50;go_wp2_with (refine gA func96 (kC.calls A3.out) ?_;intro nd)
  go_ret2;exact⟨_,er,by first|exact akd _ _ _ _ _|exact ake _ _ _ _ _|exact akf _ _ _ _ _|exact akg _ _ _ _ _|exact Yx _ _ _ _ _,ul HB.out⟩
def stringslite_HasPrefix.f(a0:ByteArray)(a1:ByteArray):Option (Bool):=if(a0.size:Int)≥(a1.size:Int)then(if 0≤(a1.size:Int)then(if(a1.size:Int)≤(a0.size:Int)then(some ((a0.extract 0 ((a1.size:Int):Int).toNat).toList==a1.toList))else(none))else(none))else(some false)
theorem stringslite_HasPrefix.calls{a0 a1:ByteArray}{r:Bool}{w:World}(h:stringslite_HasPrefix.f a0 a1=some r):
  Calls Tryz.prog 169 #[.string a0, .string a1] w fun e w'=>e= .returned (.bool r)∧dR w w':=by
 unfold stringslite_HasPrefix.f at h;have H:=h;clear h;replace H:=sp H;rcases H with⟨c3,H⟩|⟨c3,H⟩
 ·have jd:decide ((a1.size:Int)≤(a0.size:Int))=true:=decide_eq_true c3;have yQ:decide (a1.size≤a0.size)=true:=decide_eq_true (Int.ofNat_le.mp c3);clear c3;replace H:=zh H;obtain⟨qB,Vj,H⟩:=H;replace H:=zh H;obtain⟨nO,QY,H⟩:=H;obtain rfl:=s1 H;go_enter func169,ntmps169;go_wp2;go_ret;exact⟨rs,dn⟩
 ·have jd:decide ((a1.size:Int)≤(a0.size:Int))=false:=decide_eq_false c3;have yQ:decide (a1.size≤a0.size)=false:=decide_eq_false (fun h=>c3 (Int.ofNat_le.mpr h));clear c3;obtain rfl:=s1 H;go_enter func169,ntmps169;go_wp2;go_ret;exact⟨rs,dn⟩
def strings_HasPrefix.f(a0:ByteArray)(a1:ByteArray):Option (Bool):=(stringslite_HasPrefix.f a0 a1).bind fun aAR=>(some aAR)
theorem strings_HasPrefix.calls{a0 a1:ByteArray}{r:Bool}{w:World}(h:strings_HasPrefix.f a0 a1=some r):
  Calls Tryz.prog 145 #[.string a0, .string a1] w fun e w'=>e= .returned (.bool r)∧dR w w':=by
 unfold strings_HasPrefix.f at h;have H:=h;clear h;replace H:=bd H;obtain⟨aAR,A3,H⟩:=H;obtain rfl:=s1 H;go_enter func145,ntmps145;go_wp2_with (refine gA func169 (stringslite_HasPrefix.calls A3.out) ?_;intro nd)
 go_ret;exact⟨rs,dn⟩
mutual
def dG.l0:Nat→List ByteArray→List ByteArray→Int→Int→Option ((List (fD))×Bool)
 |0,_,_,_,_=>none
 |k+1,x4,x15,x16,x17=>if x17<x16 then(if 0≤x17 then(if x17<(x15.length:Int)then((strings_HasPrefix.f (iD ByteArray.empty x15 x17) (⟨#[32]⟩:ByteArray)).bind fun aAS=>(if aAS=true then(if(wrap64 ((x4.length:Int)-1))<0 then(some (([]:List (fD)),false))else(if 0≤(wrap64 ((x4.length:Int)-1))then(if(wrap64 ((x4.length:Int)-1))<(x4.length:Int)then(if(iD ByteArray.empty x4 (wrap64 ((x4.length:Int)-1))).size+(iD ByteArray.empty x15 x17).size≤9223372036854775807 then(dG.l0 k (x4.set ((wrap64 ((x4.length:Int)-1)):Int).toNat ((iD ByteArray.empty x4 (wrap64 ((x4.length:Int)-1)))++(iD ByteArray.empty x15 x17))) x15 x16 (wrap64 (x17+1)))else(none))else(none))else(none)))else(if x4.length<8796093022208 then(dG.l0 k (x4++[iD ByteArray.empty x15 x17]) x15 x16 (wrap64 (x17+1)))else(none))))else(none))else(none))else(dG.l1 k (([]:List (fD))) x4 (x4.length:Int) 0)
def dG.l1:Nat→List (fD)→List ByteArray→Int→Int→Option ((List (fD))×Bool)
 |0,_,_,_,_=>none
 |k+1,x8,x44,x45,x46=>if x46<x45 then(if 0≤x46 then(if x46<(x44.length:Int)then((strings_Cut.f (iD ByteArray.empty x44 x46) (⟨#[58]⟩:ByteArray)).bind fun akh=>(if akh.2.2=true then((lM.f akh.2.1 (⟨#[32]⟩:ByteArray)).bind fun ag_=>(if x8.length<4398046511104 then(dG.l1 k (x8++[(⟨akh.1,ag_⟩:fD)]) x44 x45 (wrap64 (x46+1)))else(none)))else(some (([]:List (fD)),false))))else(none))else(none))else((mV.f k x8).bind fun aAT=>(if aAT=true then(some (x8,true))else(some (([]:List (fD)),false))))
end
def dG.f(k:Nat)(l0:List ByteArray):Option ((List (fD))×Bool):=dG.l0 k (([]:List ByteArray)) l0 (l0.length:Int) 0
theorem dG.calls{k c0:Nat}{A0:Option Addr}{l0:List ByteArray}{r1:List (fD)}{r2:Bool}{w:World}(hr0:Kd.C Kd.string w A0 l0.length l0)(hc0:l0.length≤c0)(EG:MaxOk w)(h:dG.f k l0=some (r1,r2)):
  Calls Tryz.prog 100 #[.slice A0 l0.length c0] w fun e w'=>∃pW:Value,e= .returned (.tuple #[pW, .bool r2])∧Kd.R rP 69 w' w.heap.size (fun _=>True) pW r1∧Below w.heap.size w w':=by
 have Fg:=underlying69;have HR0:=ak hr0;have vw:=ak hc0;clear hr0 hc0;have HG:=ak EG;clear EG;have HB:=ak (Below.refl w.heap.size w);unfold dG.f at h;have H:=h;clear h;obtain⟨aQZ,aqz⟩:=nm ([]:List ByteArray);rw[←aqz.out]at H;have H':=ak H;clear H;go_enter func100,ntmps100;go_wp2_with (refine DR 14 Kd.string 9 aqz ?_;intro aQ0 w2 ho3 hb;have aAU:=ak (aC ho3 (au (ul HB.out)));replace HB:=bs HB hb;clear hb ho3)
 go_loopg [4,17] k (fun kq v4 v17 w'=>∃(dI:List ByteArray) (gX:Int),v17= .int .i64 gX∧ah (dG.l0 kq dI l0 (l0.length:Int) gX=some (r1,r2))∧ah (kq≤k)∧ah (Kd.R Kd.string 9 w' w.heap.size (fun _=>True) v4 dI)∧ah (Below w.heap.size w w'))
 case atStart=>exact⟨_,_,rs,H',⟨Nat.le_refl _⟩,⟨ur aAU.out⟩,⟨ul HB.out⟩⟩
 case round=>
  clear H';obtain⟨dI,gX,rfl,HA,yN,bT,HB⟩:=hrel
  cases gk with
  |zero=>exact zz HA.out
  |succ k1=>
   obtain⟨H⟩:=HA;simp only[dG.l0]at H;replace H:=sd H;rcases H with⟨qB,H⟩|⟨qB,H⟩
   ·replace H:=nY H;obtain⟨nO,H⟩:=H;replace H:=nY H;obtain⟨nP,H⟩:=H;replace H:=bd H;obtain⟨aAS,A7,H⟩:=H;replace H:=sb H;rcases H with⟨rfl,H⟩|⟨rfl,H⟩
    ·replace H:=sp H;rcases H with⟨c9,H⟩|⟨c9,H⟩
     ·have xG:=decide_eq_true c9
      (try(have CG:decide (((dI.length:Int)-1)<0)=true:=decide_eq_true (by have h_:=c9;unfold wrap64 at h_;omega)));clear c9;obtain⟨rfl,rfl⟩:=s2 H;have VT:=zi gX;have VU:=zj gX l0.length;obtain⟨aqA,aki,FU⟩:=bV HR0.out gX VT VU;cases aki;replace FU:=cl HB.out FU;replace VT:=eq_true VT;replace VU:=eq_true VU;obtain⟨Zo,XL,ajt⟩:=aI bT.out;subst ajt;go_wp2_with (refine gA func145 (strings_HasPrefix.calls A7.out) ?_;intro nd)
      go_ret2;exact⟨_,er,nx,ul HB.out⟩
     ·have xG:=decide_eq_false c9
      (try(have CG:decide (((dI.length:Int)-1)<0)=false:=decide_eq_false (by have h_:=c9;unfold wrap64 at h_;omega)));clear c9;obtain⟨Hq,abw⟩:∃j_:Int,(wrap64 ((dI.length:Int)-1))=j_:=⟨_,rfl⟩
      replace H:(if 0≤(Hq)then(if(Hq)<(dI.length:Int)then(if(iD ByteArray.empty dI (Hq)).size+(iD ByteArray.empty l0 gX).size≤9223372036854775807 then(dG.l0 k1 (dI.set ((Hq):Int).toNat ((iD ByteArray.empty dI (Hq))++(iD ByteArray.empty l0 gX))) l0 (l0.length:Int) (wrap64 (gX+1)))else(none))else(none))else(none))=some (r1,r2):=by first|(rw[abw]at H;exact H)|(simp only[abw]at H⊢;exact H)
      (try rw[abw]at xG)
      (try rw[abw]at A7);have aHp:(IntKind.i64.wrap ((dI.length:Int)-1))=Hq:=(gU _).trans abw;replace H:=nY H;obtain⟨vH,H⟩:=H;replace H:=nY H;obtain⟨xE,H⟩:=H;replace H:=nn H;obtain⟨c14,H⟩:=H;have uy:=eq_true c14;have xH:=decide_eq_true c14;try have aoI:(9223372036854775807<(iD ByteArray.empty dI (Hq)).size+(iD ByteArray.empty l0 gX).size)=False:=eq_false (Nat.not_lt.2 c14)
      obtain⟨aHq,aqB⟩:=nm (dI.set ((Hq):Int).toNat ((iD ByteArray.empty dI (Hq))++(iD ByteArray.empty l0 gX)));rw[←aqB.out]at H;have H':=ak H;clear H;have VT:=zi gX;have VU:=zj gX l0.length;obtain⟨aqA,aki,FU⟩:=bV HR0.out gX VT VU;cases aki;replace FU:=cl HB.out FU;replace VT:=eq_true VT;replace VU:=eq_true VU;obtain⟨OD,MR,MS⟩:=aI bT.out;subst MS;go_wp2_with (first|(refine gA func145 (strings_HasPrefix.calls A7.out) ?_;intro nd;(try(rw[MW wr];generalize hq_:World.drewN wr _=wr;have Eo:ah (Kd.R Kd.string 9 wr w.heap.size (fun _=>True) (.slice OD dI.length MR) dI):=⟨by rw[←hq_];exact(ur bT.out)⟩;have Ep:ah (Below w.heap.size w wr):=⟨by rw[←hq_];exact(ul HB.out)⟩;clear bT HB hq_;have bT:=Eo;have HB:=Ep;clear Eo Ep));have auy:0≤((Hq):Int):=of_decide_eq_true (by assumption);have auz:(Hq)<(dI.length:Int):=of_decide_eq_true (by assumption);obtain⟨aKX,aHr,anz⟩:=bV (aj bT.out).2.2 (Hq) auy auz;cases aHr;replace auy:=eq_true auy;replace auz:=eq_true auz;have p15:0≤((Hq):Int):=of_decide_eq_true (by assumption);have q15:((Hq):Int)<((dI.length:Int):Int):=of_decide_eq_true (by assumption);obtain⟨auA,acL,XA,aAV,aHs,aQ1,aAW⟩:=ada bT.out (by omega);(first|cases XA|(injection XA with S9 en_ ec_;(first|subst S9|(injection S9 with S9;subst S9));subst ec_;clear en_));have aHt:=ak aAV;have aQ2:=ak aAW;clear aAV aHs aAW;(first|simp only[add_plain]at anz|skip);obtain⟨aHu,aHv⟩:=Uu (⟨#[]⟩:ByteArray) bT.out ((Hq):Int) p15 q15;replace p15:=eq_true p15;replace q15:=eq_true q15;obtain⟨aKY,aKZ⟩:=Uu (⟨#[]⟩:ByteArray) bT.out ((Hq):Int) (of_decide_eq_true (by assumption)) (of_decide_eq_true (by assumption));have auB:=ajw bT.out ((Hq):Int) ((iD ByteArray.empty dI (Hq))++(iD ByteArray.empty l0 gX)))|((with_reducible refine BM (t:=9) (p:=30) rfl ?_);refine Ad (t:=9) (p:=30) (v:=?aHw) (w1:=(wr.setCell ⟨auA,((Hq):Int).toNat,none⟩ (.string ((iD ByteArray.empty dI (Hq))++(iD ByteArray.empty l0 gX))))) ?hg ?ho ?hn ?hr ?_;(case ho=>rfl);(case hg=>rfl);(case hn=>rfl);(case hr=>first|(go_simp;done)|(go_simp;rfl));intro w18 hw;have hg:wr.grownBy w18 (some auA):=(by rw[hw];exact auB.2);have hp_:Kd.R Kd.string 9 w18 w.heap.size (fun _=>True) (.slice (some ⟨auA,0,none⟩) dI.length MR) aHq:=(by rw[hw,aqB.out];exact auB.1);clear auB;replace bT:=ak (hp_);replace HB:=ak ((by rw[hw];exact yT (HB.out) aHt.out:Below w.heap.size w w18));clear hg hw hp_))
      go_roundg k1
      case measure=>exact kl
      case rel=>exact⟨_,_,rs,H',⟨kl⟩,⟨ur bT.out⟩,⟨ul HB.out⟩⟩
    ·replace H:=nl H;obtain⟨aaO,H⟩:=H;obtain⟨aQ3,aqC⟩:=nm (dI++[iD ByteArray.empty l0 gX]);rw[←aqC.out]at H;have H':=ak H;clear H;have VT:=zi gX;have VU:=zj gX l0.length;obtain⟨aqA,aki,FU⟩:=bV HR0.out gX VT VU;cases aki;replace FU:=cl HB.out FU;replace VT:=eq_true VT;replace VU:=eq_true VU;obtain⟨jh,iK,JE⟩:=aI bT.out;subst JE;go_wp2_with (first|(refine gA func145 (strings_HasPrefix.calls A7.out) ?_;intro nd)|(at_builtin;refine aP 35 37 Kd.string 23 9 (.string ⟨#[]⟩) 16 underlying23 info9 HB (ur bT.out) aqC (by have:=aaO.out;omega) ?_;intro aQ4 w21 ho hb hg hat;have aAX:=ak (ho);replace HB:=ak (hb);clear ho hb hg hat bT))
     go_roundg k1
     case measure=>exact kl
     case rel=>exact⟨_,_,rs,H',⟨kl⟩,⟨ur aAX.out⟩,⟨ul HB.out⟩⟩
   ·obtain⟨aQ5,aqD⟩:=nm ([]:List (fD));rw[←aqD.out]at H;have H':=ak H;clear H;go_wp2_with (refine DR 43 rP 69 aqD ?_;intro aQ6 w22 aji hb;have aAY:=ak (aC aji (au (ul HB.out)));replace bT:=rb bT hb;replace HB:=bs HB hb;clear hb aji;obtain⟨EJ,Di,ac9⟩:=aI bT.out;subst ac9)
    go_loopg [8,46] k1 (fun kq v8 v46 w'=>∃(akj:List (fD)) (OX:Int),v46= .int .i64 OX∧ah (dG.l1 kq akj dI (dI.length:Int) OX=some (r1,r2))∧ah (kq≤k1)∧ah (Kd.R rP 69 w' w.heap.size (fun _=>True) v8 akj)∧ah (Kd.R Kd.string 9 w' w.heap.size (fun _=>True) (.slice EJ dI.length Di) dI)∧ah (Below w.heap.size w w'))
    case atStart=>exact⟨_,_,rs,H',⟨Nat.le_refl _⟩,⟨ur aAY.out⟩,⟨ur bT.out⟩,⟨ul HB.out⟩⟩
    case round=>
     clear H';try clear qB
     obtain⟨akj,OX,rfl,HA,HK2,Gt,OY,HB⟩:=hrel
     cases gk with
     |zero=>exact zz HA.out
     |succ k2=>
      obtain⟨H⟩:=HA;simp only[dG.l1]at H;replace H:=sd H;rcases H with⟨Ej,H⟩|⟨Ej,H⟩
      ·replace H:=nY H;obtain⟨OC,H⟩:=H;replace H:=nY H;obtain⟨I7,H⟩:=H;replace H:=bd H;obtain⟨⟨anA,aQ7,aQ8⟩,A28,H⟩:=H
       (try dsimp only at H);replace H:=sb H;rcases H with⟨rfl,H⟩|⟨rfl,H⟩
       ·replace H:=bd H;obtain⟨ag_,A30,H⟩:=H;replace H:=nl H;obtain⟨abh,H⟩:=H;obtain⟨aQ9,aqE⟩:=nm (akj++[(⟨anA,ag_⟩:fD)]);rw[←aqE.out]at H;have H':=ak H;clear H;have adl:=zi OX;have adn:=zj OX dI.length;obtain⟨aAZ,auC,anB⟩:=bV (aj OY.out).2.2 OX adl adn;cases auC;replace adl:=eq_true adl;replace adn:=eq_true adn;go_wp2_with (first|(refine gA func91 (strings_Cut.calls ?dN A28.out) ?_;(case dN=>first|exact HG.out|exact MaxOk.below HG.out (ul HB.out)|(repeat(first|exact HG.out|apply MaxOk.drewN|apply MaxOk.drew)));intro nd)|(refine gA func92 (lM.calls A30.out) ?_;intro nd)|((with_reducible refine bP (b:= .append) (xs:=#[.tmp 58, .tmp 63]) rfl ?_);at_builtin;refine oh rP (w0:=w) w.heap.size rfl (.tmp 58) (.tmp 63) 25 69 (.agg #[(.string ⟨#[]⟩),(.string ⟨#[]⟩)]) 32 rfl underlying25 CZ rfl (by decide) (by omega) u8 akj (⟨anA,ag_⟩:fD) [.string anA, .string ag_] (fun _=>True) (fun _=>False) rfl rfl ?aP (fun _ hk=>hk.elim) ?aF ?aO ?aB ?aS ?aL ?_;(case aP=>exact wX _ _ _ (⟨anA,ag_⟩:fD));(case aB=>exact(ul HB.out));(case aF=>exact(fun _ _=>trivial));(case aO=>exact(ur Gt.out));(case aS=>exact(au (ul HB.out)));(case aL=>have:=abh.out;omega);intro aQ_ w32 ho hb hg hat;rw[←aqE.out]at ho;have aA0:=ak (ho);replace OY:=ak (xZ (ur OY.out) (pX (ur Gt.out)) (by decide) hg);replace HB:=ak (hb);clear ho hb hg hat Gt))
        go_roundg k2
        case measure=>exact kl
        case rel=>exact⟨_,_,rs,H',⟨kl⟩,⟨ur aA0.out⟩,⟨ur OY.out⟩,⟨ul HB.out⟩⟩
       ·obtain⟨rfl,rfl⟩:=s2 H;have adl:=zi OX;have adn:=zj OX dI.length;obtain⟨aAZ,auC,anB⟩:=bV (aj OY.out).2.2 OX adl adn;cases auC;replace adl:=eq_true adl;replace adn:=eq_true adn;go_wp2_with (refine gA func91 (strings_Cut.calls ?dN A28.out) ?_;(case dN=>first|exact HG.out|exact MaxOk.below HG.out (ul HB.out)|(repeat(first|exact HG.out|apply MaxOk.drewN|apply MaxOk.drew)));intro nd)
        go_ret2;exact⟨_,er,nx,ul HB.out⟩
      ·replace H:=bd H;obtain⟨aAT,A33,H⟩:=H;replace H:=sb H;rcases H with⟨rfl,H⟩|⟨rfl,H⟩
       ·obtain⟨rfl,rfl⟩:=s2 H;obtain⟨aRa,aRb,aHx⟩:=aI Gt.out;subst aHx;go_wp2_with (refine gB func82 (mV.calls (cu ((aj Gt.out).2.2)) ((aj Gt.out).2.1) A33.out) ?_;intro w36 hb;replace Gt:=rb Gt hb;replace OY:=rb OY hb;replace HB:=bs HB hb;clear hb)
        go_ret2;exact⟨_,er,ur Gt.out,ul HB.out⟩
       ·obtain⟨rfl,rfl⟩:=s2 H;obtain⟨akk,akl,abx⟩:=aI Gt.out;subst abx;go_wp2_with (refine gB func82 (mV.calls (cu ((aj Gt.out).2.2)) ((aj Gt.out).2.1) A33.out) ?_;intro w38 hb;replace Gt:=rb Gt hb;replace OY:=rb OY hb;replace HB:=bs HB hb;clear hb)
        go_ret2;exact⟨_,er,nx,ul HB.out⟩
def kV.f(l0:List ByteArray):Option (List ByteArray):=if l0.length<8796093022208 then some l0 else none
theorem kV.calls{A0:Option Addr}{c0:Nat}{l0 r:List ByteArray}{w:World}(hr0:Kd.C Kd.string w A0 l0.length l0)(hc0:l0.length≤c0)(h:kV.f l0=some r):
  Calls Tryz.prog 102 #[.slice A0 l0.length c0] w fun e w'=>∃pW:Value,e= .returned (pW)∧Kd.R Kd.string 9 w' w.heap.size (fun _=>True) pW r∧Below w.heap.size w w':=by
 unfold kV.f at h;split at h
 ·rename_i hlen
  cases h;have q_:∀(w:World) (a:Option Addr) (n c n' c':Nat),(binOp .eql 23 (.slice a n c) (.slice none n' c')).run Tryz.prog w= .ok (.bool a.isNone) w:=fun w a n c n' c'=>Lib.run_eql_slice_nil w _ _ a n c n' c' underlying23
  cases A0 with
  |none=>
   obtain rfl:l0=[]:=by
    cases l0 with
    |nil=>rfl
    |cons x l=>
     obtain⟨_,_,hC⟩:=hr0;obtain⟨ad,h,_⟩:=hC (by simp);cases h
   go_enter func102,ntmps102;go_wp2;go_ret;exact⟨_,rfl,nx,Below.refl _ _⟩
  |some ad=>
   have HR0:=ak hr0;have vw:=ak hc0;have LM:=ak hlen;clear hr0 hc0 hlen;have HB:=ak (Below.refl w.heap.size w);obtain⟨y1,Ny1⟩:=nm ([]:List ByteArray);obtain⟨y2,Ny2⟩:=nm (y1++l0);have hy:y2=l0:=by rw[Ny2.out,Ny1.out,List.nil_append]
   have hn:y1.length=0:=by rw[Ny1.out];rfl
   go_enter func102,ntmps102;go_wp2_with (first|(refine DR 5 Kd.string 9 Ny1 ?_;intro v3 w7 ho8 hb;have HO1:=ak (aC ho8 (au bb));replace HB:=bz HB hb;clear hb ho8)|((with_reducible refine bP (b:= .append) (xs:=#[.tmp 5, .tmp 6]) rfl ?_);at_builtin;refine pz Kd.string (w0:=w) w.heap.size rfl (.tmp 5) (.tmp 6) 23 9 (.string ⟨#[]⟩) 16 rfl underlying23 info9 rfl (by decide) (by omega) v3 y1 l0 _ _ _ (fun _=>True) (fun _=>False) rfl rfl ?hO ?hR (fun _ _ h=>h) (fun _ h=>h.elim) ?hF ?hB ?hS ?hL ?_;(case hR=>repeat(first|exact(aK HR0.out HB.out)|(with_reducible refine Kd.nR ?_ _)|(with_reducible refine Kd.nS ?_ _)|(with_reducible refine Kd.qJ ?_)));(case hB=>exact bb);(case hF=>exact(fun _ _=>trivial));(case hO=>exact(ur HO1.out));(case hS=>exact(au bb));(case hL=>have:=LM.out;omega);intro v6 w12 ho hb hg hat;rw[←Ny2.out,hy]at ho;have HO2:=ak (ho);replace HB:=ak (hb);clear ho hb hg hat HO1))
   go_ret;exact⟨_,rfl,HO2.out,bb⟩
 ·cases h
end Go.Proofs.YtncdadcmghglkaaGreatDoor.PFnParseBody
