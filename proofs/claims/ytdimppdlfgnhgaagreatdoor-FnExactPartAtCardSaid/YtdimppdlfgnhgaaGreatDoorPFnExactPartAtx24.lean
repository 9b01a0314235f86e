/- Printed walks; conditions: those in each statement. -/
import Derived.Test.YtdimppdlfgnhgaaGreatDoorVFnExactPartAtQt
import Derived.Test.YtdimppdlfgnhgaaGreatDoorVFnExactPartAtYt
import Derived.Test.YtdimppdlfgnhgaaGreatDoorPFnExactPartAtx0
import Derived.Test.YtdimppdlfgnhgaaGreatDoorPFnExactPartAtx1
namespace Go.Proofs.YtdimppdlfgnhgaaGreatDoor.PFnExactPartAt
open Go.Proofs.YtdimppdlfgnhgaaGreatDoorW.fD.Kd Go.Proofs.YtdimppdlfgnhgaaGreatDoorW.qy.Kd Go.Proofs.Tryz Go.RowKit Go.Proofs.YtdimppdlfgnhgaaGreatDoor.X Go.Proofs.YtdimppdlfgnhgaaGreatDoorW.fD Go.Proofs.YtdimppdlfgnhgaaGreatDoorW.mZ Go.Proofs.YtdimppdlfgnhgaaGreatDoorW.qy
attribute [local go_sem] BD BF F7 F8 yI yJ BG BH   -- for this text's walks alone
set_option linter.unusedVariables false
set_option linter.unusedSimpArgs false
set_option maxHeartbeats 8000000
set_option maxRecDepth 100000
def lI.l0:Nat→List Int→List Int→Int→Option (Bool)
 |0,_,_,_=>none
 |k+1,x0,x1,x5=>if x5<(x0.length:Int)then(if 0≤x5 then(if x5<(x1.length:Int)then(if(rd x0 x5)=(rd x1 x5)then(lI.l0 k x0 x1 (wrap64 (x5+1)))else(some false))else(none))else(none))else(some true)
def lI.f(k:Nat)(l0:List Int)(l1:List Int):Option (Bool):=if(l0.length:Int)=(l1.length:Int)then(lI.l0 k l0 l1 0)else(some false)
set_option maxHeartbeats 8000000 in
set_option maxRecDepth 100000 in
theorem lI.calls(k:Nat)(A0:Option Addr)(c0:Nat)(l0:List Int)(A1:Option Addr)(c1:Nat)(l1:List Int)(r:Bool)(w:World)(hr0:Kd.C (Kd.int .i64) w A0 l0.length l0)(hc0:l0.length≤c0)(hr1:Kd.C (Kd.int .i64) w A1 l1.length l1)(hc1:l1.length≤c1)(h:lI.f k l0 l1=some r):
  Calls Tryz.prog 11 #[.slice A0 l0.length c0, .slice A1 l1.length c1] w fun e w'=>e= .returned (.bool r)∧fK w w':=by
 have HR0:=ak hr0;have yx:=ak hc0;clear hr0 hc0;have HR1:=ak hr1;have HC1:=ak hc1;clear hr1 hc1;have H:(if(l0.length:Int)=(l1.length:Int)then(lI.l0 k l0 l1 0)else(some false))=some r:=h;clear h;replace H:=sp H;rcases H with⟨c3,H⟩|⟨c3,H⟩
 ·have gQ:=beq_iff_eq.mpr c3;have rC:=bne_eq_false_iff_eq.mpr c3;have N8:(l0.length==l1.length)=true:=by first|simpa using c3|(simp at c3⊢;omega)
  clear c3;have H':=ak H;clear H;go_enter func11,ntmps11;go_wp2;repeat(go_quiet (fail);try go_wp2)
  go_loopg [5] k (fun kq v5 w'=>∃(aJ:Int),v5= .int .i64 aJ∧ah (lI.l0 kq l0 l1 aJ=some r)∧ah (kq≤k)∧fK w w')
  case atStart=>exact⟨(0),rs,H',⟨Nat.le_refl _⟩,dn⟩
  case round=>
   clear H';try clear c1
   try clear p2
   try clear c3
   try clear gQ
   try clear rC
   try clear N8
   obtain⟨aJ,rfl,HA,jv,⟨m1,rfl⟩⟩:=hrel
   cases gk with
   |zero=>exact absurd HA.out (by simp[lI.l0])
   |succ k1=>
    have H:=HA.out;clear HA;simp only[lI.l0]at H;replace H:=sd H;rcases H with⟨oM,H⟩|⟨oM,H⟩
    ·replace H:=oW H;obtain⟨sH,H⟩:=H;replace H:=oW H;obtain⟨oC,H⟩:=H;replace H:=sq H;rcases H with⟨rU,NZ,H⟩|⟨c7,rU,NZ,H⟩
     ·have H':=ak H;clear H;have aeZ:=zi aJ;have ae0:=zj aJ l0.length;obtain⟨aAP,avY,apS⟩:=y7 HR0.out aJ aeZ ae0;cases avY;replace aeZ:=eq_true aeZ;replace ae0:=eq_true ae0;have ae1:=zi aJ;have ae2:=zj aJ l1.length;obtain⟨aAQ,avZ,apT⟩:=y7 HR1.out aJ ae1 ae2;cases avZ;replace ae1:=eq_true ae1;replace ae2:=eq_true ae2;go_wp2;repeat(go_quiet (fail);try go_wp2)
      go_roundg k1
      case measure=>have:=jv.out;omega
      case rel=>exact⟨(wrap64 (aJ+1)),rs,H',⟨by have:=jv.out;omega⟩,dn⟩
     ·obtain rfl:=Option.some.inj H;have aeZ:=zi aJ;have ae0:=zj aJ l0.length;obtain⟨aAP,avY,apS⟩:=y7 HR0.out aJ aeZ ae0;cases avY;replace aeZ:=eq_true aeZ;replace ae0:=eq_true ae0;have ae1:=zi aJ;have ae2:=zj aJ l1.length;obtain⟨aAQ,avZ,apT⟩:=y7 HR1.out aJ ae1 ae2;cases avZ;replace ae1:=eq_true ae1;replace ae2:=eq_true ae2;go_wp2;repeat(go_quiet (fail);try go_wp2)
      go_ret;exact⟨rs,dn⟩
    ·obtain rfl:=Option.some.inj H;go_wp2;repeat(go_quiet (fail);try go_wp2)
     go_ret;exact⟨rs,dn⟩
 ·have gQ:=beq_eq_false_iff_ne.mpr c3;have rC:=bne_iff_ne.mpr c3;have N8:(l0.length==l1.length)=false:=by first|simpa using c3|(simp at c3⊢;omega)
  obtain rfl:=Option.some.inj H;go_enter func11,ntmps11;go_wp2;repeat(go_quiet (fail);try go_wp2)
  go_ret;exact⟨rs,dn⟩
def dV.l0:Nat→Int→ByteArray→Option (ByteArray)
 |0,_,_=>none
 |k+1,x0,x3=>if x0>0 then((some (([(wrap64 (48+(Int.tmod x0 10)))%256]:List Int):List Int)).bind fun amE=>(if(strOfNums amE).size+x3.size≤9223372036854775807 then(dV.l0 k (wrap64 (Int.tdiv x0 10)) ((strOfNums amE)++x3))else(none)))else(if 1+x3.size≤9223372036854775807 then(some ((⟨#[109]⟩:ByteArray)++x3))else(none))
def dV.f(k:Nat)(a0:Int):Option (ByteArray):=if a0≤0 then(some (⟨#[109,48]⟩:ByteArray))else(dV.l0 k a0 (⟨#[]⟩:ByteArray))
set_option maxHeartbeats 8000000 in
set_option maxRecDepth 100000 in
theorem dV.calls(k:Nat)(a0:Int)(r:ByteArray)(w:World)(h:dV.f k a0=some r):
  Calls Tryz.prog 38 #[.int .i64 a0] w fun e w'=>e= .returned (.string r)∧Below w.heap.size w w':=by
 have HB:=ak (Below.refl w.heap.size w);have H:(if a0≤0 then(some (⟨#[109,48]⟩:ByteArray))else(dV.l0 k a0 (⟨#[]⟩:ByteArray)))=some r:=h;clear h;replace H:=sd H;rcases H with⟨vw,H⟩|⟨vw,H⟩
 ·obtain rfl:=Option.some.inj H;go_enter func38,ntmps38;go_wp2;go_ret;exact⟨er,ul HB.out⟩
 ·have H':=ak H;clear H;go_enter func38,ntmps38;go_wp2;go_loopg [0,3] k (fun kq v0 v3 w'=>∃(jE:Int) (dD:ByteArray),v0= .int .i64 jE∧v3= .string dD∧ah (dV.l0 kq jE dD=some r)∧ah (kq≤k)∧ah (Below w.heap.size w w'))
  case atStart=>exact⟨(a0),((⟨#[]⟩:ByteArray)),rs,rs,H',⟨Nat.le_refl _⟩,⟨ul HB.out⟩⟩
  case round=>
   clear H';try clear c2
   try clear vw
   try clear p2
   obtain⟨jE,dD,rfl,rfl,HA,jv,HB⟩:=hrel
   cases gk with
   |zero=>exact absurd HA.out (by simp[dV.l0])
   |succ k1=>
    have H:=HA.out;clear HA;simp only[dV.l0]at H;replace H:=sp H;rcases H with⟨c3,H⟩|⟨c3,H⟩
    ·have gQ:decide (0<jE)=true:=decide_eq_true c3;clear c3;obtain⟨amE,amF⟩:=nm ([(wrap64 (48+(Int.tmod jE 10)))%256]:List Int);rw[←amF.out]at H
     (try rw[Option.bind_some]at H);replace H:=nn H;obtain⟨c4,H⟩:=H;have oM:=eq_true c4;have WV:=decide_eq_true c4;try have avK:(9223372036854775807<(strOfNums amE).size+dD.size)=False:=eq_false (Nat.not_lt.2 c4)
     have H':=ak H;clear H;go_wp2_with (first|((with_reducible refine fZ (N:=12) rfl ?_);refine Es (Kd.int .u8) _ 5 ?hg (N:=12) ?hd (xs:=([(wrap64 (48+(Int.tmod jE 10)))%256]:List Int)) (inner:=[.int .u8 ((wrap64 (48+(Int.tmod jE 10)))%256)]) (ok:=fun _=>True) (rE:=fun _=>True) ?hr ?hp (fun _ hk=>hk) trivial (Below.refl _ _) (Nat.le_refl _) (by simp) ?_;(case hd=>rfl);(case hg=>rfl);(case hr=>first|(go_simp;done)|(go_simp;rfl));(case hp=>exact(jJ.one (show Kd.M (Kd.int .u8) _ _ _ ((wrap64 (48+(Int.tmod jE 10)))%256) [.int .u8 ((wrap64 (48+(Int.tmod jE 10)))%256)]from rfl) (jJ.none _ _)));intro aLZ w5 ho6 hb wI lD;clear wI lD;(first|rw[←amF.out]at ho6|(simp only[Int.reduceToNat]at ho6;rw[←amF.out]at ho6));have aAR:=ak (bP ho6 (aj (ul HB.out)));replace HB:=bs HB hb;clear hb ho6;have aL0:=EG (P:=Tryz.prog) underlying77 underlying5 underlying9 (EH aAR.out)))
     go_roundg k1
     case measure=>have:=jv.out;omega
     case rel=>exact⟨(wrap64 (Int.tdiv jE 10)),((strOfNums amE)++dD),rs,rs,H',⟨by have:=jv.out;omega⟩,⟨ul HB.out⟩⟩
    ·have gQ:decide (0<jE)=false:=decide_eq_false c3;clear c3;replace H:=nn H;obtain⟨c8,H⟩:=H;have yY:=eq_true c8;have U8:=decide_eq_true c8;try have aF5:(9223372036854775807<1+dD.size)=False:=eq_false (Nat.not_lt.2 c8)
     obtain rfl:=Option.some.inj H;go_wp2;go_ret;exact⟨er,ul HB.out⟩
def fU.l0:Nat→List ByteArray→Int→Int→Option (Int×List ByteArray)
 |0,_,_,_=>none
 |k+1,x0,x1,x5=>if x5<(x0.length:Int)then((dV.f k x1).bind fun ajr=>(if 0≤x5 then(fU.l0 k (x0.set (x5:Int).toNat ajr) (wrap64 (x1+1)) (wrap64 (x5+1)))else(none)))else(some (x1,x0))
def fU.f(k:Nat)(l0:List ByteArray)(a1:Int):Option (Int×List ByteArray):=fU.l0 k l0 a1 0
set_option maxHeartbeats 8000000 in
set_option maxRecDepth 100000 in
theorem fU.calls(k:Nat)(EX:Nat→Prop)(wY:Value)(l0:List ByteArray)(a1:Int)(r1:Int)(r2:List ByteArray)(w0 w:World)(hB:Below w0.heap.size w0 w)(ho0:Kd.R Kd.string 9 w w0.heap.size EX wY l0)(h:fU.f k l0 a1=some (r1,r2)):
  Calls Tryz.prog 20 #[wY, .int .i64 a1] w fun e w'=>e= .returned (.int .i64 r1)∧Kd.R Kd.string 9 w' w0.heap.size (fun k_=>(EX k_∨w.heap.size≤k_)) wY r2∧Below w0.heap.size w0 w'∧Kept w w' (fun k_=>EX k_):=by
 have HO0:=ak (show Kd.R Kd.string 9 w w0.heap.size (fun k_=>(EX k_∨w.heap.size≤k_)) wY l0 from aY ho0 (fun k_ hk=>(.inl hk)));have HK:=ak (Kept.refl w (fun k_=>EX k_));have HW0:=ak hB.size;have HB:=ak hB;clear hB;have H:(fU.l0 k l0 a1 0)=some (r1,r2):=h;clear h;have H':=ak H;clear H;go_enter func20,ntmps20;go_wp2;go_loopg [1,5] k (fun kq v1 v5 w'=>∃(jE:List ByteArray) (kU:Int) (aJ:Int),v1= .int .i64 kU∧v5= .int .i64 aJ∧ah (fU.l0 kq jE kU aJ=some (r1,r2))∧ah (kq≤k)∧ah (Kd.R Kd.string 9 w' w0.heap.size (fun k_=>(EX k_∨w.heap.size≤k_)) wY jE)∧ah (Kept w w' (fun k_=>EX k_))∧ah (Below w0.heap.size w0 w'))
 case atStart=>exact⟨(l0),(a1),(0),rs,rs,H',⟨Nat.le_refl _⟩,⟨ur HO0.out⟩,⟨by repeat(first|(with_reducible first|exact HK.out|apply Kept.alloc|apply Kept.drewN|apply Kept.drew)|exact HK.out)⟩,⟨ul HB.out⟩⟩
 case round=>
  clear H';try clear c2
  try clear p2
  obtain⟨jE,kU,aJ,rfl,rfl,HA,jv,rQ,HK,HB⟩:=hrel
  cases gk with
  |zero=>exact absurd HA.out (by simp[fU.l0])
  |succ k1=>
   have H:=HA.out;clear HA;simp only[fU.l0]at H;replace H:=sd H;rcases H with⟨gQ,H⟩|⟨gQ,H⟩
   ·replace H:=bd H;obtain⟨ajr,A4,H⟩:=H;replace H:=oW H;obtain⟨sH,H⟩:=H;obtain⟨aAS,ath⟩:=nm (jE.set (aJ:Int).toNat ajr);rw[←ath.out]at H
    (try rw[Option.bind_some]at H);have H':=ak H;clear H;obtain⟨Ao7,co7,eo7⟩:=bG rQ.out;subst eo7;go_wp2_with (first|(refine gL 38 15 func38 #[.int .i64 kU] ?_;(with_reducible refine(dV.calls k1 kU ajr _ A4.out).mono ?_);rintro e w8 ⟨rfl,hb⟩;refine⟨_,rfl,?_⟩;replace rQ:=rb rQ hb;replace HK:=ak (Kept.below (S:=(fun k_=>EX k_)) (by repeat(first|(with_reducible first|exact HK.out|apply Kept.alloc|apply Kept.drewN|apply Kept.drew)|exact HK.out)) hb);replace HB:=bs HB hb;(try clear hb);have p6:0≤(aJ:Int):=of_decide_eq_true (by assumption);have q6:(aJ:Int)<((jE.length:Int):Int):=of_decide_eq_true (by assumption);obtain⟨V8,co6,eo6,gb6,gl6,cl6,HG6⟩:=ED rQ.out (by omega);(first|cases eo6|(injection eo6 with FV en_ ec_;(first|subst FV|(injection FV with FV;subst FV));subst ec_;clear en_));have GB6:=ak gb6;have GG6:=ak HG6;clear gb6 gl6 HG6;have aAT:=ak (show(EX V8∨w.heap.size≤V8)from(rQ.out.1 _ rfl));obtain⟨aAU,aAV⟩:=L_ (⟨#[]⟩:ByteArray) rQ.out (aJ:Int) p6 q6;replace p6:=eq_true p6;replace q6:=eq_true q6;obtain⟨aL1,aL2⟩:=L_ (⟨#[]⟩:ByteArray) rQ.out (aJ:Int) (of_decide_eq_true (by assumption)) (of_decide_eq_true (by assumption));have HP9:=aaD rQ.out (aJ:Int) ajr)|((with_reducible refine uP (t:=9) (p:=16) rfl ?_);refine sJ (t:=9) (p:=16) (v:=?aGp) (w1:=(w8.setCell ⟨V8,(aJ:Int).toNat,none⟩ (.string ajr))) ?hg ?ho ?hn ?hr ?_;(case ho=>rfl);(case hg=>rfl);(case hn=>rfl);(case hr=>first|(go_simp;done)|(go_simp;rfl));intro w10 hw;have hg:w8.grownBy w10 (some V8):=(by rw[hw];exact HP9.2);have WM:Kd.R Kd.string 9 w10 w0.heap.size (fun k_=>(EX k_∨w.heap.size≤k_)) (.slice (some ⟨V8,0,none⟩) jE.length co7) aAS:=(by rw[hw,ath.out];exact HP9.1);clear HP9;replace HB:=ak ((by rw[hw];exact nT (HB.out) GB6.out:Below w0.heap.size w0 w10));replace HK:=ak (Kept.Ik (S:=(fun k_=>EX k_)) hg (by repeat(first|(with_reducible first|exact HK.out|apply Kept.alloc|apply Kept.drewN|apply Kept.drew)|exact HK.out)) (fun k_ e_=>(rQ.out.1 k_ e_)));replace rQ:=ak (WM);clear hg hw WM))
    go_roundg k1
    case measure=>have:=jv.out;omega
    case rel=>exact⟨(aAS),(wrap64 (kU+1)),(wrap64 (aJ+1)),rs,rs,H',⟨by have:=jv.out;omega⟩,⟨ur rQ.out⟩,⟨by repeat(first|(with_reducible first|exact HK.out|apply Kept.alloc|apply Kept.drewN|apply Kept.drew)|exact HK.out)⟩,⟨ul HB.out⟩⟩
   ·simp only[Option.some.injEq,Prod.mk.injEq]at H;obtain⟨rfl,rfl⟩:=H;obtain⟨zB,yC,W9⟩:=bG rQ.out;subst W9;go_wp2;go_ret;exact⟨er,ur rQ.out,by repeat(first|(with_reducible first|exact HB.out|apply qg|apply qh|apply fO)|exact HB.out),by repeat(first|(with_reducible first|exact HK.out|apply Kept.alloc|apply Kept.drewN|apply Kept.drew)|exact HK.out)⟩
def g_.l0:Nat→List (iq)→Int→Int→Option (Int×(List (iq)))
 |0,_,_,_=>none
 |k+1,x0,x1,x5=>if x5<(x0.length:Int)then((dV.f k x1).bind fun adh=>(if 0≤x5 then((some (x0.set (x5:Int).toNat (⟨adh,(aT x0 x5).f1⟩:iq):List (iq))).bind fun XA=>((dV.f k (wrap64 (x1+1))).bind fun adi=>(g_.l0 k (XA.set (x5:Int).toNat (⟨(aT XA x5).f0,adi⟩:iq)) (wrap64 ((wrap64 (x1+1))+1)) (wrap64 (x5+1)))))else(none)))else(some (x1,x0))
def g_.f(k:Nat)(l0:List (iq))(a1:Int):Option (Int×(List (iq))):=g_.l0 k l0 a1 0
set_option maxHeartbeats 8000000 in
set_option maxRecDepth 100000 in
theorem g_.calls(k:Nat)(EX:Nat→Prop)(wY:Value)(l0:List (iq))(a1:Int)(r1:Int)(r2:List (iq))(w0 w:World)(hB:Below w0.heap.size w0 w)(ho0:Kd.R lg 63 w w0.heap.size EX wY l0)(h:g_.f k l0 a1=some (r1,r2)):
  Calls Tryz.prog 31 #[wY, .int .i64 a1] w fun e w'=>e= .returned (.int .i64 r1)∧Kd.R lg 63 w' w0.heap.size (fun k_=>(EX k_∨w.heap.size≤k_)) wY r2∧Below w0.heap.size w0 w'∧Kept w w' (fun k_=>EX k_):=by
 have HO0:=ak (show Kd.R lg 63 w w0.heap.size (fun k_=>(EX k_∨w.heap.size≤k_)) wY l0 from aY ho0 (fun k_ hk=>(.inl hk)));have HK:=ak (Kept.refl w (fun k_=>EX k_));have HW0:=ak hB.size;have HB:=ak hB;clear hB;have H:(g_.l0 k l0 a1 0)=some (r1,r2):=h;clear h;have H':=ak H;clear H;go_enter func31,ntmps31;go_wp2;go_loopg [1,5] k (fun kq v1 v5 w'=>∃(jE:List (iq)) (kU:Int) (aJ:Int),v1= .int .i64 kU∧v5= .int .i64 aJ∧ah (g_.l0 kq jE kU aJ=some (r1,r2))∧ah (kq≤k)∧ah (Kd.R lg 63 w' w0.heap.size (fun k_=>(EX k_∨w.heap.size≤k_)) wY jE)∧ah (Kept w w' (fun k_=>EX k_))∧ah (Below w0.heap.size w0 w'))
 case atStart=>exact⟨(l0),(a1),(0),rs,rs,H',⟨Nat.le_refl _⟩,⟨ur HO0.out⟩,⟨by repeat(first|(with_reducible first|exact HK.out|apply Kept.alloc|apply Kept.drewN|apply Kept.drew)|exact HK.out)⟩,⟨ul HB.out⟩⟩
 case round=>
  clear H';try clear p2
  obtain⟨jE,kU,aJ,rfl,rfl,HA,jv,rQ,HK,HB⟩:=hrel
  cases gk with
  |zero=>exact absurd HA.out (by simp[g_.l0])
  |succ k1=>
   have H:=HA.out;clear HA;simp only[g_.l0]at H;replace H:=sd H;rcases H with⟨gQ,H⟩|⟨gQ,H⟩
   ·replace H:=bd H;obtain⟨adh,A4,H⟩:=H;replace H:=oW H;obtain⟨sH,H⟩:=H;obtain⟨XA,ati⟩:=nm (jE.set (aJ:Int).toNat (⟨adh,(aT jE aJ).f1⟩:iq));rw[←ati.out]at H
    (try rw[Option.bind_some]at H);replace H:=bd H;obtain⟨adi,A7,H⟩:=H;obtain⟨aAW,atj⟩:=nm (XA.set (aJ:Int).toNat (⟨(aT XA aJ).f0,adi⟩:iq));rw[←atj.out]at H
    (try rw[Option.bind_some]at H);have H':=ak H;clear H;obtain⟨Ao9,co9,eo9⟩:=bG rQ.out;subst eo9;go_wp2_with (first|(refine gL 38 15 func38 #[.int .i64 kU] ?_;(with_reducible refine(dV.calls k1 kU adh _ A4.out).mono ?_);rintro e w10 ⟨rfl,hb⟩;refine⟨_,rfl,?_⟩;replace rQ:=rb rQ hb;replace HK:=ak (Kept.below (S:=(fun k_=>EX k_)) (by repeat(first|(with_reducible first|exact HK.out|apply Kept.alloc|apply Kept.drewN|apply Kept.drew)|exact HK.out)) hb);replace HB:=bs HB hb;(try clear hb);have p6:0≤(aJ:Int):=of_decide_eq_true (by assumption);have q6:(aJ:Int)<((jE.length:Int):Int):=of_decide_eq_true (by assumption);obtain⟨V8,co6,eo6,gb6,gl6,cl6,HG6⟩:=ED rQ.out (by omega);(first|cases eo6|(injection eo6 with FV en_ ec_;(first|subst FV|(injection FV with FV;subst FV));subst ec_;clear en_));have GB6:=ak gb6;have GG6:=ak HG6;clear gb6 gl6 HG6;have aAT:=ak (show(EX V8∨w.heap.size≤V8)from(rQ.out.1 _ rfl));obtain⟨ce6,aGq,hM6,av1,av2⟩:=Ja rQ.out z63 (aJ:Int) p6 q6;obtain rfl:=Au hM6;have aAU:w10.cell? ⟨V8,(aJ:Int).toNat*2,none⟩=some (.string ((aT jE aJ).f0)):=av1 0 _ rfl;have aJp:w10.cell? ⟨V8,(aJ:Int).toNat*2+1,none⟩=some (.string ((aT jE aJ).f1)):=av1 1 _ rfl;have aAV:w10.frozen? ⟨V8,(aJ:Int).toNat*2,none⟩=false:=av2 0;have aJq:w10.frozen? ⟨V8,(aJ:Int).toNat*2+1,none⟩=false:=av2 1;(clear aGq av1 av2;(try clear hM6));replace p6:=eq_true p6;replace q6:=eq_true q6;have aAX:=ak (show Kd.R lg 63 w10 w0.heap.size (fun k_=>(EX k_∨w.heap.size≤k_)) (.slice (some ⟨V8,0,none⟩) jE.length co9) jE from(ur rQ.out));obtain⟨aL3,atl,aAY,amG,atm⟩:=Ja aAX.out z63 (aJ:Int) (of_decide_eq_true (by assumption)) (by have h_:(aJ:Int)<((jE.length:Int):Int):=of_decide_eq_true (by assumption);first|exact h_|(have e_:=(dB rQ.out).1;omega)|simpa using h_);obtain rfl:=Au aAY;have av3:=agm aAX.out (aJ:Int) (of_decide_eq_true (by assumption)) (by have h_:(aJ:Int)<((jE.length:Int):Int):=of_decide_eq_true (by assumption);first|exact h_|(have e_:=(dB rQ.out).1;omega)|simpa using h_) (seg:=[.string adh]) (j:=0) atl amG (show 1≤2 from by decide) (x':=(⟨adh,(aT jE aJ).f1⟩:iq)) (LV _ _ _ (⟨adh,(aT jE aJ).f1⟩:iq)) (fun _ hk=>hk);have av4:=amG 0 _ rfl;(try simp only[show(lg).sz=2 from rfl,Nat.mul_one,Nat.add_zero]at av4);have av5:=atm 0;(try simp only[show(lg).sz=2 from rfl,Nat.mul_one,Nat.add_zero]at av5);(clear atl amG atm;(try clear aAY)))|((with_reducible refine uP (t:=9) (p:=17) rfl ?_);refine sJ (t:=9) (p:=17) (v:=?aGr) (w1:=(w10.setCell ⟨V8,(aJ:Int).toNat*2,none⟩ (.string adh))) ?hg ?ho ?hn ?hr ?_;(case ho=>rfl);(case hg=>rfl);(case hn=>rfl);(case hr=>first|(go_simp;done)|(go_simp;rfl));intro w12 hw;have hg:w10.grownBy w12 (some V8):=(by rw[hw];exact av3.2);have WM:Kd.R lg 63 w12 w0.heap.size (fun k_=>(EX k_∨w.heap.size≤k_)) (.slice (some ⟨V8,0,none⟩) jE.length co9) XA:=(by rw[hw,ati.out];exact av3.1);clear av3;replace HB:=ak ((by rw[hw];exact nT (HB.out) GB6.out:Below w0.heap.size w0 w12));replace HK:=ak (Kept.Ik (S:=(fun k_=>EX k_)) hg (by repeat(first|(with_reducible first|exact HK.out|apply Kept.alloc|apply Kept.drewN|apply Kept.drew)|exact HK.out)) (fun k_ e_=>(rQ.out.1 k_ e_)));replace rQ:=ak (WM);clear hg hw WM)|(refine gL 38 23 func38 #[.int .i64 (wrap64 (kU+1))] ?_;(with_reducible refine(dV.calls k1 (wrap64 (kU+1)) adi _ A7.out).mono ?_);rintro e NC ⟨rfl,hb⟩;refine⟨_,rfl,?_⟩;replace rQ:=rb rQ hb;replace HK:=ak (Kept.below (S:=(fun k_=>EX k_)) (by repeat(first|(with_reducible first|exact HK.out|apply Kept.alloc|apply Kept.drewN|apply Kept.drew)|exact HK.out)) hb);replace HB:=bs HB hb;(try clear hb);have p8:0≤(aJ:Int):=of_decide_eq_true (by assumption);have q8:(aJ:Int)<((jE.length:Int):Int):=of_decide_eq_true (by assumption);obtain⟨ce8,aGs,hM8,av6,av7⟩:=Ja rQ.out z63 (aJ:Int) p8 q8;obtain rfl:=Au hM8;have aJr:NC.cell? ⟨V8,(aJ:Int).toNat*2,none⟩=some (.string ((aT XA aJ).f0)):=av6 0 _ rfl;have aJs:NC.cell? ⟨V8,(aJ:Int).toNat*2+1,none⟩=some (.string ((aT XA aJ).f1)):=av6 1 _ rfl;have aJt:NC.frozen? ⟨V8,(aJ:Int).toNat*2,none⟩=false:=av7 0;have aJu:NC.frozen? ⟨V8,(aJ:Int).toNat*2+1,none⟩=false:=av7 1;(clear aGs av6 av7;(try clear hM8));replace p8:=eq_true p8;replace q8:=eq_true q8;have aAZ:=ak (show Kd.R lg 63 NC w0.heap.size (fun k_=>(EX k_∨w.heap.size≤k_)) (.slice (some ⟨V8,0,none⟩) jE.length co9) XA from(ur rQ.out));obtain⟨aL4,atn,aA0,amH,ato⟩:=Ja aAZ.out z63 (aJ:Int) (of_decide_eq_true (by assumption)) (by have h_:(aJ:Int)<((jE.length:Int):Int):=of_decide_eq_true (by assumption);first|exact h_|(have e_:=(dB rQ.out).1;omega)|simpa using h_);obtain rfl:=Au aA0;have av8:=agm aAZ.out (aJ:Int) (of_decide_eq_true (by assumption)) (by have h_:(aJ:Int)<((jE.length:Int):Int):=of_decide_eq_true (by assumption);first|exact h_|(have e_:=(dB rQ.out).1;omega)|simpa using h_) (seg:=[.string adi]) (j:=1) atn amH (show 2≤2 from by decide) (x':=(⟨(aT XA aJ).f0,adi⟩:iq)) (LV _ _ _ (⟨(aT XA aJ).f0,adi⟩:iq)) (fun _ hk=>hk);have av9:=amH 1 _ rfl;(try simp only[show(lg).sz=2 from rfl,Nat.mul_one,Nat.add_zero]at av9);have av_:=ato 1;(try simp only[show(lg).sz=2 from rfl,Nat.mul_one,Nat.add_zero]at av_);(clear atn amH ato;(try clear aA0)))|((with_reducible refine uP (t:=9) (p:=25) rfl ?_);refine sJ (t:=9) (p:=25) (v:=?aGt) (w1:=(NC.setCell ⟨V8,(aJ:Int).toNat*2+1,none⟩ (.string adi))) ?hg ?ho ?hn ?hr ?_;(case ho=>rfl);(case hg=>rfl);(case hn=>rfl);(case hr=>first|(go_simp;done)|(go_simp;rfl));intro YU hw;have hg:NC.grownBy YU (some V8):=(by rw[hw];exact av8.2);have WM:Kd.R lg 63 YU w0.heap.size (fun k_=>(EX k_∨w.heap.size≤k_)) (.slice (some ⟨V8,0,none⟩) jE.length co9) aAW:=(by rw[hw,atj.out];exact av8.1);clear av8;replace HB:=ak ((by rw[hw];exact nT (HB.out) GB6.out:Below w0.heap.size w0 YU));replace HK:=ak (Kept.Ik (S:=(fun k_=>EX k_)) hg (by repeat(first|(with_reducible first|exact HK.out|apply Kept.alloc|apply Kept.drewN|apply Kept.drew)|exact HK.out)) (fun k_ e_=>(rQ.out.1 k_ e_)));replace rQ:=ak (WM);clear hg hw WM))
    go_roundg k1
    case measure=>have:=jv.out;omega
    case rel=>exact⟨(aAW),(wrap64 ((wrap64 (kU+1))+1)),(wrap64 (aJ+1)),rs,rs,H',⟨by have:=jv.out;omega⟩,⟨ur rQ.out⟩,⟨by repeat(first|(with_reducible first|exact HK.out|apply Kept.alloc|apply Kept.drewN|apply Kept.drew)|exact HK.out)⟩,⟨ul HB.out⟩⟩
   ·simp only[Option.some.injEq,Prod.mk.injEq]at H;obtain⟨rfl,rfl⟩:=H;obtain⟨Hf,FZ,Xl⟩:=bG rQ.out;subst Xl;go_wp2;go_ret;exact⟨er,ur rQ.out,by repeat(first|(with_reducible first|exact HB.out|apply qg|apply qh|apply fO)|exact HB.out),by repeat(first|(with_reducible first|exact HK.out|apply Kept.alloc|apply Kept.drewN|apply Kept.drew)|exact HK.out)⟩
def jU.l0:Nat→List Int→Int→Int→Option (Int×List Int)
 |0,_,_,_=>none
 |k+1,x0,x1,x5=>if x5<(x0.length:Int)then(if 0≤x5 then(jU.l0 k (x0.set (x5:Int).toNat x1) (wrap64 (x1+1)) (wrap64 (x5+1)))else(none))else(some (x1,x0))
def jU.f(k:Nat)(l0:List Int)(a1:Int):Option (Int×List Int):=jU.l0 k l0 a1 0
set_option maxHeartbeats 8000000 in
set_option maxRecDepth 100000 in
theorem jU.calls(k:Nat)(EX:Nat→Prop)(wY:Value)(l0:List Int)(a1:Int)(r1:Int)(r2:List Int)(w0 w:World)(hB:Below w0.heap.size w0 w)(ho0:Kd.R (Kd.int .i64) 3 w w0.heap.size EX wY l0)(h:jU.f k l0 a1=some (r1,r2)):
  Calls Tryz.prog 13 #[wY, .int .i64 a1] w fun e w'=>e= .returned (.int .i64 r1)∧Kd.R (Kd.int .i64) 3 w' w0.heap.size (fun k_=>(EX k_∨w.heap.size≤k_)) wY r2∧Below w0.heap.size w0 w'∧Kept w w' (fun k_=>EX k_):=by
 have HO0:=ak (show Kd.R (Kd.int .i64) 3 w w0.heap.size (fun k_=>(EX k_∨w.heap.size≤k_)) wY l0 from aY ho0 (fun k_ hk=>(.inl hk)));have HK:=ak (Kept.refl w (fun k_=>EX k_));have HW0:=ak hB.size;have HB:=ak hB;clear hB;have H:(jU.l0 k l0 a1 0)=some (r1,r2):=h;clear h;have H':=ak H;clear H;go_enter func13,ntmps13;go_wp2;go_loopg [1,5] k (fun kq v1 v5 w'=>∃(jE:List Int) (kU:Int) (aJ:Int),v1= .int .i64 kU∧v5= .int .i64 aJ∧ah (jU.l0 kq jE kU aJ=some (r1,r2))∧ah (kq≤k)∧ah (Kd.R (Kd.int .i64) 3 w' w0.heap.size (fun k_=>(EX k_∨w.heap.size≤k_)) wY jE)∧ah (Kept w w' (fun k_=>EX k_))∧ah (Below w0.heap.size w0 w'))
 case atStart=>exact⟨(l0),(a1),(0),rs,rs,H',⟨Nat.le_refl _⟩,⟨ur HO0.out⟩,⟨by repeat(first|(with_reducible first|exact HK.out|apply Kept.alloc|apply Kept.drewN|apply Kept.drew)|exact HK.out)⟩,⟨ul HB.out⟩⟩
 case round=>
  clear H';try clear c1
  try clear p2
  obtain⟨jE,kU,aJ,rfl,rfl,HA,jv,rQ,HK,HB⟩:=hrel
  cases gk with
  |zero=>exact absurd HA.out (by simp[jU.l0])
  |succ k1=>
   have H:=HA.out;clear HA;simp only[jU.l0]at H;replace H:=sd H;rcases H with⟨gQ,H⟩|⟨gQ,H⟩
   ·replace H:=oW H;obtain⟨oM,H⟩:=H;obtain⟨aA1,atp⟩:=nm (jE.set (aJ:Int).toNat kU);rw[←atp.out]at H
    (try rw[Option.bind_some]at H);have H':=ak H;clear H;obtain⟨Ao6,co6,eo6⟩:=bG rQ.out;subst eo6;have p5:=zi aJ;have q5:=zj aJ (jE.length:Int);obtain⟨go5,co5,eo5,gb5,gl5,cl5,HG5⟩:=ED rQ.out (by omega)
    (first|cases eo5|(injection eo5 with FV en_ ec_;(first|subst FV|(injection FV with FV;subst FV));subst ec_;clear en_));have GB5:=ak gb5;have GG5:=ak HG5;clear gb5 gl5 HG5;have aJv:=ak (show(EX go5∨w.heap.size≤go5)from(rQ.out.1 _ rfl));obtain⟨aJw,aJx⟩:=L_ 0 rQ.out (aJ:Int) p5 q5;replace p5:=eq_true p5;replace q5:=eq_true q5;have HP7:=aaD rQ.out (aJ:Int) kU;go_wp2_with (first|((with_reducible refine uP (t:=3) (p:=15) rfl ?_);refine sJ (t:=3) (p:=15) (v:=?aJy) (w1:=(wr.setCell ⟨go5,(aJ:Int).toNat,none⟩ (.int .i64 kU))) ?hg ?ho ?hn ?hr ?_;(case ho=>rfl);(case hg=>rfl);(case hn=>rfl);(case hr=>first|(go_simp;done)|(go_simp;rfl));intro w8 hw;have hg:wr.grownBy w8 (some go5):=(by rw[hw];exact HP7.2);have WM:Kd.R (Kd.int .i64) 3 w8 w0.heap.size (fun k_=>(EX k_∨w.heap.size≤k_)) (.slice (some ⟨go5,0,none⟩) jE.length co6) aA1:=(by rw[hw,atp.out];exact HP7.1);clear HP7;replace HB:=ak ((by rw[hw];exact nT (HB.out) GB5.out:Below w0.heap.size w0 w8));replace HK:=ak (Kept.Ik (S:=(fun k_=>EX k_)) hg (by repeat(first|(with_reducible first|exact HK.out|apply Kept.alloc|apply Kept.drewN|apply Kept.drew)|exact HK.out)) (fun k_ e_=>(rQ.out.1 k_ e_)));replace rQ:=ak (WM);clear hg hw WM))
    go_roundg k1
    case measure=>have:=jv.out;omega
    case rel=>exact⟨(aA1),(wrap64 (kU+1)),(wrap64 (aJ+1)),rs,rs,H',⟨by have:=jv.out;omega⟩,⟨ur rQ.out⟩,⟨by repeat(first|(with_reducible first|exact HK.out|apply Kept.alloc|apply Kept.drewN|apply Kept.drew)|exact HK.out)⟩,⟨ul HB.out⟩⟩
   ·simp only[Option.some.injEq,Prod.mk.injEq]at H;obtain⟨rfl,rfl⟩:=H;obtain⟨Ao9,co9,eo9⟩:=bG rQ.out;subst eo9;go_wp2;go_ret;exact⟨er,ur rQ.out,by repeat(first|(with_reducible first|exact HB.out|apply qg|apply qh|apply fO)|exact HB.out),by repeat(first|(with_reducible first|exact HK.out|apply Kept.alloc|apply Kept.drewN|apply Kept.drew)|exact HK.out)⟩
def bM.l0:Nat→List (iq)→Int→Int→Option (Int)
 |0,_,_,_=>none
 |k+1,x0,x1,x5=>if x5<(x0.length:Int)then(if 0≤x5 then((dV.f k x1).bind fun amI=>(if((aT x0 x5).f0).toList=amI.toList then((dV.f k (wrap64 (x1+1))).bind fun apU=>(if((aT x0 x5).f1).toList=apU.toList then(bM.l0 k x0 (wrap64 ((wrap64 (x1+1))+1)) (wrap64 (x5+1)))else(some (-1))))else(some (-1))))else(none))else(some x1)
def bM.f(k:Nat)(l0:List (iq))(a1:Int):Option (Int):=bM.l0 k l0 a1 0
def bM.T4:Bool×List (List Nat×List Nat):=(true,[([],[]),([],[]),([0,1],[0,1]),([2],[2]),([3],[3]),([],[]),([5],[5]),([4,6],[4,6])])
def bM.B4:List Nat:=[0,0,3,7,15,0,32,127]
theorem bM.aL5:xu .any (opsOf Tryz.f33 4)=bM.T4:=by kernel_rfl
theorem bM.aJz:uf bM.T4.2 bM.B4=true:=by kernel_rfl
def bM.T7:Bool×List (List Nat×List Nat):=(true,[([],[]),([],[]),([0,1],[0,1]),([2],[2]),([3],[3]),([],[]),([5],[5]),([4,6],[4,6])])
def bM.B7:List Nat:=[0,0,3,7,15,0,32,127]
theorem bM.aL6:xu .any (opsOf Tryz.f33 7)=bM.T7:=by kernel_rfl
theorem bM.aJA:uf bM.T7.2 bM.B7=true:=by kernel_rfl
set_option maxHeartbeats 8000000 in
set_option maxRecDepth 100000 in
theorem bM.calls(k:Nat)(A0:Option Addr)(c0:Nat)(l0:List (iq))(a1:Int)(r:Int)(w:World)(hr0:Kd.C lg w A0 l0.length l0)(hc0:l0.length≤c0)(h:bM.f k l0 a1=some r):
  Calls Tryz.prog 33 #[.slice A0 l0.length c0, .int .i64 a1] w fun e w'=>e= .returned (.int .i64 r)∧Below w.heap.size w w':=by
 have HR0:=ak hr0;have yx:=ak hc0;clear hr0 hc0;have HB:=ak (Below.refl w.heap.size w);have H:(bM.l0 k l0 a1 0)=some r:=h;clear h;have H':=ak H;clear H;go_enter func33,ntmps33;go_wp2;go_loopg [1,5] k (fun kq v1 v5 w'=>∃(kU:Int) (aJ:Int),v1= .int .i64 kU∧v5= .int .i64 aJ∧ah (bM.l0 kq l0 kU aJ=some r)∧ah (kq≤k)∧ah (Below w.heap.size w w'))
 case atStart=>exact⟨(a1),(0),rs,rs,H',⟨Nat.le_refl _⟩,⟨ul HB.out⟩⟩
 case round=>
  clear H';try clear p2
  obtain⟨kU,aJ,rfl,rfl,HA,jv,HB⟩:=hrel
  cases gk with
  |zero=>exact absurd HA.out (by simp[bM.l0])
  |succ k1=>
   have H:=HA.out;clear HA;simp only[bM.l0]at H;replace H:=sd H;rcases H with⟨gQ,H⟩|⟨gQ,H⟩
   ·replace H:=oW H;obtain⟨oM,H⟩:=H;replace H:=bd H;obtain⟨amI,A5,H⟩:=H;replace H:=sq H;rcases H with⟨oC,AB,H⟩|⟨c6,oC,AB,H⟩
    ·replace H:=bd H;obtain⟨apU,A7,H⟩:=H;replace H:=sq H;rcases H with⟨yY,U8,H⟩|⟨c8,yY,U8,H⟩
     ·have H':=ak H;clear H;try go_wp2
      replace HB:=ak (fO HB.out);have XB:=zi aJ;have XC:=zj aJ l0.length;obtain⟨zM,amJ,wz,wC⟩:=ou HR0.out aJ XB XC;have wE:=wC;have wF:=wz;cases amJ;replace wz:=cl HB.out wz;replace wC:=cl HB.out wC;replace XB:=eq_true XB;replace XC:=eq_true XC;refine ro [6] [0,1,2,3,5,4,6,7] (fun w'=>w'.cell? (zM.add ((aJ).toNat*2))=some (.string ((aT l0 aJ).f0))∧w'.cell? ⟨(zM.add ((aJ).toNat*2)).block,(zM.add ((aJ).toNat*2)).off+1,none⟩=some (.string ((aT l0 aJ).f1))) ⟨((HB.out.cell (World.block_lt_of_cell? w _ wF)).trans wF),((HB.out.cell (World.block_lt_of_cell? w _ wE)).trans wE)⟩ ?_
      generalize wr.drew=w9 at HB wz wC⊢
      repeat(refine lk (v:=?_) (a':=?_) (gk.trans rfl) rfl rfl ?_ ?_ ?_;rotate_left;(focus (rintro w' ⟨s0,s1⟩;go_simp;with_reducible rfl));rotate_left;(focus (simp only[Act.put,jB,jC,l_c,bJ,b_];rfl)))
      refine ld (N:=some 18) (gk.trans rfl) rfl rfl (fun K hK=>?_);refine vG func38 (by kernel_rfl) rfl #[.int .i64 kU] (by rfl) rfl rfl ma ?_
      with_reducible refine(dV.calls k1 kU amI _ A5.out).mono ?_
      rintro e w10 ⟨rfl,hb⟩;refine⟨_,rfl,?_⟩;replace HB:=bs HB hb
      (try clear hb);refine hK.out _ _ ⟨((HB.out.cell (World.block_lt_of_cell? w _ wF)).trans wF),((HB.out.cell (World.block_lt_of_cell? w _ wE)).trans wE)⟩ ?_;clear hK K;refine no (a':=?_) ?_ ?_
      rotate_left
      ·show Act.put _ (some 18) _=_
       simp only[Act.put,jB,jC,l_c,bJ,b_];rfl
      repeat(refine lk (v:=?_) (a':=?_) (gk.trans rfl) rfl rfl ?_ ?_ ?_;rotate_left;(focus (rintro w' ⟨s0,s1⟩;go_simp;with_reducible rfl));rotate_left;(focus (simp only[Act.put,jB,jC,l_c,bJ,b_];rfl)))
      refine on ?_;try go_wp2
      replace HB:=ak (fO HB.out);have ae3:=zi aJ;have ae4:=zj aJ l0.length;obtain⟨amK,awc,Dk,Dl⟩:=ou HR0.out aJ ae3 ae4;have Dn:=Dl;have Dp:=Dk;obtain rfl:zM=amK:=(by injection awc)
      replace Dk:=cl HB.out Dk;replace Dl:=cl HB.out Dl;replace ae3:=eq_true ae3;replace ae4:=eq_true ae4;refine ro [6] [0,1,2,3,5,4,6,7] (fun w'=>w'.cell? (zM.add ((aJ).toNat*2))=some (.string ((aT l0 aJ).f0))∧w'.cell? ⟨(zM.add ((aJ).toNat*2)).block,(zM.add ((aJ).toNat*2)).off+1,none⟩=some (.string ((aT l0 aJ).f1))) ⟨((HB.out.cell (World.block_lt_of_cell? w _ Dp)).trans Dp),((HB.out.cell (World.block_lt_of_cell? w _ Dn)).trans Dn)⟩ ?_
      generalize w10.drew=xk at HB Dk Dl⊢
      repeat(refine lk (v:=?_) (a':=?_) (gk.trans rfl) rfl rfl ?_ ?_ ?_;rotate_left;(focus (rintro w' ⟨s0,s1⟩;go_simp;with_reducible rfl));rotate_left;(focus (simp only[Act.put,jB,jC,l_c,bJ,b_];rfl)))
      refine ld (N:=some 28) (gk.trans rfl) rfl rfl (fun K hK=>?_);refine vG func38 (by kernel_rfl) rfl #[.int .i64 (wrap64 (kU+1))] (by rfl) rfl rfl ma ?_
      with_reducible refine(dV.calls k1 (wrap64 (kU+1)) apU _ A7.out).mono ?_
      rintro e w12 ⟨rfl,hb⟩;refine⟨_,rfl,?_⟩;replace HB:=bs HB hb
      (try clear hb);refine hK.out _ _ ⟨((HB.out.cell (World.block_lt_of_cell? w _ Dp)).trans Dp),((HB.out.cell (World.block_lt_of_cell? w _ Dn)).trans Dn)⟩ ?_;clear hK K;refine no (a':=?_) ?_ ?_
      rotate_left
      ·show Act.put _ (some 28) _=_
       simp only[Act.put,jB,jC,l_c,bJ,b_];rfl
      repeat(refine lk (v:=?_) (a':=?_) (gk.trans rfl) rfl rfl ?_ ?_ ?_;rotate_left;(focus (rintro w' ⟨s0,s1⟩;go_simp;with_reducible rfl));rotate_left;(focus (simp only[Act.put,jB,jC,l_c,bJ,b_];rfl)))
      refine on ?_;try go_wp2
      go_roundg k1
      case measure=>have:=jv.out;omega
      case rel=>exact⟨(wrap64 ((wrap64 (kU+1))+1)),(wrap64 (aJ+1)),rs,rs,H',⟨by have:=jv.out;omega⟩,⟨ul HB.out⟩⟩
     ·obtain rfl:=Option.some.inj H;try go_wp2
      replace HB:=ak (fO HB.out);have XB:=zi aJ;have XC:=zj aJ l0.length;obtain⟨zM,amJ,wz,wC⟩:=ou HR0.out aJ XB XC;have wE:=wC;have wF:=wz;cases amJ;replace wz:=cl HB.out wz;replace wC:=cl HB.out wC;replace XB:=eq_true XB;replace XC:=eq_true XC;refine ro [6] [0,1,2,3,5,4,6,7] (fun w'=>w'.cell? (zM.add ((aJ).toNat*2))=some (.string ((aT l0 aJ).f0))∧w'.cell? ⟨(zM.add ((aJ).toNat*2)).block,(zM.add ((aJ).toNat*2)).off+1,none⟩=some (.string ((aT l0 aJ).f1))) ⟨((HB.out.cell (World.block_lt_of_cell? w _ wF)).trans wF),((HB.out.cell (World.block_lt_of_cell? w _ wE)).trans wE)⟩ ?_
      generalize wr.drew=NC at HB wz wC⊢
      repeat(refine lk (v:=?_) (a':=?_) (gk.trans rfl) rfl rfl ?_ ?_ ?_;rotate_left;(focus (rintro w' ⟨s0,s1⟩;go_simp;with_reducible rfl));rotate_left;(focus (simp only[Act.put,jB,jC,l_c,bJ,b_];rfl)))
      refine ld (N:=some 18) (gk.trans rfl) rfl rfl (fun K hK=>?_);refine vG func38 (by kernel_rfl) rfl #[.int .i64 kU] (by rfl) rfl rfl ma ?_
      with_reducible refine(dV.calls k1 kU amI _ A5.out).mono ?_
      rintro e Ut ⟨rfl,hb⟩;refine⟨_,rfl,?_⟩;replace HB:=bs HB hb
      (try clear hb);refine hK.out _ _ ⟨((HB.out.cell (World.block_lt_of_cell? w _ wF)).trans wF),((HB.out.cell (World.block_lt_of_cell? w _ wE)).trans wE)⟩ ?_;clear hK K;refine no (a':=?_) ?_ ?_
      rotate_left
      ·show Act.put _ (some 18) _=_
       simp only[Act.put,jB,jC,l_c,bJ,b_];rfl
      repeat(refine lk (v:=?_) (a':=?_) (gk.trans rfl) rfl rfl ?_ ?_ ?_;rotate_left;(focus (rintro w' ⟨s0,s1⟩;go_simp;with_reducible rfl));rotate_left;(focus (simp only[Act.put,jB,jC,l_c,bJ,b_];rfl)))
      refine on ?_;try go_wp2
      replace HB:=ak (fO HB.out);have ae3:=zi aJ;have ae4:=zj aJ l0.length;obtain⟨amK,awc,Dk,Dl⟩:=ou HR0.out aJ ae3 ae4;have Dn:=Dl;have Dp:=Dk;obtain rfl:zM=amK:=(by injection awc)
      replace Dk:=cl HB.out Dk;replace Dl:=cl HB.out Dl;replace ae3:=eq_true ae3;replace ae4:=eq_true ae4;refine ro [6] [0,1,2,3,5,4,6,7] (fun w'=>w'.cell? (zM.add ((aJ).toNat*2))=some (.string ((aT l0 aJ).f0))∧w'.cell? ⟨(zM.add ((aJ).toNat*2)).block,(zM.add ((aJ).toNat*2)).off+1,none⟩=some (.string ((aT l0 aJ).f1))) ⟨((HB.out.cell (World.block_lt_of_cell? w _ Dp)).trans Dp),((HB.out.cell (World.block_lt_of_cell? w _ Dn)).trans Dn)⟩ ?_
      generalize Ut.drew=YU at HB Dk Dl⊢
      repeat(refine lk (v:=?_) (a':=?_) (gk.trans rfl) rfl rfl ?_ ?_ ?_;rotate_left;(focus (rintro w' ⟨s0,s1⟩;go_simp;with_reducible rfl));rotate_left;(focus (simp only[Act.put,jB,jC,l_c,bJ,b_];rfl)))
      refine ld (N:=some 28) (gk.trans rfl) rfl rfl (fun K hK=>?_);refine vG func38 (by kernel_rfl) rfl #[.int .i64 (wrap64 (kU+1))] (by rfl) rfl rfl ma ?_
      with_reducible refine(dV.calls k1 (wrap64 (kU+1)) apU _ A7.out).mono ?_
      rintro e w16 ⟨rfl,hb⟩;refine⟨_,rfl,?_⟩;replace HB:=bs HB hb
      (try clear hb);refine hK.out _ _ ⟨((HB.out.cell (World.block_lt_of_cell? w _ Dp)).trans Dp),((HB.out.cell (World.block_lt_of_cell? w _ Dn)).trans Dn)⟩ ?_;clear hK K;refine no (a':=?_) ?_ ?_
      rotate_left
      ·show Act.put _ (some 28) _=_
       simp only[Act.put,jB,jC,l_c,bJ,b_];rfl
      repeat(refine lk (v:=?_) (a':=?_) (gk.trans rfl) rfl rfl ?_ ?_ ?_;rotate_left;(focus (rintro w' ⟨s0,s1⟩;go_simp;with_reducible rfl));rotate_left;(focus (simp only[Act.put,jB,jC,l_c,bJ,b_];rfl)))
      refine on ?_;try go_wp2
      go_ret;exact⟨er,ul HB.out⟩
    ·obtain rfl:=Option.some.inj H;try go_wp2
     replace HB:=ak (fO HB.out);have XB:=zi aJ;have XC:=zj aJ l0.length;obtain⟨zM,amJ,wz,wC⟩:=ou HR0.out aJ XB XC;have wE:=wC;have wF:=wz;cases amJ;replace wz:=cl HB.out wz;replace wC:=cl HB.out wC;replace XB:=eq_true XB;replace XC:=eq_true XC;refine ro [6] [0,1,2,3,5,4,6,7] (fun w'=>w'.cell? (zM.add ((aJ).toNat*2))=some (.string ((aT l0 aJ).f0))∧w'.cell? ⟨(zM.add ((aJ).toNat*2)).block,(zM.add ((aJ).toNat*2)).off+1,none⟩=some (.string ((aT l0 aJ).f1))) ⟨((HB.out.cell (World.block_lt_of_cell? w _ wF)).trans wF),((HB.out.cell (World.block_lt_of_cell? w _ wE)).trans wE)⟩ ?_
     generalize wr.drew=w17 at HB wz wC⊢
     repeat(refine lk (v:=?_) (a':=?_) (gk.trans rfl) rfl rfl ?_ ?_ ?_;rotate_left;(focus (rintro w' ⟨s0,s1⟩;go_simp;with_reducible rfl));rotate_left;(focus (simp only[Act.put,jB,jC,l_c,bJ,b_];rfl)))
     refine ld (N:=some 18) (gk.trans rfl) rfl rfl (fun K hK=>?_);refine vG func38 (by kernel_rfl) rfl #[.int .i64 kU] (by rfl) rfl rfl ma ?_
     with_reducible refine(dV.calls k1 kU amI _ A5.out).mono ?_
     rintro e w18 ⟨rfl,hb⟩;refine⟨_,rfl,?_⟩;replace HB:=bs HB hb
     (try clear hb);refine hK.out _ _ ⟨((HB.out.cell (World.block_lt_of_cell? w _ wF)).trans wF),((HB.out.cell (World.block_lt_of_cell? w _ wE)).trans wE)⟩ ?_;clear hK K;refine no (a':=?_) ?_ ?_
     rotate_left
     ·show Act.put _ (some 18) _=_
      simp only[Act.put,jB,jC,l_c,bJ,b_];rfl
     repeat(refine lk (v:=?_) (a':=?_) (gk.trans rfl) rfl rfl ?_ ?_ ?_;rotate_left;(focus (rintro w' ⟨s0,s1⟩;go_simp;with_reducible rfl));rotate_left;(focus (simp only[Act.put,jB,jC,l_c,bJ,b_];rfl)))
     refine on ?_;try go_wp2
     go_ret;exact⟨er,ul HB.out⟩
   ·obtain rfl:=Option.some.inj H;go_wp2;go_ret;exact⟨er,ul HB.out⟩
def fF.l0:Nat→List ByteArray→Int→Int→Option (Int)
 |0,_,_,_=>none
 |k+1,x0,x1,x5=>if x5<(x0.length:Int)then(if 0≤x5 then((dV.f k x1).bind fun apV=>(if(o8 ByteArray.empty x0 x5).toList=apV.toList then(fF.l0 k x0 (wrap64 (x1+1)) (wrap64 (x5+1)))else(some (-1))))else(none))else(some x1)
def fF.f(k:Nat)(l0:List ByteArray)(a1:Int):Option (Int):=fF.l0 k l0 a1 0
set_option maxHeartbeats 8000000 in
set_option maxRecDepth 100000 in
theorem fF.calls(k:Nat)(A0:Option Addr)(c0:Nat)(l0:List ByteArray)(a1:Int)(r:Int)(w:World)(hr0:Kd.C Kd.string w A0 l0.length l0)(hc0:l0.length≤c0)(h:fF.f k l0 a1=some r):
  Calls Tryz.prog 34 #[.slice A0 l0.length c0, .int .i64 a1] w fun e w'=>e= .returned (.int .i64 r)∧Below w.heap.size w w':=by
 have HR0:=ak hr0;have yx:=ak hc0;clear hr0 hc0;have HB:=ak (Below.refl w.heap.size w);have H:(fF.l0 k l0 a1 0)=some r:=h;clear h;have H':=ak H;clear H;go_enter func34,ntmps34;go_wp2;go_loopg [1,5] k (fun kq v1 v5 w'=>∃(kU:Int) (aJ:Int),v1= .int .i64 kU∧v5= .int .i64 aJ∧ah (fF.l0 kq l0 kU aJ=some r)∧ah (kq≤k)∧ah (Below w.heap.size w w'))
 case atStart=>exact⟨(a1),(0),rs,rs,H',⟨Nat.le_refl _⟩,⟨ul HB.out⟩⟩
 case round=>
  clear H';try clear p2
  obtain⟨kU,aJ,rfl,rfl,HA,jv,HB⟩:=hrel
  cases gk with
  |zero=>exact absurd HA.out (by simp[fF.l0])
  |succ k1=>
   have H:=HA.out;clear HA;simp only[fF.l0]at H;replace H:=sd H;rcases H with⟨gQ,H⟩|⟨gQ,H⟩
   ·replace H:=oW H;obtain⟨oM,H⟩:=H;replace H:=bd H;obtain⟨apV,A5,H⟩:=H;replace H:=sq H;rcases H with⟨oC,AB,H⟩|⟨c6,oC,AB,H⟩
    ·have H':=ak H;clear H;try go_wp2
     replace HB:=ak (fO HB.out);have ae5:=zi aJ;have ae6:=zj aJ l0.length;obtain⟨amL,awd,Dq⟩:=kV HR0.out aJ ae5 ae6;have Dt:=Dq;cases awd;replace Dq:=cl HB.out Dq;replace ae5:=eq_true ae5;replace ae6:=eq_true ae6;refine Js (n:=7) (S:=fun w'=>w'.cell? (amL.add (aJ).toNat)=some (.string (o8 ByteArray.empty l0 aJ))) (ds:=[]) #[false,false,false,false,false,false,false] (by kernel_rfl) rfl rfl (((HB.out.cell (World.block_lt_of_cell? w _ Dt)).trans Dt)) (fun hHeld=>?_)
     generalize wr.drew=w7 at HB Dq hHeld⊢
     refine rG (i:=0) (N:=some 12) (v:=?_) (a':=?_) #[true,false,false,false,false,false,false] rfl rfl (by kernel_rfl) (fun _ _ _ h=>h) (Or.inl ⟨by rfl,?_⟩) ?_ ?_
     rotate_left
     ·intro w';go_simp
      with_reducible rfl
     rotate_left
     ·simp only[Act.put,jB,jC,l_c,bJ,b_];rfl
     refine rG (i:=1) (N:=some 13) (v:=?_) (a':=?_) #[true,true,false,false,false,false,false] rfl rfl (by kernel_rfl) (fun _ _ _ h=>h) (Or.inl ⟨by rfl,?_⟩) ?_ ?_
     rotate_left
     ·intro w';go_simp
      with_reducible rfl
     rotate_left
     ·simp only[Act.put,jB,jC,l_c,bJ,b_];rfl
     refine rG (i:=2) (N:=some 14) (v:=?_) (a':=?_) #[true,true,true,false,false,false,false] rfl rfl (by kernel_rfl) (fun _ _ _ h=>h) (Or.inl ⟨by rfl,?_⟩) ?_ ?_
     rotate_left
     ·intro w';go_simp
      with_reducible rfl
     rotate_left
     ·simp only[Act.put,jB,jC,l_c,bJ,b_];rfl
     refine rG (i:=4) (N:=some 16) (v:=?_) (a':=?_) #[true,true,true,false,true,false,false] rfl rfl (by kernel_rfl) (fun _ _ _ h=>h) (Or.inl ⟨by rfl,?_⟩) ?_ ?_
     rotate_left
     ·intro w';go_simp
      with_reducible rfl
     rotate_left
     ·simp only[Act.put,jB,jC,l_c,bJ,b_];rfl
     refine BO (i:=3) (N:=some 15) (v:=?_) (a':=?_) #[true,true,true,true,true,false,false] rfl rfl (by kernel_rfl) (fun _ _ _ h=>h) (Or.inl ⟨by rfl,?_⟩) hHeld ?_ ?_
     rotate_left
     ·intro w' s0;go_simp
      with_reducible rfl
     rotate_left
     ·simp only[Act.put,jB,jC,l_c,bJ,b_];rfl
     refine H_ (i:=5) (N:=some 17) #[true,true,true,true,true,true,false] rfl rfl (by kernel_rfl) (by decide) (fun K hK=>?_);refine vG func38 (by kernel_rfl) rfl #[.int .i64 kU] (by rfl) rfl rfl ma ?_
     with_reducible refine(dV.calls k1 kU apV _ A5.out).mono ?_
     rintro e w8 ⟨rfl,hb⟩;refine⟨_,rfl,?_⟩;replace HB:=bs HB hb
     (try clear hb);refine hK.out _ _ (((HB.out.cell (World.block_lt_of_cell? w _ Dt)).trans Dt)) (fun hHeld=>?_);clear hK K;refine iT (a':=?_) ?_ ?_
     rotate_left
     ·show Act.put _ (some 17) _=_
      simp only[Act.put,jB,jC,l_c,bJ,b_];rfl
     refine rG (i:=6) (N:=some 18) (v:=?_) (a':=?_) #[true,true,true,true,true,true,true] rfl rfl (by kernel_rfl) (fun _ _ _ h=>h) (Or.inl ⟨by rfl,?_⟩) ?_ ?_
     rotate_left
     ·intro w';go_simp
      with_reducible rfl
     rotate_left
     ·simp only[Act.put,jB,jC,l_c,bJ,b_];rfl
     refine P8 (by kernel_rfl) ?_;try go_wp2
     go_roundg k1
     case measure=>have:=jv.out;omega
     case rel=>exact⟨(wrap64 (kU+1)),(wrap64 (aJ+1)),rs,rs,H',⟨by have:=jv.out;omega⟩,⟨ul HB.out⟩⟩
    ·obtain rfl:=Option.some.inj H;try go_wp2
     replace HB:=ak (fO HB.out);have ae5:=zi aJ;have ae6:=zj aJ l0.length;obtain⟨amL,awd,Dq⟩:=kV HR0.out aJ ae5 ae6;have Dt:=Dq;cases awd;replace Dq:=cl HB.out Dq;replace ae5:=eq_true ae5;replace ae6:=eq_true ae6;refine Js (n:=7) (S:=fun w'=>w'.cell? (amL.add (aJ).toNat)=some (.string (o8 ByteArray.empty l0 aJ))) (ds:=[]) #[false,false,false,false,false,false,false] (by kernel_rfl) rfl rfl (((HB.out.cell (World.block_lt_of_cell? w _ Dt)).trans Dt)) (fun hHeld=>?_)
     generalize wr.drew=w9 at HB Dq hHeld⊢
     refine rG (i:=0) (N:=some 12) (v:=?_) (a':=?_) #[true,false,false,false,false,false,false] rfl rfl (by kernel_rfl) (fun _ _ _ h=>h) (Or.inl ⟨by rfl,?_⟩) ?_ ?_
     rotate_left
     ·intro w';go_simp
      with_reducible rfl
     rotate_left
     ·simp only[Act.put,jB,jC,l_c,bJ,b_];rfl
     refine rG (i:=1) (N:=some 13) (v:=?_) (a':=?_) #[true,true,false,false,false,false,false] rfl rfl (by kernel_rfl) (fun _ _ _ h=>h) (Or.inl ⟨by rfl,?_⟩) ?_ ?_
     rotate_left
     ·intro w';go_simp
      with_reducible rfl
     rotate_left
     ·simp only[Act.put,jB,jC,l_c,bJ,b_];rfl
     refine rG (i:=2) (N:=some 14) (v:=?_) (a':=?_) #[true,true,true,false,false,false,false] rfl rfl (by kernel_rfl) (fun _ _ _ h=>h) (Or.inl ⟨by rfl,?_⟩) ?_ ?_
     rotate_left
     ·intro w';go_simp
      with_reducible rfl
     rotate_left
     ·simp only[Act.put,jB,jC,l_c,bJ,b_];rfl
     refine rG (i:=4) (N:=some 16) (v:=?_) (a':=?_) #[true,true,true,false,true,false,false] rfl rfl (by kernel_rfl) (fun _ _ _ h=>h) (Or.inl ⟨by rfl,?_⟩) ?_ ?_
     rotate_left
     ·intro w';go_simp
      with_reducible rfl
     rotate_left
     ·simp only[Act.put,jB,jC,l_c,bJ,b_];rfl
     refine BO (i:=3) (N:=some 15) (v:=?_) (a':=?_) #[true,true,true,true,true,false,false] rfl rfl (by kernel_rfl) (fun _ _ _ h=>h) (Or.inl ⟨by rfl,?_⟩) hHeld ?_ ?_
     rotate_left
     ·intro w' s0;go_simp
      with_reducible rfl
     rotate_left
     ·simp only[Act.put,jB,jC,l_c,bJ,b_];rfl
     refine H_ (i:=5) (N:=some 17) #[true,true,true,true,true,true,false] rfl rfl (by kernel_rfl) (by decide) (fun K hK=>?_);refine vG func38 (by kernel_rfl) rfl #[.int .i64 kU] (by rfl) rfl rfl ma ?_
     with_reducible refine(dV.calls k1 kU apV _ A5.out).mono ?_
     rintro e w10 ⟨rfl,hb⟩;refine⟨_,rfl,?_⟩;replace HB:=bs HB hb
     (try clear hb);refine hK.out _ _ (((HB.out.cell (World.block_lt_of_cell? w _ Dt)).trans Dt)) (fun hHeld=>?_);clear hK K;refine iT (a':=?_) ?_ ?_
     rotate_left
     ·show Act.put _ (some 17) _=_
      simp only[Act.put,jB,jC,l_c,bJ,b_];rfl
     refine rG (i:=6) (N:=some 18) (v:=?_) (a':=?_) #[true,true,true,true,true,true,true] rfl rfl (by kernel_rfl) (fun _ _ _ h=>h) (Or.inl ⟨by rfl,?_⟩) ?_ ?_
     rotate_left
     ·intro w';go_simp
      with_reducible rfl
     rotate_left
     ·simp only[Act.put,jB,jC,l_c,bJ,b_];rfl
     refine P8 (by kernel_rfl) ?_;try go_wp2
     go_ret;exact⟨er,ul HB.out⟩
   ·obtain rfl:=Option.some.inj H;go_wp2;go_ret;exact⟨er,ul HB.out⟩
mutual
def gY.l0:Nat→List (jm)→Int→Int→Option (Int)
 |0,_,_,_=>none
 |k+1,x0,x1,x5=>if x5<(x0.length:Int)then(if 0≤x5 then((bM.f k ((aH x0 x5).f0) x1).bind fun TK=>(if TK<0 then(some (-1))else((fF.f k ((aH x0 x5).f1) TK).bind fun YZ=>(if YZ<0 then(some (-1))else((gY.f k ((aH x0 x5).f2) YZ).bind fun ajs=>(if ajs<0 then(some (-1))else(gY.l0 k x0 ajs (wrap64 (x5+1)))))))))else(none))else(some x1)
def gY.f:Nat→List (jm)→Int→Option (Int)
 |0,_,_=>none
 |k+1,l0,a1=>gY.l0 k l0 a1 0
end
set_option maxHeartbeats 8000000 in
set_option maxRecDepth 100000 in
theorem gY.calls(k:Nat):∀(A0:Option Addr) (c0:Nat) (l0:List (jm)) (a1:Int) (r:Int) (w:World) (hr0:Kd.C k32 w A0 l0.length l0) (hc0:l0.length≤c0) (h:gY.f k l0 a1=some r),
  Calls Tryz.prog 35 #[.slice A0 l0.length c0, .int .i64 a1] w fun e w'=>e= .returned (.int .i64 r)∧Below w.heap.size w w':=by
 induction k using Nat.strongRecOn with
 |_ k ih=>
 intro A0 c0 l0 a1 r w hr0 hc0 h
 cases k with
 |zero=>exact absurd h (by simp[gY.f])
 |succ k=>
 simp only[gY.f]at h;have HR0:=ak hr0;have yx:=ak hc0;clear hr0 hc0;have HB:=ak (Below.refl w.heap.size w);have H:(gY.l0 k l0 a1 0)=some r:=h;clear h;have H':=ak H;clear H;go_enter func35,ntmps35;go_wp2;go_loopg [1,5] k (fun kq v1 v5 w'=>∃(kU:Int) (aJ:Int),v1= .int .i64 kU∧v5= .int .i64 aJ∧ah (gY.l0 kq l0 kU aJ=some r)∧ah (kq≤k)∧ah (Below w.heap.size w w'))
 case atStart=>exact⟨(a1),(0),rs,rs,H',⟨Nat.le_refl _⟩,⟨ul HB.out⟩⟩
 case round=>
  clear H';try clear p2
  obtain⟨kU,aJ,rfl,rfl,HA,jv,HB⟩:=hrel
  cases gk with
  |zero=>exact absurd HA.out (by simp[gY.l0])
  |succ k1=>
   have H:=HA.out;clear HA;simp only[gY.l0]at H;replace H:=sd H;rcases H with⟨gQ,H⟩|⟨gQ,H⟩
   ·replace H:=oW H;obtain⟨oM,H⟩:=H;replace H:=bd H;obtain⟨TK,A5,H⟩:=H;replace H:=sd H;rcases H with⟨oC,H⟩|⟨oC,H⟩
    ·obtain rfl:=Option.some.inj H;have Oc:=zi aJ;have Oe:=zj aJ l0.length;obtain⟨UL,Og,Oh,ae7,ae8,ae9,ae_,afa,zN,zO,zQ,zS,zT,zU,zV,zW,zX⟩:=qY HR0.out aJ Oc Oe;cases afa;replace zN:=cl HB.out zN;replace zO:=cl HB.out zO;replace zQ:=cl HB.out zQ;have JC:=ak zT;have JD:=ak zS;clear zT zS;have abt:=ak zV;have abu:=ak zU;clear zV zU;have abv:=ak zX;have abw:=ak zW;clear zX zW;replace Oc:=eq_true Oc;replace Oe:=eq_true Oe;go_wp2_with (first|(refine gL 33 18 func33 #[.slice Og ((aH l0 aJ).f0).length Oh, .int .i64 kU] ?_;(with_reducible refine(bM.calls k1 _ _ ((aH l0 aJ).f0) kU TK _ (cu (aK JC.out HB.out)) JD.out A5.out).mono ?_);rintro e w7 ⟨rfl,hb⟩;refine⟨_,rfl,?_⟩;replace HB:=bs HB hb;(try clear hb)))
     go_ret;exact⟨er,ul HB.out⟩
    ·replace H:=bd H;obtain⟨YZ,A8,H⟩:=H;replace H:=sd H;rcases H with⟨y5,H⟩|⟨y5,H⟩
     ·obtain rfl:=Option.some.inj H;have Oc:=zi aJ;have Oe:=zj aJ l0.length;obtain⟨UL,Og,Oh,ae7,ae8,ae9,ae_,afa,zN,zO,zQ,zS,zT,zU,zV,zW,zX⟩:=qY HR0.out aJ Oc Oe;cases afa;replace zN:=cl HB.out zN;replace zO:=cl HB.out zO;replace zQ:=cl HB.out zQ;have JC:=ak zT;have JD:=ak zS;clear zT zS;have abt:=ak zV;have abu:=ak zU;clear zV zU;have abv:=ak zX;have abw:=ak zW;clear zX zW;replace Oc:=eq_true Oc;replace Oe:=eq_true Oe;go_wp2_with (first|(refine gL 33 18 func33 #[.slice Og ((aH l0 aJ).f0).length Oh, .int .i64 kU] ?_;(with_reducible refine(bM.calls k1 _ _ ((aH l0 aJ).f0) kU TK _ (cu (aK JC.out HB.out)) JD.out A5.out).mono ?_);rintro e w10 ⟨rfl,hb⟩;refine⟨_,rfl,?_⟩;replace HB:=bs HB hb;(try clear hb);have XD:0≤(aJ:Int):=of_decide_eq_true (by assumption);have XE:aJ<(l0.length:Int):=of_decide_eq_true (by assumption);obtain⟨adk,amM,amN,XF,XG,amO,amP,amQ,zY,zZ,z_,Gs,Gt,Gu,Gv,Gw,Gx⟩:=qY HR0.out aJ XD XE;obtain rfl:UL=adk:=(by injection amQ);replace zY:=(HB.out.cell (World.block_lt_of_cell? w _ zY)).trans zY;replace zZ:=(HB.out.cell (World.block_lt_of_cell? w _ zZ)).trans zZ;replace z_:=(HB.out.cell (World.block_lt_of_cell? w _ z_)).trans z_;have ahF:=ak Gt;have ahG:=ak Gs;clear Gt Gs;have QA:=ak Gv;have QB:=ak Gu;clear Gv Gu;have ahH:=ak Gx;have ahI:=ak Gw;clear Gx Gw;replace XD:=eq_true XD;replace XE:=eq_true XE)|(refine gL 34 27 func34 #[.slice XF ((aH l0 aJ).f1).length XG, .int .i64 TK] ?_;(with_reducible refine(fF.calls k1 _ _ ((aH l0 aJ).f1) TK YZ _ (cu (aK QA.out HB.out)) QB.out A8.out).mono ?_);rintro e xk ⟨rfl,hb⟩;refine⟨_,rfl,?_⟩;replace HB:=bs HB hb;(try clear hb)))
      go_ret;exact⟨er,ul HB.out⟩
     ·replace H:=bd H;obtain⟨ajs,A12,H⟩:=H;replace H:=sd H;rcases H with⟨xU,H⟩|⟨xU,H⟩
      ·obtain rfl:=Option.some.inj H;have Oc:=zi aJ;have Oe:=zj aJ l0.length;obtain⟨UL,Og,Oh,ae7,ae8,ae9,ae_,afa,zN,zO,zQ,zS,zT,zU,zV,zW,zX⟩:=qY HR0.out aJ Oc Oe;cases afa;replace zN:=cl HB.out zN;replace zO:=cl HB.out zO;replace zQ:=cl HB.out zQ;have JC:=ak zT;have JD:=ak zS;clear zT zS;have abt:=ak zV;have abu:=ak zU;clear zV zU;have abv:=ak zX;have abw:=ak zW;clear zX zW;replace Oc:=eq_true Oc;replace Oe:=eq_true Oe;go_wp2_with (first|(refine gL 33 18 func33 #[.slice Og ((aH l0 aJ).f0).length Oh, .int .i64 kU] ?_;(with_reducible refine(bM.calls k1 _ _ ((aH l0 aJ).f0) kU TK _ (cu (aK JC.out HB.out)) JD.out A5.out).mono ?_);rintro e Ut ⟨rfl,hb⟩;refine⟨_,rfl,?_⟩;replace HB:=bs HB hb;(try clear hb);have XD:0≤(aJ:Int):=of_decide_eq_true (by assumption);have XE:aJ<(l0.length:Int):=of_decide_eq_true (by assumption);obtain⟨adk,amM,amN,XF,XG,amO,amP,amQ,zY,zZ,z_,Gs,Gt,Gu,Gv,Gw,Gx⟩:=qY HR0.out aJ XD XE;obtain rfl:UL=adk:=(by injection amQ);replace zY:=(HB.out.cell (World.block_lt_of_cell? w _ zY)).trans zY;replace zZ:=(HB.out.cell (World.block_lt_of_cell? w _ zZ)).trans zZ;replace z_:=(HB.out.cell (World.block_lt_of_cell? w _ z_)).trans z_;have ahF:=ak Gt;have ahG:=ak Gs;clear Gt Gs;have QA:=ak Gv;have QB:=ak Gu;clear Gv Gu;have ahH:=ak Gx;have ahI:=ak Gw;clear Gx Gw;replace XD:=eq_true XD;replace XE:=eq_true XE)|(refine gL 34 27 func34 #[.slice XF ((aH l0 aJ).f1).length XG, .int .i64 TK] ?_;(with_reducible refine(fF.calls k1 _ _ ((aH l0 aJ).f1) TK YZ _ (cu (aK QA.out HB.out)) QB.out A8.out).mono ?_);rintro e YU ⟨rfl,hb⟩;refine⟨_,rfl,?_⟩;replace HB:=bs HB hb;(try clear hb);have afb:0≤(aJ:Int):=of_decide_eq_true (by assumption);have afc:aJ<(l0.length:Int):=of_decide_eq_true (by assumption);obtain⟨amR,awe,awf,awg,awh,afd,afe,awi,JE,JF,JG,QD,QE,QF,QG,QH,QI⟩:=qY HR0.out aJ afb afc;obtain rfl:UL=amR:=(by injection awi);replace JE:=(HB.out.cell (World.block_lt_of_cell? w _ JE)).trans JE;replace JF:=(HB.out.cell (World.block_lt_of_cell? w _ JF)).trans JF;replace JG:=(HB.out.cell (World.block_lt_of_cell? w _ JG)).trans JG;have apW:=ak QE;have apX:=ak QD;clear QE QD;have apY:=ak QG;have apZ:=ak QF;clear QG QF;have abx:=ak QI;have aby:=ak QH;clear QI QH;replace afb:=eq_true afb;replace afc:=eq_true afc)|(refine gL 35 36 func35 #[.slice afd ((aH l0 aJ).f2).length afe, .int .i64 YZ] ?_;(with_reducible refine(ih k1 (by have:=jv.out;omega) _ _ ((aH l0 aJ).f2) YZ ajs _ (cu (aK abx.out HB.out)) aby.out A12.out).mono ?_);rintro e w16 ⟨rfl,hb⟩;refine⟨_,rfl,?_⟩;replace HB:=bs HB hb;(try clear hb)))
       go_ret;exact⟨er,ul HB.out⟩
      ·have H':=ak H;clear H;have Oc:=zi aJ;have Oe:=zj aJ l0.length;obtain⟨UL,Og,Oh,ae7,ae8,ae9,ae_,afa,zN,zO,zQ,zS,zT,zU,zV,zW,zX⟩:=qY HR0.out aJ Oc Oe;cases afa;replace zN:=cl HB.out zN;replace zO:=cl HB.out zO;replace zQ:=cl HB.out zQ;have JC:=ak zT;have JD:=ak zS;clear zT zS;have abt:=ak zV;have abu:=ak zU;clear zV zU;have abv:=ak zX;have abw:=ak zW;clear zX zW;replace Oc:=eq_true Oc;replace Oe:=eq_true Oe;go_wp2_with (first|(refine gL 33 18 func33 #[.slice Og ((aH l0 aJ).f0).length Oh, .int .i64 kU] ?_;(with_reducible refine(bM.calls k1 _ _ ((aH l0 aJ).f0) kU TK _ (cu (aK JC.out HB.out)) JD.out A5.out).mono ?_);rintro e w17 ⟨rfl,hb⟩;refine⟨_,rfl,?_⟩;replace HB:=bs HB hb;(try clear hb);have XD:0≤(aJ:Int):=of_decide_eq_true (by assumption);have XE:aJ<(l0.length:Int):=of_decide_eq_true (by assumption);obtain⟨adk,amM,amN,XF,XG,amO,amP,amQ,zY,zZ,z_,Gs,Gt,Gu,Gv,Gw,Gx⟩:=qY HR0.out aJ XD XE;obtain rfl:UL=adk:=(by injection amQ);replace zY:=(HB.out.cell (World.block_lt_of_cell? w _ zY)).trans zY;replace zZ:=(HB.out.cell (World.block_lt_of_cell? w _ zZ)).trans zZ;replace z_:=(HB.out.cell (World.block_lt_of_cell? w _ z_)).trans z_;have ahF:=ak Gt;have ahG:=ak Gs;clear Gt Gs;have QA:=ak Gv;have QB:=ak Gu;clear Gv Gu;have ahH:=ak Gx;have ahI:=ak Gw;clear Gx Gw;replace XD:=eq_true XD;replace XE:=eq_true XE)|(refine gL 34 27 func34 #[.slice XF ((aH l0 aJ).f1).length XG, .int .i64 TK] ?_;(with_reducible refine(fF.calls k1 _ _ ((aH l0 aJ).f1) TK YZ _ (cu (aK QA.out HB.out)) QB.out A8.out).mono ?_);rintro e w18 ⟨rfl,hb⟩;refine⟨_,rfl,?_⟩;replace HB:=bs HB hb;(try clear hb);have afb:0≤(aJ:Int):=of_decide_eq_true (by assumption);have afc:aJ<(l0.length:Int):=of_decide_eq_true (by assumption);obtain⟨amR,awe,awf,awg,awh,afd,afe,awi,JE,JF,JG,QD,QE,QF,QG,QH,QI⟩:=qY HR0.out aJ afb afc;obtain rfl:UL=amR:=(by injection awi);replace JE:=(HB.out.cell (World.block_lt_of_cell? w _ JE)).trans JE;replace JF:=(HB.out.cell (World.block_lt_of_cell? w _ JF)).trans JF;replace JG:=(HB.out.cell (World.block_lt_of_cell? w _ JG)).trans JG;have apW:=ak QE;have apX:=ak QD;clear QE QD;have apY:=ak QG;have apZ:=ak QF;clear QG QF;have abx:=ak QI;have aby:=ak QH;clear QI QH;replace afb:=eq_true afb;replace afc:=eq_true afc)|(refine gL 35 36 func35 #[.slice afd ((aH l0 aJ).f2).length afe, .int .i64 YZ] ?_;(with_reducible refine(ih k1 (by have:=jv.out;omega) _ _ ((aH l0 aJ).f2) YZ ajs _ (cu (aK abx.out HB.out)) aby.out A12.out).mono ?_);rintro e w19 ⟨rfl,hb⟩;refine⟨_,rfl,?_⟩;replace HB:=bs HB hb;(try clear hb)))
       go_roundg k1
       case measure=>have:=jv.out;omega
       case rel=>exact⟨(ajs),(wrap64 (aJ+1)),rs,rs,H',⟨by have:=jv.out;omega⟩,⟨ul HB.out⟩⟩
   ·obtain rfl:=Option.some.inj H;go_wp2;go_ret;exact⟨er,ul HB.out⟩
def tK.f(k:Nat)(aN:List (iq))(aQ:List ByteArray)(aA:List (jm))(a1:Int):Option (Int):=(bM.f k aN a1).bind fun Nc=>(if Nc<0 then(some (-1))else((fF.f k aQ Nc).bind fun TL=>(if TL<0 then(some (-1))else((gY.f k aA TL).bind fun adl=>(if adl<0 then(some (-1))else(some adl))))))
set_option maxHeartbeats 8000000 in
set_option maxRecDepth 100000 in
theorem tK.calls(k:Nat)(cO:Option Addr)(cZ:Nat)(aN:List (iq))(dh:Option Addr)(dw:Nat)(aQ:List ByteArray)(bH:Option Addr)(bg:Nat)(aA:List (jm))(a1:Int)(r:Int)(w:World)(ku:Kd.C lg w cO aN.length aN)(kC:aN.length≤cZ)(kD:Kd.C Kd.string w dh aQ.length aQ)(kE:aQ.length≤dw)(jg:Kd.C k32 w bH aA.length aA)(jh:aA.length≤bg)(h:tK.f k aN aQ aA a1=some r):
  Calls Tryz.prog 14 #[.agg #[.slice cO aN.length cZ, .slice dh aQ.length dw, .slice bH aA.length bg], .int .i64 a1] w fun e w'=>e= .returned (.int .i64 r)∧Below w.heap.size w w':=by
 have IQ:=underlying32;have lU:=ak ku;have mX:=ak kC;clear ku kC;have oN:=ak kD;have qB:=ak kE;clear kD kE;have jF:=ak jg;have lV:=ak jh;clear jg jh;have HB:=ak (Below.refl w.heap.size w);have H:((bM.f k aN a1).bind fun Nc=>(if Nc<0 then(some (-1))else((fF.f k aQ Nc).bind fun TL=>(if TL<0 then(some (-1))else((gY.f k aA TL).bind fun adl=>(if adl<0 then(some (-1))else(some adl)))))))=some r:=h;clear h;replace H:=bd H;obtain⟨Nc,A3,H⟩:=H;replace H:=sd H;rcases H with⟨oM,H⟩|⟨oM,H⟩
 ·obtain rfl:=Option.some.inj H;go_enter func14,ntmps14;go_wp2_with (first|(refine bE 2 #[.slice cO aN.length cZ, .slice dh aQ.length dw, .slice bH aA.length bg] 32 ?_;intro amS hg w5 hbox hb;have rY:=ak (hbox);have amT:=mJ HB hg;have amU:=mJ HB hg;replace HB:=bs HB hb;clear hb hbox hg;obtain⟨aaF,aaG,aes,aaH,aaI,aeu⟩:=iE rY.out)|(refine gL 33 8 func33 #[.slice cO aN.length cZ, .int .i64 a1] ?_;(with_reducible refine(bM.calls k _ _ aN a1 Nc _ (cu (aK lU.out HB.out)) mX.out A3.out).mono ?_);rintro e w7 ⟨rfl,hb⟩;refine⟨_,rfl,?_⟩;replace rY:=kb rY hb;replace HB:=ak (aI bb hb);(try clear hb)))
  go_ret;exact⟨er,bb⟩
 ·replace H:=bd H;obtain⟨TL,A8,H⟩:=H;replace H:=sd H;rcases H with⟨y5,H⟩|⟨y5,H⟩
  ·obtain rfl:=Option.some.inj H;go_enter func14,ntmps14;go_wp2_with (first|(refine bE 2 #[.slice cO aN.length cZ, .slice dh aQ.length dw, .slice bH aA.length bg] 32 ?_;intro amS hg w10 hbox hb;have rY:=ak (hbox);have amT:=mJ HB hg;have amU:=mJ HB hg;replace HB:=bs HB hb;clear hb hbox hg;obtain⟨Jd,Je,aoE,Jf,Jg,aoF⟩:=iE rY.out)|(refine gL 33 8 func33 #[.slice cO aN.length cZ, .int .i64 a1] ?_;(with_reducible refine(bM.calls k _ _ aN a1 Nc _ (cu (aK lU.out HB.out)) mX.out A3.out).mono ?_);rintro e w12 ⟨rfl,hb⟩;refine⟨_,rfl,?_⟩;replace rY:=kb rY hb;replace HB:=ak (aI bb hb);(try clear hb);obtain⟨yS,yT,aaq,yU,yV,aar⟩:=iE rY.out)|(refine gL 34 14 func34 #[.slice dh aQ.length dw, .int .i64 Nc] ?_;(with_reducible refine(fF.calls k _ _ aQ Nc TL _ (cu (aK oN.out HB.out)) qB.out A8.out).mono ?_);rintro e Ut ⟨rfl,hb⟩;refine⟨_,rfl,?_⟩;replace rY:=kb rY hb;replace HB:=ak (aI bb hb);(try clear hb)))
   go_ret;exact⟨er,bb⟩
  ·replace H:=bd H;obtain⟨adl,A15,H⟩:=H;replace H:=sd H;rcases H with⟨EI,H⟩|⟨EI,H⟩
   ·obtain rfl:=Option.some.inj H;go_enter func14,ntmps14;go_wp2_with (first|(refine bE 2 #[.slice cO aN.length cZ, .slice dh aQ.length dw, .slice bH aA.length bg] 32 ?_;intro amS hg w17 hbox hb;have rY:=ak (hbox);have amT:=mJ HB hg;have amU:=mJ HB hg;replace HB:=bs HB hb;clear hb hbox hg;obtain⟨VF,VG,aaQ,VH,VI,aaR⟩:=iE rY.out)|(refine gL 33 8 func33 #[.slice cO aN.length cZ, .int .i64 a1] ?_;(with_reducible refine(bM.calls k _ _ aN a1 Nc _ (cu (aK lU.out HB.out)) mX.out A3.out).mono ?_);rintro e w19 ⟨rfl,hb⟩;refine⟨_,rfl,?_⟩;replace rY:=kb rY hb;replace HB:=ak (aI bb hb);(try clear hb);obtain⟨P9,P_,Qa,Qb,Qc,Qd⟩:=iE rY.out)|(refine gL 34 14 func34 #[.slice dh aQ.length dw, .int .i64 Nc] ?_;(with_reducible refine(fF.calls k _ _ aQ Nc TL _ (cu (aK oN.out HB.out)) qB.out A8.out).mono ?_);rintro e w21 ⟨rfl,hb⟩;refine⟨_,rfl,?_⟩;replace rY:=kb rY hb;replace HB:=ak (aI bb hb);(try clear hb);obtain⟨IW,LZ,L6,IX,L8,L9⟩:=iE rY.out)|(refine gL 35 20 func35 #[.slice bH aA.length bg, .int .i64 TL] ?_;(with_reducible refine(gY.calls k _ _ aA TL adl _ (cu (aK jF.out HB.out)) lV.out A15.out).mono ?_);rintro e w23 ⟨rfl,hb⟩;refine⟨_,rfl,?_⟩;replace rY:=kb rY hb;replace HB:=ak (aI bb hb);(try clear hb)))
    go_ret;exact⟨er,bb⟩
   ·obtain rfl:=Option.some.inj H;go_enter func14,ntmps14;go_wp2_with (first|(refine bE 2 #[.slice cO aN.length cZ, .slice dh aQ.length dw, .slice bH aA.length bg] 32 ?_;intro amS hg w24 hbox hb;have rY:=ak (hbox);have amT:=mJ HB hg;have amU:=mJ HB hg;replace HB:=bs HB hb;clear hb hbox hg;obtain⟨ap0,ap1,ap2,ap3,ap4,ap5⟩:=iE rY.out)|(refine gL 33 8 func33 #[.slice cO aN.length cZ, .int .i64 a1] ?_;(with_reducible refine(bM.calls k _ _ aN a1 Nc _ (cu (aK lU.out HB.out)) mX.out A3.out).mono ?_);rintro e w26 ⟨rfl,hb⟩;refine⟨_,rfl,?_⟩;replace rY:=kb rY hb;replace HB:=ak (aI bb hb);(try clear hb);obtain⟨aDs,aDt,aDu,aDv,aDw,aDx⟩:=iE rY.out)|(refine gL 34 14 func34 #[.slice dh aQ.length dw, .int .i64 Nc] ?_;(with_reducible refine(fF.calls k _ _ aQ Nc TL _ (cu (aK oN.out HB.out)) qB.out A8.out).mono ?_);rintro e w28 ⟨rfl,hb⟩;refine⟨_,rfl,?_⟩;replace rY:=kb rY hb;replace HB:=ak (aI bb hb);(try clear hb);obtain⟨aDy,aDz,aDA,aDB,aDC,aDD⟩:=iE rY.out)|(refine gL 35 20 func35 #[.slice bH aA.length bg, .int .i64 TL] ?_;(with_reducible refine(gY.calls k _ _ aA TL adl _ (cu (aK jF.out HB.out)) lV.out A15.out).mono ?_);rintro e w30 ⟨rfl,hb⟩;refine⟨_,rfl,?_⟩;replace rY:=kb rY hb;replace HB:=ak (aI bb hb);(try clear hb)))
    go_ret;exact⟨er,bb⟩
def lJ.l0:Nat→List Int→Int→Int→List (iq)→List ByteArray→List (jm)→Option ((List (iq))×List ByteArray×(List (jm))×Bool)
 |0,_,_,_,_,_,_=>none
 |k+1,x12,Zu,x14,ap6,ap7,MH=>if x14<Zu then(if 0≤x14 then(if x14<(x12.length:Int)then(if(rd x12 x14)<0 then(some (([]:List (iq)),([]:List ByteArray),([]:List (jm)),false))else(if(rd x12 x14)≥(MH.length:Int)then(some (([]:List (iq)),([]:List ByteArray),([]:List (jm)),false))else(if 0≤(rd x12 x14)then(if(rd x12 x14)<(MH.length:Int)then(lJ.l0 k x12 Zu (wrap64 (x14+1)) ((aH MH (rd x12 x14)).f0) ((aH MH (rd x12 x14)).f1) ((aH MH (rd x12 x14)).f2))else(none))else(none))))else(none))else(none))else((dR.f k ap6 ap7 MH).bind fun amV=>(some (amV.1,amV.2.1,amV.2.2,true)))
def lJ.f(k:Nat)(aN:List (iq))(aQ:List ByteArray)(aA:List (jm))(l1:List Int):Option ((List (iq))×List ByteArray×(List (jm))×Bool):=(pY.f k aN aQ aA).bind fun ap8=>(if ap8=true then(lJ.l0 k l1 (l1.length:Int) 0 aN aQ aA)else(some (([]:List (iq)),([]:List ByteArray),([]:List (jm)),false)))
set_option maxHeartbeats 8000000 in
set_option maxRecDepth 100000 in
theorem lJ.calls(k:Nat)(EY:Nat→Prop)(cO:Option Addr)(cZ:Nat)(aN:List (iq))(EZ:Nat→Prop)(dh:Option Addr)(dw:Nat)(aQ:List ByteArray)(E_:Nat→Prop)(bH:Option Addr)(bg:Nat)(aA:List (jm))(A1:Option Addr)(c1:Nat)(l1:List Int)(r1:List (iq))(r2:List ByteArray)(r3:List (jm))(r4:Bool)(w:World)(amW:Kd.V lg 63 w w.heap.size (fun k_=>EY k_) (.slice cO aN.length cZ) aN)(amX:Kd.V Kd.string 9 w w.heap.size (fun k_=>EZ k_) (.slice dh aQ.length dw) aQ)(amY:Kd.V k32 32 w w.heap.size (fun k_=>E_ k_) (.slice bH aA.length bg) aA)(hr1:Kd.C (Kd.int .i64) w A1 l1.length l1)(hc1:l1.length≤c1)(wI:MaxOk w)(h:lJ.f k aN aQ aA l1=some (r1,r2,r3,r4)):
  Calls Tryz.prog 9 #[.agg #[.slice cO aN.length cZ, .slice dh aQ.length dw, .slice bH aA.length bg], .slice A1 l1.length c1] w fun e w'=>∃qZ IL Ko:Value,e= .returned (.tuple #[.agg #[qZ,IL,Ko], .bool r4])∧Kd.R lg 63 w' w.heap.size (fun k_=>(w.heap.size≤k_)) qZ r1∧Kd.R Kd.string 9 w' w.heap.size (fun k_=>(w.heap.size≤k_)) IL r2∧Kd.S kA 32 w' w.heap.size (fun k_=>(w.heap.size≤k_)∧some k_≠(qZ:Value).ownBlock∧some k_≠(IL:Value).ownBlock) Ko r3∧Below w.heap.size w w':=by
 have IQ:=underlying32;have qj:=ak (show Kd.V lg 63 w w.heap.size (fun k_=>((EY k_∨EZ k_∨E_ k_)∨w.heap.size≤k_)) (.slice cO aN.length cZ) aN from l9 amW (fun k_ hk=> .inl (.inl hk)));have ql:=ak (show Kd.V Kd.string 9 w w.heap.size (fun k_=>((EY k_∨EZ k_∨E_ k_)∨w.heap.size≤k_)) (.slice dh aQ.length dw) aQ from l9 amX (fun k_ hk=> .inl (.inr (.inl hk))));have qm:=ak (show Kd.V k32 32 w w.heap.size (fun k_=>((EY k_∨EZ k_∨E_ k_)∨w.heap.size≤k_)) (.slice bH aA.length bg) aA from l9 amY (fun k_ hk=> .inl (.inr (.inr hk))));have HR1:=ak hr1;have HC1:=ak hc1;clear hr1 hc1;have HG:=ak wI;clear wI;have HB:=ak (Below.refl w.heap.size w);have H:((pY.f k aN aQ aA).bind fun ap8=>(if ap8=true then(lJ.l0 k l1 (l1.length:Int) 0 aN aQ aA)else(some (([]:List (iq)),([]:List ByteArray),([]:List (jm)),false))))=some (r1,r2,r3,r4):=h;clear h;replace H:=bd H;obtain⟨ap8,A3,H⟩:=H;replace H:=sb H;rcases H with⟨rfl,H⟩|⟨rfl,H⟩
 ·have H':=ak H;clear H;go_enter func9,ntmps9;go_wp2_with (first|(refine fZ (N:=2) rfl ?_;(try(refine dW (by rfl) ?_;dsimp only));refine bE 2 #[.slice cO aN.length cZ, .slice dh aQ.length dw, .slice bH aA.length bg] 32 ?_;intro tZ hg w5 hbox hb;have wG:=ak (hbox);have aA2:=mJ HB hg;have aA3:=mJ HB hg;replace qj:=ak (jV (mF (by(with_reducible repeat(first|apply Kd.f_|apply fP|apply gy));exact qj.out) tZ (Nat.le_of_eq hg.symm)) hb);replace ql:=ak (jV (mF (by(with_reducible repeat(first|apply Kd.f_|apply fP|apply gy));exact ql.out) tZ (Nat.le_of_eq hg.symm)) hb);replace qm:=ak (jV (mF (by(with_reducible repeat(first|apply Kd.f_|apply fP|apply gy));exact qm.out) tZ (Nat.le_of_eq hg.symm)) hb);replace HB:=bs HB hb;clear hb hbox hg)|(refine fZ (N:=4) rfl ?_;(try(refine dW (by rfl) ?_;dsimp only));refine bE 4 #[.slice none 0 0, .slice none 0 0, .slice none 0 0] 32 ?_;intro qH hg w6 hbox hb;have xY:=ak (hbox);have aA4:=ak ((by rw[hg];exact(aj bb):w.heap.size≤qH));have aA5:=ak ((by rw[hg];exact(aj bb):w.heap.size≤qH));have AQ:=ak ((by rw[hg];exact Nat.ne_of_lt (dI (ub wG.out)):tZ≠qH));have vP:=ak ((by rw[hg];exact Nat.ne_of_gt (dI (ub wG.out)):qH≠tZ));replace qj:=ak (jV (mF (by(with_reducible repeat(first|apply Kd.f_|apply fP|apply gy));exact qj.out) qH (Nat.le_of_eq hg.symm)) hb);replace ql:=ak (jV (mF (by(with_reducible repeat(first|apply Kd.f_|apply fP|apply gy));exact ql.out) qH (Nat.le_of_eq hg.symm)) hb);replace qm:=ak (jV (mF (by(with_reducible repeat(first|apply Kd.f_|apply fP|apply gy));exact qm.out) qH (Nat.le_of_eq hg.symm)) hb);replace wG:=kb wG hb;replace HB:=ak (aI bb hb);clear hb hbox hg;have awj:=AQ.out;have awk:=vP.out;obtain⟨Jb,KC,TF,Jc,KD,TG⟩:=iE wG.out)|(refine gL 27 9 func27 #[.agg #[.slice cO aN.length cZ, .slice dh aQ.length dw, .slice bH aA.length bg]] ?_;(with_reducible refine(pY.calls k _ _ aN _ _ aQ _ _ aA true _ ?oG ?qU ?EO ?EP ?ER ?ES ?zq A3.out).mono ?_);(case oG=>repeat(first|exact(iM qj.out).2.2|(with_reducible refine Kd.iP ?_ _)|(with_reducible refine Kd.iQ ?_ _)|(with_reducible refine Kd.jP ?_)));(case qU=>exact(iM qj.out).2.1);(case EO=>repeat(first|exact(iM ql.out).2.2|(with_reducible refine Kd.iP ?_ _)|(with_reducible refine Kd.iQ ?_ _)|(with_reducible refine Kd.jP ?_)));(case EP=>exact(iM ql.out).2.1);(case ER=>repeat(first|exact(iM qm.out).2.2|(with_reducible refine Kd.iP ?_ _)|(with_reducible refine Kd.iQ ?_ _)|(with_reducible refine Kd.jP ?_)));(case ES=>exact(iM qm.out).2.1);(case zq=>first|exact HG.out|exact MaxOk.below HG.out bb|(repeat(first|exact HG.out|apply MaxOk.drewN|apply MaxOk.drew)));rintro e w9 ⟨rfl,hb⟩;refine⟨_,rfl,?_⟩;replace qj:=ak (jV (by(with_reducible repeat(first|apply Kd.f_|apply fP|apply gy));exact qj.out) hb);replace ql:=ak (jV (by(with_reducible repeat(first|apply Kd.f_|apply fP|apply gy));exact ql.out) hb);replace qm:=ak (jV (by(with_reducible repeat(first|apply Kd.f_|apply fP|apply gy));exact qm.out) hb);replace wG:=kb wG hb;replace xY:=kb xY hb;replace HB:=ak (aI bb hb);(try clear hb)))
  go_loopg [14] k (fun kq v14 w'=>∃(oO:Int) (Em:List (iq)) (En:List ByteArray) (je:List (jm)) (V9:Value) (QJ:Value) (abz:Value),v14= .int .i64 oO∧ah (lJ.l0 kq l1 (l1.length:Int) oO Em En je=some (r1,r2,r3,r4))∧ah (kq≤k)∧ah (Kd.V lg 63 w' w.heap.size (fun k_=>((EY k_∨EZ k_∨E_ k_)∨w.heap.size≤k_)∧k_≠tZ∧k_≠qH) V9 Em)∧ah (Kd.V Kd.string 9 w' w.heap.size (fun k_=>((EY k_∨EZ k_∨E_ k_)∨w.heap.size≤k_)∧k_≠tZ∧k_≠qH) QJ En)∧ah (Kd.V k32 32 w' w.heap.size (fun k_=>((EY k_∨EZ k_∨E_ k_)∨w.heap.size≤k_)∧k_≠tZ∧k_≠qH) abz je)∧ah (w'.heap[tZ]? =some (.cells #[V9,QJ,abz] 32 (0,0)))∧ah (w'.heap[qH]? =some (.cells #[(.slice none 0 0),(.slice none 0 0),(.slice none 0 0)] 32 (0,0)))∧ah (Below w.heap.size w w'))
  case atStart=>exact⟨(0),(aN),(aQ),(aA),(.slice cO aN.length cZ),(.slice dh aQ.length dw),(.slice bH aA.length bg),rs,H',⟨Nat.le_refl _⟩,⟨by(with_reducible repeat(first|apply Kd.f_|apply fP|apply gy));exact l9 qj.out (fun _ hk=>⟨hk.1.1,⟨hk.1.2,hk.2⟩⟩)⟩,⟨by(with_reducible repeat(first|apply Kd.f_|apply fP|apply gy));exact l9 ql.out (fun _ hk=>⟨hk.1.1,⟨hk.1.2,hk.2⟩⟩)⟩,⟨by(with_reducible repeat(first|apply Kd.f_|apply fP|apply gy));exact l9 qm.out (fun _ hk=>⟨hk.1.1,⟨hk.1.2,hk.2⟩⟩)⟩,⟨ub wG.out⟩,⟨ub xY.out⟩,⟨bb⟩⟩
  case round=>
   clear H';try clear c1
   try clear c2
   try clear p2
   try clear c4
   try clear c7
   try clear c9
   try clear Jb
   try clear KC
   try clear TF
   try clear Jc
   try clear KD
   try clear TG
   obtain⟨oO,Em,En,je,V9,QJ,abz,rfl,HA,jv,Il,Io,vS,wG,xY,HB⟩:=hrel
   cases gk with
   |zero=>exact absurd HA.out (by simp[lJ.l0])
   |succ k1=>
    have H:=HA.out;clear HA;simp only[lJ.l0]at H;replace H:=sd H;rcases H with⟨rP,H⟩|⟨rP,H⟩
    ·replace H:=oW H;obtain⟨CJ,H⟩:=H;replace H:=oW H;obtain⟨yL,H⟩:=H;replace H:=sd H;rcases H with⟨xU,H⟩|⟨xU,H⟩
     ·simp only[Option.some.injEq,Prod.mk.injEq]at H;obtain⟨rfl,rfl,rfl,rfl⟩:=H;have XH:=zi oO;have XI:=zj oO l1.length;obtain⟨atq,amZ,Gy⟩:=y7 HR1.out oO XH XI;cases amZ;replace Gy:=cl HB.out Gy;replace XH:=eq_true XH;replace XI:=eq_true XI;have aA6:=vP.out;have aA7:=AQ.out;obtain⟨Bd,Bf,VD,Bg,Bh,VE⟩:=iE xY.out;go_wp2;refine bodyPost_ret (lQ rfl _ _ qH 32 #[.slice none 0 0, .slice none 0 0, .slice none 0 0] (0,0) _ rfl (by(with_reducible repeat(first|refine ay ?_ _|refine aC ?_|refine au ?_ _));refine bU (cs:=#[.slice none 0 0, .slice none 0 0, .slice none 0 0]) ?_ 2 _ rfl;(with_reducible repeat(first|refine ay ?_ _|refine aC ?_|refine au ?_ _));refine bU (cs:=#[.slice none 0 0, .slice none 0 0, .slice none 0 0]) ?_ 1 _ rfl;(with_reducible repeat(first|refine ay ?_ _|refine aC ?_|refine au ?_ _));refine bU (cs:=#[.slice none 0 0, .slice none 0 0, .slice none 0 0]) ?_ 0 _ rfl;(with_reducible repeat(first|refine ay ?_ _|refine aC ?_|refine au ?_ _));exact xY.out) underlying32 rfl (by kernel_rfl)) rfl ?_;exact⟨_,_,_,er,nx,nx,by first|exact acU _ _ _ _ _|exact acV _ _ _ _ _|exact acW _ _ _ _ _|exact acX _ _ _ _ _|exact Kw _ _ _ _ _,bb⟩
     ·replace H:=sp H;rcases H with⟨c16,H⟩|⟨c16,H⟩
      ·have EI:decide ((je.length:Int)≤(rd l1 oO))=true:=decide_eq_true c16;clear c16;simp only[Option.some.injEq,Prod.mk.injEq]at H;obtain⟨rfl,rfl,rfl,rfl⟩:=H;have XH:=zi oO;have XI:=zj oO l1.length;obtain⟨atq,amZ,Gy⟩:=y7 HR1.out oO XH XI;cases amZ;replace Gy:=cl HB.out Gy;replace XH:=eq_true XH;replace XI:=eq_true XI;have asF:=AQ.out;have asG:=vP.out;obtain⟨VF,VG,aaQ,VH,VI,aaR⟩:=iE wG.out;obtain⟨aL7,aL8,aGu⟩:=Bv vS.out;subst aGu;obtain⟨P9,P_,Qa,Qb,Qc,Qd⟩:=iE xY.out;go_wp2;refine bodyPost_ret (lQ rfl _ _ qH 32 #[.slice none 0 0, .slice none 0 0, .slice none 0 0] (0,0) _ rfl (by(with_reducible repeat(first|refine ay ?_ _|refine aC ?_|refine au ?_ _));refine bU (cs:=#[.slice none 0 0, .slice none 0 0, .slice none 0 0]) ?_ 2 _ rfl;(with_reducible repeat(first|refine ay ?_ _|refine aC ?_|refine au ?_ _));refine bU (cs:=#[.slice none 0 0, .slice none 0 0, .slice none 0 0]) ?_ 1 _ rfl;(with_reducible repeat(first|refine ay ?_ _|refine aC ?_|refine au ?_ _));refine bU (cs:=#[.slice none 0 0, .slice none 0 0, .slice none 0 0]) ?_ 0 _ rfl;(with_reducible repeat(first|refine ay ?_ _|refine aC ?_|refine au ?_ _));exact xY.out) underlying32 rfl (by kernel_rfl)) rfl ?_;exact⟨_,_,_,er,nx,nx,by first|exact acU _ _ _ _ _|exact acV _ _ _ _ _|exact acW _ _ _ _ _|exact acX _ _ _ _ _|exact Kw _ _ _ _ _,bb⟩
      ·have EI:decide ((je.length:Int)≤(rd l1 oO))=false:=decide_eq_false c16;clear c16;replace H:=oW H;obtain⟨CO,H⟩:=H;replace H:=oW H;obtain⟨JO,H⟩:=H;have H':=ak H;clear H;have XH:=zi oO;have XI:=zj oO l1.length;obtain⟨atq,amZ,Gy⟩:=y7 HR1.out oO XH XI;cases amZ;replace Gy:=cl HB.out Gy;replace XH:=eq_true XH;replace XI:=eq_true XI;have aJB:=AQ.out;have aJC:=vP.out;obtain⟨aaU,aaV,aaW,aaX,aaY,aaZ⟩:=iE wG.out;obtain⟨aAF,amB,amC⟩:=Bv vS.out;subst amC;have ap9:=zi (rd l1 oO);have ap_:=zj (rd l1 oO) je.length;obtain⟨am0,TM,TN,XJ,XK,abA,abB,aGv,aqa,aqb,aqc,ahJ,ahK,ahL,ahM,ahN,ahO⟩:=qY (iM vS.out).2.2 (rd l1 oO) ap9 ap_;cases aGv;obtain⟨aJD,awl,awm,abC⟩:=atr vS.out z32 (rd l1 oO) ap9 (by first|exact ap_|exact of_decide_eq_true (by assumption)|(have e_:=(iM vS.out).1;omega));obtain⟨aDE,aDF,aDG,aDH,aDI,aDJ,rfl,abD,abE,abG,abH,abI,abJ⟩:=Zk awm;have V_:=abC 0 _ rfl;rw[Nat.add_zero]at V_;replace V_:=Option.some.inj (V_.symm.trans aqa);injection V_ with KU XL KW;rw[KU]at abE;rw[KW]at abD;have aqd:=ak (show Kd.V lg 63 _ w.heap.size _ _ ((aH je (rd l1 oO)).f0)from YV abD abE);clear KU XL KW abE abD;have Wh:=abC 1 _ rfl;rw[vJ _ _ 1 (by omega)]at Wh;replace Wh:=Option.some.inj (Wh.symm.trans aqb);injection Wh with KU XL KW;rw[KU]at abH;rw[KW]at abG;have aqe:=ak (show Kd.V Kd.string 9 _ w.heap.size _ _ ((aH je (rd l1 oO)).f1)from YV abG abH);clear KU XL KW abH abG;have Wi:=abC 2 _ rfl;rw[vJ _ _ 2 (by omega)]at Wi;replace Wi:=Option.some.inj (Wi.symm.trans aqc);injection Wi with KU XL KW;rw[KU]at abJ;rw[KW]at abI;have aqf:=ak (show Kd.V k32 32 _ w.heap.size _ _ ((aH je (rd l1 oO)).f2)from YV abI abJ);clear KU XL KW abJ abI abC awl;have aDK:=ak ahK;have aDL:=ak ahJ;clear ahK ahJ;have aDM:=ak ahM;have aDN:=ak ahL;clear ahM ahL;have aDO:=ak ahO;have aDP:=ak ahN;clear ahO ahN;replace ap9:=eq_true ap9;replace ap_:=eq_true ap_;go_wp2;go_roundg k1
       case measure=>have:=jv.out;omega
       case rel=>exact⟨(wrap64 (oO+1)),((aH je (rd l1 oO)).f0),((aH je (rd l1 oO)).f1),((aH je (rd l1 oO)).f2),(.slice TM ((aH je (rd l1 oO)).f0).length TN),(.slice XJ ((aH je (rd l1 oO)).f1).length XK),(.slice abA ((aH je (rd l1 oO)).f2).length abB),rs,H',⟨by have:=jv.out;omega⟩,⟨by(with_reducible repeat(first|apply Kd.f_|apply fP|apply gy));exact l9 (zH (p:=⟨tZ,2,none⟩) (zH (p:=⟨tZ,1,none⟩) (zH (p:=⟨tZ,0,none⟩) (l9 aqd.out (fun k_ hk=>(⟨hk,hk.2.1⟩:_∧k_≠tZ))) (fun _ hk=>hk.2) (.slice TM ((aH je (rd l1 oO)).f0).length TN)) (fun _ hk=>hk.2) (.slice XJ ((aH je (rd l1 oO)).f1).length XK)) (fun _ hk=>hk.2) (.slice abA ((aH je (rd l1 oO)).f2).length abB)) (fun _ hk=>⟨hk.1.1,⟨hk.1.2.1,hk.1.2.2⟩⟩)⟩,⟨by(with_reducible repeat(first|apply Kd.f_|apply fP|apply gy));exact l9 (zH (p:=⟨tZ,2,none⟩) (zH (p:=⟨tZ,1,none⟩) (zH (p:=⟨tZ,0,none⟩) (l9 aqe.out (fun k_ hk=>(⟨hk,hk.2.1⟩:_∧k_≠tZ))) (fun _ hk=>hk.2) (.slice TM ((aH je (rd l1 oO)).f0).length TN)) (fun _ hk=>hk.2) (.slice XJ ((aH je (rd l1 oO)).f1).length XK)) (fun _ hk=>hk.2) (.slice abA ((aH je (rd l1 oO)).f2).length abB)) (fun _ hk=>⟨hk.1.1,⟨hk.1.2.1,hk.1.2.2⟩⟩)⟩,⟨by(with_reducible repeat(first|apply Kd.f_|apply fP|apply gy));exact l9 (zH (p:=⟨tZ,2,none⟩) (zH (p:=⟨tZ,1,none⟩) (zH (p:=⟨tZ,0,none⟩) (l9 aqf.out (fun k_ hk=>(⟨hk,hk.2.1⟩:_∧k_≠tZ))) (fun _ hk=>hk.2) (.slice TM ((aH je (rd l1 oO)).f0).length TN)) (fun _ hk=>hk.2) (.slice XJ ((aH je (rd l1 oO)).f1).length XK)) (fun _ hk=>hk.2) (.slice abA ((aH je (rd l1 oO)).f2).length abB)) (fun _ hk=>⟨hk.1.1,⟨hk.1.2.1,hk.1.2.2⟩⟩)⟩,⟨by(with_reducible repeat(first|refine ay ?_ _|refine aC ?_|refine au ?_ _));refine bU (cs:=#[.slice TM ((aH je (rd l1 oO)).f0).length TN, .slice XJ ((aH je (rd l1 oO)).f1).length XK, .slice (some am0) je.length amB]) ?_ 2 _ rfl;(with_reducible repeat(first|refine ay ?_ _|refine aC ?_|refine au ?_ _));refine bU (cs:=#[.slice TM ((aH je (rd l1 oO)).f0).length TN,QJ, .slice (some am0) je.length amB]) ?_ 1 _ rfl;(with_reducible repeat(first|refine ay ?_ _|refine aC ?_|refine au ?_ _));refine bU (cs:=#[V9,QJ, .slice (some am0) je.length amB]) ?_ 0 _ rfl;(with_reducible repeat(first|refine ay ?_ _|refine aC ?_|refine au ?_ _));exact wG.out⟩,⟨by(with_reducible repeat(first|refine ay ?_ _|refine aC ?_|refine au ?_ _));refine fJ ?_ vP.out _;(with_reducible repeat(first|refine ay ?_ _|refine aC ?_|refine au ?_ _));refine fJ ?_ vP.out _;(with_reducible repeat(first|refine ay ?_ _|refine aC ?_|refine au ?_ _));refine fJ ?_ vP.out _;(with_reducible repeat(first|refine ay ?_ _|refine aC ?_|refine au ?_ _));exact xY.out⟩,⟨bb⟩⟩
    ·replace H:=bd H;obtain⟨⟨aff,ajt,am1⟩,A26,H⟩:=H
     (try dsimp only at H);simp only[Option.some.injEq,Prod.mk.injEq]at H;obtain⟨rfl,rfl,rfl,rfl⟩:=H;have alp:=AQ.out;have alq:=vP.out;obtain⟨abe,ag5,ag6,abf,ag7,ag8⟩:=iE wG.out;obtain⟨aA8,aA9,aGw⟩:=Bv Il.out;subst aGw;obtain⟨avk,avl,avm⟩:=Bv Io.out;subst avm;obtain⟨aA_,aBa,aGx⟩:=Bv vS.out;subst aGx;go_wp2_with (first|(refine gL 28 35 func28 #[.agg #[.slice aA8 Em.length aA9, .slice avk En.length avl, .slice aA_ je.length aBa]] ?_;(with_reducible refine(dR.calls k1 _ _ Em _ _ En _ _ je aff ajt am1 _ (cu ((iM Il.out).2.2)) ((iM Il.out).2.1) (cu ((iM Io.out).2.2)) ((iM Io.out).2.1) (cu ((iM vS.out).2.2)) ((iM vS.out).2.1) A26.out).mono ?_);rintro e w32 ⟨aL9,aL_,aMa,rfl,ho0,ho1,ho2,hb⟩;refine⟨_,rfl,?_⟩;have att:=ak (bP (XM (M:=fun k_=>(w.heap.size≤k_)) ho0 (aj bb) (fun k_ h_=>h_)) (aj bb));have atu:=ak (bP (XM (M:=fun k_=>(w.heap.size≤k_)) ho1 (aj bb) (fun k_ h_=>h_)) (aj bb));have atv:=ak (IK (Tz (Tz (awn (M:=fun k_=>(w.heap.size≤k_)) ho2 (aj bb) (fun k_ h_=>h_)) (g:=tZ) (o:= .cells #[.slice aA8 Em.length aA9, .slice avk En.length avl, .slice aA_ je.length aBa] 32 (0,0)) (ub wG.out)) (g:=qH) (o:= .cells #[.slice none 0 0, .slice none 0 0, .slice none 0 0] 32 (0,0)) (ub xY.out)) (aj bb));replace Il:=ak (l9 (vY (vY (vY (ZI (by(with_reducible repeat(first|apply Kd.f_|apply fP|apply gy));exact Il.out) hb) (jf ho0)) (jf ho1)) (aa9 ho2)) (fun _ h_=>h_.1));replace Io:=ak (l9 (vY (vY (vY (ZI (by(with_reducible repeat(first|apply Kd.f_|apply fP|apply gy));exact Io.out) hb) (jf ho0)) (jf ho1)) (aa9 ho2)) (fun _ h_=>h_.1));replace vS:=ak (l9 (vY (vY (vY (ZI (by(with_reducible repeat(first|apply Kd.f_|apply fP|apply gy));exact vS.out) hb) (jf ho0)) (jf ho1)) (aa9 ho2)) (fun _ h_=>h_.1));replace wG:=kb wG hb;replace xY:=kb xY hb;replace HB:=ak (aI bb hb);(try clear hb);(try clear ho0);(try clear ho1);(try clear ho2);obtain⟨Xm,Xn,ajh⟩:=bG att.out;subst ajh;obtain⟨ahz,ahA,ahB,ahC,ahD,ahE⟩:=iE xY.out;obtain⟨Xe,Xf,aeB⟩:=bG atu.out;subst aeB;obtain⟨TA,TB,acZ⟩:=Df atv.out;subst acZ))
     refine bodyPost_ret (lQ rfl _ _ qH 32 #[.slice Xm aff.length Xn, .slice Xe ajt.length Xf, .slice TA am1.length TB] (0,0) _ rfl (by(with_reducible repeat(first|refine ay ?_ _|refine aC ?_|refine au ?_ _));refine bU (cs:=#[.slice Xm aff.length Xn, .slice Xe ajt.length Xf, .slice none 0 0]) ?_ 2 _ rfl;(with_reducible repeat(first|refine ay ?_ _|refine aC ?_|refine au ?_ _));refine bU (cs:=#[.slice Xm aff.length Xn, .slice none 0 0, .slice none 0 0]) ?_ 1 _ rfl;(with_reducible repeat(first|refine ay ?_ _|refine aC ?_|refine au ?_ _));refine bU (cs:=#[.slice none 0 0, .slice none 0 0, .slice none 0 0]) ?_ 0 _ rfl;(with_reducible repeat(first|refine ay ?_ _|refine aC ?_|refine au ?_ _));exact xY.out) underlying32 rfl (by kernel_rfl)) rfl ?_;exact⟨_,_,_,er,ur (aY (bK (p:=⟨qH,2,none⟩) (bK (p:=⟨qH,1,none⟩) (bK (p:=⟨qH,0,none⟩) (eP att.out xY.out (by decide)) (fun _ hk=>hk.2) (.slice Xm aff.length Xn)) (fun _ hk=>hk.2) (.slice Xe ajt.length Xf)) (fun _ hk=>hk.2) (.slice TA am1.length TB)) (fun _ hk=>hk.1.1)),ur (aY (bK (p:=⟨qH,2,none⟩) (bK (p:=⟨qH,1,none⟩) (bK (p:=⟨qH,0,none⟩) (eP atu.out xY.out (by decide)) (fun _ hk=>hk.2) (.slice Xm aff.length Xn)) (fun _ hk=>hk.2) (.slice Xe ajt.length Xf)) (fun _ hk=>hk.2) (.slice TA am1.length TB)) (fun _ hk=>hk.1.1)),by(with_reducible repeat(first|apply Kd.nK|apply Kd.nM|apply pG));exact oz (CS (p:=⟨qH,2,none⟩) (CS (p:=⟨qH,1,none⟩) (CS (p:=⟨qH,0,none⟩) (oz atv.out (fun k_ hk=>(⟨hk,hk.2⟩:_∧k_≠qH))) (fun _ hk=>hk.2) (.slice Xm aff.length Xn)) (fun _ hk=>hk.2) (.slice Xe ajt.length Xf)) (fun _ hk=>hk.2) (.slice TA am1.length TB)) (fun _ hk=>⟨hk.1.1.1.1,⟨hk.1.1.1.2.1,hk.1.1.1.2.2⟩⟩),bb⟩
 ·simp only[Option.some.injEq,Prod.mk.injEq]at H;obtain⟨rfl,rfl,rfl,rfl⟩:=H;go_enter func9,ntmps9;go_wp2_with (first|(refine fZ (N:=2) rfl ?_;(try(refine dW (by rfl) ?_;dsimp only));refine bE 2 #[.slice cO aN.length cZ, .slice dh aQ.length dw, .slice bH aA.length bg] 32 ?_;intro tZ hg w37 hbox hb;have wG:=ak (hbox);have aA2:=mJ HB hg;have aA3:=mJ HB hg;replace qj:=ak (jV (mF (by(with_reducible repeat(first|apply Kd.f_|apply fP|apply gy));exact qj.out) tZ (Nat.le_of_eq hg.symm)) hb);replace ql:=ak (jV (mF (by(with_reducible repeat(first|apply Kd.f_|apply fP|apply gy));exact ql.out) tZ (Nat.le_of_eq hg.symm)) hb);replace qm:=ak (jV (mF (by(with_reducible repeat(first|apply Kd.f_|apply fP|apply gy));exact qm.out) tZ (Nat.le_of_eq hg.symm)) hb);replace HB:=bs HB hb;clear hb hbox hg)|(refine fZ (N:=4) rfl ?_;(try(refine dW (by rfl) ?_;dsimp only));refine bE 4 #[.slice none 0 0, .slice none 0 0, .slice none 0 0] 32 ?_;intro qH hg w38 hbox hb;have xY:=ak (hbox);have aA4:=ak ((by rw[hg];exact(aj bb):w.heap.size≤qH));have aA5:=ak ((by rw[hg];exact(aj bb):w.heap.size≤qH));have AQ:=ak ((by rw[hg];exact Nat.ne_of_lt (dI (ub wG.out)):tZ≠qH));have vP:=ak ((by rw[hg];exact Nat.ne_of_gt (dI (ub wG.out)):qH≠tZ));replace qj:=ak (jV (mF (by(with_reducible repeat(first|apply Kd.f_|apply fP|apply gy));exact qj.out) qH (Nat.le_of_eq hg.symm)) hb);replace ql:=ak (jV (mF (by(with_reducible repeat(first|apply Kd.f_|apply fP|apply gy));exact ql.out) qH (Nat.le_of_eq hg.symm)) hb);replace qm:=ak (jV (mF (by(with_reducible repeat(first|apply Kd.f_|apply fP|apply gy));exact qm.out) qH (Nat.le_of_eq hg.symm)) hb);replace wG:=kb wG hb;replace HB:=ak (aI bb hb);clear hb hbox hg;have ayK:=AQ.out;have ayL:=vP.out;obtain⟨aDQ,aDR,aDS,aDT,aDU,aDV⟩:=iE wG.out)|(refine gL 27 9 func27 #[.agg #[.slice cO aN.length cZ, .slice dh aQ.length dw, .slice bH aA.length bg]] ?_;(with_reducible refine(pY.calls k _ _ aN _ _ aQ _ _ aA false _ ?oG ?qU ?EO ?EP ?ER ?ES ?zq A3.out).mono ?_);(case oG=>repeat(first|exact(iM qj.out).2.2|(with_reducible refine Kd.iP ?_ _)|(with_reducible refine Kd.iQ ?_ _)|(with_reducible refine Kd.jP ?_)));(case qU=>exact(iM qj.out).2.1);(case EO=>repeat(first|exact(iM ql.out).2.2|(with_reducible refine Kd.iP ?_ _)|(with_reducible refine Kd.iQ ?_ _)|(with_reducible refine Kd.jP ?_)));(case EP=>exact(iM ql.out).2.1);(case ER=>repeat(first|exact(iM qm.out).2.2|(with_reducible refine Kd.iP ?_ _)|(with_reducible refine Kd.iQ ?_ _)|(with_reducible refine Kd.jP ?_)));(case ES=>exact(iM qm.out).2.1);(case zq=>first|exact HG.out|exact MaxOk.below HG.out bb|(repeat(first|exact HG.out|apply MaxOk.drewN|apply MaxOk.drew)));rintro e w41 ⟨rfl,hb⟩;refine⟨_,rfl,?_⟩;replace qj:=ak (jV (by(with_reducible repeat(first|apply Kd.f_|apply fP|apply gy));exact qj.out) hb);replace ql:=ak (jV (by(with_reducible repeat(first|apply Kd.f_|apply fP|apply gy));exact ql.out) hb);replace qm:=ak (jV (by(with_reducible repeat(first|apply Kd.f_|apply fP|apply gy));exact qm.out) hb);replace wG:=kb wG hb;replace xY:=kb xY hb;replace HB:=ak (aI bb hb);(try clear hb);obtain⟨agV,agW,agX,agY,agZ,ag0⟩:=iE xY.out))
  refine bodyPost_ret (lQ rfl _ _ qH 32 #[.slice none 0 0, .slice none 0 0, .slice none 0 0] (0,0) _ rfl (by(with_reducible repeat(first|refine ay ?_ _|refine aC ?_|refine au ?_ _));refine bU (cs:=#[.slice none 0 0, .slice none 0 0, .slice none 0 0]) ?_ 2 _ rfl;(with_reducible repeat(first|refine ay ?_ _|refine aC ?_|refine au ?_ _));refine bU (cs:=#[.slice none 0 0, .slice none 0 0, .slice none 0 0]) ?_ 1 _ rfl;(with_reducible repeat(first|refine ay ?_ _|refine aC ?_|refine au ?_ _));refine bU (cs:=#[.slice none 0 0, .slice none 0 0, .slice none 0 0]) ?_ 0 _ rfl;(with_reducible repeat(first|refine ay ?_ _|refine aC ?_|refine au ?_ _));exact xY.out) underlying32 rfl (by kernel_rfl)) rfl ?_;exact⟨_,_,_,er,nx,nx,by first|exact acU _ _ _ _ _|exact acV _ _ _ _ _|exact acW _ _ _ _ _|exact acX _ _ _ _ _|exact Kw _ _ _ _ _,bb⟩
def iO.l0:Nat→List ByteArray→List ByteArray→Int→Option (Bool)
 |0,_,_,_=>none
 |k+1,x0,x1,x5=>if x5<(x0.length:Int)then(if 0≤x5 then(if x5<(x1.length:Int)then(if(o8 ByteArray.empty x0 x5).toList=(o8 ByteArray.empty x1 x5).toList then(iO.l0 k x0 x1 (wrap64 (x5+1)))else(some false))else(none))else(none))else(some true)
def iO.f(k:Nat)(l0:List ByteArray)(l1:List ByteArray):Option (Bool):=if(l0.length:Int)=(l1.length:Int)then(iO.l0 k l0 l1 0)else(some false)
set_option maxHeartbeats 8000000 in
set_option maxRecDepth 100000 in
theorem iO.calls(k:Nat)(A0:Option Addr)(c0:Nat)(l0:List ByteArray)(A1:Option Addr)(c1:Nat)(l1:List ByteArray)(r:Bool)(w:World)(hr0:Kd.C Kd.string w A0 l0.length l0)(hc0:l0.length≤c0)(hr1:Kd.C Kd.string w A1 l1.length l1)(hc1:l1.length≤c1)(h:iO.f k l0 l1=some r):
  Calls Tryz.prog 19 #[.slice A0 l0.length c0, .slice A1 l1.length c1] w fun e w'=>e= .returned (.bool r)∧fK w w':=by
 have HR0:=ak hr0;have yx:=ak hc0;clear hr0 hc0;have HR1:=ak hr1;have HC1:=ak hc1;clear hr1 hc1;have H:(if(l0.length:Int)=(l1.length:Int)then(iO.l0 k l0 l1 0)else(some false))=some r:=h;clear h;replace H:=sp H;rcases H with⟨c3,H⟩|⟨c3,H⟩
 ·have gQ:=beq_iff_eq.mpr c3;have rC:=bne_eq_false_iff_eq.mpr c3;have N8:(l0.length==l1.length)=true:=by first|simpa using c3|(simp at c3⊢;omega)
  clear c3;have H':=ak H;clear H;go_enter func19,ntmps19;go_wp2;repeat(go_quiet (fail);try go_wp2)
  go_loopg [5] k (fun kq v5 w'=>∃(aJ:Int),v5= .int .i64 aJ∧ah (iO.l0 kq l0 l1 aJ=some r)∧ah (kq≤k)∧fK w w')
  case atStart=>exact⟨(0),rs,H',⟨Nat.le_refl _⟩,dn⟩
  case round=>
   clear H';try clear c1
   try clear p2
   try clear c3
   try clear gQ
   try clear rC
   try clear N8
   obtain⟨aJ,rfl,HA,jv,⟨m1,rfl⟩⟩:=hrel
   cases gk with
   |zero=>exact absurd HA.out (by simp[iO.l0])
   |succ k1=>
    have H:=HA.out;clear HA;simp only[iO.l0]at H;replace H:=sd H;rcases H with⟨oM,H⟩|⟨oM,H⟩
    ·replace H:=oW H;obtain⟨sH,H⟩:=H;replace H:=oW H;obtain⟨oC,H⟩:=H;replace H:=sq H;rcases H with⟨rU,NZ,H⟩|⟨c7,rU,NZ,H⟩
     ·have H':=ak H;clear H;have afg:=zi aJ;have afh:=zj aJ l0.length;obtain⟨aBb,awo,aqg⟩:=kV HR0.out aJ afg afh;cases awo;replace afg:=eq_true afg;replace afh:=eq_true afh;have afi:=zi aJ;have afj:=zj aJ l1.length;obtain⟨aBd,awp,aqh⟩:=kV HR1.out aJ afi afj;cases awp;replace afi:=eq_true afi;replace afj:=eq_true afj;go_wp2;repeat(go_quiet (fail);try go_wp2)
      go_roundg k1
      case measure=>have:=jv.out;omega
      case rel=>exact⟨(wrap64 (aJ+1)),rs,H',⟨by have:=jv.out;omega⟩,dn⟩
     ·obtain rfl:=Option.some.inj H;have afg:=zi aJ;have afh:=zj aJ l0.length;obtain⟨aBb,awo,aqg⟩:=kV HR0.out aJ afg afh;cases awo;replace afg:=eq_true afg;replace afh:=eq_true afh;have afi:=zi aJ;have afj:=zj aJ l1.length;obtain⟨aBd,awp,aqh⟩:=kV HR1.out aJ afi afj;cases awp;replace afi:=eq_true afi;replace afj:=eq_true afj;go_wp2;repeat(go_quiet (fail);try go_wp2)
      go_ret;exact⟨rs,dn⟩
    ·obtain rfl:=Option.some.inj H;go_wp2;repeat(go_quiet (fail);try go_wp2)
     go_ret;exact⟨rs,dn⟩
 ·have gQ:=beq_eq_false_iff_ne.mpr c3;have rC:=bne_iff_ne.mpr c3;have N8:(l0.length==l1.length)=false:=by first|simpa using c3|(simp at c3⊢;omega)
  obtain rfl:=Option.some.inj H;go_enter func19,ntmps19;go_wp2;repeat(go_quiet (fail);try go_wp2)
  go_ret;exact⟨rs,dn⟩
def xC.f(bn:ByteArray)(bI:ByteArray)(wM:ByteArray)(adn:ByteArray):Option (Bool):=if bn.toList=wM.toList then(if bI.toList=adn.toList then(some true)else(some false))else(some false)
set_option maxHeartbeats 8000000 in
set_option maxRecDepth 100000 in
theorem xC.calls(bn:ByteArray)(bI:ByteArray)(wM:ByteArray)(adn:ByteArray)(r:Bool)(w:World)(h:xC.f bn bI wM adn=some r):
  Calls Tryz.prog 47 #[.agg #[.string bn, .string bI], .agg #[.string wM, .string adn]] w fun e w'=>e= .returned (.bool r)∧Below w.heap.size w w':=by
 have I5:=underlying63;have HB:=ak (Below.refl w.heap.size w);have H:(if bn.toList=wM.toList then(if bI.toList=adn.toList then(some true)else(some false))else(some false))=some r:=h;clear h;replace H:=sq H;rcases H with⟨gQ,rC,H⟩|⟨c3,gQ,rC,H⟩
 ·replace H:=sq H;rcases H with⟨oM,WV,H⟩|⟨c4,oM,WV,H⟩
  ·obtain rfl:=Option.some.inj H;go_enter func47,ntmps47;go_wp2_with (first|(refine bE 2 #[.string bn, .string bI] 63 ?_;intro UM hg w5 hbox hb;have BU:=ak (hbox);have atw:=mJ HB hg;have atx:=mJ HB hg;replace HB:=bs HB hb;clear hb hbox hg)|(refine bE 3 #[.string wM, .string adn] 63 ?_;intro Gz hg w6 hbox hb;have ado:=ak (hbox);have aty:=ak ((by rw[hg];exact(aj bb):w.heap.size≤Gz));have atz:=ak ((by rw[hg];exact(aj bb):w.heap.size≤Gz));have Ip:=ak ((by rw[hg];exact Nat.ne_of_lt (dI (ub BU.out)):UM≠Gz));have Iq:=ak ((by rw[hg];exact Nat.ne_of_gt (dI (ub BU.out)):Gz≠UM));replace BU:=kb BU hb;replace HB:=ak (aI bb hb);clear hb hbox hg;have awj:=Ip.out;have awk:=Iq.out;obtain⟨Jb,KC,Jc,KD⟩:=AA BU.out;obtain⟨I7,I8,I9,I_⟩:=AA ado.out))
   go_ret;exact⟨er,bb⟩
  ·obtain rfl:=Option.some.inj H;go_enter func47,ntmps47;go_wp2_with (first|(refine bE 2 #[.string bn, .string bI] 63 ?_;intro UM hg w10 hbox hb;have BU:=ak (hbox);have atw:=mJ HB hg;have atx:=mJ HB hg;replace HB:=bs HB hb;clear hb hbox hg)|(refine bE 3 #[.string wM, .string adn] 63 ?_;intro Gz hg xk hbox hb;have ado:=ak (hbox);have aty:=ak ((by rw[hg];exact(aj bb):w.heap.size≤Gz));have atz:=ak ((by rw[hg];exact(aj bb):w.heap.size≤Gz));have Ip:=ak ((by rw[hg];exact Nat.ne_of_lt (dI (ub BU.out)):UM≠Gz));have Iq:=ak ((by rw[hg];exact Nat.ne_of_gt (dI (ub BU.out)):Gz≠UM));replace BU:=kb BU hb;replace HB:=ak (aI bb hb);clear hb hbox hg;have aBe:=Ip.out;have aBf:=Iq.out;obtain⟨yS,yT,yU,yV⟩:=AA BU.out;obtain⟨aaL,aaM,aaN,aaO⟩:=AA ado.out))
   go_ret;exact⟨er,bb⟩
 ·obtain rfl:=Option.some.inj H;go_enter func47,ntmps47;go_wp2_with (first|(refine bE 2 #[.string bn, .string bI] 63 ?_;intro UM hg YU hbox hb;have BU:=ak (hbox);have atw:=mJ HB hg;have atx:=mJ HB hg;replace HB:=bs HB hb;clear hb hbox hg)|(refine bE 3 #[.string wM, .string adn] 63 ?_;intro Gz hg w16 hbox hb;have ado:=ak (hbox);have aty:=ak ((by rw[hg];exact(aj bb):w.heap.size≤Gz));have atz:=ak ((by rw[hg];exact(aj bb):w.heap.size≤Gz));have Ip:=ak ((by rw[hg];exact Nat.ne_of_lt (dI (ub BU.out)):UM≠Gz));have Iq:=ak ((by rw[hg];exact Nat.ne_of_gt (dI (ub BU.out)):Gz≠UM));replace BU:=kb BU hb;replace HB:=ak (aI bb hb);clear hb hbox hg;have asF:=Ip.out;have asG:=Iq.out;obtain⟨VF,VG,VH,VI⟩:=AA BU.out;obtain⟨Vy,Vz,VA,VB⟩:=AA ado.out))
  go_ret;exact⟨er,bb⟩
def fM.l0:Nat→List (iq)→List (iq)→Int→Option (Bool)
 |0,_,_,_=>none
 |k+1,x0,x1,x5=>if x5<(x0.length:Int)then(if 0≤x5 then(if x5<(x1.length:Int)then((xC.f ((aT x0 x5).f0) ((aT x0 x5).f1) ((aT x1 x5).f0) ((aT x1 x5).f1)).bind fun aBg=>(if aBg=true then(fM.l0 k x0 x1 (wrap64 (x5+1)))else(some false)))else(none))else(none))else(some true)
def fM.f(k:Nat)(l0:List (iq))(l1:List (iq)):Option (Bool):=if(l0.length:Int)=(l1.length:Int)then(fM.l0 k l0 l1 0)else(some false)
def fM.T6:Bool×List (List Nat×List Nat):=(true,[([],[]),([],[]),([0,1],[0,1]),([2],[2]),([],[]),([],[]),([4,5],[4,5]),([6],[6]),([3,7],[3,7]),([8],[8])])
def fM.B6:List Nat:=[0,0,3,7,0,0,48,112,255,511]
theorem fM.tab6:xu .any (opsOf Tryz.f29 6)=fM.T6:=by kernel_rfl
theorem fM.atA:uf fM.T6.2 fM.B6=true:=by kernel_rfl
set_option maxHeartbeats 8000000 in
set_option maxRecDepth 100000 in
theorem fM.calls(k:Nat)(A0:Option Addr)(c0:Nat)(l0:List (iq))(A1:Option Addr)(c1:Nat)(l1:List (iq))(r:Bool)(w:World)(hr0:Kd.C lg w A0 l0.length l0)(hc0:l0.length≤c0)(hr1:Kd.C lg w A1 l1.length l1)(hc1:l1.length≤c1)(h:fM.f k l0 l1=some r):
  Calls Tryz.prog 29 #[.slice A0 l0.length c0, .slice A1 l1.length c1] w fun e w'=>e= .returned (.bool r)∧Below w.heap.size w w':=by
 have I5:=underlying63;have HR0:=ak hr0;have yx:=ak hc0;clear hr0 hc0;have HR1:=ak hr1;have HC1:=ak hc1;clear hr1 hc1;have HB:=ak (Below.refl w.heap.size w);have H:(if(l0.length:Int)=(l1.length:Int)then(fM.l0 k l0 l1 0)else(some false))=some r:=h;clear h;replace H:=sp H;rcases H with⟨c3,H⟩|⟨c3,H⟩
 ·have gQ:=beq_iff_eq.mpr c3;have rC:=bne_eq_false_iff_eq.mpr c3;have N8:(l0.length==l1.length)=true:=by first|simpa using c3|(simp at c3⊢;omega)
  clear c3;have H':=ak H;clear H;go_enter func29,ntmps29;go_wp2;go_loopg [5] k (fun kq v5 w'=>∃(aJ:Int),v5= .int .i64 aJ∧ah (fM.l0 kq l0 l1 aJ=some r)∧ah (kq≤k)∧ah (Below w.heap.size w w'))
  case atStart=>exact⟨(0),rs,H',⟨Nat.le_refl _⟩,⟨ul HB.out⟩⟩
  case round=>
   clear H';try clear c1
   try clear c2
   try clear p2
   try clear c3
   try clear gQ
   try clear rC
   try clear N8
   obtain⟨aJ,rfl,HA,jv,HB⟩:=hrel
   cases gk with
   |zero=>exact absurd HA.out (by simp[fM.l0])
   |succ k1=>
    have H:=HA.out;clear HA;simp only[fM.l0]at H;replace H:=sd H;rcases H with⟨oM,H⟩|⟨oM,H⟩
    ·replace H:=oW H;obtain⟨sH,H⟩:=H;replace H:=oW H;obtain⟨oC,H⟩:=H;replace H:=bd H;obtain⟨aBg,A7,H⟩:=H;replace H:=sb H;rcases H with⟨rfl,H⟩|⟨rfl,H⟩
     ·have H':=ak H;clear H;try go_wp2
      replace HB:=ak (fO HB.out);have afk:=zi aJ;have afl:=zj aJ l0.length;obtain⟨XO,awq,Du,Dv⟩:=ou HR0.out aJ afk afl;have Dw:=Dv;have Dx:=Du;cases awq;replace Du:=cl HB.out Du;replace Dv:=cl HB.out Dv;replace afk:=eq_true afk;replace afl:=eq_true afl;have afm:=zi aJ;have afn:=zj aJ l1.length;obtain⟨XP,awr,Dy,Dz⟩:=ou HR1.out aJ afm afn;have DC:=Dz;have DF:=Dy;cases awr;replace Dy:=cl HB.out Dy;replace Dz:=cl HB.out Dz;replace afm:=eq_true afm;replace afn:=eq_true afn;refine ro [8] [0,1,2,4,5,6,3,7,8,9] (fun w'=>w'.cell? (XO.add ((aJ).toNat*2))=some (.string ((aT l0 aJ).f0))∧w'.cell? ⟨(XO.add ((aJ).toNat*2)).block,(XO.add ((aJ).toNat*2)).off+1,none⟩=some (.string ((aT l0 aJ).f1))∧w'.cell? (XP.add ((aJ).toNat*2))=some (.string ((aT l1 aJ).f0))∧w'.cell? ⟨(XP.add ((aJ).toNat*2)).block,(XP.add ((aJ).toNat*2)).off+1,none⟩=some (.string ((aT l1 aJ).f1))) ⟨((HB.out.cell (World.block_lt_of_cell? w _ Dx)).trans Dx),((HB.out.cell (World.block_lt_of_cell? w _ Dw)).trans Dw),((HB.out.cell (World.block_lt_of_cell? w _ DF)).trans DF),((HB.out.cell (World.block_lt_of_cell? w _ DC)).trans DC)⟩ ?_
      generalize wr.drew=w9 at HB Du Dv Dy Dz⊢
      repeat(refine lk (v:=?_) (a':=?_) (gk.trans rfl) rfl rfl ?_ ?_ ?_;rotate_left;(focus (rintro w' ⟨s0,s1,s2,s3⟩;go_simp;with_reducible rfl));rotate_left;(focus (simp only[Act.put,jB,jC,l_c,bJ,b_];rfl)))
      refine ld (N:=some 25) (gk.trans rfl) rfl rfl (fun K hK=>?_);refine vG func47 (by kernel_rfl) rfl #[.agg #[.string ((aT l0 aJ).f0), .string ((aT l0 aJ).f1)], .agg #[.string ((aT l1 aJ).f0), .string ((aT l1 aJ).f1)]] (by rfl) rfl rfl ma ?_
      with_reducible refine(xC.calls ((aT l0 aJ).f0) ((aT l0 aJ).f1) ((aT l1 aJ).f0) ((aT l1 aJ).f1) true _ A7.out).mono ?_
      rintro e w10 ⟨rfl,hb⟩;refine⟨_,rfl,?_⟩;replace HB:=bs HB hb
      (try clear hb);refine hK.out _ _ ⟨((HB.out.cell (World.block_lt_of_cell? w _ Dx)).trans Dx),((HB.out.cell (World.block_lt_of_cell? w _ Dw)).trans Dw),((HB.out.cell (World.block_lt_of_cell? w _ DF)).trans DF),((HB.out.cell (World.block_lt_of_cell? w _ DC)).trans DC)⟩ ?_;clear hK K;refine no (a':=?_) ?_ ?_
      rotate_left
      ·show Act.put _ (some 25) _=_
       simp only[Act.put,jB,jC,l_c,bJ,b_];rfl
      repeat(refine lk (v:=?_) (a':=?_) (gk.trans rfl) rfl rfl ?_ ?_ ?_;rotate_left;(focus (rintro w' ⟨s0,s1,s2,s3⟩;go_simp;with_reducible rfl));rotate_left;(focus (simp only[Act.put,jB,jC,l_c,bJ,b_];rfl)))
      refine on ?_;try go_wp2
      go_roundg k1
      case measure=>have:=jv.out;omega
      case rel=>exact⟨(wrap64 (aJ+1)),rs,H',⟨by have:=jv.out;omega⟩,⟨ul HB.out⟩⟩
     ·obtain rfl:=Option.some.inj H;try go_wp2
      replace HB:=ak (fO HB.out);have afk:=zi aJ;have afl:=zj aJ l0.length;obtain⟨XO,awq,Du,Dv⟩:=ou HR0.out aJ afk afl;have Dw:=Dv;have Dx:=Du;cases awq;replace Du:=cl HB.out Du;replace Dv:=cl HB.out Dv;replace afk:=eq_true afk;replace afl:=eq_true afl;have afm:=zi aJ;have afn:=zj aJ l1.length;obtain⟨XP,awr,Dy,Dz⟩:=ou HR1.out aJ afm afn;have DC:=Dz;have DF:=Dy;cases awr;replace Dy:=cl HB.out Dy;replace Dz:=cl HB.out Dz;replace afm:=eq_true afm;replace afn:=eq_true afn;refine ro [8] [0,1,2,4,5,6,3,7,8,9] (fun w'=>w'.cell? (XO.add ((aJ).toNat*2))=some (.string ((aT l0 aJ).f0))∧w'.cell? ⟨(XO.add ((aJ).toNat*2)).block,(XO.add ((aJ).toNat*2)).off+1,none⟩=some (.string ((aT l0 aJ).f1))∧w'.cell? (XP.add ((aJ).toNat*2))=some (.string ((aT l1 aJ).f0))∧w'.cell? ⟨(XP.add ((aJ).toNat*2)).block,(XP.add ((aJ).toNat*2)).off+1,none⟩=some (.string ((aT l1 aJ).f1))) ⟨((HB.out.cell (World.block_lt_of_cell? w _ Dx)).trans Dx),((HB.out.cell (World.block_lt_of_cell? w _ Dw)).trans Dw),((HB.out.cell (World.block_lt_of_cell? w _ DF)).trans DF),((HB.out.cell (World.block_lt_of_cell? w _ DC)).trans DC)⟩ ?_
      generalize wr.drew=xk at HB Du Dv Dy Dz⊢
      repeat(refine lk (v:=?_) (a':=?_) (gk.trans rfl) rfl rfl ?_ ?_ ?_;rotate_left;(focus (rintro w' ⟨s0,s1,s2,s3⟩;go_simp;with_reducible rfl));rotate_left;(focus (simp only[Act.put,jB,jC,l_c,bJ,b_];rfl)))
      refine ld (N:=some 25) (gk.trans rfl) rfl rfl (fun K hK=>?_);refine vG func47 (by kernel_rfl) rfl #[.agg #[.string ((aT l0 aJ).f0), .string ((aT l0 aJ).f1)], .agg #[.string ((aT l1 aJ).f0), .string ((aT l1 aJ).f1)]] (by rfl) rfl rfl ma ?_
      with_reducible refine(xC.calls ((aT l0 aJ).f0) ((aT l0 aJ).f1) ((aT l1 aJ).f0) ((aT l1 aJ).f1) false _ A7.out).mono ?_
      rintro e w12 ⟨rfl,hb⟩;refine⟨_,rfl,?_⟩;replace HB:=bs HB hb
      (try clear hb);refine hK.out _ _ ⟨((HB.out.cell (World.block_lt_of_cell? w _ Dx)).trans Dx),((HB.out.cell (World.block_lt_of_cell? w _ Dw)).trans Dw),((HB.out.cell (World.block_lt_of_cell? w _ DF)).trans DF),((HB.out.cell (World.block_lt_of_cell? w _ DC)).trans DC)⟩ ?_;clear hK K;refine no (a':=?_) ?_ ?_
      rotate_left
      ·show Act.put _ (some 25) _=_
       simp only[Act.put,jB,jC,l_c,bJ,b_];rfl
      repeat(refine lk (v:=?_) (a':=?_) (gk.trans rfl) rfl rfl ?_ ?_ ?_;rotate_left;(focus (rintro w' ⟨s0,s1,s2,s3⟩;go_simp;with_reducible rfl));rotate_left;(focus (simp only[Act.put,jB,jC,l_c,bJ,b_];rfl)))
      refine on ?_;try go_wp2
      go_ret;exact⟨er,ul HB.out⟩
    ·obtain rfl:=Option.some.inj H;go_wp2;go_ret;exact⟨er,ul HB.out⟩
 ·have gQ:=beq_eq_false_iff_ne.mpr c3;have rC:=bne_iff_ne.mpr c3;have N8:(l0.length==l1.length)=false:=by first|simpa using c3|(simp at c3⊢;omega)
  obtain rfl:=Option.some.inj H;go_enter func29,ntmps29;go_wp2;go_ret;exact⟨er,ul HB.out⟩
mutual
def kS.f:Nat→List (iq)→List ByteArray→List (jm)→List (iq)→List ByteArray→List (jm)→Option (Bool)
 |0,_,_,_,_,_,_=>none
 |k+1,aN,aQ,aA,xZ,yR,Aa=>(fM.f k aN xZ).bind fun U_=>(if U_=true then((iO.f k aQ yR).bind fun WT=>(if WT=true then((if(aA.length:Int)=(Aa.length:Int)then(iR.l0 k aA Aa 0)else(some false)).bind fun NW=>(if NW=true then(some true)else(some false)))else(some false)))else(some false))
def iR.l0:Nat→List (jm)→List (jm)→Int→Option (Bool)
 |0,_,_,_=>none
 |k+1,x0,x1,x5=>if x5<(x0.length:Int)then(if 0≤x5 then(if x5<(x1.length:Int)then((kS.f k ((aH x0 x5).f0) ((aH x0 x5).f1) ((aH x0 x5).f2) ((aH x1 x5).f0) ((aH x1 x5).f1) ((aH x1 x5).f2)).bind fun aBh=>(if aBh=true then(iR.l0 k x0 x1 (wrap64 (x5+1)))else(some false)))else(none))else(none))else(some true)
end
def iR.f(k:Nat)(l0:List (jm))(l1:List (jm)):Option (Bool):=if(l0.length:Int)=(l1.length:Int)then(iR.l0 k l0 l1 0)else(some false)
theorem kS.NV(k:Nat)(aN:List (iq))(aQ:List ByteArray)(aA:List (jm))(xZ:List (iq))(yR:List ByteArray)(Aa:List (jm)):kS.f (k+1) aN aQ aA xZ yR Aa=((fM.f k aN xZ).bind fun U_=>(if U_=true then((iO.f k aQ yR).bind fun WT=>(if WT=true then((iR.f k aA Aa).bind fun NW=>(if NW=true then(some true)else(some false)))else(some false)))else(some false))):=by simp only[kS.f,iR.f]
def iR.T6:Bool×List (List Nat×List Nat):=(true,[([],[]),([],[]),([0,1],[0,1]),([2],[2]),([],[]),([],[]),([4,5],[4,5]),([6],[6]),([3,7],[3,7]),([8],[8])])
def iR.B6:List Nat:=[0,0,3,7,0,0,48,112,255,511]
theorem iR.tab6:xu .any (opsOf Tryz.f30 6)=iR.T6:=by kernel_rfl
theorem iR.atA:uf iR.T6.2 iR.B6=true:=by kernel_rfl
set_option maxHeartbeats 8000000 in
set_option maxRecDepth 100000 in
theorem kS.pair(k:Nat):(∀(cO:Option Addr) (cZ:Nat) (aN:List (iq)) (dh:Option Addr) (dw:Nat) (aQ:List ByteArray) (bH:Option Addr) (bg:Nat) (aA:List (jm)) (Nh:Option Addr) (Nl:Nat) (xZ:List (iq)) (Oi:Option Addr) (Oj:Nat) (yR:List ByteArray) (QK:Option Addr) (QL:Nat) (Aa:List (jm)) (r:Bool) (w:World) (ku:Kd.C lg w cO aN.length aN) (kC:aN.length≤cZ) (kD:Kd.C Kd.string w dh aQ.length aQ) (kE:aQ.length≤dw) (jg:Kd.C k32 w bH aA.length aA) (jh:aA.length≤bg) (ZJ:Kd.C lg w Nh xZ.length xZ) (ZK:xZ.length≤Nl) (ZL:Kd.C Kd.string w Oi yR.length yR) (ZM:yR.length≤Oj) (ZN:Kd.C k32 w QK Aa.length Aa) (ZO:Aa.length≤QL) (h:kS.f k aN aQ aA xZ yR Aa=some r),
  Calls Tryz.prog 10 #[.agg #[.slice cO aN.length cZ, .slice dh aQ.length dw, .slice bH aA.length bg], .agg #[.slice Nh xZ.length Nl, .slice Oi yR.length Oj, .slice QK Aa.length QL]] w fun e w'=>e= .returned (.bool r)∧Below w.heap.size w w')∧
  (∀(A0:Option Addr) (c0:Nat) (l0:List (jm)) (A1:Option Addr) (c1:Nat) (l1:List (jm)) (r:Bool) (w:World) (hr0:Kd.C k32 w A0 l0.length l0) (hc0:l0.length≤c0) (hr1:Kd.C k32 w A1 l1.length l1) (hc1:l1.length≤c1) (h:iR.f k l0 l1=some r),
  Calls Tryz.prog 30 #[.slice A0 l0.length c0, .slice A1 l1.length c1] w fun e w'=>e= .returned (.bool r)∧Below w.heap.size w w'):=by
 induction k using Nat.strongRecOn with
 |_ k ih=>
 refine⟨?_,?_⟩
 ·cases k with
  |zero=>intro cO cZ aN dh dw aQ bH bg aA Nh Nl xZ Oi Oj yR QK QL Aa r w ku kC kD kE jg jh ZJ ZK ZL ZM ZN ZO h;exact absurd h (by simp[kS.f])
  |succ k=>
  have ihB:=(ih k (Nat.lt_succ_self k)).2;clear ih;intro cO cZ aN dh dw aQ bH bg aA Nh Nl xZ Oi Oj yR QK QL Aa r w ku kC kD kE jg jh ZJ ZK ZL ZM ZN ZO h;rw[kS.NV]at h;have IQ:=underlying32;have lU:=ak ku;have mX:=ak kC;clear ku kC;have oN:=ak kD;have qB:=ak kE;clear kD kE;have jF:=ak jg;have lV:=ak jh;clear jg jh;have ahP:=ak ZJ;have ahQ:=ak ZK;clear ZJ ZK;have am2:=ak ZL;have am3:=ak ZM;clear ZL ZM;have atC:=ak ZN;have atD:=ak ZO;clear ZN ZO;have HB:=ak (Below.refl w.heap.size w);have H:((fM.f k aN xZ).bind fun U_=>(if U_=true then((iO.f k aQ yR).bind fun WT=>(if WT=true then((iR.f k aA Aa).bind fun NW=>(if NW=true then(some true)else(some false)))else(some false)))else(some false)))=some r:=h;clear h;replace H:=bd H;obtain⟨U_,A3,H⟩:=H;replace H:=sb H;rcases H with⟨rfl,H⟩|⟨rfl,H⟩
  ·replace H:=bd H;obtain⟨WT,A5,H⟩:=H;replace H:=sb H;rcases H with⟨rfl,H⟩|⟨rfl,H⟩
   ·replace H:=bd H;obtain⟨NW,A7,H⟩:=H;replace H:=sb H;rcases H with⟨rfl,H⟩|⟨rfl,H⟩
    ·obtain rfl:=Option.some.inj H;go_enter func10,ntmps10;go_wp2_with (first|(refine bE 2 #[.slice cO aN.length cZ, .slice dh aQ.length dw, .slice bH aA.length bg] 32 ?_;intro KX hg w9 hbox hb;have pq:=ak (hbox);have am4:=mJ HB hg;have am5:=mJ HB hg;replace HB:=bs HB hb;clear hb hbox hg)|(refine bE 3 #[.slice Nh xZ.length Nl, .slice Oi yR.length Oj, .slice QK Aa.length QL] 32 ?_;intro Ac hg w10 hbox hb;have xK:=ak (hbox);have am6:=ak ((by rw[hg];exact(aj bb):w.heap.size≤Ac));have am7:=ak ((by rw[hg];exact(aj bb):w.heap.size≤Ac));have AU:=ak ((by rw[hg];exact Nat.ne_of_lt (dI (ub pq.out)):KX≠Ac));have AV:=ak ((by rw[hg];exact Nat.ne_of_gt (dI (ub pq.out)):Ac≠KX));replace pq:=kb pq hb;replace HB:=ak (aI bb hb);clear hb hbox hg;have azG:=AU.out;have azH:=AV.out;obtain⟨abm,ahk,ahl,abn,ahm,ahn⟩:=iE pq.out;obtain⟨yS,yT,aaq,yU,yV,aar⟩:=iE xK.out)|(refine gL 29 9 func29 #[.slice cO aN.length cZ, .slice Nh xZ.length Nl] ?_;(with_reducible refine(fM.calls k _ _ aN _ _ xZ true _ (cu (aK lU.out HB.out)) mX.out (cu (aK ahP.out HB.out)) ahQ.out A3.out).mono ?_);rintro e Ut ⟨rfl,hb⟩;refine⟨_,rfl,?_⟩;replace pq:=kb pq hb;replace xK:=kb xK hb;replace HB:=ak (aI bb hb);(try clear hb);obtain⟨Bd,Bf,VD,Bg,Bh,VE⟩:=iE pq.out;obtain⟨OY,OZ,Vw,O1,O4,Vx⟩:=iE xK.out)|(refine gL 19 15 func19 #[.slice dh aQ.length dw, .slice Oi yR.length Oj] ?_;(with_reducible refine(iO.calls k _ _ aQ _ _ yR true _ (cu (aK oN.out HB.out)) qB.out (cu (aK am2.out HB.out)) am3.out A5.out).mono ?_);rintro e w' ⟨rfl,⟨nd,rfl⟩⟩;refine⟨_,rfl,?_⟩)|(refine gL 30 21 func30 #[.slice bH aA.length bg, .slice QK Aa.length QL] ?_;(with_reducible refine(ihB _ _ aA _ _ Aa true _ (cu (aK jF.out bb)) lV.out (cu (aK atC.out bb)) atD.out A7.out).mono ?_);rintro e w17 ⟨rfl,hb⟩;refine⟨_,rfl,?_⟩;replace pq:=kb pq hb;replace xK:=kb xK hb;replace HB:=ak (aI bb hb);(try clear hb)))
     go_ret;exact⟨er,bb⟩
    ·obtain rfl:=Option.some.inj H;go_enter func10,ntmps10;go_wp2_with (first|(refine bE 2 #[.slice cO aN.length cZ, .slice dh aQ.length dw, .slice bH aA.length bg] 32 ?_;intro KX hg w18 hbox hb;have pq:=ak (hbox);have am4:=mJ HB hg;have am5:=mJ HB hg;replace HB:=bs HB hb;clear hb hbox hg)|(refine bE 3 #[.slice Nh xZ.length Nl, .slice Oi yR.length Oj, .slice QK Aa.length QL] 32 ?_;intro Ac hg w19 hbox hb;have xK:=ak (hbox);have am6:=ak ((by rw[hg];exact(aj bb):w.heap.size≤Ac));have am7:=ak ((by rw[hg];exact(aj bb):w.heap.size≤Ac));have AU:=ak ((by rw[hg];exact Nat.ne_of_lt (dI (ub pq.out)):KX≠Ac));have AV:=ak ((by rw[hg];exact Nat.ne_of_gt (dI (ub pq.out)):Ac≠KX));replace pq:=kb pq hb;replace HB:=ak (aI bb hb);clear hb hbox hg;have azI:=AU.out;have azJ:=AV.out;obtain⟨apo,apq,apr,aps,apt,apu⟩:=iE pq.out;obtain⟨IW,LZ,L6,IX,L8,L9⟩:=iE xK.out)|(refine gL 29 9 func29 #[.slice cO aN.length cZ, .slice Nh xZ.length Nl] ?_;(with_reducible refine(fM.calls k _ _ aN _ _ xZ true _ (cu (aK lU.out HB.out)) mX.out (cu (aK ahP.out HB.out)) ahQ.out A3.out).mono ?_);rintro e w23 ⟨rfl,hb⟩;refine⟨_,rfl,?_⟩;replace pq:=kb pq hb;replace xK:=kb xK hb;replace HB:=ak (aI bb hb);(try clear hb);obtain⟨aaU,aaV,aaW,aaX,aaY,aaZ⟩:=iE pq.out;obtain⟨ap0,ap1,ap2,ap3,ap4,ap5⟩:=iE xK.out)|(refine gL 19 15 func19 #[.slice dh aQ.length dw, .slice Oi yR.length Oj] ?_;(with_reducible refine(iO.calls k _ _ aQ _ _ yR true _ (cu (aK oN.out HB.out)) qB.out (cu (aK am2.out HB.out)) am3.out A5.out).mono ?_);rintro e w' ⟨rfl,⟨nd,rfl⟩⟩;refine⟨_,rfl,?_⟩)|(refine gL 30 21 func30 #[.slice bH aA.length bg, .slice QK Aa.length QL] ?_;(with_reducible refine(ihB _ _ aA _ _ Aa false _ (cu (aK jF.out bb)) lV.out (cu (aK atC.out bb)) atD.out A7.out).mono ?_);rintro e w26 ⟨rfl,hb⟩;refine⟨_,rfl,?_⟩;replace pq:=kb pq hb;replace xK:=kb xK hb;replace HB:=ak (aI bb hb);(try clear hb)))
     go_ret;exact⟨er,bb⟩
   ·obtain rfl:=Option.some.inj H;go_enter func10,ntmps10;go_wp2_with (first|(refine bE 2 #[.slice cO aN.length cZ, .slice dh aQ.length dw, .slice bH aA.length bg] 32 ?_;intro KX hg w27 hbox hb;have pq:=ak (hbox);have am4:=mJ HB hg;have am5:=mJ HB hg;replace HB:=bs HB hb;clear hb hbox hg)|(refine bE 3 #[.slice Nh xZ.length Nl, .slice Oi yR.length Oj, .slice QK Aa.length QL] 32 ?_;intro Ac hg w28 hbox hb;have xK:=ak (hbox);have am6:=ak ((by rw[hg];exact(aj bb):w.heap.size≤Ac));have am7:=ak ((by rw[hg];exact(aj bb):w.heap.size≤Ac));have AU:=ak ((by rw[hg];exact Nat.ne_of_lt (dI (ub pq.out)):KX≠Ac));have AV:=ak ((by rw[hg];exact Nat.ne_of_gt (dI (ub pq.out)):Ac≠KX));replace pq:=kb pq hb;replace HB:=ak (aI bb hb);clear hb hbox hg;have ayZ:=AU.out;have ay0:=AV.out;obtain⟨agP,agQ,agR,agS,agT,agU⟩:=iE pq.out;obtain⟨aqi,aqj,aqk,aql,aqm,aqn⟩:=iE xK.out)|(refine gL 29 9 func29 #[.slice cO aN.length cZ, .slice Nh xZ.length Nl] ?_;(with_reducible refine(fM.calls k _ _ aN _ _ xZ true _ (cu (aK lU.out HB.out)) mX.out (cu (aK ahP.out HB.out)) ahQ.out A3.out).mono ?_);rintro e w32 ⟨rfl,hb⟩;refine⟨_,rfl,?_⟩;replace pq:=kb pq hb;replace xK:=kb xK hb;replace HB:=ak (aI bb hb);(try clear hb);obtain⟨aDW,aDX,aDY,aDZ,aD0,aD1⟩:=iE pq.out;obtain⟨ahz,ahA,ahB,ahC,ahD,ahE⟩:=iE xK.out)|(refine gL 19 15 func19 #[.slice dh aQ.length dw, .slice Oi yR.length Oj] ?_;(with_reducible refine(iO.calls k _ _ aQ _ _ yR false _ (cu (aK oN.out HB.out)) qB.out (cu (aK am2.out HB.out)) am3.out A5.out).mono ?_);rintro e w' ⟨rfl,⟨nd,rfl⟩⟩;refine⟨_,rfl,?_⟩))
    go_ret;exact⟨er,bb⟩
  ·obtain rfl:=Option.some.inj H;go_enter func10,ntmps10;go_wp2_with (first|(refine bE 2 #[.slice cO aN.length cZ, .slice dh aQ.length dw, .slice bH aA.length bg] 32 ?_;intro KX hg w35 hbox hb;have pq:=ak (hbox);have am4:=mJ HB hg;have am5:=mJ HB hg;replace HB:=bs HB hb;clear hb hbox hg)|(refine bE 3 #[.slice Nh xZ.length Nl, .slice Oi yR.length Oj, .slice QK Aa.length QL] 32 ?_;intro Ac hg w36 hbox hb;have xK:=ak (hbox);have am6:=ak ((by rw[hg];exact(aj bb):w.heap.size≤Ac));have am7:=ak ((by rw[hg];exact(aj bb):w.heap.size≤Ac));have AU:=ak ((by rw[hg];exact Nat.ne_of_lt (dI (ub pq.out)):KX≠Ac));have AV:=ak ((by rw[hg];exact Nat.ne_of_gt (dI (ub pq.out)):Ac≠KX));replace pq:=kb pq hb;replace HB:=ak (aI bb hb);clear hb hbox hg;have ay4:=AU.out;have ay5:=AV.out;obtain⟨aD2,aD3,aD4,aD5,aD6,aD7⟩:=iE pq.out;obtain⟨ao4,ao5,ao6,ao7,ao8,ao9⟩:=iE xK.out)|(refine gL 29 9 func29 #[.slice cO aN.length cZ, .slice Nh xZ.length Nl] ?_;(with_reducible refine(fM.calls k _ _ aN _ _ xZ false _ (cu (aK lU.out HB.out)) mX.out (cu (aK ahP.out HB.out)) ahQ.out A3.out).mono ?_);rintro e w40 ⟨rfl,hb⟩;refine⟨_,rfl,?_⟩;replace pq:=kb pq hb;replace xK:=kb xK hb;replace HB:=ak (aI bb hb);(try clear hb)))
   go_ret;exact⟨er,bb⟩
 ·intro A0 c0 l0 A1 c1 l1 r w hr0 hc0 hr1 hc1 h;have IQ:=underlying32;have HR0:=ak hr0;have yx:=ak hc0;clear hr0 hc0;have HR1:=ak hr1;have HC1:=ak hc1;clear hr1 hc1;have HB:=ak (Below.refl w.heap.size w);have H:(if(l0.length:Int)=(l1.length:Int)then(iR.l0 k l0 l1 0)else(some false))=some r:=h;clear h;replace H:=sp H;rcases H with⟨c3,H⟩|⟨c3,H⟩
  ·have gQ:=beq_iff_eq.mpr c3;have rC:=bne_eq_false_iff_eq.mpr c3;have N8:(l0.length==l1.length)=true:=by first|simpa using c3|(simp at c3⊢;omega)
   clear c3;have H':=ak H;clear H;go_enter func30,ntmps30;go_wp2;go_loopg [5] k (fun kq v5 w'=>∃(aJ:Int),v5= .int .i64 aJ∧ah (iR.l0 kq l0 l1 aJ=some r)∧ah (kq≤k)∧ah (Below w.heap.size w w'))
   case atStart=>exact⟨(0),rs,H',⟨Nat.le_refl _⟩,⟨ul HB.out⟩⟩
   case round=>
    clear H';try clear c1
    try clear p2
    try clear c3
    try clear gQ
    try clear rC
    try clear N8
    obtain⟨aJ,rfl,HA,jv,HB⟩:=hrel
    cases gk with
    |zero=>exact absurd HA.out (by simp[iR.l0])
    |succ k1=>
     have H:=HA.out;clear HA;simp only[iR.l0]at H;replace H:=sd H;rcases H with⟨oM,H⟩|⟨oM,H⟩
     ·replace H:=oW H;obtain⟨sH,H⟩:=H;replace H:=oW H;obtain⟨oC,H⟩:=H;replace H:=bd H;obtain⟨aBh,A7,H⟩:=H;replace H:=sb H;rcases H with⟨rfl,H⟩|⟨rfl,H⟩
      ·have H':=ak H;clear H;try go_wp2
       replace HB:=ak (fO HB.out);have EK:=zi aJ;have EL:=zj aJ l0.length;obtain⟨EN,Jh,Ji,Jj,Jk,Jl,Jm,WW,sK,uS,uT,y9,zf,zh,zk,zl,zo⟩:=qY HR0.out aJ EK EL;have DK:=uT;have DL:=uS;have DR:=sK;cases WW;replace sK:=cl HB.out sK;replace uS:=cl HB.out uS;replace uT:=cl HB.out uT;have CZ:=ak zf;have Jo:=ak y9;clear zf y9;have C9:=ak zk;have Jp:=ak zh;clear zk zh;have C_:=ak zo;have Jq:=ak zl;clear zo zl;replace EK:=eq_true EK;replace EL:=eq_true EL;have afo:=zi aJ;have afp:=zj aJ l1.length;obtain⟨KY,XQ,XR,XT,XU,XV,XW,awt,DT,DW,DX,QM,QN,QO,QS,QT,QU⟩:=qY HR1.out aJ afo afp;have D5:=DX;have D6:=DW;have D7:=DT;cases awt;replace DT:=cl HB.out DT;replace DW:=cl HB.out DW;replace DX:=cl HB.out DX;have QV:=ak QN;have abK:=ak QM;clear QN QM;have QW:=ak QS;have abL:=ak QO;clear QS QO;have QX:=ak QU;have abM:=ak QT;clear QU QT;replace afo:=eq_true afo;replace afp:=eq_true afp;refine ro [8] [0,1,2,4,5,6,3,7,8,9] (fun w'=>w'.cell? (EN.add ((aJ).toNat*3))=some (.slice Jh ((aH l0 aJ).f0).length Ji)∧w'.cell? ⟨(EN.add ((aJ).toNat*3)).block,(EN.add ((aJ).toNat*3)).off+1,none⟩=some (.slice Jj ((aH l0 aJ).f1).length Jk)∧w'.cell? ⟨(EN.add ((aJ).toNat*3)).block,(EN.add ((aJ).toNat*3)).off+2,none⟩=some (.slice Jl ((aH l0 aJ).f2).length Jm)∧w'.cell? (KY.add ((aJ).toNat*3))=some (.slice XQ ((aH l1 aJ).f0).length XR)∧w'.cell? ⟨(KY.add ((aJ).toNat*3)).block,(KY.add ((aJ).toNat*3)).off+1,none⟩=some (.slice XT ((aH l1 aJ).f1).length XU)∧w'.cell? ⟨(KY.add ((aJ).toNat*3)).block,(KY.add ((aJ).toNat*3)).off+2,none⟩=some (.slice XV ((aH l1 aJ).f2).length XW)) ⟨((HB.out.cell (World.block_lt_of_cell? w _ DR)).trans DR),((HB.out.cell (World.block_lt_of_cell? w _ DL)).trans DL),((HB.out.cell (World.block_lt_of_cell? w _ DK)).trans DK),((HB.out.cell (World.block_lt_of_cell? w _ D7)).trans D7),((HB.out.cell (World.block_lt_of_cell? w _ D6)).trans D6),((HB.out.cell (World.block_lt_of_cell? w _ D5)).trans D5)⟩ ?_
       generalize wr.drew=w9 at HB CZ C9 C_ QV QW QX sK uS uT DT DW DX⊢
       repeat(refine lk (v:=?_) (a':=?_) (gk.trans rfl) rfl rfl ?_ ?_ ?_;rotate_left;(focus (rintro w' ⟨s0,s1,s2,s3,s4,s5⟩;go_simp;with_reducible rfl));rotate_left;(focus (simp only[Act.put,jB,jC,l_c,bJ,b_];rfl)))
       refine ld (N:=some 25) (gk.trans rfl) rfl rfl (fun K hK=>?_);refine vG func10 (by kernel_rfl) rfl #[.agg #[.slice Jh ((aH l0 aJ).f0).length Ji, .slice Jj ((aH l0 aJ).f1).length Jk, .slice Jl ((aH l0 aJ).f2).length Jm], .agg #[.slice XQ ((aH l1 aJ).f0).length XR, .slice XT ((aH l1 aJ).f1).length XU, .slice XV ((aH l1 aJ).f2).length XW]] (by rfl) rfl rfl ma ?_
       with_reducible refine((ih k1 (by have:=jv.out;omega)).1 _ _ ((aH l0 aJ).f0) _ _ ((aH l0 aJ).f1) _ _ ((aH l0 aJ).f2) _ _ ((aH l1 aJ).f0) _ _ ((aH l1 aJ).f1) _ _ ((aH l1 aJ).f2) true _ ?oG ?qU ?EO ?EP ?ER ?ES ?zq ?am8 ?am9 ?afq ?afr ?afs A7.out).mono ?_
       (case oG=>repeat(first|exact(aK CZ.out HB.out)|(with_reducible refine Kd.iP ?_ _)|(with_reducible refine Kd.iQ ?_ _)|(with_reducible refine Kd.jP ?_)))
       (case qU=>exact Jo.out)
       (case EO=>repeat(first|exact(aK C9.out HB.out)|(with_reducible refine Kd.iP ?_ _)|(with_reducible refine Kd.iQ ?_ _)|(with_reducible refine Kd.jP ?_)))
       (case EP=>exact Jp.out)
       (case ER=>repeat(first|exact(aK C_.out HB.out)|(with_reducible refine Kd.iP ?_ _)|(with_reducible refine Kd.iQ ?_ _)|(with_reducible refine Kd.jP ?_)))
       (case ES=>exact Jq.out)
       (case zq=>repeat(first|exact(aK QV.out HB.out)|(with_reducible refine Kd.iP ?_ _)|(with_reducible refine Kd.iQ ?_ _)|(with_reducible refine Kd.jP ?_)))
       (case am8=>exact abK.out)
       (case am9=>repeat(first|exact(aK QW.out HB.out)|(with_reducible refine Kd.iP ?_ _)|(with_reducible refine Kd.iQ ?_ _)|(with_reducible refine Kd.jP ?_)))
       (case afq=>exact abL.out)
       (case afr=>repeat(first|exact(aK QX.out HB.out)|(with_reducible refine Kd.iP ?_ _)|(with_reducible refine Kd.iQ ?_ _)|(with_reducible refine Kd.jP ?_)))
       (case afs=>exact abM.out);rintro e w10 ⟨rfl,hb⟩;refine⟨_,rfl,?_⟩;replace HB:=bs HB hb
       (try clear hb);refine hK.out _ _ ⟨((HB.out.cell (World.block_lt_of_cell? w _ DR)).trans DR),((HB.out.cell (World.block_lt_of_cell? w _ DL)).trans DL),((HB.out.cell (World.block_lt_of_cell? w _ DK)).trans DK),((HB.out.cell (World.block_lt_of_cell? w _ D7)).trans D7),((HB.out.cell (World.block_lt_of_cell? w _ D6)).trans D6),((HB.out.cell (World.block_lt_of_cell? w _ D5)).trans D5)⟩ ?_;clear hK K;refine no (a':=?_) ?_ ?_
       rotate_left
       ·show Act.put _ (some 25) _=_
        simp only[Act.put,jB,jC,l_c,bJ,b_];rfl
       repeat(refine lk (v:=?_) (a':=?_) (gk.trans rfl) rfl rfl ?_ ?_ ?_;rotate_left;(focus (rintro w' ⟨s0,s1,s2,s3,s4,s5⟩;go_simp;with_reducible rfl));rotate_left;(focus (simp only[Act.put,jB,jC,l_c,bJ,b_];rfl)))
       refine on ?_;try go_wp2
       go_roundg k1
       case measure=>have:=jv.out;omega
       case rel=>exact⟨(wrap64 (aJ+1)),rs,H',⟨by have:=jv.out;omega⟩,⟨ul HB.out⟩⟩
      ·obtain rfl:=Option.some.inj H;try go_wp2
       replace HB:=ak (fO HB.out);have EK:=zi aJ;have EL:=zj aJ l0.length;obtain⟨EN,Jh,Ji,Jj,Jk,Jl,Jm,WW,sK,uS,uT,y9,zf,zh,zk,zl,zo⟩:=qY HR0.out aJ EK EL;have DK:=uT;have DL:=uS;have DR:=sK;cases WW;replace sK:=cl HB.out sK;replace uS:=cl HB.out uS;replace uT:=cl HB.out uT;have CZ:=ak zf;have Jo:=ak y9;clear zf y9;have C9:=ak zk;have Jp:=ak zh;clear zk zh;have C_:=ak zo;have Jq:=ak zl;clear zo zl;replace EK:=eq_true EK;replace EL:=eq_true EL;have afo:=zi aJ;have afp:=zj aJ l1.length;obtain⟨KY,XQ,XR,XT,XU,XV,XW,awt,DT,DW,DX,QM,QN,QO,QS,QT,QU⟩:=qY HR1.out aJ afo afp;have D5:=DX;have D6:=DW;have D7:=DT;cases awt;replace DT:=cl HB.out DT;replace DW:=cl HB.out DW;replace DX:=cl HB.out DX;have QV:=ak QN;have abK:=ak QM;clear QN QM;have QW:=ak QS;have abL:=ak QO;clear QS QO;have QX:=ak QU;have abM:=ak QT;clear QU QT;replace afo:=eq_true afo;replace afp:=eq_true afp;refine ro [8] [0,1,2,4,5,6,3,7,8,9] (fun w'=>w'.cell? (EN.add ((aJ).toNat*3))=some (.slice Jh ((aH l0 aJ).f0).length Ji)∧w'.cell? ⟨(EN.add ((aJ).toNat*3)).block,(EN.add ((aJ).toNat*3)).off+1,none⟩=some (.slice Jj ((aH l0 aJ).f1).length Jk)∧w'.cell? ⟨(EN.add ((aJ).toNat*3)).block,(EN.add ((aJ).toNat*3)).off+2,none⟩=some (.slice Jl ((aH l0 aJ).f2).length Jm)∧w'.cell? (KY.add ((aJ).toNat*3))=some (.slice XQ ((aH l1 aJ).f0).length XR)∧w'.cell? ⟨(KY.add ((aJ).toNat*3)).block,(KY.add ((aJ).toNat*3)).off+1,none⟩=some (.slice XT ((aH l1 aJ).f1).length XU)∧w'.cell? ⟨(KY.add ((aJ).toNat*3)).block,(KY.add ((aJ).toNat*3)).off+2,none⟩=some (.slice XV ((aH l1 aJ).f2).length XW)) ⟨((HB.out.cell (World.block_lt_of_cell? w _ DR)).trans DR),((HB.out.cell (World.block_lt_of_cell? w _ DL)).trans DL),((HB.out.cell (World.block_lt_of_cell? w _ DK)).trans DK),((HB.out.cell (World.block_lt_of_cell? w _ D7)).trans D7),((HB.out.cell (World.block_lt_of_cell? w _ D6)).trans D6),((HB.out.cell (World.block_lt_of_cell? w _ D5)).trans D5)⟩ ?_
       generalize wr.drew=xk at HB CZ C9 C_ QV QW QX sK uS uT DT DW DX⊢
       repeat(refine lk (v:=?_) (a':=?_) (gk.trans rfl) rfl rfl ?_ ?_ ?_;rotate_left;(focus (rintro w' ⟨s0,s1,s2,s3,s4,s5⟩;go_simp;with_reducible rfl));rotate_left;(focus (simp only[Act.put,jB,jC,l_c,bJ,b_];rfl)))
       refine ld (N:=some 25) (gk.trans rfl) rfl rfl (fun K hK=>?_);refine vG func10 (by kernel_rfl) rfl #[.agg #[.slice Jh ((aH l0 aJ).f0).length Ji, .slice Jj ((aH l0 aJ).f1).length Jk, .slice Jl ((aH l0 aJ).f2).length Jm], .agg #[.slice XQ ((aH l1 aJ).f0).length XR, .slice XT ((aH l1 aJ).f1).length XU, .slice XV ((aH l1 aJ).f2).length XW]] (by rfl) rfl rfl ma ?_
       with_reducible refine((ih k1 (by have:=jv.out;omega)).1 _ _ ((aH l0 aJ).f0) _ _ ((aH l0 aJ).f1) _ _ ((aH l0 aJ).f2) _ _ ((aH l1 aJ).f0) _ _ ((aH l1 aJ).f1) _ _ ((aH l1 aJ).f2) false _ ?oG ?qU ?EO ?EP ?ER ?ES ?zq ?am8 ?am9 ?afq ?afr ?afs A7.out).mono ?_
       (case oG=>repeat(first|exact(aK CZ.out HB.out)|(with_reducible refine Kd.iP ?_ _)|(with_reducible refine Kd.iQ ?_ _)|(with_reducible refine Kd.jP ?_)))
       (case qU=>exact Jo.out)
       (case EO=>repeat(first|exact(aK C9.out HB.out)|(with_reducible refine Kd.iP ?_ _)|(with_reducible refine Kd.iQ ?_ _)|(with_reducible refine Kd.jP ?_)))
       (case EP=>exact Jp.out)
       (case ER=>repeat(first|exact(aK C_.out HB.out)|(with_reducible refine Kd.iP ?_ _)|(with_reducible refine Kd.iQ ?_ _)|(with_reducible refine Kd.jP ?_)))
       (case ES=>exact Jq.out)
       (case zq=>repeat(first|exact(aK QV.out HB.out)|(with_reducible refine Kd.iP ?_ _)|(with_reducible refine Kd.iQ ?_ _)|(with_reducible refine Kd.jP ?_)))
       (case am8=>exact abK.out)
       (case am9=>repeat(first|exact(aK QW.out HB.out)|(with_reducible refine Kd.iP ?_ _)|(with_reducible refine Kd.iQ ?_ _)|(with_reducible refine Kd.jP ?_)))
       (case afq=>exact abL.out)
       (case afr=>repeat(first|exact(aK QX.out HB.out)|(with_reducible refine Kd.iP ?_ _)|(with_reducible refine Kd.iQ ?_ _)|(with_reducible refine Kd.jP ?_)))
       (case afs=>exact abM.out);rintro e w12 ⟨rfl,hb⟩;refine⟨_,rfl,?_⟩;replace HB:=bs HB hb
       (try clear hb);refine hK.out _ _ ⟨((HB.out.cell (World.block_lt_of_cell? w _ DR)).trans DR),((HB.out.cell (World.block_lt_of_cell? w _ DL)).trans DL),((HB.out.cell (World.block_lt_of_cell? w _ DK)).trans DK),((HB.out.cell (World.block_lt_of_cell? w _ D7)).trans D7),((HB.out.cell (World.block_lt_of_cell? w _ D6)).trans D6),((HB.out.cell (World.block_lt_of_cell? w _ D5)).trans D5)⟩ ?_;clear hK K;refine no (a':=?_) ?_ ?_
       rotate_left
       ·show Act.put _ (some 25) _=_
        simp only[Act.put,jB,jC,l_c,bJ,b_];rfl
       repeat(refine lk (v:=?_) (a':=?_) (gk.trans rfl) rfl rfl ?_ ?_ ?_;rotate_left;(focus (rintro w' ⟨s0,s1,s2,s3,s4,s5⟩;go_simp;with_reducible rfl));rotate_left;(focus (simp only[Act.put,jB,jC,l_c,bJ,b_];rfl)))
       refine on ?_;try go_wp2
       go_ret;exact⟨er,ul HB.out⟩
     ·obtain rfl:=Option.some.inj H;go_wp2;go_ret;exact⟨er,ul HB.out⟩
  ·have gQ:=beq_eq_false_iff_ne.mpr c3;have rC:=bne_iff_ne.mpr c3;have N8:(l0.length==l1.length)=false:=by first|simpa using c3|(simp at c3⊢;omega)
   obtain rfl:=Option.some.inj H;go_enter func30,ntmps30;go_wp2;go_ret;exact⟨er,ul HB.out⟩
theorem kS.calls(k:Nat)(cO:Option Addr)(cZ:Nat)(aN:List (iq))(dh:Option Addr)(dw:Nat)(aQ:List ByteArray)(bH:Option Addr)(bg:Nat)(aA:List (jm))(Nh:Option Addr)(Nl:Nat)(xZ:List (iq))(Oi:Option Addr)(Oj:Nat)(yR:List ByteArray)(QK:Option Addr)(QL:Nat)(Aa:List (jm))(r:Bool)(w:World)(ku:Kd.C lg w cO aN.length aN)(kC:aN.length≤cZ)(kD:Kd.C Kd.string w dh aQ.length aQ)(kE:aQ.length≤dw)(jg:Kd.C k32 w bH aA.length aA)(jh:aA.length≤bg)(ZJ:Kd.C lg w Nh xZ.length xZ)(ZK:xZ.length≤Nl)(ZL:Kd.C Kd.string w Oi yR.length yR)(ZM:yR.length≤Oj)(ZN:Kd.C k32 w QK Aa.length Aa)(ZO:Aa.length≤QL)(h:kS.f k aN aQ aA xZ yR Aa=some r):
  Calls Tryz.prog 10 #[.agg #[.slice cO aN.length cZ, .slice dh aQ.length dw, .slice bH aA.length bg], .agg #[.slice Nh xZ.length Nl, .slice Oi yR.length Oj, .slice QK Aa.length QL]] w fun e w'=>e= .returned (.bool r)∧Below w.heap.size w w':=(kS.pair k).1 cO cZ aN dh dw aQ bH bg aA Nh Nl xZ Oi Oj yR QK QL Aa r w ku kC kD kE jg jh ZJ ZK ZL ZM ZN ZO h
theorem iR.calls(k:Nat)(A0:Option Addr)(c0:Nat)(l0:List (jm))(A1:Option Addr)(c1:Nat)(l1:List (jm))(r:Bool)(w:World)(hr0:Kd.C k32 w A0 l0.length l0)(hc0:l0.length≤c0)(hr1:Kd.C k32 w A1 l1.length l1)(hc1:l1.length≤c1)(h:iR.f k l0 l1=some r):
  Calls Tryz.prog 30 #[.slice A0 l0.length c0, .slice A1 l1.length c1] w fun e w'=>e= .returned (.bool r)∧Below w.heap.size w w':=(kS.pair k).2 A0 c0 l0 A1 c1 l1 r w hr0 hc0 hr1 hc1 h
end Go.Proofs.YtdimppdlfgnhgaaGreatDoor.PFnExactPartAt
