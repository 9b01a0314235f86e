/- Printed walks; conditions: those in each statement. -/
import Derived.Test.YtdimppdlfgnhgaaGreatDoorVFnExactPartAtQt
import Derived.Test.YtdimppdlfgnhgaaGreatDoorVFnExactPartAtYt
import Derived.Test.YtdimppdlfgnhgaaGreatDoorPFnExactPartAtx0
import Derived.Test.YtdimppdlfgnhgaaGreatDoorPFnExactPartAtx16
namespace Go.Proofs.YtdimppdlfgnhgaaGreatDoor.PFnExactPartAt
open Go.Proofs.YtdimppdlfgnhgaaGreatDoorW.fD.Kd Go.Proofs.YtdimppdlfgnhgaaGreatDoorW.qy.Kd Go.Proofs.Tryz Go.RowKit Go.Proofs.YtdimppdlfgnhgaaGreatDoor.X Go.Proofs.YtdimppdlfgnhgaaGreatDoorW.fD Go.Proofs.YtdimppdlfgnhgaaGreatDoorW.mZ Go.Proofs.YtdimppdlfgnhgaaGreatDoorW.qy
attribute [local go_sem] BD BF F7 F8 yI yJ BG BH   -- for this text's walks alone
set_option linter.unusedVariables false
set_option linter.unusedSimpArgs false
set_option maxHeartbeats 8000000
set_option maxRecDepth 100000
def iH.l0:Nat→List ByteArray→Int→Int→Option (Int)
 |0,_,_,_=>none
 |k+1,x0,x1,x5=>if x5<(x0.length:Int)then(if 0≤x5 then(if(wrap64 (x1-((o8 ByteArray.empty x0 x5).size:Int)))<0 then(some (-1))else(iH.l0 k x0 (wrap64 (x1-((o8 ByteArray.empty x0 x5).size:Int))) (wrap64 (x5+1))))else(none))else(some x1)
def iH.f(k:Nat)(l0:List ByteArray)(a1:Int):Option (Int):=if(wrap64 (a1-(l0.length:Int)))<0 then(some (-1))else(iH.l0 k l0 (wrap64 (a1-(l0.length:Int))) 0)
set_option maxHeartbeats 8000000 in
set_option maxRecDepth 100000 in
theorem iH.calls(k:Nat)(A0:Option Addr)(c0:Nat)(l0:List ByteArray)(a1:Int)(r:Int)(w:World)(hr0:Kd.C Kd.string w A0 l0.length l0)(hc0:l0.length≤c0)(h:iH.f k l0 a1=some r):
  Calls Tryz.prog 15 #[.slice A0 l0.length c0, .int .i64 a1] w fun e w'=>e= .returned (.int .i64 r)∧fK w w':=by
 have HR0:=ak hr0;have yx:=ak hc0;clear hr0 hc0;have H:(if(wrap64 (a1-(l0.length:Int)))<0 then(some (-1))else(iH.l0 k l0 (wrap64 (a1-(l0.length:Int))) 0))=some r:=h;clear h;replace H:=sp H;rcases H with⟨c3,H⟩|⟨c3,H⟩
 ·have gQ:=decide_eq_true c3
  (try(have rC:decide ((a1-(l0.length:Int))<0)=true:=decide_eq_true (by have h_:=c3;unfold wrap64 at h_;omega)));clear c3;obtain rfl:=Option.some.inj H;go_enter func15,ntmps15;go_wp2;go_ret;exact⟨rs,dn⟩
 ·have gQ:=decide_eq_false c3
  (try(have rC:decide ((a1-(l0.length:Int))<0)=false:=decide_eq_false (by have h_:=c3;unfold wrap64 at h_;omega)));clear c3;have H':=ak H;clear H;go_enter func15,ntmps15;go_wp2;go_loopg [1,5] k (fun kq v1 v5 w'=>∃(kU:Int) (aJ:Int),v1= .int .i64 kU∧v5= .int .i64 aJ∧ah (iH.l0 kq l0 kU aJ=some r)∧ah (kq≤k)∧fK w w')
  case atStart=>exact⟨(wrap64 (a1-(l0.length:Int))),(0),rs,rs,H',⟨Nat.le_refl _⟩,dn⟩
  case round=>
   clear H';try clear c1
   try clear p2
   try clear c3
   try clear gQ
   try clear rC
   obtain⟨kU,aJ,rfl,rfl,HA,jv,⟨m1,rfl⟩⟩:=hrel
   cases gk with
   |zero=>exact absurd HA.out (by simp[iH.l0])
   |succ k1=>
    have H:=HA.out;clear HA;simp only[iH.l0]at H;replace H:=sd H;rcases H with⟨oM,H⟩|⟨oM,H⟩
    ·replace H:=oW H;obtain⟨sH,H⟩:=H;replace H:=sp H;rcases H with⟨c6,H⟩|⟨c6,H⟩
     ·have oC:=decide_eq_true c6
      (try(have AB:decide ((kU-((o8 ByteArray.empty l0 aJ).size:Int))<0)=true:=decide_eq_true (by have h_:=c6;unfold wrap64 at h_;omega)));clear c6;obtain rfl:=Option.some.inj H;have EK:=zi aJ;have EL:=zj aJ l0.length;obtain⟨EN,WW,sK⟩:=kV HR0.out aJ EK EL;cases WW;replace EK:=eq_true EK;replace EL:=eq_true EL;go_wp2;go_ret;exact⟨rs,dn⟩
     ·have oC:=decide_eq_false c6
      (try(have AB:decide ((kU-((o8 ByteArray.empty l0 aJ).size:Int))<0)=false:=decide_eq_false (by have h_:=c6;unfold wrap64 at h_;omega)));clear c6;have H':=ak H;clear H;have EK:=zi aJ;have EL:=zj aJ l0.length;obtain⟨EN,WW,sK⟩:=kV HR0.out aJ EK EL;cases WW;replace EK:=eq_true EK;replace EL:=eq_true EL;go_wp2;go_roundg k1
      case measure=>have:=jv.out;omega
      case rel=>exact⟨(wrap64 (kU-((o8 ByteArray.empty l0 aJ).size:Int))),(wrap64 (aJ+1)),rs,rs,H',⟨by have:=jv.out;omega⟩,dn⟩
    ·obtain rfl:=Option.some.inj H;go_wp2;go_ret;exact⟨rs,dn⟩
def uQ.f(bn:ByteArray)(bI:ByteArray)(a1:Int):Option (Int):=if(wrap64 (a1-(bn.size:Int)))<0 then(some (-1))else(if(wrap64 ((wrap64 (a1-(bn.size:Int)))-(bI.size:Int)))<0 then(some (-1))else(some (wrap64 ((wrap64 (a1-(bn.size:Int)))-(bI.size:Int)))))
set_option maxHeartbeats 8000000 in
set_option maxRecDepth 100000 in
theorem uQ.calls(bn:ByteArray)(bI:ByteArray)(a1:Int)(r:Int)(w:World)(h:uQ.f bn bI a1=some r):
  Calls Tryz.prog 39 #[.agg #[.string bn, .string bI], .int .i64 a1] w fun e w'=>e= .returned (.int .i64 r)∧Below w.heap.size w w':=by
 have aup:=underlying61;have HB:=ak (Below.refl w.heap.size w);have H:(if(wrap64 (a1-(bn.size:Int)))<0 then(some (-1))else(if(wrap64 ((wrap64 (a1-(bn.size:Int)))-(bI.size:Int)))<0 then(some (-1))else(some (wrap64 ((wrap64 (a1-(bn.size:Int)))-(bI.size:Int))))))=some r:=h;clear h;replace H:=sp H;rcases H with⟨c3,H⟩|⟨c3,H⟩
 ·have gQ:=decide_eq_true c3
  (try(have rC:decide ((a1-(bn.size:Int))<0)=true:=decide_eq_true (by have h_:=c3;unfold wrap64 at h_;omega)));clear c3;obtain rfl:=Option.some.inj H;go_enter func39,ntmps39;go_wp2_with (first|(refine bE 2 #[.string bn, .string bI] 61 ?_;intro wK hg w4 hbox hb;have u_:=ak (hbox);have aki:=mJ HB hg;have akj:=mJ HB hg;replace HB:=bs HB hb;clear hb hbox hg;obtain⟨akZ,ak0,ak1,ak2⟩:=AA u_.out))
  go_ret;exact⟨er,bb⟩
 ·have gQ:=decide_eq_false c3
  (try(have rC:decide ((a1-(bn.size:Int))<0)=false:=decide_eq_false (by have h_:=c3;unfold wrap64 at h_;omega)));clear c3;replace H:=sp H;rcases H with⟨c6,H⟩|⟨c6,H⟩
  ·have oC:=decide_eq_true c6
   (try(have AB:decide (((wrap64 (a1-(bn.size:Int)))-(bI.size:Int))<0)=true:=decide_eq_true (by have h_:=c6;unfold wrap64 at h_;omega)));clear c6;obtain rfl:=Option.some.inj H;go_enter func39,ntmps39;go_wp2_with (first|(refine bE 2 #[.string bn, .string bI] 61 ?_;intro wK hg w7 hbox hb;have u_:=ak (hbox);have aki:=mJ HB hg;have akj:=mJ HB hg;replace HB:=bs HB hb;clear hb hbox hg;obtain⟨Jb,KC,Jc,KD⟩:=AA u_.out))
   go_ret;exact⟨er,bb⟩
  ·have oC:=decide_eq_false c6
   (try(have AB:decide (((wrap64 (a1-(bn.size:Int)))-(bI.size:Int))<0)=false:=decide_eq_false (by have h_:=c6;unfold wrap64 at h_;omega)));clear c6;obtain rfl:=Option.some.inj H;go_enter func39,ntmps39;go_wp2_with (first|(refine bE 2 #[.string bn, .string bI] 61 ?_;intro wK hg w9 hbox hb;have u_:=ak (hbox);have aki:=mJ HB hg;have akj:=mJ HB hg;replace HB:=bs HB hb;clear hb hbox hg;obtain⟨IU,LX,IV,LY⟩:=AA u_.out))
   go_ret;exact⟨er,bb⟩
def iJ.l0:Nat→List (J_)→Int→Int→Option (Int)
 |0,_,_,_=>none
 |k+1,x0,x1,x5=>if x5<(x0.length:Int)then(if 0≤x5 then((uQ.f ((uj x0 x5).f0) ((uj x0 x5).f1) x1).bind fun ai9=>(if ai9<0 then(some (-1))else(iJ.l0 k x0 ai9 (wrap64 (x5+1)))))else(none))else(some x1)
def iJ.f(k:Nat)(l0:List (J_))(a1:Int):Option (Int):=if(wrap64 (a1-(l0.length:Int)))<0 then(some (-1))else(iJ.l0 k l0 (wrap64 (a1-(l0.length:Int))) 0)
set_option maxHeartbeats 8000000 in
set_option maxRecDepth 100000 in
theorem iJ.calls(k:Nat)(A0:Option Addr)(c0:Nat)(l0:List (J_))(a1:Int)(r:Int)(w:World)(hr0:Kd.C YJ w A0 l0.length l0)(hc0:l0.length≤c0)(h:iJ.f k l0 a1=some r):
  Calls Tryz.prog 21 #[.slice A0 l0.length c0, .int .i64 a1] w fun e w'=>e= .returned (.int .i64 r)∧Below w.heap.size w w':=by
 have aup:=underlying61;have HR0:=ak hr0;have yx:=ak hc0;clear hr0 hc0;have HB:=ak (Below.refl w.heap.size w);have H:(if(wrap64 (a1-(l0.length:Int)))<0 then(some (-1))else(iJ.l0 k l0 (wrap64 (a1-(l0.length:Int))) 0))=some r:=h;clear h;replace H:=sp H;rcases H with⟨c3,H⟩|⟨c3,H⟩
 ·have gQ:=decide_eq_true c3
  (try(have rC:decide ((a1-(l0.length:Int))<0)=true:=decide_eq_true (by have h_:=c3;unfold wrap64 at h_;omega)));clear c3;obtain rfl:=Option.some.inj H;go_enter func21,ntmps21;go_wp2;go_ret;exact⟨er,ul HB.out⟩
 ·have gQ:=decide_eq_false c3
  (try(have rC:decide ((a1-(l0.length:Int))<0)=false:=decide_eq_false (by have h_:=c3;unfold wrap64 at h_;omega)));clear c3;have H':=ak H;clear H;go_enter func21,ntmps21;go_wp2;go_loopg [1,5] k (fun kq v1 v5 w'=>∃(kU:Int) (aJ:Int),v1= .int .i64 kU∧v5= .int .i64 aJ∧ah (iJ.l0 kq l0 kU aJ=some r)∧ah (kq≤k)∧ah (Below w.heap.size w w'))
  case atStart=>exact⟨(wrap64 (a1-(l0.length:Int))),(0),rs,rs,H',⟨Nat.le_refl _⟩,⟨ul HB.out⟩⟩
  case round=>
   clear H';try clear c2
   try clear p2
   try clear c3
   try clear gQ
   try clear rC
   obtain⟨kU,aJ,rfl,rfl,HA,jv,HB⟩:=hrel
   cases gk with
   |zero=>exact absurd HA.out (by simp[iJ.l0])
   |succ k1=>
    have H:=HA.out;clear HA;simp only[iJ.l0]at H;replace H:=sd H;rcases H with⟨oM,H⟩|⟨oM,H⟩
    ·replace H:=oW H;obtain⟨sH,H⟩:=H;replace H:=bd H;obtain⟨ai9,A6,H⟩:=H;replace H:=sd H;rcases H with⟨rU,H⟩|⟨rU,H⟩
     ·obtain rfl:=Option.some.inj H;have aen:=zi aJ;have aeo:=zj aJ l0.length;obtain⟨ayC,auS,PE,PG⟩:=ad9 HR0.out aJ aen aeo;cases auS;replace PE:=cl HB.out PE;replace PG:=cl HB.out PG;replace aen:=eq_true aen;replace aeo:=eq_true aeo;go_wp2_with (first|(refine gL 39 23 func39 #[.agg #[.string ((uj l0 aJ).f0), .string ((uj l0 aJ).f1)], .int .i64 kU] ?_;(with_reducible refine(uQ.calls ((uj l0 aJ).f0) ((uj l0 aJ).f1) kU ai9 _ A6.out).mono ?_);rintro e w8 ⟨rfl,hb⟩;refine⟨_,rfl,?_⟩;replace HB:=bs HB hb;(try clear hb)))
      go_ret;exact⟨er,ul HB.out⟩
     ·have H':=ak H;clear H;have aen:=zi aJ;have aeo:=zj aJ l0.length;obtain⟨ayC,auS,PE,PG⟩:=ad9 HR0.out aJ aen aeo;cases auS;replace PE:=cl HB.out PE;replace PG:=cl HB.out PG;replace aen:=eq_true aen;replace aeo:=eq_true aeo;go_wp2_with (first|(refine gL 39 23 func39 #[.agg #[.string ((uj l0 aJ).f0), .string ((uj l0 aJ).f1)], .int .i64 kU] ?_;(with_reducible refine(uQ.calls ((uj l0 aJ).f0) ((uj l0 aJ).f1) kU ai9 _ A6.out).mono ?_);rintro e w9 ⟨rfl,hb⟩;refine⟨_,rfl,?_⟩;replace HB:=bs HB hb;(try clear hb)))
      go_roundg k1
      case measure=>have:=jv.out;omega
      case rel=>exact⟨(ai9),(wrap64 (aJ+1)),rs,rs,H',⟨by have:=jv.out;omega⟩,⟨ul HB.out⟩⟩
    ·obtain rfl:=Option.some.inj H;go_wp2;go_ret;exact⟨er,ul HB.out⟩
def gu.f(a0:ByteArray):Option (ByteArray):=if a0.size≤140737488355328 then some (strOfNums ((bytesOf a0).map YQ))else none
set_option maxHeartbeats 1000000 in
set_option maxRecDepth 100000 in
theorem gu.calls(a0:ByteArray)(r:ByteArray)(w:World)(h:gu.f a0=some r):
  Calls Tryz.prog 116 #[.string a0] w fun e w'=>e= .returned (.string r)∧Below w.heap.size w w':=by
 unfold gu.f at h;split at h
 ·rename_i hb
  injection h with h;subst h;have kb:=fun W=>Uy (P:=Tryz.prog) 9 77 5 underlying9 underlying77 underlying5 a0 W
  go_enter func116,ntmps116;go_wp2;go_loopw [4] (fun i W=>∃k:Nat,k≤a0.size∧i= .int .i64 k∧SV w w.heap.size (J6 (bytesOf a0) k) W) (fun i _=>a0.size-(intOf i).toNat)
  case atStart=>exact⟨0,Nat.zero_le _,rfl,by simpa [J6] using Pq w 5 a0⟩
  case round=>
   obtain⟨k,hk,rfl,hR⟩:=hrel;have HR:=ak hR;by_cases hlt:k<a0.size
   ·have hc:=hR.cell k (by rw[nJ,bytesOf_length];exact hlt);have hf:=hR.free k (by rw[nJ,bytesOf_length];exact hlt);rw[aaE _ _ (by rw[bytesOf_length];exact hlt)]at hc;clear hR;have hr:=ND a0 k;have hs:=ak (Zn (bytesOf a0) k (by rw[bytesOf_length];exact hlt));have hu:=ak (SX (bytesOf a0) k (by rw[bytesOf_length];exact hlt))
    generalize (bytesOf a0).getD k 0=c at hc hr hs hu
    go_wp2
    ·go_roundw
     case rel=>exact⟨k+1,by omega,by go_num,by
      rw[hu.out,YQ,if_pos ⟨by omega,by omega⟩];exact HR.out.store (Nat.le_refl _) k (by rw[nJ,bytesOf_length];exact hlt) _⟩
     case measure=>simp[intOf];omega
    ·go_roundw
     case rel=>exact⟨k+1,by omega,by go_num,by rw[hs.out (by omega)];exact HR.out⟩
     case measure=>simp[intOf];omega
    ·go_roundw
     case rel=>exact⟨k+1,by omega,by go_num,by rw[hs.out (by omega)];exact HR.out⟩
     case measure=>simp[intOf];omega
   ·clear hR
    have kd:=run_convert_bytes_arg (P:=Tryz.prog) wr 77 5 underlying77 underlying5 w.heap.size 0 a0.size (grownCap w a0.size 0 5) (J6 (bytesOf a0) k) (by rw[nJ,bytesOf_length]) (fun i hi=>by
     rw[Nat.zero_add];exact HR.out.cell i (by rw[nJ,bytesOf_length];exact hi)) 9 underlying9
    go_wp2;go_ret;have hk2:k=a0.size:=by omega
    exact⟨by rw[hk2,acK (bytesOf a0) a0.size (bytesOf_length a0)];rfl,HR.out.below⟩
 ·cases h
def tq.f(a0:ByteArray)(a1:ByteArray):Option (Bool):=(gu.f a0).bind fun t109=>((gu.f a1).bind fun U_=>(some (t109.toList==U_.toList)))
set_option maxHeartbeats 8000000 in
set_option maxRecDepth 100000 in
theorem tq.calls(a0:ByteArray)(a1:ByteArray)(r:Bool)(w:World)(h:tq.f a0 a1=some r):
  Calls Tryz.prog 136 #[.string a0, .string a1] w fun e w'=>e= .returned (.bool r)∧Below w.heap.size w w':=by
 have HB:=ak (Below.refl w.heap.size w);have H:((gu.f a0).bind fun t109=>((gu.f a1).bind fun U_=>(some (t109.toList==U_.toList))))=some r:=h;clear h;replace H:=bd H;obtain⟨t109,A3,H⟩:=H;replace H:=bd H;obtain⟨U_,A4,H⟩:=H;obtain rfl:=Option.some.inj H;go_enter func136,ntmps136;go_wp2_with (first|(refine gL 116 6 func116 #[.string a0] ?_;(with_reducible refine(gu.calls a0 t109 _ A3.out).mono ?_);rintro e w5 ⟨rfl,hb⟩;refine⟨_,rfl,?_⟩;replace HB:=bs HB hb;(try clear hb))|(refine gL 116 8 func116 #[.string a1] ?_;(with_reducible refine(gu.calls a1 U_ _ A4.out).mono ?_);rintro e w6 ⟨rfl,hb⟩;refine⟨_,rfl,?_⟩;replace HB:=bs HB hb;(try clear hb)))
 go_ret;exact⟨er,ul HB.out⟩
def jQ.l0:Nat→List (iq)→ByteArray→Int→Option (Int)
 |0,_,_,_=>none
 |k+1,x0,x1,x5=>if x5<(x0.length:Int)then(if 0≤x5 then((tq.f ((aT x0 x5).f0) x1).bind fun NW=>(if NW=true then(some x5)else(jQ.l0 k x0 x1 (wrap64 (x5+1)))))else(none))else(some (-1))
def jQ.f(k:Nat)(l0:List (iq))(a1:ByteArray):Option (Int):=jQ.l0 k l0 a1 0
set_option maxHeartbeats 8000000 in
set_option maxRecDepth 100000 in
theorem jQ.calls(k:Nat)(A0:Option Addr)(c0:Nat)(l0:List (iq))(a1:ByteArray)(r:Int)(w:World)(hr0:Kd.C lg w A0 l0.length l0)(hc0:l0.length≤c0)(h:jQ.f k l0 a1=some r):
  Calls Tryz.prog 114 #[.slice A0 l0.length c0, .string a1] w fun e w'=>e= .returned (.int .i64 r)∧Below w.heap.size w w':=by
 have HR0:=ak hr0;have yx:=ak hc0;clear hr0 hc0;have HB:=ak (Below.refl w.heap.size w);have H:(jQ.l0 k l0 a1 0)=some r:=h;clear h;have H':=ak H;clear H;go_enter func114,ntmps114;go_wp2;go_loopg [5] k (fun kq v5 w'=>∃(aJ:Int),v5= .int .i64 aJ∧ah (jQ.l0 kq l0 a1 aJ=some r)∧ah (kq≤k)∧ah (Below w.heap.size w w'))
 case atStart=>exact⟨(0),rs,H',⟨Nat.le_refl _⟩,⟨ul HB.out⟩⟩
 case round=>
  clear H';try clear c1
  try clear p2
  obtain⟨aJ,rfl,HA,jv,HB⟩:=hrel
  cases gk with
  |zero=>exact absurd HA.out (by simp[jQ.l0])
  |succ k1=>
   have H:=HA.out;clear HA;simp only[jQ.l0]at H;replace H:=sd H;rcases H with⟨gQ,H⟩|⟨gQ,H⟩
   ·replace H:=oW H;obtain⟨oM,H⟩:=H;replace H:=bd H;obtain⟨NW,A5,H⟩:=H;replace H:=sb H;rcases H with⟨rfl,H⟩|⟨rfl,H⟩
    ·obtain rfl:=Option.some.inj H;have aep:=zi aJ;have aer:=zj aJ l0.length;obtain⟨ayD,auT,PI,PK⟩:=ou HR0.out aJ aep aer;cases auT;replace PI:=cl HB.out PI;replace PK:=cl HB.out PK;replace aep:=eq_true aep;replace aer:=eq_true aer;go_wp2_with (first|(refine gL 136 18 func136 #[.string ((aT l0 aJ).f0), .string a1] ?_;(with_reducible refine(tq.calls ((aT l0 aJ).f0) a1 true _ A5.out).mono ?_);rintro e w7 ⟨rfl,hb⟩;refine⟨_,rfl,?_⟩;replace HB:=bs HB hb;(try clear hb)))
     go_ret;exact⟨er,ul HB.out⟩
    ·have H':=ak H;clear H;have aep:=zi aJ;have aer:=zj aJ l0.length;obtain⟨ayD,auT,PI,PK⟩:=ou HR0.out aJ aep aer;cases auT;replace PI:=cl HB.out PI;replace PK:=cl HB.out PK;replace aep:=eq_true aep;replace aer:=eq_true aer;go_wp2_with (first|(refine gL 136 18 func136 #[.string ((aT l0 aJ).f0), .string a1] ?_;(with_reducible refine(tq.calls ((aT l0 aJ).f0) a1 false _ A5.out).mono ?_);rintro e w8 ⟨rfl,hb⟩;refine⟨_,rfl,?_⟩;replace HB:=bs HB hb;(try clear hb)))
     go_roundg k1
     case measure=>have:=jv.out;omega
     case rel=>exact⟨(wrap64 (aJ+1)),rs,H',⟨by have:=jv.out;omega⟩,⟨ul HB.out⟩⟩
   ·obtain rfl:=Option.some.inj H;go_wp2;go_ret;exact⟨er,ul HB.out⟩
def kJ.f(k:Nat)(l0:List (iq))(a1:ByteArray):Option (ByteArray×Bool):=(jQ.f k l0 a1).bind fun N9=>(if N9<0 then(some ((⟨#[]⟩:ByteArray),false))else(if 0≤N9 then(if N9<(l0.length:Int)then(some ((aT l0 N9).f1,true))else(none))else(none)))
set_option maxHeartbeats 8000000 in
set_option maxRecDepth 100000 in
theorem kJ.calls(k:Nat)(A0:Option Addr)(c0:Nat)(l0:List (iq))(a1:ByteArray)(r1:ByteArray)(r2:Bool)(w:World)(hr0:Kd.C lg w A0 l0.length l0)(hc0:l0.length≤c0)(h:kJ.f k l0 a1=some (r1,r2)):
  Calls Tryz.prog 80 #[.slice A0 l0.length c0, .string a1] w fun e w'=>e= .returned (.tuple #[.string r1, .bool r2])∧Below w.heap.size w w':=by
 have HR0:=ak hr0;have yx:=ak hc0;clear hr0 hc0;have HB:=ak (Below.refl w.heap.size w);have H:((jQ.f k l0 a1).bind fun N9=>(if N9<0 then(some ((⟨#[]⟩:ByteArray),false))else(if 0≤N9 then(if N9<(l0.length:Int)then(some ((aT l0 N9).f1,true))else(none))else(none))))=some (r1,r2):=h;clear h;replace H:=bd H;obtain⟨N9,A3,H⟩:=H;replace H:=sd H;rcases H with⟨oM,H⟩|⟨oM,H⟩
 ·simp only[Option.some.injEq,Prod.mk.injEq]at H;obtain⟨rfl,rfl⟩:=H;go_enter func80,ntmps80;go_wp2_with (first|(refine gL 114 9 func114 #[.slice A0 l0.length c0, .string a1] ?_;(with_reducible refine(jQ.calls k _ _ l0 a1 N9 _ (cu HR0.out) yx.out A3.out).mono ?_);rintro e w5 ⟨rfl,hb⟩;refine⟨_,rfl,?_⟩;replace HB:=bs HB hb;(try clear hb)))
  go_ret2;exact⟨er,ul HB.out⟩
 ·replace H:=oW H;obtain⟨oC,H⟩:=H;replace H:=oW H;obtain⟨rU,H⟩:=H;simp only[Option.some.injEq,Prod.mk.injEq]at H;obtain⟨rfl,rfl⟩:=H;go_enter func80,ntmps80;go_wp2_with (first|(refine gL 114 9 func114 #[.slice A0 l0.length c0, .string a1] ?_;(with_reducible refine(jQ.calls k _ _ l0 a1 N9 _ (cu HR0.out) yx.out A3.out).mono ?_);rintro e w8 ⟨rfl,hb⟩;refine⟨_,rfl,?_⟩;replace HB:=bs HB hb;(try clear hb);have auU:0≤(N9:Int):=of_decide_eq_true (by assumption);have auV:N9<(l0.length:Int):=of_decide_eq_true (by assumption);obtain⟨aHS,aFA,aaS,aaT⟩:=ou HR0.out N9 auU auV;cases aFA;replace aaS:=(HB.out.cell (World.block_lt_of_cell? w _ aaS)).trans aaS;replace aaT:=(HB.out.cell (World.block_lt_of_cell? w _ aaT)).trans aaT;replace auU:=eq_true auU;replace auV:=eq_true auV))
  go_ret2;exact⟨er,ul HB.out⟩
mutual
def bf.l0:Nat→ByteArray→Int→Option (Bool)
 |0,_,_=>none
 |k+1,x0,x3=>if x3<(x0.size:Int)then(bf.j1 k x0 x3 (decide (x3≤200)))else(bf.j1 k x0 x3 false)
def bf.j1:Nat→ByteArray→Int→Bool→Option (Bool)
 |0,_,_,_=>none
 |k+1,x0,x3,x11=>if x11=true then(if 0≤x3 then(if x3<(x0.size:Int)then(if(bt x0 x3)<32 then(some false)else(if(bt x0 x3)>126 then(some false)else(bf.l0 k x0 (wrap64 (x3+1)))))else(none))else(none))else(some (decide ((x0.size:Int)≤200)))
end
def bf.f(k:Nat)(a0:ByteArray):Option (Bool):=bf.l0 k a0 0
set_option maxHeartbeats 8000000 in
set_option maxRecDepth 100000 in
theorem bf.calls(k:Nat)(a0:ByteArray)(r:Bool)(w:World)(h:bf.f k a0=some r):
  Calls Tryz.prog 107 #[.string a0] w fun e w'=>e= .returned (.bool r)∧fK w w':=by
 have H:(bf.l0 k a0 0)=some r:=h;clear h;have H':=ak H;clear H;go_enter func107,ntmps107;go_wp2;go_loopg [3] k (fun kq v3 w'=>∃(dD:Int),v3= .int .i64 dD∧ah (bf.l0 kq a0 dD=some r)∧ah (kq≤k)∧fK w w')
 case atStart=>exact⟨(0),rs,H',⟨Nat.le_refl _⟩,dn⟩
 case round=>
  clear H';try clear c1
  obtain⟨dD,rfl,HA,jv,⟨m1,rfl⟩⟩:=hrel
  cases gk with
  |zero=>exact absurd HA.out (by simp[bf.l0])
  |succ k1=>
   have H:=HA.out;clear HA;simp only[bf.l0]at H;have HC2:=ak H;clear H;go_upto_region 2 with(fail)
   go_cut [11] (fun v11 wc=>∃(kq:Nat) (wO:Bool),v11= .bool wO∧ah (bf.j1 kq a0 dD wO=some r)∧ah (kq≤k1)∧fK w wc)
   case first=>
    have H:=HC2.out;clear HC2;replace H:=sd H;rcases H with⟨gQ,H⟩|⟨gQ,H⟩
    ·(first|rw[gQ]|(simp only[bJ,b_];rw[gQ])|skip);have H':=ak H;clear H;go_wp2;go_meet
     case rel=>exact⟨_,(decide (dD≤200)),rs,H',⟨by have:=jv.out;first|omega|exact Nat.le_refl _⟩,dn⟩
    ·(first|rw[gQ]|(simp only[bJ,b_];rw[gQ])|skip);have H':=ak H;clear H;go_wp2;go_meet
     case rel=>exact⟨_,(false),rs,H',⟨by have:=jv.out;first|omega|exact Nat.le_refl _⟩,dn⟩
   case rest=>
    clear HC2;try clear c1
    try clear p2
    try clear c3
    try clear gQ
    obtain⟨kq,wO,rfl,HA,FY,⟨mc1,rfl⟩⟩:=hcut
    cases kq with
    |zero=>exact absurd HA.out (by simp[bf.j1])
    |succ Mc=>
     have H:=HA.out;clear HA;simp only[bf.j1]at H;replace H:=sb H;rcases H with⟨rfl,H⟩|⟨rfl,H⟩
     ·replace H:=oW H;obtain⟨sH,H⟩:=H;replace H:=oW H;obtain⟨oC,H⟩:=H;replace H:=sd H;rcases H with⟨yY,H⟩|⟨yY,H⟩
      ·obtain rfl:=Option.some.inj H;obtain⟨p7,q7,hx7⟩:=bx a0 dD;go_wp2;go_ret;exact⟨rs,dn⟩
      ·replace H:=sp H;rcases H with⟨c10,H⟩|⟨c10,H⟩
       ·have rP:decide (126<(bt a0 dD))=true:=decide_eq_true c10;clear c10;obtain rfl:=Option.some.inj H;obtain⟨p7,q7,hx7⟩:=bx a0 dD;obtain⟨p9,q9,hx9⟩:=bx a0 dD;go_wp2;go_ret;exact⟨rs,dn⟩
       ·have rP:decide (126<(bt a0 dD))=false:=decide_eq_false c10;clear c10;have H':=ak H;clear H;obtain⟨p7,q7,hx7⟩:=bx a0 dD;obtain⟨p9,q9,hx9⟩:=bx a0 dD;go_wp2;go_roundg Mc
        case measure=>have:=jv.out;have:=FY.out;omega
        case rel=>exact⟨(wrap64 (dD+1)),rs,H',⟨by have:=jv.out;have:=FY.out;omega⟩,dn⟩
     ·obtain rfl:=Option.some.inj H;go_wp2;go_ret;exact⟨rs,dn⟩
mutual
def jS.f:Nat→List (J_)→List ByteArray→List (FW)→Int→Option (Int)
 |0,_,_,_,_=>none
 |k+1,aN,aQ,aA,a1=>(iJ.f k aN a1).bind fun Cc=>(if Cc<0 then(some (-1))else((iH.f k aQ Cc).bind fun t107=>(if t107<0 then(some (-1))else((if(wrap64 (t107-(aA.length:Int)))<0 then(some (-1))else(jY.l0 k aA (wrap64 (t107-(aA.length:Int))) 0)).bind fun M_=>(if M_<0 then(some (-1))else(some M_))))))
def jY.l0:Nat→List (FW)→Int→Int→Option (Int)
 |0,_,_,_=>none
 |k+1,x0,x1,x5=>if x5<(x0.length:Int)then(if 0≤x5 then((jS.f k ((lT x0 x5).f0) ((lT x0 x5).f1) ((lT x0 x5).f2) x1).bind fun ai_=>(if ai_<0 then(some (-1))else(jY.l0 k x0 ai_ (wrap64 (x5+1)))))else(none))else(some x1)
end
def jY.f(k:Nat)(l0:List (FW))(a1:Int):Option (Int):=if(wrap64 (a1-(l0.length:Int)))<0 then(some (-1))else(jY.l0 k l0 (wrap64 (a1-(l0.length:Int))) 0)
theorem jS.NV(k:Nat)(aN:List (J_))(aQ:List ByteArray)(aA:List (FW))(a1:Int):jS.f (k+1) aN aQ aA a1=((iJ.f k aN a1).bind fun Cc=>(if Cc<0 then(some (-1))else((iH.f k aQ Cc).bind fun t107=>(if t107<0 then(some (-1))else((jY.f k aA t107).bind fun M_=>(if M_<0 then(some (-1))else(some M_))))))):=by simp only[jS.f,jY.f]
set_option maxHeartbeats 8000000 in
set_option maxRecDepth 100000 in
theorem jS.pair(k:Nat):(∀(cO:Option Addr) (cZ:Nat) (aN:List (J_)) (dh:Option Addr) (dw:Nat) (aQ:List ByteArray) (bH:Option Addr) (bg:Nat) (aA:List (FW)) (a1:Int) (r:Int) (w:World) (ku:Kd.C YJ w cO aN.length aN) (kC:aN.length≤cZ) (kD:Kd.C Kd.string w dh aQ.length aQ) (kE:aQ.length≤dw) (jg:Kd.C k26 w bH aA.length aA) (jh:aA.length≤bg) (h:jS.f k aN aQ aA a1=some r),
  Calls Tryz.prog 5 #[.agg #[.slice cO aN.length cZ, .slice dh aQ.length dw, .slice bH aA.length bg], .int .i64 a1] w fun e w'=>e= .returned (.int .i64 r)∧Below w.heap.size w w')∧
  (∀(A0:Option Addr) (c0:Nat) (l0:List (FW)) (a1:Int) (r:Int) (w:World) (hr0:Kd.C k26 w A0 l0.length l0) (hc0:l0.length≤c0) (h:jY.f k l0 a1=some r),
  Calls Tryz.prog 22 #[.slice A0 l0.length c0, .int .i64 a1] w fun e w'=>e= .returned (.int .i64 r)∧Below w.heap.size w w'):=by
 induction k using Nat.strongRecOn with
 |_ k ih=>
 refine⟨?_,?_⟩
 ·cases k with
  |zero=>intro cO cZ aN dh dw aQ bH bg aA a1 r w ku kC kD kE jg jh h;exact absurd h (by simp[jS.f])
  |succ k=>
  have ihB:=(ih k (Nat.lt_succ_self k)).2;clear ih;intro cO cZ aN dh dw aQ bH bg aA a1 r w ku kC kD kE jg jh h;rw[jS.NV]at h;have aos:=underlying26;have lU:=ak ku;have mX:=ak kC;clear ku kC;have oN:=ak kD;have qB:=ak kE;clear kD kE;have jF:=ak jg;have lV:=ak jh;clear jg jh;have HB:=ak (Below.refl w.heap.size w);have H:((iJ.f k aN a1).bind fun Cc=>(if Cc<0 then(some (-1))else((iH.f k aQ Cc).bind fun t107=>(if t107<0 then(some (-1))else((jY.f k aA t107).bind fun M_=>(if M_<0 then(some (-1))else(some M_)))))))=some r:=h;clear h;replace H:=bd H;obtain⟨Cc,A3,H⟩:=H;replace H:=sd H;rcases H with⟨oM,H⟩|⟨oM,H⟩
  ·obtain rfl:=Option.some.inj H;go_enter func5,ntmps5;go_wp2_with (first|(refine bE 2 #[.slice cO aN.length cZ, .slice dh aQ.length dw, .slice bH aA.length bg] 26 ?_;intro yX hg w5 hbox hb;have qQ:=ak (hbox);have agd:=mJ HB hg;have agf:=mJ HB hg;replace HB:=bs HB hb;clear hb hbox hg;obtain⟨aaF,aaG,aes,aaH,aaI,aeu⟩:=iE qQ.out)|(refine gL 21 8 func21 #[.slice cO aN.length cZ, .int .i64 a1] ?_;(with_reducible refine(iJ.calls k _ _ aN a1 Cc _ (cu (aK lU.out HB.out)) mX.out A3.out).mono ?_);rintro e w7 ⟨rfl,hb⟩;refine⟨_,rfl,?_⟩;replace qQ:=kb qQ hb;replace HB:=ak (aI bb hb);(try clear hb)))
   go_ret;exact⟨er,bb⟩
  ·replace H:=bd H;obtain⟨t107,A8,H⟩:=H;replace H:=sd H;rcases H with⟨y5,H⟩|⟨y5,H⟩
   ·obtain rfl:=Option.some.inj H;go_enter func5,ntmps5;go_wp2_with (first|(refine bE 2 #[.slice cO aN.length cZ, .slice dh aQ.length dw, .slice bH aA.length bg] 26 ?_;intro yX hg w10 hbox hb;have qQ:=ak (hbox);have agd:=mJ HB hg;have agf:=mJ HB hg;replace HB:=bs HB hb;clear hb hbox hg;obtain⟨Jd,Je,aoE,Jf,Jg,aoF⟩:=iE qQ.out)|(refine gL 21 8 func21 #[.slice cO aN.length cZ, .int .i64 a1] ?_;(with_reducible refine(iJ.calls k _ _ aN a1 Cc _ (cu (aK lU.out HB.out)) mX.out A3.out).mono ?_);rintro e w12 ⟨rfl,hb⟩;refine⟨_,rfl,?_⟩;replace qQ:=kb qQ hb;replace HB:=ak (aI bb hb);(try clear hb);obtain⟨yS,yT,aaq,yU,yV,aar⟩:=iE qQ.out)|(refine gL 15 14 func15 #[.slice dh aQ.length dw, .int .i64 Cc] ?_;(with_reducible refine(iH.calls k _ _ aQ Cc t107 _ (cu (aK oN.out HB.out)) qB.out A8.out).mono ?_);rintro e w' ⟨rfl,⟨nd,rfl⟩⟩;refine⟨_,rfl,?_⟩))
    go_ret;exact⟨er,bb⟩
   ·replace H:=bd H;obtain⟨M_,A14,H⟩:=H;replace H:=sd H;rcases H with⟨BN,H⟩|⟨BN,H⟩
    ·obtain rfl:=Option.some.inj H;go_enter func5,ntmps5;go_wp2_with (first|(refine bE 2 #[.slice cO aN.length cZ, .slice dh aQ.length dw, .slice bH aA.length bg] 26 ?_;intro yX hg w16 hbox hb;have qQ:=ak (hbox);have agd:=mJ HB hg;have agf:=mJ HB hg;replace HB:=bs HB hb;clear hb hbox hg;obtain⟨aoG,aoH,aoI,aoJ,aoK,aoL⟩:=iE qQ.out)|(refine gL 21 8 func21 #[.slice cO aN.length cZ, .int .i64 a1] ?_;(with_reducible refine(iJ.calls k _ _ aN a1 Cc _ (cu (aK lU.out HB.out)) mX.out A3.out).mono ?_);rintro e w18 ⟨rfl,hb⟩;refine⟨_,rfl,?_⟩;replace qQ:=kb qQ hb;replace HB:=ak (aI bb hb);(try clear hb);obtain⟨Vy,Vz,aat,VA,VB,aau⟩:=iE qQ.out)|(refine gL 15 14 func15 #[.slice dh aQ.length dw, .int .i64 Cc] ?_;(with_reducible refine(iH.calls k _ _ aQ Cc t107 _ (cu (aK oN.out HB.out)) qB.out A8.out).mono ?_);rintro e w' ⟨rfl,⟨nd,rfl⟩⟩;refine⟨_,rfl,?_⟩)|(refine gL 22 20 func22 #[.slice bH aA.length bg, .int .i64 t107] ?_;(with_reducible refine(ihB _ _ aA t107 M_ _ (cu (aK jF.out bb)) lV.out A14.out).mono ?_);rintro e w20 ⟨rfl,hb⟩;refine⟨_,rfl,?_⟩;replace qQ:=kb qQ hb;replace HB:=ak (aI bb hb);(try clear hb)))
     go_ret;exact⟨er,bb⟩
    ·obtain rfl:=Option.some.inj H;go_enter func5,ntmps5;go_wp2_with (first|(refine bE 2 #[.slice cO aN.length cZ, .slice dh aQ.length dw, .slice bH aA.length bg] 26 ?_;intro yX hg w21 hbox hb;have qQ:=ak (hbox);have agd:=mJ HB hg;have agf:=mJ HB hg;replace HB:=bs HB hb;clear hb hbox hg;obtain⟨IW,LZ,L6,IX,L8,L9⟩:=iE qQ.out)|(refine gL 21 8 func21 #[.slice cO aN.length cZ, .int .i64 a1] ?_;(with_reducible refine(iJ.calls k _ _ aN a1 Cc _ (cu (aK lU.out HB.out)) mX.out A3.out).mono ?_);rintro e w23 ⟨rfl,hb⟩;refine⟨_,rfl,?_⟩;replace qQ:=kb qQ hb;replace HB:=ak (aI bb hb);(try clear hb);obtain⟨aaU,aaV,aaW,aaX,aaY,aaZ⟩:=iE qQ.out)|(refine gL 15 14 func15 #[.slice dh aQ.length dw, .int .i64 Cc] ?_;(with_reducible refine(iH.calls k _ _ aQ Cc t107 _ (cu (aK oN.out HB.out)) qB.out A8.out).mono ?_);rintro e w' ⟨rfl,⟨nd,rfl⟩⟩;refine⟨_,rfl,?_⟩)|(refine gL 22 20 func22 #[.slice bH aA.length bg, .int .i64 t107] ?_;(with_reducible refine(ihB _ _ aA t107 M_ _ (cu (aK jF.out bb)) lV.out A14.out).mono ?_);rintro e w25 ⟨rfl,hb⟩;refine⟨_,rfl,?_⟩;replace qQ:=kb qQ hb;replace HB:=ak (aI bb hb);(try clear hb)))
     go_ret;exact⟨er,bb⟩
 ·intro A0 c0 l0 a1 r w hr0 hc0 h;have aos:=underlying26;have HR0:=ak hr0;have yx:=ak hc0;clear hr0 hc0;have HB:=ak (Below.refl w.heap.size w);have H:(if(wrap64 (a1-(l0.length:Int)))<0 then(some (-1))else(jY.l0 k l0 (wrap64 (a1-(l0.length:Int))) 0))=some r:=h;clear h;replace H:=sp H;rcases H with⟨c3,H⟩|⟨c3,H⟩
  ·have gQ:=decide_eq_true c3
   (try(have rC:decide ((a1-(l0.length:Int))<0)=true:=decide_eq_true (by have h_:=c3;unfold wrap64 at h_;omega)));clear c3;obtain rfl:=Option.some.inj H;go_enter func22,ntmps22;go_wp2;go_ret;exact⟨er,ul HB.out⟩
  ·have gQ:=decide_eq_false c3
   (try(have rC:decide ((a1-(l0.length:Int))<0)=false:=decide_eq_false (by have h_:=c3;unfold wrap64 at h_;omega)));clear c3;have H':=ak H;clear H;go_enter func22,ntmps22;go_wp2;go_loopg [1,5] k (fun kq v1 v5 w'=>∃(kU:Int) (aJ:Int),v1= .int .i64 kU∧v5= .int .i64 aJ∧ah (jY.l0 kq l0 kU aJ=some r)∧ah (kq≤k)∧ah (Below w.heap.size w w'))
   case atStart=>exact⟨(wrap64 (a1-(l0.length:Int))),(0),rs,rs,H',⟨Nat.le_refl _⟩,⟨ul HB.out⟩⟩
   case round=>
    clear H';try clear c2
    try clear p2
    try clear c3
    try clear gQ
    try clear rC
    obtain⟨kU,aJ,rfl,rfl,HA,jv,HB⟩:=hrel
    cases gk with
    |zero=>exact absurd HA.out (by simp[jY.l0])
    |succ k1=>
     have H:=HA.out;clear HA;simp only[jY.l0]at H;replace H:=sd H;rcases H with⟨oM,H⟩|⟨oM,H⟩
     ·replace H:=oW H;obtain⟨sH,H⟩:=H;replace H:=bd H;obtain⟨ai_,A6,H⟩:=H;replace H:=sd H;rcases H with⟨rU,H⟩|⟨rU,H⟩
      ·obtain rfl:=Option.some.inj H;have EK:=zi aJ;have EL:=zj aJ l0.length;obtain⟨EN,Jh,Ji,Jj,Jk,Jl,Jm,WW,sK,uS,uT,y9,zf,zh,zk,zl,zo⟩:=ad_ HR0.out aJ EK EL;cases WW;replace sK:=cl HB.out sK;replace uS:=cl HB.out uS;replace uT:=cl HB.out uT;have CZ:=ak zf;have Jo:=ak y9;clear zf y9;have C9:=ak zk;have Jp:=ak zh;clear zk zh;have C_:=ak zo;have Jq:=ak zl;clear zo zl;replace EK:=eq_true EK;replace EL:=eq_true EL;go_wp2_with (first|(refine gL 5 23 func5 #[.agg #[.slice Jh ((lT l0 aJ).f0).length Ji, .slice Jj ((lT l0 aJ).f1).length Jk, .slice Jl ((lT l0 aJ).f2).length Jm], .int .i64 kU] ?_;(with_reducible refine((ih k1 (by have:=jv.out;omega)).1 _ _ ((lT l0 aJ).f0) _ _ ((lT l0 aJ).f1) _ _ ((lT l0 aJ).f2) kU ai_ _ (cu (aK CZ.out HB.out)) Jo.out (cu (aK C9.out HB.out)) Jp.out (cu (aK C_.out HB.out)) Jq.out A6.out).mono ?_);rintro e w8 ⟨rfl,hb⟩;refine⟨_,rfl,?_⟩;replace HB:=bs HB hb;(try clear hb)))
       go_ret;exact⟨er,ul HB.out⟩
      ·have H':=ak H;clear H;have EK:=zi aJ;have EL:=zj aJ l0.length;obtain⟨EN,Jh,Ji,Jj,Jk,Jl,Jm,WW,sK,uS,uT,y9,zf,zh,zk,zl,zo⟩:=ad_ HR0.out aJ EK EL;cases WW;replace sK:=cl HB.out sK;replace uS:=cl HB.out uS;replace uT:=cl HB.out uT;have CZ:=ak zf;have Jo:=ak y9;clear zf y9;have C9:=ak zk;have Jp:=ak zh;clear zk zh;have C_:=ak zo;have Jq:=ak zl;clear zo zl;replace EK:=eq_true EK;replace EL:=eq_true EL;go_wp2_with (first|(refine gL 5 23 func5 #[.agg #[.slice Jh ((lT l0 aJ).f0).length Ji, .slice Jj ((lT l0 aJ).f1).length Jk, .slice Jl ((lT l0 aJ).f2).length Jm], .int .i64 kU] ?_;(with_reducible refine((ih k1 (by have:=jv.out;omega)).1 _ _ ((lT l0 aJ).f0) _ _ ((lT l0 aJ).f1) _ _ ((lT l0 aJ).f2) kU ai_ _ (cu (aK CZ.out HB.out)) Jo.out (cu (aK C9.out HB.out)) Jp.out (cu (aK C_.out HB.out)) Jq.out A6.out).mono ?_);rintro e w9 ⟨rfl,hb⟩;refine⟨_,rfl,?_⟩;replace HB:=bs HB hb;(try clear hb)))
       go_roundg k1
       case measure=>have:=jv.out;omega
       case rel=>exact⟨(ai_),(wrap64 (aJ+1)),rs,rs,H',⟨by have:=jv.out;omega⟩,⟨ul HB.out⟩⟩
     ·obtain rfl:=Option.some.inj H;go_wp2;go_ret;exact⟨er,ul HB.out⟩
theorem jS.calls(k:Nat)(cO:Option Addr)(cZ:Nat)(aN:List (J_))(dh:Option Addr)(dw:Nat)(aQ:List ByteArray)(bH:Option Addr)(bg:Nat)(aA:List (FW))(a1:Int)(r:Int)(w:World)(ku:Kd.C YJ w cO aN.length aN)(kC:aN.length≤cZ)(kD:Kd.C Kd.string w dh aQ.length aQ)(kE:aQ.length≤dw)(jg:Kd.C k26 w bH aA.length aA)(jh:aA.length≤bg)(h:jS.f k aN aQ aA a1=some r):
  Calls Tryz.prog 5 #[.agg #[.slice cO aN.length cZ, .slice dh aQ.length dw, .slice bH aA.length bg], .int .i64 a1] w fun e w'=>e= .returned (.int .i64 r)∧Below w.heap.size w w':=(jS.pair k).1 cO cZ aN dh dw aQ bH bg aA a1 r w ku kC kD kE jg jh h
theorem jY.calls(k:Nat)(A0:Option Addr)(c0:Nat)(l0:List (FW))(a1:Int)(r:Int)(w:World)(hr0:Kd.C k26 w A0 l0.length l0)(hc0:l0.length≤c0)(h:jY.f k l0 a1=some r):
  Calls Tryz.prog 22 #[.slice A0 l0.length c0, .int .i64 a1] w fun e w'=>e= .returned (.int .i64 r)∧Below w.heap.size w w':=(jS.pair k).2 A0 c0 l0 a1 r w hr0 hc0 h
mutual
def aV.j0:Nat→Int→List ByteArray→Bool→List (iq)→List ByteArray→List (jm)→Option (List ByteArray×Bool)
 |0,_,_,_,_,_,_=>none
 |k+1,x1,x6,x27,PL,Dc,Bj=>if x27=true then(some (([]:List ByteArray),false))else(if x6.length<8796093022208 then((some (x6++[(⟨#[]⟩:ByteArray)]:List ByteArray)).bind fun PN=>((mQ.f k PL Dc Bj).bind fun agz=>(if agz.2=true then(if(Dc.length:Int)>0 then(aV.j1 k x1 PN agz.1 true PL Dc Bj)else(if(Bj.length:Int)<1 then(aV.j1 k x1 PN agz.1 true PL Dc Bj)else(aV.j1 k x1 PN agz.1 (decide ((Bj.length:Int)>4)) PL Dc Bj)))else(if PN.length+Dc.length<8796093022208 then((some (PN++Dc:List ByteArray)).bind fun auW=>(if(Bj.length:Int)=0 then((tu.f k Dc 30).bind fun auX=>(some (auW,auX)))else(some (auW,false))))else(none)))))else(none))
def aV.j1:Nat→Int→List ByteArray→ByteArray→Bool→List (iq)→List ByteArray→List (jm)→Option (List ByteArray×Bool)
 |0,_,_,_,_,_,_,_=>none
 |k+1,x1,x6,x8,x66,PL,Dc,Bj=>if x66=true then(some (([]:List ByteArray),false))else(aV.l0 k x1 x6 x8 (([]:List (List ByteArray))) Bj (Bj.length:Int) 0)
def aV.l0:Nat→Int→List ByteArray→ByteArray→List (List ByteArray)→List (jm)→Int→Int→Option (List ByteArray×Bool)
 |0,_,_,_,_,_,_,_=>none
 |k+1,x1,x6,x8,x10,x69,x70,x71=>if x71<x70 then(if 0≤x71 then(if x71<(x69.length:Int)then((aV.f k ((aH x69 x71).f0) ((aH x69 x71).f1) ((aH x69 x71).f2) (wrap64 (x1-1))).bind fun asb=>(if asb.2=true then(if x10.length<5864062014805 then(aV.l0 k x1 x6 x8 (x10++[asb.1]) x69 x70 (wrap64 (x71+1)))else(none))else(some (([]:List ByteArray),false))))else(none))else(none))else((fG.f k x10 x8).bind fun ak4=>(if x6.length+ak4.1.length<8796093022208 then(some ((x6++ak4.1),ak4.2))else(none)))
def aV.f:Nat→List (iq)→List ByteArray→List (jm)→Int→Option (List ByteArray×Bool)
 |0,_,_,_,_=>none
 |k+1,aN,aQ,aA,a1=>(ji.f k aN).bind fun WX=>(if WX.2=true then(aV.j0 k a1 WX.1 (a1==0) aN aQ aA)else(aV.j0 k a1 WX.1 true aN aQ aA))
end
theorem aV.calls(k:Nat):∀(cO:Option Addr) (cZ:Nat) (aN:List (iq)) (dh:Option Addr) (dw:Nat) (aQ:List ByteArray) (bH:Option Addr) (bg:Nat) (aA:List (jm)) (a1:Int) (r1:List ByteArray) (r2:Bool) (w:World) (ku:Kd.C lg w cO aN.length aN) (kC:aN.length≤cZ) (kD:Kd.C Kd.string w dh aQ.length aQ) (kE:aQ.length≤dw) (jg:Kd.C k32 w bH aA.length aA) (jh:aA.length≤bg) (wI:MaxOk w) (h:aV.f k aN aQ aA a1=some (r1,r2)),
  Calls Tryz.prog 44 #[.agg #[.slice cO aN.length cZ, .slice dh aQ.length dw, .slice bH aA.length bg], .int .i64 a1] w fun e w'=>∃qZ:Value,e= .returned (.tuple #[qZ, .bool r2])∧Kd.R Kd.string 9 w' w.heap.size (fun _=>True) qZ r1∧Below w.heap.size w w':=by
 induction k using Nat.strongRecOn with
 |_ k ih=>
 intro cO cZ aN dh dw aQ bH bg aA a1 r1 r2 w ku kC kD kE jg jh wI h
 cases k with
 |zero=>exact absurd h (by simp[aV.f])
 |succ k=>
 simp only[aV.f]at h;have IQ:=underlying32;have lU:=ak ku;have mX:=ak kC;clear ku kC;have oN:=ak kD;have qB:=ak kE;clear kD kE;have jF:=ak jg;have lV:=ak jh;clear jg jh;have HG:=ak wI;clear wI;have HB:=ak (Below.refl w.heap.size w);have H:((ji.f k aN).bind fun WX=>(if WX.2=true then(aV.j0 k a1 WX.1 (a1==0) aN aQ aA)else(aV.j0 k a1 WX.1 true aN aQ aA)))=some (r1,r2):=h;clear h;replace H:=bd H;obtain⟨⟨aja,aFB⟩,A3,H⟩:=H
 (try dsimp only at H);have HC4:=ak H;clear H;go_enter func44,ntmps44;go_upto_region 2 with(first|(refine gG 2 ?_;refine bX HB 2 #[.slice cO aN.length cZ, .slice dh aQ.length dw, .slice bH aA.length bg] 32 ?_;intro CQ w5 iK aHT hb;replace HB:=bs HB hb;clear hb;have z6:=iE iK.out)|(refine gV func54 (ji.calls k _ _ aN aja aFB _ (cu (aK lU.out HB.out)) mX.out A3.out) ?_;rintro aoM w7 ⟨ho0,hb⟩;have asc:=ak (bP ho0 (aj bb));replace iK:=kb iK hb;replace HB:=bz HB hb;clear hb;(try clear ho0)))
 (try simp only[Act.put,jB,jC,l_c]);go_cut [27] (fun v27 wc=>∃(kq:Nat) (ak5:Bool),v27= .bool ak5∧ah (aV.j0 kq a1 aja ak5 aN aQ aA=some (r1,r2))∧ah (kq≤k)∧ah (Kd.R Kd.string 9 wc w.heap.size (fun _=>True) aoM aja)∧ah (wc.heap[CQ]? =some (.cells #[(.slice cO aN.length cZ),(.slice dh aQ.length dw),(.slice bH aA.length bg)] 32 (0,0)))∧ah (Below w.heap.size w wc))
 case first=>
  have H:=HC4.out;clear HC4;replace H:=sb H;rcases H with⟨rfl,H⟩|⟨rfl,H⟩
  ·have H':=ak H;clear H;go_wp2;go_meet
   case rel=>exact⟨_,_,rs,H',⟨YT⟩,⟨ur asc.out⟩,⟨ub iK.out⟩,⟨bb⟩⟩
  ·have H':=ak H;clear H;go_wp2;go_meet
   case rel=>exact⟨_,_,rs,H',⟨YT⟩,⟨ur asc.out⟩,⟨ub iK.out⟩,⟨bb⟩⟩
 case rest=>
  clear HC4;obtain⟨kq,ak5,rfl,HA,HJ3,pF,iK,HB⟩:=hcut
  cases kq with
  |zero=>exact zz HA.out
  |succ kj3=>
   obtain⟨H⟩:=HA;simp only[aV.j0]at H;replace H:=sb H;rcases H with⟨rfl,H⟩|⟨rfl,H⟩
   ·obtain⟨rfl,rfl⟩:=s2 H;go_wp2;go_ret2;exact⟨_,er,nx,bb⟩
   ·replace H:=nl H;obtain⟨acQ,H⟩:=H;replace H:=ny H;obtain⟨PN,ak6,H⟩:=H;replace H:=bd H;obtain⟨⟨ajb,aKv⟩,A11,H⟩:=H
    (try dsimp only at H);replace H:=sb H;rcases H with⟨rfl,H⟩|⟨rfl,H⟩
    ·have auY:=ak H;clear H;go_upto_region 8 with(first|((with_reducible refine dS (b:= .append) (xs:=#[.tmp 28, .tmp 29]) rfl ?_);(try(refine dW (by rfl) ?_;dsimp only));at_builtin;refine mD Kd.string (w0:=w) w.heap.size rfl (.tmp 28) (.tmp 29) 23 9 (.string ⟨#[]⟩) 16 rfl underlying23 info9 rfl (by decide) (by omega) aoM aja (⟨#[]⟩:ByteArray) [.string (⟨#[]⟩:ByteArray)] (fun _=>True) (fun _=>False) rfl rfl ?aP (fun _ hk=>hk.elim) ?aF ?aO ?aB ?aS ?aL ?_;(case aP=>exact rfl);(case aB=>exact bb);(case aF=>exact(fun _ _=>trivial));(case aO=>exact(ur pF.out));(case aS=>exact(aj bb));(case aL=>have:=acQ.out;omega);intro WY Ut ho hb hg hat;rw[←ak6.out]at ho;have wQ:=ak (ho);replace iK:=ak (eu (g:=CQ) (o:= .cells #[.slice cO aN.length cZ, .slice dh aQ.length dw, .slice bH aA.length bg] 32 (0,0)) (ub iK.out) hg (um pF.out iK.out (by decide)));replace HB:=ak (hb);clear ho hb hg hat pF;have z15:=iE iK.out)|(refine gB func51 (mQ.calls kj3 _ _ aN _ _ aQ _ _ aA ajb true _ (cu (aK lU.out HB.out)) mX.out (cu (aK oN.out HB.out)) qB.out (cu (aK jF.out HB.out)) lV.out ?zq A11.out) ?_;(case zq=>first|exact HG.out|exact MaxOk.below HG.out bb|(repeat(first|exact HG.out|apply MaxOk.drewN|apply MaxOk.drew)));intro w16 hb;replace wQ:=rb wQ hb;replace iK:=kb iK hb;replace HB:=bz HB hb;clear hb))
     (try simp only[Act.put,jB,jC,l_c]);go_cut [66] (fun v66 wc=>∃(kq:Nat) (aev:Bool),v66= .bool aev∧ah (aV.j1 kq a1 PN ajb aev aN aQ aA=some (r1,r2))∧ah (kq≤kj3)∧ah (Kd.R Kd.string 9 wc w.heap.size (fun _=>True) WY PN)∧ah (wc.heap[CQ]? =some (.cells #[(.slice cO aN.length cZ),(.slice dh aQ.length dw),(.slice bH aA.length bg)] 32 (0,0)))∧ah (Below w.heap.size w wc))
     case first=>
      have H:=auY.out;clear auY;replace H:=sp H;rcases H with⟨c17,H⟩|⟨c17,H⟩
      ·have yM:decide (0<(aQ.length:Int))=true:=decide_eq_true c17;have agA:decide (0<aQ.length)=true:=decide_eq_true (by omega);clear c17
       (first|rw[yM]|(simp only[bJ,b_];rw[yM])|skip);have H':=ak H;clear H;have z18:=iE iK.out;go_wp2;go_meet
       case rel=>exact⟨_,_,rs,H',⟨kl⟩,⟨ur wQ.out⟩,⟨ub iK.out⟩,⟨bb⟩⟩
      ·have yM:decide (0<(aQ.length:Int))=false:=decide_eq_false c17;have agA:decide (0<aQ.length)=false:=decide_eq_false (by omega);clear c17
       (first|rw[yM]|(simp only[bJ,b_];rw[yM])|skip);replace H:=sp H;rcases H with⟨c19,H⟩|⟨c19,H⟩
       ·have Kz:=decide_eq_true c19;have Pz:decide (aA.length<1)=true:=decide_eq_true (by omega);clear c19;have H':=ak H;clear H;have z20:=iE iK.out;go_wp2;go_meet
        case rel=>exact⟨_,_,rs,H',⟨kl⟩,⟨ur wQ.out⟩,⟨ub iK.out⟩,⟨bb⟩⟩
       ·have Kz:=decide_eq_false c19;have Pz:decide (aA.length<1)=false:=decide_eq_false (by omega);clear c19;have H':=ak H;clear H;have z21:=iE iK.out;go_wp2;go_meet
        case rel=>exact⟨_,_,rs,H',⟨kl⟩,⟨ur wQ.out⟩,⟨ub iK.out⟩,⟨bb⟩⟩
     case rest=>
      clear auY;obtain⟨kq,aev,rfl,HA,ak7,pF,iK,HB⟩:=hcut
      cases kq with
      |zero=>exact zz HA.out
      |succ ayE=>
       obtain⟨H⟩:=HA;simp only[aV.j1]at H;replace H:=sb H;rcases H with⟨rfl,H⟩|⟨rfl,H⟩
       ·obtain⟨rfl,rfl⟩:=s2 H;go_wp2;go_ret2;exact⟨_,er,nx,bb⟩
       ·obtain⟨aKw,ak8⟩:=nm ([]:List (List ByteArray));rw[←ak8.out]at H;have H':=ak H;clear H;go_wp2_with ((with_reducible refine fZ (N:=67) rfl ?_);(try(refine dW (by rfl) ?_;dsimp only));refine ase (Kd.slice 9 Kd.string) _ 23 ?hg (N:=67) ?hd (xs:=([]:List (List ByteArray))) (inner:=[]) (ok:=fun _=>True) (rE:=fun _=>True) ?hr ?hp (fun _ hk=>hk) trivial (Below.refl _ _) (Nat.le_refl _) (by simp) ?_;(case hd=>rfl);(case hg=>rfl);(case hr=>first|(go_simp;done)|(go_simp;rfl));(case hp=>exact(jJ.none _ _));intro aKx w23 aa0 hb wI lD;clear wI lD;(first|rw[←ak8.out]at aa0|(simp only[Int.reduceToNat]at aa0;rw[←ak8.out]at aa0));have ayF:=ak (IK (WZ aa0 (ru (ur pF.out))) (aj bb));replace pF:=rb pF hb;replace iK:=kb iK hb;replace HB:=bz HB hb;clear hb aa0;have z25:=iE iK.out)
        go_loopg [10,71] ayE (fun kq v10 v71 w'=>∃(Zv:List (List ByteArray)) (rX:Int),v71= .int .i64 rX∧ah (aV.l0 kq a1 PN ajb Zv aA (aA.length:Int) rX=some (r1,r2))∧ah (kq≤ayE)∧ah (Kd.R Kd.string 9 w' w.heap.size (fun _=>True) WY PN)∧ah (Kd.S (Kd.slice 9 Kd.string) 23 w' w.heap.size (fun k_=>some k_≠(WY:Value).ownBlock) v10 Zv)∧ah (w'.heap[CQ]? =some (.cells #[(.slice cO aN.length cZ),(.slice dh aQ.length dw),(.slice bH aA.length bg)] 32 (0,0)))∧ah (Below w.heap.size w w'))
        case atStart=>exact⟨_,_,rs,H',⟨Nat.le_refl _⟩,⟨ur pF.out⟩,⟨by(with_reducible repeat(first|apply Kd.nK|apply Kd.nM|apply pG));exact oz ayF.out (fun _ hk=>hk.2)⟩,⟨ub iK.out⟩,⟨bb⟩⟩
        case round=>
         clear H';obtain⟨Zv,rX,rfl,HA,HK3,pF,xJ,iK,HB⟩:=hrel
         cases gk with
         |zero=>exact zz HA.out
         |succ k3=>
          obtain⟨H⟩:=HA;simp only[aV.l0]at H;replace H:=sd H;rcases H with⟨WU,H⟩|⟨WU,H⟩
          ·replace H:=oW H;obtain⟨PD,H⟩:=H;replace H:=oW H;obtain⟨NH,H⟩:=H;replace H:=bd H;obtain⟨⟨ajc,aKy⟩,A29,H⟩:=H
           (try dsimp only at H);replace H:=sb H;rcases H with⟨rfl,H⟩|⟨rfl,H⟩
           ·replace H:=nl H;obtain⟨ak9,H⟩:=H;obtain⟨aKz,asf⟩:=nm (Zv++[ajc]);rw[←asf.out]at H;have H':=ak H;clear H;have aew:=zi rX;have aex:=zj rX aA.length;obtain⟨agB,Td,Tf,Ti,Tj,Tm,Tn,auZ,PO,PS,PU,PV,PW,PX,PY,PZ,P6⟩:=qY jF.out rX aew aex;cases auZ;replace PO:=cl HB.out PO;replace PS:=cl HB.out PS;replace PU:=cl HB.out PU;have aa1:=ak PW;have aa2:=ak PV;clear PW PV;have aa3:=ak PY;have aa4:=ak PX;clear PY PX;have aa5:=ak P6;have aa6:=ak PZ;clear P6 PZ;replace aew:=eq_true aew;replace aex:=eq_true aex;go_wp2_with (first|(refine gG 12 ?_;refine bY HB 12 #[.slice none 0 0, .slice none 0 0, .slice none 0 0] 32 ?_;intro UA w32 JR ayG hg hb;have Tq:=YK iK hg;have Tt:=YL iK hg;replace pF:=rb pF hb;replace xJ:=ak (F9 (by(with_reducible repeat(first|apply Kd.nK|apply Kd.nM|apply pG));exact xJ.out) hb);replace iK:=kb iK hb;replace HB:=bz HB hb;clear hb hg;have ayH:=Tt.out;have ayI:=Tq.out;have z34:=iE JR.out)|(refine gV func44 (ih k3 (by have:=HJ3.out;have:=ak7.out;have:=HK3.out;omega) _ _ ((aH aA rX).f0) _ _ ((aH aA rX).f1) _ _ ((aH aA rX).f2) (wrap64 (a1-1)) ajc true _ (aK aa1.out bb) aa2.out (aK aa3.out bb) aa4.out (aK aa5.out bb) aa6.out ?zq A29.out) ?_;(case zq=>first|exact HG.out|exact MaxOk.below HG.out bb|(repeat(first|exact HG.out|apply MaxOk.drewN|apply MaxOk.drew)));rintro aFC w35 ⟨ho0,hb⟩;have acR:=ak (bP (nI ho0 (ru (rh pF))) (aj bb));replace pF:=ak (nV (rh pF) (jf ho0) hb);replace xJ:=ak (KE (by(with_reducible repeat(first|apply Kd.nK|apply Kd.nM|apply pG));exact(oz (CS (p:=⟨UA,2,none⟩) (CS (p:=⟨UA,1,none⟩) (CS (p:=⟨UA,0,none⟩) (agC xJ.out JR.out (by decide)) (fun _ hk=>hk.2) (.slice Td ((aH aA rX).f0).length Tf)) (fun _ hk=>hk.2) (.slice Ti ((aH aA rX).f1).length Tj)) (fun _ hk=>hk.2) (.slice Tm ((aH aA rX).f2).length Tn)) (fun _ h_=>h_.1))) (jf ho0) hb);replace iK:=kp iK #[.slice cO aN.length cZ, .slice dh aQ.length dw, .slice (some agB) aA.length bg] hb;replace JR:=kp JR #[.slice Td ((aH aA rX).f0).length Tf, .slice Ti ((aH aA rX).f1).length Tj, .slice Tm ((aH aA rX).f2).length Tn] hb;replace HB:=bz HB hb;clear hb;(try clear ho0);obtain⟨ak_,ala,aa7⟩:=bG acR.out;subst aa7)|((with_reducible refine dS (b:= .append) (xs:=#[.tmp 84, .tmp 86]) rfl ?_);(try(refine dW (by rfl) ?_;dsimp only));at_builtin;refine WH (Kd.slice 9 Kd.string) (w0:=w) w.heap.size rfl (.tmp 84) (.tmp 86) 74 23 (.slice none 0 0) 24 rfl underlying74 info23 rfl (by decide) (by omega) u10 Zv ajc [.slice ak_ ajc.length ala] (fun k_=>some k_≠(WY:Value).ownBlock) (fun k_=>some k_=(.slice ak_ ajc.length ala:Value).ownBlock) rfl rfl ?aP (fun k_ hk_=>((aY (ok':=fun k_=>((fun k_=>some k_≠(WY:Value).ownBlock)) k_∧some k_≠(u10:Value).ownBlock) (vk (acR.out) (Gi xJ.out) (by decide)) (fun k_ hk=>⟨hk.1.2,hk.2⟩))).1 k_ hk_.symm) ?aF ?aO ?aB ?aS ?aL ?_;(case aP=>exact asg (aY (Gf rfl (aY (ok':=fun k_=>((fun k_=>some k_≠(WY:Value).ownBlock)) k_∧some k_≠(u10:Value).ownBlock) (vk (acR.out) (Gi xJ.out) (by decide)) (fun k_ hk=>⟨hk.1.2,hk.2⟩))) (fun _ h_=>h_)));(case aB=>exact bb);(case aF=>exact(fun k_ hk=>Kd.fresh' (ru (ur pF.out)) k_ hk));(case aO=>exact(by(with_reducible repeat(first|apply Kd.nK|apply Kd.nM|apply pG));exact oz xJ.out (fun k_ hk=>⟨hk.1,fun e_=>hk.2 e_⟩)));(case aS=>exact(aj bb));(case aL=>have:=ak9.out;omega);intro aKA w36 ho hb hg hat;rw[←asf.out]at ho;have ayJ:=ak (ho);replace pF:=ak (xq (ur pF.out) (Gi (by(with_reducible repeat(first|apply Kd.nK|apply Kd.nM|apply pG));exact xJ.out)) (by decide) hg);replace iK:=ak (eu (g:=CQ) (o:= .cells #[.slice cO aN.length cZ, .slice dh aQ.length dw, .slice (some agB) aA.length bg] 32 (0,0)) (ub iK.out) hg (au0 xJ.out iK.out (by decide)));replace JR:=ak (eu (g:=UA) (o:= .cells #[.slice Td ((aH aA rX).f0).length Tf, .slice Ti ((aH aA rX).f1).length Tj, .slice Tm ((aH aA rX).f2).length Tn] 32 (0,0)) (ub JR.out) hg (au0 xJ.out JR.out (by decide)));replace HB:=ak (hb);clear ho hb hg hat xJ acR))
            go_roundg k3
            case measure=>have:=HJ3.out;have:=ak7.out;have:=HK3.out;omega
            case rel=>exact⟨_,_,rs,H',⟨by have:=HJ3.out;have:=ak7.out;have:=HK3.out;omega⟩,⟨ur (aY pF.out (fun _ hk=>trivial))⟩,⟨by(with_reducible repeat(first|apply Kd.nK|apply Kd.nM|apply pG));exact ayJ.out⟩,⟨ub iK.out⟩,⟨bb⟩⟩
           ·obtain⟨rfl,rfl⟩:=s2 H;have aew:=zi rX;have aex:=zj rX aA.length;obtain⟨agB,Td,Tf,Ti,Tj,Tm,Tn,auZ,PO,PS,PU,PV,PW,PX,PY,PZ,P6⟩:=qY jF.out rX aew aex;cases auZ;replace PO:=cl HB.out PO;replace PS:=cl HB.out PS;replace PU:=cl HB.out PU;have aa1:=ak PW;have aa2:=ak PV;clear PW PV;have aa3:=ak PY;have aa4:=ak PX;clear PY PX;have aa5:=ak P6;have aa6:=ak PZ;clear P6 PZ;replace aew:=eq_true aew;replace aex:=eq_true aex;go_wp2_with (first|(refine gG 12 ?_;refine bY HB 12 #[.slice none 0 0, .slice none 0 0, .slice none 0 0] 32 ?_;intro UA w38 JR ayG hg hb;have Tq:=YK iK hg;have Tt:=YL iK hg;replace pF:=rb pF hb;replace xJ:=ak (F9 (by(with_reducible repeat(first|apply Kd.nK|apply Kd.nM|apply pG));exact xJ.out) hb);replace iK:=kb iK hb;replace HB:=bz HB hb;clear hb hg;have ayK:=Tt.out;have ayL:=Tq.out;have z40:=iE JR.out)|(refine gV func44 (ih k3 (by have:=HJ3.out;have:=ak7.out;have:=HK3.out;omega) _ _ ((aH aA rX).f0) _ _ ((aH aA rX).f1) _ _ ((aH aA rX).f2) (wrap64 (a1-1)) ajc false _ (aK aa1.out bb) aa2.out (aK aa3.out bb) aa4.out (aK aa5.out bb) aa6.out ?zq A29.out) ?_;(case zq=>first|exact HG.out|exact MaxOk.below HG.out bb|(repeat(first|exact HG.out|apply MaxOk.drewN|apply MaxOk.drew)));rintro aFC w41 ⟨ho0,hb⟩;have acR:=ak (bP (nI ho0 (ru (rh pF))) (aj bb));replace pF:=ak (nV (rh pF) (jf ho0) hb);replace xJ:=ak (KE (by(with_reducible repeat(first|apply Kd.nK|apply Kd.nM|apply pG));exact(oz (CS (p:=⟨UA,2,none⟩) (CS (p:=⟨UA,1,none⟩) (CS (p:=⟨UA,0,none⟩) (agC xJ.out JR.out (by decide)) (fun _ hk=>hk.2) (.slice Td ((aH aA rX).f0).length Tf)) (fun _ hk=>hk.2) (.slice Ti ((aH aA rX).f1).length Tj)) (fun _ hk=>hk.2) (.slice Tm ((aH aA rX).f2).length Tn)) (fun _ h_=>h_.1))) (jf ho0) hb);replace iK:=kp iK #[.slice cO aN.length cZ, .slice dh aQ.length dw, .slice (some agB) aA.length bg] hb;replace JR:=kp JR #[.slice Td ((aH aA rX).f0).length Tf, .slice Ti ((aH aA rX).f1).length Tj, .slice Tm ((aH aA rX).f2).length Tn] hb;replace HB:=bz HB hb;clear hb;(try clear ho0)))
            go_ret2;exact⟨_,er,nx,bb⟩
          ·replace H:=bd H;obtain⟨⟨alb,aFD⟩,A42,H⟩:=H
           (try dsimp only at H);replace H:=nl H;obtain⟨ayM,H⟩:=H;obtain⟨aKB,ash⟩:=nm (PN++alb);rw[←ash.out]at H;obtain⟨rfl,rfl⟩:=s2 H;obtain⟨ayN,ayO,au1⟩:=Df xJ.out;subst au1;go_wp2_with (first|(refine gV func56 (fG.calls k3 _ _ Zv ajb alb aFD _ (cu ((zu xJ.out).2.2)) ((zu xJ.out).2.1) A42.out) ?_;rintro aKC w45 ⟨ho0,hb⟩;have acS:=ak (bP (nI ho0 (ru (ur pF.out))) (aj bb));replace pF:=ak (nV (ur pF.out) (jf ho0) hb);replace xJ:=ak (KE (by(with_reducible repeat(first|apply Kd.nK|apply Kd.nM|apply pG));exact xJ.out) (jf ho0) hb);replace iK:=kb iK hb;replace HB:=bz HB hb;clear hb;(try clear ho0);obtain⟨ayP,ayQ,aFE⟩:=bG acS.out;subst aFE)|((with_reducible refine dS (b:= .append) (xs:=#[.tmp 95, .tmp 96]) rfl ?_);(try(refine dW (by rfl) ?_;dsimp only));at_builtin;refine oU Kd.string (w0:=w) w.heap.size rfl (.tmp 95) (.tmp 96) 23 9 (.string ⟨#[]⟩) 16 rfl underlying23 info9 rfl (by decide) (by omega) WY PN alb _ _ _ (fun k_=>some k_≠(.slice ayP alb.length ayQ:Value).ownBlock) (fun _=>False) rfl rfl ?aO ?aR (fun _ _ h=>h) (fun _ h=>h.elim) ?aF ?aB ?aS ?aL ?_;(case aR=>repeat(first|exact(dB acS.out).2.2|(with_reducible refine Kd.iP ?_ _)|(with_reducible refine Kd.iQ ?_ _)|(with_reducible refine Kd.jP ?_)));(case aB=>exact bb);(case aF=>exact(fun k_ hk=>Kd.fresh' (ru (ur acS.out)) k_ hk));(case aO=>exact(ur (aY pF.out (fun _ hk=>hk.2))));(case aS=>exact(aj bb));(case aL=>have:=ayM.out;omega);intro aKD w46 ho hb hg hat;rw[←ash.out]at ho;have ayR:=ak (ho);replace xJ:=ak (agD (ok:=(fun k_=>some k_≠(.slice ayP alb.length ayQ:Value).ownBlock)) (by(with_reducible repeat(first|apply Kd.nK|apply Kd.nM|apply pG));exact oz xJ.out (fun _ hk=>⟨hk.2,hk.1⟩)) hg hat);replace iK:=ak (eu (g:=CQ) (o:= .cells #[.slice cO aN.length cZ, .slice dh aQ.length dw, .slice bH aA.length bg] 32 (0,0)) (ub iK.out) hg (um pF.out iK.out (by decide)));replace acS:=ak (P7 (ok:=(fun _=>True)) (ur acS.out) hg hat);replace HB:=ak (hb);clear ho hb hg hat pF))
           go_ret2;exact⟨_,er,ur (aY ayR.out (fun _ hk=>trivial)),bb⟩
    ·replace H:=nl H;obtain⟨asi,H⟩:=H;replace H:=ny H;obtain⟨auW,asj,H⟩:=H;replace H:=sp H;rcases H with⟨c49,H⟩|⟨c49,H⟩
     ·have ayS:=beq_iff_eq.mpr c49;have ayT:=bne_eq_false_iff_eq.mpr c49;clear c49;replace H:=bd H;obtain⟨auX,A50,H⟩:=H;obtain⟨rfl,rfl⟩:=s2 H;try go_wp2_with (first|((with_reducible refine dS (b:= .append) (xs:=#[.tmp 28, .tmp 29]) rfl ?_);(try(refine dW (by rfl) ?_;dsimp only));at_builtin;refine mD Kd.string (w0:=w) w.heap.size rfl (.tmp 28) (.tmp 29) 23 9 (.string ⟨#[]⟩) 16 rfl underlying23 info9 rfl (by decide) (by omega) aoM aja (⟨#[]⟩:ByteArray) [.string (⟨#[]⟩:ByteArray)] (fun _=>True) (fun _=>False) rfl rfl ?aP (fun _ hk=>hk.elim) ?aF ?aO ?aB ?aS ?aL ?_;(case aP=>exact rfl);(case aB=>exact bb);(case aF=>exact(fun _ _=>trivial));(case aO=>exact(ur pF.out));(case aS=>exact(aj bb));(case aL=>have:=acQ.out;omega);intro WY w51 ho hb hg hat;rw[←ak6.out]at ho;have wQ:=ak (ho);replace iK:=ak (eu (g:=CQ) (o:= .cells #[.slice cO aN.length cZ, .slice dh aQ.length dw, .slice bH aA.length bg] 32 (0,0)) (ub iK.out) hg (um pF.out iK.out (by decide)));replace HB:=ak (hb);clear ho hb hg hat pF;have z52:=iE iK.out)|(refine gB func51 (mQ.calls kj3 _ _ aN _ _ aQ _ _ aA ajb false _ (cu (aK lU.out HB.out)) mX.out (cu (aK oN.out HB.out)) qB.out (cu (aK jF.out HB.out)) lV.out ?zq A11.out) ?_;(case zq=>first|exact HG.out|exact MaxOk.below HG.out bb|(repeat(first|exact HG.out|apply MaxOk.drewN|apply MaxOk.drew)));intro w53 hb;replace wQ:=rb wQ hb;replace iK:=kb iK hb;replace HB:=bz HB hb;clear hb))
      replace wQ:=ak (yB wQ.out);replace iK:=ak (aC iK.out);replace HB:=ak (fO HB.out);refine ro [3,11] [0,1,4,2,5,6,7,3,8,9,10,11,12,13,14] (fun w'=>w'.cell? ⟨CQ,0,none⟩=some (.slice cO aN.length cZ)∧w'.cell? ⟨CQ,1,none⟩=some (.slice dh aQ.length dw)∧w'.cell? ⟨CQ,2,none⟩=some (.slice bH aA.length bg)) ⟨(aG iK.out 0).trans rfl,(aG iK.out 1).trans rfl,(aG iK.out 2).trans rfl⟩ ?_
      generalize w53.drew=w54 at wQ iK HB⊢
      repeat refine Jr ?_
      refine ld (N:=some 41) (gk.trans rfl) rfl rfl (fun K hK=>?_);refine mV Kd.string (w0:=w) w.heap.size (by rfl) (.tmp 38) (.tmp 40) 23 9 (.string ⟨#[]⟩) 16 rfl underlying23 info9 rfl (by decide) (by omega) WY PN aQ _ _ _ (fun _=>True) (fun _=>False) rfl rfl ?aO ?aR (fun _ _ h=>h) (fun _ h=>h.elim) ?aF ?aB ?aS ?aL ?_
      (case aR=>repeat(first|exact(aK oN.out HB.out)|(with_reducible refine Kd.iP ?_ _)|(with_reducible refine Kd.iQ ?_ _)|(with_reducible refine Kd.jP ?_)))
      (case aB=>exact bb)
      (case aF=>exact(fun _ _=>trivial))
      (case aO=>exact(ur wQ.out))
      (case aS=>exact(aj bb))
      (case aL=>have:=asi.out;omega);intro aFF w55 ho hb hg hat
      rw[←asj.out]at ho;have ng:=ak (eu (g:=CQ) (o:= .cells #[.slice cO aN.length cZ, .slice dh aQ.length dw, .slice bH aA.length bg] 32 (0,0)) (ub iK.out) hg (um wQ.out iK.out (by decide)));have ni:=ak (hb);have qx:=ak (ho);clear iK HB wQ;have iK:=ng;have HB:=ni;have alc:=qx;clear ng ni qx ho hb hg hat
      refine hK.out _ _ ⟨(aG iK.out 0).trans rfl,(aG iK.out 1).trans rfl,(aG iK.out 2).trans rfl⟩ ?_;clear hK K;refine no (a':=?_) ?_ ?_
      rotate_left
      ·show Act.put _ (some 41) _=_
       simp only[Act.put,jB,jC,l_c,bJ,b_];rfl
      repeat refine Jr ?_
      refine rA func55 (tu.calls kj3 _ _ aQ 30 auX _ (cu (aK oN.out HB.out)) qB.out A50.out) ?_;intro nd;refine⟨sx,?_⟩;repeat refine Jr ?_
      refine on ?_;try go_wp2
      go_ret2;exact⟨_,er,ur alc.out,bb⟩
     ·have ayS:=beq_eq_false_iff_ne.mpr c49;have ayT:=bne_iff_ne.mpr c49;have aHU:¬(aA=[]):=fun h_=>c49 (by rw[h_];rfl)
      obtain⟨rfl,rfl⟩:=s2 H;try go_wp2_with (first|((with_reducible refine dS (b:= .append) (xs:=#[.tmp 28, .tmp 29]) rfl ?_);(try(refine dW (by rfl) ?_;dsimp only));at_builtin;refine mD Kd.string (w0:=w) w.heap.size rfl (.tmp 28) (.tmp 29) 23 9 (.string ⟨#[]⟩) 16 rfl underlying23 info9 rfl (by decide) (by omega) aoM aja (⟨#[]⟩:ByteArray) [.string (⟨#[]⟩:ByteArray)] (fun _=>True) (fun _=>False) rfl rfl ?aP (fun _ hk=>hk.elim) ?aF ?aO ?aB ?aS ?aL ?_;(case aP=>exact rfl);(case aB=>exact bb);(case aF=>exact(fun _ _=>trivial));(case aO=>exact(ur pF.out));(case aS=>exact(aj bb));(case aL=>have:=acQ.out;omega);intro WY w56 ho hb hg hat;rw[←ak6.out]at ho;have wQ:=ak (ho);replace iK:=ak (eu (g:=CQ) (o:= .cells #[.slice cO aN.length cZ, .slice dh aQ.length dw, .slice bH aA.length bg] 32 (0,0)) (ub iK.out) hg (um pF.out iK.out (by decide)));replace HB:=ak (hb);clear ho hb hg hat pF;have z57:=iE iK.out)|(refine gB func51 (mQ.calls kj3 _ _ aN _ _ aQ _ _ aA ajb false _ (cu (aK lU.out HB.out)) mX.out (cu (aK oN.out HB.out)) qB.out (cu (aK jF.out HB.out)) lV.out ?zq A11.out) ?_;(case zq=>first|exact HG.out|exact MaxOk.below HG.out bb|(repeat(first|exact HG.out|apply MaxOk.drewN|apply MaxOk.drew)));intro w58 hb;replace wQ:=rb wQ hb;replace iK:=kb iK hb;replace HB:=bz HB hb;clear hb))
      replace wQ:=ak (yB wQ.out);replace iK:=ak (aC iK.out);replace HB:=ak (fO HB.out);refine ro [3] [0,1,4,2,5,6,7,3,8,9,10,11,12,13,14] (fun w'=>w'.cell? ⟨CQ,0,none⟩=some (.slice cO aN.length cZ)∧w'.cell? ⟨CQ,1,none⟩=some (.slice dh aQ.length dw)∧w'.cell? ⟨CQ,2,none⟩=some (.slice bH aA.length bg)) ⟨(aG iK.out 0).trans rfl,(aG iK.out 1).trans rfl,(aG iK.out 2).trans rfl⟩ ?_
      generalize w58.drew=w59 at wQ iK HB⊢
      repeat(first|refine Jr ?_|refine lg_ ?_)
      refine ld (N:=some 41) (gk.trans rfl) rfl rfl (fun K hK=>?_);refine mV Kd.string (w0:=w) w.heap.size (by rfl) (.tmp 38) (.tmp 40) 23 9 (.string ⟨#[]⟩) 16 rfl underlying23 info9 rfl (by decide) (by omega) WY PN aQ _ _ _ (fun _=>True) (fun _=>False) rfl rfl ?aO ?aR (fun _ _ h=>h) (fun _ h=>h.elim) ?aF ?aB ?aS ?aL ?_
      (case aR=>repeat(first|exact(aK oN.out HB.out)|(with_reducible refine Kd.iP ?_ _)|(with_reducible refine Kd.iQ ?_ _)|(with_reducible refine Kd.jP ?_)))
      (case aB=>exact bb)
      (case aF=>exact(fun _ _=>trivial))
      (case aO=>exact(ur wQ.out))
      (case aS=>exact(aj bb))
      (case aL=>have:=asi.out;omega);intro aFF w60 ho hb hg hat
      rw[←asj.out]at ho;have ng:=ak (eu (g:=CQ) (o:= .cells #[.slice cO aN.length cZ, .slice dh aQ.length dw, .slice bH aA.length bg] 32 (0,0)) (ub iK.out) hg (um wQ.out iK.out (by decide)));have ni:=ak (hb);have qx:=ak (ho);clear iK HB wQ;have iK:=ng;have HB:=ni;have alc:=qx;clear ng ni qx ho hb hg hat
      refine hK.out _ _ ⟨(aG iK.out 0).trans rfl,(aG iK.out 1).trans rfl,(aG iK.out 2).trans rfl⟩ ?_;clear hK K;refine no (a':=?_) ?_ ?_
      rotate_left
      ·show Act.put _ (some 41) _=_
       simp only[Act.put,jB,jC,l_c,bJ,b_];rfl
      repeat(first|refine Jr ?_|refine lg_ ?_)
      refine on ?_;try go_wp2
      go_ret2;exact⟨_,er,ur alc.out,bb⟩
def pY.f(k:Nat)(aN:List (iq))(aQ:List ByteArray)(aA:List (jm)):Option (Bool):=(aV.f k aN aQ aA 3).bind fun ald=>(some ald.2)
set_option maxHeartbeats 8000000 in
set_option maxRecDepth 100000 in
theorem pY.calls(k:Nat)(cO:Option Addr)(cZ:Nat)(aN:List (iq))(dh:Option Addr)(dw:Nat)(aQ:List ByteArray)(bH:Option Addr)(bg:Nat)(aA:List (jm))(r:Bool)(w:World)(ku:Kd.C lg w cO aN.length aN)(kC:aN.length≤cZ)(kD:Kd.C Kd.string w dh aQ.length aQ)(kE:aQ.length≤dw)(jg:Kd.C k32 w bH aA.length aA)(jh:aA.length≤bg)(wI:MaxOk w)(h:pY.f k aN aQ aA=some r):
  Calls Tryz.prog 27 #[.agg #[.slice cO aN.length cZ, .slice dh aQ.length dw, .slice bH aA.length bg]] w fun e w'=>e= .returned (.bool r)∧Below w.heap.size w w':=by
 have IQ:=underlying32;have lU:=ak ku;have mX:=ak kC;clear ku kC;have oN:=ak kD;have qB:=ak kE;clear kD kE;have jF:=ak jg;have lV:=ak jh;clear jg jh;have HG:=ak wI;clear wI;have HB:=ak (Below.refl w.heap.size w);have H:((aV.f k aN aQ aA 3).bind fun ald=>(some ald.2))=some r:=h;clear h;replace H:=bd H;obtain⟨⟨aFG,aFH⟩,A2,H⟩:=H
 (try dsimp only at H);obtain rfl:=Option.some.inj H;go_enter func27,ntmps27;go_wp2_with (first|(refine bE 1 #[.slice cO aN.length cZ, .slice dh aQ.length dw, .slice bH aA.length bg] 32 ?_;intro aHV hg w3 hbox hb;have ale:=ak (hbox);have aHW:=mJ HB hg;have aHX:=mJ HB hg;replace HB:=bs HB hb;clear hb hbox hg;obtain⟨aey,alf,au2,aez,alg,au3⟩:=iE ale.out)|(refine gL 44 7 func44 #[.agg #[.slice cO aN.length cZ, .slice dh aQ.length dw, .slice bH aA.length bg], .int .i64 3] ?_;(with_reducible refine(aV.calls k _ _ aN _ _ aQ _ _ aA 3 aFG aFH _ ?oG ?qU ?EO ?EP ?ER ?ES ?zq A2.out).mono ?_);(case oG=>repeat(first|exact(aK lU.out HB.out)|(with_reducible refine Kd.iP ?_ _)|(with_reducible refine Kd.iQ ?_ _)|(with_reducible refine Kd.jP ?_)));(case qU=>exact mX.out);(case EO=>repeat(first|exact(aK oN.out HB.out)|(with_reducible refine Kd.iP ?_ _)|(with_reducible refine Kd.iQ ?_ _)|(with_reducible refine Kd.jP ?_)));(case EP=>exact qB.out);(case ER=>repeat(first|exact(aK jF.out HB.out)|(with_reducible refine Kd.iP ?_ _)|(with_reducible refine Kd.iQ ?_ _)|(with_reducible refine Kd.jP ?_)));(case ES=>exact lV.out);(case zq=>first|exact HG.out|exact MaxOk.below HG.out bb|(repeat(first|exact HG.out|apply MaxOk.drewN|apply MaxOk.drew)));rintro e w5 ⟨aKE,rfl,ho0,hb⟩;refine⟨_,rfl,?_⟩;have aHY:=ak (bP ho0 (aj bb));replace ale:=kb ale hb;replace HB:=ak (aI bb hb);(try clear hb);(try clear ho0)))
 go_ret;exact⟨er,bb⟩
def rF.f(l0:List iq):Option (List iq):=if l0.length<4398046511104 then some l0 else none
set_option maxHeartbeats 8000000 in
set_option maxRecDepth 100000 in
theorem rF.calls(A0:Option Addr)(c0:Nat)(l0:List iq)(r:List iq)(w:World)(hr0:Kd.C lg w A0 l0.length l0)(hc0:l0.length≤c0)(h:rF.f l0=some r):
  Calls Tryz.prog 45 #[.slice A0 l0.length c0] w fun e w'=>∃qZ:Value,e= .returned (qZ)∧Kd.R lg 63 w' w.heap.size (fun _=>True) qZ r∧Below w.heap.size w w':=by
 unfold rF.f at h;split at h
 ·rename_i hlen
  cases h;have q_:∀(w:World) (a:Option Addr) (n c n' c':Nat),(binOp .eql 29 (.slice a n c) (.slice none n' c')).run Tryz.prog w= .ok (.bool a.isNone) w:=fun w a n c n' c'=>Lib.run_eql_slice_nil w _ _ a n c n' c' underlying29
  cases A0 with
  |none=>
   obtain rfl:l0=[]:=by
    cases l0 with
    |nil=>rfl
    |cons x l=>
     obtain⟨_,_,hC⟩:=hr0;obtain⟨ad,h,_⟩:=hC (by simp);cases h
   go_enter func45,ntmps45;go_wp2;go_ret;exact⟨_,rfl,nx,Below.refl _ _⟩
  |some ad=>
   have HR0:=ak hr0;have yx:=ak hc0;have LM:=ak hlen;clear hr0 hc0 hlen;have HB:=ak (Below.refl w.heap.size w);obtain⟨y1,Ny1⟩:=nm ([]:List iq);obtain⟨y2,Ny2⟩:=nm (y1++l0);have hy:y2=l0:=by rw[Ny2.out,Ny1.out,List.nil_append]
   have hn:y1.length=0:=by rw[Ny1.out];rfl
   go_enter func45,ntmps45;go_wp2_with (first|(refine lRN 5 lg 63 Ny1 ?_;intro v3 w7 Us hb;have HO1:=ak (bP Us (aj bb));replace HB:=bz HB hb;clear hb Us)|((with_reducible refine dS (b:= .append) (xs:=#[.tmp 5, .tmp 6]) rfl ?_);at_builtin;refine oU lg (w0:=w) w.heap.size rfl (.tmp 5) (.tmp 6) 29 63 (.agg #[(.string ⟨#[]⟩),(.string ⟨#[]⟩)]) 32 rfl underlying29 Aq rfl (by decide) (by omega) v3 y1 l0 _ _ _ (fun _=>True) (fun _=>False) rfl rfl ?hO ?hR (fun _ _ h=>h) (fun _ h=>h.elim) ?hF ?hB ?hS ?hL ?_;(case hR=>repeat(first|exact(aK HR0.out HB.out)|(with_reducible refine Kd.iP ?_ _)|(with_reducible refine Kd.iQ ?_ _)|(with_reducible refine Kd.jP ?_)));(case hB=>exact bb);(case hF=>exact(fun _ _=>trivial));(case hO=>exact(ur HO1.out));(case hS=>exact(aj bb));(case hL=>have:=LM.out;omega);intro v6 w12 ho hb hg hat;rw[←Ny2.out,hy]at ho;have HO2:=ak (ho);replace HB:=ak (hb);clear ho hb hg hat HO1))
   go_ret;exact⟨_,rfl,HO2.out,bb⟩
 ·cases h
def jc.f(l0:List ByteArray):Option (List ByteArray):=if l0.length<8796093022208 then some l0 else none
set_option maxHeartbeats 8000000 in
set_option maxRecDepth 100000 in
theorem jc.calls(A0:Option Addr)(c0:Nat)(l0:List ByteArray)(r:List ByteArray)(w:World)(hr0:Kd.C Kd.string w A0 l0.length l0)(hc0:l0.length≤c0)(h:jc.f l0=some r):
  Calls Tryz.prog 46 #[.slice A0 l0.length c0] w fun e w'=>∃qZ:Value,e= .returned (qZ)∧Kd.R Kd.string 9 w' w.heap.size (fun _=>True) qZ r∧Below w.heap.size w w':=by
 unfold jc.f at h;split at h
 ·rename_i hlen
  cases h;have q_:∀(w:World) (a:Option Addr) (n c n' c':Nat),(binOp .eql 23 (.slice a n c) (.slice none n' c')).run Tryz.prog w= .ok (.bool a.isNone) w:=fun w a n c n' c'=>Lib.run_eql_slice_nil w _ _ a n c n' c' underlying23
  cases A0 with
  |none=>
   obtain rfl:l0=[]:=by
    cases l0 with
    |nil=>rfl
    |cons x l=>
     obtain⟨_,_,hC⟩:=hr0;obtain⟨ad,h,_⟩:=hC (by simp);cases h
   go_enter func46,ntmps46;go_wp2;go_ret;exact⟨_,rfl,nx,Below.refl _ _⟩
  |some ad=>
   have HR0:=ak hr0;have yx:=ak hc0;have LM:=ak hlen;clear hr0 hc0 hlen;have HB:=ak (Below.refl w.heap.size w);obtain⟨y1,Ny1⟩:=nm ([]:List ByteArray);obtain⟨y2,Ny2⟩:=nm (y1++l0);have hy:y2=l0:=by rw[Ny2.out,Ny1.out,List.nil_append]
   have hn:y1.length=0:=by rw[Ny1.out];rfl
   go_enter func46,ntmps46;go_wp2_with (first|(refine lRN 5 Kd.string 9 Ny1 ?_;intro v3 w7 Us hb;have HO1:=ak (bP Us (aj bb));replace HB:=bz HB hb;clear hb Us)|((with_reducible refine dS (b:= .append) (xs:=#[.tmp 5, .tmp 6]) rfl ?_);at_builtin;refine oU Kd.string (w0:=w) w.heap.size rfl (.tmp 5) (.tmp 6) 23 9 (.string ⟨#[]⟩) 16 rfl underlying23 info9 rfl (by decide) (by omega) v3 y1 l0 _ _ _ (fun _=>True) (fun _=>False) rfl rfl ?hO ?hR (fun _ _ h=>h) (fun _ h=>h.elim) ?hF ?hB ?hS ?hL ?_;(case hR=>repeat(first|exact(aK HR0.out HB.out)|(with_reducible refine Kd.iP ?_ _)|(with_reducible refine Kd.iQ ?_ _)|(with_reducible refine Kd.jP ?_)));(case hB=>exact bb);(case hF=>exact(fun _ _=>trivial));(case hO=>exact(ur HO1.out));(case hS=>exact(aj bb));(case hL=>have:=LM.out;omega);intro v6 w12 ho hb hg hat;rw[←Ny2.out,hy]at ho;have HO2:=ak (ho);replace HB:=ak (hb);clear ho hb hg hat HO1))
   go_ret;exact⟨_,rfl,HO2.out,bb⟩
 ·cases h
mutual
def dR.l0:Nat→List (jm)→Int→Int→List (iq)→List ByteArray→List (jm)→Option ((List (iq))×List ByteArray×(List (jm)))
 |0,_,_,_,_,_,_=>none
 |k+1,x14,x15,x16,agE,agF,aa8=>if x16<x15 then(if 0≤x16 then(if x16<(x14.length:Int)then((dR.f k ((aH x14 x16).f0) ((aH x14 x16).f1) ((aH x14 x16).f2)).bind fun alh=>(if aa8.length<1954687338268 then(dR.l0 k x14 x15 (wrap64 (x16+1)) agE agF (aa8++[(⟨alh.1,alh.2.1,alh.2.2⟩:jm)]))else(none)))else(none))else(none))else(some (agE,agF,aa8))
def dR.f:Nat→List (iq)→List ByteArray→List (jm)→Option ((List (iq))×List ByteArray×(List (jm)))
 |0,_,_,_=>none
 |k+1,aN,aQ,aA=>(rF.f aN).bind fun vH=>((jc.f aQ).bind fun vV=>(dR.l0 k aA (aA.length:Int) 0 vH vV ([]:List (jm))))
end
def dR.T1:Bool×List (List Nat×List Nat):=(true,[([],[]),([0],[0]),([1],[1]),([],[]),([3],[3]),([4,2],[4]),([2,5],[2,5]),([],[]),([7,6,5,0,1,2,3,4,5,6,7],[6,7])])
def dR.B1:List Nat:=[0,1,3,0,8,31,63,0,255]
theorem dR.au4:xu .any (opsOf Tryz.f28 1)=dR.T1:=by kernel_rfl
theorem dR.ali:uf dR.T1.2 dR.B1=true:=by kernel_rfl
def dR.T5:Bool×List (List Nat×List Nat):=(true,[([],[]),([0],[0]),([],[]),([2],[2]),([3],[3]),([1,4,3],[1,4]),([0,1,2,3,4,5],[]),([6,5,5,0,1,2,3,4,5],[5,6])])
def dR.B5:List Nat:=[0,1,0,4,12,31,63,127]
theorem dR.au5:xu .any (opsOf Tryz.f28 5)=dR.T5:=by kernel_rfl
theorem dR.alj:uf dR.T5.2 dR.B5=true:=by kernel_rfl
set_option maxHeartbeats 8000000 in
set_option maxRecDepth 100000 in
theorem dR.calls(k:Nat):∀(cO:Option Addr) (cZ:Nat) (aN:List (iq)) (dh:Option Addr) (dw:Nat) (aQ:List ByteArray) (bH:Option Addr) (bg:Nat) (aA:List (jm)) (r1:List (iq)) (r2:List ByteArray) (r3:List (jm)) (w:World) (ku:Kd.C lg w cO aN.length aN) (kC:aN.length≤cZ) (kD:Kd.C Kd.string w dh aQ.length aQ) (kE:aQ.length≤dw) (jg:Kd.C k32 w bH aA.length aA) (jh:aA.length≤bg) (h:dR.f k aN aQ aA=some (r1,r2,r3)),
  Calls Tryz.prog 28 #[.agg #[.slice cO aN.length cZ, .slice dh aQ.length dw, .slice bH aA.length bg]] w fun e w'=>∃qZ IL Ko:Value,e= .returned (.agg #[qZ,IL,Ko])∧Kd.R lg 63 w' w.heap.size (fun _=>True) qZ r1∧Kd.R Kd.string 9 w' w.heap.size (fun _=>True) IL r2∧Kd.S kA 32 w' w.heap.size (fun k_=>some k_≠(qZ:Value).ownBlock∧some k_≠(IL:Value).ownBlock) Ko r3∧Below w.heap.size w w':=by
 induction k using Nat.strongRecOn with
 |_ k ih=>
 intro cO cZ aN dh dw aQ bH bg aA r1 r2 r3 w ku kC kD kE jg jh h
 cases k with
 |zero=>exact absurd h (by simp[dR.f])
 |succ k=>
 simp only[dR.f]at h;have IQ:=underlying32;have lU:=ak ku;have mX:=ak kC;clear ku kC;have oN:=ak kD;have qB:=ak kE;clear kD kE;have jF:=ak jg;have lV:=ak jh;clear jg jh;have HB:=ak (Below.refl w.heap.size w);have H:((rF.f aN).bind fun vH=>((jc.f aQ).bind fun vV=>(dR.l0 k aA (aA.length:Int) 0 vH vV ([]:List (jm)))))=some (r1,r2,r3):=h;clear h;replace H:=bd H;obtain⟨vH,A2,H⟩:=H;replace H:=bd H;obtain⟨vV,A3,H⟩:=H;have H':=ak H;clear H;go_enter func28,ntmps28;try go_wp2_with (first|(refine bE 1 #[.slice cO aN.length cZ, .slice dh aQ.length dw, .slice bH aA.length bg] 32 ?_;intro qc hg w4 hbox hb;have iL:=ak (hbox);have aHZ:=mJ HB hg;have aH0:=mJ HB hg;replace HB:=bs HB hb;clear hb hbox hg)|(refine bE 2 #[.slice none 0 0, .slice none 0 0, .slice none 0 0] 32 ?_;intro oZ hg w5 hbox hb;have lF:=ak (hbox);have aH1:=ak ((by rw[hg];exact(aj bb):w.heap.size≤oZ));have aH2:=ak ((by rw[hg];exact(aj bb):w.heap.size≤oZ));have Zw:=ak ((by rw[hg];exact Nat.ne_of_lt (dI (ub iL.out)):qc≠oZ));have Zx:=ak ((by rw[hg];exact Nat.ne_of_gt (dI (ub iL.out)):oZ≠qc));replace iL:=kb iL hb;replace HB:=ak (aI bb hb);clear hb hbox hg))
 replace iL:=ak (aC iL.out);replace lF:=ak (aC lF.out);replace HB:=ak (fO HB.out);refine Js (n:=9) (S:=fun w'=>w'.cell? ⟨qc,0,none⟩=some (.slice cO aN.length cZ)∧w'.cell? ⟨qc,1,none⟩=some (.slice dh aQ.length dw)∧w'.cell? ⟨qc,2,none⟩=some (.slice bH aA.length bg)) (ds:=[]) #[false,false,false,false,false,false,false,false,false] (by kernel_rfl) rfl rfl ⟨(aG iL.out 0).trans rfl,(aG iL.out 1).trans rfl,(aG iL.out 2).trans rfl⟩ (fun hHeld=>?_);refine AL dR.au4 dR.ali (fun ug HW_=>?_)
 generalize w5.drew=w6 at iL lF HB hHeld⊢
 refine rG (i:=0) (N:=some 6) (v:=?_) (a':=?_) #[true,false,false,false,false,false,false,false,false] rfl rfl (rZ ug.out (by kernel_rfl)) (fun _ _ _ h=>h) (Or.inl ⟨by rfl,?_⟩) ?_ ?_
 rotate_left
 ·intro w';go_simp
  with_reducible rfl
 rotate_left
 ·simp only[Act.put,jB,jC,l_c,bJ,b_];rfl
 refine rG (i:=3) (N:=some 9) (v:=?_) (a':=?_) #[true,false,false,true,false,false,false,false,false] rfl rfl (rZ ug.out (by kernel_rfl)) (fun _ _ _ h=>h) (Or.inl ⟨by rfl,?_⟩) ?_ ?_
 rotate_left
 ·intro w';go_simp
  with_reducible rfl
 rotate_left
 ·simp only[Act.put,jB,jC,l_c,bJ,b_];rfl
 refine BO (i:=1) (N:=some 7) (v:=?_) (a':=?_) #[true,true,false,true,false,false,false,false,false] rfl rfl (uw ug.out HW_.out (by kernel_rfl)) (fun _ _ _ h=>h) (Or.inl ⟨by rfl,?_⟩) hHeld ?_ ?_
 rotate_left
 ·rintro w' ⟨s0,s1,s2⟩;go_simp
  with_reducible rfl
 rotate_left
 ·simp only[Act.put,jB,jC,l_c,bJ,b_];rfl
 refine BO (i:=4) (N:=some 10) (v:=?_) (a':=?_) #[true,true,false,true,true,false,false,false,false] rfl rfl (uw ug.out HW_.out (by kernel_rfl)) (fun _ _ _ h=>h) (Or.inl ⟨by rfl,?_⟩) hHeld ?_ ?_
 rotate_left
 ·rintro w' ⟨s0,s1,s2⟩;go_simp
  with_reducible rfl
 rotate_left
 ·simp only[Act.put,jB,jC,l_c,bJ,b_];rfl
 refine Gj (σ:=Value×Value×Nat) 1 #[true,true,true,true,true,true,true,true,false] (fun s_=>[(8,s_.1),(11,s_.2.1),(3, .pointer (some ⟨s_.2.2,0,none⟩)),(12, .agg #[s_.1,s_.2.1, .slice none 0 0])]) (fun s_ w'=>(w'.cell? ⟨qc,0,none⟩=some (.slice cO aN.length cZ)∧w'.cell? ⟨qc,1,none⟩=some (.slice dh aQ.length dw)∧w'.cell? ⟨qc,2,none⟩=some (.slice bH aA.length bg))∧(Kd.R lg 63 w' w.heap.size (fun _=>True) s_.1 vH)∧(Kd.R Kd.string 9 w' w.heap.size (fun _=>True) s_.2.1 vV)∧(w'.heap[qc]? =some (.cells #[.slice cO aN.length cZ, .slice dh aQ.length dw, .slice bH aA.length bg] 32 (0,0)))∧(w'.heap[oZ]? =some (.cells #[.slice none 0 0, .slice none 0 0, .slice none 0 0] 32 (0,0)))∧(w'.heap[s_.2.2]? =some (.cells #[.slice none 0 0, .slice none 0 0, .slice none 0 0] 32 (0,0)))∧(w.heap.size≤s_.2.2)∧(w.heap.size≤s_.2.2)∧(qc≠s_.2.2)∧(s_.2.2≠qc)∧(oZ≠s_.2.2)∧(s_.2.2≠oZ)∧(Below w.heap.size w w')) ?_ ?_
 rotate_left
 ·intro alk;refine acT (i:=2) (j:=7) (Ni:=some 8) (Nj:=some 3) #[true,true,true,true,true,false,false,false,false] #[true,true,false,true,true,false,false,true,false] rfl rfl rfl rfl (KF ug.out (by kernel_rfl)) (by decide) (by decide) (fun K hK=>?_) (fun K hK=>?_)
  ·skip
   refine vG func45 (by kernel_rfl) rfl #[.slice cO aN.length cZ] (by rfl) rfl rfl ma ?_
   with_reducible refine(rF.calls _ _ aN vH _ ?oG ?qU A2.out).mono ?_
   (case oG=>repeat(first|exact(aK lU.out HB.out)|(with_reducible refine Kd.iP ?_ _)|(with_reducible refine Kd.iQ ?_ _)|(with_reducible refine Kd.jP ?_)))
   (case qU=>exact mX.out);rintro e w7 ⟨au6,rfl,ho0,hb⟩;refine⟨_,rfl,?_⟩;have yN:=ak (bP ho0 (aj bb));replace iL:=kb iL hb;replace lF:=kb lF hb;replace HB:=ak (aI bb hb)
   (try clear hb)
   (try clear ho0);refine hK.out _ _ ⟨(aG iL.out 0).trans rfl,(aG iL.out 1).trans rfl,(aG iL.out 2).trans rfl⟩ (fun hHeld=>?_);clear hK K;refine iT (a':=?_) ?_ ?_
   rotate_left
   ·show Act.put _ (some 8) _=_
    simp only[Act.put,jB,jC,l_c,bJ,b_];rfl
   refine acT (i:=5) (j:=7) (Ni:=some 11) (Nj:=some 3) #[true,true,true,true,true,true,false,false,false] #[true,true,true,true,true,false,false,true,false] rfl rfl rfl rfl (KF ug.out (by kernel_rfl)) (by decide) (by decide) (fun K hK=>?_) (fun K hK=>?_)
   ·skip
    refine vG func46 (by kernel_rfl) rfl #[.slice dh aQ.length dw] (by rfl) rfl rfl ma ?_
    with_reducible refine(jc.calls _ _ aQ vV _ ?oG ?qU A3.out).mono ?_
    (case oG=>repeat(first|exact(aK oN.out HB.out)|(with_reducible refine Kd.iP ?_ _)|(with_reducible refine Kd.iQ ?_ _)|(with_reducible refine Kd.jP ?_)))
    (case qU=>exact qB.out);rintro e w8 ⟨aoN,rfl,ho0,hb⟩;refine⟨_,rfl,?_⟩;have H9:=ak (bP ho0 (aj bb));replace yN:=rb yN hb;replace iL:=kb iL hb;replace lF:=kb lF hb;replace HB:=ak (aI bb hb)
    (try clear hb)
    (try clear ho0);obtain⟨Ao9,co9,eo9⟩:=bG H9.out
    (first|subst eo9|(injection eo9 with sN zx sO;have zy:=sN.symm;have zA:=sO.symm;clear sN zx sO;subst zy;subst zA));obtain⟨alm,WQ,Po⟩:=bG yN.out
    (first|subst Po|(injection Po with sN zx sO;have zy:=sN.symm;have zA:=sO.symm;clear sN zx sO;subst zy;subst zA));refine hK.out _ _ ⟨(aG iL.out 0).trans rfl,(aG iL.out 1).trans rfl,(aG iL.out 2).trans rfl⟩ (fun hHeld=>?_);clear hK K;refine iT (a':=?_) ?_ ?_
    rotate_left
    ·show Act.put _ (some 11) _=_
     simp only[Act.put,jB,jC,l_c,bJ,b_];rfl
    refine rG (i:=6) (N:=some 12) (v:=?_) (a':=?_) #[true,true,true,true,true,true,true,false,false] rfl rfl (rZ ug.out (by kernel_rfl)) (fun _ _ _ h=>h) (Or.inl ⟨by rfl,?_⟩) ?_ ?_
    rotate_left
    ·intro w';go_simp
     with_reducible rfl
    rotate_left
    ·simp only[Act.put,jB,jC,l_c,bJ,b_];rfl
    refine H_ (i:=7) (N:=some 3) #[true,true,true,true,true,true,true,true,false] rfl rfl (qM ug.out (by kernel_rfl)) (by decide) (fun K hK=>?_);refine xW ?hg (N:=3) ?hd (cs:=#[.slice none 0 0, .slice none 0 0, .slice none 0 0]) (t:=32) ?hr ?_;(case hd=>rfl);(case hg=>rfl);(case hr=>first|(go_simp;done)|(go_simp;rfl));intro jG hg xk hbox hb;have kT:=ak (hbox);have Zy:=ak ((by rw[hg];exact(aj bb):w.heap.size≤jG));have Zz:=ak ((by rw[hg];exact(aj bb):w.heap.size≤jG));have kL:=ak ((by rw[hg];exact Nat.ne_of_lt (dI (ub iL.out)):qc≠jG));have r_:=ak ((by rw[hg];exact Nat.ne_of_gt (dI (ub iL.out)):jG≠qc));have pK:=ak ((by rw[hg];exact Nat.ne_of_lt (dI (ub lF.out)):oZ≠jG));have uy:=ak ((by rw[hg];exact Nat.ne_of_gt (dI (ub lF.out)):jG≠oZ));replace yN:=rb yN hb;replace H9:=rb H9 hb;replace iL:=kb iL hb;replace lF:=kb lF hb;replace HB:=ak (aI bb hb);clear hb hbox hg;refine hK.out _ _ ⟨(aG iL.out 0).trans rfl,(aG iL.out 1).trans rfl,(aG iL.out 2).trans rfl⟩ (fun hHeld=>?_);clear hK K;refine iT (a':=?_) ?_ ?_
    rotate_left
    ·show Act.put _ (some 3) _=_
     simp only[Act.put,jB,jC,l_c,bJ,b_];rfl
    exact iT (by simp only[iF,Act.put,jB,jC,l_c]) (alk (.slice alm vH.length WQ, .slice Ao9 vV.length co9,jG) _ ⟨hHeld,(ur yN.out),(ur H9.out),(ub iL.out),(ub lF.out),(ub kT.out),Zy.out,Zz.out,kL.out,r_.out,pK.out,uy.out,bb⟩)
   ·skip
    refine xW ?hg (N:=3) ?hd (cs:=#[.slice none 0 0, .slice none 0 0, .slice none 0 0]) (t:=32) ?hr ?_;(case hd=>rfl);(case hg=>rfl);(case hr=>first|(go_simp;done)|(go_simp;rfl));intro jG hg w8 hbox hb;have kT:=ak (hbox);have Zy:=ak ((by rw[hg];exact(aj bb):w.heap.size≤jG));have Zz:=ak ((by rw[hg];exact(aj bb):w.heap.size≤jG));have kL:=ak ((by rw[hg];exact Nat.ne_of_lt (dI (ub iL.out)):qc≠jG));have r_:=ak ((by rw[hg];exact Nat.ne_of_gt (dI (ub iL.out)):jG≠qc));have pK:=ak ((by rw[hg];exact Nat.ne_of_lt (dI (ub lF.out)):oZ≠jG));have uy:=ak ((by rw[hg];exact Nat.ne_of_gt (dI (ub lF.out)):jG≠oZ));replace yN:=rb yN hb;replace iL:=kb iL hb;replace lF:=kb lF hb;replace HB:=ak (aI bb hb);clear hb hbox hg;refine hK.out _ _ ⟨(aG iL.out 0).trans rfl,(aG iL.out 1).trans rfl,(aG iL.out 2).trans rfl⟩ (fun hHeld=>?_);clear hK K;refine iT (a':=?_) ?_ ?_
    rotate_left
    ·show Act.put _ (some 3) _=_
     simp only[Act.put,jB,jC,l_c,bJ,b_];rfl
    refine H_ (i:=5) (N:=some 11) #[true,true,true,true,true,true,false,true,false] rfl rfl (qM ug.out (by kernel_rfl)) (by decide) (fun K hK=>?_);refine vG func46 (by kernel_rfl) rfl #[.slice dh aQ.length dw] (by rfl) rfl rfl ma ?_
    with_reducible refine(jc.calls _ _ aQ vV _ ?oG ?qU A3.out).mono ?_
    (case oG=>repeat(first|exact(aK oN.out HB.out)|(with_reducible refine Kd.iP ?_ _)|(with_reducible refine Kd.iQ ?_ _)|(with_reducible refine Kd.jP ?_)))
    (case qU=>exact qB.out);rintro e w9 ⟨aoN,rfl,ho0,hb⟩;refine⟨_,rfl,?_⟩;have H9:=ak (bP ho0 (aj bb));replace yN:=rb yN hb;replace iL:=kb iL hb;replace lF:=kb lF hb;replace kT:=kb kT hb;replace HB:=ak (aI bb hb)
    (try clear hb)
    (try clear ho0);obtain⟨alm,WQ,Po⟩:=bG H9.out
    (first|subst Po|(injection Po with sN zx sO;have zy:=sN.symm;have zA:=sO.symm;clear sN zx sO;subst zy;subst zA));obtain⟨zB,yC,W9⟩:=bG yN.out
    (first|subst W9|(injection W9 with sN zx sO;have zy:=sN.symm;have zA:=sO.symm;clear sN zx sO;subst zy;subst zA));refine hK.out _ _ ⟨(aG iL.out 0).trans rfl,(aG iL.out 1).trans rfl,(aG iL.out 2).trans rfl⟩ (fun hHeld=>?_);clear hK K;refine iT (a':=?_) ?_ ?_
    rotate_left
    ·show Act.put _ (some 11) _=_
     simp only[Act.put,jB,jC,l_c,bJ,b_];rfl
    refine rG (i:=6) (N:=some 12) (v:=?_) (a':=?_) #[true,true,true,true,true,true,true,true,false] rfl rfl (rZ ug.out (by kernel_rfl)) (fun _ _ _ h=>h) (Or.inl ⟨by rfl,?_⟩) ?_ ?_
    rotate_left
    ·intro w';go_simp
     with_reducible rfl
    rotate_left
    ·simp only[Act.put,jB,jC,l_c,bJ,b_];rfl
    exact iT (by simp only[iF,Act.put,jB,jC,l_c]) (alk (.slice zB vH.length yC, .slice alm vV.length WQ,jG) _ ⟨hHeld,(ur yN.out),(ur H9.out),(ub iL.out),(ub lF.out),(ub kT.out),Zy.out,Zz.out,kL.out,r_.out,pK.out,uy.out,bb⟩)
  ·skip
   refine xW ?hg (N:=3) ?hd (cs:=#[.slice none 0 0, .slice none 0 0, .slice none 0 0]) (t:=32) ?hr ?_;(case hd=>rfl);(case hg=>rfl);(case hr=>first|(go_simp;done)|(go_simp;rfl));intro jG hg w7 hbox hb;have kT:=ak (hbox);have Zy:=ak ((by rw[hg];exact(aj bb):w.heap.size≤jG));have Zz:=ak ((by rw[hg];exact(aj bb):w.heap.size≤jG));have kL:=ak ((by rw[hg];exact Nat.ne_of_lt (dI (ub iL.out)):qc≠jG));have r_:=ak ((by rw[hg];exact Nat.ne_of_gt (dI (ub iL.out)):jG≠qc));have pK:=ak ((by rw[hg];exact Nat.ne_of_lt (dI (ub lF.out)):oZ≠jG));have uy:=ak ((by rw[hg];exact Nat.ne_of_gt (dI (ub lF.out)):jG≠oZ));replace iL:=kb iL hb;replace lF:=kb lF hb;replace HB:=ak (aI bb hb);clear hb hbox hg;refine hK.out _ _ ⟨(aG iL.out 0).trans rfl,(aG iL.out 1).trans rfl,(aG iL.out 2).trans rfl⟩ (fun hHeld=>?_);clear hK K;refine iT (a':=?_) ?_ ?_
   rotate_left
   ·show Act.put _ (some 3) _=_
    simp only[Act.put,jB,jC,l_c,bJ,b_];rfl
   refine H_ (i:=2) (N:=some 8) #[true,true,true,true,true,false,false,true,false] rfl rfl (qM ug.out (by kernel_rfl)) (by decide) (fun K hK=>?_);refine vG func45 (by kernel_rfl) rfl #[.slice cO aN.length cZ] (by rfl) rfl rfl ma ?_
   with_reducible refine(rF.calls _ _ aN vH _ ?oG ?qU A2.out).mono ?_
   (case oG=>repeat(first|exact(aK lU.out HB.out)|(with_reducible refine Kd.iP ?_ _)|(with_reducible refine Kd.iQ ?_ _)|(with_reducible refine Kd.jP ?_)))
   (case qU=>exact mX.out);rintro e w8 ⟨au6,rfl,ho0,hb⟩;refine⟨_,rfl,?_⟩;have yN:=ak (bP ho0 (aj bb));replace iL:=kb iL hb;replace lF:=kb lF hb;replace kT:=kb kT hb;replace HB:=ak (aI bb hb)
   (try clear hb)
   (try clear ho0);refine hK.out _ _ ⟨(aG iL.out 0).trans rfl,(aG iL.out 1).trans rfl,(aG iL.out 2).trans rfl⟩ (fun hHeld=>?_);clear hK K;refine iT (a':=?_) ?_ ?_
   rotate_left
   ·show Act.put _ (some 8) _=_
    simp only[Act.put,jB,jC,l_c,bJ,b_];rfl
   refine H_ (i:=5) (N:=some 11) #[true,true,true,true,true,true,false,true,false] rfl rfl (qM ug.out (by kernel_rfl)) (by decide) (fun K hK=>?_);refine vG func46 (by kernel_rfl) rfl #[.slice dh aQ.length dw] (by rfl) rfl rfl ma ?_
   with_reducible refine(jc.calls _ _ aQ vV _ ?oG ?qU A3.out).mono ?_
   (case oG=>repeat(first|exact(aK oN.out HB.out)|(with_reducible refine Kd.iP ?_ _)|(with_reducible refine Kd.iQ ?_ _)|(with_reducible refine Kd.jP ?_)))
   (case qU=>exact qB.out);rintro e w9 ⟨aoN,rfl,ho0,hb⟩;refine⟨_,rfl,?_⟩;have H9:=ak (bP ho0 (aj bb));replace yN:=rb yN hb;replace iL:=kb iL hb;replace lF:=kb lF hb;replace kT:=kb kT hb;replace HB:=ak (aI bb hb)
   (try clear hb)
   (try clear ho0);obtain⟨alm,WQ,Po⟩:=bG H9.out
   (first|subst Po|(injection Po with sN zx sO;have zy:=sN.symm;have zA:=sO.symm;clear sN zx sO;subst zy;subst zA));obtain⟨zB,yC,W9⟩:=bG yN.out
   (first|subst W9|(injection W9 with sN zx sO;have zy:=sN.symm;have zA:=sO.symm;clear sN zx sO;subst zy;subst zA));refine hK.out _ _ ⟨(aG iL.out 0).trans rfl,(aG iL.out 1).trans rfl,(aG iL.out 2).trans rfl⟩ (fun hHeld=>?_);clear hK K;refine iT (a':=?_) ?_ ?_
   rotate_left
   ·show Act.put _ (some 11) _=_
    simp only[Act.put,jB,jC,l_c,bJ,b_];rfl
   refine rG (i:=6) (N:=some 12) (v:=?_) (a':=?_) #[true,true,true,true,true,true,true,true,false] rfl rfl (rZ ug.out (by kernel_rfl)) (fun _ _ _ h=>h) (Or.inl ⟨by rfl,?_⟩) ?_ ?_
   rotate_left
   ·intro w';go_simp
    with_reducible rfl
   rotate_left
   ·simp only[Act.put,jB,jC,l_c,bJ,b_];rfl
   exact iT (by simp only[iF,Act.put,jB,jC,l_c]) (alk (.slice zB vH.length yC, .slice alm vV.length WQ,jG) _ ⟨hHeld,(ur yN.out),(ur H9.out),(ub iL.out),(ub lF.out),(ub kT.out),Zy.out,Zz.out,kL.out,r_.out,pK.out,uy.out,bb⟩)
 rintro⟨au6,aoN,jG⟩ w12 ⟨Tv,Ia,Ec,Ed,Hr,Na,VJ,VK,VL,VN,VO,G_,Va⟩;have ng:ah (Kd.R lg 63 w12 w.heap.size (fun _=>True) au6 vH):=⟨Ia⟩
 have ni:ah (Kd.R Kd.string 9 w12 w.heap.size (fun _=>True) aoN vV):=⟨Ec⟩
 have qx:ah (w12.heap[qc]? =some (.cells #[.slice cO aN.length cZ, .slice dh aQ.length dw, .slice bH aA.length bg] 32 (0,0))):=⟨Ed⟩
 have sV:ah (w12.heap[oZ]? =some (.cells #[.slice none 0 0, .slice none 0 0, .slice none 0 0] 32 (0,0))):=⟨Hr⟩
 have xQ:ah (w12.heap[jG]? =some (.cells #[.slice none 0 0, .slice none 0 0, .slice none 0 0] 32 (0,0))):=⟨Na⟩
 have Ht:ah (w.heap.size≤jG):=⟨VJ⟩
 have Nb:ah (w.heap.size≤jG):=⟨VK⟩
 have OM:ah (qc≠jG):=⟨VL⟩
 have W_:ah (jG≠qc):=⟨VN⟩
 have Xa:ah (oZ≠jG):=⟨VO⟩
 have Ib:ah (jG≠oZ):=⟨G_⟩
 have Xb:ah (Below w.heap.size w w12):=⟨Va⟩
 clear iL lF HB Ia Ec Ed Hr Na VJ VK VL VN VO G_ Va;have yN:=ng;have H9:=ni;have iL:=qx;have lF:=sV;have kT:=xQ;have Zy:=Ht;have Zz:=Nb;have kL:=OM;have r_:=W_;have pK:=Xa;have uy:=Ib;have HB:=Xb;clear ng ni qx sV xQ Ht Nb OM W_ Xa Ib Xb;have hHeld:w12.cell? ⟨qc,0,none⟩=some (.slice cO aN.length cZ)∧w12.cell? ⟨qc,1,none⟩=some (.slice dh aQ.length dw)∧w12.cell? ⟨qc,2,none⟩=some (.slice bH aA.length bg):=Tv;obtain⟨xR,uO,YP⟩:=bG H9.out
 (first|subst YP|(injection YP with sN zx sO;have zy:=sN.symm;have zA:=sO.symm;clear sN zx sO;subst zy;subst zA));obtain⟨Ah,Ai,aee⟩:=bG yN.out
 (first|subst aee|(injection aee with sN zx sO;have zy:=sN.symm;have zA:=sO.symm;clear sN zx sO;subst zy;subst zA));refine iT (a':=?_) ?_ ?_
 rotate_left
 ·simp only[iF,Act.put,jB,jC,l_c];rfl
 refine H_ (i:=8) (N:=none) #[true,true,true,true,true,true,true,true,true] rfl rfl (qM ug.out (by kernel_rfl)) (by decide) (fun K hK=>?_);have aKF:w12.cell? ⟨jG,0,none⟩=some (.slice none 0 0):=(aG kT.out 0).trans rfl;have aH3:=jl kT.out 0;have aCk:=kL.out;have aCl:=pK.out;have aCm:=r_.out;have aCn:=uy.out;have aKG:w12.cell? ⟨jG,1,none⟩=some (.slice none 0 0):=(aG kT.out 1).trans rfl;have aH4:=jl kT.out 1;have aCo:=kL.out;have aCp:=pK.out;have aCq:=r_.out;have aCr:=uy.out;have aKH:w12.cell? ⟨jG,2,none⟩=some (.slice none 0 0):=(aG kT.out 2).trans rfl;have aH5:=jl kT.out 2;have aCs:=kL.out;have aCt:=pK.out;have aCu:=r_.out;have aCv:=uy.out;refine Xc (w1:=?_) (by rfl) rfl ?_ ?_
 rotate_left
 ·go_simp;rfl
 refine hK.out _ _ ⟨((cell_far (p:=⟨jG,_,none⟩) kL.out _).trans (((cell_far (p:=⟨jG,_,none⟩) kL.out _).trans (((cell_far (p:=⟨jG,_,none⟩) kL.out _).trans (hHeld.1)))))),((cell_far (p:=⟨jG,_,none⟩) kL.out _).trans (((cell_far (p:=⟨jG,_,none⟩) kL.out _).trans (((cell_far (p:=⟨jG,_,none⟩) kL.out _).trans (hHeld.2.1)))))),((cell_far (p:=⟨jG,_,none⟩) kL.out _).trans (((cell_far (p:=⟨jG,_,none⟩) kL.out _).trans (((cell_far (p:=⟨jG,_,none⟩) kL.out _).trans (hHeld.2.2))))))⟩ (fun hHeld=>?_);clear hK K;refine P8 (Jt ug.out (by kernel_rfl)) ?_;have aH6:=Zw.out;have aH7:=Zx.out;have ayU:=kL.out;have ayV:=r_.out;obtain⟨P9,P_,Qa,Qb,Qc,Qd⟩:=iE iL.out;try go_wp2
 go_loopg [16] k (fun kq v16 w'=>∃(gK:Int) (vM:List (jm)) (xw:Value),v16= .int .i64 gK∧ah (dR.l0 kq aA (aA.length:Int) gK vH vV vM=some (r1,r2,r3))∧ah (kq≤k)∧ah (Kd.R lg 63 w' w.heap.size (fun _=>True) (.slice Ah vH.length Ai) vH)∧ah (Kd.R Kd.string 9 w' w.heap.size (fun _=>True) (.slice xR vV.length uO) vV)∧ah (Kd.S kA 32 w' w.heap.size (fun k_=>some k_≠((.slice Ah vH.length Ai):Value).ownBlock∧some k_≠((.slice xR vV.length uO):Value).ownBlock∧k_≠qc∧k_≠oZ∧k_≠jG) xw vM)∧ah (w'.heap[qc]? =some (.cells #[(.slice cO aN.length cZ),(.slice dh aQ.length dw),(.slice bH aA.length bg)] 32 (0,0)))∧ah (w'.heap[oZ]? =some (.cells #[(.slice none 0 0),(.slice none 0 0),(.slice none 0 0)] 32 (0,0)))∧ah (w'.heap[jG]? =some (.cells #[(.slice Ah vH.length Ai),(.slice xR vV.length uO),xw] 32 (0,0)))∧ah (Below w.heap.size w w'))
 case atStart=>exact⟨(0),(([]:List (jm))),(.slice none 0 0),rs,H',⟨Nat.le_refl _⟩,⟨ur (aY (bK (p:=⟨jG,2,none⟩) (bK (p:=⟨jG,1,none⟩) (bK (p:=⟨jG,0,none⟩) (eP yN.out kT.out (by decide)) (fun _ hk=>hk.2) (.slice Ah vH.length Ai)) (fun _ hk=>hk.2) (.slice xR vV.length uO)) (fun _ hk=>hk.2) (.slice none 0 0)) (fun _ hk=>trivial))⟩,⟨ur (aY (bK (p:=⟨jG,2,none⟩) (bK (p:=⟨jG,1,none⟩) (bK (p:=⟨jG,0,none⟩) (eP H9.out kT.out (by decide)) (fun _ hk=>hk.2) (.slice Ah vH.length Ai)) (fun _ hk=>hk.2) (.slice xR vV.length uO)) (fun _ hk=>hk.2) (.slice none 0 0)) (fun _ hk=>trivial))⟩,⟨by first|exact acU _ _ _ _ _|exact acV _ _ _ _ _|exact acW _ _ _ _ _|exact acX _ _ _ _ _|exact Kw _ _ _ _ _⟩,⟨by(with_reducible repeat(first|refine ay ?_ _|refine aC ?_|refine au ?_ _));refine fJ ?_ kL.out _;(with_reducible repeat(first|refine ay ?_ _|refine aC ?_|refine au ?_ _));refine fJ ?_ kL.out _;(with_reducible repeat(first|refine ay ?_ _|refine aC ?_|refine au ?_ _));refine fJ ?_ kL.out _;(with_reducible repeat(first|refine ay ?_ _|refine aC ?_|refine au ?_ _));exact iL.out⟩,⟨by(with_reducible repeat(first|refine ay ?_ _|refine aC ?_|refine au ?_ _));refine fJ ?_ pK.out _;(with_reducible repeat(first|refine ay ?_ _|refine aC ?_|refine au ?_ _));refine fJ ?_ pK.out _;(with_reducible repeat(first|refine ay ?_ _|refine aC ?_|refine au ?_ _));refine fJ ?_ pK.out _;(with_reducible repeat(first|refine ay ?_ _|refine aC ?_|refine au ?_ _));exact lF.out⟩,⟨by(with_reducible repeat(first|refine ay ?_ _|refine aC ?_|refine au ?_ _));refine bU (cs:=#[.slice Ah vH.length Ai, .slice xR vV.length uO, .slice none 0 0]) ?_ 2 _ rfl;(with_reducible repeat(first|refine ay ?_ _|refine aC ?_|refine au ?_ _));refine bU (cs:=#[.slice Ah vH.length Ai, .slice none 0 0, .slice none 0 0]) ?_ 1 _ rfl;(with_reducible repeat(first|refine ay ?_ _|refine aC ?_|refine au ?_ _));refine bU (cs:=#[.slice none 0 0, .slice none 0 0, .slice none 0 0]) ?_ 0 _ rfl;(with_reducible repeat(first|refine ay ?_ _|refine aC ?_|refine au ?_ _));exact kT.out⟩,⟨bb⟩⟩
 case round=>
  clear H';try clear c1
  try clear c2
  try clear p2
  try clear c4
  try clear c18
  try clear c19
  try clear P9
  try clear P_
  try clear Qa
  try clear Qb
  try clear Qc
  try clear Qd
  obtain⟨gK,vM,xw,rfl,HA,jv,nC,nD,l7,iL,lF,kT,HB⟩:=hrel
  cases gk with
  |zero=>exact absurd HA.out (by simp[dR.l0])
  |succ k1=>
   have H:=HA.out;clear HA;simp only[dR.l0]at H;replace H:=sd H;rcases H with⟨CO,H⟩|⟨CO,H⟩
   ·replace H:=oW H;obtain⟨JO,H⟩:=H;replace H:=oW H;obtain⟨JQ,H⟩:=H;replace H:=bd H;obtain⟨⟨ayW,ayX,ayY⟩,A24,H⟩:=H
    (try dsimp only at H);replace H:=nl H;obtain⟨Xd,H⟩:=H;obtain⟨aln,asl⟩:=nm (vM++[(⟨ayW,ayX,ayY⟩:jm)]);rw[←asl.out]at H
    (try rw[Option.bind_some]at H);have H':=ak H;clear H;have au7:=zi gK;have au8:=zj gK aA.length;obtain⟨acY,tC,tH,uz,uD,uU,uV,aFI,agG,agH,agI,agJ,agK,agL,agM,agN,agO⟩:=qY jF.out gK au7 au8;cases aFI;replace agG:=cl HB.out agG;replace agH:=cl HB.out agH;replace agI:=cl HB.out agI;have aoO:=ak agK;have aoP:=ak agJ;clear agK agJ;have aoQ:=ak agM;have aoR:=ak agL;clear agM agL;have aoS:=ak agO;have aoT:=ak agN;clear agO agN;replace au7:=eq_true au7;replace au8:=eq_true au8;try go_wp2_with (first|(refine bE 5 #[.slice none 0 0, .slice none 0 0, .slice none 0 0] 32 ?_;intro kX hg w26 hbox hb;have sQ:=ak (hbox);have aH8:=ak ((by rw[hg];exact(aj bb):w.heap.size≤kX));have aH9:=ak ((by rw[hg];exact(aj bb):w.heap.size≤kX));have Md:=ak ((by rw[hg];exact Nat.ne_of_lt (dI (ub iL.out)):qc≠kX));have ajd:=ak ((by rw[hg];exact Nat.ne_of_gt (dI (ub iL.out)):kX≠qc));have Me:=ak ((by rw[hg];exact Nat.ne_of_lt (dI (ub lF.out)):oZ≠kX));have aje:=ak ((by rw[hg];exact Nat.ne_of_gt (dI (ub lF.out)):kX≠oZ));have Ic:=ak ((by rw[hg];exact Nat.ne_of_lt (dI (ub kT.out)):jG≠kX));have ZA:=ak ((by rw[hg];exact Nat.ne_of_gt (dI (ub kT.out)):kX≠jG));replace nC:=rb nC hb;replace nD:=rb nD hb;replace l7:=ak (F9 (alo (by(with_reducible repeat(first|apply Kd.nK|apply Kd.nM|apply pG));exact l7.out) kX (Nat.le_of_eq hg.symm)) hb);replace iL:=kb iL hb;replace lF:=kb lF hb;replace kT:=kb kT hb;replace HB:=ak (aI bb hb);clear hb hbox hg;have alp:=ajd.out;have alq:=Md.out;have aH_:=aje.out;have aIa:=Me.out;have ayZ:=ZA.out;have ay0:=Ic.out;obtain⟨agP,agQ,agR,agS,agT,agU⟩:=iE sQ.out))
    have ng:ah (Kd.R lg 63 (((w26.setCell ⟨kX,0,none⟩ (.slice tC ((aH aA gK).f0).length tH)).setCell ⟨kX,1,none⟩ (.slice uz ((aH aA gK).f1).length uD)).setCell ⟨kX,2,none⟩ (.slice uU ((aH aA gK).f2).length uV)) w.heap.size (fun _=>True) (.slice Ah vH.length Ai) vH):=⟨ur (aY (bK (p:=⟨kX,2,none⟩) (bK (p:=⟨kX,1,none⟩) (bK (p:=⟨kX,0,none⟩) (eP nC.out sQ.out (by decide)) (fun _ hk=>hk.2) (.slice tC ((aH aA gK).f0).length tH)) (fun _ hk=>hk.2) (.slice uz ((aH aA gK).f1).length uD)) (fun _ hk=>hk.2) (.slice uU ((aH aA gK).f2).length uV)) (fun _ hk=>trivial))⟩
    have ni:ah (Kd.R Kd.string 9 (((w26.setCell ⟨kX,0,none⟩ (.slice tC ((aH aA gK).f0).length tH)).setCell ⟨kX,1,none⟩ (.slice uz ((aH aA gK).f1).length uD)).setCell ⟨kX,2,none⟩ (.slice uU ((aH aA gK).f2).length uV)) w.heap.size (fun _=>True) (.slice xR vV.length uO) vV):=⟨ur (aY (bK (p:=⟨kX,2,none⟩) (bK (p:=⟨kX,1,none⟩) (bK (p:=⟨kX,0,none⟩) (eP nD.out sQ.out (by decide)) (fun _ hk=>hk.2) (.slice tC ((aH aA gK).f0).length tH)) (fun _ hk=>hk.2) (.slice uz ((aH aA gK).f1).length uD)) (fun _ hk=>hk.2) (.slice uU ((aH aA gK).f2).length uV)) (fun _ hk=>trivial))⟩
    have qx:ah (Kd.S kA 32 (((w26.setCell ⟨kX,0,none⟩ (.slice tC ((aH aA gK).f0).length tH)).setCell ⟨kX,1,none⟩ (.slice uz ((aH aA gK).f1).length uD)).setCell ⟨kX,2,none⟩ (.slice uU ((aH aA gK).f2).length uV)) w.heap.size (fun k_=>some k_≠(.slice Ah vH.length Ai:Value).ownBlock∧some k_≠(.slice xR vV.length uO:Value).ownBlock∧k_≠qc∧k_≠oZ∧k_≠jG∧k_≠kX) xw vM):=⟨by(with_reducible repeat(first|apply Kd.nK|apply Kd.nM|apply pG));exact oz (CS (p:=⟨kX,2,none⟩) (CS (p:=⟨kX,1,none⟩) (CS (p:=⟨kX,0,none⟩) (oz l7.out (fun k_ hk=>(⟨hk,hk.2⟩:_∧k_≠kX))) (fun _ hk=>hk.2) (.slice tC ((aH aA gK).f0).length tH)) (fun _ hk=>hk.2) (.slice uz ((aH aA gK).f1).length uD)) (fun _ hk=>hk.2) (.slice uU ((aH aA gK).f2).length uV)) (fun _ hk=>⟨hk.1.1.1,⟨hk.1.1.2.1,⟨hk.1.1.2.2.1,⟨hk.1.1.2.2.2.1,⟨hk.1.1.2.2.2.2,hk.1.2⟩⟩⟩⟩⟩)⟩
    have sV:ah ((((w26.setCell ⟨kX,0,none⟩ (.slice tC ((aH aA gK).f0).length tH)).setCell ⟨kX,1,none⟩ (.slice uz ((aH aA gK).f1).length uD)).setCell ⟨kX,2,none⟩ (.slice uU ((aH aA gK).f2).length uV)).heap[qc]? =some (.cells #[.slice cO aN.length cZ, .slice dh aQ.length dw, .slice (some acY) aA.length bg] 32 (0,0))):=⟨by(with_reducible repeat(first|refine ay ?_ _|refine aC ?_|refine au ?_ _));refine fJ ?_ Md.out _;(with_reducible repeat(first|refine ay ?_ _|refine aC ?_|refine au ?_ _));refine fJ ?_ Md.out _;(with_reducible repeat(first|refine ay ?_ _|refine aC ?_|refine au ?_ _));refine fJ ?_ Md.out _;(with_reducible repeat(first|refine ay ?_ _|refine aC ?_|refine au ?_ _));exact iL.out⟩
    have xQ:ah ((((w26.setCell ⟨kX,0,none⟩ (.slice tC ((aH aA gK).f0).length tH)).setCell ⟨kX,1,none⟩ (.slice uz ((aH aA gK).f1).length uD)).setCell ⟨kX,2,none⟩ (.slice uU ((aH aA gK).f2).length uV)).heap[oZ]? =some (.cells #[.slice none 0 0, .slice none 0 0, .slice none 0 0] 32 (0,0))):=⟨by(with_reducible repeat(first|refine ay ?_ _|refine aC ?_|refine au ?_ _));refine fJ ?_ Me.out _;(with_reducible repeat(first|refine ay ?_ _|refine aC ?_|refine au ?_ _));refine fJ ?_ Me.out _;(with_reducible repeat(first|refine ay ?_ _|refine aC ?_|refine au ?_ _));refine fJ ?_ Me.out _;(with_reducible repeat(first|refine ay ?_ _|refine aC ?_|refine au ?_ _));exact lF.out⟩
    have Ht:ah ((((w26.setCell ⟨kX,0,none⟩ (.slice tC ((aH aA gK).f0).length tH)).setCell ⟨kX,1,none⟩ (.slice uz ((aH aA gK).f1).length uD)).setCell ⟨kX,2,none⟩ (.slice uU ((aH aA gK).f2).length uV)).heap[jG]? =some (.cells #[.slice Ah vH.length Ai, .slice xR vV.length uO,xw] 32 (0,0))):=⟨by(with_reducible repeat(first|refine ay ?_ _|refine aC ?_|refine au ?_ _));refine fJ ?_ Ic.out _;(with_reducible repeat(first|refine ay ?_ _|refine aC ?_|refine au ?_ _));refine fJ ?_ Ic.out _;(with_reducible repeat(first|refine ay ?_ _|refine aC ?_|refine au ?_ _));refine fJ ?_ Ic.out _;(with_reducible repeat(first|refine ay ?_ _|refine aC ?_|refine au ?_ _));exact kT.out⟩
    have Nb:ah ((((w26.setCell ⟨kX,0,none⟩ (.slice tC ((aH aA gK).f0).length tH)).setCell ⟨kX,1,none⟩ (.slice uz ((aH aA gK).f1).length uD)).setCell ⟨kX,2,none⟩ (.slice uU ((aH aA gK).f2).length uV)).heap[kX]? =some (.cells #[.slice tC ((aH aA gK).f0).length tH, .slice uz ((aH aA gK).f1).length uD, .slice uU ((aH aA gK).f2).length uV] 32 (0,0))):=⟨by(with_reducible repeat(first|refine ay ?_ _|refine aC ?_|refine au ?_ _));refine bU (cs:=#[.slice tC ((aH aA gK).f0).length tH, .slice uz ((aH aA gK).f1).length uD, .slice none 0 0]) ?_ 2 _ rfl;(with_reducible repeat(first|refine ay ?_ _|refine aC ?_|refine au ?_ _));refine bU (cs:=#[.slice tC ((aH aA gK).f0).length tH, .slice none 0 0, .slice none 0 0]) ?_ 1 _ rfl;(with_reducible repeat(first|refine ay ?_ _|refine aC ?_|refine au ?_ _));refine bU (cs:=#[.slice none 0 0, .slice none 0 0, .slice none 0 0]) ?_ 0 _ rfl;(with_reducible repeat(first|refine ay ?_ _|refine aC ?_|refine au ?_ _));exact sQ.out⟩
    have OM:ah (Below w.heap.size w (((w26.setCell ⟨kX,0,none⟩ (.slice tC ((aH aA gK).f0).length tH)).setCell ⟨kX,1,none⟩ (.slice uz ((aH aA gK).f1).length uD)).setCell ⟨kX,2,none⟩ (.slice uU ((aH aA gK).f2).length uV))):=⟨bb⟩
    (try clear nC)
    (try clear nD)
    (try clear l7)
    (try clear iL)
    (try clear lF)
    (try clear kT)
    (try clear sQ)
    (try clear HB)
    generalize (((w26.setCell ⟨kX,0,none⟩ (.slice tC ((aH aA gK).f0).length tH)).setCell ⟨kX,1,none⟩ (.slice uz ((aH aA gK).f1).length uD)).setCell ⟨kX,2,none⟩ (.slice uU ((aH aA gK).f2).length uV))=w31 at ng ni qx sV xQ Ht Nb OM⊢
    have nC:=ng;have nD:=ni;have l7:=qx;have iL:=sV;have lF:=xQ;have kT:=Ht;have sQ:=Nb;have HB:=OM;clear ng ni qx sV xQ Ht Nb OM;replace nC:=ak (yB nC.out);replace nD:=ak (yB nD.out);replace l7:=ak (pG l7.out);replace iL:=ak (aC iL.out);replace lF:=ak (aC lF.out);replace kT:=ak (aC kT.out);replace sQ:=ak (aC sQ.out);replace HB:=ak (fO HB.out);refine Js (n:=8) (S:=fun w'=>w'.cell? ⟨jG,0,none⟩=some (.slice Ah vH.length Ai)∧w'.cell? ⟨jG,1,none⟩=some (.slice xR vV.length uO)∧w'.cell? ⟨jG,2,none⟩=some (xw)∧w'.cell? ⟨kX,0,none⟩=some (.slice tC ((aH aA gK).f0).length tH)∧w'.cell? ⟨kX,1,none⟩=some (.slice uz ((aH aA gK).f1).length uD)∧w'.cell? ⟨kX,2,none⟩=some (.slice uU ((aH aA gK).f2).length uV)) (ds:=[7]) #[false,false,false,false,false,false,false,false] (by kernel_rfl) rfl rfl ⟨(aG kT.out 0).trans rfl,(aG kT.out 1).trans rfl,(aG kT.out 2).trans rfl,(aG sQ.out 0).trans rfl,(aG sQ.out 1).trans rfl,(aG sQ.out 2).trans rfl⟩ (fun hHeld=>?_);refine AL dR.au5 dR.alj (fun ug HW_=>?_)
    generalize w31.drew=w32 at nC nD l7 iL lF kT sQ HB hHeld⊢
    refine rG (i:=0) (N:=some 20) (v:=?_) (a':=?_) #[true,false,false,false,false,false,false,false] rfl rfl (rZ ug.out (by kernel_rfl)) (fun _ _ _ h=>h) (Or.inl ⟨by rfl,?_⟩) ?_ ?_
    rotate_left
    ·intro w';go_simp
     with_reducible rfl
    rotate_left
    ·simp only[Act.put,jB,jC,l_c,bJ,b_];rfl
    refine BO (i:=1) (N:=some 21) (v:=?_) (a':=?_) #[true,true,false,false,false,false,false,false] rfl rfl (uw ug.out HW_.out (by kernel_rfl)) (fun _ _ _ h=>h) (Or.inl ⟨by rfl,?_⟩) hHeld ?_ ?_
    rotate_left
    ·rintro w' ⟨s0,s1,s2,s3,s4,s5⟩;go_simp
     with_reducible rfl
    rotate_left
    ·simp only[Act.put,jB,jC,l_c,bJ,b_];rfl
    refine BO (i:=2) (N:=some 22) (v:=?_) (a':=?_) #[true,true,true,false,false,false,false,false] rfl rfl (uw ug.out HW_.out (by kernel_rfl)) (fun _ _ _ h=>h) (Or.inl ⟨by rfl,?_⟩) hHeld ?_ ?_
    rotate_left
    ·rintro w' ⟨s0,s1,s2,s3,s4,s5⟩;go_simp
     with_reducible rfl
    rotate_left
    ·simp only[Act.put,jB,jC,l_c,bJ,b_];rfl
    refine H_ (i:=3) (N:=some 23) #[true,true,true,true,false,false,false,false] rfl rfl (qM ug.out (by kernel_rfl)) (by decide) (fun K hK=>?_);refine vG func28 (by kernel_rfl) rfl #[.agg #[.slice tC ((aH aA gK).f0).length tH, .slice uz ((aH aA gK).f1).length uD, .slice uU ((aH aA gK).f2).length uV]] (by rfl) rfl rfl ma ?_
    with_reducible refine(ih k1 (by have:=jv.out;omega) _ _ ((aH aA gK).f0) _ _ ((aH aA gK).f1) _ _ ((aH aA gK).f2) ayW ayX ayY _ ?oG ?qU ?EO ?EP ?ER ?ES A24.out).mono ?_
    (case oG=>repeat(first|exact(aK aoO.out HB.out)|(with_reducible refine Kd.iP ?_ _)|(with_reducible refine Kd.iQ ?_ _)|(with_reducible refine Kd.jP ?_)))
    (case qU=>exact aoP.out)
    (case EO=>repeat(first|exact(aK aoQ.out HB.out)|(with_reducible refine Kd.iP ?_ _)|(with_reducible refine Kd.iQ ?_ _)|(with_reducible refine Kd.jP ?_)))
    (case EP=>exact aoR.out)
    (case ER=>repeat(first|exact(aK aoS.out HB.out)|(with_reducible refine Kd.iP ?_ _)|(with_reducible refine Kd.iQ ?_ _)|(with_reducible refine Kd.jP ?_)))
    (case ES=>exact aoT.out);rintro e w33 ⟨aKI,aKJ,aKK,rfl,ho0,ho1,ho2,hb⟩;refine⟨_,rfl,?_⟩;have HAp:=ak (auj (ok:=fun k_=>some k_≠(.slice Ah vH.length Ai:Value).ownBlock∧some k_≠(.slice xR vV.length uO:Value).ownBlock∧k_≠qc∧k_≠oZ∧k_≠jG∧k_≠kX) (by(with_reducible repeat(first|apply Kd.nK|apply Kd.nM|apply pG));exact l7.out) ho0 ho1 ho2 hb (fun k_ hk=>⟨Kd.fresh' (ru (ur nC.out)) k_ hk,Kd.fresh' (ru (ur nD.out)) k_ hk,yA (g:=qc) (o:= .cells #[.slice cO aN.length cZ, .slice dh aQ.length dw, .slice (some acY) aA.length bg] 32 (0,0)) (ub iL.out) k_ hk,yA (g:=oZ) (o:= .cells #[.slice none 0 0, .slice none 0 0, .slice none 0 0] 32 (0,0)) (ub lF.out) k_ hk,yA (g:=jG) (o:= .cells #[.slice Ah vH.length Ai, .slice xR vV.length uO,xw] 32 (0,0)) (ub kT.out) k_ hk,yA (g:=kX) (o:= .cells #[.slice tC ((aH aA gK).f0).length tH, .slice uz ((aH aA gK).f1).length uD, .slice uU ((aH aA gK).f2).length uV] 32 (0,0)) (ub sQ.out) k_ hk⟩) (aj bb));have HBx:=ak (Below.refl w33.heap.size w33);have asn:=ak (bP (nI ho0 (ru (ur nC.out))) (aj bb));have aso:=ak (bP (nI ho1 (ru (ur nD.out))) (aj bb));have asq:=ak (IK (Tz (Tz (Tz (Tz (WZ (WZ (WZ ho2 (ru (ur nC.out))) (ru (ur nD.out))) (axM (by(with_reducible repeat(first|apply Kd.nK|apply Kd.nM|apply pG));exact l7.out))) (g:=qc) (o:= .cells #[.slice cO aN.length cZ, .slice dh aQ.length dw, .slice (some acY) aA.length bg] 32 (0,0)) (ub iL.out)) (g:=oZ) (o:= .cells #[.slice none 0 0, .slice none 0 0, .slice none 0 0] 32 (0,0)) (ub lF.out)) (g:=jG) (o:= .cells #[.slice Ah vH.length Ai, .slice xR vV.length uO,xw] 32 (0,0)) (ub kT.out)) (g:=kX) (o:= .cells #[.slice tC ((aH aA gK).f0).length tH, .slice uz ((aH aA gK).f1).length uD, .slice uU ((aH aA gK).f2).length uV] 32 (0,0)) (ub sQ.out)) (aj bb));replace nC:=ak (nV (ur nC.out) (jf ho0) hb);replace nD:=ak (nV (ur nD.out) (jf ho1) hb);replace l7:=ak (oz (aeA (aeA (aeA (arv (by(with_reducible repeat(first|apply Kd.nK|apply Kd.nM|apply pG));exact l7.out) hb) (jf ho0)) (jf ho1)) (aa9 ho2)) (fun _ h_=>h_.1));replace iL:=kb iL hb;replace lF:=kb lF hb;replace kT:=kb kT hb;replace sQ:=kb sQ hb;replace HB:=ak (aI bb hb)
    (try clear hb)
    (try clear ho0)
    (try clear ho1)
    (try clear ho2);obtain⟨Xe,Xf,aeB⟩:=bG asn.out
    (first|subst aeB|(injection aeB with sN zx sO;have zy:=sN.symm;have zA:=sO.symm;clear sN zx sO;subst zy;subst zA));obtain⟨TA,TB,acZ⟩:=bG aso.out
    (first|subst acZ|(injection acZ with sN zx sO;have zy:=sN.symm;have zA:=sO.symm;clear sN zx sO;subst zy;subst zA));obtain⟨ak_,ala,aa7⟩:=Df asq.out
    (first|subst aa7|(injection aa7 with sN zx sO;have zy:=sN.symm;have zA:=sO.symm;clear sN zx sO;subst zy;subst zA));refine hK.out _ _ ⟨(aG kT.out 0).trans rfl,(aG kT.out 1).trans rfl,(aG kT.out 2).trans rfl,(aG sQ.out 0).trans rfl,(aG sQ.out 1).trans rfl,(aG sQ.out 2).trans rfl⟩ (fun hHeld=>?_);clear hK K;refine iT (a':=?_) ?_ ?_
    rotate_left
    ·show Act.put _ (some 23) _=_
     simp only[Act.put,jB,jC,l_c,bJ,b_];rfl
    refine H_ (i:=4) (N:=some 24) #[true,true,true,true,true,false,false,false] rfl rfl (qM ug.out (by kernel_rfl)) (by decide) (fun K hK=>?_);refine S9 (w1:=?_) (v:=?_) (by rfl) rfl ?_ ?_
    rotate_left 2
    ·go_simp;constructor
     ·rfl
     ·rfl
    refine hK.out _ _ ⟨(aG (au kT.out _) 0).trans rfl,(aG (au kT.out _) 1).trans rfl,(aG (au kT.out _) 2).trans rfl,(aG (au sQ.out _) 0).trans rfl,(aG (au sQ.out _) 1).trans rfl,(aG (au sQ.out _) 2).trans rfl⟩ (fun hHeld=>?_);clear hK K;refine iT (a':=?_) ?_ ?_
    rotate_left
    ·show Act.put _ (some 24) _=_
     simp only[Act.put,jB,jC,l_c,bJ,b_];rfl
    refine H_ (i:=5) (N:=some 25) #[true,true,true,true,true,true,false,false] rfl rfl (qM ug.out (by kernel_rfl)) (by decide) (fun K hK=>?_);refine YN (w0:=w) w.heap.size (by rfl) (.tmp 21) (.tmp 24) 30 32 (.agg #[(.slice none 0 0),(.slice none 0 0),(.slice none 0 0)]) 72 rfl underlying30 aam rfl (by decide) (by omega) xw vM (fun k_=>some k_≠(.slice Ah vH.length Ai:Value).ownBlock∧some k_≠(.slice xR vV.length uO:Value).ownBlock∧k_≠qc∧k_≠oZ∧k_≠jG∧k_≠kX) rfl rfl rfl (ake HAp.out (ul HBx.out) (fun k_ hk h_=>h_)) ?aF ?aB ?aS ?aL ?_
    (case aB=>exact bb)
    (case aF=>exact(fun k_ hk=>⟨Kd.fresh' (ru (ur nC.out)) k_ hk,Kd.fresh' (ru (ur nD.out)) k_ hk,yA (g:=qc) (o:= .cells #[.slice cO aN.length cZ, .slice dh aQ.length dw, .slice (some acY) aA.length bg] 32 (0,0)) (ub iL.out) k_ hk,yA (g:=oZ) (o:= .cells #[.slice none 0 0, .slice none 0 0, .slice none 0 0] 32 (0,0)) (ub lF.out) k_ hk,yA (g:=jG) (o:= .cells #[.slice Ah vH.length Ai, .slice xR vV.length uO,xw] 32 (0,0)) (ub kT.out) k_ hk,yA (g:=kX) (o:= .cells #[.slice tC ((aH aA gK).f0).length tH, .slice uz ((aH aA gK).f1).length uD, .slice uU ((aH aA gK).f2).length uV] 32 (0,0)) (ub sQ.out) k_ hk⟩))
    (case aS=>exact(aj bb))
    (case aL=>have:=Xd.out;omega);intro aKL w34 ho hb hg hat
    clear HAp HBx;rw[←asl.out]at ho;have ng:=ak (xq (ur nC.out) (Gi (by(with_reducible repeat(first|apply Kd.nK|apply Kd.nM|apply pG));exact l7.out)) (by decide) hg);have ni:=ak (xq (ur nD.out) (Gi (by(with_reducible repeat(first|apply Kd.nK|apply Kd.nM|apply pG));exact l7.out)) (by decide) hg);have qx:=ak (eu (g:=qc) (o:= .cells #[.slice cO aN.length cZ, .slice dh aQ.length dw, .slice (some acY) aA.length bg] 32 (0,0)) (ub iL.out) hg (aa_ l7.out (fun _ hk=>hk.1.1.1.2.2.1)));have sV:=ak (eu (g:=oZ) (o:= .cells #[.slice none 0 0, .slice none 0 0, .slice none 0 0] 32 (0,0)) (ub lF.out) hg (aa_ l7.out (fun _ hk=>hk.1.1.1.2.2.2.1)));have xQ:=ak (eu (g:=jG) (o:= .cells #[.slice Ah vH.length Ai, .slice xR vV.length uO,xw] 32 (0,0)) (ub kT.out) hg (aa_ l7.out (fun _ hk=>hk.1.1.1.2.2.2.2.1)));have Ht:=ak (eu (g:=kX) (o:= .cells #[.slice tC ((aH aA gK).f0).length tH, .slice uz ((aH aA gK).f1).length uD, .slice uU ((aH aA gK).f2).length uV] 32 (0,0)) (ub sQ.out) hg (aa_ l7.out (fun _ hk=>hk.1.1.1.2.2.2.2.2)));have Nb:=ak (hb);have OM:=ak (ho);clear nC nD iL lF kT sQ HB l7 asn aso asq;have nC:=ng;have nD:=ni;have iL:=qx;have lF:=sV;have kT:=xQ;have sQ:=Ht;have HB:=Nb;have asr:=OM;clear ng ni qx sV xQ Ht Nb OM ho hb hg hat
    obtain⟨Xg,Xh,ajf⟩:=Df asr.out
    (first|subst ajf|(injection ajf with sN zx sO;have zy:=sN.symm;have zA:=sO.symm;clear sN zx sO;subst zy;subst zA));refine hK.out _ _ ⟨(aG kT.out 0).trans rfl,(aG kT.out 1).trans rfl,(aG kT.out 2).trans rfl,(aG sQ.out 0).trans rfl,(aG sQ.out 1).trans rfl,(aG sQ.out 2).trans rfl⟩ (fun hHeld=>?_);clear hK K;refine iT (a':=?_) ?_ ?_
    rotate_left
    ·show Act.put _ (some 25) _=_
     simp only[Act.put,jB,jC,l_c,bJ,b_];rfl
    refine rG (i:=6) (N:=some 26) (v:=?_) (a':=?_) #[true,true,true,true,true,true,true,false] rfl rfl (rZ ug.out (by kernel_rfl)) (fun _ _ _ h=>h) (Or.inl ⟨by rfl,?_⟩) ?_ ?_
    rotate_left
    ·intro w';go_simp
     with_reducible rfl
    rotate_left
    ·simp only[Act.put,jB,jC,l_c,bJ,b_];rfl
    refine Xi (i:=7) (N:=none) #[true,true,true,true,true,true,true,true] rfl rfl (qM ug.out (by kernel_rfl)) (by decide) (fun K hK=>?_);have aKM:w34.cell? ⟨jG,2,none⟩=some (xw):=(aG kT.out 2).trans rfl;have aIb:=jl kT.out 2;have aCw:=kL.out;have aCx:=pK.out;have aCy:=ZA.out;have aCz:=r_.out;have aCA:=uy.out;have aCB:=Ic.out;refine Xc (w1:=?_) (by rfl) rfl ?_ ?_
    rotate_left
    ·go_simp;rfl
    refine hK.out _ _ ?_;clear hK K;refine P8 (Jt ug.out (by kernel_rfl)) ?_;try go_wp2
    go_roundg k1
    case measure=>have:=jv.out;omega
    case rel=>exact⟨(wrap64 (gK+1)),(aln),(.slice Xg aln.length Xh),rs,H',⟨by have:=jv.out;omega⟩,⟨ur (aY (bK (p:=⟨jG,2,none⟩) (eP nC.out kT.out (by decide)) (fun _ hk=>hk.2) (.slice Xg aln.length Xh)) (fun _ hk=>trivial))⟩,⟨ur (aY (bK (p:=⟨jG,2,none⟩) (eP nD.out kT.out (by decide)) (fun _ hk=>hk.2) (.slice Xg aln.length Xh)) (fun _ hk=>trivial))⟩,⟨by(with_reducible repeat(first|apply Kd.nK|apply Kd.nM|apply pG));exact oz (CS (p:=⟨jG,2,none⟩) (oz asr.out (fun k_ hk=>(⟨hk,hk.2.2.2.2.1⟩:_∧k_≠jG))) (fun _ hk=>hk.2) (.slice Xg aln.length Xh)) (fun _ hk=>⟨hk.1.1,⟨hk.1.2.1,⟨hk.1.2.2.1,⟨hk.1.2.2.2.1,hk.1.2.2.2.2.1⟩⟩⟩⟩)⟩,⟨by(with_reducible repeat(first|refine ay ?_ _|refine aC ?_|refine au ?_ _));refine fJ ?_ kL.out _;(with_reducible repeat(first|refine ay ?_ _|refine aC ?_|refine au ?_ _));exact iL.out⟩,⟨by(with_reducible repeat(first|refine ay ?_ _|refine aC ?_|refine au ?_ _));refine fJ ?_ pK.out _;(with_reducible repeat(first|refine ay ?_ _|refine aC ?_|refine au ?_ _));exact lF.out⟩,⟨by(with_reducible repeat(first|refine ay ?_ _|refine aC ?_|refine au ?_ _));refine bU (cs:=#[.slice Ah vH.length Ai, .slice xR vV.length uO,xw]) ?_ 2 _ rfl;(with_reducible repeat(first|refine ay ?_ _|refine aC ?_|refine au ?_ _));exact kT.out⟩,⟨bb⟩⟩
   ·simp only[Option.some.injEq,Prod.mk.injEq]at H;obtain⟨rfl,rfl,rfl⟩:=H;have asu:=r_.out;have asv:=kL.out;have aIc:=uy.out;have aId:=pK.out;obtain⟨agV,agW,agX,agY,agZ,ag0⟩:=iE kT.out;have ay1:=Zx.out;have ay2:=Zw.out;obtain⟨aCC,aCD,aCE,aCF,aCG,aCH⟩:=iE lF.out;obtain⟨aoU,aoV,aFJ⟩:=Df l7.out;subst aFJ;go_wp2;refine bodyPost_ret (results_cell_row rfl _ _ oZ 32 #[.slice Ah vH.length Ai, .slice xR vV.length uO, .slice aoU vM.length aoV] (0,0) _ rfl (by(with_reducible repeat(first|refine ay ?_ _|refine aC ?_|refine au ?_ _));refine bU (cs:=#[.slice Ah vH.length Ai, .slice xR vV.length uO, .slice none 0 0]) ?_ 2 _ rfl;(with_reducible repeat(first|refine ay ?_ _|refine aC ?_|refine au ?_ _));refine bU (cs:=#[.slice Ah vH.length Ai, .slice none 0 0, .slice none 0 0]) ?_ 1 _ rfl;(with_reducible repeat(first|refine ay ?_ _|refine aC ?_|refine au ?_ _));refine bU (cs:=#[.slice none 0 0, .slice none 0 0, .slice none 0 0]) ?_ 0 _ rfl;(with_reducible repeat(first|refine ay ?_ _|refine aC ?_|refine au ?_ _));exact lF.out) underlying32 rfl (by kernel_rfl)) rfl ?_;exact⟨_,_,_,er,ur (aY (bK (p:=⟨oZ,2,none⟩) (bK (p:=⟨oZ,1,none⟩) (bK (p:=⟨oZ,0,none⟩) (eP nC.out lF.out (by decide)) (fun _ hk=>hk.2) (.slice Ah vH.length Ai)) (fun _ hk=>hk.2) (.slice xR vV.length uO)) (fun _ hk=>hk.2) (.slice aoU vM.length aoV)) (fun _ hk=>trivial)),ur (aY (bK (p:=⟨oZ,2,none⟩) (bK (p:=⟨oZ,1,none⟩) (bK (p:=⟨oZ,0,none⟩) (eP nD.out lF.out (by decide)) (fun _ hk=>hk.2) (.slice Ah vH.length Ai)) (fun _ hk=>hk.2) (.slice xR vV.length uO)) (fun _ hk=>hk.2) (.slice aoU vM.length aoV)) (fun _ hk=>trivial)),by(with_reducible repeat(first|apply Kd.nK|apply Kd.nM|apply pG));exact oz (CS (p:=⟨oZ,2,none⟩) (CS (p:=⟨oZ,1,none⟩) (CS (p:=⟨oZ,0,none⟩) (oz l7.out (fun k_ hk=>(⟨hk,hk.2.2.2.1⟩:_∧k_≠oZ))) (fun _ hk=>hk.2) (.slice Ah vH.length Ai)) (fun _ hk=>hk.2) (.slice xR vV.length uO)) (fun _ hk=>hk.2) (.slice aoU vM.length aoV)) (fun _ hk=>⟨hk.1.1,hk.1.2.1⟩),bb⟩
end Go.Proofs.YtdimppdlfgnhgaaGreatDoor.PFnExactPartAt
