/- Printed walks; conditions: those in each statement. -/
import Derived.Test.YtncdadcmghglkaaGreatDoorVFnExactFormatPartQt
import Derived.Test.YtncdadcmghglkaaGreatDoorVFnExactFormatPartYt
import Derived.Test.YtncdadcmghglkaaGreatDoorPFnExactFormatPartx0
import Derived.Test.YtncdadcmghglkaaGreatDoorPFnExactFormatPartx11
namespace Go.Proofs.YtncdadcmghglkaaGreatDoor.PFnExactFormatPart
open Go.RowKit Go.Proofs.YtncdadcmghglkaaGreatDoor.X Go.Proofs.YtncdadcmghglkaaGreatDoorW.dB Go.Proofs.YtncdadcmghglkaaGreatDoorW.iy Go.Proofs.YtncdadcmghglkaaGreatDoorW.jo
attribute [local go_sem] lU lV oh oq kJ kK lW lX   -- for this text's walks alone
set_option linter.unusedVariables false
set_option linter.unusedSimpArgs false
mutual
def eP.l0:Nat→List (jl)→Int→Option (Bool)
 |0,_,_=>none
 |k+1,x0,x3=>if x3<(x0.length:Int)then(eP.j1 k x0 x3 (decide (x3≤20)))else(eP.j1 k x0 x3 false)
def eP.j1:Nat→List (jl)→Int→Bool→Option (Bool)
 |0,_,_,_=>none
 |k+1,x0,x3,x11=>if x11=true then(if 0≤x3 then(if x3<(x0.length:Int)then((jT.f k ((aH x0 x3).f0) ((aH x0 x3).f1)).bind fun aoi=>(if aoi=true then(eP.l0 k x0 (wrap64 (x3+1)))else(some false)))else(none))else(none))else(some (decide ((x0.length:Int)≤20)))
end
def eP.f(k:Nat)(l0:List (jl)):Option (Bool):=eP.l0 k l0 0
set_option maxHeartbeats 8000000 in
set_option maxRecDepth 100000 in
theorem eP.calls(k:Nat)(A0:Option Addr)(c0:Nat)(l0:List (jl))(r:Bool)(w:World)(hr0:Kd.C pV w A0 l0.length l0)(hc0:l0.length≤c0)(h:eP.f k l0=some r):
  Calls Tryz.prog 113 #[.slice A0 l0.length c0] w fun e w'=>e= .returned (.bool r)∧Below w.heap.size w w':=by
 have Dq:=Tryz.underlying69;have HR0:=ak hr0;have wJ:=ak hc0;clear hr0 hc0;have HB:=ak (Below.refl w.heap.size w);have H:(eP.l0 k l0 0)=some r:=h;clear h;have H':=ak H;clear H;go_enter Tryz.func113,Tryz.ntmps113;go_wp2;go_loopg [3] k (fun kq v3 w'=>∃(cO:Int),v3= .int .i64 cO∧ah (eP.l0 kq l0 cO=some r)∧ah (kq≤k)∧ah (Below w.heap.size w w'))
 case atStart=>exact⟨(0),rs,H',⟨Nat.le_refl _⟩,⟨ul HB.out⟩⟩
 case round=>
  clear H';try clear c1
  obtain⟨cO,rfl,HA,iC,HB⟩:=hrel
  cases gk with
  |zero=>exact absurd HA.out (by simp[eP.l0])
  |succ k1=>
   have H:=HA.out;clear HA;simp only[eP.l0]at H;have HC2:=ak H;clear H;go_upto_region 2 with(fail)
   go_cut [11] (fun v11 wc=>∃(kq:Nat) (sH:Bool),v11= .bool sH∧ah (eP.j1 kq l0 cO sH=some r)∧ah (kq≤k1)∧ah (Below w.heap.size w wc))
   case first=>
    have H:=HC2.out;clear HC2;replace H:=sd H;rcases H with⟨fM,H⟩|⟨fM,H⟩
    ·(first|rw[fM]|(simp only[bC,bH];rw[fM])|skip);have H':=ak H;clear H;go_wp2;go_meet
     case rel=>exact⟨_,(decide (cO≤20)),rs,H',⟨by have:=iC.out;first|omega|exact Nat.le_refl _⟩,⟨ul HB.out⟩⟩
    ·(first|rw[fM]|(simp only[bC,bH];rw[fM])|skip);have H':=ak H;clear H;go_wp2;go_meet
     case rel=>exact⟨_,(false),rs,H',⟨by have:=iC.out;first|omega|exact Nat.le_refl _⟩,⟨ul HB.out⟩⟩
   case rest=>
    clear HC2;try clear c1
    try clear p2
    try clear c3
    try clear fM
    obtain⟨kq,sH,rfl,HA,AO,HB⟩:=hcut
    cases kq with
    |zero=>exact absurd HA.out (by simp[eP.j1])
    |succ Gj=>
     have H:=HA.out;clear HA;simp only[eP.j1]at H;replace H:=sb H;rcases H with⟨rfl,H⟩|⟨rfl,H⟩
     ·replace H:=og H;obtain⟨pU,H⟩:=H;replace H:=og H;obtain⟨mW,H⟩:=H;replace H:=bd H;obtain⟨aoi,A7,H⟩:=H;replace H:=sb H;rcases H with⟨rfl,H⟩|⟨rfl,H⟩
      ·have H':=ak H;clear H;have Xw:=zi cO;have Xx:=zj cO l0.length;obtain⟨aoj,ak1,I8,I9⟩:=nC HR0.out cO Xw Xx;cases ak1;replace I8:=cl HB.out I8;replace I9:=cl HB.out I9;replace Xw:=eq_true Xw;replace Xx:=eq_true Xx;go_wp2_with (first|(refine gL 158 18 Tryz.func158 #[.agg #[.string ((aH l0 cO).f0), .string ((aH l0 cO).f1)]] ?_;(with_reducible refine(jT.calls Gj ((aH l0 cO).f0) ((aH l0 cO).f1) true _ A7.out).mono ?_);rintro e w9 ⟨rfl,hb⟩;refine⟨_,rfl,?_⟩;replace HB:=bs HB hb;(try clear hb)))
       go_roundg Gj
       case measure=>have:=iC.out;have:=AO.out;omega
       case rel=>exact⟨(wrap64 (cO+1)),rs,H',⟨by have:=iC.out;have:=AO.out;omega⟩,⟨ul HB.out⟩⟩
      ·obtain rfl:=Option.some.inj H;have Xw:=zi cO;have Xx:=zj cO l0.length;obtain⟨aoj,ak1,I8,I9⟩:=nC HR0.out cO Xw Xx;cases ak1;replace I8:=cl HB.out I8;replace I9:=cl HB.out I9;replace Xw:=eq_true Xw;replace Xx:=eq_true Xx;go_wp2_with (first|(refine gL 158 18 Tryz.func158 #[.agg #[.string ((aH l0 cO).f0), .string ((aH l0 cO).f1)]] ?_;(with_reducible refine(jT.calls Gj ((aH l0 cO).f0) ((aH l0 cO).f1) false _ A7.out).mono ?_);rintro e w10 ⟨rfl,hb⟩;refine⟨_,rfl,?_⟩;replace HB:=bs HB hb;(try clear hb)))
       go_ret;exact⟨er,ul HB.out⟩
     ·obtain rfl:=Option.some.inj H;go_wp2;go_ret;exact⟨er,ul HB.out⟩
mutual
def dW.l0:Nat→ByteArray→Int→Int→Option (Int)
 |0,_,_,_=>none
 |k+1,x0,x5,x6=>if(wrap64 (x6+1))<(x0.size:Int)then(if 0≤x6 then(if x6<(x0.size:Int)then(if(bt x0 x6)=32 then(if 0≤(wrap64 (x6-1))then(if(wrap64 (x6-1))<(x0.size:Int)then(if(bt x0 (wrap64 (x6-1)))=32 then(dW.j1 k x0 x5 x6 true)else(if 0≤(wrap64 (x6+1))then(dW.j1 k x0 x5 x6 ((bt x0 (wrap64 (x6+1)))==32))else(none)))else(none))else(none))else(dW.j1 k x0 x5 x6 true))else(none))else(none))else(some x5)
def dW.j1:Nat→ByteArray→Int→Int→Bool→Option (Int)
 |0,_,_,_,_=>none
 |k+1,x0,x5,x6,x33=>if x33=true then(dW.l0 k x0 x5 (wrap64 (x6+1)))else(if x6≤40 then(dW.l0 k x0 x6 (wrap64 (x6+1)))else(if x5<0 then(dW.l0 k x0 x6 (wrap64 (x6+1)))else(dW.l0 k x0 x5 (wrap64 (x6+1)))))
end
def dW.f(k:Nat)(a0:ByteArray)(a1:Int):Option (Int):=dW.l0 k a0 (-1) (wrap64 (a1+1))
set_option maxHeartbeats 8000000 in
set_option maxRecDepth 100000 in
theorem dW.calls(k:Nat)(a0:ByteArray)(a1:Int)(r:Int)(w:World)(h:dW.f k a0 a1=some r):
  Calls Tryz.prog 176 #[.string a0, .int .i64 a1] w fun e w'=>e= .returned (.int .i64 r)∧eH w w':=by
 have H:(dW.l0 k a0 (-1) (wrap64 (a1+1)))=some r:=h;clear h;have H':=ak H;clear H;go_enter Tryz.func176,Tryz.ntmps176;go_wp2;go_loopg [5,6] k (fun kq v5 v6 w'=>∃(aK:Int) (jX:Int),v5= .int .i64 aK∧v6= .int .i64 jX∧ah (dW.l0 kq a0 aK jX=some r)∧ah (kq≤k)∧eH w w')
 case atStart=>exact⟨((-1)),(wrap64 (a1+1)),rs,rs,H',⟨Nat.le_refl _⟩,dn⟩
 case round=>
  clear H';try clear c1
  try clear p2
  obtain⟨aK,jX,rfl,rfl,HA,iC,⟨m1,rfl⟩⟩:=hrel
  cases gk with
  |zero=>exact absurd HA.out (by simp[dW.l0])
  |succ k1=>
   have H:=HA.out;clear HA;simp only[dW.l0]at H;replace H:=sp H;rcases H with⟨c3,H⟩|⟨c3,H⟩
   ·have fM:=decide_eq_true c3
    (try(have oZ:decide ((jX+1)<(a0.size:Int))=true:=decide_eq_true (by have h_:=c3;unfold wrap64 at h_;omega)));clear c3;have HC4:=ak H;clear H;go_upto_region 5 with(fail)
    go_cut [33] (fun v33 wc=>∃(kq:Nat) (acW:Bool),v33= .bool acW∧ah (dW.j1 kq a0 aK jX acW=some r)∧ah (kq≤k1)∧eH w wc)
    case first=>
     have H:=HC4.out;clear HC4;replace H:=og H;obtain⟨pU,H⟩:=H
     (first|rw[pU]|(simp only[bC,bH];rw[pU])|skip);replace H:=og H;obtain⟨mW,H⟩:=H;replace H:=sq H;rcases H with⟨uV,Lh,H⟩|⟨c8,uV,Lh,H⟩
     ·obtain⟨Vw,TB⟩:∃j_:Int,(wrap64 (jX-1))=j_:=⟨_,rfl⟩
      replace H:(if 0≤(Vw)then(if(Vw)<(a0.size:Int)then(if(bt a0 (Vw))=32 then(dW.j1 k1 a0 aK jX true)else(if 0≤(wrap64 (jX+1))then(dW.j1 k1 a0 aK jX ((bt a0 (wrap64 (jX+1)))==32))else(none)))else(none))else(none))=some r:=by first|(rw[TB]at H;exact H)|(simp only[TB]at H⊢;exact H)
      have aog:(IntKind.i64.wrap (jX-1))=Vw:=(bC _).trans TB;replace H:=og H;obtain⟨qj,H⟩:=H;replace H:=og H;obtain⟨zU,H⟩:=H;replace H:=sq H;rcases H with⟨uO,yI,H⟩|⟨c13,uO,yI,H⟩
      ·have H':=ak H;clear H;obtain⟨p7,q7,hx7⟩:=bx a0 jX;obtain⟨p12,q12,af9⟩:=bx a0 (Vw);go_wp2;go_meet
       case rel=>exact⟨_,(true),rs,H',⟨by have:=iC.out;first|omega|exact Nat.le_refl _⟩,dn⟩
      ·obtain⟨acX,Vz⟩:∃j_:Int,(wrap64 (jX+1))=j_:=⟨_,rfl⟩
       replace H:(if 0≤(acX)then(dW.j1 k1 a0 aK jX ((bt a0 (acX))==32))else(none))=some r:=by first|(rw[Vz]at H;exact H)|(simp only[Vz]at H⊢;exact H)
       (try rw[Vz]at fM);have atS:(IntKind.i64.wrap (jX+1))=acX:=(bC _).trans Vz;replace H:=og H;obtain⟨xW,H⟩:=H;have H':=ak H;clear H;obtain⟨p7,q7,hx7⟩:=bx a0 jX;obtain⟨p12,q12,af9⟩:=bx a0 (Vw);obtain⟨p16,q16,hx16⟩:=bx a0 (acX);go_wp2;go_meet
       case rel=>exact⟨_,(((bt a0 (acX))==32)),(by first|rfl|(simp;done)|(simp only[←Vz]<;>(first|rfl|simp))|(simp[*];done)),H',⟨by have:=iC.out;first|omega|exact Nat.le_refl _⟩,dn⟩
     ·have H':=ak H;clear H;obtain⟨p7,q7,hx7⟩:=bx a0 jX;go_wp2;go_meet
      case rel=>exact⟨_,(true),rs,H',⟨by have:=iC.out;first|omega|exact Nat.le_refl _⟩,dn⟩
    case rest=>
     clear HC4;try clear c1
     try clear p1
     try clear q1
     try clear hx1
     try clear p2
     try clear c3
     try clear fM
     try clear oZ
     try clear c5
     try clear pU
     try clear c6
     try clear mW
     try clear p6
     try clear p7
     try clear q7
     try clear hx7
     try clear c8
     try clear uV
     try clear Lh
     try clear c10
     try clear qj
     try clear c11
     try clear zU
     try clear p12
     try clear q12
     try clear af9
     try clear c13
     try clear uO
     try clear yI
     try clear c15
     try clear xW
     try clear p16
     try clear q16
     try clear hx16
     try clear p12
     try clear p16
     try clear p2
     try clear p7
     try clear q12
     try clear q16
     try clear q7
     obtain⟨kq,acW,rfl,HA,Qx,⟨mc3,rfl⟩⟩:=hcut
     cases kq with
     |zero=>exact absurd HA.out (by simp[dW.j1])
     |succ kj3=>
      have H:=HA.out;clear HA;simp only[dW.j1]at H;replace H:=sb H;rcases H with⟨rfl,H⟩|⟨rfl,H⟩
      ·have H':=ak H;clear H;go_wp2;go_roundg kj3
       case measure=>have:=iC.out;have:=Qx.out;omega
       case rel=>exact⟨(aK),(wrap64 (jX+1)),rs,rs,H',⟨by have:=iC.out;have:=Qx.out;omega⟩,dn⟩
      ·replace H:=sd H;rcases H with⟨Bg,H⟩|⟨Bg,H⟩
       ·have H':=ak H;clear H;go_wp2;go_roundg kj3
        case measure=>have:=iC.out;have:=Qx.out;omega
        case rel=>exact⟨(jX),(wrap64 (jX+1)),rs,rs,H',⟨by have:=iC.out;have:=Qx.out;omega⟩,dn⟩
       ·replace H:=sd H;rcases H with⟨yH,H⟩|⟨yH,H⟩
        ·have H':=ak H;clear H;go_wp2;go_roundg kj3
         case measure=>have:=iC.out;have:=Qx.out;omega
         case rel=>exact⟨(jX),(wrap64 (jX+1)),rs,rs,H',⟨by have:=iC.out;have:=Qx.out;omega⟩,dn⟩
        ·have H':=ak H;clear H;go_wp2;go_roundg kj3
         case measure=>have:=iC.out;have:=Qx.out;omega
         case rel=>exact⟨(aK),(wrap64 (jX+1)),rs,rs,H',⟨by have:=iC.out;have:=Qx.out;omega⟩,dn⟩
   ·have fM:=decide_eq_false c3
    (try(have oZ:decide ((jX+1)<(a0.size:Int))=false:=decide_eq_false (by have h_:=c3;unfold wrap64 at h_;omega)));clear c3;obtain rfl:=Option.some.inj H;go_wp2;go_ret;exact⟨rs,dn⟩
mutual
def dY.j0:Nat→List ByteArray→ByteArray→Int→Option (List ByteArray)
 |0,_,_,_=>none
 |k+1,x3,x4,x5=>dY.l0 k x3 x4 x5
def dY.l0:Nat→List ByteArray→ByteArray→Int→Option (List ByteArray)
 |0,_,_,_=>none
 |k+1,x3,x4,x5=>if(x4.size:Int)>40 then((dW.f k x4 x5).bind fun I_=>(if I_<0 then(if x3.length<8796093022208 then(some (x3++[x4]))else(none))else(if 0≤I_ then(if I_≤(x4.size:Int)then(if x3.length<8796093022208 then(dY.l0 k (x3++[x4.extract 0 (I_:Int).toNat]) (x4.extract (I_:Int).toNat x4.size) 1)else(none))else(none))else(none))))else(if x3.length<8796093022208 then(some (x3++[x4]))else(none))
end
def dY.f(k:Nat)(aY:ByteArray)(bf:ByteArray):Option (List ByteArray):=(some (([]:List ByteArray):List ByteArray)).bind fun OT=>((jT.f k aY bf).bind fun agb=>(if agb=true then(if aY.size+1≤9223372036854775807 then(if bf.toList=([]:List UInt8)then(dY.j0 k OT (aY++(⟨#[58]⟩:ByteArray)) ((aY++(⟨#[58]⟩:ByteArray)).size:Int))else(if(aY++(⟨#[58]⟩:ByteArray)).size+1≤9223372036854775807 then(if((aY++(⟨#[58]⟩:ByteArray))++(⟨#[32]⟩:ByteArray)).size+bf.size≤9223372036854775807 then(dY.j0 k OT (((aY++(⟨#[58]⟩:ByteArray))++(⟨#[32]⟩:ByteArray))++bf) (wrap64 (((aY++(⟨#[58]⟩:ByteArray)).size:Int)+1)))else(none))else(none)))else(none))else(some OT)))
set_option maxHeartbeats 8000000 in
set_option maxRecDepth 100000 in
theorem dY.calls(k:Nat)(aY:ByteArray)(bf:ByteArray)(r:List ByteArray)(w:World)(h:dY.f k aY bf=some r):
  Calls Tryz.prog 153 #[.agg #[.string aY, .string bf]] w fun e w'=>∃wH:Value,e= .returned (wH)∧Kd.R Kd.string 9 w' w.heap.size (fun _=>True) wH r∧Below w.heap.size w w':=by
 have Dq:=Tryz.underlying69;have HB:=ak (Below.refl w.heap.size w);have H:((some (([]:List ByteArray):List ByteArray)).bind fun OT=>((jT.f k aY bf).bind fun agb=>(if agb=true then(if aY.size+1≤9223372036854775807 then(if bf.toList=([]:List UInt8)then(dY.j0 k OT (aY++(⟨#[58]⟩:ByteArray)) ((aY++(⟨#[58]⟩:ByteArray)).size:Int))else(if(aY++(⟨#[58]⟩:ByteArray)).size+1≤9223372036854775807 then(if((aY++(⟨#[58]⟩:ByteArray))++(⟨#[32]⟩:ByteArray)).size+bf.size≤9223372036854775807 then(dY.j0 k OT (((aY++(⟨#[58]⟩:ByteArray))++(⟨#[32]⟩:ByteArray))++bf) (wrap64 (((aY++(⟨#[58]⟩:ByteArray)).size:Int)+1)))else(none))else(none)))else(none))else(some OT))))=some r:=h;clear h;obtain⟨OT,VA⟩:=nm ([]:List ByteArray);rw[←VA.out]at H
 (try rw[Option.bind_some]at H);replace H:=bd H;obtain⟨agb,A2,H⟩:=H;replace H:=sb H;rcases H with⟨rfl,H⟩|⟨rfl,H⟩
 ·replace H:=nn H;obtain⟨c4,H⟩:=H;have nM:=eq_true c4;have OE:=decide_eq_true c4;try have akD:(9223372036854775807<aY.size+1)=False:=eq_false (Nat.not_lt.2 c4)
  have HC5:=ak H;clear H;go_enter Tryz.func153,Tryz.ntmps153;go_upto_if 19 with(first|(refine bE 1 #[.string aY, .string bf] 69 ?_;intro Ri hg w6 hbox hb;have oP:=ak (hbox);have aok:=jY HB hg;have aol:=jY HB hg;replace HB:=bs HB hb;clear hb hbox hg)|((with_reducible refine bU (N:=7) rfl ?_);refine Kd.qg Kd.string _ 9 ?hg (N:=7) ?hd (xs:=([]:List ByteArray)) (inner:=[]) (ok:=fun _=>True) (pz:=fun _=>True) ?hr ?hp (fun _ hk=>hk) trivial (Below.refl _ _) (Nat.le_refl _) (by simp) ?_;(case hd=>rfl);(case hg=>rfl);(case hr=>first|(go_simp;done)|(go_simp;rfl));(case hp=>exact(iF.none _ _));intro aom w7 ho8 hb rQ jw;clear rQ jw;(first|rw[←VA.out]at ho8|(simp only[Int.reduceToNat]at ho8;rw[←VA.out]at ho8));have MI:=ak (Kd.fA ho8 (aA bb));replace oP:=kb oP hb;replace HB:=ak (aG bb hb);clear hb ho8;obtain⟨rY,rZ,r_,su⟩:=wO oP.out)|(refine gL 158 9 Tryz.func158 #[.agg #[.string aY, .string bf]] ?_;(with_reducible refine(jT.calls k aY bf true _ A2.out).mono ?_);rintro e w10 ⟨rfl,hb⟩;refine⟨_,rfl,?_⟩;replace MI:=rb MI hb;replace oP:=kb oP hb;replace HB:=ak (aG bb hb);(try clear hb);obtain⟨xk,xq,xu,xw⟩:=wO oP.out))
  (try simp only[Act.put,jI,jJ,l_c]);go_cut [4,5] (fun v4 v5 wc=>∃(kq:Nat) (agc:ByteArray) (agd:Int),v4= .string agc∧v5= .int .i64 agd∧ah (dY.j0 kq OT agc agd=some r)∧ah (kq≤k)∧ah (Kd.R Kd.string 9 wc w.heap.size (fun _=>True) aom OT)∧ah (wc.heap[Ri]? =some (.cells #[.string aY, .string bf] 69 (0,0)))∧ah (Below w.heap.size w wc))
  case first=>
   have H:=HC5.out;clear HC5;replace H:=sp H;rcases H with⟨c12,H⟩|⟨c12,H⟩
   ·have vJ:=beq_iff_eq.mpr c12;have ak2:(bf.toList).isEmpty=true:=List.isEmpty_iff.mpr c12;have Cj:=bne_eq_false_iff_eq.mpr c12;clear c12
    (first|rw[vJ]|(simp only[bC,bH];rw[vJ])|skip)
    (first|(rw[ak2];simp only[Bool.not_true,Bool.not_false])|skip);have H':=ak H;clear H;go_wp2;go_meet
    case rel=>exact⟨_,(aY++(⟨#[58]⟩:ByteArray)),(((aY++(⟨#[58]⟩:ByteArray)).size:Int)),rs,rs,H',⟨Qw⟩,⟨ur MI.out⟩,⟨ub oP.out⟩,⟨bb⟩⟩
   ·have vJ:=beq_eq_false_iff_ne.mpr c12;have ak2:(bf.toList).isEmpty=false:=List.isEmpty_eq_false_iff.mpr c12;have Cj:=bne_iff_ne.mpr c12
    (first|rw[vJ]|(simp only[bC,bH];rw[vJ])|skip)
    (first|(rw[ak2];simp only[Bool.not_true,Bool.not_false])|skip);replace H:=nn H;obtain⟨c13,H⟩:=H;have uO:=eq_true c13;have yI:=decide_eq_true c13;try have aon:(9223372036854775807<aY.size+1+1)=False:=by have h_:=(eq_false (Nat.not_lt.2 c13):(9223372036854775807<(aY++(⟨#[58]⟩:ByteArray)).size+1)=False);simp only[ByteArray.size_append]at h_;exact h_
    try have acY:(9223372036854775807<(aY++(⟨#[58]⟩:ByteArray)).size+1)=False:=eq_false (Nat.not_lt.2 c13)
    replace H:=nn H;obtain⟨c14,H⟩:=H;have t_:=eq_true c14;have yJ:=decide_eq_true c14;try have awk:(9223372036854775807<aY.size+1+1+bf.size)=False:=by have h_:=(eq_false (Nat.not_lt.2 c14):(9223372036854775807<((aY++(⟨#[58]⟩:ByteArray))++(⟨#[32]⟩:ByteArray)).size+bf.size)=False);simp only[ByteArray.size_append]at h_;exact h_
    try have acZ:(9223372036854775807<((aY++(⟨#[58]⟩:ByteArray))++(⟨#[32]⟩:ByteArray)).size+bf.size)=False:=eq_false (Nat.not_lt.2 c14)
    have H':=ak H;clear H;obtain⟨lI,lJ,lK,lM⟩:=wO oP.out;go_wp2;go_meet
    case rel=>exact⟨_,(((aY++(⟨#[58]⟩:ByteArray))++(⟨#[32]⟩:ByteArray))++bf),(wrap64 (((aY++(⟨#[58]⟩:ByteArray)).size:Int)+1)),rs,rs,H',⟨Qw⟩,⟨ur MI.out⟩,⟨ub oP.out⟩,⟨bb⟩⟩
  case rest=>
   clear HC5;try clear c1
   try clear p2
   try clear c3
   try clear c4
   try clear nM
   try clear OE
   try clear akD
   try clear p6
   try clear c12
   try clear vJ
   try clear Cj
   try clear c13
   try clear uO
   try clear yI
   try clear acY
   try clear c14
   try clear t_
   try clear yJ
   try clear acZ
   try clear c15
   try clear xk
   try clear xq
   try clear lI
   try clear lJ
   try clear rY
   try clear rZ
   try clear xu
   try clear xw
   try clear lK
   try clear lM
   try clear r_
   try clear su
   obtain⟨kq,agc,agd,rfl,rfl,HA,HJ4,kD,oP,HB⟩:=hcut
   cases kq with
   |zero=>exact absurd HA.out (by simp[dY.j0])
   |succ kj4=>
    have H:=HA.out;clear HA;simp only[dY.j0]at H;have H':=ak H;clear H;go_wp2;go_loopg [3,4,5] kj4 (fun kq v3 v4 v5 w'=>∃(kG:List ByteArray) (fQ:ByteArray) (mY:Int),v4= .string fQ∧v5= .int .i64 mY∧ah (dY.l0 kq kG fQ mY=some r)∧ah (kq≤kj4)∧ah (Kd.R Kd.string 9 w' w.heap.size (fun _=>True) v3 kG)∧ah (w'.heap[Ri]? =some (.cells #[.string aY, .string bf] 69 (0,0)))∧ah (Below w.heap.size w w'))
    case atStart=>exact⟨(OT),(agc),(agd),rs,rs,H',⟨Nat.le_refl _⟩,⟨ur kD.out⟩,⟨ub oP.out⟩,⟨bb⟩⟩
    case round=>
     clear H';try clear c1
     try clear p2
     try clear c3
     try clear c4
     try clear nM
     try clear OE
     try clear akD
     try clear p6
     try clear c12
     try clear vJ
     try clear Cj
     try clear c13
     try clear uO
     try clear yI
     try clear acY
     try clear c14
     try clear t_
     try clear yJ
     try clear acZ
     try clear c15
     try clear xk
     try clear xq
     try clear lI
     try clear lJ
     try clear rY
     try clear rZ
     try clear xu
     try clear xw
     try clear lK
     try clear lM
     try clear r_
     try clear su
     try clear p2
     try clear p6
     obtain⟨kG,fQ,mY,rfl,rfl,HA,yT,kD,oP,HB⟩:=hrel
     cases gk with
     |zero=>exact absurd HA.out (by simp[dY.l0])
     |succ k2=>
      have H:=HA.out;clear HA;simp only[dY.l0]at H;replace H:=sp H;rcases H with⟨c16,H⟩|⟨c16,H⟩
      ·have Ja:decide (40<(fQ.size:Int))=true:=decide_eq_true c16;have ac0:decide (40<fQ.size)=true:=decide_eq_true (by omega);clear c16;replace H:=bd H;obtain⟨I_,A17,H⟩:=H;replace H:=sd H;rcases H with⟨Bg,H⟩|⟨Bg,H⟩
       ·replace H:=nl H;obtain⟨ac1,H⟩:=H;obtain⟨ayF,ai8⟩:=nm (kG++[fQ]);rw[←ai8.out]at H
        (try rw[Option.bind_some]at H);obtain rfl:=Option.some.inj H;go_wp2_with (first|(refine gL 176 32 Tryz.func176 #[.string fQ, .int .i64 mY] ?_;(with_reducible refine(dW.calls k2 fQ mY I_ _ A17.out).mono ?_);rintro e w' ⟨rfl,⟨nd,rfl⟩⟩;refine⟨_,rfl,?_⟩)|((with_reducible refine dD (b:= .append) (xs:=#[.tmp 44, .tmp 46]) rfl ?_);at_builtin;refine Kd.iR Kd.string (w0:=w) w.heap.size rfl (.tmp 44) (.tmp 46) 23 9 (.string ⟨#[]⟩) 16 rfl Tryz.underlying23 info9 rfl (by decide) (by omega) u3 kG fQ [.string fQ] (fun _=>True) (fun _=>False) rfl rfl ?aP (fun _ hk=>hk.elim) ?aF ?aO ?aB ?aS ?aL ?_;(case aP=>exact rfl);(case aB=>exact bb);(case aF=>exact(fun _ _=>trivial));(case aO=>exact(ur kD.out));(case aS=>exact(aA bb));(case aL=>have:=ac1.out;omega);intro ayG w20 ho hb hg hat;rw[←ai8.out]at ho;have iH:=ak (iW (g:=Ri) (o:= .cells #[.string aY, .string bf] 69 (0,0)) (ub oP.out) hg (Kd.AP kD.out oP.out (by decide)));have iI:=ak (hb);have lS:=ak (ho);clear oP;clear HB;clear kD;have oP:=iH;have HB:=iI;have aoo:=lS;clear iH iI lS;clear ho hb hg hat))
        go_ret;exact⟨_,er,ur aoo.out,bb⟩
       ·replace H:=EG H;obtain⟨Eo,ai9,H⟩:=H;replace H:=EG H;obtain⟨OU,ai_,H⟩:=H;replace H:=nl H;obtain⟨ac2,H⟩:=H;obtain⟨atT,aja⟩:=nm (kG++[fQ.extract 0 (I_:Int).toNat]);rw[←aja.out]at H
        (try rw[Option.bind_some]at H);have Rj:=eq_true (of_decide_eq_true (by assumption):0≤I_);have VB:=eq_true (of_decide_eq_true (by assumption):I_≤(fQ.size:Int));have H':=ak H;clear H;go_wp2_with (first|(refine gL 176 32 Tryz.func176 #[.string fQ, .int .i64 mY] ?_;(with_reducible refine(dW.calls k2 fQ mY I_ _ A17.out).mono ?_);rintro e w' ⟨rfl,⟨nd,rfl⟩⟩;refine⟨_,rfl,?_⟩)|((with_reducible refine dD (b:= .append) (xs:=#[.tmp 35, .tmp 39]) rfl ?_);at_builtin;refine Kd.iR Kd.string (w0:=w) w.heap.size rfl (.tmp 35) (.tmp 39) 23 9 (.string ⟨#[]⟩) 16 rfl Tryz.underlying23 info9 rfl (by decide) (by omega) u3 kG (fQ.extract 0 (I_:Int).toNat) [.string (fQ.extract 0 (I_:Int).toNat)] (fun _=>True) (fun _=>False) rfl rfl ?aP (fun _ hk=>hk.elim) ?aF ?aO ?aB ?aS ?aL ?_;(case aP=>exact rfl);(case aB=>exact bb);(case aF=>exact(fun _ _=>trivial));(case aO=>exact(ur kD.out));(case aS=>exact(aA bb));(case aL=>have:=ac2.out;omega);intro ayH w26 ho hb hg hat;rw[←aja.out]at ho;have iH:=ak (iW (g:=Ri) (o:= .cells #[.string aY, .string bf] 69 (0,0)) (ub oP.out) hg (Kd.AP kD.out oP.out (by decide)));have iI:=ak (hb);have lS:=ak (ho);clear oP;clear HB;clear kD;have oP:=iH;have HB:=iI;have aop:=lS;clear iH iI lS;clear ho hb hg hat))
        go_roundg k2
        case measure=>have:=HJ4.out;have:=yT.out;omega
        case rel=>exact⟨(atT),(fQ.extract (I_:Int).toNat fQ.size),(1),rs,rs,H',⟨by have:=HJ4.out;have:=yT.out;omega⟩,⟨ur aop.out⟩,⟨ub oP.out⟩,⟨bb⟩⟩
      ·have Ja:decide (40<(fQ.size:Int))=false:=decide_eq_false c16;have ac0:decide (40<fQ.size)=false:=decide_eq_false (by omega);clear c16;replace H:=nl H;obtain⟨ac3,H⟩:=H;obtain⟨ayI,ajb⟩:=nm (kG++[fQ]);rw[←ajb.out]at H
       (try rw[Option.bind_some]at H);obtain rfl:=Option.some.inj H;go_wp2_with (first|((with_reducible refine dD (b:= .append) (xs:=#[.tmp 44, .tmp 46]) rfl ?_);at_builtin;refine Kd.iR Kd.string (w0:=w) w.heap.size rfl (.tmp 44) (.tmp 46) 23 9 (.string ⟨#[]⟩) 16 rfl Tryz.underlying23 info9 rfl (by decide) (by omega) u3 kG fQ [.string fQ] (fun _=>True) (fun _=>False) rfl rfl ?aP (fun _ hk=>hk.elim) ?aF ?aO ?aB ?aS ?aL ?_;(case aP=>exact rfl);(case aB=>exact bb);(case aF=>exact(fun _ _=>trivial));(case aO=>exact(ur kD.out));(case aS=>exact(aA bb));(case aL=>have:=ac3.out;omega);intro ayJ w28 ho hb hg hat;rw[←ajb.out]at ho;have iH:=ak (iW (g:=Ri) (o:= .cells #[.string aY, .string bf] 69 (0,0)) (ub oP.out) hg (Kd.AP kD.out oP.out (by decide)));have iI:=ak (hb);have lS:=ak (ho);clear oP;clear HB;clear kD;have oP:=iH;have HB:=iI;have aoq:=lS;clear iH iI lS;clear ho hb hg hat))
       go_ret;exact⟨_,er,ur aoq.out,bb⟩
 ·obtain rfl:=Option.some.inj H;go_enter Tryz.func153,Tryz.ntmps153;go_wp2_with (first|(refine bE 1 #[.string aY, .string bf] 69 ?_;intro Ri hg w29 hbox hb;have oP:=ak (hbox);have aok:=jY HB hg;have aol:=jY HB hg;replace HB:=bs HB hb;clear hb hbox hg)|((with_reducible refine bU (N:=7) rfl ?_);refine Kd.qg Kd.string _ 9 ?hg (N:=7) ?hd (xs:=([]:List ByteArray)) (inner:=[]) (ok:=fun _=>True) (pz:=fun _=>True) ?hr ?hp (fun _ hk=>hk) trivial (Below.refl _ _) (Nat.le_refl _) (by simp) ?_;(case hd=>rfl);(case hg=>rfl);(case hr=>first|(go_simp;done)|(go_simp;rfl));(case hp=>exact(iF.none _ _));intro aom w30 ac4 hb rQ jw;clear rQ jw;(first|rw[←VA.out]at ac4|(simp only[Int.reduceToNat]at ac4;rw[←VA.out]at ac4));have MI:=ak (Kd.fA ac4 (aA bb));replace oP:=kb oP hb;replace HB:=ak (aG bb hb);clear hb ac4;obtain⟨agf,agh,agi,agj⟩:=wO oP.out)|(refine gL 158 9 Tryz.func158 #[.agg #[.string aY, .string bf]] ?_;(with_reducible refine(jT.calls k aY bf false _ A2.out).mono ?_);rintro e w33 ⟨rfl,hb⟩;refine⟨_,rfl,?_⟩;replace MI:=rb MI hb;replace oP:=kb oP hb;replace HB:=ak (aG bb hb);(try clear hb)))
  go_ret;exact⟨_,er,ur MI.out,bb⟩
def gu.l0:Nat→List (jl)→List ByteArray→Int→Option (List ByteArray×Bool)
 |0,_,_,_=>none
 |k+1,x0,x4,x5=>if x5<(x0.length:Int)then(if 0≤x5 then((dY.f k ((aH x0 x5).f0) ((aH x0 x5).f1)).bind fun Xy=>(if x4.length+Xy.length<8796093022208 then(gu.l0 k x0 (x4++Xy) (wrap64 (x5+1)))else(none)))else(none))else(some (x4,true))
def gu.f(k:Nat)(l0:List (jl)):Option (List ByteArray×Bool):=(some (([]:List ByteArray):List ByteArray)).bind fun Xz=>((eP.f k l0).bind fun agk=>(if agk=true then(gu.l0 k l0 Xz 0)else(some (Xz,false))))
set_option maxHeartbeats 8000000 in
set_option maxRecDepth 100000 in
theorem gu.calls(k:Nat)(A0:Option Addr)(c0:Nat)(l0:List (jl))(r1:List ByteArray)(r2:Bool)(w:World)(hr0:Kd.C pV w A0 l0.length l0)(hc0:l0.length≤c0)(h:gu.f k l0=some (r1,r2)):
  Calls Tryz.prog 107 #[.slice A0 l0.length c0] w fun e w'=>∃wH:Value,e= .returned (.tuple #[wH, .bool r2])∧Kd.R Kd.string 9 w' w.heap.size (fun _=>True) wH r1∧Below w.heap.size w w':=by
 have Dq:=Tryz.underlying69;have HR0:=ak hr0;have wJ:=ak hc0;clear hr0 hc0;have HB:=ak (Below.refl w.heap.size w);have H:((some (([]:List ByteArray):List ByteArray)).bind fun Xz=>((eP.f k l0).bind fun agk=>(if agk=true then(gu.l0 k l0 Xz 0)else(some (Xz,false)))))=some (r1,r2):=h;clear h;obtain⟨Xz,VD⟩:=nm ([]:List ByteArray);rw[←VD.out]at H
 (try rw[Option.bind_some]at H);replace H:=bd H;obtain⟨agk,A2,H⟩:=H;replace H:=sb H;rcases H with⟨rfl,H⟩|⟨rfl,H⟩
 ·have H':=ak H;clear H;go_enter Tryz.func107,Tryz.ntmps107;go_wp2_with (first|((with_reducible refine bU (N:=6) rfl ?_);refine Kd.qg Kd.string _ 9 ?hg (N:=6) ?hd (xs:=([]:List ByteArray)) (inner:=[]) (ok:=fun _=>True) (pz:=fun _=>True) ?hr ?hp (fun _ hk=>hk) trivial (Below.refl _ _) (Nat.le_refl _) (by simp) ?_;(case hd=>rfl);(case hg=>rfl);(case hr=>first|(go_simp;done)|(go_simp;rfl));(case hp=>exact(iF.none _ _));intro atU w4 Fg hb rQ jw;clear rQ jw;(first|rw[←VD.out]at Fg|(simp only[Int.reduceToNat]at Fg;rw[←VD.out]at Fg));have OV:=ak (Kd.fA Fg (aA (ul HB.out)));replace HB:=bs HB hb;clear hb Fg)|(refine gL 113 8 Tryz.func113 #[.slice A0 l0.length c0] ?_;(with_reducible refine(eP.calls k _ _ l0 true _ (cu (Kd.aN HR0.out HB.out)) wJ.out A2.out).mono ?_);rintro e w6 ⟨rfl,hb⟩;refine⟨_,rfl,?_⟩;replace OV:=rb OV hb;replace HB:=bs HB hb;(try clear hb)))
  go_loopg [4,5] k (fun kq v4 v5 w'=>∃(eG:List ByteArray) (aK:Int),v5= .int .i64 aK∧ah (gu.l0 kq l0 eG aK=some (r1,r2))∧ah (kq≤k)∧ah (Kd.R Kd.string 9 w' w.heap.size (fun _=>True) v4 eG)∧ah (Below w.heap.size w w'))
  case atStart=>exact⟨(Xz),(0),rs,H',⟨Nat.le_refl _⟩,⟨ur OV.out⟩,⟨ul HB.out⟩⟩
  case round=>
   clear H';try clear c1
   try clear p2
   try clear c3
   obtain⟨eG,aK,rfl,HA,iC,lu,HB⟩:=hrel
   cases gk with
   |zero=>exact absurd HA.out (by simp[gu.l0])
   |succ k1=>
    have H:=HA.out;clear HA;simp only[gu.l0]at H;replace H:=sd H;rcases H with⟨oJ,H⟩|⟨oJ,H⟩
    ·replace H:=og H;obtain⟨uV,H⟩:=H;replace H:=bd H;obtain⟨Xy,A9,H⟩:=H;replace H:=nl H;obtain⟨Vr,H⟩:=H;obtain⟨atV,ajc⟩:=nm (eG++Xy);rw[←ajc.out]at H
     (try rw[Option.bind_some]at H);have H':=ak H;clear H;have ak3:=zi aK;have ak4:=zj aK l0.length;obtain⟨awl,atW,Zy,Zz⟩:=nC HR0.out aK ak3 ak4;cases atW;replace Zy:=cl HB.out Zy;replace Zz:=cl HB.out Zz;replace ak3:=eq_true ak3;replace ak4:=eq_true ak4;go_wp2_with (first|(refine gL 153 22 Tryz.func153 #[.agg #[.string ((aH l0 aK).f0), .string ((aH l0 aK).f1)]] ?_;(with_reducible refine(dY.calls k1 ((aH l0 aK).f0) ((aH l0 aK).f1) Xy _ A9.out).mono ?_);rintro e Cm ⟨ayK,rfl,ho0,hb⟩;refine⟨_,rfl,?_⟩;have Rk:=ak (Kd.fA (Kd.rE ho0 (Kd.yB (ur lu.out))) (aA (ul HB.out)));replace lu:=ak (Kd.oN (ur lu.out) (Kd.oO ho0) hb);replace HB:=bs HB hb;(try clear hb);(try clear ho0);obtain⟨XA,Gx,ac5⟩:=Kd.eU Rk.out;subst ac5)|((with_reducible refine dD (b:= .append) (xs:=#[.tmp 17, .tmp 22]) rfl ?_);at_builtin;refine Kd.ru Kd.string (w0:=w) w.heap.size rfl (.tmp 17) (.tmp 22) 23 9 (.string ⟨#[]⟩) 16 rfl Tryz.underlying23 info9 rfl (by decide) (by omega) u4 eG Xy _ _ _ (fun k_=>some k_≠(.slice XA Xy.length Gx:Value).ownBlock) (fun _=>False) rfl rfl ?aO ?aR (fun _ _ h=>h) (fun _ h=>h.elim) ?aF ?aB ?aS ?aL ?_;(case aR=>repeat(first|exact(Kd.dK Rk.out).2.2|(with_reducible refine Kd.iP ?_ _)|(with_reducible refine Kd.iQ ?_ _)|(with_reducible refine Kd.jK ?_)));(case aB=>exact(ul HB.out));(case aF=>exact(fun k_ hk=>Kd.fresh' (Kd.yB (ur Rk.out)) k_ hk));(case aO=>exact(ur (Kd.dM lu.out (fun _ hk=>hk.2))));(case aS=>exact(aA (ul HB.out)));(case aL=>have:=Vr.out;omega);intro ayL w12 ho hb hg hat;rw[←ajc.out]at ho;have iH:=ak (Kd.I7 (ok:=(fun _=>True)) (ur Rk.out) hg hat);have iI:=ak (hb);have lS:=ak (ho);clear Rk;clear HB;clear lu;have Rk:=iH;have HB:=iI;have aor:=lS;clear iH iI lS;clear ho hb hg hat))
     go_roundg k1
     case measure=>have:=iC.out;omega
     case rel=>exact⟨(atV),(wrap64 (aK+1)),rs,H',⟨by have:=iC.out;omega⟩,⟨ur (Kd.dM aor.out (fun _ hk=>trivial))⟩,⟨ul HB.out⟩⟩
    ·simp only[Option.some.injEq,Prod.mk.injEq]at H;obtain⟨rfl,rfl⟩:=H;go_wp2;go_ret2;exact⟨_,er,ur lu.out,ul HB.out⟩
 ·simp only[Option.some.injEq,Prod.mk.injEq]at H;obtain⟨rfl,rfl⟩:=H;go_enter Tryz.func107,Tryz.ntmps107;go_wp2_with (first|((with_reducible refine bU (N:=6) rfl ?_);refine Kd.qg Kd.string _ 9 ?hg (N:=6) ?hd (xs:=([]:List ByteArray)) (inner:=[]) (ok:=fun _=>True) (pz:=fun _=>True) ?hr ?hp (fun _ hk=>hk) trivial (Below.refl _ _) (Nat.le_refl _) (by simp) ?_;(case hd=>rfl);(case hg=>rfl);(case hr=>first|(go_simp;done)|(go_simp;rfl));(case hp=>exact(iF.none _ _));intro atU Q9 OW hb rQ jw;clear rQ jw;(first|rw[←VD.out]at OW|(simp only[Int.reduceToNat]at OW;rw[←VD.out]at OW));have OV:=ak (Kd.fA OW (aA (ul HB.out)));replace HB:=bs HB hb;clear hb OW)|(refine gL 113 8 Tryz.func113 #[.slice A0 l0.length c0] ?_;(with_reducible refine(eP.calls k _ _ l0 false _ (cu (Kd.aN HR0.out HB.out)) wJ.out A2.out).mono ?_);rintro e w16 ⟨rfl,hb⟩;refine⟨_,rfl,?_⟩;replace OV:=rb OV hb;replace HB:=bs HB hb;(try clear hb)))
  go_ret2;exact⟨_,er,ur OV.out,ul HB.out⟩
def eX.f(a0:ByteArray):Option (ByteArray):=if a0.size≤140737488355328 then some (strOfNums ((bytesOf a0).map Qy))else none
set_option maxHeartbeats 1000000 in
set_option maxRecDepth 100000 in
theorem eX.calls(a0:ByteArray)(r:ByteArray)(w:World)(h:eX.f a0=some r):
  Calls Tryz.prog 180 #[.string a0] w fun e w'=>e= .returned (.string r)∧Below w.heap.size w w':=by
 unfold eX.f at h;split at h
 ·rename_i hb
  injection h with h;subst h;have kb:=fun W=>MJ (P:=Tryz.prog) 9 22 5 Tryz.underlying9 Tryz.underlying22 Tryz.underlying5 a0 W
  go_enter Tryz.func180,Tryz.ntmps180;go_wp2;go_loopw [4] (fun i W=>∃k:Nat,k≤a0.size∧i= .int .i64 k∧Ll w w.heap.size (EI (bytesOf a0) k) W) (fun i _=>a0.size-(intOf i).toNat)
  case atStart=>exact⟨0,Nat.zero_le _,rfl,by simpa [EI] using Jb w 5 a0⟩
  case round=>
   obtain⟨k,hk,rfl,hR⟩:=hrel;have HR:=ak hR;by_cases hlt:k<a0.size
   ·have hc:=hR.cell k (by rw[kP,bytesOf_length];exact hlt);have hf:=hR.free k (by rw[kP,bytesOf_length];exact hlt);rw[TD _ _ (by rw[bytesOf_length];exact hlt)]at hc;clear hR;have hr:=GZ a0 k;have hs:=ak (Rl (bytesOf a0) k (by rw[bytesOf_length];exact hlt));have hu:=ak (Lm (bytesOf a0) k (by rw[bytesOf_length];exact hlt))
    generalize (bytesOf a0).getD k 0=c at hc hr hs hu
    go_wp2
    ·go_roundw
     case rel=>exact⟨k+1,by omega,by go_num,by
      rw[hu.out,Qy,if_pos ⟨by omega,by omega⟩];exact HR.out.store (Nat.le_refl _) k (by rw[kP,bytesOf_length];exact hlt) _⟩
     case measure=>simp[intOf];omega
    ·go_roundw
     case rel=>exact⟨k+1,by omega,by go_num,by rw[hs.out (by omega)];exact HR.out⟩
     case measure=>simp[intOf];omega
    ·go_roundw
     case rel=>exact⟨k+1,by omega,by go_num,by rw[hs.out (by omega)];exact HR.out⟩
     case measure=>simp[intOf];omega
   ·clear hR
    have kd:=run_convert_bytes_arg (P:=Tryz.prog) wr 22 5 Tryz.underlying22 Tryz.underlying5 w.heap.size 0 a0.size (grownCap w a0.size 0 5) (EI (bytesOf a0) k) (by rw[kP,bytesOf_length]) (fun i hi=>by
     rw[Nat.zero_add];exact HR.out.cell i (by rw[kP,bytesOf_length];exact hi)) 9 Tryz.underlying9
    go_wp2;go_ret;have hk2:k=a0.size:=by omega
    exact⟨by rw[hk2,VE (bytesOf a0) a0.size (bytesOf_length a0)];rfl,HR.out.below⟩
 ·cases h
def pJ.f(a0:ByteArray)(a1:ByteArray):Option (Bool):=(eX.f a0).bind fun ac6=>((eX.f a1).bind fun ac7=>(some (ac6.toList==ac7.toList)))
set_option maxHeartbeats 8000000 in
set_option maxRecDepth 100000 in
theorem pJ.calls(a0:ByteArray)(a1:ByteArray)(r:Bool)(w:World)(h:pJ.f a0 a1=some r):
  Calls Tryz.prog 197 #[.string a0, .string a1] w fun e w'=>e= .returned (.bool r)∧Below w.heap.size w w':=by
 have HB:=ak (Below.refl w.heap.size w);have H:((eX.f a0).bind fun ac6=>((eX.f a1).bind fun ac7=>(some (ac6.toList==ac7.toList))))=some r:=h;clear h;replace H:=bd H;obtain⟨ac6,A3,H⟩:=H;replace H:=bd H;obtain⟨ac7,A4,H⟩:=H;obtain rfl:=Option.some.inj H;go_enter Tryz.func197,Tryz.ntmps197;go_wp2_with (first|(refine gL 180 6 Tryz.func180 #[.string a0] ?_;(with_reducible refine(eX.calls a0 ac6 _ A3.out).mono ?_);rintro e w5 ⟨rfl,hb⟩;refine⟨_,rfl,?_⟩;replace HB:=bs HB hb;(try clear hb))|(refine gL 180 8 Tryz.func180 #[.string a1] ?_;(with_reducible refine(eX.calls a1 ac7 _ A4.out).mono ?_);rintro e w6 ⟨rfl,hb⟩;refine⟨_,rfl,?_⟩;replace HB:=bs HB hb;(try clear hb)))
 go_ret;exact⟨er,ul HB.out⟩
def iU.l0:Nat→List (jl)→ByteArray→Int→Option (Int)
 |0,_,_,_=>none
 |k+1,x0,x1,x5=>if x5<(x0.length:Int)then(if 0≤x5 then((pJ.f ((aH x0 x5).f0) x1).bind fun aos=>(if aos=true then(some x5)else(iU.l0 k x0 x1 (wrap64 (x5+1)))))else(none))else(some (-1))
def iU.f(k:Nat)(l0:List (jl))(a1:ByteArray):Option (Int):=iU.l0 k l0 a1 0
set_option maxHeartbeats 8000000 in
set_option maxRecDepth 100000 in
theorem iU.calls(k:Nat)(A0:Option Addr)(c0:Nat)(l0:List (jl))(a1:ByteArray)(r:Int)(w:World)(hr0:Kd.C pV w A0 l0.length l0)(hc0:l0.length≤c0)(h:iU.f k l0 a1=some r):
  Calls Tryz.prog 177 #[.slice A0 l0.length c0, .string a1] w fun e w'=>e= .returned (.int .i64 r)∧Below w.heap.size w w':=by
 have HR0:=ak hr0;have wJ:=ak hc0;clear hr0 hc0;have HB:=ak (Below.refl w.heap.size w);have H:(iU.l0 k l0 a1 0)=some r:=h;clear h;have H':=ak H;clear H;go_enter Tryz.func177,Tryz.ntmps177;go_wp2;go_loopg [5] k (fun kq v5 w'=>∃(aK:Int),v5= .int .i64 aK∧ah (iU.l0 kq l0 a1 aK=some r)∧ah (kq≤k)∧ah (Below w.heap.size w w'))
 case atStart=>exact⟨(0),rs,H',⟨Nat.le_refl _⟩,⟨ul HB.out⟩⟩
 case round=>
  clear H';try clear c1
  try clear p2
  obtain⟨aK,rfl,HA,iC,HB⟩:=hrel
  cases gk with
  |zero=>exact absurd HA.out (by simp[iU.l0])
  |succ k1=>
   have H:=HA.out;clear HA;simp only[iU.l0]at H;replace H:=sd H;rcases H with⟨fM,H⟩|⟨fM,H⟩
   ·replace H:=og H;obtain⟨nM,H⟩:=H;replace H:=bd H;obtain⟨aos,A5,H⟩:=H;replace H:=sb H;rcases H with⟨rfl,H⟩|⟨rfl,H⟩
    ·obtain rfl:=Option.some.inj H;have XB:=zi aK;have XC:=zj aK l0.length;obtain⟨aot,ak5,Jc,Jd⟩:=nC HR0.out aK XB XC;cases ak5;replace Jc:=cl HB.out Jc;replace Jd:=cl HB.out Jd;replace XB:=eq_true XB;replace XC:=eq_true XC;go_wp2_with (first|(refine gL 197 18 Tryz.func197 #[.string ((aH l0 aK).f0), .string a1] ?_;(with_reducible refine(pJ.calls ((aH l0 aK).f0) a1 true _ A5.out).mono ?_);rintro e w7 ⟨rfl,hb⟩;refine⟨_,rfl,?_⟩;replace HB:=bs HB hb;(try clear hb)))
     go_ret;exact⟨er,ul HB.out⟩
    ·have H':=ak H;clear H;have XB:=zi aK;have XC:=zj aK l0.length;obtain⟨aot,ak5,Jc,Jd⟩:=nC HR0.out aK XB XC;cases ak5;replace Jc:=cl HB.out Jc;replace Jd:=cl HB.out Jd;replace XB:=eq_true XB;replace XC:=eq_true XC;go_wp2_with (first|(refine gL 197 18 Tryz.func197 #[.string ((aH l0 aK).f0), .string a1] ?_;(with_reducible refine(pJ.calls ((aH l0 aK).f0) a1 false _ A5.out).mono ?_);rintro e w8 ⟨rfl,hb⟩;refine⟨_,rfl,?_⟩;replace HB:=bs HB hb;(try clear hb)))
     go_roundg k1
     case measure=>have:=iC.out;omega
     case rel=>exact⟨(wrap64 (aK+1)),rs,H',⟨by have:=iC.out;omega⟩,⟨ul HB.out⟩⟩
   ·obtain rfl:=Option.some.inj H;go_wp2;go_ret;exact⟨er,ul HB.out⟩
def jg.f(k:Nat)(l0:List (jl))(a1:ByteArray):Option (ByteArray×Bool):=(iU.f k l0 a1).bind fun Ht=>(if Ht<0 then(some ((⟨#[]⟩:ByteArray),false))else(if 0≤Ht then(if Ht<(l0.length:Int)then(some ((aH l0 Ht).f1,true))else(none))else(none)))
set_option maxHeartbeats 8000000 in
set_option maxRecDepth 100000 in
theorem jg.calls(k:Nat)(A0:Option Addr)(c0:Nat)(l0:List (jl))(a1:ByteArray)(r1:ByteArray)(r2:Bool)(w:World)(hr0:Kd.C pV w A0 l0.length l0)(hc0:l0.length≤c0)(h:jg.f k l0 a1=some (r1,r2)):
  Calls Tryz.prog 154 #[.slice A0 l0.length c0, .string a1] w fun e w'=>e= .returned (.tuple #[.string r1, .bool r2])∧Below w.heap.size w w':=by
 have HR0:=ak hr0;have wJ:=ak hc0;clear hr0 hc0;have HB:=ak (Below.refl w.heap.size w);have H:((iU.f k l0 a1).bind fun Ht=>(if Ht<0 then(some ((⟨#[]⟩:ByteArray),false))else(if 0≤Ht then(if Ht<(l0.length:Int)then(some ((aH l0 Ht).f1,true))else(none))else(none))))=some (r1,r2):=h;clear h;replace H:=bd H;obtain⟨Ht,A3,H⟩:=H;replace H:=sd H;rcases H with⟨nM,H⟩|⟨nM,H⟩
 ·simp only[Option.some.injEq,Prod.mk.injEq]at H;obtain⟨rfl,rfl⟩:=H;go_enter Tryz.func154,Tryz.ntmps154;go_wp2_with (first|(refine gL 177 9 Tryz.func177 #[.slice A0 l0.length c0, .string a1] ?_;(with_reducible refine(iU.calls k _ _ l0 a1 Ht _ (cu HR0.out) wJ.out A3.out).mono ?_);rintro e w5 ⟨rfl,hb⟩;refine⟨_,rfl,?_⟩;replace HB:=bs HB hb;(try clear hb)))
  go_ret2;exact⟨er,ul HB.out⟩
 ·replace H:=og H;obtain⟨mW,H⟩:=H;replace H:=og H;obtain⟨oJ,H⟩:=H;simp only[Option.some.injEq,Prod.mk.injEq]at H;obtain⟨rfl,rfl⟩:=H;go_enter Tryz.func154,Tryz.ntmps154;go_wp2_with (first|(refine gL 177 9 Tryz.func177 #[.slice A0 l0.length c0, .string a1] ?_;(with_reducible refine(iU.calls k _ _ l0 a1 Ht _ (cu HR0.out) wJ.out A3.out).mono ?_);rintro e w8 ⟨rfl,hb⟩;refine⟨_,rfl,?_⟩;replace HB:=bs HB hb;(try clear hb);have ak6:0≤(Ht:Int):=of_decide_eq_true (by assumption);have ak7:Ht<(l0.length:Int):=of_decide_eq_true (by assumption);obtain⟨awm,atX,TF,TG⟩:=nC HR0.out Ht ak6 ak7;cases atX;replace TF:=(HB.out.cell (World.block_lt_of_cell? w _ TF)).trans TF;replace TG:=(HB.out.cell (World.block_lt_of_cell? w _ TG)).trans TG;replace ak6:=eq_true ak6;replace ak7:=eq_true ak7))
  go_ret2;exact⟨er,ul HB.out⟩
def fH.l0:Nat→ByteArray→ByteArray→Int→Option (ByteArray×Int)
 |0,_,_,_=>none
 |k+1,x0,x6,x7=>if x7<(x0.size:Int)then(if 0≤x7 then(if(bt x0 x7)=34 then(some (x6,wrap64 (x7+1)))else(if(bt x0 x7)=92 then(if(wrap64 (x7+1))=(x0.size:Int)then(some ((⟨#[]⟩:ByteArray),(-1)))else(if 0≤(wrap64 (x7+1))then(if(wrap64 (x7+1))≤(wrap64 ((wrap64 (x7+1))+1))then(if(wrap64 ((wrap64 (x7+1))+1))≤(x0.size:Int)then(if x6.size+(x0.extract ((wrap64 (x7+1)):Int).toNat ((wrap64 ((wrap64 (x7+1))+1)):Int).toNat).size≤9223372036854775807 then(fH.l0 k x0 (x6++(x0.extract ((wrap64 (x7+1)):Int).toNat ((wrap64 ((wrap64 (x7+1))+1)):Int).toNat)) (wrap64 ((wrap64 (x7+1))+1)))else(none))else(none))else(none))else(none)))else(if x7≤(wrap64 (x7+1))then(if(wrap64 (x7+1))≤(x0.size:Int)then(if x6.size+(x0.extract (x7:Int).toNat ((wrap64 (x7+1)):Int).toNat).size≤9223372036854775807 then(fH.l0 k x0 (x6++(x0.extract (x7:Int).toNat ((wrap64 (x7+1)):Int).toNat)) (wrap64 (x7+1)))else(none))else(none))else(none))))else(none))else(some ((⟨#[]⟩:ByteArray),(-1)))
def fH.f(k:Nat)(a0:ByteArray)(a1:Int):Option (ByteArray×Int):=fH.l0 k a0 (⟨#[]⟩:ByteArray) (wrap64 (a1+1))
set_option maxHeartbeats 8000000 in
set_option maxRecDepth 100000 in
theorem fH.calls(k:Nat)(a0:ByteArray)(a1:Int)(r1:ByteArray)(r2:Int)(w:World)(h:fH.f k a0 a1=some (r1,r2)):
  Calls Tryz.prog 198 #[.string a0, .int .i64 a1] w fun e w'=>e= .returned (.tuple #[.string r1, .int .i64 r2])∧eH w w':=by
 have H:(fH.l0 k a0 (⟨#[]⟩:ByteArray) (wrap64 (a1+1)))=some (r1,r2):=h;clear h;have H':=ak H;clear H;go_enter Tryz.func198,Tryz.ntmps198;go_wp2;go_loopg [6,7] k (fun kq v6 v7 w'=>∃(jX:ByteArray) (ou:Int),v6= .string jX∧v7= .int .i64 ou∧ah (fH.l0 kq a0 jX ou=some (r1,r2))∧ah (kq≤k)∧eH w w')
 case atStart=>exact⟨((⟨#[]⟩:ByteArray)),(wrap64 (a1+1)),rs,rs,H',⟨Nat.le_refl _⟩,dn⟩
 case round=>
  clear H';try clear c1
  try clear p2
  obtain⟨jX,ou,rfl,rfl,HA,iC,⟨m1,rfl⟩⟩:=hrel
  cases gk with
  |zero=>exact absurd HA.out (by simp[fH.l0])
  |succ k1=>
   have H:=HA.out;clear HA;simp only[fH.l0]at H;replace H:=sd H;rcases H with⟨fM,H⟩|⟨fM,H⟩
   ·replace H:=og H;obtain⟨nM,H⟩:=H;replace H:=sq H;rcases H with⟨mW,yt,H⟩|⟨c6,mW,yt,H⟩
    ·simp only[Option.some.injEq,Prod.mk.injEq]at H;obtain⟨rfl,rfl⟩:=H;obtain⟨p5,q5,hx5⟩:=bx a0 ou;go_wp2;go_ret2;exact⟨rs,dn⟩
    ·replace H:=sq H;rcases H with⟨uV,Lh,H⟩|⟨c8,uV,Lh,H⟩
     ·replace H:=sq H;rcases H with⟨wQ,Gy,H⟩|⟨c9,wQ,Gy,H⟩
      ·simp only[Option.some.injEq,Prod.mk.injEq]at H;obtain⟨rfl,rfl⟩:=H;obtain⟨p5,q5,hx5⟩:=bx a0 ou;obtain⟨p7,q7,hx7⟩:=bx a0 ou;go_wp2;go_ret2;exact⟨rs,dn⟩
      ·obtain⟨Fh,OX⟩:∃j_:Int,(wrap64 (ou+1))=j_:=⟨_,rfl⟩
       replace H:(if 0≤(Fh)then(if(Fh)≤(wrap64 ((Fh)+1))then(if(wrap64 ((Fh)+1))≤(a0.size:Int)then(if jX.size+(a0.extract ((Fh):Int).toNat ((wrap64 ((Fh)+1)):Int).toNat).size≤9223372036854775807 then(fH.l0 k1 a0 (jX++(a0.extract ((Fh):Int).toNat ((wrap64 ((Fh)+1)):Int).toNat)) (wrap64 ((Fh)+1)))else(none))else(none))else(none))else(none))=some (r1,r2):=by first|(rw[OX]at H;exact H)|(simp only[OX]at H⊢;exact H)
       (try rw[OX]at wQ)
       (try rw[OX]at Gy);have atY:(IntKind.i64.wrap (ou+1))=Fh:=(bC _).trans OX;replace H:=EG H;obtain⟨zU,Rn,H⟩:=H;replace H:=nn H;obtain⟨c12,H⟩:=H;have vJ:=eq_true c12;have Cj:=decide_eq_true c12;replace H:=nn H;obtain⟨c13,H⟩:=H;have uO:=eq_true c13;have yI:=decide_eq_true c13;replace H:=nn H;obtain⟨c14,H⟩:=H;have t_:=eq_true c14;have yJ:=decide_eq_true c14;try have awn:(9223372036854775807<jX.size+((a0.extract ((Fh):Int).toNat ((wrap64 ((Fh)+1)):Int).toNat).size))=False:=by have h_:=c14;simp only[ByteArray.size_append,ByteArray.size_extract]at h_;refine eq_false ?_;simp only[decide_eq_true_eq]at*;omega
       try have acZ:(9223372036854775807<jX.size+(a0.extract ((Fh):Int).toNat ((wrap64 ((Fh)+1)):Int).toNat).size)=False:=eq_false (Nat.not_lt.2 c14)
       have H':=ak H;clear H;obtain⟨p5,q5,hx5⟩:=bx a0 ou;obtain⟨p7,q7,hx7⟩:=bx a0 ou;go_wp2;go_roundg k1
       case measure=>have:=iC.out;omega
       case rel=>exact⟨(jX++(a0.extract ((Fh):Int).toNat ((wrap64 ((Fh)+1)):Int).toNat)),(wrap64 ((Fh)+1)),(by first|rfl|(simp;done)|(simp only[←OX]<;>(first|rfl|simp))|(simp[*];done)),(by first|rfl|(simp;done)|(simp only[←OX]<;>(first|rfl|simp))|(simp[*];done)),H',⟨by have:=iC.out;omega⟩,dn⟩
     ·have xW:=eq_true (of_decide_eq_true (by assumption):0≤ou);replace H:=nn H;obtain⟨c16,H⟩:=H;have Ja:=eq_true c16;have ac0:=decide_eq_true c16;replace H:=nn H;obtain⟨c17,H⟩:=H;have qE:=eq_true c17;have II:=decide_eq_true c17;replace H:=nn H;obtain⟨c18,H⟩:=H;have Bg:=eq_true c18;have Vy:=decide_eq_true c18;try have awo:(9223372036854775807<jX.size+((a0.extract (ou:Int).toNat ((wrap64 (ou+1)):Int).toNat).size))=False:=by have h_:=c18;simp only[ByteArray.size_append,ByteArray.size_extract]at h_;refine eq_false ?_;simp only[decide_eq_true_eq]at*;omega
      try have awp:(9223372036854775807<jX.size+(a0.extract (ou:Int).toNat ((wrap64 (ou+1)):Int).toNat).size)=False:=eq_false (Nat.not_lt.2 c18)
      have H':=ak H;clear H;obtain⟨p5,q5,hx5⟩:=bx a0 ou;obtain⟨p7,q7,hx7⟩:=bx a0 ou;go_wp2;go_roundg k1
      case measure=>have:=iC.out;omega
      case rel=>exact⟨(jX++(a0.extract (ou:Int).toNat ((wrap64 (ou+1)):Int).toNat)),(wrap64 (ou+1)),rs,rs,H',⟨by have:=iC.out;omega⟩,dn⟩
   ·simp only[Option.some.injEq,Prod.mk.injEq]at H;obtain⟨rfl,rfl⟩:=H;go_wp2;go_ret2;exact⟨rs,dn⟩
def iw.l0:Nat→ByteArray→Int→Int→Option (ByteArray×ByteArray×Bool)
 |0,_,_,_=>none
 |k+1,x0,x1,x7=>if x7<(x0.size:Int)then(if 0≤x7 then(if(bt x0 x7)=34 then((fH.f k x0 x7).bind fun ajd=>(if ajd.2<0 then(some (x0,(⟨#[]⟩:ByteArray),false))else(iw.l0 k x0 x1 ajd.2)))else(if(bt x0 x7)=x1 then(if x7≤(x0.size:Int)then(if 0≤(wrap64 (x7+1))then(if(wrap64 (x7+1))≤(x0.size:Int)then(some (x0.extract 0 (x7:Int).toNat,x0.extract ((wrap64 (x7+1)):Int).toNat x0.size,true))else(none))else(none))else(none))else(iw.l0 k x0 x1 (wrap64 (x7+1)))))else(none))else(some (x0,(⟨#[]⟩:ByteArray),false))
def iw.f(k:Nat)(a0:ByteArray)(a1:Int):Option (ByteArray×ByteArray×Bool):=iw.l0 k a0 a1 0
set_option maxHeartbeats 8000000 in
set_option maxRecDepth 100000 in
theorem iw.calls(k:Nat)(a0:ByteArray)(a1:Int)(r1:ByteArray)(r2:ByteArray)(r3:Bool)(w:World)(h:iw.f k a0 a1=some (r1,r2,r3)):
  Calls Tryz.prog 178 #[.string a0, .int .u8 a1] w fun e w'=>e= .returned (.tuple #[.string r1, .string r2, .bool r3])∧eH w w':=by
 have H:(iw.l0 k a0 a1 0)=some (r1,r2,r3):=h;clear h;have H':=ak H;clear H;go_enter Tryz.func178,Tryz.ntmps178;go_wp2;repeat(go_quiet (fail);try go_wp2)
 go_loopg [7] k (fun kq v7 w'=>∃(ou:Int),v7= .int .i64 ou∧ah (iw.l0 kq a0 a1 ou=some (r1,r2,r3))∧ah (kq≤k)∧eH w w')
 case atStart=>exact⟨(0),rs,H',⟨Nat.le_refl _⟩,dn⟩
 case round=>
  clear H';try clear c1
  try clear p2
  obtain⟨ou,rfl,HA,iC,⟨m1,rfl⟩⟩:=hrel
  cases gk with
  |zero=>exact absurd HA.out (by simp[iw.l0])
  |succ k1=>
   have H:=HA.out;clear HA;simp only[iw.l0]at H;replace H:=sd H;rcases H with⟨fM,H⟩|⟨fM,H⟩
   ·replace H:=og H;obtain⟨nM,H⟩:=H;replace H:=sq H;rcases H with⟨mW,yt,H⟩|⟨c6,mW,yt,H⟩
    ·replace H:=bd H;obtain⟨⟨aby,XD⟩,A7,H⟩:=H
     (try dsimp only at H);replace H:=sd H;rcases H with⟨uV,H⟩|⟨uV,H⟩
     ·simp only[Option.some.injEq,Prod.mk.injEq]at H;obtain⟨rfl,rfl,rfl⟩:=H;obtain⟨p5,q5,hx5⟩:=bx a0 ou;go_wp2_with (first|(go_at_call 198;(with_reducible refine(fH.calls k1 a0 ou aby XD _ A7.out).mono ?_);rintro e w' ⟨rfl,⟨nd,rfl⟩⟩;(try exact dq)))
      repeat(go_quiet (first|(go_at_call 198;(with_reducible refine(fH.calls k1 a0 ou aby XD _ A7.out).mono ?_);rintro e w' ⟨rfl,⟨nd,rfl⟩⟩;(try exact dq)));try go_wp2_with (first|(go_at_call 198;(with_reducible refine(fH.calls k1 a0 ou aby XD _ A7.out).mono ?_);rintro e w' ⟨rfl,⟨nd,rfl⟩⟩;(try exact dq))))
      go_ret3;exact⟨rs,dn⟩
     ·have H':=ak H;clear H;obtain⟨p5,q5,hx5⟩:=bx a0 ou;go_wp2_with (first|(go_at_call 198;(with_reducible refine(fH.calls k1 a0 ou aby XD _ A7.out).mono ?_);rintro e w' ⟨rfl,⟨nd,rfl⟩⟩;(try exact dq)))
      repeat(go_quiet (first|(go_at_call 198;(with_reducible refine(fH.calls k1 a0 ou aby XD _ A7.out).mono ?_);rintro e w' ⟨rfl,⟨nd,rfl⟩⟩;(try exact dq)));try go_wp2_with (first|(go_at_call 198;(with_reducible refine(fH.calls k1 a0 ou aby XD _ A7.out).mono ?_);rintro e w' ⟨rfl,⟨nd,rfl⟩⟩;(try exact dq))))
      go_roundg k1
      case measure=>have:=iC.out;omega
      case rel=>exact⟨(XD),rs,H',⟨by have:=iC.out;omega⟩,dn⟩
    ·replace H:=sq H;rcases H with⟨qj,vI,H⟩|⟨c10,qj,vI,H⟩
     ·have zU:=eq_true (of_decide_eq_true (by assumption):0≤ou);replace H:=EG H;obtain⟨vJ,Cj,H⟩:=H;obtain⟨Qz,G5⟩:∃j_:Int,(wrap64 (ou+1))=j_:=⟨_,rfl⟩
      replace H:(if 0≤(Qz)then(if(Qz)≤(a0.size:Int)then(some (a0.extract 0 (ou:Int).toNat,a0.extract ((Qz):Int).toNat a0.size,true))else(none))else(none))=some (r1,r2,r3):=by first|(rw[G5]at H;exact H)|(simp only[G5]at H⊢;exact H)
      have ak8:(IntKind.i64.wrap (ou+1))=Qz:=(bC _).trans G5;replace H:=EG H;obtain⟨t_,yJ,H⟩:=H;replace H:=EG H;obtain⟨xW,Rh,H⟩:=H;simp only[Option.some.injEq,Prod.mk.injEq]at H;obtain⟨rfl,rfl,rfl⟩:=H;obtain⟨p5,q5,hx5⟩:=bx a0 ou;obtain⟨p9,q9,hx9⟩:=bx a0 ou;go_wp2;repeat(go_quiet (fail);try go_wp2)
      go_ret3;exact⟨by first|rfl|(simp;done)|(simp only[←G5]<;>(first|rfl|simp))|(simp[*];done),dn⟩
     ·have H':=ak H;clear H;obtain⟨p5,q5,hx5⟩:=bx a0 ou;obtain⟨p9,q9,hx9⟩:=bx a0 ou;go_wp2;repeat(go_quiet (fail);try go_wp2)
      go_roundg k1
      case measure=>have:=iC.out;omega
      case rel=>exact⟨(wrap64 (ou+1)),rs,H',⟨by have:=iC.out;omega⟩,dn⟩
   ·simp only[Option.some.injEq,Prod.mk.injEq]at H;obtain⟨rfl,rfl,rfl⟩:=H;go_wp2;repeat(go_quiet (fail);try go_wp2)
    go_ret3;exact⟨rs,dn⟩
def iK.l0:Nat→Int→Int→Option (Bool)
 |0,_,_=>none
 |k+1,x0,x3=>if x3<19 then(if 0≤x3 then(if x0=(bt (⟨#[33,35,36,37,38,39,42,43,45,47,61,63,94,95,96,123,124,125,126]⟩:ByteArray) x3)then(some true)else(iK.l0 k x0 (wrap64 (x3+1))))else(none))else((iT.f x0).bind fun ak9=>(some ak9))
def iK.f(k:Nat)(a0:Int):Option (Bool):=iK.l0 k a0 0
set_option maxHeartbeats 8000000 in
set_option maxRecDepth 100000 in
theorem iK.calls(k:Nat)(a0:Int)(r:Bool)(w:World)(h:iK.f k a0=some r):
  Calls Tryz.prog 199 #[.int .u8 a0] w fun e w'=>e= .returned (.bool r)∧eH w w':=by
 have H:(iK.l0 k a0 0)=some r:=h;clear h;have H':=ak H;clear H;go_enter Tryz.func199,Tryz.ntmps199;go_wp2;go_loopg [3] k (fun kq v3 w'=>∃(cO:Int),v3= .int .i64 cO∧ah (iK.l0 kq a0 cO=some r)∧ah (kq≤k)∧eH w w')
 case atStart=>exact⟨(0),rs,H',⟨Nat.le_refl _⟩,dn⟩
 case round=>
  clear H';try clear c1
  obtain⟨cO,rfl,HA,iC,⟨m1,rfl⟩⟩:=hrel
  cases gk with
  |zero=>exact absurd HA.out (by simp[iK.l0])
  |succ k1=>
   have H:=HA.out;clear HA;simp only[iK.l0]at H;replace H:=sd H;rcases H with⟨sW,H⟩|⟨sW,H⟩
   ·replace H:=og H;obtain⟨fM,H⟩:=H;replace H:=sq H;rcases H with⟨pU,TI,H⟩|⟨c5,pU,TI,H⟩
    ·obtain rfl:=Option.some.inj H;have p4:=zi cO;have q4:=zj cO 19;have hx4:=tY (⟨#[33,35,36,37,38,39,42,43,45,47,61,63,94,95,96,123,124,125,126]⟩:ByteArray) cO;replace p4:=eq_true p4;replace q4:=eq_true q4;go_wp2;go_ret;exact⟨rs,dn⟩
    ·have H':=ak H;clear H;have p4:=zi cO;have q4:=zj cO 19;have hx4:=tY (⟨#[33,35,36,37,38,39,42,43,45,47,61,63,94,95,96,123,124,125,126]⟩:ByteArray) cO;replace p4:=eq_true p4;replace q4:=eq_true q4;go_wp2;go_roundg k1
     case measure=>have:=iC.out;omega
     case rel=>exact⟨(wrap64 (cO+1)),rs,H',⟨by have:=iC.out;omega⟩,dn⟩
   ·replace H:=bd H;obtain⟨ak9,A6,H⟩:=H;obtain rfl:=Option.some.inj H;go_wp2_with (first|(refine gL 183 13 Tryz.func183 #[.int .u8 a0] ?_;(with_reducible refine(iT.calls a0 ak9 _ A6.out).mono ?_);rintro e w' ⟨rfl,⟨nd,rfl⟩⟩;refine⟨_,rfl,?_⟩))
    go_ret;exact⟨rs,dn⟩
end Go.Proofs.YtncdadcmghglkaaGreatDoor.PFnExactFormatPart
