/- Printed walks; conditions: those in each statement. -/
import Derived.Test.YtncdadcmghglkaaGreatDoorVFnPartAtQt
import Derived.Test.YtncdadcmghglkaaGreatDoorVFnPartAtYt
import Derived.Test.YtncdadcmghglkaaGreatDoorPFnPartAtx0
import Derived.Test.YtncdadcmghglkaaGreatDoorPFnPartAtx25
import Derived.Test.YtncdadcmghglkaaGreatDoorPFnPartAtx26
-- short
-- dense
-- sq
-- sq2
namespace Go.Proofs.YtncdadcmghglkaaGreatDoor.PFnPartAt
open Go.RowKit Go.Proofs.YtncdadcmghglkaaGreatDoor.X Go.Proofs.YtncdadcmghglkaaGreatDoorW.bQ Go.Proofs.YtncdadcmghglkaaGreatDoorW.jm Go.Proofs.YtncdadcmghglkaaGreatDoorW.kD
attribute [local go_sem] pV pW sK sN nI nJ pX pY   -- for this text's walks alone
set_option linter.unusedVariables false
set_option maxHeartbeats 8000000
set_option maxRecDepth 100000
set_option linter.unusedSimpArgs false
def nX.f (a0:Int) (a1:Bool):Option (ByteArray):=if a0≥33 then(if a0≤126 then(if a0=61 then(if a0=32 then(if a1=true then((mY.f a0).bind fun azB=>(some azB))else(some (strOfNums (([a0]:List Int)))))else((mY.f a0).bind fun azC=>(some azC)))else(some (strOfNums (([a0]:List Int)))))else(if a0=32 then(if a1=true then((mY.f a0).bind fun azD=>(some azD))else(some (strOfNums (([a0]:List Int)))))else((mY.f a0).bind fun azE=>(some azE))))else(if a0=32 then(if a1=true then((mY.f a0).bind fun azF=>(some azF))else(some (strOfNums (([a0]:List Int)))))else((mY.f a0).bind fun azG=>(some azG)))
theorem nX.calls {a0:Int} {a1:Bool} {r:ByteArray} {w:World} (h:nX.f a0 a1=some r):
  Calls Tryz.prog 218 #[.int .u8 a0, .bool a1] w fun e w'=>e= .returned (.string r)∧Below w.heap.size w w':=by
 have HB:=ak (Below.refl w.heap.size w);unfold nX.f at h;have H:=h;clear h;replace H:=sp H;rcases H with⟨c3,H⟩|⟨c3,H⟩
 ·have iW:decide (33≤a0)=true:=decide_eq_true c3;clear c3;replace H:=sd H;rcases H with⟨rW,H⟩|⟨rW,H⟩
  ·replace H:=sq H;rcases H with⟨oz,NV,H⟩|⟨c5,oz,NV,H⟩
   ·replace H:=sq H;rcases H with⟨pF,Ad,H⟩|⟨c6,pF,Ad,H⟩
    ·replace H:=sb H;rcases H with⟨rfl,H⟩|⟨rfl,H⟩
     ·replace H:=bd H;obtain⟨azB,A8,H⟩:=H;obtain rfl:=s1 H;go_enter Tryz.func218,Tryz.ntmps218;go_wp2_with (refine gA Tryz.func221 (mY.calls A8.out) ?_;intro nd)
      go_ret;exact⟨er,ul HB.out⟩
     ·obtain⟨aNq,ap3⟩:=nm ([a0]:List Int);rw[←ap3.out]at H;obtain rfl:=s1 H;go_enter Tryz.func218,Tryz.ntmps218;go_wp2_with (refine Tq 24 (Kd.int .u8) 5 [.int .u8 a0] ap3 (bZ.one (show Kd.M (Kd.int .u8) _ _ _ a0 [.int .u8 a0]from rfl) (bZ.none _ _)) ?_;intro aNr w9 SH hb;have azH:=ak (Kd.aG SH (aj (ul HB.out)));replace HB:=bs HB hb;clear hb SH;have azp:=tK (P:=Tryz.prog) Tryz.underlying22 Tryz.underlying5 Tryz.underlying9 (Kd.xW azH.out))
      go_ret;exact⟨er,ul HB.out⟩
    ·replace H:=bd H;obtain⟨azC,A12,H⟩:=H;obtain rfl:=s1 H;go_enter Tryz.func218,Tryz.ntmps218;go_wp2_with (refine gA Tryz.func221 (mY.calls A12.out) ?_;intro nd)
     go_ret;exact⟨er,ul HB.out⟩
   ·obtain⟨aNs,ap4⟩:=nm ([a0]:List Int);rw[←ap4.out]at H;obtain rfl:=s1 H;go_enter Tryz.func218,Tryz.ntmps218;go_wp2_with (refine Tq 24 (Kd.int .u8) 5 [.int .u8 a0] ap4 (bZ.one (show Kd.M (Kd.int .u8) _ _ _ a0 [.int .u8 a0]from rfl) (bZ.none _ _)) ?_;intro aNt w13 aj9 hb;have azI:=ak (Kd.aG aj9 (aj (ul HB.out)));replace HB:=bs HB hb;clear hb aj9;have azr:=tK (P:=Tryz.prog) Tryz.underlying22 Tryz.underlying5 Tryz.underlying9 (Kd.xW azI.out))
    go_ret;exact⟨er,ul HB.out⟩
  ·replace H:=sq H;rcases H with⟨zJ,NQ,H⟩|⟨c16,zJ,NQ,H⟩
   ·replace H:=sb H;rcases H with⟨rfl,H⟩|⟨rfl,H⟩
    ·replace H:=bd H;obtain⟨azD,A18,H⟩:=H;obtain rfl:=s1 H;go_enter Tryz.func218,Tryz.ntmps218;go_wp2_with (refine gA Tryz.func221 (mY.calls A18.out) ?_;intro nd)
     go_ret;exact⟨er,ul HB.out⟩
    ·obtain⟨aNu,ap5⟩:=nm ([a0]:List Int);rw[←ap5.out]at H;obtain rfl:=s1 H;go_enter Tryz.func218,Tryz.ntmps218;go_wp2_with (refine Tq 24 (Kd.int .u8) 5 [.int .u8 a0] ap5 (bZ.one (show Kd.M (Kd.int .u8) _ _ _ a0 [.int .u8 a0]from rfl) (bZ.none _ _)) ?_;intro aNv w19 ahc hb;have azJ:=ak (Kd.aG ahc (aj (ul HB.out)));replace HB:=bs HB hb;clear hb ahc;have aI1:=tK (P:=Tryz.prog) Tryz.underlying22 Tryz.underlying5 Tryz.underlying9 (Kd.xW azJ.out))
     go_ret;exact⟨er,ul HB.out⟩
   ·replace H:=bd H;obtain⟨azE,A22,H⟩:=H;obtain rfl:=s1 H;go_enter Tryz.func218,Tryz.ntmps218;go_wp2_with (refine gA Tryz.func221 (mY.calls A22.out) ?_;intro nd)
    go_ret;exact⟨er,ul HB.out⟩
 ·have iW:decide (33≤a0)=false:=decide_eq_false c3;clear c3;replace H:=sq H;rcases H with⟨CZ,RF,H⟩|⟨c23,CZ,RF,H⟩
  ·replace H:=sb H;rcases H with⟨rfl,H⟩|⟨rfl,H⟩
   ·replace H:=bd H;obtain⟨azF,A25,H⟩:=H;obtain rfl:=s1 H;go_enter Tryz.func218,Tryz.ntmps218;go_wp2_with (refine gA Tryz.func221 (mY.calls A25.out) ?_;intro nd)
    go_ret;exact⟨er,ul HB.out⟩
   ·obtain⟨aNw,ap6⟩:=nm ([a0]:List Int);rw[←ap6.out]at H;obtain rfl:=s1 H;go_enter Tryz.func218,Tryz.ntmps218;go_wp2_with (refine Tq 24 (Kd.int .u8) 5 [.int .u8 a0] ap6 (bZ.one (show Kd.M (Kd.int .u8) _ _ _ a0 [.int .u8 a0]from rfl) (bZ.none _ _)) ?_;intro aNx w26 azK hb;have azL:=ak (Kd.aG azK (aj (ul HB.out)));replace HB:=bs HB hb;clear hb azK;have aI2:=tK (P:=Tryz.prog) Tryz.underlying22 Tryz.underlying5 Tryz.underlying9 (Kd.xW azL.out))
    go_ret;exact⟨er,ul HB.out⟩
  ·replace H:=bd H;obtain⟨azG,A29,H⟩:=H;obtain rfl:=s1 H;go_enter Tryz.func218,Tryz.ntmps218;go_wp2_with (refine gA Tryz.func221 (mY.calls A29.out) ?_;intro nd)
   go_ret;exact⟨er,ul HB.out⟩
def bP.l0:Nat→ByteArray→List ByteArray→ByteArray→Int→Option (List ByteArray×Bool)
 |0,_,_,_,_=>none
 |k+1,x0,x4,x5,x6=>if x6<(x0.size:Int)then(if 0≤x6 then(if(bt x0 x6)=10 then(if x4.length<8796093022208 then(bP.l0 k x0 (x4++[x5]) (⟨#[]⟩:ByteArray) (wrap64 (x6+1)))else(none))else(if(wrap64 (x6+1))=(x0.size:Int)then((nX.f (bt x0 x6) true).bind fun SI=>(if(wrap64 ((x5.size:Int)+(SI.size:Int)))>39 then(if x5.size+1≤9223372036854775807 then(if x4.length<8796093022208 then(if 0+SI.size≤9223372036854775807 then(bP.l0 k x0 (x4++[x5++(⟨#[61]⟩:ByteArray)]) ((⟨#[]⟩:ByteArray)++SI) (wrap64 (x6+1)))else(none))else(none))else(none))else(if x5.size+SI.size≤9223372036854775807 then(bP.l0 k x0 x4 (x5++SI) (wrap64 (x6+1)))else(none))))else(if 0≤(wrap64 (x6+1))then(if(wrap64 (x6+1))<(x0.size:Int)then((nX.f (bt x0 x6) ((bt x0 (wrap64 (x6+1)))==10)).bind fun IK=>(if(wrap64 ((x5.size:Int)+(IK.size:Int)))>39 then(if x5.size+1≤9223372036854775807 then(if x4.length<8796093022208 then(if 0+IK.size≤9223372036854775807 then(bP.l0 k x0 (x4++[x5++(⟨#[61]⟩:ByteArray)]) ((⟨#[]⟩:ByteArray)++IK) (wrap64 (x6+1)))else(none))else(none))else(none))else(if x5.size+IK.size≤9223372036854775807 then(bP.l0 k x0 x4 (x5++IK) (wrap64 (x6+1)))else(none))))else(none))else(none))))else(none))else(if x4.length<8796093022208 then(some ((x4++[x5]),true))else(none))
def bP.f (k:Nat) (a0:ByteArray):Option (List ByteArray×Bool):=if(a0.size:Int)>300 then(some ((([]:List ByteArray)),false))else(bP.l0 k a0 (([]:List ByteArray)) (⟨#[]⟩:ByteArray) 0)
theorem bP.calls {k:Nat} {a0:ByteArray} {r1:List ByteArray} {r2:Bool} {w:World} (h:bP.f k a0=some (r1,r2)):
  Calls Tryz.prog 211 #[.string a0] w fun e w'=>∃pO:Value,e= .returned (.tuple #[pO, .bool r2])∧Kd.R Kd.string 9 w' w.heap.size (fun _=>True) pO r1∧Below w.heap.size w w':=by
 have HB:=ak (Below.refl w.heap.size w);unfold bP.f at h;have H:=h;clear h;replace H:=sp H;rcases H with⟨c2,H⟩|⟨c2,H⟩
 ·have qJ:decide (300<(a0.size:Int))=true:=decide_eq_true c2;have yR:decide (300<a0.size)=true:=decide_eq_true (by omega);clear c2;obtain⟨aNy,ap7⟩:=nm ([]:List ByteArray);rw[←ap7.out]at H;obtain⟨rfl,rfl⟩:=s2 H;go_enter Tryz.func211,Tryz.ntmps211;go_wp2_with (refine IY 11 Kd.string 9 ap7 ?_;intro aNz w3 Xh hb;have azM:=ak (Kd.aG Xh (aj (ul HB.out)));replace HB:=bs HB hb;clear hb Xh)
  go_ret2;exact⟨_,er,ur azM.out,ul HB.out⟩
 ·have qJ:decide (300<(a0.size:Int))=false:=decide_eq_false c2;have yR:decide (300<a0.size)=false:=decide_eq_false (by omega);clear c2;obtain⟨aNA,ap8⟩:=nm ([]:List ByteArray);rw[←ap8.out]at H;have H':=ak H;clear H;go_enter Tryz.func211,Tryz.ntmps211;go_wp2_with (refine IY 12 Kd.string 9 ap8 ?_;intro aNB w5 ho6 hb;have azN:=ak (Kd.aG ho6 (aj (ul HB.out)));replace HB:=bs HB hb;clear hb ho6)
  go_loopg [4,5,6] k (fun kq v4 v5 v6 w'=>∃(fC:List ByteArray) (fD:ByteArray) (fE:Int),v5= .string fD∧v6= .int .i64 fE∧ah (bP.l0 kq a0 fC fD fE=some (r1,r2))∧ah (kq≤k)∧ah (Kd.R Kd.string 9 w' w.heap.size (fun _=>True) v4 fC)∧ah (Below w.heap.size w w'))
  case atStart=>exact⟨_,_,_,rs,rs,H',⟨Nat.le_refl _⟩,⟨ur azN.out⟩,⟨ul HB.out⟩⟩
  case round=>
   clear H';try clear c2
   try clear qJ
   try clear yR
   obtain⟨fC,fD,fE,rfl,rfl,HA,xK,jf,HB⟩:=hrel
   cases gk with
   |zero=>exact zz HA.out
   |succ k1=>
    obtain⟨H⟩:=HA;simp only[bP.l0]at H;replace H:=sd H;rcases H with⟨tZ,H⟩|⟨tZ,H⟩
    ·replace H:=oL H;obtain⟨uK,H⟩:=H;replace H:=sq H;rcases H with⟨oO,vH,H⟩|⟨c10,oO,vH,H⟩
     ·replace H:=nl H;obtain⟨UK,H⟩:=H;obtain⟨aNC,ap9⟩:=nm (fC++[fD]);rw[←ap9.out]at H;have H':=ak H;clear H;obtain⟨p9,q9,hx9⟩:=bx a0 fE;go_wp2_with (at_builtin;refine aP 23 25 Kd.string 23 9 (.string ⟨#[]⟩) 16 Tryz.underlying23 info9 HB (ur jf.out) ap9 (by have:=UK.out;omega) ?_;intro aND w12 ho hb hg hat;have azO:=ak (ho);replace HB:=ak (hb);clear ho hb hg hat jf)
      go_roundg k1
      case measure=>exact kl
      case rel=>exact⟨_,_,_,rs,rs,H',⟨kl⟩,⟨ur azO.out⟩,⟨ul HB.out⟩⟩
     ·replace H:=sq H;rcases H with⟨vZ,Ah,H⟩|⟨c14,vZ,Ah,H⟩
      ·replace H:=bd H;obtain⟨SI,A15,H⟩:=H;replace H:=sp H;rcases H with⟨c16,H⟩|⟨c16,H⟩
       ·have zJ:decide (39<(wrap64 ((fD.size:Int)+(SI.size:Int))))=true:=decide_eq_true c16;replace H:=nn H;obtain⟨c17,H⟩:=H
        (try(have NQ:decide (39<((fD.size:Int)+(SI.size:Int)))=true:=decide_eq_true (by have h_:=c16;have h2_:=c17;unfold wrap64 at h_;omega)));clear c16;have vX:=eq_true c17;have Ro:=decide_eq_true c17;try have azP:(9223372036854775807<fD.size+1)=False:=eq_false (Nat.not_lt.2 c17)
        replace H:=nl H;obtain⟨azQ,H⟩:=H;obtain⟨aNE,ap_⟩:=nm (fC++[fD++(⟨#[61]⟩:ByteArray)]);rw[←ap_.out]at H;replace H:=nn H;obtain⟨c19,H⟩:=H;have D_:=eq_true c19;have Ij:=decide_eq_true c19;try have aoQ:(9223372036854775807<0+SI.size)=False:=eq_false (Nat.not_lt.2 c19)
        have H':=ak H;clear H;obtain⟨p9,q9,hx9⟩:=bx a0 fE;try go_wp2
        replace jf:=ak (Kd.mg jf.out);replace HB:=ak (gI HB.out);obtain⟨p13,q13,acg⟩:=bx a0 fE;refine ro [15] [0,1,3,4,5,6,7,8,9,10,11,12,13,14,2,15,16] (fun w'=>True) trivial ?_
        generalize wr.drew=w20 at jf HB⊢
        repeat(first|refine Bv ?_|refine V8 ?_)
        refine rB Tryz.func218 (nX.calls A15.out) ?_;intro w21 hb;replace jf:=rb jf hb;replace HB:=bs HB hb;clear hb;refine⟨sx,?_⟩;repeat(first|refine Bv ?_|refine V8 ?_)
        refine on ?_;try go_wp2_with (at_builtin;refine aP 49 52 Kd.string 23 9 (.string ⟨#[]⟩) 16 Tryz.underlying23 info9 HB (ur jf.out) ap_ (by have:=azQ.out;omega) ?_;intro aNF w22 ho hb hg hat;have azR:=ak (ho);replace HB:=ak (hb);clear ho hb hg hat jf)
        go_roundg k1
        case measure=>exact kl
        case rel=>exact⟨_,_,_,rs,rs,H',⟨kl⟩,⟨ur azR.out⟩,⟨ul HB.out⟩⟩
       ·have zJ:decide (39<(wrap64 ((fD.size:Int)+(SI.size:Int))))=false:=decide_eq_false c16;replace H:=nn H;obtain⟨c23,H⟩:=H
        (try(have NQ:decide (39<((fD.size:Int)+(SI.size:Int)))=false:=decide_eq_false (by have h_:=c16;have h2_:=c23;unfold wrap64 at h_;omega)));clear c16;have CZ:=eq_true c23;have RF:=decide_eq_true c23;try have ax9:(9223372036854775807<fD.size+SI.size)=False:=eq_false (Nat.not_lt.2 c23)
        have H':=ak H;clear H;obtain⟨p9,q9,hx9⟩:=bx a0 fE;try go_wp2
        replace jf:=ak (Kd.mg jf.out);replace HB:=ak (gI HB.out);obtain⟨p13,q13,acg⟩:=bx a0 fE;refine ro [15] [0,1,3,4,5,6,7,8,9,10,11,12,13,14,2,15,16] (fun w'=>True) trivial ?_
        generalize wr.drew=w24 at jf HB⊢
        repeat(first|refine Bv ?_|refine V8 ?_)
        refine rB Tryz.func218 (nX.calls A15.out) ?_;intro w25 hb;replace jf:=rb jf hb;replace HB:=bs HB hb;clear hb;refine⟨sx,?_⟩;repeat(first|refine Bv ?_|refine V8 ?_)
        refine on ?_;try go_wp2
        go_roundg k1
        case measure=>exact kl
        case rel=>exact⟨_,_,_,rs,rs,H',⟨kl⟩,⟨ur jf.out⟩,⟨ul HB.out⟩⟩
      ·obtain⟨Wu,OQ⟩:∃j_:Int,(wrap64 (fE+1))=j_:=⟨_,rfl⟩
       replace H:(if 0≤(Wu)then(if(Wu)<(a0.size:Int)then((nX.f (bt a0 fE) ((bt a0 (Wu))==10)).bind fun IK=>(if(wrap64 ((fD.size:Int)+(IK.size:Int)))>39 then(if fD.size+1≤9223372036854775807 then(if fC.length<8796093022208 then(if 0+IK.size≤9223372036854775807 then(bP.l0 k1 a0 (fC++[fD++(⟨#[61]⟩:ByteArray)]) ((⟨#[]⟩:ByteArray)++IK) Wu)else(none))else(none))else(none))else(if fD.size+IK.size≤9223372036854775807 then(bP.l0 k1 a0 fC (fD++IK) Wu)else(none))))else(none))else(none))=some (r1,r2):=by first|(rw[OQ]at H;exact H)|(simp only[OQ]at H⊢;exact H)
       (try rw[OQ]at vZ)
       (try rw[OQ]at Ah);have aFV:(IntKind.i64.wrap (fE+1))=Wu:=(jo _).trans OQ;replace H:=oL H;obtain⟨I5,H⟩:=H;replace H:=oL H;obtain⟨I7,H⟩:=H;replace H:=bd H;obtain⟨IK,A30,H⟩:=H;replace H:=sp H;rcases H with⟨c31,H⟩|⟨c31,H⟩
       ·have ajs:decide (39<(wrap64 ((fD.size:Int)+(IK.size:Int))))=true:=decide_eq_true c31;replace H:=nn H;obtain⟨c32,H⟩:=H
        (try(have ajt:decide (39<((fD.size:Int)+(IK.size:Int)))=true:=decide_eq_true (by have h_:=c31;have h2_:=c32;unfold wrap64 at h_;omega)));clear c31;have aaC:=eq_true c32;have aje:=decide_eq_true c32;try have aI3:(9223372036854775807<fD.size+1)=False:=eq_false (Nat.not_lt.2 c32)
        replace H:=nl H;obtain⟨azS,H⟩:=H;obtain⟨aNG,aqa⟩:=nm (fC++[fD++(⟨#[61]⟩:ByteArray)]);rw[←aqa.out]at H;replace H:=nn H;obtain⟨c34,H⟩:=H;have aaD:=eq_true c34;have aaE:=decide_eq_true c34;try have aI4:(9223372036854775807<0+IK.size)=False:=eq_false (Nat.not_lt.2 c34)
        have H':=ak H;clear H;obtain⟨p9,q9,hx9⟩:=bx a0 fE;try go_wp2
        replace jf:=ak (Kd.mg jf.out);replace HB:=ak (gI HB.out);obtain⟨p13,q13,acg⟩:=bx a0 fE;obtain⟨p29,q29,hx29⟩:=bx a0 (Wu);refine ro [15] [0,1,3,4,5,6,7,8,9,10,11,2,12,13,14,15,16] (fun w'=>True) trivial ?_
        generalize wr.drew=w35 at jf HB⊢
        repeat refine Bv ?_
        refine ld (N:=some 42) (gk.trans rfl) rfl rfl (fun K hK=>?_);refine xw Tryz.func218 (by kernel_rfl) rfl #[.int .u8 (bt a0 fE), .bool ((bt a0 (Wu))==10)] (by rfl) rfl rfl (by(try simp only[List.map_toArray,List.map_cons,List.map_nil]);first|done|(simp only[OQ];rfl)|rfl|(simp only[List.length_drop,List.length_take];rfl)) ?_
        with_reducible refine(nX.calls A30.out).mono ?_
        rintro e w36 ⟨rfl,hb⟩;refine⟨_,rfl,?_⟩;replace jf:=rb jf hb;replace HB:=bs HB hb;try clear hb
        refine hK.out _ _ trivial ?_;clear hK K;refine no (a':=?_) ?_ ?_
        rotate_left
        ·show Act.put _ (some 42) _=_
         simp only[Act.put,zW,zX,l_c,jo,lg];rfl
        repeat refine Bv ?_
        refine on ?_;try go_wp2_with (at_builtin;refine aP 49 52 Kd.string 23 9 (.string ⟨#[]⟩) 16 Tryz.underlying23 info9 HB (ur jf.out) aqa (by have:=azS.out;omega) ?_;intro aNH w37 ho hb hg hat;have azT:=ak (ho);replace HB:=ak (hb);clear ho hb hg hat jf)
        go_roundg k1
        case measure=>exact kl
        case rel=>exact⟨_,_,_,rs,(by first|rfl|(simp;done)|(simp only[←OQ]<;>(first|rfl|simp))|(simp[*];done)),H',⟨kl⟩,⟨ur azT.out⟩,⟨ul HB.out⟩⟩
       ·have ajs:decide (39<(wrap64 ((fD.size:Int)+(IK.size:Int))))=false:=decide_eq_false c31;replace H:=nn H;obtain⟨c38,H⟩:=H
        (try(have ajt:decide (39<((fD.size:Int)+(IK.size:Int)))=false:=decide_eq_false (by have h_:=c31;have h2_:=c38;unfold wrap64 at h_;omega)));clear c31;have afY:=eq_true c38;have aI5:=decide_eq_true c38;try have aI6:(9223372036854775807<fD.size+IK.size)=False:=eq_false (Nat.not_lt.2 c38)
        have H':=ak H;clear H;obtain⟨p9,q9,hx9⟩:=bx a0 fE;try go_wp2
        replace jf:=ak (Kd.mg jf.out);replace HB:=ak (gI HB.out);obtain⟨p13,q13,acg⟩:=bx a0 fE;obtain⟨p29,q29,hx29⟩:=bx a0 (Wu);refine ro [15] [0,1,3,4,5,6,7,8,9,10,11,2,12,13,14,15,16] (fun w'=>True) trivial ?_
        generalize wr.drew=w39 at jf HB⊢
        repeat refine Bv ?_
        refine ld (N:=some 42) (gk.trans rfl) rfl rfl (fun K hK=>?_);refine xw Tryz.func218 (by kernel_rfl) rfl #[.int .u8 (bt a0 fE), .bool ((bt a0 (Wu))==10)] (by rfl) rfl rfl (by(try simp only[List.map_toArray,List.map_cons,List.map_nil]);first|done|(simp only[OQ];rfl)|rfl|(simp only[List.length_drop,List.length_take];rfl)) ?_
        with_reducible refine(nX.calls A30.out).mono ?_
        rintro e w40 ⟨rfl,hb⟩;refine⟨_,rfl,?_⟩;replace jf:=rb jf hb;replace HB:=bs HB hb;try clear hb
        refine hK.out _ _ trivial ?_;clear hK K;refine no (a':=?_) ?_ ?_
        rotate_left
        ·show Act.put _ (some 42) _=_
         simp only[Act.put,zW,zX,l_c,jo,lg];rfl
        repeat refine Bv ?_
        refine on ?_;try go_wp2
        go_roundg k1
        case measure=>exact kl
        case rel=>exact⟨_,_,_,rs,(by first|rfl|(simp;done)|(simp only[←OQ]<;>(first|rfl|simp))|(simp[*];done)),H',⟨kl⟩,⟨ur jf.out⟩,⟨ul HB.out⟩⟩
    ·replace H:=nl H;obtain⟨azU,H⟩:=H;obtain⟨aNI,aqb⟩:=nm (fC++[fD]);rw[←aqb.out]at H;obtain⟨rfl,rfl⟩:=s2 H;go_wp2_with (at_builtin;refine aP 57 59 Kd.string 23 9 (.string ⟨#[]⟩) 16 Tryz.underlying23 info9 HB (ur jf.out) aqb (by have:=azU.out;omega) ?_;intro aNJ w42 ho hb hg hat;have azV:=ak (ho);replace HB:=ak (hb);clear ho hb hg hat jf)
     go_ret2;exact⟨_,er,ur azV.out,ul HB.out⟩
def kU.l0:Nat→ByteArray→Int→List ByteArray→Option (List ByteArray)
 |0,_,_,_=>none
 |k+1,x0,x1,x5=>if(x0.size:Int)>x1 then(if 0≤x1 then(if x1≤(x0.size:Int)then(if x5.length<8796093022208 then(kU.l0 k (x0.extract (x1:Int).toNat x0.size) x1 (x5++[x0.extract 0 (x1:Int).toNat]))else(none))else(none))else(none))else(if x5.length<8796093022208 then(some (x5++[x0]))else(none))
def kU.f (k:Nat) (a0:ByteArray) (a1:Int):Option (List ByteArray):=kU.l0 k a0 a1 (([]:List ByteArray))
theorem kU.calls {k:Nat} {a0:ByteArray} {a1:Int} {r:List ByteArray} {w:World} (h:kU.f k a0 a1=some r):
  Calls Tryz.prog 219 #[.string a0, .int .i64 a1] w fun e w'=>∃pO:Value,e= .returned (pO)∧Kd.R Kd.string 9 w' w.heap.size (fun _=>True) pO r∧Below w.heap.size w w':=by
 have HB:=ak (Below.refl w.heap.size w);unfold kU.f at h;have H:=h;clear h;obtain⟨aNK,aqc⟩:=nm ([]:List ByteArray);rw[←aqc.out]at H;have H':=ak H;clear H;go_enter Tryz.func219,Tryz.ntmps219;go_wp2_with (refine IY 6 Kd.string 9 aqc ?_;intro aNL w3 Xh hb;have azW:=ak (Kd.aG Xh (aj (ul HB.out)));replace HB:=bs HB hb;clear hb Xh)
 go_loopg [0,5] k (fun kq v0 v5 w'=>∃(t_:ByteArray) (fD:List ByteArray),v0= .string t_∧ah (kU.l0 kq t_ a1 fD=some r)∧ah (kq≤k)∧ah (Kd.R Kd.string 9 w' w.heap.size (fun _=>True) v5 fD)∧ah (Below w.heap.size w w'))
 case atStart=>exact⟨_,_,rs,H',⟨Nat.le_refl _⟩,⟨ur azW.out⟩,⟨ul HB.out⟩⟩
 case round=>
  clear H';obtain⟨t_,fD,rfl,HA,xK,sV,HB⟩:=hrel
  cases gk with
  |zero=>exact zz HA.out
  |succ k1=>
   obtain⟨H⟩:=HA;simp only[kU.l0]at H;replace H:=sp H;rcases H with⟨c5,H⟩|⟨c5,H⟩
   ·have oz:decide (a1<(t_.size:Int))=true:=decide_eq_true c5;clear c5;replace H:=Du H;obtain⟨pF,Ad,H⟩:=H;replace H:=Du H;obtain⟨tZ,Qd,H⟩:=H;replace H:=nl H;obtain⟨arT,H⟩:=H;obtain⟨aNM,aqd⟩:=nm (fD++[t_.extract 0 (a1:Int).toNat]);rw[←aqd.out]at H;have AZ:=eq_true (of_decide_eq_true (by assumption):0≤a1);have oO:=eq_true (of_decide_eq_true (by assumption):a1≤(t_.size:Int));have H':=ak H;clear H;go_wp2_with (at_builtin;refine aP 11 15 Kd.string 23 9 (.string ⟨#[]⟩) 16 Tryz.underlying23 info9 HB (ur sV.out) aqd (by have:=arT.out;omega) ?_;intro aNN V6 ho hb hg hat;have azX:=ak (ho);replace HB:=ak (hb);clear ho hb hg hat sV)
    go_roundg k1
    case measure=>exact kl
    case rel=>exact⟨_,_,rs,H',⟨kl⟩,⟨ur azX.out⟩,⟨ul HB.out⟩⟩
   ·have oz:decide (a1<(t_.size:Int))=false:=decide_eq_false c5;clear c5;replace H:=nl H;obtain⟨aaT,H⟩:=H;obtain⟨aNO,aqe⟩:=nm (fD++[t_]);rw[←aqe.out]at H;obtain rfl:=s1 H;go_wp2_with (at_builtin;refine aP 20 22 Kd.string 23 9 (.string ⟨#[]⟩) 16 Tryz.underlying23 info9 HB (ur sV.out) aqe (by have:=aaT.out;omega) ?_;intro aNP w13 ho hb hg hat;have azY:=ak (ho);replace HB:=ak (hb);clear ho hb hg hat sV)
    go_ret;exact⟨_,er,ur azY.out,ul HB.out⟩
def rE.f:Option (ByteArray):=some (⟨#[65,66,67,68,69,70,71,72,73,74,75,76,77,78,79,80,81,82,83,84,85,86,87,88,89,90,97,98,99,100,101,102,103,104,105,106,107,108,109,110,111,112,113,114,115,116,117,118,119,120,121,122,48,49,50,51,52,53,54,55,56,57,43,47]⟩:ByteArray)
theorem rE.calls (r:ByteArray) (w:World) (h:rE.f=some r):
  Calls Tryz.prog 222 #[] w fun e w'=>e= .returned (.string r)∧dO w w':=by
 unfold rE.f at h;have H:=h;clear h;obtain rfl:=s1 H;go_enter Tryz.func222,Tryz.ntmps222;go_wp2;go_ret;exact⟨rs,dn⟩
mutual
def bT.l0:Nat→ByteArray→ByteArray→Int→Option (ByteArray)
 |0,_,_,_=>none
 |k+1,x0,x3,x4=>if x4<(x0.size:Int)then(if 0≤x4 then(if(wrap64 (x4+1))<(x0.size:Int)then(if 0≤(wrap64 (x4+1))then(bT.j1 k x0 x3 x4 (wrap64 ((wrap64 ((wrap64 (bt x0 x4))*65536))+(wrap64 ((wrap64 (bt x0 (wrap64 (x4+1))))*256)))))else(none))else(bT.j1 k x0 x3 x4 (wrap64 ((wrap64 (bt x0 x4))*65536))))else(none))else(some x3)
def bT.j1:Nat→ByteArray→ByteArray→Int→Int→Option (ByteArray)
 |0,_,_,_,_=>none
 |k+1,x0,x3,x4,x5=>if(wrap64 (x4+2))<(x0.size:Int)then(if 0≤(wrap64 (x4+2))then(bT.j2 k x0 x3 x4 (wrap64 (x5+(wrap64 (bt x0 (wrap64 (x4+2)))))))else(none))else(bT.j2 k x0 x3 x4 x5)
def bT.j2:Nat→ByteArray→ByteArray→Int→Int→Option (ByteArray)
 |0,_,_,_,_=>none
 |k+1,x0,x3,x4,x5=>bT.l1 k x0 x3 x4 x5 0
def bT.l1:Nat→ByteArray→ByteArray→Int→Int→Int→Option (ByteArray)
 |0,_,_,_,_,_=>none
 |k+1,x0,x3,x4,x5,x6=>if x6<4 then(if(wrap64 (x4+x6))>(x0.size:Int)then(if x3.size+1≤9223372036854775807 then(bT.l1 k x0 (x3++(⟨#[61]⟩:ByteArray)) x4 x5 (wrap64 (x6+1)))else(none))else(if 0≤(wrap64 (18-(wrap64 (6*x6))))then((rE.f).bind fun LZ=>(if 0≤(Go.bits .and .i64 (shr .i64 x5 (wrap64 (18-(wrap64 (6*x6))))) 63)then(if(Go.bits .and .i64 (shr .i64 x5 (wrap64 (18-(wrap64 (6*x6))))) 63)≤(wrap64 ((Go.bits .and .i64 (shr .i64 x5 (wrap64 (18-(wrap64 (6*x6))))) 63)+1))then(if(wrap64 ((Go.bits .and .i64 (shr .i64 x5 (wrap64 (18-(wrap64 (6*x6))))) 63)+1))≤(LZ.size:Int)then(if x3.size+(LZ.extract ((Go.bits .and .i64 (shr .i64 x5 (wrap64 (18-(wrap64 (6*x6))))) 63):Int).toNat ((wrap64 ((Go.bits .and .i64 (shr .i64 x5 (wrap64 (18-(wrap64 (6*x6))))) 63)+1)):Int).toNat).size≤9223372036854775807 then(bT.l1 k x0 (x3++(LZ.extract ((Go.bits .and .i64 (shr .i64 x5 (wrap64 (18-(wrap64 (6*x6))))) 63):Int).toNat ((wrap64 ((Go.bits .and .i64 (shr .i64 x5 (wrap64 (18-(wrap64 (6*x6))))) 63)+1)):Int).toNat)) x4 x5 (wrap64 (x6+1)))else(none))else(none))else(none))else(none)))else(none)))else(bT.l0 k x0 x3 (wrap64 (x4+3)))
end
def bT.f (k:Nat) (a0:ByteArray):Option (ByteArray):=bT.l0 k a0 (⟨#[]⟩:ByteArray) 0
theorem bT.calls {k:Nat} {a0 r:ByteArray} {w:World} (h:bT.f k a0=some r):
  Calls Tryz.prog 220 #[.string a0] w fun e w'=>e= .returned (.string r)∧dO w w':=by
 unfold bT.f at h;have H:=h;clear h;have H':=ak H;clear H;go_enter Tryz.func220,Tryz.ntmps220;go_wp2;go_loopg [3,4] k (fun kq v3 v4 w'=>∃(dV:ByteArray) (fC:Int),v3= .string dV∧v4= .int .i64 fC∧ah (bT.l0 kq a0 dV fC=some r)∧ah (kq≤k)∧dO w w')
 case atStart=>exact⟨_,_,rs,rs,H',⟨Nat.le_refl _⟩,dn⟩
 case round=>
  clear H';obtain⟨dV,fC,rfl,rfl,HA,xK,⟨m1,rfl⟩⟩:=hrel
  cases gk with
  |zero=>exact zz HA.out
  |succ k1=>
   obtain⟨H⟩:=HA;simp only[bT.l0]at H;replace H:=sd H;rcases H with⟨qJ,H⟩|⟨qJ,H⟩
   ·replace H:=oL H;obtain⟨iW,H⟩:=H;have HC5:=ak H;clear H;obtain⟨p4,q4,hx4⟩:=bx a0 fC;go_upto_if 23 with(fail)
    go_cut [5] (fun v5 wc=>∃(kq:Nat) (aax:Int),v5= .int .i64 aax∧ah (bT.j1 kq a0 dV fC aax=some r)∧ah (kq≤k1)∧dO w wc)
    case first=>
     have H:=HC5.out;clear HC5;replace H:=sp H;rcases H with⟨c6,H⟩|⟨c6,H⟩
     ·have pF:=decide_eq_true c6
      (try(have Ad:decide ((fC+1)<(a0.size:Int))=true:=decide_eq_true (by have h_:=c6;unfold wrap64 at h_;omega)));clear c6
      (first|rw[pF]|(simp only[jo,lg];rw[pF])|skip);obtain⟨ji7,SG⟩:∃j_:Int,(wrap64 (fC+1))=j_:=⟨_,rfl⟩
      replace H:(if 0≤(ji7)then(bT.j1 k1 a0 dV fC (wrap64 ((wrap64 ((wrap64 (bt a0 fC))*65536))+(wrap64 ((wrap64 (bt a0 (ji7)))*256)))))else(none))=some r:=by first|(rw[SG]at H;exact H)|(simp only[SG]at H⊢;exact H)
      (try rw[SG]at pF);have azk:(IntKind.i64.wrap (fC+1))=ji7:=(jo _).trans SG;replace H:=oL H;obtain⟨uK,H⟩:=H;have H':=ak H;clear H;obtain⟨p9,q9,hx9⟩:=bx a0 (ji7);go_wp2;go_meet
      case rel=>exact⟨_,_,(by first|rfl|(simp;done)|(simp only[←SG]<;>(first|rfl|simp))|(simp[*];done)),H',⟨kl⟩,dn⟩
     ·have pF:=decide_eq_false c6
      (try(have Ad:decide ((fC+1)<(a0.size:Int))=false:=decide_eq_false (by have h_:=c6;unfold wrap64 at h_;omega)));clear c6
      (first|rw[pF]|(simp only[jo,lg];rw[pF])|skip);have H':=ak H;clear H;go_wp2;go_meet
      case rel=>exact⟨_,_,rs,H',⟨kl⟩,dn⟩
    case rest=>
     clear HC5;try clear qJ
     try clear iW
     try clear p4
     try clear q4
     try clear hx4
     try clear p4
     try clear q4
     obtain⟨kq,aax,rfl,HA,HJ4,⟨mc4,rfl⟩⟩:=hcut
     cases kq with
     |zero=>exact zz HA.out
     |succ kj4=>
      obtain⟨H⟩:=HA;simp only[bT.j1]at H;have atW:=ak H;clear H;go_upto_if 36 with(fail)
      go_cut [5] (fun v5 wc=>∃(kq:Nat) (Jk:Int),v5= .int .i64 Jk∧ah (bT.j2 kq a0 dV fC Jk=some r)∧ah (kq≤kj4)∧dO w wc)
      case first=>
       have H:=atW.out;clear atW;replace H:=sp H;rcases H with⟨c11,H⟩|⟨c11,H⟩
       ·have vY:=decide_eq_true c11
        (try(have Io:decide ((fC+2)<(a0.size:Int))=true:=decide_eq_true (by have h_:=c11;unfold wrap64 at h_;omega)));clear c11
        (first|rw[vY]|(simp only[jo,lg];rw[vY])|skip);obtain⟨SK,Ir⟩:∃j_:Int,(wrap64 (fC+2))=j_:=⟨_,rfl⟩
        replace H:(if 0≤(SK)then(bT.j2 kj4 a0 dV fC (wrap64 (aax+(wrap64 (bt a0 (SK))))))else(none))=some r:=by first|(rw[Ir]at H;exact H)|(simp only[Ir]at H⊢;exact H)
        (try rw[Ir]at vY);have atY:(IntKind.i64.wrap (fC+2))=SK:=(jo _).trans Ir;replace H:=oL H;obtain⟨xA,H⟩:=H;have H':=ak H;clear H;obtain⟨p14,q14,asE⟩:=bx a0 (SK);go_wp2;go_meet
        case rel=>exact⟨_,_,(by first|rfl|(simp;done)|(simp only[←Ir]<;>(first|rfl|simp))|(simp[*];done)),H',⟨kl⟩,dn⟩
       ·have vY:=decide_eq_false c11
        (try(have Io:decide ((fC+2)<(a0.size:Int))=false:=decide_eq_false (by have h_:=c11;unfold wrap64 at h_;omega)));clear c11
        (first|rw[vY]|(simp only[jo,lg];rw[vY])|skip);have H':=ak H;clear H;go_wp2;go_meet
        case rel=>exact⟨_,_,rs,H',⟨kl⟩,dn⟩
      case rest=>
       clear atW;try clear qJ
       try clear iW
       try clear p4
       try clear q4
       try clear hx4
       try clear p4
       try clear q4
       obtain⟨kq,Jk,rfl,HA,HJ9,⟨mc9,rfl⟩⟩:=hcut
       cases kq with
       |zero=>exact zz HA.out
       |succ kj9=>
        obtain⟨H⟩:=HA;simp only[bT.j2]at H;have H':=ak H;clear H;go_wp2;go_loopg [3,6] kj9 (fun kq v3 v6 w'=>∃(Wv:ByteArray) (U4:Int),v3= .string Wv∧v6= .int .i64 U4∧ah (bT.l1 kq a0 Wv fC Jk U4=some r)∧ah (kq≤kj9)∧dO w w')
        case atStart=>exact⟨_,_,rs,rs,H',⟨Nat.le_refl _⟩,dn⟩
        case round=>
         clear H';try clear qJ
         try clear iW
         try clear p4
         try clear q4
         try clear hx4
         try clear p4
         try clear q4
         obtain⟨Wv,U4,rfl,rfl,HA,HK4,⟨m4,rfl⟩⟩:=hrel
         cases gk with
         |zero=>exact zz HA.out
         |succ k4=>
          obtain⟨H⟩:=HA;simp only[bT.l1]at H;replace H:=sd H;rcases H with⟨yM,H⟩|⟨yM,H⟩
          ·replace H:=sp H;rcases H with⟨c16,H⟩|⟨c16,H⟩
           ·have zJ:decide ((a0.size:Int)<(wrap64 (fC+U4)))=true:=decide_eq_true c16;replace H:=nn H;obtain⟨c17,H⟩:=H
            (try(have NQ:decide ((a0.size:Int)<(fC+U4))=true:=decide_eq_true (by have h_:=c16;have h2_:=c17;unfold wrap64 at h_;omega)));clear c16;have vX:=eq_true c17;have Ro:=decide_eq_true c17;try have azP:(9223372036854775807<Wv.size+1)=False:=eq_false (Nat.not_lt.2 c17)
            have H':=ak H;clear H;go_wp2;go_roundg k4
            case measure=>exact kl
            case rel=>exact⟨_,_,rs,rs,H',⟨kl⟩,dn⟩
           ·have zJ:decide ((a0.size:Int)<(wrap64 (fC+U4)))=false:=decide_eq_false c16
            (try(have NQ:decide ((a0.size:Int)<(fC+U4))=false:=decide_eq_false (by have h_:=c16;unfold wrap64 at h_;omega)));clear c16;obtain⟨OT,ake⟩:∃j_:Int,(wrap64 (18-(wrap64 (6*U4))))=j_:=⟨_,rfl⟩
            replace H:(if 0≤(OT)then((rE.f).bind fun LZ=>(if 0≤(Go.bits .and .i64 (shr .i64 Jk (OT)) 63)then(if(Go.bits .and .i64 (shr .i64 Jk (OT)) 63)≤(wrap64 ((Go.bits .and .i64 (shr .i64 Jk (OT)) 63)+1))then(if(wrap64 ((Go.bits .and .i64 (shr .i64 Jk (OT)) 63)+1))≤(LZ.size:Int)then(if Wv.size+(LZ.extract ((Go.bits .and .i64 (shr .i64 Jk (OT)) 63):Int).toNat ((wrap64 ((Go.bits .and .i64 (shr .i64 Jk (OT)) 63)+1)):Int).toNat).size≤9223372036854775807 then(bT.l1 k4 a0 (Wv++(LZ.extract ((Go.bits .and .i64 (shr .i64 Jk (OT)) 63):Int).toNat ((wrap64 ((Go.bits .and .i64 (shr .i64 Jk (OT)) 63)+1)):Int).toNat)) fC Jk (wrap64 (U4+1)))else(none))else(none))else(none))else(none)))else(none))=some r:=by first|(rw[ake]at H;exact H)|(simp only[ake]at H⊢;exact H)
            have aFW:(IntKind.i64.wrap (18-(wrap64 (6*U4))))=OT:=(jo _).trans ake;replace H:=Du H;obtain⟨D_,Ij,H⟩:=H;obtain⟨OU,aaU⟩:∃j_:Int,(shr .i64 Jk (OT))=j_:=⟨_,rfl⟩
            replace H:((rE.f).bind fun LZ=>(if 0≤(Go.bits .and .i64 (OU) 63)then(if(Go.bits .and .i64 (OU) 63)≤(wrap64 ((Go.bits .and .i64 (OU) 63)+1))then(if(wrap64 ((Go.bits .and .i64 (OU) 63)+1))≤(LZ.size:Int)then(if Wv.size+(LZ.extract ((Go.bits .and .i64 (OU) 63):Int).toNat ((wrap64 ((Go.bits .and .i64 (OU) 63)+1)):Int).toNat).size≤9223372036854775807 then(bT.l1 k4 a0 (Wv++(LZ.extract ((Go.bits .and .i64 (OU) 63):Int).toNat ((wrap64 ((Go.bits .and .i64 (OU) 63)+1)):Int).toNat)) fC Jk (wrap64 (U4+1)))else(none))else(none))else(none))else(none)))=some r:=by first|(rw[aaU]at H;exact H)|(simp only[aaU]at H⊢;exact H)
            have aFX:(Jk/2 ^ min (OT).toNat 64)=OU:=aaU;have aFY:(OT)≤64→(Jk/2 ^ (OT).toNat)=OU:=ahw aaU;replace H:=bd H;obtain⟨LZ,A21,H⟩:=H;replace H:=Du H;obtain⟨EZ,aeG,H⟩:=H;replace H:=nn H;obtain⟨c23,H⟩:=H;have CZ:=eq_true c23;have RF:=decide_eq_true c23;replace H:=nn H;obtain⟨c24,H⟩:=H;have Us:=eq_true c24;have ajB:=decide_eq_true c24;replace H:=nn H;obtain⟨c25,H⟩:=H;have Ul:=eq_true c25;have aiV:=decide_eq_true c25;try have aI7:(9223372036854775807<Wv.size+((LZ.extract ((Go.bits .and .i64 (OU) 63):Int).toNat ((wrap64 ((Go.bits .and .i64 (OU) 63)+1)):Int).toNat).size))=False:=by have h_:=c25;simp only[ByteArray.size_append,ByteArray.size_extract]at h_;refine eq_false ?_;simp only[decide_eq_true_eq]at*;omega
            try have avZ:(9223372036854775807<Wv.size+(LZ.extract ((Go.bits .and .i64 (OU) 63):Int).toNat ((wrap64 ((Go.bits .and .i64 (OU) 63)+1)):Int).toNat).size)=False:=eq_false (Nat.not_lt.2 c25)
            have H':=ak H;clear H;go_wp2_with (refine gA Tryz.func222 (rE.calls LZ _ A21.out) ?_;intro nd)
            go_roundg k4
            case measure=>exact kl
            case rel=>exact⟨_,_,(by first|rfl|(simp;done)|(simp only[←aaU]<;>(first|rfl|simp))|(simp[*];done)),rs,H',⟨kl⟩,dn⟩
          ·have H':=ak H;clear H;go_wp2;go_roundg k4
           case measure=>exact kl
           case rel=>exact⟨_,_,rs,rs,H',⟨kl⟩,dn⟩
   ·obtain rfl:=s1 H;go_wp2;go_ret;exact⟨rs,dn⟩
def ni.f (k:Nat) (a0:ByteArray):Option (List ByteArray×Bool):=if(a0.size:Int)>300 then(some ((([]:List ByteArray)),false))else((bT.f k a0).bind fun azZ=>((kU.f k azZ 40).bind fun az0=>(some (az0,true))))
theorem ni.calls {k:Nat} {a0:ByteArray} {r1:List ByteArray} {r2:Bool} {w:World} (h:ni.f k a0=some (r1,r2)):
  Calls Tryz.prog 212 #[.string a0] w fun e w'=>∃pO:Value,e= .returned (.tuple #[pO, .bool r2])∧Kd.R Kd.string 9 w' w.heap.size (fun _=>True) pO r1∧Below w.heap.size w w':=by
 have HB:=ak (Below.refl w.heap.size w);unfold ni.f at h;have H:=h;clear h;replace H:=sp H;rcases H with⟨c2,H⟩|⟨c2,H⟩
 ·have qJ:decide (300<(a0.size:Int))=true:=decide_eq_true c2;have yR:decide (300<a0.size)=true:=decide_eq_true (by omega);clear c2;obtain⟨aNQ,aqf⟩:=nm ([]:List ByteArray);rw[←aqf.out]at H;obtain⟨rfl,rfl⟩:=s2 H;go_enter Tryz.func212,Tryz.ntmps212;go_wp2_with (refine IY 7 Kd.string 9 aqf ?_;intro aNR w3 Xh hb;have az1:=ak (Kd.aG Xh (aj (ul HB.out)));replace HB:=bs HB hb;clear hb Xh)
  go_ret2;exact⟨_,er,ur az1.out,ul HB.out⟩
 ·have qJ:decide (300<(a0.size:Int))=false:=decide_eq_false c2;have yR:decide (300<a0.size)=false:=decide_eq_false (by omega);clear c2;replace H:=bd H;obtain⟨azZ,A5,H⟩:=H;replace H:=bd H;obtain⟨az0,A6,H⟩:=H;obtain⟨rfl,rfl⟩:=s2 H;go_enter Tryz.func212,Tryz.ntmps212;go_wp2_with (first|(refine gA Tryz.func220 (bT.calls A5.out) ?_;intro nd)|(refine gV Tryz.func219 (kU.calls A6.out) ?_;rintro aNS w7 ⟨ho0,hb⟩;have az2:=ak (Kd.aG ho0 (aj (ul HB.out)));replace HB:=bs HB hb;clear hb;(try clear ho0)))
  go_ret2;exact⟨_,er,ur az2.out,ul HB.out⟩
def kL.l0:Nat→List ByteArray→Int→Int→Option (Int)
 |0,_,_,_=>none
 |k+1,x0,x3,x4=>if x4<(x0.length:Int)then(if 0≤x4 then(kL.l0 k x0 (wrap64 ((wrap64 (x3+((qH ByteArray.empty x0 x4).size:Int)))+1)) (wrap64 (x4+1)))else(none))else(some x3)
def kL.f (k:Nat) (l0:List ByteArray):Option (Int):=kL.l0 k l0 0 0
theorem kL.calls {k c0:Nat} {A0:Option Addr} {l0:List ByteArray} {r:Int} {w:World} (hr0:Kd.C Kd.string w A0 l0.length l0) (hc0:l0.length≤c0) (h:kL.f k l0=some r):
  Calls Tryz.prog 213 #[.slice A0 l0.length c0] w fun e w'=>e= .returned (.int .i64 r)∧dO w w':=by
 have HR0:=ak hr0;have zH:=ak hc0;clear hr0 hc0;unfold kL.f at h;have H:=h;clear h;have H':=ak H;clear H;go_enter Tryz.func213,Tryz.ntmps213;go_wp2;go_loopg [3,4] k (fun kq v3 v4 w'=>∃(dV:Int) (fC:Int),v3= .int .i64 dV∧v4= .int .i64 fC∧ah (kL.l0 kq l0 dV fC=some r)∧ah (kq≤k)∧dO w w')
 case atStart=>exact⟨_,_,rs,rs,H',⟨Nat.le_refl _⟩,dn⟩
 case round=>
  clear H';obtain⟨dV,fC,rfl,rfl,HA,xK,⟨m1,rfl⟩⟩:=hrel
  cases gk with
  |zero=>exact zz HA.out
  |succ k1=>
   obtain⟨H⟩:=HA;simp only[kL.l0]at H;replace H:=sd H;rcases H with⟨qJ,H⟩|⟨qJ,H⟩
   ·replace H:=oL H;obtain⟨iW,H⟩:=H;have H':=ak H;clear H;have UF:=zi fC;have UG:=zj fC l0.length;obtain⟨RD,ajv,nT⟩:=Kd.jT HR0.out fC UF UG;cases ajv;replace UF:=eq_true UF;replace UG:=eq_true UG;go_wp2;go_roundg k1
    case measure=>exact kl
    case rel=>exact⟨_,_,rs,rs,H',⟨kl⟩,dn⟩
   ·obtain rfl:=s1 H;go_wp2;go_ret;exact⟨rs,dn⟩
def nC.f (k:Nat) (a0:ByteArray):Option (Int×Bool):=if(a0.size:Int)>300 then(some (0,false))else((je.f k a0).bind fun az3=>(if az3.2=true then(some (0,true))else((bP.f k a0).bind fun az4=>((ni.f k a0).bind fun az5=>((kL.f k az4.1).bind fun az6=>((kL.f k az5.1).bind fun az7=>(if az6≤az7 then(some (1,true))else(some (2,true)))))))))
theorem nC.calls {k:Nat} {a0:ByteArray} {r1:Int} {r2:Bool} {w:World} (h:nC.f k a0=some (r1,r2)):
  Calls Tryz.prog 195 #[.string a0] w fun e w'=>e= .returned (.tuple #[.int .i64 r1, .bool r2])∧Below w.heap.size w w':=by
 have HB:=ak (Below.refl w.heap.size w);unfold nC.f at h;have H:=h;clear h;replace H:=sp H;rcases H with⟨c2,H⟩|⟨c2,H⟩
 ·have qJ:decide (300<(a0.size:Int))=true:=decide_eq_true c2;have yR:decide (300<a0.size)=true:=decide_eq_true (by omega);clear c2;obtain⟨rfl,rfl⟩:=s2 H;go_enter Tryz.func195,Tryz.ntmps195;go_wp2;go_ret2;exact⟨er,ul HB.out⟩
 ·have qJ:decide (300<(a0.size:Int))=false:=decide_eq_false c2;have yR:decide (300<a0.size)=false:=decide_eq_false (by omega);clear c2;replace H:=bd H;obtain⟨⟨aNT,asX⟩,A3,H⟩:=H
  (try dsimp only at H);replace H:=sb H;rcases H with⟨rfl,H⟩|⟨rfl,H⟩
  ·obtain⟨rfl,rfl⟩:=s2 H;go_enter Tryz.func195,Tryz.ntmps195;go_wp2_with (refine gV Tryz.func210 (je.calls A3.out) ?_;rintro az8 w5 ⟨ho0,hb⟩;have Fj:=ak (Kd.aG ho0 (aj (ul HB.out)));replace HB:=bs HB hb;clear hb;(try clear ho0))
   go_ret2;exact⟨er,ul HB.out⟩
  ·replace H:=bd H;obtain⟨⟨aNU,aNV⟩,A6,H⟩:=H
   (try dsimp only at H);replace H:=bd H;obtain⟨⟨aNW,aNX⟩,A7,H⟩:=H
   (try dsimp only at H);replace H:=bd H;obtain⟨az6,A8,H⟩:=H;replace H:=bd H;obtain⟨az7,A9,H⟩:=H;replace H:=sd H;rcases H with⟨oO,H⟩|⟨oO,H⟩
   ·obtain⟨rfl,rfl⟩:=s2 H;go_enter Tryz.func195,Tryz.ntmps195;go_wp2_with (first|(refine gV Tryz.func210 (je.calls A3.out) ?_;rintro az8 V6 ⟨ho0,hb⟩;have Fj:=ak (Kd.aG ho0 (aj (ul HB.out)));replace HB:=bs HB hb;clear hb;(try clear ho0))|(refine gV Tryz.func211 (bP.calls A6.out) ?_;rintro aFZ w12 ⟨ho0,hb⟩;have Gt:=ak (Kd.aG (Kd.eU ho0 (Kd.jM (ur Fj.out))) (aj (ul HB.out)));replace Fj:=ak (Kd.dY (ur Fj.out) (Kd.bV ho0) hb);replace HB:=bs HB hb;clear hb;(try clear ho0))|(refine gV Tryz.func212 (ni.calls A7.out) ?_;rintro aF0 w13 ⟨ho0,hb⟩;have U5:=ak (Kd.aG (Kd.eU (Kd.eU ho0 (Kd.jM (ur Fj.out))) (Kd.jM (ur Gt.out))) (aj (ul HB.out)));replace Fj:=ak (Kd.dY (ur Fj.out) (Kd.bV ho0) hb);replace Gt:=ak (Kd.dY (ur Gt.out) (Kd.bV ho0) hb);replace HB:=bs HB hb;clear hb;(try clear ho0);obtain⟨F9,Gf,V7⟩:=Kd.aH Gt.out;subst V7)|(refine gA Tryz.func213 (kL.calls (cu ((Kd.aK Gt.out).2.2)) ((Kd.aK Gt.out).2.1) A8.out) ?_;intro nd;obtain⟨FX,EO,Uh⟩:=Kd.aH U5.out;subst Uh)|(refine gA Tryz.func213 (kL.calls (cu ((Kd.aK U5.out).2.2)) ((Kd.aK U5.out).2.1) A9.out) ?_;intro nd))
    go_ret2;exact⟨er,ul HB.out⟩
   ·obtain⟨rfl,rfl⟩:=s2 H;go_enter Tryz.func195,Tryz.ntmps195;go_wp2_with (first|(refine gV Tryz.func210 (je.calls A3.out) ?_;rintro az8 w16 ⟨ho0,hb⟩;have Fj:=ak (Kd.aG ho0 (aj (ul HB.out)));replace HB:=bs HB hb;clear hb;(try clear ho0))|(refine gV Tryz.func211 (bP.calls A6.out) ?_;rintro aFZ w17 ⟨ho0,hb⟩;have Gt:=ak (Kd.aG (Kd.eU ho0 (Kd.jM (ur Fj.out))) (aj (ul HB.out)));replace Fj:=ak (Kd.dY (ur Fj.out) (Kd.bV ho0) hb);replace HB:=bs HB hb;clear hb;(try clear ho0))|(refine gV Tryz.func212 (ni.calls A7.out) ?_;rintro aF0 w18 ⟨ho0,hb⟩;have U5:=ak (Kd.aG (Kd.eU (Kd.eU ho0 (Kd.jM (ur Fj.out))) (Kd.jM (ur Gt.out))) (aj (ul HB.out)));replace Fj:=ak (Kd.dY (ur Fj.out) (Kd.bV ho0) hb);replace Gt:=ak (Kd.dY (ur Gt.out) (Kd.bV ho0) hb);replace HB:=bs HB hb;clear hb;(try clear ho0);obtain⟨aFA,aFB,atA⟩:=Kd.aH Gt.out;subst atA)|(refine gA Tryz.func213 (kL.calls (cu ((Kd.aK Gt.out).2.2)) ((Kd.aK Gt.out).2.1) A8.out) ?_;intro nd;obtain⟨Qv,Qw,Y9⟩:=Kd.aH U5.out;subst Y9)|(refine gA Tryz.func213 (kL.calls (cu ((Kd.aK U5.out).2.2)) ((Kd.aK U5.out).2.1) A9.out) ?_;intro nd))
    go_ret2;exact⟨er,ul HB.out⟩
def kE.f (k:Nat) (a0:ByteArray) (a1:Int):Option (List ByteArray×Bool):=if a1=0 then((je.f k a0).bind fun aqg=>(if aqg.2=true then(some (aqg.1,true))else(some ((([]:List ByteArray)),false))))else(if a1=1 then((bP.f k a0).bind fun aqh=>(some (aqh.1,aqh.2)))else(if a1=2 then((ni.f k a0).bind fun aqi=>(some (aqi.1,aqi.2)))else(some ((([]:List ByteArray)),false))))
theorem kE.calls {k:Nat} {a0:ByteArray} {a1:Int} {r1:List ByteArray} {r2:Bool} {w:World} (h:kE.f k a0 a1=some (r1,r2)):
  Calls Tryz.prog 196 #[.string a0, .int .i64 a1] w fun e w'=>∃pO:Value,e= .returned (.tuple #[pO, .bool r2])∧Kd.R Kd.string 9 w' w.heap.size (fun _=>True) pO r1∧Below w.heap.size w w':=by
 have HB:=ak (Below.refl w.heap.size w);unfold kE.f at h;have H:=h;clear h;replace H:=sq H;rcases H with⟨iW,Ae,H⟩|⟨c3,iW,Ae,H⟩
 ·replace H:=bd H;obtain⟨⟨aNY,aNZ⟩,A4,H⟩:=H
  (try dsimp only at H);replace H:=sb H;rcases H with⟨rfl,H⟩|⟨rfl,H⟩
  ·obtain⟨rfl,rfl⟩:=s2 H;go_enter Tryz.func196,Tryz.ntmps196;go_wp2_with (refine gV Tryz.func210 (je.calls A4.out) ?_;rintro aF1 w6 ⟨ho0,hb⟩;have aaV:=ak (Kd.aG ho0 (aj (ul HB.out)));replace HB:=bs HB hb;clear hb;(try clear ho0))
   go_ret2;exact⟨_,er,ur aaV.out,ul HB.out⟩
  ·obtain⟨aN0,aqj⟩:=nm ([]:List ByteArray);rw[←aqj.out]at H;obtain⟨rfl,rfl⟩:=s2 H;go_enter Tryz.func196,Tryz.ntmps196;go_wp2_with (first|(refine gV Tryz.func210 (je.calls A4.out) ?_;rintro aF1 w7 ⟨ho0,hb⟩;have aaV:=ak (Kd.aG ho0 (aj (ul HB.out)));replace HB:=bs HB hb;clear hb;(try clear ho0))|(refine IY 30 Kd.string 9 aqj ?_;intro aN1 w8 ho9 hb;have az9:=ak (Kd.aG (Kd.eU ho9 (Kd.jM (ur aaV.out))) (aj (ul HB.out)));replace aaV:=ak (Kd.dY (ur aaV.out) (Kd.bV ho9) hb);replace HB:=bs HB hb;clear hb ho9))
   go_ret2;exact⟨_,er,ur (Kd.aW az9.out (fun _ hk=>trivial)),ul HB.out⟩
 ·replace H:=sq H;rcases H with⟨oO,vH,H⟩|⟨c10,oO,vH,H⟩
  ·replace H:=bd H;obtain⟨⟨aN2,aN3⟩,A11,H⟩:=H
   (try dsimp only at H);obtain⟨rfl,rfl⟩:=s2 H;go_enter Tryz.func196,Tryz.ntmps196;go_wp2_with (refine gV Tryz.func211 (bP.calls A11.out) ?_;rintro aN4 w12 ⟨ho0,hb⟩;have az_:=ak (Kd.aG ho0 (aj (ul HB.out)));replace HB:=bs HB hb;clear hb;(try clear ho0))
   go_ret2;exact⟨_,er,ur az_.out,ul HB.out⟩
  ·replace H:=sq H;rcases H with⟨xA,Df,H⟩|⟨c13,xA,Df,H⟩
   ·replace H:=bd H;obtain⟨⟨aN5,aN6⟩,A14,H⟩:=H
    (try dsimp only at H);obtain⟨rfl,rfl⟩:=s2 H;go_enter Tryz.func196,Tryz.ntmps196;go_wp2_with (refine gV Tryz.func212 (ni.calls A14.out) ?_;rintro aN7 w15 ⟨ho0,hb⟩;have aAa:=ak (Kd.aG ho0 (aj (ul HB.out)));replace HB:=bs HB hb;clear hb;(try clear ho0))
    go_ret2;exact⟨_,er,ur aAa.out,ul HB.out⟩
   ·obtain⟨aN8,aqk⟩:=nm ([]:List ByteArray);rw[←aqk.out]at H;obtain⟨rfl,rfl⟩:=s2 H;go_enter Tryz.func196,Tryz.ntmps196;go_wp2_with (refine IY 30 Kd.string 9 aqk ?_;intro aN9 w16 ahx hb;have aAb:=ak (Kd.aG ahx (aj (ul HB.out)));replace HB:=bs HB hb;clear hb ahx)
    go_ret2;exact⟨_,er,ur aAb.out,ul HB.out⟩
end Go.Proofs.YtncdadcmghglkaaGreatDoor.PFnPartAt
