/- Printed walks; conditions: those in each statement. -/
import Derived.Test.YtncdadcmghglkaaGreatDoorVFnExactFormatPartQt
import Derived.Test.YtncdadcmghglkaaGreatDoorVFnExactFormatPartYt
import Derived.Test.YtncdadcmghglkaaGreatDoorPFnExactFormatPartx0
import Derived.Test.YtncdadcmghglkaaGreatDoorPFnExactFormatPartx1
namespace Go.Proofs.YtncdadcmghglkaaGreatDoor.PFnExactFormatPart
open Go.RowKit Go.Proofs.YtncdadcmghglkaaGreatDoor.X Go.Proofs.YtncdadcmghglkaaGreatDoorW.dB Go.Proofs.YtncdadcmghglkaaGreatDoorW.iy Go.Proofs.YtncdadcmghglkaaGreatDoorW.jo
attribute [local go_sem] lU lV oh oq kJ kK lW lX   -- for this text's walks alone
set_option linter.unusedVariables false
set_option linter.unusedSimpArgs false
mutual
def aQ.j0:Nat→ByteArray→Int→Option (List ByteArray)
 |0,_,_=>none
 |k+1,x3,x4=>aQ.l0 k x3 x4 (([]:List ByteArray))
def aQ.l0:Nat→ByteArray→Int→List ByteArray→Option (List ByteArray)
 |0,_,_,_=>none
 |k+1,x3,x4,x5=>if(x3.size:Int)>40 then(aQ.l1 k x3 x5 (-1) x4)else(if x5.length<8796093022208 then(some (x5++[x3]))else(none))
def aQ.l1:Nat→ByteArray→List ByteArray→Int→Int→Option (List ByteArray)
 |0,_,_,_,_=>none
 |k+1,x3,x5,x6,x7=>if(wrap64 (x7+1))<(x3.size:Int)then(if 0≤x7 then(if x7<(x3.size:Int)then(if(bt x3 x7)=32 then(if 0≤(wrap64 (x7-1))then(if(wrap64 (x7-1))<(x3.size:Int)then(if(bt x3 (wrap64 (x7-1)))=32 then(aQ.l1 k x3 x5 x6 (wrap64 (x7+1)))else(if 0≤(wrap64 (x7+1))then(if(bt x3 (wrap64 (x7+1)))=32 then(aQ.l1 k x3 x5 x6 (wrap64 (x7+1)))else(if x6<0 then(aQ.l1 k x3 x5 x7 (wrap64 (x7+1)))else(if x7≤40 then(aQ.l1 k x3 x5 x7 (wrap64 (x7+1)))else(aQ.l1 k x3 x5 x6 (wrap64 (x7+1))))))else(none)))else(none))else(none))else(aQ.l1 k x3 x5 x6 (wrap64 (x7+1))))else(none))else(none))else(if x6<0 then(if x5.length<8796093022208 then(some (x5++[x3]))else(none))else(if 0≤x6 then(if x6≤(x3.size:Int)then(if x5.length<8796093022208 then(aQ.l0 k (x3.extract (x6:Int).toNat x3.size) 2 (x5++[x3.extract 0 (x6:Int).toNat]))else(none))else(none))else(none)))
end
def aQ.f(k:Nat)(aY:ByteArray)(bf:ByteArray):Option (List ByteArray):=if aY.size+1≤9223372036854775807 then(if bf.toList=([]:List UInt8)then(aQ.j0 k (aY++(⟨#[58]⟩:ByteArray)) (wrap64 ((aY.size:Int)+3)))else(if 1+bf.size≤9223372036854775807 then(if(aY++(⟨#[58]⟩:ByteArray)).size+((⟨#[32]⟩:ByteArray)++bf).size≤9223372036854775807 then(aQ.j0 k ((aY++(⟨#[58]⟩:ByteArray))++((⟨#[32]⟩:ByteArray)++bf)) (wrap64 ((aY.size:Int)+3)))else(none))else(none)))else(none)
def aQ.T1:Bool×List (List Nat×List Nat):=(true,[([],[]),([0],[0]),([1],[1]),([],[]),([3],[3]),([4],[4]),([5],[5]),([2,0,1,2],[2]),([6,7,0,1,2,3,4,5,6,7],[6])])
def aQ.B1:List Nat:=[0,1,3,0,8,24,56,7,255]
theorem aQ.azF:sZ .any (opsOf Tryz.f83 1)=aQ.T1:=by kernel_rfl
theorem aQ.axc:pW aQ.T1.2 aQ.B1=true:=by kernel_rfl
def aQ.T13:Bool×List (List Nat×List Nat):=(true,[([],[]),([],[]),([],[]),([1,2],[1,2]),([3],[3]),([0,4],[0,4]),([],[]),([],[]),([6,7],[6,7]),([5,5,0,1,2,3,4,5],[0,5]),([8,9,0,1,2,3,4,5,6,7,8,9],[1,6,8]),([10,0,1,2,3,4,5,6,7,8,9,10],[])])
def aQ.B13:List Nat:=[0,0,0,6,14,31,0,0,192,63,1023,2047]
theorem aQ.ZL:sZ .any (opsOf Tryz.f83 13)=aQ.T13:=by kernel_rfl
theorem aQ.TQ:pW aQ.T13.2 aQ.B13=true:=by kernel_rfl
set_option maxHeartbeats 8000000 in
set_option maxRecDepth 100000 in
theorem aQ.calls(k:Nat)(aY:ByteArray)(bf:ByteArray)(r:List ByteArray)(w:World)(h:aQ.f k aY bf=some r):
  Calls Tryz.prog 83 #[.agg #[.string aY, .string bf]] w fun e w'=>∃wH:Value,e= .returned (wH)∧Kd.R Kd.string 9 w' w.heap.size (fun _=>True) wH r∧Below w.heap.size w w':=by
 have Dq:=Tryz.underlying69;have HB:=ak (Below.refl w.heap.size w);have H:(if aY.size+1≤9223372036854775807 then(if bf.toList=([]:List UInt8)then(aQ.j0 k (aY++(⟨#[58]⟩:ByteArray)) (wrap64 ((aY.size:Int)+3)))else(if 1+bf.size≤9223372036854775807 then(if(aY++(⟨#[58]⟩:ByteArray)).size+((⟨#[32]⟩:ByteArray)++bf).size≤9223372036854775807 then(aQ.j0 k ((aY++(⟨#[58]⟩:ByteArray))++((⟨#[32]⟩:ByteArray)++bf)) (wrap64 ((aY.size:Int)+3)))else(none))else(none)))else(none))=some r:=h;clear h;replace H:=nn H;obtain⟨c2,H⟩:=H;have sW:=eq_true c2;have Dp:=decide_eq_true c2;try have adY:(9223372036854775807<aY.size+1)=False:=eq_false (Nat.not_lt.2 c2)
 have XJ:=ak H;clear H;go_enter Tryz.func83,Tryz.ntmps83;try go_wp2_with (first|(refine bE 1 #[.string aY, .string bf] 69 ?_;intro zX hg w4 hbox hb;have jC:=ak (hbox);have apT:=jY HB hg;have apU:=jY HB hg;replace HB:=bs HB hb;clear hb hbox hg))
 replace jC:=ak (ay jC.out);replace HB:=ak (eY HB.out);refine ro [] [0,3,1,2,7,4,5,6,8] (fun w'=>w'.cell? ⟨zX,0,none⟩=some (.string aY)∧w'.cell? ⟨zX,1,none⟩=some (.string bf)) ⟨(aI jC.out 0).trans rfl,(aI jC.out 1).trans rfl⟩ ?_
 generalize w4.drew=w5 at jC HB⊢
 repeat(refine lk (v:=?_) (a':=?_) (gk.trans rfl) rfl rfl ?_ ?_ ?_;rotate_left;(focus (rintro w' ⟨s0,s1⟩;go_simp;with_reducible rfl));rotate_left;(focus (simp only[Act.put,jI,jJ,l_c,bC,bH];rfl)))
 refine on ?_;obtain⟨yu,yw,yx,yA⟩:=wO jC.out;go_upto_if 17 with(fail)
 go_cut [3] (fun v3 wc=>∃(kq:Nat) (kG:ByteArray),v3= .string kG∧ah (aQ.j0 kq kG (wrap64 ((aY.size:Int)+3))=some r)∧ah (kq≤k)∧ah (wc.heap[zX]? =some (.cells #[.string aY, .string bf] 69 (0,0)))∧ah (Below w.heap.size w wc))
 case first=>
  have H:=XJ.out;clear XJ;replace H:=sp H;rcases H with⟨c7,H⟩|⟨c7,H⟩
  ·have oJ:=beq_iff_eq.mpr c7;have c7e:(bf.toList).isEmpty=true:=List.isEmpty_iff.mpr c7;have EH:=bne_eq_false_iff_eq.mpr c7;clear c7
   (first|rw[oJ]|(simp only[bC,bH];rw[oJ])|skip)
   (first|(rw[c7e];simp only[Bool.not_true,Bool.not_false])|skip);have H':=ak H;clear H;go_wp2;go_meet
   case rel=>exact⟨_,(aY++(⟨#[58]⟩:ByteArray)),rs,H',⟨Qw⟩,⟨ub jC.out⟩,⟨bb⟩⟩
  ·have oJ:=beq_eq_false_iff_ne.mpr c7;have c7e:(bf.toList).isEmpty=false:=List.isEmpty_eq_false_iff.mpr c7;have EH:=bne_iff_ne.mpr c7
   (first|rw[oJ]|(simp only[bC,bH];rw[oJ])|skip)
   (first|(rw[c7e];simp only[Bool.not_true,Bool.not_false])|skip);replace H:=nn H;obtain⟨c8,H⟩:=H;have uV:=eq_true c8;have Lh:=decide_eq_true c8;try have afY:(9223372036854775807<1+bf.size)=False:=eq_false (Nat.not_lt.2 c8)
   replace H:=nn H;obtain⟨c9,H⟩:=H;have wQ:=eq_true c9;have Gy:=decide_eq_true c9;try have azG:(9223372036854775807<aY.size+1+(1+bf.size))=False:=by have h_:=(eq_false (Nat.not_lt.2 c9):(9223372036854775807<(aY++(⟨#[58]⟩:ByteArray)).size+((⟨#[32]⟩:ByteArray)++bf).size)=False);simp only[ByteArray.size_append]at h_;exact h_
   try have ahF:(9223372036854775807<(aY++(⟨#[58]⟩:ByteArray)).size+((⟨#[32]⟩:ByteArray)++bf).size)=False:=eq_false (Nat.not_lt.2 c9)
   have H':=ak H;clear H;obtain⟨oz,pX,oC,pY⟩:=wO jC.out;go_wp2;go_meet
   case rel=>exact⟨_,((aY++(⟨#[58]⟩:ByteArray))++((⟨#[32]⟩:ByteArray)++bf)),rs,H',⟨Qw⟩,⟨ub jC.out⟩,⟨bb⟩⟩
 case rest=>
  clear XJ;try clear c2
  try clear sW
  try clear Dp
  try clear adY
  try clear p2
  try clear p6
  try clear c7
  try clear oJ
  try clear EH
  try clear c8
  try clear uV
  try clear Lh
  try clear afY
  try clear c9
  try clear wQ
  try clear Gy
  try clear ahF
  try clear oz
  try clear pX
  try clear yu
  try clear yw
  try clear oC
  try clear pY
  try clear yx
  try clear yA
  obtain⟨kq,kG,rfl,HA,HJ2,jC,HB⟩:=hcut
  cases kq with
  |zero=>exact absurd HA.out (by simp[aQ.j0])
  |succ ZX=>
   have H:=HA.out;clear HA;simp only[aQ.j0]at H;obtain⟨auD,adZ⟩:=nm ([]:List ByteArray);rw[←adZ.out]at H
   (try rw[Option.bind_some]at H);have H':=ak H;clear H;go_wp2_with (first|((with_reducible refine bU (N:=23) rfl ?_);refine Kd.qg Kd.string _ 9 ?hg (N:=23) ?hd (xs:=([]:List ByteArray)) (inner:=[]) (ok:=fun _=>True) (pz:=fun _=>True) ?hr ?hp (fun _ hk=>hk) trivial (Below.refl _ _) (Nat.le_refl _) (by simp) ?_;(case hd=>rfl);(case hg=>rfl);(case hr=>first|(go_simp;done)|(go_simp;rfl));(case hp=>exact(iF.none _ _));intro azH Cm OZ hb rQ jw;clear rQ jw;(first|rw[←adZ.out]at OZ|(simp only[Int.reduceToNat]at OZ;rw[←adZ.out]at OZ));have apV:=ak (Kd.fA OZ (aA bb));replace jC:=kb jC hb;replace HB:=ak (aG bb hb);clear hb OZ))
   go_loopg [3,4,5] ZX (fun kq v3 v4 v5 w'=>∃(kG:ByteArray) (fQ:Int) (mY:List ByteArray),v3= .string kG∧v4= .int .i64 fQ∧ah (aQ.l0 kq kG fQ mY=some r)∧ah (kq≤ZX)∧ah (Kd.R Kd.string 9 w' w.heap.size (fun _=>True) v5 mY)∧ah (w'.heap[zX]? =some (.cells #[.string aY, .string bf] 69 (0,0)))∧ah (Below w.heap.size w w'))
   case atStart=>exact⟨(kG),((wrap64 ((aY.size:Int)+3))),(auD),rs,rs,H',⟨Nat.le_refl _⟩,⟨ur apV.out⟩,⟨ub jC.out⟩,⟨bb⟩⟩
   case round=>
    clear H';try clear c2
    try clear sW
    try clear Dp
    try clear adY
    try clear p2
    try clear p6
    try clear c7
    try clear oJ
    try clear EH
    try clear c8
    try clear uV
    try clear Lh
    try clear afY
    try clear c9
    try clear wQ
    try clear Gy
    try clear ahF
    try clear oz
    try clear pX
    try clear yu
    try clear yw
    try clear oC
    try clear pY
    try clear yx
    try clear yA
    try clear p2
    try clear p6
    obtain⟨kG,fQ,mY,rfl,rfl,HA,yT,qY,jC,HB⟩:=hrel
    cases gk with
    |zero=>exact absurd HA.out (by simp[aQ.l0])
    |succ k2=>
     have H:=HA.out;clear HA;simp only[aQ.l0]at H;replace H:=sp H;rcases H with⟨c13,H⟩|⟨c13,H⟩
     ·have uO:decide (40<(kG.size:Int))=true:=decide_eq_true c13;have yI:decide (40<kG.size)=true:=decide_eq_true (by omega);clear c13;have H':=ak H;clear H;go_wp2;go_loopg [6,7] k2 (fun kq v6 v7 w'=>∃(wV:Int) (kZ:Int),v6= .int .i64 wV∧v7= .int .i64 kZ∧ah (aQ.l1 kq kG mY wV kZ=some r)∧ah (kq≤k2)∧ah (Kd.R Kd.string 9 w' w.heap.size (fun _=>True) u5 mY)∧ah (w'.heap[zX]? =some (.cells #[.string aY, .string bf] 69 (0,0)))∧ah (Below w.heap.size w w'))
      case atStart=>exact⟨((-1)),(fQ),rs,rs,H',⟨Nat.le_refl _⟩,⟨ur qY.out⟩,⟨ub jC.out⟩,⟨bb⟩⟩
      case round=>
       clear H';try clear c1
       try clear c2
       try clear sW
       try clear Dp
       try clear adY
       try clear p2
       try clear p6
       try clear c7
       try clear oJ
       try clear EH
       try clear c8
       try clear uV
       try clear Lh
       try clear afY
       try clear c9
       try clear wQ
       try clear Gy
       try clear ahF
       try clear c13
       try clear uO
       try clear yI
       try clear oz
       try clear pX
       try clear yu
       try clear yw
       try clear oC
       try clear pY
       try clear yx
       try clear yA
       try clear p2
       try clear p6
       obtain⟨wV,kZ,rfl,rfl,HA,GX,qY,jC,HB⟩:=hrel
       cases gk with
       |zero=>exact absurd HA.out (by simp[aQ.l1])
       |succ k3=>
        have H:=HA.out;clear HA;simp only[aQ.l1]at H;replace H:=sp H;rcases H with⟨c14,H⟩|⟨c14,H⟩
        ·have t_:=decide_eq_true c14
         (try(have yJ:decide ((kZ+1)<(kG.size:Int))=true:=decide_eq_true (by have h_:=c14;unfold wrap64 at h_;omega)));clear c14;replace H:=og H;obtain⟨xW,H⟩:=H;replace H:=og H;obtain⟨Ja,H⟩:=H;replace H:=sq H;rcases H with⟨Bg,Vy,H⟩|⟨c18,Bg,Vy,H⟩
         ·obtain⟨Uy,ad1⟩:∃j_:Int,(wrap64 (kZ-1))=j_:=⟨_,rfl⟩
          replace H:(if 0≤(Uy)then(if(Uy)<(kG.size:Int)then(if(bt kG (Uy))=32 then(aQ.l1 k3 kG mY wV (wrap64 (kZ+1)))else(if 0≤(wrap64 (kZ+1))then(if(bt kG (wrap64 (kZ+1)))=32 then(aQ.l1 k3 kG mY wV (wrap64 (kZ+1)))else(if wV<0 then(aQ.l1 k3 kG mY kZ (wrap64 (kZ+1)))else(if kZ≤40 then(aQ.l1 k3 kG mY kZ (wrap64 (kZ+1)))else(aQ.l1 k3 kG mY wV (wrap64 (kZ+1))))))else(none)))else(none))else(none))=some r:=by first|(rw[ad1]at H;exact H)|(simp only[ad1]at H⊢;exact H)
          have auE:(IntKind.i64.wrap (kZ-1))=Uy:=(bC _).trans ad1;replace H:=og H;obtain⟨Ro,H⟩:=H;replace H:=og H;obtain⟨Eo,H⟩:=H;replace H:=sq H;rcases H with⟨G7,Z8,H⟩|⟨c23,G7,Z8,H⟩
          ·have H':=ak H;clear H;obtain⟨p17,q17,ad2⟩:=bx kG kZ;obtain⟨p22,q22,ahG⟩:=bx kG (Uy);go_wp2;go_roundg k3
           case measure=>have:=HJ2.out;have:=yT.out;have:=GX.out;omega
           case rel=>exact⟨(wV),(wrap64 (kZ+1)),rs,rs,H',⟨by have:=HJ2.out;have:=yT.out;have:=GX.out;omega⟩,⟨ur qY.out⟩,⟨ub jC.out⟩,⟨bb⟩⟩
          ·obtain⟨H6,MK⟩:∃j_:Int,(wrap64 (kZ+1))=j_:=⟨_,rfl⟩
           replace H:(if 0≤(H6)then(if(bt kG (H6))=32 then(aQ.l1 k3 kG mY wV H6)else(if wV<0 then(aQ.l1 k3 kG mY kZ H6)else(if kZ≤40 then(aQ.l1 k3 kG mY kZ H6)else(aQ.l1 k3 kG mY wV H6))))else(none))=some r:=by first|(rw[MK]at H;exact H)|(simp only[MK]at H⊢;exact H)
           (try rw[MK]at t_);have auF:(IntKind.i64.wrap (kZ+1))=H6:=(bC _).trans MK;replace H:=og H;obtain⟨VB,H⟩:=H;replace H:=sq H;rcases H with⟨IJ,ads,H⟩|⟨c27,IJ,ads,H⟩
           ·have H':=ak H;clear H;obtain⟨p17,q17,ad2⟩:=bx kG kZ;obtain⟨p22,q22,ahG⟩:=bx kG (Uy);obtain⟨p26,q26,al2⟩:=bx kG (H6);go_wp2;go_roundg k3
            case measure=>have:=HJ2.out;have:=yT.out;have:=GX.out;omega
            case rel=>exact⟨(wV),(H6),rs,(by first|rfl|(simp;done)|(simp only[←MK]<;>(first|rfl|simp))|(simp[*];done)),H',⟨by have:=HJ2.out;have:=yT.out;have:=GX.out;omega⟩,⟨ur qY.out⟩,⟨ub jC.out⟩,⟨bb⟩⟩
           ·replace H:=sd H;rcases H with⟨GY,H⟩|⟨GY,H⟩
            ·have H':=ak H;clear H;obtain⟨p17,q17,ad2⟩:=bx kG kZ;obtain⟨p22,q22,ahG⟩:=bx kG (Uy);obtain⟨p26,q26,al2⟩:=bx kG (H6);go_wp2;go_roundg k3
             case measure=>have:=HJ2.out;have:=yT.out;have:=GX.out;omega
             case rel=>exact⟨(kZ),(H6),rs,(by first|rfl|(simp;done)|(simp only[←MK]<;>(first|rfl|simp))|(simp[*];done)),H',⟨by have:=HJ2.out;have:=yT.out;have:=GX.out;omega⟩,⟨ur qY.out⟩,⟨ub jC.out⟩,⟨bb⟩⟩
            ·replace H:=sd H;rcases H with⟨ajG,H⟩|⟨ajG,H⟩
             ·have H':=ak H;clear H;obtain⟨p17,q17,ad2⟩:=bx kG kZ;obtain⟨p22,q22,ahG⟩:=bx kG (Uy);obtain⟨p26,q26,al2⟩:=bx kG (H6);go_wp2;go_roundg k3
              case measure=>have:=HJ2.out;have:=yT.out;have:=GX.out;omega
              case rel=>exact⟨(kZ),(H6),rs,(by first|rfl|(simp;done)|(simp only[←MK]<;>(first|rfl|simp))|(simp[*];done)),H',⟨by have:=HJ2.out;have:=yT.out;have:=GX.out;omega⟩,⟨ur qY.out⟩,⟨ub jC.out⟩,⟨bb⟩⟩
             ·have H':=ak H;clear H;obtain⟨p17,q17,ad2⟩:=bx kG kZ;obtain⟨p22,q22,ahG⟩:=bx kG (Uy);obtain⟨p26,q26,al2⟩:=bx kG (H6);go_wp2;go_roundg k3
              case measure=>have:=HJ2.out;have:=yT.out;have:=GX.out;omega
              case rel=>exact⟨(wV),(H6),rs,(by first|rfl|(simp;done)|(simp only[←MK]<;>(first|rfl|simp))|(simp[*];done)),H',⟨by have:=HJ2.out;have:=yT.out;have:=GX.out;omega⟩,⟨ur qY.out⟩,⟨ub jC.out⟩,⟨bb⟩⟩
         ·have H':=ak H;clear H;obtain⟨p17,q17,ad2⟩:=bx kG kZ;go_wp2;go_roundg k3
          case measure=>have:=HJ2.out;have:=yT.out;have:=GX.out;omega
          case rel=>exact⟨(wV),(wrap64 (kZ+1)),rs,rs,H',⟨by have:=HJ2.out;have:=yT.out;have:=GX.out;omega⟩,⟨ur qY.out⟩,⟨ub jC.out⟩,⟨bb⟩⟩
        ·have t_:=decide_eq_false c14
         (try(have yJ:decide ((kZ+1)<(kG.size:Int))=false:=decide_eq_false (by have h_:=c14;unfold wrap64 at h_;omega)));clear c14;replace H:=sd H;rcases H with⟨adv,H⟩|⟨adv,H⟩
         ·replace H:=nl H;obtain⟨acQ,H⟩:=H;obtain⟨azI,ajH⟩:=nm (mY++[kG]);rw[←ajH.out]at H
          (try rw[Option.bind_some]at H);obtain rfl:=Option.some.inj H;go_wp2_with (first|((with_reducible refine dD (b:= .append) (xs:=#[.tmp 73, .tmp 75]) rfl ?_);at_builtin;refine Kd.iR Kd.string (w0:=w) w.heap.size rfl (.tmp 73) (.tmp 75) 23 9 (.string ⟨#[]⟩) 16 rfl Tryz.underlying23 info9 rfl (by decide) (by omega) u5 mY kG [.string kG] (fun _=>True) (fun _=>False) rfl rfl ?aP (fun _ hk=>hk.elim) ?aF ?aO ?aB ?aS ?aL ?_;(case aP=>exact rfl);(case aB=>exact bb);(case aF=>exact(fun _ _=>trivial));(case aO=>exact(ur qY.out));(case aS=>exact(aA bb));(case aL=>have:=acQ.out;omega);intro v124 w32 ho hb hg hat;rw[←ajH.out]at ho;have iH:=ak (iW (g:=zX) (o:= .cells #[.string aY, .string bf] 69 (0,0)) (ub jC.out) hg (Kd.AP qY.out jC.out (by decide)));have iI:=ak (hb);have lS:=ak (ho);clear jC;clear HB;clear qY;have jC:=iH;have HB:=iI;have apW:=lS;clear iH iI lS;clear ho hb hg hat))
          go_ret;exact⟨_,er,ur apW.out,bb⟩
         ·replace H:=EG H;obtain⟨ade,ajh,H⟩:=H;replace H:=EG H;obtain⟨aji,ajj,H⟩:=H;replace H:=nl H;obtain⟨apX,H⟩:=H;obtain⟨auG,ajI⟩:=nm (mY++[kG.extract 0 (wV:Int).toNat]);rw[←ajI.out]at H
          (try rw[Option.bind_some]at H);have ajJ:=eq_true (of_decide_eq_true (by assumption):0≤wV);have axd:=eq_true (of_decide_eq_true (by assumption):wV≤(kG.size:Int));have H':=ak H;clear H;try go_wp2
          replace qY:=ak (Kd.zO qY.out);replace jC:=ak (ay jC.out);replace HB:=ak (eY HB.out);refine ro [4,5] [0,1,2,3,6,7,8,4,5,9,10,11] (fun w'=>True) trivial ?_
          generalize wr.drew=w38 at qY jC HB⊢
          repeat(refine lk (v:=?_) (a':=?_) (gk.trans rfl) rfl rfl ?_ ?_ ?_;rotate_left;(focus (intro w' _;go_simp;with_reducible rfl));rotate_left;(focus (simp only[Act.put,jI,jJ,l_c,bC,bH];rfl)))
          refine ld (N:=some 68) (gk.trans rfl) rfl rfl (fun K hK=>?_);refine TV (w1:=?_) (v:=?_) (by rfl) rfl ?_ ?_
          rotate_left 2
          ·go_simp;constructor
           ·rfl
           ·rfl
          refine hK.out _ _ trivial ?_;clear hK K;refine no (a':=?_) ?_ ?_
          rotate_left
          ·show Act.put _ (some 68) _=_
           simp only[Act.put,jI,jJ,l_c,bC,bH];rfl
          refine ld (N:=some 69) (gk.trans rfl) rfl rfl (fun K hK=>?_);refine Kd.xG Kd.string (w0:=w) w.heap.size (by rfl) (.tmp 64) (.tmp 68) 23 9 (.string ⟨#[]⟩) 16 rfl Tryz.underlying23 info9 rfl (by decide) (by omega) u5 mY (kG.extract 0 (wV:Int).toNat) [.string (kG.extract 0 (wV:Int).toNat)] (fun _=>True) (fun _=>False) rfl rfl ?aP (fun _ hk=>hk.elim) ?aF ?aO ?aB ?aS ?aL ?_
          (case aP=>exact rfl)
          (case aB=>exact bb)
          (case aF=>exact(fun _ _=>trivial))
          (case aO=>exact(ur qY.out))
          (case aS=>exact(aA bb))
          (case aL=>have:=apX.out;omega);intro v127 w39 ho hb hg hat
          rw[←ajI.out]at ho;have iH:=ak (iW (g:=zX) (o:= .cells #[.string aY, .string bf] 69 (0,0)) (ub jC.out) hg (Kd.AP qY.out jC.out (by decide)));have iI:=ak (hb);have lS:=ak (ho);clear jC HB qY;have jC:=iH;have HB:=iI;have apY:=lS;clear iH iI lS ho hb hg hat
          refine hK.out _ _ trivial ?_;clear hK K;refine no (a':=?_) ?_ ?_
          rotate_left
          ·show Act.put _ (some 69) _=_
           simp only[Act.put,jI,jJ,l_c,bC,bH];rfl
          repeat(refine lk (v:=?_) (a':=?_) (gk.trans rfl) rfl rfl ?_ ?_ ?_;rotate_left;(focus (intro w' _;go_simp;with_reducible rfl));rotate_left;(focus (simp only[Act.put,jI,jJ,l_c,bC,bH];rfl)))
          refine on ?_;try go_wp2
          go_roundg k3
          case measure=>have:=HJ2.out;have:=yT.out;have:=GX.out;omega
          case rel=>exact⟨(kG.extract (wV:Int).toNat kG.size),(2),(auG),rs,rs,H',⟨by have:=HJ2.out;have:=yT.out;have:=GX.out;omega⟩,⟨ur apY.out⟩,⟨ub jC.out⟩,⟨bb⟩⟩
     ·have uO:decide (40<(kG.size:Int))=false:=decide_eq_false c13;have yI:decide (40<kG.size)=false:=decide_eq_false (by omega);clear c13;replace H:=nl H;obtain⟨adh,H⟩:=H;obtain⟨azJ,ajK⟩:=nm (mY++[kG]);rw[←ajK.out]at H
      (try rw[Option.bind_some]at H);obtain rfl:=Option.some.inj H;go_wp2_with (first|((with_reducible refine dD (b:= .append) (xs:=#[.tmp 73, .tmp 75]) rfl ?_);at_builtin;refine Kd.iR Kd.string (w0:=w) w.heap.size rfl (.tmp 73) (.tmp 75) 23 9 (.string ⟨#[]⟩) 16 rfl Tryz.underlying23 info9 rfl (by decide) (by omega) u5 mY kG [.string kG] (fun _=>True) (fun _=>False) rfl rfl ?aP (fun _ hk=>hk.elim) ?aF ?aO ?aB ?aS ?aL ?_;(case aP=>exact rfl);(case aB=>exact bb);(case aF=>exact(fun _ _=>trivial));(case aO=>exact(ur qY.out));(case aS=>exact(aA bb));(case aL=>have:=adh.out;omega);intro azK w41 ho hb hg hat;rw[←ajK.out]at ho;have iH:=ak (iW (g:=zX) (o:= .cells #[.string aY, .string bf] 69 (0,0)) (ub jC.out) hg (Kd.AP qY.out jC.out (by decide)));have iI:=ak (hb);have lS:=ak (ho);clear jC;clear HB;clear qY;have jC:=iH;have HB:=iI;have apZ:=lS;clear iH iI lS;clear ho hb hg hat))
      go_ret;exact⟨_,er,ur apZ.out,bb⟩
def gU.l0:Nat→List ByteArray→List (jl)→Int→Int→Option (List ByteArray×Bool)
 |0,_,_,_,_=>none
 |k+1,x4,x11,x12,VX=>if VX<x12 then(if 0≤VX then(if VX<(x11.length:Int)then((aQ.f k ((aH x11 VX).f0) ((aH x11 VX).f1)).bind fun X7=>(if x4.length+X7.length<8796093022208 then(gU.l0 k (x4++X7) x11 x12 (wrap64 (VX+1)))else(none)))else(none))else(none))else(some (x4,true))
def gU.f(k:Nat)(l0:List (jl)):Option (List ByteArray×Bool):=(lG.f k l0).bind fun ahH=>(if ahH=true then(gU.l0 k (([]:List ByteArray)) l0 (l0.length:Int) 0)else(some (([]:List ByteArray),false)))
set_option maxHeartbeats 8000000 in
set_option maxRecDepth 100000 in
theorem gU.calls(k:Nat)(A0:Option Addr)(c0:Nat)(l0:List (jl))(r1:List ByteArray)(r2:Bool)(w:World)(hr0:Kd.C pV w A0 l0.length l0)(hc0:l0.length≤c0)(h:gU.f k l0=some (r1,r2)):
  Calls Tryz.prog 39 #[.slice A0 l0.length c0] w fun e w'=>∃wH:Value,e= .returned (.tuple #[wH, .bool r2])∧Kd.R Kd.string 9 w' w.heap.size (fun _=>True) wH r1∧Below w.heap.size w w':=by
 have Dq:=Tryz.underlying69;have HR0:=ak hr0;have wJ:=ak hc0;clear hr0 hc0;have HB:=ak (Below.refl w.heap.size w);have H:((lG.f k l0).bind fun ahH=>(if ahH=true then(gU.l0 k (([]:List ByteArray)) l0 (l0.length:Int) 0)else(some (([]:List ByteArray),false))))=some (r1,r2):=h;clear h;replace H:=bd H;obtain⟨ahH,A2,H⟩:=H;replace H:=sb H;rcases H with⟨rfl,H⟩|⟨rfl,H⟩
 ·obtain⟨auH,ad3⟩:=nm ([]:List ByteArray);rw[←ad3.out]at H
  (try rw[Option.bind_some]at H);have H':=ak H;clear H;go_enter Tryz.func39,Tryz.ntmps39;go_wp2_with (first|(refine gL 82 8 Tryz.func82 #[.slice A0 l0.length c0] ?_;(with_reducible refine(lG.calls k _ _ l0 true _ (cu HR0.out) wJ.out A2.out).mono ?_);rintro e w4 ⟨rfl,hb⟩;refine⟨_,rfl,?_⟩;replace HB:=bs HB hb;(try clear hb))|((with_reducible refine bU (N:=10) rfl ?_);refine Kd.qg Kd.string _ 9 ?hg (N:=10) ?hd (xs:=([]:List ByteArray)) (inner:=[]) (ok:=fun _=>True) (pz:=fun _=>True) ?hr ?hp (fun _ hk=>hk) trivial (Below.refl _ _) (Nat.le_refl _) (by simp) ?_;(case hd=>rfl);(case hg=>rfl);(case hr=>first|(go_simp;done)|(go_simp;rfl));(case hp=>exact(iF.none _ _));intro v131 w5 ho6 hb rQ jw;clear rQ jw;(first|rw[←ad3.out]at ho6|(simp only[Int.reduceToNat]at ho6;rw[←ad3.out]at ho6));have ap0:=ak (Kd.fA ho6 (aA (ul HB.out)));replace HB:=bs HB hb;clear hb ho6))
  go_loopg [4,13] k (fun kq v4 v13 w'=>∃(eG:List ByteArray) (rF:Int),v13= .int .i64 rF∧ah (gU.l0 kq eG l0 (l0.length:Int) rF=some (r1,r2))∧ah (kq≤k)∧ah (Kd.R Kd.string 9 w' w.heap.size (fun _=>True) v4 eG)∧ah (Below w.heap.size w w'))
  case atStart=>exact⟨(auH),(0),rs,H',⟨Nat.le_refl _⟩,⟨ur ap0.out⟩,⟨ul HB.out⟩⟩
  case round=>
   clear H';try clear p2
   try clear c3
   obtain⟨eG,rF,rfl,HA,iC,lu,HB⟩:=hrel
   cases gk with
   |zero=>exact absurd HA.out (by simp[gU.l0])
   |succ k1=>
    have H:=HA.out;clear HA;simp only[gU.l0]at H;replace H:=sd H;rcases H with⟨oJ,H⟩|⟨oJ,H⟩
    ·replace H:=og H;obtain⟨uV,H⟩:=H;replace H:=og H;obtain⟨wQ,H⟩:=H;replace H:=bd H;obtain⟨X7,A10,H⟩:=H;replace H:=nl H;obtain⟨adF,H⟩:=H;obtain⟨auI,ajL⟩:=nm (eG++X7);rw[←ajL.out]at H
     (try rw[Option.bind_some]at H);have H':=ak H;clear H;have al3:=zi rF;have al4:=zj rF l0.length;obtain⟨axe,auJ,aas,aat⟩:=nC HR0.out rF al3 al4;cases auJ;replace aas:=cl HB.out aas;replace aat:=cl HB.out aat
     replace al3:=eq_true al3;replace al4:=eq_true al4;go_wp2_with (first|(refine bE 6 #[.string (⟨#[]⟩:ByteArray), .string (⟨#[]⟩:ByteArray)] 69 ?_;intro Ru hg w12 hbox hb;have JC:=ak (hbox);have axf:=jY HB hg;have axg:=jY HB hg;replace lu:=rb lu hb;replace HB:=bs HB hb;clear hb hbox hg;obtain⟨qH,qJ,qK,qL⟩:=wO JC.out)|(refine gL 83 19 Tryz.func83 #[.agg #[.string ((aH l0 rF).f0), .string ((aH l0 rF).f1)]] ?_;(with_reducible refine(aQ.calls k1 ((aH l0 rF).f0) ((aH l0 rF).f1) X7 _ A10.out).mono ?_);rintro e Q9 ⟨azL,rfl,ho0,hb⟩;refine⟨_,rfl,?_⟩;have Rw:=ak (Kd.fA (Kd.rE ho0 (Kd.yB (ur (Kd.dM (Kd.gZ (p:=⟨Ru,1,none⟩) (Kd.gZ (p:=⟨Ru,0,none⟩) (Kd.jr lu.out JC.out (by decide)) (fun _ hk=>hk.2) (.string ((aH l0 rF).f0))) (fun _ hk=>hk.2) (.string ((aH l0 rF).f1))) (fun _ h_=>h_.1))))) (aA bb));replace lu:=ak (Kd.oN (ur (Kd.dM (Kd.gZ (p:=⟨Ru,1,none⟩) (Kd.gZ (p:=⟨Ru,0,none⟩) (Kd.jr lu.out JC.out (by decide)) (fun _ hk=>hk.2) (.string ((aH l0 rF).f0))) (fun _ hk=>hk.2) (.string ((aH l0 rF).f1))) (fun _ h_=>h_.1))) (Kd.oO ho0) hb);replace JC:=ak (iD (g:=Ru) (o:= .cells #[.string ((aH l0 rF).f0), .string ((aH l0 rF).f1)] 69 (0,0)) (by(with_reducible repeat(first|refine au ?_ _|refine ay ?_|refine aj ?_ _));refine bK (cs:=#[.string ((aH l0 rF).f0), .string (⟨#[]⟩:ByteArray)]) ?_ 1 _ rfl;(with_reducible repeat(first|refine au ?_ _|refine ay ?_|refine aj ?_ _));refine bK (cs:=#[.string (⟨#[]⟩:ByteArray), .string (⟨#[]⟩:ByteArray)]) ?_ 0 _ rfl;(with_reducible repeat(first|refine au ?_ _|refine ay ?_|refine aj ?_ _));exact JC.out) hb);replace HB:=ak (aG bb hb);(try clear hb);(try clear ho0);obtain⟨anW,anX,akP⟩:=Kd.eU Rw.out;subst akP)|((with_reducible refine dD (b:= .append) (xs:=#[.tmp 17, .tmp 19]) rfl ?_);at_builtin;refine Kd.ru Kd.string (w0:=w) w.heap.size rfl (.tmp 17) (.tmp 19) 23 9 (.string ⟨#[]⟩) 16 rfl Tryz.underlying23 info9 rfl (by decide) (by omega) u4 eG X7 _ _ _ (fun k_=>some k_≠(.slice anW X7.length anX:Value).ownBlock) (fun _=>False) rfl rfl ?aO ?aR (fun _ _ h=>h) (fun _ h=>h.elim) ?aF ?aB ?aS ?aL ?_;(case aR=>repeat(first|exact(Kd.dK Rw.out).2.2|(with_reducible refine Kd.iP ?_ _)|(with_reducible refine Kd.iQ ?_ _)|(with_reducible refine Kd.jK ?_)));(case aB=>exact bb);(case aF=>exact(fun k_ hk=>Kd.fresh' (Kd.yB (ur Rw.out)) k_ hk));(case aO=>exact(ur (Kd.dM lu.out (fun _ hk=>hk.2))));(case aS=>exact(aA bb));(case aL=>have:=adF.out;omega);intro v139 w15 ho hb hg hat;rw[←ajL.out]at ho;have iH:=ak (iW (g:=Ru) (o:= .cells #[.string ((aH l0 rF).f0), .string ((aH l0 rF).f1)] 69 (0,0)) (ub JC.out) hg (Kd.AP lu.out JC.out (by decide)));have iI:=ak (Kd.I7 (ok:=(fun _=>True)) (ur Rw.out) hg hat);have lS:=ak (hb);have OO:=ak (ho);clear JC;clear Rw;clear HB;clear lu;have JC:=iH;have Rw:=iI;have HB:=lS;have ap1:=OO;clear iH iI lS OO;clear ho hb hg hat))
     go_roundg k1
     case measure=>have:=iC.out;omega
     case rel=>exact⟨(auI),(wrap64 (rF+1)),rs,H',⟨by have:=iC.out;omega⟩,⟨ur (Kd.dM ap1.out (fun _ hk=>trivial))⟩,⟨bb⟩⟩
    ·simp only[Option.some.injEq,Prod.mk.injEq]at H;obtain⟨rfl,rfl⟩:=H;go_wp2;go_ret2;exact⟨_,er,ur lu.out,ul HB.out⟩
 ·simp only[Option.some.injEq,Prod.mk.injEq]at H;obtain⟨rfl,rfl⟩:=H;go_enter Tryz.func39,Tryz.ntmps39;go_wp2_with (first|(refine gL 82 8 Tryz.func82 #[.slice A0 l0.length c0] ?_;(with_reducible refine(lG.calls k _ _ l0 false _ (cu HR0.out) wJ.out A2.out).mono ?_);rintro e w17 ⟨rfl,hb⟩;refine⟨_,rfl,?_⟩;replace HB:=bs HB hb;(try clear hb)))
  go_ret2;exact⟨_,er,nx,ul HB.out⟩
def fK.f(a0:ByteArray):Option (ByteArray):=if a0.size≤140737488355328 then some (strOfNums ((bytesOf a0).map Qy))else none
set_option maxHeartbeats 1000000 in
set_option maxRecDepth 100000 in
theorem fK.calls(a0:ByteArray)(r:ByteArray)(w:World)(h:fK.f a0=some r):
  Calls Tryz.prog 93 #[.string a0] w fun e w'=>e= .returned (.string r)∧Below w.heap.size w w':=by
 unfold fK.f at h;split at h
 ·rename_i hb
  injection h with h;subst h;have kb:=fun W=>MJ (P:=Tryz.prog) 9 22 5 Tryz.underlying9 Tryz.underlying22 Tryz.underlying5 a0 W
  go_enter Tryz.func93,Tryz.ntmps93;go_wp2;go_loopw [10] (fun i W=>∃k:Nat,k≤a0.size∧i= .int .i64 k∧Ll w w.heap.size (EI (bytesOf a0) k) W) (fun i _=>a0.size-(intOf i).toNat)
  case atStart=>exact⟨0,Nat.zero_le _,rfl,by simpa [EI] using Jb w 5 a0⟩
  case round=>
   obtain⟨k,hk,rfl,hR⟩:=hrel;have HR:=ak hR;by_cases hlt:k<a0.size
   ·have hc:=hR.cell k (by rw[kP,bytesOf_length];exact hlt);have hf:=hR.free k (by rw[kP,bytesOf_length];exact hlt);rw[TD _ _ (by rw[bytesOf_length];exact hlt)]at hc;clear hR;have hr:=GZ a0 k;have hs:=ak (Rl (bytesOf a0) k (by rw[bytesOf_length];exact hlt));have hu:=ak (Lm (bytesOf a0) k (by rw[bytesOf_length];exact hlt))
    generalize (bytesOf a0).getD k 0=c at hc hr hs hu
    go_wp2
    ·go_roundw
     case rel=>exact⟨k+1,by omega,by go_num,by
      rw[hu.out,Qy,if_pos ⟨by omega,by omega⟩];exact HR.out.store (Nat.le_refl _) k (by rw[kP,bytesOf_length];exact hlt) _⟩
     case measure=>simp[intOf];omega
    ·go_roundw
     case rel=>exact⟨k+1,by omega,by go_num,by rw[hs.out (by omega)];exact HR.out⟩
     case measure=>simp[intOf];omega
    ·go_roundw
     case rel=>exact⟨k+1,by omega,by go_num,by rw[hs.out (by omega)];exact HR.out⟩
     case measure=>simp[intOf];omega
   ·clear hR
    have kd:=run_convert_bytes_arg (P:=Tryz.prog) wr 22 5 Tryz.underlying22 Tryz.underlying5 w.heap.size 0 a0.size (grownCap w a0.size 0 5) (EI (bytesOf a0) k) (by rw[kP,bytesOf_length]) (fun i hi=>by
     rw[Nat.zero_add];exact HR.out.cell i (by rw[kP,bytesOf_length];exact hi)) 9 Tryz.underlying9
    go_wp2;go_ret;have hk2:k=a0.size:=by omega
    exact⟨by rw[hk2,VE (bytesOf a0) a0.size (bytesOf_length a0)];rfl,HR.out.below⟩
 ·cases h
def pO.f(a0:ByteArray)(a1:ByteArray):Option (Bool):=(fK.f a0).bind fun t141=>((fK.f a1).bind fun ad4=>(some (t141.toList==ad4.toList)))
set_option maxHeartbeats 8000000 in
set_option maxRecDepth 100000 in
theorem pO.calls(a0:ByteArray)(a1:ByteArray)(r:Bool)(w:World)(h:pO.f a0 a1=some r):
  Calls Tryz.prog 124 #[.string a0, .string a1] w fun e w'=>e= .returned (.bool r)∧Below w.heap.size w w':=by
 have HB:=ak (Below.refl w.heap.size w);have H:((fK.f a0).bind fun t141=>((fK.f a1).bind fun ad4=>(some (t141.toList==ad4.toList))))=some r:=h;clear h;replace H:=bd H;obtain⟨t141,A3,H⟩:=H;replace H:=bd H;obtain⟨ad4,A4,H⟩:=H;obtain rfl:=Option.some.inj H;go_enter Tryz.func124,Tryz.ntmps124;go_wp2_with (first|(refine gL 93 6 Tryz.func93 #[.string a0] ?_;(with_reducible refine(fK.calls a0 t141 _ A3.out).mono ?_);rintro e w5 ⟨rfl,hb⟩;refine⟨_,rfl,?_⟩;replace HB:=bs HB hb;(try clear hb))|(refine gL 93 8 Tryz.func93 #[.string a1] ?_;(with_reducible refine(fK.calls a1 ad4 _ A4.out).mono ?_);rintro e w6 ⟨rfl,hb⟩;refine⟨_,rfl,?_⟩;replace HB:=bs HB hb;(try clear hb)))
 go_ret;exact⟨er,ul HB.out⟩
end Go.Proofs.YtncdadcmghglkaaGreatDoor.PFnExactFormatPart
