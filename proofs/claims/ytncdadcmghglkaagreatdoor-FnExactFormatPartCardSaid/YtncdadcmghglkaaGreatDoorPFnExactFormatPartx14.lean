/- Printed walks; conditions: those in each statement. -/
import Derived.Test.YtncdadcmghglkaaGreatDoorVFnExactFormatPartQt
import Derived.Test.YtncdadcmghglkaaGreatDoorVFnExactFormatPartYt
import Derived.Test.YtncdadcmghglkaaGreatDoorPFnExactFormatPartx0
import Derived.Test.YtncdadcmghglkaaGreatDoorPFnExactFormatPartx11
import Derived.Test.YtncdadcmghglkaaGreatDoorPFnExactFormatPartx12
namespace Go.Proofs.YtncdadcmghglkaaGreatDoor.PFnExactFormatPart
open Go.RowKit Go.Proofs.YtncdadcmghglkaaGreatDoor.X Go.Proofs.YtncdadcmghglkaaGreatDoorW.dB Go.Proofs.YtncdadcmghglkaaGreatDoorW.iy Go.Proofs.YtncdadcmghglkaaGreatDoorW.jo
attribute [local go_sem] lU lV oh oq kJ kK lW lX   -- for this text's walks alone
set_option linter.unusedVariables false
set_option linter.unusedSimpArgs false
mutual
def eu.l0:Nat→ByteArray→List ByteArray→Int→Option (List ByteArray×Bool)
 |0,_,_,_=>none
 |k+1,x0,x4,x5=>if x5<(x0.size:Int)then(if 0≤x5 then(if(bt x0 x5)=32 then(eu.l0 k x0 x4 (wrap64 (x5+1)))else(if(bt x0 x5)=34 then((fH.f k x0 x5).bind fun Je=>(if Je.2<0 then(some ((([]:List ByteArray)),false))else(if Je.2=x5 then(some ((([]:List ByteArray)),false))else(if Je.2<(x0.size:Int)then(if 0≤Je.2 then(if(bt x0 Je.2)=32 then(if x4.length<8796093022208 then(eu.l0 k x0 (x4++[Je.1]) Je.2)else(none))else(some ((([]:List ByteArray)),false)))else(none))else(if x4.length<8796093022208 then(eu.l0 k x0 (x4++[Je.1]) Je.2)else(none))))))else(eu.l1 k x0 x4 x5 x5)))else(none))else(some (x4,true))
def eu.l1:Nat→ByteArray→List ByteArray→Int→Int→Option (List ByteArray×Bool)
 |0,_,_,_,_=>none
 |k+1,x0,x4,x5,x6=>if x5<(x0.size:Int)then(if 0≤x5 then((iK.f k (bt x0 x5)).bind fun aou=>(if aou=true then(eu.l1 k x0 x4 (wrap64 (x5+1)) x6)else(if 0≤x6 then(if x6≤x5 then(if x5≤(x0.size:Int)then(if x5=x6 then(some ((([]:List ByteArray)),false))else(if(bt x0 x5)=32 then(if x4.length<8796093022208 then(eu.l0 k x0 (x4++[x0.extract (x6:Int).toNat (x5:Int).toNat]) x5)else(none))else(some ((([]:List ByteArray)),false))))else(none))else(none))else(none))))else(none))else(if 0≤x6 then(if x6≤x5 then(if x5≤(x0.size:Int)then(if x5=x6 then(some ((([]:List ByteArray)),false))else(if x4.length<8796093022208 then(eu.l0 k x0 (x4++[x0.extract (x6:Int).toNat (x5:Int).toNat]) x5)else(none)))else(none))else(none))else(none))
end
def eu.f(k:Nat)(a0:ByteArray):Option (List ByteArray×Bool):=eu.l0 k a0 (([]:List ByteArray)) 0
set_option maxHeartbeats 8000000 in
set_option maxRecDepth 100000 in
theorem eu.calls(k:Nat)(a0:ByteArray)(r1:List ByteArray)(r2:Bool)(w:World)(h:eu.f k a0=some (r1,r2)):
  Calls Tryz.prog 181 #[.string a0] w fun e w'=>∃wH:Value,e= .returned (.tuple #[wH, .bool r2])∧Kd.R Kd.string 9 w' w.heap.size (fun _=>True) wH r1∧Below w.heap.size w w':=by
 have HB:=ak (Below.refl w.heap.size w);have H:(eu.l0 k a0 (([]:List ByteArray)) 0)=some (r1,r2):=h;clear h;obtain⟨atZ,ac8⟩:=nm ([]:List ByteArray);rw[←ac8.out]at H
 (try rw[Option.bind_some]at H);have H':=ak H;clear H;go_enter Tryz.func181,Tryz.ntmps181;go_wp2_with (first|((with_reducible refine bU (N:=8) rfl ?_);(try(refine aZ (by rfl) ?_;dsimp only));refine Kd.qg Kd.string _ 9 ?hg (N:=8) ?hd (xs:=([]:List ByteArray)) (inner:=[]) (ok:=fun _=>True) (pz:=fun _=>True) ?hr ?hp (fun _ hk=>hk) trivial (Below.refl _ _) (Nat.le_refl _) (by simp) ?_;(case hd=>rfl);(case hg=>rfl);(case hr=>first|(go_simp;done)|(go_simp;rfl));(case hp=>exact(iF.none _ _));intro ayM w2 ho3 hb rQ jw;clear rQ jw;(first|rw[←ac8.out]at ho3|(simp only[Int.reduceToNat]at ho3;rw[←ac8.out]at ho3));have aov:=ak (Kd.fA ho3 (aA (ul HB.out)));replace HB:=bs HB hb;clear hb ho3))
 go_loopg [4,5] k (fun kq v4 v5 w'=>∃(eG:List ByteArray) (aK:Int),v5= .int .i64 aK∧ah (eu.l0 kq a0 eG aK=some (r1,r2))∧ah (kq≤k)∧ah (Kd.R Kd.string 9 w' w.heap.size (fun _=>True) v4 eG)∧ah (Below w.heap.size w w'))
 case atStart=>exact⟨(atZ),(0),rs,H',⟨Nat.le_refl _⟩,⟨ur aov.out⟩,⟨ul HB.out⟩⟩
 case round=>
  clear H';try clear c1
  try clear p2
  obtain⟨eG,aK,rfl,HA,iC,lu,HB⟩:=hrel
  cases gk with
  |zero=>exact absurd HA.out (by simp[eu.l0])
  |succ k1=>
   have H:=HA.out;clear HA;simp only[eu.l0]at H;replace H:=sd H;rcases H with⟨nM,H⟩|⟨nM,H⟩
   ·replace H:=og H;obtain⟨pU,H⟩:=H;replace H:=sq H;rcases H with⟨oJ,EH,H⟩|⟨c7,oJ,EH,H⟩
    ·have H':=ak H;clear H;obtain⟨p6,q6,hx6⟩:=bx a0 aK;go_wp2;go_roundg k1
     case measure=>have:=iC.out;omega
     case rel=>exact⟨(eG),(wrap64 (aK+1)),rs,H',⟨by have:=iC.out;omega⟩,⟨ur lu.out⟩,⟨ul HB.out⟩⟩
    ·replace H:=sq H;rcases H with⟨wQ,Gy,H⟩|⟨c9,wQ,Gy,H⟩
     ·replace H:=bd H;obtain⟨⟨OY,Lp⟩,A10,H⟩:=H
      (try dsimp only at H);replace H:=sd H;rcases H with⟨zU,H⟩|⟨zU,H⟩
      ·obtain⟨ayN,ac9⟩:=nm ([]:List ByteArray);rw[←ac9.out]at H
       (try rw[Option.bind_some]at H);simp only[Option.some.injEq,Prod.mk.injEq]at H;obtain⟨rfl,rfl⟩:=H;obtain⟨p6,q6,hx6⟩:=bx a0 aK;obtain⟨p8,q8,hx8⟩:=bx a0 aK;go_wp2_with (first|(refine gL 198 27 Tryz.func198 #[.string a0, .int .i64 aK] ?_;(with_reducible refine(fH.calls k1 a0 aK OY Lp _ A10.out).mono ?_);rintro e w' ⟨rfl,⟨nd,rfl⟩⟩;refine⟨_,rfl,?_⟩)|((with_reducible refine bU (N:=32) rfl ?_);(try(refine aZ (by rfl) ?_;dsimp only));refine Kd.qg Kd.string _ 9 ?hg (N:=32) ?hd (xs:=([]:List ByteArray)) (inner:=[]) (ok:=fun _=>True) (pz:=fun _=>True) ?hr ?hp (fun _ hk=>hk) trivial (Below.refl _ _) (Nat.le_refl _) (by simp) ?_;(case hd=>rfl);(case hg=>rfl);(case hr=>first|(go_simp;done)|(go_simp;rfl));(case hp=>exact(iF.none _ _));intro ayO w12 Nc hb rQ jw;clear rQ jw;(first|rw[←ac9.out]at Nc|(simp only[Int.reduceToNat]at Nc;rw[←ac9.out]at Nc));have aow:=ak (Kd.fA (Kd.rE Nc (Kd.yB (ur lu.out))) (aA (ul HB.out)));replace lu:=ak (Kd.oN (ur lu.out) (Kd.oO Nc) hb);replace HB:=bs HB hb;clear hb Nc))
       go_ret2;exact⟨_,er,ur (Kd.dM aow.out (fun _ hk=>trivial)),ul HB.out⟩
      ·replace H:=sq H;rcases H with⟨t_,yJ,H⟩|⟨c14,t_,yJ,H⟩
       ·obtain⟨ayP,ac_⟩:=nm ([]:List ByteArray);rw[←ac_.out]at H
        (try rw[Option.bind_some]at H);simp only[Option.some.injEq,Prod.mk.injEq]at H;obtain⟨rfl,rfl⟩:=H;obtain⟨p6,q6,hx6⟩:=bx a0 aK;obtain⟨p8,q8,hx8⟩:=bx a0 aK;go_wp2_with (first|(refine gL 198 27 Tryz.func198 #[.string a0, .int .i64 aK] ?_;(with_reducible refine(fH.calls k1 a0 aK OY Lp _ A10.out).mono ?_);rintro e w' ⟨rfl,⟨nd,rfl⟩⟩;refine⟨_,rfl,?_⟩)|((with_reducible refine bU (N:=64) rfl ?_);(try(refine aZ (by rfl) ?_;dsimp only));refine Kd.qg Kd.string _ 9 ?hg (N:=64) ?hd (xs:=([]:List ByteArray)) (inner:=[]) (ok:=fun _=>True) (pz:=fun _=>True) ?hr ?hp (fun _ hk=>hk) trivial (Below.refl _ _) (Nat.le_refl _) (by simp) ?_;(case hd=>rfl);(case hg=>rfl);(case hr=>first|(go_simp;done)|(go_simp;rfl));(case hp=>exact(iF.none _ _));intro ayQ w15 abz hb rQ jw;clear rQ jw;(first|rw[←ac_.out]at abz|(simp only[Int.reduceToNat]at abz;rw[←ac_.out]at abz));have aox:=ak (Kd.fA (Kd.rE abz (Kd.yB (ur lu.out))) (aA (ul HB.out)));replace lu:=ak (Kd.oN (ur lu.out) (Kd.oO abz) hb);replace HB:=bs HB hb;clear hb abz))
        go_ret2;exact⟨_,er,ur (Kd.dM aox.out (fun _ hk=>trivial)),ul HB.out⟩
       ·replace H:=sd H;rcases H with⟨qE,H⟩|⟨qE,H⟩
        ·replace H:=og H;obtain⟨Bg,H⟩:=H;replace H:=sq H;rcases H with⟨Ro,VF,H⟩|⟨c20,Ro,VF,H⟩
         ·replace H:=nl H;obtain⟨VG,H⟩:=H;obtain⟨at1,aje⟩:=nm (eG++[OY]);rw[←aje.out]at H
          (try rw[Option.bind_some]at H);have H':=ak H;clear H;obtain⟨p6,q6,hx6⟩:=bx a0 aK;obtain⟨p8,q8,hx8⟩:=bx a0 aK;go_wp2_with (first|(refine gL 198 27 Tryz.func198 #[.string a0, .int .i64 aK] ?_;(with_reducible refine(fH.calls k1 a0 aK OY Lp _ A10.out).mono ?_);rintro e w' ⟨rfl,⟨nd,rfl⟩⟩;refine⟨_,rfl,?_⟩;have p19:0≤(Lp:Int):=of_decide_eq_true (by assumption);have q19:Lp<(a0.size:Int):=of_decide_eq_true (by assumption);have aoy:=tY a0 Lp;replace p19:=eq_true p19;replace q19:=eq_true q19)|((with_reducible refine dD (b:= .append) (xs:=#[.tmp 65, .tmp 67]) rfl ?_);(try(refine aZ (by rfl) ?_;dsimp only));at_builtin;refine Kd.iR Kd.string (w0:=w) w.heap.size rfl (.tmp 65) (.tmp 67) 23 9 (.string ⟨#[]⟩) 16 rfl Tryz.underlying23 info9 rfl (by decide) (by omega) u4 eG OY [.string OY] (fun _=>True) (fun _=>False) rfl rfl ?aP (fun _ hk=>hk.elim) ?aF ?aO ?aB ?aS ?aL ?_;(case aP=>exact rfl);(case aB=>exact(ul HB.out));(case aF=>exact(fun _ _=>trivial));(case aO=>exact(ur lu.out));(case aS=>exact(aA (ul HB.out)));(case aL=>have:=VG.out;omega);intro ayR w22 ho hb hg hat;rw[←aje.out]at ho;have iH:=ak (hb);have iI:=ak (ho);clear HB;clear lu;have HB:=iH;have aoz:=iI;clear iH iI;clear ho hb hg hat))
          go_roundg k1
          case measure=>have:=iC.out;omega
          case rel=>exact⟨(at1),(Lp),rs,H',⟨by have:=iC.out;omega⟩,⟨ur aoz.out⟩,⟨ul HB.out⟩⟩
         ·obtain⟨ayS,ada⟩:=nm ([]:List ByteArray);rw[←ada.out]at H
          (try rw[Option.bind_some]at H);simp only[Option.some.injEq,Prod.mk.injEq]at H;obtain⟨rfl,rfl⟩:=H;obtain⟨p6,q6,hx6⟩:=bx a0 aK;obtain⟨p8,q8,hx8⟩:=bx a0 aK;go_wp2_with (first|(refine gL 198 27 Tryz.func198 #[.string a0, .int .i64 aK] ?_;(with_reducible refine(fH.calls k1 a0 aK OY Lp _ A10.out).mono ?_);rintro e w' ⟨rfl,⟨nd,rfl⟩⟩;refine⟨_,rfl,?_⟩;have p19:0≤(Lp:Int):=of_decide_eq_true (by assumption);have q19:Lp<(a0.size:Int):=of_decide_eq_true (by assumption);have aoy:=tY a0 Lp;replace p19:=eq_true p19;replace q19:=eq_true q19)|((with_reducible refine bU (N:=64) rfl ?_);(try(refine aZ (by rfl) ?_;dsimp only));refine Kd.qg Kd.string _ 9 ?hg (N:=64) ?hd (xs:=([]:List ByteArray)) (inner:=[]) (ok:=fun _=>True) (pz:=fun _=>True) ?hr ?hp (fun _ hk=>hk) trivial (Below.refl _ _) (Nat.le_refl _) (by simp) ?_;(case hd=>rfl);(case hg=>rfl);(case hr=>first|(go_simp;done)|(go_simp;rfl));(case hp=>exact(iF.none _ _));intro ayT w23 Nb hb rQ jw;clear rQ jw;(first|rw[←ada.out]at Nb|(simp only[Int.reduceToNat]at Nb;rw[←ada.out]at Nb));have aoA:=ak (Kd.fA (Kd.rE Nb (Kd.yB (ur lu.out))) (aA (ul HB.out)));replace lu:=ak (Kd.oN (ur lu.out) (Kd.oO Nb) hb);replace HB:=bs HB hb;clear hb Nb))
          go_ret2;exact⟨_,er,ur (Kd.dM aoA.out (fun _ hk=>trivial)),ul HB.out⟩
        ·replace H:=nl H;obtain⟨adb,H⟩:=H;obtain⟨at6,ajf⟩:=nm (eG++[OY]);rw[←ajf.out]at H
         (try rw[Option.bind_some]at H);have H':=ak H;clear H;obtain⟨p6,q6,hx6⟩:=bx a0 aK;obtain⟨p8,q8,hx8⟩:=bx a0 aK;go_wp2_with (first|(refine gL 198 27 Tryz.func198 #[.string a0, .int .i64 aK] ?_;(with_reducible refine(fH.calls k1 a0 aK OY Lp _ A10.out).mono ?_);rintro e w' ⟨rfl,⟨nd,rfl⟩⟩;refine⟨_,rfl,?_⟩)|((with_reducible refine dD (b:= .append) (xs:=#[.tmp 65, .tmp 67]) rfl ?_);(try(refine aZ (by rfl) ?_;dsimp only));at_builtin;refine Kd.iR Kd.string (w0:=w) w.heap.size rfl (.tmp 65) (.tmp 67) 23 9 (.string ⟨#[]⟩) 16 rfl Tryz.underlying23 info9 rfl (by decide) (by omega) u4 eG OY [.string OY] (fun _=>True) (fun _=>False) rfl rfl ?aP (fun _ hk=>hk.elim) ?aF ?aO ?aB ?aS ?aL ?_;(case aP=>exact rfl);(case aB=>exact(ul HB.out));(case aF=>exact(fun _ _=>trivial));(case aO=>exact(ur lu.out));(case aS=>exact(aA (ul HB.out)));(case aL=>have:=adb.out;omega);intro ayU w26 ho hb hg hat;rw[←ajf.out]at ho;have iH:=ak (hb);have iI:=ak (ho);clear HB;clear lu;have HB:=iH;have aoB:=iI;clear iH iI;clear ho hb hg hat))
         go_roundg k1
         case measure=>have:=iC.out;omega
         case rel=>exact⟨(at6),(Lp),rs,H',⟨by have:=iC.out;omega⟩,⟨ur aoB.out⟩,⟨ul HB.out⟩⟩
     ·have H':=ak H;clear H;obtain⟨p6,q6,hx6⟩:=bx a0 aK;obtain⟨p8,q8,hx8⟩:=bx a0 aK;go_wp2;go_loopg [5] k1 (fun kq v5 w'=>∃(mY:Int),v5= .int .i64 mY∧ah (eu.l1 kq a0 eG mY aK=some (r1,r2))∧ah (kq≤k1)∧ah (Kd.R Kd.string 9 w' w.heap.size (fun _=>True) u4 eG)∧ah (Below w.heap.size w w'))
      case atStart=>exact⟨(aK),rs,H',⟨Nat.le_refl _⟩,⟨ur lu.out⟩,⟨ul HB.out⟩⟩
      case round=>
       clear H';try clear c1
       try clear p1
       try clear q1
       try clear hx1
       try clear c2
       try clear p2
       try clear c4
       try clear nM
       try clear c5
       try clear pU
       try clear p6
       try clear q6
       try clear hx6
       try clear c7
       try clear oJ
       try clear EH
       try clear p8
       try clear q8
       try clear hx8
       try clear c9
       try clear wQ
       try clear Gy
       try clear c11
       try clear zU
       try clear c14
       try clear t_
       try clear yJ
       try clear c17
       try clear qE
       try clear c18
       try clear Bg
       try clear c19
       try clear p19
       try clear q19
       try clear aoy
       try clear c20
       try clear Ro
       try clear VF
       try clear c21
       try clear c25
       try clear p19
       try clear p2
       try clear p6
       try clear p8
       try clear q19
       try clear q6
       try clear q8
       obtain⟨mY,rfl,HA,yT,lu,HB⟩:=hrel
       cases gk with
       |zero=>exact absurd HA.out (by simp[eu.l1])
       |succ k2=>
        have H:=HA.out;clear HA;simp only[eu.l1]at H;replace H:=sd H;rcases H with⟨IJ,H⟩|⟨IJ,H⟩
        ·replace H:=og H;obtain⟨GY,H⟩:=H;replace H:=bd H;obtain⟨aou,A30,H⟩:=H;replace H:=sb H;rcases H with⟨rfl,H⟩|⟨rfl,H⟩
         ·have H':=ak H;clear H;obtain⟨p29,q29,hx29⟩:=bx a0 mY;go_wp2_with (first|(go_at_call 199;(with_reducible refine(iK.calls k2 (bt a0 mY) true _ A30.out).mono ?_);rintro e w' ⟨rfl,⟨nd,rfl⟩⟩))
          go_roundg k2
          case measure=>have:=iC.out;have:=yT.out;omega
          case rel=>exact⟨(wrap64 (mY+1)),rs,H',⟨by have:=iC.out;have:=yT.out;omega⟩,⟨ur lu.out⟩,⟨ul HB.out⟩⟩
         ·replace H:=EG H;obtain⟨ZA,ajg,H⟩:=H;replace H:=EG H;obtain⟨ade,ajh,H⟩:=H;replace H:=EG H;obtain⟨aji,ajj,H⟩:=H;replace H:=sq H;rcases H with⟨adf,ajk,H⟩|⟨c35,adf,ajk,H⟩
          ·obtain⟨ayV,adg⟩:=nm ([]:List ByteArray);rw[←adg.out]at H
           (try rw[Option.bind_some]at H);simp only[Option.some.injEq,Prod.mk.injEq]at H;obtain⟨rfl,rfl⟩:=H;obtain⟨p29,q29,hx29⟩:=bx a0 mY;go_wp2_with (first|(go_at_call 199;(with_reducible refine(iK.calls k2 (bt a0 mY) false _ A30.out).mono ?_);rintro e w' ⟨rfl,⟨nd,rfl⟩⟩)|((with_reducible refine bU (N:=64) rfl ?_);(try(refine aZ (by rfl) ?_;dsimp only));refine Kd.qg Kd.string _ 9 ?hg (N:=64) ?hd (xs:=([]:List ByteArray)) (inner:=[]) (ok:=fun _=>True) (pz:=fun _=>True) ?hr ?hp (fun _ hk=>hk) trivial (Below.refl _ _) (Nat.le_refl _) (by simp) ?_;(case hd=>rfl);(case hg=>rfl);(case hr=>first|(go_simp;done)|(go_simp;rfl));(case hp=>exact(iF.none _ _));intro ayW w36 abA hb rQ jw;clear rQ jw;(first|rw[←adg.out]at abA|(simp only[Int.reduceToNat]at abA;rw[←adg.out]at abA));have aoC:=ak (Kd.fA (Kd.rE abA (Kd.yB (ur lu.out))) (aA (ul HB.out)));replace lu:=ak (Kd.oN (ur lu.out) (Kd.oO abA) hb);replace HB:=bs HB hb;clear hb abA))
           go_ret2;exact⟨_,er,ur (Kd.dM aoC.out (fun _ hk=>trivial)),ul HB.out⟩
          ·replace H:=sq H;rcases H with⟨aoD,aoE,H⟩|⟨c39,aoD,aoE,H⟩
           ·replace H:=nl H;obtain⟨adh,H⟩:=H;obtain⟨at7,ajl⟩:=nm (eG++[a0.extract (aK:Int).toNat (mY:Int).toNat]);rw[←ajl.out]at H
            (try rw[Option.bind_some]at H);have H':=ak H;clear H;obtain⟨p29,q29,hx29⟩:=bx a0 mY;go_wp2_with (first|(go_at_call 199;(with_reducible refine(iK.calls k2 (bt a0 mY) false _ A30.out).mono ?_);rintro e w' ⟨rfl,⟨nd,rfl⟩⟩;have p38:0≤(mY:Int):=of_decide_eq_true (by assumption);have q38:mY<(a0.size:Int):=of_decide_eq_true (by assumption);have hx38:=tY a0 mY;replace p38:=eq_true p38;replace q38:=eq_true q38)|((with_reducible refine dD (b:= .append) (xs:=#[.tmp 65, .tmp 67]) rfl ?_);(try(refine aZ (by rfl) ?_;dsimp only));at_builtin;refine Kd.iR Kd.string (w0:=w) w.heap.size rfl (.tmp 65) (.tmp 67) 23 9 (.string ⟨#[]⟩) 16 rfl Tryz.underlying23 info9 rfl (by decide) (by omega) u4 eG (a0.extract (aK:Int).toNat (mY:Int).toNat) [.string (a0.extract (aK:Int).toNat (mY:Int).toNat)] (fun _=>True) (fun _=>False) rfl rfl ?aP (fun _ hk=>hk.elim) ?aF ?aO ?aB ?aS ?aL ?_;(case aP=>exact rfl);(case aB=>exact(ul HB.out));(case aF=>exact(fun _ _=>trivial));(case aO=>exact(ur lu.out));(case aS=>exact(aA (ul HB.out)));(case aL=>have:=adh.out;omega);intro ayX w41 ho hb hg hat;rw[←ajl.out]at ho;have iH:=ak (hb);have iI:=ak (ho);clear HB;clear lu;have HB:=iH;have aoF:=iI;clear iH iI;clear ho hb hg hat))
            go_roundg k2
            case measure=>have:=iC.out;have:=yT.out;omega
            case rel=>exact⟨(at7),(mY),rs,H',⟨by have:=iC.out;have:=yT.out;omega⟩,⟨ur aoF.out⟩,⟨ul HB.out⟩⟩
           ·obtain⟨ayY,adi⟩:=nm ([]:List ByteArray);rw[←adi.out]at H
            (try rw[Option.bind_some]at H);simp only[Option.some.injEq,Prod.mk.injEq]at H;obtain⟨rfl,rfl⟩:=H;obtain⟨p29,q29,hx29⟩:=bx a0 mY;go_wp2_with (first|(go_at_call 199;(with_reducible refine(iK.calls k2 (bt a0 mY) false _ A30.out).mono ?_);rintro e w' ⟨rfl,⟨nd,rfl⟩⟩;have p38:0≤(mY:Int):=of_decide_eq_true (by assumption);have q38:mY<(a0.size:Int):=of_decide_eq_true (by assumption);have hx38:=tY a0 mY;replace p38:=eq_true p38;replace q38:=eq_true q38)|((with_reducible refine bU (N:=64) rfl ?_);(try(refine aZ (by rfl) ?_;dsimp only));refine Kd.qg Kd.string _ 9 ?hg (N:=64) ?hd (xs:=([]:List ByteArray)) (inner:=[]) (ok:=fun _=>True) (pz:=fun _=>True) ?hr ?hp (fun _ hk=>hk) trivial (Below.refl _ _) (Nat.le_refl _) (by simp) ?_;(case hd=>rfl);(case hg=>rfl);(case hr=>first|(go_simp;done)|(go_simp;rfl));(case hp=>exact(iF.none _ _));intro ayZ w42 abB hb rQ jw;clear rQ jw;(first|rw[←adi.out]at abB|(simp only[Int.reduceToNat]at abB;rw[←adi.out]at abB));have aoG:=ak (Kd.fA (Kd.rE abB (Kd.yB (ur lu.out))) (aA (ul HB.out)));replace lu:=ak (Kd.oN (ur lu.out) (Kd.oO abB) hb);replace HB:=bs HB hb;clear hb abB))
            go_ret2;exact⟨_,er,ur (Kd.dM aoG.out (fun _ hk=>trivial)),ul HB.out⟩
        ·replace H:=EG H;obtain⟨awq,awr,H⟩:=H;replace H:=EG H;obtain⟨awt,awu,H⟩:=H;replace H:=EG H;obtain⟨awv,aww,H⟩:=H;replace H:=sq H;rcases H with⟨aoH,aoI,H⟩|⟨c47,aoH,aoI,H⟩
         ·obtain⟨ay0,adk⟩:=nm ([]:List ByteArray);rw[←adk.out]at H
          (try rw[Option.bind_some]at H);simp only[Option.some.injEq,Prod.mk.injEq]at H;obtain⟨rfl,rfl⟩:=H;go_wp2_with (first|((with_reducible refine bU (N:=64) rfl ?_);(try(refine aZ (by rfl) ?_;dsimp only));refine Kd.qg Kd.string _ 9 ?hg (N:=64) ?hd (xs:=([]:List ByteArray)) (inner:=[]) (ok:=fun _=>True) (pz:=fun _=>True) ?hr ?hp (fun _ hk=>hk) trivial (Below.refl _ _) (Nat.le_refl _) (by simp) ?_;(case hd=>rfl);(case hg=>rfl);(case hr=>first|(go_simp;done)|(go_simp;rfl));(case hp=>exact(iF.none _ _));intro ay1 w48 abC hb rQ jw;clear rQ jw;(first|rw[←adk.out]at abC|(simp only[Int.reduceToNat]at abC;rw[←adk.out]at abC));have aoJ:=ak (Kd.fA (Kd.rE abC (Kd.yB (ur lu.out))) (aA (ul HB.out)));replace lu:=ak (Kd.oN (ur lu.out) (Kd.oO abC) hb);replace HB:=bs HB hb;clear hb abC))
          go_ret2;exact⟨_,er,ur (Kd.dM aoJ.out (fun _ hk=>trivial)),ul HB.out⟩
         ·replace H:=nl H;obtain⟨aoK,H⟩:=H;obtain⟨aua,ajm⟩:=nm (eG++[a0.extract (aK:Int).toNat (mY:Int).toNat]);rw[←ajm.out]at H
          (try rw[Option.bind_some]at H);have H':=ak H;clear H;go_wp2_with (first|((with_reducible refine dD (b:= .append) (xs:=#[.tmp 65, .tmp 67]) rfl ?_);(try(refine aZ (by rfl) ?_;dsimp only));at_builtin;refine Kd.iR Kd.string (w0:=w) w.heap.size rfl (.tmp 65) (.tmp 67) 23 9 (.string ⟨#[]⟩) 16 rfl Tryz.underlying23 info9 rfl (by decide) (by omega) u4 eG (a0.extract (aK:Int).toNat (mY:Int).toNat) [.string (a0.extract (aK:Int).toNat (mY:Int).toNat)] (fun _=>True) (fun _=>False) rfl rfl ?aP (fun _ hk=>hk.elim) ?aF ?aO ?aB ?aS ?aL ?_;(case aP=>exact rfl);(case aB=>exact(ul HB.out));(case aF=>exact(fun _ _=>trivial));(case aO=>exact(ur lu.out));(case aS=>exact(aA (ul HB.out)));(case aL=>have:=aoK.out;omega);intro ay2 w51 ho hb hg hat;rw[←ajm.out]at ho;have iH:=ak (hb);have iI:=ak (ho);clear HB;clear lu;have HB:=iH;have aoL:=iI;clear iH iI;clear ho hb hg hat))
          go_roundg k2
          case measure=>have:=iC.out;have:=yT.out;omega
          case rel=>exact⟨(aua),(mY),rs,H',⟨by have:=iC.out;have:=yT.out;omega⟩,⟨ur aoL.out⟩,⟨ul HB.out⟩⟩
   ·simp only[Option.some.injEq,Prod.mk.injEq]at H;obtain⟨rfl,rfl⟩:=H;go_wp2;go_ret2;exact⟨_,er,ur lu.out,ul HB.out⟩
def jB.f(k:Nat)(a0:ByteArray):Option (Bool):=(bT.f k a0).bind fun agl=>(if agl=true then((eX.f a0).bind fun adl=>(some (adl.toList==a0.toList)))else(some false))
set_option maxHeartbeats 8000000 in
set_option maxRecDepth 100000 in
theorem jB.calls(k:Nat)(a0:ByteArray)(r:Bool)(w:World)(h:jB.f k a0=some r):
  Calls Tryz.prog 200 #[.string a0] w fun e w'=>e= .returned (.bool r)∧Below w.heap.size w w':=by
 have HB:=ak (Below.refl w.heap.size w);have H:((bT.f k a0).bind fun agl=>(if agl=true then((eX.f a0).bind fun adl=>(some (adl.toList==a0.toList)))else(some false)))=some r:=h;clear h;replace H:=bd H;obtain⟨agl,A2,H⟩:=H;replace H:=sb H;rcases H with⟨rfl,H⟩|⟨rfl,H⟩
 ·replace H:=bd H;obtain⟨adl,A4,H⟩:=H;obtain rfl:=Option.some.inj H;go_enter Tryz.func200,Tryz.ntmps200;go_wp2_with (first|(refine gL 184 4 Tryz.func184 #[.string a0] ?_;(with_reducible refine(bT.calls k a0 true _ A2.out).mono ?_);rintro e w' ⟨rfl,⟨nd,rfl⟩⟩;refine⟨_,rfl,?_⟩)|(go_at_call 180;(with_reducible refine(eX.calls a0 adl _ A4.out).mono ?_);rintro e w5 ⟨rfl,hb⟩;replace HB:=bs HB hb;(try clear hb)))
  go_ret;exact⟨er,ul HB.out⟩
 ·obtain rfl:=Option.some.inj H;go_enter Tryz.func200,Tryz.ntmps200;go_wp2_with (first|(refine gL 184 4 Tryz.func184 #[.string a0] ?_;(with_reducible refine(bT.calls k a0 false _ A2.out).mono ?_);rintro e w' ⟨rfl,⟨nd,rfl⟩⟩;refine⟨_,rfl,?_⟩))
  go_ret;exact⟨er,ul HB.out⟩
def qF.f(k:Nat)(a0:ByteArray):Option (Bool):=(aW.f k a0).bind fun agm=>(if agm=true then(some (decide ((a0.size:Int)≤40)))else(some false))
set_option maxHeartbeats 8000000 in
set_option maxRecDepth 100000 in
theorem qF.calls(k:Nat)(a0:ByteArray)(r:Bool)(w:World)(h:qF.f k a0=some r):
  Calls Tryz.prog 201 #[.string a0] w fun e w'=>e= .returned (.bool r)∧eH w w':=by
 have H:((aW.f k a0).bind fun agm=>(if agm=true then(some (decide ((a0.size:Int)≤40)))else(some false)))=some r:=h;clear h;replace H:=bd H;obtain⟨agm,A2,H⟩:=H;replace H:=sb H;rcases H with⟨rfl,H⟩|⟨rfl,H⟩
 ·obtain rfl:=Option.some.inj H;go_enter Tryz.func201,Tryz.ntmps201;go_wp2_with (first|(refine gL 159 4 Tryz.func159 #[.string a0] ?_;(with_reducible refine(aW.calls k a0 true _ A2.out).mono ?_);rintro e w' ⟨rfl,⟨nd,rfl⟩⟩;refine⟨_,rfl,?_⟩))
  go_ret;exact⟨rs,dn⟩
 ·obtain rfl:=Option.some.inj H;go_enter Tryz.func201,Tryz.ntmps201;go_wp2_with (first|(refine gL 159 4 Tryz.func159 #[.string a0] ?_;(with_reducible refine(aW.calls k a0 false _ A2.out).mono ?_);rintro e w' ⟨rfl,⟨nd,rfl⟩⟩;refine⟨_,rfl,?_⟩))
  go_ret;exact⟨rs,dn⟩
mutual
def dO.l0:Nat→ByteArray→Int→Option (Bool)
 |0,_,_=>none
 |k+1,x0,x3=>if x3<(x0.size:Int)then(dO.j1 k x0 x3 (decide (x3≤40)))else(dO.j1 k x0 x3 false)
def dO.j1:Nat→ByteArray→Int→Bool→Option (Bool)
 |0,_,_,_=>none
 |k+1,x0,x3,x11=>if x11=true then(if 0≤x3 then(if x3<(x0.size:Int)then((iK.f k (bt x0 x3)).bind fun aoM=>(if aoM=true then(dO.l0 k x0 (wrap64 (x3+1)))else(some false)))else(none))else(none))else(if(x0.size:Int)≥1 then(some (decide ((x0.size:Int)≤40)))else(some false))
end
def dO.f(k:Nat)(a0:ByteArray):Option (Bool):=dO.l0 k a0 0
set_option maxHeartbeats 8000000 in
set_option maxRecDepth 100000 in
theorem dO.calls(k:Nat)(a0:ByteArray)(r:Bool)(w:World)(h:dO.f k a0=some r):
  Calls Tryz.prog 214 #[.string a0] w fun e w'=>e= .returned (.bool r)∧eH w w':=by
 have H:(dO.l0 k a0 0)=some r:=h;clear h;have H':=ak H;clear H;go_enter Tryz.func214,Tryz.ntmps214;go_wp2;go_loopg [3] k (fun kq v3 w'=>∃(cO:Int),v3= .int .i64 cO∧ah (dO.l0 kq a0 cO=some r)∧ah (kq≤k)∧eH w w')
 case atStart=>exact⟨(0),rs,H',⟨Nat.le_refl _⟩,dn⟩
 case round=>
  clear H';obtain⟨cO,rfl,HA,iC,⟨m1,rfl⟩⟩:=hrel
  cases gk with
  |zero=>exact absurd HA.out (by simp[dO.l0])
  |succ k1=>
   have H:=HA.out;clear HA;simp only[dO.l0]at H;have HC2:=ak H;clear H;go_upto_region 2 with(fail)
   go_cut [11] (fun v11 wc=>∃(kq:Nat) (sH:Bool),v11= .bool sH∧ah (dO.j1 kq a0 cO sH=some r)∧ah (kq≤k1)∧eH w wc)
   case first=>
    have H:=HC2.out;clear HC2;replace H:=sd H;rcases H with⟨fM,H⟩|⟨fM,H⟩
    ·(first|rw[fM]|(simp only[bC,bH];rw[fM])|skip);have H':=ak H;clear H;go_wp2;go_meet
     case rel=>exact⟨_,(decide (cO≤40)),rs,H',⟨by have:=iC.out;first|omega|exact Nat.le_refl _⟩,dn⟩
    ·(first|rw[fM]|(simp only[bC,bH];rw[fM])|skip);have H':=ak H;clear H;go_wp2;go_meet
     case rel=>exact⟨_,(false),rs,H',⟨by have:=iC.out;first|omega|exact Nat.le_refl _⟩,dn⟩
   case rest=>
    clear HC2;try clear c2
    try clear p2
    try clear c3
    try clear fM
    obtain⟨kq,sH,rfl,HA,AO,⟨mc1,rfl⟩⟩:=hcut
    cases kq with
    |zero=>exact absurd HA.out (by simp[dO.j1])
    |succ Gj=>
     have H:=HA.out;clear HA;simp only[dO.j1]at H;replace H:=sb H;rcases H with⟨rfl,H⟩|⟨rfl,H⟩
     ·replace H:=og H;obtain⟨pU,H⟩:=H;replace H:=og H;obtain⟨mW,H⟩:=H;replace H:=bd H;obtain⟨aoM,A8,H⟩:=H;replace H:=sb H;rcases H with⟨rfl,H⟩|⟨rfl,H⟩
      ·have H':=ak H;clear H;obtain⟨p7,q7,hx7⟩:=bx a0 cO;go_wp2_with (first|(refine gL 199 17 Tryz.func199 #[.int .u8 (bt a0 cO)] ?_;(with_reducible refine(iK.calls Gj (bt a0 cO) true _ A8.out).mono ?_);rintro e w' ⟨rfl,⟨nd,rfl⟩⟩;refine⟨_,rfl,?_⟩))
       go_roundg Gj
       case measure=>have:=iC.out;have:=AO.out;omega
       case rel=>exact⟨(wrap64 (cO+1)),rs,H',⟨by have:=iC.out;have:=AO.out;omega⟩,dn⟩
      ·obtain rfl:=Option.some.inj H;obtain⟨p7,q7,hx7⟩:=bx a0 cO;go_wp2_with (first|(refine gL 199 17 Tryz.func199 #[.int .u8 (bt a0 cO)] ?_;(with_reducible refine(iK.calls Gj (bt a0 cO) false _ A8.out).mono ?_);rintro e w' ⟨rfl,⟨nd,rfl⟩⟩;refine⟨_,rfl,?_⟩))
       go_ret;exact⟨rs,dn⟩
     ·replace H:=sp H;rcases H with⟨c10,H⟩|⟨c10,H⟩
      ·have qj:decide (1≤(a0.size:Int))=true:=decide_eq_true c10;have vI:decide (1≤a0.size)=true:=decide_eq_true (by omega);clear c10;obtain rfl:=Option.some.inj H;go_wp2;go_ret;exact⟨rs,dn⟩
      ·have qj:decide (1≤(a0.size:Int))=false:=decide_eq_false c10;have vI:decide (1≤a0.size)=false:=decide_eq_false (by omega);clear c10;obtain rfl:=Option.some.inj H;go_wp2;go_ret;exact⟨rs,dn⟩
def jd.l0:Nat→ByteArray→ByteArray→Int→Option (ByteArray)
 |0,_,_,_=>none
 |k+1,x0,x3,x4=>if x4<(x0.size:Int)then(if 0≤x4 then(if(bt x0 x4)=34 then((some (([92]:List Int):List Int)).bind fun QA=>(if x3.size+(strOfNums QA).size≤9223372036854775807 then(if x4≤(wrap64 (x4+1))then(if(wrap64 (x4+1))≤(x0.size:Int)then(if(x3++(strOfNums QA)).size+(x0.extract (x4:Int).toNat ((wrap64 (x4+1)):Int).toNat).size≤9223372036854775807 then(jd.l0 k x0 ((x3++(strOfNums QA))++(x0.extract (x4:Int).toNat ((wrap64 (x4+1)):Int).toNat)) (wrap64 (x4+1)))else(none))else(none))else(none))else(none)))else(if(bt x0 x4)=92 then((some (([92]:List Int):List Int)).bind fun QB=>(if x3.size+(strOfNums QB).size≤9223372036854775807 then(if x4≤(wrap64 (x4+1))then(if(wrap64 (x4+1))≤(x0.size:Int)then(if(x3++(strOfNums QB)).size+(x0.extract (x4:Int).toNat ((wrap64 (x4+1)):Int).toNat).size≤9223372036854775807 then(jd.l0 k x0 ((x3++(strOfNums QB))++(x0.extract (x4:Int).toNat ((wrap64 (x4+1)):Int).toNat)) (wrap64 (x4+1)))else(none))else(none))else(none))else(none)))else(if x4≤(wrap64 (x4+1))then(if(wrap64 (x4+1))≤(x0.size:Int)then(if x3.size+(x0.extract (x4:Int).toNat ((wrap64 (x4+1)):Int).toNat).size≤9223372036854775807 then(jd.l0 k x0 (x3++(x0.extract (x4:Int).toNat ((wrap64 (x4+1)):Int).toNat)) (wrap64 (x4+1)))else(none))else(none))else(none))))else(none))else(if x3.size+1≤9223372036854775807 then(some (x3++(⟨#[34]⟩:ByteArray)))else(none))
def jd.f(k:Nat)(a0:ByteArray):Option (ByteArray):=jd.l0 k a0 (⟨#[34]⟩:ByteArray) 0
set_option maxHeartbeats 8000000 in
set_option maxRecDepth 100000 in
theorem jd.calls(k:Nat)(a0:ByteArray)(r:ByteArray)(w:World)(h:jd.f k a0=some r):
  Calls Tryz.prog 215 #[.string a0] w fun e w'=>e= .returned (.string r)∧Below w.heap.size w w':=by
 have HB:=ak (Below.refl w.heap.size w);have H:(jd.l0 k a0 (⟨#[34]⟩:ByteArray) 0)=some r:=h;clear h;have H':=ak H;clear H;go_enter Tryz.func215,Tryz.ntmps215;go_wp2;go_loopg [3,4] k (fun kq v3 v4 w'=>∃(cO:ByteArray) (eG:Int),v3= .string cO∧v4= .int .i64 eG∧ah (jd.l0 kq a0 cO eG=some r)∧ah (kq≤k)∧ah (Below w.heap.size w w'))
 case atStart=>exact⟨((⟨#[34]⟩:ByteArray)),(0),rs,rs,H',⟨Nat.le_refl _⟩,⟨ul HB.out⟩⟩
 case round=>
  clear H';obtain⟨cO,eG,rfl,rfl,HA,iC,HB⟩:=hrel
  cases gk with
  |zero=>exact absurd HA.out (by simp[jd.l0])
  |succ k1=>
   have H:=HA.out;clear HA;simp only[jd.l0]at H;replace H:=sd H;rcases H with⟨sW,H⟩|⟨sW,H⟩
   ·replace H:=og H;obtain⟨fM,H⟩:=H;replace H:=sq H;rcases H with⟨pU,TI,H⟩|⟨c5,pU,TI,H⟩
    ·obtain⟨QA,adn⟩:=nm ([92]:List Int);rw[←adn.out]at H
     (try rw[Option.bind_some]at H);replace H:=nn H;obtain⟨c6,H⟩:=H;have mW:=eq_true c6;have yt:=decide_eq_true c6;try have aub:(9223372036854775807<cO.size+(strOfNums QA).size)=False:=eq_false (Nat.not_lt.2 c6)
     have oJ:=eq_true (of_decide_eq_true (by assumption):0≤eG);replace H:=nn H;obtain⟨c8,H⟩:=H;have uV:=eq_true c8;have Lh:=decide_eq_true c8;replace H:=nn H;obtain⟨c9,H⟩:=H;have wQ:=eq_true c9;have Gy:=decide_eq_true c9;replace H:=nn H;obtain⟨c10,H⟩:=H;have qj:=eq_true c10;have vI:=decide_eq_true c10;try have awx:(9223372036854775807<cO.size+(strOfNums QA).size+((a0.extract (eG:Int).toNat ((wrap64 (eG+1)):Int).toNat).size))=False:=by have h_:=c10;simp only[ByteArray.size_append,ByteArray.size_extract]at h_;refine eq_false ?_;simp only[decide_eq_true_eq]at*;omega
     try have aoN:(9223372036854775807<cO.size+(strOfNums QA).size+((a0.extract (eG:Int).toNat ((wrap64 (eG+1)):Int).toNat).size))=False:=by have h_:=(eq_false (Nat.not_lt.2 c10):(9223372036854775807<(cO++(strOfNums QA)).size+(a0.extract (eG:Int).toNat ((wrap64 (eG+1)):Int).toNat).size)=False);simp only[ByteArray.size_append]at h_;exact h_
     try have ado:(9223372036854775807<(cO++(strOfNums QA)).size+(a0.extract (eG:Int).toNat ((wrap64 (eG+1)):Int).toNat).size)=False:=eq_false (Nat.not_lt.2 c10)
     have H':=ak H;clear H;obtain⟨p4,q4,hx4⟩:=bx a0 eG;go_wp2_with (first|((with_reducible refine bU (N:=22) rfl ?_);refine Kd.qg (Kd.int .u8) _ 5 ?hg (N:=22) ?hd (xs:=([92]:List Int)) (inner:=[.int .u8 92]) (ok:=fun _=>True) (pz:=fun _=>True) ?hr ?hp (fun _ hk=>hk) trivial (Below.refl _ _) (Nat.le_refl _) (by simp) ?_;(case hd=>rfl);(case hg=>rfl);(case hr=>first|(go_simp;done)|(go_simp;rfl));(case hp=>exact(iF.one (show Kd.M (Kd.int .u8) _ _ _ 92 [.int .u8 92]from rfl) (iF.none _ _)));intro ay3 Cm OZ hb rQ jw;clear rQ jw;(first|rw[←adn.out]at OZ|(simp only[Int.reduceToNat]at OZ;rw[←adn.out]at OZ));have aoO:=ak (Kd.fA OZ (aA (ul HB.out)));replace HB:=bs HB hb;clear hb OZ;have awy:=zL (P:=Tryz.prog) Tryz.underlying22 Tryz.underlying5 Tryz.underlying9 (Kd.zM aoO.out)))
     go_roundg k1
     case measure=>have:=iC.out;omega
     case rel=>exact⟨((cO++(strOfNums QA))++(a0.extract (eG:Int).toNat ((wrap64 (eG+1)):Int).toNat)),(wrap64 (eG+1)),rs,rs,H',⟨by have:=iC.out;omega⟩,⟨ul HB.out⟩⟩
    ·replace H:=sq H;rcases H with⟨xW,Rh,H⟩|⟨c15,xW,Rh,H⟩
     ·obtain⟨QB,adp⟩:=nm ([92]:List Int);rw[←adp.out]at H
      (try rw[Option.bind_some]at H);replace H:=nn H;obtain⟨c16,H⟩:=H;have Ja:=eq_true c16;have ac0:=decide_eq_true c16;try have awz:(9223372036854775807<cO.size+(strOfNums QB).size)=False:=eq_false (Nat.not_lt.2 c16)
      have qE:=eq_true (of_decide_eq_true (by assumption):0≤eG);replace H:=nn H;obtain⟨c18,H⟩:=H;have Bg:=eq_true c18;have Vy:=decide_eq_true c18;replace H:=nn H;obtain⟨c19,H⟩:=H;have yH:=eq_true c19;have AY:=decide_eq_true c19;replace H:=nn H;obtain⟨c20,H⟩:=H;have Ro:=eq_true c20;have VF:=decide_eq_true c20;try have awC:(9223372036854775807<cO.size+(strOfNums QB).size+((a0.extract (eG:Int).toNat ((wrap64 (eG+1)):Int).toNat).size))=False:=by have h_:=c20;simp only[ByteArray.size_append,ByteArray.size_extract]at h_;refine eq_false ?_;simp only[decide_eq_true_eq]at*;omega
      try have awD:(9223372036854775807<cO.size+(strOfNums QB).size+((a0.extract (eG:Int).toNat ((wrap64 (eG+1)):Int).toNat).size))=False:=by have h_:=(eq_false (Nat.not_lt.2 c20):(9223372036854775807<(cO++(strOfNums QB)).size+(a0.extract (eG:Int).toNat ((wrap64 (eG+1)):Int).toNat).size)=False);simp only[ByteArray.size_append]at h_;exact h_
      try have awE:(9223372036854775807<(cO++(strOfNums QB)).size+(a0.extract (eG:Int).toNat ((wrap64 (eG+1)):Int).toNat).size)=False:=eq_false (Nat.not_lt.2 c20)
      have H':=ak H;clear H;obtain⟨p4,q4,hx4⟩:=bx a0 eG;obtain⟨p14,q14,aoP⟩:=bx a0 eG;go_wp2_with (first|((with_reducible refine bU (N:=22) rfl ?_);refine Kd.qg (Kd.int .u8) _ 5 ?hg (N:=22) ?hd (xs:=([92]:List Int)) (inner:=[.int .u8 92]) (ok:=fun _=>True) (pz:=fun _=>True) ?hr ?hp (fun _ hk=>hk) trivial (Below.refl _ _) (Nat.le_refl _) (by simp) ?_;(case hd=>rfl);(case hg=>rfl);(case hr=>first|(go_simp;done)|(go_simp;rfl));(case hp=>exact(iF.one (show Kd.M (Kd.int .u8) _ _ _ 92 [.int .u8 92]from rfl) (iF.none _ _)));intro ay4 w21 adq hb rQ jw;clear rQ jw;(first|rw[←adp.out]at adq|(simp only[Int.reduceToNat]at adq;rw[←adp.out]at adq));have aoQ:=ak (Kd.fA adq (aA (ul HB.out)));replace HB:=bs HB hb;clear hb adq;have awF:=zL (P:=Tryz.prog) Tryz.underlying22 Tryz.underlying5 Tryz.underlying9 (Kd.zM aoQ.out)))
      go_roundg k1
      case measure=>have:=iC.out;omega
      case rel=>exact⟨((cO++(strOfNums QB))++(a0.extract (eG:Int).toNat ((wrap64 (eG+1)):Int).toNat)),(wrap64 (eG+1)),rs,rs,H',⟨by have:=iC.out;omega⟩,⟨ul HB.out⟩⟩
     ·have Rj:=eq_true (of_decide_eq_true (by assumption):0≤eG);replace H:=nn H;obtain⟨c25,H⟩:=H;have VB:=eq_true c25;have aoR:=decide_eq_true c25;replace H:=nn H;obtain⟨c26,H⟩:=H;have OM:=eq_true c26;have adr:=decide_eq_true c26;replace H:=nn H;obtain⟨c27,H⟩:=H;have IJ:=eq_true c27;have ads:=decide_eq_true c27;try have awG:(9223372036854775807<cO.size+((a0.extract (eG:Int).toNat ((wrap64 (eG+1)):Int).toNat).size))=False:=by have h_:=c27;simp only[ByteArray.size_append,ByteArray.size_extract]at h_;refine eq_false ?_;simp only[decide_eq_true_eq]at*;omega
      try have awH:(9223372036854775807<cO.size+(a0.extract (eG:Int).toNat ((wrap64 (eG+1)):Int).toNat).size)=False:=eq_false (Nat.not_lt.2 c27)
      have H':=ak H;clear H;obtain⟨p4,q4,hx4⟩:=bx a0 eG;obtain⟨p14,q14,aoP⟩:=bx a0 eG;go_wp2;go_roundg k1
      case measure=>have:=iC.out;omega
      case rel=>exact⟨(cO++(a0.extract (eG:Int).toNat ((wrap64 (eG+1)):Int).toNat)),(wrap64 (eG+1)),rs,rs,H',⟨by have:=iC.out;omega⟩,⟨ul HB.out⟩⟩
   ·replace H:=nn H;obtain⟨c28,H⟩:=H;have GY:=eq_true c28;have ZB:=decide_eq_true c28;try have awI:(9223372036854775807<cO.size+1)=False:=eq_false (Nat.not_lt.2 c28)
    obtain rfl:=Option.some.inj H;go_wp2;go_ret;exact⟨er,ul HB.out⟩
def ql.f(k:Nat)(a0:ByteArray):Option (ByteArray):=(aW.f k a0).bind fun agn=>(if agn=true then((dO.f k a0).bind fun agp=>(if agp=true then(some a0)else((jd.f k a0).bind fun adt=>(some adt))))else(some (⟨#[]⟩:ByteArray)))
set_option maxHeartbeats 8000000 in
set_option maxRecDepth 100000 in
theorem ql.calls(k:Nat)(a0:ByteArray)(r:ByteArray)(w:World)(h:ql.f k a0=some r):
  Calls Tryz.prog 202 #[.string a0] w fun e w'=>e= .returned (.string r)∧Below w.heap.size w w':=by
 have HB:=ak (Below.refl w.heap.size w);have H:((aW.f k a0).bind fun agn=>(if agn=true then((dO.f k a0).bind fun agp=>(if agp=true then(some a0)else((jd.f k a0).bind fun adt=>(some adt))))else(some (⟨#[]⟩:ByteArray))))=some r:=h;clear h;replace H:=bd H;obtain⟨agn,A2,H⟩:=H;replace H:=sb H;rcases H with⟨rfl,H⟩|⟨rfl,H⟩
 ·replace H:=bd H;obtain⟨agp,A4,H⟩:=H;replace H:=sb H;rcases H with⟨rfl,H⟩|⟨rfl,H⟩
  ·obtain rfl:=Option.some.inj H;go_enter Tryz.func202,Tryz.ntmps202;go_wp2_with (first|(refine gL 159 4 Tryz.func159 #[.string a0] ?_;(with_reducible refine(aW.calls k a0 true _ A2.out).mono ?_);rintro e w' ⟨rfl,⟨nd,rfl⟩⟩;refine⟨_,rfl,?_⟩)|(refine gL 214 7 Tryz.func214 #[.string a0] ?_;(with_reducible refine(dO.calls k a0 true _ A4.out).mono ?_);rintro e w' ⟨rfl,⟨nd,rfl⟩⟩;refine⟨_,rfl,?_⟩))
   go_ret;exact⟨er,ul HB.out⟩
  ·replace H:=bd H;obtain⟨adt,A6,H⟩:=H;obtain rfl:=Option.some.inj H;go_enter Tryz.func202,Tryz.ntmps202;go_wp2_with (first|(refine gL 159 4 Tryz.func159 #[.string a0] ?_;(with_reducible refine(aW.calls k a0 true _ A2.out).mono ?_);rintro e w' ⟨rfl,⟨nd,rfl⟩⟩;refine⟨_,rfl,?_⟩)|(refine gL 214 7 Tryz.func214 #[.string a0] ?_;(with_reducible refine(dO.calls k a0 false _ A4.out).mono ?_);rintro e w' ⟨rfl,⟨nd,rfl⟩⟩;refine⟨_,rfl,?_⟩)|(refine gL 215 10 Tryz.func215 #[.string a0] ?_;(with_reducible refine(jd.calls k a0 adt _ A6.out).mono ?_);rintro e w7 ⟨rfl,hb⟩;refine⟨_,rfl,?_⟩;replace HB:=bs HB hb;(try clear hb)))
   go_ret;exact⟨er,ul HB.out⟩
 ·obtain rfl:=Option.some.inj H;go_enter Tryz.func202,Tryz.ntmps202;go_wp2_with (first|(refine gL 159 4 Tryz.func159 #[.string a0] ?_;(with_reducible refine(aW.calls k a0 false _ A2.out).mono ?_);rintro e w' ⟨rfl,⟨nd,rfl⟩⟩;refine⟨_,rfl,?_⟩))
  go_ret;exact⟨er,ul HB.out⟩
end Go.Proofs.YtncdadcmghglkaaGreatDoor.PFnExactFormatPart
