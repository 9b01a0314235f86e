/- Printed walks; conditions: those in each statement. -/
import Derived.Test.YtncdadcmghglkaaGreatDoorVFnParseBodyQt
import Derived.Test.YtncdadcmghglkaaGreatDoorVFnParseBodyYt
import Derived.Test.YtncdadcmghglkaaGreatDoorPFnParseBodyx0
import Derived.Test.YtncdadcmghglkaaGreatDoorPFnParseBodyx11
import Derived.Test.YtncdadcmghglkaaGreatDoorPFnParseBodyx9
namespace Go.Proofs.YtncdadcmghglkaaGreatDoor.PFnParseBody
open Go.Proofs.YtncdadcmghglkaaGreatDoorW.dK.Kd Go.Proofs.YtncdadcmghglkaaGreatDoorW.oJ.Kd Go.Proofs.Tryz Go.RowKit Go.Proofs.YtncdadcmghglkaaGreatDoor.X Go.Proofs.YtncdadcmghglkaaGreatDoorW.dK Go.Proofs.YtncdadcmghglkaaGreatDoorW.lZ Go.Proofs.YtncdadcmghglkaaGreatDoorW.oJ
attribute [local go_sem] wB wC yO yP uI uJ wE wF   -- for this text's walks alone
set_option linter.unusedVariables false
set_option maxHeartbeats 8000000
set_option maxRecDepth 100000
set_option linter.unusedSimpArgs false
mutual
def bM.l0:Nat→ByteArray→ByteArray→Int→Option (ByteArray×Bool)
 |0,_,_,_=>none
 |k+1,x0,x4,x5=>if x5<(x0.size:Int)then(bM.l1 k x0 x4 x5 (wrap64 (x5+1)))else(some (x4,true))
def bM.l1:Nat→ByteArray→ByteArray→Int→Int→Option (ByteArray×Bool)
 |0,_,_,_,_=>none
 |k+1,x0,x4,x5,x6=>if x6<(x0.size:Int)then(if 0≤x5 then(if x5≤(wrap64 (x6+1))then(if(wrap64 (x6+1))≤(x0.size:Int)then((kY.f k (x0.extract (x5:Int).toNat ((wrap64 (x6+1)):Int).toNat)).bind fun amT=>(if(amT.size:Int)≤28 then(bM.l1 k x0 x4 x5 (wrap64 (x6+1)))else(if x5≤x6 then(if x6≤(x0.size:Int)then((jB.f k (x0.extract (x5:Int).toNat (x6:Int).toNat)).bind fun ae5=>(if x5>0 then(if x4.size+1≤9223372036854775807 then(if(x4++(⟨#[32]⟩:ByteArray)).size+ae5.1.size≤9223372036854775807 then(bM.l0 k x0 ((x4++(⟨#[32]⟩:ByteArray))++ae5.1) x6)else(none))else(none))else(if x4.size+ae5.1.size≤9223372036854775807 then(bM.l0 k x0 (x4++ae5.1) x6)else(none))))else(none))else(none))))else(none))else(none))else(none))else(if 0≤x5 then(if x5≤x6 then(if x6≤(x0.size:Int)then((jB.f k (x0.extract (x5:Int).toNat (x6:Int).toNat)).bind fun ae6=>(if x5>0 then(if x4.size+1≤9223372036854775807 then(if(x4++(⟨#[32]⟩:ByteArray)).size+ae6.1.size≤9223372036854775807 then(bM.l0 k x0 ((x4++(⟨#[32]⟩:ByteArray))++ae6.1) x6)else(none))else(none))else(if x4.size+ae6.1.size≤9223372036854775807 then(bM.l0 k x0 (x4++ae6.1) x6)else(none))))else(none))else(none))else(none))
end
def bM.f(k:Nat)(a0:ByteArray):Option (ByteArray×Bool):=if(a0.size:Int)>120 then(some ((⟨#[]⟩:ByteArray),false))else((iR.f k a0).bind fun axv=>(if axv=true then(bM.l0 k a0 (⟨#[]⟩:ByteArray) 0)else(some (a0,true))))
theorem bM.calls{k:Nat}{a0 r1:ByteArray}{r2:Bool}{w:World}(h:bM.f k a0=some (r1,r2)):
  Calls Tryz.prog 194 #[.string a0] w fun e w'=>e= .returned (.tuple #[.string r1, .bool r2])∧Below w.heap.size w w':=by
 have HB:=ak (Below.refl w.heap.size w);unfold bM.f at h;have H:=h;clear h;replace H:=sp H;rcases H with⟨c2,H⟩|⟨c2,H⟩
 ·have rQ:decide (120<(a0.size:Int))=true:=decide_eq_true c2;have y8:decide (120<a0.size)=true:=decide_eq_true (by omega);clear c2;obtain⟨rfl,rfl⟩:=s2 H;go_enter func194,ntmps194;go_wp2;go_ret2;exact⟨er,ul HB.out⟩
 ·have rQ:decide (120<(a0.size:Int))=false:=decide_eq_false c2;have y8:decide (120<a0.size)=false:=decide_eq_false (by omega);clear c2;replace H:=bd H;obtain⟨axv,A3,H⟩:=H;replace H:=sb H;rcases H with⟨rfl,H⟩|⟨rfl,H⟩
  ·have H':=ak H;clear H;go_enter func194,ntmps194;go_wp2_with (refine gA func207 (iR.calls A3.out) ?_;intro nd)
   go_loopg [4,5] k (fun kq v4 v5 w'=>∃(dI:ByteArray) (dV:Int),v4= .string dI∧v5= .int .i64 dV∧ah (bM.l0 kq a0 dI dV=some (r1,r2))∧ah (kq≤k)∧ah (Below w.heap.size w w'))
   case atStart=>exact⟨_,_,rs,rs,H',⟨Nat.le_refl _⟩,⟨ul HB.out⟩⟩
   case round=>
    clear H';try clear c2
    try clear rQ
    try clear y8
    obtain⟨dI,dV,rfl,rfl,HA,yN,HB⟩:=hrel
    cases gk with
    |zero=>exact zz HA.out
    |succ k1=>
     obtain⟨H⟩:=HA;simp only[bM.l0]at H;replace H:=sd H;rcases H with⟨nO,H⟩|⟨nO,H⟩
     ·have H':=ak H;clear H;go_wp2;go_loopg [6] k1 (fun kq v6 w'=>∃(wH:Int),v6= .int .i64 wH∧ah (bM.l1 kq a0 dI dV wH=some (r1,r2))∧ah (kq≤k1)∧ah (Below w.heap.size w w'))
      case atStart=>exact⟨_,rs,H',⟨Nat.le_refl _⟩,⟨ul HB.out⟩⟩
      case round=>
       clear H';try clear c2
       try clear rQ
       try clear y8
       try clear nO
       obtain⟨wH,rfl,HA,HK2,HB⟩:=hrel
       cases gk with
       |zero=>exact zz HA.out
       |succ k2=>
        obtain⟨H⟩:=HA;simp only[bM.l1]at H;replace H:=sd H;rcases H with⟨nP,H⟩|⟨nP,H⟩
        ·replace H:=zh H;obtain⟨sK,Jy,H⟩:=H;replace H:=nn H;obtain⟨c8,H⟩:=H;have ru:=eq_true c8;have BI:=decide_eq_true c8;replace H:=nn H;obtain⟨c9,H⟩:=H;have xG:=eq_true c9;have CG:=decide_eq_true c9;replace H:=bd H;obtain⟨amT,A10,H⟩:=H;replace H:=sp H;rcases H with⟨c11,H⟩|⟨c11,H⟩
         ·have uM:=decide_eq_true c11;have CB:decide (amT.size≤28)=true:=decide_eq_true (by omega);clear c11;have H':=ak H;clear H;go_wp2_with (go_at_call 208;refine mB (kY.calls A10.out) ?_;intro w12 hb;replace HB:=bs HB hb;clear hb)
          go_roundg k2
          case measure=>exact kl
          case rel=>exact⟨_,rs,H',⟨kl⟩,⟨ul HB.out⟩⟩
         ·have uM:=decide_eq_false c11;have CB:decide (amT.size≤28)=false:=decide_eq_false (by omega);clear c11;have xE:=eq_true (of_decide_eq_true (by assumption):0≤dV);replace H:=zh H;obtain⟨uy,xH,H⟩:=H;replace H:=zh H;obtain⟨uz,Cm,H⟩:=H;replace H:=bd H;obtain⟨⟨amU,aNz⟩,A16,H⟩:=H
          (try dsimp only at H);replace H:=sp H;rcases H with⟨c17,H⟩|⟨c17,H⟩
          ·have vY:decide (0<dV)=true:=decide_eq_true c17;clear c17;replace H:=nn H;obtain⟨c18,H⟩:=H;have Dt:=eq_true c18;have Vo:=decide_eq_true c18;try have aoU:(9223372036854775807<dI.size+1)=False:=eq_false (Nat.not_lt.2 c18)
           replace H:=nn H;obtain⟨c19,H⟩:=H;have Du:=eq_true c19;have G8:=decide_eq_true c19;try have axw:(9223372036854775807<dI.size+1+amU.size)=False:=by have h_:=(eq_false (Nat.not_lt.2 c19):(9223372036854775807<(dI++(⟨#[32]⟩:ByteArray)).size+amU.size)=False);simp only[ByteArray.size_append]at h_;exact h_
           try have aiM:(9223372036854775807<(dI++(⟨#[32]⟩:ByteArray)).size+amU.size)=False:=eq_false (Nat.not_lt.2 c19)
           have H':=ak H;clear H;go_wp2_with (first|(go_at_call 208;refine mB (kY.calls A10.out) ?_;intro w20 hb;replace HB:=bs HB hb;clear hb)|(refine gB func209 (jB.calls A16.out) ?_;intro w21 hb;replace HB:=bs HB hb;clear hb))
           go_roundg k2
           case measure=>exact kl
           case rel=>exact⟨_,_,rs,rs,H',⟨kl⟩,⟨ul HB.out⟩⟩
          ·have vY:decide (0<dV)=false:=decide_eq_false c17;clear c17;replace H:=nn H;obtain⟨c22,H⟩:=H;have I5:=eq_true c22;have Vq:=decide_eq_true c22;try have aJL:(9223372036854775807<dI.size+amU.size)=False:=eq_false (Nat.not_lt.2 c22)
           have H':=ak H;clear H;go_wp2_with (first|(go_at_call 208;refine mB (kY.calls A10.out) ?_;intro w23 hb;replace HB:=bs HB hb;clear hb)|(refine gB func209 (jB.calls A16.out) ?_;intro w24 hb;replace HB:=bs HB hb;clear hb))
           go_roundg k2
           case measure=>exact kl
           case rel=>exact⟨_,_,rs,rs,H',⟨kl⟩,⟨ul HB.out⟩⟩
        ·replace H:=zh H;obtain⟨Ej,aaY,H⟩:=H;replace H:=zh H;obtain⟨OC,ae7,H⟩:=H;replace H:=zh H;obtain⟨I7,ae8,H⟩:=H;replace H:=bd H;obtain⟨⟨amV,aNA⟩,A28,H⟩:=H
         (try dsimp only at H);replace H:=sp H;rcases H with⟨c29,H⟩|⟨c29,H⟩
         ·have ae9:decide (0<dV)=true:=decide_eq_true c29;clear c29;replace H:=nn H;obtain⟨c30,H⟩:=H;have ae_:=eq_true c30;have aJM:=decide_eq_true c30;try have aJN:(9223372036854775807<dI.size+1)=False:=eq_false (Nat.not_lt.2 c30)
          replace H:=nn H;obtain⟨c31,H⟩:=H;have afa:=eq_true c31;have aiN:=decide_eq_true c31;try have aJO:(9223372036854775807<dI.size+1+amV.size)=False:=by have h_:=(eq_false (Nat.not_lt.2 c31):(9223372036854775807<(dI++(⟨#[32]⟩:ByteArray)).size+amV.size)=False);simp only[ByteArray.size_append]at h_;exact h_
          try have aJP:(9223372036854775807<(dI++(⟨#[32]⟩:ByteArray)).size+amV.size)=False:=eq_false (Nat.not_lt.2 c31)
          have H':=ak H;clear H;go_wp2_with (refine gB func209 (jB.calls A28.out) ?_;intro w32 hb;replace HB:=bs HB hb;clear hb)
          go_roundg k2
          case measure=>exact kl
          case rel=>exact⟨_,_,rs,rs,H',⟨kl⟩,⟨ul HB.out⟩⟩
         ·have ae9:decide (0<dV)=false:=decide_eq_false c29;clear c29;replace H:=nn H;obtain⟨c33,H⟩:=H;have Yh:=eq_true c33;have aiO:=decide_eq_true c33;try have aJQ:(9223372036854775807<dI.size+amV.size)=False:=eq_false (Nat.not_lt.2 c33)
          have H':=ak H;clear H;go_wp2_with (refine gB func209 (jB.calls A28.out) ?_;intro w34 hb;replace HB:=bs HB hb;clear hb)
          go_roundg k2
          case measure=>exact kl
          case rel=>exact⟨_,_,rs,rs,H',⟨kl⟩,⟨ul HB.out⟩⟩
     ·obtain⟨rfl,rfl⟩:=s2 H;go_wp2;go_ret2;exact⟨er,ul HB.out⟩
  ·obtain⟨rfl,rfl⟩:=s2 H;go_enter func194,ntmps194;go_wp2_with (refine gA func207 (iR.calls A3.out) ?_;intro nd)
   go_ret2;exact⟨er,ul HB.out⟩
def lJ.l0:Nat→ByteArray→Int→List ByteArray→Int→Int→Option (List ByteArray)
 |0,_,_,_,_,_=>none
 |k+1,x0,x1,x5,x6,x7=>if x7<(x0.size:Int)then(if 0≤x7 then(if(bt x0 x7)=x1 then(if 0≤x6 then(if x6≤x7 then(if x7≤(x0.size:Int)then(if x5.length<8796093022208 then(lJ.l0 k x0 x1 (x5++[x0.extract (x6:Int).toNat (x7:Int).toNat]) (wrap64 (x7+1)) (wrap64 (x7+1)))else(none))else(none))else(none))else(none))else(lJ.l0 k x0 x1 x5 x6 (wrap64 (x7+1))))else(none))else(if 0≤x6 then(if x6≤(x0.size:Int)then(if x5.length<8796093022208 then(some (x5++[x0.extract (x6:Int).toNat x0.size]))else(none))else(none))else(none))
def lJ.f(k:Nat)(a0:ByteArray)(a1:Int):Option (List ByteArray):=lJ.l0 k a0 a1 (([]:List ByteArray)) 0 0
theorem lJ.calls{k:Nat}{a0:ByteArray}{a1:Int}{r:List ByteArray}{w:World}(h:lJ.f k a0 a1=some r):
  Calls Tryz.prog 217 #[.string a0, .int .u8 a1] w fun e w'=>∃pW:Value,e= .returned (pW)∧Kd.R Kd.string 9 w' w.heap.size (fun _=>True) pW r∧Below w.heap.size w w':=by
 have HB:=ak (Below.refl w.heap.size w);unfold lJ.f at h;have H:=h;clear h;obtain⟨aNB,aoV⟩:=nm ([]:List ByteArray);rw[←aoV.out]at H;have H':=ak H;clear H;go_enter func217,ntmps217;go_wp2_with (refine DR 8 Kd.string 9 aoV ?_;intro aNC w3 SL hb;have axx:=ak (aC SL (au (ul HB.out)));replace HB:=bs HB hb;clear hb SL)
 go_loopg [5,6,7] k (fun kq v5 v6 v7 w'=>∃(dV:List ByteArray) (gZ:Int) (qE:Int),v6= .int .i64 gZ∧v7= .int .i64 qE∧ah (lJ.l0 kq a0 a1 dV gZ qE=some r)∧ah (kq≤k)∧ah (Kd.R Kd.string 9 w' w.heap.size (fun _=>True) v5 dV)∧ah (Below w.heap.size w w'))
 case atStart=>exact⟨_,_,_,rs,rs,H',⟨Nat.le_refl _⟩,⟨ur axx.out⟩,⟨ul HB.out⟩⟩
 case round=>
  clear H';obtain⟨dV,gZ,qE,rfl,rfl,HA,yN,ug,HB⟩:=hrel
  cases gk with
  |zero=>exact zz HA.out
  |succ k1=>
   obtain⟨H⟩:=HA;simp only[lJ.l0]at H;replace H:=sd H;rcases H with⟨nO,H⟩|⟨nO,H⟩
   ·replace H:=nY H;obtain⟨nP,H⟩:=H;replace H:=sq H;rcases H with⟨ru,BI,H⟩|⟨c8,ru,BI,H⟩
    ·replace H:=zh H;obtain⟨xG,CG,H⟩:=H;replace H:=zh H;obtain⟨qj,uN,H⟩:=H;replace H:=zh H;obtain⟨uM,CB,H⟩:=H;replace H:=nl H;obtain⟨VB,H⟩:=H;obtain⟨aND,aoW⟩:=nm (dV++[a0.extract (gZ:Int).toNat (qE:Int).toNat]);rw[←aoW.out]at H;have H':=ak H;clear H;obtain⟨p7,q7,hx7⟩:=bx a0 qE;go_wp2_with (at_builtin;refine aP 20 25 Kd.string 23 9 (.string ⟨#[]⟩) 16 underlying23 info9 HB (ur ug.out) aoW (by have:=VB.out;omega) ?_;intro aNE w13 ho hb hg hat;have axy:=ak (ho);replace HB:=ak (hb);clear ho hb hg hat ug)
     go_roundg k1
     case measure=>exact kl
     case rel=>exact⟨_,_,_,rs,rs,H',⟨kl⟩,⟨ur axy.out⟩,⟨ul HB.out⟩⟩
    ·have H':=ak H;clear H;obtain⟨p7,q7,hx7⟩:=bx a0 qE;go_wp2;go_roundg k1
     case measure=>exact kl
     case rel=>exact⟨_,_,_,rs,rs,H',⟨kl⟩,⟨ur ug.out⟩,⟨ul HB.out⟩⟩
   ·replace H:=zh H;obtain⟨uy,xH,H⟩:=H;replace H:=zh H;obtain⟨uz,Cm,H⟩:=H;replace H:=nl H;obtain⟨aaZ,H⟩:=H;obtain⟨aNF,aoX⟩:=nm (dV++[a0.extract (gZ:Int).toNat a0.size]);rw[←aoX.out]at H;obtain rfl:=s1 H;go_wp2_with (at_builtin;refine aP 29 33 Kd.string 23 9 (.string ⟨#[]⟩) 16 underlying23 info9 HB (ur ug.out) aoX (by have:=aaZ.out;omega) ?_;intro aNG w17 ho hb hg hat;have axz:=ak (ho);replace HB:=ak (hb);clear ho hb hg hat ug)
    go_ret;exact⟨_,er,ur axz.out,ul HB.out⟩
def jE.l0:Nat→ByteArray→List ByteArray→Int→Option (List ByteArray×Bool)
 |0,_,_,_=>none
 |k+1,x0,x4,x5=>if x5<(x4.length:Int)then(if 0≤x5 then(if((iD ByteArray.empty x4 x5).size:Int)>40 then(some ((([]:List ByteArray)),false))else((aU.f k (iD ByteArray.empty x4 x5)).bind fun axA=>(if axA=true then(jE.l0 k x0 x4 (wrap64 (x5+1)))else(some ((([]:List ByteArray)),false)))))else(none))else(some (x4,decide ((x0.size:Int)≤300)))
def jE.f(k:Nat)(a0:ByteArray):Option (List ByteArray×Bool):=(lJ.f k a0 10).bind fun QZ=>(jE.l0 k a0 QZ 0)
theorem jE.calls{k:Nat}{a0:ByteArray}{r1:List ByteArray}{r2:Bool}{w:World}(h:jE.f k a0=some (r1,r2)):
  Calls Tryz.prog 210 #[.string a0] w fun e w'=>∃pW:Value,e= .returned (.tuple #[pW, .bool r2])∧Kd.R Kd.string 9 w' w.heap.size (fun _=>True) pW r1∧Below w.heap.size w w':=by
 have HB:=ak (Below.refl w.heap.size w);unfold jE.f at h;have H:=h;clear h;replace H:=bd H;obtain⟨QZ,A2,H⟩:=H;have H':=ak H;clear H;go_enter func210,ntmps210;go_wp2_with (refine gV func217 (lJ.calls A2.out) ?_;rintro aF4 w3 ⟨ho0,hb⟩;have axB:=ak (aC ho0 (au (ul HB.out)));replace HB:=bs HB hb;clear hb;(try clear ho0))
 go_loopg [5] k (fun kq v5 w'=>∃(dV:Int),v5= .int .i64 dV∧ah (jE.l0 kq a0 QZ dV=some (r1,r2))∧ah (kq≤k)∧ah (Kd.R Kd.string 9 w' w.heap.size (fun _=>True) aF4 QZ)∧ah (Below w.heap.size w w'))
 case atStart=>exact⟨_,rs,H',⟨Nat.le_refl _⟩,⟨ur axB.out⟩,⟨ul HB.out⟩⟩
 case round=>
  clear H';obtain⟨dV,rfl,HA,yN,bT,HB⟩:=hrel
  cases gk with
  |zero=>exact zz HA.out
  |succ k1=>
   obtain⟨H⟩:=HA;simp only[jE.l0]at H;replace H:=sd H;rcases H with⟨qB,H⟩|⟨qB,H⟩
   ·replace H:=nY H;obtain⟨nO,H⟩:=H;replace H:=sp H;rcases H with⟨c6,H⟩|⟨c6,H⟩
    ·have nP:decide (40<((iD ByteArray.empty QZ dV).size:Int))=true:=decide_eq_true c6;have zM:decide (40<(iD ByteArray.empty QZ dV).size)=true:=decide_eq_true (by omega);clear c6;obtain⟨aNH,aoY⟩:=nm ([]:List ByteArray);rw[←aoY.out]at H;obtain⟨rfl,rfl⟩:=s2 H;obtain⟨Ao7,co7,eo7⟩:=aI bT.out;subst eo7;have VD:=zi dV;have VE:=zj dV QZ.length;obtain⟨afb,aiP,afc⟩:=bV (aj bT.out).2.2 dV VD VE;cases aiP;replace VD:=eq_true VD;replace VE:=eq_true VE;go_wp2_with (refine DR 28 Kd.string 9 aoY ?_;intro aNI w8 ho9 hb;have axC:=ak (aC (dA ho9 (jC (ur bT.out))) (au (ul HB.out)));replace bT:=ak (dM (ur bT.out) (bZ ho9) hb);replace HB:=bs HB hb;clear hb ho9)
     go_ret2;exact⟨_,er,ur (ay axC.out (fun _ hk=>trivial)),ul HB.out⟩
    ·have nP:decide (40<((iD ByteArray.empty QZ dV).size:Int))=false:=decide_eq_false c6;have zM:decide (40<(iD ByteArray.empty QZ dV).size)=false:=decide_eq_false (by omega);clear c6;replace H:=bd H;obtain⟨axA,A10,H⟩:=H;replace H:=sb H;rcases H with⟨rfl,H⟩|⟨rfl,H⟩
     ·have H':=ak H;clear H;obtain⟨BJ,Aj,U_⟩:=aI bT.out;subst U_;have VD:=zi dV;have VE:=zj dV QZ.length;obtain⟨afb,aiP,afc⟩:=bV (aj bT.out).2.2 dV VD VE;cases aiP;replace VD:=eq_true VD;replace VE:=eq_true VE;have ac4:=zi dV;have ac5:=zj dV QZ.length;obtain⟨aiQ,atq,amW⟩:=bV (aj bT.out).2.2 dV ac4 ac5;obtain rfl:afb=aiQ:=(by injection atq)
      replace ac4:=eq_true ac4;replace ac5:=eq_true ac5;go_wp2_with (go_at_call 159;refine mA (aU.calls A10.out) ?_;intro nd)
      go_roundg k1
      case measure=>exact kl
      case rel=>exact⟨_,rs,H',⟨kl⟩,⟨ur bT.out⟩,⟨ul HB.out⟩⟩
     ·obtain⟨aNJ,aoZ⟩:=nm ([]:List ByteArray);rw[←aoZ.out]at H;obtain⟨rfl,rfl⟩:=s2 H;obtain⟨kX,jy,Ee⟩:=aI bT.out;subst Ee;have VD:=zi dV;have VE:=zj dV QZ.length;obtain⟨afb,aiP,afc⟩:=bV (aj bT.out).2.2 dV VD VE;cases aiP;replace VD:=eq_true VD;replace VE:=eq_true VE;have ac4:=zi dV;have ac5:=zj dV QZ.length;obtain⟨aiQ,atq,amW⟩:=bV (aj bT.out).2.2 dV ac4 ac5;obtain rfl:afb=aiQ:=(by injection atq)
      replace ac4:=eq_true ac4;replace ac5:=eq_true ac5;go_wp2_with (first|(go_at_call 159;refine mA (aU.calls A10.out) ?_;intro nd)|(refine DR 28 Kd.string 9 aoZ ?_;intro aNK Xv TL hb;have axD:=ak (aC (dA TL (jC (ur bT.out))) (au (ul HB.out)));replace bT:=ak (dM (ur bT.out) (bZ TL) hb);replace HB:=bs HB hb;clear hb TL))
      go_ret2;exact⟨_,er,ur (ay axD.out (fun _ hk=>trivial)),ul HB.out⟩
   ·obtain⟨rfl,rfl⟩:=s2 H;obtain⟨OD,MR,MS⟩:=aI bT.out;subst MS;go_wp2;go_ret2;exact⟨_,er,ur bT.out,ul HB.out⟩
def oU.f(a0:Int)(a1:Bool):Option (ByteArray):=if a0≥33 then(if a0≤126 then(if a0=61 then(if a0=32 then(if a1=true then((ou.f a0).bind fun axE=>(some axE))else(some (strOfNums (([a0]:List Int)))))else((ou.f a0).bind fun axF=>(some axF)))else(some (strOfNums (([a0]:List Int)))))else(if a0=32 then(if a1=true then((ou.f a0).bind fun U9=>(some U9))else(some (strOfNums (([a0]:List Int)))))else((ou.f a0).bind fun axG=>(some axG))))else(if a0=32 then(if a1=true then((ou.f a0).bind fun axH=>(some axH))else(some (strOfNums (([a0]:List Int)))))else((ou.f a0).bind fun axI=>(some axI)))
theorem oU.calls{a0:Int}{a1:Bool}{r:ByteArray}{w:World}(h:oU.f a0 a1=some r):
  Calls Tryz.prog 218 #[.int .u8 a0, .bool a1] w fun e w'=>e= .returned (.string r)∧Below w.heap.size w w':=by
 have HB:=ak (Below.refl w.heap.size w);unfold oU.f at h;have H:=h;clear h;replace H:=sp H;rcases H with⟨c3,H⟩|⟨c3,H⟩
 ·have jd:decide (33≤a0)=true:=decide_eq_true c3;clear c3;replace H:=sd H;rcases H with⟨qB,H⟩|⟨qB,H⟩
  ·replace H:=sq H;rcases H with⟨nO,QY,H⟩|⟨c5,nO,QY,H⟩
   ·replace H:=sq H;rcases H with⟨nP,zM,H⟩|⟨c6,nP,zM,H⟩
    ·replace H:=sb H;rcases H with⟨rfl,H⟩|⟨rfl,H⟩
     ·replace H:=bd H;obtain⟨axE,A8,H⟩:=H;obtain rfl:=s1 H;go_enter func218,ntmps218;go_wp2_with (refine gA func221 (ou.calls A8.out) ?_;intro nd)
      go_ret;exact⟨er,ul HB.out⟩
     ·obtain⟨aNL,ao0⟩:=nm ([a0]:List Int);rw[←ao0.out]at H;obtain rfl:=s1 H;go_enter func218,ntmps218;go_wp2_with (refine Vt 24 (Kd.int .u8) 5 [.int .u8 a0] ao0 (dP.one (show Kd.M (Kd.int .u8) _ _ _ a0 [.int .u8 a0]from rfl) (dP.none _ _)) ?_;intro aNM w9 Lm hb;have axJ:=ak (aC Lm (au (ul HB.out)));replace HB:=bs HB hb;clear hb Lm;have axe:=uO (P:=Tryz.prog) underlying22 underlying5 underlying9 (wG axJ.out))
      go_ret;exact⟨er,ul HB.out⟩
    ·replace H:=bd H;obtain⟨axF,A12,H⟩:=H;obtain rfl:=s1 H;go_enter func218,ntmps218;go_wp2_with (refine gA func221 (ou.calls A12.out) ?_;intro nd)
     go_ret;exact⟨er,ul HB.out⟩
   ·obtain⟨amE,aaI⟩:=nm ([a0]:List Int);rw[←aaI.out]at H;obtain rfl:=s1 H;go_enter func218,ntmps218;go_wp2_with (refine Vt 24 (Kd.int .u8) 5 [.int .u8 a0] aaI (dP.one (show Kd.M (Kd.int .u8) _ _ _ a0 [.int .u8 a0]from rfl) (dP.none _ _)) ?_;intro aFF w13 TP hb;have X3:=ak (aC TP (au (ul HB.out)));replace HB:=bs HB hb;clear hb TP;have axg:=uO (P:=Tryz.prog) underlying22 underlying5 underlying9 (wG X3.out))
    go_ret;exact⟨er,ul HB.out⟩
  ·replace H:=sq H;rcases H with⟨Dw,Oy,H⟩|⟨c16,Dw,Oy,H⟩
   ·replace H:=sb H;rcases H with⟨rfl,H⟩|⟨rfl,H⟩
    ·replace H:=bd H;obtain⟨U9,A18,H⟩:=H;obtain rfl:=s1 H;go_enter func218,ntmps218;go_wp2_with (refine gA func221 (ou.calls A18.out) ?_;intro nd)
     go_ret;exact⟨er,ul HB.out⟩
    ·obtain⟨aNN,ao1⟩:=nm ([a0]:List Int);rw[←ao1.out]at H;obtain rfl:=s1 H;go_enter func218,ntmps218;go_wp2_with (refine Vt 24 (Kd.int .u8) 5 [.int .u8 a0] ao1 (dP.one (show Kd.M (Kd.int .u8) _ _ _ a0 [.int .u8 a0]from rfl) (dP.none _ _)) ?_;intro aNO X_ XC hb;have axK:=ak (aC XC (au (ul HB.out)));replace HB:=bs HB hb;clear hb XC;have aJR:=uO (P:=Tryz.prog) underlying22 underlying5 underlying9 (wG axK.out))
     go_ret;exact⟨er,ul HB.out⟩
   ·replace H:=bd H;obtain⟨axG,A22,H⟩:=H;obtain rfl:=s1 H;go_enter func218,ntmps218;go_wp2_with (refine gA func221 (ou.calls A22.out) ?_;intro nd)
    go_ret;exact⟨er,ul HB.out⟩
 ·have jd:decide (33≤a0)=false:=decide_eq_false c3;clear c3;replace H:=sq H;rcases H with⟨EF,SN,H⟩|⟨c23,EF,SN,H⟩
  ·replace H:=sb H;rcases H with⟨rfl,H⟩|⟨rfl,H⟩
   ·replace H:=bd H;obtain⟨axH,A25,H⟩:=H;obtain rfl:=s1 H;go_enter func218,ntmps218;go_wp2_with (refine gA func221 (ou.calls A25.out) ?_;intro nd)
    go_ret;exact⟨er,ul HB.out⟩
   ·obtain⟨aNP,ao2⟩:=nm ([a0]:List Int);rw[←ao2.out]at H;obtain rfl:=s1 H;go_enter func218,ntmps218;go_wp2_with (refine Vt 24 (Kd.int .u8) 5 [.int .u8 a0] ao2 (dP.one (show Kd.M (Kd.int .u8) _ _ _ a0 [.int .u8 a0]from rfl) (dP.none _ _)) ?_;intro aNQ w26 axL hb;have axM:=ak (aC axL (au (ul HB.out)));replace HB:=bs HB hb;clear hb axL;have aJS:=uO (P:=Tryz.prog) underlying22 underlying5 underlying9 (wG axM.out))
    go_ret;exact⟨er,ul HB.out⟩
  ·replace H:=bd H;obtain⟨axI,A29,H⟩:=H;obtain rfl:=s1 H;go_enter func218,ntmps218;go_wp2_with (refine gA func221 (ou.calls A29.out) ?_;intro nd)
   go_ret;exact⟨er,ul HB.out⟩
def b_.l0:Nat→ByteArray→List ByteArray→ByteArray→Int→Option (List ByteArray×Bool)
 |0,_,_,_,_=>none
 |k+1,x0,x4,x5,x6=>if x6<(x0.size:Int)then(if 0≤x6 then(if(bt x0 x6)=10 then(if x4.length<8796093022208 then(b_.l0 k x0 (x4++[x5]) (⟨#[]⟩:ByteArray) (wrap64 (x6+1)))else(none))else(if(wrap64 (x6+1))=(x0.size:Int)then((oU.f (bt x0 x6) true).bind fun TQ=>(if(wrap64 ((x5.size:Int)+(TQ.size:Int)))>39 then(if x5.size+1≤9223372036854775807 then(if x4.length<8796093022208 then(if 0+TQ.size≤9223372036854775807 then(b_.l0 k x0 (x4++[x5++(⟨#[61]⟩:ByteArray)]) ((⟨#[]⟩:ByteArray)++TQ) (wrap64 (x6+1)))else(none))else(none))else(none))else(if x5.size+TQ.size≤9223372036854775807 then(b_.l0 k x0 x4 (x5++TQ) (wrap64 (x6+1)))else(none))))else(if 0≤(wrap64 (x6+1))then(if(wrap64 (x6+1))<(x0.size:Int)then((oU.f (bt x0 x6) ((bt x0 (wrap64 (x6+1)))==10)).bind fun Jq=>(if(wrap64 ((x5.size:Int)+(Jq.size:Int)))>39 then(if x5.size+1≤9223372036854775807 then(if x4.length<8796093022208 then(if 0+Jq.size≤9223372036854775807 then(b_.l0 k x0 (x4++[x5++(⟨#[61]⟩:ByteArray)]) ((⟨#[]⟩:ByteArray)++Jq) (wrap64 (x6+1)))else(none))else(none))else(none))else(if x5.size+Jq.size≤9223372036854775807 then(b_.l0 k x0 x4 (x5++Jq) (wrap64 (x6+1)))else(none))))else(none))else(none))))else(none))else(if x4.length<8796093022208 then(some ((x4++[x5]),true))else(none))
def b_.f(k:Nat)(a0:ByteArray):Option (List ByteArray×Bool):=if(a0.size:Int)>300 then(some ((([]:List ByteArray)),false))else(b_.l0 k a0 (([]:List ByteArray)) (⟨#[]⟩:ByteArray) 0)
theorem b_.calls{k:Nat}{a0:ByteArray}{r1:List ByteArray}{r2:Bool}{w:World}(h:b_.f k a0=some (r1,r2)):
  Calls Tryz.prog 211 #[.string a0] w fun e w'=>∃pW:Value,e= .returned (.tuple #[pW, .bool r2])∧Kd.R Kd.string 9 w' w.heap.size (fun _=>True) pW r1∧Below w.heap.size w w':=by
 have HB:=ak (Below.refl w.heap.size w);unfold b_.f at h;have H:=h;clear h;replace H:=sp H;rcases H with⟨c2,H⟩|⟨c2,H⟩
 ·have rQ:decide (300<(a0.size:Int))=true:=decide_eq_true c2;have y8:decide (300<a0.size)=true:=decide_eq_true (by omega);clear c2;obtain⟨aNR,ao3⟩:=nm ([]:List ByteArray);rw[←ao3.out]at H;obtain⟨rfl,rfl⟩:=s2 H;go_enter func211,ntmps211;go_wp2_with (refine DR 11 Kd.string 9 ao3 ?_;intro aNS w3 SL hb;have axN:=ak (aC SL (au (ul HB.out)));replace HB:=bs HB hb;clear hb SL)
  go_ret2;exact⟨_,er,ur axN.out,ul HB.out⟩
 ·have rQ:decide (300<(a0.size:Int))=false:=decide_eq_false c2;have y8:decide (300<a0.size)=false:=decide_eq_false (by omega);clear c2;obtain⟨aNT,ao4⟩:=nm ([]:List ByteArray);rw[←ao4.out]at H;have H':=ak H;clear H;go_enter func211,ntmps211;go_wp2_with (refine DR 12 Kd.string 9 ao4 ?_;intro aNU w5 Ur hb;have axO:=ak (aC Ur (au (ul HB.out)));replace HB:=bs HB hb;clear hb Ur)
  go_loopg [4,5,6] k (fun kq v4 v5 v6 w'=>∃(dI:List ByteArray) (dV:ByteArray) (gZ:Int),v5= .string dV∧v6= .int .i64 gZ∧ah (b_.l0 kq a0 dI dV gZ=some (r1,r2))∧ah (kq≤k)∧ah (Kd.R Kd.string 9 w' w.heap.size (fun _=>True) v4 dI)∧ah (Below w.heap.size w w'))
  case atStart=>exact⟨_,_,_,rs,rs,H',⟨Nat.le_refl _⟩,⟨ur axO.out⟩,⟨ul HB.out⟩⟩
  case round=>
   clear H';try clear c2
   try clear rQ
   try clear y8
   obtain⟨dI,dV,gZ,rfl,rfl,HA,yN,bT,HB⟩:=hrel
   cases gk with
   |zero=>exact zz HA.out
   |succ k1=>
    obtain⟨H⟩:=HA;simp only[b_.l0]at H;replace H:=sd H;rcases H with⟨sK,H⟩|⟨sK,H⟩
    ·replace H:=nY H;obtain⟨ru,H⟩:=H;replace H:=sq H;rcases H with⟨qj,uN,H⟩|⟨c10,qj,uN,H⟩
     ·replace H:=nl H;obtain⟨VF,H⟩:=H;obtain⟨aNV,ao5⟩:=nm (dI++[dV]);rw[←ao5.out]at H;have H':=ak H;clear H;obtain⟨p9,q9,hx9⟩:=bx a0 gZ;go_wp2_with (at_builtin;refine aP 23 25 Kd.string 23 9 (.string ⟨#[]⟩) 16 underlying23 info9 HB (ur bT.out) ao5 (by have:=VF.out;omega) ?_;intro aNW w12 ho hb hg hat;have axP:=ak (ho);replace HB:=ak (hb);clear ho hb hg hat bT)
      go_roundg k1
      case measure=>exact kl
      case rel=>exact⟨_,_,_,rs,rs,H',⟨kl⟩,⟨ur axP.out⟩,⟨ul HB.out⟩⟩
     ·replace H:=sq H;rcases H with⟨uy,xH,H⟩|⟨c14,uy,xH,H⟩
      ·replace H:=bd H;obtain⟨TQ,A15,H⟩:=H;replace H:=sp H;rcases H with⟨c16,H⟩|⟨c16,H⟩
       ·have Dw:decide (39<(wrap64 ((dV.size:Int)+(TQ.size:Int))))=true:=decide_eq_true c16;replace H:=nn H;obtain⟨c17,H⟩:=H
        (try(have Oy:decide (39<((dV.size:Int)+(TQ.size:Int)))=true:=decide_eq_true (by have h_:=c16;have h2_:=c17;unfold wrap64 at h_;omega)));clear c16;have vY:=eq_true c17;have LW:=decide_eq_true c17;try have ao6:(9223372036854775807<dV.size+1)=False:=eq_false (Nat.not_lt.2 c17)
        replace H:=nl H;obtain⟨axQ,H⟩:=H;obtain⟨aNX,ao7⟩:=nm (dI++[dV++(⟨#[61]⟩:ByteArray)]);rw[←ao7.out]at H;replace H:=nn H;obtain⟨c19,H⟩:=H;have Du:=eq_true c19;have G8:=decide_eq_true c19;try have aiM:(9223372036854775807<0+TQ.size)=False:=eq_false (Nat.not_lt.2 c19)
        have H':=ak H;clear H;obtain⟨p9,q9,hx9⟩:=bx a0 gZ;try go_wp2
        replace bT:=ak (uh bT.out);replace HB:=ak (jG HB.out);obtain⟨p13,q13,acW⟩:=bx a0 gZ;refine ro [15] [0,1,3,4,5,6,7,8,9,10,11,12,13,14,2,15,16] (fun w'=>True) trivial ?_
        generalize wr.drew=w20 at bT HB⊢
        repeat(first|refine Bv ?_|refine Zf ?_)
        refine rB func218 (oU.calls A15.out) ?_;intro w21 hb;replace bT:=rb bT hb;replace HB:=bs HB hb;clear hb;refine⟨sx,?_⟩;repeat(first|refine Bv ?_|refine Zf ?_)
        refine on ?_;try go_wp2_with (at_builtin;refine aP 49 52 Kd.string 23 9 (.string ⟨#[]⟩) 16 underlying23 info9 HB (ur bT.out) ao7 (by have:=axQ.out;omega) ?_;intro aNY w22 ho hb hg hat;have axR:=ak (ho);replace HB:=ak (hb);clear ho hb hg hat bT)
        go_roundg k1
        case measure=>exact kl
        case rel=>exact⟨_,_,_,rs,rs,H',⟨kl⟩,⟨ur axR.out⟩,⟨ul HB.out⟩⟩
       ·have Dw:decide (39<(wrap64 ((dV.size:Int)+(TQ.size:Int))))=false:=decide_eq_false c16;replace H:=nn H;obtain⟨c23,H⟩:=H
        (try(have Oy:decide (39<((dV.size:Int)+(TQ.size:Int)))=false:=decide_eq_false (by have h_:=c16;have h2_:=c23;unfold wrap64 at h_;omega)));clear c16;have EF:=eq_true c23;have SN:=decide_eq_true c23;try have axS:(9223372036854775807<dV.size+TQ.size)=False:=eq_false (Nat.not_lt.2 c23)
        have H':=ak H;clear H;obtain⟨p9,q9,hx9⟩:=bx a0 gZ;try go_wp2
        replace bT:=ak (uh bT.out);replace HB:=ak (jG HB.out);obtain⟨p13,q13,acW⟩:=bx a0 gZ;refine ro [15] [0,1,3,4,5,6,7,8,9,10,11,12,13,14,2,15,16] (fun w'=>True) trivial ?_
        generalize wr.drew=w24 at bT HB⊢
        repeat(first|refine Bv ?_|refine Zf ?_)
        refine rB func218 (oU.calls A15.out) ?_;intro w25 hb;replace bT:=rb bT hb;replace HB:=bs HB hb;clear hb;refine⟨sx,?_⟩;repeat(first|refine Bv ?_|refine Zf ?_)
        refine on ?_;try go_wp2
        go_roundg k1
        case measure=>exact kl
        case rel=>exact⟨_,_,_,rs,rs,H',⟨kl⟩,⟨ur bT.out⟩,⟨ul HB.out⟩⟩
      ·obtain⟨XD,OE⟩:∃j_:Int,(wrap64 (gZ+1))=j_:=⟨_,rfl⟩
       replace H:(if 0≤(XD)then(if(XD)<(a0.size:Int)then((oU.f (bt a0 gZ) ((bt a0 (XD))==10)).bind fun Jq=>(if(wrap64 ((dV.size:Int)+(Jq.size:Int)))>39 then(if dV.size+1≤9223372036854775807 then(if dI.length<8796093022208 then(if 0+Jq.size≤9223372036854775807 then(b_.l0 k1 a0 (dI++[dV++(⟨#[61]⟩:ByteArray)]) ((⟨#[]⟩:ByteArray)++Jq) XD)else(none))else(none))else(none))else(if dV.size+Jq.size≤9223372036854775807 then(b_.l0 k1 a0 dI (dV++Jq) XD)else(none))))else(none))else(none))=some (r1,r2):=by first|(rw[OE]at H;exact H)|(simp only[OE]at H⊢;exact H)
       (try rw[OE]at uy)
       (try rw[OE]at xH);have aF5:(IntKind.i64.wrap (gZ+1))=XD:=(gU _).trans OE;replace H:=nY H;obtain⟨I7,H⟩:=H;replace H:=nY H;obtain⟨JC,H⟩:=H;replace H:=bd H;obtain⟨Jq,A30,H⟩:=H;replace H:=sp H;rcases H with⟨c31,H⟩|⟨c31,H⟩
       ·have afa:decide (39<(wrap64 ((dV.size:Int)+(Jq.size:Int))))=true:=decide_eq_true c31;replace H:=nn H;obtain⟨c32,H⟩:=H
        (try(have aiN:decide (39<((dV.size:Int)+(Jq.size:Int)))=true:=decide_eq_true (by have h_:=c31;have h2_:=c32;unfold wrap64 at h_;omega)));clear c31;have Yi:=eq_true c32;have aiR:=decide_eq_true c32;try have aJT:(9223372036854775807<dV.size+1)=False:=eq_false (Nat.not_lt.2 c32)
        replace H:=nl H;obtain⟨aiS,H⟩:=H;obtain⟨aNZ,ao8⟩:=nm (dI++[dV++(⟨#[61]⟩:ByteArray)]);rw[←ao8.out]at H;replace H:=nn H;obtain⟨c34,H⟩:=H;have aa0:=eq_true c34;have aiT:=decide_eq_true c34;try have aJU:(9223372036854775807<0+Jq.size)=False:=eq_false (Nat.not_lt.2 c34)
        have H':=ak H;clear H;obtain⟨p9,q9,hx9⟩:=bx a0 gZ;try go_wp2
        replace bT:=ak (uh bT.out);replace HB:=ak (jG HB.out);obtain⟨p13,q13,acW⟩:=bx a0 gZ;obtain⟨p29,q29,hx29⟩:=bx a0 (XD);refine ro [15] [0,1,3,4,5,6,7,8,9,10,11,2,12,13,14,15,16] (fun w'=>True) trivial ?_
        generalize wr.drew=w35 at bT HB⊢
        repeat refine Bv ?_
        refine ld (N:=some 42) (gk.trans rfl) rfl rfl (fun K hK=>?_);refine G5 func218 (by kernel_rfl) rfl #[.int .u8 (bt a0 gZ), .bool ((bt a0 (XD))==10)] (by rfl) rfl rfl (by(try simp only[List.map_toArray,List.map_cons,List.map_nil]);first|done|(simp only[OE];rfl)|rfl|(simp only[List.length_drop,List.length_take];rfl)) ?_
        with_reducible refine(oU.calls A30.out).mono ?_
        rintro e w36 ⟨rfl,hb⟩;refine⟨_,rfl,?_⟩;replace bT:=rb bT hb;replace HB:=bs HB hb;try clear hb
        refine hK.out _ _ trivial ?_;clear hK K;refine no (a':=?_) ?_ ?_
        rotate_left
        ·show Act.put _ (some 42) _=_
         simp only[Act.put,C_,Dc,l_c,gU,jP];rfl
        repeat refine Bv ?_
        refine on ?_;try go_wp2_with (at_builtin;refine aP 49 52 Kd.string 23 9 (.string ⟨#[]⟩) 16 underlying23 info9 HB (ur bT.out) ao8 (by have:=aiS.out;omega) ?_;intro aN0 w37 ho hb hg hat;have axT:=ak (ho);replace HB:=ak (hb);clear ho hb hg hat bT)
        go_roundg k1
        case measure=>exact kl
        case rel=>exact⟨_,_,_,rs,(by first|rfl|(simp;done)|(simp only[←OE]<;>(first|rfl|simp))|(simp[*];done)),H',⟨kl⟩,⟨ur axT.out⟩,⟨ul HB.out⟩⟩
       ·have afa:decide (39<(wrap64 ((dV.size:Int)+(Jq.size:Int))))=false:=decide_eq_false c31;replace H:=nn H;obtain⟨c38,H⟩:=H
        (try(have aiN:decide (39<((dV.size:Int)+(Jq.size:Int)))=false:=decide_eq_false (by have h_:=c31;have h2_:=c38;unfold wrap64 at h_;omega)));clear c31;have aa1:=eq_true c38;have aJV:=decide_eq_true c38;try have aJW:(9223372036854775807<dV.size+Jq.size)=False:=eq_false (Nat.not_lt.2 c38)
        have H':=ak H;clear H;obtain⟨p9,q9,hx9⟩:=bx a0 gZ;try go_wp2
        replace bT:=ak (uh bT.out);replace HB:=ak (jG HB.out);obtain⟨p13,q13,acW⟩:=bx a0 gZ;obtain⟨p29,q29,hx29⟩:=bx a0 (XD);refine ro [15] [0,1,3,4,5,6,7,8,9,10,11,2,12,13,14,15,16] (fun w'=>True) trivial ?_
        generalize wr.drew=w39 at bT HB⊢
        repeat refine Bv ?_
        refine ld (N:=some 42) (gk.trans rfl) rfl rfl (fun K hK=>?_);refine G5 func218 (by kernel_rfl) rfl #[.int .u8 (bt a0 gZ), .bool ((bt a0 (XD))==10)] (by rfl) rfl rfl (by(try simp only[List.map_toArray,List.map_cons,List.map_nil]);first|done|(simp only[OE];rfl)|rfl|(simp only[List.length_drop,List.length_take];rfl)) ?_
        with_reducible refine(oU.calls A30.out).mono ?_
        rintro e w40 ⟨rfl,hb⟩;refine⟨_,rfl,?_⟩;replace bT:=rb bT hb;replace HB:=bs HB hb;try clear hb
        refine hK.out _ _ trivial ?_;clear hK K;refine no (a':=?_) ?_ ?_
        rotate_left
        ·show Act.put _ (some 42) _=_
         simp only[Act.put,C_,Dc,l_c,gU,jP];rfl
        repeat refine Bv ?_
        refine on ?_;try go_wp2
        go_roundg k1
        case measure=>exact kl
        case rel=>exact⟨_,_,_,rs,(by first|rfl|(simp;done)|(simp only[←OE]<;>(first|rfl|simp))|(simp[*];done)),H',⟨kl⟩,⟨ur bT.out⟩,⟨ul HB.out⟩⟩
    ·replace H:=nl H;obtain⟨aiU,H⟩:=H;obtain⟨aN1,ao9⟩:=nm (dI++[dV]);rw[←ao9.out]at H;obtain⟨rfl,rfl⟩:=s2 H;go_wp2_with (at_builtin;refine aP 57 59 Kd.string 23 9 (.string ⟨#[]⟩) 16 underlying23 info9 HB (ur bT.out) ao9 (by have:=aiU.out;omega) ?_;intro aN2 w42 ho hb hg hat;have axU:=ak (ho);replace HB:=ak (hb);clear ho hb hg hat bT)
     go_ret2;exact⟨_,er,ur axU.out,ul HB.out⟩
def mF.l0:Nat→ByteArray→Int→List ByteArray→Option (List ByteArray)
 |0,_,_,_=>none
 |k+1,x0,x1,x5=>if(x0.size:Int)>x1 then(if 0≤x1 then(if x1≤(x0.size:Int)then(if x5.length<8796093022208 then(mF.l0 k (x0.extract (x1:Int).toNat x0.size) x1 (x5++[x0.extract 0 (x1:Int).toNat]))else(none))else(none))else(none))else(if x5.length<8796093022208 then(some (x5++[x0]))else(none))
def mF.f(k:Nat)(a0:ByteArray)(a1:Int):Option (List ByteArray):=mF.l0 k a0 a1 (([]:List ByteArray))
theorem mF.calls{k:Nat}{a0:ByteArray}{a1:Int}{r:List ByteArray}{w:World}(h:mF.f k a0 a1=some r):
  Calls Tryz.prog 219 #[.string a0, .int .i64 a1] w fun e w'=>∃pW:Value,e= .returned (pW)∧Kd.R Kd.string 9 w' w.heap.size (fun _=>True) pW r∧Below w.heap.size w w':=by
 have HB:=ak (Below.refl w.heap.size w);unfold mF.f at h;have H:=h;clear h;obtain⟨aN3,ao_⟩:=nm ([]:List ByteArray);rw[←ao_.out]at H;have H':=ak H;clear H;go_enter func219,ntmps219;go_wp2_with (refine DR 6 Kd.string 9 ao_ ?_;intro aN4 w3 SL hb;have axV:=ak (aC SL (au (ul HB.out)));replace HB:=bs HB hb;clear hb SL)
 go_loopg [0,5] k (fun kq v0 v5 w'=>∃(uX:ByteArray) (dV:List ByteArray),v0= .string uX∧ah (mF.l0 kq uX a1 dV=some r)∧ah (kq≤k)∧ah (Kd.R Kd.string 9 w' w.heap.size (fun _=>True) v5 dV)∧ah (Below w.heap.size w w'))
 case atStart=>exact⟨_,_,rs,H',⟨Nat.le_refl _⟩,⟨ur axV.out⟩,⟨ul HB.out⟩⟩
 case round=>
  clear H';obtain⟨uX,dV,rfl,HA,yN,ug,HB⟩:=hrel
  cases gk with
  |zero=>exact zz HA.out
  |succ k1=>
   obtain⟨H⟩:=HA;simp only[mF.l0]at H;replace H:=sp H;rcases H with⟨c5,H⟩|⟨c5,H⟩
   ·have nO:decide (a1<(uX.size:Int))=true:=decide_eq_true c5;clear c5;replace H:=zh H;obtain⟨nP,zM,H⟩:=H;replace H:=zh H;obtain⟨sK,Jy,H⟩:=H;replace H:=nl H;obtain⟨aib,H⟩:=H;obtain⟨aN5,apa⟩:=nm (dV++[uX.extract 0 (a1:Int).toNat]);rw[←apa.out]at H;have xG:=eq_true (of_decide_eq_true (by assumption):0≤a1);have qj:=eq_true (of_decide_eq_true (by assumption):a1≤(uX.size:Int));have H':=ak H;clear H;go_wp2_with (at_builtin;refine aP 11 15 Kd.string 23 9 (.string ⟨#[]⟩) 16 underlying23 info9 HB (ur ug.out) apa (by have:=aib.out;omega) ?_;intro aN6 X0 ho hb hg hat;have axW:=ak (ho);replace HB:=ak (hb);clear ho hb hg hat ug)
    go_roundg k1
    case measure=>exact kl
    case rel=>exact⟨_,_,rs,H',⟨kl⟩,⟨ur axW.out⟩,⟨ul HB.out⟩⟩
   ·have nO:decide (a1<(uX.size:Int))=false:=decide_eq_false c5;clear c5;replace H:=nl H;obtain⟨VB,H⟩:=H;obtain⟨aN7,apb⟩:=nm (dV++[uX]);rw[←apb.out]at H;obtain rfl:=s1 H;go_wp2_with (at_builtin;refine aP 20 22 Kd.string 23 9 (.string ⟨#[]⟩) 16 underlying23 info9 HB (ur ug.out) apb (by have:=VB.out;omega) ?_;intro aN8 w13 ho hb hg hat;have axX:=ak (ho);replace HB:=ak (hb);clear ho hb hg hat ug)
    go_ret;exact⟨_,er,ur axX.out,ul HB.out⟩
def sD.f:Option (ByteArray):=some (⟨#[65,66,67,68,69,70,71,72,73,74,75,76,77,78,79,80,81,82,83,84,85,86,87,88,89,90,97,98,99,100,101,102,103,104,105,106,107,108,109,110,111,112,113,114,115,116,117,118,119,120,121,122,48,49,50,51,52,53,54,55,56,57,43,47]⟩:ByteArray)
theorem sD.calls(r:ByteArray)(w:World)(h:sD.f=some r):
  Calls Tryz.prog 222 #[] w fun e w'=>e= .returned (.string r)∧dR w w':=by
 unfold sD.f at h;have H:=h;clear h;obtain rfl:=s1 H;go_enter func222,ntmps222;go_wp2;go_ret;exact⟨rs,dn⟩
mutual
def cO.l0:Nat→ByteArray→ByteArray→Int→Option (ByteArray)
 |0,_,_,_=>none
 |k+1,x0,x3,x4=>if x4<(x0.size:Int)then(if 0≤x4 then(if(wrap64 (x4+1))<(x0.size:Int)then(if 0≤(wrap64 (x4+1))then(cO.j1 k x0 x3 x4 (wrap64 ((wrap64 ((wrap64 (bt x0 x4))*65536))+(wrap64 ((wrap64 (bt x0 (wrap64 (x4+1))))*256)))))else(none))else(cO.j1 k x0 x3 x4 (wrap64 ((wrap64 (bt x0 x4))*65536))))else(none))else(some x3)
def cO.j1:Nat→ByteArray→ByteArray→Int→Int→Option (ByteArray)
 |0,_,_,_,_=>none
 |k+1,x0,x3,x4,x5=>if(wrap64 (x4+2))<(x0.size:Int)then(if 0≤(wrap64 (x4+2))then(cO.j2 k x0 x3 x4 (wrap64 (x5+(wrap64 (bt x0 (wrap64 (x4+2)))))))else(none))else(cO.j2 k x0 x3 x4 x5)
def cO.j2:Nat→ByteArray→ByteArray→Int→Int→Option (ByteArray)
 |0,_,_,_,_=>none
 |k+1,x0,x3,x4,x5=>cO.l1 k x0 x3 x4 x5 0
def cO.l1:Nat→ByteArray→ByteArray→Int→Int→Int→Option (ByteArray)
 |0,_,_,_,_,_=>none
 |k+1,x0,x3,x4,x5,x6=>if x6<4 then(if(wrap64 (x4+x6))>(x0.size:Int)then(if x3.size+1≤9223372036854775807 then(cO.l1 k x0 (x3++(⟨#[61]⟩:ByteArray)) x4 x5 (wrap64 (x6+1)))else(none))else(if 0≤(wrap64 (18-(wrap64 (6*x6))))then((sD.f).bind fun MV=>(if 0≤(Go.bits .and .i64 (shr .i64 x5 (wrap64 (18-(wrap64 (6*x6))))) 63)then(if(Go.bits .and .i64 (shr .i64 x5 (wrap64 (18-(wrap64 (6*x6))))) 63)≤(wrap64 ((Go.bits .and .i64 (shr .i64 x5 (wrap64 (18-(wrap64 (6*x6))))) 63)+1))then(if(wrap64 ((Go.bits .and .i64 (shr .i64 x5 (wrap64 (18-(wrap64 (6*x6))))) 63)+1))≤(MV.size:Int)then(if x3.size+(MV.extract ((Go.bits .and .i64 (shr .i64 x5 (wrap64 (18-(wrap64 (6*x6))))) 63):Int).toNat ((wrap64 ((Go.bits .and .i64 (shr .i64 x5 (wrap64 (18-(wrap64 (6*x6))))) 63)+1)):Int).toNat).size≤9223372036854775807 then(cO.l1 k x0 (x3++(MV.extract ((Go.bits .and .i64 (shr .i64 x5 (wrap64 (18-(wrap64 (6*x6))))) 63):Int).toNat ((wrap64 ((Go.bits .and .i64 (shr .i64 x5 (wrap64 (18-(wrap64 (6*x6))))) 63)+1)):Int).toNat)) x4 x5 (wrap64 (x6+1)))else(none))else(none))else(none))else(none)))else(none)))else(cO.l0 k x0 x3 (wrap64 (x4+3)))
end
def cO.f(k:Nat)(a0:ByteArray):Option (ByteArray):=cO.l0 k a0 (⟨#[]⟩:ByteArray) 0
theorem cO.calls{k:Nat}{a0 r:ByteArray}{w:World}(h:cO.f k a0=some r):
  Calls Tryz.prog 220 #[.string a0] w fun e w'=>e= .returned (.string r)∧dR w w':=by
 unfold cO.f at h;have H:=h;clear h;have H':=ak H;clear H;go_enter func220,ntmps220;go_wp2;go_loopg [3,4] k (fun kq v3 v4 w'=>∃(eG:ByteArray) (dI:Int),v3= .string eG∧v4= .int .i64 dI∧ah (cO.l0 kq a0 eG dI=some r)∧ah (kq≤k)∧dR w w')
 case atStart=>exact⟨_,_,rs,rs,H',⟨Nat.le_refl _⟩,dn⟩
 case round=>
  clear H';obtain⟨eG,dI,rfl,rfl,HA,yN,⟨m1,rfl⟩⟩:=hrel
  cases gk with
  |zero=>exact zz HA.out
  |succ k1=>
   obtain⟨H⟩:=HA;simp only[cO.l0]at H;replace H:=sd H;rcases H with⟨rQ,H⟩|⟨rQ,H⟩
   ·replace H:=nY H;obtain⟨jd,H⟩:=H;have HC5:=ak H;clear H;obtain⟨p4,q4,hx4⟩:=bx a0 dI;go_upto_if 23 with(fail)
    go_cut [5] (fun v5 wc=>∃(kq:Nat) (aaN:Int),v5= .int .i64 aaN∧ah (cO.j1 kq a0 eG dI aaN=some r)∧ah (kq≤k1)∧dR w wc)
    case first=>
     have H:=HC5.out;clear HC5;replace H:=sp H;rcases H with⟨c6,H⟩|⟨c6,H⟩
     ·have nP:=decide_eq_true c6
      (try(have zM:decide ((dI+1)<(a0.size:Int))=true:=decide_eq_true (by have h_:=c6;unfold wrap64 at h_;omega)));clear c6
      (first|rw[nP]|(simp only[gU,jP];rw[nP])|skip);obtain⟨ji7,TN⟩:∃j_:Int,(wrap64 (dI+1))=j_:=⟨_,rfl⟩
      replace H:(if 0≤(ji7)then(cO.j1 k1 a0 eG dI (wrap64 ((wrap64 ((wrap64 (bt a0 dI))*65536))+(wrap64 ((wrap64 (bt a0 (ji7)))*256)))))else(none))=some r:=by first|(rw[TN]at H;exact H)|(simp only[TN]at H⊢;exact H)
      (try rw[TN]at nP);have aw9:(IntKind.i64.wrap (dI+1))=ji7:=(gU _).trans TN;replace H:=nY H;obtain⟨ru,H⟩:=H;have H':=ak H;clear H;obtain⟨p9,q9,hx9⟩:=bx a0 (ji7);go_wp2;go_meet
      case rel=>exact⟨_,_,(by first|rfl|(simp;done)|(simp only[←TN]<;>(first|rfl|simp))|(simp[*];done)),H',⟨kl⟩,dn⟩
     ·have nP:=decide_eq_false c6
      (try(have zM:decide ((dI+1)<(a0.size:Int))=false:=decide_eq_false (by have h_:=c6;unfold wrap64 at h_;omega)));clear c6
      (first|rw[nP]|(simp only[gU,jP];rw[nP])|skip);have H':=ak H;clear H;go_wp2;go_meet
      case rel=>exact⟨_,_,rs,H',⟨kl⟩,dn⟩
    case rest=>
     clear HC5;try clear rQ
     try clear jd
     try clear p4
     try clear q4
     try clear hx4
     try clear p4
     try clear q4
     obtain⟨kq,aaN,rfl,HA,HJ4,⟨mc4,rfl⟩⟩:=hcut
     cases kq with
     |zero=>exact zz HA.out
     |succ kj4=>
      obtain⟨H⟩:=HA;simp only[cO.j1]at H;have atr:=ak H;clear H;go_upto_if 36 with(fail)
      go_cut [5] (fun v5 wc=>∃(kq:Nat) (JD:Int),v5= .int .i64 JD∧ah (cO.j2 kq a0 eG dI JD=some r)∧ah (kq≤kj4)∧dR w wc)
      case first=>
       have H:=atr.out;clear atr;replace H:=sp H;rcases H with⟨c11,H⟩|⟨c11,H⟩
       ·have uM:=decide_eq_true c11
        (try(have CB:decide ((dI+2)<(a0.size:Int))=true:=decide_eq_true (by have h_:=c11;unfold wrap64 at h_;omega)));clear c11
        (first|rw[uM]|(simp only[gU,jP];rw[uM])|skip);obtain⟨TR,I8⟩:∃j_:Int,(wrap64 (dI+2))=j_:=⟨_,rfl⟩
        replace H:(if 0≤(TR)then(cO.j2 kj4 a0 eG dI (wrap64 (aaN+(wrap64 (bt a0 (TR))))))else(none))=some r:=by first|(rw[I8]at H;exact H)|(simp only[I8]at H⊢;exact H)
        (try rw[I8]at uM);have att:(IntKind.i64.wrap (dI+2))=TR:=(gU _).trans I8;replace H:=nY H;obtain⟨xE,H⟩:=H;have H':=ak H;clear H;obtain⟨p14,q14,atu⟩:=bx a0 (TR);go_wp2;go_meet
        case rel=>exact⟨_,_,(by first|rfl|(simp;done)|(simp only[←I8]<;>(first|rfl|simp))|(simp[*];done)),H',⟨kl⟩,dn⟩
       ·have uM:=decide_eq_false c11
        (try(have CB:decide ((dI+2)<(a0.size:Int))=false:=decide_eq_false (by have h_:=c11;unfold wrap64 at h_;omega)));clear c11
        (first|rw[uM]|(simp only[gU,jP];rw[uM])|skip);have H':=ak H;clear H;go_wp2;go_meet
        case rel=>exact⟨_,_,rs,H',⟨kl⟩,dn⟩
      case rest=>
       clear atr;try clear rQ
       try clear jd
       try clear p4
       try clear q4
       try clear hx4
       try clear p4
       try clear q4
       obtain⟨kq,JD,rfl,HA,HJ9,⟨mc9,rfl⟩⟩:=hcut
       cases kq with
       |zero=>exact zz HA.out
       |succ kj9=>
        obtain⟨H⟩:=HA;simp only[cO.j2]at H;have H':=ak H;clear H;go_wp2;go_loopg [3,6] kj9 (fun kq v3 v6 w'=>∃(XE:ByteArray) (VG:Int),v3= .string XE∧v6= .int .i64 VG∧ah (cO.l1 kq a0 XE dI JD VG=some r)∧ah (kq≤kj9)∧dR w w')
        case atStart=>exact⟨_,_,rs,rs,H',⟨Nat.le_refl _⟩,dn⟩
        case round=>
         clear H';try clear rQ
         try clear jd
         try clear p4
         try clear q4
         try clear hx4
         try clear p4
         try clear q4
         obtain⟨XE,VG,rfl,rfl,HA,HK4,⟨m4,rfl⟩⟩:=hrel
         cases gk with
         |zero=>exact zz HA.out
         |succ k4=>
          obtain⟨H⟩:=HA;simp only[cO.l1]at H;replace H:=sd H;rcases H with⟨uz,H⟩|⟨uz,H⟩
          ·replace H:=sp H;rcases H with⟨c16,H⟩|⟨c16,H⟩
           ·have Dw:decide ((a0.size:Int)<(wrap64 (dI+VG)))=true:=decide_eq_true c16;replace H:=nn H;obtain⟨c17,H⟩:=H
            (try(have Oy:decide ((a0.size:Int)<(dI+VG))=true:=decide_eq_true (by have h_:=c16;have h2_:=c17;unfold wrap64 at h_;omega)));clear c16;have vY:=eq_true c17;have LW:=decide_eq_true c17;try have ao6:(9223372036854775807<XE.size+1)=False:=eq_false (Nat.not_lt.2 c17)
            have H':=ak H;clear H;go_wp2;go_roundg k4
            case measure=>exact kl
            case rel=>exact⟨_,_,rs,rs,H',⟨kl⟩,dn⟩
           ·have Dw:decide ((a0.size:Int)<(wrap64 (dI+VG)))=false:=decide_eq_false c16
            (try(have Oy:decide ((a0.size:Int)<(dI+VG))=false:=decide_eq_false (by have h_:=c16;unfold wrap64 at h_;omega)));clear c16;obtain⟨OG,aiV⟩:∃j_:Int,(wrap64 (18-(wrap64 (6*VG))))=j_:=⟨_,rfl⟩
            replace H:(if 0≤(OG)then((sD.f).bind fun MV=>(if 0≤(Go.bits .and .i64 (shr .i64 JD (OG)) 63)then(if(Go.bits .and .i64 (shr .i64 JD (OG)) 63)≤(wrap64 ((Go.bits .and .i64 (shr .i64 JD (OG)) 63)+1))then(if(wrap64 ((Go.bits .and .i64 (shr .i64 JD (OG)) 63)+1))≤(MV.size:Int)then(if XE.size+(MV.extract ((Go.bits .and .i64 (shr .i64 JD (OG)) 63):Int).toNat ((wrap64 ((Go.bits .and .i64 (shr .i64 JD (OG)) 63)+1)):Int).toNat).size≤9223372036854775807 then(cO.l1 k4 a0 (XE++(MV.extract ((Go.bits .and .i64 (shr .i64 JD (OG)) 63):Int).toNat ((wrap64 ((Go.bits .and .i64 (shr .i64 JD (OG)) 63)+1)):Int).toNat)) dI JD (wrap64 (VG+1)))else(none))else(none))else(none))else(none)))else(none))=some r:=by first|(rw[aiV]at H;exact H)|(simp only[aiV]at H⊢;exact H)
            have aF6:(IntKind.i64.wrap (18-(wrap64 (6*VG))))=OG:=(gU _).trans aiV;replace H:=zh H;obtain⟨Du,G8,H⟩:=H;obtain⟨DT,FB⟩:∃j_:Int,(shr .i64 JD (OG))=j_:=⟨_,rfl⟩
            replace H:((sD.f).bind fun MV=>(if 0≤(Go.bits .and .i64 (DT) 63)then(if(Go.bits .and .i64 (DT) 63)≤(wrap64 ((Go.bits .and .i64 (DT) 63)+1))then(if(wrap64 ((Go.bits .and .i64 (DT) 63)+1))≤(MV.size:Int)then(if XE.size+(MV.extract ((Go.bits .and .i64 (DT) 63):Int).toNat ((wrap64 ((Go.bits .and .i64 (DT) 63)+1)):Int).toNat).size≤9223372036854775807 then(cO.l1 k4 a0 (XE++(MV.extract ((Go.bits .and .i64 (DT) 63):Int).toNat ((wrap64 ((Go.bits .and .i64 (DT) 63)+1)):Int).toNat)) dI JD (wrap64 (VG+1)))else(none))else(none))else(none))else(none)))=some r:=by first|(rw[FB]at H;exact H)|(simp only[FB]at H⊢;exact H)
            have aF7:(JD/2 ^ min (OG).toNat 64)=DT:=FB;have aF8:(OG)≤64→(JD/2 ^ (OG).toNat)=DT:=agY FB;replace H:=bd H;obtain⟨MV,A21,H⟩:=H;replace H:=zh H;obtain⟨I5,Vq,H⟩:=H;replace H:=nn H;obtain⟨c23,H⟩:=H;have EF:=eq_true c23;have SN:=decide_eq_true c23;replace H:=nn H;obtain⟨c24,H⟩:=H;have Ei:=eq_true c24;have Yj:=decide_eq_true c24;replace H:=nn H;obtain⟨c25,H⟩:=H;have Ej:=eq_true c25;have aaY:=decide_eq_true c25;try have aJX:(9223372036854775807<XE.size+((MV.extract ((Go.bits .and .i64 (DT) 63):Int).toNat ((wrap64 ((Go.bits .and .i64 (DT) 63)+1)):Int).toNat).size))=False:=by have h_:=c25;simp only[ByteArray.size_append,ByteArray.size_extract]at h_;refine eq_false ?_;simp only[decide_eq_true_eq]at*;omega
            try have axY:(9223372036854775807<XE.size+(MV.extract ((Go.bits .and .i64 (DT) 63):Int).toNat ((wrap64 ((Go.bits .and .i64 (DT) 63)+1)):Int).toNat).size)=False:=eq_false (Nat.not_lt.2 c25)
            have H':=ak H;clear H;go_wp2_with (refine gA func222 (sD.calls MV _ A21.out) ?_;intro nd)
            go_roundg k4
            case measure=>exact kl
            case rel=>exact⟨_,_,(by first|rfl|(simp;done)|(simp only[←FB]<;>(first|rfl|simp))|(simp[*];done)),rs,H',⟨kl⟩,dn⟩
          ·have H':=ak H;clear H;go_wp2;go_roundg k4
           case measure=>exact kl
           case rel=>exact⟨_,_,rs,rs,H',⟨kl⟩,dn⟩
   ·obtain rfl:=s1 H;go_wp2;go_ret;exact⟨rs,dn⟩
def oG.f(k:Nat)(a0:ByteArray):Option (List ByteArray×Bool):=if(a0.size:Int)>300 then(some ((([]:List ByteArray)),false))else((cO.f k a0).bind fun axZ=>((mF.f k axZ 40).bind fun ax0=>(some (ax0,true))))
theorem oG.calls{k:Nat}{a0:ByteArray}{r1:List ByteArray}{r2:Bool}{w:World}(h:oG.f k a0=some (r1,r2)):
  Calls Tryz.prog 212 #[.string a0] w fun e w'=>∃pW:Value,e= .returned (.tuple #[pW, .bool r2])∧Kd.R Kd.string 9 w' w.heap.size (fun _=>True) pW r1∧Below w.heap.size w w':=by
 have HB:=ak (Below.refl w.heap.size w);unfold oG.f at h;have H:=h;clear h;replace H:=sp H;rcases H with⟨c2,H⟩|⟨c2,H⟩
 ·have rQ:decide (300<(a0.size:Int))=true:=decide_eq_true c2;have y8:decide (300<a0.size)=true:=decide_eq_true (by omega);clear c2;obtain⟨aN9,apc⟩:=nm ([]:List ByteArray);rw[←apc.out]at H;obtain⟨rfl,rfl⟩:=s2 H;go_enter func212,ntmps212;go_wp2_with (refine DR 7 Kd.string 9 apc ?_;intro aN_ w3 SL hb;have ax1:=ak (aC SL (au (ul HB.out)));replace HB:=bs HB hb;clear hb SL)
  go_ret2;exact⟨_,er,ur ax1.out,ul HB.out⟩
 ·have rQ:decide (300<(a0.size:Int))=false:=decide_eq_false c2;have y8:decide (300<a0.size)=false:=decide_eq_false (by omega);clear c2;replace H:=bd H;obtain⟨axZ,A5,H⟩:=H;replace H:=bd H;obtain⟨ax0,A6,H⟩:=H;obtain⟨rfl,rfl⟩:=s2 H;go_enter func212,ntmps212;go_wp2_with (first|(refine gA func220 (cO.calls A5.out) ?_;intro nd)|(refine gV func219 (mF.calls A6.out) ?_;rintro aOa w7 ⟨ho0,hb⟩;have ax2:=ak (aC ho0 (au (ul HB.out)));replace HB:=bs HB hb;clear hb;(try clear ho0)))
  go_ret2;exact⟨_,er,ur ax2.out,ul HB.out⟩
def lK.l0:Nat→List ByteArray→Int→Int→Option (Int)
 |0,_,_,_=>none
 |k+1,x0,x3,x4=>if x4<(x0.length:Int)then(if 0≤x4 then(lK.l0 k x0 (wrap64 ((wrap64 (x3+((iD ByteArray.empty x0 x4).size:Int)))+1)) (wrap64 (x4+1)))else(none))else(some x3)
def lK.f(k:Nat)(l0:List ByteArray):Option (Int):=lK.l0 k l0 0 0
theorem lK.calls{k c0:Nat}{A0:Option Addr}{l0:List ByteArray}{r:Int}{w:World}(hr0:Kd.C Kd.string w A0 l0.length l0)(hc0:l0.length≤c0)(h:lK.f k l0=some r):
  Calls Tryz.prog 213 #[.slice A0 l0.length c0] w fun e w'=>e= .returned (.int .i64 r)∧dR w w':=by
 have HR0:=ak hr0;have vw:=ak hc0;clear hr0 hc0;unfold lK.f at h;have H:=h;clear h;have H':=ak H;clear H;go_enter func213,ntmps213;go_wp2;go_loopg [3,4] k (fun kq v3 v4 w'=>∃(eG:Int) (dI:Int),v3= .int .i64 eG∧v4= .int .i64 dI∧ah (lK.l0 kq l0 eG dI=some r)∧ah (kq≤k)∧dR w w')
 case atStart=>exact⟨_,_,rs,rs,H',⟨Nat.le_refl _⟩,dn⟩
 case round=>
  clear H';obtain⟨eG,dI,rfl,rfl,HA,yN,⟨m1,rfl⟩⟩:=hrel
  cases gk with
  |zero=>exact zz HA.out
  |succ k1=>
   obtain⟨H⟩:=HA;simp only[lK.l0]at H;replace H:=sd H;rcases H with⟨rQ,H⟩|⟨rQ,H⟩
   ·replace H:=nY H;obtain⟨jd,H⟩:=H;have H':=ak H;clear H;have atv:=zi dI;have atw:=zj dI l0.length;obtain⟨aJY,aF9,aEI⟩:=bV HR0.out dI atv atw;cases aF9;replace atv:=eq_true atv;replace atw:=eq_true atw;go_wp2;go_roundg k1
    case measure=>exact kl
    case rel=>exact⟨_,_,rs,rs,H',⟨kl⟩,dn⟩
   ·obtain rfl:=s1 H;go_wp2;go_ret;exact⟨rs,dn⟩
def oH.f(k:Nat)(a0:ByteArray):Option (Int×Bool):=if(a0.size:Int)>300 then(some (0,false))else((jE.f k a0).bind fun ax3=>(if ax3.2=true then(some (0,true))else((b_.f k a0).bind fun ax4=>((oG.f k a0).bind fun ax5=>((lK.f k ax4.1).bind fun ax6=>((lK.f k ax5.1).bind fun ax7=>(if ax6≤ax7 then(some (1,true))else(some (2,true)))))))))
theorem oH.calls{k:Nat}{a0:ByteArray}{r1:Int}{r2:Bool}{w:World}(h:oH.f k a0=some (r1,r2)):
  Calls Tryz.prog 195 #[.string a0] w fun e w'=>e= .returned (.tuple #[.int .i64 r1, .bool r2])∧Below w.heap.size w w':=by
 have HB:=ak (Below.refl w.heap.size w);unfold oH.f at h;have H:=h;clear h;replace H:=sp H;rcases H with⟨c2,H⟩|⟨c2,H⟩
 ·have rQ:decide (300<(a0.size:Int))=true:=decide_eq_true c2;have y8:decide (300<a0.size)=true:=decide_eq_true (by omega);clear c2;obtain⟨rfl,rfl⟩:=s2 H;go_enter func195,ntmps195;go_wp2;go_ret2;exact⟨er,ul HB.out⟩
 ·have rQ:decide (300<(a0.size:Int))=false:=decide_eq_false c2;have y8:decide (300<a0.size)=false:=decide_eq_false (by omega);clear c2;replace H:=bd H;obtain⟨⟨aOb,aOc⟩,A3,H⟩:=H
  (try dsimp only at H);replace H:=sb H;rcases H with⟨rfl,H⟩|⟨rfl,H⟩
  ·obtain⟨rfl,rfl⟩:=s2 H;go_enter func195,ntmps195;go_wp2_with (refine gV func210 (jE.calls A3.out) ?_;rintro ax8 w5 ⟨ho0,hb⟩;have FC:=ak (aC ho0 (au (ul HB.out)));replace HB:=bs HB hb;clear hb;(try clear ho0))
   go_ret2;exact⟨er,ul HB.out⟩
  ·replace H:=bd H;obtain⟨⟨aOd,aOe⟩,A6,H⟩:=H
   (try dsimp only at H);replace H:=bd H;obtain⟨⟨aOf,aOg⟩,A7,H⟩:=H
   (try dsimp only at H);replace H:=bd H;obtain⟨ax6,A8,H⟩:=H;replace H:=bd H;obtain⟨ax7,A9,H⟩:=H;replace H:=sd H;rcases H with⟨qj,H⟩|⟨qj,H⟩
   ·obtain⟨rfl,rfl⟩:=s2 H;go_enter func195,ntmps195;go_wp2_with (first|(refine gV func210 (jE.calls A3.out) ?_;rintro ax8 X0 ⟨ho0,hb⟩;have FC:=ak (aC ho0 (au (ul HB.out)));replace HB:=bs HB hb;clear hb;(try clear ho0))|(refine gV func211 (b_.calls A6.out) ?_;rintro aF_ w12 ⟨ho0,hb⟩;have G9:=ak (aC (dA ho0 (jC (ur FC.out))) (au (ul HB.out)));replace FC:=ak (dM (ur FC.out) (bZ ho0) hb);replace HB:=bs HB hb;clear hb;(try clear ho0))|(refine gV func212 (oG.calls A7.out) ?_;rintro aGa w13 ⟨ho0,hb⟩;have VH:=ak (aC (dA (dA ho0 (jC (ur FC.out))) (jC (ur G9.out))) (au (ul HB.out)));replace FC:=ak (dM (ur FC.out) (bZ ho0) hb);replace G9:=ak (dM (ur G9.out) (bZ ho0) hb);replace HB:=bs HB hb;clear hb;(try clear ho0);obtain⟨tZ,qC,MO⟩:=aI G9.out;subst MO)|(refine gA func213 (lK.calls (cu ((aj G9.out).2.2)) ((aj G9.out).2.1) A8.out) ?_;intro nd;obtain⟨agU,acL,XA⟩:=aI VH.out;subst XA)|(refine gA func213 (lK.calls (cu ((aj VH.out).2.2)) ((aj VH.out).2.1) A9.out) ?_;intro nd))
    go_ret2;exact⟨er,ul HB.out⟩
   ·obtain⟨rfl,rfl⟩:=s2 H;go_enter func195,ntmps195;go_wp2_with (first|(refine gV func210 (jE.calls A3.out) ?_;rintro ax8 w16 ⟨ho0,hb⟩;have FC:=ak (aC ho0 (au (ul HB.out)));replace HB:=bs HB hb;clear hb;(try clear ho0))|(refine gV func211 (b_.calls A6.out) ?_;rintro aF_ w17 ⟨ho0,hb⟩;have G9:=ak (aC (dA ho0 (jC (ur FC.out))) (au (ul HB.out)));replace FC:=ak (dM (ur FC.out) (bZ ho0) hb);replace HB:=bs HB hb;clear hb;(try clear ho0))|(refine gV func212 (oG.calls A7.out) ?_;rintro aGa w18 ⟨ho0,hb⟩;have VH:=ak (aC (dA (dA ho0 (jC (ur FC.out))) (jC (ur G9.out))) (au (ul HB.out)));replace FC:=ak (dM (ur FC.out) (bZ ho0) hb);replace G9:=ak (dM (ur G9.out) (bZ ho0) hb);replace HB:=bs HB hb;clear hb;(try clear ho0);obtain⟨aFY,aFZ,as6⟩:=aI G9.out;subst as6)|(refine gA func213 (lK.calls (cu ((aj G9.out).2.2)) ((aj G9.out).2.1) A8.out) ?_;intro nd;obtain⟨jh,iK,JE⟩:=aI VH.out;subst JE)|(refine gA func213 (lK.calls (cu ((aj VH.out).2.2)) ((aj VH.out).2.1) A9.out) ?_;intro nd))
    go_ret2;exact⟨er,ul HB.out⟩
def lG.f(k:Nat)(a0:ByteArray)(a1:Int):Option (List ByteArray×Bool):=if a1=0 then((jE.f k a0).bind fun apd=>(if apd.2=true then(some (apd.1,true))else(some ((([]:List ByteArray)),false))))else(if a1=1 then((b_.f k a0).bind fun ape=>(some (ape.1,ape.2)))else(if a1=2 then((oG.f k a0).bind fun apf=>(some (apf.1,apf.2)))else(some ((([]:List ByteArray)),false))))
theorem lG.calls{k:Nat}{a0:ByteArray}{a1:Int}{r1:List ByteArray}{r2:Bool}{w:World}(h:lG.f k a0 a1=some (r1,r2)):
  Calls Tryz.prog 196 #[.string a0, .int .i64 a1] w fun e w'=>∃pW:Value,e= .returned (.tuple #[pW, .bool r2])∧Kd.R Kd.string 9 w' w.heap.size (fun _=>True) pW r1∧Below w.heap.size w w':=by
 have HB:=ak (Below.refl w.heap.size w);unfold lG.f at h;have H:=h;clear h;replace H:=sq H;rcases H with⟨jd,yQ,H⟩|⟨c3,jd,yQ,H⟩
 ·replace H:=bd H;obtain⟨⟨aOh,aOi⟩,A4,H⟩:=H
  (try dsimp only at H);replace H:=sb H;rcases H with⟨rfl,H⟩|⟨rfl,H⟩
  ·obtain⟨rfl,rfl⟩:=s2 H;go_enter func196,ntmps196;go_wp2_with (refine gV func210 (jE.calls A4.out) ?_;rintro aGb w6 ⟨ho0,hb⟩;have aa2:=ak (aC ho0 (au (ul HB.out)));replace HB:=bs HB hb;clear hb;(try clear ho0))
   go_ret2;exact⟨_,er,ur aa2.out,ul HB.out⟩
  ·obtain⟨aOj,apg⟩:=nm ([]:List ByteArray);rw[←apg.out]at H;obtain⟨rfl,rfl⟩:=s2 H;go_enter func196,ntmps196;go_wp2_with (first|(refine gV func210 (jE.calls A4.out) ?_;rintro aGb w7 ⟨ho0,hb⟩;have aa2:=ak (aC ho0 (au (ul HB.out)));replace HB:=bs HB hb;clear hb;(try clear ho0))|(refine DR 30 Kd.string 9 apg ?_;intro aOk w8 ho9 hb;have ax9:=ak (aC (dA ho9 (jC (ur aa2.out))) (au (ul HB.out)));replace aa2:=ak (dM (ur aa2.out) (bZ ho9) hb);replace HB:=bs HB hb;clear hb ho9))
   go_ret2;exact⟨_,er,ur (ay ax9.out (fun _ hk=>trivial)),ul HB.out⟩
 ·replace H:=sq H;rcases H with⟨qj,uN,H⟩|⟨c10,qj,uN,H⟩
  ·replace H:=bd H;obtain⟨⟨aOl,aOm⟩,Yd,H⟩:=H
   (try dsimp only at H);obtain⟨rfl,rfl⟩:=s2 H;go_enter func196,ntmps196;go_wp2_with (refine gV func211 (b_.calls Yd.out) ?_;rintro aOn w12 ⟨ho0,hb⟩;have ax_:=ak (aC ho0 (au (ul HB.out)));replace HB:=bs HB hb;clear hb;(try clear ho0))
   go_ret2;exact⟨_,er,ur ax_.out,ul HB.out⟩
  ·replace H:=sq H;rcases H with⟨xE,Bz,H⟩|⟨c13,xE,Bz,H⟩
   ·replace H:=bd H;obtain⟨⟨aOo,aOp⟩,A14,H⟩:=H
    (try dsimp only at H);obtain⟨rfl,rfl⟩:=s2 H;go_enter func196,ntmps196;go_wp2_with (refine gV func212 (oG.calls A14.out) ?_;rintro aOq w15 ⟨ho0,hb⟩;have aya:=ak (aC ho0 (au (ul HB.out)));replace HB:=bs HB hb;clear hb;(try clear ho0))
    go_ret2;exact⟨_,er,ur aya.out,ul HB.out⟩
   ·obtain⟨aOr,aph⟩:=nm ([]:List ByteArray);rw[←aph.out]at H;obtain⟨rfl,rfl⟩:=s2 H;go_enter func196,ntmps196;go_wp2_with (refine DR 30 Kd.string 9 aph ?_;intro aOs w16 ayb hb;have ayc:=ak (aC ayb (au (ul HB.out)));replace HB:=bs HB hb;clear hb ayb)
    go_ret2;exact⟨_,er,ur ayc.out,ul HB.out⟩
def iI.f(k:Nat)(a0:ByteArray)(a1:ByteArray):Option ((List (fD))×List ByteArray×(List (m_))×Bool):=(bM.f k a0).bind fun aiW=>((oH.f k a1).bind fun aa3=>((lG.f k a1 aa3.1).bind fun aiX=>(if aiW.2=true then(if aa3.2=true then(if aiX.2=true then((jf.f k (⟨#[83,117,98,106,101,99,116]⟩:ByteArray) aiW.1).bind fun ayd=>(if ayd=true then((jr.f k aiX.1).bind fun aye=>(if aye=true then((some (([(⟨#[55,98,105,116]⟩:ByteArray),(⟨#[113,117,111,116,101,100,45,112,114,105,110,116,97,98,108,101]⟩:ByteArray),(⟨#[98,97,115,101,54,52]⟩:ByteArray)]:List ByteArray):List ByteArray)).bind fun DU=>(if 0≤aa3.1 then(if aa3.1<(DU.length:Int)then(some ((([(⟨(⟨#[83,117,98,106,101,99,116]⟩:ByteArray),aiW.1⟩:fD),(⟨(⟨#[67,111,110,116,101,110,116,45,84,121,112,101]⟩:ByteArray),(⟨#[116,101,120,116,47,112,108,97,105,110,59,32,99,104,97,114,115,101,116,61,117,116,102,45,56]⟩:ByteArray)⟩:fD),(⟨(⟨#[67,111,110,116,101,110,116,45,84,114,97,110,115,102,101,114,45,69,110,99,111,100,105,110,103]⟩:ByteArray),iD ByteArray.empty DU aa3.1⟩:fD)]:List (fD))),aiX.1,([]:List (m_)),true))else(none))else(none)))else(some (([]:List (fD)),([]:List ByteArray),([]:List (m_)),false))))else(some (([]:List (fD)),([]:List ByteArray),([]:List (m_)),false))))else(some (([]:List (fD)),([]:List ByteArray),([]:List (m_)),false)))else(some (([]:List (fD)),([]:List ByteArray),([]:List (m_)),false)))else(some (([]:List (fD)),([]:List ByteArray),([]:List (m_)),false)))))
def iI.T8:Bool×List (List Nat×List Nat):=(true,[([],[]),([],[]),([],[]),([],[]),([2,3],[2,3]),([4],[4]),([5],[5]),([0,1,6],[0,1,6]),([7],[7]),([],[]),([9,8,0,1,2,3,4,5,6,7,8,9],[8,9])])
def iI.B8:List Nat:=[0,0,0,0,12,28,60,127,255,0,1023]
theorem iI.atx:Ap .any (opsOf Tryz.f167 8)=iI.T8:=by kernel_rfl
theorem iI.aiY:Aq iI.T8.2 iI.B8=true:=by kernel_rfl
theorem iI.calls{k:Nat}{a0 a1:ByteArray}{r1:List (fD)}{r2:List ByteArray}{r3:List (m_)}{r4:Bool}{w:World}(h:iI.f k a0 a1=some (r1,r2,r3,r4)):
  Calls Tryz.prog 167 #[.string a0, .string a1] w fun e w'=>∃pW Gn IZ:Value,e= .returned (.tuple #[.agg #[pW,Gn,IZ], .bool r4])∧Kd.R rP 69 w' w.heap.size (fun _=>True) pW r1∧Kd.R Kd.string 9 w' w.heap.size (fun _=>True) Gn r2∧Kd.R k28 28 w' w.heap.size (fun k_=>some k_≠(pW:Value).ownBlock∧some k_≠(Gn:Value).ownBlock) IZ r3∧Below w.heap.size w w':=by
 have GN:=underlying28;have Fg:=underlying69;have HB:=ak (Below.refl w.heap.size w);unfold iI.f at h;have H:=h;clear h;replace H:=bd H;obtain⟨⟨zl,aOt⟩,A3,H⟩:=H
 (try dsimp only at H);replace H:=bd H;obtain⟨⟨G_,aOu⟩,A4,H⟩:=H
 (try dsimp only at H);replace H:=bd H;obtain⟨⟨Q5,aOv⟩,A5,H⟩:=H
 (try dsimp only at H);replace H:=sb H;rcases H with⟨rfl,H⟩|⟨rfl,H⟩
 ·replace H:=sb H;rcases H with⟨rfl,H⟩|⟨rfl,H⟩
  ·replace H:=sb H;rcases H with⟨rfl,H⟩|⟨rfl,H⟩
   ·replace H:=bd H;obtain⟨ayd,A9,H⟩:=H;replace H:=sb H;rcases H with⟨rfl,H⟩|⟨rfl,H⟩
    ·replace H:=bd H;obtain⟨aye,Yd,H⟩:=H;replace H:=sb H;rcases H with⟨rfl,H⟩|⟨rfl,H⟩
     ·replace H:=ny H;obtain⟨DU,ayf,H⟩:=H;replace H:=nY H;obtain⟨xE,H⟩:=H;replace H:=nY H;obtain⟨uy,H⟩:=H;obtain⟨XF,aa4⟩:=nm ([(⟨(⟨#[83,117,98,106,101,99,116]⟩:ByteArray),zl⟩:fD),(⟨(⟨#[67,111,110,116,101,110,116,45,84,121,112,101]⟩:ByteArray),(⟨#[116,101,120,116,47,112,108,97,105,110,59,32,99,104,97,114,115,101,116,61,117,116,102,45,56]⟩:ByteArray)⟩:fD),(⟨(⟨#[67,111,110,116,101,110,116,45,84,114,97,110,115,102,101,114,45,69,110,99,111,100,105,110,103]⟩:ByteArray),iD ByteArray.empty DU G_⟩:fD)]:List (fD));rw[←aa4.out]at H;obtain⟨rfl,rfl,rfl,rfl⟩:=s4 H;go_enter func167,ntmps167;try go_wp2_with (first|(refine bX HB 4 #[.slice none 0 0, .slice none 0 0, .slice none 0 0] 28 ?_;intro Ar w15 fU aa5 hb;replace HB:=bs HB hb;clear hb)|(refine gB func194 (bM.calls A3.out) ?_;intro w16 hb;replace fU:=kb fU hb;replace HB:=bz HB hb;clear hb)|(refine gB func195 (oH.calls A4.out) ?_;intro w17 hb;replace fU:=kb fU hb;replace HB:=bz HB hb;clear hb)|(refine gV func196 (lG.calls A5.out) ?_;rintro aiZ w18 ⟨ho0,hb⟩;have ng:=ak (aC ho0 (au bb));replace fU:=kb fU hb;replace HB:=bz HB hb;clear hb;(try clear ho0))|(refine bY HB 12 #[.string (⟨#[]⟩:ByteArray), .string (⟨#[]⟩:ByteArray)] 69 ?_;intro rX X_ mD aa6 hg hb;have wK:=Bo fU hg;have wL:=Bq fU hg;replace ng:=rb ng hb;replace fU:=kb fU hb;replace HB:=bz HB hb;clear hb hg;have ayg:=wL.out;have ayh:=wK.out;have z21:=Am mD.out)|(go_at_call 158;refine mB (jf.calls A9.out) ?_;intro w22 hb;replace ng:=rg ng hb;replace fU:=kp fU #[.slice none 0 0, .slice none 0 0, .slice none 0 0] hb;replace mD:=kp mD #[.string (⟨#[83,117,98,106,101,99,116]⟩:ByteArray), .string zl] hb;replace HB:=bz HB hb;clear hb;obtain⟨wY,uY,TS⟩:=aI ng.out;subst TS)|(go_at_call 114;refine mA (jr.calls (cu ((aj ng.out).2.2)) ((aj ng.out).2.1) Yd.out) ?_;intro nd;(try(rw[MW w22];generalize hq_:World.drewN w22 _=w22;have Eo:ah (Kd.R Kd.string 9 w22 w.heap.size (fun _=>True) (.slice wY Q5.length uY) Q5):=⟨by rw[←hq_];exact(ur ng.out)⟩;have Ep:ah (w22.heap[Ar]? =some (.cells #[.slice none 0 0, .slice none 0 0, .slice none 0 0] 28 (0,0))):=⟨by rw[←hq_];exact(ub fU.out)⟩;have G6:ah (w22.heap[rX]? =some (.cells #[.string (⟨#[83,117,98,106,101,99,116]⟩:ByteArray), .string zl] 69 (0,0))):=⟨by rw[←hq_];exact(ub mD.out)⟩;have LU:ah (Below w.heap.size w w22):=⟨by rw[←hq_];exact bb⟩;clear ng fU mD HB hq_;have ng:=Eo;have fU:=Ep;have mD:=G6;have HB:=LU;clear Eo Ep G6 LU)))|(refine Vt 54 Kd.string 9 [.string (⟨#[55,98,105,116]⟩:ByteArray), .string (⟨#[113,117,111,116,101,100,45,112,114,105,110,116,97,98,108,101]⟩:ByteArray), .string (⟨#[98,97,115,101,54,52]⟩:ByteArray)] ayf (dP.one (show Kd.M Kd.string _ _ _ (⟨#[55,98,105,116]⟩:ByteArray) [.string (⟨#[55,98,105,116]⟩:ByteArray)]from rfl) (dP.one (show Kd.M Kd.string _ _ _ (⟨#[113,117,111,116,101,100,45,112,114,105,110,116,97,98,108,101]⟩:ByteArray) [.string (⟨#[113,117,111,116,101,100,45,112,114,105,110,116,97,98,108,101]⟩:ByteArray)]from rfl) (dP.one (show Kd.M Kd.string _ _ _ (⟨#[98,97,115,101,54,52]⟩:ByteArray) [.string (⟨#[98,97,115,101,54,52]⟩:ByteArray)]from rfl) (dP.none _ _)))) ?_;intro aOw w24 aty hb;have vI:=ak (aC (dA aty (jC (ur ng.out))) (au bb));replace ng:=ak (dM (ur ng.out) (bZ aty) hb);replace fU:=kb fU hb;replace mD:=ak (xQ (g:=rX) (o:= .cells #[.string (⟨#[83,117,98,106,101,99,116]⟩:ByteArray), .string zl] 69 (0,0)) (ub mD.out) hb);replace HB:=bz HB hb;clear hb aty))
      replace ng:=ak (uh ng.out);replace vI:=ak (uh vI.out);replace fU:=ak (pG fU.out);replace mD:=ak (pG mD.out);replace HB:=ak (jG HB.out);obtain⟨ai0,XG,agZ⟩:=aI vI.out
      (first|subst agZ|(injection agZ with Dy Lp Dz;have Lr:=Dy.symm;have Ls:=Dz.symm;clear Dy Lp Dz;subst Lr;subst Ls));have atz:=zi G_;have atA:=zj G_ DU.length;obtain⟨VI,aGc,afd⟩:=bV (aj vI.out).2.2 G_ atz atA;cases aGc;replace atz:=eq_true atz;replace atA:=eq_true atA;refine MP (n:=11) (S:=fun w'=>w'.cell? ⟨rX,0,none⟩=some (.string (⟨#[83,117,98,106,101,99,116]⟩:ByteArray))∧w'.cell? ⟨rX,1,none⟩=some (.string zl)∧w'.cell? (VI.add (G_).toNat)=some (.string (iD ByteArray.empty DU G_))) (ds:=[]) #[false,false,false,false,false,false,false,false,false,false,false] (by kernel_rfl) rfl rfl ⟨(bf mD.out 0).trans rfl,(bf mD.out 1).trans rfl,afd⟩ (fun hHeld=>?_);refine D7 iI.atx iI.aiY (fun Vw HW_=>?_)
      generalize w24.drew=w26 at ng vI fU mD HB afd hHeld⊢
      refine pl 1 ?_;refine pl 2 ?_;refine pl 3 ?_;refine pl 4 ?_;refine tk 0 ?_;refine tk 5 ?_;refine pl 6 ?_;refine aoS (σ:=Value×Nat) 1 #[true,true,true,true,true,true,true,true,true,true,false] (fun s_=>[(62,s_.1),(14, .pointer (some ⟨s_.2,0,none⟩)),(63, .agg #[s_.1, .slice none 0 0, .slice none 0 0])]) (fun s_ w'=>(w'.cell? ⟨rX,0,none⟩=some (.string (⟨#[83,117,98,106,101,99,116]⟩:ByteArray))∧w'.cell? ⟨rX,1,none⟩=some (.string zl)∧w'.cell? (VI.add (G_).toNat)=some (.string (iD ByteArray.empty DU G_)))∧(Kd.R Kd.string 9 w' w.heap.size (fun k_=>some k_≠(.slice (some VI) DU.length XG:Value).ownBlock) (.slice wY Q5.length uY) Q5)∧(Kd.R Kd.string 9 w' w.heap.size (fun k_=>some k_≠(.slice wY Q5.length uY:Value).ownBlock) (.slice (some VI) DU.length XG) DU)∧(Kd.R rP 69 w' w.heap.size (fun k_=>k_≠rX) s_.1 XF)∧(w'.heap[Ar]? =some (.cells #[.slice none 0 0, .slice none 0 0, .slice none 0 0] 28 (0,0)))∧(w'.heap[rX]? =some (.cells #[.string (⟨#[83,117,98,106,101,99,116]⟩:ByteArray), .string zl] 69 (0,0)))∧(w'.heap[s_.2]? =some (.cells #[.slice none 0 0, .slice none 0 0, .slice none 0 0] 28 (0,0)))∧(w.heap.size≤s_.2)∧(w.heap.size≤s_.2)∧(Ar≠s_.2)∧(s_.2≠Ar)∧(rX≠s_.2)∧(s_.2≠rX)∧(Below w.heap.size w w')) ?_ ?_
      rotate_left
      ·intro aaV;refine axj (i:=7) (j:=9) (Ni:=some 62) (Nj:=some 14) #[true,true,true,true,true,true,true,true,false,false,false] #[true,true,true,true,true,true,true,false,false,true,false] rfl rfl rfl rfl (aiu Vw.out (by kernel_rfl)) (by decide) (by decide) (fun K hK=>?_) (fun K hK=>?_)
       ·skip
        refine MX rP _ 69 ?hg (N:=62) ?hd (xs:=([(⟨(⟨#[83,117,98,106,101,99,116]⟩:ByteArray),zl⟩:fD),(⟨(⟨#[67,111,110,116,101,110,116,45,84,121,112,101]⟩:ByteArray),(⟨#[116,101,120,116,47,112,108,97,105,110,59,32,99,104,97,114,115,101,116,61,117,116,102,45,56]⟩:ByteArray)⟩:fD),(⟨(⟨#[67,111,110,116,101,110,116,45,84,114,97,110,115,102,101,114,45,69,110,99,111,100,105,110,103]⟩:ByteArray),iD ByteArray.empty DU G_⟩:fD)]:List (fD))) (inner:=[.string (⟨#[83,117,98,106,101,99,116]⟩:ByteArray), .string zl, .string (⟨#[67,111,110,116,101,110,116,45,84,121,112,101]⟩:ByteArray), .string (⟨#[116,101,120,116,47,112,108,97,105,110,59,32,99,104,97,114,115,101,116,61,117,116,102,45,56]⟩:ByteArray), .string (⟨#[67,111,110,116,101,110,116,45,84,114,97,110,115,102,101,114,45,69,110,99,111,100,105,110,103]⟩:ByteArray), .string (iD ByteArray.empty DU G_)]) (ok:=fun _=>True) (yt:=fun _=>True) ?hr ?hp (fun _ hk=>hk) trivial (Below.refl _ _) (Nat.le_refl _) (by simp) ?_;(case hd=>rfl);(case hg=>rfl);(case hr=>first|(go_simp;done)|(go_simp;rfl));(case hp=>exact(dP.c2 (show Kd.M rP _ _ _ (⟨(⟨#[83,117,98,106,101,99,116]⟩:ByteArray),zl⟩:fD) [.string (⟨#[83,117,98,106,101,99,116]⟩:ByteArray), .string zl]from(wX _ _ _ (⟨(⟨#[83,117,98,106,101,99,116]⟩:ByteArray),zl⟩:fD))) (dP.c2 (show Kd.M rP _ _ _ (⟨(⟨#[67,111,110,116,101,110,116,45,84,121,112,101]⟩:ByteArray),(⟨#[116,101,120,116,47,112,108,97,105,110,59,32,99,104,97,114,115,101,116,61,117,116,102,45,56]⟩:ByteArray)⟩:fD) [.string (⟨#[67,111,110,116,101,110,116,45,84,121,112,101]⟩:ByteArray), .string (⟨#[116,101,120,116,47,112,108,97,105,110,59,32,99,104,97,114,115,101,116,61,117,116,102,45,56]⟩:ByteArray)]from(wX _ _ _ (⟨(⟨#[67,111,110,116,101,110,116,45,84,121,112,101]⟩:ByteArray),(⟨#[116,101,120,116,47,112,108,97,105,110,59,32,99,104,97,114,115,101,116,61,117,116,102,45,56]⟩:ByteArray)⟩:fD))) (dP.c2 (show Kd.M rP _ _ _ (⟨(⟨#[67,111,110,116,101,110,116,45,84,114,97,110,115,102,101,114,45,69,110,99,111,100,105,110,103]⟩:ByteArray),iD ByteArray.empty DU G_⟩:fD) [.string (⟨#[67,111,110,116,101,110,116,45,84,114,97,110,115,102,101,114,45,69,110,99,111,100,105,110,103]⟩:ByteArray), .string (iD ByteArray.empty DU G_)]from(wX _ _ _ (⟨(⟨#[67,111,110,116,101,110,116,45,84,114,97,110,115,102,101,114,45,69,110,99,111,100,105,110,103]⟩:ByteArray),iD ByteArray.empty DU G_⟩:fD))) (dP.none _ _)))));intro atC w28 ai1 hb EG CO;have ac6:=(hb.cell (World.block_lt_of_cell? _ _ (hHeld.2.2))).trans (hHeld.2.2);clear EG CO
        (first|rw[←aa4.out]at ai1|(simp only[Int.reduceToNat]at ai1;rw[←aa4.out]at ai1));have OH:=ak (aC (nG ai1 (g:=rX) (o:= .cells #[.string (⟨#[83,117,98,106,101,99,116]⟩:ByteArray), .string zl] 69 (0,0)) (ub mD.out)) (au bb));replace ng:=rb ng hb;replace vI:=rb vI hb;replace fU:=kb fU hb;replace mD:=ak (xQ (g:=rX) (o:= .cells #[.string (⟨#[83,117,98,106,101,99,116]⟩:ByteArray), .string zl] 69 (0,0)) (ub mD.out) hb);replace HB:=bz HB hb;clear hb ai1;obtain⟨amX,amY,aa7⟩:=aI OH.out
        (first|subst aa7|(injection aa7 with Dy Lp Dz;have Lr:=Dy.symm;have Ls:=Dz.symm;clear Dy Lp Dz;subst Lr;subst Ls));refine hK.out _ _ ⟨(bf mD.out 0).trans rfl,(bf mD.out 1).trans rfl,ac6⟩ (fun hHeld=>?_);clear hK K;refine nrm ?_;refine pl 8 ?_;refine o1 9 (fun K hK=>?_);refine En ?hg (N:=14) ?hd (cs:=#[.slice none 0 0, .slice none 0 0, .slice none 0 0]) (t:=28) ?hr ?_;(case hd=>rfl);(case hg=>rfl);(case hr=>first|(go_simp;done)|(go_simp;rfl));intro uP hg w31 hbox hb;have ac6:=(hb.cell (World.block_lt_of_cell? _ _ (hHeld.2.2))).trans (hHeld.2.2);have wV:=ak (hbox);have afe:=ak ((by rw[hg];exact(au bb):w.heap.size≤uP));have aff:=ak ((by rw[hg];exact(au bb):w.heap.size≤uP));have z_:=Bo fU hg;have Aa:=Bq fU hg;have sN:=ak ((by rw[hg];exact Nat.ne_of_lt (xX (g:=rX) (o:= .cells #[.string (⟨#[83,117,98,106,101,99,116]⟩:ByteArray), .string zl] 69 (0,0)) (ub mD.out)):rX≠uP));have Ac:=ak ((by rw[hg];exact Nat.ne_of_gt (xX (g:=rX) (o:= .cells #[.string (⟨#[83,117,98,106,101,99,116]⟩:ByteArray), .string zl] 69 (0,0)) (ub mD.out)):uP≠rX));replace ng:=rb ng hb;replace vI:=rb vI hb;replace OH:=rb OH hb;replace fU:=kb fU hb;replace mD:=ak (xQ (g:=rX) (o:= .cells #[.string (⟨#[83,117,98,106,101,99,116]⟩:ByteArray), .string zl] 69 (0,0)) (ub mD.out) hb);replace HB:=bz HB hb;clear hb hbox hg;refine hK.out _ _ ⟨(bf mD.out 0).trans rfl,(bf mD.out 1).trans rfl,ac6⟩ (fun hHeld=>?_);clear hK K;refine nrm ?_;exact OB (by simp only[Ik,Act.put,C_,Dc,l_c]<;>rfl) (aaV (.slice amX XF.length amY,uP) _ ⟨hHeld,(ur (ay ng.out (fun _ hk=>hk.2))),(ur (ay vI.out (fun _ hk=>hk.2))),(ur (ay OH.out (fun _ hk=>hk.2))),(ub fU.out),(ub mD.out),(ub wV.out),afe.out,aff.out,z_.out,Aa.out,sN.out,Ac.out,bb⟩)
       ·skip
        refine En ?hg (N:=14) ?hd (cs:=#[.slice none 0 0, .slice none 0 0, .slice none 0 0]) (t:=28) ?hr ?_;(case hd=>rfl);(case hg=>rfl);(case hr=>first|(go_simp;done)|(go_simp;rfl));intro uP hg w28 hbox hb;have ac6:=(hb.cell (World.block_lt_of_cell? _ _ (hHeld.2.2))).trans (hHeld.2.2);have wV:=ak (hbox);have afe:=ak ((by rw[hg];exact(au bb):w.heap.size≤uP));have aff:=ak ((by rw[hg];exact(au bb):w.heap.size≤uP));have z_:=Bo fU hg;have Aa:=Bq fU hg;have sN:=ak ((by rw[hg];exact Nat.ne_of_lt (xX (g:=rX) (o:= .cells #[.string (⟨#[83,117,98,106,101,99,116]⟩:ByteArray), .string zl] 69 (0,0)) (ub mD.out)):rX≠uP));have Ac:=ak ((by rw[hg];exact Nat.ne_of_gt (xX (g:=rX) (o:= .cells #[.string (⟨#[83,117,98,106,101,99,116]⟩:ByteArray), .string zl] 69 (0,0)) (ub mD.out)):uP≠rX));replace ng:=rb ng hb;replace vI:=rb vI hb;replace fU:=kb fU hb;replace mD:=ak (xQ (g:=rX) (o:= .cells #[.string (⟨#[83,117,98,106,101,99,116]⟩:ByteArray), .string zl] 69 (0,0)) (ub mD.out) hb);replace HB:=bz HB hb;clear hb hbox hg;refine hK.out _ _ ⟨(bf mD.out 0).trans rfl,(bf mD.out 1).trans rfl,ac6⟩ (fun hHeld=>?_);clear hK K;refine nrm ?_;refine o1 7 (fun K hK=>?_);refine MX rP _ 69 ?hg (N:=62) ?hd (xs:=([(⟨(⟨#[83,117,98,106,101,99,116]⟩:ByteArray),zl⟩:fD),(⟨(⟨#[67,111,110,116,101,110,116,45,84,121,112,101]⟩:ByteArray),(⟨#[116,101,120,116,47,112,108,97,105,110,59,32,99,104,97,114,115,101,116,61,117,116,102,45,56]⟩:ByteArray)⟩:fD),(⟨(⟨#[67,111,110,116,101,110,116,45,84,114,97,110,115,102,101,114,45,69,110,99,111,100,105,110,103]⟩:ByteArray),iD ByteArray.empty DU G_⟩:fD)]:List (fD))) (inner:=[.string (⟨#[83,117,98,106,101,99,116]⟩:ByteArray), .string zl, .string (⟨#[67,111,110,116,101,110,116,45,84,121,112,101]⟩:ByteArray), .string (⟨#[116,101,120,116,47,112,108,97,105,110,59,32,99,104,97,114,115,101,116,61,117,116,102,45,56]⟩:ByteArray), .string (⟨#[67,111,110,116,101,110,116,45,84,114,97,110,115,102,101,114,45,69,110,99,111,100,105,110,103]⟩:ByteArray), .string (iD ByteArray.empty DU G_)]) (ok:=fun _=>True) (yt:=fun _=>True) ?hr ?hp (fun _ hk=>hk) trivial (Below.refl _ _) (Nat.le_refl _) (by simp) ?_;(case hd=>rfl);(case hg=>rfl);(case hr=>first|(go_simp;done)|(go_simp;rfl));(case hp=>exact(dP.c2 (show Kd.M rP _ _ _ (⟨(⟨#[83,117,98,106,101,99,116]⟩:ByteArray),zl⟩:fD) [.string (⟨#[83,117,98,106,101,99,116]⟩:ByteArray), .string zl]from(wX _ _ _ (⟨(⟨#[83,117,98,106,101,99,116]⟩:ByteArray),zl⟩:fD))) (dP.c2 (show Kd.M rP _ _ _ (⟨(⟨#[67,111,110,116,101,110,116,45,84,121,112,101]⟩:ByteArray),(⟨#[116,101,120,116,47,112,108,97,105,110,59,32,99,104,97,114,115,101,116,61,117,116,102,45,56]⟩:ByteArray)⟩:fD) [.string (⟨#[67,111,110,116,101,110,116,45,84,121,112,101]⟩:ByteArray), .string (⟨#[116,101,120,116,47,112,108,97,105,110,59,32,99,104,97,114,115,101,116,61,117,116,102,45,56]⟩:ByteArray)]from(wX _ _ _ (⟨(⟨#[67,111,110,116,101,110,116,45,84,121,112,101]⟩:ByteArray),(⟨#[116,101,120,116,47,112,108,97,105,110,59,32,99,104,97,114,115,101,116,61,117,116,102,45,56]⟩:ByteArray)⟩:fD))) (dP.c2 (show Kd.M rP _ _ _ (⟨(⟨#[67,111,110,116,101,110,116,45,84,114,97,110,115,102,101,114,45,69,110,99,111,100,105,110,103]⟩:ByteArray),iD ByteArray.empty DU G_⟩:fD) [.string (⟨#[67,111,110,116,101,110,116,45,84,114,97,110,115,102,101,114,45,69,110,99,111,100,105,110,103]⟩:ByteArray), .string (iD ByteArray.empty DU G_)]from(wX _ _ _ (⟨(⟨#[67,111,110,116,101,110,116,45,84,114,97,110,115,102,101,114,45,69,110,99,111,100,105,110,103]⟩:ByteArray),iD ByteArray.empty DU G_⟩:fD))) (dP.none _ _)))));intro atC w29 aa8 hb EG CO;have ac6:=(hb.cell (World.block_lt_of_cell? _ _ (hHeld.2.2))).trans (hHeld.2.2);clear EG CO
        (first|rw[←aa4.out]at aa8|(simp only[Int.reduceToNat]at aa8;rw[←aa4.out]at aa8));have OH:=ak (aC (nG aa8 (g:=rX) (o:= .cells #[.string (⟨#[83,117,98,106,101,99,116]⟩:ByteArray), .string zl] 69 (0,0)) (ub mD.out)) (au bb));replace ng:=rb ng hb;replace vI:=rb vI hb;replace fU:=kb fU hb;replace mD:=ak (xQ (g:=rX) (o:= .cells #[.string (⟨#[83,117,98,106,101,99,116]⟩:ByteArray), .string zl] 69 (0,0)) (ub mD.out) hb);replace wV:=kb wV hb;replace HB:=bz HB hb;clear hb aa8;obtain⟨atD,atE,amZ⟩:=aI OH.out
        (first|subst amZ|(injection amZ with Dy Lp Dz;have Lr:=Dy.symm;have Ls:=Dz.symm;clear Dy Lp Dz;subst Lr;subst Ls));refine hK.out _ _ ⟨(bf mD.out 0).trans rfl,(bf mD.out 1).trans rfl,ac6⟩ (fun hHeld=>?_);clear hK K;refine nrm ?_;refine pl 8 ?_;exact OB (by simp only[Ik,Act.put,C_,Dc,l_c]<;>rfl) (aaV (.slice atD XF.length atE,uP) _ ⟨hHeld,(ur (ay ng.out (fun _ hk=>hk.2))),(ur (ay vI.out (fun _ hk=>hk.2))),(ur (ay OH.out (fun _ hk=>hk.2))),(ub fU.out),(ub mD.out),(ub wV.out),afe.out,aff.out,z_.out,Aa.out,sN.out,Ac.out,bb⟩)
      rintro⟨atC,uP⟩ w32 ⟨hS_,h0_,h1_,h2_,h3_,h4_,h5_,h6_,h7_,h8_,h9_,atF,atG,atH⟩;have Eo:ah (Kd.R Kd.string 9 w32 w.heap.size (fun k_=>some k_≠(.slice (some VI) DU.length XG:Value).ownBlock) (.slice wY Q5.length uY) Q5):=⟨h0_⟩
      have Ep:ah (Kd.R Kd.string 9 w32 w.heap.size (fun k_=>some k_≠(.slice wY Q5.length uY:Value).ownBlock) (.slice (some VI) DU.length XG) DU):=⟨h1_⟩
      have G6:ah (Kd.R rP 69 w32 w.heap.size (fun k_=>k_≠rX) atC XF):=⟨h2_⟩
      have LU:ah (w32.heap[Ar]? =some (.cells #[.slice none 0 0, .slice none 0 0, .slice none 0 0] 28 (0,0))):=⟨h3_⟩
      have Vx:ah (w32.heap[rX]? =some (.cells #[.string (⟨#[83,117,98,106,101,99,116]⟩:ByteArray), .string zl] 69 (0,0))):=⟨h4_⟩
      have Ye:ah (w32.heap[uP]? =some (.cells #[.slice none 0 0, .slice none 0 0, .slice none 0 0] 28 (0,0))):=⟨h5_⟩
      have n6_:ah (w.heap.size≤uP):=⟨h6_⟩
      have n7_:ah (w.heap.size≤uP):=⟨h7_⟩
      have n8_:ah (Ar≠uP):=⟨h8_⟩
      have n9_:ah (uP≠Ar):=⟨h9_⟩
      have aa9:ah (rX≠uP):=⟨atF⟩
      have ayi:ah (uP≠rX):=⟨atG⟩
      have ayj:ah (Below w.heap.size w w32):=⟨atH⟩
      clear ng vI fU mD HB h0_ h1_ h2_ h3_ h4_ h5_ h6_ h7_ h8_ h9_ atF atG atH;have ng:=Eo;have vI:=Ep;have OH:=G6;have fU:=LU;have mD:=Vx;have wV:=Ye;have afe:=n6_;have aff:=n7_;have z_:=n8_;have Aa:=n9_;have sN:=aa9;have Ac:=ayi;have HB:=ayj;clear Eo Ep G6 LU Vx Ye n6_ n7_ n8_ n9_ aa9 ayi ayj;have hHeld:w32.cell? ⟨rX,0,none⟩=some (.string (⟨#[83,117,98,106,101,99,116]⟩:ByteArray))∧w32.cell? ⟨rX,1,none⟩=some (.string zl)∧w32.cell? (VI.add (G_).toNat)=some (.string (iD ByteArray.empty DU G_)):=hS_;obtain⟨VJ,Q7,XH⟩:=aI OH.out
      (first|subst XH|(injection XH with Dy Lp Dz;have Lr:=Dy.symm;have Ls:=Dz.symm;clear Dy Lp Dz;subst Lr;subst Ls));refine OB (a':=?_) ?_ ?_
      rotate_left
      ·simp only[Ik,Act.put,C_,Dc,l_c];rfl
      refine o1 10 (fun K hK=>?_);have aOx:w32.cell? ⟨uP,0,none⟩=some (.slice none 0 0):=(bf wV.out 0).trans rfl;have aJZ:=gq wV.out 0;have aEJ:=z_.out;have aEK:=sN.out;have aEL:=Aa.out;have aEM:=Ac.out;have aOy:w32.cell? ⟨uP,1,none⟩=some (.slice none 0 0):=(bf wV.out 1).trans rfl;have aJ0:=gq wV.out 1;have aEN:=z_.out;have aEO:=sN.out;have aEP:=Aa.out;have aEQ:=Ac.out;have aOz:w32.cell? ⟨uP,2,none⟩=some (.slice none 0 0):=(bf wV.out 2).trans rfl;have aJ1:=gq wV.out 2;have aER:=z_.out;have aES:=sN.out;have aET:=Aa.out;have aEU:=Ac.out;refine LV (w1:=?_) (by rfl) rfl ?_ ?_
      rotate_left
      ·go_simp;rfl
      refine hK.out _ _ ⟨((cell_far (p:=⟨uP,_,none⟩) sN.out _).trans (((cell_far (p:=⟨uP,_,none⟩) sN.out _).trans (((cell_far (p:=⟨uP,_,none⟩) sN.out _).trans (hHeld.1)))))),((cell_far (p:=⟨uP,_,none⟩) sN.out _).trans (((cell_far (p:=⟨uP,_,none⟩) sN.out _).trans (((cell_far (p:=⟨uP,_,none⟩) sN.out _).trans (hHeld.2.1)))))),((cell_far (p:=⟨uP,_,none⟩) (by first|exact yS (vS vI.out wV.out (by decide))|(rw[add_block];exact yS (vS vI.out wV.out (by decide)))|(show(Addr.add _ _).block≠_;rw[add_block];exact yS (vS vI.out wV.out (by decide)))|(dsimp only;exact yS (vS vI.out wV.out (by decide)))) _).trans (((cell_far (p:=⟨uP,_,none⟩) (by first|exact yS (vS vI.out wV.out (by decide))|(rw[add_block];exact yS (vS vI.out wV.out (by decide)))|(show(Addr.add _ _).block≠_;rw[add_block];exact yS (vS vI.out wV.out (by decide)))|(dsimp only;exact yS (vS vI.out wV.out (by decide)))) _).trans (((cell_far (p:=⟨uP,_,none⟩) (by first|exact yS (vS vI.out wV.out (by decide))|(rw[add_block];exact yS (vS vI.out wV.out (by decide)))|(show(Addr.add _ _).block≠_;rw[add_block];exact yS (vS vI.out wV.out (by decide)))|(dsimp only;exact yS (vS vI.out wV.out (by decide)))) _).trans (hHeld.2.2))))))⟩ (fun hHeld=>?_);clear hK K;refine Vy (KE Vw.out (by kernel_rfl)) ?_;have aJ2:=Aa.out;have aJ3:=z_.out;have aJ4:=Ac.out;have aJ5:=sN.out;have z39:=jY wV.out;have z40:=jY fU.out;have aJ6:=jY (FD (cs':=#[.slice VJ XF.length Q7, .slice wY Q5.length uY, .slice none 0 0]) (FD (cs':=#[.slice VJ XF.length Q7, .slice none 0 0, .slice none 0 0]) (FD (cs':=#[.slice VJ XF.length Q7, .slice none 0 0, .slice none 0 0]) (FD (cs':=#[.slice VJ XF.length Q7, .slice none 0 0, .slice none 0 0]) wV.out 0 (.slice VJ XF.length Q7) rfl) 1 (.slice none 0 0) rfl) 2 (.slice none 0 0) rfl) 1 (.slice wY Q5.length uY) rfl);try go_wp2
      refine bodyPost_ret (gu rfl _ _ Ar 28 #[.slice VJ XF.length Q7, .slice wY Q5.length uY, .slice none 0 0] (0,0) _ rfl bq underlying28 rfl (by kernel_rfl)) rfl ?_;exact⟨_,_,_,er,rr,rr,nx,bb⟩
     ·obtain⟨rfl,rfl,rfl,rfl⟩:=s4 H;go_enter func167,ntmps167;go_wp2_with (first|(refine bX HB 4 #[.slice none 0 0, .slice none 0 0, .slice none 0 0] 28 ?_;intro Ar w41 fU aa5 hb;replace HB:=bs HB hb;clear hb)|(refine gB func194 (bM.calls A3.out) ?_;intro w42 hb;replace fU:=kb fU hb;replace HB:=bz HB hb;clear hb)|(refine gB func195 (oH.calls A4.out) ?_;intro w43 hb;replace fU:=kb fU hb;replace HB:=bz HB hb;clear hb)|(refine gV func196 (lG.calls A5.out) ?_;rintro aiZ w44 ⟨ho0,hb⟩;have ng:=ak (aC ho0 (au bb));replace fU:=kb fU hb;replace HB:=bz HB hb;clear hb;(try clear ho0))|(refine bY HB 12 #[.string (⟨#[]⟩:ByteArray), .string (⟨#[]⟩:ByteArray)] 69 ?_;intro rX w45 mD aa6 hg hb;have wK:=Bo fU hg;have wL:=Bq fU hg;replace ng:=rb ng hb;replace fU:=kb fU hb;replace HB:=bz HB hb;clear hb hg;have apj:=wL.out;have apk:=wK.out;have z47:=Am mD.out)|(go_at_call 158;refine mB (jf.calls A9.out) ?_;intro Xx hb;replace ng:=rg ng hb;replace fU:=kp fU #[.slice none 0 0, .slice none 0 0, .slice none 0 0] hb;replace mD:=kp mD #[.string (⟨#[83,117,98,106,101,99,116]⟩:ByteArray), .string zl] hb;replace HB:=bz HB hb;clear hb;obtain⟨DV,DW,ac7⟩:=aI ng.out;subst ac7)|(go_at_call 114;refine mA (jr.calls (cu ((aj ng.out).2.2)) ((aj ng.out).2.1) Yd.out) ?_;intro nd;(try(rw[MW Xx];generalize hq_:World.drewN Xx _=Xx;have Eo:ah (Kd.R Kd.string 9 Xx w.heap.size (fun _=>True) (.slice DV Q5.length DW) Q5):=⟨by rw[←hq_];exact(ur ng.out)⟩;have Ep:ah (Xx.heap[Ar]? =some (.cells #[.slice none 0 0, .slice none 0 0, .slice none 0 0] 28 (0,0))):=⟨by rw[←hq_];exact(ub fU.out)⟩;have G6:ah (Xx.heap[rX]? =some (.cells #[.string (⟨#[83,117,98,106,101,99,116]⟩:ByteArray), .string zl] 69 (0,0))):=⟨by rw[←hq_];exact(ub mD.out)⟩;have LU:ah (Below w.heap.size w Xx):=⟨by rw[←hq_];exact bb⟩;clear ng fU mD HB hq_;have ng:=Eo;have fU:=Ep;have mD:=G6;have HB:=LU;clear Eo Ep G6 LU));have z50:=jY fU.out))
      refine bodyPost_ret (gu rfl _ _ Ar 28 #[.slice none 0 0, .slice none 0 0, .slice none 0 0] (0,0) _ rfl bq underlying28 rfl (by kernel_rfl)) rfl ?_;exact⟨_,_,_,er,nx,nx,nx,bb⟩
    ·obtain⟨rfl,rfl,rfl,rfl⟩:=s4 H;go_enter func167,ntmps167;go_wp2_with (first|(refine bX HB 4 #[.slice none 0 0, .slice none 0 0, .slice none 0 0] 28 ?_;intro Ar w51 fU aa5 hb;replace HB:=bs HB hb;clear hb)|(refine gB func194 (bM.calls A3.out) ?_;intro w52 hb;replace fU:=kb fU hb;replace HB:=bz HB hb;clear hb)|(refine gB func195 (oH.calls A4.out) ?_;intro w53 hb;replace fU:=kb fU hb;replace HB:=bz HB hb;clear hb)|(refine gV func196 (lG.calls A5.out) ?_;rintro aiZ w54 ⟨ho0,hb⟩;have ng:=ak (aC ho0 (au bb));replace fU:=kb fU hb;replace HB:=bz HB hb;clear hb;(try clear ho0))|(refine bY HB 12 #[.string (⟨#[]⟩:ByteArray), .string (⟨#[]⟩:ByteArray)] 69 ?_;intro rX w55 mD aa6 hg hb;have wK:=Bo fU hg;have wL:=Bq fU hg;replace ng:=rb ng hb;replace fU:=kb fU hb;replace HB:=bz HB hb;clear hb hg;have ayk:=wL.out;have ayl:=wK.out;have z57:=Am mD.out)|(go_at_call 158;refine mB (jf.calls A9.out) ?_;intro w58 hb;replace ng:=rg ng hb;replace fU:=kp fU #[.slice none 0 0, .slice none 0 0, .slice none 0 0] hb;replace mD:=kp mD #[.string (⟨#[83,117,98,106,101,99,116]⟩:ByteArray), .string zl] hb;replace HB:=bz HB hb;clear hb;have z59:=jY fU.out))
     refine bodyPost_ret (gu rfl _ _ Ar 28 #[.slice none 0 0, .slice none 0 0, .slice none 0 0] (0,0) _ rfl bq underlying28 rfl (by kernel_rfl)) rfl ?_;exact⟨_,_,_,er,nx,nx,nx,bb⟩
   ·obtain⟨rfl,rfl,rfl,rfl⟩:=s4 H;go_enter func167,ntmps167;go_wp2_with (first|(refine bX HB 4 #[.slice none 0 0, .slice none 0 0, .slice none 0 0] 28 ?_;intro Ar w60 fU aa5 hb;replace HB:=bs HB hb;clear hb)|(refine gB func194 (bM.calls A3.out) ?_;intro w61 hb;replace fU:=kb fU hb;replace HB:=bz HB hb;clear hb)|(refine gB func195 (oH.calls A4.out) ?_;intro w62 hb;replace fU:=kb fU hb;replace HB:=bz HB hb;clear hb)|(refine gV func196 (lG.calls A5.out) ?_;rintro aiZ w63 ⟨ho0,hb⟩;have ng:=ak (aC ho0 (au bb));replace fU:=kb fU hb;replace HB:=bz HB hb;clear hb;(try clear ho0))|(refine bY HB 12 #[.string (⟨#[]⟩:ByteArray), .string (⟨#[]⟩:ByteArray)] 69 ?_;intro rX w64 mD aa6 hg hb;have wK:=Bo fU hg;have wL:=Bq fU hg;replace ng:=rb ng hb;replace fU:=kb fU hb;replace HB:=bz HB hb;clear hb hg;have aym:=wL.out;have ayn:=wK.out;have z66:=Am mD.out;have z67:=jY fU.out))
    refine bodyPost_ret (gu rfl _ _ Ar 28 #[.slice none 0 0, .slice none 0 0, .slice none 0 0] (0,0) _ rfl bq underlying28 rfl (by kernel_rfl)) rfl ?_;exact⟨_,_,_,er,nx,nx,nx,bb⟩
  ·obtain⟨rfl,rfl,rfl,rfl⟩:=s4 H;go_enter func167,ntmps167;go_wp2_with (first|(refine bX HB 4 #[.slice none 0 0, .slice none 0 0, .slice none 0 0] 28 ?_;intro Ar w68 fU aa5 hb;replace HB:=bs HB hb;clear hb)|(refine gB func194 (bM.calls A3.out) ?_;intro w69 hb;replace fU:=kb fU hb;replace HB:=bz HB hb;clear hb)|(refine gB func195 (oH.calls A4.out) ?_;intro w70 hb;replace fU:=kb fU hb;replace HB:=bz HB hb;clear hb)|(refine gV func196 (lG.calls A5.out) ?_;rintro aiZ w71 ⟨ho0,hb⟩;have ng:=ak (aC ho0 (au bb));replace fU:=kb fU hb;replace HB:=bz HB hb;clear hb;(try clear ho0))|(refine bY HB 12 #[.string (⟨#[]⟩:ByteArray), .string (⟨#[]⟩:ByteArray)] 69 ?_;intro rX w72 mD aa6 hg hb;have wK:=Bo fU hg;have wL:=Bq fU hg;replace ng:=rb ng hb;replace fU:=kb fU hb;replace HB:=bz HB hb;clear hb hg;have aJ7:=wL.out;have aJ8:=wK.out;have z74:=Am mD.out;have z75:=jY fU.out))
   refine bodyPost_ret (gu rfl _ _ Ar 28 #[.slice none 0 0, .slice none 0 0, .slice none 0 0] (0,0) _ rfl bq underlying28 rfl (by kernel_rfl)) rfl ?_;exact⟨_,_,_,er,nx,nx,nx,bb⟩
 ·obtain⟨rfl,rfl,rfl,rfl⟩:=s4 H;go_enter func167,ntmps167;go_wp2_with (first|(refine bX HB 4 #[.slice none 0 0, .slice none 0 0, .slice none 0 0] 28 ?_;intro Ar w76 fU aa5 hb;replace HB:=bs HB hb;clear hb)|(refine gB func194 (bM.calls A3.out) ?_;intro w77 hb;replace fU:=kb fU hb;replace HB:=bz HB hb;clear hb)|(refine gB func195 (oH.calls A4.out) ?_;intro w78 hb;replace fU:=kb fU hb;replace HB:=bz HB hb;clear hb)|(refine gV func196 (lG.calls A5.out) ?_;rintro aiZ w79 ⟨ho0,hb⟩;have ng:=ak (aC ho0 (au bb));replace fU:=kb fU hb;replace HB:=bz HB hb;clear hb;(try clear ho0))|(refine bY HB 12 #[.string (⟨#[]⟩:ByteArray), .string (⟨#[]⟩:ByteArray)] 69 ?_;intro rX w80 mD aa6 hg hb;have wK:=Bo fU hg;have wL:=Bq fU hg;replace ng:=rb ng hb;replace fU:=kb fU hb;replace HB:=bz HB hb;clear hb hg;have aJ9:=wL.out;have aJ_:=wK.out;have z82:=Am mD.out;have z83:=jY fU.out))
  refine bodyPost_ret (gu rfl _ _ Ar 28 #[.slice none 0 0, .slice none 0 0, .slice none 0 0] (0,0) _ rfl bq underlying28 rfl (by kernel_rfl)) rfl ?_;exact⟨_,_,_,er,nx,nx,nx,bb⟩
def vU.f(k:Nat)(a0:ByteArray)(a1:ByteArray):Option ((List (fD))×List ByteArray×(List (m_))×Bool):=(iI.f k a0 a1).bind fun afg=>((iT.f k afg.1 afg.2.1 afg.2.2.1).bind fun ai2=>(some (ai2.1,ai2.2.1,ai2.2.2,afg.2.2.2)))
theorem vU.calls{k:Nat}{a0 a1:ByteArray}{r1:List (fD)}{r2:List ByteArray}{r3:List (m_)}{r4:Bool}{w:World}(h:vU.f k a0 a1=some (r1,r2,r3,r4)):
  Calls Tryz.prog 142 #[.string a0, .string a1] w fun e w'=>∃pW Gn IZ:Value,e= .returned (.tuple #[.agg #[pW,Gn,IZ], .bool r4])∧Kd.R rP 69 w' w.heap.size (fun _=>True) pW r1∧Kd.R Kd.string 9 w' w.heap.size (fun _=>True) Gn r2∧Kd.R k28 28 w' w.heap.size (fun k_=>some k_≠(pW:Value).ownBlock∧some k_≠(Gn:Value).ownBlock) IZ r3∧Below w.heap.size w w':=by
 have GN:=underlying28;have HB:=ak (Below.refl w.heap.size w);unfold vU.f at h;have H:=h;clear h;replace H:=bd H;obtain⟨⟨aa_,abb,ac8,aOA⟩,A3,H⟩:=H
 (try dsimp only at H);replace H:=bd H;obtain⟨⟨aGd,aGe,aGf⟩,A4,H⟩:=H
 (try dsimp only at H);obtain⟨rfl,rfl,rfl,rfl⟩:=s4 H;go_enter func142,ntmps142;go_wp2_with (first|(refine bX HB 4 #[.slice none 0 0, .slice none 0 0, .slice none 0 0] 28 ?_;intro afh w5 LX aKa hb;replace HB:=bs HB hb;clear hb)|(refine gL 167 11 func167 #[.string a0, .string a1] ?_;(with_reducible refine(iI.calls A3.out).mono ?_);rintro e w6 ⟨aOB,aOC,aOD,rfl,ho0,ho1,ho2,hb⟩;refine⟨_,rfl,?_⟩;have OI:=ak (aC ho0 (au bb));have OJ:=ak (aC ho1 (au bb));have SQ:=ak (aC (nG ho2 (g:=afh) (o:= .cells #[.slice none 0 0, .slice none 0 0, .slice none 0 0] 28 (0,0)) (ub LX.out)) (au bb));replace LX:=kb LX hb;replace HB:=bz HB hb;clear hb;(try clear ho0);(try clear ho1);(try clear ho2))|(refine bY HB 6 #[.slice none 0 0, .slice none 0 0, .slice none 0 0] 28 ?_;intro EH w7 ai3 aKb hg hb;have ag0:=Bo LX hg;have ag1:=Bq LX hg;replace OI:=rb OI hb;replace OJ:=rb OJ hb;replace SQ:=ak (dX (jJ (ur SQ.out) EH (Nat.le_of_eq hg.symm)) hb);replace LX:=kb LX hb;replace HB:=bz HB hb;clear hb hg;obtain⟨zB,yj,eo8⟩:=aI OI.out;subst eo8;have aFC:=ag1.out;have aFD:=ag0.out;have z10:=jY ai3.out;obtain⟨lH,jW,JF⟩:=aI OJ.out;subst JF;obtain⟨BJ,Aj,U_⟩:=aI SQ.out;subst U_)|(refine gL 61 15 func61 #[.agg #[.slice zB aa_.length yj, .slice lH abb.length jW, .slice BJ ac8.length Aj]] ?_;(with_reducible refine(iT.calls ?dN ((aj OI.out).2.1) ?lq ((aj OJ.out).2.1) ?rH ((aj SQ.out).2.1) A4.out).mono ?_);(case dN=>refine(aj (e:=69) (base:=w.heap.size) (ok:=fun k_=>True) (n:=aa_.length) (c:=yj) ?_).2.2;exact(rh OI));(case lq=>refine(aj (e:=9) (base:=w.heap.size) (ok:=fun k_=>True) (n:=abb.length) (c:=jW) ?_).2.2;exact(rh OJ));(case rH=>refine(aj (e:=28) (base:=w.heap.size) (ok:=fun k_=>(((some k_≠(.slice zB aa_.length yj:Value).ownBlock∧some k_≠(.slice lH abb.length jW:Value).ownBlock)∧k_≠afh)∧k_≠EH)) (n:=ac8.length) (c:=Aj) ?_).2.2;exact(ur (ay (aH (p:=⟨EH,2,none⟩) (aH (p:=⟨EH,1,none⟩) (aH (p:=⟨EH,0,none⟩) (ay SQ.out (fun k_ hk=>(⟨hk,hk.2⟩:_∧k_≠EH))) (fun _ hk=>hk.2) (.slice zB aa_.length yj)) (fun _ hk=>hk.2) (.slice lH abb.length jW)) (fun _ hk=>hk.2) (.slice BJ ac8.length Aj)) (fun _ h_=>h_.1))));rintro e w13 ⟨aOE,aOF,aOG,rfl,ho0,ho1,ho2,hb⟩;refine⟨_,rfl,?_⟩;have ayo:=ak (aC (dA ho0 (jC (rh OI))) (au bb));have ayp:=ak (aC (dA ho1 (jC (rh OJ))) (au bb));have ayq:=ak (aC (nG (nG (dA (dA (dA ho2 (jC (rh OI))) (jC (rh OJ))) (jC (ur (ay (aH (p:=⟨EH,2,none⟩) (aH (p:=⟨EH,1,none⟩) (aH (p:=⟨EH,0,none⟩) (ay SQ.out (fun k_ hk=>(⟨hk,hk.2⟩:_∧k_≠EH))) (fun _ hk=>hk.2) (.slice zB aa_.length yj)) (fun _ hk=>hk.2) (.slice lH abb.length jW)) (fun _ hk=>hk.2) (.slice BJ ac8.length Aj)) (fun _ h_=>h_.1))))) (g:=afh) (o:= .cells #[.slice none 0 0, .slice none 0 0, .slice none 0 0] 28 (0,0)) bq) (g:=EH) (o:= .cells #[.slice zB aa_.length yj, .slice lH abb.length jW, .slice BJ ac8.length Aj] 28 (0,0)) bq) (au bb));replace OI:=ak (dM (rh OI) (bZ ho0) hb);replace OJ:=ak (dM (rh OJ) (bZ ho1) hb);replace SQ:=ak (ay (oK (oK (oK (LP (ur (ay (aH (p:=⟨EH,2,none⟩) (aH (p:=⟨EH,1,none⟩) (aH (p:=⟨EH,0,none⟩) (ay SQ.out (fun k_ hk=>(⟨hk,hk.2⟩:_∧k_≠EH))) (fun _ hk=>hk.2) (.slice zB aa_.length yj)) (fun _ hk=>hk.2) (.slice lH abb.length jW)) (fun _ hk=>hk.2) (.slice BJ ac8.length Aj)) (fun _ h_=>h_.1))) hb) (bZ ho0)) (bZ ho1)) (bZ ho2)) (fun _ h_=>h_.1));replace LX:=kp LX #[.slice none 0 0, .slice none 0 0, .slice none 0 0] hb;replace ai3:=kp ai3 #[.slice zB aa_.length yj, .slice lH abb.length jW, .slice BJ ac8.length Aj] hb;replace HB:=bz HB hb;clear hb;(try clear ho0);(try clear ho1);(try clear ho2);obtain⟨tZ,qC,MO⟩:=aI ayo.out;subst MO;have z15:=jY LX.out;obtain⟨OD,MR,MS⟩:=aI ayp.out;subst MS;obtain⟨jQ,ji,Zg⟩:=aI ayq.out;subst Zg))
 refine bodyPost_ret (gu rfl _ _ afh 28 #[.slice tZ aGd.length qC, .slice OD aGe.length MR, .slice jQ aGf.length ji] (0,0) _ rfl bq underlying28 rfl (by kernel_rfl)) rfl ?_;exact⟨_,_,_,er,rr,rr,rr,bb⟩
mutual
def jv.l0:Nat→ByteArray→Int→List Int→Int→Option (ByteArray×Int)
 |0,_,_,_,_=>none
 |k+1,x3,x4,x1000,rW=>if x4>0 then((jA.f k x1000 rW (([(⟨#[104,101,108,108,111]⟩:ByteArray),(⟨#[32]⟩:ByteArray),(⟨#[61]⟩:ByteArray),(⟨#[10]⟩:ByteArray),(⟨#[255,0]⟩:ByteArray),(⟨#[99,97,102,195,169]⟩:ByteArray),(⟨#[97,32,108,111,110,103,101,114,32,114,111,119,32,111,102,32,119,111,114,100,115,32,116,104,97,116,32,105,115,32,98,114,111,107,101,110,32,104,101,114,101]⟩:ByteArray),(⟨#[120]⟩:ByteArray),(⟨#[46]⟩:ByteArray),(⟨#[9]⟩:ByteArray)]:List ByteArray))).bind fun ai4=>(if x3.size+ai4.1.size≤9223372036854775807 then(jv.l0 k (x3++ai4.1) (wrap64 (x4-1)) x1000 ai4.2)else(none)))else((dJ.f k x1000 rW 40).bind fun ai5=>(if ai5.1=0 then(jv.l1 k x3 x1000 ai5.2)else(some (x3,ai5.2))))
def jv.l1:Nat→ByteArray→List Int→Int→Option (ByteArray×Int)
 |0,_,_,_=>none
 |k+1,x3,x1000,rW=>if(x3.size:Int)≤300 then(if x3.size+10≤9223372036854775807 then(jv.l1 k (x3++(⟨#[48,49,50,51,52,53,54,55,56,57]⟩:ByteArray)) x1000 rW)else(none))else(some (x3,rW))
end
def jv.f(k:Nat)(jV:List Int)(pF:Int):Option (ByteArray×Int):=(mP.f k jV pF (([3,2,5,1,0,8]:List Int))).bind fun apl=>(jv.l0 k (⟨#[]⟩:ByteArray) apl.1 jV apl.2)
theorem jv.calls{k g:Nat}{jV:List Int}{pF r2:Int}{r1:ByteArray}{w:World}(w0:World)(hI:bH w0 w g jV pF)(hB:Below w0.heap.size w0 w)(h:jv.f k jV pF=some (r1,r2)):
  Calls Tryz.prog 143 #[.pointer (some ⟨g,0,none⟩)] w fun e w'=>e= .returned (.string r1)∧bH w0 w' g jV r2∧Below w0.heap.size w0 w'∧bC w w' g none:=by
 have HI0:=ak hI;have HK:=ak (bC.refl w g none);have HL:=ak hB.size;clear hI;have HW0:=ak hB.size;have HB:=ak hB;clear hB;unfold jv.f at h;have H:=h;clear h;obtain⟨aGg,apm⟩:=nm ([3,2,5,1,0,8]:List Int);rw[←apm.out]at H;replace H:=bd H;obtain⟨⟨aOH,aOI⟩,A2,H⟩:=H
 (try dsimp only at H);have H':=ak H;clear H;go_enter func143,ntmps143;go_wp2_with (first|(refine Vt 6 (Kd.int .i64) 3 [.int .i64 3, .int .i64 2, .int .i64 5, .int .i64 1, .int .i64 0, .int .i64 8] apm (dP.one (show Kd.M (Kd.int .i64) _ _ _ 3 [.int .i64 3]from rfl) (dP.one (show Kd.M (Kd.int .i64) _ _ _ 2 [.int .i64 2]from rfl) (dP.one (show Kd.M (Kd.int .i64) _ _ _ 5 [.int .i64 5]from rfl) (dP.one (show Kd.M (Kd.int .i64) _ _ _ 1 [.int .i64 1]from rfl) (dP.one (show Kd.M (Kd.int .i64) _ _ _ 0 [.int .i64 0]from rfl) (dP.one (show Kd.M (Kd.int .i64) _ _ _ 8 [.int .i64 8]from rfl) (dP.none _ _))))))) ?_;intro aOJ w3 SL hb;have Yk:=ak (aC SL (kU (w:=w) (g:=g) (row:=none) (kh HK.out)));replace HK:=ak (bC.trans (kh HK.out) (bC.of_below hb g none) (.inl rfl));replace HB:=ak (lU wz hb);replace HI0:=ak (bH.below xC hb);clear hb SL;obtain⟨Ao5,co5,eo5⟩:=aI Yk.out;subst eo5)|(refine gL 97 7 func97 #[.pointer (some ⟨g,0,none⟩), .slice Ao5 aGg.length co5] ?_;(with_reducible refine(mP.calls w0 ?dN ?nJ (cu ((aj Yk.out).2.2)) ((aj Yk.out).2.1) (wM (bH.own_ne HI0.out Yk.out (by decide))) A2.out).mono ?_);(case dN=>exact xC);(case nJ=>exact wz);rintro e w6 ⟨rfl,hi,hb,hk⟩;refine⟨_,rfl,?_⟩;replace Yk:=ki Yk hk;replace HK:=kt HK hk;replace HB:=ak (hb);replace HI0:=ak (hi);clear hb;(try clear hk);(try clear hi)))
 go_loopg [3,4] k (fun kq v3 v4 w'=>∃(eG:ByteArray) (dI:Int) (Au:Int),v3= .string eG∧v4= .int .i64 dI∧ah (jv.l0 kq eG dI jV Au=some (r1,r2))∧ah (kq≤k)∧ah (bH w0 w' g jV Au)∧ah (bC w w' g none)∧ah (Below w0.heap.size w0 w'))
 case atStart=>exact⟨_,_,_,rs,rs,H',⟨Nat.le_refl _⟩,⟨xC⟩,⟨kh HK.out⟩,⟨wz⟩⟩
 case round=>
  clear H';obtain⟨eG,dI,Au,rfl,rfl,HA,yN,HI0,HK,HB⟩:=hrel
  cases gk with
  |zero=>exact zz HA.out
  |succ k1=>
   obtain⟨H⟩:=HA;simp only[jv.l0]at H;replace H:=sp H;rcases H with⟨c7,H⟩|⟨c7,H⟩
   ·have sK:decide (0<dI)=true:=decide_eq_true c7;clear c7;obtain⟨aGh,apn⟩:=nm ([(⟨#[104,101,108,108,111]⟩:ByteArray),(⟨#[32]⟩:ByteArray),(⟨#[61]⟩:ByteArray),(⟨#[10]⟩:ByteArray),(⟨#[255,0]⟩:ByteArray),(⟨#[99,97,102,195,169]⟩:ByteArray),(⟨#[97,32,108,111,110,103,101,114,32,114,111,119,32,111,102,32,119,111,114,100,115,32,116,104,97,116,32,105,115,32,98,114,111,107,101,110,32,104,101,114,101]⟩:ByteArray),(⟨#[120]⟩:ByteArray),(⟨#[46]⟩:ByteArray),(⟨#[9]⟩:ByteArray)]:List ByteArray);rw[←apn.out]at H;replace H:=bd H;obtain⟨⟨aGi,aOK⟩,A8,H⟩:=H
    (try dsimp only at H);replace H:=nn H;obtain⟨c9,H⟩:=H;have xG:=eq_true c9;have CG:=decide_eq_true c9;try have ayr:(9223372036854775807<eG.size+aGi.size)=False:=eq_false (Nat.not_lt.2 c9)
    have H':=ak H;clear H;go_wp2_with (first|(refine Vt 14 Kd.string 9 [.string (⟨#[104,101,108,108,111]⟩:ByteArray), .string (⟨#[32]⟩:ByteArray), .string (⟨#[61]⟩:ByteArray), .string (⟨#[10]⟩:ByteArray), .string (⟨#[255,0]⟩:ByteArray), .string (⟨#[99,97,102,195,169]⟩:ByteArray), .string (⟨#[97,32,108,111,110,103,101,114,32,114,111,119,32,111,102,32,119,111,114,100,115,32,116,104,97,116,32,105,115,32,98,114,111,107,101,110,32,104,101,114,101]⟩:ByteArray), .string (⟨#[120]⟩:ByteArray), .string (⟨#[46]⟩:ByteArray), .string (⟨#[9]⟩:ByteArray)] apn (dP.one (show Kd.M Kd.string _ _ _ (⟨#[104,101,108,108,111]⟩:ByteArray) [.string (⟨#[104,101,108,108,111]⟩:ByteArray)]from rfl) (dP.one (show Kd.M Kd.string _ _ _ (⟨#[32]⟩:ByteArray) [.string (⟨#[32]⟩:ByteArray)]from rfl) (dP.one (show Kd.M Kd.string _ _ _ (⟨#[61]⟩:ByteArray) [.string (⟨#[61]⟩:ByteArray)]from rfl) (dP.one (show Kd.M Kd.string _ _ _ (⟨#[10]⟩:ByteArray) [.string (⟨#[10]⟩:ByteArray)]from rfl) (dP.one (show Kd.M Kd.string _ _ _ (⟨#[255,0]⟩:ByteArray) [.string (⟨#[255,0]⟩:ByteArray)]from rfl) (dP.one (show Kd.M Kd.string _ _ _ (⟨#[99,97,102,195,169]⟩:ByteArray) [.string (⟨#[99,97,102,195,169]⟩:ByteArray)]from rfl) (dP.one (show Kd.M Kd.string _ _ _ (⟨#[97,32,108,111,110,103,101,114,32,114,111,119,32,111,102,32,119,111,114,100,115,32,116,104,97,116,32,105,115,32,98,114,111,107,101,110,32,104,101,114,101]⟩:ByteArray) [.string (⟨#[97,32,108,111,110,103,101,114,32,114,111,119,32,111,102,32,119,111,114,100,115,32,116,104,97,116,32,105,115,32,98,114,111,107,101,110,32,104,101,114,101]⟩:ByteArray)]from rfl) (dP.one (show Kd.M Kd.string _ _ _ (⟨#[120]⟩:ByteArray) [.string (⟨#[120]⟩:ByteArray)]from rfl) (dP.one (show Kd.M Kd.string _ _ _ (⟨#[46]⟩:ByteArray) [.string (⟨#[46]⟩:ByteArray)]from rfl) (dP.one (show Kd.M Kd.string _ _ _ (⟨#[9]⟩:ByteArray) [.string (⟨#[9]⟩:ByteArray)]from rfl) (dP.none _ _))))))))))) ?_;intro aOL w10 ays hb;have Yl:=ak (aC ays (kU (w:=w) (g:=g) (row:=none) (kh HK.out)));replace HK:=ak (bC.trans (kh HK.out) (bC.of_below hb g none) (.inl rfl));replace HB:=ak (lU wz hb);replace HI0:=ak (bH.below xC hb);clear hb ays;obtain⟨BJ,Aj,U_⟩:=aI Yl.out;subst U_)|(refine gL 58 15 func58 #[.pointer (some ⟨g,0,none⟩), .slice BJ aGh.length Aj] ?_;(with_reducible refine(jA.calls w0 ?dN ?nJ (cu ((aj Yl.out).2.2)) ((aj Yl.out).2.1) (wM (bH.own_ne HI0.out Yl.out (by decide))) A8.out).mono ?_);(case dN=>exact xC);(case nJ=>exact wz);rintro e w13 ⟨rfl,hi,hb,hk⟩;refine⟨_,rfl,?_⟩;replace Yl:=ki Yl hk;replace HK:=kt HK hk;replace HB:=ak (hb);replace HI0:=ak (hi);clear hb;(try clear hk);(try clear hi)))
    go_roundg k1
    case measure=>exact kl
    case rel=>exact⟨_,_,_,rs,rs,H',⟨kl⟩,⟨xC⟩,⟨kh HK.out⟩,⟨wz⟩⟩
   ·have sK:decide (0<dI)=false:=decide_eq_false c7;clear c7;replace H:=bd H;obtain⟨⟨aOM,ayt⟩,A14,H⟩:=H
    (try dsimp only at H);replace H:=sq H;rcases H with⟨uz,Cm,H⟩|⟨c15,uz,Cm,H⟩
    ·have H':=ak H;clear H;go_wp2_with (refine gL 57 18 func57 #[.pointer (some ⟨g,0,none⟩), .int .i64 40] ?_;(with_reducible refine(dJ.calls w0 ?dN ?nJ A14.out).mono ?_);(case dN=>exact xC);(case nJ=>exact wz);rintro e w16 ⟨rfl,hi,hb,hk⟩;refine⟨_,rfl,?_⟩;replace HK:=kt HK hk;replace HB:=ak (hb);replace HI0:=ak (hi);clear hb;(try clear hk);(try clear hi))
     go_loopg [3] k1 (fun kq v3 w'=>∃(nV:ByteArray),v3= .string nV∧ah (jv.l1 kq nV jV ayt=some (r1,r2))∧ah (kq≤k1)∧ah (bH w0 w' g jV ayt)∧ah (bC w w' g none)∧ah (Below w0.heap.size w0 w'))
     case atStart=>exact⟨_,rs,H',⟨Nat.le_refl _⟩,⟨xC⟩,⟨kh HK.out⟩,⟨wz⟩⟩
     case round=>
      clear H';try clear c7
      try clear sK
      try clear c15
      try clear uz
      try clear Cm
      obtain⟨nV,rfl,HA,HK2,HI0,HK,HB⟩:=hrel
      cases gk with
      |zero=>exact zz HA.out
      |succ k2=>
       obtain⟨H⟩:=HA;simp only[jv.l1]at H;replace H:=sp H;rcases H with⟨c17,H⟩|⟨c17,H⟩
       ·have vY:=decide_eq_true c17;have LW:decide (nV.size≤300)=true:=decide_eq_true (by omega);clear c17;replace H:=nn H;obtain⟨c18,H⟩:=H;have Dt:=eq_true c18;have Vo:=decide_eq_true c18;try have aoU:(9223372036854775807<nV.size+10)=False:=eq_false (Nat.not_lt.2 c18)
        have H':=ak H;clear H;go_wp2;go_roundg k2
        case measure=>exact kl
        case rel=>exact⟨_,rs,H',⟨kl⟩,⟨xC⟩,⟨kh HK.out⟩,⟨wz⟩⟩
       ·have vY:=decide_eq_false c17;have LW:decide (nV.size≤300)=false:=decide_eq_false (by omega);clear c17;obtain⟨rfl,rfl⟩:=s2 H;go_wp2;go_ret;exact⟨er,xC,wz,kh HK.out⟩
    ·obtain⟨rfl,rfl⟩:=s2 H;go_wp2_with (refine gL 57 18 func57 #[.pointer (some ⟨g,0,none⟩), .int .i64 40] ?_;(with_reducible refine(dJ.calls w0 ?dN ?nJ A14.out).mono ?_);(case dN=>exact xC);(case nJ=>exact wz);rintro e X_ ⟨rfl,hi,hb,hk⟩;refine⟨_,rfl,?_⟩;replace HK:=kt HK hk;replace HB:=ak (hb);replace HI0:=ak (hi);clear hb;(try clear hk);(try clear hi))
     go_ret;exact⟨er,xC,wz,kh HK.out⟩
def yA.f(k:Nat)(jV:List Int)(pF:Int):Option (ByteArray×ByteArray×Int):=(jA.f k jV pF (([(⟨#[84,111]⟩:ByteArray),(⟨#[70,114,111,109]⟩:ByteArray),(⟨#[83,117,98,106,101,99,116]⟩:ByteArray),(⟨#[88,45,89]⟩:ByteArray),(⟨#[82,101,99,101,105,118,101,100]⟩:ByteArray),(⟨#[116,111]⟩:ByteArray),(⟨#[68,97,116,101]⟩:ByteArray)]:List ByteArray))).bind fun apo=>((jA.f k jV apo.2 (([(⟨#[]⟩:ByteArray),(⟨#[120]⟩:ByteArray),(⟨#[97,32,98]⟩:ByteArray),(⟨#[104,101,108,108,111,32,116,104,101,114,101,44,32,116,104,105,115,32,105,115,32,97,32,108,111,110,103,101,114,32,118,97,108,117,101,32,116,104,97,116,32,105,115,32,98,114,111,107,101,110]⟩:ByteArray),(⟨#[97,97,97,97,97,97,97,97,97,97,97,97,97,97,97,97,97,97,97,97,97,97,97,97,97,97,97,97,97,97,97,97,97,97,97,97,97,97,97,97,97,97,97,97,97,97,97,97,97,97,97,32,98]⟩:ByteArray),(⟨#[116,119,111,32,32,115,112,97,99,101,115,32,115,116,97,121,32,32,116,111,103,101,116,104,101,114,32,105,110,32,104,101,114,101,44,32,97,110,100,32,115,111,32,100,111,32,116,104,101,115,101,32,32,111,110,101,115]⟩:ByteArray),(⟨#[97,58,98]⟩:ByteArray),(⟨#[111,110,101,32,116,119,111,32,116,104,114,101,101,32,102,111,117,114,32,102,105,118,101,32,115,105,120,32,115,101,118,101,110,32,101,105,103,104,116,32,110,105,110,101,32,116,101,110,32,101,108,101,118,101,110]⟩:ByteArray)]:List ByteArray))).bind fun apq=>(some (apo.1,apq.1,apq.2)))
theorem yA.calls{k g:Nat}{jV:List Int}{pF r3:Int}{r1 r2:ByteArray}{w:World}(w0:World)(hI:bH w0 w g jV pF)(hB:Below w0.heap.size w0 w)(h:yA.f k jV pF=some (r1,r2,r3)):
  Calls Tryz.prog 168 #[.pointer (some ⟨g,0,none⟩)] w fun e w'=>e= .returned (.agg #[.string r1, .string r2])∧bH w0 w' g jV r3∧Below w0.heap.size w0 w'∧bC w w' g none:=by
 have Fg:=underlying69;have HI0:=ak hI;have HK:=ak (bC.refl w g none);have HL:=ak hB.size;clear hI;have HW0:=ak hB.size;have HB:=ak hB;clear hB;unfold yA.f at h;have H:=h;clear h;obtain⟨aGj,apr⟩:=nm ([(⟨#[84,111]⟩:ByteArray),(⟨#[70,114,111,109]⟩:ByteArray),(⟨#[83,117,98,106,101,99,116]⟩:ByteArray),(⟨#[88,45,89]⟩:ByteArray),(⟨#[82,101,99,101,105,118,101,100]⟩:ByteArray),(⟨#[116,111]⟩:ByteArray),(⟨#[68,97,116,101]⟩:ByteArray)]:List ByteArray);rw[←apr.out]at H;replace H:=bd H;obtain⟨⟨aGk,aON⟩,A2,H⟩:=H
 (try dsimp only at H);obtain⟨aGl,aps⟩:=nm ([(⟨#[]⟩:ByteArray),(⟨#[120]⟩:ByteArray),(⟨#[97,32,98]⟩:ByteArray),(⟨#[104,101,108,108,111,32,116,104,101,114,101,44,32,116,104,105,115,32,105,115,32,97,32,108,111,110,103,101,114,32,118,97,108,117,101,32,116,104,97,116,32,105,115,32,98,114,111,107,101,110]⟩:ByteArray),(⟨#[97,97,97,97,97,97,97,97,97,97,97,97,97,97,97,97,97,97,97,97,97,97,97,97,97,97,97,97,97,97,97,97,97,97,97,97,97,97,97,97,97,97,97,97,97,97,97,97,97,97,97,32,98]⟩:ByteArray),(⟨#[116,119,111,32,32,115,112,97,99,101,115,32,115,116,97,121,32,32,116,111,103,101,116,104,101,114,32,105,110,32,104,101,114,101,44,32,97,110,100,32,115,111,32,100,111,32,116,104,101,115,101,32,32,111,110,101,115]⟩:ByteArray),(⟨#[97,58,98]⟩:ByteArray),(⟨#[111,110,101,32,116,119,111,32,116,104,114,101,101,32,102,111,117,114,32,102,105,118,101,32,115,105,120,32,115,101,118,101,110,32,101,105,103,104,116,32,110,105,110,101,32,116,101,110,32,101,108,101,118,101,110]⟩:ByteArray)]:List ByteArray);rw[←aps.out]at H;replace H:=bd H;obtain⟨⟨aGm,aOO⟩,A3,H⟩:=H
 (try dsimp only at H);obtain⟨rfl,rfl,rfl⟩:=s3 H;go_enter func168,ntmps168;go_wp2_with (first|(refine bS HI0 HK HB HW0 2 #[.string (⟨#[]⟩:ByteArray), .string (⟨#[]⟩:ByteArray)] 69 ?_;clear HI0 HK HB;intro ayu w4 OL aKc aKd am0 Zh hg hb HI0 HK HB;clear hb hg)|(refine Vt 4 Kd.string 9 [.string (⟨#[84,111]⟩:ByteArray), .string (⟨#[70,114,111,109]⟩:ByteArray), .string (⟨#[83,117,98,106,101,99,116]⟩:ByteArray), .string (⟨#[88,45,89]⟩:ByteArray), .string (⟨#[82,101,99,101,105,118,101,100]⟩:ByteArray), .string (⟨#[116,111]⟩:ByteArray), .string (⟨#[68,97,116,101]⟩:ByteArray)] apr (dP.one (show Kd.M Kd.string _ _ _ (⟨#[84,111]⟩:ByteArray) [.string (⟨#[84,111]⟩:ByteArray)]from rfl) (dP.one (show Kd.M Kd.string _ _ _ (⟨#[70,114,111,109]⟩:ByteArray) [.string (⟨#[70,114,111,109]⟩:ByteArray)]from rfl) (dP.one (show Kd.M Kd.string _ _ _ (⟨#[83,117,98,106,101,99,116]⟩:ByteArray) [.string (⟨#[83,117,98,106,101,99,116]⟩:ByteArray)]from rfl) (dP.one (show Kd.M Kd.string _ _ _ (⟨#[88,45,89]⟩:ByteArray) [.string (⟨#[88,45,89]⟩:ByteArray)]from rfl) (dP.one (show Kd.M Kd.string _ _ _ (⟨#[82,101,99,101,105,118,101,100]⟩:ByteArray) [.string (⟨#[82,101,99,101,105,118,101,100]⟩:ByteArray)]from rfl) (dP.one (show Kd.M Kd.string _ _ _ (⟨#[116,111]⟩:ByteArray) [.string (⟨#[116,111]⟩:ByteArray)]from rfl) (dP.one (show Kd.M Kd.string _ _ _ (⟨#[68,97,116,101]⟩:ByteArray) [.string (⟨#[68,97,116,101]⟩:ByteArray)]from rfl) (dP.none _ _)))))))) ?_;intro aOP w5 Ur hb;have JG:=ak (aC Ur (kU (w:=w) (g:=g) (row:=none) (kh HK.out)));replace OL:=kb OL hb;replace HK:=ak (bC.trans (kh HK.out) (bC.of_below hb g none) (.inl rfl));replace HB:=ak (lU wz hb);replace HI0:=ak (bH.below xC hb);clear hb Ur;obtain⟨Ao7,co7,eo7⟩:=aI JG.out;subst eo7)|(refine gL 58 5 func58 #[.pointer (some ⟨g,0,none⟩), .slice Ao7 aGj.length co7] ?_;(with_reducible refine(jA.calls w0 ?dN ?nJ (cu ((aj JG.out).2.2)) ((aj JG.out).2.1) (wM (bH.own_ne HI0.out JG.out (by decide))) A2.out).mono ?_);(case dN=>exact xC);(case nJ=>exact wz);rintro e w8 ⟨rfl,hi,hb,hk⟩;refine⟨_,rfl,?_⟩;replace OL:=kc OL hk Zh;replace JG:=ki JG hk;replace HK:=kt HK hk;replace HB:=ak (hb);replace HI0:=ak (hi);clear hb;(try clear hk);(try clear hi))|(refine Vt 7 Kd.string 9 [.string (⟨#[]⟩:ByteArray), .string (⟨#[120]⟩:ByteArray), .string (⟨#[97,32,98]⟩:ByteArray), .string (⟨#[104,101,108,108,111,32,116,104,101,114,101,44,32,116,104,105,115,32,105,115,32,97,32,108,111,110,103,101,114,32,118,97,108,117,101,32,116,104,97,116,32,105,115,32,98,114,111,107,101,110]⟩:ByteArray), .string (⟨#[97,97,97,97,97,97,97,97,97,97,97,97,97,97,97,97,97,97,97,97,97,97,97,97,97,97,97,97,97,97,97,97,97,97,97,97,97,97,97,97,97,97,97,97,97,97,97,97,97,97,97,32,98]⟩:ByteArray), .string (⟨#[116,119,111,32,32,115,112,97,99,101,115,32,115,116,97,121,32,32,116,111,103,101,116,104,101,114,32,105,110,32,104,101,114,101,44,32,97,110,100,32,115,111,32,100,111,32,116,104,101,115,101,32,32,111,110,101,115]⟩:ByteArray), .string (⟨#[97,58,98]⟩:ByteArray), .string (⟨#[111,110,101,32,116,119,111,32,116,104,114,101,101,32,102,111,117,114,32,102,105,118,101,32,115,105,120,32,115,101,118,101,110,32,101,105,103,104,116,32,110,105,110,101,32,116,101,110,32,101,108,101,118,101,110]⟩:ByteArray)] aps (dP.one (show Kd.M Kd.string _ _ _ (⟨#[]⟩:ByteArray) [.string (⟨#[]⟩:ByteArray)]from rfl) (dP.one (show Kd.M Kd.string _ _ _ (⟨#[120]⟩:ByteArray) [.string (⟨#[120]⟩:ByteArray)]from rfl) (dP.one (show Kd.M Kd.string _ _ _ (⟨#[97,32,98]⟩:ByteArray) [.string (⟨#[97,32,98]⟩:ByteArray)]from rfl) (dP.one (show Kd.M Kd.string _ _ _ (⟨#[104,101,108,108,111,32,116,104,101,114,101,44,32,116,104,105,115,32,105,115,32,97,32,108,111,110,103,101,114,32,118,97,108,117,101,32,116,104,97,116,32,105,115,32,98,114,111,107,101,110]⟩:ByteArray) [.string (⟨#[104,101,108,108,111,32,116,104,101,114,101,44,32,116,104,105,115,32,105,115,32,97,32,108,111,110,103,101,114,32,118,97,108,117,101,32,116,104,97,116,32,105,115,32,98,114,111,107,101,110]⟩:ByteArray)]from rfl) (dP.one (show Kd.M Kd.string _ _ _ (⟨#[97,97,97,97,97,97,97,97,97,97,97,97,97,97,97,97,97,97,97,97,97,97,97,97,97,97,97,97,97,97,97,97,97,97,97,97,97,97,97,97,97,97,97,97,97,97,97,97,97,97,97,32,98]⟩:ByteArray) [.string (⟨#[97,97,97,97,97,97,97,97,97,97,97,97,97,97,97,97,97,97,97,97,97,97,97,97,97,97,97,97,97,97,97,97,97,97,97,97,97,97,97,97,97,97,97,97,97,97,97,97,97,97,97,32,98]⟩:ByteArray)]from rfl) (dP.one (show Kd.M Kd.string _ _ _ (⟨#[116,119,111,32,32,115,112,97,99,101,115,32,115,116,97,121,32,32,116,111,103,101,116,104,101,114,32,105,110,32,104,101,114,101,44,32,97,110,100,32,115,111,32,100,111,32,116,104,101,115,101,32,32,111,110,101,115]⟩:ByteArray) [.string (⟨#[116,119,111,32,32,115,112,97,99,101,115,32,115,116,97,121,32,32,116,111,103,101,116,104,101,114,32,105,110,32,104,101,114,101,44,32,97,110,100,32,115,111,32,100,111,32,116,104,101,115,101,32,32,111,110,101,115]⟩:ByteArray)]from rfl) (dP.one (show Kd.M Kd.string _ _ _ (⟨#[97,58,98]⟩:ByteArray) [.string (⟨#[97,58,98]⟩:ByteArray)]from rfl) (dP.one (show Kd.M Kd.string _ _ _ (⟨#[111,110,101,32,116,119,111,32,116,104,114,101,101,32,102,111,117,114,32,102,105,118,101,32,115,105,120,32,115,101,118,101,110,32,101,105,103,104,116,32,110,105,110,101,32,116,101,110,32,101,108,101,118,101,110]⟩:ByteArray) [.string (⟨#[111,110,101,32,116,119,111,32,116,104,114,101,101,32,102,111,117,114,32,102,105,118,101,32,115,105,120,32,115,101,118,101,110,32,101,105,103,104,116,32,110,105,110,101,32,116,101,110,32,101,108,101,118,101,110]⟩:ByteArray)]from rfl) (dP.none _ _))))))))) ?_;intro aOQ w9 Lm hb;have Ym:=ak (aC (dA Lm (jC (ur JG.out))) (kU (w:=w) (g:=g) (row:=none) (kh HK.out)));replace JG:=ak (dM (ur JG.out) (bZ Lm) hb);replace OL:=kb OL hb;replace HK:=ak (bC.trans (kh HK.out) (bC.of_below hb g none) (.inl rfl));replace HB:=ak (lU wz hb);replace HI0:=ak (bH.below xC hb);clear hb Lm;obtain⟨lH,jW,JF⟩:=aI Ym.out;subst JF)|(refine gL 58 8 func58 #[.pointer (some ⟨g,0,none⟩), .slice lH aGl.length jW] ?_;(with_reducible refine(jA.calls w0 ?dN ?nJ (cu ((aj Ym.out).2.2)) ((aj Ym.out).2.1) (wM (bH.own_ne HI0.out Ym.out (by decide))) A3.out).mono ?_);(case dN=>exact xC);(case nJ=>exact wz);rintro e w12 ⟨rfl,hi,hb,hk⟩;refine⟨_,rfl,?_⟩;replace OL:=kc OL hk Zh;replace JG:=ki JG hk;replace Ym:=ki Ym hk;replace HK:=kt HK hk;replace HB:=ak (hb);replace HI0:=ak (hi);clear hb;(try clear hk);(try clear hi);have ayv:=Zh.out;have ayw:=am0.out;have z14:=Am OL.out))
 refine bodyPost_ret (results_cell_row rfl _ _ ayu 69 #[.string aGk, .string aGm] (0,0) _ rfl bq underlying69 rfl (by kernel_rfl)) rfl ?_;exact⟨er,xC,wz,kh HK.out⟩
def oz.l0:Nat→List (fD)→Int→List Int→Int→Option ((List (fD))×Int)
 |0,_,_,_,_=>none
 |k+1,x3,x4,x1000,rW=>if x4>0 then((yA.f k x1000 rW).bind fun ai6=>(if x3.length<4398046511104 then(oz.l0 k (x3++[(⟨ai6.1,ai6.2.1⟩:fD)]) (wrap64 (x4-1)) x1000 ai6.2.2)else(none)))else(some (x3,rW))
def oz.f(k:Nat)(jV:List Int)(pF:Int):Option ((List (fD))×Int):=(mP.f k jV pF (([2,3,1,0,4]:List Int))).bind fun apt=>(oz.l0 k (([]:List (fD))) apt.1 jV apt.2)
theorem oz.calls{k g:Nat}{jV:List Int}{pF r2:Int}{r1:List (fD)}{w:World}(w0:World)(hI:bH w0 w g jV pF)(hB:Below w0.heap.size w0 w)(h:oz.f k jV pF=some (r1,r2)):
  Calls Tryz.prog 144 #[.pointer (some ⟨g,0,none⟩)] w fun e w'=>∃pW:Value,e= .returned (pW)∧Kd.R rP 69 w' w.heap.size (fun _=>True) pW r1∧bH w0 w' g jV r2∧Below w0.heap.size w0 w'∧bC w w' g none:=by
 have HI0:=ak hI;have HK:=ak (bC.refl w g none);have HL:=ak hB.size;clear hI;have HW0:=ak hB.size;have HB:=ak hB;clear hB;unfold oz.f at h;have H:=h;clear h;obtain⟨aOR,apu⟩:=nm ([]:List (fD));rw[←apu.out]at H;obtain⟨aGn,apv⟩:=nm ([2,3,1,0,4]:List Int);rw[←apv.out]at H;replace H:=bd H;obtain⟨⟨aOS,aOT⟩,A2,H⟩:=H
 (try dsimp only at H);have H':=ak H;clear H;go_enter func144,ntmps144;go_wp2_with (first|(refine DR 5 rP 69 apu ?_;intro aOU w3 SL hb;have abd:=ak (aC SL (kU (w:=w) (g:=g) (row:=none) (kh HK.out)));replace HK:=ak (bC.trans (kh HK.out) (bC.of_below hb g none) (.inl rfl));replace HB:=ak (lU wz hb);replace HI0:=ak (bH.below xC hb);clear hb SL)|(refine Vt 7 (Kd.int .i64) 3 [.int .i64 2, .int .i64 3, .int .i64 1, .int .i64 0, .int .i64 4] apv (dP.one (show Kd.M (Kd.int .i64) _ _ _ 2 [.int .i64 2]from rfl) (dP.one (show Kd.M (Kd.int .i64) _ _ _ 3 [.int .i64 3]from rfl) (dP.one (show Kd.M (Kd.int .i64) _ _ _ 1 [.int .i64 1]from rfl) (dP.one (show Kd.M (Kd.int .i64) _ _ _ 0 [.int .i64 0]from rfl) (dP.one (show Kd.M (Kd.int .i64) _ _ _ 4 [.int .i64 4]from rfl) (dP.none _ _)))))) ?_;intro aOV w5 Ur hb;have Yn:=ak (aC Ur (kU (w:=w) (g:=g) (row:=none) (kh HK.out)));replace abd:=rb abd hb;replace HK:=ak (bC.trans (kh HK.out) (bC.of_below hb g none) (.inl rfl));replace HB:=ak (lU wz hb);replace HI0:=ak (bH.below xC hb);clear hb Ur;obtain⟨Ao7,co7,eo7⟩:=aI Yn.out;subst eo7)|(refine gL 97 8 func97 #[.pointer (some ⟨g,0,none⟩), .slice Ao7 aGn.length co7] ?_;(with_reducible refine(mP.calls w0 ?dN ?nJ (cu ((aj Yn.out).2.2)) ((aj Yn.out).2.1) (wM (bH.own_ne HI0.out Yn.out (by decide))) A2.out).mono ?_);(case dN=>exact xC);(case nJ=>exact wz);rintro e w8 ⟨rfl,hi,hb,hk⟩;refine⟨_,rfl,?_⟩;replace abd:=ki abd hk;replace Yn:=ki Yn hk;replace HK:=kt HK hk;replace HB:=ak (hb);replace HI0:=ak (hi);clear hb;(try clear hk);(try clear hi)))
 go_loopg [3,4] k (fun kq v3 v4 w'=>∃(eG:List (fD)) (dI:Int) (Au:Int),v4= .int .i64 dI∧ah (oz.l0 kq eG dI jV Au=some (r1,r2))∧ah (kq≤k)∧ah (Kd.R rP 69 w' w.heap.size (fun _=>True) v3 eG)∧ah (bH w0 w' g jV Au)∧ah (bC w w' g none)∧ah (Below w0.heap.size w0 w'))
 case atStart=>exact⟨_,_,_,rs,H',⟨Nat.le_refl _⟩,⟨ur abd.out⟩,⟨xC⟩,⟨kh HK.out⟩,⟨wz⟩⟩
 case round=>
  clear H';obtain⟨eG,dI,Au,rfl,HA,yN,mZ,HI0,HK,HB⟩:=hrel
  cases gk with
  |zero=>exact zz HA.out
  |succ k1=>
   obtain⟨H⟩:=HA;simp only[oz.l0]at H;replace H:=sp H;rcases H with⟨c9,H⟩|⟨c9,H⟩
   ·have xG:decide (0<dI)=true:=decide_eq_true c9;clear c9;replace H:=bd H;obtain⟨⟨am1,am2,aOW⟩,A10,H⟩:=H
    (try dsimp only at H);replace H:=nl H;obtain⟨VF,H⟩:=H;obtain⟨aOX,apw⟩:=nm (eG++[(⟨am1,am2⟩:fD)]);rw[←apw.out]at H;have H':=ak H;clear H;go_wp2_with (first|(refine gL 168 15 func168 #[.pointer (some ⟨g,0,none⟩)] ?_;(with_reducible refine(yA.calls w0 ?dN ?nJ A10.out).mono ?_);(case dN=>exact xC);(case nJ=>exact wz);rintro e w12 ⟨rfl,hi,hb,hk⟩;refine⟨_,rfl,?_⟩;replace mZ:=ki mZ hk;replace HK:=kt HK hk;replace HB:=ak (hb);replace HI0:=ak (hi);clear hb;(try clear hk);(try clear hi))|((with_reducible refine bP (b:= .append) (xs:=#[.tmp 13, .tmp 16]) rfl ?_);at_builtin;refine oh rP w.heap.size rfl (.tmp 13) (.tmp 16) 25 69 (.agg #[(.string ⟨#[]⟩),(.string ⟨#[]⟩)]) 32 rfl underlying25 CZ rfl (by decide) (by omega) u3 eG (⟨am1,am2⟩:fD) [.string am1, .string am2] (fun _=>True) (fun _=>False) rfl rfl ?aP (fun _ hk=>hk.elim) ?aF ?aO (Below.refl _ _) ?aS ?aL ?_;(case aP=>exact wX _ _ _ (⟨am1,am2⟩:fD));(case aF=>exact(fun _ _=>trivial));(case aO=>exact(ur mZ.out));(case aS=>exact(kU (w:=w) (g:=g) (row:=none) (kh HK.out)));(case aL=>have:=VF.out;omega);intro aOY w13 ho hb hg hat;rw[←apw.out]at ho;have ayx:=ak (ho);replace HB:=ak (Ip wz HL.out hb);replace HI0:=ak (bH.grown xC hg (bH.own_ne HI0.out mZ.out (by decide)));replace HK:=ak (bC.trans (kh HK.out) (bC.JH hg g) (Zi mZ.out));clear ho hb hg hat mZ))
    go_roundg k1
    case measure=>exact kl
    case rel=>exact⟨_,_,_,rs,H',⟨kl⟩,⟨ur ayx.out⟩,⟨xC⟩,⟨kh HK.out⟩,⟨wz⟩⟩
   ·have xG:decide (0<dI)=false:=decide_eq_false c9;clear c9;obtain⟨rfl,rfl⟩:=s2 H;go_wp2;go_ret;exact⟨_,er,ur mZ.out,xC,wz,kh HK.out⟩
end Go.Proofs.YtncdadcmghglkaaGreatDoor.PFnParseBody
