/- Printed walks; conditions: those in each statement. -/
import Derived.Test.YtncdadcmghglkaaGreatDoorVFnPartAtQt
import Derived.Test.YtncdadcmghglkaaGreatDoorVFnPartAtYt
import Derived.Test.YtncdadcmghglkaaGreatDoorPFnPartAtx0
import Derived.Test.YtncdadcmghglkaaGreatDoorPFnPartAtx2
import Derived.Test.YtncdadcmghglkaaGreatDoorPFnPartAtx3
-- short
-- dense
-- sq
-- sq2
namespace Go.Proofs.YtncdadcmghglkaaGreatDoor.PFnPartAt
open Go.RowKit Go.Proofs.YtncdadcmghglkaaGreatDoor.X Go.Proofs.YtncdadcmghglkaaGreatDoorW.bQ Go.Proofs.YtncdadcmghglkaaGreatDoorW.jm Go.Proofs.YtncdadcmghglkaaGreatDoorW.kD
attribute [local go_sem] pV pW sK sN nI nJ pX pY   -- for this text's walks alone
set_option linter.unusedVariables false
set_option maxHeartbeats 8000000
set_option maxRecDepth 100000
set_option linter.unusedSimpArgs false
def iG.l0:Nat→ByteArray→Int→List ByteArray→Option (List ByteArray)
 |0,_,_,_=>none
 |k+1,x0,x1,x5=>(kM.f k x0 x1).bind fun t175=>(if t175<0 then(if x5.length<8796093022208 then(some (x5++[x0]))else(none))else(if 0≤t175 then(if t175≤(x0.size:Int)then(if x5.length<8796093022208 then(if 0≤(wrap64 (t175+1))then(if(wrap64 (t175+1))≤(x0.size:Int)then(iG.l0 k (x0.extract ((wrap64 (t175+1)):Int).toNat x0.size) x1 (x5++[x0.extract 0 (t175:Int).toNat]))else(none))else(none))else(none))else(none))else(none)))
def iG.f (k:Nat) (a0:ByteArray) (a1:Int):Option (List ByteArray):=iG.l0 k a0 a1 (([]:List ByteArray))
theorem iG.calls {k:Nat} {a0:ByteArray} {a1:Int} {r:List ByteArray} {w:World} (h:iG.f k a0 a1=some r):
  Calls Tryz.prog 90 #[.string a0, .int .u8 a1] w fun e w'=>∃pO:Value,e= .returned (pO)∧Kd.R Kd.string 9 w' w.heap.size (fun _=>True) pO r∧Below w.heap.size w w':=by
 have HB:=ak (Below.refl w.heap.size w);unfold iG.f at h;have H:=h;clear h;obtain⟨aPL,aq9⟩:=nm ([]:List ByteArray);rw[←aq9.out]at H;have H':=ak H;clear H;go_enter Tryz.func90,Tryz.ntmps90;go_wp2_with (refine IY 7 Kd.string 9 aq9 ?_;intro v173 w3 Xh hb;have aBF:=ak (Kd.aG Xh (aj (ul HB.out)));replace HB:=bs HB hb;clear hb Xh)
 go_loopg [0,5] k (fun kq v0 v5 w'=>∃(t_:ByteArray) (fD:List ByteArray),v0= .string t_∧ah (iG.l0 kq t_ a1 fD=some r)∧ah (kq≤k)∧ah (Kd.R Kd.string 9 w' w.heap.size (fun _=>True) v5 fD)∧ah (Below w.heap.size w w'))
 case atStart=>exact⟨_,_,rs,H',⟨Nat.le_refl _⟩,⟨ur aBF.out⟩,⟨ul HB.out⟩⟩
 case round=>
  clear H';obtain⟨t_,fD,rfl,HA,xK,sV,HB⟩:=hrel
  cases gk with
  |zero=>exact zz HA.out
  |succ k1=>
   obtain⟨H⟩:=HA;simp only[iG.l0]at H;replace H:=bd H;obtain⟨t175,A5,H⟩:=H;replace H:=sd H;rcases H with⟨pF,H⟩|⟨pF,H⟩
   ·replace H:=nl H;obtain⟨auh,H⟩:=H;obtain⟨aPM,aq_⟩:=nm (fD++[t_]);rw[←aq_.out]at H;obtain rfl:=s1 H;go_wp2_with (first|(refine gB Tryz.func125 (kM.calls A5.out) ?_;intro w8 hb;replace sV:=rb sV hb;replace HB:=bs HB hb;clear hb)|(at_builtin;refine aP 13 15 Kd.string 23 9 (.string ⟨#[]⟩) 16 Tryz.underlying23 info9 HB (ur sV.out) aq_ (by have:=auh.out;omega) ?_;intro aPN w9 ho hb hg hat;have aBG:=ak (ho);replace HB:=ak (hb);clear ho hb hg hat sV))
    go_ret;exact⟨_,er,ur aBG.out,ul HB.out⟩
   ·replace H:=Du H;obtain⟨oO,vH,H⟩:=H;replace H:=Du H;obtain⟨vY,Io,H⟩:=H;replace H:=nl H;obtain⟨aaT,H⟩:=H;obtain⟨aHo,ara⟩:=nm (fD++[t_.extract 0 (t175:Int).toNat]);rw[←ara.out]at H;obtain⟨Yn,KR⟩:∃j_:Int,(wrap64 (t175+1))=j_:=⟨_,rfl⟩
    replace H:(if 0≤(Yn)then(if(Yn)≤(t_.size:Int)then(iG.l0 k1 (t_.extract ((Yn):Int).toNat t_.size) a1 aHo)else(none))else(none))=some r:=by first|(rw[KR]at H;exact H)|(simp only[KR]at H⊢;exact H)
    (try rw[KR]at A5);have asA:(IntKind.i64.wrap (t175+1))=Yn:=(jo _).trans KR;replace H:=Du H;obtain⟨vZ,Ah,H⟩:=H;replace H:=Du H;obtain⟨yM,I9,H⟩:=H;have H':=ak H;clear H;try go_wp2_with (refine gB Tryz.func125 (kM.calls A5.out) ?_;intro w16 hb;replace sV:=rb sV hb;replace HB:=bs HB hb;clear hb)
    replace sV:=ak (Kd.mg sV.out);replace HB:=ak (gI HB.out);refine ro [4,5] [0,1,2,3,6,7,8,9,4,5,10,11] (fun w'=>True) trivial ?_
    generalize w16.drew=w17 at sV HB⊢
    repeat refine Bv ?_
    refine ld (N:=some 21) (gk.trans rfl) rfl rfl (fun K hK=>?_);refine D8 (w1:=?_) (v:=?_) (by rfl) rfl ?_ ?_
    rotate_left 2
    ·go_simp;constructor
     ·rfl
     ·rfl
    refine hK.out _ _ trivial ?_;clear hK K;refine no (a':=?_) ?_ ?_
    rotate_left
    ·show Act.put _ (some 21) _=_
     simp only[Act.put,zW,zX,l_c,jo,lg];rfl
    refine ld (N:=some 22) (gk.trans rfl) rfl rfl (fun K hK=>?_);refine Kd.oD Kd.string (w0:=w) w.heap.size (by rfl) (.tmp 17) (.tmp 21) 23 9 (.string ⟨#[]⟩) 16 rfl Tryz.underlying23 info9 rfl (by decide) (by omega) u5 fD (t_.extract 0 (t175:Int).toNat) [.string (t_.extract 0 (t175:Int).toNat)] (fun _=>True) (fun _=>False) rfl rfl ?aP (fun _ hk=>hk.elim) ?aF ?aO ?aB ?aS ?aL ?_
    (case aP=>exact rfl)
    (case aB=>exact(ul HB.out))
    (case aF=>exact(fun _ _=>trivial))
    (case aO=>exact(ur sV.out))
    (case aS=>exact(aj (ul HB.out)))
    (case aL=>have:=aaT.out;omega);intro aPO w18 ho hb hg hat
    rw[←ara.out]at ho;have y9:=ak (hb);have zf:=ak (ho);clear HB sV;have HB:=y9;have aBH:=zf;clear y9 zf ho hb hg hat
    refine hK.out _ _ trivial ?_;clear hK K;refine no (a':=?_) ?_ ?_
    rotate_left
    ·show Act.put _ (some 22) _=_
     simp only[Act.put,zW,zX,l_c,jo,lg];rfl
    repeat refine Bv ?_
    refine on ?_;try go_wp2
    go_roundg k1
    case measure=>exact kl
    case rel=>exact⟨_,_,(by first|rfl|(simp;done)|(simp only[←KR]<;>(first|rfl|simp))|(simp[*];done)),H',⟨kl⟩,⟨ur aBH.out⟩,⟨ul HB.out⟩⟩
def strings_Cut.f (a0:ByteArray) (a1:ByteArray):Option (ByteArray×ByteArray×Bool):=if a0.size<4294967281 then some (⟨(Lib.cut a0.data.toList a1.data.toList).1.toArray⟩,⟨(Lib.cut a0.data.toList a1.data.toList).2.1.toArray⟩,(Lib.cut a0.data.toList a1.data.toList).2.2)else none
theorem strings_Cut.calls {a0 a1 r1 r2:ByteArray} {r3:Bool} {w:World} (D9:MaxOk w) (h:strings_Cut.f a0 a1=some (r1,r2,r3)):
  Calls Tryz.prog 91 #[.string a0, .string a1] w fun e w'=>e= .returned (.tuple #[.string r1, .string r2, .bool r3])∧dO w w':=by
 unfold strings_Cut.f at h;split at h
 ·rename_i hs
  injection h with h;injection h with h1 h;injection h with h2 h3;subst h1;subst h2;subst h3;obtain⟨m,hm⟩:=D9;exact(Tryz.strings_Cut a0 a1 m w hs hm).mono fun e w' ⟨he,n,hn⟩=>⟨he,⟨⟨n,hn⟩⟩⟩
 ·cases h
def lU.f (a0:Int):Option (Bool):=(bG.f a0).bind fun t182=>(if t182=true then(some true)else((dK.f a0).bind fun t183=>(if t183=true then(some true)else(if a0=33 then(some true)else(if a0≥35 then(if a0≤39 then(some true)else(if a0=42 then(some true)else(if a0=43 then(some true)else(if a0=45 then(some true)else(if a0=47 then(some true)else(if a0=61 then(some true)else(if a0=63 then(some true)else(if a0≥94 then(if a0≤96 then(some true)else(if a0≥123 then(some (decide (a0≤126)))else(some false)))else(if a0≥123 then(some (decide (a0≤126)))else(some false))))))))))else(if a0=42 then(some true)else(if a0=43 then(some true)else(if a0=45 then(some true)else(if a0=47 then(some true)else(if a0=61 then(some true)else(if a0=63 then(some true)else(if a0≥94 then(if a0≤96 then(some true)else(if a0≥123 then(some (decide (a0≤126)))else(some false)))else(if a0≥123 then(some (decide (a0≤126)))else(some false))))))))))))))
theorem lU.calls {a0:Int} {r:Bool} {w:World} (h:lU.f a0=some r):
  Calls Tryz.prog 135 #[.int .u8 a0] w fun e w'=>e= .returned (.bool r)∧dO w w':=by
 unfold lU.f at h;have H:=h;clear h;replace H:=bd H;obtain⟨t182,A2,H⟩:=H;replace H:=sb H;rcases H with⟨rfl,H⟩|⟨rfl,H⟩
 ·obtain rfl:=s1 H;go_enter Tryz.func135,Tryz.ntmps135;go_wp2_with (refine gA Tryz.func140 (bG.calls A2.out) ?_;intro nd)
  go_ret;exact⟨rs,dn⟩
 ·replace H:=bd H;obtain⟨t183,A4,H⟩:=H;replace H:=sb H;rcases H with⟨rfl,H⟩|⟨rfl,H⟩
  ·obtain rfl:=s1 H;go_enter Tryz.func135,Tryz.ntmps135;go_wp2_with (first|(refine gA Tryz.func140 (bG.calls A2.out) ?_;intro nd)|(go_at_call 141;refine mA (dK.calls A4.out) ?_;intro nd))
   go_ret;exact⟨rs,dn⟩
  ·replace H:=sq H;rcases H with⟨pF,Ad,H⟩|⟨c6,pF,Ad,H⟩
   ·obtain rfl:=s1 H;go_enter Tryz.func135,Tryz.ntmps135;go_wp2_with (first|(refine gA Tryz.func140 (bG.calls A2.out) ?_;intro nd)|(go_at_call 141;refine mA (dK.calls A4.out) ?_;intro nd))
    go_ret;exact⟨rs,dn⟩
   ·replace H:=sp H;rcases H with⟨c7,H⟩|⟨c7,H⟩
    ·have tZ:decide (35≤a0)=true:=decide_eq_true c7;clear c7;replace H:=sd H;rcases H with⟨uK,H⟩|⟨uK,H⟩
     ·obtain rfl:=s1 H;go_enter Tryz.func135,Tryz.ntmps135;go_wp2_with (first|(refine gA Tryz.func140 (bG.calls A2.out) ?_;intro nd)|(go_at_call 141;refine mA (dK.calls A4.out) ?_;intro nd))
      go_ret;exact⟨rs,dn⟩
     ·replace H:=sq H;rcases H with⟨AZ,Jb,H⟩|⟨c9,AZ,Jb,H⟩
      ·obtain rfl:=s1 H;go_enter Tryz.func135,Tryz.ntmps135;go_wp2_with (first|(refine gA Tryz.func140 (bG.calls A2.out) ?_;intro nd)|(go_at_call 141;refine mA (dK.calls A4.out) ?_;intro nd))
       go_ret;exact⟨rs,dn⟩
      ·replace H:=sq H;rcases H with⟨oO,vH,H⟩|⟨c10,oO,vH,H⟩
       ·obtain rfl:=s1 H;go_enter Tryz.func135,Tryz.ntmps135;go_wp2_with (first|(refine gA Tryz.func140 (bG.calls A2.out) ?_;intro nd)|(go_at_call 141;refine mA (dK.calls A4.out) ?_;intro nd))
        go_ret;exact⟨rs,dn⟩
       ·replace H:=sq H;rcases H with⟨vY,Io,H⟩|⟨c11,vY,Io,H⟩
        ·obtain rfl:=s1 H;go_enter Tryz.func135,Tryz.ntmps135;go_wp2_with (first|(refine gA Tryz.func140 (bG.calls A2.out) ?_;intro nd)|(go_at_call 141;refine mA (dK.calls A4.out) ?_;intro nd))
         go_ret;exact⟨rs,dn⟩
        ·replace H:=sq H;rcases H with⟨yN,Gi,H⟩|⟨c12,yN,Gi,H⟩
         ·obtain rfl:=s1 H;go_enter Tryz.func135,Tryz.ntmps135;go_wp2_with (first|(refine gA Tryz.func140 (bG.calls A2.out) ?_;intro nd)|(go_at_call 141;refine mA (dK.calls A4.out) ?_;intro nd))
          go_ret;exact⟨rs,dn⟩
         ·replace H:=sq H;rcases H with⟨xA,Df,H⟩|⟨c13,xA,Df,H⟩
          ·obtain rfl:=s1 H;go_enter Tryz.func135,Tryz.ntmps135;go_wp2_with (first|(refine gA Tryz.func140 (bG.calls A2.out) ?_;intro nd)|(go_at_call 141;refine mA (dK.calls A4.out) ?_;intro nd))
           go_ret;exact⟨rs,dn⟩
          ·replace H:=sq H;rcases H with⟨vZ,Ah,H⟩|⟨c14,vZ,Ah,H⟩
           ·obtain rfl:=s1 H;go_enter Tryz.func135,Tryz.ntmps135;go_wp2_with (first|(refine gA Tryz.func140 (bG.calls A2.out) ?_;intro nd)|(go_at_call 141;refine mA (dK.calls A4.out) ?_;intro nd))
            go_ret;exact⟨rs,dn⟩
           ·replace H:=sp H;rcases H with⟨c15,H⟩|⟨c15,H⟩
            ·have yM:decide (94≤a0)=true:=decide_eq_true c15;clear c15;replace H:=sd H;rcases H with⟨zJ,H⟩|⟨zJ,H⟩
             ·obtain rfl:=s1 H;go_enter Tryz.func135,Tryz.ntmps135;go_wp2_with (first|(refine gA Tryz.func140 (bG.calls A2.out) ?_;intro nd)|(go_at_call 141;refine mA (dK.calls A4.out) ?_;intro nd))
              go_ret;exact⟨rs,dn⟩
             ·replace H:=sp H;rcases H with⟨c17,H⟩|⟨c17,H⟩
              ·have vX:decide (123≤a0)=true:=decide_eq_true c17;clear c17;obtain rfl:=s1 H;go_enter Tryz.func135,Tryz.ntmps135;go_wp2_with (first|(refine gA Tryz.func140 (bG.calls A2.out) ?_;intro nd)|(go_at_call 141;refine mA (dK.calls A4.out) ?_;intro nd))
               go_ret;exact⟨rs,dn⟩
              ·have vX:decide (123≤a0)=false:=decide_eq_false c17;clear c17;obtain rfl:=s1 H;go_enter Tryz.func135,Tryz.ntmps135;go_wp2_with (first|(refine gA Tryz.func140 (bG.calls A2.out) ?_;intro nd)|(go_at_call 141;refine mA (dK.calls A4.out) ?_;intro nd))
               go_ret;exact⟨rs,dn⟩
            ·have yM:decide (94≤a0)=false:=decide_eq_false c15;clear c15;replace H:=sp H;rcases H with⟨c18,H⟩|⟨c18,H⟩
             ·have C_:decide (123≤a0)=true:=decide_eq_true c18;clear c18;obtain rfl:=s1 H;go_enter Tryz.func135,Tryz.ntmps135;go_wp2_with (first|(refine gA Tryz.func140 (bG.calls A2.out) ?_;intro nd)|(go_at_call 141;refine mA (dK.calls A4.out) ?_;intro nd))
              go_ret;exact⟨rs,dn⟩
             ·have C_:decide (123≤a0)=false:=decide_eq_false c18;clear c18;obtain rfl:=s1 H;go_enter Tryz.func135,Tryz.ntmps135;go_wp2_with (first|(refine gA Tryz.func140 (bG.calls A2.out) ?_;intro nd)|(go_at_call 141;refine mA (dK.calls A4.out) ?_;intro nd))
              go_ret;exact⟨rs,dn⟩
    ·have tZ:decide (35≤a0)=false:=decide_eq_false c7;clear c7;replace H:=sq H;rcases H with⟨D_,Ij,H⟩|⟨c19,D_,Ij,H⟩
     ·obtain rfl:=s1 H;go_enter Tryz.func135,Tryz.ntmps135;go_wp2_with (first|(refine gA Tryz.func140 (bG.calls A2.out) ?_;intro nd)|(go_at_call 141;refine mA (dK.calls A4.out) ?_;intro nd))
      go_ret;exact⟨rs,dn⟩
     ·replace H:=sq H;rcases H with⟨Rw,aaB,H⟩|⟨c20,Rw,aaB,H⟩
      ·obtain rfl:=s1 H;go_enter Tryz.func135,Tryz.ntmps135;go_wp2_with (first|(refine gA Tryz.func140 (bG.calls A2.out) ?_;intro nd)|(go_at_call 141;refine mA (dK.calls A4.out) ?_;intro nd))
       go_ret;exact⟨rs,dn⟩
      ·replace H:=sq H;rcases H with⟨Di,ao7,H⟩|⟨c21,Di,ao7,H⟩
       ·obtain rfl:=s1 H;go_enter Tryz.func135,Tryz.ntmps135;go_wp2_with (first|(refine gA Tryz.func140 (bG.calls A2.out) ?_;intro nd)|(go_at_call 141;refine mA (dK.calls A4.out) ?_;intro nd))
        go_ret;exact⟨rs,dn⟩
       ·replace H:=sq H;rcases H with⟨EZ,aeG,H⟩|⟨c22,EZ,aeG,H⟩
        ·obtain rfl:=s1 H;go_enter Tryz.func135,Tryz.ntmps135;go_wp2_with (first|(refine gA Tryz.func140 (bG.calls A2.out) ?_;intro nd)|(go_at_call 141;refine mA (dK.calls A4.out) ?_;intro nd))
         go_ret;exact⟨rs,dn⟩
        ·replace H:=sq H;rcases H with⟨CZ,RF,H⟩|⟨c23,CZ,RF,H⟩
         ·obtain rfl:=s1 H;go_enter Tryz.func135,Tryz.ntmps135;go_wp2_with (first|(refine gA Tryz.func140 (bG.calls A2.out) ?_;intro nd)|(go_at_call 141;refine mA (dK.calls A4.out) ?_;intro nd))
          go_ret;exact⟨rs,dn⟩
         ·replace H:=sq H;rcases H with⟨Us,ajB,H⟩|⟨c24,Us,ajB,H⟩
          ·obtain rfl:=s1 H;go_enter Tryz.func135,Tryz.ntmps135;go_wp2_with (first|(refine gA Tryz.func140 (bG.calls A2.out) ?_;intro nd)|(go_at_call 141;refine mA (dK.calls A4.out) ?_;intro nd))
           go_ret;exact⟨rs,dn⟩
          ·replace H:=sp H;rcases H with⟨c25,H⟩|⟨c25,H⟩
           ·have Ul:decide (94≤a0)=true:=decide_eq_true c25;clear c25;replace H:=sd H;rcases H with⟨Rn,H⟩|⟨Rn,H⟩
            ·obtain rfl:=s1 H;go_enter Tryz.func135,Tryz.ntmps135;go_wp2_with (first|(refine gA Tryz.func140 (bG.calls A2.out) ?_;intro nd)|(go_at_call 141;refine mA (dK.calls A4.out) ?_;intro nd))
             go_ret;exact⟨rs,dn⟩
            ·replace H:=sp H;rcases H with⟨c27,H⟩|⟨c27,H⟩
             ·have I5:decide (123≤a0)=true:=decide_eq_true c27;clear c27;obtain rfl:=s1 H;go_enter Tryz.func135,Tryz.ntmps135;go_wp2_with (first|(refine gA Tryz.func140 (bG.calls A2.out) ?_;intro nd)|(go_at_call 141;refine mA (dK.calls A4.out) ?_;intro nd))
              go_ret;exact⟨rs,dn⟩
             ·have I5:decide (123≤a0)=false:=decide_eq_false c27;clear c27;obtain rfl:=s1 H;go_enter Tryz.func135,Tryz.ntmps135;go_wp2_with (first|(refine gA Tryz.func140 (bG.calls A2.out) ?_;intro nd)|(go_at_call 141;refine mA (dK.calls A4.out) ?_;intro nd))
              go_ret;exact⟨rs,dn⟩
           ·have Ul:decide (94≤a0)=false:=decide_eq_false c25;clear c25;replace H:=sp H;rcases H with⟨c28,H⟩|⟨c28,H⟩
            ·have I7:decide (123≤a0)=true:=decide_eq_true c28;clear c28;obtain rfl:=s1 H;go_enter Tryz.func135,Tryz.ntmps135;go_wp2_with (first|(refine gA Tryz.func140 (bG.calls A2.out) ?_;intro nd)|(go_at_call 141;refine mA (dK.calls A4.out) ?_;intro nd))
             go_ret;exact⟨rs,dn⟩
            ·have I7:decide (123≤a0)=false:=decide_eq_false c28;clear c28;obtain rfl:=s1 H;go_enter Tryz.func135,Tryz.ntmps135;go_wp2_with (first|(refine gA Tryz.func140 (bG.calls A2.out) ?_;intro nd)|(go_at_call 141;refine mA (dK.calls A4.out) ?_;intro nd))
             go_ret;exact⟨rs,dn⟩
mutual
def dM.l0:Nat→ByteArray→List ByteArray→Int→Bool→Option (List ByteArray×Bool)
 |0,_,_,_,_=>none
 |k+1,x0,x4,x5,x6=>if x5<(x0.size:Int)then(if 0≤x5 then(if(bt x0 x5)=32 then(dM.l0 k x0 x4 (wrap64 (x5+1)) true)else(if x6=true then(if(bt x0 x5)=34 then(if x5≤(x0.size:Int)then((jS.f k (x0.extract (x5:Int).toNat x0.size)).bind fun alm=>(if alm.2.2=true then(if x4.length<8796093022208 then(dM.l0 k x0 (x4++[alm.1]) (wrap64 (x5+alm.2.1)) false)else(none))else(some (([]:List ByteArray),false))))else(none))else(dM.l1 k x0 x4 x5 x5))else(some (([]:List ByteArray),false))))else(none))else(some (x4,true))
def dM.l1:Nat→ByteArray→List ByteArray→Int→Int→Option (List ByteArray×Bool)
 |0,_,_,_,_=>none
 |k+1,x0,x4,x5,x10=>if x10<(x0.size:Int)then(if 0≤x10 then((lU.f (bt x0 x10)).bind fun t194=>(if t194=true then(dM.l1 k x0 x4 x5 (wrap64 (x10+1)))else(if x10=x5 then(some (([]:List ByteArray),false))else(if 0≤x5 then(if x5≤x10 then(if x10≤(x0.size:Int)then(if x4.length<8796093022208 then(dM.l0 k x0 (x4++[x0.extract (x5:Int).toNat (x10:Int).toNat]) x10 false)else(none))else(none))else(none))else(none)))))else(none))else(if x10=x5 then(some (([]:List ByteArray),false))else(if 0≤x5 then(if x5≤x10 then(if x10≤(x0.size:Int)then(if x4.length<8796093022208 then(dM.l0 k x0 (x4++[x0.extract (x5:Int).toNat (x10:Int).toNat]) x10 false)else(none))else(none))else(none))else(none)))
end
def dM.f (k:Nat) (a0:ByteArray):Option (List ByteArray×Bool):=(bn.f k a0).bind fun aBI=>(if aBI=true then(dM.l0 k a0 (([]:List ByteArray)) 0 true)else(some (([]:List ByteArray),false)))
theorem dM.calls {k:Nat} {a0:ByteArray} {r1:List ByteArray} {r2:Bool} {w:World} (h:dM.f k a0=some (r1,r2)):
  Calls Tryz.prog 94 #[.string a0] w fun e w'=>∃pO:Value,e= .returned (.tuple #[pO, .bool r2])∧Kd.R Kd.string 9 w' w.heap.size (fun _=>True) pO r1∧Below w.heap.size w w':=by
 have HB:=ak (Below.refl w.heap.size w);unfold dM.f at h;have H:=h;clear h;replace H:=bd H;obtain⟨aBI,A2,H⟩:=H;replace H:=sb H;rcases H with⟨rfl,H⟩|⟨rfl,H⟩
 ·obtain⟨aPP,arb⟩:=nm ([]:List ByteArray);rw[←arb.out]at H;have H':=ak H;clear H;go_enter Tryz.func94,Tryz.ntmps94;go_wp2_with (first|(refine gA Tryz.func89 (bn.calls A2.out) ?_;intro nd)|(refine IY 14 Kd.string 9 arb ?_;intro aPQ w4 ho5 hb;have aBJ:=ak (Kd.aG ho5 (aj (ul HB.out)));replace HB:=bs HB hb;clear hb ho5))
  go_loopg [4,5,6] k (fun kq v4 v5 v6 w'=>∃(fC:List ByteArray) (fD:Int) (fE:Bool),v5= .int .i64 fD∧v6= .bool fE∧ah (dM.l0 kq a0 fC fD fE=some (r1,r2))∧ah (kq≤k)∧ah (Kd.R Kd.string 9 w' w.heap.size (fun _=>True) v4 fC)∧ah (Below w.heap.size w w'))
  case atStart=>exact⟨_,_,_,rs,rs,H',⟨Nat.le_refl _⟩,⟨ur aBJ.out⟩,⟨ul HB.out⟩⟩
  case round=>
   clear H';obtain⟨fC,fD,fE,rfl,rfl,HA,xK,jf,HB⟩:=hrel
   cases gk with
   |zero=>exact zz HA.out
   |succ k1=>
    obtain⟨H⟩:=HA;simp only[dM.l0]at H;replace H:=sd H;rcases H with⟨pF,H⟩|⟨pF,H⟩
    ·replace H:=oL H;obtain⟨tZ,H⟩:=H;replace H:=sq H;rcases H with⟨AZ,Jb,H⟩|⟨c9,AZ,Jb,H⟩
     ·have H':=ak H;clear H;obtain⟨p8,q8,hx8⟩:=bx a0 fD;go_wp2;go_roundg k1
      case measure=>exact kl
      case rel=>exact⟨_,_,_,rs,rs,H',⟨kl⟩,⟨ur jf.out⟩,⟨ul HB.out⟩⟩
     ·replace H:=sb H;rcases H with⟨rfl,H⟩|⟨rfl,H⟩
      ·replace H:=sq H;rcases H with⟨yN,Gi,H⟩|⟨c12,yN,Gi,H⟩
       ·have xA:=eq_true (of_decide_eq_true (by assumption):0≤fD);replace H:=Du H;obtain⟨vZ,Ah,H⟩:=H;replace H:=bd H;obtain⟨⟨aHp,aPR,aPS⟩,A15,H⟩:=H
        (try dsimp only at H);replace H:=sb H;rcases H with⟨rfl,H⟩|⟨rfl,H⟩
        ·replace H:=nl H;obtain⟨ajD,H⟩:=H;obtain⟨aPT,ard⟩:=nm (fC++[aHp]);rw[←ard.out]at H;have H':=ak H;clear H;obtain⟨p8,q8,hx8⟩:=bx a0 fD;obtain⟨p11,q11,aaw⟩:=bx a0 fD;go_wp2_with (first|(refine gB Tryz.func134 (jS.calls A15.out) ?_;intro w18 hb;replace jf:=rb jf hb;replace HB:=bs HB hb;clear hb)|(at_builtin;refine aP 68 70 Kd.string 23 9 (.string ⟨#[]⟩) 16 Tryz.underlying23 info9 HB (ur jf.out) ard (by have:=ajD.out;omega) ?_;intro aPU w19 ho hb hg hat;have aBK:=ak (ho);replace HB:=ak (hb);clear ho hb hg hat jf))
         go_roundg k1
         case measure=>exact kl
         case rel=>exact⟨_,_,_,rs,rs,H',⟨kl⟩,⟨ur aBK.out⟩,⟨ul HB.out⟩⟩
        ·obtain⟨rfl,rfl⟩:=s2 H;obtain⟨p8,q8,hx8⟩:=bx a0 fD;obtain⟨p11,q11,aaw⟩:=bx a0 fD;go_wp2_with (refine gB Tryz.func134 (jS.calls A15.out) ?_;intro w20 hb;replace jf:=rb jf hb;replace HB:=bs HB hb;clear hb)
         go_ret2;exact⟨_,er,nx,ul HB.out⟩
       ·have H':=ak H;clear H;obtain⟨p8,q8,hx8⟩:=bx a0 fD;obtain⟨p11,q11,aaw⟩:=bx a0 fD;go_wp2;go_loopg [10] k1 (fun kq v10 w'=>∃(RV:Int),v10= .int .i64 RV∧ah (dM.l1 kq a0 fC fD RV=some (r1,r2))∧ah (kq≤k1)∧ah (Kd.R Kd.string 9 w' w.heap.size (fun _=>True) u4 fC)∧ah (Below w.heap.size w w'))
        case atStart=>exact⟨_,rs,H',⟨Nat.le_refl _⟩,⟨ur jf.out⟩,⟨ul HB.out⟩⟩
        case round=>
         clear H';try clear pF
         try clear tZ
         try clear p8
         try clear q8
         try clear hx8
         try clear c9
         try clear AZ
         try clear Jb
         try clear p11
         try clear q11
         try clear aaw
         try clear c12
         try clear yN
         try clear Gi
         try clear p11
         try clear p8
         try clear q11
         try clear q8
         obtain⟨RV,rfl,HA,HK2,jf,HB⟩:=hrel
         cases gk with
         |zero=>exact zz HA.out
         |succ k2=>
          obtain⟨H⟩:=HA;simp only[dM.l1]at H;replace H:=sd H;rcases H with⟨Di,H⟩|⟨Di,H⟩
          ·replace H:=oL H;obtain⟨EZ,H⟩:=H;replace H:=bd H;obtain⟨t194,A24,H⟩:=H;replace H:=sb H;rcases H with⟨rfl,H⟩|⟨rfl,H⟩
           ·have H':=ak H;clear H;obtain⟨p23,q23,aBL⟩:=bx a0 RV;go_wp2_with (go_at_call 135;refine mA (lU.calls A24.out) ?_;intro nd)
            go_roundg k2
            case measure=>exact kl
            case rel=>exact⟨_,rs,H',⟨kl⟩,⟨ur jf.out⟩,⟨ul HB.out⟩⟩
           ·replace H:=sq H;rcases H with⟨Rn,aem,H⟩|⟨c26,Rn,aem,H⟩
            ·obtain⟨rfl,rfl⟩:=s2 H;obtain⟨p23,q23,aBL⟩:=bx a0 RV;go_wp2_with (go_at_call 135;refine mA (lU.calls A24.out) ?_;intro nd)
             go_ret2;exact⟨_,er,nx,ul HB.out⟩
            ·replace H:=Du H;obtain⟨I5,aeK,H⟩:=H;replace H:=Du H;obtain⟨I7,aeL,H⟩:=H;replace H:=Du H;obtain⟨afV,aKx,H⟩:=H;replace H:=nl H;obtain⟨aBM,H⟩:=H;obtain⟨aPV,arf⟩:=nm (fC++[a0.extract (fD:Int).toNat (RV:Int).toNat]);rw[←arf.out]at H;have H':=ak H;clear H;obtain⟨p23,q23,aBL⟩:=bx a0 RV;go_wp2_with (first|(go_at_call 135;refine mA (lU.calls A24.out) ?_;intro nd)|(at_builtin;refine aP 35 40 Kd.string 23 9 (.string ⟨#[]⟩) 16 Tryz.underlying23 info9 HB (ur jf.out) arf (by have:=aBM.out;omega) ?_;intro v196 w31 ho hb hg hat;have aBN:=ak (ho);replace HB:=ak (hb);clear ho hb hg hat jf))
             go_roundg k2
             case measure=>exact kl
             case rel=>exact⟨_,_,_,rs,rs,H',⟨kl⟩,⟨ur aBN.out⟩,⟨ul HB.out⟩⟩
          ·replace H:=sq H;rcases H with⟨aaC,aje,H⟩|⟨c32,aaC,aje,H⟩
           ·obtain⟨rfl,rfl⟩:=s2 H;go_wp2;go_ret2;exact⟨_,er,nx,ul HB.out⟩
           ·replace H:=Du H;obtain⟨WY,ajf,H⟩:=H;replace H:=Du H;obtain⟨aaD,aaE,H⟩:=H;replace H:=Du H;obtain⟨ajg,apj,H⟩:=H;replace H:=nl H;obtain⟨aBO,H⟩:=H;obtain⟨aPW,arh⟩:=nm (fC++[a0.extract (fD:Int).toNat (RV:Int).toNat]);rw[←arh.out]at H;have H':=ak H;clear H;go_wp2_with (at_builtin;refine aP 35 40 Kd.string 23 9 (.string ⟨#[]⟩) 16 Tryz.underlying23 info9 HB (ur jf.out) arh (by have:=aBO.out;omega) ?_;intro aPX w37 ho hb hg hat;have aBP:=ak (ho);replace HB:=ak (hb);clear ho hb hg hat jf)
            go_roundg k2
            case measure=>exact kl
            case rel=>exact⟨_,_,_,rs,rs,H',⟨kl⟩,⟨ur aBP.out⟩,⟨ul HB.out⟩⟩
      ·obtain⟨rfl,rfl⟩:=s2 H;obtain⟨p8,q8,hx8⟩:=bx a0 fD;go_wp2;go_ret2;exact⟨_,er,nx,ul HB.out⟩
    ·obtain⟨rfl,rfl⟩:=s2 H;go_wp2;go_ret2;exact⟨_,er,ur jf.out,ul HB.out⟩
 ·obtain⟨rfl,rfl⟩:=s2 H;go_enter Tryz.func94,Tryz.ntmps94;go_wp2_with (refine gA Tryz.func89 (bn.calls A2.out) ?_;intro nd)
  go_ret2;exact⟨_,er,nx,ul HB.out⟩
def iy.f (k:Nat) (a0:ByteArray):Option (Bool):=(jP.f k a0).bind fun t201=>(if t201=true then((jv.f a0).bind fun aBQ=>(some (aBQ.toList==a0.toList)))else(some false))
theorem iy.calls {k:Nat} {a0:ByteArray} {r:Bool} {w:World} (h:iy.f k a0=some r):
  Calls Tryz.prog 136 #[.string a0] w fun e w'=>e= .returned (.bool r)∧Below w.heap.size w w':=by
 have HB:=ak (Below.refl w.heap.size w);unfold iy.f at h;have H:=h;clear h;replace H:=bd H;obtain⟨t201,A2,H⟩:=H;replace H:=sb H;rcases H with⟨rfl,H⟩|⟨rfl,H⟩
 ·replace H:=bd H;obtain⟨aBQ,A4,H⟩:=H;obtain rfl:=s1 H;go_enter Tryz.func136,Tryz.ntmps136;go_wp2_with (first|(refine gA Tryz.func160 (jP.calls A2.out) ?_;intro nd)|(go_at_call 93;refine mB (jv.calls A4.out) ?_;intro w5 hb;replace HB:=bs HB hb;clear hb))
  go_ret;exact⟨er,ul HB.out⟩
 ·obtain rfl:=s1 H;go_enter Tryz.func136,Tryz.ntmps136;go_wp2_with (refine gA Tryz.func160 (jP.calls A2.out) ?_;intro nd)
  go_ret;exact⟨er,ul HB.out⟩
def dP.l0:Nat→ByteArray→Int→Int→Option (Bool)
 |0,_,_,_=>none
 |k+1,x0,x7,x8=>if x8<x7 then(if 0≤x8 then(if x8<(x0.size:Int)then((lU.f (bt x0 x8)).bind fun t203=>(if t203=true then(dP.l0 k x0 x7 (wrap64 (x8+1)))else(some false)))else(none))else(none))else(some true)
def dP.f (k:Nat) (a0:ByteArray):Option (Bool):=dP.l0 k a0 (a0.size:Int) 0
theorem dP.calls {k:Nat} {a0:ByteArray} {r:Bool} {w:World} (h:dP.f k a0=some r):
  Calls Tryz.prog 138 #[.string a0, .func (.func 135) #[] #[]] w fun e w'=>e= .returned (.bool r)∧dO w w':=by
 unfold dP.f at h;have H:=h;clear h;have H':=ak H;clear H;go_enter Tryz.func138,Tryz.ntmps138;go_wp2;go_loopg [8] k (fun kq v8 w'=>∃(lQ:Int),v8= .int .i64 lQ∧ah (dP.l0 kq a0 (a0.size:Int) lQ=some r)∧ah (kq≤k)∧dO w w')
 case atStart=>exact⟨_,rs,H',⟨Nat.le_refl _⟩,dn⟩
 case round=>
  clear H';obtain⟨lQ,rfl,HA,xK,⟨m1,rfl⟩⟩:=hrel
  cases gk with
  |zero=>exact zz HA.out
  |succ k1=>
   obtain⟨H⟩:=HA;simp only[dP.l0]at H;replace H:=sd H;rcases H with⟨iW,H⟩|⟨iW,H⟩
   ·replace H:=oL H;obtain⟨rW,H⟩:=H;replace H:=oL H;obtain⟨oz,H⟩:=H;replace H:=bd H;obtain⟨t203,A7,H⟩:=H;replace H:=sb H;rcases H with⟨rfl,H⟩|⟨rfl,H⟩
    ·have H':=ak H;clear H;obtain⟨p6,q6,hx6⟩:=bx a0 lQ;go_wp2_with (go_at_call 135;refine mA (lU.calls A7.out) ?_;intro nd)
     go_roundg k1
     case measure=>exact kl
     case rel=>exact⟨_,rs,H',⟨kl⟩,dn⟩
    ·obtain rfl:=s1 H;obtain⟨p6,q6,hx6⟩:=bx a0 lQ;go_wp2_with (go_at_call 135;refine mA (lU.calls A7.out) ?_;intro nd)
     go_ret;exact⟨rs,dn⟩
   ·obtain rfl:=s1 H;go_wp2;go_ret;exact⟨rs,dn⟩
def rG.f (k:Nat) (a0:ByteArray):Option (Bool):=if(a0.size:Int)≥1 then(if(a0.size:Int)≤40 then((dP.f k a0).bind fun aBR=>(some aBR))else(some false))else(some false)
theorem rG.calls {k:Nat} {a0:ByteArray} {r:Bool} {w:World} (h:rG.f k a0=some r):
  Calls Tryz.prog 193 #[.string a0] w fun e w'=>e= .returned (.bool r)∧dO w w':=by
 unfold rG.f at h;have H:=h;clear h;replace H:=sp H;rcases H with⟨c2,H⟩|⟨c2,H⟩
 ·have qJ:decide (1≤(a0.size:Int))=true:=decide_eq_true c2;have yR:decide (1≤a0.size)=true:=decide_eq_true (by omega);clear c2;replace H:=sp H;rcases H with⟨c3,H⟩|⟨c3,H⟩
  ·have iW:=decide_eq_true c3;have Ae:decide (a0.size≤40)=true:=decide_eq_true (by omega);clear c3;replace H:=bd H;obtain⟨aBR,A4,H⟩:=H;obtain rfl:=s1 H;go_enter Tryz.func193,Tryz.ntmps193;go_wp2_with (go_at_call 138;refine mA (dP.calls A4.out) ?_;intro nd)
   go_ret;exact⟨rs,dn⟩
  ·have iW:=decide_eq_false c3;have Ae:decide (a0.size≤40)=false:=decide_eq_false (by omega);clear c3;obtain rfl:=s1 H;go_enter Tryz.func193,Tryz.ntmps193;go_wp2;go_ret;exact⟨rs,dn⟩
 ·have qJ:decide (1≤(a0.size:Int))=false:=decide_eq_false c2;have yR:decide (1≤a0.size)=false:=decide_eq_false (by omega);clear c2;obtain rfl:=s1 H;go_enter Tryz.func193,Tryz.ntmps193;go_wp2;go_ret;exact⟨rs,dn⟩
def jw.l0:Nat→ByteArray→List Int→Int→Int→Option (ByteArray)
 |0,_,_,_,_=>none
 |k+1,x0,x3,x15,x16=>if x16<x15 then(if 0≤x16 then(if x16<(x0.size:Int)then(if(bt x0 x16)=34 then(if x3.length<140737488355328 then((some (x3++[92]:List Int)).bind fun aoi=>(if aoi.length<140737488355328 then(jw.l0 k x0 (aoi++[bt x0 x16]) x15 (wrap64 (x16+1)))else(none)))else(none))else(if(bt x0 x16)=92 then(if x3.length<140737488355328 then((some (x3++[92]:List Int)).bind fun aoj=>(if aoj.length<140737488355328 then(jw.l0 k x0 (aoj++[bt x0 x16]) x15 (wrap64 (x16+1)))else(none)))else(none))else(if x3.length<140737488355328 then(jw.l0 k x0 (x3++[bt x0 x16]) x15 (wrap64 (x16+1)))else(none))))else(none))else(none))else(if x3.length<140737488355328 then(some (strOfNums (x3++[34])))else(none))
def jw.f (k:Nat) (a0:ByteArray):Option (ByteArray):=(bn.f k a0).bind fun aBS=>(if aBS=true then((rG.f k a0).bind fun t206=>(if t206=true then(some a0)else(jw.l0 k a0 (([34]:List Int)) (a0.size:Int) 0)))else(some (⟨#[]⟩:ByteArray)))
theorem jw.calls {k:Nat} {a0 r:ByteArray} {w:World} (h:jw.f k a0=some r):
  Calls Tryz.prog 166 #[.string a0] w fun e w'=>e= .returned (.string r)∧Below w.heap.size w w':=by
 have HB:=ak (Below.refl w.heap.size w);unfold jw.f at h;have H:=h;clear h;replace H:=bd H;obtain⟨aBS,A2,H⟩:=H;replace H:=sb H;rcases H with⟨rfl,H⟩|⟨rfl,H⟩
 ·replace H:=bd H;obtain⟨t206,A4,H⟩:=H;replace H:=sb H;rcases H with⟨rfl,H⟩|⟨rfl,H⟩
  ·obtain rfl:=s1 H;go_enter Tryz.func166,Tryz.ntmps166;go_wp2_with (first|(refine gA Tryz.func89 (bn.calls A2.out) ?_;intro nd)|(refine gA Tryz.func193 (rG.calls A4.out) ?_;intro nd))
   go_ret;exact⟨er,ul HB.out⟩
  ·obtain⟨aPY,ari⟩:=nm ([34]:List Int);rw[←ari.out]at H;have H':=ak H;clear H;go_enter Tryz.func166,Tryz.ntmps166;go_wp2_with (first|(refine gA Tryz.func89 (bn.calls A2.out) ?_;intro nd)|(refine gA Tryz.func193 (rG.calls A4.out) ?_;intro nd)|(refine Tq 13 (Kd.int .u8) 5 [.int .u8 34] ari (bZ.one (show Kd.M (Kd.int .u8) _ _ _ 34 [.int .u8 34]from rfl) (bZ.none _ _)) ?_;intro v208 w6 ho7 hb;have aBT:=ak (Kd.aG ho7 (aj (ul HB.out)));replace HB:=bs HB hb;clear hb ho7))
   go_loopg [3,16] k (fun kq v3 v16 w'=>∃(dV:List Int) (iM:Int),v16= .int .i64 iM∧ah (jw.l0 kq a0 dV (a0.size:Int) iM=some r)∧ah (kq≤k)∧ah (Kd.R (Kd.int .u8) 5 w' w.heap.size (fun _=>True) v3 dV)∧ah (Below w.heap.size w w'))
   case atStart=>exact⟨_,_,rs,H',⟨Nat.le_refl _⟩,⟨ur aBT.out⟩,⟨ul HB.out⟩⟩
   case round=>
    clear H';obtain⟨dV,iM,rfl,HA,xK,qQ,HB⟩:=hrel
    cases gk with
    |zero=>exact zz HA.out
    |succ k1=>
     obtain⟨H⟩:=HA;simp only[jw.l0]at H;replace H:=sd H;rcases H with⟨uK,H⟩|⟨uK,H⟩
     ·replace H:=oL H;obtain⟨AZ,H⟩:=H;replace H:=oL H;obtain⟨oO,H⟩:=H;replace H:=sq H;rcases H with⟨yN,Gi,H⟩|⟨c12,yN,Gi,H⟩
      ·replace H:=nl H;obtain⟨aBU,H⟩:=H;replace H:=ny H;obtain⟨aoi,aBV,H⟩:=H;replace H:=nl H;obtain⟨aBW,H⟩:=H;obtain⟨aPZ,arj⟩:=nm (aoi++[bt a0 iM]);rw[←arj.out]at H;have H':=ak H;clear H;obtain⟨p11,q11,aaw⟩:=bx a0 iM;go_wp2_with (first|(at_builtin;refine aP 29 30 (Kd.int .u8) 22 5 (.int .u8 0) 1 Tryz.underlying22 info5 HB (ur qQ.out) aBV (by have:=aBU.out;omega) ?_;intro aP0 w16 ho hb hg hat;have ark:=ak (ho);replace HB:=ak (hb);clear ho hb hg hat qQ;have p14:0≤(iM:Int):=of_decide_eq_true (by assumption);have q14:iM<(a0.size:Int):=of_decide_eq_true (by assumption);have asE:=yL a0 iM;replace p14:=eq_true p14;replace q14:=eq_true q14)|(at_builtin;refine aP 32 36 (Kd.int .u8) 22 5 (.int .u8 0) 1 Tryz.underlying22 info5 HB (ur ark.out) arj (by have:=aBW.out;omega) ?_;intro aP1 w17 ho hb hg hat;have aBX:=ak (ho);replace HB:=ak (hb);clear ho hb hg hat ark))
       go_roundg k1
       case measure=>exact kl
       case rel=>exact⟨_,_,rs,H',⟨kl⟩,⟨ur aBX.out⟩,⟨ul HB.out⟩⟩
      ·replace H:=sq H;rcases H with⟨D_,Ij,H⟩|⟨c19,D_,Ij,H⟩
       ·replace H:=nl H;obtain⟨aiT,H⟩:=H;replace H:=ny H;obtain⟨aoj,aBY,H⟩:=H;replace H:=nl H;obtain⟨alh,H⟩:=H;obtain⟨aP2,arl⟩:=nm (aoj++[bt a0 iM]);rw[←arl.out]at H;have H':=ak H;clear H;obtain⟨p11,q11,aaw⟩:=bx a0 iM;obtain⟨p18,q18,aAv⟩:=bx a0 iM;go_wp2_with (first|(at_builtin;refine aP 29 30 (Kd.int .u8) 22 5 (.int .u8 0) 1 Tryz.underlying22 info5 HB (ur qQ.out) aBY (by have:=aiT.out;omega) ?_;intro aP3 w23 ho hb hg hat;have arn:=ak (ho);replace HB:=ak (hb);clear ho hb hg hat qQ;have p21:0≤(iM:Int):=of_decide_eq_true (by assumption);have q21:iM<(a0.size:Int):=of_decide_eq_true (by assumption);have aP4:=yL a0 iM;replace p21:=eq_true p21;replace q21:=eq_true q21)|(at_builtin;refine aP 32 36 (Kd.int .u8) 22 5 (.int .u8 0) 1 Tryz.underlying22 info5 HB (ur arn.out) arl (by have:=alh.out;omega) ?_;intro aP5 w24 ho hb hg hat;have aBZ:=ak (ho);replace HB:=ak (hb);clear ho hb hg hat arn))
        go_roundg k1
        case measure=>exact kl
        case rel=>exact⟨_,_,rs,H',⟨kl⟩,⟨ur aBZ.out⟩,⟨ul HB.out⟩⟩
       ·replace H:=nl H;obtain⟨aB0,H⟩:=H;obtain⟨aP6,aro⟩:=nm (dV++[bt a0 iM]);rw[←aro.out]at H;have H':=ak H;clear H;obtain⟨p11,q11,aaw⟩:=bx a0 iM;obtain⟨p18,q18,aAv⟩:=bx a0 iM;obtain⟨p25,q25,hx25⟩:=bx a0 iM;go_wp2_with (at_builtin;refine aP 32 36 (Kd.int .u8) 22 5 (.int .u8 0) 1 Tryz.underlying22 info5 HB (ur qQ.out) aro (by have:=aB0.out;omega) ?_;intro aP7 w27 ho hb hg hat;have aB1:=ak (ho);replace HB:=ak (hb);clear ho hb hg hat qQ)
        go_roundg k1
        case measure=>exact kl
        case rel=>exact⟨_,_,rs,H',⟨kl⟩,⟨ur aB1.out⟩,⟨ul HB.out⟩⟩
     ·replace H:=nl H;obtain⟨aB2,H⟩:=H;obtain⟨aP8,arp⟩:=nm (dV++[34]);rw[←arp.out]at H;obtain rfl:=s1 H;go_wp2_with (at_builtin;refine aP 39 40 (Kd.int .u8) 22 5 (.int .u8 0) 1 Tryz.underlying22 info5 HB (ur qQ.out) arp (by have:=aB2.out;omega) ?_;intro v226 w29 ho hb hg hat;have aB3:=ak (ho);replace HB:=ak (hb);clear ho hb hg hat qQ;have aKy:=tK (P:=Tryz.prog) Tryz.underlying22 Tryz.underlying5 Tryz.underlying9 (Kd.xW aB3.out))
      go_ret;exact⟨er,ul HB.out⟩
 ·obtain rfl:=s1 H;go_enter Tryz.func166,Tryz.ntmps166;go_wp2_with (refine gA Tryz.func89 (bn.calls A2.out) ?_;intro nd)
  go_ret;exact⟨er,ul HB.out⟩
end Go.Proofs.YtncdadcmghglkaaGreatDoor.PFnPartAt
