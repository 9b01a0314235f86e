/- Printed walks; conditions: those in each statement. -/
import Derived.Test.YtncdadcmghglkaaGreatDoorVFnPathEmptyQt
import Derived.Test.YtncdadcmghglkaaGreatDoorVFnPathEmptyYt
import Derived.Test.YtncdadcmghglkaaGreatDoorPFnPathEmptyx0
import Derived.Test.YtncdadcmghglkaaGreatDoorPFnPathEmptyx13
-- short
-- dense
-- sq
-- sq2
namespace Go.Proofs.YtncdadcmghglkaaGreatDoor.PFnPathEmpty
open Go.RowKit Go.Proofs.YtncdadcmghglkaaGreatDoor.X Go.Proofs.YtncdadcmghglkaaGreatDoorW.dJ Go.Proofs.YtncdadcmghglkaaGreatDoorW.kX Go.Proofs.YtncdadcmghglkaaGreatDoorW.oI
attribute [local go_sem] wX wY zS zT uJ uK wZ xg   -- for this text's walks alone
set_option linter.unusedVariables false
set_option maxHeartbeats 8000000
set_option maxRecDepth 100000
set_option linter.unusedSimpArgs false
def kL.l0:Nat→ByteArray→ByteArray→Int→Option (ByteArray)
 |0,_,_,_=>none
 |k+1,x0,x3,x4=>if x4<(x0.size:Int)then(if 0≤x4 then(if(bt x0 x4)=34 then((some (([92]:List Int):List Int)).bind fun Yw=>(if x3.size+(strOfNums Yw).size≤9223372036854775807 then(if x4≤(wrap64 (x4+1))then(if(wrap64 (x4+1))≤(x0.size:Int)then(if(x3++(strOfNums Yw)).size+(x0.extract (x4:Int).toNat ((wrap64 (x4+1)):Int).toNat).size≤9223372036854775807 then(kL.l0 k x0 ((x3++(strOfNums Yw))++(x0.extract (x4:Int).toNat ((wrap64 (x4+1)):Int).toNat)) (wrap64 (x4+1)))else(none))else(none))else(none))else(none)))else(if(bt x0 x4)=92 then((some (([92]:List Int):List Int)).bind fun Yx=>(if x3.size+(strOfNums Yx).size≤9223372036854775807 then(if x4≤(wrap64 (x4+1))then(if(wrap64 (x4+1))≤(x0.size:Int)then(if(x3++(strOfNums Yx)).size+(x0.extract (x4:Int).toNat ((wrap64 (x4+1)):Int).toNat).size≤9223372036854775807 then(kL.l0 k x0 ((x3++(strOfNums Yx))++(x0.extract (x4:Int).toNat ((wrap64 (x4+1)):Int).toNat)) (wrap64 (x4+1)))else(none))else(none))else(none))else(none)))else(if x4≤(wrap64 (x4+1))then(if(wrap64 (x4+1))≤(x0.size:Int)then(if x3.size+(x0.extract (x4:Int).toNat ((wrap64 (x4+1)):Int).toNat).size≤9223372036854775807 then(kL.l0 k x0 (x3++(x0.extract (x4:Int).toNat ((wrap64 (x4+1)):Int).toNat)) (wrap64 (x4+1)))else(none))else(none))else(none))))else(none))else(if x3.size+1≤9223372036854775807 then(some (x3++(⟨#[34]⟩:ByteArray)))else(none))
def kL.f (k:Nat) (a0:ByteArray):Option (ByteArray):=kL.l0 k a0 (⟨#[34]⟩:ByteArray) 0
theorem kL.calls {k:Nat} {a0 r:ByteArray} {w:World} (h:kL.f k a0=some r):
  Calls Tryz.prog 215 #[.string a0] w fun e w'=>e= .returned (.string r)∧Below w.heap.size w w':=by
 have HB:=ak (Below.refl w.heap.size w);unfold kL.f at h;have H:=h;clear h;have H':=ak H;clear H;go_enter Tryz.func215,Tryz.ntmps215;go_wp2;go_loopg [3,4] k (fun kq v3 v4 w'=>∃(dX:ByteArray) (eU:Int),v3= .string dX∧v4= .int .i64 eU∧ah (kL.l0 kq a0 dX eU=some r)∧ah (kq≤k)∧ah (Below w.heap.size w w'))
 case atStart=>exact⟨_,_,rs,rs,H',⟨Nat.le_refl _⟩,⟨ul HB.out⟩⟩
 case round=>
  clear H';obtain⟨dX,eU,rfl,rfl,HA,yH,HB⟩:=hrel
  cases gk with
  |zero=>exact zz HA.out
  |succ k1=>
   obtain⟨H⟩:=HA;simp only[kL.l0]at H;replace H:=sd H;rcases H with⟨qO,H⟩|⟨qO,H⟩
   ·replace H:=oG H;obtain⟨iT,H⟩:=H;replace H:=sq H;rcases H with⟨nT,NZ,H⟩|⟨c5,nT,NZ,H⟩
    ·replace H:=ny H;obtain⟨Yw,aw8,H⟩:=H;replace H:=nn H;obtain⟨c6,H⟩:=H;have oV:=eq_true c6;have zX:=decide_eq_true c6;try have amx:(9223372036854775807<dX.size+(strOfNums Yw).size)=False:=eq_false (Nat.not_lt.2 c6)
     have tJ:=eq_true (of_decide_eq_true (by assumption):0≤eU);replace H:=nn H;obtain⟨c8,H⟩:=H;have uG:=eq_true c8;have F5:=decide_eq_true c8;replace H:=nn H;obtain⟨c9,H⟩:=H;have A_:=eq_true c9;have I4:=decide_eq_true c9;replace H:=nn H;obtain⟨c10,H⟩:=H;have oD:=eq_true c10;have uN:=decide_eq_true c10;try have awm:(9223372036854775807<dX.size+(strOfNums Yw).size+((a0.extract (eU:Int).toNat ((wrap64 (eU+1)):Int).toNat).size))=False:=by have h_:=c10;simp only[ByteArray.size_append,ByteArray.size_extract]at h_;refine eq_false ?_;simp only[decide_eq_true_eq]at*;omega
     try have aoE:(9223372036854775807<dX.size+(strOfNums Yw).size+((a0.extract (eU:Int).toNat ((wrap64 (eU+1)):Int).toNat).size))=False:=by have h_:=(eq_false (Nat.not_lt.2 c10):(9223372036854775807<(dX++(strOfNums Yw)).size+(a0.extract (eU:Int).toNat ((wrap64 (eU+1)):Int).toNat).size)=False);simp only[ByteArray.size_append]at h_;exact h_
     try have aeD:(9223372036854775807<(dX++(strOfNums Yw)).size+(a0.extract (eU:Int).toNat ((wrap64 (eU+1)):Int).toNat).size)=False:=eq_false (Nat.not_lt.2 c10)
     have H':=ak H;clear H;obtain⟨p4,q4,hx4⟩:=bx a0 eU;go_wp2_with (refine RZ 22 (Kd.int .u8) 5 [.int .u8 92] aw8 (bU.one (show Kd.M (Kd.int .u8) _ _ _ 92 [.int .u8 92]from rfl) (bU.none _ _)) ?_;intro aLA Wn ai9 hb;have aw9:=ak (Kd.aG ai9 (aj (ul HB.out)));replace HB:=bs HB hb;clear hb ai9;have aHK:=sF (P:=Tryz.prog) Tryz.underlying22 Tryz.underlying5 Tryz.underlying9 (Kd.xI aw9.out))
     go_roundg k1
     case measure=>exact kl
     case rel=>exact⟨_,_,rs,rs,H',⟨kl⟩,⟨ul HB.out⟩⟩
    ·replace H:=sq H;rcases H with⟨yx,I5,H⟩|⟨c15,yx,I5,H⟩
     ·replace H:=ny H;obtain⟨Yx,aw_,H⟩:=H;replace H:=nn H;obtain⟨c16,H⟩:=H;have zA:=eq_true c16;have N9:=decide_eq_true c16;try have aHL:(9223372036854775807<dX.size+(strOfNums Yx).size)=False:=eq_false (Nat.not_lt.2 c16)
      have u_:=eq_true (of_decide_eq_true (by assumption):0≤eU);replace H:=nn H;obtain⟨c18,H⟩:=H;have CQ:=eq_true c18;have Uj:=decide_eq_true c18;replace H:=nn H;obtain⟨c19,H⟩:=H;have DR:=eq_true c19;have H_:=decide_eq_true c19;replace H:=nn H;obtain⟨c20,H⟩:=H;have Rf:=eq_true c20;have aar:=decide_eq_true c20;try have aHM:(9223372036854775807<dX.size+(strOfNums Yx).size+((a0.extract (eU:Int).toNat ((wrap64 (eU+1)):Int).toNat).size))=False:=by have h_:=c20;simp only[ByteArray.size_append,ByteArray.size_extract]at h_;refine eq_false ?_;simp only[decide_eq_true_eq]at*;omega
      try have aHN:(9223372036854775807<dX.size+(strOfNums Yx).size+((a0.extract (eU:Int).toNat ((wrap64 (eU+1)):Int).toNat).size))=False:=by have h_:=(eq_false (Nat.not_lt.2 c20):(9223372036854775807<(dX++(strOfNums Yx)).size+(a0.extract (eU:Int).toNat ((wrap64 (eU+1)):Int).toNat).size)=False);simp only[ByteArray.size_append]at h_;exact h_
      try have aHO:(9223372036854775807<(dX++(strOfNums Yx)).size+(a0.extract (eU:Int).toNat ((wrap64 (eU+1)):Int).toNat).size)=False:=eq_false (Nat.not_lt.2 c20)
      have H':=ak H;clear H;obtain⟨p4,q4,hx4⟩:=bx a0 eU;obtain⟨p14,q14,asf⟩:=bx a0 eU;go_wp2_with (refine RZ 22 (Kd.int .u8) 5 [.int .u8 92] aw_ (bU.one (show Kd.M (Kd.int .u8) _ _ _ 92 [.int .u8 92]from rfl) (bU.none _ _)) ?_;intro aLB w21 axa hb;have axb:=ak (Kd.aG axa (aj (ul HB.out)));replace HB:=bs HB hb;clear hb axa;have aHP:=sF (P:=Tryz.prog) Tryz.underlying22 Tryz.underlying5 Tryz.underlying9 (Kd.xI axb.out))
      go_roundg k1
      case measure=>exact kl
      case rel=>exact⟨_,_,rs,rs,H',⟨kl⟩,⟨ul HB.out⟩⟩
     ·have Ul:=eq_true (of_decide_eq_true (by assumption):0≤eU);replace H:=nn H;obtain⟨c25,H⟩:=H;have Ud:=eq_true c25;have aiz:=decide_eq_true c25;replace H:=nn H;obtain⟨c26,H⟩:=H;have Q8:=eq_true c26;have aec:=decide_eq_true c26;replace H:=nn H;obtain⟨c27,H⟩:=H;have IU:=eq_true c27;have aeH:=decide_eq_true c27;try have aHQ:(9223372036854775807<dX.size+((a0.extract (eU:Int).toNat ((wrap64 (eU+1)):Int).toNat).size))=False:=by have h_:=c27;simp only[ByteArray.size_append,ByteArray.size_extract]at h_;refine eq_false ?_;simp only[decide_eq_true_eq]at*;omega
      try have aHR:(9223372036854775807<dX.size+(a0.extract (eU:Int).toNat ((wrap64 (eU+1)):Int).toNat).size)=False:=eq_false (Nat.not_lt.2 c27)
      have H':=ak H;clear H;obtain⟨p4,q4,hx4⟩:=bx a0 eU;obtain⟨p14,q14,asf⟩:=bx a0 eU;go_wp2;go_roundg k1
      case measure=>exact kl
      case rel=>exact⟨_,_,rs,rs,H',⟨kl⟩,⟨ul HB.out⟩⟩
   ·replace H:=nn H;obtain⟨c28,H⟩:=H;have IV:=eq_true c28;have aeI:=decide_eq_true c28;try have aHS:(9223372036854775807<dX.size+1)=False:=eq_false (Nat.not_lt.2 c28)
    obtain rfl:=s1 H;go_wp2;go_ret;exact⟨er,ul HB.out⟩
def sG.f (k:Nat) (a0:ByteArray):Option (ByteArray):=(aQ.f k a0).bind fun axc=>(if axc=true then((eF.f k a0).bind fun axd=>(if axd=true then(some a0)else((kL.f k a0).bind fun axe=>(some axe))))else(some (⟨#[]⟩:ByteArray)))
theorem sG.calls {k:Nat} {a0 r:ByteArray} {w:World} (h:sG.f k a0=some r):
  Calls Tryz.prog 202 #[.string a0] w fun e w'=>e= .returned (.string r)∧Below w.heap.size w w':=by
 have HB:=ak (Below.refl w.heap.size w);unfold sG.f at h;have H:=h;clear h;replace H:=bd H;obtain⟨axc,A2,H⟩:=H;replace H:=sb H;rcases H with⟨rfl,H⟩|⟨rfl,H⟩
 ·replace H:=bd H;obtain⟨axd,A4,H⟩:=H;replace H:=sb H;rcases H with⟨rfl,H⟩|⟨rfl,H⟩
  ·obtain rfl:=s1 H;go_enter Tryz.func202,Tryz.ntmps202;go_wp2_with (first|(refine gA Tryz.func159 (aQ.calls A2.out) ?_;intro nd)|(refine gA Tryz.func214 (eF.calls A4.out) ?_;intro nd))
   go_ret;exact⟨er,ul HB.out⟩
  ·replace H:=bd H;obtain⟨axe,A6,H⟩:=H;obtain rfl:=s1 H;go_enter Tryz.func202,Tryz.ntmps202;go_wp2_with (first|(refine gA Tryz.func159 (aQ.calls A2.out) ?_;intro nd)|(refine gA Tryz.func214 (eF.calls A4.out) ?_;intro nd)|(refine gB Tryz.func215 (kL.calls A6.out) ?_;intro w7 hb;replace HB:=bs HB hb;clear hb))
   go_ret;exact⟨er,ul HB.out⟩
 ·obtain rfl:=s1 H;go_enter Tryz.func202,Tryz.ntmps202;go_wp2_with (refine gA Tryz.func159 (aQ.calls A2.out) ?_;intro nd)
  go_ret;exact⟨er,ul HB.out⟩
mutual
def dA.j0:Nat→Bool→ByteArray→ByteArray→List (fO)→Option (Bool)
 |0,_,_,_,_=>none
 |k+1,x21,S9,S_,z_=>if x21=true then(some false)else(dA.l0 k (wrap64 ((wrap64 ((S9.size:Int)+(S_.size:Int)))+1)) 0 S9 S_ z_)
def dA.l0:Nat→Int→Int→ByteArray→ByteArray→List (fO)→Option (Bool)
 |0,_,_,_,_,_=>none
 |k+1,x3,x4,S9,S_,z_=>if x4<(z_.length:Int)then(if 0≤x4 then((kV.f k ((dU z_ x4).f0)).bind fun axf=>(if axf=true then((tK.f k ((dU z_ x4).f1)).bind fun axg=>(if axg=true then(if x4≤(z_.length:Int)then((ku.f k (z_.take (x4:Int).toNat) ((dU z_ x4).f0)).bind fun amT=>(if amT≥0 then(some false)else((sG.f k ((dU z_ x4).f1)).bind fun axh=>(dA.l0 k (wrap64 ((wrap64 ((wrap64 (x3+3))+(((dU z_ x4).f0).size:Int)))+(axh.size:Int))) (wrap64 (x4+1)) S9 S_ z_))))else(none))else(some false)))else(some false)))else(none))else(some (decide (x3≤150)))
end
def dA.f (k:Nat) (eH:ByteArray) (fA:ByteArray) (ay:List (fO)):Option (Bool):=(kV.f k eH).bind fun axi=>(if axi=true then((kV.f k fA).bind fun axj=>(if axj=true then(dA.j0 k (decide ((ay.length:Int)>4)) eH fA ay)else(dA.j0 k true eH fA ay)))else(dA.j0 k true eH fA ay))
theorem dA.calls {k dO:Nat} {eH fA:ByteArray} {fM:Option Addr} {ay:List (fO)} {r:Bool} {w:World} (jU:Kd.C oz w fM ay.length ay) (jV:ay.length≤dO) (h:dA.f k eH fA ay=some r):
  Calls Tryz.prog 182 #[.agg #[.string eH, .string fA, .slice fM ay.length dO]] w fun e w'=>e= .returned (.bool r)∧Below w.heap.size w w':=by
 have aag:=Tryz.underlying61;have FZ:=Tryz.underlying69;have jW:=ak jU;have oC:=ak jV;clear jU jV;have HB:=ak (Below.refl w.heap.size w);unfold dA.f at h;have H:=h;clear h;have HC2:=ak H;clear H;go_enter Tryz.func182,Tryz.ntmps182;go_upto_region 1 with(refine gG 1 ?_;refine bX HB 1 #[.string eH, .string fA, .slice fM ay.length dO] 61 ?_;intro Rj w3 iU aHT hb;replace HB:=bs HB hb;clear hb)
 (try simp only[Act.put,zN,zO,l_c]);go_cut [21] (fun v21 wc=>∃(kq:Nat) (ai_:Bool),v21= .bool ai_∧ah (dA.j0 kq ai_ eH fA ay=some r)∧ah (kq≤k)∧ah (wc.heap[Rj]? =some (.cells #[.string eH, .string fA,(.slice fM ay.length dO)] 61 (0,0)))∧ah (Below w.heap.size w wc))
 case first=>
  have H:=HC2.out;clear HC2;replace H:=bd H;obtain⟨axi,A4,H⟩:=H;replace H:=sb H;rcases H with⟨rfl,H⟩|⟨rfl,H⟩
  ·replace H:=bd H;obtain⟨axj,A6,H⟩:=H;replace H:=sb H;rcases H with⟨rfl,H⟩|⟨rfl,H⟩
   ·have H':=ak H;clear H;have z8:=iJ iU.out;go_wp2_with (first|(refine gB Tryz.func200 (kV.calls A4.out) ?_;intro w9 hb;replace iU:=kb iU hb;replace HB:=bz HB hb;clear hb;have z10:=iJ iU.out)|(go_at_call 200;refine mB (kV.calls A6.out) ?_;intro Wn hb;replace iU:=kb iU hb;replace HB:=bz HB hb;clear hb;have z12:=iJ iU.out))
    go_meet
    case rel=>exact⟨_,_,rs,H',⟨PW⟩,⟨ub iU.out⟩,⟨bb⟩⟩
   ·have H':=ak H;clear H;have z13:=iJ iU.out;go_wp2_with (first|(refine gB Tryz.func200 (kV.calls A4.out) ?_;intro VH hb;replace iU:=kb iU hb;replace HB:=bz HB hb;clear hb;have z15:=iJ iU.out)|(go_at_call 200;refine mB (kV.calls A6.out) ?_;intro w16 hb;replace iU:=kb iU hb;replace HB:=bz HB hb;clear hb))
    go_meet
    case rel=>exact⟨_,_,rs,H',⟨PW⟩,⟨ub iU.out⟩,⟨bb⟩⟩
  ·have H':=ak H;clear H;have z17:=iJ iU.out;go_wp2_with (refine gB Tryz.func200 (kV.calls A4.out) ?_;intro w18 hb;replace iU:=kb iU hb;replace HB:=bz HB hb;clear hb)
   go_meet
   case rel=>exact⟨_,_,rs,H',⟨PW⟩,⟨ub iU.out⟩,⟨bb⟩⟩
 case rest=>
  clear HC2;obtain⟨kq,ai_,rfl,HA,HJ1,iU,HB⟩:=hcut
  cases kq with
  |zero=>exact zz HA.out
  |succ RU=>
   obtain⟨H⟩:=HA;simp only[dA.j0]at H;replace H:=sb H;rcases H with⟨rfl,H⟩|⟨rfl,H⟩
   ·obtain rfl:=s1 H;go_wp2;go_ret;exact⟨er,bb⟩
   ·have H':=ak H;clear H;have z20:=iJ iU.out;go_wp2;go_loopg [3,4] RU (fun kq v3 v4 w'=>∃(lS:Int) (pY:Int),v3= .int .i64 lS∧v4= .int .i64 pY∧ah (dA.l0 kq lS pY eH fA ay=some r)∧ah (kq≤RU)∧ah (w'.heap[Rj]? =some (.cells #[.string eH, .string fA,(.slice fM ay.length dO)] 61 (0,0)))∧ah (Below w.heap.size w w'))
    case atStart=>exact⟨_,_,rs,rs,H',⟨Nat.le_refl _⟩,⟨ub iU.out⟩,⟨bb⟩⟩
    case round=>
     clear H';obtain⟨lS,pY,rfl,rfl,HA,HK2,iU,HB⟩:=hrel
     cases gk with
     |zero=>exact zz HA.out
     |succ k2=>
      obtain⟨H⟩:=HA;simp only[dA.l0]at H;replace H:=sd H;rcases H with⟨CV,H⟩|⟨CV,H⟩
      ·replace H:=oG H;obtain⟨EJ,H⟩:=H;replace H:=bd H;obtain⟨axf,A23,H⟩:=H;replace H:=sb H;rcases H with⟨rfl,H⟩|⟨rfl,H⟩
       ·replace H:=bd H;obtain⟨axg,A25,H⟩:=H;replace H:=sb H;rcases H with⟨rfl,H⟩|⟨rfl,H⟩
        ·have IU:=eq_true (of_decide_eq_true (by assumption):0≤pY);replace H:=Dc H;obtain⟨IV,aeI,H⟩:=H;obtain⟨amU,aaB⟩:=nm (ay.take (pY:Int).toNat);rw[←aaB.out]at H;replace H:=bd H;obtain⟨amT,A29,H⟩:=H;replace H:=sp H;rcases H with⟨c30,H⟩|⟨c30,H⟩
         ·have aeJ:decide (0≤amT)=true:=decide_eq_true c30;clear c30;obtain rfl:=s1 H;have z31:=iJ iU.out;have Ls:=zi pY;have Lu:=zj pY ay.length;obtain⟨Og,acD,Aa,Ac⟩:=qB jW.out pY Ls Lu;cases acD;replace Aa:=cl HB.out Aa;replace Ac:=cl HB.out Ac;replace Ls:=eq_true Ls;replace Lu:=eq_true Lu;try go_wp2_with (refine gG 5 ?_;refine bY HB 5 #[.string (⟨#[]⟩:ByteArray), .string (⟨#[]⟩:ByteArray)] 69 ?_;intro Gh w32 nY Uo hg hb;have uO:=vT iU hg;have Ba:=vU iU hg;replace iU:=kb iU hb;replace HB:=bz HB hb;clear hb hg;have avI:=Ba.out;have avJ:=uO.out;have z34:=CO nY.out)
          refine ab2 HB nY Uo ?_;intro w35 DX hk HB;replace iU:=kf iU hk uO;clear hk nY;have nY:=DX;clear DX;refine rO [2,7,17] [0,1,2,3,4,5,6,7,8,9,10,11,13,15,12,14,16,17,18,19] (fun w'=>w'.cell? ⟨Gh,0,none⟩=some (.string ((dU ay pY).f0))∧w'.cell? ⟨Gh,1,none⟩=some (.string ((dU ay pY).f1))∧w'.cell? ⟨Rj,0,none⟩=some (.string eH)∧w'.cell? ⟨Rj,1,none⟩=some (.string fA)∧w'.cell? ⟨Rj,2,none⟩=some (.slice (some Og) ay.length dO)) ?_;intro w36 hb;replace iU:=kb iU hb;replace nY:=kb nY hb;replace HB:=bs HB hb;refine⟨sx,?_⟩;repeat refine BN ?_
          refine rB Tryz.func200 (kV.calls A23.out) ?_;intro w37 hb;replace iU:=kb iU hb;replace nY:=kb nY hb;replace HB:=bz HB hb;clear hb;refine⟨sx,?_⟩;repeat refine BN ?_
          refine rA Tryz.func201 (tK.calls A25.out) ?_;intro nd;have q38:(pY:Int)≤((ay.length:Int):Int):=of_decide_eq_true (by assumption);obtain⟨aLC,ao0,_,axk,_⟩:=info_parts DF;have aeK:ay.length≤dO:=oC.out;have axl:Kd.C oz _ (some Og) ay.length ay:=jW.out;have asg:=Yy (P:=Tryz.prog) 25 69 .i64 Tryz.underlying25 ao0 (some Og) ay.length dO pY (of_decide_eq_true (by assumption)) q38 aeK;have ash:=Kd.Yz (m:=(pY:Int).toNat) axl (by omega);have hy38:amU.length=(pY:Int).toNat:=(by rw[aaB.out,List.length_take];omega)
          rw[←aaB.out]at ash;rw[←hy38]at asg;have aja:=ak ash;have ajb:=ak (show amU.length≤dO from by omega);clear ash axl aeK ao0 axk;have aLD:=ak hy38;clear hy38;replace q38:=eq_true q38;refine⟨sx,?_⟩;repeat refine BN ?_
          refine rB Tryz.func177 (ku.calls (cu (Kd.aN aja.out bb)) ajb.out A29.out) ?_;intro w39 hb;replace iU:=kb iU hb;replace nY:=kb nY hb;replace HB:=bz HB hb;clear hb;refine⟨sx,?_⟩;repeat refine BN ?_
          refine on ?_;try go_wp2
          go_ret;exact⟨er,bb⟩
         ·have aeJ:decide (0≤amT)=false:=decide_eq_false c30;clear c30;replace H:=bd H;obtain⟨axh,A40,H⟩:=H;have H':=ak H;clear H;have arp:=iJ iU.out;have Ls:=zi pY;have Lu:=zj pY ay.length;obtain⟨Og,acD,Aa,Ac⟩:=qB jW.out pY Ls Lu;cases acD;replace Aa:=cl HB.out Aa;replace Ac:=cl HB.out Ac;replace Ls:=eq_true Ls;replace Lu:=eq_true Lu;try go_wp2_with (refine gG 5 ?_;refine bY HB 5 #[.string (⟨#[]⟩:ByteArray), .string (⟨#[]⟩:ByteArray)] 69 ?_;intro Gh w42 nY Uo hg hb;have uO:=vT iU hg;have Ba:=vU iU hg;replace iU:=kb iU hb;replace HB:=bz HB hb;clear hb hg;have axn:=Ba.out;have axo:=uO.out;have axp:=CO nY.out)
          refine ab2 HB nY Uo ?_;intro w45 DX hk HB;replace iU:=kf iU hk uO;clear hk nY;have nY:=DX;clear DX;refine rO [2,7,17] [0,1,2,3,4,5,6,7,8,9,10,11,13,15,12,14,16,17,18,19] (fun w'=>w'.cell? ⟨Gh,0,none⟩=some (.string ((dU ay pY).f0))∧w'.cell? ⟨Gh,1,none⟩=some (.string ((dU ay pY).f1))∧w'.cell? ⟨Rj,0,none⟩=some (.string eH)∧w'.cell? ⟨Rj,1,none⟩=some (.string fA)∧w'.cell? ⟨Rj,2,none⟩=some (.slice (some Og) ay.length dO)) ?_;intro w46 hb;replace iU:=kb iU hb;replace nY:=kb nY hb;replace HB:=bs HB hb;refine⟨sx,?_⟩;repeat refine BN ?_
          refine rB Tryz.func200 (kV.calls A23.out) ?_;intro w47 hb;replace iU:=kb iU hb;replace nY:=kb nY hb;replace HB:=bz HB hb;clear hb;refine⟨sx,?_⟩;repeat refine BN ?_
          refine rA Tryz.func201 (tK.calls A25.out) ?_;intro nd;have q48:(pY:Int)≤((ay.length:Int):Int):=of_decide_eq_true (by assumption);obtain⟨aLE,ao1,_,axq,_⟩:=info_parts DF;have aeL:ay.length≤dO:=oC.out;have axr:Kd.C oz _ (some Og) ay.length ay:=jW.out;have asi:=Yy (P:=Tryz.prog) 25 69 .i64 Tryz.underlying25 ao1 (some Og) ay.length dO pY (of_decide_eq_true (by assumption)) q48 aeL;have asj:=Kd.Yz (m:=(pY:Int).toNat) axr (by omega);have asl:amU.length=(pY:Int).toNat:=(by rw[aaB.out,List.length_take];omega)
          rw[←aaB.out]at asj;rw[←asl]at asi;have aja:=ak asj;have ajb:=ak (show amU.length≤dO from by omega);clear asj axr aeL ao1 axq;have aLF:=ak asl;clear asl;replace q48:=eq_true q48;refine⟨sx,?_⟩;repeat refine BN ?_
          refine rB Tryz.func177 (ku.calls (cu (Kd.aN aja.out bb)) ajb.out A29.out) ?_;intro w49 hb;replace iU:=kb iU hb;replace nY:=kb nY hb;replace HB:=bz HB hb;clear hb;refine⟨sx,?_⟩;repeat refine BN ?_
          refine on ?_;try go_wp2
          refine rO [8] [0,1,2,6,3,4,5,7,8,9,10,11] (fun w'=>w'.cell? ⟨Gh,0,none⟩=some (.string ((dU ay pY).f0))∧w'.cell? ⟨Gh,1,none⟩=some (.string ((dU ay pY).f1))) ?_;intro w50 hb;replace iU:=kb iU hb;replace nY:=kb nY hb;replace HB:=bs HB hb;refine⟨sx,?_⟩;repeat refine BN ?_
          refine rB Tryz.func202 (sG.calls A40.out) ?_;intro w51 hb;replace iU:=kb iU hb;replace nY:=kb nY hb;replace HB:=bz HB hb;clear hb;refine⟨sx,?_⟩;repeat refine BN ?_
          refine on ?_;try go_wp2
          go_roundg k2
          case measure=>exact kl
          case rel=>exact⟨_,_,rs,rs,H',⟨kl⟩,⟨ub iU.out⟩,⟨bb⟩⟩
        ·obtain rfl:=s1 H;have z52:=iJ iU.out;have Ls:=zi pY;have Lu:=zj pY ay.length;obtain⟨Og,acD,Aa,Ac⟩:=qB jW.out pY Ls Lu;cases acD;replace Aa:=cl HB.out Aa;replace Ac:=cl HB.out Ac;replace Ls:=eq_true Ls;replace Lu:=eq_true Lu;try go_wp2_with (refine gG 5 ?_;refine bY HB 5 #[.string (⟨#[]⟩:ByteArray), .string (⟨#[]⟩:ByteArray)] 69 ?_;intro Gh w53 nY Uo hg hb;have uO:=vT iU hg;have Ba:=vU iU hg;replace iU:=kb iU hb;replace HB:=bz HB hb;clear hb hg;have aHU:=Ba.out;have aHV:=uO.out;have z55:=CO nY.out)
         refine ab2 HB nY Uo ?_;intro w56 DX hk HB;replace iU:=kf iU hk uO;clear hk nY;have nY:=DX;clear DX;refine rO [2,7] [0,1,2,3,4,5,6,7,8,9,10,11,12,13,14,15,16,17,18,19] (fun w'=>w'.cell? ⟨Gh,0,none⟩=some (.string ((dU ay pY).f0))∧w'.cell? ⟨Gh,1,none⟩=some (.string ((dU ay pY).f1))) ?_;intro w57 hb;replace iU:=kb iU hb;replace nY:=kb nY hb;replace HB:=bs HB hb;refine⟨sx,?_⟩;repeat(first|refine BN ?_|refine Yd ?_)
         refine rB Tryz.func200 (kV.calls A23.out) ?_;intro w58 hb;replace iU:=kb iU hb;replace nY:=kb nY hb;replace HB:=bz HB hb;clear hb;refine⟨sx,?_⟩;repeat(first|refine BN ?_|refine Yd ?_)
         refine rA Tryz.func201 (tK.calls A25.out) ?_;intro nd;refine⟨sx,?_⟩;repeat(first|refine BN ?_|refine Yd ?_)
         refine on ?_;try go_wp2
         go_ret;exact⟨er,bb⟩
       ·obtain rfl:=s1 H;have z59:=iJ iU.out;have Ls:=zi pY;have Lu:=zj pY ay.length;obtain⟨Og,acD,Aa,Ac⟩:=qB jW.out pY Ls Lu;cases acD;replace Aa:=cl HB.out Aa;replace Ac:=cl HB.out Ac;replace Ls:=eq_true Ls;replace Lu:=eq_true Lu;try go_wp2_with (refine gG 5 ?_;refine bY HB 5 #[.string (⟨#[]⟩:ByteArray), .string (⟨#[]⟩:ByteArray)] 69 ?_;intro Gh Wy nY Uo hg hb;have uO:=vT iU hg;have Ba:=vU iU hg;replace iU:=kb iU hb;replace HB:=bz HB hb;clear hb hg;have aHW:=Ba.out;have aHX:=uO.out;have z62:=CO nY.out)
        refine ab2 HB nY Uo ?_;intro w63 DX hk HB;replace iU:=kf iU hk uO;clear hk nY;have nY:=DX;clear DX;refine rO [2] [0,1,2,3,4,5,6,7,8,9,10,11,12,13,14,15,16,17,18,19] (fun w'=>w'.cell? ⟨Gh,0,none⟩=some (.string ((dU ay pY).f0))∧w'.cell? ⟨Gh,1,none⟩=some (.string ((dU ay pY).f1))) ?_;intro w64 hb;replace iU:=kb iU hb;replace nY:=kb nY hb;replace HB:=bs HB hb;refine⟨sx,?_⟩;repeat(first|refine BN ?_|refine Yd ?_)
        refine rB Tryz.func200 (kV.calls A23.out) ?_;intro w65 hb;replace iU:=kb iU hb;replace nY:=kb nY hb;replace HB:=bz HB hb;clear hb;refine⟨sx,?_⟩;repeat(first|refine BN ?_|refine Yd ?_)
        refine on ?_;try go_wp2
        go_ret;exact⟨er,bb⟩
      ·obtain rfl:=s1 H;have z66:=iJ iU.out;go_wp2;go_ret;exact⟨er,bb⟩
mutual
def bn.l0:Nat→ByteArray→Bool→Bool→ByteArray→ByteArray→List (fO)→Option (ByteArray×ByteArray×(List (fO))×Bool)
 |0,_,_,_,_,_,_=>none
 |k+1,x5,x6,x9,GV,GX,EO=>if x6=true then((jD.f k x5 59).bind fun Ur=>((bK.f k Ur.1).bind fun axt=>((jD.f k axt 61).bind fun aaC=>((bK.f k aaC.2.1).bind fun axu=>((fH.f k axu).bind fun aaD=>(if aaC.2.2=true then(if aaD.2=true then(bn.j1 k Ur.2.1 Ur.2.2 x9 aaC.1 aaD.1 ((aaD.1.length:Int) !=1) GV GX EO)else(bn.j1 k Ur.2.1 Ur.2.2 x9 aaC.1 aaD.1 true GV GX EO))else(bn.j1 k Ur.2.1 Ur.2.2 x9 aaC.1 aaD.1 true GV GX EO)))))))else(if x9=true then((dA.f k GV GX EO).bind fun axv=>(if axv=true then(some (GV,GX,EO,true))else(some ((⟨#[]⟩:ByteArray),(⟨#[]⟩:ByteArray),([]:List (fO)),false))))else(some ((⟨#[]⟩:ByteArray),(⟨#[]⟩:ByteArray),([]:List (fO)),false)))
def bn.j1:Nat→ByteArray→Bool→Bool→ByteArray→List ByteArray→Bool→ByteArray→ByteArray→List (fO)→Option (ByteArray×ByteArray×(List (fO))×Bool)
 |0,_,_,_,_,_,_,_,_,_=>none
 |k+1,x5,x6,x9,x12,x15,x69,GV,GX,EO=>if x69=true then(some ((⟨#[]⟩:ByteArray),(⟨#[]⟩:ByteArray),([]:List (fO)),false))else((bK.f k x12).bind fun asn=>((iP.f asn).bind fun agU=>(if 0<(x15.length:Int)then(if EO.length<4398046511104 then(bn.l0 k x5 x6 x9 GV GX (EO++[(⟨agU,qg ByteArray.empty x15 0⟩:fO)]))else(none))else(none))))
end
def bn.f (k:Nat) (a0:ByteArray):Option (ByteArray×ByteArray×(List (fO))×Bool):=(aQ.f k a0).bind fun axw=>(if axw=true then((jD.f k a0 59).bind fun ajc=>((bK.f k ajc.1).bind fun axx=>((jD.f k axx 47).bind fun ajd=>((iP.f ajd.1).bind fun YA=>((iP.f ajd.2.1).bind fun YB=>(bn.l0 k ajc.2.1 ajc.2.2 ajd.2.2 YA YB ([]:List (fO))))))))else(some ((⟨#[]⟩:ByteArray),(⟨#[]⟩:ByteArray),([]:List (fO)),false)))
def bn.T13:Bool×List (List Nat×List Nat):=(true,[([],[]),([0],[0]),([],[]),([2],[2]),([3,3],[3]),([],[]),([5],[5]),([6],[6]),([4,7],[4,7]),([8],[8]),([1,9,4],[1,9]),([0,1,2,3,4,5,6,7,8,9,10],[]),([11,10,10,0,1,2,3,4,5,6,7,8,9,10],[10,11])])
def bn.B13:List Nat:=[0,1,0,4,12,0,32,96,252,508,1023,2047,4095]
theorem bn.aje:wV .any (opsOf Tryz.f155 13)=bn.T13:=by kernel_rfl
theorem bn.acE:sN bn.T13.2 bn.B13=true:=by kernel_rfl
theorem bn.calls {k:Nat} {a0 r1 r2:ByteArray} {r3:List (fO)} {r4:Bool} {w:World} (h:bn.f k a0=some (r1,r2,r3,r4)):
  Calls Tryz.prog 155 #[.string a0] w fun e w'=>∃DI:Value,e= .returned (.tuple #[.agg #[.string r1, .string r2,DI], .bool r4])∧Kd.R oz 69 w' w.heap.size (fun _=>True) DI r3∧Below w.heap.size w w':=by
 have aag:=Tryz.underlying61;have FZ:=Tryz.underlying69;have HB:=ak (Below.refl w.heap.size w);unfold bn.f at h;have H:=h;clear h;replace H:=bd H;obtain⟨axw,A2,H⟩:=H;replace H:=sb H;rcases H with⟨rfl,H⟩|⟨rfl,H⟩
 ·replace H:=bd H;obtain⟨⟨aLG,aLH,aLI⟩,A4,H⟩:=H
  (try dsimp only at H);replace H:=bd H;obtain⟨axx,A5,H⟩:=H;replace H:=bd H;obtain⟨⟨aLJ,aLK,axy⟩,A6,H⟩:=H
  (try dsimp only at H);replace H:=bd H;obtain⟨YA,A7,H⟩:=H;replace H:=bd H;obtain⟨YB,A8,H⟩:=H;have H':=ak H;clear H;go_enter Tryz.func155,Tryz.ntmps155;go_wp2_with (first|(refine gG 2 ?_;refine bX HB 2 #[.string (⟨#[]⟩:ByteArray), .string (⟨#[]⟩:ByteArray), .slice none 0 0] 61 ?_;intro Oh w9 nJ axz hb;replace HB:=bs HB hb;clear hb)|(refine gD Tryz.func159 (aQ.calls A2.out) ?_;intro w9 hb;replace nJ:=kb nJ hb;replace HB:=bz HB hb;clear hb)|(refine gD Tryz.func178 (jD.calls A4.out) ?_;intro w9 hb;replace nJ:=kb nJ hb;replace HB:=bz HB hb;clear hb)|(refine gD Tryz.func179 (bK.calls A5.out) ?_;intro w9 hb;replace nJ:=kb nJ hb;replace HB:=bz HB hb;clear hb)|(refine gD Tryz.func178 (jD.calls A6.out) ?_;intro w9 hb;replace nJ:=kb nJ hb;replace HB:=bz HB hb;clear hb)|(refine gB Tryz.func180 (iP.calls A7.out) ?_;intro w10 hb;replace nJ:=kb nJ hb;replace HB:=bz HB hb;clear hb)|(refine gB Tryz.func180 (iP.calls A8.out) ?_;intro Wn hb;replace nJ:=kb nJ hb;replace HB:=bz HB hb;clear hb)|(refine gG 10 ?_;refine bY HB 10 #[.string (⟨#[]⟩:ByteArray), .string (⟨#[]⟩:ByteArray), .slice none 0 0] 61 ?_;intro Us w12 pU aHY hg hb;have Du:=vT nJ hg;have Dv:=vU nJ hg;replace nJ:=kb nJ hb;replace HB:=bz HB hb;clear hb hg;have ajf:=Dv.out;have ajg:=Du.out;have z14:=iJ pU.out))
  go_loopg [5,6] k (fun kq v5 v6 w'=>∃(eY:ByteArray) (eX:Bool) (JM:ByteArray) (JO:ByteArray) (zB:List (fO)) (Df:Value),v5= .string eY∧v6= .bool eX∧ah (bn.l0 kq eY eX axy YA YB zB=some (r1,r2,r3,r4))∧ah (kq≤k)∧ah (Kd.R oz 69 w' w.heap.size (fun _=>True) Df zB)∧ah (w'.heap[Oh]? =some (.cells #[.string JM, .string JO,(.slice none 0 0)] 61 (0,0)))∧ah (w'.heap[Us]? =some (.cells #[.string YA, .string YB,Df] 61 (0,0)))∧ah (Below w.heap.size w w'))
  case atStart=>exact⟨_,_,_,_,_,_,rs,rs,H',⟨Nat.le_refl _⟩,⟨nx⟩,⟨bq⟩,⟨bq⟩,⟨bb⟩⟩
  case round=>
   clear H';obtain⟨eY,eX,JM,JO,zB,Df,rfl,rfl,HA,yH,jK,nJ,pU,HB⟩:=hrel
   cases gk with
   |zero=>exact zz HA.out
   |succ k1=>
    obtain⟨H⟩:=HA;simp only[bn.l0]at H;replace H:=sb H;rcases H with⟨rfl,H⟩|⟨rfl,H⟩
    ·replace H:=bd H;obtain⟨⟨aLL,aED,aEE⟩,A16,H⟩:=H
     (try dsimp only at H);replace H:=bd H;obtain⟨axt,A17,H⟩:=H;replace H:=bd H;obtain⟨⟨axA,aLM,aLN⟩,A18,H⟩:=H
     (try dsimp only at H);replace H:=bd H;obtain⟨axu,A19,H⟩:=H;replace H:=bd H;obtain⟨⟨VP,aLO⟩,A20,H⟩:=H
     (try dsimp only at H);have aso:=ak H;clear H;go_upto_region 11 with(first|(refine gA Tryz.func178 (jD.calls A16.out) ?_;intro nd)|(refine gA Tryz.func179 (bK.calls A17.out) ?_;intro nd)|(refine gA Tryz.func178 (jD.calls A18.out) ?_;intro nd)|(refine gA Tryz.func179 (bK.calls A19.out) ?_;intro nd)|(refine gV Tryz.func181 (fH.calls A20.out) ?_;rintro aEF w22 ⟨ho0,hb⟩;have aeM:=ak (Kd.aG ho0 (aj bb));replace jK:=rb jK hb;replace nJ:=kb nJ hb;replace pU:=kb pU hb;replace HB:=bz HB hb;clear hb;(try clear ho0)))
     (try simp only[Act.put,zN,zO,l_c]);go_cut [69] (fun v69 wc=>∃(kq:Nat) (acF:Bool),v69= .bool acF∧ah (bn.j1 kq aED aEE axy axA VP acF YA YB zB=some (r1,r2,r3,r4))∧ah (kq≤k1)∧ah (Kd.R Kd.string 9 wc w.heap.size (fun _=>True) aEF VP)∧ah (Kd.R oz 69 wc w.heap.size (fun _=>True) Df zB)∧ah (wc.heap[Oh]? =some (.cells #[.string JM, .string JO,(.slice none 0 0)] 61 (0,0)))∧ah (wc.heap[Us]? =some (.cells #[.string YA, .string YB,Df] 61 (0,0)))∧ah (Below w.heap.size w wc))
     case first=>
      have H:=aso.out;clear aso;replace H:=sb H;rcases H with⟨rfl,H⟩|⟨rfl,H⟩
      ·replace H:=sb H;rcases H with⟨rfl,H⟩|⟨rfl,H⟩
       ·have H':=ak H;clear H;obtain⟨aiV,aiW,acn⟩:=Kd.aH aeM.out;subst acn;go_wp2;go_meet
        case rel=>exact⟨_,_,rs,H',⟨kl⟩,⟨ur aeM.out⟩,⟨ur jK.out⟩,⟨ub nJ.out⟩,⟨ub pU.out⟩,⟨bb⟩⟩
       ·have H':=ak H;clear H;go_wp2;go_meet
        case rel=>exact⟨_,_,rs,H',⟨kl⟩,⟨ur aeM.out⟩,⟨ur jK.out⟩,⟨ub nJ.out⟩,⟨ub pU.out⟩,⟨bb⟩⟩
      ·have H':=ak H;clear H;go_wp2;go_meet
       case rel=>exact⟨_,_,rs,H',⟨kl⟩,⟨ur aeM.out⟩,⟨ur jK.out⟩,⟨ub nJ.out⟩,⟨ub pU.out⟩,⟨bb⟩⟩
     case rest=>
      clear aso;obtain⟨kq,acF,rfl,HA,axB,KH,jK,nJ,pU,HB⟩:=hcut
      cases kq with
      |zero=>exact zz HA.out
      |succ aEG=>
       obtain⟨H⟩:=HA;simp only[bn.j1]at H;replace H:=sb H;rcases H with⟨rfl,H⟩|⟨rfl,H⟩
       ·obtain⟨rfl,rfl,rfl,rfl⟩:=s4 H;have adX:=Du.out;have adY:=Dv.out;have aia:=iJ nJ.out;go_wp2;refine bodyPost_ret (jf rfl _ _ Oh 61 #[.string (⟨#[]⟩:ByteArray), .string (⟨#[]⟩:ByteArray), .slice none 0 0] (0,0) _ rfl bq Tryz.underlying61 rfl (by kernel_rfl)) rfl ?_;exact⟨_,er,nx,bb⟩
       ·replace H:=bd H;obtain⟨asn,A29,H⟩:=H;replace H:=bd H;obtain⟨agU,A30,H⟩:=H;replace H:=nn H;obtain⟨c31,H⟩:=H;have ajh:=decide_eq_true c31;have aji:decide (0<VP.length)=true:=decide_eq_true (by omega);clear c31;replace H:=nl H;obtain⟨axC,H⟩:=H;obtain⟨aLP,ao2⟩:=nm (zB++[(⟨agU,qg ByteArray.empty VP 0⟩:fO)]);rw[←ao2.out]at H;have H':=ak H;clear H;try go_wp2
        replace KH:=ak (Kd.lQ KH.out);replace jK:=ak (Kd.lQ jK.out);replace nJ:=ak (gU nJ.out);replace pU:=ak (gU pU.out);replace HB:=ak (fZ HB.out);obtain⟨aip,aiq,abO⟩:=Kd.aH KH.out
        (first|subst abO|(injection abO with nD tu nG;have tC:=nD.symm;have tH:=nG.symm;clear nD tu nG;subst tC;subst tH));have asq:0≤(0:Int):=(by omega)
        have asr:0<(VP.length:Int):=of_decide_eq_true (by assumption);obtain⟨axD,aEH,Tc⟩:=Kd.jI (Kd.aK KH.out).2.2 0 asq asr;cases aEH;have aHZ:(0<VP.length)=True:=eq_true (by omega)
        (try rw[show((0:Int)).toNat=0 from rfl]at Tc)
        (try rw[Addr.add_zero']at Tc);replace asq:=eq_true asq;replace asr:=eq_true asr;refine AP (n:=13) (S:=fun w'=>w'.cell? ⟨Us,0,none⟩=some (.string YA)∧w'.cell? ⟨Us,1,none⟩=some (.string YB)∧w'.cell? ⟨Us,2,none⟩=some (Df)∧w'.cell? axD=some (.string (qg ByteArray.empty VP 0))) (ds:=[10,12]) #[false,false,false,false,false,false,false,false,false,false,false,false,false] (by kernel_rfl) rfl rfl ⟨(aA pU.out 0).trans rfl,(aA pU.out 1).trans rfl,(aA pU.out 2).trans rfl,Tc⟩ (fun hHeld=>?_);refine su bn.aje bn.acE (fun Dn HW_=>?_)
        generalize wc.drew=w33 at KH jK nJ pU HB Tc hHeld⊢
        refine pl 0 ?_;refine pl 2 ?_;refine pl 5 ?_;refine pl 6 ?_;refine tk 1 ?_;refine tk 7 ?_;refine o1 3 (fun K hK=>?_);refine xw Tryz.func179 (by kernel_rfl) rfl #[.string axA] (by rfl) rfl rfl ma ?_
        with_reducible refine(bK.calls A29.out).mono ?_
        rintro e w' ⟨rfl,⟨nd,rfl⟩⟩;refine⟨_,rfl,?_⟩;refine hK.out _ _ ⟨(aA pU.out 0).trans rfl,(aA pU.out 1).trans rfl,(aA pU.out 2).trans rfl,hHeld.2.2.2⟩ (fun hHeld=>?_);clear hK K;refine nrm ?_;refine o1 4 (fun K hK=>?_);refine xw Tryz.func180 (by kernel_rfl) rfl #[.string asn] (by rfl) rfl rfl ma ?_
        with_reducible refine(iP.calls A30.out).mono ?_
        rintro e w35 ⟨rfl,hb⟩;have asu:=(hb.cell (World.block_lt_of_cell? _ _ (hHeld.2.2.2))).trans (hHeld.2.2.2);refine⟨_,rfl,?_⟩;replace KH:=rb KH hb;replace jK:=rb jK hb;replace nJ:=kb nJ hb;replace pU:=kb pU hb;replace HB:=bz HB hb;try clear hb
        refine hK.out _ _ ⟨(aA pU.out 0).trans rfl,(aA pU.out 1).trans rfl,(aA pU.out 2).trans rfl,asu⟩ (fun hHeld=>?_);clear hK K;refine nrm ?_;refine pl 8 ?_;refine o1 9 (fun K hK=>?_);refine DN (w1:=?_) (v:=?_) (by rfl) rfl ?_ ?_
        rotate_left 2
        ·go_simp;constructor
         ·rfl
         ·rfl
        refine hK.out _ _ ⟨(aA (iD pU.out _) 0).trans rfl,(aA (iD pU.out _) 1).trans rfl,(aA (iD pU.out _) 2).trans rfl,(World.cell?_alloc_lt _ _ _ (World.block_lt_of_cell? _ _ (hHeld.2.2.2))).trans (hHeld.2.2.2)⟩ (fun hHeld=>?_);clear hK K;refine nrm ?_;refine H9 (i:=10) (N:=some 81) #[true,true,true,true,true,true,true,true,true,true,true,false,false] rfl rfl (AV Dn.out (by kernel_rfl)) (by decide) (fun K hK=>?_);refine Kd.nV oz (w0:=w) w.heap.size (by rfl) (.tmp 72) (.tmp 80) 25 69 (.agg #[(.string ⟨#[]⟩),(.string ⟨#[]⟩)]) 32 rfl Tryz.underlying25 DF rfl (by decide) (by omega) Df zB (⟨agU,qg ByteArray.empty VP 0⟩:fO) [.string agU, .string (qg ByteArray.empty VP 0)] (fun _=>True) (fun _=>False) rfl rfl ?aP (fun _ hk=>hk.elim) ?aF ?aO ?aB ?aS ?aL ?_
        (case aP=>exact yP _ _ _ (⟨agU,qg ByteArray.empty VP 0⟩:fO))
        (case aB=>exact bb)
        (case aF=>exact(fun _ _=>trivial))
        (case aO=>exact(ur jK.out))
        (case aS=>exact(aj bb))
        (case aL=>have:=axC.out;omega);intro aLQ w36 ho hb hg hat
        rw[←ao2.out]at ho;have yU:=ak (Kd.oU (ur KH.out) (Kd.jA (ur jK.out)) (by decide) hg);have yV:=ak (bP (g:=Oh) (o:= .cells #[.string JM, .string JO, .slice none 0 0] 61 (0,0)) (ub nJ.out) hg (Kd.qc jK.out nJ.out (by decide)));have zQ:=ak (bP (g:=Us) (o:= .cells #[.string YA, .string YB,Df] 61 (0,0)) (ub pU.out) hg (Kd.qc jK.out pU.out (by decide)));have Cb:=ak (hb);have FP:=ak (ho);clear KH nJ pU HB jK;have KH:=yU;have nJ:=yV;have pU:=zQ;have HB:=Cb;have axE:=FP;clear yU yV zQ Cb FP ho hb hg hat
        obtain⟨agJ,agK,Yc⟩:=Kd.aH axE.out
        (first|subst Yc|(injection Yc with nD tu nG;have tC:=nD.symm;have tH:=nG.symm;clear nD tu nG;subst tC;subst tH));refine hK.out _ _ ?_;clear hK K;refine CG (a':=?_) ?_ ?_
        rotate_left
        ·show Act.put _ (some 81) _=_
         simp only[Act.put,zN,zO,l_c,jk,kU];rfl
        refine pl 11 ?_;refine H9 (i:=12) (N:=none) #[true,true,true,true,true,true,true,true,true,true,true,true,true] rfl rfl (AV Dn.out (by kernel_rfl)) (by decide) (fun K hK=>?_);have aLR:w36.cell? ⟨Us,2,none⟩=some (Df):=(aA pU.out 2).trans rfl;have aH0:=fF pU.out 2;have aCV:=Du.out;have aCW:=Dv.out;refine FX (w1:=?_) (by rfl) rfl ?_ ?_
        rotate_left
        ·go_simp;rfl
        refine hK.out _ _ ?_;clear hK K;refine FY (xX Dn.out (by kernel_rfl)) ?_;try go_wp2
        go_roundg aEG
        case measure=>have:=yH.out;have:=axB.out;omega
        case rel=>exact⟨_,_,_,_,_,_,rs,rs,H',⟨by have:=yH.out;have:=axB.out;omega⟩,⟨rr⟩,⟨bq⟩,⟨bq⟩,⟨bb⟩⟩
    ·replace H:=sb H;rcases H with⟨rfl,H⟩|⟨rfl,H⟩
     ·replace H:=bd H;obtain⟨axv,A40,H⟩:=H;replace H:=sb H;rcases H with⟨rfl,H⟩|⟨rfl,H⟩
      ·obtain⟨rfl,rfl,rfl,rfl⟩:=s4 H;have axF:=Dv.out;have axG:=Du.out;have z43:=iJ pU.out;obtain⟨aiK,aiL,agL⟩:=Kd.aH jK.out;subst agL;go_wp2_with (go_at_call 182;refine mB (dA.calls (cu ((Kd.aK jK.out).2.2)) ((Kd.aK jK.out).2.1) A40.out) ?_;intro w45 hb;replace jK:=rb jK hb;replace nJ:=kb nJ hb;replace pU:=kb pU hb;replace HB:=bz HB hb;clear hb;have z46:=iJ pU.out;have z47:=iJ nJ.out)
       refine bodyPost_ret (jf rfl _ _ Oh 61 #[.string YA, .string YB, .slice aiK zB.length aiL] (0,0) _ rfl bq Tryz.underlying61 rfl (by kernel_rfl)) rfl ?_;exact⟨_,er,rr,bb⟩
      ·obtain⟨rfl,rfl,rfl,rfl⟩:=s4 H;have ao3:=Dv.out;have ao4:=Du.out;have z49:=iJ pU.out;obtain⟨GY,GZ,asv⟩:=Kd.aH jK.out;subst asv;go_wp2_with (go_at_call 182;refine mB (dA.calls (cu ((Kd.aK jK.out).2.2)) ((Kd.aK jK.out).2.1) A40.out) ?_;intro w51 hb;replace jK:=rb jK hb;replace nJ:=kb nJ hb;replace pU:=kb pU hb;replace HB:=bz HB hb;clear hb;have z52:=iJ nJ.out)
       refine bodyPost_ret (jf rfl _ _ Oh 61 #[.string (⟨#[]⟩:ByteArray), .string (⟨#[]⟩:ByteArray), .slice none 0 0] (0,0) _ rfl bq Tryz.underlying61 rfl (by kernel_rfl)) rfl ?_;exact⟨_,er,nx,bb⟩
     ·obtain⟨rfl,rfl,rfl,rfl⟩:=s4 H;have axH:=Du.out;have axI:=Dv.out;have z54:=iJ nJ.out;go_wp2;refine bodyPost_ret (jf rfl _ _ Oh 61 #[.string (⟨#[]⟩:ByteArray), .string (⟨#[]⟩:ByteArray), .slice none 0 0] (0,0) _ rfl bq Tryz.underlying61 rfl (by kernel_rfl)) rfl ?_;exact⟨_,er,nx,bb⟩
 ·obtain⟨rfl,rfl,rfl,rfl⟩:=s4 H;go_enter Tryz.func155,Tryz.ntmps155;go_wp2_with (first|(refine gG 2 ?_;refine bX HB 2 #[.string (⟨#[]⟩:ByteArray), .string (⟨#[]⟩:ByteArray), .slice none 0 0] 61 ?_;intro Oh w55 nJ axz hb;replace HB:=bs HB hb;clear hb)|(refine gD Tryz.func159 (aQ.calls A2.out) ?_;intro w55 hb;replace nJ:=kb nJ hb;replace HB:=bz HB hb;clear hb;have z56:=iJ nJ.out))
  refine bodyPost_ret (jf rfl _ _ Oh 61 #[.string (⟨#[]⟩:ByteArray), .string (⟨#[]⟩:ByteArray), .slice none 0 0] (0,0) _ rfl bq Tryz.underlying61 rfl (by kernel_rfl)) rfl ?_;exact⟨_,er,nx,bb⟩
mutual
def bW.l0:Nat→ByteArray→Int→Option (Bool)
 |0,_,_=>none
 |k+1,x0,x3=>if x3<(x0.size:Int)then(bW.j1 k x0 x3 (decide (x3≤20)))else(bW.j1 k x0 x3 false)
def bW.j1:Nat→ByteArray→Int→Bool→Option (Bool)
 |0,_,_,_=>none
 |k+1,x0,x3,x11=>if x11=true then(if 0≤x3 then(if x3<(x0.size:Int)then((gY.f (bt x0 x3)).bind fun axJ=>(if axJ=true then(bW.l0 k x0 (wrap64 (x3+1)))else(some false)))else(none))else(none))else(if(x0.size:Int)≥1 then(some (decide ((x0.size:Int)≤20)))else(some false))
end
def bW.f (k:Nat) (a0:ByteArray):Option (Bool):=bW.l0 k a0 0
theorem bW.calls {k:Nat} {a0:ByteArray} {r:Bool} {w:World} (h:bW.f k a0=some r):
  Calls Tryz.prog 157 #[.string a0] w fun e w'=>e= .returned (.bool r)∧dN w w':=by
 unfold bW.f at h;have H:=h;clear h;have H':=ak H;clear H;go_enter Tryz.func157,Tryz.ntmps157;go_wp2;go_loopg [3] k (fun kq v3 w'=>∃(dX:Int),v3= .int .i64 dX∧ah (bW.l0 kq a0 dX=some r)∧ah (kq≤k)∧dN w w')
 case atStart=>exact⟨_,rs,H',⟨Nat.le_refl _⟩,dn⟩
 case round=>
  clear H';obtain⟨dX,rfl,HA,yH,⟨m1,rfl⟩⟩:=hrel
  cases gk with
  |zero=>exact zz HA.out
  |succ k1=>
   obtain⟨H⟩:=HA;simp only[bW.l0]at H;have HC2:=ak H;clear H;go_upto_region 2 with(fail)
   go_cut [11] (fun v11 wc=>∃(kq:Nat) (xG:Bool),v11= .bool xG∧ah (bW.j1 kq a0 dX xG=some r)∧ah (kq≤k1)∧dN w wc)
   case first=>
    have H:=HC2.out;clear HC2;replace H:=sd H;rcases H with⟨iT,H⟩|⟨iT,H⟩
    ·(first|rw[iT]|(simp only[jk,kU];rw[iT])|skip);have H':=ak H;clear H;go_wp2;go_meet
     case rel=>exact⟨_,_,rs,H',⟨kl⟩,dn⟩
    ·(first|rw[iT]|(simp only[jk,kU];rw[iT])|skip);have H':=ak H;clear H;go_wp2;go_meet
     case rel=>exact⟨_,_,rs,H',⟨kl⟩,dn⟩
   case rest=>
    clear HC2;obtain⟨kq,xG,rfl,HA,HJ1,⟨mc1,rfl⟩⟩:=hcut
    cases kq with
    |zero=>exact zz HA.out
    |succ RU=>
     obtain⟨H⟩:=HA;simp only[bW.j1]at H;replace H:=sb H;rcases H with⟨rfl,H⟩|⟨rfl,H⟩
     ·replace H:=oG H;obtain⟨nT,H⟩:=H;replace H:=oG H;obtain⟨oV,H⟩:=H;replace H:=bd H;obtain⟨axJ,A8,H⟩:=H;replace H:=sb H;rcases H with⟨rfl,H⟩|⟨rfl,H⟩
      ·have H':=ak H;clear H;obtain⟨p7,q7,hx7⟩:=bx a0 dX;go_wp2_with (refine gA Tryz.func183 (gY.calls A8.out) ?_;intro nd)
       go_roundg RU
       case measure=>exact kl
       case rel=>exact⟨_,rs,H',⟨kl⟩,dn⟩
      ·obtain rfl:=s1 H;obtain⟨p7,q7,hx7⟩:=bx a0 dX;go_wp2_with (refine gA Tryz.func183 (gY.calls A8.out) ?_;intro nd)
       go_ret;exact⟨rs,dn⟩
     ·replace H:=sp H;rcases H with⟨c10,H⟩|⟨c10,H⟩
      ·have oD:decide (1≤(a0.size:Int))=true:=decide_eq_true c10;have uN:decide (1≤a0.size)=true:=decide_eq_true (by omega);clear c10;obtain rfl:=s1 H;go_wp2;go_ret;exact⟨rs,dn⟩
      ·have oD:decide (1≤(a0.size:Int))=false:=decide_eq_false c10;have uN:decide (1≤a0.size)=false:=decide_eq_false (by omega);clear c10;obtain rfl:=s1 H;go_wp2;go_ret;exact⟨rs,dn⟩
def oq.f (k:Nat) (eH:ByteArray) (fA:ByteArray) (ay:List (fO)):Option (ByteArray×Bool):=(kG.f k ay (⟨#[98,111,117,110,100,97,114,121]⟩:ByteArray)).bind fun ajj=>((dA.f k eH fA ay).bind fun axK=>(if axK=true then(if eH.toList=([109,117,108,116,105,112,97,114,116]:List UInt8)then(if ajj.2=true then((bW.f k ajj.1).bind fun axL=>(if axL=true then(some (ajj.1,true))else(some ((⟨#[]⟩:ByteArray),false))))else(some ((⟨#[]⟩:ByteArray),false)))else(some ((⟨#[]⟩:ByteArray),false)))else(some ((⟨#[]⟩:ByteArray),false))))
theorem oq.calls {k dO:Nat} {eH fA r1:ByteArray} {fM:Option Addr} {ay:List (fO)} {r2:Bool} {w:World} (jU:Kd.C oz w fM ay.length ay) (jV:ay.length≤dO) (h:oq.f k eH fA ay=some (r1,r2)):
  Calls Tryz.prog 156 #[.agg #[.string eH, .string fA, .slice fM ay.length dO]] w fun e w'=>e= .returned (.tuple #[.string r1, .bool r2])∧Below w.heap.size w w':=by
 have aag:=Tryz.underlying61;have jW:=ak jU;have oC:=ak jV;clear jU jV;have HB:=ak (Below.refl w.heap.size w);unfold oq.f at h;have H:=h;clear h;replace H:=bd H;obtain⟨⟨aLS,aLT⟩,A2,H⟩:=H
 (try dsimp only at H);replace H:=bd H;obtain⟨axK,A3,H⟩:=H;replace H:=sb H;rcases H with⟨rfl,H⟩|⟨rfl,H⟩
 ·replace H:=sq H;rcases H with⟨nT,NZ,H⟩|⟨c5,nT,NZ,H⟩
  ·replace H:=sb H;rcases H with⟨rfl,H⟩|⟨rfl,H⟩
   ·replace H:=bd H;obtain⟨axL,A7,H⟩:=H;replace H:=sb H;rcases H with⟨rfl,H⟩|⟨rfl,H⟩
    ·obtain⟨rfl,rfl⟩:=s2 H;go_enter Tryz.func156,Tryz.ntmps156;go_wp2_with (first|(refine bX HB 1 #[.string eH, .string fA, .slice fM ay.length dO] 61 ?_;intro aeN w9 pV aeO hb;replace HB:=bs HB hb;clear hb;have z10:=iJ pV.out)|(refine gB Tryz.func154 (kG.calls (cu (Kd.aN jW.out HB.out)) oC.out A2.out) ?_;intro Wn hb;replace pV:=kb pV hb;replace HB:=bz HB hb;clear hb;have z12:=iJ pV.out)|(refine gB Tryz.func182 (dA.calls (cu (Kd.aN jW.out HB.out)) oC.out A3.out) ?_;intro w13 hb;replace pV:=kb pV hb;replace HB:=bz HB hb;clear hb;have z14:=iJ pV.out)|(go_at_call 157;refine mA (bW.calls A7.out) ?_;intro nd))
     go_ret2;exact⟨er,bb⟩
    ·obtain⟨rfl,rfl⟩:=s2 H;go_enter Tryz.func156,Tryz.ntmps156;go_wp2_with (first|(refine bX HB 1 #[.string eH, .string fA, .slice fM ay.length dO] 61 ?_;intro aeN w15 pV aeO hb;replace HB:=bs HB hb;clear hb;have z16:=iJ pV.out)|(refine gB Tryz.func154 (kG.calls (cu (Kd.aN jW.out HB.out)) oC.out A2.out) ?_;intro w17 hb;replace pV:=kb pV hb;replace HB:=bz HB hb;clear hb;have z18:=iJ pV.out)|(refine gB Tryz.func182 (dA.calls (cu (Kd.aN jW.out HB.out)) oC.out A3.out) ?_;intro w19 hb;replace pV:=kb pV hb;replace HB:=bz HB hb;clear hb;have z20:=iJ pV.out)|(go_at_call 157;refine mA (bW.calls A7.out) ?_;intro nd))
     go_ret2;exact⟨er,bb⟩
   ·obtain⟨rfl,rfl⟩:=s2 H;go_enter Tryz.func156,Tryz.ntmps156;go_wp2_with (first|(refine bX HB 1 #[.string eH, .string fA, .slice fM ay.length dO] 61 ?_;intro aeN w21 pV aeO hb;replace HB:=bs HB hb;clear hb;have z22:=iJ pV.out)|(refine gB Tryz.func154 (kG.calls (cu (Kd.aN jW.out HB.out)) oC.out A2.out) ?_;intro w23 hb;replace pV:=kb pV hb;replace HB:=bz HB hb;clear hb;have z24:=iJ pV.out)|(refine gB Tryz.func182 (dA.calls (cu (Kd.aN jW.out HB.out)) oC.out A3.out) ?_;intro w25 hb;replace pV:=kb pV hb;replace HB:=bz HB hb;clear hb;have z26:=iJ pV.out))
    go_ret2;exact⟨er,bb⟩
  ·obtain⟨rfl,rfl⟩:=s2 H;go_enter Tryz.func156,Tryz.ntmps156;go_wp2_with (first|(refine bX HB 1 #[.string eH, .string fA, .slice fM ay.length dO] 61 ?_;intro aeN w27 pV aeO hb;replace HB:=bs HB hb;clear hb;have aia:=iJ pV.out)|(refine gB Tryz.func154 (kG.calls (cu (Kd.aN jW.out HB.out)) oC.out A2.out) ?_;intro w29 hb;replace pV:=kb pV hb;replace HB:=bz HB hb;clear hb;have z30:=iJ pV.out)|(refine gB Tryz.func182 (dA.calls (cu (Kd.aN jW.out HB.out)) oC.out A3.out) ?_;intro w31 hb;replace pV:=kb pV hb;replace HB:=bz HB hb;clear hb;have z32:=iJ pV.out))
   go_ret2;exact⟨er,bb⟩
 ·obtain⟨rfl,rfl⟩:=s2 H;go_enter Tryz.func156,Tryz.ntmps156;go_wp2_with (first|(refine bX HB 1 #[.string eH, .string fA, .slice fM ay.length dO] 61 ?_;intro aeN w33 pV aeO hb;replace HB:=bs HB hb;clear hb;have z34:=iJ pV.out)|(refine gB Tryz.func154 (kG.calls (cu (Kd.aN jW.out HB.out)) oC.out A2.out) ?_;intro w35 hb;replace pV:=kb pV hb;replace HB:=bz HB hb;clear hb;have z36:=iJ pV.out)|(refine gB Tryz.func182 (dA.calls (cu (Kd.aN jW.out HB.out)) oC.out A3.out) ?_;intro w37 hb;replace pV:=kb pV hb;replace HB:=bz HB hb;clear hb))
  go_ret2;exact⟨er,bb⟩
def kP.f (k:Nat) (l0:List (fO)):Option (ByteArray×Bool):=(kG.f k l0 (⟨#[67,111,110,116,101,110,116,45,84,121,112,101]⟩:ByteArray)).bind fun ao5=>((bn.f k ao5.1).bind fun aeP=>((oq.f k aeP.1 aeP.2.1 aeP.2.2.1).bind fun aeQ=>(if ao5.2=true then(if aeP.2.2.2=true then(some (aeQ.1,aeQ.2))else(some (aeQ.1,false)))else(some (aeQ.1,false)))))
theorem kP.calls {k c0:Nat} {A0:Option Addr} {l0:List (fO)} {r1:ByteArray} {r2:Bool} {w:World} (hr0:Kd.C oz w A0 l0.length l0) (hc0:l0.length≤c0) (h:kP.f k l0=some (r1,r2)):
  Calls Tryz.prog 108 #[.slice A0 l0.length c0] w fun e w'=>e= .returned (.tuple #[.string r1, .bool r2])∧Below w.heap.size w w':=by
 have aag:=Tryz.underlying61;have HR0:=ak hr0;have zx:=ak hc0;clear hr0 hc0;have HB:=ak (Below.refl w.heap.size w);unfold kP.f at h;have H:=h;clear h;replace H:=bd H;obtain⟨⟨aLU,aLV⟩,A2,H⟩:=H
 (try dsimp only at H);replace H:=bd H;obtain⟨⟨asw,asx,agV,aLW⟩,A3,H⟩:=H
 (try dsimp only at H);replace H:=bd H;obtain⟨⟨aLX,aLY⟩,A4,H⟩:=H
 (try dsimp only at H);replace H:=sb H;rcases H with⟨rfl,H⟩|⟨rfl,H⟩
 ·replace H:=sb H;rcases H with⟨rfl,H⟩|⟨rfl,H⟩
  ·obtain⟨rfl,rfl⟩:=s2 H;go_enter Tryz.func108,Tryz.ntmps108;go_wp2_with (first|(refine gB Tryz.func154 (kG.calls (cu HR0.out) zx.out A2.out) ?_;intro w7 hb;replace HB:=bs HB hb;clear hb)|(refine gV Tryz.func155 (bn.calls A3.out) ?_;rintro axM w8 ⟨ho0,hb⟩;have xJ:=ak (Kd.aG ho0 (aj (ul HB.out)));replace HB:=bs HB hb;clear hb;(try clear ho0))|(refine bX HB 6 #[.string (⟨#[]⟩:ByteArray), .string (⟨#[]⟩:ByteArray), .slice none 0 0] 61 ?_;intro ao6 w9 I9 ao7 hb;replace xJ:=rb xJ hb;replace HB:=bs HB hb;clear hb;have z10:=iJ I9.out;obtain⟨wC,uY,G5⟩:=Kd.aH xJ.out;subst G5)|(refine gB Tryz.func156 (oq.calls ?dZ ((Kd.aK xJ.out).2.1) A4.out) ?_;(case dZ=>refine(Kd.aK (e:=69) (base:=w.heap.size) (ok:=fun k_=>True) (n:=agV.length) (c:=uY) ?_).2.2;exact(rh xJ));intro w12 hb;replace xJ:=rg xJ hb;replace I9:=kp I9 #[.string asw, .string asx, .slice wC agV.length uY] hb;replace HB:=bz HB hb;clear hb))
   go_ret2;exact⟨er,bb⟩
  ·obtain⟨rfl,rfl⟩:=s2 H;go_enter Tryz.func108,Tryz.ntmps108;go_wp2_with (first|(refine gB Tryz.func154 (kG.calls (cu HR0.out) zx.out A2.out) ?_;intro w13 hb;replace HB:=bs HB hb;clear hb)|(refine gV Tryz.func155 (bn.calls A3.out) ?_;rintro axM VH ⟨ho0,hb⟩;have xJ:=ak (Kd.aG ho0 (aj (ul HB.out)));replace HB:=bs HB hb;clear hb;(try clear ho0))|(refine bX HB 6 #[.string (⟨#[]⟩:ByteArray), .string (⟨#[]⟩:ByteArray), .slice none 0 0] 61 ?_;intro ao6 w15 I9 ao7 hb;replace xJ:=rb xJ hb;replace HB:=bs HB hb;clear hb;have z16:=iJ I9.out;obtain⟨Ko,IJ,aad⟩:=Kd.aH xJ.out;subst aad)|(refine gB Tryz.func156 (oq.calls ?dZ ((Kd.aK xJ.out).2.1) A4.out) ?_;(case dZ=>refine(Kd.aK (e:=69) (base:=w.heap.size) (ok:=fun k_=>True) (n:=agV.length) (c:=IJ) ?_).2.2;exact(rh xJ));intro w18 hb;replace xJ:=rg xJ hb;replace I9:=kp I9 #[.string asw, .string asx, .slice Ko agV.length IJ] hb;replace HB:=bz HB hb;clear hb))
   go_ret2;exact⟨er,bb⟩
 ·obtain⟨rfl,rfl⟩:=s2 H;go_enter Tryz.func108,Tryz.ntmps108;go_wp2_with (first|(refine gB Tryz.func154 (kG.calls (cu HR0.out) zx.out A2.out) ?_;intro w19 hb;replace HB:=bs HB hb;clear hb)|(refine gV Tryz.func155 (bn.calls A3.out) ?_;rintro axM w20 ⟨ho0,hb⟩;have xJ:=ak (Kd.aG ho0 (aj (ul HB.out)));replace HB:=bs HB hb;clear hb;(try clear ho0))|(refine bX HB 6 #[.string (⟨#[]⟩:ByteArray), .string (⟨#[]⟩:ByteArray), .slice none 0 0] 61 ?_;intro ao6 w21 I9 ao7 hb;replace xJ:=rb xJ hb;replace HB:=bs HB hb;clear hb;have z22:=iJ I9.out;obtain⟨VQ,Ut,asy⟩:=Kd.aH xJ.out;subst asy)|(refine gB Tryz.func156 (oq.calls ?dZ ((Kd.aK xJ.out).2.1) A4.out) ?_;(case dZ=>refine(Kd.aK (e:=69) (base:=w.heap.size) (ok:=fun k_=>True) (n:=agV.length) (c:=Ut) ?_).2.2;exact(rh xJ));intro w24 hb;replace xJ:=rg xJ hb;replace I9:=kp I9 #[.string asw, .string asx, .slice VQ agV.length Ut] hb;replace HB:=bz HB hb;clear hb))
  go_ret2;exact⟨er,bb⟩
def pz.f (a0:ByteArray) (a1:ByteArray):Option (Bool):=if 2+a1.size≤9223372036854775807 then(if a0.toList=((⟨#[45,45]⟩:ByteArray)++a1).toList then(some true)else(if((⟨#[45,45]⟩:ByteArray)++a1).size+2≤9223372036854775807 then(some (a0.toList==(((⟨#[45,45]⟩:ByteArray)++a1)++(⟨#[45,45]⟩:ByteArray)).toList))else(none)))else(none)
theorem pz.calls {a0 a1:ByteArray} {r:Bool} {w:World} (h:pz.f a0 a1=some r):
  Calls Tryz.prog 115 #[.string a0, .string a1] w fun e w'=>e= .returned (.bool r)∧dN w w':=by
 unfold pz.f at h;have H:=h;clear h;replace H:=nn H;obtain⟨c3,H⟩:=H;have iT:=eq_true c3;have zW:=decide_eq_true c3;try have XJ:(9223372036854775807<2+a1.size)=False:=eq_false (Nat.not_lt.2 c3)
 replace H:=sq H;rcases H with⟨qW,RS,H⟩|⟨c4,qW,RS,H⟩
 ·obtain rfl:=s1 H;go_enter Tryz.func115,Tryz.ntmps115;go_wp2;go_ret;exact⟨rs,dn⟩
 ·replace H:=nn H;obtain⟨c5,H⟩:=H;have nT:=eq_true c5;have NZ:=decide_eq_true c5;try have aLZ:(9223372036854775807<2+a1.size+2)=False:=by have h_:=(eq_false (Nat.not_lt.2 c5):(9223372036854775807<((⟨#[45,45]⟩:ByteArray)++a1).size+2)=False);simp only[ByteArray.size_append]at h_;exact h_
  try have aL0:(9223372036854775807<((⟨#[45,45]⟩:ByteArray)++a1).size+2)=False:=eq_false (Nat.not_lt.2 c5)
  obtain rfl:=s1 H;go_enter Tryz.func115,Tryz.ntmps115;go_wp2;go_ret;exact⟨rs,dn⟩
mutual
def cO.j0:Nat→List (List ByteArray)→ByteArray→List ByteArray→Bool→Option (List ByteArray×Bool)
 |0,_,_,_,_=>none
 |k+1,x0,x1,x6,x17=>if x17=true then(some (x6,false))else(cO.l0 k x0 x1 x6 0)
def cO.l0:Nat→List (List ByteArray)→ByteArray→List ByteArray→Int→Option (List ByteArray×Bool)
 |0,_,_,_,_=>none
 |k+1,x0,x1,x6,x7=>if x7<(x0.length:Int)then(if 2+x1.size≤9223372036854775807 then(if x6.length<8796093022208 then(cO.l1 k x0 x1 (x6++[(⟨#[45,45]⟩:ByteArray)++x1]) x7 0)else(none))else(none))else(if 2+x1.size≤9223372036854775807 then(if((⟨#[45,45]⟩:ByteArray)++x1).size+2≤9223372036854775807 then(if x6.length<8796093022208 then(some ((x6++[((⟨#[45,45]⟩:ByteArray)++x1)++(⟨#[45,45]⟩:ByteArray)]),true))else(none))else(none))else(none))
def cO.l1:Nat→List (List ByteArray)→ByteArray→List ByteArray→Int→Int→Option (List ByteArray×Bool)
 |0,_,_,_,_,_=>none
 |k+1,x0,x1,x6,x7,x8=>if 0≤x7 then(if x7<(x0.length:Int)then(if x8<((Aw x0 x7).length:Int)then(if 0≤x8 then((pz.f (qg ByteArray.empty (Aw x0 x7) x8) x1).bind fun axN=>(if axN=true then(some ((([]:List ByteArray)),false))else(if x6.length<8796093022208 then(cO.l1 k x0 x1 (x6++[qg ByteArray.empty (Aw x0 x7) x8]) x7 (wrap64 (x8+1)))else(none))))else(none))else(cO.l0 k x0 x1 x6 (wrap64 (x7+1))))else(none))else(none)
end
def cO.f (k:Nat) (l0:List (List ByteArray)) (a1:ByteArray):Option (List ByteArray×Bool):=(some (([]:List ByteArray):List ByteArray)).bind fun ajk=>((bW.f k a1).bind fun axO=>(if axO=true then(cO.j0 k l0 a1 ajk ((l0.length:Int)==0))else(cO.j0 k l0 a1 ajk true)))
theorem cO.calls {k c0:Nat} {A0:Option Addr} {l0:List (List ByteArray)} {a1:ByteArray} {r1:List ByteArray} {r2:Bool} {w:World} (hr0:Kd.C (Kd.slice 9 Kd.string) w A0 l0.length l0) (hc0:l0.length≤c0) (h:cO.f k l0 a1=some (r1,r2)):
  Calls Tryz.prog 109 #[.slice A0 l0.length c0, .string a1] w fun e w'=>∃o7:Value,e= .returned (.tuple #[o7, .bool r2])∧Kd.R Kd.string 9 w' w.heap.size (fun _=>True) o7 r1∧Below w.heap.size w w':=by
 have HR0:=ak hr0;have zx:=ak hc0;clear hr0 hc0;have HB:=ak (Below.refl w.heap.size w);unfold cO.f at h;have H:=h;clear h;replace H:=ny H;obtain⟨ajk,axP,H⟩:=H;have Uc:=ak H;clear H;go_enter Tryz.func109,Tryz.ntmps109;go_upto_region 2 with(refine gG 9 ?_;refine II 9 Kd.string 9 axP ?_;intro aEI w4 ho5 hb;have ao8:=ak (Kd.aG ho5 (aj (ul HB.out)));replace HB:=bs HB hb;clear hb ho5)
 (try simp only[Act.put,zN,zO,l_c]);go_cut [17] (fun v17 wc=>∃(kq:Nat) (Uu:Bool),v17= .bool Uu∧ah (cO.j0 kq l0 a1 ajk Uu=some (r1,r2))∧ah (kq≤k)∧ah (Kd.R Kd.string 9 wc w.heap.size (fun _=>True) aEI ajk)∧ah (Below w.heap.size w wc))
 case first=>
  have H:=Uc.out;clear Uc;replace H:=bd H;obtain⟨axO,A6,H⟩:=H;replace H:=sb H;rcases H with⟨rfl,H⟩|⟨rfl,H⟩
  ·have H':=ak H;clear H;go_wp2_with (refine gA Tryz.func157 (bW.calls A6.out) ?_;intro nd)
   go_meet
   case rel=>exact⟨_,_,rs,H',⟨PW⟩,⟨ur ao8.out⟩,⟨ul HB.out⟩⟩
  ·have H':=ak H;clear H;go_wp2_with (refine gA Tryz.func157 (bW.calls A6.out) ?_;intro nd)
   go_meet
   case rel=>exact⟨_,_,rs,H',⟨PW⟩,⟨ur ao8.out⟩,⟨ul HB.out⟩⟩
 case rest=>
  clear Uc;obtain⟨kq,Uu,rfl,HA,HJ2,l7,HB⟩:=hcut
  cases kq with
  |zero=>exact zz HA.out
  |succ kj2=>
   obtain⟨H⟩:=HA;simp only[cO.j0]at H;replace H:=sb H;rcases H with⟨rfl,H⟩|⟨rfl,H⟩
   ·obtain⟨rfl,rfl⟩:=s2 H;go_wp2;go_ret2;exact⟨_,er,ur l7.out,ul HB.out⟩
   ·have H':=ak H;clear H;go_wp2;go_loopg [6,7] kj2 (fun kq v6 v7 w'=>∃(EC:List ByteArray) (BO:Int),v7= .int .i64 BO∧ah (cO.l0 kq l0 a1 EC BO=some (r1,r2))∧ah (kq≤kj2)∧ah (Kd.R Kd.string 9 w' w.heap.size (fun _=>True) v6 EC)∧ah (Below w.heap.size w w'))
    case atStart=>exact⟨_,_,rs,H',⟨Nat.le_refl _⟩,⟨ur l7.out⟩,⟨ul HB.out⟩⟩
    case round=>
     clear H';obtain⟨EC,BO,rfl,HA,HK2,l7,HB⟩:=hrel
     cases gk with
     |zero=>exact zz HA.out
     |succ k2=>
      obtain⟨H⟩:=HA;simp only[cO.l0]at H;replace H:=sd H;rcases H with⟨A_,H⟩|⟨A_,H⟩
      ·replace H:=nn H;obtain⟨c10,H⟩:=H;have oD:=eq_true c10;have uN:=decide_eq_true c10;try have aeD:(9223372036854775807<2+a1.size)=False:=eq_false (Nat.not_lt.2 c10)
       replace H:=nl H;obtain⟨Uw,H⟩:=H;obtain⟨aL1,ao9⟩:=nm (EC++[(⟨#[45,45]⟩:ByteArray)++a1]);rw[←ao9.out]at H;have H':=ak H;clear H;go_wp2_with ((with_reducible refine dR (b:= .append) (xs:=#[.tmp 25, .tmp 28]) rfl ?_);(try(refine l9 (by rfl) ?_;dsimp only));at_builtin;refine aP 25 28 Kd.string 23 9 (.string ⟨#[]⟩) 16 Tryz.underlying23 info9 HB (ur l7.out) ao9 (by have:=Uw.out;omega) ?_;intro aL2 w12 ho hb hg hat;have axQ:=ak (ho);replace HB:=ak (hb);clear ho hb hg hat l7)
       go_loopg [6,8] k2 (fun kq v6 v8 w'=>∃(Gi:List ByteArray) (Qj:Int),v8= .int .i64 Qj∧ah (cO.l1 kq l0 a1 Gi BO Qj=some (r1,r2))∧ah (kq≤k2)∧ah (Kd.R Kd.string 9 w' w.heap.size (fun _=>True) v6 Gi)∧ah (Below w.heap.size w w'))
       case atStart=>exact⟨_,_,rs,H',⟨Nat.le_refl _⟩,⟨ur axQ.out⟩,⟨ul HB.out⟩⟩
       case round=>
        clear H';try clear A_
        try clear c10
        try clear oD
        try clear uN
        try clear aeD
        obtain⟨Gi,Qj,rfl,HA,HK3,l7,HB⟩:=hrel
        cases gk with
        |zero=>exact zz HA.out
        |succ k3=>
         obtain⟨H⟩:=HA;simp only[cO.l1]at H;replace H:=oG H;obtain⟨wM,H⟩:=H;replace H:=oG H;obtain⟨vw,H⟩:=H;replace H:=sd H;rcases H with⟨yx,H⟩|⟨yx,H⟩
         ·replace H:=oG H;obtain⟨zA,H⟩:=H;replace H:=bd H;obtain⟨axN,A17,H⟩:=H;replace H:=sb H;rcases H with⟨rfl,H⟩|⟨rfl,H⟩
          ·obtain⟨aL3,ao_⟩:=nm ([]:List ByteArray);rw[←ao_.out]at H;obtain⟨rfl,rfl⟩:=s2 H;have Ux:=zi BO;have Uy:=zj BO l0.length;obtain⟨aaE,ajl,ajm,ajn,Ad,EP,ER⟩:=MI HR0.out BO Ux Uy;cases ajn;replace Ad:=cl HB.out Ad;have aeR:=ak ER;have aeS:=ak EP;clear ER EP;replace Ux:=eq_true Ux;replace Uy:=eq_true Uy;have acG:=zi BO;have acH:=zj BO l0.length;obtain⟨ajo,asz,asA,asB,G6,Oi,Oj⟩:=MI HR0.out BO acG acH;obtain rfl:aaE=ajo:=(by injection asB)
           replace G6:=cl HB.out G6;have YC:=ak Oj;have amV:=ak Oi;clear Oj Oi;replace acG:=eq_true acG;replace acH:=eq_true acH;have ea_:=Option.some.inj (Ad.symm.trans G6);injection ea_ with ea_ en_ ec_;subst ea_;subst ec_;clear en_;have acI:=zi Qj;have acJ:=zj Qj ((Aw l0 BO).length);obtain⟨axR,asC,Ol⟩:=Kd.jI YC.out Qj acI acJ;cases asC;replace Ol:=cl HB.out Ol;replace acI:=eq_true acI;replace acJ:=eq_true acJ;go_wp2_with (first|(refine gA Tryz.func115 (pz.calls A17.out) ?_;intro nd)|(refine gG 48 ?_;refine II 48 Kd.string 9 ao_ ?_;intro aL4 w19 agW hb;have axS:=ak (Kd.aG (Kd.fE agW (Kd.jP (ur l7.out))) (aj (ul HB.out)));replace l7:=ak (Kd.eu (ur l7.out) (Kd.b_ agW) hb);replace HB:=bs HB hb;clear hb agW))
           go_ret2;exact⟨_,er,ur (Kd.aX axS.out (fun _ hk=>trivial)),ul HB.out⟩
          ·replace H:=nl H;obtain⟨aai,H⟩:=H;obtain⟨aL5,apa⟩:=nm (Gi++[qg ByteArray.empty (Aw l0 BO) Qj]);rw[←apa.out]at H;have H':=ak H;clear H;have Ux:=zi BO;have Uy:=zj BO l0.length;obtain⟨aaE,ajl,ajm,ajn,Ad,EP,ER⟩:=MI HR0.out BO Ux Uy;cases ajn;replace Ad:=cl HB.out Ad;have aeR:=ak ER;have aeS:=ak EP;clear ER EP;replace Ux:=eq_true Ux;replace Uy:=eq_true Uy;have acG:=zi BO;have acH:=zj BO l0.length;obtain⟨ajo,asz,asA,asB,G6,Oi,Oj⟩:=MI HR0.out BO acG acH;obtain rfl:aaE=ajo:=(by injection asB)
           replace G6:=cl HB.out G6;have YC:=ak Oj;have amV:=ak Oi;clear Oj Oi;replace acG:=eq_true acG;replace acH:=eq_true acH;have ea_:=Option.some.inj (Ad.symm.trans G6);injection ea_ with ea_ en_ ec_;subst ea_;subst ec_;clear en_;have acI:=zi Qj;have acJ:=zj Qj ((Aw l0 BO).length);obtain⟨axR,asC,Ol⟩:=Kd.jI YC.out Qj acI acJ;cases asC;replace Ol:=cl HB.out Ol;replace acI:=eq_true acI;replace acJ:=eq_true acJ;go_wp2_with (first|(refine gA Tryz.func115 (pz.calls A17.out) ?_;intro nd;have asD:0≤(BO:Int):=of_decide_eq_true (by assumption);have asE:BO<(l0.length:Int):=of_decide_eq_true (by assumption);obtain⟨axT,aEJ,aEK,aEL,Td,aeT,aeU⟩:=MI HR0.out BO asD asE;obtain rfl:aaE=axT:=(by injection aEL);replace Td:=(HB.out.cell (World.block_lt_of_cell? w _ Td)).trans Td;have amW:=ak aeU;have aCX:=ak aeT;clear aeU aeT;replace asD:=eq_true asD;replace asE:=eq_true asE;have ea_:=Option.some.inj (Ad.symm.trans Td);injection ea_ with ea_ en_ ec_;subst ea_;subst ec_;clear en_;have asF:0≤(Qj:Int):=of_decide_eq_true (by assumption);have asG:Qj<((Aw l0 BO).length:Int):=of_decide_eq_true (by assumption);obtain⟨aH1,aEM,YD⟩:=Kd.jI amW.out Qj asF asG;cases aEM;replace YD:=(HB.out.cell (World.block_lt_of_cell? w _ YD)).trans YD;replace asF:=eq_true asF;replace asG:=eq_true asG)|((with_reducible refine dR (b:= .append) (xs:=#[.tmp 49, .tmp 57]) rfl ?_);(try(refine l9 (by rfl) ?_;dsimp only));at_builtin;refine aP 49 57 Kd.string 23 9 (.string ⟨#[]⟩) 16 Tryz.underlying23 info9 HB (ur l7.out) apa (by have:=aai.out;omega) ?_;intro aL6 w22 ho hb hg hat;have axU:=ak (ho);replace HB:=ak (hb);clear ho hb hg hat l7))
           go_roundg k3
           case measure=>exact kl
           case rel=>exact⟨_,_,rs,H',⟨kl⟩,⟨ur axU.out⟩,⟨ul HB.out⟩⟩
         ·have H':=ak H;clear H;have Ux:=zi BO;have Uy:=zj BO l0.length;obtain⟨aaE,ajl,ajm,ajn,Ad,EP,ER⟩:=MI HR0.out BO Ux Uy;cases ajn;replace Ad:=cl HB.out Ad;have aeR:=ak ER;have aeS:=ak EP;clear ER EP;replace Ux:=eq_true Ux;replace Uy:=eq_true Uy;go_wp2;go_roundg k3
          case measure=>exact kl
          case rel=>exact⟨_,_,rs,H',⟨kl⟩,⟨ur l7.out⟩,⟨ul HB.out⟩⟩
      ·replace H:=nn H;obtain⟨c23,H⟩:=H;have CJ:=eq_true c23;have Rk:=decide_eq_true c23;try have axV:(9223372036854775807<2+a1.size)=False:=eq_false (Nat.not_lt.2 c23)
       replace H:=nn H;obtain⟨c24,H⟩:=H;have Ul:=eq_true c24;have ajp:=decide_eq_true c24;try have aH2:(9223372036854775807<2+a1.size+2)=False:=by have h_:=(eq_false (Nat.not_lt.2 c24):(9223372036854775807<((⟨#[45,45]⟩:ByteArray)++a1).size+2)=False);simp only[ByteArray.size_append]at h_;exact h_
       try have aH3:(9223372036854775807<((⟨#[45,45]⟩:ByteArray)++a1).size+2)=False:=eq_false (Nat.not_lt.2 c24)
       replace H:=nl H;obtain⟨TT,H⟩:=H;obtain⟨aL7,apb⟩:=nm (EC++[((⟨#[45,45]⟩:ByteArray)++a1)++(⟨#[45,45]⟩:ByteArray)]);rw[←apb.out]at H;obtain⟨rfl,rfl⟩:=s2 H;go_wp2_with ((with_reducible refine dR (b:= .append) (xs:=#[.tmp 59, .tmp 63]) rfl ?_);(try(refine l9 (by rfl) ?_;dsimp only));at_builtin;refine aP 59 63 Kd.string 23 9 (.string ⟨#[]⟩) 16 Tryz.underlying23 info9 HB (ur l7.out) apb (by have:=TT.out;omega) ?_;intro aL8 w26 ho hb hg hat;have axW:=ak (ho);replace HB:=ak (hb);clear ho hb hg hat l7)
       go_ret2;exact⟨_,er,ur axW.out,ul HB.out⟩
mutual
def jG.l0:Nat→List ByteArray→ByteArray→List (List ByteArray)→Int→List (fO)→List ByteArray→List (jT)→Option (List ByteArray)
 |0,_,_,_,_,_,_,_=>none
 |k+1,x3,x5,x7,x8,amX,amY,Om=>if x8<(Om.length:Int)then(if 0≤x8 then((jG.f k ((au Om x8).f0) ((au Om x8).f1) ((au Om x8).f2)).bind fun acK=>(if x7.length<5864062014805 then(jG.l0 k x3 x5 (x7++[acK]) (wrap64 (x8+1)) amX amY Om)else(none)))else(none))else((cO.f k x7 x5).bind fun apc=>(if x3.length+apc.1.length<8796093022208 then(some (x3++apc.1))else(none)))
def jG.f:Nat→List (fO)→List ByteArray→List (jT)→Option (List ByteArray)
 |0,_,_,_=>none
 |k+1,bD,bf,ay=>(jg.f k bD).bind fun apd=>(if apd.1.length<8796093022208 then((some (apd.1++[(⟨#[]⟩:ByteArray)]:List ByteArray)).bind fun VR=>((kP.f k bD).bind fun ape=>(if ape.2=true then(jG.l0 k VR ape.1 (([]:List (List ByteArray))) 0 bD bf ay)else(if VR.length+bf.length<8796093022208 then(some (VR++bf))else(none)))))else(none))
end
theorem jG.calls (k:Nat):∀(ig:Option Addr) (iq:Nat) (bD:List (fO)) (gK:Option Addr) (gQ:Nat) (bf:List ByteArray) (fM:Option Addr) (dO:Nat) (ay:List (jT)) (r:List ByteArray) (w:World) (mZ:Kd.C oz w ig bD.length bD) (m_:bD.length≤iq) (ng:Kd.C Kd.string w gK bf.length bf) (ni:bf.length≤gQ) (jU:Kd.C k28 w fM ay.length ay) (jV:ay.length≤dO) (h:jG.f k bD bf ay=some r),
  Calls Tryz.prog 67 #[.agg #[.slice ig bD.length iq, .slice gK bf.length gQ, .slice fM ay.length dO]] w fun e w'=>∃o7:Value,e= .returned (o7)∧Kd.R Kd.string 9 w' w.heap.size (fun _=>True) o7 r∧Below w.heap.size w w':=by
 induction k using Nat.strongRecOn with
 |_ k ih=>
 intro ig iq bD gK gQ bf fM dO ay r w mZ m_ ng ni jU jV h
 cases k with
 |zero=>exact absurd h (by simp[jG.f])
 |succ k=>
 simp only[jG.f]at h;have Eu:=Tryz.underlying28;have qC:=ak mZ;have rD:=ak m_;clear mZ m_;have uw:=ak ng;have xk:=ak ni;clear ng ni;have jW:=ak jU;have oC:=ak jV;clear jU jV;have HB:=ak (Below.refl w.heap.size w);have H:=h;clear h;replace H:=bd H;obtain⟨⟨axX,aL9⟩,A2,H⟩:=H
 (try dsimp only at H);replace H:=nl H;obtain⟨agE,H⟩:=H;replace H:=ny H;obtain⟨VR,apf,H⟩:=H;replace H:=bd H;obtain⟨⟨aEN,aL_⟩,A4,H⟩:=H
 (try dsimp only at H);replace H:=sb H;rcases H with⟨rfl,H⟩|⟨rfl,H⟩
 ·obtain⟨aMa,ajq⟩:=nm ([]:List (List ByteArray));rw[←ajq.out]at H;have H':=ak H;clear H;go_enter Tryz.func67,Tryz.ntmps67;go_wp2_with (first|(refine bX HB 1 #[.slice ig bD.length iq, .slice gK bf.length gQ, .slice fM ay.length dO] 28 ?_;intro Uz w6 oZ axY hb;replace HB:=bs HB hb;clear hb;have z7:=iJ oZ.out)|(refine gV Tryz.func107 (jg.calls (cu (Kd.aN qC.out HB.out)) rD.out A2.out) ?_;rintro asH w8 ⟨ho0,hb⟩;have UA:=ak (Kd.aG ho0 (aj bb));replace oZ:=kb oZ hb;replace HB:=bz HB hb;clear hb;(try clear ho0))|((with_reducible refine dR (b:= .append) (xs:=#[.tmp 17, .tmp 18]) rfl ?_);at_builtin;refine Kd.qE Kd.string (w0:=w) w.heap.size rfl (.tmp 17) (.tmp 18) 23 9 (.string ⟨#[]⟩) 16 rfl Tryz.underlying23 info9 rfl (by decide) (by omega) asH axX (⟨#[]⟩:ByteArray) [.string (⟨#[]⟩:ByteArray)] (fun _=>True) (fun _=>False) rfl rfl ?aP (fun _ hk=>hk.elim) ?aF ?aO ?aB ?aS ?aL ?_;(case aP=>exact rfl);(case aB=>exact bb);(case aF=>exact(fun _ _=>trivial));(case aO=>exact(ur UA.out));(case aS=>exact(aj bb));(case aL=>have:=agE.out;omega);intro aaF w9 ho hb hg hat;rw[←apf.out]at ho;have Ic:=ak (ho);replace oZ:=ak (bP (g:=Uz) (o:= .cells #[.slice ig bD.length iq, .slice gK bf.length gQ, .slice fM ay.length dO] 28 (0,0)) (ub oZ.out) hg (Kd.qc UA.out oZ.out (by decide)));replace HB:=ak (hb);clear ho hb hg hat UA;have z10:=iJ oZ.out)|(refine gB Tryz.func108 (kP.calls (cu (Kd.aN qC.out HB.out)) rD.out A4.out) ?_;intro Wn hb;replace Ic:=rb Ic hb;replace oZ:=kb oZ hb;replace HB:=bz HB hb;clear hb)|((with_reducible refine aak (N:=32) rfl ?_);refine Kd.aou (Kd.slice 9 Kd.string) _ 23 ?hg (N:=32) ?hd (xs:=([]:List (List ByteArray))) (inner:=[]) (ok:=fun _=>True) (yC:=fun _=>True) ?hr ?hp (fun _ hk=>hk) trivial (Below.refl _ _) (Nat.le_refl _) (by simp) ?_;(case hd=>rfl);(case hg=>rfl);(case hr=>first|(go_simp;done)|(go_simp;rfl));(case hp=>exact(bU.none _ _));intro aMb w12 Yv hb EK yL;clear EK yL;(first|rw[←ajq.out]at Yv|(simp only[Int.reduceToNat]at Yv;rw[←ajq.out]at Yv));have axZ:=ak (Kd.aee (Kd.aiI Yv (Kd.jP (ur Ic.out))) (aj bb));replace Ic:=rb Ic hb;replace oZ:=kb oZ hb;replace HB:=bz HB hb;clear hb Yv))
  go_loopg [7,8] k (fun kq v7 v8 w'=>∃(rF:List (List ByteArray)) (lC:Int),v8= .int .i64 lC∧ah (jG.l0 kq VR aEN rF lC bD bf ay=some r)∧ah (kq≤k)∧ah (Kd.R Kd.string 9 w' w.heap.size (fun _=>True) aaF VR)∧ah (Kd.S (Kd.slice 9 Kd.string) 23 w' w.heap.size (fun k_=>some k_≠(aaF:Value).ownBlock) v7 rF)∧ah (w'.heap[Uz]? =some (.cells #[(.slice ig bD.length iq),(.slice gK bf.length gQ),(.slice fM ay.length dO)] 28 (0,0)))∧ah (Below w.heap.size w w'))
  case atStart=>exact⟨_,_,rs,H',⟨Nat.le_refl _⟩,⟨ur Ic.out⟩,⟨by(with_reducible repeat(first|apply Kd.uH|apply Kd.uI|apply Kd.yD));exact Kd.GL axZ.out (fun _ hk=>hk.2)⟩,⟨ub oZ.out⟩,⟨bb⟩⟩
  case round=>
   clear H';obtain⟨rF,lC,rfl,HA,yH,qp,LC,oZ,HB⟩:=hrel
   cases gk with
   |zero=>exact zz HA.out
   |succ k1=>
    obtain⟨H⟩:=HA;simp only[jG.l0]at H;replace H:=sd H;rcases H with⟨vw,H⟩|⟨vw,H⟩
    ·replace H:=oG H;obtain⟨yx,H⟩:=H;replace H:=bd H;obtain⟨acK,A16,H⟩:=H;replace H:=nl H;obtain⟨ajr,H⟩:=H;obtain⟨aMc,apg⟩:=nm (rF++[acK]);rw[←apg.out]at H;have H':=ak H;clear H;have z18:=iJ oZ.out;have asI:=zi lC;have asJ:=zj lC ay.length;obtain⟨ax0,aEO,aEP,aEQ,aER,aES,aET,aEU,aeV,aeW,aeX,aeY,aeZ,ae0,ae1,ae2,ae3⟩:=yT jW.out lC asI asJ;cases aEU;replace aeV:=cl HB.out aeV;replace aeW:=cl HB.out aeW;replace aeX:=cl HB.out aeX;have amZ:=ak aeZ;have am0:=ak aeY;clear aeZ aeY;have am1:=ak ae1;have am2:=ak ae0;clear ae1 ae0;have am3:=ak ae3;have am4:=ak ae2;clear ae3 ae2;replace asI:=eq_true asI;replace asJ:=eq_true asJ;go_wp2_with (first|(refine gV Tryz.func67 (ih k1 (by have:=yH.out;omega) _ _ ((au ay lC).f0) _ _ ((au ay lC).f1) _ _ ((au ay lC).f2) acK _ (cu (Kd.aN amZ.out HB.out)) am0.out (cu (Kd.aN am1.out HB.out)) am2.out (cu (Kd.aN am3.out HB.out)) am4.out A16.out) ?_;rintro aMd w19 ⟨ho0,hb⟩;have ae4:=ak (Kd.aG (Kd.fE ho0 (Kd.jP (ur qp.out))) (aj bb));replace qp:=ak (Kd.eu (ur qp.out) (Kd.b_ ho0) hb);replace LC:=ak (Kd.IW (by(with_reducible repeat(first|apply Kd.uH|apply Kd.uI|apply Kd.yD));exact LC.out) (Kd.b_ ho0) hb);replace oZ:=kb oZ hb;replace HB:=bz HB hb;clear hb;(try clear ho0);obtain⟨MK,ML,XE⟩:=Kd.aH ae4.out;subst XE)|((with_reducible refine dR (b:= .append) (xs:=#[.tmp 40, .tmp 47]) rfl ?_);at_builtin;refine Kd.aan (Kd.slice 9 Kd.string) (w0:=w) w.heap.size rfl (.tmp 40) (.tmp 47) 65 23 (.slice none 0 0) 24 rfl Tryz.underlying65 info23 rfl (by decide) (by omega) u7 rF acK [.slice MK acK.length ML] (fun k_=>some k_≠(aaF:Value).ownBlock) (fun k_=>some k_=(.slice MK acK.length ML:Value).ownBlock) rfl rfl ?aP (fun k_ hk_=>((Kd.aX (ok':=fun k_=>((fun k_=>some k_≠(aaF:Value).ownBlock)) k_∧some k_≠(u7:Value).ownBlock) (Kd.nU (ae4.out) (Kd.JJ LC.out) (by decide)) (fun k_ hk=>⟨hk.1.2,hk.2⟩))).1 k_ hk_.symm) ?aF ?aO ?aB ?aS ?aL ?_;(case aP=>exact Kd.aow (Kd.aX (Kd.aei rfl (Kd.aX (ok':=fun k_=>((fun k_=>some k_≠(aaF:Value).ownBlock)) k_∧some k_≠(u7:Value).ownBlock) (Kd.nU (ae4.out) (Kd.JJ LC.out) (by decide)) (fun k_ hk=>⟨hk.1.2,hk.2⟩))) (fun _ h_=>h_)));(case aB=>exact bb);(case aF=>exact(fun k_ hk=>Kd.fresh' (Kd.jP (ur qp.out)) k_ hk));(case aO=>exact(by(with_reducible repeat(first|apply Kd.uH|apply Kd.uI|apply Kd.yD));exact Kd.GL LC.out (fun k_ hk=>⟨hk.1,fun e_=>hk.2 e_⟩)));(case aS=>exact(aj bb));(case aL=>have:=ajr.out;omega);intro aMe w20 ho hb hg hat;rw[←apg.out]at ho;have ax1:=ak (ho);replace qp:=ak (Kd.oU (ur qp.out) (Kd.JJ (by(with_reducible repeat(first|apply Kd.uH|apply Kd.uI|apply Kd.yD));exact LC.out)) (by decide) hg);replace oZ:=ak (bP (g:=Uz) (o:= .cells #[.slice ig bD.length iq, .slice gK bf.length gQ, .slice (some ax0) ay.length dO] 28 (0,0)) (ub oZ.out) hg (Kd.arF LC.out oZ.out (by decide)));replace HB:=ak (hb);clear ho hb hg hat LC ae4))
     go_roundg k1
     case measure=>exact kl
     case rel=>exact⟨_,_,rs,H',⟨kl⟩,⟨ur (Kd.aX qp.out (fun _ hk=>trivial))⟩,⟨by(with_reducible repeat(first|apply Kd.uH|apply Kd.uI|apply Kd.yD));exact ax1.out⟩,⟨ub oZ.out⟩,⟨bb⟩⟩
    ·replace H:=bd H;obtain⟨⟨am5,aMf⟩,A22,H⟩:=H
     (try dsimp only at H);replace H:=nl H;obtain⟨ai5,H⟩:=H;obtain⟨aMg,aph⟩:=nm (VR++am5);rw[←aph.out]at H;obtain rfl:=s1 H;have z24:=iJ oZ.out;obtain⟨aiV,aiW,acn⟩:=Kd.aej LC.out;subst acn;go_wp2_with (first|(refine gV Tryz.func109 (cO.calls (cu ((Kd.NV LC.out).2.2)) ((Kd.NV LC.out).2.1) A22.out) ?_;rintro aMh w26 ⟨ho0,hb⟩;have aaG:=ak (Kd.aG (Kd.fE ho0 (Kd.jP (ur qp.out))) (aj bb));replace qp:=ak (Kd.eu (ur qp.out) (Kd.b_ ho0) hb);replace LC:=ak (Kd.IW (by(with_reducible repeat(first|apply Kd.uH|apply Kd.uI|apply Kd.yD));exact LC.out) (Kd.b_ ho0) hb);replace oZ:=kb oZ hb;replace HB:=bz HB hb;clear hb;(try clear ho0);obtain⟨ax2,ax3,aEV⟩:=Kd.aH aaG.out;subst aEV)|((with_reducible refine dR (b:= .append) (xs:=#[.tmp 55, .tmp 56]) rfl ?_);at_builtin;refine Kd.o9 Kd.string (w0:=w) w.heap.size rfl (.tmp 55) (.tmp 56) 23 9 (.string ⟨#[]⟩) 16 rfl Tryz.underlying23 info9 rfl (by decide) (by omega) aaF VR am5 _ _ _ (fun k_=>some k_≠(.slice ax2 am5.length ax3:Value).ownBlock) (fun _=>False) rfl rfl ?aO ?aR (fun _ _ h=>h) (fun _ h=>h.elim) ?aF ?aB ?aS ?aL ?_;(case aR=>repeat(first|exact(Kd.aK aaG.out).2.2|(with_reducible refine Kd.lY ?_ _)|(with_reducible refine Kd.lZ ?_ _)|(with_reducible refine Kd.pX ?_)));(case aB=>exact bb);(case aF=>exact(fun k_ hk=>Kd.fresh' (Kd.jP (ur aaG.out)) k_ hk));(case aO=>exact(ur (Kd.aX qp.out (fun _ hk=>hk.2))));(case aS=>exact(aj bb));(case aL=>have:=ai5.out;omega);intro aMi w27 ho hb hg hat;rw[←aph.out]at ho;have ax4:=ak (ho);replace LC:=ak (Kd.aek (ok:=(fun k_=>some k_≠(.slice ax2 am5.length ax3:Value).ownBlock)) (by(with_reducible repeat(first|apply Kd.uH|apply Kd.uI|apply Kd.yD));exact Kd.GL LC.out (fun _ hk=>⟨hk.2,hk.1⟩)) hg hat);replace oZ:=ak (bP (g:=Uz) (o:= .cells #[.slice ig bD.length iq, .slice gK bf.length gQ, .slice fM ay.length dO] 28 (0,0)) (ub oZ.out) hg (Kd.qc qp.out oZ.out (by decide)));replace aaG:=ak (Kd.BG (ok:=(fun _=>True)) (ur aaG.out) hg hat);replace HB:=ak (hb);clear ho hb hg hat qp))
     go_ret;exact⟨_,er,ur (Kd.aX ax4.out (fun _ hk=>trivial)),bb⟩
 ·replace H:=nl H;obtain⟨ax5,H⟩:=H;obtain⟨aMj,apj⟩:=nm (VR++bf);rw[←apj.out]at H;obtain rfl:=s1 H;go_enter Tryz.func67,Tryz.ntmps67;go_wp2_with (first|(refine bX HB 1 #[.slice ig bD.length iq, .slice gK bf.length gQ, .slice fM ay.length dO] 28 ?_;intro Uz w30 oZ axY hb;replace HB:=bs HB hb;clear hb;have z31:=iJ oZ.out)|(refine gV Tryz.func107 (jg.calls (cu (Kd.aN qC.out HB.out)) rD.out A2.out) ?_;rintro asH w32 ⟨ho0,hb⟩;have UA:=ak (Kd.aG ho0 (aj bb));replace oZ:=kb oZ hb;replace HB:=bz HB hb;clear hb;(try clear ho0))|((with_reducible refine dR (b:= .append) (xs:=#[.tmp 17, .tmp 18]) rfl ?_);at_builtin;refine Kd.qE Kd.string (w0:=w) w.heap.size rfl (.tmp 17) (.tmp 18) 23 9 (.string ⟨#[]⟩) 16 rfl Tryz.underlying23 info9 rfl (by decide) (by omega) asH axX (⟨#[]⟩:ByteArray) [.string (⟨#[]⟩:ByteArray)] (fun _=>True) (fun _=>False) rfl rfl ?aP (fun _ hk=>hk.elim) ?aF ?aO ?aB ?aS ?aL ?_;(case aP=>exact rfl);(case aB=>exact bb);(case aF=>exact(fun _ _=>trivial));(case aO=>exact(ur UA.out));(case aS=>exact(aj bb));(case aL=>have:=agE.out;omega);intro aaF w33 ho hb hg hat;rw[←apf.out]at ho;have Ic:=ak (ho);replace oZ:=ak (bP (g:=Uz) (o:= .cells #[.slice ig bD.length iq, .slice gK bf.length gQ, .slice fM ay.length dO] 28 (0,0)) (ub oZ.out) hg (Kd.qc UA.out oZ.out (by decide)));replace HB:=ak (hb);clear ho hb hg hat UA;have z34:=iJ oZ.out)|(refine gB Tryz.func108 (kP.calls (cu (Kd.aN qC.out HB.out)) rD.out A4.out) ?_;intro w35 hb;replace Ic:=rb Ic hb;replace oZ:=kb oZ hb;replace HB:=bz HB hb;clear hb;have z36:=iJ oZ.out)|((with_reducible refine dR (b:= .append) (xs:=#[.tmp 28, .tmp 30]) rfl ?_);at_builtin;refine Kd.o9 Kd.string (w0:=w) w.heap.size rfl (.tmp 28) (.tmp 30) 23 9 (.string ⟨#[]⟩) 16 rfl Tryz.underlying23 info9 rfl (by decide) (by omega) aaF VR bf _ _ _ (fun _=>True) (fun _=>False) rfl rfl ?aO ?aR (fun _ _ h=>h) (fun _ h=>h.elim) ?aF ?aB ?aS ?aL ?_;(case aR=>repeat(first|exact(Kd.aN uw.out HB.out)|(with_reducible refine Kd.lY ?_ _)|(with_reducible refine Kd.lZ ?_ _)|(with_reducible refine Kd.pX ?_)));(case aB=>exact bb);(case aF=>exact(fun _ _=>trivial));(case aO=>exact(ur Ic.out));(case aS=>exact(aj bb));(case aL=>have:=ax5.out;omega);intro aMk w37 ho hb hg hat;rw[←apj.out]at ho;have ax6:=ak (ho);replace oZ:=ak (bP (g:=Uz) (o:= .cells #[.slice ig bD.length iq, .slice gK bf.length gQ, .slice fM ay.length dO] 28 (0,0)) (ub oZ.out) hg (Kd.qc Ic.out oZ.out (by decide)));replace HB:=ak (hb);clear ho hb hg hat Ic))
  go_ret;exact⟨_,er,ur ax6.out,bb⟩
mutual
def iV.l0:Nat→List ByteArray→Int→Option (Bool)
 |0,_,_=>none
 |k+1,x0,x3=>if x3<(x0.length:Int)then(iV.j1 k x0 x3 (decide (x3≤30)))else(iV.j1 k x0 x3 false)
def iV.j1:Nat→List ByteArray→Int→Bool→Option (Bool)
 |0,_,_,_=>none
 |k+1,x0,x3,x11=>if x11=true then(if 0≤x3 then(if x3<(x0.length:Int)then((aQ.f k (qg ByteArray.empty x0 x3)).bind fun ax7=>(if ax7=true then(iV.l0 k x0 (wrap64 (x3+1)))else(some false)))else(none))else(none))else(some (decide ((x0.length:Int)≤30)))
end
def iV.f (k:Nat) (l0:List ByteArray):Option (Bool):=iV.l0 k l0 0
theorem iV.calls {k c0:Nat} {A0:Option Addr} {l0:List ByteArray} {r:Bool} {w:World} (hr0:Kd.C Kd.string w A0 l0.length l0) (hc0:l0.length≤c0) (h:iV.f k l0=some r):
  Calls Tryz.prog 114 #[.slice A0 l0.length c0] w fun e w'=>e= .returned (.bool r)∧dN w w':=by
 have HR0:=ak hr0;have zx:=ak hc0;clear hr0 hc0;unfold iV.f at h;have H:=h;clear h;have H':=ak H;clear H;go_enter Tryz.func114,Tryz.ntmps114;go_wp2;go_loopg [3] k (fun kq v3 w'=>∃(dX:Int),v3= .int .i64 dX∧ah (iV.l0 kq l0 dX=some r)∧ah (kq≤k)∧dN w w')
 case atStart=>exact⟨_,rs,H',⟨Nat.le_refl _⟩,dn⟩
 case round=>
  clear H';obtain⟨dX,rfl,HA,yH,⟨m1,rfl⟩⟩:=hrel
  cases gk with
  |zero=>exact zz HA.out
  |succ k1=>
   obtain⟨H⟩:=HA;simp only[iV.l0]at H;have HC2:=ak H;clear H;go_upto_region 2 with(fail)
   go_cut [11] (fun v11 wc=>∃(kq:Nat) (xG:Bool),v11= .bool xG∧ah (iV.j1 kq l0 dX xG=some r)∧ah (kq≤k1)∧dN w wc)
   case first=>
    have H:=HC2.out;clear HC2;replace H:=sd H;rcases H with⟨iT,H⟩|⟨iT,H⟩
    ·(first|rw[iT]|(simp only[jk,kU];rw[iT])|skip);have H':=ak H;clear H;go_wp2;go_meet
     case rel=>exact⟨_,_,rs,H',⟨kl⟩,dn⟩
    ·(first|rw[iT]|(simp only[jk,kU];rw[iT])|skip);have H':=ak H;clear H;go_wp2;go_meet
     case rel=>exact⟨_,_,rs,H',⟨kl⟩,dn⟩
   case rest=>
    clear HC2;obtain⟨kq,xG,rfl,HA,HJ1,⟨mc1,rfl⟩⟩:=hcut
    cases kq with
    |zero=>exact zz HA.out
    |succ RU=>
     obtain⟨H⟩:=HA;simp only[iV.j1]at H;replace H:=sb H;rcases H with⟨rfl,H⟩|⟨rfl,H⟩
     ·replace H:=oG H;obtain⟨nT,H⟩:=H;replace H:=oG H;obtain⟨oV,H⟩:=H;replace H:=bd H;obtain⟨ax7,A7,H⟩:=H;replace H:=sb H;rcases H with⟨rfl,H⟩|⟨rfl,H⟩
      ·have H':=ak H;clear H;have acL:=zi dX;have acM:=zj dX l0.length;obtain⟨ax8,asK,am6⟩:=Kd.jI HR0.out dX acL acM;cases asK;replace acL:=eq_true acL;replace acM:=eq_true acM;go_wp2_with (refine gA Tryz.func159 (aQ.calls A7.out) ?_;intro nd)
       go_roundg RU
       case measure=>exact kl
       case rel=>exact⟨_,rs,H',⟨kl⟩,dn⟩
      ·obtain rfl:=s1 H;have acL:=zi dX;have acM:=zj dX l0.length;obtain⟨ax8,asK,am6⟩:=Kd.jI HR0.out dX acL acM;cases asK;replace acL:=eq_true acL;replace acM:=eq_true acM;go_wp2_with (refine gA Tryz.func159 (aQ.calls A7.out) ?_;intro nd)
       go_ret;exact⟨rs,dn⟩
     ·obtain rfl:=s1 H;go_wp2;go_ret;exact⟨rs,dn⟩
mutual
def bG.j0:Nat→Int→Bool→List (fO)→List ByteArray→List (jT)→Option (Bool)
 |0,_,_,_,_,_=>none
 |k+1,x1,x17,Ae,yQ,qQ=>if x17=true then(some false)else((kP.f k Ae).bind fun ae5=>(if ae5.2=true then(if(yQ.length:Int)>0 then(bG.j1 k x1 ae5.1 true Ae yQ qQ)else(if(qQ.length:Int)<1 then(bG.j1 k x1 ae5.1 true Ae yQ qQ)else(bG.j1 k x1 ae5.1 (decide ((qQ.length:Int)>4)) Ae yQ qQ)))else(if(qQ.length:Int)=0 then((iV.f k yQ).bind fun ax9=>(some ax9))else(some false))))
def bG.j1:Nat→Int→ByteArray→Bool→List (fO)→List ByteArray→List (jT)→Option (Bool)
 |0,_,_,_,_,_,_=>none
 |k+1,x1,x5,x50,Ae,yQ,qQ=>if x50=true then(some false)else(bG.l0 k x1 x5 0 Ae yQ qQ)
def bG.l0:Nat→Int→ByteArray→Int→List (fO)→List ByteArray→List (jT)→Option (Bool)
 |0,_,_,_,_,_,_=>none
 |k+1,x1,x5,x7,Ae,yQ,qQ=>if x7<(qQ.length:Int)then(if 0≤x7 then((bG.f k ((au qQ x7).f0) ((au qQ x7).f1) ((au qQ x7).f2) (wrap64 (x1-1))).bind fun ax_=>(if ax_=true then((jG.f k ((au qQ x7).f0) ((au qQ x7).f1) ((au qQ x7).f2)).bind fun acN=>(bG.l1 k x1 x5 x7 acN 0 Ae yQ qQ))else(some false)))else(none))else(some true)
def bG.l1:Nat→Int→ByteArray→Int→List ByteArray→Int→List (fO)→List ByteArray→List (jT)→Option (Bool)
 |0,_,_,_,_,_,_,_,_=>none
 |k+1,x1,x5,x7,x8,x9,Ae,yQ,qQ=>if x9<(x8.length:Int)then(if 0≤x9 then((pz.f (qg ByteArray.empty x8 x9) x5).bind fun aya=>(if aya=true then(some false)else(bG.l1 k x1 x5 x7 x8 (wrap64 (x9+1)) Ae yQ qQ)))else(none))else(bG.l0 k x1 x5 (wrap64 (x7+1)) Ae yQ qQ)
def bG.f:Nat→List (fO)→List ByteArray→List (jT)→Int→Option (Bool)
 |0,_,_,_,_=>none
 |k+1,bD,bf,ay,a1=>(gu.f k bD).bind fun ayb=>(if ayb=true then(bG.j0 k a1 (decide (a1<1)) bD bf ay)else(bG.j0 k a1 true bD bf ay))
end
theorem bG.calls (k:Nat):∀(ig:Option Addr) (iq:Nat) (bD:List (fO)) (gK:Option Addr) (gQ:Nat) (bf:List ByteArray) (fM:Option Addr) (dO:Nat) (ay:List (jT)) (a1:Int) (r:Bool) (w:World) (mZ:Kd.C oz w ig bD.length bD) (m_:bD.length≤iq) (ng:Kd.C Kd.string w gK bf.length bf) (ni:bf.length≤gQ) (jU:Kd.C k28 w fM ay.length ay) (jV:ay.length≤dO) (h:bG.f k bD bf ay a1=some r),
  Calls Tryz.prog 72 #[.agg #[.slice ig bD.length iq, .slice gK bf.length gQ, .slice fM ay.length dO], .int .i64 a1] w fun e w'=>e= .returned (.bool r)∧Below w.heap.size w w':=by
 induction k using Nat.strongRecOn with
 |_ k ih=>
 intro ig iq bD gK gQ bf fM dO ay a1 r w mZ m_ ng ni jU jV h
 cases k with
 |zero=>exact absurd h (by simp[bG.f])
 |succ k=>
 simp only[bG.f]at h;have Eu:=Tryz.underlying28;have qC:=ak mZ;have rD:=ak m_;clear mZ m_;have uw:=ak ng;have xk:=ak ni;clear ng ni;have jW:=ak jU;have oC:=ak jV;clear jU jV;have HB:=ak (Below.refl w.heap.size w);have H:=h;clear h;have Uc:=ak H;clear H;go_enter Tryz.func72,Tryz.ntmps72;go_upto_region 1 with(refine gG 2 ?_;refine bX HB 2 #[.slice ig bD.length iq, .slice gK bf.length gQ, .slice fM ay.length dO] 28 ?_;intro ae6 w4 nZ aH4 hb;replace HB:=bs HB hb;clear hb)
 (try simp only[Act.put,zN,zO,l_c]);go_cut [17] (fun v17 wc=>∃(kq:Nat) (Uu:Bool),v17= .bool Uu∧ah (bG.j0 kq a1 Uu bD bf ay=some r)∧ah (kq≤k)∧ah (wc.heap[ae6]? =some (.cells #[(.slice ig bD.length iq),(.slice gK bf.length gQ),(.slice fM ay.length dO)] 28 (0,0)))∧ah (Below w.heap.size w wc))
 case first=>
  have H:=Uc.out;clear Uc;replace H:=bd H;obtain⟨ayb,A5,H⟩:=H;replace H:=sb H;rcases H with⟨rfl,H⟩|⟨rfl,H⟩
  ·have H':=ak H;clear H;have z7:=iJ nZ.out;go_wp2_with (refine gB Tryz.func113 (gu.calls (cu (Kd.aN qC.out HB.out)) rD.out A5.out) ?_;intro w8 hb;replace nZ:=kb nZ hb;replace HB:=bz HB hb;clear hb)
   go_meet
   case rel=>exact⟨_,_,rs,H',⟨PW⟩,⟨ub nZ.out⟩,⟨bb⟩⟩
  ·have H':=ak H;clear H;have z9:=iJ nZ.out;go_wp2_with (refine gB Tryz.func113 (gu.calls (cu (Kd.aN qC.out HB.out)) rD.out A5.out) ?_;intro w10 hb;replace nZ:=kb nZ hb;replace HB:=bz HB hb;clear hb)
   go_meet
   case rel=>exact⟨_,_,rs,H',⟨PW⟩,⟨ub nZ.out⟩,⟨bb⟩⟩
 case rest=>
  clear Uc;obtain⟨kq,Uu,rfl,HA,HJ2,nZ,HB⟩:=hcut
  cases kq with
  |zero=>exact zz HA.out
  |succ kj2=>
   obtain⟨H⟩:=HA;simp only[bG.j0]at H;replace H:=sb H;rcases H with⟨rfl,H⟩|⟨rfl,H⟩
   ·obtain rfl:=s1 H;go_wp2;go_ret;exact⟨er,bb⟩
   ·replace H:=bd H;obtain⟨⟨asL,aMl⟩,A12,H⟩:=H
    (try dsimp only at H);replace H:=sb H;rcases H with⟨rfl,H⟩|⟨rfl,H⟩
    ·have asM:=ak H;clear H;have z15:=iJ nZ.out;go_upto_region 6 with(refine gB Tryz.func108 (kP.calls (cu (Kd.aN qC.out HB.out)) rD.out A12.out) ?_;intro w16 hb;replace nZ:=kb nZ hb;replace HB:=bz HB hb;clear hb)
     (try simp only[Act.put,zN,zO,l_c]);go_cut [50] (fun v50 wc=>∃(kq:Nat) (acO:Bool),v50= .bool acO∧ah (bG.j1 kq a1 asL acO bD bf ay=some r)∧ah (kq≤kj2)∧ah (wc.heap[ae6]? =some (.cells #[(.slice ig bD.length iq),(.slice gK bf.length gQ),(.slice fM ay.length dO)] 28 (0,0)))∧ah (Below w.heap.size w wc))
     case first=>
      have H:=asM.out;clear asM;replace H:=sp H;rcases H with⟨c17,H⟩|⟨c17,H⟩
      ·have u_:decide (0<(bf.length:Int))=true:=decide_eq_true c17;have Q9:decide (0<bf.length)=true:=decide_eq_true (by omega);clear c17
       (first|rw[u_]|(simp only[jk,kU];rw[u_])|skip);have H':=ak H;clear H;have z18:=iJ nZ.out;go_wp2;go_meet
       case rel=>exact⟨_,_,rs,H',⟨kl⟩,⟨ub nZ.out⟩,⟨bb⟩⟩
      ·have u_:decide (0<(bf.length:Int))=false:=decide_eq_false c17;have Q9:decide (0<bf.length)=false:=decide_eq_false (by omega);clear c17
       (first|rw[u_]|(simp only[jk,kU];rw[u_])|skip);replace H:=sp H;rcases H with⟨c19,H⟩|⟨c19,H⟩
       ·have DR:=decide_eq_true c19;have H_:decide (ay.length<1)=true:=decide_eq_true (by omega);clear c19;have H':=ak H;clear H;have z20:=iJ nZ.out;go_wp2;go_meet
        case rel=>exact⟨_,_,rs,H',⟨kl⟩,⟨ub nZ.out⟩,⟨bb⟩⟩
       ·have DR:=decide_eq_false c19;have H_:decide (ay.length<1)=false:=decide_eq_false (by omega);clear c19;have H':=ak H;clear H;have z21:=iJ nZ.out;go_wp2;go_meet
        case rel=>exact⟨_,_,rs,H',⟨kl⟩,⟨ub nZ.out⟩,⟨bb⟩⟩
     case rest=>
      clear asM;obtain⟨kq,acO,rfl,HA,agX,nZ,HB⟩:=hcut
      cases kq with
      |zero=>exact zz HA.out
      |succ ayc=>
       obtain⟨H⟩:=HA;simp only[bG.j1]at H;replace H:=sb H;rcases H with⟨rfl,H⟩|⟨rfl,H⟩
       ·obtain rfl:=s1 H;go_wp2;go_ret;exact⟨er,bb⟩
       ·have H':=ak H;clear H;go_wp2;go_loopg [7] ayc (fun kq v7 w'=>∃(ru:Int),v7= .int .i64 ru∧ah (bG.l0 kq a1 asL ru bD bf ay=some r)∧ah (kq≤ayc)∧ah (w'.heap[ae6]? =some (.cells #[(.slice ig bD.length iq),(.slice gK bf.length gQ),(.slice fM ay.length dO)] 28 (0,0)))∧ah (Below w.heap.size w w'))
        case atStart=>exact⟨_,rs,H',⟨Nat.le_refl _⟩,⟨ub nZ.out⟩,⟨bb⟩⟩
        case round=>
         clear H';obtain⟨ru,rfl,HA,HK3,nZ,HB⟩:=hrel
         cases gk with
         |zero=>exact zz HA.out
         |succ k3=>
          obtain⟨H⟩:=HA;simp only[bG.l0]at H;replace H:=sd H;rcases H with⟨CJ,H⟩|⟨CJ,H⟩
          ·replace H:=oG H;obtain⟨Ul,H⟩:=H;replace H:=bd H;obtain⟨ax_,A25,H⟩:=H;replace H:=sb H;rcases H with⟨rfl,H⟩|⟨rfl,H⟩
           ·replace H:=bd H;obtain⟨acN,A27,H⟩:=H;have H':=ak H;clear H;have aia:=iJ nZ.out;have aaH:=zi ru;have aaI:=zj ru ay.length;obtain⟨ajs,asN,asO,asP,asQ,asR,asT,asU,JQ,JR,JU,Oo,Oq,Ot,Ou,Ov,Ox⟩:=yT jW.out ru aaH aaI;cases asU;replace JQ:=cl HB.out JQ;replace JR:=cl HB.out JR;replace JU:=cl HB.out JU;have YE:=ak Oq;have YF:=ak Oo;clear Oq Oo;have YG:=ak Ou;have YH:=ak Ot;clear Ou Ot;have YI:=ak Ox;have YJ:=ak Ov;clear Ox Ov;replace aaH:=eq_true aaH;replace aaI:=eq_true aaI;go_wp2_with (first|(refine gB Tryz.func72 (ih k3 (by have:=HJ2.out;have:=agX.out;have:=HK3.out;omega) _ _ ((au ay ru).f0) _ _ ((au ay ru).f1) _ _ ((au ay ru).f2) (wrap64 (a1-1)) true _ (cu (Kd.aN YE.out HB.out)) YF.out (cu (Kd.aN YG.out HB.out)) YH.out (cu (Kd.aN YI.out HB.out)) YJ.out A25.out) ?_;intro w29 hb;replace nZ:=kb nZ hb;replace HB:=bz HB hb;clear hb;have z30:=iJ nZ.out;have am7:0≤(ru:Int):=of_decide_eq_true (by assumption);have am8:ru<(ay.length:Int):=of_decide_eq_true (by assumption);obtain⟨ayd,aEW,aEX,aEY,aEZ,aE0,aE1,aE2,Tf,Ti,Tj,ae7,ae8,ae9,ae_,afa,afb⟩:=yT jW.out ru am7 am8;obtain rfl:ajs=ayd:=(by injection aE2);replace Tf:=(HB.out.cell (World.block_lt_of_cell? w _ Tf)).trans Tf;replace Ti:=(HB.out.cell (World.block_lt_of_cell? w _ Ti)).trans Ti;replace Tj:=(HB.out.cell (World.block_lt_of_cell? w _ Tj)).trans Tj;have am9:=ak ae8;have am_:=ak ae7;clear ae8 ae7;have ana:=ak ae_;have anb:=ak ae9;clear ae_ ae9;have anc:=ak afb;have ane:=ak afa;clear afb afa;replace am7:=eq_true am7;replace am8:=eq_true am8)|(refine gV Tryz.func67 (jG.calls k3 _ _ ((au ay ru).f0) _ _ ((au ay ru).f1) _ _ ((au ay ru).f2) acN _ (cu (Kd.aN am9.out HB.out)) am_.out (cu (Kd.aN ana.out HB.out)) anb.out (cu (Kd.aN anc.out HB.out)) ane.out A27.out) ?_;rintro aE3 w31 ⟨ho0,hb⟩;have aye:=ak (Kd.aG ho0 (aj bb));replace nZ:=kb nZ hb;replace HB:=bz HB hb;clear hb;(try clear ho0)))
            go_loopg [9] k3 (fun kq v9 w'=>∃(YK:Int),v9= .int .i64 YK∧ah (bG.l1 kq a1 asL ru acN YK bD bf ay=some r)∧ah (kq≤k3)∧ah (Kd.R Kd.string 9 w' w.heap.size (fun _=>True) aE3 acN)∧ah (w'.heap[ae6]? =some (.cells #[(.slice ig bD.length iq),(.slice gK bf.length gQ),(.slice (some ajs) ay.length dO)] 28 (0,0)))∧ah (Below w.heap.size w w'))
            case atStart=>exact⟨_,rs,H',⟨Nat.le_refl _⟩,⟨ur aye.out⟩,⟨ub nZ.out⟩,⟨bb⟩⟩
            case round=>
             clear H';try clear CJ
             try clear Ul
             try clear JQ
             try clear JR
             try clear JU
             try clear Tf
             try clear Ti
             try clear Tj
             try clear aaH
             try clear am7
             try clear aaI
             try clear am8
             obtain⟨YK,rfl,HA,HK4,agY,nZ,HB⟩:=hrel
             cases gk with
             |zero=>exact zz HA.out
             |succ k4=>
              obtain⟨H⟩:=HA;simp only[bG.l1]at H;replace H:=sd H;rcases H with⟨aax,H⟩|⟨aax,H⟩
              ·replace H:=oG H;obtain⟨WE,H⟩:=H;replace H:=bd H;obtain⟨aya,A34,H⟩:=H;replace H:=sb H;rcases H with⟨rfl,H⟩|⟨rfl,H⟩
               ·obtain rfl:=s1 H;obtain⟨aap,aaq,VK⟩:=Kd.aH agY.out;subst VK;have acP:=zi YK;have acQ:=zj YK acN.length;obtain⟨ayf,asV,anf⟩:=Kd.jI (Kd.aK agY.out).2.2 YK acP acQ;cases asV;replace acP:=eq_true acP;replace acQ:=eq_true acQ;go_wp2_with (refine gA Tryz.func115 (pz.calls A34.out) ?_;intro nd)
                go_ret;exact⟨er,bb⟩
               ·have H':=ak H;clear H;obtain⟨agJ,agK,Yc⟩:=Kd.aH agY.out;subst Yc;have acP:=zi YK;have acQ:=zj YK acN.length;obtain⟨ayf,asV,anf⟩:=Kd.jI (Kd.aK agY.out).2.2 YK acP acQ;cases asV;replace acP:=eq_true acP;replace acQ:=eq_true acQ;go_wp2_with (refine gA Tryz.func115 (pz.calls A34.out) ?_;intro nd)
                go_roundg k4
                case measure=>have:=HJ2.out;have:=agX.out;have:=HK3.out;have:=HK4.out;omega
                case rel=>exact⟨_,rs,H',⟨by have:=HJ2.out;have:=agX.out;have:=HK3.out;have:=HK4.out;omega⟩,⟨ur agY.out⟩,⟨ub nZ.out⟩,⟨bb⟩⟩
              ·have H':=ak H;clear H;obtain⟨asW,asX,agZ⟩:=Kd.aH agY.out;subst agZ;go_wp2;go_roundg k4
               case measure=>have:=HJ2.out;have:=agX.out;have:=HK3.out;have:=HK4.out;omega
               case rel=>exact⟨_,rs,H',⟨by have:=HJ2.out;have:=agX.out;have:=HK3.out;have:=HK4.out;omega⟩,⟨ub nZ.out⟩,⟨bb⟩⟩
           ·obtain rfl:=s1 H;have z39:=iJ nZ.out;have aaH:=zi ru;have aaI:=zj ru ay.length;obtain⟨ajs,asN,asO,asP,asQ,asR,asT,asU,JQ,JR,JU,Oo,Oq,Ot,Ou,Ov,Ox⟩:=yT jW.out ru aaH aaI;cases asU;replace JQ:=cl HB.out JQ;replace JR:=cl HB.out JR;replace JU:=cl HB.out JU;have YE:=ak Oq;have YF:=ak Oo;clear Oq Oo;have YG:=ak Ou;have YH:=ak Ot;clear Ou Ot;have YI:=ak Ox;have YJ:=ak Ov;clear Ox Ov;replace aaH:=eq_true aaH;replace aaI:=eq_true aaI;go_wp2_with (refine gB Tryz.func72 (ih k3 (by have:=HJ2.out;have:=agX.out;have:=HK3.out;omega) _ _ ((au ay ru).f0) _ _ ((au ay ru).f1) _ _ ((au ay ru).f2) (wrap64 (a1-1)) false _ (cu (Kd.aN YE.out HB.out)) YF.out (cu (Kd.aN YG.out HB.out)) YH.out (cu (Kd.aN YI.out HB.out)) YJ.out A25.out) ?_;intro w40 hb;replace nZ:=kb nZ hb;replace HB:=bz HB hb;clear hb)
            go_ret;exact⟨er,bb⟩
          ·obtain rfl:=s1 H;have arp:=iJ nZ.out;go_wp2;go_ret;exact⟨er,bb⟩
    ·replace H:=sp H;rcases H with⟨c42,H⟩|⟨c42,H⟩
     ·have ayg:=beq_iff_eq.mpr c42;have ayh:=bne_eq_false_iff_eq.mpr c42;clear c42;replace H:=bd H;obtain⟨ax9,A43,H⟩:=H;obtain rfl:=s1 H;have axp:=iJ nZ.out;go_wp2_with (first|(refine gB Tryz.func108 (kP.calls (cu (Kd.aN qC.out HB.out)) rD.out A12.out) ?_;intro w45 hb;replace nZ:=kb nZ hb;replace HB:=bz HB hb;clear hb;have z46:=iJ nZ.out)|(go_at_call 114;refine mA (iV.calls (cu (Kd.aN uw.out HB.out)) xk.out A43.out) ?_;intro nd))
      go_ret;exact⟨er,bb⟩
     ·have ayg:=beq_eq_false_iff_ne.mpr c42;have ayh:=bne_iff_ne.mpr c42;have aH5:¬(ay=[]):=fun h_=>c42 (by rw[h_];rfl)
      obtain rfl:=s1 H;have z47:=iJ nZ.out;go_wp2_with (refine gB Tryz.func108 (kP.calls (cu (Kd.aN qC.out HB.out)) rD.out A12.out) ?_;intro w48 hb;replace nZ:=kb nZ hb;replace HB:=bz HB hb;clear hb;have z49:=iJ nZ.out)
      go_ret;exact⟨er,bb⟩
def qJ.f (k:Nat) (bD:List (fO)) (bf:List ByteArray) (ay:List (jT)):Option (Bool):=(bG.f k bD bf ay 3).bind fun asY=>(some asY)
theorem qJ.calls {k iq gQ dO:Nat} {ig gK fM:Option Addr} {bD:List (fO)} {bf:List ByteArray} {ay:List (jT)} {r:Bool} {w:World} (mZ:Kd.C oz w ig bD.length bD) (m_:bD.length≤iq) (ng:Kd.C Kd.string w gK bf.length bf) (ni:bf.length≤gQ) (jU:Kd.C k28 w fM ay.length ay) (jV:ay.length≤dO) (h:qJ.f k bD bf ay=some r):
  Calls Tryz.prog 30 #[.agg #[.slice ig bD.length iq, .slice gK bf.length gQ, .slice fM ay.length dO]] w fun e w'=>e= .returned (.bool r)∧Below w.heap.size w w':=by
 have Eu:=Tryz.underlying28;have qC:=ak mZ;have rD:=ak m_;clear mZ m_;have uw:=ak ng;have xk:=ak ni;clear ng ni;have jW:=ak jU;have oC:=ak jV;clear jU jV;have HB:=ak (Below.refl w.heap.size w);unfold qJ.f at h;have H:=h;clear h;replace H:=bd H;obtain⟨asY,A2,H⟩:=H;obtain rfl:=s1 H;go_enter Tryz.func30,Tryz.ntmps30;go_wp2_with (first|(refine bX HB 1 #[.slice ig bD.length iq, .slice gK bf.length gQ, .slice fM ay.length dO] 28 ?_;intro aH6 w3 ajt aH7 hb;replace HB:=bs HB hb;clear hb;have z4:=iJ ajt.out)|(refine gB Tryz.func72 (bG.calls k _ _ bD _ _ bf _ _ ay 3 asY _ (cu (Kd.aN qC.out HB.out)) rD.out (cu (Kd.aN uw.out HB.out)) xk.out (cu (Kd.aN jW.out HB.out)) oC.out A2.out) ?_;intro w5 hb;replace ajt:=kb ajt hb;replace HB:=bz HB hb;clear hb))
 go_ret;exact⟨er,bb⟩
end Go.Proofs.YtncdadcmghglkaaGreatDoor.PFnPathEmpty
