/- Printed walks; conditions: those in each statement. -/
import Derived.Test.YtncdadcmghglkaaGreatDoorVFnPartAtQt
import Derived.Test.YtncdadcmghglkaaGreatDoorVFnPartAtYt
import Derived.Test.YtncdadcmghglkaaGreatDoorPFnPartAtx0
import Derived.Test.YtncdadcmghglkaaGreatDoorPFnPartAtx13
import Derived.Test.YtncdadcmghglkaaGreatDoorPFnPartAtx15
-- short
-- dense
-- sq
-- sq2
namespace Go.Proofs.YtncdadcmghglkaaGreatDoor.PFnPartAt
open Go.RowKit Go.Proofs.YtncdadcmghglkaaGreatDoor.X Go.Proofs.YtncdadcmghglkaaGreatDoorW.bQ Go.Proofs.YtncdadcmghglkaaGreatDoorW.jm Go.Proofs.YtncdadcmghglkaaGreatDoorW.kD
attribute [local go_sem] pV pW sK sN nI nJ pX pY   -- for this text's walks alone
set_option linter.unusedVariables false
set_option maxHeartbeats 8000000
set_option maxRecDepth 100000
set_option linter.unusedSimpArgs false
mutual
def eH.l0:Nat→ByteArray→Int→Option (Bool)
 |0,_,_=>none
 |k+1,x0,x3=>if x3<(x0.size:Int)then(eH.j1 k x0 x3 (decide (x3≤40)))else(eH.j1 k x0 x3 false)
def eH.j1:Nat→ByteArray→Int→Bool→Option (Bool)
 |0,_,_,_=>none
 |k+1,x0,x3,x11=>if x11=true then(if 0≤x3 then(if x3<(x0.size:Int)then((jO.f k (bt x0 x3)).bind fun aw4=>(if aw4=true then(eH.l0 k x0 (wrap64 (x3+1)))else(some false)))else(none))else(none))else(if(x0.size:Int)≥1 then(some (decide ((x0.size:Int)≤40)))else(some false))
end
def eH.f (k:Nat) (a0:ByteArray):Option (Bool):=eH.l0 k a0 0
theorem eH.calls {k:Nat} {a0:ByteArray} {r:Bool} {w:World} (h:eH.f k a0=some r):
  Calls Tryz.prog 214 #[.string a0] w fun e w'=>e= .returned (.bool r)∧dO w w':=by
 unfold eH.f at h;have H:=h;clear h;have H':=ak H;clear H;go_enter Tryz.func214,Tryz.ntmps214;go_wp2;go_loopg [3] k (fun kq v3 w'=>∃(dV:Int),v3= .int .i64 dV∧ah (eH.l0 kq a0 dV=some r)∧ah (kq≤k)∧dO w w')
 case atStart=>exact⟨_,rs,H',⟨Nat.le_refl _⟩,dn⟩
 case round=>
  clear H';obtain⟨dV,rfl,HA,xK,⟨m1,rfl⟩⟩:=hrel
  cases gk with
  |zero=>exact zz HA.out
  |succ k1=>
   obtain⟨H⟩:=HA;simp only[eH.l0]at H;have HC2:=ak H;clear H;go_upto_region 2 with(fail)
   go_cut [11] (fun v11 wc=>∃(kq:Nat) (xR:Bool),v11= .bool xR∧ah (eH.j1 kq a0 dV xR=some r)∧ah (kq≤k1)∧dO w wc)
   case first=>
    have H:=HC2.out;clear HC2;replace H:=sd H;rcases H with⟨iW,H⟩|⟨iW,H⟩
    ·(first|rw[iW]|(simp only[jo,lg];rw[iW])|skip);have H':=ak H;clear H;go_wp2;go_meet
     case rel=>exact⟨_,_,rs,H',⟨kl⟩,dn⟩
    ·(first|rw[iW]|(simp only[jo,lg];rw[iW])|skip);have H':=ak H;clear H;go_wp2;go_meet
     case rel=>exact⟨_,_,rs,H',⟨kl⟩,dn⟩
   case rest=>
    clear HC2;obtain⟨kq,xR,rfl,HA,HJ1,⟨mc1,rfl⟩⟩:=hcut
    cases kq with
    |zero=>exact zz HA.out
    |succ SA=>
     obtain⟨H⟩:=HA;simp only[eH.j1]at H;replace H:=sb H;rcases H with⟨rfl,H⟩|⟨rfl,H⟩
     ·replace H:=oL H;obtain⟨oz,H⟩:=H;replace H:=oL H;obtain⟨pF,H⟩:=H;replace H:=bd H;obtain⟨aw4,A8,H⟩:=H;replace H:=sb H;rcases H with⟨rfl,H⟩|⟨rfl,H⟩
      ·have H':=ak H;clear H;obtain⟨p7,q7,hx7⟩:=bx a0 dV;go_wp2_with (refine gA Tryz.func199 (jO.calls A8.out) ?_;intro nd)
       go_roundg SA
       case measure=>exact kl
       case rel=>exact⟨_,rs,H',⟨kl⟩,dn⟩
      ·obtain rfl:=s1 H;obtain⟨p7,q7,hx7⟩:=bx a0 dV;go_wp2_with (refine gA Tryz.func199 (jO.calls A8.out) ?_;intro nd)
       go_ret;exact⟨rs,dn⟩
     ·replace H:=sp H;rcases H with⟨c10,H⟩|⟨c10,H⟩
      ·have oO:decide (1≤(a0.size:Int))=true:=decide_eq_true c10;have vH:decide (1≤a0.size)=true:=decide_eq_true (by omega);clear c10;obtain rfl:=s1 H;go_wp2;go_ret;exact⟨rs,dn⟩
      ·have oO:decide (1≤(a0.size:Int))=false:=decide_eq_false c10;have vH:decide (1≤a0.size)=false:=decide_eq_false (by omega);clear c10;obtain rfl:=s1 H;go_wp2;go_ret;exact⟨rs,dn⟩
def kT.l0:Nat→ByteArray→ByteArray→Int→Option (ByteArray)
 |0,_,_,_=>none
 |k+1,x0,x3,x4=>if x4<(x0.size:Int)then(if 0≤x4 then(if(bt x0 x4)=34 then((some (([92]:List Int):List Int)).bind fun Yp=>(if x3.size+(strOfNums Yp).size≤9223372036854775807 then(if x4≤(wrap64 (x4+1))then(if(wrap64 (x4+1))≤(x0.size:Int)then(if(x3++(strOfNums Yp)).size+(x0.extract (x4:Int).toNat ((wrap64 (x4+1)):Int).toNat).size≤9223372036854775807 then(kT.l0 k x0 ((x3++(strOfNums Yp))++(x0.extract (x4:Int).toNat ((wrap64 (x4+1)):Int).toNat)) (wrap64 (x4+1)))else(none))else(none))else(none))else(none)))else(if(bt x0 x4)=92 then((some (([92]:List Int):List Int)).bind fun Yq=>(if x3.size+(strOfNums Yq).size≤9223372036854775807 then(if x4≤(wrap64 (x4+1))then(if(wrap64 (x4+1))≤(x0.size:Int)then(if(x3++(strOfNums Yq)).size+(x0.extract (x4:Int).toNat ((wrap64 (x4+1)):Int).toNat).size≤9223372036854775807 then(kT.l0 k x0 ((x3++(strOfNums Yq))++(x0.extract (x4:Int).toNat ((wrap64 (x4+1)):Int).toNat)) (wrap64 (x4+1)))else(none))else(none))else(none))else(none)))else(if x4≤(wrap64 (x4+1))then(if(wrap64 (x4+1))≤(x0.size:Int)then(if x3.size+(x0.extract (x4:Int).toNat ((wrap64 (x4+1)):Int).toNat).size≤9223372036854775807 then(kT.l0 k x0 (x3++(x0.extract (x4:Int).toNat ((wrap64 (x4+1)):Int).toNat)) (wrap64 (x4+1)))else(none))else(none))else(none))))else(none))else(if x3.size+1≤9223372036854775807 then(some (x3++(⟨#[34]⟩:ByteArray)))else(none))
def kT.f (k:Nat) (a0:ByteArray):Option (ByteArray):=kT.l0 k a0 (⟨#[34]⟩:ByteArray) 0
theorem kT.calls {k:Nat} {a0 r:ByteArray} {w:World} (h:kT.f k a0=some r):
  Calls Tryz.prog 215 #[.string a0] w fun e w'=>e= .returned (.string r)∧Below w.heap.size w w':=by
 have HB:=ak (Below.refl w.heap.size w);unfold kT.f at h;have H:=h;clear h;have H':=ak H;clear H;go_enter Tryz.func215,Tryz.ntmps215;go_wp2;go_loopg [3,4] k (fun kq v3 v4 w'=>∃(dV:ByteArray) (fC:Int),v3= .string dV∧v4= .int .i64 fC∧ah (kT.l0 kq a0 dV fC=some r)∧ah (kq≤k)∧ah (Below w.heap.size w w'))
 case atStart=>exact⟨_,_,rs,rs,H',⟨Nat.le_refl _⟩,⟨ul HB.out⟩⟩
 case round=>
  clear H';obtain⟨dV,fC,rfl,rfl,HA,xK,HB⟩:=hrel
  cases gk with
  |zero=>exact zz HA.out
  |succ k1=>
   obtain⟨H⟩:=HA;simp only[kT.l0]at H;replace H:=sd H;rcases H with⟨qJ,H⟩|⟨qJ,H⟩
   ·replace H:=oL H;obtain⟨iW,H⟩:=H;replace H:=sq H;rcases H with⟨oz,NV,H⟩|⟨c5,oz,NV,H⟩
    ·replace H:=ny H;obtain⟨Yp,aw5,H⟩:=H;replace H:=nn H;obtain⟨c6,H⟩:=H;have pF:=eq_true c6;have Ad:=decide_eq_true c6;try have amT:(9223372036854775807<dV.size+(strOfNums Yp).size)=False:=eq_false (Nat.not_lt.2 c6)
     have tZ:=eq_true (of_decide_eq_true (by assumption):0≤fC);replace H:=nn H;obtain⟨c8,H⟩:=H;have uK:=eq_true c8;have Gg:=decide_eq_true c8;replace H:=nn H;obtain⟨c9,H⟩:=H;have AZ:=eq_true c9;have Jb:=decide_eq_true c9;replace H:=nn H;obtain⟨c10,H⟩:=H;have oO:=eq_true c10;have vH:=decide_eq_true c10;try have aw6:(9223372036854775807<dV.size+(strOfNums Yp).size+((a0.extract (fC:Int).toNat ((wrap64 (fC+1)):Int).toNat).size))=False:=by have h_:=c10;simp only[ByteArray.size_append,ByteArray.size_extract]at h_;refine eq_false ?_;simp only[decide_eq_true_eq]at*;omega
     try have apq:(9223372036854775807<dV.size+(strOfNums Yp).size+((a0.extract (fC:Int).toNat ((wrap64 (fC+1)):Int).toNat).size))=False:=by have h_:=(eq_false (Nat.not_lt.2 c10):(9223372036854775807<(dV++(strOfNums Yp)).size+(a0.extract (fC:Int).toNat ((wrap64 (fC+1)):Int).toNat).size)=False);simp only[ByteArray.size_append]at h_;exact h_
     try have aeJ:(9223372036854775807<(dV++(strOfNums Yp)).size+(a0.extract (fC:Int).toNat ((wrap64 (fC+1)):Int).toNat).size)=False:=eq_false (Nat.not_lt.2 c10)
     have H':=ak H;clear H;obtain⟨p4,q4,hx4⟩:=bx a0 fC;go_wp2_with (refine Tq 22 (Kd.int .u8) 5 [.int .u8 92] aw5 (bZ.one (show Kd.M (Kd.int .u8) _ _ _ 92 [.int .u8 92]from rfl) (bZ.none _ _)) ?_;intro aLV V6 ajh hb;have aw7:=ak (Kd.aG ajh (aj (ul HB.out)));replace HB:=bs HB hb;clear hb ajh;have aH9:=tK (P:=Tryz.prog) Tryz.underlying22 Tryz.underlying5 Tryz.underlying9 (Kd.xW aw7.out))
     go_roundg k1
     case measure=>exact kl
     case rel=>exact⟨_,_,rs,rs,H',⟨kl⟩,⟨ul HB.out⟩⟩
    ·replace H:=sq H;rcases H with⟨yM,I9,H⟩|⟨c15,yM,I9,H⟩
     ·replace H:=ny H;obtain⟨Yq,aw8,H⟩:=H;replace H:=nn H;obtain⟨c16,H⟩:=H;have zJ:=eq_true c16;have NQ:=decide_eq_true c16;try have aH_:(9223372036854775807<dV.size+(strOfNums Yq).size)=False:=eq_false (Nat.not_lt.2 c16)
      have vX:=eq_true (of_decide_eq_true (by assumption):0≤fC);replace H:=nn H;obtain⟨c18,H⟩:=H;have C_:=eq_true c18;have Uo:=decide_eq_true c18;replace H:=nn H;obtain⟨c19,H⟩:=H;have D_:=eq_true c19;have Ij:=decide_eq_true c19;replace H:=nn H;obtain⟨c20,H⟩:=H;have Rw:=eq_true c20;have aaB:=decide_eq_true c20;try have aIa:(9223372036854775807<dV.size+(strOfNums Yq).size+((a0.extract (fC:Int).toNat ((wrap64 (fC+1)):Int).toNat).size))=False:=by have h_:=c20;simp only[ByteArray.size_append,ByteArray.size_extract]at h_;refine eq_false ?_;simp only[decide_eq_true_eq]at*;omega
      try have aIb:(9223372036854775807<dV.size+(strOfNums Yq).size+((a0.extract (fC:Int).toNat ((wrap64 (fC+1)):Int).toNat).size))=False:=by have h_:=(eq_false (Nat.not_lt.2 c20):(9223372036854775807<(dV++(strOfNums Yq)).size+(a0.extract (fC:Int).toNat ((wrap64 (fC+1)):Int).toNat).size)=False);simp only[ByteArray.size_append]at h_;exact h_
      try have aIc:(9223372036854775807<(dV++(strOfNums Yq)).size+(a0.extract (fC:Int).toNat ((wrap64 (fC+1)):Int).toNat).size)=False:=eq_false (Nat.not_lt.2 c20)
      have H':=ak H;clear H;obtain⟨p4,q4,hx4⟩:=bx a0 fC;obtain⟨p14,q14,asE⟩:=bx a0 fC;go_wp2_with (refine Tq 22 (Kd.int .u8) 5 [.int .u8 92] aw8 (bZ.one (show Kd.M (Kd.int .u8) _ _ _ 92 [.int .u8 92]from rfl) (bZ.none _ _)) ?_;intro aLW w21 aw9 hb;have aw_:=ak (Kd.aG aw9 (aj (ul HB.out)));replace HB:=bs HB hb;clear hb aw9;have aId:=tK (P:=Tryz.prog) Tryz.underlying22 Tryz.underlying5 Tryz.underlying9 (Kd.xW aw_.out))
      go_roundg k1
      case measure=>exact kl
      case rel=>exact⟨_,_,rs,rs,H',⟨kl⟩,⟨ul HB.out⟩⟩
     ·have Us:=eq_true (of_decide_eq_true (by assumption):0≤fC);replace H:=nn H;obtain⟨c25,H⟩:=H;have Ul:=eq_true c25;have aiV:=decide_eq_true c25;replace H:=nn H;obtain⟨c26,H⟩:=H;have Rn:=eq_true c26;have aem:=decide_eq_true c26;replace H:=nn H;obtain⟨c27,H⟩:=H;have I5:=eq_true c27;have aeK:=decide_eq_true c27;try have aIe:(9223372036854775807<dV.size+((a0.extract (fC:Int).toNat ((wrap64 (fC+1)):Int).toNat).size))=False:=by have h_:=c27;simp only[ByteArray.size_append,ByteArray.size_extract]at h_;refine eq_false ?_;simp only[decide_eq_true_eq]at*;omega
      try have aIf:(9223372036854775807<dV.size+(a0.extract (fC:Int).toNat ((wrap64 (fC+1)):Int).toNat).size)=False:=eq_false (Nat.not_lt.2 c27)
      have H':=ak H;clear H;obtain⟨p4,q4,hx4⟩:=bx a0 fC;obtain⟨p14,q14,asE⟩:=bx a0 fC;go_wp2;go_roundg k1
      case measure=>exact kl
      case rel=>exact⟨_,_,rs,rs,H',⟨kl⟩,⟨ul HB.out⟩⟩
   ·replace H:=nn H;obtain⟨c28,H⟩:=H;have I7:=eq_true c28;have aeL:=decide_eq_true c28;try have aIg:(9223372036854775807<dV.size+1)=False:=eq_false (Nat.not_lt.2 c28)
    obtain rfl:=s1 H;go_wp2;go_ret;exact⟨er,ul HB.out⟩
def tN.f (k:Nat) (a0:ByteArray):Option (ByteArray):=(aQ.f k a0).bind fun axa=>(if axa=true then((eH.f k a0).bind fun axb=>(if axb=true then(some a0)else((kT.f k a0).bind fun axc=>(some axc))))else(some (⟨#[]⟩:ByteArray)))
theorem tN.calls {k:Nat} {a0 r:ByteArray} {w:World} (h:tN.f k a0=some r):
  Calls Tryz.prog 202 #[.string a0] w fun e w'=>e= .returned (.string r)∧Below w.heap.size w w':=by
 have HB:=ak (Below.refl w.heap.size w);unfold tN.f at h;have H:=h;clear h;replace H:=bd H;obtain⟨axa,A2,H⟩:=H;replace H:=sb H;rcases H with⟨rfl,H⟩|⟨rfl,H⟩
 ·replace H:=bd H;obtain⟨axb,A4,H⟩:=H;replace H:=sb H;rcases H with⟨rfl,H⟩|⟨rfl,H⟩
  ·obtain rfl:=s1 H;go_enter Tryz.func202,Tryz.ntmps202;go_wp2_with (first|(refine gA Tryz.func159 (aQ.calls A2.out) ?_;intro nd)|(refine gA Tryz.func214 (eH.calls A4.out) ?_;intro nd))
   go_ret;exact⟨er,ul HB.out⟩
  ·replace H:=bd H;obtain⟨axc,A6,H⟩:=H;obtain rfl:=s1 H;go_enter Tryz.func202,Tryz.ntmps202;go_wp2_with (first|(refine gA Tryz.func159 (aQ.calls A2.out) ?_;intro nd)|(refine gA Tryz.func214 (eH.calls A4.out) ?_;intro nd)|(refine gB Tryz.func215 (kT.calls A6.out) ?_;intro w7 hb;replace HB:=bs HB hb;clear hb))
   go_ret;exact⟨er,ul HB.out⟩
 ·obtain rfl:=s1 H;go_enter Tryz.func202,Tryz.ntmps202;go_wp2_with (refine gA Tryz.func159 (aQ.calls A2.out) ?_;intro nd)
  go_ret;exact⟨er,ul HB.out⟩
mutual
def dD.j0:Nat→Bool→ByteArray→ByteArray→List (fP)→Option (Bool)
 |0,_,_,_,_=>none
 |k+1,x21,Tt,Tv,Ai=>if x21=true then(some false)else(dD.l0 k (wrap64 ((wrap64 ((Tt.size:Int)+(Tv.size:Int)))+1)) 0 Tt Tv Ai)
def dD.l0:Nat→Int→Int→ByteArray→ByteArray→List (fP)→Option (Bool)
 |0,_,_,_,_,_=>none
 |k+1,x3,x4,Tt,Tv,Ai=>if x4<(Ai.length:Int)then(if 0≤x4 then((lq.f k ((dU Ai x4).f0)).bind fun axd=>(if axd=true then((uF.f k ((dU Ai x4).f1)).bind fun axe=>(if axe=true then(if x4≤(Ai.length:Int)then((kH.f k (Ai.take (x4:Int).toNat) ((dU Ai x4).f0)).bind fun am7=>(if am7≥0 then(some false)else((tN.f k ((dU Ai x4).f1)).bind fun axf=>(dD.l0 k (wrap64 ((wrap64 ((wrap64 (x3+3))+(((dU Ai x4).f0).size:Int)))+(axf.size:Int))) (wrap64 (x4+1)) Tt Tv Ai))))else(none))else(some false)))else(some false)))else(none))else(some (decide (x3≤150)))
end
def dD.f (k:Nat) (eX:ByteArray) (fF:ByteArray) (aA:List (fP)):Option (Bool):=(lq.f k eX).bind fun axg=>(if axg=true then((lq.f k fF).bind fun axh=>(if axh=true then(dD.j0 k (decide ((aA.length:Int)>4)) eX fF aA)else(dD.j0 k true eX fF aA)))else(dD.j0 k true eX fF aA))
theorem dD.calls {k dI:Nat} {eX fF:ByteArray} {eP:Option Addr} {aA:List (fP)} {r:Bool} {w:World} (jF:Kd.C ou w eP aA.length aA) (jG:aA.length≤dI) (h:dD.f k eX fF aA=some r):
  Calls Tryz.prog 182 #[.agg #[.string eX, .string fF, .slice eP aA.length dI]] w fun e w'=>e= .returned (.bool r)∧Below w.heap.size w w':=by
 have aan:=Tryz.underlying61;have Gh:=Tryz.underlying69;have jK:=ak jF;have mV:=ak jG;clear jF jG;have HB:=ak (Below.refl w.heap.size w);unfold dD.f at h;have H:=h;clear h;have HC2:=ak H;clear H;go_enter Tryz.func182,Tryz.ntmps182;go_upto_region 1 with(refine gG 1 ?_;refine bX HB 1 #[.string eX, .string fF, .slice eP aA.length dI] 61 ?_;intro Rx w3 iY aIh hb;replace HB:=bs HB hb;clear hb)
 (try simp only[Act.put,zW,zX,l_c]);go_cut [21] (fun v21 wc=>∃(kq:Nat) (aji:Bool),v21= .bool aji∧ah (dD.j0 kq aji eX fF aA=some r)∧ah (kq≤k)∧ah (wc.heap[Rx]? =some (.cells #[.string eX, .string fF,(.slice eP aA.length dI)] 61 (0,0)))∧ah (Below w.heap.size w wc))
 case first=>
  have H:=HC2.out;clear HC2;replace H:=bd H;obtain⟨axg,A4,H⟩:=H;replace H:=sb H;rcases H with⟨rfl,H⟩|⟨rfl,H⟩
  ·replace H:=bd H;obtain⟨axh,A6,H⟩:=H;replace H:=sb H;rcases H with⟨rfl,H⟩|⟨rfl,H⟩
   ·have H':=ak H;clear H;have z8:=iQ iY.out;go_wp2_with (first|(refine gB Tryz.func200 (lq.calls A4.out) ?_;intro w9 hb;replace iY:=kb iY hb;replace HB:=bz HB hb;clear hb;have z10:=iQ iY.out)|(go_at_call 200;refine mB (lq.calls A6.out) ?_;intro V6 hb;replace iY:=kb iY hb;replace HB:=bz HB hb;clear hb;have z12:=iQ iY.out))
    go_meet
    case rel=>exact⟨_,_,rs,H',⟨Qa⟩,⟨ub iY.out⟩,⟨bb⟩⟩
   ·have H':=ak H;clear H;have z13:=iQ iY.out;go_wp2_with (first|(refine gB Tryz.func200 (lq.calls A4.out) ?_;intro V3 hb;replace iY:=kb iY hb;replace HB:=bz HB hb;clear hb;have z15:=iQ iY.out)|(go_at_call 200;refine mB (lq.calls A6.out) ?_;intro w16 hb;replace iY:=kb iY hb;replace HB:=bz HB hb;clear hb))
    go_meet
    case rel=>exact⟨_,_,rs,H',⟨Qa⟩,⟨ub iY.out⟩,⟨bb⟩⟩
  ·have H':=ak H;clear H;have z17:=iQ iY.out;go_wp2_with (refine gB Tryz.func200 (lq.calls A4.out) ?_;intro w18 hb;replace iY:=kb iY hb;replace HB:=bz HB hb;clear hb)
   go_meet
   case rel=>exact⟨_,_,rs,H',⟨Qa⟩,⟨ub iY.out⟩,⟨bb⟩⟩
 case rest=>
  clear HC2;obtain⟨kq,aji,rfl,HA,HJ1,iY,HB⟩:=hcut
  cases kq with
  |zero=>exact zz HA.out
  |succ SA=>
   obtain⟨H⟩:=HA;simp only[dD.j0]at H;replace H:=sb H;rcases H with⟨rfl,H⟩|⟨rfl,H⟩
   ·obtain rfl:=s1 H;go_wp2;go_ret;exact⟨er,bb⟩
   ·have H':=ak H;clear H;have z20:=iQ iY.out;go_wp2;go_loopg [3,4] SA (fun kq v3 v4 w'=>∃(mD:Int) (qF:Int),v3= .int .i64 mD∧v4= .int .i64 qF∧ah (dD.l0 kq mD qF eX fF aA=some r)∧ah (kq≤SA)∧ah (w'.heap[Rx]? =some (.cells #[.string eX, .string fF,(.slice eP aA.length dI)] 61 (0,0)))∧ah (Below w.heap.size w w'))
    case atStart=>exact⟨_,_,rs,rs,H',⟨Nat.le_refl _⟩,⟨ub iY.out⟩,⟨bb⟩⟩
    case round=>
     clear H';obtain⟨mD,qF,rfl,rfl,HA,HK2,iY,HB⟩:=hrel
     cases gk with
     |zero=>exact zz HA.out
     |succ k2=>
      obtain⟨H⟩:=HA;simp only[dD.l0]at H;replace H:=sd H;rcases H with⟨Di,H⟩|⟨Di,H⟩
      ·replace H:=oL H;obtain⟨EZ,H⟩:=H;replace H:=bd H;obtain⟨axd,A23,H⟩:=H;replace H:=sb H;rcases H with⟨rfl,H⟩|⟨rfl,H⟩
       ·replace H:=bd H;obtain⟨axe,A25,H⟩:=H;replace H:=sb H;rcases H with⟨rfl,H⟩|⟨rfl,H⟩
        ·have I5:=eq_true (of_decide_eq_true (by assumption):0≤qF);replace H:=Du H;obtain⟨I7,aeL,H⟩:=H;obtain⟨am8,aaG⟩:=nm (aA.take (qF:Int).toNat);rw[←aaG.out]at H;replace H:=bd H;obtain⟨am7,A29,H⟩:=H;replace H:=sp H;rcases H with⟨c30,H⟩|⟨c30,H⟩
         ·have aeM:decide (0≤am7)=true:=decide_eq_true c30;clear c30;obtain rfl:=s1 H;have z31:=iQ iY.out;have LP:=zi qF;have LQ:=zj qF aA.length;obtain⟨NY,aco,Aj,Ak⟩:=qW jK.out qF LP LQ;cases aco;replace Aj:=cl HB.out Aj;replace Ak:=cl HB.out Ak;replace LP:=eq_true LP;replace LQ:=eq_true LQ;try go_wp2_with (refine gG 5 ?_;refine bY HB 5 #[.string (⟨#[]⟩:ByteArray), .string (⟨#[]⟩:ByteArray)] 69 ?_;intro Gj w32 oH Uw hg hb;have vI:=yA iY hg;have Bz:=yB iY hg;replace iY:=kb iY hb;replace HB:=bz HB hb;clear hb hg;have av7:=Bz.out;have av8:=vI.out;have z34:=Dh oH.out)
          refine ab2 HB oH Uw ?_;intro w35 Ea hk HB;replace iY:=kf iY hk vI;clear hk oH;have oH:=Ea;clear Ea;refine rO [2,7,17] [0,1,2,3,4,5,6,7,8,9,10,11,13,15,12,14,16,17,18,19] (fun w'=>w'.cell? ⟨Gj,0,none⟩=some (.string ((dU aA qF).f0))∧w'.cell? ⟨Gj,1,none⟩=some (.string ((dU aA qF).f1))∧w'.cell? ⟨Rx,0,none⟩=some (.string eX)∧w'.cell? ⟨Rx,1,none⟩=some (.string fF)∧w'.cell? ⟨Rx,2,none⟩=some (.slice (some NY) aA.length dI)) ?_;intro w36 hb;replace iY:=kb iY hb;replace oH:=kb oH hb;replace HB:=bs HB hb;refine⟨sx,?_⟩;repeat refine Bv ?_
          refine rB Tryz.func200 (lq.calls A23.out) ?_;intro w37 hb;replace iY:=kb iY hb;replace oH:=kb oH hb;replace HB:=bz HB hb;clear hb;refine⟨sx,?_⟩;repeat refine Bv ?_
          refine rA Tryz.func201 (uF.calls A25.out) ?_;intro nd;have q38:(qF:Int)≤((aA.length:Int):Int):=of_decide_eq_true (by assumption);obtain⟨aLX,apr,_,axi,_⟩:=info_parts DX;have aeN:aA.length≤dI:=mV.out;have axj:Kd.C ou _ (some NY) aA.length aA:=jK.out;have asF:=Yr (P:=Tryz.prog) 25 69 .i64 Tryz.underlying25 apr (some NY) aA.length dI qF (of_decide_eq_true (by assumption)) q38 aeN;have asG:=Kd.Yt (m:=(qF:Int).toNat) axj (by omega);have hy38:am8.length=(qF:Int).toNat:=(by rw[aaG.out,List.length_take];omega)
          rw[←aaG.out]at asG;rw[←hy38]at asF;have ajj:=ak asG;have ajk:=ak (show am8.length≤dI from by omega);clear asG axj aeN apr axi;have aLY:=ak hy38;clear hy38;replace q38:=eq_true q38;refine⟨sx,?_⟩;repeat refine Bv ?_
          refine rB Tryz.func177 (kH.calls (cu (Kd.aI ajj.out bb)) ajk.out A29.out) ?_;intro w39 hb;replace iY:=kb iY hb;replace oH:=kb oH hb;replace HB:=bz HB hb;clear hb;refine⟨sx,?_⟩;repeat refine Bv ?_
          refine on ?_;try go_wp2
          go_ret;exact⟨er,bb⟩
         ·have aeM:decide (0≤am7)=false:=decide_eq_false c30;clear c30;replace H:=bd H;obtain⟨axf,A40,H⟩:=H;have H':=ak H;clear H;have ar0:=iQ iY.out;have LP:=zi qF;have LQ:=zj qF aA.length;obtain⟨NY,aco,Aj,Ak⟩:=qW jK.out qF LP LQ;cases aco;replace Aj:=cl HB.out Aj;replace Ak:=cl HB.out Ak;replace LP:=eq_true LP;replace LQ:=eq_true LQ;try go_wp2_with (refine gG 5 ?_;refine bY HB 5 #[.string (⟨#[]⟩:ByteArray), .string (⟨#[]⟩:ByteArray)] 69 ?_;intro Gj w42 oH Uw hg hb;have vI:=yA iY hg;have Bz:=yB iY hg;replace iY:=kb iY hb;replace HB:=bz HB hb;clear hb hg;have axk:=Bz.out;have axl:=vI.out;have axn:=Dh oH.out)
          refine ab2 HB oH Uw ?_;intro w45 Ea hk HB;replace iY:=kf iY hk vI;clear hk oH;have oH:=Ea;clear Ea;refine rO [2,7,17] [0,1,2,3,4,5,6,7,8,9,10,11,13,15,12,14,16,17,18,19] (fun w'=>w'.cell? ⟨Gj,0,none⟩=some (.string ((dU aA qF).f0))∧w'.cell? ⟨Gj,1,none⟩=some (.string ((dU aA qF).f1))∧w'.cell? ⟨Rx,0,none⟩=some (.string eX)∧w'.cell? ⟨Rx,1,none⟩=some (.string fF)∧w'.cell? ⟨Rx,2,none⟩=some (.slice (some NY) aA.length dI)) ?_;intro w46 hb;replace iY:=kb iY hb;replace oH:=kb oH hb;replace HB:=bs HB hb;refine⟨sx,?_⟩;repeat refine Bv ?_
          refine rB Tryz.func200 (lq.calls A23.out) ?_;intro w47 hb;replace iY:=kb iY hb;replace oH:=kb oH hb;replace HB:=bz HB hb;clear hb;refine⟨sx,?_⟩;repeat refine Bv ?_
          refine rA Tryz.func201 (uF.calls A25.out) ?_;intro nd;have q48:(qF:Int)≤((aA.length:Int):Int):=of_decide_eq_true (by assumption);obtain⟨aLZ,aps,_,axo,_⟩:=info_parts DX;have aeO:aA.length≤dI:=mV.out;have axp:Kd.C ou _ (some NY) aA.length aA:=jK.out;have asH:=Yr (P:=Tryz.prog) 25 69 .i64 Tryz.underlying25 aps (some NY) aA.length dI qF (of_decide_eq_true (by assumption)) q48 aeO;have asI:=Kd.Yt (m:=(qF:Int).toNat) axp (by omega);have asJ:am8.length=(qF:Int).toNat:=(by rw[aaG.out,List.length_take];omega)
          rw[←aaG.out]at asI;rw[←asJ]at asH;have ajj:=ak asI;have ajk:=ak (show am8.length≤dI from by omega);clear asI axp aeO aps axo;have aL0:=ak asJ;clear asJ;replace q48:=eq_true q48;refine⟨sx,?_⟩;repeat refine Bv ?_
          refine rB Tryz.func177 (kH.calls (cu (Kd.aI ajj.out bb)) ajk.out A29.out) ?_;intro w49 hb;replace iY:=kb iY hb;replace oH:=kb oH hb;replace HB:=bz HB hb;clear hb;refine⟨sx,?_⟩;repeat refine Bv ?_
          refine on ?_;try go_wp2
          refine rO [8] [0,1,2,6,3,4,5,7,8,9,10,11] (fun w'=>w'.cell? ⟨Gj,0,none⟩=some (.string ((dU aA qF).f0))∧w'.cell? ⟨Gj,1,none⟩=some (.string ((dU aA qF).f1))) ?_;intro w50 hb;replace iY:=kb iY hb;replace oH:=kb oH hb;replace HB:=bs HB hb;refine⟨sx,?_⟩;repeat refine Bv ?_
          refine rB Tryz.func202 (tN.calls A40.out) ?_;intro w51 hb;replace iY:=kb iY hb;replace oH:=kb oH hb;replace HB:=bz HB hb;clear hb;refine⟨sx,?_⟩;repeat refine Bv ?_
          refine on ?_;try go_wp2
          go_roundg k2
          case measure=>exact kl
          case rel=>exact⟨_,_,rs,rs,H',⟨kl⟩,⟨ub iY.out⟩,⟨bb⟩⟩
        ·obtain rfl:=s1 H;have z52:=iQ iY.out;have LP:=zi qF;have LQ:=zj qF aA.length;obtain⟨NY,aco,Aj,Ak⟩:=qW jK.out qF LP LQ;cases aco;replace Aj:=cl HB.out Aj;replace Ak:=cl HB.out Ak;replace LP:=eq_true LP;replace LQ:=eq_true LQ;try go_wp2_with (refine gG 5 ?_;refine bY HB 5 #[.string (⟨#[]⟩:ByteArray), .string (⟨#[]⟩:ByteArray)] 69 ?_;intro Gj w53 oH Uw hg hb;have vI:=yA iY hg;have Bz:=yB iY hg;replace iY:=kb iY hb;replace HB:=bz HB hb;clear hb hg;have aIi:=Bz.out;have aIj:=vI.out;have z55:=Dh oH.out)
         refine ab2 HB oH Uw ?_;intro w56 Ea hk HB;replace iY:=kf iY hk vI;clear hk oH;have oH:=Ea;clear Ea;refine rO [2,7] [0,1,2,3,4,5,6,7,8,9,10,11,12,13,14,15,16,17,18,19] (fun w'=>w'.cell? ⟨Gj,0,none⟩=some (.string ((dU aA qF).f0))∧w'.cell? ⟨Gj,1,none⟩=some (.string ((dU aA qF).f1))) ?_;intro w57 hb;replace iY:=kb iY hb;replace oH:=kb oH hb;replace HB:=bs HB hb;refine⟨sx,?_⟩;repeat(first|refine Bv ?_|refine V8 ?_)
         refine rB Tryz.func200 (lq.calls A23.out) ?_;intro w58 hb;replace iY:=kb iY hb;replace oH:=kb oH hb;replace HB:=bz HB hb;clear hb;refine⟨sx,?_⟩;repeat(first|refine Bv ?_|refine V8 ?_)
         refine rA Tryz.func201 (uF.calls A25.out) ?_;intro nd;refine⟨sx,?_⟩;repeat(first|refine Bv ?_|refine V8 ?_)
         refine on ?_;try go_wp2
         go_ret;exact⟨er,bb⟩
       ·obtain rfl:=s1 H;have z59:=iQ iY.out;have LP:=zi qF;have LQ:=zj qF aA.length;obtain⟨NY,aco,Aj,Ak⟩:=qW jK.out qF LP LQ;cases aco;replace Aj:=cl HB.out Aj;replace Ak:=cl HB.out Ak;replace LP:=eq_true LP;replace LQ:=eq_true LQ;try go_wp2_with (refine gG 5 ?_;refine bY HB 5 #[.string (⟨#[]⟩:ByteArray), .string (⟨#[]⟩:ByteArray)] 69 ?_;intro Gj WV oH Uw hg hb;have vI:=yA iY hg;have Bz:=yB iY hg;replace iY:=kb iY hb;replace HB:=bz HB hb;clear hb hg;have aIk:=Bz.out;have aIl:=vI.out;have z62:=Dh oH.out)
        refine ab2 HB oH Uw ?_;intro w63 Ea hk HB;replace iY:=kf iY hk vI;clear hk oH;have oH:=Ea;clear Ea;refine rO [2] [0,1,2,3,4,5,6,7,8,9,10,11,12,13,14,15,16,17,18,19] (fun w'=>w'.cell? ⟨Gj,0,none⟩=some (.string ((dU aA qF).f0))∧w'.cell? ⟨Gj,1,none⟩=some (.string ((dU aA qF).f1))) ?_;intro w64 hb;replace iY:=kb iY hb;replace oH:=kb oH hb;replace HB:=bs HB hb;refine⟨sx,?_⟩;repeat(first|refine Bv ?_|refine V8 ?_)
        refine rB Tryz.func200 (lq.calls A23.out) ?_;intro w65 hb;replace iY:=kb iY hb;replace oH:=kb oH hb;replace HB:=bz HB hb;clear hb;refine⟨sx,?_⟩;repeat(first|refine Bv ?_|refine V8 ?_)
        refine on ?_;try go_wp2
        go_ret;exact⟨er,bb⟩
      ·obtain rfl:=s1 H;have z66:=iQ iY.out;go_wp2;go_ret;exact⟨er,bb⟩
mutual
def bC.l0:Nat→ByteArray→Bool→Bool→ByteArray→ByteArray→List (fP)→Option (ByteArray×ByteArray×(List (fP))×Bool)
 |0,_,_,_,_,_,_=>none
 |k+1,x5,x6,x9,G6,G7,E8=>if x6=true then((jL.f k x5 59).bind fun Ux=>((bM.f k Ux.1).bind fun axq=>((jL.f k axq 61).bind fun aaH=>((bM.f k aaH.2.1).bind fun axr=>((fO.f k axr).bind fun aaI=>(if aaH.2.2=true then(if aaI.2=true then(bC.j1 k Ux.2.1 Ux.2.2 x9 aaH.1 aaI.1 ((aaI.1.length:Int) !=1) G6 G7 E8)else(bC.j1 k Ux.2.1 Ux.2.2 x9 aaH.1 aaI.1 true G6 G7 E8))else(bC.j1 k Ux.2.1 Ux.2.2 x9 aaH.1 aaI.1 true G6 G7 E8)))))))else(if x9=true then((dD.f k G6 G7 E8).bind fun axt=>(if axt=true then(some (G6,G7,E8,true))else(some ((⟨#[]⟩:ByteArray),(⟨#[]⟩:ByteArray),([]:List (fP)),false))))else(some ((⟨#[]⟩:ByteArray),(⟨#[]⟩:ByteArray),([]:List (fP)),false)))
def bC.j1:Nat→ByteArray→Bool→Bool→ByteArray→List ByteArray→Bool→ByteArray→ByteArray→List (fP)→Option (ByteArray×ByteArray×(List (fP))×Bool)
 |0,_,_,_,_,_,_,_,_,_=>none
 |k+1,x5,x6,x9,x12,x15,x69,G6,G7,E8=>if x69=true then(some ((⟨#[]⟩:ByteArray),(⟨#[]⟩:ByteArray),([]:List (fP)),false))else((bM.f k x12).bind fun asK=>((iU.f asK).bind fun ag_=>(if 0<(x15.length:Int)then(if E8.length<4398046511104 then(bC.l0 k x5 x6 x9 G6 G7 (E8++[(⟨ag_,qH ByteArray.empty x15 0⟩:fP)]))else(none))else(none))))
end
def bC.f (k:Nat) (a0:ByteArray):Option (ByteArray×ByteArray×(List (fP))×Bool):=(aQ.f k a0).bind fun axu=>(if axu=true then((jL.f k a0 59).bind fun ajl=>((bM.f k ajl.1).bind fun axv=>((jL.f k axv 47).bind fun ajm=>((iU.f ajm.1).bind fun Yu=>((iU.f ajm.2.1).bind fun Yv=>(bC.l0 k ajl.2.1 ajl.2.2 ajm.2.2 Yu Yv ([]:List (fP))))))))else(some ((⟨#[]⟩:ByteArray),(⟨#[]⟩:ByteArray),([]:List (fP)),false)))
def bC.T13:Bool×List (List Nat×List Nat):=(true,[([],[]),([0],[0]),([],[]),([2],[2]),([3,3],[3]),([],[]),([5],[5]),([6],[6]),([4,7],[4,7]),([8],[8]),([1,9,4],[1,9]),([0,1,2,3,4,5,6,7,8,9,10],[]),([11,10,10,0,1,2,3,4,5,6,7,8,9,10],[10,11])])
def bC.B13:List Nat:=[0,1,0,4,12,0,32,96,252,508,1023,2047,4095]
theorem bC.ajn:wM .any (opsOf Tryz.f155 13)=bC.T13:=by kernel_rfl
theorem bC.acp:sO bC.T13.2 bC.B13=true:=by kernel_rfl
theorem bC.calls {k:Nat} {a0 r1 r2:ByteArray} {r3:List (fP)} {r4:Bool} {w:World} (h:bC.f k a0=some (r1,r2,r3,r4)):
  Calls Tryz.prog 155 #[.string a0] w fun e w'=>∃DY:Value,e= .returned (.tuple #[.agg #[.string r1, .string r2,DY], .bool r4])∧Kd.R ou 69 w' w.heap.size (fun _=>True) DY r3∧Below w.heap.size w w':=by
 have aan:=Tryz.underlying61;have Gh:=Tryz.underlying69;have HB:=ak (Below.refl w.heap.size w);unfold bC.f at h;have H:=h;clear h;replace H:=bd H;obtain⟨axu,A2,H⟩:=H;replace H:=sb H;rcases H with⟨rfl,H⟩|⟨rfl,H⟩
 ·replace H:=bd H;obtain⟨⟨aL1,aL2,aL3⟩,A4,H⟩:=H
  (try dsimp only at H);replace H:=bd H;obtain⟨axv,A5,H⟩:=H;replace H:=bd H;obtain⟨⟨aL4,aL5,axw⟩,A6,H⟩:=H
  (try dsimp only at H);replace H:=bd H;obtain⟨Yu,A7,H⟩:=H;replace H:=bd H;obtain⟨Yv,A8,H⟩:=H;have H':=ak H;clear H;go_enter Tryz.func155,Tryz.ntmps155;go_wp2_with (first|(refine gG 2 ?_;refine bX HB 2 #[.string (⟨#[]⟩:ByteArray), .string (⟨#[]⟩:ByteArray), .slice none 0 0] 61 ?_;intro NZ w9 nS axx hb;replace HB:=bs HB hb;clear hb)|(refine gD Tryz.func159 (aQ.calls A2.out) ?_;intro w9 hb;replace nS:=kb nS hb;replace HB:=bz HB hb;clear hb)|(refine gD Tryz.func178 (jL.calls A4.out) ?_;intro w9 hb;replace nS:=kb nS hb;replace HB:=bz HB hb;clear hb)|(refine gD Tryz.func179 (bM.calls A5.out) ?_;intro w9 hb;replace nS:=kb nS hb;replace HB:=bz HB hb;clear hb)|(refine gD Tryz.func178 (jL.calls A6.out) ?_;intro w9 hb;replace nS:=kb nS hb;replace HB:=bz HB hb;clear hb)|(refine gB Tryz.func180 (iU.calls A7.out) ?_;intro w10 hb;replace nS:=kb nS hb;replace HB:=bz HB hb;clear hb)|(refine gB Tryz.func180 (iU.calls A8.out) ?_;intro V6 hb;replace nS:=kb nS hb;replace HB:=bz HB hb;clear hb)|(refine gG 10 ?_;refine bY HB 10 #[.string (⟨#[]⟩:ByteArray), .string (⟨#[]⟩:ByteArray), .slice none 0 0] 61 ?_;intro Uy w12 qA aIm hg hb;have DJ:=yA nS hg;have DK:=yB nS hg;replace nS:=kb nS hb;replace HB:=bz HB hb;clear hb hg;have ajo:=DK.out;have ajp:=DJ.out;have z14:=iQ qA.out))
  go_loopg [5,6] k (fun kq v5 v6 w'=>∃(fD:ByteArray) (fE:Bool) (JW:ByteArray) (JX:ByteArray) (zK:List (fP)) (Dv:Value),v5= .string fD∧v6= .bool fE∧ah (bC.l0 kq fD fE axw Yu Yv zK=some (r1,r2,r3,r4))∧ah (kq≤k)∧ah (Kd.R ou 69 w' w.heap.size (fun _=>True) Dv zK)∧ah (w'.heap[NZ]? =some (.cells #[.string JW, .string JX,(.slice none 0 0)] 61 (0,0)))∧ah (w'.heap[Uy]? =some (.cells #[.string Yu, .string Yv,Dv] 61 (0,0)))∧ah (Below w.heap.size w w'))
  case atStart=>exact⟨_,_,_,_,_,_,rs,rs,H',⟨Nat.le_refl _⟩,⟨nx⟩,⟨bq⟩,⟨bq⟩,⟨bb⟩⟩
  case round=>
   clear H';obtain⟨fD,fE,JW,JX,zK,Dv,rfl,rfl,HA,xK,jW,nS,qA,HB⟩:=hrel
   cases gk with
   |zero=>exact zz HA.out
   |succ k1=>
    obtain⟨H⟩:=HA;simp only[bC.l0]at H;replace H:=sb H;rcases H with⟨rfl,H⟩|⟨rfl,H⟩
    ·replace H:=bd H;obtain⟨⟨aL6,aE1,aE2⟩,A16,H⟩:=H
     (try dsimp only at H);replace H:=bd H;obtain⟨axq,A17,H⟩:=H;replace H:=bd H;obtain⟨⟨axy,aL7,aL8⟩,A18,H⟩:=H
     (try dsimp only at H);replace H:=bd H;obtain⟨axr,A19,H⟩:=H;replace H:=bd H;obtain⟨⟨Wh,aL9⟩,A20,H⟩:=H
     (try dsimp only at H);have asL:=ak H;clear H;go_upto_region 11 with(first|(refine gA Tryz.func178 (jL.calls A16.out) ?_;intro nd)|(refine gA Tryz.func179 (bM.calls A17.out) ?_;intro nd)|(refine gA Tryz.func178 (jL.calls A18.out) ?_;intro nd)|(refine gA Tryz.func179 (bM.calls A19.out) ?_;intro nd)|(refine gV Tryz.func181 (fO.calls A20.out) ?_;rintro aE3 w22 ⟨ho0,hb⟩;have aeP:=ak (Kd.aG ho0 (aj bb));replace jW:=rb jW hb;replace nS:=kb nS hb;replace qA:=kb qA hb;replace HB:=bz HB hb;clear hb;(try clear ho0)))
     (try simp only[Act.put,zW,zX,l_c]);go_cut [69] (fun v69 wc=>∃(kq:Nat) (acr:Bool),v69= .bool acr∧ah (bC.j1 kq aE1 aE2 axw axy Wh acr Yu Yv zK=some (r1,r2,r3,r4))∧ah (kq≤k1)∧ah (Kd.R Kd.string 9 wc w.heap.size (fun _=>True) aE3 Wh)∧ah (Kd.R ou 69 wc w.heap.size (fun _=>True) Dv zK)∧ah (wc.heap[NZ]? =some (.cells #[.string JW, .string JX,(.slice none 0 0)] 61 (0,0)))∧ah (wc.heap[Uy]? =some (.cells #[.string Yu, .string Yv,Dv] 61 (0,0)))∧ah (Below w.heap.size w wc))
     case first=>
      have H:=asL.out;clear asL;replace H:=sb H;rcases H with⟨rfl,H⟩|⟨rfl,H⟩
      ·replace H:=sb H;rcases H with⟨rfl,H⟩|⟨rfl,H⟩
       ·have H':=ak H;clear H;obtain⟨ajq,ajr,acs⟩:=Kd.aH aeP.out;subst acs;go_wp2;go_meet
        case rel=>exact⟨_,_,rs,H',⟨kl⟩,⟨ur aeP.out⟩,⟨ur jW.out⟩,⟨ub nS.out⟩,⟨ub qA.out⟩,⟨bb⟩⟩
       ·have H':=ak H;clear H;go_wp2;go_meet
        case rel=>exact⟨_,_,rs,H',⟨kl⟩,⟨ur aeP.out⟩,⟨ur jW.out⟩,⟨ub nS.out⟩,⟨ub qA.out⟩,⟨bb⟩⟩
      ·have H':=ak H;clear H;go_wp2;go_meet
       case rel=>exact⟨_,_,rs,H',⟨kl⟩,⟨ur aeP.out⟩,⟨ur jW.out⟩,⟨ub nS.out⟩,⟨ub qA.out⟩,⟨bb⟩⟩
     case rest=>
      clear asL;obtain⟨kq,acr,rfl,HA,axz,KT,jW,nS,qA,HB⟩:=hcut
      cases kq with
      |zero=>exact zz HA.out
      |succ aE4=>
       obtain⟨H⟩:=HA;simp only[bC.j1]at H;replace H:=sb H;rcases H with⟨rfl,H⟩|⟨rfl,H⟩
       ·obtain⟨rfl,rfl,rfl,rfl⟩:=s4 H;have ad8:=DJ.out;have ad9:=DK.out;have aiB:=iQ nS.out;go_wp2;refine bodyPost_ret (jh rfl _ _ NZ 61 #[.string (⟨#[]⟩:ByteArray), .string (⟨#[]⟩:ByteArray), .slice none 0 0] (0,0) _ rfl bq Tryz.underlying61 rfl (by kernel_rfl)) rfl ?_;exact⟨_,er,nx,bb⟩
       ·replace H:=bd H;obtain⟨asK,A29,H⟩:=H;replace H:=bd H;obtain⟨ag_,A30,H⟩:=H;replace H:=nn H;obtain⟨c31,H⟩:=H;have ajs:=decide_eq_true c31;have ajt:decide (0<Wh.length)=true:=decide_eq_true (by omega);clear c31;replace H:=nl H;obtain⟨axA,H⟩:=H;obtain⟨aL_,apt⟩:=nm (zK++[(⟨ag_,qH ByteArray.empty Wh 0⟩:fP)]);rw[←apt.out]at H;have H':=ak H;clear H;try go_wp2
        replace KT:=ak (Kd.mg KT.out);replace jW:=ak (Kd.mg jW.out);replace nS:=ak (gZ nS.out);replace qA:=ak (gZ qA.out);replace HB:=ak (gI HB.out);obtain⟨aiM,aiN,abZ⟩:=Kd.aH KT.out
        (first|subst abZ|(injection abZ with nO uy nP;have uz:=nO.symm;have uD:=nP.symm;clear nO uy nP;subst uz;subst uD));have asM:0≤(0:Int):=(by omega)
        have asN:0<(Wh.length:Int):=of_decide_eq_true (by assumption);obtain⟨axB,aE5,Tz⟩:=Kd.jT (Kd.aK KT.out).2.2 0 asM asN;cases aE5;have aIn:(0<Wh.length)=True:=eq_true (by omega)
        (try rw[show((0:Int)).toNat=0 from rfl]at Tz)
        (try rw[Addr.add_zero']at Tz);replace asM:=eq_true asM;replace asN:=eq_true asN;refine zZ (n:=13) (S:=fun w'=>w'.cell? ⟨Uy,0,none⟩=some (.string Yu)∧w'.cell? ⟨Uy,1,none⟩=some (.string Yv)∧w'.cell? ⟨Uy,2,none⟩=some (Dv)∧w'.cell? axB=some (.string (qH ByteArray.empty Wh 0))) (ds:=[10,12]) #[false,false,false,false,false,false,false,false,false,false,false,false,false] (by kernel_rfl) rfl rfl ⟨(ay qA.out 0).trans rfl,(ay qA.out 1).trans rfl,(ay qA.out 2).trans rfl,Tz⟩ (fun hHeld=>?_);refine rM bC.ajn bC.acp (fun CY HW_=>?_)
        generalize wc.drew=w33 at KT jW nS qA HB Tz hHeld⊢
        refine pl 0 ?_;refine pl 2 ?_;refine pl 5 ?_;refine pl 6 ?_;refine tk 1 ?_;refine tk 7 ?_;refine o1 3 (fun K hK=>?_);refine xw Tryz.func179 (by kernel_rfl) rfl #[.string axy] (by rfl) rfl rfl ma ?_
        with_reducible refine(bM.calls A29.out).mono ?_
        rintro e w' ⟨rfl,⟨nd,rfl⟩⟩;refine⟨_,rfl,?_⟩;refine hK.out _ _ ⟨(ay qA.out 0).trans rfl,(ay qA.out 1).trans rfl,(ay qA.out 2).trans rfl,hHeld.2.2.2⟩ (fun hHeld=>?_);clear hK K;refine nrm ?_;refine o1 4 (fun K hK=>?_);refine xw Tryz.func180 (by kernel_rfl) rfl #[.string asK] (by rfl) rfl rfl ma ?_
        with_reducible refine(iU.calls A30.out).mono ?_
        rintro e w35 ⟨rfl,hb⟩;have asO:=(hb.cell (World.block_lt_of_cell? _ _ (hHeld.2.2.2))).trans (hHeld.2.2.2);refine⟨_,rfl,?_⟩;replace KT:=rb KT hb;replace jW:=rb jW hb;replace nS:=kb nS hb;replace qA:=kb qA hb;replace HB:=bz HB hb;try clear hb
        refine hK.out _ _ ⟨(ay qA.out 0).trans rfl,(ay qA.out 1).trans rfl,(ay qA.out 2).trans rfl,asO⟩ (fun hHeld=>?_);clear hK K;refine nrm ?_;refine pl 8 ?_;refine o1 9 (fun K hK=>?_);refine D8 (w1:=?_) (v:=?_) (by rfl) rfl ?_ ?_
        rotate_left 2
        ·go_simp;constructor
         ·rfl
         ·rfl
        refine hK.out _ _ ⟨(ay (iH qA.out _) 0).trans rfl,(ay (iH qA.out _) 1).trans rfl,(ay (iH qA.out _) 2).trans rfl,(World.cell?_alloc_lt _ _ _ (World.block_lt_of_cell? _ _ (hHeld.2.2.2))).trans (hHeld.2.2.2)⟩ (fun hHeld=>?_);clear hK K;refine nrm ?_;refine Ii (i:=10) (N:=some 81) #[true,true,true,true,true,true,true,true,true,true,true,false,false] rfl rfl (Bq CY.out (by kernel_rfl)) (by decide) (fun K hK=>?_);refine Kd.oD ou (w0:=w) w.heap.size (by rfl) (.tmp 72) (.tmp 80) 25 69 (.agg #[(.string ⟨#[]⟩),(.string ⟨#[]⟩)]) 32 rfl Tryz.underlying25 DX rfl (by decide) (by omega) Dv zK (⟨ag_,qH ByteArray.empty Wh 0⟩:fP) [.string ag_, .string (qH ByteArray.empty Wh 0)] (fun _=>True) (fun _=>False) rfl rfl ?aP (fun _ hk=>hk.elim) ?aF ?aO ?aB ?aS ?aL ?_
        (case aP=>exact y5 _ _ _ (⟨ag_,qH ByteArray.empty Wh 0⟩:fP))
        (case aB=>exact bb)
        (case aF=>exact(fun _ _=>trivial))
        (case aO=>exact(ur jW.out))
        (case aS=>exact(aj bb))
        (case aL=>have:=axA.out;omega);intro aMa w36 ho hb hg hat
        rw[←apt.out]at ho;have y9:=ak (Kd.pq (ur KT.out) (Kd.jE (ur jW.out)) (by decide) hg);have zf:=ak (bD (g:=NZ) (o:= .cells #[.string JW, .string JX, .slice none 0 0] 61 (0,0)) (ub nS.out) hg (Kd.pz jW.out nS.out (by decide)));have zY:=ak (bD (g:=Uy) (o:= .cells #[.string Yu, .string Yv,Dv] 61 (0,0)) (ub qA.out) hg (Kd.pz jW.out qA.out (by decide)));have CP:=ak (hb);have F7:=ak (ho);clear KT nS qA HB jW;have KT:=y9;have nS:=zf;have qA:=zY;have HB:=CP;have axC:=F7;clear y9 zf zY CP F7 ho hb hg hat
        obtain⟨ag2,ag3,Yj⟩:=Kd.aH axC.out
        (first|subst Yj|(injection Yj with nO uy nP;have uz:=nO.symm;have uD:=nP.symm;clear nO uy nP;subst uz;subst uD));refine hK.out _ _ ?_;clear hK K;refine Bc (a':=?_) ?_ ?_
        rotate_left
        ·show Act.put _ (some 81) _=_
         simp only[Act.put,zW,zX,l_c,jo,lg];rfl
        refine pl 11 ?_;refine Ii (i:=12) (N:=none) #[true,true,true,true,true,true,true,true,true,true,true,true,true] rfl rfl (Bq CY.out (by kernel_rfl)) (by decide) (fun K hK=>?_);have aMb:w36.cell? ⟨Uy,2,none⟩=some (Dv):=(ay qA.out 2).trans rfl;have aIo:=fK qA.out 2;have aDf:=DJ.out;have aDg:=DK.out;refine EX (w1:=?_) (by rfl) rfl ?_ ?_
        rotate_left
        ·go_simp;rfl
        refine hK.out _ _ ?_;clear hK K;refine EY (xu CY.out (by kernel_rfl)) ?_;try go_wp2
        go_roundg aE4
        case measure=>have:=xK.out;have:=axz.out;omega
        case rel=>exact⟨_,_,_,_,_,_,rs,rs,H',⟨by have:=xK.out;have:=axz.out;omega⟩,⟨rr⟩,⟨bq⟩,⟨bq⟩,⟨bb⟩⟩
    ·replace H:=sb H;rcases H with⟨rfl,H⟩|⟨rfl,H⟩
     ·replace H:=bd H;obtain⟨axt,A40,H⟩:=H;replace H:=sb H;rcases H with⟨rfl,H⟩|⟨rfl,H⟩
      ·obtain⟨rfl,rfl,rfl,rfl⟩:=s4 H;have axD:=DK.out;have axE:=DJ.out;have z43:=iQ qA.out;obtain⟨ai6,ai7,ag4⟩:=Kd.aH jW.out;subst ag4;go_wp2_with (go_at_call 182;refine mB (dD.calls (cu ((Kd.aK jW.out).2.2)) ((Kd.aK jW.out).2.1) A40.out) ?_;intro w45 hb;replace jW:=rb jW hb;replace nS:=kb nS hb;replace qA:=kb qA hb;replace HB:=bz HB hb;clear hb;have z46:=iQ qA.out;have z47:=iQ nS.out)
       refine bodyPost_ret (jh rfl _ _ NZ 61 #[.string Yu, .string Yv, .slice ai6 zK.length ai7] (0,0) _ rfl bq Tryz.underlying61 rfl (by kernel_rfl)) rfl ?_;exact⟨_,er,rr,bb⟩
      ·obtain⟨rfl,rfl,rfl,rfl⟩:=s4 H;have apu:=DK.out;have apv:=DJ.out;have z49:=iQ qA.out;obtain⟨G8,G9,asP⟩:=Kd.aH jW.out;subst asP;go_wp2_with (go_at_call 182;refine mB (dD.calls (cu ((Kd.aK jW.out).2.2)) ((Kd.aK jW.out).2.1) A40.out) ?_;intro w51 hb;replace jW:=rb jW hb;replace nS:=kb nS hb;replace qA:=kb qA hb;replace HB:=bz HB hb;clear hb;have z52:=iQ nS.out)
       refine bodyPost_ret (jh rfl _ _ NZ 61 #[.string (⟨#[]⟩:ByteArray), .string (⟨#[]⟩:ByteArray), .slice none 0 0] (0,0) _ rfl bq Tryz.underlying61 rfl (by kernel_rfl)) rfl ?_;exact⟨_,er,nx,bb⟩
     ·obtain⟨rfl,rfl,rfl,rfl⟩:=s4 H;have axF:=DJ.out;have axG:=DK.out;have z54:=iQ nS.out;go_wp2;refine bodyPost_ret (jh rfl _ _ NZ 61 #[.string (⟨#[]⟩:ByteArray), .string (⟨#[]⟩:ByteArray), .slice none 0 0] (0,0) _ rfl bq Tryz.underlying61 rfl (by kernel_rfl)) rfl ?_;exact⟨_,er,nx,bb⟩
 ·obtain⟨rfl,rfl,rfl,rfl⟩:=s4 H;go_enter Tryz.func155,Tryz.ntmps155;go_wp2_with (first|(refine gG 2 ?_;refine bX HB 2 #[.string (⟨#[]⟩:ByteArray), .string (⟨#[]⟩:ByteArray), .slice none 0 0] 61 ?_;intro NZ w55 nS axx hb;replace HB:=bs HB hb;clear hb)|(refine gD Tryz.func159 (aQ.calls A2.out) ?_;intro w55 hb;replace nS:=kb nS hb;replace HB:=bz HB hb;clear hb;have z56:=iQ nS.out))
  refine bodyPost_ret (jh rfl _ _ NZ 61 #[.string (⟨#[]⟩:ByteArray), .string (⟨#[]⟩:ByteArray), .slice none 0 0] (0,0) _ rfl bq Tryz.underlying61 rfl (by kernel_rfl)) rfl ?_;exact⟨_,er,nx,bb⟩
mutual
def b_.l0:Nat→ByteArray→Int→Option (Bool)
 |0,_,_=>none
 |k+1,x0,x3=>if x3<(x0.size:Int)then(b_.j1 k x0 x3 (decide (x3≤20)))else(b_.j1 k x0 x3 false)
def b_.j1:Nat→ByteArray→Int→Bool→Option (Bool)
 |0,_,_,_=>none
 |k+1,x0,x3,x11=>if x11=true then(if 0≤x3 then(if x3<(x0.size:Int)then((iC.f (bt x0 x3)).bind fun axH=>(if axH=true then(b_.l0 k x0 (wrap64 (x3+1)))else(some false)))else(none))else(none))else(if(x0.size:Int)≥1 then(some (decide ((x0.size:Int)≤20)))else(some false))
end
def b_.f (k:Nat) (a0:ByteArray):Option (Bool):=b_.l0 k a0 0
theorem b_.calls {k:Nat} {a0:ByteArray} {r:Bool} {w:World} (h:b_.f k a0=some r):
  Calls Tryz.prog 157 #[.string a0] w fun e w'=>e= .returned (.bool r)∧dO w w':=by
 unfold b_.f at h;have H:=h;clear h;have H':=ak H;clear H;go_enter Tryz.func157,Tryz.ntmps157;go_wp2;go_loopg [3] k (fun kq v3 w'=>∃(dV:Int),v3= .int .i64 dV∧ah (b_.l0 kq a0 dV=some r)∧ah (kq≤k)∧dO w w')
 case atStart=>exact⟨_,rs,H',⟨Nat.le_refl _⟩,dn⟩
 case round=>
  clear H';obtain⟨dV,rfl,HA,xK,⟨m1,rfl⟩⟩:=hrel
  cases gk with
  |zero=>exact zz HA.out
  |succ k1=>
   obtain⟨H⟩:=HA;simp only[b_.l0]at H;have HC2:=ak H;clear H;go_upto_region 2 with(fail)
   go_cut [11] (fun v11 wc=>∃(kq:Nat) (xR:Bool),v11= .bool xR∧ah (b_.j1 kq a0 dV xR=some r)∧ah (kq≤k1)∧dO w wc)
   case first=>
    have H:=HC2.out;clear HC2;replace H:=sd H;rcases H with⟨iW,H⟩|⟨iW,H⟩
    ·(first|rw[iW]|(simp only[jo,lg];rw[iW])|skip);have H':=ak H;clear H;go_wp2;go_meet
     case rel=>exact⟨_,_,rs,H',⟨kl⟩,dn⟩
    ·(first|rw[iW]|(simp only[jo,lg];rw[iW])|skip);have H':=ak H;clear H;go_wp2;go_meet
     case rel=>exact⟨_,_,rs,H',⟨kl⟩,dn⟩
   case rest=>
    clear HC2;obtain⟨kq,xR,rfl,HA,HJ1,⟨mc1,rfl⟩⟩:=hcut
    cases kq with
    |zero=>exact zz HA.out
    |succ SA=>
     obtain⟨H⟩:=HA;simp only[b_.j1]at H;replace H:=sb H;rcases H with⟨rfl,H⟩|⟨rfl,H⟩
     ·replace H:=oL H;obtain⟨oz,H⟩:=H;replace H:=oL H;obtain⟨pF,H⟩:=H;replace H:=bd H;obtain⟨axH,A8,H⟩:=H;replace H:=sb H;rcases H with⟨rfl,H⟩|⟨rfl,H⟩
      ·have H':=ak H;clear H;obtain⟨p7,q7,hx7⟩:=bx a0 dV;go_wp2_with (refine gA Tryz.func183 (iC.calls A8.out) ?_;intro nd)
       go_roundg SA
       case measure=>exact kl
       case rel=>exact⟨_,rs,H',⟨kl⟩,dn⟩
      ·obtain rfl:=s1 H;obtain⟨p7,q7,hx7⟩:=bx a0 dV;go_wp2_with (refine gA Tryz.func183 (iC.calls A8.out) ?_;intro nd)
       go_ret;exact⟨rs,dn⟩
     ·replace H:=sp H;rcases H with⟨c10,H⟩|⟨c10,H⟩
      ·have oO:decide (1≤(a0.size:Int))=true:=decide_eq_true c10;have vH:decide (1≤a0.size)=true:=decide_eq_true (by omega);clear c10;obtain rfl:=s1 H;go_wp2;go_ret;exact⟨rs,dn⟩
      ·have oO:decide (1≤(a0.size:Int))=false:=decide_eq_false c10;have vH:decide (1≤a0.size)=false:=decide_eq_false (by omega);clear c10;obtain rfl:=s1 H;go_wp2;go_ret;exact⟨rs,dn⟩
def oM.f (k:Nat) (eX:ByteArray) (fF:ByteArray) (aA:List (fP)):Option (ByteArray×Bool):=(kP.f k aA (⟨#[98,111,117,110,100,97,114,121]⟩:ByteArray)).bind fun aju=>((dD.f k eX fF aA).bind fun axI=>(if axI=true then(if eX.toList=([109,117,108,116,105,112,97,114,116]:List UInt8)then(if aju.2=true then((b_.f k aju.1).bind fun axJ=>(if axJ=true then(some (aju.1,true))else(some ((⟨#[]⟩:ByteArray),false))))else(some ((⟨#[]⟩:ByteArray),false)))else(some ((⟨#[]⟩:ByteArray),false)))else(some ((⟨#[]⟩:ByteArray),false))))
theorem oM.calls {k dI:Nat} {eX fF r1:ByteArray} {eP:Option Addr} {aA:List (fP)} {r2:Bool} {w:World} (jF:Kd.C ou w eP aA.length aA) (jG:aA.length≤dI) (h:oM.f k eX fF aA=some (r1,r2)):
  Calls Tryz.prog 156 #[.agg #[.string eX, .string fF, .slice eP aA.length dI]] w fun e w'=>e= .returned (.tuple #[.string r1, .bool r2])∧Below w.heap.size w w':=by
 have aan:=Tryz.underlying61;have jK:=ak jF;have mV:=ak jG;clear jF jG;have HB:=ak (Below.refl w.heap.size w);unfold oM.f at h;have H:=h;clear h;replace H:=bd H;obtain⟨⟨aMc,aMd⟩,A2,H⟩:=H
 (try dsimp only at H);replace H:=bd H;obtain⟨axI,A3,H⟩:=H;replace H:=sb H;rcases H with⟨rfl,H⟩|⟨rfl,H⟩
 ·replace H:=sq H;rcases H with⟨oz,NV,H⟩|⟨c5,oz,NV,H⟩
  ·replace H:=sb H;rcases H with⟨rfl,H⟩|⟨rfl,H⟩
   ·replace H:=bd H;obtain⟨axJ,A7,H⟩:=H;replace H:=sb H;rcases H with⟨rfl,H⟩|⟨rfl,H⟩
    ·obtain⟨rfl,rfl⟩:=s2 H;go_enter Tryz.func156,Tryz.ntmps156;go_wp2_with (first|(refine bX HB 1 #[.string eX, .string fF, .slice eP aA.length dI] 61 ?_;intro aeQ w9 qB aeR hb;replace HB:=bs HB hb;clear hb;have z10:=iQ qB.out)|(refine gB Tryz.func154 (kP.calls (cu (Kd.aI jK.out HB.out)) mV.out A2.out) ?_;intro V6 hb;replace qB:=kb qB hb;replace HB:=bz HB hb;clear hb;have z12:=iQ qB.out)|(refine gB Tryz.func182 (dD.calls (cu (Kd.aI jK.out HB.out)) mV.out A3.out) ?_;intro w13 hb;replace qB:=kb qB hb;replace HB:=bz HB hb;clear hb;have z14:=iQ qB.out)|(go_at_call 157;refine mA (b_.calls A7.out) ?_;intro nd))
     go_ret2;exact⟨er,bb⟩
    ·obtain⟨rfl,rfl⟩:=s2 H;go_enter Tryz.func156,Tryz.ntmps156;go_wp2_with (first|(refine bX HB 1 #[.string eX, .string fF, .slice eP aA.length dI] 61 ?_;intro aeQ w15 qB aeR hb;replace HB:=bs HB hb;clear hb;have z16:=iQ qB.out)|(refine gB Tryz.func154 (kP.calls (cu (Kd.aI jK.out HB.out)) mV.out A2.out) ?_;intro w17 hb;replace qB:=kb qB hb;replace HB:=bz HB hb;clear hb;have z18:=iQ qB.out)|(refine gB Tryz.func182 (dD.calls (cu (Kd.aI jK.out HB.out)) mV.out A3.out) ?_;intro w19 hb;replace qB:=kb qB hb;replace HB:=bz HB hb;clear hb;have z20:=iQ qB.out)|(go_at_call 157;refine mA (b_.calls A7.out) ?_;intro nd))
     go_ret2;exact⟨er,bb⟩
   ·obtain⟨rfl,rfl⟩:=s2 H;go_enter Tryz.func156,Tryz.ntmps156;go_wp2_with (first|(refine bX HB 1 #[.string eX, .string fF, .slice eP aA.length dI] 61 ?_;intro aeQ w21 qB aeR hb;replace HB:=bs HB hb;clear hb;have z22:=iQ qB.out)|(refine gB Tryz.func154 (kP.calls (cu (Kd.aI jK.out HB.out)) mV.out A2.out) ?_;intro w23 hb;replace qB:=kb qB hb;replace HB:=bz HB hb;clear hb;have z24:=iQ qB.out)|(refine gB Tryz.func182 (dD.calls (cu (Kd.aI jK.out HB.out)) mV.out A3.out) ?_;intro w25 hb;replace qB:=kb qB hb;replace HB:=bz HB hb;clear hb;have z26:=iQ qB.out))
    go_ret2;exact⟨er,bb⟩
  ·obtain⟨rfl,rfl⟩:=s2 H;go_enter Tryz.func156,Tryz.ntmps156;go_wp2_with (first|(refine bX HB 1 #[.string eX, .string fF, .slice eP aA.length dI] 61 ?_;intro aeQ w27 qB aeR hb;replace HB:=bs HB hb;clear hb;have aiB:=iQ qB.out)|(refine gB Tryz.func154 (kP.calls (cu (Kd.aI jK.out HB.out)) mV.out A2.out) ?_;intro w29 hb;replace qB:=kb qB hb;replace HB:=bz HB hb;clear hb;have z30:=iQ qB.out)|(refine gB Tryz.func182 (dD.calls (cu (Kd.aI jK.out HB.out)) mV.out A3.out) ?_;intro w31 hb;replace qB:=kb qB hb;replace HB:=bz HB hb;clear hb;have z32:=iQ qB.out))
   go_ret2;exact⟨er,bb⟩
 ·obtain⟨rfl,rfl⟩:=s2 H;go_enter Tryz.func156,Tryz.ntmps156;go_wp2_with (first|(refine bX HB 1 #[.string eX, .string fF, .slice eP aA.length dI] 61 ?_;intro aeQ w33 qB aeR hb;replace HB:=bs HB hb;clear hb;have z34:=iQ qB.out)|(refine gB Tryz.func154 (kP.calls (cu (Kd.aI jK.out HB.out)) mV.out A2.out) ?_;intro w35 hb;replace qB:=kb qB hb;replace HB:=bz HB hb;clear hb;have z36:=iQ qB.out)|(refine gB Tryz.func182 (dD.calls (cu (Kd.aI jK.out HB.out)) mV.out A3.out) ?_;intro w37 hb;replace qB:=kb qB hb;replace HB:=bz HB hb;clear hb))
  go_ret2;exact⟨er,bb⟩
def kW.f (k:Nat) (l0:List (fP)):Option (ByteArray×Bool):=(kP.f k l0 (⟨#[67,111,110,116,101,110,116,45,84,121,112,101]⟩:ByteArray)).bind fun apw=>((bC.f k apw.1).bind fun aeS=>((oM.f k aeS.1 aeS.2.1 aeS.2.2.1).bind fun aeT=>(if apw.2=true then(if aeS.2.2.2=true then(some (aeT.1,aeT.2))else(some (aeT.1,false)))else(some (aeT.1,false)))))
theorem kW.calls {k c0:Nat} {A0:Option Addr} {l0:List (fP)} {r1:ByteArray} {r2:Bool} {w:World} (hr0:Kd.C ou w A0 l0.length l0) (hc0:l0.length≤c0) (h:kW.f k l0=some (r1,r2)):
  Calls Tryz.prog 108 #[.slice A0 l0.length c0] w fun e w'=>e= .returned (.tuple #[.string r1, .bool r2])∧Below w.heap.size w w':=by
 have aan:=Tryz.underlying61;have HR0:=ak hr0;have zH:=ak hc0;clear hr0 hc0;have HB:=ak (Below.refl w.heap.size w);unfold kW.f at h;have H:=h;clear h;replace H:=bd H;obtain⟨⟨aMe,aMf⟩,A2,H⟩:=H
 (try dsimp only at H);replace H:=bd H;obtain⟨⟨asQ,asR,aha,aMg⟩,A3,H⟩:=H
 (try dsimp only at H);replace H:=bd H;obtain⟨⟨aMh,aMi⟩,A4,H⟩:=H
 (try dsimp only at H);replace H:=sb H;rcases H with⟨rfl,H⟩|⟨rfl,H⟩
 ·replace H:=sb H;rcases H with⟨rfl,H⟩|⟨rfl,H⟩
  ·obtain⟨rfl,rfl⟩:=s2 H;go_enter Tryz.func108,Tryz.ntmps108;go_wp2_with (first|(refine gB Tryz.func154 (kP.calls (cu HR0.out) zH.out A2.out) ?_;intro w7 hb;replace HB:=bs HB hb;clear hb)|(refine gV Tryz.func155 (bC.calls A3.out) ?_;rintro axK w8 ⟨ho0,hb⟩;have xX:=ak (Kd.aG ho0 (aj (ul HB.out)));replace HB:=bs HB hb;clear hb;(try clear ho0))|(refine bX HB 6 #[.string (⟨#[]⟩:ByteArray), .string (⟨#[]⟩:ByteArray), .slice none 0 0] 61 ?_;intro apx w9 Jc apy hb;replace xX:=rb xX hb;replace HB:=bs HB hb;clear hb;have z10:=iQ Jc.out;obtain⟨wO,vV,G_⟩:=Kd.aH xX.out;subst G_)|(refine gB Tryz.func156 (oM.calls ?eF ((Kd.aK xX.out).2.1) A4.out) ?_;(case eF=>refine(Kd.aK (e:=69) (base:=w.heap.size) (ok:=fun k_=>True) (n:=aha.length) (c:=vV) ?_).2.2;exact(rh xX));intro w12 hb;replace xX:=rg xX hb;replace Jc:=kp Jc #[.string asQ, .string asR, .slice wO aha.length vV] hb;replace HB:=bz HB hb;clear hb))
   go_ret2;exact⟨er,bb⟩
  ·obtain⟨rfl,rfl⟩:=s2 H;go_enter Tryz.func108,Tryz.ntmps108;go_wp2_with (first|(refine gB Tryz.func154 (kP.calls (cu HR0.out) zH.out A2.out) ?_;intro w13 hb;replace HB:=bs HB hb;clear hb)|(refine gV Tryz.func155 (bC.calls A3.out) ?_;rintro axK V3 ⟨ho0,hb⟩;have xX:=ak (Kd.aG ho0 (aj (ul HB.out)));replace HB:=bs HB hb;clear hb;(try clear ho0))|(refine bX HB 6 #[.string (⟨#[]⟩:ByteArray), .string (⟨#[]⟩:ByteArray), .slice none 0 0] 61 ?_;intro apx w15 Jc apy hb;replace xX:=rb xX hb;replace HB:=bs HB hb;clear hb;have z16:=iQ Jc.out;obtain⟨Kz,IZ,aal⟩:=Kd.aH xX.out;subst aal)|(refine gB Tryz.func156 (oM.calls ?eF ((Kd.aK xX.out).2.1) A4.out) ?_;(case eF=>refine(Kd.aK (e:=69) (base:=w.heap.size) (ok:=fun k_=>True) (n:=aha.length) (c:=IZ) ?_).2.2;exact(rh xX));intro w18 hb;replace xX:=rg xX hb;replace Jc:=kp Jc #[.string asQ, .string asR, .slice Kz aha.length IZ] hb;replace HB:=bz HB hb;clear hb))
   go_ret2;exact⟨er,bb⟩
 ·obtain⟨rfl,rfl⟩:=s2 H;go_enter Tryz.func108,Tryz.ntmps108;go_wp2_with (first|(refine gB Tryz.func154 (kP.calls (cu HR0.out) zH.out A2.out) ?_;intro w19 hb;replace HB:=bs HB hb;clear hb)|(refine gV Tryz.func155 (bC.calls A3.out) ?_;rintro axK w20 ⟨ho0,hb⟩;have xX:=ak (Kd.aG ho0 (aj (ul HB.out)));replace HB:=bs HB hb;clear hb;(try clear ho0))|(refine bX HB 6 #[.string (⟨#[]⟩:ByteArray), .string (⟨#[]⟩:ByteArray), .slice none 0 0] 61 ?_;intro apx w21 Jc apy hb;replace xX:=rb xX hb;replace HB:=bs HB hb;clear hb;have z22:=iQ Jc.out;obtain⟨Wi,Uz,asT⟩:=Kd.aH xX.out;subst asT)|(refine gB Tryz.func156 (oM.calls ?eF ((Kd.aK xX.out).2.1) A4.out) ?_;(case eF=>refine(Kd.aK (e:=69) (base:=w.heap.size) (ok:=fun k_=>True) (n:=aha.length) (c:=Uz) ?_).2.2;exact(rh xX));intro w24 hb;replace xX:=rg xX hb;replace Jc:=kp Jc #[.string asQ, .string asR, .slice Wi aha.length Uz] hb;replace HB:=bz HB hb;clear hb))
  go_ret2;exact⟨er,bb⟩
end Go.Proofs.YtncdadcmghglkaaGreatDoor.PFnPartAt
