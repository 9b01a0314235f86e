/- Printed walks; conditions: those in each statement. -/
import Derived.Test.YtncdadcmghglkaaGreatDoorVFnParseBodyQt
import Derived.Test.YtncdadcmghglkaaGreatDoorProg
import Derived.Test.YtncdadcmghglkaaGreatDoorVFnParseBodyXt
import Derived.Below
import Derived.Deep.Draws
import Derived.Deep.AppendLies
import Derived.Maps.AppendAt
import Derived.OwnWalk
import Derived.Laws.BytesArg
import Derived.Laws.MakeOwn
import Derived.Laws.OwnMore
import Derived.Deep.OwnRows
import Derived.Tactics
import Derived.Lib.ConvBytes
import Derived.Lib.SliceRun
import Derived.Laws.Slices
import Derived.WalkKit
import Derived.KernelRfl
import Derived.RowKit3
import Derived.Deep.LoopGhost
import Derived.Deep.QuietTactic
import Derived.BigQuiet
import Derived.WideLaws
import Derived.Deep.DeepCutAuto
import Derived.Deep.CutBlock
import Derived.Deep.RegionHeld3
import Derived.Laws.Rows
import Derived.Lib.AppendStr
import Derived.ArgAppend
import Derived.Laws.IdiomCopy
import Derived.OrdersHeld
import Derived.Laws.BitsLemmas
import Derived.RowKit
import Derived.Test.YtncdadcmghglkaaGreatDoorMx
import Derived.Test.YtncdadcmghglkaaGreatDoorVFnParseBodyWords
import Derived.Test.YtncdadcmghglkaaGreatDoorVFnParseBodyLast
import Derived.Test.YtncdadcmghglkaaGreatDoorVFnParseBodyTab
import Derived.Test.YtncdadcmghglkaaGreatDoorVFnParseBodyApart
import Derived.Test.YtncdadcmghglkaaGreatDoorVFnParseBodyFoot
import Derived.Test.YtncdadcmghglkaaGreatDoorVFnParseBodyKept
import Derived.Test.YtncdadcmghglkaaGreatDoorVFnParseBodyShare
import Derived.Test.YtncdadcmghglkaaGreatDoorVFnParseBodyN
import Derived.Test.YtncdadcmghglkaaGreatDoorVFnParseBodyEqStruct
import Derived.Test.YtncdadcmghglkaaGreatDoorVFnParseBodyRepsOne
import Derived.Test.YtncdadcmghglkaaGreatDoorVFnParseBodyInv
import Derived.Test.YtncdadcmghglkaaGreatDoorVFnParseBodyGuard
import Derived.Test.YtncdadcmghglkaaGreatDoorVFnParseBodyMore
import Derived.Test.YtncdadcmghglkaaGreatDoorVFnParseBodyYt
namespace Go.Proofs.YtncdadcmghglkaaGreatDoor.PFnParseBody
open Go.Proofs.YtncdadcmghglkaaGreatDoorW.dK.Kd Go.Proofs.YtncdadcmghglkaaGreatDoorW.oJ.Kd Go.Proofs.Tryz Go.RowKit Go.Proofs.YtncdadcmghglkaaGreatDoor.X Go.Proofs.YtncdadcmghglkaaGreatDoorW.dK Go.Proofs.YtncdadcmghglkaaGreatDoorW.lZ Go.Proofs.YtncdadcmghglkaaGreatDoorW.oJ
attribute [local go_sem] wB wC yO yP uI uJ wE wF   -- for this text's walks alone
set_option linter.unusedVariables false
set_option linter.unusedSimpArgs false
def awx:Option Int→Value
 |none=> .nilIface
 |some c=> .iface 0 (.int .i64 c)
theorem gK:awx none= .nilIface:=rfl
theorem gQ(c:Int):awx (some c)= .iface 0 (.int .i64 c):=rfl
theorem info5:(Tryz.prog.info? 5).map (fun i=>(i.zero,i.size,i.bytes))=some (some (.int .u8 0),1,1):=by kernel_rfl
theorem info9:(Tryz.prog.info? 9).map (fun i=>(i.zero,i.size,i.bytes))=some (some (.string ⟨#[]⟩),1,16):=by kernel_rfl
theorem info23:(Tryz.prog.info? 23).map (fun i=>(i.zero,i.size,i.bytes))=some (some (.slice none 0 0),1,24):=by kernel_rfl
theorem Y1:(Tryz.prog.info? 28).map (fun i=>(i.zero,i.size,i.bytes))=some (some (.agg #[(.slice none 0 0),(.slice none 0 0),(.slice none 0 0)]),3,72):=by kernel_rfl
theorem CZ:(Tryz.prog.info? 69).map (fun i=>(i.zero,i.size,i.bytes))=some (some (.agg #[(.string ⟨#[]⟩),(.string ⟨#[]⟩)]),2,32):=by kernel_rfl
structure fD where
 f0:ByteArray
 f1:ByteArray
def z69:fD:=⟨(⟨#[]⟩:ByteArray),(⟨#[]⟩:ByteArray)⟩
def rP:Kd fD:=Kd.iso (Kd.pair Kd.string Kd.string) (fun x:fD=>(x.f0,x.f1))
theorem ahM{w:World}{x:fD}{cs:List Value}(h:rP.K w x cs):cs=[.string x.f0, .string x.f1]:=by
 obtain⟨_,_,rfl,rfl,rfl⟩:=h;exact rfl
theorem wX(w:World)(base:Nat)(ok:Nat→Prop)(x:fD):rP.M w base ok x [.string x.f0, .string x.f1]:=⟨[.string x.f0],[.string x.f1],rfl,rfl,rfl⟩
def eU(xs:List fD)(i:Int):fD:=xs.getD i.toNat z69
theorem su{w:World}{A:Option Addr}{n:Nat}{xs:List fD}(h:Kd.C rP w A n xs)(i:Int)(h0:0≤i)(h1:i<n):∃ad,A=some ad∧w.cell? (ad.add (i.toNat*2))=some (.string (eU xs i).f0)∧w.cell? ⟨(ad.add (i.toNat*2)).block,(ad.add (i.toNat*2)).off+1,none⟩=some (.string (eU xs i).f1):=by
 obtain⟨ad,c,e,_,hK,hc0⟩:=aeA h z69 i h0 h1;have hc:∀j u,c[j]? =some u→w.cell? (ad.add (i.toNat*2+j))=some u:=hc0;obtain rfl:=ahM hK;exact⟨ad,e,hc 0 _ rfl,by rw[←QO _ _ 1 (by omega)];exact hc 1 _ rfl⟩
def mJ(xs:List (List ByteArray))(i:Int):(List ByteArray):=xs.getD i.toNat ([]:List ByteArray)
theorem Ec{w:World}{A:Option Addr}{n:Nat}{xs:List (List ByteArray)}(h:Kd.C (Kd.slice 9 Kd.string) w A n xs)(i:Int)(h0:0≤i)(h1:i<n):∃ad A0 c0,A=some ad∧w.cell? (ad.add i.toNat)=some (.slice A0 (mJ xs i).length c0)∧(mJ xs i).length≤c0∧Kd.string.C w A0 (mJ xs i).length (mJ xs i):=by
 obtain⟨ad,c,e,_,hK,hc0⟩:=aeA h ([]:List ByteArray) i h0 h1;have hc:∀j u,c[j]? =some u→w.cell? (ad.add (i.toNat*1+j))=some u:=hc0;obtain⟨A0,c0,rfl,l0,g0⟩:=hK;exact⟨ad,A0,c0,e,by have hq:=hc 0 _ rfl;rwa [Nat.mul_one,Nat.add_zero]at hq,l0,g0⟩
def aeB(xs:List (List fD))(i:Int):(List fD):=xs.getD i.toNat ([]:List fD)
theorem aI9{w:World}{A:Option Addr}{n:Nat}{xs:List (List fD)}(h:Kd.C (Kd.slice 69 rP) w A n xs)(i:Int)(h0:0≤i)(h1:i<n):∃ad A0 c0,A=some ad∧w.cell? (ad.add i.toNat)=some (.slice A0 (aeB xs i).length c0)∧(aeB xs i).length≤c0∧rP.C w A0 (aeB xs i).length (aeB xs i):=by
 obtain⟨ad,c,e,_,hK,hc0⟩:=aeA h ([]:List fD) i h0 h1;have hc:∀j u,c[j]? =some u→w.cell? (ad.add (i.toNat*1+j))=some u:=hc0;obtain⟨A0,c0,rfl,l0,g0⟩:=hK;exact⟨ad,A0,c0,e,by have hq:=hc 0 _ rfl;rwa [Nat.mul_one,Nat.add_zero]at hq,l0,g0⟩
structure m_ where
 f0:(List fD)
 f1:(List ByteArray)
 f2:(List m_)
def z28:m_:=⟨([]:List fD),([]:List ByteArray),([]:List m_)⟩
def F28(d:Kd m_):Kd m_:=Kd.iso (Kd.pair (Kd.slice 69 rP) (Kd.pair (Kd.slice 9 Kd.string) (Kd.slice 28 d))) (fun x:m_=>(x.f0,x.f1,x.f2))
theorem ahN:Kd.Lj F28:=ahO _ (XZ (UQ _) (XZ (UQ _) (acG 28 amA)))
theorem awy:Kd.Sub F28 [9,28,69]:=amB _ (aaH (Kd.sub_const _ (by decide)) (aaH (Kd.sub_const _ (by decide)) (agQ 28 (by decide) asn)))
theorem awz:∀n,(Kd.upto F28 3 [9,28,69] n).sz=3:=amC (fun _=>rfl)
def k28:Kd m_:=Kd.fix F28 3 [9,28,69] awz (ahP awy)
theorem ahQ{w:World}{x:m_}{cs:List Value}(h:k28.K w x cs):∃A0 c0 A1 c1 A2 c2,cs=[.slice A0 x.f0.length c0, .slice A1 x.f1.length c1, .slice A2 x.f2.length c2]∧x.f0.length≤c0∧rP.C w A0 x.f0.length x.f0∧x.f1.length≤c1∧Kd.string.C w A1 x.f1.length x.f1∧x.f2.length≤c2∧k28.C w A2 x.f2.length x.f2:=by
 obtain⟨n,h⟩:=h
 cases n with
 |zero=>exact h.elim
 |succ n=>
  obtain⟨_,_,rfl,⟨A0,c0,rfl,l0,g0⟩,⟨_,_,rfl,⟨A1,c1,rfl,l1,g1⟩,⟨A2,c2,rfl,l2,g2⟩⟩⟩:=h;exact⟨A0,c0,A1,c1,A2,c2,rfl,l0,g0,l1,g1,l2,awC g2⟩
theorem Uo(w:World)(base:Nat)(ok:Nat→Prop)(x:m_){v0:Value}(g0:rP.R 69 w base ok v0 x.f0){v1:Value}(g1:Kd.string.R 9 w base ok v1 x.f1){v2:Value}(g2:k28.R 28 w base ok v2 x.f2):k28.M w base ok x [v0,v1,v2]:=by
 obtain⟨n2,q2⟩:=acH ahN g2;have r2:=agR ahN awz (show n2≤n2 by omega) q2;exact⟨n2+1,⟨[v0],[v1,v2],rfl,⟨v0,rfl,g0⟩,⟨[v1],[v2],rfl,⟨v1,rfl,g1⟩,⟨v2,rfl,r2⟩⟩⟩⟩
def aY(xs:List m_)(i:Int):m_:=xs.getD i.toNat z28
theorem Ed{w:World}{A:Option Addr}{n:Nat}{xs:List m_}(h:Kd.C k28 w A n xs)(i:Int)(h0:0≤i)(h1:i<n):∃ad A0 c0 A1 c1 A2 c2,A=some ad∧w.cell? (ad.add (i.toNat*3))=some (.slice A0 (aY xs i).f0.length c0)∧w.cell? ⟨(ad.add (i.toNat*3)).block,(ad.add (i.toNat*3)).off+1,none⟩=some (.slice A1 (aY xs i).f1.length c1)∧w.cell? ⟨(ad.add (i.toNat*3)).block,(ad.add (i.toNat*3)).off+2,none⟩=some (.slice A2 (aY xs i).f2.length c2)∧(aY xs i).f0.length≤c0∧rP.C w A0 (aY xs i).f0.length (aY xs i).f0∧(aY xs i).f1.length≤c1∧Kd.string.C w A1 (aY xs i).f1.length (aY xs i).f1∧(aY xs i).f2.length≤c2∧k28.C w A2 (aY xs i).f2.length (aY xs i).f2:=by
 obtain⟨ad,c,e,_,hK,hc0⟩:=aeA h z28 i h0 h1;have hc:∀j u,c[j]? =some u→w.cell? (ad.add (i.toNat*3+j))=some u:=hc0;obtain⟨A0,c0,A1,c1,A2,c2,rfl,l0,g0,l1,g1,l2,g2⟩:=ahQ hK;exact⟨ad,A0,c0,A1,c1,A2,c2,e,hc 0 _ rfl,by rw[←QO _ _ 1 (by omega)];exact hc 1 _ rfl,by rw[←QO _ _ 2 (by omega)];exact hc 2 _ rfl,l0,g0,l1,g1,l2,g2⟩
theorem awD(d:Nat)(w:World)(x0 y0:ByteArray)(x1 y1:ByteArray):
  (Op.equalIn (d+2) 69 (.agg #[.string x0, .string x1]) (.agg #[.string y0, .string y1])).run Tryz.prog w= .ok (x0.toList==y0.toList&&(x1.toList==y1.toList)) w:=by
 refine aso underlying69 (by kernel_rfl) ?_;refine ahR (by rfl) (by go_simp;rfl) (by go_simp;rfl) (by go_simp) ?_;exact ahS (by rfl) (by go_simp;rfl) (by go_simp;rfl) (by go_simp)
set_option maxHeartbeats 8000000
set_option maxRecDepth 100000
attribute [local go_sem high] awD
def jM.l0:Nat→List (fD)→List (fD)→Int→Int→Option (Bool)
 |0,_,_,_,_=>none
 |k+1,x0,x1,x12,Fe=>if Fe<x12 then(if 0≤Fe then(if Fe<(x0.length:Int)then(if Fe<(x1.length:Int)then(if(!((((eU x0 Fe).f0).toList)==(((eU x1 Fe).f0).toList))||(!((((eU x0 Fe).f1).toList)==(((eU x1 Fe).f1).toList))))=true then(some false)else(jM.l0 k x0 x1 x12 (wrap64 (Fe+1))))else(none))else(none))else(none))else(some true)
def jM.f(k:Nat)(l0:List (fD))(l1:List (fD)):Option (Bool):=if(l0.length:Int)=(l1.length:Int)then(jM.l0 k l0 l1 (l0.length:Int) 0)else(some false)
theorem jM.calls{k c0 c1:Nat}{A0 A1:Option Addr}{l0 l1:List (fD)}{r:Bool}{w:World}(hr0:Kd.C rP w A0 l0.length l0)(hc0:l0.length≤c0)(hr1:Kd.C rP w A1 l1.length l1)(hc1:l1.length≤c1)(h:jM.f k l0 l1=some r):
  Calls Tryz.prog 62 #[.slice A0 l0.length c0, .slice A1 l1.length c1] w fun e w'=>e= .returned (.bool r)∧dR w w':=by
 have Fg:=underlying69;have HR0:=ak hr0;have vw:=ak hc0;clear hr0 hc0;have HR1:=ak hr1;have HC1:=ak hc1;clear hr1 hc1;unfold jM.f at h;have H:=h;clear h;replace H:=sp H;rcases H with⟨c3,H⟩|⟨c3,H⟩
 ·have jd:=beq_iff_eq.mpr c3;have yQ:=bne_eq_false_iff_eq.mpr c3;have TK:(l0.length==l1.length)=true:=by first|simpa using c3|(simp at c3⊢;omega)
  clear c3;have H':=ak H;clear H;go_enter func62,ntmps62;go_wp2;repeat(go_quiet (fail);try go_wp2)
  go_loopg [13] k (fun kq v13 w'=>∃(mW:Int),v13= .int .i64 mW∧ah (jM.l0 kq l0 l1 (l0.length:Int) mW=some r)∧ah (kq≤k)∧dR w w')
  case atStart=>exact⟨_,rs,H',⟨Nat.le_refl _⟩,dn⟩
  case round=>
   clear H';try clear c3
   try clear jd
   try clear yQ
   try clear TK
   obtain⟨mW,rfl,HA,yN,⟨m1,rfl⟩⟩:=hrel
   cases gk with
   |zero=>exact zz HA.out
   |succ k1=>
    obtain⟨H⟩:=HA;simp only[jM.l0]at H;replace H:=sd H;rcases H with⟨qB,H⟩|⟨qB,H⟩
    ·replace H:=nY H;obtain⟨nO,H⟩:=H;replace H:=nY H;obtain⟨nP,H⟩:=H;replace H:=nY H;obtain⟨sK,H⟩:=H;replace H:=sp H;rcases H with⟨c8,H⟩|⟨c8,H⟩
     ·have ru:(!((((eU l0 mW).f0).toList)==(((eU l1 mW).f0).toList))||(!((((eU l0 mW).f1).toList)==(((eU l1 mW).f1).toList))))=true:=c8;clear c8;obtain rfl:=s1 H;have UR:=zi mW;have UU:=zj mW l0.length;obtain⟨asq,ahT,ahU,ahV⟩:=su HR0.out mW UR UU;cases ahT;replace UR:=eq_true UR;replace UU:=eq_true UU;have UW:=zi mW;have UY:=zj mW l1.length;obtain⟨asr,ahW,ahX,ahY⟩:=su HR1.out mW UW UY;cases ahW;replace UW:=eq_true UW;replace UY:=eq_true UY;go_wp2;repeat(go_quiet (fail);try go_wp2)
      go_ret;exact⟨rs,dn⟩
     ·have ru:(!((((eU l0 mW).f0).toList)==(((eU l1 mW).f0).toList))||(!((((eU l0 mW).f1).toList)==(((eU l1 mW).f1).toList))))=false:=by simpa using c8
      clear c8;have H':=ak H;clear H;have UR:=zi mW;have UU:=zj mW l0.length;obtain⟨asq,ahT,ahU,ahV⟩:=su HR0.out mW UR UU;cases ahT;replace UR:=eq_true UR;replace UU:=eq_true UU;have UW:=zi mW;have UY:=zj mW l1.length;obtain⟨asr,ahW,ahX,ahY⟩:=su HR1.out mW UW UY;cases ahW;replace UW:=eq_true UW;replace UY:=eq_true UY;go_wp2;repeat(go_quiet (fail);try go_wp2)
      go_roundg k1
      case measure=>exact kl
      case rel=>exact⟨_,rs,H',⟨kl⟩,dn⟩
    ·obtain rfl:=s1 H;go_wp2;repeat(go_quiet (fail);try go_wp2)
     go_ret;exact⟨rs,dn⟩
 ·have jd:=beq_eq_false_iff_ne.mpr c3;have yQ:=bne_iff_ne.mpr c3;have TK:(l0.length==l1.length)=false:=by first|simpa using c3|(simp at c3⊢;omega)
  obtain rfl:=s1 H;go_enter func62,ntmps62;go_wp2;repeat(go_quiet (fail);try go_wp2)
  go_ret;exact⟨rs,dn⟩
def bQ.l0:Nat→List ByteArray→List ByteArray→Int→Int→Option (Bool)
 |0,_,_,_,_=>none
 |k+1,x0,x1,x12,Fe=>if Fe<x12 then(if 0≤Fe then(if Fe<(x0.length:Int)then(if Fe<(x1.length:Int)then(if(iD ByteArray.empty x0 Fe).toList=(iD ByteArray.empty x1 Fe).toList then(bQ.l0 k x0 x1 x12 (wrap64 (Fe+1)))else(some false))else(none))else(none))else(none))else(some true)
def bQ.f(k:Nat)(l0:List ByteArray)(l1:List ByteArray):Option (Bool):=if(l0.length:Int)=(l1.length:Int)then(bQ.l0 k l0 l1 (l0.length:Int) 0)else(some false)
theorem bQ.calls{k c0 c1:Nat}{A0 A1:Option Addr}{l0 l1:List ByteArray}{r:Bool}{w:World}(hr0:Kd.C Kd.string w A0 l0.length l0)(hc0:l0.length≤c0)(hr1:Kd.C Kd.string w A1 l1.length l1)(hc1:l1.length≤c1)(h:bQ.f k l0 l1=some r):
  Calls Tryz.prog 63 #[.slice A0 l0.length c0, .slice A1 l1.length c1] w fun e w'=>e= .returned (.bool r)∧dR w w':=by
 have HR0:=ak hr0;have vw:=ak hc0;clear hr0 hc0;have HR1:=ak hr1;have HC1:=ak hc1;clear hr1 hc1;unfold bQ.f at h;have H:=h;clear h;replace H:=sp H;rcases H with⟨c3,H⟩|⟨c3,H⟩
 ·have jd:=beq_iff_eq.mpr c3;have yQ:=bne_eq_false_iff_eq.mpr c3;have TK:(l0.length==l1.length)=true:=by first|simpa using c3|(simp at c3⊢;omega)
  clear c3;have H':=ak H;clear H;go_enter func63,ntmps63;go_wp2;repeat(go_quiet (fail);try go_wp2)
  go_loopg [13] k (fun kq v13 w'=>∃(mW:Int),v13= .int .i64 mW∧ah (bQ.l0 kq l0 l1 (l0.length:Int) mW=some r)∧ah (kq≤k)∧dR w w')
  case atStart=>exact⟨_,rs,H',⟨Nat.le_refl _⟩,dn⟩
  case round=>
   clear H';try clear c3
   try clear jd
   try clear yQ
   try clear TK
   obtain⟨mW,rfl,HA,yN,⟨m1,rfl⟩⟩:=hrel
   cases gk with
   |zero=>exact zz HA.out
   |succ k1=>
    obtain⟨H⟩:=HA;simp only[bQ.l0]at H;replace H:=sd H;rcases H with⟨qB,H⟩|⟨qB,H⟩
    ·replace H:=nY H;obtain⟨nO,H⟩:=H;replace H:=nY H;obtain⟨nP,H⟩:=H;replace H:=nY H;obtain⟨sK,H⟩:=H;replace H:=sq H;rcases H with⟨ru,BI,H⟩|⟨c8,ru,BI,H⟩
     ·have H':=ak H;clear H;have UZ:=zi mW;have U0:=zj mW l0.length;obtain⟨asu,ahZ,ah0⟩:=bV HR0.out mW UZ U0;cases ahZ;replace UZ:=eq_true UZ;replace U0:=eq_true U0;have U1:=zi mW;have U2:=zj mW l1.length;obtain⟨asv,ah1,ah2⟩:=bV HR1.out mW U1 U2;cases ah1;replace U1:=eq_true U1;replace U2:=eq_true U2;go_wp2;repeat(go_quiet (fail);try go_wp2)
      go_roundg k1
      case measure=>exact kl
      case rel=>exact⟨_,rs,H',⟨kl⟩,dn⟩
     ·obtain rfl:=s1 H;have UZ:=zi mW;have U0:=zj mW l0.length;obtain⟨asu,ahZ,ah0⟩:=bV HR0.out mW UZ U0;cases ahZ;replace UZ:=eq_true UZ;replace U0:=eq_true U0;have U1:=zi mW;have U2:=zj mW l1.length;obtain⟨asv,ah1,ah2⟩:=bV HR1.out mW U1 U2;cases ah1;replace U1:=eq_true U1;replace U2:=eq_true U2;go_wp2;repeat(go_quiet (fail);try go_wp2)
      go_ret;exact⟨rs,dn⟩
    ·obtain rfl:=s1 H;go_wp2;repeat(go_quiet (fail);try go_wp2)
     go_ret;exact⟨rs,dn⟩
 ·have jd:=beq_eq_false_iff_ne.mpr c3;have yQ:=bne_iff_ne.mpr c3;have TK:(l0.length==l1.length)=false:=by first|simpa using c3|(simp at c3⊢;omega)
  obtain rfl:=s1 H;go_enter func63,ntmps63;go_wp2;repeat(go_quiet (fail);try go_wp2)
  go_ret;exact⟨rs,dn⟩
def kG.l0:Nat→List ByteArray→List ByteArray→Int→Option (Bool)
 |0,_,_,_=>none
 |k+1,x0,x1,x5=>if x5<(x0.length:Int)then(if 0≤x5 then(if x5<(x1.length:Int)then(if(iD ByteArray.empty x0 x5).toList=(iD ByteArray.empty x1 x5).toList then(kG.l0 k x0 x1 (wrap64 (x5+1)))else(some false))else(none))else(none))else(some true)
def kG.f(k:Nat)(l0:List ByteArray)(l1:List ByteArray):Option (Bool):=if(l0.length:Int)=(l1.length:Int)then(kG.l0 k l0 l1 0)else(some false)
theorem kG.calls{k c0 c1:Nat}{A0 A1:Option Addr}{l0 l1:List ByteArray}{r:Bool}{w:World}(hr0:Kd.C Kd.string w A0 l0.length l0)(hc0:l0.length≤c0)(hr1:Kd.C Kd.string w A1 l1.length l1)(hc1:l1.length≤c1)(h:kG.f k l0 l1=some r):
  Calls Tryz.prog 22 #[.slice A0 l0.length c0, .slice A1 l1.length c1] w fun e w'=>e= .returned (.bool r)∧dR w w':=by
 have HR0:=ak hr0;have vw:=ak hc0;clear hr0 hc0;have HR1:=ak hr1;have HC1:=ak hc1;clear hr1 hc1;unfold kG.f at h;have H:=h;clear h;replace H:=sp H;rcases H with⟨c3,H⟩|⟨c3,H⟩
 ·have jd:=beq_iff_eq.mpr c3;have yQ:=bne_eq_false_iff_eq.mpr c3;have TK:(l0.length==l1.length)=true:=by first|simpa using c3|(simp at c3⊢;omega)
  clear c3;have H':=ak H;clear H;go_enter func22,ntmps22;go_wp2;repeat(go_quiet (fail);try go_wp2)
  go_loopg [5] k (fun kq v5 w'=>∃(dV:Int),v5= .int .i64 dV∧ah (kG.l0 kq l0 l1 dV=some r)∧ah (kq≤k)∧dR w w')
  case atStart=>exact⟨_,rs,H',⟨Nat.le_refl _⟩,dn⟩
  case round=>
   clear H';try clear c3
   try clear jd
   try clear yQ
   try clear TK
   obtain⟨dV,rfl,HA,yN,⟨m1,rfl⟩⟩:=hrel
   cases gk with
   |zero=>exact zz HA.out
   |succ k1=>
    obtain⟨H⟩:=HA;simp only[kG.l0]at H;replace H:=sd H;rcases H with⟨qB,H⟩|⟨qB,H⟩
    ·replace H:=nY H;obtain⟨nO,H⟩:=H;replace H:=nY H;obtain⟨nP,H⟩:=H;replace H:=sq H;rcases H with⟨sK,Jy,H⟩|⟨c7,sK,Jy,H⟩
     ·have H':=ak H;clear H;have U3:=zi dV;have U4:=zj dV l0.length;obtain⟨asw,ah3,ah4⟩:=bV HR0.out dV U3 U4;cases ah3;replace U3:=eq_true U3;replace U4:=eq_true U4;have U5:=zi dV;have U6:=zj dV l1.length;obtain⟨asx,ah5,ah6⟩:=bV HR1.out dV U5 U6;cases ah5;replace U5:=eq_true U5;replace U6:=eq_true U6;go_wp2;repeat(go_quiet (fail);try go_wp2)
      go_roundg k1
      case measure=>exact kl
      case rel=>exact⟨_,rs,H',⟨kl⟩,dn⟩
     ·obtain rfl:=s1 H;have U3:=zi dV;have U4:=zj dV l0.length;obtain⟨asw,ah3,ah4⟩:=bV HR0.out dV U3 U4;cases ah3;replace U3:=eq_true U3;replace U4:=eq_true U4;have U5:=zi dV;have U6:=zj dV l1.length;obtain⟨asx,ah5,ah6⟩:=bV HR1.out dV U5 U6;cases ah5;replace U5:=eq_true U5;replace U6:=eq_true U6;go_wp2;repeat(go_quiet (fail);try go_wp2)
      go_ret;exact⟨rs,dn⟩
    ·obtain rfl:=s1 H;go_wp2;repeat(go_quiet (fail);try go_wp2)
     go_ret;exact⟨rs,dn⟩
 ·have jd:=beq_eq_false_iff_ne.mpr c3;have yQ:=bne_iff_ne.mpr c3;have TK:(l0.length==l1.length)=false:=by first|simpa using c3|(simp at c3⊢;omega)
  obtain rfl:=s1 H;go_enter func22,ntmps22;go_wp2;repeat(go_quiet (fail);try go_wp2)
  go_ret;exact⟨rs,dn⟩
set_option maxHeartbeats 8000000
set_option maxRecDepth 100000
mutual
def iT.f:Nat→List (fD)→List ByteArray→List (m_)→Option ((List (fD))×List ByteArray×(List (m_)))
 |0,_,_,_=>none
 |k+1,fH,eX,aQ=>(some (([]:List (fD)):List (fD))).bind fun U7=>(if U7.length+fH.length<4398046511104 then((some (([]:List ByteArray):List ByteArray)).bind fun U8=>(if U8.length+eX.length<8796093022208 then((ig.l0 k (([]:List (m_))) aQ (aQ.length:Int) 0).bind fun U9=>(some ((U7++fH),(U8++eX),U9)))else(none)))else(none))
def ig.l0:Nat→List (m_)→List (m_)→Int→Int→Option ((List (m_)))
 |0,_,_,_,_=>none
 |k+1,x3,x7,x8,x9=>if x9<x8 then(if 0≤x9 then(if x9<(x7.length:Int)then((iT.f k ((aY x7 x9).f0) ((aY x7 x9).f1) ((aY x7 x9).f2)).bind fun ah7=>(if x3.length<1954687338268 then(ig.l0 k (x3++[(⟨ah7.1,ah7.2.1,ah7.2.2⟩:m_)]) x7 x8 (wrap64 (x9+1)))else(none)))else(none))else(none))else(some x3)
end
def ig.f(k:Nat)(l0:List (m_)):Option ((List (m_))):=ig.l0 k (([]:List (m_))) l0 (l0.length:Int) 0
theorem iT.acI(k:Nat)(fH:List (fD))(eX:List ByteArray)(aQ:List (m_)):iT.f (k+1) fH eX aQ=((some (([]:List (fD)):List (fD))).bind fun U7=>(if U7.length+fH.length<4398046511104 then((some (([]:List ByteArray):List ByteArray)).bind fun U8=>(if U8.length+eX.length<8796093022208 then((ig.f k aQ).bind fun U9=>(some ((U7++fH),(U8++eX),U9)))else(none)))else(none))):=by simp only[iT.f,ig.f]
theorem iT.pair(k:Nat):(∀(mX:Option Addr) (mY:Nat) (fH:List (fD)) (mM:Option Addr) (mO:Nat) (eX:List ByteArray) (jI:Option Addr) (iP:Nat) (aQ:List (m_)) (r1:List (fD)) (r2:List ByteArray) (r3:List (m_)) (w:World) (rC:Kd.C rP w mX fH.length fH) (rD:fH.length≤mY) (rE:Kd.C Kd.string w mM eX.length eX) (rG:eX.length≤mO) (nH:Kd.C k28 w jI aQ.length aQ) (nI:aQ.length≤iP) (h:iT.f k fH eX aQ=some (r1,r2,r3)),
  Calls Tryz.prog 61 #[.agg #[.slice mX fH.length mY, .slice mM eX.length mO, .slice jI aQ.length iP]] w fun e w'=>∃pW Gn IZ:Value,e= .returned (.agg #[pW,Gn,IZ])∧Kd.R rP 69 w' w.heap.size (fun _=>True) pW r1∧Kd.R Kd.string 9 w' w.heap.size (fun _=>True) Gn r2∧Kd.R k28 28 w' w.heap.size (fun k_=>some k_≠(pW:Value).ownBlock∧some k_≠(Gn:Value).ownBlock) IZ r3∧Below w.heap.size w w')∧
  (∀(A0:Option Addr) (c0:Nat) (l0:List (m_)) (r:List (m_)) (w:World) (hr0:Kd.C k28 w A0 l0.length l0) (hc0:l0.length≤c0) (h:ig.f k l0=some r),
  Calls Tryz.prog 104 #[.slice A0 l0.length c0] w fun e w'=>∃pW:Value,e= .returned (pW)∧Kd.R k28 28 w' w.heap.size (fun _=>True) pW r∧Below w.heap.size w w'):=by
 induction k using Nat.strongRecOn with
 |_ k ih=>
 refine⟨?_,?_⟩
 ·cases k with
  |zero=>intro mX mY fH mM mO eX jI iP aQ r1 r2 r3 w rC rD rE rG nH nI h;exact absurd h (by simp[iT.f])
  |succ k=>
  have ihB:=(ih k (Nat.lt_succ_self k)).2;clear ih;intro mX mY fH mM mO eX jI iP aQ r1 r2 r3 w rC rD rE rG nH nI h;rw[iT.acI]at h;have GN:=underlying28;have uw:=ak rC;have uK:=ak rD;clear rC rD;have xY:=ak rE;have zY:=ak rG;clear rE rG;have lT:=ak nH;have qh:=ak nI;clear nH nI;have HB:=ak (Below.refl w.heap.size w);have H:((some (([]:List (fD)):List (fD))).bind fun U7=>(if U7.length+fH.length<4398046511104 then((some (([]:List ByteArray):List ByteArray)).bind fun U8=>(if U8.length+eX.length<8796093022208 then((ig.f k aQ).bind fun U9=>(some ((U7++fH),(U8++eX),U9)))else(none)))else(none)))=some (r1,r2,r3):=h;clear h;replace H:=ny H;obtain⟨U7,awE,H⟩:=H;replace H:=nl H;obtain⟨aFA,H⟩:=H;obtain⟨ah8,aoy⟩:=nm (U7++fH);rw[←aoy.out]at H;replace H:=ny H;obtain⟨U8,awF,H⟩:=H;replace H:=nl H;obtain⟨amD,H⟩:=H;obtain⟨amE,aaI⟩:=nm (U8++eX);rw[←aaI.out]at H;replace H:=bd H;obtain⟨U9,A4,H⟩:=H;obtain⟨rfl,rfl,rfl⟩:=s3 H;go_enter func61,ntmps61;go_wp2_with (first|(refine bX HB 1 #[.slice mX fH.length mY, .slice mM eX.length mO, .slice jI aQ.length iP] 28 ?_;intro ah9 w5 zk aI_ hb;replace HB:=bs HB hb;clear hb)|(refine bY HB 2 #[.slice none 0 0, .slice none 0 0, .slice none 0 0] 28 ?_;intro aeC w6 GR aJa hg hb;have agS:=Bo zk hg;have agT:=Bq zk hg;replace zk:=kb zk hb;replace HB:=bz HB hb;clear hb hg)|(refine DR 3 rP 69 awE ?_;intro aFB w7 ho8 hb;have aeD:=ak (aC ho8 (au bb));replace zk:=kb zk hb;replace GR:=kb GR hb;replace HB:=bz HB hb;clear hb ho8;have aFC:=agS.out;have aFD:=agT.out;have z10:=jY zk.out)|((with_reducible refine bP (b:= .append) (xs:=#[.tmp 3, .tmp 5]) rfl ?_);at_builtin;refine pz rP (w0:=w) w.heap.size rfl (.tmp 3) (.tmp 5) 25 69 (.agg #[(.string ⟨#[]⟩),(.string ⟨#[]⟩)]) 32 rfl underlying25 CZ rfl (by decide) (by omega) aFB U7 fH _ _ _ (fun _=>True) (fun _=>False) rfl rfl ?aO ?aR (fun _ _ h=>h) (fun _ h=>h.elim) ?aF ?aB ?aS ?aL ?_;(case aR=>repeat(first|exact(aK uw.out HB.out)|(with_reducible refine Kd.nR ?_ _)|(with_reducible refine Kd.nS ?_ _)|(with_reducible refine Kd.qJ ?_)));(case aB=>exact bb);(case aF=>exact(fun _ _=>trivial));(case aO=>exact(ur aeD.out));(case aS=>exact(au bb));(case aL=>have:=aFA.out;omega);intro aM6 X0 ho hb hg hat;rw[←aoy.out]at ho;have SI:=ak (ho);replace zk:=ak (fB (g:=ah9) (o:= .cells #[.slice mX fH.length mY, .slice mM eX.length mO, .slice jI aQ.length iP] 28 (0,0)) (ub zk.out) hg (vS aeD.out zk.out (by decide)));replace GR:=ak (fB (g:=aeC) (o:= .cells #[.slice none 0 0, .slice none 0 0, .slice none 0 0] 28 (0,0)) (ub GR.out) hg (vS aeD.out GR.out (by decide)));replace HB:=ak (hb);clear ho hb hg hat aeD;obtain⟨BJ,Aj,U_⟩:=aI SI.out;subst U_;have z13:=jY zk.out)|(refine DR 8 Kd.string 9 awF ?_;intro aFE Xv TL hb;have aaJ:=ak (aC TL (au bb));replace SI:=rg SI hb;replace zk:=kp zk #[.slice BJ ah8.length Aj, .slice mM eX.length mO, .slice jI aQ.length iP] hb;replace GR:=kp GR #[.slice none 0 0, .slice none 0 0, .slice none 0 0] hb;replace HB:=bz HB hb;clear hb TL;have z16:=jY zk.out)|((with_reducible refine bP (b:= .append) (xs:=#[.tmp 8, .tmp 10]) rfl ?_);at_builtin;refine pz Kd.string (w0:=w) w.heap.size rfl (.tmp 8) (.tmp 10) 23 9 (.string ⟨#[]⟩) 16 rfl underlying23 info9 rfl (by decide) (by omega) aFE U8 eX _ _ _ (fun _=>True) (fun _=>False) rfl rfl ?aO ?aR (fun _ _ h=>h) (fun _ h=>h.elim) ?aF ?aB ?aS ?aL ?_;(case aR=>repeat(first|exact(aK xY.out HB.out)|(with_reducible refine Kd.nR ?_ _)|(with_reducible refine Kd.nS ?_ _)|(with_reducible refine Kd.qJ ?_)));(case aB=>exact bb);(case aF=>exact(fun _ _=>trivial));(case aO=>exact(ur aaJ.out));(case aS=>exact(au bb));(case aL=>have:=amD.out;omega);intro aFF w17 ho hb hg hat;rw[←aaI.out]at ho;have X3:=ak (ho);replace zk:=ak (fB (g:=ah9) (o:= .cells #[.slice BJ ah8.length Aj, .slice mM eX.length mO, .slice jI aQ.length iP] 28 (0,0)) (ub zk.out) hg (vS aaJ.out zk.out (by decide)));replace GR:=ak (fB (g:=aeC) (o:= .cells #[.slice none 0 0, .slice none 0 0, .slice none 0 0] 28 (0,0)) (ub GR.out) hg (vS aaJ.out GR.out (by decide)));replace SI:=ak (xZ (ur SI.out) (pX (ur aaJ.out)) (by decide) hg);replace HB:=ak (hb);clear ho hb hg hat aaJ;obtain⟨acJ,acK,ah_⟩:=aI X3.out;subst ah_;have z19:=jY zk.out)|(refine gV func104 (ihB _ _ aQ U9 _ (aK lT.out bb) qh.out A4.out) ?_;rintro aM7 w20 ⟨ho0,hb⟩;have awG:=ak (aC (nG (nG (dA (dA ho0 (jC (rh SI))) (jC (rh X3))) (g:=ah9) (o:= .cells #[.slice BJ ah8.length Aj, .slice acJ amE.length acK, .slice jI aQ.length iP] 28 (0,0)) bq) (g:=aeC) (o:= .cells #[.slice none 0 0, .slice none 0 0, .slice none 0 0] 28 (0,0)) bq) (au bb));replace SI:=rg SI hb;replace X3:=rg X3 hb;replace zk:=kp zk #[.slice BJ ah8.length Aj, .slice acJ amE.length acK, .slice jI aQ.length iP] hb;replace GR:=kp GR #[.slice none 0 0, .slice none 0 0, .slice none 0 0] hb;replace HB:=bz HB hb;clear hb;(try clear ho0);obtain⟨mg,kT,QS⟩:=aI awG.out;subst QS;have z22:=jY zk.out;have z23:=jY GR.out))
  refine bodyPost_ret (results_cell_row rfl _ _ aeC 28 #[.slice BJ ah8.length Aj, .slice acJ amE.length acK, .slice mg U9.length kT] (0,0) _ rfl bq underlying28 rfl (by kernel_rfl)) rfl ?_;exact⟨_,_,_,er,rr,rr,rr,bb⟩
 ·intro A0 c0 l0 r w hr0 hc0 h;have GN:=underlying28;have HR0:=ak hr0;have vw:=ak hc0;clear hr0 hc0;have HB:=ak (Below.refl w.heap.size w);have H:(ig.l0 k (([]:List (m_))) l0 (l0.length:Int) 0)=some r:=h;clear h;obtain⟨y101,aoz⟩:=nm ([]:List (m_));rw[←aoz.out]at H;have H':=ak H;clear H;go_enter func104,ntmps104;go_wp2_with (refine DR 6 k28 28 aoz ?_;intro aM8 w2 ho3 hb;have awH:=ak (aC ho3 (au (ul HB.out)));replace HB:=bs HB hb;clear hb ho3)
  go_loopg [3,9] k (fun kq v3 v9 w'=>∃(eG:List (m_)) (pY:Int),v9= .int .i64 pY∧ah (ig.l0 kq eG l0 (l0.length:Int) pY=some r)∧ah (kq≤k)∧ah (Kd.R k28 28 w' w.heap.size (fun _=>True) v3 eG)∧ah (Below w.heap.size w w'))
  case atStart=>exact⟨_,_,rs,H',⟨Nat.le_refl _⟩,⟨ur awH.out⟩,⟨ul HB.out⟩⟩
  case round=>
   clear H';obtain⟨eG,pY,rfl,HA,yN,mZ,HB⟩:=hrel
   cases gk with
   |zero=>exact zz HA.out
   |succ k1=>
    obtain⟨H⟩:=HA;simp only[ig.l0]at H;replace H:=sd H;rcases H with⟨qB,H⟩|⟨qB,H⟩
    ·replace H:=nY H;obtain⟨nO,H⟩:=H;replace H:=nY H;obtain⟨nP,H⟩:=H;replace H:=bd H;obtain⟨⟨aia,t109,aaK⟩,A7,H⟩:=H
     (try dsimp only at H);replace H:=nl H;obtain⟨aib,H⟩:=H;obtain⟨y115,aoA⟩:=nm (eG++[(⟨aia,t109,aaK⟩:m_)]);rw[←aoA.out]at H;have H':=ak H;clear H;have asy:=zi pY;have asz:=zj pY l0.length;obtain⟨aJb,MH,MI,MJ,MK,ML,MN,aFG,aeE,aeF,aeG,aeH,aeI,aeJ,aeK,aeL,aeM⟩:=Ed HR0.out pY asy asz;cases aFG;replace aeE:=cl HB.out aeE;replace aeF:=cl HB.out aeF;replace aeG:=cl HB.out aeG;have amF:=ak aeI;have amG:=ak aeH;clear aeI aeH;have amH:=ak aeK;have amI:=ak aeJ;clear aeK aeJ;have amJ:=ak aeM;have amK:=ak aeL;clear aeM aeL;replace asy:=eq_true asy;replace asz:=eq_true asz;go_wp2_with (first|(refine bY HB 5 #[.slice none 0 0, .slice none 0 0, .slice none 0 0] 28 ?_;intro Cj w9 vX aic hg hb;replace mZ:=ak (dX (jJ (ur mZ.out) Cj (Nat.le_of_eq hg.symm)) hb);replace HB:=bs HB hb;clear hb hg;have z10:=jY vX.out)|(refine gL 61 15 func61 #[.agg #[.slice MH ((aY l0 pY).f0).length MI, .slice MJ ((aY l0 pY).f1).length MK, .slice ML ((aY l0 pY).f2).length MN]] ?_;(with_reducible refine((ih k1 (by have:=yN.out;omega)).1 _ _ ((aY l0 pY).f0) _ _ ((aY l0 pY).f1) _ _ ((aY l0 pY).f2) aia t109 aaK _ (aK amF.out bb) amG.out (aK amH.out bb) amI.out (aK amJ.out bb) amK.out A7.out).mono ?_);rintro e X0 ⟨v107,asA,aM9,rfl,ho0,ho1,ho2,hb⟩;refine⟨_,rfl,?_⟩;have aie:=ak (aC ho0 (au bb));have I4:=ak (aC ho1 (au bb));have aif:=ak (aC (nG (dA ho2 (jC (ur (ay (aH (p:=⟨Cj,2,none⟩) (aH (p:=⟨Cj,1,none⟩) (aH (p:=⟨Cj,0,none⟩) (ay mZ.out (fun k_ hk=>(⟨hk,hk.2⟩:_∧k_≠Cj))) (fun _ hk=>hk.2) (.slice MH ((aY l0 pY).f0).length MI)) (fun _ hk=>hk.2) (.slice MJ ((aY l0 pY).f1).length MK)) (fun _ hk=>hk.2) (.slice ML ((aY l0 pY).f2).length MN)) (fun _ h_=>h_.1))))) (g:=Cj) (o:= .cells #[.slice MH ((aY l0 pY).f0).length MI, .slice MJ ((aY l0 pY).f1).length MK, .slice ML ((aY l0 pY).f2).length MN] 28 (0,0)) bq) (au bb));replace mZ:=ak (ay (oK (oK (oK (LP (ur (ay (aH (p:=⟨Cj,2,none⟩) (aH (p:=⟨Cj,1,none⟩) (aH (p:=⟨Cj,0,none⟩) (ay mZ.out (fun k_ hk=>(⟨hk,hk.2⟩:_∧k_≠Cj))) (fun _ hk=>hk.2) (.slice MH ((aY l0 pY).f0).length MI)) (fun _ hk=>hk.2) (.slice MJ ((aY l0 pY).f1).length MK)) (fun _ hk=>hk.2) (.slice ML ((aY l0 pY).f2).length MN)) (fun _ h_=>h_.1))) hb) (bZ ho0)) (bZ ho1)) (bZ ho2)) (fun _ h_=>h_.1));replace vX:=kp vX #[.slice MH ((aY l0 pY).f0).length MI, .slice MJ ((aY l0 pY).f1).length MK, .slice ML ((aY l0 pY).f2).length MN] hb;replace HB:=bz HB hb;clear hb;(try clear ho0);(try clear ho1);(try clear ho2);obtain⟨kX,jy,Ee⟩:=aI aie.out;subst Ee;obtain⟨tZ,qC,MO⟩:=aI I4.out;subst MO;obtain⟨agU,acL,XA⟩:=aI aif.out;subst XA)|((with_reducible refine bP (b:= .append) (xs:=#[.tmp 13, .tmp 16]) rfl ?_);at_builtin;refine oh k28 (w0:=w) w.heap.size rfl (.tmp 13) (.tmp 16) 26 28 (.agg #[(.slice none 0 0),(.slice none 0 0),(.slice none 0 0)]) 72 rfl underlying26 Y1 rfl (by decide) (by omega) u3 eG (⟨aia,t109,aaK⟩:m_) [.slice kX aia.length jy, .slice tZ t109.length qC, .slice agU aaK.length acL] (fun k_=>k_≠Cj) (fun k_=>((fun k_=>k_≠Cj)) k_∧some k_≠(u3:Value).ownBlock) rfl rfl ?aP (fun _ hk=>hk) ?aF ?aO ?aB ?aS ?aL ?_;(case aP=>exact Uo _ _ _ (⟨aia,t109,aaK⟩:m_) (ay (l7 (oq (aie.out) (pX mZ.out) (by decide)) vX.out (by decide)) (fun k_ hk=>⟨hk.2,hk.1.2⟩)) (ay (l7 (oq (I4.out) (pX mZ.out) (by decide)) vX.out (by decide)) (fun k_ hk=>⟨hk.2,hk.1.2⟩)) (ay (aif.out) (fun k_ hk=>⟨hk.2,hk.1.2⟩)));(case aB=>exact bb);(case aF=>exact(fun k_ hk=>y7 (g:=Cj) (o:= .cells #[.slice MH ((aY l0 pY).f0).length MI, .slice MJ ((aY l0 pY).f1).length MK, .slice ML ((aY l0 pY).f2).length MN] 28 (0,0)) (ub vX.out) k_ hk));(case aO=>exact(ur (ay mZ.out (fun _ hk=>hk.1.1.1.2))));(case aS=>exact(au bb));(case aL=>have:=aib.out;omega);intro aM_ w12 ho hb hg hat;rw[←aoA.out]at ho;have awI:=ak (ho);replace vX:=ak (fB (g:=Cj) (o:= .cells #[.slice MH ((aY l0 pY).f0).length MI, .slice MJ ((aY l0 pY).f1).length MK, .slice ML ((aY l0 pY).f2).length MN] 28 (0,0)) (ub vX.out) hg (zF mZ.out (fun _ hk=>hk.1.1.1.2)));replace HB:=ak (hb);clear ho hb hg hat mZ aie I4 aif))
     go_roundg k1
     case measure=>exact kl
     case rel=>exact⟨_,_,rs,H',⟨kl⟩,⟨ur (ay awI.out (fun _ hk=>trivial))⟩,⟨bb⟩⟩
    ·obtain rfl:=s1 H;go_wp2;go_ret;exact⟨_,er,ur mZ.out,ul HB.out⟩
theorem iT.calls{k mY mO iP:Nat}{mX mM jI:Option Addr}{fH r1:List (fD)}{eX r2:List ByteArray}{aQ r3:List (m_)}{w:World}(rC:Kd.C rP w mX fH.length fH)(rD:fH.length≤mY)(rE:Kd.C Kd.string w mM eX.length eX)(rG:eX.length≤mO)(nH:Kd.C k28 w jI aQ.length aQ)(nI:aQ.length≤iP)(h:iT.f k fH eX aQ=some (r1,r2,r3)):
  Calls Tryz.prog 61 #[.agg #[.slice mX fH.length mY, .slice mM eX.length mO, .slice jI aQ.length iP]] w fun e w'=>∃pW Gn IZ:Value,e= .returned (.agg #[pW,Gn,IZ])∧Kd.R rP 69 w' w.heap.size (fun _=>True) pW r1∧Kd.R Kd.string 9 w' w.heap.size (fun _=>True) Gn r2∧Kd.R k28 28 w' w.heap.size (fun k_=>some k_≠(pW:Value).ownBlock∧some k_≠(Gn:Value).ownBlock) IZ r3∧Below w.heap.size w w':=(iT.pair k).1 mX mY fH mM mO eX jI iP aQ r1 r2 r3 w rC rD rE rG nH nI h
theorem ig.calls{k c0:Nat}{A0:Option Addr}{l0 r:List (m_)}{w:World}(hr0:Kd.C k28 w A0 l0.length l0)(hc0:l0.length≤c0)(h:ig.f k l0=some r):
  Calls Tryz.prog 104 #[.slice A0 l0.length c0] w fun e w'=>∃pW:Value,e= .returned (pW)∧Kd.R k28 28 w' w.heap.size (fun _=>True) pW r∧Below w.heap.size w w':=(iT.pair k).2 A0 c0 l0 r w hr0 hc0 h
set_option maxHeartbeats 8000000
set_option maxRecDepth 100000
mutual
def dF.f:Nat→List (fD)→List ByteArray→List (m_)→List (fD)→List ByteArray→List (m_)→Option (Bool)
 |0,_,_,_,_,_,_=>none
 |k+1,fH,eX,aQ,Ef,Eh,C9=>(jM.f k fH Ef).bind fun t107=>(if t107=true then((bQ.f k eX Eh).bind fun agV=>(if agV=true then((if(aQ.length:Int)=(C9.length:Int)then(iH.l0 k C9 aQ (aQ.length:Int) 0)else(some false)).bind fun t109=>(some t109))else(some false)))else(some false))
def iH.l0:Nat→List (m_)→List (m_)→Int→Int→Option (Bool)
 |0,_,_,_,_=>none
 |k+1,x1,x15,x16,x17=>if x17<x16 then(if 0≤x17 then(if x17<(x15.length:Int)then(if x17<(x1.length:Int)then((dF.f k ((aY x15 x17).f0) ((aY x15 x17).f1) ((aY x15 x17).f2) ((aY x1 x17).f0) ((aY x1 x17).f1) ((aY x1 x17).f2)).bind fun awJ=>(if awJ=true then(iH.l0 k x1 x15 x16 (wrap64 (x17+1)))else(some false)))else(none))else(none))else(none))else(some true)
end
def iH.f(k:Nat)(l0:List (m_))(l1:List (m_)):Option (Bool):=if(l0.length:Int)=(l1.length:Int)then(iH.l0 k l1 l0 (l0.length:Int) 0)else(some false)
theorem dF.acI(k:Nat)(fH:List (fD))(eX:List ByteArray)(aQ:List (m_))(Ef:List (fD))(Eh:List ByteArray)(C9:List (m_)):dF.f (k+1) fH eX aQ Ef Eh C9=((jM.f k fH Ef).bind fun t107=>(if t107=true then((bQ.f k eX Eh).bind fun agV=>(if agV=true then((iH.f k aQ C9).bind fun t109=>(some t109))else(some false)))else(some false))):=by simp only[dF.f,iH.f]
theorem dF.pair(k:Nat):(∀(mX:Option Addr) (mY:Nat) (fH:List (fD)) (mM:Option Addr) (mO:Nat) (eX:List ByteArray) (jI:Option Addr) (iP:Nat) (aQ:List (m_)) (Va:Option Addr) (Vb:Nat) (Ef:List (fD)) (Vd:Option Addr) (Ve:Nat) (Eh:List ByteArray) (Vf:Option Addr) (Vg:Nat) (C9:List (m_)) (r:Bool) (w:World) (rC:Kd.C rP w mX fH.length fH) (rD:fH.length≤mY) (rE:Kd.C Kd.string w mM eX.length eX) (rG:eX.length≤mO) (nH:Kd.C k28 w jI aQ.length aQ) (nI:aQ.length≤iP) (X4:Kd.C rP w Va Ef.length Ef) (X5:Ef.length≤Vb) (X6:Kd.C Kd.string w Vd Eh.length Eh) (X7:Eh.length≤Ve) (X8:Kd.C k28 w Vf C9.length C9) (X9:C9.length≤Vg) (h:dF.f k fH eX aQ Ef Eh C9=some r),
  Calls Tryz.prog 21 #[.agg #[.slice mX fH.length mY, .slice mM eX.length mO, .slice jI aQ.length iP], .agg #[.slice Va Ef.length Vb, .slice Vd Eh.length Ve, .slice Vf C9.length Vg]] w fun e w'=>e= .returned (.bool r)∧Below w.heap.size w w')∧
  (∀(A0:Option Addr) (c0:Nat) (l0:List (m_)) (A1:Option Addr) (c1:Nat) (l1:List (m_)) (r:Bool) (w:World) (hr0:Kd.C k28 w A0 l0.length l0) (hc0:l0.length≤c0) (hr1:Kd.C k28 w A1 l1.length l1) (hc1:l1.length≤c1) (h:iH.f k l0 l1=some r),
  Calls Tryz.prog 64 #[.slice A0 l0.length c0, .slice A1 l1.length c1, .func (.func 21) #[] #[]] w fun e w'=>e= .returned (.bool r)∧Below w.heap.size w w'):=by
 induction k using Nat.strongRecOn with
 |_ k ih=>
 refine⟨?_,?_⟩
 ·cases k with
  |zero=>intro mX mY fH mM mO eX jI iP aQ Va Vb Ef Vd Ve Eh Vf Vg C9 r w rC rD rE rG nH nI X4 X5 X6 X7 X8 X9 h;exact absurd h (by simp[dF.f])
  |succ k=>
  have ihB:=(ih k (Nat.lt_succ_self k)).2;clear ih;intro mX mY fH mM mO eX jI iP aQ Va Vb Ef Vd Ve Eh Vf Vg C9 r w rC rD rE rG nH nI X4 X5 X6 X7 X8 X9 h;rw[dF.acI]at h;have GN:=underlying28;have uw:=ak rC;have uK:=ak rD;clear rC rD;have xY:=ak rE;have zY:=ak rG;clear rE rG;have lT:=ak nH;have qh:=ak nI;clear nH nI;have aii:=ak X4;have aij:=ak X5;clear X4 X5;have aoB:=ak X6;have aoC:=ak X7;clear X6 X7;have awK:=ak X8;have awL:=ak X9;clear X8 X9;have HB:=ak (Below.refl w.heap.size w);have H:((jM.f k fH Ef).bind fun t107=>(if t107=true then((bQ.f k eX Eh).bind fun agV=>(if agV=true then((iH.f k aQ C9).bind fun t109=>(some t109))else(some false)))else(some false)))=some r:=h;clear h;replace H:=bd H;obtain⟨t107,A3,H⟩:=H;replace H:=sb H;rcases H with⟨rfl,H⟩|⟨rfl,H⟩
  ·replace H:=bd H;obtain⟨agV,A5,H⟩:=H;replace H:=sb H;rcases H with⟨rfl,H⟩|⟨rfl,H⟩
   ·replace H:=bd H;obtain⟨t109,A7,H⟩:=H;obtain rfl:=s1 H;go_enter func21,ntmps21;go_wp2_with (first|(refine bX HB 2 #[.slice mX fH.length mY, .slice mM eX.length mO, .slice jI aQ.length iP] 28 ?_;intro Cj w8 vX aic hb;replace HB:=bs HB hb;clear hb)|(refine bY HB 3 #[.slice Va Ef.length Vb, .slice Vd Eh.length Ve, .slice Vf C9.length Vg] 28 ?_;intro aoD w9 Vh aoE hg hb;have GU:=Bo vX hg;have GV:=Bq vX hg;replace vX:=kb vX hb;replace HB:=bz HB hb;clear hb hg;have aoF:=GU.out;have aoG:=GV.out;have z11:=jY vX.out;have z12:=jY Vh.out)|(refine gA func62 (jM.calls (cu (aK uw.out HB.out)) uK.out (cu (aK aii.out HB.out)) aij.out A3.out) ?_;intro nd)|(go_at_call 63;refine mA (bQ.calls (cu (aK xY.out bb)) zY.out (cu (aK aoB.out bb)) aoC.out A5.out) ?_;intro nd)|(go_at_call 64;refine mB (ihB _ _ aQ _ _ C9 t109 _ (cu (aK lT.out bb)) qh.out (cu (aK awK.out bb)) awL.out A7.out) ?_;intro w13 hb;replace vX:=kb vX hb;replace Vh:=kb Vh hb;replace HB:=bz HB hb;clear hb))
    go_ret;exact⟨er,bb⟩
   ·obtain rfl:=s1 H;go_enter func21,ntmps21;go_wp2_with (first|(refine bX HB 2 #[.slice mX fH.length mY, .slice mM eX.length mO, .slice jI aQ.length iP] 28 ?_;intro Cj Xv vX aic hb;replace HB:=bs HB hb;clear hb)|(refine bY HB 3 #[.slice Va Ef.length Vb, .slice Vd Eh.length Ve, .slice Vf C9.length Vg] 28 ?_;intro aoD w15 Vh aoE hg hb;have GU:=Bo vX hg;have GV:=Bq vX hg;replace vX:=kb vX hb;replace HB:=bz HB hb;clear hb hg;have aJc:=GU.out;have aJd:=GV.out;have z17:=jY vX.out;have z18:=jY Vh.out)|(refine gA func62 (jM.calls (cu (aK uw.out HB.out)) uK.out (cu (aK aii.out HB.out)) aij.out A3.out) ?_;intro nd)|(go_at_call 63;refine mA (bQ.calls (cu (aK xY.out bb)) zY.out (cu (aK aoB.out bb)) aoC.out A5.out) ?_;intro nd))
    go_ret;exact⟨er,bb⟩
  ·obtain rfl:=s1 H;go_enter func21,ntmps21;go_wp2_with (first|(refine bX HB 2 #[.slice mX fH.length mY, .slice mM eX.length mO, .slice jI aQ.length iP] 28 ?_;intro Cj X_ vX aic hb;replace HB:=bs HB hb;clear hb)|(refine bY HB 3 #[.slice Va Ef.length Vb, .slice Vd Eh.length Ve, .slice Vf C9.length Vg] 28 ?_;intro aoD w20 Vh aoE hg hb;have GU:=Bo vX hg;have GV:=Bq vX hg;replace vX:=kb vX hb;replace HB:=bz HB hb;clear hb hg;have aik:=GU.out;have ail:=GV.out;have z22:=jY vX.out;have z23:=jY Vh.out)|(refine gA func62 (jM.calls (cu (aK uw.out HB.out)) uK.out (cu (aK aii.out HB.out)) aij.out A3.out) ?_;intro nd))
   go_ret;exact⟨er,bb⟩
 ·intro A0 c0 l0 A1 c1 l1 r w hr0 hc0 hr1 hc1 h;have GN:=underlying28;have HR0:=ak hr0;have vw:=ak hc0;clear hr0 hc0;have HR1:=ak hr1;have HC1:=ak hc1;clear hr1 hc1;have HB:=ak (Below.refl w.heap.size w);have H:(if(l0.length:Int)=(l1.length:Int)then(iH.l0 k l1 l0 (l0.length:Int) 0)else(some false))=some r:=h;clear h;replace H:=sp H;rcases H with⟨c4,H⟩|⟨c4,H⟩
  ·have qB:=beq_iff_eq.mpr c4;have Vj:=bne_eq_false_iff_eq.mpr c4;have ain:(l0.length==l1.length)=true:=by first|simpa using c4|(simp at c4⊢;omega)
   clear c4;have H':=ak H;clear H;go_enter func64,ntmps64;go_wp2;go_loopg [17] k (fun kq v17 w'=>∃(gX:Int),v17= .int .i64 gX∧ah (iH.l0 kq l1 l0 (l0.length:Int) gX=some r)∧ah (kq≤k)∧ah (Below w.heap.size w w'))
   case atStart=>exact⟨_,rs,H',⟨Nat.le_refl _⟩,⟨ul HB.out⟩⟩
   case round=>
    clear H';try clear c1
    try clear c4
    try clear qB
    try clear Vj
    try clear ain
    obtain⟨gX,rfl,HA,yN,HB⟩:=hrel
    cases gk with
    |zero=>exact zz HA.out
    |succ k1=>
     obtain⟨H⟩:=HA;simp only[iH.l0]at H;replace H:=sd H;rcases H with⟨nO,H⟩|⟨nO,H⟩
     ·replace H:=nY H;obtain⟨nP,H⟩:=H;replace H:=nY H;obtain⟨sK,H⟩:=H;replace H:=nY H;obtain⟨ru,H⟩:=H;replace H:=bd H;obtain⟨awJ,A9,H⟩:=H;replace H:=sb H;rcases H with⟨rfl,H⟩|⟨rfl,H⟩
      ·have H':=ak H;clear H;have acM:=zi gX;have acN:=zj gX l0.length;obtain⟨awM,zG,zH,zI,zJ,zK,zL,asB,N8,N9,N_,Oa,Ob,Oc,Oe,Og,Oh⟩:=Ed HR0.out gX acM acN;cases asB;replace N8:=cl HB.out N8;replace N9:=cl HB.out N9;replace N_:=cl HB.out N_;have Y2:=ak Ob;have Y3:=ak Oa;clear Ob Oa;have Y4:=ak Oe;have Y5:=ak Oc;clear Oe Oc;have Y6:=ak Oh;have Y7:=ak Og;clear Oh Og;replace acM:=eq_true acM;replace acN:=eq_true acN;go_wp2_with (first|(refine bX HB 8 #[.slice none 0 0, .slice none 0 0, .slice none 0 0] 28 ?_;intro tK X0 GX Vk hb;replace HB:=bs HB hb;clear hb;have z12:=jY GX.out;have acO:0≤(gX:Int):=of_decide_eq_true (by assumption);have acP:gX<(l1.length:Int):=of_decide_eq_true (by assumption);obtain⟨Vl,acQ,acR,acS,acT,acU,acV,asC,qc,t_,uf,Oi,Oj,Ol,Om,Oo,Oq⟩:=Ed HR1.out gX acO acP;cases asC;have rY:Vl.block≠tK:=Nat.ne_of_lt (Nat.lt_of_lt_of_le (by have:=World.block_lt_of_cell? _ _ qc;first|rwa [add_block]at this|exact this) Vk.out);have rZ:Vl.block≠tK:=Nat.ne_of_lt (Nat.lt_of_lt_of_le (by have:=World.block_lt_of_cell? _ _ qc;first|rwa [add_block]at this|exact this) Vk.out);have r_:Vl.block≠tK:=Nat.ne_of_lt (Nat.lt_of_lt_of_le (by have:=World.block_lt_of_cell? _ _ qc;first|rwa [add_block]at this|exact this) Vk.out);replace qc:=(HB.out.cell (World.block_lt_of_cell? w _ qc)).trans qc;replace t_:=(HB.out.cell (World.block_lt_of_cell? w _ t_)).trans t_;replace uf:=(HB.out.cell (World.block_lt_of_cell? w _ uf)).trans uf;have Y8:=ak Oj;have Y9:=ak Oi;clear Oj Oi;have Y_:=ak Om;have Za:=ak Ol;clear Om Ol;have Zb:=ak Oq;have Zc:=ak Oo;clear Oq Oo;replace qc:=(cell_far (p:=⟨tK,0,none⟩) (by first|(rw[add_block];exact rY)|(show(Addr.add _ _).block≠_;rw[add_block];exact rY)|exact rY) (.slice zG ((aY l0 gX).f0).length zH)).trans qc;replace t_:=(cell_far (p:=⟨tK,0,none⟩) (by first|(rw[add_block];exact rY)|(show(Addr.add _ _).block≠_;rw[add_block];exact rY)|exact rY) (.slice zG ((aY l0 gX).f0).length zH)).trans t_;replace uf:=(cell_far (p:=⟨tK,0,none⟩) (by first|(rw[add_block];exact rY)|(show(Addr.add _ _).block≠_;rw[add_block];exact rY)|exact rY) (.slice zG ((aY l0 gX).f0).length zH)).trans uf;replace qc:=(cell_far (p:=⟨tK,1,none⟩) (by first|(rw[add_block];exact rZ)|(show(Addr.add _ _).block≠_;rw[add_block];exact rZ)|exact rZ) (.slice zI ((aY l0 gX).f1).length zJ)).trans qc;replace t_:=(cell_far (p:=⟨tK,1,none⟩) (by first|(rw[add_block];exact rZ)|(show(Addr.add _ _).block≠_;rw[add_block];exact rZ)|exact rZ) (.slice zI ((aY l0 gX).f1).length zJ)).trans t_;replace uf:=(cell_far (p:=⟨tK,1,none⟩) (by first|(rw[add_block];exact rZ)|(show(Addr.add _ _).block≠_;rw[add_block];exact rZ)|exact rZ) (.slice zI ((aY l0 gX).f1).length zJ)).trans uf;replace qc:=(cell_far (p:=⟨tK,2,none⟩) (by first|(rw[add_block];exact r_)|(show(Addr.add _ _).block≠_;rw[add_block];exact r_)|exact r_) (.slice zK ((aY l0 gX).f2).length zL)).trans qc;replace t_:=(cell_far (p:=⟨tK,2,none⟩) (by first|(rw[add_block];exact r_)|(show(Addr.add _ _).block≠_;rw[add_block];exact r_)|exact r_) (.slice zK ((aY l0 gX).f2).length zL)).trans t_;replace uf:=(cell_far (p:=⟨tK,2,none⟩) (by first|(rw[add_block];exact r_)|(show(Addr.add _ _).block≠_;rw[add_block];exact r_)|exact r_) (.slice zK ((aY l0 gX).f2).length zL)).trans uf;clear rY;clear rZ;clear r_;replace acO:=eq_true acO;replace acP:=eq_true acP)|(refine bY HB 9 #[.slice none 0 0, .slice none 0 0, .slice none 0 0] 28 ?_;intro aaL w13 Vm awN hg hb;have QT:=ak ((by rw[hg];exact Nat.ne_of_lt (xX (g:=tK) (o:= .cells #[.slice zG ((aY l0 gX).f0).length zH, .slice zI ((aY l0 gX).f1).length zJ, .slice zK ((aY l0 gX).f2).length zL] 28 (0,0)) bq):tK≠aaL));have QU:=ak ((by rw[hg];exact Nat.ne_of_gt (xX (g:=tK) (o:= .cells #[.slice zG ((aY l0 gX).f0).length zH, .slice zI ((aY l0 gX).f1).length zJ, .slice zK ((aY l0 gX).f2).length zL] 28 (0,0)) bq):aaL≠tK));replace GX:=kp GX #[.slice zG ((aY l0 gX).f0).length zH, .slice zI ((aY l0 gX).f1).length zJ, .slice zK ((aY l0 gX).f2).length zL] hb;replace HB:=bz HB hb;clear hb hg;have aJe:=QU.out;have aJf:=QT.out;have z15:=jY Vm.out;have z16:=jY GX.out)|(go_at_call 21;refine mB ((ih k1 (by have:=yN.out;omega)).1 _ _ ((aY l0 gX).f0) _ _ ((aY l0 gX).f1) _ _ ((aY l0 gX).f2) _ _ ((aY l1 gX).f0) _ _ ((aY l1 gX).f1) _ _ ((aY l1 gX).f2) true _ (aK Y2.out bb) Y3.out (aK Y4.out bb) Y5.out (aK Y6.out bb) Y7.out (aK Y8.out bb) Y9.out (aK Y_.out bb) Za.out (aK Zb.out bb) Zc.out A9.out) ?_;intro w17 hb;replace GX:=kp GX #[.slice zG ((aY l0 gX).f0).length zH, .slice zI ((aY l0 gX).f1).length zJ, .slice zK ((aY l0 gX).f2).length zL] hb;replace Vm:=kp Vm #[.slice acQ ((aY l1 gX).f0).length acR, .slice acS ((aY l1 gX).f1).length acT, .slice acU ((aY l1 gX).f2).length acV] hb;replace HB:=bz HB hb;clear hb))
       go_roundg k1
       case measure=>exact kl
       case rel=>exact⟨_,rs,H',⟨kl⟩,⟨bb⟩⟩
      ·obtain rfl:=s1 H;have acM:=zi gX;have acN:=zj gX l0.length;obtain⟨awM,zG,zH,zI,zJ,zK,zL,asB,N8,N9,N_,Oa,Ob,Oc,Oe,Og,Oh⟩:=Ed HR0.out gX acM acN;cases asB;replace N8:=cl HB.out N8;replace N9:=cl HB.out N9;replace N_:=cl HB.out N_;have Y2:=ak Ob;have Y3:=ak Oa;clear Ob Oa;have Y4:=ak Oe;have Y5:=ak Oc;clear Oe Oc;have Y6:=ak Oh;have Y7:=ak Og;clear Oh Og;replace acM:=eq_true acM;replace acN:=eq_true acN;go_wp2_with (first|(refine bX HB 8 #[.slice none 0 0, .slice none 0 0, .slice none 0 0] 28 ?_;intro tK w18 GX Vk hb;replace HB:=bs HB hb;clear hb;have z19:=jY GX.out;have acO:0≤(gX:Int):=of_decide_eq_true (by assumption);have acP:gX<(l1.length:Int):=of_decide_eq_true (by assumption);obtain⟨Vl,acQ,acR,acS,acT,acU,acV,asC,qc,t_,uf,Oi,Oj,Ol,Om,Oo,Oq⟩:=Ed HR1.out gX acO acP;cases asC;have rY:Vl.block≠tK:=Nat.ne_of_lt (Nat.lt_of_lt_of_le (by have:=World.block_lt_of_cell? _ _ qc;first|rwa [add_block]at this|exact this) Vk.out);have rZ:Vl.block≠tK:=Nat.ne_of_lt (Nat.lt_of_lt_of_le (by have:=World.block_lt_of_cell? _ _ qc;first|rwa [add_block]at this|exact this) Vk.out);have r_:Vl.block≠tK:=Nat.ne_of_lt (Nat.lt_of_lt_of_le (by have:=World.block_lt_of_cell? _ _ qc;first|rwa [add_block]at this|exact this) Vk.out);replace qc:=(HB.out.cell (World.block_lt_of_cell? w _ qc)).trans qc;replace t_:=(HB.out.cell (World.block_lt_of_cell? w _ t_)).trans t_;replace uf:=(HB.out.cell (World.block_lt_of_cell? w _ uf)).trans uf;have Y8:=ak Oj;have Y9:=ak Oi;clear Oj Oi;have Y_:=ak Om;have Za:=ak Ol;clear Om Ol;have Zb:=ak Oq;have Zc:=ak Oo;clear Oq Oo;replace qc:=(cell_far (p:=⟨tK,0,none⟩) (by first|(rw[add_block];exact rY)|(show(Addr.add _ _).block≠_;rw[add_block];exact rY)|exact rY) (.slice zG ((aY l0 gX).f0).length zH)).trans qc;replace t_:=(cell_far (p:=⟨tK,0,none⟩) (by first|(rw[add_block];exact rY)|(show(Addr.add _ _).block≠_;rw[add_block];exact rY)|exact rY) (.slice zG ((aY l0 gX).f0).length zH)).trans t_;replace uf:=(cell_far (p:=⟨tK,0,none⟩) (by first|(rw[add_block];exact rY)|(show(Addr.add _ _).block≠_;rw[add_block];exact rY)|exact rY) (.slice zG ((aY l0 gX).f0).length zH)).trans uf;replace qc:=(cell_far (p:=⟨tK,1,none⟩) (by first|(rw[add_block];exact rZ)|(show(Addr.add _ _).block≠_;rw[add_block];exact rZ)|exact rZ) (.slice zI ((aY l0 gX).f1).length zJ)).trans qc;replace t_:=(cell_far (p:=⟨tK,1,none⟩) (by first|(rw[add_block];exact rZ)|(show(Addr.add _ _).block≠_;rw[add_block];exact rZ)|exact rZ) (.slice zI ((aY l0 gX).f1).length zJ)).trans t_;replace uf:=(cell_far (p:=⟨tK,1,none⟩) (by first|(rw[add_block];exact rZ)|(show(Addr.add _ _).block≠_;rw[add_block];exact rZ)|exact rZ) (.slice zI ((aY l0 gX).f1).length zJ)).trans uf;replace qc:=(cell_far (p:=⟨tK,2,none⟩) (by first|(rw[add_block];exact r_)|(show(Addr.add _ _).block≠_;rw[add_block];exact r_)|exact r_) (.slice zK ((aY l0 gX).f2).length zL)).trans qc;replace t_:=(cell_far (p:=⟨tK,2,none⟩) (by first|(rw[add_block];exact r_)|(show(Addr.add _ _).block≠_;rw[add_block];exact r_)|exact r_) (.slice zK ((aY l0 gX).f2).length zL)).trans t_;replace uf:=(cell_far (p:=⟨tK,2,none⟩) (by first|(rw[add_block];exact r_)|(show(Addr.add _ _).block≠_;rw[add_block];exact r_)|exact r_) (.slice zK ((aY l0 gX).f2).length zL)).trans uf;clear rY;clear rZ;clear r_;replace acO:=eq_true acO;replace acP:=eq_true acP)|(refine bY HB 9 #[.slice none 0 0, .slice none 0 0, .slice none 0 0] 28 ?_;intro aaL w20 Vm awN hg hb;have QT:=ak ((by rw[hg];exact Nat.ne_of_lt (xX (g:=tK) (o:= .cells #[.slice zG ((aY l0 gX).f0).length zH, .slice zI ((aY l0 gX).f1).length zJ, .slice zK ((aY l0 gX).f2).length zL] 28 (0,0)) bq):tK≠aaL));have QU:=ak ((by rw[hg];exact Nat.ne_of_gt (xX (g:=tK) (o:= .cells #[.slice zG ((aY l0 gX).f0).length zH, .slice zI ((aY l0 gX).f1).length zJ, .slice zK ((aY l0 gX).f2).length zL] 28 (0,0)) bq):aaL≠tK));replace GX:=kp GX #[.slice zG ((aY l0 gX).f0).length zH, .slice zI ((aY l0 gX).f1).length zJ, .slice zK ((aY l0 gX).f2).length zL] hb;replace HB:=bz HB hb;clear hb hg;have aik:=QU.out;have ail:=QT.out;have z22:=jY Vm.out;have z23:=jY GX.out)|(go_at_call 21;refine mB ((ih k1 (by have:=yN.out;omega)).1 _ _ ((aY l0 gX).f0) _ _ ((aY l0 gX).f1) _ _ ((aY l0 gX).f2) _ _ ((aY l1 gX).f0) _ _ ((aY l1 gX).f1) _ _ ((aY l1 gX).f2) false _ (aK Y2.out bb) Y3.out (aK Y4.out bb) Y5.out (aK Y6.out bb) Y7.out (aK Y8.out bb) Y9.out (aK Y_.out bb) Za.out (aK Zb.out bb) Zc.out A9.out) ?_;intro w24 hb;replace GX:=kp GX #[.slice zG ((aY l0 gX).f0).length zH, .slice zI ((aY l0 gX).f1).length zJ, .slice zK ((aY l0 gX).f2).length zL] hb;replace Vm:=kp Vm #[.slice acQ ((aY l1 gX).f0).length acR, .slice acS ((aY l1 gX).f1).length acT, .slice acU ((aY l1 gX).f2).length acV] hb;replace HB:=bz HB hb;clear hb))
       go_ret;exact⟨er,bb⟩
     ·obtain rfl:=s1 H;go_wp2;go_ret;exact⟨er,ul HB.out⟩
  ·have qB:=beq_eq_false_iff_ne.mpr c4;have Vj:=bne_iff_ne.mpr c4;have ain:(l0.length==l1.length)=false:=by first|simpa using c4|(simp at c4⊢;omega)
   obtain rfl:=s1 H;go_enter func64,ntmps64;go_wp2;go_ret;exact⟨er,ul HB.out⟩
theorem dF.calls{k mY mO iP Vb Ve Vg:Nat}{mX mM jI Va Vd Vf:Option Addr}{fH Ef:List (fD)}{eX Eh:List ByteArray}{aQ C9:List (m_)}{r:Bool}{w:World}(rC:Kd.C rP w mX fH.length fH)(rD:fH.length≤mY)(rE:Kd.C Kd.string w mM eX.length eX)(rG:eX.length≤mO)(nH:Kd.C k28 w jI aQ.length aQ)(nI:aQ.length≤iP)(X4:Kd.C rP w Va Ef.length Ef)(X5:Ef.length≤Vb)(X6:Kd.C Kd.string w Vd Eh.length Eh)(X7:Eh.length≤Ve)(X8:Kd.C k28 w Vf C9.length C9)(X9:C9.length≤Vg)(h:dF.f k fH eX aQ Ef Eh C9=some r):
  Calls Tryz.prog 21 #[.agg #[.slice mX fH.length mY, .slice mM eX.length mO, .slice jI aQ.length iP], .agg #[.slice Va Ef.length Vb, .slice Vd Eh.length Ve, .slice Vf C9.length Vg]] w fun e w'=>e= .returned (.bool r)∧Below w.heap.size w w':=(dF.pair k).1 mX mY fH mM mO eX jI iP aQ Va Vb Ef Vd Ve Eh Vf Vg C9 r w rC rD rE rG nH nI X4 X5 X6 X7 X8 X9 h
theorem iH.calls{k c0 c1:Nat}{A0 A1:Option Addr}{l0 l1:List (m_)}{r:Bool}{w:World}(hr0:Kd.C k28 w A0 l0.length l0)(hc0:l0.length≤c0)(hr1:Kd.C k28 w A1 l1.length l1)(hc1:l1.length≤c1)(h:iH.f k l0 l1=some r):
  Calls Tryz.prog 64 #[.slice A0 l0.length c0, .slice A1 l1.length c1, .func (.func 21) #[] #[]] w fun e w'=>e= .returned (.bool r)∧Below w.heap.size w w':=(dF.pair k).2 A0 c0 l0 A1 c1 l1 r w hr0 hc0 hr1 hc1 h
set_option maxHeartbeats 8000000
set_option maxRecDepth 100000
mutual
def aU.l0:Nat→ByteArray→Int→Option (Bool)
 |0,_,_=>none
 |k+1,x0,x3=>if x3<(x0.size:Int)then(aU.j1 k x0 x3 (decide (x3≤200)))else(aU.j1 k x0 x3 false)
def aU.j1:Nat→ByteArray→Int→Bool→Option (Bool)
 |0,_,_,_=>none
 |k+1,x0,x3,x11=>if x11=true then(if 0≤x3 then(if x3<(x0.size:Int)then(if(bt x0 x3)<32 then(some false)else(if(bt x0 x3)>126 then(some false)else(aU.l0 k x0 (wrap64 (x3+1)))))else(none))else(none))else(some (decide ((x0.size:Int)≤200)))
end
def aU.f(k:Nat)(a0:ByteArray):Option (Bool):=aU.l0 k a0 0
theorem aU.calls{k:Nat}{a0:ByteArray}{r:Bool}{w:World}(h:aU.f k a0=some r):
  Calls Tryz.prog 159 #[.string a0] w fun e w'=>e= .returned (.bool r)∧dR w w':=by
 unfold aU.f at h;have H:=h;clear h;have H':=ak H;clear H;go_enter func159,ntmps159;go_wp2;go_loopg [3] k (fun kq v3 w'=>∃(eG:Int),v3= .int .i64 eG∧ah (aU.l0 kq a0 eG=some r)∧ah (kq≤k)∧dR w w')
 case atStart=>exact⟨_,rs,H',⟨Nat.le_refl _⟩,dn⟩
 case round=>
  clear H';obtain⟨eG,rfl,HA,yN,⟨m1,rfl⟩⟩:=hrel
  cases gk with
  |zero=>exact zz HA.out
  |succ k1=>
   obtain⟨H⟩:=HA;simp only[aU.l0]at H;have HC2:=ak H;clear H;go_upto_region 2 with(fail)
   go_cut [11] (fun v11 wc=>∃(kq:Nat) (yu:Bool),v11= .bool yu∧ah (aU.j1 kq a0 eG yu=some r)∧ah (kq≤k1)∧dR w wc)
   case first=>
    have H:=HC2.out;clear HC2;replace H:=sd H;rcases H with⟨jd,H⟩|⟨jd,H⟩
    ·(first|rw[jd]|(simp only[gU,jP];rw[jd])|skip);have H':=ak H;clear H;go_wp2;go_meet
     case rel=>exact⟨_,_,rs,H',⟨kl⟩,dn⟩
    ·(first|rw[jd]|(simp only[gU,jP];rw[jd])|skip);have H':=ak H;clear H;go_wp2;go_meet
     case rel=>exact⟨_,_,rs,H',⟨kl⟩,dn⟩
   case rest=>
    clear HC2;obtain⟨kq,yu,rfl,HA,HJ1,⟨mc1,rfl⟩⟩:=hcut
    cases kq with
    |zero=>exact zz HA.out
    |succ TM=>
     obtain⟨H⟩:=HA;simp only[aU.j1]at H;replace H:=sb H;rcases H with⟨rfl,H⟩|⟨rfl,H⟩
     ·replace H:=nY H;obtain⟨nO,H⟩:=H;replace H:=nY H;obtain⟨nP,H⟩:=H;replace H:=sd H;rcases H with⟨ru,H⟩|⟨ru,H⟩
      ·obtain rfl:=s1 H;obtain⟨p7,q7,hx7⟩:=bx a0 eG;go_wp2;go_ret;exact⟨rs,dn⟩
      ·replace H:=sp H;rcases H with⟨c10,H⟩|⟨c10,H⟩
       ·have qj:decide (126<(bt a0 eG))=true:=decide_eq_true c10;clear c10;obtain rfl:=s1 H;obtain⟨p7,q7,hx7⟩:=bx a0 eG;obtain⟨p9,q9,hx9⟩:=bx a0 eG;go_wp2;go_ret;exact⟨rs,dn⟩
       ·have qj:decide (126<(bt a0 eG))=false:=decide_eq_false c10;clear c10;have H':=ak H;clear H;obtain⟨p7,q7,hx7⟩:=bx a0 eG;obtain⟨p9,q9,hx9⟩:=bx a0 eG;go_wp2;go_roundg TM
        case measure=>exact kl
        case rel=>exact⟨_,rs,H',⟨kl⟩,dn⟩
     ·obtain rfl:=s1 H;go_wp2;go_ret;exact⟨rs,dn⟩
mutual
def bI.j1:Nat→ByteArray→Option (ByteArray)
 |0,_=>none
 |k+1,x0=>bI.l1 k x0
def bI.l1:Nat→ByteArray→Option (ByteArray)
 |0,_=>none
 |k+1,x0=>if(x0.size:Int)>0 then(if 0≤(wrap64 ((x0.size:Int)-1))then(if(wrap64 ((x0.size:Int)-1))<(x0.size:Int)then(if(bt x0 (wrap64 ((x0.size:Int)-1)))=32 then(if(wrap64 ((x0.size:Int)-1))≤(x0.size:Int)then(bI.l1 k (x0.extract 0 ((wrap64 ((x0.size:Int)-1)):Int).toNat))else(none))else(some x0))else(none))else(none))else(some x0)
def bI.l0:Nat→ByteArray→Option (ByteArray)
 |0,_=>none
 |k+1,x0=>if(x0.size:Int)>0 then(if 0<(x0.size:Int)then(if(bt x0 0)=32 then(if 1≤(x0.size:Int)then(bI.l0 k (x0.extract 1 x0.size))else(none))else(bI.j1 k x0))else(none))else(bI.j1 k x0)
end
def bI.f(k:Nat)(a0:ByteArray):Option (ByteArray):=bI.l0 k a0
theorem bI.calls{k:Nat}{a0 r:ByteArray}{w:World}(h:bI.f k a0=some r):
  Calls Tryz.prog 179 #[.string a0] w fun e w'=>e= .returned (.string r)∧dR w w':=by
 unfold bI.f at h;have H:=h;clear h;have HC2:=ak H;clear H;go_enter func179,ntmps179;go_upto_block 0 with(fail)
 go_cut [0] (fun v0 wc=>∃(kq:Nat) (uX:ByteArray),v0= .string uX∧ah (bI.j1 kq uX=some r)∧ah (kq≤k)∧dR w wc)
 case first=>
  have H:=HC2.out;clear HC2;have H':=ak H;clear H;go_wp2;go_loopg [0] k (fun kq v0 w'=>∃(uX:ByteArray),v0= .string uX∧ah (bI.l0 kq uX=some r)∧ah (kq≤k)∧dR w w')
  case atStart=>exact⟨_,rs,H',⟨Nat.le_refl _⟩,dn⟩
  case round=>
   clear H';obtain⟨uX,rfl,HA,yN,⟨m1,rfl⟩⟩:=hrel
   cases gk with
   |zero=>exact zz HA.out
   |succ k1=>
    obtain⟨H⟩:=HA;simp only[bI.l0]at H;replace H:=sp H;rcases H with⟨c3,H⟩|⟨c3,H⟩
    ·have jd:decide (0<(uX.size:Int))=true:=decide_eq_true c3;have yQ:decide (0<uX.size)=true:=decide_eq_true (by omega);clear c3
     (first|rw[jd]|(simp only[gU,jP];rw[jd])|skip);replace H:=nn H;obtain⟨c4,H⟩:=H;have qB:=decide_eq_true c4;have Vj:decide (0<uX.size)=true:=decide_eq_true (by omega);clear c4;replace H:=sq H;rcases H with⟨nP,zM,H⟩|⟨c6,nP,zM,H⟩
     ·replace H:=zh H;obtain⟨sK,Jy,H⟩:=H;have H':=ak H;clear H;have p5:0≤(0:Int):=(by omega)
      have q5:0<uX.size:=(by have:(0:Int)<(uX.size:Int):=of_decide_eq_true (by assumption);omega)
      have hx5:∀h:0<uX.size,((uX[0]'h).toNat:Int)=bt uX 0:=wU uX 0;clear p5;have qi5:(0<(uX.size:Int))=True:=eq_true (of_decide_eq_true (by assumption));replace q5:=eq_true q5;go_wp2;go_roundg k1
      case measure=>exact kl
      case rel=>exact⟨_,rs,H',⟨kl⟩,dn⟩
     ·have H':=ak H;clear H;have p5:0≤(0:Int):=(by omega)
      have q5:0<uX.size:=(by have:(0:Int)<(uX.size:Int):=of_decide_eq_true (by assumption);omega)
      have hx5:∀h:0<uX.size,((uX[0]'h).toNat:Int)=bt uX 0:=wU uX 0;clear p5;have qi5:(0<(uX.size:Int))=True:=eq_true (of_decide_eq_true (by assumption));replace q5:=eq_true q5;go_wp2;go_meet
      case rel=>exact⟨_,_,rs,H',⟨kl⟩,dn⟩
    ·have jd:decide (0<(uX.size:Int))=false:=decide_eq_false c3;have yQ:decide (0<uX.size)=false:=decide_eq_false (by omega);clear c3
     (first|rw[jd]|(simp only[gU,jP];rw[jd])|skip);have H':=ak H;clear H;go_wp2;go_meet
     case rel=>exact⟨_,_,rs,H',⟨kl⟩,dn⟩
 case rest=>
  clear HC2;obtain⟨kq,uX,rfl,HA,HJ1,⟨mc1,rfl⟩⟩:=hcut
  cases kq with
  |zero=>exact zz HA.out
  |succ TM=>
   obtain⟨H⟩:=HA;simp only[bI.j1]at H;have H':=ak H;clear H;go_wp2;go_loopg [0] TM (fun kq v0 w'=>∃(Ll:ByteArray),v0= .string Ll∧ah (bI.l1 kq Ll=some r)∧ah (kq≤TM)∧dR w w')
   case atStart=>exact⟨_,rs,H',⟨Nat.le_refl _⟩,dn⟩
   case round=>
    clear H';obtain⟨Ll,rfl,HA,HK2,⟨m2,rfl⟩⟩:=hrel
    cases gk with
    |zero=>exact zz HA.out
    |succ k2=>
     obtain⟨H⟩:=HA;simp only[bI.l1]at H;replace H:=sp H;rcases H with⟨c8,H⟩|⟨c8,H⟩
     ·have ru:decide (0<(Ll.size:Int))=true:=decide_eq_true c8;have BI:decide (0<Ll.size)=true:=decide_eq_true (by omega);clear c8;obtain⟨NZ,Fh⟩:∃j_:Int,(wrap64 ((Ll.size:Int)-1))=j_:=⟨_,rfl⟩
      replace H:(if 0≤(NZ)then(if(NZ)<(Ll.size:Int)then(if(bt Ll (NZ))=32 then(if(NZ)≤(Ll.size:Int)then(bI.l1 k2 (Ll.extract 0 ((NZ):Int).toNat))else(none))else(some Ll))else(none))else(none))=some r:=by first|(rw[Fh]at H;exact H)|(simp only[Fh]at H⊢;exact H)
      have aio:(IntKind.i64.wrap ((Ll.size:Int)-1))=NZ:=(gU _).trans Fh;replace H:=nY H;obtain⟨qj,H⟩:=H;replace H:=nY H;obtain⟨uM,H⟩:=H;replace H:=sq H;rcases H with⟨xE,Bz,H⟩|⟨c13,xE,Bz,H⟩
      ·have uy:=eq_true (of_decide_eq_true (by assumption):0≤(NZ));replace H:=zh H;obtain⟨uz,Cm,H⟩:=H;have H':=ak H;clear H;obtain⟨p12,q12,asD⟩:=bx Ll (NZ);go_wp2;go_roundg k2
       case measure=>exact kl
       case rel=>exact⟨_,(by first|rfl|(simp;done)|(simp only[←Fh]<;>(first|rfl|simp))|(simp[*];done)),H',⟨kl⟩,dn⟩
      ·obtain rfl:=s1 H;obtain⟨p12,q12,asD⟩:=bx Ll (NZ);go_wp2;go_ret;exact⟨by first|rfl|(simp;done)|(simp only[←Fh]<;>(first|rfl|simp))|(simp[*];done),dn⟩
     ·have ru:decide (0<(Ll.size:Int))=false:=decide_eq_false c8;have BI:decide (0<Ll.size)=false:=decide_eq_false (by omega);clear c8;obtain rfl:=s1 H;go_wp2;go_ret;exact⟨rs,dn⟩
def iQ.f(a0:Int):Option (Bool):=if a0≥97 then(if a0≤122 then(some true)else(if a0≥65 then(if a0≤90 then(some true)else(if a0≥48 then(some (decide (a0≤57)))else(some false)))else(if a0≥48 then(some (decide (a0≤57)))else(some false))))else(if a0≥65 then(if a0≤90 then(some true)else(if a0≥48 then(some (decide (a0≤57)))else(some false)))else(if a0≥48 then(some (decide (a0≤57)))else(some false)))
theorem iQ.calls{a0:Int}{r:Bool}{w:World}(h:iQ.f a0=some r):
  Calls Tryz.prog 183 #[.int .u8 a0] w fun e w'=>e= .returned (.bool r)∧dR w w':=by
 unfold iQ.f at h;have H:=h;clear h;replace H:=sp H;rcases H with⟨c2,H⟩|⟨c2,H⟩
 ·have rQ:decide (97≤a0)=true:=decide_eq_true c2;clear c2;replace H:=sd H;rcases H with⟨jd,H⟩|⟨jd,H⟩
  ·obtain rfl:=s1 H;go_enter func183,ntmps183;go_wp2;go_ret;exact⟨rs,dn⟩
  ·replace H:=sp H;rcases H with⟨c4,H⟩|⟨c4,H⟩
   ·have qB:decide (65≤a0)=true:=decide_eq_true c4;clear c4;replace H:=sd H;rcases H with⟨nO,H⟩|⟨nO,H⟩
    ·obtain rfl:=s1 H;go_enter func183,ntmps183;go_wp2;go_ret;exact⟨rs,dn⟩
    ·replace H:=sp H;rcases H with⟨c6,H⟩|⟨c6,H⟩
     ·have nP:decide (48≤a0)=true:=decide_eq_true c6;clear c6;obtain rfl:=s1 H;go_enter func183,ntmps183;go_wp2;go_ret;exact⟨rs,dn⟩
     ·have nP:decide (48≤a0)=false:=decide_eq_false c6;clear c6;obtain rfl:=s1 H;go_enter func183,ntmps183;go_wp2;go_ret;exact⟨rs,dn⟩
   ·have qB:decide (65≤a0)=false:=decide_eq_false c4;clear c4;replace H:=sp H;rcases H with⟨c7,H⟩|⟨c7,H⟩
    ·have sK:decide (48≤a0)=true:=decide_eq_true c7;clear c7;obtain rfl:=s1 H;go_enter func183,ntmps183;go_wp2;go_ret;exact⟨rs,dn⟩
    ·have sK:decide (48≤a0)=false:=decide_eq_false c7;clear c7;obtain rfl:=s1 H;go_enter func183,ntmps183;go_wp2;go_ret;exact⟨rs,dn⟩
 ·have rQ:decide (97≤a0)=false:=decide_eq_false c2;clear c2;replace H:=sp H;rcases H with⟨c8,H⟩|⟨c8,H⟩
  ·have ru:decide (65≤a0)=true:=decide_eq_true c8;clear c8;replace H:=sd H;rcases H with⟨xG,H⟩|⟨xG,H⟩
   ·obtain rfl:=s1 H;go_enter func183,ntmps183;go_wp2;go_ret;exact⟨rs,dn⟩
   ·replace H:=sp H;rcases H with⟨c10,H⟩|⟨c10,H⟩
    ·have qj:decide (48≤a0)=true:=decide_eq_true c10;clear c10;obtain rfl:=s1 H;go_enter func183,ntmps183;go_wp2;go_ret;exact⟨rs,dn⟩
    ·have qj:decide (48≤a0)=false:=decide_eq_false c10;clear c10;obtain rfl:=s1 H;go_enter func183,ntmps183;go_wp2;go_ret;exact⟨rs,dn⟩
  ·have ru:decide (65≤a0)=false:=decide_eq_false c8;clear c8;replace H:=sp H;rcases H with⟨c11,H⟩|⟨c11,H⟩
   ·have uM:decide (48≤a0)=true:=decide_eq_true c11;clear c11;obtain rfl:=s1 H;go_enter func183,ntmps183;go_wp2;go_ret;exact⟨rs,dn⟩
   ·have uM:decide (48≤a0)=false:=decide_eq_false c11;clear c11;obtain rfl:=s1 H;go_enter func183,ntmps183;go_wp2;go_ret;exact⟨rs,dn⟩
mutual
def cZ.l0:Nat→ByteArray→Int→Option (Bool)
 |0,_,_=>none
 |k+1,x0,x3=>if x3<(x0.size:Int)then(cZ.j1 k x0 x3 (decide (x3≤30)))else(cZ.j1 k x0 x3 false)
def cZ.j1:Nat→ByteArray→Int→Bool→Option (Bool)
 |0,_,_,_=>none
 |k+1,x0,x3,x11=>if x11=true then(if 0≤x3 then(if x3<(x0.size:Int)then((iQ.f (bt x0 x3)).bind fun awO=>(if awO=true then(if x3=0 then(if(bt x0 x3)≤57 then(some false)else(cZ.l0 k x0 (wrap64 (x3+1))))else(cZ.l0 k x0 (wrap64 (x3+1))))else(if(bt x0 x3)=45 then(if x3=0 then(if(bt x0 x3)≤57 then(some false)else(cZ.l0 k x0 (wrap64 (x3+1))))else(cZ.l0 k x0 (wrap64 (x3+1))))else(some false))))else(none))else(none))else(if(x0.size:Int)≥1 then(some (decide ((x0.size:Int)≤30)))else(some false))
end
def cZ.f(k:Nat)(a0:ByteArray):Option (Bool):=cZ.l0 k a0 0
theorem cZ.calls{k:Nat}{a0:ByteArray}{r:Bool}{w:World}(h:cZ.f k a0=some r):
  Calls Tryz.prog 184 #[.string a0] w fun e w'=>e= .returned (.bool r)∧dR w w':=by
 unfold cZ.f at h;have H:=h;clear h;have H':=ak H;clear H;go_enter func184,ntmps184;go_wp2;go_loopg [3] k (fun kq v3 w'=>∃(eG:Int),v3= .int .i64 eG∧ah (cZ.l0 kq a0 eG=some r)∧ah (kq≤k)∧dR w w')
 case atStart=>exact⟨_,rs,H',⟨Nat.le_refl _⟩,dn⟩
 case round=>
  clear H';obtain⟨eG,rfl,HA,yN,⟨m1,rfl⟩⟩:=hrel
  cases gk with
  |zero=>exact zz HA.out
  |succ k1=>
   obtain⟨H⟩:=HA;simp only[cZ.l0]at H;have HC2:=ak H;clear H;go_upto_region 2 with(fail)
   go_cut [11] (fun v11 wc=>∃(kq:Nat) (yu:Bool),v11= .bool yu∧ah (cZ.j1 kq a0 eG yu=some r)∧ah (kq≤k1)∧dR w wc)
   case first=>
    have H:=HC2.out;clear HC2;replace H:=sd H;rcases H with⟨jd,H⟩|⟨jd,H⟩
    ·(first|rw[jd]|(simp only[gU,jP];rw[jd])|skip);have H':=ak H;clear H;go_wp2;go_meet
     case rel=>exact⟨_,_,rs,H',⟨kl⟩,dn⟩
    ·(first|rw[jd]|(simp only[gU,jP];rw[jd])|skip);have H':=ak H;clear H;go_wp2;go_meet
     case rel=>exact⟨_,_,rs,H',⟨kl⟩,dn⟩
   case rest=>
    clear HC2;obtain⟨kq,yu,rfl,HA,HJ1,⟨mc1,rfl⟩⟩:=hcut
    cases kq with
    |zero=>exact zz HA.out
    |succ TM=>
     obtain⟨H⟩:=HA;simp only[cZ.j1]at H;replace H:=sb H;rcases H with⟨rfl,H⟩|⟨rfl,H⟩
     ·replace H:=nY H;obtain⟨nO,H⟩:=H;replace H:=nY H;obtain⟨nP,H⟩:=H;replace H:=bd H;obtain⟨awO,A8,H⟩:=H;replace H:=sb H;rcases H with⟨rfl,H⟩|⟨rfl,H⟩
      ·replace H:=sq H;rcases H with⟨qj,uN,H⟩|⟨c10,qj,uN,H⟩
       ·replace H:=sd H;rcases H with⟨vH,H⟩|⟨vH,H⟩
        ·obtain rfl:=s1 H;obtain⟨p7,q7,hx7⟩:=bx a0 eG;go_wp2_with (refine gA func183 (iQ.calls A8.out) ?_;intro nd;have p11:0≤(eG:Int):=of_decide_eq_true (by assumption);have q11:eG<(a0.size:Int):=of_decide_eq_true (by assumption);have aaM:=wU a0 eG;replace p11:=eq_true p11;replace q11:=eq_true q11)
         go_ret;exact⟨rs,dn⟩
        ·have H':=ak H;clear H;obtain⟨p7,q7,hx7⟩:=bx a0 eG;go_wp2_with (refine gA func183 (iQ.calls A8.out) ?_;intro nd;have p11:0≤(eG:Int):=of_decide_eq_true (by assumption);have q11:eG<(a0.size:Int):=of_decide_eq_true (by assumption);have aaM:=wU a0 eG;replace p11:=eq_true p11;replace q11:=eq_true q11)
         go_roundg TM
         case measure=>exact kl
         case rel=>exact⟨_,rs,H',⟨kl⟩,dn⟩
       ·have H':=ak H;clear H;obtain⟨p7,q7,hx7⟩:=bx a0 eG;go_wp2_with (refine gA func183 (iQ.calls A8.out) ?_;intro nd)
        go_roundg TM
        case measure=>exact kl
        case rel=>exact⟨_,rs,H',⟨kl⟩,dn⟩
      ·replace H:=sq H;rcases H with⟨uy,xH,H⟩|⟨c14,uy,xH,H⟩
       ·replace H:=sq H;rcases H with⟨uz,Cm,H⟩|⟨c15,uz,Cm,H⟩
        ·replace H:=sd H;rcases H with⟨vY,H⟩|⟨vY,H⟩
         ·obtain rfl:=s1 H;obtain⟨p7,q7,hx7⟩:=bx a0 eG;go_wp2_with (refine gA func183 (iQ.calls A8.out) ?_;intro nd;have p13:0≤(eG:Int):=of_decide_eq_true (by assumption);have q13:eG<(a0.size:Int):=of_decide_eq_true (by assumption);have acW:=wU a0 eG;replace p13:=eq_true p13;replace q13:=eq_true q13;have p16:0≤(eG:Int):=of_decide_eq_true (by assumption);have q16:eG<(a0.size:Int):=of_decide_eq_true (by assumption);have hx16:=wU a0 eG;replace p16:=eq_true p16;replace q16:=eq_true q16)
          go_ret;exact⟨rs,dn⟩
         ·have H':=ak H;clear H;obtain⟨p7,q7,hx7⟩:=bx a0 eG;go_wp2_with (refine gA func183 (iQ.calls A8.out) ?_;intro nd;have p13:0≤(eG:Int):=of_decide_eq_true (by assumption);have q13:eG<(a0.size:Int):=of_decide_eq_true (by assumption);have acW:=wU a0 eG;replace p13:=eq_true p13;replace q13:=eq_true q13;have p16:0≤(eG:Int):=of_decide_eq_true (by assumption);have q16:eG<(a0.size:Int):=of_decide_eq_true (by assumption);have hx16:=wU a0 eG;replace p16:=eq_true p16;replace q16:=eq_true q16)
          go_roundg TM
          case measure=>exact kl
          case rel=>exact⟨_,rs,H',⟨kl⟩,dn⟩
        ·have H':=ak H;clear H;obtain⟨p7,q7,hx7⟩:=bx a0 eG;go_wp2_with (refine gA func183 (iQ.calls A8.out) ?_;intro nd;have p13:0≤(eG:Int):=of_decide_eq_true (by assumption);have q13:eG<(a0.size:Int):=of_decide_eq_true (by assumption);have acW:=wU a0 eG;replace p13:=eq_true p13;replace q13:=eq_true q13)
         go_roundg TM
         case measure=>exact kl
         case rel=>exact⟨_,rs,H',⟨kl⟩,dn⟩
       ·obtain rfl:=s1 H;obtain⟨p7,q7,hx7⟩:=bx a0 eG;go_wp2_with (refine gA func183 (iQ.calls A8.out) ?_;intro nd;have p13:0≤(eG:Int):=of_decide_eq_true (by assumption);have q13:eG<(a0.size:Int):=of_decide_eq_true (by assumption);have acW:=wU a0 eG;replace p13:=eq_true p13;replace q13:=eq_true q13)
        go_ret;exact⟨rs,dn⟩
     ·replace H:=sp H;rcases H with⟨c18,H⟩|⟨c18,H⟩
      ·have Dt:decide (1≤(a0.size:Int))=true:=decide_eq_true c18;have Vo:decide (1≤a0.size)=true:=decide_eq_true (by omega);clear c18;obtain rfl:=s1 H;go_wp2;go_ret;exact⟨rs,dn⟩
      ·have Dt:decide (1≤(a0.size:Int))=false:=decide_eq_false c18;have Vo:decide (1≤a0.size)=false:=decide_eq_false (by omega);clear c18;obtain rfl:=s1 H;go_wp2;go_ret;exact⟨rs,dn⟩
def jf.f(k:Nat)(fK:ByteArray)(fP:ByteArray):Option (Bool):=(cZ.f k fK).bind fun awP=>(if awP=true then((aU.f k fP).bind fun amL=>(if amL=true then(if(fP.size:Int)≤150 then((bI.f k fP).bind fun t105=>(some (t105.toList==fP.toList)))else(some false))else(some false)))else(some false))
theorem jf.calls{k:Nat}{fK fP:ByteArray}{r:Bool}{w:World}(h:jf.f k fK fP=some r):
  Calls Tryz.prog 158 #[.agg #[.string fK, .string fP]] w fun e w'=>e= .returned (.bool r)∧Below w.heap.size w w':=by
 have Fg:=underlying69;have HB:=ak (Below.refl w.heap.size w);unfold jf.f at h;have H:=h;clear h;replace H:=bd H;obtain⟨awP,A2,H⟩:=H;replace H:=sb H;rcases H with⟨rfl,H⟩|⟨rfl,H⟩
 ·replace H:=bd H;obtain⟨amL,A4,H⟩:=H;replace H:=sb H;rcases H with⟨rfl,H⟩|⟨rfl,H⟩
  ·replace H:=sp H;rcases H with⟨c6,H⟩|⟨c6,H⟩
   ·have nP:=decide_eq_true c6;have zM:decide (fP.size≤150)=true:=decide_eq_true (by omega);clear c6;replace H:=bd H;obtain⟨t105,A7,H⟩:=H;obtain rfl:=s1 H;go_enter func158,ntmps158;go_wp2_with (first|(refine gG 1 ?_;refine bX HB 1 #[.string fK, .string fP] 69 ?_;intro Jz w8 yw JA hb;replace HB:=bs HB hb;clear hb;have z9:=Am yw.out)|(go_at_call 184;refine mA (cZ.calls A2.out) ?_;intro nd;(try exact dq))|(go_at_call 159;refine mA (aU.calls A4.out) ?_;intro nd;(try exact dq))|(go_at_call 179;refine mA (bI.calls A7.out) ?_;intro nd;(try exact dq)))
    repeat(go_quiet (first|(refine gG 1 ?_;refine bX HB 1 #[.string fK, .string fP] 69 ?_;intro Jz w8 yw JA hb;replace HB:=bs HB hb;clear hb;have z9:=Am yw.out)|(go_at_call 184;refine mA (cZ.calls A2.out) ?_;intro nd;(try exact dq))|(go_at_call 159;refine mA (aU.calls A4.out) ?_;intro nd;(try exact dq))|(go_at_call 179;refine mA (bI.calls A7.out) ?_;intro nd;(try exact dq)));try go_wp2_with (first|(refine gG 1 ?_;refine bX HB 1 #[.string fK, .string fP] 69 ?_;intro Jz w8 yw JA hb;replace HB:=bs HB hb;clear hb;have z9:=Am yw.out)|(go_at_call 184;refine mA (cZ.calls A2.out) ?_;intro nd;(try exact dq))|(go_at_call 159;refine mA (aU.calls A4.out) ?_;intro nd;(try exact dq))|(go_at_call 179;refine mA (bI.calls A7.out) ?_;intro nd;(try exact dq))))
    go_ret;exact⟨er,bb⟩
   ·have nP:=decide_eq_false c6;have zM:decide (fP.size≤150)=false:=decide_eq_false (by omega);clear c6;obtain rfl:=s1 H;go_enter func158,ntmps158;go_wp2_with (first|(refine gG 1 ?_;refine bX HB 1 #[.string fK, .string fP] 69 ?_;intro Jz w10 yw JA hb;replace HB:=bs HB hb;clear hb;have z11:=Am yw.out)|(go_at_call 184;refine mA (cZ.calls A2.out) ?_;intro nd;(try exact dq))|(go_at_call 159;refine mA (aU.calls A4.out) ?_;intro nd;(try exact dq)))
    repeat(go_quiet (first|(refine gG 1 ?_;refine bX HB 1 #[.string fK, .string fP] 69 ?_;intro Jz w10 yw JA hb;replace HB:=bs HB hb;clear hb;have z11:=Am yw.out)|(go_at_call 184;refine mA (cZ.calls A2.out) ?_;intro nd;(try exact dq))|(go_at_call 159;refine mA (aU.calls A4.out) ?_;intro nd;(try exact dq)));try go_wp2_with (first|(refine gG 1 ?_;refine bX HB 1 #[.string fK, .string fP] 69 ?_;intro Jz w10 yw JA hb;replace HB:=bs HB hb;clear hb;have z11:=Am yw.out)|(go_at_call 184;refine mA (cZ.calls A2.out) ?_;intro nd;(try exact dq))|(go_at_call 159;refine mA (aU.calls A4.out) ?_;intro nd;(try exact dq))))
    go_ret;exact⟨er,bb⟩
  ·obtain rfl:=s1 H;go_enter func158,ntmps158;go_wp2_with (first|(refine gG 1 ?_;refine bX HB 1 #[.string fK, .string fP] 69 ?_;intro Jz w12 yw JA hb;replace HB:=bs HB hb;clear hb;have z13:=Am yw.out)|(go_at_call 184;refine mA (cZ.calls A2.out) ?_;intro nd;(try exact dq))|(go_at_call 159;refine mA (aU.calls A4.out) ?_;intro nd;(try exact dq)))
   repeat(go_quiet (first|(refine gG 1 ?_;refine bX HB 1 #[.string fK, .string fP] 69 ?_;intro Jz w12 yw JA hb;replace HB:=bs HB hb;clear hb;have z13:=Am yw.out)|(go_at_call 184;refine mA (cZ.calls A2.out) ?_;intro nd;(try exact dq))|(go_at_call 159;refine mA (aU.calls A4.out) ?_;intro nd;(try exact dq)));try go_wp2_with (first|(refine gG 1 ?_;refine bX HB 1 #[.string fK, .string fP] 69 ?_;intro Jz w12 yw JA hb;replace HB:=bs HB hb;clear hb;have z13:=Am yw.out)|(go_at_call 184;refine mA (cZ.calls A2.out) ?_;intro nd;(try exact dq))|(go_at_call 159;refine mA (aU.calls A4.out) ?_;intro nd;(try exact dq))))
   go_ret;exact⟨er,bb⟩
 ·obtain rfl:=s1 H;go_enter func158,ntmps158;go_wp2_with (first|(refine gG 1 ?_;refine bX HB 1 #[.string fK, .string fP] 69 ?_;intro Jz Xv yw JA hb;replace HB:=bs HB hb;clear hb;have z15:=Am yw.out)|(go_at_call 184;refine mA (cZ.calls A2.out) ?_;intro nd;(try exact dq)))
  repeat(go_quiet (first|(refine gG 1 ?_;refine bX HB 1 #[.string fK, .string fP] 69 ?_;intro Jz Xv yw JA hb;replace HB:=bs HB hb;clear hb;have z15:=Am yw.out)|(go_at_call 184;refine mA (cZ.calls A2.out) ?_;intro nd;(try exact dq)));try go_wp2_with (first|(refine gG 1 ?_;refine bX HB 1 #[.string fK, .string fP] 69 ?_;intro Jz Xv yw JA hb;replace HB:=bs HB hb;clear hb;have z15:=Am yw.out)|(go_at_call 184;refine mA (cZ.calls A2.out) ?_;intro nd;(try exact dq))))
  go_ret;exact⟨er,bb⟩
mutual
def iJ.l0:Nat→List (fD)→Int→Option (Bool)
 |0,_,_=>none
 |k+1,x0,x3=>if x3<(x0.length:Int)then(iJ.j1 k x0 x3 (decide (x3≤20)))else(iJ.j1 k x0 x3 false)
def iJ.j1:Nat→List (fD)→Int→Bool→Option (Bool)
 |0,_,_,_=>none
 |k+1,x0,x3,x11=>if x11=true then(if 0≤x3 then(if x3<(x0.length:Int)then((jf.f k ((eU x0 x3).f0) ((eU x0 x3).f1)).bind fun t107=>(if t107=true then(iJ.l0 k x0 (wrap64 (x3+1)))else(some false)))else(none))else(none))else(some (decide ((x0.length:Int)≤20)))
end
def iJ.f(k:Nat)(l0:List (fD)):Option (Bool):=iJ.l0 k l0 0
theorem iJ.calls{k c0:Nat}{A0:Option Addr}{l0:List (fD)}{r:Bool}{w:World}(hr0:Kd.C rP w A0 l0.length l0)(hc0:l0.length≤c0)(h:iJ.f k l0=some r):
  Calls Tryz.prog 113 #[.slice A0 l0.length c0] w fun e w'=>e= .returned (.bool r)∧Below w.heap.size w w':=by
 have Fg:=underlying69;have HR0:=ak hr0;have vw:=ak hc0;clear hr0 hc0;have HB:=ak (Below.refl w.heap.size w);unfold iJ.f at h;have H:=h;clear h;have H':=ak H;clear H;go_enter func113,ntmps113;go_wp2;go_loopg [3] k (fun kq v3 w'=>∃(eG:Int),v3= .int .i64 eG∧ah (iJ.l0 kq l0 eG=some r)∧ah (kq≤k)∧ah (Below w.heap.size w w'))
 case atStart=>exact⟨_,rs,H',⟨Nat.le_refl _⟩,⟨ul HB.out⟩⟩
 case round=>
  clear H';obtain⟨eG,rfl,HA,yN,HB⟩:=hrel
  cases gk with
  |zero=>exact zz HA.out
  |succ k1=>
   obtain⟨H⟩:=HA;simp only[iJ.l0]at H;have HC2:=ak H;clear H;go_upto_region 2 with(fail)
   go_cut [11] (fun v11 wc=>∃(kq:Nat) (yu:Bool),v11= .bool yu∧ah (iJ.j1 kq l0 eG yu=some r)∧ah (kq≤k1)∧ah (Below w.heap.size w wc))
   case first=>
    have H:=HC2.out;clear HC2;replace H:=sd H;rcases H with⟨jd,H⟩|⟨jd,H⟩
    ·(first|rw[jd]|(simp only[gU,jP];rw[jd])|skip);have H':=ak H;clear H;go_wp2;go_meet
     case rel=>exact⟨_,_,rs,H',⟨kl⟩,⟨ul HB.out⟩⟩
    ·(first|rw[jd]|(simp only[gU,jP];rw[jd])|skip);have H':=ak H;clear H;go_wp2;go_meet
     case rel=>exact⟨_,_,rs,H',⟨kl⟩,⟨ul HB.out⟩⟩
   case rest=>
    clear HC2;obtain⟨kq,yu,rfl,HA,HJ1,HB⟩:=hcut
    cases kq with
    |zero=>exact zz HA.out
    |succ TM=>
     obtain⟨H⟩:=HA;simp only[iJ.j1]at H;replace H:=sb H;rcases H with⟨rfl,H⟩|⟨rfl,H⟩
     ·replace H:=nY H;obtain⟨nO,H⟩:=H;replace H:=nY H;obtain⟨nP,H⟩:=H;replace H:=bd H;obtain⟨t107,A7,H⟩:=H;replace H:=sb H;rcases H with⟨rfl,H⟩|⟨rfl,H⟩
      ·have H':=ak H;clear H;have acX:=zi eG;have acY:=zj eG l0.length;obtain⟨awQ,asE,Ot,Ou⟩:=su HR0.out eG acX acY;cases asE;replace Ot:=cl HB.out Ot;replace Ou:=cl HB.out Ou;replace acX:=eq_true acX;replace acY:=eq_true acY;go_wp2_with (refine gB func158 (jf.calls A7.out) ?_;intro w9 hb;replace HB:=bs HB hb;clear hb)
       go_roundg TM
       case measure=>exact kl
       case rel=>exact⟨_,rs,H',⟨kl⟩,⟨ul HB.out⟩⟩
      ·obtain rfl:=s1 H;have acX:=zi eG;have acY:=zj eG l0.length;obtain⟨awQ,asE,Ot,Ou⟩:=su HR0.out eG acX acY;cases asE;replace Ot:=cl HB.out Ot;replace Ou:=cl HB.out Ou;replace acX:=eq_true acX;replace acY:=eq_true acY;go_wp2_with (refine gB func158 (jf.calls A7.out) ?_;intro w10 hb;replace HB:=bs HB hb;clear hb)
       go_ret;exact⟨er,ul HB.out⟩
     ·obtain rfl:=s1 H;go_wp2;go_ret;exact⟨er,ul HB.out⟩
mutual
def fM.l0:Nat→ByteArray→Int→Int→Option (Int)
 |0,_,_,_=>none
 |k+1,x0,x5,x6=>if(wrap64 (x6+1))<(x0.size:Int)then(if 0≤x6 then(if x6<(x0.size:Int)then(if(bt x0 x6)=32 then(if 0≤(wrap64 (x6-1))then(if(wrap64 (x6-1))<(x0.size:Int)then(if(bt x0 (wrap64 (x6-1)))=32 then(fM.j1 k x0 x5 x6 true)else(if 0≤(wrap64 (x6+1))then(fM.j1 k x0 x5 x6 ((bt x0 (wrap64 (x6+1)))==32))else(none)))else(none))else(none))else(fM.j1 k x0 x5 x6 true))else(none))else(none))else(some x5)
def fM.j1:Nat→ByteArray→Int→Int→Bool→Option (Int)
 |0,_,_,_,_=>none
 |k+1,x0,x5,x6,x33=>if x33=true then(fM.l0 k x0 x5 (wrap64 (x6+1)))else(if x6≤40 then(fM.l0 k x0 x6 (wrap64 (x6+1)))else(if x5<0 then(fM.l0 k x0 x6 (wrap64 (x6+1)))else(fM.l0 k x0 x5 (wrap64 (x6+1)))))
end
def fM.f(k:Nat)(a0:ByteArray)(a1:Int):Option (Int):=fM.l0 k a0 (-1) (wrap64 (a1+1))
theorem fM.calls{k:Nat}{a0:ByteArray}{a1 r:Int}{w:World}(h:fM.f k a0 a1=some r):
  Calls Tryz.prog 176 #[.string a0, .int .i64 a1] w fun e w'=>e= .returned (.int .i64 r)∧dR w w':=by
 unfold fM.f at h;have H:=h;clear h;have H':=ak H;clear H;go_enter func176,ntmps176;go_wp2;go_loopg [5,6] k (fun kq v5 v6 w'=>∃(dV:Int) (gZ:Int),v5= .int .i64 dV∧v6= .int .i64 gZ∧ah (fM.l0 kq a0 dV gZ=some r)∧ah (kq≤k)∧dR w w')
 case atStart=>exact⟨_,_,rs,rs,H',⟨Nat.le_refl _⟩,dn⟩
 case round=>
  clear H';obtain⟨dV,gZ,rfl,rfl,HA,yN,⟨m1,rfl⟩⟩:=hrel
  cases gk with
  |zero=>exact zz HA.out
  |succ k1=>
   obtain⟨H⟩:=HA;simp only[fM.l0]at H;replace H:=sp H;rcases H with⟨c3,H⟩|⟨c3,H⟩
   ·have jd:=decide_eq_true c3
    (try(have yQ:decide ((gZ+1)<(a0.size:Int))=true:=decide_eq_true (by have h_:=c3;unfold wrap64 at h_;omega)));clear c3;have HC4:=ak H;clear H;go_upto_region 5 with(fail)
    go_cut [33] (fun v33 wc=>∃(kq:Nat) (aip:Bool),v33= .bool aip∧ah (fM.j1 kq a0 dV gZ aip=some r)∧ah (kq≤k1)∧dR w wc)
    case first=>
     have H:=HC4.out;clear HC4;replace H:=nY H;obtain⟨nO,H⟩:=H
     (first|rw[nO]|(simp only[gU,jP];rw[nO])|skip);replace H:=nY H;obtain⟨nP,H⟩:=H;replace H:=sq H;rcases H with⟨ru,BI,H⟩|⟨c8,ru,BI,H⟩
     ·obtain⟨NZ,Fh⟩:∃j_:Int,(wrap64 (gZ-1))=j_:=⟨_,rfl⟩
      replace H:(if 0≤(NZ)then(if(NZ)<(a0.size:Int)then(if(bt a0 (NZ))=32 then(fM.j1 k1 a0 dV gZ true)else(if 0≤(wrap64 (gZ+1))then(fM.j1 k1 a0 dV gZ ((bt a0 (wrap64 (gZ+1)))==32))else(none)))else(none))else(none))=some r:=by first|(rw[Fh]at H;exact H)|(simp only[Fh]at H⊢;exact H)
      have aio:(IntKind.i64.wrap (gZ-1))=NZ:=(gU _).trans Fh;replace H:=nY H;obtain⟨qj,H⟩:=H;replace H:=nY H;obtain⟨uM,H⟩:=H;replace H:=sq H;rcases H with⟨xE,Bz,H⟩|⟨c13,xE,Bz,H⟩
      ·have H':=ak H;clear H;obtain⟨p7,q7,hx7⟩:=bx a0 gZ;obtain⟨p12,q12,asD⟩:=bx a0 (NZ);go_wp2;go_meet
       case rel=>exact⟨_,_,rs,H',⟨kl⟩,dn⟩
      ·obtain⟨Ov,Ox⟩:∃j_:Int,(wrap64 (gZ+1))=j_:=⟨_,rfl⟩
       replace H:(if 0≤(Ov)then(fM.j1 k1 a0 dV gZ ((bt a0 (Ov))==32))else(none))=some r:=by first|(rw[Ox]at H;exact H)|(simp only[Ox]at H⊢;exact H)
       (try rw[Ox]at jd);have aFH:(IntKind.i64.wrap (gZ+1))=Ov:=(gU _).trans Ox;replace H:=nY H;obtain⟨uz,H⟩:=H;have H':=ak H;clear H;obtain⟨p7,q7,hx7⟩:=bx a0 gZ;obtain⟨p12,q12,asD⟩:=bx a0 (NZ);obtain⟨p16,q16,hx16⟩:=bx a0 (Ov);go_wp2;go_meet
       case rel=>exact⟨_,_,(by first|rfl|(simp;done)|(simp only[←Ox]<;>(first|rfl|simp))|(simp[*];done)),H',⟨kl⟩,dn⟩
     ·have H':=ak H;clear H;obtain⟨p7,q7,hx7⟩:=bx a0 gZ;go_wp2;go_meet
      case rel=>exact⟨_,_,rs,H',⟨kl⟩,dn⟩
    case rest=>
     clear HC4;try clear c3
     try clear jd
     try clear yQ
     obtain⟨kq,aip,rfl,HA,HJ3,⟨mc3,rfl⟩⟩:=hcut
     cases kq with
     |zero=>exact zz HA.out
     |succ kj3=>
      obtain⟨H⟩:=HA;simp only[fM.j1]at H;replace H:=sb H;rcases H with⟨rfl,H⟩|⟨rfl,H⟩
      ·have H':=ak H;clear H;go_wp2;go_roundg kj3
       case measure=>exact kl
       case rel=>exact⟨_,_,rs,rs,H',⟨kl⟩,dn⟩
      ·replace H:=sd H;rcases H with⟨Dt,H⟩|⟨Dt,H⟩
       ·have H':=ak H;clear H;go_wp2;go_roundg kj3
        case measure=>exact kl
        case rel=>exact⟨_,_,rs,rs,H',⟨kl⟩,dn⟩
       ·replace H:=sd H;rcases H with⟨Du,H⟩|⟨Du,H⟩
        ·have H':=ak H;clear H;go_wp2;go_roundg kj3
         case measure=>exact kl
         case rel=>exact⟨_,_,rs,rs,H',⟨kl⟩,dn⟩
        ·have H':=ak H;clear H;go_wp2;go_roundg kj3
         case measure=>exact kl
         case rel=>exact⟨_,_,rs,rs,H',⟨kl⟩,dn⟩
   ·have jd:=decide_eq_false c3
    (try(have yQ:decide ((gZ+1)<(a0.size:Int))=false:=decide_eq_false (by have h_:=c3;unfold wrap64 at h_;omega)));clear c3;obtain rfl:=s1 H;go_wp2;go_ret;exact⟨rs,dn⟩
mutual
def iq.j0:Nat→List ByteArray→ByteArray→Int→Option (List ByteArray)
 |0,_,_,_=>none
 |k+1,x3,x4,x5=>iq.l0 k x3 x4 x5
def iq.l0:Nat→List ByteArray→ByteArray→Int→Option (List ByteArray)
 |0,_,_,_=>none
 |k+1,x3,x4,x5=>if(x4.size:Int)>40 then((fM.f k x4 x5).bind fun Vp=>(if Vp<0 then(if x3.length<8796093022208 then(some (x3++[x4]))else(none))else(if 0≤Vp then(if Vp≤(x4.size:Int)then(if x3.length<8796093022208 then(iq.l0 k (x3++[x4.extract 0 (Vp:Int).toNat]) (x4.extract (Vp:Int).toNat x4.size) 1)else(none))else(none))else(none))))else(if x3.length<8796093022208 then(some (x3++[x4]))else(none))
end
def iq.f(k:Nat)(fK:ByteArray)(fP:ByteArray):Option (List ByteArray):=(some (([]:List ByteArray):List ByteArray)).bind fun agW=>((jf.f k fK fP).bind fun aaK=>(if aaK=true then(if fK.size+1≤9223372036854775807 then(if fP.toList=([]:List UInt8)then(iq.j0 k agW (fK++(⟨#[58]⟩:ByteArray)) ((fK++(⟨#[58]⟩:ByteArray)).size:Int))else(if(fK++(⟨#[58]⟩:ByteArray)).size+1≤9223372036854775807 then(if((fK++(⟨#[58]⟩:ByteArray))++(⟨#[32]⟩:ByteArray)).size+fP.size≤9223372036854775807 then(iq.j0 k agW (((fK++(⟨#[58]⟩:ByteArray))++(⟨#[32]⟩:ByteArray))++fP) (wrap64 (((fK++(⟨#[58]⟩:ByteArray)).size:Int)+1)))else(none))else(none)))else(none))else(some agW)))
theorem iq.calls{k:Nat}{fK fP:ByteArray}{r:List ByteArray}{w:World}(h:iq.f k fK fP=some r):
  Calls Tryz.prog 153 #[.agg #[.string fK, .string fP]] w fun e w'=>∃pW:Value,e= .returned (pW)∧Kd.R Kd.string 9 w' w.heap.size (fun _=>True) pW r∧Below w.heap.size w w':=by
 have Fg:=underlying69;have HB:=ak (Below.refl w.heap.size w);unfold iq.f at h;have H:=h;clear h;replace H:=ny H;obtain⟨agW,aoH,H⟩:=H;replace H:=bd H;obtain⟨aaK,A2,H⟩:=H;replace H:=sb H;rcases H with⟨rfl,H⟩|⟨rfl,H⟩
 ·replace H:=nn H;obtain⟨c4,H⟩:=H;have qB:=eq_true c4;have Vj:=decide_eq_true c4;try have ain:(9223372036854775807<fK.size+1)=False:=eq_false (Nat.not_lt.2 c4)
  have HC5:=ak H;clear H;go_enter func153,ntmps153;go_upto_if 19 with(first|(refine bX HB 1 #[.string fK, .string fP] 69 ?_;intro Ya w6 vZ awR hb;replace HB:=bs HB hb;clear hb)|(refine DR 7 Kd.string 9 aoH ?_;intro asA w7 ho8 hb;have I4:=ak (aC ho8 (au bb));replace vZ:=kb vZ hb;replace HB:=bz HB hb;clear hb ho8;have z9:=Am vZ.out)|(refine gB func158 (jf.calls A2.out) ?_;intro w10 hb;replace I4:=rb I4 hb;replace vZ:=kb vZ hb;replace HB:=bz HB hb;clear hb;have z11:=Am vZ.out))
  (try simp only[Act.put,C_,Dc,l_c]);go_cut [4,5] (fun v4 v5 wc=>∃(kq:Nat) (asF:ByteArray) (aaN:Int),v4= .string asF∧v5= .int .i64 aaN∧ah (iq.j0 kq agW asF aaN=some r)∧ah (kq≤k)∧ah (Kd.R Kd.string 9 wc w.heap.size (fun _=>True) asA agW)∧ah (wc.heap[Ya]? =some (.cells #[.string fK, .string fP] 69 (0,0)))∧ah (Below w.heap.size w wc))
  case first=>
   have H:=HC5.out;clear HC5;replace H:=sp H;rcases H with⟨c12,H⟩|⟨c12,H⟩
   ·have vH:=beq_iff_eq.mpr c12;have asG:(fP.toList).isEmpty=true:=List.isEmpty_iff.mpr c12;have Dv:=bne_eq_false_iff_eq.mpr c12;clear c12
    (first|rw[vH]|(simp only[gU,jP];rw[vH])|skip)
    (first|(rw[asG];simp only[Bool.not_true,Bool.not_false])|skip);have H':=ak H;clear H;go_wp2;go_meet
    case rel=>exact⟨_,_,_,rs,rs,H',⟨JB⟩,⟨ur I4.out⟩,⟨ub vZ.out⟩,⟨bb⟩⟩
   ·have vH:=beq_eq_false_iff_ne.mpr c12;have asG:(fP.toList).isEmpty=false:=List.isEmpty_eq_false_iff.mpr c12;have Dv:=bne_iff_ne.mpr c12
    (first|rw[vH]|(simp only[gU,jP];rw[vH])|skip)
    (first|(rw[asG];simp only[Bool.not_true,Bool.not_false])|skip);replace H:=nn H;obtain⟨c13,H⟩:=H;have xE:=eq_true c13;have Bz:=decide_eq_true c13;try have awS:(9223372036854775807<fK.size+1+1)=False:=by have h_:=(eq_false (Nat.not_lt.2 c13):(9223372036854775807<(fK++(⟨#[58]⟩:ByteArray)).size+1)=False);simp only[ByteArray.size_append]at h_;exact h_
    try have aeN:(9223372036854775807<(fK++(⟨#[58]⟩:ByteArray)).size+1)=False:=eq_false (Nat.not_lt.2 c13)
    replace H:=nn H;obtain⟨c14,H⟩:=H;have uy:=eq_true c14;have xH:=decide_eq_true c14;try have aJg:(9223372036854775807<fK.size+1+1+fP.size)=False:=by have h_:=(eq_false (Nat.not_lt.2 c14):(9223372036854775807<((fK++(⟨#[58]⟩:ByteArray))++(⟨#[32]⟩:ByteArray)).size+fP.size)=False);simp only[ByteArray.size_append]at h_;exact h_
    try have aoI:(9223372036854775807<((fK++(⟨#[58]⟩:ByteArray))++(⟨#[32]⟩:ByteArray)).size+fP.size)=False:=eq_false (Nat.not_lt.2 c14)
    have H':=ak H;clear H;have z15:=Am vZ.out;go_wp2;go_meet
    case rel=>exact⟨_,_,_,rs,rs,H',⟨JB⟩,⟨ur I4.out⟩,⟨ub vZ.out⟩,⟨bb⟩⟩
  case rest=>
   clear HC5;try clear c4
   try clear qB
   try clear Vj
   try clear ain
   obtain⟨kq,asF,aaN,rfl,rfl,HA,HJ4,mZ,vZ,HB⟩:=hcut
   cases kq with
   |zero=>exact zz HA.out
   |succ kj4=>
    obtain⟨H⟩:=HA;simp only[iq.j0]at H;have H':=ak H;clear H;go_wp2;go_loopg [3,4,5] kj4 (fun kq v3 v4 v5 w'=>∃(nV:List ByteArray) (qZ:ByteArray) (jD:Int),v4= .string qZ∧v5= .int .i64 jD∧ah (iq.l0 kq nV qZ jD=some r)∧ah (kq≤kj4)∧ah (Kd.R Kd.string 9 w' w.heap.size (fun _=>True) v3 nV)∧ah (w'.heap[Ya]? =some (.cells #[.string fK, .string fP] 69 (0,0)))∧ah (Below w.heap.size w w'))
    case atStart=>exact⟨_,_,_,rs,rs,H',⟨Nat.le_refl _⟩,⟨ur mZ.out⟩,⟨ub vZ.out⟩,⟨bb⟩⟩
    case round=>
     clear H';try clear c4
     try clear qB
     try clear Vj
     try clear ain
     obtain⟨nV,qZ,jD,rfl,rfl,HA,HK2,mZ,vZ,HB⟩:=hrel
     cases gk with
     |zero=>exact zz HA.out
     |succ k2=>
      obtain⟨H⟩:=HA;simp only[iq.l0]at H;replace H:=sp H;rcases H with⟨c16,H⟩|⟨c16,H⟩
      ·have Dw:decide (40<(qZ.size:Int))=true:=decide_eq_true c16;have Oy:decide (40<qZ.size)=true:=decide_eq_true (by omega);clear c16;replace H:=bd H;obtain⟨Vp,A17,H⟩:=H;replace H:=sd H;rcases H with⟨Dt,H⟩|⟨Dt,H⟩
       ·replace H:=nl H;obtain⟨aaO,H⟩:=H;obtain⟨y114,aoJ⟩:=nm (nV++[qZ]);rw[←aoJ.out]at H;obtain rfl:=s1 H;go_wp2_with (first|(refine gA func176 (fM.calls A17.out) ?_;intro nd)|((with_reducible refine bP (b:= .append) (xs:=#[.tmp 44, .tmp 46]) rfl ?_);at_builtin;refine oh Kd.string (w0:=w) w.heap.size rfl (.tmp 44) (.tmp 46) 23 9 (.string ⟨#[]⟩) 16 rfl underlying23 info9 rfl (by decide) (by omega) u3 nV qZ [.string qZ] (fun _=>True) (fun _=>False) rfl rfl ?aP (fun _ hk=>hk.elim) ?aF ?aO ?aB ?aS ?aL ?_;(case aP=>exact rfl);(case aB=>exact bb);(case aF=>exact(fun _ _=>trivial));(case aO=>exact(ur mZ.out));(case aS=>exact(au bb));(case aL=>have:=aaO.out;omega);intro aNa w20 ho hb hg hat;rw[←aoJ.out]at ho;have awT:=ak (ho);replace vZ:=ak (fB (g:=Ya) (o:= .cells #[.string fK, .string fP] 69 (0,0)) (ub vZ.out) hg (vS mZ.out vZ.out (by decide)));replace HB:=ak (hb);clear ho hb hg hat mZ))
        go_ret;exact⟨_,er,ur awT.out,bb⟩
       ·replace H:=zh H;obtain⟨Dx,aaP,H⟩:=H;replace H:=zh H;obtain⟨I5,Vq,H⟩:=H;replace H:=nl H;obtain⟨aiq,H⟩:=H;obtain⟨aNb,aoK⟩:=nm (nV++[qZ.extract 0 (Vp:Int).toNat]);rw[←aoK.out]at H;have Ei:=eq_true (of_decide_eq_true (by assumption):0≤Vp);have Ej:=eq_true (of_decide_eq_true (by assumption):Vp≤(qZ.size:Int));have H':=ak H;clear H;go_wp2_with (first|(refine gA func176 (fM.calls A17.out) ?_;intro nd)|((with_reducible refine bP (b:= .append) (xs:=#[.tmp 35, .tmp 39]) rfl ?_);at_builtin;refine oh Kd.string (w0:=w) w.heap.size rfl (.tmp 35) (.tmp 39) 23 9 (.string ⟨#[]⟩) 16 rfl underlying23 info9 rfl (by decide) (by omega) u3 nV (qZ.extract 0 (Vp:Int).toNat) [.string (qZ.extract 0 (Vp:Int).toNat)] (fun _=>True) (fun _=>False) rfl rfl ?aP (fun _ hk=>hk.elim) ?aF ?aO ?aB ?aS ?aL ?_;(case aP=>exact rfl);(case aB=>exact bb);(case aF=>exact(fun _ _=>trivial));(case aO=>exact(ur mZ.out));(case aS=>exact(au bb));(case aL=>have:=aiq.out;omega);intro aNc w26 ho hb hg hat;rw[←aoK.out]at ho;have awU:=ak (ho);replace vZ:=ak (fB (g:=Ya) (o:= .cells #[.string fK, .string fP] 69 (0,0)) (ub vZ.out) hg (vS mZ.out vZ.out (by decide)));replace HB:=ak (hb);clear ho hb hg hat mZ))
        go_roundg k2
        case measure=>exact kl
        case rel=>exact⟨_,_,_,rs,rs,H',⟨kl⟩,⟨ur awU.out⟩,⟨ub vZ.out⟩,⟨bb⟩⟩
      ·have Dw:decide (40<(qZ.size:Int))=false:=decide_eq_false c16;have Oy:decide (40<qZ.size)=false:=decide_eq_false (by omega);clear c16;replace H:=nl H;obtain⟨aaQ,H⟩:=H;obtain⟨aNd,aoL⟩:=nm (nV++[qZ]);rw[←aoL.out]at H;obtain rfl:=s1 H;go_wp2_with ((with_reducible refine bP (b:= .append) (xs:=#[.tmp 44, .tmp 46]) rfl ?_);at_builtin;refine oh Kd.string (w0:=w) w.heap.size rfl (.tmp 44) (.tmp 46) 23 9 (.string ⟨#[]⟩) 16 rfl underlying23 info9 rfl (by decide) (by omega) u3 nV qZ [.string qZ] (fun _=>True) (fun _=>False) rfl rfl ?aP (fun _ hk=>hk.elim) ?aF ?aO ?aB ?aS ?aL ?_;(case aP=>exact rfl);(case aB=>exact bb);(case aF=>exact(fun _ _=>trivial));(case aO=>exact(ur mZ.out));(case aS=>exact(au bb));(case aL=>have:=aaQ.out;omega);intro aNe w28 ho hb hg hat;rw[←aoL.out]at ho;have awV:=ak (ho);replace vZ:=ak (fB (g:=Ya) (o:= .cells #[.string fK, .string fP] 69 (0,0)) (ub vZ.out) hg (vS mZ.out vZ.out (by decide)));replace HB:=ak (hb);clear ho hb hg hat mZ)
       go_ret;exact⟨_,er,ur awV.out,bb⟩
 ·obtain rfl:=s1 H;go_enter func153,ntmps153;go_wp2_with (first|(refine bX HB 1 #[.string fK, .string fP] 69 ?_;intro Ya w29 vZ awR hb;replace HB:=bs HB hb;clear hb)|(refine DR 7 Kd.string 9 aoH ?_;intro asA w30 awW hb;have I4:=ak (aC awW (au bb));replace vZ:=kb vZ hb;replace HB:=bz HB hb;clear hb awW;have z32:=Am vZ.out)|(refine gB func158 (jf.calls A2.out) ?_;intro w33 hb;replace I4:=rb I4 hb;replace vZ:=kb vZ hb;replace HB:=bz HB hb;clear hb))
  go_ret;exact⟨_,er,ur I4.out,bb⟩
def jL.l0:Nat→List (fD)→List ByteArray→Int→Option (List ByteArray×Bool)
 |0,_,_,_=>none
 |k+1,x0,x4,x5=>if x5<(x0.length:Int)then(if 0≤x5 then((iq.f k ((eU x0 x5).f0) ((eU x0 x5).f1)).bind fun agX=>(if x4.length+agX.length<8796093022208 then(jL.l0 k x0 (x4++agX) (wrap64 (x5+1)))else(none)))else(none))else(some (x4,true))
def jL.f(k:Nat)(l0:List (fD)):Option (List ByteArray×Bool):=(some (([]:List ByteArray):List ByteArray)).bind fun asH=>((iJ.f k l0).bind fun awX=>(if awX=true then(jL.l0 k l0 asH 0)else(some (asH,false))))
theorem jL.calls{k c0:Nat}{A0:Option Addr}{l0:List (fD)}{r1:List ByteArray}{r2:Bool}{w:World}(hr0:Kd.C rP w A0 l0.length l0)(hc0:l0.length≤c0)(h:jL.f k l0=some (r1,r2)):
  Calls Tryz.prog 107 #[.slice A0 l0.length c0] w fun e w'=>∃pW:Value,e= .returned (.tuple #[pW, .bool r2])∧Kd.R Kd.string 9 w' w.heap.size (fun _=>True) pW r1∧Below w.heap.size w w':=by
 have Fg:=underlying69;have HR0:=ak hr0;have vw:=ak hc0;clear hr0 hc0;have HB:=ak (Below.refl w.heap.size w);unfold jL.f at h;have H:=h;clear h;replace H:=ny H;obtain⟨asH,aoM,H⟩:=H;replace H:=bd H;obtain⟨awX,A2,H⟩:=H;replace H:=sb H;rcases H with⟨rfl,H⟩|⟨rfl,H⟩
 ·have H':=ak H;clear H;go_enter func107,ntmps107;go_wp2_with (first|(refine DR 6 Kd.string 9 aoM ?_;intro v124 w4 ho5 hb;have Vr:=ak (aC ho5 (au (ul HB.out)));replace HB:=bs HB hb;clear hb ho5)|(refine gB func113 (iJ.calls (cu (aK HR0.out HB.out)) vw.out A2.out) ?_;intro w6 hb;replace Vr:=rb Vr hb;replace HB:=bs HB hb;clear hb))
  go_loopg [4,5] k (fun kq v4 v5 w'=>∃(dI:List ByteArray) (dV:Int),v5= .int .i64 dV∧ah (jL.l0 kq l0 dI dV=some (r1,r2))∧ah (kq≤k)∧ah (Kd.R Kd.string 9 w' w.heap.size (fun _=>True) v4 dI)∧ah (Below w.heap.size w w'))
  case atStart=>exact⟨_,_,rs,H',⟨Nat.le_refl _⟩,⟨ur Vr.out⟩,⟨ul HB.out⟩⟩
  case round=>
   clear H';obtain⟨dI,dV,rfl,HA,yN,bT,HB⟩:=hrel
   cases gk with
   |zero=>exact zz HA.out
   |succ k1=>
    obtain⟨H⟩:=HA;simp only[jL.l0]at H;replace H:=sd H;rcases H with⟨sK,H⟩|⟨sK,H⟩
    ·replace H:=nY H;obtain⟨ru,H⟩:=H;replace H:=bd H;obtain⟨agX,A9,H⟩:=H;replace H:=nl H;obtain⟨aaR,H⟩:=H;obtain⟨aNf,aoN⟩:=nm (dI++agX);rw[←aoN.out]at H;have H':=ak H;clear H;have asI:=zi dV;have asJ:=zj dV l0.length;obtain⟨aJh,e127,aeO,aeP⟩:=su HR0.out dV asI asJ;cases e127;replace aeO:=cl HB.out aeO;replace aeP:=cl HB.out aeP;replace asI:=eq_true asI;replace asJ:=eq_true asJ;go_wp2_with (first|(refine gV func153 (iq.calls A9.out) ?_;rintro aNg X0 ⟨ho0,hb⟩;have aaS:=ak (aC (dA ho0 (jC (ur bT.out))) (au (ul HB.out)));replace bT:=ak (dM (ur bT.out) (bZ ho0) hb);replace HB:=bs HB hb;clear hb;(try clear ho0);obtain⟨kX,jy,Ee⟩:=aI aaS.out;subst Ee)|((with_reducible refine bP (b:= .append) (xs:=#[.tmp 17, .tmp 22]) rfl ?_);at_builtin;refine pz Kd.string (w0:=w) w.heap.size rfl (.tmp 17) (.tmp 22) 23 9 (.string ⟨#[]⟩) 16 rfl underlying23 info9 rfl (by decide) (by omega) u4 dI agX _ _ _ (fun k_=>some k_≠(.slice kX agX.length jy:Value).ownBlock) (fun _=>False) rfl rfl ?aO ?aR (fun _ _ h=>h) (fun _ h=>h.elim) ?aF ?aB ?aS ?aL ?_;(case aR=>repeat(first|exact(aj aaS.out).2.2|(with_reducible refine Kd.nR ?_ _)|(with_reducible refine Kd.nS ?_ _)|(with_reducible refine Kd.qJ ?_)));(case aB=>exact(ul HB.out));(case aF=>exact(fun k_ hk=>Kd.fresh' (jC (ur aaS.out)) k_ hk));(case aO=>exact(ur (ay bT.out (fun _ hk=>hk.2))));(case aS=>exact(au (ul HB.out)));(case aL=>have:=aaR.out;omega);intro aNh w12 ho hb hg hat;rw[←aoN.out]at ho;have awY:=ak (ho);replace aaS:=ak (Ih (ok:=(fun _=>True)) (ur aaS.out) hg hat);replace HB:=ak (hb);clear ho hb hg hat bT))
     go_roundg k1
     case measure=>exact kl
     case rel=>exact⟨_,_,rs,H',⟨kl⟩,⟨ur (ay awY.out (fun _ hk=>trivial))⟩,⟨ul HB.out⟩⟩
    ·obtain⟨rfl,rfl⟩:=s2 H;go_wp2;go_ret2;exact⟨_,er,ur bT.out,ul HB.out⟩
 ·obtain⟨rfl,rfl⟩:=s2 H;go_enter func107,ntmps107;go_wp2_with (first|(refine DR 6 Kd.string 9 aoM ?_;intro v124 Xv TL hb;have Vr:=ak (aC TL (au (ul HB.out)));replace HB:=bs HB hb;clear hb TL)|(refine gB func113 (iJ.calls (cu (aK HR0.out HB.out)) vw.out A2.out) ?_;intro w16 hb;replace Vr:=rb Vr hb;replace HB:=bs HB hb;clear hb))
  go_ret2;exact⟨_,er,ur Vr.out,ul HB.out⟩
def jk.f(a0:ByteArray):Option (ByteArray):=if a0.size≤140737488355328 then some (strOfNums ((bytesOf a0).map XB))else none
set_option maxHeartbeats 1000000 in
set_option maxRecDepth 100000 in
theorem jk.calls{a0 r:ByteArray}{w:World}(h:jk.f a0=some r):
  Calls Tryz.prog 180 #[.string a0] w fun e w'=>e= .returned (.string r)∧Below w.heap.size w w':=by
 unfold jk.f at h;split at h
 ·rename_i hb
  injection h with h;subst h;have kb:=fun W=>SK (P:=Tryz.prog) 9 22 5 underlying9 underlying22 underlying5 a0 W
  go_enter func180,ntmps180;go_wp2;go_loopw [4] (fun i W=>∃k:Nat,k≤a0.size∧i= .int .i64 k∧QV w w.heap.size (Jp (bytesOf a0) k) W) (fun i _=>a0.size-(intOf i).toNat)
  case atStart=>exact⟨0,Nat.zero_le _,rfl,by simpa [Jp] using Oz w 5 a0⟩
  case round=>
   obtain⟨k,hk,rfl,hR⟩:=hrel;have HR:=ak hR;by_cases hlt:k<a0.size
   ·have hc:=hR.cell k (by rw[oQ,bytesOf_length];exact hlt);have hf:=hR.free k (by rw[oQ,bytesOf_length];exact hlt);rw[Zd _ _ (by rw[bytesOf_length];exact hlt)]at hc;clear hR;have hr:=LQ a0 k;have hs:=ak (Yb (bytesOf a0) k (by rw[bytesOf_length];exact hlt));have hu:=ak (QW (bytesOf a0) k (by rw[bytesOf_length];exact hlt))
    generalize (bytesOf a0).getD k 0=c at hc hr hs hu
    go_wp2
    ·go_roundw
     case rel=>exact⟨k+1,by omega,by go_num,by
      rw[hu.out,XB,if_pos ⟨by omega,by omega⟩];exact HR.out.store (Nat.le_refl _) k (by rw[oQ,bytesOf_length];exact hlt) _⟩
     case measure=>simp[intOf];omega
    ·go_roundw
     case rel=>exact⟨k+1,by omega,by go_num,by rw[hs.out (by omega)];exact HR.out⟩
     case measure=>simp[intOf];omega
    ·go_roundw
     case rel=>exact⟨k+1,by omega,by go_num,by rw[hs.out (by omega)];exact HR.out⟩
     case measure=>simp[intOf];omega
   ·clear hR
    have kd:=run_convert_bytes_arg (P:=Tryz.prog) wr 22 5 underlying22 underlying5 w.heap.size 0 a0.size (grownCap w a0.size 0 5) (Jp (bytesOf a0) k) (by rw[oQ,bytesOf_length]) (fun i hi=>by
     rw[Nat.zero_add];exact HR.out.cell i (by rw[oQ,bytesOf_length];exact hi)) 9 underlying9
    go_wp2;go_ret;have hk2:k=a0.size:=by omega
    exact⟨by rw[hk2,aaT (bytesOf a0) a0.size (bytesOf_length a0)];rfl,HR.out.below⟩
 ·cases h
def uD.f(a0:ByteArray)(a1:ByteArray):Option (Bool):=(jk.f a0).bind fun awZ=>((jk.f a1).bind fun aw0=>(some (awZ.toList==aw0.toList)))
theorem uD.calls{a0 a1:ByteArray}{r:Bool}{w:World}(h:uD.f a0 a1=some r):
  Calls Tryz.prog 197 #[.string a0, .string a1] w fun e w'=>e= .returned (.bool r)∧Below w.heap.size w w':=by
 have HB:=ak (Below.refl w.heap.size w);unfold uD.f at h;have H:=h;clear h;replace H:=bd H;obtain⟨awZ,A3,H⟩:=H;replace H:=bd H;obtain⟨aw0,A4,H⟩:=H;obtain rfl:=s1 H;go_enter func197,ntmps197;go_wp2_with (first|(refine gB func180 (jk.calls A3.out) ?_;intro w5 hb;replace HB:=bs HB hb;clear hb)|(refine gB func180 (jk.calls A4.out) ?_;intro w6 hb;replace HB:=bs HB hb;clear hb))
 go_ret;exact⟨er,ul HB.out⟩
end Go.Proofs.YtncdadcmghglkaaGreatDoor.PFnParseBody
