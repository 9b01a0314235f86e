/- Printed walks; conditions: those in each statement. -/
import Derived.Test.YtncdadcmghglkaaGreatDoorVFnKidLinesQt
import Derived.Test.YtncdadcmghglkaaGreatDoorProg
import Derived.Test.YtncdadcmghglkaaGreatDoorVFnKidLinesXt
import Derived.Below
import Derived.Deep.Draws
import Derived.Deep.AppendLies
import Derived.Maps.AppendAt
import Derived.OwnWalk
import Derived.Laws.BytesArg
import Derived.Laws.MakeOwn
import Derived.Laws.OwnMore
import Derived.Deep.OwnRows
import Derived.Tactics
import Derived.Lib.ConvBytes
import Derived.Lib.SliceRun
import Derived.Laws.Slices
import Derived.WalkKit
import Derived.KernelRfl
import Derived.RowKit3
import Derived.Deep.LoopGhost
import Derived.Deep.QuietTactic
import Derived.BigQuiet
import Derived.WideLaws
import Derived.Deep.DeepCutAuto
import Derived.Deep.CutBlock
import Derived.Deep.RegionHeld3
import Derived.Laws.Rows
import Derived.Lib.AppendStr
import Derived.ArgAppend
import Derived.Laws.IdiomCopy
import Derived.OrdersHeld
import Derived.Laws.BitsLemmas
import Derived.RowKit
import Derived.Test.YtncdadcmghglkaaGreatDoorMx
import Derived.Test.YtncdadcmghglkaaGreatDoorVFnKidLinesWords
import Derived.Test.YtncdadcmghglkaaGreatDoorVFnKidLinesLast
import Derived.Test.YtncdadcmghglkaaGreatDoorVFnKidLinesTab
import Derived.Test.YtncdadcmghglkaaGreatDoorVFnKidLinesApart
import Derived.Test.YtncdadcmghglkaaGreatDoorVFnKidLinesFoot
import Derived.Test.YtncdadcmghglkaaGreatDoorVFnKidLinesKept
import Derived.Test.YtncdadcmghglkaaGreatDoorVFnKidLinesShare
import Derived.Test.YtncdadcmghglkaaGreatDoorVFnKidLinesN
import Derived.Test.YtncdadcmghglkaaGreatDoorVFnKidLinesRepsOne
import Derived.Test.YtncdadcmghglkaaGreatDoorVFnKidLinesInv
import Derived.Test.YtncdadcmghglkaaGreatDoorVFnKidLinesGuard
import Derived.Test.YtncdadcmghglkaaGreatDoorVFnKidLinesMore
import Derived.Test.YtncdadcmghglkaaGreatDoorVFnKidLinesYt
-- dense
-- sq
-- sq2
-- short
-- fixed
namespace Go.Proofs.YtncdadcmghglkaaGreatDoor.PFnKidLines
open Go.RowKit Go.Proofs.YtncdadcmghglkaaGreatDoor.X Go.Proofs.YtncdadcmghglkaaGreatDoorW.dS Go.Proofs.YtncdadcmghglkaaGreatDoorW.kY Go.Proofs.YtncdadcmghglkaaGreatDoorW.n_
attribute [local go_sem] xM xO AV AX vK vM xP xQ   -- for this text's walks alone
set_option linter.unusedVariables false
set_option linter.unusedSimpArgs false
def ap3:Option Int→Value
 |none=> .nilIface
 |some c=> .iface 0 (.int .i64 c)
theorem wW:ap3 none= .nilIface:=rfl
theorem wX (c:Int):ap3 (some c)= .iface 0 (.int .i64 c):=rfl
theorem info5:(Tryz.prog.info? 5).map (fun i=>(i.zero,i.size,i.bytes))=some (some (.int .u8 0),1,1):=by kernel_rfl
theorem info9:(Tryz.prog.info? 9).map (fun i=>(i.zero,i.size,i.bytes))=some (some (.string ⟨#[]⟩),1,16):=by kernel_rfl
theorem info23:(Tryz.prog.info? 23).map (fun i=>(i.zero,i.size,i.bytes))=some (some (.slice none 0 0),1,24):=by kernel_rfl
theorem UD:(Tryz.prog.info? 28).map (fun i=>(i.zero,i.size,i.bytes))=some (some (.agg #[(.slice none 0 0),(.slice none 0 0),(.slice none 0 0)]),3,72):=by kernel_rfl
theorem DT:(Tryz.prog.info? 69).map (fun i=>(i.zero,i.size,i.bytes))=some (some (.agg #[(.string ⟨#[]⟩),(.string ⟨#[]⟩)]),2,32):=by kernel_rfl
-- the values' own types
/-! #### struct type 69 -/
structure gK where
 f0:ByteArray
 f1:ByteArray
def z69:gK:=⟨(⟨#[]⟩:ByteArray),(⟨#[]⟩:ByteArray)⟩
def qy:Kd gK:=Kd.iso (Kd.pair Kd.string Kd.string) (fun x:gK=>(x.f0,x.f1))
theorem adP {w:World} {x:gK} {cs:List Value} (h:qy.K w x cs):cs=[.string x.f0, .string x.f1]:=by
 obtain⟨_,_,rfl,rfl,rfl⟩:=h;exact rfl
theorem wL (w:World) (base:Nat) (ok:Nat→Prop) (x:gK):qy.M w base ok x [.string x.f0, .string x.f1]:=⟨[.string x.f0],[.string x.f1],rfl,rfl,rfl⟩
def eU (xs:List gK) (i:Int):gK:=xs.getD i.toNat z69
theorem qN {w:World} {A:Option Addr} {n:Nat} {xs:List gK} (h:Kd.C qy w A n xs) (i:Int) (h0:0≤i) (h1:i<n):∃ad,A=some ad∧w.cell? (ad.add (i.toNat*2))=some (.string (eU xs i).f0)∧w.cell? ⟨(ad.add (i.toNat*2)).block,(ad.add (i.toNat*2)).off+1,none⟩=some (.string (eU xs i).f1):=by
 obtain⟨ad,c,e,_,hK,hc0⟩:=Kd.ZQ h z69 i h0 h1;have hc:∀j u,c[j]? =some u→w.cell? (ad.add (i.toNat*2+j))=some u:=hc0;obtain rfl:=adP hK;exact⟨ad,e,hc 0 _ rfl,by rw[←vN _ _ 1 (by omega)];exact hc 1 _ rfl⟩
def ZR (xs:List (List gK)) (i:Int):(List gK):=xs.getD i.toNat ([]:List gK)
theorem aCs {w:World} {A:Option Addr} {n:Nat} {xs:List (List gK)} (h:Kd.C (Kd.slice 69 qy) w A n xs) (i:Int) (h0:0≤i) (h1:i<n):∃ad A0 c0,A=some ad∧w.cell? (ad.add i.toNat)=some (.slice A0 (ZR xs i).length c0)∧(ZR xs i).length≤c0∧qy.C w A0 (ZR xs i).length (ZR xs i):=by
 obtain⟨ad,c,e,_,hK,hc0⟩:=Kd.ZQ h ([]:List gK) i h0 h1;have hc:∀j u,c[j]? =some u→w.cell? (ad.add (i.toNat*1+j))=some u:=hc0;obtain⟨A0,c0,rfl,l0,g0⟩:=hK;exact⟨ad,A0,c0,e,by have hq:=hc 0 _ rfl;rwa [Nat.mul_one,Nat.add_zero]at hq,l0,g0⟩
def qh (xs:List (List ByteArray)) (i:Int):(List ByteArray):=xs.getD i.toNat ([]:List ByteArray)
theorem EZ {w:World} {A:Option Addr} {n:Nat} {xs:List (List ByteArray)} (h:Kd.C (Kd.slice 9 Kd.string) w A n xs) (i:Int) (h0:0≤i) (h1:i<n):∃ad A0 c0,A=some ad∧w.cell? (ad.add i.toNat)=some (.slice A0 (qh xs i).length c0)∧(qh xs i).length≤c0∧Kd.string.C w A0 (qh xs i).length (qh xs i):=by
 obtain⟨ad,c,e,_,hK,hc0⟩:=Kd.ZQ h ([]:List ByteArray) i h0 h1;have hc:∀j u,c[j]? =some u→w.cell? (ad.add (i.toNat*1+j))=some u:=hc0;obtain⟨A0,c0,rfl,l0,g0⟩:=hK;exact⟨ad,A0,c0,e,by have hq:=hc 0 _ rfl;rwa [Nat.mul_one,Nat.add_zero]at hq,l0,g0⟩
/-! #### struct type 28, nested in itself -/
structure ng where
 f0:(List gK)
 f1:(List ByteArray)
 f2:(List ng)
def z28:ng:=⟨([]:List gK),([]:List ByteArray),([]:List ng)⟩
def F28 (d:Kd ng):Kd ng:=Kd.iso (Kd.pair (Kd.slice 69 qy) (Kd.pair (Kd.slice 9 Kd.string) (Kd.slice 28 d))) (fun x:ng=>(x.f0,x.f1,x.f2))
theorem adQ:Kd.Ir F28:=Kd.adR _ (Kd.Tv (Kd.Qh _) (Kd.Tv (Kd.Qh _) (Kd.Yp 28 Kd.ahQ)))
theorem ap4:Kd.Sub F28 [9,28,69]:=Kd.ahR _ (Kd.WJ (Kd.sub_const _ (by decide)) (Kd.WJ (Kd.sub_const _ (by decide)) (Kd.acJ 28 (by decide) Kd.am4)))
theorem ap5:∀n,(Kd.upto F28 3 [9,28,69] n).sz=3:=Kd.ahS (fun _=>rfl)
def k28:Kd ng:=Kd.fix F28 3 [9,28,69] ap5 (Kd.adS ap4)
theorem adT {w:World} {x:ng} {cs:List Value} (h:k28.K w x cs):∃A0 c0 A1 c1 A2 c2,cs=[.slice A0 x.f0.length c0, .slice A1 x.f1.length c1, .slice A2 x.f2.length c2]∧x.f0.length≤c0∧qy.C w A0 x.f0.length x.f0∧x.f1.length≤c1∧Kd.string.C w A1 x.f1.length x.f1∧x.f2.length≤c2∧k28.C w A2 x.f2.length x.f2:=by
 obtain⟨n,h⟩:=h
 cases n with
 |zero=>exact h.elim
 |succ n=>
  obtain⟨_,_,rfl,⟨A0,c0,rfl,l0,g0⟩,⟨_,_,rfl,⟨A1,c1,rfl,l1,g1⟩,⟨A2,c2,rfl,l2,g2⟩⟩⟩:=h;exact⟨A0,c0,A1,c1,A2,c2,rfl,l0,g0,l1,g1,l2,Kd.ap6 g2⟩
theorem MV {w:World} {base:Nat} {ok:Nat→Prop} {x:ng} {cs:List Value} (h:k28.M w base ok x cs):∃v0 v1 v2,cs=[v0,v1,v2]∧qy.R 69 w base ok v0 x.f0∧Kd.string.R 9 w base ok v1 x.f1∧k28.R 28 w base ok v2 x.f2:=by
 obtain⟨n,h⟩:=h
 cases n with
 |zero=>exact h.elim
 |succ n=>
  obtain⟨_,_,rfl,⟨v0,rfl,g0⟩,⟨_,_,rfl,⟨v1,rfl,g1⟩,⟨v2,rfl,g2⟩⟩⟩:=h;exact⟨v0,v1,v2,rfl,g0,g1,Kd.ap7 g2⟩
theorem PK (w:World) (base:Nat) (ok:Nat→Prop) (x:ng) {v0:Value} (g0:qy.R 69 w base ok v0 x.f0) {v1:Value} (g1:Kd.string.R 9 w base ok v1 x.f1) {v2:Value} (g2:k28.R 28 w base ok v2 x.f2):k28.M w base ok x [v0,v1,v2]:=by
 obtain⟨n2,q2⟩:=Kd.Yq adQ g2;have r2:=Kd.acK adQ ap5 (show n2≤n2 by omega) q2;exact⟨n2+1,⟨[v0],[v1,v2],rfl,⟨v0,rfl,g0⟩,⟨[v1],[v2],rfl,⟨v1,rfl,g1⟩,⟨v2,rfl,r2⟩⟩⟩⟩
def bG (xs:List ng) (i:Int):ng:=xs.getD i.toNat z28
theorem BA {w:World} {A:Option Addr} {n:Nat} {xs:List ng} (h:Kd.C k28 w A n xs) (i:Int) (h0:0≤i) (h1:i<n):∃ad A0 c0 A1 c1 A2 c2,A=some ad∧w.cell? (ad.add (i.toNat*3))=some (.slice A0 (bG xs i).f0.length c0)∧w.cell? ⟨(ad.add (i.toNat*3)).block,(ad.add (i.toNat*3)).off+1,none⟩=some (.slice A1 (bG xs i).f1.length c1)∧w.cell? ⟨(ad.add (i.toNat*3)).block,(ad.add (i.toNat*3)).off+2,none⟩=some (.slice A2 (bG xs i).f2.length c2)∧(bG xs i).f0.length≤c0∧qy.C w A0 (bG xs i).f0.length (bG xs i).f0∧(bG xs i).f1.length≤c1∧Kd.string.C w A1 (bG xs i).f1.length (bG xs i).f1∧(bG xs i).f2.length≤c2∧k28.C w A2 (bG xs i).f2.length (bG xs i).f2:=by
 obtain⟨ad,c,e,_,hK,hc0⟩:=Kd.ZQ h z28 i h0 h1;have hc:∀j u,c[j]? =some u→w.cell? (ad.add (i.toNat*3+j))=some u:=hc0;obtain⟨A0,c0,A1,c1,A2,c2,rfl,l0,g0,l1,g1,l2,g2⟩:=adT hK;exact⟨ad,A0,c0,A1,c1,A2,c2,e,hc 0 _ rfl,by rw[←vN _ _ 1 (by omega)];exact hc 1 _ rfl,by rw[←vN _ _ 2 (by omega)];exact hc 2 _ rfl,l0,g0,l1,g1,l2,g2⟩
set_option maxHeartbeats 8000000
set_option maxRecDepth 100000
mutual
def iw.f:Nat→List (gK)→List ByteArray→List (ng)→Option ((List (gK))×List ByteArray×(List (ng)))
 |0,_,_,_=>none
 |k+1,dV,dI,aG=>(some (([]:List (gK)):List (gK))).bind fun Qi=>(if Qi.length+dV.length<4398046511104 then((some (([]:List ByteArray):List ByteArray)).bind fun Qj=>(if Qj.length+dI.length<8796093022208 then((fG.l0 k (([]:List (ng))) aG (aG.length:Int) 0).bind fun WL=>(some ((Qi++dV),(Qj++dI),WL)))else(none)))else(none))
def fG.l0:Nat→List (ng)→List (ng)→Int→Int→Option ((List (ng)))
 |0,_,_,_,_=>none
 |k+1,x3,x7,x8,x9=>if x9<x8 then(if 0≤x9 then(if x9<(x7.length:Int)then((iw.f k ((bG x7 x9).f0) ((bG x7 x9).f1) ((bG x7 x9).f2)).bind fun adU=>(if x3.length<1954687338268 then(fG.l0 k (x3++[(⟨adU.1,adU.2.1,adU.2.2⟩:ng)]) x7 x8 (wrap64 (x9+1)))else(none)))else(none))else(none))else(some x3)
end
def fG.f (k:Nat) (l0:List (ng)):Option ((List (ng))):=fG.l0 k (([]:List (ng))) l0 (l0.length:Int) 0
theorem iw.am5 (k:Nat) (dV:List (gK)) (dI:List ByteArray) (aG:List (ng)):iw.f (k+1) dV dI aG=((some (([]:List (gK)):List (gK))).bind fun Qi=>(if Qi.length+dV.length<4398046511104 then((some (([]:List ByteArray):List ByteArray)).bind fun Qj=>(if Qj.length+dI.length<8796093022208 then((fG.f k aG).bind fun WL=>(some ((Qi++dV),(Qj++dI),WL)))else(none)))else(none))):=by simp only[iw.f,fG.f]
theorem iw.pair (k:Nat):(∀(jM:Option Addr) (jO:Nat) (dV:List (gK)) (jI:Option Addr) (jJ:Nat) (dI:List ByteArray) (iL:Option Addr) (fK:Nat) (aG:List (ng)) (r1:List (gK)) (r2:List ByteArray) (r3:List (ng)) (w:World) (oZ:Kd.C qy w jM dV.length dV) (o7:dV.length≤jO) (o8:Kd.C Kd.string w jI dI.length dI) (o9:dI.length≤jJ) (kT:Kd.C k28 w iL aG.length aG) (kU:aG.length≤fK) (h:iw.f k dV dI aG=some (r1,r2,r3)),
  Calls Tryz.prog 61 #[.agg #[.slice jM dV.length jO, .slice jI dI.length jJ, .slice iL aG.length fK]] w fun e w'=>∃oD Eu FU:Value,e= .returned (.agg #[oD,Eu,FU])∧Kd.R qy 69 w' w.heap.size (fun _=>True) oD r1∧Kd.R Kd.string 9 w' w.heap.size (fun _=>True) Eu r2∧Kd.R k28 28 w' w.heap.size (fun k_=>some k_≠(oD:Value).ownBlock∧some k_≠(Eu:Value).ownBlock) FU r3∧Below w.heap.size w w')∧
  (∀(A0:Option Addr) (c0:Nat) (l0:List (ng)) (r:List (ng)) (w:World) (hr0:Kd.C k28 w A0 l0.length l0) (hc0:l0.length≤c0) (h:fG.f k l0=some r),
  Calls Tryz.prog 104 #[.slice A0 l0.length c0] w fun e w'=>∃oD:Value,e= .returned (oD)∧Kd.R k28 28 w' w.heap.size (fun _=>True) oD r∧Below w.heap.size w w'):=by
 induction k using Nat.strongRecOn with
 |_ k ih=>
 refine⟨?_,?_⟩
 ·cases k with
  |zero=>intro jM jO dV jI jJ dI iL fK aG r1 r2 r3 w oZ o7 o8 o9 kT kU h;exact absurd h (by simp[iw.f])
  |succ k=>
  have ihB:=(ih k (Nat.lt_succ_self k)).2;clear ih;intro jM jO dV jI jJ dI iL fK aG r1 r2 r3 w oZ o7 o8 o9 kT kU h;rw[iw.am5]at h;have FV:=Tryz.underlying28;have qA:=ak oZ;have qV:=ak o7;clear oZ o7;have uw:=ak o8;have xR:=ak o9;clear o8 o9;have jB:=ak kT;have mM:=ak kU;clear kT kU;have HB:=ak (Below.refl w.heap.size w);have H:((some (([]:List (gK)):List (gK))).bind fun Qi=>(if Qi.length+dV.length<4398046511104 then((some (([]:List ByteArray):List ByteArray)).bind fun Qj=>(if Qj.length+dI.length<8796093022208 then((fG.f k aG).bind fun WL=>(some ((Qi++dV),(Qj++dI),WL)))else(none)))else(none)))=some (r1,r2,r3):=h;clear h;replace H:=ny H;obtain⟨Qi,ap8,H⟩:=H;replace H:=nl H;obtain⟨am6,H⟩:=H;obtain⟨adV,ajR⟩:=nm (Qi++dV);rw[←ajR.out]at H;replace H:=ny H;obtain⟨Qj,ap9,H⟩:=H;replace H:=nl H;obtain⟨acL,H⟩:=H;obtain⟨am7,ajS⟩:=nm (Qj++dI);rw[←ajS.out]at H;replace H:=bd H;obtain⟨WL,A4,H⟩:=H;obtain⟨rfl,rfl,rfl⟩:=s3 H;go_enter Tryz.func61,Tryz.ntmps61;go_wp2_with (first|(refine bX HB 1 #[.slice jM dV.length jO, .slice jI dI.length jJ, .slice iL aG.length fK] 28 ?_;intro adW w5 wF aCt hb;replace HB:=bs HB hb;clear hb)|(refine bY HB 2 #[.slice none 0 0, .slice none 0 0, .slice none 0 0] 28 ?_;intro ZT w6 D6 aCu hg hb;have acM:=CP wF hg;have acN:=CQ wF hg;replace wF:=kb wF hb;replace HB:=bz HB hb;clear hb hg)|(refine Hy 3 qy 69 ap8 ?_;intro ay8 w7 ho8 hb;have ZU:=ak (Kd.aA ho8 (aj bb));replace wF:=kb wF hb;replace D6:=kb D6 hb;replace HB:=bz HB hb;clear hb ho8;have ay9:=acM.out;have ay_:=acN.out;have z10:=kF wF.out)|((with_reducible refine dO (b:= .append) (xs:=#[.tmp 3, .tmp 5]) rfl ?_);at_builtin;refine Kd.qj qy (w0:=w) w.heap.size rfl (.tmp 3) (.tmp 5) 25 69 (.agg #[(.string ⟨#[]⟩),(.string ⟨#[]⟩)]) 32 rfl Tryz.underlying25 DT rfl (by decide) (by omega) ay8 Qi dV _ _ _ (fun _=>True) (fun _=>False) rfl rfl ?aO ?aR (fun _ _ h=>h) (fun _ h=>h.elim) ?aF ?aB ?aS ?aL ?_;(case aR=>repeat(first|exact(Kd.aX qA.out HB.out)|(with_reducible refine Kd.ji ?_ _)|(with_reducible refine Kd.jk ?_ _)|(with_reducible refine Kd.kM ?_)));(case aB=>exact bb);(case aF=>exact(fun _ _=>trivial));(case aO=>exact(ur ZU.out));(case aS=>exact(aj bb));(case aL=>have:=am6.out;omega);intro aFj WI ho hb hg hat;rw[←ajR.out]at ho;have Ol:=ak (ho);replace wF:=ak (b_ (g:=adW) (o:= .cells #[.slice jM dV.length jO, .slice jI dI.length jJ, .slice iL aG.length fK] 28 (0,0)) (ub wF.out) hg (Kd.oH ZU.out wF.out (by decide)));replace D6:=ak (b_ (g:=ZT) (o:= .cells #[.slice none 0 0, .slice none 0 0, .slice none 0 0] 28 (0,0)) (ub D6.out) hg (Kd.oH ZU.out D6.out (by decide)));replace HB:=ak (hb);clear ho hb hg hat ZU;obtain⟨yG,xG,Qk⟩:=Kd.aI Ol.out;subst Qk;have z13:=kF wF.out)|(refine Hy 8 Kd.string 9 ap9 ?_;intro aza UE O4 hb;have WM:=ak (Kd.aA O4 (aj bb));replace Ol:=rg Ol hb;replace wF:=kp wF #[.slice yG adV.length xG, .slice jI dI.length jJ, .slice iL aG.length fK] hb;replace D6:=kp D6 #[.slice none 0 0, .slice none 0 0, .slice none 0 0] hb;replace HB:=bz HB hb;clear hb O4;have z16:=kF wF.out)|((with_reducible refine dO (b:= .append) (xs:=#[.tmp 8, .tmp 10]) rfl ?_);at_builtin;refine Kd.qj Kd.string (w0:=w) w.heap.size rfl (.tmp 8) (.tmp 10) 23 9 (.string ⟨#[]⟩) 16 rfl Tryz.underlying23 info9 rfl (by decide) (by omega) aza Qj dI _ _ _ (fun _=>True) (fun _=>False) rfl rfl ?aO ?aR (fun _ _ h=>h) (fun _ h=>h.elim) ?aF ?aB ?aS ?aL ?_;(case aR=>repeat(first|exact(Kd.aX uw.out HB.out)|(with_reducible refine Kd.ji ?_ _)|(with_reducible refine Kd.jk ?_ _)|(with_reducible refine Kd.kM ?_)));(case aB=>exact bb);(case aF=>exact(fun _ _=>trivial));(case aO=>exact(ur WM.out));(case aS=>exact(aj bb));(case aL=>have:=acL.out;omega);intro aFk w17 ho hb hg hat;rw[←ajS.out]at ho;have ZV:=ak (ho);replace wF:=ak (b_ (g:=adW) (o:= .cells #[.slice yG adV.length xG, .slice jI dI.length jJ, .slice iL aG.length fK] 28 (0,0)) (ub wF.out) hg (Kd.oH WM.out wF.out (by decide)));replace D6:=ak (b_ (g:=ZT) (o:= .cells #[.slice none 0 0, .slice none 0 0, .slice none 0 0] 28 (0,0)) (ub D6.out) hg (Kd.oH WM.out D6.out (by decide)));replace Ol:=ak (Kd.pX (ur Ol.out) (Kd.kG (ur WM.out)) (by decide) hg);replace HB:=ak (hb);clear ho hb hg hat WM;obtain⟨FW,FX,WO⟩:=Kd.aI ZV.out;subst WO;have z19:=kF wF.out)|(refine gV Tryz.func104 (ihB _ _ aG WL _ (Kd.aX jB.out bb) mM.out A4.out) ?_;rintro aFl w20 ⟨ho0,hb⟩;have ap_:=ak (Kd.aA (Kd.ni (Kd.ni (Kd.eX (Kd.eX ho0 (Kd.jw (rh Ol))) (Kd.jw (rh ZV))) (g:=adW) (o:= .cells #[.slice yG adV.length xG, .slice FW am7.length FX, .slice iL aG.length fK] 28 (0,0)) bq) (g:=ZT) (o:= .cells #[.slice none 0 0, .slice none 0 0, .slice none 0 0] 28 (0,0)) bq) (aj bb));replace Ol:=rg Ol hb;replace ZV:=rg ZV hb;replace wF:=kp wF #[.slice yG adV.length xG, .slice FW am7.length FX, .slice iL aG.length fK] hb;replace D6:=kp D6 #[.slice none 0 0, .slice none 0 0, .slice none 0 0] hb;replace HB:=bz HB hb;clear hb;(try clear ho0);obtain⟨MW,MX,UF⟩:=Kd.aI ap_.out;subst UF;have z22:=kF wF.out;have z23:=kF D6.out))
  refine bodyPost_ret (results_cell_row rfl _ _ ZT 28 #[.slice yG adV.length xG, .slice FW am7.length FX, .slice MW WL.length MX] (0,0) _ rfl bq Tryz.underlying28 rfl (by kernel_rfl)) rfl ?_;exact⟨_,_,_,er,rr,rr,rr,bb⟩
 ·intro A0 c0 l0 r w hr0 hc0 h;have FV:=Tryz.underlying28;have HR0:=ak hr0;have yF:=ak hc0;clear hr0 hc0;have HB:=ak (Below.refl w.heap.size w);have H:(fG.l0 k (([]:List (ng))) l0 (l0.length:Int) 0)=some r:=h;clear h;obtain⟨y101,ajT⟩:=nm ([]:List (ng));rw[←ajT.out]at H;have H':=ak H;clear H;go_enter Tryz.func104,Tryz.ntmps104;go_wp2_with (refine Hy 6 k28 28 ajT ?_;intro aFm w2 ho3 hb;have aqa:=ak (Kd.aA ho3 (aj (ul HB.out)));replace HB:=bs HB hb;clear hb ho3)
  go_loopg [3,9] k (fun kq v3 v9 w'=>∃(dR:List (ng)) (xH:Int),v9= .int .i64 xH∧ah (fG.l0 kq dR l0 (l0.length:Int) xH=some r)∧ah (kq≤k)∧ah (Kd.R k28 28 w' w.heap.size (fun _=>True) v3 dR)∧ah (Below w.heap.size w w'))
  case atStart=>exact⟨_,_,rs,H',⟨Nat.le_refl _⟩,⟨ur aqa.out⟩,⟨ul HB.out⟩⟩
  case round=>
   clear H';obtain⟨dR,xH,rfl,HA,yH,oz,HB⟩:=hrel
   cases gk with
   |zero=>exact zz HA.out
   |succ k1=>
    obtain⟨H⟩:=HA;simp only[fG.l0]at H;replace H:=sd H;rcases H with⟨qW,H⟩|⟨qW,H⟩
    ·replace H:=nS H;obtain⟨mQ,H⟩:=H;replace H:=nS H;obtain⟨nG,H⟩:=H;replace H:=bd H;obtain⟨⟨adX,t109,UG⟩,A7,H⟩:=H
     (try dsimp only at H);replace H:=nl H;obtain⟨am8,H⟩:=H;obtain⟨y115,ajU⟩:=nm (dR++[(⟨adX,t109,UG⟩:ng)]);rw[←ajU.out]at H;have H':=ak H;clear H;have am9:=zi xH;have am_:=zj xH l0.length;obtain⟨aCv,Jd,Je,Jf,Jg,Jh,Ji,azb,ZW,ZX,ZY,Z4,Z5,Z7,Z8,Z9,Z_⟩:=BA HR0.out xH am9 am_;cases azb;replace ZW:=cl HB.out ZW;replace ZX:=cl HB.out ZX;replace ZY:=cl HB.out ZY;have ahT:=ak Z5;have ahU:=ak Z4;clear Z5 Z4;have ahV:=ak Z8;have ahW:=ak Z7;clear Z8 Z7;have ahX:=ak Z_;have ahY:=ak Z9;clear Z_ Z9;replace am9:=eq_true am9;replace am_:=eq_true am_;go_wp2_with (first|(refine bY HB 5 #[.slice none 0 0, .slice none 0 0, .slice none 0 0] 28 ?_;intro yK w9 IK aqb hg hb;replace oz:=ak (Kd.sQ (Kd.zA (ur oz.out) yK (Nat.le_of_eq hg.symm)) hb);replace HB:=bs HB hb;clear hb hg;have z10:=kF IK.out)|(refine gL 61 15 Tryz.func61 #[.agg #[.slice Jd ((bG l0 xH).f0).length Je, .slice Jf ((bG l0 xH).f1).length Jg, .slice Jh ((bG l0 xH).f2).length Ji]] ?_;(with_reducible refine((ih k1 (by have:=yH.out;omega)).1 _ _ ((bG l0 xH).f0) _ _ ((bG l0 xH).f1) _ _ ((bG l0 xH).f2) adX t109 UG _ (Kd.aX ahT.out bb) ahU.out (Kd.aX ahV.out bb) ahW.out (Kd.aX ahX.out bb) ahY.out A7.out).mono ?_);rintro e WI ⟨v107,aFo,aFp,rfl,ho0,ho1,ho2,hb⟩;refine⟨_,rfl,?_⟩;have adY:=ak (Kd.aA ho0 (aj bb));have adZ:=ak (Kd.aA ho1 (aj bb));have ad1:=ak (Kd.aA (Kd.ni (Kd.eX ho2 (Kd.jw (ur (Kd.aQ (Kd.lI (p:=⟨yK,2,none⟩) (Kd.lI (p:=⟨yK,1,none⟩) (Kd.lI (p:=⟨yK,0,none⟩) (Kd.aQ oz.out (fun k_ hk=>(⟨hk,hk.2⟩:_∧k_≠yK))) (fun _ hk=>hk.2) (.slice Jd ((bG l0 xH).f0).length Je)) (fun _ hk=>hk.2) (.slice Jf ((bG l0 xH).f1).length Jg)) (fun _ hk=>hk.2) (.slice Jh ((bG l0 xH).f2).length Ji)) (fun _ h_=>h_.1))))) (g:=yK) (o:= .cells #[.slice Jd ((bG l0 xH).f0).length Je, .slice Jf ((bG l0 xH).f1).length Jg, .slice Jh ((bG l0 xH).f2).length Ji] 28 (0,0)) bq) (aj bb));replace oz:=ak (Kd.aQ (Kd.sS (Kd.sS (Kd.sS (Kd.ad2 (ur (Kd.aQ (Kd.lI (p:=⟨yK,2,none⟩) (Kd.lI (p:=⟨yK,1,none⟩) (Kd.lI (p:=⟨yK,0,none⟩) (Kd.aQ oz.out (fun k_ hk=>(⟨hk,hk.2⟩:_∧k_≠yK))) (fun _ hk=>hk.2) (.slice Jd ((bG l0 xH).f0).length Je)) (fun _ hk=>hk.2) (.slice Jf ((bG l0 xH).f1).length Jg)) (fun _ hk=>hk.2) (.slice Jh ((bG l0 xH).f2).length Ji)) (fun _ h_=>h_.1))) hb) (Kd.dw ho0)) (Kd.dw ho1)) (Kd.dw ho2)) (fun _ h_=>h_.1));replace IK:=kp IK #[.slice Jd ((bG l0 xH).f0).length Je, .slice Jf ((bG l0 xH).f1).length Jg, .slice Jh ((bG l0 xH).f2).length Ji] hb;replace HB:=bz HB hb;clear hb;(try clear ho0);(try clear ho1);(try clear ho2);obtain⟨Yr,JQ,UH⟩:=Kd.aI adY.out;subst UH;obtain⟨acO,acP,Yt⟩:=Kd.aI adZ.out;subst Yt;obtain⟨MZ,M_,UJ⟩:=Kd.aI ad1.out;subst UJ)|((with_reducible refine dO (b:= .append) (xs:=#[.tmp 13, .tmp 16]) rfl ?_);at_builtin;refine Kd.oI k28 (w0:=w) w.heap.size rfl (.tmp 13) (.tmp 16) 26 28 (.agg #[(.slice none 0 0),(.slice none 0 0),(.slice none 0 0)]) 72 rfl Tryz.underlying26 UD rfl (by decide) (by omega) u3 dR (⟨adX,t109,UG⟩:ng) [.slice Yr adX.length JQ, .slice acO t109.length acP, .slice MZ UG.length M_] (fun k_=>k_≠yK) (fun k_=>((fun k_=>k_≠yK)) k_∧some k_≠(u3:Value).ownBlock) rfl rfl ?aP (fun _ hk=>hk) ?aF ?aO ?aB ?aS ?aL ?_;(case aP=>exact PK _ _ _ (⟨adX,t109,UG⟩:ng) (Kd.aQ (Kd.lU (Kd.nH (adY.out) (Kd.kG oz.out) (by decide)) IK.out (by decide)) (fun k_ hk=>⟨hk.2,hk.1.2⟩)) (Kd.aQ (Kd.lU (Kd.nH (adZ.out) (Kd.kG oz.out) (by decide)) IK.out (by decide)) (fun k_ hk=>⟨hk.2,hk.1.2⟩)) (Kd.aQ (ad1.out) (fun k_ hk=>⟨hk.2,hk.1.2⟩)));(case aB=>exact bb);(case aF=>exact(fun k_ hk=>Kd.yN (g:=yK) (o:= .cells #[.slice Jd ((bG l0 xH).f0).length Je, .slice Jf ((bG l0 xH).f1).length Jg, .slice Jh ((bG l0 xH).f2).length Ji] 28 (0,0)) (ub IK.out) k_ hk));(case aO=>exact(ur (Kd.aQ oz.out (fun _ hk=>hk.1.1.1.2))));(case aS=>exact(aj bb));(case aL=>have:=am8.out;omega);intro aFq w12 ho hb hg hat;rw[←ajU.out]at ho;have aqc:=ak (ho);replace IK:=ak (b_ (g:=yK) (o:= .cells #[.slice Jd ((bG l0 xH).f0).length Je, .slice Jf ((bG l0 xH).f1).length Jg, .slice Jh ((bG l0 xH).f2).length Ji] 28 (0,0)) (ub IK.out) hg (Kd.Ac oz.out (fun _ hk=>hk.1.1.1.2)));replace HB:=ak (hb);clear ho hb hg hat oz adY adZ ad1))
     go_roundg k1
     case measure=>exact kl
     case rel=>exact⟨_,_,rs,H',⟨kl⟩,⟨ur (Kd.aQ aqc.out (fun _ hk=>trivial))⟩,⟨bb⟩⟩
    ·obtain rfl:=s1 H;go_wp2;go_ret;exact⟨_,er,ur oz.out,ul HB.out⟩
theorem iw.calls {k jO jJ fK:Nat} {jM jI iL:Option Addr} {dV r1:List (gK)} {dI r2:List ByteArray} {aG r3:List (ng)} {w:World} (oZ:Kd.C qy w jM dV.length dV) (o7:dV.length≤jO) (o8:Kd.C Kd.string w jI dI.length dI) (o9:dI.length≤jJ) (kT:Kd.C k28 w iL aG.length aG) (kU:aG.length≤fK) (h:iw.f k dV dI aG=some (r1,r2,r3)):
  Calls Tryz.prog 61 #[.agg #[.slice jM dV.length jO, .slice jI dI.length jJ, .slice iL aG.length fK]] w fun e w'=>∃oD Eu FU:Value,e= .returned (.agg #[oD,Eu,FU])∧Kd.R qy 69 w' w.heap.size (fun _=>True) oD r1∧Kd.R Kd.string 9 w' w.heap.size (fun _=>True) Eu r2∧Kd.R k28 28 w' w.heap.size (fun k_=>some k_≠(oD:Value).ownBlock∧some k_≠(Eu:Value).ownBlock) FU r3∧Below w.heap.size w w':=(iw.pair k).1 jM jO dV jI jJ dI iL fK aG r1 r2 r3 w oZ o7 o8 o9 kT kU h
theorem fG.calls {k c0:Nat} {A0:Option Addr} {l0 r:List (ng)} {w:World} (hr0:Kd.C k28 w A0 l0.length l0) (hc0:l0.length≤c0) (h:fG.f k l0=some r):
  Calls Tryz.prog 104 #[.slice A0 l0.length c0] w fun e w'=>∃oD:Value,e= .returned (oD)∧Kd.R k28 28 w' w.heap.size (fun _=>True) oD r∧Below w.heap.size w w':=(iw.pair k).2 A0 c0 l0 r w hr0 hc0 h
set_option maxHeartbeats 8000000
set_option maxRecDepth 100000
mutual
def dG.l0:Nat→Int→List (gK)→List ByteArray→List (ng)→List (gK)→List ByteArray→List (ng)→Option ((List (gK))×List ByteArray×(List (ng)))
 |0,_,_,_,_,_,_,_=>none
 |k+1,x4,ahZ,ah0,JR,aac,aad,UK=>if x4<(JR.length:Int)then(if 0≤x4 then((dG.f k ((bG JR x4).f0) ((bG JR x4).f1) ((bG JR x4).f2)).bind fun ad3=>(if UK.length<1954687338268 then(dG.l0 k (wrap64 (x4+1)) ahZ ah0 JR aac aad (UK++[(⟨ad3.1,ad3.2.1,ad3.2.2⟩:ng)]))else(none)))else(none))else(some (aac,aad,UK))
def dG.f:Nat→List (gK)→List ByteArray→List (ng)→Option ((List (gK))×List ByteArray×(List (ng)))
 |0,_,_,_=>none
 |k+1,dV,dI,aG=>(some (([]:List (gK)):List (gK))).bind fun ad4=>(if ad4.length+dV.length<4398046511104 then((some (([]:List ByteArray):List ByteArray)).bind fun ad5=>(if ad5.length+dI.length<8796093022208 then(dG.l0 k 0 dV dI aG (ad4++dV) (ad5++dI) ([]:List (ng)))else(none)))else(none))
end
def dG.T1:Bool×List (List Nat×List Nat):=(true,[([],[]),([],[]),([1],[1]),([0,2],[0,2]),([],[]),([],[]),([5],[5]),([4,6,3],[4,6]),([3,7],[3,7]),([],[]),([9,8,7,0,1,2,3,4,5,6,7,8,9],[8,9])])
def dG.B1:List Nat:=[0,0,2,7,0,0,32,127,255,0,1023]
theorem dG.azc:wG .any (opsOf Tryz.f110 1)=dG.T1:=by kernel_rfl
theorem dG.aqd:uy dG.T1.2 dG.B1=true:=by kernel_rfl
def dG.T5:Bool×List (List Nat×List Nat):=(true,[([],[]),([0],[0]),([],[]),([2],[2]),([],[]),([3,4],[3,4]),([5],[5]),([6],[6]),([7],[7]),([1,8,7],[1,8]),([0,1,2,3,4,5,6,7,8,9],[]),([10,9,9,0,1,2,3,4,5,6,7,8,9],[9,10])])
def dG.B5:List Nat:=[0,1,0,4,0,28,60,124,252,511,1023,2047]
theorem dG.azd:wG .any (opsOf Tryz.f110 5)=dG.T5:=by kernel_rfl
theorem dG.aqe:uy dG.T5.2 dG.B5=true:=by kernel_rfl
theorem dG.calls (k:Nat):∀(jM:Option Addr) (jO:Nat) (dV:List (gK)) (jI:Option Addr) (jJ:Nat) (dI:List ByteArray) (iL:Option Addr) (fK:Nat) (aG:List (ng)) (r1:List (gK)) (r2:List ByteArray) (r3:List (ng)) (w:World) (oZ:Kd.C qy w jM dV.length dV) (o7:dV.length≤jO) (o8:Kd.C Kd.string w jI dI.length dI) (o9:dI.length≤jJ) (kT:Kd.C k28 w iL aG.length aG) (kU:aG.length≤fK) (h:dG.f k dV dI aG=some (r1,r2,r3)),
  Calls Tryz.prog 110 #[.agg #[.slice jM dV.length jO, .slice jI dI.length jJ, .slice iL aG.length fK]] w fun e w'=>∃oD Eu FU:Value,e= .returned (.agg #[oD,Eu,FU])∧Kd.R qy 69 w' w.heap.size (fun _=>True) oD r1∧Kd.R Kd.string 9 w' w.heap.size (fun _=>True) Eu r2∧Kd.R k28 28 w' w.heap.size (fun k_=>some k_≠(oD:Value).ownBlock∧some k_≠(Eu:Value).ownBlock) FU r3∧Below w.heap.size w w':=by
 induction k using Nat.strongRecOn with
 |_ k ih=>
 intro jM jO dV jI jJ dI iL fK aG r1 r2 r3 w oZ o7 o8 o9 kT kU h
 cases k with
 |zero=>exact absurd h (by simp[dG.f])
 |succ k=>
 simp only[dG.f]at h;have FV:=Tryz.underlying28;have qA:=ak oZ;have qV:=ak o7;clear oZ o7;have uw:=ak o8;have xR:=ak o9;clear o8 o9;have jB:=ak kT;have mM:=ak kU;clear kT kU;have HB:=ak (Below.refl w.heap.size w);have H:=h;clear h;replace H:=ny H;obtain⟨ad4,aqf,H⟩:=H;replace H:=nl H;obtain⟨am6,H⟩:=H;obtain⟨Jj,ajV⟩:=nm (ad4++dV);rw[←ajV.out]at H;replace H:=ny H;obtain⟨ad5,aqg,H⟩:=H;replace H:=nl H;obtain⟨acL,H⟩:=H;obtain⟨Jk,ajW⟩:=nm (ad5++dI);rw[←ajW.out]at H;have H':=ak H;clear H;go_enter Tryz.func110,Tryz.ntmps110;try go_wp2_with (first|(refine bX HB 1 #[.slice jM dV.length jO, .slice jI dI.length jJ, .slice iL aG.length fK] 28 ?_;intro tJ w4 jY aCw hb;replace HB:=bs HB hb;clear hb)|(refine bY HB 2 #[.slice none 0 0, .slice none 0 0, .slice none 0 0] 28 ?_;intro CY w5 o_ aCx hg hb;have Tz:=CP jY hg;have TA:=CQ jY hg;replace jY:=kb jY hb;replace HB:=bz HB hb;clear hb hg))
 replace jY:=ak (jC jY.out);replace o_:=ak (jC o_.out);replace HB:=ak (iI HB.out);refine DU (n:=11) (S:=fun w'=>w'.cell? ⟨tJ,0,none⟩=some (.slice jM dV.length jO)∧w'.cell? ⟨tJ,1,none⟩=some (.slice jI dI.length jJ)∧w'.cell? ⟨tJ,2,none⟩=some (.slice iL aG.length fK)) (ds:=[]) #[false,false,false,false,false,false,false,false,false,false,false] (by kernel_rfl) rfl rfl ⟨(aC jY.out 0).trans rfl,(aC jY.out 1).trans rfl,(aC jY.out 2).trans rfl⟩ (fun hHeld=>?_);refine t_ dG.azc dG.aqd (fun E5 HW_=>?_)
 generalize w5.drew=w6 at jY o_ HB hHeld⊢
 refine pl 1 ?_;refine pl 5 ?_;refine tk 2 ?_;refine tk 6 ?_;refine ad6 (σ:=Value×Value×Value×Value×Nat) 1 #[true,true,true,true,true,true,true,true,true,true,false] (fun s_=>[(5,s_.1),(8,s_.2.1),(9,s_.2.2.1),(12,s_.2.2.2.1),(3, .pointer (some ⟨s_.2.2.2.2,0,none⟩)),(13, .agg #[s_.2.1,s_.2.2.2.1, .slice none 0 0])]) (fun s_ w'=>(w'.cell? ⟨tJ,0,none⟩=some (.slice jM dV.length jO)∧w'.cell? ⟨tJ,1,none⟩=some (.slice jI dI.length jJ)∧w'.cell? ⟨tJ,2,none⟩=some (.slice iL aG.length fK))∧(Kd.R qy 69 w' w.heap.size (fun _=>True) s_.2.1 Jj)∧(Kd.R Kd.string 9 w' w.heap.size (fun _=>True) s_.2.2.2.1 Jk)∧(w'.heap[tJ]? =some (.cells #[.slice jM dV.length jO, .slice jI dI.length jJ, .slice iL aG.length fK] 28 (0,0)))∧(w'.heap[CY]? =some (.cells #[.slice none 0 0, .slice none 0 0, .slice none 0 0] 28 (0,0)))∧(w'.heap[s_.2.2.2.2]? =some (.cells #[.slice none 0 0, .slice none 0 0, .slice none 0 0] 28 (0,0)))∧(w.heap.size≤s_.2.2.2.2)∧(w.heap.size≤s_.2.2.2.2)∧(tJ≠s_.2.2.2.2)∧(s_.2.2.2.2≠tJ)∧(CY≠s_.2.2.2.2)∧(s_.2.2.2.2≠CY)∧(Below w.heap.size w w')) ?_ ?_
 rotate_left
 ·intro hJ
  repeat' (first
   |(obtain⟨FW,FX,WO⟩:=Kd.aI E8.out;obtain⟨Iu,FY,WQ⟩:=Kd.aI E_.out;subst WO;subst WQ;refine pl 8 ?_)
   |exact Fa (by first|(simp only[yO,Act.put,Aq,Ar,l_c];done)|(simp only[yO,Act.put,Aq,Ar,l_c];rfl)) (hJ (ana, .slice FW Jj.length FX,anb, .slice Iu Jk.length FY,ql) _ ⟨hHeld,E8.out,E_.out,jY.out,o_.out,lJ.out,ad7.out,ad7.out,mV.out,wY.out,yP.out,yQ.out,HB.out⟩)
   |((first|refine th3 0 4 9 ?_ ?_ ?_|refine th3 3 4 9 ?_ ?_ ?_|refine tw2 0 4 ?_ ?_|refine tw2 0 9 ?_ ?_|refine tw2 3 4 ?_ ?_|refine tw2 3 9 ?_ ?_|refine tw2 4 9 ?_ ?_|refine tw2 7 9 ?_ ?_|refine o1 0 ?_|refine o1 3 ?_|refine o1 4 ?_|refine o1 7 ?_|refine o1 9 ?_)<;>(intro K hK;first
    |(refine gn 3 ?_;refine Ql ?hg (N:=3) ?hd (cs:=#[.slice none 0 0, .slice none 0 0, .slice none 0 0]) (t:=28) ?hr ?_;(case hd=>rfl);(case hg=>rfl);(case hr=>first|(go_simp;done)|(go_simp;rfl));intro ql hg w_ hbox hb;have ad7:=ge_ HB hg;have mV:=CP jY hg;have wY:=CQ jY hg;have yP:=CP o_ hg;have yQ:=CQ o_ hg;(try replace BD:=rb BD hb);(try replace E8:=rb E8 hb);(try replace BF:=rb BF hb);(try replace E_:=rb E_ hb);replace jY:=kb jY hb;replace o_:=kb o_ hb;replace HB:=bs HB hb;have lJ:=ak hbox;clear hbox hb hg;refine hK.out _ _ sx (fun hHeld=>?_);clear hK K;refine nrm ?_)
    |(refine gn 5 ?_;refine Kd.qB qy _ 69 ?hg (N:=5) ?hd (xs:=([]:List gK)) (inner:=[]) (ok:=fun _=>True) (sH:=fun _=>True) ?hr ?hp (fun _ hk=>hk) trivial (Below.refl _ _) (Nat.le_refl _) (by simp) ?_;(case hd=>rfl);(case hg=>rfl);(case hr=>first|(go_simp;done)|(go_simp;rfl));(case hp=>exact(cO.none _ _));intro ana w_ ho hb _ _;rw[←aqf.out]at ho;replace ho:=Kd.aA ho (aj (ul HB.out));(try replace BD:=rb BD hb);(try replace E8:=rb E8 hb);(try replace BF:=rb BF hb);(try replace E_:=rb E_ hb);(try replace lJ:=kb lJ hb);replace jY:=kb jY hb;replace o_:=kb o_ hb;replace HB:=bs HB hb;have BD:=ak ho;clear ho hb;refine hK.out _ _ sx (fun hHeld=>?_);clear hK K;refine nrm ?_)
    |(refine gn 9 ?_;refine Kd.qB Kd.string _ 9 ?hg (N:=9) ?hd (xs:=([]:List ByteArray)) (inner:=[]) (ok:=fun _=>True) (sH:=fun _=>True) ?hr ?hp (fun _ hk=>hk) trivial (Below.refl _ _) (Nat.le_refl _) (by simp) ?_;(case hd=>rfl);(case hg=>rfl);(case hr=>first|(go_simp;done)|(go_simp;rfl));(case hp=>exact(cO.none _ _));intro anb w_ ho hb _ _;rw[←aqg.out]at ho;replace ho:=Kd.aA ho (aj (ul HB.out));(try replace BD:=rb BD hb);(try replace E8:=rb E8 hb);(try replace BF:=rb BF hb);(try replace E_:=rb E_ hb);(try replace lJ:=kb lJ hb);replace jY:=kb jY hb;replace o_:=kb o_ hb;replace HB:=bs HB hb;have BF:=ak ho;clear ho hb;refine hK.out _ _ sx (fun hHeld=>?_);clear hK K;refine nrm ?_)
    |(refine gn 8 ?_;refine Kd.sU qy (w0:=w) w.heap.size (by rfl) (.tmp 5) (.tmp 7) 25 69 (.agg #[(.string ⟨#[]⟩),(.string ⟨#[]⟩)]) 32 rfl Tryz.underlying25 DT rfl (by decide) (by omega) ana ad4 dV _ _ _ (fun _=>True) (fun _=>False) rfl rfl BD.out (Kd.aX qA.out HB.out) (fun _ _ h=>h) (fun _ h=>h.elim) (fun _ _=>trivial) HB.out (aj HB.out) (by have:=am6.out;omega) ?_;intro aqh w_ ho hb hg hat;rw[←ajV.out]at ho;(try replace BF:=ak (Kd.pX BF.out (Kd.kG BD.out) (by decide) hg));(try replace E_:=ak (Kd.pX E_.out (Kd.kG BD.out) (by decide) hg));(try replace lJ:=ak (b_ lJ.out hg (Kd.oH BD.out lJ.out (by decide))));replace jY:=ak (b_ jY.out hg (Kd.oH BD.out jY.out (by decide)));replace o_:=ak (b_ o_.out hg (Kd.oH BD.out o_.out (by decide)));replace HB:=ak hb;have E8:=ak ho;clear BD ho hb hg hat;refine hK.out _ _ sx (fun hHeld=>?_);clear hK K;refine nrm ?_)
    |(refine gn 12 ?_;refine Kd.sU Kd.string (w0:=w) w.heap.size (by rfl) (.tmp 9) (.tmp 11) 23 9 (.string ⟨#[]⟩) 16 rfl Tryz.underlying23 info9 rfl (by decide) (by omega) anb ad5 dI _ _ _ (fun _=>True) (fun _=>False) rfl rfl BF.out (Kd.aX uw.out HB.out) (fun _ _ h=>h) (fun _ h=>h.elim) (fun _ _=>trivial) HB.out (aj HB.out) (by have:=acL.out;omega) ?_;intro aqi w_ ho hb hg hat;rw[←ajW.out]at ho;(try replace BD:=ak (Kd.pX BD.out (Kd.kG BF.out) (by decide) hg));(try replace E8:=ak (Kd.pX E8.out (Kd.kG BF.out) (by decide) hg));(try replace lJ:=ak (b_ lJ.out hg (Kd.oH BF.out lJ.out (by decide))));replace jY:=ak (b_ jY.out hg (Kd.oH BF.out jY.out (by decide)));replace o_:=ak (b_ o_.out hg (Kd.oH BF.out o_.out (by decide)));replace HB:=ak hb;have E_:=ak ho;clear BF ho hb hg hat;refine hK.out _ _ sx (fun hHeld=>?_);clear hK K;refine nrm ?_))))
 rintro⟨ana,aqh,anb,aqi,ql⟩ w16 ⟨hS_,h0_,h1_,Yu,h3_,h4_,h5_,h6_,h7_,h8_,h9_,UL,acQ⟩;have zB:ah (Kd.R qy 69 w16 w.heap.size (fun _=>True) aqh Jj):=⟨h0_⟩
 have zC:ah (Kd.R Kd.string 9 w16 w.heap.size (fun _=>True) aqi Jk):=⟨h1_⟩
 have Au:ah (w16.heap[tJ]? =some (.cells #[.slice jM dV.length jO, .slice jI dI.length jJ, .slice iL aG.length fK] 28 (0,0))):=⟨Yu⟩
 have D7:ah (w16.heap[CY]? =some (.cells #[.slice none 0 0, .slice none 0 0, .slice none 0 0] 28 (0,0))):=⟨h3_⟩
 have IL:ah (w16.heap[ql]? =some (.cells #[.slice none 0 0, .slice none 0 0, .slice none 0 0] 28 (0,0))):=⟨h4_⟩
 have JU:ah (w.heap.size≤ql):=⟨h5_⟩
 have Om:ah (w.heap.size≤ql):=⟨h6_⟩
 have TB:ah (tJ≠ql):=⟨h7_⟩
 have WR:ah (ql≠tJ):=⟨h8_⟩
 have n9_:ah (CY≠ql):=⟨h9_⟩
 have Qm:ah (ql≠CY):=⟨UL⟩
 have ad8:ah (Below w.heap.size w w16):=⟨acQ⟩
 clear jY o_ HB h0_ h1_ Yu h3_ h4_ h5_ h6_ h7_ h8_ h9_ UL acQ;have E8:=zB;have E_:=zC;have jY:=Au;have o_:=D7;have lJ:=IL;have ad7:=JU;have aCy:=Om;have mV:=TB;have wY:=WR;have yP:=n9_;have yQ:=Qm;have HB:=ad8;clear zB zC Au D7 IL JU Om TB WR n9_ Qm ad8;have hHeld:w16.cell? ⟨tJ,0,none⟩=some (.slice jM dV.length jO)∧w16.cell? ⟨tJ,1,none⟩=some (.slice jI dI.length jJ)∧w16.cell? ⟨tJ,2,none⟩=some (.slice iL aG.length fK):=hS_;obtain⟨Iu,FY,WQ⟩:=Kd.aI E_.out
 (first|subst WQ|(injection WQ with qI xI qJ;have xJ:=qI.symm;have xK:=qJ.symm;clear qI xI qJ;subst xJ;subst xK));obtain⟨FW,FX,WO⟩:=Kd.aI E8.out
 (first|subst WO|(injection WO with qI xI qJ;have xJ:=qI.symm;have xK:=qJ.symm;clear qI xI qJ;subst xJ;subst xK));refine Fa (a':=?_) ?_ ?_
 rotate_left
 ·simp only[yO,Act.put,Aq,Ar,l_c];rfl
 refine o1 10 (fun K hK=>?_);have aFr:w16.cell? ⟨ql,0,none⟩=some (.slice none 0 0):=(aC lJ.out 0).trans rfl;have aCz:=gy lJ.out 0;have ayb:=mV.out;have ayc:=yP.out;have ayd:=wY.out;have aye:=yQ.out;have aFs:w16.cell? ⟨ql,1,none⟩=some (.slice none 0 0):=(aC lJ.out 1).trans rfl;have aCA:=gy lJ.out 1;have ayf:=mV.out;have ayg:=yP.out;have ayh:=wY.out;have ayi:=yQ.out;have aFt:w16.cell? ⟨ql,2,none⟩=some (.slice none 0 0):=(aC lJ.out 2).trans rfl;have aCB:=gy lJ.out 2;have ayj:=mV.out;have ayk:=yP.out;have ayl:=wY.out;have aym:=yQ.out;refine IQ (w1:=?_) (by rfl) rfl ?_ ?_
 rotate_left
 ·go_simp;rfl
 refine hK.out _ _ ⟨((cell_far (p:=⟨ql,_,none⟩) mV.out _).trans (((cell_far (p:=⟨ql,_,none⟩) mV.out _).trans (((cell_far (p:=⟨ql,_,none⟩) mV.out _).trans (hHeld.1)))))),((cell_far (p:=⟨ql,_,none⟩) mV.out _).trans (((cell_far (p:=⟨ql,_,none⟩) mV.out _).trans (((cell_far (p:=⟨ql,_,none⟩) mV.out _).trans (hHeld.2.1)))))),((cell_far (p:=⟨ql,_,none⟩) mV.out _).trans (((cell_far (p:=⟨ql,_,none⟩) mV.out _).trans (((cell_far (p:=⟨ql,_,none⟩) mV.out _).trans (hHeld.2.2))))))⟩ (fun hHeld=>?_);clear hK K;refine IU (y9 E5.out (by kernel_rfl)) ?_;try go_wp2
 go_loopg [4] k (fun kq v4 w'=>∃(eu:Int) (Bh:List (ng)) (zf:Value),v4= .int .i64 eu∧ah (dG.l0 kq eu dV dI aG Jj Jk Bh=some (r1,r2,r3))∧ah (kq≤k)∧ah (Kd.R qy 69 w' w.heap.size (fun _=>True) (.slice FW Jj.length FX) Jj)∧ah (Kd.R Kd.string 9 w' w.heap.size (fun _=>True) (.slice Iu Jk.length FY) Jk)∧ah (Kd.R k28 28 w' w.heap.size (fun k_=>some k_≠((.slice FW Jj.length FX):Value).ownBlock∧some k_≠((.slice Iu Jk.length FY):Value).ownBlock∧k_≠tJ∧k_≠CY∧k_≠ql) zf Bh)∧ah (w'.heap[tJ]? =some (.cells #[(.slice jM dV.length jO),(.slice jI dI.length jJ),(.slice iL aG.length fK)] 28 (0,0)))∧ah (w'.heap[CY]? =some (.cells #[(.slice none 0 0),(.slice none 0 0),(.slice none 0 0)] 28 (0,0)))∧ah (w'.heap[ql]? =some (.cells #[(.slice FW Jj.length FX),(.slice Iu Jk.length FY),zf] 28 (0,0)))∧ah (Below w.heap.size w w'))
 case atStart=>exact⟨_,_,_,rs,H',⟨Nat.le_refl _⟩,⟨rr⟩,⟨rr⟩,⟨nx⟩,⟨bq⟩,⟨bq⟩,⟨bq⟩,⟨bb⟩⟩
 case round=>
  clear H';obtain⟨eu,Bh,zf,rfl,HA,yH,qP,qQ,nO,jY,o_,lJ,HB⟩:=hrel
  cases gk with
  |zero=>exact zz HA.out
  |succ k1=>
   obtain⟨H⟩:=HA;simp only[dG.l0]at H;replace H:=sd H;rcases H with⟨FZ,H⟩|⟨FZ,H⟩
   ·replace H:=nS H;obtain⟨Aw,H⟩:=H;replace H:=bd H;obtain⟨⟨ad9,ad_,aea⟩,Yv,H⟩:=H
    (try dsimp only at H);replace H:=nl H;obtain⟨Qn,H⟩:=H;obtain⟨aFu,ajX⟩:=nm (Bh++[(⟨ad9,ad_,aea⟩:ng)]);rw[←ajX.out]at H;have H':=ak H;clear H;have aqj:=Tz.out;have aqk:=TA.out;have ajY:=mV.out;have ajZ:=wY.out;have ah1:=kF jY.out;try go_wp2
    replace qP:=ak (Kd.lM qP.out);replace qQ:=ak (Kd.lM qQ.out);replace nO:=ak (Kd.lM nO.out);replace jY:=ak (jC jY.out);replace o_:=ak (jC o_.out);replace lJ:=ak (jC lJ.out);replace HB:=ak (iI HB.out);have anc:=zi eu;have ane:=zj eu aG.length;obtain⟨JV,aeb,aec,aed,aee,aef,aeg,aze,PL,PN,PO,aae,aaf,aag,aah,aai,aaj⟩:=BA jB.out eu anc ane;have zh:=PO;have zk:=PN;have zl:=PL;cases aze;replace PL:=cl HB.out PL;replace PN:=cl HB.out PN;replace PO:=cl HB.out PO;have aak:=ak aaf;have ah2:=ak aae;clear aaf aae;have aal:=ak aah;have ah3:=ak aag;clear aah aag;have aam:=ak aaj;have ah4:=ak aai;clear aaj aai;replace anc:=eq_true anc;replace ane:=eq_true ane;refine DU (n:=12) (S:=fun w'=>w'.cell? ⟨ql,0,none⟩=some (.slice FW Jj.length FX)∧w'.cell? ⟨ql,1,none⟩=some (.slice Iu Jk.length FY)∧w'.cell? ⟨ql,2,none⟩=some (zf)∧w'.cell? ⟨tJ,0,none⟩=some (.slice jM dV.length jO)∧w'.cell? ⟨tJ,1,none⟩=some (.slice jI dI.length jJ)∧w'.cell? ⟨tJ,2,none⟩=some (.slice (some JV) aG.length fK)∧w'.cell? (JV.add ((eu).toNat*3))=some (.slice aeb ((bG aG eu).f0).length aec)∧w'.cell? ⟨(JV.add ((eu).toNat*3)).block,(JV.add ((eu).toNat*3)).off+1,none⟩=some (.slice aed ((bG aG eu).f1).length aee)∧w'.cell? ⟨(JV.add ((eu).toNat*3)).block,(JV.add ((eu).toNat*3)).off+2,none⟩=some (.slice aef ((bG aG eu).f2).length aeg)) (ds:=[11]) #[false,false,false,false,false,false,false,false,false,false,false,false] (by kernel_rfl) rfl rfl ⟨(aC lJ.out 0).trans rfl,(aC lJ.out 1).trans rfl,(aC lJ.out 2).trans rfl,(aC jY.out 0).trans rfl,(aC jY.out 1).trans rfl,(aC jY.out 2).trans rfl,((HB.out.cell (World.block_lt_of_cell? w _ zl)).trans zl),((HB.out.cell (World.block_lt_of_cell? w _ zk)).trans zk),((HB.out.cell (World.block_lt_of_cell? w _ zh)).trans zh)⟩ (fun hHeld=>?_);refine t_ dG.azd dG.aqe (fun E5 HW_=>?_)
    generalize wr.drew=w29 at qP qQ nO jY o_ lJ HB aak aal aam PL PN PO hHeld⊢
    refine pl 0 ?_;refine pl 2 ?_;refine pl 4 ?_;refine tk 1 ?_;refine tk 3 ?_;refine pl 5 ?_;refine tk 6 ?_;refine o1 7 (fun K hK=>?_);refine zD Tryz.func110 (by kernel_rfl) rfl #[.agg #[.slice aeb ((bG aG eu).f0).length aec, .slice aed ((bG aG eu).f1).length aee, .slice aef ((bG aG eu).f2).length aeg]] (by rfl) rfl rfl ma ?_
    with_reducible refine(ih k1 (by have:=yH.out;omega) _ _ ((bG aG eu).f0) _ _ ((bG aG eu).f1) _ _ ((bG aG eu).f2) ad9 ad_ aea _ ?fH ?iV ?zF ?D8 ?zG ?aql Yv.out).mono ?_
    (case fH=>repeat(first|exact(Kd.aX aak.out HB.out)|(with_reducible refine Kd.ji ?_ _)|(with_reducible refine Kd.jk ?_ _)|(with_reducible refine Kd.kM ?_)))
    (case iV=>exact ah2.out)
    (case zF=>repeat(first|exact(Kd.aX aal.out HB.out)|(with_reducible refine Kd.ji ?_ _)|(with_reducible refine Kd.jk ?_ _)|(with_reducible refine Kd.kM ?_)))
    (case D8=>exact ah3.out)
    (case zG=>repeat(first|exact(Kd.aX aam.out HB.out)|(with_reducible refine Kd.ji ?_ _)|(with_reducible refine Kd.jk ?_ _)|(with_reducible refine Kd.kM ?_)))
    (case aql=>exact ah4.out);rintro e w30 ⟨aFv,aFw,aFx,rfl,ho0,ho1,ho2,hb⟩;refine⟨_,rfl,?_⟩;have aeh:=ak (Kd.aA (Kd.eX ho0 (Kd.jw (ur qP.out))) (aj bb));have aei:=ak (Kd.aA (Kd.eX ho1 (Kd.jw (ur qQ.out))) (aj bb));have aej:=ak (Kd.aA (Kd.ni (Kd.ni (Kd.ni (Kd.eX (Kd.eX (Kd.eX ho2 (Kd.jw (ur qP.out))) (Kd.jw (ur qQ.out))) (Kd.jw (ur nO.out))) (g:=tJ) (o:= .cells #[.slice jM dV.length jO, .slice jI dI.length jJ, .slice (some JV) aG.length fK] 28 (0,0)) (ub jY.out)) (g:=CY) (o:= .cells #[.slice none 0 0, .slice none 0 0, .slice none 0 0] 28 (0,0)) (ub o_.out)) (g:=ql) (o:= .cells #[.slice FW Jj.length FX, .slice Iu Jk.length FY,zf] 28 (0,0)) (ub lJ.out)) (aj bb));replace qP:=ak (Kd.bW (ur qP.out) (Kd.dw ho0) hb);replace qQ:=ak (Kd.bW (ur qQ.out) (Kd.dw ho1) hb);replace nO:=ak (Kd.aQ (Kd.sS (Kd.sS (Kd.sS (Kd.ad2 (ur nO.out) hb) (Kd.dw ho0)) (Kd.dw ho1)) (Kd.dw ho2)) (fun _ h_=>h_.1));replace jY:=kb jY hb;replace o_:=kb o_ hb;replace lJ:=kb lJ hb;replace HB:=bz HB hb;try clear hb
    try clear ho0
    try clear ho1
    try clear ho2
    obtain⟨aek,ael,acR⟩:=Kd.aI aeh.out
    (first|subst acR|(injection acR with qI xI qJ;have xJ:=qI.symm;have xK:=qJ.symm;clear qI xI qJ;subst xJ;subst xK));obtain⟨UM,UN,Yw⟩:=Kd.aI aei.out
    (first|subst Yw|(injection Yw with qI xI qJ;have xJ:=qI.symm;have xK:=qJ.symm;clear qI xI qJ;subst xJ;subst xK));obtain⟨anf,ang,Yx⟩:=Kd.aI aej.out
    (first|subst Yx|(injection Yx with qI xI qJ;have xJ:=qI.symm;have xK:=qJ.symm;clear qI xI qJ;subst xJ;subst xK));refine hK.out _ _ ⟨(aC lJ.out 0).trans rfl,(aC lJ.out 1).trans rfl,(aC lJ.out 2).trans rfl,(aC jY.out 0).trans rfl,(aC jY.out 1).trans rfl,(aC jY.out 2).trans rfl,((HB.out.cell (World.block_lt_of_cell? w _ zl)).trans zl),((HB.out.cell (World.block_lt_of_cell? w _ zk)).trans zk),((HB.out.cell (World.block_lt_of_cell? w _ zh)).trans zh)⟩ (fun hHeld=>?_);clear hK K;refine nrm ?_;refine o1 8 (fun K hK=>?_);refine DV (w1:=?_) (v:=?_) (by rfl) rfl ?_ ?_
    rotate_left 2
    ·go_simp;constructor
     ·rfl
     ·rfl
    refine hK.out _ _ ⟨(aC (iW lJ.out _) 0).trans rfl,(aC (iW lJ.out _) 1).trans rfl,(aC (iW lJ.out _) 2).trans rfl,(aC (iW jY.out _) 0).trans rfl,(aC (iW jY.out _) 1).trans rfl,(aC (iW jY.out _) 2).trans rfl,(World.cell?_alloc_lt _ _ _ (World.block_lt_of_cell? _ _ (((HB.out.cell (World.block_lt_of_cell? w _ zl)).trans zl)))).trans (((HB.out.cell (World.block_lt_of_cell? w _ zl)).trans zl)),(World.cell?_alloc_lt _ _ _ (World.block_lt_of_cell? _ _ (((HB.out.cell (World.block_lt_of_cell? w _ zk)).trans zk)))).trans (((HB.out.cell (World.block_lt_of_cell? w _ zk)).trans zk)),(World.cell?_alloc_lt _ _ _ (World.block_lt_of_cell? _ _ (((HB.out.cell (World.block_lt_of_cell? w _ zh)).trans zh)))).trans (((HB.out.cell (World.block_lt_of_cell? w _ zh)).trans zh))⟩ (fun hHeld=>?_);clear hK K;refine nrm ?_;refine o1 9 (fun K hK=>?_);refine Kd.nD k28 (w0:=w) w.heap.size (by rfl) (.tmp 22) (.tmp 29) 26 28 (.agg #[(.slice none 0 0),(.slice none 0 0),(.slice none 0 0)]) 72 rfl Tryz.underlying26 UD rfl (by decide) (by omega) zf Bh (⟨ad9,ad_,aea⟩:ng) [.slice aek ad9.length ael, .slice UM ad_.length UN, .slice anf aea.length ang] (fun k_=>some k_≠(.slice FW Jj.length FX:Value).ownBlock∧some k_≠(.slice Iu Jk.length FY:Value).ownBlock∧k_≠tJ∧k_≠CY∧k_≠ql) (fun k_=>((fun k_=>some k_≠(.slice FW Jj.length FX:Value).ownBlock∧some k_≠(.slice Iu Jk.length FY:Value).ownBlock∧k_≠tJ∧k_≠CY∧k_≠ql)) k_∧some k_≠(zf:Value).ownBlock) rfl rfl ?aP (fun _ hk=>hk) ?aF ?aO ?aB ?aS ?aL ?_
    (case aP=>exact PK _ _ _ (⟨ad9,ad_,aea⟩:ng) (Kd.aQ (Kd.lU (Kd.lU (Kd.lU (Kd.nH (Kd.nH (aeh.out) (Kd.kG qQ.out) (by decide)) (Kd.kG nO.out) (by decide)) jY.out (by decide)) o_.out (by decide)) lJ.out (by decide)) (fun k_ hk=>⟨⟨hk.1.1.1.1.1.2,⟨hk.1.1.1.1.2,⟨hk.1.1.2,⟨hk.1.2,hk.2⟩⟩⟩⟩,hk.1.1.1.2⟩)) (Kd.aQ (Kd.lU (Kd.lU (Kd.lU (Kd.nH (Kd.nH (aei.out) (Kd.kG qP.out) (by decide)) (Kd.kG nO.out) (by decide)) jY.out (by decide)) o_.out (by decide)) lJ.out (by decide)) (fun k_ hk=>⟨⟨hk.1.1.1.1.2,⟨hk.1.1.1.1.1.2,⟨hk.1.1.2,⟨hk.1.2,hk.2⟩⟩⟩⟩,hk.1.1.1.2⟩)) (Kd.aQ (aej.out) (fun k_ hk=>⟨⟨hk.1.1.1.1.1.2,⟨hk.1.1.1.1.2,⟨hk.1.1.2,⟨hk.1.2,hk.2⟩⟩⟩⟩,hk.1.1.1.2⟩)))
    (case aB=>exact bb)
    (case aF=>exact(fun k_ hk=>⟨Kd.fresh' (Kd.jw (ur qP.out)) k_ hk,Kd.fresh' (Kd.jw (ur qQ.out)) k_ hk,Kd.yN (g:=tJ) (o:= .cells #[.slice jM dV.length jO, .slice jI dI.length jJ, .slice (some JV) aG.length fK] 28 (0,0)) (ub jY.out) k_ hk,Kd.yN (g:=CY) (o:= .cells #[.slice none 0 0, .slice none 0 0, .slice none 0 0] 28 (0,0)) (ub o_.out) k_ hk,Kd.yN (g:=ql) (o:= .cells #[.slice FW Jj.length FX, .slice Iu Jk.length FY,zf] 28 (0,0)) (ub lJ.out) k_ hk⟩))
    (case aO=>exact(ur (Kd.aQ nO.out (fun _ hk=>⟨hk.1.1.1.1,⟨hk.1.1.1.2.1,⟨hk.1.1.1.2.2.1,⟨hk.1.1.1.2.2.2.1,hk.1.1.1.2.2.2.2⟩⟩⟩⟩))))
    (case aS=>exact(aj bb))
    (case aL=>have:=Qn.out;omega);intro aFy w31 ho hb hg hat
    rw[←ajX.out]at ho;have zB:=ak (Kd.pX (ur qP.out) (Kd.kG (ur nO.out)) (by decide) hg);have zC:=ak (Kd.pX (ur qQ.out) (Kd.kG (ur nO.out)) (by decide) hg);have Au:=ak (b_ (g:=tJ) (o:= .cells #[.slice jM dV.length jO, .slice jI dI.length jJ, .slice (some JV) aG.length fK] 28 (0,0)) (ub jY.out) hg (Kd.Ac nO.out (fun _ hk=>hk.1.1.1.2.2.1)));have D7:=ak (b_ (g:=CY) (o:= .cells #[.slice none 0 0, .slice none 0 0, .slice none 0 0] 28 (0,0)) (ub o_.out) hg (Kd.Ac nO.out (fun _ hk=>hk.1.1.1.2.2.2.1)));have IL:=ak (b_ (g:=ql) (o:= .cells #[.slice FW Jj.length FX, .slice Iu Jk.length FY,zf] 28 (0,0)) (ub lJ.out) hg (Kd.Ac nO.out (fun _ hk=>hk.1.1.1.2.2.2.2)));have JU:=ak (hb);have Om:=ak (ho);clear qP qQ jY o_ lJ HB nO aeh aei aej;have qP:=zB;have qQ:=zC;have jY:=Au;have o_:=D7;have lJ:=IL;have HB:=JU;have aqm:=Om;clear zB zC Au D7 IL JU Om ho hb hg hat
    obtain⟨azf,azg,ah5⟩:=Kd.aI aqm.out
    (first|subst ah5|(injection ah5 with qI xI qJ;have xJ:=qI.symm;have xK:=qJ.symm;clear qI xI qJ;subst xJ;subst xK));refine hK.out _ _ ⟨(aC lJ.out 0).trans rfl,(aC lJ.out 1).trans rfl,(aC lJ.out 2).trans rfl,(aC jY.out 0).trans rfl,(aC jY.out 1).trans rfl,(aC jY.out 2).trans rfl,((HB.out.cell (World.block_lt_of_cell? w _ zl)).trans zl),((HB.out.cell (World.block_lt_of_cell? w _ zk)).trans zk),((HB.out.cell (World.block_lt_of_cell? w _ zh)).trans zh)⟩ (fun hHeld=>?_);clear hK K;refine nrm ?_;refine pl 10 ?_;refine IV (i:=11) (N:=none) #[true,true,true,true,true,true,true,true,true,true,true,true] rfl rfl (BG E5.out (by kernel_rfl)) (by decide) (fun K hK=>?_);have azh:w31.cell? ⟨ql,2,none⟩=some (zf):=(aC lJ.out 2).trans rfl;have aqn:=gy lJ.out 2;have ah6:=mV.out;have ah7:=yP.out;have ah8:=wY.out;have ah9:=yQ.out;refine IQ (w1:=?_) (by rfl) rfl ?_ ?_
    rotate_left
    ·go_simp;rfl
    refine hK.out _ _ ?_;clear hK K;refine IU (y9 E5.out (by kernel_rfl)) ?_;try go_wp2
    go_roundg k1
    case measure=>exact kl
    case rel=>exact⟨_,_,_,rs,H',⟨kl⟩,⟨rr⟩,⟨rr⟩,⟨rr⟩,⟨bq⟩,⟨bq⟩,⟨bq⟩,⟨bb⟩⟩
   ·obtain⟨rfl,rfl,rfl⟩:=s3 H;have aqo:=Tz.out;have aqp:=TA.out;have aqr:=mV.out;have aqs:=wY.out;have z39:=kF jY.out;have aj0:=yQ.out;have aj1:=yP.out;have ah_:=kF lJ.out;have z42:=kF o_.out;obtain⟨azi,azj,azk⟩:=Kd.aI nO.out;subst azk;go_wp2;refine bodyPost_ret (results_cell_row rfl _ _ CY 28 #[.slice FW Jj.length FX, .slice Iu Jk.length FY, .slice azi Bh.length azj] (0,0) _ rfl bq Tryz.underlying28 rfl (by kernel_rfl)) rfl ?_;exact⟨_,_,_,er,rr,rr,rr,bb⟩
set_option maxHeartbeats 8000000
set_option maxRecDepth 100000
def gq.l0:Nat→List ByteArray→List ByteArray→Int→Option (Bool)
 |0,_,_,_=>none
 |k+1,x0,x1,x5=>if x5<(x0.length:Int)then(if 0≤x5 then(if x5<(x1.length:Int)then(if(mW ByteArray.empty x0 x5).toList=(mW ByteArray.empty x1 x5).toList then(gq.l0 k x0 x1 (wrap64 (x5+1)))else(some false))else(none))else(none))else(some true)
def gq.f (k:Nat) (l0:List ByteArray) (l1:List ByteArray):Option (Bool):=if(l0.length:Int)=(l1.length:Int)then(gq.l0 k l0 l1 0)else(some false)
theorem gq.calls {k c0 c1:Nat} {A0 A1:Option Addr} {l0 l1:List ByteArray} {r:Bool} {w:World} (hr0:Kd.C Kd.string w A0 l0.length l0) (hc0:l0.length≤c0) (hr1:Kd.C Kd.string w A1 l1.length l1) (hc1:l1.length≤c1) (h:gq.f k l0 l1=some r):
  Calls Tryz.prog 22 #[.slice A0 l0.length c0, .slice A1 l1.length c1] w fun e w'=>e= .returned (.bool r)∧dM w w':=by
 have HR0:=ak hr0;have yF:=ak hc0;clear hr0 hc0;have HR1:=ak hr1;have HC1:=ak hc1;clear hr1 hc1;unfold gq.f at h;have H:=h;clear h;replace H:=sp H;rcases H with⟨c3,H⟩|⟨c3,H⟩
 ·have iH:=beq_iff_eq.mpr c3;have zH:=bne_eq_false_iff_eq.mpr c3;have acS:(l0.length==l1.length)=true:=by first|simpa using c3|(simp at c3⊢;omega)
  clear c3;have H':=ak H;clear H;go_enter Tryz.func22,Tryz.ntmps22;go_wp2;repeat(go_quiet (fail);try go_wp2)
  go_loopg [5] k (fun kq v5 w'=>∃(dK:Int),v5= .int .i64 dK∧ah (gq.l0 kq l0 l1 dK=some r)∧ah (kq≤k)∧dM w w')
  case atStart=>exact⟨_,rs,H',⟨Nat.le_refl _⟩,dn⟩
  case round=>
   clear H';try clear c3
   try clear iH
   try clear zH
   try clear acS
   obtain⟨dK,rfl,HA,yH,⟨m1,rfl⟩⟩:=hrel
   cases gk with
   |zero=>exact zz HA.out
   |succ k1=>
    obtain⟨H⟩:=HA;simp only[gq.l0]at H;replace H:=sd H;rcases H with⟨qW,H⟩|⟨qW,H⟩
    ·replace H:=nS H;obtain⟨mQ,H⟩:=H;replace H:=nS H;obtain⟨nG,H⟩:=H;replace H:=sq H;rcases H with⟨qO,Jl,H⟩|⟨c7,qO,Jl,H⟩
     ·have H':=ak H;clear H;have Yy:=zi dK;have Yz:=zj dK l0.length;obtain⟨aqt,anh,aia⟩:=Kd.iJ HR0.out dK Yy Yz;cases anh;replace Yy:=eq_true Yy;replace Yz:=eq_true Yz;have YA:=zi dK;have YB:=zj dK l1.length;obtain⟨aqu,ani,aib⟩:=Kd.iJ HR1.out dK YA YB;cases ani;replace YA:=eq_true YA;replace YB:=eq_true YB;go_wp2;repeat(go_quiet (fail);try go_wp2)
      go_roundg k1
      case measure=>exact kl
      case rel=>exact⟨_,rs,H',⟨kl⟩,dn⟩
     ·obtain rfl:=s1 H;have Yy:=zi dK;have Yz:=zj dK l0.length;obtain⟨aqt,anh,aia⟩:=Kd.iJ HR0.out dK Yy Yz;cases anh;replace Yy:=eq_true Yy;replace Yz:=eq_true Yz;have YA:=zi dK;have YB:=zj dK l1.length;obtain⟨aqu,ani,aib⟩:=Kd.iJ HR1.out dK YA YB;cases ani;replace YA:=eq_true YA;replace YB:=eq_true YB;go_wp2;repeat(go_quiet (fail);try go_wp2)
      go_ret;exact⟨rs,dn⟩
    ·obtain rfl:=s1 H;go_wp2;repeat(go_quiet (fail);try go_wp2)
     go_ret;exact⟨rs,dn⟩
 ·have iH:=beq_eq_false_iff_ne.mpr c3;have zH:=bne_iff_ne.mpr c3;have acS:(l0.length==l1.length)=false:=by first|simpa using c3|(simp at c3⊢;omega)
  obtain rfl:=s1 H;go_enter Tryz.func22,Tryz.ntmps22;go_wp2;repeat(go_quiet (fail);try go_wp2)
  go_ret;exact⟨rs,dn⟩
/-- A state of type 109 at block g of W; what its slices lead to came in by w0. -/
def aK (w0 W:World) (g:Nat) (f0:List Int) (f1:Int):Prop:=∃A0 c0,W.heap[g]? =some (.cells #[.slice A0 f0.length c0, .int .i64 f1] 109 (0,0))∧w0.heap.size≤g∧Kd.C (Kd.int .u8) w0 A0 f0.length f0
theorem aK.grown {w0 W:World} {g:Nat} {f0:List Int} {f1:Int} {W1:World} {row:Option Nat} (h:aK w0 W g f0 f1) (hw:W.grownBy W1 row) (hne:some g≠row):aK w0 W1 g f0 f1:=by
 obtain⟨A0,c0,hb,hg,hr0⟩:=h;exact⟨A0,c0,b_ hb hw hne,hg,hr0⟩
theorem aK.fresh {w0 W:World} {g:Nat} {f0:List Int} {f1:Int} (h:aK w0 W g f0 f1):∀k,W.heap.size≤k→k≠g:=by
 obtain⟨A0,c0,hb,hg,hr0⟩:=h;exact Kd.yN hb
theorem aK.kept {w0 W:World} {g:Nat} {f0:List Int} {f1:Int} {W1:World} {S:Nat→Prop} (h:aK w0 W g f0 f1) (hk:Kept W W1 S) (hne:¬S g):aK w0 W1 g f0 f1:=by
 obtain⟨A0,c0,hb,hg,hr0⟩:=h;exact⟨A0,c0,aem hb hk hne,hg,hr0⟩
theorem aK.below {w0 W:World} {g:Nat} {f0:List Int} {f1:Int} {W1:World} (h:aK w0 W g f0 f1) (hw:Below W.heap.size W W1):aK w0 W1 g f0 f1:=h.grown (F5 hw none) (by simp)
theorem aK.alloc {w0 W:World} {g:Nat} {f0:List Int} {f1:Int} (h:aK w0 W g f0 f1) (o:Obj):aK w0 (W.alloc o) g f0 f1:=h.below (nT (Below.refl _ _) o)
theorem aK.drewN {w0 W:World} {g:Nat} {f0:List Int} {f1:Int} (h:aK w0 W g f0 f1) (m:Nat):aK w0 (W.drewN m) g f0 f1:=h
theorem aK.drew {w0 W:World} {g:Nat} {f0:List Int} {f1:Int} (h:aK w0 W g f0 f1):aK w0 W.drew g f0 f1:=h
theorem aK.at_ {w0 W:World} {g:Nat} {f0:List Int} {f1:Int} {w':World} {m:Nat} (hq:W.drewN m=w') (h:aK w0 W g f0 f1):aK w0 w' g f0 f1:=by subst hq;exact aK.drewN h m
theorem aK.apart {w0 W:World} {g:Nat} {f0:List Int} {f1:Int} {α:Type} {d:Kd α} {e:Nat} {base:Nat} {ok:Nat→Prop} {v:Value} {xs:List α} (h:aK w0 W g f0 f1) (ho:d.R e W base ok v xs) (ht:∀q,q∈e:: d.E→q≠109):d.R e W base (fun k=>ok k∧k≠g) v xs:=by
 obtain⟨A0,c0,hb,hg,hr0⟩:=h;exact Kd.lU ho hb ht
theorem aK.own_ne {w0 W:World} {g:Nat} {f0:List Int} {f1:Int} {α:Type} {d:Kd α} {e:Nat} {base:Nat} {ok:Nat→Prop} {v:Value} {xs:List α} (h:aK w0 W g f0 f1) (ho:d.R e W base ok v xs) (ht:e≠109):some g≠v.ownBlock:=by
 obtain⟨A0,c0,hb,hg,hr0⟩:=h;exact Kd.oH ho hb ht
theorem aK.lt {w0 W:World} {g:Nat} {f0:List Int} {f1:Int} (h:aK w0 W g f0 f1):g<W.heap.size:=by
 obtain⟨A0,c0,hb,hg,hr0⟩:=h;exact xU hb
theorem aK.ge {w0 W:World} {g:Nat} {f0:List Int} {f1:Int} (h:aK w0 W g f0 f1):w0.heap.size≤g:=by
 obtain⟨A0,c0,hb,hg,hr0⟩:=h;exact hg
theorem aK.aen {w0 W:World} {g:Nat} {f0:List Int} {f1:Int} {a:Nat} {cs:Array Value} {t:TypeId} {fr:Nat×Nat} (h:aK w0 W g f0 f1) (hb2:W.heap[a]? =some (.cells cs t fr)) (ht:t≠109):g≠a:=by
 obtain⟨A0,c0,hb,hg,hr0⟩:=h;rintro rfl;rw[hb]at hb2;injection hb2 with hb2;injection hb2 with _ ht2;exact ht ht2.symm
theorem aK.far {w0 W:World} {g:Nat} {f0:List Int} {f1:Int} {p:Addr} (h:aK w0 W g f0 f1) (hne:g≠p.block) (u:Value):aK w0 (W.setCell p u) g f0 f1:=by
 obtain⟨A0,c0,hb,hg,hr0⟩:=h;exact⟨A0,c0,PS hb hne u,hg,hr0⟩
theorem Ew {W:World} {g:Nat} {A0:Option Addr} {c0:Nat} {f0:List Int} {f1:Int} (h:W.heap[g]? =some (.cells #[.slice A0 f0.length c0, .int .i64 f1] 109 (0,0))):W.cell? ⟨g,0,none⟩=some (.slice A0 f0.length c0):=(aC h 0).trans rfl
theorem Ey {W:World} {g:Nat} {A0:Option Addr} {c0:Nat} {f0:List Int} {f1:Int} (h:W.heap[g]? =some (.cells #[.slice A0 f0.length c0, .int .i64 f1] 109 (0,0))):W.cell? ⟨g,1,none⟩=some (.int .i64 f1):=(aC h 1).trans rfl
theorem aK.aqv {w0 W:World} {g:Nat} {f0:List Int} {f1:Int} (h:aK w0 W g f0 f1) (x:Int):aK w0 (W.setCell ⟨g,1,none⟩ (.int .i64 x)) g f0 x:=by
 obtain⟨A0,c0,hb,hg,hr0⟩:=h;exact⟨A0,c0,by simpa using PU hb 1 (.int .i64 x),hg,hr0⟩
theorem aK.new (w0 W:World) (A0:Option Addr) (c0:Nat) (f0:List Int) (f1:Int) (hB:Below w0.heap.size w0 W) (hr0:Kd.C (Kd.int .u8) w0 A0 f0.length f0):aK w0 (W.alloc (.cells #[.slice A0 f0.length c0, .int .i64 f1] 109)) W.heap.size f0 f1:=⟨A0,c0,by simpa using heap_alloc_new W _,hB.size,hr0⟩
/-! words on the state -/
theorem oC {p:Prop} (h:p:=by repeat(first|(with_reducible first|exact ah.out (by assumption)|apply aK.alloc|apply aK.drewN|apply aK.drew|apply aK.aqv|refine aK.far ?_ (ah.out (by assumption)) _)|exact ah.out (by assumption))):p:=h
theorem oG {p:Prop} (h:p:=by repeat(first|(with_reducible first|exact ah.out (by assumption)|apply nT|apply qC|apply iI|refine yR ?_ (aK.ge (ah.out (by assumption)))|refine yR ?_ (ah.out (by assumption)))|exact ah.out (by assumption))):p:=h
theorem bS {P:Program} {ops:Array Oper} {o:Oper} {rest:List Oper} {a:Act} {Q:Exit→Act→World→Prop} {w0 w W c1 c2 c3:World} {g:Nat} {f0:List Int} {f1 f2:Int} (_HI:ah (aK w0 c1 g f0 f1)) (_HK:ah (aH w c2 g none)) (_HB:ah (Below w0.heap.size w0 c3)) (HW:ah (w0.heap.size≤w.heap.size)) (N:Nat) (cs:Array Value) (t:TypeId)
  (h:∀b w1,ah (w1.heap[b]? =some (.cells cs t (0,0)))→ah (w.heap.size≤b)→ah (w0.heap.size≤b)→ah (g≠b)→ah (b≠g)→b=W.heap.size→Below W.heap.size W w1→ah (aK w0 w1 g f0 f2)→ah (aH w w1 g none)→ah (Below w0.heap.size w0 w1)→wpList P ops Q rest (a.put o.dst (.pointer (some ⟨b,0,none⟩))) w1)
  (hd:o.dst=some N:=by with_reducible rfl) (hg:o.guard=none:=by with_reducible rfl) (hr:(execOp a.eval o).run P W= .ok (.value (.pointer (some ⟨W.heap.size,0,none⟩))) (W.alloc (.cells cs t (0,0))):=by first|(go_simp;done)|(go_simp;rfl)) (hI:aK w0 W g f0 f2:=by exact oC) (hK:aH w W g none:=by exact kk) (hB:Below w0.heap.size w0 W:=by exact oG):wpList P ops Q (o:: rest) a W:=
 bE N cs t (fun b hb w1 h1 hw=>h b w1 ⟨h1⟩ ⟨by rw[hb];exact dD hK⟩ ⟨Nat.le_trans HW.out (by rw[hb];exact dD hK)⟩ ⟨by rw[hb];exact Nat.ne_of_lt hI.lt⟩ ⟨by rw[hb];exact Nat.ne_of_gt hI.lt⟩ hb hw ⟨hI.below hw⟩ ⟨hK.trans (aH.of_below hw g none) (.inl rfl)⟩ ⟨gZ hB hw⟩) hd hg hr
theorem ki {α:Type} {d:Kd α} {e base:Nat} {ok:Nat→Prop} {v:Value} {xs:List α} {w0 a b c:World} {g:Nat} {f0:List Int} {f1:Int} (_old:ah (Kd.R d e a base ok v xs)) (hk:aH b c g none) (hI:aK w0 b g f0 f1:=by exact oC) (h:Kd.R d e b base ok v xs:=by exact rr) (ht:∀q,q∈e:: d.E→q≠109:=by decide):ah (Kd.R d e c base ok v xs):=⟨Kd.aQ (Kd.Jm (hI.apart h ht) hk (fun _ h=>h.2)) (fun _ h=>h.1)⟩
theorem kj {α β:Type} {d:Kd α} {e base:Nat} {ok:Nat→Prop} {v:Value} {xs:List α} {w0 a b c:World} {g:Nat} {f0:List Int} {f1:Int} {d':Kd β} {e':Nat} {ok':Nat→Prop} {v':Value} {ys:List β} (_old:ah (Kd.R d e a base ok v xs)) (hk:aH b c g none) (ho:Kd.R d' e' c b.heap.size ok' v' ys) (hI:aK w0 b g f0 f1:=by exact oC) (h:Kd.R d e b base ok v xs:=by exact rr) (ht:∀q,q∈e:: d.E→q≠109:=by decide):ah (Kd.R d e c base (fun k=>ok k∧some k≠v'.ownBlock) v xs):=⟨Kd.aQ (Kd.sS (Kd.UO (hI.apart h ht) hk) (Kd.dw ho)) (fun _ h=>h.1)⟩
def sV.f (l0:List Int):Option (List Int×Int):=if(l0.length:Int)>2000 then(if 2000≤(l0.length:Int)then(some (l0.take 2000,0))else(none))else(some (l0,0))
theorem sV.calls {A0:Option Addr} {c0:Nat} {l0 r1:List Int} {r2:Int} {w:World} (w0:World) (hB:Below w0.heap.size w0 w) (hr0:Kd.C (Kd.int .u8) w0 A0 l0.length l0) (hc0:l0.length≤c0) (h:sV.f l0=some (r1,r2)):
  Calls Tryz.prog 55 #[.slice A0 l0.length c0] w fun e w'=>∃g_:Nat,e= .returned (.pointer (some ⟨g_,0,none⟩))∧aK w0 w' g_ r1 r2∧Below w0.heap.size w0 w'∧Below w.heap.size w w':=by
 have aCC:=Tryz.underlying109;have HR0:=ak hr0;have yF:=ak hc0;clear hr0 hc0;have HBW:=ak (Below.refl w.heap.size w);have HW0:=ak hB.size;have HB:=ak hB;clear hB;unfold sV.f at h;have H:=h;clear h;replace H:=sp H;rcases H with⟨c2,H⟩|⟨c2,H⟩
 ·have nY:decide (2000<(l0.length:Int))=true:=decide_eq_true c2;have uJ:decide (2000<l0.length)=true:=decide_eq_true (by omega);clear c2;replace H:=AY H;obtain⟨iH,zH,H⟩:=H;obtain⟨rfl,rfl⟩:=s2 H;obtain⟨i04,aqw,_,aqx,_⟩:=info_parts info5;obtain⟨aCD,hA4,hC4⟩:=SN (P:=Tryz.prog) (Value.int .u8) 0 22 5 .i64 Tryz.underlying22 aqw aqx A0 c0 l0 2000 (by omega) (of_decide_eq_true (by assumption)) yF.out;have aqy:=ak (Kd.Jo (h1:=fun _=>rfl) (hA4 _ (Kd.Ez HR0.out)));have aCE:=ak hC4;clear hA4 hC4 aqw aqx;go_enter Tryz.func55,Tryz.ntmps55;go_wp2_with (refine bE 10 #[.slice A0 (l0.take 2000).length c0, .int .i64 0] 109 ?_;intro aeo hg w5 hbox hb;have aqz:=ak (hbox);have aCF:=ge_ HBW hg;have aqA:=ak ((Nat.le_trans HW0.out (by rw[hg];exact(aj (ul HBW.out)):w.heap.size≤aeo):w0.heap.size≤aeo));replace HBW:=ak (gZ HBW.out hb);replace HB:=bs HB hb;clear hb hbox hg)
  go_ret;exact⟨_,rfl,(show aK w0 _ aeo (l0.take 2000) 0 from⟨_,_,ub aqz.out,aqA.out,aqy.out⟩),oG,bh HBW.out⟩
 ·have nY:decide (2000<(l0.length:Int))=false:=decide_eq_false c2;have uJ:decide (2000<l0.length)=false:=decide_eq_false (by omega);clear c2;obtain⟨rfl,rfl⟩:=s2 H;go_enter Tryz.func55,Tryz.ntmps55;go_wp2_with (refine bE 10 #[.slice A0 l0.length c0, .int .i64 0] 109 ?_;intro yK hg w6 hbox hb;have IK:=ak (hbox);have aqb:=ge_ HBW hg;have aqB:=ak ((Nat.le_trans HW0.out (by rw[hg];exact(aj (ul HBW.out)):w.heap.size≤yK):w0.heap.size≤yK));replace HBW:=ak (gZ HBW.out hb);replace HB:=bs HB hb;clear hb hbox hg)
  go_ret;exact⟨_,rfl,(show aK w0 _ yK l0 0 from⟨_,_,ub IK.out,aqB.out,HR0.out⟩),oG,bh HBW.out⟩
def bV.j0:Nat→Int→Bool→List Int→Int→Option (Int×Int)
 |0,_,_,_,_=>none
 |k+1,x1,x24,x1000,oq=>if x24=true then(some (0,oq))else(if(wrap64 (oq-1))<(x1000.length:Int)then(if 0≤(wrap64 (oq-1))then(if x1=0 then(none)else(some (Int.tmod (wrap64 (rd x1000 (wrap64 (oq-1)))) x1,oq)))else(none))else(if(x1000.length:Int)=0 then(none)else(if 0≤(Int.tmod (wrap64 (oq-1)) (x1000.length:Int))then(if(Int.tmod (wrap64 (oq-1)) (x1000.length:Int))<(x1000.length:Int)then(if 0≤(Int.tmod (wrap64 ((wrap64 ((wrap64 (oq-1))*7))+3)) (x1000.length:Int))then(if(Int.tmod (wrap64 ((wrap64 ((wrap64 (oq-1))*7))+3)) (x1000.length:Int))<(x1000.length:Int)then(if x1=0 then(none)else(some (Int.tmod (Go.bits .xor .i64 (wrap64 ((wrap64 ((wrap64 ((wrap64 ((wrap64 (rd x1000 (Int.tmod (wrap64 (oq-1)) (x1000.length:Int))))*131))+(wrap64 ((wrap64 (rd x1000 (Int.tmod (wrap64 ((wrap64 ((wrap64 (oq-1))*7))+3)) (x1000.length:Int))))*1117))))+(wrap64 ((wrap64 (oq-1))*29))))+(wrap64 ((wrap64 (Int.tdiv (wrap64 (oq-1)) (x1000.length:Int)))*53)))) (wrap64 (Int.tdiv (wrap64 ((wrap64 ((wrap64 ((wrap64 ((wrap64 (rd x1000 (Int.tmod (wrap64 (oq-1)) (x1000.length:Int))))*131))+(wrap64 ((wrap64 (rd x1000 (Int.tmod (wrap64 ((wrap64 ((wrap64 (oq-1))*7))+3)) (x1000.length:Int))))*1117))))+(wrap64 ((wrap64 (oq-1))*29))))+(wrap64 ((wrap64 (Int.tdiv (wrap64 (oq-1)) (x1000.length:Int)))*53)))) 64))) x1,oq)))else(none))else(none))else(none))else(none))))
def bV.f (k:Nat) (eP:List Int) (jX:Int) (a1:Int):Option (Int×Int):=if a1<1 then(bV.j0 k a1 true eP (wrap64 (jX+1)))else(bV.j0 k a1 ((eP.length:Int)==0) eP (wrap64 (jX+1)))
theorem bV.calls {k g:Nat} {eP:List Int} {jX a1 r1 r2:Int} {w:World} (w0:World) (hI:aK w0 w g eP jX) (hB:Below w0.heap.size w0 w) (h:bV.f k eP jX a1=some (r1,r2)):
  Calls Tryz.prog 57 #[.pointer (some ⟨g,0,none⟩), .int .i64 a1] w fun e w'=>e= .returned (.int .i64 r1)∧aK w0 w' g eP r2∧Below w0.heap.size w0 w'∧aH w w' g none:=by
 have HI0:=ak hI;have HK:=ak (aH.refl w g none);have HL:=ak hB.size;clear hI;have HW0:=ak hB.size;have HB:=ak hB;clear hB;unfold bV.f at h;have H:=h;clear h;have Qo:=ak H;clear H;obtain⟨azl,azm,aic,azn,azo⟩:=HI0.out;have aep:=Ew aic;have anj:=Ey aic;have ank:=gy aic 1;clear aic azn;go_enter Tryz.func57,Tryz.ntmps57;go_upto_region 2 with(fail)
 repeat(go_quiet (fail);go_upto_region 2 with(fail))
 go_cut [24] (fun v24 wc=>∃(kq:Nat) (lK:Bool),v24= .bool lK∧ah (bV.j0 kq a1 lK eP (wrap64 (jX+1))=some (r1,r2))∧ah (kq≤k)∧ah (aK w0 wc g eP (wrap64 (jX+1)))∧ah (aH w wc g none)∧ah (Below w0.heap.size w0 wc))
 case first=>
  have H:=Qo.out;clear Qo;replace H:=sd H;rcases H with⟨mQ,H⟩|⟨mQ,H⟩
  ·(first|rw[mQ]|(simp only[iP,jZ];rw[mQ])|skip);have H':=ak H;clear H;go_wp2;repeat(go_quiet (fail);try go_wp2)
   go_meet
   case rel=>exact⟨_,_,rs,H',⟨Jp⟩,⟨oC⟩,⟨kh HK.out⟩,⟨oG⟩⟩
  ·(first|rw[mQ]|(simp only[iP,jZ];rw[mQ])|skip);have H':=ak H;clear H;obtain⟨azp,azq,aie,azr,azs⟩:=HI0.out;have azt:=Ew aie;have azu:=Ey aie;have azv:=gy aie 1;clear aie azr;go_wp2;repeat(go_quiet (fail);try go_wp2)
   go_meet
   case rel=>exact⟨_,_,rs,H',⟨Jp⟩,⟨oC⟩,⟨kh HK.out⟩,⟨oG⟩⟩
 case rest=>
  clear Qo;try clear aep
  try clear anj
  try clear ank
  obtain⟨kq,lK,rfl,HA,HJ2,HI0,HK,HB⟩:=hcut
  cases kq with
  |zero=>exact zz HA.out
  |succ kj2=>
   obtain⟨H⟩:=HA;simp only[bV.j0]at H;replace H:=sb H;rcases H with⟨rfl,H⟩|⟨rfl,H⟩
   ·obtain⟨rfl,rfl⟩:=s2 H;go_wp2;repeat(go_quiet (fail);try go_wp2)
    go_ret;exact⟨er,oC,oG,kh HK.out⟩
   ·replace H:=sp H;rcases H with⟨c8,H⟩|⟨c8,H⟩
    ·have tK:=decide_eq_true c8
     (try(have FH:decide (((wrap64 (jX+1))-1)<(eP.length:Int))=true:=decide_eq_true (by have h_:=c8;unfold wrap64 at h_;omega)));clear c8;obtain⟨Qp,Jq⟩:∃j_:Int,(wrap64 ((wrap64 (jX+1))-1))=j_:=⟨_,rfl⟩
     replace H:(if 0≤(Qp)then(if a1=0 then(none)else(some (Int.tmod (wrap64 (rd eP (Qp))) a1,(wrap64 (jX+1)))))else(none))=some (r1,r2):=by first|(rw[Jq]at H;exact H)|(simp only[Jq]at H⊢;exact H)
     (try rw[Jq]at tK);have aj2:(IntKind.i64.wrap ((wrap64 (jX+1))-1))=Qp:=(iP _).trans Jq;replace H:=nS H;obtain⟨nI,H⟩:=H;replace H:=sp H;rcases H with⟨c11,H⟩|⟨c11,H⟩
     ·exact absurd H (by simp)
     ·have sJ:=beq_eq_false_iff_ne.mpr c11;have CZ:=bne_iff_ne.mpr c11;obtain⟨rfl,rfl⟩:=s2 H;obtain⟨ayn,ayo,aan,aqC,aif⟩:=HI0.out;have aii:=Ew aan;have ayp:=Ey aan;have ayq:=gy aan 1;clear aan aqC;have anl:=zi (Qp);have anm:=zj (Qp) eP.length;obtain⟨aCG,azw,aao⟩:=Kd.UQ aif (Qp) anl anm;cases azw;replace aao:=rH HB.out aao;replace anl:=eq_true anl;replace anm:=eq_true anm;go_wp2;repeat(go_quiet (fail);try go_wp2)
      go_ret;exact⟨by first|rfl|(simp[wW,wX]<;>rfl)|(simp only[←Jq];first|rfl|(simp[wW,wX]<;>rfl))|(simp[*,wW,wX]<;>rfl),oC,oG,kh HK.out⟩
    ·have tK:=decide_eq_false c8
     (try(have FH:decide (((wrap64 (jX+1))-1)<(eP.length:Int))=false:=decide_eq_false (by have h_:=c8;unfold wrap64 at h_;omega)));clear c8;replace H:=sp H;rcases H with⟨c13,H⟩|⟨c13,H⟩
     ·exact absurd H (by simp)
     ·have vW:=beq_eq_false_iff_ne.mpr c13;have Az:=bne_iff_ne.mpr c13;have aj3:¬(eP=[]):=fun h_=>c13 (by rw[h_];rfl)
      obtain⟨JW,JX⟩:∃j_:Int,(Int.tmod (wrap64 ((wrap64 (jX+1))-1)) (eP.length:Int))=j_:=⟨_,rfl⟩
      replace H:(if 0≤(JW)then(if(JW)<(eP.length:Int)then(if 0≤(Int.tmod (wrap64 ((wrap64 ((wrap64 ((wrap64 (jX+1))-1))*7))+3)) (eP.length:Int))then(if(Int.tmod (wrap64 ((wrap64 ((wrap64 ((wrap64 (jX+1))-1))*7))+3)) (eP.length:Int))<(eP.length:Int)then(if a1=0 then(none)else(some (Int.tmod (Go.bits .xor .i64 (wrap64 ((wrap64 ((wrap64 ((wrap64 ((wrap64 (rd eP (JW)))*131))+(wrap64 ((wrap64 (rd eP (Int.tmod (wrap64 ((wrap64 ((wrap64 ((wrap64 (jX+1))-1))*7))+3)) (eP.length:Int))))*1117))))+(wrap64 ((wrap64 ((wrap64 (jX+1))-1))*29))))+(wrap64 ((wrap64 (Int.tdiv (wrap64 ((wrap64 (jX+1))-1)) (eP.length:Int)))*53)))) (wrap64 (Int.tdiv (wrap64 ((wrap64 ((wrap64 ((wrap64 ((wrap64 (rd eP (JW)))*131))+(wrap64 ((wrap64 (rd eP (Int.tmod (wrap64 ((wrap64 ((wrap64 ((wrap64 (jX+1))-1))*7))+3)) (eP.length:Int))))*1117))))+(wrap64 ((wrap64 ((wrap64 (jX+1))-1))*29))))+(wrap64 ((wrap64 (Int.tdiv (wrap64 ((wrap64 (jX+1))-1)) (eP.length:Int)))*53)))) 64))) a1,(wrap64 (jX+1)))))else(none))else(none))else(none))else(none))=some (r1,r2):=by first|(rw[JX]at H;exact H)|(simp only[JX]at H⊢;exact H)
      replace H:=nS H;obtain⟨vX,H⟩:=H;replace H:=nS H;obtain⟨AA,H⟩:=H;obtain⟨YC,aer⟩:∃j_:Int,(Int.tmod (wrap64 ((wrap64 ((wrap64 ((wrap64 (jX+1))-1))*7))+3)) (eP.length:Int))=j_:=⟨_,rfl⟩
      replace H:(if 0≤(YC)then(if(YC)<(eP.length:Int)then(if a1=0 then(none)else(some (Int.tmod (Go.bits .xor .i64 (wrap64 ((wrap64 ((wrap64 ((wrap64 ((wrap64 (rd eP (JW)))*131))+(wrap64 ((wrap64 (rd eP (YC)))*1117))))+(wrap64 ((wrap64 ((wrap64 (jX+1))-1))*29))))+(wrap64 ((wrap64 (Int.tdiv (wrap64 ((wrap64 (jX+1))-1)) (eP.length:Int)))*53)))) (wrap64 (Int.tdiv (wrap64 ((wrap64 ((wrap64 ((wrap64 ((wrap64 (rd eP (JW)))*131))+(wrap64 ((wrap64 (rd eP (YC)))*1117))))+(wrap64 ((wrap64 ((wrap64 (jX+1))-1))*29))))+(wrap64 ((wrap64 (Int.tdiv (wrap64 ((wrap64 (jX+1))-1)) (eP.length:Int)))*53)))) 64))) a1,(wrap64 (jX+1)))))else(none))else(none))=some (r1,r2):=by first|(rw[aer]at H;exact H)|(simp only[aer]at H⊢;exact H)
      replace H:=nS H;obtain⟨vY,H⟩:=H;replace H:=nS H;obtain⟨AB,H⟩:=H;replace H:=sp H;rcases H with⟨c20,H⟩|⟨c20,H⟩
      ·exact absurd H (by simp)
      ·have Oo:=beq_eq_false_iff_ne.mpr c20;have Qq:=bne_iff_ne.mpr c20;obtain⟨rfl,rfl⟩:=s2 H;obtain⟨ayr,ays,aap,aqD,aaq⟩:=HI0.out;have ayt:=Ew aap;have ayu:=Ey aap;have ayv:=gy aap 1;clear aap aqD;have ano:=zi (JW);have anp:=zj (JW) eP.length;obtain⟨aqE,azx,aar⟩:=Kd.UQ aaq (JW) ano anp;cases azx;replace aar:=rH HB.out aar;replace ano:=eq_true ano;replace anp:=eq_true anp;have anq:=zi (YC);have anr:=zj (YC) eP.length;obtain⟨aqF,e108,aas⟩:=Kd.UQ aaq (YC) anq anr;obtain rfl:aqE=aqF:=(by injection e108)
       replace aas:=rH HB.out aas;replace anq:=eq_true anq;replace anr:=eq_true anr;go_wp2;repeat(go_quiet (fail);try go_wp2)
       go_ret;exact⟨by first|rfl|(simp[wW,wX]<;>rfl)|(simp only[←JX,←aer];first|rfl|(simp[wW,wX]<;>rfl))|(simp[*,wW,wX]<;>rfl),oC,oG,kh HK.out⟩
def fB.f (k:Nat) (eP:List Int) (jX:Int) (l1:List ByteArray):Option (ByteArray×Int):=(bV.f k eP jX (l1.length:Int)).bind fun aat=>(if 0≤aat.1 then(if aat.1<(l1.length:Int)then(some (mW ByteArray.empty l1 aat.1,aat.2))else(none))else(none))
theorem fB.calls {k g c1:Nat} {eP:List Int} {jX r2:Int} {A1:Option Addr} {l1:List ByteArray} {r1:ByteArray} {w:World} (w0:World) (hI:aK w0 w g eP jX) (hB:Below w0.heap.size w0 w) (hr1:Kd.C Kd.string w A1 l1.length l1) (hc1:l1.length≤c1) (hf1:∀ad,A1=some ad→0<l1.length→ad.block≠g) (h:fB.f k eP jX l1=some (r1,r2)):
  Calls Tryz.prog 58 #[.pointer (some ⟨g,0,none⟩), .slice A1 l1.length c1] w fun e w'=>e= .returned (.string r1)∧aK w0 w' g eP r2∧Below w0.heap.size w0 w'∧aH w w' g none:=by
 have HR1:=ak hr1;have HC1:=ak hc1;clear hr1 hc1;have HI0:=ak hI;have HK:=ak (aH.refl w g none);have HL:=ak hB.size;clear hI;have HW0:=ak hB.size;have HB:=ak hB;clear hB;unfold fB.f at h;have H:=h;clear h;replace H:=bd H;obtain⟨⟨t109,aFz⟩,A3,H⟩:=H
 (try dsimp only at H);replace H:=nS H;obtain⟨qW,H⟩:=H;replace H:=nS H;obtain⟨mQ,H⟩:=H;obtain⟨rfl,rfl⟩:=s2 H;go_enter Tryz.func58,Tryz.ntmps58;go_wp2_with (refine gL 57 9 Tryz.func57 #[.pointer (some ⟨g,0,none⟩), .int .i64 (l1.length:Int)] ?_;(with_reducible refine(bV.calls w0 ?fH ?iV A3.out).mono ?_);(case fH=>exact oC);(case iV=>exact oG);rintro e w6 ⟨rfl,hi,hb,hk⟩;refine⟨_,rfl,?_⟩;replace HK:=kt HK hk;replace HB:=ak (hb);replace HI0:=ak (hi);clear hb;(try clear hk);(try clear hi);have ant:0≤(t109:Int):=of_decide_eq_true (by assumption);have anu:t109<(l1.length:Int):=of_decide_eq_true (by assumption);obtain⟨aqG,azy,aau⟩:=Kd.iJ HR1.out t109 ant anu;cases azy;replace aau:=Hz HK.out aau (by first|(rw[add_block];exact hf1 _ rfl (by omega))|exact hf1 _ rfl (by omega)|exact hf1 aqG rfl (by omega));replace ant:=eq_true ant;replace anu:=eq_true anu)
 go_ret;exact⟨er,oC,oG,kh HK.out⟩
def jV.f (k:Nat) (eP:List Int) (jX:Int) (l1:List Int):Option (Int×Int):=(bV.f k eP jX (l1.length:Int)).bind fun aav=>(if 0≤aav.1 then(if aav.1<(l1.length:Int)then(some (rd l1 aav.1,aav.2))else(none))else(none))
theorem jV.calls {k g c1:Nat} {eP l1:List Int} {jX r1 r2:Int} {A1:Option Addr} {w:World} (w0:World) (hI:aK w0 w g eP jX) (hB:Below w0.heap.size w0 w) (hr1:Kd.C (Kd.int .i64) w A1 l1.length l1) (hc1:l1.length≤c1) (hf1:∀ad,A1=some ad→0<l1.length→ad.block≠g) (h:jV.f k eP jX l1=some (r1,r2)):
  Calls Tryz.prog 97 #[.pointer (some ⟨g,0,none⟩), .slice A1 l1.length c1] w fun e w'=>e= .returned (.int .i64 r1)∧aK w0 w' g eP r2∧Below w0.heap.size w0 w'∧aH w w' g none:=by
 have HR1:=ak hr1;have HC1:=ak hc1;clear hr1 hc1;have HI0:=ak hI;have HK:=ak (aH.refl w g none);have HL:=ak hB.size;clear hI;have HW0:=ak hB.size;have HB:=ak hB;clear hB;unfold jV.f at h;have H:=h;clear h;replace H:=bd H;obtain⟨⟨UG,aFA⟩,A3,H⟩:=H
 (try dsimp only at H);replace H:=nS H;obtain⟨qW,H⟩:=H;replace H:=nS H;obtain⟨mQ,H⟩:=H;obtain⟨rfl,rfl⟩:=s2 H;go_enter Tryz.func97,Tryz.ntmps97;go_wp2_with (refine gL 57 9 Tryz.func57 #[.pointer (some ⟨g,0,none⟩), .int .i64 (l1.length:Int)] ?_;(with_reducible refine(bV.calls w0 ?fH ?iV A3.out).mono ?_);(case fH=>exact oC);(case iV=>exact oG);rintro e w6 ⟨rfl,hi,hb,hk⟩;refine⟨_,rfl,?_⟩;replace HK:=kt HK hk;replace HB:=ak (hb);replace HI0:=ak (hi);clear hb;(try clear hk);(try clear hi);have anv:0≤(UG:Int):=of_decide_eq_true (by assumption);have anw:UG<(l1.length:Int):=of_decide_eq_true (by assumption);obtain⟨aqH,azz,aaw⟩:=Kd.UQ HR1.out UG anv anw;cases azz;replace aaw:=Hz HK.out aaw (by first|(rw[add_block];exact hf1 _ rfl (by omega))|exact hf1 _ rfl (by omega)|exact hf1 aqH rfl (by omega));replace anv:=eq_true anv;replace anw:=eq_true anw)
 go_ret;exact⟨er,oC,oG,kh HK.out⟩
mutual
def aN.l0:Nat→ByteArray→Int→Option (Bool)
 |0,_,_=>none
 |k+1,x0,x3=>if x3<(x0.size:Int)then(aN.j1 k x0 x3 (decide (x3≤200)))else(aN.j1 k x0 x3 false)
def aN.j1:Nat→ByteArray→Int→Bool→Option (Bool)
 |0,_,_,_=>none
 |k+1,x0,x3,x11=>if x11=true then(if 0≤x3 then(if x3<(x0.size:Int)then(if(bt x0 x3)<32 then(some false)else(if(bt x0 x3)>126 then(some false)else(aN.l0 k x0 (wrap64 (x3+1)))))else(none))else(none))else(some (decide ((x0.size:Int)≤200)))
end
def aN.f (k:Nat) (a0:ByteArray):Option (Bool):=aN.l0 k a0 0
theorem aN.calls {k:Nat} {a0:ByteArray} {r:Bool} {w:World} (h:aN.f k a0=some r):
  Calls Tryz.prog 159 #[.string a0] w fun e w'=>e= .returned (.bool r)∧dM w w':=by
 unfold aN.f at h;have H:=h;clear h;have H':=ak H;clear H;go_enter Tryz.func159,Tryz.ntmps159;go_wp2;go_loopg [3] k (fun kq v3 w'=>∃(dR:Int),v3= .int .i64 dR∧ah (aN.l0 kq a0 dR=some r)∧ah (kq≤k)∧dM w w')
 case atStart=>exact⟨_,rs,H',⟨Nat.le_refl _⟩,dn⟩
 case round=>
  clear H';obtain⟨dR,rfl,HA,yH,⟨m1,rfl⟩⟩:=hrel
  cases gk with
  |zero=>exact zz HA.out
  |succ k1=>
   obtain⟨H⟩:=HA;simp only[aN.l0]at H;have HC2:=ak H;clear H;go_upto_region 2 with(fail)
   go_cut [11] (fun v11 wc=>∃(kq:Nat) (uK:Bool),v11= .bool uK∧ah (aN.j1 kq a0 dR uK=some r)∧ah (kq≤k1)∧dM w wc)
   case first=>
    have H:=HC2.out;clear HC2;replace H:=sd H;rcases H with⟨iH,H⟩|⟨iH,H⟩
    ·(first|rw[iH]|(simp only[iP,jZ];rw[iH])|skip);have H':=ak H;clear H;go_wp2;go_meet
     case rel=>exact⟨_,_,rs,H',⟨kl⟩,dn⟩
    ·(first|rw[iH]|(simp only[iP,jZ];rw[iH])|skip);have H':=ak H;clear H;go_wp2;go_meet
     case rel=>exact⟨_,_,rs,H',⟨kl⟩,dn⟩
   case rest=>
    clear HC2;obtain⟨kq,uK,rfl,HA,HJ1,⟨mc1,rfl⟩⟩:=hcut
    cases kq with
    |zero=>exact zz HA.out
    |succ O5=>
     obtain⟨H⟩:=HA;simp only[aN.j1]at H;replace H:=sb H;rcases H with⟨rfl,H⟩|⟨rfl,H⟩
     ·replace H:=nS H;obtain⟨mQ,H⟩:=H;replace H:=nS H;obtain⟨nG,H⟩:=H;replace H:=sd H;rcases H with⟨tK,H⟩|⟨tK,H⟩
      ·obtain rfl:=s1 H;obtain⟨p7,q7,hx7⟩:=bx a0 dR;go_wp2;go_ret;exact⟨rs,dn⟩
      ·replace H:=sp H;rcases H with⟨c10,H⟩|⟨c10,H⟩
       ·have nI:decide (126<(bt a0 dR))=true:=decide_eq_true c10;clear c10;obtain rfl:=s1 H;obtain⟨p7,q7,hx7⟩:=bx a0 dR;obtain⟨p9,q9,hx9⟩:=bx a0 dR;go_wp2;go_ret;exact⟨rs,dn⟩
       ·have nI:decide (126<(bt a0 dR))=false:=decide_eq_false c10;clear c10;have H':=ak H;clear H;obtain⟨p7,q7,hx7⟩:=bx a0 dR;obtain⟨p9,q9,hx9⟩:=bx a0 dR;go_wp2;go_roundg O5
        case measure=>exact kl
        case rel=>exact⟨_,rs,H',⟨kl⟩,dn⟩
     ·obtain rfl:=s1 H;go_wp2;go_ret;exact⟨rs,dn⟩
mutual
def iy.l0:Nat→List ByteArray→Int→Option (Bool)
 |0,_,_=>none
 |k+1,x0,x3=>if x3<(x0.length:Int)then(iy.j1 k x0 x3 (decide (x3≤30)))else(iy.j1 k x0 x3 false)
def iy.j1:Nat→List ByteArray→Int→Bool→Option (Bool)
 |0,_,_,_=>none
 |k+1,x0,x3,x11=>if x11=true then(if 0≤x3 then(if x3<(x0.length:Int)then((aN.f k (mW ByteArray.empty x0 x3)).bind fun t116=>(if t116=true then(iy.l0 k x0 (wrap64 (x3+1)))else(some false)))else(none))else(none))else(some (decide ((x0.length:Int)≤30)))
end
def iy.f (k:Nat) (l0:List ByteArray):Option (Bool):=iy.l0 k l0 0
theorem iy.calls {k c0:Nat} {A0:Option Addr} {l0:List ByteArray} {r:Bool} {w:World} (hr0:Kd.C Kd.string w A0 l0.length l0) (hc0:l0.length≤c0) (h:iy.f k l0=some r):
  Calls Tryz.prog 114 #[.slice A0 l0.length c0] w fun e w'=>e= .returned (.bool r)∧dM w w':=by
 have HR0:=ak hr0;have yF:=ak hc0;clear hr0 hc0;unfold iy.f at h;have H:=h;clear h;have H':=ak H;clear H;go_enter Tryz.func114,Tryz.ntmps114;go_wp2;go_loopg [3] k (fun kq v3 w'=>∃(dR:Int),v3= .int .i64 dR∧ah (iy.l0 kq l0 dR=some r)∧ah (kq≤k)∧dM w w')
 case atStart=>exact⟨_,rs,H',⟨Nat.le_refl _⟩,dn⟩
 case round=>
  clear H';obtain⟨dR,rfl,HA,yH,⟨m1,rfl⟩⟩:=hrel
  cases gk with
  |zero=>exact zz HA.out
  |succ k1=>
   obtain⟨H⟩:=HA;simp only[iy.l0]at H;have HC2:=ak H;clear H;go_upto_region 2 with(fail)
   go_cut [11] (fun v11 wc=>∃(kq:Nat) (uK:Bool),v11= .bool uK∧ah (iy.j1 kq l0 dR uK=some r)∧ah (kq≤k1)∧dM w wc)
   case first=>
    have H:=HC2.out;clear HC2;replace H:=sd H;rcases H with⟨iH,H⟩|⟨iH,H⟩
    ·(first|rw[iH]|(simp only[iP,jZ];rw[iH])|skip);have H':=ak H;clear H;go_wp2;go_meet
     case rel=>exact⟨_,_,rs,H',⟨kl⟩,dn⟩
    ·(first|rw[iH]|(simp only[iP,jZ];rw[iH])|skip);have H':=ak H;clear H;go_wp2;go_meet
     case rel=>exact⟨_,_,rs,H',⟨kl⟩,dn⟩
   case rest=>
    clear HC2;obtain⟨kq,uK,rfl,HA,HJ1,⟨mc1,rfl⟩⟩:=hcut
    cases kq with
    |zero=>exact zz HA.out
    |succ O5=>
     obtain⟨H⟩:=HA;simp only[iy.j1]at H;replace H:=sb H;rcases H with⟨rfl,H⟩|⟨rfl,H⟩
     ·replace H:=nS H;obtain⟨mQ,H⟩:=H;replace H:=nS H;obtain⟨nG,H⟩:=H;replace H:=bd H;obtain⟨t116,A7,H⟩:=H;replace H:=sb H;rcases H with⟨rfl,H⟩|⟨rfl,H⟩
      ·have H':=ak H;clear H;have YD:=zi dR;have YE:=zj dR l0.length;obtain⟨aqI,e115,aij⟩:=Kd.iJ HR0.out dR YD YE;cases e115;replace YD:=eq_true YD;replace YE:=eq_true YE;go_wp2_with (refine gA Tryz.func159 (aN.calls A7.out) ?_;intro nd)
       go_roundg O5
       case measure=>exact kl
       case rel=>exact⟨_,rs,H',⟨kl⟩,dn⟩
      ·obtain rfl:=s1 H;have YD:=zi dR;have YE:=zj dR l0.length;obtain⟨aqI,e115,aij⟩:=Kd.iJ HR0.out dR YD YE;cases e115;replace YD:=eq_true YD;replace YE:=eq_true YE;go_wp2_with (refine gA Tryz.func159 (aN.calls A7.out) ?_;intro nd)
       go_ret;exact⟨rs,dn⟩
     ·obtain rfl:=s1 H;go_wp2;go_ret;exact⟨rs,dn⟩
mutual
def bI.j1:Nat→ByteArray→Option (ByteArray)
 |0,_=>none
 |k+1,x0=>bI.l1 k x0
def bI.l1:Nat→ByteArray→Option (ByteArray)
 |0,_=>none
 |k+1,x0=>if(x0.size:Int)>0 then(if 0≤(wrap64 ((x0.size:Int)-1))then(if(wrap64 ((x0.size:Int)-1))<(x0.size:Int)then(if(bt x0 (wrap64 ((x0.size:Int)-1)))=32 then(if(wrap64 ((x0.size:Int)-1))≤(x0.size:Int)then(bI.l1 k (x0.extract 0 ((wrap64 ((x0.size:Int)-1)):Int).toNat))else(none))else(some x0))else(none))else(none))else(some x0)
def bI.l0:Nat→ByteArray→Option (ByteArray)
 |0,_=>none
 |k+1,x0=>if(x0.size:Int)>0 then(if 0<(x0.size:Int)then(if(bt x0 0)=32 then(if 1≤(x0.size:Int)then(bI.l0 k (x0.extract 1 x0.size))else(none))else(bI.j1 k x0))else(none))else(bI.j1 k x0)
end
def bI.f (k:Nat) (a0:ByteArray):Option (ByteArray):=bI.l0 k a0
theorem bI.calls {k:Nat} {a0 r:ByteArray} {w:World} (h:bI.f k a0=some r):
  Calls Tryz.prog 179 #[.string a0] w fun e w'=>e= .returned (.string r)∧dM w w':=by
 unfold bI.f at h;have H:=h;clear h;have HC2:=ak H;clear H;go_enter Tryz.func179,Tryz.ntmps179;go_upto_block 0 with(fail)
 go_cut [0] (fun v0 wc=>∃(kq:Nat) (qH:ByteArray),v0= .string qH∧ah (bI.j1 kq qH=some r)∧ah (kq≤k)∧dM w wc)
 case first=>
  have H:=HC2.out;clear HC2;have H':=ak H;clear H;go_wp2;go_loopg [0] k (fun kq v0 w'=>∃(qH:ByteArray),v0= .string qH∧ah (bI.l0 kq qH=some r)∧ah (kq≤k)∧dM w w')
  case atStart=>exact⟨_,rs,H',⟨Nat.le_refl _⟩,dn⟩
  case round=>
   clear H';obtain⟨qH,rfl,HA,yH,⟨m1,rfl⟩⟩:=hrel
   cases gk with
   |zero=>exact zz HA.out
   |succ k1=>
    obtain⟨H⟩:=HA;simp only[bI.l0]at H;replace H:=sp H;rcases H with⟨c3,H⟩|⟨c3,H⟩
    ·have iH:decide (0<(qH.size:Int))=true:=decide_eq_true c3;have zH:decide (0<qH.size)=true:=decide_eq_true (by omega);clear c3
     (first|rw[iH]|(simp only[iP,jZ];rw[iH])|skip);replace H:=nn H;obtain⟨c4,H⟩:=H;have qW:=decide_eq_true c4;have YF:decide (0<qH.size)=true:=decide_eq_true (by omega);clear c4;replace H:=sq H;rcases H with⟨nG,xW,H⟩|⟨c6,nG,xW,H⟩
     ·replace H:=AY H;obtain⟨qO,Jl,H⟩:=H;have H':=ak H;clear H;have p5:0≤(0:Int):=(by omega)
      have q5:0<qH.size:=(by have:(0:Int)<(qH.size:Int):=of_decide_eq_true (by assumption);omega)
      have hx5:∀h:0<qH.size,((qH[0]'h).toNat:Int)=bt qH 0:=vZ qH 0;clear p5;have qi5:(0<(qH.size:Int))=True:=eq_true (of_decide_eq_true (by assumption));replace q5:=eq_true q5;go_wp2;go_roundg k1
      case measure=>exact kl
      case rel=>exact⟨_,rs,H',⟨kl⟩,dn⟩
     ·have H':=ak H;clear H;have p5:0≤(0:Int):=(by omega)
      have q5:0<qH.size:=(by have:(0:Int)<(qH.size:Int):=of_decide_eq_true (by assumption);omega)
      have hx5:∀h:0<qH.size,((qH[0]'h).toNat:Int)=bt qH 0:=vZ qH 0;clear p5;have qi5:(0<(qH.size:Int))=True:=eq_true (of_decide_eq_true (by assumption));replace q5:=eq_true q5;go_wp2;go_meet
      case rel=>exact⟨_,_,rs,H',⟨kl⟩,dn⟩
    ·have iH:decide (0<(qH.size:Int))=false:=decide_eq_false c3;have zH:decide (0<qH.size)=false:=decide_eq_false (by omega);clear c3
     (first|rw[iH]|(simp only[iP,jZ];rw[iH])|skip);have H':=ak H;clear H;go_wp2;go_meet
     case rel=>exact⟨_,_,rs,H',⟨kl⟩,dn⟩
 case rest=>
  clear HC2;obtain⟨kq,qH,rfl,HA,HJ1,⟨mc1,rfl⟩⟩:=hcut
  cases kq with
  |zero=>exact zz HA.out
  |succ O5=>
   obtain⟨H⟩:=HA;simp only[bI.j1]at H;have H':=ak H;clear H;go_wp2;go_loopg [0] O5 (fun kq v0 w'=>∃(Iw:ByteArray),v0= .string Iw∧ah (bI.l1 kq Iw=some r)∧ah (kq≤O5)∧dM w w')
   case atStart=>exact⟨_,rs,H',⟨Nat.le_refl _⟩,dn⟩
   case round=>
    clear H';obtain⟨Iw,rfl,HA,HK2,⟨m2,rfl⟩⟩:=hrel
    cases gk with
    |zero=>exact zz HA.out
    |succ k2=>
     obtain⟨H⟩:=HA;simp only[bI.l1]at H;replace H:=sp H;rcases H with⟨c8,H⟩|⟨c8,H⟩
     ·have tK:decide (0<(Iw.size:Int))=true:=decide_eq_true c8;have FH:decide (0<Iw.size)=true:=decide_eq_true (by omega);clear c8;obtain⟨Qp,Jq⟩:∃j_:Int,(wrap64 ((Iw.size:Int)-1))=j_:=⟨_,rfl⟩
      replace H:(if 0≤(Qp)then(if(Qp)<(Iw.size:Int)then(if(bt Iw (Qp))=32 then(if(Qp)≤(Iw.size:Int)then(bI.l1 k2 (Iw.extract 0 ((Qp):Int).toNat))else(none))else(some Iw))else(none))else(none))=some r:=by first|(rw[Jq]at H;exact H)|(simp only[Jq]at H⊢;exact H)
      have aj2:(IntKind.i64.wrap ((Iw.size:Int)-1))=Qp:=(iP _).trans Jq;replace H:=nS H;obtain⟨nI,H⟩:=H;replace H:=nS H;obtain⟨sJ,H⟩:=H;replace H:=sq H;rcases H with⟨vW,Az,H⟩|⟨c13,vW,Az,H⟩
      ·have sK:=eq_true (of_decide_eq_true (by assumption):0≤(Qp));replace H:=AY H;obtain⟨vX,F6,H⟩:=H;have H':=ak H;clear H;obtain⟨p12,q12,anx⟩:=bx Iw (Qp);go_wp2;go_roundg k2
       case measure=>exact kl
       case rel=>exact⟨_,(by first|rfl|(simp;done)|(simp only[←Jq]<;>(first|rfl|simp))|(simp[*];done)),H',⟨kl⟩,dn⟩
      ·obtain rfl:=s1 H;obtain⟨p12,q12,anx⟩:=bx Iw (Qp);go_wp2;go_ret;exact⟨by first|rfl|(simp;done)|(simp only[←Jq]<;>(first|rfl|simp))|(simp[*];done),dn⟩
     ·have tK:decide (0<(Iw.size:Int))=false:=decide_eq_false c8;have FH:decide (0<Iw.size)=false:=decide_eq_false (by omega);clear c8;obtain rfl:=s1 H;go_wp2;go_ret;exact⟨rs,dn⟩
def fV.f (a0:Int):Option (Bool):=if a0≥97 then(if a0≤122 then(some true)else(if a0≥65 then(if a0≤90 then(some true)else(if a0≥48 then(some (decide (a0≤57)))else(some false)))else(if a0≥48 then(some (decide (a0≤57)))else(some false))))else(if a0≥65 then(if a0≤90 then(some true)else(if a0≥48 then(some (decide (a0≤57)))else(some false)))else(if a0≥48 then(some (decide (a0≤57)))else(some false)))
theorem fV.calls {a0:Int} {r:Bool} {w:World} (h:fV.f a0=some r):
  Calls Tryz.prog 183 #[.int .u8 a0] w fun e w'=>e= .returned (.bool r)∧dM w w':=by
 unfold fV.f at h;have H:=h;clear h;replace H:=sp H;rcases H with⟨c2,H⟩|⟨c2,H⟩
 ·have nY:decide (97≤a0)=true:=decide_eq_true c2;clear c2;replace H:=sd H;rcases H with⟨iH,H⟩|⟨iH,H⟩
  ·obtain rfl:=s1 H;go_enter Tryz.func183,Tryz.ntmps183;go_wp2;go_ret;exact⟨rs,dn⟩
  ·replace H:=sp H;rcases H with⟨c4,H⟩|⟨c4,H⟩
   ·have qW:decide (65≤a0)=true:=decide_eq_true c4;clear c4;replace H:=sd H;rcases H with⟨mQ,H⟩|⟨mQ,H⟩
    ·obtain rfl:=s1 H;go_enter Tryz.func183,Tryz.ntmps183;go_wp2;go_ret;exact⟨rs,dn⟩
    ·replace H:=sp H;rcases H with⟨c6,H⟩|⟨c6,H⟩
     ·have nG:decide (48≤a0)=true:=decide_eq_true c6;clear c6;obtain rfl:=s1 H;go_enter Tryz.func183,Tryz.ntmps183;go_wp2;go_ret;exact⟨rs,dn⟩
     ·have nG:decide (48≤a0)=false:=decide_eq_false c6;clear c6;obtain rfl:=s1 H;go_enter Tryz.func183,Tryz.ntmps183;go_wp2;go_ret;exact⟨rs,dn⟩
   ·have qW:decide (65≤a0)=false:=decide_eq_false c4;clear c4;replace H:=sp H;rcases H with⟨c7,H⟩|⟨c7,H⟩
    ·have qO:decide (48≤a0)=true:=decide_eq_true c7;clear c7;obtain rfl:=s1 H;go_enter Tryz.func183,Tryz.ntmps183;go_wp2;go_ret;exact⟨rs,dn⟩
    ·have qO:decide (48≤a0)=false:=decide_eq_false c7;clear c7;obtain rfl:=s1 H;go_enter Tryz.func183,Tryz.ntmps183;go_wp2;go_ret;exact⟨rs,dn⟩
 ·have nY:decide (97≤a0)=false:=decide_eq_false c2;clear c2;replace H:=sp H;rcases H with⟨c8,H⟩|⟨c8,H⟩
  ·have tK:decide (65≤a0)=true:=decide_eq_true c8;clear c8;replace H:=sd H;rcases H with⟨yI,H⟩|⟨yI,H⟩
   ·obtain rfl:=s1 H;go_enter Tryz.func183,Tryz.ntmps183;go_wp2;go_ret;exact⟨rs,dn⟩
   ·replace H:=sp H;rcases H with⟨c10,H⟩|⟨c10,H⟩
    ·have nI:decide (48≤a0)=true:=decide_eq_true c10;clear c10;obtain rfl:=s1 H;go_enter Tryz.func183,Tryz.ntmps183;go_wp2;go_ret;exact⟨rs,dn⟩
    ·have nI:decide (48≤a0)=false:=decide_eq_false c10;clear c10;obtain rfl:=s1 H;go_enter Tryz.func183,Tryz.ntmps183;go_wp2;go_ret;exact⟨rs,dn⟩
  ·have tK:decide (65≤a0)=false:=decide_eq_false c8;clear c8;replace H:=sp H;rcases H with⟨c11,H⟩|⟨c11,H⟩
   ·have sJ:decide (48≤a0)=true:=decide_eq_true c11;clear c11;obtain rfl:=s1 H;go_enter Tryz.func183,Tryz.ntmps183;go_wp2;go_ret;exact⟨rs,dn⟩
   ·have sJ:decide (48≤a0)=false:=decide_eq_false c11;clear c11;obtain rfl:=s1 H;go_enter Tryz.func183,Tryz.ntmps183;go_wp2;go_ret;exact⟨rs,dn⟩
mutual
def bM.l0:Nat→ByteArray→Int→Option (Bool)
 |0,_,_=>none
 |k+1,x0,x3=>if x3<(x0.size:Int)then(bM.j1 k x0 x3 (decide (x3≤30)))else(bM.j1 k x0 x3 false)
def bM.j1:Nat→ByteArray→Int→Bool→Option (Bool)
 |0,_,_,_=>none
 |k+1,x0,x3,x11=>if x11=true then(if 0≤x3 then(if x3<(x0.size:Int)then((fV.f (bt x0 x3)).bind fun t117=>(if t117=true then(if x3=0 then(if(bt x0 x3)≤57 then(some false)else(bM.l0 k x0 (wrap64 (x3+1))))else(bM.l0 k x0 (wrap64 (x3+1))))else(if(bt x0 x3)=45 then(if x3=0 then(if(bt x0 x3)≤57 then(some false)else(bM.l0 k x0 (wrap64 (x3+1))))else(bM.l0 k x0 (wrap64 (x3+1))))else(some false))))else(none))else(none))else(if(x0.size:Int)≥1 then(some (decide ((x0.size:Int)≤30)))else(some false))
end
def bM.f (k:Nat) (a0:ByteArray):Option (Bool):=bM.l0 k a0 0
theorem bM.calls {k:Nat} {a0:ByteArray} {r:Bool} {w:World} (h:bM.f k a0=some r):
  Calls Tryz.prog 184 #[.string a0] w fun e w'=>e= .returned (.bool r)∧dM w w':=by
 unfold bM.f at h;have H:=h;clear h;have H':=ak H;clear H;go_enter Tryz.func184,Tryz.ntmps184;go_wp2;go_loopg [3] k (fun kq v3 w'=>∃(dR:Int),v3= .int .i64 dR∧ah (bM.l0 kq a0 dR=some r)∧ah (kq≤k)∧dM w w')
 case atStart=>exact⟨_,rs,H',⟨Nat.le_refl _⟩,dn⟩
 case round=>
  clear H';obtain⟨dR,rfl,HA,yH,⟨m1,rfl⟩⟩:=hrel
  cases gk with
  |zero=>exact zz HA.out
  |succ k1=>
   obtain⟨H⟩:=HA;simp only[bM.l0]at H;have HC2:=ak H;clear H;go_upto_region 2 with(fail)
   go_cut [11] (fun v11 wc=>∃(kq:Nat) (uK:Bool),v11= .bool uK∧ah (bM.j1 kq a0 dR uK=some r)∧ah (kq≤k1)∧dM w wc)
   case first=>
    have H:=HC2.out;clear HC2;replace H:=sd H;rcases H with⟨iH,H⟩|⟨iH,H⟩
    ·(first|rw[iH]|(simp only[iP,jZ];rw[iH])|skip);have H':=ak H;clear H;go_wp2;go_meet
     case rel=>exact⟨_,_,rs,H',⟨kl⟩,dn⟩
    ·(first|rw[iH]|(simp only[iP,jZ];rw[iH])|skip);have H':=ak H;clear H;go_wp2;go_meet
     case rel=>exact⟨_,_,rs,H',⟨kl⟩,dn⟩
   case rest=>
    clear HC2;obtain⟨kq,uK,rfl,HA,HJ1,⟨mc1,rfl⟩⟩:=hcut
    cases kq with
    |zero=>exact zz HA.out
    |succ O5=>
     obtain⟨H⟩:=HA;simp only[bM.j1]at H;replace H:=sb H;rcases H with⟨rfl,H⟩|⟨rfl,H⟩
     ·replace H:=nS H;obtain⟨mQ,H⟩:=H;replace H:=nS H;obtain⟨nG,H⟩:=H;replace H:=bd H;obtain⟨t117,A8,H⟩:=H;replace H:=sb H;rcases H with⟨rfl,H⟩|⟨rfl,H⟩
      ·replace H:=sq H;rcases H with⟨nI,rP,H⟩|⟨c10,nI,rP,H⟩
       ·replace H:=sd H;rcases H with⟨xX,H⟩|⟨xX,H⟩
        ·obtain rfl:=s1 H;obtain⟨p7,q7,hx7⟩:=bx a0 dR;go_wp2_with (refine gA Tryz.func183 (fV.calls A8.out) ?_;intro nd;have p11:0≤(dR:Int):=of_decide_eq_true (by assumption);have q11:dR<(a0.size:Int):=of_decide_eq_true (by assumption);have WS:=vZ a0 dR;replace p11:=eq_true p11;replace q11:=eq_true q11)
         go_ret;exact⟨rs,dn⟩
        ·have H':=ak H;clear H;obtain⟨p7,q7,hx7⟩:=bx a0 dR;go_wp2_with (refine gA Tryz.func183 (fV.calls A8.out) ?_;intro nd;have p11:0≤(dR:Int):=of_decide_eq_true (by assumption);have q11:dR<(a0.size:Int):=of_decide_eq_true (by assumption);have WS:=vZ a0 dR;replace p11:=eq_true p11;replace q11:=eq_true q11)
         go_roundg O5
         case measure=>exact kl
         case rel=>exact⟨_,rs,H',⟨kl⟩,dn⟩
       ·have H':=ak H;clear H;obtain⟨p7,q7,hx7⟩:=bx a0 dR;go_wp2_with (refine gA Tryz.func183 (fV.calls A8.out) ?_;intro nd)
        go_roundg O5
        case measure=>exact kl
        case rel=>exact⟨_,rs,H',⟨kl⟩,dn⟩
      ·replace H:=sq H;rcases H with⟨sK,xY,H⟩|⟨c14,sK,xY,H⟩
       ·replace H:=sq H;rcases H with⟨vX,F6,H⟩|⟨c15,vX,F6,H⟩
        ·replace H:=sd H;rcases H with⟨rQ,H⟩|⟨rQ,H⟩
         ·obtain rfl:=s1 H;obtain⟨p7,q7,hx7⟩:=bx a0 dR;go_wp2_with (refine gA Tryz.func183 (fV.calls A8.out) ?_;intro nd;have p13:0≤(dR:Int):=of_decide_eq_true (by assumption);have q13:dR<(a0.size:Int):=of_decide_eq_true (by assumption);have YG:=vZ a0 dR;replace p13:=eq_true p13;replace q13:=eq_true q13;have p16:0≤(dR:Int):=of_decide_eq_true (by assumption);have q16:dR<(a0.size:Int):=of_decide_eq_true (by assumption);have hx16:=vZ a0 dR;replace p16:=eq_true p16;replace q16:=eq_true q16)
          go_ret;exact⟨rs,dn⟩
         ·have H':=ak H;clear H;obtain⟨p7,q7,hx7⟩:=bx a0 dR;go_wp2_with (refine gA Tryz.func183 (fV.calls A8.out) ?_;intro nd;have p13:0≤(dR:Int):=of_decide_eq_true (by assumption);have q13:dR<(a0.size:Int):=of_decide_eq_true (by assumption);have YG:=vZ a0 dR;replace p13:=eq_true p13;replace q13:=eq_true q13;have p16:0≤(dR:Int):=of_decide_eq_true (by assumption);have q16:dR<(a0.size:Int):=of_decide_eq_true (by assumption);have hx16:=vZ a0 dR;replace p16:=eq_true p16;replace q16:=eq_true q16)
          go_roundg O5
          case measure=>exact kl
          case rel=>exact⟨_,rs,H',⟨kl⟩,dn⟩
        ·have H':=ak H;clear H;obtain⟨p7,q7,hx7⟩:=bx a0 dR;go_wp2_with (refine gA Tryz.func183 (fV.calls A8.out) ?_;intro nd;have p13:0≤(dR:Int):=of_decide_eq_true (by assumption);have q13:dR<(a0.size:Int):=of_decide_eq_true (by assumption);have YG:=vZ a0 dR;replace p13:=eq_true p13;replace q13:=eq_true q13)
         go_roundg O5
         case measure=>exact kl
         case rel=>exact⟨_,rs,H',⟨kl⟩,dn⟩
       ·obtain rfl:=s1 H;obtain⟨p7,q7,hx7⟩:=bx a0 dR;go_wp2_with (refine gA Tryz.func183 (fV.calls A8.out) ?_;intro nd;have p13:0≤(dR:Int):=of_decide_eq_true (by assumption);have q13:dR<(a0.size:Int):=of_decide_eq_true (by assumption);have YG:=vZ a0 dR;replace p13:=eq_true p13;replace q13:=eq_true q13)
        go_ret;exact⟨rs,dn⟩
     ·replace H:=sp H;rcases H with⟨c18,H⟩|⟨c18,H⟩
      ·have vY:decide (1≤(a0.size:Int))=true:=decide_eq_true c18;have JY:decide (1≤a0.size)=true:=decide_eq_true (by omega);clear c18;obtain rfl:=s1 H;go_wp2;go_ret;exact⟨rs,dn⟩
      ·have vY:decide (1≤(a0.size:Int))=false:=decide_eq_false c18;have JY:decide (1≤a0.size)=false:=decide_eq_false (by omega);clear c18;obtain rfl:=s1 H;go_wp2;go_ret;exact⟨rs,dn⟩
def iY.f (k:Nat) (dX:ByteArray) (eF:ByteArray):Option (Bool):=(bM.f k dX).bind fun t119=>(if t119=true then((aN.f k eF).bind fun aqJ=>(if aqJ=true then(if(eF.size:Int)≤150 then((bI.f k eF).bind fun aqK=>(some (aqK.toList==eF.toList)))else(some false))else(some false)))else(some false))
theorem iY.calls {k:Nat} {dX eF:ByteArray} {r:Bool} {w:World} (h:iY.f k dX eF=some r):
  Calls Tryz.prog 158 #[.agg #[.string dX, .string eF]] w fun e w'=>e= .returned (.bool r)∧Below w.heap.size w w':=by
 have EC:=Tryz.underlying69;have HB:=ak (Below.refl w.heap.size w);unfold iY.f at h;have H:=h;clear h;replace H:=bd H;obtain⟨t119,A2,H⟩:=H;replace H:=sb H;rcases H with⟨rfl,H⟩|⟨rfl,H⟩
 ·replace H:=bd H;obtain⟨aqJ,A4,H⟩:=H;replace H:=sb H;rcases H with⟨rfl,H⟩|⟨rfl,H⟩
  ·replace H:=sp H;rcases H with⟨c6,H⟩|⟨c6,H⟩
   ·have nG:=decide_eq_true c6;have xW:decide (eF.size≤150)=true:=decide_eq_true (by omega);clear c6;replace H:=bd H;obtain⟨aqK,A7,H⟩:=H;obtain rfl:=s1 H;go_enter Tryz.func158,Tryz.ntmps158;go_wp2_with (first|(refine gG 1 ?_;refine bX HB 1 #[.string dX, .string eF] 69 ?_;intro F7 w8 uM F8 hb;replace HB:=bs HB hb;clear hb;have z9:=AL uM.out)|(go_at_call 184;refine mA (bM.calls A2.out) ?_;intro nd;(try exact dq))|(go_at_call 159;refine mA (aN.calls A4.out) ?_;intro nd;(try exact dq))|(go_at_call 179;refine mA (bI.calls A7.out) ?_;intro nd;(try exact dq)))
    repeat(go_quiet (first|(refine gG 1 ?_;refine bX HB 1 #[.string dX, .string eF] 69 ?_;intro F7 w8 uM F8 hb;replace HB:=bs HB hb;clear hb;have z9:=AL uM.out)|(go_at_call 184;refine mA (bM.calls A2.out) ?_;intro nd;(try exact dq))|(go_at_call 159;refine mA (aN.calls A4.out) ?_;intro nd;(try exact dq))|(go_at_call 179;refine mA (bI.calls A7.out) ?_;intro nd;(try exact dq)));try go_wp2_with (first|(refine gG 1 ?_;refine bX HB 1 #[.string dX, .string eF] 69 ?_;intro F7 w8 uM F8 hb;replace HB:=bs HB hb;clear hb;have z9:=AL uM.out)|(go_at_call 184;refine mA (bM.calls A2.out) ?_;intro nd;(try exact dq))|(go_at_call 159;refine mA (aN.calls A4.out) ?_;intro nd;(try exact dq))|(go_at_call 179;refine mA (bI.calls A7.out) ?_;intro nd;(try exact dq))))
    go_ret;exact⟨er,bb⟩
   ·have nG:=decide_eq_false c6;have xW:decide (eF.size≤150)=false:=decide_eq_false (by omega);clear c6;obtain rfl:=s1 H;go_enter Tryz.func158,Tryz.ntmps158;go_wp2_with (first|(refine gG 1 ?_;refine bX HB 1 #[.string dX, .string eF] 69 ?_;intro F7 w10 uM F8 hb;replace HB:=bs HB hb;clear hb;have z11:=AL uM.out)|(go_at_call 184;refine mA (bM.calls A2.out) ?_;intro nd;(try exact dq))|(go_at_call 159;refine mA (aN.calls A4.out) ?_;intro nd;(try exact dq)))
    repeat(go_quiet (first|(refine gG 1 ?_;refine bX HB 1 #[.string dX, .string eF] 69 ?_;intro F7 w10 uM F8 hb;replace HB:=bs HB hb;clear hb;have z11:=AL uM.out)|(go_at_call 184;refine mA (bM.calls A2.out) ?_;intro nd;(try exact dq))|(go_at_call 159;refine mA (aN.calls A4.out) ?_;intro nd;(try exact dq)));try go_wp2_with (first|(refine gG 1 ?_;refine bX HB 1 #[.string dX, .string eF] 69 ?_;intro F7 w10 uM F8 hb;replace HB:=bs HB hb;clear hb;have z11:=AL uM.out)|(go_at_call 184;refine mA (bM.calls A2.out) ?_;intro nd;(try exact dq))|(go_at_call 159;refine mA (aN.calls A4.out) ?_;intro nd;(try exact dq))))
    go_ret;exact⟨er,bb⟩
  ·obtain rfl:=s1 H;go_enter Tryz.func158,Tryz.ntmps158;go_wp2_with (first|(refine gG 1 ?_;refine bX HB 1 #[.string dX, .string eF] 69 ?_;intro F7 w12 uM F8 hb;replace HB:=bs HB hb;clear hb;have z13:=AL uM.out)|(go_at_call 184;refine mA (bM.calls A2.out) ?_;intro nd;(try exact dq))|(go_at_call 159;refine mA (aN.calls A4.out) ?_;intro nd;(try exact dq)))
   repeat(go_quiet (first|(refine gG 1 ?_;refine bX HB 1 #[.string dX, .string eF] 69 ?_;intro F7 w12 uM F8 hb;replace HB:=bs HB hb;clear hb;have z13:=AL uM.out)|(go_at_call 184;refine mA (bM.calls A2.out) ?_;intro nd;(try exact dq))|(go_at_call 159;refine mA (aN.calls A4.out) ?_;intro nd;(try exact dq)));try go_wp2_with (first|(refine gG 1 ?_;refine bX HB 1 #[.string dX, .string eF] 69 ?_;intro F7 w12 uM F8 hb;replace HB:=bs HB hb;clear hb;have z13:=AL uM.out)|(go_at_call 184;refine mA (bM.calls A2.out) ?_;intro nd;(try exact dq))|(go_at_call 159;refine mA (aN.calls A4.out) ?_;intro nd;(try exact dq))))
   go_ret;exact⟨er,bb⟩
 ·obtain rfl:=s1 H;go_enter Tryz.func158,Tryz.ntmps158;go_wp2_with (first|(refine gG 1 ?_;refine bX HB 1 #[.string dX, .string eF] 69 ?_;intro F7 UE uM F8 hb;replace HB:=bs HB hb;clear hb;have z15:=AL uM.out)|(go_at_call 184;refine mA (bM.calls A2.out) ?_;intro nd;(try exact dq)))
  repeat(go_quiet (first|(refine gG 1 ?_;refine bX HB 1 #[.string dX, .string eF] 69 ?_;intro F7 UE uM F8 hb;replace HB:=bs HB hb;clear hb;have z15:=AL uM.out)|(go_at_call 184;refine mA (bM.calls A2.out) ?_;intro nd;(try exact dq)));try go_wp2_with (first|(refine gG 1 ?_;refine bX HB 1 #[.string dX, .string eF] 69 ?_;intro F7 UE uM F8 hb;replace HB:=bs HB hb;clear hb;have z15:=AL uM.out)|(go_at_call 184;refine mA (bM.calls A2.out) ?_;intro nd;(try exact dq))))
  go_ret;exact⟨er,bb⟩
def fZ.l0:Nat→ByteArray→Int→Option (Bool)
 |0,_,_=>none
 |k+1,x0,x3=>if(wrap64 (x3+1))<(x0.size:Int)then(if 0≤x3 then(if x3<(x0.size:Int)then(if(bt x0 x3)=61 then(if 0≤(wrap64 (x3+1))then(if(bt x0 (wrap64 (x3+1)))=63 then(some true)else(fZ.l0 k x0 (wrap64 (x3+1))))else(none))else(fZ.l0 k x0 (wrap64 (x3+1))))else(none))else(none))else((aN.f k x0).bind fun aqL=>(if aqL=true then((bI.f k x0).bind fun aqM=>(if aqM.toList=x0.toList then(some (decide ((x0.size:Int)>120)))else(some true)))else(some true)))
def fZ.f (k:Nat) (a0:ByteArray):Option (Bool):=fZ.l0 k a0 0
theorem fZ.calls {k:Nat} {a0:ByteArray} {r:Bool} {w:World} (h:fZ.f k a0=some r):
  Calls Tryz.prog 207 #[.string a0] w fun e w'=>e= .returned (.bool r)∧dM w w':=by
 unfold fZ.f at h;have H:=h;clear h;have H':=ak H;clear H;go_enter Tryz.func207,Tryz.ntmps207;go_wp2;go_loopg [3] k (fun kq v3 w'=>∃(dR:Int),v3= .int .i64 dR∧ah (fZ.l0 kq a0 dR=some r)∧ah (kq≤k)∧dM w w')
 case atStart=>exact⟨_,rs,H',⟨Nat.le_refl _⟩,dn⟩
 case round=>
  clear H';obtain⟨dR,rfl,HA,yH,⟨m1,rfl⟩⟩:=hrel
  cases gk with
  |zero=>exact zz HA.out
  |succ k1=>
   obtain⟨H⟩:=HA;simp only[fZ.l0]at H;replace H:=sp H;rcases H with⟨c2,H⟩|⟨c2,H⟩
   ·have nY:=decide_eq_true c2
    (try(have uJ:decide ((dR+1)<(a0.size:Int))=true:=decide_eq_true (by have h_:=c2;unfold wrap64 at h_;omega)));clear c2;replace H:=nS H;obtain⟨iH,H⟩:=H;replace H:=nS H;obtain⟨qW,H⟩:=H;replace H:=sq H;rcases H with⟨nG,xW,H⟩|⟨c6,nG,xW,H⟩
    ·obtain⟨ji7,O6⟩:∃j_:Int,(wrap64 (dR+1))=j_:=⟨_,rfl⟩
     replace H:(if 0≤(ji7)then(if(bt a0 (ji7))=63 then(some true)else(fZ.l0 k1 a0 ji7))else(none))=some r:=by first|(rw[O6]at H;exact H)|(simp only[O6]at H⊢;exact H)
     (try rw[O6]at nY);have aqN:(IntKind.i64.wrap (dR+1))=ji7:=(iP _).trans O6;replace H:=nS H;obtain⟨tK,H⟩:=H;replace H:=sq H;rcases H with⟨nI,rP,H⟩|⟨c10,nI,rP,H⟩
     ·obtain rfl:=s1 H;obtain⟨p5,q5,hx5⟩:=bx a0 dR;obtain⟨p9,q9,hx9⟩:=bx a0 (ji7);go_wp2;go_ret;exact⟨by first|rfl|(simp;done)|(simp only[←O6]<;>(first|rfl|simp))|(simp[*];done),dn⟩
     ·have H':=ak H;clear H;obtain⟨p5,q5,hx5⟩:=bx a0 dR;obtain⟨p9,q9,hx9⟩:=bx a0 (ji7);go_wp2;go_roundg k1
      case measure=>exact kl
      case rel=>exact⟨_,(by first|rfl|(simp;done)|(simp only[←O6]<;>(first|rfl|simp))|(simp[*];done)),H',⟨kl⟩,dn⟩
    ·have H':=ak H;clear H;obtain⟨p5,q5,hx5⟩:=bx a0 dR;go_wp2;go_roundg k1
     case measure=>exact kl
     case rel=>exact⟨_,rs,H',⟨kl⟩,dn⟩
   ·have nY:=decide_eq_false c2
    (try(have uJ:decide ((dR+1)<(a0.size:Int))=false:=decide_eq_false (by have h_:=c2;unfold wrap64 at h_;omega)));clear c2;replace H:=bd H;obtain⟨aqL,A11,H⟩:=H;replace H:=sb H;rcases H with⟨rfl,H⟩|⟨rfl,H⟩
    ·replace H:=bd H;obtain⟨aqM,A13,H⟩:=H;replace H:=sq H;rcases H with⟨sK,xY,H⟩|⟨c14,sK,xY,H⟩
     ·obtain rfl:=s1 H;go_wp2_with (first|(refine gA Tryz.func159 (aN.calls A11.out) ?_;intro nd)|(go_at_call 179;refine mA (bI.calls A13.out) ?_;intro nd))
      go_ret;exact⟨rs,dn⟩
     ·obtain rfl:=s1 H;go_wp2_with (first|(refine gA Tryz.func159 (aN.calls A11.out) ?_;intro nd)|(go_at_call 179;refine mA (bI.calls A13.out) ?_;intro nd))
      go_ret;exact⟨rs,dn⟩
    ·obtain rfl:=s1 H;go_wp2_with (refine gA Tryz.func159 (aN.calls A11.out) ?_;intro nd)
     go_ret;exact⟨rs,dn⟩
mutual
def fO.l0:Nat→List (gK)→Int→Option (Bool)
 |0,_,_=>none
 |k+1,x0,x3=>if x3<(x0.length:Int)then(fO.j1 k x0 x3 (decide (x3≤20)))else(fO.j1 k x0 x3 false)
def fO.j1:Nat→List (gK)→Int→Bool→Option (Bool)
 |0,_,_,_=>none
 |k+1,x0,x3,x11=>if x11=true then(if 0≤x3 then(if x3<(x0.length:Int)then((iY.f k ((eU x0 x3).f0) ((eU x0 x3).f1)).bind fun aqO=>(if aqO=true then(fO.l0 k x0 (wrap64 (x3+1)))else(some false)))else(none))else(none))else(some (decide ((x0.length:Int)≤20)))
end
def fO.f (k:Nat) (l0:List (gK)):Option (Bool):=fO.l0 k l0 0
theorem fO.calls {k c0:Nat} {A0:Option Addr} {l0:List (gK)} {r:Bool} {w:World} (hr0:Kd.C qy w A0 l0.length l0) (hc0:l0.length≤c0) (h:fO.f k l0=some r):
  Calls Tryz.prog 113 #[.slice A0 l0.length c0] w fun e w'=>e= .returned (.bool r)∧Below w.heap.size w w':=by
 have EC:=Tryz.underlying69;have HR0:=ak hr0;have yF:=ak hc0;clear hr0 hc0;have HB:=ak (Below.refl w.heap.size w);unfold fO.f at h;have H:=h;clear h;have H':=ak H;clear H;go_enter Tryz.func113,Tryz.ntmps113;go_wp2;go_loopg [3] k (fun kq v3 w'=>∃(dR:Int),v3= .int .i64 dR∧ah (fO.l0 kq l0 dR=some r)∧ah (kq≤k)∧ah (Below w.heap.size w w'))
 case atStart=>exact⟨_,rs,H',⟨Nat.le_refl _⟩,⟨ul HB.out⟩⟩
 case round=>
  clear H';obtain⟨dR,rfl,HA,yH,HB⟩:=hrel
  cases gk with
  |zero=>exact zz HA.out
  |succ k1=>
   obtain⟨H⟩:=HA;simp only[fO.l0]at H;have HC2:=ak H;clear H;go_upto_region 2 with(fail)
   go_cut [11] (fun v11 wc=>∃(kq:Nat) (uK:Bool),v11= .bool uK∧ah (fO.j1 kq l0 dR uK=some r)∧ah (kq≤k1)∧ah (Below w.heap.size w wc))
   case first=>
    have H:=HC2.out;clear HC2;replace H:=sd H;rcases H with⟨iH,H⟩|⟨iH,H⟩
    ·(first|rw[iH]|(simp only[iP,jZ];rw[iH])|skip);have H':=ak H;clear H;go_wp2;go_meet
     case rel=>exact⟨_,_,rs,H',⟨kl⟩,⟨ul HB.out⟩⟩
    ·(first|rw[iH]|(simp only[iP,jZ];rw[iH])|skip);have H':=ak H;clear H;go_wp2;go_meet
     case rel=>exact⟨_,_,rs,H',⟨kl⟩,⟨ul HB.out⟩⟩
   case rest=>
    clear HC2;obtain⟨kq,uK,rfl,HA,HJ1,HB⟩:=hcut
    cases kq with
    |zero=>exact zz HA.out
    |succ O5=>
     obtain⟨H⟩:=HA;simp only[fO.j1]at H;replace H:=sb H;rcases H with⟨rfl,H⟩|⟨rfl,H⟩
     ·replace H:=nS H;obtain⟨mQ,H⟩:=H;replace H:=nS H;obtain⟨nG,H⟩:=H;replace H:=bd H;obtain⟨aqO,A7,H⟩:=H;replace H:=sb H;rcases H with⟨rfl,H⟩|⟨rfl,H⟩
      ·have H':=ak H;clear H;have YH:=zi dR;have YI:=zj dR l0.length;obtain⟨aqP,anz,JZ,J3⟩:=qN HR0.out dR YH YI;cases anz;replace JZ:=cl HB.out JZ;replace J3:=cl HB.out J3;replace YH:=eq_true YH;replace YI:=eq_true YI;go_wp2_with (refine gB Tryz.func158 (iY.calls A7.out) ?_;intro w9 hb;replace HB:=bs HB hb;clear hb)
       go_roundg O5
       case measure=>exact kl
       case rel=>exact⟨_,rs,H',⟨kl⟩,⟨ul HB.out⟩⟩
      ·obtain rfl:=s1 H;have YH:=zi dR;have YI:=zj dR l0.length;obtain⟨aqP,anz,JZ,J3⟩:=qN HR0.out dR YH YI;cases anz;replace JZ:=cl HB.out JZ;replace J3:=cl HB.out J3;replace YH:=eq_true YH;replace YI:=eq_true YI;go_wp2_with (refine gB Tryz.func158 (iY.calls A7.out) ?_;intro w10 hb;replace HB:=bs HB hb;clear hb)
       go_ret;exact⟨er,ul HB.out⟩
     ·obtain rfl:=s1 H;go_wp2;go_ret;exact⟨er,ul HB.out⟩
mutual
def dY.l0:Nat→ByteArray→Int→Int→Option (Int)
 |0,_,_,_=>none
 |k+1,x0,x5,x6=>if(wrap64 (x6+1))<(x0.size:Int)then(if 0≤x6 then(if x6<(x0.size:Int)then(if(bt x0 x6)=32 then(if 0≤(wrap64 (x6-1))then(if(wrap64 (x6-1))<(x0.size:Int)then(if(bt x0 (wrap64 (x6-1)))=32 then(dY.j1 k x0 x5 x6 true)else(if 0≤(wrap64 (x6+1))then(dY.j1 k x0 x5 x6 ((bt x0 (wrap64 (x6+1)))==32))else(none)))else(none))else(none))else(dY.j1 k x0 x5 x6 true))else(none))else(none))else(some x5)
def dY.j1:Nat→ByteArray→Int→Int→Bool→Option (Int)
 |0,_,_,_,_=>none
 |k+1,x0,x5,x6,x33=>if x33=true then(dY.l0 k x0 x5 (wrap64 (x6+1)))else(if x6≤40 then(dY.l0 k x0 x6 (wrap64 (x6+1)))else(if x5<0 then(dY.l0 k x0 x6 (wrap64 (x6+1)))else(dY.l0 k x0 x5 (wrap64 (x6+1)))))
end
def dY.f (k:Nat) (a0:ByteArray) (a1:Int):Option (Int):=dY.l0 k a0 (-1) (wrap64 (a1+1))
theorem dY.calls {k:Nat} {a0:ByteArray} {a1 r:Int} {w:World} (h:dY.f k a0 a1=some r):
  Calls Tryz.prog 176 #[.string a0, .int .i64 a1] w fun e w'=>e= .returned (.int .i64 r)∧dM w w':=by
 unfold dY.f at h;have H:=h;clear h;have H':=ak H;clear H;go_enter Tryz.func176,Tryz.ntmps176;go_wp2;go_loopg [5,6] k (fun kq v5 v6 w'=>∃(dK:Int) (gY:Int),v5= .int .i64 dK∧v6= .int .i64 gY∧ah (dY.l0 kq a0 dK gY=some r)∧ah (kq≤k)∧dM w w')
 case atStart=>exact⟨_,_,rs,rs,H',⟨Nat.le_refl _⟩,dn⟩
 case round=>
  clear H';obtain⟨dK,gY,rfl,rfl,HA,yH,⟨m1,rfl⟩⟩:=hrel
  cases gk with
  |zero=>exact zz HA.out
  |succ k1=>
   obtain⟨H⟩:=HA;simp only[dY.l0]at H;replace H:=sp H;rcases H with⟨c3,H⟩|⟨c3,H⟩
   ·have iH:=decide_eq_true c3
    (try(have zH:decide ((gY+1)<(a0.size:Int))=true:=decide_eq_true (by have h_:=c3;unfold wrap64 at h_;omega)));clear c3;have HC4:=ak H;clear H;go_upto_region 5 with(fail)
    go_cut [33] (fun v33 wc=>∃(kq:Nat) (aes:Bool),v33= .bool aes∧ah (dY.j1 kq a0 dK gY aes=some r)∧ah (kq≤k1)∧dM w wc)
    case first=>
     have H:=HC4.out;clear HC4;replace H:=nS H;obtain⟨mQ,H⟩:=H
     (first|rw[mQ]|(simp only[iP,jZ];rw[mQ])|skip);replace H:=nS H;obtain⟨nG,H⟩:=H;replace H:=sq H;rcases H with⟨tK,FH,H⟩|⟨c8,tK,FH,H⟩
     ·obtain⟨Qp,Jq⟩:∃j_:Int,(wrap64 (gY-1))=j_:=⟨_,rfl⟩
      replace H:(if 0≤(Qp)then(if(Qp)<(a0.size:Int)then(if(bt a0 (Qp))=32 then(dY.j1 k1 a0 dK gY true)else(if 0≤(wrap64 (gY+1))then(dY.j1 k1 a0 dK gY ((bt a0 (wrap64 (gY+1)))==32))else(none)))else(none))else(none))=some r:=by first|(rw[Jq]at H;exact H)|(simp only[Jq]at H⊢;exact H)
      have aj2:(IntKind.i64.wrap (gY-1))=Qp:=(iP _).trans Jq;replace H:=nS H;obtain⟨nI,H⟩:=H;replace H:=nS H;obtain⟨sJ,H⟩:=H;replace H:=sq H;rcases H with⟨vW,Az,H⟩|⟨c13,vW,Az,H⟩
      ·have H':=ak H;clear H;obtain⟨p7,q7,hx7⟩:=bx a0 gY;obtain⟨p12,q12,anx⟩:=bx a0 (Qp);go_wp2;go_meet
       case rel=>exact⟨_,_,rs,H',⟨kl⟩,dn⟩
      ·obtain⟨JW,JX⟩:∃j_:Int,(wrap64 (gY+1))=j_:=⟨_,rfl⟩
       replace H:(if 0≤(JW)then(dY.j1 k1 a0 dK gY ((bt a0 (JW))==32))else(none))=some r:=by first|(rw[JX]at H;exact H)|(simp only[JX]at H⊢;exact H)
       (try rw[JX]at iH);have azA:(IntKind.i64.wrap (gY+1))=JW:=(iP _).trans JX;replace H:=nS H;obtain⟨vX,H⟩:=H;have H':=ak H;clear H;obtain⟨p7,q7,hx7⟩:=bx a0 gY;obtain⟨p12,q12,anx⟩:=bx a0 (Qp);obtain⟨p16,q16,hx16⟩:=bx a0 (JW);go_wp2;go_meet
       case rel=>exact⟨_,_,(by first|rfl|(simp;done)|(simp only[←JX]<;>(first|rfl|simp))|(simp[*];done)),H',⟨kl⟩,dn⟩
     ·have H':=ak H;clear H;obtain⟨p7,q7,hx7⟩:=bx a0 gY;go_wp2;go_meet
      case rel=>exact⟨_,_,rs,H',⟨kl⟩,dn⟩
    case rest=>
     clear HC4;try clear c3
     try clear iH
     try clear zH
     obtain⟨kq,aes,rfl,HA,HJ3,⟨mc3,rfl⟩⟩:=hcut
     cases kq with
     |zero=>exact zz HA.out
     |succ kj3=>
      obtain⟨H⟩:=HA;simp only[dY.j1]at H;replace H:=sb H;rcases H with⟨rfl,H⟩|⟨rfl,H⟩
      ·have H':=ak H;clear H;go_wp2;go_roundg kj3
       case measure=>exact kl
       case rel=>exact⟨_,_,rs,rs,H',⟨kl⟩,dn⟩
      ·replace H:=sd H;rcases H with⟨vY,H⟩|⟨vY,H⟩
       ·have H':=ak H;clear H;go_wp2;go_roundg kj3
        case measure=>exact kl
        case rel=>exact⟨_,_,rs,rs,H',⟨kl⟩,dn⟩
       ·replace H:=sd H;rcases H with⟨AB,H⟩|⟨AB,H⟩
        ·have H':=ak H;clear H;go_wp2;go_roundg kj3
         case measure=>exact kl
         case rel=>exact⟨_,_,rs,rs,H',⟨kl⟩,dn⟩
        ·have H':=ak H;clear H;go_wp2;go_roundg kj3
         case measure=>exact kl
         case rel=>exact⟨_,_,rs,rs,H',⟨kl⟩,dn⟩
   ·have iH:=decide_eq_false c3
    (try(have zH:decide ((gY+1)<(a0.size:Int))=false:=decide_eq_false (by have h_:=c3;unfold wrap64 at h_;omega)));clear c3;obtain rfl:=s1 H;go_wp2;go_ret;exact⟨rs,dn⟩
mutual
def fJ.j0:Nat→List ByteArray→ByteArray→Int→Option (List ByteArray)
 |0,_,_,_=>none
 |k+1,x3,x4,x5=>fJ.l0 k x3 x4 x5
def fJ.l0:Nat→List ByteArray→ByteArray→Int→Option (List ByteArray)
 |0,_,_,_=>none
 |k+1,x3,x4,x5=>if(x4.size:Int)>40 then((dY.f k x4 x5).bind fun Qr=>(if Qr<0 then(if x3.length<8796093022208 then(some (x3++[x4]))else(none))else(if 0≤Qr then(if Qr≤(x4.size:Int)then(if x3.length<8796093022208 then(fJ.l0 k (x3++[x4.extract 0 (Qr:Int).toNat]) (x4.extract (Qr:Int).toNat x4.size) 1)else(none))else(none))else(none))))else(if x3.length<8796093022208 then(some (x3++[x4]))else(none))
end
def fJ.f (k:Nat) (dX:ByteArray) (eF:ByteArray):Option (List ByteArray):=(some (([]:List ByteArray):List ByteArray)).bind fun acT=>((iY.f k dX eF).bind fun aqQ=>(if aqQ=true then(if dX.size+1≤9223372036854775807 then(if eF.toList=([]:List UInt8)then(fJ.j0 k acT (dX++(⟨#[58]⟩:ByteArray)) ((dX++(⟨#[58]⟩:ByteArray)).size:Int))else(if(dX++(⟨#[58]⟩:ByteArray)).size+1≤9223372036854775807 then(if((dX++(⟨#[58]⟩:ByteArray))++(⟨#[32]⟩:ByteArray)).size+eF.size≤9223372036854775807 then(fJ.j0 k acT (((dX++(⟨#[58]⟩:ByteArray))++(⟨#[32]⟩:ByteArray))++eF) (wrap64 (((dX++(⟨#[58]⟩:ByteArray)).size:Int)+1)))else(none))else(none)))else(none))else(some acT)))
theorem fJ.calls {k:Nat} {dX eF:ByteArray} {r:List ByteArray} {w:World} (h:fJ.f k dX eF=some r):
  Calls Tryz.prog 153 #[.agg #[.string dX, .string eF]] w fun e w'=>∃oD:Value,e= .returned (oD)∧Kd.R Kd.string 9 w' w.heap.size (fun _=>True) oD r∧Below w.heap.size w w':=by
 have EC:=Tryz.underlying69;have HB:=ak (Below.refl w.heap.size w);unfold fJ.f at h;have H:=h;clear h;replace H:=ny H;obtain⟨acT,aj6,H⟩:=H;replace H:=bd H;obtain⟨aqQ,A2,H⟩:=H;replace H:=sb H;rcases H with⟨rfl,H⟩|⟨rfl,H⟩
 ·replace H:=nn H;obtain⟨c4,H⟩:=H;have qW:=eq_true c4;have YF:=decide_eq_true c4;try have aqR:(9223372036854775807<dX.size+1)=False:=eq_false (Nat.not_lt.2 c4)
  have HC5:=ak H;clear H;go_enter Tryz.func153,Tryz.ntmps153;go_upto_if 19 with(first|(refine bX HB 1 #[.string dX, .string eF] 69 ?_;intro TD w6 rU aqS hb;replace HB:=bs HB hb;clear hb)|(refine Hy 7 Kd.string 9 aj6 ?_;intro aqT w7 ho8 hb;have Oq:=ak (Kd.aA ho8 (aj bb));replace rU:=kb rU hb;replace HB:=bz HB hb;clear hb ho8;have z9:=AL rU.out)|(refine gB Tryz.func158 (iY.calls A2.out) ?_;intro w10 hb;replace Oq:=rb Oq hb;replace rU:=kb rU hb;replace HB:=bz HB hb;clear hb;have z11:=AL rU.out))
  (try simp only[Act.put,Aq,Ar,l_c]);go_cut [4,5] (fun v4 v5 wc=>∃(kq:Nat) (anA:ByteArray) (WT:Int),v4= .string anA∧v5= .int .i64 WT∧ah (fJ.j0 kq acT anA WT=some r)∧ah (kq≤k)∧ah (Kd.R Kd.string 9 wc w.heap.size (fun _=>True) aqT acT)∧ah (wc.heap[TD]? =some (.cells #[.string dX, .string eF] 69 (0,0)))∧ah (Below w.heap.size w wc))
  case first=>
   have H:=HC5.out;clear HC5;replace H:=sp H;rcases H with⟨c12,H⟩|⟨c12,H⟩
   ·have xX:=beq_iff_eq.mpr c12;have anB:(eF.toList).isEmpty=true:=List.isEmpty_iff.mpr c12;have D9:=bne_eq_false_iff_eq.mpr c12;clear c12
    (first|rw[xX]|(simp only[iP,jZ];rw[xX])|skip)
    (first|(rw[anB];simp only[Bool.not_true,Bool.not_false])|skip);have H':=ak H;clear H;go_wp2;go_meet
    case rel=>exact⟨_,_,_,rs,rs,H',⟨Jp⟩,⟨ur Oq.out⟩,⟨ub rU.out⟩,⟨bb⟩⟩
   ·have xX:=beq_eq_false_iff_ne.mpr c12;have anB:(eF.toList).isEmpty=false:=List.isEmpty_eq_false_iff.mpr c12;have D9:=bne_iff_ne.mpr c12
    (first|rw[xX]|(simp only[iP,jZ];rw[xX])|skip)
    (first|(rw[anB];simp only[Bool.not_true,Bool.not_false])|skip);replace H:=nn H;obtain⟨c13,H⟩:=H;have vW:=eq_true c13;have Az:=decide_eq_true c13;try have aqU:(9223372036854775807<dX.size+1+1)=False:=by have h_:=(eq_false (Nat.not_lt.2 c13):(9223372036854775807<(dX++(⟨#[58]⟩:ByteArray)).size+1)=False);simp only[ByteArray.size_append]at h_;exact h_
    try have aj3:(9223372036854775807<(dX++(⟨#[58]⟩:ByteArray)).size+1)=False:=eq_false (Nat.not_lt.2 c13)
    replace H:=nn H;obtain⟨c14,H⟩:=H;have sK:=eq_true c14;have xY:=decide_eq_true c14;try have aCH:(9223372036854775807<dX.size+1+1+eF.size)=False:=by have h_:=(eq_false (Nat.not_lt.2 c14):(9223372036854775807<((dX++(⟨#[58]⟩:ByteArray))++(⟨#[32]⟩:ByteArray)).size+eF.size)=False);simp only[ByteArray.size_append]at h_;exact h_
    try have aqV:(9223372036854775807<((dX++(⟨#[58]⟩:ByteArray))++(⟨#[32]⟩:ByteArray)).size+eF.size)=False:=eq_false (Nat.not_lt.2 c14)
    have H':=ak H;clear H;have z15:=AL rU.out;go_wp2;go_meet
    case rel=>exact⟨_,_,_,rs,rs,H',⟨Jp⟩,⟨ur Oq.out⟩,⟨ub rU.out⟩,⟨bb⟩⟩
  case rest=>
   clear HC5;try clear c4
   try clear qW
   try clear YF
   try clear aqR
   obtain⟨kq,anA,WT,rfl,rfl,HA,HJ4,oz,rU,HB⟩:=hcut
   cases kq with
   |zero=>exact zz HA.out
   |succ kj4=>
    obtain⟨H⟩:=HA;simp only[fJ.j0]at H;have H':=ak H;clear H;go_wp2;go_loopg [3,4,5] kj4 (fun kq v3 v4 v5 w'=>∃(kW:List ByteArray) (nZ:ByteArray) (sD:Int),v4= .string nZ∧v5= .int .i64 sD∧ah (fJ.l0 kq kW nZ sD=some r)∧ah (kq≤kj4)∧ah (Kd.R Kd.string 9 w' w.heap.size (fun _=>True) v3 kW)∧ah (w'.heap[TD]? =some (.cells #[.string dX, .string eF] 69 (0,0)))∧ah (Below w.heap.size w w'))
    case atStart=>exact⟨_,_,_,rs,rs,H',⟨Nat.le_refl _⟩,⟨ur oz.out⟩,⟨ub rU.out⟩,⟨bb⟩⟩
    case round=>
     clear H';try clear c4
     try clear qW
     try clear YF
     try clear aqR
     obtain⟨kW,nZ,sD,rfl,rfl,HA,HK2,oz,rU,HB⟩:=hrel
     cases gk with
     |zero=>exact zz HA.out
     |succ k2=>
      obtain⟨H⟩:=HA;simp only[fJ.l0]at H;replace H:=sp H;rcases H with⟨c16,H⟩|⟨c16,H⟩
      ·have AA:decide (40<(nZ.size:Int))=true:=decide_eq_true c16;have J4:decide (40<nZ.size)=true:=decide_eq_true (by omega);clear c16;replace H:=bd H;obtain⟨Qr,A17,H⟩:=H;replace H:=sd H;rcases H with⟨vY,H⟩|⟨vY,H⟩
       ·replace H:=nl H;obtain⟨aeu,H⟩:=H;obtain⟨aFB,aj7⟩:=nm (kW++[nZ]);rw[←aj7.out]at H;obtain rfl:=s1 H;go_wp2_with (first|(refine gA Tryz.func176 (dY.calls A17.out) ?_;intro nd)|((with_reducible refine dO (b:= .append) (xs:=#[.tmp 44, .tmp 46]) rfl ?_);at_builtin;refine Kd.oI Kd.string (w0:=w) w.heap.size rfl (.tmp 44) (.tmp 46) 23 9 (.string ⟨#[]⟩) 16 rfl Tryz.underlying23 info9 rfl (by decide) (by omega) u3 kW nZ [.string nZ] (fun _=>True) (fun _=>False) rfl rfl ?aP (fun _ hk=>hk.elim) ?aF ?aO ?aB ?aS ?aL ?_;(case aP=>exact rfl);(case aB=>exact bb);(case aF=>exact(fun _ _=>trivial));(case aO=>exact(ur oz.out));(case aS=>exact(aj bb));(case aL=>have:=aeu.out;omega);intro aFC w20 ho hb hg hat;rw[←aj7.out]at ho;have aqW:=ak (ho);replace rU:=ak (b_ (g:=TD) (o:= .cells #[.string dX, .string eF] 69 (0,0)) (ub rU.out) hg (Kd.oH oz.out rU.out (by decide)));replace HB:=ak (hb);clear ho hb hg hat oz))
        go_ret;exact⟨_,er,ur aqW.out,bb⟩
       ·replace H:=AY H;obtain⟨Fb,aj8,H⟩:=H;replace H:=AY H;obtain⟨FZ,aax,H⟩:=H;replace H:=nl H;obtain⟨aev,H⟩:=H;obtain⟨aFD,aj9⟩:=nm (kW++[nZ.extract 0 (Qr:Int).toNat]);rw[←aj9.out]at H;have Ot:=eq_true (of_decide_eq_true (by assumption):0≤Qr);have Qs:=eq_true (of_decide_eq_true (by assumption):Qr≤(nZ.size:Int));have H':=ak H;clear H;go_wp2_with (first|(refine gA Tryz.func176 (dY.calls A17.out) ?_;intro nd)|((with_reducible refine dO (b:= .append) (xs:=#[.tmp 35, .tmp 39]) rfl ?_);at_builtin;refine Kd.oI Kd.string (w0:=w) w.heap.size rfl (.tmp 35) (.tmp 39) 23 9 (.string ⟨#[]⟩) 16 rfl Tryz.underlying23 info9 rfl (by decide) (by omega) u3 kW (nZ.extract 0 (Qr:Int).toNat) [.string (nZ.extract 0 (Qr:Int).toNat)] (fun _=>True) (fun _=>False) rfl rfl ?aP (fun _ hk=>hk.elim) ?aF ?aO ?aB ?aS ?aL ?_;(case aP=>exact rfl);(case aB=>exact bb);(case aF=>exact(fun _ _=>trivial));(case aO=>exact(ur oz.out));(case aS=>exact(aj bb));(case aL=>have:=aev.out;omega);intro aFE w26 ho hb hg hat;rw[←aj9.out]at ho;have aqX:=ak (ho);replace rU:=ak (b_ (g:=TD) (o:= .cells #[.string dX, .string eF] 69 (0,0)) (ub rU.out) hg (Kd.oH oz.out rU.out (by decide)));replace HB:=ak (hb);clear ho hb hg hat oz))
        go_roundg k2
        case measure=>exact kl
        case rel=>exact⟨_,_,_,rs,rs,H',⟨kl⟩,⟨ur aqX.out⟩,⟨ub rU.out⟩,⟨bb⟩⟩
      ·have AA:decide (40<(nZ.size:Int))=false:=decide_eq_false c16;have J4:decide (40<nZ.size)=false:=decide_eq_false (by omega);clear c16;replace H:=nl H;obtain⟨aew,H⟩:=H;obtain⟨aFF,aj_⟩:=nm (kW++[nZ]);rw[←aj_.out]at H;obtain rfl:=s1 H;go_wp2_with ((with_reducible refine dO (b:= .append) (xs:=#[.tmp 44, .tmp 46]) rfl ?_);at_builtin;refine Kd.oI Kd.string (w0:=w) w.heap.size rfl (.tmp 44) (.tmp 46) 23 9 (.string ⟨#[]⟩) 16 rfl Tryz.underlying23 info9 rfl (by decide) (by omega) u3 kW nZ [.string nZ] (fun _=>True) (fun _=>False) rfl rfl ?aP (fun _ hk=>hk.elim) ?aF ?aO ?aB ?aS ?aL ?_;(case aP=>exact rfl);(case aB=>exact bb);(case aF=>exact(fun _ _=>trivial));(case aO=>exact(ur oz.out));(case aS=>exact(aj bb));(case aL=>have:=aew.out;omega);intro aFG w28 ho hb hg hat;rw[←aj_.out]at ho;have aqY:=ak (ho);replace rU:=ak (b_ (g:=TD) (o:= .cells #[.string dX, .string eF] 69 (0,0)) (ub rU.out) hg (Kd.oH oz.out rU.out (by decide)));replace HB:=ak (hb);clear ho hb hg hat oz)
       go_ret;exact⟨_,er,ur aqY.out,bb⟩
 ·obtain rfl:=s1 H;go_enter Tryz.func153,Tryz.ntmps153;go_wp2_with (first|(refine bX HB 1 #[.string dX, .string eF] 69 ?_;intro TD w29 rU aqS hb;replace HB:=bs HB hb;clear hb)|(refine Hy 7 Kd.string 9 aj6 ?_;intro aqT w30 aqZ hb;have Oq:=ak (Kd.aA aqZ (aj bb));replace rU:=kb rU hb;replace HB:=bz HB hb;clear hb aqZ;have z32:=AL rU.out)|(refine gB Tryz.func158 (iY.calls A2.out) ?_;intro w33 hb;replace Oq:=rb Oq hb;replace rU:=kb rU hb;replace HB:=bz HB hb;clear hb))
  go_ret;exact⟨_,er,ur Oq.out,bb⟩
def iM.l0:Nat→List (gK)→List ByteArray→Int→Option (List ByteArray×Bool)
 |0,_,_,_=>none
 |k+1,x0,x4,x5=>if x5<(x0.length:Int)then(if 0≤x5 then((fJ.f k ((eU x0 x5).f0) ((eU x0 x5).f1)).bind fun acU=>(if x4.length+acU.length<8796093022208 then(iM.l0 k x0 (x4++acU) (wrap64 (x5+1)))else(none)))else(none))else(some (x4,true))
def iM.f (k:Nat) (l0:List (gK)):Option (List ByteArray×Bool):=(some (([]:List ByteArray):List ByteArray)).bind fun anC=>((fO.f k l0).bind fun aq0=>(if aq0=true then(iM.l0 k l0 anC 0)else(some (anC,false))))
theorem iM.calls {k c0:Nat} {A0:Option Addr} {l0:List (gK)} {r1:List ByteArray} {r2:Bool} {w:World} (hr0:Kd.C qy w A0 l0.length l0) (hc0:l0.length≤c0) (h:iM.f k l0=some (r1,r2)):
  Calls Tryz.prog 107 #[.slice A0 l0.length c0] w fun e w'=>∃oD:Value,e= .returned (.tuple #[oD, .bool r2])∧Kd.R Kd.string 9 w' w.heap.size (fun _=>True) oD r1∧Below w.heap.size w w':=by
 have EC:=Tryz.underlying69;have HR0:=ak hr0;have yF:=ak hc0;clear hr0 hc0;have HB:=ak (Below.refl w.heap.size w);unfold iM.f at h;have H:=h;clear h;replace H:=ny H;obtain⟨anC,akb,H⟩:=H;replace H:=bd H;obtain⟨aq0,A2,H⟩:=H;replace H:=sb H;rcases H with⟨rfl,H⟩|⟨rfl,H⟩
 ·have H':=ak H;clear H;go_enter Tryz.func107,Tryz.ntmps107;go_wp2_with (first|(refine Hy 6 Kd.string 9 akb ?_;intro azB w4 ho5 hb;have Qu:=ak (Kd.aA ho5 (aj (ul HB.out)));replace HB:=bs HB hb;clear hb ho5)|(refine gB Tryz.func113 (fO.calls (cu (Kd.aX HR0.out HB.out)) yF.out A2.out) ?_;intro w6 hb;replace Qu:=rb Qu hb;replace HB:=bs HB hb;clear hb))
  go_loopg [4,5] k (fun kq v4 v5 w'=>∃(eu:List ByteArray) (dK:Int),v5= .int .i64 dK∧ah (iM.l0 kq l0 eu dK=some (r1,r2))∧ah (kq≤k)∧ah (Kd.R Kd.string 9 w' w.heap.size (fun _=>True) v4 eu)∧ah (Below w.heap.size w w'))
  case atStart=>exact⟨_,_,rs,H',⟨Nat.le_refl _⟩,⟨ur Qu.out⟩,⟨ul HB.out⟩⟩
  case round=>
   clear H';obtain⟨eu,dK,rfl,HA,yH,fP,HB⟩:=hrel
   cases gk with
   |zero=>exact zz HA.out
   |succ k1=>
    obtain⟨H⟩:=HA;simp only[iM.l0]at H;replace H:=sd H;rcases H with⟨qO,H⟩|⟨qO,H⟩
    ·replace H:=nS H;obtain⟨tK,H⟩:=H;replace H:=bd H;obtain⟨acU,A9,H⟩:=H;replace H:=nl H;obtain⟨WU,H⟩:=H;obtain⟨aFH,akc⟩:=nm (eu++acU);rw[←akc.out]at H;have H':=ak H;clear H;have anD:=zi dK;have anE:=zj dK l0.length;obtain⟨aCI,azC,aay,aaz⟩:=qN HR0.out dK anD anE;cases azC;replace aay:=cl HB.out aay;replace aaz:=cl HB.out aaz;replace anD:=eq_true anD;replace anE:=eq_true anE;go_wp2_with (first|(refine gV Tryz.func153 (fJ.calls A9.out) ?_;rintro aFI WI ⟨ho0,hb⟩;have WV:=ak (Kd.aA (Kd.eX ho0 (Kd.jw (ur fP.out))) (aj (ul HB.out)));replace fP:=ak (Kd.bW (ur fP.out) (Kd.dw ho0) hb);replace HB:=bs HB hb;clear hb;(try clear ho0);obtain⟨Yr,JQ,UH⟩:=Kd.aI WV.out;subst UH)|((with_reducible refine dO (b:= .append) (xs:=#[.tmp 17, .tmp 22]) rfl ?_);at_builtin;refine Kd.qj Kd.string (w0:=w) w.heap.size rfl (.tmp 17) (.tmp 22) 23 9 (.string ⟨#[]⟩) 16 rfl Tryz.underlying23 info9 rfl (by decide) (by omega) u4 eu acU _ _ _ (fun k_=>some k_≠(.slice Yr acU.length JQ:Value).ownBlock) (fun _=>False) rfl rfl ?aO ?aR (fun _ _ h=>h) (fun _ h=>h.elim) ?aF ?aB ?aS ?aL ?_;(case aR=>repeat(first|exact(Kd.ay WV.out).2.2|(with_reducible refine Kd.ji ?_ _)|(with_reducible refine Kd.jk ?_ _)|(with_reducible refine Kd.kM ?_)));(case aB=>exact(ul HB.out));(case aF=>exact(fun k_ hk=>Kd.fresh' (Kd.jw (ur WV.out)) k_ hk));(case aO=>exact(ur (Kd.aQ fP.out (fun _ hk=>hk.2))));(case aS=>exact(aj (ul HB.out)));(case aL=>have:=WU.out;omega);intro aFJ w12 ho hb hg hat;rw[←akc.out]at ho;have aq1:=ak (ho);replace WV:=ak (Kd.AZ (ok:=(fun _=>True)) (ur WV.out) hg hat);replace HB:=ak (hb);clear ho hb hg hat fP))
     go_roundg k1
     case measure=>exact kl
     case rel=>exact⟨_,_,rs,H',⟨kl⟩,⟨ur (Kd.aQ aq1.out (fun _ hk=>trivial))⟩,⟨ul HB.out⟩⟩
    ·obtain⟨rfl,rfl⟩:=s2 H;go_wp2;go_ret2;exact⟨_,er,ur fP.out,ul HB.out⟩
 ·obtain⟨rfl,rfl⟩:=s2 H;go_enter Tryz.func107,Tryz.ntmps107;go_wp2_with (first|(refine Hy 6 Kd.string 9 akb ?_;intro azB UE O4 hb;have Qu:=ak (Kd.aA O4 (aj (ul HB.out)));replace HB:=bs HB hb;clear hb O4)|(refine gB Tryz.func113 (fO.calls (cu (Kd.aX HR0.out HB.out)) yF.out A2.out) ?_;intro w16 hb;replace Qu:=rb Qu hb;replace HB:=bs HB hb;clear hb))
  go_ret2;exact⟨_,er,ur Qu.out,ul HB.out⟩
def ig.f (a0:ByteArray):Option (ByteArray):=if a0.size≤140737488355328 then some (strOfNums ((bytesOf a0).map SQ))else none
set_option maxHeartbeats 1000000 in
set_option maxRecDepth 100000 in
theorem ig.calls {a0 r:ByteArray} {w:World} (h:ig.f a0=some r):
  Calls Tryz.prog 180 #[.string a0] w fun e w'=>e= .returned (.string r)∧Below w.heap.size w w':=by
 unfold ig.f at h;split at h
 ·rename_i hb
  injection h with h;subst h;have kb:=fun W=>Ou (P:=Tryz.prog) 9 22 5 Tryz.underlying9 Tryz.underlying22 Tryz.underlying5 a0 W
  go_enter Tryz.func180,Tryz.ntmps180;go_wp2;go_loopw [4] (fun i W=>∃k:Nat,k≤a0.size∧i= .int .i64 k∧Na w w.heap.size (FI (bytesOf a0) k) W) (fun i _=>a0.size-(intOf i).toNat)
  case atStart=>exact⟨0,Nat.zero_le _,rfl,by simpa [FI] using J5 w 5 a0⟩
  case round=>
   obtain⟨k,hk,rfl,hR⟩:=hrel;have HR:=ak hR;by_cases hlt:k<a0.size
   ·have hc:=hR.cell k (by rw[lV,bytesOf_length];exact hlt);have hf:=hR.free k (by rw[lV,bytesOf_length];exact hlt);rw[UR _ _ (by rw[bytesOf_length];exact hlt)]at hc;clear hR;have hr:=IW a0 k;have hs:=ak (TF (bytesOf a0) k (by rw[bytesOf_length];exact hlt));have hu:=ak (Nb (bytesOf a0) k (by rw[bytesOf_length];exact hlt))
    generalize (bytesOf a0).getD k 0=c at hc hr hs hu
    go_wp2
    ·go_roundw
     case rel=>exact⟨k+1,by omega,by go_num,by
      rw[hu.out,SQ,if_pos ⟨by omega,by omega⟩];exact HR.out.store (Nat.le_refl _) k (by rw[lV,bytesOf_length];exact hlt) _⟩
     case measure=>simp[intOf];omega
    ·go_roundw
     case rel=>exact⟨k+1,by omega,by go_num,by rw[hs.out (by omega)];exact HR.out⟩
     case measure=>simp[intOf];omega
    ·go_roundw
     case rel=>exact⟨k+1,by omega,by go_num,by rw[hs.out (by omega)];exact HR.out⟩
     case measure=>simp[intOf];omega
   ·clear hR
    have kd:=run_convert_bytes_arg (P:=Tryz.prog) wr 22 5 Tryz.underlying22 Tryz.underlying5 w.heap.size 0 a0.size (grownCap w a0.size 0 5) (FI (bytesOf a0) k) (by rw[lV,bytesOf_length]) (fun i hi=>by
     rw[Nat.zero_add];exact HR.out.cell i (by rw[lV,bytesOf_length];exact hi)) 9 Tryz.underlying9
    go_wp2;go_ret;have hk2:k=a0.size:=by omega
    exact⟨by rw[hk2,WW (bytesOf a0) a0.size (bytesOf_length a0)];rfl,HR.out.below⟩
 ·cases h
def qm.f (a0:ByteArray) (a1:ByteArray):Option (Bool):=(ig.f a0).bind fun aq2=>((ig.f a1).bind fun aq3=>(some (aq2.toList==aq3.toList)))
theorem qm.calls {a0 a1:ByteArray} {r:Bool} {w:World} (h:qm.f a0 a1=some r):
  Calls Tryz.prog 197 #[.string a0, .string a1] w fun e w'=>e= .returned (.bool r)∧Below w.heap.size w w':=by
 have HB:=ak (Below.refl w.heap.size w);unfold qm.f at h;have H:=h;clear h;replace H:=bd H;obtain⟨aq2,A3,H⟩:=H;replace H:=bd H;obtain⟨aq3,A4,H⟩:=H;obtain rfl:=s1 H;go_enter Tryz.func197,Tryz.ntmps197;go_wp2_with (first|(refine gB Tryz.func180 (ig.calls A3.out) ?_;intro w5 hb;replace HB:=bs HB hb;clear hb)|(refine gB Tryz.func180 (ig.calls A4.out) ?_;intro w6 hb;replace HB:=bs HB hb;clear hb))
 go_ret;exact⟨er,ul HB.out⟩
end Go.Proofs.YtncdadcmghglkaaGreatDoor.PFnKidLines
