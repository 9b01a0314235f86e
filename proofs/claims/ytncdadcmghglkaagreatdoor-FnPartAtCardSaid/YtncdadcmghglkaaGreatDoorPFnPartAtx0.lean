/- Printed walks; conditions: those in each statement. -/
import Derived.Test.YtncdadcmghglkaaGreatDoorVFnPartAtQt
import Derived.Test.YtncdadcmghglkaaGreatDoorProg
import Derived.Test.YtncdadcmghglkaaGreatDoorVFnPartAtXt
import Derived.Below
import Derived.Deep.Draws
import Derived.Deep.AppendLies
import Derived.Maps.AppendAt
import Derived.OwnWalk
import Derived.Laws.BytesArg
import Derived.Laws.MakeOwn
import Derived.Laws.OwnMore
import Derived.Deep.OwnRows
import Derived.Tactics
import Derived.Lib.ConvBytes
import Derived.Lib.SliceRun
import Derived.Laws.Slices
import Derived.WalkKit
import Derived.KernelRfl
import Derived.RowKit3
import Derived.Deep.LoopGhost
import Derived.Deep.QuietTactic
import Derived.BigQuiet
import Derived.WideLaws
import Derived.Deep.DeepCutAuto
import Derived.Deep.CutBlock
import Derived.Deep.RegionHeld3
import Derived.Laws.Rows
import Derived.Lib.AppendStr
import Derived.ArgAppend
import Derived.Laws.IdiomCopy
import Derived.OrdersHeld
import Derived.Laws.BitsLemmas
import Derived.RowKit
import Derived.Test.YtncdadcmghglkaaGreatDoorMx
import Derived.Test.YtncdadcmghglkaaGreatDoorVFnPartAtWords
import Derived.Test.YtncdadcmghglkaaGreatDoorVFnPartAtLast
import Derived.Test.YtncdadcmghglkaaGreatDoorVFnPartAtTab
import Derived.Test.YtncdadcmghglkaaGreatDoorVFnPartAtApart
import Derived.Test.YtncdadcmghglkaaGreatDoorVFnPartAtFoot
import Derived.Test.YtncdadcmghglkaaGreatDoorVFnPartAtKept
import Derived.Test.YtncdadcmghglkaaGreatDoorVFnPartAtShare
import Derived.Test.YtncdadcmghglkaaGreatDoorVFnPartAtN
import Derived.Test.YtncdadcmghglkaaGreatDoorVFnPartAtEqStruct
import Derived.Test.YtncdadcmghglkaaGreatDoorVFnPartAtRepsOne
import Derived.Test.YtncdadcmghglkaaGreatDoorVFnPartAtInv
import Derived.Test.YtncdadcmghglkaaGreatDoorVFnPartAtGuard
import Derived.Test.YtncdadcmghglkaaGreatDoorVFnPartAtMore
import Derived.Test.YtncdadcmghglkaaGreatDoorVFnPartAtYt
-- dense
-- sq
-- sq2
-- short
namespace Go.Proofs.YtncdadcmghglkaaGreatDoor.PFnPartAt
open Go.RowKit Go.Proofs.YtncdadcmghglkaaGreatDoor.X Go.Proofs.YtncdadcmghglkaaGreatDoorW.bQ Go.Proofs.YtncdadcmghglkaaGreatDoorW.jm Go.Proofs.YtncdadcmghglkaaGreatDoorW.kD
attribute [local go_sem] pV pW sK sN nI nJ pX pY   -- for this text's walks alone
set_option linter.unusedVariables false
set_option linter.unusedSimpArgs false
def ava:Option Int→Value
 |none=> .nilIface
 |some c=> .iface 0 (.int .i64 c)
theorem zF:ava none= .nilIface:=rfl
theorem zG (c:Int):ava (some c)= .iface 0 (.int .i64 c):=rfl
theorem info3:(Tryz.prog.info? 3).map (fun i=>(i.zero,i.size,i.bytes))=some (some (.int .i64 0),1,8):=by kernel_rfl
theorem info5:(Tryz.prog.info? 5).map (fun i=>(i.zero,i.size,i.bytes))=some (some (.int .u8 0),1,1):=by kernel_rfl
theorem info9:(Tryz.prog.info? 9).map (fun i=>(i.zero,i.size,i.bytes))=some (some (.string ⟨#[]⟩),1,16):=by kernel_rfl
theorem info23:(Tryz.prog.info? 23).map (fun i=>(i.zero,i.size,i.bytes))=some (some (.slice none 0 0),1,24):=by kernel_rfl
theorem Ua:(Tryz.prog.info? 28).map (fun i=>(i.zero,i.size,i.bytes))=some (some (.agg #[(.slice none 0 0),(.slice none 0 0),(.slice none 0 0)]),3,72):=by kernel_rfl
theorem DX:(Tryz.prog.info? 69).map (fun i=>(i.zero,i.size,i.bytes))=some (some (.agg #[(.string ⟨#[]⟩),(.string ⟨#[]⟩)]),2,32):=by kernel_rfl
-- the values' own types
/-! #### struct type 69 -/
structure fP where
 f0:ByteArray
 f1:ByteArray
def z69:fP:=⟨(⟨#[]⟩:ByteArray),(⟨#[]⟩:ByteArray)⟩
def ou:Kd fP:=Kd.iso (Kd.pair Kd.string Kd.string) (fun x:fP=>(x.f0,x.f1))
theorem aad:Kd.Heap ou:=Kd.aae _ (Kd.P7 Kd.EU Kd.EU)
theorem ah8 {w:World} {x:fP} {cs:List Value} (h:ou.K w x cs):cs=[.string x.f0, .string x.f1]:=by
 obtain⟨_,_,rfl,rfl,rfl⟩:=h;exact rfl
theorem arM (w:World) (x:fP):ou.K w x [.string x.f0, .string x.f1]:=⟨[.string x.f0],[.string x.f1],rfl,rfl,rfl⟩
theorem y5 (w:World) (base:Nat) (ok:Nat→Prop) (x:fP):ou.M w base ok x [.string x.f0, .string x.f1]:=⟨[.string x.f0],[.string x.f1],rfl,rfl,rfl⟩
theorem aCS (W:World) (ok:Nat→Prop) (x:fP):Kd.FK ou W ok x [.string x.f0, .string x.f1]:=fun W2 _=>arM W2 x
def dU (xs:List fP) (i:Int):fP:=xs.getD i.toNat z69
theorem qW {w:World} {A:Option Addr} {n:Nat} {xs:List fP} (h:Kd.C ou w A n xs) (i:Int) (h0:0≤i) (h1:i<n):∃ad,A=some ad∧w.cell? (ad.add (i.toNat*2))=some (.string (dU xs i).f0)∧w.cell? ⟨(ad.add (i.toNat*2)).block,(ad.add (i.toNat*2)).off+1,none⟩=some (.string (dU xs i).f1):=by
 obtain⟨ad,c,e,_,hK,hc0⟩:=Kd.WL h z69 i h0 h1;have hc:∀j u,c[j]? =some u→w.cell? (ad.add (i.toNat*2+j))=some u:=hc0;obtain rfl:=ah8 hK;exact⟨ad,e,hc 0 _ rfl,by rw[←Bg _ _ 1 (by omega)];exact hc 1 _ rfl⟩
def aHD (xs:List (List fP)) (i:Int):(List fP):=xs.getD i.toNat ([]:List fP)
def Ba (xs:List (List ByteArray)) (i:Int):(List ByteArray):=xs.getD i.toNat ([]:List ByteArray)
theorem MW {w:World} {A:Option Addr} {n:Nat} {xs:List (List ByteArray)} (h:Kd.C (Kd.slice 9 Kd.string) w A n xs) (i:Int) (h0:0≤i) (h1:i<n):∃ad A0 c0,A=some ad∧w.cell? (ad.add i.toNat)=some (.slice A0 (Ba xs i).length c0)∧(Ba xs i).length≤c0∧Kd.string.C w A0 (Ba xs i).length (Ba xs i):=by
 obtain⟨ad,c,e,_,hK,hc0⟩:=Kd.WL h ([]:List ByteArray) i h0 h1;have hc:∀j u,c[j]? =some u→w.cell? (ad.add (i.toNat*1+j))=some u:=hc0;obtain⟨A0,c0,rfl,l0,g0⟩:=hK;exact⟨ad,A0,c0,e,by have hq:=hc 0 _ rfl;rwa [Nat.mul_one,Nat.add_zero]at hq,l0,g0⟩
/-! #### struct type 28, nested in itself -/
structure jV where
 f0:(List fP)
 f1:(List ByteArray)
 f2:(List jV)
def z28:jV:=⟨([]:List fP),([]:List ByteArray),([]:List jV)⟩
def F28 (d:Kd jV):Kd jV:=Kd.iso (Kd.pair (Kd.slice 69 ou) (Kd.pair (Kd.slice 9 Kd.string) (Kd.slice 28 d))) (fun x:jV=>(x.f0,x.f1,x.f2))
theorem X6:Kd.IG F28:=Kd.ah9 _ (Kd.WM (Kd.Ub _) (Kd.WM (Kd.Ub _) (Kd.abV 28 Kd.amo)))
theorem avb:Kd.Sub F28 [9,28,69]:=Kd.amq _ (Kd.aaf (Kd.sub_const _ (by decide)) (Kd.aaf (Kd.sub_const _ (by decide)) (Kd.agV 28 (by decide) Kd.arN)))
theorem arO:∀n,(Kd.upto F28 3 [9,28,69] n).sz=3:=Kd.amr (fun _=>rfl)
def k28:Kd jV:=Kd.fix F28 3 [9,28,69] arO (Kd.ah_ avb)
theorem aia:Kd.Heap k28:=Kd.aib (fun _ h_=>Kd.aae _ (Kd.P7 (Kd.Lm 69 aad) (Kd.P7 (Kd.Lm 9 Kd.EU) (Kd.Lm 28 h_))))
theorem IX {w:World} {x:jV} {cs:List Value} (h:k28.K w x cs):∃A0 c0 A1 c1 A2 c2,cs=[.slice A0 x.f0.length c0, .slice A1 x.f1.length c1, .slice A2 x.f2.length c2]∧x.f0.length≤c0∧ou.C w A0 x.f0.length x.f0∧x.f1.length≤c1∧Kd.string.C w A1 x.f1.length x.f1∧x.f2.length≤c2∧k28.C w A2 x.f2.length x.f2:=by
 obtain⟨n,h⟩:=h
 cases n with
 |zero=>exact h.elim
 |succ n=>
  obtain⟨_,_,rfl,⟨A0,c0,rfl,l0,g0⟩,⟨_,_,rfl,⟨A1,c1,rfl,l1,g1⟩,⟨A2,c2,rfl,l2,g2⟩⟩⟩:=h;exact⟨A0,c0,A1,c1,A2,c2,rfl,l0,g0,l1,g1,l2,Kd.avc g2⟩
theorem arP (w:World) (x:jV) {A0:Option Addr} {c0:Nat} (l0:x.f0.length≤c0) (g0:ou.C w A0 x.f0.length x.f0) {A1:Option Addr} {c1:Nat} (l1:x.f1.length≤c1) (g1:Kd.string.C w A1 x.f1.length x.f1) {A2:Option Addr} {c2:Nat} (l2:x.f2.length≤c2) (g2:k28.C w A2 x.f2.length x.f2):k28.K w x [.slice A0 x.f0.length c0, .slice A1 x.f1.length c1, .slice A2 x.f2.length c2]:=by
 obtain⟨n2,q2⟩:=Kd.abW X6 g2;have r2:=Kd.agW X6 arO (show n2≤n2 by omega) q2;exact⟨n2+1,⟨[.slice A0 x.f0.length c0],[.slice A1 x.f1.length c1, .slice A2 x.f2.length c2],rfl,⟨A0,c0,rfl,l0,g0⟩,⟨[.slice A1 x.f1.length c1],[.slice A2 x.f2.length c2],rfl,⟨A1,c1,rfl,l1,g1⟩,⟨A2,c2,rfl,l2,r2⟩⟩⟩⟩
theorem MX (w:World) (base:Nat) (ok:Nat→Prop) (x:jV) {v0:Value} (g0:ou.R 69 w base ok v0 x.f0) {v1:Value} (g1:Kd.string.R 9 w base ok v1 x.f1) {v2:Value} (g2:k28.R 28 w base ok v2 x.f2):k28.M w base ok x [v0,v1,v2]:=by
 obtain⟨n2,q2⟩:=Kd.abX X6 g2;have r2:=Kd.agX X6 arO (show n2≤n2 by omega) q2;exact⟨n2+1,⟨[v0],[v1,v2],rfl,⟨v0,rfl,g0⟩,⟨[v1],[v2],rfl,⟨v1,rfl,g1⟩,⟨v2,rfl,r2⟩⟩⟩⟩
theorem WO {W:World} {ok:Nat→Prop} {x:jV} {cs:List Value} (h:Kd.FK k28 W ok x cs):∃A0 c0 A1 c1 A2 c2,cs=[.slice A0 x.f0.length c0, .slice A1 x.f1.length c1, .slice A2 x.f2.length c2]∧x.f0.length≤c0∧Kd.F ou W ok A0 x.f0.length x.f0∧x.f1.length≤c1∧Kd.F Kd.string W ok A1 x.f1.length x.f1∧x.f2.length≤c2∧Kd.F k28 W ok A2 x.f2.length x.f2:=by
 obtain⟨A0,c0,A1,c1,A2,c2,rfl,l0,_,l1,_,l2,_⟩:=IX (Kd.arQ h);exact⟨A0,c0,A1,c1,A2,c2,rfl,l0,(fun W' hW=>by obtain⟨A0_,c0_,A1_,c1_,A2_,c2_,he,l0_,g0_,l1_,g1_,l2_,g2_⟩:=IX (h W' hW);injection (Option.some.inj (show some (Value.slice A0 x.f0.length c0)=some (Value.slice A0_ x.f0.length c0_)from congrArg (fun l=>l[0]?) he))with ha_ _ _;rw[ha_];exact g0_),l1,(fun W' hW=>by obtain⟨A0_,c0_,A1_,c1_,A2_,c2_,he,l0_,g0_,l1_,g1_,l2_,g2_⟩:=IX (h W' hW);injection (Option.some.inj (show some (Value.slice A1 x.f1.length c1)=some (Value.slice A1_ x.f1.length c1_)from congrArg (fun l=>l[1]?) he))with ha_ _ _;rw[ha_];exact g1_),l2,(fun W' hW=>by obtain⟨A0_,c0_,A1_,c1_,A2_,c2_,he,l0_,g0_,l1_,g1_,l2_,g2_⟩:=IX (h W' hW);injection (Option.some.inj (show some (Value.slice A2 x.f2.length c2)=some (Value.slice A2_ x.f2.length c2_)from congrArg (fun l=>l[2]?) he))with ha_ _ _;rw[ha_];exact g2_)⟩
theorem aCT (W:World) (ok:Nat→Prop) (x:jV) {A0:Option Addr} {c0:Nat} (l0:x.f0.length≤c0) (g0:Kd.F ou W ok A0 x.f0.length x.f0) {A1:Option Addr} {c1:Nat} (l1:x.f1.length≤c1) (g1:Kd.F Kd.string W ok A1 x.f1.length x.f1) {A2:Option Addr} {c2:Nat} (l2:x.f2.length≤c2) (g2:Kd.F k28 W ok A2 x.f2.length x.f2):Kd.FK k28 W ok x [.slice A0 x.f0.length c0, .slice A1 x.f1.length c1, .slice A2 x.f2.length c2]:=fun W2 hW=>arP W2 x l0 (g0 W2 hW) l1 (g1 W2 hW) l2 (g2 W2 hW)
def au (xs:List jV) (i:Int):jV:=xs.getD i.toNat z28
theorem xM {w:World} {A:Option Addr} {n:Nat} {xs:List jV} (h:Kd.C k28 w A n xs) (i:Int) (h0:0≤i) (h1:i<n):∃ad A0 c0 A1 c1 A2 c2,A=some ad∧w.cell? (ad.add (i.toNat*3))=some (.slice A0 (au xs i).f0.length c0)∧w.cell? ⟨(ad.add (i.toNat*3)).block,(ad.add (i.toNat*3)).off+1,none⟩=some (.slice A1 (au xs i).f1.length c1)∧w.cell? ⟨(ad.add (i.toNat*3)).block,(ad.add (i.toNat*3)).off+2,none⟩=some (.slice A2 (au xs i).f2.length c2)∧(au xs i).f0.length≤c0∧ou.C w A0 (au xs i).f0.length (au xs i).f0∧(au xs i).f1.length≤c1∧Kd.string.C w A1 (au xs i).f1.length (au xs i).f1∧(au xs i).f2.length≤c2∧k28.C w A2 (au xs i).f2.length (au xs i).f2:=by
 obtain⟨ad,c,e,_,hK,hc0⟩:=Kd.WL h z28 i h0 h1;have hc:∀j u,c[j]? =some u→w.cell? (ad.add (i.toNat*3+j))=some u:=hc0;obtain⟨A0,c0,A1,c1,A2,c2,rfl,l0,g0,l1,g1,l2,g2⟩:=IX hK;exact⟨ad,A0,c0,A1,c1,A2,c2,e,hc 0 _ rfl,by rw[←Bg _ _ 1 (by omega)];exact hc 1 _ rfl,by rw[←Bg _ _ 2 (by omega)];exact hc 2 _ rfl,l0,g0,l1,g1,l2,g2⟩
theorem avd (d:Nat) (w:World) (x0 y0:ByteArray) (x1 y1:ByteArray):
  (Op.equalIn (d+2) 69 (.agg #[.string x0, .string x1]) (.agg #[.string y0, .string y1])).run Tryz.prog w= .ok (x0.toList==y0.toList&&(x1.toList==y1.toList)) w:=by
 refine arR Tryz.underlying69 (by kernel_rfl) ?_;refine aic (by rfl) (by go_simp;rfl) (by go_simp;rfl) (by go_simp) ?_;exact aie (by rfl) (by go_simp;rfl) (by go_simp;rfl) (by go_simp)
set_option maxHeartbeats 8000000
set_option maxRecDepth 100000
mutual
def iE.f:Nat→List (fP)→List ByteArray→List (jV)→Option ((List (fP))×List ByteArray×(List (jV)))
 |0,_,_,_=>none
 |k+1,bg,bf,aA=>(some (([]:List (fP)):List (fP))).bind fun Uc=>(if Uc.length+bg.length<4398046511104 then((some (([]:List ByteArray):List ByteArray)).bind fun Sr=>(if Sr.length+bf.length<8796093022208 then((gy.l0 k (([]:List (jV))) aA (aA.length:Int) 0).bind fun aag=>(some ((Uc++bg),(Sr++bf),aag)))else(none)))else(none))
def gy.l0:Nat→List (jV)→List (jV)→Int→Int→Option ((List (jV)))
 |0,_,_,_,_=>none
 |k+1,x3,x7,x8,x9=>if x9<x8 then(if 0≤x9 then(if x9<(x7.length:Int)then((iE.f k ((au x7 x9).f0) ((au x7 x9).f1) ((au x7 x9).f2)).bind fun aif=>(if x3.length<1954687338268 then(gy.l0 k (x3++[(⟨aif.1,aif.2.1,aif.2.2⟩:jV)]) x7 x8 (wrap64 (x9+1)))else(none)))else(none))else(none))else(some x3)
end
def gy.f (k:Nat) (l0:List (jV)):Option ((List (jV))):=gy.l0 k (([]:List (jV))) l0 (l0.length:Int) 0
theorem iE.abY (k:Nat) (bg:List (fP)) (bf:List ByteArray) (aA:List (jV)):iE.f (k+1) bg bf aA=((some (([]:List (fP)):List (fP))).bind fun Uc=>(if Uc.length+bg.length<4398046511104 then((some (([]:List ByteArray):List ByteArray)).bind fun Sr=>(if Sr.length+bf.length<8796093022208 then((gy.f k aA).bind fun aag=>(some ((Uc++bg),(Sr++bf),aag)))else(none)))else(none))):=by simp only[iE.f,gy.f]
theorem iE.pair (k:Nat):(∀(gQ:Option Addr) (gU:Nat) (bg:List (fP)) (f_:Option Addr) (gu:Nat) (bf:List ByteArray) (eP:Option Addr) (dI:Nat) (aA:List (jV)) (r1:List (fP)) (r2:List ByteArray) (r3:List (jV)) (w:World) (lI:Kd.C ou w gQ bg.length bg) (lJ:bg.length≤gU) (lK:Kd.C Kd.string w f_ bf.length bf) (lM:bf.length≤gu) (jF:Kd.C k28 w eP aA.length aA) (jG:aA.length≤dI) (h:iE.f k bg bf aA=some (r1,r2,r3)),
  Calls Tryz.prog 61 #[.agg #[.slice gQ bg.length gU, .slice f_ bf.length gu, .slice eP aA.length dI]] w fun e w'=>∃pO Bh DY:Value,e= .returned (.agg #[pO,Bh,DY])∧Kd.R ou 69 w' w.heap.size (fun _=>True) pO r1∧Kd.R Kd.string 9 w' w.heap.size (fun _=>True) Bh r2∧Kd.R k28 28 w' w.heap.size (fun k_=>some k_≠(pO:Value).ownBlock∧some k_≠(Bh:Value).ownBlock) DY r3∧Below w.heap.size w w')∧
  (∀(A0:Option Addr) (c0:Nat) (l0:List (jV)) (r:List (jV)) (w:World) (hr0:Kd.C k28 w A0 l0.length l0) (hc0:l0.length≤c0) (h:gy.f k l0=some r),
  Calls Tryz.prog 104 #[.slice A0 l0.length c0] w fun e w'=>∃pO:Value,e= .returned (pO)∧Kd.R k28 28 w' w.heap.size (fun _=>True) pO r∧Below w.heap.size w w'):=by
 induction k using Nat.strongRecOn with
 |_ k ih=>
 refine⟨?_,?_⟩
 ·cases k with
  |zero=>intro gQ gU bg f_ gu bf eP dI aA r1 r2 r3 w lI lJ lK lM jF jG h;exact absurd h (by simp[iE.f])
  |succ k=>
  have ihB:=(ih k (Nat.lt_succ_self k)).2;clear ih;intro gQ gU bg f_ gu bf eP dI aA r1 r2 r3 w lI lJ lK lM jF jG h;rw[iE.abY]at h;have Dq:=Tryz.underlying28;have pG:=ak lI;have qy:=ak lJ;clear lI lJ;have sD:=ak lK;have uV:=ak lM;clear lK lM;have jK:=ak jF;have mV:=ak jG;clear jF jG;have HB:=ak (Below.refl w.heap.size w);have H:((some (([]:List (fP)):List (fP))).bind fun Uc=>(if Uc.length+bg.length<4398046511104 then((some (([]:List ByteArray):List ByteArray)).bind fun Sr=>(if Sr.length+bf.length<8796093022208 then((gy.f k aA).bind fun aag=>(some ((Uc++bg),(Sr++bf),aag)))else(none)))else(none)))=some (r1,r2,r3):=h;clear h;replace H:=ny H;obtain⟨Uc,ave,H⟩:=H;replace H:=nl H;obtain⟨arS,H⟩:=H;obtain⟨aii,aoG⟩:=nm (Uc++bg);rw[←aoG.out]at H;replace H:=ny H;obtain⟨Sr,adU,H⟩:=H;replace H:=nl H;obtain⟨agY,H⟩:=H;obtain⟨ams,aah⟩:=nm (Sr++bf);rw[←aah.out]at H;replace H:=bd H;obtain⟨aag,A4,H⟩:=H;obtain⟨rfl,rfl,rfl⟩:=s3 H;go_enter Tryz.func61,Tryz.ntmps61;go_wp2_with (first|(refine bX HB 1 #[.slice gQ bg.length gU, .slice f_ bf.length gu, .slice eP aA.length dI] 28 ?_;intro aij w5 yT aHE hb;replace HB:=bs HB hb;clear hb)|(refine bY HB 2 #[.slice none 0 0, .slice none 0 0, .slice none 0 0] 28 ?_;intro adV w6 F8 aHF hg hb;have agZ:=yA yT hg;have ag0:=yB yT hg;replace yT:=kb yT hb;replace HB:=bz HB hb;clear hb hg)|(refine IY 3 ou 69 ave ?_;intro aEx w7 ho8 hb;have adW:=ak (Kd.aG ho8 (aj bb));replace yT:=kb yT hb;replace F8:=kb F8 hb;replace HB:=bz HB hb;clear hb ho8;have avf:=agZ.out;have avg:=ag0.out;have z10:=iQ yT.out)|((with_reducible refine dR (b:= .append) (xs:=#[.tmp 3, .tmp 5]) rfl ?_);at_builtin;refine Kd.pU ou (w0:=w) w.heap.size rfl (.tmp 3) (.tmp 5) 25 69 (.agg #[(.string ⟨#[]⟩),(.string ⟨#[]⟩)]) 32 rfl Tryz.underlying25 DX rfl (by decide) (by omega) aEx Uc bg _ _ _ (fun _=>True) (fun _=>False) rfl rfl ?aO ?aR (fun _ _ h=>h) (fun _ h=>h.elim) ?aF ?aB ?aS ?aL ?_;(case aR=>repeat(first|exact(Kd.aI pG.out HB.out)|(with_reducible refine Kd.mP ?_ _)|(with_reducible refine Kd.mQ ?_ _)|(with_reducible refine Kd.qE ?_)));(case aB=>exact bb);(case aF=>exact(fun _ _=>trivial));(case aO=>exact(ur adW.out));(case aS=>exact(aj bb));(case aL=>have:=arS.out;omega);intro aKO V6 ho hb hg hat;rw[←aoG.out]at ho;have Rj:=ak (ho);replace yT:=ak (bD (g:=aij) (o:= .cells #[.slice gQ bg.length gU, .slice f_ bf.length gu, .slice eP aA.length dI] 28 (0,0)) (ub yT.out) hg (Kd.pz adW.out yT.out (by decide)));replace F8:=ak (bD (g:=adV) (o:= .cells #[.slice none 0 0, .slice none 0 0, .slice none 0 0] 28 (0,0)) (ub F8.out) hg (Kd.pz adW.out F8.out (by decide)));replace HB:=ak (hb);clear ho hb hg hat adW;obtain⟨Ce,Bj,Ud⟩:=Kd.aH Rj.out;subst Ud;have z13:=iQ yT.out)|(refine IY 8 Kd.string 9 adU ?_;intro avh V3 Lp hb;have Ue:=ak (Kd.aG Lp (aj bb));replace Rj:=rg Rj hb;replace yT:=kp yT #[.slice Ce aii.length Bj, .slice f_ bf.length gu, .slice eP aA.length dI] hb;replace F8:=kp F8 #[.slice none 0 0, .slice none 0 0, .slice none 0 0] hb;replace HB:=bz HB hb;clear hb Lp;have z16:=iQ yT.out)|((with_reducible refine dR (b:= .append) (xs:=#[.tmp 8, .tmp 10]) rfl ?_);at_builtin;refine Kd.pU Kd.string (w0:=w) w.heap.size rfl (.tmp 8) (.tmp 10) 23 9 (.string ⟨#[]⟩) 16 rfl Tryz.underlying23 info9 rfl (by decide) (by omega) avh Sr bf _ _ _ (fun _=>True) (fun _=>False) rfl rfl ?aO ?aR (fun _ _ h=>h) (fun _ h=>h.elim) ?aF ?aB ?aS ?aL ?_;(case aR=>repeat(first|exact(Kd.aI sD.out HB.out)|(with_reducible refine Kd.mP ?_ _)|(with_reducible refine Kd.mQ ?_ _)|(with_reducible refine Kd.qE ?_)));(case aB=>exact bb);(case aF=>exact(fun _ _=>trivial));(case aO=>exact(ur Ue.out));(case aS=>exact(aj bb));(case aL=>have:=agY.out;omega);intro aEy w17 ho hb hg hat;rw[←aah.out]at ho;have WQ:=ak (ho);replace yT:=ak (bD (g:=aij) (o:= .cells #[.slice Ce aii.length Bj, .slice f_ bf.length gu, .slice eP aA.length dI] 28 (0,0)) (ub yT.out) hg (Kd.pz Ue.out yT.out (by decide)));replace F8:=ak (bD (g:=adV) (o:= .cells #[.slice none 0 0, .slice none 0 0, .slice none 0 0] 28 (0,0)) (ub F8.out) hg (Kd.pz Ue.out F8.out (by decide)));replace Rj:=ak (Kd.pq (ur Rj.out) (Kd.jE (ur Ue.out)) (by decide) hg);replace HB:=ak (hb);clear ho hb hg hat Ue;obtain⟨EM,EN,P8⟩:=Kd.aH WQ.out;subst P8;have z19:=iQ yT.out)|(refine gV Tryz.func104 (ihB _ _ aA aag _ (Kd.aI jK.out bb) mV.out A4.out) ?_;rintro aEz w20 ⟨ho0,hb⟩;have aik:=ak (Kd.aG (Kd.kN (Kd.kN (Kd.eU (Kd.eU ho0 (Kd.jM (rh Rj))) (Kd.jM (rh WQ))) (g:=aij) (o:= .cells #[.slice Ce aii.length Bj, .slice EM ams.length EN, .slice eP aA.length dI] 28 (0,0)) bq) (g:=adV) (o:= .cells #[.slice none 0 0, .slice none 0 0, .slice none 0 0] 28 (0,0)) bq) (aj bb));replace Rj:=rg Rj hb;replace WQ:=rg WQ hb;replace yT:=kp yT #[.slice Ce aii.length Bj, .slice EM ams.length EN, .slice eP aA.length dI] hb;replace F8:=kp F8 #[.slice none 0 0, .slice none 0 0, .slice none 0 0] hb;replace HB:=bz HB hb;clear hb;(try clear ho0);obtain⟨MZ,M_,X7⟩:=Kd.aH aik.out;subst X7;have z22:=iQ yT.out;have z23:=iQ F8.out))
  refine bodyPost_ret (results_cell_row rfl _ _ adV 28 #[.slice Ce aii.length Bj, .slice EM ams.length EN, .slice MZ aag.length M_] (0,0) _ rfl bq Tryz.underlying28 rfl (by kernel_rfl)) rfl ?_;exact⟨_,_,_,er,rr,rr,rr,bb⟩
 ·intro A0 c0 l0 r w hr0 hc0 h;have Dq:=Tryz.underlying28;have HR0:=ak hr0;have zH:=ak hc0;clear hr0 hc0;have HB:=ak (Below.refl w.heap.size w);have H:(gy.l0 k (([]:List (jV))) l0 (l0.length:Int) 0)=some r:=h;clear h;obtain⟨y101,aoH⟩:=nm ([]:List (jV));rw[←aoH.out]at H;have H':=ak H;clear H;go_enter Tryz.func104,Tryz.ntmps104;go_wp2_with (refine IY 6 k28 28 aoH ?_;intro aKP w2 ho3 hb;have avi:=ak (Kd.aG ho3 (aj (ul HB.out)));replace HB:=bs HB hb;clear hb ho3)
  go_loopg [3,9] k (fun kq v3 v9 w'=>∃(dV:List (jV)) (zV:Int),v9= .int .i64 zV∧ah (gy.l0 kq dV l0 (l0.length:Int) zV=some r)∧ah (kq≤k)∧ah (Kd.R k28 28 w' w.heap.size (fun _=>True) v3 dV)∧ah (Below w.heap.size w w'))
  case atStart=>exact⟨_,_,rs,H',⟨Nat.le_refl _⟩,⟨ur avi.out⟩,⟨ul HB.out⟩⟩
  case round=>
   clear H';obtain⟨dV,zV,rfl,HA,xK,qQ,HB⟩:=hrel
   cases gk with
   |zero=>exact zz HA.out
   |succ k1=>
    obtain⟨H⟩:=HA;simp only[gy.l0]at H;replace H:=sd H;rcases H with⟨rW,H⟩|⟨rW,H⟩
    ·replace H:=oL H;obtain⟨oz,H⟩:=H;replace H:=oL H;obtain⟨pF,H⟩:=H;replace H:=bd H;obtain⟨⟨ail,t109,aai⟩,A7,H⟩:=H
     (try dsimp only at H);replace H:=nl H;obtain⟨arT,H⟩:=H;obtain⟨y115,aoI⟩:=nm (dV++[(⟨ail,t109,aai⟩:jV)]);rw[←aoI.out]at H;have H':=ak H;clear H;have Uf:=zi zV;have Ug:=zj zV l0.length;obtain⟨aoJ,Lr,Ls,Lu,LC,LD,LG,ain,Ti,adX,adY,adZ,ad1,ad2,ad3,ad4,ad5⟩:=xM HR0.out zV Uf Ug;cases ain;replace Ti:=cl HB.out Ti;replace adX:=cl HB.out adX;replace adY:=cl HB.out adY;have amu:=ak ad1;have amv:=ak adZ;clear ad1 adZ;have amw:=ak ad3;have amx:=ak ad2;clear ad3 ad2;have amy:=ak ad5;have amA:=ak ad4;clear ad5 ad4;replace Uf:=eq_true Uf;replace Ug:=eq_true Ug;go_wp2_with (first|(refine bY HB 5 #[.slice none 0 0, .slice none 0 0, .slice none 0 0] 28 ?_;intro Ci w9 uX aio hg hb;replace qQ:=ak (Kd.nN (Kd.vF (ur qQ.out) Ci (Nat.le_of_eq hg.symm)) hb);replace HB:=bs HB hb;clear hb hg;have z10:=iQ uX.out)|(refine gL 61 15 Tryz.func61 #[.agg #[.slice Lr ((au l0 zV).f0).length Ls, .slice Lu ((au l0 zV).f1).length LC, .slice LD ((au l0 zV).f2).length LG]] ?_;(with_reducible refine((ih k1 (by have:=xK.out;omega)).1 _ _ ((au l0 zV).f0) _ _ ((au l0 zV).f1) _ _ ((au l0 zV).f2) ail t109 aai _ (Kd.aI amu.out bb) amv.out (Kd.aI amw.out bb) amx.out (Kd.aI amy.out bb) amA.out A7.out).mono ?_);rintro e V6 ⟨v107,aKQ,aKR,rfl,ho0,ho1,ho2,hb⟩;refine⟨_,rfl,?_⟩;have aip:=ak (Kd.aG ho0 (aj bb));have aiq:=ak (Kd.aG ho1 (aj bb));have air:=ak (Kd.aG (Kd.kN (Kd.eU ho2 (Kd.jM (ur (Kd.aW (Kd.ku (p:=⟨Ci,2,none⟩) (Kd.ku (p:=⟨Ci,1,none⟩) (Kd.ku (p:=⟨Ci,0,none⟩) (Kd.aW qQ.out (fun k_ hk=>(⟨hk,hk.2⟩:_∧k_≠Ci))) (fun _ hk=>hk.2) (.slice Lr ((au l0 zV).f0).length Ls)) (fun _ hk=>hk.2) (.slice Lu ((au l0 zV).f1).length LC)) (fun _ hk=>hk.2) (.slice LD ((au l0 zV).f2).length LG)) (fun _ h_=>h_.1))))) (g:=Ci) (o:= .cells #[.slice Lr ((au l0 zV).f0).length Ls, .slice Lu ((au l0 zV).f1).length LC, .slice LD ((au l0 zV).f2).length LG] 28 (0,0)) bq) (aj bb));replace qQ:=ak (Kd.aW (Kd.rX (Kd.rX (Kd.rX (Kd.aaj (ur (Kd.aW (Kd.ku (p:=⟨Ci,2,none⟩) (Kd.ku (p:=⟨Ci,1,none⟩) (Kd.ku (p:=⟨Ci,0,none⟩) (Kd.aW qQ.out (fun k_ hk=>(⟨hk,hk.2⟩:_∧k_≠Ci))) (fun _ hk=>hk.2) (.slice Lr ((au l0 zV).f0).length Ls)) (fun _ hk=>hk.2) (.slice Lu ((au l0 zV).f1).length LC)) (fun _ hk=>hk.2) (.slice LD ((au l0 zV).f2).length LG)) (fun _ h_=>h_.1))) hb) (Kd.bV ho0)) (Kd.bV ho1)) (Kd.bV ho2)) (fun _ h_=>h_.1));replace uX:=kp uX #[.slice Lr ((au l0 zV).f0).length Ls, .slice Lu ((au l0 zV).f1).length LC, .slice LD ((au l0 zV).f2).length LG] hb;replace HB:=bz HB hb;clear hb;(try clear ho0);(try clear ho1);(try clear ho2);obtain⟨FW,AY,Sv⟩:=Kd.aH aip.out;subst Sv;obtain⟨F9,Gf,V7⟩:=Kd.aH aiq.out;subst V7;obtain⟨FX,EO,Uh⟩:=Kd.aH air.out;subst Uh)|((with_reducible refine dR (b:= .append) (xs:=#[.tmp 13, .tmp 16]) rfl ?_);at_builtin;refine Kd.qX k28 (w0:=w) w.heap.size rfl (.tmp 13) (.tmp 16) 26 28 (.agg #[(.slice none 0 0),(.slice none 0 0),(.slice none 0 0)]) 72 rfl Tryz.underlying26 Ua rfl (by decide) (by omega) u3 dV (⟨ail,t109,aai⟩:jV) [.slice FW ail.length AY, .slice F9 t109.length Gf, .slice FX aai.length EO] (fun k_=>k_≠Ci) (fun k_=>((fun k_=>k_≠Ci)) k_∧some k_≠(u3:Value).ownBlock) rfl rfl ?aP (fun _ hk=>hk) ?aF ?aO ?aB ?aS ?aL ?_;(case aP=>exact MX _ _ _ (⟨ail,t109,aai⟩:jV) (Kd.aW (Kd.kC (Kd.oC (aip.out) (Kd.jE qQ.out) (by decide)) uX.out (by decide)) (fun k_ hk=>⟨hk.2,hk.1.2⟩)) (Kd.aW (Kd.kC (Kd.oC (aiq.out) (Kd.jE qQ.out) (by decide)) uX.out (by decide)) (fun k_ hk=>⟨hk.2,hk.1.2⟩)) (Kd.aW (air.out) (fun k_ hk=>⟨hk.2,hk.1.2⟩)));(case aB=>exact bb);(case aF=>exact(fun k_ hk=>Kd.xO (g:=Ci) (o:= .cells #[.slice Lr ((au l0 zV).f0).length Ls, .slice Lu ((au l0 zV).f1).length LC, .slice LD ((au l0 zV).f2).length LG] 28 (0,0)) (ub uX.out) k_ hk));(case aO=>exact(ur (Kd.aW qQ.out (fun _ hk=>hk.1.1.1.2))));(case aS=>exact(aj bb));(case aL=>have:=arT.out;omega);intro aKS w12 ho hb hg hat;rw[←aoI.out]at ho;have avj:=ak (ho);replace uX:=ak (bD (g:=Ci) (o:= .cells #[.slice Lr ((au l0 zV).f0).length Ls, .slice Lu ((au l0 zV).f1).length LC, .slice LD ((au l0 zV).f2).length LG] 28 (0,0)) (ub uX.out) hg (Kd.yP qQ.out (fun _ hk=>hk.1.1.1.2)));replace HB:=ak (hb);clear ho hb hg hat qQ aip aiq air))
     go_roundg k1
     case measure=>exact kl
     case rel=>exact⟨_,_,rs,H',⟨kl⟩,⟨ur (Kd.aW avj.out (fun _ hk=>trivial))⟩,⟨bb⟩⟩
    ·obtain rfl:=s1 H;go_wp2;go_ret;exact⟨_,er,ur qQ.out,ul HB.out⟩
theorem iE.calls {k gU gu dI:Nat} {gQ f_ eP:Option Addr} {bg r1:List (fP)} {bf r2:List ByteArray} {aA r3:List (jV)} {w:World} (lI:Kd.C ou w gQ bg.length bg) (lJ:bg.length≤gU) (lK:Kd.C Kd.string w f_ bf.length bf) (lM:bf.length≤gu) (jF:Kd.C k28 w eP aA.length aA) (jG:aA.length≤dI) (h:iE.f k bg bf aA=some (r1,r2,r3)):
  Calls Tryz.prog 61 #[.agg #[.slice gQ bg.length gU, .slice f_ bf.length gu, .slice eP aA.length dI]] w fun e w'=>∃pO Bh DY:Value,e= .returned (.agg #[pO,Bh,DY])∧Kd.R ou 69 w' w.heap.size (fun _=>True) pO r1∧Kd.R Kd.string 9 w' w.heap.size (fun _=>True) Bh r2∧Kd.R k28 28 w' w.heap.size (fun k_=>some k_≠(pO:Value).ownBlock∧some k_≠(Bh:Value).ownBlock) DY r3∧Below w.heap.size w w':=(iE.pair k).1 gQ gU bg f_ gu bf eP dI aA r1 r2 r3 w lI lJ lK lM jF jG h
theorem gy.calls {k c0:Nat} {A0:Option Addr} {l0 r:List (jV)} {w:World} (hr0:Kd.C k28 w A0 l0.length l0) (hc0:l0.length≤c0) (h:gy.f k l0=some r):
  Calls Tryz.prog 104 #[.slice A0 l0.length c0] w fun e w'=>∃pO:Value,e= .returned (pO)∧Kd.R k28 28 w' w.heap.size (fun _=>True) pO r∧Below w.heap.size w w':=(iE.pair k).2 A0 c0 l0 r w hr0 hc0 h
set_option maxHeartbeats 8000000
set_option maxRecDepth 100000
mutual
def dJ.l0:Nat→Int→List (fP)→List ByteArray→List (jV)→List (fP)→List ByteArray→List (jV)→Option ((List (fP))×List ByteArray×(List (jV)))
 |0,_,_,_,_,_,_,_=>none
 |k+1,x4,amB,amC,Na,ad6,ad7,X8=>if x4<(Na.length:Int)then(if 0≤x4 then((dJ.f k ((au Na x4).f0) ((au Na x4).f1) ((au Na x4).f2)).bind fun ais=>(if X8.length<1954687338268 then(dJ.l0 k (wrap64 (x4+1)) amB amC Na ad6 ad7 (X8++[(⟨ais.1,ais.2.1,ais.2.2⟩:jV)]))else(none)))else(none))else(some (ad6,ad7,X8))
def dJ.f:Nat→List (fP)→List ByteArray→List (jV)→Option ((List (fP))×List ByteArray×(List (jV)))
 |0,_,_,_=>none
 |k+1,bg,bf,aA=>(some (([]:List (fP)):List (fP))).bind fun ait=>(if ait.length+bg.length<4398046511104 then((some (([]:List ByteArray):List ByteArray)).bind fun aiu=>(if aiu.length+bf.length<8796093022208 then(dJ.l0 k 0 bg bf aA (ait++bg) (aiu++bf) ([]:List (jV)))else(none)))else(none))
end
def dJ.T1:Bool×List (List Nat×List Nat):=(true,[([],[]),([],[]),([1],[1]),([0,2],[0,2]),([],[]),([],[]),([5],[5]),([4,6,3],[4,6]),([3,7],[3,7]),([],[]),([9,8,7,0,1,2,3,4,5,6,7,8,9],[8,9])])
def dJ.B1:List Nat:=[0,0,2,7,0,0,32,127,255,0,1023]
theorem dJ.arU:wM .any (opsOf Tryz.f110 1)=dJ.T1:=by kernel_rfl
theorem dJ.aiv:sO dJ.T1.2 dJ.B1=true:=by kernel_rfl
def dJ.T5:Bool×List (List Nat×List Nat):=(true,[([],[]),([0],[0]),([],[]),([2],[2]),([],[]),([3,4],[3,4]),([5],[5]),([6],[6]),([7],[7]),([1,8,7],[1,8]),([0,1,2,3,4,5,6,7,8,9],[]),([10,9,9,0,1,2,3,4,5,6,7,8,9],[9,10])])
def dJ.B5:List Nat:=[0,1,0,4,0,28,60,124,252,511,1023,2047]
theorem dJ.arV:wM .any (opsOf Tryz.f110 5)=dJ.T5:=by kernel_rfl
theorem dJ.aiw:sO dJ.T5.2 dJ.B5=true:=by kernel_rfl
theorem dJ.calls (k:Nat):∀(gQ:Option Addr) (gU:Nat) (bg:List (fP)) (f_:Option Addr) (gu:Nat) (bf:List ByteArray) (eP:Option Addr) (dI:Nat) (aA:List (jV)) (r1:List (fP)) (r2:List ByteArray) (r3:List (jV)) (w:World) (lI:Kd.C ou w gQ bg.length bg) (lJ:bg.length≤gU) (lK:Kd.C Kd.string w f_ bf.length bf) (lM:bf.length≤gu) (jF:Kd.C k28 w eP aA.length aA) (jG:aA.length≤dI) (h:dJ.f k bg bf aA=some (r1,r2,r3)),
  Calls Tryz.prog 110 #[.agg #[.slice gQ bg.length gU, .slice f_ bf.length gu, .slice eP aA.length dI]] w fun e w'=>∃pO Bh DY:Value,e= .returned (.agg #[pO,Bh,DY])∧Kd.R ou 69 w' w.heap.size (fun _=>True) pO r1∧Kd.R Kd.string 9 w' w.heap.size (fun _=>True) Bh r2∧Kd.R k28 28 w' w.heap.size (fun k_=>some k_≠(pO:Value).ownBlock∧some k_≠(Bh:Value).ownBlock) DY r3∧Below w.heap.size w w':=by
 induction k using Nat.strongRecOn with
 |_ k ih=>
 intro gQ gU bg f_ gu bf eP dI aA r1 r2 r3 w lI lJ lK lM jF jG h
 cases k with
 |zero=>exact absurd h (by simp[dJ.f])
 |succ k=>
 simp only[dJ.f]at h;have Dq:=Tryz.underlying28;have pG:=ak lI;have qy:=ak lJ;clear lI lJ;have sD:=ak lK;have uV:=ak lM;clear lK lM;have jK:=ak jF;have mV:=ak jG;clear jF jG;have HB:=ak (Below.refl w.heap.size w);have H:=h;clear h;replace H:=ny H;obtain⟨ait,avk,H⟩:=H;replace H:=nl H;obtain⟨arS,H⟩:=H;obtain⟨LH,aoK⟩:=nm (ait++bg);rw[←aoK.out]at H;replace H:=ny H;obtain⟨aiu,avl,H⟩:=H;replace H:=nl H;obtain⟨agY,H⟩:=H;obtain⟨LJ,aoL⟩:=nm (aiu++bf);rw[←aoL.out]at H;have H':=ak H;clear H;go_enter Tryz.func110,Tryz.ntmps110;try go_wp2_with (first|(refine bX HB 1 #[.slice gQ bg.length gU, .slice f_ bf.length gu, .slice eP aA.length dI] 28 ?_;intro wH w4 kZ aHG hb;replace HB:=bs HB hb;clear hb)|(refine bY HB 2 #[.slice none 0 0, .slice none 0 0, .slice none 0 0] 28 ?_;intro EW w5 rJ aHH hg hb;have WR:=yA kZ hg;have WS:=yB kZ hg;replace kZ:=kb kZ hb;replace HB:=bz HB hb;clear hb hg))
 replace kZ:=ak (gZ kZ.out);replace rJ:=ak (gZ rJ.out);replace HB:=ak (gI HB.out);refine zZ (n:=11) (S:=fun w'=>w'.cell? ⟨wH,0,none⟩=some (.slice gQ bg.length gU)∧w'.cell? ⟨wH,1,none⟩=some (.slice f_ bf.length gu)∧w'.cell? ⟨wH,2,none⟩=some (.slice eP aA.length dI)) (ds:=[]) #[false,false,false,false,false,false,false,false,false,false,false] (by kernel_rfl) rfl rfl ⟨(ay kZ.out 0).trans rfl,(ay kZ.out 1).trans rfl,(ay kZ.out 2).trans rfl⟩ (fun hHeld=>?_);refine rM dJ.arU dJ.aiv (fun CY HW_=>?_)
 generalize w5.drew=w6 at kZ rJ HB hHeld⊢
 refine pl 1 ?_;refine pl 5 ?_;refine tk 2 ?_;refine tk 6 ?_;refine aak (σ:=Value×Value×Value×Value×Nat) 1 #[true,true,true,true,true,true,true,true,true,true,false] (fun s_=>[(5,s_.1),(8,s_.2.1),(9,s_.2.2.1),(12,s_.2.2.2.1),(3, .pointer (some ⟨s_.2.2.2.2,0,none⟩)),(13, .agg #[s_.2.1,s_.2.2.2.1, .slice none 0 0])]) (fun s_ w'=>(w'.cell? ⟨wH,0,none⟩=some (.slice gQ bg.length gU)∧w'.cell? ⟨wH,1,none⟩=some (.slice f_ bf.length gu)∧w'.cell? ⟨wH,2,none⟩=some (.slice eP aA.length dI))∧(Kd.R ou 69 w' w.heap.size (fun _=>True) s_.2.1 LH)∧(Kd.R Kd.string 9 w' w.heap.size (fun _=>True) s_.2.2.2.1 LJ)∧(w'.heap[wH]? =some (.cells #[.slice gQ bg.length gU, .slice f_ bf.length gu, .slice eP aA.length dI] 28 (0,0)))∧(w'.heap[EW]? =some (.cells #[.slice none 0 0, .slice none 0 0, .slice none 0 0] 28 (0,0)))∧(w'.heap[s_.2.2.2.2]? =some (.cells #[.slice none 0 0, .slice none 0 0, .slice none 0 0] 28 (0,0)))∧(w.heap.size≤s_.2.2.2.2)∧(w.heap.size≤s_.2.2.2.2)∧(wH≠s_.2.2.2.2)∧(s_.2.2.2.2≠wH)∧(EW≠s_.2.2.2.2)∧(s_.2.2.2.2≠EW)∧(Below w.heap.size w w')) ?_ ?_
 rotate_left
 ·intro hJ
  repeat' (first
   |(obtain⟨EM,EN,P8⟩:=Kd.aH Ig.out;obtain⟨Kz,IZ,aal⟩:=Kd.aH Ih.out;subst P8;subst aal;refine pl 8 ?_)
   |exact Bc (by first|(simp only[vG,Act.put,zW,zX,l_c];done)|(simp only[vG,Act.put,zW,zX,l_c];rfl)) (hJ (arW, .slice EM LH.length EN,arX, .slice Kz LJ.length IZ,tq) _ ⟨hHeld,Ig.out,Ih.out,kZ.out,rJ.out,nD.out,aix.out,aix.out,oU.out,zI.out,Bl.out,Bo.out,HB.out⟩)
   |((first|refine th3 0 4 9 ?_ ?_ ?_|refine th3 3 4 9 ?_ ?_ ?_|refine tw2 0 4 ?_ ?_|refine tw2 0 9 ?_ ?_|refine tw2 3 4 ?_ ?_|refine tw2 3 9 ?_ ?_|refine tw2 4 9 ?_ ?_|refine tw2 7 9 ?_ ?_|refine o1 0 ?_|refine o1 3 ?_|refine o1 4 ?_|refine o1 7 ?_|refine o1 9 ?_)<;>(intro K hK;first
    |(refine gn 3 ?_;refine DZ ?hg (N:=3) ?hd (cs:=#[.slice none 0 0, .slice none 0 0, .slice none 0 0]) (t:=28) ?hr ?_;(case hd=>rfl);(case hg=>rfl);(case hr=>first|(go_simp;done)|(go_simp;rfl));intro tq hg w_ hbox hb;have aix:=ge_ HB hg;have oU:=yA kZ hg;have zI:=yB kZ hg;have Bl:=yA rJ hg;have Bo:=yB rJ hg;(try replace D5:=rb D5 hb);(try replace Ig:=rb Ig hb);(try replace D6:=rb D6 hb);(try replace Ih:=rb Ih hb);replace kZ:=kb kZ hb;replace rJ:=kb rJ hb;replace HB:=bs HB hb;have nD:=ak hbox;clear hbox hb hg;refine hK.out _ _ sx (fun hHeld=>?_);clear hK K;refine nrm ?_)
    |(refine gn 5 ?_;refine Kd.qG ou _ 69 ?hg (N:=5) ?hd (xs:=([]:List fP)) (inner:=[]) (ok:=fun _=>True) (yC:=fun _=>True) ?hr ?hp (fun _ hk=>hk) trivial (Below.refl _ _) (Nat.le_refl _) (by simp) ?_;(case hd=>rfl);(case hg=>rfl);(case hr=>first|(go_simp;done)|(go_simp;rfl));(case hp=>exact(bZ.none _ _));intro arW w_ ho hb _ _;rw[←avk.out]at ho;replace ho:=Kd.aG ho (aj (ul HB.out));(try replace D5:=rb D5 hb);(try replace Ig:=rb Ig hb);(try replace D6:=rb D6 hb);(try replace Ih:=rb Ih hb);(try replace nD:=kb nD hb);replace kZ:=kb kZ hb;replace rJ:=kb rJ hb;replace HB:=bs HB hb;have D5:=ak ho;clear ho hb;refine hK.out _ _ sx (fun hHeld=>?_);clear hK K;refine nrm ?_)
    |(refine gn 9 ?_;refine Kd.qG Kd.string _ 9 ?hg (N:=9) ?hd (xs:=([]:List ByteArray)) (inner:=[]) (ok:=fun _=>True) (yC:=fun _=>True) ?hr ?hp (fun _ hk=>hk) trivial (Below.refl _ _) (Nat.le_refl _) (by simp) ?_;(case hd=>rfl);(case hg=>rfl);(case hr=>first|(go_simp;done)|(go_simp;rfl));(case hp=>exact(bZ.none _ _));intro arX w_ ho hb _ _;rw[←avl.out]at ho;replace ho:=Kd.aG ho (aj (ul HB.out));(try replace D5:=rb D5 hb);(try replace Ig:=rb Ig hb);(try replace D6:=rb D6 hb);(try replace Ih:=rb Ih hb);(try replace nD:=kb nD hb);replace kZ:=kb kZ hb;replace rJ:=kb rJ hb;replace HB:=bs HB hb;have D6:=ak ho;clear ho hb;refine hK.out _ _ sx (fun hHeld=>?_);clear hK K;refine nrm ?_)
    |(refine gn 8 ?_;refine Kd.oP ou (w0:=w) w.heap.size (by rfl) (.tmp 5) (.tmp 7) 25 69 (.agg #[(.string ⟨#[]⟩),(.string ⟨#[]⟩)]) 32 rfl Tryz.underlying25 DX rfl (by decide) (by omega) arW ait bg _ _ _ (fun _=>True) (fun _=>False) rfl rfl D5.out (Kd.aI pG.out HB.out) (fun _ _ h=>h) (fun _ h=>h.elim) (fun _ _=>trivial) HB.out (aj HB.out) (by have:=arS.out;omega) ?_;intro avm w_ ho hb hg hat;rw[←aoK.out]at ho;(try replace D6:=ak (Kd.pq D6.out (Kd.jE D5.out) (by decide) hg));(try replace Ih:=ak (Kd.pq Ih.out (Kd.jE D5.out) (by decide) hg));(try replace nD:=ak (bD nD.out hg (Kd.pz D5.out nD.out (by decide))));replace kZ:=ak (bD kZ.out hg (Kd.pz D5.out kZ.out (by decide)));replace rJ:=ak (bD rJ.out hg (Kd.pz D5.out rJ.out (by decide)));replace HB:=ak hb;have Ig:=ak ho;clear D5 ho hb hg hat;refine hK.out _ _ sx (fun hHeld=>?_);clear hK K;refine nrm ?_)
    |(refine gn 12 ?_;refine Kd.oP Kd.string (w0:=w) w.heap.size (by rfl) (.tmp 9) (.tmp 11) 23 9 (.string ⟨#[]⟩) 16 rfl Tryz.underlying23 info9 rfl (by decide) (by omega) arX aiu bf _ _ _ (fun _=>True) (fun _=>False) rfl rfl D6.out (Kd.aI sD.out HB.out) (fun _ _ h=>h) (fun _ h=>h.elim) (fun _ _=>trivial) HB.out (aj HB.out) (by have:=agY.out;omega) ?_;intro avn w_ ho hb hg hat;rw[←aoL.out]at ho;(try replace D5:=ak (Kd.pq D5.out (Kd.jE D6.out) (by decide) hg));(try replace Ig:=ak (Kd.pq Ig.out (Kd.jE D6.out) (by decide) hg));(try replace nD:=ak (bD nD.out hg (Kd.pz D6.out nD.out (by decide))));replace kZ:=ak (bD kZ.out hg (Kd.pz D6.out kZ.out (by decide)));replace rJ:=ak (bD rJ.out hg (Kd.pz D6.out rJ.out (by decide)));replace HB:=ak hb;have Ih:=ak ho;clear D6 ho hb hg hat;refine hK.out _ _ sx (fun hHeld=>?_);clear hK K;refine nrm ?_))))
 rintro⟨arW,avm,arX,avn,tq⟩ w16 ⟨hS_,h0_,h1_,h2_,h3_,h4_,h5_,h6_,h7_,h8_,h9_,Sz,X9⟩;have y9:ah (Kd.R ou 69 w16 w.heap.size (fun _=>True) avm LH):=⟨h0_⟩
 have zf:ah (Kd.R Kd.string 9 w16 w.heap.size (fun _=>True) avn LJ):=⟨h1_⟩
 have zY:ah (w16.heap[wH]? =some (.cells #[.slice gQ bg.length gU, .slice f_ bf.length gu, .slice eP aA.length dI] 28 (0,0))):=⟨h2_⟩
 have CP:ah (w16.heap[EW]? =some (.cells #[.slice none 0 0, .slice none 0 0, .slice none 0 0] 28 (0,0))):=⟨h3_⟩
 have F7:ah (w16.heap[tq]? =some (.cells #[.slice none 0 0, .slice none 0 0, .slice none 0 0] 28 (0,0))):=⟨h4_⟩
 have GZ:ah (w.heap.size≤tq):=⟨h5_⟩
 have IV:ah (w.heap.size≤tq):=⟨h6_⟩
 have MV:ah (wH≠tq):=⟨h7_⟩
 have WT:ah (tq≠wH):=⟨h8_⟩
 have n9_:ah (EW≠tq):=⟨h9_⟩
 have Nb:ah (tq≠EW):=⟨Sz⟩
 have aam:ah (Below w.heap.size w w16):=⟨X9⟩
 clear kZ rJ HB h0_ h1_ h2_ h3_ h4_ h5_ h6_ h7_ h8_ h9_ Sz X9;have Ig:=y9;have Ih:=zf;have kZ:=zY;have rJ:=CP;have nD:=F7;have aix:=GZ;have aHI:=IV;have oU:=MV;have zI:=WT;have Bl:=n9_;have Bo:=Nb;have HB:=aam;clear y9 zf zY CP F7 GZ IV MV WT n9_ Nb aam;have hHeld:w16.cell? ⟨wH,0,none⟩=some (.slice gQ bg.length gU)∧w16.cell? ⟨wH,1,none⟩=some (.slice f_ bf.length gu)∧w16.cell? ⟨wH,2,none⟩=some (.slice eP aA.length dI):=hS_;obtain⟨Kz,IZ,aal⟩:=Kd.aH Ih.out
 (first|subst aal|(injection aal with nO uy nP;have uz:=nO.symm;have uD:=nP.symm;clear nO uy nP;subst uz;subst uD));obtain⟨EM,EN,P8⟩:=Kd.aH Ig.out
 (first|subst P8|(injection P8 with nO uy nP;have uz:=nO.symm;have uD:=nP.symm;clear nO uy nP;subst uz;subst uD));refine Bc (a':=?_) ?_ ?_
 rotate_left
 ·simp only[vG,Act.put,zW,zX,l_c];rfl
 refine o1 10 (fun K hK=>?_);have aKT:w16.cell? ⟨tq,0,none⟩=some (.slice none 0 0):=(ay nD.out 0).trans rfl;have aHJ:=fK nD.out 0;have aCU:=oU.out;have aCV:=Bl.out;have aCW:=zI.out;have aCX:=Bo.out;have aKU:w16.cell? ⟨tq,1,none⟩=some (.slice none 0 0):=(ay nD.out 1).trans rfl;have aHK:=fK nD.out 1;have aCY:=oU.out;have aCZ:=Bl.out;have aC0:=zI.out;have aC1:=Bo.out;have aKV:w16.cell? ⟨tq,2,none⟩=some (.slice none 0 0):=(ay nD.out 2).trans rfl;have aHL:=fK nD.out 2;have aC2:=oU.out;have aC3:=Bl.out;have aC4:=zI.out;have aC5:=Bo.out;refine EX (w1:=?_) (by rfl) rfl ?_ ?_
 rotate_left
 ·go_simp;rfl
 refine hK.out _ _ ⟨((cell_far (p:=⟨tq,_,none⟩) oU.out _).trans (((cell_far (p:=⟨tq,_,none⟩) oU.out _).trans (((cell_far (p:=⟨tq,_,none⟩) oU.out _).trans (hHeld.1)))))),((cell_far (p:=⟨tq,_,none⟩) oU.out _).trans (((cell_far (p:=⟨tq,_,none⟩) oU.out _).trans (((cell_far (p:=⟨tq,_,none⟩) oU.out _).trans (hHeld.2.1)))))),((cell_far (p:=⟨tq,_,none⟩) oU.out _).trans (((cell_far (p:=⟨tq,_,none⟩) oU.out _).trans (((cell_far (p:=⟨tq,_,none⟩) oU.out _).trans (hHeld.2.2))))))⟩ (fun hHeld=>?_);clear hK K;refine EY (xu CY.out (by kernel_rfl)) ?_;try go_wp2
 go_loopg [4] k (fun kq v4 w'=>∃(fC:Int) (DF:List (jV)) (BP:Value),v4= .int .i64 fC∧ah (dJ.l0 kq fC bg bf aA LH LJ DF=some (r1,r2,r3))∧ah (kq≤k)∧ah (Kd.R ou 69 w' w.heap.size (fun _=>True) (.slice EM LH.length EN) LH)∧ah (Kd.R Kd.string 9 w' w.heap.size (fun _=>True) (.slice Kz LJ.length IZ) LJ)∧ah (Kd.R k28 28 w' w.heap.size (fun k_=>some k_≠((.slice EM LH.length EN):Value).ownBlock∧some k_≠((.slice Kz LJ.length IZ):Value).ownBlock∧k_≠wH∧k_≠EW∧k_≠tq) BP DF)∧ah (w'.heap[wH]? =some (.cells #[(.slice gQ bg.length gU),(.slice f_ bf.length gu),(.slice eP aA.length dI)] 28 (0,0)))∧ah (w'.heap[EW]? =some (.cells #[(.slice none 0 0),(.slice none 0 0),(.slice none 0 0)] 28 (0,0)))∧ah (w'.heap[tq]? =some (.cells #[(.slice EM LH.length EN),(.slice Kz LJ.length IZ),BP] 28 (0,0)))∧ah (Below w.heap.size w w'))
 case atStart=>exact⟨_,_,_,rs,H',⟨Nat.le_refl _⟩,⟨rr⟩,⟨rr⟩,⟨nx⟩,⟨bq⟩,⟨bq⟩,⟨bq⟩,⟨bb⟩⟩
 case round=>
  clear H';obtain⟨fC,DF,BP,rfl,HA,xK,um,uo,qm,kZ,rJ,nD,HB⟩:=hrel
  cases gk with
  |zero=>exact zz HA.out
  |succ k1=>
   obtain⟨H⟩:=HA;simp only[dJ.l0]at H;replace H:=sd H;rcases H with⟨EZ,H⟩|⟨EZ,H⟩
   ·replace H:=oL H;obtain⟨CZ,H⟩:=H;replace H:=bd H;obtain⟨⟨aiy,aiz,aiA⟩,A24,H⟩:=H
    (try dsimp only at H);replace H:=nl H;obtain⟨Ui,H⟩:=H;obtain⟨aKW,aoM⟩:=nm (DF++[(⟨aiy,aiz,aiA⟩:jV)]);rw[←aoM.out]at H;have H':=ak H;clear H;have avo:=WR.out;have avp:=WS.out;have ad8:=oU.out;have ad9:=zI.out;have aiB:=iQ kZ.out;try go_wp2
    replace um:=ak (Kd.mg um.out);replace uo:=ak (Kd.mg uo.out);replace qm:=ak (Kd.mg qm.out);replace kZ:=ak (gZ kZ.out);replace rJ:=ak (gZ rJ.out);replace nD:=ak (gZ nD.out);replace HB:=ak (gI HB.out);have arY:=zi fC;have arZ:=zj fC aA.length;obtain⟨Nc,aiC,aiD,aiE,aiF,aiG,aiH,aEA,Tj,Tm,Tn,ad_,aea,aeb,aec,aed,aee⟩:=xM jK.out fC arY arZ;have BQ:=Tn;have BR:=Tm;have BU:=Tj;cases aEA;replace Tj:=cl HB.out Tj;replace Tm:=cl HB.out Tm;replace Tn:=cl HB.out Tn;have aef:=ak aea;have amD:=ak ad_;clear aea ad_;have aeg:=ak aec;have amE:=ak aeb;clear aec aeb;have aeh:=ak aee;have amF:=ak aed;clear aee aed;replace arY:=eq_true arY;replace arZ:=eq_true arZ;refine zZ (n:=12) (S:=fun w'=>w'.cell? ⟨tq,0,none⟩=some (.slice EM LH.length EN)∧w'.cell? ⟨tq,1,none⟩=some (.slice Kz LJ.length IZ)∧w'.cell? ⟨tq,2,none⟩=some (BP)∧w'.cell? ⟨wH,0,none⟩=some (.slice gQ bg.length gU)∧w'.cell? ⟨wH,1,none⟩=some (.slice f_ bf.length gu)∧w'.cell? ⟨wH,2,none⟩=some (.slice (some Nc) aA.length dI)∧w'.cell? (Nc.add ((fC).toNat*3))=some (.slice aiC ((au aA fC).f0).length aiD)∧w'.cell? ⟨(Nc.add ((fC).toNat*3)).block,(Nc.add ((fC).toNat*3)).off+1,none⟩=some (.slice aiE ((au aA fC).f1).length aiF)∧w'.cell? ⟨(Nc.add ((fC).toNat*3)).block,(Nc.add ((fC).toNat*3)).off+2,none⟩=some (.slice aiG ((au aA fC).f2).length aiH)) (ds:=[11]) #[false,false,false,false,false,false,false,false,false,false,false,false] (by kernel_rfl) rfl rfl ⟨(ay nD.out 0).trans rfl,(ay nD.out 1).trans rfl,(ay nD.out 2).trans rfl,(ay kZ.out 0).trans rfl,(ay kZ.out 1).trans rfl,(ay kZ.out 2).trans rfl,((HB.out.cell (World.block_lt_of_cell? w _ BU)).trans BU),((HB.out.cell (World.block_lt_of_cell? w _ BR)).trans BR),((HB.out.cell (World.block_lt_of_cell? w _ BQ)).trans BQ)⟩ (fun hHeld=>?_);refine rM dJ.arV dJ.aiw (fun CY HW_=>?_)
    generalize wr.drew=w29 at um uo qm kZ rJ nD HB aef aeg aeh Tj Tm Tn hHeld⊢
    refine pl 0 ?_;refine pl 2 ?_;refine pl 4 ?_;refine tk 1 ?_;refine tk 3 ?_;refine pl 5 ?_;refine tk 6 ?_;refine o1 7 (fun K hK=>?_);refine xw Tryz.func110 (by kernel_rfl) rfl #[.agg #[.slice aiC ((au aA fC).f0).length aiD, .slice aiE ((au aA fC).f1).length aiF, .slice aiG ((au aA fC).f2).length aiH]] (by rfl) rfl rfl ma ?_
    with_reducible refine(ih k1 (by have:=xK.out;omega) _ _ ((au aA fC).f0) _ _ ((au aA fC).f1) _ _ ((au aA fC).f2) aiy aiz aiA _ ?eF ?iF ?z_ ?D7 ?Aa ?aiI A24.out).mono ?_
    (case eF=>repeat(first|exact(Kd.aI aef.out HB.out)|(with_reducible refine Kd.mP ?_ _)|(with_reducible refine Kd.mQ ?_ _)|(with_reducible refine Kd.qE ?_)))
    (case iF=>exact amD.out)
    (case z_=>repeat(first|exact(Kd.aI aeg.out HB.out)|(with_reducible refine Kd.mP ?_ _)|(with_reducible refine Kd.mQ ?_ _)|(with_reducible refine Kd.qE ?_)))
    (case D7=>exact amE.out)
    (case Aa=>repeat(first|exact(Kd.aI aeh.out HB.out)|(with_reducible refine Kd.mP ?_ _)|(with_reducible refine Kd.mQ ?_ _)|(with_reducible refine Kd.qE ?_)))
    (case aiI=>exact amF.out);rintro e w30 ⟨aKX,aKY,aKZ,rfl,ho0,ho1,ho2,hb⟩;refine⟨_,rfl,?_⟩;have aiJ:=ak (Kd.aG (Kd.eU ho0 (Kd.jM (ur um.out))) (aj bb));have aiK:=ak (Kd.aG (Kd.eU ho1 (Kd.jM (ur uo.out))) (aj bb));have aiL:=ak (Kd.aG (Kd.kN (Kd.kN (Kd.kN (Kd.eU (Kd.eU (Kd.eU ho2 (Kd.jM (ur um.out))) (Kd.jM (ur uo.out))) (Kd.jM (ur qm.out))) (g:=wH) (o:= .cells #[.slice gQ bg.length gU, .slice f_ bf.length gu, .slice (some Nc) aA.length dI] 28 (0,0)) (ub kZ.out)) (g:=EW) (o:= .cells #[.slice none 0 0, .slice none 0 0, .slice none 0 0] 28 (0,0)) (ub rJ.out)) (g:=tq) (o:= .cells #[.slice EM LH.length EN, .slice Kz LJ.length IZ,BP] 28 (0,0)) (ub nD.out)) (aj bb));replace um:=ak (Kd.dY (ur um.out) (Kd.bV ho0) hb);replace uo:=ak (Kd.dY (ur uo.out) (Kd.bV ho1) hb);replace qm:=ak (Kd.aW (Kd.rX (Kd.rX (Kd.rX (Kd.aaj (ur qm.out) hb) (Kd.bV ho0)) (Kd.bV ho1)) (Kd.bV ho2)) (fun _ h_=>h_.1));replace kZ:=kb kZ hb;replace rJ:=kb rJ hb;replace nD:=kb nD hb;replace HB:=bz HB hb;try clear hb
    try clear ho0
    try clear ho1
    try clear ho2
    obtain⟨amG,amH,amI⟩:=Kd.aH aiJ.out
    (first|subst amI|(injection amI with nO uy nP;have uz:=nO.symm;have uD:=nP.symm;clear nO uy nP;subst uz;subst uD));obtain⟨P9,P_,X_⟩:=Kd.aH aiK.out
    (first|subst X_|(injection X_ with nO uy nP;have uz:=nO.symm;have uD:=nP.symm;clear nO uy nP;subst uz;subst uD));obtain⟨aiM,aiN,abZ⟩:=Kd.aH aiL.out
    (first|subst abZ|(injection abZ with nO uy nP;have uz:=nO.symm;have uD:=nP.symm;clear nO uy nP;subst uz;subst uD));refine hK.out _ _ ⟨(ay nD.out 0).trans rfl,(ay nD.out 1).trans rfl,(ay nD.out 2).trans rfl,(ay kZ.out 0).trans rfl,(ay kZ.out 1).trans rfl,(ay kZ.out 2).trans rfl,((HB.out.cell (World.block_lt_of_cell? w _ BU)).trans BU),((HB.out.cell (World.block_lt_of_cell? w _ BR)).trans BR),((HB.out.cell (World.block_lt_of_cell? w _ BQ)).trans BQ)⟩ (fun hHeld=>?_);clear hK K;refine nrm ?_;refine o1 8 (fun K hK=>?_);refine D8 (w1:=?_) (v:=?_) (by rfl) rfl ?_ ?_
    rotate_left 2
    ·go_simp;constructor
     ·rfl
     ·rfl
    refine hK.out _ _ ⟨(ay (iH nD.out _) 0).trans rfl,(ay (iH nD.out _) 1).trans rfl,(ay (iH nD.out _) 2).trans rfl,(ay (iH kZ.out _) 0).trans rfl,(ay (iH kZ.out _) 1).trans rfl,(ay (iH kZ.out _) 2).trans rfl,(World.cell?_alloc_lt _ _ _ (World.block_lt_of_cell? _ _ (((HB.out.cell (World.block_lt_of_cell? w _ BU)).trans BU)))).trans (((HB.out.cell (World.block_lt_of_cell? w _ BU)).trans BU)),(World.cell?_alloc_lt _ _ _ (World.block_lt_of_cell? _ _ (((HB.out.cell (World.block_lt_of_cell? w _ BR)).trans BR)))).trans (((HB.out.cell (World.block_lt_of_cell? w _ BR)).trans BR)),(World.cell?_alloc_lt _ _ _ (World.block_lt_of_cell? _ _ (((HB.out.cell (World.block_lt_of_cell? w _ BQ)).trans BQ)))).trans (((HB.out.cell (World.block_lt_of_cell? w _ BQ)).trans BQ))⟩ (fun hHeld=>?_);clear hK K;refine nrm ?_;refine o1 9 (fun K hK=>?_);refine Kd.oD k28 (w0:=w) w.heap.size (by rfl) (.tmp 22) (.tmp 29) 26 28 (.agg #[(.slice none 0 0),(.slice none 0 0),(.slice none 0 0)]) 72 rfl Tryz.underlying26 Ua rfl (by decide) (by omega) BP DF (⟨aiy,aiz,aiA⟩:jV) [.slice amG aiy.length amH, .slice P9 aiz.length P_, .slice aiM aiA.length aiN] (fun k_=>some k_≠(.slice EM LH.length EN:Value).ownBlock∧some k_≠(.slice Kz LJ.length IZ:Value).ownBlock∧k_≠wH∧k_≠EW∧k_≠tq) (fun k_=>((fun k_=>some k_≠(.slice EM LH.length EN:Value).ownBlock∧some k_≠(.slice Kz LJ.length IZ:Value).ownBlock∧k_≠wH∧k_≠EW∧k_≠tq)) k_∧some k_≠(BP:Value).ownBlock) rfl rfl ?aP (fun _ hk=>hk) ?aF ?aO ?aB ?aS ?aL ?_
    (case aP=>exact MX _ _ _ (⟨aiy,aiz,aiA⟩:jV) (Kd.aW (Kd.kC (Kd.kC (Kd.kC (Kd.oC (Kd.oC (aiJ.out) (Kd.jE uo.out) (by decide)) (Kd.jE qm.out) (by decide)) kZ.out (by decide)) rJ.out (by decide)) nD.out (by decide)) (fun k_ hk=>⟨⟨hk.1.1.1.1.1.2,⟨hk.1.1.1.1.2,⟨hk.1.1.2,⟨hk.1.2,hk.2⟩⟩⟩⟩,hk.1.1.1.2⟩)) (Kd.aW (Kd.kC (Kd.kC (Kd.kC (Kd.oC (Kd.oC (aiK.out) (Kd.jE um.out) (by decide)) (Kd.jE qm.out) (by decide)) kZ.out (by decide)) rJ.out (by decide)) nD.out (by decide)) (fun k_ hk=>⟨⟨hk.1.1.1.1.2,⟨hk.1.1.1.1.1.2,⟨hk.1.1.2,⟨hk.1.2,hk.2⟩⟩⟩⟩,hk.1.1.1.2⟩)) (Kd.aW (aiL.out) (fun k_ hk=>⟨⟨hk.1.1.1.1.1.2,⟨hk.1.1.1.1.2,⟨hk.1.1.2,⟨hk.1.2,hk.2⟩⟩⟩⟩,hk.1.1.1.2⟩)))
    (case aB=>exact bb)
    (case aF=>exact(fun k_ hk=>⟨Kd.fresh' (Kd.jM (ur um.out)) k_ hk,Kd.fresh' (Kd.jM (ur uo.out)) k_ hk,Kd.xO (g:=wH) (o:= .cells #[.slice gQ bg.length gU, .slice f_ bf.length gu, .slice (some Nc) aA.length dI] 28 (0,0)) (ub kZ.out) k_ hk,Kd.xO (g:=EW) (o:= .cells #[.slice none 0 0, .slice none 0 0, .slice none 0 0] 28 (0,0)) (ub rJ.out) k_ hk,Kd.xO (g:=tq) (o:= .cells #[.slice EM LH.length EN, .slice Kz LJ.length IZ,BP] 28 (0,0)) (ub nD.out) k_ hk⟩))
    (case aO=>exact(ur (Kd.aW qm.out (fun _ hk=>⟨hk.1.1.1.1,⟨hk.1.1.1.2.1,⟨hk.1.1.1.2.2.1,⟨hk.1.1.1.2.2.2.1,hk.1.1.1.2.2.2.2⟩⟩⟩⟩))))
    (case aS=>exact(aj bb))
    (case aL=>have:=Ui.out;omega);intro aK1 w31 ho hb hg hat
    rw[←aoM.out]at ho;have y9:=ak (Kd.pq (ur um.out) (Kd.jE (ur qm.out)) (by decide) hg);have zf:=ak (Kd.pq (ur uo.out) (Kd.jE (ur qm.out)) (by decide) hg);have zY:=ak (bD (g:=wH) (o:= .cells #[.slice gQ bg.length gU, .slice f_ bf.length gu, .slice (some Nc) aA.length dI] 28 (0,0)) (ub kZ.out) hg (Kd.yP qm.out (fun _ hk=>hk.1.1.1.2.2.1)));have CP:=ak (bD (g:=EW) (o:= .cells #[.slice none 0 0, .slice none 0 0, .slice none 0 0] 28 (0,0)) (ub rJ.out) hg (Kd.yP qm.out (fun _ hk=>hk.1.1.1.2.2.2.1)));have F7:=ak (bD (g:=tq) (o:= .cells #[.slice EM LH.length EN, .slice Kz LJ.length IZ,BP] 28 (0,0)) (ub nD.out) hg (Kd.yP qm.out (fun _ hk=>hk.1.1.1.2.2.2.2)));have GZ:=ak (hb);have IV:=ak (ho);clear um uo kZ rJ nD HB qm aiJ aiK aiL;have um:=y9;have uo:=zf;have kZ:=zY;have rJ:=CP;have nD:=F7;have HB:=GZ;have avq:=IV;clear y9 zf zY CP F7 GZ IV ho hb hg hat
    obtain⟨amJ,amK,ab1⟩:=Kd.aH avq.out
    (first|subst ab1|(injection ab1 with nO uy nP;have uz:=nO.symm;have uD:=nP.symm;clear nO uy nP;subst uz;subst uD));refine hK.out _ _ ⟨(ay nD.out 0).trans rfl,(ay nD.out 1).trans rfl,(ay nD.out 2).trans rfl,(ay kZ.out 0).trans rfl,(ay kZ.out 1).trans rfl,(ay kZ.out 2).trans rfl,((HB.out.cell (World.block_lt_of_cell? w _ BU)).trans BU),((HB.out.cell (World.block_lt_of_cell? w _ BR)).trans BR),((HB.out.cell (World.block_lt_of_cell? w _ BQ)).trans BQ)⟩ (fun hHeld=>?_);clear hK K;refine nrm ?_;refine pl 10 ?_;refine Ii (i:=11) (N:=none) #[true,true,true,true,true,true,true,true,true,true,true,true] rfl rfl (Bq CY.out (by kernel_rfl)) (by decide) (fun K hK=>?_);have aEB:w31.cell? ⟨tq,2,none⟩=some (BP):=(ay nD.out 2).trans rfl;have avr:=fK nD.out 2;have amL:=oU.out;have amM:=Bl.out;have amN:=zI.out;have amO:=Bo.out;refine EX (w1:=?_) (by rfl) rfl ?_ ?_
    rotate_left
    ·go_simp;rfl
    refine hK.out _ _ ?_;clear hK K;refine EY (xu CY.out (by kernel_rfl)) ?_;try go_wp2
    go_roundg k1
    case measure=>exact kl
    case rel=>exact⟨_,_,_,rs,H',⟨kl⟩,⟨rr⟩,⟨rr⟩,⟨rr⟩,⟨bq⟩,⟨bq⟩,⟨bq⟩,⟨bb⟩⟩
   ·obtain⟨rfl,rfl,rfl⟩:=s3 H;have avs:=WR.out;have avt:=WS.out;have avu:=oU.out;have avv:=zI.out;have z39:=iQ kZ.out;have aiO:=Bo.out;have aiP:=Bl.out;have ar0:=iQ nD.out;have z42:=iQ rJ.out;obtain⟨aEC,aED,aEE⟩:=Kd.aH qm.out;subst aEE;go_wp2;refine bodyPost_ret (results_cell_row rfl _ _ EW 28 #[.slice EM LH.length EN, .slice Kz LJ.length IZ, .slice aEC DF.length aED] (0,0) _ rfl bq Tryz.underlying28 rfl (by kernel_rfl)) rfl ?_;exact⟨_,_,_,er,rr,rr,rr,bb⟩
end Go.Proofs.YtncdadcmghglkaaGreatDoor.PFnPartAt
