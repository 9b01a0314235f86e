/- Printed walks; conditions: those in each statement. -/
import Derived.Test.YtncdadcmghglkaaGreatDoorVFnPathEmptyQt
import Derived.Test.YtncdadcmghglkaaGreatDoorProg
import Derived.Test.YtncdadcmghglkaaGreatDoorVFnPathEmptyXt
import Derived.Below
import Derived.Deep.Draws
import Derived.Deep.AppendLies
import Derived.Maps.AppendAt
import Derived.OwnWalk
import Derived.Laws.BytesArg
import Derived.Laws.MakeOwn
import Derived.Laws.OwnMore
import Derived.Deep.OwnRows
import Derived.Tactics
import Derived.Lib.ConvBytes
import Derived.Lib.SliceRun
import Derived.Laws.Slices
import Derived.WalkKit
import Derived.KernelRfl
import Derived.RowKit3
import Derived.Deep.LoopGhost
import Derived.Deep.QuietTactic
import Derived.BigQuiet
import Derived.WideLaws
import Derived.Deep.DeepCutAuto
import Derived.Deep.CutBlock
import Derived.Deep.RegionHeld3
import Derived.Laws.Rows
import Derived.Lib.AppendStr
import Derived.ArgAppend
import Derived.Laws.IdiomCopy
import Derived.OrdersHeld
import Derived.Laws.BitsLemmas
import Derived.RowKit
import Derived.Test.YtncdadcmghglkaaGreatDoorMx
import Derived.Test.YtncdadcmghglkaaGreatDoorVFnPathEmptyWords
import Derived.Test.YtncdadcmghglkaaGreatDoorVFnPathEmptyLast
import Derived.Test.YtncdadcmghglkaaGreatDoorVFnPathEmptyTab
import Derived.Test.YtncdadcmghglkaaGreatDoorVFnPathEmptyApart
import Derived.Test.YtncdadcmghglkaaGreatDoorVFnPathEmptyFoot
import Derived.Test.YtncdadcmghglkaaGreatDoorVFnPathEmptyKept
import Derived.Test.YtncdadcmghglkaaGreatDoorVFnPathEmptyShare
import Derived.Test.YtncdadcmghglkaaGreatDoorVFnPathEmptyN
import Derived.Test.YtncdadcmghglkaaGreatDoorVFnPathEmptyEqStruct
import Derived.Test.YtncdadcmghglkaaGreatDoorVFnPathEmptyRepsOne
import Derived.Test.YtncdadcmghglkaaGreatDoorVFnPathEmptyInv
import Derived.Test.YtncdadcmghglkaaGreatDoorVFnPathEmptyGuard
import Derived.Test.YtncdadcmghglkaaGreatDoorVFnPathEmptyMore
import Derived.Test.YtncdadcmghglkaaGreatDoorVFnPathEmptyYt
-- dense
-- sq
-- sq2
-- short
namespace Go.Proofs.YtncdadcmghglkaaGreatDoor.PFnPathEmpty
open Go.RowKit Go.Proofs.YtncdadcmghglkaaGreatDoor.X Go.Proofs.YtncdadcmghglkaaGreatDoorW.dJ Go.Proofs.YtncdadcmghglkaaGreatDoorW.kX Go.Proofs.YtncdadcmghglkaaGreatDoorW.oI
attribute [local go_sem] wX wY zS zT uJ uK wZ xg   -- for this text's walks alone
set_option linter.unusedVariables false
set_option linter.unusedSimpArgs false
def auv:Option Int→Value
 |none=> .nilIface
 |some c=> .iface 0 (.int .i64 c)
theorem zq:auv none= .nilIface:=rfl
theorem zu (c:Int):auv (some c)= .iface 0 (.int .i64 c):=rfl
theorem info3:(Tryz.prog.info? 3).map (fun i=>(i.zero,i.size,i.bytes))=some (some (.int .i64 0),1,8):=by kernel_rfl
theorem info5:(Tryz.prog.info? 5).map (fun i=>(i.zero,i.size,i.bytes))=some (some (.int .u8 0),1,1):=by kernel_rfl
theorem info9:(Tryz.prog.info? 9).map (fun i=>(i.zero,i.size,i.bytes))=some (some (.string ⟨#[]⟩),1,16):=by kernel_rfl
theorem info23:(Tryz.prog.info? 23).map (fun i=>(i.zero,i.size,i.bytes))=some (some (.slice none 0 0),1,24):=by kernel_rfl
theorem TK:(Tryz.prog.info? 28).map (fun i=>(i.zero,i.size,i.bytes))=some (some (.agg #[(.slice none 0 0),(.slice none 0 0),(.slice none 0 0)]),3,72):=by kernel_rfl
theorem DF:(Tryz.prog.info? 69).map (fun i=>(i.zero,i.size,i.bytes))=some (some (.agg #[(.string ⟨#[]⟩),(.string ⟨#[]⟩)]),2,32):=by kernel_rfl
-- the values' own types
/-! #### struct type 69 -/
structure fO where
 f0:ByteArray
 f1:ByteArray
def z69:fO:=⟨(⟨#[]⟩:ByteArray),(⟨#[]⟩:ByteArray)⟩
def oz:Kd fO:=Kd.iso (Kd.pair Kd.string Kd.string) (fun x:fO=>(x.f0,x.f1))
theorem ZX:Kd.Heap oz:=Kd.ZY _ (Kd.PL Kd.EH Kd.EH)
theorem ahM {w:World} {x:fO} {cs:List Value} (h:oz.K w x cs):cs=[.string x.f0, .string x.f1]:=by
 obtain⟨_,_,rfl,rfl,rfl⟩:=h;exact rfl
theorem aq7 (w:World) (x:fO):oz.K w x [.string x.f0, .string x.f1]:=⟨[.string x.f0],[.string x.f1],rfl,rfl,rfl⟩
theorem yP (w:World) (base:Nat) (ok:Nat→Prop) (x:fO):oz.M w base ok x [.string x.f0, .string x.f1]:=⟨[.string x.f0],[.string x.f1],rfl,rfl,rfl⟩
theorem aCc (W:World) (ok:Nat→Prop) (x:fO):Kd.FK oz W ok x [.string x.f0, .string x.f1]:=fun W2 _=>aq7 W2 x
def dU (xs:List fO) (i:Int):fO:=xs.getD i.toNat z69
theorem qB {w:World} {A:Option Addr} {n:Nat} {xs:List fO} (h:Kd.C oz w A n xs) (i:Int) (h0:0≤i) (h1:i<n):∃ad,A=some ad∧w.cell? (ad.add (i.toNat*2))=some (.string (dU xs i).f0)∧w.cell? ⟨(ad.add (i.toNat*2)).block,(ad.add (i.toNat*2)).off+1,none⟩=some (.string (dU xs i).f1):=by
 obtain⟨ad,c,e,_,hK,hc0⟩:=Kd.Wh h z69 i h0 h1;have hc:∀j u,c[j]? =some u→w.cell? (ad.add (i.toNat*2+j))=some u:=hc0;obtain rfl:=ahM hK;exact⟨ad,e,hc 0 _ rfl,by rw[←AB _ _ 1 (by omega)];exact hc 1 _ rfl⟩
def aG7 (xs:List (List fO)) (i:Int):(List fO):=xs.getD i.toNat ([]:List fO)
def Aw (xs:List (List ByteArray)) (i:Int):(List ByteArray):=xs.getD i.toNat ([]:List ByteArray)
theorem MI {w:World} {A:Option Addr} {n:Nat} {xs:List (List ByteArray)} (h:Kd.C (Kd.slice 9 Kd.string) w A n xs) (i:Int) (h0:0≤i) (h1:i<n):∃ad A0 c0,A=some ad∧w.cell? (ad.add i.toNat)=some (.slice A0 (Aw xs i).length c0)∧(Aw xs i).length≤c0∧Kd.string.C w A0 (Aw xs i).length (Aw xs i):=by
 obtain⟨ad,c,e,_,hK,hc0⟩:=Kd.Wh h ([]:List ByteArray) i h0 h1;have hc:∀j u,c[j]? =some u→w.cell? (ad.add (i.toNat*1+j))=some u:=hc0;obtain⟨A0,c0,rfl,l0,g0⟩:=hK;exact⟨ad,A0,c0,e,by have hq:=hc 0 _ rfl;rwa [Nat.mul_one,Nat.add_zero]at hq,l0,g0⟩
/-! #### struct type 28, nested in itself -/
structure jT where
 f0:(List fO)
 f1:(List ByteArray)
 f2:(List jT)
def z28:jT:=⟨([]:List fO),([]:List ByteArray),([]:List jT)⟩
def F28 (d:Kd jT):Kd jT:=Kd.iso (Kd.pair (Kd.slice 69 oz) (Kd.pair (Kd.slice 9 Kd.string) (Kd.slice 28 d))) (fun x:jT=>(x.f0,x.f1,x.f2))
theorem XD:Kd.Iq F28:=Kd.ahN _ (Kd.Wi (Kd.TL _) (Kd.Wi (Kd.TL _) (Kd.abK 28 Kd.al0)))
theorem auw:Kd.Sub F28 [9,28,69]:=Kd.al1 _ (Kd.Z7 (Kd.sub_const _ (by decide)) (Kd.Z7 (Kd.sub_const _ (by decide)) (Kd.agB 28 (by decide) Kd.aq8)))
theorem aq9:∀n,(Kd.upto F28 3 [9,28,69] n).sz=3:=Kd.al2 (fun _=>rfl)
def k28:Kd jT:=Kd.fix F28 3 [9,28,69] aq9 (Kd.ahO auw)
theorem ahP:Kd.Heap k28:=Kd.ahQ (fun _ h_=>Kd.ZY _ (Kd.PL (Kd.KY 69 ZX) (Kd.PL (Kd.KY 9 Kd.EH) (Kd.KY 28 h_))))
theorem IG {w:World} {x:jT} {cs:List Value} (h:k28.K w x cs):∃A0 c0 A1 c1 A2 c2,cs=[.slice A0 x.f0.length c0, .slice A1 x.f1.length c1, .slice A2 x.f2.length c2]∧x.f0.length≤c0∧oz.C w A0 x.f0.length x.f0∧x.f1.length≤c1∧Kd.string.C w A1 x.f1.length x.f1∧x.f2.length≤c2∧k28.C w A2 x.f2.length x.f2:=by
 obtain⟨n,h⟩:=h
 cases n with
 |zero=>exact h.elim
 |succ n=>
  obtain⟨_,_,rfl,⟨A0,c0,rfl,l0,g0⟩,⟨_,_,rfl,⟨A1,c1,rfl,l1,g1⟩,⟨A2,c2,rfl,l2,g2⟩⟩⟩:=h;exact⟨A0,c0,A1,c1,A2,c2,rfl,l0,g0,l1,g1,l2,Kd.auy g2⟩
theorem aq_ (w:World) (x:jT) {A0:Option Addr} {c0:Nat} (l0:x.f0.length≤c0) (g0:oz.C w A0 x.f0.length x.f0) {A1:Option Addr} {c1:Nat} (l1:x.f1.length≤c1) (g1:Kd.string.C w A1 x.f1.length x.f1) {A2:Option Addr} {c2:Nat} (l2:x.f2.length≤c2) (g2:k28.C w A2 x.f2.length x.f2):k28.K w x [.slice A0 x.f0.length c0, .slice A1 x.f1.length c1, .slice A2 x.f2.length c2]:=by
 obtain⟨n2,q2⟩:=Kd.abL XD g2;have r2:=Kd.agC XD aq9 (show n2≤n2 by omega) q2;exact⟨n2+1,⟨[.slice A0 x.f0.length c0],[.slice A1 x.f1.length c1, .slice A2 x.f2.length c2],rfl,⟨A0,c0,rfl,l0,g0⟩,⟨[.slice A1 x.f1.length c1],[.slice A2 x.f2.length c2],rfl,⟨A1,c1,rfl,l1,g1⟩,⟨A2,c2,rfl,l2,r2⟩⟩⟩⟩
theorem MJ (w:World) (base:Nat) (ok:Nat→Prop) (x:jT) {v0:Value} (g0:oz.R 69 w base ok v0 x.f0) {v1:Value} (g1:Kd.string.R 9 w base ok v1 x.f1) {v2:Value} (g2:k28.R 28 w base ok v2 x.f2):k28.M w base ok x [v0,v1,v2]:=by
 obtain⟨n2,q2⟩:=Kd.abM XD g2;have r2:=Kd.agD XD aq9 (show n2≤n2 by omega) q2;exact⟨n2+1,⟨[v0],[v1,v2],rfl,⟨v0,rfl,g0⟩,⟨[v1],[v2],rfl,⟨v1,rfl,g1⟩,⟨v2,rfl,r2⟩⟩⟩⟩
theorem Wj {W:World} {ok:Nat→Prop} {x:jT} {cs:List Value} (h:Kd.FK k28 W ok x cs):∃A0 c0 A1 c1 A2 c2,cs=[.slice A0 x.f0.length c0, .slice A1 x.f1.length c1, .slice A2 x.f2.length c2]∧x.f0.length≤c0∧Kd.F oz W ok A0 x.f0.length x.f0∧x.f1.length≤c1∧Kd.F Kd.string W ok A1 x.f1.length x.f1∧x.f2.length≤c2∧Kd.F k28 W ok A2 x.f2.length x.f2:=by
 obtain⟨A0,c0,A1,c1,A2,c2,rfl,l0,_,l1,_,l2,_⟩:=IG (Kd.ara h);exact⟨A0,c0,A1,c1,A2,c2,rfl,l0,(fun W' hW=>by obtain⟨A0_,c0_,A1_,c1_,A2_,c2_,he,l0_,g0_,l1_,g1_,l2_,g2_⟩:=IG (h W' hW);injection (Option.some.inj (show some (Value.slice A0 x.f0.length c0)=some (Value.slice A0_ x.f0.length c0_)from congrArg (fun l=>l[0]?) he))with ha_ _ _;rw[ha_];exact g0_),l1,(fun W' hW=>by obtain⟨A0_,c0_,A1_,c1_,A2_,c2_,he,l0_,g0_,l1_,g1_,l2_,g2_⟩:=IG (h W' hW);injection (Option.some.inj (show some (Value.slice A1 x.f1.length c1)=some (Value.slice A1_ x.f1.length c1_)from congrArg (fun l=>l[1]?) he))with ha_ _ _;rw[ha_];exact g1_),l2,(fun W' hW=>by obtain⟨A0_,c0_,A1_,c1_,A2_,c2_,he,l0_,g0_,l1_,g1_,l2_,g2_⟩:=IG (h W' hW);injection (Option.some.inj (show some (Value.slice A2 x.f2.length c2)=some (Value.slice A2_ x.f2.length c2_)from congrArg (fun l=>l[2]?) he))with ha_ _ _;rw[ha_];exact g2_)⟩
theorem aCd (W:World) (ok:Nat→Prop) (x:jT) {A0:Option Addr} {c0:Nat} (l0:x.f0.length≤c0) (g0:Kd.F oz W ok A0 x.f0.length x.f0) {A1:Option Addr} {c1:Nat} (l1:x.f1.length≤c1) (g1:Kd.F Kd.string W ok A1 x.f1.length x.f1) {A2:Option Addr} {c2:Nat} (l2:x.f2.length≤c2) (g2:Kd.F k28 W ok A2 x.f2.length x.f2):Kd.FK k28 W ok x [.slice A0 x.f0.length c0, .slice A1 x.f1.length c1, .slice A2 x.f2.length c2]:=fun W2 hW=>aq_ W2 x l0 (g0 W2 hW) l1 (g1 W2 hW) l2 (g2 W2 hW)
def au (xs:List jT) (i:Int):jT:=xs.getD i.toNat z28
theorem yT {w:World} {A:Option Addr} {n:Nat} {xs:List jT} (h:Kd.C k28 w A n xs) (i:Int) (h0:0≤i) (h1:i<n):∃ad A0 c0 A1 c1 A2 c2,A=some ad∧w.cell? (ad.add (i.toNat*3))=some (.slice A0 (au xs i).f0.length c0)∧w.cell? ⟨(ad.add (i.toNat*3)).block,(ad.add (i.toNat*3)).off+1,none⟩=some (.slice A1 (au xs i).f1.length c1)∧w.cell? ⟨(ad.add (i.toNat*3)).block,(ad.add (i.toNat*3)).off+2,none⟩=some (.slice A2 (au xs i).f2.length c2)∧(au xs i).f0.length≤c0∧oz.C w A0 (au xs i).f0.length (au xs i).f0∧(au xs i).f1.length≤c1∧Kd.string.C w A1 (au xs i).f1.length (au xs i).f1∧(au xs i).f2.length≤c2∧k28.C w A2 (au xs i).f2.length (au xs i).f2:=by
 obtain⟨ad,c,e,_,hK,hc0⟩:=Kd.Wh h z28 i h0 h1;have hc:∀j u,c[j]? =some u→w.cell? (ad.add (i.toNat*3+j))=some u:=hc0;obtain⟨A0,c0,A1,c1,A2,c2,rfl,l0,g0,l1,g1,l2,g2⟩:=IG hK;exact⟨ad,A0,c0,A1,c1,A2,c2,e,hc 0 _ rfl,by rw[←AB _ _ 1 (by omega)];exact hc 1 _ rfl,by rw[←AB _ _ 2 (by omega)];exact hc 2 _ rfl,l0,g0,l1,g1,l2,g2⟩
theorem auz (d:Nat) (w:World) (x0 y0:ByteArray) (x1 y1:ByteArray):
  (Op.equalIn (d+2) 69 (.agg #[.string x0, .string x1]) (.agg #[.string y0, .string y1])).run Tryz.prog w= .ok (x0.toList==y0.toList&&(x1.toList==y1.toList)) w:=by
 refine arb Tryz.underlying69 (by kernel_rfl) ?_;refine ahR (by rfl) (by go_simp;rfl) (by go_simp;rfl) (by go_simp) ?_;exact ahS (by rfl) (by go_simp;rfl) (by go_simp;rfl) (by go_simp)
set_option maxHeartbeats 8000000
set_option maxRecDepth 100000
mutual
def gZ.f:Nat→List (fO)→List ByteArray→List (jT)→Option ((List (fO))×List ByteArray×(List (jT)))
 |0,_,_,_=>none
 |k+1,bD,bf,ay=>(some (([]:List (fO)):List (fO))).bind fun TM=>(if TM.length+bD.length<4398046511104 then((some (([]:List ByteArray):List ByteArray)).bind fun TN=>(if TN.length+bf.length<8796093022208 then((fU.l0 k (([]:List (jT))) ay (ay.length:Int) 0).bind fun Z8=>(some ((TM++bD),(TN++bf),Z8)))else(none)))else(none))
def fU.l0:Nat→List (jT)→List (jT)→Int→Int→Option ((List (jT)))
 |0,_,_,_,_=>none
 |k+1,x3,x7,x8,x9=>if x9<x8 then(if 0≤x9 then(if x9<(x7.length:Int)then((gZ.f k ((au x7 x9).f0) ((au x7 x9).f1) ((au x7 x9).f2)).bind fun ahT=>(if x3.length<1954687338268 then(fU.l0 k (x3++[(⟨ahT.1,ahT.2.1,ahT.2.2⟩:jT)]) x7 x8 (wrap64 (x9+1)))else(none)))else(none))else(none))else(some x3)
end
def fU.f (k:Nat) (l0:List (jT)):Option ((List (jT))):=fU.l0 k (([]:List (jT))) l0 (l0.length:Int) 0
theorem gZ.abN (k:Nat) (bD:List (fO)) (bf:List ByteArray) (ay:List (jT)):gZ.f (k+1) bD bf ay=((some (([]:List (fO)):List (fO))).bind fun TM=>(if TM.length+bD.length<4398046511104 then((some (([]:List ByteArray):List ByteArray)).bind fun TN=>(if TN.length+bf.length<8796093022208 then((fU.f k ay).bind fun Z8=>(some ((TM++bD),(TN++bf),Z8)))else(none)))else(none))):=by simp only[gZ.f,fU.f]
theorem gZ.pair (k:Nat):(∀(ig:Option Addr) (iq:Nat) (bD:List (fO)) (gK:Option Addr) (gQ:Nat) (bf:List ByteArray) (fM:Option Addr) (dO:Nat) (ay:List (jT)) (r1:List (fO)) (r2:List ByteArray) (r3:List (jT)) (w:World) (mZ:Kd.C oz w ig bD.length bD) (m_:bD.length≤iq) (ng:Kd.C Kd.string w gK bf.length bf) (ni:bf.length≤gQ) (jU:Kd.C k28 w fM ay.length ay) (jV:ay.length≤dO) (h:gZ.f k bD bf ay=some (r1,r2,r3)),
  Calls Tryz.prog 61 #[.agg #[.slice ig bD.length iq, .slice gK bf.length gQ, .slice fM ay.length dO]] w fun e w'=>∃o7 AL DI:Value,e= .returned (.agg #[o7,AL,DI])∧Kd.R oz 69 w' w.heap.size (fun _=>True) o7 r1∧Kd.R Kd.string 9 w' w.heap.size (fun _=>True) AL r2∧Kd.R k28 28 w' w.heap.size (fun k_=>some k_≠(o7:Value).ownBlock∧some k_≠(AL:Value).ownBlock) DI r3∧Below w.heap.size w w')∧
  (∀(A0:Option Addr) (c0:Nat) (l0:List (jT)) (r:List (jT)) (w:World) (hr0:Kd.C k28 w A0 l0.length l0) (hc0:l0.length≤c0) (h:fU.f k l0=some r),
  Calls Tryz.prog 104 #[.slice A0 l0.length c0] w fun e w'=>∃o7:Value,e= .returned (o7)∧Kd.R k28 28 w' w.heap.size (fun _=>True) o7 r∧Below w.heap.size w w'):=by
 induction k using Nat.strongRecOn with
 |_ k ih=>
 refine⟨?_,?_⟩
 ·cases k with
  |zero=>intro ig iq bD gK gQ bf fM dO ay r1 r2 r3 w mZ m_ ng ni jU jV h;exact absurd h (by simp[gZ.f])
  |succ k=>
  have ihB:=(ih k (Nat.lt_succ_self k)).2;clear ih;intro ig iq bD gK gQ bf fM dO ay r1 r2 r3 w mZ m_ ng ni jU jV h;rw[gZ.abN]at h;have Eu:=Tryz.underlying28;have qC:=ak mZ;have rD:=ak m_;clear mZ m_;have uw:=ak ng;have xk:=ak ni;clear ng ni;have jW:=ak jU;have oC:=ak jV;clear jU jV;have HB:=ak (Below.refl w.heap.size w);have H:((some (([]:List (fO)):List (fO))).bind fun TM=>(if TM.length+bD.length<4398046511104 then((some (([]:List ByteArray):List ByteArray)).bind fun TN=>(if TN.length+bf.length<8796093022208 then((fU.f k ay).bind fun Z8=>(some ((TM++bD),(TN++bf),Z8)))else(none)))else(none)))=some (r1,r2,r3):=h;clear h;replace H:=ny H;obtain⟨TM,auA,H⟩:=H;replace H:=nl H;obtain⟨ard,H⟩:=H;obtain⟨ahU,aoa⟩:=nm (TM++bD);rw[←aoa.out]at H;replace H:=ny H;obtain⟨TN,auB,H⟩:=H;replace H:=nl H;obtain⟨agE,H⟩:=H;obtain⟨arf,aob⟩:=nm (TN++bf);rw[←aob.out]at H;replace H:=bd H;obtain⟨Z8,A4,H⟩:=H;obtain⟨rfl,rfl,rfl⟩:=s3 H;go_enter Tryz.func61,Tryz.ntmps61;go_wp2_with (first|(refine bX HB 1 #[.slice ig bD.length iq, .slice gK bf.length gQ, .slice fM ay.length dO] 28 ?_;intro ahV w5 yG aG8 hb;replace HB:=bs HB hb;clear hb)|(refine bY HB 2 #[.slice none 0 0, .slice none 0 0, .slice none 0 0] 28 ?_;intro adJ w6 FT aG9 hg hb;have agF:=vT yG hg;have agG:=vU yG hg;replace yG:=kb yG hb;replace HB:=bz HB hb;clear hb hg)|(refine II 3 oz 69 auA ?_;intro aDT w7 ho8 hb;have adK:=ak (Kd.aG ho8 (aj bb));replace yG:=kb yG hb;replace FT:=kb FT hb;replace HB:=bz HB hb;clear hb ho8;have auC:=agF.out;have auD:=agG.out;have z10:=iJ yG.out)|((with_reducible refine dR (b:= .append) (xs:=#[.tmp 3, .tmp 5]) rfl ?_);at_builtin;refine Kd.o9 oz (w0:=w) w.heap.size rfl (.tmp 3) (.tmp 5) 25 69 (.agg #[(.string ⟨#[]⟩),(.string ⟨#[]⟩)]) 32 rfl Tryz.underlying25 DF rfl (by decide) (by omega) aDT TM bD _ _ _ (fun _=>True) (fun _=>False) rfl rfl ?aO ?aR (fun _ _ h=>h) (fun _ h=>h.elim) ?aF ?aB ?aS ?aL ?_;(case aR=>repeat(first|exact(Kd.aN qC.out HB.out)|(with_reducible refine Kd.lY ?_ _)|(with_reducible refine Kd.lZ ?_ _)|(with_reducible refine Kd.pX ?_)));(case aB=>exact bb);(case aF=>exact(fun _ _=>trivial));(case aO=>exact(ur adK.out));(case aS=>exact(aj bb));(case aL=>have:=ard.out;omega);intro aKg Wn ho hb hg hat;rw[←aoa.out]at ho;have QX:=ak (ho);replace yG:=ak (bP (g:=ahV) (o:= .cells #[.slice ig bD.length iq, .slice gK bf.length gQ, .slice fM ay.length dO] 28 (0,0)) (ub yG.out) hg (Kd.qc adK.out yG.out (by decide)));replace FT:=ak (bP (g:=adJ) (o:= .cells #[.slice none 0 0, .slice none 0 0, .slice none 0 0] 28 (0,0)) (ub FT.out) hg (Kd.qc adK.out FT.out (by decide)));replace HB:=ak (hb);clear ho hb hg hat adK;obtain⟨BL,AO,TP⟩:=Kd.aH QX.out;subst TP;have z13:=iJ yG.out)|(refine II 8 Kd.string 9 auB ?_;intro aDU VH KZ hb;have Z9:=ak (Kd.aG KZ (aj bb));replace QX:=rg QX hb;replace yG:=kp yG #[.slice BL ahU.length AO, .slice gK bf.length gQ, .slice fM ay.length dO] hb;replace FT:=kp FT #[.slice none 0 0, .slice none 0 0, .slice none 0 0] hb;replace HB:=bz HB hb;clear hb KZ;have z16:=iJ yG.out)|((with_reducible refine dR (b:= .append) (xs:=#[.tmp 8, .tmp 10]) rfl ?_);at_builtin;refine Kd.o9 Kd.string (w0:=w) w.heap.size rfl (.tmp 8) (.tmp 10) 23 9 (.string ⟨#[]⟩) 16 rfl Tryz.underlying23 info9 rfl (by decide) (by omega) aDU TN bf _ _ _ (fun _=>True) (fun _=>False) rfl rfl ?aO ?aR (fun _ _ h=>h) (fun _ h=>h.elim) ?aF ?aB ?aS ?aL ?_;(case aR=>repeat(first|exact(Kd.aN uw.out HB.out)|(with_reducible refine Kd.lY ?_ _)|(with_reducible refine Kd.lZ ?_ _)|(with_reducible refine Kd.pX ?_)));(case aB=>exact bb);(case aF=>exact(fun _ _=>trivial));(case aO=>exact(ur Z9.out));(case aS=>exact(aj bb));(case aL=>have:=agE.out;omega);intro aKh w17 ho hb hg hat;rw[←aob.out]at ho;have adL:=ak (ho);replace yG:=ak (bP (g:=ahV) (o:= .cells #[.slice BL ahU.length AO, .slice gK bf.length gQ, .slice fM ay.length dO] 28 (0,0)) (ub yG.out) hg (Kd.qc Z9.out yG.out (by decide)));replace FT:=ak (bP (g:=adJ) (o:= .cells #[.slice none 0 0, .slice none 0 0, .slice none 0 0] 28 (0,0)) (ub FT.out) hg (Kd.qc Z9.out FT.out (by decide)));replace QX:=ak (Kd.oU (ur QX.out) (Kd.jA (ur Z9.out)) (by decide) hg);replace HB:=ak (hb);clear ho hb hg hat Z9;obtain⟨Ew,Ey,PN⟩:=Kd.aH adL.out;subst PN;have z19:=iJ yG.out)|(refine gV Tryz.func104 (ihB _ _ ay Z8 _ (Kd.aN jW.out bb) oC.out A4.out) ?_;rintro aKi w20 ⟨ho0,hb⟩;have auE:=ak (Kd.aG (Kd.kF (Kd.kF (Kd.fE (Kd.fE ho0 (Kd.jP (rh QX))) (Kd.jP (rh adL))) (g:=ahV) (o:= .cells #[.slice BL ahU.length AO, .slice Ew arf.length Ey, .slice fM ay.length dO] 28 (0,0)) bq) (g:=adJ) (o:= .cells #[.slice none 0 0, .slice none 0 0, .slice none 0 0] 28 (0,0)) bq) (aj bb));replace QX:=rg QX hb;replace adL:=rg adL hb;replace yG:=kp yG #[.slice BL ahU.length AO, .slice Ew arf.length Ey, .slice fM ay.length dO] hb;replace FT:=kp FT #[.slice none 0 0, .slice none 0 0, .slice none 0 0] hb;replace HB:=bz HB hb;clear hb;(try clear ho0);obtain⟨MK,ML,XE⟩:=Kd.aH auE.out;subst XE;have z22:=iJ yG.out;have z23:=iJ FT.out))
  refine bodyPost_ret (results_cell_row rfl _ _ adJ 28 #[.slice BL ahU.length AO, .slice Ew arf.length Ey, .slice MK Z8.length ML] (0,0) _ rfl bq Tryz.underlying28 rfl (by kernel_rfl)) rfl ?_;exact⟨_,_,_,er,rr,rr,rr,bb⟩
 ·intro A0 c0 l0 r w hr0 hc0 h;have Eu:=Tryz.underlying28;have HR0:=ak hr0;have zx:=ak hc0;clear hr0 hc0;have HB:=ak (Below.refl w.heap.size w);have H:(fU.l0 k (([]:List (jT))) l0 (l0.length:Int) 0)=some r:=h;clear h;obtain⟨y101,aoc⟩:=nm ([]:List (jT));rw[←aoc.out]at H;have H':=ak H;clear H;go_enter Tryz.func104,Tryz.ntmps104;go_wp2_with (refine II 6 k28 28 aoc ?_;intro aKj w2 ho3 hb;have auF:=ak (Kd.aG ho3 (aj (ul HB.out)));replace HB:=bs HB hb;clear hb ho3)
  go_loopg [3,9] k (fun kq v3 v9 w'=>∃(dX:List (jT)) (zL:Int),v9= .int .i64 zL∧ah (fU.l0 kq dX l0 (l0.length:Int) zL=some r)∧ah (kq≤k)∧ah (Kd.R k28 28 w' w.heap.size (fun _=>True) v3 dX)∧ah (Below w.heap.size w w'))
  case atStart=>exact⟨_,_,rs,H',⟨Nat.le_refl _⟩,⟨ur auF.out⟩,⟨ul HB.out⟩⟩
  case round=>
   clear H';obtain⟨dX,zL,rfl,HA,yH,qp,HB⟩:=hrel
   cases gk with
   |zero=>exact zz HA.out
   |succ k1=>
    obtain⟨H⟩:=HA;simp only[fU.l0]at H;replace H:=sd H;rcases H with⟨qW,H⟩|⟨qW,H⟩
    ·replace H:=oG H;obtain⟨nT,H⟩:=H;replace H:=oG H;obtain⟨oV,H⟩:=H;replace H:=bd H;obtain⟨⟨ahW,t109,Z_⟩,A7,H⟩:=H
     (try dsimp only at H);replace H:=nl H;obtain⟨arh,H⟩:=H;obtain⟨y115,aod⟩:=nm (dX++[(⟨ahW,t109,Z_⟩:jT)]);rw[←aod.out]at H;have H':=ak H;clear H;have TQ:=zi zL;have TR:=zj zL l0.length;obtain⟨aoe,K_,La,Lc,Ld,Le,Lh,ahX,SK,adM,adN,adO,adP,adQ,adR,adS,adT⟩:=yT HR0.out zL TQ TR;cases ahX;replace SK:=cl HB.out SK;replace adM:=cl HB.out adM;replace adN:=cl HB.out adN;have al3:=ak adP;have al4:=ak adO;clear adP adO;have al5:=ak adR;have al6:=ak adQ;clear adR adQ;have al7:=ak adT;have al8:=ak adS;clear adT adS;replace TQ:=eq_true TQ;replace TR:=eq_true TR;go_wp2_with (first|(refine bY HB 5 #[.slice none 0 0, .slice none 0 0, .slice none 0 0] 28 ?_;intro BM w9 uy ahY hg hb;replace qp:=ak (Kd.o_ (Kd.yJ (ur qp.out) BM (Nat.le_of_eq hg.symm)) hb);replace HB:=bs HB hb;clear hb hg;have z10:=iJ uy.out)|(refine gL 61 15 Tryz.func61 #[.agg #[.slice K_ ((au l0 zL).f0).length La, .slice Lc ((au l0 zL).f1).length Ld, .slice Le ((au l0 zL).f2).length Lh]] ?_;(with_reducible refine((ih k1 (by have:=yH.out;omega)).1 _ _ ((au l0 zL).f0) _ _ ((au l0 zL).f1) _ _ ((au l0 zL).f2) ahW t109 Z_ _ (Kd.aN al3.out bb) al4.out (Kd.aN al5.out bb) al6.out (Kd.aN al7.out bb) al8.out A7.out).mono ?_);rintro e Wn ⟨v107,aKk,aKl,rfl,ho0,ho1,ho2,hb⟩;refine⟨_,rfl,?_⟩;have ahZ:=ak (Kd.aG ho0 (aj bb));have ah0:=ak (Kd.aG ho1 (aj bb));have ah1:=ak (Kd.aG (Kd.kF (Kd.fE ho2 (Kd.jP (ur (Kd.aX (Kd.jQ (p:=⟨BM,2,none⟩) (Kd.jQ (p:=⟨BM,1,none⟩) (Kd.jQ (p:=⟨BM,0,none⟩) (Kd.aX qp.out (fun k_ hk=>(⟨hk,hk.2⟩:_∧k_≠BM))) (fun _ hk=>hk.2) (.slice K_ ((au l0 zL).f0).length La)) (fun _ hk=>hk.2) (.slice Lc ((au l0 zL).f1).length Ld)) (fun _ hk=>hk.2) (.slice Le ((au l0 zL).f2).length Lh)) (fun _ h_=>h_.1))))) (g:=BM) (o:= .cells #[.slice K_ ((au l0 zL).f0).length La, .slice Lc ((au l0 zL).f1).length Ld, .slice Le ((au l0 zL).f2).length Lh] 28 (0,0)) bq) (aj bb));replace qp:=ak (Kd.aX (Kd.qX (Kd.qX (Kd.qX (Kd.aac (ur (Kd.aX (Kd.jQ (p:=⟨BM,2,none⟩) (Kd.jQ (p:=⟨BM,1,none⟩) (Kd.jQ (p:=⟨BM,0,none⟩) (Kd.aX qp.out (fun k_ hk=>(⟨hk,hk.2⟩:_∧k_≠BM))) (fun _ hk=>hk.2) (.slice K_ ((au l0 zL).f0).length La)) (fun _ hk=>hk.2) (.slice Lc ((au l0 zL).f1).length Ld)) (fun _ hk=>hk.2) (.slice Le ((au l0 zL).f2).length Lh)) (fun _ h_=>h_.1))) hb) (Kd.b_ ho0)) (Kd.b_ ho1)) (Kd.b_ ho2)) (fun _ h_=>h_.1));replace uy:=kp uy #[.slice K_ ((au l0 zL).f0).length La, .slice Lc ((au l0 zL).f1).length Ld, .slice Le ((au l0 zL).f2).length Lh] hb;replace HB:=bz HB hb;clear hb;(try clear ho0);(try clear ho1);(try clear ho2);obtain⟨FC,Ar,RP⟩:=Kd.aH ahZ.out;subst RP;obtain⟨FU,FV,VI⟩:=Kd.aH ah0.out;subst VI;obtain⟨FD,Ez,TS⟩:=Kd.aH ah1.out;subst TS)|((with_reducible refine dR (b:= .append) (xs:=#[.tmp 13, .tmp 16]) rfl ?_);at_builtin;refine Kd.qE k28 (w0:=w) w.heap.size rfl (.tmp 13) (.tmp 16) 26 28 (.agg #[(.slice none 0 0),(.slice none 0 0),(.slice none 0 0)]) 72 rfl Tryz.underlying26 TK rfl (by decide) (by omega) u3 dX (⟨ahW,t109,Z_⟩:jT) [.slice FC ahW.length Ar, .slice FU t109.length FV, .slice FD Z_.length Ez] (fun k_=>k_≠BM) (fun k_=>((fun k_=>k_≠BM)) k_∧some k_≠(u3:Value).ownBlock) rfl rfl ?aP (fun _ hk=>hk) ?aF ?aO ?aB ?aS ?aL ?_;(case aP=>exact MJ _ _ _ (⟨ahW,t109,Z_⟩:jT) (Kd.aX (Kd.jS (Kd.nU (ahZ.out) (Kd.jA qp.out) (by decide)) uy.out (by decide)) (fun k_ hk=>⟨hk.2,hk.1.2⟩)) (Kd.aX (Kd.jS (Kd.nU (ah0.out) (Kd.jA qp.out) (by decide)) uy.out (by decide)) (fun k_ hk=>⟨hk.2,hk.1.2⟩)) (Kd.aX (ah1.out) (fun k_ hk=>⟨hk.2,hk.1.2⟩)));(case aB=>exact bb);(case aF=>exact(fun k_ hk=>Kd.xq (g:=BM) (o:= .cells #[.slice K_ ((au l0 zL).f0).length La, .slice Lc ((au l0 zL).f1).length Ld, .slice Le ((au l0 zL).f2).length Lh] 28 (0,0)) (ub uy.out) k_ hk));(case aO=>exact(ur (Kd.aX qp.out (fun _ hk=>hk.1.1.1.2))));(case aS=>exact(aj bb));(case aL=>have:=arh.out;omega);intro aKm w12 ho hb hg hat;rw[←aod.out]at ho;have auG:=ak (ho);replace uy:=ak (bP (g:=BM) (o:= .cells #[.slice K_ ((au l0 zL).f0).length La, .slice Lc ((au l0 zL).f1).length Ld, .slice Le ((au l0 zL).f2).length Lh] 28 (0,0)) (ub uy.out) hg (Kd.yB qp.out (fun _ hk=>hk.1.1.1.2)));replace HB:=ak (hb);clear ho hb hg hat qp ahZ ah0 ah1))
     go_roundg k1
     case measure=>exact kl
     case rel=>exact⟨_,_,rs,H',⟨kl⟩,⟨ur (Kd.aX auG.out (fun _ hk=>trivial))⟩,⟨bb⟩⟩
    ·obtain rfl:=s1 H;go_wp2;go_ret;exact⟨_,er,ur qp.out,ul HB.out⟩
theorem gZ.calls {k iq gQ dO:Nat} {ig gK fM:Option Addr} {bD r1:List (fO)} {bf r2:List ByteArray} {ay r3:List (jT)} {w:World} (mZ:Kd.C oz w ig bD.length bD) (m_:bD.length≤iq) (ng:Kd.C Kd.string w gK bf.length bf) (ni:bf.length≤gQ) (jU:Kd.C k28 w fM ay.length ay) (jV:ay.length≤dO) (h:gZ.f k bD bf ay=some (r1,r2,r3)):
  Calls Tryz.prog 61 #[.agg #[.slice ig bD.length iq, .slice gK bf.length gQ, .slice fM ay.length dO]] w fun e w'=>∃o7 AL DI:Value,e= .returned (.agg #[o7,AL,DI])∧Kd.R oz 69 w' w.heap.size (fun _=>True) o7 r1∧Kd.R Kd.string 9 w' w.heap.size (fun _=>True) AL r2∧Kd.R k28 28 w' w.heap.size (fun k_=>some k_≠(o7:Value).ownBlock∧some k_≠(AL:Value).ownBlock) DI r3∧Below w.heap.size w w':=(gZ.pair k).1 ig iq bD gK gQ bf fM dO ay r1 r2 r3 w mZ m_ ng ni jU jV h
theorem fU.calls {k c0:Nat} {A0:Option Addr} {l0 r:List (jT)} {w:World} (hr0:Kd.C k28 w A0 l0.length l0) (hc0:l0.length≤c0) (h:fU.f k l0=some r):
  Calls Tryz.prog 104 #[.slice A0 l0.length c0] w fun e w'=>∃o7:Value,e= .returned (o7)∧Kd.R k28 28 w' w.heap.size (fun _=>True) o7 r∧Below w.heap.size w w':=(gZ.pair k).2 A0 c0 l0 r w hr0 hc0 h
set_option maxHeartbeats 8000000
set_option maxRecDepth 100000
mutual
def dH.l0:Nat→Int→List (fO)→List ByteArray→List (jT)→List (fO)→List ByteArray→List (jT)→Option ((List (fO))×List ByteArray×(List (jT)))
 |0,_,_,_,_,_,_,_=>none
 |k+1,x4,al9,al_,MN,adU,adV,XF=>if x4<(MN.length:Int)then(if 0≤x4 then((dH.f k ((au MN x4).f0) ((au MN x4).f1) ((au MN x4).f2)).bind fun ah2=>(if XF.length<1954687338268 then(dH.l0 k (wrap64 (x4+1)) al9 al_ MN adU adV (XF++[(⟨ah2.1,ah2.2.1,ah2.2.2⟩:jT)]))else(none)))else(none))else(some (adU,adV,XF))
def dH.f:Nat→List (fO)→List ByteArray→List (jT)→Option ((List (fO))×List ByteArray×(List (jT)))
 |0,_,_,_=>none
 |k+1,bD,bf,ay=>(some (([]:List (fO)):List (fO))).bind fun ah3=>(if ah3.length+bD.length<4398046511104 then((some (([]:List ByteArray):List ByteArray)).bind fun ah4=>(if ah4.length+bf.length<8796093022208 then(dH.l0 k 0 bD bf ay (ah3++bD) (ah4++bf) ([]:List (jT)))else(none)))else(none))
end
def dH.T1:Bool×List (List Nat×List Nat):=(true,[([],[]),([],[]),([1],[1]),([0,2],[0,2]),([],[]),([],[]),([5],[5]),([4,6,3],[4,6]),([3,7],[3,7]),([],[]),([9,8,7,0,1,2,3,4,5,6,7,8,9],[8,9])])
def dH.B1:List Nat:=[0,0,2,7,0,0,32,127,255,0,1023]
theorem dH.ari:wV .any (opsOf Tryz.f110 1)=dH.T1:=by kernel_rfl
theorem dH.ah5:sN dH.T1.2 dH.B1=true:=by kernel_rfl
def dH.T5:Bool×List (List Nat×List Nat):=(true,[([],[]),([0],[0]),([],[]),([2],[2]),([],[]),([3,4],[3,4]),([5],[5]),([6],[6]),([7],[7]),([1,8,7],[1,8]),([0,1,2,3,4,5,6,7,8,9],[]),([10,9,9,0,1,2,3,4,5,6,7,8,9],[9,10])])
def dH.B5:List Nat:=[0,1,0,4,0,28,60,124,252,511,1023,2047]
theorem dH.arj:wV .any (opsOf Tryz.f110 5)=dH.T5:=by kernel_rfl
theorem dH.ah6:sN dH.T5.2 dH.B5=true:=by kernel_rfl
theorem dH.calls (k:Nat):∀(ig:Option Addr) (iq:Nat) (bD:List (fO)) (gK:Option Addr) (gQ:Nat) (bf:List ByteArray) (fM:Option Addr) (dO:Nat) (ay:List (jT)) (r1:List (fO)) (r2:List ByteArray) (r3:List (jT)) (w:World) (mZ:Kd.C oz w ig bD.length bD) (m_:bD.length≤iq) (ng:Kd.C Kd.string w gK bf.length bf) (ni:bf.length≤gQ) (jU:Kd.C k28 w fM ay.length ay) (jV:ay.length≤dO) (h:dH.f k bD bf ay=some (r1,r2,r3)),
  Calls Tryz.prog 110 #[.agg #[.slice ig bD.length iq, .slice gK bf.length gQ, .slice fM ay.length dO]] w fun e w'=>∃o7 AL DI:Value,e= .returned (.agg #[o7,AL,DI])∧Kd.R oz 69 w' w.heap.size (fun _=>True) o7 r1∧Kd.R Kd.string 9 w' w.heap.size (fun _=>True) AL r2∧Kd.R k28 28 w' w.heap.size (fun k_=>some k_≠(o7:Value).ownBlock∧some k_≠(AL:Value).ownBlock) DI r3∧Below w.heap.size w w':=by
 induction k using Nat.strongRecOn with
 |_ k ih=>
 intro ig iq bD gK gQ bf fM dO ay r1 r2 r3 w mZ m_ ng ni jU jV h
 cases k with
 |zero=>exact absurd h (by simp[dH.f])
 |succ k=>
 simp only[dH.f]at h;have Eu:=Tryz.underlying28;have qC:=ak mZ;have rD:=ak m_;clear mZ m_;have uw:=ak ng;have xk:=ak ni;clear ng ni;have jW:=ak jU;have oC:=ak jV;clear jU jV;have HB:=ak (Below.refl w.heap.size w);have H:=h;clear h;replace H:=ny H;obtain⟨ah3,auH,H⟩:=H;replace H:=nl H;obtain⟨ard,H⟩:=H;obtain⟨Lj,aof⟩:=nm (ah3++bD);rw[←aof.out]at H;replace H:=ny H;obtain⟨ah4,auI,H⟩:=H;replace H:=nl H;obtain⟨agE,H⟩:=H;obtain⟨Ll,aog⟩:=nm (ah4++bf);rw[←aog.out]at H;have H':=ak H;clear H;go_enter Tryz.func110,Tryz.ntmps110;try go_wp2_with (first|(refine bX HB 1 #[.slice ig bD.length iq, .slice gK bf.length gQ, .slice fM ay.length dO] 28 ?_;intro vO w4 kS aG_ hb;replace HB:=bs HB hb;clear hb)|(refine bY HB 2 #[.slice none 0 0, .slice none 0 0, .slice none 0 0] 28 ?_;intro EI w5 qP aHa hg hb;have Wp:=vT kS hg;have Wq:=vU kS hg;replace kS:=kb kS hb;replace HB:=bz HB hb;clear hb hg))
 replace kS:=ak (gU kS.out);replace qP:=ak (gU qP.out);replace HB:=ak (fZ HB.out);refine AP (n:=11) (S:=fun w'=>w'.cell? ⟨vO,0,none⟩=some (.slice ig bD.length iq)∧w'.cell? ⟨vO,1,none⟩=some (.slice gK bf.length gQ)∧w'.cell? ⟨vO,2,none⟩=some (.slice fM ay.length dO)) (ds:=[]) #[false,false,false,false,false,false,false,false,false,false,false] (by kernel_rfl) rfl rfl ⟨(aA kS.out 0).trans rfl,(aA kS.out 1).trans rfl,(aA kS.out 2).trans rfl⟩ (fun hHeld=>?_);refine su dH.ari dH.ah5 (fun Dn HW_=>?_)
 generalize w5.drew=w6 at kS qP HB hHeld⊢
 refine pl 1 ?_;refine pl 5 ?_;refine tk 2 ?_;refine tk 6 ?_;refine adW (σ:=Value×Value×Value×Value×Nat) 1 #[true,true,true,true,true,true,true,true,true,true,false] (fun s_=>[(5,s_.1),(8,s_.2.1),(9,s_.2.2.1),(12,s_.2.2.2.1),(3, .pointer (some ⟨s_.2.2.2.2,0,none⟩)),(13, .agg #[s_.2.1,s_.2.2.2.1, .slice none 0 0])]) (fun s_ w'=>(w'.cell? ⟨vO,0,none⟩=some (.slice ig bD.length iq)∧w'.cell? ⟨vO,1,none⟩=some (.slice gK bf.length gQ)∧w'.cell? ⟨vO,2,none⟩=some (.slice fM ay.length dO))∧(Kd.R oz 69 w' w.heap.size (fun _=>True) s_.2.1 Lj)∧(Kd.R Kd.string 9 w' w.heap.size (fun _=>True) s_.2.2.2.1 Ll)∧(w'.heap[vO]? =some (.cells #[.slice ig bD.length iq, .slice gK bf.length gQ, .slice fM ay.length dO] 28 (0,0)))∧(w'.heap[EI]? =some (.cells #[.slice none 0 0, .slice none 0 0, .slice none 0 0] 28 (0,0)))∧(w'.heap[s_.2.2.2.2]? =some (.cells #[.slice none 0 0, .slice none 0 0, .slice none 0 0] 28 (0,0)))∧(w.heap.size≤s_.2.2.2.2)∧(w.heap.size≤s_.2.2.2.2)∧(vO≠s_.2.2.2.2)∧(s_.2.2.2.2≠vO)∧(EI≠s_.2.2.2.2)∧(s_.2.2.2.2≠EI)∧(Below w.heap.size w w')) ?_ ?_
 rotate_left
 ·intro hJ
  repeat' (first
   |(obtain⟨Ew,Ey,PN⟩:=Kd.aH Hz.out;obtain⟨Ko,IJ,aad⟩:=Kd.aH H7.out;subst PN;subst aad;refine pl 8 ?_)
   |exact CG (by first|(simp only[xu,Act.put,zN,zO,l_c];done)|(simp only[xu,Act.put,zN,zO,l_c];rfl)) (hJ (ark, .slice Ew Lj.length Ey,arl, .slice Ko Ll.length IJ,rW) _ ⟨hHeld,Hz.out,H7.out,kS.out,qP.out,mQ.out,ah7.out,ah7.out,oJ.out,zy.out,AQ.out,AU.out,HB.out⟩)
   |((first|refine th3 0 4 9 ?_ ?_ ?_|refine th3 3 4 9 ?_ ?_ ?_|refine tw2 0 4 ?_ ?_|refine tw2 0 9 ?_ ?_|refine tw2 3 4 ?_ ?_|refine tw2 3 9 ?_ ?_|refine tw2 4 9 ?_ ?_|refine tw2 7 9 ?_ ?_|refine o1 0 ?_|refine o1 3 ?_|refine o1 4 ?_|refine o1 7 ?_|refine o1 9 ?_)<;>(intro K hK;first
    |(refine gn 3 ?_;refine FW ?hg (N:=3) ?hd (cs:=#[.slice none 0 0, .slice none 0 0, .slice none 0 0]) (t:=28) ?hr ?_;(case hd=>rfl);(case hg=>rfl);(case hr=>first|(go_simp;done)|(go_simp;rfl));intro rW hg w_ hbox hb;have ah7:=XG HB hg;have oJ:=vT kS hg;have zy:=vU kS hg;have AQ:=vT qP hg;have AU:=vU qP hg;(try replace DJ:=rb DJ hb);(try replace Hz:=rb Hz hb);(try replace DK:=rb DK hb);(try replace H7:=rb H7 hb);replace kS:=kb kS hb;replace qP:=kb qP hb;replace HB:=bs HB hb;have mQ:=ak hbox;clear hbox hb hg;refine hK.out _ _ sx (fun hHeld=>?_);clear hK K;refine nrm ?_)
    |(refine gn 5 ?_;refine Kd.sD oz _ 69 ?hg (N:=5) ?hd (xs:=([]:List fO)) (inner:=[]) (ok:=fun _=>True) (yC:=fun _=>True) ?hr ?hp (fun _ hk=>hk) trivial (Below.refl _ _) (Nat.le_refl _) (by simp) ?_;(case hd=>rfl);(case hg=>rfl);(case hr=>first|(go_simp;done)|(go_simp;rfl));(case hp=>exact(bU.none _ _));intro ark w_ ho hb _ _;rw[←auH.out]at ho;replace ho:=Kd.aG ho (aj (ul HB.out));(try replace DJ:=rb DJ hb);(try replace Hz:=rb Hz hb);(try replace DK:=rb DK hb);(try replace H7:=rb H7 hb);(try replace mQ:=kb mQ hb);replace kS:=kb kS hb;replace qP:=kb qP hb;replace HB:=bs HB hb;have DJ:=ak ho;clear ho hb;refine hK.out _ _ sx (fun hHeld=>?_);clear hK K;refine nrm ?_)
    |(refine gn 9 ?_;refine Kd.sD Kd.string _ 9 ?hg (N:=9) ?hd (xs:=([]:List ByteArray)) (inner:=[]) (ok:=fun _=>True) (yC:=fun _=>True) ?hr ?hp (fun _ hk=>hk) trivial (Below.refl _ _) (Nat.le_refl _) (by simp) ?_;(case hd=>rfl);(case hg=>rfl);(case hr=>first|(go_simp;done)|(go_simp;rfl));(case hp=>exact(bU.none _ _));intro arl w_ ho hb _ _;rw[←auI.out]at ho;replace ho:=Kd.aG ho (aj (ul HB.out));(try replace DJ:=rb DJ hb);(try replace Hz:=rb Hz hb);(try replace DK:=rb DK hb);(try replace H7:=rb H7 hb);(try replace mQ:=kb mQ hb);replace kS:=kb kS hb;replace qP:=kb qP hb;replace HB:=bs HB hb;have DK:=ak ho;clear ho hb;refine hK.out _ _ sx (fun hHeld=>?_);clear hK K;refine nrm ?_)
    |(refine gn 8 ?_;refine Kd.vI oz (w0:=w) w.heap.size (by rfl) (.tmp 5) (.tmp 7) 25 69 (.agg #[(.string ⟨#[]⟩),(.string ⟨#[]⟩)]) 32 rfl Tryz.underlying25 DF rfl (by decide) (by omega) ark ah3 bD _ _ _ (fun _=>True) (fun _=>False) rfl rfl DJ.out (Kd.aN qC.out HB.out) (fun _ _ h=>h) (fun _ h=>h.elim) (fun _ _=>trivial) HB.out (aj HB.out) (by have:=ard.out;omega) ?_;intro auJ w_ ho hb hg hat;rw[←aof.out]at ho;(try replace DK:=ak (Kd.oU DK.out (Kd.jA DJ.out) (by decide) hg));(try replace H7:=ak (Kd.oU H7.out (Kd.jA DJ.out) (by decide) hg));(try replace mQ:=ak (bP mQ.out hg (Kd.qc DJ.out mQ.out (by decide))));replace kS:=ak (bP kS.out hg (Kd.qc DJ.out kS.out (by decide)));replace qP:=ak (bP qP.out hg (Kd.qc DJ.out qP.out (by decide)));replace HB:=ak hb;have Hz:=ak ho;clear DJ ho hb hg hat;refine hK.out _ _ sx (fun hHeld=>?_);clear hK K;refine nrm ?_)
    |(refine gn 12 ?_;refine Kd.vI Kd.string (w0:=w) w.heap.size (by rfl) (.tmp 9) (.tmp 11) 23 9 (.string ⟨#[]⟩) 16 rfl Tryz.underlying23 info9 rfl (by decide) (by omega) arl ah4 bf _ _ _ (fun _=>True) (fun _=>False) rfl rfl DK.out (Kd.aN uw.out HB.out) (fun _ _ h=>h) (fun _ h=>h.elim) (fun _ _=>trivial) HB.out (aj HB.out) (by have:=agE.out;omega) ?_;intro auK w_ ho hb hg hat;rw[←aog.out]at ho;(try replace DJ:=ak (Kd.oU DJ.out (Kd.jA DK.out) (by decide) hg));(try replace Hz:=ak (Kd.oU Hz.out (Kd.jA DK.out) (by decide) hg));(try replace mQ:=ak (bP mQ.out hg (Kd.qc DK.out mQ.out (by decide))));replace kS:=ak (bP kS.out hg (Kd.qc DK.out kS.out (by decide)));replace qP:=ak (bP qP.out hg (Kd.qc DK.out qP.out (by decide)));replace HB:=ak hb;have H7:=ak ho;clear DK ho hb hg hat;refine hK.out _ _ sx (fun hHeld=>?_);clear hK K;refine nrm ?_))))
 rintro⟨ark,auJ,arl,auK,rW⟩ w16 ⟨hS_,h0_,h1_,h2_,h3_,h4_,h5_,h6_,h7_,h8_,h9_,RQ,XH⟩;have yU:ah (Kd.R oz 69 w16 w.heap.size (fun _=>True) auJ Lj):=⟨h0_⟩
 have yV:ah (Kd.R Kd.string 9 w16 w.heap.size (fun _=>True) auK Ll):=⟨h1_⟩
 have zQ:ah (w16.heap[vO]? =some (.cells #[.slice ig bD.length iq, .slice gK bf.length gQ, .slice fM ay.length dO] 28 (0,0))):=⟨h2_⟩
 have Cb:ah (w16.heap[EI]? =some (.cells #[.slice none 0 0, .slice none 0 0, .slice none 0 0] 28 (0,0))):=⟨h3_⟩
 have FP:ah (w16.heap[rW]? =some (.cells #[.slice none 0 0, .slice none 0 0, .slice none 0 0] 28 (0,0))):=⟨h4_⟩
 have GK:ah (w.heap.size≤rW):=⟨h5_⟩
 have IC:ah (w.heap.size≤rW):=⟨h6_⟩
 have MH:ah (vO≠rW):=⟨h7_⟩
 have Ws:ah (rW≠vO):=⟨h8_⟩
 have n9_:ah (EI≠rW):=⟨h9_⟩
 have MO:ah (rW≠EI):=⟨RQ⟩
 have aae:ah (Below w.heap.size w w16):=⟨XH⟩
 clear kS qP HB h0_ h1_ h2_ h3_ h4_ h5_ h6_ h7_ h8_ h9_ RQ XH;have Hz:=yU;have H7:=yV;have kS:=zQ;have qP:=Cb;have mQ:=FP;have ah7:=GK;have aHb:=IC;have oJ:=MH;have zy:=Ws;have AQ:=n9_;have AU:=MO;have HB:=aae;clear yU yV zQ Cb FP GK IC MH Ws n9_ MO aae;have hHeld:w16.cell? ⟨vO,0,none⟩=some (.slice ig bD.length iq)∧w16.cell? ⟨vO,1,none⟩=some (.slice gK bf.length gQ)∧w16.cell? ⟨vO,2,none⟩=some (.slice fM ay.length dO):=hS_;obtain⟨Ko,IJ,aad⟩:=Kd.aH H7.out
 (first|subst aad|(injection aad with nD tu nG;have tC:=nD.symm;have tH:=nG.symm;clear nD tu nG;subst tC;subst tH));obtain⟨Ew,Ey,PN⟩:=Kd.aH Hz.out
 (first|subst PN|(injection PN with nD tu nG;have tC:=nD.symm;have tH:=nG.symm;clear nD tu nG;subst tC;subst tH));refine CG (a':=?_) ?_ ?_
 rotate_left
 ·simp only[xu,Act.put,zN,zO,l_c];rfl
 refine o1 10 (fun K hK=>?_);have aKn:w16.cell? ⟨rW,0,none⟩=some (.slice none 0 0):=(aA mQ.out 0).trans rfl;have aHc:=fF mQ.out 0;have aCe:=oJ.out;have aCf:=AQ.out;have aCg:=zy.out;have aCh:=AU.out;have aKo:w16.cell? ⟨rW,1,none⟩=some (.slice none 0 0):=(aA mQ.out 1).trans rfl;have aHd:=fF mQ.out 1;have aCi:=oJ.out;have aCj:=AQ.out;have aCk:=zy.out;have aCl:=AU.out;have aKp:w16.cell? ⟨rW,2,none⟩=some (.slice none 0 0):=(aA mQ.out 2).trans rfl;have aHe:=fF mQ.out 2;have aCm:=oJ.out;have aCn:=AQ.out;have aCo:=zy.out;have aCp:=AU.out;refine FX (w1:=?_) (by rfl) rfl ?_ ?_
 rotate_left
 ·go_simp;rfl
 refine hK.out _ _ ⟨((cell_far (p:=⟨rW,_,none⟩) oJ.out _).trans (((cell_far (p:=⟨rW,_,none⟩) oJ.out _).trans (((cell_far (p:=⟨rW,_,none⟩) oJ.out _).trans (hHeld.1)))))),((cell_far (p:=⟨rW,_,none⟩) oJ.out _).trans (((cell_far (p:=⟨rW,_,none⟩) oJ.out _).trans (((cell_far (p:=⟨rW,_,none⟩) oJ.out _).trans (hHeld.2.1)))))),((cell_far (p:=⟨rW,_,none⟩) oJ.out _).trans (((cell_far (p:=⟨rW,_,none⟩) oJ.out _).trans (((cell_far (p:=⟨rW,_,none⟩) oJ.out _).trans (hHeld.2.2))))))⟩ (fun hHeld=>?_);clear hK K;refine FY (xX Dn.out (by kernel_rfl)) ?_;try go_wp2
 go_loopg [4] k (fun kq v4 w'=>∃(eU:Int) (Dp:List (jT)) (Bv:Value),v4= .int .i64 eU∧ah (dH.l0 kq eU bD bf ay Lj Ll Dp=some (r1,r2,r3))∧ah (kq≤k)∧ah (Kd.R oz 69 w' w.heap.size (fun _=>True) (.slice Ew Lj.length Ey) Lj)∧ah (Kd.R Kd.string 9 w' w.heap.size (fun _=>True) (.slice Ko Ll.length IJ) Ll)∧ah (Kd.R k28 28 w' w.heap.size (fun k_=>some k_≠((.slice Ew Lj.length Ey):Value).ownBlock∧some k_≠((.slice Ko Ll.length IJ):Value).ownBlock∧k_≠vO∧k_≠EI∧k_≠rW) Bv Dp)∧ah (w'.heap[vO]? =some (.cells #[(.slice ig bD.length iq),(.slice gK bf.length gQ),(.slice fM ay.length dO)] 28 (0,0)))∧ah (w'.heap[EI]? =some (.cells #[(.slice none 0 0),(.slice none 0 0),(.slice none 0 0)] 28 (0,0)))∧ah (w'.heap[rW]? =some (.cells #[(.slice Ew Lj.length Ey),(.slice Ko Ll.length IJ),Bv] 28 (0,0)))∧ah (Below w.heap.size w w'))
 case atStart=>exact⟨_,_,_,rs,H',⟨Nat.le_refl _⟩,⟨rr⟩,⟨rr⟩,⟨nx⟩,⟨bq⟩,⟨bq⟩,⟨bq⟩,⟨bb⟩⟩
 case round=>
  clear H';obtain⟨eU,Dp,Bv,rfl,HA,yH,sV,sW,pJ,kS,qP,mQ,HB⟩:=hrel
  cases gk with
  |zero=>exact zz HA.out
  |succ k1=>
   obtain⟨H⟩:=HA;simp only[dH.l0]at H;replace H:=sd H;rcases H with⟨EJ,H⟩|⟨EJ,H⟩
   ·replace H:=oG H;obtain⟨CJ,H⟩:=H;replace H:=bd H;obtain⟨⟨ah8,ah9,ah_⟩,A24,H⟩:=H
    (try dsimp only at H);replace H:=nl H;obtain⟨TT,H⟩:=H;obtain⟨aKq,aoh⟩:=nm (Dp++[(⟨ah8,ah9,ah_⟩:jT)]);rw[←aoh.out]at H;have H':=ak H;clear H;have auL:=Wp.out;have auM:=Wq.out;have adX:=oJ.out;have adY:=zy.out;have aia:=iJ kS.out;try go_wp2
    replace sV:=ak (Kd.lQ sV.out);replace sW:=ak (Kd.lQ sW.out);replace pJ:=ak (Kd.lQ pJ.out);replace kS:=ak (gU kS.out);replace qP:=ak (gU qP.out);replace mQ:=ak (gU mQ.out);replace HB:=ak (fZ HB.out);have arn:=zi eU;have aro:=zj eU ay.length;obtain⟨MP,aib,aic,aie,aif,aii,aij,aDV,SL,SN,SQ,adZ,ad1,ad2,ad3,ad4,ad5⟩:=yT jW.out eU arn aro;have Bz:=SQ;have BA:=SN;have BD:=SL;cases aDV;replace SL:=cl HB.out SL;replace SN:=cl HB.out SN;replace SQ:=cl HB.out SQ;have ad6:=ak ad1;have ama:=ak adZ;clear ad1 adZ;have ad7:=ak ad3;have amb:=ak ad2;clear ad3 ad2;have ad8:=ak ad5;have amc:=ak ad4;clear ad5 ad4;replace arn:=eq_true arn;replace aro:=eq_true aro;refine AP (n:=12) (S:=fun w'=>w'.cell? ⟨rW,0,none⟩=some (.slice Ew Lj.length Ey)∧w'.cell? ⟨rW,1,none⟩=some (.slice Ko Ll.length IJ)∧w'.cell? ⟨rW,2,none⟩=some (Bv)∧w'.cell? ⟨vO,0,none⟩=some (.slice ig bD.length iq)∧w'.cell? ⟨vO,1,none⟩=some (.slice gK bf.length gQ)∧w'.cell? ⟨vO,2,none⟩=some (.slice (some MP) ay.length dO)∧w'.cell? (MP.add ((eU).toNat*3))=some (.slice aib ((au ay eU).f0).length aic)∧w'.cell? ⟨(MP.add ((eU).toNat*3)).block,(MP.add ((eU).toNat*3)).off+1,none⟩=some (.slice aie ((au ay eU).f1).length aif)∧w'.cell? ⟨(MP.add ((eU).toNat*3)).block,(MP.add ((eU).toNat*3)).off+2,none⟩=some (.slice aii ((au ay eU).f2).length aij)) (ds:=[11]) #[false,false,false,false,false,false,false,false,false,false,false,false] (by kernel_rfl) rfl rfl ⟨(aA mQ.out 0).trans rfl,(aA mQ.out 1).trans rfl,(aA mQ.out 2).trans rfl,(aA kS.out 0).trans rfl,(aA kS.out 1).trans rfl,(aA kS.out 2).trans rfl,((HB.out.cell (World.block_lt_of_cell? w _ BD)).trans BD),((HB.out.cell (World.block_lt_of_cell? w _ BA)).trans BA),((HB.out.cell (World.block_lt_of_cell? w _ Bz)).trans Bz)⟩ (fun hHeld=>?_);refine su dH.arj dH.ah6 (fun Dn HW_=>?_)
    generalize wr.drew=w29 at sV sW pJ kS qP mQ HB ad6 ad7 ad8 SL SN SQ hHeld⊢
    refine pl 0 ?_;refine pl 2 ?_;refine pl 4 ?_;refine tk 1 ?_;refine tk 3 ?_;refine pl 5 ?_;refine tk 6 ?_;refine o1 7 (fun K hK=>?_);refine xw Tryz.func110 (by kernel_rfl) rfl #[.agg #[.slice aib ((au ay eU).f0).length aic, .slice aie ((au ay eU).f1).length aif, .slice aii ((au ay eU).f2).length aij]] (by rfl) rfl rfl ma ?_
    with_reducible refine(ih k1 (by have:=yH.out;omega) _ _ ((au ay eU).f0) _ _ ((au ay eU).f1) _ _ ((au ay eU).f2) ah8 ah9 ah_ _ ?dZ ?iw ?zU ?DL ?zV ?aik A24.out).mono ?_
    (case dZ=>repeat(first|exact(Kd.aN ad6.out HB.out)|(with_reducible refine Kd.lY ?_ _)|(with_reducible refine Kd.lZ ?_ _)|(with_reducible refine Kd.pX ?_)))
    (case iw=>exact ama.out)
    (case zU=>repeat(first|exact(Kd.aN ad7.out HB.out)|(with_reducible refine Kd.lY ?_ _)|(with_reducible refine Kd.lZ ?_ _)|(with_reducible refine Kd.pX ?_)))
    (case DL=>exact amb.out)
    (case zV=>repeat(first|exact(Kd.aN ad8.out HB.out)|(with_reducible refine Kd.lY ?_ _)|(with_reducible refine Kd.lZ ?_ _)|(with_reducible refine Kd.pX ?_)))
    (case aik=>exact amc.out);rintro e w30 ⟨aKr,aKs,aKt,rfl,ho0,ho1,ho2,hb⟩;refine⟨_,rfl,?_⟩;have ail:=ak (Kd.aG (Kd.fE ho0 (Kd.jP (ur sV.out))) (aj bb));have ain:=ak (Kd.aG (Kd.fE ho1 (Kd.jP (ur sW.out))) (aj bb));have aio:=ak (Kd.aG (Kd.kF (Kd.kF (Kd.kF (Kd.fE (Kd.fE (Kd.fE ho2 (Kd.jP (ur sV.out))) (Kd.jP (ur sW.out))) (Kd.jP (ur pJ.out))) (g:=vO) (o:= .cells #[.slice ig bD.length iq, .slice gK bf.length gQ, .slice (some MP) ay.length dO] 28 (0,0)) (ub kS.out)) (g:=EI) (o:= .cells #[.slice none 0 0, .slice none 0 0, .slice none 0 0] 28 (0,0)) (ub qP.out)) (g:=rW) (o:= .cells #[.slice Ew Lj.length Ey, .slice Ko Ll.length IJ,Bv] 28 (0,0)) (ub mQ.out)) (aj bb));replace sV:=ak (Kd.eu (ur sV.out) (Kd.b_ ho0) hb);replace sW:=ak (Kd.eu (ur sW.out) (Kd.b_ ho1) hb);replace pJ:=ak (Kd.aX (Kd.qX (Kd.qX (Kd.qX (Kd.aac (ur pJ.out) hb) (Kd.b_ ho0)) (Kd.b_ ho1)) (Kd.b_ ho2)) (fun _ h_=>h_.1));replace kS:=kb kS hb;replace qP:=kb qP hb;replace mQ:=kb mQ hb;replace HB:=bz HB hb;try clear hb
    try clear ho0
    try clear ho1
    try clear ho2
    obtain⟨amd,ame,amf⟩:=Kd.aH ail.out
    (first|subst amf|(injection amf with nD tu nG;have tC:=nD.symm;have tH:=nG.symm;clear nD tu nG;subst tC;subst tH));obtain⟨PO,PS,XI⟩:=Kd.aH ain.out
    (first|subst XI|(injection XI with nD tu nG;have tC:=nD.symm;have tH:=nG.symm;clear nD tu nG;subst tC;subst tH));obtain⟨aip,aiq,abO⟩:=Kd.aH aio.out
    (first|subst abO|(injection abO with nD tu nG;have tC:=nD.symm;have tH:=nG.symm;clear nD tu nG;subst tC;subst tH));refine hK.out _ _ ⟨(aA mQ.out 0).trans rfl,(aA mQ.out 1).trans rfl,(aA mQ.out 2).trans rfl,(aA kS.out 0).trans rfl,(aA kS.out 1).trans rfl,(aA kS.out 2).trans rfl,((HB.out.cell (World.block_lt_of_cell? w _ BD)).trans BD),((HB.out.cell (World.block_lt_of_cell? w _ BA)).trans BA),((HB.out.cell (World.block_lt_of_cell? w _ Bz)).trans Bz)⟩ (fun hHeld=>?_);clear hK K;refine nrm ?_;refine o1 8 (fun K hK=>?_);refine DN (w1:=?_) (v:=?_) (by rfl) rfl ?_ ?_
    rotate_left 2
    ·go_simp;constructor
     ·rfl
     ·rfl
    refine hK.out _ _ ⟨(aA (iD mQ.out _) 0).trans rfl,(aA (iD mQ.out _) 1).trans rfl,(aA (iD mQ.out _) 2).trans rfl,(aA (iD kS.out _) 0).trans rfl,(aA (iD kS.out _) 1).trans rfl,(aA (iD kS.out _) 2).trans rfl,(World.cell?_alloc_lt _ _ _ (World.block_lt_of_cell? _ _ (((HB.out.cell (World.block_lt_of_cell? w _ BD)).trans BD)))).trans (((HB.out.cell (World.block_lt_of_cell? w _ BD)).trans BD)),(World.cell?_alloc_lt _ _ _ (World.block_lt_of_cell? _ _ (((HB.out.cell (World.block_lt_of_cell? w _ BA)).trans BA)))).trans (((HB.out.cell (World.block_lt_of_cell? w _ BA)).trans BA)),(World.cell?_alloc_lt _ _ _ (World.block_lt_of_cell? _ _ (((HB.out.cell (World.block_lt_of_cell? w _ Bz)).trans Bz)))).trans (((HB.out.cell (World.block_lt_of_cell? w _ Bz)).trans Bz))⟩ (fun hHeld=>?_);clear hK K;refine nrm ?_;refine o1 9 (fun K hK=>?_);refine Kd.nV k28 (w0:=w) w.heap.size (by rfl) (.tmp 22) (.tmp 29) 26 28 (.agg #[(.slice none 0 0),(.slice none 0 0),(.slice none 0 0)]) 72 rfl Tryz.underlying26 TK rfl (by decide) (by omega) Bv Dp (⟨ah8,ah9,ah_⟩:jT) [.slice amd ah8.length ame, .slice PO ah9.length PS, .slice aip ah_.length aiq] (fun k_=>some k_≠(.slice Ew Lj.length Ey:Value).ownBlock∧some k_≠(.slice Ko Ll.length IJ:Value).ownBlock∧k_≠vO∧k_≠EI∧k_≠rW) (fun k_=>((fun k_=>some k_≠(.slice Ew Lj.length Ey:Value).ownBlock∧some k_≠(.slice Ko Ll.length IJ:Value).ownBlock∧k_≠vO∧k_≠EI∧k_≠rW)) k_∧some k_≠(Bv:Value).ownBlock) rfl rfl ?aP (fun _ hk=>hk) ?aF ?aO ?aB ?aS ?aL ?_
    (case aP=>exact MJ _ _ _ (⟨ah8,ah9,ah_⟩:jT) (Kd.aX (Kd.jS (Kd.jS (Kd.jS (Kd.nU (Kd.nU (ail.out) (Kd.jA sW.out) (by decide)) (Kd.jA pJ.out) (by decide)) kS.out (by decide)) qP.out (by decide)) mQ.out (by decide)) (fun k_ hk=>⟨⟨hk.1.1.1.1.1.2,⟨hk.1.1.1.1.2,⟨hk.1.1.2,⟨hk.1.2,hk.2⟩⟩⟩⟩,hk.1.1.1.2⟩)) (Kd.aX (Kd.jS (Kd.jS (Kd.jS (Kd.nU (Kd.nU (ain.out) (Kd.jA sV.out) (by decide)) (Kd.jA pJ.out) (by decide)) kS.out (by decide)) qP.out (by decide)) mQ.out (by decide)) (fun k_ hk=>⟨⟨hk.1.1.1.1.2,⟨hk.1.1.1.1.1.2,⟨hk.1.1.2,⟨hk.1.2,hk.2⟩⟩⟩⟩,hk.1.1.1.2⟩)) (Kd.aX (aio.out) (fun k_ hk=>⟨⟨hk.1.1.1.1.1.2,⟨hk.1.1.1.1.2,⟨hk.1.1.2,⟨hk.1.2,hk.2⟩⟩⟩⟩,hk.1.1.1.2⟩)))
    (case aB=>exact bb)
    (case aF=>exact(fun k_ hk=>⟨Kd.fresh' (Kd.jP (ur sV.out)) k_ hk,Kd.fresh' (Kd.jP (ur sW.out)) k_ hk,Kd.xq (g:=vO) (o:= .cells #[.slice ig bD.length iq, .slice gK bf.length gQ, .slice (some MP) ay.length dO] 28 (0,0)) (ub kS.out) k_ hk,Kd.xq (g:=EI) (o:= .cells #[.slice none 0 0, .slice none 0 0, .slice none 0 0] 28 (0,0)) (ub qP.out) k_ hk,Kd.xq (g:=rW) (o:= .cells #[.slice Ew Lj.length Ey, .slice Ko Ll.length IJ,Bv] 28 (0,0)) (ub mQ.out) k_ hk⟩))
    (case aO=>exact(ur (Kd.aX pJ.out (fun _ hk=>⟨hk.1.1.1.1,⟨hk.1.1.1.2.1,⟨hk.1.1.1.2.2.1,⟨hk.1.1.1.2.2.2.1,hk.1.1.1.2.2.2.2⟩⟩⟩⟩))))
    (case aS=>exact(aj bb))
    (case aL=>have:=TT.out;omega);intro aKu w31 ho hb hg hat
    rw[←aoh.out]at ho;have yU:=ak (Kd.oU (ur sV.out) (Kd.jA (ur pJ.out)) (by decide) hg);have yV:=ak (Kd.oU (ur sW.out) (Kd.jA (ur pJ.out)) (by decide) hg);have zQ:=ak (bP (g:=vO) (o:= .cells #[.slice ig bD.length iq, .slice gK bf.length gQ, .slice (some MP) ay.length dO] 28 (0,0)) (ub kS.out) hg (Kd.yB pJ.out (fun _ hk=>hk.1.1.1.2.2.1)));have Cb:=ak (bP (g:=EI) (o:= .cells #[.slice none 0 0, .slice none 0 0, .slice none 0 0] 28 (0,0)) (ub qP.out) hg (Kd.yB pJ.out (fun _ hk=>hk.1.1.1.2.2.2.1)));have FP:=ak (bP (g:=rW) (o:= .cells #[.slice Ew Lj.length Ey, .slice Ko Ll.length IJ,Bv] 28 (0,0)) (ub mQ.out) hg (Kd.yB pJ.out (fun _ hk=>hk.1.1.1.2.2.2.2)));have GK:=ak (hb);have IC:=ak (ho);clear sV sW kS qP mQ HB pJ ail ain aio;have sV:=yU;have sW:=yV;have kS:=zQ;have qP:=Cb;have mQ:=FP;have HB:=GK;have auN:=IC;clear yU yV zQ Cb FP GK IC ho hb hg hat
    obtain⟨amg,amh,abP⟩:=Kd.aH auN.out
    (first|subst abP|(injection abP with nD tu nG;have tC:=nD.symm;have tH:=nG.symm;clear nD tu nG;subst tC;subst tH));refine hK.out _ _ ⟨(aA mQ.out 0).trans rfl,(aA mQ.out 1).trans rfl,(aA mQ.out 2).trans rfl,(aA kS.out 0).trans rfl,(aA kS.out 1).trans rfl,(aA kS.out 2).trans rfl,((HB.out.cell (World.block_lt_of_cell? w _ BD)).trans BD),((HB.out.cell (World.block_lt_of_cell? w _ BA)).trans BA),((HB.out.cell (World.block_lt_of_cell? w _ Bz)).trans Bz)⟩ (fun hHeld=>?_);clear hK K;refine nrm ?_;refine pl 10 ?_;refine H9 (i:=11) (N:=none) #[true,true,true,true,true,true,true,true,true,true,true,true] rfl rfl (AV Dn.out (by kernel_rfl)) (by decide) (fun K hK=>?_);have aDW:w31.cell? ⟨rW,2,none⟩=some (Bv):=(aA mQ.out 2).trans rfl;have auO:=fF mQ.out 2;have ami:=oJ.out;have amj:=AQ.out;have amk:=zy.out;have aml:=AU.out;refine FX (w1:=?_) (by rfl) rfl ?_ ?_
    rotate_left
    ·go_simp;rfl
    refine hK.out _ _ ?_;clear hK K;refine FY (xX Dn.out (by kernel_rfl)) ?_;try go_wp2
    go_roundg k1
    case measure=>exact kl
    case rel=>exact⟨_,_,_,rs,H',⟨kl⟩,⟨rr⟩,⟨rr⟩,⟨rr⟩,⟨bq⟩,⟨bq⟩,⟨bq⟩,⟨bb⟩⟩
   ·obtain⟨rfl,rfl,rfl⟩:=s3 H;have auP:=Wp.out;have auQ:=Wq.out;have auR:=oJ.out;have auS:=zy.out;have z39:=iJ kS.out;have air:=AU.out;have ais:=AQ.out;have arp:=iJ mQ.out;have z42:=iJ qP.out;obtain⟨aDX,aDY,aDZ⟩:=Kd.aH pJ.out;subst aDZ;go_wp2;refine bodyPost_ret (results_cell_row rfl _ _ EI 28 #[.slice Ew Lj.length Ey, .slice Ko Ll.length IJ, .slice aDX Dp.length aDY] (0,0) _ rfl bq Tryz.underlying28 rfl (by kernel_rfl)) rfl ?_;exact⟨_,_,_,er,rr,rr,rr,bb⟩
set_option maxHeartbeats 8000000
set_option maxRecDepth 100000
attribute [local go_sem high] auz
def jh.l0:Nat→List (fO)→List (fO)→Int→Int→Option (Bool)
 |0,_,_,_,_=>none
 |k+1,x0,x1,x12,GI=>if GI<x12 then(if 0≤GI then(if GI<(x0.length:Int)then(if GI<(x1.length:Int)then(if(!((((dU x0 GI).f0).toList)==(((dU x1 GI).f0).toList))||(!((((dU x0 GI).f1).toList)==(((dU x1 GI).f1).toList))))=true then(some false)else(jh.l0 k x0 x1 x12 (wrap64 (GI+1))))else(none))else(none))else(none))else(some true)
def jh.f (k:Nat) (l0:List (fO)) (l1:List (fO)):Option (Bool):=if(l0.length:Int)=(l1.length:Int)then(jh.l0 k l0 l1 (l0.length:Int) 0)else(some false)
theorem jh.calls {k c0 c1:Nat} {A0 A1:Option Addr} {l0 l1:List (fO)} {r:Bool} {w:World} (hr0:Kd.C oz w A0 l0.length l0) (hc0:l0.length≤c0) (hr1:Kd.C oz w A1 l1.length l1) (hc1:l1.length≤c1) (h:jh.f k l0 l1=some r):
  Calls Tryz.prog 62 #[.slice A0 l0.length c0, .slice A1 l1.length c1] w fun e w'=>e= .returned (.bool r)∧dN w w':=by
 have FZ:=Tryz.underlying69;have HR0:=ak hr0;have zx:=ak hc0;clear hr0 hc0;have HR1:=ak hr1;have HC1:=ak hc1;clear hr1 hc1;unfold jh.f at h;have H:=h;clear h;replace H:=sp H;rcases H with⟨c3,H⟩|⟨c3,H⟩
 ·have iT:=beq_iff_eq.mpr c3;have zW:=bne_eq_false_iff_eq.mpr c3;have XJ:(l0.length==l1.length)=true:=by first|simpa using c3|(simp at c3⊢;omega)
  clear c3;have H':=ak H;clear H;go_enter Tryz.func62,Tryz.ntmps62;go_wp2;repeat(go_quiet (fail);try go_wp2)
  go_loopg [13] k (fun kq v13 w'=>∃(kT:Int),v13= .int .i64 kT∧ah (jh.l0 kq l0 l1 (l0.length:Int) kT=some r)∧ah (kq≤k)∧dN w w')
  case atStart=>exact⟨_,rs,H',⟨Nat.le_refl _⟩,dn⟩
  case round=>
   clear H';try clear c3
   try clear iT
   try clear zW
   try clear XJ
   obtain⟨kT,rfl,HA,yH,⟨m1,rfl⟩⟩:=hrel
   cases gk with
   |zero=>exact zz HA.out
   |succ k1=>
    obtain⟨H⟩:=HA;simp only[jh.l0]at H;replace H:=sd H;rcases H with⟨qW,H⟩|⟨qW,H⟩
    ·replace H:=oG H;obtain⟨nT,H⟩:=H;replace H:=oG H;obtain⟨oV,H⟩:=H;replace H:=oG H;obtain⟨tJ,H⟩:=H;replace H:=sp H;rcases H with⟨c8,H⟩|⟨c8,H⟩
     ·have uG:(!((((dU l0 kT).f0).toList)==(((dU l1 kT).f0).toList))||(!((((dU l0 kT).f1).toList)==(((dU l1 kT).f1).toList))))=true:=c8;clear c8;obtain rfl:=s1 H;have abQ:=zi kT;have abR:=zj kT l0.length;obtain⟨auT,arq,amm,amn⟩:=qB HR0.out kT abQ abR;cases arq;replace abQ:=eq_true abQ;replace abR:=eq_true abR;have abS:=zi kT;have abT:=zj kT l1.length;obtain⟨auU,ars,amo,amq⟩:=qB HR1.out kT abS abT;cases ars;replace abS:=eq_true abS;replace abT:=eq_true abT;go_wp2;repeat(go_quiet (fail);try go_wp2)
      go_ret;exact⟨rs,dn⟩
     ·have uG:(!((((dU l0 kT).f0).toList)==(((dU l1 kT).f0).toList))||(!((((dU l0 kT).f1).toList)==(((dU l1 kT).f1).toList))))=false:=by simpa using c8
      clear c8;have H':=ak H;clear H;have abQ:=zi kT;have abR:=zj kT l0.length;obtain⟨auT,arq,amm,amn⟩:=qB HR0.out kT abQ abR;cases arq;replace abQ:=eq_true abQ;replace abR:=eq_true abR;have abS:=zi kT;have abT:=zj kT l1.length;obtain⟨auU,ars,amo,amq⟩:=qB HR1.out kT abS abT;cases ars;replace abS:=eq_true abS;replace abT:=eq_true abT;go_wp2;repeat(go_quiet (fail);try go_wp2)
      go_roundg k1
      case measure=>exact kl
      case rel=>exact⟨_,rs,H',⟨kl⟩,dn⟩
    ·obtain rfl:=s1 H;go_wp2;repeat(go_quiet (fail);try go_wp2)
     go_ret;exact⟨rs,dn⟩
 ·have iT:=beq_eq_false_iff_ne.mpr c3;have zW:=bne_iff_ne.mpr c3;have XJ:(l0.length==l1.length)=false:=by first|simpa using c3|(simp at c3⊢;omega)
  obtain rfl:=s1 H;go_enter Tryz.func62,Tryz.ntmps62;go_wp2;repeat(go_quiet (fail);try go_wp2)
  go_ret;exact⟨rs,dn⟩
def bI.l0:Nat→List ByteArray→List ByteArray→Int→Int→Option (Bool)
 |0,_,_,_,_=>none
 |k+1,x0,x1,x12,GI=>if GI<x12 then(if 0≤GI then(if GI<(x0.length:Int)then(if GI<(x1.length:Int)then(if(qg ByteArray.empty x0 GI).toList=(qg ByteArray.empty x1 GI).toList then(bI.l0 k x0 x1 x12 (wrap64 (GI+1)))else(some false))else(none))else(none))else(none))else(some true)
def bI.f (k:Nat) (l0:List ByteArray) (l1:List ByteArray):Option (Bool):=if(l0.length:Int)=(l1.length:Int)then(bI.l0 k l0 l1 (l0.length:Int) 0)else(some false)
theorem bI.calls {k c0 c1:Nat} {A0 A1:Option Addr} {l0 l1:List ByteArray} {r:Bool} {w:World} (hr0:Kd.C Kd.string w A0 l0.length l0) (hc0:l0.length≤c0) (hr1:Kd.C Kd.string w A1 l1.length l1) (hc1:l1.length≤c1) (h:bI.f k l0 l1=some r):
  Calls Tryz.prog 63 #[.slice A0 l0.length c0, .slice A1 l1.length c1] w fun e w'=>e= .returned (.bool r)∧dN w w':=by
 have HR0:=ak hr0;have zx:=ak hc0;clear hr0 hc0;have HR1:=ak hr1;have HC1:=ak hc1;clear hr1 hc1;unfold bI.f at h;have H:=h;clear h;replace H:=sp H;rcases H with⟨c3,H⟩|⟨c3,H⟩
 ·have iT:=beq_iff_eq.mpr c3;have zW:=bne_eq_false_iff_eq.mpr c3;have XJ:(l0.length==l1.length)=true:=by first|simpa using c3|(simp at c3⊢;omega)
  clear c3;have H':=ak H;clear H;go_enter Tryz.func63,Tryz.ntmps63;go_wp2;repeat(go_quiet (fail);try go_wp2)
  go_loopg [13] k (fun kq v13 w'=>∃(kT:Int),v13= .int .i64 kT∧ah (bI.l0 kq l0 l1 (l0.length:Int) kT=some r)∧ah (kq≤k)∧dN w w')
  case atStart=>exact⟨_,rs,H',⟨Nat.le_refl _⟩,dn⟩
  case round=>
   clear H';try clear c3
   try clear iT
   try clear zW
   try clear XJ
   obtain⟨kT,rfl,HA,yH,⟨m1,rfl⟩⟩:=hrel
   cases gk with
   |zero=>exact zz HA.out
   |succ k1=>
    obtain⟨H⟩:=HA;simp only[bI.l0]at H;replace H:=sd H;rcases H with⟨qW,H⟩|⟨qW,H⟩
    ·replace H:=oG H;obtain⟨nT,H⟩:=H;replace H:=oG H;obtain⟨oV,H⟩:=H;replace H:=oG H;obtain⟨tJ,H⟩:=H;replace H:=sq H;rcases H with⟨uG,F5,H⟩|⟨c8,uG,F5,H⟩
     ·have H':=ak H;clear H;have abU:=zi kT;have abV:=zj kT l0.length;obtain⟨auV,aru,amr⟩:=Kd.jI HR0.out kT abU abV;cases aru;replace abU:=eq_true abU;replace abV:=eq_true abV;have TQ:=zi kT;have TR:=zj kT l1.length;obtain⟨aoe,ahX,SK⟩:=Kd.jI HR1.out kT TQ TR;cases ahX;replace TQ:=eq_true TQ;replace TR:=eq_true TR;go_wp2;repeat(go_quiet (fail);try go_wp2)
      go_roundg k1
      case measure=>exact kl
      case rel=>exact⟨_,rs,H',⟨kl⟩,dn⟩
     ·obtain rfl:=s1 H;have abU:=zi kT;have abV:=zj kT l0.length;obtain⟨auV,aru,amr⟩:=Kd.jI HR0.out kT abU abV;cases aru;replace abU:=eq_true abU;replace abV:=eq_true abV;have TQ:=zi kT;have TR:=zj kT l1.length;obtain⟨aoe,ahX,SK⟩:=Kd.jI HR1.out kT TQ TR;cases ahX;replace TQ:=eq_true TQ;replace TR:=eq_true TR;go_wp2;repeat(go_quiet (fail);try go_wp2)
      go_ret;exact⟨rs,dn⟩
    ·obtain rfl:=s1 H;go_wp2;repeat(go_quiet (fail);try go_wp2)
     go_ret;exact⟨rs,dn⟩
 ·have iT:=beq_eq_false_iff_ne.mpr c3;have zW:=bne_iff_ne.mpr c3;have XJ:(l0.length==l1.length)=false:=by first|simpa using c3|(simp at c3⊢;omega)
  obtain rfl:=s1 H;go_enter Tryz.func63,Tryz.ntmps63;go_wp2;repeat(go_quiet (fail);try go_wp2)
  go_ret;exact⟨rs,dn⟩
def bg.l0:Nat→ByteArray→Int→Int→Option (Bool)
 |0,_,_,_=>none
 |k+1,x0,x5,x6=>if x6<x5 then(if 0≤x6 then(if x6<(x0.size:Int)then(if(bt x0 x6)<32 then(some false)else(if(bt x0 x6)>126 then(some false)else(bg.l0 k x0 x5 (wrap64 (x6+1)))))else(none))else(none))else(some (decide ((x0.size:Int)≤200)))
def bg.f (k:Nat) (a0:ByteArray):Option (Bool):=bg.l0 k a0 (a0.size:Int) 0
theorem bg.calls {k:Nat} {a0:ByteArray} {r:Bool} {w:World} (h:bg.f k a0=some r):
  Calls Tryz.prog 89 #[.string a0] w fun e w'=>e= .returned (.bool r)∧dN w w':=by
 unfold bg.f at h;have H:=h;clear h;have H':=ak H;clear H;go_enter Tryz.func89,Tryz.ntmps89;go_wp2;go_loopg [6] k (fun kq v6 w'=>∃(eX:Int),v6= .int .i64 eX∧ah (bg.l0 kq a0 (a0.size:Int) eX=some r)∧ah (kq≤k)∧dN w w')
 case atStart=>exact⟨_,rs,H',⟨Nat.le_refl _⟩,dn⟩
 case round=>
  clear H';obtain⟨eX,rfl,HA,yH,⟨m1,rfl⟩⟩:=hrel
  cases gk with
  |zero=>exact zz HA.out
  |succ k1=>
   obtain⟨H⟩:=HA;simp only[bg.l0]at H;replace H:=sd H;rcases H with⟨qO,H⟩|⟨qO,H⟩
   ·replace H:=oG H;obtain⟨iT,H⟩:=H;replace H:=oG H;obtain⟨qW,H⟩:=H;replace H:=sd H;rcases H with⟨oV,H⟩|⟨oV,H⟩
    ·obtain rfl:=s1 H;obtain⟨p5,q5,hx5⟩:=bx a0 eX;go_wp2;go_ret;exact⟨rs,dn⟩
    ·replace H:=sp H;rcases H with⟨c8,H⟩|⟨c8,H⟩
     ·have uG:decide (126<(bt a0 eX))=true:=decide_eq_true c8;clear c8;obtain rfl:=s1 H;obtain⟨p5,q5,hx5⟩:=bx a0 eX;obtain⟨p7,q7,hx7⟩:=bx a0 eX;go_wp2;go_ret;exact⟨rs,dn⟩
     ·have uG:decide (126<(bt a0 eX))=false:=decide_eq_false c8;clear c8;have H':=ak H;clear H;obtain⟨p5,q5,hx5⟩:=bx a0 eX;obtain⟨p7,q7,hx7⟩:=bx a0 eX;go_wp2;go_roundg k1
      case measure=>exact kl
      case rel=>exact⟨_,rs,H',⟨kl⟩,dn⟩
   ·obtain rfl:=s1 H;go_wp2;go_ret;exact⟨rs,dn⟩
def lq.f (a0:ByteArray) (a1:ByteArray):Option (ByteArray):=if a1.data.toList=[32]then(if a0.size≤9223372036854775807 then some ⟨(Lib.trimB a0.data.toList 32).toArray⟩else none)else none
theorem lq.calls {a0 a1 r:ByteArray} {w:World} (h:lq.f a0 a1=some r):
  Calls Tryz.prog 92 #[.string a0, .string a1] w fun e w'=>e= .returned (.string r)∧dN w w':=by
 unfold lq.f at h;split at h
 ·rename_i h1
  split at h
  ·rename_i hs
   injection h with h;subst h
   have e1:a1=⟨#[32]⟩:=by
    cases a1 with
    |mk d=>exact congrArg ByteArray.mk (Array.toList_inj.mp h1)
   subst e1;refine(Tryz.strings_Trim_one a0 32 (by decide) w hs).mono ?_;rintro e w' ⟨he,hw⟩;refine⟨he,?_⟩;rcases hw with rfl|rfl
   ·exact⟨⟨0,rfl⟩⟩
   ·exact⟨⟨1,rfl⟩⟩
  ·cases h
 ·cases h
def bC.f (a0:Int):Option (Bool):=if a0≥97 then(if a0≤122 then(some true)else(if a0≥65 then(some (decide (a0≤90)))else(some false)))else(if a0≥65 then(some (decide (a0≤90)))else(some false))
theorem bC.calls {a0:Int} {r:Bool} {w:World} (h:bC.f a0=some r):
  Calls Tryz.prog 140 #[.int .u8 a0] w fun e w'=>e= .returned (.bool r)∧dN w w':=by
 unfold bC.f at h;have H:=h;clear h;replace H:=sp H;rcases H with⟨c2,H⟩|⟨c2,H⟩
 ·have qO:decide (97≤a0)=true:=decide_eq_true c2;clear c2;replace H:=sd H;rcases H with⟨iT,H⟩|⟨iT,H⟩
  ·obtain rfl:=s1 H;go_enter Tryz.func140,Tryz.ntmps140;go_wp2;go_ret;exact⟨rs,dn⟩
  ·replace H:=sp H;rcases H with⟨c4,H⟩|⟨c4,H⟩
   ·have qW:decide (65≤a0)=true:=decide_eq_true c4;clear c4;obtain rfl:=s1 H;go_enter Tryz.func140,Tryz.ntmps140;go_wp2;go_ret;exact⟨rs,dn⟩
   ·have qW:decide (65≤a0)=false:=decide_eq_false c4;clear c4;obtain rfl:=s1 H;go_enter Tryz.func140,Tryz.ntmps140;go_wp2;go_ret;exact⟨rs,dn⟩
 ·have qO:decide (97≤a0)=false:=decide_eq_false c2;clear c2;replace H:=sp H;rcases H with⟨c5,H⟩|⟨c5,H⟩
  ·have nT:decide (65≤a0)=true:=decide_eq_true c5;clear c5;obtain rfl:=s1 H;go_enter Tryz.func140,Tryz.ntmps140;go_wp2;go_ret;exact⟨rs,dn⟩
  ·have nT:decide (65≤a0)=false:=decide_eq_false c5;clear c5;obtain rfl:=s1 H;go_enter Tryz.func140,Tryz.ntmps140;go_wp2;go_ret;exact⟨rs,dn⟩
def dI.f (a0:Int):Option (Bool):=if a0≥48 then(some (decide (a0≤57)))else(some false)
theorem dI.calls {a0:Int} {r:Bool} {w:World} (h:dI.f a0=some r):
  Calls Tryz.prog 141 #[.int .u8 a0] w fun e w'=>e= .returned (.bool r)∧dN w w':=by
 unfold dI.f at h;have H:=h;clear h;replace H:=sp H;rcases H with⟨c2,H⟩|⟨c2,H⟩
 ·have qO:decide (48≤a0)=true:=decide_eq_true c2;clear c2;obtain rfl:=s1 H;go_enter Tryz.func141,Tryz.ntmps141;go_wp2;go_ret;exact⟨rs,dn⟩
 ·have qO:decide (48≤a0)=false:=decide_eq_false c2;clear c2;obtain rfl:=s1 H;go_enter Tryz.func141,Tryz.ntmps141;go_wp2;go_ret;exact⟨rs,dn⟩
def rX.f (a0:Int):Option (Bool):=(bC.f a0).bind fun auW=>(if auW=true then(some true)else((dI.f a0).bind fun auX=>(if auX=true then(some true)else(some (a0==45)))))
theorem rX.calls {a0:Int} {r:Bool} {w:World} (h:rX.f a0=some r):
  Calls Tryz.prog 185 #[.int .u8 a0] w fun e w'=>e= .returned (.bool r)∧dN w w':=by
 unfold rX.f at h;have H:=h;clear h;replace H:=bd H;obtain⟨auW,A2,H⟩:=H;replace H:=sb H;rcases H with⟨rfl,H⟩|⟨rfl,H⟩
 ·obtain rfl:=s1 H;go_enter Tryz.func185,Tryz.ntmps185;go_wp2_with (refine gA Tryz.func140 (bC.calls A2.out) ?_;intro nd)
  go_ret;exact⟨rs,dn⟩
 ·replace H:=bd H;obtain⟨auX,A4,H⟩:=H;replace H:=sb H;rcases H with⟨rfl,H⟩|⟨rfl,H⟩
  ·obtain rfl:=s1 H;go_enter Tryz.func185,Tryz.ntmps185;go_wp2_with (first|(refine gA Tryz.func140 (bC.calls A2.out) ?_;intro nd)|(go_at_call 141;refine mA (dI.calls A4.out) ?_;intro nd))
   go_ret;exact⟨rs,dn⟩
  ·obtain rfl:=s1 H;go_enter Tryz.func185,Tryz.ntmps185;go_wp2_with (first|(refine gA Tryz.func140 (bC.calls A2.out) ?_;intro nd)|(go_at_call 141;refine mA (dI.calls A4.out) ?_;intro nd))
   go_ret;exact⟨rs,dn⟩
def eG.l0:Nat→ByteArray→Int→Int→Option (Bool)
 |0,_,_,_=>none
 |k+1,x0,x7,x8=>if x8<x7 then(if 0≤x8 then(if x8<(x0.size:Int)then((rX.f (bt x0 x8)).bind fun Z_=>(if Z_=true then(eG.l0 k x0 x7 (wrap64 (x8+1)))else(some false)))else(none))else(none))else(some true)
def eG.f (k:Nat) (a0:ByteArray):Option (Bool):=eG.l0 k a0 (a0.size:Int) 0
theorem eG.calls {k:Nat} {a0:ByteArray} {r:Bool} {w:World} (h:eG.f k a0=some r):
  Calls Tryz.prog 138 #[.string a0, .func (.func 185) #[] #[]] w fun e w'=>e= .returned (.bool r)∧dN w w':=by
 unfold eG.f at h;have H:=h;clear h;have H':=ak H;clear H;go_enter Tryz.func138,Tryz.ntmps138;go_wp2;go_loopg [8] k (fun kq v8 w'=>∃(lC:Int),v8= .int .i64 lC∧ah (eG.l0 kq a0 (a0.size:Int) lC=some r)∧ah (kq≤k)∧dN w w')
 case atStart=>exact⟨_,rs,H',⟨Nat.le_refl _⟩,dn⟩
 case round=>
  clear H';obtain⟨lC,rfl,HA,yH,⟨m1,rfl⟩⟩:=hrel
  cases gk with
  |zero=>exact zz HA.out
  |succ k1=>
   obtain⟨H⟩:=HA;simp only[eG.l0]at H;replace H:=sd H;rcases H with⟨iT,H⟩|⟨iT,H⟩
   ·replace H:=oG H;obtain⟨qW,H⟩:=H;replace H:=oG H;obtain⟨nT,H⟩:=H;replace H:=bd H;obtain⟨Z_,A7,H⟩:=H;replace H:=sb H;rcases H with⟨rfl,H⟩|⟨rfl,H⟩
    ·have H':=ak H;clear H;obtain⟨p6,q6,hx6⟩:=bx a0 lC;go_wp2_with (go_at_call 185;refine mA (rX.calls A7.out) ?_;intro nd)
     go_roundg k1
     case measure=>exact kl
     case rel=>exact⟨_,rs,H',⟨kl⟩,dn⟩
    ·obtain rfl:=s1 H;obtain⟨p6,q6,hx6⟩:=bx a0 lC;go_wp2_with (go_at_call 185;refine mA (rX.calls A7.out) ?_;intro nd)
     go_ret;exact⟨rs,dn⟩
   ·obtain rfl:=s1 H;go_wp2;go_ret;exact⟨rs,dn⟩
def jE.f (k:Nat) (a0:ByteArray):Option (Bool):=if(a0.size:Int)≥1 then(if(a0.size:Int)≤30 then(if 0<(a0.size:Int)then((bC.f (bt a0 0)).bind fun auY=>(if auY=true then((eG.f k a0).bind fun auZ=>(some auZ))else(some false)))else(none))else(some false))else(some false)
theorem jE.calls {k:Nat} {a0:ByteArray} {r:Bool} {w:World} (h:jE.f k a0=some r):
  Calls Tryz.prog 160 #[.string a0] w fun e w'=>e= .returned (.bool r)∧dN w w':=by
 unfold jE.f at h;have H:=h;clear h;replace H:=sp H;rcases H with⟨c2,H⟩|⟨c2,H⟩
 ·have qO:decide (1≤(a0.size:Int))=true:=decide_eq_true c2;have zM:decide (1≤a0.size)=true:=decide_eq_true (by omega);clear c2;replace H:=sp H;rcases H with⟨c3,H⟩|⟨c3,H⟩
  ·have iT:=decide_eq_true c3;have zW:decide (a0.size≤30)=true:=decide_eq_true (by omega);clear c3;replace H:=nn H;obtain⟨c4,H⟩:=H;have qW:=decide_eq_true c4;have RS:decide (0<a0.size)=true:=decide_eq_true (by omega);clear c4;replace H:=bd H;obtain⟨auY,A6,H⟩:=H;replace H:=sb H;rcases H with⟨rfl,H⟩|⟨rfl,H⟩
   ·replace H:=bd H;obtain⟨auZ,A8,H⟩:=H;obtain rfl:=s1 H;have p5:0≤(0:Int):=(by omega)
    have q5:0<a0.size:=(by have:(0:Int)<(a0.size:Int):=of_decide_eq_true (by assumption);omega)
    have hx5:∀h:0<a0.size,((a0[0]'h).toNat:Int)=bt a0 0:=yt a0 0;clear p5;have qi5:(0<(a0.size:Int))=True:=eq_true (of_decide_eq_true (by assumption));replace q5:=eq_true q5;go_enter Tryz.func160,Tryz.ntmps160;go_wp2_with (first|(go_at_call 140;refine mA (bC.calls A6.out) ?_;intro nd)|(go_at_call 138;refine mA (eG.calls A8.out) ?_;intro nd))
    go_ret;exact⟨rs,dn⟩
   ·obtain rfl:=s1 H;have p5:0≤(0:Int):=(by omega)
    have q5:0<a0.size:=(by have:(0:Int)<(a0.size:Int):=of_decide_eq_true (by assumption);omega)
    have hx5:∀h:0<a0.size,((a0[0]'h).toNat:Int)=bt a0 0:=yt a0 0;clear p5;have qi5:(0<(a0.size:Int))=True:=eq_true (of_decide_eq_true (by assumption));replace q5:=eq_true q5;go_enter Tryz.func160,Tryz.ntmps160;go_wp2_with (go_at_call 140;refine mA (bC.calls A6.out) ?_;intro nd)
    go_ret;exact⟨rs,dn⟩
  ·have iT:=decide_eq_false c3;have zW:decide (a0.size≤30)=false:=decide_eq_false (by omega);clear c3;obtain rfl:=s1 H;go_enter Tryz.func160,Tryz.ntmps160;go_wp2;go_ret;exact⟨rs,dn⟩
 ·have qO:decide (1≤(a0.size:Int))=false:=decide_eq_false c2;have zM:decide (1≤a0.size)=false:=decide_eq_false (by omega);clear c2;obtain rfl:=s1 H;go_enter Tryz.func160,Tryz.ntmps160;go_wp2;go_ret;exact⟨rs,dn⟩
def qY.f (k:Nat) (eH:ByteArray) (fA:ByteArray):Option (Bool):=(jE.f k eH).bind fun t116=>(if t116=true then((bg.f k fA).bind fun t117=>(if t117=true then(if(fA.size:Int)≤150 then((lq.f fA (⟨#[32]⟩:ByteArray)).bind fun au0=>(some (au0.toList==fA.toList)))else(some false))else(some false)))else(some false))
theorem qY.calls {k:Nat} {eH fA:ByteArray} {r:Bool} {w:World} (h:qY.f k eH fA=some r):
  Calls Tryz.prog 120 #[.agg #[.string eH, .string fA]] w fun e w'=>e= .returned (.bool r)∧Below w.heap.size w w':=by
 have FZ:=Tryz.underlying69;have HB:=ak (Below.refl w.heap.size w);unfold qY.f at h;have H:=h;clear h;replace H:=bd H;obtain⟨t116,A2,H⟩:=H;replace H:=sb H;rcases H with⟨rfl,H⟩|⟨rfl,H⟩
 ·replace H:=bd H;obtain⟨t117,A4,H⟩:=H;replace H:=sb H;rcases H with⟨rfl,H⟩|⟨rfl,H⟩
  ·replace H:=sp H;rcases H with⟨c6,H⟩|⟨c6,H⟩
   ·have oV:=decide_eq_true c6;have zX:decide (fA.size≤150)=true:=decide_eq_true (by omega);clear c6;replace H:=bd H;obtain⟨au0,A7,H⟩:=H;obtain rfl:=s1 H;go_enter Tryz.func120,Tryz.ntmps120;go_wp2_with (first|(refine gG 1 ?_;refine bX HB 1 #[.string eH, .string fA] 69 ?_;intro IK w8 xA IL hb;replace HB:=bs HB hb;clear hb;have z9:=CO xA.out)|(go_at_call 160;refine mA (jE.calls A2.out) ?_;intro nd;(try exact dq))|(go_at_call 89;refine mA (bg.calls A4.out) ?_;intro nd;(try exact dq))|(go_at_call 92;refine mA (lq.calls A7.out) ?_;intro nd;(try exact dq)))
    repeat(go_quiet (first|(refine gG 1 ?_;refine bX HB 1 #[.string eH, .string fA] 69 ?_;intro IK w8 xA IL hb;replace HB:=bs HB hb;clear hb;have z9:=CO xA.out)|(go_at_call 160;refine mA (jE.calls A2.out) ?_;intro nd;(try exact dq))|(go_at_call 89;refine mA (bg.calls A4.out) ?_;intro nd;(try exact dq))|(go_at_call 92;refine mA (lq.calls A7.out) ?_;intro nd;(try exact dq)));try go_wp2_with (first|(refine gG 1 ?_;refine bX HB 1 #[.string eH, .string fA] 69 ?_;intro IK w8 xA IL hb;replace HB:=bs HB hb;clear hb;have z9:=CO xA.out)|(go_at_call 160;refine mA (jE.calls A2.out) ?_;intro nd;(try exact dq))|(go_at_call 89;refine mA (bg.calls A4.out) ?_;intro nd;(try exact dq))|(go_at_call 92;refine mA (lq.calls A7.out) ?_;intro nd;(try exact dq))))
    go_ret;exact⟨er,bb⟩
   ·have oV:=decide_eq_false c6;have zX:decide (fA.size≤150)=false:=decide_eq_false (by omega);clear c6;obtain rfl:=s1 H;go_enter Tryz.func120,Tryz.ntmps120;go_wp2_with (first|(refine gG 1 ?_;refine bX HB 1 #[.string eH, .string fA] 69 ?_;intro IK w10 xA IL hb;replace HB:=bs HB hb;clear hb;have z11:=CO xA.out)|(go_at_call 160;refine mA (jE.calls A2.out) ?_;intro nd;(try exact dq))|(go_at_call 89;refine mA (bg.calls A4.out) ?_;intro nd;(try exact dq)))
    repeat(go_quiet (first|(refine gG 1 ?_;refine bX HB 1 #[.string eH, .string fA] 69 ?_;intro IK w10 xA IL hb;replace HB:=bs HB hb;clear hb;have z11:=CO xA.out)|(go_at_call 160;refine mA (jE.calls A2.out) ?_;intro nd;(try exact dq))|(go_at_call 89;refine mA (bg.calls A4.out) ?_;intro nd;(try exact dq)));try go_wp2_with (first|(refine gG 1 ?_;refine bX HB 1 #[.string eH, .string fA] 69 ?_;intro IK w10 xA IL hb;replace HB:=bs HB hb;clear hb;have z11:=CO xA.out)|(go_at_call 160;refine mA (jE.calls A2.out) ?_;intro nd;(try exact dq))|(go_at_call 89;refine mA (bg.calls A4.out) ?_;intro nd;(try exact dq))))
    go_ret;exact⟨er,bb⟩
  ·obtain rfl:=s1 H;go_enter Tryz.func120,Tryz.ntmps120;go_wp2_with (first|(refine gG 1 ?_;refine bX HB 1 #[.string eH, .string fA] 69 ?_;intro IK w12 xA IL hb;replace HB:=bs HB hb;clear hb;have z13:=CO xA.out)|(go_at_call 160;refine mA (jE.calls A2.out) ?_;intro nd;(try exact dq))|(go_at_call 89;refine mA (bg.calls A4.out) ?_;intro nd;(try exact dq)))
   repeat(go_quiet (first|(refine gG 1 ?_;refine bX HB 1 #[.string eH, .string fA] 69 ?_;intro IK w12 xA IL hb;replace HB:=bs HB hb;clear hb;have z13:=CO xA.out)|(go_at_call 160;refine mA (jE.calls A2.out) ?_;intro nd;(try exact dq))|(go_at_call 89;refine mA (bg.calls A4.out) ?_;intro nd;(try exact dq)));try go_wp2_with (first|(refine gG 1 ?_;refine bX HB 1 #[.string eH, .string fA] 69 ?_;intro IK w12 xA IL hb;replace HB:=bs HB hb;clear hb;have z13:=CO xA.out)|(go_at_call 160;refine mA (jE.calls A2.out) ?_;intro nd;(try exact dq))|(go_at_call 89;refine mA (bg.calls A4.out) ?_;intro nd;(try exact dq))))
   go_ret;exact⟨er,bb⟩
 ·obtain rfl:=s1 H;go_enter Tryz.func120,Tryz.ntmps120;go_wp2_with (first|(refine gG 1 ?_;refine bX HB 1 #[.string eH, .string fA] 69 ?_;intro IK VH xA IL hb;replace HB:=bs HB hb;clear hb;have z15:=CO xA.out)|(go_at_call 160;refine mA (jE.calls A2.out) ?_;intro nd;(try exact dq)))
  repeat(go_quiet (first|(refine gG 1 ?_;refine bX HB 1 #[.string eH, .string fA] 69 ?_;intro IK VH xA IL hb;replace HB:=bs HB hb;clear hb;have z15:=CO xA.out)|(go_at_call 160;refine mA (jE.calls A2.out) ?_;intro nd;(try exact dq)));try go_wp2_with (first|(refine gG 1 ?_;refine bX HB 1 #[.string eH, .string fA] 69 ?_;intro IK VH xA IL hb;replace HB:=bs HB hb;clear hb;have z15:=CO xA.out)|(go_at_call 160;refine mA (jE.calls A2.out) ?_;intro nd;(try exact dq))))
  go_ret;exact⟨er,bb⟩
mutual
def iY.f:Nat→List (fO)→List ByteArray→List (jT)→List (fO)→List ByteArray→List (jT)→Option (Bool)
 |0,_,_,_,_,_,_=>none
 |k+1,bD,bf,ay,pO,pq,o8=>(jh.f k bD pO).bind fun t107=>(if t107=true then((bI.f k bf pq).bind fun agH=>(if agH=true then((if(ay.length:Int)=(o8.length:Int)then(f_.l0 k o8 ay (ay.length:Int) 0)else(some false)).bind fun t109=>(some t109))else(some false)))else(some false))
def f_.l0:Nat→List (jT)→List (jT)→Int→Int→Option (Bool)
 |0,_,_,_,_=>none
 |k+1,x1,x15,x16,x17=>if x17<x16 then(if 0≤x17 then(if x17<(x15.length:Int)then(if x17<(x1.length:Int)then((iY.f k ((au x15 x17).f0) ((au x15 x17).f1) ((au x15 x17).f2) ((au x1 x17).f0) ((au x1 x17).f1) ((au x1 x17).f2)).bind fun arv=>(if arv=true then(f_.l0 k x1 x15 x16 (wrap64 (x17+1)))else(some false)))else(none))else(none))else(none))else(some true)
end
def f_.f (k:Nat) (l0:List (jT)) (l1:List (jT)):Option (Bool):=if(l0.length:Int)=(l1.length:Int)then(f_.l0 k l1 l0 (l0.length:Int) 0)else(some false)
theorem iY.abN (k:Nat) (bD:List (fO)) (bf:List ByteArray) (ay:List (jT)) (pO:List (fO)) (pq:List ByteArray) (o8:List (jT)):iY.f (k+1) bD bf ay pO pq o8=((jh.f k bD pO).bind fun t107=>(if t107=true then((bI.f k bf pq).bind fun agH=>(if agH=true then((f_.f k ay o8).bind fun t109=>(some t109))else(some false)))else(some false))):=by simp only[iY.f,f_.f]
theorem iY.pair (k:Nat):(∀(ig:Option Addr) (iq:Nat) (bD:List (fO)) (gK:Option Addr) (gQ:Nat) (bf:List ByteArray) (fM:Option Addr) (dO:Nat) (ay:List (jT)) (vX:Option Addr) (vY:Nat) (pO:List (fO)) (vP:Option Addr) (vZ:Nat) (pq:List ByteArray) (wo:Option Addr) (wu:Nat) (o8:List (jT)) (r:Bool) (w:World) (mZ:Kd.C oz w ig bD.length bD) (m_:bD.length≤iq) (ng:Kd.C Kd.string w gK bf.length bf) (ni:bf.length≤gQ) (jU:Kd.C k28 w fM ay.length ay) (jV:ay.length≤dO) (MQ:Kd.C oz w vX pO.length pO) (MR:pO.length≤vY) (MS:Kd.C Kd.string w vP pq.length pq) (MV:pq.length≤vZ) (MW:Kd.C k28 w wo o8.length o8) (MX:o8.length≤wu) (h:iY.f k bD bf ay pO pq o8=some r),
  Calls Tryz.prog 21 #[.agg #[.slice ig bD.length iq, .slice gK bf.length gQ, .slice fM ay.length dO], .agg #[.slice vX pO.length vY, .slice vP pq.length vZ, .slice wo o8.length wu]] w fun e w'=>e= .returned (.bool r)∧Below w.heap.size w w')∧
  (∀(A0:Option Addr) (c0:Nat) (l0:List (jT)) (A1:Option Addr) (c1:Nat) (l1:List (jT)) (r:Bool) (w:World) (hr0:Kd.C k28 w A0 l0.length l0) (hc0:l0.length≤c0) (hr1:Kd.C k28 w A1 l1.length l1) (hc1:l1.length≤c1) (h:f_.f k l0 l1=some r),
  Calls Tryz.prog 64 #[.slice A0 l0.length c0, .slice A1 l1.length c1, .func (.func 21) #[] #[]] w fun e w'=>e= .returned (.bool r)∧Below w.heap.size w w'):=by
 induction k using Nat.strongRecOn with
 |_ k ih=>
 refine⟨?_,?_⟩
 ·cases k with
  |zero=>intro ig iq bD gK gQ bf fM dO ay vX vY pO vP vZ pq wo wu o8 r w mZ m_ ng ni jU jV MQ MR MS MV MW MX h;exact absurd h (by simp[iY.f])
  |succ k=>
  have ihB:=(ih k (Nat.lt_succ_self k)).2;clear ih;intro ig iq bD gK gQ bf fM dO ay vX vY pO vP vZ pq wo wu o8 r w mZ m_ ng ni jU jV MQ MR MS MV MW MX h;rw[iY.abN]at h;have Eu:=Tryz.underlying28;have qC:=ak mZ;have rD:=ak m_;clear mZ m_;have uw:=ak ng;have xk:=ak ni;clear ng ni;have jW:=ak jU;have oC:=ak jV;clear jU jV;have QY:=ak MQ;have QZ:=ak MR;clear MQ MR;have TU:=ak MS;have TV:=ak MV;clear MS MV;have Wu:=ak MW;have Wv:=ak MX;clear MW MX;have HB:=ak (Below.refl w.heap.size w);have H:((jh.f k bD pO).bind fun t107=>(if t107=true then((bI.f k bf pq).bind fun agH=>(if agH=true then((f_.f k ay o8).bind fun t109=>(some t109))else(some false)))else(some false)))=some r:=h;clear h;replace H:=bd H;obtain⟨t107,A3,H⟩:=H;replace H:=sb H;rcases H with⟨rfl,H⟩|⟨rfl,H⟩
  ·replace H:=bd H;obtain⟨agH,A5,H⟩:=H;replace H:=sb H;rcases H with⟨rfl,H⟩|⟨rfl,H⟩
   ·replace H:=bd H;obtain⟨t109,A7,H⟩:=H;obtain rfl:=s1 H;go_enter Tryz.func21,Tryz.ntmps21;go_wp2_with (first|(refine bX HB 2 #[.slice ig bD.length iq, .slice gK bf.length gQ, .slice fM ay.length dO] 28 ?_;intro BM w8 uy ahY hb;replace HB:=bs HB hb;clear hb)|(refine bY HB 3 #[.slice vX pO.length vY, .slice vP pq.length vZ, .slice wo o8.length wu] 28 ?_;intro aoi w9 TW aoj hg hb;have F6:=vT uy hg;have F7:=vU uy hg;replace uy:=kb uy hb;replace HB:=bz HB hb;clear hb hg;have au1:=F6.out;have au2:=F7.out;have z11:=iJ uy.out;have z12:=iJ TW.out)|(refine gA Tryz.func62 (jh.calls (cu (Kd.aN qC.out HB.out)) rD.out (cu (Kd.aN QY.out HB.out)) QZ.out A3.out) ?_;intro nd)|(go_at_call 63;refine mA (bI.calls (cu (Kd.aN uw.out bb)) xk.out (cu (Kd.aN TU.out bb)) TV.out A5.out) ?_;intro nd)|(go_at_call 64;refine mB (ihB _ _ ay _ _ o8 t109 _ (cu (Kd.aN jW.out bb)) oC.out (cu (Kd.aN Wu.out bb)) Wv.out A7.out) ?_;intro w13 hb;replace uy:=kb uy hb;replace TW:=kb TW hb;replace HB:=bz HB hb;clear hb))
    go_ret;exact⟨er,bb⟩
   ·obtain rfl:=s1 H;go_enter Tryz.func21,Tryz.ntmps21;go_wp2_with (first|(refine bX HB 2 #[.slice ig bD.length iq, .slice gK bf.length gQ, .slice fM ay.length dO] 28 ?_;intro BM VH uy ahY hb;replace HB:=bs HB hb;clear hb)|(refine bY HB 3 #[.slice vX pO.length vY, .slice vP pq.length vZ, .slice wo o8.length wu] 28 ?_;intro aoi w15 TW aoj hg hb;have F6:=vT uy hg;have F7:=vU uy hg;replace uy:=kb uy hb;replace HB:=bz HB hb;clear hb hg;have au3:=F6.out;have au4:=F7.out;have z17:=iJ uy.out;have z18:=iJ TW.out)|(refine gA Tryz.func62 (jh.calls (cu (Kd.aN qC.out HB.out)) rD.out (cu (Kd.aN QY.out HB.out)) QZ.out A3.out) ?_;intro nd)|(go_at_call 63;refine mA (bI.calls (cu (Kd.aN uw.out bb)) xk.out (cu (Kd.aN TU.out bb)) TV.out A5.out) ?_;intro nd))
    go_ret;exact⟨er,bb⟩
  ·obtain rfl:=s1 H;go_enter Tryz.func21,Tryz.ntmps21;go_wp2_with (first|(refine bX HB 2 #[.slice ig bD.length iq, .slice gK bf.length gQ, .slice fM ay.length dO] 28 ?_;intro BM w19 uy ahY hb;replace HB:=bs HB hb;clear hb)|(refine bY HB 3 #[.slice vX pO.length vY, .slice vP pq.length vZ, .slice wo o8.length wu] 28 ?_;intro aoi w20 TW aoj hg hb;have F6:=vT uy hg;have F7:=vU uy hg;replace uy:=kb uy hb;replace HB:=bz HB hb;clear hb hg;have au5:=F6.out;have au6:=F7.out;have z22:=iJ uy.out;have z23:=iJ TW.out)|(refine gA Tryz.func62 (jh.calls (cu (Kd.aN qC.out HB.out)) rD.out (cu (Kd.aN QY.out HB.out)) QZ.out A3.out) ?_;intro nd))
   go_ret;exact⟨er,bb⟩
 ·intro A0 c0 l0 A1 c1 l1 r w hr0 hc0 hr1 hc1 h;have Eu:=Tryz.underlying28;have HR0:=ak hr0;have zx:=ak hc0;clear hr0 hc0;have HR1:=ak hr1;have HC1:=ak hc1;clear hr1 hc1;have HB:=ak (Below.refl w.heap.size w);have H:(if(l0.length:Int)=(l1.length:Int)then(f_.l0 k l1 l0 (l0.length:Int) 0)else(some false))=some r:=h;clear h;replace H:=sp H;rcases H with⟨c4,H⟩|⟨c4,H⟩
  ·have qW:=beq_iff_eq.mpr c4;have RS:=bne_eq_false_iff_eq.mpr c4;have ait:(l0.length==l1.length)=true:=by first|simpa using c4|(simp at c4⊢;omega)
   clear c4;have H':=ak H;clear H;go_enter Tryz.func64,Tryz.ntmps64;go_wp2;go_loopg [17] k (fun kq v17 w'=>∃(jd:Int),v17= .int .i64 jd∧ah (f_.l0 kq l1 l0 (l0.length:Int) jd=some r)∧ah (kq≤k)∧ah (Below w.heap.size w w'))
   case atStart=>exact⟨_,rs,H',⟨Nat.le_refl _⟩,⟨ul HB.out⟩⟩
   case round=>
    clear H';try clear c1
    try clear c4
    try clear qW
    try clear RS
    try clear ait
    obtain⟨jd,rfl,HA,yH,HB⟩:=hrel
    cases gk with
    |zero=>exact zz HA.out
    |succ k1=>
     obtain⟨H⟩:=HA;simp only[f_.l0]at H;replace H:=sd H;rcases H with⟨nT,H⟩|⟨nT,H⟩
     ·replace H:=oG H;obtain⟨oV,H⟩:=H;replace H:=oG H;obtain⟨tJ,H⟩:=H;replace H:=oG H;obtain⟨uG,H⟩:=H;replace H:=bd H;obtain⟨arv,A9,H⟩:=H;replace H:=sb H;rcases H with⟨rfl,H⟩|⟨rfl,H⟩
      ·have H':=ak H;clear H;have abW:=zi jd;have abX:=zj jd l0.length;obtain⟨au7,yX,yY,yZ,y5,y7,y8,arw,MZ,M_,Na,Nb,Nc,Nh,Nl,Np,Nq⟩:=yT HR0.out jd abW abX;cases arw;replace MZ:=cl HB.out MZ;replace M_:=cl HB.out M_;replace Na:=cl HB.out Na;have XK:=ak Nc;have XL:=ak Nb;clear Nc Nb;have XM:=ak Nl;have XO:=ak Nh;clear Nl Nh;have XP:=ak Nq;have XQ:=ak Np;clear Nq Np;replace abW:=eq_true abW;replace abX:=eq_true abX;go_wp2_with (first|(refine bX HB 8 #[.slice none 0 0, .slice none 0 0, .slice none 0 0] 28 ?_;intro rE Wn F8 TY hb;replace HB:=bs HB hb;clear hb;have z12:=iJ F8.out;have abY:0≤(jd:Int):=of_decide_eq_true (by assumption);have abZ:jd<(l1.length:Int):=of_decide_eq_true (by assumption);obtain⟨T_,ab1,ab4,ab5,ab6,ab7,ab8,arx,oh,rJ,rM,Nr,Ns,Nu,Nv,Nw,Nz⟩:=yT HR1.out jd abY abZ;cases arx;have qx:T_.block≠rE:=Nat.ne_of_lt (Nat.lt_of_lt_of_le (by have:=World.block_lt_of_cell? _ _ oh;first|rwa [add_block]at this|exact this) TY.out);have qy:T_.block≠rE:=Nat.ne_of_lt (Nat.lt_of_lt_of_le (by have:=World.block_lt_of_cell? _ _ oh;first|rwa [add_block]at this|exact this) TY.out);have qA:T_.block≠rE:=Nat.ne_of_lt (Nat.lt_of_lt_of_le (by have:=World.block_lt_of_cell? _ _ oh;first|rwa [add_block]at this|exact this) TY.out);replace oh:=(HB.out.cell (World.block_lt_of_cell? w _ oh)).trans oh;replace rJ:=(HB.out.cell (World.block_lt_of_cell? w _ rJ)).trans rJ;replace rM:=(HB.out.cell (World.block_lt_of_cell? w _ rM)).trans rM;have XR:=ak Ns;have XT:=ak Nr;clear Ns Nr;have XU:=ak Nv;have XV:=ak Nu;clear Nv Nu;have XW:=ak Nz;have XY:=ak Nw;clear Nz Nw;replace oh:=(cell_far (p:=⟨rE,0,none⟩) (by first|(rw[add_block];exact qx)|(show(Addr.add _ _).block≠_;rw[add_block];exact qx)|exact qx) (.slice yX ((au l0 jd).f0).length yY)).trans oh;replace rJ:=(cell_far (p:=⟨rE,0,none⟩) (by first|(rw[add_block];exact qx)|(show(Addr.add _ _).block≠_;rw[add_block];exact qx)|exact qx) (.slice yX ((au l0 jd).f0).length yY)).trans rJ;replace rM:=(cell_far (p:=⟨rE,0,none⟩) (by first|(rw[add_block];exact qx)|(show(Addr.add _ _).block≠_;rw[add_block];exact qx)|exact qx) (.slice yX ((au l0 jd).f0).length yY)).trans rM;replace oh:=(cell_far (p:=⟨rE,1,none⟩) (by first|(rw[add_block];exact qy)|(show(Addr.add _ _).block≠_;rw[add_block];exact qy)|exact qy) (.slice yZ ((au l0 jd).f1).length y5)).trans oh;replace rJ:=(cell_far (p:=⟨rE,1,none⟩) (by first|(rw[add_block];exact qy)|(show(Addr.add _ _).block≠_;rw[add_block];exact qy)|exact qy) (.slice yZ ((au l0 jd).f1).length y5)).trans rJ;replace rM:=(cell_far (p:=⟨rE,1,none⟩) (by first|(rw[add_block];exact qy)|(show(Addr.add _ _).block≠_;rw[add_block];exact qy)|exact qy) (.slice yZ ((au l0 jd).f1).length y5)).trans rM;replace oh:=(cell_far (p:=⟨rE,2,none⟩) (by first|(rw[add_block];exact qA)|(show(Addr.add _ _).block≠_;rw[add_block];exact qA)|exact qA) (.slice y7 ((au l0 jd).f2).length y8)).trans oh;replace rJ:=(cell_far (p:=⟨rE,2,none⟩) (by first|(rw[add_block];exact qA)|(show(Addr.add _ _).block≠_;rw[add_block];exact qA)|exact qA) (.slice y7 ((au l0 jd).f2).length y8)).trans rJ;replace rM:=(cell_far (p:=⟨rE,2,none⟩) (by first|(rw[add_block];exact qA)|(show(Addr.add _ _).block≠_;rw[add_block];exact qA)|exact qA) (.slice y7 ((au l0 jd).f2).length y8)).trans rM;clear qx;clear qy;clear qA;replace abY:=eq_true abY;replace abZ:=eq_true abZ)|(refine bY HB 9 #[.slice none 0 0, .slice none 0 0, .slice none 0 0] 28 ?_;intro aaf w13 Ua au8 hg hb;have PU:=ak ((by rw[hg];exact Nat.ne_of_lt (wz (g:=rE) (o:= .cells #[.slice yX ((au l0 jd).f0).length yY, .slice yZ ((au l0 jd).f1).length y5, .slice y7 ((au l0 jd).f2).length y8] 28 (0,0)) bq):rE≠aaf));have PV:=ak ((by rw[hg];exact Nat.ne_of_gt (wz (g:=rE) (o:= .cells #[.slice yX ((au l0 jd).f0).length yY, .slice yZ ((au l0 jd).f1).length y5, .slice y7 ((au l0 jd).f2).length y8] 28 (0,0)) bq):aaf≠rE));replace F8:=kp F8 #[.slice yX ((au l0 jd).f0).length yY, .slice yZ ((au l0 jd).f1).length y5, .slice y7 ((au l0 jd).f2).length y8] hb;replace HB:=bz HB hb;clear hb hg;have aok:=PV.out;have aol:=PU.out;have z15:=iJ Ua.out;have z16:=iJ F8.out)|(go_at_call 21;refine mB ((ih k1 (by have:=yH.out;omega)).1 _ _ ((au l0 jd).f0) _ _ ((au l0 jd).f1) _ _ ((au l0 jd).f2) _ _ ((au l1 jd).f0) _ _ ((au l1 jd).f1) _ _ ((au l1 jd).f2) true _ (Kd.aN XK.out bb) XL.out (Kd.aN XM.out bb) XO.out (Kd.aN XP.out bb) XQ.out (Kd.aN XR.out bb) XT.out (Kd.aN XU.out bb) XV.out (Kd.aN XW.out bb) XY.out A9.out) ?_;intro w17 hb;replace F8:=kp F8 #[.slice yX ((au l0 jd).f0).length yY, .slice yZ ((au l0 jd).f1).length y5, .slice y7 ((au l0 jd).f2).length y8] hb;replace Ua:=kp Ua #[.slice ab1 ((au l1 jd).f0).length ab4, .slice ab5 ((au l1 jd).f1).length ab6, .slice ab7 ((au l1 jd).f2).length ab8] hb;replace HB:=bz HB hb;clear hb))
       go_roundg k1
       case measure=>exact kl
       case rel=>exact⟨_,rs,H',⟨kl⟩,⟨bb⟩⟩
      ·obtain rfl:=s1 H;have abW:=zi jd;have abX:=zj jd l0.length;obtain⟨au7,yX,yY,yZ,y5,y7,y8,arw,MZ,M_,Na,Nb,Nc,Nh,Nl,Np,Nq⟩:=yT HR0.out jd abW abX;cases arw;replace MZ:=cl HB.out MZ;replace M_:=cl HB.out M_;replace Na:=cl HB.out Na;have XK:=ak Nc;have XL:=ak Nb;clear Nc Nb;have XM:=ak Nl;have XO:=ak Nh;clear Nl Nh;have XP:=ak Nq;have XQ:=ak Np;clear Nq Np;replace abW:=eq_true abW;replace abX:=eq_true abX;go_wp2_with (first|(refine bX HB 8 #[.slice none 0 0, .slice none 0 0, .slice none 0 0] 28 ?_;intro rE w18 F8 TY hb;replace HB:=bs HB hb;clear hb;have z19:=iJ F8.out;have abY:0≤(jd:Int):=of_decide_eq_true (by assumption);have abZ:jd<(l1.length:Int):=of_decide_eq_true (by assumption);obtain⟨T_,ab1,ab4,ab5,ab6,ab7,ab8,arx,oh,rJ,rM,Nr,Ns,Nu,Nv,Nw,Nz⟩:=yT HR1.out jd abY abZ;cases arx;have qx:T_.block≠rE:=Nat.ne_of_lt (Nat.lt_of_lt_of_le (by have:=World.block_lt_of_cell? _ _ oh;first|rwa [add_block]at this|exact this) TY.out);have qy:T_.block≠rE:=Nat.ne_of_lt (Nat.lt_of_lt_of_le (by have:=World.block_lt_of_cell? _ _ oh;first|rwa [add_block]at this|exact this) TY.out);have qA:T_.block≠rE:=Nat.ne_of_lt (Nat.lt_of_lt_of_le (by have:=World.block_lt_of_cell? _ _ oh;first|rwa [add_block]at this|exact this) TY.out);replace oh:=(HB.out.cell (World.block_lt_of_cell? w _ oh)).trans oh;replace rJ:=(HB.out.cell (World.block_lt_of_cell? w _ rJ)).trans rJ;replace rM:=(HB.out.cell (World.block_lt_of_cell? w _ rM)).trans rM;have XR:=ak Ns;have XT:=ak Nr;clear Ns Nr;have XU:=ak Nv;have XV:=ak Nu;clear Nv Nu;have XW:=ak Nz;have XY:=ak Nw;clear Nz Nw;replace oh:=(cell_far (p:=⟨rE,0,none⟩) (by first|(rw[add_block];exact qx)|(show(Addr.add _ _).block≠_;rw[add_block];exact qx)|exact qx) (.slice yX ((au l0 jd).f0).length yY)).trans oh;replace rJ:=(cell_far (p:=⟨rE,0,none⟩) (by first|(rw[add_block];exact qx)|(show(Addr.add _ _).block≠_;rw[add_block];exact qx)|exact qx) (.slice yX ((au l0 jd).f0).length yY)).trans rJ;replace rM:=(cell_far (p:=⟨rE,0,none⟩) (by first|(rw[add_block];exact qx)|(show(Addr.add _ _).block≠_;rw[add_block];exact qx)|exact qx) (.slice yX ((au l0 jd).f0).length yY)).trans rM;replace oh:=(cell_far (p:=⟨rE,1,none⟩) (by first|(rw[add_block];exact qy)|(show(Addr.add _ _).block≠_;rw[add_block];exact qy)|exact qy) (.slice yZ ((au l0 jd).f1).length y5)).trans oh;replace rJ:=(cell_far (p:=⟨rE,1,none⟩) (by first|(rw[add_block];exact qy)|(show(Addr.add _ _).block≠_;rw[add_block];exact qy)|exact qy) (.slice yZ ((au l0 jd).f1).length y5)).trans rJ;replace rM:=(cell_far (p:=⟨rE,1,none⟩) (by first|(rw[add_block];exact qy)|(show(Addr.add _ _).block≠_;rw[add_block];exact qy)|exact qy) (.slice yZ ((au l0 jd).f1).length y5)).trans rM;replace oh:=(cell_far (p:=⟨rE,2,none⟩) (by first|(rw[add_block];exact qA)|(show(Addr.add _ _).block≠_;rw[add_block];exact qA)|exact qA) (.slice y7 ((au l0 jd).f2).length y8)).trans oh;replace rJ:=(cell_far (p:=⟨rE,2,none⟩) (by first|(rw[add_block];exact qA)|(show(Addr.add _ _).block≠_;rw[add_block];exact qA)|exact qA) (.slice y7 ((au l0 jd).f2).length y8)).trans rJ;replace rM:=(cell_far (p:=⟨rE,2,none⟩) (by first|(rw[add_block];exact qA)|(show(Addr.add _ _).block≠_;rw[add_block];exact qA)|exact qA) (.slice y7 ((au l0 jd).f2).length y8)).trans rM;clear qx;clear qy;clear qA;replace abY:=eq_true abY;replace abZ:=eq_true abZ)|(refine bY HB 9 #[.slice none 0 0, .slice none 0 0, .slice none 0 0] 28 ?_;intro aaf w20 Ua au8 hg hb;have PU:=ak ((by rw[hg];exact Nat.ne_of_lt (wz (g:=rE) (o:= .cells #[.slice yX ((au l0 jd).f0).length yY, .slice yZ ((au l0 jd).f1).length y5, .slice y7 ((au l0 jd).f2).length y8] 28 (0,0)) bq):rE≠aaf));have PV:=ak ((by rw[hg];exact Nat.ne_of_gt (wz (g:=rE) (o:= .cells #[.slice yX ((au l0 jd).f0).length yY, .slice yZ ((au l0 jd).f1).length y5, .slice y7 ((au l0 jd).f2).length y8] 28 (0,0)) bq):aaf≠rE));replace F8:=kp F8 #[.slice yX ((au l0 jd).f0).length yY, .slice yZ ((au l0 jd).f1).length y5, .slice y7 ((au l0 jd).f2).length y8] hb;replace HB:=bz HB hb;clear hb hg;have au5:=PV.out;have au6:=PU.out;have z22:=iJ Ua.out;have z23:=iJ F8.out)|(go_at_call 21;refine mB ((ih k1 (by have:=yH.out;omega)).1 _ _ ((au l0 jd).f0) _ _ ((au l0 jd).f1) _ _ ((au l0 jd).f2) _ _ ((au l1 jd).f0) _ _ ((au l1 jd).f1) _ _ ((au l1 jd).f2) false _ (Kd.aN XK.out bb) XL.out (Kd.aN XM.out bb) XO.out (Kd.aN XP.out bb) XQ.out (Kd.aN XR.out bb) XT.out (Kd.aN XU.out bb) XV.out (Kd.aN XW.out bb) XY.out A9.out) ?_;intro w24 hb;replace F8:=kp F8 #[.slice yX ((au l0 jd).f0).length yY, .slice yZ ((au l0 jd).f1).length y5, .slice y7 ((au l0 jd).f2).length y8] hb;replace Ua:=kp Ua #[.slice ab1 ((au l1 jd).f0).length ab4, .slice ab5 ((au l1 jd).f1).length ab6, .slice ab7 ((au l1 jd).f2).length ab8] hb;replace HB:=bz HB hb;clear hb))
       go_ret;exact⟨er,bb⟩
     ·obtain rfl:=s1 H;go_wp2;go_ret;exact⟨er,ul HB.out⟩
  ·have qW:=beq_eq_false_iff_ne.mpr c4;have RS:=bne_iff_ne.mpr c4;have ait:(l0.length==l1.length)=false:=by first|simpa using c4|(simp at c4⊢;omega)
   obtain rfl:=s1 H;go_enter Tryz.func64,Tryz.ntmps64;go_wp2;go_ret;exact⟨er,ul HB.out⟩
theorem iY.calls {k iq gQ dO vY vZ wu:Nat} {ig gK fM vX vP wo:Option Addr} {bD pO:List (fO)} {bf pq:List ByteArray} {ay o8:List (jT)} {r:Bool} {w:World} (mZ:Kd.C oz w ig bD.length bD) (m_:bD.length≤iq) (ng:Kd.C Kd.string w gK bf.length bf) (ni:bf.length≤gQ) (jU:Kd.C k28 w fM ay.length ay) (jV:ay.length≤dO) (MQ:Kd.C oz w vX pO.length pO) (MR:pO.length≤vY) (MS:Kd.C Kd.string w vP pq.length pq) (MV:pq.length≤vZ) (MW:Kd.C k28 w wo o8.length o8) (MX:o8.length≤wu) (h:iY.f k bD bf ay pO pq o8=some r):
  Calls Tryz.prog 21 #[.agg #[.slice ig bD.length iq, .slice gK bf.length gQ, .slice fM ay.length dO], .agg #[.slice vX pO.length vY, .slice vP pq.length vZ, .slice wo o8.length wu]] w fun e w'=>e= .returned (.bool r)∧Below w.heap.size w w':=(iY.pair k).1 ig iq bD gK gQ bf fM dO ay vX vY pO vP vZ pq wo wu o8 r w mZ m_ ng ni jU jV MQ MR MS MV MW MX h
theorem f_.calls {k c0 c1:Nat} {A0 A1:Option Addr} {l0 l1:List (jT)} {r:Bool} {w:World} (hr0:Kd.C k28 w A0 l0.length l0) (hc0:l0.length≤c0) (hr1:Kd.C k28 w A1 l1.length l1) (hc1:l1.length≤c1) (h:f_.f k l0 l1=some r):
  Calls Tryz.prog 64 #[.slice A0 l0.length c0, .slice A1 l1.length c1, .func (.func 21) #[] #[]] w fun e w'=>e= .returned (.bool r)∧Below w.heap.size w w':=(iY.pair k).2 A0 c0 l0 A1 c1 l1 r w hr0 hc0 hr1 hc1 h
end Go.Proofs.YtncdadcmghglkaaGreatDoor.PFnPathEmpty
