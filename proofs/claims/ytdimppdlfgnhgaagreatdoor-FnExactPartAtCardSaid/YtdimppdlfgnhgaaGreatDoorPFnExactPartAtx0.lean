/- Printed walks; conditions: those in each statement. -/
import Derived.Test.YtdimppdlfgnhgaaGreatDoorVFnExactPartAtQt
import Derived.Test.YtdimppdlfgnhgaaGreatDoorProg
import Derived.Test.YtdimppdlfgnhgaaGreatDoorVFnExactPartAtXt
import Derived.Below
import Derived.Deep.Draws
import Derived.Deep.AppendLies
import Derived.Maps.AppendAt
import Derived.OwnWalk
import Derived.Laws.BytesArg
import Derived.Laws.MakeOwn
import Derived.Laws.OwnMore
import Derived.Deep.OwnRows
import Derived.Tactics
import Derived.Lib.ConvBytes
import Derived.Lib.SliceRun
import Derived.Laws.Slices
import Derived.WalkKit
import Derived.KernelRfl
import Derived.RowKit3
import Derived.Deep.LoopGhost
import Derived.Deep.QuietTactic
import Derived.BigQuiet
import Derived.WideLaws
import Derived.Deep.DeepCutAuto
import Derived.Deep.CutBlock
import Derived.Deep.RegionHeld3
import Derived.Laws.Rows
import Derived.Lib.AppendStr
import Derived.ArgAppend
import Derived.Laws.IdiomCopy
import Derived.OrdersHeld
import Derived.Laws.BitsLemmas
import Derived.RowKit
import Derived.Test.YtdimppdlfgnhgaaGreatDoorMx
import Derived.Test.YtdimppdlfgnhgaaGreatDoorVFnExactPartAtWords
import Derived.Test.YtdimppdlfgnhgaaGreatDoorVFnExactPartAtLast
import Derived.Test.YtdimppdlfgnhgaaGreatDoorVFnExactPartAtTab
import Derived.Test.YtdimppdlfgnhgaaGreatDoorVFnExactPartAtApart
import Derived.Test.YtdimppdlfgnhgaaGreatDoorVFnExactPartAtFoot
import Derived.Test.YtdimppdlfgnhgaaGreatDoorVFnExactPartAtKept
import Derived.Test.YtdimppdlfgnhgaaGreatDoorVFnExactPartAtShare
import Derived.Test.YtdimppdlfgnhgaaGreatDoorVFnExactPartAtN
import Derived.Test.YtdimppdlfgnhgaaGreatDoorVFnExactPartAtRepsOne
import Derived.Test.YtdimppdlfgnhgaaGreatDoorVFnExactPartAtInv
import Derived.Test.YtdimppdlfgnhgaaGreatDoorVFnExactPartAtGuard
import Derived.Test.YtdimppdlfgnhgaaGreatDoorVFnExactPartAtMore
import Derived.Test.YtdimppdlfgnhgaaGreatDoorVFnExactPartAtYt
namespace Go.Proofs.YtdimppdlfgnhgaaGreatDoor.PFnExactPartAt
open Go.Proofs.YtdimppdlfgnhgaaGreatDoorW.fD.Kd Go.Proofs.YtdimppdlfgnhgaaGreatDoorW.qy.Kd Go.Proofs.Tryz Go.RowKit Go.Proofs.YtdimppdlfgnhgaaGreatDoor.X Go.Proofs.YtdimppdlfgnhgaaGreatDoorW.fD Go.Proofs.YtdimppdlfgnhgaaGreatDoorW.mZ Go.Proofs.YtdimppdlfgnhgaaGreatDoorW.qy
attribute [local go_sem] BD BF F7 F8 yI yJ BG BH   -- for this text's walks alone
set_option linter.unusedVariables false
set_option linter.unusedSimpArgs false
set_option maxHeartbeats 8000000
set_option maxRecDepth 100000
def axG:Option Int→Value
 |none=> .nilIface
 |some c=> .iface 0 (.int .i64 c)
theorem Zf:axG none= .nilIface:=rfl
theorem Zg(c:Int):axG (some c)= .iface 0 (.int .i64 c):=rfl
theorem info3:(Tryz.prog.info? 3).map (fun i=>(i.zero,i.size,i.bytes))=some (some (.int .i64 0),1,8):=by kernel_rfl
theorem info5:(Tryz.prog.info? 5).map (fun i=>(i.zero,i.size,i.bytes))=some (some (.int .u8 0),1,1):=by kernel_rfl
theorem info9:(Tryz.prog.info? 9).map (fun i=>(i.zero,i.size,i.bytes))=some (some (.string ⟨#[]⟩),1,16):=by kernel_rfl
theorem info23:(Tryz.prog.info? 23).map (fun i=>(i.zero,i.size,i.bytes))=some (some (.slice none 0 0),1,24):=by kernel_rfl
theorem aam:(Tryz.prog.info? 32).map (fun i=>(i.zero,i.size,i.bytes))=some (some (.agg #[(.slice none 0 0),(.slice none 0 0),(.slice none 0 0)]),3,72):=by kernel_rfl
theorem Aq:(Tryz.prog.info? 63).map (fun i=>(i.zero,i.size,i.bytes))=some (some (.agg #[(.string ⟨#[]⟩),(.string ⟨#[]⟩)]),2,32):=by kernel_rfl
structure J_ where
 f0:ByteArray
 f1:ByteArray
def z61:J_:=⟨(⟨#[]⟩:ByteArray),(⟨#[]⟩:ByteArray)⟩
def YJ:Kd J_:=Kd.iso (Kd.pair Kd.string Kd.string) (fun x:J_=>(x.f0,x.f1))
theorem aj3:Kd.Heap YJ:=OO _ (Eb wJ wJ)
theorem aj6{w:World}{x:J_}{cs:List Value}(h:YJ.K w x cs):cs=[.string x.f0, .string x.f1]:=by
 obtain⟨_,_,rfl,rfl,rfl⟩:=h;exact rfl
theorem axD{w:World}{base:Nat}{ok:Nat→Prop}{x:J_}{cs:List Value}(h:YJ.M w base ok x cs):cs=[.string x.f0, .string x.f1]:=by
 obtain⟨_,_,rfl,rfl,rfl⟩:=h;exact rfl
theorem auf(w:World)(x:J_):YJ.K w x [.string x.f0, .string x.f1]:=⟨[.string x.f0],[.string x.f1],rfl,rfl,rfl⟩
theorem aCe(w:World)(base:Nat)(ok:Nat→Prop)(x:J_):YJ.M w base ok x [.string x.f0, .string x.f1]:=⟨[.string x.f0],[.string x.f1],rfl,rfl,rfl⟩
theorem aCf(W:World)(ok:Nat→Prop)(x:J_):Kd.FK YJ W ok x [.string x.f0, .string x.f1]:=fun W2 _=>auf W2 x
def uj(xs:List J_)(i:Int):J_:=xs.getD i.toNat z61
theorem ad9{w:World}{A:Option Addr}{n:Nat}{xs:List J_}(h:Kd.C YJ w A n xs)(i:Int)(h0:0≤i)(h1:i<n):∃ad,A=some ad∧w.cell? (ad.add (i.toNat*2))=some (.string (uj xs i).f0)∧w.cell? ⟨(ad.add (i.toNat*2)).block,(ad.add (i.toNat*2)).off+1,none⟩=some (.string (uj xs i).f1):=by
 obtain⟨ad,c,e,_,hK,hc0⟩:=OQ h z61 i h0 h1;have hc:∀j u,c[j]? =some u→w.cell? (ad.add (i.toNat*2+j))=some u:=hc0;obtain rfl:=aj6 hK;exact⟨ad,e,hc 0 _ rfl,by rw[←vJ _ _ 1 (by omega)];exact hc 1 _ rfl⟩
def aHk(xs:List (List J_))(i:Int):(List J_):=xs.getD i.toNat ([]:List J_)
def xH(xs:List (List ByteArray))(i:Int):(List ByteArray):=xs.getD i.toNat ([]:List ByteArray)
theorem OT{w:World}{A:Option Addr}{n:Nat}{xs:List (List ByteArray)}(h:Kd.C (Kd.slice 9 Kd.string) w A n xs)(i:Int)(h0:0≤i)(h1:i<n):∃ad A0 c0,A=some ad∧w.cell? (ad.add i.toNat)=some (.slice A0 (xH xs i).length c0)∧(xH xs i).length≤c0∧Kd.string.C w A0 (xH xs i).length (xH xs i):=by
 obtain⟨ad,c,e,_,hK,hc0⟩:=OQ h ([]:List ByteArray) i h0 h1;have hc:∀j u,c[j]? =some u→w.cell? (ad.add (i.toNat*1+j))=some u:=hc0;obtain⟨A0,c0,rfl,l0,g0⟩:=hK;exact⟨ad,A0,c0,e,by have hq:=hc 0 _ rfl;rwa [Nat.mul_one,Nat.add_zero]at hq,l0,g0⟩
structure FW where
 f0:(List J_)
 f1:(List ByteArray)
 f2:(List FW)
def z26:FW:=⟨([]:List J_),([]:List ByteArray),([]:List FW)⟩
def F26(d:Kd FW):Kd FW:=Kd.iso (Kd.pair (Kd.slice 61 YJ) (Kd.pair (Kd.slice 9 Kd.string) (Kd.slice 26 d))) (fun x:FW=>(x.f0,x.f1,x.f2))
theorem aan:Kd.Hw F26:=acE _ (LU (IJ _) (LU (IJ _) (WB 26 af8)))
theorem axH:Kd.Sub F26 [9,26,61]:=af9 _ (OU (Kd.sub_const _ (by decide)) (OU (Kd.sub_const _ (by decide)) (Zh 26 (by decide) aj7)))
theorem aug:∀n,(Kd.upto F26 3 [9,26,61] n).sz=3:=aao (fun _=>rfl)
def k26:Kd FW:=Kd.fix F26 3 [9,26,61] aug (aap axH)
theorem axI:Kd.Heap k26:=acF (fun _ h_=>OO _ (Eb (Ar 61 aj3) (Eb (Ar 9 wJ) (Ar 26 h_))))
theorem Hy{w:World}{x:FW}{cs:List Value}(h:k26.K w x cs):∃A0 c0 A1 c1 A2 c2,cs=[.slice A0 x.f0.length c0, .slice A1 x.f1.length c1, .slice A2 x.f2.length c2]∧x.f0.length≤c0∧YJ.C w A0 x.f0.length x.f0∧x.f1.length≤c1∧Kd.string.C w A1 x.f1.length x.f1∧x.f2.length≤c2∧k26.C w A2 x.f2.length x.f2:=by
 obtain⟨n,h⟩:=h
 cases n with
 |zero=>exact h.elim
 |succ n=>
  obtain⟨_,_,rfl,⟨A0,c0,rfl,l0,g0⟩,⟨_,_,rfl,⟨A1,c1,rfl,l1,g1⟩,⟨A2,c2,rfl,l2,g2⟩⟩⟩:=h;exact⟨A0,c0,A1,c1,A2,c2,rfl,l0,g0,l1,g1,l2,arq g2⟩
theorem axE{w:World}{base:Nat}{ok:Nat→Prop}{x:FW}{cs:List Value}(h:k26.M w base ok x cs):∃v0 v1 v2,cs=[v0,v1,v2]∧YJ.R 61 w base ok v0 x.f0∧Kd.string.R 9 w base ok v1 x.f1∧k26.R 26 w base ok v2 x.f2:=by
 obtain⟨n,h⟩:=h
 cases n with
 |zero=>exact h.elim
 |succ n=>
  obtain⟨_,_,rfl,⟨v0,rfl,g0⟩,⟨_,_,rfl,⟨v1,rfl,g1⟩,⟨v2,rfl,g2⟩⟩⟩:=h;exact⟨v0,v1,v2,rfl,g0,g1,ars g2⟩
theorem aj8(w:World)(x:FW){A0:Option Addr}{c0:Nat}(l0:x.f0.length≤c0)(g0:YJ.C w A0 x.f0.length x.f0){A1:Option Addr}{c1:Nat}(l1:x.f1.length≤c1)(g1:Kd.string.C w A1 x.f1.length x.f1){A2:Option Addr}{c2:Nat}(l2:x.f2.length≤c2)(g2:k26.C w A2 x.f2.length x.f2):k26.K w x [.slice A0 x.f0.length c0, .slice A1 x.f1.length c1, .slice A2 x.f2.length c2]:=by
 obtain⟨n2,q2⟩:=WC aan g2;have r2:=Zi aan aug (show n2≤n2 by omega) q2;exact⟨n2+1,⟨[.slice A0 x.f0.length c0],[.slice A1 x.f1.length c1, .slice A2 x.f2.length c2],rfl,⟨A0,c0,rfl,l0,g0⟩,⟨[.slice A1 x.f1.length c1],[.slice A2 x.f2.length c2],rfl,⟨A1,c1,rfl,l1,g1⟩,⟨A2,c2,rfl,l2,r2⟩⟩⟩⟩
theorem aCg(w:World)(base:Nat)(ok:Nat→Prop)(x:FW){v0:Value}(g0:YJ.R 61 w base ok v0 x.f0){v1:Value}(g1:Kd.string.R 9 w base ok v1 x.f1){v2:Value}(g2:k26.R 26 w base ok v2 x.f2):k26.M w base ok x [v0,v1,v2]:=by
 obtain⟨n2,q2⟩:=WE aan g2;have r2:=Zj aan aug (show n2≤n2 by omega) q2;exact⟨n2+1,⟨[v0],[v1,v2],rfl,⟨v0,rfl,g0⟩,⟨[v1],[v2],rfl,⟨v1,rfl,g1⟩,⟨v2,rfl,r2⟩⟩⟩⟩
theorem axF{W:World}{ok:Nat→Prop}{x:FW}{cs:List Value}(h:Kd.FK k26 W ok x cs):∃A0 c0 A1 c1 A2 c2,cs=[.slice A0 x.f0.length c0, .slice A1 x.f1.length c1, .slice A2 x.f2.length c2]∧x.f0.length≤c0∧Kd.F YJ W ok A0 x.f0.length x.f0∧x.f1.length≤c1∧Kd.F Kd.string W ok A1 x.f1.length x.f1∧x.f2.length≤c2∧Kd.F k26 W ok A2 x.f2.length x.f2:=by
 obtain⟨A0,c0,A1,c1,A2,c2,rfl,l0,_,l1,_,l2,_⟩:=Hy (aj9 h);exact⟨A0,c0,A1,c1,A2,c2,rfl,l0,(fun W' hW=>by obtain⟨A0_,c0_,A1_,c1_,A2_,c2_,he,l0_,g0_,l1_,g1_,l2_,g2_⟩:=Hy (h W' hW);injection (Option.some.inj (show some (Value.slice A0 x.f0.length c0)=some (Value.slice A0_ x.f0.length c0_)from congrArg (fun l=>l[0]?) he))with ha_ _ _;rw[ha_];exact g0_),l1,(fun W' hW=>by obtain⟨A0_,c0_,A1_,c1_,A2_,c2_,he,l0_,g0_,l1_,g1_,l2_,g2_⟩:=Hy (h W' hW);injection (Option.some.inj (show some (Value.slice A1 x.f1.length c1)=some (Value.slice A1_ x.f1.length c1_)from congrArg (fun l=>l[1]?) he))with ha_ _ _;rw[ha_];exact g1_),l2,(fun W' hW=>by obtain⟨A0_,c0_,A1_,c1_,A2_,c2_,he,l0_,g0_,l1_,g1_,l2_,g2_⟩:=Hy (h W' hW);injection (Option.some.inj (show some (Value.slice A2 x.f2.length c2)=some (Value.slice A2_ x.f2.length c2_)from congrArg (fun l=>l[2]?) he))with ha_ _ _;rw[ha_];exact g2_)⟩
theorem aCh(W:World)(ok:Nat→Prop)(x:FW){A0:Option Addr}{c0:Nat}(l0:x.f0.length≤c0)(g0:Kd.F YJ W ok A0 x.f0.length x.f0){A1:Option Addr}{c1:Nat}(l1:x.f1.length≤c1)(g1:Kd.F Kd.string W ok A1 x.f1.length x.f1){A2:Option Addr}{c2:Nat}(l2:x.f2.length≤c2)(g2:Kd.F k26 W ok A2 x.f2.length x.f2):Kd.FK k26 W ok x [.slice A0 x.f0.length c0, .slice A1 x.f1.length c1, .slice A2 x.f2.length c2]:=fun W2 hW=>aj8 W2 x l0 (g0 W2 hW) l1 (g1 W2 hW) l2 (g2 W2 hW)
def lT(xs:List FW)(i:Int):FW:=xs.getD i.toNat z26
theorem ad_{w:World}{A:Option Addr}{n:Nat}{xs:List FW}(h:Kd.C k26 w A n xs)(i:Int)(h0:0≤i)(h1:i<n):∃ad A0 c0 A1 c1 A2 c2,A=some ad∧w.cell? (ad.add (i.toNat*3))=some (.slice A0 (lT xs i).f0.length c0)∧w.cell? ⟨(ad.add (i.toNat*3)).block,(ad.add (i.toNat*3)).off+1,none⟩=some (.slice A1 (lT xs i).f1.length c1)∧w.cell? ⟨(ad.add (i.toNat*3)).block,(ad.add (i.toNat*3)).off+2,none⟩=some (.slice A2 (lT xs i).f2.length c2)∧(lT xs i).f0.length≤c0∧YJ.C w A0 (lT xs i).f0.length (lT xs i).f0∧(lT xs i).f1.length≤c1∧Kd.string.C w A1 (lT xs i).f1.length (lT xs i).f1∧(lT xs i).f2.length≤c2∧k26.C w A2 (lT xs i).f2.length (lT xs i).f2:=by
 obtain⟨ad,c,e,_,hK,hc0⟩:=OQ h z26 i h0 h1;have hc:∀j u,c[j]? =some u→w.cell? (ad.add (i.toNat*3+j))=some u:=hc0;obtain⟨A0,c0,A1,c1,A2,c2,rfl,l0,g0,l1,g1,l2,g2⟩:=Hy hK;exact⟨ad,A0,c0,A1,c1,A2,c2,e,hc 0 _ rfl,by rw[←vJ _ _ 1 (by omega)];exact hc 1 _ rfl,by rw[←vJ _ _ 2 (by omega)];exact hc 2 _ rfl,l0,g0,l1,g1,l2,g2⟩
structure iq where
 f0:ByteArray
 f1:ByteArray
def z63:iq:=⟨(⟨#[]⟩:ByteArray),(⟨#[]⟩:ByteArray)⟩
def lg:Kd iq:=Kd.iso (Kd.pair Kd.string Kd.string) (fun x:iq=>(x.f0,x.f1))
theorem acG:Kd.Heap lg:=OO _ (Eb wJ wJ)
theorem aj_{w:World}{x:iq}{cs:List Value}(h:lg.K w x cs):cs=[.string x.f0, .string x.f1]:=by
 obtain⟨_,_,rfl,rfl,rfl⟩:=h;exact rfl
theorem Au{w:World}{base:Nat}{ok:Nat→Prop}{x:iq}{cs:List Value}(h:lg.M w base ok x cs):cs=[.string x.f0, .string x.f1]:=by
 obtain⟨_,_,rfl,rfl,rfl⟩:=h;exact rfl
theorem auh(w:World)(x:iq):lg.K w x [.string x.f0, .string x.f1]:=⟨[.string x.f0],[.string x.f1],rfl,rfl,rfl⟩
theorem LV(w:World)(base:Nat)(ok:Nat→Prop)(x:iq):lg.M w base ok x [.string x.f0, .string x.f1]:=⟨[.string x.f0],[.string x.f1],rfl,rfl,rfl⟩
theorem aCi(W:World)(ok:Nat→Prop)(x:iq):Kd.FK lg W ok x [.string x.f0, .string x.f1]:=fun W2 _=>auh W2 x
def aT(xs:List iq)(i:Int):iq:=xs.getD i.toNat z63
theorem ou{w:World}{A:Option Addr}{n:Nat}{xs:List iq}(h:Kd.C lg w A n xs)(i:Int)(h0:0≤i)(h1:i<n):∃ad,A=some ad∧w.cell? (ad.add (i.toNat*2))=some (.string (aT xs i).f0)∧w.cell? ⟨(ad.add (i.toNat*2)).block,(ad.add (i.toNat*2)).off+1,none⟩=some (.string (aT xs i).f1):=by
 obtain⟨ad,c,e,_,hK,hc0⟩:=OQ h z63 i h0 h1;have hc:∀j u,c[j]? =some u→w.cell? (ad.add (i.toNat*2+j))=some u:=hc0;obtain rfl:=aj_ hK;exact⟨ad,e,hc 0 _ rfl,by rw[←vJ _ _ 1 (by omega)];exact hc 1 _ rfl⟩
def af_(xs:List (List iq))(i:Int):(List iq):=xs.getD i.toNat ([]:List iq)
theorem aHl{w:World}{A:Option Addr}{n:Nat}{xs:List (List iq)}(h:Kd.C (Kd.slice 63 lg) w A n xs)(i:Int)(h0:0≤i)(h1:i<n):∃ad A0 c0,A=some ad∧w.cell? (ad.add i.toNat)=some (.slice A0 (af_ xs i).length c0)∧(af_ xs i).length≤c0∧lg.C w A0 (af_ xs i).length (af_ xs i):=by
 obtain⟨ad,c,e,_,hK,hc0⟩:=OQ h ([]:List iq) i h0 h1;have hc:∀j u,c[j]? =some u→w.cell? (ad.add (i.toNat*1+j))=some u:=hc0;obtain⟨A0,c0,rfl,l0,g0⟩:=hK;exact⟨ad,A0,c0,e,by have hq:=hc 0 _ rfl;rwa [Nat.mul_one,Nat.add_zero]at hq,l0,g0⟩
structure jm where
 f0:(List iq)
 f1:(List ByteArray)
 f2:(List jm)
def z32:jm:=⟨([]:List iq),([]:List ByteArray),([]:List jm)⟩
def F32(d:Kd jm):Kd jm:=Kd.iso (Kd.pair (Kd.slice 63 lg) (Kd.pair (Kd.slice 9 Kd.string) (Kd.slice 32 d))) (fun x:jm=>(x.f0,x.f1,x.f2))
theorem WG:Kd.Hw F32:=acE _ (LU (IJ _) (LU (IJ _) (WB 32 af8)))
theorem axJ:Kd.Sub F32 [9,32,63]:=af9 _ (OU (Kd.sub_const _ (by decide)) (OU (Kd.sub_const _ (by decide)) (Zh 32 (by decide) aj7)))
theorem aoj:∀n,(Kd.upto F32 3 [9,32,63] n).sz=3:=aao (fun _=>rfl)
def k32:Kd jm:=Kd.fix F32 3 [9,32,63] aoj (aap axJ)
theorem akb:Kd.Heap k32:=acF (fun _ h_=>OO _ (Eb (Ar 63 acG) (Eb (Ar 9 wJ) (Ar 32 h_))))
theorem Kr{w:World}{x:jm}{cs:List Value}(h:k32.K w x cs):∃A0 c0 A1 c1 A2 c2,cs=[.slice A0 x.f0.length c0, .slice A1 x.f1.length c1, .slice A2 x.f2.length c2]∧x.f0.length≤c0∧lg.C w A0 x.f0.length x.f0∧x.f1.length≤c1∧Kd.string.C w A1 x.f1.length x.f1∧x.f2.length≤c2∧k32.C w A2 x.f2.length x.f2:=by
 obtain⟨n,h⟩:=h
 cases n with
 |zero=>exact h.elim
 |succ n=>
  obtain⟨_,_,rfl,⟨A0,c0,rfl,l0,g0⟩,⟨_,_,rfl,⟨A1,c1,rfl,l1,g1⟩,⟨A2,c2,rfl,l2,g2⟩⟩⟩:=h;exact⟨A0,c0,A1,c1,A2,c2,rfl,l0,g0,l1,g1,l2,arq g2⟩
theorem SL{w:World}{base:Nat}{ok:Nat→Prop}{x:jm}{cs:List Value}(h:k32.M w base ok x cs):∃v0 v1 v2,cs=[v0,v1,v2]∧lg.R 63 w base ok v0 x.f0∧Kd.string.R 9 w base ok v1 x.f1∧k32.R 32 w base ok v2 x.f2:=by
 obtain⟨n,h⟩:=h
 cases n with
 |zero=>exact h.elim
 |succ n=>
  obtain⟨_,_,rfl,⟨v0,rfl,g0⟩,⟨_,_,rfl,⟨v1,rfl,g1⟩,⟨v2,rfl,g2⟩⟩⟩:=h;exact⟨v0,v1,v2,rfl,g0,g1,ars g2⟩
theorem aui(w:World)(x:jm){A0:Option Addr}{c0:Nat}(l0:x.f0.length≤c0)(g0:lg.C w A0 x.f0.length x.f0){A1:Option Addr}{c1:Nat}(l1:x.f1.length≤c1)(g1:Kd.string.C w A1 x.f1.length x.f1){A2:Option Addr}{c2:Nat}(l2:x.f2.length≤c2)(g2:k32.C w A2 x.f2.length x.f2):k32.K w x [.slice A0 x.f0.length c0, .slice A1 x.f1.length c1, .slice A2 x.f2.length c2]:=by
 obtain⟨n2,q2⟩:=WC WG g2;have r2:=Zi WG aoj (show n2≤n2 by omega) q2;exact⟨n2+1,⟨[.slice A0 x.f0.length c0],[.slice A1 x.f1.length c1, .slice A2 x.f2.length c2],rfl,⟨A0,c0,rfl,l0,g0⟩,⟨[.slice A1 x.f1.length c1],[.slice A2 x.f2.length c2],rfl,⟨A1,c1,rfl,l1,g1⟩,⟨A2,c2,rfl,l2,r2⟩⟩⟩⟩
theorem Vs(w:World)(base:Nat)(ok:Nat→Prop)(x:jm){v0:Value}(g0:lg.R 63 w base ok v0 x.f0){v1:Value}(g1:Kd.string.R 9 w base ok v1 x.f1){v2:Value}(g2:k32.R 32 w base ok v2 x.f2):k32.M w base ok x [v0,v1,v2]:=by
 obtain⟨n2,q2⟩:=WE WG g2;have r2:=Zj WG aoj (show n2≤n2 by omega) q2;exact⟨n2+1,⟨[v0],[v1,v2],rfl,⟨v0,rfl,g0⟩,⟨[v1],[v2],rfl,⟨v1,rfl,g1⟩,⟨v2,rfl,r2⟩⟩⟩⟩
theorem Zk{W:World}{ok:Nat→Prop}{x:jm}{cs:List Value}(h:Kd.FK k32 W ok x cs):∃A0 c0 A1 c1 A2 c2,cs=[.slice A0 x.f0.length c0, .slice A1 x.f1.length c1, .slice A2 x.f2.length c2]∧x.f0.length≤c0∧Kd.F lg W ok A0 x.f0.length x.f0∧x.f1.length≤c1∧Kd.F Kd.string W ok A1 x.f1.length x.f1∧x.f2.length≤c2∧Kd.F k32 W ok A2 x.f2.length x.f2:=by
 obtain⟨A0,c0,A1,c1,A2,c2,rfl,l0,_,l1,_,l2,_⟩:=Kr (aj9 h);exact⟨A0,c0,A1,c1,A2,c2,rfl,l0,(fun W' hW=>by obtain⟨A0_,c0_,A1_,c1_,A2_,c2_,he,l0_,g0_,l1_,g1_,l2_,g2_⟩:=Kr (h W' hW);injection (Option.some.inj (show some (Value.slice A0 x.f0.length c0)=some (Value.slice A0_ x.f0.length c0_)from congrArg (fun l=>l[0]?) he))with ha_ _ _;rw[ha_];exact g0_),l1,(fun W' hW=>by obtain⟨A0_,c0_,A1_,c1_,A2_,c2_,he,l0_,g0_,l1_,g1_,l2_,g2_⟩:=Kr (h W' hW);injection (Option.some.inj (show some (Value.slice A1 x.f1.length c1)=some (Value.slice A1_ x.f1.length c1_)from congrArg (fun l=>l[1]?) he))with ha_ _ _;rw[ha_];exact g1_),l2,(fun W' hW=>by obtain⟨A0_,c0_,A1_,c1_,A2_,c2_,he,l0_,g0_,l1_,g1_,l2_,g2_⟩:=Kr (h W' hW);injection (Option.some.inj (show some (Value.slice A2 x.f2.length c2)=some (Value.slice A2_ x.f2.length c2_)from congrArg (fun l=>l[2]?) he))with ha_ _ _;rw[ha_];exact g2_)⟩
theorem aCj(W:World)(ok:Nat→Prop)(x:jm){A0:Option Addr}{c0:Nat}(l0:x.f0.length≤c0)(g0:Kd.F lg W ok A0 x.f0.length x.f0){A1:Option Addr}{c1:Nat}(l1:x.f1.length≤c1)(g1:Kd.F Kd.string W ok A1 x.f1.length x.f1){A2:Option Addr}{c2:Nat}(l2:x.f2.length≤c2)(g2:Kd.F k32 W ok A2 x.f2.length x.f2):Kd.FK k32 W ok x [.slice A0 x.f0.length c0, .slice A1 x.f1.length c1, .slice A2 x.f2.length c2]:=fun W2 hW=>aui W2 x l0 (g0 W2 hW) l1 (g1 W2 hW) l2 (g2 W2 hW)
def aH(xs:List jm)(i:Int):jm:=xs.getD i.toNat z32
theorem qY{w:World}{A:Option Addr}{n:Nat}{xs:List jm}(h:Kd.C k32 w A n xs)(i:Int)(h0:0≤i)(h1:i<n):∃ad A0 c0 A1 c1 A2 c2,A=some ad∧w.cell? (ad.add (i.toNat*3))=some (.slice A0 (aH xs i).f0.length c0)∧w.cell? ⟨(ad.add (i.toNat*3)).block,(ad.add (i.toNat*3)).off+1,none⟩=some (.slice A1 (aH xs i).f1.length c1)∧w.cell? ⟨(ad.add (i.toNat*3)).block,(ad.add (i.toNat*3)).off+2,none⟩=some (.slice A2 (aH xs i).f2.length c2)∧(aH xs i).f0.length≤c0∧lg.C w A0 (aH xs i).f0.length (aH xs i).f0∧(aH xs i).f1.length≤c1∧Kd.string.C w A1 (aH xs i).f1.length (aH xs i).f1∧(aH xs i).f2.length≤c2∧k32.C w A2 (aH xs i).f2.length (aH xs i).f2:=by
 obtain⟨ad,c,e,_,hK,hc0⟩:=OQ h z32 i h0 h1;have hc:∀j u,c[j]? =some u→w.cell? (ad.add (i.toNat*3+j))=some u:=hc0;obtain⟨A0,c0,A1,c1,A2,c2,rfl,l0,g0,l1,g1,l2,g2⟩:=Kr hK;exact⟨ad,A0,c0,A1,c1,A2,c2,e,hc 0 _ rfl,by rw[←vJ _ _ 1 (by omega)];exact hc 1 _ rfl,by rw[←vJ _ _ 2 (by omega)];exact hc 2 _ rfl,l0,g0,l1,g1,l2,g2⟩
theorem akc{α:Type}{d d':Kd α}(hs:d.sz=d'.sz)(h:∀w base ok x cs,d.M w base ok x cs→d'.M w base ok x cs){e:Nat}{w:World}{base:Nat}{ok:Nat→Prop}{v:Value}{xs:List α}(hr:Kd.S d e w base ok v xs):Kd.S d' e w base ok v xs:=by
 obtain⟨f,hr⟩:=hr;exact⟨f,acH (d:=Kd.tag f d) (d':=Kd.tag f d') hs (fun w base ok x cs hm=>h w base _ x.1 cs hm) hr⟩
def FA(d:Kd jm):Kd jm where
 sz:=3
 E:=63:: 9:: 32:: d.E
 K:=(F32 d).K
 M:=fun w base ok x cs=>∃(v0 v1 v2:Value) (o0 o1 o2:Nat→Prop),cs=[v0,v1,v2]∧(∀k,o0 k→ok k∧¬o1 k∧¬o2 k)∧(∀k,o1 k→ok k∧¬o2 k)∧(∀k,o2 k→ok k)∧lg.R 63 w base o0 v0 x.f0∧Kd.string.R 9 w base o1 v1 x.f1∧Kd.S d 32 w base o2 v2 x.f2
 rW:=fun h=>(F32 d).rW h
 sG:=fun h=>(F32 d).sG h
 oV:=fun hb h=>(F32 d).oV hb h
 m_:=by
  rintro w base ok x cs ⟨v0,v1,v2,o0,o1,o2,rfl,-,-,-,h0,h1,h2⟩;obtain⟨A0,c0,rfl,l0,g0⟩:=LW h0;obtain⟨A1,c1,rfl,l1,g1⟩:=LW h1;obtain⟨A2,c2,rfl,l2,g2⟩:=aok h2;exact⟨[_],[_,_],rfl,⟨A0,c0,rfl,l0,g0⟩,[_],[_],rfl,⟨A1,c1,rfl,l1,g1⟩,⟨A2,c2,rfl,l2,g2⟩⟩
 jW:=by
  rintro w base ok ok' x cs hok ⟨v0,v1,v2,o0,o1,o2,rfl,a0,a1,a2,h⟩;exact⟨v0,v1,v2,o0,o1,o2,rfl,fun k hk=>⟨hok k (a0 k hk).1,(a0 k hk).2⟩,fun k hk=>⟨hok k (a1 k hk).1,(a1 k hk).2⟩,fun k hk=>hok k (a2 k hk),h⟩
 mP:=by
  rintro w base ok x cs ⟨v0,v1,v2,o0,o1,o2,rfl,a0,a1,a2,h0,h1,h2⟩;refine⟨v0,v1,v2,_,_,_,rfl,fun k hk=>⟨⟨(a0 k hk.1).1,hk.2.1,hk.2.2.1,?_⟩,fun hh=>(a0 k hk.1).2.1 hh.1,fun hh=>(a0 k hk.1).2.2 hh.1⟩,fun k hk=>⟨⟨(a1 k hk.1).1,hk.2.1,hk.2.2.1,?_⟩,fun hh=>(a1 k hk.1).2 hh.1⟩,fun k hk=>⟨a2 k hk.1,hk.2.1,hk.2.2.1,?_⟩,lM h0,lM h1,Bc h2⟩
  ·obtain⟨q,hq,hc⟩:=hk.2.2.2;refine⟨q,?_,hc⟩;rcases List.mem_cons.1 hq with rfl|hq
   ·exact List.mem_cons_self
   ·exact absurd hq (by change¬q∈([]:List Nat);simp)
  ·obtain⟨q,hq,hc⟩:=hk.2.2.2;refine⟨q,?_,hc⟩;rcases List.mem_cons.1 hq with rfl|hq
   ·exact List.mem_cons_of_mem _ List.mem_cons_self
   ·exact absurd hq (by change¬q∈([]:List Nat);simp)
  ·obtain⟨q,hq,hc⟩:=hk.2.2.2;exact⟨q,List.mem_cons_of_mem _ (List.mem_cons_of_mem _ hq),hc⟩
 pz:=by
  rintro w w1 base ok x cs hm ⟨v0,v1,v2,o0,o1,o2,rfl,a0,a1,a2,h0,h1,h2⟩;exact⟨v0,v1,v2,o0,o1,o2,rfl,a0,a1,a2,Kt h0 (fun k hk=>hm k (a0 k hk).1),Kt h1 (fun k hk=>hm k (a1 k hk).1),akd h2 (fun k hk=>hm k (a2 k hk))⟩
 pJ:=by
  rintro w base base' ok x cs hb ⟨v0,v1,v2,o0,o1,o2,rfl,a0,a1,a2,h0,h1,h2⟩;exact⟨v0,v1,v2,o0,o1,o2,rfl,a0,a1,a2,bP h0 hb,bP h1 hb,IK h2 hb⟩
theorem axK:Kd.Hw FA:=by
 refine⟨fun _ _ _=>rfl,fun d d' hs h=>WG.K d d' hs h,?_⟩;rintro d d' hs h w base ok x cs ⟨v0,v1,v2,o0,o1,o2,rfl,a0,a1,a2,h0,h1,h2⟩;exact⟨v0,v1,v2,o0,o1,o2,rfl,a0,a1,a2,h0,h1,akc hs h h2⟩
theorem szA:∀n,(Kd.upto FA 3 [9,32,63] n).sz=3:=aao (fun _=>rfl)
theorem aEJ:Kd.Sub FA [9,32,63]:=by
 intro d h q hq;rcases List.mem_cons.1 hq with rfl|hq
 ·decide
 rcases List.mem_cons.1 hq with rfl|hq
 ·decide
 rcases List.mem_cons.1 hq with rfl|hq
 ·decide
 exact h q hq
theorem aga:∀(n:Nat) {w:World} {base:Nat} {ok:Nat→Prop} {x:jm} {cs:List Value},(Kd.upto FA 3 [9,32,63] n).M w base ok x cs→(Kd.upto F32 3 [9,32,63] n).M w base ok x cs
 |0,_,_,_,_,_,h=>h.elim
 |n+1,w,base,ok,x,cs,h=>by
  obtain⟨v0,v1,v2,o0,o1,o2,rfl,a0,a1,a2,h0,h1,h2⟩:=h;exact⟨[v0],[v1,v2],rfl,⟨v0,rfl,aY h0 (fun k hk=>(a0 k hk).1)⟩,[v1],[v2],rfl,⟨v1,rfl,aY h1 (fun k hk=>(a1 k hk).1)⟩,⟨v2,rfl,acH (by rw[szA n,aoj n]) (fun _ _ _ _ _ hp=>aga n hp) (aY (Kd.S_R h2) a2)⟩⟩
def kA:Kd jm where
 sz:=k32.sz
 E:=[9,32,63]
 K:=k32.K
 M:=fun w base ok x cs=>∃n,(Kd.upto FA 3 [9,32,63] n).M w base ok x cs
 rW:=k32.rW
 sG:=k32.sG
 oV:=k32.oV
 m_:=by
  rintro w base ok x cs ⟨n,h⟩;exact k32.m_ ⟨n,aga n h⟩
 jW:=by
  rintro w base ok ok' x cs hok ⟨n,h⟩;exact⟨n,(Kd.upto FA 3 [9,32,63] n).jW hok h⟩
 mP:=by
  rintro w base ok x cs ⟨n,h⟩;refine⟨n,(Kd.upto FA 3 [9,32,63] n).jW ?_ ((Kd.upto FA 3 [9,32,63] n).mP h)⟩;rintro k ⟨h2,h3,h4,q,hq,hc⟩;exact⟨h2,h3,h4,q,aap aEJ n q hq,hc⟩
 pz:=by
  rintro w w1 base ok x cs hm ⟨n,h⟩;exact⟨n,(Kd.upto FA 3 [9,32,63] n).pz hm h⟩
 pJ:=by
  rintro w base base' ok x cs hb ⟨n,h⟩;exact⟨n,(Kd.upto FA 3 [9,32,63] n).pJ hb h⟩
theorem aru{w:World}{A:Option Addr}{n:Nat}{xs:List jm}(h:kA.C w A n xs):k32.C w A n xs:=by
 unfold Kd.C at h⊢;exact h
theorem aol{e:Nat}{w:World}{base:Nat}{ok:Nat→Prop}{v:Value}{xs:List jm}(h:Kd.S kA e w base ok v xs):∃n,Kd.S (Kd.upto FA 3 [9,32,63] n) e w base ok v xs:=by
 obtain⟨f,h0,inner,ho,hr⟩:=h;obtain⟨N,hN⟩:=OV (R:=fun n p c=>(Kd.tag f (Kd.upto FA 3 [9,32,63] n)).M w base (fun k=>ok k∧some k≠v.ownBlock) p c) (fun n m p c hnm hp=>SN axK szA hnm hp) hr;refine⟨N,f,h0,inner,?_,?_⟩
 ·have e1:(Kd.tag f (Kd.upto FA 3 [9,32,63] N)).sz=3:=szA N;rw[e1];exact ho
 ·have e1:(Kd.tag f (Kd.upto FA 3 [9,32,63] N)).sz=3:=szA N;rw[e1];exact hN
theorem axL{w:World}{base:Nat}{ok:Nat→Prop}{x:jm}{cs:List Value}(h:kA.M w base ok x cs):∃(v0 v1 v2:Value) (o0 o1 o2:Nat→Prop),cs=[v0,v1,v2]∧(∀k,o0 k→ok k∧¬o1 k∧¬o2 k)∧(∀k,o1 k→ok k∧¬o2 k)∧(∀k,o2 k→ok k)∧lg.R 63 w base o0 v0 x.f0∧Kd.string.R 9 w base o1 v1 x.f1∧Kd.S kA 32 w base o2 v2 x.f2:=by
 obtain⟨n,h⟩:=h
 cases n with
 |zero=>exact h.elim
 |succ n=>
  obtain⟨v0,v1,v2,o0,o1,o2,rfl,a0,a1,a2,h0,h1,h2⟩:=h;exact⟨v0,v1,v2,o0,o1,o2,rfl,a0,a1,a2,h0,h1,akc (d':=kA) (szA n) (fun _ _ _ _ _ hp=>⟨n,hp⟩) h2⟩
theorem mkA{w:World}{base:Nat}{ok o0 o1 o2:Nat→Prop}{x:jm}{v0 v1 v2:Value}(a0:∀k,o0 k→ok k∧¬o1 k∧¬o2 k)(a1:∀k,o1 k→ok k∧¬o2 k)(a2:∀k,o2 k→ok k)(h0:lg.R 63 w base o0 v0 x.f0)(h1:Kd.string.R 9 w base o1 v1 x.f1)(h2:Kd.S kA 32 w base o2 v2 x.f2):kA.M w base ok x [v0,v1,v2]:=by
 obtain⟨n,h2⟩:=aol h2;exact⟨n+1,v0,v1,v2,o0,o1,o2,rfl,a0,a1,a2,h0,h1,h2⟩
def Apt(M:Nat)(w:World)(base:Nat)(ok:Nat→Prop)(v:Value)(xs:List jm)(v0:Value)(t0:List iq)(v1:Value)(t1:List ByteArray)(v2:Value)(t2:List jm):Prop:=
 ∃N,(∀k,N≤k→k<M→ok k∧some k≠v.ownBlock)∧N≤M∧M≤w.heap.size∧base≤N∧Kd.S kA 32 w base (fun k=>ok k∧k<N) v xs∧lg.R 63 w N (fun k=>k<M) v0 t0∧Kd.string.R 9 w N (fun k=>k<M) v1 t1∧Kd.S kA 32 w N (fun k=>k<M∧some k≠v0.ownBlock∧some k≠v1.ownBlock) v2 t2
theorem auj{w w':World}{base:Nat}{ok:Nat→Prop}{v:Value}{xs:List jm}{v0:Value}{t0:List iq}{v1:Value}{t1:List ByteArray}{v2:Value}{t2:List jm}(hs:Kd.S kA 32 w base ok v xs)(h0:lg.R 63 w' w.heap.size (fun _=>True) v0 t0)(h1:Kd.string.R 9 w' w.heap.size (fun _=>True) v1 t1)(h2:Kd.S kA 32 w' w.heap.size (fun k=>some k≠v0.ownBlock∧some k≠v1.ownBlock) v2 t2)
  (hb:Below w.heap.size w w') (hok:∀k,w.heap.size≤k→ok k) (hbase:base≤w.heap.size):Apt w'.heap.size w' base ok v xs v0 t0 v1 t1 v2 t2:=
 ⟨w.heap.size,fun k hk _=>⟨hok k hk,fun e=>by have:=axM hs k e.symm;omega⟩,hb.size,Nat.le_refl _,hbase,arv hs hb,aY (lM h0) (fun k hk=>hk.2.2.1),aY (lM h1) (fun k hk=>hk.2.2.1),oz (Bc h2) (fun k hk=>⟨hk.2.2.1,hk.1⟩)⟩
theorem ake{w w1:World}{base:Nat}{ok ok':Nat→Prop}{v:Value}{xs:List jm}{v0:Value}{t0:List iq}{v1:Value}{t1:List ByteArray}{v2:Value}{t2:List jm}(h:Apt w.heap.size w base ok v xs v0 t0 v1 t1 v2 t2)(hb:Below w.heap.size w w1)(hok:∀k,k<w.heap.size→ok k→ok' k):Apt w.heap.size w1 base ok' v xs v0 t0 v1 t1 v2 t2:=by
 obtain⟨N,h1,h2,_,h4,h5,h6,h7,h8⟩:=h;exact⟨N,fun k hk hm=>⟨hok k hm (h1 k hk hm).1,(h1 k hk hm).2⟩,h2,hb.size,h4,oz (F9 h5 hb) (fun k hk=>⟨hok k (Nat.lt_of_lt_of_le hk.2 h2) hk.1,hk.2⟩),lZ h6 hb,lZ h7 hb,F9 h8 hb⟩
theorem arw{w:World}{N:Nat}{v0 v1:Value}{t0:List iq}{t1:List ByteArray}{o o':Nat→Prop}(h0:lg.R 63 w N o v0 t0)(h1:Kd.string.R 9 w N o' v1 t1){k:Nat}(e0:some k=v0.ownBlock)(e1:some k=v1.ownBlock):False:=by
 obtain⟨c0,a0⟩:=qA h0 k e0.symm;obtain⟨c1,a1⟩:=qA h1 k e1.symm;rw[a0]at a1;have:=Option.some.inj a1;injection this with _ e;exact absurd e (by decide)
theorem arx{M:Nat}{w:World}{N base:Nat}{v0:Value}{t0:List iq}{v1:Value}{t1:List ByteArray}{v2:Value}{t2:List jm}(hb:base≤N)(h0:lg.R 63 w N (fun k=>k<M) v0 t0)(h1:Kd.string.R 9 w N (fun k=>k<M) v1 t1)(h2:Kd.S kA 32 w N (fun k=>k<M∧some k≠v0.ownBlock∧some k≠v1.ownBlock) v2 t2):kA.M w base (fun k=>N≤k∧k<M) ⟨t0,t1,t2⟩ [v0,v1,v2]:=by
 have b0:=h0.1;have b1:=h1.1;refine mkA (o0:=fun k=>(N≤k∧k<M)∧some k=v0.ownBlock) (o1:=fun k=>(N≤k∧k<M)∧some k=v1.ownBlock) (o2:=fun k=>(N≤k∧k<M)∧some k≠v0.ownBlock∧some k≠v1.ownBlock) (fun k hk=>⟨hk.1,fun h=>arw h0 h1 hk.2 h.2,fun h=>h.2.1 hk.2⟩) (fun k hk=>⟨hk.1,fun h=>h.2.2 hk.2⟩) (fun k hk=>hk.1) ?_ ?_ ?_
 ·exact bP (aY (lM (Gf rfl h0)) (fun k hk=>⟨⟨hk.2.1,b0 k hk.1.symm⟩,hk.1⟩)) hb
 ·exact bP (aY (lM (Gf rfl h1)) (fun k hk=>⟨⟨hk.2.1,b1 k hk.1.symm⟩,hk.1⟩)) hb
 ·exact IK (oz (Bc h2) (fun k hk=>⟨⟨hk.2.1,hk.1.1⟩,hk.1.2⟩)) hb
section
variable {P:Program} {ops:Array Oper} {rest:List Oper} {o:Oper} {a:Act} {Q:Exit→Act→World→Prop} {Kc:Act→World→Prop}
theorem axN{w0 W:World}(base:Nat)(hgd:o.guard=none)(s x:Operand)(t e:TypeId)(z:Value)(bytes:Nat)
  (ho:o.op= .call {callee:= .builtin .append,args:=#[s,x],argTypes:=#[t,t]})
  (ht:P.underlying t=some (.slice e)) (hinfo:(P.info? e).map (fun i=>(i.zero,i.size,i.bytes))=some (some z,kA.sz,bytes)) (hz:z.cells.size=kA.sz) (hs0:0<kA.sz) (hb0:0<bytes)
  (v:Value) (xs:List jm) (ok:Nat→Prop) {v0:Value} {t0:List iq} {v1:Value} {t1:List ByteArray} {v2:Value} {t2:List jm} (he:e=32) (hs:a.eval s=v) (hx:a.eval x= .slice (some ⟨W.heap.size,0,none⟩) 1 1) {M:Nat} (HA:Apt M W base ok v xs v0 t0 v1 t1 v2 t2) (hfresh:∀k,W.heap.size≤k→ok k)
  (HB:Below base w0 W) (hbase:base≤W.heap.size) (hl:(xs.length+1)*bytes≤140737488355328)
  (h:∀v' w1,Kd.S kA 32 w1 base ok v' (xs++[⟨t0,t1,t2⟩])→Below base w0 w1→W.grownBy w1 v.ownBlock→(v'.ownBlock=v.ownBlock∨∃b,v'.ownBlock=some b∧W.heap.size≤b)→wpList P ops Q rest (a.put o.dst v') w1):
  wpList P ops Q (o:: rest) a (W.alloc (.cells [v0,v1,v2].toArray e)):=by
 subst he;obtain⟨N,h1,h2,h3,h4,h5,h6,h7,h8⟩:=HA;exact WH kA base hgd s x t 32 z bytes ho ht hinfo hz hs0 hb0 v xs ⟨t0,t1,t2⟩ [v0,v1,v2] ok (fun k=>N≤k∧k<M) hs hx (arx h4 h6 h7 h8) (fun k hk=>h1 k hk.1 hk.2) hfresh (oz h5 (fun k hk=>⟨hk.1,fun hh=>absurd hh.1 (Nat.not_le.mpr hk.2)⟩)) HB hbase hl h
theorem YN{w0 W:World}(base:Nat)(hw:Region.wanted o (yielded ops a.tmps)=true)(s x:Operand)(t e:TypeId)(z:Value)(bytes:Nat)
  (ho:o.op= .call {callee:= .builtin .append,args:=#[s,x],argTypes:=#[t,t]})
  (ht:P.underlying t=some (.slice e)) (hinfo:(P.info? e).map (fun i=>(i.zero,i.size,i.bytes))=some (some z,kA.sz,bytes)) (hz:z.cells.size=kA.sz) (hs0:0<kA.sz) (hb0:0<bytes)
  (v:Value) (xs:List jm) (ok:Nat→Prop) {v0:Value} {t0:List iq} {v1:Value} {t1:List ByteArray} {v2:Value} {t2:List jm} (he:e=32) (hs:a.eval s=v) (hx:a.eval x= .slice (some ⟨W.heap.size,0,none⟩) 1 1) {M:Nat} (HA:Apt M W base ok v xs v0 t0 v1 t1 v2 t2) (hfresh:∀k,W.heap.size≤k→ok k)
  (HB:Below base w0 W) (hbase:base≤W.heap.size) (hl:(xs.length+1)*bytes≤140737488355328)
  (h:∀v' w1,Kd.S kA 32 w1 base ok v' (xs++[⟨t0,t1,t2⟩])→Below base w0 w1→W.grownBy w1 v.ownBlock→(v'.ownBlock=v.ownBlock∨∃b,v'.ownBlock=some b∧W.heap.size≤b)→Kc (a.put o.dst v') w1):
  if Region.wanted o (yielded ops a.tmps)=true then Oper.wp P o a (W.alloc (.cells [v0,v1,v2].toArray e)) Kc Q else Kc (a.put o.dst undef) (W.alloc (.cells [v0,v1,v2].toArray e)):=by
 subst he;obtain⟨N,h1,h2,h3,h4,h5,h6,h7,h8⟩:=HA;exact YO kA base hw s x t 32 z bytes ho ht hinfo hz hs0 hb0 v xs ⟨t0,t1,t2⟩ [v0,v1,v2] ok (fun k=>N≤k∧k<M) hs hx (arx h4 h6 h7 h8) (fun k hk=>h1 k hk.1 hk.2) hfresh (oz h5 (fun k hk=>⟨hk.1,fun hh=>absurd hh.1 (Nat.not_le.mpr hk.2)⟩)) HB hbase hl h
end
mutual
def iU.f:Nat→List (iq)→List ByteArray→List (jm)→Option ((List (iq))×List ByteArray×(List (jm)))
 |0,_,_,_=>none
 |k+1,aN,aQ,aA=>(some (([]:List (iq)):List (iq))).bind fun WI=>(if WI.length+aN.length<4398046511104 then((some (([]:List ByteArray):List ByteArray)).bind fun WJ=>(if WJ.length+aQ.length<8796093022208 then((fV.l0 k (([]:List (jm))) aA (aA.length:Int) 0).bind fun G9=>(some ((WI++aN),(WJ++aQ),G9)))else(none)))else(none))
def fV.l0:Nat→List (jm)→List (jm)→Int→Int→Option ((List (jm)))
 |0,_,_,_,_=>none
 |k+1,x3,x7,x8,x9=>if x9<x8 then(if 0≤x9 then(if x9<(x7.length:Int)then((iU.f k ((aH x7 x9).f0) ((aH x7 x9).f1) ((aH x7 x9).f2)).bind fun akf=>(if x3.length<1954687338268 then(fV.l0 k (x3++[(⟨akf.1,akf.2.1,akf.2.2⟩:jm)]) x7 x8 (wrap64 (x9+1)))else(none)))else(none))else(none))else(some x3)
end
def fV.f(k:Nat)(l0:List (jm)):Option ((List (jm))):=fV.l0 k (([]:List (jm))) l0 (l0.length:Int) 0
theorem iU.NV(k:Nat)(aN:List (iq))(aQ:List ByteArray)(aA:List (jm)):iU.f (k+1) aN aQ aA=((some (([]:List (iq)):List (iq))).bind fun WI=>(if WI.length+aN.length<4398046511104 then((some (([]:List ByteArray):List ByteArray)).bind fun WJ=>(if WJ.length+aQ.length<8796093022208 then((fV.f k aA).bind fun G9=>(some ((WI++aN),(WJ++aQ),G9)))else(none)))else(none))):=by simp only[iU.f,fV.f]
set_option maxHeartbeats 8000000 in
set_option maxRecDepth 100000 in
theorem iU.pair(k:Nat):(∀(cO:Option Addr) (cZ:Nat) (aN:List (iq)) (dh:Option Addr) (dw:Nat) (aQ:List ByteArray) (bH:Option Addr) (bg:Nat) (aA:List (jm)) (r1:List (iq)) (r2:List ByteArray) (r3:List (jm)) (w:World) (ku:Kd.C lg w cO aN.length aN) (kC:aN.length≤cZ) (kD:Kd.C Kd.string w dh aQ.length aQ) (kE:aQ.length≤dw) (jg:Kd.C k32 w bH aA.length aA) (jh:aA.length≤bg) (h:iU.f k aN aQ aA=some (r1,r2,r3)),
  Calls Tryz.prog 24 #[.agg #[.slice cO aN.length cZ, .slice dh aQ.length dw, .slice bH aA.length bg]] w fun e w'=>∃qZ IL Ko:Value,e= .returned (.agg #[qZ,IL,Ko])∧Kd.R lg 63 w' w.heap.size (fun _=>True) qZ r1∧Kd.R Kd.string 9 w' w.heap.size (fun _=>True) IL r2∧Kd.R k32 32 w' w.heap.size (fun k_=>some k_≠(qZ:Value).ownBlock∧some k_≠(IL:Value).ownBlock) Ko r3∧Below w.heap.size w w')∧
  (∀(A0:Option Addr) (c0:Nat) (l0:List (jm)) (r:List (jm)) (w:World) (hr0:Kd.C k32 w A0 l0.length l0) (hc0:l0.length≤c0) (h:fV.f k l0=some r),
  Calls Tryz.prog 42 #[.slice A0 l0.length c0] w fun e w'=>∃qZ:Value,e= .returned (qZ)∧Kd.R k32 32 w' w.heap.size (fun _=>True) qZ r∧Below w.heap.size w w'):=by
 induction k using Nat.strongRecOn with
 |_ k ih=>
 refine⟨?_,?_⟩
 ·cases k with
  |zero=>intro cO cZ aN dh dw aQ bH bg aA r1 r2 r3 w ku kC kD kE jg jh h;exact absurd h (by simp[iU.f])
  |succ k=>
  have ihB:=(ih k (Nat.lt_succ_self k)).2;clear ih;intro cO cZ aN dh dw aQ bH bg aA r1 r2 r3 w ku kC kD kE jg jh h;rw[iU.NV]at h;have IQ:=underlying32;have lU:=ak ku;have mX:=ak kC;clear ku kC;have oN:=ak kD;have qB:=ak kE;clear kD kE;have jF:=ak jg;have lV:=ak jh;clear jg jh;have HB:=ak (Below.refl w.heap.size w);have H:((some (([]:List (iq)):List (iq))).bind fun WI=>(if WI.length+aN.length<4398046511104 then((some (([]:List ByteArray):List ByteArray)).bind fun WJ=>(if WJ.length+aQ.length<8796093022208 then((fV.f k aA).bind fun G9=>(some ((WI++aN),(WJ++aQ),G9)))else(none)))else(none)))=some (r1,r2,r3):=h;clear h;obtain⟨WI,akg⟩:=nm ([]:List (iq));rw[←akg.out]at H
  (try rw[Option.bind_some]at H);replace H:=nl H;obtain⟨aiU,H⟩:=H;obtain⟨SQ,arz⟩:=nm (WI++aN);rw[←arz.out]at H
  (try rw[Option.bind_some]at H);obtain⟨WJ,akh⟩:=nm ([]:List ByteArray);rw[←akh.out]at H
  (try rw[Option.bind_some]at H);replace H:=nl H;obtain⟨aea,H⟩:=H;obtain⟨y112,arA⟩:=nm (WJ++aQ);rw[←arA.out]at H
  (try rw[Option.bind_some]at H);replace H:=bd H;obtain⟨G9,A4,H⟩:=H;simp only[Option.some.injEq,Prod.mk.injEq]at H;obtain⟨rfl,rfl,rfl⟩:=H;go_enter func24,ntmps24;go_wp2_with (first|(refine bE 1 #[.slice cO aN.length cZ, .slice dh aQ.length dw, .slice bH aA.length bg] 32 ?_;intro CB hg w5 hbox hb;have rM:=ak (hbox);have aHm:=mJ HB hg;have aHn:=mJ HB hg;replace HB:=bs HB hb;clear hb hbox hg)|(refine bE 2 #[.slice none 0 0, .slice none 0 0, .slice none 0 0] 32 ?_;intro wK hg w6 hbox hb;have u_:=ak (hbox);have aki:=ak ((by rw[hg];exact(aj bb):w.heap.size≤wK));have akj:=ak ((by rw[hg];exact(aj bb):w.heap.size≤wK));have aiV:=ak ((by rw[hg];exact Nat.ne_of_lt (dI (ub rM.out)):CB≠wK));have Hz:=ak ((by rw[hg];exact Nat.ne_of_gt (dI (ub rM.out)):wK≠CB));replace rM:=kb rM hb;replace HB:=ak (aI bb hb);clear hb hbox hg)|((with_reducible refine fZ (N:=3) rfl ?_);refine Es lg _ 63 ?hg (N:=3) ?hd (xs:=([]:List (iq))) (inner:=[]) (ok:=fun _=>True) (rE:=fun _=>True) ?hr ?hp (fun _ hk=>hk) trivial (Below.refl _ _) (Nat.le_refl _) (by simp) ?_;(case hd=>rfl);(case hg=>rfl);(case hr=>first|(go_simp;done)|(go_simp;rfl));(case hp=>exact(jJ.none _ _));intro aEK w7 Us hb wI lD;clear wI lD;(first|rw[←akg.out]at Us|(simp only[Int.reduceToNat]at Us;rw[←akg.out]at Us));have agb:=ak (bP Us (aj bb));replace rM:=kb rM hb;replace u_:=kb u_ hb;replace HB:=ak (aI bb hb);clear hb Us;have aEL:=aiV.out;have aEM:=Hz.out;obtain⟨IU,LX,Vt,IV,LY,Vu⟩:=iE rM.out)|((with_reducible refine dS (b:= .append) (xs:=#[.tmp 3, .tmp 5]) rfl ?_);at_builtin;refine oU lg (w0:=w) w.heap.size rfl (.tmp 3) (.tmp 5) 29 63 (.agg #[(.string ⟨#[]⟩),(.string ⟨#[]⟩)]) 32 rfl underlying29 Aq rfl (by decide) (by omega) aEK WI aN _ _ _ (fun _=>True) (fun _=>False) rfl rfl ?aO ?aR (fun _ _ h=>h) (fun _ h=>h.elim) ?aF ?aB ?aS ?aL ?_;(case aR=>repeat(first|exact(aK lU.out HB.out)|(with_reducible refine Kd.iP ?_ _)|(with_reducible refine Kd.iQ ?_ _)|(with_reducible refine Kd.jP ?_)));(case aB=>exact bb);(case aF=>exact(fun _ _=>trivial));(case aO=>exact(ur agb.out));(case aS=>exact(aj bb));(case aL=>have:=aiU.out;omega);intro v107 xk ho hb hg hat;rw[←arz.out]at ho;have ng:=ak (eu (g:=CB) (o:= .cells #[.slice cO aN.length cZ, .slice dh aQ.length dw, .slice bH aA.length bg] 32 (0,0)) (ub rM.out) hg (um agb.out rM.out (by decide)));have ni:=ak (eu (g:=wK) (o:= .cells #[.slice none 0 0, .slice none 0 0, .slice none 0 0] 32 (0,0)) (ub u_.out) hg (um agb.out u_.out (by decide)));have qx:=ak (hb);have sV:=ak (ho);clear rM;clear u_;clear HB;clear agb;have rM:=ng;have u_:=ni;have HB:=qx;have Gg:=sV;clear ng ni qx sV;clear ho hb hg hat;obtain⟨BI,BJ,auk⟩:=bG Gg.out;subst auk;obtain⟨yS,yT,aaq,yU,yV,aar⟩:=iE rM.out)|((with_reducible refine fZ (N:=8) rfl ?_);refine Es Kd.string _ 9 ?hg (N:=8) ?hd (xs:=([]:List ByteArray)) (inner:=[]) (ok:=fun _=>True) (rE:=fun _=>True) ?hr ?hp (fun _ hk=>hk) trivial (Below.refl _ _) (Nat.le_refl _) (by simp) ?_;(case hd=>rfl);(case hg=>rfl);(case hr=>first|(go_simp;done)|(go_simp;rfl));(case hp=>exact(jJ.none _ _));intro axO Ut OW hb wI lD;clear wI lD;(first|rw[←akh.out]at OW|(simp only[Int.reduceToNat]at OW;rw[←akh.out]at OW));have OX:=ak (bP OW (aj bb));replace Gg:=ak (lZ (ur (aY (bK (p:=⟨CB,0,none⟩) (eP Gg.out rM.out (by decide)) (fun _ hk=>hk.2) (.slice BI SQ.length BJ)) (fun _ h_=>h_.1))) hb);replace rM:=ak (jy (g:=CB) (o:= .cells #[.slice BI SQ.length BJ, .slice dh aQ.length dw, .slice bH aA.length bg] 32 (0,0)) (by(with_reducible repeat(first|refine ay ?_ _|refine aC ?_|refine au ?_ _));refine bU (cs:=#[.slice cO aN.length cZ, .slice dh aQ.length dw, .slice bH aA.length bg]) ?_ 0 _ rfl;(with_reducible repeat(first|refine ay ?_ _|refine aC ?_|refine au ?_ _));exact rM.out) hb);replace u_:=ak (jy (g:=wK) (o:= .cells #[.slice none 0 0, .slice none 0 0, .slice none 0 0] 32 (0,0)) (by(with_reducible repeat(first|refine ay ?_ _|refine aC ?_|refine au ?_ _));refine fJ ?_ Hz.out _;(with_reducible repeat(first|refine ay ?_ _|refine aC ?_|refine au ?_ _));exact u_.out) hb);replace HB:=ak (aI bb hb);clear hb OW;obtain⟨OY,OZ,Vw,O1,O4,Vx⟩:=iE rM.out)|((with_reducible refine dS (b:= .append) (xs:=#[.tmp 8, .tmp 10]) rfl ?_);at_builtin;refine oU Kd.string (w0:=w) w.heap.size rfl (.tmp 8) (.tmp 10) 23 9 (.string ⟨#[]⟩) 16 rfl underlying23 info9 rfl (by decide) (by omega) axO WJ aQ _ _ _ (fun _=>True) (fun _=>False) rfl rfl ?aO ?aR (fun _ _ h=>h) (fun _ h=>h.elim) ?aF ?aB ?aS ?aL ?_;(case aR=>repeat(first|exact(aK oN.out HB.out)|(with_reducible refine Kd.iP ?_ _)|(with_reducible refine Kd.iQ ?_ _)|(with_reducible refine Kd.jP ?_)));(case aB=>exact bb);(case aF=>exact(fun _ _=>trivial));(case aO=>exact(ur OX.out));(case aS=>exact(aj bb));(case aL=>have:=aea.out;omega);intro aEN w17 ho hb hg hat;rw[←arA.out]at ho;have ng:=ak (eu (g:=CB) (o:= .cells #[.slice BI SQ.length BJ, .slice dh aQ.length dw, .slice bH aA.length bg] 32 (0,0)) (ub rM.out) hg (um OX.out rM.out (by decide)));have ni:=ak (eu (g:=wK) (o:= .cells #[.slice none 0 0, .slice none 0 0, .slice none 0 0] 32 (0,0)) (ub u_.out) hg (um OX.out u_.out (by decide)));have qx:=ak (xq (ur Gg.out) (qA (ur OX.out)) (by decide) hg);have sV:=ak (hb);have xQ:=ak (ho);clear rM;clear u_;clear Gg;clear HB;clear OX;have rM:=ng;have u_:=ni;have Gg:=qx;have HB:=sV;have O5:=xQ;clear ng ni qx sV xQ;clear ho hb hg hat;obtain⟨uo,uq,aas⟩:=bG O5.out;subst aas;obtain⟨Vy,Vz,aat,VA,VB,aau⟩:=iE rM.out)|(refine gL 42 15 func42 #[.slice bH aA.length bg] ?_;(with_reducible refine(ihB _ _ aA G9 _ (aK jF.out bb) lV.out A4.out).mono ?_);rintro e w20 ⟨aEO,rfl,ho0,hb⟩;refine⟨_,rfl,?_⟩;have agc:=ak (bP (xO (xO (nI (nI ho0 (ru (ur (aY (bK (p:=⟨CB,1,none⟩) (eP Gg.out rM.out (by decide)) (fun _ hk=>hk.2) (.slice uo y112.length uq)) (fun _ h_=>h_.1))))) (ru (ur (aY (bK (p:=⟨CB,1,none⟩) (eP O5.out rM.out (by decide)) (fun _ hk=>hk.2) (.slice uo y112.length uq)) (fun _ h_=>h_.1))))) (g:=CB) (o:= .cells #[.slice BI SQ.length BJ, .slice uo y112.length uq, .slice bH aA.length bg] 32 (0,0)) (by(with_reducible repeat(first|refine ay ?_ _|refine aC ?_|refine au ?_ _));refine bU (cs:=#[.slice BI SQ.length BJ, .slice dh aQ.length dw, .slice bH aA.length bg]) ?_ 1 _ rfl;(with_reducible repeat(first|refine ay ?_ _|refine aC ?_|refine au ?_ _));exact rM.out)) (g:=wK) (o:= .cells #[.slice none 0 0, .slice none 0 0, .slice none 0 0] 32 (0,0)) (by(with_reducible repeat(first|refine ay ?_ _|refine aC ?_|refine au ?_ _));refine fJ ?_ Hz.out _;(with_reducible repeat(first|refine ay ?_ _|refine aC ?_|refine au ?_ _));exact u_.out)) (aj bb));replace Gg:=ak (lZ (ur (aY (bK (p:=⟨CB,1,none⟩) (eP Gg.out rM.out (by decide)) (fun _ hk=>hk.2) (.slice uo y112.length uq)) (fun _ h_=>h_.1))) hb);replace O5:=ak (lZ (ur (aY (bK (p:=⟨CB,1,none⟩) (eP O5.out rM.out (by decide)) (fun _ hk=>hk.2) (.slice uo y112.length uq)) (fun _ h_=>h_.1))) hb);replace rM:=ak (jy (g:=CB) (o:= .cells #[.slice BI SQ.length BJ, .slice uo y112.length uq, .slice bH aA.length bg] 32 (0,0)) (by(with_reducible repeat(first|refine ay ?_ _|refine aC ?_|refine au ?_ _));refine bU (cs:=#[.slice BI SQ.length BJ, .slice dh aQ.length dw, .slice bH aA.length bg]) ?_ 1 _ rfl;(with_reducible repeat(first|refine ay ?_ _|refine aC ?_|refine au ?_ _));exact rM.out) hb);replace u_:=ak (jy (g:=wK) (o:= .cells #[.slice none 0 0, .slice none 0 0, .slice none 0 0] 32 (0,0)) (by(with_reducible repeat(first|refine ay ?_ _|refine aC ?_|refine au ?_ _));refine fJ ?_ Hz.out _;(with_reducible repeat(first|refine ay ?_ _|refine aC ?_|refine au ?_ _));exact u_.out) hb);replace HB:=ak (aI bb hb);(try clear hb);(try clear ho0);obtain⟨Et,Eu,aeb⟩:=bG agc.out;subst aeb;obtain⟨IW,LZ,L6,IX,L8,L9⟩:=iE rM.out;obtain⟨aom,aon,aoo,aop,aoq,aor⟩:=iE u_.out))
  refine bodyPost_ret (results_cell_row rfl _ _ wK 32 #[.slice BI SQ.length BJ, .slice uo y112.length uq, .slice Et G9.length Eu] (0,0) _ rfl (by(with_reducible repeat(first|refine ay ?_ _|refine aC ?_|refine au ?_ _));refine bU (cs:=#[.slice BI SQ.length BJ, .slice uo y112.length uq, .slice none 0 0]) ?_ 2 _ rfl;(with_reducible repeat(first|refine ay ?_ _|refine aC ?_|refine au ?_ _));refine bU (cs:=#[.slice BI SQ.length BJ, .slice none 0 0, .slice none 0 0]) ?_ 1 _ rfl;(with_reducible repeat(first|refine ay ?_ _|refine aC ?_|refine au ?_ _));refine bU (cs:=#[.slice none 0 0, .slice none 0 0, .slice none 0 0]) ?_ 0 _ rfl;(with_reducible repeat(first|refine ay ?_ _|refine aC ?_|refine au ?_ _));refine fJ ?_ Hz.out _;(with_reducible repeat(first|refine ay ?_ _|refine aC ?_|refine au ?_ _));exact u_.out) underlying32 rfl (by kernel_rfl)) rfl ?_;exact⟨_,_,_,er,ur (aY (bK (p:=⟨wK,2,none⟩) (bK (p:=⟨wK,1,none⟩) (bK (p:=⟨wK,0,none⟩) (bK (p:=⟨CB,2,none⟩) (eP (eP Gg.out rM.out (by decide)) u_.out (by decide)) (fun _ hk=>hk.1.2) (.slice Et G9.length Eu)) (fun _ hk=>hk.2) (.slice BI SQ.length BJ)) (fun _ hk=>hk.2) (.slice uo y112.length uq)) (fun _ hk=>hk.2) (.slice Et G9.length Eu)) (fun _ hk=>trivial)),ur (aY (bK (p:=⟨wK,2,none⟩) (bK (p:=⟨wK,1,none⟩) (bK (p:=⟨wK,0,none⟩) (bK (p:=⟨CB,2,none⟩) (eP (eP O5.out rM.out (by decide)) u_.out (by decide)) (fun _ hk=>hk.1.2) (.slice Et G9.length Eu)) (fun _ hk=>hk.2) (.slice BI SQ.length BJ)) (fun _ hk=>hk.2) (.slice uo y112.length uq)) (fun _ hk=>hk.2) (.slice Et G9.length Eu)) (fun _ hk=>trivial)),ur (aY (bK (p:=⟨wK,2,none⟩) (bK (p:=⟨wK,1,none⟩) (bK (p:=⟨wK,0,none⟩) (bK (p:=⟨CB,2,none⟩) (aY (aY agc.out (fun k_ hk=>(⟨hk,hk.1.2⟩:_∧k_≠CB))) (fun k_ hk=>(⟨hk,hk.1.2⟩:_∧k_≠wK))) (fun _ hk=>hk.1.2) (.slice Et G9.length Eu)) (fun _ hk=>hk.2) (.slice BI SQ.length BJ)) (fun _ hk=>hk.2) (.slice uo y112.length uq)) (fun _ hk=>hk.2) (.slice Et G9.length Eu)) (fun _ hk=>⟨hk.1.1.1.1.1.2,hk.1.1.1.1.2⟩)),bb⟩
 ·intro A0 c0 l0 r w hr0 hc0 h;have IQ:=underlying32;have HR0:=ak hr0;have yx:=ak hc0;clear hr0 hc0;have HB:=ak (Below.refl w.heap.size w);have H:(fV.l0 k (([]:List (jm))) l0 (l0.length:Int) 0)=some r:=h;clear h;obtain⟨y101,WL⟩:=nm ([]:List (jm));rw[←WL.out]at H
  (try rw[Option.bind_some]at H);have H':=ak H;clear H;go_enter func42,ntmps42;go_wp2_with (first|((with_reducible refine fZ (N:=6) rfl ?_);refine Es k32 _ 32 ?hg (N:=6) ?hd (xs:=([]:List (jm))) (inner:=[]) (ok:=fun _=>True) (rE:=fun _=>True) ?hr ?hp (fun _ hk=>hk) trivial (Below.refl _ _) (Nat.le_refl _) (by simp) ?_;(case hd=>rfl);(case hg=>rfl);(case hr=>first|(go_simp;done)|(go_simp;rfl));(case hp=>exact(jJ.none _ _));intro axP w2 ho3 hb wI lD;clear wI lD;(first|rw[←WL.out]at ho3|(simp only[Int.reduceToNat]at ho3;rw[←WL.out]at ho3));have akk:=ak (bP ho3 (aj (ul HB.out)));replace HB:=bs HB hb;clear hb ho3))
  go_loopg [3,9] k (fun kq v3 v9 w'=>∃(dD:List (jm)) (vT:Int),v9= .int .i64 vT∧ah (fV.l0 kq dD l0 (l0.length:Int) vT=some r)∧ah (kq≤k)∧ah (Kd.R k32 32 w' w.heap.size (fun _=>True) v3 dD)∧ah (Below w.heap.size w w'))
  case atStart=>exact⟨(y101),(0),rs,H',⟨Nat.le_refl _⟩,⟨ur akk.out⟩,⟨ul HB.out⟩⟩
  case round=>
   clear H';try clear c1
   try clear p2
   obtain⟨dD,vT,rfl,HA,jv,kN,HB⟩:=hrel
   cases gk with
   |zero=>exact absurd HA.out (by simp[fV.l0])
   |succ k1=>
    have H:=HA.out;clear HA;simp only[fV.l0]at H;replace H:=sd H;rcases H with⟨oM,H⟩|⟨oM,H⟩
    ·replace H:=oW H;obtain⟨sH,H⟩:=H;replace H:=oW H;obtain⟨oC,H⟩:=H;replace H:=bd H;obtain⟨⟨Cc,t109,NW⟩,A7,H⟩:=H
     (try dsimp only at H);replace H:=nl H;obtain⟨aEP,H⟩:=H;obtain⟨y115,arB⟩:=nm (dD++[(⟨Cc,t109,NW⟩:jm)]);rw[←arB.out]at H
     (try rw[Option.bind_some]at H);have H':=ak H;clear H;have aec:=zi vT;have aed:=zj vT l0.length;obtain⟨axQ,Aw,Az,Ew,Ey,IY,IZ,aul,O6,O7,O8,O9,O_,Pg,Ph,Pj,Pm⟩:=qY HR0.out vT aec aed;cases aul;replace O6:=cl HB.out O6;replace O7:=cl HB.out O7;replace O8:=cl HB.out O8;have aav:=ak O_;have aaw:=ak O9;clear O_ O9;have aax:=ak Ph;have aay:=ak Pg;clear Ph Pg;have aaz:=ak Pm;have aaA:=ak Pj;clear Pm Pj;replace aec:=eq_true aec;replace aed:=eq_true aed;go_wp2_with (first|(refine bE 5 #[.slice none 0 0, .slice none 0 0, .slice none 0 0] 32 ?_;intro yX hg w9 hbox hb;have qQ:=ak (hbox);have agd:=mJ HB hg;have agf:=mJ HB hg;replace kN:=ak (lZ (acI (ur kN.out) yX (Nat.le_of_eq hg.symm)) hb);replace HB:=bs HB hb;clear hb hbox hg;obtain⟨IU,LX,Vt,IV,LY,Vu⟩:=iE qQ.out)|(refine gL 24 15 func24 #[.agg #[.slice Aw ((aH l0 vT).f0).length Az, .slice Ew ((aH l0 vT).f1).length Ey, .slice IY ((aH l0 vT).f2).length IZ]] ?_;(with_reducible refine((ih k1 (by have:=jv.out;omega)).1 _ _ ((aH l0 vT).f0) _ _ ((aH l0 vT).f1) _ _ ((aH l0 vT).f2) Cc t109 NW _ (aK aav.out bb) aaw.out (aK aax.out bb) aay.out (aK aaz.out bb) aaA.out A7.out).mono ?_);rintro e xk ⟨v107,axO,aEN,rfl,ho0,ho1,ho2,hb⟩;refine⟨_,rfl,?_⟩;have Gg:=ak (bP ho0 (aj bb));have OX:=ak (bP ho1 (aj bb));have O5:=ak (bP (xO (nI ho2 (ru (ur (aY (bK (p:=⟨yX,2,none⟩) (bK (p:=⟨yX,1,none⟩) (bK (p:=⟨yX,0,none⟩) (aY kN.out (fun k_ hk=>(⟨hk,hk.2⟩:_∧k_≠yX))) (fun _ hk=>hk.2) (.slice Aw ((aH l0 vT).f0).length Az)) (fun _ hk=>hk.2) (.slice Ew ((aH l0 vT).f1).length Ey)) (fun _ hk=>hk.2) (.slice IY ((aH l0 vT).f2).length IZ)) (fun _ h_=>h_.1))))) (g:=yX) (o:= .cells #[.slice Aw ((aH l0 vT).f0).length Az, .slice Ew ((aH l0 vT).f1).length Ey, .slice IY ((aH l0 vT).f2).length IZ] 32 (0,0)) (by(with_reducible repeat(first|refine ay ?_ _|refine aC ?_|refine au ?_ _));refine bU (cs:=#[.slice Aw ((aH l0 vT).f0).length Az, .slice Ew ((aH l0 vT).f1).length Ey, .slice none 0 0]) ?_ 2 _ rfl;(with_reducible repeat(first|refine ay ?_ _|refine aC ?_|refine au ?_ _));refine bU (cs:=#[.slice Aw ((aH l0 vT).f0).length Az, .slice none 0 0, .slice none 0 0]) ?_ 1 _ rfl;(with_reducible repeat(first|refine ay ?_ _|refine aC ?_|refine au ?_ _));refine bU (cs:=#[.slice none 0 0, .slice none 0 0, .slice none 0 0]) ?_ 0 _ rfl;(with_reducible repeat(first|refine ay ?_ _|refine aC ?_|refine au ?_ _));exact qQ.out)) (aj bb));replace kN:=ak (aY (Ce (Ce (Ce (agh (ur (aY (bK (p:=⟨yX,2,none⟩) (bK (p:=⟨yX,1,none⟩) (bK (p:=⟨yX,0,none⟩) (aY kN.out (fun k_ hk=>(⟨hk,hk.2⟩:_∧k_≠yX))) (fun _ hk=>hk.2) (.slice Aw ((aH l0 vT).f0).length Az)) (fun _ hk=>hk.2) (.slice Ew ((aH l0 vT).f1).length Ey)) (fun _ hk=>hk.2) (.slice IY ((aH l0 vT).f2).length IZ)) (fun _ h_=>h_.1))) hb) (jf ho0)) (jf ho1)) (jf ho2)) (fun _ h_=>h_.1));replace qQ:=ak (jy (g:=yX) (o:= .cells #[.slice Aw ((aH l0 vT).f0).length Az, .slice Ew ((aH l0 vT).f1).length Ey, .slice IY ((aH l0 vT).f2).length IZ] 32 (0,0)) (by(with_reducible repeat(first|refine ay ?_ _|refine aC ?_|refine au ?_ _));refine bU (cs:=#[.slice Aw ((aH l0 vT).f0).length Az, .slice Ew ((aH l0 vT).f1).length Ey, .slice none 0 0]) ?_ 2 _ rfl;(with_reducible repeat(first|refine ay ?_ _|refine aC ?_|refine au ?_ _));refine bU (cs:=#[.slice Aw ((aH l0 vT).f0).length Az, .slice none 0 0, .slice none 0 0]) ?_ 1 _ rfl;(with_reducible repeat(first|refine ay ?_ _|refine aC ?_|refine au ?_ _));refine bU (cs:=#[.slice none 0 0, .slice none 0 0, .slice none 0 0]) ?_ 0 _ rfl;(with_reducible repeat(first|refine ay ?_ _|refine aC ?_|refine au ?_ _));exact qQ.out) hb);replace HB:=ak (aI bb hb);(try clear hb);(try clear ho0);(try clear ho1);(try clear ho2);obtain⟨xR,uO,YP⟩:=bG Gg.out;subst YP;obtain⟨Ah,Ai,aee⟩:=bG OX.out;subst aee;obtain⟨Ez,CY,aaB⟩:=bG O5.out;subst aaB)|((with_reducible refine dS (b:= .append) (xs:=#[.tmp 13, .tmp 16]) rfl ?_);at_builtin;refine mD k32 (w0:=w) w.heap.size rfl (.tmp 13) (.tmp 16) 30 32 (.agg #[(.slice none 0 0),(.slice none 0 0),(.slice none 0 0)]) 72 rfl underlying30 aam rfl (by decide) (by omega) u3 dD (⟨Cc,t109,NW⟩:jm) [.slice xR Cc.length uO, .slice Ah t109.length Ai, .slice Ez NW.length CY] (fun k_=>k_≠yX) (fun k_=>((fun k_=>k_≠yX)) k_∧some k_≠(u3:Value).ownBlock) rfl rfl ?aP (fun _ hk=>hk) ?aF ?aO ?aB ?aS ?aL ?_;(case aP=>exact Vs _ _ _ (⟨Cc,t109,NW⟩:jm) (aY (eP (vk (Gg.out) (qA kN.out) (by decide)) qQ.out (by decide)) (fun k_ hk=>⟨hk.2,hk.1.2⟩)) (aY (eP (vk (OX.out) (qA kN.out) (by decide)) qQ.out (by decide)) (fun k_ hk=>⟨hk.2,hk.1.2⟩)) (aY (O5.out) (fun k_ hk=>⟨hk.2,hk.1.2⟩)));(case aB=>exact bb);(case aF=>exact(fun k_ hk=>yA (g:=yX) (o:= .cells #[.slice Aw ((aH l0 vT).f0).length Az, .slice Ew ((aH l0 vT).f1).length Ey, .slice IY ((aH l0 vT).f2).length IZ] 32 (0,0)) (ub qQ.out) k_ hk));(case aO=>exact(ur (aY kN.out (fun _ hk=>hk.1.1.1.2))));(case aS=>exact(aj bb));(case aL=>have:=aEP.out;omega);intro aEO w12 ho hb hg hat;rw[←arB.out]at ho;have ng:=ak (eu (g:=yX) (o:= .cells #[.slice Aw ((aH l0 vT).f0).length Az, .slice Ew ((aH l0 vT).f1).length Ey, .slice IY ((aH l0 vT).f2).length IZ] 32 (0,0)) (ub qQ.out) hg (Ku kN.out (fun _ hk=>hk.1.1.1.2)));have ni:=ak (hb);have qx:=ak (ho);clear qQ;clear HB;clear kN;clear Gg;clear OX;clear O5;have qQ:=ng;have HB:=ni;have agc:=qx;clear ng ni qx;clear ho hb hg hat))
     go_roundg k1
     case measure=>have:=jv.out;omega
     case rel=>exact⟨(y115),(wrap64 (vT+1)),rs,H',⟨by have:=jv.out;omega⟩,⟨ur (aY agc.out (fun _ hk=>trivial))⟩,⟨bb⟩⟩
    ·obtain rfl:=Option.some.inj H;go_wp2;go_ret;exact⟨_,er,ur kN.out,ul HB.out⟩
theorem iU.calls(k:Nat)(cO:Option Addr)(cZ:Nat)(aN:List (iq))(dh:Option Addr)(dw:Nat)(aQ:List ByteArray)(bH:Option Addr)(bg:Nat)(aA:List (jm))(r1:List (iq))(r2:List ByteArray)(r3:List (jm))(w:World)(ku:Kd.C lg w cO aN.length aN)(kC:aN.length≤cZ)(kD:Kd.C Kd.string w dh aQ.length aQ)(kE:aQ.length≤dw)(jg:Kd.C k32 w bH aA.length aA)(jh:aA.length≤bg)(h:iU.f k aN aQ aA=some (r1,r2,r3)):
  Calls Tryz.prog 24 #[.agg #[.slice cO aN.length cZ, .slice dh aQ.length dw, .slice bH aA.length bg]] w fun e w'=>∃qZ IL Ko:Value,e= .returned (.agg #[qZ,IL,Ko])∧Kd.R lg 63 w' w.heap.size (fun _=>True) qZ r1∧Kd.R Kd.string 9 w' w.heap.size (fun _=>True) IL r2∧Kd.R k32 32 w' w.heap.size (fun k_=>some k_≠(qZ:Value).ownBlock∧some k_≠(IL:Value).ownBlock) Ko r3∧Below w.heap.size w w':=(iU.pair k).1 cO cZ aN dh dw aQ bH bg aA r1 r2 r3 w ku kC kD kE jg jh h
theorem fV.calls(k:Nat)(A0:Option Addr)(c0:Nat)(l0:List (jm))(r:List (jm))(w:World)(hr0:Kd.C k32 w A0 l0.length l0)(hc0:l0.length≤c0)(h:fV.f k l0=some r):
  Calls Tryz.prog 42 #[.slice A0 l0.length c0] w fun e w'=>∃qZ:Value,e= .returned (qZ)∧Kd.R k32 32 w' w.heap.size (fun _=>True) qZ r∧Below w.heap.size w w':=(iU.pair k).2 A0 c0 l0 r w hr0 hc0 h
def jo.l0:Nat→List ByteArray→List ByteArray→Int→Option (List ByteArray)
 |0,_,_,_=>none
 |k+1,x0,x3,x4=>if x4<(x0.length:Int)then(if 0≤x4 then(if x4<(x3.length:Int)then(jo.l0 k x0 (x3.set (x4:Int).toNat (o8 ByteArray.empty x0 x4)) (wrap64 (x4+1)))else(none))else(none))else(some x3)
def jo.f(k:Nat)(l0:List ByteArray):Option (List ByteArray):=if 0≤(l0.length:Int)then(if((l0.length:Int):Int).toNat≤17592186044416 then(jo.l0 k l0 (List.replicate ((l0.length:Int):Int).toNat (⟨#[]⟩:ByteArray)) 0)else(none))else(none)
set_option maxHeartbeats 8000000 in
set_option maxRecDepth 100000 in
theorem jo.calls(k:Nat)(A0:Option Addr)(c0:Nat)(l0:List ByteArray)(r:List ByteArray)(w:World)(hr0:Kd.C Kd.string w A0 l0.length l0)(hc0:l0.length≤c0)(h:jo.f k l0=some r):
  Calls Tryz.prog 17 #[.slice A0 l0.length c0] w fun e w'=>∃qZ:Value,e= .returned (qZ)∧Kd.R Kd.string 9 w' w.heap.size (fun _=>True) qZ r∧Below w.heap.size w w':=by
 have HR0:=ak hr0;have yx:=ak hc0;clear hr0 hc0;have HB:=ak (Below.refl w.heap.size w);have H:(if 0≤(l0.length:Int)then(if((l0.length:Int):Int).toNat≤17592186044416 then(jo.l0 k l0 (List.replicate ((l0.length:Int):Int).toNat (⟨#[]⟩:ByteArray)) 0)else(none))else(none))=some r:=h;clear h;replace H:=I4 H;obtain⟨vw,EC,H⟩:=H;replace H:=I4 H;obtain⟨gQ,rC,H⟩:=H;obtain⟨aEQ,akl⟩:=nm (List.replicate ((l0.length:Int):Int).toNat (⟨#[]⟩:ByteArray));rw[←akl.out]at H
 (try rw[Option.bind_some]at H);have H':=ak H;clear H;go_enter func17,ntmps17;go_wp2_with (first|((with_reducible refine fZ (N:=7) rfl ?_);refine aaC Kd.string _ 9 rfl (N:=7) rfl 23 _ _ rfl (l0.length:Int) rfl rfl underlying23 (.string ⟨#[]⟩) 16 info9 rfl (by decide) (by omega) (⟨#[]⟩:ByteArray) (ok:=fun _=>True) (rE:=fun _=>True) rfl (fun _ hk=>hk) trivial (of_decide_eq_true (by assumption)) (Nat.le_trans (Nat.mul_le_mul_right _ (of_decide_eq_true (by assumption):(l0.length:Int).toNat≤17592186044416)) (by omega)) (Below.refl _ _) (Nat.le_refl _) ?_;intro aER w4 Kv hb wI lD;clear wI lD;(first|rw[←akl.out]at Kv|(simp only[Int.reduceToNat]at Kv;rw[←akl.out]at Kv));have axR:=ak (bP Kv (aj (ul HB.out)));replace HB:=bs HB hb;clear hb Kv))
 go_loopg [4] k (fun kq v4 w'=>∃(dD:List ByteArray) (eF:Int),v4= .int .i64 eF∧ah (jo.l0 kq l0 dD eF=some r)∧ah (kq≤k)∧ah (Kd.R Kd.string 9 w' w.heap.size (fun _=>True) aER dD)∧ah (Below w.heap.size w w'))
 case atStart=>exact⟨(aEQ),(0),rs,H',⟨Nat.le_refl _⟩,⟨ur axR.out⟩,⟨ul HB.out⟩⟩
 case round=>
  clear H';try clear c1
  try clear c2
  try clear vw
  try clear EC
  try clear p2
  try clear c3
  try clear gQ
  try clear rC
  obtain⟨dD,eF,rfl,HA,jv,kN,HB⟩:=hrel
  cases gk with
  |zero=>exact absurd HA.out (by simp[jo.l0])
  |succ k1=>
   have H:=HA.out;clear HA;simp only[jo.l0]at H;replace H:=sd H;rcases H with⟨oC,H⟩|⟨oC,H⟩
   ·replace H:=oW H;obtain⟨rU,H⟩:=H;replace H:=oW H;obtain⟨yY,H⟩:=H;obtain⟨axS,arC⟩:=nm (dD.set (eF:Int).toNat (o8 ByteArray.empty l0 eF));rw[←arC.out]at H
    (try rw[Option.bind_some]at H);have H':=ak H;clear H;have aum:=zi eF;have aun:=zj eF l0.length;obtain⟨aHo,aES,agi⟩:=kV HR0.out eF aum aun;cases aES;replace agi:=cl HB.out agi;replace aum:=eq_true aum;replace aun:=eq_true aun;have p9:=zi eF;have q9:=zj eF (dD.length:Int);obtain⟨go9,co9,eo9,gb9,gl9,cl9,HG9⟩:=ED kN.out (by omega)
    (first|cases eo9|(injection eo9 with FV en_ ec_;(first|subst FV|(injection FV with FV;subst FV));subst ec_;clear en_));have GB9:=ak gb9;have GG9:=ak HG9;clear gb9 gl9 HG9;obtain⟨axT,axU⟩:=L_ (⟨#[]⟩:ByteArray) kN.out (eF:Int) p9 q9;replace p9:=eq_true p9;replace q9:=eq_true q9;have aef:=aaD kN.out (eF:Int) (o8 ByteArray.empty l0 eF);go_wp2_with (first|((with_reducible refine uP (t:=9) (p:=20) rfl ?_);refine sJ (t:=9) (p:=20) (v:=?auo) (w1:=(wr.setCell ⟨go9,(eF:Int).toNat,none⟩ (.string (o8 ByteArray.empty l0 eF)))) ?hg ?ho ?hn ?hr ?_;(case ho=>rfl);(case hg=>rfl);(case hn=>rfl);(case hr=>first|(go_simp;done)|(go_simp;rfl));intro xk hw;have hg:wr.grownBy xk (some go9):=(by rw[hw];exact aef.2);have WM:Kd.R Kd.string 9 xk w.heap.size (fun _=>True) (.slice (some ⟨go9,0,none⟩) dD.length co9) axS:=(by rw[hw,arC.out];exact aef.1);clear aef;replace kN:=ak (WM);replace HB:=ak ((by rw[hw];exact nT (HB.out) GB9.out:Below w.heap.size w xk));clear hg hw WM))
    go_roundg k1
    case measure=>have:=jv.out;omega
    case rel=>exact⟨(axS),(wrap64 (eF+1)),rs,H',⟨by have:=jv.out;omega⟩,⟨ur kN.out⟩,⟨ul HB.out⟩⟩
   ·obtain rfl:=Option.some.inj H;go_wp2;go_ret;exact⟨_,er,ur kN.out,ul HB.out⟩
def yZ.f(bn:ByteArray)(bI:ByteArray):Option (ByteArray×ByteArray):=some (bn,bI)
set_option maxHeartbeats 8000000 in
set_option maxRecDepth 100000 in
theorem yZ.calls(bn:ByteArray)(bI:ByteArray)(r1:ByteArray)(r2:ByteArray)(w:World)(h:yZ.f bn bI=some (r1,r2)):
  Calls Tryz.prog 43 #[.agg #[.string bn, .string bI]] w fun e w'=>e= .returned (.agg #[.string r1, .string r2])∧Below w.heap.size w w':=by
 have aup:=underlying61;have I5:=underlying63;have HB:=ak (Below.refl w.heap.size w);have H:(some (bn,bI))=some (r1,r2):=h;clear h;simp only[Option.some.injEq,Prod.mk.injEq]at H;obtain⟨rfl,rfl⟩:=H;go_enter func43,ntmps43;go_wp2_with (first|(refine bE 1 #[.string bn, .string bI] 61 ?_;intro agj hg w2 hbox hb;have Pn:=ak (hbox);have aHp:=mJ HB hg;have aHq:=mJ HB hg;replace HB:=bs HB hb;clear hb hbox hg)|(refine bE 2 #[.string (⟨#[]⟩:ByteArray), .string (⟨#[]⟩:ByteArray)] 63 ?_;intro WO hg w3 hbox hb;have Zl:=ak (hbox);have aHr:=ak ((by rw[hg];exact(aj bb):w.heap.size≤WO));have aHs:=ak ((by rw[hg];exact(aj bb):w.heap.size≤WO));have aiW:=ak ((by rw[hg];exact Nat.ne_of_lt (dI (ub Pn.out)):agj≠WO));have aiX:=ak ((by rw[hg];exact Nat.ne_of_gt (dI (ub Pn.out)):WO≠agj));replace Pn:=kb Pn hb;replace HB:=ak (aI bb hb);clear hb hbox hg)|(refine bE 3 #[.string (⟨#[]⟩:ByteArray), .string (⟨#[]⟩:ByteArray)] 63 ?_;intro Zm hg w4 hbox hb;have axV:=ak (hbox);have aHt:=ak ((by rw[hg];exact(aj bb):w.heap.size≤Zm));have aHu:=ak ((by rw[hg];exact(aj bb):w.heap.size≤Zm));have aiY:=ak ((by rw[hg];exact Nat.ne_of_lt (dI (ub Pn.out)):agj≠Zm));have aiZ:=ak ((by rw[hg];exact Nat.ne_of_gt (dI (ub Pn.out)):Zm≠agj));have SS:=ak ((by rw[hg];exact Nat.ne_of_lt (dI (ub Zl.out)):WO≠Zm));have ai0:=ak ((by rw[hg];exact Nat.ne_of_gt (dI (ub Zl.out)):Zm≠WO));replace Pn:=kb Pn hb;replace Zl:=kb Zl hb;replace HB:=ak (aI bb hb);clear hb hbox hg;have aET:=aiW.out;have aEU:=aiX.out;have aJ0:=aiY.out;have aJ1:=aiZ.out;obtain⟨akm,auq,akn,aur⟩:=AA Pn.out;have aEV:=ai0.out;have aEW:=SS.out;obtain⟨I7,I8,I9,I_⟩:=AA axV.out;obtain⟨IU,LX,IV,LY⟩:=AA Zl.out))
 refine bodyPost_ret (results_cell_row rfl _ _ WO 63 #[.string bn, .string bI] (0,0) _ rfl (by(with_reducible repeat(first|refine ay ?_ _|refine aC ?_|refine au ?_ _));refine bU (cs:=#[.string bn, .string (⟨#[]⟩:ByteArray)]) ?_ 1 _ rfl;(with_reducible repeat(first|refine ay ?_ _|refine aC ?_|refine au ?_ _));refine bU (cs:=#[.string (⟨#[]⟩:ByteArray), .string (⟨#[]⟩:ByteArray)]) ?_ 0 _ rfl;(with_reducible repeat(first|refine ay ?_ _|refine aC ?_|refine au ?_ _));refine fJ ?_ SS.out _;(with_reducible repeat(first|refine ay ?_ _|refine aC ?_|refine au ?_ _));refine fJ ?_ SS.out _;(with_reducible repeat(first|refine ay ?_ _|refine aC ?_|refine au ?_ _));exact Zl.out) underlying63 rfl (by kernel_rfl)) rfl ?_;exact⟨er,bb⟩
def jH.l0:Nat→List (J_)→List (iq)→Int→Option ((List (iq)))
 |0,_,_,_=>none
 |k+1,x0,x3,x4=>if x4<(x0.length:Int)then(if 0≤x4 then((yZ.f ((uj x0 x4).f0) ((uj x0 x4).f1)).bind fun arD=>(if x4<(x3.length:Int)then(jH.l0 k x0 (x3.set (x4:Int).toNat (⟨arD.1,arD.2⟩:iq)) (wrap64 (x4+1)))else(none)))else(none))else(some x3)
def jH.f(k:Nat)(l0:List (J_)):Option ((List (iq))):=if 0≤(l0.length:Int)then(if((l0.length:Int):Int).toNat≤8796093022208 then(jH.l0 k l0 (List.replicate ((l0.length:Int):Int).toNat z63) 0)else(none))else(none)
set_option maxHeartbeats 8000000 in
set_option maxRecDepth 100000 in
theorem jH.calls(k:Nat)(A0:Option Addr)(c0:Nat)(l0:List (J_))(r:List (iq))(w:World)(hr0:Kd.C YJ w A0 l0.length l0)(hc0:l0.length≤c0)(h:jH.f k l0=some r):
  Calls Tryz.prog 25 #[.slice A0 l0.length c0] w fun e w'=>∃qZ:Value,e= .returned (qZ)∧Kd.R lg 63 w' w.heap.size (fun _=>True) qZ r∧Below w.heap.size w w':=by
 have aup:=underlying61;have I5:=underlying63;have HR0:=ak hr0;have yx:=ak hc0;clear hr0 hc0;have HB:=ak (Below.refl w.heap.size w);have H:(if 0≤(l0.length:Int)then(if((l0.length:Int):Int).toNat≤8796093022208 then(jH.l0 k l0 (List.replicate ((l0.length:Int):Int).toNat z63) 0)else(none))else(none))=some r:=h;clear h;replace H:=I4 H;obtain⟨vw,EC,H⟩:=H;replace H:=I4 H;obtain⟨gQ,rC,H⟩:=H;obtain⟨aEX,ako⟩:=nm (List.replicate ((l0.length:Int):Int).toNat z63);rw[←ako.out]at H
 (try rw[Option.bind_some]at H);have H':=ak H;clear H;go_enter func25,ntmps25;go_wp2_with (first|((with_reducible refine fZ (N:=7) rfl ?_);refine aaC lg _ 63 rfl (N:=7) rfl 29 _ _ rfl (l0.length:Int) rfl rfl underlying29 (.agg #[(.string ⟨#[]⟩),(.string ⟨#[]⟩)]) 32 Aq rfl (by decide) (by omega) z63 (ok:=fun _=>True) (rE:=fun _=>True) (LV _ _ _ z63) (fun _ hk=>hk) trivial (of_decide_eq_true (by assumption)) (Nat.le_trans (Nat.mul_le_mul_right _ (of_decide_eq_true (by assumption):(l0.length:Int).toNat≤8796093022208)) (by omega)) (Below.refl _ _) (Nat.le_refl _) ?_;intro aEY w4 Kv hb wI lD;clear wI lD;(first|rw[←ako.out]at Kv|(simp only[Int.reduceToNat]at Kv;rw[←ako.out]at Kv));have axW:=ak (bP Kv (aj (ul HB.out)));replace HB:=bs HB hb;clear hb Kv))
 go_loopg [4] k (fun kq v4 w'=>∃(dD:List (iq)) (eF:Int),v4= .int .i64 eF∧ah (jH.l0 kq l0 dD eF=some r)∧ah (kq≤k)∧ah (Kd.R lg 63 w' w.heap.size (fun _=>True) aEY dD)∧ah (Below w.heap.size w w'))
 case atStart=>exact⟨(aEX),(0),rs,H',⟨Nat.le_refl _⟩,⟨ur axW.out⟩,⟨ul HB.out⟩⟩
 case round=>
  clear H';try clear c2
  try clear vw
  try clear EC
  try clear p2
  try clear c3
  try clear gQ
  try clear rC
  obtain⟨dD,eF,rfl,HA,jv,kN,HB⟩:=hrel
  cases gk with
  |zero=>exact absurd HA.out (by simp[jH.l0])
  |succ k1=>
   have H:=HA.out;clear HA;simp only[jH.l0]at H;replace H:=sd H;rcases H with⟨oC,H⟩|⟨oC,H⟩
   ·replace H:=oW H;obtain⟨rU,H⟩:=H;replace H:=bd H;obtain⟨⟨ai1,ai2⟩,A8,H⟩:=H
    (try dsimp only at H);replace H:=oW H;obtain⟨y5,H⟩:=H;obtain⟨axX,arE⟩:=nm (dD.set (eF:Int).toNat (⟨ai1,ai2⟩:iq));rw[←arE.out]at H
    (try rw[Option.bind_some]at H);have H':=ak H;clear H;have aus:=zi eF;have aut:=zj eF l0.length;obtain⟨aHv,aEZ,agk,agl⟩:=ad9 HR0.out eF aus aut;cases aEZ;replace agk:=cl HB.out agk;replace agl:=cl HB.out agl;replace aus:=eq_true aus;replace aut:=eq_true aut;go_wp2_with (first|(refine gL 43 20 func43 #[.agg #[.string ((uj l0 eF).f0), .string ((uj l0 eF).f1)]] ?_;(with_reducible refine(yZ.calls ((uj l0 eF).f0) ((uj l0 eF).f1) ai1 ai2 _ A8.out).mono ?_);rintro e xk ⟨rfl,hb⟩;refine⟨_,rfl,?_⟩;replace kN:=rb kN hb;replace HB:=bs HB hb;(try clear hb);have p10:0≤(eF:Int):=of_decide_eq_true (by assumption);have q10:(eF:Int)<((dD.length:Int):Int):=of_decide_eq_true (by assumption);obtain⟨FX,WQ,Po,akp,auu,aE0,akq⟩:=ED kN.out (by omega);(first|cases Po|(injection Po with FV en_ ec_;(first|subst FV|(injection FV with FV;subst FV));subst ec_;clear en_));have ai3:=ak akp;have aE1:=ak akq;clear akp auu akq;obtain⟨aE2,akr,aks,Uu,Uw⟩:=Ja kN.out z63 (eF:Int) p10 q10;obtain rfl:=Au aks;have auv:xk.cell? ⟨FX,(eF:Int).toNat*2,none⟩=some (.string ((aT dD eF).f0)):=Uu 0 _ rfl;have auw:xk.cell? ⟨FX,(eF:Int).toNat*2+1,none⟩=some (.string ((aT dD eF).f1)):=Uu 1 _ rfl;have auy:xk.frozen? ⟨FX,(eF:Int).toNat*2,none⟩=false:=Uw 0;have auz:xk.frozen? ⟨FX,(eF:Int).toNat*2+1,none⟩=false:=Uw 1;(clear akr Uu Uw;(try clear aks));replace p10:=eq_true p10;replace q10:=eq_true q10;have akt:=ak (show Kd.R lg 63 xk w.heap.size (fun _=>True) (.slice (some ⟨FX,0,none⟩) dD.length WQ) dD from(ur kN.out));obtain⟨aE3,acJ,aku,Nz,Ux⟩:=Ja akt.out z63 (eF:Int) (of_decide_eq_true (by assumption)) (by have h_:(eF:Int)<((dD.length:Int):Int):=of_decide_eq_true (by assumption);first|exact h_|(have e_:=(dB kN.out).1;omega)|simpa using h_);obtain rfl:=Au aku;have aeg:=agm akt.out (eF:Int) (of_decide_eq_true (by assumption)) (by have h_:(eF:Int)<((dD.length:Int):Int):=of_decide_eq_true (by assumption);first|exact h_|(have e_:=(dB kN.out).1;omega)|simpa using h_) (seg:=[.string ai1, .string ai2]) (j:=0) acJ Nz (show 2≤2 from by decide) (x':=(⟨ai1,ai2⟩:iq)) (LV _ _ _ (⟨ai1,ai2⟩:iq)) (fun _ hk=>hk);have aeh:=Nz 0 _ rfl;(try simp only[show(lg).sz=2 from rfl,Nat.mul_one,Nat.add_zero]at aeh);have aei:=Ux 0;(try simp only[show(lg).sz=2 from rfl,Nat.mul_one,Nat.add_zero]at aei);have aej:=Nz 1 _ rfl;(try simp only[show(lg).sz=2 from rfl,Nat.mul_one,Nat.add_zero]at aej);have aek:=Ux 1;(try simp only[show(lg).sz=2 from rfl,Nat.mul_one,Nat.add_zero]at aek);(clear acJ Nz Ux;(try clear aku)))|((with_reducible refine uP (t:=63) (p:=21) rfl ?_);refine sJ (t:=63) (p:=21) (v:=?auA) (w1:=((xk.setCell ⟨FX,(eF:Int).toNat*2,none⟩ (.string ai1)).setCell ⟨FX,(eF:Int).toNat*2+1,none⟩ (.string ai2))) ?hg ?ho ?hn ?hr ?_;(case ho=>rfl);(case hg=>rfl);(case hn=>rfl);(case hr=>first|(go_simp;done)|(go_simp;rfl));intro NC hw;have hg:xk.grownBy NC (some FX):=(by rw[hw];exact aeg.2);have WM:Kd.R lg 63 NC w.heap.size (fun _=>True) (.slice (some ⟨FX,0,none⟩) dD.length WQ) axX:=(by rw[hw,arE.out];exact aeg.1);clear aeg;replace kN:=ak (WM);replace HB:=ak ((by rw[hw];exact nT (nT (HB.out) ai3.out) ai3.out:Below w.heap.size w NC));clear hg hw WM))
    go_roundg k1
    case measure=>have:=jv.out;omega
    case rel=>exact⟨(axX),(wrap64 (eF+1)),rs,H',⟨by have:=jv.out;omega⟩,⟨ur kN.out⟩,⟨ul HB.out⟩⟩
   ·obtain rfl:=Option.some.inj H;go_wp2;go_ret;exact⟨_,er,ur kN.out,ul HB.out⟩
def kP.l0:Nat→List Int→List Int→Int→Option (List Int)
 |0,_,_,_=>none
 |k+1,x0,x3,x4=>if x4<(x0.length:Int)then(if 0≤x4 then(if x4<(x3.length:Int)then(kP.l0 k x0 (x3.set (x4:Int).toNat (rd x0 x4)) (wrap64 (x4+1)))else(none))else(none))else(some x3)
def kP.f(k:Nat)(l0:List Int):Option (List Int):=if 0≤(l0.length:Int)then(if((l0.length:Int):Int).toNat≤35184372088832 then(kP.l0 k l0 (List.replicate ((l0.length:Int):Int).toNat 0) 0)else(none))else(none)
set_option maxHeartbeats 8000000 in
set_option maxRecDepth 100000 in
theorem kP.calls(k:Nat)(A0:Option Addr)(c0:Nat)(l0:List Int)(r:List Int)(w:World)(hr0:Kd.C (Kd.int .i64) w A0 l0.length l0)(hc0:l0.length≤c0)(h:kP.f k l0=some r):
  Calls Tryz.prog 8 #[.slice A0 l0.length c0] w fun e w'=>∃qZ:Value,e= .returned (qZ)∧Kd.R (Kd.int .i64) 3 w' w.heap.size (fun _=>True) qZ r∧Below w.heap.size w w':=by
 have HR0:=ak hr0;have yx:=ak hc0;clear hr0 hc0;have HB:=ak (Below.refl w.heap.size w);have H:(if 0≤(l0.length:Int)then(if((l0.length:Int):Int).toNat≤35184372088832 then(kP.l0 k l0 (List.replicate ((l0.length:Int):Int).toNat 0) 0)else(none))else(none))=some r:=h;clear h;replace H:=I4 H;obtain⟨vw,EC,H⟩:=H;replace H:=I4 H;obtain⟨gQ,rC,H⟩:=H;obtain⟨aE4,akv⟩:=nm (List.replicate ((l0.length:Int):Int).toNat (0:Int));rw[←akv.out]at H
 (try rw[Option.bind_some]at H);have H':=ak H;clear H;go_enter func8,ntmps8;go_wp2_with (first|((with_reducible refine fZ (N:=7) rfl ?_);refine aaC (Kd.int .i64) _ 3 rfl (N:=7) rfl 27 _ _ rfl (l0.length:Int) rfl rfl underlying27 (.int .i64 0) 8 info3 rfl (by decide) (by omega) 0 (ok:=fun _=>True) (rE:=fun _=>True) rfl (fun _ hk=>hk) trivial (of_decide_eq_true (by assumption)) (Nat.le_trans (Nat.mul_le_mul_right _ (of_decide_eq_true (by assumption):(l0.length:Int).toNat≤35184372088832)) (by omega)) (Below.refl _ _) (Nat.le_refl _) ?_;intro aE5 w4 Kv hb wI lD;clear wI lD;(first|rw[←akv.out]at Kv|(simp only[Int.reduceToNat]at Kv;rw[←akv.out]at Kv));have axY:=ak (bP Kv (aj (ul HB.out)));replace HB:=bs HB hb;clear hb Kv))
 go_loopg [4] k (fun kq v4 w'=>∃(dD:List Int) (eF:Int),v4= .int .i64 eF∧ah (kP.l0 kq l0 dD eF=some r)∧ah (kq≤k)∧ah (Kd.R (Kd.int .i64) 3 w' w.heap.size (fun _=>True) aE5 dD)∧ah (Below w.heap.size w w'))
 case atStart=>exact⟨(aE4),(0),rs,H',⟨Nat.le_refl _⟩,⟨ur axY.out⟩,⟨ul HB.out⟩⟩
 case round=>
  clear H';try clear c2
  try clear vw
  try clear EC
  try clear p2
  try clear c3
  try clear gQ
  try clear rC
  obtain⟨dD,eF,rfl,HA,jv,kN,HB⟩:=hrel
  cases gk with
  |zero=>exact absurd HA.out (by simp[kP.l0])
  |succ k1=>
   have H:=HA.out;clear HA;simp only[kP.l0]at H;replace H:=sd H;rcases H with⟨oC,H⟩|⟨oC,H⟩
   ·replace H:=oW H;obtain⟨rU,H⟩:=H;replace H:=oW H;obtain⟨yY,H⟩:=H;obtain⟨axZ,arF⟩:=nm (dD.set (eF:Int).toNat (rd l0 eF));rw[←arF.out]at H
    (try rw[Option.bind_some]at H);have H':=ak H;clear H;have auB:=zi eF;have auC:=zj eF l0.length;obtain⟨aHw,aE6,agn⟩:=y7 HR0.out eF auB auC;cases aE6;replace agn:=cl HB.out agn;replace auB:=eq_true auB;replace auC:=eq_true auC;have p9:=zi eF;have q9:=zj eF (dD.length:Int);obtain⟨go9,co9,eo9,gb9,gl9,cl9,HG9⟩:=ED kN.out (by omega)
    (first|cases eo9|(injection eo9 with FV en_ ec_;(first|subst FV|(injection FV with FV;subst FV));subst ec_;clear en_));have GB9:=ak gb9;have GG9:=ak HG9;clear gb9 gl9 HG9;obtain⟨axT,axU⟩:=L_ 0 kN.out (eF:Int) p9 q9;replace p9:=eq_true p9;replace q9:=eq_true q9;have aef:=aaD kN.out (eF:Int) (rd l0 eF);go_wp2_with (first|((with_reducible refine uP (t:=3) (p:=20) rfl ?_);refine sJ (t:=3) (p:=20) (v:=?auo) (w1:=(wr.setCell ⟨go9,(eF:Int).toNat,none⟩ (.int .i64 (rd l0 eF)))) ?hg ?ho ?hn ?hr ?_;(case ho=>rfl);(case hg=>rfl);(case hn=>rfl);(case hr=>first|(go_simp;done)|(go_simp;rfl));intro xk hw;have hg:wr.grownBy xk (some go9):=(by rw[hw];exact aef.2);have WM:Kd.R (Kd.int .i64) 3 xk w.heap.size (fun _=>True) (.slice (some ⟨go9,0,none⟩) dD.length co9) axZ:=(by rw[hw,arF.out];exact aef.1);clear aef;replace kN:=ak (WM);replace HB:=ak ((by rw[hw];exact nT (HB.out) GB9.out:Below w.heap.size w xk));clear hg hw WM))
    go_roundg k1
    case measure=>have:=jv.out;omega
    case rel=>exact⟨(axZ),(wrap64 (eF+1)),rs,H',⟨by have:=jv.out;omega⟩,⟨ur kN.out⟩,⟨ul HB.out⟩⟩
   ·obtain rfl:=Option.some.inj H;go_wp2;go_ret;exact⟨_,er,ur kN.out,ul HB.out⟩
def iC.f(a0:ByteArray):Option (ByteArray):=if a0.size≤140737488355328 then some (strOfNums ((bytesOf a0).map YQ))else none
set_option maxHeartbeats 1000000 in
set_option maxRecDepth 100000 in
theorem iC.calls(a0:ByteArray)(r:ByteArray)(w:World)(h:iC.f a0=some r):
  Calls Tryz.prog 99 #[.string a0] w fun e w'=>e= .returned (.string r)∧Below w.heap.size w w':=by
 unfold iC.f at h;split at h
 ·rename_i hb
  injection h with h;subst h;have kb:=fun W=>Uy (P:=Tryz.prog) 9 77 5 underlying9 underlying77 underlying5 a0 W
  go_enter func99,ntmps99;go_wp2;go_loopw [10] (fun i W=>∃k:Nat,k≤a0.size∧i= .int .i64 k∧SV w w.heap.size (J6 (bytesOf a0) k) W) (fun i _=>a0.size-(intOf i).toNat)
  case atStart=>exact⟨0,Nat.zero_le _,rfl,by simpa [J6] using Pq w 5 a0⟩
  case round=>
   obtain⟨k,hk,rfl,hR⟩:=hrel;have HR:=ak hR;by_cases hlt:k<a0.size
   ·have hc:=hR.cell k (by rw[nJ,bytesOf_length];exact hlt);have hf:=hR.free k (by rw[nJ,bytesOf_length];exact hlt);rw[aaE _ _ (by rw[bytesOf_length];exact hlt)]at hc;clear hR;have hr:=ND a0 k;have hs:=ak (Zn (bytesOf a0) k (by rw[bytesOf_length];exact hlt));have hu:=ak (SX (bytesOf a0) k (by rw[bytesOf_length];exact hlt))
    generalize (bytesOf a0).getD k 0=c at hc hr hs hu
    go_wp2
    ·go_roundw
     case rel=>exact⟨k+1,by omega,by go_num,by
      rw[hu.out,YQ,if_pos ⟨by omega,by omega⟩];exact HR.out.store (Nat.le_refl _) k (by rw[nJ,bytesOf_length];exact hlt) _⟩
     case measure=>simp[intOf];omega
    ·go_roundw
     case rel=>exact⟨k+1,by omega,by go_num,by rw[hs.out (by omega)];exact HR.out⟩
     case measure=>simp[intOf];omega
    ·go_roundw
     case rel=>exact⟨k+1,by omega,by go_num,by rw[hs.out (by omega)];exact HR.out⟩
     case measure=>simp[intOf];omega
   ·clear hR
    have kd:=run_convert_bytes_arg (P:=Tryz.prog) wr 77 5 underlying77 underlying5 w.heap.size 0 a0.size (grownCap w a0.size 0 5) (J6 (bytesOf a0) k) (by rw[nJ,bytesOf_length]) (fun i hi=>by
     rw[Nat.zero_add];exact HR.out.cell i (by rw[nJ,bytesOf_length];exact hi)) 9 underlying9
    go_wp2;go_ret;have hk2:k=a0.size:=by omega
    exact⟨by rw[hk2,acK (bytesOf a0) a0.size (bytesOf_length a0)];rfl,HR.out.below⟩
 ·cases h
def sW.f(a0:ByteArray)(a1:ByteArray):Option (Bool):=(iC.f a0).bind fun akw=>((iC.f a1).bind fun akx=>(some (akw.toList==akx.toList)))
set_option maxHeartbeats 8000000 in
set_option maxRecDepth 100000 in
theorem sW.calls(a0:ByteArray)(a1:ByteArray)(r:Bool)(w:World)(h:sW.f a0 a1=some r):
  Calls Tryz.prog 128 #[.string a0, .string a1] w fun e w'=>e= .returned (.bool r)∧Below w.heap.size w w':=by
 have HB:=ak (Below.refl w.heap.size w);have H:((iC.f a0).bind fun akw=>((iC.f a1).bind fun akx=>(some (akw.toList==akx.toList))))=some r:=h;clear h;replace H:=bd H;obtain⟨akw,A3,H⟩:=H;replace H:=bd H;obtain⟨akx,A4,H⟩:=H;obtain rfl:=Option.some.inj H;go_enter func128,ntmps128;go_wp2_with (first|(refine gL 99 6 func99 #[.string a0] ?_;(with_reducible refine(iC.calls a0 akw _ A3.out).mono ?_);rintro e w5 ⟨rfl,hb⟩;refine⟨_,rfl,?_⟩;replace HB:=bs HB hb;(try clear hb))|(refine gL 99 8 func99 #[.string a1] ?_;(with_reducible refine(iC.calls a1 akx _ A4.out).mono ?_);rintro e w6 ⟨rfl,hb⟩;refine⟨_,rfl,?_⟩;replace HB:=bs HB hb;(try clear hb)))
 go_ret;exact⟨er,ul HB.out⟩
def qC.f(bn:ByteArray)(bI:ByteArray)(a1:ByteArray):Option (Bool):=(sW.f bn a1).bind fun aky=>(some aky)
set_option maxHeartbeats 8000000 in
set_option maxRecDepth 100000 in
theorem qC.calls(bn:ByteArray)(bI:ByteArray)(gq1:Nat)(a1:ByteArray)(r:Bool)(w:World)(hq1:w.heap[gq1]? =some (.cells #[.string a1] 9 (0,0)))(h:qC.f bn bI a1=some r):
  Calls Tryz.prog 127 #[.agg #[.string bn, .string bI], .pointer (some ⟨gq1,0,none⟩)] w fun e w'=>e= .returned (.bool r)∧Below w.heap.size w w':=by
 have I5:=underlying63;have wL:=ak hq1;clear hq1;have HB:=ak (Below.refl w.heap.size w);have H:((sW.f bn a1).bind fun aky=>(some aky))=some r:=h;clear h;replace H:=bd H;obtain⟨aky,A3,H⟩:=H;obtain rfl:=Option.some.inj H;go_enter func127,ntmps127;go_wp2_with (first|(refine bE 2 #[.string bn, .string bI] 63 ?_;intro agp hg w4 hbox hb;have akz:=ak (hbox);have aHx:=ak ((by rw[hg];exact(aj bb):w.heap.size≤agp));have aHy:=ak ((by rw[hg];exact(aj bb):w.heap.size≤agp));have akA:=ak ((by rw[hg];exact Nat.ne_of_lt (dI (ub wL.out)):gq1≠agp));have akB:=ak ((by rw[hg];exact Nat.ne_of_gt (dI (ub wL.out)):agp≠gq1));replace wL:=kb wL hb;replace HB:=ak (aI bb hb);clear hb hbox hg;have aET:=akB.out;have aEU:=akA.out;obtain⟨aaF,aaG,aaH,aaI⟩:=AA akz.out;have akm:w4.cell? ⟨gq1,0,none⟩=some (.string a1):=(aG wL.out 0).trans rfl;have akn:=jl wL.out 0)|(refine gL 128 7 func128 #[.string bn, .string a1] ?_;(with_reducible refine(sW.calls bn a1 aky _ A3.out).mono ?_);rintro e w8 ⟨rfl,hb⟩;refine⟨_,rfl,?_⟩;replace wL:=kb wL hb;replace akz:=kb akz hb;replace HB:=ak (aI bb hb);(try clear hb)))
 go_ret;exact⟨er,bb⟩
def eY.l0:Nat→List (iq)→Int→Int→ByteArray→Option (Int)
 |0,_,_,_,_=>none
 |k+1,x0,x7,x8,WR=>if x8<x7 then(if 0≤x8 then(if x8<(x0.length:Int)then((qC.f ((aT x0 x8).f0) ((aT x0 x8).f1) WR).bind fun ax0=>(if ax0=true then(some x8)else(eY.l0 k x0 x7 (wrap64 (x8+1)) WR)))else(none))else(none))else(some (-1))
def eY.f(k:Nat)(l0:List (iq))(wM:ByteArray):Option (Int):=eY.l0 k l0 (l0.length:Int) 0 wM
set_option maxHeartbeats 8000000 in
set_option maxRecDepth 100000 in
theorem eY.calls(k:Nat)(A0:Option Addr)(c0:Nat)(l0:List (iq))(CG:Nat)(wM:ByteArray)(r:Int)(w:World)(hr0:Kd.C lg w A0 l0.length l0)(hc0:l0.length≤c0)(Uz:w.heap[CG]? =some (.cells #[.string wM] 9 (0,0)))(h:eY.f k l0 wM=some r):
  Calls Tryz.prog 125 #[.slice A0 l0.length c0, .func (.func 127) #[] #[.pointer (some ⟨CG,0,none⟩)]] w fun e w'=>e= .returned (.int .i64 r)∧Below w.heap.size w w':=by
 have I5:=underlying63;have HR0:=ak hr0;have yx:=ak hc0;clear hr0 hc0;have wL:=ak Uz;clear Uz;have HB:=ak (Below.refl w.heap.size w);have H:(eY.l0 k l0 (l0.length:Int) 0 wM)=some r:=h;clear h;have H':=ak H;clear H;go_enter func125,ntmps125;go_wp2;go_loopg [8] k (fun kq v8 w'=>∃(jK:Int),v8= .int .i64 jK∧ah (eY.l0 kq l0 (l0.length:Int) jK wM=some r)∧ah (kq≤k)∧ah (w'.heap[CG]? =some (.cells #[.string wM] 9 (0,0)))∧ah (Below w.heap.size w w'))
 case atStart=>exact⟨(0),rs,H',⟨Nat.le_refl _⟩,⟨ub wL.out⟩,⟨bb⟩⟩
 case round=>
  clear H';try clear c1
  try clear q1
  try clear p2
  obtain⟨jK,rfl,HA,jv,wL,HB⟩:=hrel
  cases gk with
  |zero=>exact absurd HA.out (by simp[eY.l0])
  |succ k1=>
   have H:=HA.out;clear HA;simp only[eY.l0]at H;replace H:=sd H;rcases H with⟨gQ,H⟩|⟨gQ,H⟩
   ·replace H:=oW H;obtain⟨oM,H⟩:=H;replace H:=oW H;obtain⟨sH,H⟩:=H;replace H:=bd H;obtain⟨ax0,A6,H⟩:=H;replace H:=sb H;rcases H with⟨rfl,H⟩|⟨rfl,H⟩
    ·obtain rfl:=Option.some.inj H;have ael:=zi jK;have aem:=zj jK l0.length;obtain⟨ax1,auD,Pv,Px⟩:=ou HR0.out jK ael aem;cases auD;replace Pv:=cl HB.out Pv;replace Px:=cl HB.out Px;replace ael:=eq_true ael;replace aem:=eq_true aem;go_wp2_with (first|(go_at_call 127;(with_reducible refine(qC.calls ((aT l0 jK).f0) ((aT l0 jK).f1) CG wM true _ (ub wL.out) A6.out).mono ?_);rintro e w8 ⟨rfl,hb⟩;replace wL:=kb wL hb;replace HB:=ak (aI bb hb);(try clear hb)))
     go_ret;exact⟨er,bb⟩
    ·have H':=ak H;clear H;have ael:=zi jK;have aem:=zj jK l0.length;obtain⟨ax1,auD,Pv,Px⟩:=ou HR0.out jK ael aem;cases auD;replace Pv:=cl HB.out Pv;replace Px:=cl HB.out Px;replace ael:=eq_true ael;replace aem:=eq_true aem;go_wp2_with (first|(go_at_call 127;(with_reducible refine(qC.calls ((aT l0 jK).f0) ((aT l0 jK).f1) CG wM false _ (ub wL.out) A6.out).mono ?_);rintro e w9 ⟨rfl,hb⟩;replace wL:=kb wL hb;replace HB:=ak (aI bb hb);(try clear hb)))
     go_roundg k1
     case measure=>have:=jv.out;omega
     case rel=>exact⟨(wrap64 (jK+1)),rs,H',⟨by have:=jv.out;omega⟩,⟨ub wL.out⟩,⟨bb⟩⟩
   ·obtain rfl:=Option.some.inj H;go_wp2;go_ret;exact⟨er,bb⟩
def lW.f(k:Nat)(l0:List (iq))(a1:ByteArray):Option (Int):=(eY.f k l0 a1).bind fun akC=>(some akC)
set_option maxHeartbeats 8000000 in
set_option maxRecDepth 100000 in
theorem lW.calls(k:Nat)(A0:Option Addr)(c0:Nat)(l0:List (iq))(a1:ByteArray)(r:Int)(w:World)(hr0:Kd.C lg w A0 l0.length l0)(hc0:l0.length≤c0)(h:lW.f k l0 a1=some r):
  Calls Tryz.prog 97 #[.slice A0 l0.length c0, .string a1] w fun e w'=>e= .returned (.int .i64 r)∧Below w.heap.size w w':=by
 have HR0:=ak hr0;have yx:=ak hc0;clear hr0 hc0;have HB:=ak (Below.refl w.heap.size w);have H:((eY.f k l0 a1).bind fun akC=>(some akC))=some r:=h;clear h;replace H:=bd H;obtain⟨akC,A3,H⟩:=H;obtain rfl:=Option.some.inj H;go_enter func97,ntmps97;go_wp2_with (first|(refine bE 3 #[.string a1] 9 ?_;intro arG hg w4 hbox hb;have akD:=ak (hbox);have aHz:=mJ HB hg;have aHA:=mJ HB hg;replace HB:=bs HB hb;clear hb hbox hg)|(refine gL 125 7 func125 #[.slice A0 l0.length c0, .func (.func 127) #[] #[.pointer (some ⟨arG,0,none⟩)]] ?_;(with_reducible refine(eY.calls k _ _ l0 arG a1 akC _ (cu (aK HR0.out HB.out)) yx.out (ub akD.out) A3.out).mono ?_);rintro e w5 ⟨rfl,hb⟩;refine⟨_,rfl,?_⟩;replace akD:=kb akD hb;replace HB:=ak (aI bb hb);(try clear hb)))
 go_ret;exact⟨er,bb⟩
def nU.f(k:Nat)(l0:List (iq))(a1:ByteArray):Option (ByteArray×Bool):=(lW.f k l0 a1).bind fun NY=>(if NY<0 then(some ((⟨#[]⟩:ByteArray),false))else(if 0≤NY then(if NY<(l0.length:Int)then(some ((aT l0 NY).f1,true))else(none))else(none)))
set_option maxHeartbeats 8000000 in
set_option maxRecDepth 100000 in
theorem nU.calls(k:Nat)(A0:Option Addr)(c0:Nat)(l0:List (iq))(a1:ByteArray)(r1:ByteArray)(r2:Bool)(w:World)(hr0:Kd.C lg w A0 l0.length l0)(hc0:l0.length≤c0)(h:nU.f k l0 a1=some (r1,r2)):
  Calls Tryz.prog 64 #[.slice A0 l0.length c0, .string a1] w fun e w'=>e= .returned (.tuple #[.string r1, .bool r2])∧Below w.heap.size w w':=by
 have HR0:=ak hr0;have yx:=ak hc0;clear hr0 hc0;have HB:=ak (Below.refl w.heap.size w);have H:((lW.f k l0 a1).bind fun NY=>(if NY<0 then(some ((⟨#[]⟩:ByteArray),false))else(if 0≤NY then(if NY<(l0.length:Int)then(some ((aT l0 NY).f1,true))else(none))else(none))))=some (r1,r2):=h;clear h;replace H:=bd H;obtain⟨NY,A3,H⟩:=H;replace H:=sd H;rcases H with⟨oM,H⟩|⟨oM,H⟩
 ·simp only[Option.some.injEq,Prod.mk.injEq]at H;obtain⟨rfl,rfl⟩:=H;go_enter func64,ntmps64;go_wp2_with (first|(refine gL 97 9 func97 #[.slice A0 l0.length c0, .string a1] ?_;(with_reducible refine(lW.calls k _ _ l0 a1 NY _ (cu HR0.out) yx.out A3.out).mono ?_);rintro e w5 ⟨rfl,hb⟩;refine⟨_,rfl,?_⟩;replace HB:=bs HB hb;(try clear hb)))
  go_ret2;exact⟨er,ul HB.out⟩
 ·replace H:=oW H;obtain⟨oC,H⟩:=H;replace H:=oW H;obtain⟨rU,H⟩:=H;simp only[Option.some.injEq,Prod.mk.injEq]at H;obtain⟨rfl,rfl⟩:=H;go_enter func64,ntmps64;go_wp2_with (first|(refine gL 97 9 func97 #[.slice A0 l0.length c0, .string a1] ?_;(with_reducible refine(lW.calls k _ _ l0 a1 NY _ (cu HR0.out) yx.out A3.out).mono ?_);rintro e w8 ⟨rfl,hb⟩;refine⟨_,rfl,?_⟩;replace HB:=bs HB hb;(try clear hb);have auE:0≤(NY:Int):=of_decide_eq_true (by assumption);have auF:NY<(l0.length:Int):=of_decide_eq_true (by assumption);obtain⟨aHB,aE7,aaJ,aaK⟩:=ou HR0.out NY auE auF;cases aE7;replace aaJ:=(HB.out.cell (World.block_lt_of_cell? w _ aaJ)).trans aaJ;replace aaK:=(HB.out.cell (World.block_lt_of_cell? w _ aaK)).trans aaK;replace auE:=eq_true auE;replace auF:=eq_true auF))
  go_ret2;exact⟨er,ul HB.out⟩
def strings_Cut.f(a0:ByteArray)(a1:ByteArray):Option (ByteArray×ByteArray×Bool):=if a0.size<4294967281 then some (⟨(Lib.cut a0.data.toList a1.data.toList).1.toArray⟩,⟨(Lib.cut a0.data.toList a1.data.toList).2.1.toArray⟩,(Lib.cut a0.data.toList a1.data.toList).2.2)else none
theorem strings_Cut.calls(a0 a1:ByteArray)(r1 r2:ByteArray)(r3:Bool)(w:World)(wI:MaxOk w)(h:strings_Cut.f a0 a1=some (r1,r2,r3)):
  Calls Tryz.prog 61 #[.string a0, .string a1] w fun e w'=>e= .returned (.tuple #[.string r1, .string r2, .bool r3])∧fK w w':=by
 unfold strings_Cut.f at h;split at h
 ·rename_i hs
  injection h with h;injection h with h1 h;injection h with h2 h3;subst h1;subst h2;subst h3;obtain⟨m,hm⟩:=wI;exact(Tryz.strings_Cut a0 a1 m w hs hm).mono fun e w' ⟨he,n,hn⟩=>⟨he,⟨⟨n,hn⟩⟩⟩
 ·cases h
def kQ.f(a0:ByteArray)(a1:ByteArray):Option (ByteArray):=if a1.data.toList=[32]then(if a0.size≤9223372036854775807 then some ⟨(Lib.trimB a0.data.toList 32).toArray⟩else none)else none
theorem kQ.calls(a0 a1:ByteArray)(r:ByteArray)(w:World)(h:kQ.f a0 a1=some r):
  Calls Tryz.prog 62 #[.string a0, .string a1] w fun e w'=>e= .returned (.string r)∧fK w w':=by
 unfold kQ.f at h;split at h
 ·rename_i h1
  split at h
  ·rename_i hs
   injection h with h;subst h
   have e1:a1=⟨#[32]⟩:=by
    cases a1 with
    |mk d=>exact congrArg ByteArray.mk (Array.toList_inj.mp h1)
   subst e1;refine(Tryz.strings_Trim_one a0 32 (by decide) w hs).mono ?_;rintro e w' ⟨he,hw⟩;refine⟨he,?_⟩;rcases hw with rfl|rfl
   ·exact⟨⟨0,rfl⟩⟩
   ·exact⟨⟨1,rfl⟩⟩
  ·cases h
 ·cases h
def bC.l0:Nat→ByteArray→Int→Int→Option (Bool)
 |0,_,_,_=>none
 |k+1,x0,x5,x6=>if x6<x5 then(if 0≤x6 then(if x6<(x0.size:Int)then(if(bt x0 x6)<32 then(some false)else(if(bt x0 x6)>126 then(some false)else(bC.l0 k x0 x5 (wrap64 (x6+1)))))else(none))else(none))else(some (decide ((x0.size:Int)≤200)))
def bC.f(k:Nat)(a0:ByteArray):Option (Bool):=bC.l0 k a0 (a0.size:Int) 0
set_option maxHeartbeats 8000000 in
set_option maxRecDepth 100000 in
theorem bC.calls(k:Nat)(a0:ByteArray)(r:Bool)(w:World)(h:bC.f k a0=some r):
  Calls Tryz.prog 75 #[.string a0] w fun e w'=>e= .returned (.bool r)∧fK w w':=by
 have H:(bC.l0 k a0 (a0.size:Int) 0)=some r:=h;clear h;have H':=ak H;clear H;go_enter func75,ntmps75;go_wp2;go_loopg [6] k (fun kq v6 w'=>∃(gX:Int),v6= .int .i64 gX∧ah (bC.l0 kq a0 (a0.size:Int) gX=some r)∧ah (kq≤k)∧fK w w')
 case atStart=>exact⟨(0),rs,H',⟨Nat.le_refl _⟩,dn⟩
 case round=>
  clear H';obtain⟨gX,rfl,HA,jv,⟨m1,rfl⟩⟩:=hrel
  cases gk with
  |zero=>exact absurd HA.out (by simp[bC.l0])
  |succ k1=>
   have H:=HA.out;clear HA;simp only[bC.l0]at H;replace H:=sd H;rcases H with⟨vw,H⟩|⟨vw,H⟩
   ·replace H:=oW H;obtain⟨gQ,H⟩:=H;replace H:=oW H;obtain⟨oM,H⟩:=H;replace H:=sd H;rcases H with⟨oC,H⟩|⟨oC,H⟩
    ·obtain rfl:=Option.some.inj H;obtain⟨p5,q5,hx5⟩:=bx a0 gX;go_wp2;go_ret;exact⟨rs,dn⟩
    ·replace H:=sp H;rcases H with⟨c8,H⟩|⟨c8,H⟩
     ·have yY:decide (126<(bt a0 gX))=true:=decide_eq_true c8;clear c8;obtain rfl:=Option.some.inj H;obtain⟨p5,q5,hx5⟩:=bx a0 gX;obtain⟨p7,q7,hx7⟩:=bx a0 gX;go_wp2;go_ret;exact⟨rs,dn⟩
     ·have yY:decide (126<(bt a0 gX))=false:=decide_eq_false c8;clear c8;have H':=ak H;clear H;obtain⟨p5,q5,hx5⟩:=bx a0 gX;obtain⟨p7,q7,hx7⟩:=bx a0 gX;go_wp2;go_roundg k1
      case measure=>have:=jv.out;omega
      case rel=>exact⟨(wrap64 (gX+1)),rs,H',⟨by have:=jv.out;omega⟩,dn⟩
   ·obtain rfl:=Option.some.inj H;go_wp2;go_ret;exact⟨rs,dn⟩
mutual
def kY.f:Nat→List (J_)→List ByteArray→List (FW)→Option ((List (iq))×List ByteArray×(List (jm)))
 |0,_,_,_=>none
 |k+1,aN,aQ,aA=>(jH.f k aN).bind fun t119=>((jo.f k aQ).bind fun yQ=>((if 0≤(aA.length:Int)then(if((aA.length:Int):Int).toNat≤3909374676536 then(kR.l0 k aA (List.replicate ((aA.length:Int):Int).toNat z32) 0)else(none))else(none)).bind fun Py=>(some (t119,yQ,Py))))
def kR.l0:Nat→List (FW)→List (jm)→Int→Option ((List (jm)))
 |0,_,_,_=>none
 |k+1,x0,x3,x4=>if x4<(x0.length:Int)then(if 0≤x4 then((kY.f k ((lT x0 x4).f0) ((lT x0 x4).f1) ((lT x0 x4).f2)).bind fun akE=>(if x4<(x3.length:Int)then(kR.l0 k x0 (x3.set (x4:Int).toNat (⟨akE.1,akE.2.1,akE.2.2⟩:jm)) (wrap64 (x4+1)))else(none)))else(none))else(some x3)
end
def kR.f(k:Nat)(l0:List (FW)):Option ((List (jm))):=if 0≤(l0.length:Int)then(if((l0.length:Int):Int).toNat≤3909374676536 then(kR.l0 k l0 (List.replicate ((l0.length:Int):Int).toNat z32) 0)else(none))else(none)
theorem kY.NV(k:Nat)(aN:List (J_))(aQ:List ByteArray)(aA:List (FW)):kY.f (k+1) aN aQ aA=((jH.f k aN).bind fun t119=>((jo.f k aQ).bind fun yQ=>((kR.f k aA).bind fun Py=>(some (t119,yQ,Py))))):=by simp only[kY.f,kR.f]
set_option maxHeartbeats 8000000 in
set_option maxRecDepth 100000 in
theorem kY.pair(k:Nat):(∀(cO:Option Addr) (cZ:Nat) (aN:List (J_)) (dh:Option Addr) (dw:Nat) (aQ:List ByteArray) (bH:Option Addr) (bg:Nat) (aA:List (FW)) (r1:List (iq)) (r2:List ByteArray) (r3:List (jm)) (w:World) (ku:Kd.C YJ w cO aN.length aN) (kC:aN.length≤cZ) (kD:Kd.C Kd.string w dh aQ.length aQ) (kE:aQ.length≤dw) (jg:Kd.C k26 w bH aA.length aA) (jh:aA.length≤bg) (h:kY.f k aN aQ aA=some (r1,r2,r3)),
  Calls Tryz.prog 7 #[.agg #[.slice cO aN.length cZ, .slice dh aQ.length dw, .slice bH aA.length bg]] w fun e w'=>∃qZ IL Ko:Value,e= .returned (.agg #[qZ,IL,Ko])∧Kd.R lg 63 w' w.heap.size (fun _=>True) qZ r1∧Kd.R Kd.string 9 w' w.heap.size (fun _=>True) IL r2∧Kd.R k32 32 w' w.heap.size (fun k_=>some k_≠(qZ:Value).ownBlock∧some k_≠(IL:Value).ownBlock) Ko r3∧Below w.heap.size w w')∧
  (∀(A0:Option Addr) (c0:Nat) (l0:List (FW)) (r:List (jm)) (w:World) (hr0:Kd.C k26 w A0 l0.length l0) (hc0:l0.length≤c0) (h:kR.f k l0=some r),
  Calls Tryz.prog 26 #[.slice A0 l0.length c0] w fun e w'=>∃qZ:Value,e= .returned (qZ)∧Kd.R k32 32 w' w.heap.size (fun _=>True) qZ r∧Below w.heap.size w w'):=by
 induction k using Nat.strongRecOn with
 |_ k ih=>
 refine⟨?_,?_⟩
 ·cases k with
  |zero=>intro cO cZ aN dh dw aQ bH bg aA r1 r2 r3 w ku kC kD kE jg jh h;exact absurd h (by simp[kY.f])
  |succ k=>
  have ihB:=(ih k (Nat.lt_succ_self k)).2;clear ih;intro cO cZ aN dh dw aQ bH bg aA r1 r2 r3 w ku kC kD kE jg jh h;rw[kY.NV]at h;have aos:=underlying26;have IQ:=underlying32;have lU:=ak ku;have mX:=ak kC;clear ku kC;have oN:=ak kD;have qB:=ak kE;clear kD kE;have jF:=ak jg;have lV:=ak jh;clear jg jh;have HB:=ak (Below.refl w.heap.size w);have H:((jH.f k aN).bind fun t119=>((jo.f k aQ).bind fun yQ=>((kR.f k aA).bind fun Py=>(some (t119,yQ,Py)))))=some (r1,r2,r3):=h;clear h;replace H:=bd H;obtain⟨t119,A2,H⟩:=H;replace H:=bd H;obtain⟨yQ,A3,H⟩:=H;replace H:=bd H;obtain⟨Py,A4,H⟩:=H;simp only[Option.some.injEq,Prod.mk.injEq]at H;obtain⟨rfl,rfl,rfl⟩:=H;go_enter func7,ntmps7;go_wp2_with (first|(refine bE 1 #[.slice cO aN.length cZ, .slice dh aQ.length dw, .slice bH aA.length bg] 26 ?_;intro Zo hg w5 hbox hb;have BL:=ak (hbox);have aHC:=mJ HB hg;have aHD:=mJ HB hg;replace HB:=bs HB hb;clear hb hbox hg)|(refine bE 2 #[.slice none 0 0, .slice none 0 0, .slice none 0 0] 32 ?_;intro yK hg w6 hbox hb;have EF:=ak (hbox);have aHE:=ak ((by rw[hg];exact(aj bb):w.heap.size≤yK));have aHF:=ak ((by rw[hg];exact(aj bb):w.heap.size≤yK));have ai4:=ak ((by rw[hg];exact Nat.ne_of_lt (dI (ub BL.out)):Zo≠yK));have ai5:=ak ((by rw[hg];exact Nat.ne_of_gt (dI (ub BL.out)):yK≠Zo));replace BL:=kb BL hb;replace HB:=ak (aI bb hb);clear hb hbox hg)|(refine bE 3 #[.slice none 0 0, .slice none 0 0, .slice none 0 0] 32 ?_;intro Am hg w7 hbox hb;have BM:=ak (hbox);have aHG:=ak ((by rw[hg];exact(aj bb):w.heap.size≤Am));have aHH:=ak ((by rw[hg];exact(aj bb):w.heap.size≤Am));have SY:=ak ((by rw[hg];exact Nat.ne_of_lt (dI (ub BL.out)):Zo≠Am));have ai6:=ak ((by rw[hg];exact Nat.ne_of_gt (dI (ub BL.out)):Am≠Zo));have H6:=ak ((by rw[hg];exact Nat.ne_of_lt (dI (ub EF.out)):yK≠Am));have ai7:=ak ((by rw[hg];exact Nat.ne_of_gt (dI (ub EF.out)):Am≠yK));replace BL:=kb BL hb;replace EF:=kb EF hb;replace HB:=ak (aI bb hb);clear hb hbox hg;have aEV:=ai4.out;have aEW:=ai5.out;have aEL:=SY.out;have aEM:=ai6.out;obtain⟨IU,LX,Vt,IV,LY,Vu⟩:=iE BL.out)|(refine gL 25 6 func25 #[.slice cO aN.length cZ] ?_;(with_reducible refine(jH.calls k _ _ aN t119 _ (cu (aK lU.out HB.out)) mX.out A2.out).mono ?_);rintro e xk ⟨aJ2,rfl,ho0,hb⟩;refine⟨_,rfl,?_⟩;have WS:=ak (bP ho0 (aj bb));replace BL:=kb BL hb;replace EF:=kb EF hb;replace BM:=kb BM hb;replace HB:=ak (aI bb hb);(try clear hb);(try clear ho0);obtain⟨BI,BJ,auk⟩:=bG WS.out;subst auk;have arH:=ai7.out;have arI:=H6.out;obtain⟨aaL,aaM,agq,aaN,aaO,agr⟩:=iE BM.out;obtain⟨Bd,Bf,VD,Bg,Bh,VE⟩:=iE BL.out)|(refine gL 17 10 func17 #[.slice dh aQ.length dw] ?_;(with_reducible refine(jo.calls k _ _ aQ yQ _ (aK oN.out bb) qB.out A3.out).mono ?_);rintro e w16 ⟨aJ3,rfl,ho0,hb⟩;refine⟨_,rfl,?_⟩;have acL:=ak (bP ho0 (aj bb));replace WS:=ak (lZ (ur (aY (bK (p:=⟨Am,0,none⟩) (eP WS.out BM.out (by decide)) (fun _ hk=>hk.2) (.slice BI t119.length BJ)) (fun _ h_=>h_.1))) hb);replace BL:=ak (jy (g:=Zo) (o:= .cells #[.slice cO aN.length cZ, .slice dh aQ.length dw, .slice bH aA.length bg] 26 (0,0)) (by(with_reducible repeat(first|refine ay ?_ _|refine aC ?_|refine au ?_ _));refine fJ ?_ SY.out _;(with_reducible repeat(first|refine ay ?_ _|refine aC ?_|refine au ?_ _));exact BL.out) hb);replace EF:=ak (jy (g:=yK) (o:= .cells #[.slice none 0 0, .slice none 0 0, .slice none 0 0] 32 (0,0)) (by(with_reducible repeat(first|refine ay ?_ _|refine aC ?_|refine au ?_ _));refine fJ ?_ H6.out _;(with_reducible repeat(first|refine ay ?_ _|refine aC ?_|refine au ?_ _));exact EF.out) hb);replace BM:=ak (jy (g:=Am) (o:= .cells #[.slice BI t119.length BJ, .slice none 0 0, .slice none 0 0] 32 (0,0)) (by(with_reducible repeat(first|refine ay ?_ _|refine aC ?_|refine au ?_ _));refine bU (cs:=#[.slice none 0 0, .slice none 0 0, .slice none 0 0]) ?_ 0 _ rfl;(with_reducible repeat(first|refine ay ?_ _|refine aC ?_|refine au ?_ _));exact BM.out) hb);replace HB:=ak (aI bb hb);(try clear hb);(try clear ho0);obtain⟨vU,vC,aaP⟩:=bG acL.out;subst aaP;obtain⟨VF,VG,aaQ,VH,VI,aaR⟩:=iE BM.out;obtain⟨Vy,Vz,aat,VA,VB,aau⟩:=iE BL.out)|(refine gL 26 14 func26 #[.slice bH aA.length bg] ?_;(with_reducible refine(ihB _ _ aA Py _ (aK jF.out bb) lV.out A4.out).mono ?_);rintro e w20 ⟨aJ4,rfl,ho0,hb⟩;refine⟨_,rfl,?_⟩;have arJ:=ak (bP (xO (xO (nI (nI ho0 (ru (ur (aY (bK (p:=⟨Am,1,none⟩) (eP WS.out BM.out (by decide)) (fun _ hk=>hk.2) (.slice vU yQ.length vC)) (fun _ h_=>h_.1))))) (ru (ur (aY (bK (p:=⟨Am,1,none⟩) (eP acL.out BM.out (by decide)) (fun _ hk=>hk.2) (.slice vU yQ.length vC)) (fun _ h_=>h_.1))))) (g:=yK) (o:= .cells #[.slice none 0 0, .slice none 0 0, .slice none 0 0] 32 (0,0)) (by(with_reducible repeat(first|refine ay ?_ _|refine aC ?_|refine au ?_ _));refine fJ ?_ H6.out _;(with_reducible repeat(first|refine ay ?_ _|refine aC ?_|refine au ?_ _));exact EF.out)) (g:=Am) (o:= .cells #[.slice BI t119.length BJ, .slice vU yQ.length vC, .slice none 0 0] 32 (0,0)) (by(with_reducible repeat(first|refine ay ?_ _|refine aC ?_|refine au ?_ _));refine bU (cs:=#[.slice BI t119.length BJ, .slice none 0 0, .slice none 0 0]) ?_ 1 _ rfl;(with_reducible repeat(first|refine ay ?_ _|refine aC ?_|refine au ?_ _));exact BM.out)) (aj bb));replace WS:=ak (lZ (ur (aY (bK (p:=⟨Am,1,none⟩) (eP WS.out BM.out (by decide)) (fun _ hk=>hk.2) (.slice vU yQ.length vC)) (fun _ h_=>h_.1))) hb);replace acL:=ak (lZ (ur (aY (bK (p:=⟨Am,1,none⟩) (eP acL.out BM.out (by decide)) (fun _ hk=>hk.2) (.slice vU yQ.length vC)) (fun _ h_=>h_.1))) hb);replace BL:=ak (jy (g:=Zo) (o:= .cells #[.slice cO aN.length cZ, .slice dh aQ.length dw, .slice bH aA.length bg] 26 (0,0)) (by(with_reducible repeat(first|refine ay ?_ _|refine aC ?_|refine au ?_ _));refine fJ ?_ SY.out _;(with_reducible repeat(first|refine ay ?_ _|refine aC ?_|refine au ?_ _));exact BL.out) hb);replace EF:=ak (jy (g:=yK) (o:= .cells #[.slice none 0 0, .slice none 0 0, .slice none 0 0] 32 (0,0)) (by(with_reducible repeat(first|refine ay ?_ _|refine aC ?_|refine au ?_ _));refine fJ ?_ H6.out _;(with_reducible repeat(first|refine ay ?_ _|refine aC ?_|refine au ?_ _));exact EF.out) hb);replace BM:=ak (jy (g:=Am) (o:= .cells #[.slice BI t119.length BJ, .slice vU yQ.length vC, .slice none 0 0] 32 (0,0)) (by(with_reducible repeat(first|refine ay ?_ _|refine aC ?_|refine au ?_ _));refine bU (cs:=#[.slice BI t119.length BJ, .slice none 0 0, .slice none 0 0]) ?_ 1 _ rfl;(with_reducible repeat(first|refine ay ?_ _|refine aC ?_|refine au ?_ _));exact BM.out) hb);replace HB:=ak (aI bb hb);(try clear hb);(try clear ho0);obtain⟨Et,Eu,aeb⟩:=bG arJ.out;subst aeb;obtain⟨IW,LZ,L6,IX,L8,L9⟩:=iE BM.out;obtain⟨aom,aon,aoo,aop,aoq,aor⟩:=iE EF.out))
  refine bodyPost_ret (results_cell_row rfl _ _ yK 32 #[.slice BI t119.length BJ, .slice vU yQ.length vC, .slice Et Py.length Eu] (0,0) _ rfl (by(with_reducible repeat(first|refine ay ?_ _|refine aC ?_|refine au ?_ _));refine bU (cs:=#[.slice BI t119.length BJ, .slice vU yQ.length vC, .slice none 0 0]) ?_ 2 _ rfl;(with_reducible repeat(first|refine ay ?_ _|refine aC ?_|refine au ?_ _));refine bU (cs:=#[.slice BI t119.length BJ, .slice none 0 0, .slice none 0 0]) ?_ 1 _ rfl;(with_reducible repeat(first|refine ay ?_ _|refine aC ?_|refine au ?_ _));refine bU (cs:=#[.slice none 0 0, .slice none 0 0, .slice none 0 0]) ?_ 0 _ rfl;(with_reducible repeat(first|refine ay ?_ _|refine aC ?_|refine au ?_ _));refine fJ ?_ H6.out _;(with_reducible repeat(first|refine ay ?_ _|refine aC ?_|refine au ?_ _));exact EF.out) underlying32 rfl (by kernel_rfl)) rfl ?_;exact⟨_,_,_,er,ur (aY (bK (p:=⟨yK,2,none⟩) (bK (p:=⟨yK,1,none⟩) (bK (p:=⟨yK,0,none⟩) (bK (p:=⟨Am,2,none⟩) (eP (eP WS.out BM.out (by decide)) EF.out (by decide)) (fun _ hk=>hk.1.2) (.slice Et Py.length Eu)) (fun _ hk=>hk.2) (.slice BI t119.length BJ)) (fun _ hk=>hk.2) (.slice vU yQ.length vC)) (fun _ hk=>hk.2) (.slice Et Py.length Eu)) (fun _ hk=>trivial)),ur (aY (bK (p:=⟨yK,2,none⟩) (bK (p:=⟨yK,1,none⟩) (bK (p:=⟨yK,0,none⟩) (bK (p:=⟨Am,2,none⟩) (eP (eP acL.out BM.out (by decide)) EF.out (by decide)) (fun _ hk=>hk.1.2) (.slice Et Py.length Eu)) (fun _ hk=>hk.2) (.slice BI t119.length BJ)) (fun _ hk=>hk.2) (.slice vU yQ.length vC)) (fun _ hk=>hk.2) (.slice Et Py.length Eu)) (fun _ hk=>trivial)),ur (aY (bK (p:=⟨yK,2,none⟩) (bK (p:=⟨yK,1,none⟩) (bK (p:=⟨yK,0,none⟩) (bK (p:=⟨Am,2,none⟩) (aY (aY arJ.out (fun k_ hk=>(⟨hk,hk.2⟩:_∧k_≠Am))) (fun k_ hk=>(⟨hk,hk.1.1.2⟩:_∧k_≠yK))) (fun _ hk=>hk.1.2) (.slice Et Py.length Eu)) (fun _ hk=>hk.2) (.slice BI t119.length BJ)) (fun _ hk=>hk.2) (.slice vU yQ.length vC)) (fun _ hk=>hk.2) (.slice Et Py.length Eu)) (fun _ hk=>⟨hk.1.1.1.1.1.2,hk.1.1.1.1.2⟩)),bb⟩
 ·intro A0 c0 l0 r w hr0 hc0 h;have aos:=underlying26;have IQ:=underlying32;have HR0:=ak hr0;have yx:=ak hc0;clear hr0 hc0;have HB:=ak (Below.refl w.heap.size w);have H:(if 0≤(l0.length:Int)then(if((l0.length:Int):Int).toNat≤3909374676536 then(kR.l0 k l0 (List.replicate ((l0.length:Int):Int).toNat z32) 0)else(none))else(none))=some r:=h;clear h;replace H:=I4 H;obtain⟨vw,EC,H⟩:=H;replace H:=I4 H;obtain⟨gQ,rC,H⟩:=H;obtain⟨y101,WL⟩:=nm (List.replicate ((l0.length:Int):Int).toNat z32);rw[←WL.out]at H
  (try rw[Option.bind_some]at H);have H':=ak H;clear H;go_enter func26,ntmps26;go_wp2_with (first|((with_reducible refine fZ (N:=7) rfl ?_);refine aaC k32 _ 32 rfl (N:=7) rfl 30 _ _ rfl (l0.length:Int) rfl rfl underlying30 (.agg #[(.slice none 0 0),(.slice none 0 0),(.slice none 0 0)]) 72 aam rfl (by decide) (by omega) z32 (ok:=fun _=>True) (rE:=fun _=>True) (Vs _ _ _ z32 (Kw _ _ _ _ _) (Kw _ _ _ _ _) (Kw _ _ _ _ _)) (fun _ hk=>hk) trivial (of_decide_eq_true (by assumption)) (Nat.le_trans (Nat.mul_le_mul_right _ (of_decide_eq_true (by assumption):(l0.length:Int).toNat≤3909374676536)) (by omega)) (Below.refl _ _) (Nat.le_refl _) ?_;intro axP w4 Kv hb wI lD;clear wI lD;(first|rw[←WL.out]at Kv|(simp only[Int.reduceToNat]at Kv;rw[←WL.out]at Kv));have akk:=ak (bP Kv (aj (ul HB.out)));replace HB:=bs HB hb;clear hb Kv))
  go_loopg [4] k (fun kq v4 w'=>∃(dD:List (jm)) (eF:Int),v4= .int .i64 eF∧ah (kR.l0 kq l0 dD eF=some r)∧ah (kq≤k)∧ah (Kd.R k32 32 w' w.heap.size (fun _=>True) axP dD)∧ah (Below w.heap.size w w'))
  case atStart=>exact⟨(y101),(0),rs,H',⟨Nat.le_refl _⟩,⟨ur akk.out⟩,⟨ul HB.out⟩⟩
  case round=>
   clear H';try clear c2
   try clear vw
   try clear EC
   try clear p2
   try clear c3
   try clear gQ
   try clear rC
   obtain⟨dD,eF,rfl,HA,jv,kN,HB⟩:=hrel
   cases gk with
   |zero=>exact absurd HA.out (by simp[kR.l0])
   |succ k1=>
    have H:=HA.out;clear HA;simp only[kR.l0]at H;replace H:=sd H;rcases H with⟨oC,H⟩|⟨oC,H⟩
    ·replace H:=oW H;obtain⟨rU,H⟩:=H;replace H:=bd H;obtain⟨⟨t105,M_,WT⟩,A8,H⟩:=H
     (try dsimp only at H);replace H:=oW H;obtain⟨y5,H⟩:=H;obtain⟨y114,arK⟩:=nm (dD.set (eF:Int).toNat (⟨t105,M_,WT⟩:jm));rw[←arK.out]at H
     (try rw[Option.bind_some]at H);have H':=ak H;clear H;have aec:=zi eF;have aed:=zj eF l0.length;obtain⟨axQ,Aw,Az,Ew,Ey,IY,IZ,aul,O6,O7,O8,O9,O_,Pg,Ph,Pj,Pm⟩:=ad_ HR0.out eF aec aed;cases aul;replace O6:=cl HB.out O6;replace O7:=cl HB.out O7;replace O8:=cl HB.out O8;have aav:=ak O_;have aaw:=ak O9;clear O_ O9;have aax:=ak Ph;have aay:=ak Pg;clear Ph Pg;have aaz:=ak Pm;have aaA:=ak Pj;clear Pm Pj;replace aec:=eq_true aec;replace aed:=eq_true aed;go_wp2_with (first|(refine gL 7 20 func7 #[.agg #[.slice Aw ((lT l0 eF).f0).length Az, .slice Ew ((lT l0 eF).f1).length Ey, .slice IY ((lT l0 eF).f2).length IZ]] ?_;(with_reducible refine((ih k1 (by have:=jv.out;omega)).1 _ _ ((lT l0 eF).f0) _ _ ((lT l0 eF).f1) _ _ ((lT l0 eF).f2) t105 M_ WT _ (cu (aK aav.out HB.out)) aaw.out (cu (aK aax.out HB.out)) aay.out (cu (aK aaz.out HB.out)) aaA.out A8.out).mono ?_);rintro e xk ⟨aot,v109,aou,rfl,ho0,ho1,ho2,hb⟩;refine⟨_,rfl,?_⟩;have akF:=ak (bP ho0 (aj (ul HB.out)));have akG:=ak (bP ho1 (aj (ul HB.out)));have akH:=ak (bP (nI ho2 (ru (ur kN.out))) (aj (ul HB.out)));replace kN:=ak (aY (Ce (Ce (Ce (agh (ur kN.out) hb) (jf ho0)) (jf ho1)) (jf ho2)) (fun _ h_=>h_.1));replace HB:=bs HB hb;(try clear hb);(try clear ho0);(try clear ho1);(try clear ho2);have p10:0≤(eF:Int):=of_decide_eq_true (by assumption);have q10:(eF:Int)<((dD.length:Int):Int):=of_decide_eq_true (by assumption);obtain⟨FX,WQ,Po,akp,auu,aE0,akq⟩:=ED kN.out (by omega);(first|cases Po|(injection Po with FV en_ ec_;(first|subst FV|(injection FV with FV;subst FV));subst ec_;clear en_));have ai3:=ak akp;have aE1:=ak akq;clear akp auu akq;obtain⟨aE2,akr,aks,Uu,Uw⟩:=Ja kN.out z32 (eF:Int) p10 q10;obtain⟨auG,auH,auI,rfl,aE8,aE9,aE_⟩:=SL aks;have auv:xk.cell? ⟨FX,(eF:Int).toNat*3,none⟩=some (auG):=Uu 0 _ rfl;have auw:xk.cell? ⟨FX,(eF:Int).toNat*3+1,none⟩=some (auH):=Uu 1 _ rfl;have aFa:xk.cell? ⟨FX,(eF:Int).toNat*3+2,none⟩=some (auI):=Uu 2 _ rfl;have auy:xk.frozen? ⟨FX,(eF:Int).toNat*3,none⟩=false:=Uw 0;have auz:xk.frozen? ⟨FX,(eF:Int).toNat*3+1,none⟩=false:=Uw 1;have aFb:xk.frozen? ⟨FX,(eF:Int).toNat*3+2,none⟩=false:=Uw 2;(clear akr Uu Uw;(try clear aks));replace p10:=eq_true p10;replace q10:=eq_true q10;have n_:=ak (aY (ok':=(fun k_=>some k_≠(aot:Value).ownBlock∧some k_≠(v109:Value).ownBlock∧some k_≠(aou:Value).ownBlock)) kN.out (fun k_ hk=>⟨hk.1.1.2,⟨hk.1.2,hk.2⟩⟩));clear kN;have kN:=n_;clear n_;have akt:=ak (show Kd.R k32 32 xk w.heap.size (fun _=>True) (.slice (some ⟨FX,0,none⟩) dD.length WQ) dD from(ur (aY kN.out (fun _ hk=>trivial))));obtain⟨aE3,acJ,aku,Nz,Ux⟩:=Ja akt.out z32 (eF:Int) (of_decide_eq_true (by assumption)) (by have h_:(eF:Int)<((dD.length:Int):Int):=of_decide_eq_true (by assumption);first|exact h_|(have e_:=(dB kN.out).1;omega)|simpa using h_);obtain⟨aFc,aFd,aFe,rfl,aFf,aFg,aFh⟩:=SL aku;have aeg:=agm akt.out (eF:Int) (of_decide_eq_true (by assumption)) (by have h_:(eF:Int)<((dD.length:Int):Int):=of_decide_eq_true (by assumption);first|exact h_|(have e_:=(dB kN.out).1;omega)|simpa using h_) (seg:=[aot,v109,aou]) (j:=0) acJ Nz (show 3≤3 from by decide) (x':=(⟨t105,M_,WT⟩:jm)) (Vs _ _ _ (⟨t105,M_,WT⟩:jm) (aY (vk (akF.out) (qA kN.out) (by decide)) (fun k_ hk=>⟨trivial,fun e_=>(hk.2) (by rw[e_];rfl)⟩)) (aY (vk (akG.out) (qA kN.out) (by decide)) (fun k_ hk=>⟨trivial,fun e_=>(hk.2) (by rw[e_];rfl)⟩)) (aY (akH.out) (fun k_ hk=>⟨trivial,fun e_=>(hk.2) (by rw[e_];rfl)⟩))) (fun _ hk=>hk);have aeh:=Nz 0 _ rfl;(try simp only[show(k32).sz=3 from rfl,Nat.mul_one,Nat.add_zero]at aeh);have aei:=Ux 0;(try simp only[show(k32).sz=3 from rfl,Nat.mul_one,Nat.add_zero]at aei);have aej:=Nz 1 _ rfl;(try simp only[show(k32).sz=3 from rfl,Nat.mul_one,Nat.add_zero]at aej);have aek:=Ux 1;(try simp only[show(k32).sz=3 from rfl,Nat.mul_one,Nat.add_zero]at aek);have auJ:=Nz 2 _ rfl;(try simp only[show(k32).sz=3 from rfl,Nat.mul_one,Nat.add_zero]at auJ);have auK:=Ux 2;(try simp only[show(k32).sz=3 from rfl,Nat.mul_one,Nat.add_zero]at auK);(clear acJ Nz Ux;(try clear aku)))|((with_reducible refine uP (t:=32) (p:=21) rfl ?_);have aFi:=fun(a:Addr) (m:Mode) (w:World)=>run_store Tryz.prog w a aot m (by obtain⟨_,_,e_⟩:=bG akF.out;rw[e_];rfl);have aFj:=fun(a:Addr) (m:Mode) (w:World)=>run_store Tryz.prog w a v109 m (by obtain⟨_,_,e_⟩:=bG akG.out;rw[e_];rfl);have aFk:=fun(a:Addr) (m:Mode) (w:World)=>run_store Tryz.prog w a aou m (by obtain⟨_,_,e_⟩:=bG akH.out;rw[e_];rfl);refine sJ (t:=32) (p:=21) (v:=?auA) (w1:=(((xk.setCell ⟨FX,(eF:Int).toNat*3,none⟩ (aot)).setCell ⟨FX,(eF:Int).toNat*3+1,none⟩ (v109)).setCell ⟨FX,(eF:Int).toNat*3+2,none⟩ (aou))) ?hg ?ho ?hn ?hr ?_;(case ho=>rfl);(case hg=>rfl);(case hn=>rfl);(case hr=>first|(go_simp;done)|(go_simp;rfl));intro NC hw;have hg:xk.grownBy NC (some FX):=(by rw[hw];exact aeg.2);have WM:Kd.R k32 32 NC w.heap.size (fun _=>True) (.slice (some ⟨FX,0,none⟩) dD.length WQ) y114:=(by rw[hw,arK.out];exact aeg.1);clear aeg;have ng:=ak (WM);have ni:=ak ((by rw[hw];exact nT (nT (nT (HB.out) ai3.out) ai3.out) ai3.out:Below w.heap.size w NC));clear kN;clear HB;clear akF;clear akG;clear akH;have kN:=ng;have HB:=ni;clear ng ni;clear hg hw WM))
     go_roundg k1
     case measure=>have:=jv.out;omega
     case rel=>exact⟨(y114),(wrap64 (eF+1)),rs,H',⟨by have:=jv.out;omega⟩,⟨ur kN.out⟩,⟨ul HB.out⟩⟩
    ·obtain rfl:=Option.some.inj H;go_wp2;go_ret;exact⟨_,er,ur kN.out,ul HB.out⟩
theorem kY.calls(k:Nat)(cO:Option Addr)(cZ:Nat)(aN:List (J_))(dh:Option Addr)(dw:Nat)(aQ:List ByteArray)(bH:Option Addr)(bg:Nat)(aA:List (FW))(r1:List (iq))(r2:List ByteArray)(r3:List (jm))(w:World)(ku:Kd.C YJ w cO aN.length aN)(kC:aN.length≤cZ)(kD:Kd.C Kd.string w dh aQ.length aQ)(kE:aQ.length≤dw)(jg:Kd.C k26 w bH aA.length aA)(jh:aA.length≤bg)(h:kY.f k aN aQ aA=some (r1,r2,r3)):
  Calls Tryz.prog 7 #[.agg #[.slice cO aN.length cZ, .slice dh aQ.length dw, .slice bH aA.length bg]] w fun e w'=>∃qZ IL Ko:Value,e= .returned (.agg #[qZ,IL,Ko])∧Kd.R lg 63 w' w.heap.size (fun _=>True) qZ r1∧Kd.R Kd.string 9 w' w.heap.size (fun _=>True) IL r2∧Kd.R k32 32 w' w.heap.size (fun k_=>some k_≠(qZ:Value).ownBlock∧some k_≠(IL:Value).ownBlock) Ko r3∧Below w.heap.size w w':=(kY.pair k).1 cO cZ aN dh dw aQ bH bg aA r1 r2 r3 w ku kC kD kE jg jh h
theorem kR.calls(k:Nat)(A0:Option Addr)(c0:Nat)(l0:List (FW))(r:List (jm))(w:World)(hr0:Kd.C k26 w A0 l0.length l0)(hc0:l0.length≤c0)(h:kR.f k l0=some r):
  Calls Tryz.prog 26 #[.slice A0 l0.length c0] w fun e w'=>∃qZ:Value,e= .returned (qZ)∧Kd.R k32 32 w' w.heap.size (fun _=>True) qZ r∧Below w.heap.size w w':=(kY.pair k).2 A0 c0 l0 r w hr0 hc0 h
def jL.l0:Nat→ByteArray→List Int→Int→Option (ByteArray×Int×Bool)
 |0,_,_,_=>none
 |k+1,x0,x5,x6=>if x6<(x0.size:Int)then(if 0≤x6 then(if(bt x0 x6)=34 then(some (strOfNums x5,wrap64 (x6+1),true))else(if(bt x0 x6)=92 then(if(wrap64 (x6+1))=(x0.size:Int)then(some ((⟨#[]⟩:ByteArray),0,false))else(if 0≤(wrap64 (x6+1))then(if(wrap64 (x6+1))<(x0.size:Int)then(if x5.length<140737488355328 then(jL.l0 k x0 (x5++[bt x0 (wrap64 (x6+1))]) (wrap64 ((wrap64 (x6+1))+1)))else(none))else(none))else(none)))else(if x5.length<140737488355328 then(jL.l0 k x0 (x5++[bt x0 x6]) (wrap64 (x6+1)))else(none))))else(none))else(some ((⟨#[]⟩:ByteArray),0,false))
def jL.f(k:Nat)(a0:ByteArray):Option (ByteArray×Int×Bool):=jL.l0 k a0 (([]:List Int)) 1
set_option maxHeartbeats 8000000 in
set_option maxRecDepth 100000 in
theorem jL.calls(k:Nat)(a0:ByteArray)(r1:ByteArray)(r2:Int)(r3:Bool)(w:World)(h:jL.f k a0=some (r1,r2,r3)):
  Calls Tryz.prog 130 #[.string a0] w fun e w'=>e= .returned (.tuple #[.string r1, .int .i64 r2, .bool r3])∧Below w.heap.size w w':=by
 have HB:=ak (Below.refl w.heap.size w);have H:(jL.l0 k a0 (([]:List Int)) 1)=some (r1,r2,r3):=h;clear h;obtain⟨aFl,akI⟩:=nm ([]:List Int);rw[←akI.out]at H
 (try rw[Option.bind_some]at H);have H':=ak H;clear H;go_enter func130,ntmps130;go_wp2_with (first|((with_reducible refine fZ (N:=7) rfl ?_);refine Es (Kd.int .u8) _ 5 ?hg (N:=7) ?hd (xs:=([]:List Int)) (inner:=[]) (ok:=fun _=>True) (rE:=fun _=>True) ?hr ?hp (fun _ hk=>hk) trivial (Below.refl _ _) (Nat.le_refl _) (by simp) ?_;(case hd=>rfl);(case hg=>rfl);(case hr=>first|(go_simp;done)|(go_simp;rfl));(case hp=>exact(jJ.none _ _));intro aJ5 w2 ho3 hb wI lD;clear wI lD;(first|rw[←akI.out]at ho3|(simp only[Int.reduceToNat]at ho3;rw[←akI.out]at ho3));have ax2:=ak (bP ho3 (aj (ul HB.out)));replace HB:=bs HB hb;clear hb ho3))
 go_loopg [5,6] k (fun kq v5 v6 w'=>∃(aJ:List Int) (gX:Int),v6= .int .i64 gX∧ah (jL.l0 kq a0 aJ gX=some (r1,r2,r3))∧ah (kq≤k)∧ah (Kd.R (Kd.int .u8) 5 w' w.heap.size (fun _=>True) v5 aJ)∧ah (Below w.heap.size w w'))
 case atStart=>exact⟨(aFl),(1),rs,H',⟨Nat.le_refl _⟩,⟨ur ax2.out⟩,⟨ul HB.out⟩⟩
 case round=>
  clear H';try clear c1
  try clear p2
  obtain⟨aJ,gX,rfl,HA,jv,vF,HB⟩:=hrel
  cases gk with
  |zero=>exact absurd HA.out (by simp[jL.l0])
  |succ k1=>
   have H:=HA.out;clear HA;simp only[jL.l0]at H;replace H:=sd H;rcases H with⟨oM,H⟩|⟨oM,H⟩
   ·replace H:=oW H;obtain⟨sH,H⟩:=H;replace H:=sq H;rcases H with⟨rU,NZ,H⟩|⟨c7,rU,NZ,H⟩
    ·simp only[Option.some.injEq,Prod.mk.injEq]at H;obtain⟨rfl,rfl,rfl⟩:=H;obtain⟨p6,q6,hx6⟩:=bx a0 gX;have aJ6:=EG (P:=Tryz.prog) underlying77 underlying5 underlying9 (EH vF.out);go_wp2;go_ret3;exact⟨er,ul HB.out⟩
    ·replace H:=sq H;rcases H with⟨rP,y8,H⟩|⟨c10,rP,y8,H⟩
     ·replace H:=sq H;rcases H with⟨CJ,Zp,H⟩|⟨c11,CJ,Zp,H⟩
      ·simp only[Option.some.injEq,Prod.mk.injEq]at H;obtain⟨rfl,rfl,rfl⟩:=H;obtain⟨p6,q6,hx6⟩:=bx a0 gX;obtain⟨p9,q9,hx9⟩:=bx a0 gX;go_wp2;go_ret3;exact⟨er,ul HB.out⟩
      ·obtain⟨YR,Zq⟩:∃j_:Int,(wrap64 (gX+1))=j_:=⟨_,rfl⟩
       replace H:(if 0≤(YR)then(if(YR)<(a0.size:Int)then(if aJ.length<140737488355328 then(jL.l0 k1 a0 (aJ++[bt a0 (YR)]) (wrap64 ((YR)+1)))else(none))else(none))else(none))=some (r1,r2,r3):=by first|(rw[Zq]at H;exact H)|(simp only[Zq]at H⊢;exact H)
       (try rw[Zq]at CJ)
       (try rw[Zq]at Zp);have aFm:(IntKind.i64.wrap (gX+1))=YR:=(bJ _).trans Zq;replace H:=oW H;obtain⟨xU,H⟩:=H;replace H:=oW H;obtain⟨Ap,H⟩:=H;replace H:=nl H;obtain⟨ax3,H⟩:=H;obtain⟨aFo,arL⟩:=nm (aJ++[bt a0 (YR)]);rw[←arL.out]at H
       (try rw[Option.bind_some]at H);have H':=ak H;clear H;obtain⟨p6,q6,hx6⟩:=bx a0 gX;obtain⟨p9,q9,hx9⟩:=bx a0 gX;obtain⟨p15,q15,aJ7⟩:=bx a0 (YR);go_wp2_with (first|((with_reducible refine dS (b:= .append) (xs:=#[.tmp 34, .tmp 38]) rfl ?_);at_builtin;refine mD (Kd.int .u8) (w0:=w) w.heap.size rfl (.tmp 34) (.tmp 38) 77 5 (.int .u8 0) 1 rfl underlying77 info5 rfl (by decide) (by omega) u5 aJ (bt a0 (YR)) [.int .u8 (bt a0 (YR))] (fun _=>True) (fun _=>False) rfl rfl ?aP (fun _ hk=>hk.elim) ?aF ?aO ?aB ?aS ?aL ?_;(case aP=>exact rfl);(case aB=>exact(ul HB.out));(case aF=>exact(fun _ _=>trivial));(case aO=>exact(ur vF.out));(case aS=>exact(aj (ul HB.out)));(case aL=>have:=ax3.out;omega);intro aJ8 w17 ho hb hg hat;rw[←arL.out]at ho;have ng:=ak (hb);have ni:=ak (ho);clear HB;clear vF;have HB:=ng;have ax4:=ni;clear ng ni;clear ho hb hg hat))
       go_roundg k1
       case measure=>have:=jv.out;omega
       case rel=>exact⟨(aFo),(wrap64 ((YR)+1)),(by first|rfl|(simp;done)|(simp only[←Zq]<;>(first|rfl|simp))|(simp[*];done)),H',⟨by have:=jv.out;omega⟩,⟨ur ax4.out⟩,⟨ul HB.out⟩⟩
     ·replace H:=nl H;obtain⟨akJ,H⟩:=H;obtain⟨aFp,arM⟩:=nm (aJ++[bt a0 gX]);rw[←arM.out]at H
      (try rw[Option.bind_some]at H);have H':=ak H;clear H;obtain⟨p6,q6,hx6⟩:=bx a0 gX;obtain⟨p9,q9,hx9⟩:=bx a0 gX;obtain⟨p18,q18,ax5⟩:=bx a0 gX;go_wp2_with (first|((with_reducible refine dS (b:= .append) (xs:=#[.tmp 34, .tmp 38]) rfl ?_);at_builtin;refine mD (Kd.int .u8) (w0:=w) w.heap.size rfl (.tmp 34) (.tmp 38) 77 5 (.int .u8 0) 1 rfl underlying77 info5 rfl (by decide) (by omega) u5 aJ (bt a0 gX) [.int .u8 (bt a0 gX)] (fun _=>True) (fun _=>False) rfl rfl ?aP (fun _ hk=>hk.elim) ?aF ?aO ?aB ?aS ?aL ?_;(case aP=>exact rfl);(case aB=>exact(ul HB.out));(case aF=>exact(fun _ _=>trivial));(case aO=>exact(ur vF.out));(case aS=>exact(aj (ul HB.out)));(case aL=>have:=akJ.out;omega);intro aJ9 w20 ho hb hg hat;rw[←arM.out]at ho;have ng:=ak (hb);have ni:=ak (ho);clear HB;clear vF;have HB:=ng;have ax6:=ni;clear ng ni;clear ho hb hg hat))
      go_roundg k1
      case measure=>have:=jv.out;omega
      case rel=>exact⟨(aFp),(wrap64 (gX+1)),rs,H',⟨by have:=jv.out;omega⟩,⟨ur ax6.out⟩,⟨ul HB.out⟩⟩
   ·simp only[Option.some.injEq,Prod.mk.injEq]at H;obtain⟨rfl,rfl,rfl⟩:=H;go_wp2;go_ret3;exact⟨er,ul HB.out⟩
def jX.l0:Nat→ByteArray→Int→Int→Option (Int)
 |0,_,_,_=>none
 |k+1,x0,x1,x5=>if x5<(x0.size:Int)then(if 0≤x5 then(if(bt x0 x5)=34 then(if x5≤(x0.size:Int)then((jL.f k (x0.extract (x5:Int).toNat x0.size)).bind fun arN=>(if arN.2.2=true then(jX.l0 k x0 x1 (wrap64 ((wrap64 (x5+(wrap64 (arN.2.1-1))))+1)))else(some (-1))))else(none))else(if(bt x0 x5)=x1 then(some x5)else(jX.l0 k x0 x1 (wrap64 (x5+1)))))else(none))else(some (-1))
def jX.f(k:Nat)(a0:ByteArray)(a1:Int):Option (Int):=jX.l0 k a0 a1 0
set_option maxHeartbeats 8000000 in
set_option maxRecDepth 100000 in
theorem jX.calls(k:Nat)(a0:ByteArray)(a1:Int)(r:Int)(w:World)(h:jX.f k a0 a1=some r):
  Calls Tryz.prog 129 #[.string a0, .int .u8 a1] w fun e w'=>e= .returned (.int .i64 r)∧Below w.heap.size w w':=by
 have HB:=ak (Below.refl w.heap.size w);have H:(jX.l0 k a0 a1 0)=some r:=h;clear h;have H':=ak H;clear H;go_enter func129,ntmps129;go_wp2;go_loopg [5] k (fun kq v5 w'=>∃(aJ:Int),v5= .int .i64 aJ∧ah (jX.l0 kq a0 a1 aJ=some r)∧ah (kq≤k)∧ah (Below w.heap.size w w'))
 case atStart=>exact⟨(0),rs,H',⟨Nat.le_refl _⟩,⟨ul HB.out⟩⟩
 case round=>
  clear H';try clear c1
  try clear p2
  obtain⟨aJ,rfl,HA,jv,HB⟩:=hrel
  cases gk with
  |zero=>exact absurd HA.out (by simp[jX.l0])
  |succ k1=>
   have H:=HA.out;clear HA;simp only[jX.l0]at H;replace H:=sd H;rcases H with⟨gQ,H⟩|⟨gQ,H⟩
   ·replace H:=oW H;obtain⟨oM,H⟩:=H;replace H:=sq H;rcases H with⟨oC,AB,H⟩|⟨c6,oC,AB,H⟩
    ·have rU:=eq_true (of_decide_eq_true (by assumption):0≤aJ);replace H:=I4 H;obtain⟨yY,U8,H⟩:=H;replace H:=bd H;obtain⟨⟨ax7,auL,aJ_⟩,A9,H⟩:=H
     (try dsimp only at H);replace H:=sb H;rcases H with⟨rfl,H⟩|⟨rfl,H⟩
     ·have H':=ak H;clear H;obtain⟨p5,q5,hx5⟩:=bx a0 aJ;go_wp2_with (first|(refine gL 130 24 func130 #[.string (a0.extract (aJ:Int).toNat a0.size)] ?_;(with_reducible refine(jL.calls k1 (a0.extract (aJ:Int).toNat a0.size) ax7 auL true _ A9.out).mono ?_);rintro e xk ⟨rfl,hb⟩;refine⟨_,rfl,?_⟩;replace HB:=bs HB hb;(try clear hb)))
      go_roundg k1
      case measure=>have:=jv.out;omega
      case rel=>exact⟨(wrap64 ((wrap64 (aJ+(wrap64 (auL-1))))+1)),rs,H',⟨by have:=jv.out;omega⟩,⟨ul HB.out⟩⟩
     ·obtain rfl:=Option.some.inj H;obtain⟨p5,q5,hx5⟩:=bx a0 aJ;go_wp2_with (first|(refine gL 130 24 func130 #[.string (a0.extract (aJ:Int).toNat a0.size)] ?_;(with_reducible refine(jL.calls k1 (a0.extract (aJ:Int).toNat a0.size) ax7 auL false _ A9.out).mono ?_);rintro e w12 ⟨rfl,hb⟩;refine⟨_,rfl,?_⟩;replace HB:=bs HB hb;(try clear hb)))
      go_ret;exact⟨er,ul HB.out⟩
    ·replace H:=sq H;rcases H with⟨xU,Gh,H⟩|⟨c13,xU,Gh,H⟩
     ·obtain rfl:=Option.some.inj H;obtain⟨p5,q5,hx5⟩:=bx a0 aJ;go_wp2;go_ret;exact⟨er,ul HB.out⟩
     ·have H':=ak H;clear H;obtain⟨p5,q5,hx5⟩:=bx a0 aJ;go_wp2;go_roundg k1
      case measure=>have:=jv.out;omega
      case rel=>exact⟨(wrap64 (aJ+1)),rs,H',⟨by have:=jv.out;omega⟩,⟨ul HB.out⟩⟩
   ·obtain rfl:=Option.some.inj H;go_wp2;go_ret;exact⟨er,ul HB.out⟩
def ig.l0:Nat→ByteArray→Int→List ByteArray→Option (List ByteArray)
 |0,_,_,_=>none
 |k+1,x0,x1,x5=>(jX.f k x0 x1).bind fun N7=>(if N7<0 then(if x5.length<8796093022208 then(some (x5++[x0]))else(none))else(if 0≤N7 then(if N7≤(x0.size:Int)then(if x5.length<8796093022208 then(if 0≤(wrap64 (N7+1))then(if(wrap64 (N7+1))≤(x0.size:Int)then(ig.l0 k (x0.extract ((wrap64 (N7+1)):Int).toNat x0.size) x1 (x5++[x0.extract 0 (N7:Int).toNat]))else(none))else(none))else(none))else(none))else(none)))
def ig.f(k:Nat)(a0:ByteArray)(a1:Int):Option (List ByteArray):=ig.l0 k a0 a1 (([]:List ByteArray))
set_option maxHeartbeats 8000000 in
set_option maxRecDepth 100000 in
theorem ig.calls(k:Nat)(a0:ByteArray)(a1:Int)(r:List ByteArray)(w:World)(h:ig.f k a0 a1=some r):
  Calls Tryz.prog 98 #[.string a0, .int .u8 a1] w fun e w'=>∃qZ:Value,e= .returned (qZ)∧Kd.R Kd.string 9 w' w.heap.size (fun _=>True) qZ r∧Below w.heap.size w w':=by
 have HB:=ak (Below.refl w.heap.size w);have H:(ig.l0 k a0 a1 (([]:List ByteArray)))=some r:=h;clear h;obtain⟨aFq,akK⟩:=nm ([]:List ByteArray);rw[←akK.out]at H
 (try rw[Option.bind_some]at H);have H':=ak H;clear H;go_enter func98,ntmps98;go_wp2_with (first|((with_reducible refine fZ (N:=7) rfl ?_);refine Es Kd.string _ 9 ?hg (N:=7) ?hd (xs:=([]:List ByteArray)) (inner:=[]) (ok:=fun _=>True) (rE:=fun _=>True) ?hr ?hp (fun _ hk=>hk) trivial (Below.refl _ _) (Nat.le_refl _) (by simp) ?_;(case hd=>rfl);(case hg=>rfl);(case hr=>first|(go_simp;done)|(go_simp;rfl));(case hp=>exact(jJ.none _ _));intro aKa w3 ho4 hb wI lD;clear wI lD;(first|rw[←akK.out]at ho4|(simp only[Int.reduceToNat]at ho4;rw[←akK.out]at ho4));have ax8:=ak (bP ho4 (aj (ul HB.out)));replace HB:=bs HB hb;clear hb ho4))
 go_loopg [0,5] k (fun kq v0 v5 w'=>∃(jE:ByteArray) (aJ:List ByteArray),v0= .string jE∧ah (ig.l0 kq jE a1 aJ=some r)∧ah (kq≤k)∧ah (Kd.R Kd.string 9 w' w.heap.size (fun _=>True) v5 aJ)∧ah (Below w.heap.size w w'))
 case atStart=>exact⟨(a0),(aFq),rs,H',⟨Nat.le_refl _⟩,⟨ur ax8.out⟩,⟨ul HB.out⟩⟩
 case round=>
  clear H';try clear p2
  obtain⟨jE,aJ,rfl,HA,jv,vF,HB⟩:=hrel
  cases gk with
  |zero=>exact absurd HA.out (by simp[ig.l0])
  |succ k1=>
   have H:=HA.out;clear HA;simp only[ig.l0]at H;replace H:=bd H;obtain⟨N7,A5,H⟩:=H;replace H:=sd H;rcases H with⟨oC,H⟩|⟨oC,H⟩
   ·replace H:=nl H;obtain⟨aFr,H⟩:=H;obtain⟨aKb,arO⟩:=nm (aJ++[jE]);rw[←arO.out]at H
    (try rw[Option.bind_some]at H);obtain rfl:=Option.some.inj H;go_wp2_with (first|(refine gL 129 10 func129 #[.string jE, .int .u8 a1] ?_;(with_reducible refine(jX.calls k1 jE a1 N7 _ A5.out).mono ?_);rintro e w8 ⟨rfl,hb⟩;refine⟨_,rfl,?_⟩;replace vF:=rb vF hb;replace HB:=bs HB hb;(try clear hb))|((with_reducible refine dS (b:= .append) (xs:=#[.tmp 13, .tmp 15]) rfl ?_);at_builtin;refine mD Kd.string (w0:=w) w.heap.size rfl (.tmp 13) (.tmp 15) 23 9 (.string ⟨#[]⟩) 16 rfl underlying23 info9 rfl (by decide) (by omega) u5 aJ jE [.string jE] (fun _=>True) (fun _=>False) rfl rfl ?aP (fun _ hk=>hk.elim) ?aF ?aO ?aB ?aS ?aL ?_;(case aP=>exact rfl);(case aB=>exact(ul HB.out));(case aF=>exact(fun _ _=>trivial));(case aO=>exact(ur vF.out));(case aS=>exact(aj (ul HB.out)));(case aL=>have:=aFr.out;omega);intro aKc w9 ho hb hg hat;rw[←arO.out]at ho;have ng:=ak (hb);have ni:=ak (ho);clear HB;clear vF;have HB:=ng;have ax9:=ni;clear ng ni;clear ho hb hg hat))
    go_ret;exact⟨_,er,ur ax9.out,ul HB.out⟩
   ·replace H:=I4 H;obtain⟨rP,y8,H⟩:=H;replace H:=I4 H;obtain⟨CJ,Zp,H⟩:=H;replace H:=nl H;obtain⟨ax_,H⟩:=H;obtain⟨aya,arP⟩:=nm (aJ++[jE.extract 0 (N7:Int).toNat]);rw[←arP.out]at H
    (try rw[Option.bind_some]at H);obtain⟨YS,NG⟩:∃j_:Int,(wrap64 (N7+1))=j_:=⟨_,rfl⟩
    replace H:(if 0≤(YS)then(if(YS)≤(jE.size:Int)then(ig.l0 k1 (jE.extract ((YS):Int).toNat jE.size) a1 aya)else(none))else(none))=some r:=by first|(rw[NG]at H;exact H)|(simp only[NG]at H⊢;exact H)
    (try rw[NG]at A5);have auM:(IntKind.i64.wrap (N7+1))=YS:=(bJ _).trans NG;replace H:=I4 H;obtain⟨Ap,JM,H⟩:=H;replace H:=I4 H;obtain⟨BN,Zr,H⟩:=H;have H':=ak H;clear H;try go_wp2_with (first|(refine gL 129 10 func129 #[.string jE, .int .u8 a1] ?_;(with_reducible refine(jX.calls k1 jE a1 N7 _ A5.out).mono ?_);rintro e w16 ⟨rfl,hb⟩;refine⟨_,rfl,?_⟩;replace vF:=rb vF hb;replace HB:=bs HB hb;(try clear hb)))
    replace vF:=ak (yB vF.out);replace HB:=ak (fO HB.out);refine ro [4,5] [0,1,2,3,6,7,8,9,4,5,10,11] (fun w'=>True) trivial ?_
    generalize w16.drew=w17 at vF HB⊢
    repeat(refine lk (v:=?_) (a':=?_) (gk.trans rfl) rfl rfl ?_ ?_ ?_;rotate_left;(focus (intro w' _;go_simp;with_reducible rfl));rotate_left;(focus (simp only[Act.put,jB,jC,l_c,bJ,b_];rfl)))
    refine ld (N:=some 21) (gk.trans rfl) rfl rfl (fun K hK=>?_);refine S9 (w1:=?_) (v:=?_) (by rfl) rfl ?_ ?_
    rotate_left 2
    ·go_simp;constructor
     ·rfl
     ·rfl
    refine hK.out _ _ trivial ?_;clear hK K;refine no (a':=?_) ?_ ?_
    rotate_left
    ·show Act.put _ (some 21) _=_
     simp only[Act.put,jB,jC,l_c,bJ,b_];rfl
    refine ld (N:=some 22) (gk.trans rfl) rfl rfl (fun K hK=>?_);refine vK Kd.string (w0:=w) w.heap.size (by rfl) (.tmp 17) (.tmp 21) 23 9 (.string ⟨#[]⟩) 16 rfl underlying23 info9 rfl (by decide) (by omega) u5 aJ (jE.extract 0 (N7:Int).toNat) [.string (jE.extract 0 (N7:Int).toNat)] (fun _=>True) (fun _=>False) rfl rfl ?aP (fun _ hk=>hk.elim) ?aF ?aO ?aB ?aS ?aL ?_
    (case aP=>exact rfl)
    (case aB=>exact(ul HB.out))
    (case aF=>exact(fun _ _=>trivial))
    (case aO=>exact(ur vF.out))
    (case aS=>exact(aj (ul HB.out)))
    (case aL=>have:=ax_.out;omega);intro aKd w18 ho hb hg hat
    rw[←arP.out]at ho;have ng:=ak (hb);have ni:=ak (ho);clear HB vF;have HB:=ng;have ayb:=ni;clear ng ni ho hb hg hat
    refine hK.out _ _ trivial ?_;clear hK K;refine no (a':=?_) ?_ ?_
    rotate_left
    ·show Act.put _ (some 22) _=_
     simp only[Act.put,jB,jC,l_c,bJ,b_];rfl
    repeat(refine lk (v:=?_) (a':=?_) (gk.trans rfl) rfl rfl ?_ ?_ ?_;rotate_left;(focus (intro w' _;go_simp;with_reducible rfl));rotate_left;(focus (simp only[Act.put,jB,jC,l_c,bJ,b_];rfl)))
    refine on ?_;try go_wp2
    go_roundg k1
    case measure=>have:=jv.out;omega
    case rel=>exact⟨(jE.extract ((YS):Int).toNat jE.size),(aya),(by first|rfl|(simp;done)|(simp only[←NG]<;>(first|rfl|simp))|(simp[*];done)),H',⟨by have:=jv.out;omega⟩,⟨ur ayb.out⟩,⟨ul HB.out⟩⟩
def bT.f(a0:Int):Option (Bool):=if a0≥97 then(if a0≤122 then(some true)else(if a0≥65 then(some (decide (a0≤90)))else(some false)))else(if a0≥65 then(some (decide (a0≤90)))else(some false))
set_option maxHeartbeats 8000000 in
set_option maxRecDepth 100000 in
theorem bT.calls(a0:Int)(r:Bool)(w:World)(h:bT.f a0=some r):
  Calls Tryz.prog 104 #[.int .u8 a0] w fun e w'=>e= .returned (.bool r)∧fK w w':=by
 have H:(if a0≥97 then(if a0≤122 then(some true)else(if a0≥65 then(some (decide (a0≤90)))else(some false)))else(if a0≥65 then(some (decide (a0≤90)))else(some false)))=some r:=h;clear h;replace H:=sp H;rcases H with⟨c2,H⟩|⟨c2,H⟩
 ·have vw:decide (97≤a0)=true:=decide_eq_true c2;clear c2;replace H:=sd H;rcases H with⟨gQ,H⟩|⟨gQ,H⟩
  ·obtain rfl:=Option.some.inj H;go_enter func104,ntmps104;go_wp2;go_ret;exact⟨rs,dn⟩
  ·replace H:=sp H;rcases H with⟨c4,H⟩|⟨c4,H⟩
   ·have oM:decide (65≤a0)=true:=decide_eq_true c4;clear c4;obtain rfl:=Option.some.inj H;go_enter func104,ntmps104;go_wp2;go_ret;exact⟨rs,dn⟩
   ·have oM:decide (65≤a0)=false:=decide_eq_false c4;clear c4;obtain rfl:=Option.some.inj H;go_enter func104,ntmps104;go_wp2;go_ret;exact⟨rs,dn⟩
 ·have vw:decide (97≤a0)=false:=decide_eq_false c2;clear c2;replace H:=sp H;rcases H with⟨c5,H⟩|⟨c5,H⟩
  ·have sH:decide (65≤a0)=true:=decide_eq_true c5;clear c5;obtain rfl:=Option.some.inj H;go_enter func104,ntmps104;go_wp2;go_ret;exact⟨rs,dn⟩
  ·have sH:decide (65≤a0)=false:=decide_eq_false c5;clear c5;obtain rfl:=Option.some.inj H;go_enter func104,ntmps104;go_wp2;go_ret;exact⟨rs,dn⟩
def dZ.f(a0:Int):Option (Bool):=if a0≥48 then(some (decide (a0≤57)))else(some false)
set_option maxHeartbeats 8000000 in
set_option maxRecDepth 100000 in
theorem dZ.calls(a0:Int)(r:Bool)(w:World)(h:dZ.f a0=some r):
  Calls Tryz.prog 105 #[.int .u8 a0] w fun e w'=>e= .returned (.bool r)∧fK w w':=by
 have H:(if a0≥48 then(some (decide (a0≤57)))else(some false))=some r:=h;clear h;replace H:=sp H;rcases H with⟨c2,H⟩|⟨c2,H⟩
 ·have vw:decide (48≤a0)=true:=decide_eq_true c2;clear c2;obtain rfl:=Option.some.inj H;go_enter func105,ntmps105;go_wp2;go_ret;exact⟨rs,dn⟩
 ·have vw:decide (48≤a0)=false:=decide_eq_false c2;clear c2;obtain rfl:=Option.some.inj H;go_enter func105,ntmps105;go_wp2;go_ret;exact⟨rs,dn⟩
def mW.f(a0:Int):Option (Bool):=(bT.f a0).bind fun aov=>(if aov=true then(some true)else((dZ.f a0).bind fun aow=>(if aow=true then(some true)else(if a0=33 then(some true)else(if a0≥35 then(if a0≤39 then(some true)else(if a0=42 then(some true)else(if a0=43 then(some true)else(if a0=45 then(some true)else(if a0=47 then(some true)else(if a0=61 then(some true)else(if a0=63 then(some true)else(if a0≥94 then(if a0≤96 then(some true)else(if a0≥123 then(some (decide (a0≤126)))else(some false)))else(if a0≥123 then(some (decide (a0≤126)))else(some false))))))))))else(if a0=42 then(some true)else(if a0=43 then(some true)else(if a0=45 then(some true)else(if a0=47 then(some true)else(if a0=61 then(some true)else(if a0=63 then(some true)else(if a0≥94 then(if a0≤96 then(some true)else(if a0≥123 then(some (decide (a0≤126)))else(some false)))else(if a0≥123 then(some (decide (a0≤126)))else(some false))))))))))))))
set_option maxHeartbeats 8000000 in
set_option maxRecDepth 100000 in
theorem mW.calls(a0:Int)(r:Bool)(w:World)(h:mW.f a0=some r):
  Calls Tryz.prog 131 #[.int .u8 a0] w fun e w'=>e= .returned (.bool r)∧fK w w':=by
 have H:((bT.f a0).bind fun aov=>(if aov=true then(some true)else((dZ.f a0).bind fun aow=>(if aow=true then(some true)else(if a0=33 then(some true)else(if a0≥35 then(if a0≤39 then(some true)else(if a0=42 then(some true)else(if a0=43 then(some true)else(if a0=45 then(some true)else(if a0=47 then(some true)else(if a0=61 then(some true)else(if a0=63 then(some true)else(if a0≥94 then(if a0≤96 then(some true)else(if a0≥123 then(some (decide (a0≤126)))else(some false)))else(if a0≥123 then(some (decide (a0≤126)))else(some false))))))))))else(if a0=42 then(some true)else(if a0=43 then(some true)else(if a0=45 then(some true)else(if a0=47 then(some true)else(if a0=61 then(some true)else(if a0=63 then(some true)else(if a0≥94 then(if a0≤96 then(some true)else(if a0≥123 then(some (decide (a0≤126)))else(some false)))else(if a0≥123 then(some (decide (a0≤126)))else(some false)))))))))))))))=some r:=h;clear h;replace H:=bd H;obtain⟨aov,A2,H⟩:=H;replace H:=sb H;rcases H with⟨rfl,H⟩|⟨rfl,H⟩
 ·obtain rfl:=Option.some.inj H;go_enter func131,ntmps131;go_wp2_with (first|(refine gL 104 4 func104 #[.int .u8 a0] ?_;(with_reducible refine(bT.calls a0 true _ A2.out).mono ?_);rintro e w' ⟨rfl,⟨nd,rfl⟩⟩;refine⟨_,rfl,?_⟩))
  go_ret;exact⟨rs,dn⟩
 ·replace H:=bd H;obtain⟨aow,A4,H⟩:=H;replace H:=sb H;rcases H with⟨rfl,H⟩|⟨rfl,H⟩
  ·obtain rfl:=Option.some.inj H;go_enter func131,ntmps131;go_wp2_with (first|(refine gL 104 4 func104 #[.int .u8 a0] ?_;(with_reducible refine(bT.calls a0 false _ A2.out).mono ?_);rintro e w' ⟨rfl,⟨nd,rfl⟩⟩;refine⟨_,rfl,?_⟩)|(go_at_call 105;(with_reducible refine(dZ.calls a0 true _ A4.out).mono ?_);rintro e w' ⟨rfl,⟨nd,rfl⟩⟩))
   go_ret;exact⟨rs,dn⟩
  ·replace H:=sq H;rcases H with⟨oC,AB,H⟩|⟨c6,oC,AB,H⟩
   ·obtain rfl:=Option.some.inj H;go_enter func131,ntmps131;go_wp2_with (first|(refine gL 104 4 func104 #[.int .u8 a0] ?_;(with_reducible refine(bT.calls a0 false _ A2.out).mono ?_);rintro e w' ⟨rfl,⟨nd,rfl⟩⟩;refine⟨_,rfl,?_⟩)|(go_at_call 105;(with_reducible refine(dZ.calls a0 false _ A4.out).mono ?_);rintro e w' ⟨rfl,⟨nd,rfl⟩⟩))
    go_ret;exact⟨rs,dn⟩
   ·replace H:=sp H;rcases H with⟨c7,H⟩|⟨c7,H⟩
    ·have rU:decide (35≤a0)=true:=decide_eq_true c7;clear c7;replace H:=sd H;rcases H with⟨yY,H⟩|⟨yY,H⟩
     ·obtain rfl:=Option.some.inj H;go_enter func131,ntmps131;go_wp2_with (first|(refine gL 104 4 func104 #[.int .u8 a0] ?_;(with_reducible refine(bT.calls a0 false _ A2.out).mono ?_);rintro e w' ⟨rfl,⟨nd,rfl⟩⟩;refine⟨_,rfl,?_⟩)|(go_at_call 105;(with_reducible refine(dZ.calls a0 false _ A4.out).mono ?_);rintro e w' ⟨rfl,⟨nd,rfl⟩⟩))
      go_ret;exact⟨rs,dn⟩
     ·replace H:=sq H;rcases H with⟨y5,S_,H⟩|⟨c9,y5,S_,H⟩
      ·obtain rfl:=Option.some.inj H;go_enter func131,ntmps131;go_wp2_with (first|(refine gL 104 4 func104 #[.int .u8 a0] ?_;(with_reducible refine(bT.calls a0 false _ A2.out).mono ?_);rintro e w' ⟨rfl,⟨nd,rfl⟩⟩;refine⟨_,rfl,?_⟩)|(go_at_call 105;(with_reducible refine(dZ.calls a0 false _ A4.out).mono ?_);rintro e w' ⟨rfl,⟨nd,rfl⟩⟩))
       go_ret;exact⟨rs,dn⟩
      ·replace H:=sq H;rcases H with⟨rP,y8,H⟩|⟨c10,rP,y8,H⟩
       ·obtain rfl:=Option.some.inj H;go_enter func131,ntmps131;go_wp2_with (first|(refine gL 104 4 func104 #[.int .u8 a0] ?_;(with_reducible refine(bT.calls a0 false _ A2.out).mono ?_);rintro e w' ⟨rfl,⟨nd,rfl⟩⟩;refine⟨_,rfl,?_⟩)|(go_at_call 105;(with_reducible refine(dZ.calls a0 false _ A4.out).mono ?_);rintro e w' ⟨rfl,⟨nd,rfl⟩⟩))
        go_ret;exact⟨rs,dn⟩
       ·replace H:=sq H;rcases H with⟨CJ,Zp,H⟩|⟨c11,CJ,Zp,H⟩
        ·obtain rfl:=Option.some.inj H;go_enter func131,ntmps131;go_wp2_with (first|(refine gL 104 4 func104 #[.int .u8 a0] ?_;(with_reducible refine(bT.calls a0 false _ A2.out).mono ?_);rintro e w' ⟨rfl,⟨nd,rfl⟩⟩;refine⟨_,rfl,?_⟩)|(go_at_call 105;(with_reducible refine(dZ.calls a0 false _ A4.out).mono ?_);rintro e w' ⟨rfl,⟨nd,rfl⟩⟩))
         go_ret;exact⟨rs,dn⟩
        ·replace H:=sq H;rcases H with⟨yL,Ky,H⟩|⟨c12,yL,Ky,H⟩
         ·obtain rfl:=Option.some.inj H;go_enter func131,ntmps131;go_wp2_with (first|(refine gL 104 4 func104 #[.int .u8 a0] ?_;(with_reducible refine(bT.calls a0 false _ A2.out).mono ?_);rintro e w' ⟨rfl,⟨nd,rfl⟩⟩;refine⟨_,rfl,?_⟩)|(go_at_call 105;(with_reducible refine(dZ.calls a0 false _ A4.out).mono ?_);rintro e w' ⟨rfl,⟨nd,rfl⟩⟩))
          go_ret;exact⟨rs,dn⟩
         ·replace H:=sq H;rcases H with⟨xU,Gh,H⟩|⟨c13,xU,Gh,H⟩
          ·obtain rfl:=Option.some.inj H;go_enter func131,ntmps131;go_wp2_with (first|(refine gL 104 4 func104 #[.int .u8 a0] ?_;(with_reducible refine(bT.calls a0 false _ A2.out).mono ?_);rintro e w' ⟨rfl,⟨nd,rfl⟩⟩;refine⟨_,rfl,?_⟩)|(go_at_call 105;(with_reducible refine(dZ.calls a0 false _ A4.out).mono ?_);rintro e w' ⟨rfl,⟨nd,rfl⟩⟩))
           go_ret;exact⟨rs,dn⟩
          ·replace H:=sq H;rcases H with⟨Ap,JM,H⟩|⟨c14,Ap,JM,H⟩
           ·obtain rfl:=Option.some.inj H;go_enter func131,ntmps131;go_wp2_with (first|(refine gL 104 4 func104 #[.int .u8 a0] ?_;(with_reducible refine(bT.calls a0 false _ A2.out).mono ?_);rintro e w' ⟨rfl,⟨nd,rfl⟩⟩;refine⟨_,rfl,?_⟩)|(go_at_call 105;(with_reducible refine(dZ.calls a0 false _ A4.out).mono ?_);rintro e w' ⟨rfl,⟨nd,rfl⟩⟩))
            go_ret;exact⟨rs,dn⟩
           ·replace H:=sp H;rcases H with⟨c15,H⟩|⟨c15,H⟩
            ·have BN:decide (94≤a0)=true:=decide_eq_true c15;clear c15;replace H:=sd H;rcases H with⟨EI,H⟩|⟨EI,H⟩
             ·obtain rfl:=Option.some.inj H;go_enter func131,ntmps131;go_wp2_with (first|(refine gL 104 4 func104 #[.int .u8 a0] ?_;(with_reducible refine(bT.calls a0 false _ A2.out).mono ?_);rintro e w' ⟨rfl,⟨nd,rfl⟩⟩;refine⟨_,rfl,?_⟩)|(go_at_call 105;(with_reducible refine(dZ.calls a0 false _ A4.out).mono ?_);rintro e w' ⟨rfl,⟨nd,rfl⟩⟩))
              go_ret;exact⟨rs,dn⟩
             ·replace H:=sp H;rcases H with⟨c17,H⟩|⟨c17,H⟩
              ·have yM:decide (123≤a0)=true:=decide_eq_true c17;clear c17;obtain rfl:=Option.some.inj H;go_enter func131,ntmps131;go_wp2_with (first|(refine gL 104 4 func104 #[.int .u8 a0] ?_;(with_reducible refine(bT.calls a0 false _ A2.out).mono ?_);rintro e w' ⟨rfl,⟨nd,rfl⟩⟩;refine⟨_,rfl,?_⟩)|(go_at_call 105;(with_reducible refine(dZ.calls a0 false _ A4.out).mono ?_);rintro e w' ⟨rfl,⟨nd,rfl⟩⟩))
               go_ret;exact⟨rs,dn⟩
              ·have yM:decide (123≤a0)=false:=decide_eq_false c17;clear c17;obtain rfl:=Option.some.inj H;go_enter func131,ntmps131;go_wp2_with (first|(refine gL 104 4 func104 #[.int .u8 a0] ?_;(with_reducible refine(bT.calls a0 false _ A2.out).mono ?_);rintro e w' ⟨rfl,⟨nd,rfl⟩⟩;refine⟨_,rfl,?_⟩)|(go_at_call 105;(with_reducible refine(dZ.calls a0 false _ A4.out).mono ?_);rintro e w' ⟨rfl,⟨nd,rfl⟩⟩))
               go_ret;exact⟨rs,dn⟩
            ·have BN:decide (94≤a0)=false:=decide_eq_false c15;clear c15;replace H:=sp H;rcases H with⟨c18,H⟩|⟨c18,H⟩
             ·have H7:decide (123≤a0)=true:=decide_eq_true c18;clear c18;obtain rfl:=Option.some.inj H;go_enter func131,ntmps131;go_wp2_with (first|(refine gL 104 4 func104 #[.int .u8 a0] ?_;(with_reducible refine(bT.calls a0 false _ A2.out).mono ?_);rintro e w' ⟨rfl,⟨nd,rfl⟩⟩;refine⟨_,rfl,?_⟩)|(go_at_call 105;(with_reducible refine(dZ.calls a0 false _ A4.out).mono ?_);rintro e w' ⟨rfl,⟨nd,rfl⟩⟩))
              go_ret;exact⟨rs,dn⟩
             ·have H7:decide (123≤a0)=false:=decide_eq_false c18;clear c18;obtain rfl:=Option.some.inj H;go_enter func131,ntmps131;go_wp2_with (first|(refine gL 104 4 func104 #[.int .u8 a0] ?_;(with_reducible refine(bT.calls a0 false _ A2.out).mono ?_);rintro e w' ⟨rfl,⟨nd,rfl⟩⟩;refine⟨_,rfl,?_⟩)|(go_at_call 105;(with_reducible refine(dZ.calls a0 false _ A4.out).mono ?_);rintro e w' ⟨rfl,⟨nd,rfl⟩⟩))
              go_ret;exact⟨rs,dn⟩
    ·have rU:decide (35≤a0)=false:=decide_eq_false c7;clear c7;replace H:=sq H;rcases H with⟨Kz,Pz,H⟩|⟨c19,Kz,Pz,H⟩
     ·obtain rfl:=Option.some.inj H;go_enter func131,ntmps131;go_wp2_with (first|(refine gL 104 4 func104 #[.int .u8 a0] ?_;(with_reducible refine(bT.calls a0 false _ A2.out).mono ?_);rintro e w' ⟨rfl,⟨nd,rfl⟩⟩;refine⟨_,rfl,?_⟩)|(go_at_call 105;(with_reducible refine(dZ.calls a0 false _ A4.out).mono ?_);rintro e w' ⟨rfl,⟨nd,rfl⟩⟩))
      go_ret;exact⟨rs,dn⟩
     ·replace H:=sq H;rcases H with⟨acM,ags,H⟩|⟨c20,acM,ags,H⟩
      ·obtain rfl:=Option.some.inj H;go_enter func131,ntmps131;go_wp2_with (first|(refine gL 104 4 func104 #[.int .u8 a0] ?_;(with_reducible refine(bT.calls a0 false _ A2.out).mono ?_);rintro e w' ⟨rfl,⟨nd,rfl⟩⟩;refine⟨_,rfl,?_⟩)|(go_at_call 105;(with_reducible refine(dZ.calls a0 false _ A4.out).mono ?_);rintro e w' ⟨rfl,⟨nd,rfl⟩⟩))
       go_ret;exact⟨rs,dn⟩
      ·replace H:=sq H;rcases H with⟨CO,arQ,H⟩|⟨c21,CO,arQ,H⟩
       ·obtain rfl:=Option.some.inj H;go_enter func131,ntmps131;go_wp2_with (first|(refine gL 104 4 func104 #[.int .u8 a0] ?_;(with_reducible refine(bT.calls a0 false _ A2.out).mono ?_);rintro e w' ⟨rfl,⟨nd,rfl⟩⟩;refine⟨_,rfl,?_⟩)|(go_at_call 105;(with_reducible refine(dZ.calls a0 false _ A4.out).mono ?_);rintro e w' ⟨rfl,⟨nd,rfl⟩⟩))
        go_ret;exact⟨rs,dn⟩
       ·replace H:=sq H;rcases H with⟨JO,arR,H⟩|⟨c22,JO,arR,H⟩
        ·obtain rfl:=Option.some.inj H;go_enter func131,ntmps131;go_wp2_with (first|(refine gL 104 4 func104 #[.int .u8 a0] ?_;(with_reducible refine(bT.calls a0 false _ A2.out).mono ?_);rintro e w' ⟨rfl,⟨nd,rfl⟩⟩;refine⟨_,rfl,?_⟩)|(go_at_call 105;(with_reducible refine(dZ.calls a0 false _ A4.out).mono ?_);rintro e w' ⟨rfl,⟨nd,rfl⟩⟩))
         go_ret;exact⟨rs,dn⟩
        ·replace H:=sq H;rcases H with⟨JQ,agt,H⟩|⟨c23,JQ,agt,H⟩
         ·obtain rfl:=Option.some.inj H;go_enter func131,ntmps131;go_wp2_with (first|(refine gL 104 4 func104 #[.int .u8 a0] ?_;(with_reducible refine(bT.calls a0 false _ A2.out).mono ?_);rintro e w' ⟨rfl,⟨nd,rfl⟩⟩;refine⟨_,rfl,?_⟩)|(go_at_call 105;(with_reducible refine(dZ.calls a0 false _ A4.out).mono ?_);rintro e w' ⟨rfl,⟨nd,rfl⟩⟩))
          go_ret;exact⟨rs,dn⟩
         ·replace H:=sq H;rcases H with⟨Zt,arS,H⟩|⟨c24,Zt,arS,H⟩
          ·obtain rfl:=Option.some.inj H;go_enter func131,ntmps131;go_wp2_with (first|(refine gL 104 4 func104 #[.int .u8 a0] ?_;(with_reducible refine(bT.calls a0 false _ A2.out).mono ?_);rintro e w' ⟨rfl,⟨nd,rfl⟩⟩;refine⟨_,rfl,?_⟩)|(go_at_call 105;(with_reducible refine(dZ.calls a0 false _ A4.out).mono ?_);rintro e w' ⟨rfl,⟨nd,rfl⟩⟩))
           go_ret;exact⟨rs,dn⟩
          ·replace H:=sp H;rcases H with⟨c25,H⟩|⟨c25,H⟩
           ·have acN:decide (94≤a0)=true:=decide_eq_true c25;clear c25;replace H:=sd H;rcases H with⟨WU,H⟩|⟨WU,H⟩
            ·obtain rfl:=Option.some.inj H;go_enter func131,ntmps131;go_wp2_with (first|(refine gL 104 4 func104 #[.int .u8 a0] ?_;(with_reducible refine(bT.calls a0 false _ A2.out).mono ?_);rintro e w' ⟨rfl,⟨nd,rfl⟩⟩;refine⟨_,rfl,?_⟩)|(go_at_call 105;(with_reducible refine(dZ.calls a0 false _ A4.out).mono ?_);rintro e w' ⟨rfl,⟨nd,rfl⟩⟩))
             go_ret;exact⟨rs,dn⟩
            ·replace H:=sp H;rcases H with⟨c27,H⟩|⟨c27,H⟩
             ·have PD:decide (123≤a0)=true:=decide_eq_true c27;clear c27;obtain rfl:=Option.some.inj H;go_enter func131,ntmps131;go_wp2_with (first|(refine gL 104 4 func104 #[.int .u8 a0] ?_;(with_reducible refine(bT.calls a0 false _ A2.out).mono ?_);rintro e w' ⟨rfl,⟨nd,rfl⟩⟩;refine⟨_,rfl,?_⟩)|(go_at_call 105;(with_reducible refine(dZ.calls a0 false _ A4.out).mono ?_);rintro e w' ⟨rfl,⟨nd,rfl⟩⟩))
              go_ret;exact⟨rs,dn⟩
             ·have PD:decide (123≤a0)=false:=decide_eq_false c27;clear c27;obtain rfl:=Option.some.inj H;go_enter func131,ntmps131;go_wp2_with (first|(refine gL 104 4 func104 #[.int .u8 a0] ?_;(with_reducible refine(bT.calls a0 false _ A2.out).mono ?_);rintro e w' ⟨rfl,⟨nd,rfl⟩⟩;refine⟨_,rfl,?_⟩)|(go_at_call 105;(with_reducible refine(dZ.calls a0 false _ A4.out).mono ?_);rintro e w' ⟨rfl,⟨nd,rfl⟩⟩))
              go_ret;exact⟨rs,dn⟩
           ·have acN:decide (94≤a0)=false:=decide_eq_false c25;clear c25;replace H:=sp H;rcases H with⟨c28,H⟩|⟨c28,H⟩
            ·have NH:decide (123≤a0)=true:=decide_eq_true c28;clear c28;obtain rfl:=Option.some.inj H;go_enter func131,ntmps131;go_wp2_with (first|(refine gL 104 4 func104 #[.int .u8 a0] ?_;(with_reducible refine(bT.calls a0 false _ A2.out).mono ?_);rintro e w' ⟨rfl,⟨nd,rfl⟩⟩;refine⟨_,rfl,?_⟩)|(go_at_call 105;(with_reducible refine(dZ.calls a0 false _ A4.out).mono ?_);rintro e w' ⟨rfl,⟨nd,rfl⟩⟩))
             go_ret;exact⟨rs,dn⟩
            ·have NH:decide (123≤a0)=false:=decide_eq_false c28;clear c28;obtain rfl:=Option.some.inj H;go_enter func131,ntmps131;go_wp2_with (first|(refine gL 104 4 func104 #[.int .u8 a0] ?_;(with_reducible refine(bT.calls a0 false _ A2.out).mono ?_);rintro e w' ⟨rfl,⟨nd,rfl⟩⟩;refine⟨_,rfl,?_⟩)|(go_at_call 105;(with_reducible refine(dZ.calls a0 false _ A4.out).mono ?_);rintro e w' ⟨rfl,⟨nd,rfl⟩⟩))
             go_ret;exact⟨rs,dn⟩
mutual
def eG.l0:Nat→ByteArray→List ByteArray→Int→Bool→Option (List ByteArray×Bool)
 |0,_,_,_,_=>none
 |k+1,x0,x4,x5,x6=>if x5<(x0.size:Int)then(if 0≤x5 then(if(bt x0 x5)=32 then(eG.l0 k x0 x4 (wrap64 (x5+1)) true)else(if x6=true then(if(bt x0 x5)=34 then(if x5≤(x0.size:Int)then((jL.f k (x0.extract (x5:Int).toNat x0.size)).bind fun akL=>(if akL.2.2=true then(if x4.length<8796093022208 then(eG.l0 k x0 (x4++[akL.1]) (wrap64 (x5+akL.2.1)) false)else(none))else(some (([]:List ByteArray),false))))else(none))else(eG.l1 k x0 x4 x5 x5))else(some (([]:List ByteArray),false))))else(none))else(some (x4,true))
def eG.l1:Nat→ByteArray→List ByteArray→Int→Int→Option (List ByteArray×Bool)
 |0,_,_,_,_=>none
 |k+1,x0,x4,x5,x10=>if x10<(x0.size:Int)then(if 0≤x10 then((mW.f (bt x0 x10)).bind fun ayc=>(if ayc=true then(eG.l1 k x0 x4 x5 (wrap64 (x10+1)))else(if x10=x5 then(some (([]:List ByteArray),false))else(if 0≤x5 then(if x5≤x10 then(if x10≤(x0.size:Int)then(if x4.length<8796093022208 then(eG.l0 k x0 (x4++[x0.extract (x5:Int).toNat (x10:Int).toNat]) x10 false)else(none))else(none))else(none))else(none)))))else(none))else(if x10=x5 then(some (([]:List ByteArray),false))else(if 0≤x5 then(if x5≤x10 then(if x10≤(x0.size:Int)then(if x4.length<8796093022208 then(eG.l0 k x0 (x4++[x0.extract (x5:Int).toNat (x10:Int).toNat]) x10 false)else(none))else(none))else(none))else(none)))
end
def eG.f(k:Nat)(a0:ByteArray):Option (List ByteArray×Bool):=(bC.f k a0).bind fun aox=>(if aox=true then(eG.l0 k a0 (([]:List ByteArray)) 0 true)else(some (([]:List ByteArray),false)))
theorem eG.calls(k:Nat)(a0:ByteArray)(r1:List ByteArray)(r2:Bool)(w:World)(h:eG.f k a0=some (r1,r2)):
  Calls Tryz.prog 100 #[.string a0] w fun e w'=>∃qZ:Value,e= .returned (.tuple #[qZ, .bool r2])∧Kd.R Kd.string 9 w' w.heap.size (fun _=>True) qZ r1∧Below w.heap.size w w':=by
 have HB:=ak (Below.refl w.heap.size w);have H:((bC.f k a0).bind fun aox=>(if aox=true then(eG.l0 k a0 (([]:List ByteArray)) 0 true)else(some (([]:List ByteArray),false))))=some (r1,r2):=h;clear h;replace H:=bd H;obtain⟨aox,A2,H⟩:=H;replace H:=sb H;rcases H with⟨rfl,H⟩|⟨rfl,H⟩
 ·obtain⟨aKe,arT⟩:=nm ([]:List ByteArray);rw[←arT.out]at H;have H':=ak H;clear H;go_enter func100,ntmps100;go_wp2_with (first|(refine gA func75 (bC.calls k a0 true _ A2.out) ?_;intro nd)|(refine lRN 14 Kd.string 9 arT ?_;intro aKf w4 Kv hb;have ayd:=ak (bP Kv (aj (ul HB.out)));replace HB:=bs HB hb;clear hb Kv))
  go_loopg [4,5,6] k (fun kq v4 v5 v6 w'=>∃(eF:List ByteArray) (aJ:Int) (gX:Bool),v5= .int .i64 aJ∧v6= .bool gX∧ah (eG.l0 kq a0 eF aJ gX=some (r1,r2))∧ah (kq≤k)∧ah (Kd.R Kd.string 9 w' w.heap.size (fun _=>True) v4 eF)∧ah (Below w.heap.size w w'))
  case atStart=>exact⟨_,_,_,rs,rs,H',⟨Nat.le_refl _⟩,⟨ur ayd.out⟩,⟨ul HB.out⟩⟩
  case round=>
   clear H';obtain⟨eF,aJ,gX,rfl,rfl,HA,jv,oh,HB⟩:=hrel
   cases gk with
   |zero=>exact zz HA.out
   |succ k1=>
    obtain⟨H⟩:=HA;simp only[eG.l0]at H;replace H:=sd H;rcases H with⟨oC,H⟩|⟨oC,H⟩
    ·replace H:=oW H;obtain⟨rU,H⟩:=H;replace H:=sq H;rcases H with⟨y5,S_,H⟩|⟨c9,y5,S_,H⟩
     ·have H':=ak H;clear H;obtain⟨p8,q8,hx8⟩:=bx a0 aJ;go_wp2;go_roundg k1
      case measure=>exact kl
      case rel=>exact⟨_,_,_,rs,rs,H',⟨kl⟩,⟨ur oh.out⟩,⟨ul HB.out⟩⟩
     ·replace H:=sb H;rcases H with⟨rfl,H⟩|⟨rfl,H⟩
      ·replace H:=sq H;rcases H with⟨yL,Ky,H⟩|⟨c12,yL,Ky,H⟩
       ·have xU:=eq_true (of_decide_eq_true (by assumption):0≤aJ);replace H:=I4 H;obtain⟨Ap,JM,H⟩:=H;replace H:=bd H;obtain⟨⟨auN,aye,aKg⟩,A15,H⟩:=H
        (try dsimp only at H);replace H:=sb H;rcases H with⟨rfl,H⟩|⟨rfl,H⟩
        ·replace H:=nl H;obtain⟨akM,H⟩:=H;obtain⟨aKh,arU⟩:=nm (eF++[auN]);rw[←arU.out]at H;have H':=ak H;clear H;obtain⟨p8,q8,hx8⟩:=bx a0 aJ;obtain⟨p11,q11,acO⟩:=bx a0 aJ;go_wp2_with (first|(refine gB func130 (jL.calls k1 (a0.extract (aJ:Int).toNat a0.size) auN aye true _ A15.out) ?_;intro w18 hb;replace oh:=rb oh hb;replace HB:=bs HB hb;clear hb)|(at_builtin;refine aP 68 70 Kd.string 23 9 (.string ⟨#[]⟩) 16 underlying23 info9 HB (ur oh.out) arU (by have:=akM.out;omega) ?_;intro aKi w19 ho hb hg hat;have ayf:=ak (ho);replace HB:=ak (hb);clear ho hb hg hat oh))
         go_roundg k1
         case measure=>exact kl
         case rel=>exact⟨_,_,_,rs,rs,H',⟨kl⟩,⟨ur ayf.out⟩,⟨ul HB.out⟩⟩
        ·obtain⟨rfl,rfl⟩:=s2 H;obtain⟨p8,q8,hx8⟩:=bx a0 aJ;obtain⟨p11,q11,acO⟩:=bx a0 aJ;go_wp2_with (refine gB func130 (jL.calls k1 (a0.extract (aJ:Int).toNat a0.size) auN aye false _ A15.out) ?_;intro w20 hb;replace oh:=rb oh hb;replace HB:=bs HB hb;clear hb)
         go_ret2;exact⟨_,er,nx,ul HB.out⟩
       ·have H':=ak H;clear H;obtain⟨p8,q8,hx8⟩:=bx a0 aJ;obtain⟨p11,q11,acO⟩:=bx a0 aJ;go_wp2;go_loopg [10] k1 (fun kq v10 w'=>∃(KA:Int),v10= .int .i64 KA∧ah (eG.l1 kq a0 eF aJ KA=some (r1,r2))∧ah (kq≤k1)∧ah (Kd.R Kd.string 9 w' w.heap.size (fun _=>True) u4 eF)∧ah (Below w.heap.size w w'))
        case atStart=>exact⟨_,rs,H',⟨Nat.le_refl _⟩,⟨ur oh.out⟩,⟨ul HB.out⟩⟩
        case round=>
         clear H';try clear oC
         try clear rU
         try clear p8
         try clear q8
         try clear hx8
         try clear c9
         try clear y5
         try clear S_
         try clear p11
         try clear q11
         try clear acO
         try clear c12
         try clear yL
         try clear Ky
         try clear p11
         try clear p8
         try clear q11
         try clear q8
         obtain⟨KA,rfl,HA,HK2,oh,HB⟩:=hrel
         cases gk with
         |zero=>exact zz HA.out
         |succ k2=>
          obtain⟨H⟩:=HA;simp only[eG.l1]at H;replace H:=sd H;rcases H with⟨CO,H⟩|⟨CO,H⟩
          ·replace H:=oW H;obtain⟨JO,H⟩:=H;replace H:=bd H;obtain⟨ayc,A24,H⟩:=H;replace H:=sb H;rcases H with⟨rfl,H⟩|⟨rfl,H⟩
           ·have H':=ak H;clear H;obtain⟨p23,q23,ayg⟩:=bx a0 KA;go_wp2_with (go_at_call 131;refine mA (mW.calls (bt a0 KA) true _ A24.out) ?_;intro nd)
            go_roundg k2
            case measure=>exact kl
            case rel=>exact⟨_,rs,H',⟨kl⟩,⟨ur oh.out⟩,⟨ul HB.out⟩⟩
           ·replace H:=sq H;rcases H with⟨WU,akN,H⟩|⟨c26,WU,akN,H⟩
            ·obtain⟨rfl,rfl⟩:=s2 H;obtain⟨p23,q23,ayg⟩:=bx a0 KA;go_wp2_with (go_at_call 131;refine mA (mW.calls (bt a0 KA) false _ A24.out) ?_;intro nd)
             go_ret2;exact⟨_,er,nx,ul HB.out⟩
            ·replace H:=I4 H;obtain⟨PD,akO,H⟩:=H;replace H:=I4 H;obtain⟨NH,agu,H⟩:=H;replace H:=I4 H;obtain⟨arV,aHI,H⟩:=H;replace H:=nl H;obtain⟨ayh,H⟩:=H;obtain⟨aKj,arW⟩:=nm (eF++[a0.extract (aJ:Int).toNat (KA:Int).toNat]);rw[←arW.out]at H;have H':=ak H;clear H;obtain⟨p23,q23,ayg⟩:=bx a0 KA;go_wp2_with (first|(go_at_call 131;refine mA (mW.calls (bt a0 KA) false _ A24.out) ?_;intro nd)|(at_builtin;refine aP 35 40 Kd.string 23 9 (.string ⟨#[]⟩) 16 underlying23 info9 HB (ur oh.out) arW (by have:=ayh.out;omega) ?_;intro aKk w31 ho hb hg hat;have ayi:=ak (ho);replace HB:=ak (hb);clear ho hb hg hat oh))
             go_roundg k2
             case measure=>exact kl
             case rel=>exact⟨_,_,_,rs,rs,H',⟨kl⟩,⟨ur ayi.out⟩,⟨ul HB.out⟩⟩
          ·replace H:=sq H;rcases H with⟨agv,arX,H⟩|⟨c32,agv,arX,H⟩
           ·obtain⟨rfl,rfl⟩:=s2 H;go_wp2;go_ret2;exact⟨_,er,nx,ul HB.out⟩
           ·replace H:=I4 H;obtain⟨akP,arY,H⟩:=H;replace H:=I4 H;obtain⟨arZ,ar0,H⟩:=H;replace H:=I4 H;obtain⟨akQ,ar1,H⟩:=H;replace H:=nl H;obtain⟨ayj,H⟩:=H;obtain⟨aKl,ar2⟩:=nm (eF++[a0.extract (aJ:Int).toNat (KA:Int).toNat]);rw[←ar2.out]at H;have H':=ak H;clear H;go_wp2_with (at_builtin;refine aP 35 40 Kd.string 23 9 (.string ⟨#[]⟩) 16 underlying23 info9 HB (ur oh.out) ar2 (by have:=ayj.out;omega) ?_;intro aKm w37 ho hb hg hat;have ayk:=ak (ho);replace HB:=ak (hb);clear ho hb hg hat oh)
            go_roundg k2
            case measure=>exact kl
            case rel=>exact⟨_,_,_,rs,rs,H',⟨kl⟩,⟨ur ayk.out⟩,⟨ul HB.out⟩⟩
      ·obtain⟨rfl,rfl⟩:=s2 H;obtain⟨p8,q8,hx8⟩:=bx a0 aJ;go_wp2;go_ret2;exact⟨_,er,nx,ul HB.out⟩
    ·obtain⟨rfl,rfl⟩:=s2 H;go_wp2;go_ret2;exact⟨_,er,ur oh.out,ul HB.out⟩
 ·obtain⟨rfl,rfl⟩:=s2 H;go_enter func100,ntmps100;go_wp2_with (refine gA func75 (bC.calls k a0 false _ A2.out) ?_;intro nd)
  go_ret2;exact⟨_,er,nx,ul HB.out⟩
def sZ.f(a0:Int):Option (Bool):=(bT.f a0).bind fun aoy=>(if aoy=true then(some true)else((dZ.f a0).bind fun aoz=>(if aoz=true then(some true)else(some (a0==45)))))
set_option maxHeartbeats 8000000 in
set_option maxRecDepth 100000 in
theorem sZ.calls(a0:Int)(r:Bool)(w:World)(h:sZ.f a0=some r):
  Calls Tryz.prog 150 #[.int .u8 a0] w fun e w'=>e= .returned (.bool r)∧fK w w':=by
 have H:((bT.f a0).bind fun aoy=>(if aoy=true then(some true)else((dZ.f a0).bind fun aoz=>(if aoz=true then(some true)else(some (a0==45))))))=some r:=h;clear h;replace H:=bd H;obtain⟨aoy,A2,H⟩:=H;replace H:=sb H;rcases H with⟨rfl,H⟩|⟨rfl,H⟩
 ·obtain rfl:=Option.some.inj H;go_enter func150,ntmps150;go_wp2_with (first|(refine gL 104 4 func104 #[.int .u8 a0] ?_;(with_reducible refine(bT.calls a0 true _ A2.out).mono ?_);rintro e w' ⟨rfl,⟨nd,rfl⟩⟩;refine⟨_,rfl,?_⟩))
  go_ret;exact⟨rs,dn⟩
 ·replace H:=bd H;obtain⟨aoz,A4,H⟩:=H;replace H:=sb H;rcases H with⟨rfl,H⟩|⟨rfl,H⟩
  ·obtain rfl:=Option.some.inj H;go_enter func150,ntmps150;go_wp2_with (first|(refine gL 104 4 func104 #[.int .u8 a0] ?_;(with_reducible refine(bT.calls a0 false _ A2.out).mono ?_);rintro e w' ⟨rfl,⟨nd,rfl⟩⟩;refine⟨_,rfl,?_⟩)|(go_at_call 105;(with_reducible refine(dZ.calls a0 true _ A4.out).mono ?_);rintro e w' ⟨rfl,⟨nd,rfl⟩⟩))
   go_ret;exact⟨rs,dn⟩
  ·obtain rfl:=Option.some.inj H;go_enter func150,ntmps150;go_wp2_with (first|(refine gL 104 4 func104 #[.int .u8 a0] ?_;(with_reducible refine(bT.calls a0 false _ A2.out).mono ?_);rintro e w' ⟨rfl,⟨nd,rfl⟩⟩;refine⟨_,rfl,?_⟩)|(go_at_call 105;(with_reducible refine(dZ.calls a0 false _ A4.out).mono ?_);rintro e w' ⟨rfl,⟨nd,rfl⟩⟩))
   go_ret;exact⟨rs,dn⟩
def eU.l0:Nat→ByteArray→Int→Int→Option (Bool)
 |0,_,_,_=>none
 |k+1,x0,x7,x8=>if x8<x7 then(if 0≤x8 then(if x8<(x0.size:Int)then((sZ.f (bt x0 x8)).bind fun ayl=>(if ayl=true then(eU.l0 k x0 x7 (wrap64 (x8+1)))else(some false)))else(none))else(none))else(some true)
def eU.f(k:Nat)(a0:ByteArray):Option (Bool):=eU.l0 k a0 (a0.size:Int) 0
set_option maxHeartbeats 8000000 in
set_option maxRecDepth 100000 in
theorem eU.calls(k:Nat)(a0:ByteArray)(r:Bool)(w:World)(h:eU.f k a0=some r):
  Calls Tryz.prog 102 #[.string a0, .func (.func 150) #[] #[]] w fun e w'=>e= .returned (.bool r)∧fK w w':=by
 have H:(eU.l0 k a0 (a0.size:Int) 0)=some r:=h;clear h;have H':=ak H;clear H;go_enter func102,ntmps102;go_wp2;go_loopg [8] k (fun kq v8 w'=>∃(jK:Int),v8= .int .i64 jK∧ah (eU.l0 kq a0 (a0.size:Int) jK=some r)∧ah (kq≤k)∧fK w w')
 case atStart=>exact⟨(0),rs,H',⟨Nat.le_refl _⟩,dn⟩
 case round=>
  clear H';try clear c1
  try clear p2
  obtain⟨jK,rfl,HA,jv,⟨m1,rfl⟩⟩:=hrel
  cases gk with
  |zero=>exact absurd HA.out (by simp[eU.l0])
  |succ k1=>
   have H:=HA.out;clear HA;simp only[eU.l0]at H;replace H:=sd H;rcases H with⟨gQ,H⟩|⟨gQ,H⟩
   ·replace H:=oW H;obtain⟨oM,H⟩:=H;replace H:=oW H;obtain⟨sH,H⟩:=H;replace H:=bd H;obtain⟨ayl,A7,H⟩:=H;replace H:=sb H;rcases H with⟨rfl,H⟩|⟨rfl,H⟩
    ·have H':=ak H;clear H;obtain⟨p6,q6,hx6⟩:=bx a0 jK;go_wp2_with (first|(go_at_call 150;(with_reducible refine(sZ.calls (bt a0 jK) true _ A7.out).mono ?_);rintro e w' ⟨rfl,⟨nd,rfl⟩⟩))
     go_roundg k1
     case measure=>have:=jv.out;omega
     case rel=>exact⟨(wrap64 (jK+1)),rs,H',⟨by have:=jv.out;omega⟩,dn⟩
    ·obtain rfl:=Option.some.inj H;obtain⟨p6,q6,hx6⟩:=bx a0 jK;go_wp2_with (first|(go_at_call 150;(with_reducible refine(sZ.calls (bt a0 jK) false _ A7.out).mono ?_);rintro e w' ⟨rfl,⟨nd,rfl⟩⟩))
     go_ret;exact⟨rs,dn⟩
   ·obtain rfl:=Option.some.inj H;go_wp2;go_ret;exact⟨rs,dn⟩
def jM.f(k:Nat)(a0:ByteArray):Option (Bool):=if(a0.size:Int)≥1 then(if(a0.size:Int)≤30 then(if 0<(a0.size:Int)then((bT.f (bt a0 0)).bind fun aoA=>(if aoA=true then((eU.f k a0).bind fun akR=>(some akR))else(some false)))else(none))else(some false))else(some false)
set_option maxHeartbeats 8000000 in
set_option maxRecDepth 100000 in
theorem jM.calls(k:Nat)(a0:ByteArray)(r:Bool)(w:World)(h:jM.f k a0=some r):
  Calls Tryz.prog 126 #[.string a0] w fun e w'=>e= .returned (.bool r)∧fK w w':=by
 have H:(if(a0.size:Int)≥1 then(if(a0.size:Int)≤30 then(if 0<(a0.size:Int)then((bT.f (bt a0 0)).bind fun aoA=>(if aoA=true then((eU.f k a0).bind fun akR=>(some akR))else(some false)))else(none))else(some false))else(some false))=some r:=h;clear h;replace H:=sp H;rcases H with⟨c2,H⟩|⟨c2,H⟩
 ·have vw:decide (1≤(a0.size:Int))=true:=decide_eq_true c2;have EC:decide (1≤a0.size)=true:=decide_eq_true (by omega);clear c2;replace H:=sp H;rcases H with⟨c3,H⟩|⟨c3,H⟩
  ·have gQ:=decide_eq_true c3;have rC:decide (a0.size≤30)=true:=decide_eq_true (by omega);clear c3;replace H:=nn H;obtain⟨c4,H⟩:=H;have oM:=decide_eq_true c4;have WV:decide (0<a0.size)=true:=decide_eq_true (by omega);clear c4;replace H:=bd H;obtain⟨aoA,A6,H⟩:=H;replace H:=sb H;rcases H with⟨rfl,H⟩|⟨rfl,H⟩
   ·replace H:=bd H;obtain⟨akR,A8,H⟩:=H;obtain rfl:=Option.some.inj H;have p5:0≤(0:Int):=(by omega)
    have q5:0<a0.size:=(by have:(0:Int)<(a0.size:Int):=of_decide_eq_true (by assumption);omega)
    have hx5:∀h:0<a0.size,((a0[0]'h).toNat:Int)=bt a0 0:=xI a0 0;clear p5;have qi5:(0<(a0.size:Int))=True:=eq_true (of_decide_eq_true (by assumption));replace q5:=eq_true q5;go_enter func126,ntmps126;go_wp2_with (first|(go_at_call 104;(with_reducible refine(bT.calls (bt a0 0) true _ A6.out).mono ?_);rintro e w' ⟨rfl,⟨nd,rfl⟩⟩)|(go_at_call 102;(with_reducible refine(eU.calls k a0 akR _ A8.out).mono ?_);rintro e w' ⟨rfl,⟨nd,rfl⟩⟩))
    go_ret;exact⟨rs,dn⟩
   ·obtain rfl:=Option.some.inj H;have p5:0≤(0:Int):=(by omega)
    have q5:0<a0.size:=(by have:(0:Int)<(a0.size:Int):=of_decide_eq_true (by assumption);omega)
    have hx5:∀h:0<a0.size,((a0[0]'h).toNat:Int)=bt a0 0:=xI a0 0;clear p5;have qi5:(0<(a0.size:Int))=True:=eq_true (of_decide_eq_true (by assumption));replace q5:=eq_true q5;go_enter func126,ntmps126;go_wp2_with (first|(go_at_call 104;(with_reducible refine(bT.calls (bt a0 0) false _ A6.out).mono ?_);rintro e w' ⟨rfl,⟨nd,rfl⟩⟩))
    go_ret;exact⟨rs,dn⟩
  ·have gQ:=decide_eq_false c3;have rC:decide (a0.size≤30)=false:=decide_eq_false (by omega);clear c3;obtain rfl:=Option.some.inj H;go_enter func126,ntmps126;go_wp2;go_ret;exact⟨rs,dn⟩
 ·have vw:decide (1≤(a0.size:Int))=false:=decide_eq_false c2;have EC:decide (1≤a0.size)=false:=decide_eq_false (by omega);clear c2;obtain rfl:=Option.some.inj H;go_enter func126,ntmps126;go_wp2;go_ret;exact⟨rs,dn⟩
def iw.f(k:Nat)(a0:ByteArray):Option (Bool):=(jM.f k a0).bind fun aoB=>(if aoB=true then((iC.f a0).bind fun akS=>(some (akS.toList==a0.toList)))else(some false))
set_option maxHeartbeats 8000000 in
set_option maxRecDepth 100000 in
theorem iw.calls(k:Nat)(a0:ByteArray)(r:Bool)(w:World)(h:iw.f k a0=some r):
  Calls Tryz.prog 132 #[.string a0] w fun e w'=>e= .returned (.bool r)∧Below w.heap.size w w':=by
 have HB:=ak (Below.refl w.heap.size w);have H:((jM.f k a0).bind fun aoB=>(if aoB=true then((iC.f a0).bind fun akS=>(some (akS.toList==a0.toList)))else(some false)))=some r:=h;clear h;replace H:=bd H;obtain⟨aoB,A2,H⟩:=H;replace H:=sb H;rcases H with⟨rfl,H⟩|⟨rfl,H⟩
 ·replace H:=bd H;obtain⟨akS,A4,H⟩:=H;obtain rfl:=Option.some.inj H;go_enter func132,ntmps132;go_wp2_with (first|(refine gL 126 4 func126 #[.string a0] ?_;(with_reducible refine(jM.calls k a0 true _ A2.out).mono ?_);rintro e w' ⟨rfl,⟨nd,rfl⟩⟩;refine⟨_,rfl,?_⟩)|(go_at_call 99;(with_reducible refine(iC.calls a0 akS _ A4.out).mono ?_);rintro e w5 ⟨rfl,hb⟩;replace HB:=bs HB hb;(try clear hb)))
  go_ret;exact⟨er,ul HB.out⟩
 ·obtain rfl:=Option.some.inj H;go_enter func132,ntmps132;go_wp2_with (first|(refine gL 126 4 func126 #[.string a0] ?_;(with_reducible refine(jM.calls k a0 false _ A2.out).mono ?_);rintro e w' ⟨rfl,⟨nd,rfl⟩⟩;refine⟨_,rfl,?_⟩))
  go_ret;exact⟨er,ul HB.out⟩
def dX.l0:Nat→ByteArray→Int→Int→Option (Bool)
 |0,_,_,_=>none
 |k+1,x0,x7,x8=>if x8<x7 then(if 0≤x8 then(if x8<(x0.size:Int)then((mW.f (bt x0 x8)).bind fun aym=>(if aym=true then(dX.l0 k x0 x7 (wrap64 (x8+1)))else(some false)))else(none))else(none))else(some true)
def dX.f(k:Nat)(a0:ByteArray):Option (Bool):=dX.l0 k a0 (a0.size:Int) 0
set_option maxHeartbeats 8000000 in
set_option maxRecDepth 100000 in
theorem dX.calls(k:Nat)(a0:ByteArray)(r:Bool)(w:World)(h:dX.f k a0=some r):
  Calls Tryz.prog 102 #[.string a0, .func (.func 131) #[] #[]] w fun e w'=>e= .returned (.bool r)∧fK w w':=by
 have H:(dX.l0 k a0 (a0.size:Int) 0)=some r:=h;clear h;have H':=ak H;clear H;go_enter func102,ntmps102;go_wp2;go_loopg [8] k (fun kq v8 w'=>∃(jK:Int),v8= .int .i64 jK∧ah (dX.l0 kq a0 (a0.size:Int) jK=some r)∧ah (kq≤k)∧fK w w')
 case atStart=>exact⟨(0),rs,H',⟨Nat.le_refl _⟩,dn⟩
 case round=>
  clear H';try clear c1
  try clear p2
  obtain⟨jK,rfl,HA,jv,⟨m1,rfl⟩⟩:=hrel
  cases gk with
  |zero=>exact absurd HA.out (by simp[dX.l0])
  |succ k1=>
   have H:=HA.out;clear HA;simp only[dX.l0]at H;replace H:=sd H;rcases H with⟨gQ,H⟩|⟨gQ,H⟩
   ·replace H:=oW H;obtain⟨oM,H⟩:=H;replace H:=oW H;obtain⟨sH,H⟩:=H;replace H:=bd H;obtain⟨aym,A7,H⟩:=H;replace H:=sb H;rcases H with⟨rfl,H⟩|⟨rfl,H⟩
    ·have H':=ak H;clear H;obtain⟨p6,q6,hx6⟩:=bx a0 jK;go_wp2_with (first|(go_at_call 131;(with_reducible refine(mW.calls (bt a0 jK) true _ A7.out).mono ?_);rintro e w' ⟨rfl,⟨nd,rfl⟩⟩))
     go_roundg k1
     case measure=>have:=jv.out;omega
     case rel=>exact⟨(wrap64 (jK+1)),rs,H',⟨by have:=jv.out;omega⟩,dn⟩
    ·obtain rfl:=Option.some.inj H;obtain⟨p6,q6,hx6⟩:=bx a0 jK;go_wp2_with (first|(go_at_call 131;(with_reducible refine(mW.calls (bt a0 jK) false _ A7.out).mono ?_);rintro e w' ⟨rfl,⟨nd,rfl⟩⟩))
     go_ret;exact⟨rs,dn⟩
   ·obtain rfl:=Option.some.inj H;go_wp2;go_ret;exact⟨rs,dn⟩
def pX.f(k:Nat)(a0:ByteArray):Option (Bool):=if(a0.size:Int)≥1 then(if(a0.size:Int)≤40 then((dX.f k a0).bind fun akT=>(some akT))else(some false))else(some false)
set_option maxHeartbeats 8000000 in
set_option maxRecDepth 100000 in
theorem pX.calls(k:Nat)(a0:ByteArray)(r:Bool)(w:World)(h:pX.f k a0=some r):
  Calls Tryz.prog 159 #[.string a0] w fun e w'=>e= .returned (.bool r)∧fK w w':=by
 have H:(if(a0.size:Int)≥1 then(if(a0.size:Int)≤40 then((dX.f k a0).bind fun akT=>(some akT))else(some false))else(some false))=some r:=h;clear h;replace H:=sp H;rcases H with⟨c2,H⟩|⟨c2,H⟩
 ·have vw:decide (1≤(a0.size:Int))=true:=decide_eq_true c2;have EC:decide (1≤a0.size)=true:=decide_eq_true (by omega);clear c2;replace H:=sp H;rcases H with⟨c3,H⟩|⟨c3,H⟩
  ·have gQ:=decide_eq_true c3;have rC:decide (a0.size≤40)=true:=decide_eq_true (by omega);clear c3;replace H:=bd H;obtain⟨akT,A4,H⟩:=H;obtain rfl:=Option.some.inj H;go_enter func159,ntmps159;go_wp2_with (first|(go_at_call 102;(with_reducible refine(dX.calls k a0 akT _ A4.out).mono ?_);rintro e w' ⟨rfl,⟨nd,rfl⟩⟩))
   go_ret;exact⟨rs,dn⟩
  ·have gQ:=decide_eq_false c3;have rC:decide (a0.size≤40)=false:=decide_eq_false (by omega);clear c3;obtain rfl:=Option.some.inj H;go_enter func159,ntmps159;go_wp2;go_ret;exact⟨rs,dn⟩
 ·have vw:decide (1≤(a0.size:Int))=false:=decide_eq_false c2;have EC:decide (1≤a0.size)=false:=decide_eq_false (by omega);clear c2;obtain rfl:=Option.some.inj H;go_enter func159,ntmps159;go_wp2;go_ret;exact⟨rs,dn⟩
def jq.l0:Nat→ByteArray→List Int→Int→Int→Option (ByteArray)
 |0,_,_,_,_=>none
 |k+1,x0,x3,x15,x16=>if x16<x15 then(if 0≤x16 then(if x16<(x0.size:Int)then(if(bt x0 x16)=34 then(if x3.length<140737488355328 then((some (x3++[92]:List Int)).bind fun akU=>(if akU.length<140737488355328 then(jq.l0 k x0 (akU++[bt x0 x16]) x15 (wrap64 (x16+1)))else(none)))else(none))else(if(bt x0 x16)=92 then(if x3.length<140737488355328 then((some (x3++[92]:List Int)).bind fun akV=>(if akV.length<140737488355328 then(jq.l0 k x0 (akV++[bt x0 x16]) x15 (wrap64 (x16+1)))else(none)))else(none))else(if x3.length<140737488355328 then(jq.l0 k x0 (x3++[bt x0 x16]) x15 (wrap64 (x16+1)))else(none))))else(none))else(none))else(if x3.length<140737488355328 then(some (strOfNums (x3++[34])))else(none))
def jq.f(k:Nat)(a0:ByteArray):Option (ByteArray):=(bC.f k a0).bind fun aoC=>(if aoC=true then((pX.f k a0).bind fun aoD=>(if aoD=true then(some a0)else(jq.l0 k a0 (([34]:List Int)) (a0.size:Int) 0)))else(some (⟨#[]⟩:ByteArray)))
set_option maxHeartbeats 8000000 in
set_option maxRecDepth 100000 in
theorem jq.calls(k:Nat)(a0:ByteArray)(r:ByteArray)(w:World)(h:jq.f k a0=some r):
  Calls Tryz.prog 151 #[.string a0] w fun e w'=>e= .returned (.string r)∧Below w.heap.size w w':=by
 have HB:=ak (Below.refl w.heap.size w);have H:((bC.f k a0).bind fun aoC=>(if aoC=true then((pX.f k a0).bind fun aoD=>(if aoD=true then(some a0)else(jq.l0 k a0 (([34]:List Int)) (a0.size:Int) 0)))else(some (⟨#[]⟩:ByteArray))))=some r:=h;clear h;replace H:=bd H;obtain⟨aoC,A2,H⟩:=H;replace H:=sb H;rcases H with⟨rfl,H⟩|⟨rfl,H⟩
 ·replace H:=bd H;obtain⟨aoD,A4,H⟩:=H;replace H:=sb H;rcases H with⟨rfl,H⟩|⟨rfl,H⟩
  ·obtain rfl:=Option.some.inj H;go_enter func151,ntmps151;go_wp2_with (first|(refine gL 75 7 func75 #[.string a0] ?_;(with_reducible refine(bC.calls k a0 true _ A2.out).mono ?_);rintro e w' ⟨rfl,⟨nd,rfl⟩⟩;refine⟨_,rfl,?_⟩)|(refine gL 159 11 func159 #[.string a0] ?_;(with_reducible refine(pX.calls k a0 true _ A4.out).mono ?_);rintro e w' ⟨rfl,⟨nd,rfl⟩⟩;refine⟨_,rfl,?_⟩))
   go_ret;exact⟨er,ul HB.out⟩
  ·obtain⟨aFs,akW⟩:=nm ([34]:List Int);rw[←akW.out]at H
   (try rw[Option.bind_some]at H);have H':=ak H;clear H;go_enter func151,ntmps151;go_wp2_with (first|(refine gL 75 7 func75 #[.string a0] ?_;(with_reducible refine(bC.calls k a0 true _ A2.out).mono ?_);rintro e w' ⟨rfl,⟨nd,rfl⟩⟩;refine⟨_,rfl,?_⟩)|(refine gL 159 11 func159 #[.string a0] ?_;(with_reducible refine(pX.calls k a0 false _ A4.out).mono ?_);rintro e w' ⟨rfl,⟨nd,rfl⟩⟩;refine⟨_,rfl,?_⟩)|((with_reducible refine fZ (N:=13) rfl ?_);refine Es (Kd.int .u8) _ 5 ?hg (N:=13) ?hd (xs:=([34]:List Int)) (inner:=[.int .u8 34]) (ok:=fun _=>True) (rE:=fun _=>True) ?hr ?hp (fun _ hk=>hk) trivial (Below.refl _ _) (Nat.le_refl _) (by simp) ?_;(case hd=>rfl);(case hg=>rfl);(case hr=>first|(go_simp;done)|(go_simp;rfl));(case hp=>exact(jJ.one (show Kd.M (Kd.int .u8) _ _ _ 34 [.int .u8 34]from rfl) (jJ.none _ _)));intro aKn w6 ho7 hb wI lD;clear wI lD;(first|rw[←akW.out]at ho7|(simp only[Int.reduceToNat]at ho7;rw[←akW.out]at ho7));have ayn:=ak (bP ho7 (aj (ul HB.out)));replace HB:=bs HB hb;clear hb ho7))
   go_loopg [3,16] k (fun kq v3 v16 w'=>∃(dD:List Int) (gK:Int),v16= .int .i64 gK∧ah (jq.l0 kq a0 dD (a0.size:Int) gK=some r)∧ah (kq≤k)∧ah (Kd.R (Kd.int .u8) 5 w' w.heap.size (fun _=>True) v3 dD)∧ah (Below w.heap.size w w'))
   case atStart=>exact⟨(aFs),(0),rs,H',⟨Nat.le_refl _⟩,⟨ur ayn.out⟩,⟨ul HB.out⟩⟩
   case round=>
    clear H';try clear c1
    try clear p2
    try clear c3
    try clear c5
    try clear c7
    obtain⟨dD,gK,rfl,HA,jv,kN,HB⟩:=hrel
    cases gk with
    |zero=>exact absurd HA.out (by simp[jq.l0])
    |succ k1=>
     have H:=HA.out;clear HA;simp only[jq.l0]at H;replace H:=sd H;rcases H with⟨yY,H⟩|⟨yY,H⟩
     ·replace H:=oW H;obtain⟨y5,H⟩:=H;replace H:=oW H;obtain⟨rP,H⟩:=H;replace H:=sq H;rcases H with⟨yL,Ky,H⟩|⟨c12,yL,Ky,H⟩
      ·replace H:=nl H;obtain⟨ayo,H⟩:=H;obtain⟨akU,ar4⟩:=nm (dD++[92]);rw[←ar4.out]at H
       (try rw[Option.bind_some]at H);replace H:=nl H;obtain⟨ayp,H⟩:=H;obtain⟨aFt,ar5⟩:=nm (akU++[bt a0 gK]);rw[←ar5.out]at H
       (try rw[Option.bind_some]at H);have H':=ak H;clear H;obtain⟨p11,q11,acO⟩:=bx a0 gK;go_wp2_with (first|((with_reducible refine dS (b:= .append) (xs:=#[.tmp 29, .tmp 30]) rfl ?_);at_builtin;refine mD (Kd.int .u8) (w0:=w) w.heap.size rfl (.tmp 29) (.tmp 30) 77 5 (.int .u8 0) 1 rfl underlying77 info5 rfl (by decide) (by omega) u3 dD 92 [.int .u8 92] (fun _=>True) (fun _=>False) rfl rfl ?aP (fun _ hk=>hk.elim) ?aF ?aO ?aB ?aS ?aL ?_;(case aP=>exact rfl);(case aB=>exact(ul HB.out));(case aF=>exact(fun _ _=>trivial));(case aO=>exact(ur kN.out));(case aS=>exact(aj (ul HB.out)));(case aL=>have:=ayo.out;omega);intro aFu w16 ho hb hg hat;rw[←ar4.out]at ho;have ng:=ak (hb);have ni:=ak (ho);clear HB;clear kN;have HB:=ng;have ar6:=ni;clear ng ni;clear ho hb hg hat;have p14:0≤(gK:Int):=of_decide_eq_true (by assumption);have q14:gK<(a0.size:Int):=of_decide_eq_true (by assumption);have ayq:=xI a0 gK;replace p14:=eq_true p14;replace q14:=eq_true q14)|((with_reducible refine dS (b:= .append) (xs:=#[.tmp 32, .tmp 36]) rfl ?_);at_builtin;refine mD (Kd.int .u8) (w0:=w) w.heap.size rfl (.tmp 32) (.tmp 36) 77 5 (.int .u8 0) 1 rfl underlying77 info5 rfl (by decide) (by omega) aFu akU (bt a0 gK) [.int .u8 (bt a0 gK)] (fun _=>True) (fun _=>False) rfl rfl ?aP (fun _ hk=>hk.elim) ?aF ?aO ?aB ?aS ?aL ?_;(case aP=>exact rfl);(case aB=>exact(ul HB.out));(case aF=>exact(fun _ _=>trivial));(case aO=>exact(ur ar6.out));(case aS=>exact(aj (ul HB.out)));(case aL=>have:=ayp.out;omega);intro aKo w17 ho hb hg hat;rw[←ar5.out]at ho;have ng:=ak (hb);have ni:=ak (ho);clear HB;clear ar6;have HB:=ng;have ayr:=ni;clear ng ni;clear ho hb hg hat))
       go_roundg k1
       case measure=>have:=jv.out;omega
       case rel=>exact⟨(aFt),(wrap64 (gK+1)),rs,H',⟨by have:=jv.out;omega⟩,⟨ur ayr.out⟩,⟨ul HB.out⟩⟩
      ·replace H:=sq H;rcases H with⟨Kz,Pz,H⟩|⟨c19,Kz,Pz,H⟩
       ·replace H:=nl H;obtain⟨akX,H⟩:=H;obtain⟨akV,ar7⟩:=nm (dD++[92]);rw[←ar7.out]at H
        (try rw[Option.bind_some]at H);replace H:=nl H;obtain⟨ays,H⟩:=H;obtain⟨aFv,ar8⟩:=nm (akV++[bt a0 gK]);rw[←ar8.out]at H
        (try rw[Option.bind_some]at H);have H':=ak H;clear H;obtain⟨p11,q11,acO⟩:=bx a0 gK;obtain⟨p18,q18,ax5⟩:=bx a0 gK;go_wp2_with (first|((with_reducible refine dS (b:= .append) (xs:=#[.tmp 29, .tmp 30]) rfl ?_);at_builtin;refine mD (Kd.int .u8) (w0:=w) w.heap.size rfl (.tmp 29) (.tmp 30) 77 5 (.int .u8 0) 1 rfl underlying77 info5 rfl (by decide) (by omega) u3 dD 92 [.int .u8 92] (fun _=>True) (fun _=>False) rfl rfl ?aP (fun _ hk=>hk.elim) ?aF ?aO ?aB ?aS ?aL ?_;(case aP=>exact rfl);(case aB=>exact(ul HB.out));(case aF=>exact(fun _ _=>trivial));(case aO=>exact(ur kN.out));(case aS=>exact(aj (ul HB.out)));(case aL=>have:=akX.out;omega);intro aFw w23 ho hb hg hat;rw[←ar7.out]at ho;have ng:=ak (hb);have ni:=ak (ho);clear HB;clear kN;have HB:=ng;have ar9:=ni;clear ng ni;clear ho hb hg hat;have p21:0≤(gK:Int):=of_decide_eq_true (by assumption);have q21:gK<(a0.size:Int):=of_decide_eq_true (by assumption);have aKp:=xI a0 gK;replace p21:=eq_true p21;replace q21:=eq_true q21)|((with_reducible refine dS (b:= .append) (xs:=#[.tmp 32, .tmp 36]) rfl ?_);at_builtin;refine mD (Kd.int .u8) (w0:=w) w.heap.size rfl (.tmp 32) (.tmp 36) 77 5 (.int .u8 0) 1 rfl underlying77 info5 rfl (by decide) (by omega) aFw akV (bt a0 gK) [.int .u8 (bt a0 gK)] (fun _=>True) (fun _=>False) rfl rfl ?aP (fun _ hk=>hk.elim) ?aF ?aO ?aB ?aS ?aL ?_;(case aP=>exact rfl);(case aB=>exact(ul HB.out));(case aF=>exact(fun _ _=>trivial));(case aO=>exact(ur ar9.out));(case aS=>exact(aj (ul HB.out)));(case aL=>have:=ays.out;omega);intro aKq w24 ho hb hg hat;rw[←ar8.out]at ho;have ng:=ak (hb);have ni:=ak (ho);clear HB;clear ar9;have HB:=ng;have ayt:=ni;clear ng ni;clear ho hb hg hat))
        go_roundg k1
        case measure=>have:=jv.out;omega
        case rel=>exact⟨(aFv),(wrap64 (gK+1)),rs,H',⟨by have:=jv.out;omega⟩,⟨ur ayt.out⟩,⟨ul HB.out⟩⟩
       ·replace H:=nl H;obtain⟨ayu,H⟩:=H;obtain⟨aFx,ar_⟩:=nm (dD++[bt a0 gK]);rw[←ar_.out]at H
        (try rw[Option.bind_some]at H);have H':=ak H;clear H;obtain⟨p11,q11,acO⟩:=bx a0 gK;obtain⟨p18,q18,ax5⟩:=bx a0 gK;obtain⟨p25,q25,hx25⟩:=bx a0 gK;go_wp2_with (first|((with_reducible refine dS (b:= .append) (xs:=#[.tmp 32, .tmp 36]) rfl ?_);at_builtin;refine mD (Kd.int .u8) (w0:=w) w.heap.size rfl (.tmp 32) (.tmp 36) 77 5 (.int .u8 0) 1 rfl underlying77 info5 rfl (by decide) (by omega) u3 dD (bt a0 gK) [.int .u8 (bt a0 gK)] (fun _=>True) (fun _=>False) rfl rfl ?aP (fun _ hk=>hk.elim) ?aF ?aO ?aB ?aS ?aL ?_;(case aP=>exact rfl);(case aB=>exact(ul HB.out));(case aF=>exact(fun _ _=>trivial));(case aO=>exact(ur kN.out));(case aS=>exact(aj (ul HB.out)));(case aL=>have:=ayu.out;omega);intro aKr w27 ho hb hg hat;rw[←ar_.out]at ho;have ng:=ak (hb);have ni:=ak (ho);clear HB;clear kN;have HB:=ng;have ayv:=ni;clear ng ni;clear ho hb hg hat))
        go_roundg k1
        case measure=>have:=jv.out;omega
        case rel=>exact⟨(aFx),(wrap64 (gK+1)),rs,H',⟨by have:=jv.out;omega⟩,⟨ur ayv.out⟩,⟨ul HB.out⟩⟩
     ·replace H:=nl H;obtain⟨ayw,H⟩:=H;obtain⟨aKs,asa⟩:=nm (dD++[34]);rw[←asa.out]at H
      (try rw[Option.bind_some]at H);obtain rfl:=Option.some.inj H;go_wp2_with (first|((with_reducible refine dS (b:= .append) (xs:=#[.tmp 39, .tmp 40]) rfl ?_);at_builtin;refine mD (Kd.int .u8) (w0:=w) w.heap.size rfl (.tmp 39) (.tmp 40) 77 5 (.int .u8 0) 1 rfl underlying77 info5 rfl (by decide) (by omega) u3 dD 34 [.int .u8 34] (fun _=>True) (fun _=>False) rfl rfl ?aP (fun _ hk=>hk.elim) ?aF ?aO ?aB ?aS ?aL ?_;(case aP=>exact rfl);(case aB=>exact(ul HB.out));(case aF=>exact(fun _ _=>trivial));(case aO=>exact(ur kN.out));(case aS=>exact(aj (ul HB.out)));(case aL=>have:=ayw.out;omega);intro aKt w29 ho hb hg hat;rw[←asa.out]at ho;have ng:=ak (hb);have ni:=ak (ho);clear HB;clear kN;have HB:=ng;have ayx:=ni;clear ng ni;clear ho hb hg hat;have aHJ:=EG (P:=Tryz.prog) underlying77 underlying5 underlying9 (EH ayx.out)))
      go_ret;exact⟨er,ul HB.out⟩
 ·obtain rfl:=Option.some.inj H;go_enter func151,ntmps151;go_wp2_with (first|(refine gL 75 7 func75 #[.string a0] ?_;(with_reducible refine(bC.calls k a0 false _ A2.out).mono ?_);rintro e w' ⟨rfl,⟨nd,rfl⟩⟩;refine⟨_,rfl,?_⟩))
  go_ret;exact⟨er,ul HB.out⟩
def kH.l0:Nat→ByteArray→List (iq)→Int→Int→Option (ByteArray)
 |0,_,_,_,_=>none
 |k+1,x3,Zu,x14,x15=>if x15<x14 then(if 0≤x15 then(if x15<(Zu.length:Int)then(if 2+((aT Zu x15).f0).size≤9223372036854775807 then(if((⟨#[59,32]⟩:ByteArray)++((aT Zu x15).f0)).size+1≤9223372036854775807 then((jq.f k ((aT Zu x15).f1)).bind fun U9=>(if(((⟨#[59,32]⟩:ByteArray)++((aT Zu x15).f0))++(⟨#[61]⟩:ByteArray)).size+U9.size≤9223372036854775807 then(if x3.size+((((⟨#[59,32]⟩:ByteArray)++((aT Zu x15).f0))++(⟨#[61]⟩:ByteArray))++U9).size≤9223372036854775807 then(kH.l0 k (x3++((((⟨#[59,32]⟩:ByteArray)++((aT Zu x15).f0))++(⟨#[61]⟩:ByteArray))++U9)) Zu x14 (wrap64 (x15+1)))else(none))else(none)))else(none))else(none))else(none))else(none))else(some x3)
def kH.f(k:Nat)(bn:ByteArray)(bI:ByteArray)(aA:List (iq)):Option (ByteArray):=if bn.size+1≤9223372036854775807 then(if(bn++(⟨#[47]⟩:ByteArray)).size+bI.size≤9223372036854775807 then(kH.l0 k ((bn++(⟨#[47]⟩:ByteArray))++bI) aA (aA.length:Int) 0)else(none))else(none)
set_option maxHeartbeats 8000000 in
set_option maxRecDepth 100000 in
theorem kH.calls(k:Nat)(bn:ByteArray)(bI:ByteArray)(bH:Option Addr)(bg:Nat)(aA:List (iq))(r:ByteArray)(w:World)(jg:Kd.C lg w bH aA.length aA)(jh:aA.length≤bg)(h:kH.f k bn bI aA=some r):
  Calls Tryz.prog 133 #[.agg #[.string bn, .string bI, .slice bH aA.length bg]] w fun e w'=>e= .returned (.string r)∧Below w.heap.size w w':=by
 have acP:=underlying90;have I5:=underlying63;have jF:=ak jg;have lV:=ak jh;clear jg jh;have HB:=ak (Below.refl w.heap.size w);have H:(if bn.size+1≤9223372036854775807 then(if(bn++(⟨#[47]⟩:ByteArray)).size+bI.size≤9223372036854775807 then(kH.l0 k ((bn++(⟨#[47]⟩:ByteArray))++bI) aA (aA.length:Int) 0)else(none))else(none))=some r:=h;clear h;replace H:=nn H;obtain⟨c2,H⟩:=H;have vw:=eq_true c2;have EC:=decide_eq_true c2;try have akY:(9223372036854775807<bn.size+1)=False:=eq_false (Nat.not_lt.2 c2)
 replace H:=nn H;obtain⟨c3,H⟩:=H;have gQ:=eq_true c3;have rC:=decide_eq_true c3;try have aKu:(9223372036854775807<bn.size+1+bI.size)=False:=by have h_:=(eq_false (Nat.not_lt.2 c3):(9223372036854775807<(bn++(⟨#[47]⟩:ByteArray)).size+bI.size)=False);simp only[ByteArray.size_append]at h_;exact h_
 try have N8:(9223372036854775807<(bn++(⟨#[47]⟩:ByteArray)).size+bI.size)=False:=eq_false (Nat.not_lt.2 c3)
 have H':=ak H;clear H;go_enter func133,ntmps133;go_wp2_with (first|(refine bE 1 #[.string bn, .string bI, .slice bH aA.length bg] 90 ?_;intro agw hg w4 hbox hb;have CP:=ak (hbox);have aHK:=mJ HB hg;have aHL:=mJ HB hg;replace HB:=bs HB hb;clear hb hbox hg;obtain⟨akZ,ak0,auO,ak1,ak2,auP⟩:=iE CP.out))
 go_loopg [3,15] k (fun kq v3 v15 w'=>∃(dD:ByteArray) (qR:Int),v3= .string dD∧v15= .int .i64 qR∧ah (kH.l0 kq dD aA (aA.length:Int) qR=some r)∧ah (kq≤k)∧ah (w'.heap[agw]? =some (.cells #[.string bn, .string bI,(.slice bH aA.length bg)] 90 (0,0)))∧ah (Below w.heap.size w w'))
 case atStart=>exact⟨((bn++(⟨#[47]⟩:ByteArray))++bI),(0),rs,rs,H',⟨Nat.le_refl _⟩,⟨ub CP.out⟩,⟨bb⟩⟩
 case round=>
  clear H';try clear c1
  try clear c2
  try clear vw
  try clear EC
  try clear akY
  try clear p2
  try clear c3
  try clear gQ
  try clear rC
  try clear N8
  try clear akZ
  try clear ak0
  try clear auO
  try clear ak1
  try clear ak2
  try clear auP
  obtain⟨dD,qR,rfl,rfl,HA,jv,CP,HB⟩:=hrel
  cases gk with
  |zero=>exact absurd HA.out (by simp[kH.l0])
  |succ k1=>
   have H:=HA.out;clear HA;simp only[kH.l0]at H;replace H:=sd H;rcases H with⟨oC,H⟩|⟨oC,H⟩
   ·replace H:=oW H;obtain⟨rU,H⟩:=H;replace H:=oW H;obtain⟨yY,H⟩:=H;replace H:=nn H;obtain⟨c9,H⟩:=H;have y5:=eq_true c9;have S_:=decide_eq_true c9;try have aFy:(9223372036854775807<2+((aT aA qR).f0).size)=False:=eq_false (Nat.not_lt.2 c9)
    replace H:=nn H;obtain⟨c10,H⟩:=H;have rP:=eq_true c10;have y8:=decide_eq_true c10;try have ayy:(9223372036854775807<2+((aT aA qR).f0).size+1)=False:=by have h_:=(eq_false (Nat.not_lt.2 c10):(9223372036854775807<((⟨#[59,32]⟩:ByteArray)++((aT aA qR).f0)).size+1)=False);simp only[ByteArray.size_append]at h_;exact h_
    try have ak3:(9223372036854775807<((⟨#[59,32]⟩:ByteArray)++((aT aA qR).f0)).size+1)=False:=eq_false (Nat.not_lt.2 c10)
    replace H:=bd H;obtain⟨U9,A11,H⟩:=H;replace H:=nn H;obtain⟨c12,H⟩:=H;have yL:=eq_true c12;have Ky:=decide_eq_true c12;try have aHM:(9223372036854775807<2+((aT aA qR).f0).size+1+U9.size)=False:=by have h_:=(eq_false (Nat.not_lt.2 c12):(9223372036854775807<(((⟨#[59,32]⟩:ByteArray)++((aT aA qR).f0))++(⟨#[61]⟩:ByteArray)).size+U9.size)=False);simp only[ByteArray.size_append]at h_;exact h_
    try have aHN:(9223372036854775807<(((⟨#[59,32]⟩:ByteArray)++((aT aA qR).f0))++(⟨#[61]⟩:ByteArray)).size+U9.size)=False:=eq_false (Nat.not_lt.2 c12)
    replace H:=nn H;obtain⟨c13,H⟩:=H;have xU:=eq_true c13;have Gh:=decide_eq_true c13;try have ayz:(9223372036854775807<dD.size+(2+((aT aA qR).f0).size+1+U9.size))=False:=by have h_:=(eq_false (Nat.not_lt.2 c13):(9223372036854775807<dD.size+((((⟨#[59,32]⟩:ByteArray)++((aT aA qR).f0))++(⟨#[61]⟩:ByteArray))++U9).size)=False);simp only[ByteArray.size_append]at h_;exact h_
    try have ayA:(9223372036854775807<dD.size+((((⟨#[59,32]⟩:ByteArray)++((aT aA qR).f0))++(⟨#[61]⟩:ByteArray))++U9).size)=False:=eq_false (Nat.not_lt.2 c13)
    have H':=ak H;clear H;have auQ:=zi qR;have auR:=zj qR aA.length;obtain⟨ayB,aFz,agx,agy⟩:=ou jF.out qR auQ auR;cases aFz;replace agx:=cl HB.out agx;replace agy:=cl HB.out agy;replace auQ:=eq_true auQ;replace auR:=eq_true auR;try go_wp2_with (first|(refine bE 5 #[.string (⟨#[]⟩:ByteArray), .string (⟨#[]⟩:ByteArray)] 63 ?_;intro EJ hg Ut hbox hb;have H8:=ak (hbox);have aHO:=ak ((by rw[hg];exact(aj bb):w.heap.size≤EJ));have aHP:=ak ((by rw[hg];exact(aj bb):w.heap.size≤EJ));have Tc:=ak ((by rw[hg];exact Nat.ne_of_lt (dI (ub CP.out)):agw≠EJ));have ai8:=ak ((by rw[hg];exact Nat.ne_of_gt (dI (ub CP.out)):EJ≠agw));replace CP:=kb CP hb;replace HB:=ak (aI bb hb);clear hb hbox hg;have aHQ:=ai8.out;have aHR:=Tc.out;obtain⟨OY,OZ,O1,O4⟩:=AA H8.out))
    have ng:ah (((Ut.setCell ⟨EJ,0,none⟩ (.string ((aT aA qR).f0))).setCell ⟨EJ,1,none⟩ (.string ((aT aA qR).f1))).heap[agw]? =some (.cells #[.string bn, .string bI, .slice (some ayB) aA.length bg] 90 (0,0))):=⟨by(with_reducible repeat(first|refine ay ?_ _|refine aC ?_|refine au ?_ _));refine fJ ?_ Tc.out _;(with_reducible repeat(first|refine ay ?_ _|refine aC ?_|refine au ?_ _));refine fJ ?_ Tc.out _;(with_reducible repeat(first|refine ay ?_ _|refine aC ?_|refine au ?_ _));exact CP.out⟩
    have ni:ah (((Ut.setCell ⟨EJ,0,none⟩ (.string ((aT aA qR).f0))).setCell ⟨EJ,1,none⟩ (.string ((aT aA qR).f1))).heap[EJ]? =some (.cells #[.string ((aT aA qR).f0), .string ((aT aA qR).f1)] 63 (0,0))):=⟨by(with_reducible repeat(first|refine ay ?_ _|refine aC ?_|refine au ?_ _));refine bU (cs:=#[.string ((aT aA qR).f0), .string (⟨#[]⟩:ByteArray)]) ?_ 1 _ rfl;(with_reducible repeat(first|refine ay ?_ _|refine aC ?_|refine au ?_ _));refine bU (cs:=#[.string (⟨#[]⟩:ByteArray), .string (⟨#[]⟩:ByteArray)]) ?_ 0 _ rfl;(with_reducible repeat(first|refine ay ?_ _|refine aC ?_|refine au ?_ _));exact H8.out⟩
    have qx:ah (Below w.heap.size w ((Ut.setCell ⟨EJ,0,none⟩ (.string ((aT aA qR).f0))).setCell ⟨EJ,1,none⟩ (.string ((aT aA qR).f1)))):=⟨bb⟩
    (try clear CP)
    (try clear H8)
    (try clear HB)
    generalize ((Ut.setCell ⟨EJ,0,none⟩ (.string ((aT aA qR).f0))).setCell ⟨EJ,1,none⟩ (.string ((aT aA qR).f1)))=w17 at ng ni qx⊢
    have CP:=ng;have H8:=ni;have HB:=qx;clear ng ni qx;replace CP:=ak (aC CP.out);replace H8:=ak (aC H8.out);replace HB:=ak (fO HB.out);refine ro [7] [0,1,5,2,3,4,6,7,8,9,10] (fun w'=>w'.cell? ⟨EJ,0,none⟩=some (.string ((aT aA qR).f0))∧w'.cell? ⟨EJ,1,none⟩=some (.string ((aT aA qR).f1))) ⟨(aG H8.out 0).trans rfl,(aG H8.out 1).trans rfl⟩ ?_
    generalize w17.drew=w18 at CP H8 HB⊢
    repeat(refine lk (v:=?_) (a':=?_) (gk.trans rfl) rfl rfl ?_ ?_ ?_;rotate_left;(focus (rintro w' ⟨s0,s1⟩;go_simp;with_reducible rfl));rotate_left;(focus (simp only[Act.put,jB,jC,l_c,bJ,b_];rfl)))
    refine ld (N:=some 26) (gk.trans rfl) rfl rfl (fun K hK=>?_);refine vG func151 (by kernel_rfl) rfl #[.string ((aT aA qR).f1)] (by rfl) rfl rfl ma ?_
    with_reducible refine(jq.calls k1 ((aT aA qR).f1) U9 _ A11.out).mono ?_
    rintro e w19 ⟨rfl,hb⟩;refine⟨_,rfl,?_⟩;replace CP:=kb CP hb;replace H8:=kb H8 hb;replace HB:=ak (aI bb hb)
    (try clear hb);refine hK.out _ _ ⟨(aG H8.out 0).trans rfl,(aG H8.out 1).trans rfl⟩ ?_;clear hK K;refine no (a':=?_) ?_ ?_
    rotate_left
    ·show Act.put _ (some 26) _=_
     simp only[Act.put,jB,jC,l_c,bJ,b_];rfl
    repeat(refine lk (v:=?_) (a':=?_) (gk.trans rfl) rfl rfl ?_ ?_ ?_;rotate_left;(focus (rintro w' ⟨s0,s1⟩;go_simp;with_reducible rfl));rotate_left;(focus (simp only[Act.put,jB,jC,l_c,bJ,b_];rfl)))
    refine on ?_;try go_wp2
    go_roundg k1
    case measure=>have:=jv.out;omega
    case rel=>exact⟨(dD++((((⟨#[59,32]⟩:ByteArray)++((aT aA qR).f0))++(⟨#[61]⟩:ByteArray))++U9)),(wrap64 (qR+1)),rs,rs,H',⟨by have:=jv.out;omega⟩,⟨ub CP.out⟩,⟨bb⟩⟩
   ·obtain rfl:=Option.some.inj H;go_wp2;go_ret;exact⟨er,bb⟩
end Go.Proofs.YtdimppdlfgnhgaaGreatDoor.PFnExactPartAt
