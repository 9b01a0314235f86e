/- Printed walks; conditions: those in each statement. -/
import Derived.Test.YtncdadcmghglkaaGreatDoorVFnExactFormatPartQt
import Derived.Test.YtncdadcmghglkaaGreatDoorProg
import Derived.Test.YtncdadcmghglkaaGreatDoorVFnExactFormatPartXt
import Derived.Below
import Derived.Deep.Draws
import Derived.Deep.AppendLies
import Derived.Maps.AppendAt
import Derived.OwnWalk
import Derived.Laws.BytesArg
import Derived.Laws.MakeOwn
import Derived.Laws.OwnMore
import Derived.Deep.OwnRows
import Derived.Tactics
import Derived.Lib.ConvBytes
import Derived.Lib.SliceRun
import Derived.Laws.Slices
import Derived.WalkKit
import Derived.KernelRfl
import Derived.RowKit3
import Derived.Deep.LoopGhost
import Derived.Deep.QuietTactic
import Derived.BigQuiet
import Derived.WideLaws
import Derived.Deep.DeepCutAuto
import Derived.Deep.CutBlock
import Derived.Deep.RegionHeld3
import Derived.Laws.Rows
import Derived.Lib.AppendStr
import Derived.ArgAppend
import Derived.Laws.IdiomCopy
import Derived.OrdersHeld
import Derived.Laws.BitsLemmas
import Derived.RowKit
import Derived.Test.YtncdadcmghglkaaGreatDoorMx
import Derived.Test.YtncdadcmghglkaaGreatDoorVFnExactFormatPartWords
import Derived.Test.YtncdadcmghglkaaGreatDoorVFnExactFormatPartLast
import Derived.Test.YtncdadcmghglkaaGreatDoorVFnExactFormatPartTab
import Derived.Test.YtncdadcmghglkaaGreatDoorVFnExactFormatPartApart
import Derived.Test.YtncdadcmghglkaaGreatDoorVFnExactFormatPartFoot
import Derived.Test.YtncdadcmghglkaaGreatDoorVFnExactFormatPartKept
import Derived.Test.YtncdadcmghglkaaGreatDoorVFnExactFormatPartShare
import Derived.Test.YtncdadcmghglkaaGreatDoorVFnExactFormatPartN
import Derived.Test.YtncdadcmghglkaaGreatDoorVFnExactFormatPartRepsOne
import Derived.Test.YtncdadcmghglkaaGreatDoorVFnExactFormatPartInv
import Derived.Test.YtncdadcmghglkaaGreatDoorVFnExactFormatPartGuard
import Derived.Test.YtncdadcmghglkaaGreatDoorVFnExactFormatPartMore
import Derived.Test.YtncdadcmghglkaaGreatDoorVFnExactFormatPartYt
namespace Go.Proofs.YtncdadcmghglkaaGreatDoor.PFnExactFormatPart
open Go.RowKit Go.Proofs.YtncdadcmghglkaaGreatDoor.X Go.Proofs.YtncdadcmghglkaaGreatDoorW.dB Go.Proofs.YtncdadcmghglkaaGreatDoorW.iy Go.Proofs.YtncdadcmghglkaaGreatDoorW.jo
attribute [local go_sem] lU lV oh oq kJ kK lW lX   -- for this text's walks alone
set_option linter.unusedVariables false
set_option linter.unusedSimpArgs false
def anH:Option Int→Value
 |none=> .nilIface
 |some c=> .iface 0 (.int .i64 c)
theorem QY:anH none= .nilIface:=rfl
theorem QZ(c:Int):anH (some c)= .iface 0 (.int .i64 c):=rfl
theorem info5:(Tryz.prog.info? 5).map (fun i=>(i.zero,i.size,i.bytes))=some (some (.int .u8 0),1,1):=by kernel_rfl
theorem info9:(Tryz.prog.info? 9).map (fun i=>(i.zero,i.size,i.bytes))=some (some (.string ⟨#[]⟩),1,16):=by kernel_rfl
theorem info23:(Tryz.prog.info? 23).map (fun i=>(i.zero,i.size,i.bytes))=some (some (.slice none 0 0),1,24):=by kernel_rfl
theorem Hl:(Tryz.prog.info? 69).map (fun i=>(i.zero,i.size,i.bytes))=some (some (.agg #[(.string ⟨#[]⟩),(.string ⟨#[]⟩)]),2,32):=by kernel_rfl
structure jl where
 f0:ByteArray
 f1:ByteArray
def z69:jl:=⟨(⟨#[]⟩:ByteArray),(⟨#[]⟩:ByteArray)⟩
def pV:Kd jl:=Kd.iso (Kd.pair Kd.string Kd.string) (fun x:jl=>(x.f0,x.f1))
theorem acu{w:World}{x:jl}{cs:List Value}(h:pV.K w x cs):cs=[.string x.f0, .string x.f1]:=by
 obtain⟨_,_,rfl,rfl,rfl⟩:=h;exact rfl
theorem wM{w:World}{base:Nat}{ok:Nat→Prop}{x:jl}{cs:List Value}(h:pV.M w base ok x cs):cs=[.string x.f0, .string x.f1]:=by
 obtain⟨_,_,rfl,rfl,rfl⟩:=h;exact rfl
theorem atD(w:World)(x:jl):pV.K w x [.string x.f0, .string x.f1]:=⟨[.string x.f0],[.string x.f1],rfl,rfl,rfl⟩
theorem Gg(w:World)(base:Nat)(ok:Nat→Prop)(x:jl):pV.M w base ok x [.string x.f0, .string x.f1]:=⟨[.string x.f0],[.string x.f1],rfl,rfl,rfl⟩
def aH(xs:List jl)(i:Int):jl:=xs.getD i.toNat z69
theorem nC{w:World}{A:Option Addr}{n:Nat}{xs:List jl}(h:Kd.C pV w A n xs)(i:Int)(h0:0≤i)(h1:i<n):∃ad,A=some ad∧w.cell? (ad.add (i.toNat*2))=some (.string (aH xs i).f0)∧w.cell? ⟨(ad.add (i.toNat*2)).block,(ad.add (i.toNat*2)).off+1,none⟩=some (.string (aH xs i).f1):=by
 obtain⟨ad,c,e,_,hK,hc0⟩:=Kd.OA h z69 i h0 h1;have hc:∀j u,c[j]? =some u→w.cell? (ad.add (i.toNat*2+j))=some u:=hc0;obtain rfl:=acu hK;exact⟨ad,e,hc 0 _ rfl,by rw[←zH _ _ 1 (by omega)];exact hc 1 _ rfl⟩
def Y7(xs:List (List jl))(i:Int):(List jl):=xs.getD i.toNat ([]:List jl)
theorem av2{w:World}{A:Option Addr}{n:Nat}{xs:List (List jl)}(h:Kd.C (Kd.slice 69 pV) w A n xs)(i:Int)(h0:0≤i)(h1:i<n):∃ad A0 c0,A=some ad∧w.cell? (ad.add i.toNat)=some (.slice A0 (Y7 xs i).length c0)∧(Y7 xs i).length≤c0∧pV.C w A0 (Y7 xs i).length (Y7 xs i):=by
 obtain⟨ad,c,e,_,hK,hc0⟩:=Kd.OA h ([]:List jl) i h0 h1;have hc:∀j u,c[j]? =some u→w.cell? (ad.add (i.toNat*1+j))=some u:=hc0;obtain⟨A0,c0,rfl,l0,g0⟩:=hK;exact⟨ad,A0,c0,e,by have hq:=hc 0 _ rfl;rwa [Nat.mul_one,Nat.add_zero]at hq,l0,g0⟩
def qC(xs:List (List ByteArray))(i:Int):(List ByteArray):=xs.getD i.toNat ([]:List ByteArray)
theorem Iy{w:World}{A:Option Addr}{n:Nat}{xs:List (List ByteArray)}(h:Kd.C (Kd.slice 9 Kd.string) w A n xs)(i:Int)(h0:0≤i)(h1:i<n):∃ad A0 c0,A=some ad∧w.cell? (ad.add i.toNat)=some (.slice A0 (qC xs i).length c0)∧(qC xs i).length≤c0∧Kd.string.C w A0 (qC xs i).length (qC xs i):=by
 obtain⟨ad,c,e,_,hK,hc0⟩:=Kd.OA h ([]:List ByteArray) i h0 h1;have hc:∀j u,c[j]? =some u→w.cell? (ad.add (i.toNat*1+j))=some u:=hc0;obtain⟨A0,c0,rfl,l0,g0⟩:=hK;exact⟨ad,A0,c0,e,by have hq:=hc 0 _ rfl;rwa [Nat.mul_one,Nat.add_zero]at hq,l0,g0⟩
structure pq where
 f0:(List jl)
 f1:(List ByteArray)
 f2:(List pq)
def z28:pq:=⟨([]:List jl),([]:List ByteArray),([]:List pq)⟩
def F28(d:Kd pq):Kd pq:=Kd.iso (Kd.pair (Kd.slice 69 pV) (Kd.pair (Kd.slice 9 Kd.string) (Kd.slice 28 d))) (fun x:pq=>(x.f0,x.f1,x.f2))
theorem SQ:Kd.Dk F28:=Kd.Vk _ (Kd.Gh (Kd.Dl _) (Kd.Gh (Kd.Dl _) (Kd.OB 28 Kd.Y8)))
theorem anI:Kd.Sub F28 [9,28,69]:=Kd.Y9 _ (Kd.Iz (Kd.sub_const _ (by decide)) (Kd.Iz (Kd.sub_const _ (by decide)) (Kd.Q5 28 (by decide) Kd.acv)))
theorem akz:∀n,(Kd.upto F28 3 [9,28,69] n).sz=3:=Kd.Y_ (fun _=>rfl)
def k28:Kd pq:=Kd.fix F28 3 [9,28,69] akz (Kd.Xd anI)
theorem acw{w:World}{x:pq}{cs:List Value}(h:k28.K w x cs):∃A0 c0 A1 c1 A2 c2,cs=[.slice A0 x.f0.length c0, .slice A1 x.f1.length c1, .slice A2 x.f2.length c2]∧x.f0.length≤c0∧pV.C w A0 x.f0.length x.f0∧x.f1.length≤c1∧Kd.string.C w A1 x.f1.length x.f1∧x.f2.length≤c2∧k28.C w A2 x.f2.length x.f2:=by
 obtain⟨n,h⟩:=h
 cases n with
 |zero=>exact h.elim
 |succ n=>
  obtain⟨_,_,rfl,⟨A0,c0,rfl,l0,g0⟩,⟨_,_,rfl,⟨A1,c1,rfl,l1,g1⟩,⟨A2,c2,rfl,l2,g2⟩⟩⟩:=h;exact⟨A0,c0,A1,c1,A2,c2,rfl,l0,g0,l1,g1,l2,Kd.aiR g2⟩
theorem Le{w:World}{base:Nat}{ok:Nat→Prop}{x:pq}{cs:List Value}(h:k28.M w base ok x cs):∃v0 v1 v2,cs=[v0,v1,v2]∧pV.R 69 w base ok v0 x.f0∧Kd.string.R 9 w base ok v1 x.f1∧k28.R 28 w base ok v2 x.f2:=by
 obtain⟨n,h⟩:=h
 cases n with
 |zero=>exact h.elim
 |succ n=>
  obtain⟨_,_,rfl,⟨v0,rfl,g0⟩,⟨_,_,rfl,⟨v1,rfl,g1⟩,⟨v2,rfl,g2⟩⟩⟩:=h;exact⟨v0,v1,v2,rfl,g0,g1,Kd.aiS g2⟩
theorem atE(w:World)(x:pq){A0:Option Addr}{c0:Nat}(l0:x.f0.length≤c0)(g0:pV.C w A0 x.f0.length x.f0){A1:Option Addr}{c1:Nat}(l1:x.f1.length≤c1)(g1:Kd.string.C w A1 x.f1.length x.f1){A2:Option Addr}{c2:Nat}(l2:x.f2.length≤c2)(g2:k28.C w A2 x.f2.length x.f2):k28.K w x [.slice A0 x.f0.length c0, .slice A1 x.f1.length c1, .slice A2 x.f2.length c2]:=by
 obtain⟨n2,q2⟩:=Kd.OC SQ g2;have r2:=Kd.Q7 SQ akz (show n2≤n2 by omega) q2;exact⟨n2+1,⟨[.slice A0 x.f0.length c0],[.slice A1 x.f1.length c1, .slice A2 x.f2.length c2],rfl,⟨A0,c0,rfl,l0,g0⟩,⟨[.slice A1 x.f1.length c1],[.slice A2 x.f2.length c2],rfl,⟨A1,c1,rfl,l1,g1⟩,⟨A2,c2,rfl,l2,r2⟩⟩⟩⟩
theorem Za(w:World)(base:Nat)(ok:Nat→Prop)(x:pq){v0:Value}(g0:pV.R 69 w base ok v0 x.f0){v1:Value}(g1:Kd.string.R 9 w base ok v1 x.f1){v2:Value}(g2:k28.R 28 w base ok v2 x.f2):k28.M w base ok x [v0,v1,v2]:=by
 obtain⟨n2,q2⟩:=Kd.OD SQ g2;have r2:=Kd.Q8 SQ akz (show n2≤n2 by omega) q2;exact⟨n2+1,⟨[v0],[v1,v2],rfl,⟨v0,rfl,g0⟩,⟨[v1],[v2],rfl,⟨v1,rfl,g1⟩,⟨v2,rfl,r2⟩⟩⟩⟩
def bn(xs:List pq)(i:Int):pq:=xs.getD i.toNat z28
theorem BR{w:World}{A:Option Addr}{n:Nat}{xs:List pq}(h:Kd.C k28 w A n xs)(i:Int)(h0:0≤i)(h1:i<n):∃ad A0 c0 A1 c1 A2 c2,A=some ad∧w.cell? (ad.add (i.toNat*3))=some (.slice A0 (bn xs i).f0.length c0)∧w.cell? ⟨(ad.add (i.toNat*3)).block,(ad.add (i.toNat*3)).off+1,none⟩=some (.slice A1 (bn xs i).f1.length c1)∧w.cell? ⟨(ad.add (i.toNat*3)).block,(ad.add (i.toNat*3)).off+2,none⟩=some (.slice A2 (bn xs i).f2.length c2)∧(bn xs i).f0.length≤c0∧pV.C w A0 (bn xs i).f0.length (bn xs i).f0∧(bn xs i).f1.length≤c1∧Kd.string.C w A1 (bn xs i).f1.length (bn xs i).f1∧(bn xs i).f2.length≤c2∧k28.C w A2 (bn xs i).f2.length (bn xs i).f2:=by
 obtain⟨ad,c,e,_,hK,hc0⟩:=Kd.OA h z28 i h0 h1;have hc:∀j u,c[j]? =some u→w.cell? (ad.add (i.toNat*3+j))=some u:=hc0;obtain⟨A0,c0,A1,c1,A2,c2,rfl,l0,g0,l1,g1,l2,g2⟩:=acw hK;exact⟨ad,A0,c0,A1,c1,A2,c2,e,hc 0 _ rfl,by rw[←zH _ _ 1 (by omega)];exact hc 1 _ rfl,by rw[←zH _ _ 2 (by omega)];exact hc 2 _ rfl,l0,g0,l1,g1,l2,g2⟩
structure rU where
 f0:ByteArray
 f1:ByteArray
def anJ:rU:=⟨(⟨#[]⟩:ByteArray),(⟨#[]⟩:ByteArray)⟩
def EF:Kd rU:=Kd.iso (Kd.pair Kd.string Kd.string) (fun x:rU=>(x.f0,x.f1))
theorem abq{w:World}{x:rU}{cs:List Value}(h:EF.K w x cs):cs=[.string x.f0, .string x.f1]:=by
 obtain⟨_,_,rfl,rfl,rfl⟩:=h;exact rfl
theorem akA{w:World}{base:Nat}{ok:Nat→Prop}{x:rU}{cs:List Value}(h:EF.M w base ok x cs):cs=[.string x.f0, .string x.f1]:=by
 obtain⟨_,_,rfl,rfl,rfl⟩:=h;exact rfl
theorem arV(w:World)(x:rU):EF.K w x [.string x.f0, .string x.f1]:=⟨[.string x.f0],[.string x.f1],rfl,rfl,rfl⟩
theorem anK(w:World)(base:Nat)(ok:Nat→Prop)(x:rU):EF.M w base ok x [.string x.f0, .string x.f1]:=⟨[.string x.f0],[.string x.f1],rfl,rfl,rfl⟩
def nN(xs:List rU)(i:Int):rU:=xs.getD i.toNat anJ
theorem SS{w:World}{A:Option Addr}{n:Nat}{xs:List rU}(h:Kd.C EF w A n xs)(i:Int)(h0:0≤i)(h1:i<n):∃ad,A=some ad∧w.cell? (ad.add (i.toNat*2))=some (.string (nN xs i).f0)∧w.cell? ⟨(ad.add (i.toNat*2)).block,(ad.add (i.toNat*2)).off+1,none⟩=some (.string (nN xs i).f1):=by
 obtain⟨ad,c,e,_,hK,hc0⟩:=Kd.OA h anJ i h0 h1;have hc:∀j u,c[j]? =some u→w.cell? (ad.add (i.toNat*2+j))=some u:=hc0;obtain rfl:=abq hK;exact⟨ad,e,hc 0 _ rfl,by rw[←zH _ _ 1 (by omega)];exact hc 1 _ rfl⟩
def Zb(xs:List (List rU))(i:Int):(List rU):=xs.getD i.toNat ([]:List rU)
theorem av3{w:World}{A:Option Addr}{n:Nat}{xs:List (List rU)}(h:Kd.C (Kd.slice 120 EF) w A n xs)(i:Int)(h0:0≤i)(h1:i<n):∃ad A0 c0,A=some ad∧w.cell? (ad.add i.toNat)=some (.slice A0 (Zb xs i).length c0)∧(Zb xs i).length≤c0∧EF.C w A0 (Zb xs i).length (Zb xs i):=by
 obtain⟨ad,c,e,_,hK,hc0⟩:=Kd.OA h ([]:List rU) i h0 h1;have hc:∀j u,c[j]? =some u→w.cell? (ad.add (i.toNat*1+j))=some u:=hc0;obtain⟨A0,c0,rfl,l0,g0⟩:=hK;exact⟨ad,A0,c0,e,by have hq:=hc 0 _ rfl;rwa [Nat.mul_one,Nat.add_zero]at hq,l0,g0⟩
structure Di where
 f0:(List rU)
 f1:(List ByteArray)
 f2:(List Di)
def z44:Di:=⟨([]:List rU),([]:List ByteArray),([]:List Di)⟩
def F44(d:Kd Di):Kd Di:=Kd.iso (Kd.pair (Kd.slice 120 EF) (Kd.pair (Kd.slice 9 Kd.string) (Kd.slice 44 d))) (fun x:Di=>(x.f0,x.f1,x.f2))
theorem SV:Kd.Dk F44:=Kd.Vk _ (Kd.Gh (Kd.Dl _) (Kd.Gh (Kd.Dl _) (Kd.OB 44 Kd.Y8)))
theorem anL:Kd.Sub F44 [9,44,120]:=Kd.Y9 _ (Kd.Iz (Kd.sub_const _ (by decide)) (Kd.Iz (Kd.sub_const _ (by decide)) (Kd.Q5 44 (by decide) Kd.acv)))
theorem akB:∀n,(Kd.upto F44 3 [9,44,120] n).sz=3:=Kd.Y_ (fun _=>rfl)
def Vl:Kd Di:=Kd.fix F44 3 [9,44,120] akB (Kd.Xd anL)
theorem Vm{w:World}{x:Di}{cs:List Value}(h:Vl.K w x cs):∃A0 c0 A1 c1 A2 c2,cs=[.slice A0 x.f0.length c0, .slice A1 x.f1.length c1, .slice A2 x.f2.length c2]∧x.f0.length≤c0∧EF.C w A0 x.f0.length x.f0∧x.f1.length≤c1∧Kd.string.C w A1 x.f1.length x.f1∧x.f2.length≤c2∧Vl.C w A2 x.f2.length x.f2:=by
 obtain⟨n,h⟩:=h
 cases n with
 |zero=>exact h.elim
 |succ n=>
  obtain⟨_,_,rfl,⟨A0,c0,rfl,l0,g0⟩,⟨_,_,rfl,⟨A1,c1,rfl,l1,g1⟩,⟨A2,c2,rfl,l2,g2⟩⟩⟩:=h;exact⟨A0,c0,A1,c1,A2,c2,rfl,l0,g0,l1,g1,l2,Kd.aiR g2⟩
theorem anG{w:World}{base:Nat}{ok:Nat→Prop}{x:Di}{cs:List Value}(h:Vl.M w base ok x cs):∃v0 v1 v2,cs=[v0,v1,v2]∧EF.R 120 w base ok v0 x.f0∧Kd.string.R 9 w base ok v1 x.f1∧Vl.R 44 w base ok v2 x.f2:=by
 obtain⟨n,h⟩:=h
 cases n with
 |zero=>exact h.elim
 |succ n=>
  obtain⟨_,_,rfl,⟨v0,rfl,g0⟩,⟨_,_,rfl,⟨v1,rfl,g1⟩,⟨v2,rfl,g2⟩⟩⟩:=h;exact⟨v0,v1,v2,rfl,g0,g1,Kd.aiS g2⟩
theorem akC(w:World)(x:Di){A0:Option Addr}{c0:Nat}(l0:x.f0.length≤c0)(g0:EF.C w A0 x.f0.length x.f0){A1:Option Addr}{c1:Nat}(l1:x.f1.length≤c1)(g1:Kd.string.C w A1 x.f1.length x.f1){A2:Option Addr}{c2:Nat}(l2:x.f2.length≤c2)(g2:Vl.C w A2 x.f2.length x.f2):Vl.K w x [.slice A0 x.f0.length c0, .slice A1 x.f1.length c1, .slice A2 x.f2.length c2]:=by
 obtain⟨n2,q2⟩:=Kd.OC SV g2;have r2:=Kd.Q7 SV akB (show n2≤n2 by omega) q2;exact⟨n2+1,⟨[.slice A0 x.f0.length c0],[.slice A1 x.f1.length c1, .slice A2 x.f2.length c2],rfl,⟨A0,c0,rfl,l0,g0⟩,⟨[.slice A1 x.f1.length c1],[.slice A2 x.f2.length c2],rfl,⟨A1,c1,rfl,l1,g1⟩,⟨A2,c2,rfl,l2,r2⟩⟩⟩⟩
theorem arW(w:World)(base:Nat)(ok:Nat→Prop)(x:Di){v0:Value}(g0:EF.R 120 w base ok v0 x.f0){v1:Value}(g1:Kd.string.R 9 w base ok v1 x.f1){v2:Value}(g2:Vl.R 44 w base ok v2 x.f2):Vl.M w base ok x [v0,v1,v2]:=by
 obtain⟨n2,q2⟩:=Kd.OD SV g2;have r2:=Kd.Q8 SV akB (show n2≤n2 by omega) q2;exact⟨n2+1,⟨[v0],[v1,v2],rfl,⟨v0,rfl,g0⟩,⟨[v1],[v2],rfl,⟨v1,rfl,g1⟩,⟨v2,rfl,r2⟩⟩⟩⟩
def jS(xs:List Di)(i:Int):Di:=xs.getD i.toNat z44
theorem Xe{w:World}{A:Option Addr}{n:Nat}{xs:List Di}(h:Kd.C Vl w A n xs)(i:Int)(h0:0≤i)(h1:i<n):∃ad A0 c0 A1 c1 A2 c2,A=some ad∧w.cell? (ad.add (i.toNat*3))=some (.slice A0 (jS xs i).f0.length c0)∧w.cell? ⟨(ad.add (i.toNat*3)).block,(ad.add (i.toNat*3)).off+1,none⟩=some (.slice A1 (jS xs i).f1.length c1)∧w.cell? ⟨(ad.add (i.toNat*3)).block,(ad.add (i.toNat*3)).off+2,none⟩=some (.slice A2 (jS xs i).f2.length c2)∧(jS xs i).f0.length≤c0∧EF.C w A0 (jS xs i).f0.length (jS xs i).f0∧(jS xs i).f1.length≤c1∧Kd.string.C w A1 (jS xs i).f1.length (jS xs i).f1∧(jS xs i).f2.length≤c2∧Vl.C w A2 (jS xs i).f2.length (jS xs i).f2:=by
 obtain⟨ad,c,e,_,hK,hc0⟩:=Kd.OA h z44 i h0 h1;have hc:∀j u,c[j]? =some u→w.cell? (ad.add (i.toNat*3+j))=some u:=hc0;obtain⟨A0,c0,A1,c1,A2,c2,rfl,l0,g0,l1,g1,l2,g2⟩:=Vm hK;exact⟨ad,A0,c0,A1,c1,A2,c2,e,hc 0 _ rfl,by rw[←zH _ _ 1 (by omega)];exact hc 1 _ rfl,by rw[←zH _ _ 2 (by omega)];exact hc 2 _ rfl,l0,g0,l1,g1,l2,g2⟩
def dQ.l0:Nat→Int→ByteArray→Option (ByteArray)
 |0,_,_=>none
 |k+1,x0,x3=>if x0>0 then((some (([(wrap64 (48+(Int.tmod x0 10)))%256]:List Int):List Int)).bind fun acy=>(if(strOfNums acy).size+x3.size≤9223372036854775807 then(dQ.l0 k (wrap64 (Int.tdiv x0 10)) ((strOfNums acy)++x3))else(none)))else(if 1+x3.size≤9223372036854775807 then(some ((⟨#[109]⟩:ByteArray)++x3))else(none))
def dQ.f(k:Nat)(a0:Int):Option (ByteArray):=if a0≤0 then(some (⟨#[109,48]⟩:ByteArray))else(dQ.l0 k a0 (⟨#[]⟩:ByteArray))
set_option maxHeartbeats 8000000 in
set_option maxRecDepth 100000 in
theorem dQ.calls(k:Nat)(a0:Int)(r:ByteArray)(w:World)(h:dQ.f k a0=some r):
  Calls Tryz.prog 81 #[.int .i64 a0] w fun e w'=>e= .returned (.string r)∧Below w.heap.size w w':=by
 have HB:=ak (Below.refl w.heap.size w);have H:(if a0≤0 then(some (⟨#[109,48]⟩:ByteArray))else(dQ.l0 k a0 (⟨#[]⟩:ByteArray)))=some r:=h;clear h;replace H:=sd H;rcases H with⟨sW,H⟩|⟨sW,H⟩
 ·obtain rfl:=Option.some.inj H;go_enter Tryz.func81,Tryz.ntmps81;go_wp2;go_ret;exact⟨er,ul HB.out⟩
 ·have H':=ak H;clear H;go_enter Tryz.func81,Tryz.ntmps81;go_wp2;go_loopg [0,3] k (fun kq v0 v3 w'=>∃(ji:Int) (cO:ByteArray),v0= .int .i64 ji∧v3= .string cO∧ah (dQ.l0 kq ji cO=some r)∧ah (kq≤k)∧ah (Below w.heap.size w w'))
  case atStart=>exact⟨(a0),((⟨#[]⟩:ByteArray)),rs,rs,H',⟨Nat.le_refl _⟩,⟨ul HB.out⟩⟩
  case round=>
   clear H';try clear c2
   try clear sW
   try clear p2
   obtain⟨ji,cO,rfl,rfl,HA,iC,HB⟩:=hrel
   cases gk with
   |zero=>exact absurd HA.out (by simp[dQ.l0])
   |succ k1=>
    have H:=HA.out;clear HA;simp only[dQ.l0]at H;replace H:=sp H;rcases H with⟨c3,H⟩|⟨c3,H⟩
    ·have fM:decide (0<ji)=true:=decide_eq_true c3;clear c3;obtain⟨acy,acz⟩:=nm ([(wrap64 (48+(Int.tmod ji 10)))%256]:List Int);rw[←acz.out]at H
     (try rw[Option.bind_some]at H);replace H:=nn H;obtain⟨c4,H⟩:=H;have nM:=eq_true c4;have OE:=decide_eq_true c4;try have akD:(9223372036854775807<(strOfNums acy).size+cO.size)=False:=eq_false (Nat.not_lt.2 c4)
     have H':=ak H;clear H;go_wp2_with (first|((with_reducible refine bU (N:=12) rfl ?_);refine Kd.qg (Kd.int .u8) _ 5 ?hg (N:=12) ?hd (xs:=([(wrap64 (48+(Int.tmod ji 10)))%256]:List Int)) (inner:=[.int .u8 ((wrap64 (48+(Int.tmod ji 10)))%256)]) (ok:=fun _=>True) (pz:=fun _=>True) ?hr ?hp (fun _ hk=>hk) trivial (Below.refl _ _) (Nat.le_refl _) (by simp) ?_;(case hd=>rfl);(case hg=>rfl);(case hr=>first|(go_simp;done)|(go_simp;rfl));(case hp=>exact(iF.one (show Kd.M (Kd.int .u8) _ _ _ ((wrap64 (48+(Int.tmod ji 10)))%256) [.int .u8 ((wrap64 (48+(Int.tmod ji 10)))%256)]from rfl) (iF.none _ _)));intro ayq w5 ho6 hb rQ jw;clear rQ jw;(first|rw[←acz.out]at ho6|(simp only[Int.reduceToNat]at ho6;rw[←acz.out]at ho6));have anM:=ak (Kd.fA ho6 (aA (ul HB.out)));replace HB:=bs HB hb;clear hb ho6;have ayr:=zL (P:=Tryz.prog) Tryz.underlying22 Tryz.underlying5 Tryz.underlying9 (Kd.zM anM.out)))
     go_roundg k1
     case measure=>have:=iC.out;omega
     case rel=>exact⟨(wrap64 (Int.tdiv ji 10)),((strOfNums acy)++cO),rs,rs,H',⟨by have:=iC.out;omega⟩,⟨ul HB.out⟩⟩
    ·have fM:decide (0<ji)=false:=decide_eq_false c3;clear c3;replace H:=nn H;obtain⟨c8,H⟩:=H;have uV:=eq_true c8;have Lh:=decide_eq_true c8;try have afY:(9223372036854775807<1+cO.size)=False:=eq_false (Nat.not_lt.2 c8)
     obtain rfl:=Option.some.inj H;go_wp2;go_ret;exact⟨er,ul HB.out⟩
def gK.l0:Nat→List ByteArray→Int→Int→Option (Int×List ByteArray)
 |0,_,_,_=>none
 |k+1,x0,x1,x5=>if x5<(x0.length:Int)then((dQ.f k x1).bind fun abr=>(if 0≤x5 then(gK.l0 k (x0.set (x5:Int).toNat abr) (wrap64 (x1+1)) (wrap64 (x5+1)))else(none)))else(some (x1,x0))
def gK.f(k:Nat)(l0:List ByteArray)(a1:Int):Option (Int×List ByteArray):=gK.l0 k l0 a1 0
set_option maxHeartbeats 8000000 in
set_option maxRecDepth 100000 in
theorem gK.calls(k:Nat)(Ld:Nat→Prop)(zN:Value)(l0:List ByteArray)(a1:Int)(r1:Int)(r2:List ByteArray)(w0 w:World)(hB:Below w0.heap.size w0 w)(ho0:Kd.R Kd.string 9 w w0.heap.size Ld zN l0)(h:gK.f k l0 a1=some (r1,r2)):
  Calls Tryz.prog 37 #[zN, .int .i64 a1] w fun e w'=>e= .returned (.int .i64 r1)∧Kd.R Kd.string 9 w' w0.heap.size (fun k_=>(Ld k_∨w.heap.size≤k_)) zN r2∧Below w0.heap.size w0 w'∧Kept w w' (fun k_=>Ld k_):=by
 have HO0:=ak (show Kd.R Kd.string 9 w w0.heap.size (fun k_=>(Ld k_∨w.heap.size≤k_)) zN l0 from Kd.dM ho0 (fun k_ hk=>(.inl hk)));have HK:=ak (Kept.refl w (fun k_=>Ld k_));have HW0:=ak hB.size;have HB:=ak hB;clear hB;have H:(gK.l0 k l0 a1 0)=some (r1,r2):=h;clear h;have H':=ak H;clear H;go_enter Tryz.func37,Tryz.ntmps37;go_wp2;go_loopg [1,5] k (fun kq v1 v5 w'=>∃(ji:List ByteArray) (oM:Int) (aK:Int),v1= .int .i64 oM∧v5= .int .i64 aK∧ah (gK.l0 kq ji oM aK=some (r1,r2))∧ah (kq≤k)∧ah (Kd.R Kd.string 9 w' w0.heap.size (fun k_=>(Ld k_∨w.heap.size≤k_)) zN ji)∧ah (Kept w w' (fun k_=>Ld k_))∧ah (Below w0.heap.size w0 w'))
 case atStart=>exact⟨(l0),(a1),(0),rs,rs,H',⟨Nat.le_refl _⟩,⟨ur HO0.out⟩,⟨by repeat(first|(with_reducible first|exact HK.out|apply Kept.alloc|apply Kept.drewN|apply Kept.drew)|exact HK.out)⟩,⟨ul HB.out⟩⟩
 case round=>
  clear H';try clear p2
  obtain⟨ji,oM,aK,rfl,rfl,HA,iC,rP,HK,HB⟩:=hrel
  cases gk with
  |zero=>exact absurd HA.out (by simp[gK.l0])
  |succ k1=>
   have H:=HA.out;clear HA;simp only[gK.l0]at H;replace H:=sd H;rcases H with⟨fM,H⟩|⟨fM,H⟩
   ·replace H:=bd H;obtain⟨abr,A4,H⟩:=H;replace H:=og H;obtain⟨pU,H⟩:=H;obtain⟨anN,aiT⟩:=nm (ji.set (aK:Int).toNat abr);rw[←aiT.out]at H
    (try rw[Option.bind_some]at H);have H':=ak H;clear H;obtain⟨Ao7,co7,eo7⟩:=Kd.eU rP.out;subst eo7;go_wp2_with (first|(refine gL 81 15 Tryz.func81 #[.int .i64 oM] ?_;(with_reducible refine(dQ.calls k1 oM abr _ A4.out).mono ?_);rintro e w8 ⟨rfl,hb⟩;refine⟨_,rfl,?_⟩;replace rP:=rb rP hb;replace HK:=ak (Kept.below (S:=(fun k_=>Ld k_)) (by repeat(first|(with_reducible first|exact HK.out|apply Kept.alloc|apply Kept.drewN|apply Kept.drew)|exact HK.out)) hb);replace HB:=bs HB hb;(try clear hb);have p6:0≤(aK:Int):=of_decide_eq_true (by assumption);have q6:(aK:Int)<((ji.length:Int):Int):=of_decide_eq_true (by assumption);obtain⟨NK,co6,eo6,gb6,gl6,cl6,HG6⟩:=Kd.ER rP.out (by omega);(first|cases eo6|(injection eo6 with EP Xf Xg;(first|subst EP|(injection EP with EP;subst EP));subst Xg;clear Xf));have GB6:=ak gb6;have GG6:=ak HG6;clear gb6 gl6 HG6;have anO:=ak (show(Ld NK∨w.heap.size≤NK)from(rP.out.1 _ rfl));obtain⟨anP,anQ⟩:=Kd.NM (⟨#[]⟩:ByteArray) rP.out (aK:Int) p6 q6;replace p6:=eq_true p6;replace q6:=eq_true q6;obtain⟨ays,ayt⟩:=Kd.NM (⟨#[]⟩:ByteArray) rP.out (aK:Int) (of_decide_eq_true (by assumption)) (of_decide_eq_true (by assumption));have HP9:=Kd.acA rP.out (aK:Int) abr)|((with_reducible refine uK (t:=9) (p:=16) rfl ?_);refine rV (t:=9) (p:=16) (v:=?atF) (w1:=(w8.setCell ⟨NK,(aK:Int).toNat,none⟩ (.string abr))) ?hg ?ho ?hn ?hr ?_;(case ho=>rfl);(case hg=>rfl);(case hn=>rfl);(case hr=>first|(go_simp;done)|(go_simp;rfl));intro w10 hw;have hg:w8.grownBy w10 (some NK):=(by rw[hw];exact HP9.2);have Vo:Kd.R Kd.string 9 w10 w0.heap.size (fun k_=>(Ld k_∨w.heap.size≤k_)) (.slice (some ⟨NK,0,none⟩) ji.length co7) anN:=(by rw[hw,aiT.out];exact HP9.1);clear HP9;replace HB:=ak ((by rw[hw];exact lF (HB.out) GB6.out:Below w0.heap.size w0 w10));replace HK:=ak (Kept.ES (S:=(fun k_=>Ld k_)) hg (by repeat(first|(with_reducible first|exact HK.out|apply Kept.alloc|apply Kept.drewN|apply Kept.drew)|exact HK.out)) (fun k_ e_=>(rP.out.1 k_ e_)));replace rP:=ak (Vo);clear hg hw Vo))
    go_roundg k1
    case measure=>have:=iC.out;omega
    case rel=>exact⟨(anN),(wrap64 (oM+1)),(wrap64 (aK+1)),rs,rs,H',⟨by have:=iC.out;omega⟩,⟨ur rP.out⟩,⟨by repeat(first|(with_reducible first|exact HK.out|apply Kept.alloc|apply Kept.drewN|apply Kept.drew)|exact HK.out)⟩,⟨ul HB.out⟩⟩
   ·simp only[Option.some.injEq,Prod.mk.injEq]at H;obtain⟨rfl,rfl⟩:=H;obtain⟨acB,abt,akE⟩:=Kd.eU rP.out;subst akE;go_wp2;go_ret;exact⟨er,ur rP.out,by repeat(first|(with_reducible first|exact HB.out|apply mF|apply kW|apply eY)|exact HB.out),by repeat(first|(with_reducible first|exact HK.out|apply Kept.alloc|apply Kept.drewN|apply Kept.drew)|exact HK.out)⟩
def lq.l0:Nat→List (jl)→Int→Int→Option (Int×(List (jl)))
 |0,_,_,_=>none
 |k+1,x0,x1,x5=>if x5<(x0.length:Int)then((dQ.f k x1).bind fun Vp=>(if 0≤x5 then((some (x0.set (x5:Int).toNat (⟨Vp,(aH x0 x5).f1⟩:jl):List (jl))).bind fun OG=>((dQ.f k (wrap64 (x1+1))).bind fun Vq=>(lq.l0 k (OG.set (x5:Int).toNat (⟨(aH OG x5).f0,Vq⟩:jl)) (wrap64 ((wrap64 (x1+1))+1)) (wrap64 (x5+1)))))else(none)))else(some (x1,x0))
def lq.f(k:Nat)(l0:List (jl))(a1:Int):Option (Int×(List (jl))):=lq.l0 k l0 a1 0
set_option maxHeartbeats 8000000 in
set_option maxRecDepth 100000 in
theorem lq.calls(k:Nat)(Ld:Nat→Prop)(zN:Value)(l0:List (jl))(a1:Int)(r1:Int)(r2:List (jl))(w0 w:World)(hB:Below w0.heap.size w0 w)(ho0:Kd.R pV 69 w w0.heap.size Ld zN l0)(h:lq.f k l0 a1=some (r1,r2)):
  Calls Tryz.prog 79 #[zN, .int .i64 a1] w fun e w'=>e= .returned (.int .i64 r1)∧Kd.R pV 69 w' w0.heap.size (fun k_=>(Ld k_∨w.heap.size≤k_)) zN r2∧Below w0.heap.size w0 w'∧Kept w w' (fun k_=>Ld k_):=by
 have HO0:=ak (show Kd.R pV 69 w w0.heap.size (fun k_=>(Ld k_∨w.heap.size≤k_)) zN l0 from Kd.dM ho0 (fun k_ hk=>(.inl hk)));have HK:=ak (Kept.refl w (fun k_=>Ld k_));have HW0:=ak hB.size;have HB:=ak hB;clear hB;have H:(lq.l0 k l0 a1 0)=some (r1,r2):=h;clear h;have H':=ak H;clear H;go_enter Tryz.func79,Tryz.ntmps79;go_wp2;go_loopg [1,5] k (fun kq v1 v5 w'=>∃(ji:List (jl)) (oM:Int) (aK:Int),v1= .int .i64 oM∧v5= .int .i64 aK∧ah (lq.l0 kq ji oM aK=some (r1,r2))∧ah (kq≤k)∧ah (Kd.R pV 69 w' w0.heap.size (fun k_=>(Ld k_∨w.heap.size≤k_)) zN ji)∧ah (Kept w w' (fun k_=>Ld k_))∧ah (Below w0.heap.size w0 w'))
 case atStart=>exact⟨(l0),(a1),(0),rs,rs,H',⟨Nat.le_refl _⟩,⟨ur HO0.out⟩,⟨by repeat(first|(with_reducible first|exact HK.out|apply Kept.alloc|apply Kept.drewN|apply Kept.drew)|exact HK.out)⟩,⟨ul HB.out⟩⟩
 case round=>
  clear H';try clear p2
  obtain⟨ji,oM,aK,rfl,rfl,HA,iC,rP,HK,HB⟩:=hrel
  cases gk with
  |zero=>exact absurd HA.out (by simp[lq.l0])
  |succ k1=>
   have H:=HA.out;clear HA;simp only[lq.l0]at H;replace H:=sd H;rcases H with⟨fM,H⟩|⟨fM,H⟩
   ·replace H:=bd H;obtain⟨Vp,A4,H⟩:=H;replace H:=og H;obtain⟨pU,H⟩:=H;obtain⟨OG,aiU⟩:=nm (ji.set (aK:Int).toNat (⟨Vp,(aH ji aK).f1⟩:jl));rw[←aiU.out]at H
    (try rw[Option.bind_some]at H);replace H:=bd H;obtain⟨Vq,A7,H⟩:=H;obtain⟨anR,aiV⟩:=nm (OG.set (aK:Int).toNat (⟨(aH OG aK).f0,Vq⟩:jl));rw[←aiV.out]at H
    (try rw[Option.bind_some]at H);have H':=ak H;clear H;obtain⟨Ao9,co9,eo9⟩:=Kd.eU rP.out;subst eo9;go_wp2_with (first|(refine gL 81 15 Tryz.func81 #[.int .i64 oM] ?_;(with_reducible refine(dQ.calls k1 oM Vp _ A4.out).mono ?_);rintro e w10 ⟨rfl,hb⟩;refine⟨_,rfl,?_⟩;replace rP:=rb rP hb;replace HK:=ak (Kept.below (S:=(fun k_=>Ld k_)) (by repeat(first|(with_reducible first|exact HK.out|apply Kept.alloc|apply Kept.drewN|apply Kept.drew)|exact HK.out)) hb);replace HB:=bs HB hb;(try clear hb);have p6:0≤(aK:Int):=of_decide_eq_true (by assumption);have q6:(aK:Int)<((ji.length:Int):Int):=of_decide_eq_true (by assumption);obtain⟨NK,co6,eo6,gb6,gl6,cl6,HG6⟩:=Kd.ER rP.out (by omega);(first|cases eo6|(injection eo6 with EP Xf Xg;(first|subst EP|(injection EP with EP;subst EP));subst Xg;clear Xf));have GB6:=ak gb6;have GG6:=ak HG6;clear gb6 gl6 HG6;have anO:=ak (show(Ld NK∨w.heap.size≤NK)from(rP.out.1 _ rfl));obtain⟨ce6,atG,hM6,akF,akG⟩:=Kd.Dn rP.out z69 (aK:Int) p6 q6;obtain rfl:=wM hM6;have anP:w10.cell? ⟨NK,(aK:Int).toNat*2,none⟩=some (.string ((aH ji aK).f0)):=akF 0 _ rfl;have av4:w10.cell? ⟨NK,(aK:Int).toNat*2+1,none⟩=some (.string ((aH ji aK).f1)):=akF 1 _ rfl;have anQ:w10.frozen? ⟨NK,(aK:Int).toNat*2,none⟩=false:=akG 0;have av5:w10.frozen? ⟨NK,(aK:Int).toNat*2+1,none⟩=false:=akG 1;(clear atG akF akG;(try clear hM6));replace p6:=eq_true p6;replace q6:=eq_true q6;have anS:=ak (show Kd.R pV 69 w10 w0.heap.size (fun k_=>(Ld k_∨w.heap.size≤k_)) (.slice (some ⟨NK,0,none⟩) ji.length co9) ji from(ur rP.out));obtain⟨ayu,aiW,anT,acC,aiX⟩:=Kd.Dn anS.out z69 (aK:Int) (of_decide_eq_true (by assumption)) (by have h_:(aK:Int)<((ji.length:Int):Int):=of_decide_eq_true (by assumption);first|exact h_|(have e_:=(Kd.dK rP.out).1;omega)|simpa using h_);obtain rfl:=wM anT;have akH:=Kd.Zc anS.out (aK:Int) (of_decide_eq_true (by assumption)) (by have h_:(aK:Int)<((ji.length:Int):Int):=of_decide_eq_true (by assumption);first|exact h_|(have e_:=(Kd.dK rP.out).1;omega)|simpa using h_) (seg:=[.string Vp]) (j:=0) aiW acC (show 1≤2 from by decide) (x':=(⟨Vp,(aH ji aK).f1⟩:jl)) (Gg _ _ _ (⟨Vp,(aH ji aK).f1⟩:jl)) (fun _ hk=>hk);have akI:=acC 0 _ rfl;(try simp only[show(pV).sz=2 from rfl,Nat.mul_one,Nat.add_zero]at akI);have akJ:=aiX 0;(try simp only[show(pV).sz=2 from rfl,Nat.mul_one,Nat.add_zero]at akJ);(clear aiW acC aiX;(try clear anT)))|((with_reducible refine uK (t:=9) (p:=17) rfl ?_);refine rV (t:=9) (p:=17) (v:=?atH) (w1:=(w10.setCell ⟨NK,(aK:Int).toNat*2,none⟩ (.string Vp))) ?hg ?ho ?hn ?hr ?_;(case ho=>rfl);(case hg=>rfl);(case hn=>rfl);(case hr=>first|(go_simp;done)|(go_simp;rfl));intro w12 hw;have hg:w10.grownBy w12 (some NK):=(by rw[hw];exact akH.2);have Vo:Kd.R pV 69 w12 w0.heap.size (fun k_=>(Ld k_∨w.heap.size≤k_)) (.slice (some ⟨NK,0,none⟩) ji.length co9) OG:=(by rw[hw,aiU.out];exact akH.1);clear akH;replace HB:=ak ((by rw[hw];exact lF (HB.out) GB6.out:Below w0.heap.size w0 w12));replace HK:=ak (Kept.ES (S:=(fun k_=>Ld k_)) hg (by repeat(first|(with_reducible first|exact HK.out|apply Kept.alloc|apply Kept.drewN|apply Kept.drew)|exact HK.out)) (fun k_ e_=>(rP.out.1 k_ e_)));replace rP:=ak (Vo);clear hg hw Vo)|(refine gL 81 23 Tryz.func81 #[.int .i64 (wrap64 (oM+1))] ?_;(with_reducible refine(dQ.calls k1 (wrap64 (oM+1)) Vq _ A7.out).mono ?_);rintro e Vj ⟨rfl,hb⟩;refine⟨_,rfl,?_⟩;replace rP:=rb rP hb;replace HK:=ak (Kept.below (S:=(fun k_=>Ld k_)) (by repeat(first|(with_reducible first|exact HK.out|apply Kept.alloc|apply Kept.drewN|apply Kept.drew)|exact HK.out)) hb);replace HB:=bs HB hb;(try clear hb);have p8:0≤(aK:Int):=of_decide_eq_true (by assumption);have q8:(aK:Int)<((ji.length:Int):Int):=of_decide_eq_true (by assumption);obtain⟨ce8,atI,hM8,akK,akL⟩:=Kd.Dn rP.out z69 (aK:Int) p8 q8;obtain rfl:=wM hM8;have av6:Vj.cell? ⟨NK,(aK:Int).toNat*2,none⟩=some (.string ((aH OG aK).f0)):=akK 0 _ rfl;have av7:Vj.cell? ⟨NK,(aK:Int).toNat*2+1,none⟩=some (.string ((aH OG aK).f1)):=akK 1 _ rfl;have av8:Vj.frozen? ⟨NK,(aK:Int).toNat*2,none⟩=false:=akL 0;have av9:Vj.frozen? ⟨NK,(aK:Int).toNat*2+1,none⟩=false:=akL 1;(clear atI akK akL;(try clear hM8));replace p8:=eq_true p8;replace q8:=eq_true q8;have anU:=ak (show Kd.R pV 69 Vj w0.heap.size (fun k_=>(Ld k_∨w.heap.size≤k_)) (.slice (some ⟨NK,0,none⟩) ji.length co9) OG from(ur rP.out));obtain⟨ayv,aiY,anV,acD,aiZ⟩:=Kd.Dn anU.out z69 (aK:Int) (of_decide_eq_true (by assumption)) (by have h_:(aK:Int)<((ji.length:Int):Int):=of_decide_eq_true (by assumption);first|exact h_|(have e_:=(Kd.dK rP.out).1;omega)|simpa using h_);obtain rfl:=wM anV;have akM:=Kd.Zc anU.out (aK:Int) (of_decide_eq_true (by assumption)) (by have h_:(aK:Int)<((ji.length:Int):Int):=of_decide_eq_true (by assumption);first|exact h_|(have e_:=(Kd.dK rP.out).1;omega)|simpa using h_) (seg:=[.string Vq]) (j:=1) aiY acD (show 2≤2 from by decide) (x':=(⟨(aH OG aK).f0,Vq⟩:jl)) (Gg _ _ _ (⟨(aH OG aK).f0,Vq⟩:jl)) (fun _ hk=>hk);have akN:=acD 1 _ rfl;(try simp only[show(pV).sz=2 from rfl,Nat.mul_one,Nat.add_zero]at akN);have akO:=aiZ 1;(try simp only[show(pV).sz=2 from rfl,Nat.mul_one,Nat.add_zero]at akO);(clear aiY acD aiZ;(try clear anV)))|((with_reducible refine uK (t:=9) (p:=25) rfl ?_);refine rV (t:=9) (p:=25) (v:=?atJ) (w1:=(Vj.setCell ⟨NK,(aK:Int).toNat*2+1,none⟩ (.string Vq))) ?hg ?ho ?hn ?hr ?_;(case ho=>rfl);(case hg=>rfl);(case hn=>rfl);(case hr=>first|(go_simp;done)|(go_simp;rfl));intro w15 hw;have hg:Vj.grownBy w15 (some NK):=(by rw[hw];exact akM.2);have Vo:Kd.R pV 69 w15 w0.heap.size (fun k_=>(Ld k_∨w.heap.size≤k_)) (.slice (some ⟨NK,0,none⟩) ji.length co9) anR:=(by rw[hw,aiV.out];exact akM.1);clear akM;replace HB:=ak ((by rw[hw];exact lF (HB.out) GB6.out:Below w0.heap.size w0 w15));replace HK:=ak (Kept.ES (S:=(fun k_=>Ld k_)) hg (by repeat(first|(with_reducible first|exact HK.out|apply Kept.alloc|apply Kept.drewN|apply Kept.drew)|exact HK.out)) (fun k_ e_=>(rP.out.1 k_ e_)));replace rP:=ak (Vo);clear hg hw Vo))
    go_roundg k1
    case measure=>have:=iC.out;omega
    case rel=>exact⟨(anR),(wrap64 ((wrap64 (oM+1))+1)),(wrap64 (aK+1)),rs,rs,H',⟨by have:=iC.out;omega⟩,⟨ur rP.out⟩,⟨by repeat(first|(with_reducible first|exact HK.out|apply Kept.alloc|apply Kept.drewN|apply Kept.drew)|exact HK.out)⟩,⟨ul HB.out⟩⟩
   ·simp only[Option.some.injEq,Prod.mk.injEq]at H;obtain⟨rfl,rfl⟩:=H;obtain⟨anW,anX,akP⟩:=Kd.eU rP.out;subst akP;go_wp2;go_ret;exact⟨er,ur rP.out,by repeat(first|(with_reducible first|exact HB.out|apply mF|apply kW|apply eY)|exact HB.out),by repeat(first|(with_reducible first|exact HK.out|apply Kept.alloc|apply Kept.drewN|apply Kept.drew)|exact HK.out)⟩
def fE.l0:Nat→List ByteArray→Int→Int→Option (Int)
 |0,_,_,_=>none
 |k+1,x0,x1,x5=>if x5<(x0.length:Int)then(if 0≤x5 then((dQ.f k x1).bind fun afZ=>(if(kV ByteArray.empty x0 x5).toList=afZ.toList then(fE.l0 k x0 (wrap64 (x1+1)) (wrap64 (x5+1)))else(some (-1))))else(none))else(some x1)
def fE.f(k:Nat)(l0:List ByteArray)(a1:Int):Option (Int):=fE.l0 k l0 a1 0
set_option maxHeartbeats 8000000 in
set_option maxRecDepth 100000 in
theorem fE.calls(k:Nat)(A0:Option Addr)(c0:Nat)(l0:List ByteArray)(a1:Int)(r:Int)(w:World)(hr0:Kd.C Kd.string w A0 l0.length l0)(hc0:l0.length≤c0)(h:fE.f k l0 a1=some r):
  Calls Tryz.prog 38 #[.slice A0 l0.length c0, .int .i64 a1] w fun e w'=>e= .returned (.int .i64 r)∧Below w.heap.size w w':=by
 have HR0:=ak hr0;have wJ:=ak hc0;clear hr0 hc0;have HB:=ak (Below.refl w.heap.size w);have H:(fE.l0 k l0 a1 0)=some r:=h;clear h;have H':=ak H;clear H;go_enter Tryz.func38,Tryz.ntmps38;go_wp2;go_loopg [1,5] k (fun kq v1 v5 w'=>∃(oM:Int) (aK:Int),v1= .int .i64 oM∧v5= .int .i64 aK∧ah (fE.l0 kq l0 oM aK=some r)∧ah (kq≤k)∧ah (Below w.heap.size w w'))
 case atStart=>exact⟨(a1),(0),rs,rs,H',⟨Nat.le_refl _⟩,⟨ul HB.out⟩⟩
 case round=>
  clear H';try clear p2
  obtain⟨oM,aK,rfl,rfl,HA,iC,HB⟩:=hrel
  cases gk with
  |zero=>exact absurd HA.out (by simp[fE.l0])
  |succ k1=>
   have H:=HA.out;clear HA;simp only[fE.l0]at H;replace H:=sd H;rcases H with⟨fM,H⟩|⟨fM,H⟩
   ·replace H:=og H;obtain⟨nM,H⟩:=H;replace H:=bd H;obtain⟨afZ,A5,H⟩:=H;replace H:=sq H;rcases H with⟨mW,yt,H⟩|⟨c6,mW,yt,H⟩
    ·have H':=ak H;clear H;try go_wp2
     replace HB:=ak (eY HB.out);have Xh:=zi aK;have Xi:=zj aK l0.length;obtain⟨acE,akQ,yQ⟩:=Kd.jq HR0.out aK Xh Xi;have yR:=yQ;cases akQ;replace yQ:=cl HB.out yQ;replace Xh:=eq_true Xh;replace Xi:=eq_true Xi;refine SX (n:=7) (S:=fun w'=>w'.cell? (acE.add (aK).toNat)=some (.string (kV ByteArray.empty l0 aK))) (ds:=[]) #[false,false,false,false,false,false,false] (by kernel_rfl) rfl rfl (((HB.out.cell (World.block_lt_of_cell? w _ yR)).trans yR)) (fun hHeld=>?_)
     generalize wr.drew=w7 at HB yQ hHeld⊢
     refine rW (i:=0) (N:=some 12) (v:=?_) (a':=?_) #[true,false,false,false,false,false,false] rfl rfl (by kernel_rfl) (fun _ _ _ h=>h) (Or.inl ⟨by rfl,?_⟩) ?_ ?_
     rotate_left
     ·intro w';go_simp
      with_reducible rfl
     rotate_left
     ·simp only[Act.put,jI,jJ,l_c,bC,bH];rfl
     refine rW (i:=1) (N:=some 13) (v:=?_) (a':=?_) #[true,true,false,false,false,false,false] rfl rfl (by kernel_rfl) (fun _ _ _ h=>h) (Or.inl ⟨by rfl,?_⟩) ?_ ?_
     rotate_left
     ·intro w';go_simp
      with_reducible rfl
     rotate_left
     ·simp only[Act.put,jI,jJ,l_c,bC,bH];rfl
     refine rW (i:=2) (N:=some 14) (v:=?_) (a':=?_) #[true,true,true,false,false,false,false] rfl rfl (by kernel_rfl) (fun _ _ _ h=>h) (Or.inl ⟨by rfl,?_⟩) ?_ ?_
     rotate_left
     ·intro w';go_simp
      with_reducible rfl
     rotate_left
     ·simp only[Act.put,jI,jJ,l_c,bC,bH];rfl
     refine rW (i:=4) (N:=some 16) (v:=?_) (a':=?_) #[true,true,true,false,true,false,false] rfl rfl (by kernel_rfl) (fun _ _ _ h=>h) (Or.inl ⟨by rfl,?_⟩) ?_ ?_
     rotate_left
     ·intro w';go_simp
      with_reducible rfl
     rotate_left
     ·simp only[Act.put,jI,jJ,l_c,bC,bH];rfl
     refine IB (i:=3) (N:=some 15) (v:=?_) (a':=?_) #[true,true,true,true,true,false,false] rfl rfl (by kernel_rfl) (fun _ _ _ h=>h) (Or.inl ⟨by rfl,?_⟩) hHeld ?_ ?_
     rotate_left
     ·intro w' s0;go_simp
      with_reducible rfl
     rotate_left
     ·simp only[Act.put,jI,jJ,l_c,bC,bH];rfl
     refine SY (i:=5) (N:=some 17) #[true,true,true,true,true,true,false] rfl rfl (by kernel_rfl) (by decide) (fun K hK=>?_);refine nD Tryz.func81 (by kernel_rfl) rfl #[.int .i64 oM] (by rfl) rfl rfl ma ?_
     with_reducible refine(dQ.calls k1 oM afZ _ A5.out).mono ?_
     rintro e w8 ⟨rfl,hb⟩;refine⟨_,rfl,?_⟩;replace HB:=bs HB hb
     (try clear hb);refine hK.out _ _ (((HB.out.cell (World.block_lt_of_cell? w _ yR)).trans yR)) (fun hHeld=>?_);clear hK K;refine ET (a':=?_) ?_ ?_
     rotate_left
     ·show Act.put _ (some 17) _=_
      simp only[Act.put,jI,jJ,l_c,bC,bH];rfl
     refine rW (i:=6) (N:=some 18) (v:=?_) (a':=?_) #[true,true,true,true,true,true,true] rfl rfl (by kernel_rfl) (fun _ _ _ h=>h) (Or.inl ⟨by rfl,?_⟩) ?_ ?_
     rotate_left
     ·intro w';go_simp
      with_reducible rfl
     rotate_left
     ·simp only[Act.put,jI,jJ,l_c,bC,bH];rfl
     refine Zd (by kernel_rfl) ?_;try go_wp2
     go_roundg k1
     case measure=>have:=iC.out;omega
     case rel=>exact⟨(wrap64 (oM+1)),(wrap64 (aK+1)),rs,rs,H',⟨by have:=iC.out;omega⟩,⟨ul HB.out⟩⟩
    ·obtain rfl:=Option.some.inj H;try go_wp2
     replace HB:=ak (eY HB.out);have Xh:=zi aK;have Xi:=zj aK l0.length;obtain⟨acE,akQ,yQ⟩:=Kd.jq HR0.out aK Xh Xi;have yR:=yQ;cases akQ;replace yQ:=cl HB.out yQ;replace Xh:=eq_true Xh;replace Xi:=eq_true Xi;refine SX (n:=7) (S:=fun w'=>w'.cell? (acE.add (aK).toNat)=some (.string (kV ByteArray.empty l0 aK))) (ds:=[]) #[false,false,false,false,false,false,false] (by kernel_rfl) rfl rfl (((HB.out.cell (World.block_lt_of_cell? w _ yR)).trans yR)) (fun hHeld=>?_)
     generalize wr.drew=w9 at HB yQ hHeld⊢
     refine rW (i:=0) (N:=some 12) (v:=?_) (a':=?_) #[true,false,false,false,false,false,false] rfl rfl (by kernel_rfl) (fun _ _ _ h=>h) (Or.inl ⟨by rfl,?_⟩) ?_ ?_
     rotate_left
     ·intro w';go_simp
      with_reducible rfl
     rotate_left
     ·simp only[Act.put,jI,jJ,l_c,bC,bH];rfl
     refine rW (i:=1) (N:=some 13) (v:=?_) (a':=?_) #[true,true,false,false,false,false,false] rfl rfl (by kernel_rfl) (fun _ _ _ h=>h) (Or.inl ⟨by rfl,?_⟩) ?_ ?_
     rotate_left
     ·intro w';go_simp
      with_reducible rfl
     rotate_left
     ·simp only[Act.put,jI,jJ,l_c,bC,bH];rfl
     refine rW (i:=2) (N:=some 14) (v:=?_) (a':=?_) #[true,true,true,false,false,false,false] rfl rfl (by kernel_rfl) (fun _ _ _ h=>h) (Or.inl ⟨by rfl,?_⟩) ?_ ?_
     rotate_left
     ·intro w';go_simp
      with_reducible rfl
     rotate_left
     ·simp only[Act.put,jI,jJ,l_c,bC,bH];rfl
     refine rW (i:=4) (N:=some 16) (v:=?_) (a':=?_) #[true,true,true,false,true,false,false] rfl rfl (by kernel_rfl) (fun _ _ _ h=>h) (Or.inl ⟨by rfl,?_⟩) ?_ ?_
     rotate_left
     ·intro w';go_simp
      with_reducible rfl
     rotate_left
     ·simp only[Act.put,jI,jJ,l_c,bC,bH];rfl
     refine IB (i:=3) (N:=some 15) (v:=?_) (a':=?_) #[true,true,true,true,true,false,false] rfl rfl (by kernel_rfl) (fun _ _ _ h=>h) (Or.inl ⟨by rfl,?_⟩) hHeld ?_ ?_
     rotate_left
     ·intro w' s0;go_simp
      with_reducible rfl
     rotate_left
     ·simp only[Act.put,jI,jJ,l_c,bC,bH];rfl
     refine SY (i:=5) (N:=some 17) #[true,true,true,true,true,true,false] rfl rfl (by kernel_rfl) (by decide) (fun K hK=>?_);refine nD Tryz.func81 (by kernel_rfl) rfl #[.int .i64 oM] (by rfl) rfl rfl ma ?_
     with_reducible refine(dQ.calls k1 oM afZ _ A5.out).mono ?_
     rintro e w10 ⟨rfl,hb⟩;refine⟨_,rfl,?_⟩;replace HB:=bs HB hb
     (try clear hb);refine hK.out _ _ (((HB.out.cell (World.block_lt_of_cell? w _ yR)).trans yR)) (fun hHeld=>?_);clear hK K;refine ET (a':=?_) ?_ ?_
     rotate_left
     ·show Act.put _ (some 17) _=_
      simp only[Act.put,jI,jJ,l_c,bC,bH];rfl
     refine rW (i:=6) (N:=some 18) (v:=?_) (a':=?_) #[true,true,true,true,true,true,true] rfl rfl (by kernel_rfl) (fun _ _ _ h=>h) (Or.inl ⟨by rfl,?_⟩) ?_ ?_
     rotate_left
     ·intro w';go_simp
      with_reducible rfl
     rotate_left
     ·simp only[Act.put,jI,jJ,l_c,bC,bH];rfl
     refine Zd (by kernel_rfl) ?_;try go_wp2
     go_ret;exact⟨er,ul HB.out⟩
   ·obtain rfl:=Option.some.inj H;go_wp2;go_ret;exact⟨er,ul HB.out⟩
end Go.Proofs.YtncdadcmghglkaaGreatDoor.PFnExactFormatPart
