/- Printed walks; conditions: those in each statement. -/
import Derived.Test.YtdkipechiaploaaGreatDoorVFnPartTextQt
import Derived.Test.YtdkipechiaploaaGreatDoorProg
import Derived.Test.YtdkipechiaploaaGreatDoorVFnPartTextXt
import Derived.Below
import Derived.Deep.Draws
import Derived.Deep.AppendLies
import Derived.Maps.AppendAt
import Derived.OwnWalk
import Derived.Laws.BytesArg
import Derived.Laws.MakeOwn
import Derived.Laws.OwnMore
import Derived.Deep.OwnRows
import Derived.Tactics
import Derived.Lib.ConvBytes
import Derived.Lib.SliceRun
import Derived.Laws.Slices
import Derived.WalkKit
import Derived.KernelRfl
import Derived.RowKit3
import Derived.Deep.LoopGhost
import Derived.Deep.QuietTactic
import Derived.BigQuiet
import Derived.WideLaws
import Derived.Deep.DeepCutAuto
import Derived.Deep.CutBlock
import Derived.Deep.RegionHeld3
import Derived.Laws.Rows
import Derived.Lib.AppendStr
import Derived.ArgAppend
import Derived.Laws.IdiomCopy
import Derived.OrdersHeld
import Derived.Laws.BitsLemmas
import Derived.RowKit
import Derived.Test.YtdkipechiaploaaGreatDoorMx
import Derived.Test.YtdkipechiaploaaGreatDoorVFnPartTextWords
import Derived.Test.YtdkipechiaploaaGreatDoorVFnPartTextLast
import Derived.Test.YtdkipechiaploaaGreatDoorVFnPartTextTab
import Derived.Test.YtdkipechiaploaaGreatDoorVFnPartTextApart
import Derived.Test.YtdkipechiaploaaGreatDoorVFnPartTextFoot
import Derived.Test.YtdkipechiaploaaGreatDoorVFnPartTextKept
import Derived.Test.YtdkipechiaploaaGreatDoorVFnPartTextShare
import Derived.Test.YtdkipechiaploaaGreatDoorVFnPartTextN
import Derived.Test.YtdkipechiaploaaGreatDoorVFnPartTextEqStruct
import Derived.Test.YtdkipechiaploaaGreatDoorVFnPartTextRepsOne
import Derived.Test.YtdkipechiaploaaGreatDoorVFnPartTextInv
import Derived.Test.YtdkipechiaploaaGreatDoorVFnPartTextGuard
import Derived.Test.YtdkipechiaploaaGreatDoorVFnPartTextMore
import Derived.Test.YtdkipechiaploaaGreatDoorVFnPartTextYt
namespace Go.Proofs.YtdkipechiaploaaGreatDoor.PFnPartText
open Go.Proofs.YtdkipechiaploaaGreatDoorW.dZ.Kd Go.Proofs.YtdkipechiaploaaGreatDoorW.rW.Kd Go.Proofs.Tryz Go.RowKit Go.Proofs.YtdkipechiaploaaGreatDoor.X Go.Proofs.YtdkipechiaploaaGreatDoorW.dZ Go.Proofs.YtdkipechiaploaaGreatDoorW.nK Go.Proofs.YtdkipechiaploaaGreatDoorW.rW
attribute [local go_sem] BN BO Fb Fe zK zL BP BQ   -- for this text's walks alone
set_option linter.unusedVariables false
set_option linter.unusedSimpArgs false
def aAf:Option Int→Value
 |none=> .nilIface
 |some c=> .iface 0 (.int .i64 c)
theorem iT:aAf none= .nilIface:=rfl
theorem iU(c:Int):aAf (some c)= .iface 0 (.int .i64 c):=rfl
theorem info5:(Tryz.prog.info? 5).map (fun i=>(i.zero,i.size,i.bytes))=some (some (.int .u8 0),1,1):=by kernel_rfl
theorem info9:(Tryz.prog.info? 9).map (fun i=>(i.zero,i.size,i.bytes))=some (some (.string ⟨#[]⟩),1,16):=by kernel_rfl
theorem info24:(Tryz.prog.info? 24).map (fun i=>(i.zero,i.size,i.bytes))=some (some (.slice none 0 0),1,24):=by kernel_rfl
theorem Ud:(Tryz.prog.info? 27).map (fun i=>(i.zero,i.size,i.bytes))=some (some (.agg #[(.slice none 0 0),(.slice none 0 0),(.slice none 0 0)]),3,72):=by kernel_rfl
theorem Dn:(Tryz.prog.info? 43).map (fun i=>(i.zero,i.size,i.bytes))=some (some (.agg #[(.string ⟨#[]⟩),(.string ⟨#[]⟩)]),2,32):=by kernel_rfl
structure eG where
 f0:ByteArray
 f1:ByteArray
def z43:eG:=⟨(⟨#[]⟩:ByteArray),(⟨#[]⟩:ByteArray)⟩
def o9:Kd eG:=Kd.iso (Kd.pair Kd.string Kd.string) (fun x:eG=>(x.f0,x.f1))
theorem akl{w:World}{x:eG}{cs:List Value}(h:o9.K w x cs):cs=[.string x.f0, .string x.f1]:=by
 obtain⟨_,_,rfl,rfl,rfl⟩:=h;exact rfl
theorem aAd{w:World}{base:Nat}{ok:Nat→Prop}{x:eG}{cs:List Value}(h:o9.M w base ok x cs):cs=[.string x.f0, .string x.f1]:=by
 obtain⟨_,_,rfl,rfl,rfl⟩:=h;exact rfl
theorem aKd(w:World)(x:eG):o9.K w x [.string x.f0, .string x.f1]:=⟨[.string x.f0],[.string x.f1],rfl,rfl,rfl⟩
theorem wE(w:World)(base:Nat)(ok:Nat→Prop)(x:eG):o9.M w base ok x [.string x.f0, .string x.f1]:=⟨[.string x.f0],[.string x.f1],rfl,rfl,rfl⟩
def eY(xs:List eG)(i:Int):eG:=xs.getD i.toNat z43
theorem r_{w:World}{A:Option Addr}{n:Nat}{xs:List eG}(h:Kd.C o9 w A n xs)(i:Int)(h0:0≤i)(h1:i<n):∃ad,A=some ad∧w.cell? (ad.add (i.toNat*2))=some (.string (eY xs i).f0)∧w.cell? ⟨(ad.add (i.toNat*2)).block,(ad.add (i.toNat*2)).off+1,none⟩=some (.string (eY xs i).f1):=by
 obtain⟨ad,c,e,_,hK,hc0⟩:=agN h z43 i h0 h1;have hc:∀j u,c[j]? =some u→w.cell? (ad.add (i.toNat*2+j))=some u:=hc0;obtain rfl:=akl hK;exact⟨ad,e,hc 0 _ rfl,by rw[←Ue _ _ 1 (by omega)];exact hc 1 _ rfl⟩
def agO(xs:List (List eG))(i:Int):(List eG):=xs.getD i.toNat ([]:List eG)
theorem aOw{w:World}{A:Option Addr}{n:Nat}{xs:List (List eG)}(h:Kd.C (Kd.slice 43 o9) w A n xs)(i:Int)(h0:0≤i)(h1:i<n):∃ad A0 c0,A=some ad∧w.cell? (ad.add i.toNat)=some (.slice A0 (agO xs i).length c0)∧(agO xs i).length≤c0∧o9.C w A0 (agO xs i).length (agO xs i):=by
 obtain⟨ad,c,e,_,hK,hc0⟩:=agN h ([]:List eG) i h0 h1;have hc:∀j u,c[j]? =some u→w.cell? (ad.add (i.toNat*1+j))=some u:=hc0;obtain⟨A0,c0,rfl,l0,g0⟩:=hK;exact⟨ad,A0,c0,e,by have hq:=hc 0 _ rfl;rwa [Nat.mul_one,Nat.add_zero]at hq,l0,g0⟩
def lV(xs:List (List ByteArray))(i:Int):(List ByteArray):=xs.getD i.toNat ([]:List ByteArray)
theorem FW{w:World}{A:Option Addr}{n:Nat}{xs:List (List ByteArray)}(h:Kd.C (Kd.slice 9 Kd.string) w A n xs)(i:Int)(h0:0≤i)(h1:i<n):∃ad A0 c0,A=some ad∧w.cell? (ad.add i.toNat)=some (.slice A0 (lV xs i).length c0)∧(lV xs i).length≤c0∧Kd.string.C w A0 (lV xs i).length (lV xs i):=by
 obtain⟨ad,c,e,_,hK,hc0⟩:=agN h ([]:List ByteArray) i h0 h1;have hc:∀j u,c[j]? =some u→w.cell? (ad.add (i.toNat*1+j))=some u:=hc0;obtain⟨A0,c0,rfl,l0,g0⟩:=hK;exact⟨ad,A0,c0,e,by have hq:=hc 0 _ rfl;rwa [Nat.mul_one,Nat.add_zero]at hq,l0,g0⟩
structure kE where
 f0:(List eG)
 f1:(List ByteArray)
 f2:(List kE)
def z27:kE:=⟨([]:List eG),([]:List ByteArray),([]:List kE)⟩
def F27(d:Kd kE):Kd kE:=Kd.iso (Kd.pair (Kd.slice 43 o9) (Kd.pair (Kd.slice 9 Kd.string) (Kd.slice 27 d))) (fun x:kE=>(x.f0,x.f1,x.f2))
theorem aa6:Kd.Le F27:=akm _ (Z9 (Xe _) (Z9 (Xe _) (aeV 27 ap5)))
theorem aAg:Kd.Sub F27 [9,27,43]:=ap6 _ (acZ (Kd.sub_const _ (by decide)) (acZ (Kd.sub_const _ (by decide)) (ajg 27 (by decide) awg)))
theorem awh:∀n,(Kd.upto F27 3 [9,27,43] n).sz=3:=ap7 (fun _=>rfl)
def k27:Kd kE:=Kd.fix F27 3 [9,27,43] awh (akn aAg)
theorem ako{w:World}{x:kE}{cs:List Value}(h:k27.K w x cs):∃A0 c0 A1 c1 A2 c2,cs=[.slice A0 x.f0.length c0, .slice A1 x.f1.length c1, .slice A2 x.f2.length c2]∧x.f0.length≤c0∧o9.C w A0 x.f0.length x.f0∧x.f1.length≤c1∧Kd.string.C w A1 x.f1.length x.f1∧x.f2.length≤c2∧k27.C w A2 x.f2.length x.f2:=by
 obtain⟨n,h⟩:=h
 cases n with
 |zero=>exact h.elim
 |succ n=>
  obtain⟨_,_,rfl,⟨A0,c0,rfl,l0,g0⟩,⟨_,_,rfl,⟨A1,c1,rfl,l1,g1⟩,⟨A2,c2,rfl,l2,g2⟩⟩⟩:=h;exact⟨A0,c0,A1,c1,A2,c2,rfl,l0,g0,l1,g1,l2,aAh g2⟩
theorem aAe{w:World}{base:Nat}{ok:Nat→Prop}{x:kE}{cs:List Value}(h:k27.M w base ok x cs):∃v0 v1 v2,cs=[v0,v1,v2]∧o9.R 43 w base ok v0 x.f0∧Kd.string.R 9 w base ok v1 x.f1∧k27.R 27 w base ok v2 x.f2:=by
 obtain⟨n,h⟩:=h
 cases n with
 |zero=>exact h.elim
 |succ n=>
  obtain⟨_,_,rfl,⟨v0,rfl,g0⟩,⟨_,_,rfl,⟨v1,rfl,g1⟩,⟨v2,rfl,g2⟩⟩⟩:=h;exact⟨v0,v1,v2,rfl,g0,g1,aAi g2⟩
theorem aKe(w:World)(x:kE){A0:Option Addr}{c0:Nat}(l0:x.f0.length≤c0)(g0:o9.C w A0 x.f0.length x.f0){A1:Option Addr}{c1:Nat}(l1:x.f1.length≤c1)(g1:Kd.string.C w A1 x.f1.length x.f1){A2:Option Addr}{c2:Nat}(l2:x.f2.length≤c2)(g2:k27.C w A2 x.f2.length x.f2):k27.K w x [.slice A0 x.f0.length c0, .slice A1 x.f1.length c1, .slice A2 x.f2.length c2]:=by
 obtain⟨n2,q2⟩:=aeW aa6 g2;have r2:=ajh aa6 awh (show n2≤n2 by omega) q2;exact⟨n2+1,⟨[.slice A0 x.f0.length c0],[.slice A1 x.f1.length c1, .slice A2 x.f2.length c2],rfl,⟨A0,c0,rfl,l0,g0⟩,⟨[.slice A1 x.f1.length c1],[.slice A2 x.f2.length c2],rfl,⟨A1,c1,rfl,l1,g1⟩,⟨A2,c2,rfl,l2,r2⟩⟩⟩⟩
theorem Oc(w:World)(base:Nat)(ok:Nat→Prop)(x:kE){v0:Value}(g0:o9.R 43 w base ok v0 x.f0){v1:Value}(g1:Kd.string.R 9 w base ok v1 x.f1){v2:Value}(g2:k27.R 27 w base ok v2 x.f2):k27.M w base ok x [v0,v1,v2]:=by
 obtain⟨n2,q2⟩:=aeX aa6 g2;have r2:=aji aa6 awh (show n2≤n2 by omega) q2;exact⟨n2+1,⟨[v0],[v1,v2],rfl,⟨v0,rfl,g0⟩,⟨[v1],[v2],rfl,⟨v1,rfl,g1⟩,⟨v2,rfl,r2⟩⟩⟩⟩
def aV(xs:List kE)(i:Int):kE:=xs.getD i.toNat z27
theorem Et{w:World}{A:Option Addr}{n:Nat}{xs:List kE}(h:Kd.C k27 w A n xs)(i:Int)(h0:0≤i)(h1:i<n):∃ad A0 c0 A1 c1 A2 c2,A=some ad∧w.cell? (ad.add (i.toNat*3))=some (.slice A0 (aV xs i).f0.length c0)∧w.cell? ⟨(ad.add (i.toNat*3)).block,(ad.add (i.toNat*3)).off+1,none⟩=some (.slice A1 (aV xs i).f1.length c1)∧w.cell? ⟨(ad.add (i.toNat*3)).block,(ad.add (i.toNat*3)).off+2,none⟩=some (.slice A2 (aV xs i).f2.length c2)∧(aV xs i).f0.length≤c0∧o9.C w A0 (aV xs i).f0.length (aV xs i).f0∧(aV xs i).f1.length≤c1∧Kd.string.C w A1 (aV xs i).f1.length (aV xs i).f1∧(aV xs i).f2.length≤c2∧k27.C w A2 (aV xs i).f2.length (aV xs i).f2:=by
 obtain⟨ad,c,e,_,hK,hc0⟩:=agN h z27 i h0 h1;have hc:∀j u,c[j]? =some u→w.cell? (ad.add (i.toNat*3+j))=some u:=hc0;obtain⟨A0,c0,A1,c1,A2,c2,rfl,l0,g0,l1,g1,l2,g2⟩:=ako hK;exact⟨ad,A0,c0,A1,c1,A2,c2,e,hc 0 _ rfl,by rw[←Ue _ _ 1 (by omega)];exact hc 1 _ rfl,by rw[←Ue _ _ 2 (by omega)];exact hc 2 _ rfl,l0,g0,l1,g1,l2,g2⟩
theorem aAj(d:Nat)(w:World)(x0 y0:ByteArray)(x1 y1:ByteArray):
  (Op.equalIn (d+2) 43 (.agg #[.string x0, .string x1]) (.agg #[.string y0, .string y1])).run Tryz.prog w= .ok (x0.toList==y0.toList&&(x1.toList==y1.toList)) w:=by
 refine awi underlying43 (by kernel_rfl) ?_;refine akp (by rfl) (by go_simp;rfl) (by go_simp;rfl) (by go_simp) ?_;exact akq (by rfl) (by go_simp;rfl) (by go_simp;rfl) (by go_simp)
set_option maxHeartbeats 8000000
set_option maxRecDepth 100000
mutual
def iK.f:Nat→List (eG)→List ByteArray→List (kE)→Option ((List (eG))×List ByteArray×(List (kE)))
 |0,_,_,_=>none
 |k+1,dL,dA,aJ=>(some (([]:List (eG)):List (eG))).bind fun y115=>(if y115.length+dL.length<4398046511104 then((some (([]:List ByteArray):List ByteArray)).bind fun Xf=>(if Xf.length+dA.length<8796093022208 then((gW.l0 k (([]:List (kE))) aJ (aJ.length:Int) 0).bind fun t127=>(some ((y115++dL),(Xf++dA),t127)))else(none)))else(none))
def gW.l0:Nat→List (kE)→List (kE)→Int→Int→Option ((List (kE)))
 |0,_,_,_,_=>none
 |k+1,x3,x7,x8,x9=>if x9<x8 then(if 0≤x9 then(if x9<(x7.length:Int)then((iK.f k ((aV x7 x9).f0) ((aV x7 x9).f1) ((aV x7 x9).f2)).bind fun akr=>(if x3.length<1954687338268 then(gW.l0 k (x3++[(⟨akr.1,akr.2.1,akr.2.2⟩:kE)]) x7 x8 (wrap64 (x9+1)))else(none)))else(none))else(none))else(some x3)
end
def gW.f(k:Nat)(l0:List (kE)):Option ((List (kE))):=gW.l0 k (([]:List (kE))) l0 (l0.length:Int) 0
theorem iK.aeY(k:Nat)(dL:List (eG))(dA:List ByteArray)(aJ:List (kE)):iK.f (k+1) dL dA aJ=((some (([]:List (eG)):List (eG))).bind fun y115=>(if y115.length+dL.length<4398046511104 then((some (([]:List ByteArray):List ByteArray)).bind fun Xf=>(if Xf.length+dA.length<8796093022208 then((gW.f k aJ).bind fun t127=>(some ((y115++dL),(Xf++dA),t127)))else(none)))else(none))):=by simp only[iK.f,gW.f]
theorem iK.pair(k:Nat):(∀(kC:Option Addr) (kD:Nat) (dL:List (eG)) (jS:Option Addr) (jT:Nat) (dA:List ByteArray) (iR:Option Addr) (fU:Nat) (aJ:List (kE)) (r1:List (eG)) (r2:List ByteArray) (r3:List (kE)) (w:World) (oK:Kd.C o9 w kC dL.length dL) (oL:dL.length≤kD) (oM:Kd.C Kd.string w jS dA.length dA) (oN:dA.length≤jT) (kZ:Kd.C k27 w iR aJ.length aJ) (lg:aJ.length≤fU) (h:iK.f k dL dA aJ=some (r1,r2,r3)),
  Calls Tryz.prog 26 #[.agg #[.slice kC dL.length kD, .slice jS dA.length jT, .slice iR aJ.length fU]] w fun e w'=>∃nC BR EN:Value,e= .returned (.agg #[nC,BR,EN])∧Kd.R o9 43 w' w.heap.size (fun _=>True) nC r1∧Kd.R Kd.string 9 w' w.heap.size (fun _=>True) BR r2∧Kd.R k27 27 w' w.heap.size (fun k_=>some k_≠(nC:Value).ownBlock∧some k_≠(BR:Value).ownBlock) EN r3∧Below w.heap.size w w')∧
  (∀(A0:Option Addr) (c0:Nat) (l0:List (kE)) (r:List (kE)) (w:World) (hr0:Kd.C k27 w A0 l0.length l0) (hc0:l0.length≤c0) (h:gW.f k l0=some r),
  Calls Tryz.prog 43 #[.slice A0 l0.length c0] w fun e w'=>∃nC:Value,e= .returned (nC)∧Kd.R k27 27 w' w.heap.size (fun _=>True) nC r∧Below w.heap.size w w'):=by
 induction k using Nat.strongRecOn with
 |_ k ih=>
 refine⟨?_,?_⟩
 ·cases k with
  |zero=>intro kC kD dL jS jT dA iR fU aJ r1 r2 r3 w oK oL oM oN kZ lg h;exact absurd h (by simp[iK.f])
  |succ k=>
  have ihB:=(ih k (Nat.lt_succ_self k)).2;clear ih;intro kC kD dL jS jT dA iR fU aJ r1 r2 r3 w oK oL oM oN kZ lg h;rw[iK.aeY]at h;have Fg:=underlying27;have rJ:=ak oK;have su:=ak oL;clear oK oL;have vI:=ak oM;have yP:=ak oN;clear oM oN;have kK:=ak kZ;have oh:=ak lg;clear kZ lg;have HB:=ak (Below.refl w.heap.size w);have H:((some (([]:List (eG)):List (eG))).bind fun y115=>(if y115.length+dL.length<4398046511104 then((some (([]:List ByteArray):List ByteArray)).bind fun Xf=>(if Xf.length+dA.length<8796093022208 then((gW.f k aJ).bind fun t127=>(some ((y115++dL),(Xf++dA),t127)))else(none)))else(none)))=some (r1,r2,r3):=h;clear h;replace H:=ny H;obtain⟨y115,aks,H⟩:=H;replace H:=nl H;obtain⟨awj,H⟩:=H;obtain⟨akt,asx⟩:=nm (y115++dL);rw[←asx.out]at H;replace H:=ny H;obtain⟨Xf,aAk,H⟩:=H;replace H:=nl H;obtain⟨ajj,H⟩:=H;obtain⟨awk,asy⟩:=nm (Xf++dA);rw[←asy.out]at H;replace H:=bd H;obtain⟨t127,A4,H⟩:=H;obtain⟨rfl,rfl,rfl⟩:=s3 H;go_enter func26,ntmps26;go_wp2_with (first|(refine bX HB 1 #[.slice kC dL.length kD, .slice jS dA.length jT, .slice iR aJ.length fU] 27 ?_;intro aku w5 Aj aOx hb;replace HB:=bs HB hb;clear hb)|(refine bY HB 2 #[.slice none 0 0, .slice none 0 0, .slice none 0 0] 27 ?_;intro agP w6 Jh aOy hg hb;have ajk:=yQ Aj hg;have ajl:=yR Aj hg;replace Aj:=kb Aj hb;replace HB:=bz HB hb;clear hb hg)|(refine Fh 3 o9 43 aks ?_;intro aAl w7 ho8 hb;have Z_:=ak (au ho8 (aj bb));replace Aj:=kb Aj hb;replace Jh:=kb Jh hb;replace HB:=bz HB hb;clear hb ho8;have aKf:=ajk.out;have aKg:=ajl.out;have z10:=iZ Aj.out)|((with_reducible refine bP (b:= .append) (xs:=#[.tmp 3, .tmp 5]) rfl ?_);at_builtin;refine o_ o9 (w0:=w) w.heap.size rfl (.tmp 3) (.tmp 5) 23 43 (.agg #[(.string ⟨#[]⟩),(.string ⟨#[]⟩)]) 32 rfl underlying23 Dn rfl (by decide) (by omega) aAl y115 dL _ _ _ (fun _=>True) (fun _=>False) rfl rfl ?aO ?aR (fun _ _ h=>h) (fun _ h=>h.elim) ?aF ?aB ?aS ?aL ?_;(case aR=>repeat(first|exact(aI rJ.out HB.out)|(with_reducible refine Kd.lM ?_ _)|(with_reducible refine Kd.lQ ?_ _)|(with_reducible refine Kd.oz ?_)));(case aB=>exact bb);(case aF=>exact(fun _ _=>trivial));(case aO=>exact(ur Z_.out));(case aS=>exact(aj bb));(case aL=>have:=awj.out;omega);intro aSH ZH ho hb hg hat;rw[←asx.out]at ho;have Vg:=ak (ho);replace Aj:=ak (bJ (g:=aku) (o:= .cells #[.slice kC dL.length kD, .slice jS dA.length jT, .slice iR aJ.length fU] 27 (0,0)) (ub Aj.out) hg (rM Z_.out Aj.out (by decide)));replace Jh:=ak (bJ (g:=agP) (o:= .cells #[.slice none 0 0, .slice none 0 0, .slice none 0 0] 27 (0,0)) (ub Jh.out) hg (rM Z_.out Jh.out (by decide)));replace HB:=ak (hb);clear ho hb hg hat Z_;obtain⟨BU,Ak,Uf⟩:=aC Vg.out;subst Uf;have z13:=iZ Aj.out)|(refine Fh 8 Kd.string 9 aAk ?_;intro aKh Xg VT hb;have ac0:=ak (au VT (aj bb));replace Vg:=rg Vg hb;replace Aj:=kp Aj #[.slice BU akt.length Ak, .slice jS dA.length jT, .slice iR aJ.length fU] hb;replace Jh:=kp Jh #[.slice none 0 0, .slice none 0 0, .slice none 0 0] hb;replace HB:=bz HB hb;clear hb VT;have z16:=iZ Aj.out)|((with_reducible refine bP (b:= .append) (xs:=#[.tmp 8, .tmp 10]) rfl ?_);at_builtin;refine o_ Kd.string (w0:=w) w.heap.size rfl (.tmp 8) (.tmp 10) 24 9 (.string ⟨#[]⟩) 16 rfl underlying24 info9 rfl (by decide) (by omega) aKh Xf dA _ _ _ (fun _=>True) (fun _=>False) rfl rfl ?aO ?aR (fun _ _ h=>h) (fun _ h=>h.elim) ?aF ?aB ?aS ?aL ?_;(case aR=>repeat(first|exact(aI vI.out HB.out)|(with_reducible refine Kd.lM ?_ _)|(with_reducible refine Kd.lQ ?_ _)|(with_reducible refine Kd.oz ?_)));(case aB=>exact bb);(case aF=>exact(fun _ _=>trivial));(case aO=>exact(ur ac0.out));(case aS=>exact(aj bb));(case aL=>have:=ajj.out;omega);intro aSI w17 ho hb hg hat;rw[←asy.out]at ho;have agQ:=ak (ho);replace Aj:=ak (bJ (g:=aku) (o:= .cells #[.slice BU akt.length Ak, .slice jS dA.length jT, .slice iR aJ.length fU] 27 (0,0)) (ub Aj.out) hg (rM ac0.out Aj.out (by decide)));replace Jh:=ak (bJ (g:=agP) (o:= .cells #[.slice none 0 0, .slice none 0 0, .slice none 0 0] 27 (0,0)) (ub Jh.out) hg (rM ac0.out Jh.out (by decide)));replace Vg:=ak (oO (ur Vg.out) (jA (ur ac0.out)) (by decide) hg);replace HB:=ak (hb);clear ho hb hg hat ac0;obtain⟨Ji,Jj,ZI⟩:=aC agQ.out;subst ZI;have z19:=iZ Aj.out)|(refine gV func43 (ihB _ _ aJ t127 _ (aI kK.out bb) oh.out A4.out) ?_;rintro aSJ w20 ⟨ho0,hb⟩;have aAm:=ak (au (jH (jH (dM (dM ho0 (jl (rh Vg))) (jl (rh agQ))) (g:=aku) (o:= .cells #[.slice BU akt.length Ak, .slice Ji awk.length Jj, .slice iR aJ.length fU] 27 (0,0)) bq) (g:=agP) (o:= .cells #[.slice none 0 0, .slice none 0 0, .slice none 0 0] 27 (0,0)) bq) (aj bb));replace Vg:=rg Vg hb;replace agQ:=rg agQ hb;replace Aj:=kp Aj #[.slice BU akt.length Ak, .slice Ji awk.length Jj, .slice iR aJ.length fU] hb;replace Jh:=kp Jh #[.slice none 0 0, .slice none 0 0, .slice none 0 0] hb;replace HB:=bz HB hb;clear hb;(try clear ho0);obtain⟨Ug,Uh,aa7⟩:=aC aAm.out;subst aa7;have z22:=iZ Aj.out;have z23:=iZ Jh.out))
  refine bodyPost_ret (results_cell_row rfl _ _ agP 27 #[.slice BU akt.length Ak, .slice Ji awk.length Jj, .slice Ug t127.length Uh] (0,0) _ rfl bq underlying27 rfl (by kernel_rfl)) rfl ?_;exact⟨_,_,_,er,rr,rr,rr,bb⟩
 ·intro A0 c0 l0 r w hr0 hc0 h;have Fg:=underlying27;have HR0:=ak hr0;have uV:=ak hc0;clear hr0 hc0;have HB:=ak (Below.refl w.heap.size w);have H:(gW.l0 k (([]:List (kE))) l0 (l0.length:Int) 0)=some r:=h;clear h;obtain⟨y101,asz⟩:=nm ([]:List (kE));rw[←asz.out]at H;have H':=ak H;clear H;go_enter func43,ntmps43;go_wp2_with (refine Fh 6 k27 27 asz ?_;intro aSK w2 ho3 hb;have aAn:=ak (au ho3 (aj (ul HB.out)));replace HB:=bs HB hb;clear hb ho3)
  go_loopg [3,9] k (fun kq v3 v9 w'=>∃(fA:List (kE)) (pW:Int),v9= .int .i64 pW∧ah (gW.l0 kq fA l0 (l0.length:Int) pW=some r)∧ah (kq≤k)∧ah (Kd.R k27 27 w' w.heap.size (fun _=>True) v3 fA)∧ah (Below w.heap.size w w'))
  case atStart=>exact⟨_,_,rs,H',⟨Nat.le_refl _⟩,⟨ur aAn.out⟩,⟨ul HB.out⟩⟩
  case round=>
   clear H';obtain⟨fA,pW,rfl,HA,y5,pX,HB⟩:=hrel
   cases gk with
   |zero=>exact zz HA.out
   |succ k1=>
    obtain⟨H⟩:=HA;simp only[gW.l0]at H;replace H:=sd H;rcases H with⟨o7,H⟩|⟨o7,H⟩
    ·replace H:=nO H;obtain⟨mV,H⟩:=H;replace H:=nO H;obtain⟨nD,H⟩:=H;replace H:=bd H;obtain⟨⟨ap8,t109,ap9⟩,A7,H⟩:=H
     (try dsimp only at H);replace H:=nl H;obtain⟨akv,H⟩:=H;obtain⟨aY7,aKj⟩:=nm (fA++[(⟨ap8,t109,ap9⟩:kE)]);rw[←aKj.out]at H;have H':=ak H;clear H;have aeZ:=zi pW;have ae0:=zj pW l0.length;obtain⟨aAo,Pz,PD,PE,PG,PI,PK,awl,QH,agR,agS,agT,agU,agV,agW,agX,agY⟩:=Et HR0.out pW aeZ ae0;cases awl;replace QH:=cl HB.out QH;replace agR:=cl HB.out agR;replace agS:=cl HB.out agS;have ap_:=ak agU;have aqa:=ak agT;clear agU agT;have aqb:=ak agW;have aqc:=ak agV;clear agW agV;have aqd:=ak agY;have aqe:=ak agX;clear agY agX;replace aeZ:=eq_true aeZ;replace ae0:=eq_true ae0;go_wp2_with (first|(refine bY HB 5 #[.slice none 0 0, .slice none 0 0, .slice none 0 0] 27 ?_;intro H7 w9 Vh aOz hg hb;replace pX:=ak (jM (kL (ur pX.out) H7 (Nat.le_of_eq hg.symm)) hb);replace HB:=bs HB hb;clear hb hg;have z10:=iZ Vh.out)|(refine gL 26 15 func26 #[.agg #[.slice Pz ((aV l0 pW).f0).length PD, .slice PE ((aV l0 pW).f1).length PG, .slice PI ((aV l0 pW).f2).length PK]] ?_;(with_reducible refine((ih k1 (by have:=y5.out;omega)).1 _ _ ((aV l0 pW).f0) _ _ ((aV l0 pW).f1) _ _ ((aV l0 pW).f2) ap8 t109 ap9 _ (aI ap_.out bb) aqa.out (aI aqb.out bb) aqc.out (aI aqd.out bb) aqe.out A7.out).mono ?_);rintro e ZH ⟨v107,aSL,aSM,rfl,ho0,ho1,ho2,hb⟩;refine⟨_,rfl,?_⟩;have akw:=ak (au ho0 (aj bb));have akx:=ak (au ho1 (aj bb));have aky:=ak (au (jH (dM ho2 (jl (ur (aG (b_ (p:=⟨H7,2,none⟩) (b_ (p:=⟨H7,1,none⟩) (b_ (p:=⟨H7,0,none⟩) (aG pX.out (fun k_ hk=>(⟨hk,hk.2⟩:_∧k_≠H7))) (fun _ hk=>hk.2) (.slice Pz ((aV l0 pW).f0).length PD)) (fun _ hk=>hk.2) (.slice PE ((aV l0 pW).f1).length PG)) (fun _ hk=>hk.2) (.slice PI ((aV l0 pW).f2).length PK)) (fun _ h_=>h_.1))))) (g:=H7) (o:= .cells #[.slice Pz ((aV l0 pW).f0).length PD, .slice PE ((aV l0 pW).f1).length PG, .slice PI ((aV l0 pW).f2).length PK] 27 (0,0)) bq) (aj bb));replace pX:=ak (aG (oC (oC (oC (Vj (ur (aG (b_ (p:=⟨H7,2,none⟩) (b_ (p:=⟨H7,1,none⟩) (b_ (p:=⟨H7,0,none⟩) (aG pX.out (fun k_ hk=>(⟨hk,hk.2⟩:_∧k_≠H7))) (fun _ hk=>hk.2) (.slice Pz ((aV l0 pW).f0).length PD)) (fun _ hk=>hk.2) (.slice PE ((aV l0 pW).f1).length PG)) (fun _ hk=>hk.2) (.slice PI ((aV l0 pW).f2).length PK)) (fun _ h_=>h_.1))) hb) (bK ho0)) (bK ho1)) (bK ho2)) (fun _ h_=>h_.1));replace Vh:=kp Vh #[.slice Pz ((aV l0 pW).f0).length PD, .slice PE ((aV l0 pW).f1).length PG, .slice PI ((aV l0 pW).f2).length PK] hb;replace HB:=bz HB hb;clear hb;(try clear ho0);(try clear ho1);(try clear ho2);obtain⟨Hg,AP,LC⟩:=aC akw.out;subst LC;obtain⟨ae1,ae2,aa8⟩:=aC akx.out;subst aa8;obtain⟨PL,OT,QI⟩:=aC aky.out;subst QI)|((with_reducible refine bP (b:= .append) (xs:=#[.tmp 13, .tmp 16]) rfl ?_);at_builtin;refine nP k27 (w0:=w) w.heap.size rfl (.tmp 13) (.tmp 16) 25 27 (.agg #[(.slice none 0 0),(.slice none 0 0),(.slice none 0 0)]) 72 rfl underlying25 Ud rfl (by decide) (by omega) u3 fA (⟨ap8,t109,ap9⟩:kE) [.slice Hg ap8.length AP, .slice ae1 t109.length ae2, .slice PL ap9.length OT] (fun k_=>k_≠H7) (fun k_=>((fun k_=>k_≠H7)) k_∧some k_≠(u3:Value).ownBlock) rfl rfl ?aP (fun _ hk=>hk) ?aF ?aO ?aB ?aS ?aL ?_;(case aP=>exact Oc _ _ _ (⟨ap8,t109,ap9⟩:kE) (aG (jk (kM (akw.out) (jA pX.out) (by decide)) Vh.out (by decide)) (fun k_ hk=>⟨hk.2,hk.1.2⟩)) (aG (jk (kM (akx.out) (jA pX.out) (by decide)) Vh.out (by decide)) (fun k_ hk=>⟨hk.2,hk.1.2⟩)) (aG (aky.out) (fun k_ hk=>⟨hk.2,hk.1.2⟩)));(case aB=>exact bb);(case aF=>exact(fun k_ hk=>u_ (g:=H7) (o:= .cells #[.slice Pz ((aV l0 pW).f0).length PD, .slice PE ((aV l0 pW).f1).length PG, .slice PI ((aV l0 pW).f2).length PK] 27 (0,0)) (ub Vh.out) k_ hk));(case aO=>exact(ur (aG pX.out (fun _ hk=>hk.1.1.1.2))));(case aS=>exact(aj bb));(case aL=>have:=akv.out;omega);intro aAl w12 ho hb hg hat;rw[←aKj.out]at ho;have Z_:=ak (ho);replace Vh:=ak (bJ (g:=H7) (o:= .cells #[.slice Pz ((aV l0 pW).f0).length PD, .slice PE ((aV l0 pW).f1).length PG, .slice PI ((aV l0 pW).f2).length PK] 27 (0,0)) (ub Vh.out) hg (vY pX.out (fun _ hk=>hk.1.1.1.2)));replace HB:=ak (hb);clear ho hb hg hat pX akw akx aky))
     go_roundg k1
     case measure=>exact kl
     case rel=>exact⟨_,_,rs,H',⟨kl⟩,⟨ur (aG Z_.out (fun _ hk=>trivial))⟩,⟨bb⟩⟩
    ·obtain rfl:=s1 H;go_wp2;go_ret;exact⟨_,er,ur pX.out,ul HB.out⟩
theorem iK.calls{k kD jT fU:Nat}{kC jS iR:Option Addr}{dL r1:List (eG)}{dA r2:List ByteArray}{aJ r3:List (kE)}{w:World}(oK:Kd.C o9 w kC dL.length dL)(oL:dL.length≤kD)(oM:Kd.C Kd.string w jS dA.length dA)(oN:dA.length≤jT)(kZ:Kd.C k27 w iR aJ.length aJ)(lg:aJ.length≤fU)(h:iK.f k dL dA aJ=some (r1,r2,r3)):
  Calls Tryz.prog 26 #[.agg #[.slice kC dL.length kD, .slice jS dA.length jT, .slice iR aJ.length fU]] w fun e w'=>∃nC BR EN:Value,e= .returned (.agg #[nC,BR,EN])∧Kd.R o9 43 w' w.heap.size (fun _=>True) nC r1∧Kd.R Kd.string 9 w' w.heap.size (fun _=>True) BR r2∧Kd.R k27 27 w' w.heap.size (fun k_=>some k_≠(nC:Value).ownBlock∧some k_≠(BR:Value).ownBlock) EN r3∧Below w.heap.size w w':=(iK.pair k).1 kC kD dL jS jT dA iR fU aJ r1 r2 r3 w oK oL oM oN kZ lg h
theorem gW.calls{k c0:Nat}{A0:Option Addr}{l0 r:List (kE)}{w:World}(hr0:Kd.C k27 w A0 l0.length l0)(hc0:l0.length≤c0)(h:gW.f k l0=some r):
  Calls Tryz.prog 43 #[.slice A0 l0.length c0] w fun e w'=>∃nC:Value,e= .returned (nC)∧Kd.R k27 27 w' w.heap.size (fun _=>True) nC r∧Below w.heap.size w w':=(iK.pair k).2 A0 c0 l0 r w hr0 hc0 h
set_option maxHeartbeats 8000000
set_option maxRecDepth 100000
mutual
def fQ.l0:Nat→Int→List (eG)→List ByteArray→List (kE)→List (eG)→List ByteArray→List (kE)→Option ((List (eG))×List ByteArray×(List (kE)))
 |0,_,_,_,_,_,_,_=>none
 |k+1,x4,aqf,aqg,QJ,agZ,ag0,aa9=>if x4<(QJ.length:Int)then(if 0≤x4 then((fQ.f k ((aV QJ x4).f0) ((aV QJ x4).f1) ((aV QJ x4).f2)).bind fun akz=>(if aa9.length<1954687338268 then(fQ.l0 k (wrap64 (x4+1)) aqf aqg QJ agZ ag0 (aa9++[(⟨akz.1,akz.2.1,akz.2.2⟩:kE)]))else(none)))else(none))else(some (agZ,ag0,aa9))
def fQ.f:Nat→List (eG)→List ByteArray→List (kE)→Option ((List (eG))×List ByteArray×(List (kE)))
 |0,_,_,_=>none
 |k+1,dL,dA,aJ=>(some (([]:List (eG)):List (eG))).bind fun akA=>(if akA.length+dL.length<4398046511104 then((some (([]:List ByteArray):List ByteArray)).bind fun akB=>(if akB.length+dA.length<8796093022208 then(fQ.l0 k 0 dL dA aJ (akA++dL) (akB++dA) ([]:List (kE)))else(none)))else(none))
end
def fQ.T1:Bool×List (List Nat×List Nat):=(true,[([],[]),([],[]),([1],[1]),([0,2],[0,2]),([],[]),([],[]),([5],[5]),([4,6,3],[4,6]),([3,7],[3,7]),([],[]),([9,8,7,0,1,2,3,4,5,6,7,8,9],[8,9])])
def fQ.B1:List Nat:=[0,0,2,7,0,0,32,127,255,0,1023]
theorem fQ.aKi:zM .any (opsOf Tryz.f44 1)=fQ.T1:=by kernel_rfl
theorem fQ.aAp:wF fQ.T1.2 fQ.B1=true:=by kernel_rfl
def fQ.T5:Bool×List (List Nat×List Nat):=(true,[([],[]),([0],[0]),([],[]),([2],[2]),([],[]),([3,4],[3,4]),([5],[5]),([6],[6]),([7],[7]),([1,8,7],[1,8]),([0,1,2,3,4,5,6,7,8,9],[]),([10,9,9,0,1,2,3,4,5,6,7,8,9],[9,10])])
def fQ.B5:List Nat:=[0,1,0,4,0,28,60,124,252,511,1023,2047]
theorem fQ.awm:zM .any (opsOf Tryz.f44 5)=fQ.T5:=by kernel_rfl
theorem fQ.akC:wF fQ.T5.2 fQ.B5=true:=by kernel_rfl
theorem fQ.calls(k:Nat):∀(kC:Option Addr) (kD:Nat) (dL:List (eG)) (jS:Option Addr) (jT:Nat) (dA:List ByteArray) (iR:Option Addr) (fU:Nat) (aJ:List (kE)) (r1:List (eG)) (r2:List ByteArray) (r3:List (kE)) (w:World) (oK:Kd.C o9 w kC dL.length dL) (oL:dL.length≤kD) (oM:Kd.C Kd.string w jS dA.length dA) (oN:dA.length≤jT) (kZ:Kd.C k27 w iR aJ.length aJ) (lg:aJ.length≤fU) (h:fQ.f k dL dA aJ=some (r1,r2,r3)),
  Calls Tryz.prog 44 #[.agg #[.slice kC dL.length kD, .slice jS dA.length jT, .slice iR aJ.length fU]] w fun e w'=>∃nC BR EN:Value,e= .returned (.agg #[nC,BR,EN])∧Kd.R o9 43 w' w.heap.size (fun _=>True) nC r1∧Kd.R Kd.string 9 w' w.heap.size (fun _=>True) BR r2∧Kd.R k27 27 w' w.heap.size (fun k_=>some k_≠(nC:Value).ownBlock∧some k_≠(BR:Value).ownBlock) EN r3∧Below w.heap.size w w':=by
 induction k using Nat.strongRecOn with
 |_ k ih=>
 intro kC kD dL jS jT dA iR fU aJ r1 r2 r3 w oK oL oM oN kZ lg h
 cases k with
 |zero=>exact absurd h (by simp[fQ.f])
 |succ k=>
 simp only[fQ.f]at h;have Fg:=underlying27;have rJ:=ak oK;have su:=ak oL;clear oK oL;have vI:=ak oM;have yP:=ak oN;clear oM oN;have kK:=ak kZ;have oh:=ak lg;clear kZ lg;have HB:=ak (Below.refl w.heap.size w);have H:=h;clear h;replace H:=ny H;obtain⟨akA,aAq,H⟩:=H;replace H:=nl H;obtain⟨awj,H⟩:=H;obtain⟨PN,asA⟩:=nm (akA++dL);rw[←asA.out]at H;replace H:=ny H;obtain⟨akB,aAr,H⟩:=H;replace H:=nl H;obtain⟨ajj,H⟩:=H;obtain⟨PO,asB⟩:=nm (akB++dA);rw[←asB.out]at H;have H':=ak H;clear H;go_enter func44,ntmps44;try go_wp2_with (first|(refine bX HB 1 #[.slice kC dL.length kD, .slice jS dA.length jT, .slice iR aJ.length fU] 27 ?_;intro xW w4 l9 aOA hb;replace HB:=bs HB hb;clear hb)|(refine bY HB 2 #[.slice none 0 0, .slice none 0 0, .slice none 0 0] 27 ?_;intro H8 w5 sS aOB hg hb;have aac:=yQ l9 hg;have aad:=yR l9 hg;replace l9:=kb l9 hb;replace HB:=bz HB hb;clear hb hg))
 replace l9:=ak (jI l9.out);replace sS:=ak (jI sS.out);replace HB:=ak (iE HB.out);refine Eu (n:=11) (S:=fun w'=>w'.cell? ⟨xW,0,none⟩=some (.slice kC dL.length kD)∧w'.cell? ⟨xW,1,none⟩=some (.slice jS dA.length jT)∧w'.cell? ⟨xW,2,none⟩=some (.slice iR aJ.length fU)) (ds:=[]) #[false,false,false,false,false,false,false,false,false,false,false] (by kernel_rfl) rfl rfl ⟨(aH l9.out 0).trans rfl,(aH l9.out 1).trans rfl,(aH l9.out 2).trans rfl⟩ (fun hHeld=>?_);refine wG fQ.aKi fQ.aAp (fun Jk HW_=>?_)
 generalize w5.drew=w6 at l9 sS HB hHeld⊢
 refine pl 1 ?_;refine pl 5 ?_;refine tk 2 ?_;refine tk 6 ?_;refine ag1 (σ:=Value×Value×Value×Value×Nat) 1 #[true,true,true,true,true,true,true,true,true,true,false] (fun s_=>[(5,s_.1),(8,s_.2.1),(9,s_.2.2.1),(12,s_.2.2.2.1),(3, .pointer (some ⟨s_.2.2.2.2,0,none⟩)),(13, .agg #[s_.2.1,s_.2.2.2.1, .slice none 0 0])]) (fun s_ w'=>(w'.cell? ⟨xW,0,none⟩=some (.slice kC dL.length kD)∧w'.cell? ⟨xW,1,none⟩=some (.slice jS dA.length jT)∧w'.cell? ⟨xW,2,none⟩=some (.slice iR aJ.length fU))∧(Kd.R o9 43 w' w.heap.size (fun _=>True) s_.2.1 PN)∧(Kd.R Kd.string 9 w' w.heap.size (fun _=>True) s_.2.2.2.1 PO)∧(w'.heap[xW]? =some (.cells #[.slice kC dL.length kD, .slice jS dA.length jT, .slice iR aJ.length fU] 27 (0,0)))∧(w'.heap[H8]? =some (.cells #[.slice none 0 0, .slice none 0 0, .slice none 0 0] 27 (0,0)))∧(w'.heap[s_.2.2.2.2]? =some (.cells #[.slice none 0 0, .slice none 0 0, .slice none 0 0] 27 (0,0)))∧(w.heap.size≤s_.2.2.2.2)∧(w.heap.size≤s_.2.2.2.2)∧(xW≠s_.2.2.2.2)∧(s_.2.2.2.2≠xW)∧(H8≠s_.2.2.2.2)∧(s_.2.2.2.2≠H8)∧(Below w.heap.size w w')) ?_ ?_
 rotate_left
 ·intro hJ
  repeat' (first
   |(obtain⟨Ji,Jj,ZI⟩:=aC KD.out;obtain⟨OU,LD,ac1⟩:=aC KE.out;subst ZI;subst ac1;refine pl 8 ?_)
   |exact FX (by first|(simp only[Ac,Act.put,yX,yY,l_c];done)|(simp only[Ac,Act.put,yX,yY,l_c];rfl)) (hJ (awn, .slice Ji PN.length Jj,awo, .slice OU PO.length LD,uy) _ ⟨hHeld,KD.out,KE.out,l9.out,sS.out,oq.out,akD.out,akD.out,qj.out,Bg.out,Dp.out,Dq.out,HB.out⟩)
   |((first|refine th3 0 4 9 ?_ ?_ ?_|refine th3 3 4 9 ?_ ?_ ?_|refine tw2 0 4 ?_ ?_|refine tw2 0 9 ?_ ?_|refine tw2 3 4 ?_ ?_|refine tw2 3 9 ?_ ?_|refine tw2 4 9 ?_ ?_|refine tw2 7 9 ?_ ?_|refine o1 0 ?_|refine o1 3 ?_|refine o1 4 ?_|refine o1 7 ?_|refine o1 9 ?_)<;>(intro K hK;first
    |(refine gn 3 ?_;refine D6 ?hg (N:=3) ?hd (cs:=#[.slice none 0 0, .slice none 0 0, .slice none 0 0]) (t:=27) ?hr ?_;(case hd=>rfl);(case hg=>rfl);(case hr=>first|(go_simp;done)|(go_simp;rfl));intro uy hg w_ hbox hb;have akD:=ge_ HB hg;have qj:=yQ l9 hg;have Bg:=yR l9 hg;have Dp:=yQ sS hg;have Dq:=yR sS hg;(try replace FY:=rb FY hb);(try replace KD:=rb KD hb);(try replace FZ:=rb FZ hb);(try replace KE:=rb KE hb);replace l9:=kb l9 hb;replace sS:=kb sS hb;replace HB:=bs HB hb;have oq:=ak hbox;clear hbox hb hg;refine hK.out _ _ sx (fun hHeld=>?_);clear hK K;refine nrm ?_)
    |(refine gn 5 ?_;refine uK o9 _ 43 ?hg (N:=5) ?hd (xs:=([]:List eG)) (inner:=[]) (ok:=fun _=>True) (wH:=fun _=>True) ?hr ?hp (fun _ hk=>hk) trivial (Below.refl _ _) (Nat.le_refl _) (by simp) ?_;(case hd=>rfl);(case hg=>rfl);(case hr=>first|(go_simp;done)|(go_simp;rfl));(case hp=>exact(dG.none _ _));intro awn w_ ho hb _ _;rw[←aAq.out]at ho;replace ho:=au ho (aj (ul HB.out));(try replace FY:=rb FY hb);(try replace KD:=rb KD hb);(try replace FZ:=rb FZ hb);(try replace KE:=rb KE hb);(try replace oq:=kb oq hb);replace l9:=kb l9 hb;replace sS:=kb sS hb;replace HB:=bs HB hb;have FY:=ak ho;clear ho hb;refine hK.out _ _ sx (fun hHeld=>?_);clear hK K;refine nrm ?_)
    |(refine gn 9 ?_;refine uK Kd.string _ 9 ?hg (N:=9) ?hd (xs:=([]:List ByteArray)) (inner:=[]) (ok:=fun _=>True) (wH:=fun _=>True) ?hr ?hp (fun _ hk=>hk) trivial (Below.refl _ _) (Nat.le_refl _) (by simp) ?_;(case hd=>rfl);(case hg=>rfl);(case hr=>first|(go_simp;done)|(go_simp;rfl));(case hp=>exact(dG.none _ _));intro awo w_ ho hb _ _;rw[←aAr.out]at ho;replace ho:=au ho (aj (ul HB.out));(try replace FY:=rb FY hb);(try replace KD:=rb KD hb);(try replace FZ:=rb FZ hb);(try replace KE:=rb KE hb);(try replace oq:=kb oq hb);replace l9:=kb l9 hb;replace sS:=kb sS hb;replace HB:=bs HB hb;have FZ:=ak ho;clear ho hb;refine hK.out _ _ sx (fun hHeld=>?_);clear hK K;refine nrm ?_)
    |(refine gn 8 ?_;refine xk o9 (w0:=w) w.heap.size (by rfl) (.tmp 5) (.tmp 7) 23 43 (.agg #[(.string ⟨#[]⟩),(.string ⟨#[]⟩)]) 32 rfl underlying23 Dn rfl (by decide) (by omega) awn akA dL _ _ _ (fun _=>True) (fun _=>False) rfl rfl FY.out (aI rJ.out HB.out) (fun _ _ h=>h) (fun _ h=>h.elim) (fun _ _=>trivial) HB.out (aj HB.out) (by have:=awj.out;omega) ?_;intro aAs w_ ho hb hg hat;rw[←asA.out]at ho;(try replace FZ:=ak (oO FZ.out (jA FY.out) (by decide) hg));(try replace KE:=ak (oO KE.out (jA FY.out) (by decide) hg));(try replace oq:=ak (bJ oq.out hg (rM FY.out oq.out (by decide))));replace l9:=ak (bJ l9.out hg (rM FY.out l9.out (by decide)));replace sS:=ak (bJ sS.out hg (rM FY.out sS.out (by decide)));replace HB:=ak hb;have KD:=ak ho;clear FY ho hb hg hat;refine hK.out _ _ sx (fun hHeld=>?_);clear hK K;refine nrm ?_)
    |(refine gn 12 ?_;refine xk Kd.string (w0:=w) w.heap.size (by rfl) (.tmp 9) (.tmp 11) 24 9 (.string ⟨#[]⟩) 16 rfl underlying24 info9 rfl (by decide) (by omega) awo akB dA _ _ _ (fun _=>True) (fun _=>False) rfl rfl FZ.out (aI vI.out HB.out) (fun _ _ h=>h) (fun _ h=>h.elim) (fun _ _=>trivial) HB.out (aj HB.out) (by have:=ajj.out;omega) ?_;intro aAt w_ ho hb hg hat;rw[←asB.out]at ho;(try replace FY:=ak (oO FY.out (jA FZ.out) (by decide) hg));(try replace KD:=ak (oO KD.out (jA FZ.out) (by decide) hg));(try replace oq:=ak (bJ oq.out hg (rM FZ.out oq.out (by decide))));replace l9:=ak (bJ l9.out hg (rM FZ.out l9.out (by decide)));replace sS:=ak (bJ sS.out hg (rM FZ.out sS.out (by decide)));replace HB:=ak hb;have KE:=ak ho;clear FZ ho hb hg hat;refine hK.out _ _ sx (fun hHeld=>?_);clear hK K;refine nrm ?_))))
 rintro⟨awn,aAs,awo,aAt,uy⟩ w16 ⟨hS_,h0_,h1_,h2_,h3_,h4_,h5_,h6_,h7_,h8_,h9_,aa_,ajm⟩;have Am:ah (Kd.R o9 43 w16 w.heap.size (fun _=>True) aAs PN):=⟨h0_⟩
 have Ap:ah (Kd.R Kd.string 9 w16 w.heap.size (fun _=>True) aAt PO):=⟨h1_⟩
 have BX:ah (w16.heap[xW]? =some (.cells #[.slice kC dL.length kD, .slice jS dA.length jT, .slice iR aJ.length fU] 27 (0,0))):=⟨h2_⟩
 have EO:ah (w16.heap[H8]? =some (.cells #[.slice none 0 0, .slice none 0 0, .slice none 0 0] 27 (0,0))):=⟨h3_⟩
 have Jl:ah (w16.heap[uy]? =some (.cells #[.slice none 0 0, .slice none 0 0, .slice none 0 0] 27 (0,0))):=⟨h4_⟩
 have KF:ah (w.heap.size≤uy):=⟨h5_⟩
 have LG:ah (w.heap.size≤uy):=⟨h6_⟩
 have Vk:ah (xW≠uy):=⟨h7_⟩
 have Xh:ah (uy≠xW):=⟨h8_⟩
 have n9_:ah (H8≠uy):=⟨h9_⟩
 have LH:ah (uy≠H8):=⟨aa_⟩
 have akE:ah (Below w.heap.size w w16):=⟨ajm⟩
 clear l9 sS HB h0_ h1_ h2_ h3_ h4_ h5_ h6_ h7_ h8_ h9_ aa_ ajm;have KD:=Am;have KE:=Ap;have l9:=BX;have sS:=EO;have oq:=Jl;have akD:=KF;have aOC:=LG;have qj:=Vk;have Bg:=Xh;have Dp:=n9_;have Dq:=LH;have HB:=akE;clear Am Ap BX EO Jl KF LG Vk Xh n9_ LH akE;have hHeld:w16.cell? ⟨xW,0,none⟩=some (.slice kC dL.length kD)∧w16.cell? ⟨xW,1,none⟩=some (.slice jS dA.length jT)∧w16.cell? ⟨xW,2,none⟩=some (.slice iR aJ.length fU):=hS_;obtain⟨OU,LD,ac1⟩:=aC KE.out
 (first|subst ac1|(injection ac1 with tY Ad tZ;have Ae:=tY.symm;have Af:=tZ.symm;clear tY Ad tZ;subst Ae;subst Af));obtain⟨Ji,Jj,ZI⟩:=aC KD.out
 (first|subst ZI|(injection ZI with tY Ad tZ;have Ae:=tY.symm;have Af:=tZ.symm;clear tY Ad tZ;subst Ae;subst Af));refine FX (a':=?_) ?_ ?_
 rotate_left
 ·simp only[Ac,Act.put,yX,yY,l_c];rfl
 refine o1 10 (fun K hK=>?_);have aSN:w16.cell? ⟨uy,0,none⟩=some (.slice none 0 0):=(aH oq.out 0).trans rfl;have aOD:=eu oq.out 0;have aIM:=qj.out;have aIN:=Dp.out;have aIO:=Bg.out;have aIP:=Dq.out;have aSO:w16.cell? ⟨uy,1,none⟩=some (.slice none 0 0):=(aH oq.out 1).trans rfl;have aOE:=eu oq.out 1;have aIQ:=qj.out;have aIR:=Dp.out;have aIS:=Bg.out;have aIT:=Dq.out;have aSP:w16.cell? ⟨uy,2,none⟩=some (.slice none 0 0):=(aH oq.out 2).trans rfl;have aOF:=eu oq.out 2;have aIU:=qj.out;have aIV:=Dp.out;have aIW:=Bg.out;have aIX:=Dq.out;refine F5 (w1:=?_) (by rfl) rfl ?_ ?_
 rotate_left
 ·go_simp;rfl
 refine hK.out _ _ ⟨((cell_far (p:=⟨uy,_,none⟩) qj.out _).trans (((cell_far (p:=⟨uy,_,none⟩) qj.out _).trans (((cell_far (p:=⟨uy,_,none⟩) qj.out _).trans (hHeld.1)))))),((cell_far (p:=⟨uy,_,none⟩) qj.out _).trans (((cell_far (p:=⟨uy,_,none⟩) qj.out _).trans (((cell_far (p:=⟨uy,_,none⟩) qj.out _).trans (hHeld.2.1)))))),((cell_far (p:=⟨uy,_,none⟩) qj.out _).trans (((cell_far (p:=⟨uy,_,none⟩) qj.out _).trans (((cell_far (p:=⟨uy,_,none⟩) qj.out _).trans (hHeld.2.2))))))⟩ (fun hHeld=>?_);clear hK K;refine KG (BZ Jk.out (by kernel_rfl)) ?_;try go_wp2
 go_loopg [4] k (fun kq v4 w'=>∃(cO:Int) (FN:List (kE)) (DN:Value),v4= .int .i64 cO∧ah (fQ.l0 kq cO dL dA aJ PN PO FN=some (r1,r2,r3))∧ah (kq≤k)∧ah (Kd.R o9 43 w' w.heap.size (fun _=>True) (.slice Ji PN.length Jj) PN)∧ah (Kd.R Kd.string 9 w' w.heap.size (fun _=>True) (.slice OU PO.length LD) PO)∧ah (Kd.R k27 27 w' w.heap.size (fun k_=>some k_≠((.slice Ji PN.length Jj):Value).ownBlock∧some k_≠((.slice OU PO.length LD):Value).ownBlock∧k_≠xW∧k_≠H8∧k_≠uy) DN FN)∧ah (w'.heap[xW]? =some (.cells #[(.slice kC dL.length kD),(.slice jS dA.length jT),(.slice iR aJ.length fU)] 27 (0,0)))∧ah (w'.heap[H8]? =some (.cells #[(.slice none 0 0),(.slice none 0 0),(.slice none 0 0)] 27 (0,0)))∧ah (w'.heap[uy]? =some (.cells #[(.slice Ji PN.length Jj),(.slice OU PO.length LD),DN] 27 (0,0)))∧ah (Below w.heap.size w w'))
 case atStart=>exact⟨_,_,_,rs,H',⟨Nat.le_refl _⟩,⟨rr⟩,⟨rr⟩,⟨nx⟩,⟨bq⟩,⟨bq⟩,⟨bq⟩,⟨bb⟩⟩
 case round=>
  clear H';obtain⟨cO,FN,DN,rfl,HA,y5,vw,vC,qU,l9,sS,oq,HB⟩:=hrel
  cases gk with
  |zero=>exact zz HA.out
  |succ k1=>
   obtain⟨H⟩:=HA;simp only[fQ.l0]at H;replace H:=sd H;rcases H with⟨H9,H⟩|⟨H9,H⟩
   ·replace H:=nO H;obtain⟨EP,H⟩:=H;replace H:=bd H;obtain⟨⟨akF,akG,akH⟩,A24,H⟩:=H
    (try dsimp only at H);replace H:=nl H;obtain⟨Xi,H⟩:=H;obtain⟨aSQ,asC⟩:=nm (FN++[(⟨akF,akG,akH⟩:kE)]);rw[←asC.out]at H;have H':=ak H;clear H;have aAu:=aac.out;have aAv:=aad.out;have akI:=qj.out;have akJ:=Bg.out;have akK:=iZ l9.out;try go_wp2
    replace vw:=ak (nI vw.out);replace vC:=ak (nI vC.out);replace qU:=ak (nI qU.out);replace l9:=ak (jI l9.out);replace sS:=ak (jI sS.out);replace oq:=ak (jI oq.out);replace HB:=ak (iE HB.out);have awp:=zi cO;have awq:=zj cO aJ.length;obtain⟨QK,akL,akM,akN,akO,akP,akQ,aKk,WB,WC,WE,ag2,ag3,ag4,ag5,ag6,ag7⟩:=Et kK.out cO awp awq;have DR:=WE;have DT:=WC;have DU:=WB;cases aKk;replace WB:=cl HB.out WB;replace WC:=cl HB.out WC;replace WE:=cl HB.out WE;have ag8:=ak ag3;have aqh:=ak ag2;clear ag3 ag2;have ag9:=ak ag5;have aqi:=ak ag4;clear ag5 ag4;have ag_:=ak ag7;have aqj:=ak ag6;clear ag7 ag6;replace awp:=eq_true awp;replace awq:=eq_true awq;refine Eu (n:=12) (S:=fun w'=>w'.cell? ⟨uy,0,none⟩=some (.slice Ji PN.length Jj)∧w'.cell? ⟨uy,1,none⟩=some (.slice OU PO.length LD)∧w'.cell? ⟨uy,2,none⟩=some (DN)∧w'.cell? ⟨xW,0,none⟩=some (.slice kC dL.length kD)∧w'.cell? ⟨xW,1,none⟩=some (.slice jS dA.length jT)∧w'.cell? ⟨xW,2,none⟩=some (.slice (some QK) aJ.length fU)∧w'.cell? (QK.add ((cO).toNat*3))=some (.slice akL ((aV aJ cO).f0).length akM)∧w'.cell? ⟨(QK.add ((cO).toNat*3)).block,(QK.add ((cO).toNat*3)).off+1,none⟩=some (.slice akN ((aV aJ cO).f1).length akO)∧w'.cell? ⟨(QK.add ((cO).toNat*3)).block,(QK.add ((cO).toNat*3)).off+2,none⟩=some (.slice akP ((aV aJ cO).f2).length akQ)) (ds:=[11]) #[false,false,false,false,false,false,false,false,false,false,false,false] (by kernel_rfl) rfl rfl ⟨(aH oq.out 0).trans rfl,(aH oq.out 1).trans rfl,(aH oq.out 2).trans rfl,(aH l9.out 0).trans rfl,(aH l9.out 1).trans rfl,(aH l9.out 2).trans rfl,((HB.out.cell (World.block_lt_of_cell? w _ DU)).trans DU),((HB.out.cell (World.block_lt_of_cell? w _ DT)).trans DT),((HB.out.cell (World.block_lt_of_cell? w _ DR)).trans DR)⟩ (fun hHeld=>?_);refine wG fQ.awm fQ.akC (fun Jk HW_=>?_)
    generalize wr.drew=w29 at vw vC qU l9 sS oq HB ag8 ag9 ag_ WB WC WE hHeld⊢
    refine pl 0 ?_;refine pl 2 ?_;refine pl 4 ?_;refine tk 1 ?_;refine tk 3 ?_;refine pl 5 ?_;refine tk 6 ?_;refine o1 7 (fun K hK=>?_);refine Bh func44 (by kernel_rfl) rfl #[.agg #[.slice akL ((aV aJ cO).f0).length akM, .slice akN ((aV aJ cO).f1).length akO, .slice akP ((aV aJ cO).f2).length akQ]] (by rfl) rfl rfl ma ?_
    with_reducible refine(ih k1 (by have:=y5.out;omega) _ _ ((aV aJ cO).f0) _ _ ((aV aJ cO).f1) _ _ ((aV aJ cO).f2) akF akG akH _ ?dR ?jm ?pq ?Jm ?xX ?aAw A24.out).mono ?_
    (case dR=>repeat(first|exact(aI ag8.out HB.out)|(with_reducible refine Kd.lM ?_ _)|(with_reducible refine Kd.lQ ?_ _)|(with_reducible refine Kd.oz ?_)))
    (case jm=>exact aqh.out)
    (case pq=>repeat(first|exact(aI ag9.out HB.out)|(with_reducible refine Kd.lM ?_ _)|(with_reducible refine Kd.lQ ?_ _)|(with_reducible refine Kd.oz ?_)))
    (case Jm=>exact aqi.out)
    (case xX=>repeat(first|exact(aI ag_.out HB.out)|(with_reducible refine Kd.lM ?_ _)|(with_reducible refine Kd.lQ ?_ _)|(with_reducible refine Kd.oz ?_)))
    (case aAw=>exact aqj.out);rintro e w30 ⟨aSR,aSS,aST,rfl,ho0,ho1,ho2,hb⟩;refine⟨_,rfl,?_⟩;have akR:=ak (au (dM ho0 (jl (ur vw.out))) (aj bb));have akS:=ak (au (dM ho1 (jl (ur vC.out))) (aj bb));have akT:=ak (au (jH (jH (jH (dM (dM (dM ho2 (jl (ur vw.out))) (jl (ur vC.out))) (jl (ur qU.out))) (g:=xW) (o:= .cells #[.slice kC dL.length kD, .slice jS dA.length jT, .slice (some QK) aJ.length fU] 27 (0,0)) (ub l9.out)) (g:=H8) (o:= .cells #[.slice none 0 0, .slice none 0 0, .slice none 0 0] 27 (0,0)) (ub sS.out)) (g:=uy) (o:= .cells #[.slice Ji PN.length Jj, .slice OU PO.length LD,DN] 27 (0,0)) (ub oq.out)) (aj bb));replace vw:=ak (dH (ur vw.out) (bK ho0) hb);replace vC:=ak (dH (ur vC.out) (bK ho1) hb);replace qU:=ak (aG (oC (oC (oC (Vj (ur qU.out) hb) (bK ho0)) (bK ho1)) (bK ho2)) (fun _ h_=>h_.1));replace l9:=kb l9 hb;replace sS:=kb sS hb;replace oq:=kb oq hb;replace HB:=bz HB hb;try clear hb
    try clear ho0
    try clear ho1
    try clear ho2
    obtain⟨aqk,aql,aqm⟩:=aC akR.out
    (first|subst aqm|(injection aqm with tY Ad tZ;have Ae:=tY.symm;have Af:=tZ.symm;clear tY Ad tZ;subst Ae;subst Af));obtain⟨Ui,PS,Uj⟩:=aC akS.out
    (first|subst Uj|(injection Uj with tY Ad tZ;have Ae:=tY.symm;have Af:=tZ.symm;clear tY Ad tZ;subst Ae;subst Af));obtain⟨aqn,aqo,abb⟩:=aC akT.out
    (first|subst abb|(injection abb with tY Ad tZ;have Ae:=tY.symm;have Af:=tZ.symm;clear tY Ad tZ;subst Ae;subst Af));refine hK.out _ _ ⟨(aH oq.out 0).trans rfl,(aH oq.out 1).trans rfl,(aH oq.out 2).trans rfl,(aH l9.out 0).trans rfl,(aH l9.out 1).trans rfl,(aH l9.out 2).trans rfl,((HB.out.cell (World.block_lt_of_cell? w _ DU)).trans DU),((HB.out.cell (World.block_lt_of_cell? w _ DT)).trans DT),((HB.out.cell (World.block_lt_of_cell? w _ DR)).trans DR)⟩ (fun hHeld=>?_);clear hK K;refine nrm ?_;refine o1 8 (fun K hK=>?_);refine IV (w1:=?_) (v:=?_) (by rfl) rfl ?_ ?_
    rotate_left 2
    ·go_simp;constructor
     ·rfl
     ·rfl
    refine hK.out _ _ ⟨(aH (jP oq.out _) 0).trans rfl,(aH (jP oq.out _) 1).trans rfl,(aH (jP oq.out _) 2).trans rfl,(aH (jP l9.out _) 0).trans rfl,(aH (jP l9.out _) 1).trans rfl,(aH (jP l9.out _) 2).trans rfl,(World.cell?_alloc_lt _ _ _ (World.block_lt_of_cell? _ _ (((HB.out.cell (World.block_lt_of_cell? w _ DU)).trans DU)))).trans (((HB.out.cell (World.block_lt_of_cell? w _ DU)).trans DU)),(World.cell?_alloc_lt _ _ _ (World.block_lt_of_cell? _ _ (((HB.out.cell (World.block_lt_of_cell? w _ DT)).trans DT)))).trans (((HB.out.cell (World.block_lt_of_cell? w _ DT)).trans DT)),(World.cell?_alloc_lt _ _ _ (World.block_lt_of_cell? _ _ (((HB.out.cell (World.block_lt_of_cell? w _ DR)).trans DR)))).trans (((HB.out.cell (World.block_lt_of_cell? w _ DR)).trans DR))⟩ (fun hHeld=>?_);clear hK K;refine nrm ?_;refine o1 9 (fun K hK=>?_);refine qH k27 (w0:=w) w.heap.size (by rfl) (.tmp 22) (.tmp 29) 25 27 (.agg #[(.slice none 0 0),(.slice none 0 0),(.slice none 0 0)]) 72 rfl underlying25 Ud rfl (by decide) (by omega) DN FN (⟨akF,akG,akH⟩:kE) [.slice aqk akF.length aql, .slice Ui akG.length PS, .slice aqn akH.length aqo] (fun k_=>some k_≠(.slice Ji PN.length Jj:Value).ownBlock∧some k_≠(.slice OU PO.length LD:Value).ownBlock∧k_≠xW∧k_≠H8∧k_≠uy) (fun k_=>((fun k_=>some k_≠(.slice Ji PN.length Jj:Value).ownBlock∧some k_≠(.slice OU PO.length LD:Value).ownBlock∧k_≠xW∧k_≠H8∧k_≠uy)) k_∧some k_≠(DN:Value).ownBlock) rfl rfl ?aP (fun _ hk=>hk) ?aF ?aO ?aB ?aS ?aL ?_
    (case aP=>exact Oc _ _ _ (⟨akF,akG,akH⟩:kE) (aG (jk (jk (jk (kM (kM (akR.out) (jA vC.out) (by decide)) (jA qU.out) (by decide)) l9.out (by decide)) sS.out (by decide)) oq.out (by decide)) (fun k_ hk=>⟨⟨hk.1.1.1.1.1.2,⟨hk.1.1.1.1.2,⟨hk.1.1.2,⟨hk.1.2,hk.2⟩⟩⟩⟩,hk.1.1.1.2⟩)) (aG (jk (jk (jk (kM (kM (akS.out) (jA vw.out) (by decide)) (jA qU.out) (by decide)) l9.out (by decide)) sS.out (by decide)) oq.out (by decide)) (fun k_ hk=>⟨⟨hk.1.1.1.1.2,⟨hk.1.1.1.1.1.2,⟨hk.1.1.2,⟨hk.1.2,hk.2⟩⟩⟩⟩,hk.1.1.1.2⟩)) (aG (akT.out) (fun k_ hk=>⟨⟨hk.1.1.1.1.1.2,⟨hk.1.1.1.1.2,⟨hk.1.1.2,⟨hk.1.2,hk.2⟩⟩⟩⟩,hk.1.1.1.2⟩)))
    (case aB=>exact bb)
    (case aF=>exact(fun k_ hk=>⟨Kd.fresh' (jl (ur vw.out)) k_ hk,Kd.fresh' (jl (ur vC.out)) k_ hk,u_ (g:=xW) (o:= .cells #[.slice kC dL.length kD, .slice jS dA.length jT, .slice (some QK) aJ.length fU] 27 (0,0)) (ub l9.out) k_ hk,u_ (g:=H8) (o:= .cells #[.slice none 0 0, .slice none 0 0, .slice none 0 0] 27 (0,0)) (ub sS.out) k_ hk,u_ (g:=uy) (o:= .cells #[.slice Ji PN.length Jj, .slice OU PO.length LD,DN] 27 (0,0)) (ub oq.out) k_ hk⟩))
    (case aO=>exact(ur (aG qU.out (fun _ hk=>⟨hk.1.1.1.1,⟨hk.1.1.1.2.1,⟨hk.1.1.1.2.2.1,⟨hk.1.1.1.2.2.2.1,hk.1.1.1.2.2.2.2⟩⟩⟩⟩))))
    (case aS=>exact(aj bb))
    (case aL=>have:=Xi.out;omega);intro aSU w31 ho hb hg hat
    rw[←asC.out]at ho;have Am:=ak (oO (ur vw.out) (jA (ur qU.out)) (by decide) hg);have Ap:=ak (oO (ur vC.out) (jA (ur qU.out)) (by decide) hg);have BX:=ak (bJ (g:=xW) (o:= .cells #[.slice kC dL.length kD, .slice jS dA.length jT, .slice (some QK) aJ.length fU] 27 (0,0)) (ub l9.out) hg (vY qU.out (fun _ hk=>hk.1.1.1.2.2.1)));have EO:=ak (bJ (g:=H8) (o:= .cells #[.slice none 0 0, .slice none 0 0, .slice none 0 0] 27 (0,0)) (ub sS.out) hg (vY qU.out (fun _ hk=>hk.1.1.1.2.2.2.1)));have Jl:=ak (bJ (g:=uy) (o:= .cells #[.slice Ji PN.length Jj, .slice OU PO.length LD,DN] 27 (0,0)) (ub oq.out) hg (vY qU.out (fun _ hk=>hk.1.1.1.2.2.2.2)));have KF:=ak (hb);have LG:=ak (ho);clear vw vC l9 sS oq HB qU akR akS akT;have vw:=Am;have vC:=Ap;have l9:=BX;have sS:=EO;have oq:=Jl;have HB:=KF;have aAx:=LG;clear Am Ap BX EO Jl KF LG ho hb hg hat
    obtain⟨aKl,aKm,aqp⟩:=aC aAx.out
    (first|subst aqp|(injection aqp with tY Ad tZ;have Ae:=tY.symm;have Af:=tZ.symm;clear tY Ad tZ;subst Ae;subst Af));refine hK.out _ _ ⟨(aH oq.out 0).trans rfl,(aH oq.out 1).trans rfl,(aH oq.out 2).trans rfl,(aH l9.out 0).trans rfl,(aH l9.out 1).trans rfl,(aH l9.out 2).trans rfl,((HB.out.cell (World.block_lt_of_cell? w _ DU)).trans DU),((HB.out.cell (World.block_lt_of_cell? w _ DT)).trans DT),((HB.out.cell (World.block_lt_of_cell? w _ DR)).trans DR)⟩ (fun hHeld=>?_);clear hK K;refine nrm ?_;refine pl 10 ?_;refine O6 (i:=11) (N:=none) #[true,true,true,true,true,true,true,true,true,true,true,true] rfl rfl (F6 Jk.out (by kernel_rfl)) (by decide) (fun K hK=>?_);have aKn:w31.cell? ⟨uy,2,none⟩=some (DN):=(aH oq.out 2).trans rfl;have aAy:=eu oq.out 2;have aqr:=qj.out;have aqs:=Dp.out;have aqt:=Bg.out;have aqu:=Dq.out;refine F5 (w1:=?_) (by rfl) rfl ?_ ?_
    rotate_left
    ·go_simp;rfl
    refine hK.out _ _ ?_;clear hK K;refine KG (BZ Jk.out (by kernel_rfl)) ?_;try go_wp2
    go_roundg k1
    case measure=>exact kl
    case rel=>exact⟨_,_,_,rs,H',⟨kl⟩,⟨rr⟩,⟨rr⟩,⟨rr⟩,⟨bq⟩,⟨bq⟩,⟨bq⟩,⟨bb⟩⟩
   ·obtain⟨rfl,rfl,rfl⟩:=s3 H;have aAz:=aac.out;have aAA:=aad.out;have aAB:=qj.out;have aAC:=Bg.out;have z39:=iZ l9.out;have asD:=Dq.out;have asE:=Dp.out;have awr:=iZ oq.out;have z42:=iZ sS.out;obtain⟨aKo,aKp,aKq⟩:=aC qU.out;subst aKq;go_wp2;refine bodyPost_ret (results_cell_row rfl _ _ H8 27 #[.slice Ji PN.length Jj, .slice OU PO.length LD, .slice aKo FN.length aKp] (0,0) _ rfl bq underlying27 rfl (by kernel_rfl)) rfl ?_;exact⟨_,_,_,er,rr,rr,rr,bb⟩
set_option maxHeartbeats 8000000
set_option maxRecDepth 100000
def bn(w0 W:World)(g:Nat)(f0:List Int)(f1:Int):Prop:=∃A0 c0,W.heap[g]? =some (.cells #[.slice A0 f0.length c0, .int .i64 f1] 67 (0,0))∧w0.heap.size≤g∧Kd.C (Kd.int .u8) w0 A0 f0.length f0
theorem bn.grown{w0 W:World}{g:Nat}{f0:List Int}{f1:Int}{W1:World}{row:Option Nat}(h:bn w0 W g f0 f1)(hw:W.grownBy W1 row)(hne:some g≠row):bn w0 W1 g f0 f1:=by
 obtain⟨A0,c0,hb,hg,hr0⟩:=h;exact⟨A0,c0,bJ hb hw hne,hg,hr0⟩
theorem bn.aIY{w0 W:World}{g:Nat}{f0:List Int}{f1:Int}{α:Type}{d:Kd α}{e:Nat}{base:Nat}{ok:Nat→Prop}{v:Value}{xs:List α}(h:bn w0 W g f0 f1)(ho:Kd.N d e W base ok v xs)(ht:e≠67):some g≠v.ownBlock:=by
 obtain⟨A0,c0,hb,hg,hr0⟩:=h;exact aKr ho hb ht
theorem bn.fresh{w0 W:World}{g:Nat}{f0:List Int}{f1:Int}(h:bn w0 W g f0 f1):∀k,W.heap.size≤k→k≠g:=by
 obtain⟨A0,c0,hb,hg,hr0⟩:=h;exact u_ hb
theorem bn.kept{w0 W:World}{g:Nat}{f0:List Int}{f1:Int}{W1:World}{S:Nat→Prop}(h:bn w0 W g f0 f1)(hk:Kept W W1 S)(hne:¬S g):bn w0 W1 g f0 f1:=by
 obtain⟨A0,c0,hb,hg,hr0⟩:=h;exact⟨A0,c0,akU hb hk hne,hg,hr0⟩
theorem bn.below{w0 W:World}{g:Nat}{f0:List Int}{f1:Int}{W1:World}(h:bn w0 W g f0 f1)(hw:Below W.heap.size W W1):bn w0 W1 g f0 f1:=h.grown (LJ hw none) (by simp)
theorem bn.alloc{w0 W:World}{g:Nat}{f0:List Int}{f1:Int}(h:bn w0 W g f0 f1)(o:Obj):bn w0 (W.alloc o) g f0 f1:=h.below (qZ (Below.refl _ _) o)
theorem bn.drewN{w0 W:World}{g:Nat}{f0:List Int}{f1:Int}(h:bn w0 W g f0 f1)(m:Nat):bn w0 (W.drewN m) g f0 f1:=h
theorem bn.drew{w0 W:World}{g:Nat}{f0:List Int}{f1:Int}(h:bn w0 W g f0 f1):bn w0 W.drew g f0 f1:=h
theorem bn.at_{w0 W:World}{g:Nat}{f0:List Int}{f1:Int}{w':World}{m:Nat}(hq:W.drewN m=w')(h:bn w0 W g f0 f1):bn w0 w' g f0 f1:=by subst hq;exact bn.drewN h m
theorem bn.apart{w0 W:World}{g:Nat}{f0:List Int}{f1:Int}{α:Type}{d:Kd α}{e:Nat}{base:Nat}{ok:Nat→Prop}{v:Value}{xs:List α}(h:bn w0 W g f0 f1)(ho:d.R e W base ok v xs)(ht:∀q,q∈e:: d.E→q≠67):d.R e W base (fun k=>ok k∧k≠g) v xs:=by
 obtain⟨A0,c0,hb,hg,hr0⟩:=h;exact jk ho hb ht
theorem bn.own_ne{w0 W:World}{g:Nat}{f0:List Int}{f1:Int}{α:Type}{d:Kd α}{e:Nat}{base:Nat}{ok:Nat→Prop}{v:Value}{xs:List α}(h:bn w0 W g f0 f1)(ho:d.R e W base ok v xs)(ht:e≠67):some g≠v.ownBlock:=by
 obtain⟨A0,c0,hb,hg,hr0⟩:=h;exact rM ho hb ht
theorem bn.aKs{w0 W:World}{g:Nat}{f0:List Int}{f1:Int}{α:Type}{d:Kd α}{e:Nat}{base:Nat}{ok:Nat→Prop}{v:Value}{xs:List α}(h:bn w0 W g f0 f1)(ho:d.Q e W base ok v xs)(ht:∀q,q∈e:: d.E→q≠67):d.Q e W base (fun k=>ok k∧k≠g) v xs:=by
 obtain⟨A0,c0,hb,hg,hr0⟩:=h;exact aqv ho hb ht
theorem bn.aIZ{w0 W:World}{g:Nat}{f0:List Int}{f1:Int}{α:Type}{d:Kd α}{e:Nat}{base:Nat}{ok:Nat→Prop}{v:Value}{xs:List α}(h:bn w0 W g f0 f1)(ho:d.Q e W base ok v xs)(ht:e≠67):some g≠v.ownBlock:=by
 obtain⟨A0,c0,hb,hg,hr0⟩:=h;exact aKt ho hb ht
theorem bn.aKu{w0 W:World}{g:Nat}{f0:List Int}{f1:Int}{α:Type}{d:Kd α}{e:Nat}{base:Nat}{ok:Nat→Prop}{v:Value}{xs:List α}(h:bn w0 W g f0 f1)(ho:d.S e W base ok v xs)(ht:∀q,q∈e:: d.E→q≠67):d.S e W base (fun k=>ok k∧k≠g) v xs:=by
 obtain⟨A0,c0,hb,hg,hr0⟩:=h;exact JM ho hb ht
theorem bn.aI0{w0 W:World}{g:Nat}{f0:List Int}{f1:Int}{α:Type}{d:Kd α}{e:Nat}{base:Nat}{ok:Nat→Prop}{v:Value}{xs:List α}(h:bn w0 W g f0 f1)(ho:d.S e W base ok v xs)(ht:e≠67):some g≠v.ownBlock:=by
 obtain⟨A0,c0,hb,hg,hr0⟩:=h;exact aqw ho hb ht
theorem bn.lt{w0 W:World}{g:Nat}{f0:List Int}{f1:Int}(h:bn w0 W g f0 f1):g<W.heap.size:=by
 obtain⟨A0,c0,hb,hg,hr0⟩:=h;exact yH hb
theorem bn.ge{w0 W:World}{g:Nat}{f0:List Int}{f1:Int}(h:bn w0 W g f0 f1):w0.heap.size≤g:=by
 obtain⟨A0,c0,hb,hg,hr0⟩:=h;exact hg
theorem bn.akV{w0 W:World}{g:Nat}{f0:List Int}{f1:Int}{a:Nat}{cs:Array Value}{t:TypeId}{fr:Nat×Nat}(h:bn w0 W g f0 f1)(hb2:W.heap[a]? =some (.cells cs t fr))(ht:t≠67):g≠a:=by
 obtain⟨A0,c0,hb,hg,hr0⟩:=h;rintro rfl;rw[hb]at hb2;injection hb2 with hb2;injection hb2 with _ ht2;exact ht ht2.symm
theorem bn.far{w0 W:World}{g:Nat}{f0:List Int}{f1:Int}{p:Addr}(h:bn w0 W g f0 f1)(hne:g≠p.block)(u:Value):bn w0 (W.setCell p u) g f0 f1:=by
 obtain⟨A0,c0,hb,hg,hr0⟩:=h;exact⟨A0,c0,WG hb hne u,hg,hr0⟩
theorem Oe{W:World}{g:Nat}{A0:Option Addr}{c0:Nat}{f0:List Int}{f1:Int}(h:W.heap[g]? =some (.cells #[.slice A0 f0.length c0, .int .i64 f1] 67 (0,0))):W.cell? ⟨g,0,none⟩=some (.slice A0 f0.length c0):=(aH h 0).trans rfl
theorem Og{W:World}{g:Nat}{A0:Option Addr}{c0:Nat}{f0:List Int}{f1:Int}(h:W.heap[g]? =some (.cells #[.slice A0 f0.length c0, .int .i64 f1] 67 (0,0))):W.cell? ⟨g,1,none⟩=some (.int .i64 f1):=(aH h 1).trans rfl
theorem bn.aAD{w0 W:World}{g:Nat}{f0:List Int}{f1:Int}(h:bn w0 W g f0 f1)(x:Int):bn w0 (W.setCell ⟨g,1,none⟩ (.int .i64 x)) g f0 x:=by
 obtain⟨A0,c0,hb,hg,hr0⟩:=h;exact⟨A0,c0,by simpa using WH hb 1 (.int .i64 x),hg,hr0⟩
theorem bn.new(w0 W:World)(A0:Option Addr)(c0:Nat)(f0:List Int)(f1:Int)(hB:Below w0.heap.size w0 W)(hr0:Kd.C (Kd.int .u8) w0 A0 f0.length f0):bn w0 (W.alloc (.cells #[.slice A0 f0.length c0, .int .i64 f1] 67)) W.heap.size f0 f1:=⟨A0,c0,by simpa using heap_alloc_new W _,hB.size,hr0⟩
theorem qV{p:Prop}(h:p:=by repeat(first|(with_reducible first|exact ah.out (by assumption)|apply bn.alloc|apply bn.drewN|apply bn.drew|apply bn.aAD|refine bn.far ?_ (ah.out (by assumption)) _)|exact ah.out (by assumption))):p:=h
theorem qy{p:Prop}(h:p:=by repeat(first|(with_reducible first|exact ah.out (by assumption)|apply qZ|apply sD|apply iE|refine vF ?_ (bn.ge (ah.out (by assumption)))|refine vF ?_ (ah.out (by assumption)))|exact ah.out (by assumption))):p:=h
theorem bS{P:Program}{ops:Array Oper}{o:Oper}{rest:List Oper}{a:Act}{Q:Exit→Act→World→Prop}{w0 w W c1 c2 c3:World}{g:Nat}{f0:List Int}{f1 f2:Int}(_HI:ah (bn w0 c1 g f0 f1))(_HK:ah (aN w c2 g none))(_HB:ah (Below w0.heap.size w0 c3))(HW:ah (w0.heap.size≤w.heap.size))(N:Nat)(cs:Array Value)(t:TypeId)
  (h:∀b w1,ah (w1.heap[b]? =some (.cells cs t (0,0)))→ah (w.heap.size≤b)→ah (w0.heap.size≤b)→ah (g≠b)→ah (b≠g)→b=W.heap.size→Below W.heap.size W w1→ah (bn w0 w1 g f0 f2)→ah (aN w w1 g none)→ah (Below w0.heap.size w0 w1)→wpList P ops Q rest (a.put o.dst (.pointer (some ⟨b,0,none⟩))) w1)
  (hd:o.dst=some N:=by with_reducible rfl) (hg:o.guard=none:=by with_reducible rfl) (hr:(execOp a.eval o).run P W= .ok (.value (.pointer (some ⟨W.heap.size,0,none⟩))) (W.alloc (.cells cs t (0,0))):=by first|(go_simp;done)|(go_simp;rfl)) (hI:bn w0 W g f0 f2:=by exact qV) (hK:aN w W g none:=by exact kk) (hB:Below w0.heap.size w0 W:=by exact qy):wpList P ops Q (o:: rest) a W:=
 bE N cs t (fun b hb w1 h1 hw=>h b w1 ⟨h1⟩ ⟨by rw[hb];exact dW hK⟩ ⟨Nat.le_trans HW.out (by rw[hb];exact dW hK)⟩ ⟨by rw[hb];exact Nat.ne_of_lt hI.lt⟩ ⟨by rw[hb];exact Nat.ne_of_gt hI.lt⟩ hb hw ⟨hI.below hw⟩ ⟨hK.trans (aN.of_below hw g none) (.inl rfl)⟩ ⟨iM hB hw⟩) hd hg hr
theorem ki{α:Type}{d:Kd α}{e base:Nat}{ok:Nat→Prop}{v:Value}{xs:List α}{w0 a b c:World}{g:Nat}{f0:List Int}{f1:Int}(_old:ah (Kd.R d e a base ok v xs))(hk:aN b c g none)(hI:bn w0 b g f0 f1:=by exact qV)(h:Kd.R d e b base ok v xs:=by exact rr)(ht:∀q,q∈e:: d.E→q≠67:=by decide):ah (Kd.R d e c base ok v xs):=⟨aG (PU (hI.apart h ht) hk (fun _ h=>h.2)) (fun _ h=>h.1)⟩
theorem kj{α β:Type}{d:Kd α}{e base:Nat}{ok:Nat→Prop}{v:Value}{xs:List α}{w0 a b c:World}{g:Nat}{f0:List Int}{f1:Int}{d':Kd β}{e':Nat}{ok':Nat→Prop}{v':Value}{ys:List β}(_old:ah (Kd.R d e a base ok v xs))(hk:aN b c g none)(ho:Kd.R d' e' c b.heap.size ok' v' ys)(hI:bn w0 b g f0 f1:=by exact qV)(h:Kd.R d e b base ok v xs:=by exact rr)(ht:∀q,q∈e:: d.E→q≠67:=by decide):ah (Kd.R d e c base (fun k=>ok k∧some k≠v'.ownBlock) v xs):=⟨aG (oC (abd (hI.apart h ht) hk) (bK ho)) (fun _ h=>h.1)⟩
def uh.f(l0:List Int):Option (List Int×Int):=if(l0.length:Int)>2000 then(if 2000≤(l0.length:Int)then(some (l0.take 2000,0))else(none))else(some (l0,0))
theorem uh.calls{A0:Option Addr}{c0:Nat}{l0 r1:List Int}{r2:Int}{w:World}(w0:World)(hB:Below w0.heap.size w0 w)(hr0:Kd.C (Kd.int .u8) w0 A0 l0.length l0)(hc0:l0.length≤c0)(h:uh.f l0=some (r1,r2)):
  Calls Tryz.prog 21 #[.slice A0 l0.length c0] w fun e w'=>∃g_:Nat,e= .returned (.pointer (some ⟨g_,0,none⟩))∧bn w0 w' g_ r1 r2∧Below w0.heap.size w0 w'∧Below w.heap.size w w':=by
 have aSV:=underlying67;have HR0:=ak hr0;have uV:=ak hc0;clear hr0 hc0;have HBW:=ak (Below.refl w.heap.size w);have HW0:=ak hB.size;have HB:=ak hB;clear hB;unfold uh.f at h;have H:=h;clear h;replace H:=sp H;rcases H with⟨c2,H⟩|⟨c2,H⟩
 ·have sO:decide (2000<(l0.length:Int))=true:=decide_eq_true c2;have BK:decide (2000<l0.length)=true:=decide_eq_true (by omega);clear c2;replace H:=AL H;obtain⟨iY,zN,H⟩:=H;obtain⟨rfl,rfl⟩:=s2 H;obtain⟨i04,aAE,_,aAF,_⟩:=info_parts info5;obtain⟨aOG,hA4,hC4⟩:=yB (P:=Tryz.prog) (Value.int .u8) 0 22 5 .i64 underlying22 aAE aAF A0 c0 l0 2000 (by omega) (of_decide_eq_true (by assumption)) uV.out;have aAG:=ak (qI (h1:=fun _=>rfl) (hA4 _ (qJ HR0.out)));have aOH:=ak hC4;clear hA4 hC4 aAE aAF;go_enter func21,ntmps21;go_wp2_with (refine bE 10 #[.slice A0 (l0.take 2000).length c0, .int .i64 0] 67 ?_;intro akW hg w5 hbox hb;have aAH:=ak (hbox);have aOI:=ge_ HBW hg;have aAI:=ak ((Nat.le_trans HW0.out (by rw[hg];exact(aj (ul HBW.out)):w.heap.size≤akW):w0.heap.size≤akW));replace HBW:=ak (iM HBW.out hb);replace HB:=bs HB hb;clear hb hbox hg)
  go_ret;exact⟨_,rfl,(show bn w0 _ akW (l0.take 2000) 0 from⟨_,_,ub aAH.out,aAI.out,aAG.out⟩),qy,bh HBW.out⟩
 ·have sO:decide (2000<(l0.length:Int))=false:=decide_eq_false c2;have BK:decide (2000<l0.length)=false:=decide_eq_false (by omega);clear c2;obtain⟨rfl,rfl⟩:=s2 H;go_enter func21,ntmps21;go_wp2_with (refine bE 10 #[.slice A0 l0.length c0, .int .i64 0] 67 ?_;intro akX hg w6 hbox hb;have aAJ:=ak (hbox);have aOJ:=ge_ HBW hg;have aAK:=ak ((Nat.le_trans HW0.out (by rw[hg];exact(aj (ul HBW.out)):w.heap.size≤akX):w0.heap.size≤akX));replace HBW:=ak (iM HBW.out hb);replace HB:=bs HB hb;clear hb hbox hg)
  go_ret;exact⟨_,rfl,(show bn w0 _ akX l0 0 from⟨_,_,ub aAJ.out,aAK.out,HR0.out⟩),qy,bh HBW.out⟩
def bV.j0:Nat→Int→Bool→List Int→Int→Option (Int×Int)
 |0,_,_,_,_=>none
 |k+1,x1,x24,x1000,rY=>if x24=true then(some (0,rY))else(if(wrap64 (rY-1))<(x1000.length:Int)then(if 0≤(wrap64 (rY-1))then(if x1=0 then(none)else(some (Int.tmod (wrap64 (rd x1000 (wrap64 (rY-1)))) x1,rY)))else(none))else(if(x1000.length:Int)=0 then(none)else(if 0≤(Int.tmod (wrap64 (rY-1)) (x1000.length:Int))then(if(Int.tmod (wrap64 (rY-1)) (x1000.length:Int))<(x1000.length:Int)then(if 0≤(Int.tmod (wrap64 ((wrap64 ((wrap64 (rY-1))*7))+3)) (x1000.length:Int))then(if(Int.tmod (wrap64 ((wrap64 ((wrap64 (rY-1))*7))+3)) (x1000.length:Int))<(x1000.length:Int)then(if x1=0 then(none)else(some (Int.tmod (Go.bits .xor .i64 (wrap64 ((wrap64 ((wrap64 ((wrap64 ((wrap64 (rd x1000 (Int.tmod (wrap64 (rY-1)) (x1000.length:Int))))*131))+(wrap64 ((wrap64 (rd x1000 (Int.tmod (wrap64 ((wrap64 ((wrap64 (rY-1))*7))+3)) (x1000.length:Int))))*1117))))+(wrap64 ((wrap64 (rY-1))*29))))+(wrap64 ((wrap64 (Int.tdiv (wrap64 (rY-1)) (x1000.length:Int)))*53)))) (wrap64 (Int.tdiv (wrap64 ((wrap64 ((wrap64 ((wrap64 ((wrap64 (rd x1000 (Int.tmod (wrap64 (rY-1)) (x1000.length:Int))))*131))+(wrap64 ((wrap64 (rd x1000 (Int.tmod (wrap64 ((wrap64 ((wrap64 (rY-1))*7))+3)) (x1000.length:Int))))*1117))))+(wrap64 ((wrap64 (rY-1))*29))))+(wrap64 ((wrap64 (Int.tdiv (wrap64 (rY-1)) (x1000.length:Int)))*53)))) 64))) x1,rY)))else(none))else(none))else(none))else(none))))
def bV.f(k:Nat)(fP:List Int)(l7:Int)(a1:Int):Option (Int×Int):=if a1<1 then(bV.j0 k a1 true fP (wrap64 (l7+1)))else(bV.j0 k a1 ((fP.length:Int)==0) fP (wrap64 (l7+1)))
theorem bV.calls{k g:Nat}{fP:List Int}{l7 a1 r1 r2:Int}{w:World}(w0:World)(hI:bn w0 w g fP l7)(hB:Below w0.heap.size w0 w)(h:bV.f k fP l7 a1=some (r1,r2)):
  Calls Tryz.prog 23 #[.pointer (some ⟨g,0,none⟩), .int .i64 a1] w fun e w'=>e= .returned (.int .i64 r1)∧bn w0 w' g fP r2∧Below w0.heap.size w0 w'∧aN w w' g none:=by
 have HI0:=ak hI;have HK:=ak (aN.refl w g none);have HL:=ak hB.size;clear hI;have HW0:=ak hB.size;have HB:=ak hB;clear hB;unfold bV.f at h;have H:=h;clear h;have Uk:=ak H;clear H;obtain⟨aKv,aKw,aqx,aKx,aKy⟩:=HI0.out;have akY:=Oe aqx;have awt:=Og aqx;have awu:=eu aqx 1;clear aqx aKx;go_enter func23,ntmps23;go_upto_region 2 with(fail)
 repeat(go_quiet (fail);go_upto_region 2 with(fail))
 go_cut [24] (fun v24 wc=>∃(kq:Nat) (ou:Bool),v24= .bool ou∧ah (bV.j0 kq a1 ou fP (wrap64 (l7+1))=some (r1,r2))∧ah (kq≤k)∧ah (bn w0 wc g fP (wrap64 (l7+1)))∧ah (aN w wc g none)∧ah (Below w0.heap.size w0 wc))
 case first=>
  have H:=Uk.out;clear Uk;replace H:=sd H;rcases H with⟨mV,H⟩|⟨mV,H⟩
  ·(first|rw[mV]|(simp only[ig,jO];rw[mV])|skip);have H':=ak H;clear H;go_wp2;repeat(go_quiet (fail);try go_wp2)
   go_meet
   case rel=>exact⟨_,_,rs,H',⟨PV⟩,⟨qV⟩,⟨kh HK.out⟩,⟨qy⟩⟩
  ·(first|rw[mV]|(simp only[ig,jO];rw[mV])|skip);have H':=ak H;clear H;obtain⟨aKz,aKA,aqy,aKB,aKC⟩:=HI0.out;have aKD:=Oe aqy;have aKE:=Og aqy;have aKF:=eu aqy 1;clear aqy aKB;go_wp2;repeat(go_quiet (fail);try go_wp2)
   go_meet
   case rel=>exact⟨_,_,rs,H',⟨PV⟩,⟨qV⟩,⟨kh HK.out⟩,⟨qy⟩⟩
 case rest=>
  clear Uk;try clear akY
  try clear awt
  try clear awu
  obtain⟨kq,ou,rfl,HA,HJ2,HI0,HK,HB⟩:=hcut
  cases kq with
  |zero=>exact zz HA.out
  |succ kj2=>
   obtain⟨H⟩:=HA;simp only[bV.j0]at H;replace H:=sb H;rcases H with⟨rfl,H⟩|⟨rfl,H⟩
   ·obtain⟨rfl,rfl⟩:=s2 H;go_wp2;repeat(go_quiet (fail);try go_wp2)
    go_ret;exact⟨er,qV,qy,kh HK.out⟩
   ·replace H:=sp H;rcases H with⟨c8,H⟩|⟨c8,H⟩
    ·have rP:=decide_eq_true c8
     (try(have Dt:decide (((wrap64 (l7+1))-1)<(fP.length:Int))=true:=decide_eq_true (by have h_:=c8;unfold wrap64 at h_;omega)));clear c8;obtain⟨QG,Hl⟩:∃j_:Int,(wrap64 ((wrap64 (l7+1))-1))=j_:=⟨_,rfl⟩
     replace H:(if 0≤(QG)then(if a1=0 then(none)else(some (Int.tmod (wrap64 (rd fP (QG))) a1,(wrap64 (l7+1)))))else(none))=some (r1,r2):=by first|(rw[Hl]at H;exact H)|(simp only[Hl]at H⊢;exact H)
     (try rw[Hl]at rP);have akZ:(IntKind.i64.wrap ((wrap64 (l7+1))-1))=QG:=(ig _).trans Hl;replace H:=nO H;obtain⟨qg,H⟩:=H;replace H:=sp H;rcases H with⟨c11,H⟩|⟨c11,H⟩
     ·exact absurd H (by simp)
     ·have uM:=beq_eq_false_iff_ne.mpr c11;have D7:=bne_iff_ne.mpr c11;obtain⟨rfl,rfl⟩:=s2 H;obtain⟨aI1,aI2,aha,aAL,aqz⟩:=HI0.out;have aqA:=Oe aha;have aI3:=Og aha;have aI4:=eu aha 1;clear aha aAL;have aeZ:=zi (QG);have ae0:=zj (QG) fP.length;obtain⟨aAo,awl,QH⟩:=abe aqz (QG) aeZ ae0;cases awl;replace QH:=vZ HB.out QH;replace aeZ:=eq_true aeZ;replace ae0:=eq_true ae0;go_wp2;repeat(go_quiet (fail);try go_wp2)
      go_ret;exact⟨by first|rfl|(simp[iT,iU]<;>rfl)|(simp only[←Hl];first|rfl|(simp[iT,iU]<;>rfl))|(simp[*,iT,iU]<;>rfl),qV,qy,kh HK.out⟩
    ·have rP:=decide_eq_false c8
     (try(have Dt:decide (((wrap64 (l7+1))-1)<(fP.length:Int))=false:=decide_eq_false (by have h_:=c8;unfold wrap64 at h_;omega)));clear c8;replace H:=sp H;rcases H with⟨c13,H⟩|⟨c13,H⟩
     ·exact absurd H (by simp)
     ·have xY:=beq_eq_false_iff_ne.mpr c13;have Dh:=bne_iff_ne.mpr c13;have ahb:¬(fP=[]):=fun h_=>c13 (by rw[h_];rfl)
      obtain⟨QL,QM⟩:∃j_:Int,(Int.tmod (wrap64 ((wrap64 (l7+1))-1)) (fP.length:Int))=j_:=⟨_,rfl⟩
      replace H:(if 0≤(QL)then(if(QL)<(fP.length:Int)then(if 0≤(Int.tmod (wrap64 ((wrap64 ((wrap64 ((wrap64 (l7+1))-1))*7))+3)) (fP.length:Int))then(if(Int.tmod (wrap64 ((wrap64 ((wrap64 ((wrap64 (l7+1))-1))*7))+3)) (fP.length:Int))<(fP.length:Int)then(if a1=0 then(none)else(some (Int.tmod (Go.bits .xor .i64 (wrap64 ((wrap64 ((wrap64 ((wrap64 ((wrap64 (rd fP (QL)))*131))+(wrap64 ((wrap64 (rd fP (Int.tmod (wrap64 ((wrap64 ((wrap64 ((wrap64 (l7+1))-1))*7))+3)) (fP.length:Int))))*1117))))+(wrap64 ((wrap64 ((wrap64 (l7+1))-1))*29))))+(wrap64 ((wrap64 (Int.tdiv (wrap64 ((wrap64 (l7+1))-1)) (fP.length:Int)))*53)))) (wrap64 (Int.tdiv (wrap64 ((wrap64 ((wrap64 ((wrap64 ((wrap64 (rd fP (QL)))*131))+(wrap64 ((wrap64 (rd fP (Int.tmod (wrap64 ((wrap64 ((wrap64 ((wrap64 (l7+1))-1))*7))+3)) (fP.length:Int))))*1117))))+(wrap64 ((wrap64 ((wrap64 (l7+1))-1))*29))))+(wrap64 ((wrap64 (Int.tdiv (wrap64 ((wrap64 (l7+1))-1)) (fP.length:Int)))*53)))) 64))) a1,(wrap64 (l7+1)))))else(none))else(none))else(none))else(none))=some (r1,r2):=by first|(rw[QM]at H;exact H)|(simp only[QM]at H⊢;exact H)
      replace H:=nO H;obtain⟨uz,H⟩:=H;replace H:=nO H;obtain⟨ER,H⟩:=H;obtain⟨ae3,ak0⟩:∃j_:Int,(Int.tmod (wrap64 ((wrap64 ((wrap64 ((wrap64 (l7+1))-1))*7))+3)) (fP.length:Int))=j_:=⟨_,rfl⟩
      replace H:(if 0≤(ae3)then(if(ae3)<(fP.length:Int)then(if a1=0 then(none)else(some (Int.tmod (Go.bits .xor .i64 (wrap64 ((wrap64 ((wrap64 ((wrap64 ((wrap64 (rd fP (QL)))*131))+(wrap64 ((wrap64 (rd fP (ae3)))*1117))))+(wrap64 ((wrap64 ((wrap64 (l7+1))-1))*29))))+(wrap64 ((wrap64 (Int.tdiv (wrap64 ((wrap64 (l7+1))-1)) (fP.length:Int)))*53)))) (wrap64 (Int.tdiv (wrap64 ((wrap64 ((wrap64 ((wrap64 ((wrap64 (rd fP (QL)))*131))+(wrap64 ((wrap64 (rd fP (ae3)))*1117))))+(wrap64 ((wrap64 ((wrap64 (l7+1))-1))*29))))+(wrap64 ((wrap64 (Int.tdiv (wrap64 ((wrap64 (l7+1))-1)) (fP.length:Int)))*53)))) 64))) a1,(wrap64 (l7+1)))))else(none))else(none))=some (r1,r2):=by first|(rw[ak0]at H;exact H)|(simp only[ak0]at H⊢;exact H)
      replace H:=nO H;obtain⟨ES,H⟩:=H;replace H:=nO H;obtain⟨ET,H⟩:=H;replace H:=sp H;rcases H with⟨c20,H⟩|⟨c20,H⟩
      ·exact absurd H (by simp)
      ·have QN:=beq_eq_false_iff_ne.mpr c20;have Xj:=bne_iff_ne.mpr c20;obtain⟨rfl,rfl⟩:=s2 H;obtain⟨aI5,aI6,ahc,aAM,ahd⟩:=HI0.out;have aI7:=Oe ahc;have aI8:=Og ahc;have aI9:=eu ahc 1;clear ahc aAM;have awv:=zi (QL);have aww:=zj (QL) fP.length;obtain⟨aAN,aKG,ahe⟩:=abe ahd (QL) awv aww;cases aKG;replace ahe:=vZ HB.out ahe;replace awv:=eq_true awv;replace aww:=eq_true aww;have awx:=zi (ae3);have awy:=zj (ae3) fP.length;obtain⟨aAO,aKH,ahf⟩:=abe ahd (ae3) awx awy;obtain rfl:aAN=aAO:=(by injection aKH)
       replace ahf:=vZ HB.out ahf;replace awx:=eq_true awx;replace awy:=eq_true awy;go_wp2;repeat(go_quiet (fail);try go_wp2)
       go_ret;exact⟨by first|rfl|(simp[iT,iU]<;>rfl)|(simp only[←QM,←ak0];first|rfl|(simp[iT,iU]<;>rfl))|(simp[*,iT,iU]<;>rfl),qV,qy,kh HK.out⟩
def fJ.f(k:Nat)(fP:List Int)(l7:Int)(l1:List ByteArray):Option (ByteArray×Int):=(bV.f k fP l7 (l1.length:Int)).bind fun ahg=>(if 0≤ahg.1 then(if ahg.1<(l1.length:Int)then(some (iw ByteArray.empty l1 ahg.1,ahg.2))else(none))else(none))
theorem fJ.calls{k g c1:Nat}{fP:List Int}{l7 r2:Int}{A1:Option Addr}{l1:List ByteArray}{r1:ByteArray}{w:World}(w0:World)(hI:bn w0 w g fP l7)(hB:Below w0.heap.size w0 w)(hr1:Kd.C Kd.string w A1 l1.length l1)(hc1:l1.length≤c1)(hf1:∀ad,A1=some ad→0<l1.length→ad.block≠g)(h:fJ.f k fP l7 l1=some (r1,r2)):
  Calls Tryz.prog 24 #[.pointer (some ⟨g,0,none⟩), .slice A1 l1.length c1] w fun e w'=>e= .returned (.string r1)∧bn w0 w' g fP r2∧Below w0.heap.size w0 w'∧aN w w' g none:=by
 have HR1:=ak hr1;have HC1:=ak hc1;clear hr1 hc1;have HI0:=ak hI;have HK:=ak (aN.refl w g none);have HL:=ak hB.size;clear hI;have HW0:=ak hB.size;have HB:=ak hB;clear hB;unfold fJ.f at h;have H:=h;clear h;replace H:=bd H;obtain⟨⟨t107,aSW⟩,A3,H⟩:=H
 (try dsimp only at H);replace H:=nO H;obtain⟨o7,H⟩:=H;replace H:=nO H;obtain⟨mV,H⟩:=H;obtain⟨rfl,rfl⟩:=s2 H;go_enter func24,ntmps24;go_wp2_with (refine gL 23 9 func23 #[.pointer (some ⟨g,0,none⟩), .int .i64 (l1.length:Int)] ?_;(with_reducible refine(bV.calls w0 ?dR ?jm A3.out).mono ?_);(case dR=>exact qV);(case jm=>exact qy);rintro e w6 ⟨rfl,hi,hb,hk⟩;refine⟨_,rfl,?_⟩;replace HK:=kt HK hk;replace HB:=ak (hb);replace HI0:=ak (hi);clear hb;(try clear hk);(try clear hi);have awz:0≤(t107:Int):=of_decide_eq_true (by assumption);have awC:t107<(l1.length:Int):=of_decide_eq_true (by assumption);obtain⟨aAP,e109,ahh⟩:=bZ HR1.out t107 awz awC;cases e109;replace ahh:=Oh HK.out ahh (by first|(rw[add_block];exact hf1 _ rfl (by omega))|exact hf1 _ rfl (by omega)|exact hf1 aAP rfl (by omega));replace awz:=eq_true awz;replace awC:=eq_true awC)
 go_ret;exact⟨er,qV,qy,kh HK.out⟩
def lW.f(k:Nat)(fP:List Int)(l7:Int)(l1:List Int):Option (Int×Int):=(bV.f k fP l7 (l1.length:Int)).bind fun ahi=>(if 0≤ahi.1 then(if ahi.1<(l1.length:Int)then(some (rd l1 ahi.1,ahi.2))else(none))else(none))
theorem lW.calls{k g c1:Nat}{fP l1:List Int}{l7 r1 r2:Int}{A1:Option Addr}{w:World}(w0:World)(hI:bn w0 w g fP l7)(hB:Below w0.heap.size w0 w)(hr1:Kd.C (Kd.int .i64) w A1 l1.length l1)(hc1:l1.length≤c1)(hf1:∀ad,A1=some ad→0<l1.length→ad.block≠g)(h:lW.f k fP l7 l1=some (r1,r2)):
  Calls Tryz.prog 41 #[.pointer (some ⟨g,0,none⟩), .slice A1 l1.length c1] w fun e w'=>e= .returned (.int .i64 r1)∧bn w0 w' g fP r2∧Below w0.heap.size w0 w'∧aN w w' g none:=by
 have HR1:=ak hr1;have HC1:=ak hc1;clear hr1 hc1;have HI0:=ak hI;have HK:=ak (aN.refl w g none);have HL:=ak hB.size;clear hI;have HW0:=ak hB.size;have HB:=ak hB;clear hB;unfold lW.f at h;have H:=h;clear h;replace H:=bd H;obtain⟨⟨awD,aSX⟩,A3,H⟩:=H
 (try dsimp only at H);replace H:=nO H;obtain⟨o7,H⟩:=H;replace H:=nO H;obtain⟨mV,H⟩:=H;obtain⟨rfl,rfl⟩:=s2 H;go_enter func41,ntmps41;go_wp2_with (refine gL 23 9 func23 #[.pointer (some ⟨g,0,none⟩), .int .i64 (l1.length:Int)] ?_;(with_reducible refine(bV.calls w0 ?dR ?jm A3.out).mono ?_);(case dR=>exact qV);(case jm=>exact qy);rintro e w6 ⟨rfl,hi,hb,hk⟩;refine⟨_,rfl,?_⟩;replace HK:=kt HK hk;replace HB:=ak (hb);replace HI0:=ak (hi);clear hb;(try clear hk);(try clear hi);have awE:0≤(awD:Int):=of_decide_eq_true (by assumption);have awF:awD<(l1.length:Int):=of_decide_eq_true (by assumption);obtain⟨aAQ,aKI,ahj⟩:=abe HR1.out awD awE awF;cases aKI;replace ahj:=Oh HK.out ahj (by first|(rw[add_block];exact hf1 _ rfl (by omega))|exact hf1 _ rfl (by omega)|exact hf1 aAQ rfl (by omega));replace awE:=eq_true awE;replace awF:=eq_true awF)
 go_ret;exact⟨er,qV,qy,kh HK.out⟩
mutual
def aW.l0:Nat→ByteArray→Int→Option (Bool)
 |0,_,_=>none
 |k+1,x0,x3=>if x3<(x0.size:Int)then(aW.j1 k x0 x3 (decide (x3≤200)))else(aW.j1 k x0 x3 false)
def aW.j1:Nat→ByteArray→Int→Bool→Option (Bool)
 |0,_,_,_=>none
 |k+1,x0,x3,x11=>if x11=true then(if 0≤x3 then(if x3<(x0.size:Int)then(if(bt x0 x3)<32 then(some false)else(if(bt x0 x3)>126 then(some false)else(aW.l0 k x0 (wrap64 (x3+1)))))else(none))else(none))else(some (decide ((x0.size:Int)≤200)))
end
def aW.f(k:Nat)(a0:ByteArray):Option (Bool):=aW.l0 k a0 0
theorem aW.calls{k:Nat}{a0:ByteArray}{r:Bool}{w:World}(h:aW.f k a0=some r):
  Calls Tryz.prog 89 #[.string a0] w fun e w'=>e= .returned (.bool r)∧dS w w':=by
 unfold aW.f at h;have H:=h;clear h;have H':=ak H;clear H;go_enter func89,ntmps89;go_wp2;go_loopg [3] k (fun kq v3 w'=>∃(fA:Int),v3= .int .i64 fA∧ah (aW.l0 kq a0 fA=some r)∧ah (kq≤k)∧dS w w')
 case atStart=>exact⟨_,rs,H',⟨Nat.le_refl _⟩,dn⟩
 case round=>
  clear H';obtain⟨fA,rfl,HA,y5,⟨m1,rfl⟩⟩:=hrel
  cases gk with
  |zero=>exact zz HA.out
  |succ k1=>
   obtain⟨H⟩:=HA;simp only[aW.l0]at H;have HC2:=ak H;clear H;go_upto_region 2 with(fail)
   go_cut [11] (fun v11 wc=>∃(kq:Nat) (y7:Bool),v11= .bool y7∧ah (aW.j1 kq a0 fA y7=some r)∧ah (kq≤k1)∧dS w wc)
   case first=>
    have H:=HC2.out;clear HC2;replace H:=sd H;rcases H with⟨iY,H⟩|⟨iY,H⟩
    ·(first|rw[iY]|(simp only[ig,jO];rw[iY])|skip);have H':=ak H;clear H;go_wp2;go_meet
     case rel=>exact⟨_,_,rs,H',⟨kl⟩,dn⟩
    ·(first|rw[iY]|(simp only[ig,jO];rw[iY])|skip);have H':=ak H;clear H;go_wp2;go_meet
     case rel=>exact⟨_,_,rs,H',⟨kl⟩,dn⟩
   case rest=>
    clear HC2;obtain⟨kq,y7,rfl,HA,HJ1,⟨mc1,rfl⟩⟩:=hcut
    cases kq with
    |zero=>exact zz HA.out
    |succ VU=>
     obtain⟨H⟩:=HA;simp only[aW.j1]at H;replace H:=sb H;rcases H with⟨rfl,H⟩|⟨rfl,H⟩
     ·replace H:=nO H;obtain⟨mV,H⟩:=H;replace H:=nO H;obtain⟨nD,H⟩:=H;replace H:=sd H;rcases H with⟨rP,H⟩|⟨rP,H⟩
      ·obtain rfl:=s1 H;obtain⟨p7,q7,hx7⟩:=bx a0 fA;go_wp2;go_ret;exact⟨rs,dn⟩
      ·replace H:=sp H;rcases H with⟨c10,H⟩|⟨c10,H⟩
       ·have qg:decide (126<(bt a0 fA))=true:=decide_eq_true c10;clear c10;obtain rfl:=s1 H;obtain⟨p7,q7,hx7⟩:=bx a0 fA;obtain⟨p9,q9,hx9⟩:=bx a0 fA;go_wp2;go_ret;exact⟨rs,dn⟩
       ·have qg:decide (126<(bt a0 fA))=false:=decide_eq_false c10;clear c10;have H':=ak H;clear H;obtain⟨p7,q7,hx7⟩:=bx a0 fA;obtain⟨p9,q9,hx9⟩:=bx a0 fA;go_wp2;go_roundg VU
        case measure=>exact kl
        case rel=>exact⟨_,rs,H',⟨kl⟩,dn⟩
     ·obtain rfl:=s1 H;go_wp2;go_ret;exact⟨rs,dn⟩
mutual
def jo.l0:Nat→List ByteArray→Int→Option (Bool)
 |0,_,_=>none
 |k+1,x0,x3=>if x3<(x0.length:Int)then(jo.j1 k x0 x3 (decide (x3≤30)))else(jo.j1 k x0 x3 false)
def jo.j1:Nat→List ByteArray→Int→Bool→Option (Bool)
 |0,_,_,_=>none
 |k+1,x0,x3,x11=>if x11=true then(if 0≤x3 then(if x3<(x0.length:Int)then((aW.f k (iw ByteArray.empty x0 x3)).bind fun aAR=>(if aAR=true then(jo.l0 k x0 (wrap64 (x3+1)))else(some false)))else(none))else(none))else(some (decide ((x0.length:Int)≤30)))
end
def jo.f(k:Nat)(l0:List ByteArray):Option (Bool):=jo.l0 k l0 0
theorem jo.calls{k c0:Nat}{A0:Option Addr}{l0:List ByteArray}{r:Bool}{w:World}(hr0:Kd.C Kd.string w A0 l0.length l0)(hc0:l0.length≤c0)(h:jo.f k l0=some r):
  Calls Tryz.prog 58 #[.slice A0 l0.length c0] w fun e w'=>e= .returned (.bool r)∧dS w w':=by
 have HR0:=ak hr0;have uV:=ak hc0;clear hr0 hc0;unfold jo.f at h;have H:=h;clear h;have H':=ak H;clear H;go_enter func58,ntmps58;go_wp2;go_loopg [3] k (fun kq v3 w'=>∃(fA:Int),v3= .int .i64 fA∧ah (jo.l0 kq l0 fA=some r)∧ah (kq≤k)∧dS w w')
 case atStart=>exact⟨_,rs,H',⟨Nat.le_refl _⟩,dn⟩
 case round=>
  clear H';obtain⟨fA,rfl,HA,y5,⟨m1,rfl⟩⟩:=hrel
  cases gk with
  |zero=>exact zz HA.out
  |succ k1=>
   obtain⟨H⟩:=HA;simp only[jo.l0]at H;have HC2:=ak H;clear H;go_upto_region 2 with(fail)
   go_cut [11] (fun v11 wc=>∃(kq:Nat) (y7:Bool),v11= .bool y7∧ah (jo.j1 kq l0 fA y7=some r)∧ah (kq≤k1)∧dS w wc)
   case first=>
    have H:=HC2.out;clear HC2;replace H:=sd H;rcases H with⟨iY,H⟩|⟨iY,H⟩
    ·(first|rw[iY]|(simp only[ig,jO];rw[iY])|skip);have H':=ak H;clear H;go_wp2;go_meet
     case rel=>exact⟨_,_,rs,H',⟨kl⟩,dn⟩
    ·(first|rw[iY]|(simp only[ig,jO];rw[iY])|skip);have H':=ak H;clear H;go_wp2;go_meet
     case rel=>exact⟨_,_,rs,H',⟨kl⟩,dn⟩
   case rest=>
    clear HC2;obtain⟨kq,y7,rfl,HA,HJ1,⟨mc1,rfl⟩⟩:=hcut
    cases kq with
    |zero=>exact zz HA.out
    |succ VU=>
     obtain⟨H⟩:=HA;simp only[jo.j1]at H;replace H:=sb H;rcases H with⟨rfl,H⟩|⟨rfl,H⟩
     ·replace H:=nO H;obtain⟨mV,H⟩:=H;replace H:=nO H;obtain⟨nD,H⟩:=H;replace H:=bd H;obtain⟨aAR,A7,H⟩:=H;replace H:=sb H;rcases H with⟨rfl,H⟩|⟨rfl,H⟩
      ·have H':=ak H;clear H;have ae4:=zi fA;have ae5:=zj fA l0.length;obtain⟨aAS,awG,aqB⟩:=bZ HR0.out fA ae4 ae5;cases awG;replace ae4:=eq_true ae4;replace ae5:=eq_true ae5;go_wp2_with (refine gA func89 (aW.calls A7.out) ?_;intro nd)
       go_roundg VU
       case measure=>exact kl
       case rel=>exact⟨_,rs,H',⟨kl⟩,dn⟩
      ·obtain rfl:=s1 H;have ae4:=zi fA;have ae5:=zj fA l0.length;obtain⟨aAS,awG,aqB⟩:=bZ HR0.out fA ae4 ae5;cases awG;replace ae4:=eq_true ae4;replace ae5:=eq_true ae5;go_wp2_with (refine gA func89 (aW.calls A7.out) ?_;intro nd)
       go_ret;exact⟨rs,dn⟩
     ·obtain rfl:=s1 H;go_wp2;go_ret;exact⟨rs,dn⟩
mutual
def bG.j1:Nat→ByteArray→Option (ByteArray)
 |0,_=>none
 |k+1,x0=>bG.l1 k x0
def bG.l1:Nat→ByteArray→Option (ByteArray)
 |0,_=>none
 |k+1,x0=>if(x0.size:Int)>0 then(if 0≤(wrap64 ((x0.size:Int)-1))then(if(wrap64 ((x0.size:Int)-1))<(x0.size:Int)then(if(bt x0 (wrap64 ((x0.size:Int)-1)))=32 then(if(wrap64 ((x0.size:Int)-1))≤(x0.size:Int)then(bG.l1 k (x0.extract 0 ((wrap64 ((x0.size:Int)-1)):Int).toNat))else(none))else(some x0))else(none))else(none))else(some x0)
def bG.l0:Nat→ByteArray→Option (ByteArray)
 |0,_=>none
 |k+1,x0=>if(x0.size:Int)>0 then(if 0<(x0.size:Int)then(if(bt x0 0)=32 then(if 1≤(x0.size:Int)then(bG.l0 k (x0.extract 1 x0.size))else(none))else(bG.j1 k x0))else(none))else(bG.j1 k x0)
end
def bG.f(k:Nat)(a0:ByteArray):Option (ByteArray):=bG.l0 k a0
theorem bG.calls{k:Nat}{a0 r:ByteArray}{w:World}(h:bG.f k a0=some r):
  Calls Tryz.prog 93 #[.string a0] w fun e w'=>e= .returned (.string r)∧dS w w':=by
 unfold bG.f at h;have H:=h;clear h;have HC2:=ak H;clear H;go_enter func93,ntmps93;go_upto_block 0 with(fail)
 go_cut [0] (fun v0 wc=>∃(kq:Nat) (uX:ByteArray),v0= .string uX∧ah (bG.j1 kq uX=some r)∧ah (kq≤k)∧dS w wc)
 case first=>
  have H:=HC2.out;clear HC2;have H':=ak H;clear H;go_wp2;go_loopg [0] k (fun kq v0 w'=>∃(uX:ByteArray),v0= .string uX∧ah (bG.l0 kq uX=some r)∧ah (kq≤k)∧dS w w')
  case atStart=>exact⟨_,rs,H',⟨Nat.le_refl _⟩,dn⟩
  case round=>
   clear H';obtain⟨uX,rfl,HA,y5,⟨m1,rfl⟩⟩:=hrel
   cases gk with
   |zero=>exact zz HA.out
   |succ k1=>
    obtain⟨H⟩:=HA;simp only[bG.l0]at H;replace H:=sp H;rcases H with⟨c3,H⟩|⟨c3,H⟩
    ·have iY:decide (0<(uX.size:Int))=true:=decide_eq_true c3;have zN:decide (0<uX.size)=true:=decide_eq_true (by omega);clear c3
     (first|rw[iY]|(simp only[ig,jO];rw[iY])|skip);replace H:=nn H;obtain⟨c4,H⟩:=H;have o7:=decide_eq_true c4;have Ul:decide (0<uX.size)=true:=decide_eq_true (by omega);clear c4;replace H:=sq H;rcases H with⟨nD,AQ,H⟩|⟨c6,nD,AQ,H⟩
     ·replace H:=AL H;obtain⟨sQ,LK,H⟩:=H;have H':=ak H;clear H;have p5:0≤(0:Int):=(by omega)
      have q5:0<uX.size:=(by have:(0:Int)<(uX.size:Int):=of_decide_eq_true (by assumption);omega)
      have hx5:∀h:0<uX.size,((uX[0]'h).toNat:Int)=bt uX 0:=wY uX 0;clear p5;have qi5:(0<(uX.size:Int))=True:=eq_true (of_decide_eq_true (by assumption));replace q5:=eq_true q5;go_wp2;go_roundg k1
      case measure=>exact kl
      case rel=>exact⟨_,rs,H',⟨kl⟩,dn⟩
     ·have H':=ak H;clear H;have p5:0≤(0:Int):=(by omega)
      have q5:0<uX.size:=(by have:(0:Int)<(uX.size:Int):=of_decide_eq_true (by assumption);omega)
      have hx5:∀h:0<uX.size,((uX[0]'h).toNat:Int)=bt uX 0:=wY uX 0;clear p5;have qi5:(0<(uX.size:Int))=True:=eq_true (of_decide_eq_true (by assumption));replace q5:=eq_true q5;go_wp2;go_meet
      case rel=>exact⟨_,_,rs,H',⟨kl⟩,dn⟩
    ·have iY:decide (0<(uX.size:Int))=false:=decide_eq_false c3;have zN:decide (0<uX.size)=false:=decide_eq_false (by omega);clear c3
     (first|rw[iY]|(simp only[ig,jO];rw[iY])|skip);have H':=ak H;clear H;go_wp2;go_meet
     case rel=>exact⟨_,_,rs,H',⟨kl⟩,dn⟩
 case rest=>
  clear HC2;obtain⟨kq,uX,rfl,HA,HJ1,⟨mc1,rfl⟩⟩:=hcut
  cases kq with
  |zero=>exact zz HA.out
  |succ VU=>
   obtain⟨H⟩:=HA;simp only[bG.j1]at H;have H':=ak H;clear H;go_wp2;go_loopg [0] VU (fun kq v0 w'=>∃(OV:ByteArray),v0= .string OV∧ah (bG.l1 kq OV=some r)∧ah (kq≤VU)∧dS w w')
   case atStart=>exact⟨_,rs,H',⟨Nat.le_refl _⟩,dn⟩
   case round=>
    clear H';obtain⟨OV,rfl,HA,HK2,⟨m2,rfl⟩⟩:=hrel
    cases gk with
    |zero=>exact zz HA.out
    |succ k2=>
     obtain⟨H⟩:=HA;simp only[bG.l1]at H;replace H:=sp H;rcases H with⟨c8,H⟩|⟨c8,H⟩
     ·have rP:decide (0<(OV.size:Int))=true:=decide_eq_true c8;have Dt:decide (0<OV.size)=true:=decide_eq_true (by omega);clear c8;obtain⟨QG,Hl⟩:∃j_:Int,(wrap64 ((OV.size:Int)-1))=j_:=⟨_,rfl⟩
      replace H:(if 0≤(QG)then(if(QG)<(OV.size:Int)then(if(bt OV (QG))=32 then(if(QG)≤(OV.size:Int)then(bG.l1 k2 (OV.extract 0 ((QG):Int).toNat))else(none))else(some OV))else(none))else(none))=some r:=by first|(rw[Hl]at H;exact H)|(simp only[Hl]at H⊢;exact H)
      have akZ:(IntKind.i64.wrap ((OV.size:Int)-1))=QG:=(ig _).trans Hl;replace H:=nO H;obtain⟨qg,H⟩:=H;replace H:=nO H;obtain⟨uM,H⟩:=H;replace H:=sq H;rcases H with⟨xY,Dh,H⟩|⟨c13,xY,Dh,H⟩
      ·have uD:=eq_true (of_decide_eq_true (by assumption):0≤(QG));replace H:=AL H;obtain⟨uz,D8,H⟩:=H;have H':=ak H;clear H;obtain⟨p12,q12,awH⟩:=bx OV (QG);go_wp2;go_roundg k2
       case measure=>exact kl
       case rel=>exact⟨_,(by first|rfl|(simp;done)|(simp only[←Hl]<;>(first|rfl|simp))|(simp[*];done)),H',⟨kl⟩,dn⟩
      ·obtain rfl:=s1 H;obtain⟨p12,q12,awH⟩:=bx OV (QG);go_wp2;go_ret;exact⟨by first|rfl|(simp;done)|(simp only[←Hl]<;>(first|rfl|simp))|(simp[*];done),dn⟩
     ·have rP:decide (0<(OV.size:Int))=false:=decide_eq_false c8;have Dt:decide (0<OV.size)=false:=decide_eq_false (by omega);clear c8;obtain rfl:=s1 H;go_wp2;go_ret;exact⟨rs,dn⟩
def iI.f(a0:Int):Option (Bool):=if a0≥97 then(if a0≤122 then(some true)else(if a0≥65 then(if a0≤90 then(some true)else(if a0≥48 then(some (decide (a0≤57)))else(some false)))else(if a0≥48 then(some (decide (a0≤57)))else(some false))))else(if a0≥65 then(if a0≤90 then(some true)else(if a0≥48 then(some (decide (a0≤57)))else(some false)))else(if a0≥48 then(some (decide (a0≤57)))else(some false)))
theorem iI.calls{a0:Int}{r:Bool}{w:World}(h:iI.f a0=some r):
  Calls Tryz.prog 97 #[.int .u8 a0] w fun e w'=>e= .returned (.bool r)∧dS w w':=by
 unfold iI.f at h;have H:=h;clear h;replace H:=sp H;rcases H with⟨c2,H⟩|⟨c2,H⟩
 ·have sO:decide (97≤a0)=true:=decide_eq_true c2;clear c2;replace H:=sd H;rcases H with⟨iY,H⟩|⟨iY,H⟩
  ·obtain rfl:=s1 H;go_enter func97,ntmps97;go_wp2;go_ret;exact⟨rs,dn⟩
  ·replace H:=sp H;rcases H with⟨c4,H⟩|⟨c4,H⟩
   ·have o7:decide (65≤a0)=true:=decide_eq_true c4;clear c4;replace H:=sd H;rcases H with⟨mV,H⟩|⟨mV,H⟩
    ·obtain rfl:=s1 H;go_enter func97,ntmps97;go_wp2;go_ret;exact⟨rs,dn⟩
    ·replace H:=sp H;rcases H with⟨c6,H⟩|⟨c6,H⟩
     ·have nD:decide (48≤a0)=true:=decide_eq_true c6;clear c6;obtain rfl:=s1 H;go_enter func97,ntmps97;go_wp2;go_ret;exact⟨rs,dn⟩
     ·have nD:decide (48≤a0)=false:=decide_eq_false c6;clear c6;obtain rfl:=s1 H;go_enter func97,ntmps97;go_wp2;go_ret;exact⟨rs,dn⟩
   ·have o7:decide (65≤a0)=false:=decide_eq_false c4;clear c4;replace H:=sp H;rcases H with⟨c7,H⟩|⟨c7,H⟩
    ·have sQ:decide (48≤a0)=true:=decide_eq_true c7;clear c7;obtain rfl:=s1 H;go_enter func97,ntmps97;go_wp2;go_ret;exact⟨rs,dn⟩
    ·have sQ:decide (48≤a0)=false:=decide_eq_false c7;clear c7;obtain rfl:=s1 H;go_enter func97,ntmps97;go_wp2;go_ret;exact⟨rs,dn⟩
 ·have sO:decide (97≤a0)=false:=decide_eq_false c2;clear c2;replace H:=sp H;rcases H with⟨c8,H⟩|⟨c8,H⟩
  ·have rP:decide (65≤a0)=true:=decide_eq_true c8;clear c8;replace H:=sd H;rcases H with⟨xZ,H⟩|⟨xZ,H⟩
   ·obtain rfl:=s1 H;go_enter func97,ntmps97;go_wp2;go_ret;exact⟨rs,dn⟩
   ·replace H:=sp H;rcases H with⟨c10,H⟩|⟨c10,H⟩
    ·have qg:decide (48≤a0)=true:=decide_eq_true c10;clear c10;obtain rfl:=s1 H;go_enter func97,ntmps97;go_wp2;go_ret;exact⟨rs,dn⟩
    ·have qg:decide (48≤a0)=false:=decide_eq_false c10;clear c10;obtain rfl:=s1 H;go_enter func97,ntmps97;go_wp2;go_ret;exact⟨rs,dn⟩
  ·have rP:decide (65≤a0)=false:=decide_eq_false c8;clear c8;replace H:=sp H;rcases H with⟨c11,H⟩|⟨c11,H⟩
   ·have uM:decide (48≤a0)=true:=decide_eq_true c11;clear c11;obtain rfl:=s1 H;go_enter func97,ntmps97;go_wp2;go_ret;exact⟨rs,dn⟩
   ·have uM:decide (48≤a0)=false:=decide_eq_false c11;clear c11;obtain rfl:=s1 H;go_enter func97,ntmps97;go_wp2;go_ret;exact⟨rs,dn⟩
mutual
def dw.l0:Nat→ByteArray→Int→Option (Bool)
 |0,_,_=>none
 |k+1,x0,x3=>if x3<(x0.size:Int)then(dw.j1 k x0 x3 (decide (x3≤30)))else(dw.j1 k x0 x3 false)
def dw.j1:Nat→ByteArray→Int→Bool→Option (Bool)
 |0,_,_,_=>none
 |k+1,x0,x3,x11=>if x11=true then(if 0≤x3 then(if x3<(x0.size:Int)then((iI.f (bt x0 x3)).bind fun aAT=>(if aAT=true then(if x3=0 then(if(bt x0 x3)≤57 then(some false)else(dw.l0 k x0 (wrap64 (x3+1))))else(dw.l0 k x0 (wrap64 (x3+1))))else(if(bt x0 x3)=45 then(if x3=0 then(if(bt x0 x3)≤57 then(some false)else(dw.l0 k x0 (wrap64 (x3+1))))else(dw.l0 k x0 (wrap64 (x3+1))))else(some false))))else(none))else(none))else(if(x0.size:Int)≥1 then(some (decide ((x0.size:Int)≤30)))else(some false))
end
def dw.f(k:Nat)(a0:ByteArray):Option (Bool):=dw.l0 k a0 0
theorem dw.calls{k:Nat}{a0:ByteArray}{r:Bool}{w:World}(h:dw.f k a0=some r):
  Calls Tryz.prog 121 #[.string a0] w fun e w'=>e= .returned (.bool r)∧dS w w':=by
 unfold dw.f at h;have H:=h;clear h;have H':=ak H;clear H;go_enter func121,ntmps121;go_wp2;go_loopg [3] k (fun kq v3 w'=>∃(fA:Int),v3= .int .i64 fA∧ah (dw.l0 kq a0 fA=some r)∧ah (kq≤k)∧dS w w')
 case atStart=>exact⟨_,rs,H',⟨Nat.le_refl _⟩,dn⟩
 case round=>
  clear H';obtain⟨fA,rfl,HA,y5,⟨m1,rfl⟩⟩:=hrel
  cases gk with
  |zero=>exact zz HA.out
  |succ k1=>
   obtain⟨H⟩:=HA;simp only[dw.l0]at H;have HC2:=ak H;clear H;go_upto_region 2 with(fail)
   go_cut [11] (fun v11 wc=>∃(kq:Nat) (y7:Bool),v11= .bool y7∧ah (dw.j1 kq a0 fA y7=some r)∧ah (kq≤k1)∧dS w wc)
   case first=>
    have H:=HC2.out;clear HC2;replace H:=sd H;rcases H with⟨iY,H⟩|⟨iY,H⟩
    ·(first|rw[iY]|(simp only[ig,jO];rw[iY])|skip);have H':=ak H;clear H;go_wp2;go_meet
     case rel=>exact⟨_,_,rs,H',⟨kl⟩,dn⟩
    ·(first|rw[iY]|(simp only[ig,jO];rw[iY])|skip);have H':=ak H;clear H;go_wp2;go_meet
     case rel=>exact⟨_,_,rs,H',⟨kl⟩,dn⟩
   case rest=>
    clear HC2;obtain⟨kq,y7,rfl,HA,HJ1,⟨mc1,rfl⟩⟩:=hcut
    cases kq with
    |zero=>exact zz HA.out
    |succ VU=>
     obtain⟨H⟩:=HA;simp only[dw.j1]at H;replace H:=sb H;rcases H with⟨rfl,H⟩|⟨rfl,H⟩
     ·replace H:=nO H;obtain⟨mV,H⟩:=H;replace H:=nO H;obtain⟨nD,H⟩:=H;replace H:=bd H;obtain⟨aAT,A8,H⟩:=H;replace H:=sb H;rcases H with⟨rfl,H⟩|⟨rfl,H⟩
      ·replace H:=sq H;rcases H with⟨qg,uN,H⟩|⟨c10,qg,uN,H⟩
       ·replace H:=sd H;rcases H with⟨vJ,H⟩|⟨vJ,H⟩
        ·obtain rfl:=s1 H;obtain⟨p7,q7,hx7⟩:=bx a0 fA;go_wp2_with (refine gA func97 (iI.calls A8.out) ?_;intro nd;have p11:0≤(fA:Int):=of_decide_eq_true (by assumption);have q11:fA<(a0.size:Int):=of_decide_eq_true (by assumption);have ac2:=wY a0 fA;replace p11:=eq_true p11;replace q11:=eq_true q11)
         go_ret;exact⟨rs,dn⟩
        ·have H':=ak H;clear H;obtain⟨p7,q7,hx7⟩:=bx a0 fA;go_wp2_with (refine gA func97 (iI.calls A8.out) ?_;intro nd;have p11:0≤(fA:Int):=of_decide_eq_true (by assumption);have q11:fA<(a0.size:Int):=of_decide_eq_true (by assumption);have ac2:=wY a0 fA;replace p11:=eq_true p11;replace q11:=eq_true q11)
         go_roundg VU
         case measure=>exact kl
         case rel=>exact⟨_,rs,H',⟨kl⟩,dn⟩
       ·have H':=ak H;clear H;obtain⟨p7,q7,hx7⟩:=bx a0 fA;go_wp2_with (refine gA func97 (iI.calls A8.out) ?_;intro nd)
        go_roundg VU
        case measure=>exact kl
        case rel=>exact⟨_,rs,H',⟨kl⟩,dn⟩
      ·replace H:=sq H;rcases H with⟨uD,yc,H⟩|⟨c14,uD,yc,H⟩
       ·replace H:=sq H;rcases H with⟨uz,D8,H⟩|⟨c15,uz,D8,H⟩
        ·replace H:=sd H;rcases H with⟨wz,H⟩|⟨wz,H⟩
         ·obtain rfl:=s1 H;obtain⟨p7,q7,hx7⟩:=bx a0 fA;go_wp2_with (refine gA func97 (iI.calls A8.out) ?_;intro nd;have p13:0≤(fA:Int):=of_decide_eq_true (by assumption);have q13:fA<(a0.size:Int):=of_decide_eq_true (by assumption);have ae6:=wY a0 fA;replace p13:=eq_true p13;replace q13:=eq_true q13;have p16:0≤(fA:Int):=of_decide_eq_true (by assumption);have q16:fA<(a0.size:Int):=of_decide_eq_true (by assumption);have hx16:=wY a0 fA;replace p16:=eq_true p16;replace q16:=eq_true q16)
          go_ret;exact⟨rs,dn⟩
         ·have H':=ak H;clear H;obtain⟨p7,q7,hx7⟩:=bx a0 fA;go_wp2_with (refine gA func97 (iI.calls A8.out) ?_;intro nd;have p13:0≤(fA:Int):=of_decide_eq_true (by assumption);have q13:fA<(a0.size:Int):=of_decide_eq_true (by assumption);have ae6:=wY a0 fA;replace p13:=eq_true p13;replace q13:=eq_true q13;have p16:0≤(fA:Int):=of_decide_eq_true (by assumption);have q16:fA<(a0.size:Int):=of_decide_eq_true (by assumption);have hx16:=wY a0 fA;replace p16:=eq_true p16;replace q16:=eq_true q16)
          go_roundg VU
          case measure=>exact kl
          case rel=>exact⟨_,rs,H',⟨kl⟩,dn⟩
        ·have H':=ak H;clear H;obtain⟨p7,q7,hx7⟩:=bx a0 fA;go_wp2_with (refine gA func97 (iI.calls A8.out) ?_;intro nd;have p13:0≤(fA:Int):=of_decide_eq_true (by assumption);have q13:fA<(a0.size:Int):=of_decide_eq_true (by assumption);have ae6:=wY a0 fA;replace p13:=eq_true p13;replace q13:=eq_true q13)
         go_roundg VU
         case measure=>exact kl
         case rel=>exact⟨_,rs,H',⟨kl⟩,dn⟩
       ·obtain rfl:=s1 H;obtain⟨p7,q7,hx7⟩:=bx a0 fA;go_wp2_with (refine gA func97 (iI.calls A8.out) ?_;intro nd;have p13:0≤(fA:Int):=of_decide_eq_true (by assumption);have q13:fA<(a0.size:Int):=of_decide_eq_true (by assumption);have ae6:=wY a0 fA;replace p13:=eq_true p13;replace q13:=eq_true q13)
        go_ret;exact⟨rs,dn⟩
     ·replace H:=sp H;rcases H with⟨c18,H⟩|⟨c18,H⟩
      ·have ES:decide (1≤(a0.size:Int))=true:=decide_eq_true c18;have Xk:decide (1≤a0.size)=true:=decide_eq_true (by omega);clear c18;obtain rfl:=s1 H;go_wp2;go_ret;exact⟨rs,dn⟩
      ·have ES:decide (1≤(a0.size:Int))=false:=decide_eq_false c18;have Xk:decide (1≤a0.size)=false:=decide_eq_false (by omega);clear c18;obtain rfl:=s1 H;go_wp2;go_ret;exact⟨rs,dn⟩
def jc.f(k:Nat)(fF:ByteArray)(fK:ByteArray):Option (Bool):=(dw.f k fF).bind fun t117=>(if t117=true then((aW.f k fK).bind fun aAU=>(if aAU=true then(if(fK.size:Int)≤150 then((bG.f k fK).bind fun t119=>(some (t119.toList==fK.toList)))else(some false))else(some false)))else(some false))
theorem jc.calls{k:Nat}{fF fK:ByteArray}{r:Bool}{w:World}(h:jc.f k fF fK=some r):
  Calls Tryz.prog 88 #[.agg #[.string fF, .string fK]] w fun e w'=>e= .returned (.bool r)∧Below w.heap.size w w':=by
 have F7:=underlying43;have HB:=ak (Below.refl w.heap.size w);unfold jc.f at h;have H:=h;clear h;replace H:=bd H;obtain⟨t117,A2,H⟩:=H;replace H:=sb H;rcases H with⟨rfl,H⟩|⟨rfl,H⟩
 ·replace H:=bd H;obtain⟨aAU,A4,H⟩:=H;replace H:=sb H;rcases H with⟨rfl,H⟩|⟨rfl,H⟩
  ·replace H:=sp H;rcases H with⟨c6,H⟩|⟨c6,H⟩
   ·have nD:=decide_eq_true c6;have AQ:decide (fK.size≤150)=true:=decide_eq_true (by omega);clear c6;replace H:=bd H;obtain⟨t119,A7,H⟩:=H;obtain rfl:=s1 H;go_enter func88,ntmps88;go_wp2_with (first|(refine gG 1 ?_;refine bX HB 1 #[.string fF, .string fK] 43 ?_;intro LP w8 y8 LQ hb;replace HB:=bs HB hb;clear hb;have z9:=BM y8.out)|(go_at_call 121;refine mA (dw.calls A2.out) ?_;intro nd;(try exact dq))|(go_at_call 89;refine mA (aW.calls A4.out) ?_;intro nd;(try exact dq))|(go_at_call 93;refine mA (bG.calls A7.out) ?_;intro nd;(try exact dq)))
    repeat(go_quiet (first|(refine gG 1 ?_;refine bX HB 1 #[.string fF, .string fK] 43 ?_;intro LP w8 y8 LQ hb;replace HB:=bs HB hb;clear hb;have z9:=BM y8.out)|(go_at_call 121;refine mA (dw.calls A2.out) ?_;intro nd;(try exact dq))|(go_at_call 89;refine mA (aW.calls A4.out) ?_;intro nd;(try exact dq))|(go_at_call 93;refine mA (bG.calls A7.out) ?_;intro nd;(try exact dq)));try go_wp2_with (first|(refine gG 1 ?_;refine bX HB 1 #[.string fF, .string fK] 43 ?_;intro LP w8 y8 LQ hb;replace HB:=bs HB hb;clear hb;have z9:=BM y8.out)|(go_at_call 121;refine mA (dw.calls A2.out) ?_;intro nd;(try exact dq))|(go_at_call 89;refine mA (aW.calls A4.out) ?_;intro nd;(try exact dq))|(go_at_call 93;refine mA (bG.calls A7.out) ?_;intro nd;(try exact dq))))
    go_ret;exact⟨er,bb⟩
   ·have nD:=decide_eq_false c6;have AQ:decide (fK.size≤150)=false:=decide_eq_false (by omega);clear c6;obtain rfl:=s1 H;go_enter func88,ntmps88;go_wp2_with (first|(refine gG 1 ?_;refine bX HB 1 #[.string fF, .string fK] 43 ?_;intro LP w10 y8 LQ hb;replace HB:=bs HB hb;clear hb;have z11:=BM y8.out)|(go_at_call 121;refine mA (dw.calls A2.out) ?_;intro nd;(try exact dq))|(go_at_call 89;refine mA (aW.calls A4.out) ?_;intro nd;(try exact dq)))
    repeat(go_quiet (first|(refine gG 1 ?_;refine bX HB 1 #[.string fF, .string fK] 43 ?_;intro LP w10 y8 LQ hb;replace HB:=bs HB hb;clear hb;have z11:=BM y8.out)|(go_at_call 121;refine mA (dw.calls A2.out) ?_;intro nd;(try exact dq))|(go_at_call 89;refine mA (aW.calls A4.out) ?_;intro nd;(try exact dq)));try go_wp2_with (first|(refine gG 1 ?_;refine bX HB 1 #[.string fF, .string fK] 43 ?_;intro LP w10 y8 LQ hb;replace HB:=bs HB hb;clear hb;have z11:=BM y8.out)|(go_at_call 121;refine mA (dw.calls A2.out) ?_;intro nd;(try exact dq))|(go_at_call 89;refine mA (aW.calls A4.out) ?_;intro nd;(try exact dq))))
    go_ret;exact⟨er,bb⟩
  ·obtain rfl:=s1 H;go_enter func88,ntmps88;go_wp2_with (first|(refine gG 1 ?_;refine bX HB 1 #[.string fF, .string fK] 43 ?_;intro LP w12 y8 LQ hb;replace HB:=bs HB hb;clear hb;have z13:=BM y8.out)|(go_at_call 121;refine mA (dw.calls A2.out) ?_;intro nd;(try exact dq))|(go_at_call 89;refine mA (aW.calls A4.out) ?_;intro nd;(try exact dq)))
   repeat(go_quiet (first|(refine gG 1 ?_;refine bX HB 1 #[.string fF, .string fK] 43 ?_;intro LP w12 y8 LQ hb;replace HB:=bs HB hb;clear hb;have z13:=BM y8.out)|(go_at_call 121;refine mA (dw.calls A2.out) ?_;intro nd;(try exact dq))|(go_at_call 89;refine mA (aW.calls A4.out) ?_;intro nd;(try exact dq)));try go_wp2_with (first|(refine gG 1 ?_;refine bX HB 1 #[.string fF, .string fK] 43 ?_;intro LP w12 y8 LQ hb;replace HB:=bs HB hb;clear hb;have z13:=BM y8.out)|(go_at_call 121;refine mA (dw.calls A2.out) ?_;intro nd;(try exact dq))|(go_at_call 89;refine mA (aW.calls A4.out) ?_;intro nd;(try exact dq))))
   go_ret;exact⟨er,bb⟩
 ·obtain rfl:=s1 H;go_enter func88,ntmps88;go_wp2_with (first|(refine gG 1 ?_;refine bX HB 1 #[.string fF, .string fK] 43 ?_;intro LP Xg y8 LQ hb;replace HB:=bs HB hb;clear hb;have z15:=BM y8.out)|(go_at_call 121;refine mA (dw.calls A2.out) ?_;intro nd;(try exact dq)))
  repeat(go_quiet (first|(refine gG 1 ?_;refine bX HB 1 #[.string fF, .string fK] 43 ?_;intro LP Xg y8 LQ hb;replace HB:=bs HB hb;clear hb;have z15:=BM y8.out)|(go_at_call 121;refine mA (dw.calls A2.out) ?_;intro nd;(try exact dq)));try go_wp2_with (first|(refine gG 1 ?_;refine bX HB 1 #[.string fF, .string fK] 43 ?_;intro LP Xg y8 LQ hb;replace HB:=bs HB hb;clear hb;have z15:=BM y8.out)|(go_at_call 121;refine mA (dw.calls A2.out) ?_;intro nd;(try exact dq))))
  go_ret;exact⟨er,bb⟩
def iJ.l0:Nat→ByteArray→Int→Option (Bool)
 |0,_,_=>none
 |k+1,x0,x3=>if(wrap64 (x3+1))<(x0.size:Int)then(if 0≤x3 then(if x3<(x0.size:Int)then(if(bt x0 x3)=61 then(if 0≤(wrap64 (x3+1))then(if(bt x0 (wrap64 (x3+1)))=63 then(some true)else(iJ.l0 k x0 (wrap64 (x3+1))))else(none))else(iJ.l0 k x0 (wrap64 (x3+1))))else(none))else(none))else((aW.f k x0).bind fun aAV=>(if aAV=true then((bG.f k x0).bind fun aAW=>(if aAW.toList=x0.toList then(some (decide ((x0.size:Int)>120)))else(some true)))else(some true)))
def iJ.f(k:Nat)(a0:ByteArray):Option (Bool):=iJ.l0 k a0 0
theorem iJ.calls{k:Nat}{a0:ByteArray}{r:Bool}{w:World}(h:iJ.f k a0=some r):
  Calls Tryz.prog 147 #[.string a0] w fun e w'=>e= .returned (.bool r)∧dS w w':=by
 unfold iJ.f at h;have H:=h;clear h;have H':=ak H;clear H;go_enter func147,ntmps147;go_wp2;go_loopg [3] k (fun kq v3 w'=>∃(fA:Int),v3= .int .i64 fA∧ah (iJ.l0 kq a0 fA=some r)∧ah (kq≤k)∧dS w w')
 case atStart=>exact⟨_,rs,H',⟨Nat.le_refl _⟩,dn⟩
 case round=>
  clear H';obtain⟨fA,rfl,HA,y5,⟨m1,rfl⟩⟩:=hrel
  cases gk with
  |zero=>exact zz HA.out
  |succ k1=>
   obtain⟨H⟩:=HA;simp only[iJ.l0]at H;replace H:=sp H;rcases H with⟨c2,H⟩|⟨c2,H⟩
   ·have sO:=decide_eq_true c2
    (try(have BK:decide ((fA+1)<(a0.size:Int))=true:=decide_eq_true (by have h_:=c2;unfold wrap64 at h_;omega)));clear c2;replace H:=nO H;obtain⟨iY,H⟩:=H;replace H:=nO H;obtain⟨o7,H⟩:=H;replace H:=sq H;rcases H with⟨nD,AQ,H⟩|⟨c6,nD,AQ,H⟩
    ·obtain⟨ji7,VW⟩:∃j_:Int,(wrap64 (fA+1))=j_:=⟨_,rfl⟩
     replace H:(if 0≤(ji7)then(if(bt a0 (ji7))=63 then(some true)else(iJ.l0 k1 a0 ji7))else(none))=some r:=by first|(rw[VW]at H;exact H)|(simp only[VW]at H⊢;exact H)
     (try rw[VW]at sO);have aAX:(IntKind.i64.wrap (fA+1))=ji7:=(ig _).trans VW;replace H:=nO H;obtain⟨rP,H⟩:=H;replace H:=sq H;rcases H with⟨qg,uN,H⟩|⟨c10,qg,uN,H⟩
     ·obtain rfl:=s1 H;obtain⟨p5,q5,hx5⟩:=bx a0 fA;obtain⟨p9,q9,hx9⟩:=bx a0 (ji7);go_wp2;go_ret;exact⟨by first|rfl|(simp;done)|(simp only[←VW]<;>(first|rfl|simp))|(simp[*];done),dn⟩
     ·have H':=ak H;clear H;obtain⟨p5,q5,hx5⟩:=bx a0 fA;obtain⟨p9,q9,hx9⟩:=bx a0 (ji7);go_wp2;go_roundg k1
      case measure=>exact kl
      case rel=>exact⟨_,(by first|rfl|(simp;done)|(simp only[←VW]<;>(first|rfl|simp))|(simp[*];done)),H',⟨kl⟩,dn⟩
    ·have H':=ak H;clear H;obtain⟨p5,q5,hx5⟩:=bx a0 fA;go_wp2;go_roundg k1
     case measure=>exact kl
     case rel=>exact⟨_,rs,H',⟨kl⟩,dn⟩
   ·have sO:=decide_eq_false c2
    (try(have BK:decide ((fA+1)<(a0.size:Int))=false:=decide_eq_false (by have h_:=c2;unfold wrap64 at h_;omega)));clear c2;replace H:=bd H;obtain⟨aAV,A11,H⟩:=H;replace H:=sb H;rcases H with⟨rfl,H⟩|⟨rfl,H⟩
    ·replace H:=bd H;obtain⟨aAW,A13,H⟩:=H;replace H:=sq H;rcases H with⟨uD,yc,H⟩|⟨c14,uD,yc,H⟩
     ·obtain rfl:=s1 H;go_wp2_with (first|(refine gA func89 (aW.calls A11.out) ?_;intro nd)|(go_at_call 93;refine mA (bG.calls A13.out) ?_;intro nd))
      go_ret;exact⟨rs,dn⟩
     ·obtain rfl:=s1 H;go_wp2_with (first|(refine gA func89 (aW.calls A11.out) ?_;intro nd)|(go_at_call 93;refine mA (bG.calls A13.out) ?_;intro nd))
      go_ret;exact⟨rs,dn⟩
    ·obtain rfl:=s1 H;go_wp2_with (refine gA func89 (aW.calls A11.out) ?_;intro nd)
     go_ret;exact⟨rs,dn⟩
mutual
def iF.l0:Nat→List (eG)→Int→Option (Bool)
 |0,_,_=>none
 |k+1,x0,x3=>if x3<(x0.length:Int)then(iF.j1 k x0 x3 (decide (x3≤20)))else(iF.j1 k x0 x3 false)
def iF.j1:Nat→List (eG)→Int→Bool→Option (Bool)
 |0,_,_,_=>none
 |k+1,x0,x3,x11=>if x11=true then(if 0≤x3 then(if x3<(x0.length:Int)then((jc.f k ((eY x0 x3).f0) ((eY x0 x3).f1)).bind fun aAY=>(if aAY=true then(iF.l0 k x0 (wrap64 (x3+1)))else(some false)))else(none))else(none))else(some (decide ((x0.length:Int)≤20)))
end
def iF.f(k:Nat)(l0:List (eG)):Option (Bool):=iF.l0 k l0 0
theorem iF.calls{k c0:Nat}{A0:Option Addr}{l0:List (eG)}{r:Bool}{w:World}(hr0:Kd.C o9 w A0 l0.length l0)(hc0:l0.length≤c0)(h:iF.f k l0=some r):
  Calls Tryz.prog 57 #[.slice A0 l0.length c0] w fun e w'=>e= .returned (.bool r)∧Below w.heap.size w w':=by
 have F7:=underlying43;have HR0:=ak hr0;have uV:=ak hc0;clear hr0 hc0;have HB:=ak (Below.refl w.heap.size w);unfold iF.f at h;have H:=h;clear h;have H':=ak H;clear H;go_enter func57,ntmps57;go_wp2;go_loopg [3] k (fun kq v3 w'=>∃(fA:Int),v3= .int .i64 fA∧ah (iF.l0 kq l0 fA=some r)∧ah (kq≤k)∧ah (Below w.heap.size w w'))
 case atStart=>exact⟨_,rs,H',⟨Nat.le_refl _⟩,⟨ul HB.out⟩⟩
 case round=>
  clear H';obtain⟨fA,rfl,HA,y5,HB⟩:=hrel
  cases gk with
  |zero=>exact zz HA.out
  |succ k1=>
   obtain⟨H⟩:=HA;simp only[iF.l0]at H;have HC2:=ak H;clear H;go_upto_region 2 with(fail)
   go_cut [11] (fun v11 wc=>∃(kq:Nat) (y7:Bool),v11= .bool y7∧ah (iF.j1 kq l0 fA y7=some r)∧ah (kq≤k1)∧ah (Below w.heap.size w wc))
   case first=>
    have H:=HC2.out;clear HC2;replace H:=sd H;rcases H with⟨iY,H⟩|⟨iY,H⟩
    ·(first|rw[iY]|(simp only[ig,jO];rw[iY])|skip);have H':=ak H;clear H;go_wp2;go_meet
     case rel=>exact⟨_,_,rs,H',⟨kl⟩,⟨ul HB.out⟩⟩
    ·(first|rw[iY]|(simp only[ig,jO];rw[iY])|skip);have H':=ak H;clear H;go_wp2;go_meet
     case rel=>exact⟨_,_,rs,H',⟨kl⟩,⟨ul HB.out⟩⟩
   case rest=>
    clear HC2;obtain⟨kq,y7,rfl,HA,HJ1,HB⟩:=hcut
    cases kq with
    |zero=>exact zz HA.out
    |succ VU=>
     obtain⟨H⟩:=HA;simp only[iF.j1]at H;replace H:=sb H;rcases H with⟨rfl,H⟩|⟨rfl,H⟩
     ·replace H:=nO H;obtain⟨mV,H⟩:=H;replace H:=nO H;obtain⟨nD,H⟩:=H;replace H:=bd H;obtain⟨aAY,A7,H⟩:=H;replace H:=sb H;rcases H with⟨rfl,H⟩|⟨rfl,H⟩
      ·have H':=ak H;clear H;have ae7:=zi fA;have ae8:=zj fA l0.length;obtain⟨aAZ,awI,QO,QS⟩:=r_ HR0.out fA ae7 ae8;cases awI;replace QO:=cl HB.out QO;replace QS:=cl HB.out QS;replace ae7:=eq_true ae7;replace ae8:=eq_true ae8;go_wp2_with (refine gB func88 (jc.calls A7.out) ?_;intro w9 hb;replace HB:=bs HB hb;clear hb)
       go_roundg VU
       case measure=>exact kl
       case rel=>exact⟨_,rs,H',⟨kl⟩,⟨ul HB.out⟩⟩
      ·obtain rfl:=s1 H;have ae7:=zi fA;have ae8:=zj fA l0.length;obtain⟨aAZ,awI,QO,QS⟩:=r_ HR0.out fA ae7 ae8;cases awI;replace QO:=cl HB.out QO;replace QS:=cl HB.out QS;replace ae7:=eq_true ae7;replace ae8:=eq_true ae8;go_wp2_with (refine gB func88 (jc.calls A7.out) ?_;intro w10 hb;replace HB:=bs HB hb;clear hb)
       go_ret;exact⟨er,ul HB.out⟩
     ·obtain rfl:=s1 H;go_wp2;go_ret;exact⟨er,ul HB.out⟩
mutual
def fG.l0:Nat→ByteArray→Int→Int→Option (Int)
 |0,_,_,_=>none
 |k+1,x0,x5,x6=>if(wrap64 (x6+1))<(x0.size:Int)then(if 0≤x6 then(if x6<(x0.size:Int)then(if(bt x0 x6)=32 then(if 0≤(wrap64 (x6-1))then(if(wrap64 (x6-1))<(x0.size:Int)then(if(bt x0 (wrap64 (x6-1)))=32 then(fG.j1 k x0 x5 x6 true)else(if 0≤(wrap64 (x6+1))then(fG.j1 k x0 x5 x6 ((bt x0 (wrap64 (x6+1)))==32))else(none)))else(none))else(none))else(fG.j1 k x0 x5 x6 true))else(none))else(none))else(some x5)
def fG.j1:Nat→ByteArray→Int→Int→Bool→Option (Int)
 |0,_,_,_,_=>none
 |k+1,x0,x5,x6,x33=>if x33=true then(fG.l0 k x0 x5 (wrap64 (x6+1)))else(if x6≤40 then(fG.l0 k x0 x6 (wrap64 (x6+1)))else(if x5<0 then(fG.l0 k x0 x6 (wrap64 (x6+1)))else(fG.l0 k x0 x5 (wrap64 (x6+1)))))
end
def fG.f(k:Nat)(a0:ByteArray)(a1:Int):Option (Int):=fG.l0 k a0 (-1) (wrap64 (a1+1))
theorem fG.calls{k:Nat}{a0:ByteArray}{a1 r:Int}{w:World}(h:fG.f k a0 a1=some r):
  Calls Tryz.prog 90 #[.string a0, .int .i64 a1] w fun e w'=>e= .returned (.int .i64 r)∧dS w w':=by
 unfold fG.f at h;have H:=h;clear h;have H':=ak H;clear H;go_enter func90,ntmps90;go_wp2;go_loopg [5,6] k (fun kq v5 v6 w'=>∃(dX:Int) (gU:Int),v5= .int .i64 dX∧v6= .int .i64 gU∧ah (fG.l0 kq a0 dX gU=some r)∧ah (kq≤k)∧dS w w')
 case atStart=>exact⟨_,_,rs,rs,H',⟨Nat.le_refl _⟩,dn⟩
 case round=>
  clear H';obtain⟨dX,gU,rfl,rfl,HA,y5,⟨m1,rfl⟩⟩:=hrel
  cases gk with
  |zero=>exact zz HA.out
  |succ k1=>
   obtain⟨H⟩:=HA;simp only[fG.l0]at H;replace H:=sp H;rcases H with⟨c3,H⟩|⟨c3,H⟩
   ·have iY:=decide_eq_true c3
    (try(have zN:decide ((gU+1)<(a0.size:Int))=true:=decide_eq_true (by have h_:=c3;unfold wrap64 at h_;omega)));clear c3;have HC4:=ak H;clear H;go_upto_region 5 with(fail)
    go_cut [33] (fun v33 wc=>∃(kq:Nat) (ak1:Bool),v33= .bool ak1∧ah (fG.j1 kq a0 dX gU ak1=some r)∧ah (kq≤k1)∧dS w wc)
    case first=>
     have H:=HC4.out;clear HC4;replace H:=nO H;obtain⟨mV,H⟩:=H
     (first|rw[mV]|(simp only[ig,jO];rw[mV])|skip);replace H:=nO H;obtain⟨nD,H⟩:=H;replace H:=sq H;rcases H with⟨rP,Dt,H⟩|⟨c8,rP,Dt,H⟩
     ·obtain⟨QG,Hl⟩:∃j_:Int,(wrap64 (gU-1))=j_:=⟨_,rfl⟩
      replace H:(if 0≤(QG)then(if(QG)<(a0.size:Int)then(if(bt a0 (QG))=32 then(fG.j1 k1 a0 dX gU true)else(if 0≤(wrap64 (gU+1))then(fG.j1 k1 a0 dX gU ((bt a0 (wrap64 (gU+1)))==32))else(none)))else(none))else(none))=some r:=by first|(rw[Hl]at H;exact H)|(simp only[Hl]at H⊢;exact H)
      have akZ:(IntKind.i64.wrap (gU-1))=QG:=(ig _).trans Hl;replace H:=nO H;obtain⟨qg,H⟩:=H;replace H:=nO H;obtain⟨uM,H⟩:=H;replace H:=sq H;rcases H with⟨xY,Dh,H⟩|⟨c13,xY,Dh,H⟩
      ·have H':=ak H;clear H;obtain⟨p7,q7,hx7⟩:=bx a0 gU;obtain⟨p12,q12,awH⟩:=bx a0 (QG);go_wp2;go_meet
       case rel=>exact⟨_,_,rs,H',⟨kl⟩,dn⟩
      ·obtain⟨QL,QM⟩:∃j_:Int,(wrap64 (gU+1))=j_:=⟨_,rfl⟩
       replace H:(if 0≤(QL)then(fG.j1 k1 a0 dX gU ((bt a0 (QL))==32))else(none))=some r:=by first|(rw[QM]at H;exact H)|(simp only[QM]at H⊢;exact H)
       (try rw[QM]at iY);have aKJ:(IntKind.i64.wrap (gU+1))=QL:=(ig _).trans QM;replace H:=nO H;obtain⟨uz,H⟩:=H;have H':=ak H;clear H;obtain⟨p7,q7,hx7⟩:=bx a0 gU;obtain⟨p12,q12,awH⟩:=bx a0 (QG);obtain⟨p16,q16,hx16⟩:=bx a0 (QL);go_wp2;go_meet
       case rel=>exact⟨_,_,(by first|rfl|(simp;done)|(simp only[←QM]<;>(first|rfl|simp))|(simp[*];done)),H',⟨kl⟩,dn⟩
     ·have H':=ak H;clear H;obtain⟨p7,q7,hx7⟩:=bx a0 gU;go_wp2;go_meet
      case rel=>exact⟨_,_,rs,H',⟨kl⟩,dn⟩
    case rest=>
     clear HC4;try clear c3
     try clear iY
     try clear zN
     obtain⟨kq,ak1,rfl,HA,HJ3,⟨mc3,rfl⟩⟩:=hcut
     cases kq with
     |zero=>exact zz HA.out
     |succ kj3=>
      obtain⟨H⟩:=HA;simp only[fG.j1]at H;replace H:=sb H;rcases H with⟨rfl,H⟩|⟨rfl,H⟩
      ·have H':=ak H;clear H;go_wp2;go_roundg kj3
       case measure=>exact kl
       case rel=>exact⟨_,_,rs,rs,H',⟨kl⟩,dn⟩
      ·replace H:=sd H;rcases H with⟨ES,H⟩|⟨ES,H⟩
       ·have H':=ak H;clear H;go_wp2;go_roundg kj3
        case measure=>exact kl
        case rel=>exact⟨_,_,rs,rs,H',⟨kl⟩,dn⟩
       ·replace H:=sd H;rcases H with⟨ET,H⟩|⟨ET,H⟩
        ·have H':=ak H;clear H;go_wp2;go_roundg kj3
         case measure=>exact kl
         case rel=>exact⟨_,_,rs,rs,H',⟨kl⟩,dn⟩
        ·have H':=ak H;clear H;go_wp2;go_roundg kj3
         case measure=>exact kl
         case rel=>exact⟨_,_,rs,rs,H',⟨kl⟩,dn⟩
   ·have iY:=decide_eq_false c3
    (try(have zN:decide ((gU+1)<(a0.size:Int))=false:=decide_eq_false (by have h_:=c3;unfold wrap64 at h_;omega)));clear c3;obtain rfl:=s1 H;go_wp2;go_ret;exact⟨rs,dn⟩
mutual
def gX.j0:Nat→List ByteArray→ByteArray→Int→Option (List ByteArray)
 |0,_,_,_=>none
 |k+1,x3,x4,x5=>gX.l0 k x3 x4 x5
def gX.l0:Nat→List ByteArray→ByteArray→Int→Option (List ByteArray)
 |0,_,_,_=>none
 |k+1,x3,x4,x5=>if(x4.size:Int)>40 then((fG.f k x4 x5).bind fun Xl=>(if Xl<0 then(if x3.length<8796093022208 then(some (x3++[x4]))else(none))else(if 0≤Xl then(if Xl≤(x4.size:Int)then(if x3.length<8796093022208 then(gX.l0 k (x3++[x4.extract 0 (Xl:Int).toNat]) (x4.extract (Xl:Int).toNat x4.size) 1)else(none))else(none))else(none))))else(if x3.length<8796093022208 then(some (x3++[x4]))else(none))
end
def gX.f(k:Nat)(fF:ByteArray)(fK:ByteArray):Option (List ByteArray):=(some (([]:List ByteArray):List ByteArray)).bind fun ajn=>((jc.f k fF fK).bind fun aA0=>(if aA0=true then(if fF.size+1≤9223372036854775807 then(if fK.toList=([]:List UInt8)then(gX.j0 k ajn (fF++(⟨#[58]⟩:ByteArray)) ((fF++(⟨#[58]⟩:ByteArray)).size:Int))else(if(fF++(⟨#[58]⟩:ByteArray)).size+1≤9223372036854775807 then(if((fF++(⟨#[58]⟩:ByteArray))++(⟨#[32]⟩:ByteArray)).size+fK.size≤9223372036854775807 then(gX.j0 k ajn (((fF++(⟨#[58]⟩:ByteArray))++(⟨#[32]⟩:ByteArray))++fK) (wrap64 (((fF++(⟨#[58]⟩:ByteArray)).size:Int)+1)))else(none))else(none)))else(none))else(some ajn)))
theorem gX.calls{k:Nat}{fF fK:ByteArray}{r:List ByteArray}{w:World}(h:gX.f k fF fK=some r):
  Calls Tryz.prog 60 #[.agg #[.string fF, .string fK]] w fun e w'=>∃nC:Value,e= .returned (nC)∧Kd.R Kd.string 9 w' w.heap.size (fun _=>True) nC r∧Below w.heap.size w w':=by
 have F7:=underlying43;have HB:=ak (Below.refl w.heap.size w);unfold gX.f at h;have H:=h;clear h;replace H:=ny H;obtain⟨ajn,asF,H⟩:=H;replace H:=bd H;obtain⟨aA0,A2,H⟩:=H;replace H:=sb H;rcases H with⟨rfl,H⟩|⟨rfl,H⟩
 ·replace H:=nn H;obtain⟨c4,H⟩:=H;have o7:=eq_true c4;have Ul:=decide_eq_true c4;try have ak2:(9223372036854775807<fF.size+1)=False:=eq_false (Nat.not_lt.2 c4)
  have HC5:=ak H;clear H;go_enter func60,ntmps60;go_upto_if 19 with(first|(refine bX HB 1 #[.string fF, .string fK] 43 ?_;intro aae w6 wB aA1 hb;replace HB:=bs HB hb;clear hb)|(refine Fh 7 Kd.string 9 asF ?_;intro aA2 w7 ho8 hb;have Vl:=ak (au ho8 (aj bb));replace wB:=kb wB hb;replace HB:=bz HB hb;clear hb ho8;have z9:=BM wB.out)|(refine gB func88 (jc.calls A2.out) ?_;intro w10 hb;replace Vl:=rb Vl hb;replace wB:=kb wB hb;replace HB:=bz HB hb;clear hb;have z11:=BM wB.out))
  (try simp only[Act.put,yX,yY,l_c]);go_cut [4,5] (fun v4 v5 wc=>∃(kq:Nat) (awJ:ByteArray) (ac3:Int),v4= .string awJ∧v5= .int .i64 ac3∧ah (gX.j0 kq ajn awJ ac3=some r)∧ah (kq≤k)∧ah (Kd.R Kd.string 9 wc w.heap.size (fun _=>True) aA2 ajn)∧ah (wc.heap[aae]? =some (.cells #[.string fF, .string fK] 43 (0,0)))∧ah (Below w.heap.size w wc))
  case first=>
   have H:=HC5.out;clear HC5;replace H:=sp H;rcases H with⟨c12,H⟩|⟨c12,H⟩
   ·have vJ:=beq_iff_eq.mpr c12;have awK:(fK.toList).isEmpty=true:=List.isEmpty_iff.mpr c12;have EU:=bne_eq_false_iff_eq.mpr c12;clear c12
    (first|rw[vJ]|(simp only[ig,jO];rw[vJ])|skip)
    (first|(rw[awK];simp only[Bool.not_true,Bool.not_false])|skip);have H':=ak H;clear H;go_wp2;go_meet
    case rel=>exact⟨_,_,_,rs,rs,H',⟨PV⟩,⟨ur Vl.out⟩,⟨ub wB.out⟩,⟨bb⟩⟩
   ·have vJ:=beq_eq_false_iff_ne.mpr c12;have awK:(fK.toList).isEmpty=false:=List.isEmpty_eq_false_iff.mpr c12;have EU:=bne_iff_ne.mpr c12
    (first|rw[vJ]|(simp only[ig,jO];rw[vJ])|skip)
    (first|(rw[awK];simp only[Bool.not_true,Bool.not_false])|skip);replace H:=nn H;obtain⟨c13,H⟩:=H;have xY:=eq_true c13;have Dh:=decide_eq_true c13;try have aA3:(9223372036854775807<fF.size+1+1)=False:=by have h_:=(eq_false (Nat.not_lt.2 c13):(9223372036854775807<(fF++(⟨#[58]⟩:ByteArray)).size+1)=False);simp only[ByteArray.size_append]at h_;exact h_
    try have ahb:(9223372036854775807<(fF++(⟨#[58]⟩:ByteArray)).size+1)=False:=eq_false (Nat.not_lt.2 c13)
    replace H:=nn H;obtain⟨c14,H⟩:=H;have uD:=eq_true c14;have yc:=decide_eq_true c14;try have aOK:(9223372036854775807<fF.size+1+1+fK.size)=False:=by have h_:=(eq_false (Nat.not_lt.2 c14):(9223372036854775807<((fF++(⟨#[58]⟩:ByteArray))++(⟨#[32]⟩:ByteArray)).size+fK.size)=False);simp only[ByteArray.size_append]at h_;exact h_
    try have asG:(9223372036854775807<((fF++(⟨#[58]⟩:ByteArray))++(⟨#[32]⟩:ByteArray)).size+fK.size)=False:=eq_false (Nat.not_lt.2 c14)
    have H':=ak H;clear H;have z15:=BM wB.out;go_wp2;go_meet
    case rel=>exact⟨_,_,_,rs,rs,H',⟨PV⟩,⟨ur Vl.out⟩,⟨ub wB.out⟩,⟨bb⟩⟩
  case rest=>
   clear HC5;try clear c4
   try clear o7
   try clear Ul
   try clear ak2
   obtain⟨kq,awJ,ac3,rfl,rfl,HA,HJ4,pX,wB,HB⟩:=hcut
   cases kq with
   |zero=>exact zz HA.out
   |succ kj4=>
    obtain⟨H⟩:=HA;simp only[gX.j0]at H;have H':=ak H;clear H;go_wp2;go_loopg [3,4,5] kj4 (fun kq v3 v4 v5 w'=>∃(nJ:List ByteArray) (rH:ByteArray) (jB:Int),v4= .string rH∧v5= .int .i64 jB∧ah (gX.l0 kq nJ rH jB=some r)∧ah (kq≤kj4)∧ah (Kd.R Kd.string 9 w' w.heap.size (fun _=>True) v3 nJ)∧ah (w'.heap[aae]? =some (.cells #[.string fF, .string fK] 43 (0,0)))∧ah (Below w.heap.size w w'))
    case atStart=>exact⟨_,_,_,rs,rs,H',⟨Nat.le_refl _⟩,⟨ur pX.out⟩,⟨ub wB.out⟩,⟨bb⟩⟩
    case round=>
     clear H';try clear c4
     try clear o7
     try clear Ul
     try clear ak2
     obtain⟨nJ,rH,jB,rfl,rfl,HA,HK2,pX,wB,HB⟩:=hrel
     cases gk with
     |zero=>exact zz HA.out
     |succ k2=>
      obtain⟨H⟩:=HA;simp only[gX.l0]at H;replace H:=sp H;rcases H with⟨c16,H⟩|⟨c16,H⟩
      ·have ER:decide (40<(rH.size:Int))=true:=decide_eq_true c16;have QT:decide (40<rH.size)=true:=decide_eq_true (by omega);clear c16;replace H:=bd H;obtain⟨Xl,A17,H⟩:=H;replace H:=sd H;rcases H with⟨ES,H⟩|⟨ES,H⟩
       ·replace H:=nl H;obtain⟨ac4,H⟩:=H;obtain⟨aSY,asH⟩:=nm (nJ++[rH]);rw[←asH.out]at H;obtain rfl:=s1 H;go_wp2_with (first|(refine gA func90 (fG.calls A17.out) ?_;intro nd)|((with_reducible refine bP (b:= .append) (xs:=#[.tmp 44, .tmp 46]) rfl ?_);at_builtin;refine nP Kd.string (w0:=w) w.heap.size rfl (.tmp 44) (.tmp 46) 24 9 (.string ⟨#[]⟩) 16 rfl underlying24 info9 rfl (by decide) (by omega) u3 nJ rH [.string rH] (fun _=>True) (fun _=>False) rfl rfl ?aP (fun _ hk=>hk.elim) ?aF ?aO ?aB ?aS ?aL ?_;(case aP=>exact rfl);(case aB=>exact bb);(case aF=>exact(fun _ _=>trivial));(case aO=>exact(ur pX.out));(case aS=>exact(aj bb));(case aL=>have:=ac4.out;omega);intro aSZ w20 ho hb hg hat;rw[←asH.out]at ho;have aA4:=ak (ho);replace wB:=ak (bJ (g:=aae) (o:= .cells #[.string fF, .string fK] 43 (0,0)) (ub wB.out) hg (rM pX.out wB.out (by decide)));replace HB:=ak (hb);clear ho hb hg hat pX))
        go_ret;exact⟨_,er,ur aA4.out,bb⟩
       ·replace H:=AL H;obtain⟨EW,ac5,H⟩:=H;replace H:=AL H;obtain⟨H9,Xm,H⟩:=H;replace H:=nl H;obtain⟨ak3,H⟩:=H;obtain⟨aS0,asI⟩:=nm (nJ++[rH.extract 0 (Xl:Int).toNat]);rw[←asI.out]at H;have QU:=eq_true (of_decide_eq_true (by assumption):0≤Xl);have F8:=eq_true (of_decide_eq_true (by assumption):Xl≤(rH.size:Int));have H':=ak H;clear H;go_wp2_with (first|(refine gA func90 (fG.calls A17.out) ?_;intro nd)|((with_reducible refine bP (b:= .append) (xs:=#[.tmp 35, .tmp 39]) rfl ?_);at_builtin;refine nP Kd.string (w0:=w) w.heap.size rfl (.tmp 35) (.tmp 39) 24 9 (.string ⟨#[]⟩) 16 rfl underlying24 info9 rfl (by decide) (by omega) u3 nJ (rH.extract 0 (Xl:Int).toNat) [.string (rH.extract 0 (Xl:Int).toNat)] (fun _=>True) (fun _=>False) rfl rfl ?aP (fun _ hk=>hk.elim) ?aF ?aO ?aB ?aS ?aL ?_;(case aP=>exact rfl);(case aB=>exact bb);(case aF=>exact(fun _ _=>trivial));(case aO=>exact(ur pX.out));(case aS=>exact(aj bb));(case aL=>have:=ak3.out;omega);intro aS1 w26 ho hb hg hat;rw[←asI.out]at ho;have aA5:=ak (ho);replace wB:=ak (bJ (g:=aae) (o:= .cells #[.string fF, .string fK] 43 (0,0)) (ub wB.out) hg (rM pX.out wB.out (by decide)));replace HB:=ak (hb);clear ho hb hg hat pX))
        go_roundg k2
        case measure=>exact kl
        case rel=>exact⟨_,_,_,rs,rs,H',⟨kl⟩,⟨ur aA5.out⟩,⟨ub wB.out⟩,⟨bb⟩⟩
      ·have ER:decide (40<(rH.size:Int))=false:=decide_eq_false c16;have QT:decide (40<rH.size)=false:=decide_eq_false (by omega);clear c16;replace H:=nl H;obtain⟨ac6,H⟩:=H;obtain⟨aS2,asJ⟩:=nm (nJ++[rH]);rw[←asJ.out]at H;obtain rfl:=s1 H;go_wp2_with ((with_reducible refine bP (b:= .append) (xs:=#[.tmp 44, .tmp 46]) rfl ?_);at_builtin;refine nP Kd.string (w0:=w) w.heap.size rfl (.tmp 44) (.tmp 46) 24 9 (.string ⟨#[]⟩) 16 rfl underlying24 info9 rfl (by decide) (by omega) u3 nJ rH [.string rH] (fun _=>True) (fun _=>False) rfl rfl ?aP (fun _ hk=>hk.elim) ?aF ?aO ?aB ?aS ?aL ?_;(case aP=>exact rfl);(case aB=>exact bb);(case aF=>exact(fun _ _=>trivial));(case aO=>exact(ur pX.out));(case aS=>exact(aj bb));(case aL=>have:=ac6.out;omega);intro aS3 w28 ho hb hg hat;rw[←asJ.out]at ho;have aA6:=ak (ho);replace wB:=ak (bJ (g:=aae) (o:= .cells #[.string fF, .string fK] 43 (0,0)) (ub wB.out) hg (rM pX.out wB.out (by decide)));replace HB:=ak (hb);clear ho hb hg hat pX)
       go_ret;exact⟨_,er,ur aA6.out,bb⟩
 ·obtain rfl:=s1 H;go_enter func60,ntmps60;go_wp2_with (first|(refine bX HB 1 #[.string fF, .string fK] 43 ?_;intro aae w29 wB aA1 hb;replace HB:=bs HB hb;clear hb)|(refine Fh 7 Kd.string 9 asF ?_;intro aA2 w30 aA7 hb;have Vl:=ak (au aA7 (aj bb));replace wB:=kb wB hb;replace HB:=bz HB hb;clear hb aA7;have z32:=BM wB.out)|(refine gB func88 (jc.calls A2.out) ?_;intro w33 hb;replace Vl:=rb Vl hb;replace wB:=kb wB hb;replace HB:=bz HB hb;clear hb))
  go_ret;exact⟨_,er,ur Vl.out,bb⟩
def jE.l0:Nat→List (eG)→List ByteArray→Int→Option (List ByteArray×Bool)
 |0,_,_,_=>none
 |k+1,x0,x4,x5=>if x5<(x0.length:Int)then(if 0≤x5 then((gX.f k ((eY x0 x5).f0) ((eY x0 x5).f1)).bind fun ajo=>(if x4.length+ajo.length<8796093022208 then(jE.l0 k x0 (x4++ajo) (wrap64 (x5+1)))else(none)))else(none))else(some (x4,true))
def jE.f(k:Nat)(l0:List (eG)):Option (List ByteArray×Bool):=(some (([]:List ByteArray):List ByteArray)).bind fun awL=>((iF.f k l0).bind fun aA8=>(if aA8=true then(jE.l0 k l0 awL 0)else(some (awL,false))))
theorem jE.calls{k c0:Nat}{A0:Option Addr}{l0:List (eG)}{r1:List ByteArray}{r2:Bool}{w:World}(hr0:Kd.C o9 w A0 l0.length l0)(hc0:l0.length≤c0)(h:jE.f k l0=some (r1,r2)):
  Calls Tryz.prog 33 #[.slice A0 l0.length c0] w fun e w'=>∃nC:Value,e= .returned (.tuple #[nC, .bool r2])∧Kd.R Kd.string 9 w' w.heap.size (fun _=>True) nC r1∧Below w.heap.size w w':=by
 have F7:=underlying43;have HR0:=ak hr0;have uV:=ak hc0;clear hr0 hc0;have HB:=ak (Below.refl w.heap.size w);unfold jE.f at h;have H:=h;clear h;replace H:=ny H;obtain⟨awL,asK,H⟩:=H;replace H:=bd H;obtain⟨aA8,A2,H⟩:=H;replace H:=sb H;rcases H with⟨rfl,H⟩|⟨rfl,H⟩
 ·have H':=ak H;clear H;go_enter func33,ntmps33;go_wp2_with (first|(refine Fh 6 Kd.string 9 asK ?_;intro aKK w4 ho5 hb;have Xn:=ak (au ho5 (aj (ul HB.out)));replace HB:=bs HB hb;clear hb ho5)|(refine gB func57 (iF.calls (cu (aI HR0.out HB.out)) uV.out A2.out) ?_;intro w6 hb;replace Xn:=rb Xn hb;replace HB:=bs HB hb;clear hb))
  go_loopg [4,5] k (fun kq v4 v5 w'=>∃(cO:List ByteArray) (dX:Int),v5= .int .i64 dX∧ah (jE.l0 kq l0 cO dX=some (r1,r2))∧ah (kq≤k)∧ah (Kd.R Kd.string 9 w' w.heap.size (fun _=>True) v4 cO)∧ah (Below w.heap.size w w'))
  case atStart=>exact⟨_,_,rs,H',⟨Nat.le_refl _⟩,⟨ur Xn.out⟩,⟨ul HB.out⟩⟩
  case round=>
   clear H';obtain⟨cO,dX,rfl,HA,y5,bQ,HB⟩:=hrel
   cases gk with
   |zero=>exact zz HA.out
   |succ k1=>
    obtain⟨H⟩:=HA;simp only[jE.l0]at H;replace H:=sd H;rcases H with⟨sQ,H⟩|⟨sQ,H⟩
    ·replace H:=nO H;obtain⟨rP,H⟩:=H;replace H:=bd H;obtain⟨ajo,A9,H⟩:=H;replace H:=nl H;obtain⟨ac7,H⟩:=H;obtain⟨aS4,asL⟩:=nm (cO++ajo);rw[←asL.out]at H;have H':=ak H;clear H;have awM:=zi dX;have awN:=zj dX l0.length;obtain⟨aOL,aKL,ahk,ahl⟩:=r_ HR0.out dX awM awN;cases aKL;replace ahk:=cl HB.out ahk;replace ahl:=cl HB.out ahl;replace awM:=eq_true awM;replace awN:=eq_true awN;go_wp2_with (first|(refine gV func60 (gX.calls A9.out) ?_;rintro aS5 ZH ⟨ho0,hb⟩;have ac8:=ak (au (dM ho0 (jl (ur bQ.out))) (aj (ul HB.out)));replace bQ:=ak (dH (ur bQ.out) (bK ho0) hb);replace HB:=bs HB hb;clear hb;(try clear ho0);obtain⟨Hg,AP,LC⟩:=aC ac8.out;subst LC)|((with_reducible refine bP (b:= .append) (xs:=#[.tmp 17, .tmp 22]) rfl ?_);at_builtin;refine o_ Kd.string (w0:=w) w.heap.size rfl (.tmp 17) (.tmp 22) 24 9 (.string ⟨#[]⟩) 16 rfl underlying24 info9 rfl (by decide) (by omega) u4 cO ajo _ _ _ (fun k_=>some k_≠(.slice Hg ajo.length AP:Value).ownBlock) (fun _=>False) rfl rfl ?aO ?aR (fun _ _ h=>h) (fun _ h=>h.elim) ?aF ?aB ?aS ?aL ?_;(case aR=>repeat(first|exact(aA ac8.out).2.2|(with_reducible refine Kd.lM ?_ _)|(with_reducible refine Kd.lQ ?_ _)|(with_reducible refine Kd.oz ?_)));(case aB=>exact(ul HB.out));(case aF=>exact(fun k_ hk=>Kd.fresh' (jl (ur ac8.out)) k_ hk));(case aO=>exact(ur (aG bQ.out (fun _ hk=>hk.2))));(case aS=>exact(aj (ul HB.out)));(case aL=>have:=ac7.out;omega);intro aS6 w12 ho hb hg hat;rw[←asL.out]at ho;have aA9:=ak (ho);replace ac8:=ak (DV (ok:=(fun _=>True)) (ur ac8.out) hg hat);replace HB:=ak (hb);clear ho hb hg hat bQ))
     go_roundg k1
     case measure=>exact kl
     case rel=>exact⟨_,_,rs,H',⟨kl⟩,⟨ur (aG aA9.out (fun _ hk=>trivial))⟩,⟨ul HB.out⟩⟩
    ·obtain⟨rfl,rfl⟩:=s2 H;go_wp2;go_ret2;exact⟨_,er,ur bQ.out,ul HB.out⟩
 ·obtain⟨rfl,rfl⟩:=s2 H;go_enter func33,ntmps33;go_wp2_with (first|(refine Fh 6 Kd.string 9 asK ?_;intro aKK Xg VT hb;have Xn:=ak (au VT (aj (ul HB.out)));replace HB:=bs HB hb;clear hb VT)|(refine gB func57 (iF.calls (cu (aI HR0.out HB.out)) uV.out A2.out) ?_;intro w16 hb;replace Xn:=rb Xn hb;replace HB:=bs HB hb;clear hb))
  go_ret2;exact⟨_,er,ur Xn.out,ul HB.out⟩
def jg.f(a0:ByteArray):Option (ByteArray):=if a0.size≤140737488355328 then some (strOfNums ((bytesOf a0).map ZJ))else none
set_option maxHeartbeats 1000000 in
set_option maxRecDepth 100000 in
theorem jg.calls{a0 r:ByteArray}{w:World}(h:jg.f a0=some r):
  Calls Tryz.prog 94 #[.string a0] w fun e w'=>e= .returned (.string r)∧Below w.heap.size w w':=by
 unfold jg.f at h;split at h
 ·rename_i hb
  injection h with h;subst h;have kb:=fun W=>Vm (P:=Tryz.prog) 9 22 5 underlying9 underlying22 underlying5 a0 W
  go_enter func94,ntmps94;go_wp2;go_loopw [4] (fun i W=>∃k:Nat,k≤a0.size∧i= .int .i64 k∧Um w w.heap.size (Lh (bytesOf a0) k) W) (fun i _=>a0.size-(intOf i).toNat)
  case atStart=>exact⟨0,Nat.zero_le _,rfl,by simpa [Lh] using QV w 5 a0⟩
  case round=>
   obtain⟨k,hk,rfl,hR⟩:=hrel;have HR:=ak hR;by_cases hlt:k<a0.size
   ·have hc:=hR.cell k (by rw[oP,bytesOf_length];exact hlt);have hf:=hR.free k (by rw[oP,bytesOf_length];exact hlt);rw[abf _ _ (by rw[bytesOf_length];exact hlt)]at hc;clear hR;have hr:=O7 a0 k;have hs:=ak (aaf (bytesOf a0) k (by rw[bytesOf_length];exact hlt));have hu:=ak (Un (bytesOf a0) k (by rw[bytesOf_length];exact hlt))
    generalize (bytesOf a0).getD k 0=c at hc hr hs hu
    go_wp2
    ·go_roundw
     case rel=>exact⟨k+1,by omega,by go_num,by
      rw[hu.out,ZJ,if_pos ⟨by omega,by omega⟩];exact HR.out.store (Nat.le_refl _) k (by rw[oP,bytesOf_length];exact hlt) _⟩
     case measure=>simp[intOf];omega
    ·go_roundw
     case rel=>exact⟨k+1,by omega,by go_num,by rw[hs.out (by omega)];exact HR.out⟩
     case measure=>simp[intOf];omega
    ·go_roundw
     case rel=>exact⟨k+1,by omega,by go_num,by rw[hs.out (by omega)];exact HR.out⟩
     case measure=>simp[intOf];omega
   ·clear hR
    have kd:=run_convert_bytes_arg (P:=Tryz.prog) wr 22 5 underlying22 underlying5 w.heap.size 0 a0.size (grownCap w a0.size 0 5) (Lh (bytesOf a0) k) (by rw[oP,bytesOf_length]) (fun i hi=>by
     rw[Nat.zero_add];exact HR.out.cell i (by rw[oP,bytesOf_length];exact hi)) 9 underlying9
    go_wp2;go_ret;have hk2:k=a0.size:=by omega
    exact⟨by rw[hk2,ac9 (bytesOf a0) a0.size (bytesOf_length a0)];rfl,HR.out.below⟩
 ·cases h
def uF.f(a0:ByteArray)(a1:ByteArray):Option (Bool):=(jg.f a0).bind fun aA_=>((jg.f a1).bind fun aBa=>(some (aA_.toList==aBa.toList)))
theorem uF.calls{a0 a1:ByteArray}{r:Bool}{w:World}(h:uF.f a0 a1=some r):
  Calls Tryz.prog 122 #[.string a0, .string a1] w fun e w'=>e= .returned (.bool r)∧Below w.heap.size w w':=by
 have HB:=ak (Below.refl w.heap.size w);unfold uF.f at h;have H:=h;clear h;replace H:=bd H;obtain⟨aA_,A3,H⟩:=H;replace H:=bd H;obtain⟨aBa,A4,H⟩:=H;obtain rfl:=s1 H;go_enter func122,ntmps122;go_wp2_with (first|(refine gB func94 (jg.calls A3.out) ?_;intro w5 hb;replace HB:=bs HB hb;clear hb)|(refine gB func94 (jg.calls A4.out) ?_;intro w6 hb;replace HB:=bs HB hb;clear hb))
 go_ret;exact⟨er,ul HB.out⟩
end Go.Proofs.YtdkipechiaploaaGreatDoor.PFnPartText
