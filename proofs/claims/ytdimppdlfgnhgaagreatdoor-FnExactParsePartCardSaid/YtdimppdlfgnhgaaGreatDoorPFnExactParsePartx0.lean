/- Printed walks; conditions: those in each statement. -/
import Derived.Test.YtdimppdlfgnhgaaGreatDoorVFnExactParsePartQt
import Derived.Test.YtdimppdlfgnhgaaGreatDoorProg
import Derived.Test.YtdimppdlfgnhgaaGreatDoorVFnExactParsePartXt
import Derived.Below
import Derived.Deep.Draws
import Derived.Deep.AppendLies
import Derived.Maps.AppendAt
import Derived.OwnWalk
import Derived.Laws.BytesArg
import Derived.Laws.MakeOwn
import Derived.Laws.OwnMore
import Derived.Deep.OwnRows
import Derived.Tactics
import Derived.Lib.ConvBytes
import Derived.Lib.SliceRun
import Derived.Laws.Slices
import Derived.WalkKit
import Derived.KernelRfl
import Derived.RowKit3
import Derived.Deep.LoopGhost
import Derived.Deep.QuietTactic
import Derived.BigQuiet
import Derived.WideLaws
import Derived.Deep.DeepCutAuto
import Derived.Deep.CutBlock
import Derived.Deep.RegionHeld3
import Derived.Laws.Rows
import Derived.Lib.AppendStr
import Derived.ArgAppend
import Derived.Laws.IdiomCopy
import Derived.OrdersHeld
import Derived.Laws.BitsLemmas
import Derived.RowKit
import Derived.Test.YtdimppdlfgnhgaaGreatDoorMx
import Derived.Test.YtdimppdlfgnhgaaGreatDoorVFnExactParsePartWords
import Derived.Test.YtdimppdlfgnhgaaGreatDoorVFnExactParsePartLast
import Derived.Test.YtdimppdlfgnhgaaGreatDoorVFnExactParsePartTab
import Derived.Test.YtdimppdlfgnhgaaGreatDoorVFnExactParsePartApart
import Derived.Test.YtdimppdlfgnhgaaGreatDoorVFnExactParsePartFoot
import Derived.Test.YtdimppdlfgnhgaaGreatDoorVFnExactParsePartKept
import Derived.Test.YtdimppdlfgnhgaaGreatDoorVFnExactParsePartShare
import Derived.Test.YtdimppdlfgnhgaaGreatDoorVFnExactParsePartN
import Derived.Test.YtdimppdlfgnhgaaGreatDoorVFnExactParsePartRepsOne
import Derived.Test.YtdimppdlfgnhgaaGreatDoorVFnExactParsePartInv
import Derived.Test.YtdimppdlfgnhgaaGreatDoorVFnExactParsePartGuard
import Derived.Test.YtdimppdlfgnhgaaGreatDoorVFnExactParsePartMore
import Derived.Test.YtdimppdlfgnhgaaGreatDoorVFnExactParsePartYt
namespace Go.Proofs.YtdimppdlfgnhgaaGreatDoor.PFnExactParsePart
open Go.Proofs.YtdimppdlfgnhgaaGreatDoorW.eP.Kd Go.Proofs.YtdimppdlfgnhgaaGreatDoorW.mX.Kd Go.Proofs.Tryz Go.RowKit Go.Proofs.YtdimppdlfgnhgaaGreatDoor.X Go.Proofs.YtdimppdlfgnhgaaGreatDoorW.eP Go.Proofs.YtdimppdlfgnhgaaGreatDoorW.lF Go.Proofs.YtdimppdlfgnhgaaGreatDoorW.mX
attribute [local go_sem] uP uQ xQ xR rE rG uS uT   -- for this text's walks alone
set_option linter.unusedVariables false
set_option linter.unusedSimpArgs false
set_option maxHeartbeats 8000000
set_option maxRecDepth 100000
def ayB:Option Int→Value
 |none=> .nilIface
 |some c=> .iface 0 (.int .i64 c)
theorem jP:ayB none= .nilIface:=rfl
theorem jQ(c:Int):ayB (some c)= .iface 0 (.int .i64 c):=rfl
theorem info5:(Tryz.prog.info? 5).map (fun i=>(i.zero,i.size,i.bytes))=some (some (.int .u8 0),1,1):=by kernel_rfl
theorem info9:(Tryz.prog.info? 9).map (fun i=>(i.zero,i.size,i.bytes))=some (some (.string ⟨#[]⟩),1,16):=by kernel_rfl
theorem info23:(Tryz.prog.info? 23).map (fun i=>(i.zero,i.size,i.bytes))=some (some (.slice none 0 0),1,24):=by kernel_rfl
theorem ad5:(Tryz.prog.info? 32).map (fun i=>(i.zero,i.size,i.bytes))=some (some (.agg #[(.slice none 0 0),(.slice none 0 0),(.slice none 0 0)]),3,72):=by kernel_rfl
theorem Fz:(Tryz.prog.info? 63).map (fun i=>(i.zero,i.size,i.bytes))=some (some (.agg #[(.string ⟨#[]⟩),(.string ⟨#[]⟩)]),2,32):=by kernel_rfl
structure gI where
 f0:ByteArray
 f1:ByteArray
def z63:gI:=⟨(⟨#[]⟩:ByteArray),(⟨#[]⟩:ByteArray)⟩
def oN:Kd gI:=Kd.iso (Kd.pair Kd.string Kd.string) (fun x:gI=>(x.f0,x.f1))
theorem ajF{w:World}{x:gI}{cs:List Value}(h:oN.K w x cs):cs=[.string x.f0, .string x.f1]:=by
 obtain⟨_,_,rfl,rfl,rfl⟩:=h;exact rfl
theorem NK{w:World}{base:Nat}{ok:Nat→Prop}{x:gI}{cs:List Value}(h:oN.M w base ok x cs):cs=[.string x.f0, .string x.f1]:=by
 obtain⟨_,_,rfl,rfl,rfl⟩:=h;exact rfl
theorem aHo(w:World)(x:gI):oN.K w x [.string x.f0, .string x.f1]:=⟨[.string x.f0],[.string x.f1],rfl,rfl,rfl⟩
theorem Hq(w:World)(base:Nat)(ok:Nat→Prop)(x:gI):oN.M w base ok x [.string x.f0, .string x.f1]:=⟨[.string x.f0],[.string x.f1],rfl,rfl,rfl⟩
def aG(xs:List gI)(i:Int):gI:=xs.getD i.toNat z63
theorem oC{w:World}{A:Option Addr}{n:Nat}{xs:List gI}(h:Kd.C oN w A n xs)(i:Int)(h0:0≤i)(h1:i<n):∃ad,A=some ad∧w.cell? (ad.add (i.toNat*2))=some (.string (aG xs i).f0)∧w.cell? ⟨(ad.add (i.toNat*2)).block,(ad.add (i.toNat*2)).off+1,none⟩=some (.string (aG xs i).f1):=by
 obtain⟨ad,c,e,_,hK,hc0⟩:=aga h z63 i h0 h1;have hc:∀j u,c[j]? =some u→w.cell? (ad.add (i.toNat*2+j))=some u:=hc0;obtain rfl:=ajF hK;exact⟨ad,e,hc 0 _ rfl,by rw[←Ut _ _ 1 (by omega)];exact hc 1 _ rfl⟩
def agb(xs:List (List gI))(i:Int):(List gI):=xs.getD i.toNat ([]:List gI)
def kM(xs:List (List ByteArray))(i:Int):(List ByteArray):=xs.getD i.toNat ([]:List ByteArray)
theorem FB{w:World}{A:Option Addr}{n:Nat}{xs:List (List ByteArray)}(h:Kd.C (Kd.slice 9 Kd.string) w A n xs)(i:Int)(h0:0≤i)(h1:i<n):∃ad A0 c0,A=some ad∧w.cell? (ad.add i.toNat)=some (.slice A0 (kM xs i).length c0)∧(kM xs i).length≤c0∧Kd.string.C w A0 (kM xs i).length (kM xs i):=by
 obtain⟨ad,c,e,_,hK,hc0⟩:=aga h ([]:List ByteArray) i h0 h1;have hc:∀j u,c[j]? =some u→w.cell? (ad.add (i.toNat*1+j))=some u:=hc0;obtain⟨A0,c0,rfl,l0,g0⟩:=hK;exact⟨ad,A0,c0,e,by have hq:=hc 0 _ rfl;rwa [Nat.mul_one,Nat.add_zero]at hq,l0,g0⟩
structure ku where
 f0:(List gI)
 f1:(List ByteArray)
 f2:(List ku)
def z32:ku:=⟨([]:List gI),([]:List ByteArray),([]:List ku)⟩
def F32(d:Kd ku):Kd ku:=Kd.iso (Kd.pair (Kd.slice 63 oN) (Kd.pair (Kd.slice 9 Kd.string) (Kd.slice 32 d))) (fun x:ku=>(x.f0,x.f1,x.f2))
theorem Xr:Kd.JO F32:=ajG _ (Zr (Xt _) (Zr (Xt _) (ad6 32 aon)))
theorem ayC:Kd.Sub F32 [9,32,63]:=aoo _ (acA (Kd.sub_const _ (by decide)) (acA (Kd.sub_const _ (by decide)) (aiG 32 (by decide) avh)))
theorem aop:∀n,(Kd.upto F32 3 [9,32,63] n).sz=3:=agc (fun _=>rfl)
def k32:Kd ku:=Kd.fix F32 3 [9,32,63] aop (ad7 ayC)
theorem ajH{w:World}{x:ku}{cs:List Value}(h:k32.K w x cs):∃A0 c0 A1 c1 A2 c2,cs=[.slice A0 x.f0.length c0, .slice A1 x.f1.length c1, .slice A2 x.f2.length c2]∧x.f0.length≤c0∧oN.C w A0 x.f0.length x.f0∧x.f1.length≤c1∧Kd.string.C w A1 x.f1.length x.f1∧x.f2.length≤c2∧k32.C w A2 x.f2.length x.f2:=by
 obtain⟨n,h⟩:=h
 cases n with
 |zero=>exact h.elim
 |succ n=>
  obtain⟨_,_,rfl,⟨A0,c0,rfl,l0,g0⟩,⟨_,_,rfl,⟨A1,c1,rfl,l1,g1⟩,⟨A2,c2,rfl,l2,g2⟩⟩⟩:=h;exact⟨A0,c0,A1,c1,A2,c2,rfl,l0,g0,l1,g1,l2,ayD g2⟩
theorem ayA{w:World}{base:Nat}{ok:Nat→Prop}{x:ku}{cs:List Value}(h:k32.M w base ok x cs):∃v0 v1 v2,cs=[v0,v1,v2]∧oN.R 63 w base ok v0 x.f0∧Kd.string.R 9 w base ok v1 x.f1∧k32.R 32 w base ok v2 x.f2:=by
 obtain⟨n,h⟩:=h
 cases n with
 |zero=>exact h.elim
 |succ n=>
  obtain⟨_,_,rfl,⟨v0,rfl,g0⟩,⟨_,_,rfl,⟨v1,rfl,g1⟩,⟨v2,rfl,g2⟩⟩⟩:=h;exact⟨v0,v1,v2,rfl,g0,g1,ayE g2⟩
theorem aHp(w:World)(x:ku){A0:Option Addr}{c0:Nat}(l0:x.f0.length≤c0)(g0:oN.C w A0 x.f0.length x.f0){A1:Option Addr}{c1:Nat}(l1:x.f1.length≤c1)(g1:Kd.string.C w A1 x.f1.length x.f1){A2:Option Addr}{c2:Nat}(l2:x.f2.length≤c2)(g2:k32.C w A2 x.f2.length x.f2):k32.K w x [.slice A0 x.f0.length c0, .slice A1 x.f1.length c1, .slice A2 x.f2.length c2]:=by
 obtain⟨n2,q2⟩:=ad8 Xr g2;have r2:=aiH Xr aop (show n2≤n2 by omega) q2;exact⟨n2+1,⟨[.slice A0 x.f0.length c0],[.slice A1 x.f1.length c1, .slice A2 x.f2.length c2],rfl,⟨A0,c0,rfl,l0,g0⟩,⟨[.slice A1 x.f1.length c1],[.slice A2 x.f2.length c2],rfl,⟨A1,c1,rfl,l1,g1⟩,⟨A2,c2,rfl,l2,r2⟩⟩⟩⟩
theorem agd(w:World)(base:Nat)(ok:Nat→Prop)(x:ku){v0:Value}(g0:oN.R 63 w base ok v0 x.f0){v1:Value}(g1:Kd.string.R 9 w base ok v1 x.f1){v2:Value}(g2:k32.R 32 w base ok v2 x.f2):k32.M w base ok x [v0,v1,v2]:=by
 obtain⟨n2,q2⟩:=ad9 Xr g2;have r2:=aiI Xr aop (show n2≤n2 by omega) q2;exact⟨n2+1,⟨[v0],[v1,v2],rfl,⟨v0,rfl,g0⟩,⟨[v1],[v2],rfl,⟨v1,rfl,g1⟩,⟨v2,rfl,r2⟩⟩⟩⟩
def aW(xs:List ku)(i:Int):ku:=xs.getD i.toNat z32
theorem uU{w:World}{A:Option Addr}{n:Nat}{xs:List ku}(h:Kd.C k32 w A n xs)(i:Int)(h0:0≤i)(h1:i<n):∃ad A0 c0 A1 c1 A2 c2,A=some ad∧w.cell? (ad.add (i.toNat*3))=some (.slice A0 (aW xs i).f0.length c0)∧w.cell? ⟨(ad.add (i.toNat*3)).block,(ad.add (i.toNat*3)).off+1,none⟩=some (.slice A1 (aW xs i).f1.length c1)∧w.cell? ⟨(ad.add (i.toNat*3)).block,(ad.add (i.toNat*3)).off+2,none⟩=some (.slice A2 (aW xs i).f2.length c2)∧(aW xs i).f0.length≤c0∧oN.C w A0 (aW xs i).f0.length (aW xs i).f0∧(aW xs i).f1.length≤c1∧Kd.string.C w A1 (aW xs i).f1.length (aW xs i).f1∧(aW xs i).f2.length≤c2∧k32.C w A2 (aW xs i).f2.length (aW xs i).f2:=by
 obtain⟨ad,c,e,_,hK,hc0⟩:=aga h z32 i h0 h1;have hc:∀j u,c[j]? =some u→w.cell? (ad.add (i.toNat*3+j))=some u:=hc0;obtain⟨A0,c0,A1,c1,A2,c2,rfl,l0,g0,l1,g1,l2,g2⟩:=ajH hK;exact⟨ad,A0,c0,A1,c1,A2,c2,e,hc 0 _ rfl,by rw[←Ut _ _ 1 (by omega)];exact hc 1 _ rfl,by rw[←Ut _ _ 2 (by omega)];exact hc 2 _ rfl,l0,g0,l1,g1,l2,g2⟩
theorem ajI{α:Type}{d d':Kd α}(hs:d.sz=d'.sz)(h:∀w base ok x cs,d.M w base ok x cs→d'.M w base ok x cs){e:Nat}{w:World}{base:Nat}{ok:Nat→Prop}{v:Value}{xs:List α}(hr:Kd.S d e w base ok v xs):Kd.S d' e w base ok v xs:=by
 obtain⟨f,hr⟩:=hr;exact⟨f,acB (d:=Kd.tag f d) (d':=Kd.tag f d') hs (fun w base ok x cs hm=>h w base _ x.1 cs hm) hr⟩
def FA(d:Kd ku):Kd ku where
 sz:=3
 E:=63:: 9:: 32:: d.E
 K:=(F32 d).K
 M:=fun w base ok x cs=>∃(v0 v1 v2:Value) (o0 o1 o2:Nat→Prop),cs=[v0,v1,v2]∧(∀k,o0 k→ok k∧¬o1 k∧¬o2 k)∧(∀k,o1 k→ok k∧¬o2 k)∧(∀k,o2 k→ok k)∧oN.R 63 w base o0 v0 x.f0∧Kd.string.R 9 w base o1 v1 x.f1∧Kd.S d 32 w base o2 v2 x.f2
 sN:=fun h=>(F32 d).sN h
 rQ:=fun h=>(F32 d).rQ h
 oQ:=fun hb h=>(F32 d).oQ hb h
 mM:=by
  rintro w base ok x cs ⟨v0,v1,v2,o0,o1,o2,rfl,-,-,-,h0,h1,h2⟩;obtain⟨A0,c0,rfl,l0,g0⟩:=NM h0;obtain⟨A1,c1,rfl,l1,g1⟩:=NM h1;obtain⟨A2,c2,rfl,l2,g2⟩:=aoq h2;exact⟨[_],[_,_],rfl,⟨A0,c0,rfl,l0,g0⟩,[_],[_],rfl,⟨A1,c1,rfl,l1,g1⟩,⟨A2,c2,rfl,l2,g2⟩⟩
 kN:=by
  rintro w base ok ok' x cs hok ⟨v0,v1,v2,o0,o1,o2,rfl,a0,a1,a2,h⟩;exact⟨v0,v1,v2,o0,o1,o2,rfl,fun k hk=>⟨hok k (a0 k hk).1,(a0 k hk).2⟩,fun k hk=>⟨hok k (a1 k hk).1,(a1 k hk).2⟩,fun k hk=>hok k (a2 k hk),h⟩
 mO:=by
  rintro w base ok x cs ⟨v0,v1,v2,o0,o1,o2,rfl,a0,a1,a2,h0,h1,h2⟩;refine⟨v0,v1,v2,_,_,_,rfl,fun k hk=>⟨⟨(a0 k hk.1).1,hk.2.1,hk.2.2.1,?_⟩,fun hh=>(a0 k hk.1).2.1 hh.1,fun hh=>(a0 k hk.1).2.2 hh.1⟩,fun k hk=>⟨⟨(a1 k hk.1).1,hk.2.1,hk.2.2.1,?_⟩,fun hh=>(a1 k hk.1).2 hh.1⟩,fun k hk=>⟨a2 k hk.1,hk.2.1,hk.2.2.1,?_⟩,nY h0,nY h1,D9 h2⟩
  ·obtain⟨q,hq,hc⟩:=hk.2.2.2;refine⟨q,?_,hc⟩;rcases List.mem_cons.1 hq with rfl|hq
   ·exact List.mem_cons_self
   ·exact absurd hq (by change¬q∈([]:List Nat);simp)
  ·obtain⟨q,hq,hc⟩:=hk.2.2.2;refine⟨q,?_,hc⟩;rcases List.mem_cons.1 hq with rfl|hq
   ·exact List.mem_cons_of_mem _ List.mem_cons_self
   ·exact absurd hq (by change¬q∈([]:List Nat);simp)
  ·obtain⟨q,hq,hc⟩:=hk.2.2.2;exact⟨q,List.mem_cons_of_mem _ (List.mem_cons_of_mem _ hq),hc⟩
 oU:=by
  rintro w w1 base ok x cs hm ⟨v0,v1,v2,o0,o1,o2,rfl,a0,a1,a2,h0,h1,h2⟩;exact⟨v0,v1,v2,o0,o1,o2,rfl,a0,a1,a2,LQ h0 (fun k hk=>hm k (a0 k hk).1),LQ h1 (fun k hk=>hm k (a1 k hk).1),ajJ h2 (fun k hk=>hm k (a2 k hk))⟩
 pq:=by
  rintro w base base' ok x cs hb ⟨v0,v1,v2,o0,o1,o2,rfl,a0,a1,a2,h0,h1,h2⟩;exact⟨v0,v1,v2,o0,o1,o2,rfl,a0,a1,a2,bQ h0 hb,bQ h1 hb,qZ h2 hb⟩
theorem ayF:Kd.JO FA:=by
 refine⟨fun _ _ _=>rfl,fun d d' hs h=>Xr.K d d' hs h,?_⟩;rintro d d' hs h w base ok x cs ⟨v0,v1,v2,o0,o1,o2,rfl,a0,a1,a2,h0,h1,h2⟩;exact⟨v0,v1,v2,o0,o1,o2,rfl,a0,a1,a2,h0,h1,ajI hs h h2⟩
theorem szA:∀n,(Kd.upto FA 3 [9,32,63] n).sz=3:=agc (fun _=>rfl)
theorem aHq:Kd.Sub FA [9,32,63]:=by
 intro d h q hq;rcases List.mem_cons.1 hq with rfl|hq
 ·decide
 rcases List.mem_cons.1 hq with rfl|hq
 ·decide
 rcases List.mem_cons.1 hq with rfl|hq
 ·decide
 exact h q hq
theorem agf:∀(n:Nat) {w:World} {base:Nat} {ok:Nat→Prop} {x:ku} {cs:List Value},(Kd.upto FA 3 [9,32,63] n).M w base ok x cs→(Kd.upto F32 3 [9,32,63] n).M w base ok x cs
 |0,_,_,_,_,_,h=>h.elim
 |n+1,w,base,ok,x,cs,h=>by
  obtain⟨v0,v1,v2,o0,o1,o2,rfl,a0,a1,a2,h0,h1,h2⟩:=h;exact⟨[v0],[v1,v2],rfl,⟨v0,rfl,aK h0 (fun k hk=>(a0 k hk).1)⟩,[v1],[v2],rfl,⟨v1,rfl,aK h1 (fun k hk=>(a1 k hk).1)⟩,⟨v2,rfl,acB (by rw[szA n,aop n]) (fun _ _ _ _ _ hp=>agf n hp) (aK (Kd.S_R h2) a2)⟩⟩
def kA:Kd ku where
 sz:=k32.sz
 E:=[9,32,63]
 K:=k32.K
 M:=fun w base ok x cs=>∃n,(Kd.upto FA 3 [9,32,63] n).M w base ok x cs
 sN:=k32.sN
 rQ:=k32.rQ
 oQ:=k32.oQ
 mM:=by
  rintro w base ok x cs ⟨n,h⟩;exact k32.mM ⟨n,agf n h⟩
 kN:=by
  rintro w base ok ok' x cs hok ⟨n,h⟩;exact⟨n,(Kd.upto FA 3 [9,32,63] n).kN hok h⟩
 mO:=by
  rintro w base ok x cs ⟨n,h⟩;refine⟨n,(Kd.upto FA 3 [9,32,63] n).kN ?_ ((Kd.upto FA 3 [9,32,63] n).mO h)⟩;rintro k ⟨h2,h3,h4,q,hq,hc⟩;exact⟨h2,h3,h4,q,ad7 aHq n q hq,hc⟩
 oU:=by
  rintro w w1 base ok x cs hm ⟨n,h⟩;exact⟨n,(Kd.upto FA 3 [9,32,63] n).oU hm h⟩
 pq:=by
  rintro w base base' ok x cs hb ⟨n,h⟩;exact⟨n,(Kd.upto FA 3 [9,32,63] n).pq hb h⟩
theorem agh{w:World}{A:Option Addr}{n:Nat}{xs:List ku}(h:kA.C w A n xs):k32.C w A n xs:=by
 unfold Kd.C at h⊢;exact h
theorem aor{e:Nat}{w:World}{base:Nat}{ok:Nat→Prop}{v:Value}{xs:List ku}(h:Kd.S kA e w base ok v xs):∃n,Kd.S (Kd.upto FA 3 [9,32,63] n) e w base ok v xs:=by
 obtain⟨f,h0,inner,ho,hr⟩:=h;obtain⟨N,hN⟩:=Qu (R:=fun n p c=>(Kd.tag f (Kd.upto FA 3 [9,32,63] n)).M w base (fun k=>ok k∧some k≠v.ownBlock) p c) (fun n m p c hnm hp=>Uu ayF szA hnm hp) hr;refine⟨N,f,h0,inner,?_,?_⟩
 ·have e1:(Kd.tag f (Kd.upto FA 3 [9,32,63] N)).sz=3:=szA N;rw[e1];exact ho
 ·have e1:(Kd.tag f (Kd.upto FA 3 [9,32,63] N)).sz=3:=szA N;rw[e1];exact hN
theorem ayG{w:World}{base:Nat}{ok:Nat→Prop}{x:ku}{cs:List Value}(h:kA.M w base ok x cs):∃(v0 v1 v2:Value) (o0 o1 o2:Nat→Prop),cs=[v0,v1,v2]∧(∀k,o0 k→ok k∧¬o1 k∧¬o2 k)∧(∀k,o1 k→ok k∧¬o2 k)∧(∀k,o2 k→ok k)∧oN.R 63 w base o0 v0 x.f0∧Kd.string.R 9 w base o1 v1 x.f1∧Kd.S kA 32 w base o2 v2 x.f2:=by
 obtain⟨n,h⟩:=h
 cases n with
 |zero=>exact h.elim
 |succ n=>
  obtain⟨v0,v1,v2,o0,o1,o2,rfl,a0,a1,a2,h0,h1,h2⟩:=h;exact⟨v0,v1,v2,o0,o1,o2,rfl,a0,a1,a2,h0,h1,ajI (d':=kA) (szA n) (fun _ _ _ _ _ hp=>⟨n,hp⟩) h2⟩
theorem mkA{w:World}{base:Nat}{ok o0 o1 o2:Nat→Prop}{x:ku}{v0 v1 v2:Value}(a0:∀k,o0 k→ok k∧¬o1 k∧¬o2 k)(a1:∀k,o1 k→ok k∧¬o2 k)(a2:∀k,o2 k→ok k)(h0:oN.R 63 w base o0 v0 x.f0)(h1:Kd.string.R 9 w base o1 v1 x.f1)(h2:Kd.S kA 32 w base o2 v2 x.f2):kA.M w base ok x [v0,v1,v2]:=by
 obtain⟨n,h2⟩:=aor h2;exact⟨n+1,v0,v1,v2,o0,o1,o2,rfl,a0,a1,a2,h0,h1,h2⟩
def Apt(M:Nat)(w:World)(base:Nat)(ok:Nat→Prop)(v:Value)(xs:List ku)(v0:Value)(t0:List gI)(v1:Value)(t1:List ByteArray)(v2:Value)(t2:List ku):Prop:=
 ∃N,(∀k,N≤k→k<M→ok k∧some k≠v.ownBlock)∧N≤M∧M≤w.heap.size∧base≤N∧Kd.S kA 32 w base (fun k=>ok k∧k<N) v xs∧oN.R 63 w N (fun k=>k<M) v0 t0∧Kd.string.R 9 w N (fun k=>k<M) v1 t1∧Kd.S kA 32 w N (fun k=>k<M∧some k≠v0.ownBlock∧some k≠v1.ownBlock) v2 t2
theorem avi{w w':World}{base:Nat}{ok:Nat→Prop}{v:Value}{xs:List ku}{v0:Value}{t0:List gI}{v1:Value}{t1:List ByteArray}{v2:Value}{t2:List ku}(hs:Kd.S kA 32 w base ok v xs)(h0:oN.R 63 w' w.heap.size (fun _=>True) v0 t0)(h1:Kd.string.R 9 w' w.heap.size (fun _=>True) v1 t1)(h2:Kd.S kA 32 w' w.heap.size (fun k=>some k≠v0.ownBlock∧some k≠v1.ownBlock) v2 t2)
  (hb:Below w.heap.size w w') (hok:∀k,w.heap.size≤k→ok k) (hbase:base≤w.heap.size):Apt w'.heap.size w' base ok v xs v0 t0 v1 t1 v2 t2:=
 ⟨w.heap.size,fun k hk _=>⟨hok k hk,fun e=>by have:=ajK hs k e.symm;omega⟩,hb.size,Nat.le_refl _,hbase,ajL hs hb,aK (nY h0) (fun k hk=>hk.2.2.1),aK (nY h1) (fun k hk=>hk.2.2.1),jA (D9 h2) (fun k hk=>⟨hk.2.2.1,hk.1⟩)⟩
theorem ajM{w w1:World}{base:Nat}{ok ok':Nat→Prop}{v:Value}{xs:List ku}{v0:Value}{t0:List gI}{v1:Value}{t1:List ByteArray}{v2:Value}{t2:List ku}(h:Apt w.heap.size w base ok v xs v0 t0 v1 t1 v2 t2)(hb:Below w.heap.size w w1)(hok:∀k,k<w.heap.size→ok k→ok' k):Apt w.heap.size w1 base ok' v xs v0 t0 v1 t1 v2 t2:=by
 obtain⟨N,h1,h2,_,h4,h5,h6,h7,h8⟩:=h;exact⟨N,fun k hk hm=>⟨hok k hm (h1 k hk hm).1,(h1 k hk hm).2⟩,h2,hb.size,h4,jA (pz h5 hb) (fun k hk=>⟨hok k (Nat.lt_of_lt_of_le hk.2 h2) hk.1,hk.2⟩),iL h6 hb,iL h7 hb,pz h8 hb⟩
theorem asn{w:World}{N:Nat}{v0 v1:Value}{t0:List gI}{t1:List ByteArray}{o o':Nat→Prop}(h0:oN.R 63 w N o v0 t0)(h1:Kd.string.R 9 w N o' v1 t1){k:Nat}(e0:some k=v0.ownBlock)(e1:some k=v1.ownBlock):False:=by
 obtain⟨c0,a0⟩:=uH h0 k e0.symm;obtain⟨c1,a1⟩:=uH h1 k e1.symm;rw[a0]at a1;have:=Option.some.inj a1;injection this with _ e;exact absurd e (by decide)
theorem aso{M:Nat}{w:World}{N base:Nat}{v0:Value}{t0:List gI}{v1:Value}{t1:List ByteArray}{v2:Value}{t2:List ku}(hb:base≤N)(h0:oN.R 63 w N (fun k=>k<M) v0 t0)(h1:Kd.string.R 9 w N (fun k=>k<M) v1 t1)(h2:Kd.S kA 32 w N (fun k=>k<M∧some k≠v0.ownBlock∧some k≠v1.ownBlock) v2 t2):kA.M w base (fun k=>N≤k∧k<M) ⟨t0,t1,t2⟩ [v0,v1,v2]:=by
 have b0:=h0.1;have b1:=h1.1;refine mkA (o0:=fun k=>(N≤k∧k<M)∧some k=v0.ownBlock) (o1:=fun k=>(N≤k∧k<M)∧some k=v1.ownBlock) (o2:=fun k=>(N≤k∧k<M)∧some k≠v0.ownBlock∧some k≠v1.ownBlock) (fun k hk=>⟨hk.1,fun h=>asn h0 h1 hk.2 h.2,fun h=>h.2.1 hk.2⟩) (fun k hk=>⟨hk.1,fun h=>h.2.2 hk.2⟩) (fun k hk=>hk.1) ?_ ?_ ?_
 ·exact bQ (aK (nY (y9 rfl h0)) (fun k hk=>⟨⟨hk.2.1,b0 k hk.1.symm⟩,hk.1⟩)) hb
 ·exact bQ (aK (nY (y9 rfl h1)) (fun k hk=>⟨⟨hk.2.1,b1 k hk.1.symm⟩,hk.1⟩)) hb
 ·exact qZ (jA (D9 h2) (fun k hk=>⟨⟨hk.2.1,hk.1.1⟩,hk.1.2⟩)) hb
section
variable {P:Program} {ops:Array Oper} {rest:List Oper} {o:Oper} {a:Act} {Q:Exit→Act→World→Prop} {Kc:Act→World→Prop}
theorem ajN{w0 W:World}(base:Nat)(hgd:o.guard=none)(s x:Operand)(t e:TypeId)(z:Value)(bytes:Nat)
  (ho:o.op= .call {callee:= .builtin .append,args:=#[s,x],argTypes:=#[t,t]})
  (ht:P.underlying t=some (.slice e)) (hinfo:(P.info? e).map (fun i=>(i.zero,i.size,i.bytes))=some (some z,kA.sz,bytes)) (hz:z.cells.size=kA.sz) (hs0:0<kA.sz) (hb0:0<bytes)
  (v:Value) (xs:List ku) (ok:Nat→Prop) {v0:Value} {t0:List gI} {v1:Value} {t1:List ByteArray} {v2:Value} {t2:List ku} (he:e=32) (hs:a.eval s=v) (hx:a.eval x= .slice (some ⟨W.heap.size,0,none⟩) 1 1) {M:Nat} (HA:Apt M W base ok v xs v0 t0 v1 t1 v2 t2) (hfresh:∀k,W.heap.size≤k→ok k)
  (HB:Below base w0 W) (hbase:base≤W.heap.size) (hl:(xs.length+1)*bytes≤140737488355328)
  (h:∀v' w1,Kd.S kA 32 w1 base ok v' (xs++[⟨t0,t1,t2⟩])→Below base w0 w1→W.grownBy w1 v.ownBlock→(v'.ownBlock=v.ownBlock∨∃b,v'.ownBlock=some b∧W.heap.size≤b)→wpList P ops Q rest (a.put o.dst v') w1):
  wpList P ops Q (o:: rest) a (W.alloc (.cells [v0,v1,v2].toArray e)):=by
 subst he;obtain⟨N,h1,h2,h3,h4,h5,h6,h7,h8⟩:=HA;exact FC kA base hgd s x t 32 z bytes ho ht hinfo hz hs0 hb0 v xs ⟨t0,t1,t2⟩ [v0,v1,v2] ok (fun k=>N≤k∧k<M) hs hx (aso h4 h6 h7 h8) (fun k hk=>h1 k hk.1 hk.2) hfresh (jA h5 (fun k hk=>⟨hk.1,fun hh=>absurd hh.1 (Nat.not_le.mpr hk.2)⟩)) HB hbase hl h
theorem aom{w0 W:World}(base:Nat)(hw:Region.wanted o (yielded ops a.tmps)=true)(s x:Operand)(t e:TypeId)(z:Value)(bytes:Nat)
  (ho:o.op= .call {callee:= .builtin .append,args:=#[s,x],argTypes:=#[t,t]})
  (ht:P.underlying t=some (.slice e)) (hinfo:(P.info? e).map (fun i=>(i.zero,i.size,i.bytes))=some (some z,kA.sz,bytes)) (hz:z.cells.size=kA.sz) (hs0:0<kA.sz) (hb0:0<bytes)
  (v:Value) (xs:List ku) (ok:Nat→Prop) {v0:Value} {t0:List gI} {v1:Value} {t1:List ByteArray} {v2:Value} {t2:List ku} (he:e=32) (hs:a.eval s=v) (hx:a.eval x= .slice (some ⟨W.heap.size,0,none⟩) 1 1) {M:Nat} (HA:Apt M W base ok v xs v0 t0 v1 t1 v2 t2) (hfresh:∀k,W.heap.size≤k→ok k)
  (HB:Below base w0 W) (hbase:base≤W.heap.size) (hl:(xs.length+1)*bytes≤140737488355328)
  (h:∀v' w1,Kd.S kA 32 w1 base ok v' (xs++[⟨t0,t1,t2⟩])→Below base w0 w1→W.grownBy w1 v.ownBlock→(v'.ownBlock=v.ownBlock∨∃b,v'.ownBlock=some b∧W.heap.size≤b)→Kc (a.put o.dst v') w1):
  if Region.wanted o (yielded ops a.tmps)=true then Oper.wp P o a (W.alloc (.cells [v0,v1,v2].toArray e)) Kc Q else Kc (a.put o.dst undef) (W.alloc (.cells [v0,v1,v2].toArray e)):=by
 subst he;obtain⟨N,h1,h2,h3,h4,h5,h6,h7,h8⟩:=HA;exact Y7 kA base hw s x t 32 z bytes ho ht hinfo hz hs0 hb0 v xs ⟨t0,t1,t2⟩ [v0,v1,v2] ok (fun k=>N≤k∧k<M) hs hx (aso h4 h6 h7 h8) (fun k hk=>h1 k hk.1 hk.2) hfresh (jA h5 (fun k hk=>⟨hk.1,fun hh=>absurd hh.1 (Nat.not_le.mpr hk.2)⟩)) HB hbase hl h
end
mutual
def dG.j1:Nat→ByteArray→Option (ByteArray)
 |0,_=>none
 |k+1,x0=>dG.l1 k x0
def dG.l1:Nat→ByteArray→Option (ByteArray)
 |0,_=>none
 |k+1,x0=>if(x0.size:Int)>0 then(if 0≤(wrap64 ((x0.size:Int)-1))then(if(wrap64 ((x0.size:Int)-1))<(x0.size:Int)then(if(bt x0 (wrap64 ((x0.size:Int)-1)))=32 then(if(wrap64 ((x0.size:Int)-1))≤(x0.size:Int)then(dG.l1 k (x0.extract 0 ((wrap64 ((x0.size:Int)-1)):Int).toNat))else(none))else(some x0))else(none))else(none))else(some x0)
def dG.l0:Nat→ByteArray→Option (ByteArray)
 |0,_=>none
 |k+1,x0=>if(x0.size:Int)>0 then(if 0<(x0.size:Int)then(if(bt x0 0)=32 then(if 1≤(x0.size:Int)then(dG.l0 k (x0.extract 1 x0.size))else(none))else(dG.j1 k x0))else(none))else(dG.j1 k x0)
end
def dG.f(k:Nat)(a0:ByteArray):Option (ByteArray):=dG.l0 k a0
set_option maxHeartbeats 8000000 in
set_option maxRecDepth 100000 in
theorem dG.calls(k:Nat)(a0:ByteArray)(r:ByteArray)(w:World)(h:dG.f k a0=some r):
  Calls Tryz.prog 113 #[.string a0] w fun e w'=>e= .returned (.string r)∧fZ w w':=by
 have H:(dG.l0 k a0)=some r:=h;clear h;have HC2:=ak H;clear H;go_enter func113,ntmps113;go_upto_block 0 with(fail)
 go_cut [0] (fun v0 wc=>∃(kq:Nat) (kD:ByteArray),v0= .string kD∧ay (dG.j1 kq kD=some r)∧ay (kq≤k)∧fZ w wc)
 case first=>
  have H:=HC2.out;clear HC2;have H':=ak H;clear H;go_wp2;go_loopg [0] k (fun kq v0 w'=>∃(kD:ByteArray),v0= .string kD∧ay (dG.l0 kq kD=some r)∧ay (kq≤k)∧fZ w w')
  case atStart=>exact⟨(a0),rs,H',⟨Nat.le_refl _⟩,dn⟩
  case round=>
   clear H';try clear c1
   try clear p2
   obtain⟨kD,rfl,HA,iM,⟨m1,rfl⟩⟩:=hrel
   cases gk with
   |zero=>exact absurd HA.out (by simp[dG.l0])
   |succ k1=>
    have H:=HA.out;clear HA;simp only[dG.l0]at H;replace H:=sp H;rcases H with⟨c3,H⟩|⟨c3,H⟩
    ·have iK:decide (0<(kD.size:Int))=true:=decide_eq_true c3;have xW:decide (0<kD.size)=true:=decide_eq_true (by omega);clear c3
     (first|rw[iK]|(simp only[bf,bD];rw[iK])|skip);replace H:=nn H;obtain⟨c4,H⟩:=H;have oG:=decide_eq_true c4;have VY:decide (0<kD.size)=true:=decide_eq_true (by omega);clear c4;replace H:=sq H;rcases H with⟨mG,B_,H⟩|⟨c6,mG,B_,H⟩
     ·replace H:=Fe H;obtain⟨qp,D_,H⟩:=H;have H':=ak H;clear H;have p5:0≤(0:Int):=(by omega)
      have q5:0<kD.size:=(by have:(0:Int)<(kD.size:Int):=of_decide_eq_true (by assumption);omega)
      have hx5:∀h:0<kD.size,((kD[0]'h).toNat:Int)=bt kD 0:=vK kD 0;clear p5;have qi5:(0<(kD.size:Int))=True:=eq_true (of_decide_eq_true (by assumption));replace q5:=eq_true q5;go_wp2;go_roundg k1
      case measure=>have:=iM.out;omega
      case rel=>exact⟨(kD.extract 1 kD.size),rs,H',⟨by have:=iM.out;omega⟩,dn⟩
     ·have H':=ak H;clear H;have p5:0≤(0:Int):=(by omega)
      have q5:0<kD.size:=(by have:(0:Int)<(kD.size:Int):=of_decide_eq_true (by assumption);omega)
      have hx5:∀h:0<kD.size,((kD[0]'h).toNat:Int)=bt kD 0:=vK kD 0;clear p5;have qi5:(0<(kD.size:Int))=True:=eq_true (of_decide_eq_true (by assumption));replace q5:=eq_true q5;go_wp2;go_meet
      case rel=>exact⟨_,(kD),rs,H',⟨by have:=iM.out;first|omega|exact Nat.le_refl _⟩,dn⟩
    ·have iK:decide (0<(kD.size:Int))=false:=decide_eq_false c3;have xW:decide (0<kD.size)=false:=decide_eq_false (by omega);clear c3
     (first|rw[iK]|(simp only[bf,bD];rw[iK])|skip);have H':=ak H;clear H;go_wp2;go_meet
     case rel=>exact⟨_,(kD),rs,H',⟨by have:=iM.out;first|omega|exact Nat.le_refl _⟩,dn⟩
 case rest=>
  clear HC2;try clear c1
  try clear p2
  try clear c3
  try clear iK
  try clear xW
  try clear c4
  try clear oG
  try clear VY
  try clear p5
  try clear q5
  try clear hx5
  try clear qi5
  try clear c6
  try clear mG
  try clear B_
  try clear c7
  try clear qp
  try clear D_
  try clear p2
  try clear p5
  try clear q5
  obtain⟨kq,kD,rfl,HA,Oi,⟨mc1,rfl⟩⟩:=hcut
  cases kq with
  |zero=>exact absurd HA.out (by simp[dG.j1])
  |succ Oj=>
   have H:=HA.out;clear HA;simp only[dG.j1]at H;have H':=ak H;clear H;go_wp2;go_loopg [0] Oj (fun kq v0 w'=>∃(MG:ByteArray),v0= .string MG∧ay (dG.l1 kq MG=some r)∧ay (kq≤Oj)∧fZ w w')
   case atStart=>exact⟨(kD),rs,H',⟨Nat.le_refl _⟩,dn⟩
   case round=>
    clear H';try clear c1
    try clear p2
    try clear c3
    try clear iK
    try clear xW
    try clear c4
    try clear oG
    try clear VY
    try clear p5
    try clear q5
    try clear hx5
    try clear qi5
    try clear c6
    try clear mG
    try clear B_
    try clear c7
    try clear qp
    try clear D_
    try clear p2
    try clear p5
    try clear q5
    obtain⟨MG,rfl,HA,yR,⟨m2,rfl⟩⟩:=hrel
    cases gk with
    |zero=>exact absurd HA.out (by simp[dG.l1])
    |succ k2=>
     have H:=HA.out;clear HA;simp only[dG.l1]at H;replace H:=sp H;rcases H with⟨c8,H⟩|⟨c8,H⟩
     ·have rV:decide (0<(MG.size:Int))=true:=decide_eq_true c8;have G7:decide (0<MG.size)=true:=decide_eq_true (by omega);clear c8;obtain⟨VE,OA⟩:∃j_:Int,(wrap64 ((MG.size:Int)-1))=j_:=⟨_,rfl⟩
      replace H:(if 0≤(VE)then(if(VE)<(MG.size:Int)then(if(bt MG (VE))=32 then(if(VE)≤(MG.size:Int)then(dG.l1 k2 (MG.extract 0 ((VE):Int).toNat))else(none))else(some MG))else(none))else(none))=some r:=by first|(rw[OA]at H;exact H)|(simp only[OA]at H⊢;exact H)
      have as1:(IntKind.i64.wrap ((MG.size:Int)-1))=VE:=(bf _).trans OA;replace H:=oL H;obtain⟨rW,H⟩:=H;replace H:=oL H;obtain⟨yC,H⟩:=H;replace H:=sq H;rcases H with⟨vJ,BP,H⟩|⟨c13,vJ,BP,H⟩
      ·have tH:=eq_true (of_decide_eq_true (by assumption):0≤(VE));replace H:=Fe H;obtain⟨uy,FX,H⟩:=H;have H':=ak H;clear H;obtain⟨p12,q12,aq_⟩:=bx MG (VE);go_wp2;go_roundg k2
       case measure=>have:=Oi.out;have:=yR.out;omega
       case rel=>exact⟨(MG.extract 0 ((VE):Int).toNat),(by first|rfl|(simp;done)|(simp only[←OA]<;>(first|rfl|simp))|(simp[*];done)),H',⟨by have:=Oi.out;have:=yR.out;omega⟩,dn⟩
      ·obtain rfl:=Option.some.inj H;obtain⟨p12,q12,aq_⟩:=bx MG (VE);go_wp2;go_ret;exact⟨by first|rfl|(simp;done)|(simp only[←OA]<;>(first|rfl|simp))|(simp[*];done),dn⟩
     ·have rV:decide (0<(MG.size:Int))=false:=decide_eq_false c8;have G7:decide (0<MG.size)=false:=decide_eq_false (by omega);clear c8;obtain rfl:=Option.some.inj H;go_wp2;go_ret;exact⟨rs,dn⟩
def iD.l0:Nat→ByteArray→ByteArray→Int→Option (ByteArray×Int)
 |0,_,_,_=>none
 |k+1,x0,x6,x7=>if x7<(x0.size:Int)then(if 0≤x7 then(if(bt x0 x7)=34 then(some (x6,wrap64 (x7+1)))else(if(bt x0 x7)=92 then(if(wrap64 (x7+1))=(x0.size:Int)then(some ((⟨#[]⟩:ByteArray),(-1)))else(if 0≤(wrap64 (x7+1))then(if(wrap64 (x7+1))≤(wrap64 ((wrap64 (x7+1))+1))then(if(wrap64 ((wrap64 (x7+1))+1))≤(x0.size:Int)then(if x6.size+(x0.extract ((wrap64 (x7+1)):Int).toNat ((wrap64 ((wrap64 (x7+1))+1)):Int).toNat).size≤9223372036854775807 then(iD.l0 k x0 (x6++(x0.extract ((wrap64 (x7+1)):Int).toNat ((wrap64 ((wrap64 (x7+1))+1)):Int).toNat)) (wrap64 ((wrap64 (x7+1))+1)))else(none))else(none))else(none))else(none)))else(if x7≤(wrap64 (x7+1))then(if(wrap64 (x7+1))≤(x0.size:Int)then(if x6.size+(x0.extract (x7:Int).toNat ((wrap64 (x7+1)):Int).toNat).size≤9223372036854775807 then(iD.l0 k x0 (x6++(x0.extract (x7:Int).toNat ((wrap64 (x7+1)):Int).toNat)) (wrap64 (x7+1)))else(none))else(none))else(none))))else(none))else(some ((⟨#[]⟩:ByteArray),(-1)))
def iD.f(k:Nat)(a0:ByteArray)(a1:Int):Option (ByteArray×Int):=iD.l0 k a0 (⟨#[]⟩:ByteArray) (wrap64 (a1+1))
set_option maxHeartbeats 8000000 in
set_option maxRecDepth 100000 in
theorem iD.calls(k:Nat)(a0:ByteArray)(a1:Int)(r1:ByteArray)(r2:Int)(w:World)(h:iD.f k a0 a1=some (r1,r2)):
  Calls Tryz.prog 137 #[.string a0, .int .i64 a1] w fun e w'=>e= .returned (.tuple #[.string r1, .int .i64 r2])∧fZ w w':=by
 have H:(iD.l0 k a0 (⟨#[]⟩:ByteArray) (wrap64 (a1+1)))=some (r1,r2):=h;clear h;have H':=ak H;clear H;go_enter func137,ntmps137;go_wp2;go_loopg [6,7] k (fun kq v6 v7 w'=>∃(iJ:ByteArray) (ng:Int),v6= .string iJ∧v7= .int .i64 ng∧ay (iD.l0 kq a0 iJ ng=some (r1,r2))∧ay (kq≤k)∧fZ w w')
 case atStart=>exact⟨((⟨#[]⟩:ByteArray)),(wrap64 (a1+1)),rs,rs,H',⟨Nat.le_refl _⟩,dn⟩
 case round=>
  clear H';try clear c1
  try clear p2
  obtain⟨iJ,ng,rfl,rfl,HA,iM,⟨m1,rfl⟩⟩:=hrel
  cases gk with
  |zero=>exact absurd HA.out (by simp[iD.l0])
  |succ k1=>
   have H:=HA.out;clear HA;simp only[iD.l0]at H;replace H:=sd H;rcases H with⟨iK,H⟩|⟨iK,H⟩
   ·replace H:=oL H;obtain⟨oG,H⟩:=H;replace H:=sq H;rcases H with⟨mG,B_,H⟩|⟨c6,mG,B_,H⟩
    ·simp only[Option.some.injEq,Prod.mk.injEq]at H;obtain⟨rfl,rfl⟩:=H;obtain⟨p5,q5,hx5⟩:=bx a0 ng;go_wp2;go_ret2;exact⟨rs,dn⟩
    ·replace H:=sq H;rcases H with⟨rV,G7,H⟩|⟨c8,rV,G7,H⟩
     ·replace H:=sq H;rcases H with⟨vI,Df,H⟩|⟨c9,vI,Df,H⟩
      ·simp only[Option.some.injEq,Prod.mk.injEq]at H;obtain⟨rfl,rfl⟩:=H;obtain⟨p5,q5,hx5⟩:=bx a0 ng;obtain⟨p7,q7,hx7⟩:=bx a0 ng;go_wp2;go_ret2;exact⟨rs,dn⟩
      ·obtain⟨MH,Yq⟩:∃j_:Int,(wrap64 (ng+1))=j_:=⟨_,rfl⟩
       replace H:(if 0≤(MH)then(if(MH)≤(wrap64 ((MH)+1))then(if(wrap64 ((MH)+1))≤(a0.size:Int)then(if iJ.size+(a0.extract ((MH):Int).toNat ((wrap64 ((MH)+1)):Int).toNat).size≤9223372036854775807 then(iD.l0 k1 a0 (iJ++(a0.extract ((MH):Int).toNat ((wrap64 ((MH)+1)):Int).toNat)) (wrap64 ((MH)+1)))else(none))else(none))else(none))else(none))=some (r1,r2):=by first|(rw[Yq]at H;exact H)|(simp only[Yq]at H⊢;exact H)
       (try rw[Yq]at vI)
       (try rw[Yq]at Df);have aJw:(IntKind.i64.wrap (ng+1))=MH:=(bf _).trans Yq;replace H:=Fe H;obtain⟨yC,LZ,H⟩:=H;replace H:=nn H;obtain⟨c12,H⟩:=H;have wG:=eq_true c12;have Hw:=decide_eq_true c12;replace H:=nn H;obtain⟨c13,H⟩:=H;have vJ:=eq_true c13;have BP:=decide_eq_true c13;replace H:=nn H;obtain⟨c14,H⟩:=H;have tH:=eq_true c14;have xq:=decide_eq_true c14;try have aMB:(9223372036854775807<iJ.size+((a0.extract ((MH):Int).toNat ((wrap64 ((MH)+1)):Int).toNat).size))=False:=by have h_:=c14;simp only[ByteArray.size_append,ByteArray.size_extract]at h_;refine eq_false ?_;simp only[decide_eq_true_eq]at*;omega
       try have adp:(9223372036854775807<iJ.size+(a0.extract ((MH):Int).toNat ((wrap64 ((MH)+1)):Int).toNat).size)=False:=eq_false (Nat.not_lt.2 c14)
       have H':=ak H;clear H;obtain⟨p5,q5,hx5⟩:=bx a0 ng;obtain⟨p7,q7,hx7⟩:=bx a0 ng;go_wp2;go_roundg k1
       case measure=>have:=iM.out;omega
       case rel=>exact⟨(iJ++(a0.extract ((MH):Int).toNat ((wrap64 ((MH)+1)):Int).toNat)),(wrap64 ((MH)+1)),(by first|rfl|(simp;done)|(simp only[←Yq]<;>(first|rfl|simp))|(simp[*];done)),(by first|rfl|(simp;done)|(simp only[←Yq]<;>(first|rfl|simp))|(simp[*];done)),H',⟨by have:=iM.out;omega⟩,dn⟩
     ·have uy:=eq_true (of_decide_eq_true (by assumption):0≤ng);replace H:=nn H;obtain⟨c16,H⟩:=H;have L6:=eq_true c16;have ams:=decide_eq_true c16;replace H:=nn H;obtain⟨c17,H⟩:=H;have uz:=eq_true c17;have Md:=decide_eq_true c17;replace H:=nn H;obtain⟨c18,H⟩:=H;have Hy:=eq_true c18;have adq:=decide_eq_true c18;try have aMC:(9223372036854775807<iJ.size+((a0.extract (ng:Int).toNat ((wrap64 (ng+1)):Int).toNat).size))=False:=by have h_:=c18;simp only[ByteArray.size_append,ByteArray.size_extract]at h_;refine eq_false ?_;simp only[decide_eq_true_eq]at*;omega
      try have aMD:(9223372036854775807<iJ.size+(a0.extract (ng:Int).toNat ((wrap64 (ng+1)):Int).toNat).size)=False:=eq_false (Nat.not_lt.2 c18)
      have H':=ak H;clear H;obtain⟨p5,q5,hx5⟩:=bx a0 ng;obtain⟨p7,q7,hx7⟩:=bx a0 ng;go_wp2;go_roundg k1
      case measure=>have:=iM.out;omega
      case rel=>exact⟨(iJ++(a0.extract (ng:Int).toNat ((wrap64 (ng+1)):Int).toNat)),(wrap64 (ng+1)),rs,rs,H',⟨by have:=iM.out;omega⟩,dn⟩
   ·simp only[Option.some.injEq,Prod.mk.injEq]at H;obtain⟨rfl,rfl⟩:=H;go_wp2;go_ret2;exact⟨rs,dn⟩
def jC.l0:Nat→ByteArray→Int→Int→Option (ByteArray×ByteArray×Bool)
 |0,_,_,_=>none
 |k+1,x0,x1,x7=>if x7<(x0.size:Int)then(if 0≤x7 then(if(bt x0 x7)=34 then((iD.f k x0 x7).bind fun aun=>(if aun.2<0 then(some (x0,(⟨#[]⟩:ByteArray),false))else(jC.l0 k x0 x1 aun.2)))else(if(bt x0 x7)=x1 then(if x7≤(x0.size:Int)then(if 0≤(wrap64 (x7+1))then(if(wrap64 (x7+1))≤(x0.size:Int)then(some (x0.extract 0 (x7:Int).toNat,x0.extract ((wrap64 (x7+1)):Int).toNat x0.size,true))else(none))else(none))else(none))else(jC.l0 k x0 x1 (wrap64 (x7+1)))))else(none))else(some (x0,(⟨#[]⟩:ByteArray),false))
def jC.f(k:Nat)(a0:ByteArray)(a1:Int):Option (ByteArray×ByteArray×Bool):=jC.l0 k a0 a1 0
set_option maxHeartbeats 8000000 in
set_option maxRecDepth 100000 in
theorem jC.calls(k:Nat)(a0:ByteArray)(a1:Int)(r1:ByteArray)(r2:ByteArray)(r3:Bool)(w:World)(h:jC.f k a0 a1=some (r1,r2,r3)):
  Calls Tryz.prog 115 #[.string a0, .int .u8 a1] w fun e w'=>e= .returned (.tuple #[.string r1, .string r2, .bool r3])∧fZ w w':=by
 have H:(jC.l0 k a0 a1 0)=some (r1,r2,r3):=h;clear h;have H':=ak H;clear H;go_enter func115,ntmps115;go_wp2;repeat(go_quiet (fail);try go_wp2)
 go_loopg [7] k (fun kq v7 w'=>∃(ng:Int),v7= .int .i64 ng∧ay (jC.l0 kq a0 a1 ng=some (r1,r2,r3))∧ay (kq≤k)∧fZ w w')
 case atStart=>exact⟨(0),rs,H',⟨Nat.le_refl _⟩,dn⟩
 case round=>
  clear H';try clear c1
  try clear p2
  obtain⟨ng,rfl,HA,iM,⟨m1,rfl⟩⟩:=hrel
  cases gk with
  |zero=>exact absurd HA.out (by simp[jC.l0])
  |succ k1=>
   have H:=HA.out;clear HA;simp only[jC.l0]at H;replace H:=sd H;rcases H with⟨iK,H⟩|⟨iK,H⟩
   ·replace H:=oL H;obtain⟨oG,H⟩:=H;replace H:=sq H;rcases H with⟨mG,B_,H⟩|⟨c6,mG,B_,H⟩
    ·replace H:=bd H;obtain⟨⟨ai6,t152⟩,A7,H⟩:=H
     (try dsimp only at H);replace H:=sd H;rcases H with⟨rV,H⟩|⟨rV,H⟩
     ·simp only[Option.some.injEq,Prod.mk.injEq]at H;obtain⟨rfl,rfl,rfl⟩:=H;obtain⟨p5,q5,hx5⟩:=bx a0 ng;go_wp2_with (first|(go_at_call 137;(with_reducible refine(iD.calls k1 a0 ng ai6 t152 _ A7.out).mono ?_);rintro e w' ⟨rfl,⟨nd,rfl⟩⟩;(try exact dq)))
      repeat(go_quiet (first|(go_at_call 137;(with_reducible refine(iD.calls k1 a0 ng ai6 t152 _ A7.out).mono ?_);rintro e w' ⟨rfl,⟨nd,rfl⟩⟩;(try exact dq)));try go_wp2_with (first|(go_at_call 137;(with_reducible refine(iD.calls k1 a0 ng ai6 t152 _ A7.out).mono ?_);rintro e w' ⟨rfl,⟨nd,rfl⟩⟩;(try exact dq))))
      go_ret3;exact⟨rs,dn⟩
     ·have H':=ak H;clear H;obtain⟨p5,q5,hx5⟩:=bx a0 ng;go_wp2_with (first|(go_at_call 137;(with_reducible refine(iD.calls k1 a0 ng ai6 t152 _ A7.out).mono ?_);rintro e w' ⟨rfl,⟨nd,rfl⟩⟩;(try exact dq)))
      repeat(go_quiet (first|(go_at_call 137;(with_reducible refine(iD.calls k1 a0 ng ai6 t152 _ A7.out).mono ?_);rintro e w' ⟨rfl,⟨nd,rfl⟩⟩;(try exact dq)));try go_wp2_with (first|(go_at_call 137;(with_reducible refine(iD.calls k1 a0 ng ai6 t152 _ A7.out).mono ?_);rintro e w' ⟨rfl,⟨nd,rfl⟩⟩;(try exact dq))))
      go_roundg k1
      case measure=>have:=iM.out;omega
      case rel=>exact⟨(t152),rs,H',⟨by have:=iM.out;omega⟩,dn⟩
    ·replace H:=sq H;rcases H with⟨rW,xk,H⟩|⟨c10,rW,xk,H⟩
     ·have yC:=eq_true (of_decide_eq_true (by assumption):0≤ng);replace H:=Fe H;obtain⟨wG,Hw,H⟩:=H;obtain⟨xU,yD⟩:∃j_:Int,(wrap64 (ng+1))=j_:=⟨_,rfl⟩
      replace H:(if 0≤(xU)then(if(xU)≤(a0.size:Int)then(some (a0.extract 0 (ng:Int).toNat,a0.extract ((xU):Int).toNat a0.size,true))else(none))else(none))=some (r1,r2,r3):=by first|(rw[yD]at H;exact H)|(simp only[yD]at H⊢;exact H)
      have akb:(IntKind.i64.wrap (ng+1))=xU:=(bf _).trans yD;replace H:=Fe H;obtain⟨tH,xq,H⟩:=H;replace H:=Fe H;obtain⟨uy,FX,H⟩:=H;simp only[Option.some.injEq,Prod.mk.injEq]at H;obtain⟨rfl,rfl,rfl⟩:=H;obtain⟨p5,q5,hx5⟩:=bx a0 ng;obtain⟨p9,q9,hx9⟩:=bx a0 ng;go_wp2;repeat(go_quiet (fail);try go_wp2)
      go_ret3;exact⟨by first|rfl|(simp;done)|(simp only[←yD]<;>(first|rfl|simp))|(simp[*];done),dn⟩
     ·have H':=ak H;clear H;obtain⟨p5,q5,hx5⟩:=bx a0 ng;obtain⟨p9,q9,hx9⟩:=bx a0 ng;go_wp2;repeat(go_quiet (fail);try go_wp2)
      go_roundg k1
      case measure=>have:=iM.out;omega
      case rel=>exact⟨(wrap64 (ng+1)),rs,H',⟨by have:=iM.out;omega⟩,dn⟩
   ·simp only[Option.some.injEq,Prod.mk.injEq]at H;obtain⟨rfl,rfl,rfl⟩:=H;go_wp2;repeat(go_quiet (fail);try go_wp2)
    go_ret3;exact⟨rs,dn⟩
def kF.f(a0:Int):Option (Bool):=if a0≥97 then(if a0≤122 then(some true)else(if a0≥65 then(if a0≤90 then(some true)else(if a0≥48 then(some (decide (a0≤57)))else(some false)))else(if a0≥48 then(some (decide (a0≤57)))else(some false))))else(if a0≥65 then(if a0≤90 then(some true)else(if a0≥48 then(some (decide (a0≤57)))else(some false)))else(if a0≥48 then(some (decide (a0≤57)))else(some false)))
set_option maxHeartbeats 8000000 in
set_option maxRecDepth 100000 in
theorem kF.calls(a0:Int)(r:Bool)(w:World)(h:kF.f a0=some r):
  Calls Tryz.prog 142 #[.int .u8 a0] w fun e w'=>e= .returned (.bool r)∧fZ w w':=by
 have H:(if a0≥97 then(if a0≤122 then(some true)else(if a0≥65 then(if a0≤90 then(some true)else(if a0≥48 then(some (decide (a0≤57)))else(some false)))else(if a0≥48 then(some (decide (a0≤57)))else(some false))))else(if a0≥65 then(if a0≤90 then(some true)else(if a0≥48 then(some (decide (a0≤57)))else(some false)))else(if a0≥48 then(some (decide (a0≤57)))else(some false))))=some r:=h;clear h;replace H:=sp H;rcases H with⟨c2,H⟩|⟨c2,H⟩
 ·have zY:decide (97≤a0)=true:=decide_eq_true c2;clear c2;replace H:=sd H;rcases H with⟨iK,H⟩|⟨iK,H⟩
  ·obtain rfl:=Option.some.inj H;go_enter func142,ntmps142;go_wp2;go_ret;exact⟨rs,dn⟩
  ·replace H:=sp H;rcases H with⟨c4,H⟩|⟨c4,H⟩
   ·have oG:decide (65≤a0)=true:=decide_eq_true c4;clear c4;replace H:=sd H;rcases H with⟨o_,H⟩|⟨o_,H⟩
    ·obtain rfl:=Option.some.inj H;go_enter func142,ntmps142;go_wp2;go_ret;exact⟨rs,dn⟩
    ·replace H:=sp H;rcases H with⟨c6,H⟩|⟨c6,H⟩
     ·have mG:decide (48≤a0)=true:=decide_eq_true c6;clear c6;obtain rfl:=Option.some.inj H;go_enter func142,ntmps142;go_wp2;go_ret;exact⟨rs,dn⟩
     ·have mG:decide (48≤a0)=false:=decide_eq_false c6;clear c6;obtain rfl:=Option.some.inj H;go_enter func142,ntmps142;go_wp2;go_ret;exact⟨rs,dn⟩
   ·have oG:decide (65≤a0)=false:=decide_eq_false c4;clear c4;replace H:=sp H;rcases H with⟨c7,H⟩|⟨c7,H⟩
    ·have qp:decide (48≤a0)=true:=decide_eq_true c7;clear c7;obtain rfl:=Option.some.inj H;go_enter func142,ntmps142;go_wp2;go_ret;exact⟨rs,dn⟩
    ·have qp:decide (48≤a0)=false:=decide_eq_false c7;clear c7;obtain rfl:=Option.some.inj H;go_enter func142,ntmps142;go_wp2;go_ret;exact⟨rs,dn⟩
 ·have zY:decide (97≤a0)=false:=decide_eq_false c2;clear c2;replace H:=sp H;rcases H with⟨c8,H⟩|⟨c8,H⟩
  ·have rV:decide (65≤a0)=true:=decide_eq_true c8;clear c8;replace H:=sd H;rcases H with⟨vI,H⟩|⟨vI,H⟩
   ·obtain rfl:=Option.some.inj H;go_enter func142,ntmps142;go_wp2;go_ret;exact⟨rs,dn⟩
   ·replace H:=sp H;rcases H with⟨c10,H⟩|⟨c10,H⟩
    ·have rW:decide (48≤a0)=true:=decide_eq_true c10;clear c10;obtain rfl:=Option.some.inj H;go_enter func142,ntmps142;go_wp2;go_ret;exact⟨rs,dn⟩
    ·have rW:decide (48≤a0)=false:=decide_eq_false c10;clear c10;obtain rfl:=Option.some.inj H;go_enter func142,ntmps142;go_wp2;go_ret;exact⟨rs,dn⟩
  ·have rV:decide (65≤a0)=false:=decide_eq_false c8;clear c8;replace H:=sp H;rcases H with⟨c11,H⟩|⟨c11,H⟩
   ·have yC:decide (48≤a0)=true:=decide_eq_true c11;clear c11;obtain rfl:=Option.some.inj H;go_enter func142,ntmps142;go_wp2;go_ret;exact⟨rs,dn⟩
   ·have yC:decide (48≤a0)=false:=decide_eq_false c11;clear c11;obtain rfl:=Option.some.inj H;go_enter func142,ntmps142;go_wp2;go_ret;exact⟨rs,dn⟩
def jV.l0:Nat→Int→Int→Option (Bool)
 |0,_,_=>none
 |k+1,x0,x3=>if x3<19 then(if 0≤x3 then(if x0=(bt (⟨#[33,35,36,37,38,39,42,43,45,47,61,63,94,95,96,123,124,125,126]⟩:ByteArray) x3)then(some true)else(jV.l0 k x0 (wrap64 (x3+1))))else(none))else((kF.f x0).bind fun axG=>(some axG))
def jV.f(k:Nat)(a0:Int):Option (Bool):=jV.l0 k a0 0
set_option maxHeartbeats 8000000 in
set_option maxRecDepth 100000 in
theorem jV.calls(k:Nat)(a0:Int)(r:Bool)(w:World)(h:jV.f k a0=some r):
  Calls Tryz.prog 138 #[.int .u8 a0] w fun e w'=>e= .returned (.bool r)∧fZ w w':=by
 have H:(jV.l0 k a0 0)=some r:=h;clear h;have H':=ak H;clear H;go_enter func138,ntmps138;go_wp2;go_loopg [3] k (fun kq v3 w'=>∃(dS:Int),v3= .int .i64 dS∧ay (jV.l0 kq a0 dS=some r)∧ay (kq≤k)∧fZ w w')
 case atStart=>exact⟨(0),rs,H',⟨Nat.le_refl _⟩,dn⟩
 case round=>
  clear H';try clear c1
  obtain⟨dS,rfl,HA,iM,⟨m1,rfl⟩⟩:=hrel
  cases gk with
  |zero=>exact absurd HA.out (by simp[jV.l0])
  |succ k1=>
   have H:=HA.out;clear HA;simp only[jV.l0]at H;replace H:=sd H;rcases H with⟨zY,H⟩|⟨zY,H⟩
   ·replace H:=oL H;obtain⟨iK,H⟩:=H;replace H:=sq H;rcases H with⟨o_,Y_,H⟩|⟨c5,o_,Y_,H⟩
    ·obtain rfl:=Option.some.inj H;have p4:=zi dS;have q4:=zj dS 19;have hx4:=vK (⟨#[33,35,36,37,38,39,42,43,45,47,61,63,94,95,96,123,124,125,126]⟩:ByteArray) dS;replace p4:=eq_true p4;replace q4:=eq_true q4;go_wp2;go_ret;exact⟨rs,dn⟩
    ·have H':=ak H;clear H;have p4:=zi dS;have q4:=zj dS 19;have hx4:=vK (⟨#[33,35,36,37,38,39,42,43,45,47,61,63,94,95,96,123,124,125,126]⟩:ByteArray) dS;replace p4:=eq_true p4;replace q4:=eq_true q4;go_wp2;go_roundg k1
     case measure=>have:=iM.out;omega
     case rel=>exact⟨(wrap64 (dS+1)),rs,H',⟨by have:=iM.out;omega⟩,dn⟩
   ·replace H:=bd H;obtain⟨axG,A6,H⟩:=H;obtain rfl:=Option.some.inj H;go_wp2_with (first|(refine gL 142 13 func142 #[.int .u8 a0] ?_;(with_reducible refine(kF.calls a0 axG _ A6.out).mono ?_);rintro e w' ⟨rfl,⟨nd,rfl⟩⟩;refine⟨_,rfl,?_⟩))
    go_ret;exact⟨rs,dn⟩
mutual
def jd.f:Nat→List (gI)→List ByteArray→List (ku)→Option ((List (gI))×List ByteArray×(List (ku)))
 |0,_,_,_=>none
 |k+1,dN,dQ,aH=>(some (([]:List (gI)):List (gI))).bind fun Xu=>(if Xu.length+dN.length<4398046511104 then((some (([]:List ByteArray):List ByteArray)).bind fun Xv=>(if Xv.length+dQ.length<8796093022208 then((gQ.l0 k (([]:List (ku))) aH (aH.length:Int) 0).bind fun Qv=>(some ((Xu++dN),(Xv++dQ),Qv)))else(none)))else(none))
def gQ.l0:Nat→List (ku)→List (ku)→Int→Int→Option ((List (ku)))
 |0,_,_,_,_=>none
 |k+1,x3,x7,x8,x9=>if x9<x8 then(if 0≤x9 then(if x9<(x7.length:Int)then((jd.f k ((aW x7 x9).f0) ((aW x7 x9).f1) ((aW x7 x9).f2)).bind fun ajO=>(if x3.length<1954687338268 then(gQ.l0 k (x3++[(⟨ajO.1,ajO.2.1,ajO.2.2⟩:ku)]) x7 x8 (wrap64 (x9+1)))else(none)))else(none))else(none))else(some x3)
end
def gQ.f(k:Nat)(l0:List (ku)):Option ((List (ku))):=gQ.l0 k (([]:List (ku))) l0 (l0.length:Int) 0
theorem jd.ad_(k:Nat)(dN:List (gI))(dQ:List ByteArray)(aH:List (ku)):jd.f (k+1) dN dQ aH=((some (([]:List (gI)):List (gI))).bind fun Xu=>(if Xu.length+dN.length<4398046511104 then((some (([]:List ByteArray):List ByteArray)).bind fun Xv=>(if Xv.length+dQ.length<8796093022208 then((gQ.f k aH).bind fun Qv=>(some ((Xu++dN),(Xv++dQ),Qv)))else(none)))else(none))):=by simp only[jd.f,gQ.f]
set_option maxHeartbeats 8000000 in
set_option maxRecDepth 100000 in
theorem jd.pair(k:Nat):(∀(jD:Option Addr) (jE:Nat) (dN:List (gI)) (jW:Option Addr) (jX:Nat) (dQ:List ByteArray) (iw:Option Addr) (fC:Nat) (aH:List (ku)) (r1:List (gI)) (r2:List ByteArray) (r3:List (ku)) (w:World) (pF:Kd.C oN w jD dN.length dN) (pG:dN.length≤jE) (pJ:Kd.C Kd.string w jW dQ.length dQ) (pK:dQ.length≤jX) (lZ:Kd.C k32 w iw aH.length aH) (l7:aH.length≤fC) (h:jd.f k dN dQ aH=some (r1,r2,r3)),
  Calls Tryz.prog 24 #[.agg #[.slice jD dN.length jE, .slice jW dQ.length jX, .slice iw aH.length fC]] w fun e w'=>∃sZ Uw Vx:Value,e= .returned (.agg #[sZ,Uw,Vx])∧Kd.R oN 63 w' w.heap.size (fun _=>True) sZ r1∧Kd.R Kd.string 9 w' w.heap.size (fun _=>True) Uw r2∧Kd.R k32 32 w' w.heap.size (fun k_=>some k_≠(sZ:Value).ownBlock∧some k_≠(Uw:Value).ownBlock) Vx r3∧Below w.heap.size w w')∧
  (∀(A0:Option Addr) (c0:Nat) (l0:List (ku)) (r:List (ku)) (w:World) (hr0:Kd.C k32 w A0 l0.length l0) (hc0:l0.length≤c0) (h:gQ.f k l0=some r),
  Calls Tryz.prog 42 #[.slice A0 l0.length c0] w fun e w'=>∃sZ:Value,e= .returned (sZ)∧Kd.R k32 32 w' w.heap.size (fun _=>True) sZ r∧Below w.heap.size w w'):=by
 induction k using Nat.strongRecOn with
 |_ k ih=>
 refine⟨?_,?_⟩
 ·cases k with
  |zero=>intro jD jE dN jW jX dQ iw fC aH r1 r2 r3 w pF pG pJ pK lZ l7 h;exact absurd h (by simp[jd.f])
  |succ k=>
  have ihB:=(ih k (Nat.lt_succ_self k)).2;clear ih;intro jD jE dN jW jX dQ iw fC aH r1 r2 r3 w pF pG pJ pK lZ l7 h;rw[jd.ad_]at h;have LU:=underlying32;have qG:=ak pF;have qR:=ak pG;clear pF pG;have vY:=ak pJ;have yS:=ak pK;clear pJ pK;have lC:=ak lZ;have oz:=ak l7;clear lZ l7;have HB:=ak (Below.refl w.heap.size w);have H:((some (([]:List (gI)):List (gI))).bind fun Xu=>(if Xu.length+dN.length<4398046511104 then((some (([]:List ByteArray):List ByteArray)).bind fun Xv=>(if Xv.length+dQ.length<8796093022208 then((gQ.f k aH).bind fun Qv=>(some ((Xu++dN),(Xv++dQ),Qv)))else(none)))else(none)))=some (r1,r2,r3):=h;clear h;obtain⟨Xu,ajP⟩:=nm ([]:List (gI));rw[←ajP.out]at H
  (try rw[Option.bind_some]at H);replace H:=nl H;obtain⟨aHr,H⟩:=H;obtain⟨Ux,asq⟩:=nm (Xu++dN);rw[←asq.out]at H
  (try rw[Option.bind_some]at H);obtain⟨Xv,ajQ⟩:=nm ([]:List ByteArray);rw[←ajQ.out]at H
  (try rw[Option.bind_some]at H);replace H:=nl H;obtain⟨aos,H⟩:=H;obtain⟨y112,asr⟩:=nm (Xv++dQ);rw[←asr.out]at H
  (try rw[Option.bind_some]at H);replace H:=bd H;obtain⟨Qv,A4,H⟩:=H;simp only[Option.some.injEq,Prod.mk.injEq]at H;obtain⟨rfl,rfl,rfl⟩:=H;go_enter func24,ntmps24;go_wp2_with (first|(refine bE 1 #[.slice jD dN.length jE, .slice jW dQ.length jX, .slice iw aH.length fC] 32 ?_;intro DR hg w5 hbox hb;have rU:=ak (hbox);have aKL:=lq HB hg;have aKM:=lq HB hg;replace HB:=bs HB hb;clear hb hbox hg)|(refine bE 2 #[.slice none 0 0, .slice none 0 0, .slice none 0 0] 32 ?_;intro zL hg w6 hbox hb;have Ae:=ak (hbox);have aKN:=ak ((by rw[hg];exact(aA bb):w.heap.size≤zL));have aKO:=ak ((by rw[hg];exact(aA bb):w.heap.size≤zL));have aiJ:=ak ((by rw[hg];exact Nat.ne_of_lt (dR (ub rU.out)):DR≠zL));have Jm:=ak ((by rw[hg];exact Nat.ne_of_gt (dR (ub rU.out)):zL≠DR));replace rU:=kb rU hb;replace HB:=ak (aC bb hb);clear hb hbox hg)|((with_reducible refine bG (N:=3) rfl ?_);refine nD oN _ 63 ?hg (N:=3) ?hd (xs:=([]:List (gI))) (inner:=[]) (ok:=fun _=>True) (oO:=fun _=>True) ?hr ?hp (fun _ hk=>hk) trivial (Below.refl _ _) (Nat.le_refl _) (by simp) ?_;(case hd=>rfl);(case hg=>rfl);(case hr=>first|(go_simp;done)|(go_simp;rfl));(case hp=>exact(iW.none _ _));intro aHs w7 ho8 hb oP gY;clear oP gY;(first|rw[←ajP.out]at ho8|(simp only[Int.reduceToNat]at ho8;rw[←ajP.out]at ho8));have agi:=ak (bQ ho8 (aA bb));replace rU:=kb rU hb;replace Ae:=kb Ae hb;replace HB:=ak (aC bb hb);clear hb ho8;have aNK:=aiJ.out;have aNL:=Jm.out;obtain⟨sG,vP,Af,sH,vS,Ag⟩:=jO rU.out)|((with_reducible refine bM (b:= .append) (xs:=#[.tmp 3, .tmp 5]) rfl ?_);at_builtin;refine nO oN (w0:=w) w.heap.size rfl (.tmp 3) (.tmp 5) 29 63 (.agg #[(.string ⟨#[]⟩),(.string ⟨#[]⟩)]) 32 rfl underlying29 Fz rfl (by decide) (by omega) aHs Xu dN _ _ _ (fun _=>True) (fun _=>False) rfl rfl ?aO ?aR (fun _ _ h=>h) (fun _ h=>h.elim) ?aF ?aB ?aS ?aL ?_;(case aR=>repeat(first|exact(aT qG.out HB.out)|(with_reducible refine Kd.fP ?_ _)|(with_reducible refine Kd.fQ ?_ _)|(with_reducible refine Kd.iR ?_)));(case aB=>exact bb);(case aF=>exact(fun _ _=>trivial));(case aO=>exact(ur agi.out));(case aS=>exact(aA bb));(case aL=>have:=aHr.out;omega);intro v107 Uy ho hb hg hat;rw[←asq.out]at ho;have iE:=ak (gK (g:=DR) (o:= .cells #[.slice jD dN.length jE, .slice jW dQ.length jX, .slice iw aH.length fC] 32 (0,0)) (ub rU.out) hg (BO agi.out rU.out (by decide)));have iF:=ak (gK (g:=zL) (o:= .cells #[.slice none 0 0, .slice none 0 0, .slice none 0 0] 32 (0,0)) (ub Ae.out) hg (BO agi.out Ae.out (by decide)));have lD:=ak (hb);have FD:=ak (ho);clear rU;clear Ae;clear HB;clear agi;have rU:=iE;have Ae:=iF;have HB:=lD;have Hr:=FD;clear iE iF lD FD;clear ho hb hg hat;obtain⟨t_,sV,ajR⟩:=bW Hr.out;subst ajR;obtain⟨uI,uJ,Ht,uK,uM,Hu⟩:=jO rU.out)|((with_reducible refine bG (N:=8) rfl ?_);refine nD Kd.string _ 9 ?hg (N:=8) ?hd (xs:=([]:List ByteArray)) (inner:=[]) (ok:=fun _=>True) (oO:=fun _=>True) ?hr ?hp (fun _ hk=>hk) trivial (Below.refl _ _) (Nat.le_refl _) (by simp) ?_;(case hd=>rfl);(case hg=>rfl);(case hr=>first|(go_simp;done)|(go_simp;rfl));(case hp=>exact(iW.none _ _));intro ayH Us LV hb oP gY;clear oP gY;(first|rw[←ajQ.out]at LV|(simp only[Int.reduceToNat]at LV;rw[←ajQ.out]at LV));have Qw:=ak (bQ LV (aA bb));replace Hr:=ak (iL (ur (aK (aN (p:=⟨DR,0,none⟩) (dA Hr.out rU.out (by decide)) (fun _ hk=>hk.2) (.slice t_ Ux.length sV)) (fun _ h_=>h_.1))) hb);replace rU:=ak (fD (g:=DR) (o:= .cells #[.slice t_ Ux.length sV, .slice jW dQ.length jX, .slice iw aH.length fC] 32 (0,0)) (by(with_reducible repeat(first|refine aj ?_ _|refine au ?_|refine ah ?_ _));refine aI (cs:=#[.slice jD dN.length jE, .slice jW dQ.length jX, .slice iw aH.length fC]) ?_ 0 _ rfl;(with_reducible repeat(first|refine aj ?_ _|refine au ?_|refine ah ?_ _));exact rU.out) hb);replace Ae:=ak (fD (g:=zL) (o:= .cells #[.slice none 0 0, .slice none 0 0, .slice none 0 0] 32 (0,0)) (by(with_reducible repeat(first|refine aj ?_ _|refine au ?_|refine ah ?_ _));refine bV ?_ Jm.out _;(with_reducible repeat(first|refine aj ?_ _|refine au ?_|refine ah ?_ _));exact Ae.out) hb);replace HB:=ak (aC bb hb);clear hb LV;obtain⟨JQ,JR,NP,JU,JV,NQ⟩:=jO rU.out)|((with_reducible refine bM (b:= .append) (xs:=#[.tmp 8, .tmp 10]) rfl ?_);at_builtin;refine nO Kd.string (w0:=w) w.heap.size rfl (.tmp 8) (.tmp 10) 23 9 (.string ⟨#[]⟩) 16 rfl underlying23 info9 rfl (by decide) (by omega) ayH Xv dQ _ _ _ (fun _=>True) (fun _=>False) rfl rfl ?aO ?aR (fun _ _ h=>h) (fun _ h=>h.elim) ?aF ?aB ?aS ?aL ?_;(case aR=>repeat(first|exact(aT vY.out HB.out)|(with_reducible refine Kd.fP ?_ _)|(with_reducible refine Kd.fQ ?_ _)|(with_reducible refine Kd.iR ?_)));(case aB=>exact bb);(case aF=>exact(fun _ _=>trivial));(case aO=>exact(ur Qw.out));(case aS=>exact(aA bb));(case aL=>have:=aos.out;omega);intro aHt w17 ho hb hg hat;rw[←asr.out]at ho;have iE:=ak (gK (g:=DR) (o:= .cells #[.slice t_ Ux.length sV, .slice jW dQ.length jX, .slice iw aH.length fC] 32 (0,0)) (ub rU.out) hg (BO Qw.out rU.out (by decide)));have iF:=ak (gK (g:=zL) (o:= .cells #[.slice none 0 0, .slice none 0 0, .slice none 0 0] 32 (0,0)) (ub Ae.out) hg (BO Qw.out Ae.out (by decide)));have lD:=ak (zf (ur Hr.out) (uH (ur Qw.out)) (by decide) hg);have FD:=ak (hb);have LW:=ak (ho);clear rU;clear Ae;clear Hr;clear HB;clear Qw;have rU:=iE;have Ae:=iF;have Hr:=lD;have HB:=FD;have Qx:=LW;clear iE iF lD FD LW;clear ho hb hg hat;obtain⟨O7,O8,ajS⟩:=bW Qx.out;subst ajS;obtain⟨aot,aou,aEe,aov,aow,aEf⟩:=jO rU.out)|(refine gL 42 15 func42 #[.slice iw aH.length fC] ?_;(with_reducible refine(ihB _ _ aH Qv _ (aT lC.out bb) oz.out A4.out).mono ?_);rintro e w20 ⟨aHu,rfl,ho0,hb⟩;refine⟨_,rfl,?_⟩;have agj:=ak (bQ (uV (uV (lu (lu ho0 (oK (ur (aK (aN (p:=⟨DR,1,none⟩) (dA Hr.out rU.out (by decide)) (fun _ hk=>hk.2) (.slice O7 y112.length O8)) (fun _ h_=>h_.1))))) (oK (ur (aK (aN (p:=⟨DR,1,none⟩) (dA Qx.out rU.out (by decide)) (fun _ hk=>hk.2) (.slice O7 y112.length O8)) (fun _ h_=>h_.1))))) (g:=DR) (o:= .cells #[.slice t_ Ux.length sV, .slice O7 y112.length O8, .slice iw aH.length fC] 32 (0,0)) (by(with_reducible repeat(first|refine aj ?_ _|refine au ?_|refine ah ?_ _));refine aI (cs:=#[.slice t_ Ux.length sV, .slice jW dQ.length jX, .slice iw aH.length fC]) ?_ 1 _ rfl;(with_reducible repeat(first|refine aj ?_ _|refine au ?_|refine ah ?_ _));exact rU.out)) (g:=zL) (o:= .cells #[.slice none 0 0, .slice none 0 0, .slice none 0 0] 32 (0,0)) (by(with_reducible repeat(first|refine aj ?_ _|refine au ?_|refine ah ?_ _));refine bV ?_ Jm.out _;(with_reducible repeat(first|refine aj ?_ _|refine au ?_|refine ah ?_ _));exact Ae.out)) (aA bb));replace Hr:=ak (iL (ur (aK (aN (p:=⟨DR,1,none⟩) (dA Hr.out rU.out (by decide)) (fun _ hk=>hk.2) (.slice O7 y112.length O8)) (fun _ h_=>h_.1))) hb);replace Qx:=ak (iL (ur (aK (aN (p:=⟨DR,1,none⟩) (dA Qx.out rU.out (by decide)) (fun _ hk=>hk.2) (.slice O7 y112.length O8)) (fun _ h_=>h_.1))) hb);replace rU:=ak (fD (g:=DR) (o:= .cells #[.slice t_ Ux.length sV, .slice O7 y112.length O8, .slice iw aH.length fC] 32 (0,0)) (by(with_reducible repeat(first|refine aj ?_ _|refine au ?_|refine ah ?_ _));refine aI (cs:=#[.slice t_ Ux.length sV, .slice jW dQ.length jX, .slice iw aH.length fC]) ?_ 1 _ rfl;(with_reducible repeat(first|refine aj ?_ _|refine au ?_|refine ah ?_ _));exact rU.out) hb);replace Ae:=ak (fD (g:=zL) (o:= .cells #[.slice none 0 0, .slice none 0 0, .slice none 0 0] 32 (0,0)) (by(with_reducible repeat(first|refine aj ?_ _|refine au ?_|refine ah ?_ _));refine bV ?_ Jm.out _;(with_reducible repeat(first|refine aj ?_ _|refine au ?_|refine ah ?_ _));exact Ae.out) hb);replace HB:=ak (aC bb hb);(try clear hb);(try clear ho0);obtain⟨Xw,Xx,ajT⟩:=bW agj.out;subst ajT;obtain⟨JW,NR,NS,JX,NT,NU⟩:=jO rU.out;obtain⟨aEg,aEh,aEi,aEj,aEk,aEl⟩:=jO Ae.out))
  refine bodyPost_ret (results_cell_row rfl _ _ zL 32 #[.slice t_ Ux.length sV, .slice O7 y112.length O8, .slice Xw Qv.length Xx] (0,0) _ rfl (by(with_reducible repeat(first|refine aj ?_ _|refine au ?_|refine ah ?_ _));refine aI (cs:=#[.slice t_ Ux.length sV, .slice O7 y112.length O8, .slice none 0 0]) ?_ 2 _ rfl;(with_reducible repeat(first|refine aj ?_ _|refine au ?_|refine ah ?_ _));refine aI (cs:=#[.slice t_ Ux.length sV, .slice none 0 0, .slice none 0 0]) ?_ 1 _ rfl;(with_reducible repeat(first|refine aj ?_ _|refine au ?_|refine ah ?_ _));refine aI (cs:=#[.slice none 0 0, .slice none 0 0, .slice none 0 0]) ?_ 0 _ rfl;(with_reducible repeat(first|refine aj ?_ _|refine au ?_|refine ah ?_ _));refine bV ?_ Jm.out _;(with_reducible repeat(first|refine aj ?_ _|refine au ?_|refine ah ?_ _));exact Ae.out) underlying32 rfl (by kernel_rfl)) rfl ?_;exact⟨_,_,_,er,ur (aK (aN (p:=⟨zL,2,none⟩) (aN (p:=⟨zL,1,none⟩) (aN (p:=⟨zL,0,none⟩) (aN (p:=⟨DR,2,none⟩) (dA (dA Hr.out rU.out (by decide)) Ae.out (by decide)) (fun _ hk=>hk.1.2) (.slice Xw Qv.length Xx)) (fun _ hk=>hk.2) (.slice t_ Ux.length sV)) (fun _ hk=>hk.2) (.slice O7 y112.length O8)) (fun _ hk=>hk.2) (.slice Xw Qv.length Xx)) (fun _ hk=>trivial)),ur (aK (aN (p:=⟨zL,2,none⟩) (aN (p:=⟨zL,1,none⟩) (aN (p:=⟨zL,0,none⟩) (aN (p:=⟨DR,2,none⟩) (dA (dA Qx.out rU.out (by decide)) Ae.out (by decide)) (fun _ hk=>hk.1.2) (.slice Xw Qv.length Xx)) (fun _ hk=>hk.2) (.slice t_ Ux.length sV)) (fun _ hk=>hk.2) (.slice O7 y112.length O8)) (fun _ hk=>hk.2) (.slice Xw Qv.length Xx)) (fun _ hk=>trivial)),ur (aK (aN (p:=⟨zL,2,none⟩) (aN (p:=⟨zL,1,none⟩) (aN (p:=⟨zL,0,none⟩) (aN (p:=⟨DR,2,none⟩) (aK (aK agj.out (fun k_ hk=>(⟨hk,hk.1.2⟩:_∧k_≠DR))) (fun k_ hk=>(⟨hk,hk.1.2⟩:_∧k_≠zL))) (fun _ hk=>hk.1.2) (.slice Xw Qv.length Xx)) (fun _ hk=>hk.2) (.slice t_ Ux.length sV)) (fun _ hk=>hk.2) (.slice O7 y112.length O8)) (fun _ hk=>hk.2) (.slice Xw Qv.length Xx)) (fun _ hk=>⟨hk.1.1.1.1.1.2,hk.1.1.1.1.2⟩)),bb⟩
 ·intro A0 c0 l0 r w hr0 hc0 h;have LU:=underlying32;have HR0:=ak hr0;have sK:=ak hc0;clear hr0 hc0;have HB:=ak (Below.refl w.heap.size w);have H:(gQ.l0 k (([]:List (ku))) l0 (l0.length:Int) 0)=some r:=h;clear h;obtain⟨y101,ajU⟩:=nm ([]:List (ku));rw[←ajU.out]at H
  (try rw[Option.bind_some]at H);have H':=ak H;clear H;go_enter func42,ntmps42;go_wp2_with (first|((with_reducible refine bG (N:=6) rfl ?_);refine nD k32 _ 32 ?hg (N:=6) ?hd (xs:=([]:List (ku))) (inner:=[]) (ok:=fun _=>True) (oO:=fun _=>True) ?hr ?hp (fun _ hk=>hk) trivial (Below.refl _ _) (Nat.le_refl _) (by simp) ?_;(case hd=>rfl);(case hg=>rfl);(case hr=>first|(go_simp;done)|(go_simp;rfl));(case hp=>exact(iW.none _ _));intro aNM w2 ho3 hb oP gY;clear oP gY;(first|rw[←ajU.out]at ho3|(simp only[Int.reduceToNat]at ho3;rw[←ajU.out]at ho3));have ayI:=ak (bQ ho3 (aA (ul HB.out)));replace HB:=bs HB hb;clear hb ho3))
  go_loopg [3,9] k (fun kq v3 v9 w'=>∃(dS:List (ku)) (l9:Int),v9= .int .i64 l9∧ay (gQ.l0 kq dS l0 (l0.length:Int) l9=some r)∧ay (kq≤k)∧ay (Kd.R k32 32 w' w.heap.size (fun _=>True) v3 dS)∧ay (Below w.heap.size w w'))
  case atStart=>exact⟨(y101),(0),rs,H',⟨Nat.le_refl _⟩,⟨ur ayI.out⟩,⟨ul HB.out⟩⟩
  case round=>
   clear H';try clear c1
   try clear p2
   obtain⟨dS,l9,rfl,HA,iM,nP,HB⟩:=hrel
   cases gk with
   |zero=>exact absurd HA.out (by simp[gQ.l0])
   |succ k1=>
    have H:=HA.out;clear HA;simp only[gQ.l0]at H;replace H:=sd H;rcases H with⟨oG,H⟩|⟨oG,H⟩
    ·replace H:=oL H;obtain⟨o_,H⟩:=H;replace H:=oL H;obtain⟨mG,H⟩:=H;replace H:=bd H;obtain⟨⟨ajV,t109,VW⟩,A7,H⟩:=H
     (try dsimp only at H);replace H:=nl H;obtain⟨avj,H⟩:=H;obtain⟨y115,asu⟩:=nm (dS++[(⟨ajV,t109,VW⟩:ku)]);rw[←asu.out]at H
     (try rw[Option.bind_some]at H);have H':=ak H;clear H;have avk:=zi l9;have avl:=zj l9 l0.length;obtain⟨aKP,FH,FI,JY,JZ,O9,O_,aHv,agk,agl,agm,agn,agp,agq,agr,ags,agt⟩:=uU HR0.out l9 avk avl;cases aHv;replace agk:=cl HB.out agk;replace agl:=cl HB.out agl;replace agm:=cl HB.out agm;have aox:=ak agp;have aoy:=ak agn;clear agp agn;have aoz:=ak agr;have aoA:=ak agq;clear agr agq;have aoB:=ak agt;have aoC:=ak ags;clear agt ags;replace avk:=eq_true avk;replace avl:=eq_true avl;go_wp2_with (first|(refine bE 5 #[.slice none 0 0, .slice none 0 0, .slice none 0 0] 32 ?_;intro FM hg w9 hbox hb;have OJ:=ak (hbox);have aKQ:=lq HB hg;have aKR:=lq HB hg;replace nP:=ak (iL (pO (ur nP.out) FM (Nat.le_of_eq hg.symm)) hb);replace HB:=bs HB hb;clear hb hbox hg;obtain⟨sG,vP,Af,sH,vS,Ag⟩:=jO OJ.out)|(refine gL 24 15 func24 #[.agg #[.slice FH ((aW l0 l9).f0).length FI, .slice JY ((aW l0 l9).f1).length JZ, .slice O9 ((aW l0 l9).f2).length O_]] ?_;(with_reducible refine((ih k1 (by have:=iM.out;omega)).1 _ _ ((aW l0 l9).f0) _ _ ((aW l0 l9).f1) _ _ ((aW l0 l9).f2) ajV t109 VW _ (aT aox.out bb) aoy.out (aT aoz.out bb) aoA.out (aT aoB.out bb) aoC.out A7.out).mono ?_);rintro e Uy ⟨v107,ayH,aHt,rfl,ho0,ho1,ho2,hb⟩;refine⟨_,rfl,?_⟩;have Hr:=ak (bQ ho0 (aA bb));have Qw:=ak (bQ ho1 (aA bb));have Qx:=ak (bQ (uV (lu ho2 (oK (ur (aK (aN (p:=⟨FM,2,none⟩) (aN (p:=⟨FM,1,none⟩) (aN (p:=⟨FM,0,none⟩) (aK nP.out (fun k_ hk=>(⟨hk,hk.2⟩:_∧k_≠FM))) (fun _ hk=>hk.2) (.slice FH ((aW l0 l9).f0).length FI)) (fun _ hk=>hk.2) (.slice JY ((aW l0 l9).f1).length JZ)) (fun _ hk=>hk.2) (.slice O9 ((aW l0 l9).f2).length O_)) (fun _ h_=>h_.1))))) (g:=FM) (o:= .cells #[.slice FH ((aW l0 l9).f0).length FI, .slice JY ((aW l0 l9).f1).length JZ, .slice O9 ((aW l0 l9).f2).length O_] 32 (0,0)) (by(with_reducible repeat(first|refine aj ?_ _|refine au ?_|refine ah ?_ _));refine aI (cs:=#[.slice FH ((aW l0 l9).f0).length FI, .slice JY ((aW l0 l9).f1).length JZ, .slice none 0 0]) ?_ 2 _ rfl;(with_reducible repeat(first|refine aj ?_ _|refine au ?_|refine ah ?_ _));refine aI (cs:=#[.slice FH ((aW l0 l9).f0).length FI, .slice none 0 0, .slice none 0 0]) ?_ 1 _ rfl;(with_reducible repeat(first|refine aj ?_ _|refine au ?_|refine ah ?_ _));refine aI (cs:=#[.slice none 0 0, .slice none 0 0, .slice none 0 0]) ?_ 0 _ rfl;(with_reducible repeat(first|refine aj ?_ _|refine au ?_|refine ah ?_ _));exact OJ.out)) (aA bb));replace nP:=ak (aK (Dv (Dv (Dv (agu (ur (aK (aN (p:=⟨FM,2,none⟩) (aN (p:=⟨FM,1,none⟩) (aN (p:=⟨FM,0,none⟩) (aK nP.out (fun k_ hk=>(⟨hk,hk.2⟩:_∧k_≠FM))) (fun _ hk=>hk.2) (.slice FH ((aW l0 l9).f0).length FI)) (fun _ hk=>hk.2) (.slice JY ((aW l0 l9).f1).length JZ)) (fun _ hk=>hk.2) (.slice O9 ((aW l0 l9).f2).length O_)) (fun _ h_=>h_.1))) hb) (iO ho0)) (iO ho1)) (iO ho2)) (fun _ h_=>h_.1));replace OJ:=ak (fD (g:=FM) (o:= .cells #[.slice FH ((aW l0 l9).f0).length FI, .slice JY ((aW l0 l9).f1).length JZ, .slice O9 ((aW l0 l9).f2).length O_] 32 (0,0)) (by(with_reducible repeat(first|refine aj ?_ _|refine au ?_|refine ah ?_ _));refine aI (cs:=#[.slice FH ((aW l0 l9).f0).length FI, .slice JY ((aW l0 l9).f1).length JZ, .slice none 0 0]) ?_ 2 _ rfl;(with_reducible repeat(first|refine aj ?_ _|refine au ?_|refine ah ?_ _));refine aI (cs:=#[.slice FH ((aW l0 l9).f0).length FI, .slice none 0 0, .slice none 0 0]) ?_ 1 _ rfl;(with_reducible repeat(first|refine aj ?_ _|refine au ?_|refine ah ?_ _));refine aI (cs:=#[.slice none 0 0, .slice none 0 0, .slice none 0 0]) ?_ 0 _ rfl;(with_reducible repeat(first|refine aj ?_ _|refine au ?_|refine ah ?_ _));exact OJ.out) hb);replace HB:=ak (aC bb hb);(try clear hb);(try clear ho0);(try clear ho1);(try clear ho2);obtain⟨uf,qh,Pg⟩:=bW Hr.out;subst Pg;obtain⟨aHw,aHx,aHy⟩:=bW Qw.out;subst aHy;obtain⟨aea,acC,aiK⟩:=bW Qx.out;subst aiK)|((with_reducible refine bM (b:= .append) (xs:=#[.tmp 13, .tmp 16]) rfl ?_);at_builtin;refine iT k32 (w0:=w) w.heap.size rfl (.tmp 13) (.tmp 16) 30 32 (.agg #[(.slice none 0 0),(.slice none 0 0),(.slice none 0 0)]) 72 rfl underlying30 ad5 rfl (by decide) (by omega) u3 dS (⟨ajV,t109,VW⟩:ku) [.slice uf ajV.length qh, .slice aHw t109.length aHx, .slice aea VW.length acC] (fun k_=>k_≠FM) (fun k_=>((fun k_=>k_≠FM)) k_∧some k_≠(u3:Value).ownBlock) rfl rfl ?aP (fun _ hk=>hk) ?aF ?aO ?aB ?aS ?aL ?_;(case aP=>exact agd _ _ _ (⟨ajV,t109,VW⟩:ku) (aK (dA (qo (Hr.out) (uH nP.out) (by decide)) OJ.out (by decide)) (fun k_ hk=>⟨hk.2,hk.1.2⟩)) (aK (dA (qo (Qw.out) (uH nP.out) (by decide)) OJ.out (by decide)) (fun k_ hk=>⟨hk.2,hk.1.2⟩)) (aK (Qx.out) (fun k_ hk=>⟨hk.2,hk.1.2⟩)));(case aB=>exact bb);(case aF=>exact(fun k_ hk=>zC (g:=FM) (o:= .cells #[.slice FH ((aW l0 l9).f0).length FI, .slice JY ((aW l0 l9).f1).length JZ, .slice O9 ((aW l0 l9).f2).length O_] 32 (0,0)) (ub OJ.out) k_ hk));(case aO=>exact(ur (aK nP.out (fun _ hk=>hk.1.1.1.2))));(case aS=>exact(aA bb));(case aL=>have:=avj.out;omega);intro aHu w12 ho hb hg hat;rw[←asu.out]at ho;have iE:=ak (gK (g:=FM) (o:= .cells #[.slice FH ((aW l0 l9).f0).length FI, .slice JY ((aW l0 l9).f1).length JZ, .slice O9 ((aW l0 l9).f2).length O_] 32 (0,0)) (ub OJ.out) hg (FN nP.out (fun _ hk=>hk.1.1.1.2)));have iF:=ak (hb);have lD:=ak (ho);clear OJ;clear HB;clear nP;clear Hr;clear Qw;clear Qx;have OJ:=iE;have HB:=iF;have agj:=lD;clear iE iF lD;clear ho hb hg hat))
     go_roundg k1
     case measure=>have:=iM.out;omega
     case rel=>exact⟨(y115),(wrap64 (l9+1)),rs,H',⟨by have:=iM.out;omega⟩,⟨ur (aK agj.out (fun _ hk=>trivial))⟩,⟨bb⟩⟩
    ·obtain rfl:=Option.some.inj H;go_wp2;go_ret;exact⟨_,er,ur nP.out,ul HB.out⟩
theorem jd.calls(k:Nat)(jD:Option Addr)(jE:Nat)(dN:List (gI))(jW:Option Addr)(jX:Nat)(dQ:List ByteArray)(iw:Option Addr)(fC:Nat)(aH:List (ku))(r1:List (gI))(r2:List ByteArray)(r3:List (ku))(w:World)(pF:Kd.C oN w jD dN.length dN)(pG:dN.length≤jE)(pJ:Kd.C Kd.string w jW dQ.length dQ)(pK:dQ.length≤jX)(lZ:Kd.C k32 w iw aH.length aH)(l7:aH.length≤fC)(h:jd.f k dN dQ aH=some (r1,r2,r3)):
  Calls Tryz.prog 24 #[.agg #[.slice jD dN.length jE, .slice jW dQ.length jX, .slice iw aH.length fC]] w fun e w'=>∃sZ Uw Vx:Value,e= .returned (.agg #[sZ,Uw,Vx])∧Kd.R oN 63 w' w.heap.size (fun _=>True) sZ r1∧Kd.R Kd.string 9 w' w.heap.size (fun _=>True) Uw r2∧Kd.R k32 32 w' w.heap.size (fun k_=>some k_≠(sZ:Value).ownBlock∧some k_≠(Uw:Value).ownBlock) Vx r3∧Below w.heap.size w w':=(jd.pair k).1 jD jE dN jW jX dQ iw fC aH r1 r2 r3 w pF pG pJ pK lZ l7 h
theorem gQ.calls(k:Nat)(A0:Option Addr)(c0:Nat)(l0:List (ku))(r:List (ku))(w:World)(hr0:Kd.C k32 w A0 l0.length l0)(hc0:l0.length≤c0)(h:gQ.f k l0=some r):
  Calls Tryz.prog 42 #[.slice A0 l0.length c0] w fun e w'=>∃sZ:Value,e= .returned (sZ)∧Kd.R k32 32 w' w.heap.size (fun _=>True) sZ r∧Below w.heap.size w w':=(jd.pair k).2 A0 c0 l0 r w hr0 hc0 h
def iG.f(a0:ByteArray):Option (ByteArray):=if a0.size≤140737488355328 then some (strOfNums ((bytesOf a0).map Y8))else none
set_option maxHeartbeats 1000000 in
set_option maxRecDepth 100000 in
theorem iG.calls(a0:ByteArray)(r:ByteArray)(w:World)(h:iG.f a0=some r):
  Calls Tryz.prog 99 #[.string a0] w fun e w'=>e= .returned (.string r)∧Below w.heap.size w w':=by
 unfold iG.f at h;split at h
 ·rename_i hb
  injection h with h;subst h;have kb:=fun W=>Vy (P:=Tryz.prog) 9 77 5 underlying9 underlying77 underlying5 a0 W
  go_enter func99,ntmps99;go_wp2;go_loopw [10] (fun i W=>∃k:Nat,k≤a0.size∧i= .int .i64 k∧Uz w w.heap.size (Lj (bytesOf a0) k) W) (fun i _=>a0.size-(intOf i).toNat)
  case atStart=>exact⟨0,Nat.zero_le _,rfl,by simpa [Lj] using Qy w 5 a0⟩
  case round=>
   obtain⟨k,hk,rfl,hR⟩:=hrel;have HR:=ak hR;by_cases hlt:k<a0.size
   ·have hc:=hR.cell k (by rw[nG,bytesOf_length];exact hlt);have hf:=hR.free k (by rw[nG,bytesOf_length];exact hlt);rw[aao _ _ (by rw[bytesOf_length];exact hlt)]at hc;clear hR;have hr:=OL a0 k;have hs:=ak (Zt (bytesOf a0) k (by rw[bytesOf_length];exact hlt));have hu:=ak (UA (bytesOf a0) k (by rw[bytesOf_length];exact hlt))
    generalize (bytesOf a0).getD k 0=c at hc hr hs hu
    go_wp2
    ·go_roundw
     case rel=>exact⟨k+1,by omega,by go_num,by
      rw[hu.out,Y8,if_pos ⟨by omega,by omega⟩];exact HR.out.store (Nat.le_refl _) k (by rw[nG,bytesOf_length];exact hlt) _⟩
     case measure=>simp[intOf];omega
    ·go_roundw
     case rel=>exact⟨k+1,by omega,by go_num,by rw[hs.out (by omega)];exact HR.out⟩
     case measure=>simp[intOf];omega
    ·go_roundw
     case rel=>exact⟨k+1,by omega,by go_num,by rw[hs.out (by omega)];exact HR.out⟩
     case measure=>simp[intOf];omega
   ·clear hR
    have kd:=run_convert_bytes_arg (P:=Tryz.prog) wr 77 5 underlying77 underlying5 w.heap.size 0 a0.size (grownCap w a0.size 0 5) (Lj (bytesOf a0) k) (by rw[nG,bytesOf_length]) (fun i hi=>by
     rw[Nat.zero_add];exact HR.out.cell i (by rw[nG,bytesOf_length];exact hi)) 9 underlying9
    go_wp2;go_ret;have hk2:k=a0.size:=by omega
    exact⟨by rw[hk2,acD (bytesOf a0) a0.size (bytesOf_length a0)];rfl,HR.out.below⟩
 ·cases h
def ug.f(a0:ByteArray)(a1:ByteArray):Option (Bool):=(iG.f a0).bind fun ajW=>((iG.f a1).bind fun ajX=>(some (ajW.toList==ajX.toList)))
set_option maxHeartbeats 8000000 in
set_option maxRecDepth 100000 in
theorem ug.calls(a0:ByteArray)(a1:ByteArray)(r:Bool)(w:World)(h:ug.f a0 a1=some r):
  Calls Tryz.prog 128 #[.string a0, .string a1] w fun e w'=>e= .returned (.bool r)∧Below w.heap.size w w':=by
 have HB:=ak (Below.refl w.heap.size w);have H:((iG.f a0).bind fun ajW=>((iG.f a1).bind fun ajX=>(some (ajW.toList==ajX.toList))))=some r:=h;clear h;replace H:=bd H;obtain⟨ajW,A3,H⟩:=H;replace H:=bd H;obtain⟨ajX,A4,H⟩:=H;obtain rfl:=Option.some.inj H;go_enter func128,ntmps128;go_wp2_with (first|(refine gL 99 6 func99 #[.string a0] ?_;(with_reducible refine(iG.calls a0 ajW _ A3.out).mono ?_);rintro e w5 ⟨rfl,hb⟩;refine⟨_,rfl,?_⟩;replace HB:=bs HB hb;(try clear hb))|(refine gL 99 8 func99 #[.string a1] ?_;(with_reducible refine(iG.calls a1 ajX _ A4.out).mono ?_);rintro e w6 ⟨rfl,hb⟩;refine⟨_,rfl,?_⟩;replace HB:=bs HB hb;(try clear hb)))
 go_ret;exact⟨er,ul HB.out⟩
def qH.f(bT:ByteArray)(cZ:ByteArray)(a1:ByteArray):Option (Bool):=(ug.f bT a1).bind fun ajY=>(some ajY)
set_option maxHeartbeats 8000000 in
set_option maxRecDepth 100000 in
theorem qH.calls(bT:ByteArray)(cZ:ByteArray)(gq1:Nat)(a1:ByteArray)(r:Bool)(w:World)(hq1:w.heap[gq1]? =some (.cells #[.string a1] 9 (0,0)))(h:qH.f bT cZ a1=some r):
  Calls Tryz.prog 127 #[.agg #[.string bT, .string cZ], .pointer (some ⟨gq1,0,none⟩)] w fun e w'=>e= .returned (.bool r)∧Below w.heap.size w w':=by
 have Jo:=underlying63;have wZ:=ak hq1;clear hq1;have HB:=ak (Below.refl w.heap.size w);have H:((ug.f bT a1).bind fun ajY=>(some ajY))=some r:=h;clear h;replace H:=bd H;obtain⟨ajY,A3,H⟩:=H;obtain rfl:=Option.some.inj H;go_enter func127,ntmps127;go_wp2_with (first|(refine bE 2 #[.string bT, .string cZ] 63 ?_;intro agv hg w4 hbox hb;have ajZ:=ak (hbox);have aKS:=ak ((by rw[hg];exact(aA bb):w.heap.size≤agv));have aKT:=ak ((by rw[hg];exact(aA bb):w.heap.size≤agv));have aj0:=ak ((by rw[hg];exact Nat.ne_of_lt (dR (ub wZ.out)):gq1≠agv));have aj1:=ak ((by rw[hg];exact Nat.ne_of_gt (dR (ub wZ.out)):agv≠gq1));replace wZ:=kb wZ hb;replace HB:=ak (aC bb hb);clear hb hbox hg;have aNN:=aj1.out;have aNO:=aj0.out;obtain⟨FP,FQ,FT,FU⟩:=Ah ajZ.out;have LX:w4.cell? ⟨gq1,0,none⟩=some (.string a1):=(aJ wZ.out 0).trans rfl;have LY:=jl wZ.out 0)|(refine gL 128 7 func128 #[.string bT, .string a1] ?_;(with_reducible refine(ug.calls bT a1 ajY _ A3.out).mono ?_);rintro e w8 ⟨rfl,hb⟩;refine⟨_,rfl,?_⟩;replace wZ:=kb wZ hb;replace ajZ:=kb ajZ hb;replace HB:=ak (aC bb hb);(try clear hb)))
 go_ret;exact⟨er,bb⟩
def fB.l0:Nat→List (gI)→Int→Int→ByteArray→Option (Int)
 |0,_,_,_,_=>none
 |k+1,x0,x7,x8,Xy=>if x8<x7 then(if 0≤x8 then(if x8<(x0.length:Int)then((qH.f ((aG x0 x8).f0) ((aG x0 x8).f1) Xy).bind fun ayJ=>(if ayJ=true then(some x8)else(fB.l0 k x0 x7 (wrap64 (x8+1)) Xy)))else(none))else(none))else(some (-1))
def fB.f(k:Nat)(l0:List (gI))(xg:ByteArray):Option (Int):=fB.l0 k l0 (l0.length:Int) 0 xg
set_option maxHeartbeats 8000000 in
set_option maxRecDepth 100000 in
theorem fB.calls(k:Nat)(A0:Option Addr)(c0:Nat)(l0:List (gI))(DT:Nat)(xg:ByteArray)(r:Int)(w:World)(hr0:Kd.C oN w A0 l0.length l0)(hc0:l0.length≤c0)(Vz:w.heap[DT]? =some (.cells #[.string xg] 9 (0,0)))(h:fB.f k l0 xg=some r):
  Calls Tryz.prog 125 #[.slice A0 l0.length c0, .func (.func 127) #[] #[.pointer (some ⟨DT,0,none⟩)]] w fun e w'=>e= .returned (.int .i64 r)∧Below w.heap.size w w':=by
 have Jo:=underlying63;have HR0:=ak hr0;have sK:=ak hc0;clear hr0 hc0;have wZ:=ak Vz;clear Vz;have HB:=ak (Below.refl w.heap.size w);have H:(fB.l0 k l0 (l0.length:Int) 0 xg)=some r:=h;clear h;have H':=ak H;clear H;go_enter func125,ntmps125;go_wp2;go_loopg [8] k (fun kq v8 w'=>∃(jm:Int),v8= .int .i64 jm∧ay (fB.l0 kq l0 (l0.length:Int) jm xg=some r)∧ay (kq≤k)∧ay (w'.heap[DT]? =some (.cells #[.string xg] 9 (0,0)))∧ay (Below w.heap.size w w'))
 case atStart=>exact⟨(0),rs,H',⟨Nat.le_refl _⟩,⟨ub wZ.out⟩,⟨bb⟩⟩
 case round=>
  clear H';try clear c1
  try clear q1
  try clear p2
  obtain⟨jm,rfl,HA,iM,wZ,HB⟩:=hrel
  cases gk with
  |zero=>exact absurd HA.out (by simp[fB.l0])
  |succ k1=>
   have H:=HA.out;clear HA;simp only[fB.l0]at H;replace H:=sd H;rcases H with⟨iK,H⟩|⟨iK,H⟩
   ·replace H:=oL H;obtain⟨oG,H⟩:=H;replace H:=oL H;obtain⟨o_,H⟩:=H;replace H:=bd H;obtain⟨ayJ,A6,H⟩:=H;replace H:=sb H;rcases H with⟨rfl,H⟩|⟨rfl,H⟩
    ·obtain rfl:=Option.some.inj H;have aeb:=zi jm;have aec:=zj jm l0.length;obtain⟨ayK,avm,Qz,QA⟩:=oC HR0.out jm aeb aec;cases avm;replace Qz:=cl HB.out Qz;replace QA:=cl HB.out QA;replace aeb:=eq_true aeb;replace aec:=eq_true aec;go_wp2_with (first|(go_at_call 127;(with_reducible refine(qH.calls ((aG l0 jm).f0) ((aG l0 jm).f1) DT xg true _ (ub wZ.out) A6.out).mono ?_);rintro e w8 ⟨rfl,hb⟩;replace wZ:=kb wZ hb;replace HB:=ak (aC bb hb);(try clear hb)))
     go_ret;exact⟨er,bb⟩
    ·have H':=ak H;clear H;have aeb:=zi jm;have aec:=zj jm l0.length;obtain⟨ayK,avm,Qz,QA⟩:=oC HR0.out jm aeb aec;cases avm;replace Qz:=cl HB.out Qz;replace QA:=cl HB.out QA;replace aeb:=eq_true aeb;replace aec:=eq_true aec;go_wp2_with (first|(go_at_call 127;(with_reducible refine(qH.calls ((aG l0 jm).f0) ((aG l0 jm).f1) DT xg false _ (ub wZ.out) A6.out).mono ?_);rintro e w9 ⟨rfl,hb⟩;replace wZ:=kb wZ hb;replace HB:=ak (aC bb hb);(try clear hb)))
     go_roundg k1
     case measure=>have:=iM.out;omega
     case rel=>exact⟨(wrap64 (jm+1)),rs,H',⟨by have:=iM.out;omega⟩,⟨ub wZ.out⟩,⟨bb⟩⟩
   ·obtain rfl:=Option.some.inj H;go_wp2;go_ret;exact⟨er,bb⟩
def mg.f(k:Nat)(l0:List (gI))(a1:ByteArray):Option (Int):=(fB.f k l0 a1).bind fun aj2=>(some aj2)
set_option maxHeartbeats 8000000 in
set_option maxRecDepth 100000 in
theorem mg.calls(k:Nat)(A0:Option Addr)(c0:Nat)(l0:List (gI))(a1:ByteArray)(r:Int)(w:World)(hr0:Kd.C oN w A0 l0.length l0)(hc0:l0.length≤c0)(h:mg.f k l0 a1=some r):
  Calls Tryz.prog 97 #[.slice A0 l0.length c0, .string a1] w fun e w'=>e= .returned (.int .i64 r)∧Below w.heap.size w w':=by
 have HR0:=ak hr0;have sK:=ak hc0;clear hr0 hc0;have HB:=ak (Below.refl w.heap.size w);have H:((fB.f k l0 a1).bind fun aj2=>(some aj2))=some r:=h;clear h;replace H:=bd H;obtain⟨aj2,A3,H⟩:=H;obtain rfl:=Option.some.inj H;go_enter func97,ntmps97;go_wp2_with (first|(refine bE 3 #[.string a1] 9 ?_;intro asv hg w4 hbox hb;have aj3:=ak (hbox);have aKU:=lq HB hg;have aKV:=lq HB hg;replace HB:=bs HB hb;clear hb hbox hg)|(refine gL 125 7 func125 #[.slice A0 l0.length c0, .func (.func 127) #[] #[.pointer (some ⟨asv,0,none⟩)]] ?_;(with_reducible refine(fB.calls k _ _ l0 asv a1 aj2 _ (cu (aT HR0.out HB.out)) sK.out (ub aj3.out) A3.out).mono ?_);rintro e w5 ⟨rfl,hb⟩;refine⟨_,rfl,?_⟩;replace aj3:=kb aj3 hb;replace HB:=ak (aC bb hb);(try clear hb)))
 go_ret;exact⟨er,bb⟩
def nR.f(k:Nat)(l0:List (gI))(a1:ByteArray):Option (ByteArray×Bool):=(mg.f k l0 a1).bind fun Ph=>(if Ph<0 then(some ((⟨#[]⟩:ByteArray),false))else(if 0≤Ph then(if Ph<(l0.length:Int)then(some ((aG l0 Ph).f1,true))else(none))else(none)))
set_option maxHeartbeats 8000000 in
set_option maxRecDepth 100000 in
theorem nR.calls(k:Nat)(A0:Option Addr)(c0:Nat)(l0:List (gI))(a1:ByteArray)(r1:ByteArray)(r2:Bool)(w:World)(hr0:Kd.C oN w A0 l0.length l0)(hc0:l0.length≤c0)(h:nR.f k l0 a1=some (r1,r2)):
  Calls Tryz.prog 64 #[.slice A0 l0.length c0, .string a1] w fun e w'=>e= .returned (.tuple #[.string r1, .bool r2])∧Below w.heap.size w w':=by
 have HR0:=ak hr0;have sK:=ak hc0;clear hr0 hc0;have HB:=ak (Below.refl w.heap.size w);have H:((mg.f k l0 a1).bind fun Ph=>(if Ph<0 then(some ((⟨#[]⟩:ByteArray),false))else(if 0≤Ph then(if Ph<(l0.length:Int)then(some ((aG l0 Ph).f1,true))else(none))else(none))))=some (r1,r2):=h;clear h;replace H:=bd H;obtain⟨Ph,A3,H⟩:=H;replace H:=sd H;rcases H with⟨oG,H⟩|⟨oG,H⟩
 ·simp only[Option.some.injEq,Prod.mk.injEq]at H;obtain⟨rfl,rfl⟩:=H;go_enter func64,ntmps64;go_wp2_with (first|(refine gL 97 9 func97 #[.slice A0 l0.length c0, .string a1] ?_;(with_reducible refine(mg.calls k _ _ l0 a1 Ph _ (cu HR0.out) sK.out A3.out).mono ?_);rintro e w5 ⟨rfl,hb⟩;refine⟨_,rfl,?_⟩;replace HB:=bs HB hb;(try clear hb)))
  go_ret2;exact⟨er,ul HB.out⟩
 ·replace H:=oL H;obtain⟨mG,H⟩:=H;replace H:=oL H;obtain⟨qp,H⟩:=H;simp only[Option.some.injEq,Prod.mk.injEq]at H;obtain⟨rfl,rfl⟩:=H;go_enter func64,ntmps64;go_wp2_with (first|(refine gL 97 9 func97 #[.slice A0 l0.length c0, .string a1] ?_;(with_reducible refine(mg.calls k _ _ l0 a1 Ph _ (cu HR0.out) sK.out A3.out).mono ?_);rintro e w8 ⟨rfl,hb⟩;refine⟨_,rfl,?_⟩;replace HB:=bs HB hb;(try clear hb);have avn:0≤(Ph:Int):=of_decide_eq_true (by assumption);have avo:Ph<(l0.length:Int):=of_decide_eq_true (by assumption);obtain⟨aKW,aHz,aap,aaq⟩:=oC HR0.out Ph avn avo;cases aHz;replace aap:=(HB.out.cell (World.block_lt_of_cell? w _ aap)).trans aap;replace aaq:=(HB.out.cell (World.block_lt_of_cell? w _ aaq)).trans aaq;replace avn:=eq_true avn;replace avo:=eq_true avo))
  go_ret2;exact⟨er,ul HB.out⟩
def strings_Cut.f(a0:ByteArray)(a1:ByteArray):Option (ByteArray×ByteArray×Bool):=if a0.size<4294967281 then some (⟨(Lib.cut a0.data.toList a1.data.toList).1.toArray⟩,⟨(Lib.cut a0.data.toList a1.data.toList).2.1.toArray⟩,(Lib.cut a0.data.toList a1.data.toList).2.2)else none
theorem strings_Cut.calls(a0 a1:ByteArray)(r1 r2:ByteArray)(r3:Bool)(w:World)(oP:MaxOk w)(h:strings_Cut.f a0 a1=some (r1,r2,r3)):
  Calls Tryz.prog 61 #[.string a0, .string a1] w fun e w'=>e= .returned (.tuple #[.string r1, .string r2, .bool r3])∧fZ w w':=by
 unfold strings_Cut.f at h;split at h
 ·rename_i hs
  injection h with h;injection h with h1 h;injection h with h2 h3;subst h1;subst h2;subst h3;obtain⟨m,hm⟩:=oP;exact(Tryz.strings_Cut a0 a1 m w hs hm).mono fun e w' ⟨he,n,hn⟩=>⟨he,⟨⟨n,hn⟩⟩⟩
 ·cases h
def kC.f(a0:ByteArray)(a1:ByteArray):Option (ByteArray):=if a1.data.toList=[32]then(if a0.size≤9223372036854775807 then some ⟨(Lib.trimB a0.data.toList 32).toArray⟩else none)else none
theorem kC.calls(a0 a1:ByteArray)(r:ByteArray)(w:World)(h:kC.f a0 a1=some r):
  Calls Tryz.prog 62 #[.string a0, .string a1] w fun e w'=>e= .returned (.string r)∧fZ w w':=by
 unfold kC.f at h;split at h
 ·rename_i h1
  split at h
  ·rename_i hs
   injection h with h;subst h
   have e1:a1=⟨#[32]⟩:=by
    cases a1 with
    |mk d=>exact congrArg ByteArray.mk (Array.toList_inj.mp h1)
   subst e1;refine(Tryz.strings_Trim_one a0 32 (by decide) w hs).mono ?_;rintro e w' ⟨he,hw⟩;refine⟨he,?_⟩;rcases hw with rfl|rfl
   ·exact⟨⟨0,rfl⟩⟩
   ·exact⟨⟨1,rfl⟩⟩
  ·cases h
 ·cases h
def bU.l0:Nat→ByteArray→Int→Int→Option (Bool)
 |0,_,_,_=>none
 |k+1,x0,x5,x6=>if x6<x5 then(if 0≤x6 then(if x6<(x0.size:Int)then(if(bt x0 x6)<32 then(some false)else(if(bt x0 x6)>126 then(some false)else(bU.l0 k x0 x5 (wrap64 (x6+1)))))else(none))else(none))else(some (decide ((x0.size:Int)≤200)))
def bU.f(k:Nat)(a0:ByteArray):Option (Bool):=bU.l0 k a0 (a0.size:Int) 0
set_option maxHeartbeats 8000000 in
set_option maxRecDepth 100000 in
theorem bU.calls(k:Nat)(a0:ByteArray)(r:Bool)(w:World)(h:bU.f k a0=some r):
  Calls Tryz.prog 75 #[.string a0] w fun e w'=>e= .returned (.bool r)∧fZ w w':=by
 have H:(bU.l0 k a0 (a0.size:Int) 0)=some r:=h;clear h;have H':=ak H;clear H;go_enter func75,ntmps75;go_wp2;go_loopg [6] k (fun kq v6 w'=>∃(iJ:Int),v6= .int .i64 iJ∧ay (bU.l0 kq a0 (a0.size:Int) iJ=some r)∧ay (kq≤k)∧fZ w w')
 case atStart=>exact⟨(0),rs,H',⟨Nat.le_refl _⟩,dn⟩
 case round=>
  clear H';obtain⟨iJ,rfl,HA,iM,⟨m1,rfl⟩⟩:=hrel
  cases gk with
  |zero=>exact absurd HA.out (by simp[bU.l0])
  |succ k1=>
   have H:=HA.out;clear HA;simp only[bU.l0]at H;replace H:=sd H;rcases H with⟨zY,H⟩|⟨zY,H⟩
   ·replace H:=oL H;obtain⟨iK,H⟩:=H;replace H:=oL H;obtain⟨oG,H⟩:=H;replace H:=sd H;rcases H with⟨mG,H⟩|⟨mG,H⟩
    ·obtain rfl:=Option.some.inj H;obtain⟨p5,q5,hx5⟩:=bx a0 iJ;go_wp2;go_ret;exact⟨rs,dn⟩
    ·replace H:=sp H;rcases H with⟨c8,H⟩|⟨c8,H⟩
     ·have rV:decide (126<(bt a0 iJ))=true:=decide_eq_true c8;clear c8;obtain rfl:=Option.some.inj H;obtain⟨p5,q5,hx5⟩:=bx a0 iJ;obtain⟨p7,q7,hx7⟩:=bx a0 iJ;go_wp2;go_ret;exact⟨rs,dn⟩
     ·have rV:decide (126<(bt a0 iJ))=false:=decide_eq_false c8;clear c8;have H':=ak H;clear H;obtain⟨p5,q5,hx5⟩:=bx a0 iJ;obtain⟨p7,q7,hx7⟩:=bx a0 iJ;go_wp2;go_roundg k1
      case measure=>have:=iM.out;omega
      case rel=>exact⟨(wrap64 (iJ+1)),rs,H',⟨by have:=iM.out;omega⟩,dn⟩
   ·obtain rfl:=Option.some.inj H;go_wp2;go_ret;exact⟨rs,dn⟩
def jT.l0:Nat→ByteArray→List Int→Int→Option (ByteArray×Int×Bool)
 |0,_,_,_=>none
 |k+1,x0,x5,x6=>if x6<(x0.size:Int)then(if 0≤x6 then(if(bt x0 x6)=34 then(some (strOfNums x5,wrap64 (x6+1),true))else(if(bt x0 x6)=92 then(if(wrap64 (x6+1))=(x0.size:Int)then(some ((⟨#[]⟩:ByteArray),0,false))else(if 0≤(wrap64 (x6+1))then(if(wrap64 (x6+1))<(x0.size:Int)then(if x5.length<140737488355328 then(jT.l0 k x0 (x5++[bt x0 (wrap64 (x6+1))]) (wrap64 ((wrap64 (x6+1))+1)))else(none))else(none))else(none)))else(if x5.length<140737488355328 then(jT.l0 k x0 (x5++[bt x0 x6]) (wrap64 (x6+1)))else(none))))else(none))else(some ((⟨#[]⟩:ByteArray),0,false))
def jT.f(k:Nat)(a0:ByteArray):Option (ByteArray×Int×Bool):=jT.l0 k a0 (([]:List Int)) 1
set_option maxHeartbeats 8000000 in
set_option maxRecDepth 100000 in
theorem jT.calls(k:Nat)(a0:ByteArray)(r1:ByteArray)(r2:Int)(r3:Bool)(w:World)(h:jT.f k a0=some (r1,r2,r3)):
  Calls Tryz.prog 130 #[.string a0] w fun e w'=>e= .returned (.tuple #[.string r1, .int .i64 r2, .bool r3])∧Below w.heap.size w w':=by
 have HB:=ak (Below.refl w.heap.size w);have H:(jT.l0 k a0 (([]:List Int)) 1)=some (r1,r2,r3):=h;clear h;obtain⟨aHA,aj6⟩:=nm ([]:List Int);rw[←aj6.out]at H
 (try rw[Option.bind_some]at H);have H':=ak H;clear H;go_enter func130,ntmps130;go_wp2_with (first|((with_reducible refine bG (N:=7) rfl ?_);refine nD (Kd.int .u8) _ 5 ?hg (N:=7) ?hd (xs:=([]:List Int)) (inner:=[]) (ok:=fun _=>True) (oO:=fun _=>True) ?hr ?hp (fun _ hk=>hk) trivial (Below.refl _ _) (Nat.le_refl _) (by simp) ?_;(case hd=>rfl);(case hg=>rfl);(case hr=>first|(go_simp;done)|(go_simp;rfl));(case hp=>exact(iW.none _ _));intro aNP w2 ho3 hb oP gY;clear oP gY;(first|rw[←aj6.out]at ho3|(simp only[Int.reduceToNat]at ho3;rw[←aj6.out]at ho3));have ayL:=ak (bQ ho3 (aA (ul HB.out)));replace HB:=bs HB hb;clear hb ho3))
 go_loopg [5,6] k (fun kq v5 v6 w'=>∃(aQ:List Int) (iJ:Int),v6= .int .i64 iJ∧ay (jT.l0 kq a0 aQ iJ=some (r1,r2,r3))∧ay (kq≤k)∧ay (Kd.R (Kd.int .u8) 5 w' w.heap.size (fun _=>True) v5 aQ)∧ay (Below w.heap.size w w'))
 case atStart=>exact⟨(aHA),(1),rs,H',⟨Nat.le_refl _⟩,⟨ur ayL.out⟩,⟨ul HB.out⟩⟩
 case round=>
  clear H';try clear c1
  try clear p2
  obtain⟨aQ,iJ,rfl,HA,iM,vZ,HB⟩:=hrel
  cases gk with
  |zero=>exact absurd HA.out (by simp[jT.l0])
  |succ k1=>
   have H:=HA.out;clear HA;simp only[jT.l0]at H;replace H:=sd H;rcases H with⟨oG,H⟩|⟨oG,H⟩
   ·replace H:=oL H;obtain⟨o_,H⟩:=H;replace H:=sq H;rcases H with⟨qp,D_,H⟩|⟨c7,qp,D_,H⟩
    ·simp only[Option.some.injEq,Prod.mk.injEq]at H;obtain⟨rfl,rfl,rfl⟩:=H;obtain⟨p6,q6,hx6⟩:=bx a0 iJ;have aNQ:=FV (P:=Tryz.prog) underlying77 underlying5 underlying9 (FW vZ.out);go_wp2;go_ret3;exact⟨er,ul HB.out⟩
    ·replace H:=sq H;rcases H with⟨rW,xk,H⟩|⟨c10,rW,xk,H⟩
     ·replace H:=sq H;rcases H with⟨yC,LZ,H⟩|⟨c11,yC,LZ,H⟩
      ·simp only[Option.some.injEq,Prod.mk.injEq]at H;obtain⟨rfl,rfl,rfl⟩:=H;obtain⟨p6,q6,hx6⟩:=bx a0 iJ;obtain⟨p9,q9,hx9⟩:=bx a0 iJ;go_wp2;go_ret3;exact⟨er,ul HB.out⟩
      ·obtain⟨Y9,Zu⟩:∃j_:Int,(wrap64 (iJ+1))=j_:=⟨_,rfl⟩
       replace H:(if 0≤(Y9)then(if(Y9)<(a0.size:Int)then(if aQ.length<140737488355328 then(jT.l0 k1 a0 (aQ++[bt a0 (Y9)]) (wrap64 ((Y9)+1)))else(none))else(none))else(none))=some (r1,r2,r3):=by first|(rw[Zu]at H;exact H)|(simp only[Zu]at H⊢;exact H)
       (try rw[Zu]at yC)
       (try rw[Zu]at LZ);have aHB:(IntKind.i64.wrap (iJ+1))=Y9:=(bf _).trans Zu;replace H:=oL H;obtain⟨vJ,H⟩:=H;replace H:=oL H;obtain⟨tH,H⟩:=H;replace H:=nl H;obtain⟨aj7,H⟩:=H;obtain⟨aHC,asw⟩:=nm (aQ++[bt a0 (Y9)]);rw[←asw.out]at H
       (try rw[Option.bind_some]at H);have H':=ak H;clear H;obtain⟨p6,q6,hx6⟩:=bx a0 iJ;obtain⟨p9,q9,hx9⟩:=bx a0 iJ;obtain⟨p15,q15,aHD⟩:=bx a0 (Y9);go_wp2_with (first|((with_reducible refine bM (b:= .append) (xs:=#[.tmp 34, .tmp 38]) rfl ?_);at_builtin;refine iT (Kd.int .u8) (w0:=w) w.heap.size rfl (.tmp 34) (.tmp 38) 77 5 (.int .u8 0) 1 rfl underlying77 info5 rfl (by decide) (by omega) u5 aQ (bt a0 (Y9)) [.int .u8 (bt a0 (Y9))] (fun _=>True) (fun _=>False) rfl rfl ?aP (fun _ hk=>hk.elim) ?aF ?aO ?aB ?aS ?aL ?_;(case aP=>exact rfl);(case aB=>exact(ul HB.out));(case aF=>exact(fun _ _=>trivial));(case aO=>exact(ur vZ.out));(case aS=>exact(aA (ul HB.out)));(case aL=>have:=aj7.out;omega);intro aNR w17 ho hb hg hat;rw[←asw.out]at ho;have iE:=ak (hb);have iF:=ak (ho);clear HB;clear vZ;have HB:=iE;have ayM:=iF;clear iE iF;clear ho hb hg hat))
       go_roundg k1
       case measure=>have:=iM.out;omega
       case rel=>exact⟨(aHC),(wrap64 ((Y9)+1)),(by first|rfl|(simp;done)|(simp only[←Zu]<;>(first|rfl|simp))|(simp[*];done)),H',⟨by have:=iM.out;omega⟩,⟨ur ayM.out⟩,⟨ul HB.out⟩⟩
     ·replace H:=nl H;obtain⟨acE,H⟩:=H;obtain⟨aHE,asx⟩:=nm (aQ++[bt a0 iJ]);rw[←asx.out]at H
      (try rw[Option.bind_some]at H);have H':=ak H;clear H;obtain⟨p6,q6,hx6⟩:=bx a0 iJ;obtain⟨p9,q9,hx9⟩:=bx a0 iJ;obtain⟨p18,q18,ayN⟩:=bx a0 iJ;go_wp2_with (first|((with_reducible refine bM (b:= .append) (xs:=#[.tmp 34, .tmp 38]) rfl ?_);at_builtin;refine iT (Kd.int .u8) (w0:=w) w.heap.size rfl (.tmp 34) (.tmp 38) 77 5 (.int .u8 0) 1 rfl underlying77 info5 rfl (by decide) (by omega) u5 aQ (bt a0 iJ) [.int .u8 (bt a0 iJ)] (fun _=>True) (fun _=>False) rfl rfl ?aP (fun _ hk=>hk.elim) ?aF ?aO ?aB ?aS ?aL ?_;(case aP=>exact rfl);(case aB=>exact(ul HB.out));(case aF=>exact(fun _ _=>trivial));(case aO=>exact(ur vZ.out));(case aS=>exact(aA (ul HB.out)));(case aL=>have:=acE.out;omega);intro aNS w20 ho hb hg hat;rw[←asx.out]at ho;have iE:=ak (hb);have iF:=ak (ho);clear HB;clear vZ;have HB:=iE;have ayO:=iF;clear iE iF;clear ho hb hg hat))
      go_roundg k1
      case measure=>have:=iM.out;omega
      case rel=>exact⟨(aHE),(wrap64 (iJ+1)),rs,H',⟨by have:=iM.out;omega⟩,⟨ur ayO.out⟩,⟨ul HB.out⟩⟩
   ·simp only[Option.some.injEq,Prod.mk.injEq]at H;obtain⟨rfl,rfl,rfl⟩:=H;go_wp2;go_ret3;exact⟨er,ul HB.out⟩
def kQ.l0:Nat→ByteArray→Int→Int→Option (Int)
 |0,_,_,_=>none
 |k+1,x0,x1,x5=>if x5<(x0.size:Int)then(if 0≤x5 then(if(bt x0 x5)=34 then(if x5≤(x0.size:Int)then((jT.f k (x0.extract (x5:Int).toNat x0.size)).bind fun asy=>(if asy.2.2=true then(kQ.l0 k x0 x1 (wrap64 ((wrap64 (x5+(wrap64 (asy.2.1-1))))+1)))else(some (-1))))else(none))else(if(bt x0 x5)=x1 then(some x5)else(kQ.l0 k x0 x1 (wrap64 (x5+1)))))else(none))else(some (-1))
def kQ.f(k:Nat)(a0:ByteArray)(a1:Int):Option (Int):=kQ.l0 k a0 a1 0
set_option maxHeartbeats 8000000 in
set_option maxRecDepth 100000 in
theorem kQ.calls(k:Nat)(a0:ByteArray)(a1:Int)(r:Int)(w:World)(h:kQ.f k a0 a1=some r):
  Calls Tryz.prog 129 #[.string a0, .int .u8 a1] w fun e w'=>e= .returned (.int .i64 r)∧Below w.heap.size w w':=by
 have HB:=ak (Below.refl w.heap.size w);have H:(kQ.l0 k a0 a1 0)=some r:=h;clear h;have H':=ak H;clear H;go_enter func129,ntmps129;go_wp2;go_loopg [5] k (fun kq v5 w'=>∃(aQ:Int),v5= .int .i64 aQ∧ay (kQ.l0 kq a0 a1 aQ=some r)∧ay (kq≤k)∧ay (Below w.heap.size w w'))
 case atStart=>exact⟨(0),rs,H',⟨Nat.le_refl _⟩,⟨ul HB.out⟩⟩
 case round=>
  clear H';try clear c1
  try clear p2
  obtain⟨aQ,rfl,HA,iM,HB⟩:=hrel
  cases gk with
  |zero=>exact absurd HA.out (by simp[kQ.l0])
  |succ k1=>
   have H:=HA.out;clear HA;simp only[kQ.l0]at H;replace H:=sd H;rcases H with⟨iK,H⟩|⟨iK,H⟩
   ·replace H:=oL H;obtain⟨oG,H⟩:=H;replace H:=sq H;rcases H with⟨mG,B_,H⟩|⟨c6,mG,B_,H⟩
    ·have qp:=eq_true (of_decide_eq_true (by assumption):0≤aQ);replace H:=Fe H;obtain⟨rV,G7,H⟩:=H;replace H:=bd H;obtain⟨⟨ayP,avp,aNT⟩,A9,H⟩:=H
     (try dsimp only at H);replace H:=sb H;rcases H with⟨rfl,H⟩|⟨rfl,H⟩
     ·have H':=ak H;clear H;obtain⟨p5,q5,hx5⟩:=bx a0 aQ;go_wp2_with (first|(refine gL 130 24 func130 #[.string (a0.extract (aQ:Int).toNat a0.size)] ?_;(with_reducible refine(jT.calls k1 (a0.extract (aQ:Int).toNat a0.size) ayP avp true _ A9.out).mono ?_);rintro e Uy ⟨rfl,hb⟩;refine⟨_,rfl,?_⟩;replace HB:=bs HB hb;(try clear hb)))
      go_roundg k1
      case measure=>have:=iM.out;omega
      case rel=>exact⟨(wrap64 ((wrap64 (aQ+(wrap64 (avp-1))))+1)),rs,H',⟨by have:=iM.out;omega⟩,⟨ul HB.out⟩⟩
     ·obtain rfl:=Option.some.inj H;obtain⟨p5,q5,hx5⟩:=bx a0 aQ;go_wp2_with (first|(refine gL 130 24 func130 #[.string (a0.extract (aQ:Int).toNat a0.size)] ?_;(with_reducible refine(jT.calls k1 (a0.extract (aQ:Int).toNat a0.size) ayP avp false _ A9.out).mono ?_);rintro e w12 ⟨rfl,hb⟩;refine⟨_,rfl,?_⟩;replace HB:=bs HB hb;(try clear hb)))
      go_ret;exact⟨er,ul HB.out⟩
    ·replace H:=sq H;rcases H with⟨vJ,BP,H⟩|⟨c13,vJ,BP,H⟩
     ·obtain rfl:=Option.some.inj H;obtain⟨p5,q5,hx5⟩:=bx a0 aQ;go_wp2;go_ret;exact⟨er,ul HB.out⟩
     ·have H':=ak H;clear H;obtain⟨p5,q5,hx5⟩:=bx a0 aQ;go_wp2;go_roundg k1
      case measure=>have:=iM.out;omega
      case rel=>exact⟨(wrap64 (aQ+1)),rs,H',⟨by have:=iM.out;omega⟩,⟨ul HB.out⟩⟩
   ·obtain rfl:=Option.some.inj H;go_wp2;go_ret;exact⟨er,ul HB.out⟩
def dZ.l0:Nat→ByteArray→Int→List ByteArray→Option (List ByteArray)
 |0,_,_,_=>none
 |k+1,x0,x1,x5=>(kQ.f k x0 x1).bind fun Pj=>(if Pj<0 then(if x5.length<8796093022208 then(some (x5++[x0]))else(none))else(if 0≤Pj then(if Pj≤(x0.size:Int)then(if x5.length<8796093022208 then(if 0≤(wrap64 (Pj+1))then(if(wrap64 (Pj+1))≤(x0.size:Int)then(dZ.l0 k (x0.extract ((wrap64 (Pj+1)):Int).toNat x0.size) x1 (x5++[x0.extract 0 (Pj:Int).toNat]))else(none))else(none))else(none))else(none))else(none)))
def dZ.f(k:Nat)(a0:ByteArray)(a1:Int):Option (List ByteArray):=dZ.l0 k a0 a1 (([]:List ByteArray))
set_option maxHeartbeats 8000000 in
set_option maxRecDepth 100000 in
theorem dZ.calls(k:Nat)(a0:ByteArray)(a1:Int)(r:List ByteArray)(w:World)(h:dZ.f k a0 a1=some r):
  Calls Tryz.prog 98 #[.string a0, .int .u8 a1] w fun e w'=>∃sZ:Value,e= .returned (sZ)∧Kd.R Kd.string 9 w' w.heap.size (fun _=>True) sZ r∧Below w.heap.size w w':=by
 have HB:=ak (Below.refl w.heap.size w);have H:(dZ.l0 k a0 a1 (([]:List ByteArray)))=some r:=h;clear h;obtain⟨aHF,aj9⟩:=nm ([]:List ByteArray);rw[←aj9.out]at H
 (try rw[Option.bind_some]at H);have H':=ak H;clear H;go_enter func98,ntmps98;go_wp2_with (first|((with_reducible refine bG (N:=7) rfl ?_);refine nD Kd.string _ 9 ?hg (N:=7) ?hd (xs:=([]:List ByteArray)) (inner:=[]) (ok:=fun _=>True) (oO:=fun _=>True) ?hr ?hp (fun _ hk=>hk) trivial (Below.refl _ _) (Nat.le_refl _) (by simp) ?_;(case hd=>rfl);(case hg=>rfl);(case hr=>first|(go_simp;done)|(go_simp;rfl));(case hp=>exact(iW.none _ _));intro aNU w3 ho4 hb oP gY;clear oP gY;(first|rw[←aj9.out]at ho4|(simp only[Int.reduceToNat]at ho4;rw[←aj9.out]at ho4));have ayQ:=ak (bQ ho4 (aA (ul HB.out)));replace HB:=bs HB hb;clear hb ho4))
 go_loopg [0,5] k (fun kq v0 v5 w'=>∃(kD:ByteArray) (aQ:List ByteArray),v0= .string kD∧ay (dZ.l0 kq kD a1 aQ=some r)∧ay (kq≤k)∧ay (Kd.R Kd.string 9 w' w.heap.size (fun _=>True) v5 aQ)∧ay (Below w.heap.size w w'))
 case atStart=>exact⟨(a0),(aHF),rs,H',⟨Nat.le_refl _⟩,⟨ur ayQ.out⟩,⟨ul HB.out⟩⟩
 case round=>
  clear H';try clear p2
  obtain⟨kD,aQ,rfl,HA,iM,vZ,HB⟩:=hrel
  cases gk with
  |zero=>exact absurd HA.out (by simp[dZ.l0])
  |succ k1=>
   have H:=HA.out;clear HA;simp only[dZ.l0]at H;replace H:=bd H;obtain⟨Pj,A5,H⟩:=H;replace H:=sd H;rcases H with⟨mG,H⟩|⟨mG,H⟩
   ·replace H:=nl H;obtain⟨avr,H⟩:=H;obtain⟨aNV,asz⟩:=nm (aQ++[kD]);rw[←asz.out]at H
    (try rw[Option.bind_some]at H);obtain rfl:=Option.some.inj H;go_wp2_with (first|(refine gL 129 10 func129 #[.string kD, .int .u8 a1] ?_;(with_reducible refine(kQ.calls k1 kD a1 Pj _ A5.out).mono ?_);rintro e w8 ⟨rfl,hb⟩;refine⟨_,rfl,?_⟩;replace vZ:=rb vZ hb;replace HB:=bs HB hb;(try clear hb))|((with_reducible refine bM (b:= .append) (xs:=#[.tmp 13, .tmp 15]) rfl ?_);at_builtin;refine iT Kd.string (w0:=w) w.heap.size rfl (.tmp 13) (.tmp 15) 23 9 (.string ⟨#[]⟩) 16 rfl underlying23 info9 rfl (by decide) (by omega) u5 aQ kD [.string kD] (fun _=>True) (fun _=>False) rfl rfl ?aP (fun _ hk=>hk.elim) ?aF ?aO ?aB ?aS ?aL ?_;(case aP=>exact rfl);(case aB=>exact(ul HB.out));(case aF=>exact(fun _ _=>trivial));(case aO=>exact(ur vZ.out));(case aS=>exact(aA (ul HB.out)));(case aL=>have:=avr.out;omega);intro aNW w9 ho hb hg hat;rw[←asz.out]at ho;have iE:=ak (hb);have iF:=ak (ho);clear HB;clear vZ;have HB:=iE;have ayR:=iF;clear iE iF;clear ho hb hg hat))
    go_ret;exact⟨_,er,ur ayR.out,ul HB.out⟩
   ·replace H:=Fe H;obtain⟨rW,xk,H⟩:=H;replace H:=Fe H;obtain⟨yC,LZ,H⟩:=H;replace H:=nl H;obtain⟨aj_,H⟩:=H;obtain⟨ayS,asA⟩:=nm (aQ++[kD.extract 0 (Pj:Int).toNat]);rw[←asA.out]at H
    (try rw[Option.bind_some]at H);obtain⟨xU,yD⟩:∃j_:Int,(wrap64 (Pj+1))=j_:=⟨_,rfl⟩
    replace H:(if 0≤(xU)then(if(xU)≤(kD.size:Int)then(dZ.l0 k1 (kD.extract ((xU):Int).toNat kD.size) a1 ayS)else(none))else(none))=some r:=by first|(rw[yD]at H;exact H)|(simp only[yD]at H⊢;exact H)
    (try rw[yD]at A5);have akb:(IntKind.i64.wrap (Pj+1))=xU:=(bf _).trans yD;replace H:=Fe H;obtain⟨tH,xq,H⟩:=H;replace H:=Fe H;obtain⟨uy,FX,H⟩:=H;have H':=ak H;clear H;try go_wp2_with (first|(refine gL 129 10 func129 #[.string kD, .int .u8 a1] ?_;(with_reducible refine(kQ.calls k1 kD a1 Pj _ A5.out).mono ?_);rintro e w16 ⟨rfl,hb⟩;refine⟨_,rfl,?_⟩;replace vZ:=rb vZ hb;replace HB:=bs HB hb;(try clear hb)))
    replace vZ:=ak (Ai vZ.out);replace HB:=ak (eG HB.out);refine ro [4,5] [0,1,2,3,6,7,8,9,4,5,10,11] (fun w'=>True) trivial ?_
    generalize w16.drew=w17 at vZ HB⊢
    repeat(refine lk (v:=?_) (a':=?_) (gk.trans rfl) rfl rfl ?_ ?_ ?_;rotate_left;(focus (intro w' _;go_simp;with_reducible rfl));rotate_left;(focus (simp only[Act.put,jI,jJ,l_c,bf,bD];rfl)))
    refine ld (N:=some 21) (gk.trans rfl) rfl rfl (fun K hK=>?_);refine aar (w1:=?_) (v:=?_) (by rfl) rfl ?_ ?_
    rotate_left 2
    ·go_simp;constructor
     ·rfl
     ·rfl
    refine hK.out _ _ trivial ?_;clear hK K;refine no (a':=?_) ?_ ?_
    rotate_left
    ·show Act.put _ (some 21) _=_
     simp only[Act.put,jI,jJ,l_c,bf,bD];rfl
    refine ld (N:=some 22) (gk.trans rfl) rfl rfl (fun K hK=>?_);refine yT Kd.string (w0:=w) w.heap.size (by rfl) (.tmp 17) (.tmp 21) 23 9 (.string ⟨#[]⟩) 16 rfl underlying23 info9 rfl (by decide) (by omega) u5 aQ (kD.extract 0 (Pj:Int).toNat) [.string (kD.extract 0 (Pj:Int).toNat)] (fun _=>True) (fun _=>False) rfl rfl ?aP (fun _ hk=>hk.elim) ?aF ?aO ?aB ?aS ?aL ?_
    (case aP=>exact rfl)
    (case aB=>exact(ul HB.out))
    (case aF=>exact(fun _ _=>trivial))
    (case aO=>exact(ur vZ.out))
    (case aS=>exact(aA (ul HB.out)))
    (case aL=>have:=aj_.out;omega);intro aNX w18 ho hb hg hat
    rw[←asA.out]at ho;have iE:=ak (hb);have iF:=ak (ho);clear HB vZ;have HB:=iE;have ayT:=iF;clear iE iF ho hb hg hat
    refine hK.out _ _ trivial ?_;clear hK K;refine no (a':=?_) ?_ ?_
    rotate_left
    ·show Act.put _ (some 22) _=_
     simp only[Act.put,jI,jJ,l_c,bf,bD];rfl
    repeat(refine lk (v:=?_) (a':=?_) (gk.trans rfl) rfl rfl ?_ ?_ ?_;rotate_left;(focus (intro w' _;go_simp;with_reducible rfl));rotate_left;(focus (simp only[Act.put,jI,jJ,l_c,bf,bD];rfl)))
    refine on ?_;try go_wp2
    go_roundg k1
    case measure=>have:=iM.out;omega
    case rel=>exact⟨(kD.extract ((xU):Int).toNat kD.size),(ayS),(by first|rfl|(simp;done)|(simp only[←yD]<;>(first|rfl|simp))|(simp[*];done)),H',⟨by have:=iM.out;omega⟩,⟨ur ayT.out⟩,⟨ul HB.out⟩⟩
def dD.f(a0:Int):Option (Bool):=if a0≥97 then(if a0≤122 then(some true)else(if a0≥65 then(some (decide (a0≤90)))else(some false)))else(if a0≥65 then(some (decide (a0≤90)))else(some false))
set_option maxHeartbeats 8000000 in
set_option maxRecDepth 100000 in
theorem dD.calls(a0:Int)(r:Bool)(w:World)(h:dD.f a0=some r):
  Calls Tryz.prog 104 #[.int .u8 a0] w fun e w'=>e= .returned (.bool r)∧fZ w w':=by
 have H:(if a0≥97 then(if a0≤122 then(some true)else(if a0≥65 then(some (decide (a0≤90)))else(some false)))else(if a0≥65 then(some (decide (a0≤90)))else(some false)))=some r:=h;clear h;replace H:=sp H;rcases H with⟨c2,H⟩|⟨c2,H⟩
 ·have zY:decide (97≤a0)=true:=decide_eq_true c2;clear c2;replace H:=sd H;rcases H with⟨iK,H⟩|⟨iK,H⟩
  ·obtain rfl:=Option.some.inj H;go_enter func104,ntmps104;go_wp2;go_ret;exact⟨rs,dn⟩
  ·replace H:=sp H;rcases H with⟨c4,H⟩|⟨c4,H⟩
   ·have oG:decide (65≤a0)=true:=decide_eq_true c4;clear c4;obtain rfl:=Option.some.inj H;go_enter func104,ntmps104;go_wp2;go_ret;exact⟨rs,dn⟩
   ·have oG:decide (65≤a0)=false:=decide_eq_false c4;clear c4;obtain rfl:=Option.some.inj H;go_enter func104,ntmps104;go_wp2;go_ret;exact⟨rs,dn⟩
 ·have zY:decide (97≤a0)=false:=decide_eq_false c2;clear c2;replace H:=sp H;rcases H with⟨c5,H⟩|⟨c5,H⟩
  ·have o_:decide (65≤a0)=true:=decide_eq_true c5;clear c5;obtain rfl:=Option.some.inj H;go_enter func104,ntmps104;go_wp2;go_ret;exact⟨rs,dn⟩
  ·have o_:decide (65≤a0)=false:=decide_eq_false c5;clear c5;obtain rfl:=Option.some.inj H;go_enter func104,ntmps104;go_wp2;go_ret;exact⟨rs,dn⟩
def eu.f(a0:Int):Option (Bool):=if a0≥48 then(some (decide (a0≤57)))else(some false)
set_option maxHeartbeats 8000000 in
set_option maxRecDepth 100000 in
theorem eu.calls(a0:Int)(r:Bool)(w:World)(h:eu.f a0=some r):
  Calls Tryz.prog 105 #[.int .u8 a0] w fun e w'=>e= .returned (.bool r)∧fZ w w':=by
 have H:(if a0≥48 then(some (decide (a0≤57)))else(some false))=some r:=h;clear h;replace H:=sp H;rcases H with⟨c2,H⟩|⟨c2,H⟩
 ·have zY:decide (48≤a0)=true:=decide_eq_true c2;clear c2;obtain rfl:=Option.some.inj H;go_enter func105,ntmps105;go_wp2;go_ret;exact⟨rs,dn⟩
 ·have zY:decide (48≤a0)=false:=decide_eq_false c2;clear c2;obtain rfl:=Option.some.inj H;go_enter func105,ntmps105;go_wp2;go_ret;exact⟨rs,dn⟩
def mP.f(a0:Int):Option (Bool):=(dD.f a0).bind fun aoD=>(if aoD=true then(some true)else((eu.f a0).bind fun aoE=>(if aoE=true then(some true)else(if a0=33 then(some true)else(if a0≥35 then(if a0≤39 then(some true)else(if a0=42 then(some true)else(if a0=43 then(some true)else(if a0=45 then(some true)else(if a0=47 then(some true)else(if a0=61 then(some true)else(if a0=63 then(some true)else(if a0≥94 then(if a0≤96 then(some true)else(if a0≥123 then(some (decide (a0≤126)))else(some false)))else(if a0≥123 then(some (decide (a0≤126)))else(some false))))))))))else(if a0=42 then(some true)else(if a0=43 then(some true)else(if a0=45 then(some true)else(if a0=47 then(some true)else(if a0=61 then(some true)else(if a0=63 then(some true)else(if a0≥94 then(if a0≤96 then(some true)else(if a0≥123 then(some (decide (a0≤126)))else(some false)))else(if a0≥123 then(some (decide (a0≤126)))else(some false))))))))))))))
set_option maxHeartbeats 8000000 in
set_option maxRecDepth 100000 in
theorem mP.calls(a0:Int)(r:Bool)(w:World)(h:mP.f a0=some r):
  Calls Tryz.prog 131 #[.int .u8 a0] w fun e w'=>e= .returned (.bool r)∧fZ w w':=by
 have H:((dD.f a0).bind fun aoD=>(if aoD=true then(some true)else((eu.f a0).bind fun aoE=>(if aoE=true then(some true)else(if a0=33 then(some true)else(if a0≥35 then(if a0≤39 then(some true)else(if a0=42 then(some true)else(if a0=43 then(some true)else(if a0=45 then(some true)else(if a0=47 then(some true)else(if a0=61 then(some true)else(if a0=63 then(some true)else(if a0≥94 then(if a0≤96 then(some true)else(if a0≥123 then(some (decide (a0≤126)))else(some false)))else(if a0≥123 then(some (decide (a0≤126)))else(some false))))))))))else(if a0=42 then(some true)else(if a0=43 then(some true)else(if a0=45 then(some true)else(if a0=47 then(some true)else(if a0=61 then(some true)else(if a0=63 then(some true)else(if a0≥94 then(if a0≤96 then(some true)else(if a0≥123 then(some (decide (a0≤126)))else(some false)))else(if a0≥123 then(some (decide (a0≤126)))else(some false)))))))))))))))=some r:=h;clear h;replace H:=bd H;obtain⟨aoD,A2,H⟩:=H;replace H:=sb H;rcases H with⟨rfl,H⟩|⟨rfl,H⟩
 ·obtain rfl:=Option.some.inj H;go_enter func131,ntmps131;go_wp2_with (first|(refine gL 104 4 func104 #[.int .u8 a0] ?_;(with_reducible refine(dD.calls a0 true _ A2.out).mono ?_);rintro e w' ⟨rfl,⟨nd,rfl⟩⟩;refine⟨_,rfl,?_⟩))
  go_ret;exact⟨rs,dn⟩
 ·replace H:=bd H;obtain⟨aoE,A4,H⟩:=H;replace H:=sb H;rcases H with⟨rfl,H⟩|⟨rfl,H⟩
  ·obtain rfl:=Option.some.inj H;go_enter func131,ntmps131;go_wp2_with (first|(refine gL 104 4 func104 #[.int .u8 a0] ?_;(with_reducible refine(dD.calls a0 false _ A2.out).mono ?_);rintro e w' ⟨rfl,⟨nd,rfl⟩⟩;refine⟨_,rfl,?_⟩)|(go_at_call 105;(with_reducible refine(eu.calls a0 true _ A4.out).mono ?_);rintro e w' ⟨rfl,⟨nd,rfl⟩⟩))
   go_ret;exact⟨rs,dn⟩
  ·replace H:=sq H;rcases H with⟨mG,B_,H⟩|⟨c6,mG,B_,H⟩
   ·obtain rfl:=Option.some.inj H;go_enter func131,ntmps131;go_wp2_with (first|(refine gL 104 4 func104 #[.int .u8 a0] ?_;(with_reducible refine(dD.calls a0 false _ A2.out).mono ?_);rintro e w' ⟨rfl,⟨nd,rfl⟩⟩;refine⟨_,rfl,?_⟩)|(go_at_call 105;(with_reducible refine(eu.calls a0 false _ A4.out).mono ?_);rintro e w' ⟨rfl,⟨nd,rfl⟩⟩))
    go_ret;exact⟨rs,dn⟩
   ·replace H:=sp H;rcases H with⟨c7,H⟩|⟨c7,H⟩
    ·have qp:decide (35≤a0)=true:=decide_eq_true c7;clear c7;replace H:=sd H;rcases H with⟨rV,H⟩|⟨rV,H⟩
     ·obtain rfl:=Option.some.inj H;go_enter func131,ntmps131;go_wp2_with (first|(refine gL 104 4 func104 #[.int .u8 a0] ?_;(with_reducible refine(dD.calls a0 false _ A2.out).mono ?_);rintro e w' ⟨rfl,⟨nd,rfl⟩⟩;refine⟨_,rfl,?_⟩)|(go_at_call 105;(with_reducible refine(eu.calls a0 false _ A4.out).mono ?_);rintro e w' ⟨rfl,⟨nd,rfl⟩⟩))
      go_ret;exact⟨rs,dn⟩
     ·replace H:=sq H;rcases H with⟨vI,Df,H⟩|⟨c9,vI,Df,H⟩
      ·obtain rfl:=Option.some.inj H;go_enter func131,ntmps131;go_wp2_with (first|(refine gL 104 4 func104 #[.int .u8 a0] ?_;(with_reducible refine(dD.calls a0 false _ A2.out).mono ?_);rintro e w' ⟨rfl,⟨nd,rfl⟩⟩;refine⟨_,rfl,?_⟩)|(go_at_call 105;(with_reducible refine(eu.calls a0 false _ A4.out).mono ?_);rintro e w' ⟨rfl,⟨nd,rfl⟩⟩))
       go_ret;exact⟨rs,dn⟩
      ·replace H:=sq H;rcases H with⟨rW,xk,H⟩|⟨c10,rW,xk,H⟩
       ·obtain rfl:=Option.some.inj H;go_enter func131,ntmps131;go_wp2_with (first|(refine gL 104 4 func104 #[.int .u8 a0] ?_;(with_reducible refine(dD.calls a0 false _ A2.out).mono ?_);rintro e w' ⟨rfl,⟨nd,rfl⟩⟩;refine⟨_,rfl,?_⟩)|(go_at_call 105;(with_reducible refine(eu.calls a0 false _ A4.out).mono ?_);rintro e w' ⟨rfl,⟨nd,rfl⟩⟩))
        go_ret;exact⟨rs,dn⟩
       ·replace H:=sq H;rcases H with⟨yC,LZ,H⟩|⟨c11,yC,LZ,H⟩
        ·obtain rfl:=Option.some.inj H;go_enter func131,ntmps131;go_wp2_with (first|(refine gL 104 4 func104 #[.int .u8 a0] ?_;(with_reducible refine(dD.calls a0 false _ A2.out).mono ?_);rintro e w' ⟨rfl,⟨nd,rfl⟩⟩;refine⟨_,rfl,?_⟩)|(go_at_call 105;(with_reducible refine(eu.calls a0 false _ A4.out).mono ?_);rintro e w' ⟨rfl,⟨nd,rfl⟩⟩))
         go_ret;exact⟨rs,dn⟩
        ·replace H:=sq H;rcases H with⟨wG,Hw,H⟩|⟨c12,wG,Hw,H⟩
         ·obtain rfl:=Option.some.inj H;go_enter func131,ntmps131;go_wp2_with (first|(refine gL 104 4 func104 #[.int .u8 a0] ?_;(with_reducible refine(dD.calls a0 false _ A2.out).mono ?_);rintro e w' ⟨rfl,⟨nd,rfl⟩⟩;refine⟨_,rfl,?_⟩)|(go_at_call 105;(with_reducible refine(eu.calls a0 false _ A4.out).mono ?_);rintro e w' ⟨rfl,⟨nd,rfl⟩⟩))
          go_ret;exact⟨rs,dn⟩
         ·replace H:=sq H;rcases H with⟨vJ,BP,H⟩|⟨c13,vJ,BP,H⟩
          ·obtain rfl:=Option.some.inj H;go_enter func131,ntmps131;go_wp2_with (first|(refine gL 104 4 func104 #[.int .u8 a0] ?_;(with_reducible refine(dD.calls a0 false _ A2.out).mono ?_);rintro e w' ⟨rfl,⟨nd,rfl⟩⟩;refine⟨_,rfl,?_⟩)|(go_at_call 105;(with_reducible refine(eu.calls a0 false _ A4.out).mono ?_);rintro e w' ⟨rfl,⟨nd,rfl⟩⟩))
           go_ret;exact⟨rs,dn⟩
          ·replace H:=sq H;rcases H with⟨tH,xq,H⟩|⟨c14,tH,xq,H⟩
           ·obtain rfl:=Option.some.inj H;go_enter func131,ntmps131;go_wp2_with (first|(refine gL 104 4 func104 #[.int .u8 a0] ?_;(with_reducible refine(dD.calls a0 false _ A2.out).mono ?_);rintro e w' ⟨rfl,⟨nd,rfl⟩⟩;refine⟨_,rfl,?_⟩)|(go_at_call 105;(with_reducible refine(eu.calls a0 false _ A4.out).mono ?_);rintro e w' ⟨rfl,⟨nd,rfl⟩⟩))
            go_ret;exact⟨rs,dn⟩
           ·replace H:=sp H;rcases H with⟨c15,H⟩|⟨c15,H⟩
            ·have uy:decide (94≤a0)=true:=decide_eq_true c15;clear c15;replace H:=sd H;rcases H with⟨L6,H⟩|⟨L6,H⟩
             ·obtain rfl:=Option.some.inj H;go_enter func131,ntmps131;go_wp2_with (first|(refine gL 104 4 func104 #[.int .u8 a0] ?_;(with_reducible refine(dD.calls a0 false _ A2.out).mono ?_);rintro e w' ⟨rfl,⟨nd,rfl⟩⟩;refine⟨_,rfl,?_⟩)|(go_at_call 105;(with_reducible refine(eu.calls a0 false _ A4.out).mono ?_);rintro e w' ⟨rfl,⟨nd,rfl⟩⟩))
              go_ret;exact⟨rs,dn⟩
             ·replace H:=sp H;rcases H with⟨c17,H⟩|⟨c17,H⟩
              ·have uz:decide (123≤a0)=true:=decide_eq_true c17;clear c17;obtain rfl:=Option.some.inj H;go_enter func131,ntmps131;go_wp2_with (first|(refine gL 104 4 func104 #[.int .u8 a0] ?_;(with_reducible refine(dD.calls a0 false _ A2.out).mono ?_);rintro e w' ⟨rfl,⟨nd,rfl⟩⟩;refine⟨_,rfl,?_⟩)|(go_at_call 105;(with_reducible refine(eu.calls a0 false _ A4.out).mono ?_);rintro e w' ⟨rfl,⟨nd,rfl⟩⟩))
               go_ret;exact⟨rs,dn⟩
              ·have uz:decide (123≤a0)=false:=decide_eq_false c17;clear c17;obtain rfl:=Option.some.inj H;go_enter func131,ntmps131;go_wp2_with (first|(refine gL 104 4 func104 #[.int .u8 a0] ?_;(with_reducible refine(dD.calls a0 false _ A2.out).mono ?_);rintro e w' ⟨rfl,⟨nd,rfl⟩⟩;refine⟨_,rfl,?_⟩)|(go_at_call 105;(with_reducible refine(eu.calls a0 false _ A4.out).mono ?_);rintro e w' ⟨rfl,⟨nd,rfl⟩⟩))
               go_ret;exact⟨rs,dn⟩
            ·have uy:decide (94≤a0)=false:=decide_eq_false c15;clear c15;replace H:=sp H;rcases H with⟨c18,H⟩|⟨c18,H⟩
             ·have Hy:decide (123≤a0)=true:=decide_eq_true c18;clear c18;obtain rfl:=Option.some.inj H;go_enter func131,ntmps131;go_wp2_with (first|(refine gL 104 4 func104 #[.int .u8 a0] ?_;(with_reducible refine(dD.calls a0 false _ A2.out).mono ?_);rintro e w' ⟨rfl,⟨nd,rfl⟩⟩;refine⟨_,rfl,?_⟩)|(go_at_call 105;(with_reducible refine(eu.calls a0 false _ A4.out).mono ?_);rintro e w' ⟨rfl,⟨nd,rfl⟩⟩))
              go_ret;exact⟨rs,dn⟩
             ·have Hy:decide (123≤a0)=false:=decide_eq_false c18;clear c18;obtain rfl:=Option.some.inj H;go_enter func131,ntmps131;go_wp2_with (first|(refine gL 104 4 func104 #[.int .u8 a0] ?_;(with_reducible refine(dD.calls a0 false _ A2.out).mono ?_);rintro e w' ⟨rfl,⟨nd,rfl⟩⟩;refine⟨_,rfl,?_⟩)|(go_at_call 105;(with_reducible refine(eu.calls a0 false _ A4.out).mono ?_);rintro e w' ⟨rfl,⟨nd,rfl⟩⟩))
              go_ret;exact⟨rs,dn⟩
    ·have qp:decide (35≤a0)=false:=decide_eq_false c7;clear c7;replace H:=sq H;rcases H with⟨Dh,FY,H⟩|⟨c19,Dh,FY,H⟩
     ·obtain rfl:=Option.some.inj H;go_enter func131,ntmps131;go_wp2_with (first|(refine gL 104 4 func104 #[.int .u8 a0] ?_;(with_reducible refine(dD.calls a0 false _ A2.out).mono ?_);rintro e w' ⟨rfl,⟨nd,rfl⟩⟩;refine⟨_,rfl,?_⟩)|(go_at_call 105;(with_reducible refine(eu.calls a0 false _ A4.out).mono ?_);rintro e w' ⟨rfl,⟨nd,rfl⟩⟩))
      go_ret;exact⟨rs,dn⟩
     ·replace H:=sq H;rcases H with⟨VA,Xz,H⟩|⟨c20,VA,Xz,H⟩
      ·obtain rfl:=Option.some.inj H;go_enter func131,ntmps131;go_wp2_with (first|(refine gL 104 4 func104 #[.int .u8 a0] ?_;(with_reducible refine(dD.calls a0 false _ A2.out).mono ?_);rintro e w' ⟨rfl,⟨nd,rfl⟩⟩;refine⟨_,rfl,?_⟩)|(go_at_call 105;(with_reducible refine(eu.calls a0 false _ A4.out).mono ?_);rintro e w' ⟨rfl,⟨nd,rfl⟩⟩))
       go_ret;exact⟨rs,dn⟩
      ·replace H:=sq H;rcases H with⟨FZ,acF,H⟩|⟨c21,FZ,acF,H⟩
       ·obtain rfl:=Option.some.inj H;go_enter func131,ntmps131;go_wp2_with (first|(refine gL 104 4 func104 #[.int .u8 a0] ?_;(with_reducible refine(dD.calls a0 false _ A2.out).mono ?_);rintro e w' ⟨rfl,⟨nd,rfl⟩⟩;refine⟨_,rfl,?_⟩)|(go_at_call 105;(with_reducible refine(eu.calls a0 false _ A4.out).mono ?_);rintro e w' ⟨rfl,⟨nd,rfl⟩⟩))
        go_ret;exact⟨rs,dn⟩
       ·replace H:=sq H;rcases H with⟨OM,acG,H⟩|⟨c22,OM,acG,H⟩
        ·obtain rfl:=Option.some.inj H;go_enter func131,ntmps131;go_wp2_with (first|(refine gL 104 4 func104 #[.int .u8 a0] ?_;(with_reducible refine(dD.calls a0 false _ A2.out).mono ?_);rintro e w' ⟨rfl,⟨nd,rfl⟩⟩;refine⟨_,rfl,?_⟩)|(go_at_call 105;(with_reducible refine(eu.calls a0 false _ A4.out).mono ?_);rintro e w' ⟨rfl,⟨nd,rfl⟩⟩))
         go_ret;exact⟨rs,dn⟩
        ·replace H:=sq H;rcases H with⟨L8,agw,H⟩|⟨c23,L8,agw,H⟩
         ·obtain rfl:=Option.some.inj H;go_enter func131,ntmps131;go_wp2_with (first|(refine gL 104 4 func104 #[.int .u8 a0] ?_;(with_reducible refine(dD.calls a0 false _ A2.out).mono ?_);rintro e w' ⟨rfl,⟨nd,rfl⟩⟩;refine⟨_,rfl,?_⟩)|(go_at_call 105;(with_reducible refine(eu.calls a0 false _ A4.out).mono ?_);rintro e w' ⟨rfl,⟨nd,rfl⟩⟩))
          go_ret;exact⟨rs,dn⟩
         ·replace H:=sq H;rcases H with⟨QB,agx,H⟩|⟨c24,QB,agx,H⟩
          ·obtain rfl:=Option.some.inj H;go_enter func131,ntmps131;go_wp2_with (first|(refine gL 104 4 func104 #[.int .u8 a0] ?_;(with_reducible refine(dD.calls a0 false _ A2.out).mono ?_);rintro e w' ⟨rfl,⟨nd,rfl⟩⟩;refine⟨_,rfl,?_⟩)|(go_at_call 105;(with_reducible refine(eu.calls a0 false _ A4.out).mono ?_);rintro e w' ⟨rfl,⟨nd,rfl⟩⟩))
           go_ret;exact⟨rs,dn⟩
          ·replace H:=sp H;rcases H with⟨c25,H⟩|⟨c25,H⟩
           ·have Hz:decide (94≤a0)=true:=decide_eq_true c25;clear c25;replace H:=sd H;rcases H with⟨VB,H⟩|⟨VB,H⟩
            ·obtain rfl:=Option.some.inj H;go_enter func131,ntmps131;go_wp2_with (first|(refine gL 104 4 func104 #[.int .u8 a0] ?_;(with_reducible refine(dD.calls a0 false _ A2.out).mono ?_);rintro e w' ⟨rfl,⟨nd,rfl⟩⟩;refine⟨_,rfl,?_⟩)|(go_at_call 105;(with_reducible refine(eu.calls a0 false _ A4.out).mono ?_);rintro e w' ⟨rfl,⟨nd,rfl⟩⟩))
             go_ret;exact⟨rs,dn⟩
            ·replace H:=sp H;rcases H with⟨c27,H⟩|⟨c27,H⟩
             ·have OO:decide (123≤a0)=true:=decide_eq_true c27;clear c27;obtain rfl:=Option.some.inj H;go_enter func131,ntmps131;go_wp2_with (first|(refine gL 104 4 func104 #[.int .u8 a0] ?_;(with_reducible refine(dD.calls a0 false _ A2.out).mono ?_);rintro e w' ⟨rfl,⟨nd,rfl⟩⟩;refine⟨_,rfl,?_⟩)|(go_at_call 105;(with_reducible refine(eu.calls a0 false _ A4.out).mono ?_);rintro e w' ⟨rfl,⟨nd,rfl⟩⟩))
              go_ret;exact⟨rs,dn⟩
             ·have OO:decide (123≤a0)=false:=decide_eq_false c27;clear c27;obtain rfl:=Option.some.inj H;go_enter func131,ntmps131;go_wp2_with (first|(refine gL 104 4 func104 #[.int .u8 a0] ?_;(with_reducible refine(dD.calls a0 false _ A2.out).mono ?_);rintro e w' ⟨rfl,⟨nd,rfl⟩⟩;refine⟨_,rfl,?_⟩)|(go_at_call 105;(with_reducible refine(eu.calls a0 false _ A4.out).mono ?_);rintro e w' ⟨rfl,⟨nd,rfl⟩⟩))
              go_ret;exact⟨rs,dn⟩
           ·have Hz:decide (94≤a0)=false:=decide_eq_false c25;clear c25;replace H:=sp H;rcases H with⟨c28,H⟩|⟨c28,H⟩
            ·have OQ:decide (123≤a0)=true:=decide_eq_true c28;clear c28;obtain rfl:=Option.some.inj H;go_enter func131,ntmps131;go_wp2_with (first|(refine gL 104 4 func104 #[.int .u8 a0] ?_;(with_reducible refine(dD.calls a0 false _ A2.out).mono ?_);rintro e w' ⟨rfl,⟨nd,rfl⟩⟩;refine⟨_,rfl,?_⟩)|(go_at_call 105;(with_reducible refine(eu.calls a0 false _ A4.out).mono ?_);rintro e w' ⟨rfl,⟨nd,rfl⟩⟩))
             go_ret;exact⟨rs,dn⟩
            ·have OQ:decide (123≤a0)=false:=decide_eq_false c28;clear c28;obtain rfl:=Option.some.inj H;go_enter func131,ntmps131;go_wp2_with (first|(refine gL 104 4 func104 #[.int .u8 a0] ?_;(with_reducible refine(dD.calls a0 false _ A2.out).mono ?_);rintro e w' ⟨rfl,⟨nd,rfl⟩⟩;refine⟨_,rfl,?_⟩)|(go_at_call 105;(with_reducible refine(eu.calls a0 false _ A4.out).mono ?_);rintro e w' ⟨rfl,⟨nd,rfl⟩⟩))
             go_ret;exact⟨rs,dn⟩
mutual
def eF.l0:Nat→ByteArray→List ByteArray→Int→Bool→Option (List ByteArray×Bool)
 |0,_,_,_,_=>none
 |k+1,x0,x4,x5,x6=>if x5<(x0.size:Int)then(if 0≤x5 then(if(bt x0 x5)=32 then(eF.l0 k x0 x4 (wrap64 (x5+1)) true)else(if x6=true then(if(bt x0 x5)=34 then(if x5≤(x0.size:Int)then((jT.f k (x0.extract (x5:Int).toNat x0.size)).bind fun alK=>(if alK.2.2=true then(if x4.length<8796093022208 then(eF.l0 k x0 (x4++[alK.1]) (wrap64 (x5+alK.2.1)) false)else(none))else(some (([]:List ByteArray),false))))else(none))else(eF.l1 k x0 x4 x5 x5))else(some (([]:List ByteArray),false))))else(none))else(some (x4,true))
def eF.l1:Nat→ByteArray→List ByteArray→Int→Int→Option (List ByteArray×Bool)
 |0,_,_,_,_=>none
 |k+1,x0,x4,x5,x10=>if x10<(x0.size:Int)then(if 0≤x10 then((mP.f (bt x0 x10)).bind fun aBf=>(if aBf=true then(eF.l1 k x0 x4 x5 (wrap64 (x10+1)))else(if x10=x5 then(some (([]:List ByteArray),false))else(if 0≤x5 then(if x5≤x10 then(if x10≤(x0.size:Int)then(if x4.length<8796093022208 then(eF.l0 k x0 (x4++[x0.extract (x5:Int).toNat (x10:Int).toNat]) x10 false)else(none))else(none))else(none))else(none)))))else(none))else(if x10=x5 then(some (([]:List ByteArray),false))else(if 0≤x5 then(if x5≤x10 then(if x10≤(x0.size:Int)then(if x4.length<8796093022208 then(eF.l0 k x0 (x4++[x0.extract (x5:Int).toNat (x10:Int).toNat]) x10 false)else(none))else(none))else(none))else(none)))
end
def eF.f(k:Nat)(a0:ByteArray):Option (List ByteArray×Bool):=(bU.f k a0).bind fun aqw=>(if aqw=true then(eF.l0 k a0 (([]:List ByteArray)) 0 true)else(some (([]:List ByteArray),false)))
theorem eF.calls(k:Nat)(a0:ByteArray)(r1:List ByteArray)(r2:Bool)(w:World)(h:eF.f k a0=some (r1,r2)):
  Calls Tryz.prog 100 #[.string a0] w fun e w'=>∃sZ:Value,e= .returned (.tuple #[sZ, .bool r2])∧Kd.R Kd.string 9 w' w.heap.size (fun _=>True) sZ r1∧Below w.heap.size w w':=by
 have HB:=ak (Below.refl w.heap.size w);have H:((bU.f k a0).bind fun aqw=>(if aqw=true then(eF.l0 k a0 (([]:List ByteArray)) 0 true)else(some (([]:List ByteArray),false))))=some (r1,r2):=h;clear h;replace H:=bd H;obtain⟨aqw,A2,H⟩:=H;replace H:=sb H;rcases H with⟨rfl,H⟩|⟨rfl,H⟩
 ·obtain⟨aI7,alL⟩:=nm ([]:List ByteArray);rw[←alL.out]at H;have H':=ak H;clear H;go_enter func100,ntmps100;go_wp2_with (first|(refine gA func75 (bU.calls k a0 true _ A2.out) ?_;intro nd)|(refine lRN 14 Kd.string 9 alL ?_;intro aPI w4 XR hb;have aBg:=ak (bQ XR (aA (ul HB.out)));replace HB:=bs HB hb;clear hb XR))
  go_loopg [4,5,6] k (fun kq v4 v5 v6 w'=>∃(fG:List ByteArray) (aQ:Int) (iJ:Bool),v5= .int .i64 aQ∧v6= .bool iJ∧ay (eF.l0 kq a0 fG aQ iJ=some (r1,r2))∧ay (kq≤k)∧ay (Kd.R Kd.string 9 w' w.heap.size (fun _=>True) v4 fG)∧ay (Below w.heap.size w w'))
  case atStart=>exact⟨_,_,_,rs,rs,H',⟨Nat.le_refl _⟩,⟨ur aBg.out⟩,⟨ul HB.out⟩⟩
  case round=>
   clear H';obtain⟨fG,aQ,iJ,rfl,rfl,HA,iM,gy,HB⟩:=hrel
   cases gk with
   |zero=>exact zz HA.out
   |succ k1=>
    obtain⟨H⟩:=HA;simp only[eF.l0]at H;replace H:=sd H;rcases H with⟨mG,H⟩|⟨mG,H⟩
    ·replace H:=oL H;obtain⟨qp,H⟩:=H;replace H:=sq H;rcases H with⟨vI,Df,H⟩|⟨c9,vI,Df,H⟩
     ·have H':=ak H;clear H;obtain⟨p8,q8,hx8⟩:=bx a0 aQ;go_wp2;go_roundg k1
      case measure=>exact kl
      case rel=>exact⟨_,_,_,rs,rs,H',⟨kl⟩,⟨ur gy.out⟩,⟨ul HB.out⟩⟩
     ·replace H:=sb H;rcases H with⟨rfl,H⟩|⟨rfl,H⟩
      ·replace H:=sq H;rcases H with⟨wG,Hw,H⟩|⟨c12,wG,Hw,H⟩
       ·have vJ:=eq_true (of_decide_eq_true (by assumption):0≤aQ);replace H:=Fe H;obtain⟨tH,xq,H⟩:=H;replace H:=bd H;obtain⟨⟨alM,awU,aPJ⟩,A15,H⟩:=H
        (try dsimp only at H);replace H:=sb H;rcases H with⟨rfl,H⟩|⟨rfl,H⟩
        ·replace H:=nl H;obtain⟨akz,H⟩:=H;obtain⟨aI8,atS⟩:=nm (fG++[alM]);rw[←atS.out]at H;have H':=ak H;clear H;obtain⟨p8,q8,hx8⟩:=bx a0 aQ;obtain⟨p11,q11,ac_⟩:=bx a0 aQ;go_wp2_with (first|(refine gB func130 (jT.calls k1 (a0.extract (aQ:Int).toNat a0.size) alM awU true _ A15.out) ?_;intro w18 hb;replace gy:=rb gy hb;replace HB:=bs HB hb;clear hb)|(at_builtin;refine aP 68 70 Kd.string 23 9 (.string ⟨#[]⟩) 16 underlying23 info9 HB (ur gy.out) atS (by have:=akz.out;omega) ?_;intro aPK w19 ho hb hg hat;have aBh:=ak (ho);replace HB:=ak (hb);clear ho hb hg hat gy))
         go_roundg k1
         case measure=>exact kl
         case rel=>exact⟨_,_,_,rs,rs,H',⟨kl⟩,⟨ur aBh.out⟩,⟨ul HB.out⟩⟩
        ·obtain⟨rfl,rfl⟩:=s2 H;obtain⟨p8,q8,hx8⟩:=bx a0 aQ;obtain⟨p11,q11,ac_⟩:=bx a0 aQ;go_wp2_with (refine gB func130 (jT.calls k1 (a0.extract (aQ:Int).toNat a0.size) alM awU false _ A15.out) ?_;intro w20 hb;replace gy:=rb gy hb;replace HB:=bs HB hb;clear hb)
         go_ret2;exact⟨_,er,nx,ul HB.out⟩
       ·have H':=ak H;clear H;obtain⟨p8,q8,hx8⟩:=bx a0 aQ;obtain⟨p11,q11,ac_⟩:=bx a0 aQ;go_wp2;go_loopg [10] k1 (fun kq v10 w'=>∃(BU:Int),v10= .int .i64 BU∧ay (eF.l1 kq a0 fG aQ BU=some (r1,r2))∧ay (kq≤k1)∧ay (Kd.R Kd.string 9 w' w.heap.size (fun _=>True) u4 fG)∧ay (Below w.heap.size w w'))
        case atStart=>exact⟨_,rs,H',⟨Nat.le_refl _⟩,⟨ur gy.out⟩,⟨ul HB.out⟩⟩
        case round=>
         clear H';try clear mG
         try clear qp
         try clear p8
         try clear q8
         try clear hx8
         try clear c9
         try clear vI
         try clear Df
         try clear p11
         try clear q11
         try clear ac_
         try clear c12
         try clear wG
         try clear Hw
         try clear p11
         try clear p8
         try clear q11
         try clear q8
         obtain⟨BU,rfl,HA,yR,gy,HB⟩:=hrel
         cases gk with
         |zero=>exact zz HA.out
         |succ k2=>
          obtain⟨H⟩:=HA;simp only[eF.l1]at H;replace H:=sd H;rcases H with⟨FZ,H⟩|⟨FZ,H⟩
          ·replace H:=oL H;obtain⟨OM,H⟩:=H;replace H:=bd H;obtain⟨aBf,A24,H⟩:=H;replace H:=sb H;rcases H with⟨rfl,H⟩|⟨rfl,H⟩
           ·have H':=ak H;clear H;obtain⟨p23,q23,aBi⟩:=bx a0 BU;go_wp2_with (go_at_call 131;refine mA (mP.calls (bt a0 BU) true _ A24.out) ?_;intro nd)
            go_roundg k2
            case measure=>exact kl
            case rel=>exact⟨_,rs,H',⟨kl⟩,⟨ur gy.out⟩,⟨ul HB.out⟩⟩
           ·replace H:=sq H;rcases H with⟨VB,alk,H⟩|⟨c26,VB,alk,H⟩
            ·obtain⟨rfl,rfl⟩:=s2 H;obtain⟨p23,q23,aBi⟩:=bx a0 BU;go_wp2_with (go_at_call 131;refine mA (mP.calls (bt a0 BU) false _ A24.out) ?_;intro nd)
             go_ret2;exact⟨_,er,nx,ul HB.out⟩
            ·replace H:=Fe H;obtain⟨OO,alN,H⟩:=H;replace H:=Fe H;obtain⟨OQ,ahG,H⟩:=H;replace H:=Fe H;obtain⟨atT,aL2,H⟩:=H;replace H:=nl H;obtain⟨aBj,H⟩:=H;obtain⟨aI9,atU⟩:=nm (fG++[a0.extract (aQ:Int).toNat (BU:Int).toNat]);rw[←atU.out]at H;have H':=ak H;clear H;obtain⟨p23,q23,aBi⟩:=bx a0 BU;go_wp2_with (first|(go_at_call 131;refine mA (mP.calls (bt a0 BU) false _ A24.out) ?_;intro nd)|(at_builtin;refine aP 35 40 Kd.string 23 9 (.string ⟨#[]⟩) 16 underlying23 info9 HB (ur gy.out) atU (by have:=aBj.out;omega) ?_;intro aPL w31 ho hb hg hat;have aBk:=ak (ho);replace HB:=ak (hb);clear ho hb hg hat gy))
             go_roundg k2
             case measure=>exact kl
             case rel=>exact⟨_,_,_,rs,rs,H',⟨kl⟩,⟨ur aBk.out⟩,⟨ul HB.out⟩⟩
          ·replace H:=sq H;rcases H with⟨acU,atV,H⟩|⟨c32,acU,atV,H⟩
           ·obtain⟨rfl,rfl⟩:=s2 H;go_wp2;go_ret2;exact⟨_,er,nx,ul HB.out⟩
           ·replace H:=Fe H;obtain⟨akE,atW,H⟩:=H;replace H:=Fe H;obtain⟨ahH,atX,H⟩:=H;replace H:=Fe H;obtain⟨ZH,ahd,H⟩:=H;replace H:=nl H;obtain⟨aBl,H⟩:=H;obtain⟨aI_,atY⟩:=nm (fG++[a0.extract (aQ:Int).toNat (BU:Int).toNat]);rw[←atY.out]at H;have H':=ak H;clear H;go_wp2_with (at_builtin;refine aP 35 40 Kd.string 23 9 (.string ⟨#[]⟩) 16 underlying23 info9 HB (ur gy.out) atY (by have:=aBl.out;omega) ?_;intro aPM w37 ho hb hg hat;have aBm:=ak (ho);replace HB:=ak (hb);clear ho hb hg hat gy)
            go_roundg k2
            case measure=>exact kl
            case rel=>exact⟨_,_,_,rs,rs,H',⟨kl⟩,⟨ur aBm.out⟩,⟨ul HB.out⟩⟩
      ·obtain⟨rfl,rfl⟩:=s2 H;obtain⟨p8,q8,hx8⟩:=bx a0 aQ;go_wp2;go_ret2;exact⟨_,er,nx,ul HB.out⟩
    ·obtain⟨rfl,rfl⟩:=s2 H;go_wp2;go_ret2;exact⟨_,er,ur gy.out,ul HB.out⟩
 ·obtain⟨rfl,rfl⟩:=s2 H;go_enter func100,ntmps100;go_wp2_with (refine gA func75 (bU.calls k a0 false _ A2.out) ?_;intro nd)
  go_ret2;exact⟨_,er,nx,ul HB.out⟩
def um.f(a0:Int):Option (Bool):=(dD.f a0).bind fun aqx=>(if aqx=true then(some true)else((eu.f a0).bind fun aqy=>(if aqy=true then(some true)else(some (a0==45)))))
set_option maxHeartbeats 8000000 in
set_option maxRecDepth 100000 in
theorem um.calls(a0:Int)(r:Bool)(w:World)(h:um.f a0=some r):
  Calls Tryz.prog 150 #[.int .u8 a0] w fun e w'=>e= .returned (.bool r)∧fZ w w':=by
 have H:((dD.f a0).bind fun aqx=>(if aqx=true then(some true)else((eu.f a0).bind fun aqy=>(if aqy=true then(some true)else(some (a0==45))))))=some r:=h;clear h;replace H:=bd H;obtain⟨aqx,A2,H⟩:=H;replace H:=sb H;rcases H with⟨rfl,H⟩|⟨rfl,H⟩
 ·obtain rfl:=Option.some.inj H;go_enter func150,ntmps150;go_wp2_with (first|(refine gL 104 4 func104 #[.int .u8 a0] ?_;(with_reducible refine(dD.calls a0 true _ A2.out).mono ?_);rintro e w' ⟨rfl,⟨nd,rfl⟩⟩;refine⟨_,rfl,?_⟩))
  go_ret;exact⟨rs,dn⟩
 ·replace H:=bd H;obtain⟨aqy,A4,H⟩:=H;replace H:=sb H;rcases H with⟨rfl,H⟩|⟨rfl,H⟩
  ·obtain rfl:=Option.some.inj H;go_enter func150,ntmps150;go_wp2_with (first|(refine gL 104 4 func104 #[.int .u8 a0] ?_;(with_reducible refine(dD.calls a0 false _ A2.out).mono ?_);rintro e w' ⟨rfl,⟨nd,rfl⟩⟩;refine⟨_,rfl,?_⟩)|(go_at_call 105;(with_reducible refine(eu.calls a0 true _ A4.out).mono ?_);rintro e w' ⟨rfl,⟨nd,rfl⟩⟩))
   go_ret;exact⟨rs,dn⟩
  ·obtain rfl:=Option.some.inj H;go_enter func150,ntmps150;go_wp2_with (first|(refine gL 104 4 func104 #[.int .u8 a0] ?_;(with_reducible refine(dD.calls a0 false _ A2.out).mono ?_);rintro e w' ⟨rfl,⟨nd,rfl⟩⟩;refine⟨_,rfl,?_⟩)|(go_at_call 105;(with_reducible refine(eu.calls a0 false _ A4.out).mono ?_);rintro e w' ⟨rfl,⟨nd,rfl⟩⟩))
   go_ret;exact⟨rs,dn⟩
def eY.l0:Nat→ByteArray→Int→Int→Option (Bool)
 |0,_,_,_=>none
 |k+1,x0,x7,x8=>if x8<x7 then(if 0≤x8 then(if x8<(x0.size:Int)then((um.f (bt x0 x8)).bind fun aBn=>(if aBn=true then(eY.l0 k x0 x7 (wrap64 (x8+1)))else(some false)))else(none))else(none))else(some true)
def eY.f(k:Nat)(a0:ByteArray):Option (Bool):=eY.l0 k a0 (a0.size:Int) 0
set_option maxHeartbeats 8000000 in
set_option maxRecDepth 100000 in
theorem eY.calls(k:Nat)(a0:ByteArray)(r:Bool)(w:World)(h:eY.f k a0=some r):
  Calls Tryz.prog 102 #[.string a0, .func (.func 150) #[] #[]] w fun e w'=>e= .returned (.bool r)∧fZ w w':=by
 have H:(eY.l0 k a0 (a0.size:Int) 0)=some r:=h;clear h;have H':=ak H;clear H;go_enter func102,ntmps102;go_wp2;go_loopg [8] k (fun kq v8 w'=>∃(jm:Int),v8= .int .i64 jm∧ay (eY.l0 kq a0 (a0.size:Int) jm=some r)∧ay (kq≤k)∧fZ w w')
 case atStart=>exact⟨(0),rs,H',⟨Nat.le_refl _⟩,dn⟩
 case round=>
  clear H';try clear c1
  try clear p2
  obtain⟨jm,rfl,HA,iM,⟨m1,rfl⟩⟩:=hrel
  cases gk with
  |zero=>exact absurd HA.out (by simp[eY.l0])
  |succ k1=>
   have H:=HA.out;clear HA;simp only[eY.l0]at H;replace H:=sd H;rcases H with⟨iK,H⟩|⟨iK,H⟩
   ·replace H:=oL H;obtain⟨oG,H⟩:=H;replace H:=oL H;obtain⟨o_,H⟩:=H;replace H:=bd H;obtain⟨aBn,A7,H⟩:=H;replace H:=sb H;rcases H with⟨rfl,H⟩|⟨rfl,H⟩
    ·have H':=ak H;clear H;obtain⟨p6,q6,hx6⟩:=bx a0 jm;go_wp2_with (first|(go_at_call 150;(with_reducible refine(um.calls (bt a0 jm) true _ A7.out).mono ?_);rintro e w' ⟨rfl,⟨nd,rfl⟩⟩))
     go_roundg k1
     case measure=>have:=iM.out;omega
     case rel=>exact⟨(wrap64 (jm+1)),rs,H',⟨by have:=iM.out;omega⟩,dn⟩
    ·obtain rfl:=Option.some.inj H;obtain⟨p6,q6,hx6⟩:=bx a0 jm;go_wp2_with (first|(go_at_call 150;(with_reducible refine(um.calls (bt a0 jm) false _ A7.out).mono ?_);rintro e w' ⟨rfl,⟨nd,rfl⟩⟩))
     go_ret;exact⟨rs,dn⟩
   ·obtain rfl:=Option.some.inj H;go_wp2;go_ret;exact⟨rs,dn⟩
def jU.f(k:Nat)(a0:ByteArray):Option (Bool):=if(a0.size:Int)≥1 then(if(a0.size:Int)≤30 then(if 0<(a0.size:Int)then((dD.f (bt a0 0)).bind fun aqz=>(if aqz=true then((eY.f k a0).bind fun alO=>(some alO))else(some false)))else(none))else(some false))else(some false)
set_option maxHeartbeats 8000000 in
set_option maxRecDepth 100000 in
theorem jU.calls(k:Nat)(a0:ByteArray)(r:Bool)(w:World)(h:jU.f k a0=some r):
  Calls Tryz.prog 126 #[.string a0] w fun e w'=>e= .returned (.bool r)∧fZ w w':=by
 have H:(if(a0.size:Int)≥1 then(if(a0.size:Int)≤30 then(if 0<(a0.size:Int)then((dD.f (bt a0 0)).bind fun aqz=>(if aqz=true then((eY.f k a0).bind fun alO=>(some alO))else(some false)))else(none))else(some false))else(some false))=some r:=h;clear h;replace H:=sp H;rcases H with⟨c2,H⟩|⟨c2,H⟩
 ·have zY:decide (1≤(a0.size:Int))=true:=decide_eq_true c2;have PV:decide (1≤a0.size)=true:=decide_eq_true (by omega);clear c2;replace H:=sp H;rcases H with⟨c3,H⟩|⟨c3,H⟩
  ·have iK:=decide_eq_true c3;have xW:decide (a0.size≤30)=true:=decide_eq_true (by omega);clear c3;replace H:=nn H;obtain⟨c4,H⟩:=H;have oG:=decide_eq_true c4;have VY:decide (0<a0.size)=true:=decide_eq_true (by omega);clear c4;replace H:=bd H;obtain⟨aqz,A6,H⟩:=H;replace H:=sb H;rcases H with⟨rfl,H⟩|⟨rfl,H⟩
   ·replace H:=bd H;obtain⟨alO,A8,H⟩:=H;obtain rfl:=Option.some.inj H;have p5:0≤(0:Int):=(by omega)
    have q5:0<a0.size:=(by have:(0:Int)<(a0.size:Int):=of_decide_eq_true (by assumption);omega)
    have hx5:∀h:0<a0.size,((a0[0]'h).toNat:Int)=bt a0 0:=vK a0 0;clear p5;have qi5:(0<(a0.size:Int))=True:=eq_true (of_decide_eq_true (by assumption));replace q5:=eq_true q5;go_enter func126,ntmps126;go_wp2_with (first|(go_at_call 104;(with_reducible refine(dD.calls (bt a0 0) true _ A6.out).mono ?_);rintro e w' ⟨rfl,⟨nd,rfl⟩⟩)|(go_at_call 102;(with_reducible refine(eY.calls k a0 alO _ A8.out).mono ?_);rintro e w' ⟨rfl,⟨nd,rfl⟩⟩))
    go_ret;exact⟨rs,dn⟩
   ·obtain rfl:=Option.some.inj H;have p5:0≤(0:Int):=(by omega)
    have q5:0<a0.size:=(by have:(0:Int)<(a0.size:Int):=of_decide_eq_true (by assumption);omega)
    have hx5:∀h:0<a0.size,((a0[0]'h).toNat:Int)=bt a0 0:=vK a0 0;clear p5;have qi5:(0<(a0.size:Int))=True:=eq_true (of_decide_eq_true (by assumption));replace q5:=eq_true q5;go_enter func126,ntmps126;go_wp2_with (first|(go_at_call 104;(with_reducible refine(dD.calls (bt a0 0) false _ A6.out).mono ?_);rintro e w' ⟨rfl,⟨nd,rfl⟩⟩))
    go_ret;exact⟨rs,dn⟩
  ·have iK:=decide_eq_false c3;have xW:decide (a0.size≤30)=false:=decide_eq_false (by omega);clear c3;obtain rfl:=Option.some.inj H;go_enter func126,ntmps126;go_wp2;go_ret;exact⟨rs,dn⟩
 ·have zY:decide (1≤(a0.size:Int))=false:=decide_eq_false c2;have PV:decide (1≤a0.size)=false:=decide_eq_false (by omega);clear c2;obtain rfl:=Option.some.inj H;go_enter func126,ntmps126;go_wp2;go_ret;exact⟨rs,dn⟩
def iy.f(k:Nat)(a0:ByteArray):Option (Bool):=(jU.f k a0).bind fun aqA=>(if aqA=true then((iG.f a0).bind fun alP=>(some (alP.toList==a0.toList)))else(some false))
set_option maxHeartbeats 8000000 in
set_option maxRecDepth 100000 in
theorem iy.calls(k:Nat)(a0:ByteArray)(r:Bool)(w:World)(h:iy.f k a0=some r):
  Calls Tryz.prog 132 #[.string a0] w fun e w'=>e= .returned (.bool r)∧Below w.heap.size w w':=by
 have HB:=ak (Below.refl w.heap.size w);have H:((jU.f k a0).bind fun aqA=>(if aqA=true then((iG.f a0).bind fun alP=>(some (alP.toList==a0.toList)))else(some false)))=some r:=h;clear h;replace H:=bd H;obtain⟨aqA,A2,H⟩:=H;replace H:=sb H;rcases H with⟨rfl,H⟩|⟨rfl,H⟩
 ·replace H:=bd H;obtain⟨alP,A4,H⟩:=H;obtain rfl:=Option.some.inj H;go_enter func132,ntmps132;go_wp2_with (first|(refine gL 126 4 func126 #[.string a0] ?_;(with_reducible refine(jU.calls k a0 true _ A2.out).mono ?_);rintro e w' ⟨rfl,⟨nd,rfl⟩⟩;refine⟨_,rfl,?_⟩)|(go_at_call 99;(with_reducible refine(iG.calls a0 alP _ A4.out).mono ?_);rintro e w5 ⟨rfl,hb⟩;replace HB:=bs HB hb;(try clear hb)))
  go_ret;exact⟨er,ul HB.out⟩
 ·obtain rfl:=Option.some.inj H;go_enter func132,ntmps132;go_wp2_with (first|(refine gL 126 4 func126 #[.string a0] ?_;(with_reducible refine(jU.calls k a0 false _ A2.out).mono ?_);rintro e w' ⟨rfl,⟨nd,rfl⟩⟩;refine⟨_,rfl,?_⟩))
  go_ret;exact⟨er,ul HB.out⟩
def dX.l0:Nat→ByteArray→Int→Int→Option (Bool)
 |0,_,_,_=>none
 |k+1,x0,x7,x8=>if x8<x7 then(if 0≤x8 then(if x8<(x0.size:Int)then((mP.f (bt x0 x8)).bind fun aBo=>(if aBo=true then(dX.l0 k x0 x7 (wrap64 (x8+1)))else(some false)))else(none))else(none))else(some true)
def dX.f(k:Nat)(a0:ByteArray):Option (Bool):=dX.l0 k a0 (a0.size:Int) 0
set_option maxHeartbeats 8000000 in
set_option maxRecDepth 100000 in
theorem dX.calls(k:Nat)(a0:ByteArray)(r:Bool)(w:World)(h:dX.f k a0=some r):
  Calls Tryz.prog 102 #[.string a0, .func (.func 131) #[] #[]] w fun e w'=>e= .returned (.bool r)∧fZ w w':=by
 have H:(dX.l0 k a0 (a0.size:Int) 0)=some r:=h;clear h;have H':=ak H;clear H;go_enter func102,ntmps102;go_wp2;go_loopg [8] k (fun kq v8 w'=>∃(jm:Int),v8= .int .i64 jm∧ay (dX.l0 kq a0 (a0.size:Int) jm=some r)∧ay (kq≤k)∧fZ w w')
 case atStart=>exact⟨(0),rs,H',⟨Nat.le_refl _⟩,dn⟩
 case round=>
  clear H';try clear c1
  try clear p2
  obtain⟨jm,rfl,HA,iM,⟨m1,rfl⟩⟩:=hrel
  cases gk with
  |zero=>exact absurd HA.out (by simp[dX.l0])
  |succ k1=>
   have H:=HA.out;clear HA;simp only[dX.l0]at H;replace H:=sd H;rcases H with⟨iK,H⟩|⟨iK,H⟩
   ·replace H:=oL H;obtain⟨oG,H⟩:=H;replace H:=oL H;obtain⟨o_,H⟩:=H;replace H:=bd H;obtain⟨aBo,A7,H⟩:=H;replace H:=sb H;rcases H with⟨rfl,H⟩|⟨rfl,H⟩
    ·have H':=ak H;clear H;obtain⟨p6,q6,hx6⟩:=bx a0 jm;go_wp2_with (first|(go_at_call 131;(with_reducible refine(mP.calls (bt a0 jm) true _ A7.out).mono ?_);rintro e w' ⟨rfl,⟨nd,rfl⟩⟩))
     go_roundg k1
     case measure=>have:=iM.out;omega
     case rel=>exact⟨(wrap64 (jm+1)),rs,H',⟨by have:=iM.out;omega⟩,dn⟩
    ·obtain rfl:=Option.some.inj H;obtain⟨p6,q6,hx6⟩:=bx a0 jm;go_wp2_with (first|(go_at_call 131;(with_reducible refine(mP.calls (bt a0 jm) false _ A7.out).mono ?_);rintro e w' ⟨rfl,⟨nd,rfl⟩⟩))
     go_ret;exact⟨rs,dn⟩
   ·obtain rfl:=Option.some.inj H;go_wp2;go_ret;exact⟨rs,dn⟩
def qC.f(k:Nat)(a0:ByteArray):Option (Bool):=if(a0.size:Int)≥1 then(if(a0.size:Int)≤40 then((dX.f k a0).bind fun alQ=>(some alQ))else(some false))else(some false)
set_option maxHeartbeats 8000000 in
set_option maxRecDepth 100000 in
theorem qC.calls(k:Nat)(a0:ByteArray)(r:Bool)(w:World)(h:qC.f k a0=some r):
  Calls Tryz.prog 159 #[.string a0] w fun e w'=>e= .returned (.bool r)∧fZ w w':=by
 have H:(if(a0.size:Int)≥1 then(if(a0.size:Int)≤40 then((dX.f k a0).bind fun alQ=>(some alQ))else(some false))else(some false))=some r:=h;clear h;replace H:=sp H;rcases H with⟨c2,H⟩|⟨c2,H⟩
 ·have zY:decide (1≤(a0.size:Int))=true:=decide_eq_true c2;have PV:decide (1≤a0.size)=true:=decide_eq_true (by omega);clear c2;replace H:=sp H;rcases H with⟨c3,H⟩|⟨c3,H⟩
  ·have iK:=decide_eq_true c3;have xW:decide (a0.size≤40)=true:=decide_eq_true (by omega);clear c3;replace H:=bd H;obtain⟨alQ,A4,H⟩:=H;obtain rfl:=Option.some.inj H;go_enter func159,ntmps159;go_wp2_with (first|(go_at_call 102;(with_reducible refine(dX.calls k a0 alQ _ A4.out).mono ?_);rintro e w' ⟨rfl,⟨nd,rfl⟩⟩))
   go_ret;exact⟨rs,dn⟩
  ·have iK:=decide_eq_false c3;have xW:decide (a0.size≤40)=false:=decide_eq_false (by omega);clear c3;obtain rfl:=Option.some.inj H;go_enter func159,ntmps159;go_wp2;go_ret;exact⟨rs,dn⟩
 ·have zY:decide (1≤(a0.size:Int))=false:=decide_eq_false c2;have PV:decide (1≤a0.size)=false:=decide_eq_false (by omega);clear c2;obtain rfl:=Option.some.inj H;go_enter func159,ntmps159;go_wp2;go_ret;exact⟨rs,dn⟩
def jo.l0:Nat→ByteArray→List Int→Int→Int→Option (ByteArray)
 |0,_,_,_,_=>none
 |k+1,x0,x3,x15,x16=>if x16<x15 then(if 0≤x16 then(if x16<(x0.size:Int)then(if(bt x0 x16)=34 then(if x3.length<140737488355328 then((some (x3++[92]:List Int)).bind fun alR=>(if alR.length<140737488355328 then(jo.l0 k x0 (alR++[bt x0 x16]) x15 (wrap64 (x16+1)))else(none)))else(none))else(if(bt x0 x16)=92 then(if x3.length<140737488355328 then((some (x3++[92]:List Int)).bind fun alS=>(if alS.length<140737488355328 then(jo.l0 k x0 (alS++[bt x0 x16]) x15 (wrap64 (x16+1)))else(none)))else(none))else(if x3.length<140737488355328 then(jo.l0 k x0 (x3++[bt x0 x16]) x15 (wrap64 (x16+1)))else(none))))else(none))else(none))else(if x3.length<140737488355328 then(some (strOfNums (x3++[34])))else(none))
def jo.f(k:Nat)(a0:ByteArray):Option (ByteArray):=(bU.f k a0).bind fun aqB=>(if aqB=true then((qC.f k a0).bind fun aqC=>(if aqC=true then(some a0)else(jo.l0 k a0 (([34]:List Int)) (a0.size:Int) 0)))else(some (⟨#[]⟩:ByteArray)))
set_option maxHeartbeats 8000000 in
set_option maxRecDepth 100000 in
theorem jo.calls(k:Nat)(a0:ByteArray)(r:ByteArray)(w:World)(h:jo.f k a0=some r):
  Calls Tryz.prog 151 #[.string a0] w fun e w'=>e= .returned (.string r)∧Below w.heap.size w w':=by
 have HB:=ak (Below.refl w.heap.size w);have H:((bU.f k a0).bind fun aqB=>(if aqB=true then((qC.f k a0).bind fun aqC=>(if aqC=true then(some a0)else(jo.l0 k a0 (([34]:List Int)) (a0.size:Int) 0)))else(some (⟨#[]⟩:ByteArray))))=some r:=h;clear h;replace H:=bd H;obtain⟨aqB,A2,H⟩:=H;replace H:=sb H;rcases H with⟨rfl,H⟩|⟨rfl,H⟩
 ·replace H:=bd H;obtain⟨aqC,A4,H⟩:=H;replace H:=sb H;rcases H with⟨rfl,H⟩|⟨rfl,H⟩
  ·obtain rfl:=Option.some.inj H;go_enter func151,ntmps151;go_wp2_with (first|(refine gL 75 7 func75 #[.string a0] ?_;(with_reducible refine(bU.calls k a0 true _ A2.out).mono ?_);rintro e w' ⟨rfl,⟨nd,rfl⟩⟩;refine⟨_,rfl,?_⟩)|(refine gL 159 11 func159 #[.string a0] ?_;(with_reducible refine(qC.calls k a0 true _ A4.out).mono ?_);rintro e w' ⟨rfl,⟨nd,rfl⟩⟩;refine⟨_,rfl,?_⟩))
   go_ret;exact⟨er,ul HB.out⟩
  ·obtain⟨aJa,alT⟩:=nm ([34]:List Int);rw[←alT.out]at H
   (try rw[Option.bind_some]at H);have H':=ak H;clear H;go_enter func151,ntmps151;go_wp2_with (first|(refine gL 75 7 func75 #[.string a0] ?_;(with_reducible refine(bU.calls k a0 true _ A2.out).mono ?_);rintro e w' ⟨rfl,⟨nd,rfl⟩⟩;refine⟨_,rfl,?_⟩)|(refine gL 159 11 func159 #[.string a0] ?_;(with_reducible refine(qC.calls k a0 false _ A4.out).mono ?_);rintro e w' ⟨rfl,⟨nd,rfl⟩⟩;refine⟨_,rfl,?_⟩)|((with_reducible refine bG (N:=13) rfl ?_);refine nD (Kd.int .u8) _ 5 ?hg (N:=13) ?hd (xs:=([34]:List Int)) (inner:=[.int .u8 34]) (ok:=fun _=>True) (oO:=fun _=>True) ?hr ?hp (fun _ hk=>hk) trivial (Below.refl _ _) (Nat.le_refl _) (by simp) ?_;(case hd=>rfl);(case hg=>rfl);(case hr=>first|(go_simp;done)|(go_simp;rfl));(case hp=>exact(iW.one (show Kd.M (Kd.int .u8) _ _ _ 34 [.int .u8 34]from rfl) (iW.none _ _)));intro aPN w6 ho7 hb oP gY;clear oP gY;(first|rw[←alT.out]at ho7|(simp only[Int.reduceToNat]at ho7;rw[←alT.out]at ho7));have aBp:=ak (bQ ho7 (aA (ul HB.out)));replace HB:=bs HB hb;clear hb ho7))
   go_loopg [3,16] k (fun kq v3 v16 w'=>∃(dS:List Int) (vw:Int),v16= .int .i64 vw∧ay (jo.l0 kq a0 dS (a0.size:Int) vw=some r)∧ay (kq≤k)∧ay (Kd.R (Kd.int .u8) 5 w' w.heap.size (fun _=>True) v3 dS)∧ay (Below w.heap.size w w'))
   case atStart=>exact⟨(aJa),(0),rs,H',⟨Nat.le_refl _⟩,⟨ur aBp.out⟩,⟨ul HB.out⟩⟩
   case round=>
    clear H';try clear c1
    try clear p2
    try clear c3
    try clear c5
    try clear c7
    obtain⟨dS,vw,rfl,HA,iM,nP,HB⟩:=hrel
    cases gk with
    |zero=>exact absurd HA.out (by simp[jo.l0])
    |succ k1=>
     have H:=HA.out;clear HA;simp only[jo.l0]at H;replace H:=sd H;rcases H with⟨rV,H⟩|⟨rV,H⟩
     ·replace H:=oL H;obtain⟨vI,H⟩:=H;replace H:=oL H;obtain⟨rW,H⟩:=H;replace H:=sq H;rcases H with⟨wG,Hw,H⟩|⟨c12,wG,Hw,H⟩
      ·replace H:=nl H;obtain⟨aBq,H⟩:=H;obtain⟨alR,atZ⟩:=nm (dS++[92]);rw[←atZ.out]at H
       (try rw[Option.bind_some]at H);replace H:=nl H;obtain⟨aBr,H⟩:=H;obtain⟨aJb,at1⟩:=nm (alR++[bt a0 vw]);rw[←at1.out]at H
       (try rw[Option.bind_some]at H);have H':=ak H;clear H;obtain⟨p11,q11,ac_⟩:=bx a0 vw;go_wp2_with (first|((with_reducible refine bM (b:= .append) (xs:=#[.tmp 29, .tmp 30]) rfl ?_);at_builtin;refine iT (Kd.int .u8) (w0:=w) w.heap.size rfl (.tmp 29) (.tmp 30) 77 5 (.int .u8 0) 1 rfl underlying77 info5 rfl (by decide) (by omega) u3 dS 92 [.int .u8 92] (fun _=>True) (fun _=>False) rfl rfl ?aP (fun _ hk=>hk.elim) ?aF ?aO ?aB ?aS ?aL ?_;(case aP=>exact rfl);(case aB=>exact(ul HB.out));(case aF=>exact(fun _ _=>trivial));(case aO=>exact(ur nP.out));(case aS=>exact(aA (ul HB.out)));(case aL=>have:=aBq.out;omega);intro aJc w16 ho hb hg hat;rw[←atZ.out]at ho;have iE:=ak (hb);have iF:=ak (ho);clear HB;clear nP;have HB:=iE;have at6:=iF;clear iE iF;clear ho hb hg hat;have p14:0≤(vw:Int):=of_decide_eq_true (by assumption);have q14:vw<(a0.size:Int):=of_decide_eq_true (by assumption);have aBs:=vK a0 vw;replace p14:=eq_true p14;replace q14:=eq_true q14)|((with_reducible refine bM (b:= .append) (xs:=#[.tmp 32, .tmp 36]) rfl ?_);at_builtin;refine iT (Kd.int .u8) (w0:=w) w.heap.size rfl (.tmp 32) (.tmp 36) 77 5 (.int .u8 0) 1 rfl underlying77 info5 rfl (by decide) (by omega) aJc alR (bt a0 vw) [.int .u8 (bt a0 vw)] (fun _=>True) (fun _=>False) rfl rfl ?aP (fun _ hk=>hk.elim) ?aF ?aO ?aB ?aS ?aL ?_;(case aP=>exact rfl);(case aB=>exact(ul HB.out));(case aF=>exact(fun _ _=>trivial));(case aO=>exact(ur at6.out));(case aS=>exact(aA (ul HB.out)));(case aL=>have:=aBr.out;omega);intro aPO w17 ho hb hg hat;rw[←at1.out]at ho;have iE:=ak (hb);have iF:=ak (ho);clear HB;clear at6;have HB:=iE;have aBt:=iF;clear iE iF;clear ho hb hg hat))
       go_roundg k1
       case measure=>have:=iM.out;omega
       case rel=>exact⟨(aJb),(wrap64 (vw+1)),rs,H',⟨by have:=iM.out;omega⟩,⟨ur aBt.out⟩,⟨ul HB.out⟩⟩
      ·replace H:=sq H;rcases H with⟨Dh,FY,H⟩|⟨c19,Dh,FY,H⟩
       ·replace H:=nl H;obtain⟨ali,H⟩:=H;obtain⟨alS,at7⟩:=nm (dS++[92]);rw[←at7.out]at H
        (try rw[Option.bind_some]at H);replace H:=nl H;obtain⟨akQ,H⟩:=H;obtain⟨aJd,aua⟩:=nm (alS++[bt a0 vw]);rw[←aua.out]at H
        (try rw[Option.bind_some]at H);have H':=ak H;clear H;obtain⟨p11,q11,ac_⟩:=bx a0 vw;obtain⟨p18,q18,ayN⟩:=bx a0 vw;go_wp2_with (first|((with_reducible refine bM (b:= .append) (xs:=#[.tmp 29, .tmp 30]) rfl ?_);at_builtin;refine iT (Kd.int .u8) (w0:=w) w.heap.size rfl (.tmp 29) (.tmp 30) 77 5 (.int .u8 0) 1 rfl underlying77 info5 rfl (by decide) (by omega) u3 dS 92 [.int .u8 92] (fun _=>True) (fun _=>False) rfl rfl ?aP (fun _ hk=>hk.elim) ?aF ?aO ?aB ?aS ?aL ?_;(case aP=>exact rfl);(case aB=>exact(ul HB.out));(case aF=>exact(fun _ _=>trivial));(case aO=>exact(ur nP.out));(case aS=>exact(aA (ul HB.out)));(case aL=>have:=ali.out;omega);intro aJe w23 ho hb hg hat;rw[←at7.out]at ho;have iE:=ak (hb);have iF:=ak (ho);clear HB;clear nP;have HB:=iE;have aub:=iF;clear iE iF;clear ho hb hg hat;have p21:0≤(vw:Int):=of_decide_eq_true (by assumption);have q21:vw<(a0.size:Int):=of_decide_eq_true (by assumption);have aPP:=vK a0 vw;replace p21:=eq_true p21;replace q21:=eq_true q21)|((with_reducible refine bM (b:= .append) (xs:=#[.tmp 32, .tmp 36]) rfl ?_);at_builtin;refine iT (Kd.int .u8) (w0:=w) w.heap.size rfl (.tmp 32) (.tmp 36) 77 5 (.int .u8 0) 1 rfl underlying77 info5 rfl (by decide) (by omega) aJe alS (bt a0 vw) [.int .u8 (bt a0 vw)] (fun _=>True) (fun _=>False) rfl rfl ?aP (fun _ hk=>hk.elim) ?aF ?aO ?aB ?aS ?aL ?_;(case aP=>exact rfl);(case aB=>exact(ul HB.out));(case aF=>exact(fun _ _=>trivial));(case aO=>exact(ur aub.out));(case aS=>exact(aA (ul HB.out)));(case aL=>have:=akQ.out;omega);intro aPQ w24 ho hb hg hat;rw[←aua.out]at ho;have iE:=ak (hb);have iF:=ak (ho);clear HB;clear aub;have HB:=iE;have aBu:=iF;clear iE iF;clear ho hb hg hat))
        go_roundg k1
        case measure=>have:=iM.out;omega
        case rel=>exact⟨(aJd),(wrap64 (vw+1)),rs,H',⟨by have:=iM.out;omega⟩,⟨ur aBu.out⟩,⟨ul HB.out⟩⟩
       ·replace H:=nl H;obtain⟨aBv,H⟩:=H;obtain⟨aJf,auc⟩:=nm (dS++[bt a0 vw]);rw[←auc.out]at H
        (try rw[Option.bind_some]at H);have H':=ak H;clear H;obtain⟨p11,q11,ac_⟩:=bx a0 vw;obtain⟨p18,q18,ayN⟩:=bx a0 vw;obtain⟨p25,q25,hx25⟩:=bx a0 vw;go_wp2_with (first|((with_reducible refine bM (b:= .append) (xs:=#[.tmp 32, .tmp 36]) rfl ?_);at_builtin;refine iT (Kd.int .u8) (w0:=w) w.heap.size rfl (.tmp 32) (.tmp 36) 77 5 (.int .u8 0) 1 rfl underlying77 info5 rfl (by decide) (by omega) u3 dS (bt a0 vw) [.int .u8 (bt a0 vw)] (fun _=>True) (fun _=>False) rfl rfl ?aP (fun _ hk=>hk.elim) ?aF ?aO ?aB ?aS ?aL ?_;(case aP=>exact rfl);(case aB=>exact(ul HB.out));(case aF=>exact(fun _ _=>trivial));(case aO=>exact(ur nP.out));(case aS=>exact(aA (ul HB.out)));(case aL=>have:=aBv.out;omega);intro aPR w27 ho hb hg hat;rw[←auc.out]at ho;have iE:=ak (hb);have iF:=ak (ho);clear HB;clear nP;have HB:=iE;have aBw:=iF;clear iE iF;clear ho hb hg hat))
        go_roundg k1
        case measure=>have:=iM.out;omega
        case rel=>exact⟨(aJf),(wrap64 (vw+1)),rs,H',⟨by have:=iM.out;omega⟩,⟨ur aBw.out⟩,⟨ul HB.out⟩⟩
     ·replace H:=nl H;obtain⟨aBx,H⟩:=H;obtain⟨aPS,aud⟩:=nm (dS++[34]);rw[←aud.out]at H
      (try rw[Option.bind_some]at H);obtain rfl:=Option.some.inj H;go_wp2_with (first|((with_reducible refine bM (b:= .append) (xs:=#[.tmp 39, .tmp 40]) rfl ?_);at_builtin;refine iT (Kd.int .u8) (w0:=w) w.heap.size rfl (.tmp 39) (.tmp 40) 77 5 (.int .u8 0) 1 rfl underlying77 info5 rfl (by decide) (by omega) u3 dS 34 [.int .u8 34] (fun _=>True) (fun _=>False) rfl rfl ?aP (fun _ hk=>hk.elim) ?aF ?aO ?aB ?aS ?aL ?_;(case aP=>exact rfl);(case aB=>exact(ul HB.out));(case aF=>exact(fun _ _=>trivial));(case aO=>exact(ur nP.out));(case aS=>exact(aA (ul HB.out)));(case aL=>have:=aBx.out;omega);intro aPT w29 ho hb hg hat;rw[←aud.out]at ho;have iE:=ak (hb);have iF:=ak (ho);clear HB;clear nP;have HB:=iE;have aBy:=iF;clear iE iF;clear ho hb hg hat;have aL3:=FV (P:=Tryz.prog) underlying77 underlying5 underlying9 (FW aBy.out)))
      go_ret;exact⟨er,ul HB.out⟩
 ·obtain rfl:=Option.some.inj H;go_enter func151,ntmps151;go_wp2_with (first|(refine gL 75 7 func75 #[.string a0] ?_;(with_reducible refine(bU.calls k a0 false _ A2.out).mono ?_);rintro e w' ⟨rfl,⟨nd,rfl⟩⟩;refine⟨_,rfl,?_⟩))
  go_ret;exact⟨er,ul HB.out⟩
def iP.l0:Nat→ByteArray→List (gI)→Int→Int→Option (ByteArray)
 |0,_,_,_,_=>none
 |k+1,x3,Wj,x14,x15=>if x15<x14 then(if 0≤x15 then(if x15<(Wj.length:Int)then(if 2+((aG Wj x15).f0).size≤9223372036854775807 then(if((⟨#[59,32]⟩:ByteArray)++((aG Wj x15).f0)).size+1≤9223372036854775807 then((jo.f k ((aG Wj x15).f1)).bind fun Wn=>(if(((⟨#[59,32]⟩:ByteArray)++((aG Wj x15).f0))++(⟨#[61]⟩:ByteArray)).size+Wn.size≤9223372036854775807 then(if x3.size+((((⟨#[59,32]⟩:ByteArray)++((aG Wj x15).f0))++(⟨#[61]⟩:ByteArray))++Wn).size≤9223372036854775807 then(iP.l0 k (x3++((((⟨#[59,32]⟩:ByteArray)++((aG Wj x15).f0))++(⟨#[61]⟩:ByteArray))++Wn)) Wj x14 (wrap64 (x15+1)))else(none))else(none)))else(none))else(none))else(none))else(none))else(some x3)
def iP.f(k:Nat)(bT:ByteArray)(cZ:ByteArray)(aH:List (gI)):Option (ByteArray):=if bT.size+1≤9223372036854775807 then(if(bT++(⟨#[47]⟩:ByteArray)).size+cZ.size≤9223372036854775807 then(iP.l0 k ((bT++(⟨#[47]⟩:ByteArray))++cZ) aH (aH.length:Int) 0)else(none))else(none)
set_option maxHeartbeats 8000000 in
set_option maxRecDepth 100000 in
theorem iP.calls(k:Nat)(bT:ByteArray)(cZ:ByteArray)(iw:Option Addr)(fC:Nat)(aH:List (gI))(r:ByteArray)(w:World)(lZ:Kd.C oN w iw aH.length aH)(l7:aH.length≤fC)(h:iP.f k bT cZ aH=some r):
  Calls Tryz.prog 133 #[.agg #[.string bT, .string cZ, .slice iw aH.length fC]] w fun e w'=>e= .returned (.string r)∧Below w.heap.size w w':=by
 have ada:=underlying90;have Jo:=underlying63;have lC:=ak lZ;have oz:=ak l7;clear lZ l7;have HB:=ak (Below.refl w.heap.size w);have H:(if bT.size+1≤9223372036854775807 then(if(bT++(⟨#[47]⟩:ByteArray)).size+cZ.size≤9223372036854775807 then(iP.l0 k ((bT++(⟨#[47]⟩:ByteArray))++cZ) aH (aH.length:Int) 0)else(none))else(none))=some r:=h;clear h;replace H:=nn H;obtain⟨c2,H⟩:=H;have zY:=eq_true c2;have PV:=decide_eq_true c2;try have alU:(9223372036854775807<bT.size+1)=False:=eq_false (Nat.not_lt.2 c2)
 replace H:=nn H;obtain⟨c3,H⟩:=H;have iK:=eq_true c3;have xW:=decide_eq_true c3;try have aPU:(9223372036854775807<bT.size+1+cZ.size)=False:=by have h_:=(eq_false (Nat.not_lt.2 c3):(9223372036854775807<(bT++(⟨#[47]⟩:ByteArray)).size+cZ.size)=False);simp only[ByteArray.size_append]at h_;exact h_
 try have VX:(9223372036854775807<(bT++(⟨#[47]⟩:ByteArray)).size+cZ.size)=False:=eq_false (Nat.not_lt.2 c3)
 have H':=ak H;clear H;go_enter func133,ntmps133;go_wp2_with (first|(refine bE 1 #[.string bT, .string cZ, .slice iw aH.length fC] 90 ?_;intro ahI hg w4 hbox hb;have DV:=ak (hbox);have aL4:=lq HB hg;have aL5:=lq HB hg;replace HB:=bs HB hb;clear hb hbox hg;obtain⟨awV,awW,awX,awY,awZ,aw0⟩:=jO DV.out))
 go_loopg [3,15] k (fun kq v3 v15 w'=>∃(dS:ByteArray) (lI:Int),v3= .string dS∧v15= .int .i64 lI∧ay (iP.l0 kq dS aH (aH.length:Int) lI=some r)∧ay (kq≤k)∧ay (w'.heap[ahI]? =some (.cells #[.string bT, .string cZ,(.slice iw aH.length fC)] 90 (0,0)))∧ay (Below w.heap.size w w'))
 case atStart=>exact⟨((bT++(⟨#[47]⟩:ByteArray))++cZ),(0),rs,rs,H',⟨Nat.le_refl _⟩,⟨ub DV.out⟩,⟨bb⟩⟩
 case round=>
  clear H';try clear c1
  try clear c2
  try clear zY
  try clear PV
  try clear alU
  try clear p2
  try clear c3
  try clear iK
  try clear xW
  try clear VX
  try clear awV
  try clear awW
  try clear awX
  try clear awY
  try clear awZ
  try clear aw0
  obtain⟨dS,lI,rfl,rfl,HA,iM,DV,HB⟩:=hrel
  cases gk with
  |zero=>exact absurd HA.out (by simp[iP.l0])
  |succ k1=>
   have H:=HA.out;clear HA;simp only[iP.l0]at H;replace H:=sd H;rcases H with⟨mG,H⟩|⟨mG,H⟩
   ·replace H:=oL H;obtain⟨qp,H⟩:=H;replace H:=oL H;obtain⟨rV,H⟩:=H;replace H:=nn H;obtain⟨c9,H⟩:=H;have vI:=eq_true c9;have Df:=decide_eq_true c9;try have aqD:(9223372036854775807<2+((aG aH lI).f0).size)=False:=eq_false (Nat.not_lt.2 c9)
    replace H:=nn H;obtain⟨c10,H⟩:=H;have rW:=eq_true c10;have xk:=decide_eq_true c10;try have aBz:(9223372036854775807<2+((aG aH lI).f0).size+1)=False:=by have h_:=(eq_false (Nat.not_lt.2 c10):(9223372036854775807<((⟨#[59,32]⟩:ByteArray)++((aG aH lI).f0)).size+1)=False);simp only[ByteArray.size_append]at h_;exact h_
    try have agG:(9223372036854775807<((⟨#[59,32]⟩:ByteArray)++((aG aH lI).f0)).size+1)=False:=eq_false (Nat.not_lt.2 c10)
    replace H:=bd H;obtain⟨Wn,A11,H⟩:=H;replace H:=nn H;obtain⟨c12,H⟩:=H;have wG:=eq_true c12;have Hw:=decide_eq_true c12;try have aL6:(9223372036854775807<2+((aG aH lI).f0).size+1+Wn.size)=False:=by have h_:=(eq_false (Nat.not_lt.2 c12):(9223372036854775807<(((⟨#[59,32]⟩:ByteArray)++((aG aH lI).f0))++(⟨#[61]⟩:ByteArray)).size+Wn.size)=False);simp only[ByteArray.size_append]at h_;exact h_
    try have azG:(9223372036854775807<(((⟨#[59,32]⟩:ByteArray)++((aG aH lI).f0))++(⟨#[61]⟩:ByteArray)).size+Wn.size)=False:=eq_false (Nat.not_lt.2 c12)
    replace H:=nn H;obtain⟨c13,H⟩:=H;have vJ:=eq_true c13;have BP:=decide_eq_true c13;try have aBA:(9223372036854775807<dS.size+(2+((aG aH lI).f0).size+1+Wn.size))=False:=by have h_:=(eq_false (Nat.not_lt.2 c13):(9223372036854775807<dS.size+((((⟨#[59,32]⟩:ByteArray)++((aG aH lI).f0))++(⟨#[61]⟩:ByteArray))++Wn).size)=False);simp only[ByteArray.size_append]at h_;exact h_
    try have acY:(9223372036854775807<dS.size+((((⟨#[59,32]⟩:ByteArray)++((aG aH lI).f0))++(⟨#[61]⟩:ByteArray))++Wn).size)=False:=eq_false (Nat.not_lt.2 c13)
    have H':=ak H;clear H;have aw1:=zi lI;have aw2:=zj lI aH.length;obtain⟨aBB,aJg,ahJ,ahK⟩:=oC lC.out lI aw1 aw2;cases aJg;replace ahJ:=cl HB.out ahJ;replace ahK:=cl HB.out ahK;replace aw1:=eq_true aw1;replace aw2:=eq_true aw2;try go_wp2_with (first|(refine bE 5 #[.string (⟨#[]⟩:ByteArray), .string (⟨#[]⟩:ByteArray)] 63 ?_;intro Gi hg Us hbox hb;have JA:=ak (hbox);have aL7:=ak ((by rw[hg];exact(aA bb):w.heap.size≤Gi));have aL8:=ak ((by rw[hg];exact(aA bb):w.heap.size≤Gi));have UW:=ak ((by rw[hg];exact Nat.ne_of_lt (dR (ub DV.out)):ahI≠Gi));have ai4:=ak ((by rw[hg];exact Nat.ne_of_gt (dR (ub DV.out)):Gi≠ahI));replace DV:=kb DV hb;replace HB:=ak (aC bb hb);clear hb hbox hg;have aL9:=ai4.out;have aL_:=UW.out;obtain⟨JQ,JR,JU,JV⟩:=Ah JA.out))
    have iE:ay (((Us.setCell ⟨Gi,0,none⟩ (.string ((aG aH lI).f0))).setCell ⟨Gi,1,none⟩ (.string ((aG aH lI).f1))).heap[ahI]? =some (.cells #[.string bT, .string cZ, .slice (some aBB) aH.length fC] 90 (0,0))):=⟨by(with_reducible repeat(first|refine aj ?_ _|refine au ?_|refine ah ?_ _));refine bV ?_ UW.out _;(with_reducible repeat(first|refine aj ?_ _|refine au ?_|refine ah ?_ _));refine bV ?_ UW.out _;(with_reducible repeat(first|refine aj ?_ _|refine au ?_|refine ah ?_ _));exact DV.out⟩
    have iF:ay (((Us.setCell ⟨Gi,0,none⟩ (.string ((aG aH lI).f0))).setCell ⟨Gi,1,none⟩ (.string ((aG aH lI).f1))).heap[Gi]? =some (.cells #[.string ((aG aH lI).f0), .string ((aG aH lI).f1)] 63 (0,0))):=⟨by(with_reducible repeat(first|refine aj ?_ _|refine au ?_|refine ah ?_ _));refine aI (cs:=#[.string ((aG aH lI).f0), .string (⟨#[]⟩:ByteArray)]) ?_ 1 _ rfl;(with_reducible repeat(first|refine aj ?_ _|refine au ?_|refine ah ?_ _));refine aI (cs:=#[.string (⟨#[]⟩:ByteArray), .string (⟨#[]⟩:ByteArray)]) ?_ 0 _ rfl;(with_reducible repeat(first|refine aj ?_ _|refine au ?_|refine ah ?_ _));exact JA.out⟩
    have lD:ay (Below w.heap.size w ((Us.setCell ⟨Gi,0,none⟩ (.string ((aG aH lI).f0))).setCell ⟨Gi,1,none⟩ (.string ((aG aH lI).f1)))):=⟨bb⟩
    (try clear DV)
    (try clear JA)
    (try clear HB)
    generalize ((Us.setCell ⟨Gi,0,none⟩ (.string ((aG aH lI).f0))).setCell ⟨Gi,1,none⟩ (.string ((aG aH lI).f1)))=w17 at iE iF lD⊢
    have DV:=iE;have JA:=iF;have HB:=lD;clear iE iF lD;replace DV:=ak (au DV.out);replace JA:=ak (au JA.out);replace HB:=ak (eG HB.out);refine ro [7] [0,1,5,2,3,4,6,7,8,9,10] (fun w'=>w'.cell? ⟨Gi,0,none⟩=some (.string ((aG aH lI).f0))∧w'.cell? ⟨Gi,1,none⟩=some (.string ((aG aH lI).f1))) ⟨(aJ JA.out 0).trans rfl,(aJ JA.out 1).trans rfl⟩ ?_
    generalize w17.drew=w18 at DV JA HB⊢
    repeat(refine lk (v:=?_) (a':=?_) (gk.trans rfl) rfl rfl ?_ ?_ ?_;rotate_left;(focus (rintro w' ⟨s0,s1⟩;go_simp;with_reducible rfl));rotate_left;(focus (simp only[Act.put,jI,jJ,l_c,bf,bD];rfl)))
    refine ld (N:=some 26) (gk.trans rfl) rfl rfl (fun K hK=>?_);refine nS func151 (by kernel_rfl) rfl #[.string ((aG aH lI).f1)] (by rfl) rfl rfl ma ?_
    with_reducible refine(jo.calls k1 ((aG aH lI).f1) Wn _ A11.out).mono ?_
    rintro e w19 ⟨rfl,hb⟩;refine⟨_,rfl,?_⟩;replace DV:=kb DV hb;replace JA:=kb JA hb;replace HB:=ak (aC bb hb)
    (try clear hb);refine hK.out _ _ ⟨(aJ JA.out 0).trans rfl,(aJ JA.out 1).trans rfl⟩ ?_;clear hK K;refine no (a':=?_) ?_ ?_
    rotate_left
    ·show Act.put _ (some 26) _=_
     simp only[Act.put,jI,jJ,l_c,bf,bD];rfl
    repeat(refine lk (v:=?_) (a':=?_) (gk.trans rfl) rfl rfl ?_ ?_ ?_;rotate_left;(focus (rintro w' ⟨s0,s1⟩;go_simp;with_reducible rfl));rotate_left;(focus (simp only[Act.put,jI,jJ,l_c,bf,bD];rfl)))
    refine on ?_;try go_wp2
    go_roundg k1
    case measure=>have:=iM.out;omega
    case rel=>exact⟨(dS++((((⟨#[59,32]⟩:ByteArray)++((aG aH lI).f0))++(⟨#[61]⟩:ByteArray))++Wn)),(wrap64 (lI+1)),rs,rs,H',⟨by have:=iM.out;omega⟩,⟨ub DV.out⟩,⟨bb⟩⟩
   ·obtain rfl:=Option.some.inj H;go_wp2;go_ret;exact⟨er,bb⟩
mutual
def dF.j0:Nat→Bool→ByteArray→ByteArray→List (gI)→Option (Bool)
 |0,_,_,_,_=>none
 |k+1,x20,Xh,Xi,Ip=>if x20=true then(some false)else(dF.l0 k Ip (Ip.length:Int) 0 Xh Xi Ip)
def dF.l0:Nat→List (gI)→Int→Int→ByteArray→ByteArray→List (gI)→Option (Bool)
 |0,_,_,_,_,_,_=>none
 |k+1,x22,x23,x24,Xh,Xi,Ip=>if x24<x23 then(if 0≤x24 then(if x24<(x22.length:Int)then((iy.f k ((aG x22 x24).f0)).bind fun aBR=>(if aBR=true then((bU.f k ((aG x22 x24).f1)).bind fun aBS=>(if aBS=true then(if(((aG x22 x24).f1).size:Int)>40 then(some false)else(if x24≤(Ip.length:Int)then((mg.f k (Ip.take (x24:Int).toNat) ((aG x22 x24).f0)).bind fun ai5=>(if ai5≥0 then(some false)else(dF.l0 k x22 x23 (wrap64 (x24+1)) Xh Xi Ip)))else(none)))else(some false)))else(some false)))else(none))else(none))else((iP.f k Xh Xi Ip).bind fun axg=>(some (decide ((axg.size:Int)≤150))))
end
def dF.f(k:Nat)(bT:ByteArray)(cZ:ByteArray)(aH:List (gI)):Option (Bool):=(iy.f k bT).bind fun aqH=>(if aqH=true then((iy.f k cZ).bind fun aqI=>(if aqI=true then(dF.j0 k (decide ((aH.length:Int)>4)) bT cZ aH)else(dF.j0 k true bT cZ aH)))else(dF.j0 k true bT cZ aH))
theorem dF.calls(k:Nat)(bT:ByteArray)(cZ:ByteArray)(iw:Option Addr)(fC:Nat)(aH:List (gI))(r:Bool)(w:World)(lZ:Kd.C oN w iw aH.length aH)(l7:aH.length≤fC)(h:dF.f k bT cZ aH=some r):
  Calls Tryz.prog 101 #[.agg #[.string bT, .string cZ, .slice iw aH.length fC]] w fun e w'=>e= .returned (.bool r)∧Below w.heap.size w w':=by
 have ada:=underlying90;have Jo:=underlying63;have lC:=ak lZ;have oz:=ak l7;clear lZ l7;have HB:=ak (Below.refl w.heap.size w);have H:((iy.f k bT).bind fun aqH=>(if aqH=true then((iy.f k cZ).bind fun aqI=>(if aqI=true then(dF.j0 k (decide ((aH.length:Int)>4)) bT cZ aH)else(dF.j0 k true bT cZ aH)))else(dF.j0 k true bT cZ aH)))=some r:=h;clear h;have HC2:=ak H;clear H;go_enter func101,ntmps101;go_upto_region 1 with(refine gG 1 ?_;refine bX HB 1 #[.string bT, .string cZ, .slice iw aH.length fC] 90 ?_;intro xJ w3 fF aMj hb;replace HB:=bs HB hb;clear hb)
 (try simp only[Act.put,jI,jJ,l_c]);go_cut [20] (fun v20 wc=>∃(kq:Nat) (alY:Bool),v20= .bool alY∧ay (dF.j0 kq alY bT cZ aH=some r)∧ay (kq≤k)∧ay (wc.heap[xJ]? =some (.cells #[.string bT, .string cZ,(.slice iw aH.length fC)] 90 (0,0)))∧ay (Below w.heap.size w wc))
 case first=>
  have H:=HC2.out;clear HC2;replace H:=bd H;obtain⟨aqH,A4,H⟩:=H;replace H:=sb H;rcases H with⟨rfl,H⟩|⟨rfl,H⟩
  ·replace H:=bd H;obtain⟨aqI,A6,H⟩:=H;replace H:=sb H;rcases H with⟨rfl,H⟩|⟨rfl,H⟩
   ·have H':=ak H;clear H;have z8:=jO fF.out;go_wp2_with (first|(refine gB func132 (iy.calls k bT true _ A4.out) ?_;intro w9 hb;replace fF:=kb fF hb;replace HB:=bz HB hb;clear hb;have z10:=jO fF.out)|(go_at_call 132;refine mB (iy.calls k cZ true _ A6.out) ?_;intro Uy hb;replace fF:=kb fF hb;replace HB:=bz HB hb;clear hb;have z12:=jO fF.out))
    go_meet
    case rel=>exact⟨_,_,rs,H',⟨XV⟩,⟨ub fF.out⟩,⟨bb⟩⟩
   ·have H':=ak H;clear H;have z13:=jO fF.out;go_wp2_with (first|(refine gB func132 (iy.calls k bT true _ A4.out) ?_;intro Us hb;replace fF:=kb fF hb;replace HB:=bz HB hb;clear hb;have z15:=jO fF.out)|(go_at_call 132;refine mB (iy.calls k cZ false _ A6.out) ?_;intro w16 hb;replace fF:=kb fF hb;replace HB:=bz HB hb;clear hb))
    go_meet
    case rel=>exact⟨_,_,rs,H',⟨XV⟩,⟨ub fF.out⟩,⟨bb⟩⟩
  ·have H':=ak H;clear H;have z17:=jO fF.out;go_wp2_with (refine gB func132 (iy.calls k bT false _ A4.out) ?_;intro w18 hb;replace fF:=kb fF hb;replace HB:=bz HB hb;clear hb)
   go_meet
   case rel=>exact⟨_,_,rs,H',⟨XV⟩,⟨ub fF.out⟩,⟨bb⟩⟩
 case rest=>
  clear HC2;obtain⟨kq,alY,rfl,HA,Oi,fF,HB⟩:=hcut
  cases kq with
  |zero=>exact zz HA.out
  |succ Oj=>
   obtain⟨H⟩:=HA;simp only[dF.j0]at H;replace H:=sb H;rcases H with⟨rfl,H⟩|⟨rfl,H⟩
   ·obtain rfl:=s1 H;go_wp2;go_ret;exact⟨er,bb⟩
   ·have H':=ak H;clear H;have z20:=jO fF.out;go_wp2;go_loopg [24] Oj (fun kq v24 w'=>∃(eX:Int),v24= .int .i64 eX∧ay (dF.l0 kq aH (aH.length:Int) eX bT cZ aH=some r)∧ay (kq≤Oj)∧ay (w'.heap[xJ]? =some (.cells #[.string bT, .string cZ,(.slice iw aH.length fC)] 90 (0,0)))∧ay (Below w.heap.size w w'))
    case atStart=>exact⟨_,rs,H',⟨Nat.le_refl _⟩,⟨ub fF.out⟩,⟨bb⟩⟩
    case round=>
     clear H';obtain⟨eX,rfl,HA,yR,fF,HB⟩:=hrel
     cases gk with
     |zero=>exact zz HA.out
     |succ k2=>
      obtain⟨H⟩:=HA;simp only[dF.l0]at H;replace H:=sd H;rcases H with⟨FZ,H⟩|⟨FZ,H⟩
      ·replace H:=oL H;obtain⟨OM,H⟩:=H;replace H:=oL H;obtain⟨L8,H⟩:=H;replace H:=bd H;obtain⟨aBR,A24,H⟩:=H;replace H:=sb H;rcases H with⟨rfl,H⟩|⟨rfl,H⟩
       ·replace H:=bd H;obtain⟨aBS,A26,H⟩:=H;replace H:=sb H;rcases H with⟨rfl,H⟩|⟨rfl,H⟩
        ·replace H:=sp H;rcases H with⟨c28,H⟩|⟨c28,H⟩
         ·have OQ:decide (40<(((aG aH eX).f1).size:Int))=true:=decide_eq_true c28;have ahG:decide (40<((aG aH eX).f1).size)=true:=decide_eq_true (by omega);clear c28;obtain rfl:=s1 H;have Kw:=zi eX;have Ky:=zj eX aH.length;obtain⟨Dn,abG,wL,wM⟩:=oC lC.out eX Kw Ky;cases abG;replace wL:=cl HB.out wL;replace wM:=cl HB.out wM;replace Kw:=eq_true Kw;replace Ky:=eq_true Ky;try go_wp2_with (refine gG 4 ?_;refine bY HB 4 #[.string (⟨#[]⟩:ByteArray), .string (⟨#[]⟩:ByteArray)] 63 ?_;intro jh w29 iU ahR hg hb;have mY:=nl_ fF hg;have yt:=ng_ fF hg;replace fF:=kb fF hb;replace HB:=bz HB hb;clear hb hg;have aMl:=yt.out;have aMm:=mY.out;have z31:=Ah iU.out)
          refine ab2 HB iU ahR ?_;intro w32 aah hk HB;replace fF:=kf fF hk mY;clear hk iU;have iU:=aah;clear aah;refine rO [2,7] [0,1,2,3,4,5,6,7,8,9,10,11,12,13,14,15,16,17,18,19,20,21,22,23,24,25] (fun w'=>w'.cell? ⟨jh,0,none⟩=some (.string ((aG aH eX).f0))∧w'.cell? ⟨jh,1,none⟩=some (.string ((aG aH eX).f1))) ?_;intro w33 hb;replace fF:=kb fF hb;replace iU:=kb iU hb;replace HB:=bs HB hb;refine⟨sx,?_⟩;repeat(first|refine lo_ ?_|refine lg_ ?_)
          refine rB func132 (iy.calls k2 ((aG aH eX).f0) true _ A24.out) ?_;intro w34 hb;replace fF:=kb fF hb;replace iU:=kb iU hb;replace HB:=bz HB hb;clear hb;refine⟨sx,?_⟩;repeat(first|refine lo_ ?_|refine lg_ ?_)
          refine rA func75 (bU.calls k2 ((aG aH eX).f1) true _ A26.out) ?_;intro nd;refine⟨sx,?_⟩;repeat(first|refine lo_ ?_|refine lg_ ?_)
          refine on ?_;try go_wp2
          go_ret;exact⟨er,bb⟩
         ·have OQ:decide (40<(((aG aH eX).f1).size:Int))=false:=decide_eq_false c28;have ahG:decide (40<((aG aH eX).f1).size)=false:=decide_eq_false (by omega);clear c28;have ZH:=eq_true (of_decide_eq_true (by assumption):0≤eX);replace H:=Fe H;obtain⟨alZ,aBT,H⟩:=H;obtain⟨adg,adh⟩:=nm (aH.take (eX:Int).toNat);rw[←adh.out]at H;replace H:=bd H;obtain⟨ai5,A37,H⟩:=H;replace H:=sp H;rcases H with⟨c38,H⟩|⟨c38,H⟩
          ·have atz:decide (0≤ai5)=true:=decide_eq_true c38;clear c38;obtain rfl:=s1 H;have Kw:=zi eX;have Ky:=zj eX aH.length;obtain⟨Dn,abG,wL,wM⟩:=oC lC.out eX Kw Ky;cases abG;replace wL:=cl HB.out wL;replace wM:=cl HB.out wM;replace Kw:=eq_true Kw;replace Ky:=eq_true Ky;try go_wp2_with (refine gG 4 ?_;refine bY HB 4 #[.string (⟨#[]⟩:ByteArray), .string (⟨#[]⟩:ByteArray)] 63 ?_;intro jh w39 iU ahR hg hb;have mY:=nl_ fF hg;have yt:=ng_ fF hg;replace fF:=kb fF hb;replace HB:=bz HB hb;clear hb hg;have aMn:=yt.out;have aMo:=mY.out;have z41:=Ah iU.out)
           refine ab2 HB iU ahR ?_;intro w42 aah hk HB;replace fF:=kf fF hk mY;clear hk iU;have iU:=aah;clear aah;refine rO [2,7,23] [0,1,2,3,4,5,6,7,8,9,10,11,12,13,14,15,16,17,19,21,18,20,22,23,24,25] (fun w'=>w'.cell? ⟨jh,0,none⟩=some (.string ((aG aH eX).f0))∧w'.cell? ⟨jh,1,none⟩=some (.string ((aG aH eX).f1))∧w'.cell? ⟨xJ,0,none⟩=some (.string bT)∧w'.cell? ⟨xJ,1,none⟩=some (.string cZ)∧w'.cell? ⟨xJ,2,none⟩=some (.slice (some Dn) aH.length fC)) ?_;intro w43 hb;replace fF:=kb fF hb;replace iU:=kb iU hb;replace HB:=bs HB hb;refine⟨sx,?_⟩;repeat refine lo_ ?_
           refine rB func132 (iy.calls k2 ((aG aH eX).f0) true _ A24.out) ?_;intro w44 hb;replace fF:=kb fF hb;replace iU:=kb iU hb;replace HB:=bz HB hb;clear hb;refine⟨sx,?_⟩;repeat refine lo_ ?_
           refine rA func75 (bU.calls k2 ((aG aH eX).f1) true _ A26.out) ?_;intro nd;have q45:(eX:Int)≤((aH.length:Int):Int):=of_decide_eq_true (by assumption);obtain⟨aPY,aui,_,aBU,_⟩:=info_parts Fz;have ahT:aH.length≤fC:=oz.out;have aBV:Kd.C oN _ (some Dn) aH.length aH:=lC.out;have axh:=abH (P:=Tryz.prog) 29 63 .i64 underlying29 aui (some Dn) aH.length fC eX (of_decide_eq_true (by assumption)) q45 ahT;have axi:=abI (m:=(eX:Int).toNat) aBV (by omega);have axj:adg.length=(eX:Int).toNat:=(by rw[adh.out,List.length_take];omega)
           rw[←adh.out]at axi;rw[←axj]at axh;have al0:=ak axi;have al1:=ak (show adg.length≤fC from by omega);clear axi aBV ahT aui aBU;have aPZ:=ak axj;clear axj;replace q45:=eq_true q45;refine⟨sx,?_⟩;repeat refine lo_ ?_
           refine rB func97 (mg.calls k2 _ _ adg ((aG aH eX).f0) ai5 _ (cu (aT al0.out bb)) al1.out A37.out) ?_;intro w46 hb;replace fF:=kb fF hb;replace iU:=kb iU hb;replace HB:=bz HB hb;clear hb;refine⟨sx,?_⟩;repeat refine lo_ ?_
           refine on ?_;try go_wp2
           go_ret;exact⟨er,bb⟩
          ·have atz:decide (0≤ai5)=false:=decide_eq_false c38;clear c38;have H':=ak H;clear H;have Kw:=zi eX;have Ky:=zj eX aH.length;obtain⟨Dn,abG,wL,wM⟩:=oC lC.out eX Kw Ky;cases abG;replace wL:=cl HB.out wL;replace wM:=cl HB.out wM;replace Kw:=eq_true Kw;replace Ky:=eq_true Ky;try go_wp2_with (refine gG 4 ?_;refine bY HB 4 #[.string (⟨#[]⟩:ByteArray), .string (⟨#[]⟩:ByteArray)] 63 ?_;intro jh w47 iU ahR hg hb;have mY:=nl_ fF hg;have yt:=ng_ fF hg;replace fF:=kb fF hb;replace HB:=bz HB hb;clear hb hg;have aBK:=yt.out;have aBL:=mY.out;have z49:=Ah iU.out)
           refine ab2 HB iU ahR ?_;intro w50 aah hk HB;replace fF:=kf fF hk mY;clear hk iU;have iU:=aah;clear aah;refine rO [2,7,23] [0,1,2,3,4,5,6,7,8,9,10,11,12,13,14,15,16,17,19,21,18,20,22,23,24,25] (fun w'=>w'.cell? ⟨jh,0,none⟩=some (.string ((aG aH eX).f0))∧w'.cell? ⟨jh,1,none⟩=some (.string ((aG aH eX).f1))∧w'.cell? ⟨xJ,0,none⟩=some (.string bT)∧w'.cell? ⟨xJ,1,none⟩=some (.string cZ)∧w'.cell? ⟨xJ,2,none⟩=some (.slice (some Dn) aH.length fC)) ?_;intro w51 hb;replace fF:=kb fF hb;replace iU:=kb iU hb;replace HB:=bs HB hb;refine⟨sx,?_⟩;repeat refine lo_ ?_
           refine rB func132 (iy.calls k2 ((aG aH eX).f0) true _ A24.out) ?_;intro w52 hb;replace fF:=kb fF hb;replace iU:=kb iU hb;replace HB:=bz HB hb;clear hb;refine⟨sx,?_⟩;repeat refine lo_ ?_
           refine rA func75 (bU.calls k2 ((aG aH eX).f1) true _ A26.out) ?_;intro nd;have q53:(eX:Int)≤((aH.length:Int):Int):=of_decide_eq_true (by assumption);obtain⟨aP0,auj,_,aBW,_⟩:=info_parts Fz;have ahU:aH.length≤fC:=oz.out;have aBX:Kd.C oN _ (some Dn) aH.length aH:=lC.out;have axk:=abH (P:=Tryz.prog) 29 63 .i64 underlying29 auj (some Dn) aH.length fC eX (of_decide_eq_true (by assumption)) q53 ahU;have axl:=abI (m:=(eX:Int).toNat) aBX (by omega);have axn:adg.length=(eX:Int).toNat:=(by rw[adh.out,List.length_take];omega)
           rw[←adh.out]at axl;rw[←axn]at axk;have al0:=ak axl;have al1:=ak (show adg.length≤fC from by omega);clear axl aBX ahU auj aBW;have aP1:=ak axn;clear axn;replace q53:=eq_true q53;refine⟨sx,?_⟩;repeat refine lo_ ?_
           refine rB func97 (mg.calls k2 _ _ adg ((aG aH eX).f0) ai5 _ (cu (aT al0.out bb)) al1.out A37.out) ?_;intro w54 hb;replace fF:=kb fF hb;replace iU:=kb iU hb;replace HB:=bz HB hb;clear hb;refine⟨sx,?_⟩;repeat refine lo_ ?_
           refine on ?_;try go_wp2
           go_roundg k2
           case measure=>exact kl
           case rel=>exact⟨_,rs,H',⟨kl⟩,⟨ub fF.out⟩,⟨bb⟩⟩
        ·obtain rfl:=s1 H;have Kw:=zi eX;have Ky:=zj eX aH.length;obtain⟨Dn,abG,wL,wM⟩:=oC lC.out eX Kw Ky;cases abG;replace wL:=cl HB.out wL;replace wM:=cl HB.out wM;replace Kw:=eq_true Kw;replace Ky:=eq_true Ky;try go_wp2_with (refine gG 4 ?_;refine bY HB 4 #[.string (⟨#[]⟩:ByteArray), .string (⟨#[]⟩:ByteArray)] 63 ?_;intro jh w55 iU ahR hg hb;have mY:=nl_ fF hg;have yt:=ng_ fF hg;replace fF:=kb fF hb;replace HB:=bz HB hb;clear hb hg;have aMp:=yt.out;have aMq:=mY.out;have z57:=Ah iU.out)
         refine ab2 HB iU ahR ?_;intro w58 aah hk HB;replace fF:=kf fF hk mY;clear hk iU;have iU:=aah;clear aah;refine rO [2,7] [0,1,2,3,4,5,6,7,8,9,10,11,12,13,14,15,16,17,18,19,20,21,22,23,24,25] (fun w'=>w'.cell? ⟨jh,0,none⟩=some (.string ((aG aH eX).f0))∧w'.cell? ⟨jh,1,none⟩=some (.string ((aG aH eX).f1))) ?_;intro w59 hb;replace fF:=kb fF hb;replace iU:=kb iU hb;replace HB:=bs HB hb;refine⟨sx,?_⟩;repeat(first|refine lo_ ?_|refine lg_ ?_)
         refine rB func132 (iy.calls k2 ((aG aH eX).f0) true _ A24.out) ?_;intro w60 hb;replace fF:=kb fF hb;replace iU:=kb iU hb;replace HB:=bz HB hb;clear hb;refine⟨sx,?_⟩;repeat(first|refine lo_ ?_|refine lg_ ?_)
         refine rA func75 (bU.calls k2 ((aG aH eX).f1) false _ A26.out) ?_;intro nd;refine⟨sx,?_⟩;repeat(first|refine lo_ ?_|refine lg_ ?_)
         refine on ?_;try go_wp2
         go_ret;exact⟨er,bb⟩
       ·obtain rfl:=s1 H;have Kw:=zi eX;have Ky:=zj eX aH.length;obtain⟨Dn,abG,wL,wM⟩:=oC lC.out eX Kw Ky;cases abG;replace wL:=cl HB.out wL;replace wM:=cl HB.out wM;replace Kw:=eq_true Kw;replace Ky:=eq_true Ky;try go_wp2_with (refine gG 4 ?_;refine bY HB 4 #[.string (⟨#[]⟩:ByteArray), .string (⟨#[]⟩:ByteArray)] 63 ?_;intro jh w61 iU ahR hg hb;have mY:=nl_ fF hg;have yt:=ng_ fF hg;replace fF:=kb fF hb;replace HB:=bz HB hb;clear hb hg;have aAT:=yt.out;have aAU:=mY.out;have z63:=Ah iU.out)
        refine ab2 HB iU ahR ?_;intro w64 aah hk HB;replace fF:=kf fF hk mY;clear hk iU;have iU:=aah;clear aah;refine rO [2] [0,1,2,3,4,5,6,7,8,9,10,11,12,13,14,15,16,17,18,19,20,21,22,23,24,25] (fun w'=>w'.cell? ⟨jh,0,none⟩=some (.string ((aG aH eX).f0))∧w'.cell? ⟨jh,1,none⟩=some (.string ((aG aH eX).f1))) ?_;intro w65 hb;replace fF:=kb fF hb;replace iU:=kb iU hb;replace HB:=bs HB hb;refine⟨sx,?_⟩;repeat(first|refine lo_ ?_|refine lg_ ?_)
        refine rB func132 (iy.calls k2 ((aG aH eX).f0) false _ A24.out) ?_;intro w66 hb;replace fF:=kb fF hb;replace iU:=kb iU hb;replace HB:=bz HB hb;clear hb;refine⟨sx,?_⟩;repeat(first|refine lo_ ?_|refine lg_ ?_)
        refine on ?_;try go_wp2
        go_ret;exact⟨er,bb⟩
      ·replace H:=bd H;obtain⟨axg,A67,H⟩:=H;obtain rfl:=s1 H;have z68:=jO fF.out;go_wp2_with (refine gB func133 (iP.calls k2 bT cZ _ _ aH axg _ (cu (aT lC.out HB.out)) oz.out A67.out) ?_;intro w69 hb;replace fF:=kb fF hb;replace HB:=bz HB hb;clear hb)
       go_ret;exact⟨er,bb⟩
end Go.Proofs.YtdimppdlfgnhgaaGreatDoor.PFnExactParsePart
