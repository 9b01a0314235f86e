/- Proved by hand: the walk of the law FnExactPartAt over the contracts of what it calls; conditions: those in each statement. -/
import Derived.Test.YtdimppdlfgnhgaaGreatDoorPFnExactPartAtx0
import Derived.Test.YtdimppdlfgnhgaaGreatDoorPFnExactPartAtx1
import Derived.Test.YtdimppdlfgnhgaaGreatDoorPFnExactPartAtx2
import Derived.Test.YtdimppdlfgnhgaaGreatDoorPFnExactPartAtx8
import Derived.Test.YtdimppdlfgnhgaaGreatDoorPFnExactPartAtx10
import Derived.Test.YtdimppdlfgnhgaaGreatDoorPFnExactPartAtx16
import Derived.Test.YtdimppdlfgnhgaaGreatDoorPFnExactPartAtx24
import Derived.Test.YtdimppdlfgnhgaaGreatDoorVFnExactPartAtRt
namespace Go.Proofs.YtdimppdlfgnhgaaGreatDoor.PFnExactPartAt
open Go.Proofs.YtdimppdlfgnhgaaGreatDoorW.fD.Kd Go.Proofs.YtdimppdlfgnhgaaGreatDoorW.qy.Kd Go.Proofs.Tryz Go.RowKit Go.Proofs.YtdimppdlfgnhgaaGreatDoor.X Go.Proofs.YtdimppdlfgnhgaaGreatDoorW.fD Go.Proofs.YtdimppdlfgnhgaaGreatDoorW.mZ Go.Proofs.YtdimppdlfgnhgaaGreatDoorW.qy
attribute [local go_sem] BD BF F7 F8 yI yJ BG BH   -- for this text's walks alone
set_option linter.unusedVariables false
set_option linter.unusedSimpArgs false
set_option maxHeartbeats 8000000
set_option maxRecDepth 100000
def jr.l0:Nat→List jm→Int→Int→Option (Int×List jm)
 |0,_,_,_=>none
 |k+1,x0,x1,x5=>if x5<(x0.length:Int)then((g_.f k (aH x0 x5).f0 x1).bind fun b1=>(fU.f k (aH x0 x5).f1 b1.1).bind fun b2=>(jr.l0 k (aH x0 x5).f2 b2.1 0).bind fun b3=>jr.l0 k (x0.set x5.toNat ⟨b1.2,b2.2,b3.2⟩) b3.1 (wrap64 (x5+1)))else some (x1,x0)
abbrev MR (ws w0 w:World) (P Kq o0 o1 o2:Nat→Prop) (v:Value) (xs:List jm) (i g:Nat) (v0 v1 v2:Value) (f0:List iq) (f1:List ByteArray) (f2:List jm):Prop:=
 ((∀k,o0 k→Kq k∧¬o1 k∧¬o2 k)∧(∀k,o1 k→Kq k∧¬o2 k)∧(∀k,o2 k→Kq k)∧(∀k,Kq k→P k∧k≠g))∧
 (lg.R 63 w w0.heap.size o0 v0 f0∧Kd.string.R 9 w w0.heap.size o1 v1 f1∧Kd.S kA 32 w w0.heap.size o2 v2 f2)∧Kd.H kA 32 w w0.heap.size P v xs (i:Int) Kq [v0,v1,v2]∧
 (w.cell? ⟨g,i*3,none⟩=some v0∧w.cell? ⟨g,i*3+1,none⟩=some v1∧w.cell? ⟨g,i*3+2,none⟩=some v2)∧Below w0.heap.size w0 w∧Kept ws w P
section
variable {ws w0 w w':World} {P Kq o0 o1 o2:Nat→Prop} {v:Value} {xs:List jm} {i g:Nat} {v0 v1 v2:Value} {f0 q0:List iq} {f1 q1:List ByteArray} {f2 q2:List jm}
theorem aBi{n c:Nat}(hS:Kd.S kA 32 w w0.heap.size P (.slice (some ⟨g,0,none⟩) n c) xs)(hi:i<n)(hB:Below w0.heap.size w0 w)(hK:Kept ws w P):
  ∃(Kq o0 o1 o2:Nat→Prop) (v0 v1 v2:Value),MR ws w0 w P Kq o0 o1 o2 (.slice (some ⟨g,0,none⟩) n c) xs i g v0 v1 v2 (aH xs (i:Int)).f0 (aH xs (i:Int)).f1 (aH xs (i:Int)).f2:=by
 obtain⟨Kq,cs,hcl,hM,hcc,aGy,hH⟩:=awu hS z32 (i:Int) (by omega) (by omega);rw[Int.toNat_natCast]at hM hcc;obtain⟨v0,v1,v2,o0,o1,o2,rfl,a0,a1,a2,h0,h1,h2⟩:=axL hM;have key:∀(j:Nat) (u:Value),[v0,v1,v2][j]? =some u→w.cell? ⟨g,i*3+j,none⟩=some u:=fun j u hu=>hcc j u hu
 have e:aH xs (i:Int)=xs.getD i z32:=by unfold aH;rw[Int.toNat_natCast]
 rw[e];exact⟨Kq,o0,o1,o2,v0,v1,v2,⟨a0,a1,a2,aGy⟩,⟨h0,h1,h2⟩,hH,⟨key 0 _ rfl,key 1 _ rfl,key 2 _ rfl⟩,hB,hK⟩
theorem aGz(h:MR ws w0 w P Kq o0 o1 o2 v xs i g v0 v1 v2 f0 f1 f2)(hr:lg.R 63 w' w0.heap.size (fun k=>o0 k∨w.heap.size≤k) v0 q0)(hB:Below w0.heap.size w0 w')(hk:Kept w w' (fun k=>o0 k)):MR ws w0 w' P Kq o0 o1 o2 v xs i g v0 v1 v2 q0 f1 f2:=by
 obtain⟨⟨a0,a1,a2,ao⟩,⟨h0,h1,h2⟩,hH,⟨y0,y1,y2⟩,_,hK⟩:=h;have hne:¬o0 g:=fun hh=>(ao g (a0 g hh).1).2 rfl
 exact⟨⟨a0,a1,a2,ao⟩,⟨abN rfl hr (fun k e=>h0.1 k e),yD h1 (fun k hk1 hl=>hk.2 k hl (fun hh=>(a0 k hh).2.1 hk1)),Ol h2 (fun k hk1 hl=>hk.2 k hl (fun hh=>(a0 k hh).2.2 hk1))⟩,aft hH (fun k _ hn hl=>hk.2 k hl (fun hh=>hn (a0 k hh).1)),⟨cell_kept y0 hk hne,cell_kept y1 hk hne,cell_kept y2 hk hne⟩,hB,Kept.then_ hK hk (fun k hh=> .inl (ao k (a0 k hh).1).1)⟩
theorem aGA(h:MR ws w0 w P Kq o0 o1 o2 v xs i g v0 v1 v2 f0 f1 f2)(hr:Kd.string.R 9 w' w0.heap.size (fun k=>o1 k∨w.heap.size≤k) v1 q1)(hB:Below w0.heap.size w0 w')(hk:Kept w w' (fun k=>o1 k)):MR ws w0 w' P Kq o0 o1 o2 v xs i g v0 v1 v2 f0 q1 f2:=by
 obtain⟨⟨a0,a1,a2,ao⟩,⟨h0,h1,h2⟩,hH,⟨y0,y1,y2⟩,_,hK⟩:=h;have hne:¬o1 g:=fun hh=>(ao g (a1 g hh).1).2 rfl
 exact⟨⟨a0,a1,a2,ao⟩,⟨yD h0 (fun k hk1 hl=>hk.2 k hl (fun hh=>(a0 k hk1).2.1 hh)),abN rfl hr (fun k e=>h1.1 k e),Ol h2 (fun k hk1 hl=>hk.2 k hl (fun hh=>(a1 k hh).2 hk1))⟩,aft hH (fun k _ hn hl=>hk.2 k hl (fun hh=>hn (a1 k hh).1)),⟨cell_kept y0 hk hne,cell_kept y1 hk hne,cell_kept y2 hk hne⟩,hB,Kept.then_ hK hk (fun k hh=> .inl (ao k (a1 k hh).1).1)⟩
theorem aGB(h:MR ws w0 w P Kq o0 o1 o2 v xs i g v0 v1 v2 f0 f1 f2)(hr:Kd.S kA 32 w' w0.heap.size o2 v2 q2)(hB:Below w0.heap.size w0 w')(hk:Kept w w' o2):MR ws w0 w' P Kq o0 o1 o2 v xs i g v0 v1 v2 f0 f1 q2:=by
 obtain⟨⟨a0,a1,a2,ao⟩,⟨h0,h1,h2⟩,hH,⟨y0,y1,y2⟩,_,hK⟩:=h;have hne:¬o2 g:=fun hh=>(ao g (a2 g hh)).2 rfl
 exact⟨⟨a0,a1,a2,ao⟩,⟨yD h0 (fun k hk1 hl=>hk.2 k hl (fun hh=>(a0 k hk1).2.2 hh)),yD h1 (fun k hk1 hl=>hk.2 k hl (fun hh=>(a1 k hk1).2 hh)),hr⟩,aft hH (fun k _ hn hl=>hk.2 k hl (fun hh=>hn (a2 k hh))),⟨cell_kept y0 hk hne,cell_kept y1 hk hne,cell_kept y2 hk hne⟩,hB,Kept.then_ hK hk (fun k hh=> .inl (ao k (a2 k hh)).1)⟩
theorem aqo(h:MR ws w0 w P Kq o0 o1 o2 v xs i g v0 v1 v2 f0 f1 f2):Kd.S kA 32 w w0.heap.size P v (xs.set i ⟨f0,f1,f2⟩):=by
 obtain⟨⟨a0,a1,a2,ao⟩,⟨h0,h1,h2⟩,hH,_⟩:=h;have:=awv hH (x':=⟨f0,f1,f2⟩) (rE:=Kq) (mkA a0 a1 a2 h0 h1 h2) (fun _ hh=>hh)
 rwa [Int.toNat_natCast]at this
end
set_option maxHeartbeats 8000000 in
set_option maxRecDepth 100000 in
theorem jr.calls:∀(k:Nat) (A0:Option Addr) (c0:Nat) (l0:List jm) (a1 r1:Int) (r2:List jm) (EX:Nat→Prop) (w0 w:World) (hB:Below w0.heap.size w0 w) (ho0:Kd.S kA 32 w w0.heap.size EX (.slice A0 l0.length c0) l0) (h:jr.l0 k l0 a1 0=some (r1,r2)),
  Calls Tryz.prog 32 #[.slice A0 l0.length c0, .int .i64 a1] w fun e w'=>e= .returned (.int .i64 r1)∧r2.length=l0.length∧Kd.S kA 32 w' w0.heap.size EX (.slice A0 l0.length c0) r2∧Below w0.heap.size w0 w'∧Kept w w' EX:=by
 intro k
 induction k using Nat.strongRecOn with
 |_ k ih=>
 intro A0 c0 l0 a1 r1 r2 EX w0 w hB ho0 h;have HN:=ak (zu ho0).2.2.2.1;have HO:=ak ho0;have HB:=ak hB;have H':=ak h;clear ho0 hB h;go_enter func32,ntmps32;go_wp2;go_loopg [1,5] k (fun kq v1 v5 w'=>∃(jE:List jm) (kU:Int) (i:Nat),v1= .int .i64 kU∧v5= .int .i64 (i:Int)∧ah (i≤l0.length)∧ah (jr.l0 kq jE kU (i:Int)=some (r1,r2))∧ah (kq≤k)∧ah (jE.length=l0.length)∧ah (Kd.S kA 32 w' w0.heap.size EX (.slice A0 l0.length c0) jE)∧ah (Below w0.heap.size w0 w')∧ah (Kept w w' EX))
 case atStart=>exact⟨l0,a1,0,rfl,rfl,⟨Nat.zero_le _⟩,H',⟨Nat.le_refl _⟩,⟨rfl⟩,HO,HB,⟨Kept.refl w EX⟩⟩
 case round=>
  clear H' HO HB;obtain⟨jE,kU,i,rfl,rfl,HI,HA,jv,HL,HO,HB,HK⟩:=hrel
  cases gk with
  |zero=>exact absurd HA.out (by simp[jr.l0])
  |succ k1=>
   have H:=HA.out;clear HA;simp only[jr.l0,HL.out]at H;by_cases c3:(i:Int)<(l0.length:Int)
   ·rw[if_pos c3]at H;have gQ:decide ((i:Int)<(l0.length:Int))=true:=decide_eq_true c3;obtain⟨⟨t1,q1⟩,A5,H⟩:=Option.bind_eq_some_iff.mp H;obtain⟨⟨t2,q2⟩,A6,H⟩:=Option.bind_eq_some_iff.mp H;obtain⟨⟨t3,q3⟩,A7,H⟩:=Option.bind_eq_some_iff.mp H;dsimp only at A6 A7 H;rw[Int.toNat_natCast]at H;have H':=ak H;have A5:=ak A5;have A6:=ak A6;have A7:=ak A7;clear H
    obtain⟨g,eg⟩:∃g,A0=some ⟨g,0,none⟩:=by
     obtain⟨g,cc,e1,_⟩:=aww HO.out (by have:=HL.out;omega);injection e1 with e1 _ _;exact⟨g,e1⟩
    subst eg;obtain⟨Kq,o0,o1,o2,v0,v1,v2,hm⟩:=aBi (i:=i) HO.out (by omega) HB.out HK.out;obtain⟨V0,V1,e0⟩:=bG hm.2.1.1;obtain⟨V2,V3,e1⟩:=bG hm.2.1.2.1;obtain⟨V4,V5,e2⟩:=Df hm.2.1.2.2;subst e0;subst e1;subst e2;have HM:=ak hm;clear hm HO HB HK;have pI:0≤(i:Int):=by omega
    have qI:(i:Int)<(l0.length:Int):=by omega
    obtain⟨pI,qI⟩:=tt pI qI;have ew5:wrap64 ((i:Int)+1)=((i+1:Nat):Int):=by have:=HN.out;unfold wrap64;omega
    rw[ew5]at H'
    generalize (aH jE (i:Int)).f0=F0 at*
    generalize (aH jE (i:Int)).f1=F1 at*
    generalize (aH jE (i:Int)).f2=F2 at*
    have y0:=HM.out.2.2.2.1.1;go_upto_region 5 with(go_at_call 31;(with_reducible refine(g_.calls k1 o0 _ F0 kU t1 q1 w0 _ HM.out.2.2.2.2.1 HM.out.2.1.1 A5.out).mono ?_);rintro e w_ ⟨rfl,hr,hb,hk⟩;have HM1:=ak (aGz HM.out hr hb hk);clear HM hr hb hk;have HM:=HM1;clear HM1)
    clear y0;have y1:=HM.out.2.2.2.1.2.1;go_upto_region 6 with(go_at_call 20;(with_reducible refine(fU.calls k1 o1 _ F1 t1 t2 q2 w0 _ HM.out.2.2.2.2.1 HM.out.2.1.2.1 A6.out).mono ?_);rintro e w_ ⟨rfl,hr,hb,hk⟩;have HM1:=ak (aGA HM.out hr hb hk);clear HM hr hb hk;have HM:=HM1;clear HM1)
    clear y1;have y2:=HM.out.2.2.2.1.2.2;go_wp2_with (go_at_call 32;(with_reducible refine(ih k1 (by have:=jv.out;omega) V4 V5 F2 t2 t3 q3 o2 w0 _ HM.out.2.2.2.2.1 HM.out.2.1.2.2 A7.out).mono ?_);rintro e w_ ⟨rfl,hl,hr,hb,hk⟩;have HM1:=ak (aGB HM.out hr hb hk);clear HM hr hb hk hl;have HM:=HM1;clear HM1)
    go_roundg k1
    case measure=>(have:=jv.out;omega)
    case rel=>exact⟨jE.set i ⟨q1,q2,q3⟩,t3,i+1,rfl,(by first|(rw[←ew5];done)|(rw[←ew5];rfl)|(simp only[bJ];rw[ew5];done)|(simp;done)),⟨by omega⟩,H',⟨by have:=jv.out;omega⟩,⟨by rw[List.length_set];exact HL.out⟩,⟨aqo HM.out⟩,⟨HM.out.2.2.2.2.1⟩,⟨HM.out.2.2.2.2.2⟩⟩
   ·rw[if_neg c3]at H;have ei:i=l0.length:=by have:=HI.out;omega
    subst ei;have gQ:decide ((l0.length:Int)<(l0.length:Int))=false:=decide_eq_false c3;clear c3;simp only[Option.some.injEq,Prod.mk.injEq]at H;obtain⟨rfl,rfl⟩:=H;go_wp2;go_ret;exact⟨rfl,HL.out,HO.out,HB.out,HK.out⟩
set_option maxHeartbeats 8000000 in
set_option maxRecDepth 100000 in
theorem Y2.calls(k:Nat){p0 q0:List iq}{p1 q1:List ByteArray}{p2 q2:List jm}{A0 A1 A2:Option Addr}{c0 c1 c2:Nat}{a1 t1 t2 t3:Int}{o0 o1 o2:Nat→Prop}{w0 w:World}(a0:∀k,o0 k→¬o1 k∧¬o2 k)(a1':∀k,o1 k→¬o2 k)(hB:Below w0.heap.size w0 w)
  (h0:lg.R 63 w w0.heap.size o0 (.slice A0 p0.length c0) p0) (h1:Kd.string.R 9 w w0.heap.size o1 (.slice A1 p1.length c1) p1) (h2:Kd.S kA 32 w w0.heap.size o2 (.slice A2 p2.length c2) p2) (e0:g_.f k p0 a1=some (t1,q0)) (e1:fU.f k p1 t1=some (t2,q1)) (e2:jr.l0 k p2 t2 0=some (t3,q2)):
  Calls Tryz.prog 12 #[.agg #[.slice A0 p0.length c0, .slice A1 p1.length c1, .slice A2 p2.length c2], .int .i64 a1] w fun e w'=>e= .returned (.int .i64 t3)∧lg.R 63 w' w0.heap.size o0 (.slice A0 p0.length c0) q0∧Kd.string.R 9 w' w0.heap.size o1 (.slice A1 p1.length c1) q1∧Kd.S kA 32 w' w0.heap.size o2 (.slice A2 p2.length c2) q2∧Below w0.heap.size w0 w'∧Kept w w' (fun k=>o0 k∨o1 k∨o2 k):=by
 have IQ:=underlying32;have E0:=ak e0;have E1:=ak e1;have E2:=ak e2;have HR:=ak (And.intro (lM h0) (And.intro (lM h1) (Bc h2)));have HB:=ak (Below.refl w.heap.size w);have HW:=ak hB;clear e0 e1 e2 h0 h1 h2 hB;go_enter func12,ntmps12;go_upto_region 1 with(refine bY HB 2 #[.slice A0 p0.length c0, .slice A1 p1.length c1, .slice A2 p2.length c2] 32 ?_;intro gb wb BK GW hg hb;have HG:=ak (show w.heap.size≤gb from GW.out);have H0:=ak (lZ HR.out.1 (bz HB hb).out);have H1:=ak (lZ HR.out.2.1 (bz HB hb).out);have H2:=ak (F9 HR.out.2.2 (bz HB hb).out);have HW1:=ak (aI HW.out (bz HB hb).out);have HKp:=ak (Kept.of_below (bz HB hb).out (fun k=>o0 k∨o1 k∨o2 k));clear hb hg HB HW HR;have HW:=HW1;clear HW1)
 have y0:wb.cell? ⟨gb,0,none⟩=some (.slice A0 p0.length c0):=(aG BK.out 0).trans rfl;go_upto_region 2 with(go_at_call 31;(with_reducible refine(g_.calls k _ _ p0 a1 t1 q0 w0 _ HW.out H0.out E0.out).mono ?_);rintro e w_ ⟨rfl,hr,hb,hk⟩;have K1:=ak (Kept.then_ HKp.out hk (fun k h=> .inl (.inl h.1)));have n0:=ak (abN (ok:=o0) rfl hr (fun k e=>(H0.out.1 k e).1));have n1:=ak (yD H1.out (fun k hk1 hl=>hk.2 k hl (fun hh=>(a0 k hh.1).1 hk1.1)));have n2:=ak (Ol H2.out (fun k hk1 hl=>hk.2 k hl (fun hh=>(a0 k hh.1).2 hk1.1)));have BK1:=ak (QY BK.out hk (fun hh=>by have Ec:=hh.2.2.1;have Ed:=HG.out;omega));clear BK H0 H1 H2 hr hk HW;have HW:=ak hb;have H0:=n0;have H1:=n1;have H2:=n2;have BK:=BK1;clear n0 n1 n2 BK1 hb HKp;have HKp:=K1;clear K1)
 clear y0;have y1:w_.cell? ⟨gb,1,none⟩=some (.slice A1 p1.length c1):=(aG BK.out 1).trans rfl;go_upto_region 3 with(go_at_call 20;(with_reducible refine(fU.calls k _ _ p1 t1 t2 q1 w0 _ HW.out H1.out E1.out).mono ?_);rintro e w_b ⟨rfl,hr,hb,hk⟩;have K1:=ak (Kept.then_ HKp.out hk (fun k h=> .inl (.inr (.inl h.1))));have n0:=ak (yD H0.out (fun k hk1 hl=>hk.2 k hl (fun hh=>(a0 k hk1).1 hh.1)));have n1:=ak (abN (ok:=o1) rfl hr (fun k e=>(H1.out.1 k e).1));have n2:=ak (Ol H2.out (fun k hk1 hl=>hk.2 k hl (fun hh=>(a1' k hh.1) hk1.1)));have BK1:=ak (QY BK.out hk (fun hh=>by have Ec:=hh.2.2.1;have Ed:=HG.out;omega));clear BK H0 H1 H2 hr hk HW;have HW:=ak hb;have H0:=n0;have H1:=n1;have H2:=n2;have BK:=BK1;clear n0 n1 n2 BK1 hb HKp;have HKp:=K1;clear K1)
 clear y1;have y2:w_b.cell? ⟨gb,2,none⟩=some (.slice A2 p2.length c2):=(aG BK.out 2).trans rfl;go_wp2_with (go_at_call 32;(with_reducible refine(jr.calls k A2 c2 p2 t2 t3 q2 _ w0 _ HW.out H2.out E2.out).mono ?_);rintro e w_c ⟨rfl,hl,hr,hb,hk⟩;have K1:=ak (Kept.then_ HKp.out hk (fun k h=> .inl (.inr (.inr h.1))));have n0:=ak (yD H0.out (fun k hk1 hl=>hk.2 k hl (fun hh=>(a0 k hk1).2 hh.1)));have n1:=ak (yD H1.out (fun k hk1 hl=>hk.2 k hl (fun hh=>(a1' k hk1) hh.1)));have n2:=ak (oz (ok':=o2) hr (fun k hh=>hh.1));clear BK H0 H1 H2 hr hk HW;have HW:=ak hb;have H0:=n0;have H1:=n1;have H2:=n2;clear n0 n1 n2 hb hl HKp;have HKp:=K1;clear K1)
 go_ret;exact⟨rfl,H0.out,H1.out,H2.out,HW.out,HKp.out⟩
def Sm(S:Nat→Prop)(w w':World):Prop:=w.heap.size≤w'.heap.size∧(∀g,g<w.heap.size→(¬S g→w'.heap[g]? =w.heap[g]?)∧
 (∀(cells:Array Value) (t:TypeId),w.heap[g]? =some (.cells cells t (0,0))→∃cells':Array Value,w'.heap[g]? =some (.cells cells' t (0,0))∧cells'.size=cells.size∧∀i:Nat,cells'[i]? =cells[i]?∨(i<cells.size∧∃s,cells'[i]? =some (.string s))))∧
 ∀wB:World,(∀g,S g→wB.heap.size≤g)→Below wB.heap.size wB w→Below wB.heap.size wB w'
def Lf(w:World)(g t m:Nat):Prop:=∃cells:Array Value,w.heap[g]? =some (.cells cells t (0,0))∧∀c:Nat,c<m→∃s,cells[c]? =some (.string s)
section
variable {S:Nat→Prop} {w a b:World}
theorem Sm.refl(S:Nat→Prop)(w:World):Sm S w w:=⟨Nat.le_refl _,fun _ _=>⟨fun _=>rfl,fun cells _ h=>⟨cells,h,rfl,fun _=> .inl rfl⟩⟩,fun _ _ h=>h⟩
theorem Sm.below(h:Sm S w a)(hb:Below a.heap.size a b):Sm S w b:=by
 refine⟨Nat.le_trans h.1 hb.size,fun g hg=>?_,fun wB h1 h2=>aI (h.2.2 wB h1 h2) hb⟩;have e:b.heap[g]? =a.heap[g]?:=hb.block g (Nat.lt_of_lt_of_le hg h.1);rw[e];exact h.2.1 g hg
theorem Sm.set(h:Sm S w a){g i:Nat}(hS:S g)(s:ByteArray):Sm S w (a.setCell ⟨g,i,none⟩ (.string s)):=by
 refine⟨by simpa [World.setCell] using h.1,fun q hq=>?_,fun wB h1 h2=>nT (h.2.2 wB h1 h2) (h1 g hS)⟩;by_cases e:q=g
 ·subst e;refine⟨fun hn=>absurd hS hn,fun cells t hc=>?_⟩;obtain⟨cs,h1,h2,h3⟩:=(h.2.1 q hq).2 cells t hc;refine⟨cs.setIfInBounds i (.string s),bU h1 i _ rfl,by rw[Array.size_setIfInBounds,h2],fun j=>?_⟩;rw[Array.getElem?_setIfInBounds];by_cases ej:i=j
  ·rw[if_pos ej];by_cases hj:j<cs.size
   ·rw[if_pos (by omega)];exact .inr ⟨by omega,s,rfl⟩
   ·rw[if_neg (by omega)];rcases h3 j with h4|⟨h5,_⟩
    ·refine .inl ?_;rw[←h4,Array.getElem?_eq_none (by omega)]
    ·omega
  ·rw[if_neg ej];exact h3 j
 ·rw[Below.heap_setCell _ _ _ _ e];exact h.2.1 q hq
theorem Sm.cell{g t m c:Nat}(h:Sm S w a)(hL:Lf w g t m)(hc:c<m):∃s,a.cell? ⟨g,c,none⟩=some (.string s)∧a.frozen? ⟨g,c,none⟩=false:=by
 obtain⟨cells,h1,h2⟩:=hL;obtain⟨cs,h3,_,h4⟩:=(h.2.1 g (dI h1)).2 cells t h1;obtain⟨s,hs⟩:=h2 c hc;rcases h4 c with h5|⟨_,s',h5⟩
 ·exact⟨s,by rw[aG h3,h5,hs],jl h3 c⟩
 ·exact⟨s',by rw[aG h3,h5],jl h3 c⟩
theorem Sm.mark{c g:Nat}(h:Sm S w a)(hS:S g)(s:ByteArray):Sm S w (a.setCell ⟨g,c,none⟩ (.string s)):=Sm.set h hS s
theorem Lf.lt{g t m:Nat}(h:Lf w g t m):g<w.heap.size:=by
 obtain⟨cells,h1,_⟩:=h;exact dI h1
theorem wrapM{x:Int}(h0:-9223372036854775808≤x)(h1:x≤9223372036854775807):wrap64 x=x:=by
 unfold wrap64;omega
theorem ZP{base:Nat}{ok:Nat→Prop}{v:Value}{l:List ByteArray}(h:Kd.string.R 9 w base ok v l):∃A c,v= .slice A l.length c∧(0<l.length→∃g,A=some ⟨g,0,none⟩∧ok g∧Lf w g 9 l.length):=by
 obtain⟨A,c,rfl⟩:=bG h;refine⟨A,c,rfl,fun hp=>?_⟩;obtain⟨g,cap,e,-,-,cells,hc⟩:=ED h hp;injection e with e1 _ e3;subst e1;subst e3;refine⟨g,rfl,h.1 g rfl,cells,hc,fun i hi=>?_⟩;have h1:=(L_ (⟨#[]⟩:ByteArray) h (i:Int) (by omega) (by omega)).1;rw[Int.toNat_natCast,aG hc]at h1;exact⟨_,h1⟩
theorem adp{base:Nat}{ok:Nat→Prop}{v:Value}{l:List iq}(h:lg.R 63 w base ok v l):∃A c,v= .slice A l.length c∧(0<l.length→∃g,A=some ⟨g,0,none⟩∧ok g∧Lf w g 63 (l.length*2)):=by
 obtain⟨A,c,rfl⟩:=bG h;refine⟨A,c,rfl,fun hp=>?_⟩;obtain⟨g,cap,e,-,-,cells,hc⟩:=ED h hp;injection e with e1 _ e3;subst e1;subst e3;refine⟨g,rfl,h.1 g rfl,cells,hc,fun i hi=>?_⟩;obtain⟨cs,hcl,hM,hcc⟩:=atE h z63 ((i/2:Nat):Int) (by omega) (by omega);rw[Int.toNat_natCast]at hM hcc;have hcs:=Au hM;subst hcs
 have key:∀(j:Nat) (u:Value),[Value.string (l.getD (i/2) z63).f0,Value.string (l.getD (i/2) z63).f1][j]? =some u→cells[i/2*2+j]? =some u:=by
  intro j u hu;have:=hcc j u hu
  have e2:(⟨g,0,none⟩:Addr).add (i/2*lg.sz+j)=⟨g,i/2*2+j,none⟩:=by
   show(⟨g,0,none⟩:Addr).add (i/2*2+j)=_
   unfold Addr.add;split<;>simp_all
  rw[e2,aG hc]at this;exact this
 by_cases e:i%2=0
 ·have:=key 0 _ rfl;rw[show i/2*2+0=i by omega]at this;exact⟨_,this⟩
 ·have:=key 1 _ rfl;rw[show i/2*2+1=i by omega]at this;exact⟨_,this⟩
def Om(S:Nat→Prop)(w w0 a:World):Prop:=Sm S w a∧Sm S w0 a
theorem Om.below{w0:World}(h:Om S w w0 a)(hb:Below a.heap.size a b):Om S w w0 b:=⟨h.1.below hb,h.2.below hb⟩
theorem Om.mark{w0:World}{c g:Nat}(h:Om S w w0 a)(hS:S g)(s:ByteArray):Om S w w0 (a.setCell ⟨g,c,none⟩ (.string s)):=⟨h.1.mark hS s,h.2.mark hS s⟩
theorem Om.cell{w0:World}{g t m c:Nat}(h:Om S w w0 a)(hL:Lf w g t m)(hc:c<m):∃s,a.cell? ⟨g,c,none⟩=some (.string s)∧a.frozen? ⟨g,c,none⟩=false:=h.1.cell hL hc
end
def MT(k B:Nat):Prop:=∀m:Nat,m≤B→∃r,dV.f k (m:Int)=some r
set_option maxHeartbeats 8000000 in
set_option maxRecDepth 100000 in
theorem awx{S:Nat→Prop}{k B:Nat}(hT:MT k B)(hBB:B≤1000000000000){A:Option Addr}{n c m:Nat}{w1 w0 w:World}(hL:0<n→∃g,A=some ⟨g,0,none⟩∧S g∧Lf w1 g 9 n)(hm:m+n≤B)(hs:Om S w1 w0 w):
  Calls Tryz.prog 20 #[.slice A n c, .int .i64 (m:Int)] w fun e w'=>e= .returned (.int .i64 ((m+n:Nat):Int))∧Om S w1 w0 w':=by
 have HS:=ak hs;clear hs;go_enter func20,ntmps20;go_wp2;go_loopg [1,5] n (fun kq v1 v5 w'=>∃i j:Nat,v1= .int .i64 (j:Int)∧v5= .int .i64 (i:Int)∧ah (i≤n)∧ah (kq=n-i)∧ah (j=m+i)∧ah (Om S w1 w0 w'))
 case atStart=>exact⟨0,m,rfl,rfl,⟨Nat.zero_le _⟩,⟨rfl⟩,⟨rfl⟩,HS⟩
 case round=>
  clear HS;obtain⟨gq,hq⟩:∃g,g=gk:=⟨_,rfl⟩
  subst hq;obtain⟨i,j,rfl,rfl,HI,HK,HJ,HS⟩:=hrel;by_cases c1:i<n
  ·have cb:decide ((i:Int)<(n:Int))=true:=decide_eq_true (by omega);obtain⟨r,hr⟩:=hT j (by have:=HJ.out;omega);obtain⟨g,rfl,hgS,hLf⟩:=hL (by omega);have pI:0≤(i:Int):=by omega
   have qI:(i:Int)<(n:Int):=by omega
   obtain⟨pI,qI⟩:=tt pI qI;have ew1:wrap64 ((j:Int)+1)=((j+1:Nat):Int):=by have:=HJ.out;rw[wrapM (by omega) (by omega)];omega
   have ew5:wrap64 ((i:Int)+1)=((i+1:Nat):Int):=by rw[wrapM (by omega) (by omega)];omega
   go_wp2_with (go_at_call 38;(with_reducible refine mB (dV.calls k _ r _ hr) ?_);intro w_ hb;have HS1:=ak (Om.below HS.out hb);replace HS:=HS1;clear HS1 hb;obtain⟨s0,hc0,hf0⟩:=Om.cell (c:=i) HS.out hLf (by omega))
   go_roundg (n-(i+1))
   case measure=>(have:=HK.out;omega)
   case rel=>exact⟨i+1,j+1,(by first|(rw[←ew1];done)|(rw[←ew1];rfl)|(simp only[bJ];rw[ew1];done)|(simp;done)),(by first|(rw[←ew5];done)|(rw[←ew5];rfl)|(simp only[bJ];rw[ew5];done)|(simp;done)),⟨c1⟩,⟨rfl⟩,⟨by have:=HJ.out;omega⟩,⟨Om.mark HS.out hgS _⟩⟩
  ·have cb:decide ((i:Int)<(n:Int))=false:=decide_eq_false (by omega);have ei:i=n:=by have:=HI.out;omega
   subst ei;go_wp2;go_ret;exact⟨(by rw[HJ.out];rfl),HS.out⟩
set_option maxHeartbeats 8000000 in
set_option maxRecDepth 100000 in
theorem awy{S:Nat→Prop}{k B:Nat}(hT:MT k B)(hBB:B≤1000000000000){A:Option Addr}{n c m:Nat}{w1 w0 w:World}(hL:0<n→∃g,A=some ⟨g,0,none⟩∧S g∧Lf w1 g 63 (n*2))(hm:m+2*n≤B)(hs:Om S w1 w0 w):
  Calls Tryz.prog 31 #[.slice A n c, .int .i64 (m:Int)] w fun e w'=>e= .returned (.int .i64 ((m+2*n:Nat):Int))∧Om S w1 w0 w':=by
 have HS:=ak hs;clear hs;go_enter func31,ntmps31;go_wp2;go_loopg [1,5] n (fun kq v1 v5 w'=>∃i j:Nat,v1= .int .i64 (j:Int)∧v5= .int .i64 (i:Int)∧ah (i≤n)∧ah (kq=n-i)∧ah (j=m+2*i)∧ah (Om S w1 w0 w'))
 case atStart=>exact⟨0,m,rfl,rfl,⟨Nat.zero_le _⟩,⟨rfl⟩,⟨rfl⟩,HS⟩
 case round=>
  clear HS;obtain⟨gq,hq⟩:∃g,g=gk:=⟨_,rfl⟩
  subst hq;obtain⟨i,j,rfl,rfl,HI,HK,HJ,HS⟩:=hrel;by_cases c1:i<n
  ·have cb:decide ((i:Int)<(n:Int))=true:=decide_eq_true (by omega);obtain⟨r,hr⟩:=hT j (by have:=HJ.out;omega);obtain⟨r2,hr2⟩:=hT (j+1) (by have:=HJ.out;omega);obtain⟨g,rfl,hgS,hLf⟩:=hL (by omega);have pI:0≤(i:Int):=by omega
   have qI:(i:Int)<(n:Int):=by omega
   obtain⟨pI,qI⟩:=tt pI qI;have ew1:wrap64 ((j:Int)+1)=((j+1:Nat):Int):=by have:=HJ.out;rw[wrapM (by omega) (by omega)];omega
   obtain⟨j2,hj2⟩:∃j2:Nat,j2=j+1:=⟨_,rfl⟩
   rw[←hj2]at ew1 hr2;have ew2:wrap64 ((j2:Int)+1)=((j2+1:Nat):Int):=by have:=HJ.out;rw[wrapM (by omega) (by omega)];omega
   have HJ2:=ak hj2;clear hj2;have ew5:wrap64 ((i:Int)+1)=((i+1:Nat):Int):=by rw[wrapM (by omega) (by omega)];omega
   go_upto_region 6 with(go_at_call 38;(with_reducible refine mB (dV.calls k _ r _ hr) ?_);intro w_ hb;have HS1:=ak (Om.below HS.out hb);replace HS:=HS1;clear HS1 hb;obtain⟨s0,hc0,hf0⟩:=Om.cell (c:=i*2) HS.out hLf (by omega))
   have HS1:=ak (Om.mark (c:=i*2) HS.out hgS r);replace HS:=HS1;clear HS1 hc0 hf0;rw[ew1];go_wp2_with (go_at_call 38;(with_reducible refine mB (dV.calls k _ r2 _ hr2) ?_);intro w_ hb;have HS1:=ak (Om.below HS.out hb);replace HS:=HS1;clear HS1 hb;obtain⟨s0,hc0,hf0⟩:=Om.cell (c:=i*2+1) HS.out hLf (by omega))
   go_roundg (n-(i+1))
   case measure=>(have:=HK.out;omega)
   case rel=>exact⟨i+1,j2+1,(by first|(rw[←ew2];done)|(rw[←ew2];rfl)|(simp only[bJ];rw[ew2];done)|(simp;done)),(by first|(rw[←ew5];done)|(rw[←ew5];rfl)|(simp only[bJ];rw[ew5];done)|(simp;done)),⟨c1⟩,⟨rfl⟩,⟨by have:=HJ.out;have:=HJ2.out;omega⟩,⟨Om.mark (c:=i*2+1) HS.out hgS _⟩⟩
  ·have cb:decide ((i:Int)<(n:Int))=false:=decide_eq_false (by omega);have ei:i=n:=by have:=HI.out;omega
   subst ei;go_wp2;go_ret;exact⟨(by rw[HJ.out];rfl),HS.out⟩
theorem ahR{S:Nat→Prop}{k B:Nat}(hT:MT k B)(hBB:B≤1000000000000){A:Option Addr}{n c m m':Nat}{w1 w0 w:World}(hL:0<n→∃g,A=some ⟨g,0,none⟩∧S g∧Lf w1 g 9 n)(hm:m+n≤B)(hm':m'=m+n)(hs:Om S w1 w0 w):
  Calls Tryz.prog 20 #[.slice A n c, .int .i64 (m:Int)] w fun e w'=>e= .returned (.int .i64 (m':Int))∧Om S w1 w0 w':=by
 subst hm';exact awx hT hBB hL hm hs
theorem ahS{S:Nat→Prop}{k B:Nat}(hT:MT k B)(hBB:B≤1000000000000){A:Option Addr}{n c m m':Nat}{w1 w0 w:World}(hL:0<n→∃g,A=some ⟨g,0,none⟩∧S g∧Lf w1 g 63 (n*2))(hm:m+2*n≤B)(hm':m'=m+2*n)(hs:Om S w1 w0 w):
  Calls Tryz.prog 31 #[.slice A n c, .int .i64 (m:Int)] w fun e w'=>e= .returned (.int .i64 (m':Int))∧Om S w1 w0 w':=by
 subst hm';exact awy hT hBB hL hm hs
mutual
def muS:jm→Nat
 |⟨a,b,k⟩=>2*a.length+b.length+XY k+1
def XY:List jm→Nat
 |[]=>0
 |p:: r=>muS p+XY r
end
theorem abO(x:jm):muS x=2*x.f0.length+x.f1.length+XY x.f2+1:=by cases x;rw[muS]
theorem aqp(l:List jm):l.length≤XY l:=by
 induction l with
 |nil=>simp
 |cons p r ih=>have:=abO p;rw[List.length_cons,XY];omega
theorem XZ(a b:List jm):XY (a++b)=XY a+XY b:=by
 induction a with
 |nil=>simp[XY]
 |cons p r ih=>rw[List.cons_append,XY,XY,ih];omega
theorem am_{l:List jm}{i:Nat}(h:i<l.length):XY (l.take (i+1))=XY (l.take i)+muS (l.getD i z32):=by
 rw[List.take_add_one,List.getElem?_eq_getElem h,Option.toList_some,XZ,List.getD_eq_getElem?_getD,List.getElem?_eq_getElem h];rw[XY,XY];rfl
theorem adq(l:List jm)(i:Nat):XY (l.take i)≤XY l:=by
 have h:=XZ (l.take i) (l.drop i);rw[List.take_append_drop]at h;omega
theorem Sm.c28{S:Nat→Prop}{w a:World}{g:Nat}{t:TypeId}{cells:Array Value}(h:Sm S w a)(hn:¬S g)(hc:w.heap[g]? =some (.cells cells t (0,0)))(c:Nat):a.cell? ⟨g,c,none⟩=w.cell? ⟨g,c,none⟩:=by
 have e:=(h.2.1 g (dI hc)).1 hn;rw[hc]at e;rw[aG e,aG hc]
theorem aGC{w1:World}{base:Nat}{ok:Nat→Prop}{v:Value}{l:List jm}(h:k32.R 32 w1 base ok v l){i:Nat}(hi:i<l.length):∃(g c:Nat) (cells:Array Value) (v0 v1 v2:Value),v= .slice (some ⟨g,0,none⟩) l.length c∧w1.heap[g]? =some (.cells cells 32 (0,0))∧
  w1.cell? ⟨g,i*3,none⟩=some v0∧w1.cell? ⟨g,i*3+1,none⟩=some v1∧w1.cell? ⟨g,i*3+2,none⟩=some v2∧lg.R 63 w1 base ok v0 (l.getD i z32).f0∧Kd.string.R 9 w1 base ok v1 (l.getD i z32).f1∧k32.R 32 w1 base ok v2 (l.getD i z32).f2:=by
 obtain⟨g,cap,e,-,-,cells,hc⟩:=ED h (by omega);subst e;obtain⟨cs,hcl,hM,hcc⟩:=atE h z32 (i:Int) (by omega) (by omega);rw[Int.toNat_natCast]at hM hcc;obtain⟨v0,v1,v2,rfl,h0,h1,h2⟩:=SL hM
 have key:∀(j:Nat) (u:Value),[v0,v1,v2][j]? =some u→w1.cell? ⟨g,i*3+j,none⟩=some u:=by
  intro j u hu;have:=hcc j u hu
  have e2:(⟨g,0,none⟩:Addr).add (i*k32.sz+j)=⟨g,i*3+j,none⟩:=by
   show(⟨g,0,none⟩:Addr).add (i*3+j)=_
   unfold Addr.add;split<;>simp_all
  rw[e2]at this;exact this
 exact⟨g,cap,cells,v0,v1,v2,rfl,hc,key 0 _ rfl,key 1 _ rfl,key 2 _ rfl,aY h0 (fun _ hk=>hk.1),aY h1 (fun _ hk=>hk.1),aY h2 (fun _ hk=>hk.1)⟩
theorem awz{l:List jm}{i:Nat}(hi:i<l.length):SizeOf.sizeOf (l.getD i z32).f2<SizeOf.sizeOf l:=by
 have e:l.getD i z32=l[i]:=by rw[List.getD_eq_getElem?_getD,List.getElem?_eq_getElem hi];rfl
 rw[e];have h1:=List.sizeOf_lt_of_mem (List.getElem_mem hi)
 have h2:SizeOf.sizeOf (l[i]).f2<SizeOf.sizeOf l[i]:=by
  cases l[i]with
  |mk a b k=>simp only[jm.mk.sizeOf_spec];omega
 omega
set_option maxHeartbeats 8000000 in
set_option maxRecDepth 100000 in
theorem awC{S ok:Nat→Prop}{k B:Nat}(hT:MT k B)(hBB:B≤1000000000000){w1 w0:World}(h28:∀g cells,w1.heap[g]? =some (.cells cells 32 (0,0))→¬S g)(hok:∀g cells t,ok g→w1.heap[g]? =some (.cells cells t (0,0))→t=63∨t=9→S g):∀(N:Nat) (l:List jm),SizeOf.sizeOf l<N→∀(base m:Nat) (v:Value) (w:World),k32.R 32 w1 base ok v l→m+XY l≤B→Om S w1 w0 w→
  Calls Tryz.prog 32 #[v, .int .i64 (m:Int)] w fun e w'=>∃m':Nat,e= .returned (.int .i64 (m':Int))∧m'≤m+XY l∧Om S w1 w0 w':=by
 intro N
 induction N with
 |zero=>intro l h;omega
 |succ N ih=>
  intro l hN base m v w hR hm hs;have HS:=ak hs;have HR:=ak hR;obtain⟨A,c,rfl⟩:=bG hR;clear hs hR;go_enter func32,ntmps32;go_wp2;go_loopg [1,5] (l.length) (fun kq v1 v5 w'=>∃i j:Nat,v1= .int .i64 (j:Int)∧v5= .int .i64 (i:Int)∧ah (i≤l.length)∧ah (kq=l.length-i)∧ah (j≤m+XY (l.take i))∧ah (Om S w1 w0 w'))
  case atStart=>exact⟨0,m,rfl,rfl,⟨Nat.zero_le _⟩,⟨rfl⟩,⟨Nat.le_add_right _ _⟩,HS⟩
  case round=>
   clear HS;obtain⟨gq,hq⟩:∃g,g=gk:=⟨_,rfl⟩
   subst hq;obtain⟨i,j,rfl,rfl,HI,HK,HJ,HS⟩:=hrel;by_cases c1:i<l.length
   ·have cb:decide ((i:Int)<(l.length:Int))=true:=decide_eq_true (by omega);obtain⟨g,c',cells,v0,v1,v2,ev,hc,x0,x1,x2,r0,r1,r2⟩:=aGC HR.out c1;injection ev with ev1 ev2 ev3;subst ev1;clear ev2 ev3;obtain⟨A0,c0,rfl,L0⟩:=adp r0;obtain⟨A1,c1',rfl,L1⟩:=ZP r1;have hlt:=awz c1;have hmu:=am_ c1;have hle:=adq l (i+1);have hml:=aqp l;have hmx:=abO (l.getD i z32)
    have M1:0<(l.getD i z32).f0.length→∃g,A0=some ⟨g,0,none⟩∧S g∧Lf w1 g 63 ((l.getD i z32).f0.length*2):=fun hp=>by
     obtain⟨q,e1,e2,e3⟩:=L0 hp;obtain⟨cs,e4,e5⟩:=e3;exact⟨q,e1,hok q cs 63 e2 e4 (.inl rfl),cs,e4,e5⟩
    have M2:0<(l.getD i z32).f1.length→∃g,A1=some ⟨g,0,none⟩∧S g∧Lf w1 g 9 (l.getD i z32).f1.length:=fun hp=>by
     obtain⟨q,e1,e2,e3⟩:=L1 hp;obtain⟨cs,e4,e5⟩:=e3;exact⟨q,e1,hok q cs 9 e2 e4 (.inr rfl),cs,e4,e5⟩
    have R2:=ak r2;have awD:=h28 g cells hc;have pI:0≤(i:Int):=by omega
    have qI:(i:Int)<(l.length:Int):=by omega
    obtain⟨pI,qI⟩:=tt pI qI;obtain⟨j1,hj1⟩:∃j1:Nat,j1=j+2*(l.getD i z32).f0.length:=⟨_,rfl⟩
    obtain⟨j2,hj2⟩:∃j2:Nat,j2=j1+(l.getD i z32).f1.length:=⟨_,rfl⟩
    have FY:=ak hj1;have HJ2:=ak hj2;have ew5:wrap64 ((i:Int)+1)=((i+1:Nat):Int):=by rw[wrapM (by omega) (by omega)];omega
    clear hj1 hj2 r0 r1 r2 L0 L1;have y0:=(Sm.c28 HS.out.1 awD hc (i*3)).trans x0
    generalize hX:l.getD i z32=X at*
    go_upto_region 5 with(go_at_call 31;(with_reducible refine(ahS (m':=j1) hT hBB M1 (by have:=HJ.out;have:=FY.out;omega) FY.out HS.out).mono ?_);rintro e w_ ⟨rfl,hs⟩;replace HS:=ak hs;clear hs)
    clear y0;have y1:=(Sm.c28 HS.out.1 awD hc (i*3+1)).trans x1;go_upto_region 6 with(go_at_call 20;(with_reducible refine(ahR (m':=j2) hT hBB M2 (by have:=HJ.out;have:=FY.out;have:=HJ2.out;omega) HJ2.out HS.out).mono ?_);rintro e w_ ⟨rfl,hs⟩;replace HS:=ak hs;clear hs)
    clear y1;have y2:=(Sm.c28 HS.out.1 awD hc (i*3+2)).trans x2;obtain⟨A2,c2,e2⟩:=bG R2.out;subst e2;go_wp2_with (go_at_call 32;(with_reducible refine(ih X.f2 (by omega) base j2 _ _ R2.out (by have:=HJ.out;have:=FY.out;have:=HJ2.out;omega) HS.out).mono ?_);rintro e w_ ⟨j3,rfl,hj3,hs⟩;replace HS:=ak hs;have HJ3:=ak hj3;clear hs hj3)
    go_roundg (l.length-(i+1))
    case measure=>(have:=HK.out;omega)
    case rel=>exact⟨i+1,j3,rfl,(by first|(rw[←ew5];done)|(rw[←ew5];rfl)|(simp only[bJ];rw[ew5];done)|(simp;done)),⟨c1⟩,⟨rfl⟩,⟨by have:=HJ.out;have:=FY.out;have:=HJ2.out;have:=HJ3.out;omega⟩,HS⟩
   ·have cb:decide ((i:Int)<(l.length:Int))=false:=decide_eq_false (by omega);have ei:i=l.length:=by have:=HI.out;omega
    subst ei;go_wp2;go_ret;exact⟨j,rfl,(by have:=HJ.out;rw[List.take_length]at this;exact this),HS.out⟩
set_option maxHeartbeats 8000000 in
set_option maxRecDepth 100000 in
theorem awE{S ok:Nat→Prop}{k B:Nat}(hT:MT k B)(hBB:B≤1000000000000){w1 w:World}(h28:∀g cells,w1.heap[g]? =some (.cells cells 32 (0,0))→¬S g)(hok:∀g cells t,ok g→w1.heap[g]? =some (.cells cells t (0,0))→t=63∨t=9→S g)(hS:∀g,S g→g<w1.heap.size)
  {x:jm} {base m:Nat} {v0 v1 v2:Value} (r0:lg.R 63 w1 base ok v0 x.f0) (r1:Kd.string.R 9 w1 base ok v1 x.f1) (r2:k32.R 32 w1 base ok v2 x.f2) (hm:m+muS x≤B) (hs:Sm S w1 w):
  Calls Tryz.prog 12 #[.agg #[v0,v1,v2], .int .i64 (m:Int)] w fun e w'=>∃m':Nat,e= .returned (.int .i64 (m':Int))∧m'≤B∧Sm S w1 w':=by
 have aMb:=underlying32;obtain⟨A0,c0,rfl,L0⟩:=adp r0;obtain⟨A1,c1,rfl,L1⟩:=ZP r1
 have M1:0<x.f0.length→∃g,A0=some ⟨g,0,none⟩∧S g∧Lf w1 g 63 (x.f0.length*2):=fun hp=>by
  obtain⟨q,e1,e2,e3⟩:=L0 hp;obtain⟨cs,e4,e5⟩:=e3;exact⟨q,e1,hok q cs 63 e2 e4 (.inl rfl),cs,e4,e5⟩
 have M2:0<x.f1.length→∃g,A1=some ⟨g,0,none⟩∧S g∧Lf w1 g 9 x.f1.length:=fun hp=>by
  obtain⟨q,e1,e2,e3⟩:=L1 hp;obtain⟨cs,e4,e5⟩:=e3;exact⟨q,e1,hok q cs 9 e2 e4 (.inr rfl),cs,e4,e5⟩
 obtain⟨A2,c2,e2⟩:=bG r2;subst e2;have R2:=ak r2;have HS:=ak hs;have hmx:=abO x;obtain⟨j1,hj1⟩:∃j1:Nat,j1=m+2*x.f0.length:=⟨_,rfl⟩
 obtain⟨j2,hj2⟩:∃j2:Nat,j2=j1+x.f1.length:=⟨_,rfl⟩
 have FY:=ak hj1;have HJ2:=ak hj2;have HB:=ak (Below.refl w.heap.size w);clear hj1 hj2 r0 r1 r2 L0 L1 hs;go_enter func12,ntmps12;go_upto_region 1 with(refine bY HB 2 #[.slice A0 x.f0.length c0, .slice A1 x.f1.length c1, .slice A2 x.f2.length c2] 32 ?_;intro gb wb BK GW hg hb;have HS1:=ak (Sm.below HS.out hb);have HG:=ak (show¬S gb from fun h_=>by have Ec:=hS gb h_;have Ed:=HS.out.1;omega);have HS0:=ak (Sm.refl S wb);clear hb hg HB)
 have HS2:=ak (show Om S w1 wb wb from⟨HS1.out,HS0.out⟩);clear HS HS1 HS0;have y0:wb.cell? ⟨gb,0,none⟩=some (.slice A0 x.f0.length c0):=(aG BK.out 0).trans rfl;go_upto_region 2 with(go_at_call 31;(with_reducible refine(ahS (m':=j1) hT hBB M1 (by have:=FY.out;omega) FY.out HS2.out).mono ?_);rintro e w_ ⟨rfl,hs⟩;replace HS2:=ak hs;clear hs)
 clear y0;have y1:=(Sm.c28 HS2.out.2 HG.out BK.out 1).trans (show wb.cell? ⟨gb,1,none⟩=some (.slice A1 x.f1.length c1)from(aG BK.out 1).trans rfl);go_upto_region 3 with(go_at_call 20;(with_reducible refine(ahR (m':=j2) hT hBB M2 (by have:=FY.out;have:=HJ2.out;omega) HJ2.out HS2.out).mono ?_);rintro e w_ ⟨rfl,hs⟩;replace HS2:=ak hs;clear hs)
 clear y1;have y2:=(Sm.c28 HS2.out.2 HG.out BK.out 2).trans (show wb.cell? ⟨gb,2,none⟩=some (.slice A2 x.f2.length c2)from(aG BK.out 2).trans rfl);go_wp2_with (go_at_call 32;(with_reducible refine(awC hT hBB h28 hok (SizeOf.sizeOf x.f2+1) x.f2 (Nat.lt_succ_self _) base j2 _ _ R2.out (by have:=FY.out;have:=HJ2.out;omega) HS2.out).mono ?_);rintro e w_ ⟨j3,rfl,hj3,hs⟩;replace HS2:=ak hs;have HJ3:=ak hj3;clear hs hj3)
 go_ret;exact⟨j3,rfl,(by have:=FY.out;have:=HJ2.out;have:=HJ3.out;omega),HS2.out.1⟩
abbrev PC (w:World) (A0:Option Addr) (c0:Nat) (p0:List iq) (A1:Option Addr) (c1:Nat) (p1:List ByteArray) (A2:Option Addr) (c2:Nat) (p2:List jm):Prop:=
 Kd.C lg w A0 p0.length p0∧p0.length≤c0∧Kd.C Kd.string w A1 p1.length p1∧p1.length≤c1∧Kd.C k32 w A2 p2.length p2∧p2.length≤c2
theorem yc{w w':World}{A0:Option Addr}{c0:Nat}{p0:List iq}{A1:Option Addr}{c1:Nat}{p1:List ByteArray}{A2:Option Addr}{c2:Nat}{p2:List jm}(h:ah (PC w A0 c0 p0 A1 c1 p1 A2 c2 p2))(hb:Below w.heap.size w w'):ah (PC w' A0 c0 p0 A1 c1 p1 A2 c2 p2):=
 ⟨aK h.out.1 hb,h.out.2.1,aK h.out.2.2.1 hb,h.out.2.2.2.1,aK h.out.2.2.2.2.1 hb,h.out.2.2.2.2.2⟩
theorem aBj{w:World}{base:Nat}{ok0 ok1 ok2:Nat→Prop}{v0 v1 v2:Value}{p0:List iq}{p1:List ByteArray}{p2:List jm}(h0:Kd.R lg 63 w base ok0 v0 p0)(h1:Kd.R Kd.string 9 w base ok1 v1 p1)(h2:Kd.R k32 32 w base ok2 v2 p2):
  ∃A0 c0 A1 c1 A2 c2,v0= .slice A0 p0.length c0∧v1= .slice A1 p1.length c1∧v2= .slice A2 p2.length c2∧ah (PC w A0 c0 p0 A1 c1 p1 A2 c2 p2):=by
 obtain⟨A0,c0,rfl⟩:=bG h0;obtain⟨A1,c1,rfl⟩:=bG h1;obtain⟨A2,c2,rfl⟩:=bG h2;exact⟨A0,c0,A1,c1,A2,c2,rfl,rfl,rfl,⟨(dB h0).2.2,(dB h0).2.1,(dB h1).2.2,(dB h1).2.1,(dB h2).2.2,(dB h2).2.1⟩⟩
abbrev GA (w:World) (base M:Nat) (v0 v1 v2:Value) (p0:List iq) (p1:List ByteArray) (p2:List jm):Prop:=
 (lg.R 63 w base (fun k=>some k=v0.ownBlock∧k<M) v0 p0∧Kd.string.R 9 w base (fun k=>some k=v1.ownBlock∧k<M) v1 p1∧Kd.S kA 32 w base (fun k=>(some k≠v0.ownBlock∧some k≠v1.ownBlock)∧base≤k∧k<M) v2 p2)∧(∀k,some k=v0.ownBlock→some k=v1.ownBlock→False)∧(∀k,some k=v0.ownBlock→base≤k)∧(∀k,some k=v1.ownBlock→base≤k)
theorem atF{w w':World}{v0 v1 v2:Value}{p0:List iq}{p1:List ByteArray}{p2:List jm}{ok0 ok1:Nat→Prop}(h0:Kd.R lg 63 w' w.heap.size ok0 v0 p0)(h1:Kd.R Kd.string 9 w' w.heap.size ok1 v1 p1)(h2:Kd.S kA 32 w' w.heap.size (fun k=>some k≠v0.ownBlock∧some k≠v1.ownBlock) v2 p2):ah (GA w' w.heap.size w'.heap.size v0 v1 v2 p0 p1 p2):=
 ⟨⟨aY (lM (Gf rfl h0)) (fun k hk=>⟨hk.1,hk.2.2.1⟩),aY (lM (Gf rfl h1)) (fun k hk=>⟨hk.1,hk.2.2.1⟩),oz (Bc h2) (fun k hk=>⟨hk.1,hk.2.1,hk.2.2.1⟩)⟩,fun _ e0 e1=>arw h0 h1 e0 e1,fun k e=>jf h0 k e.symm,fun k e=>jf h1 k e.symm⟩
theorem abP{w w1:World}{base M:Nat}{v0 v1 v2:Value}{p0:List iq}{p1:List ByteArray}{p2:List jm}(h:ah (GA w base M v0 v1 v2 p0 p1 p2))(hm:∀k,base≤k→k<M→k<w.heap.size→w1.heap[k]? =w.heap[k]?):ah (GA w1 base M v0 v1 v2 p0 p1 p2):=
 ⟨⟨yD h.out.1.1 (fun k hk hl=>hm k (h.out.2.2.1 k hk.1) hk.2 hl),yD h.out.1.2.1 (fun k hk hl=>hm k (h.out.2.2.2 k hk.1) hk.2 hl),Ol h.out.1.2.2 (fun k hk hl=>hm k hk.2.1 hk.2.2 hl)⟩,h.out.2⟩
theorem KZ{w w1:World}{base M:Nat}{v0 v1 v2:Value}{p0:List iq}{p1:List ByteArray}{p2:List jm}(h:ah (GA w base M v0 v1 v2 p0 p1 p2))(hb:Below w.heap.size w w1):ah (GA w1 base M v0 v1 v2 p0 p1 p2):=abP h (fun k _ _ hl=>hb.block k hl)
theorem ana{w:World}{base M:Nat}{A0 A1 A2:Option Addr}{c0 c1 c2:Nat}{p0:List iq}{p1:List ByteArray}{p2:List jm}(h:ah (GA w base M (.slice A0 p0.length c0) (.slice A1 p1.length c1) (.slice A2 p2.length c2) p0 p1 p2)):ah (PC w A0 c0 p0 A1 c1 p1 A2 c2 p2):=
 ⟨(dB h.out.1.1).2.2,(dB h.out.1.1).2.1,(dB h.out.1.2.1).2.2,(dB h.out.1.2.1).2.1,aru (zu h.out.1.2.2).2.2,(zu h.out.1.2.2).2.1⟩
theorem anb{w:World}{g t:Nat}{a b c u0 u1 u2:Value}(h:w.heap[g]? =some (.cells #[a,b,c] t (0,0))):(((w.setCell ⟨g,0,none⟩ u0).setCell ⟨g,1,none⟩ u1).setCell ⟨g,2,none⟩ u2).heap[g]? =some (.cells #[u0,u1,u2] t (0,0)):=bU (bU (bU h 0 u0 rfl) 1 u1 rfl) 2 u2 rfl
theorem afu{w W:World}{g:Nat}{u0 u1 u2:Value}(h:Below w.heap.size w W)(hg:w.heap.size≤g):Below w.heap.size w (((W.setCell ⟨g,0,none⟩ u0).setCell ⟨g,1,none⟩ u1).setCell ⟨g,2,none⟩ u2):=nT (nT (nT h hg) hg) hg
theorem ab3{P:Program}{c:Code}{Q:Exit→Act→World→Prop}{a:Act}{b W:World}{g t:Nat}{cs:Array Value}{u0 u1 u2 x y z:Value}(_old:ah (b.heap[g]? =some (.cells cs t (0,0))))
  (h:∀W',ah (W'.heap[g]? =some (.cells #[x,y,z] t (0,0)))→ah (∀g' o,g'≠g→W.heap[g']? =some o→W'.heap[g']? =some o)→ah (∀s:World,s.heap.size≤g→Below s.heap.size s W→Below s.heap.size s W')→c.wp P Q a W')
  (hK:W.heap[g]? =some (.cells #[u0,u1,u2] t (0,0)):=by exact bq):c.wp P Q a (((W.setCell ⟨g,0,none⟩ x).setCell ⟨g,1,none⟩ y).setCell ⟨g,2,none⟩ z):=
 h _ ⟨anb hK⟩ ⟨fun _ _ hn ho=>(Below.heap_setCell _ _ _ _ hn).trans ((Below.heap_setCell _ _ _ _ hn).trans ((Below.heap_setCell _ _ _ _ hn).trans ho))⟩ ⟨fun _ hg hb=>afu hb hg⟩
theorem kx_{a W W':World}{g g':Nat}{o:Obj}(_old:ah (a.heap[g']? =some o))(hk:ah (∀g' o,g'≠g→W.heap[g']? =some o→W'.heap[g']? =some o))(n:ah (g'≠g))(h:W.heap[g']? =some o:=by exact bq):ah (W'.heap[g']? =some o):=⟨hk.out _ _ n.out h⟩
theorem hx_{s a W W':World}{g:Nat}(_old:ah (Below s.heap.size s a))(hs:ah (∀s:World,s.heap.size≤g→Below s.heap.size s W→Below s.heap.size s W'))(G:ah (s.heap.size≤g))(h:Below s.heap.size s W:=by exact bb):ah (Below s.heap.size s W'):=⟨hs.out s G.out h⟩
theorem aBk{wS wX w w':World}{v0 v1 v2:Value}{p0:List iq}{p1:List ByteArray}{p2:List jm}{ok0 ok1:Nat→Prop}(hS:Below wS.heap.size wS w)(hX:Below wX.heap.size wX w)(h0:Kd.R lg 63 w' w.heap.size ok0 v0 p0)(h1:Kd.R Kd.string 9 w' w.heap.size ok1 v1 p1)(h2:Kd.S kA 32 w' w.heap.size (fun k=>some k≠v0.ownBlock∧some k≠v1.ownBlock) v2 p2):∃base,wS.heap.size≤base∧wX.heap.size≤base∧ah (GA w' base w'.heap.size v0 v1 v2 p0 p1 p2):=
 ⟨w.heap.size,hS.size,hX.size,atF h0 h1 h2⟩
theorem aqr{k:Nat}{p r:jm}{t:Bool}{w:World}{a0 a1 a2:Option Addr}{a0' a1' a2':Nat}{b0 b1 b2:Option Addr}{b0' b1' b2':Nat}(HP:ah (PC w a0 a0' p.f0 a1 a1' p.f1 a2 a2' p.f2))(HQ:ah (PC w b0 b0' r.f0 b1 b1' r.f1 b2 b2' r.f2))(h:kS.f k p.f0 p.f1 p.f2 r.f0 r.f1 r.f2=some t):
  Calls Tryz.prog 10 #[.agg #[.slice a0 p.f0.length a0', .slice a1 p.f1.length a1', .slice a2 p.f2.length a2'], .agg #[.slice b0 r.f0.length b0', .slice b1 r.f1.length b1', .slice b2 r.f2.length b2']] w fun e w'=>e= .returned (.bool t)∧Below w.heap.size w w':=
 (kS.pair k).1 _ _ _ _ _ _ _ _ _ _ _ _ _ _ _ _ _ _ _ _ HP.out.1 HP.out.2.1 HP.out.2.2.1 HP.out.2.2.2.1 HP.out.2.2.2.2.1 HP.out.2.2.2.2.2 HQ.out.1 HQ.out.2.1 HQ.out.2.2.1 HQ.out.2.2.2.1 HQ.out.2.2.2.2.1 HQ.out.2.2.2.2.2 h
theorem aBl{k:Nat}{p q:jm}{t1 t2 t3:Int}{w0 w:World}{base M:Nat}{A0 A1 A2:Option Addr}{c0 c1 c2:Nat}(hB:Below w0.heap.size w0 w)(hbase:w0.heap.size≤base)(HG:ah (GA w base M (.slice A0 p.f0.length c0) (.slice A1 p.f1.length c1) (.slice A2 p.f2.length c2) p.f0 p.f1 p.f2))(e0:g_.f k p.f0 1=some (t1,q.f0))(e1:fU.f k p.f1 t1=some (t2,q.f1))(e2:jr.l0 k p.f2 t2 0=some (t3,q.f2)):
  Calls Tryz.prog 12 #[.agg #[.slice A0 p.f0.length c0, .slice A1 p.f1.length c1, .slice A2 p.f2.length c2], .int .i64 1] w fun e w'=>e= .returned (.int .i64 t3)∧(q.f0.length=p.f0.length∧q.f1.length=p.f1.length∧q.f2.length=p.f2.length)∧PC w' A0 c0 q.f0 A1 c1 q.f1 A2 c2 q.f2∧Below w0.heap.size w0 w'∧Kept w w' (fun k=>base≤k∧k<M):=by
 obtain⟨⟨h0,h1,h2⟩,hd,b0,b1⟩:=HG.out;refine(Y2.calls k (fun k h=>⟨fun h'=>hd k h.1 h'.1,fun h'=>h'.1.1 h.1⟩) (fun k h h'=>h'.1.2 h.1) hB (bP h0 hbase) (bP h1 hbase) (IK h2 hbase) e0 e1 e2).mono ?_;rintro e w' ⟨he,r0,r1,r2,hb,hk⟩;have l0:=(dB r0).1;have l1:=(dB r1).1;have l2:=(zu r2).1;have y0:=(dB r0).2;have y1:=(dB r1).2;have y2:=(zu r2).2;rw[l0]at y0;rw[l1]at y1;rw[l2]at y2;exact⟨he,⟨l0.symm,l1.symm,l2.symm⟩,⟨y0.2,y0.1,y1.2,y1.1,aru y2.2,y2.1⟩,hb,hk.mono (fun k h=>h.elim (fun h=>⟨b0 k h.1,h.2⟩) (fun h=>h.elim (fun h=>⟨b1 k h.1,h.2⟩) (fun h=>h.2)))⟩
theorem anc{k n0 n1 n2:Nat}{q:jm}{m r:Int}{w:World}{a0 a1 a2:Option Addr}{a0' a1' a2':Nat}(hn:q.f0.length=n0∧q.f1.length=n1∧q.f2.length=n2)(HQ:ah (PC w a0 a0' q.f0 a1 a1' q.f1 a2 a2' q.f2))(h:tK.f k q.f0 q.f1 q.f2 m=some r):
  Calls Tryz.prog 14 #[.agg #[.slice a0 n0 a0', .slice a1 n1 a1', .slice a2 n2 a2'], .int .i64 m] w fun e w'=>e= .returned (.int .i64 r)∧Below w.heap.size w w':=by
 obtain⟨e0,e1,e2⟩:=hn;subst e0;subst e1;subst e2;exact tK.calls k _ _ _ _ _ _ _ _ _ _ _ _ HQ.out.1 HQ.out.2.1 HQ.out.2.2.1 HQ.out.2.2.2.1 HQ.out.2.2.2.2.1 HQ.out.2.2.2.2.2 h
abbrev QC (w:World) (A0:Option Addr) (c0:Nat) (p0:List J_) (A1:Option Addr) (c1:Nat) (p1:List ByteArray) (A2:Option Addr) (c2:Nat) (p2:List FW):Prop:=
 Kd.C YJ w A0 p0.length p0∧p0.length≤c0∧Kd.C Kd.string w A1 p1.length p1∧p1.length≤c1∧Kd.C k26 w A2 p2.length p2∧p2.length≤c2
theorem qo{w w':World}{A0:Option Addr}{c0:Nat}{p0:List J_}{A1:Option Addr}{c1:Nat}{p1:List ByteArray}{A2:Option Addr}{c2:Nat}{p2:List FW}(h:ah (QC w A0 c0 p0 A1 c1 p1 A2 c2 p2))(hb:Below w.heap.size w w'):ah (QC w' A0 c0 p0 A1 c1 p1 A2 c2 p2):=
 ⟨aK h.out.1 hb,h.out.2.1,aK h.out.2.2.1 hb,h.out.2.2.2.1,aK h.out.2.2.2.2.1 hb,h.out.2.2.2.2.2⟩
theorem ahT{w:World}{B0 B1 B2:Nat}{o0 o1 o2:Nat→Prop}{a0 a1 a2:Option Addr}{a0' a1' a2':Nat}{p0:List iq}{p1:List ByteArray}{p2:List jm}(h0:ah (Kd.R lg 63 w B0 o0 (.slice a0 p0.length a0') p0))(h1:ah (Kd.R Kd.string 9 w B1 o1 (.slice a1 p1.length a1') p1))(h2:ah (Kd.R k32 32 w B2 o2 (.slice a2 p2.length a2') p2)):ah (PC w a0 a0' p0 a1 a1' p1 a2 a2' p2):=
 ⟨(dB h0.out).2.2,(dB h0.out).2.1,(dB h1.out).2.2,(dB h1.out).2.1,(dB h2.out).2.2,(dB h2.out).2.1⟩
theorem cTo{k:Nat}{x:FW}{p:jm}{w:World}{a0 a1 a2:Option Addr}{a0' a1' a2':Nat}(HX:ah (QC w a0 a0' x.f0 a1 a1' x.f1 a2 a2' x.f2))(h:kY.f k x.f0 x.f1 x.f2=some (p.f0,p.f1,p.f2)):
  Calls Tryz.prog 7 #[.agg #[.slice a0 x.f0.length a0', .slice a1 x.f1.length a1', .slice a2 x.f2.length a2']] w fun e w'=>∃v0 v1 v2:Value,e= .returned (.agg #[v0,v1,v2])∧Kd.R lg 63 w' w.heap.size (fun _=>True) v0 p.f0∧Kd.R Kd.string 9 w' w.heap.size (fun _=>True) v1 p.f1∧Kd.R k32 32 w' w.heap.size (fun _=>True) v2 p.f2∧Below w.heap.size w w':=
 ((kY.pair k).1 _ _ _ _ _ _ _ _ _ _ _ _ _ HX.out.1 HX.out.2.1 HX.out.2.2.1 HX.out.2.2.2.1 HX.out.2.2.2.2.1 HX.out.2.2.2.2.2 h).mono (by
  rintro e w' ⟨v0,v1,v2,he,h0,h1,h2,hb⟩;exact⟨v0,v1,v2,he,h0,h1,aY h2 (fun _ _=>trivial),hb⟩)
theorem cAt{k:Nat}{p x:jm}{path:List Int}{b:Bool}{w w1:World}{B0 B1 B2:Nat}{o0 o1 o2:Nat→Prop}{a0 a1 a2 A:Option Addr}{a0' a1' a2' c:Nat}(H0:ah (Kd.R lg 63 w1 B0 o0 (.slice a0 p.f0.length a0') p.f0))(H1:ah (Kd.R Kd.string 9 w1 B1 o1 (.slice a1 p.f1.length a1') p.f1))(H2:ah (Kd.R k32 32 w1 B2 o2 (.slice a2 p.f2.length a2') p.f2))(hb:ah (Below w1.heap.size w1 w))(hr:Kd.C (Kd.int .i64) w A path.length path)(hc:path.length≤c)(hg:MaxOk w)(h:lJ.f k p.f0 p.f1 p.f2 path=some (x.f0,x.f1,x.f2,b)):
  Calls Tryz.prog 9 #[.agg #[.slice a0 p.f0.length a0', .slice a1 p.f1.length a1', .slice a2 p.f2.length a2'], .slice A path.length c] w fun e w'=>∃v0 v1 v2:Value,e= .returned (.tuple #[.agg #[v0,v1,v2], .bool b])∧Kd.R lg 63 w' w.heap.size (fun k_=>(w.heap.size≤k_)) v0 x.f0∧Kd.R Kd.string 9 w' w.heap.size (fun k_=>(w.heap.size≤k_)) v1 x.f1∧Kd.S kA 32 w' w.heap.size (fun k_=>some k_≠(v0:Value).ownBlock∧some k_≠(v1:Value).ownBlock) v2 x.f2∧Below w.heap.size w w':=
 (lJ.calls k o0 _ _ _ o1 _ _ _ o2 _ _ _ _ _ _ _ _ _ _ _ (Kd.R_V (lZ H0.out hb.out)) (Kd.R_V (lZ H1.out hb.out)) (Kd.R_V (lZ H2.out hb.out)) hr hc hg h).mono (by
  rintro e w' ⟨v0,v1,v2,he,h0,h1,h2,hb⟩;exact⟨v0,v1,v2,he,h0,h1,oz h2 (fun _ hk=>hk.2),hb⟩)
theorem aGD{k:Nat}{p x:jm}{path:List Int}{b:Bool}{w:World}{a0 a1 a2 A:Option Addr}{a0' a1' a2' c:Nat}(HP:ah (PC w a0 a0' p.f0 a1 a1' p.f1 a2 a2' p.f2))(hr:Kd.C (Kd.int .i64) w A path.length path)(hc:path.length≤c)(h:wZ.f k p.f0 p.f1 p.f2 path=some (x.f0,x.f1,x.f2,b)):
  Calls Tryz.prog 6 #[.agg #[.slice a0 p.f0.length a0', .slice a1 p.f1.length a1', .slice a2 p.f2.length a2'], .slice A path.length c] w fun e w'=>∃v0 v1 v2:Value,e= .returned (.tuple #[.agg #[v0,v1,v2], .bool b])∧Kd.R lg 63 w' w.heap.size (fun _=>True) v0 x.f0∧Kd.R Kd.string 9 w' w.heap.size (fun _=>True) v1 x.f1∧Kd.R k32 32 w' w.heap.size (fun k_=>some k_≠(v0:Value).ownBlock∧some k_≠(v1:Value).ownBlock) v2 x.f2∧Below w.heap.size w w':=
 wZ.calls k _ _ _ _ _ _ _ _ _ _ _ _ _ _ _ _ _ HP.out.1 HP.out.2.1 HP.out.2.2.1 HP.out.2.2.2.1 HP.out.2.2.2.2.1 HP.out.2.2.2.2.2 hr hc h
theorem aGE{k:Nat}{l r:List Int}{t:Bool}{w:World}{a b:Option Addr}{a' b':Nat}(hl:Kd.C (Kd.int .i64) w a l.length l)(hl':l.length≤a')(hr:Kd.C (Kd.int .i64) w b r.length r)(hr':r.length≤b')(h:lI.f k l r=some t):
  Calls Tryz.prog 11 #[.slice a l.length a', .slice b r.length b'] w fun e w'=>e= .returned (.bool t)∧Below w.heap.size w w':=
 (lI.calls k _ _ _ _ _ _ _ _ hl hl' hr hr' h).mono (by
  rintro e w' ⟨he,n,rfl⟩;exact⟨he,qh (Below.refl _ _) n⟩)
def Sx(wS wP:World)(g:Nat):Prop:=wS.heap.size≤g∧g<wP.heap.size∧∃cells t,wP.heap[g]? =some (.cells cells t (0,0))∧(t=63∨t=9)
theorem aqs{k:Nat}{p:jm}{wS wP w:World}{v0 v1 v2:Value}(hT:MT k 10000000)(h0:lg.R 63 wP wS.heap.size (fun _=>True) v0 p.f0)(h1:Kd.string.R 9 wP wS.heap.size (fun _=>True) v1 p.f1)(h2:k32.R 32 wP wS.heap.size (fun _=>True) v2 p.f2)(hd:Below wP.heap.size wP w)(hm:1+muS p≤10000000):
  Calls Tryz.prog 12 #[.agg #[v0,v1,v2], .int .i64 1] w fun e w'=>∃m':Nat,e= .returned (.int .i64 (m':Int))∧m'≤10000000∧Sm (Sx wS wP) w w':=by
 have q:=awE (S:=Sx wS wP) (ok:=fun g=>wS.heap.size≤g∧g<wP.heap.size) (k:=k) (m:=1) hT (by omega) (w1:=w) (w:=w) ?_ ?_ ?_ (aY (lZ (lM h0) hd) (fun _ hk=>⟨hk.2.1,hk.2.2.1⟩)) (aY (lZ (lM h1) hd) (fun _ hk=>⟨hk.2.1,hk.2.2.1⟩)) (aY (lZ (lM h2) hd) (fun _ hk=>⟨hk.2.1,hk.2.2.1⟩)) hm (Sm.refl _ _)
 ·exact q.mono (by
   rintro e w' ⟨m',he,hm,hs⟩;exact⟨m',he,hm,hs⟩)
 ·rintro g cells hc ⟨-,hl,cs,t,e1,e2⟩;rw[hd.block g hl,e1]at hc
  have e3:t=32:=by
   have:=Option.some.inj hc;injection this
  rcases e2 with rfl|rfl
  ·exact absurd e3 (by decide)
  ·exact absurd e3 (by decide)
 ·intro g cells t hg hc ht;refine⟨hg.1,hg.2,cells,t,?_,ht⟩;rw[←hd.block g hg.2];exact hc
 ·rintro g ⟨-,hl,-⟩;exact Nat.lt_of_lt_of_le hl hd.size
theorem aBm{wS wP w w1:World}{base M:Nat}{v0 v1 v2:Value}{p0:List iq}{p1:List ByteArray}{p2:List jm}(h:ah (GA w base M v0 v1 v2 p0 p1 p2))(hs:Sm (Sx wS wP) w w1)(hP:wP.heap.size≤base):ah (GA w1 base M v0 v1 v2 p0 p1 p2):=abP h (fun k hb _ hl=>(hs.2.1 k hl).1 (fun hx=>by have:=hx.2.1;omega))
theorem awF{wS wP w w1:World}{g:Nat}{o:Obj}(h:w.heap[g]? =some o)(hs:Sm (Sx wS wP) w w1)(hP:wP.heap.size≤g):w1.heap[g]? =some o:=((hs.2.1 g (dI h)).1 (fun hx=>by have:=hx.2.1;omega)).trans h
def uY.Ok(k:Nat)(x:FW)(l1:List Int):Prop:=
 (l1.length:Int)>1048576∨¬(l1.length:Int)>1048576∧∃v,jS.f k x.f0 x.f1 x.f2 1048576=some v∧(v<0∨¬v<0∧∃(p g q:jm) (b:Bool) (t1 t2 t3:Int),kY.f k x.f0 x.f1 x.f2=some (p.f0,p.f1,p.f2)∧kP.f k l1=some l1∧wZ.f k p.f0 p.f1 p.f2 l1=some (g.f0,g.f1,g.f2,b)∧lJ.f k p.f0 p.f1 p.f2 l1=some (g.f0,g.f1,g.f2,b)∧kS.f k g.f0 g.f1 g.f2 g.f0 g.f1 g.f2=some true∧kS.f k p.f0 p.f1 p.f2 p.f0 p.f1 p.f2=some true∧lI.f k l1 l1=some true∧MT k 10000000∧1+muS p≤10000000∧(∀m:Nat,m≤10000000→∃(m2:Int) (x2:List Int),jU.f k l1 (m:Int)=some (m2,x2)∧¬m2<0)∧
  g_.f k g.f0 1=some (t1,q.f0)∧fU.f k g.f1 t1=some (t2,q.f1)∧jr.l0 k g.f2 t2 0=some (t3,q.f2)∧tK.f k q.f0 q.f1 q.f2 1=some t3∧¬t3<0)
set_option maxHeartbeats 8000000 in
set_option maxRecDepth 100000 in
theorem uY.calls(k:Nat)(A0:Option Addr)(c0:Nat)(A1:Option Addr)(c1:Nat)(A2:Option Addr)(c2:Nat)(x:FW)(A3:Option Addr)(c3:Nat)(l1:List Int)(_r:Bool)(w:World)(hx:ah (QC w A0 c0 x.f0 A1 c1 x.f1 A2 c2 x.f2))(hr1:Kd.C (Kd.int .i64) w A3 l1.length l1)(hc1:l1.length≤c3)(hm:ah (MaxOk w))(h:uY.Ok k x l1):
  Calls Tryz.prog 3 #[.agg #[.slice A0 x.f0.length c0, .slice A1 x.f1.length c1, .slice A2 x.f2.length c2], .slice A3 l1.length c3] w fun e w'=>e= .returned (.bool true)∧Below w.heap.size w w':=by
 have IQ:=underlying32;have aos:=underlying26;have HR1:=ak hr1;have HC1:=ak hc1;clear hr1 hc1;have B:=ak (Below.refl w.heap.size w);rcases h with h|⟨h,v,e1,h2⟩
 ·have vw:decide (1048576<(l1.length:Int))=true:=decide_eq_true h;have EC:decide (1048576<l1.length)=true:=decide_eq_true (by omega);clear h;go_enter func3,ntmps3;go_wp2_with (refine bY B 2 #[.slice A0 x.f0.length c0, .slice A1 x.f1.length c1, .slice A2 x.f2.length c2] 26 ?_;intro ga w_ pV GWa hg hb;clear hg;replace B:=bz B hb;clear hb;have MI:=iE pV.out)
  go_ret;exact⟨rfl,B.out⟩
 have vw:decide (1048576<(l1.length:Int))=false:=decide_eq_false h;have EC:decide (1048576<l1.length)=false:=decide_eq_false (by omega);clear h;have E1:=ak e1;clear e1;rcases h2 with h2|⟨h2,p,g,q,b,t1,t2,t3,e3,e4,e5,e6,e7,e8,e9,e10,e11,e12,e13,e14,e15,e16,h16⟩
 ·have gQ:decide (v<0)=true:=decide_eq_true h2;clear h2;go_enter func3,ntmps3;go_wp2_with (first|(refine bY B 2 #[.slice A0 x.f0.length c0, .slice A1 x.f1.length c1, .slice A2 x.f2.length c2] 26 ?_;intro ga w_ pV GWa hg hb;clear hg;replace B:=bz B hb;clear hb;have MI:=iE pV.out)|(go_at_call 5;(with_reducible refine(jS.calls k _ _ x.f0 _ _ x.f1 _ _ x.f2 1048576 v _ (qo hx B.out).out.1 (qo hx B.out).out.2.1 (qo hx B.out).out.2.2.1 (qo hx B.out).out.2.2.2.1 (qo hx B.out).out.2.2.2.2.1 (qo hx B.out).out.2.2.2.2.2 E1.out).mono ?_);rintro e w_ ⟨rfl,hb⟩;replace B:=bz B hb;replace pV:=kb pV hb;clear hb;have MI:=iE pV.out))
  go_ret;exact⟨rfl,B.out⟩
 have gQ:decide (v<0)=false:=decide_eq_false h2;have y5:decide (t3<0)=false:=decide_eq_false h16;have cb:(b !=b)=false:=by simp
 have ct:(t3 !=t3)=false:=by simp
 have E3:=ak e3;have E4:=ak e4;have E5:=ak e5;have E6:=ak e6;have E7:=ak e7;have E8:=ak e8;have E9:=ak e9;have E10:=ak e10;have E11:=ak e11;have E12:=ak e12;have E13:=ak e13;have E14:=ak e14;have E15:=ak e15;have E16:=ak e16;clear h2 h16 e3 e4 e5 e6 e7 e8 e9 e10 e11 e12 e13 e14 e15 e16;go_enter func3,ntmps3;go_upto_region 7 with(first|(refine bY B 2 #[.slice A0 x.f0.length c0, .slice A1 x.f1.length c1, .slice A2 x.f2.length c2] 26 ?_;intro ga w_ pV GWa hg hb;clear hg;replace B:=bz B hb;clear hb;have MI:=iE pV.out)|(go_at_call 5;(with_reducible refine(jS.calls k _ _ x.f0 _ _ x.f1 _ _ x.f2 1048576 v _ (qo hx B.out).out.1 (qo hx B.out).out.2.1 (qo hx B.out).out.2.2.1 (qo hx B.out).out.2.2.2.1 (qo hx B.out).out.2.2.2.2.1 (qo hx B.out).out.2.2.2.2.2 E1.out).mono ?_);rintro e w_ ⟨rfl,hb⟩;replace B:=bz B hb;replace pV:=kb pV hb;clear hb;have MI:=iE pV.out))
 go_upto_region 8 with(first|(go_at_call 7;(with_reducible refine(cTo (qo hx B.out) E3.out).mono ?_);rintro e w_U ⟨qZ,IL,Ko,rfl,h0,h1,h2,hb⟩;replace B:=bz B hb;replace pV:=kb pV hb;clear hb;have MI:=iE pV.out;obtain⟨U0,U1,rfl⟩:=bG h0;obtain⟨U2,U3,rfl⟩:=bG h1;obtain⟨U4,U5,rfl⟩:=bG h2;have HU:=ahT (ak h0) (ak h1) (ak h2);have DU:=ak (Below.refl w_U.heap.size w_U);clear h0 h1 h2)|(go_at_call 8;(with_reducible refine(kP.calls k _ _ l1 l1 _ (aK HR1.out B.out) HC1.out E4.out).mono ?_);rintro e w_I ⟨v0,rfl,h0,hb⟩;obtain⟨I0,I1,rfl⟩:=bG h0;have HI:=ak (dB h0).2.2;have HIc:=ak (dB h0).2.1;clear h0;replace B:=bz B hb;replace DU:=bz DU hb;replace pV:=kb pV hb;clear hb;have MI:=iE pV.out;have DI:=ak (Below.refl w_I.heap.size w_I))|(go_at_call 6;(with_reducible refine(aGD (yc HU DU.out) (aK HI.out DI.out) HIc.out E5.out).mono ?_);rintro e w_W ⟨x0_,x1_,x2_,rfl,h0,h1,h2,hb⟩;obtain⟨W0,W1,W2,W3,W4,W5,rfl,rfl,rfl,HW⟩:=aBj h0 h1 h2;clear h0 h1 h2 HU DU HI HIc DI;replace B:=bz B hb;replace pV:=kb pV hb;clear hb;have MI:=iE pV.out;have H1:=ak (Below.refl w_W.heap.size w_W))|(refine bY B 6 #[.slice none 0 0, .slice none 0 0, .slice none 0 0] 32 ?_;intro gw w_ tN GXw hg hb;have aBn:=mJ H1 hg;have Naw:=YK pV hg;have Nwa:=YL pV hg;replace B:=bz B hb;replace H1:=bz H1 hb;replace pV:=kb pV hb;clear hb hg;have aMc:=Naw.out;have aMd:=Nwa.out;have MI:=iE pV.out;have UN:=iE tN.out))
 (try simp only[Act.put,jB,jC,l_c]);refine ab3 tN ?_;intro w_S BKn hk hs;replace pV:=kx_ pV hk Naw;replace B:=hx_ B hs GXw;replace H1:=hx_ H1 hs aBn;clear hk hs tN;have tN:=BKn;clear BKn;have MI:=iE pV.out;have UN:=iE tN.out;have awG:=pV;have awH:=tN;have HWS:=yc HW H1.out;have HX:=qo hx B.out;have HRS:=ak (aK HR1.out B.out);have HMS:=ak (MaxOk.below hm.out B.out);have HB:=ak (Below.refl w_S.heap.size w_S);clear HW H1 hm hx HR1 GXw aBn;go_upto_region 9 with(first|(go_at_call 7;(with_reducible refine(cTo (qo HX HB.out) E3.out).mono ?_);rintro e w_P ⟨qZ,IL,Ko,rfl,h0,h1,h2,hb⟩;replace HB:=bz HB hb;replace pV:=kb pV hb;replace tN:=kb tN hb;clear hb;have MI:=iE pV.out;have UN:=iE tN.out;obtain⟨P0,P1,rfl⟩:=bG h0;obtain⟨P2,P3,rfl⟩:=bG h1;obtain⟨P4,P5,rfl⟩:=bG h2;have HR0:=ak (lM h0);have HR1:=ak (lM h1);have HR2:=ak (lM h2);have HP0:=ak h0;have HP1:=ak h1;have HP2:=ak h2;have HP:=ahT (ak h0) (ak h1) (ak h2);have DP:=ak (Below.refl w_P.heap.size w_P);clear h0 h1 h2)|(refine bY HB 8 #[.slice none 0 0, .slice none 0 0, .slice none 0 0] 32 ?_;intro gp w_ JU GXp hg hb;have aGF:=mJ DP hg;have Nap:=YK pV hg;have Npa:=YL pV hg;have Nwp:=YK tN hg;have Npw:=YL tN hg;replace HB:=bz HB hb;replace DP:=bz DP hb;replace pV:=kb pV hb;replace tN:=kb tN hb;clear hb hg;have aMe:=Nap.out;have hmap:=Npa.out;have aMf:=Nwp.out;have aMg:=Npw.out;have MI:=iE pV.out;have UN:=iE tN.out;have zp_:=iE JU.out))
 (try simp only[Act.put,jB,jC,l_c]);refine ab3 JU ?_;intro w_ BKn hk hs;replace pV:=kx_ pV hk Nap;replace tN:=kx_ tN hk Nwp;replace HB:=hx_ HB hs GXp;replace DP:=hx_ DP hs aGF;clear hk hs JU;have JU:=BKn;clear BKn;have MI:=iE pV.out;have UN:=iE tN.out;have zp_:=iE JU.out;go_upto_region 10 with(go_at_call 8;(with_reducible refine(kP.calls k _ _ l1 l1 _ (aK HRS.out HB.out) HC1.out E4.out).mono ?_);rintro e w_J ⟨v0,rfl,h0,hb⟩;obtain⟨J0,J1,rfl⟩:=bG h0;have HJ:=ak (bP (aY (ok':=fun k=>some k=(Value.slice J0 l1.length J1).ownBlock∧w_P.heap.size≤k∧k<w_J.heap.size) (lM (Gf rfl h0)) (fun k hk=>⟨hk.1,Nat.le_trans (aj DP.out) hk.2.1,hk.2.2.1⟩)) (aj HB.out));have HPJ:=ak (Nat.le_trans (aj DP.out) hb.size);clear h0;replace HB:=bz HB hb;replace DP:=bz DP hb;replace pV:=kb pV hb;replace tN:=kb tN hb;replace JU:=kb JU hb;clear hb;have MI:=iE pV.out;have UN:=iE tN.out;have zp_:=iE JU.out;have DJ:=ak (Below.refl w_J.heap.size w_J))
 go_upto_region 11 with(first|(go_at_call 9;(with_reducible refine(cAt HP0 HP1 HP2 DP (aK (dB HJ.out).2.2 DJ.out) (dB HJ.out).2.1 (MaxOk.below HMS.out HB.out) E6.out).mono ?_);rintro e w_G ⟨x0_,x1_,x2_,rfl,h0,h1,h2,hb⟩;obtain⟨G0,G1,rfl⟩:=bG h0;obtain⟨G2,G3,rfl⟩:=bG h1;obtain⟨G4,G5,rfl⟩:=Df h2;obtain⟨aJE,hgs,hgx,HG⟩:=aBk (wS:=w_S) (wX:=w_J) HB.out DJ.out h0 h1 h2;clear h0 h1 h2 HP0 HP1 HP2;replace HB:=bz HB hb;replace DP:=bz DP hb;replace DJ:=bz DJ hb;replace pV:=kb pV hb;replace tN:=kb tN hb;replace JU:=kb JU hb;clear hb;have DG:=ak (Below.refl w_G.heap.size w_G);have MI:=iE pV.out;have UN:=iE tN.out;have zp_:=iE JU.out;have HGs:=ak hgs;have HGx:=ak hgx;clear hgs hgx)|(refine bY HB 10 #[.slice none 0 0, .slice none 0 0, .slice none 0 0] 32 ?_;intro gg w_ yu GXg hg hb;have aGG:=mJ DP hg;have awI:=mJ DJ hg;have aBo:=mJ DG hg;have Nag:=YK pV hg;have Nga:=YL pV hg;have Nwg:=YK tN hg;have Ngw:=YL tN hg;have Npg:=YK JU hg;have Ngp:=YL JU hg;replace HB:=bz HB hb;replace DP:=bz DP hb;replace DJ:=bz DJ hb;replace DG:=bz DG hb;replace pV:=kb pV hb;replace tN:=kb tN hb;replace JU:=kb JU hb;clear hb hg;have aMh:=Nag.out;have hmag:=Nga.out;have aMi:=Nwg.out;have aMj:=Ngw.out;have aMk:=Npg.out;have aMl:=Ngp.out;have MI:=iE pV.out;have UN:=iE tN.out;have zp_:=iE JU.out;have zg_:=iE yu.out))
 (try simp only[Act.put,jB,jC,l_c]);refine ab3 yu ?_;intro w_ BKn hk hs;replace pV:=kx_ pV hk Nag;replace tN:=kx_ tN hk Nwg;replace JU:=kx_ JU hk Npg;replace HB:=hx_ HB hs GXg;replace DP:=hx_ DP hs aGG;replace DJ:=hx_ DJ hs awI;replace DG:=hx_ DG hs aBo;clear hk hs yu;have yu:=BKn;clear BKn;have MI:=iE pV.out;have UN:=iE tN.out;have zp_:=iE JU.out;have zg_:=iE yu.out;go_upto_region 13 with(go_at_call 10;(with_reducible refine mB (aqr (ana (KZ HG DG.out)) (yc HWS HB.out) E7.out) ?_);intro w_ hb;replace HB:=bz HB hb;replace DP:=bz DP hb;replace DJ:=bz DJ hb;replace DG:=bz DG hb;replace pV:=kb pV hb;replace tN:=kb tN hb;replace JU:=kb JU hb;replace yu:=kb yu hb;clear hb;have MI:=iE pV.out;have UN:=iE tN.out;have zp_:=iE JU.out;have zg_:=iE yu.out)
 refine aGH [0,1,2,3,4] (by kernel_rfl) (by kernel_rfl) (fun _ _ d _ _ h=>by cases d<;>exact h) (fun wd hb RS=>?_);replace HB:=bz HB hb;replace DP:=bz DP hb;replace DJ:=bz DJ hb;replace DG:=bz DG hb;replace pV:=kb pV hb;replace tN:=kb tN hb;replace JU:=kb JU hb;replace yu:=kb yu hb;clear hb;have MI:=iE pV.out;have UN:=iE tN.out;have zp_:=iE JU.out;have zg_:=iE yu.out;go_upto_region 15 with(first|(go_at_call 7;(with_reducible refine(cTo (qo HX HB.out) E3.out).mono ?_);rintro e w_R ⟨qZ,IL,Ko,rfl,h0,h1,h2,hb⟩;replace HB:=bz HB hb;replace DP:=bz DP hb;replace DJ:=bz DJ hb;replace DG:=bz DG hb;replace RS:=bz RS hb;replace pV:=kb pV hb;replace tN:=kb tN hb;replace JU:=kb JU hb;replace yu:=kb yu hb;clear hb;have MI:=iE pV.out;have UN:=iE tN.out;have zp_:=iE JU.out;have zg_:=iE yu.out;obtain⟨R_0,R_1,rfl⟩:=bG h0;obtain⟨R_2,R_3,rfl⟩:=bG h1;obtain⟨R_4,R_5,rfl⟩:=bG h2;have HR_:=ahT (ak h0) (ak h1) (ak h2);have DR_:=ak (Below.refl w_R.heap.size w_R);clear h0 h1 h2)|(go_at_call 10;(with_reducible refine mB (aqr (yc HP DP.out) (yc HR_ DR_.out) E8.out) ?_);intro w_ hb;replace HB:=bz HB hb;replace DP:=bz DP hb;replace DJ:=bz DJ hb;replace DG:=bz DG hb;replace DR_:=bz DR_ hb;replace RS:=bz RS hb;replace pV:=kb pV hb;replace tN:=kb tN hb;replace JU:=kb JU hb;replace yu:=kb yu hb;clear hb;have MI:=iE pV.out;have UN:=iE tN.out;have zp_:=iE JU.out;have zg_:=iE yu.out)|(refine aD8 ?_;clear RS)|(refine aBp (v:=?_) (a':=?_) (gk.trans rfl) rfl rfl ?_ ?_ ?_;rotate_left;(focus (intro w' hS;have hcell:=aD9 hS;clear hS;go_simp;with_reducible rfl));rotate_left;(focus (simp only[Act.put,jB,jC,l_c];rfl)))|(refine aBq (gk.trans rfl) rfl (fun K_ hK_=>?_);rw[if_pos (by rfl)])|(refine Shut.out hK_ _ _ RS.out ?_))
 go_upto_region 18 with(first|(go_at_call 8;(with_reducible refine(kP.calls k _ _ l1 l1 _ (aK HRS.out HB.out) HC1.out E4.out).mono ?_);rintro e w_Y ⟨v0,rfl,h0,hb⟩;obtain⟨Y0,Y1,rfl⟩:=bG h0;have HY:=ak (dB h0).2.2;have HYc:=ak (dB h0).2.1;clear h0;replace HB:=bz HB hb;replace DP:=bz DP hb;replace DJ:=bz DJ hb;replace DG:=bz DG hb;replace pV:=kb pV hb;replace tN:=kb tN hb;replace JU:=kb JU hb;replace yu:=kb yu hb;clear hb;have MI:=iE pV.out;have UN:=iE tN.out;have zp_:=iE JU.out;have zg_:=iE yu.out;have DY:=ak (Below.refl w_Y.heap.size w_Y))|(go_at_call 11;(with_reducible refine mB (aGE (aK (dB HJ.out).2.2 DJ.out) (dB HJ.out).2.1 (aK HY.out DY.out) HYc.out E9.out) ?_);intro w_ hb;replace HB:=bz HB hb;replace DP:=bz DP hb;replace DJ:=bz DJ hb;replace DG:=bz DG hb;replace DY:=bz DY hb;replace pV:=kb pV hb;replace tN:=kb tN hb;replace JU:=kb JU hb;replace yu:=kb yu hb;clear hb;have MI:=iE pV.out;have UN:=iE tN.out;have zp_:=iE JU.out;have zg_:=iE yu.out))
 have HMk:=ak (aqs E10.out (aY HR0.out (fun _ _=>trivial)) (aY HR1.out (fun _ _=>trivial)) (aY HR2.out (fun _ _=>trivial)) DP.out E11.out);go_upto_region 19 with(go_at_call 12;(with_reducible refine HMk.out.mono ?_);rintro e w_M ⟨m1,rfl,hm1,hs⟩;obtain⟨m2,x2,em,hm2⟩:=E12.out m1 hm1;have EM:=ak em;have cm:decide (m2<0)=false:=decide_eq_false (by omega);have HB1:=ak (hs.2.2 w_S (fun g hg=>hg.1) HB.out);have HG1:=aBm (KZ HG DG.out) hs (Nat.le_trans HPJ.out HGx.out);have FY:=ak (yD (lZ HJ.out DJ.out) (fun k_ hk_ hl_=>(hs.2.1 k_ hl_).1 (fun hS=>by have a1:=hS.2.1;have a2:=hk_.2.1;omega)));have adr:=ak (awF yu.out hs (Nat.le_trans HPJ.out awI.out));clear HMk HB HG HJ DG DJ DP pV tN JU yu hs em hm1 hm2;have HB:=HB1;have HG:=HG1;have HJ:=FY;have yu:=adr;clear HB1 HG1 FY adr;have pV:=ak (jy awG.out HB.out);have tN:=ak (jy awH.out HB.out);have DG:=ak (Below.refl w_M.heap.size w_M);have DJ:=ak (Below.refl w_M.heap.size w_M);have MI:=iE pV.out;have UN:=iE tN.out;have zg_:=iE yu.out)
 go_upto_region 20 with(go_at_call 13;(with_reducible refine(jU.calls k _ _ l1 (m1:Int) m2 x2 w_S _ HB.out (lZ HJ.out DJ.out) EM.out).mono ?_);rintro e w_N ⟨rfl,hr,hb,hk⟩;have HG1:=abP (KZ HG DG.out) (fun k_ hb_ hM_ hl_=>hk.2 k_ hl_ (fun hh=>by have Ec:=hh.2.2;have Ed:=HGx.out;omega));have adr:=ak (QY yu.out hk (fun hh=>by have Ec:=hh.2.2;have Ed:=awI.out;omega));clear HG DG DJ HJ HB yu pV tN hr hk;have HG:=HG1;have yu:=adr;have HB:=ak hb;clear HG1 adr hb;have pV:=ak (jy awG.out HB.out);have tN:=ak (jy awH.out HB.out);have DG:=ak (Below.refl w_N.heap.size w_N);have MI:=iE pV.out;have UN:=iE tN.out;have zg_:=iE yu.out)
 go_upto_region 23 with(go_at_call 10;(with_reducible refine mB (aqr (ana (KZ HG DG.out)) (yc HWS HB.out) E7.out) ?_);intro w_ hb;replace HB:=bz HB hb;replace DG:=bz DG hb;replace pV:=kb pV hb;replace tN:=kb tN hb;replace yu:=kb yu hb;clear hb;have MI:=iE pV.out;have UN:=iE tN.out;have zg_:=iE yu.out)
 go_upto_region 25 with(go_at_call 12;(with_reducible refine(aBl HB.out HGs.out (KZ HG DG.out) E13.out E14.out E15.out).mono ?_);rintro e w_O ⟨rfl,hl,hp,hb,hk⟩;have HQ:=ak hp;have HL:=ak hl;have adr:=ak (QY yu.out hk (fun hh=>by have Ec:=hh.2;have Ed:=aBo.out;omega));clear HG DG HB yu pV tN hk hl hp;have yu:=adr;have HB:=ak hb;clear adr hb;have pV:=ak (jy awG.out HB.out);have tN:=ak (jy awH.out HB.out);have DN:=ak (Below.refl w_O.heap.size w_O);have MI:=iE pV.out;have UN:=iE tN.out;have zg_:=iE yu.out)
 go_upto_region 30 with(go_at_call 14;(with_reducible refine mB (anc HL.out (yc HQ DN.out) E16.out) ?_);intro w_ hb;replace HB:=bz HB hb;replace DN:=bz DN hb;replace pV:=kb pV hb;replace tN:=kb tN hb;replace yu:=kb yu hb;clear hb;have MI:=iE pV.out;have UN:=iE tN.out;have zg_:=iE yu.out)
 go_upto_region 31 with(first|(go_at_call 7;(with_reducible refine(cTo (qo HX HB.out) E3.out).mono ?_);rintro e w_V ⟨qZ,IL,Ko,rfl,h0,h1,h2,hb⟩;replace HB:=bz HB hb;replace DN:=bz DN hb;replace pV:=kb pV hb;replace tN:=kb tN hb;replace yu:=kb yu hb;clear hb;have MI:=iE pV.out;have UN:=iE tN.out;have zg_:=iE yu.out;obtain⟨V0,V1,rfl⟩:=bG h0;obtain⟨V2,V3,rfl⟩:=bG h1;obtain⟨V4,V5,rfl⟩:=bG h2;have HV0:=ak h0;have HV1:=ak h1;have HV2:=ak h2;have HV:=ahT (ak h0) (ak h1) (ak h2);have DV:=ak (Below.refl w_V.heap.size w_V);clear h0 h1 h2)|(go_at_call 8;(with_reducible refine(kP.calls k _ _ l1 l1 _ (aK HRS.out HB.out) HC1.out E4.out).mono ?_);rintro e w_Z ⟨v0,rfl,h0,hb⟩;obtain⟨Z0,Z1,rfl⟩:=bG h0;have HZ:=ak (dB h0).2.2;have HZc:=ak (dB h0).2.1;clear h0;replace HB:=bz HB hb;replace DN:=bz DN hb;replace DV:=bz DV hb;replace pV:=kb pV hb;replace tN:=kb tN hb;replace yu:=kb yu hb;clear hb;have MI:=iE pV.out;have UN:=iE tN.out;have zg_:=iE yu.out;have DZ:=ak (Below.refl w_Z.heap.size w_Z))|(go_at_call 9;(with_reducible refine(cAt HV0 HV1 HV2 DV (aK HZ.out DZ.out) HZc.out (MaxOk.below HMS.out HB.out) E6.out).mono ?_);rintro e w_H ⟨x0_,x1_,x2_,rfl,h0,h1,h2,hb⟩;obtain⟨H0,H1,rfl⟩:=bG h0;obtain⟨H2,H3,rfl⟩:=bG h1;obtain⟨H4,H5,rfl⟩:=Df h2;have HH:=ana (atF h0 h1 h2);clear h0 h1 h2 HV0 HV1 HV2 HV DV HZ HZc DZ;replace HB:=bz HB hb;replace DN:=bz DN hb;replace pV:=kb pV hb;replace tN:=kb tN hb;replace yu:=kb yu hb;clear hb;have DH:=ak (Below.refl w_H.heap.size w_H);have MI:=iE pV.out;have UN:=iE tN.out;have zg_:=iE yu.out)|(refine bY HB 15 #[.slice none 0 0, .slice none 0 0, .slice none 0 0] 32 ?_;intro gh w_ BKh GXh hg hb;have aGI:=mJ DN hg;have aGJ:=mJ DH hg;have Nah:=YK pV hg;have Nha:=YL pV hg;have Nwh:=YK tN hg;have Nhw:=YL tN hg;have Ngh:=YK yu hg;have Nhg:=YL yu hg;replace HB:=bz HB hb;replace DN:=bz DN hb;replace DH:=bz DH hb;replace pV:=kb pV hb;replace tN:=kb tN hb;replace yu:=kb yu hb;clear hb hg;have aMm:=Nah.out;have aMn:=Nha.out;have aMo:=Nwh.out;have aMp:=Nhw.out;have aMq:=Ngh.out;have aMr:=Nhg.out;have MI:=iE pV.out;have UN:=iE tN.out;have zg_:=iE yu.out;have zh_:=iE BKh.out))
 (try simp only[Act.put,jB,jC,l_c]);refine ab3 BKh ?_;intro w_ BKn hk hs;replace pV:=kx_ pV hk Nah;replace tN:=kx_ tN hk Nwh;replace yu:=kx_ yu hk Ngh;replace HB:=hx_ HB hs GXh;replace DN:=hx_ DN hs aGI;replace DH:=hx_ DH hs aGJ;clear hk hs BKh;have BKh:=BKn;clear BKn;have MI:=iE pV.out;have UN:=iE tN.out;have zg_:=iE yu.out;have zh_:=iE BKh.out;go_upto_region 34 with(go_at_call 10;(with_reducible refine mB (aqr (yc HH DH.out) (yc HWS HB.out) E7.out) ?_);intro w_ hb;replace HB:=bz HB hb;replace DN:=bz DN hb;replace DH:=bz DH hb;replace pV:=kb pV hb;replace tN:=kb tN hb;replace yu:=kb yu hb;replace BKh:=kb BKh hb;clear hb;have MI:=iE pV.out;have UN:=iE tN.out;have zg_:=iE yu.out;have zh_:=iE BKh.out)
 go_wp2_with (go_at_call 14;(with_reducible refine mB (anc HL.out (yc HQ DN.out) E16.out) ?_);intro w_ hb;replace HB:=bz HB hb;replace DN:=bz DN hb;replace DH:=bz DH hb;replace pV:=kb pV hb;replace tN:=kb tN hb;replace yu:=kb yu hb;replace BKh:=kb BKh hb;clear hb;have MI:=iE pV.out;have UN:=iE tN.out;have zg_:=iE yu.out;have zh_:=iE BKh.out)
 go_ret;exact⟨rfl,aI B.out HB.out⟩
end Go.Proofs.YtdimppdlfgnhgaaGreatDoor.PFnExactPartAt
