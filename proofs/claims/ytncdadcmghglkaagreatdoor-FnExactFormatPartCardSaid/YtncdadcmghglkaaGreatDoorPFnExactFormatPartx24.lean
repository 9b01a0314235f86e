/- Printed walks; conditions: those in each statement. -/
import Derived.Test.YtncdadcmghglkaaGreatDoorVFnExactFormatPartQt
import Derived.Test.YtncdadcmghglkaaGreatDoorVFnExactFormatPartYt
import Derived.Test.YtncdadcmghglkaaGreatDoorPFnExactFormatPartx0
import Derived.Test.YtncdadcmghglkaaGreatDoorPFnExactFormatPartx20
namespace Go.Proofs.YtncdadcmghglkaaGreatDoor.PFnExactFormatPart
open Go.RowKit Go.Proofs.YtncdadcmghglkaaGreatDoor.X Go.Proofs.YtncdadcmghglkaaGreatDoorW.dB Go.Proofs.YtncdadcmghglkaaGreatDoorW.iy Go.Proofs.YtncdadcmghglkaaGreatDoorW.jo
attribute [local go_sem] lU lV oh oq kJ kK lW lX   -- for this text's walks alone
set_option linter.unusedVariables false
set_option linter.unusedSimpArgs false
mutual
def kR.f:Nat→List (jl)→List ByteArray→List (pq)→List (jl)→List ByteArray→List (pq)→Option (Bool)
 |0,_,_,_,_,_,_=>none
 |k+1,bM,cZ,aC,yE,zZ,AU=>(eF.f k bM yE).bind fun abV=>(if abV=true then((fD.f k cZ zZ).bind fun EY=>(if EY=true then((if(aC.length:Int)=(AU.length:Int)then(gY.l0 k aC AU 0)else(some false)).bind fun abW=>(if abW=true then(some true)else(some false)))else(some false)))else(some false))
def gY.l0:Nat→List (pq)→List (pq)→Int→Option (Bool)
 |0,_,_,_=>none
 |k+1,x0,x1,x5=>if x5<(x0.length:Int)then(if 0≤x5 then(if x5<(x1.length:Int)then((kR.f k ((bn x0 x5).f0) ((bn x0 x5).f1) ((bn x0 x5).f2) ((bn x1 x5).f0) ((bn x1 x5).f1) ((bn x1 x5).f2)).bind fun acF=>(if acF=true then(gY.l0 k x0 x1 (wrap64 (x5+1)))else(some false)))else(none))else(none))else(some true)
end
def gY.f(k:Nat)(l0:List (pq))(l1:List (pq)):Option (Bool):=if(l0.length:Int)=(l1.length:Int)then(gY.l0 k l0 l1 0)else(some false)
theorem kR.Po(k:Nat)(bM:List (jl))(cZ:List ByteArray)(aC:List (pq))(yE:List (jl))(zZ:List ByteArray)(AU:List (pq)):kR.f (k+1) bM cZ aC yE zZ AU=((eF.f k bM yE).bind fun abV=>(if abV=true then((fD.f k cZ zZ).bind fun EY=>(if EY=true then((gY.f k aC AU).bind fun abW=>(if abW=true then(some true)else(some false)))else(some false)))else(some false))):=by simp only[kR.f,gY.f]
def gY.T6:Bool×List (List Nat×List Nat):=(true,[([],[]),([],[]),([0,1],[0,1]),([2],[2]),([],[]),([],[]),([4,5],[4,5]),([6],[6]),([3,7],[3,7]),([8],[8])])
def gY.B6:List Nat:=[0,0,3,7,0,0,48,112,255,511]
theorem gY.tab6:sZ .any (opsOf Tryz.f76 6)=gY.T6:=by kernel_rfl
theorem gY.ajT:pW gY.T6.2 gY.B6=true:=by kernel_rfl
set_option maxHeartbeats 8000000 in
set_option maxRecDepth 100000 in
theorem kR.pair(k:Nat):(∀(gW:Option Addr) (gX:Nat) (bM:List (jl)) (iM:Option Addr) (iO:Nat) (cZ:List ByteArray) (fF:Option Addr) (dR:Nat) (aC:List (pq)) (Nr:Option Addr) (Ns:Nat) (yE:List (jl)) (Px:Option Addr) (Py:Nat) (zZ:List ByteArray) (QG:Option Addr) (QH:Nat) (AU:List (pq)) (r:Bool) (w:World) (mG:Kd.C pV w gW bM.length bM) (mJ:bM.length≤gX) (mM:Kd.C Kd.string w iM cZ.length cZ) (mO:cZ.length≤iO) (jL:Kd.C k28 w fF aC.length aC) (jM:aC.length≤dR) (aaL:Kd.C pV w Nr yE.length yE) (aaM:yE.length≤Ns) (aaN:Kd.C Kd.string w Px zZ.length zZ) (aaO:zZ.length≤Py) (aaP:Kd.C k28 w QG AU.length AU) (aaQ:AU.length≤QH) (h:kR.f k bM cZ aC yE zZ AU=some r),
  Calls Tryz.prog 32 #[.agg #[.slice gW bM.length gX, .slice iM cZ.length iO, .slice fF aC.length dR], .agg #[.slice Nr yE.length Ns, .slice Px zZ.length Py, .slice QG AU.length QH]] w fun e w'=>e= .returned (.bool r)∧Below w.heap.size w w')∧
  (∀(A0:Option Addr) (c0:Nat) (l0:List (pq)) (A1:Option Addr) (c1:Nat) (l1:List (pq)) (r:Bool) (w:World) (hr0:Kd.C k28 w A0 l0.length l0) (hc0:l0.length≤c0) (hr1:Kd.C k28 w A1 l1.length l1) (hc1:l1.length≤c1) (h:gY.f k l0 l1=some r),
  Calls Tryz.prog 76 #[.slice A0 l0.length c0, .slice A1 l1.length c1] w fun e w'=>e= .returned (.bool r)∧Below w.heap.size w w'):=by
 induction k using Nat.strongRecOn with
 |_ k ih=>
 refine⟨?_,?_⟩
 ·cases k with
  |zero=>intro gW gX bM iM iO cZ fF dR aC Nr Ns yE Px Py zZ QG QH AU r w mG mJ mM mO jL jM aaL aaM aaN aaO aaP aaQ h;exact absurd h (by simp[kR.f])
  |succ k=>
  have ihB:=(ih k (Nat.lt_succ_self k)).2;clear ih;intro gW gX bM iM iO cZ fF dR aC Nr Ns yE Px Py zZ QG QH AU r w mG mJ mM mO jL jM aaL aaM aaN aaO aaP aaQ h;rw[kR.Po]at h;have Na:=Tryz.underlying28;have lY:=ak mG;have lZ:=ak mJ;clear mG mJ;have oQ:=ak mM;have qh:=ak mO;clear mM mO;have jc:=ak jL;have kC:=ak jM;clear jL jM;have aaR:=ak aaL;have aaS:=ak aaM;clear aaL aaM;have aej:=ak aaN;have aek:=ak aaO;clear aaN aaO;have ajW:=ak aaP;have ajX:=ak aaQ;clear aaP aaQ;have HB:=ak (Below.refl w.heap.size w);have H:((eF.f k bM yE).bind fun abV=>(if abV=true then((fD.f k cZ zZ).bind fun EY=>(if EY=true then((gY.f k aC AU).bind fun abW=>(if abW=true then(some true)else(some false)))else(some false)))else(some false)))=some r:=h;clear h;replace H:=bd H;obtain⟨abV,A3,H⟩:=H;replace H:=sb H;rcases H with⟨rfl,H⟩|⟨rfl,H⟩
  ·replace H:=bd H;obtain⟨EY,A5,H⟩:=H;replace H:=sb H;rcases H with⟨rfl,H⟩|⟨rfl,H⟩
   ·replace H:=bd H;obtain⟨abW,A7,H⟩:=H;replace H:=sb H;rcases H with⟨rfl,H⟩|⟨rfl,H⟩
    ·obtain rfl:=Option.some.inj H;go_enter Tryz.func32,Tryz.ntmps32;go_wp2_with (first|(refine bE 2 #[.slice gW bM.length gX, .slice iM cZ.length iO, .slice fF aC.length dR] 28 ?_;intro FB hg w9 hbox hb;have mQ:=ak (hbox);have ael:=jY HB hg;have aem:=jY HB hg;replace HB:=bs HB hb;clear hb hbox hg)|(refine bE 3 #[.slice Nr yE.length Ns, .slice Px zZ.length Py, .slice QG AU.length QH] 28 ?_;intro vW hg w10 hbox hb;have uf:=ak (hbox);have aen:=ak ((by rw[hg];exact(aA bb):w.heap.size≤vW));have aeo:=ak ((by rw[hg];exact(aA bb):w.heap.size≤vW));have wW:=ak ((by rw[hg];exact Nat.ne_of_lt (fC (ub mQ.out)):FB≠vW));have wX:=ak ((by rw[hg];exact Nat.ne_of_gt (fC (ub mQ.out)):vW≠FB));replace mQ:=kb mQ hb;replace HB:=ak (aG bb hb);clear hb hbox hg;have aqe:=wW.out;have aqf:=wX.out;obtain⟨vM,Bh,Bj,vN,Bl,Bo⟩:=jP mQ.out;obtain⟨qH,qJ,Dw,qK,qL,Dx⟩:=jP uf.out)|(refine gL 75 9 Tryz.func75 #[.slice gW bM.length gX, .slice Nr yE.length Ns] ?_;(with_reducible refine(eF.calls k _ _ bM _ _ yE true _ (cu (Kd.aN lY.out HB.out)) lZ.out (cu (Kd.aN aaR.out HB.out)) aaS.out A3.out).mono ?_);rintro e Q9 ⟨rfl,hb⟩;refine⟨_,rfl,?_⟩;replace mQ:=kb mQ hb;replace uf:=kb uf hb;replace HB:=ak (aG bb hb);(try clear hb);obtain⟨lI,lJ,qM,lK,lM,qN⟩:=jP mQ.out;obtain⟨N9,N_,TW,Oa,Ob,TY⟩:=jP uf.out)|(refine gL 35 15 Tryz.func35 #[.slice iM cZ.length iO, .slice Px zZ.length Py] ?_;(with_reducible refine(fD.calls k _ _ cZ _ _ zZ true _ (cu (Kd.aN oQ.out HB.out)) qh.out (cu (Kd.aN aej.out HB.out)) aek.out A5.out).mono ?_);rintro e w' ⟨rfl,⟨nd,rfl⟩⟩;refine⟨_,rfl,?_⟩)|(refine gL 76 21 Tryz.func76 #[.slice fF aC.length dR, .slice QG AU.length QH] ?_;(with_reducible refine(ihB _ _ aC _ _ AU true _ (cu (Kd.aN jc.out bb)) kC.out (cu (Kd.aN ajW.out bb)) ajX.out A7.out).mono ?_);rintro e w17 ⟨rfl,hb⟩;refine⟨_,rfl,?_⟩;replace mQ:=kb mQ hb;replace uf:=kb uf hb;replace HB:=ak (aG bb hb);(try clear hb)))
     go_ret;exact⟨er,bb⟩
    ·obtain rfl:=Option.some.inj H;go_enter Tryz.func32,Tryz.ntmps32;go_wp2_with (first|(refine bE 2 #[.slice gW bM.length gX, .slice iM cZ.length iO, .slice fF aC.length dR] 28 ?_;intro FB hg w18 hbox hb;have mQ:=ak (hbox);have ael:=jY HB hg;have aem:=jY HB hg;replace HB:=bs HB hb;clear hb hbox hg)|(refine bE 3 #[.slice Nr yE.length Ns, .slice Px zZ.length Py, .slice QG AU.length QH] 28 ?_;intro vW hg w19 hbox hb;have uf:=ak (hbox);have aen:=ak ((by rw[hg];exact(aA bb):w.heap.size≤vW));have aeo:=ak ((by rw[hg];exact(aA bb):w.heap.size≤vW));have wW:=ak ((by rw[hg];exact Nat.ne_of_lt (fC (ub mQ.out)):FB≠vW));have wX:=ak ((by rw[hg];exact Nat.ne_of_gt (fC (ub mQ.out)):vW≠FB));replace mQ:=kb mQ hb;replace HB:=ak (aG bb hb);clear hb hbox hg;have aqg:=wW.out;have aqh:=wX.out;obtain⟨AZ,A_,Ba,Bc,Bd,Bf⟩:=jP mQ.out;obtain⟨Jk,Oc,Oe,Jl,Og,Oh⟩:=jP uf.out)|(refine gL 75 9 Tryz.func75 #[.slice gW bM.length gX, .slice Nr yE.length Ns] ?_;(with_reducible refine(eF.calls k _ _ bM _ _ yE true _ (cu (Kd.aN lY.out HB.out)) lZ.out (cu (Kd.aN aaR.out HB.out)) aaS.out A3.out).mono ?_);rintro e w23 ⟨rfl,hb⟩;refine⟨_,rfl,?_⟩;replace mQ:=kb mQ hb;replace uf:=kb uf hb;replace HB:=ak (aG bb hb);(try clear hb);obtain⟨T_,Ua,Ub,Uc,Ud,Ue⟩:=jP mQ.out;obtain⟨Zh,Zi,Zj,Zk,Zl,Zm⟩:=jP uf.out)|(refine gL 35 15 Tryz.func35 #[.slice iM cZ.length iO, .slice Px zZ.length Py] ?_;(with_reducible refine(fD.calls k _ _ cZ _ _ zZ true _ (cu (Kd.aN oQ.out HB.out)) qh.out (cu (Kd.aN aej.out HB.out)) aek.out A5.out).mono ?_);rintro e w' ⟨rfl,⟨nd,rfl⟩⟩;refine⟨_,rfl,?_⟩)|(refine gL 76 21 Tryz.func76 #[.slice fF aC.length dR, .slice QG AU.length QH] ?_;(with_reducible refine(ihB _ _ aC _ _ AU false _ (cu (Kd.aN jc.out bb)) kC.out (cu (Kd.aN ajW.out bb)) ajX.out A7.out).mono ?_);rintro e w26 ⟨rfl,hb⟩;refine⟨_,rfl,?_⟩;replace mQ:=kb mQ hb;replace uf:=kb uf hb;replace HB:=ak (aG bb hb);(try clear hb)))
     go_ret;exact⟨er,bb⟩
   ·obtain rfl:=Option.some.inj H;go_enter Tryz.func32,Tryz.ntmps32;go_wp2_with (first|(refine bE 2 #[.slice gW bM.length gX, .slice iM cZ.length iO, .slice fF aC.length dR] 28 ?_;intro FB hg w27 hbox hb;have mQ:=ak (hbox);have ael:=jY HB hg;have aem:=jY HB hg;replace HB:=bs HB hb;clear hb hbox hg)|(refine bE 3 #[.slice Nr yE.length Ns, .slice Px zZ.length Py, .slice QG AU.length QH] 28 ?_;intro vW hg w28 hbox hb;have uf:=ak (hbox);have aen:=ak ((by rw[hg];exact(aA bb):w.heap.size≤vW));have aeo:=ak ((by rw[hg];exact(aA bb):w.heap.size≤vW));have wW:=ak ((by rw[hg];exact Nat.ne_of_lt (fC (ub mQ.out)):FB≠vW));have wX:=ak ((by rw[hg];exact Nat.ne_of_gt (fC (ub mQ.out)):vW≠FB));replace mQ:=kb mQ hb;replace HB:=ak (aG bb hb);clear hb hbox hg;have axA:=wW.out;have axB:=wX.out;obtain⟨Uf,Ug,Uh,Ui,Uj,Uk⟩:=jP mQ.out;obtain⟨TJ,TK,ZC,TL,TM,ZE⟩:=jP uf.out)|(refine gL 75 9 Tryz.func75 #[.slice gW bM.length gX, .slice Nr yE.length Ns] ?_;(with_reducible refine(eF.calls k _ _ bM _ _ yE true _ (cu (Kd.aN lY.out HB.out)) lZ.out (cu (Kd.aN aaR.out HB.out)) aaS.out A3.out).mono ?_);rintro e w32 ⟨rfl,hb⟩;refine⟨_,rfl,?_⟩;replace mQ:=kb mQ hb;replace uf:=kb uf hb;replace HB:=ak (aG bb hb);(try clear hb);obtain⟨ahU,ahV,ahW,ahX,ahY,ahZ⟩:=jP mQ.out;obtain⟨NP,NQ,Tj,NR,NS,Tm⟩:=jP uf.out)|(refine gL 35 15 Tryz.func35 #[.slice iM cZ.length iO, .slice Px zZ.length Py] ?_;(with_reducible refine(fD.calls k _ _ cZ _ _ zZ false _ (cu (Kd.aN oQ.out HB.out)) qh.out (cu (Kd.aN aej.out HB.out)) aek.out A5.out).mono ?_);rintro e w' ⟨rfl,⟨nd,rfl⟩⟩;refine⟨_,rfl,?_⟩))
    go_ret;exact⟨er,bb⟩
  ·obtain rfl:=Option.some.inj H;go_enter Tryz.func32,Tryz.ntmps32;go_wp2_with (first|(refine bE 2 #[.slice gW bM.length gX, .slice iM cZ.length iO, .slice fF aC.length dR] 28 ?_;intro FB hg w35 hbox hb;have mQ:=ak (hbox);have ael:=jY HB hg;have aem:=jY HB hg;replace HB:=bs HB hb;clear hb hbox hg)|(refine bE 3 #[.slice Nr yE.length Ns, .slice Px zZ.length Py, .slice QG AU.length QH] 28 ?_;intro vW hg w36 hbox hb;have uf:=ak (hbox);have aen:=ak ((by rw[hg];exact(aA bb):w.heap.size≤vW));have aeo:=ak ((by rw[hg];exact(aA bb):w.heap.size≤vW));have wW:=ak ((by rw[hg];exact Nat.ne_of_lt (fC (ub mQ.out)):FB≠vW));have wX:=ak ((by rw[hg];exact Nat.ne_of_gt (fC (ub mQ.out)):vW≠FB));replace mQ:=kb mQ hb;replace HB:=ak (aG bb hb);clear hb hbox hg;have axC:=wW.out;have axD:=wX.out;obtain⟨asT,asU,asV,asW,asX,asY⟩:=jP mQ.out;obtain⟨ahv,ahw,ahx,ahy,ahz,ahA⟩:=jP uf.out)|(refine gL 75 9 Tryz.func75 #[.slice gW bM.length gX, .slice Nr yE.length Ns] ?_;(with_reducible refine(eF.calls k _ _ bM _ _ yE false _ (cu (Kd.aN lY.out HB.out)) lZ.out (cu (Kd.aN aaR.out HB.out)) aaS.out A3.out).mono ?_);rintro e w40 ⟨rfl,hb⟩;refine⟨_,rfl,?_⟩;replace mQ:=kb mQ hb;replace uf:=kb uf hb;replace HB:=ak (aG bb hb);(try clear hb)))
   go_ret;exact⟨er,bb⟩
 ·intro A0 c0 l0 A1 c1 l1 r w hr0 hc0 hr1 hc1 h;have Na:=Tryz.underlying28;have HR0:=ak hr0;have wJ:=ak hc0;clear hr0 hc0;have HR1:=ak hr1;have HC1:=ak hc1;clear hr1 hc1;have HB:=ak (Below.refl w.heap.size w);have H:(if(l0.length:Int)=(l1.length:Int)then(gY.l0 k l0 l1 0)else(some false))=some r:=h;clear h;replace H:=sp H;rcases H with⟨c3,H⟩|⟨c3,H⟩
  ·have fM:=beq_iff_eq.mpr c3;have oZ:=bne_eq_false_iff_eq.mpr c3;have Nl:(l0.length==l1.length)=true:=by first|simpa using c3|(simp at c3⊢;omega)
   clear c3;have H':=ak H;clear H;go_enter Tryz.func76,Tryz.ntmps76;go_wp2;go_loopg [5] k (fun kq v5 w'=>∃(aK:Int),v5= .int .i64 aK∧ah (gY.l0 kq l0 l1 aK=some r)∧ah (kq≤k)∧ah (Below w.heap.size w w'))
   case atStart=>exact⟨(0),rs,H',⟨Nat.le_refl _⟩,⟨ul HB.out⟩⟩
   case round=>
    clear H';try clear c1
    try clear p2
    try clear c3
    try clear fM
    try clear oZ
    try clear Nl
    obtain⟨aK,rfl,HA,iC,HB⟩:=hrel
    cases gk with
    |zero=>exact absurd HA.out (by simp[gY.l0])
    |succ k1=>
     have H:=HA.out;clear HA;simp only[gY.l0]at H;replace H:=sd H;rcases H with⟨nM,H⟩|⟨nM,H⟩
     ·replace H:=og H;obtain⟨pU,H⟩:=H;replace H:=og H;obtain⟨mW,H⟩:=H;replace H:=bd H;obtain⟨acF,A7,H⟩:=H;replace H:=sb H;rcases H with⟨rfl,H⟩|⟨rfl,H⟩
      ·have H':=ak H;clear H;try go_wp2
       replace HB:=ak (eY HB.out);have H7:=zi aK;have H8:=zj aK l0.length;obtain⟨CQ,DX,DY,DZ,D5,D6,D7,Yp,qQ,qR,qU,vX,vY,vZ,wo,wu,wz⟩:=BR HR0.out aK H7 H8;have zf:=qU;have zh:=qR;have zk:=qQ;cases Yp;replace qQ:=cl HB.out qQ;replace qR:=cl HB.out qR;replace qU:=cl HB.out qU;have zl:=ak vY;have D8:=ak vX;clear vY vX;have zo:=ak wo;have D9:=ak vZ;clear wo vZ;have zq:=ak wz;have D_:=ak wu;clear wz wu;replace H7:=eq_true H7;replace H8:=eq_true H8;have Yq:=zi aK;have Yr:=zj aK l1.length;obtain⟨FC,Pz,PD,PE,PG,PI,PK,amC,zu,zx,zy,JH,JI,JJ,JK,JL,JM⟩:=BR HR1.out aK Yq Yr;have zA:=zy;have zB:=zx;have zC:=zu;cases amC;replace zu:=cl HB.out zu;replace zx:=cl HB.out zx;replace zy:=cl HB.out zy;have JO:=ak JI;have Uz:=ak JH;clear JI JH;have JQ:=ak JK;have UA:=ak JJ;clear JK JJ;have JR:=ak JM;have UC:=ak JL;clear JM JL;replace Yq:=eq_true Yq;replace Yr:=eq_true Yr;refine ro [8] [0,1,2,4,5,6,3,7,8,9] (fun w'=>w'.cell? (CQ.add ((aK).toNat*3))=some (.slice DX ((bn l0 aK).f0).length DY)∧w'.cell? ⟨(CQ.add ((aK).toNat*3)).block,(CQ.add ((aK).toNat*3)).off+1,none⟩=some (.slice DZ ((bn l0 aK).f1).length D5)∧w'.cell? ⟨(CQ.add ((aK).toNat*3)).block,(CQ.add ((aK).toNat*3)).off+2,none⟩=some (.slice D6 ((bn l0 aK).f2).length D7)∧w'.cell? (FC.add ((aK).toNat*3))=some (.slice Pz ((bn l1 aK).f0).length PD)∧w'.cell? ⟨(FC.add ((aK).toNat*3)).block,(FC.add ((aK).toNat*3)).off+1,none⟩=some (.slice PE ((bn l1 aK).f1).length PG)∧w'.cell? ⟨(FC.add ((aK).toNat*3)).block,(FC.add ((aK).toNat*3)).off+2,none⟩=some (.slice PI ((bn l1 aK).f2).length PK)) ⟨((HB.out.cell (World.block_lt_of_cell? w _ zk)).trans zk),((HB.out.cell (World.block_lt_of_cell? w _ zh)).trans zh),((HB.out.cell (World.block_lt_of_cell? w _ zf)).trans zf),((HB.out.cell (World.block_lt_of_cell? w _ zC)).trans zC),((HB.out.cell (World.block_lt_of_cell? w _ zB)).trans zB),((HB.out.cell (World.block_lt_of_cell? w _ zA)).trans zA)⟩ ?_
       generalize wr.drew=w9 at HB zl zo zq JO JQ JR qQ qR qU zu zx zy⊢
       repeat(refine lk (v:=?_) (a':=?_) (gk.trans rfl) rfl rfl ?_ ?_ ?_;rotate_left;(focus (rintro w' ⟨s0,s1,s2,s3,s4,s5⟩;go_simp;with_reducible rfl));rotate_left;(focus (simp only[Act.put,jI,jJ,l_c,bC,bH];rfl)))
       refine ld (N:=some 25) (gk.trans rfl) rfl rfl (fun K hK=>?_);refine nD Tryz.func32 (by kernel_rfl) rfl #[.agg #[.slice DX ((bn l0 aK).f0).length DY, .slice DZ ((bn l0 aK).f1).length D5, .slice D6 ((bn l0 aK).f2).length D7], .agg #[.slice Pz ((bn l1 aK).f0).length PD, .slice PE ((bn l1 aK).f1).length PG, .slice PI ((bn l1 aK).f2).length PK]] (by rfl) rfl rfl ma ?_
       with_reducible refine((ih k1 (by have:=iC.out;omega)).1 _ _ ((bn l0 aK).f0) _ _ ((bn l0 aK).f1) _ _ ((bn l0 aK).f2) _ _ ((bn l1 aK).f0) _ _ ((bn l1 aK).f1) _ _ ((bn l1 aK).f2) true _ ?kX ?nG ?xM ?xO ?xP ?xQ ?xR ?aep ?aer ?Yt ?Yu ?Yv A7.out).mono ?_
       (case kX=>repeat(first|exact(Kd.aN zl.out HB.out)|(with_reducible refine Kd.iP ?_ _)|(with_reducible refine Kd.iQ ?_ _)|(with_reducible refine Kd.jK ?_)))
       (case nG=>exact D8.out)
       (case xM=>repeat(first|exact(Kd.aN zo.out HB.out)|(with_reducible refine Kd.iP ?_ _)|(with_reducible refine Kd.iQ ?_ _)|(with_reducible refine Kd.jK ?_)))
       (case xO=>exact D9.out)
       (case xP=>repeat(first|exact(Kd.aN zq.out HB.out)|(with_reducible refine Kd.iP ?_ _)|(with_reducible refine Kd.iQ ?_ _)|(with_reducible refine Kd.jK ?_)))
       (case xQ=>exact D_.out)
       (case xR=>repeat(first|exact(Kd.aN JO.out HB.out)|(with_reducible refine Kd.iP ?_ _)|(with_reducible refine Kd.iQ ?_ _)|(with_reducible refine Kd.jK ?_)))
       (case aep=>exact Uz.out)
       (case aer=>repeat(first|exact(Kd.aN JQ.out HB.out)|(with_reducible refine Kd.iP ?_ _)|(with_reducible refine Kd.iQ ?_ _)|(with_reducible refine Kd.jK ?_)))
       (case Yt=>exact UA.out)
       (case Yu=>repeat(first|exact(Kd.aN JR.out HB.out)|(with_reducible refine Kd.iP ?_ _)|(with_reducible refine Kd.iQ ?_ _)|(with_reducible refine Kd.jK ?_)))
       (case Yv=>exact UC.out);rintro e w10 ⟨rfl,hb⟩;refine⟨_,rfl,?_⟩;replace HB:=bs HB hb
       (try clear hb);refine hK.out _ _ ⟨((HB.out.cell (World.block_lt_of_cell? w _ zk)).trans zk),((HB.out.cell (World.block_lt_of_cell? w _ zh)).trans zh),((HB.out.cell (World.block_lt_of_cell? w _ zf)).trans zf),((HB.out.cell (World.block_lt_of_cell? w _ zC)).trans zC),((HB.out.cell (World.block_lt_of_cell? w _ zB)).trans zB),((HB.out.cell (World.block_lt_of_cell? w _ zA)).trans zA)⟩ ?_;clear hK K;refine no (a':=?_) ?_ ?_
       rotate_left
       ·show Act.put _ (some 25) _=_
        simp only[Act.put,jI,jJ,l_c,bC,bH];rfl
       repeat(refine lk (v:=?_) (a':=?_) (gk.trans rfl) rfl rfl ?_ ?_ ?_;rotate_left;(focus (rintro w' ⟨s0,s1,s2,s3,s4,s5⟩;go_simp;with_reducible rfl));rotate_left;(focus (simp only[Act.put,jI,jJ,l_c,bC,bH];rfl)))
       refine on ?_;try go_wp2
       go_roundg k1
       case measure=>have:=iC.out;omega
       case rel=>exact⟨(wrap64 (aK+1)),rs,H',⟨by have:=iC.out;omega⟩,⟨ul HB.out⟩⟩
      ·obtain rfl:=Option.some.inj H;try go_wp2
       replace HB:=ak (eY HB.out);have H7:=zi aK;have H8:=zj aK l0.length;obtain⟨CQ,DX,DY,DZ,D5,D6,D7,Yp,qQ,qR,qU,vX,vY,vZ,wo,wu,wz⟩:=BR HR0.out aK H7 H8;have zf:=qU;have zh:=qR;have zk:=qQ;cases Yp;replace qQ:=cl HB.out qQ;replace qR:=cl HB.out qR;replace qU:=cl HB.out qU;have zl:=ak vY;have D8:=ak vX;clear vY vX;have zo:=ak wo;have D9:=ak vZ;clear wo vZ;have zq:=ak wz;have D_:=ak wu;clear wz wu;replace H7:=eq_true H7;replace H8:=eq_true H8;have Yq:=zi aK;have Yr:=zj aK l1.length;obtain⟨FC,Pz,PD,PE,PG,PI,PK,amC,zu,zx,zy,JH,JI,JJ,JK,JL,JM⟩:=BR HR1.out aK Yq Yr;have zA:=zy;have zB:=zx;have zC:=zu;cases amC;replace zu:=cl HB.out zu;replace zx:=cl HB.out zx;replace zy:=cl HB.out zy;have JO:=ak JI;have Uz:=ak JH;clear JI JH;have JQ:=ak JK;have UA:=ak JJ;clear JK JJ;have JR:=ak JM;have UC:=ak JL;clear JM JL;replace Yq:=eq_true Yq;replace Yr:=eq_true Yr;refine ro [8] [0,1,2,4,5,6,3,7,8,9] (fun w'=>w'.cell? (CQ.add ((aK).toNat*3))=some (.slice DX ((bn l0 aK).f0).length DY)∧w'.cell? ⟨(CQ.add ((aK).toNat*3)).block,(CQ.add ((aK).toNat*3)).off+1,none⟩=some (.slice DZ ((bn l0 aK).f1).length D5)∧w'.cell? ⟨(CQ.add ((aK).toNat*3)).block,(CQ.add ((aK).toNat*3)).off+2,none⟩=some (.slice D6 ((bn l0 aK).f2).length D7)∧w'.cell? (FC.add ((aK).toNat*3))=some (.slice Pz ((bn l1 aK).f0).length PD)∧w'.cell? ⟨(FC.add ((aK).toNat*3)).block,(FC.add ((aK).toNat*3)).off+1,none⟩=some (.slice PE ((bn l1 aK).f1).length PG)∧w'.cell? ⟨(FC.add ((aK).toNat*3)).block,(FC.add ((aK).toNat*3)).off+2,none⟩=some (.slice PI ((bn l1 aK).f2).length PK)) ⟨((HB.out.cell (World.block_lt_of_cell? w _ zk)).trans zk),((HB.out.cell (World.block_lt_of_cell? w _ zh)).trans zh),((HB.out.cell (World.block_lt_of_cell? w _ zf)).trans zf),((HB.out.cell (World.block_lt_of_cell? w _ zC)).trans zC),((HB.out.cell (World.block_lt_of_cell? w _ zB)).trans zB),((HB.out.cell (World.block_lt_of_cell? w _ zA)).trans zA)⟩ ?_
       generalize wr.drew=Cm at HB zl zo zq JO JQ JR qQ qR qU zu zx zy⊢
       repeat(refine lk (v:=?_) (a':=?_) (gk.trans rfl) rfl rfl ?_ ?_ ?_;rotate_left;(focus (rintro w' ⟨s0,s1,s2,s3,s4,s5⟩;go_simp;with_reducible rfl));rotate_left;(focus (simp only[Act.put,jI,jJ,l_c,bC,bH];rfl)))
       refine ld (N:=some 25) (gk.trans rfl) rfl rfl (fun K hK=>?_);refine nD Tryz.func32 (by kernel_rfl) rfl #[.agg #[.slice DX ((bn l0 aK).f0).length DY, .slice DZ ((bn l0 aK).f1).length D5, .slice D6 ((bn l0 aK).f2).length D7], .agg #[.slice Pz ((bn l1 aK).f0).length PD, .slice PE ((bn l1 aK).f1).length PG, .slice PI ((bn l1 aK).f2).length PK]] (by rfl) rfl rfl ma ?_
       with_reducible refine((ih k1 (by have:=iC.out;omega)).1 _ _ ((bn l0 aK).f0) _ _ ((bn l0 aK).f1) _ _ ((bn l0 aK).f2) _ _ ((bn l1 aK).f0) _ _ ((bn l1 aK).f1) _ _ ((bn l1 aK).f2) false _ ?kX ?nG ?xM ?xO ?xP ?xQ ?xR ?aep ?aer ?Yt ?Yu ?Yv A7.out).mono ?_
       (case kX=>repeat(first|exact(Kd.aN zl.out HB.out)|(with_reducible refine Kd.iP ?_ _)|(with_reducible refine Kd.iQ ?_ _)|(with_reducible refine Kd.jK ?_)))
       (case nG=>exact D8.out)
       (case xM=>repeat(first|exact(Kd.aN zo.out HB.out)|(with_reducible refine Kd.iP ?_ _)|(with_reducible refine Kd.iQ ?_ _)|(with_reducible refine Kd.jK ?_)))
       (case xO=>exact D9.out)
       (case xP=>repeat(first|exact(Kd.aN zq.out HB.out)|(with_reducible refine Kd.iP ?_ _)|(with_reducible refine Kd.iQ ?_ _)|(with_reducible refine Kd.jK ?_)))
       (case xQ=>exact D_.out)
       (case xR=>repeat(first|exact(Kd.aN JO.out HB.out)|(with_reducible refine Kd.iP ?_ _)|(with_reducible refine Kd.iQ ?_ _)|(with_reducible refine Kd.jK ?_)))
       (case aep=>exact Uz.out)
       (case aer=>repeat(first|exact(Kd.aN JQ.out HB.out)|(with_reducible refine Kd.iP ?_ _)|(with_reducible refine Kd.iQ ?_ _)|(with_reducible refine Kd.jK ?_)))
       (case Yt=>exact UA.out)
       (case Yu=>repeat(first|exact(Kd.aN JR.out HB.out)|(with_reducible refine Kd.iP ?_ _)|(with_reducible refine Kd.iQ ?_ _)|(with_reducible refine Kd.jK ?_)))
       (case Yv=>exact UC.out);rintro e w12 ⟨rfl,hb⟩;refine⟨_,rfl,?_⟩;replace HB:=bs HB hb
       (try clear hb);refine hK.out _ _ ⟨((HB.out.cell (World.block_lt_of_cell? w _ zk)).trans zk),((HB.out.cell (World.block_lt_of_cell? w _ zh)).trans zh),((HB.out.cell (World.block_lt_of_cell? w _ zf)).trans zf),((HB.out.cell (World.block_lt_of_cell? w _ zC)).trans zC),((HB.out.cell (World.block_lt_of_cell? w _ zB)).trans zB),((HB.out.cell (World.block_lt_of_cell? w _ zA)).trans zA)⟩ ?_;clear hK K;refine no (a':=?_) ?_ ?_
       rotate_left
       ·show Act.put _ (some 25) _=_
        simp only[Act.put,jI,jJ,l_c,bC,bH];rfl
       repeat(refine lk (v:=?_) (a':=?_) (gk.trans rfl) rfl rfl ?_ ?_ ?_;rotate_left;(focus (rintro w' ⟨s0,s1,s2,s3,s4,s5⟩;go_simp;with_reducible rfl));rotate_left;(focus (simp only[Act.put,jI,jJ,l_c,bC,bH];rfl)))
       refine on ?_;try go_wp2
       go_ret;exact⟨er,ul HB.out⟩
     ·obtain rfl:=Option.some.inj H;go_wp2;go_ret;exact⟨er,ul HB.out⟩
  ·have fM:=beq_eq_false_iff_ne.mpr c3;have oZ:=bne_iff_ne.mpr c3;have Nl:(l0.length==l1.length)=false:=by first|simpa using c3|(simp at c3⊢;omega)
   obtain rfl:=Option.some.inj H;go_enter Tryz.func76,Tryz.ntmps76;go_wp2;go_ret;exact⟨er,ul HB.out⟩
end Go.Proofs.YtncdadcmghglkaaGreatDoor.PFnExactFormatPart
