/- Printed walks; conditions: those in each statement. -/
import Derived.Test.YtncdadcmghglkaaGreatDoorVFnParseBodyQt
import Derived.Test.YtncdadcmghglkaaGreatDoorVFnParseBodyYt
import Derived.Test.YtncdadcmghglkaaGreatDoorPFnParseBodyx0
import Derived.Test.YtncdadcmghglkaaGreatDoorPFnParseBodyx9
import Derived.Test.YtncdadcmghglkaaGreatDoorPFnParseBodyx11
import Derived.Test.YtncdadcmghglkaaGreatDoorPFnParseBodyx12
namespace Go.Proofs.YtncdadcmghglkaaGreatDoor.PFnParseBody
open Go.Proofs.YtncdadcmghglkaaGreatDoorW.dK.Kd Go.Proofs.YtncdadcmghglkaaGreatDoorW.oJ.Kd Go.Proofs.Tryz Go.RowKit Go.Proofs.YtncdadcmghglkaaGreatDoor.X Go.Proofs.YtncdadcmghglkaaGreatDoorW.dK Go.Proofs.YtncdadcmghglkaaGreatDoorW.lZ Go.Proofs.YtncdadcmghglkaaGreatDoorW.oJ
attribute [local go_sem] wB wC yO yP uI uJ wE wF   -- for this text's walks alone
set_option linter.unusedVariables false
set_option maxHeartbeats 8000000
set_option maxRecDepth 100000
set_option linter.unusedSimpArgs false
def jH.l0:Nat→Int→List Int→Int→List (fD)→List ByteArray→Option ((List (fD))×List ByteArray×(List (m_))×Int)
 |0,_,_,_,_,_=>none
 |k+1,x6,x1000,rW,afi,Zj=>if x6>0 then((jA.f k x1000 rW (([(⟨#[97]⟩:ByteArray),(⟨#[]⟩:ByteArray),(⟨#[116,101,120,116,32,111,102,32,97,32,108,105,110,101]⟩:ByteArray),(⟨#[45,45,98,49]⟩:ByteArray),(⟨#[45,45,120]⟩:ByteArray)]:List ByteArray))).bind fun apx=>(if Zj.length<8796093022208 then(jH.l0 k (wrap64 (x6-1)) x1000 apx.2 afi (Zj++[apx.1]))else(none)))else(some (afi,Zj,([]:List (m_)),rW))
def jH.f(k:Nat)(jV:List Int)(pF:Int):Option ((List (fD))×List ByteArray×(List (m_))×Int):=(dJ.f k jV pF 2).bind fun ai7=>(if ai7.1=0 then((jA.f k jV ai7.2 (([(⟨#[104,101,108,108,111]⟩:ByteArray),(⟨#[90,111,195,171]⟩:ByteArray),(⟨#[]⟩:ByteArray)]:List ByteArray))).bind fun apy=>((jv.f k jV apy.2).bind fun apz=>((vU.f k apy.1 apz.1).bind fun ai8=>(some (ai8.1,ai8.2.1,ai8.2.2.1,apz.2)))))else((oz.f k jV ai7.2).bind fun apA=>((mP.f k jV apA.2 (([1,2,0,3]:List Int))).bind fun apB=>(jH.l0 k apB.1 jV apB.2 apA.1 ([]:List ByteArray)))))
def jH.T8:Bool×List (List Nat×List Nat):=(true,[([],[]),([0],[0]),([],[]),([],[]),([2,3],[2,3]),([4],[4]),([1,5,4],[1,5]),([0,1,2,3,4,5,6],[]),([7,6,6,0,1,2,3,4,5,6],[6,7])])
def jH.B8:List Nat:=[0,1,0,0,12,28,63,127,255]
theorem jH.atx:Ap .any (opsOf Tryz.f98 8)=jH.T8:=by kernel_rfl
theorem jH.aiY:Aq jH.T8.2 jH.B8=true:=by kernel_rfl
theorem jH.calls{k g:Nat}{jV:List Int}{pF r4:Int}{r1:List (fD)}{r2:List ByteArray}{r3:List (m_)}{w:World}(w0:World)(hI:bH w0 w g jV pF)(hB:Below w0.heap.size w0 w)(h:jH.f k jV pF=some (r1,r2,r3,r4)):
  Calls Tryz.prog 98 #[.pointer (some ⟨g,0,none⟩)] w fun e w'=>∃pW Gn IZ:Value,e= .returned (.agg #[pW,Gn,IZ])∧Kd.R rP 69 w' w.heap.size (fun _=>True) pW r1∧Kd.R Kd.string 9 w' w.heap.size (fun _=>True) Gn r2∧Kd.R k28 28 w' w.heap.size (fun k_=>some k_≠(pW:Value).ownBlock∧some k_≠(Gn:Value).ownBlock) IZ r3∧bH w0 w' g jV r4∧Below w0.heap.size w0 w'∧bC w w' g none:=by
 have GN:=underlying28;have HI0:=ak hI;have HK:=ak (bC.refl w g none);have HL:=ak hB.size;clear hI;have HW0:=ak hB.size;have HB:=ak hB;clear hB;unfold jH.f at h;have H:=h;clear h;replace H:=bd H;obtain⟨⟨aOZ,aO0⟩,A2,H⟩:=H
 (try dsimp only at H);replace H:=sq H;rcases H with⟨jd,yQ,H⟩|⟨c3,jd,yQ,H⟩
 ·obtain⟨aGo,apC⟩:=nm ([(⟨#[104,101,108,108,111]⟩:ByteArray),(⟨#[90,111,195,171]⟩:ByteArray),(⟨#[]⟩:ByteArray)]:List ByteArray);rw[←apC.out]at H;replace H:=bd H;obtain⟨⟨aGp,aO1⟩,A4,H⟩:=H
  (try dsimp only at H);replace H:=bd H;obtain⟨⟨aGq,aO2⟩,A5,H⟩:=H
  (try dsimp only at H);replace H:=bd H;obtain⟨⟨aGr,aGs,aGt,aO3⟩,A6,H⟩:=H
  (try dsimp only at H);obtain⟨rfl,rfl,rfl,rfl⟩:=s4 H;go_enter func98,ntmps98;go_wp2_with (first|(refine bS HI0 HK HB HW0 2 #[.slice none 0 0, .slice none 0 0, .slice none 0 0] 28 ?_;clear HI0 HK HB;intro Yo w7 pI ayy ayz Zk B_ hg hb HI0 HK HB;clear hb hg)|(refine gL 57 8 func57 #[.pointer (some ⟨g,0,none⟩), .int .i64 2] ?_;(with_reducible refine(dJ.calls w0 ?dN ?nJ A2.out).mono ?_);(case dN=>exact xC);(case nJ=>exact wz);rintro e w8 ⟨rfl,hi,hb,hk⟩;refine⟨_,rfl,?_⟩;replace pI:=kc pI hk B_;replace HK:=kt HK hk;replace HB:=ak (hb);replace HI0:=ak (hi);clear hb;(try clear hk);(try clear hi))|(refine Vt 12 Kd.string 9 [.string (⟨#[104,101,108,108,111]⟩:ByteArray), .string (⟨#[90,111,195,171]⟩:ByteArray), .string (⟨#[]⟩:ByteArray)] apC (dP.one (show Kd.M Kd.string _ _ _ (⟨#[104,101,108,108,111]⟩:ByteArray) [.string (⟨#[104,101,108,108,111]⟩:ByteArray)]from rfl) (dP.one (show Kd.M Kd.string _ _ _ (⟨#[90,111,195,171]⟩:ByteArray) [.string (⟨#[90,111,195,171]⟩:ByteArray)]from rfl) (dP.one (show Kd.M Kd.string _ _ _ (⟨#[]⟩:ByteArray) [.string (⟨#[]⟩:ByteArray)]from rfl) (dP.none _ _)))) ?_;intro aO4 w9 Lm hb;have FH:=ak (aC Lm (kU (w:=w) (g:=g) (row:=none) (kh HK.out)));replace pI:=kb pI hb;replace HK:=ak (bC.trans (kh HK.out) (bC.of_below hb g none) (.inl rfl));replace HB:=ak (lU wz hb);replace HI0:=ak (bH.below xC hb);clear hb Lm;obtain⟨lH,jW,JF⟩:=aI FH.out;subst JF)|(refine gL 58 13 func58 #[.pointer (some ⟨g,0,none⟩), .slice lH aGo.length jW] ?_;(with_reducible refine(jA.calls w0 ?dN ?nJ (cu ((aj FH.out).2.2)) ((aj FH.out).2.1) (wM (bH.own_ne HI0.out FH.out (by decide))) A4.out).mono ?_);(case dN=>exact xC);(case nJ=>exact wz);rintro e w12 ⟨rfl,hi,hb,hk⟩;refine⟨_,rfl,?_⟩;replace pI:=kc pI hk B_;replace FH:=ki FH hk;replace HK:=kt HK hk;replace HB:=ak (hb);replace HI0:=ak (hi);clear hb;(try clear hk);(try clear hi))|(refine gL 143 15 func143 #[.pointer (some ⟨g,0,none⟩)] ?_;(with_reducible refine(jv.calls w0 ?dN ?nJ A5.out).mono ?_);(case dN=>exact xC);(case nJ=>exact wz);rintro e w13 ⟨rfl,hi,hb,hk⟩;refine⟨_,rfl,?_⟩;replace pI:=kc pI hk B_;replace FH:=ki FH hk;replace HK:=kt HK hk;replace HB:=ak (hb);replace HI0:=ak (hi);clear hb;(try clear hk);(try clear hi))|(refine gL 142 16 func142 #[.string aGp, .string aGq] ?_;(with_reducible refine(vU.calls A6.out).mono ?_);rintro e Xv ⟨aO5,aO6,aO7,rfl,ho0,ho1,ho2,hb⟩;refine⟨_,rfl,?_⟩;have ai9:=ak (aC ho0 (kU (w:=w) (g:=g) (row:=none) (kh HK.out)));have ai_:=ak (aC (dA ho1 (jC (ur FH.out))) (kU (w:=w) (g:=g) (row:=none) (kh HK.out)));have aja:=ak (aC (nG (dA ho2 (jC (ur FH.out))) (g:=Yo) (o:= .cells #[.slice none 0 0, .slice none 0 0, .slice none 0 0] 28 (0,0)) (ub pI.out)) (kU (w:=w) (g:=g) (row:=none) (kh HK.out)));replace FH:=ak (dM (ur FH.out) (bZ ho1) hb);replace pI:=kb pI hb;replace HK:=ak (bC.trans (kh HK.out) (bC.of_below hb g none) (.inl rfl));replace HB:=ak (lU wz hb);replace HI0:=ak (bH.below xC hb);clear hb;(try clear ho0);(try clear ho1);(try clear ho2))|(refine bS HI0 HK HB HW0 3 #[.slice none 0 0, .slice none 0 0, .slice none 0 0] 28 ?_;clear HI0 HK HB;intro ayA w15 ayB aKe aKf am3 am4 hg hb HI0 HK HB;have ag2:=Bo pI hg;have ag3:=Bq pI hg;replace FH:=rb FH hb;replace ai9:=rb ai9 hb;replace ai_:=rb ai_ hb;replace aja:=ak (dX (jJ (ur aja.out) ayA (Nat.le_of_eq hg.symm)) hb);replace pI:=kb pI hb;clear hb hg;obtain⟨OD,MR,MS⟩:=aI ai9.out;subst MS;have ayC:=ag3.out;have ayD:=ag2.out;have ajb:=am4.out;have ajc:=am3.out;have z19:=jY ayB.out;obtain⟨jh,iK,JE⟩:=aI ai_.out;subst JE;obtain⟨mg,kT,QS⟩:=aI aja.out;subst QS;have aKg:=B_.out;have aKh:=Zk.out;have z23:=jY pI.out))
  refine bodyPost_ret (results_cell_row rfl _ _ Yo 28 #[.slice OD aGr.length MR, .slice jh aGs.length iK, .slice mg aGt.length kT] (0,0) _ rfl bq underlying28 rfl (by kernel_rfl)) rfl ?_;exact⟨_,_,_,er,rr,rr,rr,xC,wz,kh HK.out⟩
 ·replace H:=bd H;obtain⟨⟨Zl,aGu⟩,A24,H⟩:=H
  (try dsimp only at H);obtain⟨aGv,apD⟩:=nm ([1,2,0,3]:List Int);rw[←apD.out]at H;replace H:=bd H;obtain⟨⟨aO8,aO9⟩,A25,H⟩:=H
  (try dsimp only at H);have H':=ak H;clear H;go_enter func98,ntmps98;go_wp2_with (first|(refine bS HI0 HK HB HW0 2 #[.slice none 0 0, .slice none 0 0, .slice none 0 0] 28 ?_;clear HI0 HK HB;intro Yo w26 pI ayy ayz Zk B_ hg hb HI0 HK HB;clear hb hg)|(refine gL 57 8 func57 #[.pointer (some ⟨g,0,none⟩), .int .i64 2] ?_;(with_reducible refine(dJ.calls w0 ?dN ?nJ A2.out).mono ?_);(case dN=>exact xC);(case nJ=>exact wz);rintro e w27 ⟨rfl,hi,hb,hk⟩;refine⟨_,rfl,?_⟩;replace pI:=kc pI hk B_;replace HK:=kt HK hk;replace HB:=ak (hb);replace HI0:=ak (hi);clear hb;(try clear hk);(try clear hi))|(refine gL 144 21 func144 #[.pointer (some ⟨g,0,none⟩)] ?_;(with_reducible refine(oz.calls w0 ?dN ?nJ A24.out).mono ?_);(case dN=>exact xC);(case nJ=>exact wz);rintro e w28 ⟨aO_,rfl,ho0,hi,hb,hk⟩;refine⟨_,rfl,?_⟩;have SS:=ak (aC ho0 (kU (w:=w) (g:=g) (row:=none) (kh HK.out)));replace pI:=kc pI hk B_;replace HK:=kt HK hk;replace HB:=ak (hb);replace HI0:=ak (hi);clear hb;(try clear hk);(try clear hi);(try clear ho0);obtain⟨XI,XJ,atI⟩:=aI SS.out;subst atI)|(refine bS HI0 HK HB HW0 5 #[.slice none 0 0, .slice none 0 0, .slice none 0 0] 28 ?_;clear HI0 HK HB;intro OM w30 wO aKi aKj afj Us hg hb HI0 HK HB;have Q8:=Bo pI hg;have Q9:=Bq pI hg;replace SS:=rb SS hb;replace pI:=kb pI hb;clear hb hg;have apE:=Q9.out;have apF:=Q8.out;have ayE:=Us.out;have ayF:=afj.out;have z33:=jY wO.out)|(refine Vt 24 (Kd.int .i64) 3 [.int .i64 1, .int .i64 2, .int .i64 0, .int .i64 3] apD (dP.one (show Kd.M (Kd.int .i64) _ _ _ 1 [.int .i64 1]from rfl) (dP.one (show Kd.M (Kd.int .i64) _ _ _ 2 [.int .i64 2]from rfl) (dP.one (show Kd.M (Kd.int .i64) _ _ _ 0 [.int .i64 0]from rfl) (dP.one (show Kd.M (Kd.int .i64) _ _ _ 3 [.int .i64 3]from rfl) (dP.none _ _))))) ?_;intro aPa w34 ayG hb;have Yp:=ak (aC ayG (kU (w:=w) (g:=g) (row:=none) (kh HK.out)));replace SS:=rg SS hb;replace pI:=kp pI #[.slice none 0 0, .slice none 0 0, .slice none 0 0] hb;replace wO:=kp wO #[.slice XI Zl.length XJ, .slice none 0 0, .slice none 0 0] hb;replace HK:=ak (bC.trans (kh HK.out) (bC.of_below hb g none) (.inl rfl));replace HB:=ak (lU wz hb);replace HI0:=ak (bH.below (show bH w0 (((w30.setCell ⟨OM,0,none⟩ (.slice XI Zl.length XJ)).setCell ⟨OM,1,none⟩ (.slice none 0 0)).setCell ⟨OM,2,none⟩ (.slice none 0 0)) g jV aGu from xC) hb);clear hb ayG;obtain⟨ayH,ayI,atJ⟩:=aI Yp.out;subst atJ)|(refine gL 97 25 func97 #[.pointer (some ⟨g,0,none⟩), .slice ayH aGv.length ayI] ?_;(with_reducible refine(mP.calls w0 ?dN ?nJ (cu ((aj Yp.out).2.2)) ((aj Yp.out).2.1) (wM (bH.own_ne HI0.out Yp.out (by decide))) A25.out).mono ?_);(case dN=>exact xC);(case nJ=>exact wz);rintro e w37 ⟨rfl,hi,hb,hk⟩;refine⟨_,rfl,?_⟩;replace pI:=kc pI hk B_;replace SS:=ki SS hk;replace wO:=kc wO hk Us;replace Yp:=ki Yp hk;replace HK:=kt HK hk;replace HB:=ak (hb);replace HI0:=ak (hi);clear hb;(try clear hk);(try clear hi)))
  go_loopg [6] k (fun kq v6 w'=>∃(gZ:Int) (Au:Int) (D8:List ByteArray) (Iq:Value),v6= .int .i64 gZ∧ah (jH.l0 kq gZ jV Au Zl D8=some (r1,r2,r3,r4))∧ah (kq≤k)∧ah (Kd.R rP 69 w' w.heap.size (fun _=>True) (.slice XI Zl.length XJ) Zl)∧ah (Kd.R Kd.string 9 w' w.heap.size (fun _=>True) Iq D8)∧ah (w'.heap[Yo]? =some (.cells #[(.slice none 0 0),(.slice none 0 0),(.slice none 0 0)] 28 (0,0)))∧ah (w'.heap[OM]? =some (.cells #[(.slice XI Zl.length XJ),Iq,(.slice none 0 0)] 28 (0,0)))∧ah (bH w0 w' g jV Au)∧ah (bC w w' g none)∧ah (Below w0.heap.size w0 w'))
  case atStart=>exact⟨_,_,_,_,rs,H',⟨Nat.le_refl _⟩,⟨ur SS.out⟩,⟨nx⟩,⟨ub pI.out⟩,⟨ub wO.out⟩,⟨xC⟩,⟨kh HK.out⟩,⟨wz⟩⟩
  case round=>
   clear H';try clear c3
   try clear jd
   try clear yQ
   obtain⟨gZ,Au,D8,Iq,rfl,HA,yN,xR,qQ,pI,wO,HI0,HK,HB⟩:=hrel
   cases gk with
   |zero=>exact zz HA.out
   |succ k1=>
    obtain⟨H⟩:=HA;simp only[jH.l0]at H;replace H:=sp H;rcases H with⟨c38,H⟩|⟨c38,H⟩
    ·have aa1:decide (0<gZ)=true:=decide_eq_true c38;clear c38;obtain⟨ayJ,ajd⟩:=nm ([(⟨#[97]⟩:ByteArray),(⟨#[]⟩:ByteArray),(⟨#[116,101,120,116,32,111,102,32,97,32,108,105,110,101]⟩:ByteArray),(⟨#[45,45,98,49]⟩:ByteArray),(⟨#[45,45,120]⟩:ByteArray)]:List ByteArray);rw[←ajd.out]at H;replace H:=bd H;obtain⟨⟨atK,aPb⟩,A39,H⟩:=H
     (try dsimp only at H);replace H:=nl H;obtain⟨abe,H⟩:=H;obtain⟨aPc,apG⟩:=nm (D8++[atK]);rw[←apG.out]at H;have H':=ak H;clear H;try go_wp2
     replace xR:=ak (uh xR.out);replace qQ:=ak (uh qQ.out);replace pI:=ak (pG pI.out);replace wO:=ak (pG wO.out);replace HI0:=ak (bH.drew HI0.out);replace HK:=ak (KF HK.out);replace HB:=ak (jG HB.out);refine MP (n:=9) (S:=fun w'=>w'.cell? ⟨OM,0,none⟩=some (.slice XI Zl.length XJ)∧w'.cell? ⟨OM,1,none⟩=some (Iq)∧w'.cell? ⟨OM,2,none⟩=some (.slice none 0 0)) (ds:=[8]) #[false,false,false,false,false,false,false,false,false] (by kernel_rfl) rfl rfl ⟨(bf wO.out 0).trans rfl,(bf wO.out 1).trans rfl,(bf wO.out 2).trans rfl⟩ (fun hHeld=>?_);refine D7 jH.atx jH.aiY (fun Vw HW_=>?_)
     generalize wr.drew=w41 at xR qQ pI wO HI0 HK HB hHeld⊢
     refine pl 0 ?_;refine pl 2 ?_;refine tk 1 ?_;refine o1 3 (fun K hK=>?_);refine MX Kd.string _ 9 ?hg (N:=33) ?hd (xs:=([(⟨#[97]⟩:ByteArray),(⟨#[]⟩:ByteArray),(⟨#[116,101,120,116,32,111,102,32,97,32,108,105,110,101]⟩:ByteArray),(⟨#[45,45,98,49]⟩:ByteArray),(⟨#[45,45,120]⟩:ByteArray)]:List ByteArray)) (inner:=[.string (⟨#[97]⟩:ByteArray), .string (⟨#[]⟩:ByteArray), .string (⟨#[116,101,120,116,32,111,102,32,97,32,108,105,110,101]⟩:ByteArray), .string (⟨#[45,45,98,49]⟩:ByteArray), .string (⟨#[45,45,120]⟩:ByteArray)]) (ok:=fun _=>True) (yt:=fun _=>True) ?hr ?hp (fun _ hk=>hk) trivial (Below.refl _ _) (Nat.le_refl _) (by simp) ?_;(case hd=>rfl);(case hg=>rfl);(case hr=>first|(go_simp;done)|(go_simp;rfl));(case hp=>exact(dP.one (show Kd.M Kd.string _ _ _ (⟨#[97]⟩:ByteArray) [.string (⟨#[97]⟩:ByteArray)]from rfl) (dP.one (show Kd.M Kd.string _ _ _ (⟨#[]⟩:ByteArray) [.string (⟨#[]⟩:ByteArray)]from rfl) (dP.one (show Kd.M Kd.string _ _ _ (⟨#[116,101,120,116,32,111,102,32,97,32,108,105,110,101]⟩:ByteArray) [.string (⟨#[116,101,120,116,32,111,102,32,97,32,108,105,110,101]⟩:ByteArray)]from rfl) (dP.one (show Kd.M Kd.string _ _ _ (⟨#[45,45,98,49]⟩:ByteArray) [.string (⟨#[45,45,98,49]⟩:ByteArray)]from rfl) (dP.one (show Kd.M Kd.string _ _ _ (⟨#[45,45,120]⟩:ByteArray) [.string (⟨#[45,45,120]⟩:ByteArray)]from rfl) (dP.none _ _)))))));intro aPd w42 XK hb EG CO;clear EG CO
     (first|rw[←ajd.out]at XK|(simp only[Int.reduceToNat]at XK;rw[←ajd.out]at XK));have LY:=ak (aC (dA XK (jC (ur qQ.out))) (kU (w:=w) (g:=g) (row:=none) (kh HK.out)));replace xR:=rb xR hb;replace qQ:=ak (dM (ur qQ.out) (bZ XK) hb);replace pI:=kb pI hb;replace wO:=kb wO hb;replace HK:=ak (bC.trans (kh HK.out) (bC.of_below hb g none) (.inl rfl));replace HB:=ak (lU wz hb);replace HI0:=ak (bH.below xC hb);clear hb XK;obtain⟨aje,ajf,ag4⟩:=aI LY.out
     (first|subst ag4|(injection ag4 with Dy Lp Dz;have Lr:=Dy.symm;have Ls:=Dz.symm;clear Dy Lp Dz;subst Lr;subst Ls));refine hK.out _ _ sx (fun hHeld=>?_);clear hK K;refine nrm ?_;refine o1 4 (fun K hK=>?_);refine G5 func58 (by kernel_rfl) rfl #[.pointer (some ⟨g,0,none⟩), .slice aje ayJ.length ajf] (by rfl) rfl rfl ma ?_
     with_reducible refine(jA.calls w0 ?dN ?nJ ?lq ?ayK ?rH A39.out).mono ?_
     (case dN=>exact xC)
     (case nJ=>exact wz)
     (case lq=>repeat(first|exact(aj LY.out).2.2|(with_reducible refine Kd.nR ?_ _)|(with_reducible refine Kd.nS ?_ _)|(with_reducible refine Kd.qJ ?_)))
     (case ayK=>exact(aj LY.out).2.1)
     (case rH=>exact wM (bH.own_ne HI0.out LY.out (by decide)));rintro e w45 ⟨rfl,hi,hb,hk⟩;refine⟨_,rfl,?_⟩;replace xR:=ki xR hk;replace qQ:=ki qQ hk;replace pI:=kc pI hk B_;replace wO:=kc wO hk Us;replace LY:=ki LY hk;replace HK:=kt HK hk;replace HB:=ak (hb);replace HI0:=ak (hi);try clear hb
     try clear hk
     try clear hi
     refine hK.out _ _ sx (fun hHeld=>?_);clear hK K;refine nrm ?_;refine o1 5 (fun K hK=>?_);refine Q_ (w1:=?_) (v:=?_) (by rfl) rfl ?_ ?_
     rotate_left 2
     ·go_simp;constructor
      ·rfl
      ·rfl
     refine hK.out _ _ ⟨(bf (sO wO.out _) 0).trans rfl,(bf (sO wO.out _) 1).trans rfl,(bf (sO wO.out _) 2).trans rfl⟩ (fun hHeld=>?_);clear hK K;refine nrm ?_;refine o1 6 (fun K hK=>?_);refine xU Kd.string w.heap.size (by rfl) (.tmp 31) (.tmp 35) 23 9 (.string ⟨#[]⟩) 16 rfl underlying23 info9 rfl (by decide) (by omega) Iq D8 atK [.string atK] (fun k_=>some k_≠(.slice aje ayJ.length ajf:Value).ownBlock) (fun _=>False) rfl rfl ?aP (fun _ hk=>hk.elim) ?aF ?aO (Below.refl _ _) ?aS ?aL ?_
     (case aP=>exact rfl)
     (case aF=>exact(fun k_ hk=>Kd.fresh' (jC (ur LY.out)) k_ hk))
     (case aO=>exact(ur (ay qQ.out (fun _ hk=>hk.2))))
     (case aS=>exact(kU (w:=w) (g:=g) (row:=none) (kh HK.out)))
     (case aL=>have:=abe.out;omega);intro aPe w46 ho hb hg hat
     rw[←apG.out]at ho;have Eo:=ak (xZ (ur xR.out) (pX (ur qQ.out)) (by decide) hg);have Ep:=ak (fB (g:=Yo) (o:= .cells #[.slice none 0 0, .slice none 0 0, .slice none 0 0] 28 (0,0)) (ub pI.out) hg (vS qQ.out pI.out (by decide)));have G6:=ak (fB (g:=OM) (o:= .cells #[.slice XI Zl.length XJ,Iq, .slice none 0 0] 28 (0,0)) (ub wO.out) hg (vS qQ.out wO.out (by decide)));have LU:=ak (bH.grown xC hg (bH.own_ne HI0.out qQ.out (by decide)));have Vx:=ak (Ih (ok:=(fun _=>True)) (ur LY.out) hg hat);have Ye:=ak (Ip wz HL.out hb);have n6_:=ak (bC.trans (kh HK.out) (bC.JH hg g) (Zi qQ.out));have n7_:=ak (ho);clear xR pI wO HI0 LY HB HK qQ;have xR:=Eo;have pI:=Ep;have wO:=G6;have HI0:=LU;have LY:=Vx;have HB:=Ye;have HK:=n6_;have ayL:=n7_;clear Eo Ep G6 LU Vx Ye n6_ n7_ ho hb hg hat
     obtain⟨Jr,Js,ag5⟩:=aI ayL.out
     (first|subst ag5|(injection ag5 with Dy Lp Dz;have Lr:=Dy.symm;have Ls:=Dz.symm;clear Dy Lp Dz;subst Lr;subst Ls));refine hK.out _ _ sx (fun hHeld=>?_);clear hK K;refine nrm ?_;refine pl 7 ?_;refine Yq (i:=8) (N:=none) #[true,true,true,true,true,true,true,true,true] rfl rfl (MZ Vw.out (by kernel_rfl)) (by decide) (fun K hK=>?_);have aPf:w46.cell? ⟨OM,1,none⟩=some (Iq):=(bf wO.out 1).trans rfl;have aKk:=gq wO.out 1;have aEV:=Q8.out;have aEW:=Q9.out;refine LV (w1:=?_) (by rfl) rfl ?_ ?_
     rotate_left
     ·go_simp;rfl
     refine hK.out _ _ ?_;clear hK K;refine Vy (KE Vw.out (by kernel_rfl)) ?_;try go_wp2
     go_roundg k1
     case measure=>exact kl
     case rel=>exact⟨_,_,_,_,rs,H',⟨kl⟩,⟨rr⟩,⟨rr⟩,⟨bq⟩,⟨bq⟩,⟨xC⟩,⟨kh HK.out⟩,⟨wz⟩⟩
    ·have aa1:decide (0<gZ)=false:=decide_eq_false c38;clear c38;obtain⟨rfl,rfl,rfl,rfl⟩:=s4 H;have ayM:=Q9.out;have ayN:=Q8.out;have ayO:=Us.out;have ayP:=afj.out;have z51:=jY wO.out;have ayQ:=B_.out;have ayR:=Zk.out;have z53:=jY pI.out;obtain⟨aGw,aGx,aGy⟩:=aI qQ.out;subst aGy;go_wp2;refine bodyPost_ret (results_cell_row rfl _ _ Yo 28 #[.slice XI Zl.length XJ, .slice aGw D8.length aGx, .slice none 0 0] (0,0) _ rfl bq underlying28 rfl (by kernel_rfl)) rfl ?_;exact⟨_,_,_,er,rr,rr,nx,xC,wz,kh HK.out⟩
mutual
def fC.j0:Nat→Int→Bool→List Int→Int→Option ((List (fD))×List ByteArray×(List (m_))×Int)
 |0,_,_,_,_=>none
 |k+1,x1,Fe,x1000,rW=>if Fe=true then((jH.f k x1000 rW).bind fun afk=>(some (afk.1,afk.2.1,afk.2.2.1,afk.2.2.2)))else((jA.f k x1000 rW (([(⟨#[109,117,108,116,105,112,97,114,116,47,109,105,120,101,100,59,32,98,111,117,110,100,97,114,121,61,98,48]⟩:ByteArray),(⟨#[77,117,108,116,105,112,97,114,116,47,97,108,116,101,114,110,97,116,105,118,101,59,32,66,111,117,110,100,97,114,121,61,98,50]⟩:ByteArray),(⟨#[109,117,108,116,105,112,97,114,116,47,109,105,120,101,100,59,32,98,111,117,110,100,97,114,121,61,120,121,122]⟩:ByteArray)]:List ByteArray))).bind fun apH=>((mP.f k x1000 apH.2 (([2,1,3]:List Int))).bind fun apI=>(fC.l0 k x1 apI.1 x1000 apI.2 (([(⟨(⟨#[83,117,98,106,101,99,116]⟩:ByteArray),(⟨#[109,97,110,121]⟩:ByteArray)⟩:fD),(⟨(⟨#[67,111,110,116,101,110,116,45,84,121,112,101]⟩:ByteArray),apH.1⟩:fD)]:List (fD))) ([]:List (m_)))))
def fC.l0:Nat→Int→Int→List Int→Int→List (fD)→List (m_)→Option ((List (fD))×List ByteArray×(List (m_))×Int)
 |0,_,_,_,_,_,_=>none
 |k+1,x1,x6,x1000,rW,afl,Zm=>if x6>0 then((fC.f k x1000 rW (wrap64 (x1-1))).bind fun afm=>(if Zm.length<1954687338268 then(fC.l0 k x1 (wrap64 (x6-1)) x1000 afm.2.2.2 afl (Zm++[(⟨afm.1,afm.2.1,afm.2.2.1⟩:m_)]))else(none)))else(some (afl,([]:List ByteArray),Zm,rW))
def fC.f:Nat→List Int→Int→Int→Option ((List (fD))×List ByteArray×(List (m_))×Int)
 |0,_,_,_=>none
 |k+1,jV,pF,a1=>if a1<2 then(fC.j0 k a1 true jV pF)else((dJ.f k jV pF 2).bind fun apJ=>(fC.j0 k a1 (apJ.1==0) jV apJ.2))
end
def fC.T7:Bool×List (List Nat×List Nat):=(true,[([],[]),([0],[0]),([],[]),([],[]),([3],[3]),([2,4],[2,4]),([5],[5]),([1,6,5],[1,6]),([0,1,2,3,4,5,6,7],[]),([8,7,7,0,1,2,3,4,5,6,7],[7,8])])
def fC.B7:List Nat:=[0,1,0,0,8,28,60,127,255,511]
theorem fC.ayS:Ap .any (opsOf Tryz.f56 7)=fC.T7:=by kernel_rfl
theorem fC.apK:Aq fC.T7.2 fC.B7=true:=by kernel_rfl
theorem fC.calls(k:Nat):∀(g:Nat) (jV:List Int) (pF:Int) (a1:Int) (r1:List (fD)) (r2:List ByteArray) (r3:List (m_)) (r4:Int) (w0 w:World) (hI:bH w0 w g jV pF) (hB:Below w0.heap.size w0 w) (h:fC.f k jV pF a1=some (r1,r2,r3,r4)),
  Calls Tryz.prog 56 #[.pointer (some ⟨g,0,none⟩), .int .i64 a1] w fun e w'=>∃pW Gn IZ:Value,e= .returned (.agg #[pW,Gn,IZ])∧Kd.R rP 69 w' w.heap.size (fun _=>True) pW r1∧Kd.R Kd.string 9 w' w.heap.size (fun _=>True) Gn r2∧Kd.R k28 28 w' w.heap.size (fun k_=>some k_≠(pW:Value).ownBlock∧some k_≠(Gn:Value).ownBlock) IZ r3∧bH w0 w' g jV r4∧Below w0.heap.size w0 w'∧bC w w' g none:=by
 induction k using Nat.strongRecOn with
 |_ k ih=>
 intro g jV pF a1 r1 r2 r3 r4 w0 w hI hB h
 cases k with
 |zero=>exact absurd h (by simp[fC.f])
 |succ k=>
 simp only[fC.f]at h;have GN:=underlying28;have Fg:=underlying69;have HI0:=ak hI;have HK:=ak (bC.refl w g none);have HL:=ak hB.size;clear hI;have HW0:=ak hB.size;have HB:=ak hB;clear hB;have H:=h;clear h;have QX:=ak H;clear H;go_enter func56,ntmps56;go_upto_region 1 with(refine bS HI0 HK HB HW0 4 #[.slice none 0 0, .slice none 0 0, .slice none 0 0] 28 ?_;clear HI0 HK HB;intro EI w4 qR aKl aKm afn Ir hg hb HI0 HK HB;clear hb hg)
 (try simp only[Act.put,C_,Dc,l_c]);go_cut [13] (fun v13 wc=>∃(kq:Nat) (ajg:Bool) (DX:Int),v13= .bool ajg∧ah (fC.j0 kq a1 ajg jV DX=some (r1,r2,r3,r4))∧ah (kq≤k)∧ah (wc.heap[EI]? =some (.cells #[(.slice none 0 0),(.slice none 0 0),(.slice none 0 0)] 28 (0,0)))∧ah (bH w0 wc g jV DX)∧ah (bC w wc g none)∧ah (Below w0.heap.size w0 wc))
 case first=>
  have H:=QX.out;clear QX;replace H:=sd H;rcases H with⟨nO,H⟩|⟨nO,H⟩
  ·(first|rw[nO]|(simp only[gU,jP];rw[nO])|skip);have H':=ak H;clear H;go_wp2;go_meet
   case rel=>exact⟨_,_,_,rs,H',⟨JB⟩,⟨ub qR.out⟩,⟨xC⟩,⟨kh HK.out⟩,⟨wz⟩⟩
  ·(first|rw[nO]|(simp only[gU,jP];rw[nO])|skip);replace H:=bd H;obtain⟨⟨aPg,aPh⟩,A6,H⟩:=H
   (try dsimp only at H);have H':=ak H;clear H;go_wp2_with (go_at_call 57;(with_reducible refine(dJ.calls w0 ?dN ?nJ A6.out).mono ?_);(case dN=>exact xC);(case nJ=>exact wz);rintro e w7 ⟨rfl,hi,hb,hk⟩;replace qR:=kc qR hk Ir;replace HK:=kt HK hk;replace HB:=ak (hb);replace HI0:=ak (hi);clear hb;(try clear hk);(try clear hi))
   go_meet
   case rel=>exact⟨_,_,_,rs,H',⟨JB⟩,⟨ub qR.out⟩,⟨xC⟩,⟨kh HK.out⟩,⟨wz⟩⟩
 case rest=>
  clear QX;obtain⟨kq,ajg,DX,rfl,HA,HJ2,qR,HI0,HK,HB⟩:=hcut
  cases kq with
  |zero=>exact zz HA.out
  |succ kj2=>
   obtain⟨H⟩:=HA;simp only[fC.j0]at H;replace H:=sb H;rcases H with⟨rfl,H⟩|⟨rfl,H⟩
   ·replace H:=bd H;obtain⟨⟨aGz,aGA,aGB,aPi⟩,A9,H⟩:=H
    (try dsimp only at H);obtain⟨rfl,rfl,rfl,rfl⟩:=s4 H;go_wp2_with (refine gL 98 15 func98 #[.pointer (some ⟨g,0,none⟩)] ?_;(with_reducible refine(jH.calls w0 ?dN ?nJ A9.out).mono ?_);(case dN=>exact xC);(case nJ=>exact wz);rintro e w10 ⟨aPj,aPk,aPl,rfl,ho0,ho1,ho2,hi,hb,hk⟩;refine⟨_,rfl,?_⟩;have ayT:=ak (aC ho0 (kU (w:=w) (g:=g) (row:=none) (kh HK.out)));have ayU:=ak (aC ho1 (kU (w:=w) (g:=g) (row:=none) (kh HK.out)));have ayV:=ak (aC (nG ho2 (g:=EI) (o:= .cells #[.slice none 0 0, .slice none 0 0, .slice none 0 0] 28 (0,0)) (ub qR.out)) (kU (w:=w) (g:=g) (row:=none) (kh HK.out)));replace qR:=kc qR hk Ir;replace HK:=kt HK hk;replace HB:=ak (hb);replace HI0:=ak (hi);clear hb;(try clear hk);(try clear hi);(try clear ho0);(try clear ho1);(try clear ho2);obtain⟨lH,jW,JF⟩:=aI ayT.out;subst JF;have aKn:=Ir.out;have aKo:=afn.out;have z13:=jY qR.out;obtain⟨tZ,qC,MO⟩:=aI ayU.out;subst MO;obtain⟨agU,acL,XA⟩:=aI ayV.out;subst XA)
    refine bodyPost_ret (results_cell_row rfl _ _ EI 28 #[.slice lH aGz.length jW, .slice tZ aGA.length qC, .slice agU aGB.length acL] (0,0) _ rfl bq underlying28 rfl (by kernel_rfl)) rfl ?_;exact⟨_,_,_,er,rr,rr,rr,xC,wz,kh HK.out⟩
   ·obtain⟨aGC,apL⟩:=nm ([(⟨#[109,117,108,116,105,112,97,114,116,47,109,105,120,101,100,59,32,98,111,117,110,100,97,114,121,61,98,48]⟩:ByteArray),(⟨#[77,117,108,116,105,112,97,114,116,47,97,108,116,101,114,110,97,116,105,118,101,59,32,66,111,117,110,100,97,114,121,61,98,50]⟩:ByteArray),(⟨#[109,117,108,116,105,112,97,114,116,47,109,105,120,101,100,59,32,98,111,117,110,100,97,114,121,61,120,121,122]⟩:ByteArray)]:List ByteArray);rw[←apL.out]at H;replace H:=bd H;obtain⟨⟨ajh,aGD⟩,A16,H⟩:=H
    (try dsimp only at H);obtain⟨M_,apM⟩:=nm ([(⟨(⟨#[83,117,98,106,101,99,116]⟩:ByteArray),(⟨#[109,97,110,121]⟩:ByteArray)⟩:fD),(⟨(⟨#[67,111,110,116,101,110,116,45,84,121,112,101]⟩:ByteArray),ajh⟩:fD)]:List (fD));rw[←apM.out]at H;obtain⟨aGE,apN⟩:=nm ([2,1,3]:List Int);rw[←apN.out]at H;replace H:=bd H;obtain⟨⟨aPm,aPn⟩,A17,H⟩:=H
    (try dsimp only at H);have H':=ak H;clear H;go_wp2_with (first|(refine Vt 18 Kd.string 9 [.string (⟨#[109,117,108,116,105,112,97,114,116,47,109,105,120,101,100,59,32,98,111,117,110,100,97,114,121,61,98,48]⟩:ByteArray), .string (⟨#[77,117,108,116,105,112,97,114,116,47,97,108,116,101,114,110,97,116,105,118,101,59,32,66,111,117,110,100,97,114,121,61,98,50]⟩:ByteArray), .string (⟨#[109,117,108,116,105,112,97,114,116,47,109,105,120,101,100,59,32,98,111,117,110,100,97,114,121,61,120,121,122]⟩:ByteArray)] apL (dP.one (show Kd.M Kd.string _ _ _ (⟨#[109,117,108,116,105,112,97,114,116,47,109,105,120,101,100,59,32,98,111,117,110,100,97,114,121,61,98,48]⟩:ByteArray) [.string (⟨#[109,117,108,116,105,112,97,114,116,47,109,105,120,101,100,59,32,98,111,117,110,100,97,114,121,61,98,48]⟩:ByteArray)]from rfl) (dP.one (show Kd.M Kd.string _ _ _ (⟨#[77,117,108,116,105,112,97,114,116,47,97,108,116,101,114,110,97,116,105,118,101,59,32,66,111,117,110,100,97,114,121,61,98,50]⟩:ByteArray) [.string (⟨#[77,117,108,116,105,112,97,114,116,47,97,108,116,101,114,110,97,116,105,118,101,59,32,66,111,117,110,100,97,114,121,61,98,50]⟩:ByteArray)]from rfl) (dP.one (show Kd.M Kd.string _ _ _ (⟨#[109,117,108,116,105,112,97,114,116,47,109,105,120,101,100,59,32,98,111,117,110,100,97,114,121,61,120,121,122]⟩:ByteArray) [.string (⟨#[109,117,108,116,105,112,97,114,116,47,109,105,120,101,100,59,32,98,111,117,110,100,97,114,121,61,120,121,122]⟩:ByteArray)]from rfl) (dP.none _ _)))) ?_;intro aPo w18 ayW hb;have FI:=ak (aC ayW (kU (w:=w) (g:=g) (row:=none) (kh HK.out)));replace qR:=kb qR hb;replace HK:=ak (bC.trans (kh HK.out) (bC.of_below hb g none) (.inl rfl));replace HB:=ak (lU wz hb);replace HI0:=ak (bH.below xC hb);clear hb ayW;obtain⟨jh,iK,JE⟩:=aI FI.out;subst JE)|(refine gL 58 19 func58 #[.pointer (some ⟨g,0,none⟩), .slice jh aGC.length iK] ?_;(with_reducible refine(jA.calls w0 ?dN ?nJ (cu ((aj FI.out).2.2)) ((aj FI.out).2.1) (wM (bH.own_ne HI0.out FI.out (by decide))) A16.out).mono ?_);(case dN=>exact xC);(case nJ=>exact wz);rintro e w21 ⟨rfl,hi,hb,hk⟩;refine⟨_,rfl,?_⟩;replace qR:=kc qR hk Ir;replace FI:=ki FI hk;replace HK:=kt HK hk;replace HB:=ak (hb);replace HI0:=ak (hi);clear hb;(try clear hk);(try clear hi))|(refine Vt 21 rP 69 [.string (⟨#[83,117,98,106,101,99,116]⟩:ByteArray), .string (⟨#[109,97,110,121]⟩:ByteArray), .string (⟨#[67,111,110,116,101,110,116,45,84,121,112,101]⟩:ByteArray), .string ajh] apM (dP.c2 (show Kd.M rP _ _ _ (⟨(⟨#[83,117,98,106,101,99,116]⟩:ByteArray),(⟨#[109,97,110,121]⟩:ByteArray)⟩:fD) [.string (⟨#[83,117,98,106,101,99,116]⟩:ByteArray), .string (⟨#[109,97,110,121]⟩:ByteArray)]from(wX _ _ _ (⟨(⟨#[83,117,98,106,101,99,116]⟩:ByteArray),(⟨#[109,97,110,121]⟩:ByteArray)⟩:fD))) (dP.c2 (show Kd.M rP _ _ _ (⟨(⟨#[67,111,110,116,101,110,116,45,84,121,112,101]⟩:ByteArray),ajh⟩:fD) [.string (⟨#[67,111,110,116,101,110,116,45,84,121,112,101]⟩:ByteArray), .string ajh]from(wX _ _ _ (⟨(⟨#[67,111,110,116,101,110,116,45,84,121,112,101]⟩:ByteArray),ajh⟩:fD))) (dP.none _ _))) ?_;intro aPp w22 aji hb;have SV:=ak (aC aji (kU (w:=w) (g:=g) (row:=none) (kh HK.out)));replace FI:=rb FI hb;replace qR:=kb qR hb;replace HK:=ak (bC.trans (kh HK.out) (bC.of_below hb g none) (.inl rfl));replace HB:=ak (lU wz hb);replace HI0:=ak (bH.below xC hb);clear hb aji;obtain⟨EJ,Di,ac9⟩:=aI SV.out;subst ac9)|(refine bS HI0 HK HB HW0 5 #[.slice none 0 0, .slice none 0 0, .slice none 0 0] 28 ?_;clear HI0 HK HB;intro FM w25 wo aKp aKq afo Ut hg hb HI0 HK HB;have Rf:=Bo qR hg;have Rh:=Bq qR hg;replace FI:=rb FI hb;replace SV:=rb SV hb;replace qR:=kb qR hb;clear hb hg;have aKr:=Rh.out;have aKs:=Rf.out;have apO:=Ut.out;have apP:=afo.out;have am5:=jY wo.out)|(refine Vt 24 (Kd.int .i64) 3 [.int .i64 2, .int .i64 1, .int .i64 3] apN (dP.one (show Kd.M (Kd.int .i64) _ _ _ 2 [.int .i64 2]from rfl) (dP.one (show Kd.M (Kd.int .i64) _ _ _ 1 [.int .i64 1]from rfl) (dP.one (show Kd.M (Kd.int .i64) _ _ _ 3 [.int .i64 3]from rfl) (dP.none _ _)))) ?_;intro aPq w29 aa8 hb;have Yr:=ak (aC aa8 (kU (w:=w) (g:=g) (row:=none) (kh HK.out)));replace FI:=rg FI hb;replace SV:=rg SV hb;replace qR:=kp qR #[.slice none 0 0, .slice none 0 0, .slice none 0 0] hb;replace wo:=kp wo #[.slice EJ M_.length Di, .slice none 0 0, .slice none 0 0] hb;replace HK:=ak (bC.trans (kh HK.out) (bC.of_below hb g none) (.inl rfl));replace HB:=ak (lU wz hb);replace HI0:=ak (bH.below (show bH w0 (((w25.setCell ⟨FM,0,none⟩ (.slice EJ M_.length Di)).setCell ⟨FM,1,none⟩ (.slice none 0 0)).setCell ⟨FM,2,none⟩ (.slice none 0 0)) g jV aGD from xC) hb);clear hb aa8;obtain⟨atD,atE,amZ⟩:=aI Yr.out;subst amZ)|(refine gL 97 25 func97 #[.pointer (some ⟨g,0,none⟩), .slice atD aGE.length atE] ?_;(with_reducible refine(mP.calls w0 ?dN ?nJ (cu ((aj Yr.out).2.2)) ((aj Yr.out).2.1) (wM (bH.own_ne HI0.out Yr.out (by decide))) A17.out).mono ?_);(case dN=>exact xC);(case nJ=>exact wz);rintro e w32 ⟨rfl,hi,hb,hk⟩;refine⟨_,rfl,?_⟩;replace qR:=kc qR hk Ir;replace FI:=ki FI hk;replace SV:=ki SV hk;replace wo:=kc wo hk Ut;replace Yr:=ki Yr hk;replace HK:=kt HK hk;replace HB:=ak (hb);replace HI0:=ak (hi);clear hb;(try clear hk);(try clear hi)))
    go_loopg [6] kj2 (fun kq v6 w'=>∃(wH:Int) (DX:Int) (BL:List (m_)) (Cb:Value),v6= .int .i64 wH∧ah (fC.l0 kq a1 wH jV DX M_ BL=some (r1,r2,r3,r4))∧ah (kq≤kj2)∧ah (Kd.R rP 69 w' w.heap.size (fun _=>True) (.slice EJ M_.length Di) M_)∧ah (Kd.R k28 28 w' w.heap.size (fun k_=>some k_≠((.slice EJ M_.length Di):Value).ownBlock∧k_≠EI∧k_≠FM) Cb BL)∧ah (w'.heap[EI]? =some (.cells #[(.slice none 0 0),(.slice none 0 0),(.slice none 0 0)] 28 (0,0)))∧ah (w'.heap[FM]? =some (.cells #[(.slice EJ M_.length Di),(.slice none 0 0),Cb] 28 (0,0)))∧ah (bH w0 w' g jV DX)∧ah (bC w w' g none)∧ah (Below w0.heap.size w0 w'))
    case atStart=>exact⟨_,_,_,_,rs,H',⟨Nat.le_refl _⟩,⟨ur SV.out⟩,⟨nx⟩,⟨ub qR.out⟩,⟨ub wo.out⟩,⟨xC⟩,⟨kh HK.out⟩,⟨wz⟩⟩
    case round=>
     clear H';try clear c2
     obtain⟨wH,DX,BL,Cb,rfl,HA,HK2,vG,qo,qR,wo,HI0,HK,HB⟩:=hrel
     cases gk with
     |zero=>exact zz HA.out
     |succ k2=>
      obtain⟨H⟩:=HA;simp only[fC.l0]at H;replace H:=sp H;rcases H with⟨c33,H⟩|⟨c33,H⟩
      ·have Yh:decide (0<wH)=true:=decide_eq_true c33;clear c33;replace H:=bd H;obtain⟨⟨ajj,ajk,ajl,aGF⟩,A34,H⟩:=H
       (try dsimp only at H);replace H:=nl H;obtain⟨ajm,H⟩:=H;obtain⟨aPr,apQ⟩:=nm (BL++[(⟨ajj,ajk,ajl⟩:m_)]);rw[←apQ.out]at H;have H':=ak H;clear H;try go_wp2
       replace vG:=ak (uh vG.out);replace qo:=ak (uh qo.out);replace qR:=ak (pG qR.out);replace wo:=ak (pG wo.out);replace HI0:=ak (bH.drew HI0.out);replace HK:=ak (KF HK.out);replace HB:=ak (jG HB.out);refine MP (n:=10) (S:=fun w'=>w'.cell? ⟨FM,0,none⟩=some (.slice EJ M_.length Di)∧w'.cell? ⟨FM,1,none⟩=some (.slice none 0 0)∧w'.cell? ⟨FM,2,none⟩=some (Cb)) (ds:=[9]) #[false,false,false,false,false,false,false,false,false,false] (by kernel_rfl) rfl rfl ⟨(bf wo.out 0).trans rfl,(bf wo.out 1).trans rfl,(bf wo.out 2).trans rfl⟩ (fun hHeld=>?_);refine D7 fC.ayS fC.apK (fun Vw HW_=>?_)
       generalize wr.drew=w36 at vG qo qR wo HI0 HK HB hHeld⊢
       refine pl 0 ?_;refine pl 2 ?_;refine pl 3 ?_;refine pl 4 ?_;refine tk 1 ?_;refine o1 5 (fun K hK=>?_);refine G5 func56 (by kernel_rfl) rfl #[.pointer (some ⟨g,0,none⟩), .int .i64 (wrap64 (a1-1))] (by rfl) rfl rfl ma ?_
       with_reducible refine(ih k2 (by have:=HJ2.out;have:=HK2.out;omega) g jV DX (wrap64 (a1-1)) ajj ajk ajl aGF w0 _ ?dN ?nJ A34.out).mono ?_
       (case dN=>exact xC)
       (case nJ=>exact wz);rintro e w37 ⟨aPs,aPt,aPu,rfl,ho0,ho1,ho2,hi,hb,hk⟩;refine⟨_,rfl,?_⟩;have ajn:=ak (aC (dA ho0 (jC (ur vG.out))) (kU (w:=w) (g:=g) (row:=none) (kh HK.out)));have ajo:=ak (aC ho1 (kU (w:=w) (g:=g) (row:=none) (kh HK.out)));have ajp:=ak (aC (nG (nG (dA (dA ho2 (jC (ur vG.out))) (jC (ur qo.out))) (g:=EI) (o:= .cells #[.slice none 0 0, .slice none 0 0, .slice none 0 0] 28 (0,0)) (ub qR.out)) (g:=FM) (o:= .cells #[.slice EJ M_.length Di, .slice none 0 0,Cb] 28 (0,0)) (ub wo.out)) (kU (w:=w) (g:=g) (row:=none) (kh HK.out)));replace vG:=kj vG hk ho0;replace qo:=ak (ay (oK (oK (oK (ajq (bH.apart (show bH w0 _ g jV DX from xC) (ur qo.out) (by decide)) hk) (bZ ho0)) (bZ ho1)) (bZ ho2)) (fun _ h_=>h_.1));replace qR:=kc qR hk Ir;replace wo:=kc wo hk Ut;replace HK:=kt HK hk;replace HB:=ak (hb);replace HI0:=ak (hi);try clear hb
       try clear hk
       try clear hi
       try clear ho0
       try clear ho1
       try clear ho2
       obtain⟨atc,amS,ac3⟩:=aI ajn.out
       (first|subst ac3|(injection ac3 with Dy Lp Dz;have Lr:=Dy.symm;have Ls:=Dz.symm;clear Dy Lp Dz;subst Lr;subst Ls));obtain⟨aGG,aGH,ayX⟩:=aI ajo.out
       (first|subst ayX|(injection ayX with Dy Lp Dz;have Lr:=Dy.symm;have Ls:=Dz.symm;clear Dy Lp Dz;subst Lr;subst Ls));obtain⟨aGI,aGJ,ayY⟩:=aI ajp.out
       (first|subst ayY|(injection ayY with Dy Lp Dz;have Lr:=Dy.symm;have Ls:=Dz.symm;clear Dy Lp Dz;subst Lr;subst Ls));refine hK.out _ _ sx (fun hHeld=>?_);clear hK K;refine nrm ?_;refine o1 6 (fun K hK=>?_);refine Q_ (w1:=?_) (v:=?_) (by rfl) rfl ?_ ?_
       rotate_left 2
       ·go_simp;constructor
        ·rfl
        ·rfl
       refine hK.out _ _ ⟨(bf (sO wo.out _) 0).trans rfl,(bf (sO wo.out _) 1).trans rfl,(bf (sO wo.out _) 2).trans rfl⟩ (fun hHeld=>?_);clear hK K;refine nrm ?_;refine o1 7 (fun K hK=>?_);refine xU k28 w.heap.size (by rfl) (.tmp 31) (.tmp 36) 26 28 (.agg #[(.slice none 0 0),(.slice none 0 0),(.slice none 0 0)]) 72 rfl underlying26 Y1 rfl (by decide) (by omega) Cb BL (⟨ajj,ajk,ajl⟩:m_) [.slice atc ajj.length amS, .slice aGG ajk.length aGH, .slice aGI ajl.length aGJ] (fun k_=>some k_≠(.slice EJ M_.length Di:Value).ownBlock∧k_≠EI∧k_≠FM) (fun k_=>((fun k_=>some k_≠(.slice EJ M_.length Di:Value).ownBlock∧k_≠EI∧k_≠FM)) k_∧some k_≠(Cb:Value).ownBlock) rfl rfl ?aP (fun _ hk=>hk) ?aF ?aO (Below.refl _ _) ?aS ?aL ?_
       (case aP=>exact Uo _ _ _ (⟨ajj,ajk,ajl⟩:m_) (ay (l7 (l7 (oq (ajn.out) (pX qo.out) (by decide)) qR.out (by decide)) wo.out (by decide)) (fun k_ hk=>⟨⟨hk.1.1.1.2,⟨hk.1.2,hk.2⟩⟩,hk.1.1.2⟩)) (ay (l7 (l7 (oq (oq (ajo.out) (pX vG.out) (by decide)) (pX qo.out) (by decide)) qR.out (by decide)) wo.out (by decide)) (fun k_ hk=>⟨⟨hk.1.1.1.2,⟨hk.1.2,hk.2⟩⟩,hk.1.1.2⟩)) (ay (ajp.out) (fun k_ hk=>⟨⟨hk.1.1.1.2,⟨hk.1.2,hk.2⟩⟩,hk.1.1.2⟩)))
       (case aF=>exact(fun k_ hk=>⟨Kd.fresh' (jC (ur vG.out)) k_ hk,y7 (g:=EI) (o:= .cells #[.slice none 0 0, .slice none 0 0, .slice none 0 0] 28 (0,0)) (ub qR.out) k_ hk,y7 (g:=FM) (o:= .cells #[.slice EJ M_.length Di, .slice none 0 0,Cb] 28 (0,0)) (ub wo.out) k_ hk⟩))
       (case aO=>exact(ur (ay qo.out (fun _ hk=>⟨hk.1.1.1.1,⟨hk.1.1.1.2.1,hk.1.1.1.2.2⟩⟩))))
       (case aS=>exact(kU (w:=w) (g:=g) (row:=none) (kh HK.out)))
       (case aL=>have:=ajm.out;omega);intro aPv w38 ho hb hg hat
       rw[←apQ.out]at ho;have Eo:=ak (xZ (ur vG.out) (pX (ur qo.out)) (by decide) hg);have Ep:=ak (fB (g:=EI) (o:= .cells #[.slice none 0 0, .slice none 0 0, .slice none 0 0] 28 (0,0)) (ub qR.out) hg (zF qo.out (fun _ hk=>hk.1.1.1.2.1)));have G6:=ak (fB (g:=FM) (o:= .cells #[.slice EJ M_.length Di, .slice none 0 0,Cb] 28 (0,0)) (ub wo.out) hg (zF qo.out (fun _ hk=>hk.1.1.1.2.2)));have LU:=ak (bH.grown xC hg (bH.own_ne HI0.out qo.out (by decide)));have Vx:=ak (Ip wz HL.out hb);have Ye:=ak (bC.trans (kh HK.out) (bC.JH hg g) (Zi qo.out));have n6_:=ak (ho);clear vG qR wo HI0 HB HK qo ajn ajo ajp;have vG:=Eo;have qR:=Ep;have wo:=G6;have HI0:=LU;have HB:=Vx;have HK:=Ye;have ayZ:=n6_;clear Eo Ep G6 LU Vx Ye n6_ ho hb hg hat
       obtain⟨He,Fj,Zn⟩:=aI ayZ.out
       (first|subst Zn|(injection Zn with Dy Lp Dz;have Lr:=Dy.symm;have Ls:=Dz.symm;clear Dy Lp Dz;subst Lr;subst Ls));refine hK.out _ _ sx (fun hHeld=>?_);clear hK K;refine nrm ?_;refine pl 8 ?_;refine Yq (i:=9) (N:=none) #[true,true,true,true,true,true,true,true,true,true] rfl rfl (MZ Vw.out (by kernel_rfl)) (by decide) (fun K hK=>?_);have aGK:w38.cell? ⟨FM,2,none⟩=some (Cb):=(bf wo.out 2).trans rfl;have ay0:=gq wo.out 2;have am6:=Rf.out;have am7:=Rh.out;refine LV (w1:=?_) (by rfl) rfl ?_ ?_
       rotate_left
       ·go_simp;rfl
       refine hK.out _ _ ?_;clear hK K;refine Vy (KE Vw.out (by kernel_rfl)) ?_;try go_wp2
       go_roundg k2
       case measure=>exact kl
       case rel=>exact⟨_,_,_,_,rs,H',⟨kl⟩,⟨rr⟩,⟨rr⟩,⟨bq⟩,⟨bq⟩,⟨xC⟩,⟨kh HK.out⟩,⟨wz⟩⟩
      ·have Yh:decide (0<wH)=false:=decide_eq_false c33;clear c33;obtain⟨rfl,rfl,rfl,rfl⟩:=s4 H;have ay1:=Rh.out;have ay2:=Rf.out;have aKt:=Ut.out;have aKu:=afo.out;have z46:=jY wo.out;have apR:=Ir.out;have apS:=afn.out;have z48:=jY qR.out;obtain⟨DV,DW,ac7⟩:=aI qo.out;subst ac7;go_wp2;refine bodyPost_ret (results_cell_row rfl _ _ EI 28 #[.slice EJ M_.length Di, .slice none 0 0, .slice DV BL.length DW] (0,0) _ rfl bq underlying28 rfl (by kernel_rfl)) rfl ?_;exact⟨_,_,_,er,rr,nx,ur (ay (aH (p:=⟨EI,2,none⟩) (aH (p:=⟨EI,1,none⟩) (aH (p:=⟨EI,0,none⟩) (ay qo.out (fun k_ hk=>(⟨hk,hk.2.1⟩:_∧k_≠EI))) (fun _ hk=>hk.2) (.slice EJ M_.length Di)) (fun _ hk=>hk.2) (.slice none 0 0)) (fun _ hk=>hk.2) (.slice DV BL.length DW)) (fun _ hk=>⟨hk.1.1,(by simp[Value.ownBlock])⟩)),xC,wz,kh HK.out⟩
def iy.j0:Nat→List ByteArray→Bool→List Int→Int→Option (List ByteArray)
 |0,_,_,_,_=>none
 |k+1,x4,x22,afp,am8=>if x22=true then((dJ.f k afp am8 (x4.length:Int)).bind fun afq=>((jA.f k afp afq.2 (([(⟨#[]⟩:ByteArray),(⟨#[45,45,98,48]⟩:ByteArray),(⟨#[45,45,98,48,45,45]⟩:ByteArray),(⟨#[120]⟩:ByteArray),(⟨#[83,117,98,106,101,99,116,58,32,121]⟩:ByteArray),(⟨#[32,122]⟩:ByteArray)]:List ByteArray))).bind fun ay3=>(if 0≤afq.1 then(if afq.1<(x4.length:Int)then(some (x4.set (afq.1:Int).toNat ay3.1))else(none))else(none))))else(some x4)
def iy.f(k:Nat)(l0:List Int):Option (List ByteArray):=(wZ.f l0).bind fun abf=>((fC.f k abf.1 abf.2 3).bind fun abg=>((tq.f k abg.1 abg.2.1 abg.2.2.1).bind fun ajr=>(if(ajr.1.length:Int)>0 then((dJ.f k abf.1 abg.2.2.2 2).bind fun apT=>(iy.j0 k ajr.1 (apT.1==0) abf.1 apT.2))else(iy.j0 k ajr.1 false abf.1 abg.2.2.2))))
theorem iy.calls{k c0:Nat}{A0:Option Addr}{l0:List Int}{r:List ByteArray}{w:World}(hr0:Kd.C (Kd.int .u8) w A0 l0.length l0)(hc0:l0.length≤c0)(h:iy.f k l0=some r):
  Calls Tryz.prog 18 #[.slice A0 l0.length c0] w fun e w'=>∃pW:Value,e= .returned (pW)∧Kd.R Kd.string 9 w' w.heap.size (fun _=>True) pW r∧Below w.heap.size w w':=by
 have HR0:=ak hr0;have vw:=ak hc0;clear hr0 hc0;have HB:=ak (Below.refl w.heap.size w);unfold iy.f at h;have H:=h;clear h;replace H:=bd H;obtain⟨⟨atL,aGL⟩,A2,H⟩:=H
 (try dsimp only at H);replace H:=bd H;obtain⟨⟨aGM,aGN,aGO,aGP⟩,A3,H⟩:=H
 (try dsimp only at H);replace H:=bd H;obtain⟨⟨TT,aPw⟩,A4,H⟩:=H
 (try dsimp only at H);have HC5:=ak H;clear H;go_enter func18,ntmps18;go_upto_region 3 with(first|(refine gL 55 8 func55 #[.slice A0 l0.length c0] ?_;(with_reducible refine(wZ.calls w ?dN HR0.out vw.out A2.out).mono ?_);(case dN=>exact wz);rintro e w6 ⟨ajs,rfl,hi,hb,hb2⟩;refine⟨_,rfl,?_⟩;have LZ:=ak (hi);replace HB:=ak (hb);clear hb;(try clear hb2);(try clear hi))|(refine gL 56 11 func56 #[.pointer (some ⟨ajs,0,none⟩), .int .i64 3] ?_;(with_reducible refine(fC.calls k ajs atL aGL 3 aGM aGN aGO aGP w _ ?dN ?nJ A3.out).mono ?_);(case dN=>exact xC);(case nJ=>exact wz);rintro e w7 ⟨aPx,aPy,aPz,rfl,ho0,ho1,ho2,hi,hb,hk⟩;refine⟨_,rfl,?_⟩;have VK:=ak (aC ho0 (au wz));have SX:=ak (aC ho1 (au wz));have VL:=ak (aC ho2 (au wz));replace HB:=ak (hb);replace LZ:=ak (hi);clear hb;(try clear hk);(try clear hi);(try clear ho0);(try clear ho1);(try clear ho2);obtain⟨zB,yj,eo8⟩:=aI VK.out;subst eo8;obtain⟨Ao9,co9,eo9⟩:=aI SX.out;subst eo9;obtain⟨Zo,XL,ajt⟩:=aI VL.out;subst ajt)|(refine gV func25 (tq.calls (cu ((aj VK.out).2.2)) ((aj VK.out).2.1) (cu ((aj SX.out).2.2)) ((aj SX.out).2.1) (cu ((aj VL.out).2.2)) ((aj VL.out).2.1) A4.out) ?_;rintro aGQ X0 ⟨ho0,hb⟩;have Yt:=ak (aC (dA ho0 (jC (ur SX.out))) (au wz));replace VK:=rb VK hb;replace SX:=ak (dM (ur SX.out) (bZ ho0) hb);replace VL:=ak (dM (ur VL.out) (bZ ho0) hb);replace HB:=ak (lU wz hb);replace LZ:=ak (bH.below xC hb);clear hb;(try clear ho0)))
 (try simp only[Act.put,C_,Dc,l_c]);go_cut [22] (fun v22 wc=>∃(kq:Nat) (aju:Bool) (Ri:Int),v22= .bool aju∧ah (iy.j0 kq TT aju atL Ri=some r)∧ah (kq≤k)∧ah (Kd.R Kd.string 9 wc w.heap.size (fun _=>True) aGQ TT)∧ah (bH w wc ajs atL Ri)∧ah (Below w.heap.size w wc))
 case first=>
  have H:=HC5.out;clear HC5;replace H:=sp H;rcases H with⟨c12,H⟩|⟨c12,H⟩
  ·have vH:decide (0<(TT.length:Int))=true:=decide_eq_true c12;have Dv:decide (0<TT.length)=true:=decide_eq_true (by omega);clear c12
   (first|rw[vH]|(simp only[gU,jP];rw[vH])|skip);replace H:=bd H;obtain⟨⟨aPA,aPB⟩,A13,H⟩:=H
   (try dsimp only at H);have H':=ak H;clear H;obtain⟨tZ,qC,MO⟩:=aI Yt.out;subst MO;go_wp2_with (go_at_call 57;(with_reducible refine(dJ.calls w ?dN ?nJ A13.out).mono ?_);(case dN=>exact xC);(case nJ=>exact wz);rintro e w15 ⟨rfl,hi,hb,hk⟩;replace VK:=ki VK hk;replace SX:=ki SX hk;replace VL:=ki VL hk;replace Yt:=ki Yt hk;replace HB:=ak (hb);replace LZ:=ak (hi);clear hb;(try clear hk);(try clear hi))
   go_meet
   case rel=>exact⟨_,_,_,rs,H',⟨JB⟩,⟨ur (ay Yt.out (fun _ hk=>trivial))⟩,⟨xC⟩,⟨wz⟩⟩
  ·have vH:decide (0<(TT.length:Int))=false:=decide_eq_false c12;have Dv:decide (0<TT.length)=false:=decide_eq_false (by omega);clear c12
   (first|rw[vH]|(simp only[gU,jP];rw[vH])|skip);have H':=ak H;clear H;obtain⟨OD,MR,MS⟩:=aI Yt.out;subst MS;go_wp2;go_meet
   case rel=>exact⟨_,_,_,rs,H',⟨JB⟩,⟨ur (ay Yt.out (fun _ hk=>trivial))⟩,⟨xC⟩,⟨wz⟩⟩
 case rest=>
  clear HC5;obtain⟨kq,aju,Ri,rfl,HA,HJ4,bT,LZ,HB⟩:=hcut
  cases kq with
  |zero=>exact zz HA.out
  |succ kj4=>
   obtain⟨H⟩:=HA;simp only[iy.j0]at H;replace H:=sb H;rcases H with⟨rfl,H⟩|⟨rfl,H⟩
   ·replace H:=bd H;obtain⟨⟨ac_,aPC⟩,A18,H⟩:=H
    (try dsimp only at H);obtain⟨atM,apU⟩:=nm ([(⟨#[]⟩:ByteArray),(⟨#[45,45,98,48]⟩:ByteArray),(⟨#[45,45,98,48,45,45]⟩:ByteArray),(⟨#[120]⟩:ByteArray),(⟨#[83,117,98,106,101,99,116,58,32,121]⟩:ByteArray),(⟨#[32,122]⟩:ByteArray)]:List ByteArray);rw[←apU.out]at H;replace H:=bd H;obtain⟨⟨atN,aPD⟩,A19,H⟩:=H
    (try dsimp only at H);replace H:=nY H;obtain⟨OA,H⟩:=H;replace H:=nY H;obtain⟨Dx,H⟩:=H;obtain⟨aGR,apV⟩:=nm (TT.set (ac_:Int).toNat atN);rw[←apV.out]at H;obtain rfl:=s1 H;obtain⟨wY,uY,TS⟩:=aI bT.out;subst TS;go_wp2_with (first|(refine gL 57 26 func57 #[.pointer (some ⟨ajs,0,none⟩), .int .i64 (TT.length:Int)] ?_;(with_reducible refine(dJ.calls w ?dN ?nJ A18.out).mono ?_);(case dN=>exact xC);(case nJ=>exact wz);rintro e w24 ⟨rfl,hi,hb,hk⟩;refine⟨_,rfl,?_⟩;replace bT:=ki bT hk;replace HB:=ak (hb);replace LZ:=ak (hi);clear hb;(try clear hk);(try clear hi))|(refine Vt 30 Kd.string 9 [.string (⟨#[]⟩:ByteArray), .string (⟨#[45,45,98,48]⟩:ByteArray), .string (⟨#[45,45,98,48,45,45]⟩:ByteArray), .string (⟨#[120]⟩:ByteArray), .string (⟨#[83,117,98,106,101,99,116,58,32,121]⟩:ByteArray), .string (⟨#[32,122]⟩:ByteArray)] apU (dP.one (show Kd.M Kd.string _ _ _ (⟨#[]⟩:ByteArray) [.string (⟨#[]⟩:ByteArray)]from rfl) (dP.one (show Kd.M Kd.string _ _ _ (⟨#[45,45,98,48]⟩:ByteArray) [.string (⟨#[45,45,98,48]⟩:ByteArray)]from rfl) (dP.one (show Kd.M Kd.string _ _ _ (⟨#[45,45,98,48,45,45]⟩:ByteArray) [.string (⟨#[45,45,98,48,45,45]⟩:ByteArray)]from rfl) (dP.one (show Kd.M Kd.string _ _ _ (⟨#[120]⟩:ByteArray) [.string (⟨#[120]⟩:ByteArray)]from rfl) (dP.one (show Kd.M Kd.string _ _ _ (⟨#[83,117,98,106,101,99,116,58,32,121]⟩:ByteArray) [.string (⟨#[83,117,98,106,101,99,116,58,32,121]⟩:ByteArray)]from rfl) (dP.one (show Kd.M Kd.string _ _ _ (⟨#[32,122]⟩:ByteArray) [.string (⟨#[32,122]⟩:ByteArray)]from rfl) (dP.none _ _))))))) ?_;intro aPE w25 atO hb;have SY:=ak (aC (dA atO (jC (ur bT.out))) (au wz));replace bT:=ak (dM (ur bT.out) (bZ atO) hb);replace HB:=ak (lU wz hb);replace LZ:=ak (bH.below xC hb);clear hb atO;obtain⟨ai0,XG,agZ⟩:=aI SY.out;subst agZ)|(refine gL 58 31 func58 #[.pointer (some ⟨ajs,0,none⟩), .slice ai0 atM.length XG] ?_;(with_reducible refine(jA.calls w ?dN ?nJ (cu ((aj SY.out).2.2)) ((aj SY.out).2.1) (wM (bH.own_ne LZ.out SY.out (by decide))) A19.out).mono ?_);(case dN=>exact xC);(case nJ=>exact wz);rintro e w28 ⟨rfl,hi,hb,hk⟩;refine⟨_,rfl,?_⟩;replace bT:=ki bT hk;replace SY:=ki SY hk;replace HB:=ak (hb);replace LZ:=ak (hi);clear hb;(try clear hk);(try clear hi);have p22:0≤(ac_:Int):=of_decide_eq_true (by assumption);have q22:(ac_:Int)<((TT.length:Int):Int):=of_decide_eq_true (by assumption);obtain⟨ajv,aGS,am9,ay4,aGT,aPF,ay5⟩:=ada bT.out (by omega);(first|cases am9|(injection am9 with S9 en_ ec_;(first|subst S9|(injection S9 with S9;subst S9));subst ec_;clear en_));have aGU:=ak ay4;have aPG:=ak ay5;clear ay4 aGT ay5;obtain⟨aGV,aGW⟩:=Uu (⟨#[]⟩:ByteArray) bT.out (ac_:Int) p22 q22;replace p22:=eq_true p22;replace q22:=eq_true q22;have n_:=ak (ay (ok':=(fun k_=>some k_≠(.slice ai0 atM.length XG:Value).ownBlock)) bT.out (fun k_ hk=>hk.2));clear bT;have bT:=n_;clear n_;obtain⟨aKv,aKw⟩:=Uu (⟨#[]⟩:ByteArray) bT.out (ac_:Int) (of_decide_eq_true (by assumption)) (of_decide_eq_true (by assumption));have atP:=ajw bT.out (ac_:Int) atN)|((with_reducible refine BM (t:=9) (p:=32) rfl ?_);refine Ad (t:=9) (p:=32) (v:=?aGX) (w1:=(w28.setCell ⟨ajv,(ac_:Int).toNat,none⟩ (.string atN))) ?hg ?ho ?hn ?hr ?_;(case ho=>rfl);(case hg=>rfl);(case hn=>rfl);(case hr=>first|(go_simp;done)|(go_simp;rfl));intro w30 hw;have hg:w28.grownBy w30 (some ajv):=(by rw[hw];exact atP.2);have hp_:Kd.R Kd.string 9 w30 w.heap.size (fun k_=>some k_≠(.slice ai0 atM.length XG:Value).ownBlock) (.slice (some ⟨ajv,0,none⟩) TT.length uY) aGR:=(by rw[hw,apV.out];exact atP.1);clear atP;replace LZ:=ak (bH.grown xC hg (bH.own_ne LZ.out bT.out (by decide)));replace bT:=ak (hp_);replace SY:=ak (Ih (v:=(.slice (some ⟨ajv,0,none⟩) TT.length uY)) (v1:=(.slice (some ⟨ajv,0,none⟩) TT.length uY)) (ok:=(fun _=>True)) (ur SY.out) hg (.inl rfl));replace HB:=ak ((by rw[hw];exact yT (HB.out) aGU.out:Below w.heap.size w w30));clear hg hw hp_))
    go_ret;exact⟨_,er,ur (ay bT.out (fun _ hk=>trivial)),wz⟩
   ·obtain rfl:=s1 H;go_wp2;go_ret;exact⟨_,er,ur bT.out,wz⟩
def bD.l0:Nat→ByteArray→Int→Int→Option (Bool)
 |0,_,_,_=>none
 |k+1,x0,x5,x6=>if x6<x5 then(if 0≤x6 then(if x6<(x0.size:Int)then(if(bt x0 x6)<32 then(some false)else(if(bt x0 x6)>126 then(some false)else(bD.l0 k x0 x5 (wrap64 (x6+1)))))else(none))else(none))else(some (decide ((x0.size:Int)≤200)))
def bD.f(k:Nat)(a0:ByteArray):Option (Bool):=bD.l0 k a0 (a0.size:Int) 0
theorem bD.calls{k:Nat}{a0:ByteArray}{r:Bool}{w:World}(h:bD.f k a0=some r):
  Calls Tryz.prog 89 #[.string a0] w fun e w'=>e= .returned (.bool r)∧dR w w':=by
 unfold bD.f at h;have H:=h;clear h;have H':=ak H;clear H;go_enter func89,ntmps89;go_wp2;go_loopg [6] k (fun kq v6 w'=>∃(gZ:Int),v6= .int .i64 gZ∧ah (bD.l0 kq a0 (a0.size:Int) gZ=some r)∧ah (kq≤k)∧dR w w')
 case atStart=>exact⟨_,rs,H',⟨Nat.le_refl _⟩,dn⟩
 case round=>
  clear H';obtain⟨gZ,rfl,HA,yN,⟨m1,rfl⟩⟩:=hrel
  cases gk with
  |zero=>exact zz HA.out
  |succ k1=>
   obtain⟨H⟩:=HA;simp only[bD.l0]at H;replace H:=sd H;rcases H with⟨rQ,H⟩|⟨rQ,H⟩
   ·replace H:=nY H;obtain⟨jd,H⟩:=H;replace H:=nY H;obtain⟨qB,H⟩:=H;replace H:=sd H;rcases H with⟨nP,H⟩|⟨nP,H⟩
    ·obtain rfl:=s1 H;obtain⟨p5,q5,hx5⟩:=bx a0 gZ;go_wp2;go_ret;exact⟨rs,dn⟩
    ·replace H:=sp H;rcases H with⟨c8,H⟩|⟨c8,H⟩
     ·have ru:decide (126<(bt a0 gZ))=true:=decide_eq_true c8;clear c8;obtain rfl:=s1 H;obtain⟨p5,q5,hx5⟩:=bx a0 gZ;obtain⟨p7,q7,hx7⟩:=bx a0 gZ;go_wp2;go_ret;exact⟨rs,dn⟩
     ·have ru:decide (126<(bt a0 gZ))=false:=decide_eq_false c8;clear c8;have H':=ak H;clear H;obtain⟨p5,q5,hx5⟩:=bx a0 gZ;obtain⟨p7,q7,hx7⟩:=bx a0 gZ;go_wp2;go_roundg k1
      case measure=>exact kl
      case rel=>exact⟨_,rs,H',⟨kl⟩,dn⟩
   ·obtain rfl:=s1 H;go_wp2;go_ret;exact⟨rs,dn⟩
def lM.f(a0:ByteArray)(a1:ByteArray):Option (ByteArray):=if a1.data.toList=[32]then(if a0.size≤9223372036854775807 then some ⟨(Lib.trimB a0.data.toList 32).toArray⟩else none)else none
theorem lM.calls{a0 a1 r:ByteArray}{w:World}(h:lM.f a0 a1=some r):
  Calls Tryz.prog 92 #[.string a0, .string a1] w fun e w'=>e= .returned (.string r)∧dR w w':=by
 unfold lM.f at h;split at h
 ·rename_i h1
  split at h
  ·rename_i hs
   injection h with h;subst h
   have e1:a1=⟨#[32]⟩:=by
    cases a1 with
    |mk d=>exact congrArg ByteArray.mk (Array.toList_inj.mp h1)
   subst e1;refine(Tryz.strings_Trim_one a0 32 (by decide) w hs).mono ?_;rintro e w' ⟨he,hw⟩;refine⟨he,?_⟩;rcases hw with rfl|rfl
   ·exact⟨⟨0,rfl⟩⟩
   ·exact⟨⟨1,rfl⟩⟩
  ·cases h
 ·cases h
def bJ.f(a0:Int):Option (Bool):=if a0≥97 then(if a0≤122 then(some true)else(if a0≥65 then(some (decide (a0≤90)))else(some false)))else(if a0≥65 then(some (decide (a0≤90)))else(some false))
theorem bJ.calls{a0:Int}{r:Bool}{w:World}(h:bJ.f a0=some r):
  Calls Tryz.prog 140 #[.int .u8 a0] w fun e w'=>e= .returned (.bool r)∧dR w w':=by
 unfold bJ.f at h;have H:=h;clear h;replace H:=sp H;rcases H with⟨c2,H⟩|⟨c2,H⟩
 ·have rQ:decide (97≤a0)=true:=decide_eq_true c2;clear c2;replace H:=sd H;rcases H with⟨jd,H⟩|⟨jd,H⟩
  ·obtain rfl:=s1 H;go_enter func140,ntmps140;go_wp2;go_ret;exact⟨rs,dn⟩
  ·replace H:=sp H;rcases H with⟨c4,H⟩|⟨c4,H⟩
   ·have qB:decide (65≤a0)=true:=decide_eq_true c4;clear c4;obtain rfl:=s1 H;go_enter func140,ntmps140;go_wp2;go_ret;exact⟨rs,dn⟩
   ·have qB:decide (65≤a0)=false:=decide_eq_false c4;clear c4;obtain rfl:=s1 H;go_enter func140,ntmps140;go_wp2;go_ret;exact⟨rs,dn⟩
 ·have rQ:decide (97≤a0)=false:=decide_eq_false c2;clear c2;replace H:=sp H;rcases H with⟨c5,H⟩|⟨c5,H⟩
  ·have nO:decide (65≤a0)=true:=decide_eq_true c5;clear c5;obtain rfl:=s1 H;go_enter func140,ntmps140;go_wp2;go_ret;exact⟨rs,dn⟩
  ·have nO:decide (65≤a0)=false:=decide_eq_false c5;clear c5;obtain rfl:=s1 H;go_enter func140,ntmps140;go_wp2;go_ret;exact⟨rs,dn⟩
def dS.f(a0:Int):Option (Bool):=if a0≥48 then(some (decide (a0≤57)))else(some false)
theorem dS.calls{a0:Int}{r:Bool}{w:World}(h:dS.f a0=some r):
  Calls Tryz.prog 141 #[.int .u8 a0] w fun e w'=>e= .returned (.bool r)∧dR w w':=by
 unfold dS.f at h;have H:=h;clear h;replace H:=sp H;rcases H with⟨c2,H⟩|⟨c2,H⟩
 ·have rQ:decide (48≤a0)=true:=decide_eq_true c2;clear c2;obtain rfl:=s1 H;go_enter func141,ntmps141;go_wp2;go_ret;exact⟨rs,dn⟩
 ·have rQ:decide (48≤a0)=false:=decide_eq_false c2;clear c2;obtain rfl:=s1 H;go_enter func141,ntmps141;go_wp2;go_ret;exact⟨rs,dn⟩
def uF.f(a0:Int):Option (Bool):=(bJ.f a0).bind fun ay6=>(if ay6=true then(some true)else((dS.f a0).bind fun ay7=>(if ay7=true then(some true)else(some (a0==45)))))
theorem uF.calls{a0:Int}{r:Bool}{w:World}(h:uF.f a0=some r):
  Calls Tryz.prog 185 #[.int .u8 a0] w fun e w'=>e= .returned (.bool r)∧dR w w':=by
 unfold uF.f at h;have H:=h;clear h;replace H:=bd H;obtain⟨ay6,A2,H⟩:=H;replace H:=sb H;rcases H with⟨rfl,H⟩|⟨rfl,H⟩
 ·obtain rfl:=s1 H;go_enter func185,ntmps185;go_wp2_with (refine gA func140 (bJ.calls A2.out) ?_;intro nd)
  go_ret;exact⟨rs,dn⟩
 ·replace H:=bd H;obtain⟨ay7,A4,H⟩:=H;replace H:=sb H;rcases H with⟨rfl,H⟩|⟨rfl,H⟩
  ·obtain rfl:=s1 H;go_enter func185,ntmps185;go_wp2_with (first|(refine gA func140 (bJ.calls A2.out) ?_;intro nd)|(go_at_call 141;refine mA (dS.calls A4.out) ?_;intro nd))
   go_ret;exact⟨rs,dn⟩
  ·obtain rfl:=s1 H;go_enter func185,ntmps185;go_wp2_with (first|(refine gA func140 (bJ.calls A2.out) ?_;intro nd)|(go_at_call 141;refine mA (dS.calls A4.out) ?_;intro nd))
   go_ret;exact⟨rs,dn⟩
def fO.l0:Nat→ByteArray→Int→Int→Option (Bool)
 |0,_,_,_=>none
 |k+1,x0,x7,x8=>if x8<x7 then(if 0≤x8 then(if x8<(x0.size:Int)then((uF.f (bt x0 x8)).bind fun ay8=>(if ay8=true then(fO.l0 k x0 x7 (wrap64 (x8+1)))else(some false)))else(none))else(none))else(some true)
def fO.f(k:Nat)(a0:ByteArray):Option (Bool):=fO.l0 k a0 (a0.size:Int) 0
theorem fO.calls{k:Nat}{a0:ByteArray}{r:Bool}{w:World}(h:fO.f k a0=some r):
  Calls Tryz.prog 138 #[.string a0, .func (.func 185) #[] #[]] w fun e w'=>e= .returned (.bool r)∧dR w w':=by
 unfold fO.f at h;have H:=h;clear h;have H':=ak H;clear H;go_enter func138,ntmps138;go_wp2;go_loopg [8] k (fun kq v8 w'=>∃(mQ:Int),v8= .int .i64 mQ∧ah (fO.l0 kq a0 (a0.size:Int) mQ=some r)∧ah (kq≤k)∧dR w w')
 case atStart=>exact⟨_,rs,H',⟨Nat.le_refl _⟩,dn⟩
 case round=>
  clear H';obtain⟨mQ,rfl,HA,yN,⟨m1,rfl⟩⟩:=hrel
  cases gk with
  |zero=>exact zz HA.out
  |succ k1=>
   obtain⟨H⟩:=HA;simp only[fO.l0]at H;replace H:=sd H;rcases H with⟨jd,H⟩|⟨jd,H⟩
   ·replace H:=nY H;obtain⟨qB,H⟩:=H;replace H:=nY H;obtain⟨nO,H⟩:=H;replace H:=bd H;obtain⟨ay8,A7,H⟩:=H;replace H:=sb H;rcases H with⟨rfl,H⟩|⟨rfl,H⟩
    ·have H':=ak H;clear H;obtain⟨p6,q6,hx6⟩:=bx a0 mQ;go_wp2_with (go_at_call 185;refine mA (uF.calls A7.out) ?_;intro nd)
     go_roundg k1
     case measure=>exact kl
     case rel=>exact⟨_,rs,H',⟨kl⟩,dn⟩
    ·obtain rfl:=s1 H;obtain⟨p6,q6,hx6⟩:=bx a0 mQ;go_wp2_with (go_at_call 185;refine mA (uF.calls A7.out) ?_;intro nd)
     go_ret;exact⟨rs,dn⟩
   ·obtain rfl:=s1 H;go_wp2;go_ret;exact⟨rs,dn⟩
def kQ.f(k:Nat)(a0:ByteArray):Option (Bool):=if(a0.size:Int)≥1 then(if(a0.size:Int)≤30 then(if 0<(a0.size:Int)then((bJ.f (bt a0 0)).bind fun ay9=>(if ay9=true then((fO.f k a0).bind fun ay_=>(some ay_))else(some false)))else(none))else(some false))else(some false)
theorem kQ.calls{k:Nat}{a0:ByteArray}{r:Bool}{w:World}(h:kQ.f k a0=some r):
  Calls Tryz.prog 160 #[.string a0] w fun e w'=>e= .returned (.bool r)∧dR w w':=by
 unfold kQ.f at h;have H:=h;clear h;replace H:=sp H;rcases H with⟨c2,H⟩|⟨c2,H⟩
 ·have rQ:decide (1≤(a0.size:Int))=true:=decide_eq_true c2;have y8:decide (1≤a0.size)=true:=decide_eq_true (by omega);clear c2;replace H:=sp H;rcases H with⟨c3,H⟩|⟨c3,H⟩
  ·have jd:=decide_eq_true c3;have yQ:decide (a0.size≤30)=true:=decide_eq_true (by omega);clear c3;replace H:=nn H;obtain⟨c4,H⟩:=H;have qB:=decide_eq_true c4;have Vj:decide (0<a0.size)=true:=decide_eq_true (by omega);clear c4;replace H:=bd H;obtain⟨ay9,A6,H⟩:=H;replace H:=sb H;rcases H with⟨rfl,H⟩|⟨rfl,H⟩
   ·replace H:=bd H;obtain⟨ay_,A8,H⟩:=H;obtain rfl:=s1 H;have p5:0≤(0:Int):=(by omega)
    have q5:0<a0.size:=(by have:(0:Int)<(a0.size:Int):=of_decide_eq_true (by assumption);omega)
    have hx5:∀h:0<a0.size,((a0[0]'h).toNat:Int)=bt a0 0:=wU a0 0;clear p5;have qi5:(0<(a0.size:Int))=True:=eq_true (of_decide_eq_true (by assumption));replace q5:=eq_true q5;go_enter func160,ntmps160;go_wp2_with (first|(go_at_call 140;refine mA (bJ.calls A6.out) ?_;intro nd)|(go_at_call 138;refine mA (fO.calls A8.out) ?_;intro nd))
    go_ret;exact⟨rs,dn⟩
   ·obtain rfl:=s1 H;have p5:0≤(0:Int):=(by omega)
    have q5:0<a0.size:=(by have:(0:Int)<(a0.size:Int):=of_decide_eq_true (by assumption);omega)
    have hx5:∀h:0<a0.size,((a0[0]'h).toNat:Int)=bt a0 0:=wU a0 0;clear p5;have qi5:(0<(a0.size:Int))=True:=eq_true (of_decide_eq_true (by assumption));replace q5:=eq_true q5;go_enter func160,ntmps160;go_wp2_with (go_at_call 140;refine mA (bJ.calls A6.out) ?_;intro nd)
    go_ret;exact⟨rs,dn⟩
  ·have jd:=decide_eq_false c3;have yQ:decide (a0.size≤30)=false:=decide_eq_false (by omega);clear c3;obtain rfl:=s1 H;go_enter func160,ntmps160;go_wp2;go_ret;exact⟨rs,dn⟩
 ·have rQ:decide (1≤(a0.size:Int))=false:=decide_eq_false c2;have y8:decide (1≤a0.size)=false:=decide_eq_false (by omega);clear c2;obtain rfl:=s1 H;go_enter func160,ntmps160;go_wp2;go_ret;exact⟨rs,dn⟩
def tu.f(k:Nat)(fK:ByteArray)(fP:ByteArray):Option (Bool):=(kQ.f k fK).bind fun aza=>(if aza=true then((bD.f k fP).bind fun azb=>(if azb=true then(if(fP.size:Int)≤150 then((lM.f fP (⟨#[32]⟩:ByteArray)).bind fun azc=>(some (azc.toList==fP.toList)))else(some false))else(some false)))else(some false))
theorem tu.calls{k:Nat}{fK fP:ByteArray}{r:Bool}{w:World}(h:tu.f k fK fP=some r):
  Calls Tryz.prog 120 #[.agg #[.string fK, .string fP]] w fun e w'=>e= .returned (.bool r)∧Below w.heap.size w w':=by
 have Fg:=underlying69;have HB:=ak (Below.refl w.heap.size w);unfold tu.f at h;have H:=h;clear h;replace H:=bd H;obtain⟨aza,A2,H⟩:=H;replace H:=sb H;rcases H with⟨rfl,H⟩|⟨rfl,H⟩
 ·replace H:=bd H;obtain⟨azb,A4,H⟩:=H;replace H:=sb H;rcases H with⟨rfl,H⟩|⟨rfl,H⟩
  ·replace H:=sp H;rcases H with⟨c6,H⟩|⟨c6,H⟩
   ·have nP:=decide_eq_true c6;have zM:decide (fP.size≤150)=true:=decide_eq_true (by omega);clear c6;replace H:=bd H;obtain⟨azc,A7,H⟩:=H;obtain rfl:=s1 H;go_enter func120,ntmps120;go_wp2_with (first|(refine gG 1 ?_;refine bX HB 1 #[.string fK, .string fP] 69 ?_;intro JI w8 yB JJ hb;replace HB:=bs HB hb;clear hb;have z9:=Am yB.out)|(go_at_call 160;refine mA (kQ.calls A2.out) ?_;intro nd;(try exact dq))|(go_at_call 89;refine mA (bD.calls A4.out) ?_;intro nd;(try exact dq))|(go_at_call 92;refine mA (lM.calls A7.out) ?_;intro nd;(try exact dq)))
    repeat(go_quiet (first|(refine gG 1 ?_;refine bX HB 1 #[.string fK, .string fP] 69 ?_;intro JI w8 yB JJ hb;replace HB:=bs HB hb;clear hb;have z9:=Am yB.out)|(go_at_call 160;refine mA (kQ.calls A2.out) ?_;intro nd;(try exact dq))|(go_at_call 89;refine mA (bD.calls A4.out) ?_;intro nd;(try exact dq))|(go_at_call 92;refine mA (lM.calls A7.out) ?_;intro nd;(try exact dq)));try go_wp2_with (first|(refine gG 1 ?_;refine bX HB 1 #[.string fK, .string fP] 69 ?_;intro JI w8 yB JJ hb;replace HB:=bs HB hb;clear hb;have z9:=Am yB.out)|(go_at_call 160;refine mA (kQ.calls A2.out) ?_;intro nd;(try exact dq))|(go_at_call 89;refine mA (bD.calls A4.out) ?_;intro nd;(try exact dq))|(go_at_call 92;refine mA (lM.calls A7.out) ?_;intro nd;(try exact dq))))
    go_ret;exact⟨er,bb⟩
   ·have nP:=decide_eq_false c6;have zM:decide (fP.size≤150)=false:=decide_eq_false (by omega);clear c6;obtain rfl:=s1 H;go_enter func120,ntmps120;go_wp2_with (first|(refine gG 1 ?_;refine bX HB 1 #[.string fK, .string fP] 69 ?_;intro JI w10 yB JJ hb;replace HB:=bs HB hb;clear hb;have z11:=Am yB.out)|(go_at_call 160;refine mA (kQ.calls A2.out) ?_;intro nd;(try exact dq))|(go_at_call 89;refine mA (bD.calls A4.out) ?_;intro nd;(try exact dq)))
    repeat(go_quiet (first|(refine gG 1 ?_;refine bX HB 1 #[.string fK, .string fP] 69 ?_;intro JI w10 yB JJ hb;replace HB:=bs HB hb;clear hb;have z11:=Am yB.out)|(go_at_call 160;refine mA (kQ.calls A2.out) ?_;intro nd;(try exact dq))|(go_at_call 89;refine mA (bD.calls A4.out) ?_;intro nd;(try exact dq)));try go_wp2_with (first|(refine gG 1 ?_;refine bX HB 1 #[.string fK, .string fP] 69 ?_;intro JI w10 yB JJ hb;replace HB:=bs HB hb;clear hb;have z11:=Am yB.out)|(go_at_call 160;refine mA (kQ.calls A2.out) ?_;intro nd;(try exact dq))|(go_at_call 89;refine mA (bD.calls A4.out) ?_;intro nd;(try exact dq))))
    go_ret;exact⟨er,bb⟩
  ·obtain rfl:=s1 H;go_enter func120,ntmps120;go_wp2_with (first|(refine gG 1 ?_;refine bX HB 1 #[.string fK, .string fP] 69 ?_;intro JI w12 yB JJ hb;replace HB:=bs HB hb;clear hb;have z13:=Am yB.out)|(go_at_call 160;refine mA (kQ.calls A2.out) ?_;intro nd;(try exact dq))|(go_at_call 89;refine mA (bD.calls A4.out) ?_;intro nd;(try exact dq)))
   repeat(go_quiet (first|(refine gG 1 ?_;refine bX HB 1 #[.string fK, .string fP] 69 ?_;intro JI w12 yB JJ hb;replace HB:=bs HB hb;clear hb;have z13:=Am yB.out)|(go_at_call 160;refine mA (kQ.calls A2.out) ?_;intro nd;(try exact dq))|(go_at_call 89;refine mA (bD.calls A4.out) ?_;intro nd;(try exact dq)));try go_wp2_with (first|(refine gG 1 ?_;refine bX HB 1 #[.string fK, .string fP] 69 ?_;intro JI w12 yB JJ hb;replace HB:=bs HB hb;clear hb;have z13:=Am yB.out)|(go_at_call 160;refine mA (kQ.calls A2.out) ?_;intro nd;(try exact dq))|(go_at_call 89;refine mA (bD.calls A4.out) ?_;intro nd;(try exact dq))))
   go_ret;exact⟨er,bb⟩
 ·obtain rfl:=s1 H;go_enter func120,ntmps120;go_wp2_with (first|(refine gG 1 ?_;refine bX HB 1 #[.string fK, .string fP] 69 ?_;intro JI Xv yB JJ hb;replace HB:=bs HB hb;clear hb;have z15:=Am yB.out)|(go_at_call 160;refine mA (kQ.calls A2.out) ?_;intro nd;(try exact dq)))
  repeat(go_quiet (first|(refine gG 1 ?_;refine bX HB 1 #[.string fK, .string fP] 69 ?_;intro JI Xv yB JJ hb;replace HB:=bs HB hb;clear hb;have z15:=Am yB.out)|(go_at_call 160;refine mA (kQ.calls A2.out) ?_;intro nd;(try exact dq)));try go_wp2_with (first|(refine gG 1 ?_;refine bX HB 1 #[.string fK, .string fP] 69 ?_;intro JI Xv yB JJ hb;replace HB:=bs HB hb;clear hb;have z15:=Am yB.out)|(go_at_call 160;refine mA (kQ.calls A2.out) ?_;intro nd;(try exact dq))))
  go_ret;exact⟨er,bb⟩
def ql.f(k:Nat)(fK:ByteArray)(fP:ByteArray):Option (Bool):=(tu.f k fK fP).bind fun azd=>(some (!azd))
theorem ql.calls{k:Nat}{fK fP:ByteArray}{r:Bool}{w:World}(h:ql.f k fK fP=some r):
  Calls Tryz.prog 119 #[.agg #[.string fK, .string fP]] w fun e w'=>e= .returned (.bool r)∧Below w.heap.size w w':=by
 have Fg:=underlying69;have HB:=ak (Below.refl w.heap.size w);unfold ql.f at h;have H:=h;clear h;replace H:=bd H;obtain⟨azd,A2,H⟩:=H;obtain rfl:=s1 H;go_enter func119,ntmps119;go_wp2_with (first|(refine bX HB 1 #[.string fK, .string fP] 69 ?_;intro aKx w3 ajx aKy hb;replace HB:=bs HB hb;clear hb;have z4:=Am ajx.out)|(refine gB func120 (tu.calls A2.out) ?_;intro w5 hb;replace ajx:=kb ajx hb;replace HB:=bz HB hb;clear hb))
 go_ret;exact⟨er,bb⟩
def dw.l0:Nat→List (fD)→Int→Int→Option (Int)
 |0,_,_,_=>none
 |k+1,x0,x7,x8=>if x8<x7 then(if 0≤x8 then(if x8<(x0.length:Int)then((ql.f k ((eU x0 x8).f0) ((eU x0 x8).f1)).bind fun aze=>(if aze=true then(some x8)else(dw.l0 k x0 x7 (wrap64 (x8+1)))))else(none))else(none))else(some (-1))
def dw.f(k:Nat)(l0:List (fD)):Option (Int):=dw.l0 k l0 (l0.length:Int) 0
theorem dw.calls{k c0:Nat}{A0:Option Addr}{l0:List (fD)}{r:Int}{w:World}(hr0:Kd.C rP w A0 l0.length l0)(hc0:l0.length≤c0)(h:dw.f k l0=some r):
  Calls Tryz.prog 122 #[.slice A0 l0.length c0, .func (.func 119) #[] #[]] w fun e w'=>e= .returned (.int .i64 r)∧Below w.heap.size w w':=by
 have Fg:=underlying69;have HR0:=ak hr0;have vw:=ak hc0;clear hr0 hc0;have HB:=ak (Below.refl w.heap.size w);unfold dw.f at h;have H:=h;clear h;have H':=ak H;clear H;go_enter func122,ntmps122;go_wp2;go_loopg [8] k (fun kq v8 w'=>∃(mQ:Int),v8= .int .i64 mQ∧ah (dw.l0 kq l0 (l0.length:Int) mQ=some r)∧ah (kq≤k)∧ah (Below w.heap.size w w'))
 case atStart=>exact⟨_,rs,H',⟨Nat.le_refl _⟩,⟨ul HB.out⟩⟩
 case round=>
  clear H';obtain⟨mQ,rfl,HA,yN,HB⟩:=hrel
  cases gk with
  |zero=>exact zz HA.out
  |succ k1=>
   obtain⟨H⟩:=HA;simp only[dw.l0]at H;replace H:=sd H;rcases H with⟨jd,H⟩|⟨jd,H⟩
   ·replace H:=nY H;obtain⟨qB,H⟩:=H;replace H:=nY H;obtain⟨nO,H⟩:=H;replace H:=bd H;obtain⟨aze,A6,H⟩:=H;replace H:=sb H;rcases H with⟨rfl,H⟩|⟨rfl,H⟩
    ·obtain rfl:=s1 H;have adb:=zi mQ;have ade:=zj mQ l0.length;obtain⟨azf,atS,OO,OQ⟩:=su HR0.out mQ adb ade;cases atS;replace OO:=cl HB.out OO;replace OQ:=cl HB.out OQ;replace adb:=eq_true adb;replace ade:=eq_true ade;go_wp2_with (go_at_call 119;refine mB (ql.calls A6.out) ?_;intro w8 hb;replace HB:=bs HB hb;clear hb)
     go_ret;exact⟨er,ul HB.out⟩
    ·have H':=ak H;clear H;have adb:=zi mQ;have ade:=zj mQ l0.length;obtain⟨azf,atS,OO,OQ⟩:=su HR0.out mQ adb ade;cases atS;replace OO:=cl HB.out OO;replace OQ:=cl HB.out OQ;replace adb:=eq_true adb;replace ade:=eq_true ade;go_wp2_with (go_at_call 119;refine mB (ql.calls A6.out) ?_;intro w9 hb;replace HB:=bs HB hb;clear hb)
     go_roundg k1
     case measure=>exact kl
     case rel=>exact⟨_,rs,H',⟨kl⟩,⟨ul HB.out⟩⟩
   ·obtain rfl:=s1 H;go_wp2;go_ret;exact⟨er,ul HB.out⟩
def lI.f(k:Nat)(l0:List (fD)):Option (Bool):=(dw.f k l0).bind fun azg=>(some (decide (azg≥0)))
theorem lI.calls{k c0:Nat}{A0:Option Addr}{l0:List (fD)}{r:Bool}{w:World}(hr0:Kd.C rP w A0 l0.length l0)(hc0:l0.length≤c0)(h:lI.f k l0=some r):
  Calls Tryz.prog 118 #[.slice A0 l0.length c0, .func (.func 119) #[] #[]] w fun e w'=>e= .returned (.bool r)∧Below w.heap.size w w':=by
 have HR0:=ak hr0;have vw:=ak hc0;clear hr0 hc0;have HB:=ak (Below.refl w.heap.size w);unfold lI.f at h;have H:=h;clear h;replace H:=bd H;obtain⟨azg,A3,H⟩:=H;obtain rfl:=s1 H;go_enter func118,ntmps118;go_wp2_with (refine gB func122 (dw.calls (cu HR0.out) vw.out A3.out) ?_;intro w4 hb;replace HB:=bs HB hb;clear hb)
 go_ret;exact⟨er,ul HB.out⟩
def mV.f(k:Nat)(l0:List (fD)):Option (Bool):=if(l0.length:Int)≤20 then((lI.f k l0).bind fun azh=>(some (!azh)))else(some false)
theorem mV.calls{k c0:Nat}{A0:Option Addr}{l0:List (fD)}{r:Bool}{w:World}(hr0:Kd.C rP w A0 l0.length l0)(hc0:l0.length≤c0)(h:mV.f k l0=some r):
  Calls Tryz.prog 82 #[.slice A0 l0.length c0] w fun e w'=>e= .returned (.bool r)∧Below w.heap.size w w':=by
 have HR0:=ak hr0;have vw:=ak hc0;clear hr0 hc0;have HB:=ak (Below.refl w.heap.size w);unfold mV.f at h;have H:=h;clear h;replace H:=sp H;rcases H with⟨c2,H⟩|⟨c2,H⟩
 ·have rQ:=decide_eq_true c2;have y8:decide (l0.length≤20)=true:=decide_eq_true (by omega);clear c2;replace H:=bd H;obtain⟨azh,A3,H⟩:=H;obtain rfl:=s1 H;go_enter func82,ntmps82;go_wp2_with (go_at_call 118;refine mB (lI.calls (cu HR0.out) vw.out A3.out) ?_;intro w4 hb;replace HB:=bs HB hb;clear hb)
  go_ret;exact⟨er,ul HB.out⟩
 ·have rQ:=decide_eq_false c2;have y8:decide (l0.length≤20)=false:=decide_eq_false (by omega);clear c2;obtain rfl:=s1 H;go_enter func82,ntmps82;go_wp2;go_ret;exact⟨er,ul HB.out⟩
mutual
def bg.j0:Nat→ByteArray→Int→Option (List ByteArray)
 |0,_,_=>none
 |k+1,x3,x4=>bg.l0 k x3 x4 (([]:List ByteArray))
def bg.l0:Nat→ByteArray→Int→List ByteArray→Option (List ByteArray)
 |0,_,_,_=>none
 |k+1,x3,x4,x5=>if(x3.size:Int)>40 then(bg.l1 k x3 x5 (-1) x4)else(if x5.length<8796093022208 then(some (x5++[x3]))else(none))
def bg.l1:Nat→ByteArray→List ByteArray→Int→Int→Option (List ByteArray)
 |0,_,_,_,_=>none
 |k+1,x3,x5,x6,x7=>if(wrap64 (x7+1))<(x3.size:Int)then(if 0≤x7 then(if x7<(x3.size:Int)then(if(bt x3 x7)=32 then(if 0≤(wrap64 (x7-1))then(if(wrap64 (x7-1))<(x3.size:Int)then(if(bt x3 (wrap64 (x7-1)))=32 then(bg.l1 k x3 x5 x6 (wrap64 (x7+1)))else(if 0≤(wrap64 (x7+1))then(if(bt x3 (wrap64 (x7+1)))=32 then(bg.l1 k x3 x5 x6 (wrap64 (x7+1)))else(if x6<0 then(bg.l1 k x3 x5 x7 (wrap64 (x7+1)))else(if x7≤40 then(bg.l1 k x3 x5 x7 (wrap64 (x7+1)))else(bg.l1 k x3 x5 x6 (wrap64 (x7+1))))))else(none)))else(none))else(none))else(bg.l1 k x3 x5 x6 (wrap64 (x7+1))))else(none))else(none))else(if x6<0 then(if x5.length<8796093022208 then(some (x5++[x3]))else(none))else(if 0≤x6 then(if x6≤(x3.size:Int)then(if x5.length<8796093022208 then(bg.l0 k (x3.extract (x6:Int).toNat x3.size) 2 (x5++[x3.extract 0 (x6:Int).toNat]))else(none))else(none))else(none)))
end
def bg.f(k:Nat)(fK:ByteArray)(fP:ByteArray):Option (List ByteArray):=if fK.size+1≤9223372036854775807 then(if fP.toList=([]:List UInt8)then(bg.j0 k (fK++(⟨#[58]⟩:ByteArray)) (wrap64 ((fK.size:Int)+3)))else(if 1+fP.size≤9223372036854775807 then(if(fK++(⟨#[58]⟩:ByteArray)).size+((⟨#[32]⟩:ByteArray)++fP).size≤9223372036854775807 then(bg.j0 k ((fK++(⟨#[58]⟩:ByteArray))++((⟨#[32]⟩:ByteArray)++fP)) (wrap64 ((fK.size:Int)+3)))else(none))else(none)))else(none)
theorem bg.calls{k:Nat}{fK fP:ByteArray}{r:List ByteArray}{w:World}(h:bg.f k fK fP=some r):
  Calls Tryz.prog 83 #[.agg #[.string fK, .string fP]] w fun e w'=>∃pW:Value,e= .returned (pW)∧Kd.R Kd.string 9 w' w.heap.size (fun _=>True) pW r∧Below w.heap.size w w':=by
 have Fg:=underlying69;have HB:=ak (Below.refl w.heap.size w);unfold bg.f at h;have H:=h;clear h;replace H:=nn H;obtain⟨c2,H⟩:=H;have rQ:=eq_true c2;have y8:=decide_eq_true c2;try have ajy:(9223372036854775807<fK.size+1)=False:=eq_false (Nat.not_lt.2 c2)
 have QX:=ak H;clear H;go_enter func83,ntmps83;try go_wp2_with (refine bX HB 1 #[.string fK, .string fP] 69 ?_;intro S_ w4 tN aKz hb;replace HB:=bs HB hb;clear hb)
 refine rO [] [0,3,1,2,7,4,5,6,8] (fun w'=>w'.cell? ⟨S_,0,none⟩=some (.string fK)∧w'.cell? ⟨S_,1,none⟩=some (.string fP)) ?_;intro w5 hb;replace tN:=kb tN hb;replace HB:=bs HB hb;refine⟨sx,?_⟩;repeat refine Bv ?_
 refine on ?_;have z6:=Am tN.out;go_upto_if 17 with(fail)
 go_cut [3] (fun v3 wc=>∃(kq:Nat) (nV:ByteArray),v3= .string nV∧ah (bg.j0 kq nV (wrap64 ((fK.size:Int)+3))=some r)∧ah (kq≤k)∧ah (wc.heap[S_]? =some (.cells #[.string fK, .string fP] 69 (0,0)))∧ah (Below w.heap.size w wc))
 case first=>
  have H:=QX.out;clear QX;replace H:=sp H;rcases H with⟨c7,H⟩|⟨c7,H⟩
  ·have sK:=beq_iff_eq.mpr c7;have c7e:(fP.toList).isEmpty=true:=List.isEmpty_iff.mpr c7;have Jy:=bne_eq_false_iff_eq.mpr c7;clear c7
   (first|rw[sK]|(simp only[gU,jP];rw[sK])|skip)
   (first|(rw[c7e];simp only[Bool.not_true,Bool.not_false])|skip);have H':=ak H;clear H;go_wp2;go_meet
   case rel=>exact⟨_,_,rs,H',⟨JB⟩,⟨ub tN.out⟩,⟨bb⟩⟩
  ·have sK:=beq_eq_false_iff_ne.mpr c7;have c7e:(fP.toList).isEmpty=false:=List.isEmpty_eq_false_iff.mpr c7;have Jy:=bne_iff_ne.mpr c7
   (first|rw[sK]|(simp only[gU,jP];rw[sK])|skip)
   (first|(rw[c7e];simp only[Bool.not_true,Bool.not_false])|skip);replace H:=nn H;obtain⟨c8,H⟩:=H;have ru:=eq_true c8;have BI:=decide_eq_true c8;try have axh:(9223372036854775807<1+fP.size)=False:=eq_false (Nat.not_lt.2 c8)
   replace H:=nn H;obtain⟨c9,H⟩:=H;have xG:=eq_true c9;have CG:=decide_eq_true c9;try have aPH:(9223372036854775807<fK.size+1+(1+fP.size))=False:=by have h_:=(eq_false (Nat.not_lt.2 c9):(9223372036854775807<(fK++(⟨#[58]⟩:ByteArray)).size+((⟨#[32]⟩:ByteArray)++fP).size)=False);simp only[ByteArray.size_append]at h_;exact h_
   try have ayr:(9223372036854775807<(fK++(⟨#[58]⟩:ByteArray)).size+((⟨#[32]⟩:ByteArray)++fP).size)=False:=eq_false (Nat.not_lt.2 c9)
   have H':=ak H;clear H;have z10:=Am tN.out;go_wp2;go_meet
   case rel=>exact⟨_,_,rs,H',⟨JB⟩,⟨ub tN.out⟩,⟨bb⟩⟩
 case rest=>
  clear QX;try clear c2
  try clear rQ
  try clear y8
  try clear ajy
  obtain⟨kq,nV,rfl,HA,HJ2,tN,HB⟩:=hcut
  cases kq with
  |zero=>exact zz HA.out
  |succ kj2=>
   obtain⟨H⟩:=HA;simp only[bg.j0]at H;obtain⟨aPI,apW⟩:=nm ([]:List ByteArray);rw[←apW.out]at H;have H':=ak H;clear H;go_wp2_with (refine DR 23 Kd.string 9 apW ?_;intro aPJ X0 ajz hb;have azi:=ak (aC ajz (au bb));replace tN:=kb tN hb;replace HB:=bz HB hb;clear hb ajz)
   go_loopg [3,4,5] kj2 (fun kq v3 v4 v5 w'=>∃(nV:ByteArray) (qZ:Int) (jD:List ByteArray),v3= .string nV∧v4= .int .i64 qZ∧ah (bg.l0 kq nV qZ jD=some r)∧ah (kq≤kj2)∧ah (Kd.R Kd.string 9 w' w.heap.size (fun _=>True) v5 jD)∧ah (w'.heap[S_]? =some (.cells #[.string fK, .string fP] 69 (0,0)))∧ah (Below w.heap.size w w'))
   case atStart=>exact⟨_,_,_,rs,rs,H',⟨Nat.le_refl _⟩,⟨ur azi.out⟩,⟨ub tN.out⟩,⟨bb⟩⟩
   case round=>
    clear H';try clear c2
    try clear rQ
    try clear y8
    try clear ajy
    obtain⟨nV,qZ,jD,rfl,rfl,HA,HK2,ug,tN,HB⟩:=hrel
    cases gk with
    |zero=>exact zz HA.out
    |succ k2=>
     obtain⟨H⟩:=HA;simp only[bg.l0]at H;replace H:=sp H;rcases H with⟨c13,H⟩|⟨c13,H⟩
     ·have xE:decide (40<(nV.size:Int))=true:=decide_eq_true c13;have Bz:decide (40<nV.size)=true:=decide_eq_true (by omega);clear c13;have H':=ak H;clear H;go_wp2;go_loopg [6,7] k2 (fun kq v6 v7 w'=>∃(Hf:Int) (tC:Int),v6= .int .i64 Hf∧v7= .int .i64 tC∧ah (bg.l1 kq nV jD Hf tC=some r)∧ah (kq≤k2)∧ah (Kd.R Kd.string 9 w' w.heap.size (fun _=>True) u5 jD)∧ah (w'.heap[S_]? =some (.cells #[.string fK, .string fP] 69 (0,0)))∧ah (Below w.heap.size w w'))
      case atStart=>exact⟨_,_,rs,rs,H',⟨Nat.le_refl _⟩,⟨ur ug.out⟩,⟨ub tN.out⟩,⟨bb⟩⟩
      case round=>
       clear H';try clear c2
       try clear rQ
       try clear y8
       try clear ajy
       try clear c13
       try clear xE
       try clear Bz
       obtain⟨Hf,tC,rfl,rfl,HA,HK3,ug,tN,HB⟩:=hrel
       cases gk with
       |zero=>exact zz HA.out
       |succ k3=>
        obtain⟨H⟩:=HA;simp only[bg.l1]at H;replace H:=sp H;rcases H with⟨c14,H⟩|⟨c14,H⟩
        ·have uy:=decide_eq_true c14
         (try(have xH:decide ((tC+1)<(nV.size:Int))=true:=decide_eq_true (by have h_:=c14;unfold wrap64 at h_;omega)));clear c14;replace H:=nY H;obtain⟨uz,H⟩:=H;replace H:=nY H;obtain⟨Dw,H⟩:=H;replace H:=sq H;rcases H with⟨Dt,Vo,H⟩|⟨c18,Dt,Vo,H⟩
         ·obtain⟨Zp,ajA⟩:∃j_:Int,(wrap64 (tC-1))=j_:=⟨_,rfl⟩
          replace H:(if 0≤(Zp)then(if(Zp)<(nV.size:Int)then(if(bt nV (Zp))=32 then(bg.l1 k3 nV jD Hf (wrap64 (tC+1)))else(if 0≤(wrap64 (tC+1))then(if(bt nV (wrap64 (tC+1)))=32 then(bg.l1 k3 nV jD Hf (wrap64 (tC+1)))else(if Hf<0 then(bg.l1 k3 nV jD tC (wrap64 (tC+1)))else(if tC≤40 then(bg.l1 k3 nV jD tC (wrap64 (tC+1)))else(bg.l1 k3 nV jD Hf (wrap64 (tC+1))))))else(none)))else(none))else(none))=some r:=by first|(rw[ajA]at H;exact H)|(simp only[ajA]at H⊢;exact H)
          have aGY:(IntKind.i64.wrap (tC-1))=Zp:=(gU _).trans ajA;replace H:=nY H;obtain⟨OA,H⟩:=H;replace H:=nY H;obtain⟨Dx,H⟩:=H;replace H:=sq H;rcases H with⟨EF,SN,H⟩|⟨c23,EF,SN,H⟩
          ·have H':=ak H;clear H;obtain⟨p17,q17,ajB⟩:=bx nV tC;obtain⟨p22,q22,am_⟩:=bx nV (Zp);go_wp2;go_roundg k3
           case measure=>exact kl
           case rel=>exact⟨_,_,rs,rs,H',⟨kl⟩,⟨ur ug.out⟩,⟨ub tN.out⟩,⟨bb⟩⟩
          ·obtain⟨VN,Tc⟩:∃j_:Int,(wrap64 (tC+1))=j_:=⟨_,rfl⟩
           replace H:(if 0≤(VN)then(if(bt nV (VN))=32 then(bg.l1 k3 nV jD Hf VN)else(if Hf<0 then(bg.l1 k3 nV jD tC VN)else(if tC≤40 then(bg.l1 k3 nV jD tC VN)else(bg.l1 k3 nV jD Hf VN))))else(none))=some r:=by first|(rw[Tc]at H;exact H)|(simp only[Tc]at H⊢;exact H)
           (try rw[Tc]at uy);have aGZ:(IntKind.i64.wrap (tC+1))=VN:=(gU _).trans Tc;replace H:=nY H;obtain⟨Ej,H⟩:=H;replace H:=sq H;rcases H with⟨I7,ae8,H⟩|⟨c27,I7,ae8,H⟩
           ·have H':=ak H;clear H;obtain⟨p17,q17,ajB⟩:=bx nV tC;obtain⟨p22,q22,am_⟩:=bx nV (Zp);obtain⟨p26,q26,atT⟩:=bx nV (VN);go_wp2;go_roundg k3
            case measure=>exact kl
            case rel=>exact⟨_,_,rs,(by first|rfl|(simp;done)|(simp only[←Tc]<;>(first|rfl|simp))|(simp[*];done)),H',⟨kl⟩,⟨ur ug.out⟩,⟨ub tN.out⟩,⟨bb⟩⟩
           ·replace H:=sd H;rcases H with⟨JC,H⟩|⟨JC,H⟩
            ·have H':=ak H;clear H;obtain⟨p17,q17,ajB⟩:=bx nV tC;obtain⟨p22,q22,am_⟩:=bx nV (Zp);obtain⟨p26,q26,atT⟩:=bx nV (VN);go_wp2;go_roundg k3
             case measure=>exact kl
             case rel=>exact⟨_,_,rs,(by first|rfl|(simp;done)|(simp only[←Tc]<;>(first|rfl|simp))|(simp[*];done)),H',⟨kl⟩,⟨ur ug.out⟩,⟨ub tN.out⟩,⟨bb⟩⟩
            ·replace H:=sd H;rcases H with⟨ae9,H⟩|⟨ae9,H⟩
             ·have H':=ak H;clear H;obtain⟨p17,q17,ajB⟩:=bx nV tC;obtain⟨p22,q22,am_⟩:=bx nV (Zp);obtain⟨p26,q26,atT⟩:=bx nV (VN);go_wp2;go_roundg k3
              case measure=>exact kl
              case rel=>exact⟨_,_,rs,(by first|rfl|(simp;done)|(simp only[←Tc]<;>(first|rfl|simp))|(simp[*];done)),H',⟨kl⟩,⟨ur ug.out⟩,⟨ub tN.out⟩,⟨bb⟩⟩
             ·have H':=ak H;clear H;obtain⟨p17,q17,ajB⟩:=bx nV tC;obtain⟨p22,q22,am_⟩:=bx nV (Zp);obtain⟨p26,q26,atT⟩:=bx nV (VN);go_wp2;go_roundg k3
              case measure=>exact kl
              case rel=>exact⟨_,_,rs,(by first|rfl|(simp;done)|(simp only[←Tc]<;>(first|rfl|simp))|(simp[*];done)),H',⟨kl⟩,⟨ur ug.out⟩,⟨ub tN.out⟩,⟨bb⟩⟩
         ·have H':=ak H;clear H;obtain⟨p17,q17,ajB⟩:=bx nV tC;go_wp2;go_roundg k3
          case measure=>exact kl
          case rel=>exact⟨_,_,rs,rs,H',⟨kl⟩,⟨ur ug.out⟩,⟨ub tN.out⟩,⟨bb⟩⟩
        ·have uy:=decide_eq_false c14
         (try(have xH:decide ((tC+1)<(nV.size:Int))=false:=decide_eq_false (by have h_:=c14;unfold wrap64 at h_;omega)));clear c14;replace H:=sd H;rcases H with⟨ae_,H⟩|⟨ae_,H⟩
         ·replace H:=nl H;obtain⟨abh,H⟩:=H;obtain⟨aPK,apX⟩:=nm (jD++[nV]);rw[←apX.out]at H;obtain rfl:=s1 H;go_wp2_with ((with_reducible refine bP (b:= .append) (xs:=#[.tmp 73, .tmp 75]) rfl ?_);at_builtin;refine oh Kd.string (w0:=w) w.heap.size rfl (.tmp 73) (.tmp 75) 23 9 (.string ⟨#[]⟩) 16 rfl underlying23 info9 rfl (by decide) (by omega) u5 jD nV [.string nV] (fun _=>True) (fun _=>False) rfl rfl ?aP (fun _ hk=>hk.elim) ?aF ?aO ?aB ?aS ?aL ?_;(case aP=>exact rfl);(case aB=>exact bb);(case aF=>exact(fun _ _=>trivial));(case aO=>exact(ur ug.out));(case aS=>exact(au bb));(case aL=>have:=abh.out;omega);intro aPL w32 ho hb hg hat;rw[←apX.out]at ho;have azj:=ak (ho);replace tN:=ak (fB (g:=S_) (o:= .cells #[.string fK, .string fP] 69 (0,0)) (ub tN.out) hg (vS ug.out tN.out (by decide)));replace HB:=ak (hb);clear ho hb hg hat ug)
          go_ret;exact⟨_,er,ur azj.out,bb⟩
         ·replace H:=zh H;obtain⟨Yh,aiO,H⟩:=H;replace H:=zh H;obtain⟨aa0,aiT,H⟩:=H;replace H:=nl H;obtain⟨ajm,H⟩:=H;obtain⟨aPM,apY⟩:=nm (jD++[nV.extract 0 (Hf:Int).toNat]);rw[←apY.out]at H;have ajC:=eq_true (of_decide_eq_true (by assumption):0≤Hf);have apZ:=eq_true (of_decide_eq_true (by assumption):Hf≤(nV.size:Int));have H':=ak H;clear H;try go_wp2
          replace ug:=ak (uh ug.out);replace tN:=ak (pG tN.out);replace HB:=ak (jG HB.out);refine ro [4,5] [0,1,2,3,6,7,8,4,5,9,10,11] (fun w'=>True) trivial ?_
          generalize wr.drew=w38 at ug tN HB⊢
          repeat refine Bv ?_
          refine ld (N:=some 68) (gk.trans rfl) rfl rfl (fun K hK=>?_);refine Q_ (w1:=?_) (v:=?_) (by rfl) rfl ?_ ?_
          rotate_left 2
          ·go_simp;constructor
           ·rfl
           ·rfl
          refine hK.out _ _ trivial ?_;clear hK K;refine no (a':=?_) ?_ ?_
          rotate_left
          ·show Act.put _ (some 68) _=_
           simp only[Act.put,C_,Dc,l_c,gU,jP];rfl
          refine ld (N:=some 69) (gk.trans rfl) rfl rfl (fun K hK=>?_);refine xU Kd.string (w0:=w) w.heap.size (by rfl) (.tmp 64) (.tmp 68) 23 9 (.string ⟨#[]⟩) 16 rfl underlying23 info9 rfl (by decide) (by omega) u5 jD (nV.extract 0 (Hf:Int).toNat) [.string (nV.extract 0 (Hf:Int).toNat)] (fun _=>True) (fun _=>False) rfl rfl ?aP (fun _ hk=>hk.elim) ?aF ?aO ?aB ?aS ?aL ?_
          (case aP=>exact rfl)
          (case aB=>exact bb)
          (case aF=>exact(fun _ _=>trivial))
          (case aO=>exact(ur ug.out))
          (case aS=>exact(au bb))
          (case aL=>have:=ajm.out;omega);intro aPN w39 ho hb hg hat
          rw[←apY.out]at ho;have Eo:=ak (fB (g:=S_) (o:= .cells #[.string fK, .string fP] 69 (0,0)) (ub tN.out) hg (vS ug.out tN.out (by decide)));have Ep:=ak (hb);have G6:=ak (ho);clear tN HB ug;have tN:=Eo;have HB:=Ep;have azk:=G6;clear Eo Ep G6 ho hb hg hat
          refine hK.out _ _ trivial ?_;clear hK K;refine no (a':=?_) ?_ ?_
          rotate_left
          ·show Act.put _ (some 69) _=_
           simp only[Act.put,C_,Dc,l_c,gU,jP];rfl
          repeat refine Bv ?_
          refine on ?_;try go_wp2
          go_roundg k3
          case measure=>exact kl
          case rel=>exact⟨_,_,_,rs,rs,H',⟨kl⟩,⟨ur azk.out⟩,⟨ub tN.out⟩,⟨bb⟩⟩
     ·have xE:decide (40<(nV.size:Int))=false:=decide_eq_false c13;have Bz:decide (40<nV.size)=false:=decide_eq_false (by omega);clear c13;replace H:=nl H;obtain⟨abe,H⟩:=H;obtain⟨aPO,ap0⟩:=nm (jD++[nV]);rw[←ap0.out]at H;obtain rfl:=s1 H;go_wp2_with ((with_reducible refine bP (b:= .append) (xs:=#[.tmp 73, .tmp 75]) rfl ?_);at_builtin;refine oh Kd.string (w0:=w) w.heap.size rfl (.tmp 73) (.tmp 75) 23 9 (.string ⟨#[]⟩) 16 rfl underlying23 info9 rfl (by decide) (by omega) u5 jD nV [.string nV] (fun _=>True) (fun _=>False) rfl rfl ?aP (fun _ hk=>hk.elim) ?aF ?aO ?aB ?aS ?aL ?_;(case aP=>exact rfl);(case aB=>exact bb);(case aF=>exact(fun _ _=>trivial));(case aO=>exact(ur ug.out));(case aS=>exact(au bb));(case aL=>have:=abe.out;omega);intro aPP w41 ho hb hg hat;rw[←ap0.out]at ho;have azl:=ak (ho);replace tN:=ak (fB (g:=S_) (o:= .cells #[.string fK, .string fP] 69 (0,0)) (ub tN.out) hg (vS ug.out tN.out (by decide)));replace HB:=ak (hb);clear ho hb hg hat ug)
      go_ret;exact⟨_,er,ur azl.out,bb⟩
def ku.l0:Nat→List ByteArray→List (fD)→Int→Int→Option (List ByteArray×Bool)
 |0,_,_,_,_=>none
 |k+1,x4,x11,x12,Fe=>if Fe<x12 then(if 0≤Fe then(if Fe<(x11.length:Int)then((bg.f k ((eU x11 Fe).f0) ((eU x11 Fe).f1)).bind fun ag6=>(if x4.length+ag6.length<8796093022208 then(ku.l0 k (x4++ag6) x11 x12 (wrap64 (Fe+1)))else(none)))else(none))else(none))else(some (x4,true))
def ku.f(k:Nat)(l0:List (fD)):Option (List ByteArray×Bool):=(mV.f k l0).bind fun azm=>(if azm=true then(ku.l0 k (([]:List ByteArray)) l0 (l0.length:Int) 0)else(some (([]:List ByteArray),false)))
theorem ku.calls{k c0:Nat}{A0:Option Addr}{l0:List (fD)}{r1:List ByteArray}{r2:Bool}{w:World}(hr0:Kd.C rP w A0 l0.length l0)(hc0:l0.length≤c0)(h:ku.f k l0=some (r1,r2)):
  Calls Tryz.prog 39 #[.slice A0 l0.length c0] w fun e w'=>∃pW:Value,e= .returned (.tuple #[pW, .bool r2])∧Kd.R Kd.string 9 w' w.heap.size (fun _=>True) pW r1∧Below w.heap.size w w':=by
 have Fg:=underlying69;have HR0:=ak hr0;have vw:=ak hc0;clear hr0 hc0;have HB:=ak (Below.refl w.heap.size w);unfold ku.f at h;have H:=h;clear h;replace H:=bd H;obtain⟨azm,A2,H⟩:=H;replace H:=sb H;rcases H with⟨rfl,H⟩|⟨rfl,H⟩
 ·obtain⟨aPQ,ap1⟩:=nm ([]:List ByteArray);rw[←ap1.out]at H;have H':=ak H;clear H;go_enter func39,ntmps39;go_wp2_with (first|(refine gB func82 (mV.calls (cu HR0.out) vw.out A2.out) ?_;intro w4 hb;replace HB:=bs HB hb;clear hb)|(refine DR 10 Kd.string 9 ap1 ?_;intro aPR w5 Ur hb;have azn:=ak (aC Ur (au (ul HB.out)));replace HB:=bs HB hb;clear hb Ur))
  go_loopg [4,13] k (fun kq v4 v13 w'=>∃(dI:List ByteArray) (mW:Int),v13= .int .i64 mW∧ah (ku.l0 kq dI l0 (l0.length:Int) mW=some (r1,r2))∧ah (kq≤k)∧ah (Kd.R Kd.string 9 w' w.heap.size (fun _=>True) v4 dI)∧ah (Below w.heap.size w w'))
  case atStart=>exact⟨_,_,rs,H',⟨Nat.le_refl _⟩,⟨ur azn.out⟩,⟨ul HB.out⟩⟩
  case round=>
   clear H';obtain⟨dI,mW,rfl,HA,yN,bT,HB⟩:=hrel
   cases gk with
   |zero=>exact zz HA.out
   |succ k1=>
    obtain⟨H⟩:=HA;simp only[ku.l0]at H;replace H:=sd H;rcases H with⟨sK,H⟩|⟨sK,H⟩
    ·replace H:=nY H;obtain⟨ru,H⟩:=H;replace H:=nY H;obtain⟨xG,H⟩:=H;replace H:=bd H;obtain⟨ag6,A10,H⟩:=H;replace H:=nl H;obtain⟨VF,H⟩:=H;obtain⟨aPS,ap2⟩:=nm (dI++ag6);rw[←ap2.out]at H;have H':=ak H;clear H;have atU:=zi mW;have atV:=zj mW l0.length;obtain⟨aKA,aG0,afr,afs⟩:=su HR0.out mW atU atV;cases aG0;replace afr:=cl HB.out afr;replace afs:=cl HB.out afs;replace atU:=eq_true atU;replace atV:=eq_true atV;go_wp2_with (first|(refine bX HB 6 #[.string (⟨#[]⟩:ByteArray), .string (⟨#[]⟩:ByteArray)] 69 ?_;intro azo w12 Yu aKB hb;replace bT:=rb bT hb;replace HB:=bs HB hb;clear hb;have z13:=Am Yu.out)|(refine gV func83 (bg.calls A10.out) ?_;rintro aPT Xv ⟨ho0,hb⟩;have abj:=ak (aC (dA ho0 (jC (rh bT))) (au bb));replace bT:=ak (dM (rh bT) (bZ ho0) hb);replace Yu:=kp Yu #[.string ((eU l0 mW).f0), .string ((eU l0 mW).f1)] hb;replace HB:=bz HB hb;clear hb;(try clear ho0);obtain⟨OD,MR,MS⟩:=aI abj.out;subst MS)|((with_reducible refine bP (b:= .append) (xs:=#[.tmp 17, .tmp 19]) rfl ?_);at_builtin;refine pz Kd.string (w0:=w) w.heap.size rfl (.tmp 17) (.tmp 19) 23 9 (.string ⟨#[]⟩) 16 rfl underlying23 info9 rfl (by decide) (by omega) u4 dI ag6 _ _ _ (fun k_=>some k_≠(.slice OD ag6.length MR:Value).ownBlock) (fun _=>False) rfl rfl ?aO ?aR (fun _ _ h=>h) (fun _ h=>h.elim) ?aF ?aB ?aS ?aL ?_;(case aR=>repeat(first|exact(aj abj.out).2.2|(with_reducible refine Kd.nR ?_ _)|(with_reducible refine Kd.nS ?_ _)|(with_reducible refine Kd.qJ ?_)));(case aB=>exact bb);(case aF=>exact(fun k_ hk=>Kd.fresh' (jC (ur abj.out)) k_ hk));(case aO=>exact(ur (ay bT.out (fun _ hk=>hk.2))));(case aS=>exact(au bb));(case aL=>have:=VF.out;omega);intro aPU w15 ho hb hg hat;rw[←ap2.out]at ho;have azp:=ak (ho);replace Yu:=ak (fB (g:=azo) (o:= .cells #[.string ((eU l0 mW).f0), .string ((eU l0 mW).f1)] 69 (0,0)) (ub Yu.out) hg (vS bT.out Yu.out (by decide)));replace abj:=ak (Ih (ok:=(fun _=>True)) (ur abj.out) hg hat);replace HB:=ak (hb);clear ho hb hg hat bT))
     go_roundg k1
     case measure=>exact kl
     case rel=>exact⟨_,_,rs,H',⟨kl⟩,⟨ur (ay azp.out (fun _ hk=>trivial))⟩,⟨bb⟩⟩
    ·obtain⟨rfl,rfl⟩:=s2 H;go_wp2;go_ret2;exact⟨_,er,ur bT.out,ul HB.out⟩
 ·obtain⟨rfl,rfl⟩:=s2 H;go_enter func39,ntmps39;go_wp2_with (refine gB func82 (mV.calls (cu HR0.out) vw.out A2.out) ?_;intro w17 hb;replace HB:=bs HB hb;clear hb)
  go_ret2;exact⟨_,er,nx,ul HB.out⟩
def jS.f(a0:ByteArray):Option (ByteArray):=if a0.size≤140737488355328 then some (strOfNums ((bytesOf a0).map XB))else none
set_option maxHeartbeats 1000000 in
set_option maxRecDepth 100000 in
theorem jS.calls{a0 r:ByteArray}{w:World}(h:jS.f a0=some r):
  Calls Tryz.prog 93 #[.string a0] w fun e w'=>e= .returned (.string r)∧Below w.heap.size w w':=by
 unfold jS.f at h;split at h
 ·rename_i hb
  injection h with h;subst h;have kb:=fun W=>SK (P:=Tryz.prog) 9 22 5 underlying9 underlying22 underlying5 a0 W
  go_enter func93,ntmps93;go_wp2;go_loopw [10] (fun i W=>∃k:Nat,k≤a0.size∧i= .int .i64 k∧QV w w.heap.size (Jp (bytesOf a0) k) W) (fun i _=>a0.size-(intOf i).toNat)
  case atStart=>exact⟨0,Nat.zero_le _,rfl,by simpa [Jp] using Oz w 5 a0⟩
  case round=>
   obtain⟨k,hk,rfl,hR⟩:=hrel;have HR:=ak hR;by_cases hlt:k<a0.size
   ·have hc:=hR.cell k (by rw[oQ,bytesOf_length];exact hlt);have hf:=hR.free k (by rw[oQ,bytesOf_length];exact hlt);rw[Zd _ _ (by rw[bytesOf_length];exact hlt)]at hc;clear hR;have hr:=LQ a0 k;have hs:=ak (Yb (bytesOf a0) k (by rw[bytesOf_length];exact hlt));have hu:=ak (QW (bytesOf a0) k (by rw[bytesOf_length];exact hlt))
    generalize (bytesOf a0).getD k 0=c at hc hr hs hu
    go_wp2
    ·go_roundw
     case rel=>exact⟨k+1,by omega,by go_num,by
      rw[hu.out,XB,if_pos ⟨by omega,by omega⟩];exact HR.out.store (Nat.le_refl _) k (by rw[oQ,bytesOf_length];exact hlt) _⟩
     case measure=>simp[intOf];omega
    ·go_roundw
     case rel=>exact⟨k+1,by omega,by go_num,by rw[hs.out (by omega)];exact HR.out⟩
     case measure=>simp[intOf];omega
    ·go_roundw
     case rel=>exact⟨k+1,by omega,by go_num,by rw[hs.out (by omega)];exact HR.out⟩
     case measure=>simp[intOf];omega
   ·clear hR
    have kd:=run_convert_bytes_arg (P:=Tryz.prog) wr 22 5 underlying22 underlying5 w.heap.size 0 a0.size (grownCap w a0.size 0 5) (Jp (bytesOf a0) k) (by rw[oQ,bytesOf_length]) (fun i hi=>by
     rw[Nat.zero_add];exact HR.out.cell i (by rw[oQ,bytesOf_length];exact hi)) 9 underlying9
    go_wp2;go_ret;have hk2:k=a0.size:=by omega
    exact⟨by rw[hk2,aaT (bytesOf a0) a0.size (bytesOf_length a0)];rfl,HR.out.below⟩
 ·cases h
def vV.f(a0:ByteArray)(a1:ByteArray):Option (Bool):=(jS.f a0).bind fun azq=>((jS.f a1).bind fun azr=>(some (azq.toList==azr.toList)))
theorem vV.calls{a0 a1:ByteArray}{r:Bool}{w:World}(h:vV.f a0 a1=some r):
  Calls Tryz.prog 124 #[.string a0, .string a1] w fun e w'=>e= .returned (.bool r)∧Below w.heap.size w w':=by
 have HB:=ak (Below.refl w.heap.size w);unfold vV.f at h;have H:=h;clear h;replace H:=bd H;obtain⟨azq,A3,H⟩:=H;replace H:=bd H;obtain⟨azr,A4,H⟩:=H;obtain rfl:=s1 H;go_enter func124,ntmps124;go_wp2_with (first|(refine gB func93 (jS.calls A3.out) ?_;intro w5 hb;replace HB:=bs HB hb;clear hb)|(refine gB func93 (jS.calls A4.out) ?_;intro w6 hb;replace HB:=bs HB hb;clear hb))
 go_ret;exact⟨er,ul HB.out⟩
end Go.Proofs.YtncdadcmghglkaaGreatDoor.PFnParseBody
