/- Printed walks; conditions: those in each statement. -/
import Derived.Test.YtncdadcmghglkaaGreatDoorVFnExactFormatPartQt
import Derived.Test.YtncdadcmghglkaaGreatDoorVFnExactFormatPartYt
import Derived.Test.YtncdadcmghglkaaGreatDoorPFnExactFormatPartx0
import Derived.Test.YtncdadcmghglkaaGreatDoorPFnExactFormatPartx2
namespace Go.Proofs.YtncdadcmghglkaaGreatDoor.PFnExactFormatPart
open Go.RowKit Go.Proofs.YtncdadcmghglkaaGreatDoor.X Go.Proofs.YtncdadcmghglkaaGreatDoorW.dB Go.Proofs.YtncdadcmghglkaaGreatDoorW.iy Go.Proofs.YtncdadcmghglkaaGreatDoorW.jo
attribute [local go_sem] lU lV oh oq kJ kK lW lX   -- for this text's walks alone
set_option linter.unusedVariables false
set_option linter.unusedSimpArgs false
def nP.f(aY:ByteArray)(bf:ByteArray)(a1:ByteArray):Option (Bool):=(pO.f aY a1).bind fun aey=>(some aey)
set_option maxHeartbeats 8000000 in
set_option maxRecDepth 100000 in
theorem nP.calls(aY:ByteArray)(bf:ByteArray)(gq1:Nat)(a1:ByteArray)(r:Bool)(w:World)(hq1:w.heap[gq1]? =some (.cells #[.string a1] 9 (0,0)))(h:nP.f aY bf a1=some r):
  Calls Tryz.prog 123 #[.agg #[.string aY, .string bf], .pointer (some ⟨gq1,0,none⟩)] w fun e w'=>e= .returned (.bool r)∧Below w.heap.size w w':=by
 have Dq:=Tryz.underlying69;have sQ:=ak hq1;clear hq1;have HB:=ak (Below.refl w.heap.size w);have H:((pO.f aY a1).bind fun aey=>(some aey))=some r:=h;clear h;replace H:=bd H;obtain⟨aey,A3,H⟩:=H;obtain rfl:=Option.some.inj H;go_enter Tryz.func123,Tryz.ntmps123;go_wp2_with (first|(refine bE 2 #[.string aY, .string bf] 69 ?_;intro aaW hg w4 hbox hb;have aez:=ak (hbox);have axG:=ak ((by rw[hg];exact(aA bb):w.heap.size≤aaW));have axH:=ak ((by rw[hg];exact(aA bb):w.heap.size≤aaW));have aeA:=ak ((by rw[hg];exact Nat.ne_of_lt (fC (ub sQ.out)):gq1≠aaW));have aeB:=ak ((by rw[hg];exact Nat.ne_of_gt (fC (ub sQ.out)):aaW≠gq1));replace sQ:=kb sQ hb;replace HB:=ak (aG bb hb);clear hb hbox hg;have auO:=aeB.out;have auP:=aeA.out;obtain⟨yu,yw,yx,yA⟩:=wO aez.out;have DT:w4.cell? ⟨gq1,0,none⟩=some (.string a1):=(aI sQ.out 0).trans rfl;have DW:=kE sQ.out 0)|(refine gL 124 7 Tryz.func124 #[.string aY, .string a1] ?_;(with_reducible refine(pO.calls aY a1 aey _ A3.out).mono ?_);rintro e w8 ⟨rfl,hb⟩;refine⟨_,rfl,?_⟩;replace sQ:=kb sQ hb;replace aez:=kb aez hb;replace HB:=ak (aG bb hb);(try clear hb)))
 go_ret;exact⟨er,bb⟩
def dP.l0:Nat→List (jl)→Int→Int→ByteArray→Option (Int)
 |0,_,_,_,_=>none
 |k+1,x0,x7,x8,PO=>if x8<x7 then(if 0≤x8 then(if x8<(x0.length:Int)then((nP.f ((aH x0 x8).f0) ((aH x0 x8).f1) PO).bind fun t146=>(if t146=true then(some x8)else(dP.l0 k x0 x7 (wrap64 (x8+1)) PO)))else(none))else(none))else(some (-1))
def dP.f(k:Nat)(l0:List (jl))(sO:ByteArray):Option (Int):=dP.l0 k l0 (l0.length:Int) 0 sO
set_option maxHeartbeats 8000000 in
set_option maxRecDepth 100000 in
theorem dP.calls(k:Nat)(A0:Option Addr)(c0:Nat)(l0:List (jl))(yK:Nat)(sO:ByteArray)(r:Int)(w:World)(hr0:Kd.C pV w A0 l0.length l0)(hc0:l0.length≤c0)(MR:w.heap[yK]? =some (.cells #[.string sO] 9 (0,0)))(h:dP.f k l0 sO=some r):
  Calls Tryz.prog 122 #[.slice A0 l0.length c0, .func (.func 123) #[] #[.pointer (some ⟨yK,0,none⟩)]] w fun e w'=>e= .returned (.int .i64 r)∧Below w.heap.size w w':=by
 have Dq:=Tryz.underlying69;have HR0:=ak hr0;have wJ:=ak hc0;clear hr0 hc0;have sQ:=ak MR;clear MR;have HB:=ak (Below.refl w.heap.size w);have H:(dP.l0 k l0 (l0.length:Int) 0 sO)=some r:=h;clear h;have H':=ak H;clear H;go_enter Tryz.func122,Tryz.ntmps122;go_wp2;go_loopg [8] k (fun kq v8 w'=>∃(iE:Int),v8= .int .i64 iE∧ah (dP.l0 kq l0 (l0.length:Int) iE sO=some r)∧ah (kq≤k)∧ah (w'.heap[yK]? =some (.cells #[.string sO] 9 (0,0)))∧ah (Below w.heap.size w w'))
 case atStart=>exact⟨(0),rs,H',⟨Nat.le_refl _⟩,⟨ub sQ.out⟩,⟨bb⟩⟩
 case round=>
  clear H';try clear q1
  try clear c2
  try clear p2
  obtain⟨iE,rfl,HA,iC,sQ,HB⟩:=hrel
  cases gk with
  |zero=>exact absurd HA.out (by simp[dP.l0])
  |succ k1=>
   have H:=HA.out;clear HA;simp only[dP.l0]at H;replace H:=sd H;rcases H with⟨fM,H⟩|⟨fM,H⟩
   ·replace H:=og H;obtain⟨nM,H⟩:=H;replace H:=og H;obtain⟨pU,H⟩:=H;replace H:=bd H;obtain⟨t146,A6,H⟩:=H;replace H:=sb H;rcases H with⟨rfl,H⟩|⟨rfl,H⟩
    ·obtain rfl:=Option.some.inj H;have Yx:=zi iE;have Yy:=zj iE l0.length;obtain⟨aqk,amK,JV,JW⟩:=nC HR0.out iE Yx Yy;cases amK;replace JV:=cl HB.out JV;replace JW:=cl HB.out JW;replace Yx:=eq_true Yx;replace Yy:=eq_true Yy;go_wp2_with (first|(go_at_call 123;(with_reducible refine(nP.calls ((aH l0 iE).f0) ((aH l0 iE).f1) yK sO true _ (ub sQ.out) A6.out).mono ?_);rintro e w8 ⟨rfl,hb⟩;replace sQ:=kb sQ hb;replace HB:=ak (aG bb hb);(try clear hb)))
     go_ret;exact⟨er,bb⟩
    ·have H':=ak H;clear H;have Yx:=zi iE;have Yy:=zj iE l0.length;obtain⟨aqk,amK,JV,JW⟩:=nC HR0.out iE Yx Yy;cases amK;replace JV:=cl HB.out JV;replace JW:=cl HB.out JW;replace Yx:=eq_true Yx;replace Yy:=eq_true Yy;go_wp2_with (first|(go_at_call 123;(with_reducible refine(nP.calls ((aH l0 iE).f0) ((aH l0 iE).f1) yK sO false _ (ub sQ.out) A6.out).mono ?_);rintro e w9 ⟨rfl,hb⟩;replace sQ:=kb sQ hb;replace HB:=ak (aG bb hb);(try clear hb)))
     go_roundg k1
     case measure=>have:=iC.out;omega
     case rel=>exact⟨(wrap64 (iE+1)),rs,H',⟨by have:=iC.out;omega⟩,⟨ub sQ.out⟩,⟨bb⟩⟩
   ·obtain rfl:=Option.some.inj H;go_wp2;go_ret;exact⟨er,bb⟩
def jU.f(k:Nat)(l0:List (jl))(a1:ByteArray):Option (Int):=(dP.f k l0 a1).bind fun t148=>(some t148)
set_option maxHeartbeats 8000000 in
set_option maxRecDepth 100000 in
theorem jU.calls(k:Nat)(A0:Option Addr)(c0:Nat)(l0:List (jl))(a1:ByteArray)(r:Int)(w:World)(hr0:Kd.C pV w A0 l0.length l0)(hc0:l0.length≤c0)(h:jU.f k l0 a1=some r):
  Calls Tryz.prog 88 #[.slice A0 l0.length c0, .string a1] w fun e w'=>e= .returned (.int .i64 r)∧Below w.heap.size w w':=by
 have HR0:=ak hr0;have wJ:=ak hc0;clear hr0 hc0;have HB:=ak (Below.refl w.heap.size w);have H:((dP.f k l0 a1).bind fun t148=>(some t148))=some r:=h;clear h;replace H:=bd H;obtain⟨t148,A3,H⟩:=H;obtain rfl:=Option.some.inj H;go_enter Tryz.func88,Tryz.ntmps88;go_wp2_with (first|(refine bE 3 #[.string a1] 9 ?_;intro aj0 hg w4 hbox hb;have aeC:=ak (hbox);have axI:=jY HB hg;have axJ:=jY HB hg;replace HB:=bs HB hb;clear hb hbox hg)|(refine gL 122 7 Tryz.func122 #[.slice A0 l0.length c0, .func (.func 123) #[] #[.pointer (some ⟨aj0,0,none⟩)]] ?_;(with_reducible refine(dP.calls k _ _ l0 aj0 a1 t148 _ (cu (Kd.aN HR0.out HB.out)) wJ.out (ub aeC.out) A3.out).mono ?_);rintro e w5 ⟨rfl,hb⟩;refine⟨_,rfl,?_⟩;replace aeC:=kb aeC hb;replace HB:=ak (aG bb hb);(try clear hb)))
 go_ret;exact⟨er,bb⟩
def lg.f(k:Nat)(l0:List (jl))(a1:ByteArray):Option (ByteArray×Bool):=(jU.f k l0 a1).bind fun H_=>(if H_<0 then(some ((⟨#[]⟩:ByteArray),false))else(if 0≤H_ then(if H_<(l0.length:Int)then(some ((aH l0 H_).f1,true))else(none))else(none)))
set_option maxHeartbeats 8000000 in
set_option maxRecDepth 100000 in
theorem lg.calls(k:Nat)(A0:Option Addr)(c0:Nat)(l0:List (jl))(a1:ByteArray)(r1:ByteArray)(r2:Bool)(w:World)(hr0:Kd.C pV w A0 l0.length l0)(hc0:l0.length≤c0)(h:lg.f k l0 a1=some (r1,r2)):
  Calls Tryz.prog 47 #[.slice A0 l0.length c0, .string a1] w fun e w'=>e= .returned (.tuple #[.string r1, .bool r2])∧Below w.heap.size w w':=by
 have HR0:=ak hr0;have wJ:=ak hc0;clear hr0 hc0;have HB:=ak (Below.refl w.heap.size w);have H:((jU.f k l0 a1).bind fun H_=>(if H_<0 then(some ((⟨#[]⟩:ByteArray),false))else(if 0≤H_ then(if H_<(l0.length:Int)then(some ((aH l0 H_).f1,true))else(none))else(none))))=some (r1,r2):=h;clear h;replace H:=bd H;obtain⟨H_,A3,H⟩:=H;replace H:=sd H;rcases H with⟨nM,H⟩|⟨nM,H⟩
 ·simp only[Option.some.injEq,Prod.mk.injEq]at H;obtain⟨rfl,rfl⟩:=H;go_enter Tryz.func47,Tryz.ntmps47;go_wp2_with (first|(refine gL 88 9 Tryz.func88 #[.slice A0 l0.length c0, .string a1] ?_;(with_reducible refine(jU.calls k _ _ l0 a1 H_ _ (cu HR0.out) wJ.out A3.out).mono ?_);rintro e w5 ⟨rfl,hb⟩;refine⟨_,rfl,?_⟩;replace HB:=bs HB hb;(try clear hb)))
  go_ret2;exact⟨er,ul HB.out⟩
 ·replace H:=og H;obtain⟨mW,H⟩:=H;replace H:=og H;obtain⟨oJ,H⟩:=H;simp only[Option.some.injEq,Prod.mk.injEq]at H;obtain⟨rfl,rfl⟩:=H;go_enter Tryz.func47,Tryz.ntmps47;go_wp2_with (first|(refine gL 88 9 Tryz.func88 #[.slice A0 l0.length c0, .string a1] ?_;(with_reducible refine(jU.calls k _ _ l0 a1 H_ _ (cu HR0.out) wJ.out A3.out).mono ?_);rintro e w8 ⟨rfl,hb⟩;refine⟨_,rfl,?_⟩;replace HB:=bs HB hb;(try clear hb);have amL:0≤(H_:Int):=of_decide_eq_true (by assumption);have amM:H_<(l0.length:Int):=of_decide_eq_true (by assumption);obtain⟨axK,avj,UE,UF⟩:=nC HR0.out H_ amL amM;cases avj;replace UE:=(HB.out.cell (World.block_lt_of_cell? w _ UE)).trans UE;replace UF:=(HB.out.cell (World.block_lt_of_cell? w _ UF)).trans UF;replace amL:=eq_true amL;replace amM:=eq_true amM))
  go_ret2;exact⟨er,ul HB.out⟩
def iL.l0:Nat→ByteArray→List Int→Int→Option (ByteArray×Int×Bool)
 |0,_,_,_=>none
 |k+1,x0,x5,x6=>if x6<(x0.size:Int)then(if 0≤x6 then(if(bt x0 x6)=34 then(some (strOfNums x5,wrap64 (x6+1),true))else(if(bt x0 x6)=92 then(if(wrap64 (x6+1))=(x0.size:Int)then(some ((⟨#[]⟩:ByteArray),0,false))else(if 0≤(wrap64 (x6+1))then(if(wrap64 (x6+1))<(x0.size:Int)then(if x5.length<140737488355328 then(iL.l0 k x0 (x5++[bt x0 (wrap64 (x6+1))]) (wrap64 ((wrap64 (x6+1))+1)))else(none))else(none))else(none)))else(if x5.length<140737488355328 then(iL.l0 k x0 (x5++[bt x0 x6]) (wrap64 (x6+1)))else(none))))else(none))else(some ((⟨#[]⟩:ByteArray),0,false))
def iL.f(k:Nat)(a0:ByteArray):Option (ByteArray×Int×Bool):=iL.l0 k a0 (([]:List Int)) 1
set_option maxHeartbeats 8000000 in
set_option maxRecDepth 100000 in
theorem iL.calls(k:Nat)(a0:ByteArray)(r1:ByteArray)(r2:Int)(r3:Bool)(w:World)(h:iL.f k a0=some (r1,r2,r3)):
  Calls Tryz.prog 134 #[.string a0] w fun e w'=>e= .returned (.tuple #[.string r1, .int .i64 r2, .bool r3])∧Below w.heap.size w w':=by
 have HB:=ak (Below.refl w.heap.size w);have H:(iL.l0 k a0 (([]:List Int)) 1)=some (r1,r2,r3):=h;clear h;obtain⟨y151,aeD⟩:=nm ([]:List Int);rw[←aeD.out]at H
 (try rw[Option.bind_some]at H);have H':=ak H;clear H;go_enter Tryz.func134,Tryz.ntmps134;go_wp2_with (first|((with_reducible refine bU (N:=7) rfl ?_);refine Kd.qg (Kd.int .u8) _ 5 ?hg (N:=7) ?hd (xs:=([]:List Int)) (inner:=[]) (ok:=fun _=>True) (pz:=fun _=>True) ?hr ?hp (fun _ hk=>hk) trivial (Below.refl _ _) (Nat.le_refl _) (by simp) ?_;(case hd=>rfl);(case hg=>rfl);(case hr=>first|(go_simp;done)|(go_simp;rfl));(case hp=>exact(iF.none _ _));intro v152 w2 ho3 hb rQ jw;clear rQ jw;(first|rw[←aeD.out]at ho3|(simp only[Int.reduceToNat]at ho3;rw[←aeD.out]at ho3));have aql:=ak (Kd.fA ho3 (aA (ul HB.out)));replace HB:=bs HB hb;clear hb ho3))
 go_loopg [5,6] k (fun kq v5 v6 w'=>∃(aK:List Int) (jX:Int),v6= .int .i64 jX∧ah (iL.l0 kq a0 aK jX=some (r1,r2,r3))∧ah (kq≤k)∧ah (Kd.R (Kd.int .u8) 5 w' w.heap.size (fun _=>True) v5 aK)∧ah (Below w.heap.size w w'))
 case atStart=>exact⟨(y151),(1),rs,H',⟨Nat.le_refl _⟩,⟨ur aql.out⟩,⟨ul HB.out⟩⟩
 case round=>
  clear H';try clear c1
  try clear p2
  obtain⟨aK,jX,rfl,HA,iC,qY,HB⟩:=hrel
  cases gk with
  |zero=>exact absurd HA.out (by simp[iL.l0])
  |succ k1=>
   have H:=HA.out;clear HA;simp only[iL.l0]at H;replace H:=sd H;rcases H with⟨nM,H⟩|⟨nM,H⟩
   ·replace H:=og H;obtain⟨pU,H⟩:=H;replace H:=sq H;rcases H with⟨oJ,EH,H⟩|⟨c7,oJ,EH,H⟩
    ·simp only[Option.some.injEq,Prod.mk.injEq]at H;obtain⟨rfl,rfl,rfl⟩:=H;obtain⟨p6,q6,hx6⟩:=bx a0 jX;have azW:=zL (P:=Tryz.prog) Tryz.underlying22 Tryz.underlying5 Tryz.underlying9 (Kd.zM qY.out);go_wp2;go_ret3;exact⟨er,ul HB.out⟩
    ·replace H:=sq H;rcases H with⟨qj,vI,H⟩|⟨c10,qj,vI,H⟩
     ·replace H:=sq H;rcases H with⟨zU,Rn,H⟩|⟨c11,zU,Rn,H⟩
      ·simp only[Option.some.injEq,Prod.mk.injEq]at H;obtain⟨rfl,rfl,rfl⟩:=H;obtain⟨p6,q6,hx6⟩:=bx a0 jX;obtain⟨p9,q9,hx9⟩:=bx a0 jX;go_wp2;go_ret3;exact⟨er,ul HB.out⟩
      ·obtain⟨QK,RD⟩:∃j_:Int,(wrap64 (jX+1))=j_:=⟨_,rfl⟩
       replace H:(if 0≤(QK)then(if(QK)<(a0.size:Int)then(if aK.length<140737488355328 then(iL.l0 k1 a0 (aK++[bt a0 (QK)]) (wrap64 ((QK)+1)))else(none))else(none))else(none))=some (r1,r2,r3):=by first|(rw[RD]at H;exact H)|(simp only[RD]at H⊢;exact H)
       (try rw[RD]at zU)
       (try rw[RD]at Rn);have avk:(IntKind.i64.wrap (jX+1))=QK:=(bC _).trans RD;replace H:=og H;obtain⟨uO,H⟩:=H;replace H:=og H;obtain⟨t_,H⟩:=H;replace H:=nl H;obtain⟨aqm,H⟩:=H;obtain⟨avl,aj1⟩:=nm (aK++[bt a0 (QK)]);rw[←aj1.out]at H
       (try rw[Option.bind_some]at H);have H':=ak H;clear H;obtain⟨p6,q6,hx6⟩:=bx a0 jX;obtain⟨p9,q9,hx9⟩:=bx a0 jX;obtain⟨p15,q15,azX⟩:=bx a0 (QK);go_wp2_with (first|((with_reducible refine dD (b:= .append) (xs:=#[.tmp 34, .tmp 38]) rfl ?_);at_builtin;refine Kd.iR (Kd.int .u8) (w0:=w) w.heap.size rfl (.tmp 34) (.tmp 38) 22 5 (.int .u8 0) 1 rfl Tryz.underlying22 info5 rfl (by decide) (by omega) u5 aK (bt a0 (QK)) [.int .u8 (bt a0 (QK))] (fun _=>True) (fun _=>False) rfl rfl ?aP (fun _ hk=>hk.elim) ?aF ?aO ?aB ?aS ?aL ?_;(case aP=>exact rfl);(case aB=>exact(ul HB.out));(case aF=>exact(fun _ _=>trivial));(case aO=>exact(ur qY.out));(case aS=>exact(aA (ul HB.out)));(case aL=>have:=aqm.out;omega);intro azY w17 ho hb hg hat;rw[←aj1.out]at ho;have iH:=ak (hb);have iI:=ak (ho);clear HB;clear qY;have HB:=iH;have aqn:=iI;clear iH iI;clear ho hb hg hat))
       go_roundg k1
       case measure=>have:=iC.out;omega
       case rel=>exact⟨(avl),(wrap64 ((QK)+1)),(by first|rfl|(simp;done)|(simp only[←RD]<;>(first|rfl|simp))|(simp[*];done)),H',⟨by have:=iC.out;omega⟩,⟨ur aqn.out⟩,⟨ul HB.out⟩⟩
     ·replace H:=nl H;obtain⟨ac1,H⟩:=H;obtain⟨y157,aj2⟩:=nm (aK++[bt a0 jX]);rw[←aj2.out]at H
      (try rw[Option.bind_some]at H);have H':=ak H;clear H;obtain⟨p6,q6,hx6⟩:=bx a0 jX;obtain⟨p9,q9,hx9⟩:=bx a0 jX;obtain⟨p18,q18,aqo⟩:=bx a0 jX;go_wp2_with (first|((with_reducible refine dD (b:= .append) (xs:=#[.tmp 34, .tmp 38]) rfl ?_);at_builtin;refine Kd.iR (Kd.int .u8) (w0:=w) w.heap.size rfl (.tmp 34) (.tmp 38) 22 5 (.int .u8 0) 1 rfl Tryz.underlying22 info5 rfl (by decide) (by omega) u5 aK (bt a0 jX) [.int .u8 (bt a0 jX)] (fun _=>True) (fun _=>False) rfl rfl ?aP (fun _ hk=>hk.elim) ?aF ?aO ?aB ?aS ?aL ?_;(case aP=>exact rfl);(case aB=>exact(ul HB.out));(case aF=>exact(fun _ _=>trivial));(case aO=>exact(ur qY.out));(case aS=>exact(aA (ul HB.out)));(case aL=>have:=ac1.out;omega);intro azZ w20 ho hb hg hat;rw[←aj2.out]at ho;have iH:=ak (hb);have iI:=ak (ho);clear HB;clear qY;have HB:=iH;have aqp:=iI;clear iH iI;clear ho hb hg hat))
      go_roundg k1
      case measure=>have:=iC.out;omega
      case rel=>exact⟨(y157),(wrap64 (jX+1)),rs,H',⟨by have:=iC.out;omega⟩,⟨ur aqp.out⟩,⟨ul HB.out⟩⟩
   ·simp only[Option.some.injEq,Prod.mk.injEq]at H;obtain⟨rfl,rfl,rfl⟩:=H;go_wp2;go_ret3;exact⟨er,ul HB.out⟩
def je.l0:Nat→ByteArray→Int→Int→Option (Int)
 |0,_,_,_=>none
 |k+1,x0,x1,x5=>if x5<(x0.size:Int)then(if 0≤x5 then(if(bt x0 x5)=34 then(if x5≤(x0.size:Int)then((iL.f k (x0.extract (x5:Int).toNat x0.size)).bind fun aj3=>(if aj3.2.2=true then(je.l0 k x0 x1 (wrap64 ((wrap64 (x5+(wrap64 (aj3.2.1-1))))+1)))else(some (-1))))else(none))else(if(bt x0 x5)=x1 then(some x5)else(je.l0 k x0 x1 (wrap64 (x5+1)))))else(none))else(some (-1))
def je.f(k:Nat)(a0:ByteArray)(a1:Int):Option (Int):=je.l0 k a0 a1 0
set_option maxHeartbeats 8000000 in
set_option maxRecDepth 100000 in
theorem je.calls(k:Nat)(a0:ByteArray)(a1:Int)(r:Int)(w:World)(h:je.f k a0 a1=some r):
  Calls Tryz.prog 125 #[.string a0, .int .u8 a1] w fun e w'=>e= .returned (.int .i64 r)∧Below w.heap.size w w':=by
 have HB:=ak (Below.refl w.heap.size w);have H:(je.l0 k a0 a1 0)=some r:=h;clear h;have H':=ak H;clear H;go_enter Tryz.func125,Tryz.ntmps125;go_wp2;go_loopg [5] k (fun kq v5 w'=>∃(aK:Int),v5= .int .i64 aK∧ah (je.l0 kq a0 a1 aK=some r)∧ah (kq≤k)∧ah (Below w.heap.size w w'))
 case atStart=>exact⟨(0),rs,H',⟨Nat.le_refl _⟩,⟨ul HB.out⟩⟩
 case round=>
  clear H';try clear c1
  try clear p2
  obtain⟨aK,rfl,HA,iC,HB⟩:=hrel
  cases gk with
  |zero=>exact absurd HA.out (by simp[je.l0])
  |succ k1=>
   have H:=HA.out;clear HA;simp only[je.l0]at H;replace H:=sd H;rcases H with⟨fM,H⟩|⟨fM,H⟩
   ·replace H:=og H;obtain⟨nM,H⟩:=H;replace H:=sq H;rcases H with⟨mW,yt,H⟩|⟨c6,mW,yt,H⟩
    ·have oJ:=eq_true (of_decide_eq_true (by assumption):0≤aK);replace H:=EG H;obtain⟨uV,Lh,H⟩:=H;replace H:=bd H;obtain⟨⟨t160,amN,t162⟩,A9,H⟩:=H
     (try dsimp only at H);replace H:=sb H;rcases H with⟨rfl,H⟩|⟨rfl,H⟩
     ·have H':=ak H;clear H;obtain⟨p5,q5,hx5⟩:=bx a0 aK;go_wp2_with (first|(refine gL 134 24 Tryz.func134 #[.string (a0.extract (aK:Int).toNat a0.size)] ?_;(with_reducible refine(iL.calls k1 (a0.extract (aK:Int).toNat a0.size) t160 amN true _ A9.out).mono ?_);rintro e Cm ⟨rfl,hb⟩;refine⟨_,rfl,?_⟩;replace HB:=bs HB hb;(try clear hb)))
      go_roundg k1
      case measure=>have:=iC.out;omega
      case rel=>exact⟨(wrap64 ((wrap64 (aK+(wrap64 (amN-1))))+1)),rs,H',⟨by have:=iC.out;omega⟩,⟨ul HB.out⟩⟩
     ·obtain rfl:=Option.some.inj H;obtain⟨p5,q5,hx5⟩:=bx a0 aK;go_wp2_with (first|(refine gL 134 24 Tryz.func134 #[.string (a0.extract (aK:Int).toNat a0.size)] ?_;(with_reducible refine(iL.calls k1 (a0.extract (aK:Int).toNat a0.size) t160 amN false _ A9.out).mono ?_);rintro e w12 ⟨rfl,hb⟩;refine⟨_,rfl,?_⟩;replace HB:=bs HB hb;(try clear hb)))
      go_ret;exact⟨er,ul HB.out⟩
    ·replace H:=sq H;rcases H with⟨uO,yI,H⟩|⟨c13,uO,yI,H⟩
     ·obtain rfl:=Option.some.inj H;obtain⟨p5,q5,hx5⟩:=bx a0 aK;go_wp2;go_ret;exact⟨er,ul HB.out⟩
     ·have H':=ak H;clear H;obtain⟨p5,q5,hx5⟩:=bx a0 aK;go_wp2;go_roundg k1
      case measure=>have:=iC.out;omega
      case rel=>exact⟨(wrap64 (aK+1)),rs,H',⟨by have:=iC.out;omega⟩,⟨ul HB.out⟩⟩
   ·obtain rfl:=Option.some.inj H;go_wp2;go_ret;exact⟨er,ul HB.out⟩
def dH.l0:Nat→ByteArray→Int→List ByteArray→Option (List ByteArray)
 |0,_,_,_=>none
 |k+1,x0,x1,x5=>(je.f k x0 x1).bind fun Ia=>(if Ia<0 then(if x5.length<8796093022208 then(some (x5++[x0]))else(none))else(if 0≤Ia then(if Ia≤(x0.size:Int)then(if x5.length<8796093022208 then(if 0≤(wrap64 (Ia+1))then(if(wrap64 (Ia+1))≤(x0.size:Int)then(dH.l0 k (x0.extract ((wrap64 (Ia+1)):Int).toNat x0.size) x1 (x5++[x0.extract 0 (Ia:Int).toNat]))else(none))else(none))else(none))else(none))else(none)))
def dH.f(k:Nat)(a0:ByteArray)(a1:Int):Option (List ByteArray):=dH.l0 k a0 a1 (([]:List ByteArray))
def dH.T5:Bool×List (List Nat×List Nat):=(true,[([],[]),([],[]),([],[]),([1,2],[1,2]),([3],[3]),([0,4],[0,4]),([],[]),([],[]),([7],[7]),([6,8],[6,8]),([5,5,0,1,2,3,4,5],[0,5]),([9,10,0,1,2,3,4,5,6,7,8,9,10],[1,6,9])])
def dH.B5:List Nat:=[0,0,0,6,14,31,0,0,128,448,63,2047]
theorem dH.avm:sZ .any (opsOf Tryz.f90 5)=dH.T5:=by kernel_rfl
theorem dH.aqr:pW dH.T5.2 dH.B5=true:=by kernel_rfl
set_option maxHeartbeats 8000000 in
set_option maxRecDepth 100000 in
theorem dH.calls(k:Nat)(a0:ByteArray)(a1:Int)(r:List ByteArray)(w:World)(h:dH.f k a0 a1=some r):
  Calls Tryz.prog 90 #[.string a0, .int .u8 a1] w fun e w'=>∃wH:Value,e= .returned (wH)∧Kd.R Kd.string 9 w' w.heap.size (fun _=>True) wH r∧Below w.heap.size w w':=by
 have HB:=ak (Below.refl w.heap.size w);have H:(dH.l0 k a0 a1 (([]:List ByteArray)))=some r:=h;clear h;obtain⟨avn,aeE⟩:=nm ([]:List ByteArray);rw[←aeE.out]at H
 (try rw[Option.bind_some]at H);have H':=ak H;clear H;go_enter Tryz.func90,Tryz.ntmps90;go_wp2_with (first|((with_reducible refine bU (N:=7) rfl ?_);refine Kd.qg Kd.string _ 9 ?hg (N:=7) ?hd (xs:=([]:List ByteArray)) (inner:=[]) (ok:=fun _=>True) (pz:=fun _=>True) ?hr ?hp (fun _ hk=>hk) trivial (Below.refl _ _) (Nat.le_refl _) (by simp) ?_;(case hd=>rfl);(case hg=>rfl);(case hr=>first|(go_simp;done)|(go_simp;rfl));(case hp=>exact(iF.none _ _));intro v164 w3 ho4 hb rQ jw;clear rQ jw;(first|rw[←aeE.out]at ho4|(simp only[Int.reduceToNat]at ho4;rw[←aeE.out]at ho4));have aqs:=ak (Kd.fA ho4 (aA (ul HB.out)));replace HB:=bs HB hb;clear hb ho4))
 go_loopg [0,5] k (fun kq v0 v5 w'=>∃(ji:ByteArray) (aK:List ByteArray),v0= .string ji∧ah (dH.l0 kq ji a1 aK=some r)∧ah (kq≤k)∧ah (Kd.R Kd.string 9 w' w.heap.size (fun _=>True) v5 aK)∧ah (Below w.heap.size w w'))
 case atStart=>exact⟨(a0),(avn),rs,H',⟨Nat.le_refl _⟩,⟨ur aqs.out⟩,⟨ul HB.out⟩⟩
 case round=>
  clear H';try clear p2
  obtain⟨ji,aK,rfl,HA,iC,qY,HB⟩:=hrel
  cases gk with
  |zero=>exact absurd HA.out (by simp[dH.l0])
  |succ k1=>
   have H:=HA.out;clear HA;simp only[dH.l0]at H;replace H:=bd H;obtain⟨Ia,A5,H⟩:=H;replace H:=sd H;rcases H with⟨mW,H⟩|⟨mW,H⟩
   ·replace H:=nl H;obtain⟨avo,H⟩:=H;obtain⟨y167,aj6⟩:=nm (aK++[ji]);rw[←aj6.out]at H
    (try rw[Option.bind_some]at H);obtain rfl:=Option.some.inj H;go_wp2_with (first|(refine gL 125 10 Tryz.func125 #[.string ji, .int .u8 a1] ?_;(with_reducible refine(je.calls k1 ji a1 Ia _ A5.out).mono ?_);rintro e w8 ⟨rfl,hb⟩;refine⟨_,rfl,?_⟩;replace qY:=rb qY hb;replace HB:=bs HB hb;(try clear hb))|((with_reducible refine dD (b:= .append) (xs:=#[.tmp 13, .tmp 15]) rfl ?_);at_builtin;refine Kd.iR Kd.string (w0:=w) w.heap.size rfl (.tmp 13) (.tmp 15) 23 9 (.string ⟨#[]⟩) 16 rfl Tryz.underlying23 info9 rfl (by decide) (by omega) u5 aK ji [.string ji] (fun _=>True) (fun _=>False) rfl rfl ?aP (fun _ hk=>hk.elim) ?aF ?aO ?aB ?aS ?aL ?_;(case aP=>exact rfl);(case aB=>exact(ul HB.out));(case aF=>exact(fun _ _=>trivial));(case aO=>exact(ur qY.out));(case aS=>exact(aA (ul HB.out)));(case aL=>have:=avo.out;omega);intro v168 w9 ho hb hg hat;rw[←aj6.out]at ho;have iH:=ak (hb);have iI:=ak (ho);clear HB;clear qY;have HB:=iH;have aqt:=iI;clear iH iI;clear ho hb hg hat))
    go_ret;exact⟨_,er,ur aqt.out,ul HB.out⟩
   ·replace H:=EG H;obtain⟨qj,vI,H⟩:=H;replace H:=EG H;obtain⟨zU,Rn,H⟩:=H;replace H:=nl H;obtain⟨aqu,H⟩:=H;obtain⟨aqv,aj7⟩:=nm (aK++[ji.extract 0 (Ia:Int).toNat]);rw[←aj7.out]at H
    (try rw[Option.bind_some]at H);obtain⟨Qz,G5⟩:∃j_:Int,(wrap64 (Ia+1))=j_:=⟨_,rfl⟩
    replace H:(if 0≤(Qz)then(if(Qz)≤(ji.size:Int)then(dH.l0 k1 (ji.extract ((Qz):Int).toNat ji.size) a1 aqv)else(none))else(none))=some r:=by first|(rw[G5]at H;exact H)|(simp only[G5]at H⊢;exact H)
    (try rw[G5]at A5);have ak8:(IntKind.i64.wrap (Ia+1))=Qz:=(bC _).trans G5;replace H:=EG H;obtain⟨t_,yJ,H⟩:=H;replace H:=EG H;obtain⟨xW,Rh,H⟩:=H;have H':=ak H;clear H;try go_wp2_with (first|(refine gL 125 10 Tryz.func125 #[.string ji, .int .u8 a1] ?_;(with_reducible refine(je.calls k1 ji a1 Ia _ A5.out).mono ?_);rintro e w16 ⟨rfl,hb⟩;refine⟨_,rfl,?_⟩;replace qY:=rb qY hb;replace HB:=bs HB hb;(try clear hb)))
    replace qY:=ak (Kd.zO qY.out);replace HB:=ak (eY HB.out);refine ro [4,5] [0,1,2,3,6,7,8,9,4,5,10,11] (fun w'=>True) trivial ?_
    generalize w16.drew=w17 at qY HB⊢
    repeat(refine lk (v:=?_) (a':=?_) (gk.trans rfl) rfl rfl ?_ ?_ ?_;rotate_left;(focus (intro w' _;go_simp;with_reducible rfl));rotate_left;(focus (simp only[Act.put,jI,jJ,l_c,bC,bH];rfl)))
    refine ld (N:=some 21) (gk.trans rfl) rfl rfl (fun K hK=>?_);refine TV (w1:=?_) (v:=?_) (by rfl) rfl ?_ ?_
    rotate_left 2
    ·go_simp;constructor
     ·rfl
     ·rfl
    refine hK.out _ _ trivial ?_;clear hK K;refine no (a':=?_) ?_ ?_
    rotate_left
    ·show Act.put _ (some 21) _=_
     simp only[Act.put,jI,jJ,l_c,bC,bH];rfl
    refine ld (N:=some 22) (gk.trans rfl) rfl rfl (fun K hK=>?_);refine Kd.xG Kd.string (w0:=w) w.heap.size (by rfl) (.tmp 17) (.tmp 21) 23 9 (.string ⟨#[]⟩) 16 rfl Tryz.underlying23 info9 rfl (by decide) (by omega) u5 aK (ji.extract 0 (Ia:Int).toNat) [.string (ji.extract 0 (Ia:Int).toNat)] (fun _=>True) (fun _=>False) rfl rfl ?aP (fun _ hk=>hk.elim) ?aF ?aO ?aB ?aS ?aL ?_
    (case aP=>exact rfl)
    (case aB=>exact(ul HB.out))
    (case aF=>exact(fun _ _=>trivial))
    (case aO=>exact(ur qY.out))
    (case aS=>exact(aA (ul HB.out)))
    (case aL=>have:=aqu.out;omega);intro v171 w18 ho hb hg hat
    rw[←aj7.out]at ho;have iH:=ak (hb);have iI:=ak (ho);clear HB qY;have HB:=iH;have aqw:=iI;clear iH iI ho hb hg hat
    refine hK.out _ _ trivial ?_;clear hK K;refine no (a':=?_) ?_ ?_
    rotate_left
    ·show Act.put _ (some 22) _=_
     simp only[Act.put,jI,jJ,l_c,bC,bH];rfl
    repeat(refine lk (v:=?_) (a':=?_) (gk.trans rfl) rfl rfl ?_ ?_ ?_;rotate_left;(focus (intro w' _;go_simp;with_reducible rfl));rotate_left;(focus (simp only[Act.put,jI,jJ,l_c,bC,bH];rfl)))
    refine on ?_;try go_wp2
    go_roundg k1
    case measure=>have:=iC.out;omega
    case rel=>exact⟨(ji.extract ((Qz):Int).toNat ji.size),(aqv),(by first|rfl|(simp;done)|(simp only[←G5]<;>(first|rfl|simp))|(simp[*];done)),H',⟨by have:=iC.out;omega⟩,⟨ur aqw.out⟩,⟨ul HB.out⟩⟩
def strings_Cut.f(a0:ByteArray)(a1:ByteArray):Option (ByteArray×ByteArray×Bool):=if a0.size<4294967281 then some (⟨(Lib.cut a0.data.toList a1.data.toList).1.toArray⟩,⟨(Lib.cut a0.data.toList a1.data.toList).2.1.toArray⟩,(Lib.cut a0.data.toList a1.data.toList).2.2)else none
theorem strings_Cut.calls(a0 a1:ByteArray)(r1 r2:ByteArray)(r3:Bool)(w:World)(rQ:MaxOk w)(h:strings_Cut.f a0 a1=some (r1,r2,r3)):
  Calls Tryz.prog 91 #[.string a0, .string a1] w fun e w'=>e= .returned (.tuple #[.string r1, .string r2, .bool r3])∧eH w w':=by
 unfold strings_Cut.f at h;split at h
 ·rename_i hs
  injection h with h;injection h with h1 h;injection h with h2 h3;subst h1;subst h2;subst h3;obtain⟨m,hm⟩:=rQ;exact(Tryz.strings_Cut a0 a1 m w hs hm).mono fun e w' ⟨he,n,hn⟩=>⟨he,⟨⟨n,hn⟩⟩⟩
 ·cases h
end Go.Proofs.YtncdadcmghglkaaGreatDoor.PFnExactFormatPart
