/- Printed walks; conditions: those in each statement. -/
import Derived.Test.YtncdadcmghglkaaGreatDoorVFnPartAtQt
import Derived.Test.YtncdadcmghglkaaGreatDoorVFnPartAtYt
import Derived.Test.YtncdadcmghglkaaGreatDoorPFnPartAtx0
import Derived.Test.YtncdadcmghglkaaGreatDoorPFnPartAtx13
-- fixed
-- short
-- dense
-- sq
-- sq2
namespace Go.Proofs.YtncdadcmghglkaaGreatDoor.PFnPartAt
open Go.RowKit Go.Proofs.YtncdadcmghglkaaGreatDoor.X Go.Proofs.YtncdadcmghglkaaGreatDoorW.bQ Go.Proofs.YtncdadcmghglkaaGreatDoorW.jm Go.Proofs.YtncdadcmghglkaaGreatDoorW.kD
attribute [local go_sem] pV pW sK sN nI nJ pX pY   -- for this text's walks alone
set_option linter.unusedVariables false
set_option maxHeartbeats 8000000
set_option maxRecDepth 100000
set_option linter.unusedSimpArgs false
mutual
def gJ.j0:Nat→List ByteArray→ByteArray→Int→Option (List ByteArray)
 |0,_,_,_=>none
 |k+1,x3,x4,x5=>gJ.l0 k x3 x4 x5
def gJ.l0:Nat→List ByteArray→ByteArray→Int→Option (List ByteArray)
 |0,_,_,_=>none
 |k+1,x3,x4,x5=>if(x4.size:Int)>40 then((eY.f k x4 x5).bind fun Ur=>(if Ur<0 then(if x3.length<8796093022208 then(some (x3++[x4]))else(none))else(if 0≤Ur then(if Ur≤(x4.size:Int)then(if x3.length<8796093022208 then(gJ.l0 k (x3++[x4.extract 0 (Ur:Int).toNat]) (x4.extract (Ur:Int).toNat x4.size) 1)else(none))else(none))else(none))))else(if x3.length<8796093022208 then(some (x3++[x4]))else(none))
end
def gJ.f (k:Nat) (eX:ByteArray) (fF:ByteArray):Option (List ByteArray):=(some (([]:List ByteArray):List ByteArray)).bind fun ag7=>((jC.f k eX fF).bind fun awu=>(if awu=true then(if eX.size+1≤9223372036854775807 then(if fF.toList=([]:List UInt8)then(gJ.j0 k ag7 (eX++(⟨#[58]⟩:ByteArray)) ((eX++(⟨#[58]⟩:ByteArray)).size:Int))else(if(eX++(⟨#[58]⟩:ByteArray)).size+1≤9223372036854775807 then(if((eX++(⟨#[58]⟩:ByteArray))++(⟨#[32]⟩:ByteArray)).size+fF.size≤9223372036854775807 then(gJ.j0 k ag7 (((eX++(⟨#[58]⟩:ByteArray))++(⟨#[32]⟩:ByteArray))++fF) (wrap64 (((eX++(⟨#[58]⟩:ByteArray)).size:Int)+1)))else(none))else(none)))else(none))else(some ag7)))
theorem gJ.calls {k:Nat} {eX fF:ByteArray} {r:List ByteArray} {w:World} (h:gJ.f k eX fF=some r):
  Calls Tryz.prog 153 #[.agg #[.string eX, .string fF]] w fun e w'=>∃pO:Value,e= .returned (pO)∧Kd.R Kd.string 9 w' w.heap.size (fun _=>True) pO r∧Below w.heap.size w w':=by
 have Gh:=Tryz.underlying69;have HB:=ak (Below.refl w.heap.size w);unfold gJ.f at h;have H:=h;clear h;replace H:=ny H;obtain⟨ag7,ao5,H⟩:=H;replace H:=bd H;obtain⟨awu,A2,H⟩:=H;replace H:=sb H;rcases H with⟨rfl,H⟩|⟨rfl,H⟩
 ·replace H:=nn H;obtain⟨c4,H⟩:=H;have rW:=eq_true c4;have SB:=decide_eq_true c4;try have ajb:(9223372036854775807<eX.size+1)=False:=eq_false (Nat.not_lt.2 c4)
  have HC5:=ak H;clear H;go_enter Tryz.func153,Tryz.ntmps153;go_upto_if 19 with(first|(refine bX HB 1 #[.string eX, .string fF] 69 ?_;intro WW w6 uY awv hb;replace HB:=bs HB hb;clear hb)|(refine IY 7 Kd.string 9 ao5 ?_;intro aww w7 ho8 hb;have Rt:=ak (Kd.aG ho8 (aj bb));replace uY:=kb uY hb;replace HB:=bz HB hb;clear hb ho8;have z9:=Dh uY.out)|(refine gB Tryz.func158 (jC.calls A2.out) ?_;intro w10 hb;replace Rt:=rb Rt hb;replace uY:=kb uY hb;replace HB:=bz HB hb;clear hb;have z11:=Dh uY.out))
  (try simp only[Act.put,zW,zX,l_c]);go_cut [4,5] (fun v4 v5 wc=>∃(kq:Nat) (asq:ByteArray) (aax:Int),v4= .string asq∧v5= .int .i64 aax∧ah (gJ.j0 kq ag7 asq aax=some r)∧ah (kq≤k)∧ah (Kd.R Kd.string 9 wc w.heap.size (fun _=>True) aww ag7)∧ah (wc.heap[WW]? =some (.cells #[.string eX, .string fF] 69 (0,0)))∧ah (Below w.heap.size w wc))
  case first=>
   have H:=HC5.out;clear HC5;replace H:=sp H;rcases H with⟨c12,H⟩|⟨c12,H⟩
   ·have yN:=beq_iff_eq.mpr c12;have asr:(fF.toList).isEmpty=true:=List.isEmpty_iff.mpr c12;have Gi:=bne_eq_false_iff_eq.mpr c12;clear c12
    (first|rw[yN]|(simp only[jo,lg];rw[yN])|skip)
    (first|(rw[asr];simp only[Bool.not_true,Bool.not_false])|skip);have H':=ak H;clear H;go_wp2;go_meet
    case rel=>exact⟨_,_,_,rs,rs,H',⟨Qa⟩,⟨ur Rt.out⟩,⟨ub uY.out⟩,⟨bb⟩⟩
   ·have yN:=beq_eq_false_iff_ne.mpr c12;have asr:(fF.toList).isEmpty=false:=List.isEmpty_eq_false_iff.mpr c12;have Gi:=bne_iff_ne.mpr c12
    (first|rw[yN]|(simp only[jo,lg];rw[yN])|skip)
    (first|(rw[asr];simp only[Bool.not_true,Bool.not_false])|skip);replace H:=nn H;obtain⟨c13,H⟩:=H;have xA:=eq_true c13;have Df:=decide_eq_true c13;try have awx:(9223372036854775807<eX.size+1+1)=False:=by have h_:=(eq_false (Nat.not_lt.2 c13):(9223372036854775807<(eX++(⟨#[58]⟩:ByteArray)).size+1)=False);simp only[ByteArray.size_append]at h_;exact h_
    try have ao6:(9223372036854775807<(eX++(⟨#[58]⟩:ByteArray)).size+1)=False:=eq_false (Nat.not_lt.2 c13)
    replace H:=nn H;obtain⟨c14,H⟩:=H;have vZ:=eq_true c14;have Ah:=decide_eq_true c14;try have aHY:(9223372036854775807<eX.size+1+1+fF.size)=False:=by have h_:=(eq_false (Nat.not_lt.2 c14):(9223372036854775807<((eX++(⟨#[58]⟩:ByteArray))++(⟨#[32]⟩:ByteArray)).size+fF.size)=False);simp only[ByteArray.size_append]at h_;exact h_
    try have awy:(9223372036854775807<((eX++(⟨#[58]⟩:ByteArray))++(⟨#[32]⟩:ByteArray)).size+fF.size)=False:=eq_false (Nat.not_lt.2 c14)
    have H':=ak H;clear H;have z15:=Dh uY.out;go_wp2;go_meet
    case rel=>exact⟨_,_,_,rs,rs,H',⟨Qa⟩,⟨ur Rt.out⟩,⟨ub uY.out⟩,⟨bb⟩⟩
  case rest=>
   clear HC5;try clear c4
   try clear rW
   try clear SB
   try clear ajb
   obtain⟨kq,asq,aax,rfl,rfl,HA,HJ4,qQ,uY,HB⟩:=hcut
   cases kq with
   |zero=>exact zz HA.out
   |succ kj4=>
    obtain⟨H⟩:=HA;simp only[gJ.j0]at H;have H':=ak H;clear H;go_wp2;go_loopg [3,4,5] kj4 (fun kq v3 v4 v5 w'=>∃(mD:List ByteArray) (qF:ByteArray) (vU:Int),v4= .string qF∧v5= .int .i64 vU∧ah (gJ.l0 kq mD qF vU=some r)∧ah (kq≤kj4)∧ah (Kd.R Kd.string 9 w' w.heap.size (fun _=>True) v3 mD)∧ah (w'.heap[WW]? =some (.cells #[.string eX, .string fF] 69 (0,0)))∧ah (Below w.heap.size w w'))
    case atStart=>exact⟨_,_,_,rs,rs,H',⟨Nat.le_refl _⟩,⟨ur qQ.out⟩,⟨ub uY.out⟩,⟨bb⟩⟩
    case round=>
     clear H';try clear c4
     try clear rW
     try clear SB
     try clear ajb
     obtain⟨mD,qF,vU,rfl,rfl,HA,HK2,qQ,uY,HB⟩:=hrel
     cases gk with
     |zero=>exact zz HA.out
     |succ k2=>
      obtain⟨H⟩:=HA;simp only[gJ.l0]at H;replace H:=sp H;rcases H with⟨c16,H⟩|⟨c16,H⟩
      ·have zJ:decide (40<(qF.size:Int))=true:=decide_eq_true c16;have NQ:decide (40<qF.size)=true:=decide_eq_true (by omega);clear c16;replace H:=bd H;obtain⟨Ur,A17,H⟩:=H;replace H:=sd H;rcases H with⟨C_,H⟩|⟨C_,H⟩
       ·replace H:=nl H;obtain⟨ajc,H⟩:=H;obtain⟨Sr,adU⟩:=nm (mD++[qF]);rw[←adU.out]at H;obtain rfl:=s1 H;go_wp2_with (first|(refine gA Tryz.func176 (eY.calls A17.out) ?_;intro nd)|((with_reducible refine dR (b:= .append) (xs:=#[.tmp 44, .tmp 46]) rfl ?_);at_builtin;refine Kd.qX Kd.string (w0:=w) w.heap.size rfl (.tmp 44) (.tmp 46) 23 9 (.string ⟨#[]⟩) 16 rfl Tryz.underlying23 info9 rfl (by decide) (by omega) u3 mD qF [.string qF] (fun _=>True) (fun _=>False) rfl rfl ?aP (fun _ hk=>hk.elim) ?aF ?aO ?aB ?aS ?aL ?_;(case aP=>exact rfl);(case aB=>exact bb);(case aF=>exact(fun _ _=>trivial));(case aO=>exact(ur qQ.out));(case aS=>exact(aj bb));(case aL=>have:=ajc.out;omega);intro avh w20 ho hb hg hat;rw[←adU.out]at ho;have Ue:=ak (ho);replace uY:=ak (bD (g:=WW) (o:= .cells #[.string eX, .string fF] 69 (0,0)) (ub uY.out) hg (Kd.pz qQ.out uY.out (by decide)));replace HB:=ak (hb);clear ho hb hg hat qQ))
        go_ret;exact⟨_,er,ur Ue.out,bb⟩
       ·replace H:=Du H;obtain⟨Di,ao7,H⟩:=H;replace H:=Du H;obtain⟨EZ,aeG,H⟩:=H;replace H:=nl H;obtain⟨ajd,H⟩:=H;obtain⟨ams,aah⟩:=nm (mD++[qF.extract 0 (Ur:Int).toNat]);rw[←aah.out]at H;have Us:=eq_true (of_decide_eq_true (by assumption):0≤Ur);have Ul:=eq_true (of_decide_eq_true (by assumption):Ur≤(qF.size:Int));have H':=ak H;clear H;go_wp2_with (first|(refine gA Tryz.func176 (eY.calls A17.out) ?_;intro nd)|((with_reducible refine dR (b:= .append) (xs:=#[.tmp 35, .tmp 39]) rfl ?_);at_builtin;refine Kd.qX Kd.string (w0:=w) w.heap.size rfl (.tmp 35) (.tmp 39) 23 9 (.string ⟨#[]⟩) 16 rfl Tryz.underlying23 info9 rfl (by decide) (by omega) u3 mD (qF.extract 0 (Ur:Int).toNat) [.string (qF.extract 0 (Ur:Int).toNat)] (fun _=>True) (fun _=>False) rfl rfl ?aP (fun _ hk=>hk.elim) ?aF ?aO ?aB ?aS ?aL ?_;(case aP=>exact rfl);(case aB=>exact bb);(case aF=>exact(fun _ _=>trivial));(case aO=>exact(ur qQ.out));(case aS=>exact(aj bb));(case aL=>have:=ajd.out;omega);intro aEy w26 ho hb hg hat;rw[←aah.out]at ho;have WQ:=ak (ho);replace uY:=ak (bD (g:=WW) (o:= .cells #[.string eX, .string fF] 69 (0,0)) (ub uY.out) hg (Kd.pz qQ.out uY.out (by decide)));replace HB:=ak (hb);clear ho hb hg hat qQ))
        go_roundg k2
        case measure=>exact kl
        case rel=>exact⟨_,_,_,rs,rs,H',⟨kl⟩,⟨ur WQ.out⟩,⟨ub uY.out⟩,⟨bb⟩⟩
      ·have zJ:decide (40<(qF.size:Int))=false:=decide_eq_false c16;have NQ:decide (40<qF.size)=false:=decide_eq_false (by omega);clear c16;replace H:=nl H;obtain⟨aiW,H⟩:=H;obtain⟨aLt,ao8⟩:=nm (mD++[qF]);rw[←ao8.out]at H;obtain rfl:=s1 H;go_wp2_with ((with_reducible refine dR (b:= .append) (xs:=#[.tmp 44, .tmp 46]) rfl ?_);at_builtin;refine Kd.qX Kd.string (w0:=w) w.heap.size rfl (.tmp 44) (.tmp 46) 23 9 (.string ⟨#[]⟩) 16 rfl Tryz.underlying23 info9 rfl (by decide) (by omega) u3 mD qF [.string qF] (fun _=>True) (fun _=>False) rfl rfl ?aP (fun _ hk=>hk.elim) ?aF ?aO ?aB ?aS ?aL ?_;(case aP=>exact rfl);(case aB=>exact bb);(case aF=>exact(fun _ _=>trivial));(case aO=>exact(ur qQ.out));(case aS=>exact(aj bb));(case aL=>have:=aiW.out;omega);intro aEz w28 ho hb hg hat;rw[←ao8.out]at ho;have aik:=ak (ho);replace uY:=ak (bD (g:=WW) (o:= .cells #[.string eX, .string fF] 69 (0,0)) (ub uY.out) hg (Kd.pz qQ.out uY.out (by decide)));replace HB:=ak (hb);clear ho hb hg hat qQ)
       go_ret;exact⟨_,er,ur aik.out,bb⟩
 ·obtain rfl:=s1 H;go_enter Tryz.func153,Tryz.ntmps153;go_wp2_with (first|(refine bX HB 1 #[.string eX, .string fF] 69 ?_;intro WW w29 uY awv hb;replace HB:=bs HB hb;clear hb)|(refine IY 7 Kd.string 9 ao5 ?_;intro aww w30 awz hb;have Rt:=ak (Kd.aG awz (aj bb));replace uY:=kb uY hb;replace HB:=bz HB hb;clear hb awz;have z32:=Dh uY.out)|(refine gB Tryz.func158 (jC.calls A2.out) ?_;intro w33 hb;replace Rt:=rb Rt hb;replace uY:=kb uY hb;replace HB:=bz HB hb;clear hb))
  go_ret;exact⟨_,er,ur Rt.out,bb⟩
def ji.l0:Nat→List (fP)→List ByteArray→Int→Option (List ByteArray×Bool)
 |0,_,_,_=>none
 |k+1,x0,x4,x5=>if x5<(x0.length:Int)then(if 0≤x5 then((gJ.f k ((dU x0 x5).f0) ((dU x0 x5).f1)).bind fun ag8=>(if x4.length+ag8.length<8796093022208 then(ji.l0 k x0 (x4++ag8) (wrap64 (x5+1)))else(none)))else(none))else(some (x4,true))
def ji.f (k:Nat) (l0:List (fP)):Option (List ByteArray×Bool):=(some (([]:List ByteArray):List ByteArray)).bind fun asu=>((ig.f k l0).bind fun awC=>(if awC=true then(ji.l0 k l0 asu 0)else(some (asu,false))))
theorem ji.calls {k c0:Nat} {A0:Option Addr} {l0:List (fP)} {r1:List ByteArray} {r2:Bool} {w:World} (hr0:Kd.C ou w A0 l0.length l0) (hc0:l0.length≤c0) (h:ji.f k l0=some (r1,r2)):
  Calls Tryz.prog 107 #[.slice A0 l0.length c0] w fun e w'=>∃pO:Value,e= .returned (.tuple #[pO, .bool r2])∧Kd.R Kd.string 9 w' w.heap.size (fun _=>True) pO r1∧Below w.heap.size w w':=by
 have Gh:=Tryz.underlying69;have HR0:=ak hr0;have zH:=ak hc0;clear hr0 hc0;have HB:=ak (Below.refl w.heap.size w);unfold ji.f at h;have H:=h;clear h;replace H:=ny H;obtain⟨asu,ao9,H⟩:=H;replace H:=bd H;obtain⟨awC,A2,H⟩:=H;replace H:=sb H;rcases H with⟨rfl,H⟩|⟨rfl,H⟩
 ·have H':=ak H;clear H;go_enter Tryz.func107,Tryz.ntmps107;go_wp2_with (first|(refine IY 6 Kd.string 9 ao9 ?_;intro aEW w4 ho5 hb;have Ut:=ak (Kd.aG ho5 (aj (ul HB.out)));replace HB:=bs HB hb;clear hb ho5)|(refine gB Tryz.func113 (ig.calls (cu (Kd.aI HR0.out HB.out)) zH.out A2.out) ?_;intro w6 hb;replace Ut:=rb Ut hb;replace HB:=bs HB hb;clear hb))
  go_loopg [4,5] k (fun kq v4 v5 w'=>∃(fC:List ByteArray) (fD:Int),v5= .int .i64 fD∧ah (ji.l0 kq l0 fC fD=some (r1,r2))∧ah (kq≤k)∧ah (Kd.R Kd.string 9 w' w.heap.size (fun _=>True) v4 fC)∧ah (Below w.heap.size w w'))
  case atStart=>exact⟨_,_,rs,H',⟨Nat.le_refl _⟩,⟨ur Ut.out⟩,⟨ul HB.out⟩⟩
  case round=>
   clear H';obtain⟨fC,fD,rfl,HA,xK,jf,HB⟩:=hrel
   cases gk with
   |zero=>exact zz HA.out
   |succ k1=>
    obtain⟨H⟩:=HA;simp only[ji.l0]at H;replace H:=sd H;rcases H with⟨tZ,H⟩|⟨tZ,H⟩
    ·replace H:=oL H;obtain⟨uK,H⟩:=H;replace H:=bd H;obtain⟨ag8,A9,H⟩:=H;replace H:=nl H;obtain⟨aaq,H⟩:=H;obtain⟨aLu,ao_⟩:=nm (fC++ag8);rw[←ao_.out]at H;have H':=ak H;clear H;have asv:=zi fD;have asw:=zj fD l0.length;obtain⟨aHZ,aEX,aeH,aeI⟩:=qW HR0.out fD asv asw;cases aEX;replace aeH:=cl HB.out aeH;replace aeI:=cl HB.out aeI;replace asv:=eq_true asv;replace asw:=eq_true asw;go_wp2_with (first|(refine gV Tryz.func153 (gJ.calls A9.out) ?_;rintro aLv V6 ⟨ho0,hb⟩;have aay:=ak (Kd.aG (Kd.eU ho0 (Kd.jM (ur jf.out))) (aj (ul HB.out)));replace jf:=ak (Kd.dY (ur jf.out) (Kd.bV ho0) hb);replace HB:=bs HB hb;clear hb;(try clear ho0);obtain⟨FW,AY,Sv⟩:=Kd.aH aay.out;subst Sv)|((with_reducible refine dR (b:= .append) (xs:=#[.tmp 17, .tmp 22]) rfl ?_);at_builtin;refine Kd.pU Kd.string (w0:=w) w.heap.size rfl (.tmp 17) (.tmp 22) 23 9 (.string ⟨#[]⟩) 16 rfl Tryz.underlying23 info9 rfl (by decide) (by omega) u4 fC ag8 _ _ _ (fun k_=>some k_≠(.slice FW ag8.length AY:Value).ownBlock) (fun _=>False) rfl rfl ?aO ?aR (fun _ _ h=>h) (fun _ h=>h.elim) ?aF ?aB ?aS ?aL ?_;(case aR=>repeat(first|exact(Kd.aK aay.out).2.2|(with_reducible refine Kd.mP ?_ _)|(with_reducible refine Kd.mQ ?_ _)|(with_reducible refine Kd.qE ?_)));(case aB=>exact(ul HB.out));(case aF=>exact(fun k_ hk=>Kd.fresh' (Kd.jM (ur aay.out)) k_ hk));(case aO=>exact(ur (Kd.aW jf.out (fun _ hk=>hk.2))));(case aS=>exact(aj (ul HB.out)));(case aL=>have:=aaq.out;omega);intro aLw w12 ho hb hg hat;rw[←ao_.out]at ho;have awD:=ak (ho);replace aay:=ak (Kd.Ag (ok:=(fun _=>True)) (ur aay.out) hg hat);replace HB:=ak (hb);clear ho hb hg hat jf))
     go_roundg k1
     case measure=>exact kl
     case rel=>exact⟨_,_,rs,H',⟨kl⟩,⟨ur (Kd.aW awD.out (fun _ hk=>trivial))⟩,⟨ul HB.out⟩⟩
    ·obtain⟨rfl,rfl⟩:=s2 H;go_wp2;go_ret2;exact⟨_,er,ur jf.out,ul HB.out⟩
 ·obtain⟨rfl,rfl⟩:=s2 H;go_enter Tryz.func107,Tryz.ntmps107;go_wp2_with (first|(refine IY 6 Kd.string 9 ao9 ?_;intro aEW V3 Lp hb;have Ut:=ak (Kd.aG Lp (aj (ul HB.out)));replace HB:=bs HB hb;clear hb Lp)|(refine gB Tryz.func113 (ig.calls (cu (Kd.aI HR0.out HB.out)) zH.out A2.out) ?_;intro w16 hb;replace Ut:=rb Ut hb;replace HB:=bs HB hb;clear hb))
  go_ret2;exact⟨_,er,ur Ut.out,ul HB.out⟩
def iU.f (a0:ByteArray):Option (ByteArray):=if a0.size≤140737488355328 then some (strOfNums ((bytesOf a0).map V9))else none
set_option maxHeartbeats 1000000 in
set_option maxRecDepth 100000 in
theorem iU.calls {a0 r:ByteArray} {w:World} (h:iU.f a0=some r):
  Calls Tryz.prog 180 #[.string a0] w fun e w'=>e= .returned (.string r)∧Below w.heap.size w w':=by
 unfold iU.f at h;split at h
 ·rename_i hb
  injection h with h;subst h;have kb:=fun W=>Ru (P:=Tryz.prog) 9 22 5 Tryz.underlying9 Tryz.underlying22 Tryz.underlying5 a0 W
  go_enter Tryz.func180,Tryz.ntmps180;go_wp2;go_loopw [4] (fun i W=>∃k:Nat,k≤a0.size∧i= .int .i64 k∧Qo w w.heap.size (IJ (bytesOf a0) k) W) (fun i _=>a0.size-(intOf i).toNat)
  case atStart=>exact⟨0,Nat.zero_le _,rfl,by simpa [IJ] using NR w 5 a0⟩
  case round=>
   obtain⟨k,hk,rfl,hR⟩:=hrel;have HR:=ak hR;by_cases hlt:k<a0.size
   ·have hc:=hR.cell k (by rw[nR,bytesOf_length];exact hlt);have hf:=hR.free k (by rw[nR,bytesOf_length];exact hlt);rw[Yk _ _ (by rw[bytesOf_length];exact hlt)]at hc;clear hR;have hr:=KQ a0 k;have hs:=ak (WX (bytesOf a0) k (by rw[bytesOf_length];exact hlt));have hu:=ak (Qp (bytesOf a0) k (by rw[bytesOf_length];exact hlt))
    generalize (bytesOf a0).getD k 0=c at hc hr hs hu
    go_wp2
    ·go_roundw
     case rel=>exact⟨k+1,by omega,by go_num,by
      rw[hu.out,V9,if_pos ⟨by omega,by omega⟩];exact HR.out.store (Nat.le_refl _) k (by rw[nR,bytesOf_length];exact hlt) _⟩
     case measure=>simp[intOf];omega
    ·go_roundw
     case rel=>exact⟨k+1,by omega,by go_num,by rw[hs.out (by omega)];exact HR.out⟩
     case measure=>simp[intOf];omega
    ·go_roundw
     case rel=>exact⟨k+1,by omega,by go_num,by rw[hs.out (by omega)];exact HR.out⟩
     case measure=>simp[intOf];omega
   ·clear hR
    have kd:=run_convert_bytes_arg (P:=Tryz.prog) wr 22 5 Tryz.underlying22 Tryz.underlying5 w.heap.size 0 a0.size (grownCap w a0.size 0 5) (IJ (bytesOf a0) k) (by rw[nR,bytesOf_length]) (fun i hi=>by
     rw[Nat.zero_add];exact HR.out.cell i (by rw[nR,bytesOf_length];exact hi)) 9 Tryz.underlying9
    go_wp2;go_ret;have hk2:k=a0.size:=by omega
    exact⟨by rw[hk2,aaz (bytesOf a0) a0.size (bytesOf_length a0)];rfl,HR.out.below⟩
 ·cases h
def tH.f (a0:ByteArray) (a1:ByteArray):Option (Bool):=(iU.f a0).bind fun awE=>((iU.f a1).bind fun awF=>(some (awE.toList==awF.toList)))
theorem tH.calls {a0 a1:ByteArray} {r:Bool} {w:World} (h:tH.f a0 a1=some r):
  Calls Tryz.prog 197 #[.string a0, .string a1] w fun e w'=>e= .returned (.bool r)∧Below w.heap.size w w':=by
 have HB:=ak (Below.refl w.heap.size w);unfold tH.f at h;have H:=h;clear h;replace H:=bd H;obtain⟨awE,A3,H⟩:=H;replace H:=bd H;obtain⟨awF,A4,H⟩:=H;obtain rfl:=s1 H;go_enter Tryz.func197,Tryz.ntmps197;go_wp2_with (first|(refine gB Tryz.func180 (iU.calls A3.out) ?_;intro w5 hb;replace HB:=bs HB hb;clear hb)|(refine gB Tryz.func180 (iU.calls A4.out) ?_;intro w6 hb;replace HB:=bs HB hb;clear hb))
 go_ret;exact⟨er,ul HB.out⟩
def kH.l0:Nat→List (fP)→ByteArray→Int→Option (Int)
 |0,_,_,_=>none
 |k+1,x0,x1,x5=>if x5<(x0.length:Int)then(if 0≤x5 then((tH.f ((dU x0 x5).f0) x1).bind fun awG=>(if awG=true then(some x5)else(kH.l0 k x0 x1 (wrap64 (x5+1)))))else(none))else(some (-1))
def kH.f (k:Nat) (l0:List (fP)) (a1:ByteArray):Option (Int):=kH.l0 k l0 a1 0
theorem kH.calls {k c0:Nat} {A0:Option Addr} {l0:List (fP)} {a1:ByteArray} {r:Int} {w:World} (hr0:Kd.C ou w A0 l0.length l0) (hc0:l0.length≤c0) (h:kH.f k l0 a1=some r):
  Calls Tryz.prog 177 #[.slice A0 l0.length c0, .string a1] w fun e w'=>e= .returned (.int .i64 r)∧Below w.heap.size w w':=by
 have HR0:=ak hr0;have zH:=ak hc0;clear hr0 hc0;have HB:=ak (Below.refl w.heap.size w);unfold kH.f at h;have H:=h;clear h;have H':=ak H;clear H;go_enter Tryz.func177,Tryz.ntmps177;go_wp2;go_loopg [5] k (fun kq v5 w'=>∃(fD:Int),v5= .int .i64 fD∧ah (kH.l0 kq l0 a1 fD=some r)∧ah (kq≤k)∧ah (Below w.heap.size w w'))
 case atStart=>exact⟨_,rs,H',⟨Nat.le_refl _⟩,⟨ul HB.out⟩⟩
 case round=>
  clear H';obtain⟨fD,rfl,HA,xK,HB⟩:=hrel
  cases gk with
  |zero=>exact zz HA.out
  |succ k1=>
   obtain⟨H⟩:=HA;simp only[kH.l0]at H;replace H:=sd H;rcases H with⟨iW,H⟩|⟨iW,H⟩
   ·replace H:=oL H;obtain⟨rW,H⟩:=H;replace H:=bd H;obtain⟨awG,A5,H⟩:=H;replace H:=sb H;rcases H with⟨rfl,H⟩|⟨rfl,H⟩
    ·obtain rfl:=s1 H;have acj:=zi fD;have acn:=zj fD l0.length;obtain⟨awH,asx,NS,NT⟩:=qW HR0.out fD acj acn;cases asx;replace NS:=cl HB.out NS;replace NT:=cl HB.out NT;replace acj:=eq_true acj;replace acn:=eq_true acn;go_wp2_with (refine gB Tryz.func197 (tH.calls A5.out) ?_;intro w7 hb;replace HB:=bs HB hb;clear hb)
     go_ret;exact⟨er,ul HB.out⟩
    ·have H':=ak H;clear H;have acj:=zi fD;have acn:=zj fD l0.length;obtain⟨awH,asx,NS,NT⟩:=qW HR0.out fD acj acn;cases asx;replace NS:=cl HB.out NS;replace NT:=cl HB.out NT;replace acj:=eq_true acj;replace acn:=eq_true acn;go_wp2_with (refine gB Tryz.func197 (tH.calls A5.out) ?_;intro w8 hb;replace HB:=bs HB hb;clear hb)
     go_roundg k1
     case measure=>exact kl
     case rel=>exact⟨_,rs,H',⟨kl⟩,⟨ul HB.out⟩⟩
   ·obtain rfl:=s1 H;go_wp2;go_ret;exact⟨er,ul HB.out⟩
def kP.f (k:Nat) (l0:List (fP)) (a1:ByteArray):Option (ByteArray×Bool):=(kH.f k l0 a1).bind fun aaA=>(if aaA<0 then(some ((⟨#[]⟩:ByteArray),false))else(if 0≤aaA then(if aaA<(l0.length:Int)then(some ((dU l0 aaA).f1,true))else(none))else(none)))
theorem kP.calls {k c0:Nat} {A0:Option Addr} {l0:List (fP)} {a1 r1:ByteArray} {r2:Bool} {w:World} (hr0:Kd.C ou w A0 l0.length l0) (hc0:l0.length≤c0) (h:kP.f k l0 a1=some (r1,r2)):
  Calls Tryz.prog 154 #[.slice A0 l0.length c0, .string a1] w fun e w'=>e= .returned (.tuple #[.string r1, .bool r2])∧Below w.heap.size w w':=by
 have HR0:=ak hr0;have zH:=ak hc0;clear hr0 hc0;have HB:=ak (Below.refl w.heap.size w);unfold kP.f at h;have H:=h;clear h;replace H:=bd H;obtain⟨aaA,A3,H⟩:=H;replace H:=sd H;rcases H with⟨rW,H⟩|⟨rW,H⟩
 ·obtain⟨rfl,rfl⟩:=s2 H;go_enter Tryz.func154,Tryz.ntmps154;go_wp2_with (refine gB Tryz.func177 (kH.calls (cu HR0.out) zH.out A3.out) ?_;intro w5 hb;replace HB:=bs HB hb;clear hb)
  go_ret2;exact⟨er,ul HB.out⟩
 ·replace H:=oL H;obtain⟨pF,H⟩:=H;replace H:=oL H;obtain⟨tZ,H⟩:=H;obtain⟨rfl,rfl⟩:=s2 H;go_enter Tryz.func154,Tryz.ntmps154;go_wp2_with (refine gB Tryz.func177 (kH.calls (cu HR0.out) zH.out A3.out) ?_;intro w8 hb;replace HB:=bs HB hb;clear hb;have asy:0≤(aaA:Int):=of_decide_eq_true (by assumption);have asz:aaA<(l0.length:Int):=of_decide_eq_true (by assumption);obtain⟨aH0,aEY,Yl,Ym⟩:=qW HR0.out aaA asy asz;cases aEY;replace Yl:=(HB.out.cell (World.block_lt_of_cell? w _ Yl)).trans Yl;replace Ym:=(HB.out.cell (World.block_lt_of_cell? w _ Ym)).trans Ym;replace asy:=eq_true asy;replace asz:=eq_true asz)
  go_ret2;exact⟨er,ul HB.out⟩
def iq.l0:Nat→ByteArray→ByteArray→Int→Option (ByteArray×Int)
 |0,_,_,_=>none
 |k+1,x0,x6,x7=>if x7<(x0.size:Int)then(if 0≤x7 then(if(bt x0 x7)=34 then(some (x6,wrap64 (x7+1)))else(if(bt x0 x7)=92 then(if(wrap64 (x7+1))=(x0.size:Int)then(some ((⟨#[]⟩:ByteArray),(-1)))else(if 0≤(wrap64 (x7+1))then(if(wrap64 (x7+1))≤(wrap64 ((wrap64 (x7+1))+1))then(if(wrap64 ((wrap64 (x7+1))+1))≤(x0.size:Int)then(if x6.size+(x0.extract ((wrap64 (x7+1)):Int).toNat ((wrap64 ((wrap64 (x7+1))+1)):Int).toNat).size≤9223372036854775807 then(iq.l0 k x0 (x6++(x0.extract ((wrap64 (x7+1)):Int).toNat ((wrap64 ((wrap64 (x7+1))+1)):Int).toNat)) (wrap64 ((wrap64 (x7+1))+1)))else(none))else(none))else(none))else(none)))else(if x7≤(wrap64 (x7+1))then(if(wrap64 (x7+1))≤(x0.size:Int)then(if x6.size+(x0.extract (x7:Int).toNat ((wrap64 (x7+1)):Int).toNat).size≤9223372036854775807 then(iq.l0 k x0 (x6++(x0.extract (x7:Int).toNat ((wrap64 (x7+1)):Int).toNat)) (wrap64 (x7+1)))else(none))else(none))else(none))))else(none))else(some ((⟨#[]⟩:ByteArray),(-1)))
def iq.f (k:Nat) (a0:ByteArray) (a1:Int):Option (ByteArray×Int):=iq.l0 k a0 (⟨#[]⟩:ByteArray) (wrap64 (a1+1))
theorem iq.calls {k:Nat} {a0 r1:ByteArray} {a1 r2:Int} {w:World} (h:iq.f k a0 a1=some (r1,r2)):
  Calls Tryz.prog 198 #[.string a0, .int .i64 a1] w fun e w'=>e= .returned (.tuple #[.string r1, .int .i64 r2])∧dO w w':=by
 unfold iq.f at h;have H:=h;clear h;have H':=ak H;clear H;go_enter Tryz.func198,Tryz.ntmps198;go_wp2;go_loopg [6,7] k (fun kq v6 v7 w'=>∃(fE:ByteArray) (sF:Int),v6= .string fE∧v7= .int .i64 sF∧ah (iq.l0 kq a0 fE sF=some (r1,r2))∧ah (kq≤k)∧dO w w')
 case atStart=>exact⟨_,_,rs,rs,H',⟨Nat.le_refl _⟩,dn⟩
 case round=>
  clear H';obtain⟨fE,sF,rfl,rfl,HA,xK,⟨m1,rfl⟩⟩:=hrel
  cases gk with
  |zero=>exact zz HA.out
  |succ k1=>
   obtain⟨H⟩:=HA;simp only[iq.l0]at H;replace H:=sd H;rcases H with⟨iW,H⟩|⟨iW,H⟩
   ·replace H:=oL H;obtain⟨rW,H⟩:=H;replace H:=sq H;rcases H with⟨pF,Ad,H⟩|⟨c6,pF,Ad,H⟩
    ·obtain⟨rfl,rfl⟩:=s2 H;obtain⟨p5,q5,hx5⟩:=bx a0 sF;go_wp2;go_ret2;exact⟨rs,dn⟩
    ·replace H:=sq H;rcases H with⟨uK,Gg,H⟩|⟨c8,uK,Gg,H⟩
     ·replace H:=sq H;rcases H with⟨AZ,Jb,H⟩|⟨c9,AZ,Jb,H⟩
      ·obtain⟨rfl,rfl⟩:=s2 H;obtain⟨p5,q5,hx5⟩:=bx a0 sF;obtain⟨p7,q7,hx7⟩:=bx a0 sF;go_wp2;go_ret2;exact⟨rs,dn⟩
      ·obtain⟨NU,Uu⟩:∃j_:Int,(wrap64 (sF+1))=j_:=⟨_,rfl⟩
       replace H:(if 0≤(NU)then(if(NU)≤(wrap64 ((NU)+1))then(if(wrap64 ((NU)+1))≤(a0.size:Int)then(if fE.size+(a0.extract ((NU):Int).toNat ((wrap64 ((NU)+1)):Int).toNat).size≤9223372036854775807 then(iq.l0 k1 a0 (fE++(a0.extract ((NU):Int).toNat ((wrap64 ((NU)+1)):Int).toNat)) (wrap64 ((NU)+1)))else(none))else(none))else(none))else(none))=some (r1,r2):=by first|(rw[Uu]at H;exact H)|(simp only[Uu]at H⊢;exact H)
       (try rw[Uu]at AZ)
       (try rw[Uu]at Jb);have aEZ:(IntKind.i64.wrap (sF+1))=NU:=(jo _).trans Uu;replace H:=Du H;obtain⟨vY,Io,H⟩:=H;replace H:=nn H;obtain⟨c12,H⟩:=H;have yN:=eq_true c12;have Gi:=decide_eq_true c12;replace H:=nn H;obtain⟨c13,H⟩:=H;have xA:=eq_true c13;have Df:=decide_eq_true c13;replace H:=nn H;obtain⟨c14,H⟩:=H;have vZ:=eq_true c14;have Ah:=decide_eq_true c14;try have aH1:(9223372036854775807<fE.size+((a0.extract ((NU):Int).toNat ((wrap64 ((NU)+1)):Int).toNat).size))=False:=by have h_:=c14;simp only[ByteArray.size_append,ByteArray.size_extract]at h_;refine eq_false ?_;simp only[decide_eq_true_eq]at*;omega
       try have awy:(9223372036854775807<fE.size+(a0.extract ((NU):Int).toNat ((wrap64 ((NU)+1)):Int).toNat).size)=False:=eq_false (Nat.not_lt.2 c14)
       have H':=ak H;clear H;obtain⟨p5,q5,hx5⟩:=bx a0 sF;obtain⟨p7,q7,hx7⟩:=bx a0 sF;go_wp2;go_roundg k1
       case measure=>exact kl
       case rel=>exact⟨_,_,(by first|rfl|(simp;done)|(simp only[←Uu]<;>(first|rfl|simp))|(simp[*];done)),(by first|rfl|(simp;done)|(simp only[←Uu]<;>(first|rfl|simp))|(simp[*];done)),H',⟨kl⟩,dn⟩
     ·have yM:=eq_true (of_decide_eq_true (by assumption):0≤sF);replace H:=nn H;obtain⟨c16,H⟩:=H;have zJ:=eq_true c16;have NQ:=decide_eq_true c16;replace H:=nn H;obtain⟨c17,H⟩:=H;have vX:=eq_true c17;have Ro:=decide_eq_true c17;replace H:=nn H;obtain⟨c18,H⟩:=H;have C_:=eq_true c18;have Uo:=decide_eq_true c18;try have aH2:(9223372036854775807<fE.size+((a0.extract (sF:Int).toNat ((wrap64 (sF+1)):Int).toNat).size))=False:=by have h_:=c18;simp only[ByteArray.size_append,ByteArray.size_extract]at h_;refine eq_false ?_;simp only[decide_eq_true_eq]at*;omega
      try have apa:(9223372036854775807<fE.size+(a0.extract (sF:Int).toNat ((wrap64 (sF+1)):Int).toNat).size)=False:=eq_false (Nat.not_lt.2 c18)
      have H':=ak H;clear H;obtain⟨p5,q5,hx5⟩:=bx a0 sF;obtain⟨p7,q7,hx7⟩:=bx a0 sF;go_wp2;go_roundg k1
      case measure=>exact kl
      case rel=>exact⟨_,_,rs,rs,H',⟨kl⟩,dn⟩
   ·obtain⟨rfl,rfl⟩:=s2 H;go_wp2;go_ret2;exact⟨rs,dn⟩
def jL.l0:Nat→ByteArray→Int→Int→Option (ByteArray×ByteArray×Bool)
 |0,_,_,_=>none
 |k+1,x0,x1,x7=>if x7<(x0.size:Int)then(if 0≤x7 then(if(bt x0 x7)=34 then((iq.f k x0 x7).bind fun apb=>(if apb.2<0 then(some (x0,(⟨#[]⟩:ByteArray),false))else(jL.l0 k x0 x1 apb.2)))else(if(bt x0 x7)=x1 then(if x7≤(x0.size:Int)then(if 0≤(wrap64 (x7+1))then(if(wrap64 (x7+1))≤(x0.size:Int)then(some (x0.extract 0 (x7:Int).toNat,x0.extract ((wrap64 (x7+1)):Int).toNat x0.size,true))else(none))else(none))else(none))else(jL.l0 k x0 x1 (wrap64 (x7+1)))))else(none))else(some (x0,(⟨#[]⟩:ByteArray),false))
def jL.f (k:Nat) (a0:ByteArray) (a1:Int):Option (ByteArray×ByteArray×Bool):=jL.l0 k a0 a1 0
theorem jL.calls {k:Nat} {a0 r1 r2:ByteArray} {a1:Int} {r3:Bool} {w:World} (h:jL.f k a0 a1=some (r1,r2,r3)):
  Calls Tryz.prog 178 #[.string a0, .int .u8 a1] w fun e w'=>e= .returned (.tuple #[.string r1, .string r2, .bool r3])∧dO w w':=by
 unfold jL.f at h;have H:=h;clear h;have H':=ak H;clear H;go_enter Tryz.func178,Tryz.ntmps178;go_wp2;repeat(go_quiet (fail);try go_wp2)
 go_loopg [7] k (fun kq v7 w'=>∃(sF:Int),v7= .int .i64 sF∧ah (jL.l0 kq a0 a1 sF=some (r1,r2,r3))∧ah (kq≤k)∧dO w w')
 case atStart=>exact⟨_,rs,H',⟨Nat.le_refl _⟩,dn⟩
 case round=>
  clear H';obtain⟨sF,rfl,HA,xK,⟨m1,rfl⟩⟩:=hrel
  cases gk with
  |zero=>exact zz HA.out
  |succ k1=>
   obtain⟨H⟩:=HA;simp only[jL.l0]at H;replace H:=sd H;rcases H with⟨iW,H⟩|⟨iW,H⟩
   ·replace H:=oL H;obtain⟨rW,H⟩:=H;replace H:=sq H;rcases H with⟨pF,Ad,H⟩|⟨c6,pF,Ad,H⟩
    ·replace H:=bd H;obtain⟨⟨aLx,aLy⟩,A7,H⟩:=H
     (try dsimp only at H);replace H:=sd H;rcases H with⟨uK,H⟩|⟨uK,H⟩
     ·obtain⟨rfl,rfl,rfl⟩:=s3 H;obtain⟨p5,q5,hx5⟩:=bx a0 sF;go_wp2_with (go_at_call 198;refine mA (iq.calls A7.out) ?_;intro nd;(try exact dq))
      repeat(go_quiet ((go_at_call 198;refine mA (iq.calls A7.out) ?_;intro nd;(try exact dq)));try go_wp2_with (go_at_call 198;refine mA (iq.calls A7.out) ?_;intro nd;(try exact dq)))
      go_ret3;exact⟨rs,dn⟩
     ·have H':=ak H;clear H;obtain⟨p5,q5,hx5⟩:=bx a0 sF;go_wp2_with (go_at_call 198;refine mA (iq.calls A7.out) ?_;intro nd;(try exact dq))
      repeat(go_quiet ((go_at_call 198;refine mA (iq.calls A7.out) ?_;intro nd;(try exact dq)));try go_wp2_with (go_at_call 198;refine mA (iq.calls A7.out) ?_;intro nd;(try exact dq)))
      go_roundg k1
      case measure=>exact kl
      case rel=>exact⟨_,rs,H',⟨kl⟩,dn⟩
    ·replace H:=sq H;rcases H with⟨oO,vH,H⟩|⟨c10,oO,vH,H⟩
     ·have vY:=eq_true (of_decide_eq_true (by assumption):0≤sF);replace H:=Du H;obtain⟨yN,Gi,H⟩:=H;obtain⟨Yn,KR⟩:∃j_:Int,(wrap64 (sF+1))=j_:=⟨_,rfl⟩
      replace H:(if 0≤(Yn)then(if(Yn)≤(a0.size:Int)then(some (a0.extract 0 (sF:Int).toNat,a0.extract ((Yn):Int).toNat a0.size,true))else(none))else(none))=some (r1,r2,r3):=by first|(rw[KR]at H;exact H)|(simp only[KR]at H⊢;exact H)
      have asA:(IntKind.i64.wrap (sF+1))=Yn:=(jo _).trans KR;replace H:=Du H;obtain⟨vZ,Ah,H⟩:=H;replace H:=Du H;obtain⟨yM,I9,H⟩:=H;obtain⟨rfl,rfl,rfl⟩:=s3 H;obtain⟨p5,q5,hx5⟩:=bx a0 sF;obtain⟨p9,q9,hx9⟩:=bx a0 sF;go_wp2;repeat(go_quiet (fail);try go_wp2)
      go_ret3;exact⟨by first|rfl|(simp;done)|(simp only[←KR]<;>(first|rfl|simp))|(simp[*];done),dn⟩
     ·have H':=ak H;clear H;obtain⟨p5,q5,hx5⟩:=bx a0 sF;obtain⟨p9,q9,hx9⟩:=bx a0 sF;go_wp2;repeat(go_quiet (fail);try go_wp2)
      go_roundg k1
      case measure=>exact kl
      case rel=>exact⟨_,rs,H',⟨kl⟩,dn⟩
   ·obtain⟨rfl,rfl,rfl⟩:=s3 H;go_wp2;repeat(go_quiet (fail);try go_wp2)
    go_ret3;exact⟨rs,dn⟩
def jO.l0:Nat→Int→Int→Option (Bool)
 |0,_,_=>none
 |k+1,x0,x3=>if x3<19 then(if 0≤x3 then(if x0=(bt (⟨#[33,35,36,37,38,39,42,43,45,47,61,63,94,95,96,123,124,125,126]⟩:ByteArray) x3)then(some true)else(jO.l0 k x0 (wrap64 (x3+1))))else(none))else((iC.f x0).bind fun awI=>(some awI))
def jO.f (k:Nat) (a0:Int):Option (Bool):=jO.l0 k a0 0
theorem jO.calls {k:Nat} {a0:Int} {r:Bool} {w:World} (h:jO.f k a0=some r):
  Calls Tryz.prog 199 #[.int .u8 a0] w fun e w'=>e= .returned (.bool r)∧dO w w':=by
 unfold jO.f at h;have H:=h;clear h;have H':=ak H;clear H;go_enter Tryz.func199,Tryz.ntmps199;go_wp2;go_loopg [3] k (fun kq v3 w'=>∃(dV:Int),v3= .int .i64 dV∧ah (jO.l0 kq a0 dV=some r)∧ah (kq≤k)∧dO w w')
 case atStart=>exact⟨_,rs,H',⟨Nat.le_refl _⟩,dn⟩
 case round=>
  clear H';obtain⟨dV,rfl,HA,xK,⟨m1,rfl⟩⟩:=hrel
  cases gk with
  |zero=>exact zz HA.out
  |succ k1=>
   obtain⟨H⟩:=HA;simp only[jO.l0]at H;replace H:=sd H;rcases H with⟨qJ,H⟩|⟨qJ,H⟩
   ·replace H:=oL H;obtain⟨iW,H⟩:=H;replace H:=sq H;rcases H with⟨oz,NV,H⟩|⟨c5,oz,NV,H⟩
    ·obtain rfl:=s1 H;have p4:=zi dV;have q4:=zj dV 19;have hx4:=yL (⟨#[33,35,36,37,38,39,42,43,45,47,61,63,94,95,96,123,124,125,126]⟩:ByteArray) dV;replace p4:=eq_true p4;replace q4:=eq_true q4;go_wp2;go_ret;exact⟨rs,dn⟩
    ·have H':=ak H;clear H;have p4:=zi dV;have q4:=zj dV 19;have hx4:=yL (⟨#[33,35,36,37,38,39,42,43,45,47,61,63,94,95,96,123,124,125,126]⟩:ByteArray) dV;replace p4:=eq_true p4;replace q4:=eq_true q4;go_wp2;go_roundg k1
     case measure=>exact kl
     case rel=>exact⟨_,rs,H',⟨kl⟩,dn⟩
   ·replace H:=bd H;obtain⟨awI,A6,H⟩:=H;obtain rfl:=s1 H;go_wp2_with (refine gA Tryz.func183 (iC.calls A6.out) ?_;intro nd)
    go_ret;exact⟨rs,dn⟩
mutual
def fO.l0:Nat→ByteArray→List ByteArray→Int→Option (List ByteArray×Bool)
 |0,_,_,_=>none
 |k+1,x0,x4,x5=>if x5<(x0.size:Int)then(if 0≤x5 then(if(bt x0 x5)=32 then(fO.l0 k x0 x4 (wrap64 (x5+1)))else(if(bt x0 x5)=34 then((iq.f k x0 x5).bind fun NW=>(if NW.2<0 then(some ((([]:List ByteArray)),false))else(if NW.2=x5 then(some ((([]:List ByteArray)),false))else(if NW.2<(x0.size:Int)then(if 0≤NW.2 then(if(bt x0 NW.2)=32 then(if x4.length<8796093022208 then(fO.l0 k x0 (x4++[NW.1]) NW.2)else(none))else(some ((([]:List ByteArray)),false)))else(none))else(if x4.length<8796093022208 then(fO.l0 k x0 (x4++[NW.1]) NW.2)else(none))))))else(fO.l1 k x0 x4 x5 x5)))else(none))else(some (x4,true))
def fO.l1:Nat→ByteArray→List ByteArray→Int→Int→Option (List ByteArray×Bool)
 |0,_,_,_,_=>none
 |k+1,x0,x4,x5,x6=>if x5<(x0.size:Int)then(if 0≤x5 then((jO.f k (bt x0 x5)).bind fun awJ=>(if awJ=true then(fO.l1 k x0 x4 (wrap64 (x5+1)) x6)else(if 0≤x6 then(if x6≤x5 then(if x5≤(x0.size:Int)then(if x5=x6 then(some ((([]:List ByteArray)),false))else(if(bt x0 x5)=32 then(if x4.length<8796093022208 then(fO.l0 k x0 (x4++[x0.extract (x6:Int).toNat (x5:Int).toNat]) x5)else(none))else(some ((([]:List ByteArray)),false))))else(none))else(none))else(none))))else(none))else(if 0≤x6 then(if x6≤x5 then(if x5≤(x0.size:Int)then(if x5=x6 then(some ((([]:List ByteArray)),false))else(if x4.length<8796093022208 then(fO.l0 k x0 (x4++[x0.extract (x6:Int).toNat (x5:Int).toNat]) x5)else(none)))else(none))else(none))else(none))
end
def fO.f (k:Nat) (a0:ByteArray):Option (List ByteArray×Bool):=fO.l0 k a0 (([]:List ByteArray)) 0
theorem fO.calls {k:Nat} {a0:ByteArray} {r1:List ByteArray} {r2:Bool} {w:World} (h:fO.f k a0=some (r1,r2)):
  Calls Tryz.prog 181 #[.string a0] w fun e w'=>∃pO:Value,e= .returned (.tuple #[pO, .bool r2])∧Kd.R Kd.string 9 w' w.heap.size (fun _=>True) pO r1∧Below w.heap.size w w':=by
 have HB:=ak (Below.refl w.heap.size w);unfold fO.f at h;have H:=h;clear h;obtain⟨aLz,apc⟩:=nm ([]:List ByteArray);rw[←apc.out]at H;have H':=ak H;clear H;go_enter Tryz.func181,Tryz.ntmps181;go_wp2_with (refine gG 8 ?_;refine IY 8 Kd.string 9 apc ?_;intro aLA w2 ho3 hb;have awK:=ak (Kd.aG ho3 (aj (ul HB.out)));replace HB:=bs HB hb;clear hb ho3)
 go_loopg [4,5] k (fun kq v4 v5 w'=>∃(fC:List ByteArray) (fD:Int),v5= .int .i64 fD∧ah (fO.l0 kq a0 fC fD=some (r1,r2))∧ah (kq≤k)∧ah (Kd.R Kd.string 9 w' w.heap.size (fun _=>True) v4 fC)∧ah (Below w.heap.size w w'))
 case atStart=>exact⟨_,_,rs,H',⟨Nat.le_refl _⟩,⟨ur awK.out⟩,⟨ul HB.out⟩⟩
 case round=>
  clear H';obtain⟨fC,fD,rfl,HA,xK,jf,HB⟩:=hrel
  cases gk with
  |zero=>exact zz HA.out
  |succ k1=>
   obtain⟨H⟩:=HA;simp only[fO.l0]at H;replace H:=sd H;rcases H with⟨rW,H⟩|⟨rW,H⟩
   ·replace H:=oL H;obtain⟨oz,H⟩:=H;replace H:=sq H;rcases H with⟨tZ,Qd,H⟩|⟨c7,tZ,Qd,H⟩
    ·have H':=ak H;clear H;obtain⟨p6,q6,hx6⟩:=bx a0 fD;go_wp2;go_roundg k1
     case measure=>exact kl
     case rel=>exact⟨_,_,rs,H',⟨kl⟩,⟨ur jf.out⟩,⟨ul HB.out⟩⟩
    ·replace H:=sq H;rcases H with⟨AZ,Jb,H⟩|⟨c9,AZ,Jb,H⟩
     ·replace H:=bd H;obtain⟨⟨awL,ag9⟩,A10,H⟩:=H
      (try dsimp only at H);replace H:=sd H;rcases H with⟨vY,H⟩|⟨vY,H⟩
      ·obtain⟨aLB,apd⟩:=nm ([]:List ByteArray);rw[←apd.out]at H;obtain⟨rfl,rfl⟩:=s2 H;obtain⟨p6,q6,hx6⟩:=bx a0 fD;obtain⟨p8,q8,hx8⟩:=bx a0 fD;go_wp2_with (first|(refine gA Tryz.func198 (iq.calls A10.out) ?_;intro nd)|(refine gG 32 ?_;refine IY 32 Kd.string 9 apd ?_;intro aLC w12 Yo hb;have awM:=ak (Kd.aG (Kd.eU Yo (Kd.jM (ur jf.out))) (aj (ul HB.out)));replace jf:=ak (Kd.dY (ur jf.out) (Kd.bV Yo) hb);replace HB:=bs HB hb;clear hb Yo))
       go_ret2;exact⟨_,er,ur (Kd.aW awM.out (fun _ hk=>trivial)),ul HB.out⟩
      ·replace H:=sq H;rcases H with⟨vZ,Ah,H⟩|⟨c14,vZ,Ah,H⟩
       ·obtain⟨aLD,ape⟩:=nm ([]:List ByteArray);rw[←ape.out]at H;obtain⟨rfl,rfl⟩:=s2 H;obtain⟨p6,q6,hx6⟩:=bx a0 fD;obtain⟨p8,q8,hx8⟩:=bx a0 fD;go_wp2_with (first|(refine gA Tryz.func198 (iq.calls A10.out) ?_;intro nd)|(refine gG 64 ?_;refine IY 64 Kd.string 9 ape ?_;intro aLE w15 asB hb;have awN:=ak (Kd.aG (Kd.eU asB (Kd.jM (ur jf.out))) (aj (ul HB.out)));replace jf:=ak (Kd.dY (ur jf.out) (Kd.bV asB) hb);replace HB:=bs HB hb;clear hb asB))
        go_ret2;exact⟨_,er,ur (Kd.aW awN.out (fun _ hk=>trivial)),ul HB.out⟩
       ·replace H:=sd H;rcases H with⟨vX,H⟩|⟨vX,H⟩
        ·replace H:=oL H;obtain⟨C_,H⟩:=H;replace H:=sq H;rcases H with⟨Rw,aaB,H⟩|⟨c20,Rw,aaB,H⟩
         ·replace H:=nl H;obtain⟨aap,H⟩:=H;obtain⟨aLF,apf⟩:=nm (fC++[awL]);rw[←apf.out]at H;have H':=ak H;clear H;obtain⟨p6,q6,hx6⟩:=bx a0 fD;obtain⟨p8,q8,hx8⟩:=bx a0 fD;go_wp2_with (first|(refine gA Tryz.func198 (iq.calls A10.out) ?_;intro nd;have p19:0≤(ag9:Int):=of_decide_eq_true (by assumption);have q19:ag9<(a0.size:Int):=of_decide_eq_true (by assumption);have aE0:=yL a0 ag9;replace p19:=eq_true p19;replace q19:=eq_true q19)|((with_reducible refine dR (b:= .append) (xs:=#[.tmp 65, .tmp 67]) rfl ?_);(try(refine mX (by rfl) ?_;dsimp only));at_builtin;refine aP 65 67 Kd.string 23 9 (.string ⟨#[]⟩) 16 Tryz.underlying23 info9 HB (ur jf.out) apf (by have:=aap.out;omega) ?_;intro aLG w22 ho hb hg hat;have awO:=ak (ho);replace HB:=ak (hb);clear ho hb hg hat jf))
          go_roundg k1
          case measure=>exact kl
          case rel=>exact⟨_,_,rs,H',⟨kl⟩,⟨ur awO.out⟩,⟨ul HB.out⟩⟩
         ·obtain⟨aLH,apg⟩:=nm ([]:List ByteArray);rw[←apg.out]at H;obtain⟨rfl,rfl⟩:=s2 H;obtain⟨p6,q6,hx6⟩:=bx a0 fD;obtain⟨p8,q8,hx8⟩:=bx a0 fD;go_wp2_with (first|(refine gA Tryz.func198 (iq.calls A10.out) ?_;intro nd;have p19:0≤(ag9:Int):=of_decide_eq_true (by assumption);have q19:ag9<(a0.size:Int):=of_decide_eq_true (by assumption);have aE0:=yL a0 ag9;replace p19:=eq_true p19;replace q19:=eq_true q19)|(refine gG 64 ?_;refine IY 64 Kd.string 9 apg ?_;intro aLI w23 Qe hb;have awP:=ak (Kd.aG (Kd.eU Qe (Kd.jM (ur jf.out))) (aj (ul HB.out)));replace jf:=ak (Kd.dY (ur jf.out) (Kd.bV Qe) hb);replace HB:=bs HB hb;clear hb Qe))
          go_ret2;exact⟨_,er,ur (Kd.aW awP.out (fun _ hk=>trivial)),ul HB.out⟩
        ·replace H:=nl H;obtain⟨Ui,H⟩:=H;obtain⟨aLJ,aph⟩:=nm (fC++[awL]);rw[←aph.out]at H;have H':=ak H;clear H;obtain⟨p6,q6,hx6⟩:=bx a0 fD;obtain⟨p8,q8,hx8⟩:=bx a0 fD;go_wp2_with (first|(refine gA Tryz.func198 (iq.calls A10.out) ?_;intro nd)|((with_reducible refine dR (b:= .append) (xs:=#[.tmp 65, .tmp 67]) rfl ?_);(try(refine mX (by rfl) ?_;dsimp only));at_builtin;refine aP 65 67 Kd.string 23 9 (.string ⟨#[]⟩) 16 Tryz.underlying23 info9 HB (ur jf.out) aph (by have:=Ui.out;omega) ?_;intro aLK w26 ho hb hg hat;have awQ:=ak (ho);replace HB:=ak (hb);clear ho hb hg hat jf))
         go_roundg k1
         case measure=>exact kl
         case rel=>exact⟨_,_,rs,H',⟨kl⟩,⟨ur awQ.out⟩,⟨ul HB.out⟩⟩
     ·have H':=ak H;clear H;obtain⟨p6,q6,hx6⟩:=bx a0 fD;obtain⟨p8,q8,hx8⟩:=bx a0 fD;go_wp2;go_loopg [5] k1 (fun kq v5 w'=>∃(vU:Int),v5= .int .i64 vU∧ah (fO.l1 kq a0 fC vU fD=some (r1,r2))∧ah (kq≤k1)∧ah (Kd.R Kd.string 9 w' w.heap.size (fun _=>True) u4 fC)∧ah (Below w.heap.size w w'))
      case atStart=>exact⟨_,rs,H',⟨Nat.le_refl _⟩,⟨ur jf.out⟩,⟨ul HB.out⟩⟩
      case round=>
       clear H';try clear rW
       try clear oz
       try clear p6
       try clear q6
       try clear hx6
       try clear c7
       try clear tZ
       try clear Qd
       try clear p8
       try clear q8
       try clear hx8
       try clear c9
       try clear AZ
       try clear Jb
       try clear p6
       try clear p8
       try clear q6
       try clear q8
       obtain⟨vU,rfl,HA,HK2,jf,HB⟩:=hrel
       cases gk with
       |zero=>exact zz HA.out
       |succ k2=>
        obtain⟨H⟩:=HA;simp only[fO.l1]at H;replace H:=sd H;rcases H with⟨I5,H⟩|⟨I5,H⟩
        ·replace H:=oL H;obtain⟨I7,H⟩:=H;replace H:=bd H;obtain⟨awJ,A30,H⟩:=H;replace H:=sb H;rcases H with⟨rfl,H⟩|⟨rfl,H⟩
         ·have H':=ak H;clear H;obtain⟨p29,q29,hx29⟩:=bx a0 vU;go_wp2_with (go_at_call 199;refine mA (jO.calls A30.out) ?_;intro nd)
          go_roundg k2
          case measure=>exact kl
          case rel=>exact⟨_,rs,H',⟨kl⟩,⟨ur jf.out⟩,⟨ul HB.out⟩⟩
         ·replace H:=Du H;obtain⟨aaC,aje,H⟩:=H;replace H:=Du H;obtain⟨WY,ajf,H⟩:=H;replace H:=Du H;obtain⟨aaD,aaE,H⟩:=H;replace H:=sq H;rcases H with⟨ajg,apj,H⟩|⟨c35,ajg,apj,H⟩
          ·obtain⟨aLL,apk⟩:=nm ([]:List ByteArray);rw[←apk.out]at H;obtain⟨rfl,rfl⟩:=s2 H;obtain⟨p29,q29,hx29⟩:=bx a0 vU;go_wp2_with (first|(go_at_call 199;refine mA (jO.calls A30.out) ?_;intro nd)|(refine gG 64 ?_;refine IY 64 Kd.string 9 apk ?_;intro aLM w36 asC hb;have awR:=ak (Kd.aG (Kd.eU asC (Kd.jM (ur jf.out))) (aj (ul HB.out)));replace jf:=ak (Kd.dY (ur jf.out) (Kd.bV asC) hb);replace HB:=bs HB hb;clear hb asC))
           go_ret2;exact⟨_,er,ur (Kd.aW awR.out (fun _ hk=>trivial)),ul HB.out⟩
          ·replace H:=sq H;rcases H with⟨awS,awT,H⟩|⟨c39,awS,awT,H⟩
           ·replace H:=nl H;obtain⟨aaF,H⟩:=H;obtain⟨aLN,apl⟩:=nm (fC++[a0.extract (fD:Int).toNat (vU:Int).toNat]);rw[←apl.out]at H;have H':=ak H;clear H;obtain⟨p29,q29,hx29⟩:=bx a0 vU;go_wp2_with (first|(go_at_call 199;refine mA (jO.calls A30.out) ?_;intro nd;have p38:0≤(vU:Int):=of_decide_eq_true (by assumption);have q38:vU<(a0.size:Int):=of_decide_eq_true (by assumption);have hx38:=yL a0 vU;replace p38:=eq_true p38;replace q38:=eq_true q38)|((with_reducible refine dR (b:= .append) (xs:=#[.tmp 65, .tmp 67]) rfl ?_);(try(refine mX (by rfl) ?_;dsimp only));at_builtin;refine aP 65 67 Kd.string 23 9 (.string ⟨#[]⟩) 16 Tryz.underlying23 info9 HB (ur jf.out) apl (by have:=aaF.out;omega) ?_;intro aLO w41 ho hb hg hat;have awU:=ak (ho);replace HB:=ak (hb);clear ho hb hg hat jf))
            go_roundg k2
            case measure=>exact kl
            case rel=>exact⟨_,_,rs,H',⟨kl⟩,⟨ur awU.out⟩,⟨ul HB.out⟩⟩
           ·obtain⟨aLP,apm⟩:=nm ([]:List ByteArray);rw[←apm.out]at H;obtain⟨rfl,rfl⟩:=s2 H;obtain⟨p29,q29,hx29⟩:=bx a0 vU;go_wp2_with (first|(go_at_call 199;refine mA (jO.calls A30.out) ?_;intro nd;have p38:0≤(vU:Int):=of_decide_eq_true (by assumption);have q38:vU<(a0.size:Int):=of_decide_eq_true (by assumption);have hx38:=yL a0 vU;replace p38:=eq_true p38;replace q38:=eq_true q38)|(refine gG 64 ?_;refine IY 64 Kd.string 9 apm ?_;intro aLQ w42 V_ hb;have awV:=ak (Kd.aG (Kd.eU V_ (Kd.jM (ur jf.out))) (aj (ul HB.out)));replace jf:=ak (Kd.dY (ur jf.out) (Kd.bV V_) hb);replace HB:=bs HB hb;clear hb V_))
            go_ret2;exact⟨_,er,ur (Kd.aW awV.out (fun _ hk=>trivial)),ul HB.out⟩
        ·replace H:=Du H;obtain⟨aH3,aH4,H⟩:=H;replace H:=Du H;obtain⟨aH5,aH6,H⟩:=H;replace H:=Du H;obtain⟨aH7,aH8,H⟩:=H;replace H:=sq H;rcases H with⟨awW,awX,H⟩|⟨c47,awW,awX,H⟩
         ·obtain⟨aLR,apn⟩:=nm ([]:List ByteArray);rw[←apn.out]at H;obtain⟨rfl,rfl⟩:=s2 H;go_wp2_with (refine gG 64 ?_;refine IY 64 Kd.string 9 apn ?_;intro aLS w48 asD hb;have awY:=ak (Kd.aG (Kd.eU asD (Kd.jM (ur jf.out))) (aj (ul HB.out)));replace jf:=ak (Kd.dY (ur jf.out) (Kd.bV asD) hb);replace HB:=bs HB hb;clear hb asD)
          go_ret2;exact⟨_,er,ur (Kd.aW awY.out (fun _ hk=>trivial)),ul HB.out⟩
         ·replace H:=nl H;obtain⟨awZ,H⟩:=H;obtain⟨aLT,apo⟩:=nm (fC++[a0.extract (fD:Int).toNat (vU:Int).toNat]);rw[←apo.out]at H;have H':=ak H;clear H;go_wp2_with ((with_reducible refine dR (b:= .append) (xs:=#[.tmp 65, .tmp 67]) rfl ?_);(try(refine mX (by rfl) ?_;dsimp only));at_builtin;refine aP 65 67 Kd.string 23 9 (.string ⟨#[]⟩) 16 Tryz.underlying23 info9 HB (ur jf.out) apo (by have:=awZ.out;omega) ?_;intro aLU w51 ho hb hg hat;have aw0:=ak (ho);replace HB:=ak (hb);clear ho hb hg hat jf)
          go_roundg k2
          case measure=>exact kl
          case rel=>exact⟨_,_,rs,H',⟨kl⟩,⟨ur aw0.out⟩,⟨ul HB.out⟩⟩
   ·obtain⟨rfl,rfl⟩:=s2 H;go_wp2;go_ret2;exact⟨_,er,ur jf.out,ul HB.out⟩
def lq.f (k:Nat) (a0:ByteArray):Option (Bool):=(bU.f k a0).bind fun aw1=>(if aw1=true then((iU.f a0).bind fun aw2=>(some (aw2.toList==a0.toList)))else(some false))
theorem lq.calls {k:Nat} {a0:ByteArray} {r:Bool} {w:World} (h:lq.f k a0=some r):
  Calls Tryz.prog 200 #[.string a0] w fun e w'=>e= .returned (.bool r)∧Below w.heap.size w w':=by
 have HB:=ak (Below.refl w.heap.size w);unfold lq.f at h;have H:=h;clear h;replace H:=bd H;obtain⟨aw1,A2,H⟩:=H;replace H:=sb H;rcases H with⟨rfl,H⟩|⟨rfl,H⟩
 ·replace H:=bd H;obtain⟨aw2,A4,H⟩:=H;obtain rfl:=s1 H;go_enter Tryz.func200,Tryz.ntmps200;go_wp2_with (first|(refine gA Tryz.func184 (bU.calls A2.out) ?_;intro nd)|(go_at_call 180;refine mB (iU.calls A4.out) ?_;intro w5 hb;replace HB:=bs HB hb;clear hb))
  go_ret;exact⟨er,ul HB.out⟩
 ·obtain rfl:=s1 H;go_enter Tryz.func200,Tryz.ntmps200;go_wp2_with (refine gA Tryz.func184 (bU.calls A2.out) ?_;intro nd)
  go_ret;exact⟨er,ul HB.out⟩
def uF.f (k:Nat) (a0:ByteArray):Option (Bool):=(aQ.f k a0).bind fun aw3=>(if aw3=true then(some (decide ((a0.size:Int)≤40)))else(some false))
theorem uF.calls {k:Nat} {a0:ByteArray} {r:Bool} {w:World} (h:uF.f k a0=some r):
  Calls Tryz.prog 201 #[.string a0] w fun e w'=>e= .returned (.bool r)∧dO w w':=by
 unfold uF.f at h;have H:=h;clear h;replace H:=bd H;obtain⟨aw3,A2,H⟩:=H;replace H:=sb H;rcases H with⟨rfl,H⟩|⟨rfl,H⟩
 ·obtain rfl:=s1 H;go_enter Tryz.func201,Tryz.ntmps201;go_wp2_with (refine gA Tryz.func159 (aQ.calls A2.out) ?_;intro nd)
  go_ret;exact⟨rs,dn⟩
 ·obtain rfl:=s1 H;go_enter Tryz.func201,Tryz.ntmps201;go_wp2_with (refine gA Tryz.func159 (aQ.calls A2.out) ?_;intro nd)
  go_ret;exact⟨rs,dn⟩
end Go.Proofs.YtncdadcmghglkaaGreatDoor.PFnPartAt
