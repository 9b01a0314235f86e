/- Printed walks; conditions: those in each statement. -/
import Derived.Test.YtdimppdlfgnhgaaGreatDoorVFnExactPartAtQt
import Derived.Test.YtdimppdlfgnhgaaGreatDoorVFnExactPartAtYt
import Derived.Test.YtdimppdlfgnhgaaGreatDoorPFnExactPartAtx0
namespace Go.Proofs.YtdimppdlfgnhgaaGreatDoor.PFnExactPartAt
open Go.Proofs.YtdimppdlfgnhgaaGreatDoorW.fD.Kd Go.Proofs.YtdimppdlfgnhgaaGreatDoorW.qy.Kd Go.Proofs.Tryz Go.RowKit Go.Proofs.YtdimppdlfgnhgaaGreatDoor.X Go.Proofs.YtdimppdlfgnhgaaGreatDoorW.fD Go.Proofs.YtdimppdlfgnhgaaGreatDoorW.mZ Go.Proofs.YtdimppdlfgnhgaaGreatDoorW.qy
attribute [local go_sem] BD BF F7 F8 yI yJ BG BH   -- for this text's walks alone
set_option linter.unusedVariables false
set_option linter.unusedSimpArgs false
set_option maxHeartbeats 8000000
set_option maxRecDepth 100000
mutual
def fA.l0:Nat→Int→List (iq)→List ByteArray→List (jm)→List (iq)→List ByteArray→List (jm)→Option ((List (iq))×List ByteArray×(List (jm)))
 |0,_,_,_,_,_,_,_=>none
 |k+1,x4,aoW,aoX,Qe,ag1,ag2,abb=>if x4<(Qe.length:Int)then(if 0≤x4 then((fA.f k ((aH Qe x4).f0) ((aH Qe x4).f1) ((aH Qe x4).f2)).bind fun alr=>(if abb.length<1954687338268 then(fA.l0 k (wrap64 (x4+1)) aoW aoX Qe ag1 ag2 (abb++[(⟨alr.1,alr.2.1,alr.2.2⟩:jm)]))else(none)))else(none))else(some (ag1,ag2,abb))
def fA.f:Nat→List (iq)→List ByteArray→List (jm)→Option ((List (iq))×List ByteArray×(List (jm)))
 |0,_,_,_=>none
 |k+1,aN,aQ,aA=>(some (([]:List (iq)):List (iq))).bind fun Ju=>(if Ju.length+aN.length<4398046511104 then((some (([]:List ByteArray):List ByteArray)).bind fun He=>(if He.length+aQ.length<8796093022208 then(fA.l0 k 0 aN aQ aA (Ju++aN) (He++aQ) ([]:List (jm)))else(none)))else(none))
end
def fA.T1:Bool×List (List Nat×List Nat):=(true,[([],[]),([],[]),([1],[1]),([0,2],[0,2]),([],[]),([],[]),([5],[5]),([4,6,3],[4,6]),([3,7],[3,7]),([],[]),([9,8,7,0,1,2,3,4,5,6,7,8,9],[8,9])])
def fA.B1:List Nat:=[0,0,2,7,0,0,32,127,255,0,1023]
theorem fA.au4:xu .any (opsOf Tryz.f41 1)=fA.T1:=by kernel_rfl
theorem fA.ali:uf fA.T1.2 fA.B1=true:=by kernel_rfl
def fA.T5:Bool×List (List Nat×List Nat):=(true,[([],[]),([0],[0]),([],[]),([2],[2]),([],[]),([3,4],[3,4]),([5],[5]),([6],[6]),([7],[7]),([1,8,7],[1,8]),([0,1,2,3,4,5,6,7,8,9],[]),([10,9,9,0,1,2,3,4,5,6,7,8,9],[9,10])])
def fA.B5:List Nat:=[0,1,0,4,0,28,60,124,252,511,1023,2047]
theorem fA.au5:xu .any (opsOf Tryz.f41 5)=fA.T5:=by kernel_rfl
theorem fA.alj:uf fA.T5.2 fA.B5=true:=by kernel_rfl
set_option maxHeartbeats 8000000 in
set_option maxRecDepth 100000 in
theorem fA.calls(k:Nat):∀(cO:Option Addr) (cZ:Nat) (aN:List (iq)) (dh:Option Addr) (dw:Nat) (aQ:List ByteArray) (bH:Option Addr) (bg:Nat) (aA:List (jm)) (r1:List (iq)) (r2:List ByteArray) (r3:List (jm)) (w:World) (ku:Kd.C lg w cO aN.length aN) (kC:aN.length≤cZ) (kD:Kd.C Kd.string w dh aQ.length aQ) (kE:aQ.length≤dw) (jg:Kd.C k32 w bH aA.length aA) (jh:aA.length≤bg) (h:fA.f k aN aQ aA=some (r1,r2,r3)),
  Calls Tryz.prog 41 #[.agg #[.slice cO aN.length cZ, .slice dh aQ.length dw, .slice bH aA.length bg]] w fun e w'=>∃qZ IL Ko:Value,e= .returned (.agg #[qZ,IL,Ko])∧Kd.R lg 63 w' w.heap.size (fun _=>True) qZ r1∧Kd.R Kd.string 9 w' w.heap.size (fun _=>True) IL r2∧Kd.R k32 32 w' w.heap.size (fun k_=>some k_≠(qZ:Value).ownBlock∧some k_≠(IL:Value).ownBlock) Ko r3∧Below w.heap.size w w':=by
 induction k using Nat.strongRecOn with
 |_ k ih=>
 intro cO cZ aN dh dw aQ bH bg aA r1 r2 r3 w ku kC kD kE jg jh h
 cases k with
 |zero=>exact absurd h (by simp[fA.f])
 |succ k=>
 simp only[fA.f]at h;have IQ:=underlying32;have lU:=ak ku;have mX:=ak kC;clear ku kC;have oN:=ak kD;have qB:=ak kE;clear kD kE;have jF:=ak jg;have lV:=ak jh;clear jg jh;have HB:=ak (Below.refl w.heap.size w);have H:((some (([]:List (iq)):List (iq))).bind fun Ju=>(if Ju.length+aN.length<4398046511104 then((some (([]:List ByteArray):List ByteArray)).bind fun He=>(if He.length+aQ.length<8796093022208 then(fA.l0 k 0 aN aQ aA (Ju++aN) (He++aQ) ([]:List (jm)))else(none)))else(none)))=some (r1,r2,r3):=h;clear h;obtain⟨Ju,Qg⟩:=nm ([]:List (iq));rw[←Qg.out]at H
 (try rw[Option.bind_some]at H);replace H:=nl H;obtain⟨aiU,H⟩:=H;obtain⟨vW,ac0⟩:=nm (Ju++aN);rw[←ac0.out]at H
 (try rw[Option.bind_some]at H);obtain⟨He,Ie⟩:=nm ([]:List ByteArray);rw[←Ie.out]at H
 (try rw[Option.bind_some]at H);replace H:=nl H;obtain⟨aea,H⟩:=H;obtain⟨AO,als⟩:=nm (He++aQ);rw[←als.out]at H
 (try rw[Option.bind_some]at H);have H':=ak H;clear H;go_enter func41,ntmps41;try go_wp2_with (first|(refine bE 1 #[.slice cO aN.length cZ, .slice dh aQ.length dw, .slice bH aA.length bg] 32 ?_;intro bV hg w4 hbox hb;have aW:=ak (hbox);have aIe:=mJ HB hg;have aIf:=mJ HB hg;replace HB:=bs HB hb;clear hb hbox hg)|(refine bE 2 #[.slice none 0 0, .slice none 0 0, .slice none 0 0] 32 ?_;intro gW hg w5 hbox hb;have dM:=ak (hbox);have aIg:=ak ((by rw[hg];exact(aj bb):w.heap.size≤gW));have aIh:=ak ((by rw[hg];exact(aj bb):w.heap.size≤gW));have ZB:=ak ((by rw[hg];exact Nat.ne_of_lt (dI (ub aW.out)):bV≠gW));have ZC:=ak ((by rw[hg];exact Nat.ne_of_gt (dI (ub aW.out)):gW≠bV));replace aW:=kb aW hb;replace HB:=ak (aI bb hb);clear hb hbox hg))
 replace aW:=ak (aC aW.out);replace dM:=ak (aC dM.out);replace HB:=ak (fO HB.out);refine Js (n:=11) (S:=fun w'=>w'.cell? ⟨bV,0,none⟩=some (.slice cO aN.length cZ)∧w'.cell? ⟨bV,1,none⟩=some (.slice dh aQ.length dw)∧w'.cell? ⟨bV,2,none⟩=some (.slice bH aA.length bg)) (ds:=[]) #[false,false,false,false,false,false,false,false,false,false,false] (by kernel_rfl) rfl rfl ⟨(aG aW.out 0).trans rfl,(aG aW.out 1).trans rfl,(aG aW.out 2).trans rfl⟩ (fun hHeld=>?_);refine AL fA.au4 fA.ali (fun ug HW_=>?_)
 generalize w5.drew=w6 at aW dM HB hHeld⊢
 refine rG (i:=1) (N:=some 6) (v:=?_) (a':=?_) #[false,true,false,false,false,false,false,false,false,false,false] rfl rfl (rZ ug.out (by kernel_rfl)) (fun _ _ _ h=>h) (Or.inl ⟨by rfl,?_⟩) ?_ ?_
 rotate_left
 ·intro w';go_simp
  with_reducible rfl
 rotate_left
 ·simp only[Act.put,jB,jC,l_c,bJ,b_];rfl
 refine rG (i:=5) (N:=some 10) (v:=?_) (a':=?_) #[false,true,false,false,false,true,false,false,false,false,false] rfl rfl (rZ ug.out (by kernel_rfl)) (fun _ _ _ h=>h) (Or.inl ⟨by rfl,?_⟩) ?_ ?_
 rotate_left
 ·intro w';go_simp
  with_reducible rfl
 rotate_left
 ·simp only[Act.put,jB,jC,l_c,bJ,b_];rfl
 refine BO (i:=2) (N:=some 7) (v:=?_) (a':=?_) #[false,true,true,false,false,true,false,false,false,false,false] rfl rfl (uw ug.out HW_.out (by kernel_rfl)) (fun _ _ _ h=>h) (Or.inl ⟨by rfl,?_⟩) hHeld ?_ ?_
 rotate_left
 ·rintro w' ⟨s0,s1,s2⟩;go_simp
  with_reducible rfl
 rotate_left
 ·simp only[Act.put,jB,jC,l_c,bJ,b_];rfl
 refine BO (i:=6) (N:=some 11) (v:=?_) (a':=?_) #[false,true,true,false,false,true,true,false,false,false,false] rfl rfl (uw ug.out HW_.out (by kernel_rfl)) (fun _ _ _ h=>h) (Or.inl ⟨by rfl,?_⟩) hHeld ?_ ?_
 rotate_left
 ·rintro w' ⟨s0,s1,s2⟩;go_simp
  with_reducible rfl
 rotate_left
 ·simp only[Act.put,jB,jC,l_c,bJ,b_];rfl
 refine Gj (σ:=Value×Value×Value×Value×Nat) 1 #[true,true,true,true,true,true,true,true,true,true,false] (fun s_=>[(5,s_.1),(8,s_.2.1),(9,s_.2.2.1),(12,s_.2.2.2.1),(3, .pointer (some ⟨s_.2.2.2.2,0,none⟩)),(13, .agg #[s_.2.1,s_.2.2.2.1, .slice none 0 0])]) (fun s_ w'=>(w'.cell? ⟨bV,0,none⟩=some (.slice cO aN.length cZ)∧w'.cell? ⟨bV,1,none⟩=some (.slice dh aQ.length dw)∧w'.cell? ⟨bV,2,none⟩=some (.slice bH aA.length bg))∧(Kd.R lg 63 w' w.heap.size (fun _=>True) s_.2.1 vW)∧(Kd.R Kd.string 9 w' w.heap.size (fun _=>True) s_.2.2.2.1 AO)∧(w'.heap[bV]? =some (.cells #[.slice cO aN.length cZ, .slice dh aQ.length dw, .slice bH aA.length bg] 32 (0,0)))∧(w'.heap[gW]? =some (.cells #[.slice none 0 0, .slice none 0 0, .slice none 0 0] 32 (0,0)))∧(w'.heap[s_.2.2.2.2]? =some (.cells #[.slice none 0 0, .slice none 0 0, .slice none 0 0] 32 (0,0)))∧(w.heap.size≤s_.2.2.2.2)∧(w.heap.size≤s_.2.2.2.2)∧(bV≠s_.2.2.2.2)∧(s_.2.2.2.2≠bV)∧(gW≠s_.2.2.2.2)∧(s_.2.2.2.2≠gW)∧(Below w.heap.size w w')) ?_ ?_
 rotate_left
 ·intro UC;refine Gj (σ:=Value×Value×Value×Value) 2 #[true,true,true,true,true,true,true,true,true,false,false] (fun s_=>[(5,s_.1),(8,s_.2.1),(9,s_.2.2.1),(12,s_.2.2.2),(13, .agg #[s_.2.1,s_.2.2.2, .slice none 0 0])]) (fun s_ w'=>(w'.cell? ⟨bV,0,none⟩=some (.slice cO aN.length cZ)∧w'.cell? ⟨bV,1,none⟩=some (.slice dh aQ.length dw)∧w'.cell? ⟨bV,2,none⟩=some (.slice bH aA.length bg))∧(Kd.R lg 63 w' w.heap.size (fun _=>True) s_.2.1 vW)∧(Kd.R Kd.string 9 w' w.heap.size (fun _=>True) s_.2.2.2 AO)∧(w'.heap[bV]? =some (.cells #[.slice cO aN.length cZ, .slice dh aQ.length dw, .slice bH aA.length bg] 32 (0,0)))∧(w'.heap[gW]? =some (.cells #[.slice none 0 0, .slice none 0 0, .slice none 0 0] 32 (0,0)))∧(Below w.heap.size w w')) ?_ ?_
  rotate_left
  ·intro ajg;refine Gj (σ:=Value×Value×Value×Nat) 3 #[true,true,true,true,true,true,true,false,false,true,false] (fun s_=>[(5,s_.1),(8,s_.2.1),(9,s_.2.2.1),(3, .pointer (some ⟨s_.2.2.2,0,none⟩))]) (fun s_ w'=>(w'.cell? ⟨bV,0,none⟩=some (.slice cO aN.length cZ)∧w'.cell? ⟨bV,1,none⟩=some (.slice dh aQ.length dw)∧w'.cell? ⟨bV,2,none⟩=some (.slice bH aA.length bg))∧(Kd.R lg 63 w' w.heap.size (fun _=>True) s_.2.1 vW)∧(Kd.R Kd.string 9 w' w.heap.size (fun _=>True) s_.2.2.1 He)∧(w'.heap[bV]? =some (.cells #[.slice cO aN.length cZ, .slice dh aQ.length dw, .slice bH aA.length bg] 32 (0,0)))∧(w'.heap[gW]? =some (.cells #[.slice none 0 0, .slice none 0 0, .slice none 0 0] 32 (0,0)))∧(w'.heap[s_.2.2.2]? =some (.cells #[.slice none 0 0, .slice none 0 0, .slice none 0 0] 32 (0,0)))∧(w.heap.size≤s_.2.2.2)∧(w.heap.size≤s_.2.2.2)∧(bV≠s_.2.2.2)∧(s_.2.2.2≠bV)∧(gW≠s_.2.2.2)∧(s_.2.2.2≠gW)∧(Below w.heap.size w w')) ?_ ?_
   rotate_left
   ·intro TD;refine Gj (σ:=Value×Value×Value) 4 #[true,true,true,true,true,true,true,false,false,false,false] (fun s_=>[(5,s_.1),(8,s_.2.1),(9,s_.2.2)]) (fun s_ w'=>(w'.cell? ⟨bV,0,none⟩=some (.slice cO aN.length cZ)∧w'.cell? ⟨bV,1,none⟩=some (.slice dh aQ.length dw)∧w'.cell? ⟨bV,2,none⟩=some (.slice bH aA.length bg))∧(Kd.R lg 63 w' w.heap.size (fun _=>True) s_.2.1 vW)∧(Kd.R Kd.string 9 w' w.heap.size (fun _=>True) s_.2.2 He)∧(w'.heap[bV]? =some (.cells #[.slice cO aN.length cZ, .slice dh aQ.length dw, .slice bH aA.length bg] 32 (0,0)))∧(w'.heap[gW]? =some (.cells #[.slice none 0 0, .slice none 0 0, .slice none 0 0] 32 (0,0)))∧(Below w.heap.size w w')) ?_ ?_
    rotate_left
    ·intro ag3;refine Gj (σ:=Value×Value×Nat) 4 #[true,true,true,true,false,true,true,false,false,true,false] (fun s_=>[(5,s_.1),(8,s_.2.1),(3, .pointer (some ⟨s_.2.2,0,none⟩))]) (fun s_ w'=>(w'.cell? ⟨bV,0,none⟩=some (.slice cO aN.length cZ)∧w'.cell? ⟨bV,1,none⟩=some (.slice dh aQ.length dw)∧w'.cell? ⟨bV,2,none⟩=some (.slice bH aA.length bg))∧(Kd.R lg 63 w' w.heap.size (fun _=>True) s_.2.1 vW)∧(w'.heap[bV]? =some (.cells #[.slice cO aN.length cZ, .slice dh aQ.length dw, .slice bH aA.length bg] 32 (0,0)))∧(w'.heap[gW]? =some (.cells #[.slice none 0 0, .slice none 0 0, .slice none 0 0] 32 (0,0)))∧(w'.heap[s_.2.2]? =some (.cells #[.slice none 0 0, .slice none 0 0, .slice none 0 0] 32 (0,0)))∧(w.heap.size≤s_.2.2)∧(w.heap.size≤s_.2.2)∧(bV≠s_.2.2)∧(s_.2.2≠bV)∧(gW≠s_.2.2)∧(s_.2.2≠gW)∧(Below w.heap.size w w')) ?_ ?_
     rotate_left
     ·intro ag4;refine Gj (σ:=Value×Value×Nat) 4 #[true,true,true,false,true,true,true,false,false,true,false] (fun s_=>[(5,s_.1),(9,s_.2.1),(3, .pointer (some ⟨s_.2.2,0,none⟩))]) (fun s_ w'=>(w'.cell? ⟨bV,0,none⟩=some (.slice cO aN.length cZ)∧w'.cell? ⟨bV,1,none⟩=some (.slice dh aQ.length dw)∧w'.cell? ⟨bV,2,none⟩=some (.slice bH aA.length bg))∧(Kd.R lg 63 w' w.heap.size (fun _=>True) s_.1 Ju)∧(Kd.R Kd.string 9 w' w.heap.size (fun _=>True) s_.2.1 He)∧(w'.heap[bV]? =some (.cells #[.slice cO aN.length cZ, .slice dh aQ.length dw, .slice bH aA.length bg] 32 (0,0)))∧(w'.heap[gW]? =some (.cells #[.slice none 0 0, .slice none 0 0, .slice none 0 0] 32 (0,0)))∧(w'.heap[s_.2.2]? =some (.cells #[.slice none 0 0, .slice none 0 0, .slice none 0 0] 32 (0,0)))∧(w.heap.size≤s_.2.2)∧(w.heap.size≤s_.2.2)∧(bV≠s_.2.2)∧(s_.2.2≠bV)∧(gW≠s_.2.2)∧(s_.2.2≠gW)∧(Below w.heap.size w w')) ?_ ?_
      rotate_left
      ·intro abd;refine Gj (σ:=Value×Value) 5 #[true,true,true,true,false,true,true,false,false,false,false] (fun s_=>[(5,s_.1),(8,s_.2)]) (fun s_ w'=>(w'.cell? ⟨bV,0,none⟩=some (.slice cO aN.length cZ)∧w'.cell? ⟨bV,1,none⟩=some (.slice dh aQ.length dw)∧w'.cell? ⟨bV,2,none⟩=some (.slice bH aA.length bg))∧(Kd.R lg 63 w' w.heap.size (fun _=>True) s_.2 vW)∧(w'.heap[bV]? =some (.cells #[.slice cO aN.length cZ, .slice dh aQ.length dw, .slice bH aA.length bg] 32 (0,0)))∧(w'.heap[gW]? =some (.cells #[.slice none 0 0, .slice none 0 0, .slice none 0 0] 32 (0,0)))∧(Below w.heap.size w w')) ?_ ?_
       rotate_left
       ·intro ay3;refine Gj (σ:=Value×Value) 5 #[true,true,true,false,true,true,true,false,false,false,false] (fun s_=>[(5,s_.1),(9,s_.2)]) (fun s_ w'=>(w'.cell? ⟨bV,0,none⟩=some (.slice cO aN.length cZ)∧w'.cell? ⟨bV,1,none⟩=some (.slice dh aQ.length dw)∧w'.cell? ⟨bV,2,none⟩=some (.slice bH aA.length bg))∧(Kd.R lg 63 w' w.heap.size (fun _=>True) s_.1 Ju)∧(Kd.R Kd.string 9 w' w.heap.size (fun _=>True) s_.2 He)∧(w'.heap[bV]? =some (.cells #[.slice cO aN.length cZ, .slice dh aQ.length dw, .slice bH aA.length bg] 32 (0,0)))∧(w'.heap[gW]? =some (.cells #[.slice none 0 0, .slice none 0 0, .slice none 0 0] 32 (0,0)))∧(Below w.heap.size w w')) ?_ ?_
        rotate_left
        ·intro asw;refine Gj (σ:=Value×Nat) 5 #[true,true,true,false,false,true,true,false,false,true,false] (fun s_=>[(5,s_.1),(3, .pointer (some ⟨s_.2,0,none⟩))]) (fun s_ w'=>(w'.cell? ⟨bV,0,none⟩=some (.slice cO aN.length cZ)∧w'.cell? ⟨bV,1,none⟩=some (.slice dh aQ.length dw)∧w'.cell? ⟨bV,2,none⟩=some (.slice bH aA.length bg))∧(Kd.R lg 63 w' w.heap.size (fun _=>True) s_.1 Ju)∧(w'.heap[bV]? =some (.cells #[.slice cO aN.length cZ, .slice dh aQ.length dw, .slice bH aA.length bg] 32 (0,0)))∧(w'.heap[gW]? =some (.cells #[.slice none 0 0, .slice none 0 0, .slice none 0 0] 32 (0,0)))∧(w'.heap[s_.2]? =some (.cells #[.slice none 0 0, .slice none 0 0, .slice none 0 0] 32 (0,0)))∧(w.heap.size≤s_.2)∧(w.heap.size≤s_.2)∧(bV≠s_.2)∧(s_.2≠bV)∧(gW≠s_.2)∧(s_.2≠gW)∧(Below w.heap.size w w')) ?_ ?_
         rotate_left
         ·intro asx;refine Gj (σ:=Value×Nat) 5 #[false,true,true,false,true,true,true,false,false,true,false] (fun s_=>[(9,s_.1),(3, .pointer (some ⟨s_.2,0,none⟩))]) (fun s_ w'=>(w'.cell? ⟨bV,0,none⟩=some (.slice cO aN.length cZ)∧w'.cell? ⟨bV,1,none⟩=some (.slice dh aQ.length dw)∧w'.cell? ⟨bV,2,none⟩=some (.slice bH aA.length bg))∧(Kd.R Kd.string 9 w' w.heap.size (fun _=>True) s_.1 He)∧(w'.heap[bV]? =some (.cells #[.slice cO aN.length cZ, .slice dh aQ.length dw, .slice bH aA.length bg] 32 (0,0)))∧(w'.heap[gW]? =some (.cells #[.slice none 0 0, .slice none 0 0, .slice none 0 0] 32 (0,0)))∧(w'.heap[s_.2]? =some (.cells #[.slice none 0 0, .slice none 0 0, .slice none 0 0] 32 (0,0)))∧(w.heap.size≤s_.2)∧(w.heap.size≤s_.2)∧(bV≠s_.2)∧(s_.2≠bV)∧(gW≠s_.2)∧(s_.2≠gW)∧(Below w.heap.size w w')) ?_ ?_
          rotate_left
          ·intro asy;refine Gj (σ:=Value) 6 #[true,true,true,false,false,true,true,false,false,false,false] (fun s_=>[(5,s_)]) (fun s_ w'=>(w'.cell? ⟨bV,0,none⟩=some (.slice cO aN.length cZ)∧w'.cell? ⟨bV,1,none⟩=some (.slice dh aQ.length dw)∧w'.cell? ⟨bV,2,none⟩=some (.slice bH aA.length bg))∧(Kd.R lg 63 w' w.heap.size (fun _=>True) s_ Ju)∧(w'.heap[bV]? =some (.cells #[.slice cO aN.length cZ, .slice dh aQ.length dw, .slice bH aA.length bg] 32 (0,0)))∧(w'.heap[gW]? =some (.cells #[.slice none 0 0, .slice none 0 0, .slice none 0 0] 32 (0,0)))∧(Below w.heap.size w w')) ?_ ?_
           rotate_left
           ·intro hJ0;refine Gj (σ:=Value) 6 #[false,true,true,false,true,true,true,false,false,false,false] (fun s_=>[(9,s_)]) (fun s_ w'=>(w'.cell? ⟨bV,0,none⟩=some (.slice cO aN.length cZ)∧w'.cell? ⟨bV,1,none⟩=some (.slice dh aQ.length dw)∧w'.cell? ⟨bV,2,none⟩=some (.slice bH aA.length bg))∧(Kd.R Kd.string 9 w' w.heap.size (fun _=>True) s_ He)∧(w'.heap[bV]? =some (.cells #[.slice cO aN.length cZ, .slice dh aQ.length dw, .slice bH aA.length bg] 32 (0,0)))∧(w'.heap[gW]? =some (.cells #[.slice none 0 0, .slice none 0 0, .slice none 0 0] 32 (0,0)))∧(Below w.heap.size w w')) ?_ ?_
            rotate_left
            ·intro hJ4;refine Gj (σ:=Nat) 6 #[false,true,true,false,false,true,true,false,false,true,false] (fun s_=>[(3, .pointer (some ⟨s_,0,none⟩))]) (fun s_ w'=>(w'.cell? ⟨bV,0,none⟩=some (.slice cO aN.length cZ)∧w'.cell? ⟨bV,1,none⟩=some (.slice dh aQ.length dw)∧w'.cell? ⟨bV,2,none⟩=some (.slice bH aA.length bg))∧(w'.heap[bV]? =some (.cells #[.slice cO aN.length cZ, .slice dh aQ.length dw, .slice bH aA.length bg] 32 (0,0)))∧(w'.heap[gW]? =some (.cells #[.slice none 0 0, .slice none 0 0, .slice none 0 0] 32 (0,0)))∧(w'.heap[s_]? =some (.cells #[.slice none 0 0, .slice none 0 0, .slice none 0 0] 32 (0,0)))∧(w.heap.size≤s_)∧(w.heap.size≤s_)∧(bV≠s_)∧(s_≠bV)∧(gW≠s_)∧(s_≠gW)∧(Below w.heap.size w w')) ?_ ?_
             rotate_left
             ·intro hJ9;refine alu (i:=0) (j:=4) (k:=9) (Ni:=some 5) (Nj:=some 9) (Nk:=some 3) #[true,true,true,false,false,true,true,false,false,false,false] #[false,true,true,false,true,true,true,false,false,false,false] #[false,true,true,false,false,true,true,false,false,true,false] rfl rfl rfl rfl rfl rfl (ac1 ug.out (by kernel_rfl)) (by decide) (by decide) (by decide) (fun K hK=>?_) (fun K hK=>?_) (fun K hK=>?_)
              ·skip
               refine tJ lg _ 63 ?hg (N:=5) ?hd (xs:=([]:List (iq))) (inner:=[]) (ok:=fun _=>True) (rE:=fun _=>True) ?hr ?hp (fun _ hk=>hk) trivial (Below.refl _ _) (Nat.le_refl _) (by simp) ?_;(case hd=>rfl);(case hg=>rfl);(case hr=>first|(go_simp;done)|(go_simp;rfl));(case hp=>exact(jJ.none _ _));intro uK w7 Us hb wI lD;clear wI lD
               (first|rw[←Qg.out]at Us|(simp only[Int.reduceToNat]at Us;rw[←Qg.out]at Us));have nX:=ak (bP Us (aj bb));replace aW:=kb aW hb;replace dM:=kb dM hb;replace HB:=ak (aI bb hb);clear hb Us;refine hK.out _ _ ⟨(aG aW.out 0).trans rfl,(aG aW.out 1).trans rfl,(aG aW.out 2).trans rfl⟩ (fun hHeld=>?_);clear hK K;refine iT (a':=?_) ?_ ?_
               rotate_left
               ·show Act.put _ (some 5) _=_
                simp only[Act.put,jB,jC,l_c,bJ,b_];rfl
               exact iT (by first|(simp only[iF,Act.put,jB,jC,l_c];done)|(simp only[iF,Act.put,jB,jC,l_c];rfl)) (hJ0 (uK) _ ⟨hHeld,(ur nX.out),(ub aW.out),(ub dM.out),bb⟩)
              ·skip
               refine tJ Kd.string _ 9 ?hg (N:=9) ?hd (xs:=([]:List ByteArray)) (inner:=[]) (ok:=fun _=>True) (rE:=fun _=>True) ?hr ?hp (fun _ hk=>hk) trivial (Below.refl _ _) (Nat.le_refl _) (by simp) ?_;(case hd=>rfl);(case hg=>rfl);(case hr=>first|(go_simp;done)|(go_simp;rfl));(case hp=>exact(jJ.none _ _));intro vX w7 Us hb wI lD;clear wI lD
               (first|rw[←Ie.out]at Us|(simp only[Int.reduceToNat]at Us;rw[←Ie.out]at Us));have lX:=ak (bP Us (aj bb));replace aW:=kb aW hb;replace dM:=kb dM hb;replace HB:=ak (aI bb hb);clear hb Us;refine hK.out _ _ ⟨(aG aW.out 0).trans rfl,(aG aW.out 1).trans rfl,(aG aW.out 2).trans rfl⟩ (fun hHeld=>?_);clear hK K;refine iT (a':=?_) ?_ ?_
               rotate_left
               ·show Act.put _ (some 9) _=_
                simp only[Act.put,jB,jC,l_c,bJ,b_];rfl
               exact iT (by first|(simp only[iF,Act.put,jB,jC,l_c];done)|(simp only[iF,Act.put,jB,jC,l_c];rfl)) (hJ4 (vX) _ ⟨hHeld,(ur lX.out),(ub aW.out),(ub dM.out),bb⟩)
              ·skip
               refine xW ?hg (N:=3) ?hd (cs:=#[.slice none 0 0, .slice none 0 0, .slice none 0 0]) (t:=32) ?hr ?_;(case hd=>rfl);(case hg=>rfl);(case hr=>first|(go_simp;done)|(go_simp;rfl));intro dF hg w7 hbox hb;have iD:=ak (hbox);have tV:=ak ((by rw[hg];exact(aj bb):w.heap.size≤dF));have tX:=ak ((by rw[hg];exact(aj bb):w.heap.size≤dF));have fE:=ak ((by rw[hg];exact Nat.ne_of_lt (dI (ub aW.out)):bV≠dF));have iZ:=ak ((by rw[hg];exact Nat.ne_of_gt (dI (ub aW.out)):dF≠bV));have iG:=ak ((by rw[hg];exact Nat.ne_of_lt (dI (ub dM.out)):gW≠dF));have jd:=ak ((by rw[hg];exact Nat.ne_of_gt (dI (ub dM.out)):dF≠gW));replace aW:=kb aW hb;replace dM:=kb dM hb;replace HB:=ak (aI bb hb);clear hb hbox hg;refine hK.out _ _ ⟨(aG aW.out 0).trans rfl,(aG aW.out 1).trans rfl,(aG aW.out 2).trans rfl⟩ (fun hHeld=>?_);clear hK K;refine iT (a':=?_) ?_ ?_
               rotate_left
               ·show Act.put _ (some 3) _=_
                simp only[Act.put,jB,jC,l_c,bJ,b_];rfl
               exact iT (by first|(simp only[iF,Act.put,jB,jC,l_c];done)|(simp only[iF,Act.put,jB,jC,l_c];rfl)) (hJ9 (dF) _ ⟨hHeld,(ub aW.out),(ub dM.out),(ub iD.out),tV.out,tX.out,fE.out,iZ.out,iG.out,jd.out,bb⟩)
             ·skip
              rintro dF w8 ⟨Tv,Ia,Ec,Ed,Hr,Na,VJ,VK,VL,VN,VO⟩;have ng:ah (w8.heap[bV]? =some (.cells #[.slice cO aN.length cZ, .slice dh aQ.length dw, .slice bH aA.length bg] 32 (0,0))):=⟨Ia⟩
              have ni:ah (w8.heap[gW]? =some (.cells #[.slice none 0 0, .slice none 0 0, .slice none 0 0] 32 (0,0))):=⟨Ec⟩
              have qx:ah (w8.heap[dF]? =some (.cells #[.slice none 0 0, .slice none 0 0, .slice none 0 0] 32 (0,0))):=⟨Ed⟩
              have sV:ah (w.heap.size≤dF):=⟨Hr⟩
              have xQ:ah (w.heap.size≤dF):=⟨Na⟩
              have Ht:ah (bV≠dF):=⟨VJ⟩
              have Nb:ah (dF≠bV):=⟨VK⟩
              have OM:ah (gW≠dF):=⟨VL⟩
              have W_:ah (dF≠gW):=⟨VN⟩
              have Xa:ah (Below w.heap.size w w8):=⟨VO⟩
              clear aW dM HB Ia Ec Ed Hr Na VJ VK VL VN VO;have aW:=ng;have dM:=ni;have iD:=qx;have tV:=sV;have tX:=xQ;have fE:=Ht;have iZ:=Nb;have iG:=OM;have jd:=W_;have HB:=Xa;clear ng ni qx sV xQ Ht Nb OM W_ Xa;have hHeld:w8.cell? ⟨bV,0,none⟩=some (.slice cO aN.length cZ)∧w8.cell? ⟨bV,1,none⟩=some (.slice dh aQ.length dw)∧w8.cell? ⟨bV,2,none⟩=some (.slice bH aA.length bg):=Tv;refine iT (a':=?_) ?_ ?_
              rotate_left
              ·simp only[iF,Act.put,jB,jC,l_c];rfl
              refine acT (i:=0) (j:=4) (Ni:=some 5) (Nj:=some 9) #[true,true,true,false,false,true,true,false,false,true,false] #[false,true,true,false,true,true,true,false,false,true,false] rfl rfl rfl rfl (KF ug.out (by kernel_rfl)) (by decide) (by decide) (fun K hK=>?_) (fun K hK=>?_)
              ·skip
               refine tJ lg _ 63 ?hg (N:=5) ?hd (xs:=([]:List (iq))) (inner:=[]) (ok:=fun _=>True) (rE:=fun _=>True) ?hr ?hp (fun _ hk=>hk) trivial (Below.refl _ _) (Nat.le_refl _) (by simp) ?_;(case hd=>rfl);(case hg=>rfl);(case hr=>first|(go_simp;done)|(go_simp;rfl));(case hp=>exact(jJ.none _ _));intro uK w9 Xj hb wI lD;clear wI lD
               (first|rw[←Qg.out]at Xj|(simp only[Int.reduceToNat]at Xj;rw[←Qg.out]at Xj));have nX:=ak (bP Xj (aj bb));replace aW:=kb aW hb;replace dM:=kb dM hb;replace iD:=kb iD hb;replace HB:=ak (aI bb hb);clear hb Xj;refine hK.out _ _ ⟨(aG aW.out 0).trans rfl,(aG aW.out 1).trans rfl,(aG aW.out 2).trans rfl⟩ (fun hHeld=>?_);clear hK K;refine iT (a':=?_) ?_ ?_
               rotate_left
               ·show Act.put _ (some 5) _=_
                simp only[Act.put,jB,jC,l_c,bJ,b_];rfl
               exact iT (by first|(simp only[iF,Act.put,jB,jC,l_c];done)|(simp only[iF,Act.put,jB,jC,l_c];rfl)) (asx (uK,dF) _ ⟨hHeld,(ur nX.out),(ub aW.out),(ub dM.out),(ub iD.out),tV.out,tX.out,fE.out,iZ.out,iG.out,jd.out,bb⟩)
              ·skip
               refine tJ Kd.string _ 9 ?hg (N:=9) ?hd (xs:=([]:List ByteArray)) (inner:=[]) (ok:=fun _=>True) (rE:=fun _=>True) ?hr ?hp (fun _ hk=>hk) trivial (Below.refl _ _) (Nat.le_refl _) (by simp) ?_;(case hd=>rfl);(case hg=>rfl);(case hr=>first|(go_simp;done)|(go_simp;rfl));(case hp=>exact(jJ.none _ _));intro vX w9 Xj hb wI lD;clear wI lD
               (first|rw[←Ie.out]at Xj|(simp only[Int.reduceToNat]at Xj;rw[←Ie.out]at Xj));have lX:=ak (bP Xj (aj bb));replace aW:=kb aW hb;replace dM:=kb dM hb;replace iD:=kb iD hb;replace HB:=ak (aI bb hb);clear hb Xj;refine hK.out _ _ ⟨(aG aW.out 0).trans rfl,(aG aW.out 1).trans rfl,(aG aW.out 2).trans rfl⟩ (fun hHeld=>?_);clear hK K;refine iT (a':=?_) ?_ ?_
               rotate_left
               ·show Act.put _ (some 9) _=_
                simp only[Act.put,jB,jC,l_c,bJ,b_];rfl
               exact iT (by first|(simp only[iF,Act.put,jB,jC,l_c];done)|(simp only[iF,Act.put,jB,jC,l_c];rfl)) (asy (vX,dF) _ ⟨hHeld,(ur lX.out),(ub aW.out),(ub dM.out),(ub iD.out),tV.out,tX.out,fE.out,iZ.out,iG.out,jd.out,bb⟩)
            ·skip
             rintro vX w9 ⟨Tv,Ia,Ec,Ed,Hr⟩;have ng:ah (Kd.R Kd.string 9 w9 w.heap.size (fun _=>True) vX He):=⟨Ia⟩
             have ni:ah (w9.heap[bV]? =some (.cells #[.slice cO aN.length cZ, .slice dh aQ.length dw, .slice bH aA.length bg] 32 (0,0))):=⟨Ec⟩
             have qx:ah (w9.heap[gW]? =some (.cells #[.slice none 0 0, .slice none 0 0, .slice none 0 0] 32 (0,0))):=⟨Ed⟩
             have sV:ah (Below w.heap.size w w9):=⟨Hr⟩
             clear aW dM HB Ia Ec Ed Hr;have lX:=ng;have aW:=ni;have dM:=qx;have HB:=sV;clear ng ni qx sV;have hHeld:w9.cell? ⟨bV,0,none⟩=some (.slice cO aN.length cZ)∧w9.cell? ⟨bV,1,none⟩=some (.slice dh aQ.length dw)∧w9.cell? ⟨bV,2,none⟩=some (.slice bH aA.length bg):=Tv;refine iT (a':=?_) ?_ ?_
             rotate_left
             ·simp only[iF,Act.put,jB,jC,l_c];rfl
             refine acT (i:=0) (j:=9) (Ni:=some 5) (Nj:=some 3) #[true,true,true,false,true,true,true,false,false,false,false] #[false,true,true,false,true,true,true,false,false,true,false] rfl rfl rfl rfl (KF ug.out (by kernel_rfl)) (by decide) (by decide) (fun K hK=>?_) (fun K hK=>?_)
             ·skip
              refine tJ lg _ 63 ?hg (N:=5) ?hd (xs:=([]:List (iq))) (inner:=[]) (ok:=fun _=>True) (rE:=fun _=>True) ?hr ?hp (fun _ hk=>hk) trivial (Below.refl _ _) (Nat.le_refl _) (by simp) ?_;(case hd=>rfl);(case hg=>rfl);(case hr=>first|(go_simp;done)|(go_simp;rfl));(case hp=>exact(jJ.none _ _));intro uK w10 Xk hb wI lD;clear wI lD
              (first|rw[←Qg.out]at Xk|(simp only[Int.reduceToNat]at Xk;rw[←Qg.out]at Xk));have nX:=ak (bP Xk (aj bb));replace lX:=rb lX hb;replace aW:=kb aW hb;replace dM:=kb dM hb;replace HB:=ak (aI bb hb);clear hb Xk;refine hK.out _ _ ⟨(aG aW.out 0).trans rfl,(aG aW.out 1).trans rfl,(aG aW.out 2).trans rfl⟩ (fun hHeld=>?_);clear hK K;refine iT (a':=?_) ?_ ?_
              rotate_left
              ·show Act.put _ (some 5) _=_
               simp only[Act.put,jB,jC,l_c,bJ,b_];rfl
              exact iT (by first|(simp only[iF,Act.put,jB,jC,l_c];done)|(simp only[iF,Act.put,jB,jC,l_c];rfl)) (asw (uK,vX) _ ⟨hHeld,(ur nX.out),(ur lX.out),(ub aW.out),(ub dM.out),bb⟩)
             ·skip
              refine xW ?hg (N:=3) ?hd (cs:=#[.slice none 0 0, .slice none 0 0, .slice none 0 0]) (t:=32) ?hr ?_;(case hd=>rfl);(case hg=>rfl);(case hr=>first|(go_simp;done)|(go_simp;rfl));intro dF hg w10 hbox hb;have iD:=ak (hbox);have tV:=ak ((by rw[hg];exact(aj bb):w.heap.size≤dF));have tX:=ak ((by rw[hg];exact(aj bb):w.heap.size≤dF));have fE:=ak ((by rw[hg];exact Nat.ne_of_lt (dI (ub aW.out)):bV≠dF));have iZ:=ak ((by rw[hg];exact Nat.ne_of_gt (dI (ub aW.out)):dF≠bV));have iG:=ak ((by rw[hg];exact Nat.ne_of_lt (dI (ub dM.out)):gW≠dF));have jd:=ak ((by rw[hg];exact Nat.ne_of_gt (dI (ub dM.out)):dF≠gW));replace lX:=rb lX hb;replace aW:=kb aW hb;replace dM:=kb dM hb;replace HB:=ak (aI bb hb);clear hb hbox hg;refine hK.out _ _ ⟨(aG aW.out 0).trans rfl,(aG aW.out 1).trans rfl,(aG aW.out 2).trans rfl⟩ (fun hHeld=>?_);clear hK K;refine iT (a':=?_) ?_ ?_
              rotate_left
              ·show Act.put _ (some 3) _=_
               simp only[Act.put,jB,jC,l_c,bJ,b_];rfl
              exact iT (by first|(simp only[iF,Act.put,jB,jC,l_c];done)|(simp only[iF,Act.put,jB,jC,l_c];rfl)) (asy (vX,dF) _ ⟨hHeld,(ur lX.out),(ub aW.out),(ub dM.out),(ub iD.out),tV.out,tX.out,fE.out,iZ.out,iG.out,jd.out,bb⟩)
           ·skip
            rintro uK w9 ⟨Tv,Ia,Ec,Ed,Hr⟩;have ng:ah (Kd.R lg 63 w9 w.heap.size (fun _=>True) uK Ju):=⟨Ia⟩
            have ni:ah (w9.heap[bV]? =some (.cells #[.slice cO aN.length cZ, .slice dh aQ.length dw, .slice bH aA.length bg] 32 (0,0))):=⟨Ec⟩
            have qx:ah (w9.heap[gW]? =some (.cells #[.slice none 0 0, .slice none 0 0, .slice none 0 0] 32 (0,0))):=⟨Ed⟩
            have sV:ah (Below w.heap.size w w9):=⟨Hr⟩
            clear aW dM HB Ia Ec Ed Hr;have nX:=ng;have aW:=ni;have dM:=qx;have HB:=sV;clear ng ni qx sV;have hHeld:w9.cell? ⟨bV,0,none⟩=some (.slice cO aN.length cZ)∧w9.cell? ⟨bV,1,none⟩=some (.slice dh aQ.length dw)∧w9.cell? ⟨bV,2,none⟩=some (.slice bH aA.length bg):=Tv;refine iT (a':=?_) ?_ ?_
            rotate_left
            ·simp only[iF,Act.put,jB,jC,l_c];rfl
            refine alu (i:=3) (j:=4) (k:=9) (Ni:=some 8) (Nj:=some 9) (Nk:=some 3) #[true,true,true,true,false,true,true,false,false,false,false] #[true,true,true,false,true,true,true,false,false,false,false] #[true,true,true,false,false,true,true,false,false,true,false] rfl rfl rfl rfl rfl rfl (ac1 ug.out (by kernel_rfl)) (by decide) (by decide) (by decide) (fun K hK=>?_) (fun K hK=>?_) (fun K hK=>?_)
            ·skip
             refine mV lg (w0:=w) w.heap.size (by rfl) (.tmp 5) (.tmp 7) 29 63 (.agg #[(.string ⟨#[]⟩),(.string ⟨#[]⟩)]) 32 rfl underlying29 Aq rfl (by decide) (by omega) uK Ju aN _ _ _ (fun _=>True) (fun _=>False) rfl rfl ?aO ?aR (fun _ _ h=>h) (fun _ h=>h.elim) ?aF ?aB ?aS ?aL ?_
             (case aR=>repeat(first|exact(aK lU.out HB.out)|(with_reducible refine Kd.iP ?_ _)|(with_reducible refine Kd.iQ ?_ _)|(with_reducible refine Kd.jP ?_)))
             (case aB=>exact bb)
             (case aF=>exact(fun _ _=>trivial))
             (case aO=>exact(ur nX.out))
             (case aS=>exact(aj bb))
             (case aL=>have:=aiU.out;omega);intro ET w10 ho hb hg hat
             rw[←ac0.out]at ho;have ng:=ak (eu (g:=bV) (o:= .cells #[.slice cO aN.length cZ, .slice dh aQ.length dw, .slice bH aA.length bg] 32 (0,0)) (ub aW.out) hg (um nX.out aW.out (by decide)));have ni:=ak (eu (g:=gW) (o:= .cells #[.slice none 0 0, .slice none 0 0, .slice none 0 0] 32 (0,0)) (ub dM.out) hg (um nX.out dM.out (by decide)));have qx:=ak (hb);have sV:=ak (ho);clear aW dM HB nX;have aW:=ng;have dM:=ni;have HB:=qx;have oH:=sV;clear ng ni qx sV ho hb hg hat
             refine hK.out _ _ ⟨(aG aW.out 0).trans rfl,(aG aW.out 1).trans rfl,(aG aW.out 2).trans rfl⟩ (fun hHeld=>?_);clear hK K;refine iT (a':=?_) ?_ ?_
             rotate_left
             ·show Act.put _ (some 8) _=_
              simp only[Act.put,jB,jC,l_c,bJ,b_];rfl
             exact iT (by first|(simp only[iF,Act.put,jB,jC,l_c];done)|(simp only[iF,Act.put,jB,jC,l_c];rfl)) (ay3 (uK,ET) _ ⟨hHeld,(ur oH.out),(ub aW.out),(ub dM.out),bb⟩)
            ·skip
             refine tJ Kd.string _ 9 ?hg (N:=9) ?hd (xs:=([]:List ByteArray)) (inner:=[]) (ok:=fun _=>True) (rE:=fun _=>True) ?hr ?hp (fun _ hk=>hk) trivial (Below.refl _ _) (Nat.le_refl _) (by simp) ?_;(case hd=>rfl);(case hg=>rfl);(case hr=>first|(go_simp;done)|(go_simp;rfl));(case hp=>exact(jJ.none _ _));intro vX w10 Xk hb wI lD;clear wI lD
             (first|rw[←Ie.out]at Xk|(simp only[Int.reduceToNat]at Xk;rw[←Ie.out]at Xk));have lX:=ak (bP Xk (aj bb));replace nX:=rb nX hb;replace aW:=kb aW hb;replace dM:=kb dM hb;replace HB:=ak (aI bb hb);clear hb Xk;refine hK.out _ _ ⟨(aG aW.out 0).trans rfl,(aG aW.out 1).trans rfl,(aG aW.out 2).trans rfl⟩ (fun hHeld=>?_);clear hK K;refine iT (a':=?_) ?_ ?_
             rotate_left
             ·show Act.put _ (some 9) _=_
              simp only[Act.put,jB,jC,l_c,bJ,b_];rfl
             exact iT (by first|(simp only[iF,Act.put,jB,jC,l_c];done)|(simp only[iF,Act.put,jB,jC,l_c];rfl)) (asw (uK,vX) _ ⟨hHeld,(ur nX.out),(ur lX.out),(ub aW.out),(ub dM.out),bb⟩)
            ·skip
             refine xW ?hg (N:=3) ?hd (cs:=#[.slice none 0 0, .slice none 0 0, .slice none 0 0]) (t:=32) ?hr ?_;(case hd=>rfl);(case hg=>rfl);(case hr=>first|(go_simp;done)|(go_simp;rfl));intro dF hg w10 hbox hb;have iD:=ak (hbox);have tV:=ak ((by rw[hg];exact(aj bb):w.heap.size≤dF));have tX:=ak ((by rw[hg];exact(aj bb):w.heap.size≤dF));have fE:=ak ((by rw[hg];exact Nat.ne_of_lt (dI (ub aW.out)):bV≠dF));have iZ:=ak ((by rw[hg];exact Nat.ne_of_gt (dI (ub aW.out)):dF≠bV));have iG:=ak ((by rw[hg];exact Nat.ne_of_lt (dI (ub dM.out)):gW≠dF));have jd:=ak ((by rw[hg];exact Nat.ne_of_gt (dI (ub dM.out)):dF≠gW));replace nX:=rb nX hb;replace aW:=kb aW hb;replace dM:=kb dM hb;replace HB:=ak (aI bb hb);clear hb hbox hg;refine hK.out _ _ ⟨(aG aW.out 0).trans rfl,(aG aW.out 1).trans rfl,(aG aW.out 2).trans rfl⟩ (fun hHeld=>?_);clear hK K;refine iT (a':=?_) ?_ ?_
             rotate_left
             ·show Act.put _ (some 3) _=_
              simp only[Act.put,jB,jC,l_c,bJ,b_];rfl
             exact iT (by first|(simp only[iF,Act.put,jB,jC,l_c];done)|(simp only[iF,Act.put,jB,jC,l_c];rfl)) (asx (uK,dF) _ ⟨hHeld,(ur nX.out),(ub aW.out),(ub dM.out),(ub iD.out),tV.out,tX.out,fE.out,iZ.out,iG.out,jd.out,bb⟩)
          ·skip
           rintro⟨vX,dF⟩ w10 ⟨Tv,Ia,Ec,Ed,Hr,Na,VJ,VK,VL,VN,VO,G_⟩;have ng:ah (Kd.R Kd.string 9 w10 w.heap.size (fun _=>True) vX He):=⟨Ia⟩
           have ni:ah (w10.heap[bV]? =some (.cells #[.slice cO aN.length cZ, .slice dh aQ.length dw, .slice bH aA.length bg] 32 (0,0))):=⟨Ec⟩
           have qx:ah (w10.heap[gW]? =some (.cells #[.slice none 0 0, .slice none 0 0, .slice none 0 0] 32 (0,0))):=⟨Ed⟩
           have sV:ah (w10.heap[dF]? =some (.cells #[.slice none 0 0, .slice none 0 0, .slice none 0 0] 32 (0,0))):=⟨Hr⟩
           have xQ:ah (w.heap.size≤dF):=⟨Na⟩
           have Ht:ah (w.heap.size≤dF):=⟨VJ⟩
           have Nb:ah (bV≠dF):=⟨VK⟩
           have OM:ah (dF≠bV):=⟨VL⟩
           have W_:ah (gW≠dF):=⟨VN⟩
           have Xa:ah (dF≠gW):=⟨VO⟩
           have Ib:ah (Below w.heap.size w w10):=⟨G_⟩
           clear aW dM HB Ia Ec Ed Hr Na VJ VK VL VN VO G_;have lX:=ng;have aW:=ni;have dM:=qx;have iD:=sV;have tV:=xQ;have tX:=Ht;have fE:=Nb;have iZ:=OM;have iG:=W_;have jd:=Xa;have HB:=Ib;clear ng ni qx sV xQ Ht Nb OM W_ Xa Ib;have hHeld:w10.cell? ⟨bV,0,none⟩=some (.slice cO aN.length cZ)∧w10.cell? ⟨bV,1,none⟩=some (.slice dh aQ.length dw)∧w10.cell? ⟨bV,2,none⟩=some (.slice bH aA.length bg):=Tv;refine iT (a':=?_) ?_ ?_
           rotate_left
           ·simp only[iF,Act.put,jB,jC,l_c];rfl
           refine H_ (i:=0) (N:=some 5) #[true,true,true,false,true,true,true,false,false,true,false] rfl rfl (qM ug.out (by kernel_rfl)) (by decide) (fun K hK=>?_);refine tJ lg _ 63 ?hg (N:=5) ?hd (xs:=([]:List (iq))) (inner:=[]) (ok:=fun _=>True) (rE:=fun _=>True) ?hr ?hp (fun _ hk=>hk) trivial (Below.refl _ _) (Nat.le_refl _) (by simp) ?_;(case hd=>rfl);(case hg=>rfl);(case hr=>first|(go_simp;done)|(go_simp;rfl));(case hp=>exact(jJ.none _ _));intro uK xk BP hb wI lD;clear wI lD
           (first|rw[←Qg.out]at BP|(simp only[Int.reduceToNat]at BP;rw[←Qg.out]at BP));have nX:=ak (bP BP (aj bb));replace lX:=rb lX hb;replace aW:=kb aW hb;replace dM:=kb dM hb;replace iD:=kb iD hb;replace HB:=ak (aI bb hb);clear hb BP;refine hK.out _ _ ⟨(aG aW.out 0).trans rfl,(aG aW.out 1).trans rfl,(aG aW.out 2).trans rfl⟩ (fun hHeld=>?_);clear hK K;refine iT (a':=?_) ?_ ?_
           rotate_left
           ·show Act.put _ (some 5) _=_
            simp only[Act.put,jB,jC,l_c,bJ,b_];rfl
           exact iT (by first|(simp only[iF,Act.put,jB,jC,l_c];done)|(simp only[iF,Act.put,jB,jC,l_c];rfl)) (abd (uK,vX,dF) _ ⟨hHeld,(ur nX.out),(ur lX.out),(ub aW.out),(ub dM.out),(ub iD.out),tV.out,tX.out,fE.out,iZ.out,iG.out,jd.out,bb⟩)
         ·skip
          rintro⟨uK,dF⟩ w10 ⟨Tv,Ia,Ec,Ed,Hr,Na,VJ,VK,VL,VN,VO,G_⟩;have ng:ah (Kd.R lg 63 w10 w.heap.size (fun _=>True) uK Ju):=⟨Ia⟩
          have ni:ah (w10.heap[bV]? =some (.cells #[.slice cO aN.length cZ, .slice dh aQ.length dw, .slice bH aA.length bg] 32 (0,0))):=⟨Ec⟩
          have qx:ah (w10.heap[gW]? =some (.cells #[.slice none 0 0, .slice none 0 0, .slice none 0 0] 32 (0,0))):=⟨Ed⟩
          have sV:ah (w10.heap[dF]? =some (.cells #[.slice none 0 0, .slice none 0 0, .slice none 0 0] 32 (0,0))):=⟨Hr⟩
          have xQ:ah (w.heap.size≤dF):=⟨Na⟩
          have Ht:ah (w.heap.size≤dF):=⟨VJ⟩
          have Nb:ah (bV≠dF):=⟨VK⟩
          have OM:ah (dF≠bV):=⟨VL⟩
          have W_:ah (gW≠dF):=⟨VN⟩
          have Xa:ah (dF≠gW):=⟨VO⟩
          have Ib:ah (Below w.heap.size w w10):=⟨G_⟩
          clear aW dM HB Ia Ec Ed Hr Na VJ VK VL VN VO G_;have nX:=ng;have aW:=ni;have dM:=qx;have iD:=sV;have tV:=xQ;have tX:=Ht;have fE:=Nb;have iZ:=OM;have iG:=W_;have jd:=Xa;have HB:=Ib;clear ng ni qx sV xQ Ht Nb OM W_ Xa Ib;have hHeld:w10.cell? ⟨bV,0,none⟩=some (.slice cO aN.length cZ)∧w10.cell? ⟨bV,1,none⟩=some (.slice dh aQ.length dw)∧w10.cell? ⟨bV,2,none⟩=some (.slice bH aA.length bg):=Tv;refine iT (a':=?_) ?_ ?_
          rotate_left
          ·simp only[iF,Act.put,jB,jC,l_c];rfl
          refine acT (i:=3) (j:=4) (Ni:=some 8) (Nj:=some 9) #[true,true,true,true,false,true,true,false,false,true,false] #[true,true,true,false,true,true,true,false,false,true,false] rfl rfl rfl rfl (KF ug.out (by kernel_rfl)) (by decide) (by decide) (fun K hK=>?_) (fun K hK=>?_)
          ·skip
           refine mV lg (w0:=w) w.heap.size (by rfl) (.tmp 5) (.tmp 7) 29 63 (.agg #[(.string ⟨#[]⟩),(.string ⟨#[]⟩)]) 32 rfl underlying29 Aq rfl (by decide) (by omega) uK Ju aN _ _ _ (fun _=>True) (fun _=>False) rfl rfl ?aO ?aR (fun _ _ h=>h) (fun _ h=>h.elim) ?aF ?aB ?aS ?aL ?_
           (case aR=>repeat(first|exact(aK lU.out HB.out)|(with_reducible refine Kd.iP ?_ _)|(with_reducible refine Kd.iQ ?_ _)|(with_reducible refine Kd.jP ?_)))
           (case aB=>exact bb)
           (case aF=>exact(fun _ _=>trivial))
           (case aO=>exact(ur nX.out))
           (case aS=>exact(aj bb))
           (case aL=>have:=aiU.out;omega);intro ET xk ho hb hg hat
           rw[←ac0.out]at ho;have ng:=ak (eu (g:=bV) (o:= .cells #[.slice cO aN.length cZ, .slice dh aQ.length dw, .slice bH aA.length bg] 32 (0,0)) (ub aW.out) hg (um nX.out aW.out (by decide)));have ni:=ak (eu (g:=gW) (o:= .cells #[.slice none 0 0, .slice none 0 0, .slice none 0 0] 32 (0,0)) (ub dM.out) hg (um nX.out dM.out (by decide)));have qx:=ak (eu (g:=dF) (o:= .cells #[.slice none 0 0, .slice none 0 0, .slice none 0 0] 32 (0,0)) (ub iD.out) hg (um nX.out iD.out (by decide)));have sV:=ak (hb);have xQ:=ak (ho);clear aW dM iD HB nX;have aW:=ng;have dM:=ni;have iD:=qx;have HB:=sV;have oH:=xQ;clear ng ni qx sV xQ ho hb hg hat
           refine hK.out _ _ ⟨(aG aW.out 0).trans rfl,(aG aW.out 1).trans rfl,(aG aW.out 2).trans rfl⟩ (fun hHeld=>?_);clear hK K;refine iT (a':=?_) ?_ ?_
           rotate_left
           ·show Act.put _ (some 8) _=_
            simp only[Act.put,jB,jC,l_c,bJ,b_];rfl
           exact iT (by first|(simp only[iF,Act.put,jB,jC,l_c];done)|(simp only[iF,Act.put,jB,jC,l_c];rfl)) (ag4 (uK,ET,dF) _ ⟨hHeld,(ur oH.out),(ub aW.out),(ub dM.out),(ub iD.out),tV.out,tX.out,fE.out,iZ.out,iG.out,jd.out,bb⟩)
          ·skip
           refine tJ Kd.string _ 9 ?hg (N:=9) ?hd (xs:=([]:List ByteArray)) (inner:=[]) (ok:=fun _=>True) (rE:=fun _=>True) ?hr ?hp (fun _ hk=>hk) trivial (Below.refl _ _) (Nat.le_refl _) (by simp) ?_;(case hd=>rfl);(case hg=>rfl);(case hr=>first|(go_simp;done)|(go_simp;rfl));(case hp=>exact(jJ.none _ _));intro vX xk BP hb wI lD;clear wI lD
           (first|rw[←Ie.out]at BP|(simp only[Int.reduceToNat]at BP;rw[←Ie.out]at BP));have lX:=ak (bP BP (aj bb));replace nX:=rb nX hb;replace aW:=kb aW hb;replace dM:=kb dM hb;replace iD:=kb iD hb;replace HB:=ak (aI bb hb);clear hb BP;refine hK.out _ _ ⟨(aG aW.out 0).trans rfl,(aG aW.out 1).trans rfl,(aG aW.out 2).trans rfl⟩ (fun hHeld=>?_);clear hK K;refine iT (a':=?_) ?_ ?_
           rotate_left
           ·show Act.put _ (some 9) _=_
            simp only[Act.put,jB,jC,l_c,bJ,b_];rfl
           exact iT (by first|(simp only[iF,Act.put,jB,jC,l_c];done)|(simp only[iF,Act.put,jB,jC,l_c];rfl)) (abd (uK,vX,dF) _ ⟨hHeld,(ur nX.out),(ur lX.out),(ub aW.out),(ub dM.out),(ub iD.out),tV.out,tX.out,fE.out,iZ.out,iG.out,jd.out,bb⟩)
        ·skip
         rintro⟨uK,vX⟩ xk ⟨Tv,Ia,Ec,Ed,Hr,Na⟩;have ng:ah (Kd.R lg 63 xk w.heap.size (fun _=>True) uK Ju):=⟨Ia⟩
         have ni:ah (Kd.R Kd.string 9 xk w.heap.size (fun _=>True) vX He):=⟨Ec⟩
         have qx:ah (xk.heap[bV]? =some (.cells #[.slice cO aN.length cZ, .slice dh aQ.length dw, .slice bH aA.length bg] 32 (0,0))):=⟨Ed⟩
         have sV:ah (xk.heap[gW]? =some (.cells #[.slice none 0 0, .slice none 0 0, .slice none 0 0] 32 (0,0))):=⟨Hr⟩
         have xQ:ah (Below w.heap.size w xk):=⟨Na⟩
         clear aW dM HB Ia Ec Ed Hr Na;have nX:=ng;have lX:=ni;have aW:=qx;have dM:=sV;have HB:=xQ;clear ng ni qx sV xQ;have hHeld:xk.cell? ⟨bV,0,none⟩=some (.slice cO aN.length cZ)∧xk.cell? ⟨bV,1,none⟩=some (.slice dh aQ.length dw)∧xk.cell? ⟨bV,2,none⟩=some (.slice bH aA.length bg):=Tv;refine iT (a':=?_) ?_ ?_
         rotate_left
         ·simp only[iF,Act.put,jB,jC,l_c];rfl
         refine acT (i:=3) (j:=9) (Ni:=some 8) (Nj:=some 3) #[true,true,true,true,true,true,true,false,false,false,false] #[true,true,true,false,true,true,true,false,false,true,false] rfl rfl rfl rfl (KF ug.out (by kernel_rfl)) (by decide) (by decide) (fun K hK=>?_) (fun K hK=>?_)
         ·skip
          refine mV lg (w0:=w) w.heap.size (by rfl) (.tmp 5) (.tmp 7) 29 63 (.agg #[(.string ⟨#[]⟩),(.string ⟨#[]⟩)]) 32 rfl underlying29 Aq rfl (by decide) (by omega) uK Ju aN _ _ _ (fun _=>True) (fun _=>False) rfl rfl ?aO ?aR (fun _ _ h=>h) (fun _ h=>h.elim) ?aF ?aB ?aS ?aL ?_
          (case aR=>repeat(first|exact(aK lU.out HB.out)|(with_reducible refine Kd.iP ?_ _)|(with_reducible refine Kd.iQ ?_ _)|(with_reducible refine Kd.jP ?_)))
          (case aB=>exact bb)
          (case aF=>exact(fun _ _=>trivial))
          (case aO=>exact(ur nX.out))
          (case aS=>exact(aj bb))
          (case aL=>have:=aiU.out;omega);intro ET w12 ho hb hg hat
          rw[←ac0.out]at ho;have ng:=ak (eu (g:=bV) (o:= .cells #[.slice cO aN.length cZ, .slice dh aQ.length dw, .slice bH aA.length bg] 32 (0,0)) (ub aW.out) hg (um nX.out aW.out (by decide)));have ni:=ak (eu (g:=gW) (o:= .cells #[.slice none 0 0, .slice none 0 0, .slice none 0 0] 32 (0,0)) (ub dM.out) hg (um nX.out dM.out (by decide)));have qx:=ak (xq (ur lX.out) (qA (ur nX.out)) (by decide) hg);have sV:=ak (hb);have xQ:=ak (ho);clear aW dM lX HB nX;have aW:=ng;have dM:=ni;have lX:=qx;have HB:=sV;have oH:=xQ;clear ng ni qx sV xQ ho hb hg hat
          refine hK.out _ _ ⟨(aG aW.out 0).trans rfl,(aG aW.out 1).trans rfl,(aG aW.out 2).trans rfl⟩ (fun hHeld=>?_);clear hK K;refine iT (a':=?_) ?_ ?_
          rotate_left
          ·show Act.put _ (some 8) _=_
           simp only[Act.put,jB,jC,l_c,bJ,b_];rfl
          exact iT (by first|(simp only[iF,Act.put,jB,jC,l_c];done)|(simp only[iF,Act.put,jB,jC,l_c];rfl)) (ag3 (uK,ET,vX) _ ⟨hHeld,(ur oH.out),(ur lX.out),(ub aW.out),(ub dM.out),bb⟩)
         ·skip
          refine xW ?hg (N:=3) ?hd (cs:=#[.slice none 0 0, .slice none 0 0, .slice none 0 0]) (t:=32) ?hr ?_;(case hd=>rfl);(case hg=>rfl);(case hr=>first|(go_simp;done)|(go_simp;rfl));intro dF hg w12 hbox hb;have iD:=ak (hbox);have tV:=ak ((by rw[hg];exact(aj bb):w.heap.size≤dF));have tX:=ak ((by rw[hg];exact(aj bb):w.heap.size≤dF));have fE:=ak ((by rw[hg];exact Nat.ne_of_lt (dI (ub aW.out)):bV≠dF));have iZ:=ak ((by rw[hg];exact Nat.ne_of_gt (dI (ub aW.out)):dF≠bV));have iG:=ak ((by rw[hg];exact Nat.ne_of_lt (dI (ub dM.out)):gW≠dF));have jd:=ak ((by rw[hg];exact Nat.ne_of_gt (dI (ub dM.out)):dF≠gW));replace nX:=rb nX hb;replace lX:=rb lX hb;replace aW:=kb aW hb;replace dM:=kb dM hb;replace HB:=ak (aI bb hb);clear hb hbox hg;refine hK.out _ _ ⟨(aG aW.out 0).trans rfl,(aG aW.out 1).trans rfl,(aG aW.out 2).trans rfl⟩ (fun hHeld=>?_);clear hK K;refine iT (a':=?_) ?_ ?_
          rotate_left
          ·show Act.put _ (some 3) _=_
           simp only[Act.put,jB,jC,l_c,bJ,b_];rfl
          exact iT (by first|(simp only[iF,Act.put,jB,jC,l_c];done)|(simp only[iF,Act.put,jB,jC,l_c];rfl)) (abd (uK,vX,dF) _ ⟨hHeld,(ur nX.out),(ur lX.out),(ub aW.out),(ub dM.out),(ub iD.out),tV.out,tX.out,fE.out,iZ.out,iG.out,jd.out,bb⟩)
       ·skip
        rintro⟨uK,ET⟩ w10 ⟨Tv,Ia,Ec,Ed,Hr⟩;have ng:ah (Kd.R lg 63 w10 w.heap.size (fun _=>True) ET vW):=⟨Ia⟩
        have ni:ah (w10.heap[bV]? =some (.cells #[.slice cO aN.length cZ, .slice dh aQ.length dw, .slice bH aA.length bg] 32 (0,0))):=⟨Ec⟩
        have qx:ah (w10.heap[gW]? =some (.cells #[.slice none 0 0, .slice none 0 0, .slice none 0 0] 32 (0,0))):=⟨Ed⟩
        have sV:ah (Below w.heap.size w w10):=⟨Hr⟩
        clear aW dM HB Ia Ec Ed Hr;have oH:=ng;have aW:=ni;have dM:=qx;have HB:=sV;clear ng ni qx sV;have hHeld:w10.cell? ⟨bV,0,none⟩=some (.slice cO aN.length cZ)∧w10.cell? ⟨bV,1,none⟩=some (.slice dh aQ.length dw)∧w10.cell? ⟨bV,2,none⟩=some (.slice bH aA.length bg):=Tv;refine iT (a':=?_) ?_ ?_
        rotate_left
        ·simp only[iF,Act.put,jB,jC,l_c];rfl
        refine acT (i:=4) (j:=9) (Ni:=some 9) (Nj:=some 3) #[true,true,true,true,true,true,true,false,false,false,false] #[true,true,true,true,false,true,true,false,false,true,false] rfl rfl rfl rfl (KF ug.out (by kernel_rfl)) (by decide) (by decide) (fun K hK=>?_) (fun K hK=>?_)
        ·skip
         refine tJ Kd.string _ 9 ?hg (N:=9) ?hd (xs:=([]:List ByteArray)) (inner:=[]) (ok:=fun _=>True) (rE:=fun _=>True) ?hr ?hp (fun _ hk=>hk) trivial (Below.refl _ _) (Nat.le_refl _) (by simp) ?_;(case hd=>rfl);(case hg=>rfl);(case hr=>first|(go_simp;done)|(go_simp;rfl));(case hp=>exact(jJ.none _ _));intro vX xk BP hb wI lD;clear wI lD
         (first|rw[←Ie.out]at BP|(simp only[Int.reduceToNat]at BP;rw[←Ie.out]at BP));have lX:=ak (bP BP (aj bb));replace oH:=rb oH hb;replace aW:=kb aW hb;replace dM:=kb dM hb;replace HB:=ak (aI bb hb);clear hb BP;refine hK.out _ _ ⟨(aG aW.out 0).trans rfl,(aG aW.out 1).trans rfl,(aG aW.out 2).trans rfl⟩ (fun hHeld=>?_);clear hK K;refine iT (a':=?_) ?_ ?_
         rotate_left
         ·show Act.put _ (some 9) _=_
          simp only[Act.put,jB,jC,l_c,bJ,b_];rfl
         exact iT (by first|(simp only[iF,Act.put,jB,jC,l_c];done)|(simp only[iF,Act.put,jB,jC,l_c];rfl)) (ag3 (uK,ET,vX) _ ⟨hHeld,(ur oH.out),(ur lX.out),(ub aW.out),(ub dM.out),bb⟩)
        ·skip
         refine xW ?hg (N:=3) ?hd (cs:=#[.slice none 0 0, .slice none 0 0, .slice none 0 0]) (t:=32) ?hr ?_;(case hd=>rfl);(case hg=>rfl);(case hr=>first|(go_simp;done)|(go_simp;rfl));intro dF hg xk hbox hb;have iD:=ak (hbox);have tV:=ak ((by rw[hg];exact(aj bb):w.heap.size≤dF));have tX:=ak ((by rw[hg];exact(aj bb):w.heap.size≤dF));have fE:=ak ((by rw[hg];exact Nat.ne_of_lt (dI (ub aW.out)):bV≠dF));have iZ:=ak ((by rw[hg];exact Nat.ne_of_gt (dI (ub aW.out)):dF≠bV));have iG:=ak ((by rw[hg];exact Nat.ne_of_lt (dI (ub dM.out)):gW≠dF));have jd:=ak ((by rw[hg];exact Nat.ne_of_gt (dI (ub dM.out)):dF≠gW));replace oH:=rb oH hb;replace aW:=kb aW hb;replace dM:=kb dM hb;replace HB:=ak (aI bb hb);clear hb hbox hg;refine hK.out _ _ ⟨(aG aW.out 0).trans rfl,(aG aW.out 1).trans rfl,(aG aW.out 2).trans rfl⟩ (fun hHeld=>?_);clear hK K;refine iT (a':=?_) ?_ ?_
         rotate_left
         ·show Act.put _ (some 3) _=_
          simp only[Act.put,jB,jC,l_c,bJ,b_];rfl
         exact iT (by first|(simp only[iF,Act.put,jB,jC,l_c];done)|(simp only[iF,Act.put,jB,jC,l_c];rfl)) (ag4 (uK,ET,dF) _ ⟨hHeld,(ur oH.out),(ub aW.out),(ub dM.out),(ub iD.out),tV.out,tX.out,fE.out,iZ.out,iG.out,jd.out,bb⟩)
      ·skip
       rintro⟨uK,vX,dF⟩ w12 ⟨Tv,Ia,Ec,Ed,Hr,Na,VJ,VK,VL,VN,VO,G_,Va⟩;have ng:ah (Kd.R lg 63 w12 w.heap.size (fun _=>True) uK Ju):=⟨Ia⟩
       have ni:ah (Kd.R Kd.string 9 w12 w.heap.size (fun _=>True) vX He):=⟨Ec⟩
       have qx:ah (w12.heap[bV]? =some (.cells #[.slice cO aN.length cZ, .slice dh aQ.length dw, .slice bH aA.length bg] 32 (0,0))):=⟨Ed⟩
       have sV:ah (w12.heap[gW]? =some (.cells #[.slice none 0 0, .slice none 0 0, .slice none 0 0] 32 (0,0))):=⟨Hr⟩
       have xQ:ah (w12.heap[dF]? =some (.cells #[.slice none 0 0, .slice none 0 0, .slice none 0 0] 32 (0,0))):=⟨Na⟩
       have Ht:ah (w.heap.size≤dF):=⟨VJ⟩
       have Nb:ah (w.heap.size≤dF):=⟨VK⟩
       have OM:ah (bV≠dF):=⟨VL⟩
       have W_:ah (dF≠bV):=⟨VN⟩
       have Xa:ah (gW≠dF):=⟨VO⟩
       have Ib:ah (dF≠gW):=⟨G_⟩
       have Xb:ah (Below w.heap.size w w12):=⟨Va⟩
       clear aW dM HB Ia Ec Ed Hr Na VJ VK VL VN VO G_ Va;have nX:=ng;have lX:=ni;have aW:=qx;have dM:=sV;have iD:=xQ;have tV:=Ht;have tX:=Nb;have fE:=OM;have iZ:=W_;have iG:=Xa;have jd:=Ib;have HB:=Xb;clear ng ni qx sV xQ Ht Nb OM W_ Xa Ib Xb;have hHeld:w12.cell? ⟨bV,0,none⟩=some (.slice cO aN.length cZ)∧w12.cell? ⟨bV,1,none⟩=some (.slice dh aQ.length dw)∧w12.cell? ⟨bV,2,none⟩=some (.slice bH aA.length bg):=Tv;refine iT (a':=?_) ?_ ?_
       rotate_left
       ·simp only[iF,Act.put,jB,jC,l_c];rfl
       refine H_ (i:=3) (N:=some 8) #[true,true,true,true,true,true,true,false,false,true,false] rfl rfl (qM ug.out (by kernel_rfl)) (by decide) (fun K hK=>?_);refine mV lg (w0:=w) w.heap.size (by rfl) (.tmp 5) (.tmp 7) 29 63 (.agg #[(.string ⟨#[]⟩),(.string ⟨#[]⟩)]) 32 rfl underlying29 Aq rfl (by decide) (by omega) uK Ju aN _ _ _ (fun _=>True) (fun _=>False) rfl rfl ?aO ?aR (fun _ _ h=>h) (fun _ h=>h.elim) ?aF ?aB ?aS ?aL ?_
       (case aR=>repeat(first|exact(aK lU.out HB.out)|(with_reducible refine Kd.iP ?_ _)|(with_reducible refine Kd.iQ ?_ _)|(with_reducible refine Kd.jP ?_)))
       (case aB=>exact bb)
       (case aF=>exact(fun _ _=>trivial))
       (case aO=>exact(ur nX.out))
       (case aS=>exact(aj bb))
       (case aL=>have:=aiU.out;omega);intro ET NC ho hb hg hat
       rw[←ac0.out]at ho;have ng:=ak (eu (g:=bV) (o:= .cells #[.slice cO aN.length cZ, .slice dh aQ.length dw, .slice bH aA.length bg] 32 (0,0)) (ub aW.out) hg (um nX.out aW.out (by decide)));have ni:=ak (eu (g:=gW) (o:= .cells #[.slice none 0 0, .slice none 0 0, .slice none 0 0] 32 (0,0)) (ub dM.out) hg (um nX.out dM.out (by decide)));have qx:=ak (xq (ur lX.out) (qA (ur nX.out)) (by decide) hg);have sV:=ak (eu (g:=dF) (o:= .cells #[.slice none 0 0, .slice none 0 0, .slice none 0 0] 32 (0,0)) (ub iD.out) hg (um nX.out iD.out (by decide)));have xQ:=ak (hb);have Ht:=ak (ho);clear aW dM lX iD HB nX;have aW:=ng;have dM:=ni;have lX:=qx;have iD:=sV;have HB:=xQ;have oH:=Ht;clear ng ni qx sV xQ Ht ho hb hg hat
       refine hK.out _ _ ⟨(aG aW.out 0).trans rfl,(aG aW.out 1).trans rfl,(aG aW.out 2).trans rfl⟩ (fun hHeld=>?_);clear hK K;refine iT (a':=?_) ?_ ?_
       rotate_left
       ·show Act.put _ (some 8) _=_
        simp only[Act.put,jB,jC,l_c,bJ,b_];rfl
       exact iT (by first|(simp only[iF,Act.put,jB,jC,l_c];done)|(simp only[iF,Act.put,jB,jC,l_c];rfl)) (TD (uK,ET,vX,dF) _ ⟨hHeld,(ur oH.out),(ur lX.out),(ub aW.out),(ub dM.out),(ub iD.out),tV.out,tX.out,fE.out,iZ.out,iG.out,jd.out,bb⟩)
     ·skip
      rintro⟨uK,ET,dF⟩ xk ⟨Tv,Ia,Ec,Ed,Hr,Na,VJ,VK,VL,VN,VO,G_⟩;have ng:ah (Kd.R lg 63 xk w.heap.size (fun _=>True) ET vW):=⟨Ia⟩
      have ni:ah (xk.heap[bV]? =some (.cells #[.slice cO aN.length cZ, .slice dh aQ.length dw, .slice bH aA.length bg] 32 (0,0))):=⟨Ec⟩
      have qx:ah (xk.heap[gW]? =some (.cells #[.slice none 0 0, .slice none 0 0, .slice none 0 0] 32 (0,0))):=⟨Ed⟩
      have sV:ah (xk.heap[dF]? =some (.cells #[.slice none 0 0, .slice none 0 0, .slice none 0 0] 32 (0,0))):=⟨Hr⟩
      have xQ:ah (w.heap.size≤dF):=⟨Na⟩
      have Ht:ah (w.heap.size≤dF):=⟨VJ⟩
      have Nb:ah (bV≠dF):=⟨VK⟩
      have OM:ah (dF≠bV):=⟨VL⟩
      have W_:ah (gW≠dF):=⟨VN⟩
      have Xa:ah (dF≠gW):=⟨VO⟩
      have Ib:ah (Below w.heap.size w xk):=⟨G_⟩
      clear aW dM HB Ia Ec Ed Hr Na VJ VK VL VN VO G_;have oH:=ng;have aW:=ni;have dM:=qx;have iD:=sV;have tV:=xQ;have tX:=Ht;have fE:=Nb;have iZ:=OM;have iG:=W_;have jd:=Xa;have HB:=Ib;clear ng ni qx sV xQ Ht Nb OM W_ Xa Ib;have hHeld:xk.cell? ⟨bV,0,none⟩=some (.slice cO aN.length cZ)∧xk.cell? ⟨bV,1,none⟩=some (.slice dh aQ.length dw)∧xk.cell? ⟨bV,2,none⟩=some (.slice bH aA.length bg):=Tv;refine iT (a':=?_) ?_ ?_
      rotate_left
      ·simp only[iF,Act.put,jB,jC,l_c];rfl
      refine H_ (i:=4) (N:=some 9) #[true,true,true,true,true,true,true,false,false,true,false] rfl rfl (qM ug.out (by kernel_rfl)) (by decide) (fun K hK=>?_);refine tJ Kd.string _ 9 ?hg (N:=9) ?hd (xs:=([]:List ByteArray)) (inner:=[]) (ok:=fun _=>True) (rE:=fun _=>True) ?hr ?hp (fun _ hk=>hk) trivial (Below.refl _ _) (Nat.le_refl _) (by simp) ?_;(case hd=>rfl);(case hg=>rfl);(case hr=>first|(go_simp;done)|(go_simp;rfl));(case hp=>exact(jJ.none _ _));intro vX w12 N_ hb wI lD;clear wI lD
      (first|rw[←Ie.out]at N_|(simp only[Int.reduceToNat]at N_;rw[←Ie.out]at N_));have lX:=ak (bP N_ (aj bb));replace oH:=rb oH hb;replace aW:=kb aW hb;replace dM:=kb dM hb;replace iD:=kb iD hb;replace HB:=ak (aI bb hb);clear hb N_;refine hK.out _ _ ⟨(aG aW.out 0).trans rfl,(aG aW.out 1).trans rfl,(aG aW.out 2).trans rfl⟩ (fun hHeld=>?_);clear hK K;refine iT (a':=?_) ?_ ?_
      rotate_left
      ·show Act.put _ (some 9) _=_
       simp only[Act.put,jB,jC,l_c,bJ,b_];rfl
      exact iT (by first|(simp only[iF,Act.put,jB,jC,l_c];done)|(simp only[iF,Act.put,jB,jC,l_c];rfl)) (TD (uK,ET,vX,dF) _ ⟨hHeld,(ur oH.out),(ur lX.out),(ub aW.out),(ub dM.out),(ub iD.out),tV.out,tX.out,fE.out,iZ.out,iG.out,jd.out,bb⟩)
    ·skip
     rintro⟨uK,ET,vX⟩ w12 ⟨Tv,Ia,Ec,Ed,Hr,Na⟩;have ng:ah (Kd.R lg 63 w12 w.heap.size (fun _=>True) ET vW):=⟨Ia⟩
     have ni:ah (Kd.R Kd.string 9 w12 w.heap.size (fun _=>True) vX He):=⟨Ec⟩
     have qx:ah (w12.heap[bV]? =some (.cells #[.slice cO aN.length cZ, .slice dh aQ.length dw, .slice bH aA.length bg] 32 (0,0))):=⟨Ed⟩
     have sV:ah (w12.heap[gW]? =some (.cells #[.slice none 0 0, .slice none 0 0, .slice none 0 0] 32 (0,0))):=⟨Hr⟩
     have xQ:ah (Below w.heap.size w w12):=⟨Na⟩
     clear aW dM HB Ia Ec Ed Hr Na;have oH:=ng;have lX:=ni;have aW:=qx;have dM:=sV;have HB:=xQ;clear ng ni qx sV xQ;have hHeld:w12.cell? ⟨bV,0,none⟩=some (.slice cO aN.length cZ)∧w12.cell? ⟨bV,1,none⟩=some (.slice dh aQ.length dw)∧w12.cell? ⟨bV,2,none⟩=some (.slice bH aA.length bg):=Tv;refine iT (a':=?_) ?_ ?_
     rotate_left
     ·simp only[iF,Act.put,jB,jC,l_c];rfl
     refine acT (i:=7) (j:=9) (Ni:=some 12) (Nj:=some 3) #[true,true,true,true,true,true,true,true,false,false,false] #[true,true,true,true,true,true,true,false,false,true,false] rfl rfl rfl rfl (KF ug.out (by kernel_rfl)) (by decide) (by decide) (fun K hK=>?_) (fun K hK=>?_)
     ·skip
      refine mV Kd.string (w0:=w) w.heap.size (by rfl) (.tmp 9) (.tmp 11) 23 9 (.string ⟨#[]⟩) 16 rfl underlying23 info9 rfl (by decide) (by omega) vX He aQ _ _ _ (fun _=>True) (fun _=>False) rfl rfl ?aO ?aR (fun _ _ h=>h) (fun _ h=>h.elim) ?aF ?aB ?aS ?aL ?_
      (case aR=>repeat(first|exact(aK oN.out HB.out)|(with_reducible refine Kd.iP ?_ _)|(with_reducible refine Kd.iQ ?_ _)|(with_reducible refine Kd.jP ?_)))
      (case aB=>exact bb)
      (case aF=>exact(fun _ _=>trivial))
      (case aO=>exact(ur lX.out))
      (case aS=>exact(aj bb))
      (case aL=>have:=aea.out;omega);intro alv NC ho hb hg hat
      rw[←als.out]at ho;have ng:=ak (eu (g:=bV) (o:= .cells #[.slice cO aN.length cZ, .slice dh aQ.length dw, .slice bH aA.length bg] 32 (0,0)) (ub aW.out) hg (um lX.out aW.out (by decide)));have ni:=ak (eu (g:=gW) (o:= .cells #[.slice none 0 0, .slice none 0 0, .slice none 0 0] 32 (0,0)) (ub dM.out) hg (um lX.out dM.out (by decide)));have qx:=ak (xq (ur oH.out) (qA (ur lX.out)) (by decide) hg);have sV:=ak (hb);have xQ:=ak (ho);clear aW dM oH HB lX;have aW:=ng;have dM:=ni;have oH:=qx;have HB:=sV;have Ig:=xQ;clear ng ni qx sV xQ ho hb hg hat
      obtain⟨Ah,Ai,aee⟩:=bG Ig.out
      (first|subst aee|(injection aee with sN zx sO;have zy:=sN.symm;have zA:=sO.symm;clear sN zx sO;subst zy;subst zA));obtain⟨Ez,CY,aaB⟩:=bG oH.out
      (first|subst aaB|(injection aaB with sN zx sO;have zy:=sN.symm;have zA:=sO.symm;clear sN zx sO;subst zy;subst zA));refine hK.out _ _ ⟨(aG aW.out 0).trans rfl,(aG aW.out 1).trans rfl,(aG aW.out 2).trans rfl⟩ (fun hHeld=>?_);clear hK K;refine iT (a':=?_) ?_ ?_
      rotate_left
      ·show Act.put _ (some 12) _=_
       simp only[Act.put,jB,jC,l_c,bJ,b_];rfl
      refine rG (i:=8) (N:=some 13) (v:=?_) (a':=?_) #[true,true,true,true,true,true,true,true,true,false,false] rfl rfl (rZ ug.out (by kernel_rfl)) (fun _ _ _ h=>h) (Or.inl ⟨by rfl,?_⟩) ?_ ?_
      rotate_left
      ·intro w';go_simp
       with_reducible rfl
      rotate_left
      ·simp only[Act.put,jB,jC,l_c,bJ,b_];rfl
      exact iT (by first|(simp only[iF,Act.put,jB,jC,l_c];done)|(simp only[iF,Act.put,jB,jC,l_c];rfl)) (ajg (uK, .slice Ez vW.length CY,vX, .slice Ah AO.length Ai) _ ⟨hHeld,(ur oH.out),(ur Ig.out),(ub aW.out),(ub dM.out),bb⟩)
     ·skip
      refine xW ?hg (N:=3) ?hd (cs:=#[.slice none 0 0, .slice none 0 0, .slice none 0 0]) (t:=32) ?hr ?_;(case hd=>rfl);(case hg=>rfl);(case hr=>first|(go_simp;done)|(go_simp;rfl));intro dF hg NC hbox hb;have iD:=ak (hbox);have tV:=ak ((by rw[hg];exact(aj bb):w.heap.size≤dF));have tX:=ak ((by rw[hg];exact(aj bb):w.heap.size≤dF));have fE:=ak ((by rw[hg];exact Nat.ne_of_lt (dI (ub aW.out)):bV≠dF));have iZ:=ak ((by rw[hg];exact Nat.ne_of_gt (dI (ub aW.out)):dF≠bV));have iG:=ak ((by rw[hg];exact Nat.ne_of_lt (dI (ub dM.out)):gW≠dF));have jd:=ak ((by rw[hg];exact Nat.ne_of_gt (dI (ub dM.out)):dF≠gW));replace oH:=rb oH hb;replace lX:=rb lX hb;replace aW:=kb aW hb;replace dM:=kb dM hb;replace HB:=ak (aI bb hb);clear hb hbox hg;refine hK.out _ _ ⟨(aG aW.out 0).trans rfl,(aG aW.out 1).trans rfl,(aG aW.out 2).trans rfl⟩ (fun hHeld=>?_);clear hK K;refine iT (a':=?_) ?_ ?_
      rotate_left
      ·show Act.put _ (some 3) _=_
       simp only[Act.put,jB,jC,l_c,bJ,b_];rfl
      exact iT (by first|(simp only[iF,Act.put,jB,jC,l_c];done)|(simp only[iF,Act.put,jB,jC,l_c];rfl)) (TD (uK,ET,vX,dF) _ ⟨hHeld,(ur oH.out),(ur lX.out),(ub aW.out),(ub dM.out),(ub iD.out),tV.out,tX.out,fE.out,iZ.out,iG.out,jd.out,bb⟩)
   ·skip
    rintro⟨uK,ET,vX,dF⟩ NC ⟨Tv,Ia,Ec,Ed,Hr,Na,VJ,VK,VL,VN,VO,G_,Va⟩;have ng:ah (Kd.R lg 63 NC w.heap.size (fun _=>True) ET vW):=⟨Ia⟩
    have ni:ah (Kd.R Kd.string 9 NC w.heap.size (fun _=>True) vX He):=⟨Ec⟩
    have qx:ah (NC.heap[bV]? =some (.cells #[.slice cO aN.length cZ, .slice dh aQ.length dw, .slice bH aA.length bg] 32 (0,0))):=⟨Ed⟩
    have sV:ah (NC.heap[gW]? =some (.cells #[.slice none 0 0, .slice none 0 0, .slice none 0 0] 32 (0,0))):=⟨Hr⟩
    have xQ:ah (NC.heap[dF]? =some (.cells #[.slice none 0 0, .slice none 0 0, .slice none 0 0] 32 (0,0))):=⟨Na⟩
    have Ht:ah (w.heap.size≤dF):=⟨VJ⟩
    have Nb:ah (w.heap.size≤dF):=⟨VK⟩
    have OM:ah (bV≠dF):=⟨VL⟩
    have W_:ah (dF≠bV):=⟨VN⟩
    have Xa:ah (gW≠dF):=⟨VO⟩
    have Ib:ah (dF≠gW):=⟨G_⟩
    have Xb:ah (Below w.heap.size w NC):=⟨Va⟩
    clear aW dM HB Ia Ec Ed Hr Na VJ VK VL VN VO G_ Va;have oH:=ng;have lX:=ni;have aW:=qx;have dM:=sV;have iD:=xQ;have tV:=Ht;have tX:=Nb;have fE:=OM;have iZ:=W_;have iG:=Xa;have jd:=Ib;have HB:=Xb;clear ng ni qx sV xQ Ht Nb OM W_ Xa Ib Xb;have hHeld:NC.cell? ⟨bV,0,none⟩=some (.slice cO aN.length cZ)∧NC.cell? ⟨bV,1,none⟩=some (.slice dh aQ.length dw)∧NC.cell? ⟨bV,2,none⟩=some (.slice bH aA.length bg):=Tv;refine iT (a':=?_) ?_ ?_
    rotate_left
    ·simp only[iF,Act.put,jB,jC,l_c];rfl
    refine H_ (i:=7) (N:=some 12) #[true,true,true,true,true,true,true,true,false,true,false] rfl rfl (qM ug.out (by kernel_rfl)) (by decide) (fun K hK=>?_);refine mV Kd.string (w0:=w) w.heap.size (by rfl) (.tmp 9) (.tmp 11) 23 9 (.string ⟨#[]⟩) 16 rfl underlying23 info9 rfl (by decide) (by omega) vX He aQ _ _ _ (fun _=>True) (fun _=>False) rfl rfl ?aO ?aR (fun _ _ h=>h) (fun _ h=>h.elim) ?aF ?aB ?aS ?aL ?_
    (case aR=>repeat(first|exact(aK oN.out HB.out)|(with_reducible refine Kd.iP ?_ _)|(with_reducible refine Kd.iQ ?_ _)|(with_reducible refine Kd.jP ?_)))
    (case aB=>exact bb)
    (case aF=>exact(fun _ _=>trivial))
    (case aO=>exact(ur lX.out))
    (case aS=>exact(aj bb))
    (case aL=>have:=aea.out;omega);intro alv Ut ho hb hg hat
    rw[←als.out]at ho;have ng:=ak (eu (g:=bV) (o:= .cells #[.slice cO aN.length cZ, .slice dh aQ.length dw, .slice bH aA.length bg] 32 (0,0)) (ub aW.out) hg (um lX.out aW.out (by decide)));have ni:=ak (eu (g:=gW) (o:= .cells #[.slice none 0 0, .slice none 0 0, .slice none 0 0] 32 (0,0)) (ub dM.out) hg (um lX.out dM.out (by decide)));have qx:=ak (xq (ur oH.out) (qA (ur lX.out)) (by decide) hg);have sV:=ak (eu (g:=dF) (o:= .cells #[.slice none 0 0, .slice none 0 0, .slice none 0 0] 32 (0,0)) (ub iD.out) hg (um lX.out iD.out (by decide)));have xQ:=ak (hb);have Ht:=ak (ho);clear aW dM oH iD HB lX;have aW:=ng;have dM:=ni;have oH:=qx;have iD:=sV;have HB:=xQ;have Ig:=Ht;clear ng ni qx sV xQ Ht ho hb hg hat
    obtain⟨Ez,CY,aaB⟩:=bG Ig.out
    (first|subst aaB|(injection aaB with sN zx sO;have zy:=sN.symm;have zA:=sO.symm;clear sN zx sO;subst zy;subst zA));obtain⟨Hf,FZ,Xl⟩:=bG oH.out
    (first|subst Xl|(injection Xl with sN zx sO;have zy:=sN.symm;have zA:=sO.symm;clear sN zx sO;subst zy;subst zA));refine hK.out _ _ ⟨(aG aW.out 0).trans rfl,(aG aW.out 1).trans rfl,(aG aW.out 2).trans rfl⟩ (fun hHeld=>?_);clear hK K;refine iT (a':=?_) ?_ ?_
    rotate_left
    ·show Act.put _ (some 12) _=_
     simp only[Act.put,jB,jC,l_c,bJ,b_];rfl
    refine rG (i:=8) (N:=some 13) (v:=?_) (a':=?_) #[true,true,true,true,true,true,true,true,true,true,false] rfl rfl (rZ ug.out (by kernel_rfl)) (fun _ _ _ h=>h) (Or.inl ⟨by rfl,?_⟩) ?_ ?_
    rotate_left
    ·intro w';go_simp
     with_reducible rfl
    rotate_left
    ·simp only[Act.put,jB,jC,l_c,bJ,b_];rfl
    exact iT (by first|(simp only[iF,Act.put,jB,jC,l_c];done)|(simp only[iF,Act.put,jB,jC,l_c];rfl)) (UC (uK, .slice Hf vW.length FZ,vX, .slice Ez AO.length CY,dF) _ ⟨hHeld,(ur oH.out),(ur Ig.out),(ub aW.out),(ub dM.out),(ub iD.out),tV.out,tX.out,fE.out,iZ.out,iG.out,jd.out,bb⟩)
  ·skip
   rintro⟨uK,ET,vX,alv⟩ YU ⟨Tv,Ia,Ec,Ed,Hr,Na⟩;have ng:ah (Kd.R lg 63 YU w.heap.size (fun _=>True) ET vW):=⟨Ia⟩
   have ni:ah (Kd.R Kd.string 9 YU w.heap.size (fun _=>True) alv AO):=⟨Ec⟩
   have qx:ah (YU.heap[bV]? =some (.cells #[.slice cO aN.length cZ, .slice dh aQ.length dw, .slice bH aA.length bg] 32 (0,0))):=⟨Ed⟩
   have sV:ah (YU.heap[gW]? =some (.cells #[.slice none 0 0, .slice none 0 0, .slice none 0 0] 32 (0,0))):=⟨Hr⟩
   have xQ:ah (Below w.heap.size w YU):=⟨Na⟩
   clear aW dM HB Ia Ec Ed Hr Na;have oH:=ng;have Ig:=ni;have aW:=qx;have dM:=sV;have HB:=xQ;clear ng ni qx sV xQ;have hHeld:YU.cell? ⟨bV,0,none⟩=some (.slice cO aN.length cZ)∧YU.cell? ⟨bV,1,none⟩=some (.slice dh aQ.length dw)∧YU.cell? ⟨bV,2,none⟩=some (.slice bH aA.length bg):=Tv;obtain⟨Hf,FZ,Xl⟩:=bG Ig.out
   (first|subst Xl|(injection Xl with sN zx sO;have zy:=sN.symm;have zA:=sO.symm;clear sN zx sO;subst zy;subst zA));obtain⟨vU,vC,aaP⟩:=bG oH.out
   (first|subst aaP|(injection aaP with sN zx sO;have zy:=sN.symm;have zA:=sO.symm;clear sN zx sO;subst zy;subst zA));refine iT (a':=?_) ?_ ?_
   rotate_left
   ·simp only[iF,Act.put,jB,jC,l_c];rfl
   refine H_ (i:=9) (N:=some 3) #[true,true,true,true,true,true,true,true,true,true,false] rfl rfl (qM ug.out (by kernel_rfl)) (by decide) (fun K hK=>?_);refine xW ?hg (N:=3) ?hd (cs:=#[.slice none 0 0, .slice none 0 0, .slice none 0 0]) (t:=32) ?hr ?_;(case hd=>rfl);(case hg=>rfl);(case hr=>first|(go_simp;done)|(go_simp;rfl));intro dF hg w18 hbox hb;have iD:=ak (hbox);have tV:=ak ((by rw[hg];exact(aj bb):w.heap.size≤dF));have tX:=ak ((by rw[hg];exact(aj bb):w.heap.size≤dF));have fE:=ak ((by rw[hg];exact Nat.ne_of_lt (dI (ub aW.out)):bV≠dF));have iZ:=ak ((by rw[hg];exact Nat.ne_of_gt (dI (ub aW.out)):dF≠bV));have iG:=ak ((by rw[hg];exact Nat.ne_of_lt (dI (ub dM.out)):gW≠dF));have jd:=ak ((by rw[hg];exact Nat.ne_of_gt (dI (ub dM.out)):dF≠gW));replace oH:=rb oH hb;replace Ig:=rb Ig hb;replace aW:=kb aW hb;replace dM:=kb dM hb;replace HB:=ak (aI bb hb);clear hb hbox hg;refine hK.out _ _ ⟨(aG aW.out 0).trans rfl,(aG aW.out 1).trans rfl,(aG aW.out 2).trans rfl⟩ (fun hHeld=>?_);clear hK K;refine iT (a':=?_) ?_ ?_
   rotate_left
   ·show Act.put _ (some 3) _=_
    simp only[Act.put,jB,jC,l_c,bJ,b_];rfl
   exact iT (by first|(simp only[iF,Act.put,jB,jC,l_c];done)|(simp only[iF,Act.put,jB,jC,l_c];rfl)) (UC (uK, .slice vU vW.length vC,vX, .slice Hf AO.length FZ,dF) _ ⟨hHeld,(ur oH.out),(ur Ig.out),(ub aW.out),(ub dM.out),(ub iD.out),tV.out,tX.out,fE.out,iZ.out,iG.out,jd.out,bb⟩)
 rintro⟨uK,ET,vX,alv,dF⟩ w16 ⟨Tv,Ia,Ec,Ed,Hr,Na,VJ,VK,VL,VN,VO,G_,Va⟩;have ng:ah (Kd.R lg 63 w16 w.heap.size (fun _=>True) ET vW):=⟨Ia⟩
 have ni:ah (Kd.R Kd.string 9 w16 w.heap.size (fun _=>True) alv AO):=⟨Ec⟩
 have qx:ah (w16.heap[bV]? =some (.cells #[.slice cO aN.length cZ, .slice dh aQ.length dw, .slice bH aA.length bg] 32 (0,0))):=⟨Ed⟩
 have sV:ah (w16.heap[gW]? =some (.cells #[.slice none 0 0, .slice none 0 0, .slice none 0 0] 32 (0,0))):=⟨Hr⟩
 have xQ:ah (w16.heap[dF]? =some (.cells #[.slice none 0 0, .slice none 0 0, .slice none 0 0] 32 (0,0))):=⟨Na⟩
 have Ht:ah (w.heap.size≤dF):=⟨VJ⟩
 have Nb:ah (w.heap.size≤dF):=⟨VK⟩
 have OM:ah (bV≠dF):=⟨VL⟩
 have W_:ah (dF≠bV):=⟨VN⟩
 have Xa:ah (gW≠dF):=⟨VO⟩
 have Ib:ah (dF≠gW):=⟨G_⟩
 have Xb:ah (Below w.heap.size w w16):=⟨Va⟩
 clear aW dM HB Ia Ec Ed Hr Na VJ VK VL VN VO G_ Va;have oH:=ng;have Ig:=ni;have aW:=qx;have dM:=sV;have iD:=xQ;have tV:=Ht;have tX:=Nb;have fE:=OM;have iZ:=W_;have iG:=Xa;have jd:=Ib;have HB:=Xb;clear ng ni qx sV xQ Ht Nb OM W_ Xa Ib Xb;have hHeld:w16.cell? ⟨bV,0,none⟩=some (.slice cO aN.length cZ)∧w16.cell? ⟨bV,1,none⟩=some (.slice dh aQ.length dw)∧w16.cell? ⟨bV,2,none⟩=some (.slice bH aA.length bg):=Tv;obtain⟨vU,vC,aaP⟩:=bG Ig.out
 (first|subst aaP|(injection aaP with sN zx sO;have zy:=sN.symm;have zA:=sO.symm;clear sN zx sO;subst zy;subst zA));obtain⟨uo,uq,aas⟩:=bG oH.out
 (first|subst aas|(injection aas with sN zx sO;have zy:=sN.symm;have zA:=sO.symm;clear sN zx sO;subst zy;subst zA));refine iT (a':=?_) ?_ ?_
 rotate_left
 ·simp only[iF,Act.put,jB,jC,l_c];rfl
 refine H_ (i:=10) (N:=none) #[true,true,true,true,true,true,true,true,true,true,true] rfl rfl (qM ug.out (by kernel_rfl)) (by decide) (fun K hK=>?_);have aKN:w16.cell? ⟨dF,0,none⟩=some (.slice none 0 0):=(aG iD.out 0).trans rfl;have aIi:=jl iD.out 0;have aCI:=fE.out;have aCJ:=iG.out;have aCK:=iZ.out;have aCL:=jd.out;have aKO:w16.cell? ⟨dF,1,none⟩=some (.slice none 0 0):=(aG iD.out 1).trans rfl;have aIj:=jl iD.out 1;have aCM:=fE.out;have aCN:=iG.out;have aCO:=iZ.out;have aCP:=jd.out;have aKP:w16.cell? ⟨dF,2,none⟩=some (.slice none 0 0):=(aG iD.out 2).trans rfl;have aIk:=jl iD.out 2;have aCQ:=fE.out;have aCR:=iG.out;have aCS:=iZ.out;have aCT:=jd.out;refine Xc (w1:=?_) (by rfl) rfl ?_ ?_
 rotate_left
 ·go_simp;rfl
 refine hK.out _ _ ⟨((cell_far (p:=⟨dF,_,none⟩) fE.out _).trans (((cell_far (p:=⟨dF,_,none⟩) fE.out _).trans (((cell_far (p:=⟨dF,_,none⟩) fE.out _).trans (hHeld.1)))))),((cell_far (p:=⟨dF,_,none⟩) fE.out _).trans (((cell_far (p:=⟨dF,_,none⟩) fE.out _).trans (((cell_far (p:=⟨dF,_,none⟩) fE.out _).trans (hHeld.2.1)))))),((cell_far (p:=⟨dF,_,none⟩) fE.out _).trans (((cell_far (p:=⟨dF,_,none⟩) fE.out _).trans (((cell_far (p:=⟨dF,_,none⟩) fE.out _).trans (hHeld.2.2))))))⟩ (fun hHeld=>?_);clear hK K;refine P8 (Jt ug.out (by kernel_rfl)) ?_;try go_wp2
 go_loopg [4] k (fun kq v4 w'=>∃(eF:Int) (xA:List (jm)) (zC:Value),v4= .int .i64 eF∧ah (fA.l0 kq eF aN aQ aA vW AO xA=some (r1,r2,r3))∧ah (kq≤k)∧ah (Kd.R lg 63 w' w.heap.size (fun _=>True) (.slice uo vW.length uq) vW)∧ah (Kd.R Kd.string 9 w' w.heap.size (fun _=>True) (.slice vU AO.length vC) AO)∧ah (Kd.R k32 32 w' w.heap.size (fun k_=>some k_≠((.slice uo vW.length uq):Value).ownBlock∧some k_≠((.slice vU AO.length vC):Value).ownBlock∧k_≠bV∧k_≠gW∧k_≠dF) zC xA)∧ah (w'.heap[bV]? =some (.cells #[(.slice cO aN.length cZ),(.slice dh aQ.length dw),(.slice bH aA.length bg)] 32 (0,0)))∧ah (w'.heap[gW]? =some (.cells #[(.slice none 0 0),(.slice none 0 0),(.slice none 0 0)] 32 (0,0)))∧ah (w'.heap[dF]? =some (.cells #[(.slice uo vW.length uq),(.slice vU AO.length vC),zC] 32 (0,0)))∧ah (Below w.heap.size w w'))
 case atStart=>exact⟨(0),(([]:List (jm))),(.slice none 0 0),rs,H',⟨Nat.le_refl _⟩,⟨ur (aY (bK (p:=⟨dF,2,none⟩) (bK (p:=⟨dF,1,none⟩) (bK (p:=⟨dF,0,none⟩) (eP oH.out iD.out (by decide)) (fun _ hk=>hk.2) (.slice uo vW.length uq)) (fun _ hk=>hk.2) (.slice vU AO.length vC)) (fun _ hk=>hk.2) (.slice none 0 0)) (fun _ hk=>trivial))⟩,⟨ur (aY (bK (p:=⟨dF,2,none⟩) (bK (p:=⟨dF,1,none⟩) (bK (p:=⟨dF,0,none⟩) (eP Ig.out iD.out (by decide)) (fun _ hk=>hk.2) (.slice uo vW.length uq)) (fun _ hk=>hk.2) (.slice vU AO.length vC)) (fun _ hk=>hk.2) (.slice none 0 0)) (fun _ hk=>trivial))⟩,⟨nx⟩,⟨by(with_reducible repeat(first|refine ay ?_ _|refine aC ?_|refine au ?_ _));refine fJ ?_ fE.out _;(with_reducible repeat(first|refine ay ?_ _|refine aC ?_|refine au ?_ _));refine fJ ?_ fE.out _;(with_reducible repeat(first|refine ay ?_ _|refine aC ?_|refine au ?_ _));refine fJ ?_ fE.out _;(with_reducible repeat(first|refine ay ?_ _|refine aC ?_|refine au ?_ _));exact aW.out⟩,⟨by(with_reducible repeat(first|refine ay ?_ _|refine aC ?_|refine au ?_ _));refine fJ ?_ iG.out _;(with_reducible repeat(first|refine ay ?_ _|refine aC ?_|refine au ?_ _));refine fJ ?_ iG.out _;(with_reducible repeat(first|refine ay ?_ _|refine aC ?_|refine au ?_ _));refine fJ ?_ iG.out _;(with_reducible repeat(first|refine ay ?_ _|refine aC ?_|refine au ?_ _));exact dM.out⟩,⟨by(with_reducible repeat(first|refine ay ?_ _|refine aC ?_|refine au ?_ _));refine bU (cs:=#[.slice uo vW.length uq, .slice vU AO.length vC, .slice none 0 0]) ?_ 2 _ rfl;(with_reducible repeat(first|refine ay ?_ _|refine aC ?_|refine au ?_ _));refine bU (cs:=#[.slice uo vW.length uq, .slice none 0 0, .slice none 0 0]) ?_ 1 _ rfl;(with_reducible repeat(first|refine ay ?_ _|refine aC ?_|refine au ?_ _));refine bU (cs:=#[.slice none 0 0, .slice none 0 0, .slice none 0 0]) ?_ 0 _ rfl;(with_reducible repeat(first|refine ay ?_ _|refine aC ?_|refine au ?_ _));exact iD.out⟩,⟨bb⟩⟩
 case round=>
  clear H';try clear c2
  try clear p2
  try clear c3
  obtain⟨eF,xA,zC,rfl,HA,jv,qE,qF,oI,aW,dM,iD,HB⟩:=hrel
  cases gk with
  |zero=>exact absurd HA.out (by simp[fA.l0])
  |succ k1=>
   have H:=HA.out;clear HA;simp only[fA.l0]at H;replace H:=sd H;rcases H with⟨JO,H⟩|⟨JO,H⟩
   ·replace H:=oW H;obtain⟨JQ,H⟩:=H;replace H:=bd H;obtain⟨⟨alx,aly,alz⟩,A24,H⟩:=H
    (try dsimp only at H);replace H:=nl H;obtain⟨Xd,H⟩:=H;obtain⟨alA,asz⟩:=nm (xA++[(⟨alx,aly,alz⟩:jm)]);rw[←asz.out]at H
    (try rw[Option.bind_some]at H);have H':=ak H;clear H;have aIl:=ZB.out;have aIm:=ZC.out;have alp:=fE.out;have alq:=iZ.out;obtain⟨abe,ag5,ag6,abf,ag7,ag8⟩:=iE aW.out;try go_wp2
    replace qE:=ak (yB qE.out);replace qF:=ak (yB qF.out);replace oI:=ak (yB oI.out);replace aW:=ak (aC aW.out);replace dM:=ak (aC dM.out);replace iD:=ak (aC iD.out);replace HB:=ak (fO HB.out);have au9:=zi eF;have au_:=zj eF aA.length;obtain⟨Qh,alB,alC,alD,alE,alF,alG,e345,VP,VQ,VR,ag9,ag_,aha,ahb,ahc,ahd⟩:=qY jF.out eF au9 au_;have Bl:=VR;have Bo:=VQ;have Bq:=VP;cases e345;replace VP:=cl HB.out VP;replace VQ:=cl HB.out VQ;replace VR:=cl HB.out VR;have ahe:=ak ag_;have aoY:=ak ag9;clear ag_ ag9;have ahf:=ak ahb;have aoZ:=ak aha;clear ahb aha;have ahg:=ak ahd;have ao0:=ak ahc;clear ahd ahc;replace au9:=eq_true au9;replace au_:=eq_true au_;refine Js (n:=12) (S:=fun w'=>w'.cell? ⟨dF,0,none⟩=some (.slice uo vW.length uq)∧w'.cell? ⟨dF,1,none⟩=some (.slice vU AO.length vC)∧w'.cell? ⟨dF,2,none⟩=some (zC)∧w'.cell? ⟨bV,0,none⟩=some (.slice cO aN.length cZ)∧w'.cell? ⟨bV,1,none⟩=some (.slice dh aQ.length dw)∧w'.cell? ⟨bV,2,none⟩=some (.slice (some Qh) aA.length bg)∧w'.cell? (Qh.add ((eF).toNat*3))=some (.slice alB ((aH aA eF).f0).length alC)∧w'.cell? ⟨(Qh.add ((eF).toNat*3)).block,(Qh.add ((eF).toNat*3)).off+1,none⟩=some (.slice alD ((aH aA eF).f1).length alE)∧w'.cell? ⟨(Qh.add ((eF).toNat*3)).block,(Qh.add ((eF).toNat*3)).off+2,none⟩=some (.slice alF ((aH aA eF).f2).length alG)) (ds:=[11]) #[false,false,false,false,false,false,false,false,false,false,false,false] (by kernel_rfl) rfl rfl ⟨(aG iD.out 0).trans rfl,(aG iD.out 1).trans rfl,(aG iD.out 2).trans rfl,(aG aW.out 0).trans rfl,(aG aW.out 1).trans rfl,(aG aW.out 2).trans rfl,((HB.out.cell (World.block_lt_of_cell? w _ Bq)).trans Bq),((HB.out.cell (World.block_lt_of_cell? w _ Bo)).trans Bo),((HB.out.cell (World.block_lt_of_cell? w _ Bl)).trans Bl)⟩ (fun hHeld=>?_);refine AL fA.au5 fA.alj (fun ug HW_=>?_)
    generalize wr.drew=w29 at qE qF oI aW dM iD HB ahe ahf ahg VP VQ VR hHeld⊢
    refine rG (i:=0) (N:=some 21) (v:=?_) (a':=?_) #[true,false,false,false,false,false,false,false,false,false,false,false] rfl rfl (rZ ug.out (by kernel_rfl)) (fun _ _ _ h=>h) (Or.inl ⟨by rfl,?_⟩) ?_ ?_
    rotate_left
    ·intro w';go_simp
     with_reducible rfl
    rotate_left
    ·simp only[Act.put,jB,jC,l_c,bJ,b_];rfl
    refine rG (i:=2) (N:=some 23) (v:=?_) (a':=?_) #[true,false,true,false,false,false,false,false,false,false,false,false] rfl rfl (rZ ug.out (by kernel_rfl)) (fun _ _ _ h=>h) (Or.inl ⟨by rfl,?_⟩) ?_ ?_
    rotate_left
    ·intro w';go_simp
     with_reducible rfl
    rotate_left
    ·simp only[Act.put,jB,jC,l_c,bJ,b_];rfl
    refine rG (i:=4) (N:=some 25) (v:=?_) (a':=?_) #[true,false,true,false,true,false,false,false,false,false,false,false] rfl rfl (rZ ug.out (by kernel_rfl)) (fun _ _ _ h=>h) (Or.inl ⟨by rfl,?_⟩) ?_ ?_
    rotate_left
    ·intro w';go_simp
     with_reducible rfl
    rotate_left
    ·simp only[Act.put,jB,jC,l_c,bJ,b_];rfl
    refine BO (i:=1) (N:=some 22) (v:=?_) (a':=?_) #[true,true,true,false,true,false,false,false,false,false,false,false] rfl rfl (uw ug.out HW_.out (by kernel_rfl)) (fun _ _ _ h=>h) (Or.inl ⟨by rfl,?_⟩) hHeld ?_ ?_
    rotate_left
    ·rintro w' ⟨s0,s1,s2,s3,s4,s5,s6,s7,s8⟩;go_simp
     with_reducible rfl
    rotate_left
    ·simp only[Act.put,jB,jC,l_c,bJ,b_];rfl
    refine BO (i:=3) (N:=some 24) (v:=?_) (a':=?_) #[true,true,true,true,true,false,false,false,false,false,false,false] rfl rfl (uw ug.out HW_.out (by kernel_rfl)) (fun _ _ _ h=>h) (Or.inl ⟨by rfl,?_⟩) hHeld ?_ ?_
    rotate_left
    ·rintro w' ⟨s0,s1,s2,s3,s4,s5,s6,s7,s8⟩;go_simp
     with_reducible rfl
    rotate_left
    ·simp only[Act.put,jB,jC,l_c,bJ,b_];rfl
    refine rG (i:=5) (N:=some 26) (v:=?_) (a':=?_) #[true,true,true,true,true,true,false,false,false,false,false,false] rfl rfl (rZ ug.out (by kernel_rfl)) (fun _ _ _ h=>h) (Or.inl ⟨by rfl,?_⟩) ?_ ?_
    rotate_left
    ·intro w';go_simp
     with_reducible rfl
    rotate_left
    ·simp only[Act.put,jB,jC,l_c,bJ,b_];rfl
    refine BO (i:=6) (N:=some 27) (v:=?_) (a':=?_) #[true,true,true,true,true,true,true,false,false,false,false,false] rfl rfl (uw ug.out HW_.out (by kernel_rfl)) (fun _ _ _ h=>h) (Or.inl ⟨by rfl,?_⟩) hHeld ?_ ?_
    rotate_left
    ·rintro w' ⟨s0,s1,s2,s3,s4,s5,s6,s7,s8⟩;go_simp
     with_reducible rfl
    rotate_left
    ·simp only[Act.put,jB,jC,l_c,bJ,b_];rfl
    refine H_ (i:=7) (N:=some 28) #[true,true,true,true,true,true,true,true,false,false,false,false] rfl rfl (qM ug.out (by kernel_rfl)) (by decide) (fun K hK=>?_);refine vG func41 (by kernel_rfl) rfl #[.agg #[.slice alB ((aH aA eF).f0).length alC, .slice alD ((aH aA eF).f1).length alE, .slice alF ((aH aA eF).f2).length alG]] (by rfl) rfl rfl ma ?_
    with_reducible refine(ih k1 (by have:=jv.out;omega) _ _ ((aH aA eF).f0) _ _ ((aH aA eF).f1) _ _ ((aH aA eF).f2) alx aly alz _ ?oG ?qU ?EO ?EP ?ER ?ES A24.out).mono ?_
    (case oG=>repeat(first|exact(aK ahe.out HB.out)|(with_reducible refine Kd.iP ?_ _)|(with_reducible refine Kd.iQ ?_ _)|(with_reducible refine Kd.jP ?_)))
    (case qU=>exact aoY.out)
    (case EO=>repeat(first|exact(aK ahf.out HB.out)|(with_reducible refine Kd.iP ?_ _)|(with_reducible refine Kd.iQ ?_ _)|(with_reducible refine Kd.jP ?_)))
    (case EP=>exact aoZ.out)
    (case ER=>repeat(first|exact(aK ahg.out HB.out)|(with_reducible refine Kd.iP ?_ _)|(with_reducible refine Kd.iQ ?_ _)|(with_reducible refine Kd.jP ?_)))
    (case ES=>exact ao0.out);rintro e w30 ⟨aKQ,aKR,aKS,rfl,ho0,ho1,ho2,hb⟩;refine⟨_,rfl,?_⟩;have alH:=ak (bP (nI ho0 (ru (ur qE.out))) (aj bb));have alI:=ak (bP (nI ho1 (ru (ur qF.out))) (aj bb));have alJ:=ak (bP (xO (xO (xO (nI (nI (nI ho2 (ru (ur qE.out))) (ru (ur qF.out))) (ru (ur oI.out))) (g:=bV) (o:= .cells #[.slice cO aN.length cZ, .slice dh aQ.length dw, .slice (some Qh) aA.length bg] 32 (0,0)) (ub aW.out)) (g:=gW) (o:= .cells #[.slice none 0 0, .slice none 0 0, .slice none 0 0] 32 (0,0)) (ub dM.out)) (g:=dF) (o:= .cells #[.slice uo vW.length uq, .slice vU AO.length vC,zC] 32 (0,0)) (ub iD.out)) (aj bb));replace qE:=ak (nV (ur qE.out) (jf ho0) hb);replace qF:=ak (nV (ur qF.out) (jf ho1) hb);replace oI:=ak (aY (Ce (Ce (Ce (agh (ur oI.out) hb) (jf ho0)) (jf ho1)) (jf ho2)) (fun _ h_=>h_.1));replace aW:=kb aW hb;replace dM:=kb dM hb;replace iD:=kb iD hb;replace HB:=ak (aI bb hb)
    (try clear hb)
    (try clear ho0)
    (try clear ho1)
    (try clear ho2);obtain⟨ao1,ao2,ao3⟩:=bG alH.out
    (first|subst ao3|(injection ao3 with sN zx sO;have zy:=sN.symm;have zA:=sO.symm;clear sN zx sO;subst zy;subst zA));obtain⟨Xm,Xn,ajh⟩:=bG alI.out
    (first|subst ajh|(injection ajh with sN zx sO;have zy:=sN.symm;have zA:=sO.symm;clear sN zx sO;subst zy;subst zA));obtain⟨alK,alL,aeC⟩:=bG alJ.out
    (first|subst aeC|(injection aeC with sN zx sO;have zy:=sN.symm;have zA:=sO.symm;clear sN zx sO;subst zy;subst zA));refine hK.out _ _ ⟨(aG iD.out 0).trans rfl,(aG iD.out 1).trans rfl,(aG iD.out 2).trans rfl,(aG aW.out 0).trans rfl,(aG aW.out 1).trans rfl,(aG aW.out 2).trans rfl,((HB.out.cell (World.block_lt_of_cell? w _ Bq)).trans Bq),((HB.out.cell (World.block_lt_of_cell? w _ Bo)).trans Bo),((HB.out.cell (World.block_lt_of_cell? w _ Bl)).trans Bl)⟩ (fun hHeld=>?_);clear hK K;refine iT (a':=?_) ?_ ?_
    rotate_left
    ·show Act.put _ (some 28) _=_
     simp only[Act.put,jB,jC,l_c,bJ,b_];rfl
    refine H_ (i:=8) (N:=some 29) #[true,true,true,true,true,true,true,true,true,false,false,false] rfl rfl (qM ug.out (by kernel_rfl)) (by decide) (fun K hK=>?_);refine S9 (w1:=?_) (v:=?_) (by rfl) rfl ?_ ?_
    rotate_left 2
    ·go_simp;constructor
     ·rfl
     ·rfl
    refine hK.out _ _ ⟨(aG (au iD.out _) 0).trans rfl,(aG (au iD.out _) 1).trans rfl,(aG (au iD.out _) 2).trans rfl,(aG (au aW.out _) 0).trans rfl,(aG (au aW.out _) 1).trans rfl,(aG (au aW.out _) 2).trans rfl,(World.cell?_alloc_lt _ _ _ (World.block_lt_of_cell? _ _ (((HB.out.cell (World.block_lt_of_cell? w _ Bq)).trans Bq)))).trans (((HB.out.cell (World.block_lt_of_cell? w _ Bq)).trans Bq)),(World.cell?_alloc_lt _ _ _ (World.block_lt_of_cell? _ _ (((HB.out.cell (World.block_lt_of_cell? w _ Bo)).trans Bo)))).trans (((HB.out.cell (World.block_lt_of_cell? w _ Bo)).trans Bo)),(World.cell?_alloc_lt _ _ _ (World.block_lt_of_cell? _ _ (((HB.out.cell (World.block_lt_of_cell? w _ Bl)).trans Bl)))).trans (((HB.out.cell (World.block_lt_of_cell? w _ Bl)).trans Bl))⟩ (fun hHeld=>?_);clear hK K;refine iT (a':=?_) ?_ ?_
    rotate_left
    ·show Act.put _ (some 29) _=_
     simp only[Act.put,jB,jC,l_c,bJ,b_];rfl
    refine H_ (i:=9) (N:=some 30) #[true,true,true,true,true,true,true,true,true,true,false,false] rfl rfl (qM ug.out (by kernel_rfl)) (by decide) (fun K hK=>?_);refine vK k32 (w0:=w) w.heap.size (by rfl) (.tmp 22) (.tmp 29) 30 32 (.agg #[(.slice none 0 0),(.slice none 0 0),(.slice none 0 0)]) 72 rfl underlying30 aam rfl (by decide) (by omega) zC xA (⟨alx,aly,alz⟩:jm) [.slice ao1 alx.length ao2, .slice Xm aly.length Xn, .slice alK alz.length alL] (fun k_=>some k_≠(.slice uo vW.length uq:Value).ownBlock∧some k_≠(.slice vU AO.length vC:Value).ownBlock∧k_≠bV∧k_≠gW∧k_≠dF) (fun k_=>((fun k_=>some k_≠(.slice uo vW.length uq:Value).ownBlock∧some k_≠(.slice vU AO.length vC:Value).ownBlock∧k_≠bV∧k_≠gW∧k_≠dF)) k_∧some k_≠(zC:Value).ownBlock) rfl rfl ?aP (fun _ hk=>hk) ?aF ?aO ?aB ?aS ?aL ?_
    (case aP=>exact Vs _ _ _ (⟨alx,aly,alz⟩:jm) (aY (eP (eP (eP (vk (vk (alH.out) (qA qF.out) (by decide)) (qA oI.out) (by decide)) aW.out (by decide)) dM.out (by decide)) iD.out (by decide)) (fun k_ hk=>⟨⟨hk.1.1.1.1.1.2,⟨hk.1.1.1.1.2,⟨hk.1.1.2,⟨hk.1.2,hk.2⟩⟩⟩⟩,hk.1.1.1.2⟩)) (aY (eP (eP (eP (vk (vk (alI.out) (qA qE.out) (by decide)) (qA oI.out) (by decide)) aW.out (by decide)) dM.out (by decide)) iD.out (by decide)) (fun k_ hk=>⟨⟨hk.1.1.1.1.2,⟨hk.1.1.1.1.1.2,⟨hk.1.1.2,⟨hk.1.2,hk.2⟩⟩⟩⟩,hk.1.1.1.2⟩)) (aY (alJ.out) (fun k_ hk=>⟨⟨hk.1.1.1.1.1.2,⟨hk.1.1.1.1.2,⟨hk.1.1.2,⟨hk.1.2,hk.2⟩⟩⟩⟩,hk.1.1.1.2⟩)))
    (case aB=>exact bb)
    (case aF=>exact(fun k_ hk=>⟨Kd.fresh' (ru (ur qE.out)) k_ hk,Kd.fresh' (ru (ur qF.out)) k_ hk,yA (g:=bV) (o:= .cells #[.slice cO aN.length cZ, .slice dh aQ.length dw, .slice (some Qh) aA.length bg] 32 (0,0)) (ub aW.out) k_ hk,yA (g:=gW) (o:= .cells #[.slice none 0 0, .slice none 0 0, .slice none 0 0] 32 (0,0)) (ub dM.out) k_ hk,yA (g:=dF) (o:= .cells #[.slice uo vW.length uq, .slice vU AO.length vC,zC] 32 (0,0)) (ub iD.out) k_ hk⟩))
    (case aO=>exact(ur (aY oI.out (fun _ hk=>⟨hk.1.1.1.1,⟨hk.1.1.1.2.1,⟨hk.1.1.1.2.2.1,⟨hk.1.1.1.2.2.2.1,hk.1.1.1.2.2.2.2⟩⟩⟩⟩))))
    (case aS=>exact(aj bb))
    (case aL=>have:=Xd.out;omega);intro aKT w31 ho hb hg hat
    rw[←asz.out]at ho;have ng:=ak (xq (ur qE.out) (qA (ur oI.out)) (by decide) hg);have ni:=ak (xq (ur qF.out) (qA (ur oI.out)) (by decide) hg);have qx:=ak (eu (g:=bV) (o:= .cells #[.slice cO aN.length cZ, .slice dh aQ.length dw, .slice (some Qh) aA.length bg] 32 (0,0)) (ub aW.out) hg (Ku oI.out (fun _ hk=>hk.1.1.1.2.2.1)));have sV:=ak (eu (g:=gW) (o:= .cells #[.slice none 0 0, .slice none 0 0, .slice none 0 0] 32 (0,0)) (ub dM.out) hg (Ku oI.out (fun _ hk=>hk.1.1.1.2.2.2.1)));have xQ:=ak (eu (g:=dF) (o:= .cells #[.slice uo vW.length uq, .slice vU AO.length vC,zC] 32 (0,0)) (ub iD.out) hg (Ku oI.out (fun _ hk=>hk.1.1.1.2.2.2.2)));have Ht:=ak (hb);have Nb:=ak (ho);clear qE qF aW dM iD HB oI alH alI alJ;have qE:=ng;have qF:=ni;have aW:=qx;have dM:=sV;have iD:=xQ;have HB:=Ht;have asA:=Nb;clear ng ni qx sV xQ Ht Nb ho hb hg hat
    obtain⟨Xe,Xf,aeB⟩:=bG asA.out
    (first|subst aeB|(injection aeB with sN zx sO;have zy:=sN.symm;have zA:=sO.symm;clear sN zx sO;subst zy;subst zA));refine hK.out _ _ ⟨(aG iD.out 0).trans rfl,(aG iD.out 1).trans rfl,(aG iD.out 2).trans rfl,(aG aW.out 0).trans rfl,(aG aW.out 1).trans rfl,(aG aW.out 2).trans rfl,((HB.out.cell (World.block_lt_of_cell? w _ Bq)).trans Bq),((HB.out.cell (World.block_lt_of_cell? w _ Bo)).trans Bo),((HB.out.cell (World.block_lt_of_cell? w _ Bl)).trans Bl)⟩ (fun hHeld=>?_);clear hK K;refine iT (a':=?_) ?_ ?_
    rotate_left
    ·show Act.put _ (some 30) _=_
     simp only[Act.put,jB,jC,l_c,bJ,b_];rfl
    refine rG (i:=10) (N:=some 31) (v:=?_) (a':=?_) #[true,true,true,true,true,true,true,true,true,true,true,false] rfl rfl (rZ ug.out (by kernel_rfl)) (fun _ _ _ h=>h) (Or.inl ⟨by rfl,?_⟩) ?_ ?_
    rotate_left
    ·intro w';go_simp
     with_reducible rfl
    rotate_left
    ·simp only[Act.put,jB,jC,l_c,bJ,b_];rfl
    refine Xi (i:=11) (N:=none) #[true,true,true,true,true,true,true,true,true,true,true,true] rfl rfl (qM ug.out (by kernel_rfl)) (by decide) (fun K hK=>?_);have aKU:w31.cell? ⟨dF,2,none⟩=some (zC):=(aG iD.out 2).trans rfl;have aIn:=jl iD.out 2;have aCU:=fE.out;have aCV:=iG.out;have aCW:=iZ.out;have aCX:=jd.out;refine Xc (w1:=?_) (by rfl) rfl ?_ ?_
    rotate_left
    ·go_simp;rfl
    refine hK.out _ _ ?_;clear hK K;refine P8 (Jt ug.out (by kernel_rfl)) ?_;try go_wp2
    go_roundg k1
    case measure=>have:=jv.out;omega
    case rel=>exact⟨(wrap64 (eF+1)),(alA),(.slice Xe alA.length Xf),rs,H',⟨by have:=jv.out;omega⟩,⟨ur (aY (bK (p:=⟨dF,2,none⟩) (eP qE.out iD.out (by decide)) (fun _ hk=>hk.2) (.slice Xe alA.length Xf)) (fun _ hk=>trivial))⟩,⟨ur (aY (bK (p:=⟨dF,2,none⟩) (eP qF.out iD.out (by decide)) (fun _ hk=>hk.2) (.slice Xe alA.length Xf)) (fun _ hk=>trivial))⟩,⟨ur (aY (bK (p:=⟨dF,2,none⟩) (aY asA.out (fun k_ hk=>(⟨hk,hk.2.2.2.2⟩:_∧k_≠dF))) (fun _ hk=>hk.2) (.slice Xe alA.length Xf)) (fun _ hk=>⟨hk.1.1,⟨hk.1.2.1,⟨hk.1.2.2.1,⟨hk.1.2.2.2.1,hk.1.2.2.2.2⟩⟩⟩⟩))⟩,⟨by(with_reducible repeat(first|refine ay ?_ _|refine aC ?_|refine au ?_ _));refine fJ ?_ fE.out _;(with_reducible repeat(first|refine ay ?_ _|refine aC ?_|refine au ?_ _));exact aW.out⟩,⟨by(with_reducible repeat(first|refine ay ?_ _|refine aC ?_|refine au ?_ _));refine fJ ?_ iG.out _;(with_reducible repeat(first|refine ay ?_ _|refine aC ?_|refine au ?_ _));exact dM.out⟩,⟨by(with_reducible repeat(first|refine ay ?_ _|refine aC ?_|refine au ?_ _));refine bU (cs:=#[.slice uo vW.length uq, .slice vU AO.length vC,zC]) ?_ 2 _ rfl;(with_reducible repeat(first|refine ay ?_ _|refine aC ?_|refine au ?_ _));exact iD.out⟩,⟨bb⟩⟩
   ·simp only[Option.some.injEq,Prod.mk.injEq]at H;obtain⟨rfl,rfl,rfl⟩:=H;have ay4:=ZB.out;have ay5:=ZC.out;have aIo:=fE.out;have aIp:=iZ.out;obtain⟨ao4,ao5,ao6,ao7,ao8,ao9⟩:=iE aW.out;have asu:=jd.out;have asv:=iG.out;obtain⟨aCY,aCZ,aC0,aC1,aC2,aC3⟩:=iE iD.out;obtain⟨agV,agW,agX,agY,agZ,ag0⟩:=iE dM.out;obtain⟨ao_,apa,aFK⟩:=bG oI.out;subst aFK;go_wp2;refine bodyPost_ret (results_cell_row rfl _ _ gW 32 #[.slice uo vW.length uq, .slice vU AO.length vC, .slice ao_ xA.length apa] (0,0) _ rfl (by(with_reducible repeat(first|refine ay ?_ _|refine aC ?_|refine au ?_ _));refine bU (cs:=#[.slice uo vW.length uq, .slice vU AO.length vC, .slice none 0 0]) ?_ 2 _ rfl;(with_reducible repeat(first|refine ay ?_ _|refine aC ?_|refine au ?_ _));refine bU (cs:=#[.slice uo vW.length uq, .slice none 0 0, .slice none 0 0]) ?_ 1 _ rfl;(with_reducible repeat(first|refine ay ?_ _|refine aC ?_|refine au ?_ _));refine bU (cs:=#[.slice none 0 0, .slice none 0 0, .slice none 0 0]) ?_ 0 _ rfl;(with_reducible repeat(first|refine ay ?_ _|refine aC ?_|refine au ?_ _));exact dM.out) underlying32 rfl (by kernel_rfl)) rfl ?_;exact⟨_,_,_,er,ur (aY (bK (p:=⟨gW,2,none⟩) (bK (p:=⟨gW,1,none⟩) (bK (p:=⟨gW,0,none⟩) (eP qE.out dM.out (by decide)) (fun _ hk=>hk.2) (.slice uo vW.length uq)) (fun _ hk=>hk.2) (.slice vU AO.length vC)) (fun _ hk=>hk.2) (.slice ao_ xA.length apa)) (fun _ hk=>trivial)),ur (aY (bK (p:=⟨gW,2,none⟩) (bK (p:=⟨gW,1,none⟩) (bK (p:=⟨gW,0,none⟩) (eP qF.out dM.out (by decide)) (fun _ hk=>hk.2) (.slice uo vW.length uq)) (fun _ hk=>hk.2) (.slice vU AO.length vC)) (fun _ hk=>hk.2) (.slice ao_ xA.length apa)) (fun _ hk=>trivial)),ur (aY (bK (p:=⟨gW,2,none⟩) (bK (p:=⟨gW,1,none⟩) (bK (p:=⟨gW,0,none⟩) (aY oI.out (fun k_ hk=>(⟨hk,hk.2.2.2.1⟩:_∧k_≠gW))) (fun _ hk=>hk.2) (.slice uo vW.length uq)) (fun _ hk=>hk.2) (.slice vU AO.length vC)) (fun _ hk=>hk.2) (.slice ao_ xA.length apa)) (fun _ hk=>⟨hk.1.1,hk.1.2.1⟩)),bb⟩
end Go.Proofs.YtdimppdlfgnhgaaGreatDoor.PFnExactPartAt
