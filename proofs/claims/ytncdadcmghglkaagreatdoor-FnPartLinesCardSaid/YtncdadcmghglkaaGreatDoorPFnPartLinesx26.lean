/- Printed walks; conditions: those in each statement. -/
import Derived.Test.YtncdadcmghglkaaGreatDoorVFnPartLinesQt
import Derived.Test.YtncdadcmghglkaaGreatDoorVFnPartLinesYt
import Derived.Test.YtncdadcmghglkaaGreatDoorPFnPartLinesx0
import Derived.Test.YtncdadcmghglkaaGreatDoorPFnPartLinesx1
import Derived.Test.YtncdadcmghglkaaGreatDoorPFnPartLinesx2
import Derived.Test.YtncdadcmghglkaaGreatDoorPFnPartLinesx21
import Derived.Test.YtncdadcmghglkaaGreatDoorPFnPartLinesx22
import Derived.Test.YtncdadcmghglkaaGreatDoorPFnPartLinesx24
-- short
-- dense
-- sq
-- sq2
namespace Go.Proofs.YtncdadcmghglkaaGreatDoor.PFnPartLines
open Go.RowKit Go.Proofs.YtncdadcmghglkaaGreatDoor.X Go.Proofs.YtncdadcmghglkaaGreatDoorW.bI Go.Proofs.YtncdadcmghglkaaGreatDoorW.iy Go.Proofs.YtncdadcmghglkaaGreatDoorW.iZ
attribute [local go_sem] kZ lg nK nM jW jX lq lu   -- for this text's walks alone
set_option linter.unusedVariables false
set_option maxHeartbeats 8000000
set_option maxRecDepth 100000
set_option linter.unusedSimpArgs false
mutual
def bn.l0 : Nat → ByteArray → Bool → Bool → ByteArray → ByteArray → List (gX) → Option (ByteArray × ByteArray × (List (gX)) × Bool)
 | 0, _, _, _, _, _, _ => none
 | k + 1, x5, x6, x9, DL, DN, BD => if x6 = true then ((ji.f k x5 59).bind fun PE => ((bK.f k PE.1).bind fun asP => ((ji.f k asP 61).bind fun VK => ((bK.f k VK.2.1).bind fun asQ => ((fF.f k asQ).bind fun VL => (if VK.2.2 = true then (if VL.2 = true then (bn.j1 k PE.2.1 PE.2.2 x9 VK.1 VL.1 ((VL.1.length : Int) != 1) DL DN BD) else (bn.j1 k PE.2.1 PE.2.2 x9 VK.1 VL.1 true DL DN BD)) else (bn.j1 k PE.2.1 PE.2.2 x9 VK.1 VL.1 true DL DN BD))))))) else (if x9 = true then ((aX.f k DL DN BD).bind fun asR => (if asR = true then (some (DL, DN, BD, true)) else (some ((⟨#[]⟩ : ByteArray), (⟨#[]⟩ : ByteArray), ([] : List (gX)), false)))) else (some ((⟨#[]⟩ : ByteArray), (⟨#[]⟩ : ByteArray), ([] : List (gX)), false)))
def bn.j1 : Nat → ByteArray → Bool → Bool → ByteArray → List ByteArray → Bool → ByteArray → ByteArray → List (gX) → Option (ByteArray × ByteArray × (List (gX)) × Bool)
 | 0, _, _, _, _, _, _, _, _, _ => none
 | k + 1, x5, x6, x9, x12, x15, x69, DL, DN, BD => if x69 = true then (some ((⟨#[]⟩ : ByteArray), (⟨#[]⟩ : ByteArray), ([] : List (gX)), false)) else ((bK.f k x12).bind fun amH => ((iF.f amH).bind fun abD => (if 0 < (x15.length : Int) then (if BD.length < 4398046511104 then (bn.l0 k x5 x6 x9 DL DN (BD ++ [(⟨abD, mX ByteArray.empty x15 0⟩ : gX)])) else (none)) else (none))))
end
def bn.f (k : Nat) (a0 : ByteArray) : Option (ByteArray × ByteArray × (List (gX)) × Bool) := (aQ.f k a0).bind fun asT => (if asT = true then ((ji.f k a0 59).bind fun ad_ => ((bK.f k ad_.1).bind fun asU => ((ji.f k asU 47).bind fun aea => ((iF.f aea.1).bind fun Ue => ((iF.f aea.2.1).bind fun Uf => (bn.l0 k ad_.2.1 ad_.2.2 aea.2.2 Ue Uf ([] : List (gX)))))))) else (some ((⟨#[]⟩ : ByteArray), (⟨#[]⟩ : ByteArray), ([] : List (gX)), false)))
def bn.T13 : Bool × List (List Nat × List Nat) := (true, [([], []), ([0], [0]), ([], []), ([2], [2]), ([3, 3], [3]), ([], []), ([5], [5]), ([6], [6]), ([4, 7], [4, 7]), ([8], [8]), ([1, 9, 4], [1, 9]), ([0, 1, 2, 3, 4, 5, 6, 7, 8, 9, 10], []), ([11, 10, 10, 0, 1, 2, 3, 4, 5, 6, 7, 8, 9, 10], [10, 11])])
def bn.B13 : List Nat := [0, 1, 0, 4, 12, 0, 32, 96, 252, 508, 1023, 2047, 4095]
theorem bn.Y3 : rU .any (opsOf Tryz.f155 13) = bn.T13 := by kernel_rfl
theorem bn.TF : nD bn.T13.2 bn.B13 = true := by kernel_rfl
theorem bn.calls {k : Nat} {a0 r1 r2 : ByteArray} {r3 : List (gX)} {r4 : Bool} {w : World} (h : bn.f k a0 = some (r1, r2, r3, r4)) :
  Calls Tryz.prog 155 #[.string a0] w fun e w' => ∃ EG : Value, e = .returned (.tuple #[.agg #[.string r1, .string r2, EG], .bool r4]) ∧ Kd.R qI 69 w' w.heap.size (fun _ => True) EG r3 ∧ Below w.heap.size w w' := by
 have Vm := Tryz.underlying61
 have Dn := Tryz.underlying69
 have HB := ak (Below.refl w.heap.size w)
 unfold bn.f at h; have H := h
 clear h
 replace H := bd H; obtain ⟨asT, A2, H⟩ := H; replace H := sb H
 rcases H with ⟨rfl, H⟩ | ⟨rfl, H⟩
 ·
  replace H := bd H
  obtain ⟨⟨aF5, aF6, aF7⟩, A4, H⟩ := H
  (try dsimp only at H)
  replace H := bd H; obtain ⟨asU, A5, H⟩ := H; replace H := bd H
  obtain ⟨⟨aF8, aF9, asV⟩, A6, H⟩ := H
  (try dsimp only at H)
  replace H := bd H; obtain ⟨Ue, A7, H⟩ := H; replace H := bd H; obtain ⟨Uf, A8, H⟩ := H
  have H' := ak H; clear H
  go_enter Tryz.func155, Tryz.ntmps155
  go_wp2_with (first | (refine gG 2 ?_; refine bX HB 2 #[.string (⟨#[]⟩ : ByteArray), .string (⟨#[]⟩ : ByteArray), .slice none 0 0] 61 ?_; intro JD w9 lZ asW hb; replace HB := bs HB hb; clear hb) | (refine gD Tryz.func159 (aQ.calls A2.out) ?_; intro w9 hb; replace lZ := kb lZ hb; replace HB := bz HB hb; clear hb) | (refine gD Tryz.func178 (ji.calls A4.out) ?_; intro w9 hb; replace lZ := kb lZ hb; replace HB := bz HB hb; clear hb) | (refine gD Tryz.func179 (bK.calls A5.out) ?_; intro w9 hb; replace lZ := kb lZ hb; replace HB := bz HB hb; clear hb) | (refine gD Tryz.func178 (ji.calls A6.out) ?_; intro w9 hb; replace lZ := kb lZ hb; replace HB := bz HB hb; clear hb) | (refine gB Tryz.func180 (iF.calls A7.out) ?_; intro w10 hb; replace lZ := kb lZ hb; replace HB := bz HB hb; clear hb) | (refine gB Tryz.func180 (iF.calls A8.out) ?_; intro U3 hb; replace lZ := kb lZ hb; replace HB := bz HB hb; clear hb) | (refine gG 10 ?_; refine bY HB 10 #[.string (⟨#[]⟩ : ByteArray), .string (⟨#[]⟩ : ByteArray), .slice none 0 0] 61 ?_; intro PG w12 nZ aB4 hg hb; have zU := Ba lZ hg; have zV := Bc lZ hg; replace lZ := kb lZ hb; replace HB := bz HB hb; clear hb hg; have ail := zV.out; have ain := zU.out; have z14 := kK nZ.out))
  go_loopg [5, 6] k (fun kq v5 v6 w' => ∃ (dM : ByteArray) (jy : Bool) (F9 : ByteArray) (Gf : ByteArray) (wE : List (gX)) (zK : Value), v5 = .string dM ∧ v6 = .bool jy ∧ ah (bn.l0 kq dM jy asV Ue Uf wE = some (r1, r2, r3, r4)) ∧ ah (kq ≤ k) ∧ ah (Kd.R qI 69 w' w.heap.size (fun _ => True) zK wE) ∧ ah (w'.heap[JD]? = some (.cells #[.string F9, .string Gf, (.slice none 0 0)] 61 (0, 0))) ∧ ah (w'.heap[PG]? = some (.cells #[.string Ue, .string Uf, zK] 61 (0, 0))) ∧ ah (Below w.heap.size w w'))
  case atStart => exact ⟨_, _, _, _, _, _, rs, rs, H', ⟨Nat.le_refl _⟩, ⟨nx⟩, ⟨bq⟩, ⟨bq⟩, ⟨bb⟩⟩
  case round =>
   clear H'
   obtain ⟨dM, jy, F9, Gf, wE, zK, rfl, rfl, HA, xI, jr, lZ, nZ, HB⟩ := hrel
   cases gk with
   | zero => exact zz HA.out
   | succ k1 =>
    obtain ⟨H⟩ := HA
    simp only [bn.l0] at H
    replace H := sb H
    rcases H with ⟨rfl, H⟩ | ⟨rfl, H⟩
    ·
     replace H := bd H
     obtain ⟨⟨aF_, ay1, ay2⟩, ZE, H⟩ := H
     (try dsimp only at H)
     replace H := bd H; obtain ⟨asP, A17, H⟩ := H; replace H := bd H
     obtain ⟨⟨asX, aGa, aGb⟩, A18, H⟩ := H
     (try dsimp only at H)
     replace H := bd H; obtain ⟨asQ, A19, H⟩ := H; replace H := bd H
     obtain ⟨⟨QO, aGc⟩, A20, H⟩ := H
     (try dsimp only at H)
     have amI := ak H
     clear H
     go_upto_region 11 with (first | (refine gA Tryz.func178 (ji.calls ZE.out) ?_; intro nd) | (refine gA Tryz.func179 (bK.calls A17.out) ?_; intro nd) | (refine gA Tryz.func178 (ji.calls A18.out) ?_; intro nd) | (refine gA Tryz.func179 (bK.calls A19.out) ?_; intro nd) | (refine gV Tryz.func181 (fF.calls A20.out) ?_; rintro ay3 YX ⟨ho0, hb⟩; have ZF := ak (Kd.aC ho0 (aj bb)); replace jr := rb jr hb; replace lZ := kb lZ hb; replace nZ := kb nZ hb; replace HB := bz HB hb; clear hb; (try clear ho0)))
     (try simp only [Act.put, yT, yU, l_c])
     go_cut [69] (fun v69 wc => ∃ (kq : Nat) (XI : Bool), v69 = .bool XI ∧ ah (bn.j1 kq ay1 ay2 asV asX QO XI Ue Uf wE = some (r1, r2, r3, r4)) ∧ ah (kq ≤ k1) ∧ ah (Kd.R Kd.string 9 wc w.heap.size (fun _ => True) ay3 QO) ∧ ah (Kd.R qI 69 wc w.heap.size (fun _ => True) zK wE) ∧ ah (wc.heap[JD]? = some (.cells #[.string F9, .string Gf, (.slice none 0 0)] 61 (0, 0))) ∧ ah (wc.heap[PG]? = some (.cells #[.string Ue, .string Uf, zK] 61 (0, 0))) ∧ ah (Below w.heap.size w wc))
     case first =>
      have H := amI.out
      clear amI
      replace H := sb H
      rcases H with ⟨rfl, H⟩ | ⟨rfl, H⟩
      ·
       replace H := sb H
       rcases H with ⟨rfl, H⟩ | ⟨rfl, H⟩
       ·
        have H' := ak H; clear H
        obtain ⟨ay4, ay5, amJ⟩ := Kd.aI ZF.out
        subst amJ
        go_wp2
        go_meet
        case rel => exact ⟨_, _, rs, H', ⟨kl⟩, ⟨ur ZF.out⟩, ⟨ur jr.out⟩, ⟨ub lZ.out⟩, ⟨ub nZ.out⟩, ⟨bb⟩⟩
       ·
        have H' := ak H; clear H
        go_wp2
        go_meet
        case rel => exact ⟨_, _, rs, H', ⟨kl⟩, ⟨ur ZF.out⟩, ⟨ur jr.out⟩, ⟨ub lZ.out⟩, ⟨ub nZ.out⟩, ⟨bb⟩⟩
      ·
       have H' := ak H; clear H
       go_wp2
       go_meet
       case rel => exact ⟨_, _, rs, H', ⟨kl⟩, ⟨ur ZF.out⟩, ⟨ur jr.out⟩, ⟨ub lZ.out⟩, ⟨ub nZ.out⟩, ⟨bb⟩⟩
     case rest =>
      clear amI
      obtain ⟨kq, XI, rfl, HA, asY, He, jr, lZ, nZ, HB⟩ := hcut
      cases kq with
      | zero => exact zz HA.out
      | succ ay6 =>
       obtain ⟨H⟩ := HA
       simp only [bn.j1] at H
       replace H := sb H
       rcases H with ⟨rfl, H⟩ | ⟨rfl, H⟩
       ·
        obtain ⟨rfl, rfl, rfl, rfl⟩ := s4 H
        have ajD := zU.out
        have ajE := zV.out
        have aJv := kK lZ.out
        go_wp2
        refine bodyPost_ret (lC rfl _ _ JD 61 #[.string (⟨#[]⟩ : ByteArray), .string (⟨#[]⟩ : ByteArray), .slice none 0 0] (0, 0) _ rfl bq Tryz.underlying61 rfl (by kernel_rfl)) rfl ?_
        exact ⟨_, er, nx, bb⟩
       ·
        replace H := bd H; obtain ⟨amH, A29, H⟩ := H; replace H := bd H; obtain ⟨abD, A30, H⟩ := H; replace H := nn H; obtain ⟨c31, H⟩ := H
        have aeb := decide_eq_true c31
        have aec : decide (0 < QO.length) = true := decide_eq_true (by omega)
        clear c31
        replace H := nl H; obtain ⟨asZ, H⟩ := H
        obtain ⟨aGd, ajF⟩ := nm (wE ++ [(⟨abD, mX ByteArray.empty QO 0⟩ : gX)])
        rw [← ajF.out] at H
        have H' := ak H; clear H
        try go_wp2
        replace He := ak (Kd.fV He.out)
        replace jr := ak (Kd.fV jr.out)
        replace lZ := ak (iQ lZ.out)
        replace nZ := ak (iQ nZ.out)
        replace HB := ak (fQ HB.out)
        obtain ⟨as1, as2, aed⟩ := Kd.aI He.out
        (first | subst aed | (injection aed with oM uz oN; have uD := oM.symm; have uF := oN.symm; clear oM uz oN; subst uD; subst uF))
        have amK : 0 ≤ (0 : Int) := (by omega)
        have amL : 0 < (QO.length : Int) := of_decide_eq_true (by assumption)
        obtain ⟨as3, ay7, Ov⟩ := Kd.iU (Kd.ay He.out).2.2 0 amK amL
        cases ay7
        have aB5 : (0 < QO.length) = True := eq_true (by omega)
        (try rw [show ((0 : Int)).toNat = 0 from rfl] at Ov)
        (try rw [Addr.add_zero'] at Ov)
        replace amK := eq_true amK
        replace amL := eq_true amL
        refine Ce (n := 13) (S := fun w' => w'.cell? ⟨PG, 0, none⟩ = some (.string Ue) ∧ w'.cell? ⟨PG, 1, none⟩ = some (.string Uf) ∧ w'.cell? ⟨PG, 2, none⟩ = some (zK) ∧ w'.cell? as3 = some (.string (mX ByteArray.empty QO 0))) (ds := [10, 12]) #[false, false, false, false, false, false, false, false, false, false, false, false, false] (by kernel_rfl) rfl rfl ⟨(aA nZ.out 0).trans rfl, (aA nZ.out 1).trans rfl, (aA nZ.out 2).trans rfl, Ov⟩ (fun hHeld => ?_); refine tN bn.Y3 bn.TF (fun D8 HW_ => ?_)
        generalize wc.drew = w33 at He jr lZ nZ HB Ov hHeld ⊢
        refine pl 0 ?_
        refine pl 2 ?_
        refine pl 5 ?_
        refine pl 6 ?_
        refine tk 1 ?_
        refine tk 7 ?_
        refine o1 3 (fun K hK => ?_)
        refine yN Tryz.func179 (by kernel_rfl) rfl #[.string asX] (by rfl) rfl rfl ma ?_
        with_reducible refine (bK.calls A29.out).mono ?_
        rintro e w' ⟨rfl, ⟨nd, rfl⟩⟩
        refine ⟨_, rfl, ?_⟩
        refine hK.out _ _ ⟨(aA nZ.out 0).trans rfl, (aA nZ.out 1).trans rfl, (aA nZ.out 2).trans rfl, hHeld.2.2.2⟩ (fun hHeld => ?_)
        clear hK K
        refine nrm ?_
        refine o1 4 (fun K hK => ?_)
        refine yN Tryz.func180 (by kernel_rfl) rfl #[.string amH] (by rfl) rfl rfl ma ?_
        with_reducible refine (iF.calls A30.out).mono ?_
        rintro e w35 ⟨rfl, hb⟩
        have al8 := (hb.cell (World.block_lt_of_cell? _ _ (hHeld.2.2.2))).trans (hHeld.2.2.2)
        refine ⟨_, rfl, ?_⟩
        replace He := rb He hb
        replace jr := rb jr hb
        replace lZ := kb lZ hb
        replace nZ := kb nZ hb
        replace HB := bz HB hb
        try clear hb
        refine hK.out _ _ ⟨(aA nZ.out 0).trans rfl, (aA nZ.out 1).trans rfl, (aA nZ.out 2).trans rfl, al8⟩ (fun hHeld => ?_)
        clear hK K
        refine nrm ?_
        refine pl 8 ?_
        refine o1 9 (fun K hK => ?_)
        refine Ci (w1 := ?_) (v := ?_) (by rfl) rfl ?_ ?_
        rotate_left 2
        ·
         go_simp
         constructor
         ·
          rfl
         ·
          rfl
        refine hK.out _ _ ⟨(aA (iV nZ.out _) 0).trans rfl, (aA (iV nZ.out _) 1).trans rfl, (aA (iV nZ.out _) 2).trans rfl, (World.cell?_alloc_lt _ _ _ (World.block_lt_of_cell? _ _ (hHeld.2.2.2))).trans (hHeld.2.2.2)⟩ (fun hHeld => ?_)
        clear hK K
        refine nrm ?_
        refine GY (i := 10) (N := some 81) #[true, true, true, true, true, true, true, true, true, true, true, false, false] rfl rfl (Ac D8.out (by kernel_rfl)) (by decide) (fun K hK => ?_)
        refine Kd.nJ qI (w0 := w) w.heap.size (by rfl) (.tmp 72) (.tmp 80) 25 69 (.agg #[(.string ⟨#[]⟩), (.string ⟨#[]⟩)]) 32 rfl Tryz.underlying25 Cc rfl (by decide) (by omega) zK wE (⟨abD, mX ByteArray.empty QO 0⟩ : gX) [.string abD, .string (mX ByteArray.empty QO 0)] (fun _ => True) (fun _ => False) rfl rfl ?aP (fun _ hk => hk.elim) ?aF ?aO ?aB ?aS ?aL ?_
        (case aP => exact vW _ _ _ (⟨abD, mX ByteArray.empty QO 0⟩ : gX))
        (case aB => exact bb)
        (case aF => exact (fun _ _ => trivial))
        (case aO => exact (ur jr.out))
        (case aS => exact (aj bb))
        (case aL => have := asZ.out; omega)
        intro aGe w36 ho hb hg hat
        rw [← ajF.out] at ho
        have yQ := ak (Kd.qc (ur He.out) (Kd.kG (ur jr.out)) (by decide) hg)
        have yR := ak (cZ (g := JD) (o := .cells #[.string F9, .string Gf, .slice none 0 0] 61 (0, 0)) (ub lZ.out) hg (Kd.oG jr.out lZ.out (by decide)))
        have zB := ak (cZ (g := PG) (o := .cells #[.string Ue, .string Uf, zK] 61 (0, 0)) (ub nZ.out) hg (Kd.oG jr.out nZ.out (by decide)))
        have CJ := ak (hb)
        have GX := ak (ho)
        clear He lZ nZ HB jr
        have He := yQ
        have lZ := yR
        have nZ := zB
        have HB := CJ
        have as4 := GX
        clear yQ yR zB CJ GX ho hb hg hat
        obtain ⟨agL, agM, abx⟩ := Kd.aI as4.out
        (first | subst abx | (injection abx with oM uz oN; have uD := oM.symm; have uF := oN.symm; clear oM uz oN; subst uD; subst uF))
        refine hK.out _ _ ?_
        clear hK K
        refine D9 (a' := ?_) ?_ ?_
        rotate_left
        ·
         show Act.put _ (some 81) _ = _
         simp only [Act.put, yT, yU, l_c, iK, jI]
         rfl
        refine pl 11 ?_
        refine GY (i := 12) (N := none) #[true, true, true, true, true, true, true, true, true, true, true, true, true] rfl rfl (Ac D8.out (by kernel_rfl)) (by decide) (fun K hK => ?_)
        have aGf : w36.cell? ⟨PG, 2, none⟩ = some (zK) := (aA nZ.out 2).trans rfl
        have aB6 := gY nZ.out 2
        have awN := zU.out
        have awO := zV.out
        refine GZ (w1 := ?_) (by rfl) rfl ?_ ?_
        rotate_left
        ·
         go_simp
         rfl
        refine hK.out _ _ ?_
        clear hK K
        refine G5 (yA D8.out (by kernel_rfl)) ?_
        try go_wp2
        go_roundg ay6
        case measure => have := xI.out; have := asY.out; omega
        case rel => exact ⟨_, _, _, _, _, _, rs, rs, H', ⟨by have := xI.out; have := asY.out; omega⟩, ⟨rr⟩, ⟨bq⟩, ⟨bq⟩, ⟨bb⟩⟩
    ·
     replace H := sb H
     rcases H with ⟨rfl, H⟩ | ⟨rfl, H⟩
     ·
      replace H := bd H; obtain ⟨asR, A40, H⟩ := H; replace H := sb H
      rcases H with ⟨rfl, H⟩ | ⟨rfl, H⟩
      ·
       obtain ⟨rfl, rfl, rfl, rfl⟩ := s4 H
       have aB7 := zV.out
       have aB8 := zU.out
       have z43 := kK nZ.out
       obtain ⟨aby, abz, VD⟩ := Kd.aI jr.out
       subst VD
       go_wp2_with (go_at_call 182; refine mB (aX.calls (cu ((Kd.ay jr.out).2.2)) ((Kd.ay jr.out).2.1) A40.out) ?_; intro w45 hb; replace jr := rb jr hb; replace lZ := kb lZ hb; replace nZ := kb nZ hb; replace HB := bz HB hb; clear hb; have z46 := kK nZ.out; have z47 := kK lZ.out)
       refine bodyPost_ret (lC rfl _ _ JD 61 #[.string Ue, .string Uf, .slice aby wE.length abz] (0, 0) _ rfl bq Tryz.underlying61 rfl (by kernel_rfl)) rfl ?_
       exact ⟨_, er, rr, bb⟩
      ·
       obtain ⟨rfl, rfl, rfl, rfl⟩ := s4 H
       have aii := zV.out
       have aij := zU.out
       have z49 := kK nZ.out
       obtain ⟨Dv, Dw, alE⟩ := Kd.aI jr.out
       subst alE
       go_wp2_with (go_at_call 182; refine mB (aX.calls (cu ((Kd.ay jr.out).2.2)) ((Kd.ay jr.out).2.1) A40.out) ?_; intro w51 hb; replace jr := rb jr hb; replace lZ := kb lZ hb; replace nZ := kb nZ hb; replace HB := bz HB hb; clear hb; have z52 := kK lZ.out)
       refine bodyPost_ret (lC rfl _ _ JD 61 #[.string (⟨#[]⟩ : ByteArray), .string (⟨#[]⟩ : ByteArray), .slice none 0 0] (0, 0) _ rfl bq Tryz.underlying61 rfl (by kernel_rfl)) rfl ?_
       exact ⟨_, er, nx, bb⟩
     ·
      obtain ⟨rfl, rfl, rfl, rfl⟩ := s4 H
      have aqO := zU.out
      have aqP := zV.out
      have z54 := kK lZ.out
      go_wp2
      refine bodyPost_ret (lC rfl _ _ JD 61 #[.string (⟨#[]⟩ : ByteArray), .string (⟨#[]⟩ : ByteArray), .slice none 0 0] (0, 0) _ rfl bq Tryz.underlying61 rfl (by kernel_rfl)) rfl ?_
      exact ⟨_, er, nx, bb⟩
 ·
  obtain ⟨rfl, rfl, rfl, rfl⟩ := s4 H
  go_enter Tryz.func155, Tryz.ntmps155
  go_wp2_with (first | (refine gG 2 ?_; refine bX HB 2 #[.string (⟨#[]⟩ : ByteArray), .string (⟨#[]⟩ : ByteArray), .slice none 0 0] 61 ?_; intro JD w55 lZ asW hb; replace HB := bs HB hb; clear hb) | (refine gD Tryz.func159 (aQ.calls A2.out) ?_; intro w55 hb; replace lZ := kb lZ hb; replace HB := bz HB hb; clear hb; have z56 := kK lZ.out))
  refine bodyPost_ret (lC rfl _ _ JD 61 #[.string (⟨#[]⟩ : ByteArray), .string (⟨#[]⟩ : ByteArray), .slice none 0 0] (0, 0) _ rfl bq Tryz.underlying61 rfl (by kernel_rfl)) rfl ?_
  exact ⟨_, er, nx, bb⟩
mutual
def bU.l0 : Nat → ByteArray → Int → Option (Bool)
 | 0, _, _ => none
 | k + 1, x0, x3 => if x3 < (x0.size : Int) then (bU.j1 k x0 x3 (decide (x3 ≤ 20))) else (bU.j1 k x0 x3 false)
def bU.j1 : Nat → ByteArray → Int → Bool → Option (Bool)
 | 0, _, _, _ => none
 | k + 1, x0, x3, x11 => if x11 = true then (if 0 ≤ x3 then (if x3 < (x0.size : Int) then ((gJ.f (bt x0 x3)).bind fun as5 => (if as5 = true then (bU.l0 k x0 (wrap64 (x3 + 1))) else (some false))) else (none)) else (none)) else (if (x0.size : Int) ≥ 1 then (some (decide ((x0.size : Int) ≤ 20))) else (some false))
end
def bU.f (k : Nat) (a0 : ByteArray) : Option (Bool) := bU.l0 k a0 0
theorem bU.calls {k : Nat} {a0 : ByteArray} {r : Bool} {w : World} (h : bU.f k a0 = some r) :
  Calls Tryz.prog 157 #[.string a0] w fun e w' => e = .returned (.bool r) ∧ dP w w' := by
 unfold bU.f at h; have H := h
 clear h
 have H' := ak H; clear H
 go_enter Tryz.func157, Tryz.ntmps157
 go_wp2
 go_loopg [3] k (fun kq v3 w' => ∃ (dW : Int), v3 = .int .i64 dW ∧ ah (bU.l0 kq a0 dW = some r) ∧ ah (kq ≤ k) ∧ dP w w')
 case atStart => exact ⟨_, rs, H', ⟨Nat.le_refl _⟩, dn⟩
 case round =>
  clear H'
  obtain ⟨dW, rfl, HA, xI, ⟨m1, rfl⟩⟩ := hrel
  cases gk with
  | zero => exact zz HA.out
  | succ k1 =>
   obtain ⟨H⟩ := HA
   simp only [bU.l0] at H
   have HC2 := ak H
   clear H
   go_upto_region 2 with (fail)
   go_cut [11] (fun v11 wc => ∃ (kq : Nat) (uq : Bool), v11 = .bool uq ∧ ah (bU.j1 kq a0 dW uq = some r) ∧ ah (kq ≤ k1) ∧ dP w wc)
   case first =>
    have H := HC2.out
    clear HC2
    replace H := sd H
    rcases H with ⟨iO, H⟩ | ⟨iO, H⟩
    ·
     (first | rw [iO] | (simp only [iK, jI]; rw [iO]) | skip)
     have H' := ak H; clear H
     go_wp2
     go_meet
     case rel => exact ⟨_, _, rs, H', ⟨kl⟩, dn⟩
    ·
     (first | rw [iO] | (simp only [iK, jI]; rw [iO]) | skip)
     have H' := ak H; clear H
     go_wp2
     go_meet
     case rel => exact ⟨_, _, rs, H', ⟨kl⟩, dn⟩
   case rest =>
    clear HC2
    obtain ⟨kq, uq, rfl, HA, HJ1, ⟨mc1, rfl⟩⟩ := hcut
    cases kq with
    | zero => exact zz HA.out
    | succ NK =>
     obtain ⟨H⟩ := HA
     simp only [bU.j1] at H
     replace H := sb H
     rcases H with ⟨rfl, H⟩ | ⟨rfl, H⟩
     ·
      replace H := oq H; obtain ⟨mW, H⟩ := H; replace H := oq H; obtain ⟨nN, H⟩ := H; replace H := bd H; obtain ⟨as5, A8, H⟩ := H; replace H := sb H
      rcases H with ⟨rfl, H⟩ | ⟨rfl, H⟩
      ·
       have H' := ak H; clear H
       obtain ⟨p7, q7, hx7⟩ := bx a0 dW
       go_wp2_with (refine gA Tryz.func183 (gJ.calls A8.out) ?_; intro nd)
       go_roundg NK
       case measure => exact kl
       case rel => exact ⟨_, rs, H', ⟨kl⟩, dn⟩
      ·
       obtain rfl := s1 H
       obtain ⟨p7, q7, hx7⟩ := bx a0 dW
       go_wp2_with (refine gA Tryz.func183 (gJ.calls A8.out) ?_; intro nd)
       go_ret
       exact ⟨rs, dn⟩
     ·
      replace H := sp H
      rcases H with ⟨c10, H⟩ | ⟨c10, H⟩
      ·
       have nY : decide (1 ≤ (a0.size : Int)) = true := decide_eq_true c10
       have rX : decide (1 ≤ a0.size) = true := decide_eq_true (by omega)
       clear c10
       obtain rfl := s1 H
       go_wp2
       go_ret
       exact ⟨rs, dn⟩
      ·
       have nY : decide (1 ≤ (a0.size : Int)) = false := decide_eq_false c10
       have rX : decide (1 ≤ a0.size) = false := decide_eq_false (by omega)
       clear c10
       obtain rfl := s1 H
       go_wp2
       go_ret
       exact ⟨rs, dn⟩
def mP.f (k : Nat) (eG : ByteArray) (eU : ByteArray) (aH : List (gX)) : Option (ByteArray × Bool) := (jL.f k aH (⟨#[98, 111, 117, 110, 100, 97, 114, 121]⟩ : ByteArray)).bind fun aee => ((aX.f k eG eU aH).bind fun as6 => (if as6 = true then (if eG.toList = ([109, 117, 108, 116, 105, 112, 97, 114, 116] : List UInt8) then (if aee.2 = true then ((bU.f k aee.1).bind fun as7 => (if as7 = true then (some (aee.1, true)) else (some ((⟨#[]⟩ : ByteArray), false)))) else (some ((⟨#[]⟩ : ByteArray), false))) else (some ((⟨#[]⟩ : ByteArray), false))) else (some ((⟨#[]⟩ : ByteArray), false))))
theorem mP.calls {k f_ : Nat} {eG eU r1 : ByteArray} {iP : Option Addr} {aH : List (gX)} {r2 : Bool} {w : World} (kS : Kd.C qI w iP aH.length aH) (kT : aH.length ≤ f_) (h : mP.f k eG eU aH = some (r1, r2)) :
  Calls Tryz.prog 156 #[.agg #[.string eG, .string eU, .slice iP aH.length f_]] w fun e w' => e = .returned (.tuple #[.string r1, .bool r2]) ∧ Below w.heap.size w w' := by
 have Vm := Tryz.underlying61
 have jD := ak kS
 have mQ := ak kT
 clear kS kT
 have HB := ak (Below.refl w.heap.size w)
 unfold mP.f at h; have H := h
 clear h
 replace H := bd H
 obtain ⟨⟨aGg, aGh⟩, A2, H⟩ := H
 (try dsimp only at H)
 replace H := bd H; obtain ⟨as6, A3, H⟩ := H; replace H := sb H
 rcases H with ⟨rfl, H⟩ | ⟨rfl, H⟩
 ·
  replace H := sq H
  rcases H with ⟨mW, IY, H⟩ | ⟨c5, mW, IY, H⟩
  ·
   replace H := sb H
   rcases H with ⟨rfl, H⟩ | ⟨rfl, H⟩
   ·
    replace H := bd H; obtain ⟨as7, A7, H⟩ := H; replace H := sb H
    rcases H with ⟨rfl, H⟩ | ⟨rfl, H⟩
    ·
     obtain ⟨rfl, rfl⟩ := s2 H
     go_enter Tryz.func156, Tryz.ntmps156
     go_wp2_with (first | (refine bX HB 1 #[.string eG, .string eU, .slice iP aH.length f_] 61 ?_; intro ZG w9 n_ ZH hb; replace HB := bs HB hb; clear hb; have z10 := kK n_.out) | (refine gB Tryz.func154 (jL.calls (cu (Kd.bf jD.out HB.out)) mQ.out A2.out) ?_; intro U3 hb; replace n_ := kb n_ hb; replace HB := bz HB hb; clear hb; have z12 := kK n_.out) | (refine gB Tryz.func182 (aX.calls (cu (Kd.bf jD.out HB.out)) mQ.out A3.out) ?_; intro w13 hb; replace n_ := kb n_ hb; replace HB := bz HB hb; clear hb; have z14 := kK n_.out) | (go_at_call 157; refine mA (bU.calls A7.out) ?_; intro nd))
     go_ret2
     exact ⟨er, bb⟩
    ·
     obtain ⟨rfl, rfl⟩ := s2 H
     go_enter Tryz.func156, Tryz.ntmps156
     go_wp2_with (first | (refine bX HB 1 #[.string eG, .string eU, .slice iP aH.length f_] 61 ?_; intro ZG w15 n_ ZH hb; replace HB := bs HB hb; clear hb; have z16 := kK n_.out) | (refine gB Tryz.func154 (jL.calls (cu (Kd.bf jD.out HB.out)) mQ.out A2.out) ?_; intro w17 hb; replace n_ := kb n_ hb; replace HB := bz HB hb; clear hb; have z18 := kK n_.out) | (refine gB Tryz.func182 (aX.calls (cu (Kd.bf jD.out HB.out)) mQ.out A3.out) ?_; intro Zb hb; replace n_ := kb n_ hb; replace HB := bz HB hb; clear hb; have z20 := kK n_.out) | (go_at_call 157; refine mA (bU.calls A7.out) ?_; intro nd))
     go_ret2
     exact ⟨er, bb⟩
   ·
    obtain ⟨rfl, rfl⟩ := s2 H
    go_enter Tryz.func156, Tryz.ntmps156
    go_wp2_with (first | (refine bX HB 1 #[.string eG, .string eU, .slice iP aH.length f_] 61 ?_; intro ZG w21 n_ ZH hb; replace HB := bs HB hb; clear hb; have z22 := kK n_.out) | (refine gB Tryz.func154 (jL.calls (cu (Kd.bf jD.out HB.out)) mQ.out A2.out) ?_; intro w23 hb; replace n_ := kb n_ hb; replace HB := bz HB hb; clear hb; have z24 := kK n_.out) | (refine gB Tryz.func182 (aX.calls (cu (Kd.bf jD.out HB.out)) mQ.out A3.out) ?_; intro w25 hb; replace n_ := kb n_ hb; replace HB := bz HB hb; clear hb; have z26 := kK n_.out))
    go_ret2
    exact ⟨er, bb⟩
  ·
   obtain ⟨rfl, rfl⟩ := s2 H
   go_enter Tryz.func156, Tryz.ntmps156
   go_wp2_with (first | (refine bX HB 1 #[.string eG, .string eU, .slice iP aH.length f_] 61 ?_; intro ZG w27 n_ ZH hb; replace HB := bs HB hb; clear hb; have aJv := kK n_.out) | (refine gB Tryz.func154 (jL.calls (cu (Kd.bf jD.out HB.out)) mQ.out A2.out) ?_; intro w29 hb; replace n_ := kb n_ hb; replace HB := bz HB hb; clear hb; have z30 := kK n_.out) | (refine gB Tryz.func182 (aX.calls (cu (Kd.bf jD.out HB.out)) mQ.out A3.out) ?_; intro w31 hb; replace n_ := kb n_ hb; replace HB := bz HB hb; clear hb; have z32 := kK n_.out))
   go_ret2
   exact ⟨er, bb⟩
 ·
  obtain ⟨rfl, rfl⟩ := s2 H
  go_enter Tryz.func156, Tryz.ntmps156
  go_wp2_with (first | (refine bX HB 1 #[.string eG, .string eU, .slice iP aH.length f_] 61 ?_; intro ZG w33 n_ ZH hb; replace HB := bs HB hb; clear hb; have z34 := kK n_.out) | (refine gB Tryz.func154 (jL.calls (cu (Kd.bf jD.out HB.out)) mQ.out A2.out) ?_; intro w35 hb; replace n_ := kb n_ hb; replace HB := bz HB hb; clear hb; have z36 := kK n_.out) | (refine gB Tryz.func182 (aX.calls (cu (Kd.bf jD.out HB.out)) mQ.out A3.out) ?_; intro w37 hb; replace n_ := kb n_ hb; replace HB := bz HB hb; clear hb))
  go_ret2
  exact ⟨er, bb⟩
def jV.f (k : Nat) (l0 : List (gX)) : Option (ByteArray × Bool) := (jL.f k l0 (⟨#[67, 111, 110, 116, 101, 110, 116, 45, 84, 121, 112, 101]⟩ : ByteArray)).bind fun ajG => ((bn.f k ajG.1).bind fun ZI => ((mP.f k ZI.1 ZI.2.1 ZI.2.2.1).bind fun ZJ => (if ajG.2 = true then (if ZI.2.2.2 = true then (some (ZJ.1, ZJ.2)) else (some (ZJ.1, false))) else (some (ZJ.1, false)))))
theorem jV.calls {k c0 : Nat} {A0 : Option Addr} {l0 : List (gX)} {r1 : ByteArray} {r2 : Bool} {w : World} (hr0 : Kd.C qI w A0 l0.length l0) (hc0 : l0.length ≤ c0) (h : jV.f k l0 = some (r1, r2)) :
  Calls Tryz.prog 108 #[.slice A0 l0.length c0] w fun e w' => e = .returned (.tuple #[.string r1, .bool r2]) ∧ Below w.heap.size w w' := by
 have Vm := Tryz.underlying61
 have HR0 := ak hr0
 have xE := ak hc0
 clear hr0 hc0
 have HB := ak (Below.refl w.heap.size w)
 unfold jV.f at h; have H := h
 clear h
 replace H := bd H
 obtain ⟨⟨aGi, aGj⟩, A2, H⟩ := H
 (try dsimp only at H)
 replace H := bd H
 obtain ⟨⟨amM, amN, abE, aGk⟩, A3, H⟩ := H
 (try dsimp only at H)
 replace H := bd H
 obtain ⟨⟨aGl, aGm⟩, A4, H⟩ := H
 (try dsimp only at H)
 replace H := sb H
 rcases H with ⟨rfl, H⟩ | ⟨rfl, H⟩
 ·
  replace H := sb H
  rcases H with ⟨rfl, H⟩ | ⟨rfl, H⟩
  ·
   obtain ⟨rfl, rfl⟩ := s2 H
   go_enter Tryz.func108, Tryz.ntmps108
   go_wp2_with (first | (refine gB Tryz.func154 (jL.calls (cu HR0.out) xE.out A2.out) ?_; intro w7 hb; replace HB := bs HB hb; clear hb) | (refine gV Tryz.func155 (bn.calls A3.out) ?_; rintro as8 w8 ⟨ho0, hb⟩; have uO := ak (Kd.aC ho0 (aj (ul HB.out))); replace HB := bs HB hb; clear hb; (try clear ho0)) | (refine bX HB 6 #[.string (⟨#[]⟩ : ByteArray), .string (⟨#[]⟩ : ByteArray), .slice none 0 0] 61 ?_; intro ajH w9 E_ ajI hb; replace uO := rb uO hb; replace HB := bs HB hb; clear hb; have z10 := kK E_.out; obtain ⟨yc, wM, PI⟩ := Kd.aI uO.out; subst PI) | (refine gB Tryz.func156 (mP.calls ?fZ ((Kd.ay uO.out).2.1) A4.out) ?_; (case fZ => refine (Kd.ay (e := 69) (base := w.heap.size) (ok := fun k_ => True) (n := abE.length) (c := wM) ?_).2.2; exact (rh uO)); intro w12 hb; replace uO := rg uO hb; replace E_ := kp E_ #[.string amM, .string amN, .slice yc abE.length wM] hb; replace HB := bz HB hb; clear hb))
   go_ret2
   exact ⟨er, bb⟩
  ·
   obtain ⟨rfl, rfl⟩ := s2 H
   go_enter Tryz.func108, Tryz.ntmps108
   go_wp2_with (first | (refine gB Tryz.func154 (jL.calls (cu HR0.out) xE.out A2.out) ?_; intro w13 hb; replace HB := bs HB hb; clear hb) | (refine gV Tryz.func155 (bn.calls A3.out) ?_; rintro as8 SS ⟨ho0, hb⟩; have uO := ak (Kd.aC ho0 (aj (ul HB.out))); replace HB := bs HB hb; clear hb; (try clear ho0)) | (refine bX HB 6 #[.string (⟨#[]⟩ : ByteArray), .string (⟨#[]⟩ : ByteArray), .slice none 0 0] 61 ?_; intro ajH w15 E_ ajI hb; replace uO := rb uO hb; replace HB := bs HB hb; clear hb; have z16 := kK E_.out; obtain ⟨Gy, Fa, VN⟩ := Kd.aI uO.out; subst VN) | (refine gB Tryz.func156 (mP.calls ?fZ ((Kd.ay uO.out).2.1) A4.out) ?_; (case fZ => refine (Kd.ay (e := 69) (base := w.heap.size) (ok := fun k_ => True) (n := abE.length) (c := Fa) ?_).2.2; exact (rh uO)); intro w18 hb; replace uO := rg uO hb; replace E_ := kp E_ #[.string amM, .string amN, .slice Gy abE.length Fa] hb; replace HB := bz HB hb; clear hb))
   go_ret2
   exact ⟨er, bb⟩
 ·
  obtain ⟨rfl, rfl⟩ := s2 H
  go_enter Tryz.func108, Tryz.ntmps108
  go_wp2_with (first | (refine gB Tryz.func154 (jL.calls (cu HR0.out) xE.out A2.out) ?_; intro Zb hb; replace HB := bs HB hb; clear hb) | (refine gV Tryz.func155 (bn.calls A3.out) ?_; rintro as8 w20 ⟨ho0, hb⟩; have uO := ak (Kd.aC ho0 (aj (ul HB.out))); replace HB := bs HB hb; clear hb; (try clear ho0)) | (refine bX HB 6 #[.string (⟨#[]⟩ : ByteArray), .string (⟨#[]⟩ : ByteArray), .slice none 0 0] 61 ?_; intro ajH w21 E_ ajI hb; replace uO := rb uO hb; replace HB := bs HB hb; clear hb; have z22 := kK E_.out; obtain ⟨PK, NV, aef⟩ := Kd.aI uO.out; subst aef) | (refine gB Tryz.func156 (mP.calls ?fZ ((Kd.ay uO.out).2.1) A4.out) ?_; (case fZ => refine (Kd.ay (e := 69) (base := w.heap.size) (ok := fun k_ => True) (n := abE.length) (c := NV) ?_).2.2; exact (rh uO)); intro w24 hb; replace uO := rg uO hb; replace E_ := kp E_ #[.string amM, .string amN, .slice PK abE.length NV] hb; replace HB := bz HB hb; clear hb))
  go_ret2
  exact ⟨er, bb⟩
end Go.Proofs.YtncdadcmghglkaaGreatDoor.PFnPartLines
