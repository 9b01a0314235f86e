/- Printed walks; conditions: those in each statement. -/
import Derived.Test.YtncdadcmghglkaaGreatDoorVFnCountPartsQt
import Derived.Test.YtncdadcmghglkaaGreatDoorVFnCountPartsYt
import Derived.Test.YtncdadcmghglkaaGreatDoorPFnCountPartsx0
import Derived.Test.YtncdadcmghglkaaGreatDoorPFnCountPartsx11
import Derived.Test.YtncdadcmghglkaaGreatDoorPFnCountPartsx12
import Derived.Test.YtncdadcmghglkaaGreatDoorPFnCountPartsx13
import Derived.Test.YtncdadcmghglkaaGreatDoorPFnCountPartsx15
-- short
-- dense
-- sq
-- sq2
namespace Go.Proofs.YtncdadcmghglkaaGreatDoor.PFnCountParts
open Go.RowKit Go.Proofs.YtncdadcmghglkaaGreatDoor.X Go.Proofs.YtncdadcmghglkaaGreatDoorW.bI Go.Proofs.YtncdadcmghglkaaGreatDoorW.gI Go.Proofs.YtncdadcmghglkaaGreatDoorW.iL
attribute [local go_sem] kN kP mF mG jB jC kQ kR   -- for this text's walks alone
set_option linter.unusedVariables false
set_option maxHeartbeats 8000000
set_option maxRecDepth 100000
set_option linter.unusedSimpArgs false
mutual
def bD.l0 : Nat → ByteArray → Bool → Bool → ByteArray → ByteArray → List (gY) → Option (ByteArray × ByteArray × (List (gY)) × Bool)
 | 0, _, _, _, _, _, _ => none
 | k + 1, x5, x6, x9, Dv, Dw, Bq => if x6 = true then ((jo.f k x5 59).bind fun O1 => ((bP.f k O1.1).bind fun apI => ((jo.f k apI 61).bind fun Vx => ((bP.f k Vx.2.1).bind fun apJ => ((fF.f k apJ).bind fun Vy => (if Vx.2.2 = true then (if Vy.2 = true then (bD.j1 k O1.2.1 O1.2.2 x9 Vx.1 Vy.1 ((Vy.1.length : Int) != 1) Dv Dw Bq) else (bD.j1 k O1.2.1 O1.2.2 x9 Vx.1 Vy.1 true Dv Dw Bq)) else (bD.j1 k O1.2.1 O1.2.2 x9 Vx.1 Vy.1 true Dv Dw Bq))))))) else (if x9 = true then ((aY.f k Dv Dw Bq).bind fun apK => (if apK = true then (some (Dv, Dw, Bq, true)) else (some ((⟨#[]⟩ : ByteArray), (⟨#[]⟩ : ByteArray), ([] : List (gY)), false)))) else (some ((⟨#[]⟩ : ByteArray), (⟨#[]⟩ : ByteArray), ([] : List (gY)), false)))
def bD.j1 : Nat → ByteArray → Bool → Bool → ByteArray → List ByteArray → Bool → ByteArray → ByteArray → List (gY) → Option (ByteArray × ByteArray × (List (gY)) × Bool)
 | 0, _, _, _, _, _, _, _, _, _ => none
 | k + 1, x5, x6, x9, x12, x15, x69, Dv, Dw, Bq => if x69 = true then (some ((⟨#[]⟩ : ByteArray), (⟨#[]⟩ : ByteArray), ([] : List (gY)), false)) else ((bP.f k x12).bind fun alR => ((iD.f alR).bind fun abD => (if 0 < (x15.length : Int) then (if Bq.length < 4398046511104 then (bD.l0 k x5 x6 x9 Dv Dw (Bq ++ [(⟨abD, o8 ByteArray.empty x15 0⟩ : gY)])) else (none)) else (none))))
end
def bD.f (k : Nat) (a0 : ByteArray) : Option (ByteArray × ByteArray × (List (gY)) × Bool) := (aQ.f k a0).bind fun apL => (if apL = true then ((jo.f k a0 59).bind fun adf => ((bP.f k adf.1).bind fun apM => ((jo.f k apM 47).bind fun adg => ((iD.f adg.1).bind fun TG => ((iD.f adg.2.1).bind fun TI => (bD.l0 k adf.2.1 adf.2.2 adg.2.2 TG TI ([] : List (gY)))))))) else (some ((⟨#[]⟩ : ByteArray), (⟨#[]⟩ : ByteArray), ([] : List (gY)), false)))
def bD.T13 : Bool × List (List Nat × List Nat) := (true, [([], []), ([0], [0]), ([], []), ([2], [2]), ([3, 3], [3]), ([], []), ([5], [5]), ([6], [6]), ([4, 7], [4, 7]), ([8], [8]), ([1, 9, 4], [1, 9]), ([0, 1, 2, 3, 4, 5, 6, 7, 8, 9, 10], []), ([11, 10, 10, 0, 1, 2, 3, 4, 5, 6, 7, 8, 9, 10], [10, 11])])
def bD.B13 : List Nat := [0, 1, 0, 4, 12, 0, 32, 96, 252, 508, 1023, 2047, 4095]
theorem bD.Y3 : sJ .any (opsOf Tryz.f155 13) = bD.T13 := by kernel_rfl
theorem bD.TJ : nV bD.T13.2 bD.B13 = true := by kernel_rfl
theorem bD.calls {k : Nat} {a0 r1 r2 : ByteArray} {r3 : List (gY)} {r4 : Bool} {w : World} (h : bD.f k a0 = some (r1, r2, r3, r4)) :
  Calls Tryz.prog 155 #[.string a0] w fun e w' => ∃ EK : Value, e = .returned (.tuple #[.agg #[.string r1, .string r2, EK], .bool r4]) ∧ Kd.R qJ 69 w' w.heap.size (fun _ => True) EK r3 ∧ Below w.heap.size w w' := by
 have Vu := Tryz.underlying61
 have Dt := Tryz.underlying69
 have HB := ak (Below.refl w.heap.size w)
 unfold bD.f at h; have H := h
 clear h
 replace H := bd H; obtain ⟨apL, A2, H⟩ := H; replace H := sb H
 rcases H with ⟨rfl, H⟩ | ⟨rfl, H⟩
 ·
  replace H := bd H
  obtain ⟨⟨aDR, aDS, aDT⟩, A4, H⟩ := H
  (try dsimp only at H)
  replace H := bd H; obtain ⟨apM, A5, H⟩ := H; replace H := bd H
  obtain ⟨⟨aDU, aDV, apN⟩, A6, H⟩ := H
  (try dsimp only at H)
  replace H := bd H; obtain ⟨TG, A7, H⟩ := H; replace H := bd H; obtain ⟨TI, A8, H⟩ := H
  have H' := ak H; clear H
  go_enter Tryz.func155, Tryz.ntmps155
  go_wp2_with (first | (refine gG 2 ?_; refine bX HB 2 #[.string (⟨#[]⟩ : ByteArray), .string (⟨#[]⟩ : ByteArray), .slice none 0 0] 61 ?_; intro Jl w9 mO apO hb; replace HB := bs HB hb; clear hb) | (refine gD Tryz.func159 (aQ.calls A2.out) ?_; intro w9 hb; replace mO := kb mO hb; replace HB := bz HB hb; clear hb) | (refine gD Tryz.func178 (jo.calls A4.out) ?_; intro w9 hb; replace mO := kb mO hb; replace HB := bz HB hb; clear hb) | (refine gD Tryz.func179 (bP.calls A5.out) ?_; intro w9 hb; replace mO := kb mO hb; replace HB := bz HB hb; clear hb) | (refine gD Tryz.func178 (jo.calls A6.out) ?_; intro w9 hb; replace mO := kb mO hb; replace HB := bz HB hb; clear hb) | (refine gB Tryz.func180 (iD.calls A7.out) ?_; intro w10 hb; replace mO := kb mO hb; replace HB := bz HB hb; clear hb) | (refine gB Tryz.func180 (iD.calls A8.out) ?_; intro SN hb; replace mO := kb mO hb; replace HB := bz HB hb; clear hb) | (refine gG 10 ?_; refine bY HB 10 #[.string (⟨#[]⟩ : ByteArray), .string (⟨#[]⟩ : ByteArray), .slice none 0 0] 61 ?_; intro O4 w12 oD aAO hg hb; have zS := AZ mO hg; have zT := A_ mO hg; replace mO := kb mO hb; replace HB := bz HB hb; clear hb hg; have aiS := zT.out; have aiT := zS.out; have z14 := jW oD.out))
  go_loopg [5, 6] k (fun kq v5 v6 w' => ∃ (eH : ByteArray) (jH : Bool) (FX : ByteArray) (FY : ByteArray) (wM : List (gY)) (zL : Value), v5 = .string eH ∧ v6 = .bool jH ∧ ah (bD.l0 kq eH jH apN TG TI wM = some (r1, r2, r3, r4)) ∧ ah (kq ≤ k) ∧ ah (Kd.R qJ 69 w' w.heap.size (fun _ => True) zL wM) ∧ ah (w'.heap[Jl]? = some (.cells #[.string FX, .string FY, (.slice none 0 0)] 61 (0, 0))) ∧ ah (w'.heap[O4]? = some (.cells #[.string TG, .string TI, zL] 61 (0, 0))) ∧ ah (Below w.heap.size w w'))
  case atStart => exact ⟨_, _, _, _, _, _, rs, rs, H', ⟨Nat.le_refl _⟩, ⟨nx⟩, ⟨bq⟩, ⟨bq⟩, ⟨bb⟩⟩
  case round =>
   clear H'
   obtain ⟨eH, jH, FX, FY, wM, zL, rfl, rfl, HA, xu, jD, mO, oD, HB⟩ := hrel
   cases gk with
   | zero => exact zz HA.out
   | succ k1 =>
    obtain ⟨H⟩ := HA
    simp only [bD.l0] at H
    replace H := sb H
    rcases H with ⟨rfl, H⟩ | ⟨rfl, H⟩
    ·
     replace H := bd H
     obtain ⟨⟨aDW, aw_, axa⟩, A16, H⟩ := H
     (try dsimp only at H)
     replace H := bd H; obtain ⟨apI, A17, H⟩ := H; replace H := bd H
     obtain ⟨⟨apP, aDX, aDY⟩, A18, H⟩ := H
     (try dsimp only at H)
     replace H := bd H; obtain ⟨apJ, A19, H⟩ := H; replace H := bd H
     obtain ⟨⟨QI, aDZ⟩, A20, H⟩ := H
     (try dsimp only at H)
     have alS := ak H
     clear H
     go_upto_region 11 with (first | (refine gA Tryz.func178 (jo.calls A16.out) ?_; intro nd) | (refine gA Tryz.func179 (bP.calls A17.out) ?_; intro nd) | (refine gA Tryz.func178 (jo.calls A18.out) ?_; intro nd) | (refine gA Tryz.func179 (bP.calls A19.out) ?_; intro nd) | (refine gV Tryz.func181 (fF.calls A20.out) ?_; rintro axb Xm ⟨ho0, hb⟩; have Y4 := ak (Kd.aA ho0 (aj bb)); replace jD := rb jD hb; replace mO := kb mO hb; replace oD := kb oD hb; replace HB := bz HB hb; clear hb; (try clear ho0)))
     (try simp only [Act.put, qW, qX, l_c])
     go_cut [69] (fun v69 wc => ∃ (kq : Nat) (Xo : Bool), v69 = .bool Xo ∧ ah (bD.j1 kq aw_ axa apN apP QI Xo TG TI wM = some (r1, r2, r3, r4)) ∧ ah (kq ≤ k1) ∧ ah (Kd.R Kd.string 9 wc w.heap.size (fun _ => True) axb QI) ∧ ah (Kd.R qJ 69 wc w.heap.size (fun _ => True) zL wM) ∧ ah (wc.heap[Jl]? = some (.cells #[.string FX, .string FY, (.slice none 0 0)] 61 (0, 0))) ∧ ah (wc.heap[O4]? = some (.cells #[.string TG, .string TI, zL] 61 (0, 0))) ∧ ah (Below w.heap.size w wc))
     case first =>
      have H := alS.out
      clear alS
      replace H := sb H
      rcases H with ⟨rfl, H⟩ | ⟨rfl, H⟩
      ·
       replace H := sb H
       rcases H with ⟨rfl, H⟩ | ⟨rfl, H⟩
       ·
        have H' := ak H; clear H
        obtain ⟨axc, axd, alT⟩ := Kd.aN Y4.out
        subst alT
        go_wp2
        go_meet
        case rel => exact ⟨_, _, rs, H', ⟨kl⟩, ⟨ur Y4.out⟩, ⟨ur jD.out⟩, ⟨ub mO.out⟩, ⟨ub oD.out⟩, ⟨bb⟩⟩
       ·
        have H' := ak H; clear H
        go_wp2
        go_meet
        case rel => exact ⟨_, _, rs, H', ⟨kl⟩, ⟨ur Y4.out⟩, ⟨ur jD.out⟩, ⟨ub mO.out⟩, ⟨ub oD.out⟩, ⟨bb⟩⟩
      ·
       have H' := ak H; clear H
       go_wp2
       go_meet
       case rel => exact ⟨_, _, rs, H', ⟨kl⟩, ⟨ur Y4.out⟩, ⟨ur jD.out⟩, ⟨ub mO.out⟩, ⟨ub oD.out⟩, ⟨bb⟩⟩
     case rest =>
      clear alS
      obtain ⟨kq, Xo, rfl, HA, apQ, GV, jD, mO, oD, HB⟩ := hcut
      cases kq with
      | zero => exact zz HA.out
      | succ axe =>
       obtain ⟨H⟩ := HA
       simp only [bD.j1] at H
       replace H := sb H
       rcases H with ⟨rfl, H⟩ | ⟨rfl, H⟩
       ·
        obtain ⟨rfl, rfl, rfl, rfl⟩ := s4 H
        have aiU := zS.out
        have aiV := zT.out
        have z28 := jW mO.out
        go_wp2
        refine bodyPost_ret (lM rfl _ _ Jl 61 #[.string (⟨#[]⟩ : ByteArray), .string (⟨#[]⟩ : ByteArray), .slice none 0 0] (0, 0) _ rfl bq Tryz.underlying61 rfl (by kernel_rfl)) rfl ?_
        exact ⟨_, er, nx, bb⟩
       ·
        replace H := bd H; obtain ⟨alR, A29, H⟩ := H; replace H := bd H; obtain ⟨abD, A30, H⟩ := H; replace H := nn H; obtain ⟨c31, H⟩ := H
        have adh := decide_eq_true c31
        have adi : decide (0 < QI.length) = true := decide_eq_true (by omega)
        clear c31
        replace H := nl H; obtain ⟨apR, H⟩ := H
        obtain ⟨aD0, aiW⟩ := nm (wM ++ [(⟨abD, o8 ByteArray.empty QI 0⟩ : gY)])
        rw [← aiW.out] at H
        have H' := ak H; clear H
        try go_wp2
        replace GV := ak (Kd.mD GV.out)
        replace jD := ak (Kd.mD jD.out)
        replace mO := ak (bn mO.out)
        replace oD := ak (bn oD.out)
        replace HB := ak (iH HB.out)
        obtain ⟨apS, apT, adk⟩ := Kd.aN GV.out
        (first | subst adk | (injection adk with qR wZ qU; have xg := qR.symm; have xk := qU.symm; clear qR wZ qU; subst xg; subst xk))
        have alU : 0 ≤ (0 : Int) := (by omega)
        have alV : 0 < (QI.length : Int) := of_decide_eq_true (by assumption)
        obtain ⟨apU, axf, Oi⟩ := Kd.kF (Kd.au GV.out).2.2 0 alU alV
        cases axf
        have aAP : (0 < QI.length) = True := eq_true (by omega)
        (try rw [show ((0 : Int)).toNat = 0 from rfl] at Oi)
        (try rw [Addr.add_zero'] at Oi)
        replace alU := eq_true alU
        replace alV := eq_true alV
        refine Ci (n := 13) (S := fun w' => w'.cell? ⟨O4, 0, none⟩ = some (.string TG) ∧ w'.cell? ⟨O4, 1, none⟩ = some (.string TI) ∧ w'.cell? ⟨O4, 2, none⟩ = some (zL) ∧ w'.cell? apU = some (.string (o8 ByteArray.empty QI 0))) (ds := [10, 12]) #[false, false, false, false, false, false, false, false, false, false, false, false, false] (by kernel_rfl) rfl rfl ⟨(aG oD.out 0).trans rfl, (aG oD.out 1).trans rfl, (aG oD.out 2).trans rfl, Oi⟩ (fun hHeld => ?_); refine uq bD.Y3 bD.TJ (fun t_ Xp => ?_)
        generalize wc.drew = w33 at GV jD mO oD HB Oi hHeld ⊢
        refine pl 0 ?_
        refine pl 2 ?_
        refine pl 5 ?_
        refine pl 6 ?_
        refine tk 1 ?_
        refine tk 7 ?_
        refine o1 3 (fun K hK => ?_)
        refine yR Tryz.func179 (by kernel_rfl) rfl #[.string apP] (by rfl) rfl rfl ma ?_
        with_reducible refine (bP.calls A29.out).mono ?_
        rintro e w' ⟨rfl, ⟨nd, rfl⟩⟩
        refine ⟨_, rfl, ?_⟩
        refine hK.out _ _ ⟨(aG oD.out 0).trans rfl, (aG oD.out 1).trans rfl, (aG oD.out 2).trans rfl, hHeld.2.2.2⟩ (fun hHeld => ?_)
        clear hK K
        refine nrm ?_
        refine o1 4 (fun K hK => ?_)
        refine yR Tryz.func180 (by kernel_rfl) rfl #[.string alR] (by rfl) rfl rfl ma ?_
        with_reducible refine (iD.calls A30.out).mono ?_
        rintro e w35 ⟨rfl, hb⟩
        have alW := (hb.cell (World.block_lt_of_cell? _ _ (hHeld.2.2.2))).trans (hHeld.2.2.2)
        refine ⟨_, rfl, ?_⟩
        replace GV := rb GV hb
        replace jD := rb jD hb
        replace mO := kb mO hb
        replace oD := kb oD hb
        replace HB := bz HB hb
        try clear hb
        refine hK.out _ _ ⟨(aG oD.out 0).trans rfl, (aG oD.out 1).trans rfl, (aG oD.out 2).trans rfl, alW⟩ (fun hHeld => ?_)
        clear hK K
        refine nrm ?_
        refine pl 8 ?_
        refine o1 9 (fun K hK => ?_)
        refine Cj (w1 := ?_) (v := ?_) (by rfl) rfl ?_ ?_
        rotate_left 2
        ·
         go_simp
         constructor
         ·
          rfl
         ·
          rfl
        refine hK.out _ _ ⟨(aG (aX oD.out _) 0).trans rfl, (aG (aX oD.out _) 1).trans rfl, (aG (aX oD.out _) 2).trans rfl, (World.cell?_alloc_lt _ _ _ (World.block_lt_of_cell? _ _ (hHeld.2.2.2))).trans (hHeld.2.2.2)⟩ (fun hHeld => ?_)
        clear hK K
        refine nrm ?_
        refine GX (i := 10) (N := some 81) #[true, true, true, true, true, true, true, true, true, true, true, false, false] rfl rfl (oL t_.out (by kernel_rfl)) (by decide) (fun K hK => ?_)
        refine Kd.nU qJ (w0 := w) w.heap.size (by rfl) (.tmp 72) (.tmp 80) 25 69 (.agg #[(.string ⟨#[]⟩), (.string ⟨#[]⟩)]) 32 rfl Tryz.underlying25 Cc rfl (by decide) (by omega) zL wM (⟨abD, o8 ByteArray.empty QI 0⟩ : gY) [.string abD, .string (o8 ByteArray.empty QI 0)] (fun _ => True) (fun _ => False) rfl rfl ?aP (fun _ hk => hk.elim) ?aF ?aO ?aB ?aS ?aL ?_
        (case aP => exact wC _ _ _ (⟨abD, o8 ByteArray.empty QI 0⟩ : gY))
        (case aB => exact bb)
        (case aF => exact (fun _ _ => trivial))
        (case aO => exact (ur jD.out))
        (case aS => exact (aj bb))
        (case aL => have := apR.out; omega)
        intro aD1 w36 ho hb hg hat
        rw [← aiW.out] at ho
        have yP := ak (Kd.qo (ur GV.out) (Kd.kU (ur jD.out)) (by decide) hg)
        have yQ := ak (dw (g := Jl) (o := .cells #[.string FX, .string FY, .slice none 0 0] 61 (0, 0)) (ub mO.out) hg (Kd.oQ jD.out mO.out (by decide)))
        have zA := ak (dw (g := O4) (o := .cells #[.string TG, .string TI, zL] 61 (0, 0)) (ub oD.out) hg (Kd.oQ jD.out oD.out (by decide)))
        have CS := ak (hb)
        have GY := ak (ho)
        clear GV mO oD HB jD
        have GV := yP
        have mO := yQ
        have oD := zA
        have HB := CS
        have apV := GY
        clear yP yQ zA CS GY ho hb hg hat
        obtain ⟨agi, agj, abw⟩ := Kd.aN apV.out
        (first | subst abw | (injection abw with qR wZ qU; have xg := qR.symm; have xk := qU.symm; clear qR wZ qU; subst xg; subst xk))
        refine hK.out _ _ ?_
        clear hK K
        refine qF (a' := ?_) ?_ ?_
        rotate_left
        ·
         show Act.put _ (some 81) _ = _
         simp only [Act.put, qW, qX, l_c, dU, fU]
         rfl
        refine pl 11 ?_
        refine GX (i := 12) (N := none) #[true, true, true, true, true, true, true, true, true, true, true, true, true] rfl rfl (oL t_.out (by kernel_rfl)) (by decide) (fun K hK => ?_)
        have aD2 : w36.cell? ⟨O4, 2, none⟩ = some (zL) := (aG oD.out 2).trans rfl
        have aAQ := iq oD.out 2
        have avK := zS.out
        have avL := zT.out
        refine GZ (w1 := ?_) (by rfl) rfl ?_ ?_
        rotate_left
        ·
         go_simp
         rfl
        refine hK.out _ _ ?_
        clear hK K
        refine G5 (yH t_.out (by kernel_rfl)) ?_
        try go_wp2
        go_roundg axe
        case measure => have := xu.out; have := apQ.out; omega
        case rel => exact ⟨_, _, _, _, _, _, rs, rs, H', ⟨by have := xu.out; have := apQ.out; omega⟩, ⟨rr⟩, ⟨bq⟩, ⟨bq⟩, ⟨bb⟩⟩
    ·
     replace H := sb H
     rcases H with ⟨rfl, H⟩ | ⟨rfl, H⟩
     ·
      replace H := bd H; obtain ⟨apK, A40, H⟩ := H; replace H := sb H
      rcases H with ⟨rfl, H⟩ | ⟨rfl, H⟩
      ·
       obtain ⟨rfl, rfl, rfl, rfl⟩ := s4 H
       have aAR := zT.out
       have aAS := zS.out
       have z43 := jW oD.out
       obtain ⟨acY, acZ, abx⟩ := Kd.aN jD.out
       subst abx
       go_wp2_with (go_at_call 182; refine mB (aY.calls (cu ((Kd.au jD.out).2.2)) ((Kd.au jD.out).2.1) A40.out) ?_; intro w45 hb; replace jD := rb jD hb; replace mO := kb mO hb; replace oD := kb oD hb; replace HB := bz HB hb; clear hb; have z46 := jW oD.out; have z47 := jW mO.out)
       refine bodyPost_ret (lM rfl _ _ Jl 61 #[.string TG, .string TI, .slice acY wM.length acZ] (0, 0) _ rfl bq Tryz.underlying61 rfl (by kernel_rfl)) rfl ?_
       exact ⟨_, er, rr, bb⟩
      ·
       obtain ⟨rfl, rfl, rfl, rfl⟩ := s4 H
       have aiX := zT.out
       have aiY := zS.out
       have z49 := jW oD.out
       obtain ⟨Ac, zM, adl⟩ := Kd.aN jD.out
       subst adl
       go_wp2_with (go_at_call 182; refine mB (aY.calls (cu ((Kd.au jD.out).2.2)) ((Kd.au jD.out).2.1) A40.out) ?_; intro w51 hb; replace jD := rb jD hb; replace mO := kb mO hb; replace oD := kb oD hb; replace HB := bz HB hb; clear hb; have z52 := jW mO.out)
       refine bodyPost_ret (lM rfl _ _ Jl 61 #[.string (⟨#[]⟩ : ByteArray), .string (⟨#[]⟩ : ByteArray), .slice none 0 0] (0, 0) _ rfl bq Tryz.underlying61 rfl (by kernel_rfl)) rfl ?_
       exact ⟨_, er, nx, bb⟩
     ·
      obtain ⟨rfl, rfl, rfl, rfl⟩ := s4 H
      have apW := zS.out
      have apX := zT.out
      have z54 := jW mO.out
      go_wp2
      refine bodyPost_ret (lM rfl _ _ Jl 61 #[.string (⟨#[]⟩ : ByteArray), .string (⟨#[]⟩ : ByteArray), .slice none 0 0] (0, 0) _ rfl bq Tryz.underlying61 rfl (by kernel_rfl)) rfl ?_
      exact ⟨_, er, nx, bb⟩
 ·
  obtain ⟨rfl, rfl, rfl, rfl⟩ := s4 H
  go_enter Tryz.func155, Tryz.ntmps155
  go_wp2_with (first | (refine gG 2 ?_; refine bX HB 2 #[.string (⟨#[]⟩ : ByteArray), .string (⟨#[]⟩ : ByteArray), .slice none 0 0] 61 ?_; intro Jl w55 mO apO hb; replace HB := bs HB hb; clear hb) | (refine gD Tryz.func159 (aQ.calls A2.out) ?_; intro w55 hb; replace mO := kb mO hb; replace HB := bz HB hb; clear hb; have z56 := jW mO.out))
  refine bodyPost_ret (lM rfl _ _ Jl 61 #[.string (⟨#[]⟩ : ByteArray), .string (⟨#[]⟩ : ByteArray), .slice none 0 0] (0, 0) _ rfl bq Tryz.underlying61 rfl (by kernel_rfl)) rfl ?_
  exact ⟨_, er, nx, bb⟩
mutual
def bZ.l0 : Nat → ByteArray → Int → Option (Bool)
 | 0, _, _ => none
 | k + 1, x0, x3 => if x3 < (x0.size : Int) then (bZ.j1 k x0 x3 (decide (x3 ≤ 20))) else (bZ.j1 k x0 x3 false)
def bZ.j1 : Nat → ByteArray → Int → Bool → Option (Bool)
 | 0, _, _, _ => none
 | k + 1, x0, x3, x11 => if x11 = true then (if 0 ≤ x3 then (if x3 < (x0.size : Int) then ((gK.f (bt x0 x3)).bind fun apY => (if apY = true then (bZ.l0 k x0 (wrap64 (x3 + 1))) else (some false))) else (none)) else (none)) else (if (x0.size : Int) ≥ 1 then (some (decide ((x0.size : Int) ≤ 20))) else (some false))
end
def bZ.f (k : Nat) (a0 : ByteArray) : Option (Bool) := bZ.l0 k a0 0
theorem bZ.calls {k : Nat} {a0 : ByteArray} {r : Bool} {w : World} (h : bZ.f k a0 = some r) :
  Calls Tryz.prog 157 #[.string a0] w fun e w' => e = .returned (.bool r) ∧ dS w w' := by
 unfold bZ.f at h; have H := h
 clear h
 have H' := ak H; clear H
 go_enter Tryz.func157, Tryz.ntmps157
 go_wp2
 go_loopg [3] k (fun kq v3 w' => ∃ (dM : Int), v3 = .int .i64 dM ∧ ah (bZ.l0 kq a0 dM = some r) ∧ ah (kq ≤ k) ∧ dS w w')
 case atStart => exact ⟨_, rs, H', ⟨Nat.le_refl _⟩, dn⟩
 case round =>
  clear H'
  obtain ⟨dM, rfl, HA, xu, ⟨m1, rfl⟩⟩ := hrel
  cases gk with
  | zero => exact zz HA.out
  | succ k1 =>
   obtain ⟨H⟩ := HA
   simp only [bZ.l0] at H
   have HC2 := ak H
   clear H
   go_upto_region 2 with (fail)
   go_cut [11] (fun v11 wc => ∃ (kq : Nat) (uU : Bool), v11 = .bool uU ∧ ah (bZ.j1 kq a0 dM uU = some r) ∧ ah (kq ≤ k1) ∧ dS w wc)
   case first =>
    have H := HC2.out
    clear HC2
    replace H := sd H
    rcases H with ⟨iQ, H⟩ | ⟨iQ, H⟩
    ·
     (first | rw [iQ] | (simp only [dU, fU]; rw [iQ]) | skip)
     have H' := ak H; clear H
     go_wp2
     go_meet
     case rel => exact ⟨_, _, rs, H', ⟨kl⟩, dn⟩
    ·
     (first | rw [iQ] | (simp only [dU, fU]; rw [iQ]) | skip)
     have H' := ak H; clear H
     go_wp2
     go_meet
     case rel => exact ⟨_, _, rs, H', ⟨kl⟩, dn⟩
   case rest =>
    clear HC2
    obtain ⟨kq, uU, rfl, HA, HJ1, ⟨mc1, rfl⟩⟩ := hcut
    cases kq with
    | zero => exact zz HA.out
    | succ NI =>
     obtain ⟨H⟩ := HA
     simp only [bZ.j1] at H
     replace H := sb H
     rcases H with ⟨rfl, H⟩ | ⟨rfl, H⟩
     ·
      replace H := oM H; obtain ⟨nR, H⟩ := H; replace H := oM H; obtain ⟨nT, H⟩ := H; replace H := bd H; obtain ⟨apY, A8, H⟩ := H; replace H := sb H
      rcases H with ⟨rfl, H⟩ | ⟨rfl, H⟩
      ·
       have H' := ak H; clear H
       obtain ⟨p7, q7, hx7⟩ := bx a0 dM
       go_wp2_with (refine gA Tryz.func183 (gK.calls A8.out) ?_; intro nd)
       go_roundg NI
       case measure => exact kl
       case rel => exact ⟨_, rs, H', ⟨kl⟩, dn⟩
      ·
       obtain rfl := s1 H
       obtain ⟨p7, q7, hx7⟩ := bx a0 dM
       go_wp2_with (refine gA Tryz.func183 (gK.calls A8.out) ?_; intro nd)
       go_ret
       exact ⟨rs, dn⟩
     ·
      replace H := sp H
      rcases H with ⟨c10, H⟩ | ⟨c10, H⟩
      ·
       have oC : decide (1 ≤ (a0.size : Int)) = true := decide_eq_true c10
       have sK : decide (1 ≤ a0.size) = true := decide_eq_true (by omega)
       clear c10
       obtain rfl := s1 H
       go_wp2
       go_ret
       exact ⟨rs, dn⟩
      ·
       have oC : decide (1 ≤ (a0.size : Int)) = false := decide_eq_false c10
       have sK : decide (1 ≤ a0.size) = false := decide_eq_false (by omega)
       clear c10
       obtain rfl := s1 H
       go_wp2
       go_ret
       exact ⟨rs, dn⟩
def nH.f (k : Nat) (eF : ByteArray) (eP : ByteArray) (aC : List (gY)) : Option (ByteArray × Bool) := (jU.f k aC (⟨#[98, 111, 117, 110, 100, 97, 114, 121]⟩ : ByteArray)).bind fun adn => ((aY.f k eF eP aC).bind fun apZ => (if apZ = true then (if eF.toList = ([109, 117, 108, 116, 105, 112, 97, 114, 116] : List UInt8) then (if adn.2 = true then ((bZ.f k adn.1).bind fun ap0 => (if ap0 = true then (some (adn.1, true)) else (some ((⟨#[]⟩ : ByteArray), false)))) else (some ((⟨#[]⟩ : ByteArray), false))) else (some ((⟨#[]⟩ : ByteArray), false))) else (some ((⟨#[]⟩ : ByteArray), false))))
theorem nH.calls {k eY : Nat} {eF eP r1 : ByteArray} {gX : Option Addr} {aC : List (gY)} {r2 : Bool} {w : World} (jJ : Kd.C qJ w gX aC.length aC) (jK : aC.length ≤ eY) (h : nH.f k eF eP aC = some (r1, r2)) :
  Calls Tryz.prog 156 #[.agg #[.string eF, .string eP, .slice gX aC.length eY]] w fun e w' => e = .returned (.tuple #[.string r1, .bool r2]) ∧ Below w.heap.size w w' := by
 have Vu := Tryz.underlying61
 have jm := ak jJ
 have lJ := ak jK
 clear jJ jK
 have HB := ak (Below.refl w.heap.size w)
 unfold nH.f at h; have H := h
 clear h
 replace H := bd H
 obtain ⟨⟨aD3, aD4⟩, A2, H⟩ := H
 (try dsimp only at H)
 replace H := bd H; obtain ⟨apZ, A3, H⟩ := H; replace H := sb H
 rcases H with ⟨rfl, H⟩ | ⟨rfl, H⟩
 ·
  replace H := sq H
  rcases H with ⟨nR, Ji, H⟩ | ⟨c5, nR, Ji, H⟩
  ·
   replace H := sb H
   rcases H with ⟨rfl, H⟩ | ⟨rfl, H⟩
   ·
    replace H := bd H; obtain ⟨ap0, A7, H⟩ := H; replace H := sb H
    rcases H with ⟨rfl, H⟩ | ⟨rfl, H⟩
    ·
     obtain ⟨rfl, rfl⟩ := s2 H
     go_enter Tryz.func156, Tryz.ntmps156
     go_wp2_with (first | (refine bX HB 1 #[.string eF, .string eP, .slice gX aC.length eY] 61 ?_; intro Y5 w9 oG Y6 hb; replace HB := bs HB hb; clear hb; have z10 := jW oG.out) | (refine gB Tryz.func154 (jU.calls (cu (Kd.aW jm.out HB.out)) lJ.out A2.out) ?_; intro SN hb; replace oG := kb oG hb; replace HB := bz HB hb; clear hb; have z12 := jW oG.out) | (refine gB Tryz.func182 (aY.calls (cu (Kd.aW jm.out HB.out)) lJ.out A3.out) ?_; intro w13 hb; replace oG := kb oG hb; replace HB := bz HB hb; clear hb; have z14 := jW oG.out) | (go_at_call 157; refine mA (bZ.calls A7.out) ?_; intro nd))
     go_ret2
     exact ⟨er, bb⟩
    ·
     obtain ⟨rfl, rfl⟩ := s2 H
     go_enter Tryz.func156, Tryz.ntmps156
     go_wp2_with (first | (refine bX HB 1 #[.string eF, .string eP, .slice gX aC.length eY] 61 ?_; intro Y5 w15 oG Y6 hb; replace HB := bs HB hb; clear hb; have z16 := jW oG.out) | (refine gB Tryz.func154 (jU.calls (cu (Kd.aW jm.out HB.out)) lJ.out A2.out) ?_; intro w17 hb; replace oG := kb oG hb; replace HB := bz HB hb; clear hb; have z18 := jW oG.out) | (refine gB Tryz.func182 (aY.calls (cu (Kd.aW jm.out HB.out)) lJ.out A3.out) ?_; intro Xq hb; replace oG := kb oG hb; replace HB := bz HB hb; clear hb; have z20 := jW oG.out) | (go_at_call 157; refine mA (bZ.calls A7.out) ?_; intro nd))
     go_ret2
     exact ⟨er, bb⟩
   ·
    obtain ⟨rfl, rfl⟩ := s2 H
    go_enter Tryz.func156, Tryz.ntmps156
    go_wp2_with (first | (refine bX HB 1 #[.string eF, .string eP, .slice gX aC.length eY] 61 ?_; intro Y5 w21 oG Y6 hb; replace HB := bs HB hb; clear hb; have z22 := jW oG.out) | (refine gB Tryz.func154 (jU.calls (cu (Kd.aW jm.out HB.out)) lJ.out A2.out) ?_; intro w23 hb; replace oG := kb oG hb; replace HB := bz HB hb; clear hb; have z24 := jW oG.out) | (refine gB Tryz.func182 (aY.calls (cu (Kd.aW jm.out HB.out)) lJ.out A3.out) ?_; intro w25 hb; replace oG := kb oG hb; replace HB := bz HB hb; clear hb; have z26 := jW oG.out))
    go_ret2
    exact ⟨er, bb⟩
  ·
   obtain ⟨rfl, rfl⟩ := s2 H
   go_enter Tryz.func156, Tryz.ntmps156
   go_wp2_with (first | (refine bX HB 1 #[.string eF, .string eP, .slice gX aC.length eY] 61 ?_; intro Y5 w27 oG Y6 hb; replace HB := bs HB hb; clear hb; have z28 := jW oG.out) | (refine gB Tryz.func154 (jU.calls (cu (Kd.aW jm.out HB.out)) lJ.out A2.out) ?_; intro w29 hb; replace oG := kb oG hb; replace HB := bz HB hb; clear hb; have z30 := jW oG.out) | (refine gB Tryz.func182 (aY.calls (cu (Kd.aW jm.out HB.out)) lJ.out A3.out) ?_; intro w31 hb; replace oG := kb oG hb; replace HB := bz HB hb; clear hb; have z32 := jW oG.out))
   go_ret2
   exact ⟨er, bb⟩
 ·
  obtain ⟨rfl, rfl⟩ := s2 H
  go_enter Tryz.func156, Tryz.ntmps156
  go_wp2_with (first | (refine bX HB 1 #[.string eF, .string eP, .slice gX aC.length eY] 61 ?_; intro Y5 w33 oG Y6 hb; replace HB := bs HB hb; clear hb; have z34 := jW oG.out) | (refine gB Tryz.func154 (jU.calls (cu (Kd.aW jm.out HB.out)) lJ.out A2.out) ?_; intro w35 hb; replace oG := kb oG hb; replace HB := bz HB hb; clear hb; have z36 := jW oG.out) | (refine gB Tryz.func182 (aY.calls (cu (Kd.aW jm.out HB.out)) lJ.out A3.out) ?_; intro w37 hb; replace oG := kb oG hb; replace HB := bz HB hb; clear hb))
  go_ret2
  exact ⟨er, bb⟩
def kC.f (k : Nat) (l0 : List (gY)) : Option (ByteArray × Bool) := (jU.f k l0 (⟨#[67, 111, 110, 116, 101, 110, 116, 45, 84, 121, 112, 101]⟩ : ByteArray)).bind fun aiZ => ((bD.f k aiZ.1).bind fun Y7 => ((nH.f k Y7.1 Y7.2.1 Y7.2.2.1).bind fun Y8 => (if aiZ.2 = true then (if Y7.2.2.2 = true then (some (Y8.1, Y8.2)) else (some (Y8.1, false))) else (some (Y8.1, false)))))
theorem kC.calls {k c0 : Nat} {A0 : Option Addr} {l0 : List (gY)} {r1 : ByteArray} {r2 : Bool} {w : World} (hr0 : Kd.C qJ w A0 l0.length l0) (hc0 : l0.length ≤ c0) (h : kC.f k l0 = some (r1, r2)) :
  Calls Tryz.prog 108 #[.slice A0 l0.length c0] w fun e w' => e = .returned (.tuple #[.string r1, .bool r2]) ∧ Below w.heap.size w w' := by
 have Vu := Tryz.underlying61
 have HR0 := ak hr0
 have xq := ak hc0
 clear hr0 hc0
 have HB := ak (Below.refl w.heap.size w)
 unfold kC.f at h; have H := h
 clear h
 replace H := bd H
 obtain ⟨⟨aD5, aD6⟩, A2, H⟩ := H
 (try dsimp only at H)
 replace H := bd H
 obtain ⟨⟨alX, alY, abE, aD7⟩, A3, H⟩ := H
 (try dsimp only at H)
 replace H := bd H
 obtain ⟨⟨aD8, aD9⟩, A4, H⟩ := H
 (try dsimp only at H)
 replace H := sb H
 rcases H with ⟨rfl, H⟩ | ⟨rfl, H⟩
 ·
  replace H := sb H
  rcases H with ⟨rfl, H⟩ | ⟨rfl, H⟩
  ·
   obtain ⟨rfl, rfl⟩ := s2 H
   go_enter Tryz.func108, Tryz.ntmps108
   go_wp2_with (first | (refine gB Tryz.func154 (jU.calls (cu HR0.out) xq.out A2.out) ?_; intro w7 hb; replace HB := bs HB hb; clear hb) | (refine gV Tryz.func155 (bD.calls A3.out) ?_; rintro ap1 w8 ⟨ho0, hb⟩; have uY := ak (Kd.aA ho0 (aj (ul HB.out))); replace HB := bs HB hb; clear hb; (try clear ho0)) | (refine bX HB 6 #[.string (⟨#[]⟩ : ByteArray), .string (⟨#[]⟩ : ByteArray), .slice none 0 0] 61 ?_; intro ai0 w9 EY ai1 hb; replace uY := rb uY hb; replace HB := bs HB hb; clear hb; have z10 := jW EY.out; obtain ⟨CU, Ad, O5⟩ := Kd.aN uY.out; subst O5) | (refine gB Tryz.func156 (nH.calls ?fG ((Kd.au uY.out).2.1) A4.out) ?_; (case fG => refine (Kd.au (e := 69) (base := w.heap.size) (ok := fun k_ => True) (n := abE.length) (c := Ad) ?_).2.2; exact (rh uY)); intro w12 hb; replace uY := rg uY hb; replace EY := kp EY #[.string alX, .string alY, .slice CU abE.length Ad] hb; replace HB := bz HB hb; clear hb))
   go_ret2
   exact ⟨er, bb⟩
  ·
   obtain ⟨rfl, rfl⟩ := s2 H
   go_enter Tryz.func108, Tryz.ntmps108
   go_wp2_with (first | (refine gB Tryz.func154 (jU.calls (cu HR0.out) xq.out A2.out) ?_; intro w13 hb; replace HB := bs HB hb; clear hb) | (refine gV Tryz.func155 (bD.calls A3.out) ?_; rintro ap1 Q8 ⟨ho0, hb⟩; have uY := ak (Kd.aA ho0 (aj (ul HB.out))); replace HB := bs HB hb; clear hb; (try clear ho0)) | (refine bX HB 6 #[.string (⟨#[]⟩ : ByteArray), .string (⟨#[]⟩ : ByteArray), .slice none 0 0] 61 ?_; intro ai0 w15 EY ai1 hb; replace uY := rb uY hb; replace HB := bs HB hb; clear hb; have z16 := jW EY.out; obtain ⟨Gv, EZ, Vz⟩ := Kd.aN uY.out; subst Vz) | (refine gB Tryz.func156 (nH.calls ?fG ((Kd.au uY.out).2.1) A4.out) ?_; (case fG => refine (Kd.au (e := 69) (base := w.heap.size) (ok := fun k_ => True) (n := abE.length) (c := EZ) ?_).2.2; exact (rh uY)); intro w18 hb; replace uY := rg uY hb; replace EY := kp EY #[.string alX, .string alY, .slice Gv abE.length EZ] hb; replace HB := bz HB hb; clear hb))
   go_ret2
   exact ⟨er, bb⟩
 ·
  obtain ⟨rfl, rfl⟩ := s2 H
  go_enter Tryz.func108, Tryz.ntmps108
  go_wp2_with (first | (refine gB Tryz.func154 (jU.calls (cu HR0.out) xq.out A2.out) ?_; intro Xq hb; replace HB := bs HB hb; clear hb) | (refine gV Tryz.func155 (bD.calls A3.out) ?_; rintro ap1 w20 ⟨ho0, hb⟩; have uY := ak (Kd.aA ho0 (aj (ul HB.out))); replace HB := bs HB hb; clear hb; (try clear ho0)) | (refine bX HB 6 #[.string (⟨#[]⟩ : ByteArray), .string (⟨#[]⟩ : ByteArray), .slice none 0 0] 61 ?_; intro ai0 w21 EY ai1 hb; replace uY := rb uY hb; replace HB := bs HB hb; clear hb; have z22 := jW EY.out; obtain ⟨O6, NJ, alZ⟩ := Kd.aN uY.out; subst alZ) | (refine gB Tryz.func156 (nH.calls ?fG ((Kd.au uY.out).2.1) A4.out) ?_; (case fG => refine (Kd.au (e := 69) (base := w.heap.size) (ok := fun k_ => True) (n := abE.length) (c := NJ) ?_).2.2; exact (rh uY)); intro w24 hb; replace uY := rg uY hb; replace EY := kp EY #[.string alX, .string alY, .slice O6 abE.length NJ] hb; replace HB := bz HB hb; clear hb))
  go_ret2
  exact ⟨er, bb⟩
end Go.Proofs.YtncdadcmghglkaaGreatDoor.PFnCountParts
