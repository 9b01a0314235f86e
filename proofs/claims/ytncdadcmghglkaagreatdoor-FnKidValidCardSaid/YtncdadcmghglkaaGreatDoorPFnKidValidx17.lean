/- Printed walks; conditions: those in each statement. -/
import Derived.Test.YtncdadcmghglkaaGreatDoorVFnKidValidQt
import Derived.Test.YtncdadcmghglkaaGreatDoorVFnKidValidYt
import Derived.Test.YtncdadcmghglkaaGreatDoorPFnKidValidx0
import Derived.Test.YtncdadcmghglkaaGreatDoorPFnKidValidx11
import Derived.Test.YtncdadcmghglkaaGreatDoorPFnKidValidx12
import Derived.Test.YtncdadcmghglkaaGreatDoorPFnKidValidx13
import Derived.Test.YtncdadcmghglkaaGreatDoorPFnKidValidx15
-- short
-- dense
-- sq
-- sq2
namespace Go.Proofs.YtncdadcmghglkaaGreatDoor.PFnKidValid
open Go.RowKit Go.Proofs.YtncdadcmghglkaaGreatDoor.X Go.Proofs.YtncdadcmghglkaaGreatDoorW.bI Go.Proofs.YtncdadcmghglkaaGreatDoorW.gq Go.Proofs.YtncdadcmghglkaaGreatDoorW.iJ
attribute [local go_sem] kJ kK mD mF jv jw kL kM   -- for this text's walks alone
set_option linter.unusedVariables false
set_option maxHeartbeats 8000000
set_option maxRecDepth 100000
set_option linter.unusedSimpArgs false
mutual
def bG.l0 : Nat → ByteArray → Bool → Bool → ByteArray → ByteArray → List (gU) → Option (ByteArray × ByteArray × (List (gU)) × Bool)
 | 0, _, _, _, _, _, _ => none
 | k + 1, x5, x6, x9, DW, DX, BZ => if x6 = true then ((ji.f k x5 59).bind fun P5 => ((bP.f k P5.1).bind fun aqR => ((ji.f k aqR 61).bind fun Wp => ((bP.f k Wp.2.1).bind fun aqS => ((fD.f k aqS).bind fun Wq => (if Wp.2.2 = true then (if Wq.2 = true then (bG.j1 k P5.2.1 P5.2.2 x9 Wp.1 Wq.1 ((Wq.1.length : Int) != 1) DW DX BZ) else (bG.j1 k P5.2.1 P5.2.2 x9 Wp.1 Wq.1 true DW DX BZ)) else (bG.j1 k P5.2.1 P5.2.2 x9 Wp.1 Wq.1 true DW DX BZ))))))) else (if x9 = true then ((aY.f k DW DX BZ).bind fun aqT => (if aqT = true then (some (DW, DX, BZ, true)) else (some ((⟨#[]⟩ : ByteArray), (⟨#[]⟩ : ByteArray), ([] : List (gU)), false)))) else (some ((⟨#[]⟩ : ByteArray), (⟨#[]⟩ : ByteArray), ([] : List (gU)), false)))
def bG.j1 : Nat → ByteArray → Bool → Bool → ByteArray → List ByteArray → Bool → ByteArray → ByteArray → List (gU) → Option (ByteArray × ByteArray × (List (gU)) × Bool)
 | 0, _, _, _, _, _, _, _, _, _ => none
 | k + 1, x5, x6, x9, x12, x15, x69, DW, DX, BZ => if x69 = true then (some ((⟨#[]⟩ : ByteArray), (⟨#[]⟩ : ByteArray), ([] : List (gU)), false)) else ((bP.f k x12).bind fun amS => ((iy.f amS).bind fun acr => (if 0 < (x15.length : Int) then (if BZ.length < 4398046511104 then (bG.l0 k x5 x6 x9 DW DX (BZ ++ [(⟨acr, o9 ByteArray.empty x15 0⟩ : gU)])) else (none)) else (none))))
end
def bG.f (k : Nat) (a0 : ByteArray) : Option (ByteArray × ByteArray × (List (gU)) × Bool) := (aQ.f k a0).bind fun aqU => (if aqU = true then ((ji.f k a0 59).bind fun adU => ((bP.f k adU.1).bind fun aqV => ((ji.f k aqV 47).bind fun adV => ((iy.f adV.1).bind fun UA => ((iy.f adV.2.1).bind fun UC => (bG.l0 k adU.2.1 adU.2.2 adV.2.2 UA UC ([] : List (gU)))))))) else (some ((⟨#[]⟩ : ByteArray), (⟨#[]⟩ : ByteArray), ([] : List (gU)), false)))
def bG.T13 : Bool × List (List Nat × List Nat) := (true, [([], []), ([0], [0]), ([], []), ([2], [2]), ([3, 3], [3]), ([], []), ([5], [5]), ([6], [6]), ([4, 7], [4, 7]), ([8], [8]), ([1, 9, 4], [1, 9]), ([0, 1, 2, 3, 4, 5, 6, 7, 8, 9, 10], []), ([11, 10, 10, 0, 1, 2, 3, 4, 5, 6, 7, 8, 9, 10], [10, 11])])
def bG.B13 : List Nat := [0, 1, 0, 4, 12, 0, 32, 96, 252, 508, 1023, 2047, 4095]
theorem bG.ZJ : sQ .any (opsOf Tryz.f155 13) = bG.T13 := by kernel_rfl
theorem bG.UD : nU bG.T13.2 bG.B13 = true := by kernel_rfl
theorem bG.calls {k : Nat} {a0 r1 r2 : ByteArray} {r3 : List (gU)} {r4 : Bool} {w : World} (h : bG.f k a0 = some (r1, r2, r3, r4)) :
  Calls Tryz.prog 155 #[.string a0] w fun e w' => ∃ E8 : Value, e = .returned (.tuple #[.agg #[.string r1, .string r2, E8], .bool r4]) ∧ Kd.R qj 69 w' w.heap.size (fun _ => True) E8 r3 ∧ Below w.heap.size w w' := by
 have Wj := Tryz.underlying61
 have DU := Tryz.underlying69
 have HB := ak (Below.refl w.heap.size w)
 unfold bG.f at h; have H := h
 clear h
 replace H := bd H; obtain ⟨aqU, A2, H⟩ := H; replace H := sb H
 rcases H with ⟨rfl, H⟩ | ⟨rfl, H⟩
 ·
  replace H := bd H
  obtain ⟨⟨aFj, aFk, aFl⟩, A4, H⟩ := H
  (try dsimp only at H)
  replace H := bd H; obtain ⟨aqV, A5, H⟩ := H; replace H := bd H
  obtain ⟨⟨aFm, aFo, aqW⟩, A6, H⟩ := H
  (try dsimp only at H)
  replace H := bd H; obtain ⟨UA, A7, H⟩ := H; replace H := bd H; obtain ⟨UC, A8, H⟩ := H
  have H' := ak H; clear H
  go_enter Tryz.func155, Tryz.ntmps155
  go_wp2_with (first | (refine gG 2 ?_; refine bX HB 2 #[.string (⟨#[]⟩ : ByteArray), .string (⟨#[]⟩ : ByteArray), .slice none 0 0] 61 ?_; intro JR w9 mM aqX hb; replace HB := bs HB hb; clear hb) | (refine gD Tryz.func159 (aQ.calls A2.out) ?_; intro w9 hb; replace mM := kb mM hb; replace HB := bz HB hb; clear hb) | (refine gD Tryz.func178 (ji.calls A4.out) ?_; intro w9 hb; replace mM := kb mM hb; replace HB := bz HB hb; clear hb) | (refine gD Tryz.func179 (bP.calls A5.out) ?_; intro w9 hb; replace mM := kb mM hb; replace HB := bz HB hb; clear hb) | (refine gD Tryz.func178 (ji.calls A6.out) ?_; intro w9 hb; replace mM := kb mM hb; replace HB := bz HB hb; clear hb) | (refine gB Tryz.func180 (iy.calls A7.out) ?_; intro w10 hb; replace mM := kb mM hb; replace HB := bz HB hb; clear hb) | (refine gB Tryz.func180 (iy.calls A8.out) ?_; intro Ub hb; replace mM := kb mM hb; replace HB := bz HB hb; clear hb) | (refine gG 10 ?_; refine bY HB 10 #[.string (⟨#[]⟩ : ByteArray), .string (⟨#[]⟩ : ByteArray), .slice none 0 0] 61 ?_; intro P6 w12 oD aCf hg hb; have Ai := BL mM hg; have Aj := BM mM hg; replace mM := kb mM hb; replace HB := bz HB hb; clear hb hg; have ajM := Aj.out; have ajN := Ai.out; have z14 := jW oD.out))
  go_loopg [5, 6] k (fun kq v5 v6 w' => ∃ (eP : ByteArray) (jD : Bool) (GI : ByteArray) (GK : ByteArray) (wV : List (gU)) (Ad : Value), v5 = .string eP ∧ v6 = .bool jD ∧ ah (bG.l0 kq eP jD aqW UA UC wV = some (r1, r2, r3, r4)) ∧ ah (kq ≤ k) ∧ ah (Kd.R qj 69 w' w.heap.size (fun _ => True) Ad wV) ∧ ah (w'.heap[JR]? = some (.cells #[.string GI, .string GK, (.slice none 0 0)] 61 (0, 0))) ∧ ah (w'.heap[P6]? = some (.cells #[.string UA, .string UC, Ad] 61 (0, 0))) ∧ ah (Below w.heap.size w w'))
  case atStart => exact ⟨_, _, _, _, _, _, rs, rs, H', ⟨Nat.le_refl _⟩, ⟨nx⟩, ⟨bq⟩, ⟨bq⟩, ⟨bb⟩⟩
  case round =>
   clear H'
   obtain ⟨eP, jD, GI, GK, wV, Ad, rfl, rfl, HA, xG, jy, mM, oD, HB⟩ := hrel
   cases gk with
   | zero => exact zz HA.out
   | succ k1 =>
    obtain ⟨H⟩ := HA
    simp only [bG.l0] at H
    replace H := sb H
    rcases H with ⟨rfl, H⟩ | ⟨rfl, H⟩
    ·
     replace H := bd H
     obtain ⟨⟨aFp, ayB, ayC⟩, A16, H⟩ := H
     (try dsimp only at H)
     replace H := bd H; obtain ⟨aqR, A17, H⟩ := H; replace H := bd H
     obtain ⟨⟨aqY, aFq, aFr⟩, A18, H⟩ := H
     (try dsimp only at H)
     replace H := bd H; obtain ⟨aqS, A19, H⟩ := H; replace H := bd H
     obtain ⟨⟨RP, aFs⟩, A20, H⟩ := H
     (try dsimp only at H)
     have amT := ak H
     clear H
     go_upto_region 11 with (first | (refine gA Tryz.func178 (ji.calls A16.out) ?_; intro nd) | (refine gA Tryz.func179 (bP.calls A17.out) ?_; intro nd) | (refine gA Tryz.func178 (ji.calls A18.out) ?_; intro nd) | (refine gA Tryz.func179 (bP.calls A19.out) ?_; intro nd) | (refine gV Tryz.func181 (fD.calls A20.out) ?_; rintro ayD X_ ⟨ho0, hb⟩; have ZK := ak (Kd.aC ho0 (aj bb)); replace jy := rb jy hb; replace mM := kb mM hb; replace oD := kb oD hb; replace HB := bz HB hb; clear hb; (try clear ho0)))
     (try simp only [Act.put, qQ, qR, l_c])
     go_cut [69] (fun v69 wc => ∃ (kq : Nat) (Yc : Bool), v69 = .bool Yc ∧ ah (bG.j1 kq ayB ayC aqW aqY RP Yc UA UC wV = some (r1, r2, r3, r4)) ∧ ah (kq ≤ k1) ∧ ah (Kd.R Kd.string 9 wc w.heap.size (fun _ => True) ayD RP) ∧ ah (Kd.R qj 69 wc w.heap.size (fun _ => True) Ad wV) ∧ ah (wc.heap[JR]? = some (.cells #[.string GI, .string GK, (.slice none 0 0)] 61 (0, 0))) ∧ ah (wc.heap[P6]? = some (.cells #[.string UA, .string UC, Ad] 61 (0, 0))) ∧ ah (Below w.heap.size w wc))
     case first =>
      have H := amT.out
      clear amT
      replace H := sb H
      rcases H with ⟨rfl, H⟩ | ⟨rfl, H⟩
      ·
       replace H := sb H
       rcases H with ⟨rfl, H⟩ | ⟨rfl, H⟩
       ·
        have H' := ak H; clear H
        obtain ⟨ayE, ayF, amU⟩ := Kd.aV ZK.out
        subst amU
        go_wp2
        go_meet
        case rel => exact ⟨_, _, rs, H', ⟨kl⟩, ⟨ur ZK.out⟩, ⟨ur jy.out⟩, ⟨ub mM.out⟩, ⟨ub oD.out⟩, ⟨bb⟩⟩
       ·
        have H' := ak H; clear H
        go_wp2
        go_meet
        case rel => exact ⟨_, _, rs, H', ⟨kl⟩, ⟨ur ZK.out⟩, ⟨ur jy.out⟩, ⟨ub mM.out⟩, ⟨ub oD.out⟩, ⟨bb⟩⟩
      ·
       have H' := ak H; clear H
       go_wp2
       go_meet
       case rel => exact ⟨_, _, rs, H', ⟨kl⟩, ⟨ur ZK.out⟩, ⟨ur jy.out⟩, ⟨ub mM.out⟩, ⟨ub oD.out⟩, ⟨bb⟩⟩
     case rest =>
      clear amT
      obtain ⟨kq, Yc, rfl, HA, aqZ, H_, jy, mM, oD, HB⟩ := hcut
      cases kq with
      | zero => exact zz HA.out
      | succ ayG =>
       obtain ⟨H⟩ := HA
       simp only [bG.j1] at H
       replace H := sb H
       rcases H with ⟨rfl, H⟩ | ⟨rfl, H⟩
       ·
        obtain ⟨rfl, rfl, rfl, rfl⟩ := s4 H
        have ajO := Ai.out
        have ajP := Aj.out
        have aKa := jW mM.out
        go_wp2
        refine bodyPost_ret (lG rfl _ _ JR 61 #[.string (⟨#[]⟩ : ByteArray), .string (⟨#[]⟩ : ByteArray), .slice none 0 0] (0, 0) _ rfl bq Tryz.underlying61 rfl (by kernel_rfl)) rfl ?_
        exact ⟨_, er, nx, bb⟩
       ·
        replace H := bd H; obtain ⟨amS, A29, H⟩ := H; replace H := bd H; obtain ⟨acr, A30, H⟩ := H; replace H := nn H; obtain ⟨c31, H⟩ := H
        have adW := decide_eq_true c31
        have adX : decide (0 < RP.length) = true := decide_eq_true (by omega)
        clear c31
        replace H := nl H; obtain ⟨aq0, H⟩ := H
        obtain ⟨aFt, ajQ⟩ := nm (wV ++ [(⟨acr, o9 ByteArray.empty RP 0⟩ : gU)])
        rw [← ajQ.out] at H
        have H' := ak H; clear H
        try go_wp2
        replace H_ := ak (Kd.l9 H_.out)
        replace jy := ak (Kd.l9 jy.out)
        replace mM := ak (bC mM.out)
        replace oD := ak (bC oD.out)
        replace HB := ak (iF HB.out)
        obtain ⟨aq1, aq2, adY⟩ := Kd.aV H_.out
        (first | subst adY | (injection adY with qV xB qW; have xC := qV.symm; have xE := qW.symm; clear qV xB qW; subst xC; subst xE))
        have amV : 0 ≤ (0 : Int) := (by omega)
        have amW : 0 < (RP.length : Int) := of_decide_eq_true (by assumption)
        obtain ⟨aq3, ayH, O4⟩ := Kd.jZ (Kd.aH H_.out).2.2 0 amV amW
        cases ayH
        have aCg : (0 < RP.length) = True := eq_true (by omega)
        (try rw [show ((0 : Int)).toNat = 0 from rfl] at O4)
        (try rw [Addr.add_zero'] at O4)
        replace amV := eq_true amV
        replace amW := eq_true amW
        refine Df (n := 13) (S := fun w' => w'.cell? ⟨P6, 0, none⟩ = some (.string UA) ∧ w'.cell? ⟨P6, 1, none⟩ = some (.string UC) ∧ w'.cell? ⟨P6, 2, none⟩ = some (Ad) ∧ w'.cell? aq3 = some (.string (o9 ByteArray.empty RP 0))) (ds := [10, 12]) #[false, false, false, false, false, false, false, false, false, false, false, false, false] (by kernel_rfl) rfl rfl ⟨(aA oD.out 0).trans rfl, (aA oD.out 1).trans rfl, (aA oD.out 2).trans rfl, O4⟩ (fun hHeld => ?_); refine uo bG.ZJ bG.UD (fun ug Yd => ?_)
        generalize wc.drew = w33 at H_ jy mM oD HB O4 hHeld ⊢
        refine pl 0 ?_
        refine pl 2 ?_
        refine pl 5 ?_
        refine pl 6 ?_
        refine tk 1 ?_
        refine tk 7 ?_
        refine o1 3 (fun K hK => ?_)
        refine y8 Tryz.func179 (by kernel_rfl) rfl #[.string aqY] (by rfl) rfl rfl ma ?_
        with_reducible refine (bP.calls A29.out).mono ?_
        rintro e w' ⟨rfl, ⟨nd, rfl⟩⟩
        refine ⟨_, rfl, ?_⟩
        refine hK.out _ _ ⟨(aA oD.out 0).trans rfl, (aA oD.out 1).trans rfl, (aA oD.out 2).trans rfl, hHeld.2.2.2⟩ (fun hHeld => ?_)
        clear hK K
        refine nrm ?_
        refine o1 4 (fun K hK => ?_)
        refine y8 Tryz.func180 (by kernel_rfl) rfl #[.string amS] (by rfl) rfl rfl ma ?_
        with_reducible refine (iy.calls A30.out).mono ?_
        rintro e w35 ⟨rfl, hb⟩
        have amX := (hb.cell (World.block_lt_of_cell? _ _ (hHeld.2.2.2))).trans (hHeld.2.2.2)
        refine ⟨_, rfl, ?_⟩
        replace H_ := rb H_ hb
        replace jy := rb jy hb
        replace mM := kb mM hb
        replace oD := kb oD hb
        replace HB := bz HB hb
        try clear hb
        refine hK.out _ _ ⟨(aA oD.out 0).trans rfl, (aA oD.out 1).trans rfl, (aA oD.out 2).trans rfl, amX⟩ (fun hHeld => ?_)
        clear hK K
        refine nrm ?_
        refine pl 8 ?_
        refine o1 9 (fun K hK => ?_)
        refine Dh (w1 := ?_) (v := ?_) (by rfl) rfl ?_ ?_
        rotate_left 2
        ·
         go_simp
         constructor
         ·
          rfl
         ·
          rfl
        refine hK.out _ _ ⟨(aA (aX oD.out _) 0).trans rfl, (aA (aX oD.out _) 1).trans rfl, (aA (aX oD.out _) 2).trans rfl, (World.cell?_alloc_lt _ _ _ (World.block_lt_of_cell? _ _ (hHeld.2.2.2))).trans (hHeld.2.2.2)⟩ (fun hHeld => ?_)
        clear hK K
        refine nrm ?_
        refine Ia (i := 10) (N := some 81) #[true, true, true, true, true, true, true, true, true, true, true, false, false] rfl rfl (oK ug.out (by kernel_rfl)) (by decide) (fun K hK => ?_)
        refine Kd.nS qj (w0 := w) w.heap.size (by rfl) (.tmp 72) (.tmp 80) 25 69 (.agg #[(.string ⟨#[]⟩), (.string ⟨#[]⟩)]) 32 rfl Tryz.underlying25 Dc rfl (by decide) (by omega) Ad wV (⟨acr, o9 ByteArray.empty RP 0⟩ : gU) [.string acr, .string (o9 ByteArray.empty RP 0)] (fun _ => True) (fun _ => False) rfl rfl ?aP (fun _ hk => hk.elim) ?aF ?aO ?aB ?aS ?aL ?_
        (case aP => exact wM _ _ _ (⟨acr, o9 ByteArray.empty RP 0⟩ : gU))
        (case aB => exact bb)
        (case aF => exact (fun _ _ => trivial))
        (case aO => exact (ur jy.out))
        (case aS => exact (aj bb))
        (case aL => have := aq0.out; omega)
        intro aFu w36 ho hb hg hat
        rw [← ajQ.out] at ho
        have y5 := ak (Kd.qm (ur H_.out) (Kd.kQ (ur jy.out)) (by decide) hg)
        have y7 := ak (dw (g := JR) (o := .cells #[.string GI, .string GK, .slice none 0 0] 61 (0, 0)) (ub mM.out) hg (Kd.oU jy.out mM.out (by decide)))
        have zT := ak (dw (g := P6) (o := .cells #[.string UA, .string UC, Ad] 61 (0, 0)) (ub oD.out) hg (Kd.oU jy.out oD.out (by decide)))
        have Dq := ak (hb)
        have Ib := ak (ho)
        clear H_ mM oD HB jy
        have H_ := y5
        have mM := y7
        have oD := zT
        have HB := Dq
        have aq4 := Ib
        clear y5 y7 zT Dq Ib ho hb hg hat
        obtain ⟨ag9, ag_, ach⟩ := Kd.aV aq4.out
        (first | subst ach | (injection ach with qV xB qW; have xC := qV.symm; have xE := qW.symm; clear qV xB qW; subst xC; subst xE))
        refine hK.out _ _ ?_
        clear hK K
        refine qF (a' := ?_) ?_ ?_
        rotate_left
        ·
         show Act.put _ (some 81) _ = _
         simp only [Act.put, qQ, qR, l_c, dP, fG]
         rfl
        refine pl 11 ?_
        refine Ia (i := 12) (N := none) #[true, true, true, true, true, true, true, true, true, true, true, true, true] rfl rfl (oK ug.out (by kernel_rfl)) (by decide) (fun K hK => ?_)
        have aFv : w36.cell? ⟨P6, 2, none⟩ = some (Ad) := (aA oD.out 2).trans rfl
        have aCh := gX oD.out 2
        have aw_ := Ai.out
        have axa := Aj.out
        refine Ic (w1 := ?_) (by rfl) rfl ?_ ?_
        rotate_left
        ·
         go_simp
         rfl
        refine hK.out _ _ ?_
        clear hK K
        refine Ie (yQ ug.out (by kernel_rfl)) ?_
        try go_wp2
        go_roundg ayG
        case measure => have := xG.out; have := aqZ.out; omega
        case rel => exact ⟨_, _, _, _, _, _, rs, rs, H', ⟨by have := xG.out; have := aqZ.out; omega⟩, ⟨rr⟩, ⟨bq⟩, ⟨bq⟩, ⟨bb⟩⟩
    ·
     replace H := sb H
     rcases H with ⟨rfl, H⟩ | ⟨rfl, H⟩
     ·
      replace H := bd H; obtain ⟨aqT, A40, H⟩ := H; replace H := sb H
      rcases H with ⟨rfl, H⟩ | ⟨rfl, H⟩
      ·
       obtain ⟨rfl, rfl, rfl, rfl⟩ := s4 H
       have aCi := Aj.out
       have aCj := Ai.out
       have z43 := jW oD.out
       obtain ⟨adF, adG, aci⟩ := Kd.aV jy.out
       subst aci
       go_wp2_with (go_at_call 182; refine mB (aY.calls (cu ((Kd.aH jy.out).2.2)) ((Kd.aH jy.out).2.1) A40.out) ?_; intro w45 hb; replace jy := rb jy hb; replace mM := kb mM hb; replace oD := kb oD hb; replace HB := bz HB hb; clear hb; have z46 := jW oD.out; have z47 := jW mM.out)
       refine bodyPost_ret (lG rfl _ _ JR 61 #[.string UA, .string UC, .slice adF wV.length adG] (0, 0) _ rfl bq Tryz.underlying61 rfl (by kernel_rfl)) rfl ?_
       exact ⟨_, er, rr, bb⟩
      ·
       obtain ⟨rfl, rfl, rfl, rfl⟩ := s4 H
       have ajR := Aj.out
       have ajS := Ai.out
       have z49 := jW oD.out
       obtain ⟨DY, DZ, amY⟩ := Kd.aV jy.out
       subst amY
       go_wp2_with (go_at_call 182; refine mB (aY.calls (cu ((Kd.aH jy.out).2.2)) ((Kd.aH jy.out).2.1) A40.out) ?_; intro w51 hb; replace jy := rb jy hb; replace mM := kb mM hb; replace oD := kb oD hb; replace HB := bz HB hb; clear hb; have z52 := jW mM.out)
       refine bodyPost_ret (lG rfl _ _ JR 61 #[.string (⟨#[]⟩ : ByteArray), .string (⟨#[]⟩ : ByteArray), .slice none 0 0] (0, 0) _ rfl bq Tryz.underlying61 rfl (by kernel_rfl)) rfl ?_
       exact ⟨_, er, nx, bb⟩
     ·
      obtain ⟨rfl, rfl, rfl, rfl⟩ := s4 H
      have aq5 := Ai.out
      have aq6 := Aj.out
      have z54 := jW mM.out
      go_wp2
      refine bodyPost_ret (lG rfl _ _ JR 61 #[.string (⟨#[]⟩ : ByteArray), .string (⟨#[]⟩ : ByteArray), .slice none 0 0] (0, 0) _ rfl bq Tryz.underlying61 rfl (by kernel_rfl)) rfl ?_
      exact ⟨_, er, nx, bb⟩
 ·
  obtain ⟨rfl, rfl, rfl, rfl⟩ := s4 H
  go_enter Tryz.func155, Tryz.ntmps155
  go_wp2_with (first | (refine gG 2 ?_; refine bX HB 2 #[.string (⟨#[]⟩ : ByteArray), .string (⟨#[]⟩ : ByteArray), .slice none 0 0] 61 ?_; intro JR w55 mM aqX hb; replace HB := bs HB hb; clear hb) | (refine gD Tryz.func159 (aQ.calls A2.out) ?_; intro w55 hb; replace mM := kb mM hb; replace HB := bz HB hb; clear hb; have z56 := jW mM.out))
  refine bodyPost_ret (lG rfl _ _ JR 61 #[.string (⟨#[]⟩ : ByteArray), .string (⟨#[]⟩ : ByteArray), .slice none 0 0] (0, 0) _ rfl bq Tryz.underlying61 rfl (by kernel_rfl)) rfl ?_
  exact ⟨_, er, nx, bb⟩
mutual
def bZ.l0 : Nat → ByteArray → Int → Option (Bool)
 | 0, _, _ => none
 | k + 1, x0, x3 => if x3 < (x0.size : Int) then (bZ.j1 k x0 x3 (decide (x3 ≤ 20))) else (bZ.j1 k x0 x3 false)
def bZ.j1 : Nat → ByteArray → Int → Bool → Option (Bool)
 | 0, _, _, _ => none
 | k + 1, x0, x3, x11 => if x11 = true then (if 0 ≤ x3 then (if x3 < (x0.size : Int) then ((gI.f (bt x0 x3)).bind fun aq7 => (if aq7 = true then (bZ.l0 k x0 (wrap64 (x3 + 1))) else (some false))) else (none)) else (none)) else (if (x0.size : Int) ≥ 1 then (some (decide ((x0.size : Int) ≤ 20))) else (some false))
end
def bZ.f (k : Nat) (a0 : ByteArray) : Option (Bool) := bZ.l0 k a0 0
theorem bZ.calls {k : Nat} {a0 : ByteArray} {r : Bool} {w : World} (h : bZ.f k a0 = some r) :
  Calls Tryz.prog 157 #[.string a0] w fun e w' => e = .returned (.bool r) ∧ dS w w' := by
 unfold bZ.f at h; have H := h
 clear h
 have H' := ak H; clear H
 go_enter Tryz.func157, Tryz.ntmps157
 go_wp2
 go_loopg [3] k (fun kq v3 w' => ∃ (dM : Int), v3 = .int .i64 dM ∧ ah (bZ.l0 kq a0 dM = some r) ∧ ah (kq ≤ k) ∧ dS w w')
 case atStart => exact ⟨_, rs, H', ⟨Nat.le_refl _⟩, dn⟩
 case round =>
  clear H'
  obtain ⟨dM, rfl, HA, xG, ⟨m1, rfl⟩⟩ := hrel
  cases gk with
  | zero => exact zz HA.out
  | succ k1 =>
   obtain ⟨H⟩ := HA
   simp only [bZ.l0] at H
   have HC2 := ak H
   clear H
   go_upto_region 2 with (fail)
   go_cut [11] (fun v11 wc => ∃ (kq : Nat) (uU : Bool), v11 = .bool uU ∧ ah (bZ.j1 kq a0 dM uU = some r) ∧ ah (kq ≤ k1) ∧ dS w wc)
   case first =>
    have H := HC2.out
    clear HC2
    replace H := sd H
    rcases H with ⟨iO, H⟩ | ⟨iO, H⟩
    ·
     (first | rw [iO] | (simp only [dP, fG]; rw [iO]) | skip)
     have H' := ak H; clear H
     go_wp2
     go_meet
     case rel => exact ⟨_, _, rs, H', ⟨kl⟩, dn⟩
    ·
     (first | rw [iO] | (simp only [dP, fG]; rw [iO]) | skip)
     have H' := ak H; clear H
     go_wp2
     go_meet
     case rel => exact ⟨_, _, rs, H', ⟨kl⟩, dn⟩
   case rest =>
    clear HC2
    obtain ⟨kq, uU, rfl, HA, HJ1, ⟨mc1, rfl⟩⟩ := hcut
    cases kq with
    | zero => exact zz HA.out
    | succ Ox =>
     obtain ⟨H⟩ := HA
     simp only [bZ.j1] at H
     replace H := sb H
     rcases H with ⟨rfl, H⟩ | ⟨rfl, H⟩
     ·
      replace H := oL H; obtain ⟨nO, H⟩ := H; replace H := oL H; obtain ⟨oz, H⟩ := H; replace H := bd H; obtain ⟨aq7, A8, H⟩ := H; replace H := sb H
      rcases H with ⟨rfl, H⟩ | ⟨rfl, H⟩
      ·
       have H' := ak H; clear H
       obtain ⟨p7, q7, hx7⟩ := bx a0 dM
       go_wp2_with (refine gA Tryz.func183 (gI.calls A8.out) ?_; intro nd)
       go_roundg Ox
       case measure => exact kl
       case rel => exact ⟨_, rs, H', ⟨kl⟩, dn⟩
      ·
       obtain rfl := s1 H
       obtain ⟨p7, q7, hx7⟩ := bx a0 dM
       go_wp2_with (refine gA Tryz.func183 (gI.calls A8.out) ?_; intro nd)
       go_ret
       exact ⟨rs, dn⟩
     ·
      replace H := sp H
      rcases H with ⟨c10, H⟩ | ⟨c10, H⟩
      ·
       have oC : decide (1 ≤ (a0.size : Int)) = true := decide_eq_true c10
       have sS : decide (1 ≤ a0.size) = true := decide_eq_true (by omega)
       clear c10
       obtain rfl := s1 H
       go_wp2
       go_ret
       exact ⟨rs, dn⟩
      ·
       have oC : decide (1 ≤ (a0.size : Int)) = false := decide_eq_false c10
       have sS : decide (1 ≤ a0.size) = false := decide_eq_false (by omega)
       clear c10
       obtain rfl := s1 H
       go_wp2
       go_ret
       exact ⟨rs, dn⟩
def nD.f (k : Nat) (eG : ByteArray) (eU : ByteArray) (ay : List (gU)) : Option (ByteArray × Bool) := (jP.f k ay (⟨#[98, 111, 117, 110, 100, 97, 114, 121]⟩ : ByteArray)).bind fun adZ => ((aY.f k eG eU ay).bind fun aq8 => (if aq8 = true then (if eG.toList = ([109, 117, 108, 116, 105, 112, 97, 114, 116] : List UInt8) then (if adZ.2 = true then ((bZ.f k adZ.1).bind fun aq9 => (if aq9 = true then (some (adZ.1, true)) else (some ((⟨#[]⟩ : ByteArray), false)))) else (some ((⟨#[]⟩ : ByteArray), false))) else (some ((⟨#[]⟩ : ByteArray), false))) else (some ((⟨#[]⟩ : ByteArray), false))))
theorem nD.calls {k fA : Nat} {eG eU r1 : ByteArray} {gW : Option Addr} {ay : List (gU)} {r2 : Bool} {w : World} (jG : Kd.C qj w gW ay.length ay) (jH : ay.length ≤ fA) (h : nD.f k eG eU ay = some (r1, r2)) :
  Calls Tryz.prog 156 #[.agg #[.string eG, .string eU, .slice gW ay.length fA]] w fun e w' => e = .returned (.tuple #[.string r1, .bool r2]) ∧ Below w.heap.size w w' := by
 have Wj := Tryz.underlying61
 have jh := ak jG
 have lC := ak jH
 clear jG jH
 have HB := ak (Below.refl w.heap.size w)
 unfold nD.f at h; have H := h
 clear h
 replace H := bd H
 obtain ⟨⟨aFw, aFx⟩, A2, H⟩ := H
 (try dsimp only at H)
 replace H := bd H; obtain ⟨aq8, A3, H⟩ := H; replace H := sb H
 rcases H with ⟨rfl, H⟩ | ⟨rfl, H⟩
 ·
  replace H := sq H
  rcases H with ⟨nO, JM, H⟩ | ⟨c5, nO, JM, H⟩
  ·
   replace H := sb H
   rcases H with ⟨rfl, H⟩ | ⟨rfl, H⟩
   ·
    replace H := bd H; obtain ⟨aq9, A7, H⟩ := H; replace H := sb H
    rcases H with ⟨rfl, H⟩ | ⟨rfl, H⟩
    ·
     obtain ⟨rfl, rfl⟩ := s2 H
     go_enter Tryz.func156, Tryz.ntmps156
     go_wp2_with (first | (refine bX HB 1 #[.string eG, .string eU, .slice gW ay.length fA] 61 ?_; intro ZL w9 oG ZM hb; replace HB := bs HB hb; clear hb; have z10 := jW oG.out) | (refine gB Tryz.func154 (jP.calls (cu (Kd.aN jh.out HB.out)) lC.out A2.out) ?_; intro Ub hb; replace oG := kb oG hb; replace HB := bz HB hb; clear hb; have z12 := jW oG.out) | (refine gB Tryz.func182 (aY.calls (cu (Kd.aN jh.out HB.out)) lC.out A3.out) ?_; intro w13 hb; replace oG := kb oG hb; replace HB := bz HB hb; clear hb; have z14 := jW oG.out) | (go_at_call 157; refine mA (bZ.calls A7.out) ?_; intro nd))
     go_ret2
     exact ⟨er, bb⟩
    ·
     obtain ⟨rfl, rfl⟩ := s2 H
     go_enter Tryz.func156, Tryz.ntmps156
     go_wp2_with (first | (refine bX HB 1 #[.string eG, .string eU, .slice gW ay.length fA] 61 ?_; intro ZL w15 oG ZM hb; replace HB := bs HB hb; clear hb; have z16 := jW oG.out) | (refine gB Tryz.func154 (jP.calls (cu (Kd.aN jh.out HB.out)) lC.out A2.out) ?_; intro w17 hb; replace oG := kb oG hb; replace HB := bz HB hb; clear hb; have z18 := jW oG.out) | (refine gB Tryz.func182 (aY.calls (cu (Kd.aN jh.out HB.out)) lC.out A3.out) ?_; intro ZN hb; replace oG := kb oG hb; replace HB := bz HB hb; clear hb; have z20 := jW oG.out) | (go_at_call 157; refine mA (bZ.calls A7.out) ?_; intro nd))
     go_ret2
     exact ⟨er, bb⟩
   ·
    obtain ⟨rfl, rfl⟩ := s2 H
    go_enter Tryz.func156, Tryz.ntmps156
    go_wp2_with (first | (refine bX HB 1 #[.string eG, .string eU, .slice gW ay.length fA] 61 ?_; intro ZL w21 oG ZM hb; replace HB := bs HB hb; clear hb; have z22 := jW oG.out) | (refine gB Tryz.func154 (jP.calls (cu (Kd.aN jh.out HB.out)) lC.out A2.out) ?_; intro w23 hb; replace oG := kb oG hb; replace HB := bz HB hb; clear hb; have z24 := jW oG.out) | (refine gB Tryz.func182 (aY.calls (cu (Kd.aN jh.out HB.out)) lC.out A3.out) ?_; intro w25 hb; replace oG := kb oG hb; replace HB := bz HB hb; clear hb; have z26 := jW oG.out))
    go_ret2
    exact ⟨er, bb⟩
  ·
   obtain ⟨rfl, rfl⟩ := s2 H
   go_enter Tryz.func156, Tryz.ntmps156
   go_wp2_with (first | (refine bX HB 1 #[.string eG, .string eU, .slice gW ay.length fA] 61 ?_; intro ZL w27 oG ZM hb; replace HB := bs HB hb; clear hb; have aKa := jW oG.out) | (refine gB Tryz.func154 (jP.calls (cu (Kd.aN jh.out HB.out)) lC.out A2.out) ?_; intro w29 hb; replace oG := kb oG hb; replace HB := bz HB hb; clear hb; have z30 := jW oG.out) | (refine gB Tryz.func182 (aY.calls (cu (Kd.aN jh.out HB.out)) lC.out A3.out) ?_; intro w31 hb; replace oG := kb oG hb; replace HB := bz HB hb; clear hb; have z32 := jW oG.out))
   go_ret2
   exact ⟨er, bb⟩
 ·
  obtain ⟨rfl, rfl⟩ := s2 H
  go_enter Tryz.func156, Tryz.ntmps156
  go_wp2_with (first | (refine bX HB 1 #[.string eG, .string eU, .slice gW ay.length fA] 61 ?_; intro ZL w33 oG ZM hb; replace HB := bs HB hb; clear hb; have z34 := jW oG.out) | (refine gB Tryz.func154 (jP.calls (cu (Kd.aN jh.out HB.out)) lC.out A2.out) ?_; intro w35 hb; replace oG := kb oG hb; replace HB := bz HB hb; clear hb; have z36 := jW oG.out) | (refine gB Tryz.func182 (aY.calls (cu (Kd.aN jh.out HB.out)) lC.out A3.out) ?_; intro w37 hb; replace oG := kb oG hb; replace HB := bz HB hb; clear hb))
  go_ret2
  exact ⟨er, bb⟩
def jX.f (k : Nat) (l0 : List (gU)) : Option (ByteArray × Bool) := (jP.f k l0 (⟨#[67, 111, 110, 116, 101, 110, 116, 45, 84, 121, 112, 101]⟩ : ByteArray)).bind fun ajT => ((bG.f k ajT.1).bind fun ZO => ((nD.f k ZO.1 ZO.2.1 ZO.2.2.1).bind fun ZP => (if ajT.2 = true then (if ZO.2.2.2 = true then (some (ZP.1, ZP.2)) else (some (ZP.1, false))) else (some (ZP.1, false)))))
theorem jX.calls {k c0 : Nat} {A0 : Option Addr} {l0 : List (gU)} {r1 : ByteArray} {r2 : Bool} {w : World} (hr0 : Kd.C qj w A0 l0.length l0) (hc0 : l0.length ≤ c0) (h : jX.f k l0 = some (r1, r2)) :
  Calls Tryz.prog 108 #[.slice A0 l0.length c0] w fun e w' => e = .returned (.tuple #[.string r1, .bool r2]) ∧ Below w.heap.size w w' := by
 have Wj := Tryz.underlying61
 have HR0 := ak hr0
 have yu := ak hc0
 clear hr0 hc0
 have HB := ak (Below.refl w.heap.size w)
 unfold jX.f at h; have H := h
 clear h
 replace H := bd H
 obtain ⟨⟨aFy, aFz⟩, A2, H⟩ := H
 (try dsimp only at H)
 replace H := bd H
 obtain ⟨⟨amZ, am0, acs, aFA⟩, A3, H⟩ := H
 (try dsimp only at H)
 replace H := bd H
 obtain ⟨⟨aFB, aFC⟩, A4, H⟩ := H
 (try dsimp only at H)
 replace H := sb H
 rcases H with ⟨rfl, H⟩ | ⟨rfl, H⟩
 ·
  replace H := sb H
  rcases H with ⟨rfl, H⟩ | ⟨rfl, H⟩
  ·
   obtain ⟨rfl, rfl⟩ := s2 H
   go_enter Tryz.func108, Tryz.ntmps108
   go_wp2_with (first | (refine gB Tryz.func154 (jP.calls (cu HR0.out) yu.out A2.out) ?_; intro w7 hb; replace HB := bs HB hb; clear hb) | (refine gV Tryz.func155 (bG.calls A3.out) ?_; rintro aq_ w8 ⟨ho0, hb⟩; have uY := ak (Kd.aC ho0 (aj (ul HB.out))); replace HB := bs HB hb; clear hb; (try clear ho0)) | (refine bX HB 6 #[.string (⟨#[]⟩ : ByteArray), .string (⟨#[]⟩ : ByteArray), .slice none 0 0] 61 ?_; intro ajU w9 FB ajV hb; replace uY := rb uY hb; replace HB := bs HB hb; clear hb; have z10 := jW FB.out; obtain ⟨AA, y9, P7⟩ := Kd.aV uY.out; subst P7) | (refine gB Tryz.func156 (nD.calls ?fU ((Kd.aH uY.out).2.1) A4.out) ?_; (case fU => refine (Kd.aH (e := 69) (base := w.heap.size) (ok := fun k_ => True) (n := acs.length) (c := y9) ?_).2.2; exact (rh uY)); intro w12 hb; replace uY := rg uY hb; replace FB := kp FB #[.string amZ, .string am0, .slice AA acs.length y9] hb; replace HB := bz HB hb; clear hb))
   go_ret2
   exact ⟨er, bb⟩
  ·
   obtain ⟨rfl, rfl⟩ := s2 H
   go_enter Tryz.func108, Tryz.ntmps108
   go_wp2_with (first | (refine gB Tryz.func154 (jP.calls (cu HR0.out) yu.out A2.out) ?_; intro w13 hb; replace HB := bs HB hb; clear hb) | (refine gV Tryz.func155 (bG.calls A3.out) ?_; rintro aq_ SA ⟨ho0, hb⟩; have uY := ak (Kd.aC ho0 (aj (ul HB.out))); replace HB := bs HB hb; clear hb; (try clear ho0)) | (refine bX HB 6 #[.string (⟨#[]⟩ : ByteArray), .string (⟨#[]⟩ : ByteArray), .slice none 0 0] 61 ?_; intro ajU w15 FB ajV hb; replace uY := rb uY hb; replace HB := bs HB hb; clear hb; have z16 := jW FB.out; obtain ⟨Hq, FC, Ws⟩ := Kd.aV uY.out; subst Ws) | (refine gB Tryz.func156 (nD.calls ?fU ((Kd.aH uY.out).2.1) A4.out) ?_; (case fU => refine (Kd.aH (e := 69) (base := w.heap.size) (ok := fun k_ => True) (n := acs.length) (c := FC) ?_).2.2; exact (rh uY)); intro w18 hb; replace uY := rg uY hb; replace FB := kp FB #[.string amZ, .string am0, .slice Hq acs.length FC] hb; replace HB := bz HB hb; clear hb))
   go_ret2
   exact ⟨er, bb⟩
 ·
  obtain ⟨rfl, rfl⟩ := s2 H
  go_enter Tryz.func108, Tryz.ntmps108
  go_wp2_with (first | (refine gB Tryz.func154 (jP.calls (cu HR0.out) yu.out A2.out) ?_; intro ZN hb; replace HB := bs HB hb; clear hb) | (refine gV Tryz.func155 (bG.calls A3.out) ?_; rintro aq_ w20 ⟨ho0, hb⟩; have uY := ak (Kd.aC ho0 (aj (ul HB.out))); replace HB := bs HB hb; clear hb; (try clear ho0)) | (refine bX HB 6 #[.string (⟨#[]⟩ : ByteArray), .string (⟨#[]⟩ : ByteArray), .slice none 0 0] 61 ?_; intro ajU w21 FB ajV hb; replace uY := rb uY hb; replace HB := bs HB hb; clear hb; have z22 := jW FB.out; obtain ⟨P8, Oy, am1⟩ := Kd.aV uY.out; subst am1) | (refine gB Tryz.func156 (nD.calls ?fU ((Kd.aH uY.out).2.1) A4.out) ?_; (case fU => refine (Kd.aH (e := 69) (base := w.heap.size) (ok := fun k_ => True) (n := acs.length) (c := Oy) ?_).2.2; exact (rh uY)); intro w24 hb; replace uY := rg uY hb; replace FB := kp FB #[.string amZ, .string am0, .slice P8 acs.length Oy] hb; replace HB := bz HB hb; clear hb))
  go_ret2
  exact ⟨er, bb⟩
end Go.Proofs.YtncdadcmghglkaaGreatDoor.PFnKidValid
