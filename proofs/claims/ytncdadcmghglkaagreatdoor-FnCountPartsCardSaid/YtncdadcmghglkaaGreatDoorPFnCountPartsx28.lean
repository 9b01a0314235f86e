/- Printed walks; conditions: those in each statement. -/
import Derived.Test.YtncdadcmghglkaaGreatDoorVFnCountPartsQt
import Derived.Test.YtncdadcmghglkaaGreatDoorVFnCountPartsYt
import Derived.Test.YtncdadcmghglkaaGreatDoorPFnCountPartsx0
import Derived.Test.YtncdadcmghglkaaGreatDoorPFnCountPartsx20
import Derived.Test.YtncdadcmghglkaaGreatDoorPFnCountPartsx26
import Derived.Test.YtncdadcmghglkaaGreatDoorPFnCountPartsx27
-- short
-- dense
-- sq
-- sq2
namespace Go.Proofs.YtncdadcmghglkaaGreatDoor.PFnCountParts
open Go.RowKit Go.Proofs.YtncdadcmghglkaaGreatDoor.X Go.Proofs.YtncdadcmghglkaaGreatDoorW.bI Go.Proofs.YtncdadcmghglkaaGreatDoorW.gI Go.Proofs.YtncdadcmghglkaaGreatDoorW.iL
attribute [local go_sem] kN kP mF mG jB jC kQ kR   -- for this text's walks alone
set_option linter.unusedVariables false
set_option maxHeartbeats 8000000
set_option maxRecDepth 100000
set_option linter.unusedSimpArgs false
def dO.f (k : Nat) (eX : List Int) (kK : Int) (vK : List (gY)) (u_ : List ByteArray) (vM : List (nG)) : Option ((List (gY)) × List ByteArray × (List (nG)) × Int) := (dI.f k vK u_ vM).bind fun Aj => ((cZ.f k eX kK 20).bind fun PL => (if PL.1 = 0 then ((fH.f k eX PL.2 (([(⟨#[10]⟩ : ByteArray), (⟨#[120]⟩ : ByteArray)] : List ByteArray))).bind fun akr => (if Aj.2.1.length < 8796093022208 then (some (Aj.1, (Aj.2.1 ++ [akr.1]), Aj.2.2, akr.2)) else (none))) else (if PL.1 = 1 then ((fH.f k eX PL.2 (([(⟨#[97, 32, 98]⟩ : ByteArray), (⟨#[79, 107]⟩ : ByteArray)] : List ByteArray))).bind fun aks => ((fH.f k eX aks.2 (([(⟨#[32, 120]⟩ : ByteArray), (⟨#[120]⟩ : ByteArray)] : List ByteArray))).bind fun akt => (if Aj.1.length < 4398046511104 then (some ((Aj.1 ++ [(⟨aks.1, akt.1⟩ : gY)]), Aj.2.1, Aj.2.2, akt.2)) else (none)))) else (if PL.1 = 2 then ((iC.f k eX PL.2).bind fun aaD => (if Aj.2.2.length < 1954687338268 then (some (Aj.1, Aj.2.1, (Aj.2.2 ++ [(⟨aaD.1, aaD.2.1, aaD.2.2.1⟩ : nG)]), aaD.2.2.2)) else (none))) else (some (Aj.1, Aj.2.1, Aj.2.2, PL.2))))))
def dO.T4 : Bool × List (List Nat × List Nat) := (true, [([], []), ([0], [0]), ([], []), ([], []), ([2, 3], [2, 3]), ([4], [4]), ([1, 5, 4], [1, 5]), ([0, 1, 2, 3, 4, 5, 6], []), ([7, 6, 6, 0, 1, 2, 3, 4, 5, 6], [6, 7])])
def dO.B4 : List Nat := [0, 1, 0, 0, 12, 28, 63, 127, 255]
theorem dO.ay0 : sJ .any (opsOf Tryz.f68 4) = dO.T4 := by kernel_rfl
theorem dO.atd : nV dO.T4.2 dO.B4 = true := by kernel_rfl
def dO.T6 : Bool × List (List Nat × List Nat) := (true, [([], []), ([0], [0]), ([], []), ([], []), ([2, 3], [2, 3]), ([], []), ([], []), ([5, 6, 4], [5, 6]), ([4, 7], [4, 7]), ([8], [8]), ([1, 9, 7], [1, 9]), ([0, 1, 2, 3, 4, 5, 6, 7, 8, 9, 10], []), ([11, 10, 10, 0, 1, 2, 3, 4, 5, 6, 7, 8, 9, 10], [10, 11])])
def dO.B6 : List Nat := [0, 1, 0, 0, 12, 0, 0, 124, 252, 508, 1023, 2047, 4095]
theorem dO.tab6 : sJ .any (opsOf Tryz.f68 6) = dO.T6 := by kernel_rfl
theorem dO.aku : nV dO.T6.2 dO.B6 = true := by kernel_rfl
def dO.T8 : Bool × List (List Nat × List Nat) := (true, [([], []), ([0], [0]), ([], []), ([2], [2]), ([3], [3]), ([1, 4, 3], [1, 4]), ([0, 1, 2, 3, 4, 5], []), ([6, 5, 5, 0, 1, 2, 3, 4, 5], [5, 6])])
def dO.B8 : List Nat := [0, 1, 0, 4, 12, 31, 63, 127]
theorem dO.abC : sJ .any (opsOf Tryz.f68 8) = dO.T8 := by kernel_rfl
theorem dO.Rj : nV dO.T8.2 dO.B8 = true := by kernel_rfl
theorem dO.calls {k g zf zh zk : Nat} {eX : List Int} {kK r4 : Int} {zl yU zo : Option Addr} {vK r1 : List (gY)} {u_ r2 : List ByteArray} {vM r3 : List (nG)} {w : World} (w0 : World) (hI : aK w0 w g eX kK) (hB : Below w0.heap.size w0 w) (akv : ∀ W_, aJ w W_ g none → Kd.C qJ W_ zl vK.length vK) (akw : vK.length ≤ zf) (akx : Kd.C Kd.string w yU u_.length u_) (aky : u_.length ≤ zh) (aaE : ∀ ad, yU = some ad → 0 < u_.length → ad.block ≠ g) (akz : ∀ W_, aJ w W_ g none → Kd.C k28 W_ zo vM.length vM) (akA : vM.length ≤ zk) (h : dO.f k eX kK vK u_ vM = some (r1, r2, r3, r4)) :
  Calls Tryz.prog 68 #[.pointer (some ⟨g, 0, none⟩), .agg #[.slice zl vK.length zf, .slice yU u_.length zh, .slice zo vM.length zk]] w fun e w' => ∃ qj Dq EK : Value, e = .returned (.agg #[qj, Dq, EK]) ∧ Kd.R qJ 69 w' w.heap.size (fun _ => True) qj r1 ∧ Kd.R Kd.string 9 w' w.heap.size (fun _ => True) Dq r2 ∧ Kd.R k28 28 w' w.heap.size (fun k_ => some k_ ≠ (qj : Value).ownBlock ∧ some k_ ≠ (Dq : Value).ownBlock) EK r3 ∧ aK w0 w' g eX r4 ∧ Below w0.heap.size w0 w' ∧ aJ w w' g none := by
 have CG := Tryz.underlying28
 have Dt := Tryz.underlying69
 have aaF := ak akv
 have aaG := ak akw
 clear akv akw
 have aaH := ak akx
 have aaI := ak aky
 clear akx aky
 have aaJ := ak akz
 have aaK := ak akA
 clear akz akA
 have HI0 := ak hI
 have HK := ak (aJ.refl w g none)
 have HL := ak hB.size
 clear hI
 have HW0 := ak hB.size
 have HB := ak hB
 clear hB
 unfold dO.f at h; have H := h
 clear h
 replace H := bd H
 obtain ⟨⟨sW, rP, uO⟩, A3, H⟩ := H
 (try dsimp only at H)
 replace H := bd H
 obtain ⟨⟨aG3, DK⟩, A4, H⟩ := H
 (try dsimp only at H)
 replace H := sq H
 rcases H with ⟨nR, Ji, H⟩ | ⟨c5, nR, Ji, H⟩
 ·
  obtain ⟨anf, aeB⟩ := nm ([(⟨#[10]⟩ : ByteArray), (⟨#[120]⟩ : ByteArray)] : List ByteArray)
  rw [← aeB.out] at H
  replace H := bd H
  obtain ⟨⟨ang, aG4⟩, A6, H⟩ := H
  (try dsimp only at H)
  replace H := nl H; obtain ⟨anh, H⟩ := H
  obtain ⟨ay1, akB⟩ := nm (rP ++ [ang])
  rw [← akB.out] at H
  obtain ⟨rfl, rfl, rfl, rfl⟩ := s4 H
  go_enter Tryz.func68, Tryz.ntmps68
  try go_wp2_with (first | (refine bS HI0 HK HB HW0 3 #[.slice zl vK.length zf, .slice yU u_.length zh, .slice zo vM.length zk] 28 ?_; clear HI0 HK HB; intro wS w8 dV aeC aeD DL rQ hg hb HI0 HK HB; clear hb hg) | (refine bS HI0 HK HB HW0 4 #[.slice none 0 0, .slice none 0 0, .slice none 0 0] 28 ?_; clear HI0 HK HB; intro uI w9 fM aeE aeF DN rU hg hb HI0 HK HB; have yA := AZ dV hg; have yB := A_ dV hg; replace dV := kb dV hb; clear hb hg; have aB8 := yA.out; have aB9 := yB.out; have ate := rQ.out; have atf := DL.out; have z12 := jW dV.out) | (refine gL 110 7 Tryz.func110 #[.agg #[.slice zl vK.length zf, .slice yU u_.length zh, .slice zo vM.length zk]] ?_; (with_reducible refine (dI.calls k _ _ vK _ _ u_ _ _ vM sW rP uO _ (Kd.vk aaF.out (kh HK.out)) aaG.out (by with_unfolding_all exact Kd.Ul (⟨#[]⟩ : ByteArray) aaH.out (kh HK.out) aaE) aaI.out (Kd.vk aaJ.out (kh HK.out)) aaK.out A3.out).mono ?_); rintro e w13 ⟨ani, anj, ank, rfl, ho0, ho1, ho2, hb⟩; refine ⟨_, rfl, ?_⟩; have iw := ak (Kd.aA ho0 (dJ (w := w) (g := g) (row := none) (kh HK.out))); have gW := ak (Kd.aA ho1 (dJ (w := w) (g := g) (row := none) (kh HK.out))); have iF := ak (Kd.aA (Kd.nP (Kd.nP ho2 (g := wS) (o := .cells #[.slice zl vK.length zf, .slice yU u_.length zh, .slice zo vM.length zk] 28 (0, 0)) (ub dV.out)) (g := uI) (o := .cells #[.slice none 0 0, .slice none 0 0, .slice none 0 0] 28 (0, 0)) (ub fM.out)) (dJ (w := w) (g := g) (row := none) (kh HK.out))); replace dV := kb dV hb; replace fM := kb fM hb; replace HK := ak (aJ.trans (kh HK.out) (aJ.of_below hb g none) (.inl rfl)); replace HB := ak (iE oZ hb); replace HI0 := ak (aK.below oW hb); clear hb; (try clear ho0); (try clear ho1); (try clear ho2)) | (refine bS HI0 HK HB HW0 5 #[.slice none 0 0, .slice none 0 0, .slice none 0 0] 28 ?_; clear HI0 HK HB; intro kM Q8 fO aeG aeH DR rV hg hb HI0 HK HB; have uy := AZ dV hg; have uz := A_ dV hg; have uD := AZ fM hg; have uF := A_ fM hg; replace iw := rb iw hb; replace gW := rb gW hb; replace iF := ak (Kd.nO (Kd.uf (ur iF.out) kM (Nat.le_of_eq hg.symm)) hb); replace dV := kb dV hb; replace fM := kb fM hb; clear hb hg; obtain ⟨KP, KQ, SV⟩ := Kd.aN iw.out; subst SV; have aB_ := uz.out; have aCa := uy.out; have aj7 := uF.out; have aj8 := uD.out; have asL := rV.out; have asM := DR.out; have z19 := jW fO.out; obtain ⟨Px, Py, XI⟩ := Kd.aN gW.out; subst XI; obtain ⟨ND, NG, Xa⟩ := Kd.aN iF.out; subst Xa) | (refine gL 57 9 Tryz.func57 #[.pointer (some ⟨g, 0, none⟩), .int .i64 20] ?_; (with_reducible refine (cZ.calls w0 ?fG ?jc A4.out).mono ?_); (case fG => exact oW); (case jc => exact oZ); rintro e Xm ⟨rfl, hi, hb, hk⟩; refine ⟨_, rfl, ?_⟩; replace dV := kd_ dV #[.slice zl vK.length zf, .slice yU u_.length zh, .slice zo vM.length zk] hk rQ; replace fM := kd_ fM #[.slice none 0 0, .slice none 0 0, .slice none 0 0] hk rU; replace iw := ki (w0 := w0) (f0 := eX) (f1 := kK) iw hk; replace gW := ki (w0 := w0) (f0 := eX) (f1 := kK) gW hk; replace iF := ak (Kd.aZ (Kd.H9 (aK.apart (show aK w0 _ g eX kK from oW) (ur (Kd.aZ (Kd.iW (p := ⟨kM, 2, none⟩) (Kd.iW (p := ⟨kM, 1, none⟩) (Kd.iW (p := ⟨kM, 0, none⟩) (Kd.aZ iF.out (fun k_ hk => (⟨hk, hk.2⟩ : _ ∧ k_ ≠ kM))) (fun _ hk => hk.2) (.slice KP sW.length KQ)) (fun _ hk => hk.2) (.slice Px rP.length Py)) (fun _ hk => hk.2) (.slice ND uO.length NG)) (fun _ h_ => h_.1))) (by decide)) hk (fun _ h => h.2)) (fun _ h => h.1)); replace fO := kd_ fO #[.slice KP sW.length KQ, .slice Px rP.length Py, .slice ND uO.length NG] hk rV; replace HK := kt HK hk; replace HB := ak (hb); replace HI0 := ak (hi); clear hb; (try clear hk); (try clear hi)))
  replace iw := ak (Kd.mD iw.out)
  replace gW := ak (Kd.mD gW.out)
  replace iF := ak (Kd.mD iF.out)
  replace dV := ak (bn dV.out)
  replace fM := ak (bn fM.out)
  replace fO := ak (bn fO.out)
  replace HI0 := ak (aK.drew HI0.out)
  replace HK := ak (yt HK.out)
  replace HB := ak (iH HB.out)
  refine Ci (n := 9) (S := fun w' => w'.cell? ⟨kM, 0, none⟩ = some (.slice KP sW.length KQ) ∧ w'.cell? ⟨kM, 1, none⟩ = some (.slice Px rP.length Py) ∧ w'.cell? ⟨kM, 2, none⟩ = some (.slice ND uO.length NG)) (ds := [8]) #[false, false, false, false, false, false, false, false, false] (by kernel_rfl) rfl rfl ⟨(aG fO.out 0).trans rfl, (aG fO.out 1).trans rfl, (aG fO.out 2).trans rfl⟩ (fun hHeld => ?_); refine uq dO.ay0 dO.atd (fun t_ Xp => ?_)
  generalize Xm.drew = w23 at iw gW iF dV fM fO HI0 HK HB hHeld ⊢
  refine pl 0 ?_
  refine pl 2 ?_
  refine tk 1 ?_
  refine o1 3 (fun K hK => ?_)
  refine Kd.qM Kd.string _ 9 ?hg (N := 15) ?hd (xs := ([(⟨#[10]⟩ : ByteArray), (⟨#[120]⟩ : ByteArray)] : List ByteArray)) (inner := [.string (⟨#[10]⟩ : ByteArray), .string (⟨#[120]⟩ : ByteArray)]) (ok := fun _ => True) (vX := fun _ => True) ?hr ?hp (fun _ hk => hk) trivial (Below.refl _ _) (Nat.le_refl _) (by simp) ?_; (case hd => rfl); (case hg => rfl); (case hr => first | (go_simp; done) | (go_simp; rfl)); (case hp => exact (dD.one (show Kd.M Kd.string _ _ _ (⟨#[10]⟩ : ByteArray) [.string (⟨#[10]⟩ : ByteArray)] from rfl) (dD.one (show Kd.M Kd.string _ _ _ (⟨#[120]⟩ : ByteArray) [.string (⟨#[120]⟩ : ByteArray)] from rfl) (dD.none _ _))))
  intro aG5 w24 PD hb Bl wo
  clear Bl wo
  (first | rw [← aeB.out] at PD | (simp only [Int.reduceToNat] at PD; rw [← aeB.out] at PD))
  have G_ := ak (Kd.aA (Kd.gU PD (Kd.kX (ur gW.out))) (dJ (w := w) (g := g) (row := none) (kh HK.out)))
  replace iw := rb iw hb
  replace gW := ak (Kd.fV (ur gW.out) (Kd.fQ PD) hb)
  replace iF := ak (Kd.fV (ur iF.out) (Kd.fQ PD) hb)
  replace dV := kb dV hb
  replace fM := kb fM hb
  replace fO := kb fO hb
  replace HK := ak (aJ.trans (kh HK.out) (aJ.of_below hb g none) (.inl rfl))
  replace HB := ak (iE oZ hb)
  replace HI0 := ak (aK.below oW hb)
  clear hb PD
  obtain ⟨V3, Um, ahv⟩ := Kd.aN G_.out
  (first | subst ahv | (injection ahv with qR wZ qU; have xg := qR.symm; have xk := qU.symm; clear qR wZ qU; subst xg; subst xk))
  refine hK.out _ _ sx (fun hHeld => ?_)
  clear hK K
  refine nrm ?_
  refine o1 4 (fun K hK => ?_)
  refine yR Tryz.func58 (by kernel_rfl) rfl #[.pointer (some ⟨g, 0, none⟩), .slice V3 anf.length Um] (by rfl) rfl rfl ma ?_
  with_reducible refine (fH.calls w0 ?fG ?jc ?ug ?CZ ?uh A6.out).mono ?_
  (case fG => exact oW)
  (case jc => exact oZ)
  (case ug => repeat (first | exact (Kd.au G_.out).2.2 | (with_reducible refine Kd.ql ?_ _) | (with_reducible refine Kd.qm ?_ _) | (with_reducible refine Kd.tJ ?_)))
  (case CZ => exact (Kd.au G_.out).2.1)
  (case uh => exact oq (aK.own_ne HI0.out G_.out (by decide)))
  rintro e w27 ⟨rfl, hi, hb, hk⟩
  refine ⟨_, rfl, ?_⟩
  replace dV := kc dV hk rQ
  replace fM := kc fM hk rU
  replace iw := ki (w0 := w0) (f0 := eX) (f1 := DK) iw hk
  replace gW := ki (w0 := w0) (f0 := eX) (f1 := DK) gW hk
  replace iF := ki (w0 := w0) (f0 := eX) (f1 := DK) iF hk
  replace fO := kc fO hk rV
  replace G_ := ki (w0 := w0) (f0 := eX) (f1 := DK) G_ hk
  replace HK := kt HK hk
  replace HB := ak (hb)
  replace HI0 := ak (hi)
  try clear hb
  try clear hk
  try clear hi
  refine hK.out _ _ sx (fun hHeld => ?_)
  clear hK K
  refine nrm ?_
  refine o1 5 (fun K hK => ?_)
  refine Cj (w1 := ?_) (v := ?_) (by rfl) rfl ?_ ?_
  rotate_left 2
  ·
   go_simp
   constructor
   ·
    rfl
   ·
    rfl
  refine hK.out _ _ ⟨(aG (aX fO.out _) 0).trans rfl, (aG (aX fO.out _) 1).trans rfl, (aG (aX fO.out _) 2).trans rfl⟩ (fun hHeld => ?_)
  clear hK K
  refine nrm ?_
  refine o1 6 (fun K hK => ?_)
  refine Kd.nU Kd.string w.heap.size (by rfl) (.tmp 13) (.tmp 17) 23 9 (.string ⟨#[]⟩) 16 rfl Tryz.underlying23 info9 rfl (by decide) (by omega) (.slice Px rP.length Py) rP ang [.string ang] (fun k_ => some k_ ≠ (.slice V3 anf.length Um : Value).ownBlock) (fun _ => False) rfl rfl ?aP (fun _ hk => hk.elim) ?aF ?aO (Below.refl _ _) ?aS ?aL ?_
  (case aP => exact rfl)
  (case aF => exact (fun k_ hk => Kd.fresh' (Kd.kX (ur G_.out)) k_ hk))
  (case aO => exact (ur (Kd.aZ gW.out (fun _ hk => hk.2))))
  (case aS => exact (dJ (w := w) (g := g) (row := none) (kh HK.out)))
  (case aL => have := anh.out; omega)
  intro aG6 w28 ho hb hg hat
  rw [← akB.out] at ho
  have yP := ak (aK.grown oW hg (aK.own_ne HI0.out gW.out (by decide)))
  have yQ := ak (dw (g := wS) (o := .cells #[.slice zl vK.length zf, .slice yU u_.length zh, .slice zo vM.length zk] 28 (0, 0)) (ub dV.out) hg (Kd.oQ gW.out dV.out (by decide)))
  have zA := ak (dw (g := uI) (o := .cells #[.slice none 0 0, .slice none 0 0, .slice none 0 0] 28 (0, 0)) (ub fM.out) hg (Kd.oQ gW.out fM.out (by decide)))
  have CS := ak (Kd.qo (ur iw.out) (Kd.kU (ur gW.out)) (by decide) hg)
  have GY := ak (Kd.zJ (ok := (fun k_ => some k_ ≠ (.slice KP sW.length KQ : Value).ownBlock ∧ some k_ ≠ (.slice V3 anf.length Um : Value).ownBlock ∧ k_ ≠ wS ∧ k_ ≠ uI ∧ k_ ≠ kM)) (ur (Kd.aZ iF.out (fun _ hk => ⟨⟨hk.1.1.1.1.1, ⟨hk.2, ⟨hk.1.1.1.2, ⟨hk.1.1.2, hk.1.2⟩⟩⟩⟩, hk.1.1.1.1.2⟩))) hg hat)
  have JE := ak (dw (g := kM) (o := .cells #[.slice KP sW.length KQ, .slice Px rP.length Py, .slice ND uO.length NG] 28 (0, 0)) (ub fO.out) hg (Kd.oQ gW.out fO.out (by decide)))
  have MX := ak (Kd.zJ (ok := (fun _ => True)) (ur G_.out) hg hat)
  have Ro := ak (vJ oZ HL.out hb)
  have VU := ak (aJ.trans (kh HK.out) (aJ.yT hg g) (Kd.F9 gW.out))
  have n9_ := ak (ho)
  clear HI0 dV fM iw iF fO G_ HB HK gW
  have HI0 := yP
  have dV := yQ
  have fM := zA
  have iw := CS
  have iF := GY
  have fO := JE
  have G_ := MX
  have HB := Ro
  have HK := VU
  have atg := n9_
  clear yP yQ zA CS GY JE MX Ro VU n9_ ho hb hg hat
  obtain ⟨Uh, Ui, ahn⟩ := Kd.aN atg.out
  (first | subst ahn | (injection ahn with qR wZ qU; have xg := qR.symm; have xk := qU.symm; clear qR wZ qU; subst xg; subst xk))
  refine hK.out _ _ sx (fun hHeld => ?_)
  clear hK K
  refine nrm ?_
  refine pl 7 ?_
  refine GX (i := 8) (N := none) #[true, true, true, true, true, true, true, true, true] rfl rfl (oL t_.out (by kernel_rfl)) (by decide) (fun K hK => ?_)
  have aG7 : w28.cell? ⟨kM, 1, none⟩ = some (.slice Px rP.length Py) := (aG fO.out 1).trans rfl
  have aCb := iq fO.out 1
  have awo := uy.out
  have awp := uD.out
  have awq := uz.out
  have awr := uF.out
  refine GZ (w1 := ?_) (by rfl) rfl ?_ ?_
  rotate_left
  ·
   go_simp
   rfl
  refine hK.out _ _ ?_
  clear hK K
  refine G5 (yH t_.out (by kernel_rfl)) ?_
  have z31 := jW fO.out
  have aj_ := rU.out
  have akb := DN.out
  have z33 := jW fM.out
  try go_wp2
  refine bodyPost_ret (results_cell_row rfl _ _ uI 28 #[.slice KP sW.length KQ, .slice Uh ay1.length Ui, .slice ND uO.length NG] (0, 0) _ rfl bq Tryz.underlying28 rfl (by kernel_rfl)) rfl ?_
  exact ⟨_, _, _, er, rr, rr, rr, oW, oZ, kh HK.out⟩
 ·
  replace H := sq H
  rcases H with ⟨Vr, Vs, H⟩ | ⟨c34, Vr, Vs, H⟩
  ·
   obtain ⟨V4, V5⟩ := nm ([(⟨#[97, 32, 98]⟩ : ByteArray), (⟨#[79, 107]⟩ : ByteArray)] : List ByteArray)
   rw [← V5.out] at H
   replace H := bd H
   obtain ⟨⟨aeI, XP⟩, A35, H⟩ := H
   (try dsimp only at H)
   obtain ⟨ahw, PN⟩ := nm ([(⟨#[32, 120]⟩ : ByteArray), (⟨#[120]⟩ : ByteArray)] : List ByteArray)
   rw [← PN.out] at H
   replace H := bd H
   obtain ⟨⟨ahx, aG8⟩, A36, H⟩ := H
   (try dsimp only at H)
   replace H := nl H; obtain ⟨aeJ, H⟩ := H
   obtain ⟨ay2, akC⟩ := nm (sW ++ [(⟨aeI, ahx⟩ : gY)])
   rw [← akC.out] at H
   obtain ⟨rfl, rfl, rfl, rfl⟩ := s4 H
   go_enter Tryz.func68, Tryz.ntmps68
   try go_wp2_with (first | (refine bS HI0 HK HB HW0 3 #[.slice zl vK.length zf, .slice yU u_.length zh, .slice zo vM.length zk] 28 ?_; clear HI0 HK HB; intro wS w38 dV aeC aeD DL rQ hg hb HI0 HK HB; clear hb hg) | (refine bS HI0 HK HB HW0 4 #[.slice none 0 0, .slice none 0 0, .slice none 0 0] 28 ?_; clear HI0 HK HB; intro uI w39 fM aeE aeF DN rU hg hb HI0 HK HB; have yA := AZ dV hg; have yB := A_ dV hg; replace dV := kb dV hb; clear hb hg; have akp := yA.out; have akq := yB.out; have aCc := rQ.out; have aCd := DL.out; have z42 := jW dV.out) | (refine gL 110 7 Tryz.func110 #[.agg #[.slice zl vK.length zf, .slice yU u_.length zh, .slice zo vM.length zk]] ?_; (with_reducible refine (dI.calls k _ _ vK _ _ u_ _ _ vM sW rP uO _ (Kd.vk aaF.out (kh HK.out)) aaG.out (by with_unfolding_all exact Kd.Ul (⟨#[]⟩ : ByteArray) aaH.out (kh HK.out) aaE) aaI.out (Kd.vk aaJ.out (kh HK.out)) aaK.out A3.out).mono ?_); rintro e w43 ⟨ani, anj, ank, rfl, ho0, ho1, ho2, hb⟩; refine ⟨_, rfl, ?_⟩; have iw := ak (Kd.aA ho0 (dJ (w := w) (g := g) (row := none) (kh HK.out))); have gW := ak (Kd.aA ho1 (dJ (w := w) (g := g) (row := none) (kh HK.out))); have iF := ak (Kd.aA (Kd.nP (Kd.nP ho2 (g := wS) (o := .cells #[.slice zl vK.length zf, .slice yU u_.length zh, .slice zo vM.length zk] 28 (0, 0)) (ub dV.out)) (g := uI) (o := .cells #[.slice none 0 0, .slice none 0 0, .slice none 0 0] 28 (0, 0)) (ub fM.out)) (dJ (w := w) (g := g) (row := none) (kh HK.out))); replace dV := kb dV hb; replace fM := kb fM hb; replace HK := ak (aJ.trans (kh HK.out) (aJ.of_below hb g none) (.inl rfl)); replace HB := ak (iE oZ hb); replace HI0 := ak (aK.below oW hb); clear hb; (try clear ho0); (try clear ho1); (try clear ho2)) | (refine bS HI0 HK HB HW0 5 #[.slice none 0 0, .slice none 0 0, .slice none 0 0] 28 ?_; clear HI0 HK HB; intro kM w44 fO aeG aeH DR rV hg hb HI0 HK HB; have uy := AZ dV hg; have uz := A_ dV hg; have uD := AZ fM hg; have uF := A_ fM hg; replace iw := rb iw hb; replace gW := rb gW hb; replace iF := ak (Kd.nO (Kd.uf (ur iF.out) kM (Nat.le_of_eq hg.symm)) hb); replace dV := kb dV hb; replace fM := kb fM hb; clear hb hg; obtain ⟨JL, JM, ay3⟩ := Kd.aN iw.out; subst ay3; have asu := uz.out; have asv := uy.out; have akk := uF.out; have akl := uD.out; have aiX := rV.out; have aiY := DR.out; have z49 := jW fO.out; obtain ⟨Ac, zM, adl⟩ := Kd.aN gW.out; subst adl; obtain ⟨PO, PS, ay4⟩ := Kd.aN iF.out; subst ay4) | (refine gL 57 9 Tryz.func57 #[.pointer (some ⟨g, 0, none⟩), .int .i64 20] ?_; (with_reducible refine (cZ.calls w0 ?fG ?jc A4.out).mono ?_); (case fG => exact oW); (case jc => exact oZ); rintro e w52 ⟨rfl, hi, hb, hk⟩; refine ⟨_, rfl, ?_⟩; replace dV := kd_ dV #[.slice zl vK.length zf, .slice yU u_.length zh, .slice zo vM.length zk] hk rQ; replace fM := kd_ fM #[.slice none 0 0, .slice none 0 0, .slice none 0 0] hk rU; replace iw := ki (w0 := w0) (f0 := eX) (f1 := kK) iw hk; replace gW := ki (w0 := w0) (f0 := eX) (f1 := kK) gW hk; replace iF := ak (Kd.aZ (Kd.H9 (aK.apart (show aK w0 _ g eX kK from oW) (ur (Kd.aZ (Kd.iW (p := ⟨kM, 2, none⟩) (Kd.iW (p := ⟨kM, 1, none⟩) (Kd.iW (p := ⟨kM, 0, none⟩) (Kd.aZ iF.out (fun k_ hk => (⟨hk, hk.2⟩ : _ ∧ k_ ≠ kM))) (fun _ hk => hk.2) (.slice JL sW.length JM)) (fun _ hk => hk.2) (.slice Ac rP.length zM)) (fun _ hk => hk.2) (.slice PO uO.length PS)) (fun _ h_ => h_.1))) (by decide)) hk (fun _ h => h.2)) (fun _ h => h.1)); replace fO := kd_ fO #[.slice JL sW.length JM, .slice Ac rP.length zM, .slice PO uO.length PS] hk rV; replace HK := kt HK hk; replace HB := ak (hb); replace HI0 := ak (hi); clear hb; (try clear hk); (try clear hi)))
   replace iw := ak (Kd.mD iw.out)
   replace gW := ak (Kd.mD gW.out)
   replace iF := ak (Kd.mD iF.out)
   replace dV := ak (bn dV.out)
   replace fM := ak (bn fM.out)
   replace fO := ak (bn fO.out)
   replace HI0 := ak (aK.drew HI0.out)
   replace HK := ak (yt HK.out)
   replace HB := ak (iH HB.out)
   refine Ci (n := 13) (S := fun w' => w'.cell? ⟨kM, 0, none⟩ = some (.slice JL sW.length JM) ∧ w'.cell? ⟨kM, 1, none⟩ = some (.slice Ac rP.length zM) ∧ w'.cell? ⟨kM, 2, none⟩ = some (.slice PO uO.length PS)) (ds := [12]) #[false, false, false, false, false, false, false, false, false, false, false, false, false] (by kernel_rfl) rfl rfl ⟨(aG fO.out 0).trans rfl, (aG fO.out 1).trans rfl, (aG fO.out 2).trans rfl⟩ (fun hHeld => ?_); refine uq dO.tab6 dO.aku (fun t_ Xp => ?_)
   generalize w52.drew = w53 at iw gW iF dV fM fO HI0 HK HB hHeld ⊢
   refine pl 0 ?_
   refine pl 2 ?_
   refine pl 5 ?_
   refine tk 1 ?_
   refine adU (σ := Value × Value) 6 #[true, true, true, true, true, true, true, false, false, false, false, false, false] (fun s_ => [(25, s_.1), (26, .string aeI), (28, s_.2)]) (fun s_ w' => (w'.cell? ⟨kM, 0, none⟩ = some (.slice JL sW.length JM) ∧ w'.cell? ⟨kM, 1, none⟩ = some (.slice Ac rP.length zM) ∧ w'.cell? ⟨kM, 2, none⟩ = some (.slice PO uO.length PS)) ∧ (Kd.R qJ 69 w' w.heap.size (fun _ => True) (.slice JL sW.length JM) sW) ∧ (Kd.R Kd.string 9 w' w.heap.size (fun k_ => some k_ ≠ (s_.1 : Value).ownBlock ∧ some k_ ≠ (s_.2 : Value).ownBlock) (.slice Ac rP.length zM) rP) ∧ (Kd.R k28 28 w' w.heap.size (fun k_ => some k_ ≠ (.slice JL sW.length JM : Value).ownBlock ∧ some k_ ≠ (.slice Ac rP.length zM : Value).ownBlock ∧ some k_ ≠ (s_.1 : Value).ownBlock ∧ some k_ ≠ (s_.2 : Value).ownBlock ∧ k_ ≠ wS ∧ k_ ≠ uI ∧ k_ ≠ kM) (.slice PO uO.length PS) uO) ∧ (Kd.R Kd.string 9 w' w.heap.size (fun k_ => some k_ ≠ (.slice Ac rP.length zM : Value).ownBlock ∧ some k_ ≠ (s_.2 : Value).ownBlock) s_.1 V4) ∧ (Kd.R Kd.string 9 w' w.heap.size (fun k_ => some k_ ≠ (.slice Ac rP.length zM : Value).ownBlock ∧ some k_ ≠ (s_.1 : Value).ownBlock) s_.2 ahw) ∧ (w'.heap[wS]? = some (.cells #[.slice zl vK.length zf, .slice yU u_.length zh, .slice zo vM.length zk] 28 (0, 0))) ∧ (w'.heap[uI]? = some (.cells #[.slice none 0 0, .slice none 0 0, .slice none 0 0] 28 (0, 0))) ∧ (w'.heap[kM]? = some (.cells #[.slice JL sW.length JM, .slice Ac rP.length zM, .slice PO uO.length PS] 28 (0, 0))) ∧ (aK w0 w' g eX XP) ∧ (aJ w w' g none) ∧ (Below w0.heap.size w0 w')) ?_ ?_
   rotate_left
   ·
    intro Rn
    refine ahb (i := 3) (j := 6) (Ni := some 25) (Nj := some 28) #[true, true, true, true, false, true, false, false, false, false, false, false, false] #[true, true, true, false, false, true, true, false, false, false, false, false, false] rfl rfl rfl rfl (Ub t_.out (by kernel_rfl)) (by decide) (by decide) (fun K hK => ?_) (fun K hK => ?_)
    ·
     skip
     refine Kd.qM Kd.string _ 9 ?hg (N := 25) ?hd (xs := ([(⟨#[97, 32, 98]⟩ : ByteArray), (⟨#[79, 107]⟩ : ByteArray)] : List ByteArray)) (inner := [.string (⟨#[97, 32, 98]⟩ : ByteArray), .string (⟨#[79, 107]⟩ : ByteArray)]) (ok := fun _ => True) (vX := fun _ => True) ?hr ?hp (fun _ hk => hk) trivial (Below.refl _ _) (Nat.le_refl _) (by simp) ?_; (case hd => rfl); (case hg => rfl); (case hr => first | (go_simp; done) | (go_simp; rfl)); (case hp => exact (dD.one (show Kd.M Kd.string _ _ _ (⟨#[97, 32, 98]⟩ : ByteArray) [.string (⟨#[97, 32, 98]⟩ : ByteArray)] from rfl) (dD.one (show Kd.M Kd.string _ _ _ (⟨#[79, 107]⟩ : ByteArray) [.string (⟨#[79, 107]⟩ : ByteArray)] from rfl) (dD.none _ _))))
     intro XQ w54 Ig hb Bl wo
     clear Bl wo
     (first | rw [← V5.out] at Ig | (simp only [Int.reduceToNat] at Ig; rw [← V5.out] at Ig))
     have pO := ak (Kd.aA (Kd.gU Ig (Kd.kX (ur gW.out))) (dJ (w := w) (g := g) (row := none) (kh HK.out)))
     replace iw := rb iw hb
     replace gW := ak (Kd.fV (ur gW.out) (Kd.fQ Ig) hb)
     replace iF := ak (Kd.fV (ur iF.out) (Kd.fQ Ig) hb)
     replace dV := kb dV hb
     replace fM := kb fM hb
     replace fO := kb fO hb
     replace HK := ak (aJ.trans (kh HK.out) (aJ.of_below hb g none) (.inl rfl))
     replace HB := ak (iE oZ hb)
     replace HI0 := ak (aK.below oW hb)
     clear hb Ig
     obtain ⟨ath, ati, atj⟩ := Kd.aN pO.out
     (first | subst atj | (injection atj with qR wZ qU; have xg := qR.symm; have xk := qU.symm; clear qR wZ qU; subst xg; subst xk))
     refine hK.out _ _ sx (fun hHeld => ?_)
     clear hK K
     refine nrm ?_
     refine ahb (i := 4) (j := 6) (Ni := some 26) (Nj := some 28) #[true, true, true, true, true, true, false, false, false, false, false, false, false] #[true, true, true, true, false, true, true, false, false, false, false, false, false] rfl rfl rfl rfl (Ub t_.out (by kernel_rfl)) (by decide) (by decide) (fun K hK => ?_) (fun K hK => ?_)
     ·
      skip
      refine yR Tryz.func58 (by kernel_rfl) rfl #[.pointer (some ⟨g, 0, none⟩), .slice ath V4.length ati] (by rfl) rfl rfl ma ?_
      with_reducible refine (fH.calls w0 ?fG ?jc ?ug ?CZ ?uh A35.out).mono ?_
      (case fG => exact oW)
      (case jc => exact oZ)
      (case ug => repeat (first | exact (Kd.au pO.out).2.2 | (with_reducible refine Kd.ql ?_ _) | (with_reducible refine Kd.qm ?_ _) | (with_reducible refine Kd.tJ ?_)))
      (case CZ => exact (Kd.au pO.out).2.1)
      (case uh => exact oq (aK.own_ne HI0.out pO.out (by decide)))
      rintro e w57 ⟨rfl, hi, hb, hk⟩
      refine ⟨_, rfl, ?_⟩
      replace dV := kc dV hk rQ
      replace fM := kc fM hk rU
      replace iw := ki (w0 := w0) (f0 := eX) (f1 := DK) iw hk
      replace gW := ki (w0 := w0) (f0 := eX) (f1 := DK) gW hk
      replace iF := ki (w0 := w0) (f0 := eX) (f1 := DK) iF hk
      replace fO := kc fO hk rV
      replace pO := ki (w0 := w0) (f0 := eX) (f1 := DK) pO hk
      replace HK := kt HK hk
      replace HB := ak (hb)
      replace HI0 := ak (hi)
      try clear hb
      try clear hk
      try clear hi
      refine hK.out _ _ sx (fun hHeld => ?_)
      clear hK K
      refine nrm ?_
      refine o1 6 (fun K hK => ?_)
      refine Kd.qM Kd.string _ 9 ?hg (N := 28) ?hd (xs := ([(⟨#[32, 120]⟩ : ByteArray), (⟨#[120]⟩ : ByteArray)] : List ByteArray)) (inner := [.string (⟨#[32, 120]⟩ : ByteArray), .string (⟨#[120]⟩ : ByteArray)]) (ok := fun _ => True) (vX := fun _ => True) ?hr ?hp (fun _ hk => hk) trivial (Below.refl _ _) (Nat.le_refl _) (by simp) ?_; (case hd => rfl); (case hg => rfl); (case hr => first | (go_simp; done) | (go_simp; rfl)); (case hp => exact (dD.one (show Kd.M Kd.string _ _ _ (⟨#[32, 120]⟩ : ByteArray) [.string (⟨#[32, 120]⟩ : ByteArray)] from rfl) (dD.one (show Kd.M Kd.string _ _ _ (⟨#[120]⟩ : ByteArray) [.string (⟨#[120]⟩ : ByteArray)] from rfl) (dD.none _ _))))
      intro QS w58 V6 hb Bl wo
      clear Bl wo
      (first | rw [← PN.out] at V6 | (simp only [Int.reduceToNat] at V6; rw [← PN.out] at V6))
      have vV := ak (Kd.aA (Kd.gU (Kd.gU V6 (Kd.kX (ur gW.out))) (Kd.kX (ur pO.out))) (dJ (w := w) (g := g) (row := none) (kh HK.out)))
      replace iw := rb iw hb
      replace gW := ak (Kd.fV (ur gW.out) (Kd.fQ V6) hb)
      replace iF := ak (Kd.fV (ur iF.out) (Kd.fQ V6) hb)
      replace pO := ak (Kd.fV (ur pO.out) (Kd.fQ V6) hb)
      replace dV := kb dV hb
      replace fM := kb fM hb
      replace fO := kb fO hb
      replace HK := ak (aJ.trans (kh HK.out) (aJ.of_below hb g none) (.inl rfl))
      replace HB := ak (iE oZ hb)
      replace HI0 := ak (aK.below oW hb)
      clear hb V6
      refine hK.out _ _ sx (fun hHeld => ?_)
      clear hK K
      refine nrm ?_
      exact qF (by simp only [yj, Act.put, qW, qX, l_c] <;> rfl) (Rn (.slice ath V4.length ati, QS) _ ⟨hHeld, (ur iw.out), (ur (Kd.aZ gW.out (fun _ hk => ⟨hk.1.2, hk.2⟩))), (ur (Kd.aZ iF.out (fun _ hk => ⟨hk.1.1.1.1.1.1, ⟨hk.1.1.1.1.1.2, ⟨hk.1.2, ⟨hk.2, ⟨hk.1.1.1.1.2, ⟨hk.1.1.1.2, hk.1.1.2⟩⟩⟩⟩⟩⟩))), (ur (Kd.aZ pO.out (fun _ hk => ⟨hk.1.2, hk.2⟩))), (ur (Kd.aZ vV.out (fun _ hk => ⟨hk.1.2, hk.2⟩))), (ub dV.out), (ub fM.out), (ub fO.out), oW, (kh HK.out), oZ⟩)
     ·
      skip
      refine Kd.qM Kd.string _ 9 ?hg (N := 28) ?hd (xs := ([(⟨#[32, 120]⟩ : ByteArray), (⟨#[120]⟩ : ByteArray)] : List ByteArray)) (inner := [.string (⟨#[32, 120]⟩ : ByteArray), .string (⟨#[120]⟩ : ByteArray)]) (ok := fun _ => True) (vX := fun _ => True) ?hr ?hp (fun _ hk => hk) trivial (Below.refl _ _) (Nat.le_refl _) (by simp) ?_; (case hd => rfl); (case hg => rfl); (case hr => first | (go_simp; done) | (go_simp; rfl)); (case hp => exact (dD.one (show Kd.M Kd.string _ _ _ (⟨#[32, 120]⟩ : ByteArray) [.string (⟨#[32, 120]⟩ : ByteArray)] from rfl) (dD.one (show Kd.M Kd.string _ _ _ (⟨#[120]⟩ : ByteArray) [.string (⟨#[120]⟩ : ByteArray)] from rfl) (dD.none _ _))))
      intro QS w56 Fa hb Bl wo
      clear Bl wo
      (first | rw [← PN.out] at Fa | (simp only [Int.reduceToNat] at Fa; rw [← PN.out] at Fa))
      have vV := ak (Kd.aA (Kd.gU (Kd.gU Fa (Kd.kX (ur gW.out))) (Kd.kX (ur pO.out))) (dJ (w := w) (g := g) (row := none) (kh HK.out)))
      replace iw := rb iw hb
      replace gW := ak (Kd.fV (ur gW.out) (Kd.fQ Fa) hb)
      replace iF := ak (Kd.fV (ur iF.out) (Kd.fQ Fa) hb)
      replace pO := ak (Kd.fV (ur pO.out) (Kd.fQ Fa) hb)
      replace dV := kb dV hb
      replace fM := kb fM hb
      replace fO := kb fO hb
      replace HK := ak (aJ.trans (kh HK.out) (aJ.of_below hb g none) (.inl rfl))
      replace HB := ak (iE oZ hb)
      replace HI0 := ak (aK.below oW hb)
      clear hb Fa
      obtain ⟨QT, PU, XR⟩ := Kd.aN pO.out
      (first | subst XR | (injection XR with qR wZ qU; have xg := qR.symm; have xk := qU.symm; clear qR wZ qU; subst xg; subst xk))
      refine hK.out _ _ sx (fun hHeld => ?_)
      clear hK K
      refine nrm ?_
      refine o1 4 (fun K hK => ?_)
      refine yR Tryz.func58 (by kernel_rfl) rfl #[.pointer (some ⟨g, 0, none⟩), .slice QT V4.length PU] (by rfl) rfl rfl ma ?_
      with_reducible refine (fH.calls w0 ?fG ?jc ?ug ?CZ ?uh A35.out).mono ?_
      (case fG => exact oW)
      (case jc => exact oZ)
      (case ug => repeat (first | exact (Kd.au pO.out).2.2 | (with_reducible refine Kd.ql ?_ _) | (with_reducible refine Kd.qm ?_ _) | (with_reducible refine Kd.tJ ?_)))
      (case CZ => exact (Kd.au pO.out).2.1)
      (case uh => exact oq (aK.own_ne HI0.out pO.out (by decide)))
      rintro e w59 ⟨rfl, hi, hb, hk⟩
      refine ⟨_, rfl, ?_⟩
      replace dV := kc dV hk rQ
      replace fM := kc fM hk rU
      replace iw := ki (w0 := w0) (f0 := eX) (f1 := DK) iw hk
      replace gW := ki (w0 := w0) (f0 := eX) (f1 := DK) gW hk
      replace iF := ki (w0 := w0) (f0 := eX) (f1 := DK) iF hk
      replace fO := kc fO hk rV
      replace pO := ki (w0 := w0) (f0 := eX) (f1 := DK) pO hk
      replace vV := ki (w0 := w0) (f0 := eX) (f1 := DK) vV hk
      replace HK := kt HK hk
      replace HB := ak (hb)
      replace HI0 := ak (hi)
      try clear hb
      try clear hk
      try clear hi
      refine hK.out _ _ sx (fun hHeld => ?_)
      clear hK K
      refine nrm ?_
      exact qF (by simp only [yj, Act.put, qW, qX, l_c] <;> rfl) (Rn (.slice QT V4.length PU, QS) _ ⟨hHeld, (ur iw.out), (ur (Kd.aZ gW.out (fun _ hk => ⟨hk.1.2, hk.2⟩))), (ur (Kd.aZ iF.out (fun _ hk => ⟨hk.1.1.1.1.1.1, ⟨hk.1.1.1.1.1.2, ⟨hk.1.2, ⟨hk.2, ⟨hk.1.1.1.1.2, ⟨hk.1.1.1.2, hk.1.1.2⟩⟩⟩⟩⟩⟩))), (ur (Kd.aZ pO.out (fun _ hk => ⟨hk.1.2, hk.2⟩))), (ur (Kd.aZ vV.out (fun _ hk => ⟨hk.1.2, hk.2⟩))), (ub dV.out), (ub fM.out), (ub fO.out), oW, (kh HK.out), oZ⟩)
    ·
     skip
     refine Kd.qM Kd.string _ 9 ?hg (N := 28) ?hd (xs := ([(⟨#[32, 120]⟩ : ByteArray), (⟨#[120]⟩ : ByteArray)] : List ByteArray)) (inner := [.string (⟨#[32, 120]⟩ : ByteArray), .string (⟨#[120]⟩ : ByteArray)]) (ok := fun _ => True) (vX := fun _ => True) ?hr ?hp (fun _ hk => hk) trivial (Below.refl _ _) (Nat.le_refl _) (by simp) ?_; (case hd => rfl); (case hg => rfl); (case hr => first | (go_simp; done) | (go_simp; rfl)); (case hp => exact (dD.one (show Kd.M Kd.string _ _ _ (⟨#[32, 120]⟩ : ByteArray) [.string (⟨#[32, 120]⟩ : ByteArray)] from rfl) (dD.one (show Kd.M Kd.string _ _ _ (⟨#[120]⟩ : ByteArray) [.string (⟨#[120]⟩ : ByteArray)] from rfl) (dD.none _ _))))
     intro QS w54 Ig hb Bl wo
     clear Bl wo
     (first | rw [← PN.out] at Ig | (simp only [Int.reduceToNat] at Ig; rw [← PN.out] at Ig))
     have vV := ak (Kd.aA (Kd.gU Ig (Kd.kX (ur gW.out))) (dJ (w := w) (g := g) (row := none) (kh HK.out)))
     replace iw := rb iw hb
     replace gW := ak (Kd.fV (ur gW.out) (Kd.fQ Ig) hb)
     replace iF := ak (Kd.fV (ur iF.out) (Kd.fQ Ig) hb)
     replace dV := kb dV hb
     replace fM := kb fM hb
     replace fO := kb fO hb
     replace HK := ak (aJ.trans (kh HK.out) (aJ.of_below hb g none) (.inl rfl))
     replace HB := ak (iE oZ hb)
     replace HI0 := ak (aK.below oW hb)
     clear hb Ig
     refine hK.out _ _ sx (fun hHeld => ?_)
     clear hK K
     refine nrm ?_
     refine o1 3 (fun K hK => ?_)
     refine Kd.qM Kd.string _ 9 ?hg (N := 25) ?hd (xs := ([(⟨#[97, 32, 98]⟩ : ByteArray), (⟨#[79, 107]⟩ : ByteArray)] : List ByteArray)) (inner := [.string (⟨#[97, 32, 98]⟩ : ByteArray), .string (⟨#[79, 107]⟩ : ByteArray)]) (ok := fun _ => True) (vX := fun _ => True) ?hr ?hp (fun _ hk => hk) trivial (Below.refl _ _) (Nat.le_refl _) (by simp) ?_; (case hd => rfl); (case hg => rfl); (case hr => first | (go_simp; done) | (go_simp; rfl)); (case hp => exact (dD.one (show Kd.M Kd.string _ _ _ (⟨#[97, 32, 98]⟩ : ByteArray) [.string (⟨#[97, 32, 98]⟩ : ByteArray)] from rfl) (dD.one (show Kd.M Kd.string _ _ _ (⟨#[79, 107]⟩ : ByteArray) [.string (⟨#[79, 107]⟩ : ByteArray)] from rfl) (dD.none _ _))))
     intro XQ w56 Fa hb Bl wo
     clear Bl wo
     (first | rw [← V5.out] at Fa | (simp only [Int.reduceToNat] at Fa; rw [← V5.out] at Fa))
     have pO := ak (Kd.aA (Kd.gU (Kd.gU Fa (Kd.kX (ur gW.out))) (Kd.kX (ur vV.out))) (dJ (w := w) (g := g) (row := none) (kh HK.out)))
     replace iw := rb iw hb
     replace gW := ak (Kd.fV (ur gW.out) (Kd.fQ Fa) hb)
     replace iF := ak (Kd.fV (ur iF.out) (Kd.fQ Fa) hb)
     replace vV := ak (Kd.fV (ur vV.out) (Kd.fQ Fa) hb)
     replace dV := kb dV hb
     replace fM := kb fM hb
     replace fO := kb fO hb
     replace HK := ak (aJ.trans (kh HK.out) (aJ.of_below hb g none) (.inl rfl))
     replace HB := ak (iE oZ hb)
     replace HI0 := ak (aK.below oW hb)
     clear hb Fa
     obtain ⟨QT, PU, XR⟩ := Kd.aN pO.out
     (first | subst XR | (injection XR with qR wZ qU; have xg := qR.symm; have xk := qU.symm; clear qR wZ qU; subst xg; subst xk))
     refine hK.out _ _ sx (fun hHeld => ?_)
     clear hK K
     refine nrm ?_
     refine o1 4 (fun K hK => ?_)
     refine yR Tryz.func58 (by kernel_rfl) rfl #[.pointer (some ⟨g, 0, none⟩), .slice QT V4.length PU] (by rfl) rfl rfl ma ?_
     with_reducible refine (fH.calls w0 ?fG ?jc ?ug ?CZ ?uh A35.out).mono ?_
     (case fG => exact oW)
     (case jc => exact oZ)
     (case ug => repeat (first | exact (Kd.au pO.out).2.2 | (with_reducible refine Kd.ql ?_ _) | (with_reducible refine Kd.qm ?_ _) | (with_reducible refine Kd.tJ ?_)))
     (case CZ => exact (Kd.au pO.out).2.1)
     (case uh => exact oq (aK.own_ne HI0.out pO.out (by decide)))
     rintro e w59 ⟨rfl, hi, hb, hk⟩
     refine ⟨_, rfl, ?_⟩
     replace dV := kc dV hk rQ
     replace fM := kc fM hk rU
     replace iw := ki (w0 := w0) (f0 := eX) (f1 := DK) iw hk
     replace gW := ki (w0 := w0) (f0 := eX) (f1 := DK) gW hk
     replace iF := ki (w0 := w0) (f0 := eX) (f1 := DK) iF hk
     replace fO := kc fO hk rV
     replace vV := ki (w0 := w0) (f0 := eX) (f1 := DK) vV hk
     replace pO := ki (w0 := w0) (f0 := eX) (f1 := DK) pO hk
     replace HK := kt HK hk
     replace HB := ak (hb)
     replace HI0 := ak (hi)
     try clear hb
     try clear hk
     try clear hi
     refine hK.out _ _ sx (fun hHeld => ?_)
     clear hK K
     refine nrm ?_
     exact qF (by simp only [yj, Act.put, qW, qX, l_c] <;> rfl) (Rn (.slice QT V4.length PU, QS) _ ⟨hHeld, (ur iw.out), (ur (Kd.aZ gW.out (fun _ hk => ⟨hk.2, hk.1.2⟩))), (ur (Kd.aZ iF.out (fun _ hk => ⟨hk.1.1.1.1.1.1, ⟨hk.1.1.1.1.1.2, ⟨hk.2, ⟨hk.1.2, ⟨hk.1.1.1.1.2, ⟨hk.1.1.1.2, hk.1.1.2⟩⟩⟩⟩⟩⟩))), (ur (Kd.aZ pO.out (fun _ hk => ⟨hk.1.2, hk.2⟩))), (ur (Kd.aZ vV.out (fun _ hk => ⟨hk.1.2, hk.2⟩))), (ub dV.out), (ub fM.out), (ub fO.out), oW, (kh HK.out), oZ⟩)
   rintro ⟨XQ, QS⟩ Q_ ⟨hS_, h0_, h1_, h2_, h3_, h4_, h5_, h6_, h7_, h8_, h9_, Uc⟩
   have yP : ah (Kd.R qJ 69 Q_ w.heap.size (fun _ => True) (.slice JL sW.length JM) sW) := ⟨h0_⟩
   have yQ : ah (Kd.R Kd.string 9 Q_ w.heap.size (fun k_ => some k_ ≠ (XQ : Value).ownBlock ∧ some k_ ≠ (QS : Value).ownBlock) (.slice Ac rP.length zM) rP) := ⟨h1_⟩
   have zA : ah (Kd.R k28 28 Q_ w.heap.size (fun k_ => some k_ ≠ (.slice JL sW.length JM : Value).ownBlock ∧ some k_ ≠ (.slice Ac rP.length zM : Value).ownBlock ∧ some k_ ≠ (XQ : Value).ownBlock ∧ some k_ ≠ (QS : Value).ownBlock ∧ k_ ≠ wS ∧ k_ ≠ uI ∧ k_ ≠ kM) (.slice PO uO.length PS) uO) := ⟨h2_⟩
   have CS : ah (Kd.R Kd.string 9 Q_ w.heap.size (fun k_ => some k_ ≠ (.slice Ac rP.length zM : Value).ownBlock ∧ some k_ ≠ (QS : Value).ownBlock) XQ V4) := ⟨h3_⟩
   have GY : ah (Kd.R Kd.string 9 Q_ w.heap.size (fun k_ => some k_ ≠ (.slice Ac rP.length zM : Value).ownBlock ∧ some k_ ≠ (XQ : Value).ownBlock) QS ahw) := ⟨h4_⟩
   have JE : ah (Q_.heap[wS]? = some (.cells #[.slice zl vK.length zf, .slice yU u_.length zh, .slice zo vM.length zk] 28 (0, 0))) := ⟨h5_⟩
   have MX : ah (Q_.heap[uI]? = some (.cells #[.slice none 0 0, .slice none 0 0, .slice none 0 0] 28 (0, 0))) := ⟨h6_⟩
   have Ro : ah (Q_.heap[kM]? = some (.cells #[.slice JL sW.length JM, .slice Ac rP.length zM, .slice PO uO.length PS] 28 (0, 0))) := ⟨h7_⟩
   have VU : ah (aK w0 Q_ g eX XP) := ⟨h8_⟩
   have n9_ : ah (aJ w Q_ g none) := ⟨h9_⟩
   have PI : ah (Below w0.heap.size w0 Q_) := ⟨Uc⟩
   clear iw gW iF dV fM fO HI0 HK HB h0_ h1_ h2_ h3_ h4_ h5_ h6_ h7_ h8_ h9_ Uc
   have iw := yP
   have gW := yQ
   have iF := zA
   have pO := CS
   have vV := GY
   have dV := JE
   have fM := MX
   have fO := Ro
   have HI0 := VU
   have HK := n9_
   have HB := PI
   clear yP yQ zA CS GY JE MX Ro VU n9_ PI
   have hHeld : Q_.cell? ⟨kM, 0, none⟩ = some (.slice JL sW.length JM) ∧ Q_.cell? ⟨kM, 1, none⟩ = some (.slice Ac rP.length zM) ∧ Q_.cell? ⟨kM, 2, none⟩ = some (.slice PO uO.length PS) := hS_
   obtain ⟨abU, XT, ahy⟩ := Kd.aN vV.out
   (first | subst ahy | (injection ahy with qR wZ qU; have xg := qR.symm; have xk := qU.symm; clear qR wZ qU; subst xg; subst xk))
   refine qF (a' := ?_) ?_ ?_
   rotate_left
   ·
    simp only [yj, Act.put, qW, qX, l_c]
    rfl
   refine o1 7 (fun K hK => ?_)
   refine yR Tryz.func58 (by kernel_rfl) rfl #[.pointer (some ⟨g, 0, none⟩), .slice abU ahw.length XT] (by rfl) rfl rfl ma ?_
   with_reducible refine (fH.calls w0 ?fG ?jc ?ug ?CZ ?uh A36.out).mono ?_
   (case fG => exact oW)
   (case jc => exact oZ)
   (case ug => repeat (first | exact (Kd.au vV.out).2.2 | (with_reducible refine Kd.ql ?_ _) | (with_reducible refine Kd.qm ?_ _) | (with_reducible refine Kd.tJ ?_)))
   (case CZ => exact (Kd.au vV.out).2.1)
   (case uh => exact oq (aK.own_ne HI0.out vV.out (by decide)))
   rintro e w62 ⟨rfl, hi, hb, hk⟩
   refine ⟨_, rfl, ?_⟩
   replace dV := kc dV hk rQ
   replace fM := kc fM hk rU
   replace iw := ki (w0 := w0) (f0 := eX) (f1 := XP) iw hk
   replace gW := ki (w0 := w0) (f0 := eX) (f1 := XP) gW hk
   replace iF := ki (w0 := w0) (f0 := eX) (f1 := XP) iF hk
   replace fO := kc fO hk rV
   replace pO := ki (w0 := w0) (f0 := eX) (f1 := XP) pO hk
   replace vV := ki (w0 := w0) (f0 := eX) (f1 := XP) vV hk
   replace HK := kt HK hk
   replace HB := ak (hb)
   replace HI0 := ak (hi)
   try clear hb
   try clear hk
   try clear hi
   refine hK.out _ _ sx (fun hHeld => ?_)
   clear hK K
   refine nrm ?_
   refine pl 8 ?_
   refine o1 9 (fun K hK => ?_)
   refine Cj (w1 := ?_) (v := ?_) (by rfl) rfl ?_ ?_
   rotate_left 2
   ·
    go_simp
    constructor
    ·
     rfl
    ·
     rfl
   refine hK.out _ _ ⟨(aG (aX fO.out _) 0).trans rfl, (aG (aX fO.out _) 1).trans rfl, (aG (aX fO.out _) 2).trans rfl⟩ (fun hHeld => ?_)
   clear hK K
   refine nrm ?_
   refine o1 10 (fun K hK => ?_)
   refine Kd.nU qJ w.heap.size (by rfl) (.tmp 23) (.tmp 31) 25 69 (.agg #[(.string ⟨#[]⟩), (.string ⟨#[]⟩)]) 32 rfl Tryz.underlying25 Cc rfl (by decide) (by omega) (.slice JL sW.length JM) sW (⟨aeI, ahx⟩ : gY) [.string aeI, .string ahx] (fun _ => True) (fun _ => False) rfl rfl ?aP (fun _ hk => hk.elim) ?aF ?aO (Below.refl _ _) ?aS ?aL ?_
   (case aP => exact wC _ _ _ (⟨aeI, ahx⟩ : gY))
   (case aF => exact (fun _ _ => trivial))
   (case aO => exact (ur iw.out))
   (case aS => exact (dJ (w := w) (g := g) (row := none) (kh HK.out)))
   (case aL => have := aeJ.out; omega)
   intro aG9 w63 ho hb hg hat
   rw [← akC.out] at ho
   have yP := ak (aK.grown oW hg (aK.own_ne HI0.out iw.out (by decide)))
   have yQ := ak (dw (g := wS) (o := .cells #[.slice zl vK.length zf, .slice yU u_.length zh, .slice zo vM.length zk] 28 (0, 0)) (ub dV.out) hg (Kd.oQ iw.out dV.out (by decide)))
   have zA := ak (dw (g := uI) (o := .cells #[.slice none 0 0, .slice none 0 0, .slice none 0 0] 28 (0, 0)) (ub fM.out) hg (Kd.oQ iw.out fM.out (by decide)))
   have CS := ak (Kd.qo (ur gW.out) (Kd.kU (ur iw.out)) (by decide) hg)
   have GY := ak (Kd.zJ (ok := (fun k_ => some k_ ≠ (.slice Ac rP.length zM : Value).ownBlock ∧ some k_ ≠ (XQ : Value).ownBlock ∧ some k_ ≠ (.slice abU ahw.length XT : Value).ownBlock ∧ k_ ≠ wS ∧ k_ ≠ uI ∧ k_ ≠ kM)) (ur (Kd.aZ iF.out (fun _ hk => ⟨⟨hk.2.1, ⟨hk.2.2.1, ⟨hk.2.2.2.1, ⟨hk.2.2.2.2.1, ⟨hk.2.2.2.2.2.1, hk.2.2.2.2.2.2⟩⟩⟩⟩⟩, hk.1⟩))) hg hat)
   have JE := ak (dw (g := kM) (o := .cells #[.slice JL sW.length JM, .slice Ac rP.length zM, .slice PO uO.length PS] 28 (0, 0)) (ub fO.out) hg (Kd.oQ iw.out fO.out (by decide)))
   have MX := ak (Kd.qo (ur pO.out) (Kd.kU (ur iw.out)) (by decide) hg)
   have Ro := ak (Kd.qo (ur vV.out) (Kd.kU (ur iw.out)) (by decide) hg)
   have VU := ak (vJ oZ HL.out hb)
   have n9_ := ak (aJ.trans (kh HK.out) (aJ.yT hg g) (Kd.F9 iw.out))
   have PI := ak (ho)
   clear HI0 dV fM gW iF fO pO vV HB HK iw
   have HI0 := yP
   have dV := yQ
   have fM := zA
   have gW := CS
   have iF := GY
   have fO := JE
   have pO := MX
   have vV := Ro
   have HB := VU
   have HK := n9_
   have atl := PI
   clear yP yQ zA CS GY JE MX Ro VU n9_ PI ho hb hg hat
   obtain ⟨ay5, ay6, atm⟩ := Kd.aN atl.out
   (first | subst atm | (injection atm with qR wZ qU; have xg := qR.symm; have xk := qU.symm; clear qR wZ qU; subst xg; subst xk))
   refine hK.out _ _ sx (fun hHeld => ?_)
   clear hK K
   refine nrm ?_
   refine pl 11 ?_
   refine GX (i := 12) (N := none) #[true, true, true, true, true, true, true, true, true, true, true, true, true] rfl rfl (oL t_.out (by kernel_rfl)) (by decide) (fun K hK => ?_)
   have aG_ : w63.cell? ⟨kM, 0, none⟩ = some (.slice JL sW.length JM) := (aG fO.out 0).trans rfl
   have aCe := iq fO.out 0
   have awt := uy.out
   have awu := uD.out
   have awv := uz.out
   have aww := uF.out
   refine GZ (w1 := ?_) (by rfl) rfl ?_ ?_
   rotate_left
   ·
    go_simp
    rfl
   refine hK.out _ _ ?_
   clear hK K
   refine G5 (yH t_.out (by kernel_rfl)) ?_
   have z66 := jW fO.out
   have aCf := rU.out
   have aCg := DN.out
   have z68 := jW fM.out
   try go_wp2
   refine bodyPost_ret (results_cell_row rfl _ _ uI 28 #[.slice ay5 ay2.length ay6, .slice Ac rP.length zM, .slice PO uO.length PS] (0, 0) _ rfl bq Tryz.underlying28 rfl (by kernel_rfl)) rfl ?_
   exact ⟨_, _, _, er, rr, rr, rr, oW, oZ, kh HK.out⟩
  ·
   replace H := sq H
   rcases H with ⟨atn, ato, H⟩ | ⟨c69, atn, ato, H⟩
   ·
    replace H := bd H
    obtain ⟨⟨ahz, ahA, ahB, aHa⟩, A70, H⟩ := H
    (try dsimp only at H)
    replace H := nl H; obtain ⟨atp, H⟩ := H
    obtain ⟨ay7, akD⟩ := nm (uO ++ [(⟨ahz, ahA, ahB⟩ : nG)])
    rw [← akD.out] at H
    obtain ⟨rfl, rfl, rfl, rfl⟩ := s4 H
    go_enter Tryz.func68, Tryz.ntmps68
    try go_wp2_with (first | (refine bS HI0 HK HB HW0 3 #[.slice zl vK.length zf, .slice yU u_.length zh, .slice zo vM.length zk] 28 ?_; clear HI0 HK HB; intro wS w72 dV aeC aeD DL rQ hg hb HI0 HK HB; clear hb hg) | (refine bS HI0 HK HB HW0 4 #[.slice none 0 0, .slice none 0 0, .slice none 0 0] 28 ?_; clear HI0 HK HB; intro uI w73 fM aeE aeF DN rU hg hb HI0 HK HB; have yA := AZ dV hg; have yB := A_ dV hg; replace dV := kb dV hb; clear hb hg; have aCh := yA.out; have aCi := yB.out; have aCj := rQ.out; have aCk := DL.out; have z76 := jW dV.out) | (refine gL 110 7 Tryz.func110 #[.agg #[.slice zl vK.length zf, .slice yU u_.length zh, .slice zo vM.length zk]] ?_; (with_reducible refine (dI.calls k _ _ vK _ _ u_ _ _ vM sW rP uO _ (Kd.vk aaF.out (kh HK.out)) aaG.out (by with_unfolding_all exact Kd.Ul (⟨#[]⟩ : ByteArray) aaH.out (kh HK.out) aaE) aaI.out (Kd.vk aaJ.out (kh HK.out)) aaK.out A3.out).mono ?_); rintro e w77 ⟨ani, anj, ank, rfl, ho0, ho1, ho2, hb⟩; refine ⟨_, rfl, ?_⟩; have iw := ak (Kd.aA ho0 (dJ (w := w) (g := g) (row := none) (kh HK.out))); have gW := ak (Kd.aA ho1 (dJ (w := w) (g := g) (row := none) (kh HK.out))); have iF := ak (Kd.aA (Kd.nP (Kd.nP ho2 (g := wS) (o := .cells #[.slice zl vK.length zf, .slice yU u_.length zh, .slice zo vM.length zk] 28 (0, 0)) (ub dV.out)) (g := uI) (o := .cells #[.slice none 0 0, .slice none 0 0, .slice none 0 0] 28 (0, 0)) (ub fM.out)) (dJ (w := w) (g := g) (row := none) (kh HK.out))); replace dV := kb dV hb; replace fM := kb fM hb; replace HK := ak (aJ.trans (kh HK.out) (aJ.of_below hb g none) (.inl rfl)); replace HB := ak (iE oZ hb); replace HI0 := ak (aK.below oW hb); clear hb; (try clear ho0); (try clear ho1); (try clear ho2)) | (refine bS HI0 HK HB HW0 5 #[.slice none 0 0, .slice none 0 0, .slice none 0 0] 28 ?_; clear HI0 HK HB; intro kM w78 fO aeG aeH DR rV hg hb HI0 HK HB; have uy := AZ dV hg; have uz := A_ dV hg; have uD := AZ fM hg; have uF := A_ fM hg; replace iw := rb iw hb; replace gW := rb gW hb; replace iF := ak (Kd.nO (Kd.uf (ur iF.out) kM (Nat.le_of_eq hg.symm)) hb); replace dV := kb dV hb; replace fM := kb fM hb; clear hb hg; obtain ⟨Un, Uo, ay8⟩ := Kd.aN iw.out; subst ay8; have aCl := uz.out; have aCm := uy.out; have asy := uF.out; have asz := uD.out; have aCn := rV.out; have aCo := DR.out; have z83 := jW fO.out; obtain ⟨Ur, Us, ay9⟩ := Kd.aN gW.out; subst ay9; obtain ⟨Ut, Uu, ay_⟩ := Kd.aN iF.out; subst ay_) | (refine gL 57 9 Tryz.func57 #[.pointer (some ⟨g, 0, none⟩), .int .i64 20] ?_; (with_reducible refine (cZ.calls w0 ?fG ?jc A4.out).mono ?_); (case fG => exact oW); (case jc => exact oZ); rintro e w86 ⟨rfl, hi, hb, hk⟩; refine ⟨_, rfl, ?_⟩; replace dV := kd_ dV #[.slice zl vK.length zf, .slice yU u_.length zh, .slice zo vM.length zk] hk rQ; replace fM := kd_ fM #[.slice none 0 0, .slice none 0 0, .slice none 0 0] hk rU; replace iw := ki (w0 := w0) (f0 := eX) (f1 := kK) iw hk; replace gW := ki (w0 := w0) (f0 := eX) (f1 := kK) gW hk; replace iF := ak (Kd.aZ (Kd.H9 (aK.apart (show aK w0 _ g eX kK from oW) (ur (Kd.aZ (Kd.iW (p := ⟨kM, 2, none⟩) (Kd.iW (p := ⟨kM, 1, none⟩) (Kd.iW (p := ⟨kM, 0, none⟩) (Kd.aZ iF.out (fun k_ hk => (⟨hk, hk.2⟩ : _ ∧ k_ ≠ kM))) (fun _ hk => hk.2) (.slice Un sW.length Uo)) (fun _ hk => hk.2) (.slice Ur rP.length Us)) (fun _ hk => hk.2) (.slice Ut uO.length Uu)) (fun _ h_ => h_.1))) (by decide)) hk (fun _ h => h.2)) (fun _ h => h.1)); replace fO := kd_ fO #[.slice Un sW.length Uo, .slice Ur rP.length Us, .slice Ut uO.length Uu] hk rV; replace HK := kt HK hk; replace HB := ak (hb); replace HI0 := ak (hi); clear hb; (try clear hk); (try clear hi)))
    replace iw := ak (Kd.mD iw.out)
    replace gW := ak (Kd.mD gW.out)
    replace iF := ak (Kd.mD iF.out)
    replace dV := ak (bn dV.out)
    replace fM := ak (bn fM.out)
    replace fO := ak (bn fO.out)
    replace HI0 := ak (aK.drew HI0.out)
    replace HK := ak (yt HK.out)
    replace HB := ak (iH HB.out)
    refine Ci (n := 8) (S := fun w' => w'.cell? ⟨kM, 0, none⟩ = some (.slice Un sW.length Uo) ∧ w'.cell? ⟨kM, 1, none⟩ = some (.slice Ur rP.length Us) ∧ w'.cell? ⟨kM, 2, none⟩ = some (.slice Ut uO.length Uu)) (ds := [7]) #[false, false, false, false, false, false, false, false] (by kernel_rfl) rfl rfl ⟨(aG fO.out 0).trans rfl, (aG fO.out 1).trans rfl, (aG fO.out 2).trans rfl⟩ (fun hHeld => ?_); refine uq dO.abC dO.Rj (fun t_ Xp => ?_)
    generalize w86.drew = w87 at iw gW iF dV fM fO HI0 HK HB hHeld ⊢
    refine pl 0 ?_
    refine pl 2 ?_
    refine tk 1 ?_
    refine o1 3 (fun K hK => ?_)
    refine yR Tryz.func98 (by kernel_rfl) rfl #[.pointer (some ⟨g, 0, none⟩)] (by rfl) rfl rfl ma ?_
    with_reducible refine (iC.calls w0 ?fG ?jc A70.out).mono ?_
    (case fG => exact oW)
    (case jc => exact oZ)
    rintro e w88 ⟨aHb, aHc, aHd, rfl, ho0, ho1, ho2, hi, hb, hk⟩
    refine ⟨_, rfl, ?_⟩
    have aeK := ak (Kd.aA (Kd.gU ho0 (Kd.kX (ur iw.out))) (dJ (w := w) (g := g) (row := none) (kh HK.out)))
    have aeL := ak (Kd.aA (Kd.gU ho1 (Kd.kX (ur gW.out))) (dJ (w := w) (g := g) (row := none) (kh HK.out)))
    have aeM := ak (Kd.aA (Kd.nP (Kd.nP (Kd.nP (Kd.gU (Kd.gU (Kd.gU ho2 (Kd.kX (ur iw.out))) (Kd.kX (ur gW.out))) (Kd.kX (ur iF.out))) (g := wS) (o := .cells #[.slice zl vK.length zf, .slice yU u_.length zh, .slice zo vM.length zk] 28 (0, 0)) (ub dV.out)) (g := uI) (o := .cells #[.slice none 0 0, .slice none 0 0, .slice none 0 0] 28 (0, 0)) (ub fM.out)) (g := kM) (o := .cells #[.slice Un sW.length Uo, .slice Ur rP.length Us, .slice Ut uO.length Uu] 28 (0, 0)) (ub fO.out)) (dJ (w := w) (g := g) (row := none) (kh HK.out)))
    replace dV := kc dV hk rQ
    replace fM := kc fM hk rU
    replace iw := kj iw hk ho0
    replace gW := kj gW hk ho1
    replace iF := ak (Kd.aZ (Kd.tK (Kd.tK (Kd.tK (Kd.TY (aK.apart (show aK w0 _ g eX DK from oW) (ur iF.out) (by decide)) hk) (Kd.fQ ho0)) (Kd.fQ ho1)) (Kd.fQ ho2)) (fun _ h_ => h_.1))
    replace fO := kc fO hk rV
    replace HK := kt HK hk
    replace HB := ak (hb)
    replace HI0 := ak (hi)
    try clear hb
    try clear hk
    try clear hi
    try clear ho0
    try clear ho1
    try clear ho2
    obtain ⟨aza, azb, atq⟩ := Kd.aN aeK.out
    (first | subst atq | (injection atq with qR wZ qU; have xg := qR.symm; have xk := qU.symm; clear qR wZ qU; subst xg; subst xk))
    obtain ⟨azc, azd, atr⟩ := Kd.aN aeL.out
    (first | subst atr | (injection atr with qR wZ qU; have xg := qR.symm; have xk := qU.symm; clear qR wZ qU; subst xg; subst xk))
    obtain ⟨aze, azf, att⟩ := Kd.aN aeM.out
    (first | subst att | (injection att with qR wZ qU; have xg := qR.symm; have xk := qU.symm; clear qR wZ qU; subst xg; subst xk))
    refine hK.out _ _ sx (fun hHeld => ?_)
    clear hK K
    refine nrm ?_
    refine o1 4 (fun K hK => ?_)
    refine Cj (w1 := ?_) (v := ?_) (by rfl) rfl ?_ ?_
    rotate_left 2
    ·
     go_simp
     constructor
     ·
      rfl
     ·
      rfl
    refine hK.out _ _ ⟨(aG (aX fO.out _) 0).trans rfl, (aG (aX fO.out _) 1).trans rfl, (aG (aX fO.out _) 2).trans rfl⟩ (fun hHeld => ?_)
    clear hK K
    refine nrm ?_
    refine o1 5 (fun K hK => ?_)
    refine Kd.nU k28 w.heap.size (by rfl) (.tmp 37) (.tmp 40) 26 28 (.agg #[(.slice none 0 0), (.slice none 0 0), (.slice none 0 0)]) 72 rfl Tryz.underlying26 SK rfl (by decide) (by omega) (.slice Ut uO.length Uu) uO (⟨ahz, ahA, ahB⟩ : nG) [.slice aza ahz.length azb, .slice azc ahA.length azd, .slice aze ahB.length azf] (fun k_ => some k_ ≠ (.slice Un sW.length Uo : Value).ownBlock ∧ some k_ ≠ (.slice Ur rP.length Us : Value).ownBlock ∧ k_ ≠ wS ∧ k_ ≠ uI ∧ k_ ≠ kM) (fun k_ => ((fun k_ => some k_ ≠ (.slice Un sW.length Uo : Value).ownBlock ∧ some k_ ≠ (.slice Ur rP.length Us : Value).ownBlock ∧ k_ ≠ wS ∧ k_ ≠ uI ∧ k_ ≠ kM)) k_ ∧ some k_ ≠ (.slice Ut uO.length Uu : Value).ownBlock) rfl rfl ?aP (fun _ hk => hk) ?aF ?aO (Below.refl _ _) ?aS ?aL ?_
    (case aP => exact Oe _ _ _ (⟨ahz, ahA, ahB⟩ : nG) (Kd.aZ (Kd.mJ (Kd.mJ (Kd.mJ (Kd.o7 (Kd.o7 (aeK.out) (Kd.kU gW.out) (by decide)) (Kd.kU iF.out) (by decide)) dV.out (by decide)) fM.out (by decide)) fO.out (by decide)) (fun k_ hk => ⟨⟨hk.1.1.1.1.1.2, ⟨hk.1.1.1.1.2, ⟨hk.1.1.2, ⟨hk.1.2, hk.2⟩⟩⟩⟩, hk.1.1.1.2⟩)) (Kd.aZ (Kd.mJ (Kd.mJ (Kd.mJ (Kd.o7 (Kd.o7 (aeL.out) (Kd.kU iw.out) (by decide)) (Kd.kU iF.out) (by decide)) dV.out (by decide)) fM.out (by decide)) fO.out (by decide)) (fun k_ hk => ⟨⟨hk.1.1.1.1.2, ⟨hk.1.1.1.1.1.2, ⟨hk.1.1.2, ⟨hk.1.2, hk.2⟩⟩⟩⟩, hk.1.1.1.2⟩)) (Kd.aZ (aeM.out) (fun k_ hk => ⟨⟨hk.1.1.1.1.1.2, ⟨hk.1.1.1.1.2, ⟨hk.1.1.2, ⟨hk.1.2, hk.2⟩⟩⟩⟩, hk.1.1.1.2⟩)))
    (case aF => exact (fun k_ hk => ⟨Kd.fresh' (Kd.kX (ur iw.out)) k_ hk, Kd.fresh' (Kd.kX (ur gW.out)) k_ hk, Kd.yg (g := wS) (o := .cells #[.slice zl vK.length zf, .slice yU u_.length zh, .slice zo vM.length zk] 28 (0, 0)) (ub dV.out) k_ hk, Kd.yg (g := uI) (o := .cells #[.slice none 0 0, .slice none 0 0, .slice none 0 0] 28 (0, 0)) (ub fM.out) k_ hk, Kd.yg (g := kM) (o := .cells #[.slice Un sW.length Uo, .slice Ur rP.length Us, .slice Ut uO.length Uu] 28 (0, 0)) (ub fO.out) k_ hk⟩))
    (case aO => exact (ur (Kd.aZ iF.out (fun _ hk => ⟨hk.1.1.1.1.1.1.1, ⟨hk.1.1.1.1.1.1.2, ⟨hk.1.1.1.1.1.2, ⟨hk.1.1.1.1.2, hk.1.1.1.2⟩⟩⟩⟩))))
    (case aS => exact (dJ (w := w) (g := g) (row := none) (kh HK.out)))
    (case aL => have := atp.out; omega)
    intro aHe w89 ho hb hg hat
    rw [← akD.out] at ho
    have yP := ak (aK.grown oW hg (aK.own_ne HI0.out iF.out (by decide)))
    have yQ := ak (dw (g := wS) (o := .cells #[.slice zl vK.length zf, .slice yU u_.length zh, .slice zo vM.length zk] 28 (0, 0)) (ub dV.out) hg (Kd.y7 iF.out (fun _ hk => hk.1.1.1.1.1.2)))
    have zA := ak (dw (g := uI) (o := .cells #[.slice none 0 0, .slice none 0 0, .slice none 0 0] 28 (0, 0)) (ub fM.out) hg (Kd.y7 iF.out (fun _ hk => hk.1.1.1.1.2)))
    have CS := ak (Kd.qo (ur iw.out) (Kd.kU (ur iF.out)) (by decide) hg)
    have GY := ak (Kd.qo (ur gW.out) (Kd.kU (ur iF.out)) (by decide) hg)
    have JE := ak (dw (g := kM) (o := .cells #[.slice Un sW.length Uo, .slice Ur rP.length Us, .slice Ut uO.length Uu] 28 (0, 0)) (ub fO.out) hg (Kd.y7 iF.out (fun _ hk => hk.1.1.1.2)))
    have MX := ak (vJ oZ HL.out hb)
    have Ro := ak (aJ.trans (kh HK.out) (aJ.yT hg g) (Kd.F9 iF.out))
    have VU := ak (ho)
    clear HI0 dV fM iw gW fO HB HK iF aeK aeL aeM
    have HI0 := yP
    have dV := yQ
    have fM := zA
    have iw := CS
    have gW := GY
    have fO := JE
    have HB := MX
    have HK := Ro
    have atu := VU
    clear yP yQ zA CS GY JE MX Ro VU ho hb hg hat
    obtain ⟨azg, azh, atv⟩ := Kd.aN atu.out
    (first | subst atv | (injection atv with qR wZ qU; have xg := qR.symm; have xk := qU.symm; clear qR wZ qU; subst xg; subst xk))
    refine hK.out _ _ sx (fun hHeld => ?_)
    clear hK K
    refine nrm ?_
    refine pl 6 ?_
    refine GX (i := 7) (N := none) #[true, true, true, true, true, true, true, true] rfl rfl (oL t_.out (by kernel_rfl)) (by decide) (fun K hK => ?_)
    have aHf : w89.cell? ⟨kM, 2, none⟩ = some (.slice Ut uO.length Uu) := (aG fO.out 2).trans rfl
    have aCp := iq fO.out 2
    have awx := uy.out
    have awy := uD.out
    have awz := uz.out
    have awC := uF.out
    refine GZ (w1 := ?_) (by rfl) rfl ?_ ?_
    rotate_left
    ·
     go_simp
     rfl
    refine hK.out _ _ ?_
    clear hK K
    refine G5 (yH t_.out (by kernel_rfl)) ?_
    have z95 := jW fO.out
    have aCq := rU.out
    have aCr := DN.out
    have z97 := jW fM.out
    try go_wp2
    refine bodyPost_ret (results_cell_row rfl _ _ uI 28 #[.slice Un sW.length Uo, .slice Ur rP.length Us, .slice azg ay7.length azh] (0, 0) _ rfl bq Tryz.underlying28 rfl (by kernel_rfl)) rfl ?_
    exact ⟨_, _, _, er, rr, rr, rr, oW, oZ, kh HK.out⟩
   ·
    obtain ⟨rfl, rfl, rfl, rfl⟩ := s4 H
    go_enter Tryz.func68, Tryz.ntmps68
    go_wp2_with (first | (refine bS HI0 HK HB HW0 3 #[.slice zl vK.length zf, .slice yU u_.length zh, .slice zo vM.length zk] 28 ?_; clear HI0 HK HB; intro wS w98 dV aeC aeD DL rQ hg hb HI0 HK HB; clear hb hg) | (refine bS HI0 HK HB HW0 4 #[.slice none 0 0, .slice none 0 0, .slice none 0 0] 28 ?_; clear HI0 HK HB; intro uI w99 fM aeE aeF DN rU hg hb HI0 HK HB; have yA := AZ dV hg; have yB := A_ dV hg; replace dV := kb dV hb; clear hb hg; have azi := yA.out; have azj := yB.out; have azk := rQ.out; have azl := DL.out; have aHg := jW dV.out) | (refine gL 110 7 Tryz.func110 #[.agg #[.slice zl vK.length zf, .slice yU u_.length zh, .slice zo vM.length zk]] ?_; (with_reducible refine (dI.calls k _ _ vK _ _ u_ _ _ vM sW rP uO _ (Kd.vk aaF.out (kh HK.out)) aaG.out (by with_unfolding_all exact Kd.Ul (⟨#[]⟩ : ByteArray) aaH.out (kh HK.out) aaE) aaI.out (Kd.vk aaJ.out (kh HK.out)) aaK.out A3.out).mono ?_); rintro e aHh ⟨ani, anj, ank, rfl, ho0, ho1, ho2, hb⟩; refine ⟨_, rfl, ?_⟩; have iw := ak (Kd.aA ho0 (dJ (w := w) (g := g) (row := none) (kh HK.out))); have gW := ak (Kd.aA ho1 (dJ (w := w) (g := g) (row := none) (kh HK.out))); have iF := ak (Kd.aA (Kd.nP (Kd.nP ho2 (g := wS) (o := .cells #[.slice zl vK.length zf, .slice yU u_.length zh, .slice zo vM.length zk] 28 (0, 0)) (ub dV.out)) (g := uI) (o := .cells #[.slice none 0 0, .slice none 0 0, .slice none 0 0] 28 (0, 0)) (ub fM.out)) (dJ (w := w) (g := g) (row := none) (kh HK.out))); replace dV := kb dV hb; replace fM := kb fM hb; replace HK := ak (aJ.trans (kh HK.out) (aJ.of_below hb g none) (.inl rfl)); replace HB := ak (iE oZ hb); replace HI0 := ak (aK.below oW hb); clear hb; (try clear ho0); (try clear ho1); (try clear ho2)) | (refine bS HI0 HK HB HW0 5 #[.slice none 0 0, .slice none 0 0, .slice none 0 0] 28 ?_; clear HI0 HK HB; intro kM aHi fO aeG aeH DR rV hg hb HI0 HK HB; have uy := AZ dV hg; have uz := A_ dV hg; have uD := AZ fM hg; have uF := A_ fM hg; replace iw := rb iw hb; replace gW := rb gW hb; replace iF := ak (Kd.nO (Kd.uf (ur iF.out) kM (Nat.le_of_eq hg.symm)) hb); replace dV := kb dV hb; replace fM := kb fM hb; clear hb hg; obtain ⟨aeN, aeO, atw⟩ := Kd.aN iw.out; subst atw; have azm := uz.out; have azn := uy.out; have azo := uF.out; have azp := uD.out; have azq := rV.out; have azr := DR.out; have z109 := jW fO.out; obtain ⟨aeP, aeQ, atx⟩ := Kd.aN gW.out; subst atx; obtain ⟨aeR, aeS, aty⟩ := Kd.aN iF.out; subst aty) | (refine gL 57 9 Tryz.func57 #[.pointer (some ⟨g, 0, none⟩), .int .i64 20] ?_; (with_reducible refine (cZ.calls w0 ?fG ?jc A4.out).mono ?_); (case fG => exact oW); (case jc => exact oZ); rintro e aHj ⟨rfl, hi, hb, hk⟩; refine ⟨_, rfl, ?_⟩; replace dV := kd_ dV #[.slice zl vK.length zf, .slice yU u_.length zh, .slice zo vM.length zk] hk rQ; replace fM := kd_ fM #[.slice none 0 0, .slice none 0 0, .slice none 0 0] hk rU; replace iw := ki (w0 := w0) (f0 := eX) (f1 := kK) iw hk; replace gW := ki (w0 := w0) (f0 := eX) (f1 := kK) gW hk; replace iF := ak (Kd.aZ (Kd.H9 (aK.apart (show aK w0 _ g eX kK from oW) (ur (Kd.aZ (Kd.iW (p := ⟨kM, 2, none⟩) (Kd.iW (p := ⟨kM, 1, none⟩) (Kd.iW (p := ⟨kM, 0, none⟩) (Kd.aZ iF.out (fun k_ hk => (⟨hk, hk.2⟩ : _ ∧ k_ ≠ kM))) (fun _ hk => hk.2) (.slice aeN sW.length aeO)) (fun _ hk => hk.2) (.slice aeP rP.length aeQ)) (fun _ hk => hk.2) (.slice aeR uO.length aeS)) (fun _ h_ => h_.1))) (by decide)) hk (fun _ h => h.2)) (fun _ h => h.1)); replace fO := kd_ fO #[.slice aeN sW.length aeO, .slice aeP rP.length aeQ, .slice aeR uO.length aeS] hk rV; replace HK := kt HK hk; replace HB := ak (hb); replace HI0 := ak (hi); clear hb; (try clear hk); (try clear hi); have aHk := jW fO.out; have azs := rU.out; have azt := DN.out; have aHl := jW fM.out))
    refine bodyPost_ret (results_cell_row rfl _ _ uI 28 #[.slice aeN sW.length aeO, .slice aeP rP.length aeQ, .slice aeR uO.length aeS] (0, 0) _ rfl bq Tryz.underlying28 rfl (by kernel_rfl)) rfl ?_
    exact ⟨_, _, _, er, rr, rr, rr, oW, oZ, kh HK.out⟩
end Go.Proofs.YtncdadcmghglkaaGreatDoor.PFnCountParts
