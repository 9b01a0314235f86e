/- Printed walks; conditions: those in each statement. -/
import Derived.Test.YtncdadcmghglkaaGreatDoorVFnPartValidQt
import Derived.Test.YtncdadcmghglkaaGreatDoorVFnPartValidYt
import Derived.Test.YtncdadcmghglkaaGreatDoorPFnPartValidx0
import Derived.Test.YtncdadcmghglkaaGreatDoorPFnPartValidx27
import Derived.Test.YtncdadcmghglkaaGreatDoorPFnPartValidx20
-- short
-- dense
-- sq
-- sq2
namespace Go.Proofs.YtncdadcmghglkaaGreatDoor.PFnPartValid
open Go.RowKit Go.Proofs.YtncdadcmghglkaaGreatDoor.X Go.Proofs.YtncdadcmghglkaaGreatDoorW.bK Go.Proofs.YtncdadcmghglkaaGreatDoorW.gY Go.Proofs.YtncdadcmghglkaaGreatDoorW.iU
attribute [local go_sem] lu lC ng ni jO jP lD lF   -- for this text's walks alone
set_option linter.unusedVariables false
set_option maxHeartbeats 8000000
set_option maxRecDepth 100000
set_option linter.unusedSimpArgs false
def dP.f (k : Nat) (fO : List Int) (kZ : Int) (pz : List (gK)) (oV : List ByteArray) (oM : List (mV)) : Option ((List (gK)) × List ByteArray × (List (mV)) × Int) := (dU.f k pz oV oM).bind fun BN => ((dF.f k fO kZ 20).bind fun Rk => (if Rk.1 = 0 then ((fV.f k fO Rk.2 (([(⟨#[10]⟩ : ByteArray), (⟨#[120]⟩ : ByteArray)] : List ByteArray))).bind fun alU => (if BN.2.1.length < 8796093022208 then (some (BN.1, (BN.2.1 ++ [alU.1]), BN.2.2, alU.2)) else (none))) else (if Rk.1 = 1 then ((fV.f k fO Rk.2 (([(⟨#[97, 32, 98]⟩ : ByteArray), (⟨#[79, 107]⟩ : ByteArray)] : List ByteArray))).bind fun alV => ((fV.f k fO alV.2 (([(⟨#[32, 120]⟩ : ByteArray), (⟨#[120]⟩ : ByteArray)] : List ByteArray))).bind fun alW => (if BN.1.length < 4398046511104 then (some ((BN.1 ++ [(⟨alV.1, alW.1⟩ : gK)]), BN.2.1, BN.2.2, alW.2)) else (none)))) else (if Rk.1 = 2 then ((iJ.f k fO Rk.2).bind fun acn => (if BN.2.2.length < 1954687338268 then (some (BN.1, BN.2.1, (BN.2.2 ++ [(⟨acn.1, acn.2.1, acn.2.2.1⟩ : mV)]), acn.2.2.2)) else (none))) else (some (BN.1, BN.2.1, BN.2.2, Rk.2))))))
def dP.T4 : Bool × List (List Nat × List Nat) := (true, [([], []), ([0], [0]), ([], []), ([], []), ([2, 3], [2, 3]), ([4], [4]), ([1, 5, 4], [1, 5]), ([0, 1, 2, 3, 4, 5, 6], []), ([7, 6, 6, 0, 1, 2, 3, 4, 5, 6], [6, 7])])
def dP.B4 : List Nat := [0, 1, 0, 0, 12, 28, 63, 127, 255]
theorem dP.aAA : uG .any (opsOf Tryz.f68 4) = dP.T4 := by kernel_rfl
theorem dP.avb : oH dP.T4.2 dP.B4 = true := by kernel_rfl
def dP.T6 : Bool × List (List Nat × List Nat) := (true, [([], []), ([0], [0]), ([], []), ([], []), ([2, 3], [2, 3]), ([], []), ([], []), ([5, 6, 4], [5, 6]), ([4, 7], [4, 7]), ([8], [8]), ([1, 9, 7], [1, 9]), ([0, 1, 2, 3, 4, 5, 6, 7, 8, 9, 10], []), ([11, 10, 10, 0, 1, 2, 3, 4, 5, 6, 7, 8, 9, 10], [10, 11])])
def dP.B6 : List Nat := [0, 1, 0, 0, 12, 0, 0, 124, 252, 508, 1023, 2047, 4095]
theorem dP.tab6 : uG .any (opsOf Tryz.f68 6) = dP.T6 := by kernel_rfl
theorem dP.alX : oH dP.T6.2 dP.B6 = true := by kernel_rfl
def dP.T8 : Bool × List (List Nat × List Nat) := (true, [([], []), ([0], [0]), ([], []), ([2], [2]), ([3], [3]), ([1, 4, 3], [1, 4]), ([0, 1, 2, 3, 4, 5], []), ([6, 5, 5, 0, 1, 2, 3, 4, 5], [5, 6])])
def dP.B8 : List Nat := [0, 1, 0, 4, 12, 31, 63, 127]
theorem dP.ada : uG .any (opsOf Tryz.f68 8) = dP.T8 := by kernel_rfl
theorem dP.TT : oH dP.T8.2 dP.B8 = true := by kernel_rfl
theorem dP.calls {k g vN vO vP : Nat} {fO : List Int} {kZ r4 : Int} {vS vC vT : Option Addr} {pz r1 : List (gK)} {oV r2 : List ByteArray} {oM r3 : List (mV)} {w : World} (w0 : World) (hI : aI w0 w g fO kZ) (hB : Below w0.heap.size w0 w) (La : ∀ W_, aJ w W_ g none → Kd.C pU W_ vS pz.length pz) (Lc : pz.length ≤ vN) (Ld : Kd.C Kd.string w vC oV.length oV) (Le : oV.length ≤ vO) (aco : ∀ ad, vC = some ad → 0 < oV.length → ad.block ≠ g) (Lh : ∀ W_, aJ w W_ g none → Kd.C k28 W_ vT oM.length oM) (Lj : oM.length ≤ vP) (h : dP.f k fO kZ pz oV oM = some (r1, r2, r3, r4)) :
  Calls Tryz.prog 68 #[.pointer (some ⟨g, 0, none⟩), .agg #[.slice vS pz.length vN, .slice vC oV.length vO, .slice vT oM.length vP]] w fun e w' => ∃ rY F7 Iw : Value, e = .returned (.agg #[rY, F7, Iw]) ∧ Kd.R pU 69 w' w.heap.size (fun _ => True) rY r1 ∧ Kd.R Kd.string 9 w' w.heap.size (fun _ => True) F7 r2 ∧ Kd.R k28 28 w' w.heap.size (fun k_ => some k_ ≠ (rY : Value).ownBlock ∧ some k_ ≠ (F7 : Value).ownBlock) Iw r3 ∧ aI w0 w' g fO r4 ∧ Below w0.heap.size w0 w' ∧ aJ w w' g none := by
 have Et := Tryz.underlying28
 have DK := Tryz.underlying69
 have O5 := ak La
 have O6 := ak Lc
 clear La Lc
 have Rl := ak Ld
 have Rn := ak Le
 clear Ld Le
 have Uh := ak Lh
 have Ui := ak Lj
 clear Lh Lj
 have HI0 := ak hI
 have HK := ak (aJ.refl w g none)
 have HL := ak hB.size
 clear hI
 have HW0 := ak hB.size
 have HB := ak hB
 clear hB
 unfold dP.f at h; have H := h
 clear h
 replace H := bd H
 obtain ⟨⟨uP, tZ, wz⟩, A3, H⟩ := H
 (try dsimp only at H)
 replace H := bd H
 obtain ⟨⟨aIz, EL⟩, A4, H⟩ := H
 (try dsimp only at H)
 replace H := sq H
 rcases H with ⟨nR, Kv, H⟩ | ⟨c5, nR, Kv, H⟩
 ·
  obtain ⟨aoH, af0⟩ := nm ([(⟨#[10]⟩ : ByteArray), (⟨#[120]⟩ : ByteArray)] : List ByteArray)
  rw [← af0.out] at H
  replace H := bd H
  obtain ⟨⟨aoI, aIA⟩, A6, H⟩ := H
  (try dsimp only at H)
  replace H := nl H; obtain ⟨aoJ, H⟩ := H
  obtain ⟨aAB, alY⟩ := nm (tZ ++ [aoI])
  rw [← alY.out] at H
  obtain ⟨rfl, rfl, rfl, rfl⟩ := s4 H
  go_enter Tryz.func68, Tryz.ntmps68
  try go_wp2_with (first | (refine bS HI0 HK HB HW0 3 #[.slice vS pz.length vN, .slice vC oV.length vO, .slice vT oM.length vP] 28 ?_; clear HI0 HK HB; intro yJ w8 eG af2 af4 EM t_ hg hb HI0 HK HB; clear hb hg) | (refine bS HI0 HK HB HW0 4 #[.slice none 0 0, .slice none 0 0, .slice none 0 0] 28 ?_; clear HI0 HK HB; intro vW w9 gq af5 af6 EN uf hg hb HI0 HK HB; have zM := Au eG hg; have zN := Aw eG hg; replace eG := kb eG hb; clear hb hg; have avc := zM.out; have avd := zN.out; have ap0 := t_.out; have ap1 := EM.out; have z12 := ku eG.out) | (refine gL 110 7 Tryz.func110 #[.agg #[.slice vS pz.length vN, .slice vC oV.length vO, .slice vT oM.length vP]] ?_; (with_reducible refine (dU.calls k _ _ pz _ _ oV _ _ oM uP tZ wz _ (Kd.wM O5.out (kh HK.out)) O6.out (by with_unfolding_all exact Kd.VX (⟨#[]⟩ : ByteArray) Rl.out (kh HK.out) aco) Rn.out (Kd.wM Uh.out (kh HK.out)) Ui.out A3.out).mono ?_); rintro e w13 ⟨aoK, aoL, aoM, rfl, ho0, ho1, ho2, hb⟩; refine ⟨_, rfl, ?_⟩; have iH := ak (Kd.aG ho0 (dR (w := w) (g := g) (row := none) (kh HK.out))); have iD := ak (Kd.aG ho1 (dR (w := w) (g := g) (row := none) (kh HK.out))); have iM := ak (Kd.aG (Kd.oI (Kd.oI ho2 (g := yJ) (o := .cells #[.slice vS pz.length vN, .slice vC oV.length vO, .slice vT oM.length vP] 28 (0, 0)) (ub eG.out)) (g := vW) (o := .cells #[.slice none 0 0, .slice none 0 0, .slice none 0 0] 28 (0, 0)) (ub gq.out)) (dR (w := w) (g := g) (row := none) (kh HK.out))); replace eG := kb eG hb; replace gq := kb gq hb; replace HK := ak (aJ.trans (kh HK.out) (aJ.of_below hb g none) (.inl rfl)); replace HB := ak (iL pY hb); replace HI0 := ak (aI.below pX hb); clear hb; (try clear ho0); (try clear ho1); (try clear ho2)) | (refine bS HI0 HK HB HW0 5 #[.slice none 0 0, .slice none 0 0, .slice none 0 0] 28 ?_; clear HI0 HK HB; intro lq Tc gu af7 af8 EO ug hg hb HI0 HK HB; have vH := Au eG hg; have vI := Aw eG hg; have vJ := Au gq hg; have vK := Aw gq hg; replace iH := rb iH hb; replace iD := rb iD hb; replace iM := ak (Kd.rD (Kd.wB (ur iM.out) lq (Nat.le_of_eq hg.symm)) hb); replace eG := kb eG hb; replace gq := kb gq hb; clear hb hg; obtain ⟨Nr, Ns, U6⟩ := Kd.aX iH.out; subst U6; have ave := vI.out; have avf := vH.out; have alx := vK.out; have aly := vJ.out; have alz := ug.out; have alA := EO.out; have z19 := ku gu.out; obtain ⟨NU, NV, VJ⟩ := Kd.aX iD.out; subst VJ; obtain ⟨JH, JI, U3⟩ := Kd.aX iM.out; subst U3) | (refine gL 57 9 Tryz.func57 #[.pointer (some ⟨g, 0, none⟩), .int .i64 20] ?_; (with_reducible refine (dF.calls w0 ?gJ ?jf A4.out).mono ?_); (case gJ => exact pX); (case jf => exact pY); rintro e Y8 ⟨rfl, hi, hb, hk⟩; refine ⟨_, rfl, ?_⟩; replace eG := kd_ eG #[.slice vS pz.length vN, .slice vC oV.length vO, .slice vT oM.length vP] hk t_; replace gq := kd_ gq #[.slice none 0 0, .slice none 0 0, .slice none 0 0] hk uf; replace iH := ki (w0 := w0) (f0 := fO) (f1 := kZ) iH hk; replace iD := ki (w0 := w0) (f0 := fO) (f1 := kZ) iD hk; replace iM := ak (Kd.aY (Kd.Jf (aI.apart (show aI w0 _ g fO kZ from pX) (ur (Kd.aY (Kd.jy (p := ⟨lq, 2, none⟩) (Kd.jy (p := ⟨lq, 1, none⟩) (Kd.jy (p := ⟨lq, 0, none⟩) (Kd.aY iM.out (fun k_ hk => (⟨hk, hk.2⟩ : _ ∧ k_ ≠ lq))) (fun _ hk => hk.2) (.slice Nr uP.length Ns)) (fun _ hk => hk.2) (.slice NU tZ.length NV)) (fun _ hk => hk.2) (.slice JH wz.length JI)) (fun _ h_ => h_.1))) (by decide)) hk (fun _ h => h.2)) (fun _ h => h.1)); replace gu := kd_ gu #[.slice Nr uP.length Ns, .slice NU tZ.length NV, .slice JH wz.length JI] hk ug; replace HK := kt HK hk; replace HB := ak (hb); replace HI0 := ak (hi); clear hb; (try clear hk); (try clear hi)))
  replace iH := ak (Kd.jX iH.out)
  replace iD := ak (Kd.jX iD.out)
  replace iM := ak (Kd.jX iM.out)
  replace eG := ak (bH eG.out)
  replace gq := ak (bH gq.out)
  replace gu := ak (bH gu.out)
  replace HI0 := ak (aI.drew HI0.out)
  replace HK := ak (zI HK.out)
  replace HB := ak (iy HB.out)
  refine DL (n := 9) (S := fun w' => w'.cell? ⟨lq, 0, none⟩ = some (.slice Nr uP.length Ns) ∧ w'.cell? ⟨lq, 1, none⟩ = some (.slice NU tZ.length NV) ∧ w'.cell? ⟨lq, 2, none⟩ = some (.slice JH wz.length JI)) (ds := [8]) #[false, false, false, false, false, false, false, false, false] (by kernel_rfl) rfl rfl ⟨(aA gu.out 0).trans rfl, (aA gu.out 1).trans rfl, (aA gu.out 2).trans rfl⟩ (fun hHeld => ?_); refine vF dP.aAA dP.avb (fun vk Za => ?_)
  generalize Y8.drew = w23 at iH iD iM eG gq gu HI0 HK HB hHeld ⊢
  refine pl 0 ?_
  refine pl 2 ?_
  refine tk 1 ?_
  refine o1 3 (fun K hK => ?_)
  refine Kd.sD Kd.string _ 9 ?hg (N := 15) ?hd (xs := ([(⟨#[10]⟩ : ByteArray), (⟨#[120]⟩ : ByteArray)] : List ByteArray)) (inner := [.string (⟨#[10]⟩ : ByteArray), .string (⟨#[120]⟩ : ByteArray)]) (ok := fun _ => True) (xC := fun _ => True) ?hr ?hp (fun _ hk => hk) trivial (Below.refl _ _) (Nat.le_refl _) (by simp) ?_; (case hd => rfl); (case hg => rfl); (case hr => first | (go_simp; done) | (go_simp; rfl)); (case hp => exact (dK.one (show Kd.M Kd.string _ _ _ (⟨#[10]⟩ : ByteArray) [.string (⟨#[10]⟩ : ByteArray)] from rfl) (dK.one (show Kd.M Kd.string _ _ _ (⟨#[120]⟩ : ByteArray) [.string (⟨#[120]⟩ : ByteArray)] from rfl) (dK.none _ _))))
  intro aIB w24 Rf hb CX xJ
  clear CX xJ
  (first | rw [← af0.out] at Rf | (simp only [Int.reduceToNat] at Rf; rw [← af0.out] at Rf))
  have IQ := ak (Kd.aG (Kd.fK Rf (Kd.jH (ur iD.out))) (dR (w := w) (g := g) (row := none) (kh HK.out)))
  replace iH := rb iH hb
  replace iD := ak (Kd.fA (ur iD.out) (Kd.eH Rf) hb)
  replace iM := ak (Kd.fA (ur iM.out) (Kd.eH Rf) hb)
  replace eG := kb eG hb
  replace gq := kb gq hb
  replace gu := kb gu hb
  replace HK := ak (aJ.trans (kh HK.out) (aJ.of_below hb g none) (.inl rfl))
  replace HB := ak (iL pY hb)
  replace HI0 := ak (aI.below pX hb)
  clear hb Rf
  obtain ⟨aoN, aoO, avg⟩ := Kd.aX IQ.out
  (first | subst avg | (injection avg with sQ yO sS; have yP := sQ.symm; have yQ := sS.symm; clear sQ yO sS; subst yP; subst yQ))
  refine hK.out _ _ sx (fun hHeld => ?_)
  clear hK K
  refine nrm ?_
  refine o1 4 (fun K hK => ?_)
  refine Ac Tryz.func58 (by kernel_rfl) rfl #[.pointer (some ⟨g, 0, none⟩), .slice aoN aoH.length aoO] (by rfl) rfl rfl ma ?_
  with_reducible refine (fV.calls w0 ?gJ ?jf ?Af ?D7 ?Ag A6.out).mono ?_
  (case gJ => exact pX)
  (case jf => exact pY)
  (case Af => repeat (first | exact (Kd.au IQ.out).2.2 | (with_reducible refine Kd.pV ?_ _) | (with_reducible refine Kd.pW ?_ _) | (with_reducible refine Kd.sU ?_)))
  (case D7 => exact (Kd.au IQ.out).2.1)
  (case Ag => exact oz (aI.own_ne HI0.out IQ.out (by decide)))
  rintro e w27 ⟨rfl, hi, hb, hk⟩
  refine ⟨_, rfl, ?_⟩
  replace eG := kc eG hk t_
  replace gq := kc gq hk uf
  replace iH := ki (w0 := w0) (f0 := fO) (f1 := EL) iH hk
  replace iD := ki (w0 := w0) (f0 := fO) (f1 := EL) iD hk
  replace iM := ki (w0 := w0) (f0 := fO) (f1 := EL) iM hk
  replace gu := kc gu hk ug
  replace IQ := ki (w0 := w0) (f0 := fO) (f1 := EL) IQ hk
  replace HK := kt HK hk
  replace HB := ak (hb)
  replace HI0 := ak (hi)
  try clear hb
  try clear hk
  try clear hi
  refine hK.out _ _ sx (fun hHeld => ?_)
  clear hK K
  refine nrm ?_
  refine o1 5 (fun K hK => ?_)
  refine DN (w1 := ?_) (v := ?_) (by rfl) rfl ?_ ?_
  rotate_left 2
  ·
   go_simp
   constructor
   ·
    rfl
   ·
    rfl
  refine hK.out _ _ ⟨(aA (bn gu.out _) 0).trans rfl, (aA (bn gu.out _) 1).trans rfl, (aA (bn gu.out _) 2).trans rfl⟩ (fun hHeld => ?_)
  clear hK K
  refine nrm ?_
  refine o1 6 (fun K hK => ?_)
  refine Kd.oO Kd.string w.heap.size (by rfl) (.tmp 13) (.tmp 17) 23 9 (.string ⟨#[]⟩) 16 rfl Tryz.underlying23 info9 rfl (by decide) (by omega) (.slice NU tZ.length NV) tZ aoI [.string aoI] (fun k_ => some k_ ≠ (.slice aoN aoH.length aoO : Value).ownBlock) (fun _ => False) rfl rfl ?aP (fun _ hk => hk.elim) ?aF ?aO (Below.refl _ _) ?aS ?aL ?_
  (case aP => exact rfl)
  (case aF => exact (fun k_ hk => Kd.fresh' (Kd.jH (ur IQ.out)) k_ hk))
  (case aO => exact (ur (Kd.aY iD.out (fun _ hk => hk.2))))
  (case aS => exact (dR (w := w) (g := g) (row := none) (kh HK.out)))
  (case aL => have := aoJ.out; omega)
  intro aIC w28 ho hb hg hat
  rw [← alY.out] at ho
  have xK := ak (aI.grown pX hg (aI.own_ne HI0.out iD.out (by decide)))
  have xM := ak (bM (g := yJ) (o := .cells #[.slice vS pz.length vN, .slice vC oV.length vO, .slice vT oM.length vP] 28 (0, 0)) (ub eG.out) hg (Kd.nO iD.out eG.out (by decide)))
  have yC := ak (bM (g := vW) (o := .cells #[.slice none 0 0, .slice none 0 0, .slice none 0 0] 28 (0, 0)) (ub gq.out) hg (Kd.nO iD.out gq.out (by decide)))
  have Ad := ak (Kd.nZ (ur iH.out) (Kd.jM (ur iD.out)) (by decide) hg)
  have C9 := ak (Kd.qo (ok := (fun k_ => some k_ ≠ (.slice Nr uP.length Ns : Value).ownBlock ∧ some k_ ≠ (.slice aoN aoH.length aoO : Value).ownBlock ∧ k_ ≠ yJ ∧ k_ ≠ vW ∧ k_ ≠ lq)) (ur (Kd.aY iM.out (fun _ hk => ⟨⟨hk.1.1.1.1.1, ⟨hk.2, ⟨hk.1.1.1.2, ⟨hk.1.1.2, hk.1.2⟩⟩⟩⟩, hk.1.1.1.1.2⟩))) hg hat)
  have D6 := ak (bM (g := lq) (o := .cells #[.slice Nr uP.length Ns, .slice NU tZ.length NV, .slice JH wz.length JI] 28 (0, 0)) (ub gu.out) hg (Kd.nO iD.out gu.out (by decide)))
  have Fv := ak (Kd.qo (ok := (fun _ => True)) (ur IQ.out) hg hat)
  have TW := ak (wW pY HL.out hb)
  have XW := ak (aJ.trans (kh HK.out) (aJ.Ah hg g) (Kd.Hw iD.out))
  have n9_ := ak (ho)
  clear HI0 eG gq iH iM gu IQ HB HK iD
  have HI0 := xK
  have eG := xM
  have gq := yC
  have iH := Ad
  have iM := C9
  have gu := D6
  have IQ := Fv
  have HB := TW
  have HK := XW
  have avh := n9_
  clear xK xM yC Ad C9 D6 Fv TW XW n9_ ho hb hg hat
  obtain ⟨VR, VT, aiQ⟩ := Kd.aX avh.out
  (first | subst aiQ | (injection aiQ with sQ yO sS; have yP := sQ.symm; have yQ := sS.symm; clear sQ yO sS; subst yP; subst yQ))
  refine hK.out _ _ sx (fun hHeld => ?_)
  clear hK K
  refine nrm ?_
  refine pl 7 ?_
  refine IE (i := 8) (N := none) #[true, true, true, true, true, true, true, true, true] rfl rfl (pR vk.out (by kernel_rfl)) (by decide) (fun K hK => ?_)
  have aID : w28.cell? ⟨lq, 1, none⟩ = some (.slice NU tZ.length NV) := (aA gu.out 1).trans rfl
  have aDo := iG gu.out 1
  have ayb := vH.out
  have ayc := vJ.out
  have ayd := vI.out
  have aye := vK.out
  refine IG (w1 := ?_) (by rfl) rfl ?_ ?_
  rotate_left
  ·
   go_simp
   rfl
  refine hK.out _ _ ?_
  clear hK K
  refine II (zT vk.out (by kernel_rfl)) ?_
  have z31 := ku gu.out
  have alC := uf.out
  have alD := EN.out
  have z33 := ku gq.out
  try go_wp2
  refine bodyPost_ret (results_cell_row rfl _ _ vW 28 #[.slice Nr uP.length Ns, .slice VR aAB.length VT, .slice JH wz.length JI] (0, 0) _ rfl bq Tryz.underlying28 rfl (by kernel_rfl)) rfl ?_
  exact ⟨_, _, _, er, rr, rr, rr, pX, pY, kh HK.out⟩
 ·
  replace H := sq H
  rcases H with ⟨XB, XC, H⟩ | ⟨c34, XB, XC, H⟩
  ·
   obtain ⟨X4, X5⟩ := nm ([(⟨#[97, 32, 98]⟩ : ByteArray), (⟨#[79, 107]⟩ : ByteArray)] : List ByteArray)
   rw [← X5.out] at H
   replace H := bd H
   obtain ⟨⟨af9, ZB⟩, A35, H⟩ := H
   (try dsimp only at H)
   obtain ⟨aiY, Ro⟩ := nm ([(⟨#[32, 120]⟩ : ByteArray), (⟨#[120]⟩ : ByteArray)] : List ByteArray)
   rw [← Ro.out] at H
   replace H := bd H
   obtain ⟨⟨aiZ, aIE⟩, A36, H⟩ := H
   (try dsimp only at H)
   replace H := nl H; obtain ⟨af_, H⟩ := H
   obtain ⟨aAC, alZ⟩ := nm (uP ++ [(⟨af9, aiZ⟩ : gK)])
   rw [← alZ.out] at H
   obtain ⟨rfl, rfl, rfl, rfl⟩ := s4 H
   go_enter Tryz.func68, Tryz.ntmps68
   try go_wp2_with (first | (refine bS HI0 HK HB HW0 3 #[.slice vS pz.length vN, .slice vC oV.length vO, .slice vT oM.length vP] 28 ?_; clear HI0 HK HB; intro yJ w38 eG af2 af4 EM t_ hg hb HI0 HK HB; clear hb hg) | (refine bS HI0 HK HB HW0 4 #[.slice none 0 0, .slice none 0 0, .slice none 0 0] 28 ?_; clear HI0 HK HB; intro vW w39 gq af5 af6 EN uf hg hb HI0 HK HB; have zM := Au eG hg; have zN := Aw eG hg; replace eG := kb eG hb; clear hb hg; have alS := zM.out; have alT := zN.out; have aDp := t_.out; have aDq := EM.out; have z42 := ku eG.out) | (refine gL 110 7 Tryz.func110 #[.agg #[.slice vS pz.length vN, .slice vC oV.length vO, .slice vT oM.length vP]] ?_; (with_reducible refine (dU.calls k _ _ pz _ _ oV _ _ oM uP tZ wz _ (Kd.wM O5.out (kh HK.out)) O6.out (by with_unfolding_all exact Kd.VX (⟨#[]⟩ : ByteArray) Rl.out (kh HK.out) aco) Rn.out (Kd.wM Uh.out (kh HK.out)) Ui.out A3.out).mono ?_); rintro e w43 ⟨aoK, aoL, aoM, rfl, ho0, ho1, ho2, hb⟩; refine ⟨_, rfl, ?_⟩; have iH := ak (Kd.aG ho0 (dR (w := w) (g := g) (row := none) (kh HK.out))); have iD := ak (Kd.aG ho1 (dR (w := w) (g := g) (row := none) (kh HK.out))); have iM := ak (Kd.aG (Kd.oI (Kd.oI ho2 (g := yJ) (o := .cells #[.slice vS pz.length vN, .slice vC oV.length vO, .slice vT oM.length vP] 28 (0, 0)) (ub eG.out)) (g := vW) (o := .cells #[.slice none 0 0, .slice none 0 0, .slice none 0 0] 28 (0, 0)) (ub gq.out)) (dR (w := w) (g := g) (row := none) (kh HK.out))); replace eG := kb eG hb; replace gq := kb gq hb; replace HK := ak (aJ.trans (kh HK.out) (aJ.of_below hb g none) (.inl rfl)); replace HB := ak (iL pY hb); replace HI0 := ak (aI.below pX hb); clear hb; (try clear ho0); (try clear ho1); (try clear ho2)) | (refine bS HI0 HK HB HW0 5 #[.slice none 0 0, .slice none 0 0, .slice none 0 0] 28 ?_; clear HI0 HK HB; intro lq w44 gu af7 af8 EO ug hg hb HI0 HK HB; have vH := Au eG hg; have vI := Aw eG hg; have vJ := Au gq hg; have vK := Aw gq hg; replace iH := rb iH hb; replace iD := rb iD hb; replace iM := ak (Kd.rD (Kd.wB (ur iM.out) lq (Nat.le_of_eq hg.symm)) hb); replace eG := kb eG hb; replace gq := kb gq hb; clear hb hg; obtain ⟨Ll, Lm, aAD⟩ := Kd.aX iH.out; subst aAD; have aut := vI.out; have auu := vH.out; have alM := vK.out; have alN := vJ.out; have akt := ug.out; have aku := EO.out; have z49 := ku gu.out; obtain ⟨Ez, EC, anv⟩ := Kd.aX iD.out; subst anv; obtain ⟨Rq, Rt, aAE⟩ := Kd.aX iM.out; subst aAE) | (refine gL 57 9 Tryz.func57 #[.pointer (some ⟨g, 0, none⟩), .int .i64 20] ?_; (with_reducible refine (dF.calls w0 ?gJ ?jf A4.out).mono ?_); (case gJ => exact pX); (case jf => exact pY); rintro e w52 ⟨rfl, hi, hb, hk⟩; refine ⟨_, rfl, ?_⟩; replace eG := kd_ eG #[.slice vS pz.length vN, .slice vC oV.length vO, .slice vT oM.length vP] hk t_; replace gq := kd_ gq #[.slice none 0 0, .slice none 0 0, .slice none 0 0] hk uf; replace iH := ki (w0 := w0) (f0 := fO) (f1 := kZ) iH hk; replace iD := ki (w0 := w0) (f0 := fO) (f1 := kZ) iD hk; replace iM := ak (Kd.aY (Kd.Jf (aI.apart (show aI w0 _ g fO kZ from pX) (ur (Kd.aY (Kd.jy (p := ⟨lq, 2, none⟩) (Kd.jy (p := ⟨lq, 1, none⟩) (Kd.jy (p := ⟨lq, 0, none⟩) (Kd.aY iM.out (fun k_ hk => (⟨hk, hk.2⟩ : _ ∧ k_ ≠ lq))) (fun _ hk => hk.2) (.slice Ll uP.length Lm)) (fun _ hk => hk.2) (.slice Ez tZ.length EC)) (fun _ hk => hk.2) (.slice Rq wz.length Rt)) (fun _ h_ => h_.1))) (by decide)) hk (fun _ h => h.2)) (fun _ h => h.1)); replace gu := kd_ gu #[.slice Ll uP.length Lm, .slice Ez tZ.length EC, .slice Rq wz.length Rt] hk ug; replace HK := kt HK hk; replace HB := ak (hb); replace HI0 := ak (hi); clear hb; (try clear hk); (try clear hi)))
   replace iH := ak (Kd.jX iH.out)
   replace iD := ak (Kd.jX iD.out)
   replace iM := ak (Kd.jX iM.out)
   replace eG := ak (bH eG.out)
   replace gq := ak (bH gq.out)
   replace gu := ak (bH gu.out)
   replace HI0 := ak (aI.drew HI0.out)
   replace HK := ak (zI HK.out)
   replace HB := ak (iy HB.out)
   refine DL (n := 13) (S := fun w' => w'.cell? ⟨lq, 0, none⟩ = some (.slice Ll uP.length Lm) ∧ w'.cell? ⟨lq, 1, none⟩ = some (.slice Ez tZ.length EC) ∧ w'.cell? ⟨lq, 2, none⟩ = some (.slice Rq wz.length Rt)) (ds := [12]) #[false, false, false, false, false, false, false, false, false, false, false, false, false] (by kernel_rfl) rfl rfl ⟨(aA gu.out 0).trans rfl, (aA gu.out 1).trans rfl, (aA gu.out 2).trans rfl⟩ (fun hHeld => ?_); refine vF dP.tab6 dP.alX (fun vk Za => ?_)
   generalize w52.drew = w53 at iH iD iM eG gq gu HI0 HK HB hHeld ⊢
   refine pl 0 ?_
   refine pl 2 ?_
   refine pl 5 ?_
   refine tk 1 ?_
   refine afi (σ := Value × Value) 6 #[true, true, true, true, true, true, true, false, false, false, false, false, false] (fun s_ => [(25, s_.1), (26, .string af9), (28, s_.2)]) (fun s_ w' => (w'.cell? ⟨lq, 0, none⟩ = some (.slice Ll uP.length Lm) ∧ w'.cell? ⟨lq, 1, none⟩ = some (.slice Ez tZ.length EC) ∧ w'.cell? ⟨lq, 2, none⟩ = some (.slice Rq wz.length Rt)) ∧ (Kd.R pU 69 w' w.heap.size (fun _ => True) (.slice Ll uP.length Lm) uP) ∧ (Kd.R Kd.string 9 w' w.heap.size (fun k_ => some k_ ≠ (s_.1 : Value).ownBlock ∧ some k_ ≠ (s_.2 : Value).ownBlock) (.slice Ez tZ.length EC) tZ) ∧ (Kd.R k28 28 w' w.heap.size (fun k_ => some k_ ≠ (.slice Ll uP.length Lm : Value).ownBlock ∧ some k_ ≠ (.slice Ez tZ.length EC : Value).ownBlock ∧ some k_ ≠ (s_.1 : Value).ownBlock ∧ some k_ ≠ (s_.2 : Value).ownBlock ∧ k_ ≠ yJ ∧ k_ ≠ vW ∧ k_ ≠ lq) (.slice Rq wz.length Rt) wz) ∧ (Kd.R Kd.string 9 w' w.heap.size (fun k_ => some k_ ≠ (.slice Ez tZ.length EC : Value).ownBlock ∧ some k_ ≠ (s_.2 : Value).ownBlock) s_.1 X4) ∧ (Kd.R Kd.string 9 w' w.heap.size (fun k_ => some k_ ≠ (.slice Ez tZ.length EC : Value).ownBlock ∧ some k_ ≠ (s_.1 : Value).ownBlock) s_.2 aiY) ∧ (w'.heap[yJ]? = some (.cells #[.slice vS pz.length vN, .slice vC oV.length vO, .slice vT oM.length vP] 28 (0, 0))) ∧ (w'.heap[vW]? = some (.cells #[.slice none 0 0, .slice none 0 0, .slice none 0 0] 28 (0, 0))) ∧ (w'.heap[lq]? = some (.cells #[.slice Ll uP.length Lm, .slice Ez tZ.length EC, .slice Rq wz.length Rt] 28 (0, 0))) ∧ (aI w0 w' g fO ZB) ∧ (aJ w w' g none) ∧ (Below w0.heap.size w0 w')) ?_ ?_
   rotate_left
   ·
    intro TV
    refine aiF (i := 3) (j := 6) (Ni := some 25) (Nj := some 28) #[true, true, true, true, false, true, false, false, false, false, false, false, false] #[true, true, true, false, false, true, true, false, false, false, false, false, false] rfl rfl rfl rfl (VK vk.out (by kernel_rfl)) (by decide) (by decide) (fun K hK => ?_) (fun K hK => ?_)
    ·
     skip
     refine Kd.sD Kd.string _ 9 ?hg (N := 25) ?hd (xs := ([(⟨#[97, 32, 98]⟩ : ByteArray), (⟨#[79, 107]⟩ : ByteArray)] : List ByteArray)) (inner := [.string (⟨#[97, 32, 98]⟩ : ByteArray), .string (⟨#[79, 107]⟩ : ByteArray)]) (ok := fun _ => True) (xC := fun _ => True) ?hr ?hp (fun _ hk => hk) trivial (Below.refl _ _) (Nat.le_refl _) (by simp) ?_; (case hd => rfl); (case hg => rfl); (case hr => first | (go_simp; done) | (go_simp; rfl)); (case hp => exact (dK.one (show Kd.M Kd.string _ _ _ (⟨#[97, 32, 98]⟩ : ByteArray) [.string (⟨#[97, 32, 98]⟩ : ByteArray)] from rfl) (dK.one (show Kd.M Kd.string _ _ _ (⟨#[79, 107]⟩ : ByteArray) [.string (⟨#[79, 107]⟩ : ByteArray)] from rfl) (dK.none _ _))))
     intro ZC w54 Jl hb CX xJ
     clear CX xJ
     (first | rw [← X5.out] at Jl | (simp only [Int.reduceToNat] at Jl; rw [← X5.out] at Jl))
     have qO := ak (Kd.aG (Kd.fK Jl (Kd.jH (ur iD.out))) (dR (w := w) (g := g) (row := none) (kh HK.out)))
     replace iH := rb iH hb
     replace iD := ak (Kd.fA (ur iD.out) (Kd.eH Jl) hb)
     replace iM := ak (Kd.fA (ur iM.out) (Kd.eH Jl) hb)
     replace eG := kb eG hb
     replace gq := kb gq hb
     replace gu := kb gu hb
     replace HK := ak (aJ.trans (kh HK.out) (aJ.of_below hb g none) (.inl rfl))
     replace HB := ak (iL pY hb)
     replace HI0 := ak (aI.below pX hb)
     clear hb Jl
     obtain ⟨avi, avj, avk⟩ := Kd.aX qO.out
     (first | subst avk | (injection avk with sQ yO sS; have yP := sQ.symm; have yQ := sS.symm; clear sQ yO sS; subst yP; subst yQ))
     refine hK.out _ _ sx (fun hHeld => ?_)
     clear hK K
     refine nrm ?_
     refine aiF (i := 4) (j := 6) (Ni := some 26) (Nj := some 28) #[true, true, true, true, true, true, false, false, false, false, false, false, false] #[true, true, true, true, false, true, true, false, false, false, false, false, false] rfl rfl rfl rfl (VK vk.out (by kernel_rfl)) (by decide) (by decide) (fun K hK => ?_) (fun K hK => ?_)
     ·
      skip
      refine Ac Tryz.func58 (by kernel_rfl) rfl #[.pointer (some ⟨g, 0, none⟩), .slice avi X4.length avj] (by rfl) rfl rfl ma ?_
      with_reducible refine (fV.calls w0 ?gJ ?jf ?Af ?D7 ?Ag A35.out).mono ?_
      (case gJ => exact pX)
      (case jf => exact pY)
      (case Af => repeat (first | exact (Kd.au qO.out).2.2 | (with_reducible refine Kd.pV ?_ _) | (with_reducible refine Kd.pW ?_ _) | (with_reducible refine Kd.sU ?_)))
      (case D7 => exact (Kd.au qO.out).2.1)
      (case Ag => exact oz (aI.own_ne HI0.out qO.out (by decide)))
      rintro e w57 ⟨rfl, hi, hb, hk⟩
      refine ⟨_, rfl, ?_⟩
      replace eG := kc eG hk t_
      replace gq := kc gq hk uf
      replace iH := ki (w0 := w0) (f0 := fO) (f1 := EL) iH hk
      replace iD := ki (w0 := w0) (f0 := fO) (f1 := EL) iD hk
      replace iM := ki (w0 := w0) (f0 := fO) (f1 := EL) iM hk
      replace gu := kc gu hk ug
      replace qO := ki (w0 := w0) (f0 := fO) (f1 := EL) qO hk
      replace HK := kt HK hk
      replace HB := ak (hb)
      replace HI0 := ak (hi)
      try clear hb
      try clear hk
      try clear hi
      refine hK.out _ _ sx (fun hHeld => ?_)
      clear hK K
      refine nrm ?_
      refine o1 6 (fun K hK => ?_)
      refine Kd.sD Kd.string _ 9 ?hg (N := 28) ?hd (xs := ([(⟨#[32, 120]⟩ : ByteArray), (⟨#[120]⟩ : ByteArray)] : List ByteArray)) (inner := [.string (⟨#[32, 120]⟩ : ByteArray), .string (⟨#[120]⟩ : ByteArray)]) (ok := fun _ => True) (xC := fun _ => True) ?hr ?hp (fun _ hk => hk) trivial (Below.refl _ _) (Nat.le_refl _) (by simp) ?_; (case hd => rfl); (case hg => rfl); (case hr => first | (go_simp; done) | (go_simp; rfl)); (case hp => exact (dK.one (show Kd.M Kd.string _ _ _ (⟨#[32, 120]⟩ : ByteArray) [.string (⟨#[32, 120]⟩ : ByteArray)] from rfl) (dK.one (show Kd.M Kd.string _ _ _ (⟨#[120]⟩ : ByteArray) [.string (⟨#[120]⟩ : ByteArray)] from rfl) (dK.none _ _))))
      intro TB w58 X6 hb CX xJ
      clear CX xJ
      (first | rw [← Ro.out] at X6 | (simp only [Int.reduceToNat] at X6; rw [← Ro.out] at X6))
      have xw := ak (Kd.aG (Kd.fK (Kd.fK X6 (Kd.jH (ur iD.out))) (Kd.jH (ur qO.out))) (dR (w := w) (g := g) (row := none) (kh HK.out)))
      replace iH := rb iH hb
      replace iD := ak (Kd.fA (ur iD.out) (Kd.eH X6) hb)
      replace iM := ak (Kd.fA (ur iM.out) (Kd.eH X6) hb)
      replace qO := ak (Kd.fA (ur qO.out) (Kd.eH X6) hb)
      replace eG := kb eG hb
      replace gq := kb gq hb
      replace gu := kb gu hb
      replace HK := ak (aJ.trans (kh HK.out) (aJ.of_below hb g none) (.inl rfl))
      replace HB := ak (iL pY hb)
      replace HI0 := ak (aI.below pX hb)
      clear hb X6
      refine hK.out _ _ sx (fun hHeld => ?_)
      clear hK K
      refine nrm ?_
      exact rW (by simp only [zH, Act.put, sK, sN, l_c] <;> rfl) (TV (.slice avi X4.length avj, TB) _ ⟨hHeld, (ur iH.out), (ur (Kd.aY iD.out (fun _ hk => ⟨hk.1.2, hk.2⟩))), (ur (Kd.aY iM.out (fun _ hk => ⟨hk.1.1.1.1.1.1, ⟨hk.1.1.1.1.1.2, ⟨hk.1.2, ⟨hk.2, ⟨hk.1.1.1.1.2, ⟨hk.1.1.1.2, hk.1.1.2⟩⟩⟩⟩⟩⟩))), (ur (Kd.aY qO.out (fun _ hk => ⟨hk.1.2, hk.2⟩))), (ur (Kd.aY xw.out (fun _ hk => ⟨hk.1.2, hk.2⟩))), (ub eG.out), (ub gq.out), (ub gu.out), pX, (kh HK.out), pY⟩)
     ·
      skip
      refine Kd.sD Kd.string _ 9 ?hg (N := 28) ?hd (xs := ([(⟨#[32, 120]⟩ : ByteArray), (⟨#[120]⟩ : ByteArray)] : List ByteArray)) (inner := [.string (⟨#[32, 120]⟩ : ByteArray), .string (⟨#[120]⟩ : ByteArray)]) (ok := fun _ => True) (xC := fun _ => True) ?hr ?hp (fun _ hk => hk) trivial (Below.refl _ _) (Nat.le_refl _) (by simp) ?_; (case hd => rfl); (case hg => rfl); (case hr => first | (go_simp; done) | (go_simp; rfl)); (case hp => exact (dK.one (show Kd.M Kd.string _ _ _ (⟨#[32, 120]⟩ : ByteArray) [.string (⟨#[32, 120]⟩ : ByteArray)] from rfl) (dK.one (show Kd.M Kd.string _ _ _ (⟨#[120]⟩ : ByteArray) [.string (⟨#[120]⟩ : ByteArray)] from rfl) (dK.none _ _))))
      intro TB w56 CQ hb CX xJ
      clear CX xJ
      (first | rw [← Ro.out] at CQ | (simp only [Int.reduceToNat] at CQ; rw [← Ro.out] at CQ))
      have xw := ak (Kd.aG (Kd.fK (Kd.fK CQ (Kd.jH (ur iD.out))) (Kd.jH (ur qO.out))) (dR (w := w) (g := g) (row := none) (kh HK.out)))
      replace iH := rb iH hb
      replace iD := ak (Kd.fA (ur iD.out) (Kd.eH CQ) hb)
      replace iM := ak (Kd.fA (ur iM.out) (Kd.eH CQ) hb)
      replace qO := ak (Kd.fA (ur qO.out) (Kd.eH CQ) hb)
      replace eG := kb eG hb
      replace gq := kb gq hb
      replace gu := kb gu hb
      replace HK := ak (aJ.trans (kh HK.out) (aJ.of_below hb g none) (.inl rfl))
      replace HB := ak (iL pY hb)
      replace HI0 := ak (aI.below pX hb)
      clear hb CQ
      obtain ⟨aga, agb, agc⟩ := Kd.aX qO.out
      (first | subst agc | (injection agc with sQ yO sS; have yP := sQ.symm; have yQ := sS.symm; clear sQ yO sS; subst yP; subst yQ))
      refine hK.out _ _ sx (fun hHeld => ?_)
      clear hK K
      refine nrm ?_
      refine o1 4 (fun K hK => ?_)
      refine Ac Tryz.func58 (by kernel_rfl) rfl #[.pointer (some ⟨g, 0, none⟩), .slice aga X4.length agb] (by rfl) rfl rfl ma ?_
      with_reducible refine (fV.calls w0 ?gJ ?jf ?Af ?D7 ?Ag A35.out).mono ?_
      (case gJ => exact pX)
      (case jf => exact pY)
      (case Af => repeat (first | exact (Kd.au qO.out).2.2 | (with_reducible refine Kd.pV ?_ _) | (with_reducible refine Kd.pW ?_ _) | (with_reducible refine Kd.sU ?_)))
      (case D7 => exact (Kd.au qO.out).2.1)
      (case Ag => exact oz (aI.own_ne HI0.out qO.out (by decide)))
      rintro e w59 ⟨rfl, hi, hb, hk⟩
      refine ⟨_, rfl, ?_⟩
      replace eG := kc eG hk t_
      replace gq := kc gq hk uf
      replace iH := ki (w0 := w0) (f0 := fO) (f1 := EL) iH hk
      replace iD := ki (w0 := w0) (f0 := fO) (f1 := EL) iD hk
      replace iM := ki (w0 := w0) (f0 := fO) (f1 := EL) iM hk
      replace gu := kc gu hk ug
      replace qO := ki (w0 := w0) (f0 := fO) (f1 := EL) qO hk
      replace xw := ki (w0 := w0) (f0 := fO) (f1 := EL) xw hk
      replace HK := kt HK hk
      replace HB := ak (hb)
      replace HI0 := ak (hi)
      try clear hb
      try clear hk
      try clear hi
      refine hK.out _ _ sx (fun hHeld => ?_)
      clear hK K
      refine nrm ?_
      exact rW (by simp only [zH, Act.put, sK, sN, l_c] <;> rfl) (TV (.slice aga X4.length agb, TB) _ ⟨hHeld, (ur iH.out), (ur (Kd.aY iD.out (fun _ hk => ⟨hk.1.2, hk.2⟩))), (ur (Kd.aY iM.out (fun _ hk => ⟨hk.1.1.1.1.1.1, ⟨hk.1.1.1.1.1.2, ⟨hk.1.2, ⟨hk.2, ⟨hk.1.1.1.1.2, ⟨hk.1.1.1.2, hk.1.1.2⟩⟩⟩⟩⟩⟩))), (ur (Kd.aY qO.out (fun _ hk => ⟨hk.1.2, hk.2⟩))), (ur (Kd.aY xw.out (fun _ hk => ⟨hk.1.2, hk.2⟩))), (ub eG.out), (ub gq.out), (ub gu.out), pX, (kh HK.out), pY⟩)
    ·
     skip
     refine Kd.sD Kd.string _ 9 ?hg (N := 28) ?hd (xs := ([(⟨#[32, 120]⟩ : ByteArray), (⟨#[120]⟩ : ByteArray)] : List ByteArray)) (inner := [.string (⟨#[32, 120]⟩ : ByteArray), .string (⟨#[120]⟩ : ByteArray)]) (ok := fun _ => True) (xC := fun _ => True) ?hr ?hp (fun _ hk => hk) trivial (Below.refl _ _) (Nat.le_refl _) (by simp) ?_; (case hd => rfl); (case hg => rfl); (case hr => first | (go_simp; done) | (go_simp; rfl)); (case hp => exact (dK.one (show Kd.M Kd.string _ _ _ (⟨#[32, 120]⟩ : ByteArray) [.string (⟨#[32, 120]⟩ : ByteArray)] from rfl) (dK.one (show Kd.M Kd.string _ _ _ (⟨#[120]⟩ : ByteArray) [.string (⟨#[120]⟩ : ByteArray)] from rfl) (dK.none _ _))))
     intro TB w54 Jl hb CX xJ
     clear CX xJ
     (first | rw [← Ro.out] at Jl | (simp only [Int.reduceToNat] at Jl; rw [← Ro.out] at Jl))
     have xw := ak (Kd.aG (Kd.fK Jl (Kd.jH (ur iD.out))) (dR (w := w) (g := g) (row := none) (kh HK.out)))
     replace iH := rb iH hb
     replace iD := ak (Kd.fA (ur iD.out) (Kd.eH Jl) hb)
     replace iM := ak (Kd.fA (ur iM.out) (Kd.eH Jl) hb)
     replace eG := kb eG hb
     replace gq := kb gq hb
     replace gu := kb gu hb
     replace HK := ak (aJ.trans (kh HK.out) (aJ.of_below hb g none) (.inl rfl))
     replace HB := ak (iL pY hb)
     replace HI0 := ak (aI.below pX hb)
     clear hb Jl
     refine hK.out _ _ sx (fun hHeld => ?_)
     clear hK K
     refine nrm ?_
     refine o1 3 (fun K hK => ?_)
     refine Kd.sD Kd.string _ 9 ?hg (N := 25) ?hd (xs := ([(⟨#[97, 32, 98]⟩ : ByteArray), (⟨#[79, 107]⟩ : ByteArray)] : List ByteArray)) (inner := [.string (⟨#[97, 32, 98]⟩ : ByteArray), .string (⟨#[79, 107]⟩ : ByteArray)]) (ok := fun _ => True) (xC := fun _ => True) ?hr ?hp (fun _ hk => hk) trivial (Below.refl _ _) (Nat.le_refl _) (by simp) ?_; (case hd => rfl); (case hg => rfl); (case hr => first | (go_simp; done) | (go_simp; rfl)); (case hp => exact (dK.one (show Kd.M Kd.string _ _ _ (⟨#[97, 32, 98]⟩ : ByteArray) [.string (⟨#[97, 32, 98]⟩ : ByteArray)] from rfl) (dK.one (show Kd.M Kd.string _ _ _ (⟨#[79, 107]⟩ : ByteArray) [.string (⟨#[79, 107]⟩ : ByteArray)] from rfl) (dK.none _ _))))
     intro ZC w56 CQ hb CX xJ
     clear CX xJ
     (first | rw [← X5.out] at CQ | (simp only [Int.reduceToNat] at CQ; rw [← X5.out] at CQ))
     have qO := ak (Kd.aG (Kd.fK (Kd.fK CQ (Kd.jH (ur iD.out))) (Kd.jH (ur xw.out))) (dR (w := w) (g := g) (row := none) (kh HK.out)))
     replace iH := rb iH hb
     replace iD := ak (Kd.fA (ur iD.out) (Kd.eH CQ) hb)
     replace iM := ak (Kd.fA (ur iM.out) (Kd.eH CQ) hb)
     replace xw := ak (Kd.fA (ur xw.out) (Kd.eH CQ) hb)
     replace eG := kb eG hb
     replace gq := kb gq hb
     replace gu := kb gu hb
     replace HK := ak (aJ.trans (kh HK.out) (aJ.of_below hb g none) (.inl rfl))
     replace HB := ak (iL pY hb)
     replace HI0 := ak (aI.below pX hb)
     clear hb CQ
     obtain ⟨aga, agb, agc⟩ := Kd.aX qO.out
     (first | subst agc | (injection agc with sQ yO sS; have yP := sQ.symm; have yQ := sS.symm; clear sQ yO sS; subst yP; subst yQ))
     refine hK.out _ _ sx (fun hHeld => ?_)
     clear hK K
     refine nrm ?_
     refine o1 4 (fun K hK => ?_)
     refine Ac Tryz.func58 (by kernel_rfl) rfl #[.pointer (some ⟨g, 0, none⟩), .slice aga X4.length agb] (by rfl) rfl rfl ma ?_
     with_reducible refine (fV.calls w0 ?gJ ?jf ?Af ?D7 ?Ag A35.out).mono ?_
     (case gJ => exact pX)
     (case jf => exact pY)
     (case Af => repeat (first | exact (Kd.au qO.out).2.2 | (with_reducible refine Kd.pV ?_ _) | (with_reducible refine Kd.pW ?_ _) | (with_reducible refine Kd.sU ?_)))
     (case D7 => exact (Kd.au qO.out).2.1)
     (case Ag => exact oz (aI.own_ne HI0.out qO.out (by decide)))
     rintro e w59 ⟨rfl, hi, hb, hk⟩
     refine ⟨_, rfl, ?_⟩
     replace eG := kc eG hk t_
     replace gq := kc gq hk uf
     replace iH := ki (w0 := w0) (f0 := fO) (f1 := EL) iH hk
     replace iD := ki (w0 := w0) (f0 := fO) (f1 := EL) iD hk
     replace iM := ki (w0 := w0) (f0 := fO) (f1 := EL) iM hk
     replace gu := kc gu hk ug
     replace xw := ki (w0 := w0) (f0 := fO) (f1 := EL) xw hk
     replace qO := ki (w0 := w0) (f0 := fO) (f1 := EL) qO hk
     replace HK := kt HK hk
     replace HB := ak (hb)
     replace HI0 := ak (hi)
     try clear hb
     try clear hk
     try clear hi
     refine hK.out _ _ sx (fun hHeld => ?_)
     clear hK K
     refine nrm ?_
     exact rW (by simp only [zH, Act.put, sK, sN, l_c] <;> rfl) (TV (.slice aga X4.length agb, TB) _ ⟨hHeld, (ur iH.out), (ur (Kd.aY iD.out (fun _ hk => ⟨hk.2, hk.1.2⟩))), (ur (Kd.aY iM.out (fun _ hk => ⟨hk.1.1.1.1.1.1, ⟨hk.1.1.1.1.1.2, ⟨hk.2, ⟨hk.1.2, ⟨hk.1.1.1.1.2, ⟨hk.1.1.1.2, hk.1.1.2⟩⟩⟩⟩⟩⟩))), (ur (Kd.aY qO.out (fun _ hk => ⟨hk.1.2, hk.2⟩))), (ur (Kd.aY xw.out (fun _ hk => ⟨hk.1.2, hk.2⟩))), (ub eG.out), (ub gq.out), (ub gu.out), pX, (kh HK.out), pY⟩)
   rintro ⟨ZC, TB⟩ J6 ⟨hS_, h0_, h1_, h2_, h3_, h4_, h5_, h6_, h7_, h8_, h9_, VL⟩
   have xK : ah (Kd.R pU 69 J6 w.heap.size (fun _ => True) (.slice Ll uP.length Lm) uP) := ⟨h0_⟩
   have xM : ah (Kd.R Kd.string 9 J6 w.heap.size (fun k_ => some k_ ≠ (ZC : Value).ownBlock ∧ some k_ ≠ (TB : Value).ownBlock) (.slice Ez tZ.length EC) tZ) := ⟨h1_⟩
   have yC : ah (Kd.R k28 28 J6 w.heap.size (fun k_ => some k_ ≠ (.slice Ll uP.length Lm : Value).ownBlock ∧ some k_ ≠ (.slice Ez tZ.length EC : Value).ownBlock ∧ some k_ ≠ (ZC : Value).ownBlock ∧ some k_ ≠ (TB : Value).ownBlock ∧ k_ ≠ yJ ∧ k_ ≠ vW ∧ k_ ≠ lq) (.slice Rq wz.length Rt) wz) := ⟨h2_⟩
   have Ad : ah (Kd.R Kd.string 9 J6 w.heap.size (fun k_ => some k_ ≠ (.slice Ez tZ.length EC : Value).ownBlock ∧ some k_ ≠ (TB : Value).ownBlock) ZC X4) := ⟨h3_⟩
   have C9 : ah (Kd.R Kd.string 9 J6 w.heap.size (fun k_ => some k_ ≠ (.slice Ez tZ.length EC : Value).ownBlock ∧ some k_ ≠ (ZC : Value).ownBlock) TB aiY) := ⟨h4_⟩
   have D6 : ah (J6.heap[yJ]? = some (.cells #[.slice vS pz.length vN, .slice vC oV.length vO, .slice vT oM.length vP] 28 (0, 0))) := ⟨h5_⟩
   have Fv : ah (J6.heap[vW]? = some (.cells #[.slice none 0 0, .slice none 0 0, .slice none 0 0] 28 (0, 0))) := ⟨h6_⟩
   have TW : ah (J6.heap[lq]? = some (.cells #[.slice Ll uP.length Lm, .slice Ez tZ.length EC, .slice Rq wz.length Rt] 28 (0, 0))) := ⟨h7_⟩
   have XW : ah (aI w0 J6 g fO ZB) := ⟨h8_⟩
   have n9_ : ah (aJ w J6 g none) := ⟨h9_⟩
   have Rj : ah (Below w0.heap.size w0 J6) := ⟨VL⟩
   clear iH iD iM eG gq gu HI0 HK HB h0_ h1_ h2_ h3_ h4_ h5_ h6_ h7_ h8_ h9_ VL
   have iH := xK
   have iD := xM
   have iM := yC
   have qO := Ad
   have xw := C9
   have eG := D6
   have gq := Fv
   have gu := TW
   have HI0 := XW
   have HK := n9_
   have HB := Rj
   clear xK xM yC Ad C9 D6 Fv TW XW n9_ Rj
   have hHeld : J6.cell? ⟨lq, 0, none⟩ = some (.slice Ll uP.length Lm) ∧ J6.cell? ⟨lq, 1, none⟩ = some (.slice Ez tZ.length EC) ∧ J6.cell? ⟨lq, 2, none⟩ = some (.slice Rq wz.length Rt) := hS_
   obtain ⟨D8, D9, ai0⟩ := Kd.aX xw.out
   (first | subst ai0 | (injection ai0 with sQ yO sS; have yP := sQ.symm; have yQ := sS.symm; clear sQ yO sS; subst yP; subst yQ))
   refine rW (a' := ?_) ?_ ?_
   rotate_left
   ·
    simp only [zH, Act.put, sK, sN, l_c]
    rfl
   refine o1 7 (fun K hK => ?_)
   refine Ac Tryz.func58 (by kernel_rfl) rfl #[.pointer (some ⟨g, 0, none⟩), .slice D8 aiY.length D9] (by rfl) rfl rfl ma ?_
   with_reducible refine (fV.calls w0 ?gJ ?jf ?Af ?D7 ?Ag A36.out).mono ?_
   (case gJ => exact pX)
   (case jf => exact pY)
   (case Af => repeat (first | exact (Kd.au xw.out).2.2 | (with_reducible refine Kd.pV ?_ _) | (with_reducible refine Kd.pW ?_ _) | (with_reducible refine Kd.sU ?_)))
   (case D7 => exact (Kd.au xw.out).2.1)
   (case Ag => exact oz (aI.own_ne HI0.out xw.out (by decide)))
   rintro e w62 ⟨rfl, hi, hb, hk⟩
   refine ⟨_, rfl, ?_⟩
   replace eG := kc eG hk t_
   replace gq := kc gq hk uf
   replace iH := ki (w0 := w0) (f0 := fO) (f1 := ZB) iH hk
   replace iD := ki (w0 := w0) (f0 := fO) (f1 := ZB) iD hk
   replace iM := ki (w0 := w0) (f0 := fO) (f1 := ZB) iM hk
   replace gu := kc gu hk ug
   replace qO := ki (w0 := w0) (f0 := fO) (f1 := ZB) qO hk
   replace xw := ki (w0 := w0) (f0 := fO) (f1 := ZB) xw hk
   replace HK := kt HK hk
   replace HB := ak (hb)
   replace HI0 := ak (hi)
   try clear hb
   try clear hk
   try clear hi
   refine hK.out _ _ sx (fun hHeld => ?_)
   clear hK K
   refine nrm ?_
   refine pl 8 ?_
   refine o1 9 (fun K hK => ?_)
   refine DN (w1 := ?_) (v := ?_) (by rfl) rfl ?_ ?_
   rotate_left 2
   ·
    go_simp
    constructor
    ·
     rfl
    ·
     rfl
   refine hK.out _ _ ⟨(aA (bn gu.out _) 0).trans rfl, (aA (bn gu.out _) 1).trans rfl, (aA (bn gu.out _) 2).trans rfl⟩ (fun hHeld => ?_)
   clear hK K
   refine nrm ?_
   refine o1 10 (fun K hK => ?_)
   refine Kd.oO pU w.heap.size (by rfl) (.tmp 23) (.tmp 31) 25 69 (.agg #[(.string ⟨#[]⟩), (.string ⟨#[]⟩)]) 32 rfl Tryz.underlying25 xB rfl (by decide) (by omega) (.slice Ll uP.length Lm) uP (⟨af9, aiZ⟩ : gK) [.string af9, .string aiZ] (fun _ => True) (fun _ => False) rfl rfl ?aP (fun _ hk => hk.elim) ?aF ?aO (Below.refl _ _) ?aS ?aL ?_
   (case aP => exact uU _ _ _ (⟨af9, aiZ⟩ : gK))
   (case aF => exact (fun _ _ => trivial))
   (case aO => exact (ur iH.out))
   (case aS => exact (dR (w := w) (g := g) (row := none) (kh HK.out)))
   (case aL => have := af_.out; omega)
   intro aIF w63 ho hb hg hat
   rw [← alZ.out] at ho
   have xK := ak (aI.grown pX hg (aI.own_ne HI0.out iH.out (by decide)))
   have xM := ak (bM (g := yJ) (o := .cells #[.slice vS pz.length vN, .slice vC oV.length vO, .slice vT oM.length vP] 28 (0, 0)) (ub eG.out) hg (Kd.nO iH.out eG.out (by decide)))
   have yC := ak (bM (g := vW) (o := .cells #[.slice none 0 0, .slice none 0 0, .slice none 0 0] 28 (0, 0)) (ub gq.out) hg (Kd.nO iH.out gq.out (by decide)))
   have Ad := ak (Kd.nZ (ur iD.out) (Kd.jM (ur iH.out)) (by decide) hg)
   have C9 := ak (Kd.qo (ok := (fun k_ => some k_ ≠ (.slice Ez tZ.length EC : Value).ownBlock ∧ some k_ ≠ (ZC : Value).ownBlock ∧ some k_ ≠ (.slice D8 aiY.length D9 : Value).ownBlock ∧ k_ ≠ yJ ∧ k_ ≠ vW ∧ k_ ≠ lq)) (ur (Kd.aY iM.out (fun _ hk => ⟨⟨hk.2.1, ⟨hk.2.2.1, ⟨hk.2.2.2.1, ⟨hk.2.2.2.2.1, ⟨hk.2.2.2.2.2.1, hk.2.2.2.2.2.2⟩⟩⟩⟩⟩, hk.1⟩))) hg hat)
   have D6 := ak (bM (g := lq) (o := .cells #[.slice Ll uP.length Lm, .slice Ez tZ.length EC, .slice Rq wz.length Rt] 28 (0, 0)) (ub gu.out) hg (Kd.nO iH.out gu.out (by decide)))
   have Fv := ak (Kd.nZ (ur qO.out) (Kd.jM (ur iH.out)) (by decide) hg)
   have TW := ak (Kd.nZ (ur xw.out) (Kd.jM (ur iH.out)) (by decide) hg)
   have XW := ak (wW pY HL.out hb)
   have n9_ := ak (aJ.trans (kh HK.out) (aJ.Ah hg g) (Kd.Hw iH.out))
   have Rj := ak (ho)
   clear HI0 eG gq iD iM gu qO xw HB HK iH
   have HI0 := xK
   have eG := xM
   have gq := yC
   have iD := Ad
   have iM := C9
   have gu := D6
   have qO := Fv
   have xw := TW
   have HB := XW
   have HK := n9_
   have avl := Rj
   clear xK xM yC Ad C9 D6 Fv TW XW n9_ Rj ho hb hg hat
   obtain ⟨aAF, aAG, avm⟩ := Kd.aX avl.out
   (first | subst avm | (injection avm with sQ yO sS; have yP := sQ.symm; have yQ := sS.symm; clear sQ yO sS; subst yP; subst yQ))
   refine hK.out _ _ sx (fun hHeld => ?_)
   clear hK K
   refine nrm ?_
   refine pl 11 ?_
   refine IE (i := 12) (N := none) #[true, true, true, true, true, true, true, true, true, true, true, true, true] rfl rfl (pR vk.out (by kernel_rfl)) (by decide) (fun K hK => ?_)
   have aIG : w63.cell? ⟨lq, 0, none⟩ = some (.slice Ll uP.length Lm) := (aA gu.out 0).trans rfl
   have aDr := iG gu.out 0
   have ayf := vH.out
   have ayg := vJ.out
   have ayh := vI.out
   have ayi := vK.out
   refine IG (w1 := ?_) (by rfl) rfl ?_ ?_
   rotate_left
   ·
    go_simp
    rfl
   refine hK.out _ _ ?_
   clear hK K
   refine II (zT vk.out (by kernel_rfl)) ?_
   have z66 := ku gu.out
   have aDs := uf.out
   have aDt := EN.out
   have z68 := ku gq.out
   try go_wp2
   refine bodyPost_ret (results_cell_row rfl _ _ vW 28 #[.slice aAF aAC.length aAG, .slice Ez tZ.length EC, .slice Rq wz.length Rt] (0, 0) _ rfl bq Tryz.underlying28 rfl (by kernel_rfl)) rfl ?_
   exact ⟨_, _, _, er, rr, rr, rr, pX, pY, kh HK.out⟩
  ·
   replace H := sq H
   rcases H with ⟨avn, avo, H⟩ | ⟨c69, avn, avo, H⟩
   ·
    replace H := bd H
    obtain ⟨⟨ai1, ai2, ai3, aIH⟩, A70, H⟩ := H
    (try dsimp only at H)
    replace H := nl H; obtain ⟨avp, H⟩ := H
    obtain ⟨aAH, al0⟩ := nm (wz ++ [(⟨ai1, ai2, ai3⟩ : mV)])
    rw [← al0.out] at H
    obtain ⟨rfl, rfl, rfl, rfl⟩ := s4 H
    go_enter Tryz.func68, Tryz.ntmps68
    try go_wp2_with (first | (refine bS HI0 HK HB HW0 3 #[.slice vS pz.length vN, .slice vC oV.length vO, .slice vT oM.length vP] 28 ?_; clear HI0 HK HB; intro yJ w72 eG af2 af4 EM t_ hg hb HI0 HK HB; clear hb hg) | (refine bS HI0 HK HB HW0 4 #[.slice none 0 0, .slice none 0 0, .slice none 0 0] 28 ?_; clear HI0 HK HB; intro vW w73 gq af5 af6 EN uf hg hb HI0 HK HB; have zM := Au eG hg; have zN := Aw eG hg; replace eG := kb eG hb; clear hb hg; have aDu := zM.out; have aDv := zN.out; have aDw := t_.out; have aDx := EM.out; have z76 := ku eG.out) | (refine gL 110 7 Tryz.func110 #[.agg #[.slice vS pz.length vN, .slice vC oV.length vO, .slice vT oM.length vP]] ?_; (with_reducible refine (dU.calls k _ _ pz _ _ oV _ _ oM uP tZ wz _ (Kd.wM O5.out (kh HK.out)) O6.out (by with_unfolding_all exact Kd.VX (⟨#[]⟩ : ByteArray) Rl.out (kh HK.out) aco) Rn.out (Kd.wM Uh.out (kh HK.out)) Ui.out A3.out).mono ?_); rintro e w77 ⟨aoK, aoL, aoM, rfl, ho0, ho1, ho2, hb⟩; refine ⟨_, rfl, ?_⟩; have iH := ak (Kd.aG ho0 (dR (w := w) (g := g) (row := none) (kh HK.out))); have iD := ak (Kd.aG ho1 (dR (w := w) (g := g) (row := none) (kh HK.out))); have iM := ak (Kd.aG (Kd.oI (Kd.oI ho2 (g := yJ) (o := .cells #[.slice vS pz.length vN, .slice vC oV.length vO, .slice vT oM.length vP] 28 (0, 0)) (ub eG.out)) (g := vW) (o := .cells #[.slice none 0 0, .slice none 0 0, .slice none 0 0] 28 (0, 0)) (ub gq.out)) (dR (w := w) (g := g) (row := none) (kh HK.out))); replace eG := kb eG hb; replace gq := kb gq hb; replace HK := ak (aJ.trans (kh HK.out) (aJ.of_below hb g none) (.inl rfl)); replace HB := ak (iL pY hb); replace HI0 := ak (aI.below pX hb); clear hb; (try clear ho0); (try clear ho1); (try clear ho2)) | (refine bS HI0 HK HB HW0 5 #[.slice none 0 0, .slice none 0 0, .slice none 0 0] 28 ?_; clear HI0 HK HB; intro lq w78 gu af7 af8 EO ug hg hb HI0 HK HB; have vH := Au eG hg; have vI := Aw eG hg; have vJ := Au gq hg; have vK := Aw gq hg; replace iH := rb iH hb; replace iD := rb iD hb; replace iM := ak (Kd.rD (Kd.wB (ur iM.out) lq (Nat.le_of_eq hg.symm)) hb); replace eG := kb eG hb; replace gq := kb gq hb; clear hb hg; obtain ⟨VY, VZ, aAI⟩ := Kd.aX iH.out; subst aAI; have aDy := vI.out; have aDz := vH.out; have auy := vK.out; have auz := vJ.out; have aDA := ug.out; have aDB := EO.out; have z83 := ku gu.out; obtain ⟨V3, V4, aAJ⟩ := Kd.aX iD.out; subst aAJ; obtain ⟨V5, V6, aAK⟩ := Kd.aX iM.out; subst aAK) | (refine gL 57 9 Tryz.func57 #[.pointer (some ⟨g, 0, none⟩), .int .i64 20] ?_; (with_reducible refine (dF.calls w0 ?gJ ?jf A4.out).mono ?_); (case gJ => exact pX); (case jf => exact pY); rintro e w86 ⟨rfl, hi, hb, hk⟩; refine ⟨_, rfl, ?_⟩; replace eG := kd_ eG #[.slice vS pz.length vN, .slice vC oV.length vO, .slice vT oM.length vP] hk t_; replace gq := kd_ gq #[.slice none 0 0, .slice none 0 0, .slice none 0 0] hk uf; replace iH := ki (w0 := w0) (f0 := fO) (f1 := kZ) iH hk; replace iD := ki (w0 := w0) (f0 := fO) (f1 := kZ) iD hk; replace iM := ak (Kd.aY (Kd.Jf (aI.apart (show aI w0 _ g fO kZ from pX) (ur (Kd.aY (Kd.jy (p := ⟨lq, 2, none⟩) (Kd.jy (p := ⟨lq, 1, none⟩) (Kd.jy (p := ⟨lq, 0, none⟩) (Kd.aY iM.out (fun k_ hk => (⟨hk, hk.2⟩ : _ ∧ k_ ≠ lq))) (fun _ hk => hk.2) (.slice VY uP.length VZ)) (fun _ hk => hk.2) (.slice V3 tZ.length V4)) (fun _ hk => hk.2) (.slice V5 wz.length V6)) (fun _ h_ => h_.1))) (by decide)) hk (fun _ h => h.2)) (fun _ h => h.1)); replace gu := kd_ gu #[.slice VY uP.length VZ, .slice V3 tZ.length V4, .slice V5 wz.length V6] hk ug; replace HK := kt HK hk; replace HB := ak (hb); replace HI0 := ak (hi); clear hb; (try clear hk); (try clear hi)))
    replace iH := ak (Kd.jX iH.out)
    replace iD := ak (Kd.jX iD.out)
    replace iM := ak (Kd.jX iM.out)
    replace eG := ak (bH eG.out)
    replace gq := ak (bH gq.out)
    replace gu := ak (bH gu.out)
    replace HI0 := ak (aI.drew HI0.out)
    replace HK := ak (zI HK.out)
    replace HB := ak (iy HB.out)
    refine DL (n := 8) (S := fun w' => w'.cell? ⟨lq, 0, none⟩ = some (.slice VY uP.length VZ) ∧ w'.cell? ⟨lq, 1, none⟩ = some (.slice V3 tZ.length V4) ∧ w'.cell? ⟨lq, 2, none⟩ = some (.slice V5 wz.length V6)) (ds := [7]) #[false, false, false, false, false, false, false, false] (by kernel_rfl) rfl rfl ⟨(aA gu.out 0).trans rfl, (aA gu.out 1).trans rfl, (aA gu.out 2).trans rfl⟩ (fun hHeld => ?_); refine vF dP.ada dP.TT (fun vk Za => ?_)
    generalize w86.drew = w87 at iH iD iM eG gq gu HI0 HK HB hHeld ⊢
    refine pl 0 ?_
    refine pl 2 ?_
    refine tk 1 ?_
    refine o1 3 (fun K hK => ?_)
    refine Ac Tryz.func98 (by kernel_rfl) rfl #[.pointer (some ⟨g, 0, none⟩)] (by rfl) rfl rfl ma ?_
    with_reducible refine (iJ.calls w0 ?gJ ?jf A70.out).mono ?_
    (case gJ => exact pX)
    (case jf => exact pY)
    rintro e w88 ⟨aII, aIJ, aIK, rfl, ho0, ho1, ho2, hi, hb, hk⟩
    refine ⟨_, rfl, ?_⟩
    have agd := ak (Kd.aG (Kd.fK ho0 (Kd.jH (ur iH.out))) (dR (w := w) (g := g) (row := none) (kh HK.out)))
    have agf := ak (Kd.aG (Kd.fK ho1 (Kd.jH (ur iD.out))) (dR (w := w) (g := g) (row := none) (kh HK.out)))
    have agh := ak (Kd.aG (Kd.oI (Kd.oI (Kd.oI (Kd.fK (Kd.fK (Kd.fK ho2 (Kd.jH (ur iH.out))) (Kd.jH (ur iD.out))) (Kd.jH (ur iM.out))) (g := yJ) (o := .cells #[.slice vS pz.length vN, .slice vC oV.length vO, .slice vT oM.length vP] 28 (0, 0)) (ub eG.out)) (g := vW) (o := .cells #[.slice none 0 0, .slice none 0 0, .slice none 0 0] 28 (0, 0)) (ub gq.out)) (g := lq) (o := .cells #[.slice VY uP.length VZ, .slice V3 tZ.length V4, .slice V5 wz.length V6] 28 (0, 0)) (ub gu.out)) (dR (w := w) (g := g) (row := none) (kh HK.out)))
    replace eG := kc eG hk t_
    replace gq := kc gq hk uf
    replace iH := kj iH hk ho0
    replace iD := kj iD hk ho1
    replace iM := ak (Kd.aY (Kd.qR (Kd.qR (Kd.qR (Kd.NS (aI.apart (show aI w0 _ g fO EL from pX) (ur iM.out) (by decide)) hk) (Kd.eH ho0)) (Kd.eH ho1)) (Kd.eH ho2)) (fun _ h_ => h_.1))
    replace gu := kc gu hk ug
    replace HK := kt HK hk
    replace HB := ak (hb)
    replace HI0 := ak (hi)
    try clear hb
    try clear hk
    try clear hi
    try clear ho0
    try clear ho1
    try clear ho2
    obtain ⟨aAL, aAM, avq⟩ := Kd.aX agd.out
    (first | subst avq | (injection avq with sQ yO sS; have yP := sQ.symm; have yQ := sS.symm; clear sQ yO sS; subst yP; subst yQ))
    obtain ⟨aAN, aAO, avr⟩ := Kd.aX agf.out
    (first | subst avr | (injection avr with sQ yO sS; have yP := sQ.symm; have yQ := sS.symm; clear sQ yO sS; subst yP; subst yQ))
    obtain ⟨aAP, aAQ, avs⟩ := Kd.aX agh.out
    (first | subst avs | (injection avs with sQ yO sS; have yP := sQ.symm; have yQ := sS.symm; clear sQ yO sS; subst yP; subst yQ))
    refine hK.out _ _ sx (fun hHeld => ?_)
    clear hK K
    refine nrm ?_
    refine o1 4 (fun K hK => ?_)
    refine DN (w1 := ?_) (v := ?_) (by rfl) rfl ?_ ?_
    rotate_left 2
    ·
     go_simp
     constructor
     ·
      rfl
     ·
      rfl
    refine hK.out _ _ ⟨(aA (bn gu.out _) 0).trans rfl, (aA (bn gu.out _) 1).trans rfl, (aA (bn gu.out _) 2).trans rfl⟩ (fun hHeld => ?_)
    clear hK K
    refine nrm ?_
    refine o1 5 (fun K hK => ?_)
    refine Kd.oO k28 w.heap.size (by rfl) (.tmp 37) (.tmp 40) 26 28 (.agg #[(.slice none 0 0), (.slice none 0 0), (.slice none 0 0)]) 72 rfl Tryz.underlying26 U0 rfl (by decide) (by omega) (.slice V5 wz.length V6) wz (⟨ai1, ai2, ai3⟩ : mV) [.slice aAL ai1.length aAM, .slice aAN ai2.length aAO, .slice aAP ai3.length aAQ] (fun k_ => some k_ ≠ (.slice VY uP.length VZ : Value).ownBlock ∧ some k_ ≠ (.slice V3 tZ.length V4 : Value).ownBlock ∧ k_ ≠ yJ ∧ k_ ≠ vW ∧ k_ ≠ lq) (fun k_ => ((fun k_ => some k_ ≠ (.slice VY uP.length VZ : Value).ownBlock ∧ some k_ ≠ (.slice V3 tZ.length V4 : Value).ownBlock ∧ k_ ≠ yJ ∧ k_ ≠ vW ∧ k_ ≠ lq)) k_ ∧ some k_ ≠ (.slice V5 wz.length V6 : Value).ownBlock) rfl rfl ?aP (fun _ hk => hk) ?aF ?aO (Below.refl _ _) ?aS ?aL ?_
    (case aP => exact P8 _ _ _ (⟨ai1, ai2, ai3⟩ : mV) (Kd.aY (Kd.kE (Kd.kE (Kd.kE (Kd.qF (Kd.qF (agd.out) (Kd.jM iD.out) (by decide)) (Kd.jM iM.out) (by decide)) eG.out (by decide)) gq.out (by decide)) gu.out (by decide)) (fun k_ hk => ⟨⟨hk.1.1.1.1.1.2, ⟨hk.1.1.1.1.2, ⟨hk.1.1.2, ⟨hk.1.2, hk.2⟩⟩⟩⟩, hk.1.1.1.2⟩)) (Kd.aY (Kd.kE (Kd.kE (Kd.kE (Kd.qF (Kd.qF (agf.out) (Kd.jM iH.out) (by decide)) (Kd.jM iM.out) (by decide)) eG.out (by decide)) gq.out (by decide)) gu.out (by decide)) (fun k_ hk => ⟨⟨hk.1.1.1.1.2, ⟨hk.1.1.1.1.1.2, ⟨hk.1.1.2, ⟨hk.1.2, hk.2⟩⟩⟩⟩, hk.1.1.1.2⟩)) (Kd.aY (agh.out) (fun k_ hk => ⟨⟨hk.1.1.1.1.1.2, ⟨hk.1.1.1.1.2, ⟨hk.1.1.2, ⟨hk.1.2, hk.2⟩⟩⟩⟩, hk.1.1.1.2⟩)))
    (case aF => exact (fun k_ hk => ⟨Kd.fresh' (Kd.jH (ur iH.out)) k_ hk, Kd.fresh' (Kd.jH (ur iD.out)) k_ hk, Kd.zF (g := yJ) (o := .cells #[.slice vS pz.length vN, .slice vC oV.length vO, .slice vT oM.length vP] 28 (0, 0)) (ub eG.out) k_ hk, Kd.zF (g := vW) (o := .cells #[.slice none 0 0, .slice none 0 0, .slice none 0 0] 28 (0, 0)) (ub gq.out) k_ hk, Kd.zF (g := lq) (o := .cells #[.slice VY uP.length VZ, .slice V3 tZ.length V4, .slice V5 wz.length V6] 28 (0, 0)) (ub gu.out) k_ hk⟩))
    (case aO => exact (ur (Kd.aY iM.out (fun _ hk => ⟨hk.1.1.1.1.1.1.1, ⟨hk.1.1.1.1.1.1.2, ⟨hk.1.1.1.1.1.2, ⟨hk.1.1.1.1.2, hk.1.1.1.2⟩⟩⟩⟩))))
    (case aS => exact (dR (w := w) (g := g) (row := none) (kh HK.out)))
    (case aL => have := avp.out; omega)
    intro aIL w89 ho hb hg hat
    rw [← al0.out] at ho
    have xK := ak (aI.grown pX hg (aI.own_ne HI0.out iM.out (by decide)))
    have xM := ak (bM (g := yJ) (o := .cells #[.slice vS pz.length vN, .slice vC oV.length vO, .slice vT oM.length vP] 28 (0, 0)) (ub eG.out) hg (Kd.Az iM.out (fun _ hk => hk.1.1.1.1.1.2)))
    have yC := ak (bM (g := vW) (o := .cells #[.slice none 0 0, .slice none 0 0, .slice none 0 0] 28 (0, 0)) (ub gq.out) hg (Kd.Az iM.out (fun _ hk => hk.1.1.1.1.2)))
    have Ad := ak (Kd.nZ (ur iH.out) (Kd.jM (ur iM.out)) (by decide) hg)
    have C9 := ak (Kd.nZ (ur iD.out) (Kd.jM (ur iM.out)) (by decide) hg)
    have D6 := ak (bM (g := lq) (o := .cells #[.slice VY uP.length VZ, .slice V3 tZ.length V4, .slice V5 wz.length V6] 28 (0, 0)) (ub gu.out) hg (Kd.Az iM.out (fun _ hk => hk.1.1.1.2)))
    have Fv := ak (wW pY HL.out hb)
    have TW := ak (aJ.trans (kh HK.out) (aJ.Ah hg g) (Kd.Hw iM.out))
    have XW := ak (ho)
    clear HI0 eG gq iH iD gu HB HK iM agd agf agh
    have HI0 := xK
    have eG := xM
    have gq := yC
    have iH := Ad
    have iD := C9
    have gu := D6
    have HB := Fv
    have HK := TW
    have avt := XW
    clear xK xM yC Ad C9 D6 Fv TW XW ho hb hg hat
    obtain ⟨aAR, aAS, avu⟩ := Kd.aX avt.out
    (first | subst avu | (injection avu with sQ yO sS; have yP := sQ.symm; have yQ := sS.symm; clear sQ yO sS; subst yP; subst yQ))
    refine hK.out _ _ sx (fun hHeld => ?_)
    clear hK K
    refine nrm ?_
    refine pl 6 ?_
    refine IE (i := 7) (N := none) #[true, true, true, true, true, true, true, true] rfl rfl (pR vk.out (by kernel_rfl)) (by decide) (fun K hK => ?_)
    have aIM : w89.cell? ⟨lq, 2, none⟩ = some (.slice V5 wz.length V6) := (aA gu.out 2).trans rfl
    have aDC := iG gu.out 2
    have ayj := vH.out
    have ayk := vJ.out
    have ayl := vI.out
    have aym := vK.out
    refine IG (w1 := ?_) (by rfl) rfl ?_ ?_
    rotate_left
    ·
     go_simp
     rfl
    refine hK.out _ _ ?_
    clear hK K
    refine II (zT vk.out (by kernel_rfl)) ?_
    have z95 := ku gu.out
    have aDD := uf.out
    have aDE := EN.out
    have z97 := ku gq.out
    try go_wp2
    refine bodyPost_ret (results_cell_row rfl _ _ vW 28 #[.slice VY uP.length VZ, .slice V3 tZ.length V4, .slice aAR aAH.length aAS] (0, 0) _ rfl bq Tryz.underlying28 rfl (by kernel_rfl)) rfl ?_
    exact ⟨_, _, _, er, rr, rr, rr, pX, pY, kh HK.out⟩
   ·
    obtain ⟨rfl, rfl, rfl, rfl⟩ := s4 H
    go_enter Tryz.func68, Tryz.ntmps68
    go_wp2_with (first | (refine bS HI0 HK HB HW0 3 #[.slice vS pz.length vN, .slice vC oV.length vO, .slice vT oM.length vP] 28 ?_; clear HI0 HK HB; intro yJ w98 eG af2 af4 EM t_ hg hb HI0 HK HB; clear hb hg) | (refine bS HI0 HK HB HW0 4 #[.slice none 0 0, .slice none 0 0, .slice none 0 0] 28 ?_; clear HI0 HK HB; intro vW w99 gq af5 af6 EN uf hg hb HI0 HK HB; have zM := Au eG hg; have zN := Aw eG hg; replace eG := kb eG hb; clear hb hg; have aAT := zM.out; have aAU := zN.out; have aAV := t_.out; have aAW := EM.out; have aIN := ku eG.out) | (refine gL 110 7 Tryz.func110 #[.agg #[.slice vS pz.length vN, .slice vC oV.length vO, .slice vT oM.length vP]] ?_; (with_reducible refine (dU.calls k _ _ pz _ _ oV _ _ oM uP tZ wz _ (Kd.wM O5.out (kh HK.out)) O6.out (by with_unfolding_all exact Kd.VX (⟨#[]⟩ : ByteArray) Rl.out (kh HK.out) aco) Rn.out (Kd.wM Uh.out (kh HK.out)) Ui.out A3.out).mono ?_); rintro e aIO ⟨aoK, aoL, aoM, rfl, ho0, ho1, ho2, hb⟩; refine ⟨_, rfl, ?_⟩; have iH := ak (Kd.aG ho0 (dR (w := w) (g := g) (row := none) (kh HK.out))); have iD := ak (Kd.aG ho1 (dR (w := w) (g := g) (row := none) (kh HK.out))); have iM := ak (Kd.aG (Kd.oI (Kd.oI ho2 (g := yJ) (o := .cells #[.slice vS pz.length vN, .slice vC oV.length vO, .slice vT oM.length vP] 28 (0, 0)) (ub eG.out)) (g := vW) (o := .cells #[.slice none 0 0, .slice none 0 0, .slice none 0 0] 28 (0, 0)) (ub gq.out)) (dR (w := w) (g := g) (row := none) (kh HK.out))); replace eG := kb eG hb; replace gq := kb gq hb; replace HK := ak (aJ.trans (kh HK.out) (aJ.of_below hb g none) (.inl rfl)); replace HB := ak (iL pY hb); replace HI0 := ak (aI.below pX hb); clear hb; (try clear ho0); (try clear ho1); (try clear ho2)) | (refine bS HI0 HK HB HW0 5 #[.slice none 0 0, .slice none 0 0, .slice none 0 0] 28 ?_; clear HI0 HK HB; intro lq aIP gu af7 af8 EO ug hg hb HI0 HK HB; have vH := Au eG hg; have vI := Aw eG hg; have vJ := Au gq hg; have vK := Aw gq hg; replace iH := rb iH hb; replace iD := rb iD hb; replace iM := ak (Kd.rD (Kd.wB (ur iM.out) lq (Nat.le_of_eq hg.symm)) hb); replace eG := kb eG hb; replace gq := kb gq hb; clear hb hg; obtain ⟨agi, agj, avv⟩ := Kd.aX iH.out; subst avv; have aAX := vI.out; have aAY := vH.out; have aAZ := vK.out; have aA0 := vJ.out; have aA1 := ug.out; have aA2 := EO.out; have z109 := ku gu.out; obtain ⟨agk, agl, avw⟩ := Kd.aX iD.out; subst avw; obtain ⟨agm, agn, avx⟩ := Kd.aX iM.out; subst avx) | (refine gL 57 9 Tryz.func57 #[.pointer (some ⟨g, 0, none⟩), .int .i64 20] ?_; (with_reducible refine (dF.calls w0 ?gJ ?jf A4.out).mono ?_); (case gJ => exact pX); (case jf => exact pY); rintro e aIQ ⟨rfl, hi, hb, hk⟩; refine ⟨_, rfl, ?_⟩; replace eG := kd_ eG #[.slice vS pz.length vN, .slice vC oV.length vO, .slice vT oM.length vP] hk t_; replace gq := kd_ gq #[.slice none 0 0, .slice none 0 0, .slice none 0 0] hk uf; replace iH := ki (w0 := w0) (f0 := fO) (f1 := kZ) iH hk; replace iD := ki (w0 := w0) (f0 := fO) (f1 := kZ) iD hk; replace iM := ak (Kd.aY (Kd.Jf (aI.apart (show aI w0 _ g fO kZ from pX) (ur (Kd.aY (Kd.jy (p := ⟨lq, 2, none⟩) (Kd.jy (p := ⟨lq, 1, none⟩) (Kd.jy (p := ⟨lq, 0, none⟩) (Kd.aY iM.out (fun k_ hk => (⟨hk, hk.2⟩ : _ ∧ k_ ≠ lq))) (fun _ hk => hk.2) (.slice agi uP.length agj)) (fun _ hk => hk.2) (.slice agk tZ.length agl)) (fun _ hk => hk.2) (.slice agm wz.length agn)) (fun _ h_ => h_.1))) (by decide)) hk (fun _ h => h.2)) (fun _ h => h.1)); replace gu := kd_ gu #[.slice agi uP.length agj, .slice agk tZ.length agl, .slice agm wz.length agn] hk ug; replace HK := kt HK hk; replace HB := ak (hb); replace HI0 := ak (hi); clear hb; (try clear hk); (try clear hi); have aIR := ku gu.out; have aA3 := uf.out; have aA4 := EN.out; have aIS := ku gq.out))
    refine bodyPost_ret (results_cell_row rfl _ _ vW 28 #[.slice agi uP.length agj, .slice agk tZ.length agl, .slice agm wz.length agn] (0, 0) _ rfl bq Tryz.underlying28 rfl (by kernel_rfl)) rfl ?_
    exact ⟨_, _, _, er, rr, rr, rr, pX, pY, kh HK.out⟩
end Go.Proofs.YtncdadcmghglkaaGreatDoor.PFnPartValid
