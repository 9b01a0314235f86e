/- Printed walks; conditions: those in each statement. -/
import Derived.Test.YtncdadcmghglkaaGreatDoorVFnPartLinesQt
import Derived.Test.YtncdadcmghglkaaGreatDoorVFnPartLinesYt
import Derived.Test.YtncdadcmghglkaaGreatDoorPFnPartLinesx0
import Derived.Test.YtncdadcmghglkaaGreatDoorPFnPartLinesx1
import Derived.Test.YtncdadcmghglkaaGreatDoorPFnPartLinesx8
import Derived.Test.YtncdadcmghglkaaGreatDoorPFnPartLinesx9
-- short
-- dense
-- sq
-- sq2
namespace Go.Proofs.YtncdadcmghglkaaGreatDoor.PFnPartLines
open Go.RowKit Go.Proofs.YtncdadcmghglkaaGreatDoor.X Go.Proofs.YtncdadcmghglkaaGreatDoorW.bI Go.Proofs.YtncdadcmghglkaaGreatDoorW.iy Go.Proofs.YtncdadcmghglkaaGreatDoorW.iZ
attribute [local go_sem] kZ lg nK nM jW jX lq lu   -- for this text's walks alone
set_option linter.unusedVariables false
set_option maxHeartbeats 8000000
set_option maxRecDepth 100000
set_option linter.unusedSimpArgs false
def dN.f (k : Nat) (fB : List Int) (ku : Int) (uX : List (gX)) (uw : List ByteArray) (uY : List (nG)) : Option ((List (gX)) × List ByteArray × (List (nG)) × Int) := (dI.f k uX uw uY).bind fun Aa => ((b_.f k fB ku 20).bind fun OW => (if OW.1 = 0 then ((fH.f k fB OW.2 (([(⟨#[10]⟩ : ByteArray), (⟨#[120]⟩ : ByteArray)] : List ByteArray))).bind fun ahW => (if Aa.2.1.length < 8796093022208 then (some (Aa.1, (Aa.2.1 ++ [ahW.1]), Aa.2.2, ahW.2)) else (none))) else (if OW.1 = 1 then ((fH.f k fB OW.2 (([(⟨#[97, 32, 98]⟩ : ByteArray), (⟨#[79, 107]⟩ : ByteArray)] : List ByteArray))).bind fun ahX => ((fH.f k fB ahX.2 (([(⟨#[32, 120]⟩ : ByteArray), (⟨#[120]⟩ : ByteArray)] : List ByteArray))).bind fun ahY => (if Aa.1.length < 4398046511104 then (some ((Aa.1 ++ [(⟨ahX.1, ahY.1⟩ : gX)]), Aa.2.1, Aa.2.2, ahY.2)) else (none)))) else (if OW.1 = 2 then ((iC.f k fB OW.2).bind fun YP => (if Aa.2.2.length < 1954687338268 then (some (Aa.1, Aa.2.1, (Aa.2.2 ++ [(⟨YP.1, YP.2.1, YP.2.2.1⟩ : nG)]), YP.2.2.2)) else (none))) else (some (Aa.1, Aa.2.1, Aa.2.2, OW.2))))))
def dN.T4 : Bool × List (List Nat × List Nat) := (true, [([], []), ([0], [0]), ([], []), ([], []), ([2, 3], [2, 3]), ([4], [4]), ([1, 5, 4], [1, 5]), ([0, 1, 2, 3, 4, 5, 6], []), ([7, 6, 6, 0, 1, 2, 3, 4, 5, 6], [6, 7])])
def dN.B4 : List Nat := [0, 1, 0, 0, 12, 28, 63, 127, 255]
theorem dN.axJ : rU .any (opsOf Tryz.f68 4) = dN.T4 := by kernel_rfl
theorem dN.aoG : nD dN.T4.2 dN.B4 = true := by kernel_rfl
def dN.T6 : Bool × List (List Nat × List Nat) := (true, [([], []), ([0], [0]), ([], []), ([], []), ([2, 3], [2, 3]), ([], []), ([], []), ([5, 6, 4], [5, 6]), ([4, 7], [4, 7]), ([8], [8]), ([1, 9, 7], [1, 9]), ([0, 1, 2, 3, 4, 5, 6, 7, 8, 9, 10], []), ([11, 10, 10, 0, 1, 2, 3, 4, 5, 6, 7, 8, 9, 10], [10, 11])])
def dN.B6 : List Nat := [0, 1, 0, 0, 12, 0, 0, 124, 252, 508, 1023, 2047, 4095]
theorem dN.tab6 : rU .any (opsOf Tryz.f68 6) = dN.T6 := by kernel_rfl
theorem dN.ahZ : nD dN.T6.2 dN.B6 = true := by kernel_rfl
def dN.T8 : Bool × List (List Nat × List Nat) := (true, [([], []), ([0], [0]), ([], []), ([2], [2]), ([3], [3]), ([1, 4, 3], [1, 4]), ([0, 1, 2, 3, 4, 5], []), ([6, 5, 5, 0, 1, 2, 3, 4, 5], [5, 6])])
def dN.B8 : List Nat := [0, 1, 0, 4, 12, 31, 63, 127]
theorem dN.abl : rU .any (opsOf Tryz.f68 8) = dN.T8 := by kernel_rfl
theorem dN.Rf : nD dN.T8.2 dN.B8 = true := by kernel_rfl
theorem dN.calls {k g y9 zf zh : Nat} {fB : List Int} {ku r4 : Int} {zk yM zl : Option Addr} {uX r1 : List (gX)} {uw r2 : List ByteArray} {uY r3 : List (nG)} {w : World} (w0 : World) (hI : aN w0 w g fB ku) (hB : Below w0.heap.size w0 w) (ah0 : ∀ W_, aJ w W_ g none → Kd.C qI W_ zk uX.length uX) (ah1 : uX.length ≤ y9) (ah2 : Kd.C Kd.string w yM uw.length uw) (ah3 : uw.length ≤ zf) (YQ : ∀ ad, yM = some ad → 0 < uw.length → ad.block ≠ g) (ah4 : ∀ W_, aJ w W_ g none → Kd.C k28 W_ zl uY.length uY) (ah5 : uY.length ≤ zh) (h : dN.f k fB ku uX uw uY = some (r1, r2, r3, r4)) :
  Calls Tryz.prog 68 #[.pointer (some ⟨g, 0, none⟩), .agg #[.slice zk uX.length y9, .slice yM uw.length zf, .slice zl uY.length zh]] w fun e w' => ∃ oV Di EG : Value, e = .returned (.agg #[oV, Di, EG]) ∧ Kd.R qI 69 w' w.heap.size (fun _ => True) oV r1 ∧ Kd.R Kd.string 9 w' w.heap.size (fun _ => True) Di r2 ∧ Kd.R k28 28 w' w.heap.size (fun k_ => some k_ ≠ (oV : Value).ownBlock ∧ some k_ ≠ (Di : Value).ownBlock) EG r3 ∧ aN w0 w' g fB r4 ∧ Below w0.heap.size w0 w' ∧ aJ w w' g none := by
 have EH := Tryz.underlying28
 have Dn := Tryz.underlying69
 have YR := ak ah0
 have YS := ak ah1
 clear ah0 ah1
 have YT := ak ah2
 have YU := ak ah3
 clear ah2 ah3
 have YV := ak ah4
 have YW := ak ah5
 clear ah4 ah5
 have HI0 := ak hI
 have HK := ak (aJ.refl w g none)
 have HL := ak hB.size
 clear hI
 have HW0 := ak hB.size
 have HB := ak hB
 clear hB
 unfold dN.f at h; have H := h
 clear h
 replace H := bd H
 obtain ⟨⟨sF, qU, uo⟩, A3, H⟩ := H
 (try dsimp only at H)
 replace H := bd H
 obtain ⟨⟨aDp, Dp⟩, A4, H⟩ := H
 (try dsimp only at H)
 replace H := sq H
 rcases H with ⟨mW, IY, H⟩ | ⟨c5, mW, IY, H⟩
 ·
  obtain ⟨alv, acJ⟩ := nm ([(⟨#[10]⟩ : ByteArray), (⟨#[120]⟩ : ByteArray)] : List ByteArray)
  rw [← acJ.out] at H
  replace H := bd H
  obtain ⟨⟨alx, aDq⟩, A6, H⟩ := H
  (try dsimp only at H)
  replace H := nl H; obtain ⟨aly, H⟩ := H
  obtain ⟨axK, ah6⟩ := nm (qU ++ [alx])
  rw [← ah6.out] at H
  obtain ⟨rfl, rfl, rfl, rfl⟩ := s4 H
  go_enter Tryz.func68, Tryz.ntmps68
  try go_wp2_with (first | (refine bS HI0 HK HB HW0 3 #[.slice zk uX.length y9, .slice yM uw.length zf, .slice zl uY.length zh] 28 ?_; clear HI0 HK HB; intro wz w8 dV acK acL Dq qV hg hb HI0 HK HB; clear hb hg) | (refine bS HI0 HK HB HW0 4 #[.slice none 0 0, .slice none 0 0, .slice none 0 0] 28 ?_; clear HI0 HK HB; intro uf w9 fM acM acN Dt qW hg hb HI0 HK HB; have xR := Ba dV hg; have xU := Bc dV hg; replace dV := kb dV hb; clear hb hg; have aAD := xR.out; have aAE := xU.out; have aoH := qV.out; have aoI := Dq.out; have z12 := kK dV.out) | (refine gL 110 7 Tryz.func110 #[.agg #[.slice zk uX.length y9, .slice yM uw.length zf, .slice zl uY.length zh]] ?_; (with_reducible refine (dI.calls k _ _ uX _ _ uw _ _ uY sF qU uo _ (Kd.uy YR.out (kh HK.out)) YS.out (by with_unfolding_all exact Kd.Ti (⟨#[]⟩ : ByteArray) YT.out (kh HK.out) YQ) YU.out (Kd.uy YV.out (kh HK.out)) YW.out A3.out).mono ?_); rintro e w13 ⟨alz, alA, alB, rfl, ho0, ho1, ho2, hb⟩; refine ⟨_, rfl, ?_⟩; have iq := ak (Kd.aC ho0 (dG (w := w) (g := g) (row := none) (kh HK.out))); have gQ := ak (Kd.aC ho1 (dG (w := w) (g := g) (row := none) (kh HK.out))); have iE := ak (Kd.aC (Kd.nH (Kd.nH ho2 (g := wz) (o := .cells #[.slice zk uX.length y9, .slice yM uw.length zf, .slice zl uY.length zh] 28 (0, 0)) (ub dV.out)) (g := uf) (o := .cells #[.slice none 0 0, .slice none 0 0, .slice none 0 0] 28 (0, 0)) (ub fM.out)) (dG (w := w) (g := g) (row := none) (kh HK.out))); replace dV := kb dV hb; replace fM := kb fM hb; replace HK := ak (aJ.trans (kh HK.out) (aJ.of_below hb g none) (.inl rfl)); replace HB := ak (iD oJ hb); replace HI0 := ak (aN.below oI hb); clear hb; (try clear ho0); (try clear ho1); (try clear ho2)) | (refine bS HI0 HK HB HW0 5 #[.slice none 0 0, .slice none 0 0, .slice none 0 0] 28 ?_; clear HI0 HK HB; intro kC SS fO acO acP Du qX hg hb HI0 HK HB; have tC := Ba dV hg; have tH := Bc dV hg; have tJ := Ba fM hg; have tK := Bc fM hg; replace iq := rb iq hb; replace gQ := rb gQ hb; replace iE := ak (Kd.sQ (Kd.yJ (ur iE.out) kC (Nat.le_of_eq hg.symm)) hb); replace dV := kb dV hb; replace fM := kb fM hb; clear hb hg; obtain ⟨KZ, K_, S9⟩ := Kd.aI iq.out; subst S9; have aAF := tH.out; have aAG := tC.out; have ah7 := tK.out; have ah8 := tJ.out; have aoJ := qX.out; have aoK := Du.out; have z19 := kK fO.out; obtain ⟨NM, NP, Tj⟩ := Kd.aI gQ.out; subst Tj; obtain ⟨KX, KY, SV⟩ := Kd.aI iE.out; subst SV) | (refine gL 57 9 Tryz.func57 #[.pointer (some ⟨g, 0, none⟩), .int .i64 20] ?_; (with_reducible refine (b_.calls w0 ?fZ ?jc A4.out).mono ?_); (case fZ => exact oI); (case jc => exact oJ); rintro e YX ⟨rfl, hi, hb, hk⟩; refine ⟨_, rfl, ?_⟩; replace dV := U2 dV #[.slice zk uX.length y9, .slice yM uw.length zf, .slice zl uY.length zh] hk qV; replace fM := U2 fM #[.slice none 0 0, .slice none 0 0, .slice none 0 0] hk qW; replace iq := ki (w0 := w0) (f0 := fB) (f1 := ku) iq hk; replace gQ := ki (w0 := w0) (f0 := fB) (f1 := ku) gQ hk; replace iE := ak (Kd.aY (Kd.H6 (aN.apart (show aN w0 _ g fB ku from oI) (ur (Kd.aY (Kd.lK (p := ⟨kC, 2, none⟩) (Kd.lK (p := ⟨kC, 1, none⟩) (Kd.lK (p := ⟨kC, 0, none⟩) (Kd.aY iE.out (fun k_ hk => (⟨hk, hk.2⟩ : _ ∧ k_ ≠ kC))) (fun _ hk => hk.2) (.slice KZ sF.length K_)) (fun _ hk => hk.2) (.slice NM qU.length NP)) (fun _ hk => hk.2) (.slice KX uo.length KY)) (fun _ h_ => h_.1))) (by decide)) hk (fun _ h => h.2)) (fun _ h => h.1)); replace fO := U2 fO #[.slice KZ sF.length K_, .slice NM qU.length NP, .slice KX uo.length KY] hk qX; replace HK := kt HK hk; replace HB := ak (hb); replace HI0 := ak (hi); clear hb; (try clear hk); (try clear hi)))
  replace iq := ak (Kd.fV iq.out)
  replace gQ := ak (Kd.fV gQ.out)
  replace iE := ak (Kd.fV iE.out)
  replace dV := ak (iQ dV.out)
  replace fM := ak (iQ fM.out)
  replace fO := ak (iQ fO.out)
  replace HI0 := ak (aN.drew HI0.out)
  replace HK := ak (xW HK.out)
  replace HB := ak (fQ HB.out)
  refine Ce (n := 9) (S := fun w' => w'.cell? ⟨kC, 0, none⟩ = some (.slice KZ sF.length K_) ∧ w'.cell? ⟨kC, 1, none⟩ = some (.slice NM qU.length NP) ∧ w'.cell? ⟨kC, 2, none⟩ = some (.slice KX uo.length KY)) (ds := [8]) #[false, false, false, false, false, false, false, false, false] (by kernel_rfl) rfl rfl ⟨(aA fO.out 0).trans rfl, (aA fO.out 1).trans rfl, (aA fO.out 2).trans rfl⟩ (fun hHeld => ?_); refine tN dN.axJ dN.aoG (fun D8 HW_ => ?_)
  generalize YX.drew = w23 at iq gQ iE dV fM fO HI0 HK HB hHeld ⊢
  refine pl 0 ?_
  refine pl 2 ?_
  refine tk 1 ?_
  refine o1 3 (fun K hK => ?_)
  refine Kd.qC Kd.string _ 9 ?hg (N := 15) ?hd (xs := ([(⟨#[10]⟩ : ByteArray), (⟨#[120]⟩ : ByteArray)] : List ByteArray)) (inner := [.string (⟨#[10]⟩ : ByteArray), .string (⟨#[120]⟩ : ByteArray)]) (ok := fun _ => True) (vM := fun _ => True) ?hr ?hp (fun _ hk => hk) trivial (Below.refl _ _) (Nat.le_refl _) (by simp) ?_; (case hd => rfl); (case hg => rfl); (case hr => first | (go_simp; done) | (go_simp; rfl)); (case hp => exact (dh.one (show Kd.M Kd.string _ _ _ (⟨#[10]⟩ : ByteArray) [.string (⟨#[10]⟩ : ByteArray)] from rfl) (dh.one (show Kd.M Kd.string _ _ _ (⟨#[120]⟩ : ByteArray) [.string (⟨#[120]⟩ : ByteArray)] from rfl) (dh.none _ _))))
  intro aDr w24 OX hb CB vS
  clear CB vS
  (first | rw [← acJ.out] at OX | (simp only [Int.reduceToNat] at OX; rw [← acJ.out] at OX))
  have GV := ak (Kd.aC (Kd.dR OX (Kd.jh (ur gQ.out))) (dG (w := w) (g := g) (row := none) (kh HK.out)))
  replace iq := rb iq hb
  replace gQ := ak (Kd.bH (ur gQ.out) (Kd.bZ OX) hb)
  replace iE := ak (Kd.bH (ur iE.out) (Kd.bZ OX) hb)
  replace dV := kb dV hb
  replace fM := kb fM hb
  replace fO := kb fO hb
  replace HK := ak (aJ.trans (kh HK.out) (aJ.of_below hb g none) (.inl rfl))
  replace HB := ak (iD oJ hb)
  replace HI0 := ak (aN.below oI hb)
  clear hb OX
  obtain ⟨alC, alD, aoL⟩ := Kd.aI GV.out
  (first | subst aoL | (injection aoL with oM uz oN; have uD := oM.symm; have uF := oN.symm; clear oM uz oN; subst uD; subst uF))
  refine hK.out _ _ sx (fun hHeld => ?_)
  clear hK K
  refine nrm ?_
  refine o1 4 (fun K hK => ?_)
  refine yN Tryz.func58 (by kernel_rfl) rfl #[.pointer (some ⟨g, 0, none⟩), .slice alC alv.length alD] (by rfl) rfl rfl ma ?_
  with_reducible refine (fH.calls w0 ?fZ ?jc ?yO ?CG ?yP A6.out).mono ?_
  (case fZ => exact oI)
  (case jc => exact oJ)
  (case yO => repeat (first | exact (Kd.ay GV.out).2.2 | (with_reducible refine Kd.ni ?_ _) | (with_reducible refine Kd.nC ?_ _) | (with_reducible refine Kd.pY ?_)))
  (case CG => exact (Kd.ay GV.out).2.1)
  (case yP => exact nU (aN.own_ne HI0.out GV.out (by decide)))
  rintro e w27 ⟨rfl, hi, hb, hk⟩
  refine ⟨_, rfl, ?_⟩
  replace dV := kc dV hk qV
  replace fM := kc fM hk qW
  replace iq := ki (w0 := w0) (f0 := fB) (f1 := Dp) iq hk
  replace gQ := ki (w0 := w0) (f0 := fB) (f1 := Dp) gQ hk
  replace iE := ki (w0 := w0) (f0 := fB) (f1 := Dp) iE hk
  replace fO := kc fO hk qX
  replace GV := ki (w0 := w0) (f0 := fB) (f1 := Dp) GV hk
  replace HK := kt HK hk
  replace HB := ak (hb)
  replace HI0 := ak (hi)
  try clear hb
  try clear hk
  try clear hi
  refine hK.out _ _ sx (fun hHeld => ?_)
  clear hK K
  refine nrm ?_
  refine o1 5 (fun K hK => ?_)
  refine Ci (w1 := ?_) (v := ?_) (by rfl) rfl ?_ ?_
  rotate_left 2
  ·
   go_simp
   constructor
   ·
    rfl
   ·
    rfl
  refine hK.out _ _ ⟨(aA (iV fO.out _) 0).trans rfl, (aA (iV fO.out _) 1).trans rfl, (aA (iV fO.out _) 2).trans rfl⟩ (fun hHeld => ?_)
  clear hK K
  refine nrm ?_
  refine o1 6 (fun K hK => ?_)
  refine Kd.nJ Kd.string w.heap.size (by rfl) (.tmp 13) (.tmp 17) 23 9 (.string ⟨#[]⟩) 16 rfl Tryz.underlying23 info9 rfl (by decide) (by omega) (.slice NM qU.length NP) qU alx [.string alx] (fun k_ => some k_ ≠ (.slice alC alv.length alD : Value).ownBlock) (fun _ => False) rfl rfl ?aP (fun _ hk => hk.elim) ?aF ?aO (Below.refl _ _) ?aS ?aL ?_
  (case aP => exact rfl)
  (case aF => exact (fun k_ hk => Kd.fresh' (Kd.jh (ur GV.out)) k_ hk))
  (case aO => exact (ur (Kd.aY gQ.out (fun _ hk => hk.2))))
  (case aS => exact (dG (w := w) (g := g) (row := none) (kh HK.out)))
  (case aL => have := aly.out; omega)
  intro aDs w28 ho hb hg hat
  rw [← ah6.out] at ho
  have yQ := ak (aN.grown oI hg (aN.own_ne HI0.out gQ.out (by decide)))
  have yR := ak (cZ (g := wz) (o := .cells #[.slice zk uX.length y9, .slice yM uw.length zf, .slice zl uY.length zh] 28 (0, 0)) (ub dV.out) hg (Kd.oG gQ.out dV.out (by decide)))
  have zB := ak (cZ (g := uf) (o := .cells #[.slice none 0 0, .slice none 0 0, .slice none 0 0] 28 (0, 0)) (ub fM.out) hg (Kd.oG gQ.out fM.out (by decide)))
  have CJ := ak (Kd.qc (ur iq.out) (Kd.kG (ur gQ.out)) (by decide) hg)
  have GX := ak (Kd.zI (ok := (fun k_ => some k_ ≠ (.slice KZ sF.length K_ : Value).ownBlock ∧ some k_ ≠ (.slice alC alv.length alD : Value).ownBlock ∧ k_ ≠ wz ∧ k_ ≠ uf ∧ k_ ≠ kC)) (ur (Kd.aY iE.out (fun _ hk => ⟨⟨hk.1.1.1.1.1, ⟨hk.2, ⟨hk.1.1.1.2, ⟨hk.1.1.2, hk.1.2⟩⟩⟩⟩, hk.1.1.1.1.2⟩))) hg hat)
  have IZ := ak (cZ (g := kC) (o := .cells #[.slice KZ sF.length K_, .slice NM qU.length NP, .slice KX uo.length KY] 28 (0, 0)) (ub fO.out) hg (Kd.oG gQ.out fO.out (by decide)))
  have MN := ak (Kd.zI (ok := (fun _ => True)) (ur GV.out) hg hat)
  have Rh := ak (uZ oJ HL.out hb)
  have U8 := ak (aJ.trans (kh HK.out) (aJ.yS hg g) (Kd.F5 gQ.out))
  have YZ := ak (ho)
  clear HI0 dV fM iq iE fO GV HB HK gQ
  have HI0 := yQ
  have dV := yR
  have fM := zB
  have iq := CJ
  have iE := GX
  have fO := IZ
  have GV := MN
  have HB := Rh
  have HK := U8
  have aoM := YZ
  clear yQ yR zB CJ GX IZ MN Rh U8 YZ ho hb hg hat
  obtain ⟨QI, QJ, abm⟩ := Kd.aI aoM.out
  (first | subst abm | (injection abm with oM uz oN; have uD := oM.symm; have uF := oN.symm; clear oM uz oN; subst uD; subst uF))
  refine hK.out _ _ sx (fun hHeld => ?_)
  clear hK K
  refine nrm ?_
  refine pl 7 ?_
  refine GY (i := 8) (N := none) #[true, true, true, true, true, true, true, true, true] rfl rfl (Ac D8.out (by kernel_rfl)) (by decide) (fun K hK => ?_)
  have aDt : w28.cell? ⟨kC, 1, none⟩ = some (.slice NM qU.length NP) := (aA fO.out 1).trans rfl
  have aAH := gY fO.out 1
  have awo := tC.out
  have awp := tJ.out
  have awq := tH.out
  have awr := tK.out
  refine GZ (w1 := ?_) (by rfl) rfl ?_ ?_
  rotate_left
  ·
   go_simp
   rfl
  refine hK.out _ _ ?_
  clear hK K
  refine G5 (yA D8.out (by kernel_rfl)) ?_
  have z31 := kK fO.out
  have ah9 := qW.out
  have ah_ := Dt.out
  have z33 := kK fM.out
  try go_wp2
  refine bodyPost_ret (results_cell_row rfl _ _ uf 28 #[.slice KZ sF.length K_, .slice QI axK.length QJ, .slice KX uo.length KY] (0, 0) _ rfl bq Tryz.underlying28 rfl (by kernel_rfl)) rfl ?_
  exact ⟨_, _, _, er, rr, rr, rr, oI, oJ, kh HK.out⟩
 ·
  replace H := sq H
  rcases H with ⟨OY, OZ, H⟩ | ⟨c34, OY, OZ, H⟩
  ·
   obtain ⟨U9, U_⟩ := nm ([(⟨#[97, 32, 98]⟩ : ByteArray), (⟨#[79, 107]⟩ : ByteArray)] : List ByteArray)
   rw [← U_.out] at H
   replace H := bd H
   obtain ⟨⟨acQ, Xi⟩, A35, H⟩ := H
   (try dsimp only at H)
   obtain ⟨agj, O1⟩ := nm ([(⟨#[32, 120]⟩ : ByteArray), (⟨#[120]⟩ : ByteArray)] : List ByteArray)
   rw [← O1.out] at H
   replace H := bd H
   obtain ⟨⟨agk, aDu⟩, A36, H⟩ := H
   (try dsimp only at H)
   replace H := nl H; obtain ⟨acR, H⟩ := H
   obtain ⟨axL, aia⟩ := nm (sF ++ [(⟨acQ, agk⟩ : gX)])
   rw [← aia.out] at H
   obtain ⟨rfl, rfl, rfl, rfl⟩ := s4 H
   go_enter Tryz.func68, Tryz.ntmps68
   try go_wp2_with (first | (refine bS HI0 HK HB HW0 3 #[.slice zk uX.length y9, .slice yM uw.length zf, .slice zl uY.length zh] 28 ?_; clear HI0 HK HB; intro wz w38 dV acK acL Dq qV hg hb HI0 HK HB; clear hb hg) | (refine bS HI0 HK HB HW0 4 #[.slice none 0 0, .slice none 0 0, .slice none 0 0] 28 ?_; clear HI0 HK HB; intro uf w39 fM acM acN Dt qW hg hb HI0 HK HB; have xR := Ba dV hg; have xU := Bc dV hg; replace dV := kb dV hb; clear hb hg; have aib := xR.out; have aic := xU.out; have aAI := qV.out; have aAJ := Dq.out; have z42 := kK dV.out) | (refine gL 110 7 Tryz.func110 #[.agg #[.slice zk uX.length y9, .slice yM uw.length zf, .slice zl uY.length zh]] ?_; (with_reducible refine (dI.calls k _ _ uX _ _ uw _ _ uY sF qU uo _ (Kd.uy YR.out (kh HK.out)) YS.out (by with_unfolding_all exact Kd.Ti (⟨#[]⟩ : ByteArray) YT.out (kh HK.out) YQ) YU.out (Kd.uy YV.out (kh HK.out)) YW.out A3.out).mono ?_); rintro e w43 ⟨alz, alA, alB, rfl, ho0, ho1, ho2, hb⟩; refine ⟨_, rfl, ?_⟩; have iq := ak (Kd.aC ho0 (dG (w := w) (g := g) (row := none) (kh HK.out))); have gQ := ak (Kd.aC ho1 (dG (w := w) (g := g) (row := none) (kh HK.out))); have iE := ak (Kd.aC (Kd.nH (Kd.nH ho2 (g := wz) (o := .cells #[.slice zk uX.length y9, .slice yM uw.length zf, .slice zl uY.length zh] 28 (0, 0)) (ub dV.out)) (g := uf) (o := .cells #[.slice none 0 0, .slice none 0 0, .slice none 0 0] 28 (0, 0)) (ub fM.out)) (dG (w := w) (g := g) (row := none) (kh HK.out))); replace dV := kb dV hb; replace fM := kb fM hb; replace HK := ak (aJ.trans (kh HK.out) (aJ.of_below hb g none) (.inl rfl)); replace HB := ak (iD oJ hb); replace HI0 := ak (aN.below oI hb); clear hb; (try clear ho0); (try clear ho1); (try clear ho2)) | (refine bS HI0 HK HB HW0 5 #[.slice none 0 0, .slice none 0 0, .slice none 0 0] 28 ?_; clear HI0 HK HB; intro kC w44 fO acO acP Du qX hg hb HI0 HK HB; have tC := Ba dV hg; have tH := Bc dV hg; have tJ := Ba fM hg; have tK := Bc fM hg; replace iq := rb iq hb; replace gQ := rb gQ hb; replace iE := ak (Kd.sQ (Kd.yJ (ur iE.out) kC (Nat.le_of_eq hg.symm)) hb); replace dV := kb dV hb; replace fM := kb fM hb; clear hb hg; obtain ⟨I4, I5, axM⟩ := Kd.aI iq.out; subst axM; have aoN := tH.out; have aoO := tC.out; have aie := tK.out; have aif := tJ.out; have aii := qX.out; have aij := Du.out; have z49 := kK fO.out; obtain ⟨Dv, Dw, alE⟩ := Kd.aI gQ.out; subst alE; obtain ⟨O4, O5, axN⟩ := Kd.aI iE.out; subst axN) | (refine gL 57 9 Tryz.func57 #[.pointer (some ⟨g, 0, none⟩), .int .i64 20] ?_; (with_reducible refine (b_.calls w0 ?fZ ?jc A4.out).mono ?_); (case fZ => exact oI); (case jc => exact oJ); rintro e w52 ⟨rfl, hi, hb, hk⟩; refine ⟨_, rfl, ?_⟩; replace dV := U2 dV #[.slice zk uX.length y9, .slice yM uw.length zf, .slice zl uY.length zh] hk qV; replace fM := U2 fM #[.slice none 0 0, .slice none 0 0, .slice none 0 0] hk qW; replace iq := ki (w0 := w0) (f0 := fB) (f1 := ku) iq hk; replace gQ := ki (w0 := w0) (f0 := fB) (f1 := ku) gQ hk; replace iE := ak (Kd.aY (Kd.H6 (aN.apart (show aN w0 _ g fB ku from oI) (ur (Kd.aY (Kd.lK (p := ⟨kC, 2, none⟩) (Kd.lK (p := ⟨kC, 1, none⟩) (Kd.lK (p := ⟨kC, 0, none⟩) (Kd.aY iE.out (fun k_ hk => (⟨hk, hk.2⟩ : _ ∧ k_ ≠ kC))) (fun _ hk => hk.2) (.slice I4 sF.length I5)) (fun _ hk => hk.2) (.slice Dv qU.length Dw)) (fun _ hk => hk.2) (.slice O4 uo.length O5)) (fun _ h_ => h_.1))) (by decide)) hk (fun _ h => h.2)) (fun _ h => h.1)); replace fO := U2 fO #[.slice I4 sF.length I5, .slice Dv qU.length Dw, .slice O4 uo.length O5] hk qX; replace HK := kt HK hk; replace HB := ak (hb); replace HI0 := ak (hi); clear hb; (try clear hk); (try clear hi)))
   replace iq := ak (Kd.fV iq.out)
   replace gQ := ak (Kd.fV gQ.out)
   replace iE := ak (Kd.fV iE.out)
   replace dV := ak (iQ dV.out)
   replace fM := ak (iQ fM.out)
   replace fO := ak (iQ fO.out)
   replace HI0 := ak (aN.drew HI0.out)
   replace HK := ak (xW HK.out)
   replace HB := ak (fQ HB.out)
   refine Ce (n := 13) (S := fun w' => w'.cell? ⟨kC, 0, none⟩ = some (.slice I4 sF.length I5) ∧ w'.cell? ⟨kC, 1, none⟩ = some (.slice Dv qU.length Dw) ∧ w'.cell? ⟨kC, 2, none⟩ = some (.slice O4 uo.length O5)) (ds := [12]) #[false, false, false, false, false, false, false, false, false, false, false, false, false] (by kernel_rfl) rfl rfl ⟨(aA fO.out 0).trans rfl, (aA fO.out 1).trans rfl, (aA fO.out 2).trans rfl⟩ (fun hHeld => ?_); refine tN dN.tab6 dN.ahZ (fun D8 HW_ => ?_)
   generalize w52.drew = w53 at iq gQ iE dV fM fO HI0 HK HB hHeld ⊢
   refine pl 0 ?_
   refine pl 2 ?_
   refine pl 5 ?_
   refine tk 1 ?_
   refine acS (σ := Value × Value) 6 #[true, true, true, true, true, true, true, false, false, false, false, false, false] (fun s_ => [(25, s_.1), (26, .string acQ), (28, s_.2)]) (fun s_ w' => (w'.cell? ⟨kC, 0, none⟩ = some (.slice I4 sF.length I5) ∧ w'.cell? ⟨kC, 1, none⟩ = some (.slice Dv qU.length Dw) ∧ w'.cell? ⟨kC, 2, none⟩ = some (.slice O4 uo.length O5)) ∧ (Kd.R qI 69 w' w.heap.size (fun _ => True) (.slice I4 sF.length I5) sF) ∧ (Kd.R Kd.string 9 w' w.heap.size (fun k_ => some k_ ≠ (s_.1 : Value).ownBlock ∧ some k_ ≠ (s_.2 : Value).ownBlock) (.slice Dv qU.length Dw) qU) ∧ (Kd.R k28 28 w' w.heap.size (fun k_ => some k_ ≠ (.slice I4 sF.length I5 : Value).ownBlock ∧ some k_ ≠ (.slice Dv qU.length Dw : Value).ownBlock ∧ some k_ ≠ (s_.1 : Value).ownBlock ∧ some k_ ≠ (s_.2 : Value).ownBlock ∧ k_ ≠ wz ∧ k_ ≠ uf ∧ k_ ≠ kC) (.slice O4 uo.length O5) uo) ∧ (Kd.R Kd.string 9 w' w.heap.size (fun k_ => some k_ ≠ (.slice Dv qU.length Dw : Value).ownBlock ∧ some k_ ≠ (s_.2 : Value).ownBlock) s_.1 U9) ∧ (Kd.R Kd.string 9 w' w.heap.size (fun k_ => some k_ ≠ (.slice Dv qU.length Dw : Value).ownBlock ∧ some k_ ≠ (s_.1 : Value).ownBlock) s_.2 agj) ∧ (w'.heap[wz]? = some (.cells #[.slice zk uX.length y9, .slice yM uw.length zf, .slice zl uY.length zh] 28 (0, 0))) ∧ (w'.heap[uf]? = some (.cells #[.slice none 0 0, .slice none 0 0, .slice none 0 0] 28 (0, 0))) ∧ (w'.heap[kC]? = some (.cells #[.slice I4 sF.length I5, .slice Dv qU.length Dw, .slice O4 uo.length O5] 28 (0, 0))) ∧ (aN w0 w' g fB Xi) ∧ (aJ w w' g none) ∧ (Below w0.heap.size w0 w')) ?_ ?_
   rotate_left
   ·
    intro Ri
    refine agl (i := 3) (j := 6) (Ni := some 25) (Nj := some 28) #[true, true, true, true, false, true, false, false, false, false, false, false, false] #[true, true, true, false, false, true, true, false, false, false, false, false, false] rfl rfl rfl rfl (Tm D8.out (by kernel_rfl)) (by decide) (by decide) (fun K hK => ?_) (fun K hK => ?_)
    ·
     skip
     refine Kd.qC Kd.string _ 9 ?hg (N := 25) ?hd (xs := ([(⟨#[97, 32, 98]⟩ : ByteArray), (⟨#[79, 107]⟩ : ByteArray)] : List ByteArray)) (inner := [.string (⟨#[97, 32, 98]⟩ : ByteArray), .string (⟨#[79, 107]⟩ : ByteArray)]) (ok := fun _ => True) (vM := fun _ => True) ?hr ?hp (fun _ hk => hk) trivial (Below.refl _ _) (Nat.le_refl _) (by simp) ?_; (case hd => rfl); (case hg => rfl); (case hr => first | (go_simp; done) | (go_simp; rfl)); (case hp => exact (dh.one (show Kd.M Kd.string _ _ _ (⟨#[97, 32, 98]⟩ : ByteArray) [.string (⟨#[97, 32, 98]⟩ : ByteArray)] from rfl) (dh.one (show Kd.M Kd.string _ _ _ (⟨#[79, 107]⟩ : ByteArray) [.string (⟨#[79, 107]⟩ : ByteArray)] from rfl) (dh.none _ _))))
     intro Xj w54 H9 hb CB vS
     clear CB vS
     (first | rw [← U_.out] at H9 | (simp only [Int.reduceToNat] at H9; rw [← U_.out] at H9))
     have o9 := ak (Kd.aC (Kd.dR H9 (Kd.jh (ur gQ.out))) (dG (w := w) (g := g) (row := none) (kh HK.out)))
     replace iq := rb iq hb
     replace gQ := ak (Kd.bH (ur gQ.out) (Kd.bZ H9) hb)
     replace iE := ak (Kd.bH (ur iE.out) (Kd.bZ H9) hb)
     replace dV := kb dV hb
     replace fM := kb fM hb
     replace fO := kb fO hb
     replace HK := ak (aJ.trans (kh HK.out) (aJ.of_below hb g none) (.inl rfl))
     replace HB := ak (iD oJ hb)
     replace HI0 := ak (aN.below oI hb)
     clear hb H9
     obtain ⟨acT, O6, acU⟩ := Kd.aI o9.out
     (first | subst acU | (injection acU with oM uz oN; have uD := oM.symm; have uF := oN.symm; clear oM uz oN; subst uD; subst uF))
     refine hK.out _ _ sx (fun hHeld => ?_)
     clear hK K
     refine nrm ?_
     refine agl (i := 4) (j := 6) (Ni := some 26) (Nj := some 28) #[true, true, true, true, true, true, false, false, false, false, false, false, false] #[true, true, true, true, false, true, true, false, false, false, false, false, false] rfl rfl rfl rfl (Tm D8.out (by kernel_rfl)) (by decide) (by decide) (fun K hK => ?_) (fun K hK => ?_)
     ·
      skip
      refine yN Tryz.func58 (by kernel_rfl) rfl #[.pointer (some ⟨g, 0, none⟩), .slice acT U9.length O6] (by rfl) rfl rfl ma ?_
      with_reducible refine (fH.calls w0 ?fZ ?jc ?yO ?CG ?yP A35.out).mono ?_
      (case fZ => exact oI)
      (case jc => exact oJ)
      (case yO => repeat (first | exact (Kd.ay o9.out).2.2 | (with_reducible refine Kd.ni ?_ _) | (with_reducible refine Kd.nC ?_ _) | (with_reducible refine Kd.pY ?_)))
      (case CG => exact (Kd.ay o9.out).2.1)
      (case yP => exact nU (aN.own_ne HI0.out o9.out (by decide)))
      rintro e w57 ⟨rfl, hi, hb, hk⟩
      refine ⟨_, rfl, ?_⟩
      replace dV := kc dV hk qV
      replace fM := kc fM hk qW
      replace iq := ki (w0 := w0) (f0 := fB) (f1 := Dp) iq hk
      replace gQ := ki (w0 := w0) (f0 := fB) (f1 := Dp) gQ hk
      replace iE := ki (w0 := w0) (f0 := fB) (f1 := Dp) iE hk
      replace fO := kc fO hk qX
      replace o9 := ki (w0 := w0) (f0 := fB) (f1 := Dp) o9 hk
      replace HK := kt HK hk
      replace HB := ak (hb)
      replace HI0 := ak (hi)
      try clear hb
      try clear hk
      try clear hi
      refine hK.out _ _ sx (fun hHeld => ?_)
      clear hK K
      refine nrm ?_
      refine o1 6 (fun K hK => ?_)
      refine Kd.qC Kd.string _ 9 ?hg (N := 28) ?hd (xs := ([(⟨#[32, 120]⟩ : ByteArray), (⟨#[120]⟩ : ByteArray)] : List ByteArray)) (inner := [.string (⟨#[32, 120]⟩ : ByteArray), .string (⟨#[120]⟩ : ByteArray)]) (ok := fun _ => True) (vM := fun _ => True) ?hr ?hp (fun _ hk => hk) trivial (Below.refl _ _) (Nat.le_refl _) (by simp) ?_; (case hd => rfl); (case hg => rfl); (case hr => first | (go_simp; done) | (go_simp; rfl)); (case hp => exact (dh.one (show Kd.M Kd.string _ _ _ (⟨#[32, 120]⟩ : ByteArray) [.string (⟨#[32, 120]⟩ : ByteArray)] from rfl) (dh.one (show Kd.M Kd.string _ _ _ (⟨#[120]⟩ : ByteArray) [.string (⟨#[120]⟩ : ByteArray)] from rfl) (dh.none _ _))))
      intro QK w58 Va hb CB vS
      clear CB vS
      (first | rw [← O1.out] at Va | (simp only [Int.reduceToNat] at Va; rw [← O1.out] at Va))
      have vG := ak (Kd.aC (Kd.dR (Kd.dR Va (Kd.jh (ur gQ.out))) (Kd.jh (ur o9.out))) (dG (w := w) (g := g) (row := none) (kh HK.out)))
      replace iq := rb iq hb
      replace gQ := ak (Kd.bH (ur gQ.out) (Kd.bZ Va) hb)
      replace iE := ak (Kd.bH (ur iE.out) (Kd.bZ Va) hb)
      replace o9 := ak (Kd.bH (ur o9.out) (Kd.bZ Va) hb)
      replace dV := kb dV hb
      replace fM := kb fM hb
      replace fO := kb fO hb
      replace HK := ak (aJ.trans (kh HK.out) (aJ.of_below hb g none) (.inl rfl))
      replace HB := ak (iD oJ hb)
      replace HI0 := ak (aN.below oI hb)
      clear hb Va
      refine hK.out _ _ sx (fun hHeld => ?_)
      clear hK K
      refine nrm ?_
      exact D9 (by simp only [xX, Act.put, yT, yU, l_c] <;> rfl) (Ri (.slice acT U9.length O6, QK) _ ⟨hHeld, (ur iq.out), (ur (Kd.aY gQ.out (fun _ hk => ⟨hk.1.2, hk.2⟩))), (ur (Kd.aY iE.out (fun _ hk => ⟨hk.1.1.1.1.1.1, ⟨hk.1.1.1.1.1.2, ⟨hk.1.2, ⟨hk.2, ⟨hk.1.1.1.1.2, ⟨hk.1.1.1.2, hk.1.1.2⟩⟩⟩⟩⟩⟩))), (ur (Kd.aY o9.out (fun _ hk => ⟨hk.1.2, hk.2⟩))), (ur (Kd.aY vG.out (fun _ hk => ⟨hk.1.2, hk.2⟩))), (ub dV.out), (ub fM.out), (ub fO.out), oI, (kh HK.out), oJ⟩)
     ·
      skip
      refine Kd.qC Kd.string _ 9 ?hg (N := 28) ?hd (xs := ([(⟨#[32, 120]⟩ : ByteArray), (⟨#[120]⟩ : ByteArray)] : List ByteArray)) (inner := [.string (⟨#[32, 120]⟩ : ByteArray), .string (⟨#[120]⟩ : ByteArray)]) (ok := fun _ => True) (vM := fun _ => True) ?hr ?hp (fun _ hk => hk) trivial (Below.refl _ _) (Nat.le_refl _) (by simp) ?_; (case hd => rfl); (case hg => rfl); (case hr => first | (go_simp; done) | (go_simp; rfl)); (case hp => exact (dh.one (show Kd.M Kd.string _ _ _ (⟨#[32, 120]⟩ : ByteArray) [.string (⟨#[32, 120]⟩ : ByteArray)] from rfl) (dh.one (show Kd.M Kd.string _ _ _ (⟨#[120]⟩ : ByteArray) [.string (⟨#[120]⟩ : ByteArray)] from rfl) (dh.none _ _))))
      intro QK w56 EJ hb CB vS
      clear CB vS
      (first | rw [← O1.out] at EJ | (simp only [Int.reduceToNat] at EJ; rw [← O1.out] at EJ))
      have vG := ak (Kd.aC (Kd.dR (Kd.dR EJ (Kd.jh (ur gQ.out))) (Kd.jh (ur o9.out))) (dG (w := w) (g := g) (row := none) (kh HK.out)))
      replace iq := rb iq hb
      replace gQ := ak (Kd.bH (ur gQ.out) (Kd.bZ EJ) hb)
      replace iE := ak (Kd.bH (ur iE.out) (Kd.bZ EJ) hb)
      replace o9 := ak (Kd.bH (ur o9.out) (Kd.bZ EJ) hb)
      replace dV := kb dV hb
      replace fM := kb fM hb
      replace fO := kb fO hb
      replace HK := ak (aJ.trans (kh HK.out) (aJ.of_below hb g none) (.inl rfl))
      replace HB := ak (iD oJ hb)
      replace HI0 := ak (aN.below oI hb)
      clear hb EJ
      obtain ⟨acV, acW, acX⟩ := Kd.aI o9.out
      (first | subst acX | (injection acX with oM uz oN; have uD := oM.symm; have uF := oN.symm; clear oM uz oN; subst uD; subst uF))
      refine hK.out _ _ sx (fun hHeld => ?_)
      clear hK K
      refine nrm ?_
      refine o1 4 (fun K hK => ?_)
      refine yN Tryz.func58 (by kernel_rfl) rfl #[.pointer (some ⟨g, 0, none⟩), .slice acV U9.length acW] (by rfl) rfl rfl ma ?_
      with_reducible refine (fH.calls w0 ?fZ ?jc ?yO ?CG ?yP A35.out).mono ?_
      (case fZ => exact oI)
      (case jc => exact oJ)
      (case yO => repeat (first | exact (Kd.ay o9.out).2.2 | (with_reducible refine Kd.ni ?_ _) | (with_reducible refine Kd.nC ?_ _) | (with_reducible refine Kd.pY ?_)))
      (case CG => exact (Kd.ay o9.out).2.1)
      (case yP => exact nU (aN.own_ne HI0.out o9.out (by decide)))
      rintro e w59 ⟨rfl, hi, hb, hk⟩
      refine ⟨_, rfl, ?_⟩
      replace dV := kc dV hk qV
      replace fM := kc fM hk qW
      replace iq := ki (w0 := w0) (f0 := fB) (f1 := Dp) iq hk
      replace gQ := ki (w0 := w0) (f0 := fB) (f1 := Dp) gQ hk
      replace iE := ki (w0 := w0) (f0 := fB) (f1 := Dp) iE hk
      replace fO := kc fO hk qX
      replace o9 := ki (w0 := w0) (f0 := fB) (f1 := Dp) o9 hk
      replace vG := ki (w0 := w0) (f0 := fB) (f1 := Dp) vG hk
      replace HK := kt HK hk
      replace HB := ak (hb)
      replace HI0 := ak (hi)
      try clear hb
      try clear hk
      try clear hi
      refine hK.out _ _ sx (fun hHeld => ?_)
      clear hK K
      refine nrm ?_
      exact D9 (by simp only [xX, Act.put, yT, yU, l_c] <;> rfl) (Ri (.slice acV U9.length acW, QK) _ ⟨hHeld, (ur iq.out), (ur (Kd.aY gQ.out (fun _ hk => ⟨hk.1.2, hk.2⟩))), (ur (Kd.aY iE.out (fun _ hk => ⟨hk.1.1.1.1.1.1, ⟨hk.1.1.1.1.1.2, ⟨hk.1.2, ⟨hk.2, ⟨hk.1.1.1.1.2, ⟨hk.1.1.1.2, hk.1.1.2⟩⟩⟩⟩⟩⟩))), (ur (Kd.aY o9.out (fun _ hk => ⟨hk.1.2, hk.2⟩))), (ur (Kd.aY vG.out (fun _ hk => ⟨hk.1.2, hk.2⟩))), (ub dV.out), (ub fM.out), (ub fO.out), oI, (kh HK.out), oJ⟩)
    ·
     skip
     refine Kd.qC Kd.string _ 9 ?hg (N := 28) ?hd (xs := ([(⟨#[32, 120]⟩ : ByteArray), (⟨#[120]⟩ : ByteArray)] : List ByteArray)) (inner := [.string (⟨#[32, 120]⟩ : ByteArray), .string (⟨#[120]⟩ : ByteArray)]) (ok := fun _ => True) (vM := fun _ => True) ?hr ?hp (fun _ hk => hk) trivial (Below.refl _ _) (Nat.le_refl _) (by simp) ?_; (case hd => rfl); (case hg => rfl); (case hr => first | (go_simp; done) | (go_simp; rfl)); (case hp => exact (dh.one (show Kd.M Kd.string _ _ _ (⟨#[32, 120]⟩ : ByteArray) [.string (⟨#[32, 120]⟩ : ByteArray)] from rfl) (dh.one (show Kd.M Kd.string _ _ _ (⟨#[120]⟩ : ByteArray) [.string (⟨#[120]⟩ : ByteArray)] from rfl) (dh.none _ _))))
     intro QK w54 H9 hb CB vS
     clear CB vS
     (first | rw [← O1.out] at H9 | (simp only [Int.reduceToNat] at H9; rw [← O1.out] at H9))
     have vG := ak (Kd.aC (Kd.dR H9 (Kd.jh (ur gQ.out))) (dG (w := w) (g := g) (row := none) (kh HK.out)))
     replace iq := rb iq hb
     replace gQ := ak (Kd.bH (ur gQ.out) (Kd.bZ H9) hb)
     replace iE := ak (Kd.bH (ur iE.out) (Kd.bZ H9) hb)
     replace dV := kb dV hb
     replace fM := kb fM hb
     replace fO := kb fO hb
     replace HK := ak (aJ.trans (kh HK.out) (aJ.of_below hb g none) (.inl rfl))
     replace HB := ak (iD oJ hb)
     replace HI0 := ak (aN.below oI hb)
     clear hb H9
     refine hK.out _ _ sx (fun hHeld => ?_)
     clear hK K
     refine nrm ?_
     refine o1 3 (fun K hK => ?_)
     refine Kd.qC Kd.string _ 9 ?hg (N := 25) ?hd (xs := ([(⟨#[97, 32, 98]⟩ : ByteArray), (⟨#[79, 107]⟩ : ByteArray)] : List ByteArray)) (inner := [.string (⟨#[97, 32, 98]⟩ : ByteArray), .string (⟨#[79, 107]⟩ : ByteArray)]) (ok := fun _ => True) (vM := fun _ => True) ?hr ?hp (fun _ hk => hk) trivial (Below.refl _ _) (Nat.le_refl _) (by simp) ?_; (case hd => rfl); (case hg => rfl); (case hr => first | (go_simp; done) | (go_simp; rfl)); (case hp => exact (dh.one (show Kd.M Kd.string _ _ _ (⟨#[97, 32, 98]⟩ : ByteArray) [.string (⟨#[97, 32, 98]⟩ : ByteArray)] from rfl) (dh.one (show Kd.M Kd.string _ _ _ (⟨#[79, 107]⟩ : ByteArray) [.string (⟨#[79, 107]⟩ : ByteArray)] from rfl) (dh.none _ _))))
     intro Xj w56 EJ hb CB vS
     clear CB vS
     (first | rw [← U_.out] at EJ | (simp only [Int.reduceToNat] at EJ; rw [← U_.out] at EJ))
     have o9 := ak (Kd.aC (Kd.dR (Kd.dR EJ (Kd.jh (ur gQ.out))) (Kd.jh (ur vG.out))) (dG (w := w) (g := g) (row := none) (kh HK.out)))
     replace iq := rb iq hb
     replace gQ := ak (Kd.bH (ur gQ.out) (Kd.bZ EJ) hb)
     replace iE := ak (Kd.bH (ur iE.out) (Kd.bZ EJ) hb)
     replace vG := ak (Kd.bH (ur vG.out) (Kd.bZ EJ) hb)
     replace dV := kb dV hb
     replace fM := kb fM hb
     replace fO := kb fO hb
     replace HK := ak (aJ.trans (kh HK.out) (aJ.of_below hb g none) (.inl rfl))
     replace HB := ak (iD oJ hb)
     replace HI0 := ak (aN.below oI hb)
     clear hb EJ
     obtain ⟨acV, acW, acX⟩ := Kd.aI o9.out
     (first | subst acX | (injection acX with oM uz oN; have uD := oM.symm; have uF := oN.symm; clear oM uz oN; subst uD; subst uF))
     refine hK.out _ _ sx (fun hHeld => ?_)
     clear hK K
     refine nrm ?_
     refine o1 4 (fun K hK => ?_)
     refine yN Tryz.func58 (by kernel_rfl) rfl #[.pointer (some ⟨g, 0, none⟩), .slice acV U9.length acW] (by rfl) rfl rfl ma ?_
     with_reducible refine (fH.calls w0 ?fZ ?jc ?yO ?CG ?yP A35.out).mono ?_
     (case fZ => exact oI)
     (case jc => exact oJ)
     (case yO => repeat (first | exact (Kd.ay o9.out).2.2 | (with_reducible refine Kd.ni ?_ _) | (with_reducible refine Kd.nC ?_ _) | (with_reducible refine Kd.pY ?_)))
     (case CG => exact (Kd.ay o9.out).2.1)
     (case yP => exact nU (aN.own_ne HI0.out o9.out (by decide)))
     rintro e w59 ⟨rfl, hi, hb, hk⟩
     refine ⟨_, rfl, ?_⟩
     replace dV := kc dV hk qV
     replace fM := kc fM hk qW
     replace iq := ki (w0 := w0) (f0 := fB) (f1 := Dp) iq hk
     replace gQ := ki (w0 := w0) (f0 := fB) (f1 := Dp) gQ hk
     replace iE := ki (w0 := w0) (f0 := fB) (f1 := Dp) iE hk
     replace fO := kc fO hk qX
     replace vG := ki (w0 := w0) (f0 := fB) (f1 := Dp) vG hk
     replace o9 := ki (w0 := w0) (f0 := fB) (f1 := Dp) o9 hk
     replace HK := kt HK hk
     replace HB := ak (hb)
     replace HI0 := ak (hi)
     try clear hb
     try clear hk
     try clear hi
     refine hK.out _ _ sx (fun hHeld => ?_)
     clear hK K
     refine nrm ?_
     exact D9 (by simp only [xX, Act.put, yT, yU, l_c] <;> rfl) (Ri (.slice acV U9.length acW, QK) _ ⟨hHeld, (ur iq.out), (ur (Kd.aY gQ.out (fun _ hk => ⟨hk.2, hk.1.2⟩))), (ur (Kd.aY iE.out (fun _ hk => ⟨hk.1.1.1.1.1.1, ⟨hk.1.1.1.1.1.2, ⟨hk.2, ⟨hk.1.2, ⟨hk.1.1.1.1.2, ⟨hk.1.1.1.2, hk.1.1.2⟩⟩⟩⟩⟩⟩))), (ur (Kd.aY o9.out (fun _ hk => ⟨hk.1.2, hk.2⟩))), (ur (Kd.aY vG.out (fun _ hk => ⟨hk.1.2, hk.2⟩))), (ub dV.out), (ub fM.out), (ub fO.out), oI, (kh HK.out), oJ⟩)
   rintro ⟨Xj, QK⟩ QC ⟨hS_, h0_, h1_, Y0, h3_, h4_, h5_, h6_, h7_, h8_, h9_, Tn⟩
   have yQ : ah (Kd.R qI 69 QC w.heap.size (fun _ => True) (.slice I4 sF.length I5) sF) := ⟨h0_⟩
   have yR : ah (Kd.R Kd.string 9 QC w.heap.size (fun k_ => some k_ ≠ (Xj : Value).ownBlock ∧ some k_ ≠ (QK : Value).ownBlock) (.slice Dv qU.length Dw) qU) := ⟨h1_⟩
   have zB : ah (Kd.R k28 28 QC w.heap.size (fun k_ => some k_ ≠ (.slice I4 sF.length I5 : Value).ownBlock ∧ some k_ ≠ (.slice Dv qU.length Dw : Value).ownBlock ∧ some k_ ≠ (Xj : Value).ownBlock ∧ some k_ ≠ (QK : Value).ownBlock ∧ k_ ≠ wz ∧ k_ ≠ uf ∧ k_ ≠ kC) (.slice O4 uo.length O5) uo) := ⟨Y0⟩
   have CJ : ah (Kd.R Kd.string 9 QC w.heap.size (fun k_ => some k_ ≠ (.slice Dv qU.length Dw : Value).ownBlock ∧ some k_ ≠ (QK : Value).ownBlock) Xj U9) := ⟨h3_⟩
   have GX : ah (Kd.R Kd.string 9 QC w.heap.size (fun k_ => some k_ ≠ (.slice Dv qU.length Dw : Value).ownBlock ∧ some k_ ≠ (Xj : Value).ownBlock) QK agj) := ⟨h4_⟩
   have IZ : ah (QC.heap[wz]? = some (.cells #[.slice zk uX.length y9, .slice yM uw.length zf, .slice zl uY.length zh] 28 (0, 0))) := ⟨h5_⟩
   have MN : ah (QC.heap[uf]? = some (.cells #[.slice none 0 0, .slice none 0 0, .slice none 0 0] 28 (0, 0))) := ⟨h6_⟩
   have Rh : ah (QC.heap[kC]? = some (.cells #[.slice I4 sF.length I5, .slice Dv qU.length Dw, .slice O4 uo.length O5] 28 (0, 0))) := ⟨h7_⟩
   have U8 : ah (aN w0 QC g fB Xi) := ⟨h8_⟩
   have YZ : ah (aJ w QC g none) := ⟨h9_⟩
   have O7 : ah (Below w0.heap.size w0 QC) := ⟨Tn⟩
   clear iq gQ iE dV fM fO HI0 HK HB h0_ h1_ Y0 h3_ h4_ h5_ h6_ h7_ h8_ h9_ Tn
   have iq := yQ
   have gQ := yR
   have iE := zB
   have o9 := CJ
   have vG := GX
   have dV := IZ
   have fM := MN
   have fO := Rh
   have HI0 := U8
   have HK := YZ
   have HB := O7
   clear yQ yR zB CJ GX IZ MN Rh U8 YZ O7
   have hHeld : QC.cell? ⟨kC, 0, none⟩ = some (.slice I4 sF.length I5) ∧ QC.cell? ⟨kC, 1, none⟩ = some (.slice Dv qU.length Dw) ∧ QC.cell? ⟨kC, 2, none⟩ = some (.slice O4 uo.length O5) := hS_
   obtain ⟨alF, alG, agm⟩ := Kd.aI vG.out
   (first | subst agm | (injection agm with oM uz oN; have uD := oM.symm; have uF := oN.symm; clear oM uz oN; subst uD; subst uF))
   refine D9 (a' := ?_) ?_ ?_
   rotate_left
   ·
    simp only [xX, Act.put, yT, yU, l_c]
    rfl
   refine o1 7 (fun K hK => ?_)
   refine yN Tryz.func58 (by kernel_rfl) rfl #[.pointer (some ⟨g, 0, none⟩), .slice alF agj.length alG] (by rfl) rfl rfl ma ?_
   with_reducible refine (fH.calls w0 ?fZ ?jc ?yO ?CG ?yP A36.out).mono ?_
   (case fZ => exact oI)
   (case jc => exact oJ)
   (case yO => repeat (first | exact (Kd.ay vG.out).2.2 | (with_reducible refine Kd.ni ?_ _) | (with_reducible refine Kd.nC ?_ _) | (with_reducible refine Kd.pY ?_)))
   (case CG => exact (Kd.ay vG.out).2.1)
   (case yP => exact nU (aN.own_ne HI0.out vG.out (by decide)))
   rintro e w62 ⟨rfl, hi, hb, hk⟩
   refine ⟨_, rfl, ?_⟩
   replace dV := kc dV hk qV
   replace fM := kc fM hk qW
   replace iq := ki (w0 := w0) (f0 := fB) (f1 := Xi) iq hk
   replace gQ := ki (w0 := w0) (f0 := fB) (f1 := Xi) gQ hk
   replace iE := ki (w0 := w0) (f0 := fB) (f1 := Xi) iE hk
   replace fO := kc fO hk qX
   replace o9 := ki (w0 := w0) (f0 := fB) (f1 := Xi) o9 hk
   replace vG := ki (w0 := w0) (f0 := fB) (f1 := Xi) vG hk
   replace HK := kt HK hk
   replace HB := ak (hb)
   replace HI0 := ak (hi)
   try clear hb
   try clear hk
   try clear hi
   refine hK.out _ _ sx (fun hHeld => ?_)
   clear hK K
   refine nrm ?_
   refine pl 8 ?_
   refine o1 9 (fun K hK => ?_)
   refine Ci (w1 := ?_) (v := ?_) (by rfl) rfl ?_ ?_
   rotate_left 2
   ·
    go_simp
    constructor
    ·
     rfl
    ·
     rfl
   refine hK.out _ _ ⟨(aA (iV fO.out _) 0).trans rfl, (aA (iV fO.out _) 1).trans rfl, (aA (iV fO.out _) 2).trans rfl⟩ (fun hHeld => ?_)
   clear hK K
   refine nrm ?_
   refine o1 10 (fun K hK => ?_)
   refine Kd.nJ qI w.heap.size (by rfl) (.tmp 23) (.tmp 31) 25 69 (.agg #[(.string ⟨#[]⟩), (.string ⟨#[]⟩)]) 32 rfl Tryz.underlying25 Cc rfl (by decide) (by omega) (.slice I4 sF.length I5) sF (⟨acQ, agk⟩ : gX) [.string acQ, .string agk] (fun _ => True) (fun _ => False) rfl rfl ?aP (fun _ hk => hk.elim) ?aF ?aO (Below.refl _ _) ?aS ?aL ?_
   (case aP => exact vW _ _ _ (⟨acQ, agk⟩ : gX))
   (case aF => exact (fun _ _ => trivial))
   (case aO => exact (ur iq.out))
   (case aS => exact (dG (w := w) (g := g) (row := none) (kh HK.out)))
   (case aL => have := acR.out; omega)
   intro aDv w63 ho hb hg hat
   rw [← aia.out] at ho
   have yQ := ak (aN.grown oI hg (aN.own_ne HI0.out iq.out (by decide)))
   have yR := ak (cZ (g := wz) (o := .cells #[.slice zk uX.length y9, .slice yM uw.length zf, .slice zl uY.length zh] 28 (0, 0)) (ub dV.out) hg (Kd.oG iq.out dV.out (by decide)))
   have zB := ak (cZ (g := uf) (o := .cells #[.slice none 0 0, .slice none 0 0, .slice none 0 0] 28 (0, 0)) (ub fM.out) hg (Kd.oG iq.out fM.out (by decide)))
   have CJ := ak (Kd.qc (ur gQ.out) (Kd.kG (ur iq.out)) (by decide) hg)
   have GX := ak (Kd.zI (ok := (fun k_ => some k_ ≠ (.slice Dv qU.length Dw : Value).ownBlock ∧ some k_ ≠ (Xj : Value).ownBlock ∧ some k_ ≠ (.slice alF agj.length alG : Value).ownBlock ∧ k_ ≠ wz ∧ k_ ≠ uf ∧ k_ ≠ kC)) (ur (Kd.aY iE.out (fun _ hk => ⟨⟨hk.2.1, ⟨hk.2.2.1, ⟨hk.2.2.2.1, ⟨hk.2.2.2.2.1, ⟨hk.2.2.2.2.2.1, hk.2.2.2.2.2.2⟩⟩⟩⟩⟩, hk.1⟩))) hg hat)
   have IZ := ak (cZ (g := kC) (o := .cells #[.slice I4 sF.length I5, .slice Dv qU.length Dw, .slice O4 uo.length O5] 28 (0, 0)) (ub fO.out) hg (Kd.oG iq.out fO.out (by decide)))
   have MN := ak (Kd.qc (ur o9.out) (Kd.kG (ur iq.out)) (by decide) hg)
   have Rh := ak (Kd.qc (ur vG.out) (Kd.kG (ur iq.out)) (by decide) hg)
   have U8 := ak (uZ oJ HL.out hb)
   have YZ := ak (aJ.trans (kh HK.out) (aJ.yS hg g) (Kd.F5 iq.out))
   have O7 := ak (ho)
   clear HI0 dV fM gQ iE fO o9 vG HB HK iq
   have HI0 := yQ
   have dV := yR
   have fM := zB
   have gQ := CJ
   have iE := GX
   have fO := IZ
   have o9 := MN
   have vG := Rh
   have HB := U8
   have HK := YZ
   have aoP := O7
   clear yQ yR zB CJ GX IZ MN Rh U8 YZ O7 ho hb hg hat
   obtain ⟨axO, axP, aoQ⟩ := Kd.aI aoP.out
   (first | subst aoQ | (injection aoQ with oM uz oN; have uD := oM.symm; have uF := oN.symm; clear oM uz oN; subst uD; subst uF))
   refine hK.out _ _ sx (fun hHeld => ?_)
   clear hK K
   refine nrm ?_
   refine pl 11 ?_
   refine GY (i := 12) (N := none) #[true, true, true, true, true, true, true, true, true, true, true, true, true] rfl rfl (Ac D8.out (by kernel_rfl)) (by decide) (fun K hK => ?_)
   have aDw : w63.cell? ⟨kC, 0, none⟩ = some (.slice I4 sF.length I5) := (aA fO.out 0).trans rfl
   have aAK := gY fO.out 0
   have awt := tC.out
   have awu := tJ.out
   have awv := tH.out
   have aww := tK.out
   refine GZ (w1 := ?_) (by rfl) rfl ?_ ?_
   rotate_left
   ·
    go_simp
    rfl
   refine hK.out _ _ ?_
   clear hK K
   refine G5 (yA D8.out (by kernel_rfl)) ?_
   have z66 := kK fO.out
   have aAL := qW.out
   have aAM := Dt.out
   have z68 := kK fM.out
   try go_wp2
   refine bodyPost_ret (results_cell_row rfl _ _ uf 28 #[.slice axO axL.length axP, .slice Dv qU.length Dw, .slice O4 uo.length O5] (0, 0) _ rfl bq Tryz.underlying28 rfl (by kernel_rfl)) rfl ?_
   exact ⟨_, _, _, er, rr, rr, rr, oI, oJ, kh HK.out⟩
  ·
   replace H := sq H
   rcases H with ⟨aoR, aoS, H⟩ | ⟨c69, aoR, aoS, H⟩
   ·
    replace H := bd H
    obtain ⟨⟨agn, agp, agq, aDx⟩, A70, H⟩ := H
    (try dsimp only at H)
    replace H := nl H; obtain ⟨aoT, H⟩ := H
    obtain ⟨axQ, aik⟩ := nm (uo ++ [(⟨agn, agp, agq⟩ : nG)])
    rw [← aik.out] at H
    obtain ⟨rfl, rfl, rfl, rfl⟩ := s4 H
    go_enter Tryz.func68, Tryz.ntmps68
    try go_wp2_with (first | (refine bS HI0 HK HB HW0 3 #[.slice zk uX.length y9, .slice yM uw.length zf, .slice zl uY.length zh] 28 ?_; clear HI0 HK HB; intro wz w72 dV acK acL Dq qV hg hb HI0 HK HB; clear hb hg) | (refine bS HI0 HK HB HW0 4 #[.slice none 0 0, .slice none 0 0, .slice none 0 0] 28 ?_; clear HI0 HK HB; intro uf w73 fM acM acN Dt qW hg hb HI0 HK HB; have xR := Ba dV hg; have xU := Bc dV hg; replace dV := kb dV hb; clear hb hg; have aAN := xR.out; have aAO := xU.out; have aAP := qV.out; have aAQ := Dq.out; have z76 := kK dV.out) | (refine gL 110 7 Tryz.func110 #[.agg #[.slice zk uX.length y9, .slice yM uw.length zf, .slice zl uY.length zh]] ?_; (with_reducible refine (dI.calls k _ _ uX _ _ uw _ _ uY sF qU uo _ (Kd.uy YR.out (kh HK.out)) YS.out (by with_unfolding_all exact Kd.Ti (⟨#[]⟩ : ByteArray) YT.out (kh HK.out) YQ) YU.out (Kd.uy YV.out (kh HK.out)) YW.out A3.out).mono ?_); rintro e w77 ⟨alz, alA, alB, rfl, ho0, ho1, ho2, hb⟩; refine ⟨_, rfl, ?_⟩; have iq := ak (Kd.aC ho0 (dG (w := w) (g := g) (row := none) (kh HK.out))); have gQ := ak (Kd.aC ho1 (dG (w := w) (g := g) (row := none) (kh HK.out))); have iE := ak (Kd.aC (Kd.nH (Kd.nH ho2 (g := wz) (o := .cells #[.slice zk uX.length y9, .slice yM uw.length zf, .slice zl uY.length zh] 28 (0, 0)) (ub dV.out)) (g := uf) (o := .cells #[.slice none 0 0, .slice none 0 0, .slice none 0 0] 28 (0, 0)) (ub fM.out)) (dG (w := w) (g := g) (row := none) (kh HK.out))); replace dV := kb dV hb; replace fM := kb fM hb; replace HK := ak (aJ.trans (kh HK.out) (aJ.of_below hb g none) (.inl rfl)); replace HB := ak (iD oJ hb); replace HI0 := ak (aN.below oI hb); clear hb; (try clear ho0); (try clear ho1); (try clear ho2)) | (refine bS HI0 HK HB HW0 5 #[.slice none 0 0, .slice none 0 0, .slice none 0 0] 28 ?_; clear HI0 HK HB; intro kC w78 fO acO acP Du qX hg hb HI0 HK HB; have tC := Ba dV hg; have tH := Bc dV hg; have tJ := Ba fM hg; have tK := Bc fM hg; replace iq := rb iq hb; replace gQ := rb gQ hb; replace iE := ak (Kd.sQ (Kd.yJ (ur iE.out) kC (Nat.le_of_eq hg.symm)) hb); replace dV := kb dV hb; replace fM := kb fM hb; clear hb hg; obtain ⟨Tq, Tt, axR⟩ := Kd.aI iq.out; subst axR; have aAR := tH.out; have aAS := tC.out; have aoU := tK.out; have aoV := tJ.out; have aAT := qX.out; have aAU := Du.out; have z83 := kK fO.out; obtain ⟨Tv, Tz, axS⟩ := Kd.aI gQ.out; subst axS; obtain ⟨TA, TB, axT⟩ := Kd.aI iE.out; subst axT) | (refine gL 57 9 Tryz.func57 #[.pointer (some ⟨g, 0, none⟩), .int .i64 20] ?_; (with_reducible refine (b_.calls w0 ?fZ ?jc A4.out).mono ?_); (case fZ => exact oI); (case jc => exact oJ); rintro e w86 ⟨rfl, hi, hb, hk⟩; refine ⟨_, rfl, ?_⟩; replace dV := U2 dV #[.slice zk uX.length y9, .slice yM uw.length zf, .slice zl uY.length zh] hk qV; replace fM := U2 fM #[.slice none 0 0, .slice none 0 0, .slice none 0 0] hk qW; replace iq := ki (w0 := w0) (f0 := fB) (f1 := ku) iq hk; replace gQ := ki (w0 := w0) (f0 := fB) (f1 := ku) gQ hk; replace iE := ak (Kd.aY (Kd.H6 (aN.apart (show aN w0 _ g fB ku from oI) (ur (Kd.aY (Kd.lK (p := ⟨kC, 2, none⟩) (Kd.lK (p := ⟨kC, 1, none⟩) (Kd.lK (p := ⟨kC, 0, none⟩) (Kd.aY iE.out (fun k_ hk => (⟨hk, hk.2⟩ : _ ∧ k_ ≠ kC))) (fun _ hk => hk.2) (.slice Tq sF.length Tt)) (fun _ hk => hk.2) (.slice Tv qU.length Tz)) (fun _ hk => hk.2) (.slice TA uo.length TB)) (fun _ h_ => h_.1))) (by decide)) hk (fun _ h => h.2)) (fun _ h => h.1)); replace fO := U2 fO #[.slice Tq sF.length Tt, .slice Tv qU.length Tz, .slice TA uo.length TB] hk qX; replace HK := kt HK hk; replace HB := ak (hb); replace HI0 := ak (hi); clear hb; (try clear hk); (try clear hi)))
    replace iq := ak (Kd.fV iq.out)
    replace gQ := ak (Kd.fV gQ.out)
    replace iE := ak (Kd.fV iE.out)
    replace dV := ak (iQ dV.out)
    replace fM := ak (iQ fM.out)
    replace fO := ak (iQ fO.out)
    replace HI0 := ak (aN.drew HI0.out)
    replace HK := ak (xW HK.out)
    replace HB := ak (fQ HB.out)
    refine Ce (n := 8) (S := fun w' => w'.cell? ⟨kC, 0, none⟩ = some (.slice Tq sF.length Tt) ∧ w'.cell? ⟨kC, 1, none⟩ = some (.slice Tv qU.length Tz) ∧ w'.cell? ⟨kC, 2, none⟩ = some (.slice TA uo.length TB)) (ds := [7]) #[false, false, false, false, false, false, false, false] (by kernel_rfl) rfl rfl ⟨(aA fO.out 0).trans rfl, (aA fO.out 1).trans rfl, (aA fO.out 2).trans rfl⟩ (fun hHeld => ?_); refine tN dN.abl dN.Rf (fun D8 HW_ => ?_)
    generalize w86.drew = w87 at iq gQ iE dV fM fO HI0 HK HB hHeld ⊢
    refine pl 0 ?_
    refine pl 2 ?_
    refine tk 1 ?_
    refine o1 3 (fun K hK => ?_)
    refine yN Tryz.func98 (by kernel_rfl) rfl #[.pointer (some ⟨g, 0, none⟩)] (by rfl) rfl rfl ma ?_
    with_reducible refine (iC.calls w0 ?fZ ?jc A70.out).mono ?_
    (case fZ => exact oI)
    (case jc => exact oJ)
    rintro e w88 ⟨aDy, aDz, aDA, rfl, ho0, ho1, ho2, hi, hb, hk⟩
    refine ⟨_, rfl, ?_⟩
    have acY := ak (Kd.aC (Kd.dR ho0 (Kd.jh (ur iq.out))) (dG (w := w) (g := g) (row := none) (kh HK.out)))
    have acZ := ak (Kd.aC (Kd.dR ho1 (Kd.jh (ur gQ.out))) (dG (w := w) (g := g) (row := none) (kh HK.out)))
    have ac0 := ak (Kd.aC (Kd.nH (Kd.nH (Kd.nH (Kd.dR (Kd.dR (Kd.dR ho2 (Kd.jh (ur iq.out))) (Kd.jh (ur gQ.out))) (Kd.jh (ur iE.out))) (g := wz) (o := .cells #[.slice zk uX.length y9, .slice yM uw.length zf, .slice zl uY.length zh] 28 (0, 0)) (ub dV.out)) (g := uf) (o := .cells #[.slice none 0 0, .slice none 0 0, .slice none 0 0] 28 (0, 0)) (ub fM.out)) (g := kC) (o := .cells #[.slice Tq sF.length Tt, .slice Tv qU.length Tz, .slice TA uo.length TB] 28 (0, 0)) (ub fO.out)) (dG (w := w) (g := g) (row := none) (kh HK.out)))
    replace dV := kc dV hk qV
    replace fM := kc fM hk qW
    replace iq := kj iq hk ho0
    replace gQ := kj gQ hk ho1
    replace iE := ak (Kd.aY (Kd.sS (Kd.sS (Kd.sS (Kd.Td (aN.apart (show aN w0 _ g fB Dp from oI) (ur iE.out) (by decide)) hk) (Kd.bZ ho0)) (Kd.bZ ho1)) (Kd.bZ ho2)) (fun _ h_ => h_.1))
    replace fO := kc fO hk qX
    replace HK := kt HK hk
    replace HB := ak (hb)
    replace HI0 := ak (hi)
    try clear hb
    try clear hk
    try clear hi
    try clear ho0
    try clear ho1
    try clear ho2
    obtain ⟨axU, axV, aoW⟩ := Kd.aI acY.out
    (first | subst aoW | (injection aoW with oM uz oN; have uD := oM.symm; have uF := oN.symm; clear oM uz oN; subst uD; subst uF))
    obtain ⟨axW, axX, aoX⟩ := Kd.aI acZ.out
    (first | subst aoX | (injection aoX with oM uz oN; have uD := oM.symm; have uF := oN.symm; clear oM uz oN; subst uD; subst uF))
    obtain ⟨axY, axZ, aoY⟩ := Kd.aI ac0.out
    (first | subst aoY | (injection aoY with oM uz oN; have uD := oM.symm; have uF := oN.symm; clear oM uz oN; subst uD; subst uF))
    refine hK.out _ _ sx (fun hHeld => ?_)
    clear hK K
    refine nrm ?_
    refine o1 4 (fun K hK => ?_)
    refine Ci (w1 := ?_) (v := ?_) (by rfl) rfl ?_ ?_
    rotate_left 2
    ·
     go_simp
     constructor
     ·
      rfl
     ·
      rfl
    refine hK.out _ _ ⟨(aA (iV fO.out _) 0).trans rfl, (aA (iV fO.out _) 1).trans rfl, (aA (iV fO.out _) 2).trans rfl⟩ (fun hHeld => ?_)
    clear hK K
    refine nrm ?_
    refine o1 5 (fun K hK => ?_)
    refine Kd.nJ k28 w.heap.size (by rfl) (.tmp 37) (.tmp 40) 26 28 (.agg #[(.slice none 0 0), (.slice none 0 0), (.slice none 0 0)]) 72 rfl Tryz.underlying26 SN rfl (by decide) (by omega) (.slice TA uo.length TB) uo (⟨agn, agp, agq⟩ : nG) [.slice axU agn.length axV, .slice axW agp.length axX, .slice axY agq.length axZ] (fun k_ => some k_ ≠ (.slice Tq sF.length Tt : Value).ownBlock ∧ some k_ ≠ (.slice Tv qU.length Tz : Value).ownBlock ∧ k_ ≠ wz ∧ k_ ≠ uf ∧ k_ ≠ kC) (fun k_ => ((fun k_ => some k_ ≠ (.slice Tq sF.length Tt : Value).ownBlock ∧ some k_ ≠ (.slice Tv qU.length Tz : Value).ownBlock ∧ k_ ≠ wz ∧ k_ ≠ uf ∧ k_ ≠ kC)) k_ ∧ some k_ ≠ (.slice TA uo.length TB : Value).ownBlock) rfl rfl ?aP (fun _ hk => hk) ?aF ?aO (Below.refl _ _) ?aS ?aL ?_
    (case aP => exact Oi _ _ _ (⟨agn, agp, agq⟩ : nG) (Kd.aY (Kd.lV (Kd.lV (Kd.lV (Kd.oK (Kd.oK (acY.out) (Kd.kG gQ.out) (by decide)) (Kd.kG iE.out) (by decide)) dV.out (by decide)) fM.out (by decide)) fO.out (by decide)) (fun k_ hk => ⟨⟨hk.1.1.1.1.1.2, ⟨hk.1.1.1.1.2, ⟨hk.1.1.2, ⟨hk.1.2, hk.2⟩⟩⟩⟩, hk.1.1.1.2⟩)) (Kd.aY (Kd.lV (Kd.lV (Kd.lV (Kd.oK (Kd.oK (acZ.out) (Kd.kG iq.out) (by decide)) (Kd.kG iE.out) (by decide)) dV.out (by decide)) fM.out (by decide)) fO.out (by decide)) (fun k_ hk => ⟨⟨hk.1.1.1.1.2, ⟨hk.1.1.1.1.1.2, ⟨hk.1.1.2, ⟨hk.1.2, hk.2⟩⟩⟩⟩, hk.1.1.1.2⟩)) (Kd.aY (ac0.out) (fun k_ hk => ⟨⟨hk.1.1.1.1.1.2, ⟨hk.1.1.1.1.2, ⟨hk.1.1.2, ⟨hk.1.2, hk.2⟩⟩⟩⟩, hk.1.1.1.2⟩)))
    (case aF => exact (fun k_ hk => ⟨Kd.fresh' (Kd.jh (ur iq.out)) k_ hk, Kd.fresh' (Kd.jh (ur gQ.out)) k_ hk, Kd.xQ (g := wz) (o := .cells #[.slice zk uX.length y9, .slice yM uw.length zf, .slice zl uY.length zh] 28 (0, 0)) (ub dV.out) k_ hk, Kd.xQ (g := uf) (o := .cells #[.slice none 0 0, .slice none 0 0, .slice none 0 0] 28 (0, 0)) (ub fM.out) k_ hk, Kd.xQ (g := kC) (o := .cells #[.slice Tq sF.length Tt, .slice Tv qU.length Tz, .slice TA uo.length TB] 28 (0, 0)) (ub fO.out) k_ hk⟩))
    (case aO => exact (ur (Kd.aY iE.out (fun _ hk => ⟨hk.1.1.1.1.1.1.1, ⟨hk.1.1.1.1.1.1.2, ⟨hk.1.1.1.1.1.2, ⟨hk.1.1.1.1.2, hk.1.1.1.2⟩⟩⟩⟩))))
    (case aS => exact (dG (w := w) (g := g) (row := none) (kh HK.out)))
    (case aL => have := aoT.out; omega)
    intro aDB w89 ho hb hg hat
    rw [← aik.out] at ho
    have yQ := ak (aN.grown oI hg (aN.own_ne HI0.out iE.out (by decide)))
    have yR := ak (cZ (g := wz) (o := .cells #[.slice zk uX.length y9, .slice yM uw.length zf, .slice zl uY.length zh] 28 (0, 0)) (ub dV.out) hg (Kd.y8 iE.out (fun _ hk => hk.1.1.1.1.1.2)))
    have zB := ak (cZ (g := uf) (o := .cells #[.slice none 0 0, .slice none 0 0, .slice none 0 0] 28 (0, 0)) (ub fM.out) hg (Kd.y8 iE.out (fun _ hk => hk.1.1.1.1.2)))
    have CJ := ak (Kd.qc (ur iq.out) (Kd.kG (ur iE.out)) (by decide) hg)
    have GX := ak (Kd.qc (ur gQ.out) (Kd.kG (ur iE.out)) (by decide) hg)
    have IZ := ak (cZ (g := kC) (o := .cells #[.slice Tq sF.length Tt, .slice Tv qU.length Tz, .slice TA uo.length TB] 28 (0, 0)) (ub fO.out) hg (Kd.y8 iE.out (fun _ hk => hk.1.1.1.2)))
    have MN := ak (uZ oJ HL.out hb)
    have Rh := ak (aJ.trans (kh HK.out) (aJ.yS hg g) (Kd.F5 iE.out))
    have U8 := ak (ho)
    clear HI0 dV fM iq gQ fO HB HK iE acY acZ ac0
    have HI0 := yQ
    have dV := yR
    have fM := zB
    have iq := CJ
    have gQ := GX
    have fO := IZ
    have HB := MN
    have HK := Rh
    have aoZ := U8
    clear yQ yR zB CJ GX IZ MN Rh U8 ho hb hg hat
    obtain ⟨ax0, ax1, ao0⟩ := Kd.aI aoZ.out
    (first | subst ao0 | (injection ao0 with oM uz oN; have uD := oM.symm; have uF := oN.symm; clear oM uz oN; subst uD; subst uF))
    refine hK.out _ _ sx (fun hHeld => ?_)
    clear hK K
    refine nrm ?_
    refine pl 6 ?_
    refine GY (i := 7) (N := none) #[true, true, true, true, true, true, true, true] rfl rfl (Ac D8.out (by kernel_rfl)) (by decide) (fun K hK => ?_)
    have aDC : w89.cell? ⟨kC, 2, none⟩ = some (.slice TA uo.length TB) := (aA fO.out 2).trans rfl
    have aAV := gY fO.out 2
    have awx := tC.out
    have awy := tJ.out
    have awz := tH.out
    have awC := tK.out
    refine GZ (w1 := ?_) (by rfl) rfl ?_ ?_
    rotate_left
    ·
     go_simp
     rfl
    refine hK.out _ _ ?_
    clear hK K
    refine G5 (yA D8.out (by kernel_rfl)) ?_
    have z95 := kK fO.out
    have aAW := qW.out
    have aAX := Dt.out
    have z97 := kK fM.out
    try go_wp2
    refine bodyPost_ret (results_cell_row rfl _ _ uf 28 #[.slice Tq sF.length Tt, .slice Tv qU.length Tz, .slice ax0 axQ.length ax1] (0, 0) _ rfl bq Tryz.underlying28 rfl (by kernel_rfl)) rfl ?_
    exact ⟨_, _, _, er, rr, rr, rr, oI, oJ, kh HK.out⟩
   ·
    obtain ⟨rfl, rfl, rfl, rfl⟩ := s4 H
    go_enter Tryz.func68, Tryz.ntmps68
    go_wp2_with (first | (refine bS HI0 HK HB HW0 3 #[.slice zk uX.length y9, .slice yM uw.length zf, .slice zl uY.length zh] 28 ?_; clear HI0 HK HB; intro wz w98 dV acK acL Dq qV hg hb HI0 HK HB; clear hb hg) | (refine bS HI0 HK HB HW0 4 #[.slice none 0 0, .slice none 0 0, .slice none 0 0] 28 ?_; clear HI0 HK HB; intro uf w99 fM acM acN Dt qW hg hb HI0 HK HB; have xR := Ba dV hg; have xU := Bc dV hg; replace dV := kb dV hb; clear hb hg; have ax2 := xR.out; have ax3 := xU.out; have ax4 := qV.out; have ax5 := Dq.out; have aDD := kK dV.out) | (refine gL 110 7 Tryz.func110 #[.agg #[.slice zk uX.length y9, .slice yM uw.length zf, .slice zl uY.length zh]] ?_; (with_reducible refine (dI.calls k _ _ uX _ _ uw _ _ uY sF qU uo _ (Kd.uy YR.out (kh HK.out)) YS.out (by with_unfolding_all exact Kd.Ti (⟨#[]⟩ : ByteArray) YT.out (kh HK.out) YQ) YU.out (Kd.uy YV.out (kh HK.out)) YW.out A3.out).mono ?_); rintro e aDE ⟨alz, alA, alB, rfl, ho0, ho1, ho2, hb⟩; refine ⟨_, rfl, ?_⟩; have iq := ak (Kd.aC ho0 (dG (w := w) (g := g) (row := none) (kh HK.out))); have gQ := ak (Kd.aC ho1 (dG (w := w) (g := g) (row := none) (kh HK.out))); have iE := ak (Kd.aC (Kd.nH (Kd.nH ho2 (g := wz) (o := .cells #[.slice zk uX.length y9, .slice yM uw.length zf, .slice zl uY.length zh] 28 (0, 0)) (ub dV.out)) (g := uf) (o := .cells #[.slice none 0 0, .slice none 0 0, .slice none 0 0] 28 (0, 0)) (ub fM.out)) (dG (w := w) (g := g) (row := none) (kh HK.out))); replace dV := kb dV hb; replace fM := kb fM hb; replace HK := ak (aJ.trans (kh HK.out) (aJ.of_below hb g none) (.inl rfl)); replace HB := ak (iD oJ hb); replace HI0 := ak (aN.below oI hb); clear hb; (try clear ho0); (try clear ho1); (try clear ho2)) | (refine bS HI0 HK HB HW0 5 #[.slice none 0 0, .slice none 0 0, .slice none 0 0] 28 ?_; clear HI0 HK HB; intro kC aDF fO acO acP Du qX hg hb HI0 HK HB; have tC := Ba dV hg; have tH := Bc dV hg; have tJ := Ba fM hg; have tK := Bc fM hg; replace iq := rb iq hb; replace gQ := rb gQ hb; replace iE := ak (Kd.sQ (Kd.yJ (ur iE.out) kC (Nat.le_of_eq hg.symm)) hb); replace dV := kb dV hb; replace fM := kb fM hb; clear hb hg; obtain ⟨ac1, ac2, ao1⟩ := Kd.aI iq.out; subst ao1; have ax6 := tH.out; have ax7 := tC.out; have ax8 := tK.out; have ax9 := tJ.out; have ax_ := qX.out; have aya := Du.out; have z109 := kK fO.out; obtain ⟨ac3, ac4, ao2⟩ := Kd.aI gQ.out; subst ao2; obtain ⟨ac5, ac6, ao3⟩ := Kd.aI iE.out; subst ao3) | (refine gL 57 9 Tryz.func57 #[.pointer (some ⟨g, 0, none⟩), .int .i64 20] ?_; (with_reducible refine (b_.calls w0 ?fZ ?jc A4.out).mono ?_); (case fZ => exact oI); (case jc => exact oJ); rintro e aDG ⟨rfl, hi, hb, hk⟩; refine ⟨_, rfl, ?_⟩; replace dV := U2 dV #[.slice zk uX.length y9, .slice yM uw.length zf, .slice zl uY.length zh] hk qV; replace fM := U2 fM #[.slice none 0 0, .slice none 0 0, .slice none 0 0] hk qW; replace iq := ki (w0 := w0) (f0 := fB) (f1 := ku) iq hk; replace gQ := ki (w0 := w0) (f0 := fB) (f1 := ku) gQ hk; replace iE := ak (Kd.aY (Kd.H6 (aN.apart (show aN w0 _ g fB ku from oI) (ur (Kd.aY (Kd.lK (p := ⟨kC, 2, none⟩) (Kd.lK (p := ⟨kC, 1, none⟩) (Kd.lK (p := ⟨kC, 0, none⟩) (Kd.aY iE.out (fun k_ hk => (⟨hk, hk.2⟩ : _ ∧ k_ ≠ kC))) (fun _ hk => hk.2) (.slice ac1 sF.length ac2)) (fun _ hk => hk.2) (.slice ac3 qU.length ac4)) (fun _ hk => hk.2) (.slice ac5 uo.length ac6)) (fun _ h_ => h_.1))) (by decide)) hk (fun _ h => h.2)) (fun _ h => h.1)); replace fO := U2 fO #[.slice ac1 sF.length ac2, .slice ac3 qU.length ac4, .slice ac5 uo.length ac6] hk qX; replace HK := kt HK hk; replace HB := ak (hb); replace HI0 := ak (hi); clear hb; (try clear hk); (try clear hi); have aDH := kK fO.out; have ayb := qW.out; have ayc := Dt.out; have aDI := kK fM.out))
    refine bodyPost_ret (results_cell_row rfl _ _ uf 28 #[.slice ac1 sF.length ac2, .slice ac3 qU.length ac4, .slice ac5 uo.length ac6] (0, 0) _ rfl bq Tryz.underlying28 rfl (by kernel_rfl)) rfl ?_
    exact ⟨_, _, _, er, rr, rr, rr, oI, oJ, kh HK.out⟩
end Go.Proofs.YtncdadcmghglkaaGreatDoor.PFnPartLines
