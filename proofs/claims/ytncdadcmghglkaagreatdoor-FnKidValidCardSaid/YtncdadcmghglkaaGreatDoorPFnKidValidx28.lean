/- Printed walks; conditions: those in each statement. -/
import Derived.Test.YtncdadcmghglkaaGreatDoorVFnKidValidQt
import Derived.Test.YtncdadcmghglkaaGreatDoorVFnKidValidYt
import Derived.Test.YtncdadcmghglkaaGreatDoorPFnKidValidx0
import Derived.Test.YtncdadcmghglkaaGreatDoorPFnKidValidx20
import Derived.Test.YtncdadcmghglkaaGreatDoorPFnKidValidx26
import Derived.Test.YtncdadcmghglkaaGreatDoorPFnKidValidx27
-- short
-- dense
-- sq
-- sq2
namespace Go.Proofs.YtncdadcmghglkaaGreatDoor.PFnKidValid
open Go.RowKit Go.Proofs.YtncdadcmghglkaaGreatDoor.X Go.Proofs.YtncdadcmghglkaaGreatDoorW.bI Go.Proofs.YtncdadcmghglkaaGreatDoorW.gq Go.Proofs.YtncdadcmghglkaaGreatDoorW.iJ
attribute [local go_sem] kJ kK mD mF jv jw kL kM   -- for this text's walks alone
set_option linter.unusedVariables false
set_option maxHeartbeats 8000000
set_option maxRecDepth 100000
set_option linter.unusedSimpArgs false
def dO.f (k : Nat) (eY : List Int) (kE : Int) (vV : List (gU)) (u_ : List ByteArray) (vW : List (mY)) : Option ((List (gU)) × List ByteArray × (List (mY)) × Int) := (dK.f k vV u_ vW).bind fun AQ => ((cZ.f k eY kE 20).bind fun Qs => (if Qs.1 = 0 then ((fE.f k eY Qs.2 (([(⟨#[10]⟩ : ByteArray), (⟨#[120]⟩ : ByteArray)] : List ByteArray))).bind fun alm => (if AQ.2.1.length < 8796093022208 then (some (AQ.1, (AQ.2.1 ++ [alm.1]), AQ.2.2, alm.2)) else (none))) else (if Qs.1 = 1 then ((fE.f k eY Qs.2 (([(⟨#[97, 32, 98]⟩ : ByteArray), (⟨#[79, 107]⟩ : ByteArray)] : List ByteArray))).bind fun aln => ((fE.f k eY aln.2 (([(⟨#[32, 120]⟩ : ByteArray), (⟨#[120]⟩ : ByteArray)] : List ByteArray))).bind fun alo => (if AQ.1.length < 4398046511104 then (some ((AQ.1 ++ [(⟨aln.1, alo.1⟩ : gU)]), AQ.2.1, AQ.2.2, alo.2)) else (none)))) else (if Qs.1 = 2 then ((iw.f k eY Qs.2).bind fun abk => (if AQ.2.2.length < 1954687338268 then (some (AQ.1, AQ.2.1, (AQ.2.2 ++ [(⟨abk.1, abk.2.1, abk.2.2.1⟩ : mY)]), abk.2.2.2)) else (none))) else (some (AQ.1, AQ.2.1, AQ.2.2, Qs.2))))))
def dO.T4 : Bool × List (List Nat × List Nat) := (true, [([], []), ([0], [0]), ([], []), ([], []), ([2, 3], [2, 3]), ([4], [4]), ([1, 5, 4], [1, 5]), ([0, 1, 2, 3, 4, 5, 6], []), ([7, 6, 6, 0, 1, 2, 3, 4, 5, 6], [6, 7])])
def dO.B4 : List Nat := [0, 1, 0, 0, 12, 28, 63, 127, 255]
theorem dO.aAs : sQ .any (opsOf Tryz.f68 4) = dO.T4 := by kernel_rfl
theorem dO.auC : nU dO.T4.2 dO.B4 = true := by kernel_rfl
def dO.T6 : Bool × List (List Nat × List Nat) := (true, [([], []), ([0], [0]), ([], []), ([], []), ([2, 3], [2, 3]), ([], []), ([], []), ([5, 6, 4], [5, 6]), ([4, 7], [4, 7]), ([8], [8]), ([1, 9, 7], [1, 9]), ([0, 1, 2, 3, 4, 5, 6, 7, 8, 9, 10], []), ([11, 10, 10, 0, 1, 2, 3, 4, 5, 6, 7, 8, 9, 10], [10, 11])])
def dO.B6 : List Nat := [0, 1, 0, 0, 12, 0, 0, 124, 252, 508, 1023, 2047, 4095]
theorem dO.tab6 : sQ .any (opsOf Tryz.f68 6) = dO.T6 := by kernel_rfl
theorem dO.alp : nU dO.T6.2 dO.B6 = true := by kernel_rfl
def dO.T8 : Bool × List (List Nat × List Nat) := (true, [([], []), ([0], [0]), ([], []), ([2], [2]), ([3], [3]), ([1, 4, 3], [1, 4]), ([0, 1, 2, 3, 4, 5], []), ([6, 5, 5, 0, 1, 2, 3, 4, 5], [5, 6])])
def dO.B8 : List Nat := [0, 1, 0, 4, 12, 31, 63, 127]
theorem dO.acp : sQ .any (opsOf Tryz.f68 8) = dO.T8 := by kernel_rfl
theorem dO.SK : nU dO.T8.2 dO.B8 = true := by kernel_rfl
theorem dO.calls {k g zH zI zJ : Nat} {eY : List Int} {kE r4 : Int} {zK zq zL : Option Addr} {vV r1 : List (gU)} {u_ r2 : List ByteArray} {vW r3 : List (mY)} {w : World} (w0 : World) (hI : aK w0 w g eY kE) (hB : Below w0.heap.size w0 w) (alq : ∀ W_, aJ w W_ g none → Kd.C qj W_ zK vV.length vV) (alr : vV.length ≤ zH) (als : Kd.C Kd.string w zq u_.length u_) (alu : u_.length ≤ zI) (abl : ∀ ad, zq = some ad → 0 < u_.length → ad.block ≠ g) (alv : ∀ W_, aJ w W_ g none → Kd.C k28 W_ zL vW.length vW) (alx : vW.length ≤ zJ) (h : dO.f k eY kE vV u_ vW = some (r1, r2, r3, r4)) :
  Calls Tryz.prog 68 #[.pointer (some ⟨g, 0, none⟩), .agg #[.slice zK vV.length zH, .slice zq u_.length zI, .slice zL vW.length zJ]] w fun e w' => ∃ ql DT E8 : Value, e = .returned (.agg #[ql, DT, E8]) ∧ Kd.R qj 69 w' w.heap.size (fun _ => True) ql r1 ∧ Kd.R Kd.string 9 w' w.heap.size (fun _ => True) DT r2 ∧ Kd.R k28 28 w' w.heap.size (fun k_ => some k_ ≠ (ql : Value).ownBlock ∧ some k_ ≠ (DT : Value).ownBlock) E8 r3 ∧ aK w0 w' g eY r4 ∧ Below w0.heap.size w0 w' ∧ aJ w w' g none := by
 have Dj := Tryz.underlying28
 have DU := Tryz.underlying69
 have abm := ak alq
 have abn := ak alr
 clear alq alr
 have abo := ak als
 have abp := ak alu
 clear als alu
 have abq := ak alv
 have abr := ak alx
 clear alv alx
 have HI0 := ak hI
 have HK := ak (aJ.refl w g none)
 have HL := ak hB.size
 clear hI
 have HW0 := ak hB.size
 have HB := ak hB
 clear hB
 unfold dO.f at h; have H := h
 clear h
 replace H := bd H
 obtain ⟨⟨tC, rQ, uO⟩, A3, H⟩ := H
 (try dsimp only at H)
 replace H := bd H
 obtain ⟨⟨aIy, Ea⟩, A4, H⟩ := H
 (try dsimp only at H)
 replace H := sq H
 rcases H with ⟨nO, JM, H⟩ | ⟨c5, nO, JM, H⟩
 ·
  obtain ⟨aoi, afb⟩ := nm ([(⟨#[10]⟩ : ByteArray), (⟨#[120]⟩ : ByteArray)] : List ByteArray)
  rw [← afb.out] at H
  replace H := bd H
  obtain ⟨⟨aoj, aIz⟩, A6, H⟩ := H
  (try dsimp only at H)
  replace H := nl H; obtain ⟨aok, H⟩ := H
  obtain ⟨aAt, aly⟩ := nm (rQ ++ [aoj])
  rw [← aly.out] at H
  obtain ⟨rfl, rfl, rfl, rfl⟩ := s4 H
  go_enter Tryz.func68, Tryz.ntmps68
  try go_wp2_with (first | (refine bS HI0 HK HB HW0 3 #[.slice zK vV.length zH, .slice zq u_.length zI, .slice zL vW.length zJ] 28 ?_; clear HI0 HK HB; intro xg w8 dU afc afd Eb rU hg hb HI0 HK HB; clear hb hg) | (refine bS HI0 HK HB HW0 4 #[.slice none 0 0, .slice none 0 0, .slice none 0 0] 28 ?_; clear HI0 HK HB; intro uI w9 fJ afe aff Ec rV hg hb HI0 HK HB; have yJ := BL dU hg; have yK := BM dU hg; replace dU := kb dU hb; clear hb hg; have aDx := yJ.out; have aDy := yK.out; have auD := rU.out; have auE := Eb.out; have z12 := jW dU.out) | (refine gL 110 7 Tryz.func110 #[.agg #[.slice zK vV.length zH, .slice zq u_.length zI, .slice zL vW.length zJ]] ?_; (with_reducible refine (dK.calls k _ _ vV _ _ u_ _ _ vW tC rQ uO _ (Kd.vk abm.out (kh HK.out)) abn.out (by with_unfolding_all exact Kd.U8 (⟨#[]⟩ : ByteArray) abo.out (kh HK.out) abl) abp.out (Kd.vk abq.out (kh HK.out)) abr.out A3.out).mono ?_); rintro e w13 ⟨aol, aom, aon, rfl, ho0, ho1, ho2, hb⟩; refine ⟨_, rfl, ?_⟩; have ig := ak (Kd.aC ho0 (dI (w := w) (g := g) (row := none) (kh HK.out))); have gQ := ak (Kd.aC ho1 (dI (w := w) (g := g) (row := none) (kh HK.out))); have iD := ak (Kd.aC (Kd.nN (Kd.nN ho2 (g := xg) (o := .cells #[.slice zK vV.length zH, .slice zq u_.length zI, .slice zL vW.length zJ] 28 (0, 0)) (ub dU.out)) (g := uI) (o := .cells #[.slice none 0 0, .slice none 0 0, .slice none 0 0] 28 (0, 0)) (ub fJ.out)) (dI (w := w) (g := g) (row := none) (kh HK.out))); replace dU := kb dU hb; replace fJ := kb fJ hb; replace HK := ak (aJ.trans (kh HK.out) (aJ.of_below hb g none) (.inl rfl)); replace HB := ak (iC o7 hb); replace HI0 := ak (aK.below oZ hb); clear hb; (try clear ho0); (try clear ho1); (try clear ho2)) | (refine bS HI0 HK HB HW0 5 #[.slice none 0 0, .slice none 0 0, .slice none 0 0] 28 ?_; clear HI0 HK HB; intro kG SA fK afg afh Ed rW hg hb HI0 HK HB; have uw := BL dU hg; have uy := BM dU hg; have uz := BL fJ hg; have uD := BM fJ hg; replace ig := rb ig hb; replace gQ := rb gQ hb; replace iD := ak (Kd.sO (Kd.yZ (ur iD.out) kG (Nat.le_of_eq hg.symm)) hb); replace dU := kb dU hb; replace fJ := kb fJ hb; clear hb hg; obtain ⟨LU, LV, Ue⟩ := Kd.aV ig.out; subst Ue; have aDz := uy.out; have aDA := uw.out; have ak2 := uD.out; have ak3 := uz.out; have aua := rW.out; have aub := Ed.out; have z19 := jW fK.out; obtain ⟨Ql, Qm, Yu⟩ := Kd.aV gQ.out; subst Yu; obtain ⟨Ou, Ov, XT⟩ := Kd.aV iD.out; subst XT) | (refine gL 57 9 Tryz.func57 #[.pointer (some ⟨g, 0, none⟩), .int .i64 20] ?_; (with_reducible refine (cZ.calls w0 ?fU ?iW A4.out).mono ?_); (case fU => exact oZ); (case iW => exact o7); rintro e X_ ⟨rfl, hi, hb, hk⟩; refine ⟨_, rfl, ?_⟩; replace dU := kd_ dU #[.slice zK vV.length zH, .slice zq u_.length zI, .slice zL vW.length zJ] hk rU; replace fJ := kd_ fJ #[.slice none 0 0, .slice none 0 0, .slice none 0 0] hk rV; replace ig := ki (w0 := w0) (f0 := eY) (f1 := kE) ig hk; replace gQ := ki (w0 := w0) (f0 := eY) (f1 := kE) gQ hk; replace iD := ak (Kd.bn (Kd.IL (aK.apart (show aK w0 _ g eY kE from oZ) (ur (Kd.bn (Kd.lS (p := ⟨kG, 2, none⟩) (Kd.lS (p := ⟨kG, 1, none⟩) (Kd.lS (p := ⟨kG, 0, none⟩) (Kd.bn iD.out (fun k_ hk => (⟨hk, hk.2⟩ : _ ∧ k_ ≠ kG))) (fun _ hk => hk.2) (.slice LU tC.length LV)) (fun _ hk => hk.2) (.slice Ql rQ.length Qm)) (fun _ hk => hk.2) (.slice Ou uO.length Ov)) (fun _ h_ => h_.1))) (by decide)) hk (fun _ h => h.2)) (fun _ h => h.1)); replace fK := kd_ fK #[.slice LU tC.length LV, .slice Ql rQ.length Qm, .slice Ou uO.length Ov] hk rW; replace HK := kt HK hk; replace HB := ak (hb); replace HI0 := ak (hi); clear hb; (try clear hk); (try clear hi)))
  replace ig := ak (Kd.l9 ig.out)
  replace gQ := ak (Kd.l9 gQ.out)
  replace iD := ak (Kd.l9 iD.out)
  replace dU := ak (bC dU.out)
  replace fJ := ak (bC fJ.out)
  replace fK := ak (bC fK.out)
  replace HI0 := ak (aK.drew HI0.out)
  replace HK := ak (yF HK.out)
  replace HB := ak (iF HB.out)
  refine Df (n := 9) (S := fun w' => w'.cell? ⟨kG, 0, none⟩ = some (.slice LU tC.length LV) ∧ w'.cell? ⟨kG, 1, none⟩ = some (.slice Ql rQ.length Qm) ∧ w'.cell? ⟨kG, 2, none⟩ = some (.slice Ou uO.length Ov)) (ds := [8]) #[false, false, false, false, false, false, false, false, false] (by kernel_rfl) rfl rfl ⟨(aA fK.out 0).trans rfl, (aA fK.out 1).trans rfl, (aA fK.out 2).trans rfl⟩ (fun hHeld => ?_); refine uo dO.aAs dO.auC (fun ug Yd => ?_)
  generalize X_.drew = w23 at ig gQ iD dU fJ fK HI0 HK HB hHeld ⊢
  refine pl 0 ?_
  refine pl 2 ?_
  refine tk 1 ?_
  refine o1 3 (fun K hK => ?_)
  refine Kd.qM Kd.string _ 9 ?hg (N := 15) ?hd (xs := ([(⟨#[10]⟩ : ByteArray), (⟨#[120]⟩ : ByteArray)] : List ByteArray)) (inner := [.string (⟨#[10]⟩ : ByteArray), .string (⟨#[120]⟩ : ByteArray)]) (ok := fun _ => True) (wE := fun _ => True) ?hr ?hp (fun _ hk => hk) trivial (Below.refl _ _) (Nat.le_refl _) (by simp) ?_; (case hd => rfl); (case hg => rfl); (case hr => first | (go_simp; done) | (go_simp; rfl)); (case hp => exact (dD.one (show Kd.M Kd.string _ _ _ (⟨#[10]⟩ : ByteArray) [.string (⟨#[10]⟩ : ByteArray)] from rfl) (dD.one (show Kd.M Kd.string _ _ _ (⟨#[120]⟩ : ByteArray) [.string (⟨#[120]⟩ : ByteArray)] from rfl) (dD.none _ _))))
  intro aIA w24 Qo hb BX wH
  clear BX wH
  (first | rw [← afb.out] at Qo | (simp only [Int.reduceToNat] at Qo; rw [← afb.out] at Qo))
  have Ik := ak (Kd.aC (Kd.gK Qo (Kd.kU (ur gQ.out))) (dI (w := w) (g := g) (row := none) (kh HK.out)))
  replace ig := rb ig hb
  replace gQ := ak (Kd.fP (ur gQ.out) (Kd.fO Qo) hb)
  replace iD := ak (Kd.fP (ur iD.out) (Kd.fO Qo) hb)
  replace dU := kb dU hb
  replace fJ := kb fJ hb
  replace fK := kb fK hb
  replace HK := ak (aJ.trans (kh HK.out) (aJ.of_below hb g none) (.inl rfl))
  replace HB := ak (iC o7 hb)
  replace HI0 := ak (aK.below oZ hb)
  clear hb Qo
  obtain ⟨aoo, aop, auF⟩ := Kd.aV Ik.out
  (first | subst auF | (injection auF with qV xB qW; have xC := qV.symm; have xE := qW.symm; clear qV xB qW; subst xC; subst xE))
  refine hK.out _ _ sx (fun hHeld => ?_)
  clear hK K
  refine nrm ?_
  refine o1 4 (fun K hK => ?_)
  refine y8 Tryz.func58 (by kernel_rfl) rfl #[.pointer (some ⟨g, 0, none⟩), .slice aoo aoi.length aop] (by rfl) rfl rfl ma ?_
  with_reducible refine (fE.calls w0 ?fU ?iW ?zk ?Dx ?zl A6.out).mono ?_
  (case fU => exact oZ)
  (case iW => exact o7)
  (case zk => repeat (first | exact (Kd.aH Ik.out).2.2 | (with_reducible refine Kd.jf ?_ _) | (with_reducible refine Kd.jg ?_ _) | (with_reducible refine Kd.kH ?_)))
  (case Dx => exact (Kd.aH Ik.out).2.1)
  (case zl => exact oh (aK.own_ne HI0.out Ik.out (by decide)))
  rintro e w27 ⟨rfl, hi, hb, hk⟩
  refine ⟨_, rfl, ?_⟩
  replace dU := kc dU hk rU
  replace fJ := kc fJ hk rV
  replace ig := ki (w0 := w0) (f0 := eY) (f1 := Ea) ig hk
  replace gQ := ki (w0 := w0) (f0 := eY) (f1 := Ea) gQ hk
  replace iD := ki (w0 := w0) (f0 := eY) (f1 := Ea) iD hk
  replace fK := kc fK hk rW
  replace Ik := ki (w0 := w0) (f0 := eY) (f1 := Ea) Ik hk
  replace HK := kt HK hk
  replace HB := ak (hb)
  replace HI0 := ak (hi)
  try clear hb
  try clear hk
  try clear hi
  refine hK.out _ _ sx (fun hHeld => ?_)
  clear hK K
  refine nrm ?_
  refine o1 5 (fun K hK => ?_)
  refine Dh (w1 := ?_) (v := ?_) (by rfl) rfl ?_ ?_
  rotate_left 2
  ·
   go_simp
   constructor
   ·
    rfl
   ·
    rfl
  refine hK.out _ _ ⟨(aA (aX fK.out _) 0).trans rfl, (aA (aX fK.out _) 1).trans rfl, (aA (aX fK.out _) 2).trans rfl⟩ (fun hHeld => ?_)
  clear hK K
  refine nrm ?_
  refine o1 6 (fun K hK => ?_)
  refine Kd.nS Kd.string w.heap.size (by rfl) (.tmp 13) (.tmp 17) 23 9 (.string ⟨#[]⟩) 16 rfl Tryz.underlying23 info9 rfl (by decide) (by omega) (.slice Ql rQ.length Qm) rQ aoj [.string aoj] (fun k_ => some k_ ≠ (.slice aoo aoi.length aop : Value).ownBlock) (fun _ => False) rfl rfl ?aP (fun _ hk => hk.elim) ?aF ?aO (Below.refl _ _) ?aS ?aL ?_
  (case aP => exact rfl)
  (case aF => exact (fun k_ hk => Kd.fresh' (Kd.kU (ur Ik.out)) k_ hk))
  (case aO => exact (ur (Kd.bn gQ.out (fun _ hk => hk.2))))
  (case aS => exact (dI (w := w) (g := g) (row := none) (kh HK.out)))
  (case aL => have := aok.out; omega)
  intro aIB w28 ho hb hg hat
  rw [← aly.out] at ho
  have y5 := ak (aK.grown oZ hg (aK.own_ne HI0.out gQ.out (by decide)))
  have y7 := ak (dw (g := xg) (o := .cells #[.slice zK vV.length zH, .slice zq u_.length zI, .slice zL vW.length zJ] 28 (0, 0)) (ub dU.out) hg (Kd.oU gQ.out dU.out (by decide)))
  have zT := ak (dw (g := uI) (o := .cells #[.slice none 0 0, .slice none 0 0, .slice none 0 0] 28 (0, 0)) (ub fJ.out) hg (Kd.oU gQ.out fJ.out (by decide)))
  have Dq := ak (Kd.qm (ur ig.out) (Kd.kQ (ur gQ.out)) (by decide) hg)
  have Ib := ak (Kd.Aa (ok := (fun k_ => some k_ ≠ (.slice LU tC.length LV : Value).ownBlock ∧ some k_ ≠ (.slice aoo aoi.length aop : Value).ownBlock ∧ k_ ≠ xg ∧ k_ ≠ uI ∧ k_ ≠ kG)) (ur (Kd.bn iD.out (fun _ hk => ⟨⟨hk.1.1.1.1.1, ⟨hk.2, ⟨hk.1.1.1.2, ⟨hk.1.1.2, hk.1.2⟩⟩⟩⟩, hk.1.1.1.1.2⟩))) hg hat)
  have Kr := ak (dw (g := kG) (o := .cells #[.slice LU tC.length LV, .slice Ql rQ.length Qm, .slice Ou uO.length Ov] 28 (0, 0)) (ub fK.out) hg (Kd.oU gQ.out fK.out (by decide)))
  have N7 := ak (Kd.Aa (ok := (fun _ => True)) (ur Ik.out) hg hat)
  have SS := ak (vU o7 HL.out hb)
  have WR := ak (aJ.trans (kh HK.out) (aJ.zo hg g) (Kd.GX gQ.out))
  have n9_ := ak (ho)
  clear HI0 dU fJ ig iD fK Ik HB HK gQ
  have HI0 := y5
  have dU := y7
  have fJ := zT
  have ig := Dq
  have iD := Ib
  have fK := Kr
  have Ik := N7
  have HB := SS
  have HK := WR
  have auG := n9_
  clear y5 y7 zT Dq Ib Kr N7 SS WR n9_ ho hb hg hat
  obtain ⟨U4, U5, aic⟩ := Kd.aV auG.out
  (first | subst aic | (injection aic with qV xB qW; have xC := qV.symm; have xE := qW.symm; clear qV xB qW; subst xC; subst xE))
  refine hK.out _ _ sx (fun hHeld => ?_)
  clear hK K
  refine nrm ?_
  refine pl 7 ?_
  refine Ia (i := 8) (N := none) #[true, true, true, true, true, true, true, true, true] rfl rfl (oK ug.out (by kernel_rfl)) (by decide) (fun K hK => ?_)
  have aIC : w28.cell? ⟨kG, 1, none⟩ = some (.slice Ql rQ.length Qm) := (aA fK.out 1).trans rfl
  have aDB := gX fK.out 1
  have axN := uw.out
  have axO := uz.out
  have axP := uy.out
  have axQ := uD.out
  refine Ic (w1 := ?_) (by rfl) rfl ?_ ?_
  rotate_left
  ·
   go_simp
   rfl
  refine hK.out _ _ ?_
  clear hK K
  refine Ie (yQ ug.out (by kernel_rfl)) ?_
  have z31 := jW fK.out
  have ak5 := rV.out
  have ak6 := Ec.out
  have z33 := jW fJ.out
  try go_wp2
  refine bodyPost_ret (results_cell_row rfl _ _ uI 28 #[.slice LU tC.length LV, .slice U4 aAt.length U5, .slice Ou uO.length Ov] (0, 0) _ rfl bq Tryz.underlying28 rfl (by kernel_rfl)) rfl ?_
  exact ⟨_, _, _, er, rr, rr, rr, oZ, o7, kh HK.out⟩
 ·
  replace H := sq H
  rcases H with ⟨PX, PY, H⟩ | ⟨c34, PX, PY, H⟩
  ·
   obtain ⟨WV, WW⟩ := nm ([(⟨#[97, 32, 98]⟩ : ByteArray), (⟨#[79, 107]⟩ : ByteArray)] : List ByteArray)
   rw [← WW.out] at H
   replace H := bd H
   obtain ⟨⟨afi, Yy⟩, A35, H⟩ := H
   (try dsimp only at H)
   obtain ⟨aio, Qu⟩ := nm ([(⟨#[32, 120]⟩ : ByteArray), (⟨#[120]⟩ : ByteArray)] : List ByteArray)
   rw [← Qu.out] at H
   replace H := bd H
   obtain ⟨⟨aip, aID⟩, A36, H⟩ := H
   (try dsimp only at H)
   replace H := nl H; obtain ⟨afj, H⟩ := H
   obtain ⟨aAu, alz⟩ := nm (tC ++ [(⟨afi, aip⟩ : gU)])
   rw [← alz.out] at H
   obtain ⟨rfl, rfl, rfl, rfl⟩ := s4 H
   go_enter Tryz.func68, Tryz.ntmps68
   try go_wp2_with (first | (refine bS HI0 HK HB HW0 3 #[.slice zK vV.length zH, .slice zq u_.length zI, .slice zL vW.length zJ] 28 ?_; clear HI0 HK HB; intro xg w38 dU afc afd Eb rU hg hb HI0 HK HB; clear hb hg) | (refine bS HI0 HK HB HW0 4 #[.slice none 0 0, .slice none 0 0, .slice none 0 0] 28 ?_; clear HI0 HK HB; intro uI w39 fJ afe aff Ec rV hg hb HI0 HK HB; have yJ := BL dU hg; have yK := BM dU hg; replace dU := kb dU hb; clear hb hg; have alj := yJ.out; have alk := yK.out; have aDC := rU.out; have aDD := Eb.out; have z42 := jW dU.out) | (refine gL 110 7 Tryz.func110 #[.agg #[.slice zK vV.length zH, .slice zq u_.length zI, .slice zL vW.length zJ]] ?_; (with_reducible refine (dK.calls k _ _ vV _ _ u_ _ _ vW tC rQ uO _ (Kd.vk abm.out (kh HK.out)) abn.out (by with_unfolding_all exact Kd.U8 (⟨#[]⟩ : ByteArray) abo.out (kh HK.out) abl) abp.out (Kd.vk abq.out (kh HK.out)) abr.out A3.out).mono ?_); rintro e w43 ⟨aol, aom, aon, rfl, ho0, ho1, ho2, hb⟩; refine ⟨_, rfl, ?_⟩; have ig := ak (Kd.aC ho0 (dI (w := w) (g := g) (row := none) (kh HK.out))); have gQ := ak (Kd.aC ho1 (dI (w := w) (g := g) (row := none) (kh HK.out))); have iD := ak (Kd.aC (Kd.nN (Kd.nN ho2 (g := xg) (o := .cells #[.slice zK vV.length zH, .slice zq u_.length zI, .slice zL vW.length zJ] 28 (0, 0)) (ub dU.out)) (g := uI) (o := .cells #[.slice none 0 0, .slice none 0 0, .slice none 0 0] 28 (0, 0)) (ub fJ.out)) (dI (w := w) (g := g) (row := none) (kh HK.out))); replace dU := kb dU hb; replace fJ := kb fJ hb; replace HK := ak (aJ.trans (kh HK.out) (aJ.of_below hb g none) (.inl rfl)); replace HB := ak (iC o7 hb); replace HI0 := ak (aK.below oZ hb); clear hb; (try clear ho0); (try clear ho1); (try clear ho2)) | (refine bS HI0 HK HB HW0 5 #[.slice none 0 0, .slice none 0 0, .slice none 0 0] 28 ?_; clear HI0 HK HB; intro kG w44 fK afg afh Ed rW hg hb HI0 HK HB; have uw := BL dU hg; have uy := BM dU hg; have uz := BL fJ hg; have uD := BM fJ hg; replace ig := rb ig hb; replace gQ := rb gQ hb; replace iD := ak (Kd.sO (Kd.yZ (ur iD.out) kG (Nat.le_of_eq hg.symm)) hb); replace dU := kb dU hb; replace fJ := kb fJ hb; clear hb hg; obtain ⟨KA, KC, aAv⟩ := Kd.aV ig.out; subst aAv; have atL := uy.out; have atM := uw.out; have ale := uD.out; have alf := uz.out; have ajR := rW.out; have ajS := Ed.out; have z49 := jW fK.out; obtain ⟨DY, DZ, amY⟩ := Kd.aV gQ.out; subst amY; obtain ⟨Qv, Qw, aAw⟩ := Kd.aV iD.out; subst aAw) | (refine gL 57 9 Tryz.func57 #[.pointer (some ⟨g, 0, none⟩), .int .i64 20] ?_; (with_reducible refine (cZ.calls w0 ?fU ?iW A4.out).mono ?_); (case fU => exact oZ); (case iW => exact o7); rintro e w52 ⟨rfl, hi, hb, hk⟩; refine ⟨_, rfl, ?_⟩; replace dU := kd_ dU #[.slice zK vV.length zH, .slice zq u_.length zI, .slice zL vW.length zJ] hk rU; replace fJ := kd_ fJ #[.slice none 0 0, .slice none 0 0, .slice none 0 0] hk rV; replace ig := ki (w0 := w0) (f0 := eY) (f1 := kE) ig hk; replace gQ := ki (w0 := w0) (f0 := eY) (f1 := kE) gQ hk; replace iD := ak (Kd.bn (Kd.IL (aK.apart (show aK w0 _ g eY kE from oZ) (ur (Kd.bn (Kd.lS (p := ⟨kG, 2, none⟩) (Kd.lS (p := ⟨kG, 1, none⟩) (Kd.lS (p := ⟨kG, 0, none⟩) (Kd.bn iD.out (fun k_ hk => (⟨hk, hk.2⟩ : _ ∧ k_ ≠ kG))) (fun _ hk => hk.2) (.slice KA tC.length KC)) (fun _ hk => hk.2) (.slice DY rQ.length DZ)) (fun _ hk => hk.2) (.slice Qv uO.length Qw)) (fun _ h_ => h_.1))) (by decide)) hk (fun _ h => h.2)) (fun _ h => h.1)); replace fK := kd_ fK #[.slice KA tC.length KC, .slice DY rQ.length DZ, .slice Qv uO.length Qw] hk rW; replace HK := kt HK hk; replace HB := ak (hb); replace HI0 := ak (hi); clear hb; (try clear hk); (try clear hi)))
   replace ig := ak (Kd.l9 ig.out)
   replace gQ := ak (Kd.l9 gQ.out)
   replace iD := ak (Kd.l9 iD.out)
   replace dU := ak (bC dU.out)
   replace fJ := ak (bC fJ.out)
   replace fK := ak (bC fK.out)
   replace HI0 := ak (aK.drew HI0.out)
   replace HK := ak (yF HK.out)
   replace HB := ak (iF HB.out)
   refine Df (n := 13) (S := fun w' => w'.cell? ⟨kG, 0, none⟩ = some (.slice KA tC.length KC) ∧ w'.cell? ⟨kG, 1, none⟩ = some (.slice DY rQ.length DZ) ∧ w'.cell? ⟨kG, 2, none⟩ = some (.slice Qv uO.length Qw)) (ds := [12]) #[false, false, false, false, false, false, false, false, false, false, false, false, false] (by kernel_rfl) rfl rfl ⟨(aA fK.out 0).trans rfl, (aA fK.out 1).trans rfl, (aA fK.out 2).trans rfl⟩ (fun hHeld => ?_); refine uo dO.tab6 dO.alp (fun ug Yd => ?_)
   generalize w52.drew = w53 at ig gQ iD dU fJ fK HI0 HK HB hHeld ⊢
   refine pl 0 ?_
   refine pl 2 ?_
   refine pl 5 ?_
   refine tk 1 ?_
   refine aev (σ := Value × Value) 6 #[true, true, true, true, true, true, true, false, false, false, false, false, false] (fun s_ => [(25, s_.1), (26, .string afi), (28, s_.2)]) (fun s_ w' => (w'.cell? ⟨kG, 0, none⟩ = some (.slice KA tC.length KC) ∧ w'.cell? ⟨kG, 1, none⟩ = some (.slice DY rQ.length DZ) ∧ w'.cell? ⟨kG, 2, none⟩ = some (.slice Qv uO.length Qw)) ∧ (Kd.R qj 69 w' w.heap.size (fun _ => True) (.slice KA tC.length KC) tC) ∧ (Kd.R Kd.string 9 w' w.heap.size (fun k_ => some k_ ≠ (s_.1 : Value).ownBlock ∧ some k_ ≠ (s_.2 : Value).ownBlock) (.slice DY rQ.length DZ) rQ) ∧ (Kd.R k28 28 w' w.heap.size (fun k_ => some k_ ≠ (.slice KA tC.length KC : Value).ownBlock ∧ some k_ ≠ (.slice DY rQ.length DZ : Value).ownBlock ∧ some k_ ≠ (s_.1 : Value).ownBlock ∧ some k_ ≠ (s_.2 : Value).ownBlock ∧ k_ ≠ xg ∧ k_ ≠ uI ∧ k_ ≠ kG) (.slice Qv uO.length Qw) uO) ∧ (Kd.R Kd.string 9 w' w.heap.size (fun k_ => some k_ ≠ (.slice DY rQ.length DZ : Value).ownBlock ∧ some k_ ≠ (s_.2 : Value).ownBlock) s_.1 WV) ∧ (Kd.R Kd.string 9 w' w.heap.size (fun k_ => some k_ ≠ (.slice DY rQ.length DZ : Value).ownBlock ∧ some k_ ≠ (s_.1 : Value).ownBlock) s_.2 aio) ∧ (w'.heap[xg]? = some (.cells #[.slice zK vV.length zH, .slice zq u_.length zI, .slice zL vW.length zJ] 28 (0, 0))) ∧ (w'.heap[uI]? = some (.cells #[.slice none 0 0, .slice none 0 0, .slice none 0 0] 28 (0, 0))) ∧ (w'.heap[kG]? = some (.cells #[.slice KA tC.length KC, .slice DY rQ.length DZ, .slice Qv uO.length Qw] 28 (0, 0))) ∧ (aK w0 w' g eY Yy) ∧ (aJ w w' g none) ∧ (Below w0.heap.size w0 w')) ?_ ?_
   rotate_left
   ·
    intro SQ
    refine ah1 (i := 3) (j := 6) (Ni := some 25) (Nj := some 28) #[true, true, true, true, false, true, false, false, false, false, false, false, false] #[true, true, true, false, false, true, true, false, false, false, false, false, false] rfl rfl rfl rfl (UY ug.out (by kernel_rfl)) (by decide) (by decide) (fun K hK => ?_) (fun K hK => ?_)
    ·
     skip
     refine Kd.qM Kd.string _ 9 ?hg (N := 25) ?hd (xs := ([(⟨#[97, 32, 98]⟩ : ByteArray), (⟨#[79, 107]⟩ : ByteArray)] : List ByteArray)) (inner := [.string (⟨#[97, 32, 98]⟩ : ByteArray), .string (⟨#[79, 107]⟩ : ByteArray)]) (ok := fun _ => True) (wE := fun _ => True) ?hr ?hp (fun _ hk => hk) trivial (Below.refl _ _) (Nat.le_refl _) (by simp) ?_; (case hd => rfl); (case hg => rfl); (case hr => first | (go_simp; done) | (go_simp; rfl)); (case hp => exact (dD.one (show Kd.M Kd.string _ _ _ (⟨#[97, 32, 98]⟩ : ByteArray) [.string (⟨#[97, 32, 98]⟩ : ByteArray)] from rfl) (dD.one (show Kd.M Kd.string _ _ _ (⟨#[79, 107]⟩ : ByteArray) [.string (⟨#[79, 107]⟩ : ByteArray)] from rfl) (dD.none _ _))))
     intro Yz w54 IY hb BX wH
     clear BX wH
     (first | rw [← WW.out] at IY | (simp only [Int.reduceToNat] at IY; rw [← WW.out] at IY))
     have pR := ak (Kd.aC (Kd.gK IY (Kd.kU (ur gQ.out))) (dI (w := w) (g := g) (row := none) (kh HK.out)))
     replace ig := rb ig hb
     replace gQ := ak (Kd.fP (ur gQ.out) (Kd.fO IY) hb)
     replace iD := ak (Kd.fP (ur iD.out) (Kd.fO IY) hb)
     replace dU := kb dU hb
     replace fJ := kb fJ hb
     replace fK := kb fK hb
     replace HK := ak (aJ.trans (kh HK.out) (aJ.of_below hb g none) (.inl rfl))
     replace HB := ak (iC o7 hb)
     replace HI0 := ak (aK.below oZ hb)
     clear hb IY
     obtain ⟨auH, auI, auJ⟩ := Kd.aV pR.out
     (first | subst auJ | (injection auJ with qV xB qW; have xC := qV.symm; have xE := qW.symm; clear qV xB qW; subst xC; subst xE))
     refine hK.out _ _ sx (fun hHeld => ?_)
     clear hK K
     refine nrm ?_
     refine ah1 (i := 4) (j := 6) (Ni := some 26) (Nj := some 28) #[true, true, true, true, true, true, false, false, false, false, false, false, false] #[true, true, true, true, false, true, true, false, false, false, false, false, false] rfl rfl rfl rfl (UY ug.out (by kernel_rfl)) (by decide) (by decide) (fun K hK => ?_) (fun K hK => ?_)
     ·
      skip
      refine y8 Tryz.func58 (by kernel_rfl) rfl #[.pointer (some ⟨g, 0, none⟩), .slice auH WV.length auI] (by rfl) rfl rfl ma ?_
      with_reducible refine (fE.calls w0 ?fU ?iW ?zk ?Dx ?zl A35.out).mono ?_
      (case fU => exact oZ)
      (case iW => exact o7)
      (case zk => repeat (first | exact (Kd.aH pR.out).2.2 | (with_reducible refine Kd.jf ?_ _) | (with_reducible refine Kd.jg ?_ _) | (with_reducible refine Kd.kH ?_)))
      (case Dx => exact (Kd.aH pR.out).2.1)
      (case zl => exact oh (aK.own_ne HI0.out pR.out (by decide)))
      rintro e w57 ⟨rfl, hi, hb, hk⟩
      refine ⟨_, rfl, ?_⟩
      replace dU := kc dU hk rU
      replace fJ := kc fJ hk rV
      replace ig := ki (w0 := w0) (f0 := eY) (f1 := Ea) ig hk
      replace gQ := ki (w0 := w0) (f0 := eY) (f1 := Ea) gQ hk
      replace iD := ki (w0 := w0) (f0 := eY) (f1 := Ea) iD hk
      replace fK := kc fK hk rW
      replace pR := ki (w0 := w0) (f0 := eY) (f1 := Ea) pR hk
      replace HK := kt HK hk
      replace HB := ak (hb)
      replace HI0 := ak (hi)
      try clear hb
      try clear hk
      try clear hi
      refine hK.out _ _ sx (fun hHeld => ?_)
      clear hK K
      refine nrm ?_
      refine o1 6 (fun K hK => ?_)
      refine Kd.qM Kd.string _ 9 ?hg (N := 28) ?hd (xs := ([(⟨#[32, 120]⟩ : ByteArray), (⟨#[120]⟩ : ByteArray)] : List ByteArray)) (inner := [.string (⟨#[32, 120]⟩ : ByteArray), .string (⟨#[120]⟩ : ByteArray)]) (ok := fun _ => True) (wE := fun _ => True) ?hr ?hp (fun _ hk => hk) trivial (Below.refl _ _) (Nat.le_refl _) (by simp) ?_; (case hd => rfl); (case hg => rfl); (case hr => first | (go_simp; done) | (go_simp; rfl)); (case hp => exact (dD.one (show Kd.M Kd.string _ _ _ (⟨#[32, 120]⟩ : ByteArray) [.string (⟨#[32, 120]⟩ : ByteArray)] from rfl) (dD.one (show Kd.M Kd.string _ _ _ (⟨#[120]⟩ : ByteArray) [.string (⟨#[120]⟩ : ByteArray)] from rfl) (dD.none _ _))))
      intro RZ w58 WX hb BX wH
      clear BX wH
      (first | rw [← Qu.out] at WX | (simp only [Int.reduceToNat] at WX; rw [← Qu.out] at WX))
      have wB := ak (Kd.aC (Kd.gK (Kd.gK WX (Kd.kU (ur gQ.out))) (Kd.kU (ur pR.out))) (dI (w := w) (g := g) (row := none) (kh HK.out)))
      replace ig := rb ig hb
      replace gQ := ak (Kd.fP (ur gQ.out) (Kd.fO WX) hb)
      replace iD := ak (Kd.fP (ur iD.out) (Kd.fO WX) hb)
      replace pR := ak (Kd.fP (ur pR.out) (Kd.fO WX) hb)
      replace dU := kb dU hb
      replace fJ := kb fJ hb
      replace fK := kb fK hb
      replace HK := ak (aJ.trans (kh HK.out) (aJ.of_below hb g none) (.inl rfl))
      replace HB := ak (iC o7 hb)
      replace HI0 := ak (aK.below oZ hb)
      clear hb WX
      refine hK.out _ _ sx (fun hHeld => ?_)
      clear hK K
      refine nrm ?_
      exact qF (by simp only [yE, Act.put, qQ, qR, l_c] <;> rfl) (SQ (.slice auH WV.length auI, RZ) _ ⟨hHeld, (ur ig.out), (ur (Kd.bn gQ.out (fun _ hk => ⟨hk.1.2, hk.2⟩))), (ur (Kd.bn iD.out (fun _ hk => ⟨hk.1.1.1.1.1.1, ⟨hk.1.1.1.1.1.2, ⟨hk.1.2, ⟨hk.2, ⟨hk.1.1.1.1.2, ⟨hk.1.1.1.2, hk.1.1.2⟩⟩⟩⟩⟩⟩))), (ur (Kd.bn pR.out (fun _ hk => ⟨hk.1.2, hk.2⟩))), (ur (Kd.bn wB.out (fun _ hk => ⟨hk.1.2, hk.2⟩))), (ub dU.out), (ub fJ.out), (ub fK.out), oZ, (kh HK.out), o7⟩)
     ·
      skip
      refine Kd.qM Kd.string _ 9 ?hg (N := 28) ?hd (xs := ([(⟨#[32, 120]⟩ : ByteArray), (⟨#[120]⟩ : ByteArray)] : List ByteArray)) (inner := [.string (⟨#[32, 120]⟩ : ByteArray), .string (⟨#[120]⟩ : ByteArray)]) (ok := fun _ => True) (wE := fun _ => True) ?hr ?hp (fun _ hk => hk) trivial (Below.refl _ _) (Nat.le_refl _) (by simp) ?_; (case hd => rfl); (case hg => rfl); (case hr => first | (go_simp; done) | (go_simp; rfl)); (case hp => exact (dD.one (show Kd.M Kd.string _ _ _ (⟨#[32, 120]⟩ : ByteArray) [.string (⟨#[32, 120]⟩ : ByteArray)] from rfl) (dD.one (show Kd.M Kd.string _ _ _ (⟨#[120]⟩ : ByteArray) [.string (⟨#[120]⟩ : ByteArray)] from rfl) (dD.none _ _))))
      intro RZ w56 FM hb BX wH
      clear BX wH
      (first | rw [← Qu.out] at FM | (simp only [Int.reduceToNat] at FM; rw [← Qu.out] at FM))
      have wB := ak (Kd.aC (Kd.gK (Kd.gK FM (Kd.kU (ur gQ.out))) (Kd.kU (ur pR.out))) (dI (w := w) (g := g) (row := none) (kh HK.out)))
      replace ig := rb ig hb
      replace gQ := ak (Kd.fP (ur gQ.out) (Kd.fO FM) hb)
      replace iD := ak (Kd.fP (ur iD.out) (Kd.fO FM) hb)
      replace pR := ak (Kd.fP (ur pR.out) (Kd.fO FM) hb)
      replace dU := kb dU hb
      replace fJ := kb fJ hb
      replace fK := kb fK hb
      replace HK := ak (aJ.trans (kh HK.out) (aJ.of_below hb g none) (.inl rfl))
      replace HB := ak (iC o7 hb)
      replace HI0 := ak (aK.below oZ hb)
      clear hb FM
      obtain ⟨afk, afl, afm⟩ := Kd.aV pR.out
      (first | subst afm | (injection afm with qV xB qW; have xC := qV.symm; have xE := qW.symm; clear qV xB qW; subst xC; subst xE))
      refine hK.out _ _ sx (fun hHeld => ?_)
      clear hK K
      refine nrm ?_
      refine o1 4 (fun K hK => ?_)
      refine y8 Tryz.func58 (by kernel_rfl) rfl #[.pointer (some ⟨g, 0, none⟩), .slice afk WV.length afl] (by rfl) rfl rfl ma ?_
      with_reducible refine (fE.calls w0 ?fU ?iW ?zk ?Dx ?zl A35.out).mono ?_
      (case fU => exact oZ)
      (case iW => exact o7)
      (case zk => repeat (first | exact (Kd.aH pR.out).2.2 | (with_reducible refine Kd.jf ?_ _) | (with_reducible refine Kd.jg ?_ _) | (with_reducible refine Kd.kH ?_)))
      (case Dx => exact (Kd.aH pR.out).2.1)
      (case zl => exact oh (aK.own_ne HI0.out pR.out (by decide)))
      rintro e w59 ⟨rfl, hi, hb, hk⟩
      refine ⟨_, rfl, ?_⟩
      replace dU := kc dU hk rU
      replace fJ := kc fJ hk rV
      replace ig := ki (w0 := w0) (f0 := eY) (f1 := Ea) ig hk
      replace gQ := ki (w0 := w0) (f0 := eY) (f1 := Ea) gQ hk
      replace iD := ki (w0 := w0) (f0 := eY) (f1 := Ea) iD hk
      replace fK := kc fK hk rW
      replace pR := ki (w0 := w0) (f0 := eY) (f1 := Ea) pR hk
      replace wB := ki (w0 := w0) (f0 := eY) (f1 := Ea) wB hk
      replace HK := kt HK hk
      replace HB := ak (hb)
      replace HI0 := ak (hi)
      try clear hb
      try clear hk
      try clear hi
      refine hK.out _ _ sx (fun hHeld => ?_)
      clear hK K
      refine nrm ?_
      exact qF (by simp only [yE, Act.put, qQ, qR, l_c] <;> rfl) (SQ (.slice afk WV.length afl, RZ) _ ⟨hHeld, (ur ig.out), (ur (Kd.bn gQ.out (fun _ hk => ⟨hk.1.2, hk.2⟩))), (ur (Kd.bn iD.out (fun _ hk => ⟨hk.1.1.1.1.1.1, ⟨hk.1.1.1.1.1.2, ⟨hk.1.2, ⟨hk.2, ⟨hk.1.1.1.1.2, ⟨hk.1.1.1.2, hk.1.1.2⟩⟩⟩⟩⟩⟩))), (ur (Kd.bn pR.out (fun _ hk => ⟨hk.1.2, hk.2⟩))), (ur (Kd.bn wB.out (fun _ hk => ⟨hk.1.2, hk.2⟩))), (ub dU.out), (ub fJ.out), (ub fK.out), oZ, (kh HK.out), o7⟩)
    ·
     skip
     refine Kd.qM Kd.string _ 9 ?hg (N := 28) ?hd (xs := ([(⟨#[32, 120]⟩ : ByteArray), (⟨#[120]⟩ : ByteArray)] : List ByteArray)) (inner := [.string (⟨#[32, 120]⟩ : ByteArray), .string (⟨#[120]⟩ : ByteArray)]) (ok := fun _ => True) (wE := fun _ => True) ?hr ?hp (fun _ hk => hk) trivial (Below.refl _ _) (Nat.le_refl _) (by simp) ?_; (case hd => rfl); (case hg => rfl); (case hr => first | (go_simp; done) | (go_simp; rfl)); (case hp => exact (dD.one (show Kd.M Kd.string _ _ _ (⟨#[32, 120]⟩ : ByteArray) [.string (⟨#[32, 120]⟩ : ByteArray)] from rfl) (dD.one (show Kd.M Kd.string _ _ _ (⟨#[120]⟩ : ByteArray) [.string (⟨#[120]⟩ : ByteArray)] from rfl) (dD.none _ _))))
     intro RZ w54 IY hb BX wH
     clear BX wH
     (first | rw [← Qu.out] at IY | (simp only [Int.reduceToNat] at IY; rw [← Qu.out] at IY))
     have wB := ak (Kd.aC (Kd.gK IY (Kd.kU (ur gQ.out))) (dI (w := w) (g := g) (row := none) (kh HK.out)))
     replace ig := rb ig hb
     replace gQ := ak (Kd.fP (ur gQ.out) (Kd.fO IY) hb)
     replace iD := ak (Kd.fP (ur iD.out) (Kd.fO IY) hb)
     replace dU := kb dU hb
     replace fJ := kb fJ hb
     replace fK := kb fK hb
     replace HK := ak (aJ.trans (kh HK.out) (aJ.of_below hb g none) (.inl rfl))
     replace HB := ak (iC o7 hb)
     replace HI0 := ak (aK.below oZ hb)
     clear hb IY
     refine hK.out _ _ sx (fun hHeld => ?_)
     clear hK K
     refine nrm ?_
     refine o1 3 (fun K hK => ?_)
     refine Kd.qM Kd.string _ 9 ?hg (N := 25) ?hd (xs := ([(⟨#[97, 32, 98]⟩ : ByteArray), (⟨#[79, 107]⟩ : ByteArray)] : List ByteArray)) (inner := [.string (⟨#[97, 32, 98]⟩ : ByteArray), .string (⟨#[79, 107]⟩ : ByteArray)]) (ok := fun _ => True) (wE := fun _ => True) ?hr ?hp (fun _ hk => hk) trivial (Below.refl _ _) (Nat.le_refl _) (by simp) ?_; (case hd => rfl); (case hg => rfl); (case hr => first | (go_simp; done) | (go_simp; rfl)); (case hp => exact (dD.one (show Kd.M Kd.string _ _ _ (⟨#[97, 32, 98]⟩ : ByteArray) [.string (⟨#[97, 32, 98]⟩ : ByteArray)] from rfl) (dD.one (show Kd.M Kd.string _ _ _ (⟨#[79, 107]⟩ : ByteArray) [.string (⟨#[79, 107]⟩ : ByteArray)] from rfl) (dD.none _ _))))
     intro Yz w56 FM hb BX wH
     clear BX wH
     (first | rw [← WW.out] at FM | (simp only [Int.reduceToNat] at FM; rw [← WW.out] at FM))
     have pR := ak (Kd.aC (Kd.gK (Kd.gK FM (Kd.kU (ur gQ.out))) (Kd.kU (ur wB.out))) (dI (w := w) (g := g) (row := none) (kh HK.out)))
     replace ig := rb ig hb
     replace gQ := ak (Kd.fP (ur gQ.out) (Kd.fO FM) hb)
     replace iD := ak (Kd.fP (ur iD.out) (Kd.fO FM) hb)
     replace wB := ak (Kd.fP (ur wB.out) (Kd.fO FM) hb)
     replace dU := kb dU hb
     replace fJ := kb fJ hb
     replace fK := kb fK hb
     replace HK := ak (aJ.trans (kh HK.out) (aJ.of_below hb g none) (.inl rfl))
     replace HB := ak (iC o7 hb)
     replace HI0 := ak (aK.below oZ hb)
     clear hb FM
     obtain ⟨afk, afl, afm⟩ := Kd.aV pR.out
     (first | subst afm | (injection afm with qV xB qW; have xC := qV.symm; have xE := qW.symm; clear qV xB qW; subst xC; subst xE))
     refine hK.out _ _ sx (fun hHeld => ?_)
     clear hK K
     refine nrm ?_
     refine o1 4 (fun K hK => ?_)
     refine y8 Tryz.func58 (by kernel_rfl) rfl #[.pointer (some ⟨g, 0, none⟩), .slice afk WV.length afl] (by rfl) rfl rfl ma ?_
     with_reducible refine (fE.calls w0 ?fU ?iW ?zk ?Dx ?zl A35.out).mono ?_
     (case fU => exact oZ)
     (case iW => exact o7)
     (case zk => repeat (first | exact (Kd.aH pR.out).2.2 | (with_reducible refine Kd.jf ?_ _) | (with_reducible refine Kd.jg ?_ _) | (with_reducible refine Kd.kH ?_)))
     (case Dx => exact (Kd.aH pR.out).2.1)
     (case zl => exact oh (aK.own_ne HI0.out pR.out (by decide)))
     rintro e w59 ⟨rfl, hi, hb, hk⟩
     refine ⟨_, rfl, ?_⟩
     replace dU := kc dU hk rU
     replace fJ := kc fJ hk rV
     replace ig := ki (w0 := w0) (f0 := eY) (f1 := Ea) ig hk
     replace gQ := ki (w0 := w0) (f0 := eY) (f1 := Ea) gQ hk
     replace iD := ki (w0 := w0) (f0 := eY) (f1 := Ea) iD hk
     replace fK := kc fK hk rW
     replace wB := ki (w0 := w0) (f0 := eY) (f1 := Ea) wB hk
     replace pR := ki (w0 := w0) (f0 := eY) (f1 := Ea) pR hk
     replace HK := kt HK hk
     replace HB := ak (hb)
     replace HI0 := ak (hi)
     try clear hb
     try clear hk
     try clear hi
     refine hK.out _ _ sx (fun hHeld => ?_)
     clear hK K
     refine nrm ?_
     exact qF (by simp only [yE, Act.put, qQ, qR, l_c] <;> rfl) (SQ (.slice afk WV.length afl, RZ) _ ⟨hHeld, (ur ig.out), (ur (Kd.bn gQ.out (fun _ hk => ⟨hk.2, hk.1.2⟩))), (ur (Kd.bn iD.out (fun _ hk => ⟨hk.1.1.1.1.1.1, ⟨hk.1.1.1.1.1.2, ⟨hk.2, ⟨hk.1.2, ⟨hk.1.1.1.1.2, ⟨hk.1.1.1.2, hk.1.1.2⟩⟩⟩⟩⟩⟩))), (ur (Kd.bn pR.out (fun _ hk => ⟨hk.1.2, hk.2⟩))), (ur (Kd.bn wB.out (fun _ hk => ⟨hk.1.2, hk.2⟩))), (ub dU.out), (ub fJ.out), (ub fK.out), oZ, (kh HK.out), o7⟩)
   rintro ⟨Yz, RZ⟩ SC ⟨hS_, h0_, h1_, h2_, h3_, h4_, h5_, h6_, h7_, h8_, h9_, UZ⟩
   have y5 : ah (Kd.R qj 69 SC w.heap.size (fun _ => True) (.slice KA tC.length KC) tC) := ⟨h0_⟩
   have y7 : ah (Kd.R Kd.string 9 SC w.heap.size (fun k_ => some k_ ≠ (Yz : Value).ownBlock ∧ some k_ ≠ (RZ : Value).ownBlock) (.slice DY rQ.length DZ) rQ) := ⟨h1_⟩
   have zT : ah (Kd.R k28 28 SC w.heap.size (fun k_ => some k_ ≠ (.slice KA tC.length KC : Value).ownBlock ∧ some k_ ≠ (.slice DY rQ.length DZ : Value).ownBlock ∧ some k_ ≠ (Yz : Value).ownBlock ∧ some k_ ≠ (RZ : Value).ownBlock ∧ k_ ≠ xg ∧ k_ ≠ uI ∧ k_ ≠ kG) (.slice Qv uO.length Qw) uO) := ⟨h2_⟩
   have Dq : ah (Kd.R Kd.string 9 SC w.heap.size (fun k_ => some k_ ≠ (.slice DY rQ.length DZ : Value).ownBlock ∧ some k_ ≠ (RZ : Value).ownBlock) Yz WV) := ⟨h3_⟩
   have Ib : ah (Kd.R Kd.string 9 SC w.heap.size (fun k_ => some k_ ≠ (.slice DY rQ.length DZ : Value).ownBlock ∧ some k_ ≠ (Yz : Value).ownBlock) RZ aio) := ⟨h4_⟩
   have Kr : ah (SC.heap[xg]? = some (.cells #[.slice zK vV.length zH, .slice zq u_.length zI, .slice zL vW.length zJ] 28 (0, 0))) := ⟨h5_⟩
   have N7 : ah (SC.heap[uI]? = some (.cells #[.slice none 0 0, .slice none 0 0, .slice none 0 0] 28 (0, 0))) := ⟨h6_⟩
   have SS : ah (SC.heap[kG]? = some (.cells #[.slice KA tC.length KC, .slice DY rQ.length DZ, .slice Qv uO.length Qw] 28 (0, 0))) := ⟨h7_⟩
   have WR : ah (aK w0 SC g eY Yy) := ⟨h8_⟩
   have n9_ : ah (aJ w SC g none) := ⟨h9_⟩
   have Qr : ah (Below w0.heap.size w0 SC) := ⟨UZ⟩
   clear ig gQ iD dU fJ fK HI0 HK HB h0_ h1_ h2_ h3_ h4_ h5_ h6_ h7_ h8_ h9_ UZ
   have ig := y5
   have gQ := y7
   have iD := zT
   have pR := Dq
   have wB := Ib
   have dU := Kr
   have fJ := N7
   have fK := SS
   have HI0 := WR
   have HK := n9_
   have HB := Qr
   clear y5 y7 zT Dq Ib Kr N7 SS WR n9_ Qr
   have hHeld : SC.cell? ⟨kG, 0, none⟩ = some (.slice KA tC.length KC) ∧ SC.cell? ⟨kG, 1, none⟩ = some (.slice DY rQ.length DZ) ∧ SC.cell? ⟨kG, 2, none⟩ = some (.slice Qv uO.length Qw) := hS_
   obtain ⟨auK, auL, auM⟩ := Kd.aV wB.out
   (first | subst auM | (injection auM with qV xB qW; have xC := qV.symm; have xE := qW.symm; clear qV xB qW; subst xC; subst xE))
   refine qF (a' := ?_) ?_ ?_
   rotate_left
   ·
    simp only [yE, Act.put, qQ, qR, l_c]
    rfl
   refine o1 7 (fun K hK => ?_)
   refine y8 Tryz.func58 (by kernel_rfl) rfl #[.pointer (some ⟨g, 0, none⟩), .slice auK aio.length auL] (by rfl) rfl rfl ma ?_
   with_reducible refine (fE.calls w0 ?fU ?iW ?zk ?Dx ?zl A36.out).mono ?_
   (case fU => exact oZ)
   (case iW => exact o7)
   (case zk => repeat (first | exact (Kd.aH wB.out).2.2 | (with_reducible refine Kd.jf ?_ _) | (with_reducible refine Kd.jg ?_ _) | (with_reducible refine Kd.kH ?_)))
   (case Dx => exact (Kd.aH wB.out).2.1)
   (case zl => exact oh (aK.own_ne HI0.out wB.out (by decide)))
   rintro e w62 ⟨rfl, hi, hb, hk⟩
   refine ⟨_, rfl, ?_⟩
   replace dU := kc dU hk rU
   replace fJ := kc fJ hk rV
   replace ig := ki (w0 := w0) (f0 := eY) (f1 := Yy) ig hk
   replace gQ := ki (w0 := w0) (f0 := eY) (f1 := Yy) gQ hk
   replace iD := ki (w0 := w0) (f0 := eY) (f1 := Yy) iD hk
   replace fK := kc fK hk rW
   replace pR := ki (w0 := w0) (f0 := eY) (f1 := Yy) pR hk
   replace wB := ki (w0 := w0) (f0 := eY) (f1 := Yy) wB hk
   replace HK := kt HK hk
   replace HB := ak (hb)
   replace HI0 := ak (hi)
   try clear hb
   try clear hk
   try clear hi
   refine hK.out _ _ sx (fun hHeld => ?_)
   clear hK K
   refine nrm ?_
   refine pl 8 ?_
   refine o1 9 (fun K hK => ?_)
   refine Dh (w1 := ?_) (v := ?_) (by rfl) rfl ?_ ?_
   rotate_left 2
   ·
    go_simp
    constructor
    ·
     rfl
    ·
     rfl
   refine hK.out _ _ ⟨(aA (aX fK.out _) 0).trans rfl, (aA (aX fK.out _) 1).trans rfl, (aA (aX fK.out _) 2).trans rfl⟩ (fun hHeld => ?_)
   clear hK K
   refine nrm ?_
   refine o1 10 (fun K hK => ?_)
   refine Kd.nS qj w.heap.size (by rfl) (.tmp 23) (.tmp 31) 25 69 (.agg #[(.string ⟨#[]⟩), (.string ⟨#[]⟩)]) 32 rfl Tryz.underlying25 Dc rfl (by decide) (by omega) (.slice KA tC.length KC) tC (⟨afi, aip⟩ : gU) [.string afi, .string aip] (fun _ => True) (fun _ => False) rfl rfl ?aP (fun _ hk => hk.elim) ?aF ?aO (Below.refl _ _) ?aS ?aL ?_
   (case aP => exact wM _ _ _ (⟨afi, aip⟩ : gU))
   (case aF => exact (fun _ _ => trivial))
   (case aO => exact (ur ig.out))
   (case aS => exact (dI (w := w) (g := g) (row := none) (kh HK.out)))
   (case aL => have := afj.out; omega)
   intro aIE w63 ho hb hg hat
   rw [← alz.out] at ho
   have y5 := ak (aK.grown oZ hg (aK.own_ne HI0.out ig.out (by decide)))
   have y7 := ak (dw (g := xg) (o := .cells #[.slice zK vV.length zH, .slice zq u_.length zI, .slice zL vW.length zJ] 28 (0, 0)) (ub dU.out) hg (Kd.oU ig.out dU.out (by decide)))
   have zT := ak (dw (g := uI) (o := .cells #[.slice none 0 0, .slice none 0 0, .slice none 0 0] 28 (0, 0)) (ub fJ.out) hg (Kd.oU ig.out fJ.out (by decide)))
   have Dq := ak (Kd.qm (ur gQ.out) (Kd.kQ (ur ig.out)) (by decide) hg)
   have Ib := ak (Kd.Aa (ok := (fun k_ => some k_ ≠ (.slice DY rQ.length DZ : Value).ownBlock ∧ some k_ ≠ (Yz : Value).ownBlock ∧ some k_ ≠ (.slice auK aio.length auL : Value).ownBlock ∧ k_ ≠ xg ∧ k_ ≠ uI ∧ k_ ≠ kG)) (ur (Kd.bn iD.out (fun _ hk => ⟨⟨hk.2.1, ⟨hk.2.2.1, ⟨hk.2.2.2.1, ⟨hk.2.2.2.2.1, ⟨hk.2.2.2.2.2.1, hk.2.2.2.2.2.2⟩⟩⟩⟩⟩, hk.1⟩))) hg hat)
   have Kr := ak (dw (g := kG) (o := .cells #[.slice KA tC.length KC, .slice DY rQ.length DZ, .slice Qv uO.length Qw] 28 (0, 0)) (ub fK.out) hg (Kd.oU ig.out fK.out (by decide)))
   have N7 := ak (Kd.qm (ur pR.out) (Kd.kQ (ur ig.out)) (by decide) hg)
   have SS := ak (Kd.qm (ur wB.out) (Kd.kQ (ur ig.out)) (by decide) hg)
   have WR := ak (vU o7 HL.out hb)
   have n9_ := ak (aJ.trans (kh HK.out) (aJ.zo hg g) (Kd.GX ig.out))
   have Qr := ak (ho)
   clear HI0 dU fJ gQ iD fK pR wB HB HK ig
   have HI0 := y5
   have dU := y7
   have fJ := zT
   have gQ := Dq
   have iD := Ib
   have fK := Kr
   have pR := N7
   have wB := SS
   have HB := WR
   have HK := n9_
   have auN := Qr
   clear y5 y7 zT Dq Ib Kr N7 SS WR n9_ Qr ho hb hg hat
   obtain ⟨aAx, aAy, auO⟩ := Kd.aV auN.out
   (first | subst auO | (injection auO with qV xB qW; have xC := qV.symm; have xE := qW.symm; clear qV xB qW; subst xC; subst xE))
   refine hK.out _ _ sx (fun hHeld => ?_)
   clear hK K
   refine nrm ?_
   refine pl 11 ?_
   refine Ia (i := 12) (N := none) #[true, true, true, true, true, true, true, true, true, true, true, true, true] rfl rfl (oK ug.out (by kernel_rfl)) (by decide) (fun K hK => ?_)
   have aIF : w63.cell? ⟨kG, 0, none⟩ = some (.slice KA tC.length KC) := (aA fK.out 0).trans rfl
   have aDE := gX fK.out 0
   have axR := uw.out
   have axS := uz.out
   have axT := uy.out
   have axU := uD.out
   refine Ic (w1 := ?_) (by rfl) rfl ?_ ?_
   rotate_left
   ·
    go_simp
    rfl
   refine hK.out _ _ ?_
   clear hK K
   refine Ie (yQ ug.out (by kernel_rfl)) ?_
   have z66 := jW fK.out
   have aDF := rV.out
   have aDG := Ec.out
   have z68 := jW fJ.out
   try go_wp2
   refine bodyPost_ret (results_cell_row rfl _ _ uI 28 #[.slice aAx aAu.length aAy, .slice DY rQ.length DZ, .slice Qv uO.length Qw] (0, 0) _ rfl bq Tryz.underlying28 rfl (by kernel_rfl)) rfl ?_
   exact ⟨_, _, _, er, rr, rr, rr, oZ, o7, kh HK.out⟩
  ·
   replace H := sq H
   rcases H with ⟨auP, auQ, H⟩ | ⟨c69, auP, auQ, H⟩
   ·
    replace H := bd H
    obtain ⟨⟨aiq, air, ais, aIG⟩, A70, H⟩ := H
    (try dsimp only at H)
    replace H := nl H; obtain ⟨auR, H⟩ := H
    obtain ⟨aAz, alA⟩ := nm (uO ++ [(⟨aiq, air, ais⟩ : mY)])
    rw [← alA.out] at H
    obtain ⟨rfl, rfl, rfl, rfl⟩ := s4 H
    go_enter Tryz.func68, Tryz.ntmps68
    try go_wp2_with (first | (refine bS HI0 HK HB HW0 3 #[.slice zK vV.length zH, .slice zq u_.length zI, .slice zL vW.length zJ] 28 ?_; clear HI0 HK HB; intro xg w72 dU afc afd Eb rU hg hb HI0 HK HB; clear hb hg) | (refine bS HI0 HK HB HW0 4 #[.slice none 0 0, .slice none 0 0, .slice none 0 0] 28 ?_; clear HI0 HK HB; intro uI w73 fJ afe aff Ec rV hg hb HI0 HK HB; have yJ := BL dU hg; have yK := BM dU hg; replace dU := kb dU hb; clear hb hg; have aDH := yJ.out; have aDI := yK.out; have aDJ := rU.out; have aDK := Eb.out; have z76 := jW dU.out) | (refine gL 110 7 Tryz.func110 #[.agg #[.slice zK vV.length zH, .slice zq u_.length zI, .slice zL vW.length zJ]] ?_; (with_reducible refine (dK.calls k _ _ vV _ _ u_ _ _ vW tC rQ uO _ (Kd.vk abm.out (kh HK.out)) abn.out (by with_unfolding_all exact Kd.U8 (⟨#[]⟩ : ByteArray) abo.out (kh HK.out) abl) abp.out (Kd.vk abq.out (kh HK.out)) abr.out A3.out).mono ?_); rintro e w77 ⟨aol, aom, aon, rfl, ho0, ho1, ho2, hb⟩; refine ⟨_, rfl, ?_⟩; have ig := ak (Kd.aC ho0 (dI (w := w) (g := g) (row := none) (kh HK.out))); have gQ := ak (Kd.aC ho1 (dI (w := w) (g := g) (row := none) (kh HK.out))); have iD := ak (Kd.aC (Kd.nN (Kd.nN ho2 (g := xg) (o := .cells #[.slice zK vV.length zH, .slice zq u_.length zI, .slice zL vW.length zJ] 28 (0, 0)) (ub dU.out)) (g := uI) (o := .cells #[.slice none 0 0, .slice none 0 0, .slice none 0 0] 28 (0, 0)) (ub fJ.out)) (dI (w := w) (g := g) (row := none) (kh HK.out))); replace dU := kb dU hb; replace fJ := kb fJ hb; replace HK := ak (aJ.trans (kh HK.out) (aJ.of_below hb g none) (.inl rfl)); replace HB := ak (iC o7 hb); replace HI0 := ak (aK.below oZ hb); clear hb; (try clear ho0); (try clear ho1); (try clear ho2)) | (refine bS HI0 HK HB HW0 5 #[.slice none 0 0, .slice none 0 0, .slice none 0 0] 28 ?_; clear HI0 HK HB; intro kG w78 fK afg afh Ed rW hg hb HI0 HK HB; have uw := BL dU hg; have uy := BM dU hg; have uz := BL fJ hg; have uD := BM fJ hg; replace ig := rb ig hb; replace gQ := rb gQ hb; replace iD := ak (Kd.sO (Kd.yZ (ur iD.out) kG (Nat.le_of_eq hg.symm)) hb); replace dU := kb dU hb; replace fJ := kb fJ hb; clear hb hg; obtain ⟨U9, U_, aAA⟩ := Kd.aV ig.out; subst aAA; have aDL := uy.out; have aDM := uw.out; have atP := uD.out; have atQ := uz.out; have aDN := rW.out; have aDO := Ed.out; have z83 := jW fK.out; obtain ⟨Va, Vb, aAB⟩ := Kd.aV gQ.out; subst aAB; obtain ⟨Vd, Ve, aAC⟩ := Kd.aV iD.out; subst aAC) | (refine gL 57 9 Tryz.func57 #[.pointer (some ⟨g, 0, none⟩), .int .i64 20] ?_; (with_reducible refine (cZ.calls w0 ?fU ?iW A4.out).mono ?_); (case fU => exact oZ); (case iW => exact o7); rintro e w86 ⟨rfl, hi, hb, hk⟩; refine ⟨_, rfl, ?_⟩; replace dU := kd_ dU #[.slice zK vV.length zH, .slice zq u_.length zI, .slice zL vW.length zJ] hk rU; replace fJ := kd_ fJ #[.slice none 0 0, .slice none 0 0, .slice none 0 0] hk rV; replace ig := ki (w0 := w0) (f0 := eY) (f1 := kE) ig hk; replace gQ := ki (w0 := w0) (f0 := eY) (f1 := kE) gQ hk; replace iD := ak (Kd.bn (Kd.IL (aK.apart (show aK w0 _ g eY kE from oZ) (ur (Kd.bn (Kd.lS (p := ⟨kG, 2, none⟩) (Kd.lS (p := ⟨kG, 1, none⟩) (Kd.lS (p := ⟨kG, 0, none⟩) (Kd.bn iD.out (fun k_ hk => (⟨hk, hk.2⟩ : _ ∧ k_ ≠ kG))) (fun _ hk => hk.2) (.slice U9 tC.length U_)) (fun _ hk => hk.2) (.slice Va rQ.length Vb)) (fun _ hk => hk.2) (.slice Vd uO.length Ve)) (fun _ h_ => h_.1))) (by decide)) hk (fun _ h => h.2)) (fun _ h => h.1)); replace fK := kd_ fK #[.slice U9 tC.length U_, .slice Va rQ.length Vb, .slice Vd uO.length Ve] hk rW; replace HK := kt HK hk; replace HB := ak (hb); replace HI0 := ak (hi); clear hb; (try clear hk); (try clear hi)))
    replace ig := ak (Kd.l9 ig.out)
    replace gQ := ak (Kd.l9 gQ.out)
    replace iD := ak (Kd.l9 iD.out)
    replace dU := ak (bC dU.out)
    replace fJ := ak (bC fJ.out)
    replace fK := ak (bC fK.out)
    replace HI0 := ak (aK.drew HI0.out)
    replace HK := ak (yF HK.out)
    replace HB := ak (iF HB.out)
    refine Df (n := 8) (S := fun w' => w'.cell? ⟨kG, 0, none⟩ = some (.slice U9 tC.length U_) ∧ w'.cell? ⟨kG, 1, none⟩ = some (.slice Va rQ.length Vb) ∧ w'.cell? ⟨kG, 2, none⟩ = some (.slice Vd uO.length Ve)) (ds := [7]) #[false, false, false, false, false, false, false, false] (by kernel_rfl) rfl rfl ⟨(aA fK.out 0).trans rfl, (aA fK.out 1).trans rfl, (aA fK.out 2).trans rfl⟩ (fun hHeld => ?_); refine uo dO.acp dO.SK (fun ug Yd => ?_)
    generalize w86.drew = w87 at ig gQ iD dU fJ fK HI0 HK HB hHeld ⊢
    refine pl 0 ?_
    refine pl 2 ?_
    refine tk 1 ?_
    refine o1 3 (fun K hK => ?_)
    refine y8 Tryz.func98 (by kernel_rfl) rfl #[.pointer (some ⟨g, 0, none⟩)] (by rfl) rfl rfl ma ?_
    with_reducible refine (iw.calls w0 ?fU ?iW A70.out).mono ?_
    (case fU => exact oZ)
    (case iW => exact o7)
    rintro e w88 ⟨aIH, aII, aIJ, rfl, ho0, ho1, ho2, hi, hb, hk⟩
    refine ⟨_, rfl, ?_⟩
    have afn := ak (Kd.aC (Kd.gK ho0 (Kd.kU (ur ig.out))) (dI (w := w) (g := g) (row := none) (kh HK.out)))
    have afo := ak (Kd.aC (Kd.gK ho1 (Kd.kU (ur gQ.out))) (dI (w := w) (g := g) (row := none) (kh HK.out)))
    have afp := ak (Kd.aC (Kd.nN (Kd.nN (Kd.nN (Kd.gK (Kd.gK (Kd.gK ho2 (Kd.kU (ur ig.out))) (Kd.kU (ur gQ.out))) (Kd.kU (ur iD.out))) (g := xg) (o := .cells #[.slice zK vV.length zH, .slice zq u_.length zI, .slice zL vW.length zJ] 28 (0, 0)) (ub dU.out)) (g := uI) (o := .cells #[.slice none 0 0, .slice none 0 0, .slice none 0 0] 28 (0, 0)) (ub fJ.out)) (g := kG) (o := .cells #[.slice U9 tC.length U_, .slice Va rQ.length Vb, .slice Vd uO.length Ve] 28 (0, 0)) (ub fK.out)) (dI (w := w) (g := g) (row := none) (kh HK.out)))
    replace dU := kc dU hk rU
    replace fJ := kc fJ hk rV
    replace ig := kj ig hk ho0
    replace gQ := kj gQ hk ho1
    replace iD := ak (Kd.bn (Kd.tV (Kd.tV (Kd.tV (Kd.UU (aK.apart (show aK w0 _ g eY Ea from oZ) (ur iD.out) (by decide)) hk) (Kd.fO ho0)) (Kd.fO ho1)) (Kd.fO ho2)) (fun _ h_ => h_.1))
    replace fK := kc fK hk rW
    replace HK := kt HK hk
    replace HB := ak (hb)
    replace HI0 := ak (hi)
    try clear hb
    try clear hk
    try clear hi
    try clear ho0
    try clear ho1
    try clear ho2
    obtain ⟨aAD, aAE, auS⟩ := Kd.aV afn.out
    (first | subst auS | (injection auS with qV xB qW; have xC := qV.symm; have xE := qW.symm; clear qV xB qW; subst xC; subst xE))
    obtain ⟨aAF, aAG, auT⟩ := Kd.aV afo.out
    (first | subst auT | (injection auT with qV xB qW; have xC := qV.symm; have xE := qW.symm; clear qV xB qW; subst xC; subst xE))
    obtain ⟨aAH, aAI, auU⟩ := Kd.aV afp.out
    (first | subst auU | (injection auU with qV xB qW; have xC := qV.symm; have xE := qW.symm; clear qV xB qW; subst xC; subst xE))
    refine hK.out _ _ sx (fun hHeld => ?_)
    clear hK K
    refine nrm ?_
    refine o1 4 (fun K hK => ?_)
    refine Dh (w1 := ?_) (v := ?_) (by rfl) rfl ?_ ?_
    rotate_left 2
    ·
     go_simp
     constructor
     ·
      rfl
     ·
      rfl
    refine hK.out _ _ ⟨(aA (aX fK.out _) 0).trans rfl, (aA (aX fK.out _) 1).trans rfl, (aA (aX fK.out _) 2).trans rfl⟩ (fun hHeld => ?_)
    clear hK K
    refine nrm ?_
    refine o1 5 (fun K hK => ?_)
    refine Kd.nS k28 w.heap.size (by rfl) (.tmp 37) (.tmp 40) 26 28 (.agg #[(.slice none 0 0), (.slice none 0 0), (.slice none 0 0)]) 72 rfl Tryz.underlying26 T_ rfl (by decide) (by omega) (.slice Vd uO.length Ve) uO (⟨aiq, air, ais⟩ : mY) [.slice aAD aiq.length aAE, .slice aAF air.length aAG, .slice aAH ais.length aAI] (fun k_ => some k_ ≠ (.slice U9 tC.length U_ : Value).ownBlock ∧ some k_ ≠ (.slice Va rQ.length Vb : Value).ownBlock ∧ k_ ≠ xg ∧ k_ ≠ uI ∧ k_ ≠ kG) (fun k_ => ((fun k_ => some k_ ≠ (.slice U9 tC.length U_ : Value).ownBlock ∧ some k_ ≠ (.slice Va rQ.length Vb : Value).ownBlock ∧ k_ ≠ xg ∧ k_ ≠ uI ∧ k_ ≠ kG)) k_ ∧ some k_ ≠ (.slice Vd uO.length Ve : Value).ownBlock) rfl rfl ?aP (fun _ hk => hk) ?aF ?aO (Below.refl _ _) ?aS ?aL ?_
    (case aP => exact OY _ _ _ (⟨aiq, air, ais⟩ : mY) (Kd.bn (Kd.mG (Kd.mG (Kd.mG (Kd.o8 (Kd.o8 (afn.out) (Kd.kQ gQ.out) (by decide)) (Kd.kQ iD.out) (by decide)) dU.out (by decide)) fJ.out (by decide)) fK.out (by decide)) (fun k_ hk => ⟨⟨hk.1.1.1.1.1.2, ⟨hk.1.1.1.1.2, ⟨hk.1.1.2, ⟨hk.1.2, hk.2⟩⟩⟩⟩, hk.1.1.1.2⟩)) (Kd.bn (Kd.mG (Kd.mG (Kd.mG (Kd.o8 (Kd.o8 (afo.out) (Kd.kQ ig.out) (by decide)) (Kd.kQ iD.out) (by decide)) dU.out (by decide)) fJ.out (by decide)) fK.out (by decide)) (fun k_ hk => ⟨⟨hk.1.1.1.1.2, ⟨hk.1.1.1.1.1.2, ⟨hk.1.1.2, ⟨hk.1.2, hk.2⟩⟩⟩⟩, hk.1.1.1.2⟩)) (Kd.bn (afp.out) (fun k_ hk => ⟨⟨hk.1.1.1.1.1.2, ⟨hk.1.1.1.1.2, ⟨hk.1.1.2, ⟨hk.1.2, hk.2⟩⟩⟩⟩, hk.1.1.1.2⟩)))
    (case aF => exact (fun k_ hk => ⟨Kd.fresh' (Kd.kU (ur ig.out)) k_ hk, Kd.fresh' (Kd.kU (ur gQ.out)) k_ hk, Kd.yC (g := xg) (o := .cells #[.slice zK vV.length zH, .slice zq u_.length zI, .slice zL vW.length zJ] 28 (0, 0)) (ub dU.out) k_ hk, Kd.yC (g := uI) (o := .cells #[.slice none 0 0, .slice none 0 0, .slice none 0 0] 28 (0, 0)) (ub fJ.out) k_ hk, Kd.yC (g := kG) (o := .cells #[.slice U9 tC.length U_, .slice Va rQ.length Vb, .slice Vd uO.length Ve] 28 (0, 0)) (ub fK.out) k_ hk⟩))
    (case aO => exact (ur (Kd.bn iD.out (fun _ hk => ⟨hk.1.1.1.1.1.1.1, ⟨hk.1.1.1.1.1.1.2, ⟨hk.1.1.1.1.1.2, ⟨hk.1.1.1.1.2, hk.1.1.1.2⟩⟩⟩⟩))))
    (case aS => exact (dI (w := w) (g := g) (row := none) (kh HK.out)))
    (case aL => have := auR.out; omega)
    intro aIK w89 ho hb hg hat
    rw [← alA.out] at ho
    have y5 := ak (aK.grown oZ hg (aK.own_ne HI0.out iD.out (by decide)))
    have y7 := ak (dw (g := xg) (o := .cells #[.slice zK vV.length zH, .slice zq u_.length zI, .slice zL vW.length zJ] 28 (0, 0)) (ub dU.out) hg (Kd.zD iD.out (fun _ hk => hk.1.1.1.1.1.2)))
    have zT := ak (dw (g := uI) (o := .cells #[.slice none 0 0, .slice none 0 0, .slice none 0 0] 28 (0, 0)) (ub fJ.out) hg (Kd.zD iD.out (fun _ hk => hk.1.1.1.1.2)))
    have Dq := ak (Kd.qm (ur ig.out) (Kd.kQ (ur iD.out)) (by decide) hg)
    have Ib := ak (Kd.qm (ur gQ.out) (Kd.kQ (ur iD.out)) (by decide) hg)
    have Kr := ak (dw (g := kG) (o := .cells #[.slice U9 tC.length U_, .slice Va rQ.length Vb, .slice Vd uO.length Ve] 28 (0, 0)) (ub fK.out) hg (Kd.zD iD.out (fun _ hk => hk.1.1.1.2)))
    have N7 := ak (vU o7 HL.out hb)
    have SS := ak (aJ.trans (kh HK.out) (aJ.zo hg g) (Kd.GX iD.out))
    have WR := ak (ho)
    clear HI0 dU fJ ig gQ fK HB HK iD afn afo afp
    have HI0 := y5
    have dU := y7
    have fJ := zT
    have ig := Dq
    have gQ := Ib
    have fK := Kr
    have HB := N7
    have HK := SS
    have auV := WR
    clear y5 y7 zT Dq Ib Kr N7 SS WR ho hb hg hat
    obtain ⟨aAJ, aAK, auW⟩ := Kd.aV auV.out
    (first | subst auW | (injection auW with qV xB qW; have xC := qV.symm; have xE := qW.symm; clear qV xB qW; subst xC; subst xE))
    refine hK.out _ _ sx (fun hHeld => ?_)
    clear hK K
    refine nrm ?_
    refine pl 6 ?_
    refine Ia (i := 7) (N := none) #[true, true, true, true, true, true, true, true] rfl rfl (oK ug.out (by kernel_rfl)) (by decide) (fun K hK => ?_)
    have aIL : w89.cell? ⟨kG, 2, none⟩ = some (.slice Vd uO.length Ve) := (aA fK.out 2).trans rfl
    have aDP := gX fK.out 2
    have axV := uw.out
    have axW := uz.out
    have axX := uy.out
    have axY := uD.out
    refine Ic (w1 := ?_) (by rfl) rfl ?_ ?_
    rotate_left
    ·
     go_simp
     rfl
    refine hK.out _ _ ?_
    clear hK K
    refine Ie (yQ ug.out (by kernel_rfl)) ?_
    have z95 := jW fK.out
    have aDQ := rV.out
    have aDR := Ec.out
    have z97 := jW fJ.out
    try go_wp2
    refine bodyPost_ret (results_cell_row rfl _ _ uI 28 #[.slice U9 tC.length U_, .slice Va rQ.length Vb, .slice aAJ aAz.length aAK] (0, 0) _ rfl bq Tryz.underlying28 rfl (by kernel_rfl)) rfl ?_
    exact ⟨_, _, _, er, rr, rr, rr, oZ, o7, kh HK.out⟩
   ·
    obtain ⟨rfl, rfl, rfl, rfl⟩ := s4 H
    go_enter Tryz.func68, Tryz.ntmps68
    go_wp2_with (first | (refine bS HI0 HK HB HW0 3 #[.slice zK vV.length zH, .slice zq u_.length zI, .slice zL vW.length zJ] 28 ?_; clear HI0 HK HB; intro xg w98 dU afc afd Eb rU hg hb HI0 HK HB; clear hb hg) | (refine bS HI0 HK HB HW0 4 #[.slice none 0 0, .slice none 0 0, .slice none 0 0] 28 ?_; clear HI0 HK HB; intro uI w99 fJ afe aff Ec rV hg hb HI0 HK HB; have yJ := BL dU hg; have yK := BM dU hg; replace dU := kb dU hb; clear hb hg; have aAL := yJ.out; have aAM := yK.out; have aAN := rU.out; have aAO := Eb.out; have aIM := jW dU.out) | (refine gL 110 7 Tryz.func110 #[.agg #[.slice zK vV.length zH, .slice zq u_.length zI, .slice zL vW.length zJ]] ?_; (with_reducible refine (dK.calls k _ _ vV _ _ u_ _ _ vW tC rQ uO _ (Kd.vk abm.out (kh HK.out)) abn.out (by with_unfolding_all exact Kd.U8 (⟨#[]⟩ : ByteArray) abo.out (kh HK.out) abl) abp.out (Kd.vk abq.out (kh HK.out)) abr.out A3.out).mono ?_); rintro e aIN ⟨aol, aom, aon, rfl, ho0, ho1, ho2, hb⟩; refine ⟨_, rfl, ?_⟩; have ig := ak (Kd.aC ho0 (dI (w := w) (g := g) (row := none) (kh HK.out))); have gQ := ak (Kd.aC ho1 (dI (w := w) (g := g) (row := none) (kh HK.out))); have iD := ak (Kd.aC (Kd.nN (Kd.nN ho2 (g := xg) (o := .cells #[.slice zK vV.length zH, .slice zq u_.length zI, .slice zL vW.length zJ] 28 (0, 0)) (ub dU.out)) (g := uI) (o := .cells #[.slice none 0 0, .slice none 0 0, .slice none 0 0] 28 (0, 0)) (ub fJ.out)) (dI (w := w) (g := g) (row := none) (kh HK.out))); replace dU := kb dU hb; replace fJ := kb fJ hb; replace HK := ak (aJ.trans (kh HK.out) (aJ.of_below hb g none) (.inl rfl)); replace HB := ak (iC o7 hb); replace HI0 := ak (aK.below oZ hb); clear hb; (try clear ho0); (try clear ho1); (try clear ho2)) | (refine bS HI0 HK HB HW0 5 #[.slice none 0 0, .slice none 0 0, .slice none 0 0] 28 ?_; clear HI0 HK HB; intro kG aIO fK afg afh Ed rW hg hb HI0 HK HB; have uw := BL dU hg; have uy := BM dU hg; have uz := BL fJ hg; have uD := BM fJ hg; replace ig := rb ig hb; replace gQ := rb gQ hb; replace iD := ak (Kd.sO (Kd.yZ (ur iD.out) kG (Nat.le_of_eq hg.symm)) hb); replace dU := kb dU hb; replace fJ := kb fJ hb; clear hb hg; obtain ⟨afq, afr, auX⟩ := Kd.aV ig.out; subst auX; have aAP := uy.out; have aAQ := uw.out; have aAR := uD.out; have aAS := uz.out; have aAT := rW.out; have aAU := Ed.out; have z109 := jW fK.out; obtain ⟨afs, aft, auY⟩ := Kd.aV gQ.out; subst auY; obtain ⟨afu, afv, auZ⟩ := Kd.aV iD.out; subst auZ) | (refine gL 57 9 Tryz.func57 #[.pointer (some ⟨g, 0, none⟩), .int .i64 20] ?_; (with_reducible refine (cZ.calls w0 ?fU ?iW A4.out).mono ?_); (case fU => exact oZ); (case iW => exact o7); rintro e aIP ⟨rfl, hi, hb, hk⟩; refine ⟨_, rfl, ?_⟩; replace dU := kd_ dU #[.slice zK vV.length zH, .slice zq u_.length zI, .slice zL vW.length zJ] hk rU; replace fJ := kd_ fJ #[.slice none 0 0, .slice none 0 0, .slice none 0 0] hk rV; replace ig := ki (w0 := w0) (f0 := eY) (f1 := kE) ig hk; replace gQ := ki (w0 := w0) (f0 := eY) (f1 := kE) gQ hk; replace iD := ak (Kd.bn (Kd.IL (aK.apart (show aK w0 _ g eY kE from oZ) (ur (Kd.bn (Kd.lS (p := ⟨kG, 2, none⟩) (Kd.lS (p := ⟨kG, 1, none⟩) (Kd.lS (p := ⟨kG, 0, none⟩) (Kd.bn iD.out (fun k_ hk => (⟨hk, hk.2⟩ : _ ∧ k_ ≠ kG))) (fun _ hk => hk.2) (.slice afq tC.length afr)) (fun _ hk => hk.2) (.slice afs rQ.length aft)) (fun _ hk => hk.2) (.slice afu uO.length afv)) (fun _ h_ => h_.1))) (by decide)) hk (fun _ h => h.2)) (fun _ h => h.1)); replace fK := kd_ fK #[.slice afq tC.length afr, .slice afs rQ.length aft, .slice afu uO.length afv] hk rW; replace HK := kt HK hk; replace HB := ak (hb); replace HI0 := ak (hi); clear hb; (try clear hk); (try clear hi); have aIQ := jW fK.out; have aAV := rV.out; have aAW := Ec.out; have aIR := jW fJ.out))
    refine bodyPost_ret (results_cell_row rfl _ _ uI 28 #[.slice afq tC.length afr, .slice afs rQ.length aft, .slice afu uO.length afv] (0, 0) _ rfl bq Tryz.underlying28 rfl (by kernel_rfl)) rfl ?_
    exact ⟨_, _, _, er, rr, rr, rr, oZ, o7, kh HK.out⟩
end Go.Proofs.YtncdadcmghglkaaGreatDoor.PFnKidValid
